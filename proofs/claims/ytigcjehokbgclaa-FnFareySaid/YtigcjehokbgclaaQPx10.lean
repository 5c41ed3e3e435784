-- By this session's driver (wip/tools/mk.py) of the kit's print program, over several statements at once. Not trusted: Lean checks it.
import Derived.Test.YtigcjehokbgclaaQWZip
import Derived.Test.YtigcjehokbgclaaQPx0
import Derived.Test.YtigcjehokbgclaaQPx2
import Derived.Test.YtigcjehokbgclaaQPx5
import Derived.Test.YtigcjehokbgclaaQPx7
import Derived.Test.YtigcjehokbgclaaQPx9
namespace Go.Proofs.Ytigcjehokbgclaa.P
open Go.RowKit Go.Proofs.YtigcjehokbgclaaW.PrintWords Go.Proofs.YtigcjehokbgclaaW.PrintLast Go.Proofs.YtigcjehokbgclaaW.PrintMore
attribute [local go_sem] max2_int min2_int max_two min_two max_three min_three max_four min_four   -- for this text's walks alone
set_option linter.unusedVariables false
set_option linter.unusedSimpArgs false
theorem bw_10 {n : Nat} {v v' : World} (h : Below n v v' := by repeat (first | (with_reducible first | exact HB.out | apply bwA | apply pbN | apply bwD | refine bwS ?_ GE277.out | refine bwS ?_ GE278.out | refine bwS ?_ GE282.out | refine bwS ?_ GE284.out | refine bwS ?_ GE293.out | refine bwS ?_ GE294.out | refine bwS ?_ GE299.out | refine bwS ?_ GE303.out) | exact HB.out)) : Below n v v' := h
theorem ln_10 {P : Prop} (h : P := by (try simp only [List.map_toArray, List.map_cons, List.map_nil]); first | done | rfl | (simp only [List.length_drop, List.length_take]; rfl)) : P := h
open Option renaming bind_eq_some_iff → be
theorem z10_0 {p : Prop} (h : p := by (with_reducible repeat first | apply bkN | apply bkD | apply bkA); refine bkp (cs := #[.int .i64 (wrap64 (-(wrap64 (Int.tdiv a0 t283)))), .int .i64 0]) ?_ 1 _ rfl; (with_reducible repeat first | apply bkN | apply bkD | apply bkA); refine bkp (cs := #[.int .i64 0, .int .i64 0]) ?_ 0 _ rfl; (with_reducible repeat first | apply bkN | apply bkD | apply bkA); exact BK282.out) : p := h

/-! ### impl_CrossNumber: function 34 -/
def impl_CrossNumber.f (k : Nat) (a0_0 : Int) (a0_1 : Int) (a1_0 : Int) (a1_1 : Int) : Option (Int) := (impl_IsSlope.f k a0_0 a0_1).bind fun t279 => (if t279 = true then ((impl_IsSlope.f k a1_0 a1_1).bind fun t280 => (if t280 = true then ((impl_cross.f a0_0 a0_1 a1_0 a1_1).bind fun t281 => (some t281)) else (some (-1)))) else (some (-1)))
theorem impl_CrossNumber.mono : ∀ a0 a1 a2 a3 k, LeO (impl_CrossNumber.f k a0 a1 a2 a3) (impl_CrossNumber.f (k + 1) a0 a1 a2 a3) := by
 intro a0 a1 a2 a3 k
 unfold impl_CrossNumber.f
 exact mo_
instance impl_CrossNumber.mi {a0 a1 a2 a3 k} : MoO (impl_CrossNumber.f k a0 a1 a2 a3) (impl_CrossNumber.f (k + 1) a0 a1 a2 a3) := ⟨impl_CrossNumber.mono _ _ _ _ _⟩
set_option maxHeartbeats 8000000 in
set_option maxRecDepth 100000 in
theorem impl_CrossNumber.calls (k : Nat) (a0_0 : Int) (a0_1 : Int) (a1_0 : Int) (a1_1 : Int) (r : Int) (w : World) (h : impl_CrossNumber.f k a0_0 a0_1 a1_0 a1_1 = some r) :
  Calls Try.prog 34 #[.agg #[.int .i64 a0_0, .int .i64 a0_1], .agg #[.int .i64 a1_0, .int .i64 a1_1]] w fun e w' => e = .returned (.int .i64 r) ∧ Below w.heap.size w w' := by
 have hu25 := Try.underlying25
 have HB := Az.mk (Below.refl w.heap.size w)
 have H : ((impl_IsSlope.f k a0_0 a0_1).bind fun t279 => (if t279 = true then ((impl_IsSlope.f k a1_0 a1_1).bind fun t280 => (if t280 = true then ((impl_cross.f a0_0 a0_1 a1_0 a1_1).bind fun t281 => (some t281)) else (some (-1)))) else (some (-1)))) = some r := h
 clear h
 replace H := bez H
 obtain ⟨t279, A3, H⟩ := H
 try dsimp only at H
 by_cases c4 : t279 = true
 rotate_left
 ·replace c4 := Bool.eq_false_iff.mpr c4
  subst c4
  rw [if_neg (show ¬ (false = true) by decide)] at H
  obtain rfl := Option.some.inj H
  go_enter Try.func34, Try.ntmps34
  go_wp2_with (first | ((with_reducible refine gtD (N := 2) rfl ?_); refine bx (N := 2) (cs := #[.int .i64 a0_0, .int .i64 a0_1]) (t := 25) ?_; intro gb277 hg w25 hbox hb; have BK277 := Az.mk (hbox); have GW277 := gwz hg bw_10; have GE277 := gwz hg bw_10; replace HB := Az.mk (bwT bw_10 hb); clear hb hbox hg) | ((with_reducible refine gtD (N := 3) rfl ?_); refine bx (N := 3) (cs := #[.int .i64 a1_0, .int .i64 a1_1]) (t := 25) ?_; intro gb278 hg w26 hbox hb; have BK278 := Az.mk (hbox); have GW278 := gwz hg bw_10; have GE278 := gwz hg bw_10; replace HB := Az.mk (bwT bw_10 hb); have NB277_278 := nlt BK277 hg; have NB278_277 := ngt BK277 hg; replace BK277 := bkz BK277 hb; clear hb hbox hg; have hnb27 := NB277_278.out; have hnc27 := NB278_277.out; obtain ⟨hcz28_0, hcz28_1, hfz28_0, hfz28_1⟩ := bq2 BK277) | ((with_reducible refine gtC (f := 27) rfl ?_); refine clz Try.func27 (some 6) #[.agg #[.int .i64 a0_0, .int .i64 a0_1]] ?_; (with_reducible refine (impl_IsSlope.calls k a0_0 a0_1 false _ A3.out).mono ?_); rintro e w29 ⟨rfl, hb⟩; refine ⟨_, rfl, ?_⟩; replace BK277 := bkz BK277 hb; replace BK278 := bkz BK278 hb; replace HB := Az.mk (bwT bw_10 hb); (try clear hb)))
  go_ret
  exact ⟨rq1, bw_10⟩
 subst c4
 rw [if_pos rfl] at H
 replace H := bez H
 obtain ⟨t280, A5, H⟩ := H
 try dsimp only at H
 by_cases c6 : t280 = true
 rotate_left
 ·replace c6 := Bool.eq_false_iff.mpr c6
  subst c6
  rw [if_neg (show ¬ (false = true) by decide)] at H
  obtain rfl := Option.some.inj H
  go_enter Try.func34, Try.ntmps34
  go_wp2_with (first | ((with_reducible refine gtD (N := 2) rfl ?_); refine bx (N := 2) (cs := #[.int .i64 a0_0, .int .i64 a0_1]) (t := 25) ?_; intro gb277 hg w18 hbox hb; have BK277 := Az.mk (hbox); have GW277 := gwz hg bw_10; have GE277 := gwz hg bw_10; replace HB := Az.mk (bwT bw_10 hb); clear hb hbox hg) | ((with_reducible refine gtD (N := 3) rfl ?_); refine bx (N := 3) (cs := #[.int .i64 a1_0, .int .i64 a1_1]) (t := 25) ?_; intro gb278 hg w19 hbox hb; have BK278 := Az.mk (hbox); have GW278 := gwz hg bw_10; have GE278 := gwz hg bw_10; replace HB := Az.mk (bwT bw_10 hb); have NB277_278 := nlt BK277 hg; have NB278_277 := ngt BK277 hg; replace BK277 := bkz BK277 hb; clear hb hbox hg; have hnb20 := NB277_278.out; have hnc20 := NB278_277.out; obtain ⟨hcz21_0, hcz21_1, hfz21_0, hfz21_1⟩ := bq2 BK277) | ((with_reducible refine gtC (f := 27) rfl ?_); refine clz Try.func27 (some 6) #[.agg #[.int .i64 a0_0, .int .i64 a0_1]] ?_; (with_reducible refine (impl_IsSlope.calls k a0_0 a0_1 true _ A3.out).mono ?_); rintro e w22 ⟨rfl, hb⟩; refine ⟨_, rfl, ?_⟩; replace BK277 := bkz BK277 hb; replace BK278 := bkz BK278 hb; replace HB := Az.mk (bwT bw_10 hb); (try clear hb); obtain ⟨hcz23_0, hcz23_1, hfz23_0, hfz23_1⟩ := bq2 BK278) | (go_at_call 27; (with_reducible refine (impl_IsSlope.calls k a1_0 a1_1 false _ A5.out).mono ?_); rintro e w24 ⟨rfl, hb⟩; replace BK277 := bkz BK277 hb; replace BK278 := bkz BK278 hb; replace HB := Az.mk (bwT bw_10 hb); (try clear hb)))
  go_ret
  exact ⟨rq1, bw_10⟩
 subst c6
 rw [if_pos rfl] at H
 replace H := bez H
 obtain ⟨t281, A7, H⟩ := H
 replace H : (some t281) = some r := H
 obtain rfl := Option.some.inj H
 go_enter Try.func34, Try.ntmps34
 go_wp2_with (first | ((with_reducible refine gtD (N := 2) rfl ?_); refine bx (N := 2) (cs := #[.int .i64 a0_0, .int .i64 a0_1]) (t := 25) ?_; intro gb277 hg w8 hbox hb; have BK277 := Az.mk (hbox); have GW277 := gwz hg bw_10; have GE277 := gwz hg bw_10; replace HB := Az.mk (bwT bw_10 hb); clear hb hbox hg) | ((with_reducible refine gtD (N := 3) rfl ?_); refine bx (N := 3) (cs := #[.int .i64 a1_0, .int .i64 a1_1]) (t := 25) ?_; intro gb278 hg w9 hbox hb; have BK278 := Az.mk (hbox); have GW278 := gwz hg bw_10; have GE278 := gwz hg bw_10; replace HB := Az.mk (bwT bw_10 hb); have NB277_278 := nlt BK277 hg; have NB278_277 := ngt BK277 hg; replace BK277 := bkz BK277 hb; clear hb hbox hg; have hnb10 := NB277_278.out; have hnc10 := NB278_277.out; obtain ⟨hcz11_0, hcz11_1, hfz11_0, hfz11_1⟩ := bq2 BK277) | ((with_reducible refine gtC (f := 27) rfl ?_); refine clz Try.func27 (some 6) #[.agg #[.int .i64 a0_0, .int .i64 a0_1]] ?_; (with_reducible refine (impl_IsSlope.calls k a0_0 a0_1 true _ A3.out).mono ?_); rintro e w12 ⟨rfl, hb⟩; refine ⟨_, rfl, ?_⟩; replace BK277 := bkz BK277 hb; replace BK278 := bkz BK278 hb; replace HB := Az.mk (bwT bw_10 hb); (try clear hb); obtain ⟨hcz13_0, hcz13_1, hfz13_0, hfz13_1⟩ := bq2 BK278) | (go_at_call 27; (with_reducible refine (impl_IsSlope.calls k a1_0 a1_1 true _ A5.out).mono ?_); rintro e w14 ⟨rfl, hb⟩; replace BK277 := bkz BK277 hb; replace BK278 := bkz BK278 hb; replace HB := Az.mk (bwT bw_10 hb); (try clear hb); obtain ⟨hcz15_0, hcz15_1, hfz15_0, hfz15_1⟩ := bq2 BK277; obtain ⟨hcz16_0, hcz16_1, hfz16_0, hfz16_1⟩ := bq2 BK278) | ((with_reducible refine gtC (f := 56) rfl ?_); refine clz Try.func56 (some 15) #[.agg #[.int .i64 a0_0, .int .i64 a0_1], .agg #[.int .i64 a1_0, .int .i64 a1_1]] ?_; (with_reducible refine (impl_cross.calls a0_0 a0_1 a1_0 a1_1 t281 _ A7.out).mono ?_); rintro e w17 ⟨rfl, hb⟩; refine ⟨_, rfl, ?_⟩; replace BK277 := bkz BK277 hb; replace BK278 := bkz BK278 hb; replace HB := Az.mk (bwT bw_10 hb); (try clear hb)))
 go_ret
 exact ⟨rq1, bw_10⟩

/-! ### impl_lowest: function 57 -/
def impl_lowest.f (k : Nat) (a0 : Int) (a1 : Int) : Option (Int × Int) := (impl_gcd.f k a0 a1).bind fun t283 => (if t283 = 0 then (none) else (if (wrap64 (Int.tdiv a1 t283)) < 0 then (some (wrap64 (-(wrap64 (Int.tdiv a0 t283))), wrap64 (-(wrap64 (Int.tdiv a1 t283))))) else (if (wrap64 (Int.tdiv a1 t283)) = 0 then (if (wrap64 (Int.tdiv a0 t283)) < 0 then (some (wrap64 (-(wrap64 (Int.tdiv a0 t283))), wrap64 (-(wrap64 (Int.tdiv a1 t283))))) else (some (wrap64 (Int.tdiv a0 t283), wrap64 (Int.tdiv a1 t283)))) else (some (wrap64 (Int.tdiv a0 t283), wrap64 (Int.tdiv a1 t283))))))
theorem impl_lowest.mono : ∀ a0 a1 k, LeO (impl_lowest.f k a0 a1) (impl_lowest.f (k + 1) a0 a1) := by
 intro a0 a1 k
 unfold impl_lowest.f
 exact mo_
instance impl_lowest.mi {a0 a1 k} : MoO (impl_lowest.f k a0 a1) (impl_lowest.f (k + 1) a0 a1) := ⟨impl_lowest.mono _ _ _⟩
set_option maxHeartbeats 8000000 in
set_option maxRecDepth 100000 in
theorem impl_lowest.calls (k : Nat) (a0 : Int) (a1 : Int) (r1 : Int) (r2 : Int) (w : World) (h : impl_lowest.f k a0 a1 = some (r1, r2)) :
  Calls Try.prog 57 #[.int .i64 a0, .int .i64 a1] w fun e w' => e = .returned (.agg #[.int .i64 r1, .int .i64 r2]) ∧ Below w.heap.size w w' := by
 have hu25 := Try.underlying25
 have HB := Az.mk (Below.refl w.heap.size w)
 have H : ((impl_gcd.f k a0 a1).bind fun t283 => (if t283 = 0 then (none) else (if (wrap64 (Int.tdiv a1 t283)) < 0 then (some (wrap64 (-(wrap64 (Int.tdiv a0 t283))), wrap64 (-(wrap64 (Int.tdiv a1 t283))))) else (if (wrap64 (Int.tdiv a1 t283)) = 0 then (if (wrap64 (Int.tdiv a0 t283)) < 0 then (some (wrap64 (-(wrap64 (Int.tdiv a0 t283))), wrap64 (-(wrap64 (Int.tdiv a1 t283))))) else (some (wrap64 (Int.tdiv a0 t283), wrap64 (Int.tdiv a1 t283)))) else (some (wrap64 (Int.tdiv a0 t283), wrap64 (Int.tdiv a1 t283))))))) = some (r1, r2) := h
 clear h
 replace H := bez H
 obtain ⟨t283, A3, H⟩ := H
 try dsimp only at H
 by_cases c4 : t283 = 0
 ·rw [if_pos c4] at H
  exact absurd H (by simp)
 rw [if_neg c4] at H
 have c4b0 : (t283 == 0) = false := beq_eq_false_iff_ne.mpr c4
 have c4b1 : (t283 != 0) = true := bne_iff_ne.mpr c4
 by_cases c5 : (wrap64 (Int.tdiv a1 t283)) < 0
 ·rw [if_pos c5] at H
  have c5b0 : decide ((wrap64 (Int.tdiv a1 t283)) < 0) = true := decide_eq_true c5
  clear c5
  simp only [Option.some.injEq, Prod.mk.injEq] at H
  obtain ⟨rfl, rfl⟩ := H
  go_enter Try.func57, Try.ntmps57
  go_wp2_with (first | ((with_reducible refine gtD (N := 4) rfl ?_); refine bx (N := 4) (cs := #[.int .i64 0, .int .i64 0]) (t := 25) ?_; intro gb282 hg w6 hbox hb; have BK282 := Az.mk (hbox); have GW282 := gwz hg bw_10; have GE282 := gwz hg bw_10; replace HB := Az.mk (bwT bw_10 hb); clear hb hbox hg) | (go_at_call 52; (with_reducible refine (impl_gcd.calls k a0 a1 t283 _ A3.out).mono ?_); rintro e w7 ⟨rfl, hb⟩; replace BK282 := bkz BK282 hb; replace HB := Az.mk (bwT bw_10 hb); (try clear hb); obtain ⟨hcz8_0, hcz8_1, hfz8_0, hfz8_1⟩ := bq2 BK282))
  repeat (go_quiet (fail); try go_wp2_with (first | ((with_reducible refine gtD (N := 4) rfl ?_); refine bx (N := 4) (cs := #[.int .i64 0, .int .i64 0]) (t := 25) ?_; intro gb282 hg w6 hbox hb; have BK282 := Az.mk (hbox); have GW282 := gwz hg bw_10; have GE282 := gwz hg bw_10; replace HB := Az.mk (bwT bw_10 hb); clear hb hbox hg) | (go_at_call 52; (with_reducible refine (impl_gcd.calls k a0 a1 t283 _ A3.out).mono ?_); rintro e w7 ⟨rfl, hb⟩; replace BK282 := bkz BK282 hb; replace HB := Az.mk (bwT bw_10 hb); (try clear hb); obtain ⟨hcz8_0, hcz8_1, hfz8_0, hfz8_1⟩ := bq2 BK282)))
  refine bodyPost_ret (results_cell_row rfl _ _ gb282 25 #[.int .i64 (wrap64 (-(wrap64 (Int.tdiv a0 t283)))), .int .i64 (wrap64 (-(wrap64 (Int.tdiv a1 t283))))] (0, 0) _ rfl z10_0 Try.underlying25 rfl (by kernel_rfl)) rfl ?_
  exact ⟨rq1, bw_10⟩
 rw [if_neg c5] at H
 have c5b0 : decide ((wrap64 (Int.tdiv a1 t283)) < 0) = false := decide_eq_false c5
 clear c5
 by_cases c9 : (wrap64 (Int.tdiv a1 t283)) = 0
 rotate_left
 ·rw [if_neg c9] at H
  have c9b0 : ((wrap64 (Int.tdiv a1 t283)) == 0) = false := beq_eq_false_iff_ne.mpr c9
  have c9b1 : ((wrap64 (Int.tdiv a1 t283)) != 0) = true := bne_iff_ne.mpr c9
  simp only [Option.some.injEq, Prod.mk.injEq] at H
  obtain ⟨rfl, rfl⟩ := H
  go_enter Try.func57, Try.ntmps57
  go_wp2_with (first | ((with_reducible refine gtD (N := 4) rfl ?_); refine bx (N := 4) (cs := #[.int .i64 0, .int .i64 0]) (t := 25) ?_; intro gb282 hg w17 hbox hb; have BK282 := Az.mk (hbox); have GW282 := gwz hg bw_10; have GE282 := gwz hg bw_10; replace HB := Az.mk (bwT bw_10 hb); clear hb hbox hg) | (go_at_call 52; (with_reducible refine (impl_gcd.calls k a0 a1 t283 _ A3.out).mono ?_); rintro e w18 ⟨rfl, hb⟩; replace BK282 := bkz BK282 hb; replace HB := Az.mk (bwT bw_10 hb); (try clear hb); obtain ⟨hcz19_0, hcz19_1, hfz19_0, hfz19_1⟩ := bq2 BK282))
  repeat (go_quiet (fail); try go_wp2_with (first | ((with_reducible refine gtD (N := 4) rfl ?_); refine bx (N := 4) (cs := #[.int .i64 0, .int .i64 0]) (t := 25) ?_; intro gb282 hg w17 hbox hb; have BK282 := Az.mk (hbox); have GW282 := gwz hg bw_10; have GE282 := gwz hg bw_10; replace HB := Az.mk (bwT bw_10 hb); clear hb hbox hg) | (go_at_call 52; (with_reducible refine (impl_gcd.calls k a0 a1 t283 _ A3.out).mono ?_); rintro e w18 ⟨rfl, hb⟩; replace BK282 := bkz BK282 hb; replace HB := Az.mk (bwT bw_10 hb); (try clear hb); obtain ⟨hcz19_0, hcz19_1, hfz19_0, hfz19_1⟩ := bq2 BK282)))
  refine bodyPost_ret (results_cell_row rfl _ _ gb282 25 #[.int .i64 (wrap64 (Int.tdiv a0 t283)), .int .i64 (wrap64 (Int.tdiv a1 t283))] (0, 0) _ rfl bkv Try.underlying25 rfl (by kernel_rfl)) rfl ?_
  exact ⟨rq1, bw_10⟩
 rw [if_pos c9] at H
 have c9b0 : ((wrap64 (Int.tdiv a1 t283)) == 0) = true := beq_iff_eq.mpr c9
 have c9b1 : ((wrap64 (Int.tdiv a1 t283)) != 0) = false := bne_eq_false_iff_eq.mpr c9
 clear c9
 by_cases c10 : (wrap64 (Int.tdiv a0 t283)) < 0
 ·rw [if_pos c10] at H
  have c10b0 : decide ((wrap64 (Int.tdiv a0 t283)) < 0) = true := decide_eq_true c10
  clear c10
  simp only [Option.some.injEq, Prod.mk.injEq] at H
  obtain ⟨rfl, rfl⟩ := H
  go_enter Try.func57, Try.ntmps57
  go_wp2_with (first | ((with_reducible refine gtD (N := 4) rfl ?_); refine bx (N := 4) (cs := #[.int .i64 0, .int .i64 0]) (t := 25) ?_; intro gb282 hg w11 hbox hb; have BK282 := Az.mk (hbox); have GW282 := gwz hg bw_10; have GE282 := gwz hg bw_10; replace HB := Az.mk (bwT bw_10 hb); clear hb hbox hg) | (go_at_call 52; (with_reducible refine (impl_gcd.calls k a0 a1 t283 _ A3.out).mono ?_); rintro e w12 ⟨rfl, hb⟩; replace BK282 := bkz BK282 hb; replace HB := Az.mk (bwT bw_10 hb); (try clear hb); obtain ⟨hcz13_0, hcz13_1, hfz13_0, hfz13_1⟩ := bq2 BK282))
  repeat (go_quiet (fail); try go_wp2_with (first | ((with_reducible refine gtD (N := 4) rfl ?_); refine bx (N := 4) (cs := #[.int .i64 0, .int .i64 0]) (t := 25) ?_; intro gb282 hg w11 hbox hb; have BK282 := Az.mk (hbox); have GW282 := gwz hg bw_10; have GE282 := gwz hg bw_10; replace HB := Az.mk (bwT bw_10 hb); clear hb hbox hg) | (go_at_call 52; (with_reducible refine (impl_gcd.calls k a0 a1 t283 _ A3.out).mono ?_); rintro e w12 ⟨rfl, hb⟩; replace BK282 := bkz BK282 hb; replace HB := Az.mk (bwT bw_10 hb); (try clear hb); obtain ⟨hcz13_0, hcz13_1, hfz13_0, hfz13_1⟩ := bq2 BK282)))
  refine bodyPost_ret (results_cell_row rfl _ _ gb282 25 #[.int .i64 (wrap64 (-(wrap64 (Int.tdiv a0 t283)))), .int .i64 (wrap64 (-(wrap64 (Int.tdiv a1 t283))))] (0, 0) _ rfl z10_0 Try.underlying25 rfl (by kernel_rfl)) rfl ?_
  exact ⟨rq1, bw_10⟩
 rw [if_neg c10] at H
 have c10b0 : decide ((wrap64 (Int.tdiv a0 t283)) < 0) = false := decide_eq_false c10
 clear c10
 simp only [Option.some.injEq, Prod.mk.injEq] at H
 obtain ⟨rfl, rfl⟩ := H
 go_enter Try.func57, Try.ntmps57
 go_wp2_with (first | ((with_reducible refine gtD (N := 4) rfl ?_); refine bx (N := 4) (cs := #[.int .i64 0, .int .i64 0]) (t := 25) ?_; intro gb282 hg w14 hbox hb; have BK282 := Az.mk (hbox); have GW282 := gwz hg bw_10; have GE282 := gwz hg bw_10; replace HB := Az.mk (bwT bw_10 hb); clear hb hbox hg) | (go_at_call 52; (with_reducible refine (impl_gcd.calls k a0 a1 t283 _ A3.out).mono ?_); rintro e w15 ⟨rfl, hb⟩; replace BK282 := bkz BK282 hb; replace HB := Az.mk (bwT bw_10 hb); (try clear hb); obtain ⟨hcz16_0, hcz16_1, hfz16_0, hfz16_1⟩ := bq2 BK282))
 repeat (go_quiet (fail); try go_wp2_with (first | ((with_reducible refine gtD (N := 4) rfl ?_); refine bx (N := 4) (cs := #[.int .i64 0, .int .i64 0]) (t := 25) ?_; intro gb282 hg w14 hbox hb; have BK282 := Az.mk (hbox); have GW282 := gwz hg bw_10; have GE282 := gwz hg bw_10; replace HB := Az.mk (bwT bw_10 hb); clear hb hbox hg) | (go_at_call 52; (with_reducible refine (impl_gcd.calls k a0 a1 t283 _ A3.out).mono ?_); rintro e w15 ⟨rfl, hb⟩; replace BK282 := bkz BK282 hb; replace HB := Az.mk (bwT bw_10 hb); (try clear hb); obtain ⟨hcz16_0, hcz16_1, hfz16_0, hfz16_1⟩ := bq2 BK282)))
 refine bodyPost_ret (results_cell_row rfl _ _ gb282 25 #[.int .i64 (wrap64 (Int.tdiv a0 t283)), .int .i64 (wrap64 (Int.tdiv a1 t283))] (0, 0) _ rfl bkv Try.underlying25 rfl (by kernel_rfl)) rfl ?_
 exact ⟨rq1, bw_10⟩

/-! ### impl_SlopeOf: function 35 -/
def impl_SlopeOf.f (k : Nat) (a0 : Int) (a1 : Int) : Option (Int × Int × Bool) := if a0 = 0 then (if a1 = 0 then (some (0, 0, false)) else ((impl_within.f a0 (-1000) 1000).bind fun t285 => (if t285 = true then ((impl_within.f a1 (-1000) 1000).bind fun t286 => (if t286 = true then ((impl_lowest.f k a0 a1).bind fun bt287 => (some (bt287.1, bt287.2, true))) else (some (0, 0, false)))) else (some (0, 0, false))))) else ((impl_within.f a0 (-1000) 1000).bind fun t289 => (if t289 = true then ((impl_within.f a1 (-1000) 1000).bind fun t290 => (if t290 = true then ((impl_lowest.f k a0 a1).bind fun bt291 => (some (bt291.1, bt291.2, true))) else (some (0, 0, false)))) else (some (0, 0, false))))
theorem impl_SlopeOf.mono : ∀ a0 a1 k, LeO (impl_SlopeOf.f k a0 a1) (impl_SlopeOf.f (k + 1) a0 a1) := by
 intro a0 a1 k
 unfold impl_SlopeOf.f
 exact mo_
instance impl_SlopeOf.mi {a0 a1 k} : MoO (impl_SlopeOf.f k a0 a1) (impl_SlopeOf.f (k + 1) a0 a1) := ⟨impl_SlopeOf.mono _ _ _⟩
set_option maxHeartbeats 8000000 in
set_option maxRecDepth 100000 in
theorem impl_SlopeOf.calls (k : Nat) (a0 : Int) (a1 : Int) (r1 : Int) (r2 : Int) (r3 : Bool) (w : World) (h : impl_SlopeOf.f k a0 a1 = some (r1, r2, r3)) :
  Calls Try.prog 35 #[.int .i64 a0, .int .i64 a1] w fun e w' => e = .returned (.tuple #[.agg #[.int .i64 r1, .int .i64 r2], .bool r3]) ∧ Below w.heap.size w w' := by
 have hu25 := Try.underlying25
 have HB := Az.mk (Below.refl w.heap.size w)
 have H : (if a0 = 0 then (if a1 = 0 then (some (0, 0, false)) else ((impl_within.f a0 (-1000) 1000).bind fun t285 => (if t285 = true then ((impl_within.f a1 (-1000) 1000).bind fun t286 => (if t286 = true then ((impl_lowest.f k a0 a1).bind fun bt287 => (some (bt287.1, bt287.2, true))) else (some (0, 0, false)))) else (some (0, 0, false))))) else ((impl_within.f a0 (-1000) 1000).bind fun t289 => (if t289 = true then ((impl_within.f a1 (-1000) 1000).bind fun t290 => (if t290 = true then ((impl_lowest.f k a0 a1).bind fun bt291 => (some (bt291.1, bt291.2, true))) else (some (0, 0, false)))) else (some (0, 0, false))))) = some (r1, r2, r3) := h
 clear h
 by_cases c3 : a0 = 0
 rotate_left
 ·rw [if_neg c3] at H
  have c3b0 : (a0 == 0) = false := beq_eq_false_iff_ne.mpr c3
  have c3b1 : (a0 != 0) = true := bne_iff_ne.mpr c3
  replace H := bez H
  obtain ⟨t289, A19, H⟩ := H
  try dsimp only at H
  by_cases c20 : t289 = true
  rotate_left
  ·replace c20 := Bool.eq_false_iff.mpr c20
   subst c20
   rw [if_neg (show ¬ (false = true) by decide)] at H
   simp only [Option.some.injEq, Prod.mk.injEq] at H
   obtain ⟨rfl, rfl, rfl⟩ := H
   go_enter Try.func35, Try.ntmps35
   go_wp2_with (first | ((with_reducible refine gtD (N := 4) rfl ?_); refine bx (N := 4) (cs := #[.int .i64 0, .int .i64 0]) (t := 25) ?_; intro gb284 hg w29 hbox hb; have BK284 := Az.mk (hbox); have GW284 := gwz hg bw_10; have GE284 := gwz hg bw_10; replace HB := Az.mk (bwT bw_10 hb); clear hb hbox hg) | (go_at_call 32; (with_reducible refine (impl_within.calls a0 (-1000) 1000 false _ A19.out).mono ?_); rintro e w' ⟨rfl, ⟨nd, rfl⟩⟩; (try (rw [drewN_self w29]; generalize hq_ : World.drewN w29 _ = w29; have n0_ : Az (w29.heap[gb284]? = some (.cells #[.int .i64 0, .int .i64 0] 25 (0, 0))) := ⟨by rw [← hq_]; exact (bk1 BK284)⟩; have n1_ : Az (Below w.heap.size w w29) := ⟨by rw [← hq_]; exact bw_10⟩; clear BK284 HB hq_; have BK284 := n0_; have HB := n1_; clear n0_ n1_)); obtain ⟨hcz30_0, hcz30_1, hfz30_0, hfz30_1⟩ := bq2 BK284))
   refine bodyPost_ret (results_ct rfl _ _ gb284 25 #[.int .i64 0, .int .i64 0] (0, 0) _ rfl bkv Try.underlying25 rfl (by kernel_rfl)) rfl ?_
   exact ⟨rq1, bw_10⟩
  subst c20
  rw [if_pos rfl] at H
  replace H := bez H
  obtain ⟨t290, A21, H⟩ := H
  try dsimp only at H
  by_cases c22 : t290 = true
  rotate_left
  ·replace c22 := Bool.eq_false_iff.mpr c22
   subst c22
   rw [if_neg (show ¬ (false = true) by decide)] at H
   simp only [Option.some.injEq, Prod.mk.injEq] at H
   obtain ⟨rfl, rfl, rfl⟩ := H
   go_enter Try.func35, Try.ntmps35
   go_wp2_with (first | ((with_reducible refine gtD (N := 4) rfl ?_); refine bx (N := 4) (cs := #[.int .i64 0, .int .i64 0]) (t := 25) ?_; intro gb284 hg w27 hbox hb; have BK284 := Az.mk (hbox); have GW284 := gwz hg bw_10; have GE284 := gwz hg bw_10; replace HB := Az.mk (bwT bw_10 hb); clear hb hbox hg) | (go_at_call 32; (with_reducible refine (impl_within.calls a0 (-1000) 1000 true _ A19.out).mono ?_); rintro e w' ⟨rfl, ⟨nd, rfl⟩⟩; (try (rw [drewN_self w27]; generalize hq_ : World.drewN w27 _ = w27; have n0_ : Az (w27.heap[gb284]? = some (.cells #[.int .i64 0, .int .i64 0] 25 (0, 0))) := ⟨by rw [← hq_]; exact (bk1 BK284)⟩; have n1_ : Az (Below w.heap.size w w27) := ⟨by rw [← hq_]; exact bw_10⟩; clear BK284 HB hq_; have BK284 := n0_; have HB := n1_; clear n0_ n1_))) | (go_at_call 32; (with_reducible refine (impl_within.calls a1 (-1000) 1000 false _ A21.out).mono ?_); rintro e w' ⟨rfl, ⟨nd, rfl⟩⟩; (try (rw [drewN_self w27]; generalize hq_ : World.drewN w27 _ = w27; have n0_ : Az (w27.heap[gb284]? = some (.cells #[.int .i64 0, .int .i64 0] 25 (0, 0))) := ⟨by rw [← hq_]; exact (bk1 BK284)⟩; have n1_ : Az (Below w.heap.size w w27) := ⟨by rw [← hq_]; exact bw_10⟩; clear BK284 HB hq_; have BK284 := n0_; have HB := n1_; clear n0_ n1_)); obtain ⟨hcz28_0, hcz28_1, hfz28_0, hfz28_1⟩ := bq2 BK284))
   refine bodyPost_ret (results_ct rfl _ _ gb284 25 #[.int .i64 0, .int .i64 0] (0, 0) _ rfl bkv Try.underlying25 rfl (by kernel_rfl)) rfl ?_
   exact ⟨rq1, bw_10⟩
  subst c22
  rw [if_pos rfl] at H
  replace H := bez H
  obtain ⟨⟨t291, t292⟩, A23, H⟩ := H
  try dsimp only at H
  simp only [Option.some.injEq, Prod.mk.injEq] at H
  obtain ⟨rfl, rfl, rfl⟩ := H
  go_enter Try.func35, Try.ntmps35
  go_wp2_with (first | ((with_reducible refine gtD (N := 4) rfl ?_); refine bx (N := 4) (cs := #[.int .i64 0, .int .i64 0]) (t := 25) ?_; intro gb284 hg w24 hbox hb; have BK284 := Az.mk (hbox); have GW284 := gwz hg bw_10; have GE284 := gwz hg bw_10; replace HB := Az.mk (bwT bw_10 hb); clear hb hbox hg) | (go_at_call 32; (with_reducible refine (impl_within.calls a0 (-1000) 1000 true _ A19.out).mono ?_); rintro e w' ⟨rfl, ⟨nd, rfl⟩⟩; (try (rw [drewN_self w24]; generalize hq_ : World.drewN w24 _ = w24; have n0_ : Az (w24.heap[gb284]? = some (.cells #[.int .i64 0, .int .i64 0] 25 (0, 0))) := ⟨by rw [← hq_]; exact (bk1 BK284)⟩; have n1_ : Az (Below w.heap.size w w24) := ⟨by rw [← hq_]; exact bw_10⟩; clear BK284 HB hq_; have BK284 := n0_; have HB := n1_; clear n0_ n1_))) | (go_at_call 32; (with_reducible refine (impl_within.calls a1 (-1000) 1000 true _ A21.out).mono ?_); rintro e w' ⟨rfl, ⟨nd, rfl⟩⟩; (try (rw [drewN_self w24]; generalize hq_ : World.drewN w24 _ = w24; have n0_ : Az (w24.heap[gb284]? = some (.cells #[.int .i64 0, .int .i64 0] 25 (0, 0))) := ⟨by rw [← hq_]; exact (bk1 BK284)⟩; have n1_ : Az (Below w.heap.size w w24) := ⟨by rw [← hq_]; exact bw_10⟩; clear BK284 HB hq_; have BK284 := n0_; have HB := n1_; clear n0_ n1_))) | ((with_reducible refine gtC (f := 57) rfl ?_); refine clz Try.func57 (some 25) #[.int .i64 a0, .int .i64 a1] ?_; (with_reducible refine (impl_lowest.calls k a0 a1 t291 t292 _ A23.out).mono ?_); rintro e w25 ⟨rfl, hb⟩; refine ⟨_, rfl, ?_⟩; replace BK284 := bkz BK284 hb; replace HB := Az.mk (bwT bw_10 hb); (try clear hb); obtain ⟨hcz26_0, hcz26_1, hfz26_0, hfz26_1⟩ := bq2 BK284))
  refine bodyPost_ret (results_ct rfl _ _ gb284 25 #[.int .i64 t291, .int .i64 t292] (0, 0) _ rfl bkv Try.underlying25 rfl (by kernel_rfl)) rfl ?_
  exact ⟨rq1, bw_10⟩
 rw [if_pos c3] at H
 have c3b0 : (a0 == 0) = true := beq_iff_eq.mpr c3
 have c3b1 : (a0 != 0) = false := bne_eq_false_iff_eq.mpr c3
 clear c3
 by_cases c4 : a1 = 0
 ·rw [if_pos c4] at H
  have c4b0 : (a1 == 0) = true := beq_iff_eq.mpr c4
  have c4b1 : (a1 != 0) = false := bne_eq_false_iff_eq.mpr c4
  clear c4
  simp only [Option.some.injEq, Prod.mk.injEq] at H
  obtain ⟨rfl, rfl, rfl⟩ := H
  go_enter Try.func35, Try.ntmps35
  go_wp2_with (first | ((with_reducible refine gtD (N := 4) rfl ?_); refine bx (N := 4) (cs := #[.int .i64 0, .int .i64 0]) (t := 25) ?_; intro gb284 hg w5 hbox hb; have BK284 := Az.mk (hbox); have GW284 := gwz hg bw_10; have GE284 := gwz hg bw_10; replace HB := Az.mk (bwT bw_10 hb); clear hb hbox hg; obtain ⟨hcz6_0, hcz6_1, hfz6_0, hfz6_1⟩ := bq2 BK284))
  refine bodyPost_ret (results_ct rfl _ _ gb284 25 #[.int .i64 0, .int .i64 0] (0, 0) _ rfl bkv Try.underlying25 rfl (by kernel_rfl)) rfl ?_
  exact ⟨rq1, bw_10⟩
 rw [if_neg c4] at H
 have c4b0 : (a1 == 0) = false := beq_eq_false_iff_ne.mpr c4
 have c4b1 : (a1 != 0) = true := bne_iff_ne.mpr c4
 replace H := bez H
 obtain ⟨t285, A7, H⟩ := H
 try dsimp only at H
 by_cases c8 : t285 = true
 rotate_left
 ·replace c8 := Bool.eq_false_iff.mpr c8
  subst c8
  rw [if_neg (show ¬ (false = true) by decide)] at H
  simp only [Option.some.injEq, Prod.mk.injEq] at H
  obtain ⟨rfl, rfl, rfl⟩ := H
  go_enter Try.func35, Try.ntmps35
  go_wp2_with (first | ((with_reducible refine gtD (N := 4) rfl ?_); refine bx (N := 4) (cs := #[.int .i64 0, .int .i64 0]) (t := 25) ?_; intro gb284 hg w17 hbox hb; have BK284 := Az.mk (hbox); have GW284 := gwz hg bw_10; have GE284 := gwz hg bw_10; replace HB := Az.mk (bwT bw_10 hb); clear hb hbox hg) | (go_at_call 32; (with_reducible refine (impl_within.calls a0 (-1000) 1000 false _ A7.out).mono ?_); rintro e w' ⟨rfl, ⟨nd, rfl⟩⟩; (try (rw [drewN_self w17]; generalize hq_ : World.drewN w17 _ = w17; have n0_ : Az (w17.heap[gb284]? = some (.cells #[.int .i64 0, .int .i64 0] 25 (0, 0))) := ⟨by rw [← hq_]; exact (bk1 BK284)⟩; have n1_ : Az (Below w.heap.size w w17) := ⟨by rw [← hq_]; exact bw_10⟩; clear BK284 HB hq_; have BK284 := n0_; have HB := n1_; clear n0_ n1_)); obtain ⟨hcz18_0, hcz18_1, hfz18_0, hfz18_1⟩ := bq2 BK284))
  refine bodyPost_ret (results_ct rfl _ _ gb284 25 #[.int .i64 0, .int .i64 0] (0, 0) _ rfl bkv Try.underlying25 rfl (by kernel_rfl)) rfl ?_
  exact ⟨rq1, bw_10⟩
 subst c8
 rw [if_pos rfl] at H
 replace H := bez H
 obtain ⟨t286, A9, H⟩ := H
 try dsimp only at H
 by_cases c10 : t286 = true
 rotate_left
 ·replace c10 := Bool.eq_false_iff.mpr c10
  subst c10
  rw [if_neg (show ¬ (false = true) by decide)] at H
  simp only [Option.some.injEq, Prod.mk.injEq] at H
  obtain ⟨rfl, rfl, rfl⟩ := H
  go_enter Try.func35, Try.ntmps35
  go_wp2_with (first | ((with_reducible refine gtD (N := 4) rfl ?_); refine bx (N := 4) (cs := #[.int .i64 0, .int .i64 0]) (t := 25) ?_; intro gb284 hg w15 hbox hb; have BK284 := Az.mk (hbox); have GW284 := gwz hg bw_10; have GE284 := gwz hg bw_10; replace HB := Az.mk (bwT bw_10 hb); clear hb hbox hg) | (go_at_call 32; (with_reducible refine (impl_within.calls a0 (-1000) 1000 true _ A7.out).mono ?_); rintro e w' ⟨rfl, ⟨nd, rfl⟩⟩; (try (rw [drewN_self w15]; generalize hq_ : World.drewN w15 _ = w15; have n0_ : Az (w15.heap[gb284]? = some (.cells #[.int .i64 0, .int .i64 0] 25 (0, 0))) := ⟨by rw [← hq_]; exact (bk1 BK284)⟩; have n1_ : Az (Below w.heap.size w w15) := ⟨by rw [← hq_]; exact bw_10⟩; clear BK284 HB hq_; have BK284 := n0_; have HB := n1_; clear n0_ n1_))) | (go_at_call 32; (with_reducible refine (impl_within.calls a1 (-1000) 1000 false _ A9.out).mono ?_); rintro e w' ⟨rfl, ⟨nd, rfl⟩⟩; (try (rw [drewN_self w15]; generalize hq_ : World.drewN w15 _ = w15; have n0_ : Az (w15.heap[gb284]? = some (.cells #[.int .i64 0, .int .i64 0] 25 (0, 0))) := ⟨by rw [← hq_]; exact (bk1 BK284)⟩; have n1_ : Az (Below w.heap.size w w15) := ⟨by rw [← hq_]; exact bw_10⟩; clear BK284 HB hq_; have BK284 := n0_; have HB := n1_; clear n0_ n1_)); obtain ⟨hcz16_0, hcz16_1, hfz16_0, hfz16_1⟩ := bq2 BK284))
  refine bodyPost_ret (results_ct rfl _ _ gb284 25 #[.int .i64 0, .int .i64 0] (0, 0) _ rfl bkv Try.underlying25 rfl (by kernel_rfl)) rfl ?_
  exact ⟨rq1, bw_10⟩
 subst c10
 rw [if_pos rfl] at H
 replace H := bez H
 obtain ⟨⟨t287, t288⟩, A11, H⟩ := H
 try dsimp only at H
 simp only [Option.some.injEq, Prod.mk.injEq] at H
 obtain ⟨rfl, rfl, rfl⟩ := H
 go_enter Try.func35, Try.ntmps35
 go_wp2_with (first | ((with_reducible refine gtD (N := 4) rfl ?_); refine bx (N := 4) (cs := #[.int .i64 0, .int .i64 0]) (t := 25) ?_; intro gb284 hg w12 hbox hb; have BK284 := Az.mk (hbox); have GW284 := gwz hg bw_10; have GE284 := gwz hg bw_10; replace HB := Az.mk (bwT bw_10 hb); clear hb hbox hg) | (go_at_call 32; (with_reducible refine (impl_within.calls a0 (-1000) 1000 true _ A7.out).mono ?_); rintro e w' ⟨rfl, ⟨nd, rfl⟩⟩; (try (rw [drewN_self w12]; generalize hq_ : World.drewN w12 _ = w12; have n0_ : Az (w12.heap[gb284]? = some (.cells #[.int .i64 0, .int .i64 0] 25 (0, 0))) := ⟨by rw [← hq_]; exact (bk1 BK284)⟩; have n1_ : Az (Below w.heap.size w w12) := ⟨by rw [← hq_]; exact bw_10⟩; clear BK284 HB hq_; have BK284 := n0_; have HB := n1_; clear n0_ n1_))) | (go_at_call 32; (with_reducible refine (impl_within.calls a1 (-1000) 1000 true _ A9.out).mono ?_); rintro e w' ⟨rfl, ⟨nd, rfl⟩⟩; (try (rw [drewN_self w12]; generalize hq_ : World.drewN w12 _ = w12; have n0_ : Az (w12.heap[gb284]? = some (.cells #[.int .i64 0, .int .i64 0] 25 (0, 0))) := ⟨by rw [← hq_]; exact (bk1 BK284)⟩; have n1_ : Az (Below w.heap.size w w12) := ⟨by rw [← hq_]; exact bw_10⟩; clear BK284 HB hq_; have BK284 := n0_; have HB := n1_; clear n0_ n1_))) | ((with_reducible refine gtC (f := 57) rfl ?_); refine clz Try.func57 (some 25) #[.int .i64 a0, .int .i64 a1] ?_; (with_reducible refine (impl_lowest.calls k a0 a1 t287 t288 _ A11.out).mono ?_); rintro e w13 ⟨rfl, hb⟩; refine ⟨_, rfl, ?_⟩; replace BK284 := bkz BK284 hb; replace HB := Az.mk (bwT bw_10 hb); (try clear hb); obtain ⟨hcz14_0, hcz14_1, hfz14_0, hfz14_1⟩ := bq2 BK284))
 refine bodyPost_ret (results_ct rfl _ _ gb284 25 #[.int .i64 t287, .int .i64 t288] (0, 0) _ rfl bkv Try.underlying25 rfl (by kernel_rfl)) rfl ?_
 exact ⟨rq1, bw_10⟩

/-! ### impl_CommonNeighbours: function 10 -/
def impl_CommonNeighbours.f (k : Nat) (a0_0 : Int) (a0_1 : Int) (a1_0 : Int) (a1_1 : Int) : Option ((List (S25))) := (impl_CrossNumber.f k a0_0 a0_1 a1_0 a1_1).bind fun t295 => (if t295 = 1 then ((impl_SlopeOf.f k (wrap64 (a0_0 + a1_0)) (wrap64 (a0_1 + a1_1))).bind fun bt296 => ((impl_SlopeOf.f k (wrap64 (a0_0 - a1_0)) (wrap64 (a0_1 - a1_1))).bind fun bt300 => (if bt296.2.2 = true then (if bt300.2.2 = true then (some (([(⟨bt296.1, bt296.2.1⟩ : S25), (⟨bt300.1, bt300.2.1⟩ : S25)] : List (S25)))) else (some ([] : List (S25)))) else (some ([] : List (S25)))))) else (some ([] : List (S25))))
theorem impl_CommonNeighbours.mono : ∀ a0 a1 a2 a3 k, LeO (impl_CommonNeighbours.f k a0 a1 a2 a3) (impl_CommonNeighbours.f (k + 1) a0 a1 a2 a3) := by
 intro a0 a1 a2 a3 k
 unfold impl_CommonNeighbours.f
 exact mo_
instance impl_CommonNeighbours.mi {a0 a1 a2 a3 k} : MoO (impl_CommonNeighbours.f k a0 a1 a2 a3) (impl_CommonNeighbours.f (k + 1) a0 a1 a2 a3) := ⟨impl_CommonNeighbours.mono _ _ _ _ _⟩
set_option maxHeartbeats 8000000 in
set_option maxRecDepth 100000 in
theorem impl_CommonNeighbours.calls (k : Nat) (a0_0 : Int) (a0_1 : Int) (a1_0 : Int) (a1_1 : Int) (r : List (S25)) (w : World) (h : impl_CommonNeighbours.f k a0_0 a0_1 a1_0 a1_1 = some r) :
  Calls Try.prog 10 #[.agg #[.int .i64 a0_0, .int .i64 a0_1], .agg #[.int .i64 a1_0, .int .i64 a1_1]] w fun e w' => ∃ v0_ : Value, e = .returned (v0_) ∧ Kd.R k25 25 w' w.heap.size (fun _ => True) v0_ r ∧ Below w.heap.size w w' := by
 have hu25 := Try.underlying25
 have HB := Az.mk (Below.refl w.heap.size w)
 have H : ((impl_CrossNumber.f k a0_0 a0_1 a1_0 a1_1).bind fun t295 => (if t295 = 1 then ((impl_SlopeOf.f k (wrap64 (a0_0 + a1_0)) (wrap64 (a0_1 + a1_1))).bind fun bt296 => ((impl_SlopeOf.f k (wrap64 (a0_0 - a1_0)) (wrap64 (a0_1 - a1_1))).bind fun bt300 => (if bt296.2.2 = true then (if bt300.2.2 = true then (some (([(⟨bt296.1, bt296.2.1⟩ : S25), (⟨bt300.1, bt300.2.1⟩ : S25)] : List (S25)))) else (some ([] : List (S25)))) else (some ([] : List (S25)))))) else (some ([] : List (S25))))) = some r := h
 clear h
 replace H := bez H
 obtain ⟨t295, A3, H⟩ := H
 try dsimp only at H
 by_cases c4 : t295 = 1
 rotate_left
 ·rw [if_neg c4] at H
  have c4b0 : (t295 == 1) = false := beq_eq_false_iff_ne.mpr c4
  have c4b1 : (t295 != 1) = true := bne_iff_ne.mpr c4
  obtain rfl := Option.some.inj H
  go_enter Try.func10, Try.ntmps10
  go_wp2_with (first | ((with_reducible refine gtD (N := 2) rfl ?_); refine bx (N := 2) (cs := #[.int .i64 a0_0, .int .i64 a0_1]) (t := 25) ?_; intro gb293 hg w75 hbox hb; have BK293 := Az.mk (hbox); have GW293 := gwz hg bw_10; have GE293 := gwz hg bw_10; replace HB := Az.mk (bwT bw_10 hb); clear hb hbox hg) | ((with_reducible refine gtD (N := 3) rfl ?_); refine bx (N := 3) (cs := #[.int .i64 a1_0, .int .i64 a1_1]) (t := 25) ?_; intro gb294 hg w76 hbox hb; have BK294 := Az.mk (hbox); have GW294 := gwz hg bw_10; have GE294 := gwz hg bw_10; replace HB := Az.mk (bwT bw_10 hb); have NB293_294 := nlt BK293 hg; have NB294_293 := ngt BK293 hg; replace BK293 := bkz BK293 hb; clear hb hbox hg; have hnb77 := NB293_294.out; have hnc77 := NB294_293.out; obtain ⟨hcz78_0, hcz78_1, hfz78_0, hfz78_1⟩ := bq2 BK293; obtain ⟨hcz79_0, hcz79_1, hfz79_0, hfz79_1⟩ := bq2 BK294) | ((with_reducible refine gtC (f := 34) rfl ?_); refine clz Try.func34 (some 11) #[.agg #[.int .i64 a0_0, .int .i64 a0_1], .agg #[.int .i64 a1_0, .int .i64 a1_1]] ?_; (with_reducible refine (impl_CrossNumber.calls k a0_0 a0_1 a1_0 a1_1 t295 _ A3.out).mono ?_); rintro e w80 ⟨rfl, hb⟩; refine ⟨_, rfl, ?_⟩; replace BK293 := bkz BK293 hb; replace BK294 := bkz BK294 hb; replace HB := Az.mk (bwT bw_10 hb); (try clear hb)))
  go_ret
  exact ⟨_, rq1, by first | exact Kd.R_nil _ _ _ _ _ | exact Kd.N_nil _ _ _ _ _ | exact Kd.V_nil _ _ _ _ _ | exact Kd.Q_nil _ _ _ _ _ | exact Kd.S_nil _ _ _ _ _, bw_10⟩
 rw [if_pos c4] at H
 have c4b0 : (t295 == 1) = true := beq_iff_eq.mpr c4
 have c4b1 : (t295 != 1) = false := bne_eq_false_iff_eq.mpr c4
 clear c4
 replace H := bez H
 obtain ⟨⟨t296, t297, t298⟩, A5, H⟩ := H
 try dsimp only at H
 replace H := bez H
 obtain ⟨⟨t300, t301, t302⟩, A6, H⟩ := H
 try dsimp only at H
 by_cases c7 : t298 = true
 rotate_left
 ·replace c7 := Bool.eq_false_iff.mpr c7
  subst c7
  rw [if_neg (show ¬ (false = true) by decide)] at H
  obtain rfl := Option.some.inj H
  go_enter Try.func10, Try.ntmps10
  go_wp2_with (first | ((with_reducible refine gtD (N := 2) rfl ?_); refine bx (N := 2) (cs := #[.int .i64 a0_0, .int .i64 a0_1]) (t := 25) ?_; intro gb293 hg w54 hbox hb; have BK293 := Az.mk (hbox); have GW293 := gwz hg bw_10; have GE293 := gwz hg bw_10; replace HB := Az.mk (bwT bw_10 hb); clear hb hbox hg) | ((with_reducible refine gtD (N := 3) rfl ?_); refine bx (N := 3) (cs := #[.int .i64 a1_0, .int .i64 a1_1]) (t := 25) ?_; intro gb294 hg w55 hbox hb; have BK294 := Az.mk (hbox); have GW294 := gwz hg bw_10; have GE294 := gwz hg bw_10; replace HB := Az.mk (bwT bw_10 hb); have NB293_294 := nlt BK293 hg; have NB294_293 := ngt BK293 hg; replace BK293 := bkz BK293 hb; clear hb hbox hg; have hnb56 := NB293_294.out; have hnc56 := NB294_293.out; obtain ⟨hcz57_0, hcz57_1, hfz57_0, hfz57_1⟩ := bq2 BK293; obtain ⟨hcz58_0, hcz58_1, hfz58_0, hfz58_1⟩ := bq2 BK294) | ((with_reducible refine gtC (f := 34) rfl ?_); refine clz Try.func34 (some 11) #[.agg #[.int .i64 a0_0, .int .i64 a0_1], .agg #[.int .i64 a1_0, .int .i64 a1_1]] ?_; (with_reducible refine (impl_CrossNumber.calls k a0_0 a0_1 a1_0 a1_1 t295 _ A3.out).mono ?_); rintro e w59 ⟨rfl, hb⟩; refine ⟨_, rfl, ?_⟩; replace BK293 := bkz BK293 hb; replace BK294 := bkz BK294 hb; replace HB := Az.mk (bwT bw_10 hb); (try clear hb); obtain ⟨hcz60_0, hcz60_1, hfz60_0, hfz60_1⟩ := bq2 BK293; obtain ⟨hcz61_0, hcz61_1, hfz61_0, hfz61_1⟩ := bq2 BK294) | ((with_reducible refine gtC (f := 35) rfl ?_); refine clz Try.func35 (some 24) #[.int .i64 (wrap64 (a0_0 + a1_0)), .int .i64 (wrap64 (a0_1 + a1_1))] ?_; (with_reducible refine (impl_SlopeOf.calls k (wrap64 (a0_0 + a1_0)) (wrap64 (a0_1 + a1_1)) t296 t297 false _ A5.out).mono ?_); rintro e w62 ⟨rfl, hb⟩; refine ⟨_, rfl, ?_⟩; replace BK293 := bkz BK293 hb; replace BK294 := bkz BK294 hb; replace HB := Az.mk (bwT bw_10 hb); (try clear hb)) | ((with_reducible refine gtD (N := 5) rfl ?_); refine bx (N := 5) (cs := #[.int .i64 0, .int .i64 0]) (t := 25) ?_; intro gb299 hg w63 hbox hb; have BK299 := Az.mk (hbox); have GW299 := gwz hg bw_10; have GE299 := gwz hg bw_10; replace HB := Az.mk (bwT bw_10 hb); have NB293_299 := nlt BK293 hg; have NB299_293 := ngt BK293 hg; replace BK293 := bkz BK293 hb; have NB294_299 := nlt BK294 hg; have NB299_294 := ngt BK294 hg; replace BK294 := bkz BK294 hb; clear hb hbox hg; have hnb64 := NB299_293.out; have hnc64 := NB293_299.out; have hnb65 := NB299_294.out; have hnc65 := NB294_299.out; obtain ⟨hcz66_0, hcz66_1, hfz66_0, hfz66_1⟩ := bq2 BK299; obtain ⟨hcz67_0, hcz67_1, hfz67_0, hfz67_1⟩ := bq2 BK293; obtain ⟨hcz68_0, hcz68_1, hfz68_0, hfz68_1⟩ := bq2 BK294) | ((with_reducible refine gtC (f := 35) rfl ?_); refine clz Try.func35 (some 38) #[.int .i64 (wrap64 (a0_0 - a1_0)), .int .i64 (wrap64 (a0_1 - a1_1))] ?_; (with_reducible refine (impl_SlopeOf.calls k (wrap64 (a0_0 - a1_0)) (wrap64 (a0_1 - a1_1)) t300 t301 t302 _ A6.out).mono ?_); rintro e w69 ⟨rfl, hb⟩; refine ⟨_, rfl, ?_⟩; replace BK293 := Az.mk (bkB (g := gb293) (o := .cells #[.int .i64 a0_0, .int .i64 a0_1] 25 (0, 0)) bkv hb); replace BK294 := Az.mk (bkB (g := gb294) (o := .cells #[.int .i64 a1_0, .int .i64 a1_1] 25 (0, 0)) bkv hb); replace BK299 := Az.mk (bkB (g := gb299) (o := .cells #[.int .i64 t296, .int .i64 t297] 25 (0, 0)) bkv hb); replace HB := Az.mk (bwT bw_10 hb); (try clear hb)) | ((with_reducible refine gtD (N := 7) rfl ?_); refine bx (N := 7) (cs := #[.int .i64 0, .int .i64 0]) (t := 25) ?_; intro gb303 hg w70 hbox hb; have BK303 := Az.mk (hbox); have GW303 := gwz hg bw_10; have GE303 := gwz hg bw_10; replace HB := Az.mk (bwT bw_10 hb); have NB293_303 := nlt BK293 hg; have NB303_293 := ngt BK293 hg; replace BK293 := bkz BK293 hb; have NB294_303 := nlt BK294 hg; have NB303_294 := ngt BK294 hg; replace BK294 := bkz BK294 hb; have NB299_303 := nlt BK299 hg; have NB303_299 := ngt BK299 hg; replace BK299 := bkz BK299 hb; clear hb hbox hg; have hnb71 := NB303_293.out; have hnc71 := NB293_303.out; have hnb72 := NB303_294.out; have hnc72 := NB294_303.out; have hnb73 := NB303_299.out; have hnc73 := NB299_303.out; obtain ⟨hcz74_0, hcz74_1, hfz74_0, hfz74_1⟩ := bq2 BK303))
  go_ret
  exact ⟨_, rq1, by first | exact Kd.R_nil _ _ _ _ _ | exact Kd.N_nil _ _ _ _ _ | exact Kd.V_nil _ _ _ _ _ | exact Kd.Q_nil _ _ _ _ _ | exact Kd.S_nil _ _ _ _ _, bw_10⟩
 subst c7
 rw [if_pos rfl] at H
 by_cases c8 : t302 = true
 rotate_left
 ·replace c8 := Bool.eq_false_iff.mpr c8
  subst c8
  rw [if_neg (show ¬ (false = true) by decide)] at H
  obtain rfl := Option.some.inj H
  go_enter Try.func10, Try.ntmps10
  go_wp2_with (first | ((with_reducible refine gtD (N := 2) rfl ?_); refine bx (N := 2) (cs := #[.int .i64 a0_0, .int .i64 a0_1]) (t := 25) ?_; intro gb293 hg w33 hbox hb; have BK293 := Az.mk (hbox); have GW293 := gwz hg bw_10; have GE293 := gwz hg bw_10; replace HB := Az.mk (bwT bw_10 hb); clear hb hbox hg) | ((with_reducible refine gtD (N := 3) rfl ?_); refine bx (N := 3) (cs := #[.int .i64 a1_0, .int .i64 a1_1]) (t := 25) ?_; intro gb294 hg w34 hbox hb; have BK294 := Az.mk (hbox); have GW294 := gwz hg bw_10; have GE294 := gwz hg bw_10; replace HB := Az.mk (bwT bw_10 hb); have NB293_294 := nlt BK293 hg; have NB294_293 := ngt BK293 hg; replace BK293 := bkz BK293 hb; clear hb hbox hg; have hnb35 := NB293_294.out; have hnc35 := NB294_293.out; obtain ⟨hcz36_0, hcz36_1, hfz36_0, hfz36_1⟩ := bq2 BK293; obtain ⟨hcz37_0, hcz37_1, hfz37_0, hfz37_1⟩ := bq2 BK294) | ((with_reducible refine gtC (f := 34) rfl ?_); refine clz Try.func34 (some 11) #[.agg #[.int .i64 a0_0, .int .i64 a0_1], .agg #[.int .i64 a1_0, .int .i64 a1_1]] ?_; (with_reducible refine (impl_CrossNumber.calls k a0_0 a0_1 a1_0 a1_1 t295 _ A3.out).mono ?_); rintro e w38 ⟨rfl, hb⟩; refine ⟨_, rfl, ?_⟩; replace BK293 := bkz BK293 hb; replace BK294 := bkz BK294 hb; replace HB := Az.mk (bwT bw_10 hb); (try clear hb); obtain ⟨hcz39_0, hcz39_1, hfz39_0, hfz39_1⟩ := bq2 BK293; obtain ⟨hcz40_0, hcz40_1, hfz40_0, hfz40_1⟩ := bq2 BK294) | ((with_reducible refine gtC (f := 35) rfl ?_); refine clz Try.func35 (some 24) #[.int .i64 (wrap64 (a0_0 + a1_0)), .int .i64 (wrap64 (a0_1 + a1_1))] ?_; (with_reducible refine (impl_SlopeOf.calls k (wrap64 (a0_0 + a1_0)) (wrap64 (a0_1 + a1_1)) t296 t297 true _ A5.out).mono ?_); rintro e w41 ⟨rfl, hb⟩; refine ⟨_, rfl, ?_⟩; replace BK293 := bkz BK293 hb; replace BK294 := bkz BK294 hb; replace HB := Az.mk (bwT bw_10 hb); (try clear hb)) | ((with_reducible refine gtD (N := 5) rfl ?_); refine bx (N := 5) (cs := #[.int .i64 0, .int .i64 0]) (t := 25) ?_; intro gb299 hg w42 hbox hb; have BK299 := Az.mk (hbox); have GW299 := gwz hg bw_10; have GE299 := gwz hg bw_10; replace HB := Az.mk (bwT bw_10 hb); have NB293_299 := nlt BK293 hg; have NB299_293 := ngt BK293 hg; replace BK293 := bkz BK293 hb; have NB294_299 := nlt BK294 hg; have NB299_294 := ngt BK294 hg; replace BK294 := bkz BK294 hb; clear hb hbox hg; have hnb43 := NB299_293.out; have hnc43 := NB293_299.out; have hnb44 := NB299_294.out; have hnc44 := NB294_299.out; obtain ⟨hcz45_0, hcz45_1, hfz45_0, hfz45_1⟩ := bq2 BK299; obtain ⟨hcz46_0, hcz46_1, hfz46_0, hfz46_1⟩ := bq2 BK293; obtain ⟨hcz47_0, hcz47_1, hfz47_0, hfz47_1⟩ := bq2 BK294) | ((with_reducible refine gtC (f := 35) rfl ?_); refine clz Try.func35 (some 38) #[.int .i64 (wrap64 (a0_0 - a1_0)), .int .i64 (wrap64 (a0_1 - a1_1))] ?_; (with_reducible refine (impl_SlopeOf.calls k (wrap64 (a0_0 - a1_0)) (wrap64 (a0_1 - a1_1)) t300 t301 false _ A6.out).mono ?_); rintro e w48 ⟨rfl, hb⟩; refine ⟨_, rfl, ?_⟩; replace BK293 := Az.mk (bkB (g := gb293) (o := .cells #[.int .i64 a0_0, .int .i64 a0_1] 25 (0, 0)) bkv hb); replace BK294 := Az.mk (bkB (g := gb294) (o := .cells #[.int .i64 a1_0, .int .i64 a1_1] 25 (0, 0)) bkv hb); replace BK299 := Az.mk (bkB (g := gb299) (o := .cells #[.int .i64 t296, .int .i64 t297] 25 (0, 0)) bkv hb); replace HB := Az.mk (bwT bw_10 hb); (try clear hb)) | ((with_reducible refine gtD (N := 7) rfl ?_); refine bx (N := 7) (cs := #[.int .i64 0, .int .i64 0]) (t := 25) ?_; intro gb303 hg w49 hbox hb; have BK303 := Az.mk (hbox); have GW303 := gwz hg bw_10; have GE303 := gwz hg bw_10; replace HB := Az.mk (bwT bw_10 hb); have NB293_303 := nlt BK293 hg; have NB303_293 := ngt BK293 hg; replace BK293 := bkz BK293 hb; have NB294_303 := nlt BK294 hg; have NB303_294 := ngt BK294 hg; replace BK294 := bkz BK294 hb; have NB299_303 := nlt BK299 hg; have NB303_299 := ngt BK299 hg; replace BK299 := bkz BK299 hb; clear hb hbox hg; have hnb50 := NB303_293.out; have hnc50 := NB293_303.out; have hnb51 := NB303_294.out; have hnc51 := NB294_303.out; have hnb52 := NB303_299.out; have hnc52 := NB299_303.out; obtain ⟨hcz53_0, hcz53_1, hfz53_0, hfz53_1⟩ := bq2 BK303))
  go_ret
  exact ⟨_, rq1, by first | exact Kd.R_nil _ _ _ _ _ | exact Kd.N_nil _ _ _ _ _ | exact Kd.V_nil _ _ _ _ _ | exact Kd.Q_nil _ _ _ _ _ | exact Kd.S_nil _ _ _ _ _, bw_10⟩
 subst c8
 rw [if_pos rfl] at H
 obtain ⟨y304, hy304⟩ : ∃ y_ : List (S25), y_ = (([(⟨t296, t297⟩ : S25), (⟨t300, t301⟩ : S25)] : List (S25))) := ⟨_, rfl⟩
 replace H : (some y304) = some r := by first | (rw [hy304]; with_reducible exact H) | (have H2_ := (Option.bind_some _ _).symm.trans H; rw [hy304]; with_reducible exact H2_) | (have H2_ := (Option.bind_some _ _).symm.trans H; with_reducible exact H2_) | with_reducible exact H | (rw [hy304]; exact H) | exact H
 have Ny304 := Az.mk hy304
 clear hy304
 obtain rfl := Option.some.inj H
 go_enter Try.func10, Try.ntmps10
 go_wp2_with (first | ((with_reducible refine gtD (N := 2) rfl ?_); refine bx (N := 2) (cs := #[.int .i64 a0_0, .int .i64 a0_1]) (t := 25) ?_; intro gb293 hg w9 hbox hb; have BK293 := Az.mk (hbox); have GW293 := gwz hg bw_10; have GE293 := gwz hg bw_10; replace HB := Az.mk (bwT bw_10 hb); clear hb hbox hg) | ((with_reducible refine gtD (N := 3) rfl ?_); refine bx (N := 3) (cs := #[.int .i64 a1_0, .int .i64 a1_1]) (t := 25) ?_; intro gb294 hg w10 hbox hb; have BK294 := Az.mk (hbox); have GW294 := gwz hg bw_10; have GE294 := gwz hg bw_10; replace HB := Az.mk (bwT bw_10 hb); have NB293_294 := nlt BK293 hg; have NB294_293 := ngt BK293 hg; replace BK293 := bkz BK293 hb; clear hb hbox hg; have hnb11 := NB293_294.out; have hnc11 := NB294_293.out; obtain ⟨hcz12_0, hcz12_1, hfz12_0, hfz12_1⟩ := bq2 BK293; obtain ⟨hcz13_0, hcz13_1, hfz13_0, hfz13_1⟩ := bq2 BK294) | ((with_reducible refine gtC (f := 34) rfl ?_); refine clz Try.func34 (some 11) #[.agg #[.int .i64 a0_0, .int .i64 a0_1], .agg #[.int .i64 a1_0, .int .i64 a1_1]] ?_; (with_reducible refine (impl_CrossNumber.calls k a0_0 a0_1 a1_0 a1_1 t295 _ A3.out).mono ?_); rintro e w14 ⟨rfl, hb⟩; refine ⟨_, rfl, ?_⟩; replace BK293 := bkz BK293 hb; replace BK294 := bkz BK294 hb; replace HB := Az.mk (bwT bw_10 hb); (try clear hb); obtain ⟨hcz15_0, hcz15_1, hfz15_0, hfz15_1⟩ := bq2 BK293; obtain ⟨hcz16_0, hcz16_1, hfz16_0, hfz16_1⟩ := bq2 BK294) | ((with_reducible refine gtC (f := 35) rfl ?_); refine clz Try.func35 (some 24) #[.int .i64 (wrap64 (a0_0 + a1_0)), .int .i64 (wrap64 (a0_1 + a1_1))] ?_; (with_reducible refine (impl_SlopeOf.calls k (wrap64 (a0_0 + a1_0)) (wrap64 (a0_1 + a1_1)) t296 t297 true _ A5.out).mono ?_); rintro e w17 ⟨rfl, hb⟩; refine ⟨_, rfl, ?_⟩; replace BK293 := bkz BK293 hb; replace BK294 := bkz BK294 hb; replace HB := Az.mk (bwT bw_10 hb); (try clear hb)) | ((with_reducible refine gtD (N := 5) rfl ?_); refine bx (N := 5) (cs := #[.int .i64 0, .int .i64 0]) (t := 25) ?_; intro gb299 hg w18 hbox hb; have BK299 := Az.mk (hbox); have GW299 := gwz hg bw_10; have GE299 := gwz hg bw_10; replace HB := Az.mk (bwT bw_10 hb); have NB293_299 := nlt BK293 hg; have NB299_293 := ngt BK293 hg; replace BK293 := bkz BK293 hb; have NB294_299 := nlt BK294 hg; have NB299_294 := ngt BK294 hg; replace BK294 := bkz BK294 hb; clear hb hbox hg; have hnb19 := NB299_293.out; have hnc19 := NB293_299.out; have hnb20 := NB299_294.out; have hnc20 := NB294_299.out; obtain ⟨hcz21_0, hcz21_1, hfz21_0, hfz21_1⟩ := bq2 BK299; obtain ⟨hcz22_0, hcz22_1, hfz22_0, hfz22_1⟩ := bq2 BK293; obtain ⟨hcz23_0, hcz23_1, hfz23_0, hfz23_1⟩ := bq2 BK294) | ((with_reducible refine gtC (f := 35) rfl ?_); refine clz Try.func35 (some 38) #[.int .i64 (wrap64 (a0_0 - a1_0)), .int .i64 (wrap64 (a0_1 - a1_1))] ?_; (with_reducible refine (impl_SlopeOf.calls k (wrap64 (a0_0 - a1_0)) (wrap64 (a0_1 - a1_1)) t300 t301 true _ A6.out).mono ?_); rintro e w24 ⟨rfl, hb⟩; refine ⟨_, rfl, ?_⟩; replace BK293 := Az.mk (bkB (g := gb293) (o := .cells #[.int .i64 a0_0, .int .i64 a0_1] 25 (0, 0)) bkv hb); replace BK294 := Az.mk (bkB (g := gb294) (o := .cells #[.int .i64 a1_0, .int .i64 a1_1] 25 (0, 0)) bkv hb); replace BK299 := Az.mk (bkB (g := gb299) (o := .cells #[.int .i64 t296, .int .i64 t297] 25 (0, 0)) bkv hb); replace HB := Az.mk (bwT bw_10 hb); (try clear hb)) | ((with_reducible refine gtD (N := 7) rfl ?_); refine bx (N := 7) (cs := #[.int .i64 0, .int .i64 0]) (t := 25) ?_; intro gb303 hg w25 hbox hb; have BK303 := Az.mk (hbox); have GW303 := gwz hg bw_10; have GE303 := gwz hg bw_10; replace HB := Az.mk (bwT bw_10 hb); have NB293_303 := nlt BK293 hg; have NB303_293 := ngt BK293 hg; replace BK293 := bkz BK293 hb; have NB294_303 := nlt BK294 hg; have NB303_294 := ngt BK294 hg; replace BK294 := bkz BK294 hb; have NB299_303 := nlt BK299 hg; have NB303_299 := ngt BK299 hg; replace BK299 := bkz BK299 hb; clear hb hbox hg; have hnb26 := NB303_293.out; have hnc26 := NB293_303.out; have hnb27 := NB303_294.out; have hnc27 := NB294_303.out; have hnb28 := NB303_299.out; have hnc28 := NB299_303.out; obtain ⟨hcz29_0, hcz29_1, hfz29_0, hfz29_1⟩ := bq2 BK303; obtain ⟨hcz30_0, hcz30_1, hfz30_0, hfz30_1⟩ := bq2 BK299) | ((with_reducible refine gtD (N := 49) rfl ?_); refine Kd.R_lit k25 _ 25 ?hg (N := 49) ?hd (xs := ([(⟨t296, t297⟩ : S25), (⟨t300, t301⟩ : S25)] : List (S25))) (inner := [.int .i64 t296, .int .i64 t297, .int .i64 t300, .int .i64 t301]) (ok := fun _ => True) (okp := fun _ => True) ?hr ?hp (fun _ hk => hk) trivial (Below.refl _ _) (Nat.le_refl _) (by simp) ?_; (case hd => rfl); (case hg => rfl); (case hr => first | (go_simp; done) | (go_simp; rfl)); (case hp => exact (Reps.c2 (show Kd.M k25 _ _ _ (⟨t296, t297⟩ : S25) [.int .i64 t296, .int .i64 t297] from (k25_mkM _ _ _ (⟨t296, t297⟩ : S25) )) (Reps.c2 (show Kd.M k25 _ _ _ (⟨t300, t301⟩ : S25) [.int .i64 t300, .int .i64 t301] from (k25_mkM _ _ _ (⟨t300, t301⟩ : S25) )) (Reps.none _ _)))); intro v305 w31 ho32 hb hg_ hnew_; clear hg_ hnew_; (first | rw [← Ny304.out] at ho32 | (simp only [Int.reduceToNat] at ho32; rw [← Ny304.out] at ho32)); have HO306 := Az.mk (Kd.R_lower (Kd.R_newB (Kd.R_newB (Kd.R_newB (Kd.R_newB ho32 (g := gb293) (o := .cells #[.int .i64 a0_0, .int .i64 a0_1] 25 (0, 0)) bkv) (g := gb294) (o := .cells #[.int .i64 a1_0, .int .i64 a1_1] 25 (0, 0)) bkv) (g := gb299) (o := .cells #[.int .i64 t296, .int .i64 t297] 25 (0, 0)) bkv) (g := gb303) (o := .cells #[.int .i64 t300, .int .i64 t301] 25 (0, 0)) bkv) (bwZ bw_10)); replace BK293 := Az.mk (bkB (g := gb293) (o := .cells #[.int .i64 a0_0, .int .i64 a0_1] 25 (0, 0)) bkv hb); replace BK294 := Az.mk (bkB (g := gb294) (o := .cells #[.int .i64 a1_0, .int .i64 a1_1] 25 (0, 0)) bkv hb); replace BK299 := Az.mk (bkB (g := gb299) (o := .cells #[.int .i64 t296, .int .i64 t297] 25 (0, 0)) bkv hb); replace BK303 := Az.mk (bkB (g := gb303) (o := .cells #[.int .i64 t300, .int .i64 t301] 25 (0, 0)) bkv hb); replace HB := Az.mk (bwT bw_10 hb); clear hb ho32))
 go_ret
 exact ⟨_, rq1, by (with_reducible repeat (first | apply Kd.R_alloc | apply Kd.R_drewN | apply Kd.R_drew)); exact Kd.R_mono HO306.out (fun _ hk => trivial), bw_10⟩

/-! ### spec_DrawParentsOf: function 11 -/
def spec_DrawParentsOf.f (k : Nat) (l0 : List Int) : Option (Int × Int) := (spec_l1New.f k l0).bind fun bt308 => ((spec_l12Draw.f k bt308.1 bt308.2.1 bt308.2.2).bind fun bt312 => (some (bt312.1, bt312.2.1)))
theorem spec_DrawParentsOf.mono : ∀ a0 k, LeO (spec_DrawParentsOf.f k a0) (spec_DrawParentsOf.f (k + 1) a0) := by
 intro a0 k
 unfold spec_DrawParentsOf.f
 exact mo_
instance spec_DrawParentsOf.mi {a0 k} : MoO (spec_DrawParentsOf.f k a0) (spec_DrawParentsOf.f (k + 1) a0) := ⟨spec_DrawParentsOf.mono _ _⟩
set_option maxHeartbeats 8000000 in
set_option maxRecDepth 100000 in
theorem spec_DrawParentsOf.calls (k : Nat) (A0 : Option Addr) (c0 : Nat) (l0 : List Int) (r1 : Int) (r2 : Int) (w : World) (hr0 : Kd.C (Kd.int .u8) w A0 l0.length l0) (hc0 : l0.length ≤ c0) (h : spec_DrawParentsOf.f k l0 = some (r1, r2)) :
  Calls Try.prog 11 #[.slice A0 l0.length c0] w fun e w' => e = .returned (.agg #[.int .i64 r1, .int .i64 r2]) ∧ Below w.heap.size w w' := by
 have hu25 := Try.underlying25
 have HR0 := Az.mk hr0
 have HC0 := Az.mk hc0
 clear hr0 hc0
 have HB := Az.mk (Below.refl w.heap.size w)
 have H : ((spec_l1New.f k l0).bind fun bt308 => ((spec_l12Draw.f k bt308.1 bt308.2.1 bt308.2.2).bind fun bt312 => (some (bt312.1, bt312.2.1)))) = some (r1, r2) := h
 clear h
 replace H := bez H
 obtain ⟨⟨t308, t309, t310⟩, A2, H⟩ := H
 try dsimp only at H
 replace H := bez H
 obtain ⟨⟨t312, t313, t314, t315⟩, A3, H⟩ := H
 try dsimp only at H
 simp only [Option.some.injEq, Prod.mk.injEq] at H
 obtain ⟨rfl, rfl⟩ := H
 go_enter Try.func11, Try.ntmps11
 go_wp2_with (first | ((with_reducible refine gtD (N := 2) rfl ?_); refine bx (N := 2) (cs := #[.int .i64 0, .int .i64 0]) (t := 25) ?_; intro gb307 hg w4 hbox hb; have BK307 := Az.mk (hbox); have GW307 := gwz hg bw_10; have GE307 := gwz hg bw_10; replace HB := Az.mk (bwT bw_10 hb); clear hb hbox hg) | ((with_reducible refine gtC (f := 29) rfl ?_); refine clz Try.func29 (some 4) #[.slice A0 l0.length c0] ?_; (with_reducible refine (spec_l1New.calls k _ _ l0 t308 t309 t310 w _ ?side1 ?side2 ?side3 A2.out).mono ?_); (case side1 => exact bw_10); (case side2 => exact HR0.out); (case side3 => exact HC0.out); rintro e w5 ⟨g311, rfl, hi, hb, hb2⟩; refine ⟨_, rfl, ?_⟩; replace HB := Az.mk (hb); have HI311 := Az.mk (hi); have NB311_307 := Az.mk (IsS68.ne_blk hi (bkB (g := gb307) (o := .cells #[.int .i64 0, .int .i64 0] 25 (0, 0)) (bk1 BK307) hb2) (by decide)); have NB307_311 := Az.mk (Ne.symm (IsS68.ne_blk hi (bkB (g := gb307) (o := .cells #[.int .i64 0, .int .i64 0] 25 (0, 0)) (bk1 BK307) hb2) (by decide))); replace BK307 := Az.mk (bkB (g := gb307) (o := .cells #[.int .i64 0, .int .i64 0] 25 (0, 0)) (bk1 BK307) hb2); (try clear hb); (try clear hb2); (try clear hi)) | ((with_reducible refine gtC (f := 30) rfl ?_); refine clz Try.func30 (some 5) #[.pointer (some ⟨g311, 0, none⟩)] ?_; (with_reducible refine (spec_l12Draw.calls k g311 t308 t309 t310 t312 t313 t314 t315 w _ ?side1 ?side2 A3.out).mono ?_); (case side1 => exact (by repeat (first | (with_reducible first | exact HI311.out | apply IsS68.alloc | apply IsS68.drewN | apply IsS68.drew | apply IsS68.set_1 | apply IsS68.set_2 | refine IsS68.far ?_ NB311_307.out _) | exact HI311.out))); (case side2 => repeat (first | (with_reducible first | exact HB.out | apply bwA | apply pbN | apply bwD | refine bwS ?_ (IsS68.ge HI311.out) | refine bwS ?_ GE307.out) | exact HB.out)); rintro e w6 ⟨rfl, hi, hb, hk⟩; refine ⟨_, rfl, ?_⟩; replace BK307 := bkk BK307 hk NB307_311; replace HB := Az.mk (hb); replace HI311 := Az.mk (hi); (try clear hb); (try clear hk); (try clear hi); have hnb7 := NB307_311.out; have hnc7 := NB311_307.out; obtain ⟨hcz8_0, hcz8_1, hfz8_0, hfz8_1⟩ := bq2 BK307))
 refine bodyPost_ret (results_cell_row rfl _ _ gb307 25 #[.int .i64 t312, .int .i64 t313] (0, 0) _ rfl bkv Try.underlying25 rfl (by kernel_rfl)) rfl ?_
 exact ⟨rq1, by repeat (first | (with_reducible first | exact HB.out | apply bwA | apply pbN | apply bwD | refine bwS ?_ (IsS68.ge HI311.out) | refine bwS ?_ GE307.out) | exact HB.out)⟩

end Go.Proofs.Ytigcjehokbgclaa.P
