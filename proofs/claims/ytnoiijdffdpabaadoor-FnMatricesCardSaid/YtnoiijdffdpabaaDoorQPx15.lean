-- By this session's driver (wip/tools/mk.py) of the kit's print program, over several statements at once. Not trusted: Lean checks it.
import Derived.Test.YtnoiijdffdpabaaDoorQWZip
import Derived.Test.YtnoiijdffdpabaaDoorQPx0
import Derived.Test.YtnoiijdffdpabaaDoorQPx2
import Derived.Test.YtnoiijdffdpabaaDoorQPx5
import Derived.Test.YtnoiijdffdpabaaDoorQPx12
import Derived.Test.YtnoiijdffdpabaaDoorQPx14
namespace Go.Proofs.YtnoiijdffdpabaaDoor.P
open Go.RowKit Go.Proofs.YtnoiijdffdpabaaDoorW.PrintWords Go.Proofs.YtnoiijdffdpabaaDoorW.PrintLast Go.Proofs.YtnoiijdffdpabaaDoorW.PrintMore
attribute [local go_sem] max2_int min2_int max_two min_two max_three min_three max_four min_four   -- for this text's walks alone
set_option linter.unusedVariables false
set_option linter.unusedSimpArgs false
theorem bw_15 {n : Nat} {v v' : World} (h : Below n v v' := by repeat (first | (with_reducible first | exact HB.out | apply bwA | apply pbN | apply bwD | refine bwS ?_ GE329.out | refine bwS ?_ GE331.out | refine bwS ?_ GE340.out | refine bwS ?_ GE341.out | refine bwS ?_ GE342.out | refine bwS ?_ GE348.out) | exact HB.out)) : Below n v v' := h
theorem ln_15 {P : Prop} (h : P := by (try simp only [List.map_toArray, List.map_cons, List.map_nil]); first | done | rfl | (simp only [List.length_drop, List.length_take]; rfl)) : P := h
open Option renaming bind_eq_some_iff → be
theorem z15_0 {p : Prop} (h : p := by (with_reducible repeat first | apply bkN | apply bkD | apply bkA); refine bkp (cs := #[.int .i64 (wrap64 (-(wrap64 (Int.tdiv a0 t330)))), .int .i64 0]) ?_ 1 _ rfl; (with_reducible repeat first | apply bkN | apply bkD | apply bkA); refine bkp (cs := #[.int .i64 0, .int .i64 0]) ?_ 0 _ rfl; (with_reducible repeat first | apply bkN | apply bkD | apply bkA); exact BK329.out) : p := h

/-! ### impl_lowest: function 62 -/
def impl_lowest.f (k : Nat) (a0 : Int) (a1 : Int) : Option (Int × Int) := (impl_gcd.f k a0 a1).bind fun t330 => (if t330 = 0 then (none) else (if (wrap64 (Int.tdiv a1 t330)) < 0 then (some (wrap64 (-(wrap64 (Int.tdiv a0 t330))), wrap64 (-(wrap64 (Int.tdiv a1 t330))))) else (if (wrap64 (Int.tdiv a1 t330)) = 0 then (if (wrap64 (Int.tdiv a0 t330)) < 0 then (some (wrap64 (-(wrap64 (Int.tdiv a0 t330))), wrap64 (-(wrap64 (Int.tdiv a1 t330))))) else (some (wrap64 (Int.tdiv a0 t330), wrap64 (Int.tdiv a1 t330)))) else (some (wrap64 (Int.tdiv a0 t330), wrap64 (Int.tdiv a1 t330))))))
theorem impl_lowest.mono : ∀ a0 a1 k, LeO (impl_lowest.f k a0 a1) (impl_lowest.f (k + 1) a0 a1) := by
 intro a0 a1 k
 unfold impl_lowest.f
 exact mo_
instance impl_lowest.mi {a0 a1 k} : MoO (impl_lowest.f k a0 a1) (impl_lowest.f (k + 1) a0 a1) := ⟨impl_lowest.mono _ _ _⟩
set_option maxHeartbeats 8000000 in
set_option maxRecDepth 100000 in
theorem impl_lowest.calls (k : Nat) (a0 : Int) (a1 : Int) (r1 : Int) (r2 : Int) (w : World) (h : impl_lowest.f k a0 a1 = some (r1, r2)) :
  Calls Tryd.prog 62 #[.int .i64 a0, .int .i64 a1] w fun e w' => e = .returned (.agg #[.int .i64 r1, .int .i64 r2]) ∧ Below w.heap.size w w' := by
 have hu35 := Tryd.underlying35
 have HB := Az.mk (Below.refl w.heap.size w)
 have H : ((impl_gcd.f k a0 a1).bind fun t330 => (if t330 = 0 then (none) else (if (wrap64 (Int.tdiv a1 t330)) < 0 then (some (wrap64 (-(wrap64 (Int.tdiv a0 t330))), wrap64 (-(wrap64 (Int.tdiv a1 t330))))) else (if (wrap64 (Int.tdiv a1 t330)) = 0 then (if (wrap64 (Int.tdiv a0 t330)) < 0 then (some (wrap64 (-(wrap64 (Int.tdiv a0 t330))), wrap64 (-(wrap64 (Int.tdiv a1 t330))))) else (some (wrap64 (Int.tdiv a0 t330), wrap64 (Int.tdiv a1 t330)))) else (some (wrap64 (Int.tdiv a0 t330), wrap64 (Int.tdiv a1 t330))))))) = some (r1, r2) := h
 clear h
 replace H := bez H
 obtain ⟨t330, A3, H⟩ := H
 try dsimp only at H
 by_cases c4 : t330 = 0
 ·rw [if_pos c4] at H
  exact absurd H (by simp)
 rw [if_neg c4] at H
 have c4b0 : (t330 == 0) = false := beq_eq_false_iff_ne.mpr c4
 have c4b1 : (t330 != 0) = true := bne_iff_ne.mpr c4
 by_cases c5 : (wrap64 (Int.tdiv a1 t330)) < 0
 ·rw [if_pos c5] at H
  have c5b0 : decide ((wrap64 (Int.tdiv a1 t330)) < 0) = true := decide_eq_true c5
  clear c5
  simp only [Option.some.injEq, Prod.mk.injEq] at H
  obtain ⟨rfl, rfl⟩ := H
  go_enter Tryd.func62, Tryd.ntmps62
  go_wp2_with (first | ((with_reducible refine gtD (N := 4) rfl ?_); refine bx (N := 4) (cs := #[.int .i64 0, .int .i64 0]) (t := 35) ?_; intro gb329 hg w6 hbox hb; have BK329 := Az.mk (hbox); have GW329 := gwz hg bw_15; have GE329 := gwz hg bw_15; replace HB := Az.mk (bwT bw_15 hb); clear hb hbox hg) | (go_at_call 61; (with_reducible refine (impl_gcd.calls k a0 a1 t330 _ A3.out).mono ?_); rintro e w7 ⟨rfl, hb⟩; replace BK329 := bkz BK329 hb; replace HB := Az.mk (bwT bw_15 hb); (try clear hb); obtain ⟨hcz8_0, hcz8_1, hfz8_0, hfz8_1⟩ := bq2 BK329))
  repeat (go_quiet (fail); try go_wp2_with (first | ((with_reducible refine gtD (N := 4) rfl ?_); refine bx (N := 4) (cs := #[.int .i64 0, .int .i64 0]) (t := 35) ?_; intro gb329 hg w6 hbox hb; have BK329 := Az.mk (hbox); have GW329 := gwz hg bw_15; have GE329 := gwz hg bw_15; replace HB := Az.mk (bwT bw_15 hb); clear hb hbox hg) | (go_at_call 61; (with_reducible refine (impl_gcd.calls k a0 a1 t330 _ A3.out).mono ?_); rintro e w7 ⟨rfl, hb⟩; replace BK329 := bkz BK329 hb; replace HB := Az.mk (bwT bw_15 hb); (try clear hb); obtain ⟨hcz8_0, hcz8_1, hfz8_0, hfz8_1⟩ := bq2 BK329)))
  refine bodyPost_ret (results_cell_row rfl _ _ gb329 35 #[.int .i64 (wrap64 (-(wrap64 (Int.tdiv a0 t330)))), .int .i64 (wrap64 (-(wrap64 (Int.tdiv a1 t330))))] (0, 0) _ rfl z15_0 Tryd.underlying35 rfl (by kernel_rfl)) rfl ?_
  exact ⟨rq1, bw_15⟩
 rw [if_neg c5] at H
 have c5b0 : decide ((wrap64 (Int.tdiv a1 t330)) < 0) = false := decide_eq_false c5
 clear c5
 by_cases c9 : (wrap64 (Int.tdiv a1 t330)) = 0
 rotate_left
 ·rw [if_neg c9] at H
  have c9b0 : ((wrap64 (Int.tdiv a1 t330)) == 0) = false := beq_eq_false_iff_ne.mpr c9
  have c9b1 : ((wrap64 (Int.tdiv a1 t330)) != 0) = true := bne_iff_ne.mpr c9
  simp only [Option.some.injEq, Prod.mk.injEq] at H
  obtain ⟨rfl, rfl⟩ := H
  go_enter Tryd.func62, Tryd.ntmps62
  go_wp2_with (first | ((with_reducible refine gtD (N := 4) rfl ?_); refine bx (N := 4) (cs := #[.int .i64 0, .int .i64 0]) (t := 35) ?_; intro gb329 hg w17 hbox hb; have BK329 := Az.mk (hbox); have GW329 := gwz hg bw_15; have GE329 := gwz hg bw_15; replace HB := Az.mk (bwT bw_15 hb); clear hb hbox hg) | (go_at_call 61; (with_reducible refine (impl_gcd.calls k a0 a1 t330 _ A3.out).mono ?_); rintro e w18 ⟨rfl, hb⟩; replace BK329 := bkz BK329 hb; replace HB := Az.mk (bwT bw_15 hb); (try clear hb); obtain ⟨hcz19_0, hcz19_1, hfz19_0, hfz19_1⟩ := bq2 BK329))
  repeat (go_quiet (fail); try go_wp2_with (first | ((with_reducible refine gtD (N := 4) rfl ?_); refine bx (N := 4) (cs := #[.int .i64 0, .int .i64 0]) (t := 35) ?_; intro gb329 hg w17 hbox hb; have BK329 := Az.mk (hbox); have GW329 := gwz hg bw_15; have GE329 := gwz hg bw_15; replace HB := Az.mk (bwT bw_15 hb); clear hb hbox hg) | (go_at_call 61; (with_reducible refine (impl_gcd.calls k a0 a1 t330 _ A3.out).mono ?_); rintro e w18 ⟨rfl, hb⟩; replace BK329 := bkz BK329 hb; replace HB := Az.mk (bwT bw_15 hb); (try clear hb); obtain ⟨hcz19_0, hcz19_1, hfz19_0, hfz19_1⟩ := bq2 BK329)))
  refine bodyPost_ret (results_cell_row rfl _ _ gb329 35 #[.int .i64 (wrap64 (Int.tdiv a0 t330)), .int .i64 (wrap64 (Int.tdiv a1 t330))] (0, 0) _ rfl bkv Tryd.underlying35 rfl (by kernel_rfl)) rfl ?_
  exact ⟨rq1, bw_15⟩
 rw [if_pos c9] at H
 have c9b0 : ((wrap64 (Int.tdiv a1 t330)) == 0) = true := beq_iff_eq.mpr c9
 have c9b1 : ((wrap64 (Int.tdiv a1 t330)) != 0) = false := bne_eq_false_iff_eq.mpr c9
 clear c9
 by_cases c10 : (wrap64 (Int.tdiv a0 t330)) < 0
 ·rw [if_pos c10] at H
  have c10b0 : decide ((wrap64 (Int.tdiv a0 t330)) < 0) = true := decide_eq_true c10
  clear c10
  simp only [Option.some.injEq, Prod.mk.injEq] at H
  obtain ⟨rfl, rfl⟩ := H
  go_enter Tryd.func62, Tryd.ntmps62
  go_wp2_with (first | ((with_reducible refine gtD (N := 4) rfl ?_); refine bx (N := 4) (cs := #[.int .i64 0, .int .i64 0]) (t := 35) ?_; intro gb329 hg w11 hbox hb; have BK329 := Az.mk (hbox); have GW329 := gwz hg bw_15; have GE329 := gwz hg bw_15; replace HB := Az.mk (bwT bw_15 hb); clear hb hbox hg) | (go_at_call 61; (with_reducible refine (impl_gcd.calls k a0 a1 t330 _ A3.out).mono ?_); rintro e w12 ⟨rfl, hb⟩; replace BK329 := bkz BK329 hb; replace HB := Az.mk (bwT bw_15 hb); (try clear hb); obtain ⟨hcz13_0, hcz13_1, hfz13_0, hfz13_1⟩ := bq2 BK329))
  repeat (go_quiet (fail); try go_wp2_with (first | ((with_reducible refine gtD (N := 4) rfl ?_); refine bx (N := 4) (cs := #[.int .i64 0, .int .i64 0]) (t := 35) ?_; intro gb329 hg w11 hbox hb; have BK329 := Az.mk (hbox); have GW329 := gwz hg bw_15; have GE329 := gwz hg bw_15; replace HB := Az.mk (bwT bw_15 hb); clear hb hbox hg) | (go_at_call 61; (with_reducible refine (impl_gcd.calls k a0 a1 t330 _ A3.out).mono ?_); rintro e w12 ⟨rfl, hb⟩; replace BK329 := bkz BK329 hb; replace HB := Az.mk (bwT bw_15 hb); (try clear hb); obtain ⟨hcz13_0, hcz13_1, hfz13_0, hfz13_1⟩ := bq2 BK329)))
  refine bodyPost_ret (results_cell_row rfl _ _ gb329 35 #[.int .i64 (wrap64 (-(wrap64 (Int.tdiv a0 t330)))), .int .i64 (wrap64 (-(wrap64 (Int.tdiv a1 t330))))] (0, 0) _ rfl z15_0 Tryd.underlying35 rfl (by kernel_rfl)) rfl ?_
  exact ⟨rq1, bw_15⟩
 rw [if_neg c10] at H
 have c10b0 : decide ((wrap64 (Int.tdiv a0 t330)) < 0) = false := decide_eq_false c10
 clear c10
 simp only [Option.some.injEq, Prod.mk.injEq] at H
 obtain ⟨rfl, rfl⟩ := H
 go_enter Tryd.func62, Tryd.ntmps62
 go_wp2_with (first | ((with_reducible refine gtD (N := 4) rfl ?_); refine bx (N := 4) (cs := #[.int .i64 0, .int .i64 0]) (t := 35) ?_; intro gb329 hg w14 hbox hb; have BK329 := Az.mk (hbox); have GW329 := gwz hg bw_15; have GE329 := gwz hg bw_15; replace HB := Az.mk (bwT bw_15 hb); clear hb hbox hg) | (go_at_call 61; (with_reducible refine (impl_gcd.calls k a0 a1 t330 _ A3.out).mono ?_); rintro e w15 ⟨rfl, hb⟩; replace BK329 := bkz BK329 hb; replace HB := Az.mk (bwT bw_15 hb); (try clear hb); obtain ⟨hcz16_0, hcz16_1, hfz16_0, hfz16_1⟩ := bq2 BK329))
 repeat (go_quiet (fail); try go_wp2_with (first | ((with_reducible refine gtD (N := 4) rfl ?_); refine bx (N := 4) (cs := #[.int .i64 0, .int .i64 0]) (t := 35) ?_; intro gb329 hg w14 hbox hb; have BK329 := Az.mk (hbox); have GW329 := gwz hg bw_15; have GE329 := gwz hg bw_15; replace HB := Az.mk (bwT bw_15 hb); clear hb hbox hg) | (go_at_call 61; (with_reducible refine (impl_gcd.calls k a0 a1 t330 _ A3.out).mono ?_); rintro e w15 ⟨rfl, hb⟩; replace BK329 := bkz BK329 hb; replace HB := Az.mk (bwT bw_15 hb); (try clear hb); obtain ⟨hcz16_0, hcz16_1, hfz16_0, hfz16_1⟩ := bq2 BK329)))
 refine bodyPost_ret (results_cell_row rfl _ _ gb329 35 #[.int .i64 (wrap64 (Int.tdiv a0 t330)), .int .i64 (wrap64 (Int.tdiv a1 t330))] (0, 0) _ rfl bkv Tryd.underlying35 rfl (by kernel_rfl)) rfl ?_
 exact ⟨rq1, bw_15⟩

/-! ### impl_SlopeOf: function 42 -/
def impl_SlopeOf.f (k : Nat) (a0 : Int) (a1 : Int) : Option (Int × Int × Bool) := if a0 = 0 then (if a1 = 0 then (some (0, 0, false)) else ((impl_within.f a0 (-1000) 1000).bind fun t332 => (if t332 = true then ((impl_within.f a1 (-1000) 1000).bind fun t333 => (if t333 = true then ((impl_lowest.f k a0 a1).bind fun bt334 => (some (bt334.1, bt334.2, true))) else (some (0, 0, false)))) else (some (0, 0, false))))) else ((impl_within.f a0 (-1000) 1000).bind fun t336 => (if t336 = true then ((impl_within.f a1 (-1000) 1000).bind fun t337 => (if t337 = true then ((impl_lowest.f k a0 a1).bind fun bt338 => (some (bt338.1, bt338.2, true))) else (some (0, 0, false)))) else (some (0, 0, false))))
theorem impl_SlopeOf.mono : ∀ a0 a1 k, LeO (impl_SlopeOf.f k a0 a1) (impl_SlopeOf.f (k + 1) a0 a1) := by
 intro a0 a1 k
 unfold impl_SlopeOf.f
 exact mo_
instance impl_SlopeOf.mi {a0 a1 k} : MoO (impl_SlopeOf.f k a0 a1) (impl_SlopeOf.f (k + 1) a0 a1) := ⟨impl_SlopeOf.mono _ _ _⟩
set_option maxHeartbeats 8000000 in
set_option maxRecDepth 100000 in
theorem impl_SlopeOf.calls (k : Nat) (a0 : Int) (a1 : Int) (r1 : Int) (r2 : Int) (r3 : Bool) (w : World) (h : impl_SlopeOf.f k a0 a1 = some (r1, r2, r3)) :
  Calls Tryd.prog 42 #[.int .i64 a0, .int .i64 a1] w fun e w' => e = .returned (.tuple #[.agg #[.int .i64 r1, .int .i64 r2], .bool r3]) ∧ Below w.heap.size w w' := by
 have hu35 := Tryd.underlying35
 have HB := Az.mk (Below.refl w.heap.size w)
 have H : (if a0 = 0 then (if a1 = 0 then (some (0, 0, false)) else ((impl_within.f a0 (-1000) 1000).bind fun t332 => (if t332 = true then ((impl_within.f a1 (-1000) 1000).bind fun t333 => (if t333 = true then ((impl_lowest.f k a0 a1).bind fun bt334 => (some (bt334.1, bt334.2, true))) else (some (0, 0, false)))) else (some (0, 0, false))))) else ((impl_within.f a0 (-1000) 1000).bind fun t336 => (if t336 = true then ((impl_within.f a1 (-1000) 1000).bind fun t337 => (if t337 = true then ((impl_lowest.f k a0 a1).bind fun bt338 => (some (bt338.1, bt338.2, true))) else (some (0, 0, false)))) else (some (0, 0, false))))) = some (r1, r2, r3) := h
 clear h
 by_cases c3 : a0 = 0
 rotate_left
 ·rw [if_neg c3] at H
  have c3b0 : (a0 == 0) = false := beq_eq_false_iff_ne.mpr c3
  have c3b1 : (a0 != 0) = true := bne_iff_ne.mpr c3
  replace H := bez H
  obtain ⟨t336, A19, H⟩ := H
  try dsimp only at H
  by_cases c20 : t336 = true
  rotate_left
  ·replace c20 := Bool.eq_false_iff.mpr c20
   subst c20
   rw [if_neg (show ¬ (false = true) by decide)] at H
   simp only [Option.some.injEq, Prod.mk.injEq] at H
   obtain ⟨rfl, rfl, rfl⟩ := H
   go_enter Tryd.func42, Tryd.ntmps42
   go_wp2_with (first | ((with_reducible refine gtD (N := 4) rfl ?_); refine bx (N := 4) (cs := #[.int .i64 0, .int .i64 0]) (t := 35) ?_; intro gb331 hg w29 hbox hb; have BK331 := Az.mk (hbox); have GW331 := gwz hg bw_15; have GE331 := gwz hg bw_15; replace HB := Az.mk (bwT bw_15 hb); clear hb hbox hg) | (go_at_call 54; (with_reducible refine (impl_within.calls a0 (-1000) 1000 false _ A19.out).mono ?_); rintro e w' ⟨rfl, ⟨nd, rfl⟩⟩; (try (rw [drewN_self w29]; generalize hq_ : World.drewN w29 _ = w29; have n0_ : Az (w29.heap[gb331]? = some (.cells #[.int .i64 0, .int .i64 0] 35 (0, 0))) := ⟨by rw [← hq_]; exact (bk1 BK331)⟩; have n1_ : Az (Below w.heap.size w w29) := ⟨by rw [← hq_]; exact bw_15⟩; clear BK331 HB hq_; have BK331 := n0_; have HB := n1_; clear n0_ n1_)); obtain ⟨hcz30_0, hcz30_1, hfz30_0, hfz30_1⟩ := bq2 BK331))
   refine bodyPost_ret (results_ct rfl _ _ gb331 35 #[.int .i64 0, .int .i64 0] (0, 0) _ rfl bkv Tryd.underlying35 rfl (by kernel_rfl)) rfl ?_
   exact ⟨rq1, bw_15⟩
  subst c20
  rw [if_pos rfl] at H
  replace H := bez H
  obtain ⟨t337, A21, H⟩ := H
  try dsimp only at H
  by_cases c22 : t337 = true
  rotate_left
  ·replace c22 := Bool.eq_false_iff.mpr c22
   subst c22
   rw [if_neg (show ¬ (false = true) by decide)] at H
   simp only [Option.some.injEq, Prod.mk.injEq] at H
   obtain ⟨rfl, rfl, rfl⟩ := H
   go_enter Tryd.func42, Tryd.ntmps42
   go_wp2_with (first | ((with_reducible refine gtD (N := 4) rfl ?_); refine bx (N := 4) (cs := #[.int .i64 0, .int .i64 0]) (t := 35) ?_; intro gb331 hg w27 hbox hb; have BK331 := Az.mk (hbox); have GW331 := gwz hg bw_15; have GE331 := gwz hg bw_15; replace HB := Az.mk (bwT bw_15 hb); clear hb hbox hg) | (go_at_call 54; (with_reducible refine (impl_within.calls a0 (-1000) 1000 true _ A19.out).mono ?_); rintro e w' ⟨rfl, ⟨nd, rfl⟩⟩; (try (rw [drewN_self w27]; generalize hq_ : World.drewN w27 _ = w27; have n0_ : Az (w27.heap[gb331]? = some (.cells #[.int .i64 0, .int .i64 0] 35 (0, 0))) := ⟨by rw [← hq_]; exact (bk1 BK331)⟩; have n1_ : Az (Below w.heap.size w w27) := ⟨by rw [← hq_]; exact bw_15⟩; clear BK331 HB hq_; have BK331 := n0_; have HB := n1_; clear n0_ n1_))) | (go_at_call 54; (with_reducible refine (impl_within.calls a1 (-1000) 1000 false _ A21.out).mono ?_); rintro e w' ⟨rfl, ⟨nd, rfl⟩⟩; (try (rw [drewN_self w27]; generalize hq_ : World.drewN w27 _ = w27; have n0_ : Az (w27.heap[gb331]? = some (.cells #[.int .i64 0, .int .i64 0] 35 (0, 0))) := ⟨by rw [← hq_]; exact (bk1 BK331)⟩; have n1_ : Az (Below w.heap.size w w27) := ⟨by rw [← hq_]; exact bw_15⟩; clear BK331 HB hq_; have BK331 := n0_; have HB := n1_; clear n0_ n1_)); obtain ⟨hcz28_0, hcz28_1, hfz28_0, hfz28_1⟩ := bq2 BK331))
   refine bodyPost_ret (results_ct rfl _ _ gb331 35 #[.int .i64 0, .int .i64 0] (0, 0) _ rfl bkv Tryd.underlying35 rfl (by kernel_rfl)) rfl ?_
   exact ⟨rq1, bw_15⟩
  subst c22
  rw [if_pos rfl] at H
  replace H := bez H
  obtain ⟨⟨t338, t339⟩, A23, H⟩ := H
  try dsimp only at H
  simp only [Option.some.injEq, Prod.mk.injEq] at H
  obtain ⟨rfl, rfl, rfl⟩ := H
  go_enter Tryd.func42, Tryd.ntmps42
  go_wp2_with (first | ((with_reducible refine gtD (N := 4) rfl ?_); refine bx (N := 4) (cs := #[.int .i64 0, .int .i64 0]) (t := 35) ?_; intro gb331 hg w24 hbox hb; have BK331 := Az.mk (hbox); have GW331 := gwz hg bw_15; have GE331 := gwz hg bw_15; replace HB := Az.mk (bwT bw_15 hb); clear hb hbox hg) | (go_at_call 54; (with_reducible refine (impl_within.calls a0 (-1000) 1000 true _ A19.out).mono ?_); rintro e w' ⟨rfl, ⟨nd, rfl⟩⟩; (try (rw [drewN_self w24]; generalize hq_ : World.drewN w24 _ = w24; have n0_ : Az (w24.heap[gb331]? = some (.cells #[.int .i64 0, .int .i64 0] 35 (0, 0))) := ⟨by rw [← hq_]; exact (bk1 BK331)⟩; have n1_ : Az (Below w.heap.size w w24) := ⟨by rw [← hq_]; exact bw_15⟩; clear BK331 HB hq_; have BK331 := n0_; have HB := n1_; clear n0_ n1_))) | (go_at_call 54; (with_reducible refine (impl_within.calls a1 (-1000) 1000 true _ A21.out).mono ?_); rintro e w' ⟨rfl, ⟨nd, rfl⟩⟩; (try (rw [drewN_self w24]; generalize hq_ : World.drewN w24 _ = w24; have n0_ : Az (w24.heap[gb331]? = some (.cells #[.int .i64 0, .int .i64 0] 35 (0, 0))) := ⟨by rw [← hq_]; exact (bk1 BK331)⟩; have n1_ : Az (Below w.heap.size w w24) := ⟨by rw [← hq_]; exact bw_15⟩; clear BK331 HB hq_; have BK331 := n0_; have HB := n1_; clear n0_ n1_))) | ((with_reducible refine gtC (f := 62) rfl ?_); refine clz Tryd.func62 (some 25) #[.int .i64 a0, .int .i64 a1] ?_; (with_reducible refine (impl_lowest.calls k a0 a1 t338 t339 _ A23.out).mono ?_); rintro e w25 ⟨rfl, hb⟩; refine ⟨_, rfl, ?_⟩; replace BK331 := bkz BK331 hb; replace HB := Az.mk (bwT bw_15 hb); (try clear hb); obtain ⟨hcz26_0, hcz26_1, hfz26_0, hfz26_1⟩ := bq2 BK331))
  refine bodyPost_ret (results_ct rfl _ _ gb331 35 #[.int .i64 t338, .int .i64 t339] (0, 0) _ rfl bkv Tryd.underlying35 rfl (by kernel_rfl)) rfl ?_
  exact ⟨rq1, bw_15⟩
 rw [if_pos c3] at H
 have c3b0 : (a0 == 0) = true := beq_iff_eq.mpr c3
 have c3b1 : (a0 != 0) = false := bne_eq_false_iff_eq.mpr c3
 clear c3
 by_cases c4 : a1 = 0
 ·rw [if_pos c4] at H
  have c4b0 : (a1 == 0) = true := beq_iff_eq.mpr c4
  have c4b1 : (a1 != 0) = false := bne_eq_false_iff_eq.mpr c4
  clear c4
  simp only [Option.some.injEq, Prod.mk.injEq] at H
  obtain ⟨rfl, rfl, rfl⟩ := H
  go_enter Tryd.func42, Tryd.ntmps42
  go_wp2_with (first | ((with_reducible refine gtD (N := 4) rfl ?_); refine bx (N := 4) (cs := #[.int .i64 0, .int .i64 0]) (t := 35) ?_; intro gb331 hg w5 hbox hb; have BK331 := Az.mk (hbox); have GW331 := gwz hg bw_15; have GE331 := gwz hg bw_15; replace HB := Az.mk (bwT bw_15 hb); clear hb hbox hg; obtain ⟨hcz6_0, hcz6_1, hfz6_0, hfz6_1⟩ := bq2 BK331))
  refine bodyPost_ret (results_ct rfl _ _ gb331 35 #[.int .i64 0, .int .i64 0] (0, 0) _ rfl bkv Tryd.underlying35 rfl (by kernel_rfl)) rfl ?_
  exact ⟨rq1, bw_15⟩
 rw [if_neg c4] at H
 have c4b0 : (a1 == 0) = false := beq_eq_false_iff_ne.mpr c4
 have c4b1 : (a1 != 0) = true := bne_iff_ne.mpr c4
 replace H := bez H
 obtain ⟨t332, A7, H⟩ := H
 try dsimp only at H
 by_cases c8 : t332 = true
 rotate_left
 ·replace c8 := Bool.eq_false_iff.mpr c8
  subst c8
  rw [if_neg (show ¬ (false = true) by decide)] at H
  simp only [Option.some.injEq, Prod.mk.injEq] at H
  obtain ⟨rfl, rfl, rfl⟩ := H
  go_enter Tryd.func42, Tryd.ntmps42
  go_wp2_with (first | ((with_reducible refine gtD (N := 4) rfl ?_); refine bx (N := 4) (cs := #[.int .i64 0, .int .i64 0]) (t := 35) ?_; intro gb331 hg w17 hbox hb; have BK331 := Az.mk (hbox); have GW331 := gwz hg bw_15; have GE331 := gwz hg bw_15; replace HB := Az.mk (bwT bw_15 hb); clear hb hbox hg) | (go_at_call 54; (with_reducible refine (impl_within.calls a0 (-1000) 1000 false _ A7.out).mono ?_); rintro e w' ⟨rfl, ⟨nd, rfl⟩⟩; (try (rw [drewN_self w17]; generalize hq_ : World.drewN w17 _ = w17; have n0_ : Az (w17.heap[gb331]? = some (.cells #[.int .i64 0, .int .i64 0] 35 (0, 0))) := ⟨by rw [← hq_]; exact (bk1 BK331)⟩; have n1_ : Az (Below w.heap.size w w17) := ⟨by rw [← hq_]; exact bw_15⟩; clear BK331 HB hq_; have BK331 := n0_; have HB := n1_; clear n0_ n1_)); obtain ⟨hcz18_0, hcz18_1, hfz18_0, hfz18_1⟩ := bq2 BK331))
  refine bodyPost_ret (results_ct rfl _ _ gb331 35 #[.int .i64 0, .int .i64 0] (0, 0) _ rfl bkv Tryd.underlying35 rfl (by kernel_rfl)) rfl ?_
  exact ⟨rq1, bw_15⟩
 subst c8
 rw [if_pos rfl] at H
 replace H := bez H
 obtain ⟨t333, A9, H⟩ := H
 try dsimp only at H
 by_cases c10 : t333 = true
 rotate_left
 ·replace c10 := Bool.eq_false_iff.mpr c10
  subst c10
  rw [if_neg (show ¬ (false = true) by decide)] at H
  simp only [Option.some.injEq, Prod.mk.injEq] at H
  obtain ⟨rfl, rfl, rfl⟩ := H
  go_enter Tryd.func42, Tryd.ntmps42
  go_wp2_with (first | ((with_reducible refine gtD (N := 4) rfl ?_); refine bx (N := 4) (cs := #[.int .i64 0, .int .i64 0]) (t := 35) ?_; intro gb331 hg w15 hbox hb; have BK331 := Az.mk (hbox); have GW331 := gwz hg bw_15; have GE331 := gwz hg bw_15; replace HB := Az.mk (bwT bw_15 hb); clear hb hbox hg) | (go_at_call 54; (with_reducible refine (impl_within.calls a0 (-1000) 1000 true _ A7.out).mono ?_); rintro e w' ⟨rfl, ⟨nd, rfl⟩⟩; (try (rw [drewN_self w15]; generalize hq_ : World.drewN w15 _ = w15; have n0_ : Az (w15.heap[gb331]? = some (.cells #[.int .i64 0, .int .i64 0] 35 (0, 0))) := ⟨by rw [← hq_]; exact (bk1 BK331)⟩; have n1_ : Az (Below w.heap.size w w15) := ⟨by rw [← hq_]; exact bw_15⟩; clear BK331 HB hq_; have BK331 := n0_; have HB := n1_; clear n0_ n1_))) | (go_at_call 54; (with_reducible refine (impl_within.calls a1 (-1000) 1000 false _ A9.out).mono ?_); rintro e w' ⟨rfl, ⟨nd, rfl⟩⟩; (try (rw [drewN_self w15]; generalize hq_ : World.drewN w15 _ = w15; have n0_ : Az (w15.heap[gb331]? = some (.cells #[.int .i64 0, .int .i64 0] 35 (0, 0))) := ⟨by rw [← hq_]; exact (bk1 BK331)⟩; have n1_ : Az (Below w.heap.size w w15) := ⟨by rw [← hq_]; exact bw_15⟩; clear BK331 HB hq_; have BK331 := n0_; have HB := n1_; clear n0_ n1_)); obtain ⟨hcz16_0, hcz16_1, hfz16_0, hfz16_1⟩ := bq2 BK331))
  refine bodyPost_ret (results_ct rfl _ _ gb331 35 #[.int .i64 0, .int .i64 0] (0, 0) _ rfl bkv Tryd.underlying35 rfl (by kernel_rfl)) rfl ?_
  exact ⟨rq1, bw_15⟩
 subst c10
 rw [if_pos rfl] at H
 replace H := bez H
 obtain ⟨⟨t334, t335⟩, A11, H⟩ := H
 try dsimp only at H
 simp only [Option.some.injEq, Prod.mk.injEq] at H
 obtain ⟨rfl, rfl, rfl⟩ := H
 go_enter Tryd.func42, Tryd.ntmps42
 go_wp2_with (first | ((with_reducible refine gtD (N := 4) rfl ?_); refine bx (N := 4) (cs := #[.int .i64 0, .int .i64 0]) (t := 35) ?_; intro gb331 hg w12 hbox hb; have BK331 := Az.mk (hbox); have GW331 := gwz hg bw_15; have GE331 := gwz hg bw_15; replace HB := Az.mk (bwT bw_15 hb); clear hb hbox hg) | (go_at_call 54; (with_reducible refine (impl_within.calls a0 (-1000) 1000 true _ A7.out).mono ?_); rintro e w' ⟨rfl, ⟨nd, rfl⟩⟩; (try (rw [drewN_self w12]; generalize hq_ : World.drewN w12 _ = w12; have n0_ : Az (w12.heap[gb331]? = some (.cells #[.int .i64 0, .int .i64 0] 35 (0, 0))) := ⟨by rw [← hq_]; exact (bk1 BK331)⟩; have n1_ : Az (Below w.heap.size w w12) := ⟨by rw [← hq_]; exact bw_15⟩; clear BK331 HB hq_; have BK331 := n0_; have HB := n1_; clear n0_ n1_))) | (go_at_call 54; (with_reducible refine (impl_within.calls a1 (-1000) 1000 true _ A9.out).mono ?_); rintro e w' ⟨rfl, ⟨nd, rfl⟩⟩; (try (rw [drewN_self w12]; generalize hq_ : World.drewN w12 _ = w12; have n0_ : Az (w12.heap[gb331]? = some (.cells #[.int .i64 0, .int .i64 0] 35 (0, 0))) := ⟨by rw [← hq_]; exact (bk1 BK331)⟩; have n1_ : Az (Below w.heap.size w w12) := ⟨by rw [← hq_]; exact bw_15⟩; clear BK331 HB hq_; have BK331 := n0_; have HB := n1_; clear n0_ n1_))) | ((with_reducible refine gtC (f := 62) rfl ?_); refine clz Tryd.func62 (some 25) #[.int .i64 a0, .int .i64 a1] ?_; (with_reducible refine (impl_lowest.calls k a0 a1 t334 t335 _ A11.out).mono ?_); rintro e w13 ⟨rfl, hb⟩; refine ⟨_, rfl, ?_⟩; replace BK331 := bkz BK331 hb; replace HB := Az.mk (bwT bw_15 hb); (try clear hb); obtain ⟨hcz14_0, hcz14_1, hfz14_0, hfz14_1⟩ := bq2 BK331))
 refine bodyPost_ret (results_ct rfl _ _ gb331 35 #[.int .i64 t334, .int .i64 t335] (0, 0) _ rfl bkv Tryd.underlying35 rfl (by kernel_rfl)) rfl ?_
 exact ⟨rq1, bw_15⟩

/-! ### impl_MoveSlope: function 13 -/
def impl_MoveSlope.f (k : Nat) (a0_0 : Int) (a0_1 : Int) (a0_2 : Int) (a0_3 : Int) (a1_0 : Int) (a1_1 : Int) : Option (Int × Int × Bool) := (impl_IsMatrix.f k a0_0 a0_1 a0_2 a0_3).bind fun t343 => (if t343 = true then ((impl_IsSlope.f k a1_0 a1_1).bind fun t344 => (if t344 = true then ((impl_SlopeOf.f k (wrap64 ((wrap64 (a0_0 * a1_0)) + (wrap64 (a0_1 * a1_1)))) (wrap64 ((wrap64 (a0_2 * a1_0)) + (wrap64 (a0_3 * a1_1))))).bind fun bt345 => (some (bt345.1, bt345.2.1, bt345.2.2))) else (some (0, 0, false)))) else (some (0, 0, false)))
theorem impl_MoveSlope.mono : ∀ a0 a1 a2 a3 a4 a5 k, LeO (impl_MoveSlope.f k a0 a1 a2 a3 a4 a5) (impl_MoveSlope.f (k + 1) a0 a1 a2 a3 a4 a5) := by
 intro a0 a1 a2 a3 a4 a5 k
 unfold impl_MoveSlope.f
 exact mo_
instance impl_MoveSlope.mi {a0 a1 a2 a3 a4 a5 k} : MoO (impl_MoveSlope.f k a0 a1 a2 a3 a4 a5) (impl_MoveSlope.f (k + 1) a0 a1 a2 a3 a4 a5) := ⟨impl_MoveSlope.mono _ _ _ _ _ _ _⟩
set_option maxHeartbeats 8000000 in
set_option maxRecDepth 100000 in
theorem impl_MoveSlope.calls (k : Nat) (a0_0 : Int) (a0_1 : Int) (a0_2 : Int) (a0_3 : Int) (a1_0 : Int) (a1_1 : Int) (r1 : Int) (r2 : Int) (r3 : Bool) (w : World) (h : impl_MoveSlope.f k a0_0 a0_1 a0_2 a0_3 a1_0 a1_1 = some (r1, r2, r3)) :
  Calls Tryd.prog 13 #[.agg #[.int .i64 a0_0, .int .i64 a0_1, .int .i64 a0_2, .int .i64 a0_3], .agg #[.int .i64 a1_0, .int .i64 a1_1]] w fun e w' => e = .returned (.tuple #[.agg #[.int .i64 r1, .int .i64 r2], .bool r3]) ∧ Below w.heap.size w w' := by
 have hu25 := Tryd.underlying25
 have hu35 := Tryd.underlying35
 have HB := Az.mk (Below.refl w.heap.size w)
 have H : ((impl_IsMatrix.f k a0_0 a0_1 a0_2 a0_3).bind fun t343 => (if t343 = true then ((impl_IsSlope.f k a1_0 a1_1).bind fun t344 => (if t344 = true then ((impl_SlopeOf.f k (wrap64 ((wrap64 (a0_0 * a1_0)) + (wrap64 (a0_1 * a1_1)))) (wrap64 ((wrap64 (a0_2 * a1_0)) + (wrap64 (a0_3 * a1_1))))).bind fun bt345 => (some (bt345.1, bt345.2.1, bt345.2.2))) else (some (0, 0, false)))) else (some (0, 0, false)))) = some (r1, r2, r3) := h
 clear h
 replace H := bez H
 obtain ⟨t343, A3, H⟩ := H
 try dsimp only at H
 by_cases c4 : t343 = true
 rotate_left
 ·replace c4 := Bool.eq_false_iff.mpr c4
  subst c4
  rw [if_neg (show ¬ (false = true) by decide)] at H
  simp only [Option.some.injEq, Prod.mk.injEq] at H
  obtain ⟨rfl, rfl, rfl⟩ := H
  go_enter Tryd.func13, Tryd.ntmps13
  go_wp2_with (first | ((with_reducible refine gtD (N := 2) rfl ?_); refine bx (N := 2) (cs := #[.int .i64 a0_0, .int .i64 a0_1, .int .i64 a0_2, .int .i64 a0_3]) (t := 25) ?_; intro gb340 hg w33 hbox hb; have BK340 := Az.mk (hbox); have GW340 := gwz hg bw_15; have GE340 := gwz hg bw_15; replace HB := Az.mk (bwT bw_15 hb); clear hb hbox hg) | ((with_reducible refine gtD (N := 3) rfl ?_); refine bx (N := 3) (cs := #[.int .i64 a1_0, .int .i64 a1_1]) (t := 35) ?_; intro gb341 hg w34 hbox hb; have BK341 := Az.mk (hbox); have GW341 := gwz hg bw_15; have GE341 := gwz hg bw_15; replace HB := Az.mk (bwT bw_15 hb); have NB340_341 := nlt BK340 hg; have NB341_340 := ngt BK340 hg; replace BK340 := bkz BK340 hb; clear hb hbox hg) | ((with_reducible refine gtD (N := 4) rfl ?_); refine bx (N := 4) (cs := #[.int .i64 0, .int .i64 0]) (t := 35) ?_; intro gb342 hg w35 hbox hb; have BK342 := Az.mk (hbox); have GW342 := gwz hg bw_15; have GE342 := gwz hg bw_15; replace HB := Az.mk (bwT bw_15 hb); have NB340_342 := nlt BK340 hg; have NB342_340 := ngt BK340 hg; replace BK340 := bkz BK340 hb; have NB341_342 := nlt BK341 hg; have NB342_341 := ngt BK341 hg; replace BK341 := bkz BK341 hb; clear hb hbox hg; have hnb36 := NB340_341.out; have hnc36 := NB341_340.out; have hnb37 := NB340_342.out; have hnc37 := NB342_340.out; obtain ⟨hcz38_0, hcz38_1, hcz38_2, hcz38_3, hfz38_0, hfz38_1, hfz38_2, hfz38_3⟩ := bq4 BK340) | ((with_reducible refine gtC (f := 21) rfl ?_); refine clz Tryd.func21 (some 7) #[.agg #[.int .i64 a0_0, .int .i64 a0_1, .int .i64 a0_2, .int .i64 a0_3]] ?_; (with_reducible refine (impl_IsMatrix.calls k a0_0 a0_1 a0_2 a0_3 false _ A3.out).mono ?_); rintro e w39 ⟨rfl, hb⟩; refine ⟨_, rfl, ?_⟩; replace BK340 := bkz BK340 hb; replace BK341 := bkz BK341 hb; replace BK342 := bkz BK342 hb; replace HB := Az.mk (bwT bw_15 hb); (try clear hb); have hnb40 := NB342_341.out; have hnc40 := NB341_342.out; obtain ⟨hcz41_0, hcz41_1, hfz41_0, hfz41_1⟩ := bq2 BK342))
  refine bodyPost_ret (results_ct rfl _ _ gb342 35 #[.int .i64 0, .int .i64 0] (0, 0) _ rfl bkv Tryd.underlying35 rfl (by kernel_rfl)) rfl ?_
  exact ⟨rq1, bw_15⟩
 subst c4
 rw [if_pos rfl] at H
 replace H := bez H
 obtain ⟨t344, A5, H⟩ := H
 try dsimp only at H
 by_cases c6 : t344 = true
 rotate_left
 ·replace c6 := Bool.eq_false_iff.mpr c6
  subst c6
  rw [if_neg (show ¬ (false = true) by decide)] at H
  simp only [Option.some.injEq, Prod.mk.injEq] at H
  obtain ⟨rfl, rfl, rfl⟩ := H
  go_enter Tryd.func13, Tryd.ntmps13
  go_wp2_with (first | ((with_reducible refine gtD (N := 2) rfl ?_); refine bx (N := 2) (cs := #[.int .i64 a0_0, .int .i64 a0_1, .int .i64 a0_2, .int .i64 a0_3]) (t := 25) ?_; intro gb340 hg w22 hbox hb; have BK340 := Az.mk (hbox); have GW340 := gwz hg bw_15; have GE340 := gwz hg bw_15; replace HB := Az.mk (bwT bw_15 hb); clear hb hbox hg) | ((with_reducible refine gtD (N := 3) rfl ?_); refine bx (N := 3) (cs := #[.int .i64 a1_0, .int .i64 a1_1]) (t := 35) ?_; intro gb341 hg w23 hbox hb; have BK341 := Az.mk (hbox); have GW341 := gwz hg bw_15; have GE341 := gwz hg bw_15; replace HB := Az.mk (bwT bw_15 hb); have NB340_341 := nlt BK340 hg; have NB341_340 := ngt BK340 hg; replace BK340 := bkz BK340 hb; clear hb hbox hg) | ((with_reducible refine gtD (N := 4) rfl ?_); refine bx (N := 4) (cs := #[.int .i64 0, .int .i64 0]) (t := 35) ?_; intro gb342 hg w24 hbox hb; have BK342 := Az.mk (hbox); have GW342 := gwz hg bw_15; have GE342 := gwz hg bw_15; replace HB := Az.mk (bwT bw_15 hb); have NB340_342 := nlt BK340 hg; have NB342_340 := ngt BK340 hg; replace BK340 := bkz BK340 hb; have NB341_342 := nlt BK341 hg; have NB342_341 := ngt BK341 hg; replace BK341 := bkz BK341 hb; clear hb hbox hg; have hnb25 := NB340_341.out; have hnc25 := NB341_340.out; have hnb26 := NB340_342.out; have hnc26 := NB342_340.out; obtain ⟨hcz27_0, hcz27_1, hcz27_2, hcz27_3, hfz27_0, hfz27_1, hfz27_2, hfz27_3⟩ := bq4 BK340) | ((with_reducible refine gtC (f := 21) rfl ?_); refine clz Tryd.func21 (some 7) #[.agg #[.int .i64 a0_0, .int .i64 a0_1, .int .i64 a0_2, .int .i64 a0_3]] ?_; (with_reducible refine (impl_IsMatrix.calls k a0_0 a0_1 a0_2 a0_3 true _ A3.out).mono ?_); rintro e w28 ⟨rfl, hb⟩; refine ⟨_, rfl, ?_⟩; replace BK340 := bkz BK340 hb; replace BK341 := bkz BK341 hb; replace BK342 := bkz BK342 hb; replace HB := Az.mk (bwT bw_15 hb); (try clear hb); have hnb29 := NB341_342.out; have hnc29 := NB342_341.out; obtain ⟨hcz30_0, hcz30_1, hfz30_0, hfz30_1⟩ := bq2 BK341) | (go_at_call 41; (with_reducible refine (impl_IsSlope.calls k a1_0 a1_1 false _ A5.out).mono ?_); rintro e w31 ⟨rfl, hb⟩; replace BK340 := bkz BK340 hb; replace BK341 := bkz BK341 hb; replace BK342 := bkz BK342 hb; replace HB := Az.mk (bwT bw_15 hb); (try clear hb); obtain ⟨hcz32_0, hcz32_1, hfz32_0, hfz32_1⟩ := bq2 BK342))
  refine bodyPost_ret (results_ct rfl _ _ gb342 35 #[.int .i64 0, .int .i64 0] (0, 0) _ rfl bkv Tryd.underlying35 rfl (by kernel_rfl)) rfl ?_
  exact ⟨rq1, bw_15⟩
 subst c6
 rw [if_pos rfl] at H
 replace H := bez H
 obtain ⟨⟨t345, t346, t347⟩, A7, H⟩ := H
 try dsimp only at H
 simp only [Option.some.injEq, Prod.mk.injEq] at H
 obtain ⟨rfl, rfl, rfl⟩ := H
 go_enter Tryd.func13, Tryd.ntmps13
 go_wp2_with (first | ((with_reducible refine gtD (N := 2) rfl ?_); refine bx (N := 2) (cs := #[.int .i64 a0_0, .int .i64 a0_1, .int .i64 a0_2, .int .i64 a0_3]) (t := 25) ?_; intro gb340 hg w8 hbox hb; have BK340 := Az.mk (hbox); have GW340 := gwz hg bw_15; have GE340 := gwz hg bw_15; replace HB := Az.mk (bwT bw_15 hb); clear hb hbox hg) | ((with_reducible refine gtD (N := 3) rfl ?_); refine bx (N := 3) (cs := #[.int .i64 a1_0, .int .i64 a1_1]) (t := 35) ?_; intro gb341 hg w9 hbox hb; have BK341 := Az.mk (hbox); have GW341 := gwz hg bw_15; have GE341 := gwz hg bw_15; replace HB := Az.mk (bwT bw_15 hb); have NB340_341 := nlt BK340 hg; have NB341_340 := ngt BK340 hg; replace BK340 := bkz BK340 hb; clear hb hbox hg) | ((with_reducible refine gtD (N := 4) rfl ?_); refine bx (N := 4) (cs := #[.int .i64 0, .int .i64 0]) (t := 35) ?_; intro gb342 hg w10 hbox hb; have BK342 := Az.mk (hbox); have GW342 := gwz hg bw_15; have GE342 := gwz hg bw_15; replace HB := Az.mk (bwT bw_15 hb); have NB340_342 := nlt BK340 hg; have NB342_340 := ngt BK340 hg; replace BK340 := bkz BK340 hb; have NB341_342 := nlt BK341 hg; have NB342_341 := ngt BK341 hg; replace BK341 := bkz BK341 hb; clear hb hbox hg; have hnb11 := NB340_341.out; have hnc11 := NB341_340.out; have hnb12 := NB340_342.out; have hnc12 := NB342_340.out; obtain ⟨hcz13_0, hcz13_1, hcz13_2, hcz13_3, hfz13_0, hfz13_1, hfz13_2, hfz13_3⟩ := bq4 BK340) | ((with_reducible refine gtC (f := 21) rfl ?_); refine clz Tryd.func21 (some 7) #[.agg #[.int .i64 a0_0, .int .i64 a0_1, .int .i64 a0_2, .int .i64 a0_3]] ?_; (with_reducible refine (impl_IsMatrix.calls k a0_0 a0_1 a0_2 a0_3 true _ A3.out).mono ?_); rintro e w14 ⟨rfl, hb⟩; refine ⟨_, rfl, ?_⟩; replace BK340 := bkz BK340 hb; replace BK341 := bkz BK341 hb; replace BK342 := bkz BK342 hb; replace HB := Az.mk (bwT bw_15 hb); (try clear hb); have hnb15 := NB341_342.out; have hnc15 := NB342_341.out; obtain ⟨hcz16_0, hcz16_1, hfz16_0, hfz16_1⟩ := bq2 BK341) | (go_at_call 41; (with_reducible refine (impl_IsSlope.calls k a1_0 a1_1 true _ A5.out).mono ?_); rintro e w17 ⟨rfl, hb⟩; replace BK340 := bkz BK340 hb; replace BK341 := bkz BK341 hb; replace BK342 := bkz BK342 hb; replace HB := Az.mk (bwT bw_15 hb); (try clear hb); obtain ⟨hcz18_0, hcz18_1, hcz18_2, hcz18_3, hfz18_0, hfz18_1, hfz18_2, hfz18_3⟩ := bq4 BK340; obtain ⟨hcz19_0, hcz19_1, hfz19_0, hfz19_1⟩ := bq2 BK341) | ((with_reducible refine gtC (f := 42) rfl ?_); refine clz Tryd.func42 (some 37) #[.int .i64 (wrap64 ((wrap64 (a0_0 * a1_0)) + (wrap64 (a0_1 * a1_1)))), .int .i64 (wrap64 ((wrap64 (a0_2 * a1_0)) + (wrap64 (a0_3 * a1_1))))] ?_; (with_reducible refine (impl_SlopeOf.calls k (wrap64 ((wrap64 (a0_0 * a1_0)) + (wrap64 (a0_1 * a1_1)))) (wrap64 ((wrap64 (a0_2 * a1_0)) + (wrap64 (a0_3 * a1_1)))) t345 t346 t347 _ A7.out).mono ?_); rintro e w20 ⟨rfl, hb⟩; refine ⟨_, rfl, ?_⟩; replace BK340 := bkz BK340 hb; replace BK341 := bkz BK341 hb; replace BK342 := bkz BK342 hb; replace HB := Az.mk (bwT bw_15 hb); (try clear hb); obtain ⟨hcz21_0, hcz21_1, hfz21_0, hfz21_1⟩ := bq2 BK342))
 refine bodyPost_ret (results_ct rfl _ _ gb342 35 #[.int .i64 t345, .int .i64 t346] (0, 0) _ rfl bkv Tryd.underlying35 rfl (by kernel_rfl)) rfl ?_
 exact ⟨rq1, bw_15⟩

/-! ### spec_IsSlope: function 43 -/
def spec_IsSlope.f (k : Nat) (a0_0 : Int) (a0_1 : Int) : Option (Bool) := (spec_l1In.f a0_0 (-1000) 1000).bind fun t349 => (if t349 = true then ((spec_l1In.f a0_1 0 1000).bind fun t350 => (if t350 = true then (if a0_1 = 0 then (if a0_0 = 1 then ((spec_l11Gcd.f k a0_0 a0_1).bind fun t351 => (some (t351 == 1))) else (some false)) else ((spec_l11Gcd.f k a0_0 a0_1).bind fun t352 => (some (t352 == 1)))) else (some false))) else (some false))
theorem spec_IsSlope.mono : ∀ a0 a1 k, LeO (spec_IsSlope.f k a0 a1) (spec_IsSlope.f (k + 1) a0 a1) := by
 intro a0 a1 k
 unfold spec_IsSlope.f
 exact mo_
instance spec_IsSlope.mi {a0 a1 k} : MoO (spec_IsSlope.f k a0 a1) (spec_IsSlope.f (k + 1) a0 a1) := ⟨spec_IsSlope.mono _ _ _⟩
set_option maxHeartbeats 8000000 in
set_option maxRecDepth 100000 in
theorem spec_IsSlope.calls (k : Nat) (a0_0 : Int) (a0_1 : Int) (r : Bool) (w : World) (h : spec_IsSlope.f k a0_0 a0_1 = some r) :
  Calls Tryd.prog 43 #[.agg #[.int .i64 a0_0, .int .i64 a0_1]] w fun e w' => e = .returned (.bool r) ∧ Below w.heap.size w w' := by
 have hu35 := Tryd.underlying35
 have HB := Az.mk (Below.refl w.heap.size w)
 have H : ((spec_l1In.f a0_0 (-1000) 1000).bind fun t349 => (if t349 = true then ((spec_l1In.f a0_1 0 1000).bind fun t350 => (if t350 = true then (if a0_1 = 0 then (if a0_0 = 1 then ((spec_l11Gcd.f k a0_0 a0_1).bind fun t351 => (some (t351 == 1))) else (some false)) else ((spec_l11Gcd.f k a0_0 a0_1).bind fun t352 => (some (t352 == 1)))) else (some false))) else (some false))) = some r := h
 clear h
 replace H := bez H
 obtain ⟨t349, A2, H⟩ := H
 try dsimp only at H
 by_cases c3 : t349 = true
 rotate_left
 ·replace c3 := Bool.eq_false_iff.mpr c3
  subst c3
  rw [if_neg (show ¬ (false = true) by decide)] at H
  obtain rfl := Option.some.inj H
  go_enter Tryd.func43, Tryd.ntmps43
  go_wp2_with (first | ((with_reducible refine gtD (N := 1) rfl ?_); refine bx (N := 1) (cs := #[.int .i64 a0_0, .int .i64 a0_1]) (t := 35) ?_; intro gb348 hg w18 hbox hb; have BK348 := Az.mk (hbox); have GW348 := gwz hg bw_15; have GE348 := gwz hg bw_15; replace HB := Az.mk (bwT bw_15 hb); clear hb hbox hg; obtain ⟨hcz19_0, hcz19_1, hfz19_0, hfz19_1⟩ := bq2 BK348) | ((with_reducible refine gtC (f := 55) rfl ?_); refine clz Tryd.func55 (some 5) #[.int .i64 a0_0, .int .i64 (-1000), .int .i64 1000] ?_; (with_reducible refine (spec_l1In.calls a0_0 (-1000) 1000 false _ A2.out).mono ?_); rintro e w' ⟨rfl, ⟨nd, rfl⟩⟩; refine ⟨_, rfl, ?_⟩))
  go_ret
  exact ⟨rq1, bw_15⟩
 subst c3
 rw [if_pos rfl] at H
 replace H := bez H
 obtain ⟨t350, A4, H⟩ := H
 try dsimp only at H
 by_cases c5 : t350 = true
 rotate_left
 ·replace c5 := Bool.eq_false_iff.mpr c5
  subst c5
  rw [if_neg (show ¬ (false = true) by decide)] at H
  obtain rfl := Option.some.inj H
  go_enter Tryd.func43, Tryd.ntmps43
  go_wp2_with (first | ((with_reducible refine gtD (N := 1) rfl ?_); refine bx (N := 1) (cs := #[.int .i64 a0_0, .int .i64 a0_1]) (t := 35) ?_; intro gb348 hg w16 hbox hb; have BK348 := Az.mk (hbox); have GW348 := gwz hg bw_15; have GE348 := gwz hg bw_15; replace HB := Az.mk (bwT bw_15 hb); clear hb hbox hg; obtain ⟨hcz17_0, hcz17_1, hfz17_0, hfz17_1⟩ := bq2 BK348) | ((with_reducible refine gtC (f := 55) rfl ?_); refine clz Tryd.func55 (some 5) #[.int .i64 a0_0, .int .i64 (-1000), .int .i64 1000] ?_; (with_reducible refine (spec_l1In.calls a0_0 (-1000) 1000 true _ A2.out).mono ?_); rintro e w' ⟨rfl, ⟨nd, rfl⟩⟩; refine ⟨_, rfl, ?_⟩) | (go_at_call 55; (with_reducible refine (spec_l1In.calls a0_1 0 1000 false _ A4.out).mono ?_); rintro e w' ⟨rfl, ⟨nd, rfl⟩⟩))
  go_ret
  exact ⟨rq1, bw_15⟩
 subst c5
 rw [if_pos rfl] at H
 by_cases c6 : a0_1 = 0
 rotate_left
 ·rw [if_neg c6] at H
  have c6b0 : (a0_1 == 0) = false := beq_eq_false_iff_ne.mpr c6
  have c6b1 : (a0_1 != 0) = true := bne_iff_ne.mpr c6
  replace H := bez H
  obtain ⟨t352, A13, H⟩ := H
  replace H : (some (t352 == 1)) = some r := H
  obtain rfl := Option.some.inj H
  go_enter Tryd.func43, Tryd.ntmps43
  go_wp2_with (first | ((with_reducible refine gtD (N := 1) rfl ?_); refine bx (N := 1) (cs := #[.int .i64 a0_0, .int .i64 a0_1]) (t := 35) ?_; intro gb348 hg w14 hbox hb; have BK348 := Az.mk (hbox); have GW348 := gwz hg bw_15; have GE348 := gwz hg bw_15; replace HB := Az.mk (bwT bw_15 hb); clear hb hbox hg; obtain ⟨hcz15_0, hcz15_1, hfz15_0, hfz15_1⟩ := bq2 BK348) | ((with_reducible refine gtC (f := 55) rfl ?_); refine clz Tryd.func55 (some 5) #[.int .i64 a0_0, .int .i64 (-1000), .int .i64 1000] ?_; (with_reducible refine (spec_l1In.calls a0_0 (-1000) 1000 true _ A2.out).mono ?_); rintro e w' ⟨rfl, ⟨nd, rfl⟩⟩; refine ⟨_, rfl, ?_⟩) | (go_at_call 55; (with_reducible refine (spec_l1In.calls a0_1 0 1000 true _ A4.out).mono ?_); rintro e w' ⟨rfl, ⟨nd, rfl⟩⟩) | ((with_reducible refine gtC (f := 63) rfl ?_); refine clz Tryd.func63 (some 27) #[.int .i64 a0_0, .int .i64 a0_1] ?_; (with_reducible refine (spec_l11Gcd.calls k a0_0 a0_1 t352 _ A13.out).mono ?_); rintro e w' ⟨rfl, ⟨nd, rfl⟩⟩; refine ⟨_, rfl, ?_⟩))
  go_ret
  exact ⟨rq1, bw_15⟩
 rw [if_pos c6] at H
 have c6b0 : (a0_1 == 0) = true := beq_iff_eq.mpr c6
 have c6b1 : (a0_1 != 0) = false := bne_eq_false_iff_eq.mpr c6
 clear c6
 by_cases c7 : a0_0 = 1
 rotate_left
 ·rw [if_neg c7] at H
  have c7b0 : (a0_0 == 1) = false := beq_eq_false_iff_ne.mpr c7
  have c7b1 : (a0_0 != 1) = true := bne_iff_ne.mpr c7
  obtain rfl := Option.some.inj H
  go_enter Tryd.func43, Tryd.ntmps43
  go_wp2_with (first | ((with_reducible refine gtD (N := 1) rfl ?_); refine bx (N := 1) (cs := #[.int .i64 a0_0, .int .i64 a0_1]) (t := 35) ?_; intro gb348 hg w11 hbox hb; have BK348 := Az.mk (hbox); have GW348 := gwz hg bw_15; have GE348 := gwz hg bw_15; replace HB := Az.mk (bwT bw_15 hb); clear hb hbox hg; obtain ⟨hcz12_0, hcz12_1, hfz12_0, hfz12_1⟩ := bq2 BK348) | ((with_reducible refine gtC (f := 55) rfl ?_); refine clz Tryd.func55 (some 5) #[.int .i64 a0_0, .int .i64 (-1000), .int .i64 1000] ?_; (with_reducible refine (spec_l1In.calls a0_0 (-1000) 1000 true _ A2.out).mono ?_); rintro e w' ⟨rfl, ⟨nd, rfl⟩⟩; refine ⟨_, rfl, ?_⟩) | (go_at_call 55; (with_reducible refine (spec_l1In.calls a0_1 0 1000 true _ A4.out).mono ?_); rintro e w' ⟨rfl, ⟨nd, rfl⟩⟩))
  go_ret
  exact ⟨rq1, bw_15⟩
 rw [if_pos c7] at H
 have c7b0 : (a0_0 == 1) = true := beq_iff_eq.mpr c7
 have c7b1 : (a0_0 != 1) = false := bne_eq_false_iff_eq.mpr c7
 clear c7
 replace H := bez H
 obtain ⟨t351, A8, H⟩ := H
 replace H : (some (t351 == 1)) = some r := H
 obtain rfl := Option.some.inj H
 go_enter Tryd.func43, Tryd.ntmps43
 go_wp2_with (first | ((with_reducible refine gtD (N := 1) rfl ?_); refine bx (N := 1) (cs := #[.int .i64 a0_0, .int .i64 a0_1]) (t := 35) ?_; intro gb348 hg w9 hbox hb; have BK348 := Az.mk (hbox); have GW348 := gwz hg bw_15; have GE348 := gwz hg bw_15; replace HB := Az.mk (bwT bw_15 hb); clear hb hbox hg; obtain ⟨hcz10_0, hcz10_1, hfz10_0, hfz10_1⟩ := bq2 BK348) | ((with_reducible refine gtC (f := 55) rfl ?_); refine clz Tryd.func55 (some 5) #[.int .i64 a0_0, .int .i64 (-1000), .int .i64 1000] ?_; (with_reducible refine (spec_l1In.calls a0_0 (-1000) 1000 true _ A2.out).mono ?_); rintro e w' ⟨rfl, ⟨nd, rfl⟩⟩; refine ⟨_, rfl, ?_⟩) | (go_at_call 55; (with_reducible refine (spec_l1In.calls a0_1 0 1000 true _ A4.out).mono ?_); rintro e w' ⟨rfl, ⟨nd, rfl⟩⟩) | ((with_reducible refine gtC (f := 63) rfl ?_); refine clz Tryd.func63 (some 27) #[.int .i64 a0_0, .int .i64 a0_1] ?_; (with_reducible refine (spec_l11Gcd.calls k a0_0 a0_1 t351 _ A8.out).mono ?_); rintro e w' ⟨rfl, ⟨nd, rfl⟩⟩; refine ⟨_, rfl, ?_⟩))
 go_ret
 exact ⟨rq1, bw_15⟩

end Go.Proofs.YtnoiijdffdpabaaDoor.P
