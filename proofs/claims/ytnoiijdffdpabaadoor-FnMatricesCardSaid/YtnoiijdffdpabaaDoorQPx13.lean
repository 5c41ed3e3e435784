-- By this session's driver (wip/tools/mk.py) of the kit's print program, over several statements at once. Not trusted: Lean checks it.
import Derived.Test.YtnoiijdffdpabaaDoorQWZip
import Derived.Test.YtnoiijdffdpabaaDoorQPx0
import Derived.Test.YtnoiijdffdpabaaDoorQPx2
import Derived.Test.YtnoiijdffdpabaaDoorQPx12
namespace Go.Proofs.YtnoiijdffdpabaaDoor.P
open Go.RowKit Go.Proofs.YtnoiijdffdpabaaDoorW.PrintWords Go.Proofs.YtnoiijdffdpabaaDoorW.PrintLast Go.Proofs.YtnoiijdffdpabaaDoorW.PrintMore
attribute [local go_sem] max2_int min2_int max_two min_two max_three min_three max_four min_four   -- for this text's walks alone
set_option linter.unusedVariables false
set_option linter.unusedSimpArgs false
open Bool renaming true → T, false → F
theorem bw_13 {n : Nat} {v v' : World} (h : Below n v v' := by repeat (first | (with_reducible first | exact HB.out | apply bwA | apply pbN | apply bwD | refine bwS ?_ GE266.out) | exact HB.out)) : Below n v v' := h
theorem ln_13 {P : Prop} (h : P := by (try simp only [List.map_toArray, List.map_cons, List.map_nil]); first | done | rfl | (simp only [List.length_drop, List.length_take]; rfl)) : P := h
theorem z13_1 {p : Prop} (h : p := by (with_reducible repeat first | apply bkN | apply bkD | apply bkA); refine bkp (cs := #[.int .i64 (wrap64 (Int.tdiv a0 (wrap64 (-t269)))), .int .i64 0]) ?_ 1 _ rfl; (with_reducible repeat first | apply bkN | apply bkD | apply bkA); refine bkp (cs := #[.int .i64 0, .int .i64 0]) ?_ 0 _ rfl; (with_reducible repeat first | apply bkN | apply bkD | apply bkA); exact BK266.out) : p := h
theorem z13_0 {p : Prop} (h : p := by kernel_rfl) : p := h

/-! ### spec_SlopeOf: function 44 -/
def spec_SlopeOf.j0 : Nat → Int → Int → Bool → Option (Int × Int × Bool)
 | 0, _, _, _ => none
 | k + 1, x0, x1, x22 => if x22 = true then (some (0, 0, false)) else ((spec_l11Gcd.f k x0 x1).bind fun t269 => (if x1 < 0 then (if (wrap64 (-t269)) = 0 then (none) else (some (wrap64 (Int.tdiv x0 (wrap64 (-t269))), wrap64 (Int.tdiv x1 (wrap64 (-t269))), true))) else (if x1 = 0 then (if x0 < 0 then (if (wrap64 (-t269)) = 0 then (none) else (some (wrap64 (Int.tdiv x0 (wrap64 (-t269))), wrap64 (Int.tdiv x1 (wrap64 (-t269))), true))) else (if t269 = 0 then (none) else (some (wrap64 (Int.tdiv x0 t269), wrap64 (Int.tdiv x1 t269), true)))) else (if t269 = 0 then (none) else (some (wrap64 (Int.tdiv x0 t269), wrap64 (Int.tdiv x1 t269), true))))))
def spec_SlopeOf.f (k : Nat) (a0 : Int) (a1 : Int) : Option (Int × Int × Bool) := (spec_l1In.f a0 (-1000) 1000).bind fun t267 => (if t267 = true then ((spec_l1In.f a1 (-1000) 1000).bind fun t268 => (if t268 = true then (if a0 = 0 then (spec_SlopeOf.j0 k a0 a1 (a1 == 0)) else (spec_SlopeOf.j0 k a0 a1 false)) else (spec_SlopeOf.j0 k a0 a1 true))) else (spec_SlopeOf.j0 k a0 a1 true))
theorem spec_SlopeOf.mono_l : ∀ k, (∀ y0 y1 y2, LeO (spec_SlopeOf.j0 k y0 y1 y2) (spec_SlopeOf.j0 (k + 1) y0 y1 y2))
 | 0 => fun _ _ _ r h => by simp [spec_SlopeOf.j0] at h
 | k + 1 => by
  have ih0 := spec_SlopeOf.mono_l k
  have i0 := fun z0 z1 z2 => MoO.mk (ih0 z0 z1 z2)
  ·intro y0 y1 y2
   unfold spec_SlopeOf.j0
   exact mo_
theorem spec_SlopeOf.mono : ∀ a0 a1 k, LeO (spec_SlopeOf.f k a0 a1) (spec_SlopeOf.f (k + 1) a0 a1) := by
 intro a0 a1 k
 have ih0 := spec_SlopeOf.mono_l k
 have i0 := fun z0 z1 z2 => MoO.mk (ih0 z0 z1 z2)
 unfold spec_SlopeOf.f
 exact mo_
instance spec_SlopeOf.mi {a0 a1 k} : MoO (spec_SlopeOf.f k a0 a1) (spec_SlopeOf.f (k + 1) a0 a1) := ⟨spec_SlopeOf.mono _ _ _⟩
def spec_SlopeOf.T6 : Bool × List (List Nat × List Nat) := (true, [([], []), ([], []), ([0, 1], [0, 1]), ([], []), ([], []), ([3, 4], [3, 4]), ([2, 5], [2, 5]), ([6, 0, 1, 2, 3, 4, 5, 6], [6]), ([7, 0, 1, 2, 3, 4, 5, 6, 7], [])])
def spec_SlopeOf.B6 : List Nat := [0, 0, 3, 0, 0, 24, 63, 127, 255]
theorem spec_SlopeOf.tab6 : rtab .any (opsOf Tryd.f44 6) = spec_SlopeOf.T6 := by kernel_rfl
theorem spec_SlopeOf.bits6 : waitsOk spec_SlopeOf.T6.2 spec_SlopeOf.B6 = true := by kernel_rfl
set_option maxHeartbeats 8000000 in
set_option maxRecDepth 100000 in
theorem spec_SlopeOf.calls (k : Nat) (a0 : Int) (a1 : Int) (r1 : Int) (r2 : Int) (r3 : Bool) (w : World) (h : spec_SlopeOf.f k a0 a1 = some (r1, r2, r3)) :
  Calls Tryd.prog 44 #[.int .i64 a0, .int .i64 a1] w fun e w' => e = .returned (.tuple #[.agg #[.int .i64 r1, .int .i64 r2], .bool r3]) ∧ Below w.heap.size w w' := by
 have hu35 := Tryd.underlying35
 have HB := Az.mk (Below.refl w.heap.size w)
 have H : ((spec_l1In.f a0 (-1000) 1000).bind fun t267 => (if t267 = true then ((spec_l1In.f a1 (-1000) 1000).bind fun t268 => (if t268 = true then (if a0 = 0 then (spec_SlopeOf.j0 k a0 a1 (a1 == 0)) else (spec_SlopeOf.j0 k a0 a1 false)) else (spec_SlopeOf.j0 k a0 a1 true))) else (spec_SlopeOf.j0 k a0 a1 true))) = some (r1, r2, r3) := h
 clear h
 have HC3 := Az.mk H
 clear H
 go_enter Tryd.func44, Tryd.ntmps44
 go_upto_region 1 with (first | ((with_reducible refine gtD (N := 4) rfl ?_); refine bx (N := 4) (cs := #[.int .i64 0, .int .i64 0]) (t := 35) ?_; intro gb266 hg w4 hbox hb; have BK266 := Az.mk (hbox); have GW266 := gwz hg bw_13; have GE266 := gwz hg bw_13; replace HB := Az.mk (bwT bw_13 hb); clear hb hbox hg))
 (try simp only [Act.put, List.setIfInBounds_toArray, List.set_cons_zero, List.set_cons_succ])
 go_cut [22] (fun v22 wc => ∃ (kq : Nat) (x22_2 : Bool), v22 = .bool x22_2 ∧ Az (spec_SlopeOf.j0 kq a0 a1 x22_2 = some (r1, r2, r3)) ∧ Az (kq ≤ k) ∧ Az (wc.heap[gb266]? = some (.cells #[.int .i64 0, .int .i64 0] 35 (0, 0))) ∧ Az (Below w.heap.size w wc))
 case first =>
  have H := HC3.out
  clear HC3
  replace H := bez H
  obtain ⟨t267, A5, H⟩ := H
  try dsimp only at H
  by_cases c6 : t267 = true
  rotate_left
  ·replace c6 := Bool.eq_false_iff.mpr c6
   subst c6
   rw [if_neg (show ¬ (false = true) by decide)] at H
   have H' := Az.mk H
   clear H
   go_wp2_with (first | ((with_reducible refine gtC (f := 55) rfl ?_); refine clz Tryd.func55 (some 8) #[.int .i64 a0, .int .i64 (-1000), .int .i64 1000] ?_; (with_reducible refine (spec_l1In.calls a0 (-1000) 1000 false _ A5.out).mono ?_); rintro e w' ⟨rfl, ⟨nd, rfl⟩⟩; refine ⟨_, rfl, ?_⟩))
   go_meet
   case rel => exact ⟨_, (true), rq2, H', ⟨by first | omega | exact Nat.le_refl _⟩, ⟨bk1 BK266⟩, ⟨bw_13⟩⟩
  subst c6
  rw [if_pos rfl] at H
  replace H := bez H
  obtain ⟨t268, A7, H⟩ := H
  try dsimp only at H
  by_cases c8 : t268 = true
  rotate_left
  ·replace c8 := Bool.eq_false_iff.mpr c8
   subst c8
   rw [if_neg (show ¬ (false = true) by decide)] at H
   have H' := Az.mk H
   clear H
   go_wp2_with (first | ((with_reducible refine gtC (f := 55) rfl ?_); refine clz Tryd.func55 (some 8) #[.int .i64 a0, .int .i64 (-1000), .int .i64 1000] ?_; (with_reducible refine (spec_l1In.calls a0 (-1000) 1000 true _ A5.out).mono ?_); rintro e w' ⟨rfl, ⟨nd, rfl⟩⟩; refine ⟨_, rfl, ?_⟩) | (go_at_call 55; (with_reducible refine (spec_l1In.calls a1 (-1000) 1000 false _ A7.out).mono ?_); rintro e w' ⟨rfl, ⟨nd, rfl⟩⟩))
   go_meet
   case rel => exact ⟨_, (true), rq2, H', ⟨by first | omega | exact Nat.le_refl _⟩, ⟨bk1 BK266⟩, ⟨bw_13⟩⟩
  subst c8
  rw [if_pos rfl] at H
  by_cases c9 : a0 = 0
  rotate_left
  ·rw [if_neg c9] at H
   have c9b0 : (a0 == 0) = false := beq_eq_false_iff_ne.mpr c9
   have c9b1 : (a0 != 0) = true := bne_iff_ne.mpr c9
   (first | rw [c9b0] | (simp only [i64_w, i32_w]; rw [c9b0]) | skip)
   have H' := Az.mk H
   clear H
   go_wp2_with (first | ((with_reducible refine gtC (f := 55) rfl ?_); refine clz Tryd.func55 (some 8) #[.int .i64 a0, .int .i64 (-1000), .int .i64 1000] ?_; (with_reducible refine (spec_l1In.calls a0 (-1000) 1000 true _ A5.out).mono ?_); rintro e w' ⟨rfl, ⟨nd, rfl⟩⟩; refine ⟨_, rfl, ?_⟩) | (go_at_call 55; (with_reducible refine (spec_l1In.calls a1 (-1000) 1000 true _ A7.out).mono ?_); rintro e w' ⟨rfl, ⟨nd, rfl⟩⟩))
   go_meet
   case rel => exact ⟨_, (false), rq2, H', ⟨by first | omega | exact Nat.le_refl _⟩, ⟨bk1 BK266⟩, ⟨bw_13⟩⟩
  rw [if_pos c9] at H
  have c9b0 : (a0 == 0) = true := beq_iff_eq.mpr c9
  have c9b1 : (a0 != 0) = false := bne_eq_false_iff_eq.mpr c9
  clear c9
  (first | rw [c9b0] | (simp only [i64_w, i32_w]; rw [c9b0]) | skip)
  have H' := Az.mk H
  clear H
  go_wp2_with (first | ((with_reducible refine gtC (f := 55) rfl ?_); refine clz Tryd.func55 (some 8) #[.int .i64 a0, .int .i64 (-1000), .int .i64 1000] ?_; (with_reducible refine (spec_l1In.calls a0 (-1000) 1000 true _ A5.out).mono ?_); rintro e w' ⟨rfl, ⟨nd, rfl⟩⟩; refine ⟨_, rfl, ?_⟩) | (go_at_call 55; (with_reducible refine (spec_l1In.calls a1 (-1000) 1000 true _ A7.out).mono ?_); rintro e w' ⟨rfl, ⟨nd, rfl⟩⟩))
  go_meet
  case rel => exact ⟨_, ((a1 == 0)), rq2, H', ⟨by first | omega | exact Nat.le_refl _⟩, ⟨bk1 BK266⟩, ⟨bw_13⟩⟩
 clear HC3
 try clear c6
 try clear c8
 try clear c9
 try clear c9b0
 try clear c9b1
 obtain ⟨kq, x22_2, rfl, HA, HJ2, BK266, HB⟩ := hcut
 cases kq with
 | zero => exact absurd HA.out (by simp [spec_SlopeOf.j0])
 | succ kj2 =>
  have H := HA.out
  clear HA
  simp only [spec_SlopeOf.j0] at H
  by_cases c10 : x22_2 = true
  ·subst c10
   rw [if_pos rfl] at H
   simp only [Option.some.injEq, Prod.mk.injEq] at H
   obtain ⟨rfl, rfl, rfl⟩ := H
   have hcz11_0 := bkc0 BK266
   have hcz11_1 := bkc1 BK266
   have hfz11_0 := bkF BK266.out 0
   have hfz11_1 := bkF BK266.out 1
   go_wp2
   refine bodyPost_ret (results_ct rfl _ _ gb266 35 #[.int .i64 0, .int .i64 0] (0, 0) _ rfl bkv Tryd.underlying35 rfl z13_0) rfl ?_
   exact ⟨rq1, bw_13⟩
  replace c10 := Bool.eq_false_iff.mpr c10
  subst c10
  rw [if_neg (show ¬ (false = true) by decide)] at H
  replace H := bez H
  obtain ⟨t269, A12, H⟩ := H
  try dsimp only at H
  by_cases c13 : a1 < 0
  ·rw [if_pos c13] at H
   have c13b0 : decide (a1 < 0) = true := decide_eq_true c13
   clear c13
   by_cases c14 : (wrap64 (-t269)) = 0
   ·rw [if_pos c14] at H
    exact absurd H (by simp)
   rw [if_neg c14] at H
   have c14b0 : ((wrap64 (-t269)) == 0) = false := beq_eq_false_iff_ne.mpr c14
   have c14b1 : ((wrap64 (-t269)) != 0) = true := bne_iff_ne.mpr c14
   simp only [Option.some.injEq, Prod.mk.injEq] at H
   obtain ⟨rfl, rfl, rfl⟩ := H
   try go_wp2_with (first | ((with_reducible refine gtC (f := 63) rfl ?_); refine clz Tryd.func63 (some 26) #[.int .i64 a0, .int .i64 a1] ?_; (with_reducible refine (spec_l11Gcd.calls kj2 a0 a1 t269 _ A12.out).mono ?_); rintro e w' ⟨rfl, ⟨nd, rfl⟩⟩; refine ⟨_, rfl, ?_⟩; (try (rw [drewN_self wc]; generalize hq_ : World.drewN wc _ = wc; have n0_ : Az (wc.heap[gb266]? = some (.cells #[.int .i64 0, .int .i64 0] 35 (0, 0))) := ⟨by rw [← hq_]; exact (bk1 BK266)⟩; have n1_ : Az (Below w.heap.size w wc) := ⟨by rw [← hq_]; exact bw_13⟩; clear BK266 HB hq_; have BK266 := n0_; have HB := n1_; clear n0_ n1_))))
   replace BK266 := Az.mk (bkD BK266.out); replace HB := Az.mk (bwD HB.out)
   refine start_ (n := 9) (S := fun w' => True) (ds := []) #[F,F,F,F,F,F,F,F,F] z13_0 rfl rfl trivial (fun hHeld => ?_); refine with_tabW spec_SlopeOf.tab6 spec_SlopeOf.bits6 (fun HT_ HW_ => ?_)
   generalize wc.drew = w15 at BK266 HB hHeld ⊢
   refine pu (i := 0) (N := some 39) #[T,F,F,F,F,F,F,F,F] (any_of HT_.out z13_0) ?_
   refine pu (i := 1) (N := some 40) #[T,T,F,F,F,F,F,F,F] (any_of HT_.out z13_0) ?_
   refine pu (i := 2) (N := some 41) #[T,T,T,F,F,F,F,F,F] (any_of HT_.out z13_0) ?_
   refine pu (i := 3) (N := some 42) #[T,T,T,T,F,F,F,F,F] (any_of HT_.out z13_0) ?_
   refine pu (i := 4) (N := some 43) #[T,T,T,T,T,F,F,F,F] (any_of HT_.out z13_0) ?_
   refine pu (i := 5) (N := some 44) #[T,T,T,T,T,T,F,F,F] (any_of HT_.out z13_0) ?_
   refine pu (i := 6) (N := some 45) #[T,T,T,T,T,T,T,F,F] (any_of HT_.out z13_0) ?_
   refine one_ (i := 7) (N := none) #[T,T,T,T,T,T,T,T,F] rfl rfl (one_of HT_.out z13_0) (by decide) (fun K hK => ?_)
   have hs16 := bkc0 BK266
   have hfs16 := bkF BK266.out 0
   have hs17 := bkc1 BK266
   have hfs17 := bkF BK266.out 1
   refine skip_ (w1 := ?_) (by rfl) rfl ?_ ?_
   rotate_left
   ·go_simp
    rfl
   refine hK.out _ _ trivial (fun hHeld => ?_)
   clear hK K
   refine pu (i := 8) (N := some 5) #[T,T,T,T,T,T,T,T,T] (any_of HT_.out z13_0) ?_
   refine done_ (done_of HT_.out z13_0) ?_
   try go_wp2
   refine bodyPost_ret (results_ct rfl _ _ gb266 35 #[.int .i64 (wrap64 (Int.tdiv a0 (wrap64 (-t269)))), .int .i64 (wrap64 (Int.tdiv a1 (wrap64 (-t269))))] (0, 0) _ rfl z13_1 Tryd.underlying35 rfl z13_0) rfl ?_
   exact ⟨rq1, bw_13⟩
  rw [if_neg c13] at H
  have c13b0 : decide (a1 < 0) = false := decide_eq_false c13
  clear c13
  by_cases c18 : a1 = 0
  rotate_left
  ·rw [if_neg c18] at H
   have c18b0 : (a1 == 0) = false := beq_eq_false_iff_ne.mpr c18
   have c18b1 : (a1 != 0) = true := bne_iff_ne.mpr c18
   by_cases c28 : t269 = 0
   ·rw [if_pos c28] at H
    exact absurd H (by simp)
   rw [if_neg c28] at H
   have c28b0 : (t269 == 0) = false := beq_eq_false_iff_ne.mpr c28
   have c28b1 : (t269 != 0) = true := bne_iff_ne.mpr c28
   simp only [Option.some.injEq, Prod.mk.injEq] at H
   obtain ⟨rfl, rfl, rfl⟩ := H
   try go_wp2_with (first | ((with_reducible refine gtC (f := 63) rfl ?_); refine clz Tryd.func63 (some 26) #[.int .i64 a0, .int .i64 a1] ?_; (with_reducible refine (spec_l11Gcd.calls kj2 a0 a1 t269 _ A12.out).mono ?_); rintro e w' ⟨rfl, ⟨nd, rfl⟩⟩; refine ⟨_, rfl, ?_⟩; (try (rw [drewN_self wc]; generalize hq_ : World.drewN wc _ = wc; have n0_ : Az (wc.heap[gb266]? = some (.cells #[.int .i64 0, .int .i64 0] 35 (0, 0))) := ⟨by rw [← hq_]; exact (bk1 BK266)⟩; have n1_ : Az (Below w.heap.size w wc) := ⟨by rw [← hq_]; exact bw_13⟩; clear BK266 HB hq_; have BK266 := n0_; have HB := n1_; clear n0_ n1_))))
   replace BK266 := Az.mk (bkD BK266.out); replace HB := Az.mk (bwD HB.out)
   refine start_ (n := 9) (S := fun w' => True) (ds := []) #[F,F,F,F,F,F,F,F,F] z13_0 rfl rfl trivial (fun hHeld => ?_); refine with_tabW spec_SlopeOf.tab6 spec_SlopeOf.bits6 (fun HT_ HW_ => ?_)
   generalize wc.drew = w29 at BK266 HB hHeld ⊢
   refine pu (i := 0) (N := some 39) #[T,F,F,F,F,F,F,F,F] (any_of HT_.out z13_0) ?_
   refine pu (i := 1) (N := some 40) #[T,T,F,F,F,F,F,F,F] (any_of HT_.out z13_0) ?_
   refine pu (i := 2) (N := some 41) #[T,T,T,F,F,F,F,F,F] (any_of HT_.out z13_0) ?_
   refine pu (i := 3) (N := some 42) #[T,T,T,T,F,F,F,F,F] (any_of HT_.out z13_0) ?_
   refine pu (i := 4) (N := some 43) #[T,T,T,T,T,F,F,F,F] (any_of HT_.out z13_0) ?_
   refine pu (i := 5) (N := some 44) #[T,T,T,T,T,T,F,F,F] (any_of HT_.out z13_0) ?_
   refine pu (i := 6) (N := some 45) #[T,T,T,T,T,T,T,F,F] (any_of HT_.out z13_0) ?_
   refine one_ (i := 7) (N := none) #[T,T,T,T,T,T,T,T,F] rfl rfl (one_of HT_.out z13_0) (by decide) (fun K hK => ?_)
   have hs30 := bkc0 BK266
   have hfs30 := bkF BK266.out 0
   have hs31 := bkc1 BK266
   have hfs31 := bkF BK266.out 1
   refine skip_ (w1 := ?_) (by rfl) rfl ?_ ?_
   rotate_left
   ·go_simp
    rfl
   refine hK.out _ _ trivial (fun hHeld => ?_)
   clear hK K
   refine pu (i := 8) (N := some 5) #[T,T,T,T,T,T,T,T,T] (any_of HT_.out z13_0) ?_
   refine done_ (done_of HT_.out z13_0) ?_
   try go_wp2
   refine bodyPost_ret (results_ct rfl _ _ gb266 35 #[.int .i64 (wrap64 (Int.tdiv a0 t269)), .int .i64 (wrap64 (Int.tdiv a1 t269))] (0, 0) _ rfl bkv Tryd.underlying35 rfl z13_0) rfl ?_
   exact ⟨rq1, bw_13⟩
  rw [if_pos c18] at H
  have c18b0 : (a1 == 0) = true := beq_iff_eq.mpr c18
  have c18b1 : (a1 != 0) = false := bne_eq_false_iff_eq.mpr c18
  clear c18
  by_cases c19 : a0 < 0
  ·rw [if_pos c19] at H
   have c19b0 : decide (a0 < 0) = true := decide_eq_true c19
   clear c19
   by_cases c20 : (wrap64 (-t269)) = 0
   ·rw [if_pos c20] at H
    exact absurd H (by simp)
   rw [if_neg c20] at H
   have c20b0 : ((wrap64 (-t269)) == 0) = false := beq_eq_false_iff_ne.mpr c20
   have c20b1 : ((wrap64 (-t269)) != 0) = true := bne_iff_ne.mpr c20
   simp only [Option.some.injEq, Prod.mk.injEq] at H
   obtain ⟨rfl, rfl, rfl⟩ := H
   try go_wp2_with (first | ((with_reducible refine gtC (f := 63) rfl ?_); refine clz Tryd.func63 (some 26) #[.int .i64 a0, .int .i64 a1] ?_; (with_reducible refine (spec_l11Gcd.calls kj2 a0 a1 t269 _ A12.out).mono ?_); rintro e w' ⟨rfl, ⟨nd, rfl⟩⟩; refine ⟨_, rfl, ?_⟩; (try (rw [drewN_self wc]; generalize hq_ : World.drewN wc _ = wc; have n0_ : Az (wc.heap[gb266]? = some (.cells #[.int .i64 0, .int .i64 0] 35 (0, 0))) := ⟨by rw [← hq_]; exact (bk1 BK266)⟩; have n1_ : Az (Below w.heap.size w wc) := ⟨by rw [← hq_]; exact bw_13⟩; clear BK266 HB hq_; have BK266 := n0_; have HB := n1_; clear n0_ n1_))))
   replace BK266 := Az.mk (bkD BK266.out); replace HB := Az.mk (bwD HB.out)
   refine start_ (n := 9) (S := fun w' => True) (ds := []) #[F,F,F,F,F,F,F,F,F] z13_0 rfl rfl trivial (fun hHeld => ?_); refine with_tabW spec_SlopeOf.tab6 spec_SlopeOf.bits6 (fun HT_ HW_ => ?_)
   generalize wc.drew = w21 at BK266 HB hHeld ⊢
   refine pu (i := 0) (N := some 39) #[T,F,F,F,F,F,F,F,F] (any_of HT_.out z13_0) ?_
   refine pu (i := 1) (N := some 40) #[T,T,F,F,F,F,F,F,F] (any_of HT_.out z13_0) ?_
   refine pu (i := 2) (N := some 41) #[T,T,T,F,F,F,F,F,F] (any_of HT_.out z13_0) ?_
   refine pu (i := 3) (N := some 42) #[T,T,T,T,F,F,F,F,F] (any_of HT_.out z13_0) ?_
   refine pu (i := 4) (N := some 43) #[T,T,T,T,T,F,F,F,F] (any_of HT_.out z13_0) ?_
   refine pu (i := 5) (N := some 44) #[T,T,T,T,T,T,F,F,F] (any_of HT_.out z13_0) ?_
   refine pu (i := 6) (N := some 45) #[T,T,T,T,T,T,T,F,F] (any_of HT_.out z13_0) ?_
   refine one_ (i := 7) (N := none) #[T,T,T,T,T,T,T,T,F] rfl rfl (one_of HT_.out z13_0) (by decide) (fun K hK => ?_)
   have hs22 := bkc0 BK266
   have hfs22 := bkF BK266.out 0
   have hs23 := bkc1 BK266
   have hfs23 := bkF BK266.out 1
   refine skip_ (w1 := ?_) (by rfl) rfl ?_ ?_
   rotate_left
   ·go_simp
    rfl
   refine hK.out _ _ trivial (fun hHeld => ?_)
   clear hK K
   refine pu (i := 8) (N := some 5) #[T,T,T,T,T,T,T,T,T] (any_of HT_.out z13_0) ?_
   refine done_ (done_of HT_.out z13_0) ?_
   try go_wp2
   refine bodyPost_ret (results_ct rfl _ _ gb266 35 #[.int .i64 (wrap64 (Int.tdiv a0 (wrap64 (-t269)))), .int .i64 (wrap64 (Int.tdiv a1 (wrap64 (-t269))))] (0, 0) _ rfl z13_1 Tryd.underlying35 rfl z13_0) rfl ?_
   exact ⟨rq1, bw_13⟩
  rw [if_neg c19] at H
  have c19b0 : decide (a0 < 0) = false := decide_eq_false c19
  clear c19
  by_cases c24 : t269 = 0
  ·rw [if_pos c24] at H
   exact absurd H (by simp)
  rw [if_neg c24] at H
  have c24b0 : (t269 == 0) = false := beq_eq_false_iff_ne.mpr c24
  have c24b1 : (t269 != 0) = true := bne_iff_ne.mpr c24
  simp only [Option.some.injEq, Prod.mk.injEq] at H
  obtain ⟨rfl, rfl, rfl⟩ := H
  try go_wp2_with (first | ((with_reducible refine gtC (f := 63) rfl ?_); refine clz Tryd.func63 (some 26) #[.int .i64 a0, .int .i64 a1] ?_; (with_reducible refine (spec_l11Gcd.calls kj2 a0 a1 t269 _ A12.out).mono ?_); rintro e w' ⟨rfl, ⟨nd, rfl⟩⟩; refine ⟨_, rfl, ?_⟩; (try (rw [drewN_self wc]; generalize hq_ : World.drewN wc _ = wc; have n0_ : Az (wc.heap[gb266]? = some (.cells #[.int .i64 0, .int .i64 0] 35 (0, 0))) := ⟨by rw [← hq_]; exact (bk1 BK266)⟩; have n1_ : Az (Below w.heap.size w wc) := ⟨by rw [← hq_]; exact bw_13⟩; clear BK266 HB hq_; have BK266 := n0_; have HB := n1_; clear n0_ n1_))))
  replace BK266 := Az.mk (bkD BK266.out); replace HB := Az.mk (bwD HB.out)
  refine start_ (n := 9) (S := fun w' => True) (ds := []) #[F,F,F,F,F,F,F,F,F] z13_0 rfl rfl trivial (fun hHeld => ?_); refine with_tabW spec_SlopeOf.tab6 spec_SlopeOf.bits6 (fun HT_ HW_ => ?_)
  generalize wc.drew = w25 at BK266 HB hHeld ⊢
  refine pu (i := 0) (N := some 39) #[T,F,F,F,F,F,F,F,F] (any_of HT_.out z13_0) ?_
  refine pu (i := 1) (N := some 40) #[T,T,F,F,F,F,F,F,F] (any_of HT_.out z13_0) ?_
  refine pu (i := 2) (N := some 41) #[T,T,T,F,F,F,F,F,F] (any_of HT_.out z13_0) ?_
  refine pu (i := 3) (N := some 42) #[T,T,T,T,F,F,F,F,F] (any_of HT_.out z13_0) ?_
  refine pu (i := 4) (N := some 43) #[T,T,T,T,T,F,F,F,F] (any_of HT_.out z13_0) ?_
  refine pu (i := 5) (N := some 44) #[T,T,T,T,T,T,F,F,F] (any_of HT_.out z13_0) ?_
  refine pu (i := 6) (N := some 45) #[T,T,T,T,T,T,T,F,F] (any_of HT_.out z13_0) ?_
  refine one_ (i := 7) (N := none) #[T,T,T,T,T,T,T,T,F] rfl rfl (one_of HT_.out z13_0) (by decide) (fun K hK => ?_)
  have hs26 := bkc0 BK266
  have hfs26 := bkF BK266.out 0
  have hs27 := bkc1 BK266
  have hfs27 := bkF BK266.out 1
  refine skip_ (w1 := ?_) (by rfl) rfl ?_ ?_
  rotate_left
  ·go_simp
   rfl
  refine hK.out _ _ trivial (fun hHeld => ?_)
  clear hK K
  refine pu (i := 8) (N := some 5) #[T,T,T,T,T,T,T,T,T] (any_of HT_.out z13_0) ?_
  refine done_ (done_of HT_.out z13_0) ?_
  try go_wp2
  refine bodyPost_ret (results_ct rfl _ _ gb266 35 #[.int .i64 (wrap64 (Int.tdiv a0 t269)), .int .i64 (wrap64 (Int.tdiv a1 t269))] (0, 0) _ rfl bkv Tryd.underlying35 rfl z13_0) rfl ?_
  exact ⟨rq1, bw_13⟩

end Go.Proofs.YtnoiijdffdpabaaDoor.P
