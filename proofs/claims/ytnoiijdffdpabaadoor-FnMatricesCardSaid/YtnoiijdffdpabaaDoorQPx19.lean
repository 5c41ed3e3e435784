-- By this session's driver (wip/tools/mk.py) of the kit's print program, over several statements at once. Not trusted: Lean checks it.
import Derived.Test.YtnoiijdffdpabaaDoorQWZip
import Derived.Test.YtnoiijdffdpabaaDoorQPx0
import Derived.Test.YtnoiijdffdpabaaDoorQPx2
import Derived.Test.YtnoiijdffdpabaaDoorQPx5
import Derived.Test.YtnoiijdffdpabaaDoorQPx16
namespace Go.Proofs.YtnoiijdffdpabaaDoor.P
open Go.RowKit Go.Proofs.YtnoiijdffdpabaaDoorW.PrintWords Go.Proofs.YtnoiijdffdpabaaDoorW.PrintLast Go.Proofs.YtnoiijdffdpabaaDoorW.PrintMore
attribute [local go_sem] max2_int min2_int max_two min_two max_three min_three max_four min_four   -- for this text's walks alone
set_option linter.unusedVariables false
set_option linter.unusedSimpArgs false
open Bool renaming true → T, false → F
theorem bw_19 {n : Nat} {v v' : World} (h : Below n v v' := by repeat (first | (with_reducible first | exact HB.out | apply bwA | apply pbN | apply bwD | refine bwS ?_ GE420.out | refine bwS ?_ GE422.out) | exact HB.out)) : Below n v v' := h
theorem ln_19 {P : Prop} (h : P := by (try simp only [List.map_toArray, List.map_cons, List.map_nil]); first | done | rfl | (simp only [List.length_drop, List.length_take]; rfl)) : P := h
open Option renaming bind_eq_some_iff → be

attribute [local go_sem high] eqA25
/-! ### spec_TraceOf: function 26 -/
def spec_TraceOf.f (k : Nat) (a0_0 : Int) (a0_1 : Int) (a0_2 : Int) (a0_3 : Int) : Option (Int) := (spec_IsMatrix.f k a0_0 a0_1 a0_2 a0_3).bind fun t421 => (if t421 = true then (some (wrap64 (a0_0 + a0_3))) else (some 0))
theorem spec_TraceOf.mono : ∀ a0 a1 a2 a3 k, LeO (spec_TraceOf.f k a0 a1 a2 a3) (spec_TraceOf.f (k + 1) a0 a1 a2 a3) := by
 intro a0 a1 a2 a3 k
 unfold spec_TraceOf.f
 exact mo_
instance spec_TraceOf.mi {a0 a1 a2 a3 k} : MoO (spec_TraceOf.f k a0 a1 a2 a3) (spec_TraceOf.f (k + 1) a0 a1 a2 a3) := ⟨spec_TraceOf.mono _ _ _ _ _⟩
set_option maxHeartbeats 8000000 in
set_option maxRecDepth 100000 in
theorem spec_TraceOf.calls (k : Nat) (a0_0 : Int) (a0_1 : Int) (a0_2 : Int) (a0_3 : Int) (r : Int) (w : World) (h : spec_TraceOf.f k a0_0 a0_1 a0_2 a0_3 = some r) :
  Calls Tryd.prog 26 #[.agg #[.int .i64 a0_0, .int .i64 a0_1, .int .i64 a0_2, .int .i64 a0_3]] w fun e w' => e = .returned (.int .i64 r) ∧ Below w.heap.size w w' := by
 have hu25 := Tryd.underlying25
 have HB := Az.mk (Below.refl w.heap.size w)
 have H : ((spec_IsMatrix.f k a0_0 a0_1 a0_2 a0_3).bind fun t421 => (if t421 = true then (some (wrap64 (a0_0 + a0_3))) else (some 0))) = some r := h
 clear h
 replace H := bez H
 obtain ⟨t421, A2, H⟩ := H
 try dsimp only at H
 by_cases c3 : t421 = true
 ·subst c3
  rw [if_pos rfl] at H
  obtain rfl := Option.some.inj H
  go_enter Tryd.func26, Tryd.ntmps26
  go_wp2_with (first | ((with_reducible refine gtD (N := 1) rfl ?_); refine bx (N := 1) (cs := #[.int .i64 a0_0, .int .i64 a0_1, .int .i64 a0_2, .int .i64 a0_3]) (t := 25) ?_; intro gb420 hg w4 hbox hb; have BK420 := Az.mk (hbox); have GW420 := gwz hg bw_19; have GE420 := gwz hg bw_19; replace HB := Az.mk (bwT bw_19 hb); clear hb hbox hg; obtain ⟨hcz5_0, hcz5_1, hcz5_2, hcz5_3, hfz5_0, hfz5_1, hfz5_2, hfz5_3⟩ := bq4 BK420) | ((with_reducible refine gtC (f := 22) rfl ?_); refine clz Tryd.func22 (some 4) #[.agg #[.int .i64 a0_0, .int .i64 a0_1, .int .i64 a0_2, .int .i64 a0_3]] ?_; (with_reducible refine (spec_IsMatrix.calls k a0_0 a0_1 a0_2 a0_3 true _ A2.out).mono ?_); rintro e w6 ⟨rfl, hb⟩; refine ⟨_, rfl, ?_⟩; replace BK420 := bkz BK420 hb; replace HB := Az.mk (bwT bw_19 hb); (try clear hb); obtain ⟨hcz7_0, hcz7_1, hcz7_2, hcz7_3, hfz7_0, hfz7_1, hfz7_2, hfz7_3⟩ := bq4 BK420))
  go_ret
  exact ⟨rq1, bw_19⟩
 replace c3 := Bool.eq_false_iff.mpr c3
 subst c3
 rw [if_neg (show ¬ (false = true) by decide)] at H
 obtain rfl := Option.some.inj H
 go_enter Tryd.func26, Tryd.ntmps26
 go_wp2_with (first | ((with_reducible refine gtD (N := 1) rfl ?_); refine bx (N := 1) (cs := #[.int .i64 a0_0, .int .i64 a0_1, .int .i64 a0_2, .int .i64 a0_3]) (t := 25) ?_; intro gb420 hg w8 hbox hb; have BK420 := Az.mk (hbox); have GW420 := gwz hg bw_19; have GE420 := gwz hg bw_19; replace HB := Az.mk (bwT bw_19 hb); clear hb hbox hg; obtain ⟨hcz9_0, hcz9_1, hcz9_2, hcz9_3, hfz9_0, hfz9_1, hfz9_2, hfz9_3⟩ := bq4 BK420) | ((with_reducible refine gtC (f := 22) rfl ?_); refine clz Tryd.func22 (some 4) #[.agg #[.int .i64 a0_0, .int .i64 a0_1, .int .i64 a0_2, .int .i64 a0_3]] ?_; (with_reducible refine (spec_IsMatrix.calls k a0_0 a0_1 a0_2 a0_3 false _ A2.out).mono ?_); rintro e w10 ⟨rfl, hb⟩; refine ⟨_, rfl, ?_⟩; replace BK420 := bkz BK420 hb; replace HB := Az.mk (bwT bw_19 hb); (try clear hb)))
 go_ret
 exact ⟨rq1, bw_19⟩

/-! ### impl_KindOf: function 27 -/
def impl_KindOf.j0 : Nat → Int → Bool → Option (ByteArray)
 | 0, _, _ => none
 | k + 1, x3, x13 => if x13 = true then (some (⟨#[105, 100, 101, 110, 116, 105, 116, 121]⟩ : ByteArray)) else ((impl_within.f x3 (-1) 1).bind fun t428 => (if t428 = true then (some (⟨#[112, 101, 114, 105, 111, 100, 105, 99]⟩ : ByteArray)) else (if x3 = 2 then (some (⟨#[116, 119, 105, 115, 116]⟩ : ByteArray)) else (if x3 = (-2) then (some (⟨#[116, 119, 105, 115, 116]⟩ : ByteArray)) else (some (⟨#[115, 116, 114, 101, 116, 99, 104]⟩ : ByteArray))))))
def impl_KindOf.f (k : Nat) (a0_0 : Int) (a0_1 : Int) (a0_2 : Int) (a0_3 : Int) : Option (ByteArray) := (impl_IsMatrix.f k a0_0 a0_1 a0_2 a0_3).bind fun t423 => (if t423 = true then ((impl_one.f).bind fun bt424 => (if (a0_0 == bt424.1 && (a0_1 == bt424.2.1 && (a0_2 == bt424.2.2.1 && (a0_3 == bt424.2.2.2)))) = true then (impl_KindOf.j0 k (wrap64 (a0_0 + a0_3)) true) else (impl_KindOf.j0 k (wrap64 (a0_0 + a0_3)) (a0_0 == (-1) && (a0_1 == 0 && (a0_2 == 0 && (a0_3 == (-1)))))))) else (some (⟨#[]⟩ : ByteArray)))
theorem impl_KindOf.mono_l : ∀ k, (∀ y0 y1, LeO (impl_KindOf.j0 k y0 y1) (impl_KindOf.j0 (k + 1) y0 y1))
 | 0 => fun _ _ r h => by simp [impl_KindOf.j0] at h
 | k + 1 => by
  have ih0 := impl_KindOf.mono_l k
  have i0 := fun z0 z1 => MoO.mk (ih0 z0 z1)
  ·intro y0 y1
   unfold impl_KindOf.j0
   exact mo_
theorem impl_KindOf.mono : ∀ a0 a1 a2 a3 k, LeO (impl_KindOf.f k a0 a1 a2 a3) (impl_KindOf.f (k + 1) a0 a1 a2 a3) := by
 intro a0 a1 a2 a3 k
 have ih0 := impl_KindOf.mono_l k
 have i0 := fun z0 z1 => MoO.mk (ih0 z0 z1)
 unfold impl_KindOf.f
 exact mo_
instance impl_KindOf.mi {a0 a1 a2 a3 k} : MoO (impl_KindOf.f k a0 a1 a2 a3) (impl_KindOf.f (k + 1) a0 a1 a2 a3) := ⟨impl_KindOf.mono _ _ _ _ _⟩
def impl_KindOf.T4 : Bool × List (List Nat × List Nat) := (true, [([], []), ([], []), ([0, 1], [0, 1]), ([2, 1], [2]), ([3], [3]), ([3], [3]), ([4, 5, 3], [3, 4, 5]), ([3, 6], [3, 6]), ([7, 3], [7])])
def impl_KindOf.B4 : List Nat := [0, 0, 3, 7, 15, 15, 63, 127, 255]
theorem impl_KindOf.tab4 : rtab .any (opsOf Tryd.f27 4) = impl_KindOf.T4 := by kernel_rfl
theorem impl_KindOf.bits4 : waitsOk impl_KindOf.T4.2 impl_KindOf.B4 = true := by kernel_rfl
set_option maxHeartbeats 8000000 in
set_option maxRecDepth 100000 in
theorem impl_KindOf.calls (k : Nat) (a0_0 : Int) (a0_1 : Int) (a0_2 : Int) (a0_3 : Int) (r : ByteArray) (w : World) (h : impl_KindOf.f k a0_0 a0_1 a0_2 a0_3 = some r) :
  Calls Tryd.prog 27 #[.agg #[.int .i64 a0_0, .int .i64 a0_1, .int .i64 a0_2, .int .i64 a0_3]] w fun e w' => e = .returned (.string r) ∧ Below w.heap.size w w' := by
 have hu25 := Tryd.underlying25
 have HB := Az.mk (Below.refl w.heap.size w)
 have H : ((impl_IsMatrix.f k a0_0 a0_1 a0_2 a0_3).bind fun t423 => (if t423 = true then ((impl_one.f).bind fun bt424 => (if (a0_0 == bt424.1 && (a0_1 == bt424.2.1 && (a0_2 == bt424.2.2.1 && (a0_3 == bt424.2.2.2)))) = true then (impl_KindOf.j0 k (wrap64 (a0_0 + a0_3)) true) else (impl_KindOf.j0 k (wrap64 (a0_0 + a0_3)) (a0_0 == (-1) && (a0_1 == 0 && (a0_2 == 0 && (a0_3 == (-1)))))))) else (some (⟨#[]⟩ : ByteArray)))) = some r := h
 clear h
 replace H := bez H
 obtain ⟨t423, A2, H⟩ := H
 try dsimp only at H
 by_cases c3 : t423 = true
 rotate_left
 ·replace c3 := Bool.eq_false_iff.mpr c3
  subst c3
  rw [if_neg (show ¬ (false = true) by decide)] at H
  obtain rfl := Option.some.inj H
  go_enter Tryd.func27, Tryd.ntmps27
  go_wp2_with (first | ((with_reducible refine gtD (N := 1) rfl ?_); refine bx (N := 1) (cs := #[.int .i64 a0_0, .int .i64 a0_1, .int .i64 a0_2, .int .i64 a0_3]) (t := 25) ?_; intro gb422 hg w19 hbox hb; have BK422 := Az.mk (hbox); have GW422 := gwz hg bw_19; have GE422 := gwz hg bw_19; replace HB := Az.mk (bwT bw_19 hb); clear hb hbox hg; obtain ⟨hcz20_0, hcz20_1, hcz20_2, hcz20_3, hfz20_0, hfz20_1, hfz20_2, hfz20_3⟩ := bq4 BK422) | ((with_reducible refine gtC (f := 21) rfl ?_); refine clz Tryd.func21 (some 11) #[.agg #[.int .i64 a0_0, .int .i64 a0_1, .int .i64 a0_2, .int .i64 a0_3]] ?_; (with_reducible refine (impl_IsMatrix.calls k a0_0 a0_1 a0_2 a0_3 false _ A2.out).mono ?_); rintro e w21 ⟨rfl, hb⟩; refine ⟨_, rfl, ?_⟩; replace BK422 := bkz BK422 hb; replace HB := Az.mk (bwT bw_19 hb); (try clear hb)))
  go_ret
  exact ⟨rq1, bw_19⟩
 subst c3
 rw [if_pos rfl] at H
 have HC4 := Az.mk H
 clear H
 go_enter Tryd.func27, Tryd.ntmps27
 go_upto_region 4 with (first | ((with_reducible refine gtD (N := 1) rfl ?_); refine bx (N := 1) (cs := #[.int .i64 a0_0, .int .i64 a0_1, .int .i64 a0_2, .int .i64 a0_3]) (t := 25) ?_; intro gb422 hg w5 hbox hb; have BK422 := Az.mk (hbox); have GW422 := gwz hg bw_19; have GE422 := gwz hg bw_19; replace HB := Az.mk (bwT bw_19 hb); clear hb hbox hg; obtain ⟨hcz6_0, hcz6_1, hcz6_2, hcz6_3, hfz6_0, hfz6_1, hfz6_2, hfz6_3⟩ := bq4 BK422) | ((with_reducible refine gtC (f := 21) rfl ?_); refine clz Tryd.func21 (some 11) #[.agg #[.int .i64 a0_0, .int .i64 a0_1, .int .i64 a0_2, .int .i64 a0_3]] ?_; (with_reducible refine (impl_IsMatrix.calls k a0_0 a0_1 a0_2 a0_3 true _ A2.out).mono ?_); rintro e w7 ⟨rfl, hb⟩; refine ⟨_, rfl, ?_⟩; replace BK422 := bkz BK422 hb; replace HB := Az.mk (bwT bw_19 hb); (try clear hb)))
 (try simp only [Act.put, List.setIfInBounds_toArray, List.set_cons_zero, List.set_cons_succ])
 go_cut [13] (fun v13 wc => ∃ (kq : Nat) (x13_3 : Bool), v13 = .bool x13_3 ∧ Az (impl_KindOf.j0 kq (wrap64 (a0_0 + a0_3)) x13_3 = some r) ∧ Az (kq ≤ k) ∧ Az (wc.heap[gb422]? = some (.cells #[.int .i64 a0_0, .int .i64 a0_1, .int .i64 a0_2, .int .i64 a0_3] 25 (0, 0))) ∧ Az (Below w.heap.size w wc))
 case first =>
  have H := HC4.out
  clear HC4
  replace H := bez H
  obtain ⟨⟨t424, t425, t426, t427⟩, A8, H⟩ := H
  try dsimp only at H
  by_cases c9 : (a0_0 == t424 && (a0_1 == t425 && (a0_2 == t426 && (a0_3 == t427)))) = true
  rotate_left
  ·rw [if_neg c9] at H
   have c9b0 : (a0_0 == t424 && (a0_1 == t425 && (a0_2 == t426 && (a0_3 == t427)))) = false := by simpa using c9
   (try (have c9b1 : decide (a0_0 = t424 && (a0_1 == t425 && (a0_2 == t426 && (a0_3 == t427)))) = false := by simpa using c9))
   (try (have c9b2 : (a0_0 == t424 && (a0_1 == t425 && (a0_2 == t426 && (a0_3 == t427)))) = false := by simpa using c9))
   (try (have c9b3 : ¬ (a0_0 = t424 && (a0_1 == t425 && (a0_2 == t426 && (a0_3 == t427)))) := by simpa using c9))
   clear c9
   (first | rw [c9b0] | (simp only [i64_w, i32_w]; rw [c9b0]) | skip)
   have H' := Az.mk H
   clear H
   try go_wp2
   replace BK422 := Az.mk (bkD BK422.out); replace HB := Az.mk (bwD HB.out)
   refine start_ (n := 9) (S := fun w' => w'.cell? ⟨gb422, 0, none⟩ = some (.int .i64 a0_0) ∧ w'.cell? ⟨gb422, 1, none⟩ = some (.int .i64 a0_1) ∧ w'.cell? ⟨gb422, 2, none⟩ = some (.int .i64 a0_2) ∧ w'.cell? ⟨gb422, 3, none⟩ = some (.int .i64 a0_3)) (ds := []) #[F,F,F,F,F,F,F,F,F] (by kernel_rfl) rfl rfl cs_ (fun hHeld => ?_); refine with_tabW impl_KindOf.tab4 impl_KindOf.bits4 (fun HT_ HW_ => ?_)
   generalize w7.drew = w12 at BK422 HB hHeld ⊢
   refine take_ (i := 0) (N := some 14) (v := ?_) (a' := ?_) #[T,F,F,F,F,F,F,F,F] rfl rfl (take_ofW HT_.out HW_.out (by kernel_rfl)) (fun _ _ _ h => h) (Or.inl ⟨by rfl, ?_⟩) hHeld ?_ ?_
   rotate_left
   ·rintro w' ⟨s0, s1, s2, s3⟩
    go_simp
    with_reducible rfl
   rotate_left
   ·exact acq
   refine one_ (i := 1) (N := some 15) #[T,T,F,F,F,F,F,F,F] rfl rfl (one_of HT_.out (by kernel_rfl)) (by decide) (fun K hK => ?_)
   refine goes_ Tryd.func48 (by kernel_rfl) rfl #[] (by rfl) rfl rfl ln_19 ?_
   with_reducible refine (impl_one.calls  t424 t425 t426 t427 _ A8.out).mono ?_
   rintro e w13 ⟨rfl, hb⟩
   refine ⟨_, rfl, ?_⟩
   replace BK422 := bkz BK422 hb; replace HB := Az.mk (bwT bw_19 hb)
   (try clear hb)
   (try clear hb2)
   (try clear hk)
   (try clear hi)
   refine hK.out _ _ cs_ (fun hHeld => ?_)
   clear hK K
   refine norm_ (a' := ?_) ?_ ?_
   rotate_left
   ·show Act.put _ (some 15) _ = _
    exact acq
   refine pu (i := 2) (N := some 16) #[T,T,T,F,F,F,F,F,F] (any_of HT_.out (by kernel_rfl)) ?_
   refine pu (i := 3) (N := some 17) #[T,T,T,T,F,F,F,F,F] (any_of HT_.out (by kernel_rfl)) ?_
   refine pu (i := 5) (N := some 19) #[T,T,T,T,F,T,F,F,F] (any_of HT_.out (by kernel_rfl)) ?_
   refine take_ (i := 4) (N := some 18) (v := ?_) (a' := ?_) #[T,T,T,T,T,T,F,F,F] rfl rfl (take_ofW HT_.out HW_.out (by kernel_rfl)) (fun _ _ _ h => h) (Or.inl ⟨by rfl, ?_⟩) hHeld ?_ ?_
   rotate_left
   ·rintro w' ⟨s0, s1, s2, s3⟩
    go_simp
    with_reducible rfl
   rotate_left
   ·exact acq
   refine pu (i := 6) (N := some 20) #[T,T,T,T,T,T,T,F,F] (any_of HT_.out (by kernel_rfl)) ?_
   refine pu (i := 7) (N := some 21) #[T,T,T,T,T,T,T,T,F] (any_of HT_.out (by kernel_rfl)) ?_
   refine pu (i := 8) (N := some 13) #[T,T,T,T,T,T,T,T,T] (any_of HT_.out (by kernel_rfl)) ?_
   refine done_ (done_of HT_.out (by kernel_rfl)) ?_
   try go_wp2
   go_meet
   case rel => exact ⟨_, ((a0_0 == (-1) && (a0_1 == 0 && (a0_2 == 0 && (a0_3 == (-1)))))), rq2, H', ⟨by first | omega | exact Nat.le_refl _⟩, ⟨bk1 BK422⟩, ⟨bw_19⟩⟩
  rw [if_pos c9] at H
  have c9b0 : (a0_0 == t424 && (a0_1 == t425 && (a0_2 == t426 && (a0_3 == t427)))) = true := c9
  (try (have c9b1 : decide (a0_0 = t424 && (a0_1 == t425 && (a0_2 == t426 && (a0_3 == t427)))) = true := by simpa using c9))
  (try (have c9b2 : (a0_0 == t424 && (a0_1 == t425 && (a0_2 == t426 && (a0_3 == t427)))) = true := by simpa using c9))
  clear c9
  (first | rw [c9b0] | (simp only [i64_w, i32_w]; rw [c9b0]) | skip)
  have H' := Az.mk H
  clear H
  try go_wp2
  replace BK422 := Az.mk (bkD BK422.out); replace HB := Az.mk (bwD HB.out)
  refine start_ (n := 9) (S := fun w' => w'.cell? ⟨gb422, 0, none⟩ = some (.int .i64 a0_0) ∧ w'.cell? ⟨gb422, 1, none⟩ = some (.int .i64 a0_1) ∧ w'.cell? ⟨gb422, 2, none⟩ = some (.int .i64 a0_2) ∧ w'.cell? ⟨gb422, 3, none⟩ = some (.int .i64 a0_3)) (ds := []) #[F,F,F,F,F,F,F,F,F] (by kernel_rfl) rfl rfl cs_ (fun hHeld => ?_); refine with_tabW impl_KindOf.tab4 impl_KindOf.bits4 (fun HT_ HW_ => ?_)
  generalize w7.drew = w10 at BK422 HB hHeld ⊢
  refine take_ (i := 0) (N := some 14) (v := ?_) (a' := ?_) #[T,F,F,F,F,F,F,F,F] rfl rfl (take_ofW HT_.out HW_.out (by kernel_rfl)) (fun _ _ _ h => h) (Or.inl ⟨by rfl, ?_⟩) hHeld ?_ ?_
  rotate_left
  ·rintro w' ⟨s0, s1, s2, s3⟩
   go_simp
   with_reducible rfl
  rotate_left
  ·exact acq
  refine one_ (i := 1) (N := some 15) #[T,T,F,F,F,F,F,F,F] rfl rfl (one_of HT_.out (by kernel_rfl)) (by decide) (fun K hK => ?_)
  refine goes_ Tryd.func48 (by kernel_rfl) rfl #[] (by rfl) rfl rfl ln_19 ?_
  with_reducible refine (impl_one.calls  t424 t425 t426 t427 _ A8.out).mono ?_
  rintro e w11 ⟨rfl, hb⟩
  refine ⟨_, rfl, ?_⟩
  replace BK422 := bkz BK422 hb; replace HB := Az.mk (bwT bw_19 hb)
  (try clear hb)
  (try clear hb2)
  (try clear hk)
  (try clear hi)
  refine hK.out _ _ cs_ (fun hHeld => ?_)
  clear hK K
  refine norm_ (a' := ?_) ?_ ?_
  rotate_left
  ·show Act.put _ (some 15) _ = _
   exact acq
  refine pu (i := 2) (N := some 16) #[T,T,T,F,F,F,F,F,F] (any_of HT_.out (by kernel_rfl)) ?_
  refine pu (i := 3) (N := some 17) #[T,T,T,T,F,F,F,F,F] (any_of HT_.out (by kernel_rfl)) ?_
  refine pure_ (i := 4) (N := some 18) (v := undef) (a' := ?_) #[T,T,T,T,T,F,F,F,F] rfl rfl (any_of HT_.out (by kernel_rfl)) (fun _ _ _ h => h) (Or.inr ⟨by rfl, rfl⟩) ?_ ?_
  rotate_left
  ·exact acq
  refine pure_ (i := 5) (N := some 19) (v := undef) (a' := ?_) #[T,T,T,T,T,T,F,F,F] rfl rfl (any_of HT_.out (by kernel_rfl)) (fun _ _ _ h => h) (Or.inr ⟨by rfl, rfl⟩) ?_ ?_
  rotate_left
  ·exact acq
  refine pure_ (i := 6) (N := some 20) (v := undef) (a' := ?_) #[T,T,T,T,T,T,T,F,F] rfl rfl (any_of HT_.out (by kernel_rfl)) (fun _ _ _ h => h) (Or.inr ⟨by rfl, rfl⟩) ?_ ?_
  rotate_left
  ·exact acq
  refine pu (i := 7) (N := some 21) #[T,T,T,T,T,T,T,T,F] (any_of HT_.out (by kernel_rfl)) ?_
  refine pu (i := 8) (N := some 13) #[T,T,T,T,T,T,T,T,T] (any_of HT_.out (by kernel_rfl)) ?_
  refine done_ (done_of HT_.out (by kernel_rfl)) ?_
  try go_wp2
  go_meet
  case rel => exact ⟨_, (true), rq2, H', ⟨by first | omega | exact Nat.le_refl _⟩, ⟨bk1 BK422⟩, ⟨bw_19⟩⟩
 clear HC4
 try clear c3
 try clear c9
 try clear c9b0
 try clear c9b1
 try clear c9b2
 try clear hcz6_0
 try clear hcz6_1
 try clear hcz6_2
 try clear hcz6_3
 try clear hfz6_0
 try clear hfz6_1
 try clear hfz6_2
 try clear hfz6_3
 obtain ⟨kq, x13_3, rfl, HA, HJ3, BK422, HB⟩ := hcut
 cases kq with
 | zero => exact absurd HA.out (by simp [impl_KindOf.j0])
 | succ kj3 =>
  have H := HA.out
  clear HA
  simp only [impl_KindOf.j0] at H
  by_cases c14 : x13_3 = true
  ·subst c14
   rw [if_pos rfl] at H
   obtain rfl := Option.some.inj H
   go_wp2
   go_ret
   exact ⟨rq1, bw_19⟩
  replace c14 := Bool.eq_false_iff.mpr c14
  subst c14
  rw [if_neg (show ¬ (false = true) by decide)] at H
  replace H := bez H
  obtain ⟨t428, A15, H⟩ := H
  try dsimp only at H
  by_cases c16 : t428 = true
  ·subst c16
   rw [if_pos rfl] at H
   obtain rfl := Option.some.inj H
   go_wp2_with (first | ((with_reducible refine gtC (f := 54) rfl ?_); refine clz Tryd.func54 (some 24) #[.int .i64 (wrap64 (a0_0 + a0_3)), .int .i64 (-1), .int .i64 1] ?_; (with_reducible refine (impl_within.calls (wrap64 (a0_0 + a0_3)) (-1) 1 true _ A15.out).mono ?_); rintro e w' ⟨rfl, ⟨nd, rfl⟩⟩; refine ⟨_, rfl, ?_⟩))
   go_ret
   exact ⟨rq1, bw_19⟩
  replace c16 := Bool.eq_false_iff.mpr c16
  subst c16
  rw [if_neg (show ¬ (false = true) by decide)] at H
  by_cases c17 : (wrap64 (a0_0 + a0_3)) = 2
  ·rw [if_pos c17] at H
   have c17b0 : ((wrap64 (a0_0 + a0_3)) == 2) = true := beq_iff_eq.mpr c17
   have c17b1 : ((wrap64 (a0_0 + a0_3)) != 2) = false := bne_eq_false_iff_eq.mpr c17
   clear c17
   obtain rfl := Option.some.inj H
   go_wp2_with (first | ((with_reducible refine gtC (f := 54) rfl ?_); refine clz Tryd.func54 (some 24) #[.int .i64 (wrap64 (a0_0 + a0_3)), .int .i64 (-1), .int .i64 1] ?_; (with_reducible refine (impl_within.calls (wrap64 (a0_0 + a0_3)) (-1) 1 false _ A15.out).mono ?_); rintro e w' ⟨rfl, ⟨nd, rfl⟩⟩; refine ⟨_, rfl, ?_⟩))
   go_ret
   exact ⟨rq1, bw_19⟩
  rw [if_neg c17] at H
  have c17b0 : ((wrap64 (a0_0 + a0_3)) == 2) = false := beq_eq_false_iff_ne.mpr c17
  have c17b1 : ((wrap64 (a0_0 + a0_3)) != 2) = true := bne_iff_ne.mpr c17
  by_cases c18 : (wrap64 (a0_0 + a0_3)) = (-2)
  rotate_left
  ·rw [if_neg c18] at H
   have c18b0 : ((wrap64 (a0_0 + a0_3)) == (-2)) = false := beq_eq_false_iff_ne.mpr c18
   have c18b1 : ((wrap64 (a0_0 + a0_3)) != (-2)) = true := bne_iff_ne.mpr c18
   obtain rfl := Option.some.inj H
   go_wp2_with (first | ((with_reducible refine gtC (f := 54) rfl ?_); refine clz Tryd.func54 (some 24) #[.int .i64 (wrap64 (a0_0 + a0_3)), .int .i64 (-1), .int .i64 1] ?_; (with_reducible refine (impl_within.calls (wrap64 (a0_0 + a0_3)) (-1) 1 false _ A15.out).mono ?_); rintro e w' ⟨rfl, ⟨nd, rfl⟩⟩; refine ⟨_, rfl, ?_⟩))
   go_ret
   exact ⟨rq1, bw_19⟩
  rw [if_pos c18] at H
  have c18b0 : ((wrap64 (a0_0 + a0_3)) == (-2)) = true := beq_iff_eq.mpr c18
  have c18b1 : ((wrap64 (a0_0 + a0_3)) != (-2)) = false := bne_eq_false_iff_eq.mpr c18
  clear c18
  obtain rfl := Option.some.inj H
  go_wp2_with (first | ((with_reducible refine gtC (f := 54) rfl ?_); refine clz Tryd.func54 (some 24) #[.int .i64 (wrap64 (a0_0 + a0_3)), .int .i64 (-1), .int .i64 1] ?_; (with_reducible refine (impl_within.calls (wrap64 (a0_0 + a0_3)) (-1) 1 false _ A15.out).mono ?_); rintro e w' ⟨rfl, ⟨nd, rfl⟩⟩; refine ⟨_, rfl, ?_⟩))
  go_ret
  exact ⟨rq1, bw_19⟩

end Go.Proofs.YtnoiijdffdpabaaDoor.P
