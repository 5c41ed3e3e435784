-- By this session's driver (wip/tools/mk.py) of the kit's print program, over several statements at once. Not trusted: Lean checks it.
import Derived.Test.YtigcjehokbgclaaQWZip
import Derived.Test.YtigcjehokbgclaaQPx0
import Derived.Test.YtigcjehokbgclaaQPx13
import Derived.Test.YtigcjehokbgclaaQPx14
import Derived.Test.YtigcjehokbgclaaQPx21
namespace Go.Proofs.Ytigcjehokbgclaa.P
open Go.RowKit Go.Proofs.YtigcjehokbgclaaW.PrintWords Go.Proofs.YtigcjehokbgclaaW.PrintLast Go.Proofs.YtigcjehokbgclaaW.PrintMore
attribute [local go_sem] max2_int min2_int max_two min_two max_three min_three max_four min_four   -- for this text's walks alone
set_option linter.unusedVariables false
set_option linter.unusedSimpArgs false
open Bool renaming true → T, false → F
theorem bw_22 {n : Nat} {v v' : World} (h : Below n v v' := by repeat (first | (with_reducible first | exact HB.out | apply bwA | apply pbN | apply bwD | refine bwS ?_ GE537.out | refine bwS ?_ GE538.out | refine bwS ?_ GE552.out | refine bwS ?_ GE554.out) | exact HB.out)) : Below n v v' := h
theorem ln_22 {P : Prop} (h : P := by (try simp only [List.map_toArray, List.map_cons, List.map_nil]); first | done | rfl | (simp only [List.length_drop, List.length_take]; rfl)) : P := h
open Option renaming bind_eq_some_iff → be
theorem z22_4 {p : Prop} (h : p := by (try simp only [List.map_toArray, List.map_cons, List.map_nil]); first | done | (simp only [hji26]; rfl) | rfl | (simp only [List.length_drop, List.length_take]; rfl)) : p := h
theorem z22_3 {p : Prop} (h : p := by kernel_rfl) : p := h
theorem z22_2 {p : Prop} (h : p := by first | (with_reducible assumption) | assumption) : p := h
theorem z22_1 {p : Prop} (h : p := by (with_reducible repeat (first | apply Kd.R_alloc | apply Kd.R_drewN | apply Kd.R_drew)); exact HO_6.out) : p := h
theorem z22_0 {p : Prop} (h : p := by (with_reducible repeat (first | apply Kd.R_alloc | apply Kd.R_drewN | apply Kd.R_drew)); exact HO_5.out) : p := h

attribute [local go_sem high] eqA25
/-! ### spec_StepsBetween: function 25 -/
mutual
def spec_StepsBetween.j0 : Nat → Bool → Int → Int → Int → Int → Option ((List (S25)))
 | 0, _, _, _, _, _ => none
 | k + 1, x18, x538000, x538001, x539000, x539001 => if x18 = true then (some (([] : List (S25)))) else ((spec_l14All.f k 60).bind fun t547 => (spec_StepsBetween.l0 k (([(⟨x538000, x538001⟩ : S25)] : List (S25))) t547 x539000 x539001))
def spec_StepsBetween.l0 : Nat → List (S25) → List (S25) → Int → Int → Option ((List (S25)))
 | 0, _, _, _, _ => none
 | k + 1, x5, x6, x539000, x539001 => if 0 ≤ (wrap64 ((x5.length : Int) - 1)) then (if (wrap64 ((x5.length : Int) - 1)) < (x5.length : Int) then (if (!(((rd_T25 x5 (wrap64 ((x5.length : Int) - 1))).f0) == x539000) || (!(((rd_T25 x5 (wrap64 ((x5.length : Int) - 1))).f1) == x539001))) = true then ((spec_SlopeDistance.f k ((rd_T25 x5 (wrap64 ((x5.length : Int) - 1))).f0) ((rd_T25 x5 (wrap64 ((x5.length : Int) - 1))).f1) x539000 x539001).bind fun t553 => (spec_StepsBetween.l1 k x5 x6 t553 0 x539000 x539001 ((rd_T25 x5 (wrap64 ((x5.length : Int) - 1))).f0) ((rd_T25 x5 (wrap64 ((x5.length : Int) - 1))).f1) ((rd_T25 x5 (wrap64 ((x5.length : Int) - 1))).f0) ((rd_T25 x5 (wrap64 ((x5.length : Int) - 1))).f1))) else (some x5)) else (none)) else (none)
def spec_StepsBetween.l1 : Nat → List (S25) → List (S25) → Int → Int → Int → Int → Int → Int → Int → Int → Option ((List (S25)))
 | 0, _, _, _, _, _, _, _, _, _, _ => none
 | k + 1, x5, x6, x8, x10, x539000, x539001, x553000, x553001, x555000, x555001 => if x10 < (x6.length : Int) then (if 0 ≤ x10 then ((spec_CrossNumber.f k x553000 x553001 ((rd_T25 x6 x10).f0) ((rd_T25 x6 x10).f1)).bind fun t562 => (if t562 = 1 then ((spec_SlopeDistance.f k ((rd_T25 x6 x10).f0) ((rd_T25 x6 x10).f1) x539000 x539001).bind fun t564 => (if t564 < x8 then ((spec_SlopeDistance.f k ((rd_T25 x6 x10).f0) ((rd_T25 x6 x10).f1) x539000 x539001).bind fun t566 => (spec_StepsBetween.l1 k x5 x6 t566 (wrap64 (x10 + 1)) x539000 x539001 x553000 x553001 ((rd_T25 x6 x10).f0) ((rd_T25 x6 x10).f1))) else (spec_StepsBetween.l1 k x5 x6 x8 (wrap64 (x10 + 1)) x539000 x539001 x553000 x553001 x555000 x555001))) else (spec_StepsBetween.l1 k x5 x6 x8 (wrap64 (x10 + 1)) x539000 x539001 x553000 x553001 x555000 x555001))) else (none)) else (if (x555000 == x553000 && (x555001 == x553001)) = true then (some (([] : List (S25)))) else (if x5.length < 8796093022208 then (spec_StepsBetween.l0 k (x5 ++ [(⟨x555000, x555001⟩ : S25)]) x6 x539000 x539001) else (none)))
end
def spec_StepsBetween.f (k : Nat) (a0_0 : Int) (a0_1 : Int) (a1_0 : Int) (a1_1 : Int) : Option ((List (S25))) := (spec_l14Small.f k a0_0 a0_1).bind fun t539 => (if t539 = true then ((spec_l14Small.f k a1_0 a1_1).bind fun t540 => (spec_StepsBetween.j0 k (!t540) a0_0 a0_1 a1_0 a1_1)) else (spec_StepsBetween.j0 k true a0_0 a0_1 a1_0 a1_1))
theorem spec_StepsBetween.mono_l : ∀ k, (∀ y0 y1 y2 y3 y4, LeO (spec_StepsBetween.j0 k y0 y1 y2 y3 y4) (spec_StepsBetween.j0 (k + 1) y0 y1 y2 y3 y4)) ∧ (∀ y0 y1 y2 y3, LeO (spec_StepsBetween.l0 k y0 y1 y2 y3) (spec_StepsBetween.l0 (k + 1) y0 y1 y2 y3)) ∧ (∀ y0 y1 y2 y3 y4 y5 y6 y7 y8 y9, LeO (spec_StepsBetween.l1 k y0 y1 y2 y3 y4 y5 y6 y7 y8 y9) (spec_StepsBetween.l1 (k + 1) y0 y1 y2 y3 y4 y5 y6 y7 y8 y9))
 | 0 => ⟨fun _ _ _ _ _ r h => by simp [spec_StepsBetween.j0] at h, fun _ _ _ _ r h => by simp [spec_StepsBetween.l0] at h, fun _ _ _ _ _ _ _ _ _ _ r h => by simp [spec_StepsBetween.l1] at h⟩
 | k + 1 => by
  obtain ⟨ih0, ih1, ih2⟩ := spec_StepsBetween.mono_l k
  have i0 := fun z0 z1 z2 z3 z4 => MoO.mk (ih0 z0 z1 z2 z3 z4)
  have i1 := fun z0 z1 z2 z3 => MoO.mk (ih1 z0 z1 z2 z3)
  have i2 := fun z0 z1 z2 z3 z4 z5 z6 z7 z8 z9 => MoO.mk (ih2 z0 z1 z2 z3 z4 z5 z6 z7 z8 z9)
  refine ⟨?_, ?_, ?_⟩
  ·intro y0 y1 y2 y3 y4
   unfold spec_StepsBetween.j0
   exact mo_
  ·intro y0 y1 y2 y3
   unfold spec_StepsBetween.l0
   exact mo_
  intro y0 y1 y2 y3 y4 y5 y6 y7 y8 y9
  unfold spec_StepsBetween.l1
  exact mo_
theorem spec_StepsBetween.mono : ∀ a0 a1 a2 a3 k, LeO (spec_StepsBetween.f k a0 a1 a2 a3) (spec_StepsBetween.f (k + 1) a0 a1 a2 a3) := by
 intro a0 a1 a2 a3 k
 obtain ⟨ih0, ih1, ih2⟩ := spec_StepsBetween.mono_l k
 have i0 := fun z0 z1 z2 z3 z4 => MoO.mk (ih0 z0 z1 z2 z3 z4)
 have i1 := fun z0 z1 z2 z3 => MoO.mk (ih1 z0 z1 z2 z3)
 have i2 := fun z0 z1 z2 z3 z4 z5 z6 z7 z8 z9 => MoO.mk (ih2 z0 z1 z2 z3 z4 z5 z6 z7 z8 z9)
 unfold spec_StepsBetween.f
 exact mo_
instance spec_StepsBetween.mi {a0 a1 a2 a3 k} : MoO (spec_StepsBetween.f k a0 a1 a2 a3) (spec_StepsBetween.f (k + 1) a0 a1 a2 a3) := ⟨spec_StepsBetween.mono _ _ _ _ _⟩
def spec_StepsBetween.T5 : Bool × List (List Nat × List Nat) := (true, [([], []), ([], []), ([1], [1]), ([2], [2]), ([0, 3], [0, 3]), ([4], [4]), ([], []), ([5, 6], [5, 6])])
def spec_StepsBetween.B5 : List Nat := [0, 0, 2, 6, 15, 31, 0, 127]
theorem spec_StepsBetween.tab5 : rtab .any (opsOf Try.f25 5) = spec_StepsBetween.T5 := by kernel_rfl
theorem spec_StepsBetween.bits5 : waitsOk spec_StepsBetween.T5.2 spec_StepsBetween.B5 = true := by kernel_rfl
def spec_StepsBetween.T12 : Bool × List (List Nat × List Nat) := (true, [([], []), ([], []), ([], []), ([1, 2], [1, 2]), ([3], [3]), ([0, 4], [0, 4]), ([5], [5]), ([6, 5], [6]), ([7], [7]), ([7], [7]), ([8, 9, 7], [7, 8, 9]), ([10, 7], [7, 10]), ([7], [7]), ([11, 12, 7, 7], [7, 11, 12]), ([7], [7]), ([13, 14, 7], [7, 13, 14]), ([7, 15], [7, 15])])
def spec_StepsBetween.B12 : List Nat := [0, 0, 0, 6, 14, 31, 63, 127, 255, 255, 1023, 2047, 255, 8191, 255, 32767, 65535]
theorem spec_StepsBetween.tab12 : rtab .any (opsOf Try.f25 12) = spec_StepsBetween.T12 := by kernel_rfl
theorem spec_StepsBetween.bits12 : waitsOk spec_StepsBetween.T12.2 spec_StepsBetween.B12 = true := by kernel_rfl
set_option maxHeartbeats 8000000 in
set_option maxRecDepth 100000 in
theorem spec_StepsBetween.calls (k : Nat) (a0_0 : Int) (a0_1 : Int) (a1_0 : Int) (a1_1 : Int) (r : List (S25)) (w : World) (h : spec_StepsBetween.f k a0_0 a0_1 a1_0 a1_1 = some r) :
  Calls Try.prog 25 #[.agg #[.int .i64 a0_0, .int .i64 a0_1], .agg #[.int .i64 a1_0, .int .i64 a1_1]] w fun e w' => ∃ v0_ : Value, e = .returned (v0_) ∧ Kd.R k25 25 w' w.heap.size (fun _ => True) v0_ r ∧ Below w.heap.size w w' := by
 have hu25 := Try.underlying25
 have HB := Az.mk (Below.refl w.heap.size w)
 have H : ((spec_l14Small.f k a0_0 a0_1).bind fun t539 => (if t539 = true then ((spec_l14Small.f k a1_0 a1_1).bind fun t540 => (spec_StepsBetween.j0 k (!t540) a0_0 a0_1 a1_0 a1_1)) else (spec_StepsBetween.j0 k true a0_0 a0_1 a1_0 a1_1))) = some r := h
 clear h
 have HC3 := Az.mk H
 clear H
 go_enter Try.func25, Try.ntmps25
 go_upto_region 1 with (first | ((with_reducible refine gtD (N := 2) rfl ?_); refine bx (N := 2) (cs := #[.int .i64 a0_0, .int .i64 a0_1]) (t := 25) ?_; intro gb537 hg w4 hbox hb; have BK537 := Az.mk (hbox); have GW537 := gwz hg bw_22; have GE537 := gwz hg bw_22; replace HB := Az.mk (bwT bw_22 hb); clear hb hbox hg) | ((with_reducible refine gtD (N := 3) rfl ?_); refine bx (N := 3) (cs := #[.int .i64 a1_0, .int .i64 a1_1]) (t := 25) ?_; intro gb538 hg w5 hbox hb; have BK538 := Az.mk (hbox); have GW538 := gwz hg bw_22; have GE538 := gwz hg bw_22; replace HB := Az.mk (bwT bw_22 hb); have NB537_538 := nlt BK537 hg; have NB538_537 := ngt BK537 hg; replace BK537 := bkz BK537 hb; clear hb hbox hg))
 (try simp only [Act.put, List.setIfInBounds_toArray, List.set_cons_zero, List.set_cons_succ])
 go_cut [18] (fun v18 wc => ∃ (kq : Nat) (x18_2 : Bool), v18 = .bool x18_2 ∧ Az (spec_StepsBetween.j0 kq x18_2 a0_0 a0_1 a1_0 a1_1 = some r) ∧ Az (kq ≤ k) ∧ Az (wc.heap[gb537]? = some (.cells #[.int .i64 a0_0, .int .i64 a0_1] 25 (0, 0))) ∧ Az (wc.heap[gb538]? = some (.cells #[.int .i64 a1_0, .int .i64 a1_1] 25 (0, 0))) ∧ Az (Below w.heap.size w wc))
 case first =>
  have H := HC3.out
  clear HC3
  replace H := bez H
  obtain ⟨t539, A6, H⟩ := H
  try dsimp only at H
  by_cases c7 : t539 = true
  rotate_left
  ·replace c7 := Bool.eq_false_iff.mpr c7
   subst c7
   rw [if_neg (show ¬ (false = true) by decide)] at H
   have H' := Az.mk H
   clear H
   have hnb14 := NB537_538.out
   have hnc14 := NB538_537.out
   have hcz15_0 := bkc0 BK537
   have hcz15_1 := bkc1 BK537
   have hfz15_0 := bkF BK537.out 0
   have hfz15_1 := bkF BK537.out 1
   go_wp2_with (first | ((with_reducible refine gtC (f := 48) rfl ?_); refine clz Try.func48 (some 12) #[.agg #[.int .i64 a0_0, .int .i64 a0_1]] ?_; (with_reducible refine (spec_l14Small.calls k a0_0 a0_1 false _ A6.out).mono ?_); rintro e w16 ⟨rfl, hb⟩; refine ⟨_, rfl, ?_⟩; replace BK537 := bkz BK537 hb; replace BK538 := bkz BK538 hb; replace HB := Az.mk (bwT bw_22 hb); (try clear hb)))
   go_meet
   case rel => exact ⟨_, (true), rq2, H', ⟨by first | omega | exact Nat.le_refl _⟩, ⟨bk1 BK537⟩, ⟨bk1 BK538⟩, ⟨bw_22⟩⟩
  subst c7
  rw [if_pos rfl] at H
  replace H := bez H
  obtain ⟨t540, A8, H⟩ := H
  try dsimp only at H
  have H' := Az.mk H
  clear H
  have hnb9 := NB537_538.out
  have hnc9 := NB538_537.out
  have hcz10_0 := bkc0 BK537
  have hcz10_1 := bkc1 BK537
  have hfz10_0 := bkF BK537.out 0
  have hfz10_1 := bkF BK537.out 1
  go_wp2_with (first | ((with_reducible refine gtC (f := 48) rfl ?_); refine clz Try.func48 (some 12) #[.agg #[.int .i64 a0_0, .int .i64 a0_1]] ?_; (with_reducible refine (spec_l14Small.calls k a0_0 a0_1 true _ A6.out).mono ?_); rintro e w11 ⟨rfl, hb⟩; refine ⟨_, rfl, ?_⟩; replace BK537 := bkz BK537 hb; replace BK538 := bkz BK538 hb; replace HB := Az.mk (bwT bw_22 hb); (try clear hb); obtain ⟨hcz12_0, hcz12_1, hfz12_0, hfz12_1⟩ := bq2 BK538) | (go_at_call 48; (with_reducible refine (spec_l14Small.calls k a1_0 a1_1 t540 _ A8.out).mono ?_); rintro e w13 ⟨rfl, hb⟩; replace BK537 := bkz BK537 hb; replace BK538 := bkz BK538 hb; replace HB := Az.mk (bwT bw_22 hb); (try clear hb)))
  go_meet
  case rel => exact ⟨_, (!t540), rq2, H', ⟨by first | omega | exact Nat.le_refl _⟩, ⟨bk1 BK537⟩, ⟨bk1 BK538⟩, ⟨bw_22⟩⟩
 clear HC3
 try clear c7
 try clear hcz10_0
 try clear hcz10_1
 try clear hcz12_0
 try clear hcz12_1
 try clear hcz15_0
 try clear hcz15_1
 try clear hfz10_0
 try clear hfz10_1
 try clear hfz12_0
 try clear hfz12_1
 try clear hfz15_0
 try clear hfz15_1
 obtain ⟨kq, x18_2, rfl, HA, HJ2, BK537, BK538, HB⟩ := hcut
 cases kq with
 | zero => exact absurd HA.out (by simp [spec_StepsBetween.j0])
 | succ kj2 =>
  have H := HA.out
  clear HA
  simp only [spec_StepsBetween.j0] at H
  by_cases c17 : x18_2 = true
  ·subst c17
   rw [if_pos rfl] at H
   obtain ⟨y541, hy541⟩ : ∃ y_ : List (S25), y_ = (([] : List (S25))) := ⟨_, rfl⟩
   replace H : (some y541) = some r := by first | (rw [hy541]; with_reducible exact H) | (have H2_ := (Option.bind_some _ _).symm.trans H; rw [hy541]; with_reducible exact H2_) | (have H2_ := (Option.bind_some _ _).symm.trans H; with_reducible exact H2_) | with_reducible exact H | (rw [hy541]; exact H) | exact H
   have Ny541 := Az.mk hy541
   clear hy541
   obtain rfl := Option.some.inj H
   go_wp2_with (first | ((with_reducible refine gtD (N := 19) rfl ?_); refine Kd.R_lit k25 _ 25 ?hg (N := 19) ?hd (xs := ([] : List (S25))) (inner := []) (ok := fun _ => True) (okp := fun _ => True) ?hr ?hp (fun _ hk => hk) trivial (Below.refl _ _) (Nat.le_refl _) (by simp) ?_; (case hd => rfl); (case hg => rfl); (case hr => first | (go_simp; done) | (go_simp; rfl)); (case hp => exact (Reps.none _ _)); intro v542 w18 ho19 hb hg_ hnew_; clear hg_ hnew_; (first | rw [← Ny541.out] at ho19 | (simp only [Int.reduceToNat] at ho19; rw [← Ny541.out] at ho19)); have HO543 := Az.mk (Kd.R_lower (Kd.R_newB (Kd.R_newB ho19 (g := gb537) (o := .cells #[.int .i64 a0_0, .int .i64 a0_1] 25 (0, 0)) (bk1 BK537)) (g := gb538) (o := .cells #[.int .i64 a1_0, .int .i64 a1_1] 25 (0, 0)) (bk1 BK538)) (bwZ bw_22)); replace BK537 := bkz BK537 hb; replace BK538 := bkz BK538 hb; replace HB := Az.mk (bwT bw_22 hb); clear hb ho19))
   go_ret
   exact ⟨_, rq1, by (with_reducible repeat (first | apply Kd.R_alloc | apply Kd.R_drewN | apply Kd.R_drew)); exact Kd.R_mono HO543.out (fun _ hk => trivial), bw_22⟩
  replace c17 := Bool.eq_false_iff.mpr c17
  subst c17
  rw [if_neg (show ¬ (false = true) by decide)] at H
  obtain ⟨y544, hy544⟩ : ∃ y_ : List (S25), y_ = (([(⟨a0_0, a0_1⟩ : S25)] : List (S25))) := ⟨_, rfl⟩
  replace H : ((spec_l14All.f kj2 60).bind fun t547 => (spec_StepsBetween.l0 kj2 y544 t547 a1_0 a1_1)) = some r := by first | (rw [hy544]; with_reducible exact H) | (have H2_ := (Option.bind_some _ _).symm.trans H; rw [hy544]; with_reducible exact H2_) | (have H2_ := (Option.bind_some _ _).symm.trans H; with_reducible exact H2_) | with_reducible exact H | (rw [hy544]; exact H) | exact H
  have Ny544 := Az.mk hy544
  clear hy544
  replace H := bez H
  obtain ⟨t547, A20, H⟩ := H
  try dsimp only at H
  have H' := Az.mk H
  clear H
  have hnb21 := NB537_538.out
  have hnc21 := NB538_537.out
  have hcz22_0 := bkc0 BK537
  have hcz22_1 := bkc1 BK537
  have hfz22_0 := bkF BK537.out 0
  have hfz22_1 := bkF BK537.out 1
  go_wp2_with (first | ((with_reducible refine gtD (N := 21) rfl ?_); refine Kd.R_lit k25 _ 25 ?hg (N := 21) ?hd (xs := ([(⟨a0_0, a0_1⟩ : S25)] : List (S25))) (inner := [.int .i64 a0_0, .int .i64 a0_1]) (ok := fun _ => True) (okp := fun _ => True) ?hr ?hp (fun _ hk => hk) trivial (Below.refl _ _) (Nat.le_refl _) (by simp) ?_; (case hd => rfl); (case hg => rfl); (case hr => first | (go_simp; done) | (go_simp; rfl)); (case hp => exact (Reps.c2 (show Kd.M k25 _ _ _ (⟨a0_0, a0_1⟩ : S25) [.int .i64 a0_0, .int .i64 a0_1] from (k25_mkM _ _ _ (⟨a0_0, a0_1⟩ : S25) )) (Reps.none _ _))); intro v545 w23 ho24 hb hg_ hnew_; clear hg_ hnew_; (first | rw [← Ny544.out] at ho24 | (simp only [Int.reduceToNat] at ho24; rw [← Ny544.out] at ho24)); have HO546 := Az.mk (Kd.R_lower (Kd.R_newB (Kd.R_newB ho24 (g := gb537) (o := .cells #[.int .i64 a0_0, .int .i64 a0_1] 25 (0, 0)) (bk1 BK537)) (g := gb538) (o := .cells #[.int .i64 a1_0, .int .i64 a1_1] 25 (0, 0)) (bk1 BK538)) (bwZ bw_22)); replace BK537 := bkz BK537 hb; replace BK538 := bkz BK538 hb; replace HB := Az.mk (bwT bw_22 hb); clear hb ho24) | ((with_reducible refine gtC (f := 41) rfl ?_); refine clz Try.func41 (some 22) #[.int .i64 60] ?_; (with_reducible refine (spec_l14All.calls kj2 60 t547 _ A20.out).mono ?_); rintro e w25 ⟨v548, rfl, ho0, hb⟩; refine ⟨_, rfl, ?_⟩; have HO549 := Az.mk (Kd.R_lower (Kd.R_newB (Kd.R_newB (Kd.R_new' ho0 (Kd.R_lt (by (with_reducible repeat (first | apply Kd.R_alloc | apply Kd.R_drewN | apply Kd.R_drew)); exact HO546.out))) (g := gb537) (o := .cells #[.int .i64 a0_0, .int .i64 a0_1] 25 (0, 0)) (bk1 BK537)) (g := gb538) (o := .cells #[.int .i64 a1_0, .int .i64 a1_1] 25 (0, 0)) (bk1 BK538)) (bwZ bw_22)); replace HO546 := Az.mk (Kd.R_elder' (by (with_reducible repeat (first | apply Kd.R_alloc | apply Kd.R_drewN | apply Kd.R_drew)); exact HO546.out) (Kd.R_base ho0) hb); replace BK537 := bkz BK537 hb; replace BK538 := bkz BK538 hb; replace HB := Az.mk (bwT bw_22 hb); (try clear hb); (try clear ho0)))
  go_loopg [5] kj2 (fun kq v5 w' => ∃ (x5_2 : List (S25)), Az (spec_StepsBetween.l0 kq x5_2 t547 a1_0 a1_1 = some r) ∧ Az (kq ≤ kj2) ∧ Az (Kd.R k25 25 w' w.heap.size (fun k_ => some k_ ≠ (v548 : Value).ownBlock ∧ k_ ≠ gb537 ∧ k_ ≠ gb538) v5 x5_2) ∧ Az (Kd.R k25 25 w' w.heap.size (fun k_ => some k_ ≠ (v5 : Value).ownBlock ∧ k_ ≠ gb537 ∧ k_ ≠ gb538) v548 t547) ∧ Az (w'.heap[gb537]? = some (.cells #[.int .i64 a0_0, .int .i64 a0_1] 25 (0, 0))) ∧ Az (w'.heap[gb538]? = some (.cells #[.int .i64 a1_0, .int .i64 a1_1] 25 (0, 0))) ∧ Az (Below w.heap.size w w'))
  case atStart => exact ⟨(y544), H', ⟨Nat.le_refl _⟩, ⟨by (with_reducible repeat (first | apply Kd.R_alloc | apply Kd.R_drewN | apply Kd.R_drew)); exact Kd.R_mono HO546.out (fun _ hk => ⟨hk.2, ⟨hk.1.1.2, hk.1.2⟩⟩)⟩, ⟨by (with_reducible repeat (first | apply Kd.R_alloc | apply Kd.R_drewN | apply Kd.R_drew)); exact Kd.R_mono HO549.out (fun _ hk => ⟨hk.1.1.2, ⟨hk.1.2, hk.2⟩⟩)⟩, ⟨bk1 BK537⟩, ⟨bk1 BK538⟩, ⟨bw_22⟩⟩
  clear H'
  try clear c2
  try clear c7
  try clear c17
  try clear hcz10_0
  try clear hcz10_1
  try clear hcz12_0
  try clear hcz12_1
  try clear hcz15_0
  try clear hcz15_1
  try clear hcz22_0
  try clear hcz22_1
  try clear hfz10_0
  try clear hfz10_1
  try clear hfz12_0
  try clear hfz12_1
  try clear hfz15_0
  try clear hfz15_1
  try clear hfz22_0
  try clear hfz22_1
  obtain ⟨x5_2, HA, HK2, HO_5, HO_6, BK537, BK538, HB⟩ := hrel
  cases gk with
  | zero => exact absurd HA.out (by simp [spec_StepsBetween.l0])
  | succ k2 =>
   have H := HA.out
   clear HA
   simp only [spec_StepsBetween.l0] at H
   obtain ⟨ji26, hji26⟩ : ∃ j_ : Int, (wrap64 ((x5_2.length : Int) - 1)) = j_ := ⟨_, rfl⟩
   replace H : (if 0 ≤ (ji26) then (if (ji26) < (x5_2.length : Int) then (if (!(((rd_T25 x5_2 (ji26)).f0) == a1_0) || (!(((rd_T25 x5_2 (ji26)).f1) == a1_1))) = true then ((spec_SlopeDistance.f k2 ((rd_T25 x5_2 (ji26)).f0) ((rd_T25 x5_2 (ji26)).f1) a1_0 a1_1).bind fun t553 => (spec_StepsBetween.l1 k2 x5_2 t547 t553 0 a1_0 a1_1 ((rd_T25 x5_2 (ji26)).f0) ((rd_T25 x5_2 (ji26)).f1) ((rd_T25 x5_2 (ji26)).f0) ((rd_T25 x5_2 (ji26)).f1))) else (some x5_2)) else (none)) else (none)) = some r := by first | (rw [hji26] at H; exact H) | (simp only [hji26] at H ⊢; exact H)
   have hji26w : (IntKind.i64.wrap ((x5_2.length : Int) - 1)) = ji26 := (i64_w _).trans hji26
   by_cases c27 : 0 ≤ (ji26)
   rotate_left
   ·rw [if_neg c27] at H
    exact absurd H (by simp)
   rw [if_pos c27] at H
   have c27b0 : decide (0 ≤ (ji26)) = true := decide_eq_true c27
   clear c27
   by_cases c28 : (ji26) < (x5_2.length : Int)
   rotate_left
   ·rw [if_neg c28] at H
    exact absurd H (by simp)
   rw [if_pos c28] at H
   have c28b0 : decide ((ji26) < (x5_2.length : Int)) = true := decide_eq_true c28
   clear c28
   by_cases c29 : (!(((rd_T25 x5_2 (ji26)).f0) == a1_0) || (!(((rd_T25 x5_2 (ji26)).f1) == a1_1))) = true
   rotate_left
   ·rw [if_neg c29] at H
    have c29b0 : (!(((rd_T25 x5_2 (ji26)).f0) == a1_0) || (!(((rd_T25 x5_2 (ji26)).f1) == a1_1))) = false := by simpa using c29
    clear c29
    obtain rfl := Option.some.inj H
    try go_wp2
    replace HO_5 := Az.mk (Kd.R_drew HO_5.out); replace HO_6 := Az.mk (Kd.R_drew HO_6.out); replace BK537 := Az.mk (bkD BK537.out); replace BK538 := Az.mk (bkD BK538.out); replace HB := Az.mk (bwD HB.out)
    obtain ⟨Ao92, co92, eo92⟩ := Kd.R_slice HO_5.out
    (first | subst eo92 | (injection eo92 with f1_ f2_ f3_; have f4_ := f1_.symm; have f5_ := f3_.symm; clear f1_ f2_ f3_; subst f4_; subst f5_))
    have p550 : 0 ≤ ((ji26) : Int) := of_decide_eq_true z22_2
    have q550 : (ji26) < (x5_2.length : Int) := of_decide_eq_true z22_2
    obtain ⟨ad550, e550, hx550_0, hx550_1⟩ := at_T25 (Kd.R_reads' HO_5.out).2.2 (ji26) p550 q550
    cases e550
    replace p550 := eq_true p550
    replace q550 := eq_true q550
    refine start_ (n := 8) (S := fun w' => w'.cell? ⟨gb538, 0, none⟩ = some (.int .i64 a1_0) ∧ w'.cell? ⟨gb538, 1, none⟩ = some (.int .i64 a1_1) ∧ w'.cell? (ad550.add (((ji26)).toNat * 2)) = some (.int .i64 ((rd_T25 x5_2 (ji26)).f0)) ∧ w'.cell? ⟨(ad550.add (((ji26)).toNat * 2)).block, (ad550.add (((ji26)).toNat * 2)).off + 1, none⟩ = some (.int .i64 ((rd_T25 x5_2 (ji26)).f1))) (ds := []) #[F,F,F,F,F,F,F,F] z22_3 rfl rfl ⟨(bkC BK538.out 0).trans rfl, (bkC BK538.out 1).trans rfl, hx550_0, hx550_1⟩ (fun hHeld => ?_); refine with_tabW spec_StepsBetween.tab5 spec_StepsBetween.bits5 (fun HT_ HW_ => ?_)
    generalize wr.drew = w91 at HO_5 HO_6 BK537 BK538 HB hx550_0 hx550_1 hHeld ⊢
    refine pu (i := 0) (N := some 23) #[T,F,F,F,F,F,F,F] (any_of HT_.out z22_3) ?_
    refine pu (i := 1) (N := some 24) #[T,T,F,F,F,F,F,F] (any_of HT_.out z22_3) ?_
    refine pu (i := 2) (N := some 25) #[T,T,T,F,F,F,F,F] (any_of HT_.out z22_3) ?_
    refine pu (i := 3) (N := some 26) #[T,T,T,T,F,F,F,F] (any_of HT_.out z22_3) ?_
    refine pu (i := 4) (N := some 27) #[T,T,T,T,T,F,F,F] (any_of HT_.out z22_3) ?_
    refine take_ (i := 5) (N := some 28) (v := ?_) (a' := ?_) #[T,T,T,T,T,T,F,F] rfl rfl (take_ofW HT_.out HW_.out z22_3) (fun _ _ _ h => h) (Or.inl ⟨by rfl, ?_⟩) hHeld ?_ ?_
    rotate_left
    ·rintro w' ⟨s0, s1, s2, s3⟩
     go_simp
     with_reducible rfl
    rotate_left
    ·exact acq
    refine take_ (i := 6) (N := some 29) (v := ?_) (a' := ?_) #[T,T,T,T,T,T,T,F] rfl rfl (take_ofW HT_.out HW_.out z22_3) (fun _ _ _ h => h) (Or.inl ⟨by rfl, ?_⟩) hHeld ?_ ?_
    rotate_left
    ·rintro w' ⟨s0, s1, s2, s3⟩
     go_simp
     with_reducible rfl
    rotate_left
    ·exact acq
    refine pu (i := 7) (N := some 30) #[T,T,T,T,T,T,T,T] (any_of HT_.out z22_3) ?_
    refine done_ (done_of HT_.out z22_3) ?_
    try go_wp2
    go_ret
    exact ⟨_, by first | rfl | (simp [eWn, eWs] <;> rfl) | (simp only [← hji26]; first | rfl | (simp [eWn, eWs] <;> rfl)) | (simp [*, eWn, eWs] <;> rfl), by (with_reducible repeat (first | apply Kd.R_alloc | apply Kd.R_drewN | apply Kd.R_drew)); exact Kd.R_mono HO_5.out (fun _ hk => trivial), bw_22⟩
   rw [if_pos c29] at H
   have c29b0 : (!(((rd_T25 x5_2 (ji26)).f0) == a1_0) || (!(((rd_T25 x5_2 (ji26)).f1) == a1_1))) = true := c29
   clear c29
   replace H := bez H
   obtain ⟨t553, A30, H⟩ := H
   try dsimp only at H
   have H' := Az.mk H
   clear H
   try go_wp2
   replace HO_5 := Az.mk (Kd.R_drew HO_5.out); replace HO_6 := Az.mk (Kd.R_drew HO_6.out); replace BK537 := Az.mk (bkD BK537.out); replace BK538 := Az.mk (bkD BK538.out); replace HB := Az.mk (bwD HB.out)
   obtain ⟨Ao32, co32, eo32⟩ := Kd.R_slice HO_5.out
   (first | subst eo32 | (injection eo32 with f1_ f2_ f3_; have f4_ := f1_.symm; have f5_ := f3_.symm; clear f1_ f2_ f3_; subst f4_; subst f5_))
   have p550 : 0 ≤ ((ji26) : Int) := of_decide_eq_true z22_2
   have q550 : (ji26) < (x5_2.length : Int) := of_decide_eq_true z22_2
   obtain ⟨ad550, e550, hx550_0, hx550_1⟩ := at_T25 (Kd.R_reads' HO_5.out).2.2 (ji26) p550 q550
   cases e550
   replace p550 := eq_true p550
   replace q550 := eq_true q550
   refine start_ (n := 8) (S := fun w' => w'.cell? ⟨gb538, 0, none⟩ = some (.int .i64 a1_0) ∧ w'.cell? ⟨gb538, 1, none⟩ = some (.int .i64 a1_1) ∧ w'.cell? (ad550.add (((ji26)).toNat * 2)) = some (.int .i64 ((rd_T25 x5_2 (ji26)).f0)) ∧ w'.cell? ⟨(ad550.add (((ji26)).toNat * 2)).block, (ad550.add (((ji26)).toNat * 2)).off + 1, none⟩ = some (.int .i64 ((rd_T25 x5_2 (ji26)).f1))) (ds := []) #[F,F,F,F,F,F,F,F] z22_3 rfl rfl ⟨(bkC BK538.out 0).trans rfl, (bkC BK538.out 1).trans rfl, hx550_0, hx550_1⟩ (fun hHeld => ?_); refine with_tabW spec_StepsBetween.tab5 spec_StepsBetween.bits5 (fun HT_ HW_ => ?_)
   generalize wr.drew = w31 at HO_5 HO_6 BK537 BK538 HB hx550_0 hx550_1 hHeld ⊢
   refine pu (i := 0) (N := some 23) #[T,F,F,F,F,F,F,F] (any_of HT_.out z22_3) ?_
   refine pu (i := 1) (N := some 24) #[T,T,F,F,F,F,F,F] (any_of HT_.out z22_3) ?_
   refine pu (i := 2) (N := some 25) #[T,T,T,F,F,F,F,F] (any_of HT_.out z22_3) ?_
   refine pu (i := 3) (N := some 26) #[T,T,T,T,F,F,F,F] (any_of HT_.out z22_3) ?_
   refine pu (i := 4) (N := some 27) #[T,T,T,T,T,F,F,F] (any_of HT_.out z22_3) ?_
   refine take_ (i := 5) (N := some 28) (v := ?_) (a' := ?_) #[T,T,T,T,T,T,F,F] rfl rfl (take_ofW HT_.out HW_.out z22_3) (fun _ _ _ h => h) (Or.inl ⟨by rfl, ?_⟩) hHeld ?_ ?_
   rotate_left
   ·rintro w' ⟨s0, s1, s2, s3⟩
    go_simp
    with_reducible rfl
   rotate_left
   ·exact acq
   refine take_ (i := 6) (N := some 29) (v := ?_) (a' := ?_) #[T,T,T,T,T,T,T,F] rfl rfl (take_ofW HT_.out HW_.out z22_3) (fun _ _ _ h => h) (Or.inl ⟨by rfl, ?_⟩) hHeld ?_ ?_
   rotate_left
   ·rintro w' ⟨s0, s1, s2, s3⟩
    go_simp
    with_reducible rfl
   rotate_left
   ·exact acq
   refine pu (i := 7) (N := some 30) #[T,T,T,T,T,T,T,T] (any_of HT_.out z22_3) ?_
   refine done_ (done_of HT_.out z22_3) ?_
   have p551 : 0 ≤ ((ji26) : Int) := of_decide_eq_true z22_2
   have q551 : (ji26) < (x5_2.length : Int) := of_decide_eq_true z22_2
   obtain ⟨ad551, e551, hx551_0, hx551_1⟩ := at_T25 (Kd.R_reads' HO_5.out).2.2 (ji26) p551 q551
   obtain rfl : ad550 = ad551 := (by injection e551)
   replace p551 := eq_true p551
   replace q551 := eq_true q551
   try go_wp2_with (first | ((with_reducible refine gtD (N := 7) rfl ?_); refine bx (N := 7) (cs := #[.int .i64 0, .int .i64 0]) (t := 25) ?_; intro gb552 hg w33 hbox hb; replace HO_5 := Az.mk (Kd.R_below (Kd.R_elderB z22_0 gb552 (Nat.le_of_eq hg.symm)) hb); replace HO_6 := Az.mk (Kd.R_below (Kd.R_elderB z22_1 gb552 (Nat.le_of_eq hg.symm)) hb); have BK552 := Az.mk (hbox); have GW552 := gwz hg bw_22; have GE552 := gwz hg bw_22; replace HB := Az.mk (bwT bw_22 hb); have NB537_552 := nlt BK537 hg; have NB552_537 := ngt BK537 hg; replace BK537 := bkz BK537 hb; have NB538_552 := nlt BK538 hg; have NB552_538 := ngt BK538 hg; replace BK538 := bkz BK538 hb; clear hb hbox hg; have hnb34 := NB552_537.out; have hnc34 := NB537_552.out; have hnb35 := NB552_538.out; have hnc35 := NB538_552.out; obtain ⟨hcz36_0, hcz36_1, hfz36_0, hfz36_1⟩ := bq2 BK552; have hnb37 := NB538_537.out; have hnc37 := NB537_538.out; obtain ⟨hcz38_0, hcz38_1, hfz38_0, hfz38_1⟩ := bq2 BK538) | ((with_reducible refine gtC (f := 14) rfl ?_); refine goesL_ (some 39) rfl rfl Try.func14 z22_3 rfl #[.agg #[.int .i64 ((rd_T25 x5_2 (ji26)).f0), .int .i64 ((rd_T25 x5_2 (ji26)).f1)], .agg #[.int .i64 a1_0, .int .i64 a1_1]] rfl z22_4 ?_; (with_reducible refine (spec_SlopeDistance.calls k2 ((rd_T25 x5_2 (ji26)).f0) ((rd_T25 x5_2 (ji26)).f1) a1_0 a1_1 t553 _ A30.out).mono ?_); rintro e w39 ⟨rfl, hb⟩; refine ⟨_, rfl, ?_⟩; replace HO_5 := Az.mk (Kd.R_below (by (with_reducible repeat (first | apply Kd.R_alloc | apply Kd.R_drewN | apply Kd.R_drew)); exact (Kd.R_mono (Kd.R_far (p := ⟨gb552, 1, none⟩) (Kd.R_far (p := ⟨gb552, 0, none⟩) (Kd.R_mono HO_5.out (fun k_ hk => (⟨hk, hk.2⟩ : _ ∧ k_ ≠ gb552))) (fun _ hk => hk.2) (.int .i64 ((rd_T25 x5_2 (ji26)).f0))) (fun _ hk => hk.2) (.int .i64 ((rd_T25 x5_2 (ji26)).f1))) (fun _ h_ => h_.1))) hb); replace HO_6 := Az.mk (Kd.R_below (by (with_reducible repeat (first | apply Kd.R_alloc | apply Kd.R_drewN | apply Kd.R_drew)); exact (Kd.R_mono (Kd.R_far (p := ⟨gb552, 1, none⟩) (Kd.R_far (p := ⟨gb552, 0, none⟩) (Kd.R_mono HO_6.out (fun k_ hk => (⟨hk, hk.2⟩ : _ ∧ k_ ≠ gb552))) (fun _ hk => hk.2) (.int .i64 ((rd_T25 x5_2 (ji26)).f0))) (fun _ hk => hk.2) (.int .i64 ((rd_T25 x5_2 (ji26)).f1))) (fun _ h_ => h_.1))) hb); replace BK537 := Az.mk (bkB (g := gb537) (o := .cells #[.int .i64 a0_0, .int .i64 a0_1] 25 (0, 0)) bkv hb); replace BK538 := Az.mk (bkB (g := gb538) (o := .cells #[.int .i64 a1_0, .int .i64 a1_1] 25 (0, 0)) bkv hb); replace BK552 := Az.mk (bkB (g := gb552) (o := .cells #[.int .i64 ((rd_T25 x5_2 (ji26)).f0), .int .i64 ((rd_T25 x5_2 (ji26)).f1)] 25 (0, 0)) (by (with_reducible repeat first | apply bkN | apply bkD | apply bkA); refine bkp (cs := #[.int .i64 ((rd_T25 x5_2 (ji26)).f0), .int .i64 0]) ?_ 1 _ rfl; (with_reducible repeat first | apply bkN | apply bkD | apply bkA); refine bkp (cs := #[.int .i64 0, .int .i64 0]) ?_ 0 _ rfl; (with_reducible repeat first | apply bkN | apply bkD | apply bkA); exact BK552.out) hb); replace HB := Az.mk (bwT bw_22 hb); (try clear hb); (try clear hk); obtain ⟨hcz40_0, hcz40_1, hfz40_0, hfz40_1⟩ := bq2 BK552) | ((with_reducible refine gtD (N := 9) rfl ?_); refine bx (N := 9) (cs := #[.int .i64 0, .int .i64 0]) (t := 25) ?_; intro gb554 hg w41 hbox hb; replace HO_5 := Az.mk (Kd.R_below (Kd.R_elderB z22_0 gb554 (Nat.le_of_eq hg.symm)) hb); replace HO_6 := Az.mk (Kd.R_below (Kd.R_elderB z22_1 gb554 (Nat.le_of_eq hg.symm)) hb); have BK554 := Az.mk (hbox); have GW554 := gwz hg bw_22; have GE554 := gwz hg bw_22; replace HB := Az.mk (bwT bw_22 hb); have NB537_554 := nlt BK537 hg; have NB554_537 := ngt BK537 hg; replace BK537 := bkz BK537 hb; have NB538_554 := nlt BK538 hg; have NB554_538 := ngt BK538 hg; replace BK538 := bkz BK538 hb; have NB552_554 := Az.mk ((by rw [hg]; exact Nat.ne_of_lt (blk_lt (g := gb552) (o := .cells #[.int .i64 ((rd_T25 x5_2 (ji26)).f0), .int .i64 ((rd_T25 x5_2 (ji26)).f1)] 25 (0, 0)) (bk1 BK552)) : gb552 ≠ gb554)); have NB554_552 := Az.mk ((by rw [hg]; exact Nat.ne_of_gt (blk_lt (g := gb552) (o := .cells #[.int .i64 ((rd_T25 x5_2 (ji26)).f0), .int .i64 ((rd_T25 x5_2 (ji26)).f1)] 25 (0, 0)) (bk1 BK552)) : gb554 ≠ gb552)); replace BK552 := Az.mk (bkB (g := gb552) (o := .cells #[.int .i64 ((rd_T25 x5_2 (ji26)).f0), .int .i64 ((rd_T25 x5_2 (ji26)).f1)] 25 (0, 0)) (bk1 BK552) hb); clear hb hbox hg; have hnb42 := NB554_537.out; have hnc42 := NB537_554.out; have hnb43 := NB554_538.out; have hnc43 := NB538_554.out; have hnb44 := NB554_552.out; have hnc44 := NB552_554.out; obtain ⟨hcz45_0, hcz45_1, hfz45_0, hfz45_1⟩ := bq2 BK554))
   go_loopg [8, 10] k2 (fun kq v8 v10 w' => ∃ (x8_3 : Int) (x10_3 : Int) (x555000_3 : Int) (x555001_3 : Int), v8 = .int .i64 x8_3 ∧ v10 = .int .i64 x10_3 ∧ Az (spec_StepsBetween.l1 kq x5_2 t547 x8_3 x10_3 a1_0 a1_1 ((rd_T25 x5_2 (ji26)).f0) ((rd_T25 x5_2 (ji26)).f1) x555000_3 x555001_3 = some r) ∧ Az (kq ≤ k2) ∧ Az (Kd.R k25 25 w' w.heap.size (fun k_ => some k_ ≠ (v548 : Value).ownBlock ∧ k_ ≠ gb537 ∧ k_ ≠ gb538 ∧ k_ ≠ gb552 ∧ k_ ≠ gb554) (.slice (some ad550) x5_2.length co32) x5_2) ∧ Az (Kd.R k25 25 w' w.heap.size (fun k_ => some k_ ≠ ((.slice (some ad550) x5_2.length co32) : Value).ownBlock ∧ k_ ≠ gb537 ∧ k_ ≠ gb538 ∧ k_ ≠ gb552 ∧ k_ ≠ gb554) v548 t547) ∧ Az (w'.heap[gb537]? = some (.cells #[.int .i64 a0_0, .int .i64 a0_1] 25 (0, 0))) ∧ Az (w'.heap[gb538]? = some (.cells #[.int .i64 a1_0, .int .i64 a1_1] 25 (0, 0))) ∧ Az (w'.heap[gb552]? = some (.cells #[.int .i64 ((rd_T25 x5_2 (ji26)).f0), .int .i64 ((rd_T25 x5_2 (ji26)).f1)] 25 (0, 0))) ∧ Az (w'.heap[gb554]? = some (.cells #[.int .i64 x555000_3, .int .i64 x555001_3] 25 (0, 0))) ∧ Az (Below w.heap.size w w'))
   case atStart => exact ⟨(t553), (0), ((rd_T25 x5_2 (ji26)).f0), ((rd_T25 x5_2 (ji26)).f1), rq2, rq2, H', ⟨Nat.le_refl _⟩, ⟨by (with_reducible repeat (first | apply Kd.R_alloc | apply Kd.R_drewN | apply Kd.R_drew)); exact Kd.R_mono (Kd.R_far (p := ⟨gb554, 1, none⟩) (Kd.R_far (p := ⟨gb554, 0, none⟩) (Kd.R_mono HO_5.out (fun k_ hk => (⟨hk, hk.2⟩ : _ ∧ k_ ≠ gb554))) (fun _ hk => hk.2) (.int .i64 ((rd_T25 x5_2 (ji26)).f0))) (fun _ hk => hk.2) (.int .i64 ((rd_T25 x5_2 (ji26)).f1))) (fun _ hk => ⟨hk.1.1.1.1, ⟨hk.1.1.1.2.1, ⟨hk.1.1.1.2.2, ⟨hk.1.1.2, hk.1.2⟩⟩⟩⟩)⟩, ⟨by (with_reducible repeat (first | apply Kd.R_alloc | apply Kd.R_drewN | apply Kd.R_drew)); exact Kd.R_mono (Kd.R_far (p := ⟨gb554, 1, none⟩) (Kd.R_far (p := ⟨gb554, 0, none⟩) (Kd.R_mono HO_6.out (fun k_ hk => (⟨hk, hk.2⟩ : _ ∧ k_ ≠ gb554))) (fun _ hk => hk.2) (.int .i64 ((rd_T25 x5_2 (ji26)).f0))) (fun _ hk => hk.2) (.int .i64 ((rd_T25 x5_2 (ji26)).f1))) (fun _ hk => ⟨hk.1.1.1.1, ⟨hk.1.1.1.2.1, ⟨hk.1.1.1.2.2, ⟨hk.1.1.2, hk.1.2⟩⟩⟩⟩)⟩, ⟨bkv⟩, ⟨bkv⟩, ⟨bkv⟩, ⟨by (with_reducible repeat first | apply bkN | apply bkD | apply bkA); refine bkp (cs := #[.int .i64 ((rd_T25 x5_2 (ji26)).f0), .int .i64 0]) ?_ 1 _ rfl; (with_reducible repeat first | apply bkN | apply bkD | apply bkA); refine bkp (cs := #[.int .i64 0, .int .i64 0]) ?_ 0 _ rfl; (with_reducible repeat first | apply bkN | apply bkD | apply bkA); exact BK554.out⟩, ⟨bw_22⟩⟩
   clear H'
   try clear c2
   try clear c7
   try clear c17
   try clear c27
   try clear c27b0
   try clear c28
   try clear c28b0
   try clear c29
   try clear c29b0
   try clear hcz10_0
   try clear hcz10_1
   try clear hcz12_0
   try clear hcz12_1
   try clear hcz15_0
   try clear hcz15_1
   try clear hcz22_0
   try clear hcz22_1
   try clear hcz36_0
   try clear hcz36_1
   try clear hcz38_0
   try clear hcz38_1
   try clear hcz40_0
   try clear hcz40_1
   try clear hcz45_0
   try clear hcz45_1
   try clear hfz10_0
   try clear hfz10_1
   try clear hfz12_0
   try clear hfz12_1
   try clear hfz15_0
   try clear hfz15_1
   try clear hfz22_0
   try clear hfz22_1
   try clear hfz36_0
   try clear hfz36_1
   try clear hfz38_0
   try clear hfz38_1
   try clear hfz40_0
   try clear hfz40_1
   try clear hfz45_0
   try clear hfz45_1
   try clear hx550_0
   try clear hx550_1
   try clear hx551_0
   try clear hx551_1
   try clear p550
   try clear p551
   try clear q550
   try clear q551
   obtain ⟨x8_3, x10_3, x555000_3, x555001_3, rfl, rfl, HA, HK3, HO_5, HO_6, BK537, BK538, BK552, BK554, HB⟩ := hrel
   cases gk with
   | zero => exact absurd HA.out (by simp [spec_StepsBetween.l1])
   | succ k3 =>
    have H := HA.out
    clear HA
    simp only [spec_StepsBetween.l1] at H
    by_cases c46 : x10_3 < (t547.length : Int)
    rotate_left
    ·rw [if_neg c46] at H
     have c46b0 : decide (x10_3 < (t547.length : Int)) = false := decide_eq_false c46
     clear c46
     by_cases c70 : (x555000_3 == ((rd_T25 x5_2 (ji26)).f0) && (x555001_3 == ((rd_T25 x5_2 (ji26)).f1))) = true
     ·rw [if_pos c70] at H
      have c70b0 : (x555000_3 == ((rd_T25 x5_2 (ji26)).f0) && (x555001_3 == ((rd_T25 x5_2 (ji26)).f1))) = true := c70
      (try (have c70b1 : decide (x555000_3 = ((rd_T25 x5_2 (ji26)).f0) && (x555001_3 == ((rd_T25 x5_2 (ji26)).f1))) = true := by simpa using c70))
      (try (have c70b2 : (x555000_3 == ((rd_T25 x5_2 (ji26)).f0) && (x555001_3 == ((rd_T25 x5_2 (ji26)).f1))) = true := by simpa using c70))
      clear c70
      obtain ⟨y555, hy555⟩ : ∃ y_ : List (S25), y_ = (([] : List (S25))) := ⟨_, rfl⟩
      replace H : (some y555) = some r := by first | (rw [hy555]; with_reducible exact H) | (have H2_ := (Option.bind_some _ _).symm.trans H; rw [hy555]; with_reducible exact H2_) | (have H2_ := (Option.bind_some _ _).symm.trans H; with_reducible exact H2_) | with_reducible exact H | (rw [hy555]; exact H) | exact H
      have Ny555 := Az.mk hy555
      clear hy555
      obtain rfl := Option.some.inj H
      obtain ⟨Ao71, co71, eo71⟩ := Kd.R_slice HO_6.out
      subst eo71
      have hnb72 := NB554_537.out
      have hnc72 := NB537_554.out
      have hnb73 := NB554_538.out
      have hnc73 := NB538_554.out
      have hnb74 := NB554_552.out
      have hnc74 := NB552_554.out
      have hcz75_0 := bkc0 BK554
      have hcz75_1 := bkc1 BK554
      have hfz75_0 := bkF BK554.out 0
      have hfz75_1 := bkF BK554.out 1
      have hnb76 := NB552_537.out
      have hnc76 := NB537_552.out
      have hnb77 := NB552_538.out
      have hnc77 := NB538_552.out
      have hcz78_0 := bkc0 BK552
      have hcz78_1 := bkc1 BK552
      have hfz78_0 := bkF BK552.out 0
      have hfz78_1 := bkF BK552.out 1
      go_wp2_with (first | ((with_reducible refine gtD (N := 77) rfl ?_); refine Kd.R_lit k25 _ 25 ?hg (N := 77) ?hd (xs := ([] : List (S25))) (inner := []) (ok := fun _ => True) (okp := fun _ => True) ?hr ?hp (fun _ hk => hk) trivial (Below.refl _ _) (Nat.le_refl _) (by simp) ?_; (case hd => rfl); (case hg => rfl); (case hr => first | (go_simp; done) | (go_simp; rfl)); (case hp => exact (Reps.none _ _)); intro v556 w79 ho80 hb hg_ hnew_; clear hg_ hnew_; (first | rw [← Ny555.out] at ho80 | (simp only [Int.reduceToNat] at ho80; rw [← Ny555.out] at ho80)); have HO557 := Az.mk (Kd.R_lower (Kd.R_newB (Kd.R_newB (Kd.R_newB (Kd.R_newB (Kd.R_new' (Kd.R_new' ho80 (Kd.R_lt z22_0)) (Kd.R_lt z22_1)) (g := gb537) (o := .cells #[.int .i64 a0_0, .int .i64 a0_1] 25 (0, 0)) (bk1 BK537)) (g := gb538) (o := .cells #[.int .i64 a1_0, .int .i64 a1_1] 25 (0, 0)) (bk1 BK538)) (g := gb552) (o := .cells #[.int .i64 ((rd_T25 x5_2 (ji26)).f0), .int .i64 ((rd_T25 x5_2 (ji26)).f1)] 25 (0, 0)) (bk1 BK552)) (g := gb554) (o := .cells #[.int .i64 x555000_3, .int .i64 x555001_3] 25 (0, 0)) (bk1 BK554)) (bwZ bw_22)); replace HO_5 := Az.mk (Kd.R_elder' z22_0 (Kd.R_base ho80) hb); replace HO_6 := Az.mk (Kd.R_elder' z22_1 (Kd.R_base ho80) hb); replace BK537 := bkz BK537 hb; replace BK538 := bkz BK538 hb; replace BK552 := Az.mk (bkB (g := gb552) (o := .cells #[.int .i64 ((rd_T25 x5_2 (ji26)).f0), .int .i64 ((rd_T25 x5_2 (ji26)).f1)] 25 (0, 0)) (bk1 BK552) hb); replace BK554 := bkz BK554 hb; replace HB := Az.mk (bwT bw_22 hb); clear hb ho80))
      go_ret
      exact ⟨_, by first | rfl | (simp [eWn, eWs] <;> rfl) | (simp only [← hji26]; first | rfl | (simp [eWn, eWs] <;> rfl)) | (simp [*, eWn, eWs] <;> rfl), by (with_reducible repeat (first | apply Kd.R_alloc | apply Kd.R_drewN | apply Kd.R_drew)); exact Kd.R_mono HO557.out (fun _ hk => trivial), bw_22⟩
     rw [if_neg c70] at H
     have c70b0 : (x555000_3 == ((rd_T25 x5_2 (ji26)).f0) && (x555001_3 == ((rd_T25 x5_2 (ji26)).f1))) = false := by simpa using c70
     (try (have c70b1 : decide (x555000_3 = ((rd_T25 x5_2 (ji26)).f0) && (x555001_3 == ((rd_T25 x5_2 (ji26)).f1))) = false := by simpa using c70))
     (try (have c70b2 : (x555000_3 == ((rd_T25 x5_2 (ji26)).f0) && (x555001_3 == ((rd_T25 x5_2 (ji26)).f1))) = false := by simpa using c70))
     (try (have c70b3 : ¬ (x555000_3 = ((rd_T25 x5_2 (ji26)).f0) && (x555001_3 == ((rd_T25 x5_2 (ji26)).f1))) := by simpa using c70))
     clear c70
     by_cases c81 : x5_2.length < 8796093022208
     rotate_left
     ·rw [if_neg c81] at H
      exact absurd H (by simp)
     rw [if_pos c81] at H
     have LMc81 := Az.mk c81
     clear c81
     obtain ⟨y558, hy558⟩ : ∃ y_ : List (S25), y_ = (x5_2 ++ [(⟨x555000_3, x555001_3⟩ : S25)]) := ⟨_, rfl⟩
     replace H : (spec_StepsBetween.l0 k3 y558 t547 a1_0 a1_1) = some r := by first | (rw [hy558]; with_reducible exact H) | (have H2_ := (Option.bind_some _ _).symm.trans H; rw [hy558]; with_reducible exact H2_) | (have H2_ := (Option.bind_some _ _).symm.trans H; with_reducible exact H2_) | with_reducible exact H | (rw [hy558]; exact H) | exact H
     have Ny558 := Az.mk hy558
     clear hy558
     have H' := Az.mk H
     clear H
     obtain ⟨Ao82, co82, eo82⟩ := Kd.R_slice HO_6.out
     subst eo82
     have hnb83 := NB554_537.out
     have hnc83 := NB537_554.out
     have hnb84 := NB554_538.out
     have hnc84 := NB538_554.out
     have hnb85 := NB554_552.out
     have hnc85 := NB552_554.out
     have hcz86_0 := bkc0 BK554
     have hcz86_1 := bkc1 BK554
     have hfz86_0 := bkF BK554.out 0
     have hfz86_1 := bkF BK554.out 1
     have hnb87 := NB552_537.out
     have hnc87 := NB537_552.out
     have hnb88 := NB552_538.out
     have hnc88 := NB538_552.out
     have hcz89_0 := bkc0 BK552
     have hcz89_1 := bkc1 BK552
     have hfz89_0 := bkF BK552.out 0
     have hfz89_1 := bkF BK552.out 1
     go_wp2_with (first | ((with_reducible refine gate_builtin (b := .append) (xs := #[.tmp 78, .tmp 80]) rfl ?_); at_builtin; refine Kd.R_append k25 (w0 := w) w.heap.size rfl (.tmp 78) (.tmp 80) 31 25 (.agg #[(.int .i64 0), (.int .i64 0)]) 16 rfl Try.underlying31 info25 rfl (by decide) (by omega) (.slice (some ad550) x5_2.length co32) x5_2 (⟨x555000_3, x555001_3⟩ : S25) [.int .i64 x555000_3, .int .i64 x555001_3] (fun k_ => some k_ ≠ (.slice Ao82 t547.length co82 : Value).ownBlock ∧ k_ ≠ gb537 ∧ k_ ≠ gb538 ∧ k_ ≠ gb552 ∧ k_ ≠ gb554) (fun _ => False) rfl rfl ?aP (fun _ hk => hk.elim) ?aF ?aO ?aB ?aS ?aL ?_; (case aP => exact k25_mkM _ _ _ (⟨x555000_3, x555001_3⟩ : S25)); (case aB => exact bw_22); (case aF => exact (fun k_ hk => ⟨Kd.fresh' (Kd.R_lt z22_1) k_ hk, Kd.freshB (g := gb537) (o := .cells #[.int .i64 a0_0, .int .i64 a0_1] 25 (0, 0)) (bk1 BK537) k_ hk, Kd.freshB (g := gb538) (o := .cells #[.int .i64 a1_0, .int .i64 a1_1] 25 (0, 0)) (bk1 BK538) k_ hk, Kd.freshB (g := gb552) (o := .cells #[.int .i64 ((rd_T25 x5_2 (ji26)).f0), .int .i64 ((rd_T25 x5_2 (ji26)).f1)] 25 (0, 0)) (bk1 BK552) k_ hk, Kd.freshB (g := gb554) (o := .cells #[.int .i64 x555000_3, .int .i64 x555001_3] 25 (0, 0)) (bk1 BK554) k_ hk⟩)); (case aO => exact z22_0); (case aS => exact (bwZ bw_22)); (case aL => have := LMc81.out; omega); intro v559 w90 ho hb hg hat; rw [← Ny558.out] at ho; have n0_ := Az.mk (Kd.R_after (ok := (fun k_ => k_ ≠ gb537 ∧ k_ ≠ gb538 ∧ k_ ≠ gb552 ∧ k_ ≠ gb554)) (by (with_reducible repeat (first | apply Kd.R_alloc | apply Kd.R_drewN | apply Kd.R_drew)); exact Kd.R_mono HO_6.out (fun _ hk => ⟨⟨hk.2.1, ⟨hk.2.2.1, ⟨hk.2.2.2.1, hk.2.2.2.2⟩⟩⟩, hk.1⟩)) hg hat); have n1_ := Az.mk (blk_grown (g := gb537) (o := .cells #[.int .i64 a0_0, .int .i64 a0_1] 25 (0, 0)) (bk1 BK537) hg (Kd.R_away HO_5.out (fun _ hk => hk.2.1))); have n2_ := Az.mk (blk_grown (g := gb538) (o := .cells #[.int .i64 a1_0, .int .i64 a1_1] 25 (0, 0)) (bk1 BK538) hg (Kd.R_away HO_5.out (fun _ hk => hk.2.2.1))); have n3_ := Az.mk (blk_grown (g := gb552) (o := .cells #[.int .i64 ((rd_T25 x5_2 (ji26)).f0), .int .i64 ((rd_T25 x5_2 (ji26)).f1)] 25 (0, 0)) (bk1 BK552) hg (Kd.R_away HO_5.out (fun _ hk => hk.2.2.2.1))); have n4_ := Az.mk (blk_grown (g := gb554) (o := .cells #[.int .i64 x555000_3, .int .i64 x555001_3] 25 (0, 0)) (bk1 BK554) hg (Kd.R_away HO_5.out (fun _ hk => hk.2.2.2.2))); have n5_ := Az.mk (hb); have n6_ := Az.mk (ho); clear HO_6; clear BK537; clear BK538; clear BK552; clear BK554; clear HB; clear HO_5; have HO_6 := n0_; have BK537 := n1_; have BK538 := n2_; have BK552 := n3_; have BK554 := n4_; have HB := n5_; have HO560 := n6_; clear n0_ n1_ n2_ n3_ n4_ n5_ n6_; clear ho hb hg hat))
     go_roundg k3
     case measure => have := HJ2.out; have := HK2.out; have := HK3.out; omega
     case rel => exact ⟨(y558), H', ⟨by have := HJ2.out; have := HK2.out; have := HK3.out; omega⟩, ⟨by (with_reducible repeat (first | apply Kd.R_alloc | apply Kd.R_drewN | apply Kd.R_drew)); exact Kd.R_mono HO560.out (fun _ hk => ⟨hk.1, ⟨hk.2.1, hk.2.2.1⟩⟩)⟩, ⟨by (with_reducible repeat (first | apply Kd.R_alloc | apply Kd.R_drewN | apply Kd.R_drew)); exact Kd.R_mono HO_6.out (fun _ hk => ⟨hk.2, ⟨hk.1.1, hk.1.2.1⟩⟩)⟩, ⟨bk1 BK537⟩, ⟨bk1 BK538⟩, ⟨bw_22⟩⟩
    rw [if_pos c46] at H
    have c46b0 : decide (x10_3 < (t547.length : Int)) = true := decide_eq_true c46
    clear c46
    by_cases c47 : 0 ≤ x10_3
    rotate_left
    ·rw [if_neg c47] at H
     exact absurd H (by simp)
    rw [if_pos c47] at H
    have c47b0 : decide (0 ≤ x10_3) = true := decide_eq_true c47
    clear c47
    replace H := bez H
    obtain ⟨t562, A48, H⟩ := H
    try dsimp only at H
    by_cases c49 : t562 = 1
    rotate_left
    ·rw [if_neg c49] at H
     have c49b0 : (t562 == 1) = false := beq_eq_false_iff_ne.mpr c49
     have c49b1 : (t562 != 1) = true := bne_iff_ne.mpr c49
     have H' := Az.mk H
     clear H
     obtain ⟨Ao67, co67, eo67⟩ := Kd.R_slice HO_6.out
     subst eo67
     try go_wp2
     replace HO_5 := Az.mk (Kd.R_drew HO_5.out); replace HO_6 := Az.mk (Kd.R_drew HO_6.out); replace BK537 := Az.mk (bkD BK537.out); replace BK538 := Az.mk (bkD BK538.out); replace BK552 := Az.mk (bkD BK552.out); replace BK554 := Az.mk (bkD BK554.out); replace HB := Az.mk (bwD HB.out)
     have p561 : 0 ≤ (x10_3 : Int) := of_decide_eq_true z22_2
     have q561 : x10_3 < (t547.length : Int) := of_decide_eq_true z22_2
     obtain ⟨ad561, e561, hx561_0, hx561_1⟩ := at_T25 (Kd.R_reads' HO_6.out).2.2 x10_3 p561 q561
     cases e561
     replace p561 := eq_true p561
     replace q561 := eq_true q561
     refine start_ (n := 17) (S := fun w' => w'.cell? ⟨gb552, 0, none⟩ = some (.int .i64 ((rd_T25 x5_2 (ji26)).f0)) ∧ w'.cell? ⟨gb552, 1, none⟩ = some (.int .i64 ((rd_T25 x5_2 (ji26)).f1)) ∧ w'.cell? (ad561.add ((x10_3).toNat * 2)) = some (.int .i64 ((rd_T25 t547 x10_3).f0)) ∧ w'.cell? ⟨(ad561.add ((x10_3).toNat * 2)).block, (ad561.add ((x10_3).toNat * 2)).off + 1, none⟩ = some (.int .i64 ((rd_T25 t547 x10_3).f1))) (ds := []) #[F,F,F,F,F,F,F,F,F,F,F,F,F,F,F,F,F] z22_3 rfl rfl ⟨(bkC BK552.out 0).trans rfl, (bkC BK552.out 1).trans rfl, hx561_0, hx561_1⟩ (fun hHeld => ?_); refine with_tabW spec_StepsBetween.tab12 spec_StepsBetween.bits12 (fun HT_ HW_ => ?_)
     generalize wr.drew = w68 at HO_5 HO_6 BK537 BK538 BK552 BK554 HB hx561_0 hx561_1 hHeld ⊢
     refine pu (i := 1) (N := some 48) #[F,T,F,F,F,F,F,F,F,F,F,F,F,F,F,F,F] (any_of HT_.out z22_3) ?_
     refine pu (i := 2) (N := some 49) #[F,T,T,F,F,F,F,F,F,F,F,F,F,F,F,F,F] (any_of HT_.out z22_3) ?_
     refine pu (i := 3) (N := some 50) #[F,T,T,T,F,F,F,F,F,F,F,F,F,F,F,F,F] (any_of HT_.out z22_3) ?_
     refine take_ (i := 0) (N := some 47) (v := ?_) (a' := ?_) #[T,T,T,T,F,F,F,F,F,F,F,F,F,F,F,F,F] rfl rfl (take_ofW HT_.out HW_.out z22_3) (fun _ _ _ h => h) (Or.inl ⟨by rfl, ?_⟩) hHeld ?_ ?_
     rotate_left
     ·rintro w' ⟨s0, s1, s2, s3⟩
      go_simp
      with_reducible rfl
     rotate_left
     ·exact acq
     refine take_ (i := 4) (N := some 51) (v := ?_) (a' := ?_) #[T,T,T,T,T,F,F,F,F,F,F,F,F,F,F,F,F] rfl rfl (take_ofW HT_.out HW_.out z22_3) (fun _ _ _ h => h) (Or.inl ⟨by rfl, ?_⟩) hHeld ?_ ?_
     rotate_left
     ·rintro w' ⟨s0, s1, s2, s3⟩
      go_simp
      with_reducible rfl
     rotate_left
     ·exact acq
     refine one_ (i := 5) (N := some 52) #[T,T,T,T,T,T,F,F,F,F,F,F,F,F,F,F,F] rfl rfl (one_of HT_.out z22_3) (by decide) (fun K hK => ?_)
     refine goes_ Try.func18 z22_3 rfl #[.agg #[.int .i64 ((rd_T25 x5_2 (ji26)).f0), .int .i64 ((rd_T25 x5_2 (ji26)).f1)], .agg #[.int .i64 ((rd_T25 t547 x10_3).f0), .int .i64 ((rd_T25 t547 x10_3).f1)]] (by rfl) rfl rfl z22_4 ?_
     with_reducible refine (spec_CrossNumber.calls k3 ((rd_T25 x5_2 (ji26)).f0) ((rd_T25 x5_2 (ji26)).f1) ((rd_T25 t547 x10_3).f0) ((rd_T25 t547 x10_3).f1) t562 _ A48.out).mono ?_
     rintro e w69 ⟨rfl, hb⟩
     have HS2_ := (hb.cell (World.block_lt_of_cell? _ _ (hHeld.2.2.1))).trans (hHeld.2.2.1)
     have HS3_ := (hb.cell (World.block_lt_of_cell? _ _ (hHeld.2.2.2))).trans (hHeld.2.2.2)
     refine ⟨_, rfl, ?_⟩
     replace HO_5 := Az.mk (Kd.R_below z22_0 hb); replace HO_6 := Az.mk (Kd.R_below z22_1 hb); replace BK537 := bkz BK537 hb; replace BK538 := bkz BK538 hb; replace BK552 := Az.mk (bkB (g := gb552) (o := .cells #[.int .i64 ((rd_T25 x5_2 (ji26)).f0), .int .i64 ((rd_T25 x5_2 (ji26)).f1)] 25 (0, 0)) (bk1 BK552) hb); replace BK554 := bkz BK554 hb; replace HB := Az.mk (bwT bw_22 hb)
     (try clear hb)
     (try clear hb2)
     (try clear hk)
     (try clear hi)
     refine hK.out _ _ ⟨(bkC BK552.out 0).trans rfl, (bkC BK552.out 1).trans rfl, HS2_, HS3_⟩ (fun hHeld => ?_)
     clear hK K
     refine norm_ (a' := ?_) ?_ ?_
     rotate_left
     ·show Act.put _ (some 52) _ = _
      exact acq
     refine pu (i := 6) (N := some 53) #[T,T,T,T,T,T,T,F,F,F,F,F,F,F,F,F,F] (any_of HT_.out z22_3) ?_
     refine pu (i := 7) (N := some 54) #[T,T,T,T,T,T,T,T,F,F,F,F,F,F,F,F,F] (any_of HT_.out z22_3) ?_
     refine pure_ (i := 8) (N := some 55) (v := undef) (a' := ?_) #[T,T,T,T,T,T,T,T,T,F,F,F,F,F,F,F,F] rfl rfl (any_of HT_.out z22_3) (fun _ _ _ h => h) (Or.inr ⟨by rfl, rfl⟩) ?_ ?_
     rotate_left
     ·exact acq
     refine pure_ (i := 9) (N := some 56) (v := undef) (a' := ?_) #[T,T,T,T,T,T,T,T,T,T,F,F,F,F,F,F,F] rfl rfl (any_of HT_.out z22_3) (fun _ _ _ h => h) (Or.inr ⟨by rfl, rfl⟩) ?_ ?_
     rotate_left
     ·exact acq
     refine pure_ (i := 10) (N := some 57) (v := undef) (a' := ?_) #[T,T,T,T,T,T,T,T,T,T,T,F,F,F,F,F,F] rfl rfl (any_of HT_.out z22_3) (fun _ _ _ h => h) (Or.inr ⟨by rfl, rfl⟩) ?_ ?_
     rotate_left
     ·exact acq
     refine pure_ (i := 11) (N := some 58) (v := undef) (a' := ?_) #[T,T,T,T,T,T,T,T,T,T,T,T,F,F,F,F,F] rfl rfl (any_of HT_.out z22_3) (fun _ _ _ h => h) (Or.inr ⟨by rfl, rfl⟩) ?_ ?_
     rotate_left
     ·exact acq
     refine pure_ (i := 12) (N := some 59) (v := undef) (a' := ?_) #[T,T,T,T,T,T,T,T,T,T,T,T,T,F,F,F,F] rfl rfl (any_of HT_.out z22_3) (fun _ _ _ h => h) (Or.inr ⟨by rfl, rfl⟩) ?_ ?_
     rotate_left
     ·exact acq
     refine pure_ (i := 13) (N := some 60) (v := undef) (a' := ?_) #[T,T,T,T,T,T,T,T,T,T,T,T,T,T,F,F,F] rfl rfl (any_of HT_.out z22_3) (fun _ _ _ h => h) (Or.inr ⟨by rfl, rfl⟩) ?_ ?_
     rotate_left
     ·exact acq
     refine pure_ (i := 14) (N := some 61) (v := undef) (a' := ?_) #[T,T,T,T,T,T,T,T,T,T,T,T,T,T,T,F,F] rfl rfl (any_of HT_.out z22_3) (fun _ _ _ h => h) (Or.inr ⟨by rfl, rfl⟩) ?_ ?_
     rotate_left
     ·exact acq
     refine pure_ (i := 15) (N := some 62) (v := undef) (a' := ?_) #[T,T,T,T,T,T,T,T,T,T,T,T,T,T,T,T,F] rfl rfl (any_of HT_.out z22_3) (fun _ _ _ h => h) (Or.inr ⟨by rfl, rfl⟩) ?_ ?_
     rotate_left
     ·exact acq
     refine pu (i := 16) (N := some 63) #[T,T,T,T,T,T,T,T,T,T,T,T,T,T,T,T,T] (any_of HT_.out z22_3) ?_
     refine done_ (done_of HT_.out z22_3) ?_
     try go_wp2
     go_roundg k3
     case measure => have := HJ2.out; have := HK2.out; have := HK3.out; omega
     case rel => exact ⟨(x8_3), (wrap64 (x10_3 + 1)), (x555000_3), (x555001_3), rq2, rq2, H', ⟨by have := HJ2.out; have := HK2.out; have := HK3.out; omega⟩, ⟨by (with_reducible repeat (first | apply Kd.R_alloc | apply Kd.R_drewN | apply Kd.R_drew)); exact HO_5.out⟩, ⟨by (with_reducible repeat (first | apply Kd.R_alloc | apply Kd.R_drewN | apply Kd.R_drew)); exact HO_6.out⟩, ⟨bk1 BK537⟩, ⟨bk1 BK538⟩, ⟨bk1 BK552⟩, ⟨bk1 BK554⟩, ⟨bw_22⟩⟩
    rw [if_pos c49] at H
    have c49b0 : (t562 == 1) = true := beq_iff_eq.mpr c49
    have c49b1 : (t562 != 1) = false := bne_eq_false_iff_eq.mpr c49
    clear c49
    replace H := bez H
    obtain ⟨t564, A50, H⟩ := H
    try dsimp only at H
    by_cases c51 : t564 < x8_3
    rotate_left
    ·rw [if_neg c51] at H
     have c51b0 : decide (t564 < x8_3) = false := decide_eq_false c51
     clear c51
     have H' := Az.mk H
     clear H
     obtain ⟨Ao63, co63, eo63⟩ := Kd.R_slice HO_6.out
     subst eo63
     try go_wp2
     replace HO_5 := Az.mk (Kd.R_drew HO_5.out); replace HO_6 := Az.mk (Kd.R_drew HO_6.out); replace BK537 := Az.mk (bkD BK537.out); replace BK538 := Az.mk (bkD BK538.out); replace BK552 := Az.mk (bkD BK552.out); replace BK554 := Az.mk (bkD BK554.out); replace HB := Az.mk (bwD HB.out)
     have p561 : 0 ≤ (x10_3 : Int) := of_decide_eq_true z22_2
     have q561 : x10_3 < (t547.length : Int) := of_decide_eq_true z22_2
     obtain ⟨ad561, e561, hx561_0, hx561_1⟩ := at_T25 (Kd.R_reads' HO_6.out).2.2 x10_3 p561 q561
     cases e561
     replace p561 := eq_true p561
     replace q561 := eq_true q561
     have p563 : 0 ≤ (x10_3 : Int) := of_decide_eq_true z22_2
     have q563 : x10_3 < (t547.length : Int) := of_decide_eq_true z22_2
     obtain ⟨ad563, e563, hx563_0, hx563_1⟩ := at_T25 (Kd.R_reads' HO_6.out).2.2 x10_3 p563 q563
     obtain rfl : ad561 = ad563 := (by injection e563)
     replace p563 := eq_true p563
     replace q563 := eq_true q563
     refine start_ (n := 17) (S := fun w' => w'.cell? ⟨gb552, 0, none⟩ = some (.int .i64 ((rd_T25 x5_2 (ji26)).f0)) ∧ w'.cell? ⟨gb552, 1, none⟩ = some (.int .i64 ((rd_T25 x5_2 (ji26)).f1)) ∧ w'.cell? ⟨gb538, 0, none⟩ = some (.int .i64 a1_0) ∧ w'.cell? ⟨gb538, 1, none⟩ = some (.int .i64 a1_1) ∧ w'.cell? (ad561.add ((x10_3).toNat * 2)) = some (.int .i64 ((rd_T25 t547 x10_3).f0)) ∧ w'.cell? ⟨(ad561.add ((x10_3).toNat * 2)).block, (ad561.add ((x10_3).toNat * 2)).off + 1, none⟩ = some (.int .i64 ((rd_T25 t547 x10_3).f1)) ∧ w'.cell? (ad561.add ((x10_3).toNat * 2)) = some (.int .i64 ((rd_T25 t547 x10_3).f0)) ∧ w'.cell? ⟨(ad561.add ((x10_3).toNat * 2)).block, (ad561.add ((x10_3).toNat * 2)).off + 1, none⟩ = some (.int .i64 ((rd_T25 t547 x10_3).f1))) (ds := []) #[F,F,F,F,F,F,F,F,F,F,F,F,F,F,F,F,F] z22_3 rfl rfl ⟨(bkC BK552.out 0).trans rfl, (bkC BK552.out 1).trans rfl, (bkC BK538.out 0).trans rfl, (bkC BK538.out 1).trans rfl, hx561_0, hx561_1, hx563_0, hx563_1⟩ (fun hHeld => ?_); refine with_tabW spec_StepsBetween.tab12 spec_StepsBetween.bits12 (fun HT_ HW_ => ?_)
     generalize wr.drew = w64 at HO_5 HO_6 BK537 BK538 BK552 BK554 HB hx561_0 hx561_1 hx563_0 hx563_1 hHeld ⊢
     refine pu (i := 1) (N := some 48) #[F,T,F,F,F,F,F,F,F,F,F,F,F,F,F,F,F] (any_of HT_.out z22_3) ?_
     refine pu (i := 2) (N := some 49) #[F,T,T,F,F,F,F,F,F,F,F,F,F,F,F,F,F] (any_of HT_.out z22_3) ?_
     refine pu (i := 3) (N := some 50) #[F,T,T,T,F,F,F,F,F,F,F,F,F,F,F,F,F] (any_of HT_.out z22_3) ?_
     refine take_ (i := 0) (N := some 47) (v := ?_) (a' := ?_) #[T,T,T,T,F,F,F,F,F,F,F,F,F,F,F,F,F] rfl rfl (take_ofW HT_.out HW_.out z22_3) (fun _ _ _ h => h) (Or.inl ⟨by rfl, ?_⟩) hHeld ?_ ?_
     rotate_left
     ·rintro w' ⟨s0, s1, s2, s3, s4, s5, s6, s7⟩
      go_simp
      with_reducible rfl
     rotate_left
     ·exact acq
     refine take_ (i := 4) (N := some 51) (v := ?_) (a' := ?_) #[T,T,T,T,T,F,F,F,F,F,F,F,F,F,F,F,F] rfl rfl (take_ofW HT_.out HW_.out z22_3) (fun _ _ _ h => h) (Or.inl ⟨by rfl, ?_⟩) hHeld ?_ ?_
     rotate_left
     ·rintro w' ⟨s0, s1, s2, s3, s4, s5, s6, s7⟩
      go_simp
      with_reducible rfl
     rotate_left
     ·exact acq
     refine one_ (i := 5) (N := some 52) #[T,T,T,T,T,T,F,F,F,F,F,F,F,F,F,F,F] rfl rfl (one_of HT_.out z22_3) (by decide) (fun K hK => ?_)
     refine goes_ Try.func18 z22_3 rfl #[.agg #[.int .i64 ((rd_T25 x5_2 (ji26)).f0), .int .i64 ((rd_T25 x5_2 (ji26)).f1)], .agg #[.int .i64 ((rd_T25 t547 x10_3).f0), .int .i64 ((rd_T25 t547 x10_3).f1)]] (by rfl) rfl rfl z22_4 ?_
     with_reducible refine (spec_CrossNumber.calls k3 ((rd_T25 x5_2 (ji26)).f0) ((rd_T25 x5_2 (ji26)).f1) ((rd_T25 t547 x10_3).f0) ((rd_T25 t547 x10_3).f1) t562 _ A48.out).mono ?_
     rintro e w65 ⟨rfl, hb⟩
     have HS4_ := (hb.cell (World.block_lt_of_cell? _ _ (hHeld.2.2.2.2.1))).trans (hHeld.2.2.2.2.1)
     have HS5_ := (hb.cell (World.block_lt_of_cell? _ _ (hHeld.2.2.2.2.2.1))).trans (hHeld.2.2.2.2.2.1)
     have HS6_ := (hb.cell (World.block_lt_of_cell? _ _ (hHeld.2.2.2.2.2.2.1))).trans (hHeld.2.2.2.2.2.2.1)
     have HS7_ := (hb.cell (World.block_lt_of_cell? _ _ (hHeld.2.2.2.2.2.2.2))).trans (hHeld.2.2.2.2.2.2.2)
     refine ⟨_, rfl, ?_⟩
     replace HO_5 := Az.mk (Kd.R_below z22_0 hb); replace HO_6 := Az.mk (Kd.R_below z22_1 hb); replace BK537 := bkz BK537 hb; replace BK538 := bkz BK538 hb; replace BK552 := Az.mk (bkB (g := gb552) (o := .cells #[.int .i64 ((rd_T25 x5_2 (ji26)).f0), .int .i64 ((rd_T25 x5_2 (ji26)).f1)] 25 (0, 0)) (bk1 BK552) hb); replace BK554 := bkz BK554 hb; replace HB := Az.mk (bwT bw_22 hb)
     (try clear hb)
     (try clear hb2)
     (try clear hk)
     (try clear hi)
     refine hK.out _ _ ⟨(bkC BK552.out 0).trans rfl, (bkC BK552.out 1).trans rfl, (bkC BK538.out 0).trans rfl, (bkC BK538.out 1).trans rfl, HS4_, HS5_, HS6_, HS7_⟩ (fun hHeld => ?_)
     clear hK K
     refine norm_ (a' := ?_) ?_ ?_
     rotate_left
     ·show Act.put _ (some 52) _ = _
      exact acq
     refine pu (i := 6) (N := some 53) #[T,T,T,T,T,T,T,F,F,F,F,F,F,F,F,F,F] (any_of HT_.out z22_3) ?_
     refine pu (i := 7) (N := some 54) #[T,T,T,T,T,T,T,T,F,F,F,F,F,F,F,F,F] (any_of HT_.out z22_3) ?_
     refine pu (i := 8) (N := some 55) #[T,T,T,T,T,T,T,T,T,F,F,F,F,F,F,F,F] (any_of HT_.out z22_3) ?_
     refine pu (i := 9) (N := some 56) #[T,T,T,T,T,T,T,T,T,T,F,F,F,F,F,F,F] (any_of HT_.out z22_3) ?_
     refine pu (i := 10) (N := some 57) #[T,T,T,T,T,T,T,T,T,T,T,F,F,F,F,F,F] (any_of HT_.out z22_3) ?_
     refine pu (i := 14) (N := some 61) #[T,T,T,T,T,T,T,T,T,T,T,F,F,F,T,F,F] (any_of HT_.out z22_3) ?_
     refine take_ (i := 11) (N := some 58) (v := ?_) (a' := ?_) #[T,T,T,T,T,T,T,T,T,T,T,T,F,F,T,F,F] rfl rfl (take_ofW HT_.out HW_.out z22_3) (fun _ _ _ h => h) (Or.inl ⟨by rfl, ?_⟩) hHeld ?_ ?_
     rotate_left
     ·rintro w' ⟨s0, s1, s2, s3, s4, s5, s6, s7⟩
      go_simp
      with_reducible rfl
     rotate_left
     ·exact acq
     refine take_ (i := 12) (N := some 59) (v := ?_) (a' := ?_) #[T,T,T,T,T,T,T,T,T,T,T,T,T,F,T,F,F] rfl rfl (take_ofW HT_.out HW_.out z22_3) (fun _ _ _ h => h) (Or.inl ⟨by rfl, ?_⟩) hHeld ?_ ?_
     rotate_left
     ·rintro w' ⟨s0, s1, s2, s3, s4, s5, s6, s7⟩
      go_simp
      with_reducible rfl
     rotate_left
     ·exact acq
     refine one_ (i := 13) (N := some 60) #[T,T,T,T,T,T,T,T,T,T,T,T,T,T,T,F,F] rfl rfl (one_of HT_.out z22_3) (by decide) (fun K hK => ?_)
     refine goes_ Try.func14 z22_3 rfl #[.agg #[.int .i64 ((rd_T25 t547 x10_3).f0), .int .i64 ((rd_T25 t547 x10_3).f1)], .agg #[.int .i64 a1_0, .int .i64 a1_1]] (by rfl) rfl rfl ln_22 ?_
     with_reducible refine (spec_SlopeDistance.calls k3 ((rd_T25 t547 x10_3).f0) ((rd_T25 t547 x10_3).f1) a1_0 a1_1 t564 _ A50.out).mono ?_
     rintro e w66 ⟨rfl, hb⟩
     have HS4_ := (hb.cell (World.block_lt_of_cell? _ _ (hHeld.2.2.2.2.1))).trans (hHeld.2.2.2.2.1)
     have HS5_ := (hb.cell (World.block_lt_of_cell? _ _ (hHeld.2.2.2.2.2.1))).trans (hHeld.2.2.2.2.2.1)
     have HS6_ := (hb.cell (World.block_lt_of_cell? _ _ (hHeld.2.2.2.2.2.2.1))).trans (hHeld.2.2.2.2.2.2.1)
     have HS7_ := (hb.cell (World.block_lt_of_cell? _ _ (hHeld.2.2.2.2.2.2.2))).trans (hHeld.2.2.2.2.2.2.2)
     refine ⟨_, rfl, ?_⟩
     replace HO_5 := Az.mk (Kd.R_below z22_0 hb); replace HO_6 := Az.mk (Kd.R_below z22_1 hb); replace BK537 := bkz BK537 hb; replace BK538 := bkz BK538 hb; replace BK552 := Az.mk (bkB (g := gb552) (o := .cells #[.int .i64 ((rd_T25 x5_2 (ji26)).f0), .int .i64 ((rd_T25 x5_2 (ji26)).f1)] 25 (0, 0)) (bk1 BK552) hb); replace BK554 := bkz BK554 hb; replace HB := Az.mk (bwT bw_22 hb)
     (try clear hb)
     (try clear hb2)
     (try clear hk)
     (try clear hi)
     refine hK.out _ _ ⟨(bkC BK552.out 0).trans rfl, (bkC BK552.out 1).trans rfl, (bkC BK538.out 0).trans rfl, (bkC BK538.out 1).trans rfl, HS4_, HS5_, HS6_, HS7_⟩ (fun hHeld => ?_)
     clear hK K
     refine norm_ (a' := ?_) ?_ ?_
     rotate_left
     ·show Act.put _ (some 60) _ = _
      exact acq
     refine pu (i := 15) (N := some 62) #[T,T,T,T,T,T,T,T,T,T,T,T,T,T,T,T,F] (any_of HT_.out z22_3) ?_
     refine pu (i := 16) (N := some 63) #[T,T,T,T,T,T,T,T,T,T,T,T,T,T,T,T,T] (any_of HT_.out z22_3) ?_
     refine done_ (done_of HT_.out z22_3) ?_
     try go_wp2
     go_roundg k3
     case measure => have := HJ2.out; have := HK2.out; have := HK3.out; omega
     case rel => exact ⟨(x8_3), (wrap64 (x10_3 + 1)), (x555000_3), (x555001_3), rq2, rq2, H', ⟨by have := HJ2.out; have := HK2.out; have := HK3.out; omega⟩, ⟨by (with_reducible repeat (first | apply Kd.R_alloc | apply Kd.R_drewN | apply Kd.R_drew)); exact HO_5.out⟩, ⟨by (with_reducible repeat (first | apply Kd.R_alloc | apply Kd.R_drewN | apply Kd.R_drew)); exact HO_6.out⟩, ⟨bk1 BK537⟩, ⟨bk1 BK538⟩, ⟨bk1 BK552⟩, ⟨bk1 BK554⟩, ⟨bw_22⟩⟩
    rw [if_pos c51] at H
    have c51b0 : decide (t564 < x8_3) = true := decide_eq_true c51
    clear c51
    replace H := bez H
    obtain ⟨t566, A52, H⟩ := H
    try dsimp only at H
    have H' := Az.mk H
    clear H
    obtain ⟨Ao53, co53, eo53⟩ := Kd.R_slice HO_6.out
    subst eo53
    try go_wp2
    replace HO_5 := Az.mk (Kd.R_drew HO_5.out); replace HO_6 := Az.mk (Kd.R_drew HO_6.out); replace BK537 := Az.mk (bkD BK537.out); replace BK538 := Az.mk (bkD BK538.out); replace BK552 := Az.mk (bkD BK552.out); replace BK554 := Az.mk (bkD BK554.out); replace HB := Az.mk (bwD HB.out)
    have p561 : 0 ≤ (x10_3 : Int) := of_decide_eq_true z22_2
    have q561 : x10_3 < (t547.length : Int) := of_decide_eq_true z22_2
    obtain ⟨ad561, e561, hx561_0, hx561_1⟩ := at_T25 (Kd.R_reads' HO_6.out).2.2 x10_3 p561 q561
    cases e561
    replace p561 := eq_true p561
    replace q561 := eq_true q561
    have p563 : 0 ≤ (x10_3 : Int) := of_decide_eq_true z22_2
    have q563 : x10_3 < (t547.length : Int) := of_decide_eq_true z22_2
    obtain ⟨ad563, e563, hx563_0, hx563_1⟩ := at_T25 (Kd.R_reads' HO_6.out).2.2 x10_3 p563 q563
    obtain rfl : ad561 = ad563 := (by injection e563)
    replace p563 := eq_true p563
    replace q563 := eq_true q563
    refine start_ (n := 17) (S := fun w' => w'.cell? ⟨gb552, 0, none⟩ = some (.int .i64 ((rd_T25 x5_2 (ji26)).f0)) ∧ w'.cell? ⟨gb552, 1, none⟩ = some (.int .i64 ((rd_T25 x5_2 (ji26)).f1)) ∧ w'.cell? ⟨gb538, 0, none⟩ = some (.int .i64 a1_0) ∧ w'.cell? ⟨gb538, 1, none⟩ = some (.int .i64 a1_1) ∧ w'.cell? (ad561.add ((x10_3).toNat * 2)) = some (.int .i64 ((rd_T25 t547 x10_3).f0)) ∧ w'.cell? ⟨(ad561.add ((x10_3).toNat * 2)).block, (ad561.add ((x10_3).toNat * 2)).off + 1, none⟩ = some (.int .i64 ((rd_T25 t547 x10_3).f1)) ∧ w'.cell? (ad561.add ((x10_3).toNat * 2)) = some (.int .i64 ((rd_T25 t547 x10_3).f0)) ∧ w'.cell? ⟨(ad561.add ((x10_3).toNat * 2)).block, (ad561.add ((x10_3).toNat * 2)).off + 1, none⟩ = some (.int .i64 ((rd_T25 t547 x10_3).f1))) (ds := []) #[F,F,F,F,F,F,F,F,F,F,F,F,F,F,F,F,F] z22_3 rfl rfl ⟨(bkC BK552.out 0).trans rfl, (bkC BK552.out 1).trans rfl, (bkC BK538.out 0).trans rfl, (bkC BK538.out 1).trans rfl, hx561_0, hx561_1, hx563_0, hx563_1⟩ (fun hHeld => ?_); refine with_tabW spec_StepsBetween.tab12 spec_StepsBetween.bits12 (fun HT_ HW_ => ?_)
    generalize wr.drew = w54 at HO_5 HO_6 BK537 BK538 BK552 BK554 HB hx561_0 hx561_1 hx563_0 hx563_1 hHeld ⊢
    refine pu (i := 1) (N := some 48) #[F,T,F,F,F,F,F,F,F,F,F,F,F,F,F,F,F] (any_of HT_.out z22_3) ?_
    refine pu (i := 2) (N := some 49) #[F,T,T,F,F,F,F,F,F,F,F,F,F,F,F,F,F] (any_of HT_.out z22_3) ?_
    refine pu (i := 3) (N := some 50) #[F,T,T,T,F,F,F,F,F,F,F,F,F,F,F,F,F] (any_of HT_.out z22_3) ?_
    refine take_ (i := 0) (N := some 47) (v := ?_) (a' := ?_) #[T,T,T,T,F,F,F,F,F,F,F,F,F,F,F,F,F] rfl rfl (take_ofW HT_.out HW_.out z22_3) (fun _ _ _ h => h) (Or.inl ⟨by rfl, ?_⟩) hHeld ?_ ?_
    rotate_left
    ·rintro w' ⟨s0, s1, s2, s3, s4, s5, s6, s7⟩
     go_simp
     with_reducible rfl
    rotate_left
    ·exact acq
    refine take_ (i := 4) (N := some 51) (v := ?_) (a' := ?_) #[T,T,T,T,T,F,F,F,F,F,F,F,F,F,F,F,F] rfl rfl (take_ofW HT_.out HW_.out z22_3) (fun _ _ _ h => h) (Or.inl ⟨by rfl, ?_⟩) hHeld ?_ ?_
    rotate_left
    ·rintro w' ⟨s0, s1, s2, s3, s4, s5, s6, s7⟩
     go_simp
     with_reducible rfl
    rotate_left
    ·exact acq
    refine one_ (i := 5) (N := some 52) #[T,T,T,T,T,T,F,F,F,F,F,F,F,F,F,F,F] rfl rfl (one_of HT_.out z22_3) (by decide) (fun K hK => ?_)
    refine goes_ Try.func18 z22_3 rfl #[.agg #[.int .i64 ((rd_T25 x5_2 (ji26)).f0), .int .i64 ((rd_T25 x5_2 (ji26)).f1)], .agg #[.int .i64 ((rd_T25 t547 x10_3).f0), .int .i64 ((rd_T25 t547 x10_3).f1)]] (by rfl) rfl rfl z22_4 ?_
    with_reducible refine (spec_CrossNumber.calls k3 ((rd_T25 x5_2 (ji26)).f0) ((rd_T25 x5_2 (ji26)).f1) ((rd_T25 t547 x10_3).f0) ((rd_T25 t547 x10_3).f1) t562 _ A48.out).mono ?_
    rintro e w55 ⟨rfl, hb⟩
    have HS4_ := (hb.cell (World.block_lt_of_cell? _ _ (hHeld.2.2.2.2.1))).trans (hHeld.2.2.2.2.1)
    have HS5_ := (hb.cell (World.block_lt_of_cell? _ _ (hHeld.2.2.2.2.2.1))).trans (hHeld.2.2.2.2.2.1)
    have HS6_ := (hb.cell (World.block_lt_of_cell? _ _ (hHeld.2.2.2.2.2.2.1))).trans (hHeld.2.2.2.2.2.2.1)
    have HS7_ := (hb.cell (World.block_lt_of_cell? _ _ (hHeld.2.2.2.2.2.2.2))).trans (hHeld.2.2.2.2.2.2.2)
    refine ⟨_, rfl, ?_⟩
    replace HO_5 := Az.mk (Kd.R_below z22_0 hb); replace HO_6 := Az.mk (Kd.R_below z22_1 hb); replace BK537 := bkz BK537 hb; replace BK538 := bkz BK538 hb; replace BK552 := Az.mk (bkB (g := gb552) (o := .cells #[.int .i64 ((rd_T25 x5_2 (ji26)).f0), .int .i64 ((rd_T25 x5_2 (ji26)).f1)] 25 (0, 0)) (bk1 BK552) hb); replace BK554 := bkz BK554 hb; replace HB := Az.mk (bwT bw_22 hb)
    (try clear hb)
    (try clear hb2)
    (try clear hk)
    (try clear hi)
    refine hK.out _ _ ⟨(bkC BK552.out 0).trans rfl, (bkC BK552.out 1).trans rfl, (bkC BK538.out 0).trans rfl, (bkC BK538.out 1).trans rfl, HS4_, HS5_, HS6_, HS7_⟩ (fun hHeld => ?_)
    clear hK K
    refine norm_ (a' := ?_) ?_ ?_
    rotate_left
    ·show Act.put _ (some 52) _ = _
     exact acq
    refine pu (i := 6) (N := some 53) #[T,T,T,T,T,T,T,F,F,F,F,F,F,F,F,F,F] (any_of HT_.out z22_3) ?_
    refine pu (i := 7) (N := some 54) #[T,T,T,T,T,T,T,T,F,F,F,F,F,F,F,F,F] (any_of HT_.out z22_3) ?_
    refine pu (i := 8) (N := some 55) #[T,T,T,T,T,T,T,T,T,F,F,F,F,F,F,F,F] (any_of HT_.out z22_3) ?_
    refine pu (i := 9) (N := some 56) #[T,T,T,T,T,T,T,T,T,T,F,F,F,F,F,F,F] (any_of HT_.out z22_3) ?_
    refine pu (i := 10) (N := some 57) #[T,T,T,T,T,T,T,T,T,T,T,F,F,F,F,F,F] (any_of HT_.out z22_3) ?_
    refine pu (i := 14) (N := some 61) #[T,T,T,T,T,T,T,T,T,T,T,F,F,F,T,F,F] (any_of HT_.out z22_3) ?_
    refine take_ (i := 11) (N := some 58) (v := ?_) (a' := ?_) #[T,T,T,T,T,T,T,T,T,T,T,T,F,F,T,F,F] rfl rfl (take_ofW HT_.out HW_.out z22_3) (fun _ _ _ h => h) (Or.inl ⟨by rfl, ?_⟩) hHeld ?_ ?_
    rotate_left
    ·rintro w' ⟨s0, s1, s2, s3, s4, s5, s6, s7⟩
     go_simp
     with_reducible rfl
    rotate_left
    ·exact acq
    refine take_ (i := 12) (N := some 59) (v := ?_) (a' := ?_) #[T,T,T,T,T,T,T,T,T,T,T,T,T,F,T,F,F] rfl rfl (take_ofW HT_.out HW_.out z22_3) (fun _ _ _ h => h) (Or.inl ⟨by rfl, ?_⟩) hHeld ?_ ?_
    rotate_left
    ·rintro w' ⟨s0, s1, s2, s3, s4, s5, s6, s7⟩
     go_simp
     with_reducible rfl
    rotate_left
    ·exact acq
    refine one_ (i := 13) (N := some 60) #[T,T,T,T,T,T,T,T,T,T,T,T,T,T,T,F,F] rfl rfl (one_of HT_.out z22_3) (by decide) (fun K hK => ?_)
    refine goes_ Try.func14 z22_3 rfl #[.agg #[.int .i64 ((rd_T25 t547 x10_3).f0), .int .i64 ((rd_T25 t547 x10_3).f1)], .agg #[.int .i64 a1_0, .int .i64 a1_1]] (by rfl) rfl rfl ln_22 ?_
    with_reducible refine (spec_SlopeDistance.calls k3 ((rd_T25 t547 x10_3).f0) ((rd_T25 t547 x10_3).f1) a1_0 a1_1 t564 _ A50.out).mono ?_
    rintro e w56 ⟨rfl, hb⟩
    have HS4_ := (hb.cell (World.block_lt_of_cell? _ _ (hHeld.2.2.2.2.1))).trans (hHeld.2.2.2.2.1)
    have HS5_ := (hb.cell (World.block_lt_of_cell? _ _ (hHeld.2.2.2.2.2.1))).trans (hHeld.2.2.2.2.2.1)
    have HS6_ := (hb.cell (World.block_lt_of_cell? _ _ (hHeld.2.2.2.2.2.2.1))).trans (hHeld.2.2.2.2.2.2.1)
    have HS7_ := (hb.cell (World.block_lt_of_cell? _ _ (hHeld.2.2.2.2.2.2.2))).trans (hHeld.2.2.2.2.2.2.2)
    refine ⟨_, rfl, ?_⟩
    replace HO_5 := Az.mk (Kd.R_below z22_0 hb); replace HO_6 := Az.mk (Kd.R_below z22_1 hb); replace BK537 := bkz BK537 hb; replace BK538 := bkz BK538 hb; replace BK552 := Az.mk (bkB (g := gb552) (o := .cells #[.int .i64 ((rd_T25 x5_2 (ji26)).f0), .int .i64 ((rd_T25 x5_2 (ji26)).f1)] 25 (0, 0)) (bk1 BK552) hb); replace BK554 := bkz BK554 hb; replace HB := Az.mk (bwT bw_22 hb)
    (try clear hb)
    (try clear hb2)
    (try clear hk)
    (try clear hi)
    refine hK.out _ _ ⟨(bkC BK552.out 0).trans rfl, (bkC BK552.out 1).trans rfl, (bkC BK538.out 0).trans rfl, (bkC BK538.out 1).trans rfl, HS4_, HS5_, HS6_, HS7_⟩ (fun hHeld => ?_)
    clear hK K
    refine norm_ (a' := ?_) ?_ ?_
    rotate_left
    ·show Act.put _ (some 60) _ = _
     exact acq
    refine pu (i := 15) (N := some 62) #[T,T,T,T,T,T,T,T,T,T,T,T,T,T,T,T,F] (any_of HT_.out z22_3) ?_
    refine pu (i := 16) (N := some 63) #[T,T,T,T,T,T,T,T,T,T,T,T,T,T,T,T,T] (any_of HT_.out z22_3) ?_
    refine done_ (done_of HT_.out z22_3) ?_
    try go_wp2
    replace HO_5 := Az.mk (Kd.R_drew HO_5.out); replace HO_6 := Az.mk (Kd.R_drew HO_6.out); replace BK537 := Az.mk (bkD BK537.out); replace BK538 := Az.mk (bkD BK538.out); replace BK552 := Az.mk (bkD BK552.out); replace BK554 := Az.mk (bkD BK554.out); replace HB := Az.mk (bwD HB.out)
    have p565 : 0 ≤ (x10_3 : Int) := of_decide_eq_true z22_2
    have q565 : x10_3 < (t547.length : Int) := of_decide_eq_true z22_2
    obtain ⟨ad565, e565, hx565_0, hx565_1⟩ := at_T25 (Kd.R_reads' HO_6.out).2.2 x10_3 p565 q565
    obtain rfl : ad561 = ad565 := (by injection e565)
    replace p565 := eq_true p565
    replace q565 := eq_true q565
    refine start_ (n := 7) (S := fun w' => w'.cell? ⟨gb538, 0, none⟩ = some (.int .i64 a1_0) ∧ w'.cell? ⟨gb538, 1, none⟩ = some (.int .i64 a1_1) ∧ w'.cell? (ad561.add ((x10_3).toNat * 2)) = some (.int .i64 ((rd_T25 t547 x10_3).f0)) ∧ w'.cell? ⟨(ad561.add ((x10_3).toNat * 2)).block, (ad561.add ((x10_3).toNat * 2)).off + 1, none⟩ = some (.int .i64 ((rd_T25 t547 x10_3).f1))) (ds := []) #[F,F,F,F,F,F,F] z22_3 rfl rfl ⟨(bkC BK538.out 0).trans rfl, (bkC BK538.out 1).trans rfl, hx565_0, hx565_1⟩ (fun hHeld => ?_)
    generalize w56.drew = w57 at HO_5 HO_6 BK537 BK538 BK552 BK554 HB hx565_0 hx565_1 hHeld ⊢
    refine pure_ (i := 0) (N := some 64) (v := ?_) (a' := ?_) #[T,F,F,F,F,F,F] rfl rfl z22_3 (fun _ _ _ h => h) (Or.inl ⟨by rfl, ?_⟩) ?_ ?_
    rotate_left
    ·intro w'
     go_simp
     with_reducible rfl
    rotate_left
    ·exact acq
    refine pure_ (i := 1) (N := some 65) (v := ?_) (a' := ?_) #[T,T,F,F,F,F,F] rfl rfl z22_3 (fun _ _ _ h => h) (Or.inl ⟨by rfl, ?_⟩) ?_ ?_
    rotate_left
    ·intro w'
     go_simp
     with_reducible rfl
    rotate_left
    ·exact acq
    refine pure_ (i := 2) (N := some 66) (v := ?_) (a' := ?_) #[T,T,T,F,F,F,F] rfl rfl z22_3 (fun _ _ _ h => h) (Or.inl ⟨by rfl, ?_⟩) ?_ ?_
    rotate_left
    ·intro w'
     go_simp
     with_reducible rfl
    rotate_left
    ·exact acq
    refine take_ (i := 3) (N := some 67) (v := ?_) (a' := ?_) #[T,T,T,T,F,F,F] rfl rfl z22_3 (fun _ _ _ h => h) (Or.inl ⟨by rfl, ?_⟩) hHeld ?_ ?_
    rotate_left
    ·rintro w' ⟨s0, s1, s2, s3⟩
     go_simp
     with_reducible rfl
    rotate_left
    ·exact acq
    refine take_ (i := 4) (N := some 68) (v := ?_) (a' := ?_) #[T,T,T,T,T,F,F] rfl rfl z22_3 (fun _ _ _ h => h) (Or.inl ⟨by rfl, ?_⟩) hHeld ?_ ?_
    rotate_left
    ·rintro w' ⟨s0, s1, s2, s3⟩
     go_simp
     with_reducible rfl
    rotate_left
    ·exact acq
    refine one_ (i := 5) (N := some 69) #[T,T,T,T,T,T,F] rfl rfl z22_3 (by decide) (fun K hK => ?_)
    refine goes_ Try.func14 z22_3 rfl #[.agg #[.int .i64 ((rd_T25 t547 x10_3).f0), .int .i64 ((rd_T25 t547 x10_3).f1)], .agg #[.int .i64 a1_0, .int .i64 a1_1]] (by rfl) rfl rfl ln_22 ?_
    with_reducible refine (spec_SlopeDistance.calls k3 ((rd_T25 t547 x10_3).f0) ((rd_T25 t547 x10_3).f1) a1_0 a1_1 t566 _ A52.out).mono ?_
    rintro e w58 ⟨rfl, hb⟩
    have HS2_ := (hb.cell (World.block_lt_of_cell? _ _ (hHeld.2.2.1))).trans (hHeld.2.2.1)
    have HS3_ := (hb.cell (World.block_lt_of_cell? _ _ (hHeld.2.2.2))).trans (hHeld.2.2.2)
    refine ⟨_, rfl, ?_⟩
    replace HO_5 := Az.mk (Kd.R_below z22_0 hb); replace HO_6 := Az.mk (Kd.R_below z22_1 hb); replace BK537 := bkz BK537 hb; replace BK538 := bkz BK538 hb; replace BK552 := Az.mk (bkB (g := gb552) (o := .cells #[.int .i64 ((rd_T25 x5_2 (ji26)).f0), .int .i64 ((rd_T25 x5_2 (ji26)).f1)] 25 (0, 0)) (bk1 BK552) hb); replace BK554 := bkz BK554 hb; replace HB := Az.mk (bwT bw_22 hb)
    (try clear hb)
    (try clear hb2)
    (try clear hk)
    (try clear hi)
    refine hK.out _ _ ⟨(bkC BK538.out 0).trans rfl, (bkC BK538.out 1).trans rfl, HS2_, HS3_⟩ (fun hHeld => ?_)
    clear hK K
    refine norm_ (a' := ?_) ?_ ?_
    rotate_left
    ·show Act.put _ (some 69) _ = _
     exact acq
    refine pure_ (i := 6) (N := some 8) (v := ?_) (a' := ?_) #[T,T,T,T,T,T,T] rfl rfl z22_3 (fun _ _ _ h => h) (Or.inl ⟨by rfl, ?_⟩) ?_ ?_
    rotate_left
    ·intro w'
     go_simp
     with_reducible rfl
    rotate_left
    ·exact acq
    refine done_ z22_3 ?_
    have p567 : 0 ≤ (x10_3 : Int) := of_decide_eq_true z22_2
    have q567 : x10_3 < (t547.length : Int) := of_decide_eq_true z22_2
    obtain ⟨ad567, e567, hx567_0, hx567_1⟩ := at_T25 (Kd.R_reads' HO_6.out).2.2 x10_3 p567 q567
    obtain rfl : ad561 = ad567 := (by injection e567)
    replace p567 := eq_true p567
    replace q567 := eq_true q567
    have hnb59 := NB554_537.out
    have hnc59 := NB537_554.out
    have hnb60 := NB554_538.out
    have hnc60 := NB538_554.out
    have hnb61 := NB554_552.out
    have hnc61 := NB552_554.out
    have hcz62_0 := bkc0 BK554
    have hcz62_1 := bkc1 BK554
    have hfz62_0 := bkF BK554.out 0
    have hfz62_1 := bkF BK554.out 1
    try go_wp2
    go_roundg k3
    case measure => have := HJ2.out; have := HK2.out; have := HK3.out; omega
    case rel => exact ⟨(t566), (wrap64 (x10_3 + 1)), ((rd_T25 t547 x10_3).f0), ((rd_T25 t547 x10_3).f1), rq2, rq2, H', ⟨by have := HJ2.out; have := HK2.out; have := HK3.out; omega⟩, ⟨by (with_reducible repeat (first | apply Kd.R_alloc | apply Kd.R_drewN | apply Kd.R_drew)); exact Kd.R_mono (Kd.R_far (p := ⟨gb554, 1, none⟩) (Kd.R_far (p := ⟨gb554, 0, none⟩) (Kd.R_mono HO_5.out (fun k_ hk => (⟨hk, hk.2.2.2.2⟩ : _ ∧ k_ ≠ gb554))) (fun _ hk => hk.2) (.int .i64 ((rd_T25 t547 x10_3).f0))) (fun _ hk => hk.2) (.int .i64 ((rd_T25 t547 x10_3).f1))) (fun _ hk => ⟨hk.1.1, ⟨hk.1.2.1, ⟨hk.1.2.2.1, ⟨hk.1.2.2.2.1, hk.1.2.2.2.2⟩⟩⟩⟩)⟩, ⟨by (with_reducible repeat (first | apply Kd.R_alloc | apply Kd.R_drewN | apply Kd.R_drew)); exact Kd.R_mono (Kd.R_far (p := ⟨gb554, 1, none⟩) (Kd.R_far (p := ⟨gb554, 0, none⟩) (Kd.R_mono HO_6.out (fun k_ hk => (⟨hk, hk.2.2.2.2⟩ : _ ∧ k_ ≠ gb554))) (fun _ hk => hk.2) (.int .i64 ((rd_T25 t547 x10_3).f0))) (fun _ hk => hk.2) (.int .i64 ((rd_T25 t547 x10_3).f1))) (fun _ hk => ⟨hk.1.1, ⟨hk.1.2.1, ⟨hk.1.2.2.1, ⟨hk.1.2.2.2.1, hk.1.2.2.2.2⟩⟩⟩⟩)⟩, ⟨bkv⟩, ⟨bkv⟩, ⟨bkv⟩, ⟨bkv⟩, ⟨bw_22⟩⟩

end Go.Proofs.Ytigcjehokbgclaa.P
