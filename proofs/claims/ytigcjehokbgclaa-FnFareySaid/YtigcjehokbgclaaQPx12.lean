-- By this session's driver (wip/tools/mk.py) of the kit's print program, over several statements at once. Not trusted: Lean checks it.
import Derived.Test.YtigcjehokbgclaaQWZip
import Derived.Test.YtigcjehokbgclaaQPx0
import Derived.Test.YtigcjehokbgclaaQPx5
import Derived.Test.YtigcjehokbgclaaQPx11
namespace Go.Proofs.Ytigcjehokbgclaa.P
open Go.RowKit Go.Proofs.YtigcjehokbgclaaW.PrintWords Go.Proofs.YtigcjehokbgclaaW.PrintLast Go.Proofs.YtigcjehokbgclaaW.PrintMore
attribute [local go_sem] max2_int min2_int max_two min_two max_three min_three max_four min_four   -- for this text's walks alone
set_option linter.unusedVariables false
set_option linter.unusedSimpArgs false
theorem bw_12 {n : Nat} {v v' : World} (h : Below n v v' := by repeat (first | (with_reducible first | exact HB.out | apply bwA | apply pbN | apply bwD | refine bwS ?_ GE323.out) | exact HB.out)) : Below n v v' := h
theorem ln_12 {P : Prop} (h : P := by (try simp only [List.map_toArray, List.map_cons, List.map_nil]); first | done | rfl | (simp only [List.length_drop, List.length_take]; rfl)) : P := h
open Option renaming bind_eq_some_iff → be

/-! ### spec_ParentsOf: function 13 -/
mutual
def spec_ParentsOf.j0 : Nat → Bool → Int → Int → Option ((List (S25)) × Bool)
 | 0, _, _, _ => none
 | k + 1, x13, x324000, x324001 => if x13 = true then (some ((([] : List (S25))), false)) else (spec_ParentsOf.l0 k 1 x324000 x324001)
def spec_ParentsOf.l0 : Nat → Int → Int → Int → Option ((List (S25)) × Bool)
 | 0, _, _, _ => none
 | k + 1, x4, x324000, x324001 => if x4 < x324001 then ((spec_l14Down.f (wrap64 (x324000 * x4)) x324001).bind fun t328 => (if (wrap64 ((wrap64 (x324000 * x4)) - (wrap64 (t328 * x324001)))) = 1 then (some ((([(⟨t328, x4⟩ : S25), (⟨wrap64 (x324000 - t328), wrap64 (x324001 - x4)⟩ : S25)] : List (S25))), true)) else (spec_ParentsOf.l0 k (wrap64 (x4 + 1)) x324000 x324001))) else (some ((([] : List (S25))), false))
end
def spec_ParentsOf.f (k : Nat) (a0_0 : Int) (a0_1 : Int) : Option ((List (S25)) × Bool) := (spec_IsSlope.f k a0_0 a0_1).bind fun t324 => (if t324 = true then (spec_ParentsOf.j0 k (decide (a0_1 < 2)) a0_0 a0_1) else (spec_ParentsOf.j0 k true a0_0 a0_1))
theorem spec_ParentsOf.mono_l : ∀ k, (∀ y0 y1 y2, LeO (spec_ParentsOf.j0 k y0 y1 y2) (spec_ParentsOf.j0 (k + 1) y0 y1 y2)) ∧ (∀ y0 y1 y2, LeO (spec_ParentsOf.l0 k y0 y1 y2) (spec_ParentsOf.l0 (k + 1) y0 y1 y2))
 | 0 => ⟨fun _ _ _ r h => by simp [spec_ParentsOf.j0] at h, fun _ _ _ r h => by simp [spec_ParentsOf.l0] at h⟩
 | k + 1 => by
  obtain ⟨ih0, ih1⟩ := spec_ParentsOf.mono_l k
  have i0 := fun z0 z1 z2 => MoO.mk (ih0 z0 z1 z2)
  have i1 := fun z0 z1 z2 => MoO.mk (ih1 z0 z1 z2)
  refine ⟨?_, ?_⟩
  ·intro y0 y1 y2
   unfold spec_ParentsOf.j0
   exact mo_
  intro y0 y1 y2
  unfold spec_ParentsOf.l0
  exact mo_
theorem spec_ParentsOf.mono : ∀ a0 a1 k, LeO (spec_ParentsOf.f k a0 a1) (spec_ParentsOf.f (k + 1) a0 a1) := by
 intro a0 a1 k
 obtain ⟨ih0, ih1⟩ := spec_ParentsOf.mono_l k
 have i0 := fun z0 z1 z2 => MoO.mk (ih0 z0 z1 z2)
 have i1 := fun z0 z1 z2 => MoO.mk (ih1 z0 z1 z2)
 unfold spec_ParentsOf.f
 exact mo_
instance spec_ParentsOf.mi {a0 a1 k} : MoO (spec_ParentsOf.f k a0 a1) (spec_ParentsOf.f (k + 1) a0 a1) := ⟨spec_ParentsOf.mono _ _ _⟩
set_option maxHeartbeats 8000000 in
set_option maxRecDepth 100000 in
theorem spec_ParentsOf.calls (k : Nat) (a0_0 : Int) (a0_1 : Int) (r1 : List (S25)) (r2 : Bool) (w : World) (h : spec_ParentsOf.f k a0_0 a0_1 = some (r1, r2)) :
  Calls Try.prog 13 #[.agg #[.int .i64 a0_0, .int .i64 a0_1]] w fun e w' => ∃ v0_ : Value, e = .returned (.tuple #[v0_, .bool r2]) ∧ Kd.R k25 25 w' w.heap.size (fun _ => True) v0_ r1 ∧ Below w.heap.size w w' := by
 have hu25 := Try.underlying25
 have HB := Az.mk (Below.refl w.heap.size w)
 have H : ((spec_IsSlope.f k a0_0 a0_1).bind fun t324 => (if t324 = true then (spec_ParentsOf.j0 k (decide (a0_1 < 2)) a0_0 a0_1) else (spec_ParentsOf.j0 k true a0_0 a0_1))) = some (r1, r2) := h
 clear h
 have HC2 := Az.mk H
 clear H
 go_enter Try.func13, Try.ntmps13
 go_upto_region 1 with (first | ((with_reducible refine gtD (N := 1) rfl ?_); refine bx (N := 1) (cs := #[.int .i64 a0_0, .int .i64 a0_1]) (t := 25) ?_; intro gb323 hg w3 hbox hb; have BK323 := Az.mk (hbox); have GW323 := gwz hg bw_12; have GE323 := gwz hg bw_12; replace HB := Az.mk (bwT bw_12 hb); clear hb hbox hg))
 (try simp only [Act.put, List.setIfInBounds_toArray, List.set_cons_zero, List.set_cons_succ])
 go_cut [13] (fun v13 wc => ∃ (kq : Nat) (x13_1 : Bool), v13 = .bool x13_1 ∧ Az (spec_ParentsOf.j0 kq x13_1 a0_0 a0_1 = some (r1, r2)) ∧ Az (kq ≤ k) ∧ Az (wc.heap[gb323]? = some (.cells #[.int .i64 a0_0, .int .i64 a0_1] 25 (0, 0))) ∧ Az (Below w.heap.size w wc))
 case first =>
  have H := HC2.out
  clear HC2
  replace H := bez H
  obtain ⟨t324, A4, H⟩ := H
  try dsimp only at H
  by_cases c5 : t324 = true
  ·subst c5
   rw [if_pos rfl] at H
   have H' := Az.mk H
   clear H
   have hcz6_0 := bkc0 BK323
   have hcz6_1 := bkc1 BK323
   have hfz6_0 := bkF BK323.out 0
   have hfz6_1 := bkF BK323.out 1
   go_wp2_with (first | ((with_reducible refine gtC (f := 22) rfl ?_); refine clz Try.func22 (some 7) #[.agg #[.int .i64 a0_0, .int .i64 a0_1]] ?_; (with_reducible refine (spec_IsSlope.calls k a0_0 a0_1 true _ A4.out).mono ?_); rintro e w7 ⟨rfl, hb⟩; refine ⟨_, rfl, ?_⟩; replace BK323 := bkz BK323 hb; replace HB := Az.mk (bwT bw_12 hb); (try clear hb); obtain ⟨hcz8_0, hcz8_1, hfz8_0, hfz8_1⟩ := bq2 BK323))
   go_meet
   case rel => exact ⟨_, (decide (a0_1 < 2)), rq2, H', ⟨by first | omega | exact Nat.le_refl _⟩, ⟨bk1 BK323⟩, ⟨bw_12⟩⟩
  replace c5 := Bool.eq_false_iff.mpr c5
  subst c5
  rw [if_neg (show ¬ (false = true) by decide)] at H
  have H' := Az.mk H
  clear H
  have hcz9_0 := bkc0 BK323
  have hcz9_1 := bkc1 BK323
  have hfz9_0 := bkF BK323.out 0
  have hfz9_1 := bkF BK323.out 1
  go_wp2_with (first | ((with_reducible refine gtC (f := 22) rfl ?_); refine clz Try.func22 (some 7) #[.agg #[.int .i64 a0_0, .int .i64 a0_1]] ?_; (with_reducible refine (spec_IsSlope.calls k a0_0 a0_1 false _ A4.out).mono ?_); rintro e w10 ⟨rfl, hb⟩; refine ⟨_, rfl, ?_⟩; replace BK323 := bkz BK323 hb; replace HB := Az.mk (bwT bw_12 hb); (try clear hb)))
  go_meet
  case rel => exact ⟨_, (true), rq2, H', ⟨by first | omega | exact Nat.le_refl _⟩, ⟨bk1 BK323⟩, ⟨bw_12⟩⟩
 clear HC2
 try clear c5
 try clear hcz6_0
 try clear hcz6_1
 try clear hcz8_0
 try clear hcz8_1
 try clear hcz9_0
 try clear hcz9_1
 try clear hfz6_0
 try clear hfz6_1
 try clear hfz8_0
 try clear hfz8_1
 try clear hfz9_0
 try clear hfz9_1
 obtain ⟨kq, x13_1, rfl, HA, HJ1, BK323, HB⟩ := hcut
 cases kq with
 | zero => exact absurd HA.out (by simp [spec_ParentsOf.j0])
 | succ kj1 =>
  have H := HA.out
  clear HA
  simp only [spec_ParentsOf.j0] at H
  by_cases c11 : x13_1 = true
  ·subst c11
   rw [if_pos rfl] at H
   obtain ⟨y325, hy325⟩ : ∃ y_ : List (S25), y_ = (([] : List (S25))) := ⟨_, rfl⟩
   replace H : (some (y325, false)) = some (r1, r2) := by first | (rw [hy325]; with_reducible exact H) | (have H2_ := (Option.bind_some _ _).symm.trans H; rw [hy325]; with_reducible exact H2_) | (have H2_ := (Option.bind_some _ _).symm.trans H; with_reducible exact H2_) | with_reducible exact H | (rw [hy325]; exact H) | exact H
   have Ny325 := Az.mk hy325
   clear hy325
   simp only [Option.some.injEq, Prod.mk.injEq] at H
   obtain ⟨rfl, rfl⟩ := H
   go_wp2_with (first | ((with_reducible refine gtD (N := 14) rfl ?_); refine Kd.R_lit k25 _ 25 ?hg (N := 14) ?hd (xs := ([] : List (S25))) (inner := []) (ok := fun _ => True) (okp := fun _ => True) ?hr ?hp (fun _ hk => hk) trivial (Below.refl _ _) (Nat.le_refl _) (by simp) ?_; (case hd => rfl); (case hg => rfl); (case hr => first | (go_simp; done) | (go_simp; rfl)); (case hp => exact (Reps.none _ _)); intro v326 w12 ho13 hb hg_ hnew_; clear hg_ hnew_; (first | rw [← Ny325.out] at ho13 | (simp only [Int.reduceToNat] at ho13; rw [← Ny325.out] at ho13)); have HO327 := Az.mk (Kd.R_lower (Kd.R_newB ho13 (g := gb323) (o := .cells #[.int .i64 a0_0, .int .i64 a0_1] 25 (0, 0)) (bk1 BK323)) (bwZ bw_12)); replace BK323 := bkz BK323 hb; replace HB := Az.mk (bwT bw_12 hb); clear hb ho13))
   go_ret2
   exact ⟨_, rq1, by (with_reducible repeat (first | apply Kd.R_alloc | apply Kd.R_drewN | apply Kd.R_drew)); exact Kd.R_mono HO327.out (fun _ hk => trivial), bw_12⟩
  replace c11 := Bool.eq_false_iff.mpr c11
  subst c11
  rw [if_neg (show ¬ (false = true) by decide)] at H
  have H' := Az.mk H
  clear H
  go_wp2
  go_loopg [4] kj1 (fun kq v4 w' => ∃ (x4_2 : Int), v4 = .int .i64 x4_2 ∧ Az (spec_ParentsOf.l0 kq x4_2 a0_0 a0_1 = some (r1, r2)) ∧ Az (kq ≤ kj1) ∧ Az (w'.heap[gb323]? = some (.cells #[.int .i64 a0_0, .int .i64 a0_1] 25 (0, 0))) ∧ Az (Below w.heap.size w w'))
  case atStart => exact ⟨(1), rq2, H', ⟨Nat.le_refl _⟩, ⟨bk1 BK323⟩, ⟨bw_12⟩⟩
  clear H'
  try clear c5
  try clear c11
  try clear hcz6_0
  try clear hcz6_1
  try clear hcz8_0
  try clear hcz8_1
  try clear hcz9_0
  try clear hcz9_1
  try clear hfz6_0
  try clear hfz6_1
  try clear hfz8_0
  try clear hfz8_1
  try clear hfz9_0
  try clear hfz9_1
  obtain ⟨x4_2, rfl, HA, HK2, BK323, HB⟩ := hrel
  cases gk with
  | zero => exact absurd HA.out (by simp [spec_ParentsOf.l0])
  | succ k2 =>
   have H := HA.out
   clear HA
   simp only [spec_ParentsOf.l0] at H
   by_cases c14 : x4_2 < a0_1
   rotate_left
   ·rw [if_neg c14] at H
    have c14b0 : decide (x4_2 < a0_1) = false := decide_eq_false c14
    clear c14
    obtain ⟨y332, hy332⟩ : ∃ y_ : List (S25), y_ = (([] : List (S25))) := ⟨_, rfl⟩
    replace H : (some (y332, false)) = some (r1, r2) := by first | (rw [hy332]; with_reducible exact H) | (have H2_ := (Option.bind_some _ _).symm.trans H; rw [hy332]; with_reducible exact H2_) | (have H2_ := (Option.bind_some _ _).symm.trans H; with_reducible exact H2_) | with_reducible exact H | (rw [hy332]; exact H) | exact H
    have Ny332 := Az.mk hy332
    clear hy332
    simp only [Option.some.injEq, Prod.mk.injEq] at H
    obtain ⟨rfl, rfl⟩ := H
    have hcz21_0 := bkc0 BK323
    have hcz21_1 := bkc1 BK323
    have hfz21_0 := bkF BK323.out 0
    have hfz21_1 := bkF BK323.out 1
    go_wp2_with (first | ((with_reducible refine gtD (N := 51) rfl ?_); refine Kd.R_lit k25 _ 25 ?hg (N := 51) ?hd (xs := ([] : List (S25))) (inner := []) (ok := fun _ => True) (okp := fun _ => True) ?hr ?hp (fun _ hk => hk) trivial (Below.refl _ _) (Nat.le_refl _) (by simp) ?_; (case hd => rfl); (case hg => rfl); (case hr => first | (go_simp; done) | (go_simp; rfl)); (case hp => exact (Reps.none _ _)); intro v333 w22 ho23 hb hg_ hnew_; clear hg_ hnew_; (first | rw [← Ny332.out] at ho23 | (simp only [Int.reduceToNat] at ho23; rw [← Ny332.out] at ho23)); have HO334 := Az.mk (Kd.R_lower (Kd.R_newB ho23 (g := gb323) (o := .cells #[.int .i64 a0_0, .int .i64 a0_1] 25 (0, 0)) (bk1 BK323)) (bwZ bw_12)); replace BK323 := bkz BK323 hb; replace HB := Az.mk (bwT bw_12 hb); clear hb ho23))
    go_ret2
    exact ⟨_, rq1, by (with_reducible repeat (first | apply Kd.R_alloc | apply Kd.R_drewN | apply Kd.R_drew)); exact Kd.R_mono HO334.out (fun _ hk => trivial), bw_12⟩
   rw [if_pos c14] at H
   have c14b0 : decide (x4_2 < a0_1) = true := decide_eq_true c14
   clear c14
   replace H := bez H
   obtain ⟨t328, A15, H⟩ := H
   try dsimp only at H
   by_cases c16 : (wrap64 ((wrap64 (a0_0 * x4_2)) - (wrap64 (t328 * a0_1)))) = 1
   rotate_left
   ·rw [if_neg c16] at H
    have c16b0 : ((wrap64 ((wrap64 (a0_0 * x4_2)) - (wrap64 (t328 * a0_1)))) == 1) = false := beq_eq_false_iff_ne.mpr c16
    have c16b1 : ((wrap64 ((wrap64 (a0_0 * x4_2)) - (wrap64 (t328 * a0_1)))) != 1) = true := bne_iff_ne.mpr c16
    have H' := Az.mk H
    clear H
    have hcz20_0 := bkc0 BK323
    have hcz20_1 := bkc1 BK323
    have hfz20_0 := bkF BK323.out 0
    have hfz20_1 := bkF BK323.out 1
    go_wp2_with (first | ((with_reducible refine gtC (f := 37) rfl ?_); refine clz Try.func37 (some 27) #[.int .i64 (wrap64 (a0_0 * x4_2)), .int .i64 a0_1] ?_; (with_reducible refine (spec_l14Down.calls (wrap64 (a0_0 * x4_2)) a0_1 t328 _ A15.out).mono ?_); rintro e w' ⟨rfl, ⟨nd, rfl⟩⟩; refine ⟨_, rfl, ?_⟩))
    go_roundg k2
    case measure => have := HJ1.out; have := HK2.out; omega
    case rel => exact ⟨(wrap64 (x4_2 + 1)), rq2, H', ⟨by have := HJ1.out; have := HK2.out; omega⟩, ⟨bk1 BK323⟩, ⟨bw_12⟩⟩
   rw [if_pos c16] at H
   have c16b0 : ((wrap64 ((wrap64 (a0_0 * x4_2)) - (wrap64 (t328 * a0_1)))) == 1) = true := beq_iff_eq.mpr c16
   have c16b1 : ((wrap64 ((wrap64 (a0_0 * x4_2)) - (wrap64 (t328 * a0_1)))) != 1) = false := bne_eq_false_iff_eq.mpr c16
   clear c16
   obtain ⟨y329, hy329⟩ : ∃ y_ : List (S25), y_ = (([(⟨t328, x4_2⟩ : S25), (⟨wrap64 (a0_0 - t328), wrap64 (a0_1 - x4_2)⟩ : S25)] : List (S25))) := ⟨_, rfl⟩
   replace H : (some (y329, true)) = some (r1, r2) := by first | (rw [hy329]; with_reducible exact H) | (have H2_ := (Option.bind_some _ _).symm.trans H; rw [hy329]; with_reducible exact H2_) | (have H2_ := (Option.bind_some _ _).symm.trans H; with_reducible exact H2_) | with_reducible exact H | (rw [hy329]; exact H) | exact H
   have Ny329 := Az.mk hy329
   clear hy329
   simp only [Option.some.injEq, Prod.mk.injEq] at H
   obtain ⟨rfl, rfl⟩ := H
   have hcz17_0 := bkc0 BK323
   have hcz17_1 := bkc1 BK323
   have hfz17_0 := bkF BK323.out 0
   have hfz17_1 := bkF BK323.out 1
   go_wp2_with (first | ((with_reducible refine gtC (f := 37) rfl ?_); refine clz Try.func37 (some 27) #[.int .i64 (wrap64 (a0_0 * x4_2)), .int .i64 a0_1] ?_; (with_reducible refine (spec_l14Down.calls (wrap64 (a0_0 * x4_2)) a0_1 t328 _ A15.out).mono ?_); rintro e w' ⟨rfl, ⟨nd, rfl⟩⟩; refine ⟨_, rfl, ?_⟩) | ((with_reducible refine gtD (N := 50) rfl ?_); refine Kd.R_lit k25 _ 25 ?hg (N := 50) ?hd (xs := ([(⟨t328, x4_2⟩ : S25), (⟨wrap64 (a0_0 - t328), wrap64 (a0_1 - x4_2)⟩ : S25)] : List (S25))) (inner := [.int .i64 t328, .int .i64 x4_2, .int .i64 (wrap64 (a0_0 - t328)), .int .i64 (wrap64 (a0_1 - x4_2))]) (ok := fun _ => True) (okp := fun _ => True) ?hr ?hp (fun _ hk => hk) trivial (Below.refl _ _) (Nat.le_refl _) (by simp) ?_; (case hd => rfl); (case hg => rfl); (case hr => first | (go_simp; done) | (go_simp; rfl)); (case hp => exact (Reps.c2 (show Kd.M k25 _ _ _ (⟨t328, x4_2⟩ : S25) [.int .i64 t328, .int .i64 x4_2] from (k25_mkM _ _ _ (⟨t328, x4_2⟩ : S25) )) (Reps.c2 (show Kd.M k25 _ _ _ (⟨wrap64 (a0_0 - t328), wrap64 (a0_1 - x4_2)⟩ : S25) [.int .i64 (wrap64 (a0_0 - t328)), .int .i64 (wrap64 (a0_1 - x4_2))] from (k25_mkM _ _ _ (⟨wrap64 (a0_0 - t328), wrap64 (a0_1 - x4_2)⟩ : S25) )) (Reps.none _ _)))); intro v330 w18 ho19 hb hg_ hnew_; clear hg_ hnew_; (first | rw [← Ny329.out] at ho19 | (simp only [Int.reduceToNat] at ho19; rw [← Ny329.out] at ho19)); have HO331 := Az.mk (Kd.R_lower (Kd.R_newB ho19 (g := gb323) (o := .cells #[.int .i64 a0_0, .int .i64 a0_1] 25 (0, 0)) (bk1 BK323)) (bwZ bw_12)); replace BK323 := bkz BK323 hb; replace HB := Az.mk (bwT bw_12 hb); clear hb ho19))
   go_ret2
   exact ⟨_, rq1, by (with_reducible repeat (first | apply Kd.R_alloc | apply Kd.R_drewN | apply Kd.R_drew)); exact Kd.R_mono HO331.out (fun _ hk => trivial), bw_12⟩

/-! ### spec_l14Bezout: function 38 -/
def spec_l14Bezout.f : Nat → Int → Int → Option (Int × Int)
 | 0, _, _ => none
 | k + 1, a0, a1 => if a1 = 0 then ((spec_l1Bit.f (decide (a0 > 0))).bind fun t335 => ((spec_l1Bit.f (decide (a0 < 0))).bind fun t336 => (some (wrap64 (t335 - t336), 0)))) else ((spec_l14Bezout.f k a1 (wrap64 (a0 - (wrap64 ((wrap64 (Int.tdiv a0 a1)) * a1))))).bind fun bt337 => (some (bt337.2, wrap64 (bt337.1 - (wrap64 ((wrap64 (Int.tdiv a0 a1)) * bt337.2))))))
theorem spec_l14Bezout.mono_l : ∀ k, (∀ y0 y1, LeO (spec_l14Bezout.f k y0 y1) (spec_l14Bezout.f (k + 1) y0 y1))
 | 0 => fun _ _ r h => by simp [spec_l14Bezout.f] at h
 | k + 1 => by
  have ih0 := spec_l14Bezout.mono_l k
  have i0 := fun z0 z1 => MoO.mk (ih0 z0 z1)
  ·intro y0 y1
   unfold spec_l14Bezout.f
   exact mo_
theorem spec_l14Bezout.mono : ∀ a0 a1 k, LeO (spec_l14Bezout.f k a0 a1) (spec_l14Bezout.f (k + 1) a0 a1) := by
 intro a0 a1 k
 have ih0 := spec_l14Bezout.mono_l k
 exact ih0 a0 a1
instance spec_l14Bezout.mi {a0 a1 k} : MoO (spec_l14Bezout.f k a0 a1) (spec_l14Bezout.f (k + 1) a0 a1) := ⟨spec_l14Bezout.mono _ _ _⟩
set_option maxHeartbeats 8000000 in
set_option maxRecDepth 100000 in
theorem spec_l14Bezout.calls (k : Nat) : ∀ (a0 : Int) (a1 : Int) (r1 : Int) (r2 : Int) (w : World) (h : spec_l14Bezout.f k a0 a1 = some (r1, r2)),
  Calls Try.prog 38 #[.int .i64 a0, .int .i64 a1] w fun e w' => e = .returned (.tuple #[.int .i64 r1, .int .i64 r2]) ∧ Drawn0 w w' := by
 induction k using Nat.strongRecOn with
 | _ k ih =>
 intro a0 a1 r1 r2 w h
 cases k with
 | zero => exact absurd h (by simp [spec_l14Bezout.f])
 | succ k =>
 simp only [spec_l14Bezout.f] at h
 have H : (if a1 = 0 then ((spec_l1Bit.f (decide (a0 > 0))).bind fun t335 => ((spec_l1Bit.f (decide (a0 < 0))).bind fun t336 => (some (wrap64 (t335 - t336), 0)))) else ((spec_l14Bezout.f k a1 (wrap64 (a0 - (wrap64 ((wrap64 (Int.tdiv a0 a1)) * a1))))).bind fun bt337 => (some (bt337.2, wrap64 (bt337.1 - (wrap64 ((wrap64 (Int.tdiv a0 a1)) * bt337.2))))))) = some (r1, r2) := h
 clear h
 by_cases c3 : a1 = 0
 rotate_left
 ·rw [if_neg c3] at H
  have c3b0 : (a1 == 0) = false := beq_eq_false_iff_ne.mpr c3
  have c3b1 : (a1 != 0) = true := bne_iff_ne.mpr c3
  replace H := bez H
  obtain ⟨⟨t337, t338⟩, A6, H⟩ := H
  try dsimp only at H
  simp only [Option.some.injEq, Prod.mk.injEq] at H
  obtain ⟨rfl, rfl⟩ := H
  go_enter Try.func38, Try.ntmps38
  go_wp2_with (first | ((with_reducible refine gtC (f := 38) rfl ?_); refine clz Try.func38 (some 28) #[.int .i64 a1, .int .i64 (wrap64 (a0 - (wrap64 ((wrap64 (Int.tdiv a0 a1)) * a1))))] ?_; (with_reducible refine (ih k (by omega) a1 (wrap64 (a0 - (wrap64 ((wrap64 (Int.tdiv a0 a1)) * a1)))) t337 t338 _ A6.out).mono ?_); rintro e w' ⟨rfl, ⟨nd, rfl⟩⟩; refine ⟨_, rfl, ?_⟩))
  go_ret2
  exact ⟨by first | rfl | (simp; done) | (simp [*]; done), by repeat (first | exact Drawn0.refl _ | apply Drawn0.step)⟩
 rw [if_pos c3] at H
 have c3b0 : (a1 == 0) = true := beq_iff_eq.mpr c3
 have c3b1 : (a1 != 0) = false := bne_eq_false_iff_eq.mpr c3
 clear c3
 replace H := bez H
 obtain ⟨t335, A4, H⟩ := H
 try dsimp only at H
 replace H := bez H
 obtain ⟨t336, A5, H⟩ := H
 try dsimp only at H
 simp only [Option.some.injEq, Prod.mk.injEq] at H
 obtain ⟨rfl, rfl⟩ := H
 go_enter Try.func38, Try.ntmps38
 go_wp2_with (first | ((with_reducible refine gtC (f := 55) rfl ?_); refine clz Try.func55 (some 13) #[.bool (decide (a0 > 0))] ?_; (with_reducible refine (spec_l1Bit.calls (decide (a0 > 0)) t335 _ A4.out).mono ?_); rintro e w' ⟨rfl, ⟨nd, rfl⟩⟩; refine ⟨_, rfl, ?_⟩) | ((with_reducible refine gtC (f := 55) rfl ?_); refine clz Try.func55 (some 16) #[.bool (decide (a0 < 0))] ?_; (with_reducible refine (spec_l1Bit.calls (decide (a0 < 0)) t336 _ A5.out).mono ?_); rintro e w' ⟨rfl, ⟨nd, rfl⟩⟩; refine ⟨_, rfl, ?_⟩))
 go_ret2
 exact ⟨by first | rfl | (simp; done) | (simp [*]; done), by repeat (first | exact Drawn0.refl _ | apply Drawn0.step)⟩

/-! ### spec_l1Min: function 58 -/
def spec_l1Min.f (a0 : Int) (a1 : Int) : Option (Int) := if a0 < a1 then (some a0) else (some a1)
set_option maxHeartbeats 8000000 in
set_option maxRecDepth 100000 in
theorem spec_l1Min.calls (a0 : Int) (a1 : Int) (r : Int) (w : World) (h : spec_l1Min.f a0 a1 = some r) :
  Calls Try.prog 58 #[.int .i64 a0, .int .i64 a1] w fun e w' => e = .returned (.int .i64 r) ∧ Drawn0 w w' := by
 have H : (if a0 < a1 then (some a0) else (some a1)) = some r := h
 clear h
 by_cases c3 : a0 < a1
 ·rw [if_pos c3] at H
  have c3b0 : decide (a0 < a1) = true := decide_eq_true c3
  clear c3
  obtain rfl := Option.some.inj H
  go_enter Try.func58, Try.ntmps58
  go_wp2
  go_ret
  exact ⟨by first | rfl | (simp; done) | (simp [*]; done), by repeat (first | exact Drawn0.refl _ | apply Drawn0.step)⟩
 rw [if_neg c3] at H
 have c3b0 : decide (a0 < a1) = false := decide_eq_false c3
 clear c3
 obtain rfl := Option.some.inj H
 go_enter Try.func58, Try.ntmps58
 go_wp2
 go_ret
 exact ⟨by first | rfl | (simp; done) | (simp [*]; done), by repeat (first | exact Drawn0.refl _ | apply Drawn0.step)⟩

/-! ### spec_l14Far: function 39 -/
def spec_l14Far.f : Nat → Int → Int → Option (Int)
 | 0, _, _ => none
 | k + 1, a0, a1 => if a1 ≤ 1 then (some a1) else ((spec_l14Down.f a0 a1).bind fun t339 => ((spec_l14Far.f k (wrap64 (-a1)) (wrap64 (a0 - (wrap64 (t339 * a1))))).bind fun t340 => ((spec_l14Far.f k a1 (wrap64 (a1 - (wrap64 (a0 - (wrap64 (t339 * a1))))))).bind fun t341 => ((spec_l1Min.f t340 t341).bind fun t342 => (some (wrap64 (1 + t342)))))))
theorem spec_l14Far.mono_l : ∀ k, (∀ y0 y1, LeO (spec_l14Far.f k y0 y1) (spec_l14Far.f (k + 1) y0 y1))
 | 0 => fun _ _ r h => by simp [spec_l14Far.f] at h
 | k + 1 => by
  have ih0 := spec_l14Far.mono_l k
  have i0 := fun z0 z1 => MoO.mk (ih0 z0 z1)
  ·intro y0 y1
   unfold spec_l14Far.f
   exact mo_
theorem spec_l14Far.mono : ∀ a0 a1 k, LeO (spec_l14Far.f k a0 a1) (spec_l14Far.f (k + 1) a0 a1) := by
 intro a0 a1 k
 have ih0 := spec_l14Far.mono_l k
 exact ih0 a0 a1
instance spec_l14Far.mi {a0 a1 k} : MoO (spec_l14Far.f k a0 a1) (spec_l14Far.f (k + 1) a0 a1) := ⟨spec_l14Far.mono _ _ _⟩
set_option maxHeartbeats 8000000 in
set_option maxRecDepth 100000 in
theorem spec_l14Far.calls (k : Nat) : ∀ (a0 : Int) (a1 : Int) (r : Int) (w : World) (h : spec_l14Far.f k a0 a1 = some r),
  Calls Try.prog 39 #[.int .i64 a0, .int .i64 a1] w fun e w' => e = .returned (.int .i64 r) ∧ Drawn0 w w' := by
 induction k using Nat.strongRecOn with
 | _ k ih =>
 intro a0 a1 r w h
 cases k with
 | zero => exact absurd h (by simp [spec_l14Far.f])
 | succ k =>
 simp only [spec_l14Far.f] at h
 have H : (if a1 ≤ 1 then (some a1) else ((spec_l14Down.f a0 a1).bind fun t339 => ((spec_l14Far.f k (wrap64 (-a1)) (wrap64 (a0 - (wrap64 (t339 * a1))))).bind fun t340 => ((spec_l14Far.f k a1 (wrap64 (a1 - (wrap64 (a0 - (wrap64 (t339 * a1))))))).bind fun t341 => ((spec_l1Min.f t340 t341).bind fun t342 => (some (wrap64 (1 + t342)))))))) = some r := h
 clear h
 by_cases c3 : a1 ≤ 1
 ·rw [if_pos c3] at H
  have c3b0 : decide (a1 ≤ 1) = true := decide_eq_true c3
  clear c3
  obtain rfl := Option.some.inj H
  go_enter Try.func39, Try.ntmps39
  go_wp2
  go_ret
  exact ⟨by first | rfl | (simp; done) | (simp [*]; done), by repeat (first | exact Drawn0.refl _ | apply Drawn0.step)⟩
 rw [if_neg c3] at H
 have c3b0 : decide (a1 ≤ 1) = false := decide_eq_false c3
 clear c3
 replace H := bez H
 obtain ⟨t339, A4, H⟩ := H
 try dsimp only at H
 replace H := bez H
 obtain ⟨t340, A5, H⟩ := H
 try dsimp only at H
 replace H := bez H
 obtain ⟨t341, A6, H⟩ := H
 try dsimp only at H
 replace H := bez H
 obtain ⟨t342, A7, H⟩ := H
 try dsimp only at H
 obtain rfl := Option.some.inj H
 go_enter Try.func39, Try.ntmps39
 go_wp2_with (first | ((with_reducible refine gtC (f := 37) rfl ?_); refine clz Try.func37 (some 12) #[.int .i64 a0, .int .i64 a1] ?_; (with_reducible refine (spec_l14Down.calls a0 a1 t339 _ A4.out).mono ?_); rintro e w' ⟨rfl, ⟨nd, rfl⟩⟩; refine ⟨_, rfl, ?_⟩) | ((with_reducible refine gtC (f := 39) rfl ?_); refine clz Try.func39 (some 21) #[.int .i64 (wrap64 (-a1)), .int .i64 (wrap64 (a0 - (wrap64 (t339 * a1))))] ?_; (with_reducible refine (ih k (by omega) (wrap64 (-a1)) (wrap64 (a0 - (wrap64 (t339 * a1)))) t340 _ A5.out).mono ?_); rintro e w' ⟨rfl, ⟨nd, rfl⟩⟩; refine ⟨_, rfl, ?_⟩) | ((with_reducible refine gtC (f := 39) rfl ?_); refine clz Try.func39 (some 26) #[.int .i64 a1, .int .i64 (wrap64 (a1 - (wrap64 (a0 - (wrap64 (t339 * a1))))))] ?_; (with_reducible refine (ih k (by omega) a1 (wrap64 (a1 - (wrap64 (a0 - (wrap64 (t339 * a1)))))) t341 _ A6.out).mono ?_); rintro e w' ⟨rfl, ⟨nd, rfl⟩⟩; refine ⟨_, rfl, ?_⟩) | ((with_reducible refine gtC (f := 58) rfl ?_); refine clz Try.func58 (some 27) #[.int .i64 t340, .int .i64 t341] ?_; (with_reducible refine (spec_l1Min.calls t340 t341 t342 _ A7.out).mono ?_); rintro e w' ⟨rfl, ⟨nd, rfl⟩⟩; refine ⟨_, rfl, ?_⟩))
 go_ret
 exact ⟨by first | rfl | (simp; done) | (simp [*]; done), by repeat (first | exact Drawn0.refl _ | apply Drawn0.step)⟩

end Go.Proofs.Ytigcjehokbgclaa.P
