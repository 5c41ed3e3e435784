-- By this session's driver (wip/tools/mk.py) of the kit's print program, over several statements at once. Not trusted: Lean checks it.
import Derived.Test.YtjmgbaphlhimhaaUPx0
import Derived.Test.YtjmgbaphlhimhaaUPx1
import Derived.Test.YtjmgbaphlhimhaaUPx21
import Derived.Test.YtjmgbaphlhimhaaUPx31
namespace Go.Proofs.Ytjmgbaphlhimhaa.P
open Go.RowKit Go.Proofs.YtjmgbaphlhimhaaW.PrintWords Go.Proofs.YtjmgbaphlhimhaaW.PrintLast Go.Proofs.YtjmgbaphlhimhaaW.PrintMore
attribute [local go_sem] max2_int min2_int max_two min_two max_three min_three max_four min_four   -- for this text's walks alone
set_option linter.unusedVariables false
set_option linter.unusedSimpArgs false
open Bool renaming true → T, false → F
theorem bw_32 {n : Nat} {v v' : World} (h : Below n v v' := by repeat (first | (with_reducible first | exact HB.out | apply bwA | apply pbN | apply bwD | refine bwS ?_ GE442.out) | exact HB.out)) : Below n v v' := h
theorem ln_32 {P : Prop} (h : P := by (try simp only [List.map_toArray, List.map_cons, List.map_nil]); first | done | rfl | (simp only [List.length_drop, List.length_take]; rfl)) : P := h
open Option renaming bind_eq_some_iff → be

/-! ### spec_CurveOfSlope: function 51 -/
mutual
def spec_CurveOfSlope.j0 : Nat → Int → Bool → Int → Int → Option (List Int × Bool)
 | 0, _, _, _, _ => none
 | k + 1, x1, x16, x443000, x443001 => if x16 = true then (some ((([] : List Int)), false)) else (spec_CurveOfSlope.l0 k x1 (([] : List Int)) 1 x443000 x443001)
def spec_CurveOfSlope.l0 : Nat → Int → List Int → Int → Int → Int → Option (List Int × Bool)
 | 0, _, _, _, _, _ => none
 | k + 1, x1, x6, x7, x443000, x443001 => if x7 ≤ 3 then ((spec_l17Edge.f x7).bind fun bt451 => ((spec_CrossNumber.f k x443000 x443001 bt451.1 bt451.2).bind fun t453 => (if (wrap64 (x1 * t453)) > 200 then (some ((([] : List Int)), false)) else (if x6.length < 17592186044416 then (spec_CurveOfSlope.l0 k x1 (x6 ++ [wrap64 (x1 * t453)]) (wrap64 (x7 + 1)) x443000 x443001) else (none))))) else (some (x6, true))
end
def spec_CurveOfSlope.f (k : Nat) (a0_0 : Int) (a0_1 : Int) (a1 : Int) : Option (List Int × Bool) := (spec_IsSlope.f k a0_0 a0_1).bind fun t443 => (if t443 = true then ((spec_l1In.f a1 0 20).bind fun t444 => (spec_CurveOfSlope.j0 k a1 (!t444) a0_0 a0_1)) else (spec_CurveOfSlope.j0 k a1 true a0_0 a0_1))
theorem spec_CurveOfSlope.mono_l : ∀ k, (∀ y0 y1 y2 y3, LeO (spec_CurveOfSlope.j0 k y0 y1 y2 y3) (spec_CurveOfSlope.j0 (k + 1) y0 y1 y2 y3)) ∧ (∀ y0 y1 y2 y3 y4, LeO (spec_CurveOfSlope.l0 k y0 y1 y2 y3 y4) (spec_CurveOfSlope.l0 (k + 1) y0 y1 y2 y3 y4))
 | 0 => ⟨fun _ _ _ _ r h => by simp [spec_CurveOfSlope.j0] at h, fun _ _ _ _ _ r h => by simp [spec_CurveOfSlope.l0] at h⟩
 | k + 1 => by
  obtain ⟨ih0, ih1⟩ := spec_CurveOfSlope.mono_l k
  refine ⟨?_, ?_⟩
  ·intro y0 y1 y2 y3
   unfold spec_CurveOfSlope.j0
   repeat' first
   | (with_reducible exact ih0 _ _ _ _)
   | (with_reducible exact ih1 _ _ _ _ _)
   | (with_reducible exact spec_CrossNumber.mono _ _ _ _ _)
   | (with_reducible exact spec_IsSlope.mono _ _ _)
   | (with_reducible exact LeO.refl _)
   | (with_reducible exact LeO.none _)
   | (with_reducible refine LeO.ite ?_ ?_)
   | (with_reducible refine LeO.bind ?_ (fun _ => ?_))
   | exact ih0 _ _ _ _
   | exact ih1 _ _ _ _ _
   | exact spec_CrossNumber.mono _ _ _ _ _
   | exact spec_IsSlope.mono _ _ _
   | exact LeO.none _
   | refine LeO.ite ?_ ?_
   | refine LeO.bind ?_ (fun _ => ?_)
  intro y0 y1 y2 y3 y4
  unfold spec_CurveOfSlope.l0
  repeat' first
  | (with_reducible exact ih0 _ _ _ _)
  | (with_reducible exact ih1 _ _ _ _ _)
  | (with_reducible exact spec_CrossNumber.mono _ _ _ _ _)
  | (with_reducible exact spec_IsSlope.mono _ _ _)
  | (with_reducible exact LeO.refl _)
  | (with_reducible exact LeO.none _)
  | (with_reducible refine LeO.ite ?_ ?_)
  | (with_reducible refine LeO.bind ?_ (fun _ => ?_))
  | exact ih0 _ _ _ _
  | exact ih1 _ _ _ _ _
  | exact spec_CrossNumber.mono _ _ _ _ _
  | exact spec_IsSlope.mono _ _ _
  | exact LeO.none _
  | refine LeO.ite ?_ ?_
  | refine LeO.bind ?_ (fun _ => ?_)
theorem spec_CurveOfSlope.mono : ∀ a0 a1 a2 k, LeO (spec_CurveOfSlope.f k a0 a1 a2) (spec_CurveOfSlope.f (k + 1) a0 a1 a2) := by
 intro a0 a1 a2 k
 obtain ⟨ih0, ih1⟩ := spec_CurveOfSlope.mono_l k
 unfold spec_CurveOfSlope.f
 repeat' first
   | (with_reducible exact ih0 _ _ _ _)
   | (with_reducible exact ih1 _ _ _ _ _)
   | (with_reducible exact spec_CrossNumber.mono _ _ _ _ _)
   | (with_reducible exact spec_IsSlope.mono _ _ _)
   | (with_reducible exact LeO.refl _)
   | (with_reducible exact LeO.none _)
   | (with_reducible refine LeO.ite ?_ ?_)
   | (with_reducible refine LeO.bind ?_ (fun _ => ?_))
   | exact ih0 _ _ _ _
   | exact ih1 _ _ _ _ _
   | exact spec_CrossNumber.mono _ _ _ _ _
   | exact spec_IsSlope.mono _ _ _
   | exact LeO.none _
   | refine LeO.ite ?_ ?_
   | refine LeO.bind ?_ (fun _ => ?_)
set_option maxHeartbeats 8000000 in
set_option maxRecDepth 100000 in
theorem spec_CurveOfSlope.calls (k : Nat) (a0_0 : Int) (a0_1 : Int) (a1 : Int) (r1 : List Int) (r2 : Bool) (w : World) (h : spec_CurveOfSlope.f k a0_0 a0_1 a1 = some (r1, r2)) :
  Calls Try.prog 51 #[.agg #[.int .i64 a0_0, .int .i64 a0_1], .int .i64 a1] w fun e w' => ∃ v0_ : Value, e = .returned (.tuple #[v0_, .bool r2]) ∧ Kd.R (Kd.int .i64) 3 w' w.heap.size (fun _ => True) v0_ r1 ∧ Below w.heap.size w w' := by
 have hu24 := Try.underlying24
 have HB := Az.mk (Below.refl w.heap.size w)
 have H : ((spec_IsSlope.f k a0_0 a0_1).bind fun t443 => (if t443 = true then ((spec_l1In.f a1 0 20).bind fun t444 => (spec_CurveOfSlope.j0 k a1 (!t444) a0_0 a0_1)) else (spec_CurveOfSlope.j0 k a1 true a0_0 a0_1))) = some (r1, r2) := h
 clear h
 have HC3 := Az.mk H
 clear H
 go_enter Try.func51, Try.ntmps51
 go_upto_region 1 with (first | ((with_reducible refine gtD (N := 2) rfl ?_); refine bxE ?hg (N := 2) ?hd (cs := #[.int .i64 a0_0, .int .i64 a0_1]) (t := 24) ?hr ?_; (case hd => rfl); (case hg => rfl); (case hr => first | (go_simp; done) | (go_simp; rfl)); intro gb442 hg w4 hbox hb; have BK442 := Az.mk (hbox); have GW442 := Az.mk ((by rw [hg]; exact (bwZ bw_32) : w.heap.size ≤ gb442)); have GE442 := Az.mk ((by rw [hg]; exact (bwZ bw_32) : w.heap.size ≤ gb442)); replace HB := Az.mk (bwT bw_32 hb); clear hb hbox hg))
 (try simp only [Act.put, List.setIfInBounds_toArray, List.set_cons_zero, List.set_cons_succ])
 go_cut [16] (fun v16 wc => ∃ (kq : Nat) (x16_2 : Bool), v16 = .bool x16_2 ∧ Az (spec_CurveOfSlope.j0 kq a1 x16_2 a0_0 a0_1 = some (r1, r2)) ∧ Az (kq ≤ k) ∧ Az (wc.heap[gb442]? = some (.cells #[.int .i64 a0_0, .int .i64 a0_1] 24 (0, 0))) ∧ Az (Below w.heap.size w wc))
 case first =>
  have H := HC3.out
  clear HC3
  replace H := be.mp H
  obtain ⟨t443, A50, H⟩ := H
  try dsimp only at H
  have A5 := Az.mk A50
  clear A50
  by_cases c6 : t443 = true
  rotate_left
  ·replace c6 := Bool.eq_false_iff.mpr c6
   subst c6
   rw [if_neg (show ¬ (false = true) by decide)] at H
   have H' := Az.mk H
   clear H
   have hcz10_0 : w4.cell? ⟨gb442, 0, none⟩ = some (.int .i64 a0_0) := (bkC BK442.out 0).trans rfl
   have hcz10_1 : w4.cell? ⟨gb442, 1, none⟩ = some (.int .i64 a0_1) := (bkC BK442.out 1).trans rfl
   have hfz10_0 := bkF BK442.out 0
   have hfz10_1 := bkF BK442.out 1
   go_wp2_with (first | ((with_reducible refine gtC (f := 86) rfl ?_); refine goesL_ (some 10) rfl rfl Try.func86 (by kernel_rfl) rfl #[.agg #[.int .i64 a0_0, .int .i64 a0_1]] rfl ln_32 ?_; (with_reducible refine (spec_IsSlope.calls k a0_0 a0_1 false _ A5.out).mono ?_); rintro e w11 ⟨rfl, hb⟩; refine ⟨_, rfl, ?_⟩; replace BK442 := Az.mk (bkB (g := gb442) (o := .cells #[.int .i64 a0_0, .int .i64 a0_1] 24 (0, 0)) (by (with_reducible repeat first | apply bkN | apply bkD | apply bkA); exact BK442.out) hb); replace HB := Az.mk (bwT bw_32 hb); (try clear hb)))
   go_meet
   case rel => exact ⟨_, (true), (by first | rfl | (simp; done) | (simp [*]; done)), H', ⟨by first | omega | exact Nat.le_refl _⟩, ⟨by (with_reducible repeat first | apply bkN | apply bkD | apply bkA); exact BK442.out⟩, ⟨bw_32⟩⟩
  subst c6
  rw [if_pos rfl] at H
  replace H := be.mp H
  obtain ⟨t444, A70, H⟩ := H
  try dsimp only at H
  have A7 := Az.mk A70
  clear A70
  have H' := Az.mk H
  clear H
  have hcz8_0 : w4.cell? ⟨gb442, 0, none⟩ = some (.int .i64 a0_0) := (bkC BK442.out 0).trans rfl
  have hcz8_1 : w4.cell? ⟨gb442, 1, none⟩ = some (.int .i64 a0_1) := (bkC BK442.out 1).trans rfl
  have hfz8_0 := bkF BK442.out 0
  have hfz8_1 := bkF BK442.out 1
  go_wp2_with (first | ((with_reducible refine gtC (f := 86) rfl ?_); refine goesL_ (some 10) rfl rfl Try.func86 (by kernel_rfl) rfl #[.agg #[.int .i64 a0_0, .int .i64 a0_1]] rfl ln_32 ?_; (with_reducible refine (spec_IsSlope.calls k a0_0 a0_1 true _ A5.out).mono ?_); rintro e w9 ⟨rfl, hb⟩; refine ⟨_, rfl, ?_⟩; replace BK442 := Az.mk (bkB (g := gb442) (o := .cells #[.int .i64 a0_0, .int .i64 a0_1] 24 (0, 0)) (by (with_reducible repeat first | apply bkN | apply bkD | apply bkA); exact BK442.out) hb); replace HB := Az.mk (bwT bw_32 hb); (try clear hb)) | (go_at_call 49; (with_reducible refine (spec_l1In.calls a1 0 20 t444 _ A7.out).mono ?_); rintro e w' ⟨rfl, ⟨nd, rfl⟩⟩))
  go_meet
  case rel => exact ⟨_, (!t444), (by first | rfl | (simp; done) | (simp [*]; done)), H', ⟨by first | omega | exact Nat.le_refl _⟩, ⟨by (with_reducible repeat first | apply bkN | apply bkD | apply bkA); exact BK442.out⟩, ⟨bw_32⟩⟩
 case rest =>
  clear HC3
  try clear p2
  try clear c5
  try clear c6
  try clear c8
  try clear hcz10_0
  try clear hcz10_1
  try clear hcz8_0
  try clear hcz8_1
  try clear hfz10_0
  try clear hfz10_1
  try clear hfz8_0
  try clear hfz8_1
  obtain ⟨kq, x16_2, rfl, HA, HJ2, BK442, HB⟩ := hcut
  cases kq with
  | zero => exact absurd HA.out (by simp [spec_CurveOfSlope.j0])
  | succ kj2 =>
   have H := HA.out
   clear HA
   simp only [spec_CurveOfSlope.j0] at H
   by_cases c12 : x16_2 = true
   ·subst c12
    rw [if_pos rfl] at H
    obtain ⟨y445, hy445⟩ : ∃ y_ : List Int, y_ = (([] : List Int)) := ⟨_, rfl⟩
    replace H : (some (y445, false)) = some (r1, r2) := by first | (rw [hy445]; with_reducible exact H) | (have H2_ := (Option.bind_some _ _).symm.trans H; rw [hy445]; with_reducible exact H2_) | (have H2_ := (Option.bind_some _ _).symm.trans H; with_reducible exact H2_) | with_reducible exact H | (rw [hy445]; exact H) | exact H
    have Ny445 := Az.mk hy445
    clear hy445
    simp only [Option.some.injEq, Prod.mk.injEq] at H
    obtain ⟨rfl, rfl⟩ := H
    go_wp2_with (first | ((with_reducible refine gtD (N := 17) rfl ?_); refine Kd.R_lit (Kd.int .i64) _ 3 ?hg (N := 17) ?hd (xs := ([] : List Int)) (inner := []) (ok := fun _ => True) (okp := fun _ => True) ?hr ?hp (fun _ hk => hk) trivial (Below.refl _ _) (Nat.le_refl _) (by simp) ?_; (case hd => rfl); (case hg => rfl); (case hr => first | (go_simp; done) | (go_simp; rfl)); (case hp => exact (Reps.none _ _)); intro v446 w13 ho14 hb hg_ hnew_; clear hg_ hnew_; (first | rw [← Ny445.out] at ho14 | (simp only [Int.reduceToNat] at ho14; rw [← Ny445.out] at ho14)); have HO447 := Az.mk (Kd.R_lower ho14 (bwZ bw_32)); replace BK442 := Az.mk (bkB (g := gb442) (o := .cells #[.int .i64 a0_0, .int .i64 a0_1] 24 (0, 0)) (by (with_reducible repeat first | apply bkN | apply bkD | apply bkA); exact BK442.out) hb); replace HB := Az.mk (bwT bw_32 hb); clear hb ho14))
    go_ret2
    exact ⟨_, by first | rfl | (simp [eWn, eWs] <;> rfl) | (simp [*, eWn, eWs] <;> rfl), by (with_reducible repeat (first | apply Kd.R_alloc | apply Kd.R_drewN | apply Kd.R_drew)); exact HO447.out, bw_32⟩
   replace c12 := Bool.eq_false_iff.mpr c12
   subst c12
   rw [if_neg (show ¬ (false = true) by decide)] at H
   obtain ⟨y448, hy448⟩ : ∃ y_ : List Int, y_ = (([] : List Int)) := ⟨_, rfl⟩
   replace H : (spec_CurveOfSlope.l0 kj2 a1 y448 1 a0_0 a0_1) = some (r1, r2) := by first | (rw [hy448]; with_reducible exact H) | (have H2_ := (Option.bind_some _ _).symm.trans H; rw [hy448]; with_reducible exact H2_) | (have H2_ := (Option.bind_some _ _).symm.trans H; with_reducible exact H2_) | with_reducible exact H | (rw [hy448]; exact H) | exact H
   have Ny448 := Az.mk hy448
   clear hy448
   have H' := Az.mk H
   clear H
   go_wp2_with (first | ((with_reducible refine gtD (N := 18) rfl ?_); refine Kd.R_lit (Kd.int .i64) _ 3 ?hg (N := 18) ?hd (xs := ([] : List Int)) (inner := []) (ok := fun _ => True) (okp := fun _ => True) ?hr ?hp (fun _ hk => hk) trivial (Below.refl _ _) (Nat.le_refl _) (by simp) ?_; (case hd => rfl); (case hg => rfl); (case hr => first | (go_simp; done) | (go_simp; rfl)); (case hp => exact (Reps.none _ _)); intro v449 w15 ho16 hb hg_ hnew_; clear hg_ hnew_; (first | rw [← Ny448.out] at ho16 | (simp only [Int.reduceToNat] at ho16; rw [← Ny448.out] at ho16)); have HO450 := Az.mk (Kd.R_lower ho16 (bwZ bw_32)); replace BK442 := Az.mk (bkB (g := gb442) (o := .cells #[.int .i64 a0_0, .int .i64 a0_1] 24 (0, 0)) (by (with_reducible repeat first | apply bkN | apply bkD | apply bkA); exact BK442.out) hb); replace HB := Az.mk (bwT bw_32 hb); clear hb ho16))
   go_loopg [6, 7] kj2 (fun kq v6 v7 w' => ∃ (x6_2 : List Int) (x7_2 : Int), v7 = .int .i64 x7_2 ∧ Az (spec_CurveOfSlope.l0 kq a1 x6_2 x7_2 a0_0 a0_1 = some (r1, r2)) ∧ Az (kq ≤ kj2) ∧ Az (Kd.R (Kd.int .i64) 3 w' w.heap.size (fun _ => True) v6 x6_2) ∧ Az (w'.heap[gb442]? = some (.cells #[.int .i64 a0_0, .int .i64 a0_1] 24 (0, 0))) ∧ Az (Below w.heap.size w w'))
   case atStart => exact ⟨(y448), (1), (by first | rfl | (simp; done) | (simp [*]; done)), H', ⟨Nat.le_refl _⟩, ⟨by (with_reducible repeat (first | apply Kd.R_alloc | apply Kd.R_drewN | apply Kd.R_drew)); exact HO450.out⟩, ⟨by (with_reducible repeat first | apply bkN | apply bkD | apply bkA); exact BK442.out⟩, ⟨bw_32⟩⟩
   case round =>
    clear H'
    try clear c1
    try clear p2
    try clear c5
    try clear c6
    try clear c8
    try clear c12
    try clear hcz10_0
    try clear hcz10_1
    try clear hcz8_0
    try clear hcz8_1
    try clear hfz10_0
    try clear hfz10_1
    try clear hfz8_0
    try clear hfz8_1
    try clear p2
    obtain ⟨x6_2, x7_2, rfl, HA, HK2, HO_6, BK442, HB⟩ := hrel
    cases gk with
    | zero => exact absurd HA.out (by simp [spec_CurveOfSlope.l0])
    | succ k2 =>
     have H := HA.out
     clear HA
     simp only [spec_CurveOfSlope.l0] at H
     by_cases c17 : x7_2 ≤ 3
     rotate_left
     ·rw [if_neg c17] at H
      have c17b0 : decide (x7_2 ≤ 3) = false := decide_eq_false c17
      clear c17
      simp only [Option.some.injEq, Prod.mk.injEq] at H
      obtain ⟨rfl, rfl⟩ := H
      go_wp2
      go_ret2
      exact ⟨_, by first | rfl | (simp [eWn, eWs] <;> rfl) | (simp [*, eWn, eWs] <;> rfl), by (with_reducible repeat (first | apply Kd.R_alloc | apply Kd.R_drewN | apply Kd.R_drew)); exact HO_6.out, bw_32⟩
     rw [if_pos c17] at H
     have c17b0 : decide (x7_2 ≤ 3) = true := decide_eq_true c17
     clear c17
     replace H := be.mp H
     obtain ⟨⟨t451, t452⟩, A180, H⟩ := H
     try dsimp only at H
     have A18 := Az.mk A180
     clear A180
     replace H := be.mp H
     obtain ⟨t453, A190, H⟩ := H
     try dsimp only at H
     have A19 := Az.mk A190
     clear A190
     by_cases c20 : (wrap64 (a1 * t453)) > 200
     ·rw [if_pos c20] at H
      have c20b0 : decide (200 < (wrap64 (a1 * t453))) = true := decide_eq_true c20
      clear c20
      obtain ⟨y454, hy454⟩ : ∃ y_ : List Int, y_ = (([] : List Int)) := ⟨_, rfl⟩
      replace H : (some (y454, false)) = some (r1, r2) := by first | (rw [hy454]; with_reducible exact H) | (have H2_ := (Option.bind_some _ _).symm.trans H; rw [hy454]; with_reducible exact H2_) | (have H2_ := (Option.bind_some _ _).symm.trans H; with_reducible exact H2_) | with_reducible exact H | (rw [hy454]; exact H) | exact H
      have Ny454 := Az.mk hy454
      clear hy454
      simp only [Option.some.injEq, Prod.mk.injEq] at H
      obtain ⟨rfl, rfl⟩ := H
      try go_wp2
      have n0_ := Az.mk (Kd.R_drew HO_6.out)
      have n1_ := Az.mk (bkD BK442.out)
      have n2_ := Az.mk (bwD HB.out)
      clear HO_6
      clear BK442
      clear HB
      have HO_6 := n0_
      have BK442 := n1_
      have HB := n2_
      clear n0_ n1_ n2_
      refine start_ (n := 7) (S := fun w' => w'.cell? ⟨gb442, 0, none⟩ = some (.int .i64 a0_0) ∧ w'.cell? ⟨gb442, 1, none⟩ = some (.int .i64 a0_1)) (ds := []) #[F,F,F,F,F,F,F] (by kernel_rfl) rfl rfl ⟨(bkC BK442.out 0).trans rfl, (bkC BK442.out 1).trans rfl⟩ (fun hHeld => ?_)
      generalize wr.drew = w21 at HO_6 BK442 HB hHeld ⊢
      refine pure_ (i := 0) (N := some 23) (v := ?_) (a' := ?_) #[T,F,F,F,F,F,F] rfl rfl (by kernel_rfl) (fun _ _ _ h => h) (Or.inl ⟨by rfl, ?_⟩) ?_ ?_
      rotate_left
      ·intro w'
       go_simp
       with_reducible rfl
      rotate_left
      ·simp only [Act.put, List.setIfInBounds_toArray, List.set_cons_zero, List.set_cons_succ, i64_w, i32_w]
       rfl
      refine pure_ (i := 2) (N := some 25) (v := ?_) (a' := ?_) #[T,F,T,F,F,F,F] rfl rfl (by kernel_rfl) (fun _ _ _ h => h) (Or.inl ⟨by rfl, ?_⟩) ?_ ?_
      rotate_left
      ·intro w'
       go_simp
       with_reducible rfl
      rotate_left
      ·simp only [Act.put, List.setIfInBounds_toArray, List.set_cons_zero, List.set_cons_succ, i64_w, i32_w]
       rfl
      refine take_ (i := 1) (N := some 24) (v := ?_) (a' := ?_) #[T,T,T,F,F,F,F] rfl rfl (by kernel_rfl) (fun _ _ _ h => h) (Or.inl ⟨by rfl, ?_⟩) hHeld ?_ ?_
      rotate_left
      ·rintro w' ⟨s0, s1⟩
       go_simp
       with_reducible rfl
      rotate_left
      ·simp only [Act.put, List.setIfInBounds_toArray, List.set_cons_zero, List.set_cons_succ, i64_w, i32_w]
       rfl
      refine one_ (i := 3) (N := some 26) #[T,T,T,T,F,F,F] rfl rfl (by kernel_rfl) (by decide) (fun K hK => ?_)
      refine goes_ Try.func87 (by kernel_rfl) rfl #[.int .i64 x7_2] (by rfl) rfl rfl ln_32 ?_
      with_reducible refine (spec_l17Edge.calls x7_2 t451 t452 _ A18.out).mono ?_
      rintro e w22 ⟨rfl, hb⟩
      refine ⟨_, rfl, ?_⟩
      have n0_ := Az.mk (Kd.R_below (by (with_reducible repeat (first | apply Kd.R_alloc | apply Kd.R_drewN | apply Kd.R_drew)); exact HO_6.out) hb)
      have n1_ := Az.mk (bkB (g := gb442) (o := .cells #[.int .i64 a0_0, .int .i64 a0_1] 24 (0, 0)) (by (with_reducible repeat first | apply bkN | apply bkD | apply bkA); exact BK442.out) hb)
      have n2_ := Az.mk (bwT bw_32 hb)
      clear HO_6
      clear BK442
      clear HB
      have HO_6 := n0_
      have BK442 := n1_
      have HB := n2_
      clear n0_ n1_ n2_
      (try clear hb)
      (try clear hb2)
      (try clear hk)
      (try clear hi)
      refine hK.out _ _ ⟨(bkC BK442.out 0).trans rfl, (bkC BK442.out 1).trans rfl⟩ (fun hHeld => ?_)
      clear hK K
      refine norm_ (a' := ?_) ?_ ?_
      rotate_left
      ·show Act.put _ (some 26) _ = _
       simp only [Act.put, List.setIfInBounds_toArray, List.set_cons_zero, List.set_cons_succ, i64_w, i32_w]
       rfl
      refine one_ (i := 4) (N := some 27) #[T,T,T,T,T,F,F] rfl rfl (by kernel_rfl) (by decide) (fun K hK => ?_)
      refine goes_ Try.func47 (by kernel_rfl) rfl #[.agg #[.int .i64 a0_0, .int .i64 a0_1], .agg #[.int .i64 t451, .int .i64 t452]] (by rfl) rfl rfl ln_32 ?_
      with_reducible refine (spec_CrossNumber.calls k2 a0_0 a0_1 t451 t452 t453 _ A19.out).mono ?_
      rintro e w23 ⟨rfl, hb⟩
      refine ⟨_, rfl, ?_⟩
      have n0_ := Az.mk (Kd.R_below (by (with_reducible repeat (first | apply Kd.R_alloc | apply Kd.R_drewN | apply Kd.R_drew)); exact HO_6.out) hb)
      have n1_ := Az.mk (bkB (g := gb442) (o := .cells #[.int .i64 a0_0, .int .i64 a0_1] 24 (0, 0)) (by (with_reducible repeat first | apply bkN | apply bkD | apply bkA); exact BK442.out) hb)
      have n2_ := Az.mk (bwT bw_32 hb)
      clear HO_6
      clear BK442
      clear HB
      have HO_6 := n0_
      have BK442 := n1_
      have HB := n2_
      clear n0_ n1_ n2_
      (try clear hb)
      (try clear hb2)
      (try clear hk)
      (try clear hi)
      refine hK.out _ _ ⟨(bkC BK442.out 0).trans rfl, (bkC BK442.out 1).trans rfl⟩ (fun hHeld => ?_)
      clear hK K
      refine norm_ (a' := ?_) ?_ ?_
      rotate_left
      ·show Act.put _ (some 27) _ = _
       simp only [Act.put, List.setIfInBounds_toArray, List.set_cons_zero, List.set_cons_succ, i64_w, i32_w]
       rfl
      refine pure_ (i := 5) (N := some 28) (v := ?_) (a' := ?_) #[T,T,T,T,T,T,F] rfl rfl (by kernel_rfl) (fun _ _ _ h => h) (Or.inl ⟨by rfl, ?_⟩) ?_ ?_
      rotate_left
      ·intro w'
       go_simp
       with_reducible rfl
      rotate_left
      ·simp only [Act.put, List.setIfInBounds_toArray, List.set_cons_zero, List.set_cons_succ, i64_w, i32_w]
       rfl
      refine pure_ (i := 6) (N := some 8) (v := ?_) (a' := ?_) #[T,T,T,T,T,T,T] rfl rfl (by kernel_rfl) (fun _ _ _ h => h) (Or.inl ⟨by rfl, ?_⟩) ?_ ?_
      rotate_left
      ·intro w'
       go_simp
       with_reducible rfl
      rotate_left
      ·simp only [Act.put, List.setIfInBounds_toArray, List.set_cons_zero, List.set_cons_succ, i64_w, i32_w]
       rfl
      refine done_ (by kernel_rfl) ?_
      try go_wp2_with (first | ((with_reducible refine gtD (N := 31) rfl ?_); refine Kd.R_lit (Kd.int .i64) _ 3 ?hg (N := 31) ?hd (xs := ([] : List Int)) (inner := []) (ok := fun _ => True) (okp := fun _ => True) ?hr ?hp (fun _ hk => hk) trivial (Below.refl _ _) (Nat.le_refl _) (by simp) ?_; (case hd => rfl); (case hg => rfl); (case hr => first | (go_simp; done) | (go_simp; rfl)); (case hp => exact (Reps.none _ _)); intro v455 w24 ho25 hb hg_ hnew_; clear hg_ hnew_; (first | rw [← Ny454.out] at ho25 | (simp only [Int.reduceToNat] at ho25; rw [← Ny454.out] at ho25)); have HO456 := Az.mk (Kd.R_lower (Kd.R_new' ho25 (Kd.R_lt (by (with_reducible repeat (first | apply Kd.R_alloc | apply Kd.R_drewN | apply Kd.R_drew)); exact HO_6.out))) (bwZ bw_32)); replace HO_6 := Az.mk (Kd.R_elder' (by (with_reducible repeat (first | apply Kd.R_alloc | apply Kd.R_drewN | apply Kd.R_drew)); exact HO_6.out) (Kd.R_base ho25) hb); replace BK442 := Az.mk (bkB (g := gb442) (o := .cells #[.int .i64 a0_0, .int .i64 a0_1] 24 (0, 0)) (by (with_reducible repeat first | apply bkN | apply bkD | apply bkA); exact BK442.out) hb); replace HB := Az.mk (bwT bw_32 hb); clear hb ho25))
      go_ret2
      exact ⟨_, by first | rfl | (simp [eWn, eWs] <;> rfl) | (simp [*, eWn, eWs] <;> rfl), by (with_reducible repeat (first | apply Kd.R_alloc | apply Kd.R_drewN | apply Kd.R_drew)); exact Kd.R_mono HO456.out (fun _ hk => trivial), bw_32⟩
     rw [if_neg c20] at H
     have c20b0 : decide (200 < (wrap64 (a1 * t453))) = false := decide_eq_false c20
     clear c20
     by_cases c26 : x6_2.length < 17592186044416
     rotate_left
     ·rw [if_neg c26] at H
      exact absurd H (by simp)
     rw [if_pos c26] at H
     have LMc26 := Az.mk c26
     clear c26
     obtain ⟨y457, hy457⟩ : ∃ y_ : List Int, y_ = (x6_2 ++ [wrap64 (a1 * t453)]) := ⟨_, rfl⟩
     replace H : (spec_CurveOfSlope.l0 k2 a1 y457 (wrap64 (x7_2 + 1)) a0_0 a0_1) = some (r1, r2) := by first | (rw [hy457]; with_reducible exact H) | (have H2_ := (Option.bind_some _ _).symm.trans H; rw [hy457]; with_reducible exact H2_) | (have H2_ := (Option.bind_some _ _).symm.trans H; with_reducible exact H2_) | with_reducible exact H | (rw [hy457]; exact H) | exact H
     have Ny457 := Az.mk hy457
     clear hy457
     have H' := Az.mk H
     clear H
     try go_wp2
     have n0_ := Az.mk (Kd.R_drew HO_6.out)
     have n1_ := Az.mk (bkD BK442.out)
     have n2_ := Az.mk (bwD HB.out)
     clear HO_6
     clear BK442
     clear HB
     have HO_6 := n0_
     have BK442 := n1_
     have HB := n2_
     clear n0_ n1_ n2_
     refine start_ (n := 7) (S := fun w' => w'.cell? ⟨gb442, 0, none⟩ = some (.int .i64 a0_0) ∧ w'.cell? ⟨gb442, 1, none⟩ = some (.int .i64 a0_1)) (ds := []) #[F,F,F,F,F,F,F] (by kernel_rfl) rfl rfl ⟨(bkC BK442.out 0).trans rfl, (bkC BK442.out 1).trans rfl⟩ (fun hHeld => ?_)
     generalize wr.drew = w27 at HO_6 BK442 HB hHeld ⊢
     refine pure_ (i := 0) (N := some 23) (v := ?_) (a' := ?_) #[T,F,F,F,F,F,F] rfl rfl (by kernel_rfl) (fun _ _ _ h => h) (Or.inl ⟨by rfl, ?_⟩) ?_ ?_
     rotate_left
     ·intro w'
      go_simp
      with_reducible rfl
     rotate_left
     ·simp only [Act.put, List.setIfInBounds_toArray, List.set_cons_zero, List.set_cons_succ, i64_w, i32_w]
      rfl
     refine pure_ (i := 2) (N := some 25) (v := ?_) (a' := ?_) #[T,F,T,F,F,F,F] rfl rfl (by kernel_rfl) (fun _ _ _ h => h) (Or.inl ⟨by rfl, ?_⟩) ?_ ?_
     rotate_left
     ·intro w'
      go_simp
      with_reducible rfl
     rotate_left
     ·simp only [Act.put, List.setIfInBounds_toArray, List.set_cons_zero, List.set_cons_succ, i64_w, i32_w]
      rfl
     refine take_ (i := 1) (N := some 24) (v := ?_) (a' := ?_) #[T,T,T,F,F,F,F] rfl rfl (by kernel_rfl) (fun _ _ _ h => h) (Or.inl ⟨by rfl, ?_⟩) hHeld ?_ ?_
     rotate_left
     ·rintro w' ⟨s0, s1⟩
      go_simp
      with_reducible rfl
     rotate_left
     ·simp only [Act.put, List.setIfInBounds_toArray, List.set_cons_zero, List.set_cons_succ, i64_w, i32_w]
      rfl
     refine one_ (i := 3) (N := some 26) #[T,T,T,T,F,F,F] rfl rfl (by kernel_rfl) (by decide) (fun K hK => ?_)
     refine goes_ Try.func87 (by kernel_rfl) rfl #[.int .i64 x7_2] (by rfl) rfl rfl ln_32 ?_
     with_reducible refine (spec_l17Edge.calls x7_2 t451 t452 _ A18.out).mono ?_
     rintro e w28 ⟨rfl, hb⟩
     refine ⟨_, rfl, ?_⟩
     have n0_ := Az.mk (Kd.R_below (by (with_reducible repeat (first | apply Kd.R_alloc | apply Kd.R_drewN | apply Kd.R_drew)); exact HO_6.out) hb)
     have n1_ := Az.mk (bkB (g := gb442) (o := .cells #[.int .i64 a0_0, .int .i64 a0_1] 24 (0, 0)) (by (with_reducible repeat first | apply bkN | apply bkD | apply bkA); exact BK442.out) hb)
     have n2_ := Az.mk (bwT bw_32 hb)
     clear HO_6
     clear BK442
     clear HB
     have HO_6 := n0_
     have BK442 := n1_
     have HB := n2_
     clear n0_ n1_ n2_
     (try clear hb)
     (try clear hb2)
     (try clear hk)
     (try clear hi)
     refine hK.out _ _ ⟨(bkC BK442.out 0).trans rfl, (bkC BK442.out 1).trans rfl⟩ (fun hHeld => ?_)
     clear hK K
     refine norm_ (a' := ?_) ?_ ?_
     rotate_left
     ·show Act.put _ (some 26) _ = _
      simp only [Act.put, List.setIfInBounds_toArray, List.set_cons_zero, List.set_cons_succ, i64_w, i32_w]
      rfl
     refine one_ (i := 4) (N := some 27) #[T,T,T,T,T,F,F] rfl rfl (by kernel_rfl) (by decide) (fun K hK => ?_)
     refine goes_ Try.func47 (by kernel_rfl) rfl #[.agg #[.int .i64 a0_0, .int .i64 a0_1], .agg #[.int .i64 t451, .int .i64 t452]] (by rfl) rfl rfl ln_32 ?_
     with_reducible refine (spec_CrossNumber.calls k2 a0_0 a0_1 t451 t452 t453 _ A19.out).mono ?_
     rintro e w29 ⟨rfl, hb⟩
     refine ⟨_, rfl, ?_⟩
     have n0_ := Az.mk (Kd.R_below (by (with_reducible repeat (first | apply Kd.R_alloc | apply Kd.R_drewN | apply Kd.R_drew)); exact HO_6.out) hb)
     have n1_ := Az.mk (bkB (g := gb442) (o := .cells #[.int .i64 a0_0, .int .i64 a0_1] 24 (0, 0)) (by (with_reducible repeat first | apply bkN | apply bkD | apply bkA); exact BK442.out) hb)
     have n2_ := Az.mk (bwT bw_32 hb)
     clear HO_6
     clear BK442
     clear HB
     have HO_6 := n0_
     have BK442 := n1_
     have HB := n2_
     clear n0_ n1_ n2_
     (try clear hb)
     (try clear hb2)
     (try clear hk)
     (try clear hi)
     refine hK.out _ _ ⟨(bkC BK442.out 0).trans rfl, (bkC BK442.out 1).trans rfl⟩ (fun hHeld => ?_)
     clear hK K
     refine norm_ (a' := ?_) ?_ ?_
     rotate_left
     ·show Act.put _ (some 27) _ = _
      simp only [Act.put, List.setIfInBounds_toArray, List.set_cons_zero, List.set_cons_succ, i64_w, i32_w]
      rfl
     refine pure_ (i := 5) (N := some 28) (v := ?_) (a' := ?_) #[T,T,T,T,T,T,F] rfl rfl (by kernel_rfl) (fun _ _ _ h => h) (Or.inl ⟨by rfl, ?_⟩) ?_ ?_
     rotate_left
     ·intro w'
      go_simp
      with_reducible rfl
     rotate_left
     ·simp only [Act.put, List.setIfInBounds_toArray, List.set_cons_zero, List.set_cons_succ, i64_w, i32_w]
      rfl
     refine pure_ (i := 6) (N := some 8) (v := ?_) (a' := ?_) #[T,T,T,T,T,T,T] rfl rfl (by kernel_rfl) (fun _ _ _ h => h) (Or.inl ⟨by rfl, ?_⟩) ?_ ?_
     rotate_left
     ·intro w'
      go_simp
      with_reducible rfl
     rotate_left
     ·simp only [Act.put, List.setIfInBounds_toArray, List.set_cons_zero, List.set_cons_succ, i64_w, i32_w]
      rfl
     refine done_ (by kernel_rfl) ?_
     try go_wp2_with (first | ((with_reducible refine gate_builtin (b := .append) (xs := #[.tmp 32, .tmp 34]) rfl ?_); at_builtin; refine Kd.R_append (Kd.int .i64) (w0 := w) w.heap.size rfl (.tmp 32) (.tmp 34) 22 3 (.int .i64 0) 8 rfl Try.underlying22 info3 rfl (by decide) (by omega) u6 x6_2 (wrap64 (a1 * t453)) [.int .i64 (wrap64 (a1 * t453))] (fun _ => True) (fun _ => False) rfl rfl ?aP (fun _ hk => hk.elim) ?aF ?aO ?aB ?aS ?aL ?_; (case aP => exact rfl); (case aB => exact bw_32); (case aF => exact (fun _ _ => trivial)); (case aO => exact (by (with_reducible repeat (first | apply Kd.R_alloc | apply Kd.R_drewN | apply Kd.R_drew)); exact HO_6.out)); (case aS => exact (bwZ bw_32)); (case aL => have := LMc26.out; omega); intro v458 w30 ho hb hg hat; rw [← Ny457.out] at ho; have n0_ := Az.mk (blk_grown (g := gb442) (o := .cells #[.int .i64 a0_0, .int .i64 a0_1] 24 (0, 0)) (by (with_reducible repeat first | apply bkN | apply bkD | apply bkA); exact BK442.out) hg (Kd.R_ne HO_6.out BK442.out (by decide))); have n1_ := Az.mk (hb); have n2_ := Az.mk (ho); clear BK442; clear HB; clear HO_6; have BK442 := n0_; have HB := n1_; have HO459 := n2_; clear n0_ n1_ n2_; clear ho hb hg hat))
     go_roundg k2
     case measure => have := HJ2.out; have := HK2.out; omega
     case rel => exact ⟨(y457), (wrap64 (x7_2 + 1)), (by first | rfl | (simp; done) | (simp [*]; done)), H', ⟨by have := HJ2.out; have := HK2.out; omega⟩, ⟨by (with_reducible repeat (first | apply Kd.R_alloc | apply Kd.R_drewN | apply Kd.R_drew)); exact HO459.out⟩, ⟨by (with_reducible repeat first | apply bkN | apply bkD | apply bkA); exact BK442.out⟩, ⟨bw_32⟩⟩

end Go.Proofs.Ytjmgbaphlhimhaa.P
