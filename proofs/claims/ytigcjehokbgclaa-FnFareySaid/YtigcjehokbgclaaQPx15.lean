-- By this session's driver (wip/tools/mk.py) of the kit's print program, over several statements at once. Not trusted: Lean checks it.
import Derived.Test.YtigcjehokbgclaaQWZip
import Derived.Test.YtigcjehokbgclaaQPx0
import Derived.Test.YtigcjehokbgclaaQPx2
import Derived.Test.YtigcjehokbgclaaQPx5
import Derived.Test.YtigcjehokbgclaaQPx13
import Derived.Test.YtigcjehokbgclaaQPx14
namespace Go.Proofs.Ytigcjehokbgclaa.P
open Go.RowKit Go.Proofs.YtigcjehokbgclaaW.PrintWords Go.Proofs.YtigcjehokbgclaaW.PrintLast Go.Proofs.YtigcjehokbgclaaW.PrintMore
attribute [local go_sem] max2_int min2_int max_two min_two max_three min_three max_four min_four   -- for this text's walks alone
set_option linter.unusedVariables false
set_option linter.unusedSimpArgs false
open Bool renaming true → T, false → F
theorem bw_15 {n : Nat} {v v' : World} (h : Below n v v' := by repeat (first | (with_reducible first | exact HB.out | apply bwA | apply pbN | apply bwD | refine bwS ?_ GE366.out) | exact HB.out)) : Below n v v' := h
theorem ln_15 {P : Prop} (h : P := by (try simp only [List.map_toArray, List.map_cons, List.map_nil]); first | done | rfl | (simp only [List.length_drop, List.length_take]; rfl)) : P := h
open Option renaming bind_eq_some_iff → be
theorem z15_0 {p : Prop} (h : p := by (with_reducible repeat (first | apply Kd.R_alloc | apply Kd.R_drewN | apply Kd.R_drew)); exact HO_5.out) : p := h

/-! ### spec_NeighbourSlopes: function 16 -/
mutual
def spec_NeighbourSlopes.j0 : Nat → Int → List (S25) → Bool → Int → Int → Option ((List (S25)))
 | 0, _, _, _, _, _ => none
 | k + 1, x1, x5, x16, x367000, x367001 => if x16 = true then (some x5) else ((spec_l14All.f k x1).bind fun t372 => (spec_NeighbourSlopes.l0 k x5 t372 0 x367000 x367001))
def spec_NeighbourSlopes.l0 : Nat → List (S25) → List (S25) → Int → Int → Int → Option ((List (S25)))
 | 0, _, _, _, _, _ => none
 | k + 1, x5, x6, x7, x367000, x367001 => if x7 < (x6.length : Int) then (if 0 ≤ x7 then ((spec_CrossNumber.f k x367000 x367001 ((rd_T25 x6 x7).f0) ((rd_T25 x6 x7).f1)).bind fun t376 => (if t376 = 1 then (if x5.length < 8796093022208 then (spec_NeighbourSlopes.l0 k (x5 ++ [(⟨(rd_T25 x6 x7).f0, (rd_T25 x6 x7).f1⟩ : S25)]) x6 (wrap64 (x7 + 1)) x367000 x367001) else (none)) else (spec_NeighbourSlopes.l0 k x5 x6 (wrap64 (x7 + 1)) x367000 x367001))) else (none)) else (some x5)
end
def spec_NeighbourSlopes.f (k : Nat) (a0_0 : Int) (a0_1 : Int) (a1 : Int) : Option ((List (S25))) := (some (([] : List (S25)) : List (S25))).bind fun y367 => ((spec_IsSlope.f k a0_0 a0_1).bind fun t370 => (if t370 = true then ((spec_l1In.f a1 1 20).bind fun t371 => (spec_NeighbourSlopes.j0 k a1 y367 (!t371) a0_0 a0_1)) else (spec_NeighbourSlopes.j0 k a1 y367 true a0_0 a0_1)))
theorem spec_NeighbourSlopes.mono_l : ∀ k, (∀ y0 y1 y2 y3 y4, LeO (spec_NeighbourSlopes.j0 k y0 y1 y2 y3 y4) (spec_NeighbourSlopes.j0 (k + 1) y0 y1 y2 y3 y4)) ∧ (∀ y0 y1 y2 y3 y4, LeO (spec_NeighbourSlopes.l0 k y0 y1 y2 y3 y4) (spec_NeighbourSlopes.l0 (k + 1) y0 y1 y2 y3 y4))
 | 0 => ⟨fun _ _ _ _ _ r h => by simp [spec_NeighbourSlopes.j0] at h, fun _ _ _ _ _ r h => by simp [spec_NeighbourSlopes.l0] at h⟩
 | k + 1 => by
  obtain ⟨ih0, ih1⟩ := spec_NeighbourSlopes.mono_l k
  have i0 := fun z0 z1 z2 z3 z4 => MoO.mk (ih0 z0 z1 z2 z3 z4)
  have i1 := fun z0 z1 z2 z3 z4 => MoO.mk (ih1 z0 z1 z2 z3 z4)
  refine ⟨?_, ?_⟩
  ·intro y0 y1 y2 y3 y4
   unfold spec_NeighbourSlopes.j0
   exact mo_
  intro y0 y1 y2 y3 y4
  unfold spec_NeighbourSlopes.l0
  exact mo_
theorem spec_NeighbourSlopes.mono : ∀ a0 a1 a2 k, LeO (spec_NeighbourSlopes.f k a0 a1 a2) (spec_NeighbourSlopes.f (k + 1) a0 a1 a2) := by
 intro a0 a1 a2 k
 obtain ⟨ih0, ih1⟩ := spec_NeighbourSlopes.mono_l k
 have i0 := fun z0 z1 z2 z3 z4 => MoO.mk (ih0 z0 z1 z2 z3 z4)
 have i1 := fun z0 z1 z2 z3 z4 => MoO.mk (ih1 z0 z1 z2 z3 z4)
 unfold spec_NeighbourSlopes.f
 exact mo_
instance spec_NeighbourSlopes.mi {a0 a1 a2 k} : MoO (spec_NeighbourSlopes.f k a0 a1 a2) (spec_NeighbourSlopes.f (k + 1) a0 a1 a2) := ⟨spec_NeighbourSlopes.mono _ _ _ _⟩
set_option maxHeartbeats 8000000 in
set_option maxRecDepth 100000 in
theorem spec_NeighbourSlopes.calls (k : Nat) (a0_0 : Int) (a0_1 : Int) (a1 : Int) (r : List (S25)) (w : World) (h : spec_NeighbourSlopes.f k a0_0 a0_1 a1 = some r) :
  Calls Try.prog 16 #[.agg #[.int .i64 a0_0, .int .i64 a0_1], .int .i64 a1] w fun e w' => ∃ v0_ : Value, e = .returned (v0_) ∧ Kd.R k25 25 w' w.heap.size (fun _ => True) v0_ r ∧ Below w.heap.size w w' := by
 have hu25 := Try.underlying25
 have HB := Az.mk (Below.refl w.heap.size w)
 have H : ((some (([] : List (S25)) : List (S25))).bind fun y367 => ((spec_IsSlope.f k a0_0 a0_1).bind fun t370 => (if t370 = true then ((spec_l1In.f a1 1 20).bind fun t371 => (spec_NeighbourSlopes.j0 k a1 y367 (!t371) a0_0 a0_1)) else (spec_NeighbourSlopes.j0 k a1 y367 true a0_0 a0_1)))) = some r := h
 clear h
 obtain ⟨y367, hy367⟩ : ∃ y_ : List (S25), y_ = (([] : List (S25))) := ⟨_, rfl⟩
 replace H : ((spec_IsSlope.f k a0_0 a0_1).bind fun t370 => (if t370 = true then ((spec_l1In.f a1 1 20).bind fun t371 => (spec_NeighbourSlopes.j0 k a1 y367 (!t371) a0_0 a0_1)) else (spec_NeighbourSlopes.j0 k a1 y367 true a0_0 a0_1))) = some r := by first | (rw [hy367]; with_reducible exact H) | (have H2_ := (Option.bind_some _ _).symm.trans H; rw [hy367]; with_reducible exact H2_) | (have H2_ := (Option.bind_some _ _).symm.trans H; with_reducible exact H2_) | with_reducible exact H | (rw [hy367]; exact H) | exact H
 have Ny367 := Az.mk hy367
 clear hy367
 have HC3 := Az.mk H
 clear H
 go_enter Try.func16, Try.ntmps16
 go_upto_region 2 with (first | ((with_reducible refine gtD (N := 2) rfl ?_); refine bx (N := 2) (cs := #[.int .i64 a0_0, .int .i64 a0_1]) (t := 25) ?_; intro gb366 hg w4 hbox hb; have BK366 := Az.mk (hbox); have GW366 := gwz hg bw_15; have GE366 := gwz hg bw_15; replace HB := Az.mk (bwT bw_15 hb); clear hb hbox hg) | ((with_reducible refine gtD (N := 8) rfl ?_); refine Kd.R_lit k25 _ 25 ?hg (N := 8) ?hd (xs := ([] : List (S25))) (inner := []) (ok := fun _ => True) (okp := fun _ => True) ?hr ?hp (fun _ hk => hk) trivial (Below.refl _ _) (Nat.le_refl _) (by simp) ?_; (case hd => rfl); (case hg => rfl); (case hr => first | (go_simp; done) | (go_simp; rfl)); (case hp => exact (Reps.none _ _)); intro v368 w5 ho6 hb hg_ hnew_; clear hg_ hnew_; (first | rw [← Ny367.out] at ho6 | (simp only [Int.reduceToNat] at ho6; rw [← Ny367.out] at ho6)); have HO369 := Az.mk (Kd.R_lower (Kd.R_newB ho6 (g := gb366) (o := .cells #[.int .i64 a0_0, .int .i64 a0_1] 25 (0, 0)) (bk1 BK366)) (bwZ bw_15)); replace BK366 := bkz BK366 hb; replace HB := Az.mk (bwT bw_15 hb); clear hb ho6))
 (try simp only [Act.put, List.setIfInBounds_toArray, List.set_cons_zero, List.set_cons_succ])
 go_cut [16] (fun v16 wc => ∃ (kq : Nat) (x16_2 : Bool), v16 = .bool x16_2 ∧ Az (spec_NeighbourSlopes.j0 kq a1 y367 x16_2 a0_0 a0_1 = some r) ∧ Az (kq ≤ k) ∧ Az (Kd.R k25 25 wc w.heap.size (fun k_ => k_ ≠ gb366) v368 y367) ∧ Az (wc.heap[gb366]? = some (.cells #[.int .i64 a0_0, .int .i64 a0_1] 25 (0, 0))) ∧ Az (Below w.heap.size w wc))
 case first =>
  have H := HC3.out
  clear HC3
  replace H := bez H
  obtain ⟨t370, A7, H⟩ := H
  try dsimp only at H
  by_cases c8 : t370 = true
  rotate_left
  ·replace c8 := Bool.eq_false_iff.mpr c8
   subst c8
   rw [if_neg (show ¬ (false = true) by decide)] at H
   have H' := Az.mk H
   clear H
   have hcz12_0 := bkc0 BK366
   have hcz12_1 := bkc1 BK366
   have hfz12_0 := bkF BK366.out 0
   have hfz12_1 := bkF BK366.out 1
   go_wp2_with (first | ((with_reducible refine gtC (f := 22) rfl ?_); refine clz Try.func22 (some 10) #[.agg #[.int .i64 a0_0, .int .i64 a0_1]] ?_; (with_reducible refine (spec_IsSlope.calls k a0_0 a0_1 false _ A7.out).mono ?_); rintro e w13 ⟨rfl, hb⟩; refine ⟨_, rfl, ?_⟩; replace HO369 := Az.mk (Kd.R_below (by (with_reducible repeat (first | apply Kd.R_alloc | apply Kd.R_drewN | apply Kd.R_drew)); exact HO369.out) hb); replace BK366 := bkz BK366 hb; replace HB := Az.mk (bwT bw_15 hb); (try clear hb)))
   go_meet
   case rel => exact ⟨_, (true), rq2, H', ⟨by first | omega | exact Nat.le_refl _⟩, ⟨by (with_reducible repeat (first | apply Kd.R_alloc | apply Kd.R_drewN | apply Kd.R_drew)); exact Kd.R_mono HO369.out (fun _ hk => hk.2)⟩, ⟨bk1 BK366⟩, ⟨bw_15⟩⟩
  subst c8
  rw [if_pos rfl] at H
  replace H := bez H
  obtain ⟨t371, A9, H⟩ := H
  try dsimp only at H
  have H' := Az.mk H
  clear H
  have hcz10_0 := bkc0 BK366
  have hcz10_1 := bkc1 BK366
  have hfz10_0 := bkF BK366.out 0
  have hfz10_1 := bkF BK366.out 1
  go_wp2_with (first | ((with_reducible refine gtC (f := 22) rfl ?_); refine clz Try.func22 (some 10) #[.agg #[.int .i64 a0_0, .int .i64 a0_1]] ?_; (with_reducible refine (spec_IsSlope.calls k a0_0 a0_1 true _ A7.out).mono ?_); rintro e w11 ⟨rfl, hb⟩; refine ⟨_, rfl, ?_⟩; replace HO369 := Az.mk (Kd.R_below (by (with_reducible repeat (first | apply Kd.R_alloc | apply Kd.R_drewN | apply Kd.R_drew)); exact HO369.out) hb); replace BK366 := bkz BK366 hb; replace HB := Az.mk (bwT bw_15 hb); (try clear hb)) | (go_at_call 40; (with_reducible refine (spec_l1In.calls a1 1 20 t371 _ A9.out).mono ?_); rintro e w' ⟨rfl, ⟨nd, rfl⟩⟩))
  go_meet
  case rel => exact ⟨_, (!t371), rq2, H', ⟨by first | omega | exact Nat.le_refl _⟩, ⟨by (with_reducible repeat (first | apply Kd.R_alloc | apply Kd.R_drewN | apply Kd.R_drew)); exact Kd.R_mono HO369.out (fun _ hk => hk.2)⟩, ⟨bk1 BK366⟩, ⟨bw_15⟩⟩
 clear HC3
 try clear c8
 try clear hcz10_0
 try clear hcz10_1
 try clear hcz12_0
 try clear hcz12_1
 try clear hfz10_0
 try clear hfz10_1
 try clear hfz12_0
 try clear hfz12_1
 obtain ⟨kq, x16_2, rfl, HA, HJ2, HO_5, BK366, HB⟩ := hcut
 cases kq with
 | zero => exact absurd HA.out (by simp [spec_NeighbourSlopes.j0])
 | succ kj2 =>
  have H := HA.out
  clear HA
  simp only [spec_NeighbourSlopes.j0] at H
  by_cases c14 : x16_2 = true
  ·subst c14
   rw [if_pos rfl] at H
   obtain rfl := Option.some.inj H
   go_wp2
   go_ret
   exact ⟨_, rq1, by (with_reducible repeat (first | apply Kd.R_alloc | apply Kd.R_drewN | apply Kd.R_drew)); exact Kd.R_mono HO_5.out (fun _ hk => trivial), bw_15⟩
  replace c14 := Bool.eq_false_iff.mpr c14
  subst c14
  rw [if_neg (show ¬ (false = true) by decide)] at H
  replace H := bez H
  obtain ⟨t372, A15, H⟩ := H
  try dsimp only at H
  have H' := Az.mk H
  clear H
  go_wp2_with (first | ((with_reducible refine gtC (f := 41) rfl ?_); refine clz Try.func41 (some 19) #[.int .i64 a1] ?_; (with_reducible refine (spec_l14All.calls kj2 a1 t372 _ A15.out).mono ?_); rintro e w16 ⟨v373, rfl, ho0, hb⟩; refine ⟨_, rfl, ?_⟩; have HO374 := Az.mk (Kd.R_lower (Kd.R_newB (Kd.R_new' ho0 (Kd.R_lt z15_0)) (g := gb366) (o := .cells #[.int .i64 a0_0, .int .i64 a0_1] 25 (0, 0)) (bk1 BK366)) (bwZ bw_15)); replace HO_5 := Az.mk (Kd.R_elder' z15_0 (Kd.R_base ho0) hb); replace BK366 := bkz BK366 hb; replace HB := Az.mk (bwT bw_15 hb); (try clear hb); (try clear ho0)))
  go_loopg [5, 7] kj2 (fun kq v5 v7 w' => ∃ (x5_2 : List (S25)) (x7_2 : Int), v7 = .int .i64 x7_2 ∧ Az (spec_NeighbourSlopes.l0 kq x5_2 t372 x7_2 a0_0 a0_1 = some r) ∧ Az (kq ≤ kj2) ∧ Az (Kd.R k25 25 w' w.heap.size (fun k_ => some k_ ≠ (v373 : Value).ownBlock ∧ k_ ≠ gb366) v5 x5_2) ∧ Az (Kd.R k25 25 w' w.heap.size (fun k_ => some k_ ≠ (v5 : Value).ownBlock ∧ k_ ≠ gb366) v373 t372) ∧ Az (w'.heap[gb366]? = some (.cells #[.int .i64 a0_0, .int .i64 a0_1] 25 (0, 0))) ∧ Az (Below w.heap.size w w'))
  case atStart => exact ⟨(y367), (0), rq2, H', ⟨Nat.le_refl _⟩, ⟨by (with_reducible repeat (first | apply Kd.R_alloc | apply Kd.R_drewN | apply Kd.R_drew)); exact Kd.R_mono HO_5.out (fun _ hk => ⟨hk.2, hk.1⟩)⟩, ⟨by (with_reducible repeat (first | apply Kd.R_alloc | apply Kd.R_drewN | apply Kd.R_drew)); exact Kd.R_mono HO374.out (fun _ hk => ⟨hk.1.2, hk.2⟩)⟩, ⟨bk1 BK366⟩, ⟨bw_15⟩⟩
  clear H'
  try clear c8
  try clear c14
  try clear hcz10_0
  try clear hcz10_1
  try clear hcz12_0
  try clear hcz12_1
  try clear hfz10_0
  try clear hfz10_1
  try clear hfz12_0
  try clear hfz12_1
  obtain ⟨x5_2, x7_2, rfl, HA, HK2, HO_5, HO_6, BK366, HB⟩ := hrel
  cases gk with
  | zero => exact absurd HA.out (by simp [spec_NeighbourSlopes.l0])
  | succ k2 =>
   have H := HA.out
   clear HA
   simp only [spec_NeighbourSlopes.l0] at H
   by_cases c17 : x7_2 < (t372.length : Int)
   rotate_left
   ·rw [if_neg c17] at H
    have c17b0 : decide (x7_2 < (t372.length : Int)) = false := decide_eq_false c17
    clear c17
    obtain rfl := Option.some.inj H
    obtain ⟨Ao29, co29, eo29⟩ := Kd.R_slice HO_6.out
    subst eo29
    go_wp2
    go_ret
    exact ⟨_, rq1, by (with_reducible repeat (first | apply Kd.R_alloc | apply Kd.R_drewN | apply Kd.R_drew)); exact Kd.R_mono HO_5.out (fun _ hk => trivial), bw_15⟩
   rw [if_pos c17] at H
   have c17b0 : decide (x7_2 < (t372.length : Int)) = true := decide_eq_true c17
   clear c17
   by_cases c18 : 0 ≤ x7_2
   rotate_left
   ·rw [if_neg c18] at H
    exact absurd H (by simp)
   rw [if_pos c18] at H
   have c18b0 : decide (0 ≤ x7_2) = true := decide_eq_true c18
   clear c18
   replace H := bez H
   obtain ⟨t376, A19, H⟩ := H
   try dsimp only at H
   by_cases c20 : t376 = 1
   rotate_left
   ·rw [if_neg c20] at H
    have c20b0 : (t376 == 1) = false := beq_eq_false_iff_ne.mpr c20
    have c20b1 : (t376 != 1) = true := bne_iff_ne.mpr c20
    have H' := Az.mk H
    clear H
    obtain ⟨Ao26, co26, eo26⟩ := Kd.R_slice HO_6.out
    subst eo26
    try go_wp2
    replace HO_5 := Az.mk (Kd.R_drew HO_5.out); replace HO_6 := Az.mk (Kd.R_drew HO_6.out); replace BK366 := Az.mk (bkD BK366.out); replace HB := Az.mk (bwD HB.out)
    have p375 : 0 ≤ (x7_2 : Int) := of_decide_eq_true (by first | (with_reducible assumption) | assumption)
    have q375 : x7_2 < (t372.length : Int) := of_decide_eq_true (by first | (with_reducible assumption) | assumption)
    obtain ⟨ad375, e375, hx375_0, hx375_1⟩ := at_T25 (Kd.R_reads' HO_6.out).2.2 x7_2 p375 q375
    cases e375
    replace p375 := eq_true p375
    replace q375 := eq_true q375
    refine start_ (n := 7) (S := fun w' => w'.cell? ⟨gb366, 0, none⟩ = some (.int .i64 a0_0) ∧ w'.cell? ⟨gb366, 1, none⟩ = some (.int .i64 a0_1) ∧ w'.cell? (ad375.add ((x7_2).toNat * 2)) = some (.int .i64 ((rd_T25 t372 x7_2).f0)) ∧ w'.cell? ⟨(ad375.add ((x7_2).toNat * 2)).block, (ad375.add ((x7_2).toNat * 2)).off + 1, none⟩ = some (.int .i64 ((rd_T25 t372 x7_2).f1))) (ds := []) #[F,F,F,F,F,F,F] (by kernel_rfl) rfl rfl ⟨(bkC BK366.out 0).trans rfl, (bkC BK366.out 1).trans rfl, hx375_0, hx375_1⟩ (fun hHeld => ?_)
    generalize wr.drew = w27 at HO_5 HO_6 BK366 HB hx375_0 hx375_1 hHeld ⊢
    refine pure_ (i := 1) (N := some 27) (v := ?_) (a' := ?_) #[F,T,F,F,F,F,F] rfl rfl (by kernel_rfl) (fun _ _ _ h => h) (Or.inl ⟨by rfl, ?_⟩) ?_ ?_
    rotate_left
    ·intro w'
     go_simp
     with_reducible rfl
    rotate_left
    ·exact acq
    refine pure_ (i := 2) (N := some 28) (v := ?_) (a' := ?_) #[F,T,T,F,F,F,F] rfl rfl (by kernel_rfl) (fun _ _ _ h => h) (Or.inl ⟨by rfl, ?_⟩) ?_ ?_
    rotate_left
    ·intro w'
     go_simp
     with_reducible rfl
    rotate_left
    ·exact acq
    refine pure_ (i := 3) (N := some 29) (v := ?_) (a' := ?_) #[F,T,T,T,F,F,F] rfl rfl (by kernel_rfl) (fun _ _ _ h => h) (Or.inl ⟨by rfl, ?_⟩) ?_ ?_
    rotate_left
    ·intro w'
     go_simp
     with_reducible rfl
    rotate_left
    ·exact acq
    refine take_ (i := 0) (N := some 26) (v := ?_) (a' := ?_) #[T,T,T,T,F,F,F] rfl rfl (by kernel_rfl) (fun _ _ _ h => h) (Or.inl ⟨by rfl, ?_⟩) hHeld ?_ ?_
    rotate_left
    ·rintro w' ⟨s0, s1, s2, s3⟩
     go_simp
     with_reducible rfl
    rotate_left
    ·exact acq
    refine take_ (i := 4) (N := some 30) (v := ?_) (a' := ?_) #[T,T,T,T,T,F,F] rfl rfl (by kernel_rfl) (fun _ _ _ h => h) (Or.inl ⟨by rfl, ?_⟩) hHeld ?_ ?_
    rotate_left
    ·rintro w' ⟨s0, s1, s2, s3⟩
     go_simp
     with_reducible rfl
    rotate_left
    ·exact acq
    refine one_ (i := 5) (N := some 31) #[T,T,T,T,T,T,F] rfl rfl (by kernel_rfl) (by decide) (fun K hK => ?_)
    refine goes_ Try.func18 (by kernel_rfl) rfl #[.agg #[.int .i64 a0_0, .int .i64 a0_1], .agg #[.int .i64 ((rd_T25 t372 x7_2).f0), .int .i64 ((rd_T25 t372 x7_2).f1)]] (by rfl) rfl rfl ln_15 ?_
    with_reducible refine (spec_CrossNumber.calls k2 a0_0 a0_1 ((rd_T25 t372 x7_2).f0) ((rd_T25 t372 x7_2).f1) t376 _ A19.out).mono ?_
    rintro e w28 ⟨rfl, hb⟩
    have HS2_ := (hb.cell (World.block_lt_of_cell? _ _ (hHeld.2.2.1))).trans (hHeld.2.2.1)
    have HS3_ := (hb.cell (World.block_lt_of_cell? _ _ (hHeld.2.2.2))).trans (hHeld.2.2.2)
    refine ⟨_, rfl, ?_⟩
    replace HO_5 := Az.mk (Kd.R_below z15_0 hb); replace HO_6 := Az.mk (Kd.R_below (by (with_reducible repeat (first | apply Kd.R_alloc | apply Kd.R_drewN | apply Kd.R_drew)); exact HO_6.out) hb); replace BK366 := bkz BK366 hb; replace HB := Az.mk (bwT bw_15 hb)
    (try clear hb)
    (try clear hb2)
    (try clear hk)
    (try clear hi)
    refine hK.out _ _ ⟨(bkC BK366.out 0).trans rfl, (bkC BK366.out 1).trans rfl, HS2_, HS3_⟩ (fun hHeld => ?_)
    clear hK K
    refine norm_ (a' := ?_) ?_ ?_
    rotate_left
    ·show Act.put _ (some 31) _ = _
     exact acq
    refine pure_ (i := 6) (N := some 32) (v := ?_) (a' := ?_) #[T,T,T,T,T,T,T] rfl rfl (by kernel_rfl) (fun _ _ _ h => h) (Or.inl ⟨by rfl, ?_⟩) ?_ ?_
    rotate_left
    ·intro w'
     go_simp
     with_reducible rfl
    rotate_left
    ·exact acq
    refine done_ (by kernel_rfl) ?_
    try go_wp2
    go_roundg k2
    case measure => have := HJ2.out; have := HK2.out; omega
    case rel => exact ⟨(x5_2), (wrap64 (x7_2 + 1)), rq2, H', ⟨by have := HJ2.out; have := HK2.out; omega⟩, ⟨by (with_reducible repeat (first | apply Kd.R_alloc | apply Kd.R_drewN | apply Kd.R_drew)); exact HO_5.out⟩, ⟨by (with_reducible repeat (first | apply Kd.R_alloc | apply Kd.R_drewN | apply Kd.R_drew)); exact HO_6.out⟩, ⟨bk1 BK366⟩, ⟨bw_15⟩⟩
   rw [if_pos c20] at H
   have c20b0 : (t376 == 1) = true := beq_iff_eq.mpr c20
   have c20b1 : (t376 != 1) = false := bne_eq_false_iff_eq.mpr c20
   clear c20
   by_cases c21 : x5_2.length < 8796093022208
   rotate_left
   ·rw [if_neg c21] at H
    exact absurd H (by simp)
   rw [if_pos c21] at H
   have LMc21 := Az.mk c21
   clear c21
   obtain ⟨y378, hy378⟩ : ∃ y_ : List (S25), y_ = (x5_2 ++ [(⟨(rd_T25 t372 x7_2).f0, (rd_T25 t372 x7_2).f1⟩ : S25)]) := ⟨_, rfl⟩
   replace H : (spec_NeighbourSlopes.l0 k2 y378 t372 (wrap64 (x7_2 + 1)) a0_0 a0_1) = some r := by first | (rw [hy378]; with_reducible exact H) | (have H2_ := (Option.bind_some _ _).symm.trans H; rw [hy378]; with_reducible exact H2_) | (have H2_ := (Option.bind_some _ _).symm.trans H; with_reducible exact H2_) | with_reducible exact H | (rw [hy378]; exact H) | exact H
   have Ny378 := Az.mk hy378
   clear hy378
   have H' := Az.mk H
   clear H
   obtain ⟨Ao22, co22, eo22⟩ := Kd.R_slice HO_6.out
   subst eo22
   try go_wp2
   replace HO_5 := Az.mk (Kd.R_drew HO_5.out); replace HO_6 := Az.mk (Kd.R_drew HO_6.out); replace BK366 := Az.mk (bkD BK366.out); replace HB := Az.mk (bwD HB.out)
   have p375 : 0 ≤ (x7_2 : Int) := of_decide_eq_true (by first | (with_reducible assumption) | assumption)
   have q375 : x7_2 < (t372.length : Int) := of_decide_eq_true (by first | (with_reducible assumption) | assumption)
   obtain ⟨ad375, e375, hx375_0, hx375_1⟩ := at_T25 (Kd.R_reads' HO_6.out).2.2 x7_2 p375 q375
   cases e375
   replace p375 := eq_true p375
   replace q375 := eq_true q375
   refine start_ (n := 7) (S := fun w' => w'.cell? ⟨gb366, 0, none⟩ = some (.int .i64 a0_0) ∧ w'.cell? ⟨gb366, 1, none⟩ = some (.int .i64 a0_1) ∧ w'.cell? (ad375.add ((x7_2).toNat * 2)) = some (.int .i64 ((rd_T25 t372 x7_2).f0)) ∧ w'.cell? ⟨(ad375.add ((x7_2).toNat * 2)).block, (ad375.add ((x7_2).toNat * 2)).off + 1, none⟩ = some (.int .i64 ((rd_T25 t372 x7_2).f1))) (ds := []) #[F,F,F,F,F,F,F] (by kernel_rfl) rfl rfl ⟨(bkC BK366.out 0).trans rfl, (bkC BK366.out 1).trans rfl, hx375_0, hx375_1⟩ (fun hHeld => ?_)
   generalize wr.drew = w23 at HO_5 HO_6 BK366 HB hx375_0 hx375_1 hHeld ⊢
   refine pure_ (i := 1) (N := some 27) (v := ?_) (a' := ?_) #[F,T,F,F,F,F,F] rfl rfl (by kernel_rfl) (fun _ _ _ h => h) (Or.inl ⟨by rfl, ?_⟩) ?_ ?_
   rotate_left
   ·intro w'
    go_simp
    with_reducible rfl
   rotate_left
   ·exact acq
   refine pure_ (i := 2) (N := some 28) (v := ?_) (a' := ?_) #[F,T,T,F,F,F,F] rfl rfl (by kernel_rfl) (fun _ _ _ h => h) (Or.inl ⟨by rfl, ?_⟩) ?_ ?_
   rotate_left
   ·intro w'
    go_simp
    with_reducible rfl
   rotate_left
   ·exact acq
   refine pure_ (i := 3) (N := some 29) (v := ?_) (a' := ?_) #[F,T,T,T,F,F,F] rfl rfl (by kernel_rfl) (fun _ _ _ h => h) (Or.inl ⟨by rfl, ?_⟩) ?_ ?_
   rotate_left
   ·intro w'
    go_simp
    with_reducible rfl
   rotate_left
   ·exact acq
   refine take_ (i := 0) (N := some 26) (v := ?_) (a' := ?_) #[T,T,T,T,F,F,F] rfl rfl (by kernel_rfl) (fun _ _ _ h => h) (Or.inl ⟨by rfl, ?_⟩) hHeld ?_ ?_
   rotate_left
   ·rintro w' ⟨s0, s1, s2, s3⟩
    go_simp
    with_reducible rfl
   rotate_left
   ·exact acq
   refine take_ (i := 4) (N := some 30) (v := ?_) (a' := ?_) #[T,T,T,T,T,F,F] rfl rfl (by kernel_rfl) (fun _ _ _ h => h) (Or.inl ⟨by rfl, ?_⟩) hHeld ?_ ?_
   rotate_left
   ·rintro w' ⟨s0, s1, s2, s3⟩
    go_simp
    with_reducible rfl
   rotate_left
   ·exact acq
   refine one_ (i := 5) (N := some 31) #[T,T,T,T,T,T,F] rfl rfl (by kernel_rfl) (by decide) (fun K hK => ?_)
   refine goes_ Try.func18 (by kernel_rfl) rfl #[.agg #[.int .i64 a0_0, .int .i64 a0_1], .agg #[.int .i64 ((rd_T25 t372 x7_2).f0), .int .i64 ((rd_T25 t372 x7_2).f1)]] (by rfl) rfl rfl ln_15 ?_
   with_reducible refine (spec_CrossNumber.calls k2 a0_0 a0_1 ((rd_T25 t372 x7_2).f0) ((rd_T25 t372 x7_2).f1) t376 _ A19.out).mono ?_
   rintro e w24 ⟨rfl, hb⟩
   have HS2_ := (hb.cell (World.block_lt_of_cell? _ _ (hHeld.2.2.1))).trans (hHeld.2.2.1)
   have HS3_ := (hb.cell (World.block_lt_of_cell? _ _ (hHeld.2.2.2))).trans (hHeld.2.2.2)
   refine ⟨_, rfl, ?_⟩
   replace HO_5 := Az.mk (Kd.R_below z15_0 hb); replace HO_6 := Az.mk (Kd.R_below (by (with_reducible repeat (first | apply Kd.R_alloc | apply Kd.R_drewN | apply Kd.R_drew)); exact HO_6.out) hb); replace BK366 := bkz BK366 hb; replace HB := Az.mk (bwT bw_15 hb)
   (try clear hb)
   (try clear hb2)
   (try clear hk)
   (try clear hi)
   refine hK.out _ _ ⟨(bkC BK366.out 0).trans rfl, (bkC BK366.out 1).trans rfl, HS2_, HS3_⟩ (fun hHeld => ?_)
   clear hK K
   refine norm_ (a' := ?_) ?_ ?_
   rotate_left
   ·show Act.put _ (some 31) _ = _
    exact acq
   refine pure_ (i := 6) (N := some 32) (v := ?_) (a' := ?_) #[T,T,T,T,T,T,T] rfl rfl (by kernel_rfl) (fun _ _ _ h => h) (Or.inl ⟨by rfl, ?_⟩) ?_ ?_
   rotate_left
   ·intro w'
    go_simp
    with_reducible rfl
   rotate_left
   ·exact acq
   refine done_ (by kernel_rfl) ?_
   have p377 : 0 ≤ (x7_2 : Int) := of_decide_eq_true (by first | (with_reducible assumption) | assumption)
   have q377 : x7_2 < (t372.length : Int) := of_decide_eq_true (by first | (with_reducible assumption) | assumption)
   obtain ⟨ad377, e377, hx377_0, hx377_1⟩ := at_T25 (Kd.R_reads' HO_6.out).2.2 x7_2 p377 q377
   obtain rfl : ad375 = ad377 := (by injection e377)
   replace p377 := eq_true p377
   replace q377 := eq_true q377
   try go_wp2_with (first | ((with_reducible refine gate_builtin (b := .append) (xs := #[.tmp 33, .tmp 38]) rfl ?_); at_builtin; refine Kd.R_append k25 (w0 := w) w.heap.size rfl (.tmp 33) (.tmp 38) 31 25 (.agg #[(.int .i64 0), (.int .i64 0)]) 16 rfl Try.underlying31 info25 rfl (by decide) (by omega) u5 x5_2 (⟨(rd_T25 t372 x7_2).f0, (rd_T25 t372 x7_2).f1⟩ : S25) [.int .i64 ((rd_T25 t372 x7_2).f0), .int .i64 ((rd_T25 t372 x7_2).f1)] (fun k_ => some k_ ≠ (.slice (some ad375) t372.length co22 : Value).ownBlock ∧ k_ ≠ gb366) (fun _ => False) rfl rfl ?aP (fun _ hk => hk.elim) ?aF ?aO ?aB ?aS ?aL ?_; (case aP => exact k25_mkM _ _ _ (⟨(rd_T25 t372 x7_2).f0, (rd_T25 t372 x7_2).f1⟩ : S25)); (case aB => exact bw_15); (case aF => exact (fun k_ hk => ⟨Kd.fresh' (Kd.R_lt (by (with_reducible repeat (first | apply Kd.R_alloc | apply Kd.R_drewN | apply Kd.R_drew)); exact HO_6.out)) k_ hk, Kd.freshB (g := gb366) (o := .cells #[.int .i64 a0_0, .int .i64 a0_1] 25 (0, 0)) (bk1 BK366) k_ hk⟩)); (case aO => exact z15_0); (case aS => exact (bwZ bw_15)); (case aL => have := LMc21.out; omega); intro v379 w25 ho hb hg hat; rw [← Ny378.out] at ho; have n0_ := Az.mk (Kd.R_after (ok := (fun k_ => k_ ≠ gb366)) (by (with_reducible repeat (first | apply Kd.R_alloc | apply Kd.R_drewN | apply Kd.R_drew)); exact Kd.R_mono HO_6.out (fun _ hk => ⟨hk.2, hk.1⟩)) hg hat); have n1_ := Az.mk (blk_grown (g := gb366) (o := .cells #[.int .i64 a0_0, .int .i64 a0_1] 25 (0, 0)) (bk1 BK366) hg (Kd.R_away HO_5.out (fun _ hk => hk.2))); have n2_ := Az.mk (hb); have n3_ := Az.mk (ho); clear HO_6; clear BK366; clear HB; clear HO_5; have HO_6 := n0_; have BK366 := n1_; have HB := n2_; have HO380 := n3_; clear n0_ n1_ n2_ n3_; clear ho hb hg hat))
   go_roundg k2
   case measure => have := HJ2.out; have := HK2.out; omega
   case rel => exact ⟨(y378), (wrap64 (x7_2 + 1)), rq2, H', ⟨by have := HJ2.out; have := HK2.out; omega⟩, ⟨by (with_reducible repeat (first | apply Kd.R_alloc | apply Kd.R_drewN | apply Kd.R_drew)); exact HO380.out⟩, ⟨by (with_reducible repeat (first | apply Kd.R_alloc | apply Kd.R_drewN | apply Kd.R_drew)); exact Kd.R_mono HO_6.out (fun _ hk => ⟨hk.2, hk.1⟩)⟩, ⟨bk1 BK366⟩, ⟨bw_15⟩⟩

end Go.Proofs.Ytigcjehokbgclaa.P
