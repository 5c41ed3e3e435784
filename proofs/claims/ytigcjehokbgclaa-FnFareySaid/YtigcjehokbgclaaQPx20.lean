-- By this session's driver (wip/tools/mk.py) of the kit's print program, over several statements at once. Not trusted: Lean checks it.
import Derived.Test.YtigcjehokbgclaaQWZip
import Derived.Test.YtigcjehokbgclaaQPx0
import Derived.Test.YtigcjehokbgclaaQPx8
import Derived.Test.YtigcjehokbgclaaQPx9
import Derived.Test.YtigcjehokbgclaaQPx19
namespace Go.Proofs.Ytigcjehokbgclaa.P
open Go.RowKit Go.Proofs.YtigcjehokbgclaaW.PrintWords Go.Proofs.YtigcjehokbgclaaW.PrintLast Go.Proofs.YtigcjehokbgclaaW.PrintMore
attribute [local go_sem] max2_int min2_int max_two min_two max_three min_three max_four min_four   -- for this text's walks alone
set_option linter.unusedVariables false
set_option linter.unusedSimpArgs false
theorem bw_20 {n : Nat} {v v' : World} (h : Below n v v' := by repeat (first | (with_reducible first | exact HB.out | apply bwA | apply pbN | apply bwD | refine bwS ?_ GE515.out | refine bwS ?_ GE516.out | refine bwS ?_ GE522.out | refine bwS ?_ GE524.out | refine bwS ?_ GE529.out) | exact HB.out)) : Below n v v' := h
theorem ln_20 {P : Prop} (h : P := by (try simp only [List.map_toArray, List.map_cons, List.map_nil]); first | done | rfl | (simp only [List.length_drop, List.length_take]; rfl)) : P := h
open Option renaming bind_eq_some_iff → be
theorem z20_1 {p : Prop} (h : p := by (with_reducible repeat (first | apply Kd.R_alloc | apply Kd.R_drewN | apply Kd.R_drew)); exact (Kd.R_mono (Kd.R_far (p := ⟨gb529, 1, none⟩) (Kd.R_far (p := ⟨gb529, 0, none⟩) (Kd.R_mono HO_5.out (fun k_ hk => (⟨hk, hk.2⟩ : _ ∧ k_ ≠ gb529))) (fun _ hk => hk.2) (.int .i64 ((rd_T25 t525 x34_3).f0))) (fun _ hk => hk.2) (.int .i64 ((rd_T25 t525 x34_3).f1))) (fun _ h_ => h_.1))) : p := h
theorem z20_0 {p : Prop} (h : p := by (with_reducible repeat (first | apply Kd.R_alloc | apply Kd.R_drewN | apply Kd.R_drew)); exact (Kd.R_mono (Kd.R_far (p := ⟨gb529, 1, none⟩) (Kd.R_far (p := ⟨gb529, 0, none⟩) (Kd.R_mono HO_32.out (fun k_ hk => (⟨hk, hk.2⟩ : _ ∧ k_ ≠ gb529))) (fun _ hk => hk.2) (.int .i64 ((rd_T25 t525 x34_3).f0))) (fun _ hk => hk.2) (.int .i64 ((rd_T25 t525 x34_3).f1))) (fun _ h_ => h_.1))) : p := h

/-! ### impl_StepsBetween: function 24 -/
mutual
def impl_StepsBetween.j0 : Nat → Bool → Int → Int → Int → Int → Option ((List (S25)))
 | 0, _, _, _, _, _ => none
 | k + 1, x20, x516000, x516001, x517000, x517001 => if x20 = true then (some ([] : List (S25))) else ((impl_between.f k x516000 x516001 x517000 x517001).bind fun t523 => (impl_StepsBetween.l0 k (([(⟨x516000, x516001⟩ : S25)] : List (S25))) t523 x517000 x517001 x516000 x516001))
def impl_StepsBetween.l0 : Nat → List (S25) → Int → Int → Int → Int → Int → Option ((List (S25)))
 | 0, _, _, _, _, _, _ => none
 | k + 1, x5, x7, x517000, x517001, x523000, x523001 => if x7 > 0 then ((impl_neighbours.f k x523000 x523001 60).bind fun t525 => (impl_StepsBetween.l1 k x5 x7 x7 t525 (t525.length : Int) 0 x517000 x517001 0 0)) else (some x5)
def impl_StepsBetween.l1 : Nat → List (S25) → Int → Int → List (S25) → Int → Int → Int → Int → Int → Int → Option ((List (S25)))
 | 0, _, _, _, _, _, _, _, _, _, _ => none
 | k + 1, x5, x7, x8, x32, x33, x34, x517000, x517001, x525000, x525001 => if x34 < x33 then (if 0 ≤ x34 then (if x34 < (x32.length : Int) then ((impl_between.f k ((rd_T25 x32 x34).f0) ((rd_T25 x32 x34).f1) x517000 x517001).bind fun t530 => (if t530 < x8 then (impl_StepsBetween.l1 k x5 x7 t530 x32 x33 (wrap64 (x34 + 1)) x517000 x517001 ((rd_T25 x32 x34).f0) ((rd_T25 x32 x34).f1)) else (impl_StepsBetween.l1 k x5 x7 x8 x32 x33 (wrap64 (x34 + 1)) x517000 x517001 x525000 x525001))) else (none)) else (none)) else (if x8 = x7 then (some ([] : List (S25))) else (if x5.length < 8796093022208 then (impl_StepsBetween.l0 k (x5 ++ [(⟨x525000, x525001⟩ : S25)]) x8 x517000 x517001 x525000 x525001) else (none)))
end
def impl_StepsBetween.f (k : Nat) (a0_0 : Int) (a0_1 : Int) (a1_0 : Int) (a1_1 : Int) : Option ((List (S25))) := (impl_isNear.f k a0_0 a0_1).bind fun t517 => (if t517 = true then ((impl_isNear.f k a1_0 a1_1).bind fun t518 => (impl_StepsBetween.j0 k (!t518) a0_0 a0_1 a1_0 a1_1)) else (impl_StepsBetween.j0 k true a0_0 a0_1 a1_0 a1_1))
theorem impl_StepsBetween.mono_l : ∀ k, (∀ y0 y1 y2 y3 y4, LeO (impl_StepsBetween.j0 k y0 y1 y2 y3 y4) (impl_StepsBetween.j0 (k + 1) y0 y1 y2 y3 y4)) ∧ (∀ y0 y1 y2 y3 y4 y5, LeO (impl_StepsBetween.l0 k y0 y1 y2 y3 y4 y5) (impl_StepsBetween.l0 (k + 1) y0 y1 y2 y3 y4 y5)) ∧ (∀ y0 y1 y2 y3 y4 y5 y6 y7 y8 y9, LeO (impl_StepsBetween.l1 k y0 y1 y2 y3 y4 y5 y6 y7 y8 y9) (impl_StepsBetween.l1 (k + 1) y0 y1 y2 y3 y4 y5 y6 y7 y8 y9))
 | 0 => ⟨fun _ _ _ _ _ r h => by simp [impl_StepsBetween.j0] at h, fun _ _ _ _ _ _ r h => by simp [impl_StepsBetween.l0] at h, fun _ _ _ _ _ _ _ _ _ _ r h => by simp [impl_StepsBetween.l1] at h⟩
 | k + 1 => by
  obtain ⟨ih0, ih1, ih2⟩ := impl_StepsBetween.mono_l k
  have i0 := fun z0 z1 z2 z3 z4 => MoO.mk (ih0 z0 z1 z2 z3 z4)
  have i1 := fun z0 z1 z2 z3 z4 z5 => MoO.mk (ih1 z0 z1 z2 z3 z4 z5)
  have i2 := fun z0 z1 z2 z3 z4 z5 z6 z7 z8 z9 => MoO.mk (ih2 z0 z1 z2 z3 z4 z5 z6 z7 z8 z9)
  refine ⟨?_, ?_, ?_⟩
  ·intro y0 y1 y2 y3 y4
   unfold impl_StepsBetween.j0
   exact mo_
  ·intro y0 y1 y2 y3 y4 y5
   unfold impl_StepsBetween.l0
   exact mo_
  intro y0 y1 y2 y3 y4 y5 y6 y7 y8 y9
  unfold impl_StepsBetween.l1
  exact mo_
theorem impl_StepsBetween.mono : ∀ a0 a1 a2 a3 k, LeO (impl_StepsBetween.f k a0 a1 a2 a3) (impl_StepsBetween.f (k + 1) a0 a1 a2 a3) := by
 intro a0 a1 a2 a3 k
 obtain ⟨ih0, ih1, ih2⟩ := impl_StepsBetween.mono_l k
 have i0 := fun z0 z1 z2 z3 z4 => MoO.mk (ih0 z0 z1 z2 z3 z4)
 have i1 := fun z0 z1 z2 z3 z4 z5 => MoO.mk (ih1 z0 z1 z2 z3 z4 z5)
 have i2 := fun z0 z1 z2 z3 z4 z5 z6 z7 z8 z9 => MoO.mk (ih2 z0 z1 z2 z3 z4 z5 z6 z7 z8 z9)
 unfold impl_StepsBetween.f
 exact mo_
instance impl_StepsBetween.mi {a0 a1 a2 a3 k} : MoO (impl_StepsBetween.f k a0 a1 a2 a3) (impl_StepsBetween.f (k + 1) a0 a1 a2 a3) := ⟨impl_StepsBetween.mono _ _ _ _ _⟩
set_option maxHeartbeats 8000000 in
set_option maxRecDepth 100000 in
theorem impl_StepsBetween.calls (k : Nat) (a0_0 : Int) (a0_1 : Int) (a1_0 : Int) (a1_1 : Int) (r : List (S25)) (w : World) (h : impl_StepsBetween.f k a0_0 a0_1 a1_0 a1_1 = some r) :
  Calls Try.prog 24 #[.agg #[.int .i64 a0_0, .int .i64 a0_1], .agg #[.int .i64 a1_0, .int .i64 a1_1]] w fun e w' => ∃ v0_ : Value, e = .returned (v0_) ∧ Kd.R k25 25 w' w.heap.size (fun _ => True) v0_ r ∧ Below w.heap.size w w' := by
 have hu25 := Try.underlying25
 have HB := Az.mk (Below.refl w.heap.size w)
 have H : ((impl_isNear.f k a0_0 a0_1).bind fun t517 => (if t517 = true then ((impl_isNear.f k a1_0 a1_1).bind fun t518 => (impl_StepsBetween.j0 k (!t518) a0_0 a0_1 a1_0 a1_1)) else (impl_StepsBetween.j0 k true a0_0 a0_1 a1_0 a1_1))) = some r := h
 clear h
 have HC3 := Az.mk H
 clear H
 go_enter Try.func24, Try.ntmps24
 go_upto_region 1 with (first | ((with_reducible refine gtD (N := 2) rfl ?_); refine bx (N := 2) (cs := #[.int .i64 a0_0, .int .i64 a0_1]) (t := 25) ?_; intro gb515 hg w4 hbox hb; have BK515 := Az.mk (hbox); have GW515 := gwz hg bw_20; have GE515 := gwz hg bw_20; replace HB := Az.mk (bwT bw_20 hb); clear hb hbox hg) | ((with_reducible refine gtD (N := 3) rfl ?_); refine bx (N := 3) (cs := #[.int .i64 a1_0, .int .i64 a1_1]) (t := 25) ?_; intro gb516 hg w5 hbox hb; have BK516 := Az.mk (hbox); have GW516 := gwz hg bw_20; have GE516 := gwz hg bw_20; replace HB := Az.mk (bwT bw_20 hb); have NB515_516 := nlt BK515 hg; have NB516_515 := ngt BK515 hg; replace BK515 := bkz BK515 hb; clear hb hbox hg))
 (try simp only [Act.put, List.setIfInBounds_toArray, List.set_cons_zero, List.set_cons_succ])
 go_cut [20] (fun v20 wc => ∃ (kq : Nat) (x20_2 : Bool), v20 = .bool x20_2 ∧ Az (impl_StepsBetween.j0 kq x20_2 a0_0 a0_1 a1_0 a1_1 = some r) ∧ Az (kq ≤ k) ∧ Az (wc.heap[gb515]? = some (.cells #[.int .i64 a0_0, .int .i64 a0_1] 25 (0, 0))) ∧ Az (wc.heap[gb516]? = some (.cells #[.int .i64 a1_0, .int .i64 a1_1] 25 (0, 0))) ∧ Az (Below w.heap.size w wc))
 case first =>
  have H := HC3.out
  clear HC3
  replace H := bez H
  obtain ⟨t517, A6, H⟩ := H
  try dsimp only at H
  by_cases c7 : t517 = true
  rotate_left
  ·replace c7 := Bool.eq_false_iff.mpr c7
   subst c7
   rw [if_neg (show ¬ (false = true) by decide)] at H
   have H' := Az.mk H
   clear H
   have hnb14 := NB515_516.out
   have hnc14 := NB516_515.out
   have hcz15_0 := bkc0 BK515
   have hcz15_1 := bkc1 BK515
   have hfz15_0 := bkF BK515.out 0
   have hfz15_1 := bkF BK515.out 1
   go_wp2_with (first | ((with_reducible refine gtC (f := 47) rfl ?_); refine clz Try.func47 (some 14) #[.agg #[.int .i64 a0_0, .int .i64 a0_1]] ?_; (with_reducible refine (impl_isNear.calls k a0_0 a0_1 false _ A6.out).mono ?_); rintro e w16 ⟨rfl, hb⟩; refine ⟨_, rfl, ?_⟩; replace BK515 := bkz BK515 hb; replace BK516 := bkz BK516 hb; replace HB := Az.mk (bwT bw_20 hb); (try clear hb)))
   go_meet
   case rel => exact ⟨_, (true), rq2, H', ⟨by first | omega | exact Nat.le_refl _⟩, ⟨bk1 BK515⟩, ⟨bk1 BK516⟩, ⟨bw_20⟩⟩
  subst c7
  rw [if_pos rfl] at H
  replace H := bez H
  obtain ⟨t518, A8, H⟩ := H
  try dsimp only at H
  have H' := Az.mk H
  clear H
  have hnb9 := NB515_516.out
  have hnc9 := NB516_515.out
  have hcz10_0 := bkc0 BK515
  have hcz10_1 := bkc1 BK515
  have hfz10_0 := bkF BK515.out 0
  have hfz10_1 := bkF BK515.out 1
  go_wp2_with (first | ((with_reducible refine gtC (f := 47) rfl ?_); refine clz Try.func47 (some 14) #[.agg #[.int .i64 a0_0, .int .i64 a0_1]] ?_; (with_reducible refine (impl_isNear.calls k a0_0 a0_1 true _ A6.out).mono ?_); rintro e w11 ⟨rfl, hb⟩; refine ⟨_, rfl, ?_⟩; replace BK515 := bkz BK515 hb; replace BK516 := bkz BK516 hb; replace HB := Az.mk (bwT bw_20 hb); (try clear hb); obtain ⟨hcz12_0, hcz12_1, hfz12_0, hfz12_1⟩ := bq2 BK516) | (go_at_call 47; (with_reducible refine (impl_isNear.calls k a1_0 a1_1 t518 _ A8.out).mono ?_); rintro e w13 ⟨rfl, hb⟩; replace BK515 := bkz BK515 hb; replace BK516 := bkz BK516 hb; replace HB := Az.mk (bwT bw_20 hb); (try clear hb)))
  go_meet
  case rel => exact ⟨_, (!t518), rq2, H', ⟨by first | omega | exact Nat.le_refl _⟩, ⟨bk1 BK515⟩, ⟨bk1 BK516⟩, ⟨bw_20⟩⟩
 clear HC3
 try clear c7
 try clear hcz10_0
 try clear hcz10_1
 try clear hcz12_0
 try clear hcz12_1
 try clear hcz15_0
 try clear hcz15_1
 try clear hfz10_0
 try clear hfz10_1
 try clear hfz12_0
 try clear hfz12_1
 try clear hfz15_0
 try clear hfz15_1
 obtain ⟨kq, x20_2, rfl, HA, HJ2, BK515, BK516, HB⟩ := hcut
 cases kq with
 | zero => exact absurd HA.out (by simp [impl_StepsBetween.j0])
 | succ kj2 =>
  have H := HA.out
  clear HA
  simp only [impl_StepsBetween.j0] at H
  by_cases c17 : x20_2 = true
  ·subst c17
   rw [if_pos rfl] at H
   obtain rfl := Option.some.inj H
   go_wp2
   go_ret
   exact ⟨_, rq1, by first | exact Kd.R_nil _ _ _ _ _ | exact Kd.N_nil _ _ _ _ _ | exact Kd.V_nil _ _ _ _ _ | exact Kd.Q_nil _ _ _ _ _ | exact Kd.S_nil _ _ _ _ _, bw_20⟩
  replace c17 := Bool.eq_false_iff.mpr c17
  subst c17
  rw [if_neg (show ¬ (false = true) by decide)] at H
  obtain ⟨y519, hy519⟩ : ∃ y_ : List (S25), y_ = (([(⟨a0_0, a0_1⟩ : S25)] : List (S25))) := ⟨_, rfl⟩
  replace H : ((impl_between.f kj2 a0_0 a0_1 a1_0 a1_1).bind fun t523 => (impl_StepsBetween.l0 kj2 y519 t523 a1_0 a1_1 a0_0 a0_1)) = some r := by first | (rw [hy519]; with_reducible exact H) | (have H2_ := (Option.bind_some _ _).symm.trans H; rw [hy519]; with_reducible exact H2_) | (have H2_ := (Option.bind_some _ _).symm.trans H; with_reducible exact H2_) | with_reducible exact H | (rw [hy519]; exact H) | exact H
  have Ny519 := Az.mk hy519
  clear hy519
  replace H := bez H
  obtain ⟨t523, A18, H⟩ := H
  try dsimp only at H
  have H' := Az.mk H
  clear H
  try go_wp2
  replace BK515 := Az.mk (bkD BK515.out); replace BK516 := Az.mk (bkD BK516.out); replace HB := Az.mk (bwD HB.out)
  refine start_ (n := 6) (S := fun w' => w'.cell? ⟨gb515, 0, none⟩ = some (.int .i64 a0_0) ∧ w'.cell? ⟨gb515, 1, none⟩ = some (.int .i64 a0_1)) (ds := []) #[false, false, false, false, false, false] (by kernel_rfl) rfl rfl ⟨(bkC BK515.out 0).trans rfl, (bkC BK515.out 1).trans rfl⟩ (fun hHeld => ?_)
  generalize wc.drew = w19 at BK515 BK516 HB hHeld ⊢
  refine take_ (i := 0) (N := some 21) (v := ?_) (a' := ?_) #[true, false, false, false, false, false] rfl rfl (by kernel_rfl) (fun _ _ _ h => h) (Or.inl ⟨by rfl, ?_⟩) hHeld ?_ ?_
  rotate_left
  ·rintro w' ⟨s0, s1⟩
   go_simp
   with_reducible rfl
  rotate_left
  ·exact acq
  refine take_ (i := 2) (N := some 23) (v := ?_) (a' := ?_) #[true, false, true, false, false, false] rfl rfl (by kernel_rfl) (fun _ _ _ h => h) (Or.inl ⟨by rfl, ?_⟩) hHeld ?_ ?_
  rotate_left
  ·rintro w' ⟨s0, s1⟩
   go_simp
   with_reducible rfl
  rotate_left
  ·exact acq
  refine join_ (σ := Value × Nat) 2 #[true, true, true, true, false, false] (fun s_ => [(22, s_.1), (6, .pointer (some ⟨s_.2, 0, none⟩))]) (fun s_ w' => (w'.cell? ⟨gb515, 0, none⟩ = some (.int .i64 a0_0) ∧ w'.cell? ⟨gb515, 1, none⟩ = some (.int .i64 a0_1)) ∧ (Kd.R k25 25 w' w.heap.size (fun k_ => k_ ≠ gb515 ∧ k_ ≠ gb516 ∧ k_ ≠ s_.2) s_.1 y519) ∧ (w'.heap[gb515]? = some (.cells #[.int .i64 a0_0, .int .i64 a0_1] 25 (0, 0))) ∧ (w'.heap[gb516]? = some (.cells #[.int .i64 a1_0, .int .i64 a1_1] 25 (0, 0))) ∧ (w'.heap[s_.2]? = some (.cells #[.int .i64 0, .int .i64 0] 25 (0, 0))) ∧ (w.heap.size ≤ s_.2) ∧ (w.heap.size ≤ s_.2) ∧ (gb515 ≠ s_.2) ∧ (s_.2 ≠ gb515) ∧ (gb516 ≠ s_.2) ∧ (s_.2 ≠ gb516) ∧ (Below w.heap.size w w')) ?_ ?_
  rotate_left
  ·intro hCont
   refine two_ (i := 1) (j := 3) (Ni := some 22) (Nj := some 6) #[true, true, true, false, false, false] #[true, false, true, true, false, false] rfl rfl rfl rfl (by kernel_rfl) (by decide) (by decide) (fun K hK => ?_) (fun K hK => ?_)
   ·skip
    refine Kd.R_lit_step k25 _ 25 ?hg (N := 22) ?hd (xs := ([(⟨a0_0, a0_1⟩ : S25)] : List (S25))) (inner := [.int .i64 a0_0, .int .i64 a0_1]) (ok := fun _ => True) (okp := fun _ => True) ?hr ?hp (fun _ hk => hk) trivial (Below.refl _ _) (Nat.le_refl _) (by simp) ?_; (case hd => rfl); (case hg => rfl); (case hr => first | (go_simp; done) | (go_simp; rfl)); (case hp => exact (Reps.c2 (show Kd.M k25 _ _ _ (⟨a0_0, a0_1⟩ : S25) [.int .i64 a0_0, .int .i64 a0_1] from (k25_mkM _ _ _ (⟨a0_0, a0_1⟩ : S25) )) (Reps.none _ _)))
    intro v520 w20 ho21 hb hg_ hnew_
    clear hg_ hnew_
    (first | rw [← Ny519.out] at ho21 | (simp only [Int.reduceToNat] at ho21; rw [← Ny519.out] at ho21))
    have HO521 := Az.mk (Kd.R_lower (Kd.R_newB (Kd.R_newB ho21 (g := gb515) (o := .cells #[.int .i64 a0_0, .int .i64 a0_1] 25 (0, 0)) (bk1 BK515)) (g := gb516) (o := .cells #[.int .i64 a1_0, .int .i64 a1_1] 25 (0, 0)) (bk1 BK516)) (bwZ bw_20)); replace BK515 := bkz BK515 hb; replace BK516 := bkz BK516 hb; replace HB := Az.mk (bwT bw_20 hb)
    clear hb ho21
    refine hK.out _ _ ⟨(bkC BK515.out 0).trans rfl, (bkC BK515.out 1).trans rfl⟩ (fun hHeld => ?_)
    clear hK K
    refine norm_ (a' := ?_) ?_ ?_
    rotate_left
    ·show Act.put _ (some 22) _ = _
     exact acq
    refine one_ (i := 3) (N := some 6) #[true, true, true, true, false, false] rfl rfl (by kernel_rfl) (by decide) (fun K hK => ?_)
    refine box_step ?hg (N := 6) ?hd (cs := #[.int .i64 0, .int .i64 0]) (t := 25) ?hr ?_; (case hd => rfl); (case hg => rfl); (case hr => first | (go_simp; done) | (go_simp; rfl))
    intro gb522 hg w22 hbox hb
    replace HO521 := Az.mk (Kd.R_below (Kd.R_elderB (by (with_reducible repeat (first | apply Kd.R_alloc | apply Kd.R_drewN | apply Kd.R_drew)); exact HO521.out) gb522 (Nat.le_of_eq hg.symm)) hb); have BK522 := Az.mk (hbox); have GW522 := gwz hg bw_20; have GE522 := gwz hg bw_20; replace HB := Az.mk (bwT bw_20 hb); have NB515_522 := nlt BK515 hg; have NB522_515 := ngt BK515 hg; replace BK515 := bkz BK515 hb; have NB516_522 := nlt BK516 hg; have NB522_516 := ngt BK516 hg; replace BK516 := bkz BK516 hb
    clear hb hbox hg
    refine hK.out _ _ ⟨(bkC BK515.out 0).trans rfl, (bkC BK515.out 1).trans rfl⟩ (fun hHeld => ?_)
    clear hK K
    refine norm_ (a' := ?_) ?_ ?_
    rotate_left
    ·show Act.put _ (some 6) _ = _
     exact acq
    exact norm_ (by simp only [putAll, Act.put, List.setIfInBounds_toArray, List.set_cons_zero, List.set_cons_succ]) (hCont (v520, gb522) _ ⟨hHeld, (by (with_reducible repeat (first | apply Kd.R_alloc | apply Kd.R_drewN | apply Kd.R_drew)); exact Kd.R_mono HO521.out (fun _ hk => ⟨hk.1.1.2, ⟨hk.1.2, hk.2⟩⟩)), (bk1 BK515), (bk1 BK516), (bk1 BK522), GW522.out, GE522.out, NB515_522.out, NB522_515.out, NB516_522.out, NB522_516.out, bw_20⟩)
   skip
   refine box_step ?hg (N := 6) ?hd (cs := #[.int .i64 0, .int .i64 0]) (t := 25) ?hr ?_; (case hd => rfl); (case hg => rfl); (case hr => first | (go_simp; done) | (go_simp; rfl))
   intro gb522 hg w20 hbox hb
   have BK522 := Az.mk (hbox); have GW522 := gwz hg bw_20; have GE522 := gwz hg bw_20; replace HB := Az.mk (bwT bw_20 hb); have NB515_522 := nlt BK515 hg; have NB522_515 := ngt BK515 hg; replace BK515 := bkz BK515 hb; have NB516_522 := nlt BK516 hg; have NB522_516 := ngt BK516 hg; replace BK516 := bkz BK516 hb
   clear hb hbox hg
   refine hK.out _ _ ⟨(bkC BK515.out 0).trans rfl, (bkC BK515.out 1).trans rfl⟩ (fun hHeld => ?_)
   clear hK K
   refine norm_ (a' := ?_) ?_ ?_
   rotate_left
   ·show Act.put _ (some 6) _ = _
    exact acq
   refine one_ (i := 1) (N := some 22) #[true, true, true, true, false, false] rfl rfl (by kernel_rfl) (by decide) (fun K hK => ?_)
   refine Kd.R_lit_step k25 _ 25 ?hg (N := 22) ?hd (xs := ([(⟨a0_0, a0_1⟩ : S25)] : List (S25))) (inner := [.int .i64 a0_0, .int .i64 a0_1]) (ok := fun _ => True) (okp := fun _ => True) ?hr ?hp (fun _ hk => hk) trivial (Below.refl _ _) (Nat.le_refl _) (by simp) ?_; (case hd => rfl); (case hg => rfl); (case hr => first | (go_simp; done) | (go_simp; rfl)); (case hp => exact (Reps.c2 (show Kd.M k25 _ _ _ (⟨a0_0, a0_1⟩ : S25) [.int .i64 a0_0, .int .i64 a0_1] from (k25_mkM _ _ _ (⟨a0_0, a0_1⟩ : S25) )) (Reps.none _ _)))
   intro v520 w21 ho22 hb hg_ hnew_
   clear hg_ hnew_
   (first | rw [← Ny519.out] at ho22 | (simp only [Int.reduceToNat] at ho22; rw [← Ny519.out] at ho22))
   have HO521 := Az.mk (Kd.R_lower (Kd.R_newB (Kd.R_newB (Kd.R_newB ho22 (g := gb515) (o := .cells #[.int .i64 a0_0, .int .i64 a0_1] 25 (0, 0)) (bk1 BK515)) (g := gb516) (o := .cells #[.int .i64 a1_0, .int .i64 a1_1] 25 (0, 0)) (bk1 BK516)) (g := gb522) (o := .cells #[.int .i64 0, .int .i64 0] 25 (0, 0)) (bk1 BK522)) (bwZ bw_20)); replace BK515 := bkz BK515 hb; replace BK516 := bkz BK516 hb; replace BK522 := bkz BK522 hb; replace HB := Az.mk (bwT bw_20 hb)
   clear hb ho22
   refine hK.out _ _ ⟨(bkC BK515.out 0).trans rfl, (bkC BK515.out 1).trans rfl⟩ (fun hHeld => ?_)
   clear hK K
   refine norm_ (a' := ?_) ?_ ?_
   rotate_left
   ·show Act.put _ (some 22) _ = _
    exact acq
   exact norm_ (by simp only [putAll, Act.put, List.setIfInBounds_toArray, List.set_cons_zero, List.set_cons_succ]) (hCont (v520, gb522) _ ⟨hHeld, (by (with_reducible repeat (first | apply Kd.R_alloc | apply Kd.R_drewN | apply Kd.R_drew)); exact Kd.R_mono HO521.out (fun _ hk => ⟨hk.1.1.2, ⟨hk.1.2, hk.2⟩⟩)), (bk1 BK515), (bk1 BK516), (bk1 BK522), GW522.out, GE522.out, NB515_522.out, NB522_515.out, NB516_522.out, NB522_516.out, bw_20⟩)
  rintro ⟨v520, gb522⟩ w23 ⟨hS_, h0_, h1_, h2_, h3_, h4_, h5_, h6_, h7_, h8_, h9_, h10_⟩
  have n0_ : Az (Kd.R k25 25 w23 w.heap.size (fun k_ => k_ ≠ gb515 ∧ k_ ≠ gb516 ∧ k_ ≠ gb522) v520 y519) := ⟨h0_⟩
  have n1_ : Az (w23.heap[gb515]? = some (.cells #[.int .i64 a0_0, .int .i64 a0_1] 25 (0, 0))) := ⟨h1_⟩
  have n2_ : Az (w23.heap[gb516]? = some (.cells #[.int .i64 a1_0, .int .i64 a1_1] 25 (0, 0))) := ⟨h2_⟩
  have n3_ : Az (w23.heap[gb522]? = some (.cells #[.int .i64 0, .int .i64 0] 25 (0, 0))) := ⟨h3_⟩
  have n4_ : Az (w.heap.size ≤ gb522) := ⟨h4_⟩
  have n5_ : Az (w.heap.size ≤ gb522) := ⟨h5_⟩
  have n6_ : Az (gb515 ≠ gb522) := ⟨h6_⟩
  have n7_ : Az (gb522 ≠ gb515) := ⟨h7_⟩
  have n8_ : Az (gb516 ≠ gb522) := ⟨h8_⟩
  have n9_ : Az (gb522 ≠ gb516) := ⟨h9_⟩
  have n10_ : Az (Below w.heap.size w w23) := ⟨h10_⟩
  clear BK515
  clear BK516
  clear HB
  clear h0_ h1_ h2_ h3_ h4_ h5_ h6_ h7_ h8_ h9_ h10_
  have HO521 := n0_
  have BK515 := n1_
  have BK516 := n2_
  have BK522 := n3_
  have GW522 := n4_
  have GE522 := n5_
  have NB515_522 := n6_
  have NB522_515 := n7_
  have NB516_522 := n8_
  have NB522_516 := n9_
  have HB := n10_
  clear n0_ n1_ n2_ n3_ n4_ n5_ n6_ n7_ n8_ n9_ n10_
  have hHeld : w23.cell? ⟨gb515, 0, none⟩ = some (.int .i64 a0_0) ∧ w23.cell? ⟨gb515, 1, none⟩ = some (.int .i64 a0_1) := hS_
  refine norm_ (a' := ?_) ?_ ?_
  rotate_left
  ·simp only [putAll, Act.put, List.setIfInBounds_toArray, List.set_cons_zero, List.set_cons_succ]
   rfl
  refine pure_ (i := 4) (N := some 5) (v := ?_) (a' := ?_) #[true, true, true, true, true, false] rfl rfl (by kernel_rfl) (fun _ _ _ h => h) (Or.inl ⟨by rfl, ?_⟩) ?_ ?_
  rotate_left
  ·intro w'
   go_simp
   with_reducible rfl
  rotate_left
  ·exact acq
  refine one_ (i := 5) (N := none) #[true, true, true, true, true, true] rfl rfl (by kernel_rfl) (by decide) (fun K hK => ?_)
  have hs24 := bkc0 BK522
  have hfs24 := bkF BK522.out 0
  have hns24_0 := NB515_522.out
  have hns24_1 := NB516_522.out
  have hms24_0 := NB522_515.out
  have hms24_1 := NB522_516.out
  have hs25 := bkc1 BK522
  have hfs25 := bkF BK522.out 1
  have hns25_0 := NB515_522.out
  have hns25_1 := NB516_522.out
  have hms25_0 := NB522_515.out
  have hms25_1 := NB522_516.out
  refine skip_ (w1 := ?_) (by rfl) rfl ?_ ?_
  rotate_left
  ·go_simp
   rfl
  refine hK.out _ _ ⟨((cell_far (p := ⟨gb522, _, none⟩) NB515_522.out _).trans (((cell_far (p := ⟨gb522, _, none⟩) NB515_522.out _).trans (hHeld.1)))), ((cell_far (p := ⟨gb522, _, none⟩) NB515_522.out _).trans (((cell_far (p := ⟨gb522, _, none⟩) NB515_522.out _).trans (hHeld.2))))⟩ (fun hHeld => ?_)
  clear hK K
  refine done_ (by kernel_rfl) ?_
  have hnb26 := NB515_516.out
  have hnc26 := NB516_515.out
  have hnb27 := NB515_522.out
  have hnc27 := NB522_515.out
  have hcz28_0 := bkc0 BK515
  have hcz28_1 := bkc1 BK515
  have hfz28_0 := bkF BK515.out 0
  have hfz28_1 := bkF BK515.out 1
  have hnb29 := NB516_522.out
  have hnc29 := NB522_516.out
  have hcz30_0 := bkc0 BK516
  have hcz30_1 := bkc1 BK516
  have hfz30_0 := bkF BK516.out 0
  have hfz30_1 := bkF BK516.out 1
  try go_wp2_with (first | ((with_reducible refine gtC (f := 28) rfl ?_); refine clz Try.func28 (some 26) #[.agg #[.int .i64 a0_0, .int .i64 a0_1], .agg #[.int .i64 a1_0, .int .i64 a1_1]] ?_; (with_reducible refine (impl_between.calls kj2 a0_0 a0_1 a1_0 a1_1 t523 _ A18.out).mono ?_); rintro e w31 ⟨rfl, hb⟩; refine ⟨_, rfl, ?_⟩; replace HO521 := Az.mk (Kd.R_below (by (with_reducible repeat (first | apply Kd.R_alloc | apply Kd.R_drewN | apply Kd.R_drew)); exact (Kd.R_mono (Kd.R_far (p := ⟨gb522, 1, none⟩) (Kd.R_far (p := ⟨gb522, 0, none⟩) (Kd.R_mono HO521.out (fun k_ hk => (⟨hk, hk.2.2⟩ : _ ∧ k_ ≠ gb522))) (fun _ hk => hk.2) (.int .i64 a0_0)) (fun _ hk => hk.2) (.int .i64 a0_1)) (fun _ h_ => h_.1))) hb); replace BK515 := Az.mk (bkB (g := gb515) (o := .cells #[.int .i64 a0_0, .int .i64 a0_1] 25 (0, 0)) bkv hb); replace BK516 := Az.mk (bkB (g := gb516) (o := .cells #[.int .i64 a1_0, .int .i64 a1_1] 25 (0, 0)) bkv hb); replace BK522 := Az.mk (bkB (g := gb522) (o := .cells #[.int .i64 a0_0, .int .i64 a0_1] 25 (0, 0)) bkv hb); replace HB := Az.mk (bwT bw_20 hb); (try clear hb); (try clear hk)))
  go_loopg [5, 7] kj2 (fun kq v5 v7 w' => ∃ (x5_2 : List (S25)) (x7_2 : Int) (x523000_2 : Int) (x523001_2 : Int), v7 = .int .i64 x7_2 ∧ Az (impl_StepsBetween.l0 kq x5_2 x7_2 a1_0 a1_1 x523000_2 x523001_2 = some r) ∧ Az (kq ≤ kj2) ∧ Az (Kd.R k25 25 w' w.heap.size (fun k_ => k_ ≠ gb515 ∧ k_ ≠ gb516 ∧ k_ ≠ gb522) v5 x5_2) ∧ Az (w'.heap[gb515]? = some (.cells #[.int .i64 a0_0, .int .i64 a0_1] 25 (0, 0))) ∧ Az (w'.heap[gb516]? = some (.cells #[.int .i64 a1_0, .int .i64 a1_1] 25 (0, 0))) ∧ Az (w'.heap[gb522]? = some (.cells #[.int .i64 x523000_2, .int .i64 x523001_2] 25 (0, 0))) ∧ Az (Below w.heap.size w w'))
  case atStart => exact ⟨(y519), (t523), (a0_0), (a0_1), rq2, H', ⟨Nat.le_refl _⟩, ⟨by (with_reducible repeat (first | apply Kd.R_alloc | apply Kd.R_drewN | apply Kd.R_drew)); exact HO521.out⟩, ⟨bk1 BK515⟩, ⟨bk1 BK516⟩, ⟨bk1 BK522⟩, ⟨bw_20⟩⟩
  clear H'
  try clear c2
  try clear c7
  try clear c17
  try clear hcz10_0
  try clear hcz10_1
  try clear hcz12_0
  try clear hcz12_1
  try clear hcz15_0
  try clear hcz15_1
  try clear hcz28_0
  try clear hcz28_1
  try clear hcz30_0
  try clear hcz30_1
  try clear hfz10_0
  try clear hfz10_1
  try clear hfz12_0
  try clear hfz12_1
  try clear hfz15_0
  try clear hfz15_1
  try clear hfz28_0
  try clear hfz28_1
  try clear hfz30_0
  try clear hfz30_1
  obtain ⟨x5_2, x7_2, x523000_2, x523001_2, rfl, HA, HK2, HO_5, BK515, BK516, BK522, HB⟩ := hrel
  cases gk with
  | zero => exact absurd HA.out (by simp [impl_StepsBetween.l0])
  | succ k2 =>
   have H := HA.out
   clear HA
   simp only [impl_StepsBetween.l0] at H
   by_cases c32 : x7_2 > 0
   rotate_left
   ·rw [if_neg c32] at H
    have c32b0 : decide (0 < x7_2) = false := decide_eq_false c32
    clear c32
    obtain rfl := Option.some.inj H
    go_wp2
    go_ret
    exact ⟨_, rq1, by (with_reducible repeat (first | apply Kd.R_alloc | apply Kd.R_drewN | apply Kd.R_drew)); exact Kd.R_mono HO_5.out (fun _ hk => trivial), bw_20⟩
   rw [if_pos c32] at H
   have c32b0 : decide (0 < x7_2) = true := decide_eq_true c32
   clear c32
   replace H := bez H
   obtain ⟨t525, A33, H⟩ := H
   try dsimp only at H
   have H' := Az.mk H
   clear H
   go_wp2_with (first | ((with_reducible refine gtD (N := 9) rfl ?_); refine bx (N := 9) (cs := #[.int .i64 0, .int .i64 0]) (t := 25) ?_; intro gb524 hg w34 hbox hb; replace HO_5 := Az.mk (Kd.R_below (Kd.R_elderB (by (with_reducible repeat (first | apply Kd.R_alloc | apply Kd.R_drewN | apply Kd.R_drew)); exact HO_5.out) gb524 (Nat.le_of_eq hg.symm)) hb); have BK524 := Az.mk (hbox); have GW524 := gwz hg bw_20; have GE524 := gwz hg bw_20; replace HB := Az.mk (bwT bw_20 hb); have NB515_524 := nlt BK515 hg; have NB524_515 := ngt BK515 hg; replace BK515 := bkz BK515 hb; have NB516_524 := nlt BK516 hg; have NB524_516 := ngt BK516 hg; replace BK516 := bkz BK516 hb; have NB522_524 := nlt BK522 hg; have NB524_522 := ngt BK522 hg; replace BK522 := bkz BK522 hb; clear hb hbox hg; have hnb35 := NB524_515.out; have hnc35 := NB515_524.out; have hnb36 := NB524_516.out; have hnc36 := NB516_524.out; have hnb37 := NB524_522.out; have hnc37 := NB522_524.out; obtain ⟨hcz38_0, hcz38_1, hfz38_0, hfz38_1⟩ := bq2 BK524; have hnb39 := NB522_515.out; have hnc39 := NB515_522.out; have hnb40 := NB522_516.out; have hnc40 := NB516_522.out; obtain ⟨hcz41_0, hcz41_1, hfz41_0, hfz41_1⟩ := bq2 BK522) | ((with_reducible refine gtC (f := 33) rfl ?_); refine clz Try.func33 (some 32) #[.agg #[.int .i64 x523000_2, .int .i64 x523001_2], .int .i64 60] ?_; (with_reducible refine (impl_neighbours.calls k2 x523000_2 x523001_2 60 t525 _ A33.out).mono ?_); rintro e w42 ⟨v526, rfl, ho0, hb⟩; refine ⟨_, rfl, ?_⟩; have HO527 := Az.mk (Kd.R_lower (Kd.R_newB (Kd.R_newB (Kd.R_newB (Kd.R_newB (Kd.R_new' ho0 (Kd.R_lt (by (with_reducible repeat (first | apply Kd.R_alloc | apply Kd.R_drewN | apply Kd.R_drew)); exact (Kd.R_mono (Kd.R_far (p := ⟨gb524, 1, none⟩) (Kd.R_far (p := ⟨gb524, 0, none⟩) (Kd.R_mono HO_5.out (fun k_ hk => (⟨hk, hk.2⟩ : _ ∧ k_ ≠ gb524))) (fun _ hk => hk.2) (.int .i64 0)) (fun _ hk => hk.2) (.int .i64 0)) (fun _ h_ => h_.1))))) (g := gb515) (o := .cells #[.int .i64 a0_0, .int .i64 a0_1] 25 (0, 0)) bkv) (g := gb516) (o := .cells #[.int .i64 a1_0, .int .i64 a1_1] 25 (0, 0)) bkv) (g := gb522) (o := .cells #[.int .i64 x523000_2, .int .i64 x523001_2] 25 (0, 0)) bkv) (g := gb524) (o := .cells #[.int .i64 0, .int .i64 0] 25 (0, 0)) bkv) (bwZ bw_20)); replace HO_5 := Az.mk (Kd.R_elder' (by (with_reducible repeat (first | apply Kd.R_alloc | apply Kd.R_drewN | apply Kd.R_drew)); exact (Kd.R_mono (Kd.R_far (p := ⟨gb524, 1, none⟩) (Kd.R_far (p := ⟨gb524, 0, none⟩) (Kd.R_mono HO_5.out (fun k_ hk => (⟨hk, hk.2⟩ : _ ∧ k_ ≠ gb524))) (fun _ hk => hk.2) (.int .i64 0)) (fun _ hk => hk.2) (.int .i64 0)) (fun _ h_ => h_.1))) (Kd.R_base ho0) hb); replace BK515 := Az.mk (bkB (g := gb515) (o := .cells #[.int .i64 a0_0, .int .i64 a0_1] 25 (0, 0)) bkv hb); replace BK516 := Az.mk (bkB (g := gb516) (o := .cells #[.int .i64 a1_0, .int .i64 a1_1] 25 (0, 0)) bkv hb); replace BK522 := Az.mk (bkB (g := gb522) (o := .cells #[.int .i64 x523000_2, .int .i64 x523001_2] 25 (0, 0)) bkv hb); replace BK524 := Az.mk (bkB (g := gb524) (o := .cells #[.int .i64 0, .int .i64 0] 25 (0, 0)) bkv hb); replace HB := Az.mk (bwT bw_20 hb); (try clear hb); (try clear hk); (try clear ho0); obtain ⟨Ao43, co43, eo43⟩ := Kd.R_slice HO527.out; subst eo43))
   go_loopg [8, 34] k2 (fun kq v8 v34 w' => ∃ (x8_3 : Int) (x34_3 : Int) (x525000_3 : Int) (x525001_3 : Int), v8 = .int .i64 x8_3 ∧ v34 = .int .i64 x34_3 ∧ Az (impl_StepsBetween.l1 kq x5_2 x7_2 x8_3 t525 (t525.length : Int) x34_3 a1_0 a1_1 x525000_3 x525001_3 = some r) ∧ Az (kq ≤ k2) ∧ Az (Kd.R k25 25 w' w.heap.size (fun k_ => some k_ ≠ ((.slice Ao43 t525.length co43) : Value).ownBlock ∧ k_ ≠ gb515 ∧ k_ ≠ gb516 ∧ k_ ≠ gb522 ∧ k_ ≠ gb524) u5 x5_2) ∧ Az (Kd.R k25 25 w' w.heap.size (fun k_ => some k_ ≠ (u5 : Value).ownBlock ∧ k_ ≠ gb515 ∧ k_ ≠ gb516 ∧ k_ ≠ gb522 ∧ k_ ≠ gb524) (.slice Ao43 t525.length co43) t525) ∧ Az (w'.heap[gb515]? = some (.cells #[.int .i64 a0_0, .int .i64 a0_1] 25 (0, 0))) ∧ Az (w'.heap[gb516]? = some (.cells #[.int .i64 a1_0, .int .i64 a1_1] 25 (0, 0))) ∧ Az (w'.heap[gb522]? = some (.cells #[.int .i64 x523000_2, .int .i64 x523001_2] 25 (0, 0))) ∧ Az (w'.heap[gb524]? = some (.cells #[.int .i64 x525000_3, .int .i64 x525001_3] 25 (0, 0))) ∧ Az (Below w.heap.size w w'))
   case atStart => exact ⟨(x7_2), (0), (0), (0), rq2, rq2, H', ⟨Nat.le_refl _⟩, ⟨by (with_reducible repeat (first | apply Kd.R_alloc | apply Kd.R_drewN | apply Kd.R_drew)); exact Kd.R_mono HO_5.out (fun _ hk => ⟨hk.2, ⟨hk.1.1.1, ⟨hk.1.1.2.1, ⟨hk.1.1.2.2, hk.1.2⟩⟩⟩⟩)⟩, ⟨by (with_reducible repeat (first | apply Kd.R_alloc | apply Kd.R_drewN | apply Kd.R_drew)); exact Kd.R_mono HO527.out (fun _ hk => ⟨hk.1.1.1.1.2, ⟨hk.1.1.1.2, ⟨hk.1.1.2, ⟨hk.1.2, hk.2⟩⟩⟩⟩)⟩, ⟨bk1 BK515⟩, ⟨bk1 BK516⟩, ⟨bk1 BK522⟩, ⟨bk1 BK524⟩, ⟨bw_20⟩⟩
   clear H'
   try clear c2
   try clear c7
   try clear c17
   try clear c32
   try clear c32b0
   try clear hcz10_0
   try clear hcz10_1
   try clear hcz12_0
   try clear hcz12_1
   try clear hcz15_0
   try clear hcz15_1
   try clear hcz28_0
   try clear hcz28_1
   try clear hcz30_0
   try clear hcz30_1
   try clear hcz38_0
   try clear hcz38_1
   try clear hcz41_0
   try clear hcz41_1
   try clear hfz10_0
   try clear hfz10_1
   try clear hfz12_0
   try clear hfz12_1
   try clear hfz15_0
   try clear hfz15_1
   try clear hfz28_0
   try clear hfz28_1
   try clear hfz30_0
   try clear hfz30_1
   try clear hfz38_0
   try clear hfz38_1
   try clear hfz41_0
   try clear hfz41_1
   obtain ⟨x8_3, x34_3, x525000_3, x525001_3, rfl, rfl, HA, HK3, HO_5, HO_32, BK515, BK516, BK522, BK524, HB⟩ := hrel
   cases gk with
   | zero => exact absurd HA.out (by simp [impl_StepsBetween.l1])
   | succ k3 =>
    have H := HA.out
    clear HA
    simp only [impl_StepsBetween.l1] at H
    by_cases c44 : x34_3 < (t525.length : Int)
    rotate_left
    ·rw [if_neg c44] at H
     have c44b0 : decide (x34_3 < (t525.length : Int)) = false := decide_eq_false c44
     clear c44
     by_cases c74 : x8_3 = x7_2
     ·rw [if_pos c74] at H
      have c74b0 : (x8_3 == x7_2) = true := beq_iff_eq.mpr c74
      have c74b1 : (x8_3 != x7_2) = false := bne_eq_false_iff_eq.mpr c74
      clear c74
      obtain rfl := Option.some.inj H
      go_wp2
      go_ret
      exact ⟨_, rq1, by first | exact Kd.R_nil _ _ _ _ _ | exact Kd.N_nil _ _ _ _ _ | exact Kd.V_nil _ _ _ _ _ | exact Kd.Q_nil _ _ _ _ _ | exact Kd.S_nil _ _ _ _ _, bw_20⟩
     rw [if_neg c74] at H
     have c74b0 : (x8_3 == x7_2) = false := beq_eq_false_iff_ne.mpr c74
     have c74b1 : (x8_3 != x7_2) = true := bne_iff_ne.mpr c74
     by_cases c75 : x5_2.length < 8796093022208
     rotate_left
     ·rw [if_neg c75] at H
      exact absurd H (by simp)
     rw [if_pos c75] at H
     have LMc75 := Az.mk c75
     clear c75
     obtain ⟨y531, hy531⟩ : ∃ y_ : List (S25), y_ = (x5_2 ++ [(⟨x525000_3, x525001_3⟩ : S25)]) := ⟨_, rfl⟩
     replace H : (impl_StepsBetween.l0 k3 y531 x8_3 a1_0 a1_1 x525000_3 x525001_3) = some r := by first | (rw [hy531]; with_reducible exact H) | (have H2_ := (Option.bind_some _ _).symm.trans H; rw [hy531]; with_reducible exact H2_) | (have H2_ := (Option.bind_some _ _).symm.trans H; with_reducible exact H2_) | with_reducible exact H | (rw [hy531]; exact H) | exact H
     have Ny531 := Az.mk hy531
     clear hy531
     have H' := Az.mk H
     clear H
     try go_wp2
     replace HO_5 := Az.mk (Kd.R_drew HO_5.out); replace HO_32 := Az.mk (Kd.R_drew HO_32.out); replace BK515 := Az.mk (bkD BK515.out); replace BK516 := Az.mk (bkD BK516.out); replace BK522 := Az.mk (bkD BK522.out); replace BK524 := Az.mk (bkD BK524.out); replace HB := Az.mk (bwD HB.out)
     refine start_ (n := 4) (S := fun w' => w'.cell? ⟨gb524, 0, none⟩ = some (.int .i64 x525000_3) ∧ w'.cell? ⟨gb524, 1, none⟩ = some (.int .i64 x525001_3)) (ds := []) #[false, false, false, false] (by kernel_rfl) rfl rfl ⟨(bkC BK524.out 0).trans rfl, (bkC BK524.out 1).trans rfl⟩ (fun hHeld => ?_)
     generalize wr.drew = w76 at HO_5 HO_32 BK515 BK516 BK522 BK524 HB hHeld ⊢
     refine pure_ (i := 0) (N := some 50) (v := ?_) (a' := ?_) #[true, false, false, false] rfl rfl (by kernel_rfl) (fun _ _ _ h => h) (Or.inl ⟨by rfl, ?_⟩) ?_ ?_
     rotate_left
     ·intro w'
      go_simp
      with_reducible rfl
     rotate_left
     ·exact acq
     refine pure_ (i := 2) (N := some 7) (v := ?_) (a' := ?_) #[true, false, true, false] rfl rfl (by kernel_rfl) (fun _ _ _ h => h) (Or.inl ⟨by rfl, ?_⟩) ?_ ?_
     rotate_left
     ·intro w'
      go_simp
      with_reducible rfl
     rotate_left
     ·exact acq
     refine take_ (i := 1) (N := some 51) (v := ?_) (a' := ?_) #[true, true, true, false] rfl rfl (by kernel_rfl) (fun _ _ _ h => h) (Or.inl ⟨by rfl, ?_⟩) hHeld ?_ ?_
     rotate_left
     ·rintro w' ⟨s0, s1⟩
      go_simp
      with_reducible rfl
     rotate_left
     ·exact acq
     refine one_ (i := 3) (N := none) #[true, true, true, true] rfl rfl (by kernel_rfl) (by decide) (fun K hK => ?_)
     have hs77 := bkc0 BK522
     have hfs77 := bkF BK522.out 0
     have hns77_0 := NB515_522.out
     have hns77_1 := NB516_522.out
     have hns77_3 := NB524_522.out
     have hms77_0 := NB522_515.out
     have hms77_1 := NB522_516.out
     have hms77_3 := NB522_524.out
     have hs78 := bkc1 BK522
     have hfs78 := bkF BK522.out 1
     have hns78_0 := NB515_522.out
     have hns78_1 := NB516_522.out
     have hns78_3 := NB524_522.out
     have hms78_0 := NB522_515.out
     have hms78_1 := NB522_516.out
     have hms78_3 := NB522_524.out
     refine skip_ (w1 := ?_) (by rfl) rfl ?_ ?_
     rotate_left
     ·go_simp
      rfl
     refine hK.out _ _ ⟨((cell_far (p := ⟨gb522, _, none⟩) NB524_522.out _).trans (((cell_far (p := ⟨gb522, _, none⟩) NB524_522.out _).trans (hHeld.1)))), ((cell_far (p := ⟨gb522, _, none⟩) NB524_522.out _).trans (((cell_far (p := ⟨gb522, _, none⟩) NB524_522.out _).trans (hHeld.2))))⟩ (fun hHeld => ?_)
     clear hK K
     refine done_ (by kernel_rfl) ?_
     have hnb79 := NB522_515.out
     have hnc79 := NB515_522.out
     have hnb80 := NB522_516.out
     have hnc80 := NB516_522.out
     have hnb81 := NB522_524.out
     have hnc81 := NB524_522.out
     have hcz82_0 := bkc0 BK522
     have hcz82_1 := bkc1 BK522
     have hfz82_0 := bkF BK522.out 0
     have hfz82_1 := bkF BK522.out 1
     try go_wp2_with (first | ((with_reducible refine gate_builtin (b := .append) (xs := #[.tmp 52, .tmp 54]) rfl ?_); at_builtin; refine Kd.R_append k25 (w0 := w) w.heap.size rfl (.tmp 52) (.tmp 54) 31 25 (.agg #[(.int .i64 0), (.int .i64 0)]) 16 rfl Try.underlying31 info25 rfl (by decide) (by omega) u5 x5_2 (⟨x525000_3, x525001_3⟩ : S25) [.int .i64 x525000_3, .int .i64 x525001_3] (fun k_ => some k_ ≠ (.slice Ao43 t525.length co43 : Value).ownBlock ∧ k_ ≠ gb515 ∧ k_ ≠ gb516 ∧ k_ ≠ gb522 ∧ k_ ≠ gb524) (fun _ => False) rfl (by first | (go_simp; done) | (go_simp; rfl)) ?aP (fun _ hk => hk.elim) ?aF ?aO ?aB ?aS ?aL ?_; (case aP => exact k25_mkM _ _ _ (⟨x525000_3, x525001_3⟩ : S25)); (case aB => exact bw_20); (case aF => exact (fun k_ hk => ⟨Kd.fresh' (Kd.R_lt (by (with_reducible repeat (first | apply Kd.R_alloc | apply Kd.R_drewN | apply Kd.R_drew)); exact (Kd.R_mono (Kd.R_far (p := ⟨gb522, 1, none⟩) (Kd.R_far (p := ⟨gb522, 0, none⟩) (Kd.R_mono HO_32.out (fun k_ hk => (⟨hk, hk.2.2.2.1⟩ : _ ∧ k_ ≠ gb522))) (fun _ hk => hk.2) (.int .i64 x525000_3)) (fun _ hk => hk.2) (.int .i64 x525001_3)) (fun _ h_ => h_.1)))) k_ hk, Kd.freshB (g := gb515) (o := .cells #[.int .i64 a0_0, .int .i64 a0_1] 25 (0, 0)) bkv k_ hk, Kd.freshB (g := gb516) (o := .cells #[.int .i64 a1_0, .int .i64 a1_1] 25 (0, 0)) bkv k_ hk, Kd.freshB (g := gb522) (o := .cells #[.int .i64 x525000_3, .int .i64 x525001_3] 25 (0, 0)) bkv k_ hk, Kd.freshB (g := gb524) (o := .cells #[.int .i64 x525000_3, .int .i64 x525001_3] 25 (0, 0)) bkv k_ hk⟩)); (case aO => exact (by (with_reducible repeat (first | apply Kd.R_alloc | apply Kd.R_drewN | apply Kd.R_drew)); exact Kd.R_mono (Kd.R_far (p := ⟨gb522, 1, none⟩) (Kd.R_far (p := ⟨gb522, 0, none⟩) (Kd.R_mono HO_5.out (fun k_ hk => (⟨hk, hk.2.2.2.1⟩ : _ ∧ k_ ≠ gb522))) (fun _ hk => hk.2) (.int .i64 x525000_3)) (fun _ hk => hk.2) (.int .i64 x525001_3)) (fun _ hk => ⟨hk.1.1, ⟨hk.1.2.1, ⟨hk.1.2.2.1, ⟨hk.1.2.2.2.1, hk.1.2.2.2.2⟩⟩⟩⟩))); (case aS => exact (bwZ bw_20)); (case aL => have := LMc75.out; omega); intro v532 w83 ho hb hg hat; rw [← Ny531.out] at ho; have n0_ := Az.mk (Kd.R_after (ok := (fun k_ => k_ ≠ gb515 ∧ k_ ≠ gb516 ∧ k_ ≠ gb522 ∧ k_ ≠ gb524)) (by (with_reducible repeat (first | apply Kd.R_alloc | apply Kd.R_drewN | apply Kd.R_drew)); exact Kd.R_mono (Kd.R_far (p := ⟨gb522, 1, none⟩) (Kd.R_far (p := ⟨gb522, 0, none⟩) (Kd.R_mono HO_32.out (fun k_ hk => (⟨hk, hk.2.2.2.1⟩ : _ ∧ k_ ≠ gb522))) (fun _ hk => hk.2) (.int .i64 x525000_3)) (fun _ hk => hk.2) (.int .i64 x525001_3)) (fun _ hk => ⟨⟨hk.1.2.1, ⟨hk.1.2.2.1, ⟨hk.1.2.2.2.1, hk.1.2.2.2.2⟩⟩⟩, hk.1.1⟩)) hg hat); have n1_ := Az.mk (blk_grown (g := gb515) (o := .cells #[.int .i64 a0_0, .int .i64 a0_1] 25 (0, 0)) bkv hg (Kd.R_away HO_5.out (fun _ hk => hk.2.1))); have n2_ := Az.mk (blk_grown (g := gb516) (o := .cells #[.int .i64 a1_0, .int .i64 a1_1] 25 (0, 0)) bkv hg (Kd.R_away HO_5.out (fun _ hk => hk.2.2.1))); have n3_ := Az.mk (blk_grown (g := gb522) (o := .cells #[.int .i64 x525000_3, .int .i64 x525001_3] 25 (0, 0)) bkv hg (Kd.R_away HO_5.out (fun _ hk => hk.2.2.2.1))); have n4_ := Az.mk (blk_grown (g := gb524) (o := .cells #[.int .i64 x525000_3, .int .i64 x525001_3] 25 (0, 0)) bkv hg (Kd.R_away HO_5.out (fun _ hk => hk.2.2.2.2))); have n5_ := Az.mk (hb); have n6_ := Az.mk (ho); clear HO_32; clear BK515; clear BK516; clear BK522; clear BK524; clear HB; clear HO_5; have HO_32 := n0_; have BK515 := n1_; have BK516 := n2_; have BK522 := n3_; have BK524 := n4_; have HB := n5_; have HO533 := n6_; clear n0_ n1_ n2_ n3_ n4_ n5_ n6_; clear ho hb hg hat))
     go_roundg k3
     case measure => have := HJ2.out; have := HK2.out; have := HK3.out; omega
     case rel => exact ⟨(y531), (x8_3), (x525000_3), (x525001_3), rq2, H', ⟨by have := HJ2.out; have := HK2.out; have := HK3.out; omega⟩, ⟨by (with_reducible repeat (first | apply Kd.R_alloc | apply Kd.R_drewN | apply Kd.R_drew)); exact Kd.R_mono HO533.out (fun _ hk => ⟨hk.2.1, ⟨hk.2.2.1, hk.2.2.2.1⟩⟩)⟩, ⟨bk1 BK515⟩, ⟨bk1 BK516⟩, ⟨bk1 BK522⟩, ⟨bw_20⟩⟩
    rw [if_pos c44] at H
    have c44b0 : decide (x34_3 < (t525.length : Int)) = true := decide_eq_true c44
    clear c44
    by_cases c45 : 0 ≤ x34_3
    rotate_left
    ·rw [if_neg c45] at H
     exact absurd H (by simp)
    rw [if_pos c45] at H
    have c45b0 : decide (0 ≤ x34_3) = true := decide_eq_true c45
    clear c45
    by_cases c46 : x34_3 < (t525.length : Int)
    rotate_left
    ·rw [if_neg c46] at H
     exact absurd H (by simp)
    rw [if_pos c46] at H
    have c46b0 : decide (x34_3 < (t525.length : Int)) = true := decide_eq_true c46
    clear c46
    replace H := bez H
    obtain ⟨t530, A47, H⟩ := H
    try dsimp only at H
    by_cases c48 : t530 < x8_3
    rotate_left
    ·rw [if_neg c48] at H
     have c48b0 : decide (t530 < x8_3) = false := decide_eq_false c48
     clear c48
     have H' := Az.mk H
     clear H
     have p528 : 0 ≤ (x34_3 : Int) := of_decide_eq_true (by first | (with_reducible assumption) | assumption)
     have q528 : x34_3 < (t525.length : Int) := of_decide_eq_true (by first | (with_reducible assumption) | assumption)
     obtain ⟨ad528, e528, hx528_0, hx528_1⟩ := at_T25 (Kd.R_reads' HO_32.out).2.2 x34_3 p528 q528
     cases e528
     replace p528 := eq_true p528
     replace q528 := eq_true q528
     go_wp2_with (first | ((with_reducible refine gtD (N := 11) rfl ?_); refine bx (N := 11) (cs := #[.int .i64 0, .int .i64 0]) (t := 25) ?_; intro gb529 hg w63 hbox hb; replace HO_5 := Az.mk (Kd.R_below (Kd.R_elderB (by (with_reducible repeat (first | apply Kd.R_alloc | apply Kd.R_drewN | apply Kd.R_drew)); exact HO_5.out) gb529 (Nat.le_of_eq hg.symm)) hb); replace HO_32 := Az.mk (Kd.R_below (Kd.R_elderB (by (with_reducible repeat (first | apply Kd.R_alloc | apply Kd.R_drewN | apply Kd.R_drew)); exact HO_32.out) gb529 (Nat.le_of_eq hg.symm)) hb); have BK529 := Az.mk (hbox); have GW529 := gwz hg bw_20; have GE529 := gwz hg bw_20; replace HB := Az.mk (bwT bw_20 hb); have NB515_529 := nlt BK515 hg; have NB529_515 := ngt BK515 hg; replace BK515 := bkz BK515 hb; have NB516_529 := nlt BK516 hg; have NB529_516 := ngt BK516 hg; replace BK516 := bkz BK516 hb; have NB522_529 := nlt BK522 hg; have NB529_522 := ngt BK522 hg; replace BK522 := bkz BK522 hb; have NB524_529 := nlt BK524 hg; have NB529_524 := ngt BK524 hg; replace BK524 := bkz BK524 hb; clear hb hbox hg; have hnb64 := NB529_515.out; have hnc64 := NB515_529.out; have hnb65 := NB529_516.out; have hnc65 := NB516_529.out; have hnb66 := NB529_522.out; have hnc66 := NB522_529.out; have hnb67 := NB529_524.out; have hnc67 := NB524_529.out; obtain ⟨hcz68_0, hcz68_1, hfz68_0, hfz68_1⟩ := bq2 BK529; have hnb69 := NB516_515.out; have hnc69 := NB515_516.out; have hnb70 := NB516_522.out; have hnc70 := NB522_516.out; have hnb71 := NB516_524.out; have hnc71 := NB524_516.out; obtain ⟨hcz72_0, hcz72_1, hfz72_0, hfz72_1⟩ := bq2 BK516) | ((with_reducible refine gtC (f := 28) rfl ?_); refine clz Try.func28 (some 40) #[.agg #[.int .i64 ((rd_T25 t525 x34_3).f0), .int .i64 ((rd_T25 t525 x34_3).f1)], .agg #[.int .i64 a1_0, .int .i64 a1_1]] ?_; (with_reducible refine (impl_between.calls k3 ((rd_T25 t525 x34_3).f0) ((rd_T25 t525 x34_3).f1) a1_0 a1_1 t530 _ A47.out).mono ?_); rintro e w73 ⟨rfl, hb⟩; refine ⟨_, rfl, ?_⟩; replace HO_5 := Az.mk (Kd.R_below z20_1 hb); replace HO_32 := Az.mk (Kd.R_below z20_0 hb); replace BK515 := Az.mk (bkB (g := gb515) (o := .cells #[.int .i64 a0_0, .int .i64 a0_1] 25 (0, 0)) bkv hb); replace BK516 := Az.mk (bkB (g := gb516) (o := .cells #[.int .i64 a1_0, .int .i64 a1_1] 25 (0, 0)) bkv hb); replace BK522 := Az.mk (bkB (g := gb522) (o := .cells #[.int .i64 x523000_2, .int .i64 x523001_2] 25 (0, 0)) bkv hb); replace BK524 := Az.mk (bkB (g := gb524) (o := .cells #[.int .i64 x525000_3, .int .i64 x525001_3] 25 (0, 0)) bkv hb); replace BK529 := Az.mk (bkB (g := gb529) (o := .cells #[.int .i64 ((rd_T25 t525 x34_3).f0), .int .i64 ((rd_T25 t525 x34_3).f1)] 25 (0, 0)) bkv hb); replace HB := Az.mk (bwT bw_20 hb); (try clear hb); (try clear hk)))
     go_roundg k3
     case measure => have := HJ2.out; have := HK2.out; have := HK3.out; omega
     case rel => exact ⟨(x8_3), (wrap64 (x34_3 + 1)), (x525000_3), (x525001_3), rq2, rq2, H', ⟨by have := HJ2.out; have := HK2.out; have := HK3.out; omega⟩, ⟨by (with_reducible repeat (first | apply Kd.R_alloc | apply Kd.R_drewN | apply Kd.R_drew)); exact Kd.R_mono HO_5.out (fun _ hk => ⟨hk.1.1, ⟨hk.1.2.1, ⟨hk.1.2.2.1, ⟨hk.1.2.2.2.1, hk.1.2.2.2.2⟩⟩⟩⟩)⟩, ⟨by (with_reducible repeat (first | apply Kd.R_alloc | apply Kd.R_drewN | apply Kd.R_drew)); exact Kd.R_mono HO_32.out (fun _ hk => ⟨hk.1.1, ⟨hk.1.2.1, ⟨hk.1.2.2.1, ⟨hk.1.2.2.2.1, hk.1.2.2.2.2⟩⟩⟩⟩)⟩, ⟨bk1 BK515⟩, ⟨bk1 BK516⟩, ⟨bk1 BK522⟩, ⟨bk1 BK524⟩, ⟨bw_20⟩⟩
    rw [if_pos c48] at H
    have c48b0 : decide (t530 < x8_3) = true := decide_eq_true c48
    clear c48
    have H' := Az.mk H
    clear H
    have p528 : 0 ≤ (x34_3 : Int) := of_decide_eq_true (by first | (with_reducible assumption) | assumption)
    have q528 : x34_3 < (t525.length : Int) := of_decide_eq_true (by first | (with_reducible assumption) | assumption)
    obtain ⟨ad528, e528, hx528_0, hx528_1⟩ := at_T25 (Kd.R_reads' HO_32.out).2.2 x34_3 p528 q528
    cases e528
    replace p528 := eq_true p528
    replace q528 := eq_true q528
    try go_wp2_with (first | ((with_reducible refine gtD (N := 11) rfl ?_); refine bx (N := 11) (cs := #[.int .i64 0, .int .i64 0]) (t := 25) ?_; intro gb529 hg w49 hbox hb; replace HO_5 := Az.mk (Kd.R_below (Kd.R_elderB (by (with_reducible repeat (first | apply Kd.R_alloc | apply Kd.R_drewN | apply Kd.R_drew)); exact HO_5.out) gb529 (Nat.le_of_eq hg.symm)) hb); replace HO_32 := Az.mk (Kd.R_below (Kd.R_elderB (by (with_reducible repeat (first | apply Kd.R_alloc | apply Kd.R_drewN | apply Kd.R_drew)); exact HO_32.out) gb529 (Nat.le_of_eq hg.symm)) hb); have BK529 := Az.mk (hbox); have GW529 := gwz hg bw_20; have GE529 := gwz hg bw_20; replace HB := Az.mk (bwT bw_20 hb); have NB515_529 := nlt BK515 hg; have NB529_515 := ngt BK515 hg; replace BK515 := bkz BK515 hb; have NB516_529 := nlt BK516 hg; have NB529_516 := ngt BK516 hg; replace BK516 := bkz BK516 hb; have NB522_529 := nlt BK522 hg; have NB529_522 := ngt BK522 hg; replace BK522 := bkz BK522 hb; have NB524_529 := nlt BK524 hg; have NB529_524 := ngt BK524 hg; replace BK524 := bkz BK524 hb; clear hb hbox hg; have hnb50 := NB529_515.out; have hnc50 := NB515_529.out; have hnb51 := NB529_516.out; have hnc51 := NB516_529.out; have hnb52 := NB529_522.out; have hnc52 := NB522_529.out; have hnb53 := NB529_524.out; have hnc53 := NB524_529.out; obtain ⟨hcz54_0, hcz54_1, hfz54_0, hfz54_1⟩ := bq2 BK529; have hnb55 := NB516_515.out; have hnc55 := NB515_516.out; have hnb56 := NB516_522.out; have hnc56 := NB522_516.out; have hnb57 := NB516_524.out; have hnc57 := NB524_516.out; obtain ⟨hcz58_0, hcz58_1, hfz58_0, hfz58_1⟩ := bq2 BK516) | ((with_reducible refine gtC (f := 28) rfl ?_); refine clz Try.func28 (some 40) #[.agg #[.int .i64 ((rd_T25 t525 x34_3).f0), .int .i64 ((rd_T25 t525 x34_3).f1)], .agg #[.int .i64 a1_0, .int .i64 a1_1]] ?_; (with_reducible refine (impl_between.calls k3 ((rd_T25 t525 x34_3).f0) ((rd_T25 t525 x34_3).f1) a1_0 a1_1 t530 _ A47.out).mono ?_); rintro e w59 ⟨rfl, hb⟩; refine ⟨_, rfl, ?_⟩; replace HO_5 := Az.mk (Kd.R_below z20_1 hb); replace HO_32 := Az.mk (Kd.R_below z20_0 hb); replace BK515 := Az.mk (bkB (g := gb515) (o := .cells #[.int .i64 a0_0, .int .i64 a0_1] 25 (0, 0)) bkv hb); replace BK516 := Az.mk (bkB (g := gb516) (o := .cells #[.int .i64 a1_0, .int .i64 a1_1] 25 (0, 0)) bkv hb); replace BK522 := Az.mk (bkB (g := gb522) (o := .cells #[.int .i64 x523000_2, .int .i64 x523001_2] 25 (0, 0)) bkv hb); replace BK524 := Az.mk (bkB (g := gb524) (o := .cells #[.int .i64 x525000_3, .int .i64 x525001_3] 25 (0, 0)) bkv hb); replace BK529 := Az.mk (bkB (g := gb529) (o := .cells #[.int .i64 ((rd_T25 t525 x34_3).f0), .int .i64 ((rd_T25 t525 x34_3).f1)] 25 (0, 0)) bkv hb); replace HB := Az.mk (bwT bw_20 hb); (try clear hb); (try clear hk)))
    replace HO_5 := Az.mk (Kd.R_drew HO_5.out); replace HO_32 := Az.mk (Kd.R_drew HO_32.out); replace BK515 := Az.mk (bkD BK515.out); replace BK516 := Az.mk (bkD BK516.out); replace BK522 := Az.mk (bkD BK522.out); replace BK524 := Az.mk (bkD BK524.out); replace BK529 := Az.mk (bkD BK529.out); replace HB := Az.mk (bwD HB.out)
    refine start_ (n := 4) (S := fun w' => w'.cell? ⟨gb529, 0, none⟩ = some (.int .i64 ((rd_T25 t525 x34_3).f0)) ∧ w'.cell? ⟨gb529, 1, none⟩ = some (.int .i64 ((rd_T25 t525 x34_3).f1))) (ds := []) #[false, false, false, false] (by kernel_rfl) rfl rfl ⟨(bkC BK529.out 0).trans rfl, (bkC BK529.out 1).trans rfl⟩ (fun hHeld => ?_)
    generalize w59.drew = w60 at HO_5 HO_32 BK515 BK516 BK522 BK524 BK529 HB hHeld ⊢
    refine pure_ (i := 0) (N := some 44) (v := ?_) (a' := ?_) #[true, false, false, false] rfl rfl (by kernel_rfl) (fun _ _ _ h => h) (Or.inl ⟨by rfl, ?_⟩) ?_ ?_
    rotate_left
    ·intro w'
     go_simp
     with_reducible rfl
    rotate_left
    ·exact acq
    refine pure_ (i := 2) (N := some 8) (v := ?_) (a' := ?_) #[true, false, true, false] rfl rfl (by kernel_rfl) (fun _ _ _ h => h) (Or.inl ⟨by rfl, ?_⟩) ?_ ?_
    rotate_left
    ·intro w'
     go_simp
     with_reducible rfl
    rotate_left
    ·exact acq
    refine take_ (i := 1) (N := some 45) (v := ?_) (a' := ?_) #[true, true, true, false] rfl rfl (by kernel_rfl) (fun _ _ _ h => h) (Or.inl ⟨by rfl, ?_⟩) hHeld ?_ ?_
    rotate_left
    ·rintro w' ⟨s0, s1⟩
     go_simp
     with_reducible rfl
    rotate_left
    ·exact acq
    refine one_ (i := 3) (N := none) #[true, true, true, true] rfl rfl (by kernel_rfl) (by decide) (fun K hK => ?_)
    have hs61 := bkc0 BK524
    have hfs61 := bkF BK524.out 0
    have hns61_0 := NB515_524.out
    have hns61_1 := NB516_524.out
    have hns61_2 := NB522_524.out
    have hns61_4 := NB529_524.out
    have hms61_0 := NB524_515.out
    have hms61_1 := NB524_516.out
    have hms61_2 := NB524_522.out
    have hms61_4 := NB524_529.out
    have hs62 := bkc1 BK524
    have hfs62 := bkF BK524.out 1
    have hns62_0 := NB515_524.out
    have hns62_1 := NB516_524.out
    have hns62_2 := NB522_524.out
    have hns62_4 := NB529_524.out
    have hms62_0 := NB524_515.out
    have hms62_1 := NB524_516.out
    have hms62_2 := NB524_522.out
    have hms62_4 := NB524_529.out
    refine skip_ (w1 := ?_) (by rfl) rfl ?_ ?_
    rotate_left
    ·go_simp
     rfl
    refine hK.out _ _ ⟨((cell_far (p := ⟨gb524, _, none⟩) NB529_524.out _).trans (((cell_far (p := ⟨gb524, _, none⟩) NB529_524.out _).trans (hHeld.1)))), ((cell_far (p := ⟨gb524, _, none⟩) NB529_524.out _).trans (((cell_far (p := ⟨gb524, _, none⟩) NB529_524.out _).trans (hHeld.2))))⟩ (fun hHeld => ?_)
    clear hK K
    refine done_ (by kernel_rfl) ?_
    try go_wp2
    go_roundg k3
    case measure => have := HJ2.out; have := HK2.out; have := HK3.out; omega
    case rel => exact ⟨(t530), (wrap64 (x34_3 + 1)), ((rd_T25 t525 x34_3).f0), ((rd_T25 t525 x34_3).f1), rq2, rq2, H', ⟨by have := HJ2.out; have := HK2.out; have := HK3.out; omega⟩, ⟨by (with_reducible repeat (first | apply Kd.R_alloc | apply Kd.R_drewN | apply Kd.R_drew)); exact Kd.R_mono (Kd.R_far (p := ⟨gb524, 1, none⟩) (Kd.R_far (p := ⟨gb524, 0, none⟩) (Kd.R_mono HO_5.out (fun k_ hk => (⟨hk, hk.1.2.2.2.2⟩ : _ ∧ k_ ≠ gb524))) (fun _ hk => hk.2) (.int .i64 ((rd_T25 t525 x34_3).f0))) (fun _ hk => hk.2) (.int .i64 ((rd_T25 t525 x34_3).f1))) (fun _ hk => ⟨hk.1.1.1, ⟨hk.1.1.2.1, ⟨hk.1.1.2.2.1, ⟨hk.1.1.2.2.2.1, hk.1.1.2.2.2.2⟩⟩⟩⟩)⟩, ⟨by (with_reducible repeat (first | apply Kd.R_alloc | apply Kd.R_drewN | apply Kd.R_drew)); exact Kd.R_mono (Kd.R_far (p := ⟨gb524, 1, none⟩) (Kd.R_far (p := ⟨gb524, 0, none⟩) (Kd.R_mono HO_32.out (fun k_ hk => (⟨hk, hk.1.2.2.2.2⟩ : _ ∧ k_ ≠ gb524))) (fun _ hk => hk.2) (.int .i64 ((rd_T25 t525 x34_3).f0))) (fun _ hk => hk.2) (.int .i64 ((rd_T25 t525 x34_3).f1))) (fun _ hk => ⟨hk.1.1.1, ⟨hk.1.1.2.1, ⟨hk.1.1.2.2.1, ⟨hk.1.1.2.2.2.1, hk.1.1.2.2.2.2⟩⟩⟩⟩)⟩, ⟨bkv⟩, ⟨bkv⟩, ⟨bkv⟩, ⟨bkv⟩, ⟨bw_20⟩⟩

end Go.Proofs.Ytigcjehokbgclaa.P
