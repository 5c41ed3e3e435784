-- By this session's driver (wip/tools/mk.py) of the kit's print program, over several statements at once. Not trusted: Lean checks it.
import Derived.Test.YtigcjehokbgclaaQWZip
import Derived.Test.YtigcjehokbgclaaQPx0
import Derived.Test.YtigcjehokbgclaaQPx5
namespace Go.Proofs.Ytigcjehokbgclaa.P
open Go.RowKit Go.Proofs.YtigcjehokbgclaaW.PrintWords Go.Proofs.YtigcjehokbgclaaW.PrintLast Go.Proofs.YtigcjehokbgclaaW.PrintMore
attribute [local go_sem] max2_int min2_int max_two min_two max_three min_three max_four min_four   -- for this text's walks alone
set_option linter.unusedVariables false
set_option linter.unusedSimpArgs false
theorem bw_14 {n : Nat} {v v' : World} (h : Below n v v' := by repeat (first | (with_reducible first | exact HB.out | apply bwA | apply pbN | apply bwD | refine bwS ?_ GE361.out) | exact HB.out)) : Below n v v' := h

/-! ### spec_l14All: function 41 -/
mutual
def spec_l14All.l0 : Nat → Int → List (S25) → Int → Option ((List (S25)))
 | 0, _, _, _ => none
 | k + 1, x0, x3, x4 => if x4 ≤ x0 then (spec_l14All.l1 k x0 x3 x4 (wrap64 (-x0))) else (some x3)
def spec_l14All.l1 : Nat → Int → List (S25) → Int → Int → Option ((List (S25)))
 | 0, _, _, _, _ => none
 | k + 1, x0, x3, x4, x5 => if x5 ≤ x0 then ((spec_IsSlope.f k x5 x4).bind fun t362 => (if t362 = true then (if x3.length < 8796093022208 then (spec_l14All.l1 k x0 (x3 ++ [(⟨x5, x4⟩ : S25)]) x4 (wrap64 (x5 + 1))) else (none)) else (spec_l14All.l1 k x0 x3 x4 (wrap64 (x5 + 1))))) else (spec_l14All.l0 k x0 x3 (wrap64 (x4 + 1)))
end
def spec_l14All.f (k : Nat) (a0 : Int) : Option ((List (S25))) := spec_l14All.l0 k a0 (([] : List (S25))) 0
theorem spec_l14All.mono_l : ∀ k, (∀ y0 y1 y2, LeO (spec_l14All.l0 k y0 y1 y2) (spec_l14All.l0 (k + 1) y0 y1 y2)) ∧ (∀ y0 y1 y2 y3, LeO (spec_l14All.l1 k y0 y1 y2 y3) (spec_l14All.l1 (k + 1) y0 y1 y2 y3))
 | 0 => ⟨fun _ _ _ r h => by simp [spec_l14All.l0] at h, fun _ _ _ _ r h => by simp [spec_l14All.l1] at h⟩
 | k + 1 => by
  obtain ⟨ih0, ih1⟩ := spec_l14All.mono_l k
  have i0 := fun z0 z1 z2 => MoO.mk (ih0 z0 z1 z2)
  have i1 := fun z0 z1 z2 z3 => MoO.mk (ih1 z0 z1 z2 z3)
  refine ⟨?_, ?_⟩
  ·intro y0 y1 y2
   unfold spec_l14All.l0
   exact mo_
  intro y0 y1 y2 y3
  unfold spec_l14All.l1
  exact mo_
theorem spec_l14All.mono : ∀ a0 k, LeO (spec_l14All.f k a0) (spec_l14All.f (k + 1) a0) := by
 intro a0 k
 obtain ⟨ih0, ih1⟩ := spec_l14All.mono_l k
 have i0 := fun z0 z1 z2 => MoO.mk (ih0 z0 z1 z2)
 have i1 := fun z0 z1 z2 z3 => MoO.mk (ih1 z0 z1 z2 z3)
 unfold spec_l14All.f
 exact mo_
instance spec_l14All.mi {a0 k} : MoO (spec_l14All.f k a0) (spec_l14All.f (k + 1) a0) := ⟨spec_l14All.mono _ _⟩
set_option maxHeartbeats 8000000 in
set_option maxRecDepth 100000 in
theorem spec_l14All.calls (k : Nat) (a0 : Int) (r : List (S25)) (w : World) (h : spec_l14All.f k a0 = some r) :
  Calls Try.prog 41 #[.int .i64 a0] w fun e w' => ∃ v0_ : Value, e = .returned (v0_) ∧ Kd.R k25 25 w' w.heap.size (fun _ => True) v0_ r ∧ Below w.heap.size w w' := by
 have hu25 := Try.underlying25
 have HB := Az.mk (Below.refl w.heap.size w)
 have H : (spec_l14All.l0 k a0 (([] : List (S25))) 0) = some r := h
 clear h
 obtain ⟨y358, hy358⟩ : ∃ y_ : List (S25), y_ = (([] : List (S25))) := ⟨_, rfl⟩
 replace H : (spec_l14All.l0 k a0 y358 0) = some r := by first | (rw [hy358]; with_reducible exact H) | (have H2_ := (Option.bind_some _ _).symm.trans H; rw [hy358]; with_reducible exact H2_) | (have H2_ := (Option.bind_some _ _).symm.trans H; with_reducible exact H2_) | with_reducible exact H | (rw [hy358]; exact H) | exact H
 have Ny358 := Az.mk hy358
 clear hy358
 have H' := Az.mk H
 clear H
 go_enter Try.func41, Try.ntmps41
 go_wp2_with (first | ((with_reducible refine gtD (N := 7) rfl ?_); refine Kd.R_lit k25 _ 25 ?hg (N := 7) ?hd (xs := ([] : List (S25))) (inner := []) (ok := fun _ => True) (okp := fun _ => True) ?hr ?hp (fun _ hk => hk) trivial (Below.refl _ _) (Nat.le_refl _) (by simp) ?_; (case hd => rfl); (case hg => rfl); (case hr => first | (go_simp; done) | (go_simp; rfl)); (case hp => exact (Reps.none _ _)); intro v359 w2 ho3 hb hg_ hnew_; clear hg_ hnew_; (first | rw [← Ny358.out] at ho3 | (simp only [Int.reduceToNat] at ho3; rw [← Ny358.out] at ho3)); have HO360 := Az.mk (Kd.R_lower ho3 (bwZ bw_14)); replace HB := Az.mk (bwT bw_14 hb); clear hb ho3))
 go_loopg [3, 4] k (fun kq v3 v4 w' => ∃ (x3_1 : List (S25)) (x4_1 : Int), v4 = .int .i64 x4_1 ∧ Az (spec_l14All.l0 kq a0 x3_1 x4_1 = some r) ∧ Az (kq ≤ k) ∧ Az (Kd.R k25 25 w' w.heap.size (fun _ => True) v3 x3_1) ∧ Az (Below w.heap.size w w'))
 case atStart => exact ⟨(y358), (0), rq2, H', ⟨Nat.le_refl _⟩, ⟨by (with_reducible repeat (first | apply Kd.R_alloc | apply Kd.R_drewN | apply Kd.R_drew)); exact HO360.out⟩, ⟨bw_14⟩⟩
 clear H'
 obtain ⟨x3_1, x4_1, rfl, HA, HK1, HO_3, HB⟩ := hrel
 cases gk with
 | zero => exact absurd HA.out (by simp [spec_l14All.l0])
 | succ k1 =>
  have H := HA.out
  clear HA
  simp only [spec_l14All.l0] at H
  by_cases c4 : x4_1 ≤ a0
  rotate_left
  ·rw [if_neg c4] at H
   have c4b0 : decide (x4_1 ≤ a0) = false := decide_eq_false c4
   clear c4
   obtain rfl := Option.some.inj H
   go_wp2
   go_ret
   exact ⟨_, rq1, by (with_reducible repeat (first | apply Kd.R_alloc | apply Kd.R_drewN | apply Kd.R_drew)); exact HO_3.out, bw_14⟩
  rw [if_pos c4] at H
  have c4b0 : decide (x4_1 ≤ a0) = true := decide_eq_true c4
  clear c4
  have H' := Az.mk H
  clear H
  go_wp2
  go_loopg [3, 5] k1 (fun kq v3 v5 w' => ∃ (x3_2 : List (S25)) (x5_2 : Int), v5 = .int .i64 x5_2 ∧ Az (spec_l14All.l1 kq a0 x3_2 x4_1 x5_2 = some r) ∧ Az (kq ≤ k1) ∧ Az (Kd.R k25 25 w' w.heap.size (fun _ => True) v3 x3_2) ∧ Az (Below w.heap.size w w'))
  case atStart => exact ⟨(x3_1), (wrap64 (-a0)), rq2, H', ⟨Nat.le_refl _⟩, ⟨by (with_reducible repeat (first | apply Kd.R_alloc | apply Kd.R_drewN | apply Kd.R_drew)); exact HO_3.out⟩, ⟨bw_14⟩⟩
  clear H'
  try clear c4
  try clear c4b0
  obtain ⟨x3_2, x5_2, rfl, HA, HK2, HO_3, HB⟩ := hrel
  cases gk with
  | zero => exact absurd HA.out (by simp [spec_l14All.l1])
  | succ k2 =>
   have H := HA.out
   clear HA
   simp only [spec_l14All.l1] at H
   by_cases c5 : x5_2 ≤ a0
   rotate_left
   ·rw [if_neg c5] at H
    have c5b0 : decide (x5_2 ≤ a0) = false := decide_eq_false c5
    clear c5
    have H' := Az.mk H
    clear H
    go_wp2
    go_roundg k2
    case measure => have := HK1.out; have := HK2.out; omega
    case rel => exact ⟨(x3_2), (wrap64 (x4_1 + 1)), rq2, H', ⟨by have := HK1.out; have := HK2.out; omega⟩, ⟨by (with_reducible repeat (first | apply Kd.R_alloc | apply Kd.R_drewN | apply Kd.R_drew)); exact HO_3.out⟩, ⟨bw_14⟩⟩
   rw [if_pos c5] at H
   have c5b0 : decide (x5_2 ≤ a0) = true := decide_eq_true c5
   clear c5
   replace H := bez H
   obtain ⟨t362, A6, H⟩ := H
   try dsimp only at H
   by_cases c7 : t362 = true
   rotate_left
   ·replace c7 := Bool.eq_false_iff.mpr c7
    subst c7
    rw [if_neg (show ¬ (false = true) by decide)] at H
    have H' := Az.mk H
    clear H
    go_wp2_with (first | ((with_reducible refine gtD (N := 6) rfl ?_); refine bx (N := 6) (cs := #[.int .i64 0, .int .i64 0]) (t := 25) ?_; intro gb361 hg w14 hbox hb; replace HO_3 := Az.mk (Kd.R_below (Kd.R_elderB (by (with_reducible repeat (first | apply Kd.R_alloc | apply Kd.R_drewN | apply Kd.R_drew)); exact HO_3.out) gb361 (Nat.le_of_eq hg.symm)) hb); have BK361 := Az.mk (hbox); have GW361 := gwz hg bw_14; have GE361 := gwz hg bw_14; replace HB := Az.mk (bwT bw_14 hb); clear hb hbox hg; obtain ⟨hcz15_0, hcz15_1, hfz15_0, hfz15_1⟩ := bq2 BK361) | ((with_reducible refine gtC (f := 22) rfl ?_); refine clz Try.func22 (some 24) #[.agg #[.int .i64 x5_2, .int .i64 x4_1]] ?_; (with_reducible refine (spec_IsSlope.calls k2 x5_2 x4_1 false _ A6.out).mono ?_); rintro e w16 ⟨rfl, hb⟩; refine ⟨_, rfl, ?_⟩; replace HO_3 := Az.mk (Kd.R_below (by (with_reducible repeat (first | apply Kd.R_alloc | apply Kd.R_drewN | apply Kd.R_drew)); exact (Kd.R_mono (Kd.R_far (p := ⟨gb361, 1, none⟩) (Kd.R_far (p := ⟨gb361, 0, none⟩) (Kd.R_mono HO_3.out (fun k_ hk => (⟨hk, hk.2⟩ : _ ∧ k_ ≠ gb361))) (fun _ hk => hk.2) (.int .i64 x5_2)) (fun _ hk => hk.2) (.int .i64 x4_1)) (fun _ h_ => h_.1))) hb); replace BK361 := Az.mk (bkB (g := gb361) (o := .cells #[.int .i64 x5_2, .int .i64 x4_1] 25 (0, 0)) bkv hb); replace HB := Az.mk (bwT bw_14 hb); (try clear hb); (try clear hk)))
    go_roundg k2
    case measure => have := HK1.out; have := HK2.out; omega
    case rel => exact ⟨(x3_2), (wrap64 (x5_2 + 1)), rq2, H', ⟨by have := HK1.out; have := HK2.out; omega⟩, ⟨by (with_reducible repeat (first | apply Kd.R_alloc | apply Kd.R_drewN | apply Kd.R_drew)); exact Kd.R_mono HO_3.out (fun _ hk => trivial)⟩, ⟨bw_14⟩⟩
   subst c7
   rw [if_pos rfl] at H
   by_cases c8 : x3_2.length < 8796093022208
   rotate_left
   ·rw [if_neg c8] at H
    exact absurd H (by simp)
   rw [if_pos c8] at H
   have LMc8 := Az.mk c8
   clear c8
   obtain ⟨y363, hy363⟩ : ∃ y_ : List (S25), y_ = (x3_2 ++ [(⟨x5_2, x4_1⟩ : S25)]) := ⟨_, rfl⟩
   replace H : (spec_l14All.l1 k2 a0 y363 x4_1 (wrap64 (x5_2 + 1))) = some r := by first | (rw [hy363]; with_reducible exact H) | (have H2_ := (Option.bind_some _ _).symm.trans H; rw [hy363]; with_reducible exact H2_) | (have H2_ := (Option.bind_some _ _).symm.trans H; with_reducible exact H2_) | with_reducible exact H | (rw [hy363]; exact H) | exact H
   have Ny363 := Az.mk hy363
   clear hy363
   have H' := Az.mk H
   clear H
   go_wp2_with (first | ((with_reducible refine gtD (N := 6) rfl ?_); refine bx (N := 6) (cs := #[.int .i64 0, .int .i64 0]) (t := 25) ?_; intro gb361 hg w9 hbox hb; replace HO_3 := Az.mk (Kd.R_below (Kd.R_elderB (by (with_reducible repeat (first | apply Kd.R_alloc | apply Kd.R_drewN | apply Kd.R_drew)); exact HO_3.out) gb361 (Nat.le_of_eq hg.symm)) hb); have BK361 := Az.mk (hbox); have GW361 := gwz hg bw_14; have GE361 := gwz hg bw_14; replace HB := Az.mk (bwT bw_14 hb); clear hb hbox hg; obtain ⟨hcz10_0, hcz10_1, hfz10_0, hfz10_1⟩ := bq2 BK361) | ((with_reducible refine gtC (f := 22) rfl ?_); refine clz Try.func22 (some 24) #[.agg #[.int .i64 x5_2, .int .i64 x4_1]] ?_; (with_reducible refine (spec_IsSlope.calls k2 x5_2 x4_1 true _ A6.out).mono ?_); rintro e w11 ⟨rfl, hb⟩; refine ⟨_, rfl, ?_⟩; replace HO_3 := Az.mk (Kd.R_below (by (with_reducible repeat (first | apply Kd.R_alloc | apply Kd.R_drewN | apply Kd.R_drew)); exact (Kd.R_mono (Kd.R_far (p := ⟨gb361, 1, none⟩) (Kd.R_far (p := ⟨gb361, 0, none⟩) (Kd.R_mono HO_3.out (fun k_ hk => (⟨hk, hk.2⟩ : _ ∧ k_ ≠ gb361))) (fun _ hk => hk.2) (.int .i64 x5_2)) (fun _ hk => hk.2) (.int .i64 x4_1)) (fun _ h_ => h_.1))) hb); replace BK361 := Az.mk (bkB (g := gb361) (o := .cells #[.int .i64 x5_2, .int .i64 x4_1] 25 (0, 0)) bkv hb); replace HB := Az.mk (bwT bw_14 hb); (try clear hb); (try clear hk); obtain ⟨hcz12_0, hcz12_1, hfz12_0, hfz12_1⟩ := bq2 BK361) | ((with_reducible refine gate_builtin (b := .append) (xs := #[.tmp 25, .tmp 27]) rfl ?_); at_builtin; refine Kd.R_append k25 (w0 := w) w.heap.size rfl (.tmp 25) (.tmp 27) 31 25 (.agg #[(.int .i64 0), (.int .i64 0)]) 16 rfl Try.underlying31 info25 rfl (by decide) (by omega) u3 x3_2 (⟨x5_2, x4_1⟩ : S25) [.int .i64 x5_2, .int .i64 x4_1] (fun k_ => k_ ≠ gb361) (fun _ => False) rfl rfl ?aP (fun _ hk => hk.elim) ?aF ?aO ?aB ?aS ?aL ?_; (case aP => exact k25_mkM _ _ _ (⟨x5_2, x4_1⟩ : S25)); (case aB => exact bw_14); (case aF => exact (fun k_ hk => Kd.freshB (g := gb361) (o := .cells #[.int .i64 x5_2, .int .i64 x4_1] 25 (0, 0)) (bk1 BK361) k_ hk)); (case aO => exact (by (with_reducible repeat (first | apply Kd.R_alloc | apply Kd.R_drewN | apply Kd.R_drew)); exact Kd.R_mono HO_3.out (fun _ hk => hk.2))); (case aS => exact (bwZ bw_14)); (case aL => have := LMc8.out; omega); intro v364 w13 ho hb hg hat; rw [← Ny363.out] at ho; have n0_ := Az.mk (blk_grown (g := gb361) (o := .cells #[.int .i64 x5_2, .int .i64 x4_1] 25 (0, 0)) (bk1 BK361) hg (Kd.R_away HO_3.out (fun _ hk => hk.2))); have n1_ := Az.mk (hb); have n2_ := Az.mk (ho); clear BK361; clear HB; clear HO_3; have BK361 := n0_; have HB := n1_; have HO365 := n2_; clear n0_ n1_ n2_; clear ho hb hg hat))
   go_roundg k2
   case measure => have := HK1.out; have := HK2.out; omega
   case rel => exact ⟨(y363), (wrap64 (x5_2 + 1)), rq2, H', ⟨by have := HK1.out; have := HK2.out; omega⟩, ⟨by (with_reducible repeat (first | apply Kd.R_alloc | apply Kd.R_drewN | apply Kd.R_drew)); exact Kd.R_mono HO365.out (fun _ hk => trivial)⟩, ⟨bw_14⟩⟩

end Go.Proofs.Ytigcjehokbgclaa.P
