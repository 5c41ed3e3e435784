-- By this session's driver (wip/tools/mk.py) of the kit's print program, over several statements at once. Not trusted: Lean checks it.
import Derived.Test.YtnoiijdffdpabaaDoorQWZip
import Derived.Test.YtnoiijdffdpabaaDoorQPx0
import Derived.Test.YtnoiijdffdpabaaDoorQPx5
namespace Go.Proofs.YtnoiijdffdpabaaDoor.P
open Go.RowKit Go.Proofs.YtnoiijdffdpabaaDoorW.PrintWords Go.Proofs.YtnoiijdffdpabaaDoorW.PrintLast Go.Proofs.YtnoiijdffdpabaaDoorW.PrintMore
attribute [local go_sem] max2_int min2_int max_two min_two max_three min_three max_four min_four   -- for this text's walks alone
set_option linter.unusedVariables false
set_option linter.unusedSimpArgs false
theorem bw_12 {n : Nat} {v v' : World} (h : Below n v v' := by repeat (first | (with_reducible first | exact HB.out | apply bwA | apply pbN | apply bwD | refine bwS ?_ GE257.out | refine bwS ?_ GE258.out | refine bwS ?_ GE259.out | refine bwS ?_ GE262.out) | exact HB.out)) : Below n v v' := h
theorem ln_12 {P : Prop} (h : P := by (try simp only [List.map_toArray, List.map_cons, List.map_nil]); first | done | rfl | (simp only [List.length_drop, List.length_take]; rfl)) : P := h
open Option renaming bind_eq_some_iff → be
theorem z12_0 {p : Prop} (h : p := by (with_reducible repeat first | apply bkN | apply bkD | apply bkA); refine bkp (cs := #[.int .i64 (wrap64 ((wrap64 (a0_0 * a1_0)) + (wrap64 (a0_1 * a1_2)))), .int .i64 (wrap64 ((wrap64 (a0_0 * a1_1)) + (wrap64 (a0_1 * a1_3)))), .int .i64 (wrap64 ((wrap64 (a0_2 * a1_0)) + (wrap64 (a0_3 * a1_2)))), .int .i64 0]) ?_ 3 _ rfl; (with_reducible repeat first | apply bkN | apply bkD | apply bkA); refine bkp (cs := #[.int .i64 (wrap64 ((wrap64 (a0_0 * a1_0)) + (wrap64 (a0_1 * a1_2)))), .int .i64 (wrap64 ((wrap64 (a0_0 * a1_1)) + (wrap64 (a0_1 * a1_3)))), .int .i64 0, .int .i64 0]) ?_ 2 _ rfl; (with_reducible repeat first | apply bkN | apply bkD | apply bkA); refine bkp (cs := #[.int .i64 (wrap64 ((wrap64 (a0_0 * a1_0)) + (wrap64 (a0_1 * a1_2)))), .int .i64 0, .int .i64 0, .int .i64 0]) ?_ 1 _ rfl; (with_reducible repeat first | apply bkN | apply bkD | apply bkA); refine bkp (cs := #[.int .i64 0, .int .i64 0, .int .i64 0, .int .i64 0]) ?_ 0 _ rfl; (with_reducible repeat first | apply bkN | apply bkD | apply bkA); exact BK262.out) : p := h

/-! ### impl_TimesMatrix: function 10 -/
def impl_TimesMatrix.j0 : Nat → Bool → Int → Int → Int → Int → Int → Int → Int → Int → Option (Int × Int × Int × Int × Bool)
 | 0, _, _, _, _, _, _, _, _, _ => none
 | k + 1, x14, x258000, x258001, x258002, x258003, x259000, x259001, x259002, x259003 => if x14 = true then (some (0, 0, 0, 0, false)) else ((impl_IsMatrix.f k (wrap64 ((wrap64 (x258000 * x259000)) + (wrap64 (x258001 * x259002)))) (wrap64 ((wrap64 (x258000 * x259001)) + (wrap64 (x258001 * x259003)))) (wrap64 ((wrap64 (x258002 * x259000)) + (wrap64 (x258003 * x259002)))) (wrap64 ((wrap64 (x258002 * x259001)) + (wrap64 (x258003 * x259003))))).bind fun t263 => (if t263 = true then (some (wrap64 ((wrap64 (x258000 * x259000)) + (wrap64 (x258001 * x259002))), wrap64 ((wrap64 (x258000 * x259001)) + (wrap64 (x258001 * x259003))), wrap64 ((wrap64 (x258002 * x259000)) + (wrap64 (x258003 * x259002))), wrap64 ((wrap64 (x258002 * x259001)) + (wrap64 (x258003 * x259003))), true)) else (some (0, 0, 0, 0, false))))
def impl_TimesMatrix.f (k : Nat) (a0_0 : Int) (a0_1 : Int) (a0_2 : Int) (a0_3 : Int) (a1_0 : Int) (a1_1 : Int) (a1_2 : Int) (a1_3 : Int) : Option (Int × Int × Int × Int × Bool) := (impl_IsMatrix.f k a0_0 a0_1 a0_2 a0_3).bind fun t260 => (if t260 = true then ((impl_IsMatrix.f k a1_0 a1_1 a1_2 a1_3).bind fun t261 => (impl_TimesMatrix.j0 k (!t261) a0_0 a0_1 a0_2 a0_3 a1_0 a1_1 a1_2 a1_3)) else (impl_TimesMatrix.j0 k true a0_0 a0_1 a0_2 a0_3 a1_0 a1_1 a1_2 a1_3))
theorem impl_TimesMatrix.mono_l : ∀ k, (∀ y0 y1 y2 y3 y4 y5 y6 y7 y8, LeO (impl_TimesMatrix.j0 k y0 y1 y2 y3 y4 y5 y6 y7 y8) (impl_TimesMatrix.j0 (k + 1) y0 y1 y2 y3 y4 y5 y6 y7 y8))
 | 0 => fun _ _ _ _ _ _ _ _ _ r h => by simp [impl_TimesMatrix.j0] at h
 | k + 1 => by
  have ih0 := impl_TimesMatrix.mono_l k
  have i0 := fun z0 z1 z2 z3 z4 z5 z6 z7 z8 => MoO.mk (ih0 z0 z1 z2 z3 z4 z5 z6 z7 z8)
  ·intro y0 y1 y2 y3 y4 y5 y6 y7 y8
   unfold impl_TimesMatrix.j0
   exact mo_
theorem impl_TimesMatrix.mono : ∀ a0 a1 a2 a3 a4 a5 a6 a7 k, LeO (impl_TimesMatrix.f k a0 a1 a2 a3 a4 a5 a6 a7) (impl_TimesMatrix.f (k + 1) a0 a1 a2 a3 a4 a5 a6 a7) := by
 intro a0 a1 a2 a3 a4 a5 a6 a7 k
 have ih0 := impl_TimesMatrix.mono_l k
 have i0 := fun z0 z1 z2 z3 z4 z5 z6 z7 z8 => MoO.mk (ih0 z0 z1 z2 z3 z4 z5 z6 z7 z8)
 unfold impl_TimesMatrix.f
 exact mo_
instance impl_TimesMatrix.mi {a0 a1 a2 a3 a4 a5 a6 a7 k} : MoO (impl_TimesMatrix.f k a0 a1 a2 a3 a4 a5 a6 a7) (impl_TimesMatrix.f (k + 1) a0 a1 a2 a3 a4 a5 a6 a7) := ⟨impl_TimesMatrix.mono _ _ _ _ _ _ _ _ _⟩
set_option maxHeartbeats 8000000 in
set_option maxRecDepth 100000 in
theorem impl_TimesMatrix.calls (k : Nat) (a0_0 : Int) (a0_1 : Int) (a0_2 : Int) (a0_3 : Int) (a1_0 : Int) (a1_1 : Int) (a1_2 : Int) (a1_3 : Int) (r1 : Int) (r2 : Int) (r3 : Int) (r4 : Int) (r5 : Bool) (w : World) (h : impl_TimesMatrix.f k a0_0 a0_1 a0_2 a0_3 a1_0 a1_1 a1_2 a1_3 = some (r1, r2, r3, r4, r5)) :
  Calls Tryd.prog 10 #[.agg #[.int .i64 a0_0, .int .i64 a0_1, .int .i64 a0_2, .int .i64 a0_3], .agg #[.int .i64 a1_0, .int .i64 a1_1, .int .i64 a1_2, .int .i64 a1_3]] w fun e w' => e = .returned (.tuple #[.agg #[.int .i64 r1, .int .i64 r2, .int .i64 r3, .int .i64 r4], .bool r5]) ∧ Below w.heap.size w w' := by
 have hu25 := Tryd.underlying25
 have HB := Az.mk (Below.refl w.heap.size w)
 have H : ((impl_IsMatrix.f k a0_0 a0_1 a0_2 a0_3).bind fun t260 => (if t260 = true then ((impl_IsMatrix.f k a1_0 a1_1 a1_2 a1_3).bind fun t261 => (impl_TimesMatrix.j0 k (!t261) a0_0 a0_1 a0_2 a0_3 a1_0 a1_1 a1_2 a1_3)) else (impl_TimesMatrix.j0 k true a0_0 a0_1 a0_2 a0_3 a1_0 a1_1 a1_2 a1_3))) = some (r1, r2, r3, r4, r5) := h
 clear h
 have HC3 := Az.mk H
 clear H
 go_enter Tryd.func10, Tryd.ntmps10
 go_upto_region 1 with (first | ((with_reducible refine gtD (N := 2) rfl ?_); refine bx (N := 2) (cs := #[.int .i64 a0_0, .int .i64 a0_1, .int .i64 a0_2, .int .i64 a0_3]) (t := 25) ?_; intro gb257 hg w4 hbox hb; have BK257 := Az.mk (hbox); have GW257 := gwz hg bw_12; have GE257 := gwz hg bw_12; replace HB := Az.mk (bwT bw_12 hb); clear hb hbox hg) | ((with_reducible refine gtD (N := 3) rfl ?_); refine bx (N := 3) (cs := #[.int .i64 a1_0, .int .i64 a1_1, .int .i64 a1_2, .int .i64 a1_3]) (t := 25) ?_; intro gb258 hg w5 hbox hb; have BK258 := Az.mk (hbox); have GW258 := gwz hg bw_12; have GE258 := gwz hg bw_12; replace HB := Az.mk (bwT bw_12 hb); have NB257_258 := nlt BK257 hg; have NB258_257 := ngt BK257 hg; replace BK257 := bkz BK257 hb; clear hb hbox hg) | ((with_reducible refine gtD (N := 4) rfl ?_); refine bx (N := 4) (cs := #[.int .i64 0, .int .i64 0, .int .i64 0, .int .i64 0]) (t := 25) ?_; intro gb259 hg w6 hbox hb; have BK259 := Az.mk (hbox); have GW259 := gwz hg bw_12; have GE259 := gwz hg bw_12; replace HB := Az.mk (bwT bw_12 hb); have NB257_259 := nlt BK257 hg; have NB259_257 := ngt BK257 hg; replace BK257 := bkz BK257 hb; have NB258_259 := nlt BK258 hg; have NB259_258 := ngt BK258 hg; replace BK258 := bkz BK258 hb; clear hb hbox hg))
 (try simp only [Act.put, List.setIfInBounds_toArray, List.set_cons_zero, List.set_cons_succ])
 go_cut [14] (fun v14 wc => ∃ (kq : Nat) (x14_2 : Bool), v14 = .bool x14_2 ∧ Az (impl_TimesMatrix.j0 kq x14_2 a0_0 a0_1 a0_2 a0_3 a1_0 a1_1 a1_2 a1_3 = some (r1, r2, r3, r4, r5)) ∧ Az (kq ≤ k) ∧ Az (wc.heap[gb257]? = some (.cells #[.int .i64 a0_0, .int .i64 a0_1, .int .i64 a0_2, .int .i64 a0_3] 25 (0, 0))) ∧ Az (wc.heap[gb258]? = some (.cells #[.int .i64 a1_0, .int .i64 a1_1, .int .i64 a1_2, .int .i64 a1_3] 25 (0, 0))) ∧ Az (wc.heap[gb259]? = some (.cells #[.int .i64 0, .int .i64 0, .int .i64 0, .int .i64 0] 25 (0, 0))) ∧ Az (Below w.heap.size w wc))
 case first =>
  have H := HC3.out
  clear HC3
  replace H := bez H
  obtain ⟨t260, A7, H⟩ := H
  try dsimp only at H
  by_cases c8 : t260 = true
  rotate_left
  ·replace c8 := Bool.eq_false_iff.mpr c8
   subst c8
   rw [if_neg (show ¬ (false = true) by decide)] at H
   have H' := Az.mk H
   clear H
   have hnb17 := NB257_258.out
   have hnc17 := NB258_257.out
   have hnb18 := NB257_259.out
   have hnc18 := NB259_257.out
   have hcz19_0 := bkc0 BK257
   have hcz19_1 := bkc1 BK257
   have hcz19_2 := bkc2 BK257
   have hcz19_3 := bkc3 BK257
   have hfz19_0 := bkF BK257.out 0
   have hfz19_1 := bkF BK257.out 1
   have hfz19_2 := bkF BK257.out 2
   have hfz19_3 := bkF BK257.out 3
   go_wp2_with (first | ((with_reducible refine gtC (f := 21) rfl ?_); refine clz Tryd.func21 (some 8) #[.agg #[.int .i64 a0_0, .int .i64 a0_1, .int .i64 a0_2, .int .i64 a0_3]] ?_; (with_reducible refine (impl_IsMatrix.calls k a0_0 a0_1 a0_2 a0_3 false _ A7.out).mono ?_); rintro e w20 ⟨rfl, hb⟩; refine ⟨_, rfl, ?_⟩; replace BK257 := bkz BK257 hb; replace BK258 := bkz BK258 hb; replace BK259 := bkz BK259 hb; replace HB := Az.mk (bwT bw_12 hb); (try clear hb)))
   go_meet
   case rel => exact ⟨_, (true), rq2, H', ⟨by first | omega | exact Nat.le_refl _⟩, ⟨bk1 BK257⟩, ⟨bk1 BK258⟩, ⟨bk1 BK259⟩, ⟨bw_12⟩⟩
  subst c8
  rw [if_pos rfl] at H
  replace H := bez H
  obtain ⟨t261, A9, H⟩ := H
  try dsimp only at H
  have H' := Az.mk H
  clear H
  have hnb10 := NB257_258.out
  have hnc10 := NB258_257.out
  have hnb11 := NB257_259.out
  have hnc11 := NB259_257.out
  have hcz12_0 := bkc0 BK257
  have hcz12_1 := bkc1 BK257
  have hcz12_2 := bkc2 BK257
  have hcz12_3 := bkc3 BK257
  have hfz12_0 := bkF BK257.out 0
  have hfz12_1 := bkF BK257.out 1
  have hfz12_2 := bkF BK257.out 2
  have hfz12_3 := bkF BK257.out 3
  go_wp2_with (first | ((with_reducible refine gtC (f := 21) rfl ?_); refine clz Tryd.func21 (some 8) #[.agg #[.int .i64 a0_0, .int .i64 a0_1, .int .i64 a0_2, .int .i64 a0_3]] ?_; (with_reducible refine (impl_IsMatrix.calls k a0_0 a0_1 a0_2 a0_3 true _ A7.out).mono ?_); rintro e w13 ⟨rfl, hb⟩; refine ⟨_, rfl, ?_⟩; replace BK257 := bkz BK257 hb; replace BK258 := bkz BK258 hb; replace BK259 := bkz BK259 hb; replace HB := Az.mk (bwT bw_12 hb); (try clear hb); have hnb14 := NB258_259.out; have hnc14 := NB259_258.out; obtain ⟨hcz15_0, hcz15_1, hcz15_2, hcz15_3, hfz15_0, hfz15_1, hfz15_2, hfz15_3⟩ := bq4 BK258) | (go_at_call 21; (with_reducible refine (impl_IsMatrix.calls k a1_0 a1_1 a1_2 a1_3 t261 _ A9.out).mono ?_); rintro e w16 ⟨rfl, hb⟩; replace BK257 := bkz BK257 hb; replace BK258 := bkz BK258 hb; replace BK259 := bkz BK259 hb; replace HB := Az.mk (bwT bw_12 hb); (try clear hb)))
  go_meet
  case rel => exact ⟨_, (!t261), rq2, H', ⟨by first | omega | exact Nat.le_refl _⟩, ⟨bk1 BK257⟩, ⟨bk1 BK258⟩, ⟨bk1 BK259⟩, ⟨bw_12⟩⟩
 clear HC3
 try clear c8
 try clear hcz12_0
 try clear hcz12_1
 try clear hcz12_2
 try clear hcz12_3
 try clear hcz15_0
 try clear hcz15_1
 try clear hcz15_2
 try clear hcz15_3
 try clear hcz19_0
 try clear hcz19_1
 try clear hcz19_2
 try clear hcz19_3
 try clear hfz12_0
 try clear hfz12_1
 try clear hfz12_2
 try clear hfz12_3
 try clear hfz15_0
 try clear hfz15_1
 try clear hfz15_2
 try clear hfz15_3
 try clear hfz19_0
 try clear hfz19_1
 try clear hfz19_2
 try clear hfz19_3
 obtain ⟨kq, x14_2, rfl, HA, HJ2, BK257, BK258, BK259, HB⟩ := hcut
 cases kq with
 | zero => exact absurd HA.out (by simp [impl_TimesMatrix.j0])
 | succ kj2 =>
  have H := HA.out
  clear HA
  simp only [impl_TimesMatrix.j0] at H
  by_cases c21 : x14_2 = true
  ·subst c21
   rw [if_pos rfl] at H
   simp only [Option.some.injEq, Prod.mk.injEq] at H
   obtain ⟨rfl, rfl, rfl, rfl, rfl⟩ := H
   have hnb22 := NB259_257.out
   have hnc22 := NB257_259.out
   have hnb23 := NB259_258.out
   have hnc23 := NB258_259.out
   have hcz24_0 := bkc0 BK259
   have hcz24_1 := bkc1 BK259
   have hcz24_2 := bkc2 BK259
   have hcz24_3 := bkc3 BK259
   have hfz24_0 := bkF BK259.out 0
   have hfz24_1 := bkF BK259.out 1
   have hfz24_2 := bkF BK259.out 2
   have hfz24_3 := bkF BK259.out 3
   go_wp2
   refine bodyPost_ret (results_ct rfl _ _ gb259 25 #[.int .i64 0, .int .i64 0, .int .i64 0, .int .i64 0] (0, 0) _ rfl bkv Tryd.underlying25 rfl (by kernel_rfl)) rfl ?_
   exact ⟨rq1, bw_12⟩
  replace c21 := Bool.eq_false_iff.mpr c21
  subst c21
  rw [if_neg (show ¬ (false = true) by decide)] at H
  replace H := bez H
  obtain ⟨t263, A25, H⟩ := H
  try dsimp only at H
  by_cases c26 : t263 = true
  ·subst c26
   rw [if_pos rfl] at H
   simp only [Option.some.injEq, Prod.mk.injEq] at H
   obtain ⟨rfl, rfl, rfl, rfl, rfl⟩ := H
   have hnb27 := NB257_258.out
   have hnc27 := NB258_257.out
   have hnb28 := NB257_259.out
   have hnc28 := NB259_257.out
   have hcz29_0 := bkc0 BK257
   have hcz29_1 := bkc1 BK257
   have hcz29_2 := bkc2 BK257
   have hcz29_3 := bkc3 BK257
   have hfz29_0 := bkF BK257.out 0
   have hfz29_1 := bkF BK257.out 1
   have hfz29_2 := bkF BK257.out 2
   have hfz29_3 := bkF BK257.out 3
   have hnb30 := NB258_259.out
   have hnc30 := NB259_258.out
   have hcz31_0 := bkc0 BK258
   have hcz31_1 := bkc1 BK258
   have hcz31_2 := bkc2 BK258
   have hcz31_3 := bkc3 BK258
   have hfz31_0 := bkF BK258.out 0
   have hfz31_1 := bkF BK258.out 1
   have hfz31_2 := bkF BK258.out 2
   have hfz31_3 := bkF BK258.out 3
   go_wp2_with (first | ((with_reducible refine gtD (N := 6) rfl ?_); refine bx (N := 6) (cs := #[.int .i64 0, .int .i64 0, .int .i64 0, .int .i64 0]) (t := 25) ?_; intro gb262 hg w32 hbox hb; have BK262 := Az.mk (hbox); have GW262 := gwz hg bw_12; have GE262 := gwz hg bw_12; replace HB := Az.mk (bwT bw_12 hb); have NB257_262 := nlt BK257 hg; have NB262_257 := ngt BK257 hg; replace BK257 := bkz BK257 hb; have NB258_262 := nlt BK258 hg; have NB262_258 := ngt BK258 hg; replace BK258 := bkz BK258 hb; have NB259_262 := nlt BK259 hg; have NB262_259 := ngt BK259 hg; replace BK259 := bkz BK259 hb; clear hb hbox hg; have hnb33 := NB262_257.out; have hnc33 := NB257_262.out; have hnb34 := NB262_258.out; have hnc34 := NB258_262.out; have hnb35 := NB262_259.out; have hnc35 := NB259_262.out; obtain ⟨hcz36_0, hcz36_1, hcz36_2, hcz36_3, hfz36_0, hfz36_1, hfz36_2, hfz36_3⟩ := bq4 BK262) | ((with_reducible refine gtC (f := 21) rfl ?_); refine clz Tryd.func21 (some 62) #[.agg #[.int .i64 (wrap64 ((wrap64 (a0_0 * a1_0)) + (wrap64 (a0_1 * a1_2)))), .int .i64 (wrap64 ((wrap64 (a0_0 * a1_1)) + (wrap64 (a0_1 * a1_3)))), .int .i64 (wrap64 ((wrap64 (a0_2 * a1_0)) + (wrap64 (a0_3 * a1_2)))), .int .i64 (wrap64 ((wrap64 (a0_2 * a1_1)) + (wrap64 (a0_3 * a1_3))))]] ?_; (with_reducible refine (impl_IsMatrix.calls kj2 (wrap64 ((wrap64 (a0_0 * a1_0)) + (wrap64 (a0_1 * a1_2)))) (wrap64 ((wrap64 (a0_0 * a1_1)) + (wrap64 (a0_1 * a1_3)))) (wrap64 ((wrap64 (a0_2 * a1_0)) + (wrap64 (a0_3 * a1_2)))) (wrap64 ((wrap64 (a0_2 * a1_1)) + (wrap64 (a0_3 * a1_3)))) true _ A25.out).mono ?_); rintro e w37 ⟨rfl, hb⟩; refine ⟨_, rfl, ?_⟩; replace BK257 := Az.mk (bkB (g := gb257) (o := .cells #[.int .i64 a0_0, .int .i64 a0_1, .int .i64 a0_2, .int .i64 a0_3] 25 (0, 0)) bkv hb); replace BK258 := Az.mk (bkB (g := gb258) (o := .cells #[.int .i64 a1_0, .int .i64 a1_1, .int .i64 a1_2, .int .i64 a1_3] 25 (0, 0)) bkv hb); replace BK259 := Az.mk (bkB (g := gb259) (o := .cells #[.int .i64 0, .int .i64 0, .int .i64 0, .int .i64 0] 25 (0, 0)) bkv hb); replace BK262 := Az.mk (bkB (g := gb262) (o := .cells #[.int .i64 (wrap64 ((wrap64 (a0_0 * a1_0)) + (wrap64 (a0_1 * a1_2)))), .int .i64 (wrap64 ((wrap64 (a0_0 * a1_1)) + (wrap64 (a0_1 * a1_3)))), .int .i64 (wrap64 ((wrap64 (a0_2 * a1_0)) + (wrap64 (a0_3 * a1_2)))), .int .i64 (wrap64 ((wrap64 (a0_2 * a1_1)) + (wrap64 (a0_3 * a1_3))))] 25 (0, 0)) z12_0 hb); replace HB := Az.mk (bwT bw_12 hb); (try clear hb); obtain ⟨hcz38_0, hcz38_1, hcz38_2, hcz38_3, hfz38_0, hfz38_1, hfz38_2, hfz38_3⟩ := bq4 BK262; obtain ⟨hcz39_0, hcz39_1, hcz39_2, hcz39_3, hfz39_0, hfz39_1, hfz39_2, hfz39_3⟩ := bq4 BK259))
   refine bodyPost_ret (results_ct rfl _ _ gb259 25 #[.int .i64 (wrap64 ((wrap64 (a0_0 * a1_0)) + (wrap64 (a0_1 * a1_2)))), .int .i64 (wrap64 ((wrap64 (a0_0 * a1_1)) + (wrap64 (a0_1 * a1_3)))), .int .i64 (wrap64 ((wrap64 (a0_2 * a1_0)) + (wrap64 (a0_3 * a1_2)))), .int .i64 (wrap64 ((wrap64 (a0_2 * a1_1)) + (wrap64 (a0_3 * a1_3))))] (0, 0) _ rfl (by (with_reducible repeat first | apply bkN | apply bkD | apply bkA); refine bkp (cs := #[.int .i64 (wrap64 ((wrap64 (a0_0 * a1_0)) + (wrap64 (a0_1 * a1_2)))), .int .i64 (wrap64 ((wrap64 (a0_0 * a1_1)) + (wrap64 (a0_1 * a1_3)))), .int .i64 (wrap64 ((wrap64 (a0_2 * a1_0)) + (wrap64 (a0_3 * a1_2)))), .int .i64 0]) ?_ 3 _ rfl; (with_reducible repeat first | apply bkN | apply bkD | apply bkA); refine bkp (cs := #[.int .i64 (wrap64 ((wrap64 (a0_0 * a1_0)) + (wrap64 (a0_1 * a1_2)))), .int .i64 (wrap64 ((wrap64 (a0_0 * a1_1)) + (wrap64 (a0_1 * a1_3)))), .int .i64 0, .int .i64 0]) ?_ 2 _ rfl; (with_reducible repeat first | apply bkN | apply bkD | apply bkA); refine bkp (cs := #[.int .i64 (wrap64 ((wrap64 (a0_0 * a1_0)) + (wrap64 (a0_1 * a1_2)))), .int .i64 0, .int .i64 0, .int .i64 0]) ?_ 1 _ rfl; (with_reducible repeat first | apply bkN | apply bkD | apply bkA); refine bkp (cs := #[.int .i64 0, .int .i64 0, .int .i64 0, .int .i64 0]) ?_ 0 _ rfl; (with_reducible repeat first | apply bkN | apply bkD | apply bkA); exact BK259.out) Tryd.underlying25 rfl (by kernel_rfl)) rfl ?_
   exact ⟨rq1, bw_12⟩
  replace c26 := Bool.eq_false_iff.mpr c26
  subst c26
  rw [if_neg (show ¬ (false = true) by decide)] at H
  simp only [Option.some.injEq, Prod.mk.injEq] at H
  obtain ⟨rfl, rfl, rfl, rfl, rfl⟩ := H
  have hnb40 := NB257_258.out
  have hnc40 := NB258_257.out
  have hnb41 := NB257_259.out
  have hnc41 := NB259_257.out
  have hcz42_0 := bkc0 BK257
  have hcz42_1 := bkc1 BK257
  have hcz42_2 := bkc2 BK257
  have hcz42_3 := bkc3 BK257
  have hfz42_0 := bkF BK257.out 0
  have hfz42_1 := bkF BK257.out 1
  have hfz42_2 := bkF BK257.out 2
  have hfz42_3 := bkF BK257.out 3
  have hnb43 := NB258_259.out
  have hnc43 := NB259_258.out
  have hcz44_0 := bkc0 BK258
  have hcz44_1 := bkc1 BK258
  have hcz44_2 := bkc2 BK258
  have hcz44_3 := bkc3 BK258
  have hfz44_0 := bkF BK258.out 0
  have hfz44_1 := bkF BK258.out 1
  have hfz44_2 := bkF BK258.out 2
  have hfz44_3 := bkF BK258.out 3
  go_wp2_with (first | ((with_reducible refine gtD (N := 6) rfl ?_); refine bx (N := 6) (cs := #[.int .i64 0, .int .i64 0, .int .i64 0, .int .i64 0]) (t := 25) ?_; intro gb262 hg w45 hbox hb; have BK262 := Az.mk (hbox); have GW262 := gwz hg bw_12; have GE262 := gwz hg bw_12; replace HB := Az.mk (bwT bw_12 hb); have NB257_262 := nlt BK257 hg; have NB262_257 := ngt BK257 hg; replace BK257 := bkz BK257 hb; have NB258_262 := nlt BK258 hg; have NB262_258 := ngt BK258 hg; replace BK258 := bkz BK258 hb; have NB259_262 := nlt BK259 hg; have NB262_259 := ngt BK259 hg; replace BK259 := bkz BK259 hb; clear hb hbox hg; have hnb46 := NB262_257.out; have hnc46 := NB257_262.out; have hnb47 := NB262_258.out; have hnc47 := NB258_262.out; have hnb48 := NB262_259.out; have hnc48 := NB259_262.out; obtain ⟨hcz49_0, hcz49_1, hcz49_2, hcz49_3, hfz49_0, hfz49_1, hfz49_2, hfz49_3⟩ := bq4 BK262) | ((with_reducible refine gtC (f := 21) rfl ?_); refine clz Tryd.func21 (some 62) #[.agg #[.int .i64 (wrap64 ((wrap64 (a0_0 * a1_0)) + (wrap64 (a0_1 * a1_2)))), .int .i64 (wrap64 ((wrap64 (a0_0 * a1_1)) + (wrap64 (a0_1 * a1_3)))), .int .i64 (wrap64 ((wrap64 (a0_2 * a1_0)) + (wrap64 (a0_3 * a1_2)))), .int .i64 (wrap64 ((wrap64 (a0_2 * a1_1)) + (wrap64 (a0_3 * a1_3))))]] ?_; (with_reducible refine (impl_IsMatrix.calls kj2 (wrap64 ((wrap64 (a0_0 * a1_0)) + (wrap64 (a0_1 * a1_2)))) (wrap64 ((wrap64 (a0_0 * a1_1)) + (wrap64 (a0_1 * a1_3)))) (wrap64 ((wrap64 (a0_2 * a1_0)) + (wrap64 (a0_3 * a1_2)))) (wrap64 ((wrap64 (a0_2 * a1_1)) + (wrap64 (a0_3 * a1_3)))) false _ A25.out).mono ?_); rintro e w50 ⟨rfl, hb⟩; refine ⟨_, rfl, ?_⟩; replace BK257 := Az.mk (bkB (g := gb257) (o := .cells #[.int .i64 a0_0, .int .i64 a0_1, .int .i64 a0_2, .int .i64 a0_3] 25 (0, 0)) bkv hb); replace BK258 := Az.mk (bkB (g := gb258) (o := .cells #[.int .i64 a1_0, .int .i64 a1_1, .int .i64 a1_2, .int .i64 a1_3] 25 (0, 0)) bkv hb); replace BK259 := Az.mk (bkB (g := gb259) (o := .cells #[.int .i64 0, .int .i64 0, .int .i64 0, .int .i64 0] 25 (0, 0)) bkv hb); replace BK262 := Az.mk (bkB (g := gb262) (o := .cells #[.int .i64 (wrap64 ((wrap64 (a0_0 * a1_0)) + (wrap64 (a0_1 * a1_2)))), .int .i64 (wrap64 ((wrap64 (a0_0 * a1_1)) + (wrap64 (a0_1 * a1_3)))), .int .i64 (wrap64 ((wrap64 (a0_2 * a1_0)) + (wrap64 (a0_3 * a1_2)))), .int .i64 (wrap64 ((wrap64 (a0_2 * a1_1)) + (wrap64 (a0_3 * a1_3))))] 25 (0, 0)) z12_0 hb); replace HB := Az.mk (bwT bw_12 hb); (try clear hb); obtain ⟨hcz51_0, hcz51_1, hcz51_2, hcz51_3, hfz51_0, hfz51_1, hfz51_2, hfz51_3⟩ := bq4 BK259))
  refine bodyPost_ret (results_ct rfl _ _ gb259 25 #[.int .i64 0, .int .i64 0, .int .i64 0, .int .i64 0] (0, 0) _ rfl bkv Tryd.underlying25 rfl (by kernel_rfl)) rfl ?_
  exact ⟨rq1, bw_12⟩

/-! ### spec_l1Max: function 64 -/
def spec_l1Max.f (a0 : Int) (a1 : Int) : Option (Int) := if a0 > a1 then (some a0) else (some a1)
set_option maxHeartbeats 8000000 in
set_option maxRecDepth 100000 in
theorem spec_l1Max.calls (a0 : Int) (a1 : Int) (r : Int) (w : World) (h : spec_l1Max.f a0 a1 = some r) :
  Calls Tryd.prog 64 #[.int .i64 a0, .int .i64 a1] w fun e w' => e = .returned (.int .i64 r) ∧ Drawn0 w w' := by
 have H : (if a0 > a1 then (some a0) else (some a1)) = some r := h
 clear h
 by_cases c3 : a0 > a1
 ·rw [if_pos c3] at H
  have c3b0 : decide (a1 < a0) = true := decide_eq_true c3
  clear c3
  obtain rfl := Option.some.inj H
  go_enter Tryd.func64, Tryd.ntmps64
  go_wp2
  go_ret
  exact ⟨by first | rfl | (simp; done) | (simp [*]; done), by repeat (first | exact Drawn0.refl _ | apply Drawn0.step)⟩
 rw [if_neg c3] at H
 have c3b0 : decide (a1 < a0) = false := decide_eq_false c3
 clear c3
 obtain rfl := Option.some.inj H
 go_enter Tryd.func64, Tryd.ntmps64
 go_wp2
 go_ret
 exact ⟨by first | rfl | (simp; done) | (simp [*]; done), by repeat (first | exact Drawn0.refl _ | apply Drawn0.step)⟩

/-! ### spec_l3Abs: function 51 -/
def spec_l3Abs.f (a0 : Int) : Option (Int) := (spec_l1Max.f a0 (wrap64 (-a0))).bind fun t264 => (some t264)
set_option maxHeartbeats 8000000 in
set_option maxRecDepth 100000 in
theorem spec_l3Abs.calls (a0 : Int) (r : Int) (w : World) (h : spec_l3Abs.f a0 = some r) :
  Calls Tryd.prog 51 #[.int .i64 a0] w fun e w' => e = .returned (.int .i64 r) ∧ Drawn0 w w' := by
 have H : ((spec_l1Max.f a0 (wrap64 (-a0))).bind fun t264 => (some t264)) = some r := h
 clear h
 replace H := bez H
 obtain ⟨t264, A2, H⟩ := H
 replace H : (some t264) = some r := H
 obtain rfl := Option.some.inj H
 go_enter Tryd.func51, Tryd.ntmps51
 go_wp2_with (first | ((with_reducible refine gtC (f := 64) rfl ?_); refine clz Tryd.func64 (some 6) #[.int .i64 a0, .int .i64 (wrap64 (-a0))] ?_; (with_reducible refine (spec_l1Max.calls a0 (wrap64 (-a0)) t264 _ A2.out).mono ?_); rintro e w' ⟨rfl, ⟨nd, rfl⟩⟩; refine ⟨_, rfl, ?_⟩))
 go_ret
 exact ⟨by first | rfl | (simp; done) | (simp [*]; done), by repeat (first | exact Drawn0.refl _ | apply Drawn0.step)⟩

/-! ### spec_l11Gcd: function 63 -/
def spec_l11Gcd.l0 : Nat → Int → Int → Option (Int)
 | 0, _, _ => none
 | k + 1, x0, x1 => if x1 = 0 then ((spec_l3Abs.f x0).bind fun t265 => (some t265)) else (spec_l11Gcd.l0 k x1 (Int.tmod x0 x1))
def spec_l11Gcd.f (k : Nat) (a0 : Int) (a1 : Int) : Option (Int) := spec_l11Gcd.l0 k a0 a1
theorem spec_l11Gcd.mono_l : ∀ k, (∀ y0 y1, LeO (spec_l11Gcd.l0 k y0 y1) (spec_l11Gcd.l0 (k + 1) y0 y1))
 | 0 => fun _ _ r h => by simp [spec_l11Gcd.l0] at h
 | k + 1 => by
  have ih0 := spec_l11Gcd.mono_l k
  have i0 := fun z0 z1 => MoO.mk (ih0 z0 z1)
  ·intro y0 y1
   unfold spec_l11Gcd.l0
   exact mo_
theorem spec_l11Gcd.mono : ∀ a0 a1 k, LeO (spec_l11Gcd.f k a0 a1) (spec_l11Gcd.f (k + 1) a0 a1) := by
 intro a0 a1 k
 have ih0 := spec_l11Gcd.mono_l k
 have i0 := fun z0 z1 => MoO.mk (ih0 z0 z1)
 unfold spec_l11Gcd.f
 exact mo_
instance spec_l11Gcd.mi {a0 a1 k} : MoO (spec_l11Gcd.f k a0 a1) (spec_l11Gcd.f (k + 1) a0 a1) := ⟨spec_l11Gcd.mono _ _ _⟩
set_option maxHeartbeats 8000000 in
set_option maxRecDepth 100000 in
theorem spec_l11Gcd.calls (k : Nat) (a0 : Int) (a1 : Int) (r : Int) (w : World) (h : spec_l11Gcd.f k a0 a1 = some r) :
  Calls Tryd.prog 63 #[.int .i64 a0, .int .i64 a1] w fun e w' => e = .returned (.int .i64 r) ∧ Drawn0 w w' := by
 have H : (spec_l11Gcd.l0 k a0 a1) = some r := h
 clear h
 have H' := Az.mk H
 clear H
 go_enter Tryd.func63, Tryd.ntmps63
 go_wp2
 go_loopg [0, 1] k (fun kq v0 v1 w' => ∃ (x0_1 : Int) (x1_1 : Int), v0 = .int .i64 x0_1 ∧ v1 = .int .i64 x1_1 ∧ Az (spec_l11Gcd.l0 kq x0_1 x1_1 = some r) ∧ Az (kq ≤ k) ∧ Drawn0 w w')
 case atStart => exact ⟨(a0), (a1), rq2, rq2, H', ⟨Nat.le_refl _⟩, by repeat (first | exact Drawn0.refl _ | apply Drawn0.step)⟩
 clear H'
 obtain ⟨x0_1, x1_1, rfl, rfl, HA, HK1, ⟨m1, rfl⟩⟩ := hrel
 cases gk with
 | zero => exact absurd HA.out (by simp [spec_l11Gcd.l0])
 | succ k1 =>
  have H := HA.out
  clear HA
  simp only [spec_l11Gcd.l0] at H
  by_cases c3 : x1_1 = 0
  rotate_left
  ·rw [if_neg c3] at H
   have c3b0 : (x1_1 == 0) = false := beq_eq_false_iff_ne.mpr c3
   have c3b1 : (x1_1 != 0) = true := bne_iff_ne.mpr c3
   have H' := Az.mk H
   clear H
   go_wp2
   go_roundg k1
   case measure => have := HK1.out; omega
   case rel => exact ⟨(x1_1), (Int.tmod x0_1 x1_1), rq2, rq2, H', ⟨by have := HK1.out; omega⟩, by repeat (first | exact Drawn0.refl _ | apply Drawn0.step)⟩
  rw [if_pos c3] at H
  have c3b0 : (x1_1 == 0) = true := beq_iff_eq.mpr c3
  have c3b1 : (x1_1 != 0) = false := bne_eq_false_iff_eq.mpr c3
  clear c3
  replace H := bez H
  obtain ⟨t265, A4, H⟩ := H
  replace H : (some t265) = some r := H
  obtain rfl := Option.some.inj H
  go_wp2_with (first | ((with_reducible refine gtC (f := 51) rfl ?_); refine clz Tryd.func51 (some 14) #[.int .i64 x0_1] ?_; (with_reducible refine (spec_l3Abs.calls x0_1 t265 _ A4.out).mono ?_); rintro e w' ⟨rfl, ⟨nd, rfl⟩⟩; refine ⟨_, rfl, ?_⟩))
  go_ret
  exact ⟨by first | rfl | (simp; done) | (simp [*]; done), by repeat (first | exact Drawn0.refl _ | apply Drawn0.step)⟩

end Go.Proofs.YtnoiijdffdpabaaDoor.P
