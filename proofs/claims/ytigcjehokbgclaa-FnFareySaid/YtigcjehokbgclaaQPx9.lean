-- By this session's driver (wip/tools/mk.py) of the kit's print program, over several statements at once. Not trusted: Lean checks it.
import Derived.Test.YtigcjehokbgclaaQWZip
import Derived.Test.YtigcjehokbgclaaQPx0
import Derived.Test.YtigcjehokbgclaaQPx2
import Derived.Test.YtigcjehokbgclaaQPx5
import Derived.Test.YtigcjehokbgclaaQPx6
import Derived.Test.YtigcjehokbgclaaQPx7
namespace Go.Proofs.Ytigcjehokbgclaa.P
open Go.RowKit Go.Proofs.YtigcjehokbgclaaW.PrintWords Go.Proofs.YtigcjehokbgclaaW.PrintLast Go.Proofs.YtigcjehokbgclaaW.PrintMore
attribute [local go_sem] max2_int min2_int max_two min_two max_three min_three max_four min_four   -- for this text's walks alone
set_option linter.unusedVariables false
set_option linter.unusedSimpArgs false
theorem bw_9 {n : Nat} {v v' : World} (h : Below n v v' := by repeat (first | (with_reducible first | exact HB.out | apply bwA | apply pbN | apply bwD | refine bwS ?_ GE250.out | refine bwS ?_ GE251.out | refine bwS ?_ GE253.out | refine bwS ?_ GE257.out | refine bwS ?_ GE263.out | refine bwS ?_ GE269.out | refine bwS ?_ GE270.out | refine bwS ?_ GE275.out | refine bwS ?_ GE276.out) | exact HB.out)) : Below n v v' := h
theorem ln_9 {P : Prop} (h : P := by (try simp only [List.map_toArray, List.map_cons, List.map_nil]); first | done | rfl | (simp only [List.length_drop, List.length_take]; rfl)) : P := h
open Option renaming bind_eq_some_iff → be
theorem z9_2 {p : Prop} (h : p := by repeat (first | (with_reducible first | exact HI239.out | apply IsS68.alloc | apply IsS68.drewN | apply IsS68.drew | apply IsS68.set_1 | apply IsS68.set_2 | refine IsS68.far ?_ NB239_235.out _) | exact HI239.out)) : p := h
theorem z9_1 {p : Prop} (h : p := by (with_reducible repeat (first | apply Kd.R_alloc | apply Kd.R_drewN | apply Kd.R_drew)); exact HO_5.out) : p := h
theorem z9_0 {p : Prop} (h : p := by (with_reducible repeat (first | apply Kd.R_alloc | apply Kd.R_drewN | apply Kd.R_drew)); exact (Kd.R_mono (Kd.R_far (p := ⟨gb257, 1, none⟩) (Kd.R_far (p := ⟨gb257, 0, none⟩) (Kd.R_mono HO_5.out (fun k_ hk => (⟨hk, hk.2⟩ : _ ∧ k_ ≠ gb257))) (fun _ hk => hk.2) (.int .i64 x7_2)) (fun _ hk => hk.2) (.int .i64 x6_1)) (fun _ h_ => h_.1))) : p := h

/-! ### spec_DrawNeighbourSlopes: function 7 -/
def spec_DrawNeighbourSlopes.f (k : Nat) (l0 : List Int) : Option (Int × Int × Int) := (spec_l1New.f k l0).bind fun bt236 => ((spec_l12Draw.f k bt236.1 bt236.2.1 bt236.2.2).bind fun bt240 => ((spec_l1PickInt.f bt236.1 bt240.2.2.1 bt240.2.2.2 (([1, 2, 3, 5, 20, 0, 21] : List Int))).bind fun bt247 => (some (bt240.1, bt240.2.1, bt247.1))))
theorem spec_DrawNeighbourSlopes.mono : ∀ a0 k, LeO (spec_DrawNeighbourSlopes.f k a0) (spec_DrawNeighbourSlopes.f (k + 1) a0) := by
 intro a0 k
 unfold spec_DrawNeighbourSlopes.f
 exact mo_
instance spec_DrawNeighbourSlopes.mi {a0 k} : MoO (spec_DrawNeighbourSlopes.f k a0) (spec_DrawNeighbourSlopes.f (k + 1) a0) := ⟨spec_DrawNeighbourSlopes.mono _ _⟩
set_option maxHeartbeats 8000000 in
set_option maxRecDepth 100000 in
theorem spec_DrawNeighbourSlopes.calls (k : Nat) (A0 : Option Addr) (c0 : Nat) (l0 : List Int) (r1 : Int) (r2 : Int) (r3 : Int) (w : World) (hr0 : Kd.C (Kd.int .u8) w A0 l0.length l0) (hc0 : l0.length ≤ c0) (h : spec_DrawNeighbourSlopes.f k l0 = some (r1, r2, r3)) :
  Calls Try.prog 7 #[.slice A0 l0.length c0] w fun e w' => e = .returned (.tuple #[.agg #[.int .i64 r1, .int .i64 r2], .int .i64 r3]) ∧ Below w.heap.size w w' := by
 have hu25 := Try.underlying25
 have HR0 := Az.mk hr0
 have HC0 := Az.mk hc0
 clear hr0 hc0
 have HB := Az.mk (Below.refl w.heap.size w)
 have H : ((spec_l1New.f k l0).bind fun bt236 => ((spec_l12Draw.f k bt236.1 bt236.2.1 bt236.2.2).bind fun bt240 => ((spec_l1PickInt.f bt236.1 bt240.2.2.1 bt240.2.2.2 (([1, 2, 3, 5, 20, 0, 21] : List Int))).bind fun bt247 => (some (bt240.1, bt240.2.1, bt247.1))))) = some (r1, r2, r3) := h
 clear h
 replace H := bez H
 obtain ⟨⟨t236, t237, t238⟩, A2, H⟩ := H
 try dsimp only at H
 replace H := bez H
 obtain ⟨⟨t240, t241, t242, t243⟩, A3, H⟩ := H
 try dsimp only at H
 obtain ⟨y244, hy244⟩ : ∃ y_ : List Int, y_ = (([1, 2, 3, 5, 20, 0, 21] : List Int)) := ⟨_, rfl⟩
 replace H : ((spec_l1PickInt.f t236 t242 t243 y244).bind fun bt247 => (some (t240, t241, bt247.1))) = some (r1, r2, r3) := by first | (rw [hy244]; with_reducible exact H) | (have H2_ := (Option.bind_some _ _).symm.trans H; rw [hy244]; with_reducible exact H2_) | (have H2_ := (Option.bind_some _ _).symm.trans H; with_reducible exact H2_) | with_reducible exact H | (rw [hy244]; exact H) | exact H
 have Ny244 := Az.mk hy244
 clear hy244
 replace H := bez H
 obtain ⟨⟨t247, t248, t249⟩, A4, H⟩ := H
 try dsimp only at H
 simp only [Option.some.injEq, Prod.mk.injEq] at H
 obtain ⟨rfl, rfl, rfl⟩ := H
 go_enter Try.func7, Try.ntmps7
 go_wp2_with (first | ((with_reducible refine gtD (N := 2) rfl ?_); refine bx (N := 2) (cs := #[.int .i64 0, .int .i64 0]) (t := 25) ?_; intro gb235 hg w5 hbox hb; have BK235 := Az.mk (hbox); have GW235 := gwz hg bw_9; have GE235 := gwz hg bw_9; replace HB := Az.mk (bwT bw_9 hb); clear hb hbox hg) | ((with_reducible refine gtC (f := 29) rfl ?_); refine clz Try.func29 (some 6) #[.slice A0 l0.length c0] ?_; (with_reducible refine (spec_l1New.calls k _ _ l0 t236 t237 t238 w _ ?side1 ?side2 ?side3 A2.out).mono ?_); (case side1 => exact bw_9); (case side2 => exact HR0.out); (case side3 => exact HC0.out); rintro e w6 ⟨g239, rfl, hi, hb, hb2⟩; refine ⟨_, rfl, ?_⟩; replace HB := Az.mk (hb); have HI239 := Az.mk (hi); have NB239_235 := Az.mk (IsS68.ne_blk hi (bkB (g := gb235) (o := .cells #[.int .i64 0, .int .i64 0] 25 (0, 0)) (bk1 BK235) hb2) (by decide)); have NB235_239 := Az.mk (Ne.symm (IsS68.ne_blk hi (bkB (g := gb235) (o := .cells #[.int .i64 0, .int .i64 0] 25 (0, 0)) (bk1 BK235) hb2) (by decide))); replace BK235 := Az.mk (bkB (g := gb235) (o := .cells #[.int .i64 0, .int .i64 0] 25 (0, 0)) (bk1 BK235) hb2); (try clear hb); (try clear hb2); (try clear hi)) | ((with_reducible refine gtC (f := 30) rfl ?_); refine clz Try.func30 (some 8) #[.pointer (some ⟨g239, 0, none⟩)] ?_; (with_reducible refine (spec_l12Draw.calls k g239 t236 t237 t238 t240 t241 t242 t243 w _ ?side1 ?side2 A3.out).mono ?_); (case side1 => exact z9_2); (case side2 => repeat (first | (with_reducible first | exact HB.out | apply bwA | apply pbN | apply bwD | refine bwS ?_ (IsS68.ge HI239.out) | refine bwS ?_ GE235.out) | exact HB.out)); rintro e w7 ⟨rfl, hi, hb, hk⟩; refine ⟨_, rfl, ?_⟩; replace BK235 := bkk BK235 hk NB235_239; replace HB := Az.mk (hb); replace HI239 := Az.mk (hi); (try clear hb); (try clear hk); (try clear hi)) | ((with_reducible refine gtD (N := 10) rfl ?_); refine Kd.R_lit (Kd.int .i64) _ 3 ?hg (N := 10) ?hd (xs := ([1, 2, 3, 5, 20, 0, 21] : List Int)) (inner := [.int .i64 1, .int .i64 2, .int .i64 3, .int .i64 5, .int .i64 20, .int .i64 0, .int .i64 21]) (ok := fun _ => True) (okp := fun _ => True) ?hr ?hp (fun _ hk => hk) trivial (Below.refl _ _) (Nat.le_refl _) (by simp) ?_; (case hd => rfl); (case hg => rfl); (case hr => first | (go_simp; done) | (go_simp; rfl)); (case hp => exact (Reps.one (show Kd.M (Kd.int .i64) _ _ _ 1 [.int .i64 1] from rfl) (Reps.one (show Kd.M (Kd.int .i64) _ _ _ 2 [.int .i64 2] from rfl) (Reps.one (show Kd.M (Kd.int .i64) _ _ _ 3 [.int .i64 3] from rfl) (Reps.one (show Kd.M (Kd.int .i64) _ _ _ 5 [.int .i64 5] from rfl) (Reps.one (show Kd.M (Kd.int .i64) _ _ _ 20 [.int .i64 20] from rfl) (Reps.one (show Kd.M (Kd.int .i64) _ _ _ 0 [.int .i64 0] from rfl) (Reps.one (show Kd.M (Kd.int .i64) _ _ _ 21 [.int .i64 21] from rfl) (Reps.none _ _))))))))); intro v245 w8 ho9 hb hg_ hnew_; clear hg_ hnew_; (first | rw [← Ny244.out] at ho9 | (simp only [Int.reduceToNat] at ho9; rw [← Ny244.out] at ho9)); have HO246 := Az.mk (Kd.R_lower ho9 (bwZ (by repeat (first | (with_reducible first | exact HB.out | apply bwA | apply pbN | apply bwD | refine bwS ?_ (IsS68.ge HI239.out) | refine bwS ?_ GE235.out) | exact HB.out)))); replace BK235 := bkz BK235 hb; replace HB := Az.mk (bwT (by repeat (first | (with_reducible first | exact HB.out | apply bwA | apply pbN | apply bwD | refine bwS ?_ (IsS68.ge HI239.out) | refine bwS ?_ GE235.out) | exact HB.out)) hb); replace HI239 := Az.mk (IsS68.below z9_2 hb); clear hb ho9; obtain ⟨Ao10, co10, eo10⟩ := Kd.R_slice HO246.out; subst eo10) | ((with_reducible refine gtC (f := 31) rfl ?_); refine clz Try.func31 (some 11) #[.pointer (some ⟨g239, 0, none⟩), .slice Ao10 y244.length co10] ?_; (with_reducible refine (spec_l1PickInt.calls g239 t236 t242 t243 _ _ y244 t247 t248 t249 w _ ?side1 ?side2 ?side3 ?side4 ?side5 A4.out).mono ?_); (case side1 => exact z9_2); (case side2 => repeat (first | (with_reducible first | exact HB.out | apply bwA | apply pbN | apply bwD | refine bwS ?_ (IsS68.ge HI239.out) | refine bwS ?_ GE235.out) | exact HB.out)); (case side3 => repeat (first | exact (Kd.R_reads' HO246.out).2.2 | (with_reducible refine Kd.C_alloc ?_ _) | (with_reducible refine Kd.C_drewN ?_ _) | (with_reducible refine Kd.C_drew ?_))); (case side4 => exact (Kd.R_reads' HO246.out).2.1); (case side5 => exact far_slice (IsS68.own_ne HI239.out HO246.out (by decide))); rintro e w11 ⟨rfl, hi, hb, hk⟩; refine ⟨_, rfl, ?_⟩; replace BK235 := bkk BK235 hk NB235_239; replace HO246 := Az.mk (Kd.R_mono (Kd.R_keep (IsS68.apart (show IsS68 w _ g239 t236 t242 t243 from by repeat (first | (with_reducible first | exact HI239.out | apply IsS68.alloc | apply IsS68.drewN | apply IsS68.drew | apply IsS68.set_1 | apply IsS68.set_2 | refine IsS68.far ?_ NB239_235.out _) | exact HI239.out)) (by (with_reducible repeat (first | apply Kd.R_alloc | apply Kd.R_drewN | apply Kd.R_drew)); exact HO246.out) (by decide)) hk (fun _ h => h.2)) (fun _ h => h.1)); replace HB := Az.mk (hb); replace HI239 := Az.mk (hi); (try clear hb); (try clear hk); (try clear hi); have hnb12 := NB235_239.out; have hnc12 := NB239_235.out; obtain ⟨hcz13_0, hcz13_1, hfz13_0, hfz13_1⟩ := bq2 BK235))
 refine bodyPost_ret (results_ct rfl _ _ gb235 25 #[.int .i64 t240, .int .i64 t241] (0, 0) _ rfl bkv Try.underlying25 rfl (by kernel_rfl)) rfl ?_
 exact ⟨rq1, by repeat (first | (with_reducible first | exact HB.out | apply bwA | apply pbN | apply bwD | refine bwS ?_ (IsS68.ge HI239.out) | refine bwS ?_ GE235.out) | exact HB.out)⟩

/-! ### impl_cross: function 56 -/
def impl_cross.f (a0_0 : Int) (a0_1 : Int) (a1_0 : Int) (a1_1 : Int) : Option (Int) := (impl_size.f (wrap64 ((wrap64 (a0_0 * a1_1)) - (wrap64 (a0_1 * a1_0))))).bind fun t252 => (some t252)
set_option maxHeartbeats 8000000 in
set_option maxRecDepth 100000 in
theorem impl_cross.calls (a0_0 : Int) (a0_1 : Int) (a1_0 : Int) (a1_1 : Int) (r : Int) (w : World) (h : impl_cross.f a0_0 a0_1 a1_0 a1_1 = some r) :
  Calls Try.prog 56 #[.agg #[.int .i64 a0_0, .int .i64 a0_1], .agg #[.int .i64 a1_0, .int .i64 a1_1]] w fun e w' => e = .returned (.int .i64 r) ∧ Below w.heap.size w w' := by
 have hu25 := Try.underlying25
 have HB := Az.mk (Below.refl w.heap.size w)
 have H : ((impl_size.f (wrap64 ((wrap64 (a0_0 * a1_1)) - (wrap64 (a0_1 * a1_0))))).bind fun t252 => (some t252)) = some r := h
 clear h
 replace H := bez H
 obtain ⟨t252, A3, H⟩ := H
 replace H : (some t252) = some r := H
 obtain rfl := Option.some.inj H
 go_enter Try.func56, Try.ntmps56
 go_wp2_with (first | ((with_reducible refine gtD (N := 2) rfl ?_); refine bx (N := 2) (cs := #[.int .i64 a0_0, .int .i64 a0_1]) (t := 25) ?_; intro gb250 hg w4 hbox hb; have BK250 := Az.mk (hbox); have GW250 := gwz hg bw_9; have GE250 := gwz hg bw_9; replace HB := Az.mk (bwT bw_9 hb); clear hb hbox hg) | ((with_reducible refine gtD (N := 3) rfl ?_); refine bx (N := 3) (cs := #[.int .i64 a1_0, .int .i64 a1_1]) (t := 25) ?_; intro gb251 hg w5 hbox hb; have BK251 := Az.mk (hbox); have GW251 := gwz hg bw_9; have GE251 := gwz hg bw_9; replace HB := Az.mk (bwT bw_9 hb); have NB250_251 := nlt BK250 hg; have NB251_250 := ngt BK250 hg; replace BK250 := bkz BK250 hb; clear hb hbox hg; have hnb6 := NB250_251.out; have hnc6 := NB251_250.out; obtain ⟨hcz7_0, hcz7_1, hfz7_0, hfz7_1⟩ := bq2 BK250; obtain ⟨hcz8_0, hcz8_1, hfz8_0, hfz8_1⟩ := bq2 BK251) | ((with_reducible refine gtC (f := 63) rfl ?_); refine clz Try.func63 (some 16) #[.int .i64 (wrap64 ((wrap64 (a0_0 * a1_1)) - (wrap64 (a0_1 * a1_0))))] ?_; (with_reducible refine (impl_size.calls (wrap64 ((wrap64 (a0_0 * a1_1)) - (wrap64 (a0_1 * a1_0)))) t252 _ A3.out).mono ?_); rintro e w9 ⟨rfl, hb⟩; refine ⟨_, rfl, ?_⟩; replace BK250 := bkz BK250 hb; replace BK251 := bkz BK251 hb; replace HB := Az.mk (bwT bw_9 hb); (try clear hb)))
 go_ret
 exact ⟨rq1, bw_9⟩

/-! ### impl_neighbours: function 33 -/
mutual
def impl_neighbours.l0 : Nat → Int → List (S25) → Int → Int → Int → Option ((List (S25)))
 | 0, _, _, _, _, _ => none
 | k + 1, x1, x5, x6, x254000, x254001 => if x6 ≤ x1 then (impl_neighbours.l1 k x1 x5 x6 (wrap64 (-x1)) x254000 x254001) else (some x5)
def impl_neighbours.l1 : Nat → Int → List (S25) → Int → Int → Int → Int → Option ((List (S25)))
 | 0, _, _, _, _, _, _ => none
 | k + 1, x1, x5, x6, x7, x254000, x254001 => if x7 ≤ x1 then ((impl_IsSlope.f k x7 x6).bind fun t258 => (if t258 = true then ((impl_cross.f x7 x6 x254000 x254001).bind fun t259 => (if t259 = 1 then (if x5.length < 8796093022208 then (impl_neighbours.l1 k x1 (x5 ++ [(⟨x7, x6⟩ : S25)]) x6 (wrap64 (x7 + 1)) x254000 x254001) else (none)) else (impl_neighbours.l1 k x1 x5 x6 (wrap64 (x7 + 1)) x254000 x254001))) else (impl_neighbours.l1 k x1 x5 x6 (wrap64 (x7 + 1)) x254000 x254001))) else (impl_neighbours.l0 k x1 x5 (wrap64 (x6 + 1)) x254000 x254001)
end
def impl_neighbours.f (k : Nat) (a0_0 : Int) (a0_1 : Int) (a1 : Int) : Option ((List (S25))) := impl_neighbours.l0 k a1 (([] : List (S25))) 0 a0_0 a0_1
theorem impl_neighbours.mono_l : ∀ k, (∀ y0 y1 y2 y3 y4, LeO (impl_neighbours.l0 k y0 y1 y2 y3 y4) (impl_neighbours.l0 (k + 1) y0 y1 y2 y3 y4)) ∧ (∀ y0 y1 y2 y3 y4 y5, LeO (impl_neighbours.l1 k y0 y1 y2 y3 y4 y5) (impl_neighbours.l1 (k + 1) y0 y1 y2 y3 y4 y5))
 | 0 => ⟨fun _ _ _ _ _ r h => by simp [impl_neighbours.l0] at h, fun _ _ _ _ _ _ r h => by simp [impl_neighbours.l1] at h⟩
 | k + 1 => by
  obtain ⟨ih0, ih1⟩ := impl_neighbours.mono_l k
  have i0 := fun z0 z1 z2 z3 z4 => MoO.mk (ih0 z0 z1 z2 z3 z4)
  have i1 := fun z0 z1 z2 z3 z4 z5 => MoO.mk (ih1 z0 z1 z2 z3 z4 z5)
  refine ⟨?_, ?_⟩
  ·intro y0 y1 y2 y3 y4
   unfold impl_neighbours.l0
   exact mo_
  intro y0 y1 y2 y3 y4 y5
  unfold impl_neighbours.l1
  exact mo_
theorem impl_neighbours.mono : ∀ a0 a1 a2 k, LeO (impl_neighbours.f k a0 a1 a2) (impl_neighbours.f (k + 1) a0 a1 a2) := by
 intro a0 a1 a2 k
 obtain ⟨ih0, ih1⟩ := impl_neighbours.mono_l k
 have i0 := fun z0 z1 z2 z3 z4 => MoO.mk (ih0 z0 z1 z2 z3 z4)
 have i1 := fun z0 z1 z2 z3 z4 z5 => MoO.mk (ih1 z0 z1 z2 z3 z4 z5)
 unfold impl_neighbours.f
 exact mo_
instance impl_neighbours.mi {a0 a1 a2 k} : MoO (impl_neighbours.f k a0 a1 a2) (impl_neighbours.f (k + 1) a0 a1 a2) := ⟨impl_neighbours.mono _ _ _ _⟩
set_option maxHeartbeats 8000000 in
set_option maxRecDepth 100000 in
theorem impl_neighbours.calls (k : Nat) (a0_0 : Int) (a0_1 : Int) (a1 : Int) (r : List (S25)) (w : World) (h : impl_neighbours.f k a0_0 a0_1 a1 = some r) :
  Calls Try.prog 33 #[.agg #[.int .i64 a0_0, .int .i64 a0_1], .int .i64 a1] w fun e w' => ∃ v0_ : Value, e = .returned (v0_) ∧ Kd.R k25 25 w' w.heap.size (fun _ => True) v0_ r ∧ Below w.heap.size w w' := by
 have hu25 := Try.underlying25
 have HB := Az.mk (Below.refl w.heap.size w)
 have H : (impl_neighbours.l0 k a1 (([] : List (S25))) 0 a0_0 a0_1) = some r := h
 clear h
 obtain ⟨y254, hy254⟩ : ∃ y_ : List (S25), y_ = (([] : List (S25))) := ⟨_, rfl⟩
 replace H : (impl_neighbours.l0 k a1 y254 0 a0_0 a0_1) = some r := by first | (rw [hy254]; with_reducible exact H) | (have H2_ := (Option.bind_some _ _).symm.trans H; rw [hy254]; with_reducible exact H2_) | (have H2_ := (Option.bind_some _ _).symm.trans H; with_reducible exact H2_) | with_reducible exact H | (rw [hy254]; exact H) | exact H
 have Ny254 := Az.mk hy254
 clear hy254
 have H' := Az.mk H
 clear H
 go_enter Try.func33, Try.ntmps33
 go_wp2_with (first | ((with_reducible refine gtD (N := 2) rfl ?_); refine bx (N := 2) (cs := #[.int .i64 a0_0, .int .i64 a0_1]) (t := 25) ?_; intro gb253 hg w3 hbox hb; have BK253 := Az.mk (hbox); have GW253 := gwz hg bw_9; have GE253 := gwz hg bw_9; replace HB := Az.mk (bwT bw_9 hb); clear hb hbox hg) | ((with_reducible refine gtD (N := 9) rfl ?_); refine Kd.R_lit k25 _ 25 ?hg (N := 9) ?hd (xs := ([] : List (S25))) (inner := []) (ok := fun _ => True) (okp := fun _ => True) ?hr ?hp (fun _ hk => hk) trivial (Below.refl _ _) (Nat.le_refl _) (by simp) ?_; (case hd => rfl); (case hg => rfl); (case hr => first | (go_simp; done) | (go_simp; rfl)); (case hp => exact (Reps.none _ _)); intro v255 w4 ho5 hb hg_ hnew_; clear hg_ hnew_; (first | rw [← Ny254.out] at ho5 | (simp only [Int.reduceToNat] at ho5; rw [← Ny254.out] at ho5)); have HO256 := Az.mk (Kd.R_lower (Kd.R_newB ho5 (g := gb253) (o := .cells #[.int .i64 a0_0, .int .i64 a0_1] 25 (0, 0)) (bk1 BK253)) (bwZ bw_9)); replace BK253 := bkz BK253 hb; replace HB := Az.mk (bwT bw_9 hb); clear hb ho5))
 go_loopg [5, 6] k (fun kq v5 v6 w' => ∃ (x5_1 : List (S25)) (x6_1 : Int), v6 = .int .i64 x6_1 ∧ Az (impl_neighbours.l0 kq a1 x5_1 x6_1 a0_0 a0_1 = some r) ∧ Az (kq ≤ k) ∧ Az (Kd.R k25 25 w' w.heap.size (fun k_ => k_ ≠ gb253) v5 x5_1) ∧ Az (w'.heap[gb253]? = some (.cells #[.int .i64 a0_0, .int .i64 a0_1] 25 (0, 0))) ∧ Az (Below w.heap.size w w'))
 case atStart => exact ⟨(y254), (0), rq2, H', ⟨Nat.le_refl _⟩, ⟨by (with_reducible repeat (first | apply Kd.R_alloc | apply Kd.R_drewN | apply Kd.R_drew)); exact Kd.R_mono HO256.out (fun _ hk => hk.2)⟩, ⟨bk1 BK253⟩, ⟨bw_9⟩⟩
 clear H'
 obtain ⟨x5_1, x6_1, rfl, HA, HK1, HO_5, BK253, HB⟩ := hrel
 cases gk with
 | zero => exact absurd HA.out (by simp [impl_neighbours.l0])
 | succ k1 =>
  have H := HA.out
  clear HA
  simp only [impl_neighbours.l0] at H
  by_cases c6 : x6_1 ≤ a1
  rotate_left
  ·rw [if_neg c6] at H
   have c6b0 : decide (x6_1 ≤ a1) = false := decide_eq_false c6
   clear c6
   obtain rfl := Option.some.inj H
   go_wp2
   go_ret
   exact ⟨_, rq1, by (with_reducible repeat (first | apply Kd.R_alloc | apply Kd.R_drewN | apply Kd.R_drew)); exact Kd.R_mono HO_5.out (fun _ hk => trivial), bw_9⟩
  rw [if_pos c6] at H
  have c6b0 : decide (x6_1 ≤ a1) = true := decide_eq_true c6
  clear c6
  have H' := Az.mk H
  clear H
  go_wp2
  go_loopg [5, 7] k1 (fun kq v5 v7 w' => ∃ (x5_2 : List (S25)) (x7_2 : Int), v7 = .int .i64 x7_2 ∧ Az (impl_neighbours.l1 kq a1 x5_2 x6_1 x7_2 a0_0 a0_1 = some r) ∧ Az (kq ≤ k1) ∧ Az (Kd.R k25 25 w' w.heap.size (fun k_ => k_ ≠ gb253) v5 x5_2) ∧ Az (w'.heap[gb253]? = some (.cells #[.int .i64 a0_0, .int .i64 a0_1] 25 (0, 0))) ∧ Az (Below w.heap.size w w'))
  case atStart => exact ⟨(x5_1), (wrap64 (-a1)), rq2, H', ⟨Nat.le_refl _⟩, ⟨by (with_reducible repeat (first | apply Kd.R_alloc | apply Kd.R_drewN | apply Kd.R_drew)); exact HO_5.out⟩, ⟨bk1 BK253⟩, ⟨bw_9⟩⟩
  clear H'
  try clear c6
  try clear c6b0
  obtain ⟨x5_2, x7_2, rfl, HA, HK2, HO_5, BK253, HB⟩ := hrel
  cases gk with
  | zero => exact absurd HA.out (by simp [impl_neighbours.l1])
  | succ k2 =>
   have H := HA.out
   clear HA
   simp only [impl_neighbours.l1] at H
   by_cases c7 : x7_2 ≤ a1
   rotate_left
   ·rw [if_neg c7] at H
    have c7b0 : decide (x7_2 ≤ a1) = false := decide_eq_false c7
    clear c7
    have H' := Az.mk H
    clear H
    go_wp2
    go_roundg k2
    case measure => have := HK1.out; have := HK2.out; omega
    case rel => exact ⟨(x5_2), (wrap64 (x6_1 + 1)), rq2, H', ⟨by have := HK1.out; have := HK2.out; omega⟩, ⟨by (with_reducible repeat (first | apply Kd.R_alloc | apply Kd.R_drewN | apply Kd.R_drew)); exact HO_5.out⟩, ⟨bk1 BK253⟩, ⟨bw_9⟩⟩
   rw [if_pos c7] at H
   have c7b0 : decide (x7_2 ≤ a1) = true := decide_eq_true c7
   clear c7
   replace H := bez H
   obtain ⟨t258, A8, H⟩ := H
   try dsimp only at H
   by_cases c9 : t258 = true
   rotate_left
   ·replace c9 := Bool.eq_false_iff.mpr c9
    subst c9
    rw [if_neg (show ¬ (false = true) by decide)] at H
    have H' := Az.mk H
    clear H
    go_wp2_with (first | ((with_reducible refine gtD (N := 8) rfl ?_); refine bx (N := 8) (cs := #[.int .i64 0, .int .i64 0]) (t := 25) ?_; intro gb257 hg w29 hbox hb; replace HO_5 := Az.mk (Kd.R_below (Kd.R_elderB z9_1 gb257 (Nat.le_of_eq hg.symm)) hb); have BK257 := Az.mk (hbox); have GW257 := gwz hg bw_9; have GE257 := gwz hg bw_9; replace HB := Az.mk (bwT bw_9 hb); have NB253_257 := nlt BK253 hg; have NB257_253 := ngt BK253 hg; replace BK253 := bkz BK253 hb; clear hb hbox hg; have hnb30 := NB257_253.out; have hnc30 := NB253_257.out; obtain ⟨hcz31_0, hcz31_1, hfz31_0, hfz31_1⟩ := bq2 BK257) | ((with_reducible refine gtC (f := 27) rfl ?_); refine clz Try.func27 (some 26) #[.agg #[.int .i64 x7_2, .int .i64 x6_1]] ?_; (with_reducible refine (impl_IsSlope.calls k2 x7_2 x6_1 false _ A8.out).mono ?_); rintro e w32 ⟨rfl, hb⟩; refine ⟨_, rfl, ?_⟩; replace HO_5 := Az.mk (Kd.R_below z9_0 hb); replace BK253 := Az.mk (bkB (g := gb253) (o := .cells #[.int .i64 a0_0, .int .i64 a0_1] 25 (0, 0)) bkv hb); replace BK257 := Az.mk (bkB (g := gb257) (o := .cells #[.int .i64 x7_2, .int .i64 x6_1] 25 (0, 0)) bkv hb); replace HB := Az.mk (bwT bw_9 hb); (try clear hb); (try clear hk)))
    go_roundg k2
    case measure => have := HK1.out; have := HK2.out; omega
    case rel => exact ⟨(x5_2), (wrap64 (x7_2 + 1)), rq2, H', ⟨by have := HK1.out; have := HK2.out; omega⟩, ⟨by (with_reducible repeat (first | apply Kd.R_alloc | apply Kd.R_drewN | apply Kd.R_drew)); exact Kd.R_mono HO_5.out (fun _ hk => hk.1)⟩, ⟨bk1 BK253⟩, ⟨bw_9⟩⟩
   subst c9
   rw [if_pos rfl] at H
   replace H := bez H
   obtain ⟨t259, A10, H⟩ := H
   try dsimp only at H
   by_cases c11 : t259 = 1
   rotate_left
   ·rw [if_neg c11] at H
    have c11b0 : (t259 == 1) = false := beq_eq_false_iff_ne.mpr c11
    have c11b1 : (t259 != 1) = true := bne_iff_ne.mpr c11
    have H' := Az.mk H
    clear H
    go_wp2_with (first | ((with_reducible refine gtD (N := 8) rfl ?_); refine bx (N := 8) (cs := #[.int .i64 0, .int .i64 0]) (t := 25) ?_; intro gb257 hg w22 hbox hb; replace HO_5 := Az.mk (Kd.R_below (Kd.R_elderB z9_1 gb257 (Nat.le_of_eq hg.symm)) hb); have BK257 := Az.mk (hbox); have GW257 := gwz hg bw_9; have GE257 := gwz hg bw_9; replace HB := Az.mk (bwT bw_9 hb); have NB253_257 := nlt BK253 hg; have NB257_253 := ngt BK253 hg; replace BK253 := bkz BK253 hb; clear hb hbox hg; have hnb23 := NB257_253.out; have hnc23 := NB253_257.out; obtain ⟨hcz24_0, hcz24_1, hfz24_0, hfz24_1⟩ := bq2 BK257) | ((with_reducible refine gtC (f := 27) rfl ?_); refine clz Try.func27 (some 26) #[.agg #[.int .i64 x7_2, .int .i64 x6_1]] ?_; (with_reducible refine (impl_IsSlope.calls k2 x7_2 x6_1 true _ A8.out).mono ?_); rintro e w25 ⟨rfl, hb⟩; refine ⟨_, rfl, ?_⟩; replace HO_5 := Az.mk (Kd.R_below z9_0 hb); replace BK253 := Az.mk (bkB (g := gb253) (o := .cells #[.int .i64 a0_0, .int .i64 a0_1] 25 (0, 0)) bkv hb); replace BK257 := Az.mk (bkB (g := gb257) (o := .cells #[.int .i64 x7_2, .int .i64 x6_1] 25 (0, 0)) bkv hb); replace HB := Az.mk (bwT bw_9 hb); (try clear hb); (try clear hk); obtain ⟨hcz26_0, hcz26_1, hfz26_0, hfz26_1⟩ := bq2 BK257; obtain ⟨hcz27_0, hcz27_1, hfz27_0, hfz27_1⟩ := bq2 BK253) | (go_at_call 56; (with_reducible refine (impl_cross.calls x7_2 x6_1 a0_0 a0_1 t259 _ A10.out).mono ?_); rintro e w28 ⟨rfl, hb⟩; replace HO_5 := Az.mk (Kd.R_below z9_1 hb); replace BK253 := bkz BK253 hb; replace BK257 := bkz BK257 hb; replace HB := Az.mk (bwT bw_9 hb); (try clear hb)))
    go_roundg k2
    case measure => have := HK1.out; have := HK2.out; omega
    case rel => exact ⟨(x5_2), (wrap64 (x7_2 + 1)), rq2, H', ⟨by have := HK1.out; have := HK2.out; omega⟩, ⟨by (with_reducible repeat (first | apply Kd.R_alloc | apply Kd.R_drewN | apply Kd.R_drew)); exact Kd.R_mono HO_5.out (fun _ hk => hk.1)⟩, ⟨bk1 BK253⟩, ⟨bw_9⟩⟩
   rw [if_pos c11] at H
   have c11b0 : (t259 == 1) = true := beq_iff_eq.mpr c11
   have c11b1 : (t259 != 1) = false := bne_eq_false_iff_eq.mpr c11
   clear c11
   by_cases c12 : x5_2.length < 8796093022208
   rotate_left
   ·rw [if_neg c12] at H
    exact absurd H (by simp)
   rw [if_pos c12] at H
   have LMc12 := Az.mk c12
   clear c12
   obtain ⟨y260, hy260⟩ : ∃ y_ : List (S25), y_ = (x5_2 ++ [(⟨x7_2, x6_1⟩ : S25)]) := ⟨_, rfl⟩
   replace H : (impl_neighbours.l1 k2 a1 y260 x6_1 (wrap64 (x7_2 + 1)) a0_0 a0_1) = some r := by first | (rw [hy260]; with_reducible exact H) | (have H2_ := (Option.bind_some _ _).symm.trans H; rw [hy260]; with_reducible exact H2_) | (have H2_ := (Option.bind_some _ _).symm.trans H; with_reducible exact H2_) | with_reducible exact H | (rw [hy260]; exact H) | exact H
   have Ny260 := Az.mk hy260
   clear hy260
   have H' := Az.mk H
   clear H
   go_wp2_with (first | ((with_reducible refine gtD (N := 8) rfl ?_); refine bx (N := 8) (cs := #[.int .i64 0, .int .i64 0]) (t := 25) ?_; intro gb257 hg w13 hbox hb; replace HO_5 := Az.mk (Kd.R_below (Kd.R_elderB z9_1 gb257 (Nat.le_of_eq hg.symm)) hb); have BK257 := Az.mk (hbox); have GW257 := gwz hg bw_9; have GE257 := gwz hg bw_9; replace HB := Az.mk (bwT bw_9 hb); have NB253_257 := nlt BK253 hg; have NB257_253 := ngt BK253 hg; replace BK253 := bkz BK253 hb; clear hb hbox hg; have hnb14 := NB257_253.out; have hnc14 := NB253_257.out; obtain ⟨hcz15_0, hcz15_1, hfz15_0, hfz15_1⟩ := bq2 BK257) | ((with_reducible refine gtC (f := 27) rfl ?_); refine clz Try.func27 (some 26) #[.agg #[.int .i64 x7_2, .int .i64 x6_1]] ?_; (with_reducible refine (impl_IsSlope.calls k2 x7_2 x6_1 true _ A8.out).mono ?_); rintro e w16 ⟨rfl, hb⟩; refine ⟨_, rfl, ?_⟩; replace HO_5 := Az.mk (Kd.R_below z9_0 hb); replace BK253 := Az.mk (bkB (g := gb253) (o := .cells #[.int .i64 a0_0, .int .i64 a0_1] 25 (0, 0)) bkv hb); replace BK257 := Az.mk (bkB (g := gb257) (o := .cells #[.int .i64 x7_2, .int .i64 x6_1] 25 (0, 0)) bkv hb); replace HB := Az.mk (bwT bw_9 hb); (try clear hb); (try clear hk); obtain ⟨hcz17_0, hcz17_1, hfz17_0, hfz17_1⟩ := bq2 BK257; obtain ⟨hcz18_0, hcz18_1, hfz18_0, hfz18_1⟩ := bq2 BK253) | (go_at_call 56; (with_reducible refine (impl_cross.calls x7_2 x6_1 a0_0 a0_1 t259 _ A10.out).mono ?_); rintro e w19 ⟨rfl, hb⟩; replace HO_5 := Az.mk (Kd.R_below z9_1 hb); replace BK253 := bkz BK253 hb; replace BK257 := bkz BK257 hb; replace HB := Az.mk (bwT bw_9 hb); (try clear hb); obtain ⟨hcz20_0, hcz20_1, hfz20_0, hfz20_1⟩ := bq2 BK257) | ((with_reducible refine gate_builtin (b := .append) (xs := #[.tmp 33, .tmp 35]) rfl ?_); at_builtin; refine Kd.R_append k25 (w0 := w) w.heap.size rfl (.tmp 33) (.tmp 35) 31 25 (.agg #[(.int .i64 0), (.int .i64 0)]) 16 rfl Try.underlying31 info25 rfl (by decide) (by omega) u5 x5_2 (⟨x7_2, x6_1⟩ : S25) [.int .i64 x7_2, .int .i64 x6_1] (fun k_ => k_ ≠ gb253 ∧ k_ ≠ gb257) (fun _ => False) rfl rfl ?aP (fun _ hk => hk.elim) ?aF ?aO ?aB ?aS ?aL ?_; (case aP => exact k25_mkM _ _ _ (⟨x7_2, x6_1⟩ : S25)); (case aB => exact bw_9); (case aF => exact (fun k_ hk => ⟨Kd.freshB (g := gb253) (o := .cells #[.int .i64 a0_0, .int .i64 a0_1] 25 (0, 0)) (bk1 BK253) k_ hk, Kd.freshB (g := gb257) (o := .cells #[.int .i64 x7_2, .int .i64 x6_1] 25 (0, 0)) (bk1 BK257) k_ hk⟩)); (case aO => exact z9_1); (case aS => exact (bwZ bw_9)); (case aL => have := LMc12.out; omega); intro v261 w21 ho hb hg hat; rw [← Ny260.out] at ho; have n0_ := Az.mk (blk_grown (g := gb253) (o := .cells #[.int .i64 a0_0, .int .i64 a0_1] 25 (0, 0)) (bk1 BK253) hg (Kd.R_away HO_5.out (fun _ hk => hk.1))); have n1_ := Az.mk (blk_grown (g := gb257) (o := .cells #[.int .i64 x7_2, .int .i64 x6_1] 25 (0, 0)) (bk1 BK257) hg (Kd.R_away HO_5.out (fun _ hk => hk.2))); have n2_ := Az.mk (hb); have n3_ := Az.mk (ho); clear BK253; clear BK257; clear HB; clear HO_5; have BK253 := n0_; have BK257 := n1_; have HB := n2_; have HO262 := n3_; clear n0_ n1_ n2_ n3_; clear ho hb hg hat))
   go_roundg k2
   case measure => have := HK1.out; have := HK2.out; omega
   case rel => exact ⟨(y260), (wrap64 (x7_2 + 1)), rq2, H', ⟨by have := HK1.out; have := HK2.out; omega⟩, ⟨by (with_reducible repeat (first | apply Kd.R_alloc | apply Kd.R_drewN | apply Kd.R_drew)); exact Kd.R_mono HO262.out (fun _ hk => hk.1)⟩, ⟨bk1 BK253⟩, ⟨bw_9⟩⟩

/-! ### impl_NeighbourSlopes: function 8 -/
def impl_NeighbourSlopes.f (k : Nat) (a0_0 : Int) (a0_1 : Int) (a1 : Int) : Option ((List (S25))) := (impl_IsSlope.f k a0_0 a0_1).bind fun t264 => (if t264 = true then ((impl_within.f a1 1 20).bind fun t265 => (if t265 = true then ((impl_neighbours.f k a0_0 a0_1 a1).bind fun t266 => (some t266)) else (some ([] : List (S25))))) else (some ([] : List (S25))))
theorem impl_NeighbourSlopes.mono : ∀ a0 a1 a2 k, LeO (impl_NeighbourSlopes.f k a0 a1 a2) (impl_NeighbourSlopes.f (k + 1) a0 a1 a2) := by
 intro a0 a1 a2 k
 unfold impl_NeighbourSlopes.f
 exact mo_
instance impl_NeighbourSlopes.mi {a0 a1 a2 k} : MoO (impl_NeighbourSlopes.f k a0 a1 a2) (impl_NeighbourSlopes.f (k + 1) a0 a1 a2) := ⟨impl_NeighbourSlopes.mono _ _ _ _⟩
set_option maxHeartbeats 8000000 in
set_option maxRecDepth 100000 in
theorem impl_NeighbourSlopes.calls (k : Nat) (a0_0 : Int) (a0_1 : Int) (a1 : Int) (r : List (S25)) (w : World) (h : impl_NeighbourSlopes.f k a0_0 a0_1 a1 = some r) :
  Calls Try.prog 8 #[.agg #[.int .i64 a0_0, .int .i64 a0_1], .int .i64 a1] w fun e w' => ∃ v0_ : Value, e = .returned (v0_) ∧ Kd.R k25 25 w' w.heap.size (fun _ => True) v0_ r ∧ Below w.heap.size w w' := by
 have hu25 := Try.underlying25
 have HB := Az.mk (Below.refl w.heap.size w)
 have H : ((impl_IsSlope.f k a0_0 a0_1).bind fun t264 => (if t264 = true then ((impl_within.f a1 1 20).bind fun t265 => (if t265 = true then ((impl_neighbours.f k a0_0 a0_1 a1).bind fun t266 => (some t266)) else (some ([] : List (S25))))) else (some ([] : List (S25))))) = some r := h
 clear h
 replace H := bez H
 obtain ⟨t264, A3, H⟩ := H
 try dsimp only at H
 by_cases c4 : t264 = true
 rotate_left
 ·replace c4 := Bool.eq_false_iff.mpr c4
  subst c4
  rw [if_neg (show ¬ (false = true) by decide)] at H
  obtain rfl := Option.some.inj H
  go_enter Try.func8, Try.ntmps8
  go_wp2_with (first | ((with_reducible refine gtD (N := 2) rfl ?_); refine bx (N := 2) (cs := #[.int .i64 a0_0, .int .i64 a0_1]) (t := 25) ?_; intro gb263 hg w16 hbox hb; have BK263 := Az.mk (hbox); have GW263 := gwz hg bw_9; have GE263 := gwz hg bw_9; replace HB := Az.mk (bwT bw_9 hb); clear hb hbox hg; obtain ⟨hcz17_0, hcz17_1, hfz17_0, hfz17_1⟩ := bq2 BK263) | ((with_reducible refine gtC (f := 27) rfl ?_); refine clz Try.func27 (some 6) #[.agg #[.int .i64 a0_0, .int .i64 a0_1]] ?_; (with_reducible refine (impl_IsSlope.calls k a0_0 a0_1 false _ A3.out).mono ?_); rintro e w18 ⟨rfl, hb⟩; refine ⟨_, rfl, ?_⟩; replace BK263 := bkz BK263 hb; replace HB := Az.mk (bwT bw_9 hb); (try clear hb)))
  go_ret
  exact ⟨_, rq1, by first | exact Kd.R_nil _ _ _ _ _ | exact Kd.N_nil _ _ _ _ _ | exact Kd.V_nil _ _ _ _ _ | exact Kd.Q_nil _ _ _ _ _ | exact Kd.S_nil _ _ _ _ _, bw_9⟩
 subst c4
 rw [if_pos rfl] at H
 replace H := bez H
 obtain ⟨t265, A5, H⟩ := H
 try dsimp only at H
 by_cases c6 : t265 = true
 rotate_left
 ·replace c6 := Bool.eq_false_iff.mpr c6
  subst c6
  rw [if_neg (show ¬ (false = true) by decide)] at H
  obtain rfl := Option.some.inj H
  go_enter Try.func8, Try.ntmps8
  go_wp2_with (first | ((with_reducible refine gtD (N := 2) rfl ?_); refine bx (N := 2) (cs := #[.int .i64 a0_0, .int .i64 a0_1]) (t := 25) ?_; intro gb263 hg w13 hbox hb; have BK263 := Az.mk (hbox); have GW263 := gwz hg bw_9; have GE263 := gwz hg bw_9; replace HB := Az.mk (bwT bw_9 hb); clear hb hbox hg; obtain ⟨hcz14_0, hcz14_1, hfz14_0, hfz14_1⟩ := bq2 BK263) | ((with_reducible refine gtC (f := 27) rfl ?_); refine clz Try.func27 (some 6) #[.agg #[.int .i64 a0_0, .int .i64 a0_1]] ?_; (with_reducible refine (impl_IsSlope.calls k a0_0 a0_1 true _ A3.out).mono ?_); rintro e w15 ⟨rfl, hb⟩; refine ⟨_, rfl, ?_⟩; replace BK263 := bkz BK263 hb; replace HB := Az.mk (bwT bw_9 hb); (try clear hb)) | (go_at_call 32; (with_reducible refine (impl_within.calls a1 1 20 false _ A5.out).mono ?_); rintro e w' ⟨rfl, ⟨nd, rfl⟩⟩))
  go_ret
  exact ⟨_, rq1, by first | exact Kd.R_nil _ _ _ _ _ | exact Kd.N_nil _ _ _ _ _ | exact Kd.V_nil _ _ _ _ _ | exact Kd.Q_nil _ _ _ _ _ | exact Kd.S_nil _ _ _ _ _, bw_9⟩
 subst c6
 rw [if_pos rfl] at H
 replace H := bez H
 obtain ⟨t266, A7, H⟩ := H
 replace H : (some t266) = some r := H
 obtain rfl := Option.some.inj H
 go_enter Try.func8, Try.ntmps8
 go_wp2_with (first | ((with_reducible refine gtD (N := 2) rfl ?_); refine bx (N := 2) (cs := #[.int .i64 a0_0, .int .i64 a0_1]) (t := 25) ?_; intro gb263 hg w8 hbox hb; have BK263 := Az.mk (hbox); have GW263 := gwz hg bw_9; have GE263 := gwz hg bw_9; replace HB := Az.mk (bwT bw_9 hb); clear hb hbox hg; obtain ⟨hcz9_0, hcz9_1, hfz9_0, hfz9_1⟩ := bq2 BK263) | ((with_reducible refine gtC (f := 27) rfl ?_); refine clz Try.func27 (some 6) #[.agg #[.int .i64 a0_0, .int .i64 a0_1]] ?_; (with_reducible refine (impl_IsSlope.calls k a0_0 a0_1 true _ A3.out).mono ?_); rintro e w10 ⟨rfl, hb⟩; refine ⟨_, rfl, ?_⟩; replace BK263 := bkz BK263 hb; replace HB := Az.mk (bwT bw_9 hb); (try clear hb)) | (go_at_call 32; (with_reducible refine (impl_within.calls a1 1 20 true _ A5.out).mono ?_); rintro e w' ⟨rfl, ⟨nd, rfl⟩⟩; obtain ⟨hcz11_0, hcz11_1, hfz11_0, hfz11_1⟩ := bq2 BK263) | ((with_reducible refine gtC (f := 33) rfl ?_); refine clz Try.func33 (some 15) #[.agg #[.int .i64 a0_0, .int .i64 a0_1], .int .i64 a1] ?_; (with_reducible refine (impl_neighbours.calls k a0_0 a0_1 a1 t266 _ A7.out).mono ?_); rintro e w12 ⟨v267, rfl, ho0, hb⟩; refine ⟨_, rfl, ?_⟩; have HO268 := Az.mk (Kd.R_lower (Kd.R_newB ho0 (g := gb263) (o := .cells #[.int .i64 a0_0, .int .i64 a0_1] 25 (0, 0)) (bk1 BK263)) (bwZ bw_9)); replace BK263 := bkz BK263 hb; replace HB := Az.mk (bwT bw_9 hb); (try clear hb); (try clear ho0)))
 go_ret
 exact ⟨_, rq1, by (with_reducible repeat (first | apply Kd.R_alloc | apply Kd.R_drewN | apply Kd.R_drew)); exact Kd.R_mono HO268.out (fun _ hk => trivial), bw_9⟩

/-! ### spec_DrawCommonNeighbours: function 9 -/
def spec_DrawCommonNeighbours.f (k : Nat) (l0 : List Int) : Option (Int × Int × Int × Int) := (spec_l12Two.f k l0).bind fun bt271 => (some (bt271.1, bt271.2.1, bt271.2.2.1, bt271.2.2.2))
theorem spec_DrawCommonNeighbours.mono : ∀ a0 k, LeO (spec_DrawCommonNeighbours.f k a0) (spec_DrawCommonNeighbours.f (k + 1) a0) := by
 intro a0 k
 unfold spec_DrawCommonNeighbours.f
 exact mo_
instance spec_DrawCommonNeighbours.mi {a0 k} : MoO (spec_DrawCommonNeighbours.f k a0) (spec_DrawCommonNeighbours.f (k + 1) a0) := ⟨spec_DrawCommonNeighbours.mono _ _⟩
set_option maxHeartbeats 8000000 in
set_option maxRecDepth 100000 in
theorem spec_DrawCommonNeighbours.calls (k : Nat) (A0 : Option Addr) (c0 : Nat) (l0 : List Int) (r1 : Int) (r2 : Int) (r3 : Int) (r4 : Int) (w : World) (hr0 : Kd.C (Kd.int .u8) w A0 l0.length l0) (hc0 : l0.length ≤ c0) (h : spec_DrawCommonNeighbours.f k l0 = some (r1, r2, r3, r4)) :
  Calls Try.prog 9 #[.slice A0 l0.length c0] w fun e w' => e = .returned (.tuple #[.agg #[.int .i64 r1, .int .i64 r2], .agg #[.int .i64 r3, .int .i64 r4]]) ∧ Below w.heap.size w w' := by
 have hu25 := Try.underlying25
 have HR0 := Az.mk hr0
 have HC0 := Az.mk hc0
 clear hr0 hc0
 have HB := Az.mk (Below.refl w.heap.size w)
 have H : ((spec_l12Two.f k l0).bind fun bt271 => (some (bt271.1, bt271.2.1, bt271.2.2.1, bt271.2.2.2))) = some (r1, r2, r3, r4) := h
 clear h
 replace H := bez H
 obtain ⟨⟨t271, t272, t273, t274⟩, A2, H⟩ := H
 try dsimp only at H
 simp only [Option.some.injEq, Prod.mk.injEq] at H
 obtain ⟨rfl, rfl, rfl, rfl⟩ := H
 go_enter Try.func9, Try.ntmps9
 try go_wp2_with (first | ((with_reducible refine gtD (N := 2) rfl ?_); refine bx (N := 2) (cs := #[.int .i64 0, .int .i64 0]) (t := 25) ?_; intro gb269 hg w3 hbox hb; have BK269 := Az.mk (hbox); have GW269 := gwz hg bw_9; have GE269 := gwz hg bw_9; replace HB := Az.mk (bwT bw_9 hb); clear hb hbox hg) | ((with_reducible refine gtD (N := 3) rfl ?_); refine bx (N := 3) (cs := #[.int .i64 0, .int .i64 0]) (t := 25) ?_; intro gb270 hg w4 hbox hb; have BK270 := Az.mk (hbox); have GW270 := gwz hg bw_9; have GE270 := gwz hg bw_9; replace HB := Az.mk (bwT bw_9 hb); have NB269_270 := nlt BK269 hg; have NB270_269 := ngt BK269 hg; replace BK269 := bkz BK269 hb; clear hb hbox hg) | ((with_reducible refine gtC (f := 26) rfl ?_); refine clz Try.func26 (some 8) #[.slice A0 l0.length c0] ?_; (with_reducible refine (spec_l12Two.calls k _ _ l0 t271 t272 t273 t274 _ ?side1 ?side2 A2.out).mono ?_); (case side1 => repeat (first | exact (Kd.C_below HR0.out HB.out) | (with_reducible refine Kd.C_alloc ?_ _) | (with_reducible refine Kd.C_drewN ?_ _) | (with_reducible refine Kd.C_drew ?_))); (case side2 => exact HC0.out); rintro e w5 ⟨rfl, hb⟩; refine ⟨_, rfl, ?_⟩; replace BK269 := bkz BK269 hb; replace BK270 := bkz BK270 hb; replace HB := Az.mk (bwT bw_9 hb); (try clear hb)) | ((with_reducible refine gtD (N := 4) rfl ?_); refine bx (N := 4) (cs := #[.int .i64 0, .int .i64 0]) (t := 25) ?_; intro gb275 hg w6 hbox hb; have BK275 := Az.mk (hbox); have GW275 := gwz hg bw_9; have GE275 := gwz hg bw_9; replace HB := Az.mk (bwT bw_9 hb); have NB269_275 := nlt BK269 hg; have NB275_269 := ngt BK269 hg; replace BK269 := bkz BK269 hb; have NB270_275 := nlt BK270 hg; have NB275_270 := ngt BK270 hg; replace BK270 := bkz BK270 hb; clear hb hbox hg) | ((with_reducible refine gtD (N := 5) rfl ?_); refine bx (N := 5) (cs := #[.int .i64 0, .int .i64 0]) (t := 25) ?_; intro gb276 hg w7 hbox hb; have BK276 := Az.mk (hbox); have GW276 := gwz hg bw_9; have GE276 := gwz hg bw_9; replace HB := Az.mk (bwT bw_9 hb); have NB269_276 := nlt BK269 hg; have NB276_269 := ngt BK269 hg; replace BK269 := bkz BK269 hb; have NB270_276 := nlt BK270 hg; have NB276_270 := ngt BK270 hg; replace BK270 := bkz BK270 hb; have NB275_276 := nlt BK275 hg; have NB276_275 := ngt BK275 hg; replace BK275 := bkz BK275 hb; clear hb hbox hg; have hnb8 := NB275_269.out; have hnc8 := NB269_275.out; have hnb9 := NB275_270.out; have hnc9 := NB270_275.out; have hnb10 := NB275_276.out; have hnc10 := NB276_275.out; obtain ⟨hcz11_0, hcz11_1, hfz11_0, hfz11_1⟩ := bq2 BK275; have hnb12 := NB276_269.out; have hnc12 := NB269_276.out; have hnb13 := NB276_270.out; have hnc13 := NB270_276.out; obtain ⟨hcz14_0, hcz14_1, hfz14_0, hfz14_1⟩ := bq2 BK276))
 have n0_ : Az (((((w7.setCell ⟨gb275, 0, none⟩ (.int .i64 t271)).setCell ⟨gb275, 1, none⟩ (.int .i64 t272)).setCell ⟨gb276, 0, none⟩ (.int .i64 t273)).setCell ⟨gb276, 1, none⟩ (.int .i64 t274)).heap[gb269]? = some (.cells #[.int .i64 0, .int .i64 0] 25 (0, 0))) := ⟨bkv⟩
 have n1_ : Az (((((w7.setCell ⟨gb275, 0, none⟩ (.int .i64 t271)).setCell ⟨gb275, 1, none⟩ (.int .i64 t272)).setCell ⟨gb276, 0, none⟩ (.int .i64 t273)).setCell ⟨gb276, 1, none⟩ (.int .i64 t274)).heap[gb270]? = some (.cells #[.int .i64 0, .int .i64 0] 25 (0, 0))) := ⟨bkv⟩
 have n2_ : Az (((((w7.setCell ⟨gb275, 0, none⟩ (.int .i64 t271)).setCell ⟨gb275, 1, none⟩ (.int .i64 t272)).setCell ⟨gb276, 0, none⟩ (.int .i64 t273)).setCell ⟨gb276, 1, none⟩ (.int .i64 t274)).heap[gb275]? = some (.cells #[.int .i64 t271, .int .i64 t272] 25 (0, 0))) := ⟨bkv⟩
 have n3_ : Az (((((w7.setCell ⟨gb275, 0, none⟩ (.int .i64 t271)).setCell ⟨gb275, 1, none⟩ (.int .i64 t272)).setCell ⟨gb276, 0, none⟩ (.int .i64 t273)).setCell ⟨gb276, 1, none⟩ (.int .i64 t274)).heap[gb276]? = some (.cells #[.int .i64 t273, .int .i64 t274] 25 (0, 0))) := ⟨bkv⟩
 have n4_ : Az (Below w.heap.size w ((((w7.setCell ⟨gb275, 0, none⟩ (.int .i64 t271)).setCell ⟨gb275, 1, none⟩ (.int .i64 t272)).setCell ⟨gb276, 0, none⟩ (.int .i64 t273)).setCell ⟨gb276, 1, none⟩ (.int .i64 t274))) := ⟨bw_9⟩
 (try clear BK269)
 (try clear BK270)
 (try clear BK275)
 (try clear BK276)
 (try clear HB)
 generalize ((((w7.setCell ⟨gb275, 0, none⟩ (.int .i64 t271)).setCell ⟨gb275, 1, none⟩ (.int .i64 t272)).setCell ⟨gb276, 0, none⟩ (.int .i64 t273)).setCell ⟨gb276, 1, none⟩ (.int .i64 t274)) = w15 at n0_ n1_ n2_ n3_ n4_ ⊢
 have BK269 := n0_
 have BK270 := n1_
 have BK275 := n2_
 have BK276 := n3_
 have HB := n4_
 clear n0_ n1_ n2_ n3_ n4_
 replace BK269 := Az.mk (bkD BK269.out); replace BK270 := Az.mk (bkD BK270.out); replace BK275 := Az.mk (bkD BK275.out); replace BK276 := Az.mk (bkD BK276.out); replace HB := Az.mk (bwD HB.out)
 refine start_ (n := 4) (S := fun w' => w'.cell? ⟨gb275, 0, none⟩ = some (.int .i64 t271) ∧ w'.cell? ⟨gb275, 1, none⟩ = some (.int .i64 t272) ∧ w'.cell? ⟨gb276, 0, none⟩ = some (.int .i64 t273) ∧ w'.cell? ⟨gb276, 1, none⟩ = some (.int .i64 t274)) (ds := []) #[false, false, false, false] (by kernel_rfl) rfl rfl cs_ (fun hHeld => ?_)
 generalize w15.drew = w16 at BK269 BK270 BK275 BK276 HB hHeld ⊢
 refine take_ (i := 0) (N := some 11) (v := ?_) (a' := ?_) #[true, false, false, false] rfl rfl (by kernel_rfl) (fun _ _ _ h => h) (Or.inl ⟨by rfl, ?_⟩) hHeld ?_ ?_
 rotate_left
 ·rintro w' ⟨s0, s1, s2, s3⟩
  go_simp
  with_reducible rfl
 rotate_left
 ·exact acq
 refine take_ (i := 1) (N := some 12) (v := ?_) (a' := ?_) #[true, true, false, false] rfl rfl (by kernel_rfl) (fun _ _ _ h => h) (Or.inl ⟨by rfl, ?_⟩) hHeld ?_ ?_
 rotate_left
 ·rintro w' ⟨s0, s1, s2, s3⟩
  go_simp
  with_reducible rfl
 rotate_left
 ·exact acq
 refine one_ (i := 2) (N := none) #[true, true, true, false] rfl rfl (by kernel_rfl) (by decide) (fun K hK => ?_)
 have hs17 := bkc0 BK269
 have hfs17 := bkF BK269.out 0
 have hns17_1 := NB270_269.out
 have hns17_2 := NB275_269.out
 have hns17_3 := NB276_269.out
 have hms17_1 := NB269_270.out
 have hms17_2 := NB269_275.out
 have hms17_3 := NB269_276.out
 have hs18 := bkc1 BK269
 have hfs18 := bkF BK269.out 1
 have hns18_1 := NB270_269.out
 have hns18_2 := NB275_269.out
 have hns18_3 := NB276_269.out
 have hms18_1 := NB269_270.out
 have hms18_2 := NB269_275.out
 have hms18_3 := NB269_276.out
 refine skip_ (w1 := ?_) (by rfl) rfl ?_ ?_
 rotate_left
 ·go_simp
  rfl
 refine hK.out _ _ ⟨((cell_far (p := ⟨gb269, _, none⟩) NB275_269.out _).trans (((cell_far (p := ⟨gb269, _, none⟩) NB275_269.out _).trans (hHeld.1)))), ((cell_far (p := ⟨gb269, _, none⟩) NB275_269.out _).trans (((cell_far (p := ⟨gb269, _, none⟩) NB275_269.out _).trans (hHeld.2.1)))), ((cell_far (p := ⟨gb269, _, none⟩) NB276_269.out _).trans (((cell_far (p := ⟨gb269, _, none⟩) NB276_269.out _).trans (hHeld.2.2.1)))), ((cell_far (p := ⟨gb269, _, none⟩) NB276_269.out _).trans (((cell_far (p := ⟨gb269, _, none⟩) NB276_269.out _).trans (hHeld.2.2.2))))⟩ (fun hHeld => ?_)
 clear hK K
 refine one_ (i := 3) (N := none) #[true, true, true, true] rfl rfl (by kernel_rfl) (by decide) (fun K hK => ?_)
 have hs19 := bkc0 BK270
 have hfs19 := bkF BK270.out 0
 have hns19_0 := NB269_270.out
 have hns19_2 := NB275_270.out
 have hns19_3 := NB276_270.out
 have hms19_0 := NB270_269.out
 have hms19_2 := NB270_275.out
 have hms19_3 := NB270_276.out
 have hs20 := bkc1 BK270
 have hfs20 := bkF BK270.out 1
 have hns20_0 := NB269_270.out
 have hns20_2 := NB275_270.out
 have hns20_3 := NB276_270.out
 have hms20_0 := NB270_269.out
 have hms20_2 := NB270_275.out
 have hms20_3 := NB270_276.out
 refine skip_ (w1 := ?_) (by rfl) rfl ?_ ?_
 rotate_left
 ·go_simp
  rfl
 refine hK.out _ _ ⟨((cell_far (p := ⟨gb270, _, none⟩) NB275_270.out _).trans (((cell_far (p := ⟨gb270, _, none⟩) NB275_270.out _).trans (hHeld.1)))), ((cell_far (p := ⟨gb270, _, none⟩) NB275_270.out _).trans (((cell_far (p := ⟨gb270, _, none⟩) NB275_270.out _).trans (hHeld.2.1)))), ((cell_far (p := ⟨gb270, _, none⟩) NB276_270.out _).trans (((cell_far (p := ⟨gb270, _, none⟩) NB276_270.out _).trans (hHeld.2.2.1)))), ((cell_far (p := ⟨gb270, _, none⟩) NB276_270.out _).trans (((cell_far (p := ⟨gb270, _, none⟩) NB276_270.out _).trans (hHeld.2.2.2))))⟩ (fun hHeld => ?_)
 clear hK K
 refine done_ (by kernel_rfl) ?_
 try go_wp2
 refine bodyPost_ret (results_cc rfl _ _ gb269 gb270 25 25 #[.int .i64 t271, .int .i64 t272] #[.int .i64 t273, .int .i64 t274] (0, 0) (0, 0) _ _ rfl bkv Try.underlying25 rfl (by kernel_rfl) rfl bkv Try.underlying25 rfl (by kernel_rfl)) rfl ?_
 exact ⟨rq1, bw_9⟩

end Go.Proofs.Ytigcjehokbgclaa.P
