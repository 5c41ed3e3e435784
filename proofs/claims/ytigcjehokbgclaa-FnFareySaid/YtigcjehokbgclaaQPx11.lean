-- By this session's driver (wip/tools/mk.py) of the kit's print program, over several statements at once. Not trusted: Lean checks it.
import Derived.Test.YtigcjehokbgclaaQWZip
import Derived.Test.YtigcjehokbgclaaQPx0
import Derived.Test.YtigcjehokbgclaaQPx7
namespace Go.Proofs.Ytigcjehokbgclaa.P
open Go.RowKit Go.Proofs.YtigcjehokbgclaaW.PrintWords Go.Proofs.YtigcjehokbgclaaW.PrintLast Go.Proofs.YtigcjehokbgclaaW.PrintMore
attribute [local go_sem] max2_int min2_int max_two min_two max_three min_three max_four min_four   -- for this text's walks alone
set_option linter.unusedVariables false
set_option linter.unusedSimpArgs false
theorem bw_11 {n : Nat} {v v' : World} (h : Below n v v' := by repeat (first | (with_reducible first | exact HB.out | apply bwA | apply pbN | apply bwD | refine bwS ?_ GE316.out | refine bwS ?_ GE319.out) | exact HB.out)) : Below n v v' := h
theorem ln_11 {P : Prop} (h : P := by (try simp only [List.map_toArray, List.map_cons, List.map_nil]); first | done | rfl | (simp only [List.length_drop, List.length_take]; rfl)) : P := h
theorem z11_0 {p : Prop} (h : p := by (with_reducible repeat first | apply bkN | apply bkD | apply bkA); refine bkp (cs := #[.int .i64 (wrap64 (Int.tdiv (wrap64 ((wrap64 (a0_0 * x4_2)) - 1)) a0_1)), .int .i64 0]) ?_ 1 _ rfl; (with_reducible repeat first | apply bkN | apply bkD | apply bkA); refine bkp (cs := #[.int .i64 0, .int .i64 0]) ?_ 0 _ rfl; (with_reducible repeat first | apply bkN | apply bkD | apply bkA); exact BK319.out) : p := h

theorem cellq_ {w w' : World} {n : Nat} {a : Addr} {v : Option Value} (h : World.drewN w n = w') (hc : w.cell? a = v) : w'.cell? a = v := by
 subst h
 first | exact hc | simpa using hc
theorem frozq_ {w w' : World} {n : Nat} {a : Addr} {v : Bool} (h : World.drewN w n = w') (hc : w.frozen? a = v) : w'.frozen? a = v := by
 subst h
 first | exact hc | simpa using hc
/-! ### impl_ParentsOf: function 12 -/
mutual
def impl_ParentsOf.j0 : Nat → Bool → Int → Int → Option ((List (S25)) × Bool)
 | 0, _, _, _ => none
 | k + 1, x13, x317000, x317001 => if x13 = true then (some (([] : List (S25)), false)) else (impl_ParentsOf.l0 k 1 x317000 x317001)
def impl_ParentsOf.l0 : Nat → Int → Int → Int → Option ((List (S25)) × Bool)
 | 0, _, _, _ => none
 | k + 1, x4, x317000, x317001 => if x4 < x317001 then ((impl_mod.f (wrap64 ((wrap64 (x317000 * x4)) - 1)) x317001).bind fun t318 => (if t318 = 0 then (if x317001 = 0 then (none) else (some ((([(⟨wrap64 (Int.tdiv (wrap64 ((wrap64 (x317000 * x4)) - 1)) x317001), x4⟩ : S25), (⟨wrap64 (x317000 - (wrap64 (Int.tdiv (wrap64 ((wrap64 (x317000 * x4)) - 1)) x317001))), wrap64 (x317001 - x4)⟩ : S25)] : List (S25))), true))) else (impl_ParentsOf.l0 k (wrap64 (x4 + 1)) x317000 x317001))) else (some (([] : List (S25)), false))
end
def impl_ParentsOf.f (k : Nat) (a0_0 : Int) (a0_1 : Int) : Option ((List (S25)) × Bool) := (impl_IsSlope.f k a0_0 a0_1).bind fun t317 => (if t317 = true then (impl_ParentsOf.j0 k (decide (a0_1 < 2)) a0_0 a0_1) else (impl_ParentsOf.j0 k true a0_0 a0_1))
theorem impl_ParentsOf.mono_l : ∀ k, (∀ y0 y1 y2, LeO (impl_ParentsOf.j0 k y0 y1 y2) (impl_ParentsOf.j0 (k + 1) y0 y1 y2)) ∧ (∀ y0 y1 y2, LeO (impl_ParentsOf.l0 k y0 y1 y2) (impl_ParentsOf.l0 (k + 1) y0 y1 y2))
 | 0 => ⟨fun _ _ _ r h => by simp [impl_ParentsOf.j0] at h, fun _ _ _ r h => by simp [impl_ParentsOf.l0] at h⟩
 | k + 1 => by
  obtain ⟨ih0, ih1⟩ := impl_ParentsOf.mono_l k
  have i0 := fun z0 z1 z2 => MoO.mk (ih0 z0 z1 z2)
  have i1 := fun z0 z1 z2 => MoO.mk (ih1 z0 z1 z2)
  refine ⟨?_, ?_⟩
  ·intro y0 y1 y2
   unfold impl_ParentsOf.j0
   exact mo_
  intro y0 y1 y2
  unfold impl_ParentsOf.l0
  exact mo_
theorem impl_ParentsOf.mono : ∀ a0 a1 k, LeO (impl_ParentsOf.f k a0 a1) (impl_ParentsOf.f (k + 1) a0 a1) := by
 intro a0 a1 k
 obtain ⟨ih0, ih1⟩ := impl_ParentsOf.mono_l k
 have i0 := fun z0 z1 z2 => MoO.mk (ih0 z0 z1 z2)
 have i1 := fun z0 z1 z2 => MoO.mk (ih1 z0 z1 z2)
 unfold impl_ParentsOf.f
 exact mo_
instance impl_ParentsOf.mi {a0 a1 k} : MoO (impl_ParentsOf.f k a0 a1) (impl_ParentsOf.f (k + 1) a0 a1) := ⟨impl_ParentsOf.mono _ _ _⟩
set_option maxHeartbeats 8000000 in
set_option maxRecDepth 100000 in
theorem impl_ParentsOf.calls (k : Nat) (a0_0 : Int) (a0_1 : Int) (r1 : List (S25)) (r2 : Bool) (w : World) (h : impl_ParentsOf.f k a0_0 a0_1 = some (r1, r2)) :
  Calls Try.prog 12 #[.agg #[.int .i64 a0_0, .int .i64 a0_1]] w fun e w' => ∃ v0_ : Value, e = .returned (.tuple #[v0_, .bool r2]) ∧ Kd.R k25 25 w' w.heap.size (fun _ => True) v0_ r1 ∧ Below w.heap.size w w' := by
 have hu25 := Try.underlying25
 have HB := Az.mk (Below.refl w.heap.size w)
 have H : ((impl_IsSlope.f k a0_0 a0_1).bind fun t317 => (if t317 = true then (impl_ParentsOf.j0 k (decide (a0_1 < 2)) a0_0 a0_1) else (impl_ParentsOf.j0 k true a0_0 a0_1))) = some (r1, r2) := h
 clear h
 have HC2 := Az.mk H
 clear H
 go_enter Try.func12, Try.ntmps12
 go_upto_region 1 with (first | ((with_reducible refine gtD (N := 1) rfl ?_); refine bx (N := 1) (cs := #[.int .i64 a0_0, .int .i64 a0_1]) (t := 25) ?_; intro gb316 hg w3 hbox hb; have BK316 := Az.mk (hbox); have GW316 := gwz hg bw_11; have GE316 := gwz hg bw_11; replace HB := Az.mk (bwT bw_11 hb); clear hb hbox hg))
 (try simp only [Act.put, List.setIfInBounds_toArray, List.set_cons_zero, List.set_cons_succ])
 go_cut [13] (fun v13 wc => ∃ (kq : Nat) (x13_1 : Bool), v13 = .bool x13_1 ∧ Az (impl_ParentsOf.j0 kq x13_1 a0_0 a0_1 = some (r1, r2)) ∧ Az (kq ≤ k) ∧ Az (wc.heap[gb316]? = some (.cells #[.int .i64 a0_0, .int .i64 a0_1] 25 (0, 0))) ∧ Az (Below w.heap.size w wc))
 case first =>
  have H := HC2.out
  clear HC2
  replace H := bez H
  obtain ⟨t317, A4, H⟩ := H
  try dsimp only at H
  by_cases c5 : t317 = true
  ·subst c5
   rw [if_pos rfl] at H
   have H' := Az.mk H
   clear H
   have hcz6_0 := bkc0 BK316
   have hcz6_1 := bkc1 BK316
   have hfz6_0 := bkF BK316.out 0
   have hfz6_1 := bkF BK316.out 1
   go_wp2_with (first | ((with_reducible refine gtC (f := 27) rfl ?_); refine clz Try.func27 (some 7) #[.agg #[.int .i64 a0_0, .int .i64 a0_1]] ?_; (with_reducible refine (impl_IsSlope.calls k a0_0 a0_1 true _ A4.out).mono ?_); rintro e w7 ⟨rfl, hb⟩; refine ⟨_, rfl, ?_⟩; replace BK316 := bkz BK316 hb; replace HB := Az.mk (bwT bw_11 hb); (try clear hb); obtain ⟨hcz8_0, hcz8_1, hfz8_0, hfz8_1⟩ := bq2 BK316))
   go_meet
   case rel => exact ⟨_, (decide (a0_1 < 2)), rq2, H', ⟨by first | omega | exact Nat.le_refl _⟩, ⟨bk1 BK316⟩, ⟨bw_11⟩⟩
  replace c5 := Bool.eq_false_iff.mpr c5
  subst c5
  rw [if_neg (show ¬ (false = true) by decide)] at H
  have H' := Az.mk H
  clear H
  have hcz9_0 := bkc0 BK316
  have hcz9_1 := bkc1 BK316
  have hfz9_0 := bkF BK316.out 0
  have hfz9_1 := bkF BK316.out 1
  go_wp2_with (first | ((with_reducible refine gtC (f := 27) rfl ?_); refine clz Try.func27 (some 7) #[.agg #[.int .i64 a0_0, .int .i64 a0_1]] ?_; (with_reducible refine (impl_IsSlope.calls k a0_0 a0_1 false _ A4.out).mono ?_); rintro e w10 ⟨rfl, hb⟩; refine ⟨_, rfl, ?_⟩; replace BK316 := bkz BK316 hb; replace HB := Az.mk (bwT bw_11 hb); (try clear hb)))
  go_meet
  case rel => exact ⟨_, (true), rq2, H', ⟨by first | omega | exact Nat.le_refl _⟩, ⟨bk1 BK316⟩, ⟨bw_11⟩⟩
 clear HC2
 try clear c5
 try clear hcz6_0
 try clear hcz6_1
 try clear hcz8_0
 try clear hcz8_1
 try clear hcz9_0
 try clear hcz9_1
 try clear hfz6_0
 try clear hfz6_1
 try clear hfz8_0
 try clear hfz8_1
 try clear hfz9_0
 try clear hfz9_1
 obtain ⟨kq, x13_1, rfl, HA, HJ1, BK316, HB⟩ := hcut
 cases kq with
 | zero => exact absurd HA.out (by simp [impl_ParentsOf.j0])
 | succ kj1 =>
  have H := HA.out
  clear HA
  simp only [impl_ParentsOf.j0] at H
  by_cases c11 : x13_1 = true
  ·subst c11
   rw [if_pos rfl] at H
   simp only [Option.some.injEq, Prod.mk.injEq] at H
   obtain ⟨rfl, rfl⟩ := H
   go_wp2
   go_ret2
   exact ⟨_, rq1, by first | exact Kd.R_nil _ _ _ _ _ | exact Kd.N_nil _ _ _ _ _ | exact Kd.V_nil _ _ _ _ _ | exact Kd.Q_nil _ _ _ _ _ | exact Kd.S_nil _ _ _ _ _, bw_11⟩
  replace c11 := Bool.eq_false_iff.mpr c11
  subst c11
  rw [if_neg (show ¬ (false = true) by decide)] at H
  have H' := Az.mk H
  clear H
  go_wp2
  go_loopg [4] kj1 (fun kq v4 w' => ∃ (x4_2 : Int), v4 = .int .i64 x4_2 ∧ Az (impl_ParentsOf.l0 kq x4_2 a0_0 a0_1 = some (r1, r2)) ∧ Az (kq ≤ kj1) ∧ Az (w'.heap[gb316]? = some (.cells #[.int .i64 a0_0, .int .i64 a0_1] 25 (0, 0))) ∧ Az (Below w.heap.size w w'))
  case atStart => exact ⟨(1), rq2, H', ⟨Nat.le_refl _⟩, ⟨bk1 BK316⟩, ⟨bw_11⟩⟩
  clear H'
  try clear c5
  try clear c11
  try clear hcz6_0
  try clear hcz6_1
  try clear hcz8_0
  try clear hcz8_1
  try clear hcz9_0
  try clear hcz9_1
  try clear hfz6_0
  try clear hfz6_1
  try clear hfz8_0
  try clear hfz8_1
  try clear hfz9_0
  try clear hfz9_1
  obtain ⟨x4_2, rfl, HA, HK2, BK316, HB⟩ := hrel
  cases gk with
  | zero => exact absurd HA.out (by simp [impl_ParentsOf.l0])
  | succ k2 =>
   have H := HA.out
   clear HA
   simp only [impl_ParentsOf.l0] at H
   by_cases c12 : x4_2 < a0_1
   rotate_left
   ·rw [if_neg c12] at H
    have c12b0 : decide (x4_2 < a0_1) = false := decide_eq_false c12
    clear c12
    simp only [Option.some.injEq, Prod.mk.injEq] at H
    obtain ⟨rfl, rfl⟩ := H
    have hcz24_0 := bkc0 BK316
    have hcz24_1 := bkc1 BK316
    have hfz24_0 := bkF BK316.out 0
    have hfz24_1 := bkF BK316.out 1
    go_wp2
    go_ret2
    exact ⟨_, rq1, by first | exact Kd.R_nil _ _ _ _ _ | exact Kd.N_nil _ _ _ _ _ | exact Kd.V_nil _ _ _ _ _ | exact Kd.Q_nil _ _ _ _ _ | exact Kd.S_nil _ _ _ _ _, bw_11⟩
   rw [if_pos c12] at H
   have c12b0 : decide (x4_2 < a0_1) = true := decide_eq_true c12
   clear c12
   replace H := bez H
   obtain ⟨t318, A13, H⟩ := H
   try dsimp only at H
   by_cases c14 : t318 = 0
   rotate_left
   ·rw [if_neg c14] at H
    have c14b0 : (t318 == 0) = false := beq_eq_false_iff_ne.mpr c14
    have c14b1 : (t318 != 0) = true := bne_iff_ne.mpr c14
    have H' := Az.mk H
    clear H
    have hcz23_0 := bkc0 BK316
    have hcz23_1 := bkc1 BK316
    have hfz23_0 := bkF BK316.out 0
    have hfz23_1 := bkF BK316.out 1
    go_wp2_with (first | ((with_reducible refine gtC (f := 36) rfl ?_); refine clz Try.func36 (some 27) #[.int .i64 (wrap64 ((wrap64 (a0_0 * x4_2)) - 1)), .int .i64 a0_1] ?_; (with_reducible refine (impl_mod.calls (wrap64 ((wrap64 (a0_0 * x4_2)) - 1)) a0_1 t318 _ A13.out).mono ?_); rintro e w' ⟨rfl, ⟨nd, rfl⟩⟩; refine ⟨_, rfl, ?_⟩))
    go_roundg k2
    case measure => have := HJ1.out; have := HK2.out; omega
    case rel => exact ⟨(wrap64 (x4_2 + 1)), rq2, H', ⟨by have := HJ1.out; have := HK2.out; omega⟩, ⟨bk1 BK316⟩, ⟨bw_11⟩⟩
   rw [if_pos c14] at H
   have c14b0 : (t318 == 0) = true := beq_iff_eq.mpr c14
   have c14b1 : (t318 != 0) = false := bne_eq_false_iff_eq.mpr c14
   clear c14
   by_cases c15 : a0_1 = 0
   ·rw [if_pos c15] at H
    exact absurd H (by simp)
   rw [if_neg c15] at H
   have c15b0 : (a0_1 == 0) = false := beq_eq_false_iff_ne.mpr c15
   have c15b1 : (a0_1 != 0) = true := bne_iff_ne.mpr c15
   obtain ⟨y320, hy320⟩ : ∃ y_ : List (S25), y_ = (([(⟨wrap64 (Int.tdiv (wrap64 ((wrap64 (a0_0 * x4_2)) - 1)) a0_1), x4_2⟩ : S25), (⟨wrap64 (a0_0 - (wrap64 (Int.tdiv (wrap64 ((wrap64 (a0_0 * x4_2)) - 1)) a0_1))), wrap64 (a0_1 - x4_2)⟩ : S25)] : List (S25))) := ⟨_, rfl⟩
   replace H : (some (y320, true)) = some (r1, r2) := by first | (rw [hy320]; with_reducible exact H) | (have H2_ := (Option.bind_some _ _).symm.trans H; rw [hy320]; with_reducible exact H2_) | (have H2_ := (Option.bind_some _ _).symm.trans H; with_reducible exact H2_) | with_reducible exact H | (rw [hy320]; exact H) | exact H
   have Ny320 := Az.mk hy320
   clear hy320
   simp only [Option.some.injEq, Prod.mk.injEq] at H
   obtain ⟨rfl, rfl⟩ := H
   have hcz16_0 := bkc0 BK316
   have hcz16_1 := bkc1 BK316
   have hfz16_0 := bkF BK316.out 0
   have hfz16_1 := bkF BK316.out 1
   go_wp2_with (first | ((with_reducible refine gtC (f := 36) rfl ?_); refine clz Try.func36 (some 27) #[.int .i64 (wrap64 ((wrap64 (a0_0 * x4_2)) - 1)), .int .i64 a0_1] ?_; (with_reducible refine (impl_mod.calls (wrap64 ((wrap64 (a0_0 * x4_2)) - 1)) a0_1 t318 _ A13.out).mono ?_); rintro e w' ⟨rfl, ⟨nd, rfl⟩⟩; refine ⟨_, rfl, ?_⟩; (try (rw [drewN_self wr]; generalize hq_ : World.drewN wr _ = wr; (try replace hfz16_1 := frozq_ hq_ hfz16_1); (try replace hfz16_0 := frozq_ hq_ hfz16_0); (try replace hcz16_1 := cellq_ hq_ hcz16_1); (try replace hcz16_0 := cellq_ hq_ hcz16_0); (try replace hfz9_1 := frozq_ hq_ hfz9_1); (try replace hfz9_0 := frozq_ hq_ hfz9_0); (try replace hfz8_1 := frozq_ hq_ hfz8_1); (try replace hfz8_0 := frozq_ hq_ hfz8_0); (try replace hfz6_1 := frozq_ hq_ hfz6_1); (try replace hfz6_0 := frozq_ hq_ hfz6_0); (try replace hcz9_1 := cellq_ hq_ hcz9_1); (try replace hcz9_0 := cellq_ hq_ hcz9_0); (try replace hcz8_1 := cellq_ hq_ hcz8_1); (try replace hcz8_0 := cellq_ hq_ hcz8_0); (try replace hcz6_1 := cellq_ hq_ hcz6_1); (try replace hcz6_0 := cellq_ hq_ hcz6_0); have n0_ : Az (wr.heap[gb316]? = some (.cells #[.int .i64 a0_0, .int .i64 a0_1] 25 (0, 0))) := ⟨by rw [← hq_]; exact (bk1 BK316)⟩; have n1_ : Az (Below w.heap.size w wr) := ⟨by rw [← hq_]; exact bw_11⟩; clear BK316 HB hq_; have BK316 := n0_; have HB := n1_; clear n0_ n1_))) | ((with_reducible refine gtD (N := 5) rfl ?_); refine bx (N := 5) (cs := #[.int .i64 0, .int .i64 0]) (t := 25) ?_; intro gb319 hg w17 hbox hb; have BK319 := Az.mk (hbox); have GW319 := gwz hg bw_11; have GE319 := gwz hg bw_11; replace HB := Az.mk (bwT bw_11 hb); have NB316_319 := nlt BK316 hg; have NB319_316 := ngt BK316 hg; replace BK316 := bkz BK316 hb; clear hb hbox hg; have hnb18 := NB319_316.out; have hnc18 := NB316_319.out; obtain ⟨hcz19_0, hcz19_1, hfz19_0, hfz19_1⟩ := bq2 BK319; obtain ⟨hcz20_0, hcz20_1, hfz20_0, hfz20_1⟩ := bq2 BK316) | ((with_reducible refine gtD (N := 50) rfl ?_); refine Kd.R_lit k25 _ 25 ?hg (N := 50) ?hd (xs := ([(⟨wrap64 (Int.tdiv (wrap64 ((wrap64 (a0_0 * x4_2)) - 1)) a0_1), x4_2⟩ : S25), (⟨wrap64 (a0_0 - (wrap64 (Int.tdiv (wrap64 ((wrap64 (a0_0 * x4_2)) - 1)) a0_1))), wrap64 (a0_1 - x4_2)⟩ : S25)] : List (S25))) (inner := [.int .i64 (wrap64 (Int.tdiv (wrap64 ((wrap64 (a0_0 * x4_2)) - 1)) a0_1)), .int .i64 x4_2, .int .i64 (wrap64 (a0_0 - (wrap64 (Int.tdiv (wrap64 ((wrap64 (a0_0 * x4_2)) - 1)) a0_1)))), .int .i64 (wrap64 (a0_1 - x4_2))]) (ok := fun _ => True) (okp := fun _ => True) ?hr ?hp (fun _ hk => hk) trivial (Below.refl _ _) (Nat.le_refl _) (by simp) ?_; (case hd => rfl); (case hg => rfl); (case hr => first | (go_simp; done) | (go_simp; rfl)); (case hp => exact (Reps.c2 (show Kd.M k25 _ _ _ (⟨wrap64 (Int.tdiv (wrap64 ((wrap64 (a0_0 * x4_2)) - 1)) a0_1), x4_2⟩ : S25) [.int .i64 (wrap64 (Int.tdiv (wrap64 ((wrap64 (a0_0 * x4_2)) - 1)) a0_1)), .int .i64 x4_2] from (k25_mkM _ _ _ (⟨wrap64 (Int.tdiv (wrap64 ((wrap64 (a0_0 * x4_2)) - 1)) a0_1), x4_2⟩ : S25) )) (Reps.c2 (show Kd.M k25 _ _ _ (⟨wrap64 (a0_0 - (wrap64 (Int.tdiv (wrap64 ((wrap64 (a0_0 * x4_2)) - 1)) a0_1))), wrap64 (a0_1 - x4_2)⟩ : S25) [.int .i64 (wrap64 (a0_0 - (wrap64 (Int.tdiv (wrap64 ((wrap64 (a0_0 * x4_2)) - 1)) a0_1)))), .int .i64 (wrap64 (a0_1 - x4_2))] from (k25_mkM _ _ _ (⟨wrap64 (a0_0 - (wrap64 (Int.tdiv (wrap64 ((wrap64 (a0_0 * x4_2)) - 1)) a0_1))), wrap64 (a0_1 - x4_2)⟩ : S25) )) (Reps.none _ _)))); intro v321 w21 ho22 hb hg_ hnew_; clear hg_ hnew_; (first | rw [← Ny320.out] at ho22 | (simp only [Int.reduceToNat] at ho22; rw [← Ny320.out] at ho22)); have HO322 := Az.mk (Kd.R_lower (Kd.R_newB (Kd.R_newB ho22 (g := gb316) (o := .cells #[.int .i64 a0_0, .int .i64 a0_1] 25 (0, 0)) bkv) (g := gb319) (o := .cells #[.int .i64 (wrap64 (Int.tdiv (wrap64 ((wrap64 (a0_0 * x4_2)) - 1)) a0_1)), .int .i64 x4_2] 25 (0, 0)) z11_0) (bwZ bw_11)); replace BK316 := Az.mk (bkB (g := gb316) (o := .cells #[.int .i64 a0_0, .int .i64 a0_1] 25 (0, 0)) bkv hb); replace BK319 := Az.mk (bkB (g := gb319) (o := .cells #[.int .i64 (wrap64 (Int.tdiv (wrap64 ((wrap64 (a0_0 * x4_2)) - 1)) a0_1)), .int .i64 x4_2] 25 (0, 0)) z11_0 hb); replace HB := Az.mk (bwT bw_11 hb); clear hb ho22))
   go_ret2
   exact ⟨_, rq1, by (with_reducible repeat (first | apply Kd.R_alloc | apply Kd.R_drewN | apply Kd.R_drew)); exact Kd.R_mono HO322.out (fun _ hk => trivial), bw_11⟩

/-! ### spec_l14Down: function 37 -/
def spec_l14Down.f (a0 : Int) (a1 : Int) : Option (Int) := if a1 = 0 then (none) else (if (Int.tmod a0 a1) < 0 then (some (wrap64 ((wrap64 (Int.tdiv a0 a1)) - 1))) else (some (wrap64 (Int.tdiv a0 a1))))
set_option maxHeartbeats 8000000 in
set_option maxRecDepth 100000 in
theorem spec_l14Down.calls (a0 : Int) (a1 : Int) (r : Int) (w : World) (h : spec_l14Down.f a0 a1 = some r) :
  Calls Try.prog 37 #[.int .i64 a0, .int .i64 a1] w fun e w' => e = .returned (.int .i64 r) ∧ Drawn0 w w' := by
 have H : (if a1 = 0 then (none) else (if (Int.tmod a0 a1) < 0 then (some (wrap64 ((wrap64 (Int.tdiv a0 a1)) - 1))) else (some (wrap64 (Int.tdiv a0 a1))))) = some r := h
 clear h
 by_cases c3 : a1 = 0
 ·rw [if_pos c3] at H
  exact absurd H (by simp)
 rw [if_neg c3] at H
 have c3b0 : (a1 == 0) = false := beq_eq_false_iff_ne.mpr c3
 have c3b1 : (a1 != 0) = true := bne_iff_ne.mpr c3
 by_cases c4 : (Int.tmod a0 a1) < 0
 ·rw [if_pos c4] at H
  have c4b0 : decide ((Int.tmod a0 a1) < 0) = true := decide_eq_true c4
  clear c4
  obtain rfl := Option.some.inj H
  go_enter Try.func37, Try.ntmps37
  go_wp2
  go_ret
  exact ⟨by first | rfl | (simp; done) | (simp [*]; done), by repeat (first | exact Drawn0.refl _ | apply Drawn0.step)⟩
 rw [if_neg c4] at H
 have c4b0 : decide ((Int.tmod a0 a1) < 0) = false := decide_eq_false c4
 clear c4
 obtain rfl := Option.some.inj H
 go_enter Try.func37, Try.ntmps37
 go_wp2
 go_ret
 exact ⟨by first | rfl | (simp; done) | (simp [*]; done), by repeat (first | exact Drawn0.refl _ | apply Drawn0.step)⟩

end Go.Proofs.Ytigcjehokbgclaa.P
