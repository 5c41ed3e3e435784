-- By this session's driver (wip/tools/mk.py) of the kit's print program, over several statements at once. Not trusted: Lean checks it.
import Derived.Test.YtigcjehokbgclaaQWZip
import Derived.Test.YtigcjehokbgclaaQPx0
import Derived.Test.YtigcjehokbgclaaQPx2
import Derived.Test.YtigcjehokbgclaaQPx5
import Derived.Test.YtigcjehokbgclaaQPx7
import Derived.Test.YtigcjehokbgclaaQPx8
import Derived.Test.YtigcjehokbgclaaQPx9
import Derived.Test.YtigcjehokbgclaaQPx10
import Derived.Test.YtigcjehokbgclaaQPx11
import Derived.Test.YtigcjehokbgclaaQPx12
import Derived.Test.YtigcjehokbgclaaQPx13
import Derived.Test.YtigcjehokbgclaaQPx15
import Derived.Test.YtigcjehokbgclaaQPx16
import Derived.Test.YtigcjehokbgclaaQPx19
import Derived.Test.YtigcjehokbgclaaQPx20
import Derived.Test.YtigcjehokbgclaaQPx22
import Derived.Test.YtigcjehokbgclaaQPx23
import Derived.Test.YtigcjehokbgclaaQPx24
import Derived.Test.YtigcjehokbgclaaQPx30
namespace Go.Proofs.Ytigcjehokbgclaa.P
open Go.RowKit Go.Proofs.YtigcjehokbgclaaW.PrintWords Go.Proofs.YtigcjehokbgclaaW.PrintLast Go.Proofs.YtigcjehokbgclaaW.PrintMore
attribute [local go_sem] max2_int min2_int max_two min_two max_three min_three max_four min_four   -- for this text's walks alone
set_option linter.unusedVariables false
set_option linter.unusedSimpArgs false
open Bool renaming true → T, false → F
theorem bw_31 {n : Nat} {v v' : World} (h : Below n v v' := by repeat (first | (with_reducible first | exact HB.out | apply bwA | apply pbN | apply bwD | refine bwS ?_ GE573.out | refine bwS ?_ GE574.out | refine bwS ?_ GE579.out | refine bwS ?_ GE587.out | refine bwS ?_ GE588.out | refine bwS ?_ GE594.out) | exact HB.out)) : Below n v v' := h
theorem ln_31 {P : Prop} (h : P := by (try simp only [List.map_toArray, List.map_cons, List.map_nil]); first | done | rfl | (simp only [List.length_drop, List.length_take]; rfl)) : P := h
open Option renaming bind_eq_some_iff → be
theorem z31_9 {p : Prop} (h : p := by kernel_rfl) : p := h
theorem z31_8 {p : Prop} (h : p := by (with_reducible repeat (first | apply Kd.R_alloc | apply Kd.R_drewN | apply Kd.R_drew)); exact HO606.out) : p := h
theorem z31_7 {p : Prop} (h : p := by (with_reducible repeat (first | apply Kd.R_alloc | apply Kd.R_drewN | apply Kd.R_drew)); exact HO_8.out) : p := h
theorem z31_6 {p : Prop} (h : p := by (with_reducible repeat (first | apply Kd.R_alloc | apply Kd.R_drewN | apply Kd.R_drew)); exact HO_13.out) : p := h
theorem z31_5 {p : Prop} (h : p := by (with_reducible repeat (first | apply Kd.R_alloc | apply Kd.R_drewN | apply Kd.R_drew)); exact HO_11.out) : p := h
theorem z31_4 {p : Prop} (h : p := by (with_reducible repeat (first | apply Kd.R_alloc | apply Kd.R_drewN | apply Kd.R_drew)); exact (Kd.R_mono (Kd.R_mono (Kd.R_far (p := ⟨gb588, 1, none⟩) (Kd.R_far (p := ⟨gb588, 0, none⟩) (Kd.R_far (p := ⟨gb587, 1, none⟩) (Kd.R_far (p := ⟨gb587, 0, none⟩) (Kd.R_mono (Kd.R_mono HO582.out (fun k_ hk => (⟨hk, hk.1.2⟩ : _ ∧ k_ ≠ gb587))) (fun k_ hk => (⟨hk, hk.1.2⟩ : _ ∧ k_ ≠ gb588))) (fun _ hk => hk.1.2) (.int .i64 t583)) (fun _ hk => hk.1.2) (.int .i64 t584)) (fun _ hk => hk.2) (.int .i64 t585)) (fun _ hk => hk.2) (.int .i64 t586)) (fun _ h_ => h_.1)) (fun _ h_ => h_.1))) : p := h
theorem z31_3 {p : Prop} (h : p := by (with_reducible repeat (first | apply Kd.R_alloc | apply Kd.R_drewN | apply Kd.R_drew)); exact HO601.out) : p := h
theorem z31_2 {p : Prop} (h : p := by (with_reducible repeat (first | apply Kd.R_alloc | apply Kd.R_drewN | apply Kd.R_drew)); exact HO597.out) : p := h
theorem z31_1 {p : Prop} (h : p := by (with_reducible repeat (first | apply Kd.R_alloc | apply Kd.R_drewN | apply Kd.R_drew)); exact HO591.out) : p := h
theorem z31_0 {p : Prop} (h : p := by (with_reducible repeat (first | apply Kd.R_alloc | apply Kd.R_drewN | apply Kd.R_drew)); exact HO582.out) : p := h

attribute [local go_sem high] eqA25
set_option maxHeartbeats 8000000 in
set_option maxRecDepth 100000 in
theorem laws_FnFarey.calls (k : Nat) (A0 : Option Addr) (c0 : Nat) (l0 : List Int) (r : Bool) (w : World) (hr0 : Kd.C (Kd.int .u8) w A0 l0.length l0) (hc0 : l0.length ≤ c0) (h : laws_FnFarey.f k l0 = some r) :
  Calls Try.prog 3 #[.slice A0 l0.length c0] w fun e w' => e = .returned (.bool r) ∧ Below w.heap.size w w' := by
 have hu25 := Try.underlying25
 have hu41 := Try.underlying41
 have HR0 := Az.mk hr0
 have HC0 := Az.mk hc0
 clear hr0 hc0
 have HB := Az.mk (Below.refl w.heap.size w)
 have H : ((laws_big.f l0).bind fun t568 => (if t568 = true then (some true) else ((spec_DrawSlopeDistance.f k l0).bind fun bt569 => ((impl_SlopeDistance.f k bt569.1 bt569.2.1 bt569.2.2.1 bt569.2.2.2).bind fun t575 => ((spec_DrawNeighbourSlopes.f k l0).bind fun bt576 => ((impl_NeighbourSlopes.f k bt576.1 bt576.2.1 bt576.2.2).bind fun t580 => ((spec_DrawCommonNeighbours.f k l0).bind fun bt583 => ((impl_CommonNeighbours.f k bt583.1 bt583.2.1 bt583.2.2.1 bt583.2.2.2).bind fun t589 => ((spec_DrawParentsOf.f k l0).bind fun bt592 => ((impl_ParentsOf.f k bt592.1 bt592.2).bind fun bt595 => ((spec_ParentsOf.f k bt592.1 bt592.2).bind fun bt599 => ((spec_SlopeDistance.f k bt569.1 bt569.2.1 bt569.2.2.1 bt569.2.2.2).bind fun t603 => (if t575 = t603 then ((spec_NeighbourSlopes.f k bt576.1 bt576.2.1 bt576.2.2).bind fun t604 => ((laws_sameSlopes.f k t580 t604).bind fun t607 => (if t607 = true then ((spec_CommonNeighbours.f k bt583.1 bt583.2.1 bt583.2.2.1 bt583.2.2.2).bind fun t608 => ((laws_sameSlopes.f k t589 t608).bind fun t611 => (if t611 = true then (if (bt595.2 != bt599.2) = true then (none) else ((laws_sameSlopes.f k bt595.1 bt599.1).bind fun t612 => (if t612 = true then ((impl_SlopeDistance.f k bt569.2.2.1 bt569.2.2.2 bt569.1 bt569.2.1).bind fun t613 => (if t575 = t613 then (if t575 ≥ 0 then (if ((t575 == 0) != (bt569.1 == bt569.2.2.1 && (bt569.2.1 == bt569.2.2.2))) = true then (none) else ((spec_CrossNumber.f k bt569.1 bt569.2.1 bt569.2.2.1 bt569.2.2.2).bind fun t614 => (laws_FnFarey.j0 k l0 t575 t580 t589 bt595.1 bt595.2 ((t575 == 1) != (t614 == 1)) bt569.1 bt569.2.1 bt569.2.2.1 bt569.2.2.2 bt576.1 bt576.2.1 bt583.1 bt583.2.1 bt583.2.2.1 bt583.2.2.2 bt592.1 bt592.2))) else (laws_FnFarey.j0 k l0 t575 t580 t589 bt595.1 bt595.2 false bt569.1 bt569.2.1 bt569.2.2.1 bt569.2.2.2 bt576.1 bt576.2.1 bt583.1 bt583.2.1 bt583.2.2.1 bt583.2.2.2 bt592.1 bt592.2)) else (none))) else (none)))) else (none)))) else (none)))) else (none)))))))))))))) = some r := h
 clear h
 replace H := bez H
 obtain ⟨t568, A2, H⟩ := H
 try dsimp only at H
 by_cases c3 : t568 = true
 ·subst c3
  rw [if_pos rfl] at H
  obtain rfl := Option.some.inj H
  go_enter Try.func3, Try.ntmps3
  go_wp2_with (first | ((with_reducible refine gtC (f := 4) rfl ?_); refine clz Try.func4 (some 31) #[.slice A0 l0.length c0] ?_; (with_reducible refine (laws_big.calls _ _ l0 true _ ?side1 ?side2 A2.out).mono ?_); (case side1 => repeat (first | exact HR0.out | (with_reducible refine Kd.C_alloc ?_ _) | (with_reducible refine Kd.C_drewN ?_ _) | (with_reducible refine Kd.C_drew ?_))); (case side2 => exact HC0.out); rintro e w' ⟨rfl, ⟨nd, rfl⟩⟩; refine ⟨_, rfl, ?_⟩))
  go_ret
  exact ⟨rq1, bw_31⟩
 replace c3 := Bool.eq_false_iff.mpr c3
 subst c3
 rw [if_neg (show ¬ (false = true) by decide)] at H
 replace H := bez H
 obtain ⟨⟨t569, t570, t571, t572⟩, A4, H⟩ := H
 try dsimp only at H
 replace H := bez H
 obtain ⟨t575, A5, H⟩ := H
 try dsimp only at H
 replace H := bez H
 obtain ⟨⟨t576, t577, t578⟩, A6, H⟩ := H
 try dsimp only at H
 replace H := bez H
 obtain ⟨t580, A7, H⟩ := H
 try dsimp only at H
 replace H := bez H
 obtain ⟨⟨t583, t584, t585, t586⟩, A8, H⟩ := H
 try dsimp only at H
 replace H := bez H
 obtain ⟨t589, A9, H⟩ := H
 try dsimp only at H
 replace H := bez H
 obtain ⟨⟨t592, t593⟩, A10, H⟩ := H
 try dsimp only at H
 replace H := bez H
 obtain ⟨⟨t595, t598⟩, A11, H⟩ := H
 try dsimp only at H
 replace H := bez H
 obtain ⟨⟨t599, t602⟩, A12, H⟩ := H
 try dsimp only at H
 replace H := bez H
 obtain ⟨t603, A13, H⟩ := H
 try dsimp only at H
 by_cases c14 : t575 = t603
 rotate_left
 ·rw [if_neg c14] at H
  exact absurd H (by simp)
 rw [if_pos c14] at H
 have c14b0 : (t575 == t603) = true := beq_iff_eq.mpr c14
 have c14b1 : (t575 != t603) = false := bne_eq_false_iff_eq.mpr c14
 clear c14
 replace H := bez H
 obtain ⟨t604, A15, H⟩ := H
 try dsimp only at H
 replace H := bez H
 obtain ⟨t607, A16, H⟩ := H
 try dsimp only at H
 by_cases c17 : t607 = true
 rotate_left
 ·replace c17 := Bool.eq_false_iff.mpr c17
  subst c17
  rw [if_neg (show ¬ (false = true) by decide)] at H
  exact absurd H (by simp)
 subst c17
 rw [if_pos rfl] at H
 replace H := bez H
 obtain ⟨t608, A18, H⟩ := H
 try dsimp only at H
 replace H := bez H
 obtain ⟨t611, A19, H⟩ := H
 try dsimp only at H
 by_cases c20 : t611 = true
 rotate_left
 ·replace c20 := Bool.eq_false_iff.mpr c20
  subst c20
  rw [if_neg (show ¬ (false = true) by decide)] at H
  exact absurd H (by simp)
 subst c20
 rw [if_pos rfl] at H
 by_cases c21 : (t598 != t602) = true
 ·rw [if_pos c21] at H
  exact absurd H (by simp)
 rw [if_neg c21] at H
 have c21b0 : (t598 != t602) = false := by simpa using c21
 (try (have c21b1 : decide (t598 = t602) = true := by simpa using c21))
 (try (have c21b2 : (t598 == t602) = true := by simpa using c21))
 clear c21
 replace H := bez H
 obtain ⟨t612, A22, H⟩ := H
 try dsimp only at H
 by_cases c23 : t612 = true
 rotate_left
 ·replace c23 := Bool.eq_false_iff.mpr c23
  subst c23
  rw [if_neg (show ¬ (false = true) by decide)] at H
  exact absurd H (by simp)
 subst c23
 rw [if_pos rfl] at H
 have HC24 := Az.mk H
 clear H
 go_enter Try.func3, Try.ntmps3
 go_upto_region 14 with (first | ((with_reducible refine gtC (f := 4) rfl ?_); refine clz Try.func4 (some 31) #[.slice A0 l0.length c0] ?_; (with_reducible refine (laws_big.calls _ _ l0 false _ ?side1 ?side2 A2.out).mono ?_); (case side1 => repeat (first | exact HR0.out | (with_reducible refine Kd.C_alloc ?_ _) | (with_reducible refine Kd.C_drewN ?_ _) | (with_reducible refine Kd.C_drew ?_))); (case side2 => exact HC0.out); rintro e w' ⟨rfl, ⟨nd, rfl⟩⟩; refine ⟨_, rfl, ?_⟩) | ((with_reducible refine gtC (f := 5) rfl ?_); refine clz Try.func5 (some 34) #[.slice A0 l0.length c0] ?_; (with_reducible refine (spec_DrawSlopeDistance.calls k _ _ l0 t569 t570 t571 t572 _ ?side1 ?side2 A4.out).mono ?_); (case side1 => repeat (first | exact HR0.out | (with_reducible refine Kd.C_alloc ?_ _) | (with_reducible refine Kd.C_drewN ?_ _) | (with_reducible refine Kd.C_drew ?_))); (case side2 => exact HC0.out); rintro e w25 ⟨rfl, hb⟩; refine ⟨_, rfl, ?_⟩; replace HB := Az.mk (bwT bw_31 hb); (try clear hb)) | ((with_reducible refine gtD (N := 3) rfl ?_); (try (refine gate_guard (by rfl) ?_; dsimp only)); refine bx (N := 3) (cs := #[.int .i64 0, .int .i64 0]) (t := 25) ?_; intro gb573 hg w26 hbox hb; have BK573 := Az.mk (hbox); have GW573 := gwz hg bw_31; have GE573 := gwz hg bw_31; replace HB := Az.mk (bwT bw_31 hb); clear hb hbox hg) | ((with_reducible refine gtD (N := 4) rfl ?_); (try (refine gate_guard (by rfl) ?_; dsimp only)); refine bx (N := 4) (cs := #[.int .i64 0, .int .i64 0]) (t := 25) ?_; intro gb574 hg w27 hbox hb; have BK574 := Az.mk (hbox); have GW574 := gwz hg bw_31; have GE574 := gwz hg bw_31; replace HB := Az.mk (bwT bw_31 hb); have NB573_574 := nlt BK573 hg; have NB574_573 := ngt BK573 hg; replace BK573 := bkz BK573 hb; clear hb hbox hg; have hnb28 := NB573_574.out; have hnc28 := NB574_573.out; obtain ⟨hcz29_0, hcz29_1, hfz29_0, hfz29_1⟩ := bq2 BK573; obtain ⟨hcz30_0, hcz30_1, hfz30_0, hfz30_1⟩ := bq2 BK574) | ((with_reducible refine gtC (f := 6) rfl ?_); refine clz Try.func6 (some 39) #[.agg #[.int .i64 t569, .int .i64 t570], .agg #[.int .i64 t571, .int .i64 t572]] ?_; (with_reducible refine (impl_SlopeDistance.calls k t569 t570 t571 t572 t575 _ A5.out).mono ?_); rintro e w31 ⟨rfl, hb⟩; refine ⟨_, rfl, ?_⟩; replace BK573 := Az.mk (bkB (g := gb573) (o := .cells #[.int .i64 t569, .int .i64 t570] 25 (0, 0)) bkv hb); replace BK574 := Az.mk (bkB (g := gb574) (o := .cells #[.int .i64 t571, .int .i64 t572] 25 (0, 0)) bkv hb); replace HB := Az.mk (bwT bw_31 hb); (try clear hb)) | ((with_reducible refine gtC (f := 7) rfl ?_); refine clz Try.func7 (some 42) #[.slice A0 l0.length c0] ?_; (with_reducible refine (spec_DrawNeighbourSlopes.calls k _ _ l0 t576 t577 t578 _ ?side1 ?side2 A6.out).mono ?_); (case side1 => repeat (first | exact (Kd.C_below HR0.out HB.out) | (with_reducible refine Kd.C_alloc ?_ _) | (with_reducible refine Kd.C_drewN ?_ _) | (with_reducible refine Kd.C_drew ?_))); (case side2 => exact HC0.out); rintro e w32 ⟨rfl, hb⟩; refine ⟨_, rfl, ?_⟩; replace BK573 := bkz BK573 hb; replace BK574 := bkz BK574 hb; replace HB := Az.mk (bwT bw_31 hb); (try clear hb)) | ((with_reducible refine gtD (N := 6) rfl ?_); (try (refine gate_guard (by rfl) ?_; dsimp only)); refine bx (N := 6) (cs := #[.int .i64 0, .int .i64 0]) (t := 25) ?_; intro gb579 hg w33 hbox hb; have BK579 := Az.mk (hbox); have GW579 := gwz hg bw_31; have GE579 := gwz hg bw_31; replace HB := Az.mk (bwT bw_31 hb); have NB573_579 := nlt BK573 hg; have NB579_573 := ngt BK573 hg; replace BK573 := bkz BK573 hb; have NB574_579 := nlt BK574 hg; have NB579_574 := ngt BK574 hg; replace BK574 := bkz BK574 hb; clear hb hbox hg; have hnb34 := NB579_573.out; have hnc34 := NB573_579.out; have hnb35 := NB579_574.out; have hnc35 := NB574_579.out; obtain ⟨hcz36_0, hcz36_1, hfz36_0, hfz36_1⟩ := bq2 BK579) | ((with_reducible refine gtC (f := 8) rfl ?_); refine clz Try.func8 (some 47) #[.agg #[.int .i64 t576, .int .i64 t577], .int .i64 t578] ?_; (with_reducible refine (impl_NeighbourSlopes.calls k t576 t577 t578 t580 _ A7.out).mono ?_); rintro e w37 ⟨v581, rfl, ho0, hb⟩; refine ⟨_, rfl, ?_⟩; have HO582 := Az.mk (Kd.R_lower (Kd.R_newB (Kd.R_newB (Kd.R_newB ho0 (g := gb573) (o := .cells #[.int .i64 t569, .int .i64 t570] 25 (0, 0)) bkv) (g := gb574) (o := .cells #[.int .i64 t571, .int .i64 t572] 25 (0, 0)) bkv) (g := gb579) (o := .cells #[.int .i64 t576, .int .i64 t577] 25 (0, 0)) bkv) (bwZ bw_31)); replace BK573 := Az.mk (bkB (g := gb573) (o := .cells #[.int .i64 t569, .int .i64 t570] 25 (0, 0)) bkv hb); replace BK574 := Az.mk (bkB (g := gb574) (o := .cells #[.int .i64 t571, .int .i64 t572] 25 (0, 0)) bkv hb); replace BK579 := Az.mk (bkB (g := gb579) (o := .cells #[.int .i64 t576, .int .i64 t577] 25 (0, 0)) bkv hb); replace HB := Az.mk (bwT bw_31 hb); (try clear hb); (try clear ho0)) | ((with_reducible refine gtC (f := 9) rfl ?_); refine clz Try.func9 (some 50) #[.slice A0 l0.length c0] ?_; (with_reducible refine (spec_DrawCommonNeighbours.calls k _ _ l0 t583 t584 t585 t586 _ ?side1 ?side2 A8.out).mono ?_); (case side1 => repeat (first | exact (Kd.C_below HR0.out HB.out) | (with_reducible refine Kd.C_alloc ?_ _) | (with_reducible refine Kd.C_drewN ?_ _) | (with_reducible refine Kd.C_drew ?_))); (case side2 => exact HC0.out); rintro e w38 ⟨rfl, hb⟩; refine ⟨_, rfl, ?_⟩; replace HO582 := Az.mk (Kd.R_below z31_0 hb); replace BK573 := bkz BK573 hb; replace BK574 := bkz BK574 hb; replace BK579 := bkz BK579 hb; replace HB := Az.mk (bwT bw_31 hb); (try clear hb)) | ((with_reducible refine gtD (N := 9) rfl ?_); (try (refine gate_guard (by rfl) ?_; dsimp only)); refine bx (N := 9) (cs := #[.int .i64 0, .int .i64 0]) (t := 25) ?_; intro gb587 hg w39 hbox hb; replace HO582 := Az.mk (Kd.R_below (Kd.R_elderB z31_0 gb587 (Nat.le_of_eq hg.symm)) hb); have BK587 := Az.mk (hbox); have GW587 := gwz hg bw_31; have GE587 := gwz hg bw_31; replace HB := Az.mk (bwT bw_31 hb); have NB573_587 := nlt BK573 hg; have NB587_573 := ngt BK573 hg; replace BK573 := bkz BK573 hb; have NB574_587 := nlt BK574 hg; have NB587_574 := ngt BK574 hg; replace BK574 := bkz BK574 hb; have NB579_587 := nlt BK579 hg; have NB587_579 := ngt BK579 hg; replace BK579 := bkz BK579 hb; clear hb hbox hg) | ((with_reducible refine gtD (N := 10) rfl ?_); (try (refine gate_guard (by rfl) ?_; dsimp only)); refine bx (N := 10) (cs := #[.int .i64 0, .int .i64 0]) (t := 25) ?_; intro gb588 hg w40 hbox hb; replace HO582 := Az.mk (Kd.R_below (Kd.R_elderB z31_0 gb588 (Nat.le_of_eq hg.symm)) hb); have BK588 := Az.mk (hbox); have GW588 := gwz hg bw_31; have GE588 := gwz hg bw_31; replace HB := Az.mk (bwT bw_31 hb); have NB573_588 := nlt BK573 hg; have NB588_573 := ngt BK573 hg; replace BK573 := bkz BK573 hb; have NB574_588 := nlt BK574 hg; have NB588_574 := ngt BK574 hg; replace BK574 := bkz BK574 hb; have NB579_588 := nlt BK579 hg; have NB588_579 := ngt BK579 hg; replace BK579 := bkz BK579 hb; have NB587_588 := nlt BK587 hg; have NB588_587 := ngt BK587 hg; replace BK587 := bkz BK587 hb; clear hb hbox hg; have hnb41 := NB587_573.out; have hnc41 := NB573_587.out; have hnb42 := NB587_574.out; have hnc42 := NB574_587.out; have hnb43 := NB587_579.out; have hnc43 := NB579_587.out; have hnb44 := NB587_588.out; have hnc44 := NB588_587.out; obtain ⟨hcz45_0, hcz45_1, hfz45_0, hfz45_1⟩ := bq2 BK587; have hnb46 := NB588_573.out; have hnc46 := NB573_588.out; have hnb47 := NB588_574.out; have hnc47 := NB574_588.out; have hnb48 := NB588_579.out; have hnc48 := NB579_588.out; obtain ⟨hcz49_0, hcz49_1, hfz49_0, hfz49_1⟩ := bq2 BK588) | ((with_reducible refine gtC (f := 10) rfl ?_); refine clz Try.func10 (some 55) #[.agg #[.int .i64 t583, .int .i64 t584], .agg #[.int .i64 t585, .int .i64 t586]] ?_; (with_reducible refine (impl_CommonNeighbours.calls k t583 t584 t585 t586 t589 _ A9.out).mono ?_); rintro e w50 ⟨v590, rfl, ho0, hb⟩; refine ⟨_, rfl, ?_⟩; have HO591 := Az.mk (Kd.R_lower (Kd.R_newB (Kd.R_newB (Kd.R_newB (Kd.R_newB (Kd.R_newB (Kd.R_new' ho0 (Kd.R_lt z31_4)) (g := gb573) (o := .cells #[.int .i64 t569, .int .i64 t570] 25 (0, 0)) bkv) (g := gb574) (o := .cells #[.int .i64 t571, .int .i64 t572] 25 (0, 0)) bkv) (g := gb579) (o := .cells #[.int .i64 t576, .int .i64 t577] 25 (0, 0)) bkv) (g := gb587) (o := .cells #[.int .i64 t583, .int .i64 t584] 25 (0, 0)) bkv) (g := gb588) (o := .cells #[.int .i64 t585, .int .i64 t586] 25 (0, 0)) bkv) (bwZ bw_31)); replace HO582 := Az.mk (Kd.R_elder' z31_4 (Kd.R_base ho0) hb); replace BK573 := Az.mk (bkB (g := gb573) (o := .cells #[.int .i64 t569, .int .i64 t570] 25 (0, 0)) bkv hb); replace BK574 := Az.mk (bkB (g := gb574) (o := .cells #[.int .i64 t571, .int .i64 t572] 25 (0, 0)) bkv hb); replace BK579 := Az.mk (bkB (g := gb579) (o := .cells #[.int .i64 t576, .int .i64 t577] 25 (0, 0)) bkv hb); replace BK587 := Az.mk (bkB (g := gb587) (o := .cells #[.int .i64 t583, .int .i64 t584] 25 (0, 0)) bkv hb); replace BK588 := Az.mk (bkB (g := gb588) (o := .cells #[.int .i64 t585, .int .i64 t586] 25 (0, 0)) bkv hb); replace HB := Az.mk (bwT bw_31 hb); (try clear hb); (try clear hk); (try clear ho0)) | ((with_reducible refine gtC (f := 11) rfl ?_); refine clz Try.func11 (some 57) #[.slice A0 l0.length c0] ?_; (with_reducible refine (spec_DrawParentsOf.calls k _ _ l0 t592 t593 _ ?side1 ?side2 A10.out).mono ?_); (case side1 => repeat (first | exact (Kd.C_below HR0.out HB.out) | (with_reducible refine Kd.C_alloc ?_ _) | (with_reducible refine Kd.C_drewN ?_ _) | (with_reducible refine Kd.C_drew ?_))); (case side2 => exact HC0.out); rintro e w51 ⟨rfl, hb⟩; refine ⟨_, rfl, ?_⟩; replace HO582 := Az.mk (Kd.R_below z31_0 hb); replace HO591 := Az.mk (Kd.R_below z31_1 hb); replace BK573 := bkz BK573 hb; replace BK574 := bkz BK574 hb; replace BK579 := bkz BK579 hb; replace BK587 := bkz BK587 hb; replace BK588 := bkz BK588 hb; replace HB := Az.mk (bwT bw_31 hb); (try clear hb)) | ((with_reducible refine gtD (N := 12) rfl ?_); (try (refine gate_guard (by rfl) ?_; dsimp only)); refine bx (N := 12) (cs := #[.int .i64 0, .int .i64 0]) (t := 25) ?_; intro gb594 hg w52 hbox hb; replace HO582 := Az.mk (Kd.R_below (Kd.R_elderB z31_0 gb594 (Nat.le_of_eq hg.symm)) hb); replace HO591 := Az.mk (Kd.R_below (Kd.R_elderB z31_1 gb594 (Nat.le_of_eq hg.symm)) hb); have BK594 := Az.mk (hbox); have GW594 := gwz hg bw_31; have GE594 := gwz hg bw_31; replace HB := Az.mk (bwT bw_31 hb); have NB573_594 := nlt BK573 hg; have NB594_573 := ngt BK573 hg; replace BK573 := bkz BK573 hb; have NB574_594 := nlt BK574 hg; have NB594_574 := ngt BK574 hg; replace BK574 := bkz BK574 hb; have NB579_594 := nlt BK579 hg; have NB594_579 := ngt BK579 hg; replace BK579 := bkz BK579 hb; have NB587_594 := nlt BK587 hg; have NB594_587 := ngt BK587 hg; replace BK587 := bkz BK587 hb; have NB588_594 := nlt BK588 hg; have NB594_588 := ngt BK588 hg; replace BK588 := bkz BK588 hb; clear hb hbox hg; have hnb53 := NB594_573.out; have hnc53 := NB573_594.out; have hnb54 := NB594_574.out; have hnc54 := NB574_594.out; have hnb55 := NB594_579.out; have hnc55 := NB579_594.out; have hnb56 := NB594_587.out; have hnc56 := NB587_594.out; have hnb57 := NB594_588.out; have hnc57 := NB588_594.out; obtain ⟨hcz58_0, hcz58_1, hfz58_0, hfz58_1⟩ := bq2 BK594) | ((with_reducible refine gtC (f := 12) rfl ?_); refine clz Try.func12 (some 60) #[.agg #[.int .i64 t592, .int .i64 t593]] ?_; (with_reducible refine (impl_ParentsOf.calls k t592 t593 t595 t598 _ A11.out).mono ?_); rintro e w59 ⟨v596, rfl, ho0, hb⟩; refine ⟨_, rfl, ?_⟩; have HO597 := Az.mk (Kd.R_lower (Kd.R_newB (Kd.R_newB (Kd.R_newB (Kd.R_newB (Kd.R_newB (Kd.R_newB (Kd.R_new' (Kd.R_new' ho0 (Kd.R_lt (by (with_reducible repeat (first | apply Kd.R_alloc | apply Kd.R_drewN | apply Kd.R_drew)); exact (Kd.R_mono (Kd.R_far (p := ⟨gb594, 1, none⟩) (Kd.R_far (p := ⟨gb594, 0, none⟩) (Kd.R_mono HO582.out (fun k_ hk => (⟨hk, hk.2⟩ : _ ∧ k_ ≠ gb594))) (fun _ hk => hk.2) (.int .i64 t592)) (fun _ hk => hk.2) (.int .i64 t593)) (fun _ h_ => h_.1))))) (Kd.R_lt (by (with_reducible repeat (first | apply Kd.R_alloc | apply Kd.R_drewN | apply Kd.R_drew)); exact (Kd.R_mono (Kd.R_far (p := ⟨gb594, 1, none⟩) (Kd.R_far (p := ⟨gb594, 0, none⟩) (Kd.R_mono HO591.out (fun k_ hk => (⟨hk, hk.2⟩ : _ ∧ k_ ≠ gb594))) (fun _ hk => hk.2) (.int .i64 t592)) (fun _ hk => hk.2) (.int .i64 t593)) (fun _ h_ => h_.1))))) (g := gb573) (o := .cells #[.int .i64 t569, .int .i64 t570] 25 (0, 0)) bkv) (g := gb574) (o := .cells #[.int .i64 t571, .int .i64 t572] 25 (0, 0)) bkv) (g := gb579) (o := .cells #[.int .i64 t576, .int .i64 t577] 25 (0, 0)) bkv) (g := gb587) (o := .cells #[.int .i64 t583, .int .i64 t584] 25 (0, 0)) bkv) (g := gb588) (o := .cells #[.int .i64 t585, .int .i64 t586] 25 (0, 0)) bkv) (g := gb594) (o := .cells #[.int .i64 t592, .int .i64 t593] 25 (0, 0)) bkv) (bwZ bw_31)); replace HO582 := Az.mk (Kd.R_elder' (by (with_reducible repeat (first | apply Kd.R_alloc | apply Kd.R_drewN | apply Kd.R_drew)); exact (Kd.R_mono (Kd.R_far (p := ⟨gb594, 1, none⟩) (Kd.R_far (p := ⟨gb594, 0, none⟩) (Kd.R_mono HO582.out (fun k_ hk => (⟨hk, hk.2⟩ : _ ∧ k_ ≠ gb594))) (fun _ hk => hk.2) (.int .i64 t592)) (fun _ hk => hk.2) (.int .i64 t593)) (fun _ h_ => h_.1))) (Kd.R_base ho0) hb); replace HO591 := Az.mk (Kd.R_elder' (by (with_reducible repeat (first | apply Kd.R_alloc | apply Kd.R_drewN | apply Kd.R_drew)); exact (Kd.R_mono (Kd.R_far (p := ⟨gb594, 1, none⟩) (Kd.R_far (p := ⟨gb594, 0, none⟩) (Kd.R_mono HO591.out (fun k_ hk => (⟨hk, hk.2⟩ : _ ∧ k_ ≠ gb594))) (fun _ hk => hk.2) (.int .i64 t592)) (fun _ hk => hk.2) (.int .i64 t593)) (fun _ h_ => h_.1))) (Kd.R_base ho0) hb); replace BK573 := Az.mk (bkB (g := gb573) (o := .cells #[.int .i64 t569, .int .i64 t570] 25 (0, 0)) bkv hb); replace BK574 := Az.mk (bkB (g := gb574) (o := .cells #[.int .i64 t571, .int .i64 t572] 25 (0, 0)) bkv hb); replace BK579 := Az.mk (bkB (g := gb579) (o := .cells #[.int .i64 t576, .int .i64 t577] 25 (0, 0)) bkv hb); replace BK587 := Az.mk (bkB (g := gb587) (o := .cells #[.int .i64 t583, .int .i64 t584] 25 (0, 0)) bkv hb); replace BK588 := Az.mk (bkB (g := gb588) (o := .cells #[.int .i64 t585, .int .i64 t586] 25 (0, 0)) bkv hb); replace BK594 := Az.mk (bkB (g := gb594) (o := .cells #[.int .i64 t592, .int .i64 t593] 25 (0, 0)) bkv hb); replace HB := Az.mk (bwT bw_31 hb); (try clear hb); (try clear hk); (try clear ho0); obtain ⟨hcz60_0, hcz60_1, hfz60_0, hfz60_1⟩ := bq2 BK594) | ((with_reducible refine gtC (f := 13) rfl ?_); refine clz Try.func13 (some 65) #[.agg #[.int .i64 t592, .int .i64 t593]] ?_; (with_reducible refine (spec_ParentsOf.calls k t592 t593 t599 t602 _ A12.out).mono ?_); rintro e w61 ⟨v600, rfl, ho0, hb⟩; refine ⟨_, rfl, ?_⟩; have HO601 := Az.mk (Kd.R_lower (Kd.R_newB (Kd.R_newB (Kd.R_newB (Kd.R_newB (Kd.R_newB (Kd.R_newB (Kd.R_new' (Kd.R_new' (Kd.R_new' ho0 (Kd.R_lt z31_0)) (Kd.R_lt z31_1)) (Kd.R_lt z31_2)) (g := gb573) (o := .cells #[.int .i64 t569, .int .i64 t570] 25 (0, 0)) (bk1 BK573)) (g := gb574) (o := .cells #[.int .i64 t571, .int .i64 t572] 25 (0, 0)) (bk1 BK574)) (g := gb579) (o := .cells #[.int .i64 t576, .int .i64 t577] 25 (0, 0)) (bk1 BK579)) (g := gb587) (o := .cells #[.int .i64 t583, .int .i64 t584] 25 (0, 0)) (bk1 BK587)) (g := gb588) (o := .cells #[.int .i64 t585, .int .i64 t586] 25 (0, 0)) (bk1 BK588)) (g := gb594) (o := .cells #[.int .i64 t592, .int .i64 t593] 25 (0, 0)) (bk1 BK594)) (bwZ bw_31)); replace HO582 := Az.mk (Kd.R_elder' z31_0 (Kd.R_base ho0) hb); replace HO591 := Az.mk (Kd.R_elder' z31_1 (Kd.R_base ho0) hb); replace HO597 := Az.mk (Kd.R_elder' z31_2 (Kd.R_base ho0) hb); replace BK573 := bkz BK573 hb; replace BK574 := bkz BK574 hb; replace BK579 := bkz BK579 hb; replace BK587 := bkz BK587 hb; replace BK588 := bkz BK588 hb; replace BK594 := bkz BK594 hb; replace HB := Az.mk (bwT bw_31 hb); (try clear hb); (try clear ho0); obtain ⟨hcz62_0, hcz62_1, hfz62_0, hfz62_1⟩ := bq2 BK573; obtain ⟨hcz63_0, hcz63_1, hfz63_0, hfz63_1⟩ := bq2 BK574) | ((with_reducible refine gtC (f := 14) rfl ?_); refine clz Try.func14 (some 71) #[.agg #[.int .i64 t569, .int .i64 t570], .agg #[.int .i64 t571, .int .i64 t572]] ?_; (with_reducible refine (spec_SlopeDistance.calls k t569 t570 t571 t572 t603 _ A13.out).mono ?_); rintro e w64 ⟨rfl, hb⟩; refine ⟨_, rfl, ?_⟩; replace HO582 := Az.mk (Kd.R_below z31_0 hb); replace HO591 := Az.mk (Kd.R_below z31_1 hb); replace HO597 := Az.mk (Kd.R_below z31_2 hb); replace HO601 := Az.mk (Kd.R_below z31_3 hb); replace BK573 := bkz BK573 hb; replace BK574 := bkz BK574 hb; replace BK579 := bkz BK579 hb; replace BK587 := bkz BK587 hb; replace BK588 := bkz BK588 hb; replace BK594 := bkz BK594 hb; replace HB := Az.mk (bwT bw_31 hb); (try clear hb); obtain ⟨hcz65_0, hcz65_1, hfz65_0, hfz65_1⟩ := bq2 BK579) | (go_at_call 16; (with_reducible refine (spec_NeighbourSlopes.calls k t576 t577 t578 t604 _ A15.out).mono ?_); rintro e w66 ⟨v605, rfl, ho0, hb⟩; have HO606 := Az.mk (Kd.R_lower (Kd.R_newB (Kd.R_newB (Kd.R_newB (Kd.R_newB (Kd.R_newB (Kd.R_newB (Kd.R_new' (Kd.R_new' (Kd.R_new' (Kd.R_new' ho0 (Kd.R_lt z31_0)) (Kd.R_lt z31_1)) (Kd.R_lt z31_2)) (Kd.R_lt z31_3)) (g := gb573) (o := .cells #[.int .i64 t569, .int .i64 t570] 25 (0, 0)) (bk1 BK573)) (g := gb574) (o := .cells #[.int .i64 t571, .int .i64 t572] 25 (0, 0)) (bk1 BK574)) (g := gb579) (o := .cells #[.int .i64 t576, .int .i64 t577] 25 (0, 0)) (bk1 BK579)) (g := gb587) (o := .cells #[.int .i64 t583, .int .i64 t584] 25 (0, 0)) (bk1 BK587)) (g := gb588) (o := .cells #[.int .i64 t585, .int .i64 t586] 25 (0, 0)) (bk1 BK588)) (g := gb594) (o := .cells #[.int .i64 t592, .int .i64 t593] 25 (0, 0)) (bk1 BK594)) (bwZ bw_31)); replace HO582 := Az.mk (Kd.R_elder' z31_0 (Kd.R_base ho0) hb); replace HO591 := Az.mk (Kd.R_elder' z31_1 (Kd.R_base ho0) hb); replace HO597 := Az.mk (Kd.R_elder' z31_2 (Kd.R_base ho0) hb); replace HO601 := Az.mk (Kd.R_elder' z31_3 (Kd.R_base ho0) hb); replace BK573 := bkz BK573 hb; replace BK574 := bkz BK574 hb; replace BK579 := bkz BK579 hb; replace BK587 := bkz BK587 hb; replace BK588 := bkz BK588 hb; replace BK594 := bkz BK594 hb; replace HB := Az.mk (bwT bw_31 hb); (try clear hb); (try clear ho0); obtain ⟨Ao67, co67, eo67⟩ := Kd.R_slice HO582.out; subst eo67; obtain ⟨Ao68, co68, eo68⟩ := Kd.R_slice HO606.out; subst eo68) | (go_at_call 15; (with_reducible refine (laws_sameSlopes.calls k _ _ t580 _ _ t604 true _ ?side1 ?side2 ?side3 ?side4 A16.out).mono ?_); (case side1 => repeat (first | exact (Kd.R_reads' HO582.out).2.2 | (with_reducible refine Kd.C_alloc ?_ _) | (with_reducible refine Kd.C_drewN ?_ _) | (with_reducible refine Kd.C_drew ?_))); (case side2 => exact (Kd.R_reads' HO582.out).2.1); (case side3 => repeat (first | exact (Kd.R_reads' HO606.out).2.2 | (with_reducible refine Kd.C_alloc ?_ _) | (with_reducible refine Kd.C_drewN ?_ _) | (with_reducible refine Kd.C_drew ?_))); (case side4 => exact (Kd.R_reads' HO606.out).2.1); rintro e w' ⟨rfl, ⟨nd, rfl⟩⟩; obtain ⟨hcz69_0, hcz69_1, hfz69_0, hfz69_1⟩ := bq2 BK587; obtain ⟨hcz70_0, hcz70_1, hfz70_0, hfz70_1⟩ := bq2 BK588) | (go_at_call 17; (with_reducible refine (spec_CommonNeighbours.calls k t583 t584 t585 t586 t608 _ A18.out).mono ?_); rintro e w71 ⟨v609, rfl, ho0, hb⟩; have HO610 := Az.mk (Kd.R_lower (Kd.R_newB (Kd.R_newB (Kd.R_newB (Kd.R_newB (Kd.R_newB (Kd.R_newB (Kd.R_new' (Kd.R_new' (Kd.R_new' (Kd.R_new' (Kd.R_new' ho0 (Kd.R_lt z31_0)) (Kd.R_lt z31_1)) (Kd.R_lt z31_2)) (Kd.R_lt z31_3)) (Kd.R_lt z31_8)) (g := gb573) (o := .cells #[.int .i64 t569, .int .i64 t570] 25 (0, 0)) (bk1 BK573)) (g := gb574) (o := .cells #[.int .i64 t571, .int .i64 t572] 25 (0, 0)) (bk1 BK574)) (g := gb579) (o := .cells #[.int .i64 t576, .int .i64 t577] 25 (0, 0)) (bk1 BK579)) (g := gb587) (o := .cells #[.int .i64 t583, .int .i64 t584] 25 (0, 0)) (bk1 BK587)) (g := gb588) (o := .cells #[.int .i64 t585, .int .i64 t586] 25 (0, 0)) (bk1 BK588)) (g := gb594) (o := .cells #[.int .i64 t592, .int .i64 t593] 25 (0, 0)) (bk1 BK594)) (bwZ bw_31)); replace HO582 := Az.mk (Kd.R_elder' z31_0 (Kd.R_base ho0) hb); replace HO591 := Az.mk (Kd.R_elder' z31_1 (Kd.R_base ho0) hb); replace HO597 := Az.mk (Kd.R_elder' z31_2 (Kd.R_base ho0) hb); replace HO601 := Az.mk (Kd.R_elder' z31_3 (Kd.R_base ho0) hb); replace HO606 := Az.mk (Kd.R_elder' z31_8 (Kd.R_base ho0) hb); replace BK573 := bkz BK573 hb; replace BK574 := bkz BK574 hb; replace BK579 := bkz BK579 hb; replace BK587 := bkz BK587 hb; replace BK588 := bkz BK588 hb; replace BK594 := bkz BK594 hb; replace HB := Az.mk (bwT bw_31 hb); (try clear hb); (try clear ho0); obtain ⟨Ao72, co72, eo72⟩ := Kd.R_slice HO591.out; subst eo72; obtain ⟨Ao73, co73, eo73⟩ := Kd.R_slice HO610.out; subst eo73) | (go_at_call 15; (with_reducible refine (laws_sameSlopes.calls k _ _ t589 _ _ t608 true _ ?side1 ?side2 ?side3 ?side4 A19.out).mono ?_); (case side1 => repeat (first | exact (Kd.R_reads' HO591.out).2.2 | (with_reducible refine Kd.C_alloc ?_ _) | (with_reducible refine Kd.C_drewN ?_ _) | (with_reducible refine Kd.C_drew ?_))); (case side2 => exact (Kd.R_reads' HO591.out).2.1); (case side3 => repeat (first | exact (Kd.R_reads' HO610.out).2.2 | (with_reducible refine Kd.C_alloc ?_ _) | (with_reducible refine Kd.C_drewN ?_ _) | (with_reducible refine Kd.C_drew ?_))); (case side4 => exact (Kd.R_reads' HO610.out).2.1); rintro e w' ⟨rfl, ⟨nd, rfl⟩⟩; obtain ⟨Ao74, co74, eo74⟩ := Kd.R_slice HO597.out; subst eo74; obtain ⟨Ao75, co75, eo75⟩ := Kd.R_slice HO601.out; subst eo75) | (go_at_call 15; (with_reducible refine (laws_sameSlopes.calls k _ _ t595 _ _ t599 true _ ?side1 ?side2 ?side3 ?side4 A22.out).mono ?_); (case side1 => repeat (first | exact (Kd.R_reads' HO597.out).2.2 | (with_reducible refine Kd.C_alloc ?_ _) | (with_reducible refine Kd.C_drewN ?_ _) | (with_reducible refine Kd.C_drew ?_))); (case side2 => exact (Kd.R_reads' HO597.out).2.1); (case side3 => repeat (first | exact (Kd.R_reads' HO601.out).2.2 | (with_reducible refine Kd.C_alloc ?_ _) | (with_reducible refine Kd.C_drewN ?_ _) | (with_reducible refine Kd.C_drew ?_))); (case side4 => exact (Kd.R_reads' HO601.out).2.1); rintro e w' ⟨rfl, ⟨nd, rfl⟩⟩))
 (try simp only [Act.put, List.setIfInBounds_toArray, List.set_cons_zero, List.set_cons_succ])
 go_cut [125] (fun v125 wc => ∃ (kq : Nat) (x125_23 : Bool), v125 = .bool x125_23 ∧ Az (laws_FnFarey.j0 kq l0 t575 t580 t589 t595 t598 x125_23 t569 t570 t571 t572 t576 t577 t583 t584 t585 t586 t592 t593 = some r) ∧ Az (kq ≤ k) ∧ Az (Kd.R k25 25 wc w.heap.size (fun k_ => some k_ ≠ ((.slice Ao72 t589.length co72) : Value).ownBlock ∧ some k_ ≠ ((.slice Ao74 t595.length co74) : Value).ownBlock ∧ k_ ≠ gb573 ∧ k_ ≠ gb574 ∧ k_ ≠ gb579 ∧ k_ ≠ gb587 ∧ k_ ≠ gb588 ∧ k_ ≠ gb594) (.slice Ao67 t580.length co67) t580) ∧ Az (Kd.R k25 25 wc w.heap.size (fun k_ => some k_ ≠ ((.slice Ao67 t580.length co67) : Value).ownBlock ∧ some k_ ≠ ((.slice Ao74 t595.length co74) : Value).ownBlock ∧ k_ ≠ gb573 ∧ k_ ≠ gb574 ∧ k_ ≠ gb579 ∧ k_ ≠ gb587 ∧ k_ ≠ gb588 ∧ k_ ≠ gb594) (.slice Ao72 t589.length co72) t589) ∧ Az (Kd.R k25 25 wc w.heap.size (fun k_ => some k_ ≠ ((.slice Ao67 t580.length co67) : Value).ownBlock ∧ some k_ ≠ ((.slice Ao72 t589.length co72) : Value).ownBlock ∧ k_ ≠ gb573 ∧ k_ ≠ gb574 ∧ k_ ≠ gb579 ∧ k_ ≠ gb587 ∧ k_ ≠ gb588 ∧ k_ ≠ gb594) (.slice Ao74 t595.length co74) t595) ∧ Az (wc.heap[gb573]? = some (.cells #[.int .i64 t569, .int .i64 t570] 25 (0, 0))) ∧ Az (wc.heap[gb574]? = some (.cells #[.int .i64 t571, .int .i64 t572] 25 (0, 0))) ∧ Az (wc.heap[gb579]? = some (.cells #[.int .i64 t576, .int .i64 t577] 25 (0, 0))) ∧ Az (wc.heap[gb587]? = some (.cells #[.int .i64 t583, .int .i64 t584] 25 (0, 0))) ∧ Az (wc.heap[gb588]? = some (.cells #[.int .i64 t585, .int .i64 t586] 25 (0, 0))) ∧ Az (wc.heap[gb594]? = some (.cells #[.int .i64 t592, .int .i64 t593] 25 (0, 0))) ∧ Az (Below w.heap.size w wc))
 case first =>
  have H := HC24.out
  clear HC24
  replace H := bez H
  obtain ⟨t613, A76, H⟩ := H
  try dsimp only at H
  by_cases c77 : t575 = t613
  rotate_left
  ·rw [if_neg c77] at H
   exact absurd H (by simp)
  rw [if_pos c77] at H
  have c77b0 : (t575 == t613) = true := beq_iff_eq.mpr c77
  have c77b1 : (t575 != t613) = false := bne_eq_false_iff_eq.mpr c77
  clear c77
  (first | rw [c77b0] | (simp only [i64_w, i32_w]; rw [c77b0]) | skip)
  by_cases c78 : t575 ≥ 0
  rotate_left
  ·rw [if_neg c78] at H
   have c78b0 : decide (0 ≤ t575) = false := decide_eq_false c78
   clear c78
   have H' := Az.mk H
   clear H
   have hnb96 := NB574_573.out
   have hnc96 := NB573_574.out
   have hnb97 := NB574_579.out
   have hnc97 := NB579_574.out
   have hnb98 := NB574_587.out
   have hnc98 := NB587_574.out
   have hnb99 := NB574_588.out
   have hnc99 := NB588_574.out
   have hnb100 := NB574_594.out
   have hnc100 := NB594_574.out
   have hcz101_0 := bkc0 BK574
   have hcz101_1 := bkc1 BK574
   have hfz101_0 := bkF BK574.out 0
   have hfz101_1 := bkF BK574.out 1
   have hnb102 := NB573_579.out
   have hnc102 := NB579_573.out
   have hnb103 := NB573_587.out
   have hnc103 := NB587_573.out
   have hnb104 := NB573_588.out
   have hnc104 := NB588_573.out
   have hnb105 := NB573_594.out
   have hnc105 := NB594_573.out
   have hcz106_0 := bkc0 BK573
   have hcz106_1 := bkc1 BK573
   have hfz106_0 := bkF BK573.out 0
   have hfz106_1 := bkF BK573.out 1
   go_wp2_with (first | ((with_reducible refine gtC (f := 6) rfl ?_); refine clz Try.func6 (some 103) #[.agg #[.int .i64 t571, .int .i64 t572], .agg #[.int .i64 t569, .int .i64 t570]] ?_; (with_reducible refine (impl_SlopeDistance.calls k t571 t572 t569 t570 t613 _ A76.out).mono ?_); rintro e w107 ⟨rfl, hb⟩; refine ⟨_, rfl, ?_⟩; replace HO582 := Az.mk (Kd.R_below z31_0 hb); replace HO591 := Az.mk (Kd.R_below z31_1 hb); replace HO597 := Az.mk (Kd.R_below z31_2 hb); replace HO601 := Az.mk (Kd.R_below z31_3 hb); replace HO606 := Az.mk (Kd.R_below z31_8 hb); replace HO610 := Az.mk (Kd.R_below (by (with_reducible repeat (first | apply Kd.R_alloc | apply Kd.R_drewN | apply Kd.R_drew)); exact HO610.out) hb); replace BK573 := bkz BK573 hb; replace BK574 := bkz BK574 hb; replace BK579 := bkz BK579 hb; replace BK587 := bkz BK587 hb; replace BK588 := bkz BK588 hb; replace BK594 := bkz BK594 hb; replace HB := Az.mk (bwT bw_31 hb); (try clear hb)))
   go_meet
   case rel => exact ⟨_, (false), rq2, H', ⟨by first | omega | exact Nat.le_refl _⟩, ⟨by (with_reducible repeat (first | apply Kd.R_alloc | apply Kd.R_drewN | apply Kd.R_drew)); exact Kd.R_mono HO582.out (fun _ hk => ⟨hk.1.1.1.1.1.2, ⟨hk.1.1.1.2, ⟨hk.1.1.1.1.1.1.1.1.1.1.2, ⟨hk.1.1.1.1.1.1.1.1.1.2, ⟨hk.1.1.1.1.1.1.1.1.2, ⟨hk.1.1.1.1.1.1.1.2, ⟨hk.1.1.1.1.1.1.2, hk.1.1.1.1.2⟩⟩⟩⟩⟩⟩⟩)⟩, ⟨by (with_reducible repeat (first | apply Kd.R_alloc | apply Kd.R_drewN | apply Kd.R_drew)); exact Kd.R_mono HO591.out (fun _ hk => ⟨hk.1.1.1.1.1.1.1.1.1.1.2, ⟨hk.1.1.1.2, ⟨hk.1.1.1.1.1.1.1.1.1.2, ⟨hk.1.1.1.1.1.1.1.1.2, ⟨hk.1.1.1.1.1.1.1.2, ⟨hk.1.1.1.1.1.1.2, ⟨hk.1.1.1.1.1.2, hk.1.1.1.1.2⟩⟩⟩⟩⟩⟩⟩)⟩, ⟨by (with_reducible repeat (first | apply Kd.R_alloc | apply Kd.R_drewN | apply Kd.R_drew)); exact Kd.R_mono HO597.out (fun _ hk => ⟨hk.1.1.1.1.1.1.1.1.1.1.2, ⟨hk.1.1.1.1.1.1.1.1.1.2, ⟨hk.1.1.1.1.1.1.1.1.2, ⟨hk.1.1.1.1.1.1.1.2, ⟨hk.1.1.1.1.1.1.2, ⟨hk.1.1.1.1.1.2, ⟨hk.1.1.1.1.2, hk.1.1.1.2⟩⟩⟩⟩⟩⟩⟩)⟩, ⟨bk1 BK573⟩, ⟨bk1 BK574⟩, ⟨bk1 BK579⟩, ⟨bk1 BK587⟩, ⟨bk1 BK588⟩, ⟨bk1 BK594⟩, ⟨bw_31⟩⟩
  rw [if_pos c78] at H
  have c78b0 : decide (0 ≤ t575) = true := decide_eq_true c78
  clear c78
  by_cases c79 : ((t575 == 0) != (t569 == t571 && (t570 == t572))) = true
  ·rw [if_pos c79] at H
   exact absurd H (by simp)
  rw [if_neg c79] at H
  have c79b0 : ((t575 == 0) != (t569 == t571 && (t570 == t572))) = false := by simpa using c79
  (try (have c79b1 : decide ((t575 == 0) = (t569 == t571 && (t570 == t572))) = true := by simpa using c79))
  (try (have c79b2 : ((t575 == 0) == (t569 == t571 && (t570 == t572))) = true := by simpa using c79))
  clear c79
  replace H := bez H
  obtain ⟨t614, A80, H⟩ := H
  try dsimp only at H
  have H' := Az.mk H
  clear H
  have hnb81 := NB574_573.out
  have hnc81 := NB573_574.out
  have hnb82 := NB574_579.out
  have hnc82 := NB579_574.out
  have hnb83 := NB574_587.out
  have hnc83 := NB587_574.out
  have hnb84 := NB574_588.out
  have hnc84 := NB588_574.out
  have hnb85 := NB574_594.out
  have hnc85 := NB594_574.out
  have hcz86_0 := bkc0 BK574
  have hcz86_1 := bkc1 BK574
  have hfz86_0 := bkF BK574.out 0
  have hfz86_1 := bkF BK574.out 1
  have hnb87 := NB573_579.out
  have hnc87 := NB579_573.out
  have hnb88 := NB573_587.out
  have hnc88 := NB587_573.out
  have hnb89 := NB573_588.out
  have hnc89 := NB588_573.out
  have hnb90 := NB573_594.out
  have hnc90 := NB594_573.out
  have hcz91_0 := bkc0 BK573
  have hcz91_1 := bkc1 BK573
  have hfz91_0 := bkF BK573.out 0
  have hfz91_1 := bkF BK573.out 1
  go_wp2_with (first | ((with_reducible refine gtC (f := 6) rfl ?_); refine clz Try.func6 (some 103) #[.agg #[.int .i64 t571, .int .i64 t572], .agg #[.int .i64 t569, .int .i64 t570]] ?_; (with_reducible refine (impl_SlopeDistance.calls k t571 t572 t569 t570 t613 _ A76.out).mono ?_); rintro e w92 ⟨rfl, hb⟩; refine ⟨_, rfl, ?_⟩; replace HO582 := Az.mk (Kd.R_below z31_0 hb); replace HO591 := Az.mk (Kd.R_below z31_1 hb); replace HO597 := Az.mk (Kd.R_below z31_2 hb); replace HO601 := Az.mk (Kd.R_below z31_3 hb); replace HO606 := Az.mk (Kd.R_below z31_8 hb); replace HO610 := Az.mk (Kd.R_below (by (with_reducible repeat (first | apply Kd.R_alloc | apply Kd.R_drewN | apply Kd.R_drew)); exact HO610.out) hb); replace BK573 := bkz BK573 hb; replace BK574 := bkz BK574 hb; replace BK579 := bkz BK579 hb; replace BK587 := bkz BK587 hb; replace BK588 := bkz BK588 hb; replace BK594 := bkz BK594 hb; replace HB := Az.mk (bwT bw_31 hb); (try clear hb); obtain ⟨hcz93_0, hcz93_1, hfz93_0, hfz93_1⟩ := bq2 BK573; obtain ⟨hcz94_0, hcz94_1, hfz94_0, hfz94_1⟩ := bq2 BK574) | (go_at_call 18; (with_reducible refine (spec_CrossNumber.calls k t569 t570 t571 t572 t614 _ A80.out).mono ?_); rintro e w95 ⟨rfl, hb⟩; replace HO582 := Az.mk (Kd.R_below z31_0 hb); replace HO591 := Az.mk (Kd.R_below z31_1 hb); replace HO597 := Az.mk (Kd.R_below z31_2 hb); replace HO601 := Az.mk (Kd.R_below z31_3 hb); replace HO606 := Az.mk (Kd.R_below z31_8 hb); replace HO610 := Az.mk (Kd.R_below (by (with_reducible repeat (first | apply Kd.R_alloc | apply Kd.R_drewN | apply Kd.R_drew)); exact HO610.out) hb); replace BK573 := bkz BK573 hb; replace BK574 := bkz BK574 hb; replace BK579 := bkz BK579 hb; replace BK587 := bkz BK587 hb; replace BK588 := bkz BK588 hb; replace BK594 := bkz BK594 hb; replace HB := Az.mk (bwT bw_31 hb); (try clear hb)))
  go_meet
  case rel => exact ⟨_, (((t575 == 1) != (t614 == 1))), rq2, H', ⟨by first | omega | exact Nat.le_refl _⟩, ⟨by (with_reducible repeat (first | apply Kd.R_alloc | apply Kd.R_drewN | apply Kd.R_drew)); exact Kd.R_mono HO582.out (fun _ hk => ⟨hk.1.1.1.1.1.2, ⟨hk.1.1.1.2, ⟨hk.1.1.1.1.1.1.1.1.1.1.2, ⟨hk.1.1.1.1.1.1.1.1.1.2, ⟨hk.1.1.1.1.1.1.1.1.2, ⟨hk.1.1.1.1.1.1.1.2, ⟨hk.1.1.1.1.1.1.2, hk.1.1.1.1.2⟩⟩⟩⟩⟩⟩⟩)⟩, ⟨by (with_reducible repeat (first | apply Kd.R_alloc | apply Kd.R_drewN | apply Kd.R_drew)); exact Kd.R_mono HO591.out (fun _ hk => ⟨hk.1.1.1.1.1.1.1.1.1.1.2, ⟨hk.1.1.1.2, ⟨hk.1.1.1.1.1.1.1.1.1.2, ⟨hk.1.1.1.1.1.1.1.1.2, ⟨hk.1.1.1.1.1.1.1.2, ⟨hk.1.1.1.1.1.1.2, ⟨hk.1.1.1.1.1.2, hk.1.1.1.1.2⟩⟩⟩⟩⟩⟩⟩)⟩, ⟨by (with_reducible repeat (first | apply Kd.R_alloc | apply Kd.R_drewN | apply Kd.R_drew)); exact Kd.R_mono HO597.out (fun _ hk => ⟨hk.1.1.1.1.1.1.1.1.1.1.2, ⟨hk.1.1.1.1.1.1.1.1.1.2, ⟨hk.1.1.1.1.1.1.1.1.2, ⟨hk.1.1.1.1.1.1.1.2, ⟨hk.1.1.1.1.1.1.2, ⟨hk.1.1.1.1.1.2, ⟨hk.1.1.1.1.2, hk.1.1.1.2⟩⟩⟩⟩⟩⟩⟩)⟩, ⟨bk1 BK573⟩, ⟨bk1 BK574⟩, ⟨bk1 BK579⟩, ⟨bk1 BK587⟩, ⟨bk1 BK588⟩, ⟨bk1 BK594⟩, ⟨bw_31⟩⟩
 clear HC24
 try clear c3
 try clear c14
 try clear c14b0
 try clear c14b1
 try clear c17
 try clear c20
 try clear c21
 try clear c21b0
 try clear c21b1
 try clear c21b2
 try clear c23
 try clear c77
 try clear c77b0
 try clear c77b1
 try clear c78
 try clear c78b0
 try clear c79
 try clear c79b0
 try clear c79b1
 try clear c79b2
 try clear hcz101_0
 try clear hcz101_1
 try clear hcz106_0
 try clear hcz106_1
 try clear hcz29_0
 try clear hcz29_1
 try clear hcz30_0
 try clear hcz30_1
 try clear hcz36_0
 try clear hcz36_1
 try clear hcz45_0
 try clear hcz45_1
 try clear hcz49_0
 try clear hcz49_1
 try clear hcz58_0
 try clear hcz58_1
 try clear hcz60_0
 try clear hcz60_1
 try clear hcz62_0
 try clear hcz62_1
 try clear hcz63_0
 try clear hcz63_1
 try clear hcz65_0
 try clear hcz65_1
 try clear hcz69_0
 try clear hcz69_1
 try clear hcz70_0
 try clear hcz70_1
 try clear hcz86_0
 try clear hcz86_1
 try clear hcz91_0
 try clear hcz91_1
 try clear hcz93_0
 try clear hcz93_1
 try clear hcz94_0
 try clear hcz94_1
 try clear hfz101_0
 try clear hfz101_1
 try clear hfz106_0
 try clear hfz106_1
 try clear hfz29_0
 try clear hfz29_1
 try clear hfz30_0
 try clear hfz30_1
 try clear hfz36_0
 try clear hfz36_1
 try clear hfz45_0
 try clear hfz45_1
 try clear hfz49_0
 try clear hfz49_1
 try clear hfz58_0
 try clear hfz58_1
 try clear hfz60_0
 try clear hfz60_1
 try clear hfz62_0
 try clear hfz62_1
 try clear hfz63_0
 try clear hfz63_1
 try clear hfz65_0
 try clear hfz65_1
 try clear hfz69_0
 try clear hfz69_1
 try clear hfz70_0
 try clear hfz70_1
 try clear hfz86_0
 try clear hfz86_1
 try clear hfz91_0
 try clear hfz91_1
 try clear hfz93_0
 try clear hfz93_1
 try clear hfz94_0
 try clear hfz94_1
 obtain ⟨kq, x125_23, rfl, HA, HJ23, HO_8, HO_11, HO_13, BK573, BK574, BK579, BK587, BK588, BK594, HB⟩ := hcut
 cases kq with
 | zero => exact absurd HA.out (by simp [laws_FnFarey.j0])
 | succ kj23 =>
  have H := HA.out
  clear HA
  simp only [laws_FnFarey.j0] at H
  by_cases c108 : x125_23 = true
  ·subst c108
   rw [if_pos rfl] at H
   exact absurd H (by simp)
  replace c108 := Bool.eq_false_iff.mpr c108
  subst c108
  rw [if_neg (show ¬ (false = true) by decide)] at H
  have H' := Az.mk H
  clear H
  go_wp2
  go_loopg [17] kj23 (fun kq v17 w' => ∃ (x17_2 : Int), v17 = .int .i64 x17_2 ∧ Az (laws_FnFarey.l0 kq l0 t575 t580 t589 t595 t598 x17_2 t569 t570 t571 t572 t576 t577 t583 t584 t585 t586 t592 t593 = some r) ∧ Az (kq ≤ kj23) ∧ Az (Kd.R k25 25 w' w.heap.size (fun k_ => some k_ ≠ ((.slice Ao72 t589.length co72) : Value).ownBlock ∧ some k_ ≠ ((.slice Ao74 t595.length co74) : Value).ownBlock ∧ k_ ≠ gb573 ∧ k_ ≠ gb574 ∧ k_ ≠ gb579 ∧ k_ ≠ gb587 ∧ k_ ≠ gb588 ∧ k_ ≠ gb594) (.slice Ao67 t580.length co67) t580) ∧ Az (Kd.R k25 25 w' w.heap.size (fun k_ => some k_ ≠ ((.slice Ao67 t580.length co67) : Value).ownBlock ∧ some k_ ≠ ((.slice Ao74 t595.length co74) : Value).ownBlock ∧ k_ ≠ gb573 ∧ k_ ≠ gb574 ∧ k_ ≠ gb579 ∧ k_ ≠ gb587 ∧ k_ ≠ gb588 ∧ k_ ≠ gb594) (.slice Ao72 t589.length co72) t589) ∧ Az (Kd.R k25 25 w' w.heap.size (fun k_ => some k_ ≠ ((.slice Ao67 t580.length co67) : Value).ownBlock ∧ some k_ ≠ ((.slice Ao72 t589.length co72) : Value).ownBlock ∧ k_ ≠ gb573 ∧ k_ ≠ gb574 ∧ k_ ≠ gb579 ∧ k_ ≠ gb587 ∧ k_ ≠ gb588 ∧ k_ ≠ gb594) (.slice Ao74 t595.length co74) t595) ∧ Az (w'.heap[gb573]? = some (.cells #[.int .i64 t569, .int .i64 t570] 25 (0, 0))) ∧ Az (w'.heap[gb574]? = some (.cells #[.int .i64 t571, .int .i64 t572] 25 (0, 0))) ∧ Az (w'.heap[gb579]? = some (.cells #[.int .i64 t576, .int .i64 t577] 25 (0, 0))) ∧ Az (w'.heap[gb587]? = some (.cells #[.int .i64 t583, .int .i64 t584] 25 (0, 0))) ∧ Az (w'.heap[gb588]? = some (.cells #[.int .i64 t585, .int .i64 t586] 25 (0, 0))) ∧ Az (w'.heap[gb594]? = some (.cells #[.int .i64 t592, .int .i64 t593] 25 (0, 0))) ∧ Az (Below w.heap.size w w'))
  case atStart => exact ⟨(0), rq2, H', ⟨Nat.le_refl _⟩, ⟨by (with_reducible repeat (first | apply Kd.R_alloc | apply Kd.R_drewN | apply Kd.R_drew)); exact HO_8.out⟩, ⟨by (with_reducible repeat (first | apply Kd.R_alloc | apply Kd.R_drewN | apply Kd.R_drew)); exact HO_11.out⟩, ⟨by (with_reducible repeat (first | apply Kd.R_alloc | apply Kd.R_drewN | apply Kd.R_drew)); exact HO_13.out⟩, ⟨bk1 BK573⟩, ⟨bk1 BK574⟩, ⟨bk1 BK579⟩, ⟨bk1 BK587⟩, ⟨bk1 BK588⟩, ⟨bk1 BK594⟩, ⟨bw_31⟩⟩
  clear H'
  try clear c3
  try clear c14
  try clear c14b0
  try clear c14b1
  try clear c17
  try clear c20
  try clear c21
  try clear c21b0
  try clear c21b1
  try clear c21b2
  try clear c23
  try clear c77
  try clear c77b0
  try clear c77b1
  try clear c78
  try clear c78b0
  try clear c79
  try clear c79b0
  try clear c79b1
  try clear c79b2
  try clear c108
  try clear hcz101_0
  try clear hcz101_1
  try clear hcz106_0
  try clear hcz106_1
  try clear hcz29_0
  try clear hcz29_1
  try clear hcz30_0
  try clear hcz30_1
  try clear hcz36_0
  try clear hcz36_1
  try clear hcz45_0
  try clear hcz45_1
  try clear hcz49_0
  try clear hcz49_1
  try clear hcz58_0
  try clear hcz58_1
  try clear hcz60_0
  try clear hcz60_1
  try clear hcz62_0
  try clear hcz62_1
  try clear hcz63_0
  try clear hcz63_1
  try clear hcz65_0
  try clear hcz65_1
  try clear hcz69_0
  try clear hcz69_1
  try clear hcz70_0
  try clear hcz70_1
  try clear hcz86_0
  try clear hcz86_1
  try clear hcz91_0
  try clear hcz91_1
  try clear hcz93_0
  try clear hcz93_1
  try clear hcz94_0
  try clear hcz94_1
  try clear hfz101_0
  try clear hfz101_1
  try clear hfz106_0
  try clear hfz106_1
  try clear hfz29_0
  try clear hfz29_1
  try clear hfz30_0
  try clear hfz30_1
  try clear hfz36_0
  try clear hfz36_1
  try clear hfz45_0
  try clear hfz45_1
  try clear hfz49_0
  try clear hfz49_1
  try clear hfz58_0
  try clear hfz58_1
  try clear hfz60_0
  try clear hfz60_1
  try clear hfz62_0
  try clear hfz62_1
  try clear hfz63_0
  try clear hfz63_1
  try clear hfz65_0
  try clear hfz65_1
  try clear hfz69_0
  try clear hfz69_1
  try clear hfz70_0
  try clear hfz70_1
  try clear hfz86_0
  try clear hfz86_1
  try clear hfz91_0
  try clear hfz91_1
  try clear hfz93_0
  try clear hfz93_1
  try clear hfz94_0
  try clear hfz94_1
  obtain ⟨x17_2, rfl, HA, HK2, HO_8, HO_11, HO_13, BK573, BK574, BK579, BK587, BK588, BK594, HB⟩ := hrel
  cases gk with
  | zero => exact absurd HA.out (by simp [laws_FnFarey.l0])
  | succ k2 =>
   have H := HA.out
   clear HA
   simp only [laws_FnFarey.l0] at H
   by_cases c109 : x17_2 < (t580.length : Int)
   rotate_left
   ·rw [if_neg c109] at H
    have c109b0 : decide (x17_2 < (t580.length : Int)) = false := decide_eq_false c109
    clear c109
    have HC150 := Az.mk H
    clear H
    rename_i Kt at_ Jj Kj aj ah
    have AT := Az.mk at_
    clear at_
    go_wp2
    exact AT.out _ _ (laws_FnFarey.p25 k A0 c0 l0 r w HR0 HC0 t569 t570 t571 t572 t575 t576 t577 t578 t580 t583 t584 t585 t586 t589 t592 t593 t595 t598 t599 t602 gb573 GE573 gb574 GE574 NB573_574 NB574_573 gb579 GE579 NB573_579 NB579_573 NB574_579 NB579_574 gb587 GE587 NB573_587 NB587_573 NB574_587 NB587_574 gb588 GE588 NB573_588 NB588_573 NB574_588 NB588_574 gb594 GE594 NB573_594 NB594_573 NB574_594 NB594_574 Ao67 co67 Ao72 co72 Ao74 co74 Ao75 co75 nd wc u30 u31 u32 u33 u34 u35 u36 u37 u38 u39 u40 u41 u42 u43 u44 u45 u46 u47 u48 u49 u50 u51 u52 u53 u54 u55 u56 u57 u58 u59 u60 u61 u62 u63 u64 u65 u66 u67 u68 u69 u70 u71 u72 u73 u74 u75 u76 u77 u78 u79 u80 u81 u82 u83 u84 u85 u86 u87 u88 u89 u90 u91 u92 u93 u94 u95 u96 u97 u98 u99 u100 u101 u102 u103 u104 u105 u106 u107 u108 u109 u110 u111 u112 u113 u114 u115 u116 u117 u118 u119 u120 u121 u122 u123 u124 u162 u163 u164 u165 u166 u167 u168 u169 u170 u171 u172 u173 u174 u175 u176 u177 u178 u179 u180 u181 u182 u183 u184 u185 u186 u187 u188 u189 u190 u191 u192 u193 u194 u195 u196 u197 u198 u199 u200 u201 u202 u203 u204 u205 u206 u207 u208 u209 u210 u211 u212 u213 u214 u215 u216 u217 u218 u219 u220 u221 u222 u223 u224 u225 u226 u227 u228 u229 u230 u231 u232 u233 u234 u235 u236 u237 u238 u239 u240 u241 u242 u243 u244 u245 u246 u247 u248 u249 u250 u251 u252 u253 u254 u255 u256 u257 u258 u259 u260 u261 u262 u263 u264 u265 u266 u267 u268 u269 u270 u271 u272 u273 u274 u275 u276 u277 u278 u279 u280 u281 u282 u283 u284 u285 u286 u287 u288 u289 u290 u291 u292 u293 u294 u295 u296 u297 u298 u299 u300 u301 u302 u303 u304 u305 u306 u307 u308 u309 u310 u311 u312 u313 u314 u315 u316 u317 u318 u319 u320 u321 u322 u323 u324 u325 u326 u327 u328 u329 u330 kj23 HJ23 wr u2 u18 u19 u130 u131 u132 u133 u134 u135 u136 u137 u138 u139 u140 u141 u142 u143 u144 u145 u146 u147 u148 u149 u150 u151 u152 u153 u154 u155 u156 u157 u158 u159 u160 u161 x17_2 HO_8 HO_11 HO_13 BK573 BK574 BK579 BK587 BK588 BK594 HB k2 HK2 HC150)
   rw [if_pos c109] at H
   have c109b0 : decide (x17_2 < (t580.length : Int)) = true := decide_eq_true c109
   clear c109
   by_cases c110 : 0 ≤ x17_2
   rotate_left
   ·rw [if_neg c110] at H
    exact absurd H (by simp)
   rw [if_pos c110] at H
   have c110b0 : decide (0 ≤ x17_2) = true := decide_eq_true c110
   clear c110
   replace H := bez H
   obtain ⟨t616, A111, H⟩ := H
   try dsimp only at H
   by_cases c112 : t616 = 1
   rotate_left
   ·rw [if_neg c112] at H
    exact absurd H (by simp)
   rw [if_pos c112] at H
   have c112b0 : (t616 == 1) = true := beq_iff_eq.mpr c112
   have c112b1 : (t616 != 1) = false := bne_eq_false_iff_eq.mpr c112
   clear c112
   replace H := bez H
   obtain ⟨t618, A113, H⟩ := H
   try dsimp only at H
   replace H := bez H
   obtain ⟨t619, A114, H⟩ := H
   try dsimp only at H
   by_cases c115 : t619 ≥ 0
   rotate_left
   ·rw [if_neg c115] at H
    have c115b0 : decide (0 ≤ t619) = false := decide_eq_false c115
    clear c115
    have H' := Az.mk H
    clear H
    try go_wp2
    replace HO_8 := Az.mk (Kd.R_drew HO_8.out); replace HO_11 := Az.mk (Kd.R_drew HO_11.out); replace HO_13 := Az.mk (Kd.R_drew HO_13.out); replace BK573 := Az.mk (bkD BK573.out); replace BK574 := Az.mk (bkD BK574.out); replace BK579 := Az.mk (bkD BK579.out); replace BK587 := Az.mk (bkD BK587.out); replace BK588 := Az.mk (bkD BK588.out); replace BK594 := Az.mk (bkD BK594.out); replace HB := Az.mk (bwD HB.out)
    have p615 : 0 ≤ (x17_2 : Int) := of_decide_eq_true (by first | (with_reducible assumption) | assumption)
    have q615 : x17_2 < (t580.length : Int) := of_decide_eq_true (by first | (with_reducible assumption) | assumption)
    obtain ⟨ad615, e615, hx615_0, hx615_1⟩ := at_T25 (Kd.R_reads' HO_8.out).2.2 x17_2 p615 q615
    cases e615
    replace p615 := eq_true p615
    replace q615 := eq_true q615
    refine start_ (n := 7) (S := fun w' => w'.cell? ⟨gb579, 0, none⟩ = some (.int .i64 t576) ∧ w'.cell? ⟨gb579, 1, none⟩ = some (.int .i64 t577) ∧ w'.cell? (ad615.add ((x17_2).toNat * 2)) = some (.int .i64 ((rd_T25 t580 x17_2).f0)) ∧ w'.cell? ⟨(ad615.add ((x17_2).toNat * 2)).block, (ad615.add ((x17_2).toNat * 2)).off + 1, none⟩ = some (.int .i64 ((rd_T25 t580 x17_2).f1))) (ds := []) #[F,F,F,F,F,F,F] z31_9 rfl rfl ⟨(bkC BK579.out 0).trans rfl, (bkC BK579.out 1).trans rfl, hx615_0, hx615_1⟩ (fun hHeld => ?_)
    generalize wr.drew = w134 at HO_8 HO_11 HO_13 BK573 BK574 BK579 BK587 BK588 BK594 HB hx615_0 hx615_1 hHeld ⊢
    refine pure_ (i := 0) (N := some 132) (v := ?_) (a' := ?_) #[T,F,F,F,F,F,F] rfl rfl z31_9 (fun _ _ _ h => h) (Or.inl ⟨by rfl, ?_⟩) ?_ ?_
    rotate_left
    ·intro w'
     go_simp
     with_reducible rfl
    rotate_left
    ·exact acq
    refine pure_ (i := 1) (N := some 133) (v := ?_) (a' := ?_) #[T,T,F,F,F,F,F] rfl rfl z31_9 (fun _ _ _ h => h) (Or.inl ⟨by rfl, ?_⟩) ?_ ?_
    rotate_left
    ·intro w'
     go_simp
     with_reducible rfl
    rotate_left
    ·exact acq
    refine pure_ (i := 2) (N := some 134) (v := ?_) (a' := ?_) #[T,T,T,F,F,F,F] rfl rfl z31_9 (fun _ _ _ h => h) (Or.inl ⟨by rfl, ?_⟩) ?_ ?_
    rotate_left
    ·intro w'
     go_simp
     with_reducible rfl
    rotate_left
    ·exact acq
    refine take_ (i := 3) (N := some 135) (v := ?_) (a' := ?_) #[T,T,T,T,F,F,F] rfl rfl z31_9 (fun _ _ _ h => h) (Or.inl ⟨by rfl, ?_⟩) hHeld ?_ ?_
    rotate_left
    ·rintro w' ⟨s0, s1, s2, s3⟩
     go_simp
     with_reducible rfl
    rotate_left
    ·exact acq
    refine take_ (i := 4) (N := some 136) (v := ?_) (a' := ?_) #[T,T,T,T,T,F,F] rfl rfl z31_9 (fun _ _ _ h => h) (Or.inl ⟨by rfl, ?_⟩) hHeld ?_ ?_
    rotate_left
    ·rintro w' ⟨s0, s1, s2, s3⟩
     go_simp
     with_reducible rfl
    rotate_left
    ·exact acq
    refine one_ (i := 5) (N := some 137) #[T,T,T,T,T,T,F] rfl rfl z31_9 (by decide) (fun K hK => ?_)
    refine goes_ Try.func18 z31_9 rfl #[.agg #[.int .i64 ((rd_T25 t580 x17_2).f0), .int .i64 ((rd_T25 t580 x17_2).f1)], .agg #[.int .i64 t576, .int .i64 t577]] (by rfl) rfl rfl ln_31 ?_
    with_reducible refine (spec_CrossNumber.calls k2 ((rd_T25 t580 x17_2).f0) ((rd_T25 t580 x17_2).f1) t576 t577 t616 _ A111.out).mono ?_
    rintro e w135 ⟨rfl, hb⟩
    have HS2_ := (hb.cell (World.block_lt_of_cell? _ _ (hHeld.2.2.1))).trans (hHeld.2.2.1)
    have HS3_ := (hb.cell (World.block_lt_of_cell? _ _ (hHeld.2.2.2))).trans (hHeld.2.2.2)
    refine ⟨_, rfl, ?_⟩
    replace HO_8 := Az.mk (Kd.R_below z31_7 hb); replace HO_11 := Az.mk (Kd.R_below z31_5 hb); replace HO_13 := Az.mk (Kd.R_below z31_6 hb); replace BK573 := bkz BK573 hb; replace BK574 := bkz BK574 hb; replace BK579 := bkz BK579 hb; replace BK587 := bkz BK587 hb; replace BK588 := bkz BK588 hb; replace BK594 := bkz BK594 hb; replace HB := Az.mk (bwT bw_31 hb)
    (try clear hb)
    (try clear hb2)
    (try clear hk)
    (try clear hi)
    refine hK.out _ _ ⟨(bkC BK579.out 0).trans rfl, (bkC BK579.out 1).trans rfl, HS2_, HS3_⟩ (fun hHeld => ?_)
    clear hK K
    refine norm_ (a' := ?_) ?_ ?_
    rotate_left
    ·show Act.put _ (some 137) _ = _
     exact acq
    refine pure_ (i := 6) (N := some 138) (v := ?_) (a' := ?_) #[T,T,T,T,T,T,T] rfl rfl z31_9 (fun _ _ _ h => h) (Or.inl ⟨by rfl, ?_⟩) ?_ ?_
    rotate_left
    ·intro w'
     go_simp
     with_reducible rfl
    rotate_left
    ·exact acq
    refine done_ z31_9 ?_
    try go_wp2
    replace HO_8 := Az.mk (Kd.R_drew HO_8.out); replace HO_11 := Az.mk (Kd.R_drew HO_11.out); replace HO_13 := Az.mk (Kd.R_drew HO_13.out); replace BK573 := Az.mk (bkD BK573.out); replace BK574 := Az.mk (bkD BK574.out); replace BK579 := Az.mk (bkD BK579.out); replace BK587 := Az.mk (bkD BK587.out); replace BK588 := Az.mk (bkD BK588.out); replace BK594 := Az.mk (bkD BK594.out); replace HB := Az.mk (bwD HB.out)
    have p617 : 0 ≤ (x17_2 : Int) := of_decide_eq_true (by first | (with_reducible assumption) | assumption)
    have q617 : x17_2 < (t580.length : Int) := of_decide_eq_true (by first | (with_reducible assumption) | assumption)
    obtain ⟨ad617, e617, hx617_0, hx617_1⟩ := at_T25 (Kd.R_reads' HO_8.out).2.2 x17_2 p617 q617
    obtain rfl : ad615 = ad617 := (by injection e617)
    replace p617 := eq_true p617
    replace q617 := eq_true q617
    refine start_ (n := 7) (S := fun w' => w'.cell? ⟨gb574, 0, none⟩ = some (.int .i64 t571) ∧ w'.cell? ⟨gb574, 1, none⟩ = some (.int .i64 t572) ∧ w'.cell? (ad615.add ((x17_2).toNat * 2)) = some (.int .i64 ((rd_T25 t580 x17_2).f0)) ∧ w'.cell? ⟨(ad615.add ((x17_2).toNat * 2)).block, (ad615.add ((x17_2).toNat * 2)).off + 1, none⟩ = some (.int .i64 ((rd_T25 t580 x17_2).f1))) (ds := []) #[F,F,F,F,F,F,F] z31_9 rfl rfl ⟨(bkC BK574.out 0).trans rfl, (bkC BK574.out 1).trans rfl, hx617_0, hx617_1⟩ (fun hHeld => ?_)
    generalize w135.drew = w136 at HO_8 HO_11 HO_13 BK573 BK574 BK579 BK587 BK588 BK594 HB hx617_0 hx617_1 hHeld ⊢
    refine pure_ (i := 0) (N := some 139) (v := ?_) (a' := ?_) #[T,F,F,F,F,F,F] rfl rfl z31_9 (fun _ _ _ h => h) (Or.inl ⟨by rfl, ?_⟩) ?_ ?_
    rotate_left
    ·intro w'
     go_simp
     with_reducible rfl
    rotate_left
    ·exact acq
    refine pure_ (i := 1) (N := some 140) (v := ?_) (a' := ?_) #[T,T,F,F,F,F,F] rfl rfl z31_9 (fun _ _ _ h => h) (Or.inl ⟨by rfl, ?_⟩) ?_ ?_
    rotate_left
    ·intro w'
     go_simp
     with_reducible rfl
    rotate_left
    ·exact acq
    refine pure_ (i := 2) (N := some 141) (v := ?_) (a' := ?_) #[T,T,T,F,F,F,F] rfl rfl z31_9 (fun _ _ _ h => h) (Or.inl ⟨by rfl, ?_⟩) ?_ ?_
    rotate_left
    ·intro w'
     go_simp
     with_reducible rfl
    rotate_left
    ·exact acq
    refine take_ (i := 3) (N := some 142) (v := ?_) (a' := ?_) #[T,T,T,T,F,F,F] rfl rfl z31_9 (fun _ _ _ h => h) (Or.inl ⟨by rfl, ?_⟩) hHeld ?_ ?_
    rotate_left
    ·rintro w' ⟨s0, s1, s2, s3⟩
     go_simp
     with_reducible rfl
    rotate_left
    ·exact acq
    refine take_ (i := 4) (N := some 143) (v := ?_) (a' := ?_) #[T,T,T,T,T,F,F] rfl rfl z31_9 (fun _ _ _ h => h) (Or.inl ⟨by rfl, ?_⟩) hHeld ?_ ?_
    rotate_left
    ·rintro w' ⟨s0, s1, s2, s3⟩
     go_simp
     with_reducible rfl
    rotate_left
    ·exact acq
    refine one_ (i := 5) (N := some 144) #[T,T,T,T,T,T,F] rfl rfl z31_9 (by decide) (fun K hK => ?_)
    refine goes_ Try.func6 z31_9 rfl #[.agg #[.int .i64 ((rd_T25 t580 x17_2).f0), .int .i64 ((rd_T25 t580 x17_2).f1)], .agg #[.int .i64 t571, .int .i64 t572]] (by rfl) rfl rfl ln_31 ?_
    with_reducible refine (impl_SlopeDistance.calls k2 ((rd_T25 t580 x17_2).f0) ((rd_T25 t580 x17_2).f1) t571 t572 t618 _ A113.out).mono ?_
    rintro e w137 ⟨rfl, hb⟩
    have HS2_ := (hb.cell (World.block_lt_of_cell? _ _ (hHeld.2.2.1))).trans (hHeld.2.2.1)
    have HS3_ := (hb.cell (World.block_lt_of_cell? _ _ (hHeld.2.2.2))).trans (hHeld.2.2.2)
    refine ⟨_, rfl, ?_⟩
    replace HO_8 := Az.mk (Kd.R_below z31_7 hb); replace HO_11 := Az.mk (Kd.R_below z31_5 hb); replace HO_13 := Az.mk (Kd.R_below z31_6 hb); replace BK573 := bkz BK573 hb; replace BK574 := bkz BK574 hb; replace BK579 := bkz BK579 hb; replace BK587 := bkz BK587 hb; replace BK588 := bkz BK588 hb; replace BK594 := bkz BK594 hb; replace HB := Az.mk (bwT bw_31 hb)
    (try clear hb)
    (try clear hb2)
    (try clear hk)
    (try clear hi)
    refine hK.out _ _ ⟨(bkC BK574.out 0).trans rfl, (bkC BK574.out 1).trans rfl, HS2_, HS3_⟩ (fun hHeld => ?_)
    clear hK K
    refine norm_ (a' := ?_) ?_ ?_
    rotate_left
    ·show Act.put _ (some 144) _ = _
     exact acq
    refine pure_ (i := 6) (N := some 18) (v := ?_) (a' := ?_) #[T,T,T,T,T,T,T] rfl rfl z31_9 (fun _ _ _ h => h) (Or.inl ⟨by rfl, ?_⟩) ?_ ?_
    rotate_left
    ·intro w'
     go_simp
     with_reducible rfl
    rotate_left
    ·exact acq
    refine done_ z31_9 ?_
    have hnb138 := NB579_573.out
    have hnc138 := NB573_579.out
    have hnb139 := NB579_574.out
    have hnc139 := NB574_579.out
    have hnb140 := NB579_587.out
    have hnc140 := NB587_579.out
    have hnb141 := NB579_588.out
    have hnc141 := NB588_579.out
    have hnb142 := NB579_594.out
    have hnc142 := NB594_579.out
    have hcz143_0 := bkc0 BK579
    have hcz143_1 := bkc1 BK579
    have hfz143_0 := bkF BK579.out 0
    have hfz143_1 := bkF BK579.out 1
    have hnb144 := NB574_573.out
    have hnc144 := NB573_574.out
    have hnb145 := NB574_587.out
    have hnc145 := NB587_574.out
    have hnb146 := NB574_588.out
    have hnc146 := NB588_574.out
    have hnb147 := NB574_594.out
    have hnc147 := NB594_574.out
    have hcz148_0 := bkc0 BK574
    have hcz148_1 := bkc1 BK574
    have hfz148_0 := bkF BK574.out 0
    have hfz148_1 := bkF BK574.out 1
    try go_wp2_with (first | ((with_reducible refine gtC (f := 6) rfl ?_); refine clz Try.func6 (some 147) #[.agg #[.int .i64 t576, .int .i64 t577], .agg #[.int .i64 t571, .int .i64 t572]] ?_; (with_reducible refine (impl_SlopeDistance.calls k2 t576 t577 t571 t572 t619 _ A114.out).mono ?_); rintro e w149 ⟨rfl, hb⟩; refine ⟨_, rfl, ?_⟩; replace HO_8 := Az.mk (Kd.R_below z31_7 hb); replace HO_11 := Az.mk (Kd.R_below z31_5 hb); replace HO_13 := Az.mk (Kd.R_below z31_6 hb); replace BK573 := bkz BK573 hb; replace BK574 := bkz BK574 hb; replace BK579 := bkz BK579 hb; replace BK587 := bkz BK587 hb; replace BK588 := bkz BK588 hb; replace BK594 := bkz BK594 hb; replace HB := Az.mk (bwT bw_31 hb); (try clear hb)))
    go_roundg k2
    case measure => have := HJ23.out; have := HK2.out; omega
    case rel => exact ⟨(wrap64 (x17_2 + 1)), rq2, H', ⟨by have := HJ23.out; have := HK2.out; omega⟩, ⟨by (with_reducible repeat (first | apply Kd.R_alloc | apply Kd.R_drewN | apply Kd.R_drew)); exact HO_8.out⟩, ⟨by (with_reducible repeat (first | apply Kd.R_alloc | apply Kd.R_drewN | apply Kd.R_drew)); exact HO_11.out⟩, ⟨by (with_reducible repeat (first | apply Kd.R_alloc | apply Kd.R_drewN | apply Kd.R_drew)); exact HO_13.out⟩, ⟨bk1 BK573⟩, ⟨bk1 BK574⟩, ⟨bk1 BK579⟩, ⟨bk1 BK587⟩, ⟨bk1 BK588⟩, ⟨bk1 BK594⟩, ⟨bw_31⟩⟩
   rw [if_pos c115] at H
   have c115b0 : decide (0 ≤ t619) = true := decide_eq_true c115
   clear c115
   by_cases c116 : t618 > (wrap64 (t619 + 1))
   ·rw [if_pos c116] at H
    exact absurd H (by simp)
   rw [if_neg c116] at H
   have c116b0 : decide ((wrap64 (t619 + 1)) < t618) = false := decide_eq_false c116
   clear c116
   by_cases c117 : t618 < (wrap64 (t619 - 1))
   ·rw [if_pos c117] at H
    exact absurd H (by simp)
   rw [if_neg c117] at H
   have c117b0 : decide (t618 < (wrap64 (t619 - 1))) = false := decide_eq_false c117
   clear c117
   have H' := Az.mk H
   clear H
   try go_wp2
   replace HO_8 := Az.mk (Kd.R_drew HO_8.out); replace HO_11 := Az.mk (Kd.R_drew HO_11.out); replace HO_13 := Az.mk (Kd.R_drew HO_13.out); replace BK573 := Az.mk (bkD BK573.out); replace BK574 := Az.mk (bkD BK574.out); replace BK579 := Az.mk (bkD BK579.out); replace BK587 := Az.mk (bkD BK587.out); replace BK588 := Az.mk (bkD BK588.out); replace BK594 := Az.mk (bkD BK594.out); replace HB := Az.mk (bwD HB.out)
   have p615 : 0 ≤ (x17_2 : Int) := of_decide_eq_true (by first | (with_reducible assumption) | assumption)
   have q615 : x17_2 < (t580.length : Int) := of_decide_eq_true (by first | (with_reducible assumption) | assumption)
   obtain ⟨ad615, e615, hx615_0, hx615_1⟩ := at_T25 (Kd.R_reads' HO_8.out).2.2 x17_2 p615 q615
   cases e615
   replace p615 := eq_true p615
   replace q615 := eq_true q615
   refine start_ (n := 7) (S := fun w' => w'.cell? ⟨gb579, 0, none⟩ = some (.int .i64 t576) ∧ w'.cell? ⟨gb579, 1, none⟩ = some (.int .i64 t577) ∧ w'.cell? (ad615.add ((x17_2).toNat * 2)) = some (.int .i64 ((rd_T25 t580 x17_2).f0)) ∧ w'.cell? ⟨(ad615.add ((x17_2).toNat * 2)).block, (ad615.add ((x17_2).toNat * 2)).off + 1, none⟩ = some (.int .i64 ((rd_T25 t580 x17_2).f1))) (ds := []) #[F,F,F,F,F,F,F] z31_9 rfl rfl ⟨(bkC BK579.out 0).trans rfl, (bkC BK579.out 1).trans rfl, hx615_0, hx615_1⟩ (fun hHeld => ?_)
   generalize wr.drew = w118 at HO_8 HO_11 HO_13 BK573 BK574 BK579 BK587 BK588 BK594 HB hx615_0 hx615_1 hHeld ⊢
   refine pure_ (i := 0) (N := some 132) (v := ?_) (a' := ?_) #[T,F,F,F,F,F,F] rfl rfl z31_9 (fun _ _ _ h => h) (Or.inl ⟨by rfl, ?_⟩) ?_ ?_
   rotate_left
   ·intro w'
    go_simp
    with_reducible rfl
   rotate_left
   ·exact acq
   refine pure_ (i := 1) (N := some 133) (v := ?_) (a' := ?_) #[T,T,F,F,F,F,F] rfl rfl z31_9 (fun _ _ _ h => h) (Or.inl ⟨by rfl, ?_⟩) ?_ ?_
   rotate_left
   ·intro w'
    go_simp
    with_reducible rfl
   rotate_left
   ·exact acq
   refine pure_ (i := 2) (N := some 134) (v := ?_) (a' := ?_) #[T,T,T,F,F,F,F] rfl rfl z31_9 (fun _ _ _ h => h) (Or.inl ⟨by rfl, ?_⟩) ?_ ?_
   rotate_left
   ·intro w'
    go_simp
    with_reducible rfl
   rotate_left
   ·exact acq
   refine take_ (i := 3) (N := some 135) (v := ?_) (a' := ?_) #[T,T,T,T,F,F,F] rfl rfl z31_9 (fun _ _ _ h => h) (Or.inl ⟨by rfl, ?_⟩) hHeld ?_ ?_
   rotate_left
   ·rintro w' ⟨s0, s1, s2, s3⟩
    go_simp
    with_reducible rfl
   rotate_left
   ·exact acq
   refine take_ (i := 4) (N := some 136) (v := ?_) (a' := ?_) #[T,T,T,T,T,F,F] rfl rfl z31_9 (fun _ _ _ h => h) (Or.inl ⟨by rfl, ?_⟩) hHeld ?_ ?_
   rotate_left
   ·rintro w' ⟨s0, s1, s2, s3⟩
    go_simp
    with_reducible rfl
   rotate_left
   ·exact acq
   refine one_ (i := 5) (N := some 137) #[T,T,T,T,T,T,F] rfl rfl z31_9 (by decide) (fun K hK => ?_)
   refine goes_ Try.func18 z31_9 rfl #[.agg #[.int .i64 ((rd_T25 t580 x17_2).f0), .int .i64 ((rd_T25 t580 x17_2).f1)], .agg #[.int .i64 t576, .int .i64 t577]] (by rfl) rfl rfl ln_31 ?_
   with_reducible refine (spec_CrossNumber.calls k2 ((rd_T25 t580 x17_2).f0) ((rd_T25 t580 x17_2).f1) t576 t577 t616 _ A111.out).mono ?_
   rintro e w119 ⟨rfl, hb⟩
   have HS2_ := (hb.cell (World.block_lt_of_cell? _ _ (hHeld.2.2.1))).trans (hHeld.2.2.1)
   have HS3_ := (hb.cell (World.block_lt_of_cell? _ _ (hHeld.2.2.2))).trans (hHeld.2.2.2)
   refine ⟨_, rfl, ?_⟩
   replace HO_8 := Az.mk (Kd.R_below z31_7 hb); replace HO_11 := Az.mk (Kd.R_below z31_5 hb); replace HO_13 := Az.mk (Kd.R_below z31_6 hb); replace BK573 := bkz BK573 hb; replace BK574 := bkz BK574 hb; replace BK579 := bkz BK579 hb; replace BK587 := bkz BK587 hb; replace BK588 := bkz BK588 hb; replace BK594 := bkz BK594 hb; replace HB := Az.mk (bwT bw_31 hb)
   (try clear hb)
   (try clear hb2)
   (try clear hk)
   (try clear hi)
   refine hK.out _ _ ⟨(bkC BK579.out 0).trans rfl, (bkC BK579.out 1).trans rfl, HS2_, HS3_⟩ (fun hHeld => ?_)
   clear hK K
   refine norm_ (a' := ?_) ?_ ?_
   rotate_left
   ·show Act.put _ (some 137) _ = _
    exact acq
   refine pure_ (i := 6) (N := some 138) (v := ?_) (a' := ?_) #[T,T,T,T,T,T,T] rfl rfl z31_9 (fun _ _ _ h => h) (Or.inl ⟨by rfl, ?_⟩) ?_ ?_
   rotate_left
   ·intro w'
    go_simp
    with_reducible rfl
   rotate_left
   ·exact acq
   refine done_ z31_9 ?_
   try go_wp2
   replace HO_8 := Az.mk (Kd.R_drew HO_8.out); replace HO_11 := Az.mk (Kd.R_drew HO_11.out); replace HO_13 := Az.mk (Kd.R_drew HO_13.out); replace BK573 := Az.mk (bkD BK573.out); replace BK574 := Az.mk (bkD BK574.out); replace BK579 := Az.mk (bkD BK579.out); replace BK587 := Az.mk (bkD BK587.out); replace BK588 := Az.mk (bkD BK588.out); replace BK594 := Az.mk (bkD BK594.out); replace HB := Az.mk (bwD HB.out)
   have p617 : 0 ≤ (x17_2 : Int) := of_decide_eq_true (by first | (with_reducible assumption) | assumption)
   have q617 : x17_2 < (t580.length : Int) := of_decide_eq_true (by first | (with_reducible assumption) | assumption)
   obtain ⟨ad617, e617, hx617_0, hx617_1⟩ := at_T25 (Kd.R_reads' HO_8.out).2.2 x17_2 p617 q617
   obtain rfl : ad615 = ad617 := (by injection e617)
   replace p617 := eq_true p617
   replace q617 := eq_true q617
   refine start_ (n := 7) (S := fun w' => w'.cell? ⟨gb574, 0, none⟩ = some (.int .i64 t571) ∧ w'.cell? ⟨gb574, 1, none⟩ = some (.int .i64 t572) ∧ w'.cell? (ad615.add ((x17_2).toNat * 2)) = some (.int .i64 ((rd_T25 t580 x17_2).f0)) ∧ w'.cell? ⟨(ad615.add ((x17_2).toNat * 2)).block, (ad615.add ((x17_2).toNat * 2)).off + 1, none⟩ = some (.int .i64 ((rd_T25 t580 x17_2).f1))) (ds := []) #[F,F,F,F,F,F,F] z31_9 rfl rfl ⟨(bkC BK574.out 0).trans rfl, (bkC BK574.out 1).trans rfl, hx617_0, hx617_1⟩ (fun hHeld => ?_)
   generalize w119.drew = w120 at HO_8 HO_11 HO_13 BK573 BK574 BK579 BK587 BK588 BK594 HB hx617_0 hx617_1 hHeld ⊢
   refine pure_ (i := 0) (N := some 139) (v := ?_) (a' := ?_) #[T,F,F,F,F,F,F] rfl rfl z31_9 (fun _ _ _ h => h) (Or.inl ⟨by rfl, ?_⟩) ?_ ?_
   rotate_left
   ·intro w'
    go_simp
    with_reducible rfl
   rotate_left
   ·exact acq
   refine pure_ (i := 1) (N := some 140) (v := ?_) (a' := ?_) #[T,T,F,F,F,F,F] rfl rfl z31_9 (fun _ _ _ h => h) (Or.inl ⟨by rfl, ?_⟩) ?_ ?_
   rotate_left
   ·intro w'
    go_simp
    with_reducible rfl
   rotate_left
   ·exact acq
   refine pure_ (i := 2) (N := some 141) (v := ?_) (a' := ?_) #[T,T,T,F,F,F,F] rfl rfl z31_9 (fun _ _ _ h => h) (Or.inl ⟨by rfl, ?_⟩) ?_ ?_
   rotate_left
   ·intro w'
    go_simp
    with_reducible rfl
   rotate_left
   ·exact acq
   refine take_ (i := 3) (N := some 142) (v := ?_) (a' := ?_) #[T,T,T,T,F,F,F] rfl rfl z31_9 (fun _ _ _ h => h) (Or.inl ⟨by rfl, ?_⟩) hHeld ?_ ?_
   rotate_left
   ·rintro w' ⟨s0, s1, s2, s3⟩
    go_simp
    with_reducible rfl
   rotate_left
   ·exact acq
   refine take_ (i := 4) (N := some 143) (v := ?_) (a' := ?_) #[T,T,T,T,T,F,F] rfl rfl z31_9 (fun _ _ _ h => h) (Or.inl ⟨by rfl, ?_⟩) hHeld ?_ ?_
   rotate_left
   ·rintro w' ⟨s0, s1, s2, s3⟩
    go_simp
    with_reducible rfl
   rotate_left
   ·exact acq
   refine one_ (i := 5) (N := some 144) #[T,T,T,T,T,T,F] rfl rfl z31_9 (by decide) (fun K hK => ?_)
   refine goes_ Try.func6 z31_9 rfl #[.agg #[.int .i64 ((rd_T25 t580 x17_2).f0), .int .i64 ((rd_T25 t580 x17_2).f1)], .agg #[.int .i64 t571, .int .i64 t572]] (by rfl) rfl rfl ln_31 ?_
   with_reducible refine (impl_SlopeDistance.calls k2 ((rd_T25 t580 x17_2).f0) ((rd_T25 t580 x17_2).f1) t571 t572 t618 _ A113.out).mono ?_
   rintro e w121 ⟨rfl, hb⟩
   have HS2_ := (hb.cell (World.block_lt_of_cell? _ _ (hHeld.2.2.1))).trans (hHeld.2.2.1)
   have HS3_ := (hb.cell (World.block_lt_of_cell? _ _ (hHeld.2.2.2))).trans (hHeld.2.2.2)
   refine ⟨_, rfl, ?_⟩
   replace HO_8 := Az.mk (Kd.R_below z31_7 hb); replace HO_11 := Az.mk (Kd.R_below z31_5 hb); replace HO_13 := Az.mk (Kd.R_below z31_6 hb); replace BK573 := bkz BK573 hb; replace BK574 := bkz BK574 hb; replace BK579 := bkz BK579 hb; replace BK587 := bkz BK587 hb; replace BK588 := bkz BK588 hb; replace BK594 := bkz BK594 hb; replace HB := Az.mk (bwT bw_31 hb)
   (try clear hb)
   (try clear hb2)
   (try clear hk)
   (try clear hi)
   refine hK.out _ _ ⟨(bkC BK574.out 0).trans rfl, (bkC BK574.out 1).trans rfl, HS2_, HS3_⟩ (fun hHeld => ?_)
   clear hK K
   refine norm_ (a' := ?_) ?_ ?_
   rotate_left
   ·show Act.put _ (some 144) _ = _
    exact acq
   refine pure_ (i := 6) (N := some 18) (v := ?_) (a' := ?_) #[T,T,T,T,T,T,T] rfl rfl z31_9 (fun _ _ _ h => h) (Or.inl ⟨by rfl, ?_⟩) ?_ ?_
   rotate_left
   ·intro w'
    go_simp
    with_reducible rfl
   rotate_left
   ·exact acq
   refine done_ z31_9 ?_
   have hnb122 := NB579_573.out
   have hnc122 := NB573_579.out
   have hnb123 := NB579_574.out
   have hnc123 := NB574_579.out
   have hnb124 := NB579_587.out
   have hnc124 := NB587_579.out
   have hnb125 := NB579_588.out
   have hnc125 := NB588_579.out
   have hnb126 := NB579_594.out
   have hnc126 := NB594_579.out
   have hcz127_0 := bkc0 BK579
   have hcz127_1 := bkc1 BK579
   have hfz127_0 := bkF BK579.out 0
   have hfz127_1 := bkF BK579.out 1
   have hnb128 := NB574_573.out
   have hnc128 := NB573_574.out
   have hnb129 := NB574_587.out
   have hnc129 := NB587_574.out
   have hnb130 := NB574_588.out
   have hnc130 := NB588_574.out
   have hnb131 := NB574_594.out
   have hnc131 := NB594_574.out
   have hcz132_0 := bkc0 BK574
   have hcz132_1 := bkc1 BK574
   have hfz132_0 := bkF BK574.out 0
   have hfz132_1 := bkF BK574.out 1
   try go_wp2_with (first | ((with_reducible refine gtC (f := 6) rfl ?_); refine clz Try.func6 (some 147) #[.agg #[.int .i64 t576, .int .i64 t577], .agg #[.int .i64 t571, .int .i64 t572]] ?_; (with_reducible refine (impl_SlopeDistance.calls k2 t576 t577 t571 t572 t619 _ A114.out).mono ?_); rintro e w133 ⟨rfl, hb⟩; refine ⟨_, rfl, ?_⟩; replace HO_8 := Az.mk (Kd.R_below z31_7 hb); replace HO_11 := Az.mk (Kd.R_below z31_5 hb); replace HO_13 := Az.mk (Kd.R_below z31_6 hb); replace BK573 := bkz BK573 hb; replace BK574 := bkz BK574 hb; replace BK579 := bkz BK579 hb; replace BK587 := bkz BK587 hb; replace BK588 := bkz BK588 hb; replace BK594 := bkz BK594 hb; replace HB := Az.mk (bwT bw_31 hb); (try clear hb)))
   go_roundg k2
   case measure => have := HJ23.out; have := HK2.out; omega
   case rel => exact ⟨(wrap64 (x17_2 + 1)), rq2, H', ⟨by have := HJ23.out; have := HK2.out; omega⟩, ⟨by (with_reducible repeat (first | apply Kd.R_alloc | apply Kd.R_drewN | apply Kd.R_drew)); exact HO_8.out⟩, ⟨by (with_reducible repeat (first | apply Kd.R_alloc | apply Kd.R_drewN | apply Kd.R_drew)); exact HO_11.out⟩, ⟨by (with_reducible repeat (first | apply Kd.R_alloc | apply Kd.R_drewN | apply Kd.R_drew)); exact HO_13.out⟩, ⟨bk1 BK573⟩, ⟨bk1 BK574⟩, ⟨bk1 BK579⟩, ⟨bk1 BK587⟩, ⟨bk1 BK588⟩, ⟨bk1 BK594⟩, ⟨bw_31⟩⟩
theorem laws_FnFarey.walk (P : laws_FnFarey.Pure) (a0 : Option Addr) (len0 cap0 : Nat) (z0 : List Int) (w : World) (w0 : (a0 = none ∧ len0 = 0 ∧ cap0 = 0 ∧ z0 = []) ∨ ∃ x, a0 = some x ∧ len0 ≤ cap0 ∧ cap0 ≤ maxLen ∧ z0.length = cap0 ∧ (∀ i, i < z0.length → w.cell? (x.add i) = some (.int .u8 (z0.getD i 0))) ∧ ∀ n ∈ z0, (Lit.int .u8 n).wf = true) (y0 : len0 * 1 ≤ 140737488351232) :
  Calls Try.prog 3 #[.slice a0 len0 cap0] w fun e w' => e = .returned (.bool true) ∧ Below w.heap.size w w' := by
 obtain ⟨l0, rfl, hr0, hm0, hw0, hc0⟩ := ReadsInt.ofRowC w0
 obtain ⟨k, h⟩ := P l0 hm0 y0 hw0
 refine (laws_FnFarey.calls k _ _ l0 true w (Kd.C_of_reads (d := (0 : Int)) (h1 := fun _ => rfl) hr0) hc0 h).mono ?_
 rintro e w' ⟨rfl, hd⟩
 exact ⟨rfl, hd⟩

end Go.Proofs.Ytigcjehokbgclaa.P
