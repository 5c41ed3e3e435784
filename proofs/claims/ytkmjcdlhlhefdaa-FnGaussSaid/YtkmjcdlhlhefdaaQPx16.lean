-- By this session's driver (wip/tools/mk.py) of the kit's print program, over several statements at once. Not trusted: Lean checks it.
import Derived.Test.YtkmjcdlhlhefdaaQWZip
import Derived.Test.YtkmjcdlhlhefdaaQPx0
import Derived.Test.YtkmjcdlhlhefdaaQPx9
import Derived.Test.YtkmjcdlhlhefdaaQPx12
namespace Go.Proofs.Ytkmjcdlhlhefdaa.P
open Go.RowKit Go.Proofs.YtkmjcdlhlhefdaaW.PrintWords Go.Proofs.YtkmjcdlhlhefdaaW.PrintLast Go.Proofs.YtkmjcdlhlhefdaaW.PrintMore
attribute [local go_sem] max2_int min2_int max_two min_two max_three min_three max_four min_four   -- for this text's walks alone
set_option linter.unusedVariables false
set_option linter.unusedSimpArgs false

theorem bw_16 {n : Nat} {v v' : World} (h : Below n v v' := by repeat (first | (with_reducible first | exact HB.out | apply bwA | apply pbN | apply bwD) | exact HB.out)) : Below n v v' := h

theorem ln_16 {P : Prop} (h : P := by (try simp only [List.map_toArray, List.map_cons, List.map_nil]); first | done | rfl | (simp only [List.length_drop, List.length_take]; rfl)) : P := h
open Option renaming bind_eq_some_iff → be

/-! ### spec_l18Drop: function 41 -/
def spec_l18Drop.l0 : Nat → List Int → Int → List Int → Int → Option (List Int)
 | 0, _, _, _, _ => none
 | k + 1, x0, x1, x5, x6 => if x6 < (x0.length : Int) then (if 0 ≤ x6 then (if (rd x0 x6) = x1 then (spec_l18Drop.l0 k x0 x1 x5 (wrap64 (x6 + 1))) else (if x5.length < 17592186044416 then (spec_l18Drop.l0 k x0 x1 (x5 ++ [rd x0 x6]) (wrap64 (x6 + 1))) else (none))) else (none)) else (some x5)
def spec_l18Drop.f (k : Nat) (l0 : List Int) (a1 : Int) : Option (List Int) := spec_l18Drop.l0 k l0 a1 (([] : List Int)) 0
set_option maxHeartbeats 8000000 in
set_option maxRecDepth 100000 in
theorem spec_l18Drop.calls (k : Nat) (A0 : Option Addr) (c0 : Nat) (l0 : List Int) (a1 : Int) (r : List Int) (w : World) (hr0 : Kd.C (Kd.int .i64) w A0 l0.length l0) (hc0 : l0.length ≤ c0) (h : spec_l18Drop.f k l0 a1 = some r) :
  Calls Try.prog 41 #[.slice A0 l0.length c0, .int .i64 a1] w fun e w' => ∃ v0_ : Value, e = .returned (v0_) ∧ Kd.R (Kd.int .i64) 3 w' w.heap.size (fun _ => True) v0_ r ∧ Below w.heap.size w w' := by
 have HR0 := Az.mk hr0
 have HC0 := Az.mk hc0
 clear hr0 hc0
 have HB := Az.mk (Below.refl w.heap.size w)
 have H : (spec_l18Drop.l0 k l0 a1 (([] : List Int)) 0) = some r := h
 clear h
 obtain ⟨y386, hy⟩ : ∃ y_ : List Int, y_ = (([] : List Int)) := ⟨_, rfl⟩
 replace H : (spec_l18Drop.l0 k l0 a1 y386 0) = some r := rh
 have Ny386 := Az.mk hy
 clear hy
 have H' := Az.mk H
 clear H
 go_enter Try.func41, Try.ntmps41
 go_wp2_with (first | ((with_reducible refine gtD (N := 7) rfl ?_); refine Kd.R_lit (Kd.int .i64) _ 3 ?hg (N := 7) ?hd (xs := ([] : List Int)) (inner := []) (ok := fun _ => True) (okp := fun _ => True) ?hr ?hp (fun _ hk => hk) trivial (Below.refl _ _) (Nat.le_refl _) (by simp) ?_; (case hd => rfl); (case hg => rfl); (case hr => first | (go_simp; done) | (go_simp; rfl)); (case hp => exact (Reps.none _ _)); intro v387 w3 ho4 hb hg_ hnew_; clear hg_ hnew_; (first | rw [← Ny386.out] at ho4 | (simp only [Int.reduceToNat] at ho4; rw [← Ny386.out] at ho4)); have HO388 := Az.mk (Kd.R_lower ho4 (bwZ bw_16)); replace HB := Az.mk (bwT bw_16 hb); clear hb ho4))
 go_loopg [5, 6] k (fun kq v5 v6 w' => ∃ (x5_1 : List Int) (x6_1 : Int), v6 = .int .i64 x6_1 ∧ Az (spec_l18Drop.l0 kq l0 a1 x5_1 x6_1 = some r) ∧ Az (kq ≤ k) ∧ Az (Kd.R (Kd.int .i64) 3 w' w.heap.size (fun _ => True) v5 x5_1) ∧ Az (Below w.heap.size w w'))
 case atStart => exact ⟨(y386), (0), rq2, H', ⟨Nat.le_refl _⟩, ⟨kR HO388.out⟩, ⟨bw_16⟩⟩
 clear H'
 obtain ⟨x5_1, x6_1, rfl, HA, HK1, HO_5, HB⟩ := hrel
 cases gk with
 | zero => exact absurd HA.out (by simp [spec_l18Drop.l0])
 | succ k1 =>
  have H := HA.out
  clear HA
  simp only [spec_l18Drop.l0] at H
  by_cases c5 : x6_1 < (l0.length : Int)
  rotate_left
  ·rw [if_neg c5] at H
   have c5b0 : decide (x6_1 < (l0.length : Int)) = false := decide_eq_false c5
   clear c5
   obtain rfl := Option.some.inj H
   go_wp2
   go_ret
   exact ⟨_, rq1, kR HO_5.out, bw_16⟩
  rw [if_pos c5] at H
  have c5b0 : decide (x6_1 < (l0.length : Int)) = true := decide_eq_true c5
  clear c5
  by_cases c6 : 0 ≤ x6_1
  rotate_left
  ·rw [if_neg c6] at H
   exact absurd H (by simp)
  rw [if_pos c6] at H
  have c6b0 : decide (0 ≤ x6_1) = true := decide_eq_true c6
  clear c6
  by_cases c7 : (rd l0 x6_1) = a1
  ·rw [if_pos c7] at H
   have c7b0 : ((rd l0 x6_1) == a1) = true := beq_iff_eq.mpr c7
   have c7b1 : ((rd l0 x6_1) != a1) = false := bne_eq_false_iff_eq.mpr c7
   clear c7
   have H' := Az.mk H
   clear H
   have p389 : 0 ≤ (x6_1 : Int) := of_decide_eq_true am
   have q389 : x6_1 < (l0.length : Int) := of_decide_eq_true am
   obtain ⟨ad389, e389, hx389_0⟩ := Kd.at_int HR0.out x6_1 p389 q389
   cases e389
   replace hx389_0 := kc HB hx389_0
   replace p389 := eq_true p389
   replace q389 := eq_true q389
   go_wp2
   go_roundg k1
   case measure => have := HK1.out; omega
   case rel => exact ⟨(x5_1), (wrap64 (x6_1 + 1)), rq2, H', ⟨by have := HK1.out; omega⟩, ⟨kR HO_5.out⟩, ⟨bw_16⟩⟩
  rw [if_neg c7] at H
  have c7b0 : ((rd l0 x6_1) == a1) = false := beq_eq_false_iff_ne.mpr c7
  have c7b1 : ((rd l0 x6_1) != a1) = true := bne_iff_ne.mpr c7
  by_cases c8 : x5_1.length < 17592186044416
  rotate_left
  ·rw [if_neg c8] at H
   exact absurd H (by simp)
  rw [if_pos c8] at H
  have LMc8 := Az.mk c8
  clear c8
  obtain ⟨y391, hy⟩ : ∃ y_ : List Int, y_ = (x5_1 ++ [rd l0 x6_1]) := ⟨_, rfl⟩
  replace H : (spec_l18Drop.l0 k1 l0 a1 y391 (wrap64 (x6_1 + 1))) = some r := rh
  have Ny391 := Az.mk hy
  clear hy
  have H' := Az.mk H
  clear H
  have p389 : 0 ≤ (x6_1 : Int) := of_decide_eq_true am
  have q389 : x6_1 < (l0.length : Int) := of_decide_eq_true am
  obtain ⟨ad389, e389, hx389_0⟩ := Kd.at_int HR0.out x6_1 p389 q389
  cases e389
  replace hx389_0 := kc HB hx389_0
  replace p389 := eq_true p389
  replace q389 := eq_true q389
  have p390 : 0 ≤ (x6_1 : Int) := of_decide_eq_true am
  have q390 : x6_1 < (l0.length : Int) := of_decide_eq_true am
  obtain ⟨ad390, e390, hx390_0⟩ := Kd.at_int HR0.out x6_1 p390 q390
  obtain rfl : ad389 = ad390 := (by injection e390)
  replace hx390_0 := kc HB hx390_0
  replace p390 := eq_true p390
  replace q390 := eq_true q390
  go_wp2_with (first | ((with_reducible refine gate_builtin (b := .append) (xs := #[.tmp 20, .tmp 25]) rfl ?_); at_builtin; refine Kd.R_append (Kd.int .i64) (w0 := w) w.heap.size rfl (.tmp 20) (.tmp 25) 24 3 (.int .i64 0) 8 rfl Try.underlying24 info3 rfl (by decide) (by omega) u5 x5_1 (rd l0 x6_1) [.int .i64 (rd l0 x6_1)] (fun _ => True) (fun _ => False) rfl rfl ?aP (fun _ hk => hk.elim) ?aF ?aO ?aB ?aS ?aL ?_; (case aP => exact rfl); (case aB => exact bw_16); (case aF => exact (fun _ _ => trivial)); (case aO => exact (kR HO_5.out)); (case aS => exact (bwZ bw_16)); (case aL => have := LMc8.out; omega); intro v392 w9 ho hb hg hat; rw [← Ny391.out] at ho; have n0_ := Az.mk (hb); have n1_ := Az.mk (ho); clear HB; clear HO_5; have HB := n0_; have HO393 := n1_; clear n0_ n1_; clear ho hb hg hat))
  go_roundg k1
  case measure => have := HK1.out; omega
  case rel => exact ⟨(y391), (wrap64 (x6_1 + 1)), rq2, H', ⟨by have := HK1.out; omega⟩, ⟨kR HO393.out⟩, ⟨bw_16⟩⟩

/-! ### spec_DropCrossing: function 13 -/
def spec_DropCrossing.f (k : Nat) (l0 : List Int) (a1 : Int) : Option (List Int × Bool) := (spec_IsCrossingWord.f k l0).bind fun t394 => (if t394 = true then (if a1 < 1 then (some ((([] : List Int)), false)) else ((spec_l5Count.f k l0 a1).bind fun t398 => (if t398 = 2 then (if (l0.length : Int) = 2 then (some ((([] : List Int)), false)) else ((spec_l18Drop.f k l0 a1).bind fun t402 => (some (t402, true)))) else (some ((([] : List Int)), false))))) else (some ((([] : List Int)), false)))
set_option maxHeartbeats 8000000 in
set_option maxRecDepth 100000 in
theorem spec_DropCrossing.calls (k : Nat) (A0 : Option Addr) (c0 : Nat) (l0 : List Int) (a1 : Int) (r1 : List Int) (r2 : Bool) (w : World) (hr0 : Kd.C (Kd.int .i64) w A0 l0.length l0) (hc0 : l0.length ≤ c0) (h : spec_DropCrossing.f k l0 a1 = some (r1, r2)) :
  Calls Try.prog 13 #[.slice A0 l0.length c0, .int .i64 a1] w fun e w' => ∃ v0_ : Value, e = .returned (.tuple #[v0_, .bool r2]) ∧ Kd.R (Kd.int .i64) 3 w' w.heap.size (fun _ => True) v0_ r1 ∧ Below w.heap.size w w' := by
 have HR0 := Az.mk hr0
 have HC0 := Az.mk hc0
 clear hr0 hc0
 have HB := Az.mk (Below.refl w.heap.size w)
 have H : ((spec_IsCrossingWord.f k l0).bind fun t394 => (if t394 = true then (if a1 < 1 then (some ((([] : List Int)), false)) else ((spec_l5Count.f k l0 a1).bind fun t398 => (if t398 = 2 then (if (l0.length : Int) = 2 then (some ((([] : List Int)), false)) else ((spec_l18Drop.f k l0 a1).bind fun t402 => (some (t402, true)))) else (some ((([] : List Int)), false))))) else (some ((([] : List Int)), false)))) = some (r1, r2) := h
 clear h
 replace H := bez H
 obtain ⟨t394, A3, H⟩ := H
 try dsimp only at H
 by_cases c4 : t394 = true
 rotate_left
 ·replace c4 := Bool.eq_false_iff.mpr c4
  subst c4
  rw [if_neg ff] at H
  obtain ⟨y408, hy⟩ : ∃ y_ : List Int, y_ = (([] : List Int)) := ⟨_, rfl⟩
  replace H : (some (y408, false)) = some (r1, r2) := rh
  have Ny408 := Az.mk hy
  clear hy
  simp only [Option.some.injEq, Prod.mk.injEq] at H
  obtain ⟨rfl, rfl⟩ := H
  go_enter Try.func13, Try.ntmps13
  go_wp2_with (first | ((with_reducible refine gtC (f := 23) rfl ?_); refine clz Try.func23 (some 7) #[.slice A0 l0.length c0] ?_; (with_reducible refine (spec_IsCrossingWord.calls k _ _ l0 false _ ?side1 ?side2 A3.out).mono ?_); (case side1 => exact kC HR0.out); (case side2 => exact HC0.out); rintro e w' ⟨rfl, ⟨nd, rfl⟩⟩; refine ⟨_, rfl, ?_⟩) | ((with_reducible refine gtD (N := 24) rfl ?_); (try (refine gate_guard (by rfl) ?_; dsimp only)); refine Kd.R_lit (Kd.int .i64) _ 3 ?hg (N := 24) ?hd (xs := ([] : List Int)) (inner := []) (ok := fun _ => True) (okp := fun _ => True) ?hr ?hp (fun _ hk => hk) trivial (Below.refl _ _) (Nat.le_refl _) (by simp) ?_; (case hd => rfl); (case hg => rfl); (case hr => first | (go_simp; done) | (go_simp; rfl)); (case hp => exact (Reps.none _ _)); intro v409 w17 ho18 hb hg_ hnew_; clear hg_ hnew_; (first | rw [← Ny408.out] at ho18 | (simp only [Int.reduceToNat] at ho18; rw [← Ny408.out] at ho18)); have HO410 := Az.mk (Kd.R_lower ho18 (bwZ bw_16)); replace HB := Az.mk (bwT bw_16 hb); clear hb ho18))
  go_ret2
  exact ⟨_, rq1, kR HO410.out, bw_16⟩
 subst c4
 rw [if_pos rfl] at H
 by_cases c5 : a1 < 1
 ·rw [if_pos c5] at H
  have c5b0 : decide (a1 < 1) = true := decide_eq_true c5
  clear c5
  obtain ⟨y395, hy⟩ : ∃ y_ : List Int, y_ = (([] : List Int)) := ⟨_, rfl⟩
  replace H : (some (y395, false)) = some (r1, r2) := rh
  have Ny395 := Az.mk hy
  clear hy
  simp only [Option.some.injEq, Prod.mk.injEq] at H
  obtain ⟨rfl, rfl⟩ := H
  go_enter Try.func13, Try.ntmps13
  go_wp2_with (first | ((with_reducible refine gtC (f := 23) rfl ?_); refine clz Try.func23 (some 7) #[.slice A0 l0.length c0] ?_; (with_reducible refine (spec_IsCrossingWord.calls k _ _ l0 true _ ?side1 ?side2 A3.out).mono ?_); (case side1 => exact kC HR0.out); (case side2 => exact HC0.out); rintro e w' ⟨rfl, ⟨nd, rfl⟩⟩; refine ⟨_, rfl, ?_⟩) | ((with_reducible refine gtD (N := 24) rfl ?_); (try (refine gate_guard (by rfl) ?_; dsimp only)); refine Kd.R_lit (Kd.int .i64) _ 3 ?hg (N := 24) ?hd (xs := ([] : List Int)) (inner := []) (ok := fun _ => True) (okp := fun _ => True) ?hr ?hp (fun _ hk => hk) trivial (Below.refl _ _) (Nat.le_refl _) (by simp) ?_; (case hd => rfl); (case hg => rfl); (case hr => first | (go_simp; done) | (go_simp; rfl)); (case hp => exact (Reps.none _ _)); intro v396 w6 ho7 hb hg_ hnew_; clear hg_ hnew_; (first | rw [← Ny395.out] at ho7 | (simp only [Int.reduceToNat] at ho7; rw [← Ny395.out] at ho7)); have HO397 := Az.mk (Kd.R_lower ho7 (bwZ bw_16)); replace HB := Az.mk (bwT bw_16 hb); clear hb ho7))
  go_ret2
  exact ⟨_, rq1, kR HO397.out, bw_16⟩
 rw [if_neg c5] at H
 have c5b0 : decide (a1 < 1) = false := decide_eq_false c5
 clear c5
 replace H := bez H
 obtain ⟨t398, A8, H⟩ := H
 try dsimp only at H
 by_cases c9 : t398 = 2
 rotate_left
 ·rw [if_neg c9] at H
  have c9b0 : (t398 == 2) = false := beq_eq_false_iff_ne.mpr c9
  have c9b1 : (t398 != 2) = true := bne_iff_ne.mpr c9
  obtain ⟨y405, hy⟩ : ∃ y_ : List Int, y_ = (([] : List Int)) := ⟨_, rfl⟩
  replace H : (some (y405, false)) = some (r1, r2) := rh
  have Ny405 := Az.mk hy
  clear hy
  simp only [Option.some.injEq, Prod.mk.injEq] at H
  obtain ⟨rfl, rfl⟩ := H
  go_enter Try.func13, Try.ntmps13
  go_wp2_with (first | ((with_reducible refine gtC (f := 23) rfl ?_); refine clz Try.func23 (some 7) #[.slice A0 l0.length c0] ?_; (with_reducible refine (spec_IsCrossingWord.calls k _ _ l0 true _ ?side1 ?side2 A3.out).mono ?_); (case side1 => exact kC HR0.out); (case side2 => exact HC0.out); rintro e w' ⟨rfl, ⟨nd, rfl⟩⟩; refine ⟨_, rfl, ?_⟩) | (go_at_call 40; (with_reducible refine (spec_l5Count.calls k _ _ l0 a1 t398 _ ?side1 ?side2 A8.out).mono ?_); (case side1 => exact kC HR0.out); (case side2 => exact HC0.out); rintro e w' ⟨rfl, ⟨nd, rfl⟩⟩) | ((with_reducible refine gtD (N := 24) rfl ?_); (try (refine gate_guard (by rfl) ?_; dsimp only)); refine Kd.R_lit (Kd.int .i64) _ 3 ?hg (N := 24) ?hd (xs := ([] : List Int)) (inner := []) (ok := fun _ => True) (okp := fun _ => True) ?hr ?hp (fun _ hk => hk) trivial (Below.refl _ _) (Nat.le_refl _) (by simp) ?_; (case hd => rfl); (case hg => rfl); (case hr => first | (go_simp; done) | (go_simp; rfl)); (case hp => exact (Reps.none _ _)); intro v406 w15 ho16 hb hg_ hnew_; clear hg_ hnew_; (first | rw [← Ny405.out] at ho16 | (simp only [Int.reduceToNat] at ho16; rw [← Ny405.out] at ho16)); have HO407 := Az.mk (Kd.R_lower ho16 (bwZ bw_16)); replace HB := Az.mk (bwT bw_16 hb); clear hb ho16))
  go_ret2
  exact ⟨_, rq1, kR HO407.out, bw_16⟩
 rw [if_pos c9] at H
 have c9b0 : (t398 == 2) = true := beq_iff_eq.mpr c9
 have c9b1 : (t398 != 2) = false := bne_eq_false_iff_eq.mpr c9
 clear c9
 by_cases c10 : (l0.length : Int) = 2
 ·rw [if_pos c10] at H
  have c10b0 : ((l0.length : Int) == 2) = true := beq_iff_eq.mpr c10
  have c10b1 : ((l0.length : Int) != 2) = false := bne_eq_false_iff_eq.mpr c10
  clear c10
  obtain ⟨y399, hy⟩ : ∃ y_ : List Int, y_ = (([] : List Int)) := ⟨_, rfl⟩
  replace H : (some (y399, false)) = some (r1, r2) := rh
  have Ny399 := Az.mk hy
  clear hy
  simp only [Option.some.injEq, Prod.mk.injEq] at H
  obtain ⟨rfl, rfl⟩ := H
  go_enter Try.func13, Try.ntmps13
  go_wp2_with (first | ((with_reducible refine gtC (f := 23) rfl ?_); refine clz Try.func23 (some 7) #[.slice A0 l0.length c0] ?_; (with_reducible refine (spec_IsCrossingWord.calls k _ _ l0 true _ ?side1 ?side2 A3.out).mono ?_); (case side1 => exact kC HR0.out); (case side2 => exact HC0.out); rintro e w' ⟨rfl, ⟨nd, rfl⟩⟩; refine ⟨_, rfl, ?_⟩) | (go_at_call 40; (with_reducible refine (spec_l5Count.calls k _ _ l0 a1 t398 _ ?side1 ?side2 A8.out).mono ?_); (case side1 => exact kC HR0.out); (case side2 => exact HC0.out); rintro e w' ⟨rfl, ⟨nd, rfl⟩⟩) | ((with_reducible refine gtD (N := 24) rfl ?_); (try (refine gate_guard (by rfl) ?_; dsimp only)); refine Kd.R_lit (Kd.int .i64) _ 3 ?hg (N := 24) ?hd (xs := ([] : List Int)) (inner := []) (ok := fun _ => True) (okp := fun _ => True) ?hr ?hp (fun _ hk => hk) trivial (Below.refl _ _) (Nat.le_refl _) (by simp) ?_; (case hd => rfl); (case hg => rfl); (case hr => first | (go_simp; done) | (go_simp; rfl)); (case hp => exact (Reps.none _ _)); intro v400 w11 ho12 hb hg_ hnew_; clear hg_ hnew_; (first | rw [← Ny399.out] at ho12 | (simp only [Int.reduceToNat] at ho12; rw [← Ny399.out] at ho12)); have HO401 := Az.mk (Kd.R_lower ho12 (bwZ bw_16)); replace HB := Az.mk (bwT bw_16 hb); clear hb ho12))
  go_ret2
  exact ⟨_, rq1, kR HO401.out, bw_16⟩
 rw [if_neg c10] at H
 have c10b0 : ((l0.length : Int) == 2) = false := beq_eq_false_iff_ne.mpr c10
 have c10b1 : ((l0.length : Int) != 2) = true := bne_iff_ne.mpr c10
 replace H := bez H
 obtain ⟨t402, A13, H⟩ := H
 try dsimp only at H
 simp only [Option.some.injEq, Prod.mk.injEq] at H
 obtain ⟨rfl, rfl⟩ := H
 go_enter Try.func13, Try.ntmps13
 go_wp2_with (first | ((with_reducible refine gtC (f := 23) rfl ?_); refine clz Try.func23 (some 7) #[.slice A0 l0.length c0] ?_; (with_reducible refine (spec_IsCrossingWord.calls k _ _ l0 true _ ?side1 ?side2 A3.out).mono ?_); (case side1 => exact kC HR0.out); (case side2 => exact HC0.out); rintro e w' ⟨rfl, ⟨nd, rfl⟩⟩; refine ⟨_, rfl, ?_⟩) | (go_at_call 40; (with_reducible refine (spec_l5Count.calls k _ _ l0 a1 t398 _ ?side1 ?side2 A8.out).mono ?_); (case side1 => exact kC HR0.out); (case side2 => exact HC0.out); rintro e w' ⟨rfl, ⟨nd, rfl⟩⟩) | ((with_reducible refine gtC (f := 41) rfl ?_); refine clz Try.func41 (some 27) #[.slice A0 l0.length c0, .int .i64 a1] ?_; (with_reducible refine (spec_l18Drop.calls k _ _ l0 a1 t402 _ ?side1 ?side2 A13.out).mono ?_); (case side1 => exact kC HR0.out); (case side2 => exact HC0.out); rintro e w14 ⟨v403, rfl, ho0, hb⟩; refine ⟨_, rfl, ?_⟩; have HO404 := Az.mk (Kd.R_lower ho0 (bwZ bw_16)); replace HB := Az.mk (bwT bw_16 hb); (try clear hb); (try clear ho0)))
 go_ret2
 exact ⟨_, rq1, kR HO404.out, bw_16⟩

/-! ### impl_linked: function 43 -/
def impl_linked.f (k : Nat) (l0 : List Int) (a1 : Int) (a2 : Int) : Option (Bool) := (impl_placesOf.f k l0 a1).bind fun bt411 => ((impl_placesOf.f k l0 a2).bind fun bt413 => (if bt413.1 > bt411.1 then (if bt413.2 > bt411.1 then (some ((decide (bt413.1 < bt411.2)) != (decide (bt413.2 < bt411.2)))) else (some ((decide (bt413.1 < bt411.2)) != false))) else (if bt413.2 > bt411.1 then (some (false != (decide (bt413.2 < bt411.2)))) else (some (false != false)))))
set_option maxHeartbeats 8000000 in
set_option maxRecDepth 100000 in
theorem impl_linked.calls (k : Nat) (A0 : Option Addr) (c0 : Nat) (l0 : List Int) (a1 : Int) (a2 : Int) (r : Bool) (w : World) (hr0 : Kd.C (Kd.int .i64) w A0 l0.length l0) (hc0 : l0.length ≤ c0) (h : impl_linked.f k l0 a1 a2 = some r) :
  Calls Try.prog 43 #[.slice A0 l0.length c0, .int .i64 a1, .int .i64 a2] w fun e w' => e = .returned (.bool r) ∧ Drawn0 w w' := by
 have HR0 := Az.mk hr0
 have HC0 := Az.mk hc0
 clear hr0 hc0
 have H : ((impl_placesOf.f k l0 a1).bind fun bt411 => ((impl_placesOf.f k l0 a2).bind fun bt413 => (if bt413.1 > bt411.1 then (if bt413.2 > bt411.1 then (some ((decide (bt413.1 < bt411.2)) != (decide (bt413.2 < bt411.2)))) else (some ((decide (bt413.1 < bt411.2)) != false))) else (if bt413.2 > bt411.1 then (some (false != (decide (bt413.2 < bt411.2)))) else (some (false != false)))))) = some r := h
 clear h
 replace H := bez H
 obtain ⟨⟨t411, t412⟩, A4, H⟩ := H
 try dsimp only at H
 replace H := bez H
 obtain ⟨⟨t413, t414⟩, A5, H⟩ := H
 try dsimp only at H
 by_cases c6 : t413 > t411
 ·rw [if_pos c6] at H
  have c6b0 : decide (t411 < t413) = true := decide_eq_true c6
  clear c6
  by_cases c7 : t414 > t411
  ·rw [if_pos c7] at H
   have c7b0 : decide (t411 < t414) = true := decide_eq_true c7
   clear c7
   obtain rfl := Option.some.inj H
   go_enter Try.func43, Try.ntmps43
   go_wp2_with (first | ((with_reducible refine gtC (f := 60) rfl ?_); refine clz Try.func60 (some 14) #[.slice A0 l0.length c0, .int .i64 a1] ?_; (with_reducible refine (impl_placesOf.calls k _ _ l0 a1 t411 t412 _ ?side1 ?side2 A4.out).mono ?_); (case side1 => exact kC HR0.out); (case side2 => exact HC0.out); rintro e w' ⟨rfl, ⟨nd, rfl⟩⟩; refine ⟨_, rfl, ?_⟩) | ((with_reducible refine gtC (f := 60) rfl ?_); refine clz Try.func60 (some 20) #[.slice A0 l0.length c0, .int .i64 a2] ?_; (with_reducible refine (impl_placesOf.calls k _ _ l0 a2 t413 t414 _ ?side1 ?side2 A5.out).mono ?_); (case side1 => exact kC HR0.out); (case side2 => exact HC0.out); rintro e w' ⟨rfl, ⟨nd, rfl⟩⟩; refine ⟨_, rfl, ?_⟩))
   go_ret
   exact ⟨rq2, kd⟩
  rw [if_neg c7] at H
  have c7b0 : decide (t411 < t414) = false := decide_eq_false c7
  clear c7
  obtain rfl := Option.some.inj H
  go_enter Try.func43, Try.ntmps43
  go_wp2_with (first | ((with_reducible refine gtC (f := 60) rfl ?_); refine clz Try.func60 (some 14) #[.slice A0 l0.length c0, .int .i64 a1] ?_; (with_reducible refine (impl_placesOf.calls k _ _ l0 a1 t411 t412 _ ?side1 ?side2 A4.out).mono ?_); (case side1 => exact kC HR0.out); (case side2 => exact HC0.out); rintro e w' ⟨rfl, ⟨nd, rfl⟩⟩; refine ⟨_, rfl, ?_⟩) | ((with_reducible refine gtC (f := 60) rfl ?_); refine clz Try.func60 (some 20) #[.slice A0 l0.length c0, .int .i64 a2] ?_; (with_reducible refine (impl_placesOf.calls k _ _ l0 a2 t413 t414 _ ?side1 ?side2 A5.out).mono ?_); (case side1 => exact kC HR0.out); (case side2 => exact HC0.out); rintro e w' ⟨rfl, ⟨nd, rfl⟩⟩; refine ⟨_, rfl, ?_⟩))
  go_ret
  exact ⟨rq2, kd⟩
 rw [if_neg c6] at H
 have c6b0 : decide (t411 < t413) = false := decide_eq_false c6
 clear c6
 by_cases c8 : t414 > t411
 ·rw [if_pos c8] at H
  have c8b0 : decide (t411 < t414) = true := decide_eq_true c8
  clear c8
  obtain rfl := Option.some.inj H
  go_enter Try.func43, Try.ntmps43
  go_wp2_with (first | ((with_reducible refine gtC (f := 60) rfl ?_); refine clz Try.func60 (some 14) #[.slice A0 l0.length c0, .int .i64 a1] ?_; (with_reducible refine (impl_placesOf.calls k _ _ l0 a1 t411 t412 _ ?side1 ?side2 A4.out).mono ?_); (case side1 => exact kC HR0.out); (case side2 => exact HC0.out); rintro e w' ⟨rfl, ⟨nd, rfl⟩⟩; refine ⟨_, rfl, ?_⟩) | ((with_reducible refine gtC (f := 60) rfl ?_); refine clz Try.func60 (some 20) #[.slice A0 l0.length c0, .int .i64 a2] ?_; (with_reducible refine (impl_placesOf.calls k _ _ l0 a2 t413 t414 _ ?side1 ?side2 A5.out).mono ?_); (case side1 => exact kC HR0.out); (case side2 => exact HC0.out); rintro e w' ⟨rfl, ⟨nd, rfl⟩⟩; refine ⟨_, rfl, ?_⟩))
  go_ret
  exact ⟨rq2, kd⟩
 rw [if_neg c8] at H
 have c8b0 : decide (t411 < t414) = false := decide_eq_false c8
 clear c8
 obtain rfl := Option.some.inj H
 go_enter Try.func43, Try.ntmps43
 go_wp2_with (first | ((with_reducible refine gtC (f := 60) rfl ?_); refine clz Try.func60 (some 14) #[.slice A0 l0.length c0, .int .i64 a1] ?_; (with_reducible refine (impl_placesOf.calls k _ _ l0 a1 t411 t412 _ ?side1 ?side2 A4.out).mono ?_); (case side1 => exact kC HR0.out); (case side2 => exact HC0.out); rintro e w' ⟨rfl, ⟨nd, rfl⟩⟩; refine ⟨_, rfl, ?_⟩) | ((with_reducible refine gtC (f := 60) rfl ?_); refine clz Try.func60 (some 20) #[.slice A0 l0.length c0, .int .i64 a2] ?_; (with_reducible refine (impl_placesOf.calls k _ _ l0 a2 t413 t414 _ ?side1 ?side2 A5.out).mono ?_); (case side1 => exact kC HR0.out); (case side2 => exact HC0.out); rintro e w' ⟨rfl, ⟨nd, rfl⟩⟩; refine ⟨_, rfl, ?_⟩))
 go_ret
 exact ⟨rq2, kd⟩

end Go.Proofs.Ytkmjcdlhlhefdaa.P
