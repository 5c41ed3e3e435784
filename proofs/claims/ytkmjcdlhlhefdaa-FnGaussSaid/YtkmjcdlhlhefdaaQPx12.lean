-- The walks (printed by mk.py's driver of the kit's print program, cut by prune.py and sq2.py), laid together by join.py. Not trusted: Lean checks it.
import Derived.Test.YtkmjcdlhlhefdaaQWZip
import Derived.Test.YtkmjcdlhlhefdaaQPx0
import Derived.Test.YtkmjcdlhlhefdaaQPx10
namespace Go.Proofs.Ytkmjcdlhlhefdaa.P
open Go.RowKit Go.Proofs.YtkmjcdlhlhefdaaW.PrintWords Go.Proofs.YtkmjcdlhlhefdaaW.PrintLast Go.Proofs.YtkmjcdlhlhefdaaW.PrintMore
attribute [local go_sem] max2_int min2_int max_two min_two max_three min_three max_four min_four   -- for this text's walks alone
set_option linter.unusedVariables false
set_option linter.unusedSimpArgs false

theorem ln_11 {P : Prop} (h : P := by (try simp only [List.map_toArray, List.map_cons, List.map_nil]); first | done | rfl | (simp only [List.length_drop, List.length_take]; rfl)) : P := h
open Option renaming bind_eq_some_iff → be

/-! ### spec_l5Count: function 40 -/
def spec_l5Count.l0 : Nat → List Int → Int → Int → Int → Option (Int)
 | 0, _, _, _, _ => none
 | k + 1, x0, x1, x5, x6 => if x6 < (x0.length : Int) then (if 0 ≤ x6 then ((spec_l3Abs.f (rd x0 x6)).bind fun t322 => ((spec_l1Bit.f (t322 == x1)).bind fun t323 => (spec_l5Count.l0 k x0 x1 (wrap64 (x5 + t323)) (wrap64 (x6 + 1))))) else (none)) else (some x5)
def spec_l5Count.f (k : Nat) (l0 : List Int) (a1 : Int) : Option (Int) := spec_l5Count.l0 k l0 a1 0 0
set_option maxHeartbeats 8000000 in
set_option maxRecDepth 100000 in
theorem spec_l5Count.calls (k : Nat) (A0 : Option Addr) (c0 : Nat) (l0 : List Int) (a1 : Int) (r : Int) (w : World) (hr0 : Kd.C (Kd.int .i64) w A0 l0.length l0) (hc0 : l0.length ≤ c0) (h : spec_l5Count.f k l0 a1 = some r) :
  Calls Try.prog 40 #[.slice A0 l0.length c0, .int .i64 a1] w fun e w' => e = .returned (.int .i64 r) ∧ Drawn0 w w' := by
 have HR0 := Az.mk hr0
 have HC0 := Az.mk hc0
 clear hr0 hc0
 have H : (spec_l5Count.l0 k l0 a1 0 0) = some r := h
 clear h
 have H' := Az.mk H
 clear H
 go_enter Try.func40, Try.ntmps40
 go_wp2
 go_loopg [5, 6] k (fun kq v5 v6 w' => ∃ (x5_1 : Int) (x6_1 : Int), v5 = .int .i64 x5_1 ∧ v6 = .int .i64 x6_1 ∧ Az (spec_l5Count.l0 kq l0 a1 x5_1 x6_1 = some r) ∧ Az (kq ≤ k) ∧ Drawn0 w w')
 case atStart => exact ⟨(0), (0), rq2, rq2, H', ⟨Nat.le_refl _⟩, kd⟩
 clear H'
 obtain ⟨x5_1, x6_1, rfl, rfl, HA, HK1, ⟨m1, rfl⟩⟩ := hrel
 cases gk with
 | zero => exact absurd HA.out (by simp [spec_l5Count.l0])
 | succ k1 =>
  have H := HA.out
  clear HA
  simp only [spec_l5Count.l0] at H
  by_cases c3 : x6_1 < (l0.length : Int)
  rotate_left
  ·rw [if_neg c3] at H
   have c3b0 : decide (x6_1 < (l0.length : Int)) = false := decide_eq_false c3
   clear c3
   obtain rfl := Option.some.inj H
   go_wp2
   go_ret
   exact ⟨rq2, kd⟩
  rw [if_pos c3] at H
  have c3b0 : decide (x6_1 < (l0.length : Int)) = true := decide_eq_true c3
  clear c3
  by_cases c4 : 0 ≤ x6_1
  rotate_left
  ·rw [if_neg c4] at H
   exact absurd H (by simp)
  rw [if_pos c4] at H
  have c4b0 : decide (0 ≤ x6_1) = true := decide_eq_true c4
  clear c4
  replace H := bez H
  obtain ⟨t322, A5, H⟩ := H
  try dsimp only at H
  replace H := bez H
  obtain ⟨t323, A6, H⟩ := H
  try dsimp only at H
  have H' := Az.mk H
  clear H
  have p321 : 0 ≤ (x6_1 : Int) := of_decide_eq_true am
  have q321 : x6_1 < (l0.length : Int) := of_decide_eq_true am
  obtain ⟨ad321, e321, hx321_0⟩ := Kd.at_int HR0.out x6_1 p321 q321
  cases e321
  replace p321 := eq_true p321
  replace q321 := eq_true q321
  go_wp2_with (first | ((with_reducible refine gtC (f := 65) rfl ?_); refine clz Try.func65 (some 18) #[.int .i64 (rd l0 x6_1)] ?_; (with_reducible refine (spec_l3Abs.calls (rd l0 x6_1) t322 _ A5.out).mono ?_); rintro e w' ⟨rfl, ⟨nd, rfl⟩⟩; refine ⟨_, rfl, ?_⟩) | ((with_reducible refine gtC (f := 48) rfl ?_); refine clz Try.func48 (some 21) #[.bool (t322 == a1)] ?_; (with_reducible refine (spec_l1Bit.calls (t322 == a1) t323 _ A6.out).mono ?_); rintro e w' ⟨rfl, ⟨nd, rfl⟩⟩; refine ⟨_, rfl, ?_⟩))
  go_roundg k1
  case measure => have := HK1.out; omega
  case rel => exact ⟨(wrap64 (x5_1 + t323)), (wrap64 (x6_1 + 1)), rq2, rq2, H', ⟨by have := HK1.out; omega⟩, kd⟩

/-! ### spec_l2Letter: function 69 -/
def spec_l2Letter.f (a0 : Int) : Option (Bool) := (spec_l1In.f a0 1 8).bind fun t324 => (if t324 = true then (some true) else ((spec_l1In.f a0 (-8) (-1)).bind fun t325 => (some t325)))
set_option maxHeartbeats 8000000 in
set_option maxRecDepth 100000 in
theorem spec_l2Letter.calls (a0 : Int) (r : Bool) (w : World) (h : spec_l2Letter.f a0 = some r) :
  Calls Try.prog 69 #[.int .i64 a0] w fun e w' => e = .returned (.bool r) ∧ Drawn0 w w' := by
 have H : ((spec_l1In.f a0 1 8).bind fun t324 => (if t324 = true then (some true) else ((spec_l1In.f a0 (-8) (-1)).bind fun t325 => (some t325)))) = some r := h
 clear h
 replace H := bez H
 obtain ⟨t324, A2, H⟩ := H
 try dsimp only at H
 by_cases c3 : t324 = true
 ·subst c3
  rw [if_pos rfl] at H
  obtain rfl := Option.some.inj H
  go_enter Try.func69, Try.ntmps69
  go_wp2_with (first | ((with_reducible refine gtC (f := 37) rfl ?_); refine clz Try.func37 (some 4) #[.int .i64 a0, .int .i64 1, .int .i64 8] ?_; (with_reducible refine (spec_l1In.calls a0 1 8 true _ A2.out).mono ?_); rintro e w' ⟨rfl, ⟨nd, rfl⟩⟩; refine ⟨_, rfl, ?_⟩))
  go_ret
  exact ⟨rq2, kd⟩
 replace c3 := Bool.eq_false_iff.mpr c3
 subst c3
 rw [if_neg ff] at H
 replace H := bez H
 obtain ⟨t325, A4, H⟩ := H
 replace H : (some t325) = some r := H
 obtain rfl := Option.some.inj H
 go_enter Try.func69, Try.ntmps69
 go_wp2_with (first | ((with_reducible refine gtC (f := 37) rfl ?_); refine clz Try.func37 (some 4) #[.int .i64 a0, .int .i64 1, .int .i64 8] ?_; (with_reducible refine (spec_l1In.calls a0 1 8 false _ A2.out).mono ?_); rintro e w' ⟨rfl, ⟨nd, rfl⟩⟩; refine ⟨_, rfl, ?_⟩) | (go_at_call 37; (with_reducible refine (spec_l1In.calls a0 (-8) (-1) t325 _ A4.out).mono ?_); rintro e w' ⟨rfl, ⟨nd, rfl⟩⟩))
 go_ret
 exact ⟨rq2, kd⟩

/-! ### spec_IsWord: function 51 -/
def spec_IsWord.l0 : Nat → List Int → Int → Option (Bool)
 | 0, _, _ => none
 | k + 1, x0, x3 => if x3 < (x0.length : Int) then (if 0 ≤ x3 then ((spec_l2Letter.f (rd x0 x3)).bind fun t327 => (if t327 = true then (spec_IsWord.l0 k x0 (wrap64 (x3 + 1))) else (some false))) else (none)) else (some (decide ((x0.length : Int) ≤ 24)))
def spec_IsWord.f (k : Nat) (l0 : List Int) : Option (Bool) := spec_IsWord.l0 k l0 0
set_option maxHeartbeats 8000000 in
set_option maxRecDepth 100000 in
theorem spec_IsWord.calls (k : Nat) (A0 : Option Addr) (c0 : Nat) (l0 : List Int) (r : Bool) (w : World) (hr0 : Kd.C (Kd.int .i64) w A0 l0.length l0) (hc0 : l0.length ≤ c0) (h : spec_IsWord.f k l0 = some r) :
  Calls Try.prog 51 #[.slice A0 l0.length c0] w fun e w' => e = .returned (.bool r) ∧ Drawn0 w w' := by
 have HR0 := Az.mk hr0
 have HC0 := Az.mk hc0
 clear hr0 hc0
 have H : (spec_IsWord.l0 k l0 0) = some r := h
 clear h
 have H' := Az.mk H
 clear H
 go_enter Try.func51, Try.ntmps51
 go_wp2
 go_loopg [3] k (fun kq v3 w' => ∃ (x3_1 : Int), v3 = .int .i64 x3_1 ∧ Az (spec_IsWord.l0 kq l0 x3_1 = some r) ∧ Az (kq ≤ k) ∧ Drawn0 w w')
 case atStart => exact ⟨(0), rq2, H', ⟨Nat.le_refl _⟩, kd⟩
 clear H'
 obtain ⟨x3_1, rfl, HA, HK1, ⟨m1, rfl⟩⟩ := hrel
 cases gk with
 | zero => exact absurd HA.out (by simp [spec_IsWord.l0])
 | succ k1 =>
  have H := HA.out
  clear HA
  simp only [spec_IsWord.l0] at H
  by_cases c2 : x3_1 < (l0.length : Int)
  rotate_left
  ·rw [if_neg c2] at H
   have c2b0 : decide (x3_1 < (l0.length : Int)) = false := decide_eq_false c2
   clear c2
   obtain rfl := Option.some.inj H
   go_wp2
   go_ret
   exact ⟨rq2, kd⟩
  rw [if_pos c2] at H
  have c2b0 : decide (x3_1 < (l0.length : Int)) = true := decide_eq_true c2
  clear c2
  by_cases c3 : 0 ≤ x3_1
  rotate_left
  ·rw [if_neg c3] at H
   exact absurd H (by simp)
  rw [if_pos c3] at H
  have c3b0 : decide (0 ≤ x3_1) = true := decide_eq_true c3
  clear c3
  replace H := bez H
  obtain ⟨t327, A4, H⟩ := H
  try dsimp only at H
  by_cases c5 : t327 = true
  rotate_left
  ·replace c5 := Bool.eq_false_iff.mpr c5
   subst c5
   rw [if_neg ff] at H
   obtain rfl := Option.some.inj H
   have p326 : 0 ≤ (x3_1 : Int) := of_decide_eq_true am
   have q326 : x3_1 < (l0.length : Int) := of_decide_eq_true am
   obtain ⟨ad326, e326, hx326_0⟩ := Kd.at_int HR0.out x3_1 p326 q326
   cases e326
   replace p326 := eq_true p326
   replace q326 := eq_true q326
   go_wp2_with (first | ((with_reducible refine gtC (f := 69) rfl ?_); refine clz Try.func69 (some 14) #[.int .i64 (rd l0 x3_1)] ?_; (with_reducible refine (spec_l2Letter.calls (rd l0 x3_1) false _ A4.out).mono ?_); rintro e w' ⟨rfl, ⟨nd, rfl⟩⟩; refine ⟨_, rfl, ?_⟩))
   go_ret
   exact ⟨rq2, kd⟩
  subst c5
  rw [if_pos rfl] at H
  have H' := Az.mk H
  clear H
  have p326 : 0 ≤ (x3_1 : Int) := of_decide_eq_true am
  have q326 : x3_1 < (l0.length : Int) := of_decide_eq_true am
  obtain ⟨ad326, e326, hx326_0⟩ := Kd.at_int HR0.out x3_1 p326 q326
  cases e326
  replace p326 := eq_true p326
  replace q326 := eq_true q326
  go_wp2_with (first | ((with_reducible refine gtC (f := 69) rfl ?_); refine clz Try.func69 (some 14) #[.int .i64 (rd l0 x3_1)] ?_; (with_reducible refine (spec_l2Letter.calls (rd l0 x3_1) true _ A4.out).mono ?_); rintro e w' ⟨rfl, ⟨nd, rfl⟩⟩; refine ⟨_, rfl, ?_⟩))
  go_roundg k1
  case measure => have := HK1.out; omega
  case rel => exact ⟨(wrap64 (x3_1 + 1)), rq2, H', ⟨by have := HK1.out; omega⟩, kd⟩

end Go.Proofs.Ytkmjcdlhlhefdaa.P
namespace Go.Proofs.Ytkmjcdlhlhefdaa.P
open Go.RowKit Go.Proofs.YtkmjcdlhlhefdaaW.PrintWords Go.Proofs.YtkmjcdlhlhefdaaW.PrintLast Go.Proofs.YtkmjcdlhlhefdaaW.PrintMore
attribute [local go_sem] max2_int min2_int max_two min_two max_three min_three max_four min_four   -- for this text's walks alone
set_option linter.unusedVariables false
set_option linter.unusedSimpArgs false

/-! ### spec_IsCrossingWord: function 23 -/
mutual
def spec_IsCrossingWord.j0 : Nat → List Int → Bool → Option (Bool)
 | 0, _, _ => none
 | k + 1, x0, x12 => if x12 = true then (some false) else (spec_IsCrossingWord.l0 k x0 0)
def spec_IsCrossingWord.l0 : Nat → List Int → Int → Option (Bool)
 | 0, _, _ => none
 | k + 1, x0, x3 => if x3 < (x0.length : Int) then (if 0 ≤ x3 then (if (rd x0 x3) < 1 then (some false) else ((spec_l5Count.f k x0 (rd x0 x3)).bind fun t332 => (if t332 = 2 then (spec_IsCrossingWord.l0 k x0 (wrap64 (x3 + 1))) else (some false)))) else (none)) else (some true)
end
def spec_IsCrossingWord.f (k : Nat) (l0 : List Int) : Option (Bool) := (spec_IsWord.f k l0).bind fun t328 => (if t328 = true then ((spec_l1In.f (l0.length : Int) 2 12).bind fun t329 => (spec_IsCrossingWord.j0 k l0 (!t329))) else (spec_IsCrossingWord.j0 k l0 true))
set_option maxHeartbeats 8000000 in
set_option maxRecDepth 100000 in
theorem spec_IsCrossingWord.calls (k : Nat) (A0 : Option Addr) (c0 : Nat) (l0 : List Int) (r : Bool) (w : World) (hr0 : Kd.C (Kd.int .i64) w A0 l0.length l0) (hc0 : l0.length ≤ c0) (h : spec_IsCrossingWord.f k l0 = some r) :
  Calls Try.prog 23 #[.slice A0 l0.length c0] w fun e w' => e = .returned (.bool r) ∧ Drawn0 w w' := by
 have HR0 := Az.mk hr0
 have HC0 := Az.mk hc0
 clear hr0 hc0
 have H : ((spec_IsWord.f k l0).bind fun t328 => (if t328 = true then ((spec_l1In.f (l0.length : Int) 2 12).bind fun t329 => (spec_IsCrossingWord.j0 k l0 (!t329))) else (spec_IsCrossingWord.j0 k l0 true))) = some r := h
 clear h
 have HC2 := Az.mk H
 clear H
 go_enter Try.func23, Try.ntmps23
 go_upto_region 1 with (fail)
 go_cut [12] (fun v12 wc => ∃ (kq : Nat) (x12_1 : Bool), v12 = .bool x12_1 ∧ Az (spec_IsCrossingWord.j0 kq l0 x12_1 = some r) ∧ Az (kq ≤ k) ∧ Drawn0 w wc)
 case first =>
  have H := HC2.out
  clear HC2
  replace H := bez H
  obtain ⟨t328, A3, H⟩ := H
  try dsimp only at H
  by_cases c4 : t328 = true
  rotate_left
  ·replace c4 := Bool.eq_false_iff.mpr c4
   subst c4
   rw [if_neg ff] at H
   have H' := Az.mk H
   clear H
   go_wp2_with (first | ((with_reducible refine gtC (f := 51) rfl ?_); refine clz Try.func51 (some 5) #[.slice A0 l0.length c0] ?_; (with_reducible refine (spec_IsWord.calls k _ _ l0 false _ ?side1 ?side2 A3.out).mono ?_); (case side1 => exact kC HR0.out); (case side2 => exact HC0.out); rintro e w' ⟨rfl, ⟨nd, rfl⟩⟩; refine ⟨_, rfl, ?_⟩))
   go_meet
   case rel => exact ⟨_, (true), rq2, H', ⟨by first | omega | exact Nat.le_refl _⟩, kd⟩
  subst c4
  rw [if_pos rfl] at H
  replace H := bez H
  obtain ⟨t329, A5, H⟩ := H
  try dsimp only at H
  have H' := Az.mk H
  clear H
  go_wp2_with (first | ((with_reducible refine gtC (f := 51) rfl ?_); refine clz Try.func51 (some 5) #[.slice A0 l0.length c0] ?_; (with_reducible refine (spec_IsWord.calls k _ _ l0 true _ ?side1 ?side2 A3.out).mono ?_); (case side1 => exact kC HR0.out); (case side2 => exact HC0.out); rintro e w' ⟨rfl, ⟨nd, rfl⟩⟩; refine ⟨_, rfl, ?_⟩) | (go_at_call 37; (with_reducible refine (spec_l1In.calls (l0.length : Int) 2 12 t329 _ A5.out).mono ?_); rintro e w' ⟨rfl, ⟨nd, rfl⟩⟩))
  go_meet
  case rel => exact ⟨_, (!t329), rq2, H', ⟨by first | omega | exact Nat.le_refl _⟩, kd⟩
 clear HC2
 try clear c4
 obtain ⟨kq, x12_1, rfl, HA, HJ1, ⟨mc1, rfl⟩⟩ := hcut
 cases kq with
 | zero => exact absurd HA.out (by simp [spec_IsCrossingWord.j0])
 | succ kj1 =>
  have H := HA.out
  clear HA
  simp only [spec_IsCrossingWord.j0] at H
  by_cases c6 : x12_1 = true
  ·subst c6
   rw [if_pos rfl] at H
   obtain rfl := Option.some.inj H
   go_wp2
   go_ret
   exact ⟨rq2, kd⟩
  replace c6 := Bool.eq_false_iff.mpr c6
  subst c6
  rw [if_neg ff] at H
  have H' := Az.mk H
  clear H
  go_wp2
  go_loopg [3] kj1 (fun kq v3 w' => ∃ (x3_2 : Int), v3 = .int .i64 x3_2 ∧ Az (spec_IsCrossingWord.l0 kq l0 x3_2 = some r) ∧ Az (kq ≤ kj1) ∧ Drawn0 w w')
  case atStart => exact ⟨(0), rq2, H', ⟨Nat.le_refl _⟩, kd⟩
  clear H'
  try clear c4
  try clear c6
  obtain ⟨x3_2, rfl, HA, HK2, ⟨m2, rfl⟩⟩ := hrel
  cases gk with
  | zero => exact absurd HA.out (by simp [spec_IsCrossingWord.l0])
  | succ k2 =>
   have H := HA.out
   clear HA
   simp only [spec_IsCrossingWord.l0] at H
   by_cases c7 : x3_2 < (l0.length : Int)
   rotate_left
   ·rw [if_neg c7] at H
    have c7b0 : decide (x3_2 < (l0.length : Int)) = false := decide_eq_false c7
    clear c7
    obtain rfl := Option.some.inj H
    go_wp2
    go_ret
    exact ⟨rq2, kd⟩
   rw [if_pos c7] at H
   have c7b0 : decide (x3_2 < (l0.length : Int)) = true := decide_eq_true c7
   clear c7
   by_cases c8 : 0 ≤ x3_2
   rotate_left
   ·rw [if_neg c8] at H
    exact absurd H (by simp)
   rw [if_pos c8] at H
   have c8b0 : decide (0 ≤ x3_2) = true := decide_eq_true c8
   clear c8
   by_cases c9 : (rd l0 x3_2) < 1
   ·rw [if_pos c9] at H
    have c9b0 : decide ((rd l0 x3_2) < 1) = true := decide_eq_true c9
    clear c9
    obtain rfl := Option.some.inj H
    have p330 : 0 ≤ (x3_2 : Int) := of_decide_eq_true am
    have q330 : x3_2 < (l0.length : Int) := of_decide_eq_true am
    obtain ⟨ad330, e330, hx330_0⟩ := Kd.at_int HR0.out x3_2 p330 q330
    cases e330
    replace p330 := eq_true p330
    replace q330 := eq_true q330
    go_wp2
    go_ret
    exact ⟨rq2, kd⟩
   rw [if_neg c9] at H
   have c9b0 : decide ((rd l0 x3_2) < 1) = false := decide_eq_false c9
   clear c9
   replace H := bez H
   obtain ⟨t332, A10, H⟩ := H
   try dsimp only at H
   by_cases c11 : t332 = 2
   rotate_left
   ·rw [if_neg c11] at H
    have c11b0 : (t332 == 2) = false := beq_eq_false_iff_ne.mpr c11
    have c11b1 : (t332 != 2) = true := bne_iff_ne.mpr c11
    obtain rfl := Option.some.inj H
    have p330 : 0 ≤ (x3_2 : Int) := of_decide_eq_true am
    have q330 : x3_2 < (l0.length : Int) := of_decide_eq_true am
    obtain ⟨ad330, e330, hx330_0⟩ := Kd.at_int HR0.out x3_2 p330 q330
    cases e330
    replace p330 := eq_true p330
    replace q330 := eq_true q330
    have p331 : 0 ≤ (x3_2 : Int) := of_decide_eq_true am
    have q331 : x3_2 < (l0.length : Int) := of_decide_eq_true am
    obtain ⟨ad331, e331, hx331_0⟩ := Kd.at_int HR0.out x3_2 p331 q331
    obtain rfl : ad330 = ad331 := (by injection e331)
    replace p331 := eq_true p331
    replace q331 := eq_true q331
    go_wp2_with (first | (go_at_call 40; (with_reducible refine (spec_l5Count.calls k2 _ _ l0 (rd l0 x3_2) t332 _ ?side1 ?side2 A10.out).mono ?_); (case side1 => exact kC HR0.out); (case side2 => exact HC0.out); rintro e w' ⟨rfl, ⟨nd, rfl⟩⟩))
    go_ret
    exact ⟨rq2, kd⟩
   rw [if_pos c11] at H
   have c11b0 : (t332 == 2) = true := beq_iff_eq.mpr c11
   have c11b1 : (t332 != 2) = false := bne_eq_false_iff_eq.mpr c11
   clear c11
   have H' := Az.mk H
   clear H
   have p330 : 0 ≤ (x3_2 : Int) := of_decide_eq_true am
   have q330 : x3_2 < (l0.length : Int) := of_decide_eq_true am
   obtain ⟨ad330, e330, hx330_0⟩ := Kd.at_int HR0.out x3_2 p330 q330
   cases e330
   replace p330 := eq_true p330
   replace q330 := eq_true q330
   have p331 : 0 ≤ (x3_2 : Int) := of_decide_eq_true am
   have q331 : x3_2 < (l0.length : Int) := of_decide_eq_true am
   obtain ⟨ad331, e331, hx331_0⟩ := Kd.at_int HR0.out x3_2 p331 q331
   obtain rfl : ad330 = ad331 := (by injection e331)
   replace p331 := eq_true p331
   replace q331 := eq_true q331
   go_wp2_with (first | (go_at_call 40; (with_reducible refine (spec_l5Count.calls k2 _ _ l0 (rd l0 x3_2) t332 _ ?side1 ?side2 A10.out).mono ?_); (case side1 => exact kC HR0.out); (case side2 => exact HC0.out); rintro e w' ⟨rfl, ⟨nd, rfl⟩⟩))
   go_roundg k2
   case measure => have := HJ1.out; have := HK2.out; omega
   case rel => exact ⟨(wrap64 (x3_2 + 1)), rq2, H', ⟨by have := HJ1.out; have := HK2.out; omega⟩, kd⟩

/-! ### spec_l18Places: function 63 -/
def spec_l18Places.l0 : Nat → List Int → Int → Int → Int → Option (Int × Int)
 | 0, _, _, _, _ => none
 | k + 1, x0, x1, x6, x7 => if x7 < (x0.length : Int) then (if 0 ≤ x7 then (if (rd x0 x7) = x1 then (if x6 ≥ 0 then (some (x6, x7)) else (spec_l18Places.l0 k x0 x1 x7 (wrap64 (x7 + 1)))) else (spec_l18Places.l0 k x0 x1 x6 (wrap64 (x7 + 1)))) else (none)) else (some ((-1), (-1)))
def spec_l18Places.f (k : Nat) (l0 : List Int) (a1 : Int) : Option (Int × Int) := spec_l18Places.l0 k l0 a1 (-1) 0
set_option maxHeartbeats 8000000 in
set_option maxRecDepth 100000 in
theorem spec_l18Places.calls (k : Nat) (A0 : Option Addr) (c0 : Nat) (l0 : List Int) (a1 : Int) (r1 : Int) (r2 : Int) (w : World) (hr0 : Kd.C (Kd.int .i64) w A0 l0.length l0) (hc0 : l0.length ≤ c0) (h : spec_l18Places.f k l0 a1 = some (r1, r2)) :
  Calls Try.prog 63 #[.slice A0 l0.length c0, .int .i64 a1] w fun e w' => e = .returned (.tuple #[.int .i64 r1, .int .i64 r2]) ∧ Drawn0 w w' := by
 have HR0 := Az.mk hr0
 have HC0 := Az.mk hc0
 clear hr0 hc0
 have H : (spec_l18Places.l0 k l0 a1 (-1) 0) = some (r1, r2) := h
 clear h
 have H' := Az.mk H
 clear H
 go_enter Try.func63, Try.ntmps63
 go_wp2
 go_loopg [6, 7] k (fun kq v6 v7 w' => ∃ (x6_1 : Int) (x7_1 : Int), v6 = .int .i64 x6_1 ∧ v7 = .int .i64 x7_1 ∧ Az (spec_l18Places.l0 kq l0 a1 x6_1 x7_1 = some (r1, r2)) ∧ Az (kq ≤ k) ∧ Drawn0 w w')
 case atStart => exact ⟨((-1)), (0), rq2, rq2, H', ⟨Nat.le_refl _⟩, kd⟩
 clear H'
 obtain ⟨x6_1, x7_1, rfl, rfl, HA, HK1, ⟨m1, rfl⟩⟩ := hrel
 cases gk with
 | zero => exact absurd HA.out (by simp [spec_l18Places.l0])
 | succ k1 =>
  have H := HA.out
  clear HA
  simp only [spec_l18Places.l0] at H
  by_cases c3 : x7_1 < (l0.length : Int)
  rotate_left
  ·rw [if_neg c3] at H
   have c3b0 : decide (x7_1 < (l0.length : Int)) = false := decide_eq_false c3
   clear c3
   simp only [Option.some.injEq, Prod.mk.injEq] at H
   obtain ⟨rfl, rfl⟩ := H
   go_wp2
   go_ret2
   exact ⟨rq2, kd⟩
  rw [if_pos c3] at H
  have c3b0 : decide (x7_1 < (l0.length : Int)) = true := decide_eq_true c3
  clear c3
  by_cases c4 : 0 ≤ x7_1
  rotate_left
  ·rw [if_neg c4] at H
   exact absurd H (by simp)
  rw [if_pos c4] at H
  have c4b0 : decide (0 ≤ x7_1) = true := decide_eq_true c4
  clear c4
  by_cases c5 : (rd l0 x7_1) = a1
  rotate_left
  ·rw [if_neg c5] at H
   have c5b0 : ((rd l0 x7_1) == a1) = false := beq_eq_false_iff_ne.mpr c5
   have c5b1 : ((rd l0 x7_1) != a1) = true := bne_iff_ne.mpr c5
   have H' := Az.mk H
   clear H
   have p333 : 0 ≤ (x7_1 : Int) := of_decide_eq_true am
   have q333 : x7_1 < (l0.length : Int) := of_decide_eq_true am
   obtain ⟨ad333, e333, hx333_0⟩ := Kd.at_int HR0.out x7_1 p333 q333
   cases e333
   replace p333 := eq_true p333
   replace q333 := eq_true q333
   go_wp2
   go_roundg k1
   case measure => have := HK1.out; omega
   case rel => exact ⟨(x6_1), (wrap64 (x7_1 + 1)), rq2, rq2, H', ⟨by have := HK1.out; omega⟩, kd⟩
  rw [if_pos c5] at H
  have c5b0 : ((rd l0 x7_1) == a1) = true := beq_iff_eq.mpr c5
  have c5b1 : ((rd l0 x7_1) != a1) = false := bne_eq_false_iff_eq.mpr c5
  clear c5
  by_cases c6 : x6_1 ≥ 0
  ·rw [if_pos c6] at H
   have c6b0 : decide (0 ≤ x6_1) = true := decide_eq_true c6
   clear c6
   simp only [Option.some.injEq, Prod.mk.injEq] at H
   obtain ⟨rfl, rfl⟩ := H
   have p333 : 0 ≤ (x7_1 : Int) := of_decide_eq_true am
   have q333 : x7_1 < (l0.length : Int) := of_decide_eq_true am
   obtain ⟨ad333, e333, hx333_0⟩ := Kd.at_int HR0.out x7_1 p333 q333
   cases e333
   replace p333 := eq_true p333
   replace q333 := eq_true q333
   go_wp2
   go_ret2
   exact ⟨rq2, kd⟩
  rw [if_neg c6] at H
  have c6b0 : decide (0 ≤ x6_1) = false := decide_eq_false c6
  clear c6
  have H' := Az.mk H
  clear H
  have p333 : 0 ≤ (x7_1 : Int) := of_decide_eq_true am
  have q333 : x7_1 < (l0.length : Int) := of_decide_eq_true am
  obtain ⟨ad333, e333, hx333_0⟩ := Kd.at_int HR0.out x7_1 p333 q333
  cases e333
  replace p333 := eq_true p333
  replace q333 := eq_true q333
  go_wp2
  go_roundg k1
  case measure => have := HK1.out; omega
  case rel => exact ⟨(x7_1), (wrap64 (x7_1 + 1)), rq2, rq2, H', ⟨by have := HK1.out; omega⟩, kd⟩

end Go.Proofs.Ytkmjcdlhlhefdaa.P
