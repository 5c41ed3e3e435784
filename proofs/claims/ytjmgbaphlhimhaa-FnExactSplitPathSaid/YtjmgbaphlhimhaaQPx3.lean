-- By this session's driver (wip/tools/mk.py) of the kit's print program, over several statements at once. Not trusted: Lean checks it.
import Derived.Test.YtjmgbaphlhimhaaQPx0
namespace Go.Proofs.Ytjmgbaphlhimhaa.P
open Go.RowKit Go.Proofs.YtjmgbaphlhimhaaW.PrintWords Go.Proofs.YtjmgbaphlhimhaaW.PrintLast Go.Proofs.YtjmgbaphlhimhaaW.PrintMore
attribute [local go_sem] max2_int min2_int max_two min_two max_three min_three max_four min_four   -- for this text's walks alone
set_option linter.unusedVariables false
set_option linter.unusedSimpArgs false

/-! ### spec_l1Max: function 44 -/
def spec_l1Max.f (a0 : Int) (a1 : Int) : Option (Int) := if a0 > a1 then (some a0) else (some a1)
set_option maxHeartbeats 8000000 in
set_option maxRecDepth 100000 in
theorem spec_l1Max.calls (a0 : Int) (a1 : Int) (r : Int) (w : World) (h : spec_l1Max.f a0 a1 = some r) :
  Calls Try.prog 44 #[.int .i64 a0, .int .i64 a1] w fun e w' => e = .returned (.int .i64 r) ∧ Drawn0 w w' := by
 have H : (if a0 > a1 then (some a0) else (some a1)) = some r := h
 clear h
 by_cases c3 : a0 > a1
 ·rw [if_pos c3] at H
  have c3b0 : decide (a1 < a0) = true := decide_eq_true c3
  clear c3
  obtain rfl := Option.some.inj H
  go_enter Try.func44, Try.ntmps44
  go_wp2
  go_ret
  exact ⟨by first | rfl | (simp; done) | (simp [*]; done), by repeat (first | exact Drawn0.refl _ | apply Drawn0.step)⟩
 rw [if_neg c3] at H
 have c3b0 : decide (a1 < a0) = false := decide_eq_false c3
 clear c3
 obtain rfl := Option.some.inj H
 go_enter Try.func44, Try.ntmps44
 go_wp2
 go_ret
 exact ⟨by first | rfl | (simp; done) | (simp [*]; done), by repeat (first | exact Drawn0.refl _ | apply Drawn0.step)⟩

/-! ### spec_l3Abs: function 84 -/
def spec_l3Abs.f (a0 : Int) : Option (Int) := (spec_l1Max.f a0 (wrap64 (-a0))).bind fun t111 => (some t111)
set_option maxHeartbeats 8000000 in
set_option maxRecDepth 100000 in
theorem spec_l3Abs.calls (a0 : Int) (r : Int) (w : World) (h : spec_l3Abs.f a0 = some r) :
  Calls Try.prog 84 #[.int .i64 a0] w fun e w' => e = .returned (.int .i64 r) ∧ Drawn0 w w' := by
 have H : ((spec_l1Max.f a0 (wrap64 (-a0))).bind fun t111 => (some t111)) = some r := h
 clear h
 replace H := Option.bind_eq_some_iff.mp H
 obtain ⟨t111, A20, H⟩ := H
 replace H : (some t111) = some r := H
 have A2 := Az.mk A20
 clear A20
 obtain rfl := Option.some.inj H
 go_enter Try.func84, Try.ntmps84
 go_wp2_with (first | ((with_reducible refine gtC (f := 44) rfl ?_); refine goesL_ (some 6) rfl rfl Try.func44 (by kernel_rfl) rfl #[.int .i64 a0, .int .i64 (wrap64 (-a0))] rfl (by (try simp only [List.map_toArray, List.map_cons, List.map_nil]); first | done | rfl | (simp only [List.length_drop, List.length_take]; rfl)) ?_; (with_reducible refine (spec_l1Max.calls a0 (wrap64 (-a0)) t111 _ A2.out).mono ?_); rintro e w' ⟨rfl, ⟨nd, rfl⟩⟩; refine ⟨_, rfl, ?_⟩))
 go_ret
 exact ⟨by first | rfl | (simp; done) | (simp [*]; done), by repeat (first | exact Drawn0.refl _ | apply Drawn0.step)⟩

/-! ### spec_l15Twice: function 106 -/
def spec_l15Twice.f (l0 : List (List Int)) (l1 : List Int) (a2 : Int) (a3 : Int) : Option (Int) := if 0 ≤ a2 then (if a2 < (l0.length : Int) then (if 0 ≤ a3 then (if a3 < ((rd_L1 l0 a2).length : Int) then ((spec_l3Abs.f (rd (rd_L1 l0 a2) a3)).bind fun t114 => (if 0 ≤ (wrap64 (t114 - 1)) then (if (wrap64 (t114 - 1)) < (l1.length : Int) then (if 0 ≤ (Int.tmod (wrap64 (a3 + 1)) 3) then (if (Int.tmod (wrap64 (a3 + 1)) 3) < ((rd_L1 l0 a2).length : Int) then ((spec_l3Abs.f (rd (rd_L1 l0 a2) (Int.tmod (wrap64 (a3 + 1)) 3))).bind fun t118 => (if 0 ≤ (wrap64 (t118 - 1)) then (if (wrap64 (t118 - 1)) < (l1.length : Int) then (if 0 ≤ (Int.tmod (wrap64 (a3 + 2)) 3) then (if (Int.tmod (wrap64 (a3 + 2)) 3) < ((rd_L1 l0 a2).length : Int) then ((spec_l3Abs.f (rd (rd_L1 l0 a2) (Int.tmod (wrap64 (a3 + 2)) 3))).bind fun t122 => (if 0 ≤ (wrap64 (t122 - 1)) then (if (wrap64 (t122 - 1)) < (l1.length : Int) then (some (wrap64 ((wrap64 ((rd l1 (wrap64 (t114 - 1))) + (rd l1 (wrap64 (t118 - 1))))) - (rd l1 (wrap64 (t122 - 1)))))) else (none)) else (none))) else (none)) else (none)) else (none)) else (none))) else (none)) else (none)) else (none)) else (none))) else (none)) else (none)) else (none)) else (none)
set_option maxHeartbeats 8000000 in
set_option maxRecDepth 100000 in
theorem spec_l15Twice.calls (A0 : Option Addr) (c0 : Nat) (l0 : List (List Int)) (A1 : Option Addr) (c1 : Nat) (l1 : List Int) (a2 : Int) (a3 : Int) (r : Int) (w : World) (hr0 : Kd.C (Kd.slice 3 (Kd.int .i64)) w A0 l0.length l0) (hc0 : l0.length ≤ c0) (hr1 : Kd.C (Kd.int .i64) w A1 l1.length l1) (hc1 : l1.length ≤ c1) (h : spec_l15Twice.f l0 l1 a2 a3 = some r) :
  Calls Try.prog 106 #[.slice A0 l0.length c0, .slice A1 l1.length c1, .int .i64 a2, .int .i64 a3] w fun e w' => e = .returned (.int .i64 r) ∧ Drawn0 w w' := by
 have HR0 := Az.mk hr0
 have HC0 := Az.mk hc0
 clear hr0 hc0
 have HR1 := Az.mk hr1
 have HC1 := Az.mk hc1
 clear hr1 hc1
 have H : (if 0 ≤ a2 then (if a2 < (l0.length : Int) then (if 0 ≤ a3 then (if a3 < ((rd_L1 l0 a2).length : Int) then ((spec_l3Abs.f (rd (rd_L1 l0 a2) a3)).bind fun t114 => (if 0 ≤ (wrap64 (t114 - 1)) then (if (wrap64 (t114 - 1)) < (l1.length : Int) then (if 0 ≤ (Int.tmod (wrap64 (a3 + 1)) 3) then (if (Int.tmod (wrap64 (a3 + 1)) 3) < ((rd_L1 l0 a2).length : Int) then ((spec_l3Abs.f (rd (rd_L1 l0 a2) (Int.tmod (wrap64 (a3 + 1)) 3))).bind fun t118 => (if 0 ≤ (wrap64 (t118 - 1)) then (if (wrap64 (t118 - 1)) < (l1.length : Int) then (if 0 ≤ (Int.tmod (wrap64 (a3 + 2)) 3) then (if (Int.tmod (wrap64 (a3 + 2)) 3) < ((rd_L1 l0 a2).length : Int) then ((spec_l3Abs.f (rd (rd_L1 l0 a2) (Int.tmod (wrap64 (a3 + 2)) 3))).bind fun t122 => (if 0 ≤ (wrap64 (t122 - 1)) then (if (wrap64 (t122 - 1)) < (l1.length : Int) then (some (wrap64 ((wrap64 ((rd l1 (wrap64 (t114 - 1))) + (rd l1 (wrap64 (t118 - 1))))) - (rd l1 (wrap64 (t122 - 1)))))) else (none)) else (none))) else (none)) else (none)) else (none)) else (none))) else (none)) else (none)) else (none)) else (none))) else (none)) else (none)) else (none)) else (none)) = some r := h
 clear h
 by_cases c5 : 0 ≤ a2
 rotate_left
 ·rw [if_neg c5] at H
  exact absurd H (by simp)
 rw [if_pos c5] at H
 have c5b0 : decide (0 ≤ a2) = true := decide_eq_true c5
 clear c5
 by_cases c6 : a2 < (l0.length : Int)
 rotate_left
 ·rw [if_neg c6] at H
  exact absurd H (by simp)
 rw [if_pos c6] at H
 have c6b0 : decide (a2 < (l0.length : Int)) = true := decide_eq_true c6
 clear c6
 by_cases c7 : 0 ≤ a3
 rotate_left
 ·rw [if_neg c7] at H
  exact absurd H (by simp)
 rw [if_pos c7] at H
 have c7b0 : decide (0 ≤ a3) = true := decide_eq_true c7
 clear c7
 by_cases c8 : a3 < ((rd_L1 l0 a2).length : Int)
 rotate_left
 ·rw [if_neg c8] at H
  exact absurd H (by simp)
 rw [if_pos c8] at H
 have c8b0 : decide (a3 < ((rd_L1 l0 a2).length : Int)) = true := decide_eq_true c8
 clear c8
 replace H := Option.bind_eq_some_iff.mp H
 obtain ⟨t114, A90, H⟩ := H
 try dsimp only at H
 have A9 := Az.mk A90
 clear A90
 obtain ⟨ji10, hji10⟩ : ∃ j_ : Int, (wrap64 (t114 - 1)) = j_ := ⟨_, rfl⟩
 replace H : (if 0 ≤ (ji10) then (if (ji10) < (l1.length : Int) then (if 0 ≤ (Int.tmod (wrap64 (a3 + 1)) 3) then (if (Int.tmod (wrap64 (a3 + 1)) 3) < ((rd_L1 l0 a2).length : Int) then ((spec_l3Abs.f (rd (rd_L1 l0 a2) (Int.tmod (wrap64 (a3 + 1)) 3))).bind fun t118 => (if 0 ≤ (wrap64 (t118 - 1)) then (if (wrap64 (t118 - 1)) < (l1.length : Int) then (if 0 ≤ (Int.tmod (wrap64 (a3 + 2)) 3) then (if (Int.tmod (wrap64 (a3 + 2)) 3) < ((rd_L1 l0 a2).length : Int) then ((spec_l3Abs.f (rd (rd_L1 l0 a2) (Int.tmod (wrap64 (a3 + 2)) 3))).bind fun t122 => (if 0 ≤ (wrap64 (t122 - 1)) then (if (wrap64 (t122 - 1)) < (l1.length : Int) then (some (wrap64 ((wrap64 ((rd l1 (ji10)) + (rd l1 (wrap64 (t118 - 1))))) - (rd l1 (wrap64 (t122 - 1)))))) else (none)) else (none))) else (none)) else (none)) else (none)) else (none))) else (none)) else (none)) else (none)) else (none)) = some r := by first | (rw [hji10] at H; exact H) | (simp only [hji10] at H ⊢; exact H)
 (try rw [hji10] at A9)
 have hji10w : (IntKind.i64.wrap (t114 - 1)) = ji10 := (i64_w _).trans hji10
 by_cases c11 : 0 ≤ (ji10)
 rotate_left
 ·rw [if_neg c11] at H
  exact absurd H (by simp)
 rw [if_pos c11] at H
 have c11b0 : decide (0 ≤ (ji10)) = true := decide_eq_true c11
 clear c11
 by_cases c12 : (ji10) < (l1.length : Int)
 rotate_left
 ·rw [if_neg c12] at H
  exact absurd H (by simp)
 rw [if_pos c12] at H
 have c12b0 : decide ((ji10) < (l1.length : Int)) = true := decide_eq_true c12
 clear c12
 obtain ⟨ji13, hji13⟩ : ∃ j_ : Int, (Int.tmod (wrap64 (a3 + 1)) 3) = j_ := ⟨_, rfl⟩
 replace H : (if 0 ≤ (ji13) then (if (ji13) < ((rd_L1 l0 a2).length : Int) then ((spec_l3Abs.f (rd (rd_L1 l0 a2) (ji13))).bind fun t118 => (if 0 ≤ (wrap64 (t118 - 1)) then (if (wrap64 (t118 - 1)) < (l1.length : Int) then (if 0 ≤ (Int.tmod (wrap64 (a3 + 2)) 3) then (if (Int.tmod (wrap64 (a3 + 2)) 3) < ((rd_L1 l0 a2).length : Int) then ((spec_l3Abs.f (rd (rd_L1 l0 a2) (Int.tmod (wrap64 (a3 + 2)) 3))).bind fun t122 => (if 0 ≤ (wrap64 (t122 - 1)) then (if (wrap64 (t122 - 1)) < (l1.length : Int) then (some (wrap64 ((wrap64 ((rd l1 (ji10)) + (rd l1 (wrap64 (t118 - 1))))) - (rd l1 (wrap64 (t122 - 1)))))) else (none)) else (none))) else (none)) else (none)) else (none)) else (none))) else (none)) else (none)) = some r := by first | (rw [hji13] at H; exact H) | (simp only [hji13] at H ⊢; exact H)
 (try rw [hji13] at A9)
 by_cases c14 : 0 ≤ (ji13)
 rotate_left
 ·rw [if_neg c14] at H
  exact absurd H (by simp)
 rw [if_pos c14] at H
 have c14b0 : decide (0 ≤ (ji13)) = true := decide_eq_true c14
 clear c14
 by_cases c15 : (ji13) < ((rd_L1 l0 a2).length : Int)
 rotate_left
 ·rw [if_neg c15] at H
  exact absurd H (by simp)
 rw [if_pos c15] at H
 have c15b0 : decide ((ji13) < ((rd_L1 l0 a2).length : Int)) = true := decide_eq_true c15
 clear c15
 replace H := Option.bind_eq_some_iff.mp H
 obtain ⟨t118, A160, H⟩ := H
 try dsimp only at H
 have A16 := Az.mk A160
 clear A160
 obtain ⟨ji17, hji17⟩ : ∃ j_ : Int, (wrap64 (t118 - 1)) = j_ := ⟨_, rfl⟩
 replace H : (if 0 ≤ (ji17) then (if (ji17) < (l1.length : Int) then (if 0 ≤ (Int.tmod (wrap64 (a3 + 2)) 3) then (if (Int.tmod (wrap64 (a3 + 2)) 3) < ((rd_L1 l0 a2).length : Int) then ((spec_l3Abs.f (rd (rd_L1 l0 a2) (Int.tmod (wrap64 (a3 + 2)) 3))).bind fun t122 => (if 0 ≤ (wrap64 (t122 - 1)) then (if (wrap64 (t122 - 1)) < (l1.length : Int) then (some (wrap64 ((wrap64 ((rd l1 (ji10)) + (rd l1 (ji17)))) - (rd l1 (wrap64 (t122 - 1)))))) else (none)) else (none))) else (none)) else (none)) else (none)) else (none)) = some r := by first | (rw [hji17] at H; exact H) | (simp only [hji17] at H ⊢; exact H)
 (try rw [hji17] at A9)
 (try rw [hji17] at A16)
 have hji17w : (IntKind.i64.wrap (t118 - 1)) = ji17 := (i64_w _).trans hji17
 by_cases c18 : 0 ≤ (ji17)
 rotate_left
 ·rw [if_neg c18] at H
  exact absurd H (by simp)
 rw [if_pos c18] at H
 have c18b0 : decide (0 ≤ (ji17)) = true := decide_eq_true c18
 clear c18
 by_cases c19 : (ji17) < (l1.length : Int)
 rotate_left
 ·rw [if_neg c19] at H
  exact absurd H (by simp)
 rw [if_pos c19] at H
 have c19b0 : decide ((ji17) < (l1.length : Int)) = true := decide_eq_true c19
 clear c19
 obtain ⟨ji20, hji20⟩ : ∃ j_ : Int, (Int.tmod (wrap64 (a3 + 2)) 3) = j_ := ⟨_, rfl⟩
 replace H : (if 0 ≤ (ji20) then (if (ji20) < ((rd_L1 l0 a2).length : Int) then ((spec_l3Abs.f (rd (rd_L1 l0 a2) (ji20))).bind fun t122 => (if 0 ≤ (wrap64 (t122 - 1)) then (if (wrap64 (t122 - 1)) < (l1.length : Int) then (some (wrap64 ((wrap64 ((rd l1 (ji10)) + (rd l1 (ji17)))) - (rd l1 (wrap64 (t122 - 1)))))) else (none)) else (none))) else (none)) else (none)) = some r := by first | (rw [hji20] at H; exact H) | (simp only [hji20] at H ⊢; exact H)
 (try rw [hji20] at A9)
 (try rw [hji20] at A16)
 by_cases c21 : 0 ≤ (ji20)
 rotate_left
 ·rw [if_neg c21] at H
  exact absurd H (by simp)
 rw [if_pos c21] at H
 have c21b0 : decide (0 ≤ (ji20)) = true := decide_eq_true c21
 clear c21
 by_cases c22 : (ji20) < ((rd_L1 l0 a2).length : Int)
 rotate_left
 ·rw [if_neg c22] at H
  exact absurd H (by simp)
 rw [if_pos c22] at H
 have c22b0 : decide ((ji20) < ((rd_L1 l0 a2).length : Int)) = true := decide_eq_true c22
 clear c22
 replace H := Option.bind_eq_some_iff.mp H
 obtain ⟨t122, A230, H⟩ := H
 try dsimp only at H
 have A23 := Az.mk A230
 clear A230
 obtain ⟨ji24, hji24⟩ : ∃ j_ : Int, (wrap64 (t122 - 1)) = j_ := ⟨_, rfl⟩
 replace H : (if 0 ≤ (ji24) then (if (ji24) < (l1.length : Int) then (some (wrap64 ((wrap64 ((rd l1 (ji10)) + (rd l1 (ji17)))) - (rd l1 (ji24))))) else (none)) else (none)) = some r := by first | (rw [hji24] at H; exact H) | (simp only [hji24] at H ⊢; exact H)
 (try rw [hji24] at A9)
 (try rw [hji24] at A16)
 (try rw [hji24] at A23)
 have hji24w : (IntKind.i64.wrap (t122 - 1)) = ji24 := (i64_w _).trans hji24
 by_cases c25 : 0 ≤ (ji24)
 rotate_left
 ·rw [if_neg c25] at H
  exact absurd H (by simp)
 rw [if_pos c25] at H
 have c25b0 : decide (0 ≤ (ji24)) = true := decide_eq_true c25
 clear c25
 by_cases c26 : (ji24) < (l1.length : Int)
 rotate_left
 ·rw [if_neg c26] at H
  exact absurd H (by simp)
 rw [if_pos c26] at H
 have c26b0 : decide ((ji24) < (l1.length : Int)) = true := decide_eq_true c26
 clear c26
 obtain rfl := Option.some.inj H
 have p112 : 0 ≤ (a2 : Int) := of_decide_eq_true (by first | (with_reducible assumption) | assumption)
 have q112 : a2 < (l0.length : Int) := of_decide_eq_true (by first | (with_reducible assumption) | assumption)
 obtain ⟨ad112, A112_0, c112_0, e112, hx112_0, hl112_0, hi112_0⟩ := at_L1 HR0.out a2 p112 q112
 cases e112
 have HR112_0 := Az.mk hi112_0
 have HC112_0 := Az.mk hl112_0
 clear hi112_0 hl112_0
 replace p112 := eq_true p112
 replace q112 := eq_true q112
 have p113 : 0 ≤ (a3 : Int) := of_decide_eq_true (by first | (with_reducible assumption) | assumption)
 have q113 : a3 < ((rd_L1 l0 a2).length : Int) := of_decide_eq_true (by first | (with_reducible assumption) | assumption)
 obtain ⟨ad113, e113, hx113_0⟩ := Kd.at_int HR112_0.out a3 p113 q113
 cases e113
 replace p113 := eq_true p113
 replace q113 := eq_true q113
 go_enter Try.func106, Try.ntmps106
 go_wp2_with (first | ((with_reducible refine gtC (f := 84) rfl ?_); refine goesL_ (some 20) rfl rfl Try.func84 (by kernel_rfl) rfl #[.int .i64 (rd (rd_L1 l0 a2) a3)] rfl (by (try simp only [List.map_toArray, List.map_cons, List.map_nil]); first | done | rfl | (simp only [List.length_drop, List.length_take]; rfl)) ?_; (with_reducible refine (spec_l3Abs.calls (rd (rd_L1 l0 a2) a3) t114 _ A9.out).mono ?_); rintro e w' ⟨rfl, ⟨nd, rfl⟩⟩; refine ⟨_, rfl, ?_⟩; have p115 : 0 ≤ ((ji10) : Int) := of_decide_eq_true (by first | (with_reducible assumption) | assumption); have q115 : (ji10) < (l1.length : Int) := of_decide_eq_true (by first | (with_reducible assumption) | assumption); obtain ⟨ad115, e115, hx115_0⟩ := Kd.at_int HR1.out (ji10) p115 q115; cases e115; replace p115 := eq_true p115; replace q115 := eq_true q115; have p116 : 0 ≤ (a2 : Int) := of_decide_eq_true (by first | (with_reducible assumption) | assumption); have q116 : a2 < (l0.length : Int) := of_decide_eq_true (by first | (with_reducible assumption) | assumption); obtain ⟨ad116, A116_0, c116_0, e116, hx116_0, hl116_0, hi116_0⟩ := at_L1 HR0.out a2 p116 q116; obtain rfl : ad112 = ad116 := (by injection e116); have HR116_0 := Az.mk hi116_0; have HC116_0 := Az.mk hl116_0; clear hi116_0 hl116_0; replace p116 := eq_true p116; replace q116 := eq_true q116; have ea_ := Option.some.inj (hx112_0.symm.trans hx116_0); injection ea_ with ea_ en_ ec_; subst ea_; subst ec_; clear en_; have p117 : 0 ≤ ((ji13) : Int) := of_decide_eq_true (by first | (with_reducible assumption) | assumption); have q117 : (ji13) < ((rd_L1 l0 a2).length : Int) := of_decide_eq_true (by first | (with_reducible assumption) | assumption); obtain ⟨ad117, e117, hx117_0⟩ := Kd.at_int HR116_0.out (ji13) p117 q117; cases e117; replace p117 := eq_true p117; replace q117 := eq_true q117) | ((with_reducible refine gtC (f := 84) rfl ?_); refine goesL_ (some 34) rfl rfl Try.func84 (by kernel_rfl) rfl #[.int .i64 (rd (rd_L1 l0 a2) (ji13))] rfl (by (try simp only [List.map_toArray, List.map_cons, List.map_nil]); first | done | (simp only [hji13]; rfl) | rfl | (simp only [List.length_drop, List.length_take]; rfl)) ?_; (with_reducible refine (spec_l3Abs.calls (rd (rd_L1 l0 a2) (ji13)) t118 _ A16.out).mono ?_); rintro e w' ⟨rfl, ⟨nd, rfl⟩⟩; refine ⟨_, rfl, ?_⟩; have p119 : 0 ≤ ((ji17) : Int) := of_decide_eq_true (by first | (with_reducible assumption) | assumption); have q119 : (ji17) < (l1.length : Int) := of_decide_eq_true (by first | (with_reducible assumption) | assumption); obtain ⟨ad119, e119, hx119_0⟩ := Kd.at_int HR1.out (ji17) p119 q119; obtain rfl : ad115 = ad119 := (by injection e119); replace p119 := eq_true p119; replace q119 := eq_true q119; have p120 : 0 ≤ (a2 : Int) := of_decide_eq_true (by first | (with_reducible assumption) | assumption); have q120 : a2 < (l0.length : Int) := of_decide_eq_true (by first | (with_reducible assumption) | assumption); obtain ⟨ad120, A120_0, c120_0, e120, hx120_0, hl120_0, hi120_0⟩ := at_L1 HR0.out a2 p120 q120; obtain rfl : ad112 = ad120 := (by injection e120); have HR120_0 := Az.mk hi120_0; have HC120_0 := Az.mk hl120_0; clear hi120_0 hl120_0; replace p120 := eq_true p120; replace q120 := eq_true q120; have ea_ := Option.some.inj (hx112_0.symm.trans hx120_0); injection ea_ with ea_ en_ ec_; subst ea_; subst ec_; clear en_; have p121 : 0 ≤ ((ji20) : Int) := of_decide_eq_true (by first | (with_reducible assumption) | assumption); have q121 : (ji20) < ((rd_L1 l0 a2).length : Int) := of_decide_eq_true (by first | (with_reducible assumption) | assumption); obtain ⟨ad121, e121, hx121_0⟩ := Kd.at_int HR120_0.out (ji20) p121 q121; cases e121; replace p121 := eq_true p121; replace q121 := eq_true q121) | ((with_reducible refine gtC (f := 84) rfl ?_); refine goesL_ (some 48) rfl rfl Try.func84 (by kernel_rfl) rfl #[.int .i64 (rd (rd_L1 l0 a2) (ji20))] rfl (by (try simp only [List.map_toArray, List.map_cons, List.map_nil]); first | done | (simp only [hji20]; rfl) | rfl | (simp only [List.length_drop, List.length_take]; rfl)) ?_; (with_reducible refine (spec_l3Abs.calls (rd (rd_L1 l0 a2) (ji20)) t122 _ A23.out).mono ?_); rintro e w' ⟨rfl, ⟨nd, rfl⟩⟩; refine ⟨_, rfl, ?_⟩; have p123 : 0 ≤ ((ji24) : Int) := of_decide_eq_true (by first | (with_reducible assumption) | assumption); have q123 : (ji24) < (l1.length : Int) := of_decide_eq_true (by first | (with_reducible assumption) | assumption); obtain ⟨ad123, e123, hx123_0⟩ := Kd.at_int HR1.out (ji24) p123 q123; obtain rfl : ad115 = ad123 := (by injection e123); replace p123 := eq_true p123; replace q123 := eq_true q123))
 go_ret
 exact ⟨by first | rfl | (simp; done) | (simp only [← hji10, ← hji13, ← hji17, ← hji20, ← hji24] <;> (first | rfl | simp)) | (simp [*]; done), by repeat (first | exact Drawn0.refl _ | apply Drawn0.step)⟩

end Go.Proofs.Ytjmgbaphlhimhaa.P
