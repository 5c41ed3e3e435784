-- By this session's driver (wip/tools/mk.py) of the kit's print program, over several statements at once. Not trusted: Lean checks it.
import Derived.Test.YtolmicnapemljaaQPx0
import Derived.Test.YtolmicnapemljaaQPx3
namespace Go.Proofs.Ytolmicnapemljaa.P
open Go.RowKit Go.Proofs.YtolmicnapemljaaW.PrintWords Go.Proofs.YtolmicnapemljaaW.PrintLast Go.Proofs.YtolmicnapemljaaW.PrintMore
attribute [local go_sem] max2_int min2_int max_two min_two max_three min_three max_four min_four   -- for this text's walks alone
set_option linter.unusedVariables false
set_option linter.unusedSimpArgs false

/-! ### spec_l15Twice: function 114 -/
def spec_l15Twice.f (l0 : List (List Int)) (l1 : List Int) (a2 : Int) (a3 : Int) : Option (Int) := if 0 ≤ a2 then (if a2 < (l0.length : Int) then (if 0 ≤ a3 then (if a3 < ((rd_L1 l0 a2).length : Int) then ((spec_l3Abs.f (rd (rd_L1 l0 a2) a3)).bind fun t233 => (if 0 ≤ (wrap64 (t233 - 1)) then (if (wrap64 (t233 - 1)) < (l1.length : Int) then (if 0 ≤ (Int.tmod (wrap64 (a3 + 1)) 3) then (if (Int.tmod (wrap64 (a3 + 1)) 3) < ((rd_L1 l0 a2).length : Int) then ((spec_l3Abs.f (rd (rd_L1 l0 a2) (Int.tmod (wrap64 (a3 + 1)) 3))).bind fun t237 => (if 0 ≤ (wrap64 (t237 - 1)) then (if (wrap64 (t237 - 1)) < (l1.length : Int) then (if 0 ≤ (Int.tmod (wrap64 (a3 + 2)) 3) then (if (Int.tmod (wrap64 (a3 + 2)) 3) < ((rd_L1 l0 a2).length : Int) then ((spec_l3Abs.f (rd (rd_L1 l0 a2) (Int.tmod (wrap64 (a3 + 2)) 3))).bind fun t241 => (if 0 ≤ (wrap64 (t241 - 1)) then (if (wrap64 (t241 - 1)) < (l1.length : Int) then (some (wrap64 ((wrap64 ((rd l1 (wrap64 (t233 - 1))) + (rd l1 (wrap64 (t237 - 1))))) - (rd l1 (wrap64 (t241 - 1)))))) else (none)) else (none))) else (none)) else (none)) else (none)) else (none))) else (none)) else (none)) else (none)) else (none))) else (none)) else (none)) else (none)) else (none)
set_option maxHeartbeats 8000000 in
set_option maxRecDepth 100000 in
theorem spec_l15Twice.calls (A0 : Option Addr) (c0 : Nat) (l0 : List (List Int)) (A1 : Option Addr) (c1 : Nat) (l1 : List Int) (a2 : Int) (a3 : Int) (r : Int) (w : World) (hr0 : Kd.C (Kd.slice 3 (Kd.int .i64)) w A0 l0.length l0) (hc0 : l0.length ≤ c0) (hr1 : Kd.C (Kd.int .i64) w A1 l1.length l1) (hc1 : l1.length ≤ c1) (h : spec_l15Twice.f l0 l1 a2 a3 = some r) :
  Calls Try.prog 114 #[.slice A0 l0.length c0, .slice A1 l1.length c1, .int .i64 a2, .int .i64 a3] w fun e w' => e = .returned (.int .i64 r) ∧ Drawn0 w w' := by
 have HR0 := Az.mk hr0
 have HC0 := Az.mk hc0
 clear hr0 hc0
 have HR1 := Az.mk hr1
 have HC1 := Az.mk hc1
 clear hr1 hc1
 have H : (if 0 ≤ a2 then (if a2 < (l0.length : Int) then (if 0 ≤ a3 then (if a3 < ((rd_L1 l0 a2).length : Int) then ((spec_l3Abs.f (rd (rd_L1 l0 a2) a3)).bind fun t233 => (if 0 ≤ (wrap64 (t233 - 1)) then (if (wrap64 (t233 - 1)) < (l1.length : Int) then (if 0 ≤ (Int.tmod (wrap64 (a3 + 1)) 3) then (if (Int.tmod (wrap64 (a3 + 1)) 3) < ((rd_L1 l0 a2).length : Int) then ((spec_l3Abs.f (rd (rd_L1 l0 a2) (Int.tmod (wrap64 (a3 + 1)) 3))).bind fun t237 => (if 0 ≤ (wrap64 (t237 - 1)) then (if (wrap64 (t237 - 1)) < (l1.length : Int) then (if 0 ≤ (Int.tmod (wrap64 (a3 + 2)) 3) then (if (Int.tmod (wrap64 (a3 + 2)) 3) < ((rd_L1 l0 a2).length : Int) then ((spec_l3Abs.f (rd (rd_L1 l0 a2) (Int.tmod (wrap64 (a3 + 2)) 3))).bind fun t241 => (if 0 ≤ (wrap64 (t241 - 1)) then (if (wrap64 (t241 - 1)) < (l1.length : Int) then (some (wrap64 ((wrap64 ((rd l1 (wrap64 (t233 - 1))) + (rd l1 (wrap64 (t237 - 1))))) - (rd l1 (wrap64 (t241 - 1)))))) else (none)) else (none))) else (none)) else (none)) else (none)) else (none))) else (none)) else (none)) else (none)) else (none))) else (none)) else (none)) else (none)) else (none)) = some r := h
 clear h
 by_cases c5 : 0 ≤ a2
 ·rw [if_pos c5] at H
  have c5b0 : decide (0 ≤ a2) = true := decide_eq_true c5
  clear c5
  by_cases c6 : a2 < (l0.length : Int)
  ·rw [if_pos c6] at H
   have c6b0 : decide (a2 < (l0.length : Int)) = true := decide_eq_true c6
   clear c6
   by_cases c7 : 0 ≤ a3
   ·rw [if_pos c7] at H
    have c7b0 : decide (0 ≤ a3) = true := decide_eq_true c7
    clear c7
    by_cases c8 : a3 < ((rd_L1 l0 a2).length : Int)
    ·rw [if_pos c8] at H
     have c8b0 : decide (a3 < ((rd_L1 l0 a2).length : Int)) = true := decide_eq_true c8
     clear c8
     replace H := Option.bind_eq_some_iff.mp H
     obtain ⟨t233, A90, H⟩ := H
     replace H : (if 0 ≤ (wrap64 (t233 - 1)) then (if (wrap64 (t233 - 1)) < (l1.length : Int) then (if 0 ≤ (Int.tmod (wrap64 (a3 + 1)) 3) then (if (Int.tmod (wrap64 (a3 + 1)) 3) < ((rd_L1 l0 a2).length : Int) then ((spec_l3Abs.f (rd (rd_L1 l0 a2) (Int.tmod (wrap64 (a3 + 1)) 3))).bind fun t237 => (if 0 ≤ (wrap64 (t237 - 1)) then (if (wrap64 (t237 - 1)) < (l1.length : Int) then (if 0 ≤ (Int.tmod (wrap64 (a3 + 2)) 3) then (if (Int.tmod (wrap64 (a3 + 2)) 3) < ((rd_L1 l0 a2).length : Int) then ((spec_l3Abs.f (rd (rd_L1 l0 a2) (Int.tmod (wrap64 (a3 + 2)) 3))).bind fun t241 => (if 0 ≤ (wrap64 (t241 - 1)) then (if (wrap64 (t241 - 1)) < (l1.length : Int) then (some (wrap64 ((wrap64 ((rd l1 (wrap64 (t233 - 1))) + (rd l1 (wrap64 (t237 - 1))))) - (rd l1 (wrap64 (t241 - 1)))))) else (none)) else (none))) else (none)) else (none)) else (none)) else (none))) else (none)) else (none)) else (none)) else (none)) = some r := H
     have A9 := Az.mk A90
     clear A90
     obtain ⟨ji10, hji10⟩ : ∃ j_ : Int, (wrap64 (t233 - 1)) = j_ := ⟨_, rfl⟩
     replace H : (if 0 ≤ (ji10) then (if (ji10) < (l1.length : Int) then (if 0 ≤ (Int.tmod (wrap64 (a3 + 1)) 3) then (if (Int.tmod (wrap64 (a3 + 1)) 3) < ((rd_L1 l0 a2).length : Int) then ((spec_l3Abs.f (rd (rd_L1 l0 a2) (Int.tmod (wrap64 (a3 + 1)) 3))).bind fun t237 => (if 0 ≤ (wrap64 (t237 - 1)) then (if (wrap64 (t237 - 1)) < (l1.length : Int) then (if 0 ≤ (Int.tmod (wrap64 (a3 + 2)) 3) then (if (Int.tmod (wrap64 (a3 + 2)) 3) < ((rd_L1 l0 a2).length : Int) then ((spec_l3Abs.f (rd (rd_L1 l0 a2) (Int.tmod (wrap64 (a3 + 2)) 3))).bind fun t241 => (if 0 ≤ (wrap64 (t241 - 1)) then (if (wrap64 (t241 - 1)) < (l1.length : Int) then (some (wrap64 ((wrap64 ((rd l1 (ji10)) + (rd l1 (wrap64 (t237 - 1))))) - (rd l1 (wrap64 (t241 - 1)))))) else (none)) else (none))) else (none)) else (none)) else (none)) else (none))) else (none)) else (none)) else (none)) else (none)) = some r := by first | (rw [hji10] at H; exact H) | (simp only [hji10] at H ⊢; exact H)
     (try rw [hji10] at A9)
     have hji10w : (IntKind.i64.wrap (t233 - 1)) = ji10 := (i64_w _).trans hji10
     by_cases c11 : 0 ≤ (ji10)
     ·rw [if_pos c11] at H
      have c11b0 : decide (0 ≤ (ji10)) = true := decide_eq_true c11
      clear c11
      by_cases c12 : (ji10) < (l1.length : Int)
      ·rw [if_pos c12] at H
       have c12b0 : decide ((ji10) < (l1.length : Int)) = true := decide_eq_true c12
       clear c12
       obtain ⟨ji13, hji13⟩ : ∃ j_ : Int, (Int.tmod (wrap64 (a3 + 1)) 3) = j_ := ⟨_, rfl⟩
       replace H : (if 0 ≤ (ji13) then (if (ji13) < ((rd_L1 l0 a2).length : Int) then ((spec_l3Abs.f (rd (rd_L1 l0 a2) (ji13))).bind fun t237 => (if 0 ≤ (wrap64 (t237 - 1)) then (if (wrap64 (t237 - 1)) < (l1.length : Int) then (if 0 ≤ (Int.tmod (wrap64 (a3 + 2)) 3) then (if (Int.tmod (wrap64 (a3 + 2)) 3) < ((rd_L1 l0 a2).length : Int) then ((spec_l3Abs.f (rd (rd_L1 l0 a2) (Int.tmod (wrap64 (a3 + 2)) 3))).bind fun t241 => (if 0 ≤ (wrap64 (t241 - 1)) then (if (wrap64 (t241 - 1)) < (l1.length : Int) then (some (wrap64 ((wrap64 ((rd l1 (ji10)) + (rd l1 (wrap64 (t237 - 1))))) - (rd l1 (wrap64 (t241 - 1)))))) else (none)) else (none))) else (none)) else (none)) else (none)) else (none))) else (none)) else (none)) = some r := by first | (rw [hji13] at H; exact H) | (simp only [hji13] at H ⊢; exact H)
       (try rw [hji13] at A9)
       by_cases c14 : 0 ≤ (ji13)
       ·rw [if_pos c14] at H
        have c14b0 : decide (0 ≤ (ji13)) = true := decide_eq_true c14
        clear c14
        by_cases c15 : (ji13) < ((rd_L1 l0 a2).length : Int)
        ·rw [if_pos c15] at H
         have c15b0 : decide ((ji13) < ((rd_L1 l0 a2).length : Int)) = true := decide_eq_true c15
         clear c15
         replace H := Option.bind_eq_some_iff.mp H
         obtain ⟨t237, A160, H⟩ := H
         replace H : (if 0 ≤ (wrap64 (t237 - 1)) then (if (wrap64 (t237 - 1)) < (l1.length : Int) then (if 0 ≤ (Int.tmod (wrap64 (a3 + 2)) 3) then (if (Int.tmod (wrap64 (a3 + 2)) 3) < ((rd_L1 l0 a2).length : Int) then ((spec_l3Abs.f (rd (rd_L1 l0 a2) (Int.tmod (wrap64 (a3 + 2)) 3))).bind fun t241 => (if 0 ≤ (wrap64 (t241 - 1)) then (if (wrap64 (t241 - 1)) < (l1.length : Int) then (some (wrap64 ((wrap64 ((rd l1 (ji10)) + (rd l1 (wrap64 (t237 - 1))))) - (rd l1 (wrap64 (t241 - 1)))))) else (none)) else (none))) else (none)) else (none)) else (none)) else (none)) = some r := H
         have A16 := Az.mk A160
         clear A160
         obtain ⟨ji17, hji17⟩ : ∃ j_ : Int, (wrap64 (t237 - 1)) = j_ := ⟨_, rfl⟩
         replace H : (if 0 ≤ (ji17) then (if (ji17) < (l1.length : Int) then (if 0 ≤ (Int.tmod (wrap64 (a3 + 2)) 3) then (if (Int.tmod (wrap64 (a3 + 2)) 3) < ((rd_L1 l0 a2).length : Int) then ((spec_l3Abs.f (rd (rd_L1 l0 a2) (Int.tmod (wrap64 (a3 + 2)) 3))).bind fun t241 => (if 0 ≤ (wrap64 (t241 - 1)) then (if (wrap64 (t241 - 1)) < (l1.length : Int) then (some (wrap64 ((wrap64 ((rd l1 (ji10)) + (rd l1 (ji17)))) - (rd l1 (wrap64 (t241 - 1)))))) else (none)) else (none))) else (none)) else (none)) else (none)) else (none)) = some r := by first | (rw [hji17] at H; exact H) | (simp only [hji17] at H ⊢; exact H)
         (try rw [hji17] at A9)
         (try rw [hji17] at A16)
         have hji17w : (IntKind.i64.wrap (t237 - 1)) = ji17 := (i64_w _).trans hji17
         by_cases c18 : 0 ≤ (ji17)
         ·rw [if_pos c18] at H
          have c18b0 : decide (0 ≤ (ji17)) = true := decide_eq_true c18
          clear c18
          by_cases c19 : (ji17) < (l1.length : Int)
          ·rw [if_pos c19] at H
           have c19b0 : decide ((ji17) < (l1.length : Int)) = true := decide_eq_true c19
           clear c19
           obtain ⟨ji20, hji20⟩ : ∃ j_ : Int, (Int.tmod (wrap64 (a3 + 2)) 3) = j_ := ⟨_, rfl⟩
           replace H : (if 0 ≤ (ji20) then (if (ji20) < ((rd_L1 l0 a2).length : Int) then ((spec_l3Abs.f (rd (rd_L1 l0 a2) (ji20))).bind fun t241 => (if 0 ≤ (wrap64 (t241 - 1)) then (if (wrap64 (t241 - 1)) < (l1.length : Int) then (some (wrap64 ((wrap64 ((rd l1 (ji10)) + (rd l1 (ji17)))) - (rd l1 (wrap64 (t241 - 1)))))) else (none)) else (none))) else (none)) else (none)) = some r := by first | (rw [hji20] at H; exact H) | (simp only [hji20] at H ⊢; exact H)
           (try rw [hji20] at A9)
           (try rw [hji20] at A16)
           by_cases c21 : 0 ≤ (ji20)
           ·rw [if_pos c21] at H
            have c21b0 : decide (0 ≤ (ji20)) = true := decide_eq_true c21
            clear c21
            by_cases c22 : (ji20) < ((rd_L1 l0 a2).length : Int)
            ·rw [if_pos c22] at H
             have c22b0 : decide ((ji20) < ((rd_L1 l0 a2).length : Int)) = true := decide_eq_true c22
             clear c22
             replace H := Option.bind_eq_some_iff.mp H
             obtain ⟨t241, A230, H⟩ := H
             replace H : (if 0 ≤ (wrap64 (t241 - 1)) then (if (wrap64 (t241 - 1)) < (l1.length : Int) then (some (wrap64 ((wrap64 ((rd l1 (ji10)) + (rd l1 (ji17)))) - (rd l1 (wrap64 (t241 - 1)))))) else (none)) else (none)) = some r := H
             have A23 := Az.mk A230
             clear A230
             obtain ⟨ji24, hji24⟩ : ∃ j_ : Int, (wrap64 (t241 - 1)) = j_ := ⟨_, rfl⟩
             replace H : (if 0 ≤ (ji24) then (if (ji24) < (l1.length : Int) then (some (wrap64 ((wrap64 ((rd l1 (ji10)) + (rd l1 (ji17)))) - (rd l1 (ji24))))) else (none)) else (none)) = some r := by first | (rw [hji24] at H; exact H) | (simp only [hji24] at H ⊢; exact H)
             (try rw [hji24] at A9)
             (try rw [hji24] at A16)
             (try rw [hji24] at A23)
             have hji24w : (IntKind.i64.wrap (t241 - 1)) = ji24 := (i64_w _).trans hji24
             by_cases c25 : 0 ≤ (ji24)
             ·rw [if_pos c25] at H
              have c25b0 : decide (0 ≤ (ji24)) = true := decide_eq_true c25
              clear c25
              by_cases c26 : (ji24) < (l1.length : Int)
              ·rw [if_pos c26] at H
               have c26b0 : decide ((ji24) < (l1.length : Int)) = true := decide_eq_true c26
               clear c26
               obtain rfl := Option.some.inj H
               have p231 : 0 ≤ (a2 : Int) := of_decide_eq_true (by first | (with_reducible assumption) | assumption)
               have q231 : a2 < (l0.length : Int) := of_decide_eq_true (by first | (with_reducible assumption) | assumption)
               obtain ⟨ad231, A231_0, c231_0, e231, hx231_0, hl231_0, hi231_0⟩ := at_L1 HR0.out a2 p231 q231
               cases e231
               have HR231_0 := Az.mk hi231_0
               have HC231_0 := Az.mk hl231_0
               clear hi231_0 hl231_0
               replace p231 := eq_true p231
               replace q231 := eq_true q231
               have p232 : 0 ≤ (a3 : Int) := of_decide_eq_true (by first | (with_reducible assumption) | assumption)
               have q232 : a3 < ((rd_L1 l0 a2).length : Int) := of_decide_eq_true (by first | (with_reducible assumption) | assumption)
               obtain ⟨ad232, e232, hx232_0⟩ := Kd.at_int HR231_0.out a3 p232 q232
               cases e232
               replace p232 := eq_true p232
               replace q232 := eq_true q232
               go_enter Try.func114, Try.ntmps114
               go_wp2_with (first | ((with_reducible refine gtC (f := 83) rfl ?_); refine goesL_ (some 20) rfl rfl Try.func83 (by kernel_rfl) rfl #[.int .i64 (rd (rd_L1 l0 a2) a3)] rfl (by (try simp only [List.map_toArray, List.map_cons, List.map_nil]); first | done | rfl | (simp only [List.length_drop, List.length_take]; rfl)) ?_; (with_reducible refine (spec_l3Abs.calls (rd (rd_L1 l0 a2) a3) t233 _ A9.out).mono ?_); rintro e w' ⟨rfl, ⟨nd, rfl⟩⟩; refine ⟨_, rfl, ?_⟩; have p234 : 0 ≤ ((ji10) : Int) := of_decide_eq_true (by first | (with_reducible assumption) | assumption); have q234 : (ji10) < (l1.length : Int) := of_decide_eq_true (by first | (with_reducible assumption) | assumption); obtain ⟨ad234, e234, hx234_0⟩ := Kd.at_int HR1.out (ji10) p234 q234; cases e234; replace p234 := eq_true p234; replace q234 := eq_true q234; have p235 : 0 ≤ (a2 : Int) := of_decide_eq_true (by first | (with_reducible assumption) | assumption); have q235 : a2 < (l0.length : Int) := of_decide_eq_true (by first | (with_reducible assumption) | assumption); obtain ⟨ad235, A235_0, c235_0, e235, hx235_0, hl235_0, hi235_0⟩ := at_L1 HR0.out a2 p235 q235; obtain rfl : ad231 = ad235 := (by injection e235); have HR235_0 := Az.mk hi235_0; have HC235_0 := Az.mk hl235_0; clear hi235_0 hl235_0; replace p235 := eq_true p235; replace q235 := eq_true q235; have ea_ := Option.some.inj (hx231_0.symm.trans hx235_0); injection ea_ with ea_ en_ ec_; subst ea_; subst ec_; clear en_; have p236 : 0 ≤ ((ji13) : Int) := of_decide_eq_true (by first | (with_reducible assumption) | assumption); have q236 : (ji13) < ((rd_L1 l0 a2).length : Int) := of_decide_eq_true (by first | (with_reducible assumption) | assumption); obtain ⟨ad236, e236, hx236_0⟩ := Kd.at_int HR235_0.out (ji13) p236 q236; cases e236; replace p236 := eq_true p236; replace q236 := eq_true q236) | ((with_reducible refine gtC (f := 83) rfl ?_); refine goesL_ (some 34) rfl rfl Try.func83 (by kernel_rfl) rfl #[.int .i64 (rd (rd_L1 l0 a2) (ji13))] rfl (by (try simp only [List.map_toArray, List.map_cons, List.map_nil]); first | done | (simp only [hji13]; rfl) | rfl | (simp only [List.length_drop, List.length_take]; rfl)) ?_; (with_reducible refine (spec_l3Abs.calls (rd (rd_L1 l0 a2) (ji13)) t237 _ A16.out).mono ?_); rintro e w' ⟨rfl, ⟨nd, rfl⟩⟩; refine ⟨_, rfl, ?_⟩; have p238 : 0 ≤ ((ji17) : Int) := of_decide_eq_true (by first | (with_reducible assumption) | assumption); have q238 : (ji17) < (l1.length : Int) := of_decide_eq_true (by first | (with_reducible assumption) | assumption); obtain ⟨ad238, e238, hx238_0⟩ := Kd.at_int HR1.out (ji17) p238 q238; obtain rfl : ad234 = ad238 := (by injection e238); replace p238 := eq_true p238; replace q238 := eq_true q238; have p239 : 0 ≤ (a2 : Int) := of_decide_eq_true (by first | (with_reducible assumption) | assumption); have q239 : a2 < (l0.length : Int) := of_decide_eq_true (by first | (with_reducible assumption) | assumption); obtain ⟨ad239, A239_0, c239_0, e239, hx239_0, hl239_0, hi239_0⟩ := at_L1 HR0.out a2 p239 q239; obtain rfl : ad231 = ad239 := (by injection e239); have HR239_0 := Az.mk hi239_0; have HC239_0 := Az.mk hl239_0; clear hi239_0 hl239_0; replace p239 := eq_true p239; replace q239 := eq_true q239; have ea_ := Option.some.inj (hx231_0.symm.trans hx239_0); injection ea_ with ea_ en_ ec_; subst ea_; subst ec_; clear en_; have p240 : 0 ≤ ((ji20) : Int) := of_decide_eq_true (by first | (with_reducible assumption) | assumption); have q240 : (ji20) < ((rd_L1 l0 a2).length : Int) := of_decide_eq_true (by first | (with_reducible assumption) | assumption); obtain ⟨ad240, e240, hx240_0⟩ := Kd.at_int HR239_0.out (ji20) p240 q240; cases e240; replace p240 := eq_true p240; replace q240 := eq_true q240) | ((with_reducible refine gtC (f := 83) rfl ?_); refine goesL_ (some 48) rfl rfl Try.func83 (by kernel_rfl) rfl #[.int .i64 (rd (rd_L1 l0 a2) (ji20))] rfl (by (try simp only [List.map_toArray, List.map_cons, List.map_nil]); first | done | (simp only [hji20]; rfl) | rfl | (simp only [List.length_drop, List.length_take]; rfl)) ?_; (with_reducible refine (spec_l3Abs.calls (rd (rd_L1 l0 a2) (ji20)) t241 _ A23.out).mono ?_); rintro e w' ⟨rfl, ⟨nd, rfl⟩⟩; refine ⟨_, rfl, ?_⟩; have p242 : 0 ≤ ((ji24) : Int) := of_decide_eq_true (by first | (with_reducible assumption) | assumption); have q242 : (ji24) < (l1.length : Int) := of_decide_eq_true (by first | (with_reducible assumption) | assumption); obtain ⟨ad242, e242, hx242_0⟩ := Kd.at_int HR1.out (ji24) p242 q242; obtain rfl : ad234 = ad242 := (by injection e242); replace p242 := eq_true p242; replace q242 := eq_true q242))
               go_ret
               exact ⟨by first | rfl | (simp; done) | (simp only [← hji10, ← hji13, ← hji17, ← hji20, ← hji24] <;> (first | rfl | simp)) | (simp [*]; done), by repeat (first | exact Drawn0.refl _ | apply Drawn0.step)⟩
              ·rw [if_neg c26] at H
               exact absurd H (by simp)
             ·rw [if_neg c25] at H
              exact absurd H (by simp)
            ·rw [if_neg c22] at H
             exact absurd H (by simp)
           ·rw [if_neg c21] at H
            exact absurd H (by simp)
          ·rw [if_neg c19] at H
           exact absurd H (by simp)
         ·rw [if_neg c18] at H
          exact absurd H (by simp)
        ·rw [if_neg c15] at H
         exact absurd H (by simp)
       ·rw [if_neg c14] at H
        exact absurd H (by simp)
      ·rw [if_neg c12] at H
       exact absurd H (by simp)
     ·rw [if_neg c11] at H
      exact absurd H (by simp)
    ·rw [if_neg c8] at H
     exact absurd H (by simp)
   ·rw [if_neg c7] at H
    exact absurd H (by simp)
  ·rw [if_neg c6] at H
   exact absurd H (by simp)
 ·rw [if_neg c5] at H
  exact absurd H (by simp)

end Go.Proofs.Ytolmicnapemljaa.P
