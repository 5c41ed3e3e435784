-- By this session's driver (wip/tools/mk.py) of the kit's print program, over several statements at once. Not trusted: Lean checks it.
import Derived.Test.YtcligopbieaceaaPx0
import Derived.Test.YtcligopbieaceaaPx12
namespace Go.Proofs.Ytcligopbieaceaa.P
open Go.RowKit Go.Proofs.YtcligopbieaceaaW.PrintWords Go.Proofs.YtcligopbieaceaaW.PrintLast Go.Proofs.YtcligopbieaceaaW.PrintMore
attribute [local go_sem] max2_int min2_int max_two min_two max_three min_three max_four min_four   -- for this text's walks alone
set_option linter.unusedVariables false
set_option linter.unusedSimpArgs false

/-! ### spec_l15Twice: function 55 -/
def spec_l15Twice.f (l0 : List (List Int)) (l1 : List Int) (a2 : Int) (a3 : Int) : Option (Int) := if 0 ≤ a2 then (if a2 < (l0.length : Int) then (if 0 ≤ a3 then (if a3 < ((rd_L1 l0 a2).length : Int) then ((spec_l3Abs.f (rd (rd_L1 l0 a2) a3)).bind fun t285 => (if 0 ≤ (wrap64 (t285 - 1)) then (if (wrap64 (t285 - 1)) < (l1.length : Int) then (if 0 ≤ (Int.tmod (wrap64 (a3 + 1)) 3) then (if (Int.tmod (wrap64 (a3 + 1)) 3) < ((rd_L1 l0 a2).length : Int) then ((spec_l3Abs.f (rd (rd_L1 l0 a2) (Int.tmod (wrap64 (a3 + 1)) 3))).bind fun t289 => (if 0 ≤ (wrap64 (t289 - 1)) then (if (wrap64 (t289 - 1)) < (l1.length : Int) then (if 0 ≤ (Int.tmod (wrap64 (a3 + 2)) 3) then (if (Int.tmod (wrap64 (a3 + 2)) 3) < ((rd_L1 l0 a2).length : Int) then ((spec_l3Abs.f (rd (rd_L1 l0 a2) (Int.tmod (wrap64 (a3 + 2)) 3))).bind fun t293 => (if 0 ≤ (wrap64 (t293 - 1)) then (if (wrap64 (t293 - 1)) < (l1.length : Int) then (some (wrap64 ((wrap64 ((rd l1 (wrap64 (t285 - 1))) + (rd l1 (wrap64 (t289 - 1))))) - (rd l1 (wrap64 (t293 - 1)))))) else (none)) else (none))) else (none)) else (none)) else (none)) else (none))) else (none)) else (none)) else (none)) else (none))) else (none)) else (none)) else (none)) else (none)
set_option maxHeartbeats 8000000 in
set_option maxRecDepth 100000 in
theorem spec_l15Twice.calls (A0 : Option Addr) (c0 : Nat) (l0 : List (List Int)) (A1 : Option Addr) (c1 : Nat) (l1 : List Int) (a2 : Int) (a3 : Int) (r : Int) (w : World) (hr0 : Kd.C (Kd.slice 3 (Kd.int .i64)) w A0 l0.length l0) (hc0 : l0.length ≤ c0) (hr1 : Kd.C (Kd.int .i64) w A1 l1.length l1) (hc1 : l1.length ≤ c1) (h : spec_l15Twice.f l0 l1 a2 a3 = some r) :
    Calls Try.prog 55 #[.slice A0 l0.length c0, .slice A1 l1.length c1, .int .i64 a2, .int .i64 a3] w fun e w' => e = .returned (.int .i64 r) ∧ Drawn0 w w' := by
  have HR0 := Aside0.mk hr0
  have HC0 := Aside0.mk hc0
  clear hr0 hc0
  have HR1 := Aside0.mk hr1
  have HC1 := Aside0.mk hc1
  clear hr1 hc1
  have H : (if 0 ≤ a2 then (if a2 < (l0.length : Int) then (if 0 ≤ a3 then (if a3 < ((rd_L1 l0 a2).length : Int) then ((spec_l3Abs.f (rd (rd_L1 l0 a2) a3)).bind fun t285 => (if 0 ≤ (wrap64 (t285 - 1)) then (if (wrap64 (t285 - 1)) < (l1.length : Int) then (if 0 ≤ (Int.tmod (wrap64 (a3 + 1)) 3) then (if (Int.tmod (wrap64 (a3 + 1)) 3) < ((rd_L1 l0 a2).length : Int) then ((spec_l3Abs.f (rd (rd_L1 l0 a2) (Int.tmod (wrap64 (a3 + 1)) 3))).bind fun t289 => (if 0 ≤ (wrap64 (t289 - 1)) then (if (wrap64 (t289 - 1)) < (l1.length : Int) then (if 0 ≤ (Int.tmod (wrap64 (a3 + 2)) 3) then (if (Int.tmod (wrap64 (a3 + 2)) 3) < ((rd_L1 l0 a2).length : Int) then ((spec_l3Abs.f (rd (rd_L1 l0 a2) (Int.tmod (wrap64 (a3 + 2)) 3))).bind fun t293 => (if 0 ≤ (wrap64 (t293 - 1)) then (if (wrap64 (t293 - 1)) < (l1.length : Int) then (some (wrap64 ((wrap64 ((rd l1 (wrap64 (t285 - 1))) + (rd l1 (wrap64 (t289 - 1))))) - (rd l1 (wrap64 (t293 - 1)))))) else (none)) else (none))) else (none)) else (none)) else (none)) else (none))) else (none)) else (none)) else (none)) else (none))) else (none)) else (none)) else (none)) else (none)) = some r := h
  clear h
  by_cases c5 : 0 ≤ a2
  · rw [if_pos c5] at H
    have c5b0 : decide (0 ≤ a2) = true := decide_eq_true c5
    clear c5
    by_cases c6 : a2 < (l0.length : Int)
    · rw [if_pos c6] at H
      have c6b0 : decide (a2 < (l0.length : Int)) = true := decide_eq_true c6
      clear c6
      by_cases c7 : 0 ≤ a3
      · rw [if_pos c7] at H
        have c7b0 : decide (0 ≤ a3) = true := decide_eq_true c7
        clear c7
        by_cases c8 : a3 < ((rd_L1 l0 a2).length : Int)
        · rw [if_pos c8] at H
          have c8b0 : decide (a3 < ((rd_L1 l0 a2).length : Int)) = true := decide_eq_true c8
          clear c8
          replace H := Option.bind_eq_some_iff.mp H
          obtain ⟨t285, A90, H⟩ := H
          replace H : (if 0 ≤ (wrap64 (t285 - 1)) then (if (wrap64 (t285 - 1)) < (l1.length : Int) then (if 0 ≤ (Int.tmod (wrap64 (a3 + 1)) 3) then (if (Int.tmod (wrap64 (a3 + 1)) 3) < ((rd_L1 l0 a2).length : Int) then ((spec_l3Abs.f (rd (rd_L1 l0 a2) (Int.tmod (wrap64 (a3 + 1)) 3))).bind fun t289 => (if 0 ≤ (wrap64 (t289 - 1)) then (if (wrap64 (t289 - 1)) < (l1.length : Int) then (if 0 ≤ (Int.tmod (wrap64 (a3 + 2)) 3) then (if (Int.tmod (wrap64 (a3 + 2)) 3) < ((rd_L1 l0 a2).length : Int) then ((spec_l3Abs.f (rd (rd_L1 l0 a2) (Int.tmod (wrap64 (a3 + 2)) 3))).bind fun t293 => (if 0 ≤ (wrap64 (t293 - 1)) then (if (wrap64 (t293 - 1)) < (l1.length : Int) then (some (wrap64 ((wrap64 ((rd l1 (wrap64 (t285 - 1))) + (rd l1 (wrap64 (t289 - 1))))) - (rd l1 (wrap64 (t293 - 1)))))) else (none)) else (none))) else (none)) else (none)) else (none)) else (none))) else (none)) else (none)) else (none)) else (none)) = some r := H
          have A9 := Aside0.mk A90
          clear A90
          obtain ⟨ji10, hji10⟩ : ∃ j_ : Int, (wrap64 (t285 - 1)) = j_ := ⟨_, rfl⟩
          replace H : (if 0 ≤ (ji10) then (if (ji10) < (l1.length : Int) then (if 0 ≤ (Int.tmod (wrap64 (a3 + 1)) 3) then (if (Int.tmod (wrap64 (a3 + 1)) 3) < ((rd_L1 l0 a2).length : Int) then ((spec_l3Abs.f (rd (rd_L1 l0 a2) (Int.tmod (wrap64 (a3 + 1)) 3))).bind fun t289 => (if 0 ≤ (wrap64 (t289 - 1)) then (if (wrap64 (t289 - 1)) < (l1.length : Int) then (if 0 ≤ (Int.tmod (wrap64 (a3 + 2)) 3) then (if (Int.tmod (wrap64 (a3 + 2)) 3) < ((rd_L1 l0 a2).length : Int) then ((spec_l3Abs.f (rd (rd_L1 l0 a2) (Int.tmod (wrap64 (a3 + 2)) 3))).bind fun t293 => (if 0 ≤ (wrap64 (t293 - 1)) then (if (wrap64 (t293 - 1)) < (l1.length : Int) then (some (wrap64 ((wrap64 ((rd l1 (ji10)) + (rd l1 (wrap64 (t289 - 1))))) - (rd l1 (wrap64 (t293 - 1)))))) else (none)) else (none))) else (none)) else (none)) else (none)) else (none))) else (none)) else (none)) else (none)) else (none)) = some r := by first | (rw [hji10] at H; exact H) | (simp only [hji10] at H ⊢; exact H)
          (try rw [hji10] at A9)
          have hji10w : (IntKind.i64.wrap (t285 - 1)) = ji10 := (i64_w _).trans hji10
          by_cases c11 : 0 ≤ (ji10)
          · rw [if_pos c11] at H
            have c11b0 : decide (0 ≤ (ji10)) = true := decide_eq_true c11
            clear c11
            by_cases c12 : (ji10) < (l1.length : Int)
            · rw [if_pos c12] at H
              have c12b0 : decide ((ji10) < (l1.length : Int)) = true := decide_eq_true c12
              clear c12
              obtain ⟨ji13, hji13⟩ : ∃ j_ : Int, (Int.tmod (wrap64 (a3 + 1)) 3) = j_ := ⟨_, rfl⟩
              replace H : (if 0 ≤ (ji13) then (if (ji13) < ((rd_L1 l0 a2).length : Int) then ((spec_l3Abs.f (rd (rd_L1 l0 a2) (ji13))).bind fun t289 => (if 0 ≤ (wrap64 (t289 - 1)) then (if (wrap64 (t289 - 1)) < (l1.length : Int) then (if 0 ≤ (Int.tmod (wrap64 (a3 + 2)) 3) then (if (Int.tmod (wrap64 (a3 + 2)) 3) < ((rd_L1 l0 a2).length : Int) then ((spec_l3Abs.f (rd (rd_L1 l0 a2) (Int.tmod (wrap64 (a3 + 2)) 3))).bind fun t293 => (if 0 ≤ (wrap64 (t293 - 1)) then (if (wrap64 (t293 - 1)) < (l1.length : Int) then (some (wrap64 ((wrap64 ((rd l1 (ji10)) + (rd l1 (wrap64 (t289 - 1))))) - (rd l1 (wrap64 (t293 - 1)))))) else (none)) else (none))) else (none)) else (none)) else (none)) else (none))) else (none)) else (none)) = some r := by first | (rw [hji13] at H; exact H) | (simp only [hji13] at H ⊢; exact H)
              (try rw [hji13] at A9)
              by_cases c14 : 0 ≤ (ji13)
              · rw [if_pos c14] at H
                have c14b0 : decide (0 ≤ (ji13)) = true := decide_eq_true c14
                clear c14
                by_cases c15 : (ji13) < ((rd_L1 l0 a2).length : Int)
                · rw [if_pos c15] at H
                  have c15b0 : decide ((ji13) < ((rd_L1 l0 a2).length : Int)) = true := decide_eq_true c15
                  clear c15
                  replace H := Option.bind_eq_some_iff.mp H
                  obtain ⟨t289, A160, H⟩ := H
                  replace H : (if 0 ≤ (wrap64 (t289 - 1)) then (if (wrap64 (t289 - 1)) < (l1.length : Int) then (if 0 ≤ (Int.tmod (wrap64 (a3 + 2)) 3) then (if (Int.tmod (wrap64 (a3 + 2)) 3) < ((rd_L1 l0 a2).length : Int) then ((spec_l3Abs.f (rd (rd_L1 l0 a2) (Int.tmod (wrap64 (a3 + 2)) 3))).bind fun t293 => (if 0 ≤ (wrap64 (t293 - 1)) then (if (wrap64 (t293 - 1)) < (l1.length : Int) then (some (wrap64 ((wrap64 ((rd l1 (ji10)) + (rd l1 (wrap64 (t289 - 1))))) - (rd l1 (wrap64 (t293 - 1)))))) else (none)) else (none))) else (none)) else (none)) else (none)) else (none)) = some r := H
                  have A16 := Aside0.mk A160
                  clear A160
                  obtain ⟨ji17, hji17⟩ : ∃ j_ : Int, (wrap64 (t289 - 1)) = j_ := ⟨_, rfl⟩
                  replace H : (if 0 ≤ (ji17) then (if (ji17) < (l1.length : Int) then (if 0 ≤ (Int.tmod (wrap64 (a3 + 2)) 3) then (if (Int.tmod (wrap64 (a3 + 2)) 3) < ((rd_L1 l0 a2).length : Int) then ((spec_l3Abs.f (rd (rd_L1 l0 a2) (Int.tmod (wrap64 (a3 + 2)) 3))).bind fun t293 => (if 0 ≤ (wrap64 (t293 - 1)) then (if (wrap64 (t293 - 1)) < (l1.length : Int) then (some (wrap64 ((wrap64 ((rd l1 (ji10)) + (rd l1 (ji17)))) - (rd l1 (wrap64 (t293 - 1)))))) else (none)) else (none))) else (none)) else (none)) else (none)) else (none)) = some r := by first | (rw [hji17] at H; exact H) | (simp only [hji17] at H ⊢; exact H)
                  (try rw [hji17] at A9)
                  (try rw [hji17] at A16)
                  have hji17w : (IntKind.i64.wrap (t289 - 1)) = ji17 := (i64_w _).trans hji17
                  by_cases c18 : 0 ≤ (ji17)
                  · rw [if_pos c18] at H
                    have c18b0 : decide (0 ≤ (ji17)) = true := decide_eq_true c18
                    clear c18
                    by_cases c19 : (ji17) < (l1.length : Int)
                    · rw [if_pos c19] at H
                      have c19b0 : decide ((ji17) < (l1.length : Int)) = true := decide_eq_true c19
                      clear c19
                      obtain ⟨ji20, hji20⟩ : ∃ j_ : Int, (Int.tmod (wrap64 (a3 + 2)) 3) = j_ := ⟨_, rfl⟩
                      replace H : (if 0 ≤ (ji20) then (if (ji20) < ((rd_L1 l0 a2).length : Int) then ((spec_l3Abs.f (rd (rd_L1 l0 a2) (ji20))).bind fun t293 => (if 0 ≤ (wrap64 (t293 - 1)) then (if (wrap64 (t293 - 1)) < (l1.length : Int) then (some (wrap64 ((wrap64 ((rd l1 (ji10)) + (rd l1 (ji17)))) - (rd l1 (wrap64 (t293 - 1)))))) else (none)) else (none))) else (none)) else (none)) = some r := by first | (rw [hji20] at H; exact H) | (simp only [hji20] at H ⊢; exact H)
                      (try rw [hji20] at A9)
                      (try rw [hji20] at A16)
                      by_cases c21 : 0 ≤ (ji20)
                      · rw [if_pos c21] at H
                        have c21b0 : decide (0 ≤ (ji20)) = true := decide_eq_true c21
                        clear c21
                        by_cases c22 : (ji20) < ((rd_L1 l0 a2).length : Int)
                        · rw [if_pos c22] at H
                          have c22b0 : decide ((ji20) < ((rd_L1 l0 a2).length : Int)) = true := decide_eq_true c22
                          clear c22
                          replace H := Option.bind_eq_some_iff.mp H
                          obtain ⟨t293, A230, H⟩ := H
                          replace H : (if 0 ≤ (wrap64 (t293 - 1)) then (if (wrap64 (t293 - 1)) < (l1.length : Int) then (some (wrap64 ((wrap64 ((rd l1 (ji10)) + (rd l1 (ji17)))) - (rd l1 (wrap64 (t293 - 1)))))) else (none)) else (none)) = some r := H
                          have A23 := Aside0.mk A230
                          clear A230
                          obtain ⟨ji24, hji24⟩ : ∃ j_ : Int, (wrap64 (t293 - 1)) = j_ := ⟨_, rfl⟩
                          replace H : (if 0 ≤ (ji24) then (if (ji24) < (l1.length : Int) then (some (wrap64 ((wrap64 ((rd l1 (ji10)) + (rd l1 (ji17)))) - (rd l1 (ji24))))) else (none)) else (none)) = some r := by first | (rw [hji24] at H; exact H) | (simp only [hji24] at H ⊢; exact H)
                          (try rw [hji24] at A9)
                          (try rw [hji24] at A16)
                          (try rw [hji24] at A23)
                          have hji24w : (IntKind.i64.wrap (t293 - 1)) = ji24 := (i64_w _).trans hji24
                          by_cases c25 : 0 ≤ (ji24)
                          · rw [if_pos c25] at H
                            have c25b0 : decide (0 ≤ (ji24)) = true := decide_eq_true c25
                            clear c25
                            by_cases c26 : (ji24) < (l1.length : Int)
                            · rw [if_pos c26] at H
                              have c26b0 : decide ((ji24) < (l1.length : Int)) = true := decide_eq_true c26
                              clear c26
                              obtain rfl := Option.some.inj H
                              have p283 : 0 ≤ (a2 : Int) := of_decide_eq_true (by first | (with_reducible assumption) | assumption)
                              have q283 : a2 < (l0.length : Int) := of_decide_eq_true (by first | (with_reducible assumption) | assumption)
                              obtain ⟨ad283, A283_0, c283_0, e283, hx283_0, hl283_0, hi283_0⟩ := at_L1 HR0.out a2 p283 q283
                              cases e283
                              have HR283_0 := Aside0.mk hi283_0
                              have HC283_0 := Aside0.mk hl283_0
                              clear hi283_0 hl283_0
                              replace p283 := eq_true p283
                              replace q283 := eq_true q283
                              have p284 : 0 ≤ (a3 : Int) := of_decide_eq_true (by first | (with_reducible assumption) | assumption)
                              have q284 : a3 < ((rd_L1 l0 a2).length : Int) := of_decide_eq_true (by first | (with_reducible assumption) | assumption)
                              obtain ⟨ad284, e284, hx284_0⟩ := Kd.at_int HR283_0.out a3 p284 q284
                              cases e284
                              replace p284 := eq_true p284
                              replace q284 := eq_true q284
                              go_enter Try.func55, Try.ntmps55
                              go_wp2_with (first | ((with_reducible refine gate_callee (f := 61) rfl ?_); refine goesL_ (some 20) rfl rfl Try.func61 (by kernel_rfl) rfl #[.int .i64 (rd (rd_L1 l0 a2) a3)] rfl (by (try simp only [List.map_toArray, List.map_cons, List.map_nil]); first | done | rfl | (simp only [List.length_drop, List.length_take]; rfl)) ?_; (with_reducible refine (spec_l3Abs.calls (rd (rd_L1 l0 a2) a3) t285 _ A9.out).mono ?_); rintro e w' ⟨rfl, ⟨nd, rfl⟩⟩; refine ⟨_, rfl, ?_⟩; have p286 : 0 ≤ ((ji10) : Int) := of_decide_eq_true (by first | (with_reducible assumption) | assumption); have q286 : (ji10) < (l1.length : Int) := of_decide_eq_true (by first | (with_reducible assumption) | assumption); obtain ⟨ad286, e286, hx286_0⟩ := Kd.at_int HR1.out (ji10) p286 q286; cases e286; replace p286 := eq_true p286; replace q286 := eq_true q286; have p287 : 0 ≤ (a2 : Int) := of_decide_eq_true (by first | (with_reducible assumption) | assumption); have q287 : a2 < (l0.length : Int) := of_decide_eq_true (by first | (with_reducible assumption) | assumption); obtain ⟨ad287, A287_0, c287_0, e287, hx287_0, hl287_0, hi287_0⟩ := at_L1 HR0.out a2 p287 q287; obtain rfl : ad283 = ad287 := (by injection e287); have HR287_0 := Aside0.mk hi287_0; have HC287_0 := Aside0.mk hl287_0; clear hi287_0 hl287_0; replace p287 := eq_true p287; replace q287 := eq_true q287; have ea_ := Option.some.inj (hx283_0.symm.trans hx287_0); injection ea_ with ea_ en_ ec_; subst ea_; subst ec_; clear en_; have p288 : 0 ≤ ((ji13) : Int) := of_decide_eq_true (by first | (with_reducible assumption) | assumption); have q288 : (ji13) < ((rd_L1 l0 a2).length : Int) := of_decide_eq_true (by first | (with_reducible assumption) | assumption); obtain ⟨ad288, e288, hx288_0⟩ := Kd.at_int HR287_0.out (ji13) p288 q288; cases e288; replace p288 := eq_true p288; replace q288 := eq_true q288) | ((with_reducible refine gate_callee (f := 61) rfl ?_); refine goesL_ (some 34) rfl rfl Try.func61 (by kernel_rfl) rfl #[.int .i64 (rd (rd_L1 l0 a2) (ji13))] rfl (by (try simp only [List.map_toArray, List.map_cons, List.map_nil]); first | done | (simp only [hji13]; rfl) | rfl | (simp only [List.length_drop, List.length_take]; rfl)) ?_; (with_reducible refine (spec_l3Abs.calls (rd (rd_L1 l0 a2) (ji13)) t289 _ A16.out).mono ?_); rintro e w' ⟨rfl, ⟨nd, rfl⟩⟩; refine ⟨_, rfl, ?_⟩; have p290 : 0 ≤ ((ji17) : Int) := of_decide_eq_true (by first | (with_reducible assumption) | assumption); have q290 : (ji17) < (l1.length : Int) := of_decide_eq_true (by first | (with_reducible assumption) | assumption); obtain ⟨ad290, e290, hx290_0⟩ := Kd.at_int HR1.out (ji17) p290 q290; obtain rfl : ad286 = ad290 := (by injection e290); replace p290 := eq_true p290; replace q290 := eq_true q290; have p291 : 0 ≤ (a2 : Int) := of_decide_eq_true (by first | (with_reducible assumption) | assumption); have q291 : a2 < (l0.length : Int) := of_decide_eq_true (by first | (with_reducible assumption) | assumption); obtain ⟨ad291, A291_0, c291_0, e291, hx291_0, hl291_0, hi291_0⟩ := at_L1 HR0.out a2 p291 q291; obtain rfl : ad283 = ad291 := (by injection e291); have HR291_0 := Aside0.mk hi291_0; have HC291_0 := Aside0.mk hl291_0; clear hi291_0 hl291_0; replace p291 := eq_true p291; replace q291 := eq_true q291; have ea_ := Option.some.inj (hx283_0.symm.trans hx291_0); injection ea_ with ea_ en_ ec_; subst ea_; subst ec_; clear en_; have p292 : 0 ≤ ((ji20) : Int) := of_decide_eq_true (by first | (with_reducible assumption) | assumption); have q292 : (ji20) < ((rd_L1 l0 a2).length : Int) := of_decide_eq_true (by first | (with_reducible assumption) | assumption); obtain ⟨ad292, e292, hx292_0⟩ := Kd.at_int HR291_0.out (ji20) p292 q292; cases e292; replace p292 := eq_true p292; replace q292 := eq_true q292) | ((with_reducible refine gate_callee (f := 61) rfl ?_); refine goesL_ (some 48) rfl rfl Try.func61 (by kernel_rfl) rfl #[.int .i64 (rd (rd_L1 l0 a2) (ji20))] rfl (by (try simp only [List.map_toArray, List.map_cons, List.map_nil]); first | done | (simp only [hji20]; rfl) | rfl | (simp only [List.length_drop, List.length_take]; rfl)) ?_; (with_reducible refine (spec_l3Abs.calls (rd (rd_L1 l0 a2) (ji20)) t293 _ A23.out).mono ?_); rintro e w' ⟨rfl, ⟨nd, rfl⟩⟩; refine ⟨_, rfl, ?_⟩; have p294 : 0 ≤ ((ji24) : Int) := of_decide_eq_true (by first | (with_reducible assumption) | assumption); have q294 : (ji24) < (l1.length : Int) := of_decide_eq_true (by first | (with_reducible assumption) | assumption); obtain ⟨ad294, e294, hx294_0⟩ := Kd.at_int HR1.out (ji24) p294 q294; obtain rfl : ad286 = ad294 := (by injection e294); replace p294 := eq_true p294; replace q294 := eq_true q294))
                              go_ret
                              exact ⟨by first | rfl | (simp; done) | (simp only [← hji10, ← hji13, ← hji17, ← hji20, ← hji24] <;> (first | rfl | simp)) | (simp [*]; done), by repeat (first | exact Drawn0.refl _ | apply Drawn0.step)⟩
                            · rw [if_neg c26] at H
                              exact absurd H (by simp)
                          · rw [if_neg c25] at H
                            exact absurd H (by simp)
                        · rw [if_neg c22] at H
                          exact absurd H (by simp)
                      · rw [if_neg c21] at H
                        exact absurd H (by simp)
                    · rw [if_neg c19] at H
                      exact absurd H (by simp)
                  · rw [if_neg c18] at H
                    exact absurd H (by simp)
                · rw [if_neg c15] at H
                  exact absurd H (by simp)
              · rw [if_neg c14] at H
                exact absurd H (by simp)
            · rw [if_neg c12] at H
              exact absurd H (by simp)
          · rw [if_neg c11] at H
            exact absurd H (by simp)
        · rw [if_neg c8] at H
          exact absurd H (by simp)
      · rw [if_neg c7] at H
        exact absurd H (by simp)
    · rw [if_neg c6] at H
      exact absurd H (by simp)
  · rw [if_neg c5] at H
    exact absurd H (by simp)

end Go.Proofs.Ytcligopbieaceaa.P
