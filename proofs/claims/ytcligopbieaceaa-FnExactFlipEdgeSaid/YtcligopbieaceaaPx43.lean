-- By this session's driver (wip/tools/mk.py) of the kit's print program, over several statements at once. Not trusted: Lean checks it.
import Derived.Test.YtcligopbieaceaaPx0
import Derived.Test.YtcligopbieaceaaPx13
import Derived.Test.YtcligopbieaceaaPx15
import Derived.Test.YtcligopbieaceaaPx19
namespace Go.Proofs.Ytcligopbieaceaa.P
open Go.RowKit Go.Proofs.YtcligopbieaceaaW.PrintWords Go.Proofs.YtcligopbieaceaaW.PrintLast Go.Proofs.YtcligopbieaceaaW.PrintMore
attribute [local go_sem] max2_int min2_int max_two min_two max_three min_three max_four min_four   -- for this text's walks alone
set_option linter.unusedVariables false
set_option linter.unusedSimpArgs false

/-! ### impl_FlipEdge: function 47 -/
def impl_FlipEdge.f (k : Nat) (l0 : List (List Int)) (a1 : Int) : Option ((List (List Int)) × Bool) := (impl_CanFlip.f k l0 a1).bind fun t727 => (if t727 = true then ((impl_sideAt.f k l0 a1).bind fun bt728 => ((impl_sideAt.f k l0 (wrap64 (-a1))).bind fun bt730 => (if 0 ≤ bt728.1 then (if bt728.1 < (l0.length : Int) then ((impl_turn.f (rd_L1 l0 bt728.1) bt728.2).bind fun t733 => (if 0 ≤ bt730.1 then (if bt730.1 < (l0.length : Int) then ((impl_turn.f (rd_L1 l0 bt730.1) bt730.2).bind fun t737 => ((impl_copyRows.f k l0).bind fun t740 => (if 2 < (t733.length : Int) then (if 1 < (t737.length : Int) then (if bt728.1 < (t740.length : Int) then (if 2 < (t737.length : Int) then (if 1 < (t733.length : Int) then (if bt730.1 < (t740.length : Int) then (some (((t740.set (bt728.1 : Int).toNat (([a1, rd t733 2, rd t737 1] : List Int))).set (bt730.1 : Int).toNat (([wrap64 (-a1), rd t737 2, rd t733 1] : List Int))), true)) else (none)) else (none)) else (none)) else (none)) else (none)) else (none)))) else (none)) else (none))) else (none)) else (none)))) else (some (([] : List (List Int)), false)))
theorem impl_FlipEdge.mono : ∀ a0 a1 k, LeO (impl_FlipEdge.f k a0 a1) (impl_FlipEdge.f (k + 1) a0 a1) := by
  intro a0 a1 k
  unfold impl_FlipEdge.f
  repeat' first
      | (with_reducible exact impl_CanFlip.mono _ _ _)
      | (with_reducible exact impl_copyRows.mono _ _)
      | (with_reducible exact impl_sideAt.mono _ _ _)
      | (with_reducible exact LeO.refl _)
      | (with_reducible exact LeO.none _)
      | (with_reducible refine LeO.ite ?_ ?_)
      | (with_reducible refine LeO.bind ?_ (fun _ => ?_))
      | exact impl_CanFlip.mono _ _ _
      | exact impl_copyRows.mono _ _
      | exact impl_sideAt.mono _ _ _
      | exact LeO.none _
      | refine LeO.ite ?_ ?_
      | refine LeO.bind ?_ (fun _ => ?_)
def impl_FlipEdge.T5 : Bool × List (List Nat × List Nat) := (true, [([], []), ([], []), ([0, 1], [0, 1]), ([2], [2]), ([], []), ([3, 4], [3, 4]), ([], []), ([], []), ([6, 7], [6, 7]), ([8], [8]), ([], []), ([9, 10, 5], [9, 10]), ([5, 11, 0, 1, 2, 3, 4, 5], [5]), ([11, 12, 0, 1, 2, 3, 4, 5, 6, 7, 8, 9, 10, 11, 12], [11])])
def impl_FlipEdge.B5 : List Nat := [0, 0, 3, 7, 0, 31, 0, 0, 192, 448, 0, 2047, 4095, 8191]
theorem impl_FlipEdge.tab5 : rtab .any (opsOf Try.f47 5) = impl_FlipEdge.T5 := by kernel_rfl
theorem impl_FlipEdge.bits5 : waitsOk impl_FlipEdge.T5.2 impl_FlipEdge.B5 = true := by kernel_rfl
def impl_FlipEdge.T7 : Bool × List (List Nat × List Nat) := (true, [([], []), ([], []), ([], []), ([], []), ([3], [3]), ([4], [4]), ([], []), ([6], [6]), ([7], [7]), ([2, 5, 8], [2, 5, 8]), ([0, 1, 0, 1, 2, 3, 4, 5, 6, 7, 8, 9], [0, 1]), ([10, 9, 0, 1, 2, 3, 4, 5, 6, 7, 8, 9], [9, 10])])
def impl_FlipEdge.B7 : List Nat := [0, 0, 0, 0, 8, 24, 0, 64, 192, 508, 1023, 2047]
theorem impl_FlipEdge.tab7 : rtab .any (opsOf Try.f47 7) = impl_FlipEdge.T7 := by kernel_rfl
theorem impl_FlipEdge.bits7 : waitsOk impl_FlipEdge.T7.2 impl_FlipEdge.B7 = true := by kernel_rfl
def impl_FlipEdge.T8 : Bool × List (List Nat × List Nat) := (true, [([], []), ([], []), ([], []), ([2], [2]), ([], []), ([4], [4]), ([5], [5]), ([], []), ([7], [7]), ([8], [8]), ([3, 6, 9], [3, 6, 9]), ([0, 1, 0, 1, 2, 3, 4, 5, 6, 7, 8, 9, 10], [0, 1]), ([11, 10, 0, 1, 2, 3, 4, 5, 6, 7, 8, 9, 10], [10, 11])])
def impl_FlipEdge.B8 : List Nat := [0, 0, 0, 4, 0, 16, 48, 0, 128, 384, 1020, 2047, 4095]
theorem impl_FlipEdge.tab8 : rtab .any (opsOf Try.f47 8) = impl_FlipEdge.T8 := by kernel_rfl
theorem impl_FlipEdge.bits8 : waitsOk impl_FlipEdge.T8.2 impl_FlipEdge.B8 = true := by kernel_rfl
set_option maxHeartbeats 8000000 in
set_option maxRecDepth 100000 in
theorem impl_FlipEdge.calls (k : Nat) (A0 : Option Addr) (c0 : Nat) (l0 : List (List Int)) (a1 : Int) (r1 : List (List Int)) (r2 : Bool) (w : World) (hr0 : Kd.C (Kd.slice 3 (Kd.int .i64)) w A0 l0.length l0) (hc0 : l0.length ≤ c0) (h : impl_FlipEdge.f k l0 a1 = some (r1, r2)) :
    Calls Try.prog 47 #[.slice A0 l0.length c0, .int .i64 a1] w fun e w' => ∃ v0_ : Value, e = .returned (.tuple #[v0_, .bool r2]) ∧ Kd.S (Kd.slice 3 (Kd.int .i64)) 22 w' w.heap.size (fun _ => True) v0_ r1 ∧ Below w.heap.size w w' := by
  have HR0 := Aside0.mk hr0
  have HC0 := Aside0.mk hc0
  clear hr0 hc0
  have HB := Aside0.mk (Below.refl w.heap.size w)
  have H : ((impl_CanFlip.f k l0 a1).bind fun t727 => (if t727 = true then ((impl_sideAt.f k l0 a1).bind fun bt728 => ((impl_sideAt.f k l0 (wrap64 (-a1))).bind fun bt730 => (if 0 ≤ bt728.1 then (if bt728.1 < (l0.length : Int) then ((impl_turn.f (rd_L1 l0 bt728.1) bt728.2).bind fun t733 => (if 0 ≤ bt730.1 then (if bt730.1 < (l0.length : Int) then ((impl_turn.f (rd_L1 l0 bt730.1) bt730.2).bind fun t737 => ((impl_copyRows.f k l0).bind fun t740 => (if 2 < (t733.length : Int) then (if 1 < (t737.length : Int) then (if bt728.1 < (t740.length : Int) then (if 2 < (t737.length : Int) then (if 1 < (t733.length : Int) then (if bt730.1 < (t740.length : Int) then (some (((t740.set (bt728.1 : Int).toNat (([a1, rd t733 2, rd t737 1] : List Int))).set (bt730.1 : Int).toNat (([wrap64 (-a1), rd t737 2, rd t733 1] : List Int))), true)) else (none)) else (none)) else (none)) else (none)) else (none)) else (none)))) else (none)) else (none))) else (none)) else (none)))) else (some (([] : List (List Int)), false)))) = some (r1, r2) := h
  clear h
  replace H := Option.bind_eq_some_iff.mp H
  obtain ⟨t727, A30, H⟩ := H
  replace H : (if t727 = true then ((impl_sideAt.f k l0 a1).bind fun bt728 => ((impl_sideAt.f k l0 (wrap64 (-a1))).bind fun bt730 => (if 0 ≤ bt728.1 then (if bt728.1 < (l0.length : Int) then ((impl_turn.f (rd_L1 l0 bt728.1) bt728.2).bind fun t733 => (if 0 ≤ bt730.1 then (if bt730.1 < (l0.length : Int) then ((impl_turn.f (rd_L1 l0 bt730.1) bt730.2).bind fun t737 => ((impl_copyRows.f k l0).bind fun t740 => (if 2 < (t733.length : Int) then (if 1 < (t737.length : Int) then (if bt728.1 < (t740.length : Int) then (if 2 < (t737.length : Int) then (if 1 < (t733.length : Int) then (if bt730.1 < (t740.length : Int) then (some (((t740.set (bt728.1 : Int).toNat (([a1, rd t733 2, rd t737 1] : List Int))).set (bt730.1 : Int).toNat (([wrap64 (-a1), rd t737 2, rd t733 1] : List Int))), true)) else (none)) else (none)) else (none)) else (none)) else (none)) else (none)))) else (none)) else (none))) else (none)) else (none)))) else (some (([] : List (List Int)), false))) = some (r1, r2) := H
  have A3 := Aside0.mk A30
  clear A30
  by_cases c4 : t727 = true
  · subst c4
    have H1 : ((impl_sideAt.f k l0 a1).bind fun bt728 => ((impl_sideAt.f k l0 (wrap64 (-a1))).bind fun bt730 => (if 0 ≤ bt728.1 then (if bt728.1 < (l0.length : Int) then ((impl_turn.f (rd_L1 l0 bt728.1) bt728.2).bind fun t733 => (if 0 ≤ bt730.1 then (if bt730.1 < (l0.length : Int) then ((impl_turn.f (rd_L1 l0 bt730.1) bt730.2).bind fun t737 => ((impl_copyRows.f k l0).bind fun t740 => (if 2 < (t733.length : Int) then (if 1 < (t737.length : Int) then (if bt728.1 < (t740.length : Int) then (if 2 < (t737.length : Int) then (if 1 < (t733.length : Int) then (if bt730.1 < (t740.length : Int) then (some (((t740.set (bt728.1 : Int).toNat (([a1, rd t733 2, rd t737 1] : List Int))).set (bt730.1 : Int).toNat (([wrap64 (-a1), rd t737 2, rd t733 1] : List Int))), true)) else (none)) else (none)) else (none)) else (none)) else (none)) else (none)))) else (none)) else (none))) else (none)) else (none)))) = some (r1, r2) := by rw [if_pos rfl] at H; exact H
    clear H
    have H := H1
    clear H1
    replace H := Option.bind_eq_some_iff.mp H
    obtain ⟨⟨t728, t729⟩, A50, H⟩ := H
    replace H : ((impl_sideAt.f k l0 (wrap64 (-a1))).bind fun bt730 => (if 0 ≤ t728 then (if t728 < (l0.length : Int) then ((impl_turn.f (rd_L1 l0 t728) t729).bind fun t733 => (if 0 ≤ bt730.1 then (if bt730.1 < (l0.length : Int) then ((impl_turn.f (rd_L1 l0 bt730.1) bt730.2).bind fun t737 => ((impl_copyRows.f k l0).bind fun t740 => (if 2 < (t733.length : Int) then (if 1 < (t737.length : Int) then (if t728 < (t740.length : Int) then (if 2 < (t737.length : Int) then (if 1 < (t733.length : Int) then (if bt730.1 < (t740.length : Int) then (some (((t740.set (t728 : Int).toNat (([a1, rd t733 2, rd t737 1] : List Int))).set (bt730.1 : Int).toNat (([wrap64 (-a1), rd t737 2, rd t733 1] : List Int))), true)) else (none)) else (none)) else (none)) else (none)) else (none)) else (none)))) else (none)) else (none))) else (none)) else (none))) = some (r1, r2) := H
    have A5 := Aside0.mk A50
    clear A50
    replace H := Option.bind_eq_some_iff.mp H
    obtain ⟨⟨t730, t731⟩, A60, H⟩ := H
    replace H : (if 0 ≤ t728 then (if t728 < (l0.length : Int) then ((impl_turn.f (rd_L1 l0 t728) t729).bind fun t733 => (if 0 ≤ t730 then (if t730 < (l0.length : Int) then ((impl_turn.f (rd_L1 l0 t730) t731).bind fun t737 => ((impl_copyRows.f k l0).bind fun t740 => (if 2 < (t733.length : Int) then (if 1 < (t737.length : Int) then (if t728 < (t740.length : Int) then (if 2 < (t737.length : Int) then (if 1 < (t733.length : Int) then (if t730 < (t740.length : Int) then (some (((t740.set (t728 : Int).toNat (([a1, rd t733 2, rd t737 1] : List Int))).set (t730 : Int).toNat (([wrap64 (-a1), rd t737 2, rd t733 1] : List Int))), true)) else (none)) else (none)) else (none)) else (none)) else (none)) else (none)))) else (none)) else (none))) else (none)) else (none)) = some (r1, r2) := H
    have A6 := Aside0.mk A60
    clear A60
    by_cases c7 : 0 ≤ t728
    · rw [if_pos c7] at H
      have c7b0 : decide (0 ≤ t728) = true := decide_eq_true c7
      clear c7
      by_cases c8 : t728 < (l0.length : Int)
      · rw [if_pos c8] at H
        have c8b0 : decide (t728 < (l0.length : Int)) = true := decide_eq_true c8
        clear c8
        replace H := Option.bind_eq_some_iff.mp H
        obtain ⟨t733, A90, H⟩ := H
        replace H : (if 0 ≤ t730 then (if t730 < (l0.length : Int) then ((impl_turn.f (rd_L1 l0 t730) t731).bind fun t737 => ((impl_copyRows.f k l0).bind fun t740 => (if 2 < (t733.length : Int) then (if 1 < (t737.length : Int) then (if t728 < (t740.length : Int) then (if 2 < (t737.length : Int) then (if 1 < (t733.length : Int) then (if t730 < (t740.length : Int) then (some (((t740.set (t728 : Int).toNat (([a1, rd t733 2, rd t737 1] : List Int))).set (t730 : Int).toNat (([wrap64 (-a1), rd t737 2, rd t733 1] : List Int))), true)) else (none)) else (none)) else (none)) else (none)) else (none)) else (none)))) else (none)) else (none)) = some (r1, r2) := H
        have A9 := Aside0.mk A90
        clear A90
        by_cases c10 : 0 ≤ t730
        · rw [if_pos c10] at H
          have c10b0 : decide (0 ≤ t730) = true := decide_eq_true c10
          clear c10
          by_cases c11 : t730 < (l0.length : Int)
          · rw [if_pos c11] at H
            have c11b0 : decide (t730 < (l0.length : Int)) = true := decide_eq_true c11
            clear c11
            replace H := Option.bind_eq_some_iff.mp H
            obtain ⟨t737, A120, H⟩ := H
            replace H : ((impl_copyRows.f k l0).bind fun t740 => (if 2 < (t733.length : Int) then (if 1 < (t737.length : Int) then (if t728 < (t740.length : Int) then (if 2 < (t737.length : Int) then (if 1 < (t733.length : Int) then (if t730 < (t740.length : Int) then (some (((t740.set (t728 : Int).toNat (([a1, rd t733 2, rd t737 1] : List Int))).set (t730 : Int).toNat (([wrap64 (-a1), rd t737 2, rd t733 1] : List Int))), true)) else (none)) else (none)) else (none)) else (none)) else (none)) else (none))) = some (r1, r2) := H
            have A12 := Aside0.mk A120
            clear A120
            replace H := Option.bind_eq_some_iff.mp H
            obtain ⟨t740, A130, H⟩ := H
            replace H : (if 2 < (t733.length : Int) then (if 1 < (t737.length : Int) then (if t728 < (t740.length : Int) then (if 2 < (t737.length : Int) then (if 1 < (t733.length : Int) then (if t730 < (t740.length : Int) then (some (((t740.set (t728 : Int).toNat (([a1, rd t733 2, rd t737 1] : List Int))).set (t730 : Int).toNat (([wrap64 (-a1), rd t737 2, rd t733 1] : List Int))), true)) else (none)) else (none)) else (none)) else (none)) else (none)) else (none)) = some (r1, r2) := H
            have A13 := Aside0.mk A130
            clear A130
            by_cases c14 : 2 < (t733.length : Int)
            · rw [if_pos c14] at H
              have c14b0 : decide (2 < (t733.length : Int)) = true := decide_eq_true c14
              have c14b1 : decide (2 < t733.length) = true := decide_eq_true (by omega)
              clear c14
              by_cases c15 : 1 < (t737.length : Int)
              · rw [if_pos c15] at H
                have c15b0 : decide (1 < (t737.length : Int)) = true := decide_eq_true c15
                have c15b1 : decide (1 < t737.length) = true := decide_eq_true (by omega)
                clear c15
                obtain ⟨y745, hy745⟩ : ∃ y_ : List Int, y_ = (([a1, rd t733 2, rd t737 1] : List Int)) := ⟨_, rfl⟩
                replace H : (if t728 < (t740.length : Int) then (if 2 < (t737.length : Int) then (if 1 < (t733.length : Int) then (if t730 < (t740.length : Int) then (some (((t740.set (t728 : Int).toNat y745).set (t730 : Int).toNat (([wrap64 (-a1), rd t737 2, rd t733 1] : List Int))), true)) else (none)) else (none)) else (none)) else (none)) = some (r1, r2) := by first | (rw [hy745]; with_reducible exact H) | (have H2_ := (Option.bind_some _ _).symm.trans H; rw [hy745]; with_reducible exact H2_) | (have H2_ := (Option.bind_some _ _).symm.trans H; with_reducible exact H2_) | with_reducible exact H | (rw [hy745]; exact H) | exact H
                have Ny745 := Aside0.mk hy745
                clear hy745
                by_cases c16 : t728 < (t740.length : Int)
                · rw [if_pos c16] at H
                  have c16b0 : decide (t728 < (t740.length : Int)) = true := decide_eq_true c16
                  clear c16
                  obtain ⟨y748, hy748⟩ : ∃ y_ : List (List Int), y_ = (t740.set (t728 : Int).toNat y745) := ⟨_, rfl⟩
                  replace H : (if 2 < (t737.length : Int) then (if 1 < (t733.length : Int) then (if t730 < (t740.length : Int) then (some ((y748.set (t730 : Int).toNat (([wrap64 (-a1), rd t737 2, rd t733 1] : List Int))), true)) else (none)) else (none)) else (none)) = some (r1, r2) := by first | (rw [hy748]; with_reducible exact H) | (have H2_ := (Option.bind_some _ _).symm.trans H; rw [hy748]; with_reducible exact H2_) | (have H2_ := (Option.bind_some _ _).symm.trans H; with_reducible exact H2_) | with_reducible exact H | (rw [hy748]; exact H) | exact H
                  have Ny748 := Aside0.mk hy748
                  clear hy748
                  by_cases c18 : 2 < (t737.length : Int)
                  · rw [if_pos c18] at H
                    have c18b0 : decide (2 < (t737.length : Int)) = true := decide_eq_true c18
                    have c18b1 : decide (2 < t737.length) = true := decide_eq_true (by omega)
                    clear c18
                    by_cases c19 : 1 < (t733.length : Int)
                    · rw [if_pos c19] at H
                      have c19b0 : decide (1 < (t733.length : Int)) = true := decide_eq_true c19
                      have c19b1 : decide (1 < t733.length) = true := decide_eq_true (by omega)
                      clear c19
                      obtain ⟨y751, hy751⟩ : ∃ y_ : List Int, y_ = (([wrap64 (-a1), rd t737 2, rd t733 1] : List Int)) := ⟨_, rfl⟩
                      replace H : (if t730 < (t740.length : Int) then (some ((y748.set (t730 : Int).toNat y751), true)) else (none)) = some (r1, r2) := by first | (rw [hy751]; with_reducible exact H) | (have H2_ := (Option.bind_some _ _).symm.trans H; rw [hy751]; with_reducible exact H2_) | (have H2_ := (Option.bind_some _ _).symm.trans H; with_reducible exact H2_) | with_reducible exact H | (rw [hy751]; exact H) | exact H
                      have Ny751 := Aside0.mk hy751
                      clear hy751
                      by_cases c20 : t730 < (t740.length : Int)
                      · rw [if_pos c20] at H
                        have c20b0 : decide (t730 < (t740.length : Int)) = true := decide_eq_true c20
                        clear c20
                        obtain ⟨y754, hy754⟩ : ∃ y_ : List (List Int), y_ = (y748.set (t730 : Int).toNat y751) := ⟨_, rfl⟩
                        replace H : (some (y754, true)) = some (r1, r2) := by first | (rw [hy754]; with_reducible exact H) | (have H2_ := (Option.bind_some _ _).symm.trans H; rw [hy754]; with_reducible exact H2_) | (have H2_ := (Option.bind_some _ _).symm.trans H; with_reducible exact H2_) | with_reducible exact H | (rw [hy754]; exact H) | exact H
                        have Ny754 := Aside0.mk hy754
                        clear hy754
                        simp only [Option.some.injEq, Prod.mk.injEq] at H
                        obtain ⟨rfl, rfl⟩ := H
                        go_enter Try.func47, Try.ntmps47
                        try go_wp2_with (first | ((with_reducible refine gate_callee (f := 29) rfl ?_); refine goesL_ (some 15) rfl rfl Try.func29 (by kernel_rfl) rfl #[.slice A0 l0.length c0, .int .i64 a1] rfl (by (try simp only [List.map_toArray, List.map_cons, List.map_nil]); first | done | rfl | (simp only [List.length_drop, List.length_take]; rfl)) ?_; (with_reducible refine (impl_CanFlip.calls k _ _ l0 a1 true _ ?side1 ?side2 A3.out).mono ?_); (case side1 => repeat (first | exact HR0.out | (with_reducible refine Kd.C_alloc ?_ _) | (with_reducible refine Kd.C_drewN ?_ _) | (with_reducible refine Kd.C_drew ?_))); (case side2 => exact HC0.out); rintro e w22 ⟨rfl, hb⟩; refine ⟨_, rfl, ?_⟩; have n0_ := Aside0.mk (below_step (by repeat (first | (with_reducible first | exact HB.out | apply below_alloc | apply pw_below_drewN | apply below_drew1) | exact HB.out)) hb); clear HB; have HB := n0_; clear n0_; (try clear hb); (try clear hb2); (try clear hk); (try clear hi)) | ((with_reducible refine gate_callee (f := 54) rfl ?_); refine goesL_ (some 20) rfl rfl Try.func54 (by kernel_rfl) rfl #[.slice A0 l0.length c0, .int .i64 a1] rfl (by (try simp only [List.map_toArray, List.map_cons, List.map_nil]); first | done | rfl | (simp only [List.length_drop, List.length_take]; rfl)) ?_; (with_reducible refine (impl_sideAt.calls k _ _ l0 a1 t728 t729 _ ?side1 ?side2 A5.out).mono ?_); (case side1 => repeat (first | exact (Kd.C_below HR0.out HB.out) | (with_reducible refine Kd.C_alloc ?_ _) | (with_reducible refine Kd.C_drewN ?_ _) | (with_reducible refine Kd.C_drew ?_))); (case side2 => exact HC0.out); rintro e w' ⟨rfl, ⟨nd, rfl⟩⟩; refine ⟨_, rfl, ?_⟩; (try (rw [drewN_self w22]; generalize hq_ : World.drewN w22 _ = w22; have n0_ : Aside0 (Below w.heap.size w w22) := ⟨by rw [← hq_]; exact (by repeat (first | (with_reducible first | exact HB.out | apply below_alloc | apply pw_below_drewN | apply below_drew1) | exact HB.out))⟩; clear HB hq_; have HB := n0_; clear n0_))) | ((with_reducible refine gate_callee (f := 54) rfl ?_); refine goesL_ (some 27) rfl rfl Try.func54 (by kernel_rfl) rfl #[.slice A0 l0.length c0, .int .i64 (wrap64 (-a1))] rfl (by (try simp only [List.map_toArray, List.map_cons, List.map_nil]); first | done | rfl | (simp only [List.length_drop, List.length_take]; rfl)) ?_; (with_reducible refine (impl_sideAt.calls k _ _ l0 (wrap64 (-a1)) t730 t731 _ ?side1 ?side2 A6.out).mono ?_); (case side1 => repeat (first | exact (Kd.C_below HR0.out HB.out) | (with_reducible refine Kd.C_alloc ?_ _) | (with_reducible refine Kd.C_drewN ?_ _) | (with_reducible refine Kd.C_drew ?_))); (case side2 => exact HC0.out); rintro e w' ⟨rfl, ⟨nd, rfl⟩⟩; refine ⟨_, rfl, ?_⟩; (try (rw [drewN_self w22]; generalize hq_ : World.drewN w22 _ = w22; have n0_ : Aside0 (Below w.heap.size w w22) := ⟨by rw [← hq_]; exact (by repeat (first | (with_reducible first | exact HB.out | apply below_alloc | apply pw_below_drewN | apply below_drew1) | exact HB.out))⟩; clear HB hq_; have HB := n0_; clear n0_))))
                        have n0_ := Aside0.mk (below_drew1 HB.out)
                        clear HB
                        have HB := n0_
                        clear n0_
                        have p732 : 0 ≤ (t728 : Int) := of_decide_eq_true (by first | (with_reducible assumption) | assumption)
                        have q732 : t728 < (l0.length : Int) := of_decide_eq_true (by first | (with_reducible assumption) | assumption)
                        obtain ⟨ad732, A732_0, c732_0, e732, hx732_0, hl732_0, hi732_0⟩ := at_L1 HR0.out t728 p732 q732
                        have hw732_0 := hx732_0
                        cases e732
                        replace hx732_0 := (HB.out.cell (World.block_lt_of_cell? w _ hx732_0)).trans hx732_0
                        have HR732_0 := Aside0.mk hi732_0
                        have HC732_0 := Aside0.mk hl732_0
                        clear hi732_0 hl732_0
                        replace p732 := eq_true p732
                        replace q732 := eq_true q732
                        have p736 : 0 ≤ (t730 : Int) := of_decide_eq_true (by first | (with_reducible assumption) | assumption)
                        have q736 : t730 < (l0.length : Int) := of_decide_eq_true (by first | (with_reducible assumption) | assumption)
                        obtain ⟨ad736, A736_0, c736_0, e736, hx736_0, hl736_0, hi736_0⟩ := at_L1 HR0.out t730 p736 q736
                        have hw736_0 := hx736_0
                        obtain rfl : ad732 = ad736 := (by injection e736)
                        replace hx736_0 := (HB.out.cell (World.block_lt_of_cell? w _ hx736_0)).trans hx736_0
                        have HR736_0 := Aside0.mk hi736_0
                        have HC736_0 := Aside0.mk hl736_0
                        clear hi736_0 hl736_0
                        replace p736 := eq_true p736
                        replace q736 := eq_true q736
                        refine start_ (n := 14) (S := fun w' => w'.cell? (ad732.add (t728).toNat) = some (.slice A732_0 (rd_L1 l0 t728).length c732_0) ∧ w'.cell? (ad732.add (t730).toNat) = some (.slice A736_0 (rd_L1 l0 t730).length c736_0)) (ds := []) #[false, false, false, false, false, false, false, false, false, false, false, false, false, false] (by kernel_rfl) rfl rfl ⟨((HB.out.cell (World.block_lt_of_cell? w _ hw732_0)).trans hw732_0), ((HB.out.cell (World.block_lt_of_cell? w _ hw736_0)).trans hw736_0)⟩ (fun hHeld => ?_); refine with_tabW impl_FlipEdge.tab5 impl_FlipEdge.bits5 (fun HT_ HW_ => ?_)
                        generalize w22.drew = w23 at HB HR732_0 HR736_0 hx732_0 hx736_0 hHeld ⊢
                        refine pure_ (i := 0) (N := some 30) (v := ?_) (a' := ?_) #[true, false, false, false, false, false, false, false, false, false, false, false, false, false] rfl rfl (any_of HT_.out (by kernel_rfl)) (fun _ _ _ h => h) (Or.inl ⟨by rfl, ?_⟩) ?_ ?_
                        rotate_left
                        · intro w'
                          go_simp
                          with_reducible rfl
                        rotate_left
                        · simp only [Act.put, List.setIfInBounds_toArray, List.set_cons_zero, List.set_cons_succ, i64_w, i32_w]
                          rfl
                        refine pure_ (i := 1) (N := some 31) (v := ?_) (a' := ?_) #[true, true, false, false, false, false, false, false, false, false, false, false, false, false] rfl rfl (any_of HT_.out (by kernel_rfl)) (fun _ _ _ h => h) (Or.inl ⟨by rfl, ?_⟩) ?_ ?_
                        rotate_left
                        · intro w'
                          go_simp
                          with_reducible rfl
                        rotate_left
                        · simp only [Act.put, List.setIfInBounds_toArray, List.set_cons_zero, List.set_cons_succ, i64_w, i32_w]
                          rfl
                        refine pure_ (i := 2) (N := some 32) (v := ?_) (a' := ?_) #[true, true, true, false, false, false, false, false, false, false, false, false, false, false] rfl rfl (any_of HT_.out (by kernel_rfl)) (fun _ _ _ h => h) (Or.inl ⟨by rfl, ?_⟩) ?_ ?_
                        rotate_left
                        · intro w'
                          go_simp
                          with_reducible rfl
                        rotate_left
                        · simp only [Act.put, List.setIfInBounds_toArray, List.set_cons_zero, List.set_cons_succ, i64_w, i32_w]
                          rfl
                        refine pure_ (i := 4) (N := some 34) (v := ?_) (a' := ?_) #[true, true, true, false, true, false, false, false, false, false, false, false, false, false] rfl rfl (any_of HT_.out (by kernel_rfl)) (fun _ _ _ h => h) (Or.inl ⟨by rfl, ?_⟩) ?_ ?_
                        rotate_left
                        · intro w'
                          go_simp
                          with_reducible rfl
                        rotate_left
                        · simp only [Act.put, List.setIfInBounds_toArray, List.set_cons_zero, List.set_cons_succ, i64_w, i32_w]
                          rfl
                        refine pure_ (i := 6) (N := some 36) (v := ?_) (a' := ?_) #[true, true, true, false, true, false, true, false, false, false, false, false, false, false] rfl rfl (any_of HT_.out (by kernel_rfl)) (fun _ _ _ h => h) (Or.inl ⟨by rfl, ?_⟩) ?_ ?_
                        rotate_left
                        · intro w'
                          go_simp
                          with_reducible rfl
                        rotate_left
                        · simp only [Act.put, List.setIfInBounds_toArray, List.set_cons_zero, List.set_cons_succ, i64_w, i32_w]
                          rfl
                        refine pure_ (i := 7) (N := some 37) (v := ?_) (a' := ?_) #[true, true, true, false, true, false, true, true, false, false, false, false, false, false] rfl rfl (any_of HT_.out (by kernel_rfl)) (fun _ _ _ h => h) (Or.inl ⟨by rfl, ?_⟩) ?_ ?_
                        rotate_left
                        · intro w'
                          go_simp
                          with_reducible rfl
                        rotate_left
                        · simp only [Act.put, List.setIfInBounds_toArray, List.set_cons_zero, List.set_cons_succ, i64_w, i32_w]
                          rfl
                        refine pure_ (i := 8) (N := some 38) (v := ?_) (a' := ?_) #[true, true, true, false, true, false, true, true, true, false, false, false, false, false] rfl rfl (any_of HT_.out (by kernel_rfl)) (fun _ _ _ h => h) (Or.inl ⟨by rfl, ?_⟩) ?_ ?_
                        rotate_left
                        · intro w'
                          go_simp
                          with_reducible rfl
                        rotate_left
                        · simp only [Act.put, List.setIfInBounds_toArray, List.set_cons_zero, List.set_cons_succ, i64_w, i32_w]
                          rfl
                        refine pure_ (i := 10) (N := some 40) (v := ?_) (a' := ?_) #[true, true, true, false, true, false, true, true, true, false, true, false, false, false] rfl rfl (any_of HT_.out (by kernel_rfl)) (fun _ _ _ h => h) (Or.inl ⟨by rfl, ?_⟩) ?_ ?_
                        rotate_left
                        · intro w'
                          go_simp
                          with_reducible rfl
                        rotate_left
                        · simp only [Act.put, List.setIfInBounds_toArray, List.set_cons_zero, List.set_cons_succ, i64_w, i32_w]
                          rfl
                        refine take_ (i := 3) (N := some 33) (v := ?_) (a' := ?_) #[true, true, true, true, true, false, true, true, true, false, true, false, false, false] rfl rfl (take_ofW HT_.out HW_.out (by kernel_rfl)) (fun _ _ _ h => h) (Or.inl ⟨by rfl, ?_⟩) hHeld ?_ ?_
                        rotate_left
                        · rintro w' ⟨s0, s1⟩
                          go_simp
                          with_reducible rfl
                        rotate_left
                        · simp only [Act.put, List.setIfInBounds_toArray, List.set_cons_zero, List.set_cons_succ, i64_w, i32_w]
                          rfl
                        refine take_ (i := 9) (N := some 39) (v := ?_) (a' := ?_) #[true, true, true, true, true, false, true, true, true, true, true, false, false, false] rfl rfl (take_ofW HT_.out HW_.out (by kernel_rfl)) (fun _ _ _ h => h) (Or.inl ⟨by rfl, ?_⟩) hHeld ?_ ?_
                        rotate_left
                        · rintro w' ⟨s0, s1⟩
                          go_simp
                          with_reducible rfl
                        rotate_left
                        · simp only [Act.put, List.setIfInBounds_toArray, List.set_cons_zero, List.set_cons_succ, i64_w, i32_w]
                          rfl
                        refine one_ (i := 5) (N := some 35) #[true, true, true, true, true, true, true, true, true, true, true, false, false, false] rfl rfl (one_of HT_.out (by kernel_rfl)) (by decide) (fun K hK => ?_)
                        refine goes_ Try.func64 (by kernel_rfl) rfl #[.slice A732_0 (rd_L1 l0 t728).length c732_0, .int .i64 t729] (by rfl) rfl rfl (by (try simp only [List.map_toArray, List.map_cons, List.map_nil]); first | done | rfl | (simp only [List.length_drop, List.length_take]; rfl)) ?_
                        with_reducible refine (impl_turn.calls _ _ (rd_L1 l0 t728) t729 t733 _ ?side1 ?side2 A9.out).mono ?_
                        (case side1 => repeat (first | exact (Kd.C_below HR732_0.out HB.out) | (with_reducible refine Kd.C_alloc ?_ _) | (with_reducible refine Kd.C_drewN ?_ _) | (with_reducible refine Kd.C_drew ?_)))
                        (case side2 => exact HC732_0.out)
                        rintro e w24 ⟨v734, rfl, ho0, hb⟩
                        refine ⟨_, rfl, ?_⟩
                        have n0_ := Aside0.mk (Kd.R_lower (Kd.R_newM (M := fun k_ => (w.heap.size ≤ k_)) ho0 (below_size (by repeat (first | (with_reducible first | exact HB.out | apply below_alloc | apply pw_below_drewN | apply below_drew1) | exact HB.out))) (fun k_ h_ => h_)) (below_size (by repeat (first | (with_reducible first | exact HB.out | apply below_alloc | apply pw_below_drewN | apply below_drew1) | exact HB.out))))
                        have n1_ := Aside0.mk (below_step (by repeat (first | (with_reducible first | exact HB.out | apply below_alloc | apply pw_below_drewN | apply below_drew1) | exact HB.out)) hb)
                        clear HB
                        have HO735 := n0_
                        have HB := n1_
                        clear n0_ n1_
                        (try clear hb)
                        (try clear hb2)
                        (try clear hk)
                        (try clear hi)
                        (try clear ho0)
                        refine hK.out _ _ ⟨((HB.out.cell (World.block_lt_of_cell? w _ hw732_0)).trans hw732_0), ((HB.out.cell (World.block_lt_of_cell? w _ hw736_0)).trans hw736_0)⟩ (fun hHeld => ?_)
                        clear hK K
                        refine norm_ (a' := ?_) ?_ ?_
                        rotate_left
                        · show Act.put _ (some 35) _ = _
                          simp only [Act.put, List.setIfInBounds_toArray, List.set_cons_zero, List.set_cons_succ, i64_w, i32_w]
                          rfl
                        refine one_ (i := 11) (N := some 41) #[true, true, true, true, true, true, true, true, true, true, true, true, false, false] rfl rfl (one_of HT_.out (by kernel_rfl)) (by decide) (fun K hK => ?_)
                        refine goes_ Try.func64 (by kernel_rfl) rfl #[.slice A736_0 (rd_L1 l0 t730).length c736_0, .int .i64 t731] (by rfl) rfl rfl (by (try simp only [List.map_toArray, List.map_cons, List.map_nil]); first | done | rfl | (simp only [List.length_drop, List.length_take]; rfl)) ?_
                        with_reducible refine (impl_turn.calls _ _ (rd_L1 l0 t730) t731 t737 _ ?side1 ?side2 A12.out).mono ?_
                        (case side1 => repeat (first | exact (Kd.C_below HR736_0.out HB.out) | (with_reducible refine Kd.C_alloc ?_ _) | (with_reducible refine Kd.C_drewN ?_ _) | (with_reducible refine Kd.C_drew ?_)))
                        (case side2 => exact HC736_0.out)
                        rintro e w25 ⟨v738, rfl, ho0, hb⟩
                        refine ⟨_, rfl, ?_⟩
                        have n0_ := Aside0.mk (Kd.R_elder' (by (with_reducible repeat (first | apply Kd.R_alloc | apply Kd.R_drewN | apply Kd.R_drew)); exact HO735.out) (Kd.R_base ho0) hb)
                        have n1_ := Aside0.mk (Kd.R_lower (Kd.R_new' (Kd.R_newM (M := fun k_ => (w.heap.size ≤ k_)) ho0 (below_size (by repeat (first | (with_reducible first | exact HB.out | apply below_alloc | apply pw_below_drewN | apply below_drew1) | exact HB.out))) (fun k_ h_ => h_)) (Kd.R_lt (by (with_reducible repeat (first | apply Kd.R_alloc | apply Kd.R_drewN | apply Kd.R_drew)); exact HO735.out))) (below_size (by repeat (first | (with_reducible first | exact HB.out | apply below_alloc | apply pw_below_drewN | apply below_drew1) | exact HB.out))))
                        have n2_ := Aside0.mk (below_step (by repeat (first | (with_reducible first | exact HB.out | apply below_alloc | apply pw_below_drewN | apply below_drew1) | exact HB.out)) hb)
                        clear HO735
                        clear HB
                        have HO735 := n0_
                        have HO739 := n1_
                        have HB := n2_
                        clear n0_ n1_ n2_
                        (try clear hb)
                        (try clear hb2)
                        (try clear hk)
                        (try clear hi)
                        (try clear ho0)
                        refine hK.out _ _ ⟨((HB.out.cell (World.block_lt_of_cell? w _ hw732_0)).trans hw732_0), ((HB.out.cell (World.block_lt_of_cell? w _ hw736_0)).trans hw736_0)⟩ (fun hHeld => ?_)
                        clear hK K
                        refine norm_ (a' := ?_) ?_ ?_
                        rotate_left
                        · show Act.put _ (some 41) _ = _
                          simp only [Act.put, List.setIfInBounds_toArray, List.set_cons_zero, List.set_cons_succ, i64_w, i32_w]
                          rfl
                        refine pure_ (i := 12) (N := some 10) (v := ?_) (a' := ?_) #[true, true, true, true, true, true, true, true, true, true, true, true, true, false] rfl rfl (any_of HT_.out (by kernel_rfl)) (fun _ _ _ h => h) (Or.inl ⟨by rfl, ?_⟩) ?_ ?_
                        rotate_left
                        · intro w'
                          go_simp
                          with_reducible rfl
                        rotate_left
                        · simp only [Act.put, List.setIfInBounds_toArray, List.set_cons_zero, List.set_cons_succ, i64_w, i32_w]
                          rfl
                        refine pure_ (i := 13) (N := some 11) (v := ?_) (a' := ?_) #[true, true, true, true, true, true, true, true, true, true, true, true, true, true] rfl rfl (any_of HT_.out (by kernel_rfl)) (fun _ _ _ h => h) (Or.inl ⟨by rfl, ?_⟩) ?_ ?_
                        rotate_left
                        · intro w'
                          go_simp
                          with_reducible rfl
                        rotate_left
                        · simp only [Act.put, List.setIfInBounds_toArray, List.set_cons_zero, List.set_cons_succ, i64_w, i32_w]
                          rfl
                        refine done_ (done_of HT_.out (by kernel_rfl)) ?_
                        try go_wp2_with (first | ((with_reducible refine gate_callee (f := 62) rfl ?_); refine goesL_ (some 43) rfl rfl Try.func62 (by kernel_rfl) rfl #[.slice (some ad732) l0.length c0] rfl (by (try simp only [List.map_toArray, List.map_cons, List.map_nil]); first | done | rfl | (simp only [List.length_drop, List.length_take]; rfl)) ?_; (with_reducible refine (impl_copyRows.calls k _ _ l0 t740 _ ?side1 ?side2 A13.out).mono ?_); (case side1 => repeat (first | exact (Kd.C_below HR0.out HB.out) | (with_reducible refine Kd.C_alloc ?_ _) | (with_reducible refine Kd.C_drewN ?_ _) | (with_reducible refine Kd.C_drew ?_))); (case side2 => exact HC0.out); rintro e w26 ⟨v741, rfl, ho0, hb⟩; refine ⟨_, rfl, ?_⟩; have n0_ := Aside0.mk (Kd.R_below (by (with_reducible repeat (first | apply Kd.R_alloc | apply Kd.R_drewN | apply Kd.R_drew)); exact HO735.out) hb); have n1_ := Aside0.mk (Kd.R_below (by (with_reducible repeat (first | apply Kd.R_alloc | apply Kd.R_drewN | apply Kd.R_drew)); exact HO739.out) hb); have n2_ := Aside0.mk (Kd.S_lower ho0 (below_size (by repeat (first | (with_reducible first | exact HB.out | apply below_alloc | apply pw_below_drewN | apply below_drew1) | exact HB.out)))); have n3_ := Aside0.mk (below_step (by repeat (first | (with_reducible first | exact HB.out | apply below_alloc | apply pw_below_drewN | apply below_drew1) | exact HB.out)) hb); clear HO735; clear HO739; clear HB; have HO735 := n0_; have HO739 := n1_; have HO742 := n2_; have HB := n3_; clear n0_ n1_ n2_ n3_; (try clear hb); (try clear hb2); (try clear hk); (try clear hi); (try clear ho0)))
                        have n0_ := Aside0.mk (Kd.R_drew HO735.out)
                        have n1_ := Aside0.mk (Kd.R_drew HO739.out)
                        have n2_ := Aside0.mk (Kd.S_drew HO742.out)
                        have n3_ := Aside0.mk (below_drew1 HB.out)
                        clear HO735
                        clear HO739
                        clear HO742
                        clear HB
                        have HO735 := n0_
                        have HO739 := n1_
                        have HO742 := n2_
                        have HB := n3_
                        clear n0_ n1_ n2_ n3_
                        obtain ⟨Ao28, co28, eo28⟩ := Kd.R_slice HO735.out
                        (first | subst eo28 | (injection eo28 with f1_ f2_ f3_; have f4_ := f1_.symm; have f5_ := f3_.symm; clear f1_ f2_ f3_; subst f4_; subst f5_))
                        have p743 : 0 ≤ (2 : Int) := (by omega)
                        have q743 : 2 < (t733.length : Int) := of_decide_eq_true (by first | (with_reducible assumption) | assumption)
                        obtain ⟨ad743, e743, hx743_0⟩ := Kd.at_int (Kd.R_reads' HO735.out).2.2 2 p743 q743
                        cases e743
                        (try simp only [show (2 : Int).toNat = 2 from rfl, Nat.reduceMul, Nat.reduceEqDiff, Go.Addr.add, ↓reduceIte] at hx743_0)
                        have qi743 : (2 < t733.length) = True := eq_true (by omega)
                        (try rw [show ((2 : Int)).toNat = 2 from rfl] at hx743_0)
                        replace p743 := eq_true p743
                        replace q743 := eq_true q743
                        obtain ⟨Ao29, co29, eo29⟩ := Kd.R_slice HO739.out
                        (first | subst eo29 | (injection eo29 with f1_ f2_ f3_; have f4_ := f1_.symm; have f5_ := f3_.symm; clear f1_ f2_ f3_; subst f4_; subst f5_))
                        have p744 : 0 ≤ (1 : Int) := (by omega)
                        have q744 : 1 < (t737.length : Int) := of_decide_eq_true (by first | (with_reducible assumption) | assumption)
                        obtain ⟨ad744, e744, hx744_0⟩ := Kd.at_int (Kd.R_reads' HO739.out).2.2 1 p744 q744
                        cases e744
                        (try simp only [show (1 : Int).toNat = 1 from rfl, Nat.reduceMul, Nat.reduceEqDiff, Go.Addr.add, ↓reduceIte] at hx744_0)
                        have qi744 : (1 < t737.length) = True := eq_true (by omega)
                        (try rw [show ((1 : Int)).toNat = 1 from rfl] at hx744_0)
                        replace p744 := eq_true p744
                        replace q744 := eq_true q744
                        refine start_ (n := 12) (S := fun w' => w'.cell? ⟨ad743.block, ad743.off + 2, none⟩ = some (.int .i64 (rd t733 2)) ∧ w'.cell? ⟨ad744.block, ad744.off + 1, none⟩ = some (.int .i64 (rd t737 1))) (ds := [11]) #[false, false, false, false, false, false, false, false, false, false, false, false] (by kernel_rfl) rfl rfl ⟨hx743_0, hx744_0⟩ (fun hHeld => ?_); refine with_tabW impl_FlipEdge.tab7 impl_FlipEdge.bits7 (fun HT_ HW_ => ?_)
                        generalize w26.drew = w27 at HO735 HO739 HO742 HB hx743_0 hx744_0 hHeld ⊢
                        refine pure_ (i := 0) (N := some 44) (v := ?_) (a' := ?_) #[true, false, false, false, false, false, false, false, false, false, false, false] rfl rfl (any_of HT_.out (by kernel_rfl)) (fun _ _ _ h => h) (Or.inl ⟨by rfl, ?_⟩) ?_ ?_
                        rotate_left
                        · intro w'
                          go_simp
                          with_reducible rfl
                        rotate_left
                        · simp only [Act.put, List.setIfInBounds_toArray, List.set_cons_zero, List.set_cons_succ, i64_w, i32_w]
                          rfl
                        refine pure_ (i := 1) (N := some 45) (v := ?_) (a' := ?_) #[true, true, false, false, false, false, false, false, false, false, false, false] rfl rfl (any_of HT_.out (by kernel_rfl)) (fun _ _ _ h => h) (Or.inl ⟨by rfl, ?_⟩) ?_ ?_
                        rotate_left
                        · intro w'
                          go_simp
                          with_reducible rfl
                        rotate_left
                        · simp only [Act.put, List.setIfInBounds_toArray, List.set_cons_zero, List.set_cons_succ, i64_w, i32_w]
                          rfl
                        refine pure_ (i := 2) (N := some 46) (v := ?_) (a' := ?_) #[true, true, true, false, false, false, false, false, false, false, false, false] rfl rfl (any_of HT_.out (by kernel_rfl)) (fun _ _ _ h => h) (Or.inl ⟨by rfl, ?_⟩) ?_ ?_
                        rotate_left
                        · intro w'
                          go_simp
                          with_reducible rfl
                        rotate_left
                        · simp only [Act.put, List.setIfInBounds_toArray, List.set_cons_zero, List.set_cons_succ, i64_w, i32_w]
                          rfl
                        refine pure_ (i := 3) (N := some 47) (v := ?_) (a' := ?_) #[true, true, true, true, false, false, false, false, false, false, false, false] rfl rfl (any_of HT_.out (by kernel_rfl)) (fun _ _ _ h => h) (Or.inl ⟨by rfl, ?_⟩) ?_ ?_
                        rotate_left
                        · intro w'
                          go_simp
                          with_reducible rfl
                        rotate_left
                        · simp only [Act.put, List.setIfInBounds_toArray, List.set_cons_zero, List.set_cons_succ, i64_w, i32_w]
                          rfl
                        refine pure_ (i := 4) (N := some 48) (v := ?_) (a' := ?_) #[true, true, true, true, true, false, false, false, false, false, false, false] rfl rfl (any_of HT_.out (by kernel_rfl)) (fun _ _ _ h => h) (Or.inl ⟨by rfl, ?_⟩) ?_ ?_
                        rotate_left
                        · intro w'
                          go_simp
                          with_reducible rfl
                        rotate_left
                        · simp only [Act.put, List.setIfInBounds_toArray, List.set_cons_zero, List.set_cons_succ, i64_w, i32_w]
                          rfl
                        refine pure_ (i := 6) (N := some 50) (v := ?_) (a' := ?_) #[true, true, true, true, true, false, true, false, false, false, false, false] rfl rfl (any_of HT_.out (by kernel_rfl)) (fun _ _ _ h => h) (Or.inl ⟨by rfl, ?_⟩) ?_ ?_
                        rotate_left
                        · intro w'
                          go_simp
                          with_reducible rfl
                        rotate_left
                        · simp only [Act.put, List.setIfInBounds_toArray, List.set_cons_zero, List.set_cons_succ, i64_w, i32_w]
                          rfl
                        refine pure_ (i := 7) (N := some 51) (v := ?_) (a' := ?_) #[true, true, true, true, true, false, true, true, false, false, false, false] rfl rfl (any_of HT_.out (by kernel_rfl)) (fun _ _ _ h => h) (Or.inl ⟨by rfl, ?_⟩) ?_ ?_
                        rotate_left
                        · intro w'
                          go_simp
                          with_reducible rfl
                        rotate_left
                        · simp only [Act.put, List.setIfInBounds_toArray, List.set_cons_zero, List.set_cons_succ, i64_w, i32_w]
                          rfl
                        refine take_ (i := 5) (N := some 49) (v := ?_) (a' := ?_) #[true, true, true, true, true, true, true, true, false, false, false, false] rfl rfl (take_ofW HT_.out HW_.out (by kernel_rfl)) (fun _ _ _ h => h) (Or.inl ⟨by rfl, ?_⟩) hHeld ?_ ?_
                        rotate_left
                        · rintro w' ⟨s0, s1⟩
                          go_simp
                          with_reducible rfl
                        rotate_left
                        · simp only [Act.put, List.setIfInBounds_toArray, List.set_cons_zero, List.set_cons_succ, i64_w, i32_w]
                          rfl
                        refine take_ (i := 8) (N := some 52) (v := ?_) (a' := ?_) #[true, true, true, true, true, true, true, true, true, false, false, false] rfl rfl (take_ofW HT_.out HW_.out (by kernel_rfl)) (fun _ _ _ h => h) (Or.inl ⟨by rfl, ?_⟩) hHeld ?_ ?_
                        rotate_left
                        · rintro w' ⟨s0, s1⟩
                          go_simp
                          with_reducible rfl
                        rotate_left
                        · simp only [Act.put, List.setIfInBounds_toArray, List.set_cons_zero, List.set_cons_succ, i64_w, i32_w]
                          rfl
                        refine one_ (i := 9) (N := some 53) #[true, true, true, true, true, true, true, true, true, true, false, false] rfl rfl (one_of HT_.out (by kernel_rfl)) (by decide) (fun K hK => ?_)
                        refine Kd.R_lit_step (Kd.int .i64) _ 3 ?hg (N := 53) ?hd (xs := ([a1, rd t733 2, rd t737 1] : List Int)) (inner := [.int .i64 a1, .int .i64 (rd t733 2), .int .i64 (rd t737 1)]) (ok := fun _ => True) (okp := fun _ => True) ?hr ?hp (fun _ hk => hk) trivial (Below.refl _ _) (Nat.le_refl _) (by simp) ?_; (case hd => rfl); (case hg => rfl); (case hr => first | (go_simp; done) | (go_simp; rfl)); (case hp => exact (Reps.one (show Kd.M (Kd.int .i64) _ _ _ a1 [.int .i64 a1] from rfl) (Reps.one (show Kd.M (Kd.int .i64) _ _ _ (rd t733 2) [.int .i64 (rd t733 2)] from rfl) (Reps.one (show Kd.M (Kd.int .i64) _ _ _ (rd t737 1) [.int .i64 (rd t737 1)] from rfl) (Reps.none _ _)))))
                        intro v746 w30 ho31 hb hg_ hnew_
                        have HS0_ := (hb.cell (World.block_lt_of_cell? _ _ (hHeld.1))).trans (hHeld.1)
                        have HS1_ := (hb.cell (World.block_lt_of_cell? _ _ (hHeld.2))).trans (hHeld.2)
                        clear hg_ hnew_
                        (first | rw [← Ny745.out] at ho31 | (simp only [Int.reduceToNat] at ho31; rw [← Ny745.out] at ho31))
                        have n0_ := Aside0.mk (Kd.R_elder' (by (with_reducible repeat (first | apply Kd.R_alloc | apply Kd.R_drewN | apply Kd.R_drew)); exact HO735.out) (Kd.R_base ho31) hb)
                        have n1_ := Aside0.mk (Kd.R_elder' (by (with_reducible repeat (first | apply Kd.R_alloc | apply Kd.R_drewN | apply Kd.R_drew)); exact HO739.out) (Kd.R_base ho31) hb)
                        have n2_ := Aside0.mk (Kd.S_elder' (by (with_reducible repeat (first | apply Kd.S_alloc | apply Kd.S_drewN | apply Kd.S_drew)); exact HO742.out) (Kd.R_base ho31) hb)
                        have n3_ := Aside0.mk (Kd.R_lower (Kd.R_new' (Kd.R_new' (Kd.R_newM (M := fun k_ => (w.heap.size ≤ k_)) ho31 (below_size (by repeat (first | (with_reducible first | exact HB.out | apply below_alloc | apply pw_below_drewN | apply below_drew1) | exact HB.out))) (fun k_ h_ => h_)) (Kd.R_lt (by (with_reducible repeat (first | apply Kd.R_alloc | apply Kd.R_drewN | apply Kd.R_drew)); exact HO735.out))) (Kd.R_lt (by (with_reducible repeat (first | apply Kd.R_alloc | apply Kd.R_drewN | apply Kd.R_drew)); exact HO739.out))) (below_size (by repeat (first | (with_reducible first | exact HB.out | apply below_alloc | apply pw_below_drewN | apply below_drew1) | exact HB.out))))
                        have n4_ := Aside0.mk (below_step (by repeat (first | (with_reducible first | exact HB.out | apply below_alloc | apply pw_below_drewN | apply below_drew1) | exact HB.out)) hb)
                        clear HO735
                        clear HO739
                        clear HO742
                        clear HB
                        have HO735 := n0_
                        have HO739 := n1_
                        have HO742 := n2_
                        have HO747 := n3_
                        have HB := n4_
                        clear n0_ n1_ n2_ n3_ n4_
                        clear hb ho31
                        have p17 : 0 ≤ (t728 : Int) := of_decide_eq_true (by first | (with_reducible assumption) | assumption)
                        have q17 : (t728 : Int) < ((t740.length : Int) : Int) := of_decide_eq_true (by first | (with_reducible assumption) | assumption)
                        obtain ⟨go17, co17, eo17, gb17, gl17, cl17, HG17⟩ := Kd.S_form HO742.out (by omega)
                        (first | cases eo17 | (injection eo17 with ea_ en_ ec_; (first | subst ea_ | (injection ea_ with ea_; subst ea_)); subst ec_; clear en_))
                        have GB17 := Aside0.mk gb17
                        have GG17 := Aside0.mk HG17
                        clear gb17 gl17 HG17
                        obtain ⟨oi_ce17, ce17, hcl17, hM17, hcc17, hfr17, ho_ce17, hH_ce17⟩ := Kd.S_elem HO742.out [] (t728 : Int) p17 q17
                        obtain ⟨ua17_0, rfl, ge17_0⟩ := hM17
                        have hx17_0 := hcc17 0 _ rfl
                        have hf17_0 := hfr17 0
                        (try simp only [show ((Kd.slice 3 (Kd.int .i64))).sz = 1 from rfl, Nat.mul_one, Nat.add_zero] at hx17_0)
                        (try simp only [show ((Kd.slice 3 (Kd.int .i64))).sz = 1 from rfl, Nat.mul_one, Nat.add_zero] at hf17_0)
                        (try clear hcl17); (try clear hcc17); (try clear hfr17); (try clear hM17)
                        replace p17 := eq_true p17
                        replace q17 := eq_true q17
                        obtain ⟨oi_ce32, ce32, hcl32, hM32, hcc32, hfr32, ho_ce32, hH_ce32⟩ := Kd.S_elem HO742.out [] (t728 : Int) (of_decide_eq_true (by first | (with_reducible assumption) | assumption)) (by have h_ : (t728 : Int) < ((t740.length : Int) : Int) := of_decide_eq_true (by first | (with_reducible assumption) | assumption); first | exact h_ | (have e_ := (Kd.S_reads' HO742.out).1; omega) | simpa using h_)
                        obtain ⟨ua32_0, rfl, ge32_0⟩ := hM32
                        have HP32 := (Kd.S_seg (ok := fun _ => True) (okg := fun k_ => some k_ = (v746 : Value).ownBlock) (okp := fun k_ => some k_ = (v746 : Value).ownBlock) hH_ce32 (of_decide_eq_true (by first | (with_reducible assumption) | assumption)) (by have h_ : (t728 : Int) < ((t740.length : Int) : Int) := of_decide_eq_true (by first | (with_reducible assumption) | assumption); first | exact h_ | (have e_ := (Kd.S_reads' HO742.out).1; omega) | simpa using h_) (seg := [v746]) (j := 0) (show 0 + 1 ≤ 1 from by decide) (x' := y745) ⟨v746, rfl, Kd.R_reok rfl HO747.out (fun k_ e_ => e_.symm)⟩ (fun k_ hk => .inr hk) (fun k_ hk => ⟨trivial, fun e_ => ((Kd.S_R HO742.out).1 go17 rfl).2 (e_ ▸ hk)⟩)).1
                        (try simp only [show ((Kd.slice 3 (Kd.int .i64))).sz = 1 from rfl, Nat.mul_one, Nat.add_zero] at HP32)
                        rw [← Ny748.out] at HP32
                        have HQ32 := Aside0.mk HP32
                        (try clear hcl32); (try clear hcc32); (try clear hfr32); (try clear hM32); (try clear HP32)
                        refine hK.out _ _ ⟨HS0_, HS1_⟩ (fun hHeld => ?_)
                        clear hK K
                        refine norm_ (a' := ?_) ?_ ?_
                        rotate_left
                        · show Act.put _ (some 53) _ = _
                          simp only [Act.put, List.setIfInBounds_toArray, List.set_cons_zero, List.set_cons_succ, i64_w, i32_w]
                          rfl
                        refine pure_ (i := 10) (N := some 54) (v := ?_) (a' := ?_) #[true, true, true, true, true, true, true, true, true, true, true, false] rfl rfl (any_of HT_.out (by kernel_rfl)) (fun _ _ _ h => h) (Or.inl ⟨by rfl, ?_⟩) ?_ ?_
                        rotate_left
                        · intro w'
                          go_simp
                          with_reducible rfl
                        rotate_left
                        · simp only [Act.put, List.setIfInBounds_toArray, List.set_cons_zero, List.set_cons_succ, i64_w, i32_w]
                          rfl
                        refine last_ (i := 11) (N := none) #[true, true, true, true, true, true, true, true, true, true, true, true] rfl rfl (one_of HT_.out (by kernel_rfl)) (by decide) (fun K hK => ?_)
                        refine skip_ (w1 := w30.setCell ⟨go17, (t728 : Int).toNat, none⟩ (v746)) (by rfl) rfl ?_ ?_
                        · obtain ⟨Av_, cv_, ev_⟩ := Kd.R_slice HO747.out
                          subst ev_
                          first | (go_simp; done) | (go_simp; rfl)
                        refine hK.out _ _ ?_
                        clear hK K
                        refine done_ (done_of HT_.out (by kernel_rfl)) ?_
                        try go_wp2
                        have n0_ : Aside0 (Kd.R (Kd.int .i64) 3 (w30.setCell ⟨go17, (t728 : Int).toNat, none⟩ (v746)) w.heap.size (fun k_ => (w.heap.size ≤ k_) ∧ some k_ ≠ (.slice (some ad744) t737.length co29 : Value).ownBlock) (.slice (some ad743) t733.length co28) t733) := ⟨by (with_reducible repeat (first | apply Kd.R_alloc | apply Kd.R_drewN | apply Kd.R_drew)); exact Kd.R_mono (Kd.R_far (p := ⟨go17, (t728 : Int).toNat, none⟩) (Kd.R_types HO735.out GG17.out (by decide)) (fun _ hk => hk.2) (v746)) (fun _ hk => ⟨hk.1.1.1.1, hk.1.1.2⟩)⟩
                        have n1_ : Aside0 (Kd.R (Kd.int .i64) 3 (w30.setCell ⟨go17, (t728 : Int).toNat, none⟩ (v746)) w.heap.size (fun k_ => (w.heap.size ≤ k_) ∧ some k_ ≠ (.slice (some ad743) t733.length co28 : Value).ownBlock) (.slice (some ad744) t737.length co29) t737) := ⟨by (with_reducible repeat (first | apply Kd.R_alloc | apply Kd.R_drewN | apply Kd.R_drew)); exact Kd.R_mono (Kd.R_far (p := ⟨go17, (t728 : Int).toNat, none⟩) (Kd.R_types HO739.out GG17.out (by decide)) (fun _ hk => hk.2) (v746)) (fun _ hk => ⟨hk.1.1.1.1, hk.1.1.2⟩)⟩
                        have n2_ : Aside0 (Kd.S (Kd.slice 3 (Kd.int .i64)) 22 (w30.setCell ⟨go17, (t728 : Int).toNat, none⟩ (v746)) w.heap.size (fun _ => True) (.slice (some ⟨go17, 0, none⟩) t740.length co17) y748) := ⟨by (with_reducible repeat (first | apply Kd.S_alloc | apply Kd.S_drewN | apply Kd.S_drew)); exact HQ32.out⟩
                        have n3_ : Aside0 (Below w.heap.size w (w30.setCell ⟨go17, (t728 : Int).toNat, none⟩ (v746))) := ⟨by repeat (first | (with_reducible first | exact HB.out | apply below_alloc | apply pw_below_drewN | apply below_drew1 | refine below_set ?_ GB17.out) | exact HB.out)⟩
                        (try clear HO735)
                        (try clear HO739)
                        (try clear HO742)
                        (try clear HB)
                        generalize (w30.setCell ⟨go17, (t728 : Int).toNat, none⟩ (v746)) = w33 at n0_ n1_ n2_ n3_ ⊢
                        have HO735 := n0_
                        have HO739 := n1_
                        have HO742 := n2_
                        have HB := n3_
                        clear n0_ n1_ n2_ n3_
                        have n0_ := Aside0.mk (Kd.R_drew HO735.out)
                        have n1_ := Aside0.mk (Kd.R_drew HO739.out)
                        have n2_ := Aside0.mk (Kd.S_drew HO742.out)
                        have n3_ := Aside0.mk (below_drew1 HB.out)
                        clear HO735
                        clear HO739
                        clear HO742
                        clear HB
                        have HO735 := n0_
                        have HO739 := n1_
                        have HO742 := n2_
                        have HB := n3_
                        clear n0_ n1_ n2_ n3_
                        have p749 : 0 ≤ (2 : Int) := (by omega)
                        have q749 : 2 < (t737.length : Int) := of_decide_eq_true (by first | (with_reducible assumption) | assumption)
                        obtain ⟨ad749, e749, hx749_0⟩ := Kd.at_int (Kd.R_reads' HO739.out).2.2 2 p749 q749
                        obtain rfl : ad744 = ad749 := (by injection e749)
                        (try simp only [show (2 : Int).toNat = 2 from rfl, Nat.reduceMul, Nat.reduceEqDiff, Go.Addr.add, ↓reduceIte] at hx749_0)
                        have qi749 : (2 < t737.length) = True := eq_true (by omega)
                        (try rw [show ((2 : Int)).toNat = 2 from rfl] at hx749_0)
                        replace p749 := eq_true p749
                        replace q749 := eq_true q749
                        have p750 : 0 ≤ (1 : Int) := (by omega)
                        have q750 : 1 < (t733.length : Int) := of_decide_eq_true (by first | (with_reducible assumption) | assumption)
                        obtain ⟨ad750, e750, hx750_0⟩ := Kd.at_int (Kd.R_reads' HO735.out).2.2 1 p750 q750
                        obtain rfl : ad743 = ad750 := (by injection e750)
                        (try simp only [show (1 : Int).toNat = 1 from rfl, Nat.reduceMul, Nat.reduceEqDiff, Go.Addr.add, ↓reduceIte] at hx750_0)
                        have qi750 : (1 < t733.length) = True := eq_true (by omega)
                        (try rw [show ((1 : Int)).toNat = 1 from rfl] at hx750_0)
                        replace p750 := eq_true p750
                        replace q750 := eq_true q750
                        refine start_ (n := 13) (S := fun w' => w'.cell? ⟨ad744.block, ad744.off + 2, none⟩ = some (.int .i64 (rd t737 2)) ∧ w'.cell? ⟨ad743.block, ad743.off + 1, none⟩ = some (.int .i64 (rd t733 1))) (ds := [12]) #[false, false, false, false, false, false, false, false, false, false, false, false, false] (by kernel_rfl) rfl rfl ⟨hx749_0, hx750_0⟩ (fun hHeld => ?_); refine with_tabW impl_FlipEdge.tab8 impl_FlipEdge.bits8 (fun HT_ HW_ => ?_)
                        generalize w33.drew = w34 at HO735 HO739 HO742 HB HQ32 hx749_0 hx750_0 hHeld ⊢
                        refine pure_ (i := 0) (N := some 55) (v := ?_) (a' := ?_) #[true, false, false, false, false, false, false, false, false, false, false, false, false] rfl rfl (any_of HT_.out (by kernel_rfl)) (fun _ _ _ h => h) (Or.inl ⟨by rfl, ?_⟩) ?_ ?_
                        rotate_left
                        · intro w'
                          go_simp
                          with_reducible rfl
                        rotate_left
                        · simp only [Act.put, List.setIfInBounds_toArray, List.set_cons_zero, List.set_cons_succ, i64_w, i32_w]
                          rfl
                        refine pure_ (i := 1) (N := some 56) (v := ?_) (a' := ?_) #[true, true, false, false, false, false, false, false, false, false, false, false, false] rfl rfl (any_of HT_.out (by kernel_rfl)) (fun _ _ _ h => h) (Or.inl ⟨by rfl, ?_⟩) ?_ ?_
                        rotate_left
                        · intro w'
                          go_simp
                          with_reducible rfl
                        rotate_left
                        · simp only [Act.put, List.setIfInBounds_toArray, List.set_cons_zero, List.set_cons_succ, i64_w, i32_w]
                          rfl
                        refine pure_ (i := 2) (N := some 57) (v := ?_) (a' := ?_) #[true, true, true, false, false, false, false, false, false, false, false, false, false] rfl rfl (any_of HT_.out (by kernel_rfl)) (fun _ _ _ h => h) (Or.inl ⟨by rfl, ?_⟩) ?_ ?_
                        rotate_left
                        · intro w'
                          go_simp
                          with_reducible rfl
                        rotate_left
                        · simp only [Act.put, List.setIfInBounds_toArray, List.set_cons_zero, List.set_cons_succ, i64_w, i32_w]
                          rfl
                        refine pure_ (i := 3) (N := some 58) (v := ?_) (a' := ?_) #[true, true, true, true, false, false, false, false, false, false, false, false, false] rfl rfl (any_of HT_.out (by kernel_rfl)) (fun _ _ _ h => h) (Or.inl ⟨by rfl, ?_⟩) ?_ ?_
                        rotate_left
                        · intro w'
                          go_simp
                          with_reducible rfl
                        rotate_left
                        · simp only [Act.put, List.setIfInBounds_toArray, List.set_cons_zero, List.set_cons_succ, i64_w, i32_w]
                          rfl
                        refine pure_ (i := 4) (N := some 59) (v := ?_) (a' := ?_) #[true, true, true, true, true, false, false, false, false, false, false, false, false] rfl rfl (any_of HT_.out (by kernel_rfl)) (fun _ _ _ h => h) (Or.inl ⟨by rfl, ?_⟩) ?_ ?_
                        rotate_left
                        · intro w'
                          go_simp
                          with_reducible rfl
                        rotate_left
                        · simp only [Act.put, List.setIfInBounds_toArray, List.set_cons_zero, List.set_cons_succ, i64_w, i32_w]
                          rfl
                        refine pure_ (i := 5) (N := some 60) (v := ?_) (a' := ?_) #[true, true, true, true, true, true, false, false, false, false, false, false, false] rfl rfl (any_of HT_.out (by kernel_rfl)) (fun _ _ _ h => h) (Or.inl ⟨by rfl, ?_⟩) ?_ ?_
                        rotate_left
                        · intro w'
                          go_simp
                          with_reducible rfl
                        rotate_left
                        · simp only [Act.put, List.setIfInBounds_toArray, List.set_cons_zero, List.set_cons_succ, i64_w, i32_w]
                          rfl
                        refine pure_ (i := 7) (N := some 62) (v := ?_) (a' := ?_) #[true, true, true, true, true, true, false, true, false, false, false, false, false] rfl rfl (any_of HT_.out (by kernel_rfl)) (fun _ _ _ h => h) (Or.inl ⟨by rfl, ?_⟩) ?_ ?_
                        rotate_left
                        · intro w'
                          go_simp
                          with_reducible rfl
                        rotate_left
                        · simp only [Act.put, List.setIfInBounds_toArray, List.set_cons_zero, List.set_cons_succ, i64_w, i32_w]
                          rfl
                        refine pure_ (i := 8) (N := some 63) (v := ?_) (a' := ?_) #[true, true, true, true, true, true, false, true, true, false, false, false, false] rfl rfl (any_of HT_.out (by kernel_rfl)) (fun _ _ _ h => h) (Or.inl ⟨by rfl, ?_⟩) ?_ ?_
                        rotate_left
                        · intro w'
                          go_simp
                          with_reducible rfl
                        rotate_left
                        · simp only [Act.put, List.setIfInBounds_toArray, List.set_cons_zero, List.set_cons_succ, i64_w, i32_w]
                          rfl
                        refine take_ (i := 6) (N := some 61) (v := ?_) (a' := ?_) #[true, true, true, true, true, true, true, true, true, false, false, false, false] rfl rfl (take_ofW HT_.out HW_.out (by kernel_rfl)) (fun _ _ _ h => h) (Or.inl ⟨by rfl, ?_⟩) hHeld ?_ ?_
                        rotate_left
                        · rintro w' ⟨s0, s1⟩
                          go_simp
                          with_reducible rfl
                        rotate_left
                        · simp only [Act.put, List.setIfInBounds_toArray, List.set_cons_zero, List.set_cons_succ, i64_w, i32_w]
                          rfl
                        refine take_ (i := 9) (N := some 64) (v := ?_) (a' := ?_) #[true, true, true, true, true, true, true, true, true, true, false, false, false] rfl rfl (take_ofW HT_.out HW_.out (by kernel_rfl)) (fun _ _ _ h => h) (Or.inl ⟨by rfl, ?_⟩) hHeld ?_ ?_
                        rotate_left
                        · rintro w' ⟨s0, s1⟩
                          go_simp
                          with_reducible rfl
                        rotate_left
                        · simp only [Act.put, List.setIfInBounds_toArray, List.set_cons_zero, List.set_cons_succ, i64_w, i32_w]
                          rfl
                        refine one_ (i := 10) (N := some 65) #[true, true, true, true, true, true, true, true, true, true, true, false, false] rfl rfl (one_of HT_.out (by kernel_rfl)) (by decide) (fun K hK => ?_)
                        refine Kd.R_lit_step (Kd.int .i64) _ 3 ?hg (N := 65) ?hd (xs := ([wrap64 (-a1), rd t737 2, rd t733 1] : List Int)) (inner := [.int .i64 (wrap64 (-a1)), .int .i64 (rd t737 2), .int .i64 (rd t733 1)]) (ok := fun _ => True) (okp := fun _ => True) ?hr ?hp (fun _ hk => hk) trivial (Below.refl _ _) (Nat.le_refl _) (by simp) ?_; (case hd => rfl); (case hg => rfl); (case hr => first | (go_simp; done) | (go_simp; rfl)); (case hp => exact (Reps.one (show Kd.M (Kd.int .i64) _ _ _ (wrap64 (-a1)) [.int .i64 (wrap64 (-a1))] from rfl) (Reps.one (show Kd.M (Kd.int .i64) _ _ _ (rd t737 2) [.int .i64 (rd t737 2)] from rfl) (Reps.one (show Kd.M (Kd.int .i64) _ _ _ (rd t733 1) [.int .i64 (rd t733 1)] from rfl) (Reps.none _ _)))))
                        intro v752 w35 ho36 hb hg_ hnew_
                        have HS0_ := (hb.cell (World.block_lt_of_cell? _ _ (hHeld.1))).trans (hHeld.1)
                        have HS1_ := (hb.cell (World.block_lt_of_cell? _ _ (hHeld.2))).trans (hHeld.2)
                        clear hg_ hnew_
                        (first | rw [← Ny751.out] at ho36 | (simp only [Int.reduceToNat] at ho36; rw [← Ny751.out] at ho36))
                        have n0_ := Aside0.mk (Kd.R_elder' (by (with_reducible repeat (first | apply Kd.R_alloc | apply Kd.R_drewN | apply Kd.R_drew)); exact HO735.out) (Kd.R_base ho36) hb)
                        have n1_ := Aside0.mk (Kd.R_elder' (by (with_reducible repeat (first | apply Kd.R_alloc | apply Kd.R_drewN | apply Kd.R_drew)); exact HO739.out) (Kd.R_base ho36) hb)
                        have n2_ := Aside0.mk (Kd.S_elder' (by (with_reducible repeat (first | apply Kd.S_alloc | apply Kd.S_drewN | apply Kd.S_drew)); exact HO742.out) (Kd.R_base ho36) hb)
                        have n3_ := Aside0.mk (Kd.R_lower (Kd.R_new' (Kd.R_new' (Kd.R_newM (M := fun k_ => (w.heap.size ≤ k_)) ho36 (below_size (by repeat (first | (with_reducible first | exact HB.out | apply below_alloc | apply pw_below_drewN | apply below_drew1) | exact HB.out))) (fun k_ h_ => h_)) (Kd.R_lt (by (with_reducible repeat (first | apply Kd.R_alloc | apply Kd.R_drewN | apply Kd.R_drew)); exact HO735.out))) (Kd.R_lt (by (with_reducible repeat (first | apply Kd.R_alloc | apply Kd.R_drewN | apply Kd.R_drew)); exact HO739.out))) (below_size (by repeat (first | (with_reducible first | exact HB.out | apply below_alloc | apply pw_below_drewN | apply below_drew1) | exact HB.out))))
                        have n4_ := Aside0.mk (below_step (by repeat (first | (with_reducible first | exact HB.out | apply below_alloc | apply pw_below_drewN | apply below_drew1) | exact HB.out)) hb)
                        clear HO735
                        clear HO739
                        clear HO742
                        clear HB
                        have HO735 := n0_
                        have HO739 := n1_
                        have HO742 := n2_
                        have HO753 := n3_
                        have HB := n4_
                        clear n0_ n1_ n2_ n3_ n4_
                        clear hb ho36
                        have p21 : 0 ≤ (t730 : Int) := of_decide_eq_true (by first | (with_reducible assumption) | assumption)
                        have q21 : (t730 : Int) < ((t740.length : Int) : Int) := of_decide_eq_true (by first | (with_reducible assumption) | assumption)
                        obtain ⟨oi_ce21, ce21, hcl21, hM21, hcc21, hfr21, ho_ce21, hH_ce21⟩ := Kd.S_elem HO742.out [] (t730 : Int) p21 q21
                        obtain ⟨ua21_0, rfl, ge21_0⟩ := hM21
                        have hx21_0 := hcc21 0 _ rfl
                        have hf21_0 := hfr21 0
                        (try simp only [show ((Kd.slice 3 (Kd.int .i64))).sz = 1 from rfl, Nat.mul_one, Nat.add_zero] at hx21_0)
                        (try simp only [show ((Kd.slice 3 (Kd.int .i64))).sz = 1 from rfl, Nat.mul_one, Nat.add_zero] at hf21_0)
                        (try clear hcl21); (try clear hcc21); (try clear hfr21); (try clear hM21)
                        replace p21 := eq_true p21
                        replace q21 := eq_true q21
                        obtain ⟨oi_ce37, ce37, hcl37, hM37, hcc37, hfr37, ho_ce37, hH_ce37⟩ := Kd.S_elem HO742.out [] (t730 : Int) (of_decide_eq_true (by first | (with_reducible assumption) | assumption)) (by have h_ : (t730 : Int) < ((t740.length : Int) : Int) := of_decide_eq_true (by first | (with_reducible assumption) | assumption); first | exact h_ | (have e_ := (Kd.S_reads' HO742.out).1; omega) | simpa using h_)
                        obtain ⟨ua37_0, rfl, ge37_0⟩ := hM37
                        have HP37 := (Kd.S_seg (ok := fun _ => True) (okg := fun k_ => some k_ = (v752 : Value).ownBlock) (okp := fun k_ => some k_ = (v752 : Value).ownBlock) hH_ce37 (of_decide_eq_true (by first | (with_reducible assumption) | assumption)) (by have h_ : (t730 : Int) < ((t740.length : Int) : Int) := of_decide_eq_true (by first | (with_reducible assumption) | assumption); first | exact h_ | (have e_ := (Kd.S_reads' HO742.out).1; omega) | simpa using h_) (seg := [v752]) (j := 0) (show 0 + 1 ≤ 1 from by decide) (x' := y751) ⟨v752, rfl, Kd.R_reok rfl HO753.out (fun k_ e_ => e_.symm)⟩ (fun k_ hk => .inr hk) (fun k_ hk => ⟨trivial, fun e_ => ((Kd.S_R HO742.out).1 go17 rfl).2 (e_ ▸ hk)⟩)).1
                        (try simp only [show ((Kd.slice 3 (Kd.int .i64))).sz = 1 from rfl, Nat.mul_one, Nat.add_zero] at HP37)
                        rw [← Ny754.out] at HP37
                        have HQ37 := Aside0.mk HP37
                        (try clear hcl37); (try clear hcc37); (try clear hfr37); (try clear hM37); (try clear HP37)
                        refine hK.out _ _ ⟨HS0_, HS1_⟩ (fun hHeld => ?_)
                        clear hK K
                        refine norm_ (a' := ?_) ?_ ?_
                        rotate_left
                        · show Act.put _ (some 65) _ = _
                          simp only [Act.put, List.setIfInBounds_toArray, List.set_cons_zero, List.set_cons_succ, i64_w, i32_w]
                          rfl
                        refine pure_ (i := 11) (N := some 66) (v := ?_) (a' := ?_) #[true, true, true, true, true, true, true, true, true, true, true, true, false] rfl rfl (any_of HT_.out (by kernel_rfl)) (fun _ _ _ h => h) (Or.inl ⟨by rfl, ?_⟩) ?_ ?_
                        rotate_left
                        · intro w'
                          go_simp
                          with_reducible rfl
                        rotate_left
                        · simp only [Act.put, List.setIfInBounds_toArray, List.set_cons_zero, List.set_cons_succ, i64_w, i32_w]
                          rfl
                        refine last_ (i := 12) (N := none) #[true, true, true, true, true, true, true, true, true, true, true, true, true] rfl rfl (one_of HT_.out (by kernel_rfl)) (by decide) (fun K hK => ?_)
                        refine skip_ (w1 := w35.setCell ⟨go17, (t730 : Int).toNat, none⟩ (v752)) (by rfl) rfl ?_ ?_
                        · obtain ⟨Av_, cv_, ev_⟩ := Kd.R_slice HO753.out
                          subst ev_
                          first | (go_simp; done) | (go_simp; rfl)
                        refine hK.out _ _ ?_
                        clear hK K
                        refine done_ (done_of HT_.out (by kernel_rfl)) ?_
                        try go_wp2
                        go_ret2
                        exact ⟨_, by first | rfl | (simp [errW_none, errW_some] <;> rfl) | (simp [*, errW_none, errW_some] <;> rfl), by (with_reducible repeat (first | apply Kd.S_alloc | apply Kd.S_drewN | apply Kd.S_drew)); exact HQ37.out, by repeat (first | (with_reducible first | exact HB.out | apply below_alloc | apply pw_below_drewN | apply below_drew1 | refine below_set ?_ GB17.out) | exact HB.out)⟩
                      · rw [if_neg c20] at H
                        exact absurd H (by simp)
                    · rw [if_neg c19] at H
                      exact absurd H (by simp)
                  · rw [if_neg c18] at H
                    exact absurd H (by simp)
                · rw [if_neg c16] at H
                  exact absurd H (by simp)
              · rw [if_neg c15] at H
                exact absurd H (by simp)
            · rw [if_neg c14] at H
              exact absurd H (by simp)
          · rw [if_neg c11] at H
            exact absurd H (by simp)
        · rw [if_neg c10] at H
          exact absurd H (by simp)
      · rw [if_neg c8] at H
        exact absurd H (by simp)
    · rw [if_neg c7] at H
      exact absurd H (by simp)
  · replace c4 := Bool.eq_false_iff.mpr c4
    subst c4
    have H1 : (some (([] : List (List Int)), false)) = some (r1, r2) := by rw [if_neg (show ¬ (false = true) by decide)] at H; exact H
    clear H
    have H := H1
    clear H1
    simp only [Option.some.injEq, Prod.mk.injEq] at H
    obtain ⟨rfl, rfl⟩ := H
    go_enter Try.func47, Try.ntmps47
    go_wp2_with (first | ((with_reducible refine gate_callee (f := 29) rfl ?_); refine goesL_ (some 15) rfl rfl Try.func29 (by kernel_rfl) rfl #[.slice A0 l0.length c0, .int .i64 a1] rfl (by (try simp only [List.map_toArray, List.map_cons, List.map_nil]); first | done | rfl | (simp only [List.length_drop, List.length_take]; rfl)) ?_; (with_reducible refine (impl_CanFlip.calls k _ _ l0 a1 false _ ?side1 ?side2 A3.out).mono ?_); (case side1 => repeat (first | exact HR0.out | (with_reducible refine Kd.C_alloc ?_ _) | (with_reducible refine Kd.C_drewN ?_ _) | (with_reducible refine Kd.C_drew ?_))); (case side2 => exact HC0.out); rintro e w38 ⟨rfl, hb⟩; refine ⟨_, rfl, ?_⟩; have n0_ := Aside0.mk (below_step (by repeat (first | (with_reducible first | exact HB.out | apply below_alloc | apply pw_below_drewN | apply below_drew1) | exact HB.out)) hb); clear HB; have HB := n0_; clear n0_; (try clear hb); (try clear hb2); (try clear hk); (try clear hi)))
    go_ret2
    exact ⟨_, by first | rfl | (simp [errW_none, errW_some] <;> rfl) | (simp [*, errW_none, errW_some] <;> rfl), by first | exact Kd.S_nil _ _ _ _ _ | exact Kd.N_nil _ _ _ _ _ | exact Kd.V_nil _ _ _ _ _ | exact Kd.Q_nil _ _ _ _ _ | exact Kd.R_nil _ _ _ _ _, by repeat (first | (with_reducible first | exact HB.out | apply below_alloc | apply pw_below_drewN | apply below_drew1) | exact HB.out)⟩

end Go.Proofs.Ytcligopbieaceaa.P
