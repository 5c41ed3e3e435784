-- By this session's driver (wip/tools/mk.py) of the kit's print program, over several statements at once. Not trusted: Lean checks it.
import Derived.Test.YtolmicnapemljaaQPx0
import Derived.Test.YtolmicnapemljaaQPx6
import Derived.Test.YtolmicnapemljaaQPx21
import Derived.Test.YtolmicnapemljaaQPx44
namespace Go.Proofs.Ytolmicnapemljaa.P
open Go.RowKit Go.Proofs.YtolmicnapemljaaW.PrintWords Go.Proofs.YtolmicnapemljaaW.PrintLast Go.Proofs.YtolmicnapemljaaW.PrintMore
attribute [local go_sem] max2_int min2_int max_two min_two max_three min_three max_four min_four   -- for this text's walks alone
set_option linter.unusedVariables false
set_option linter.unusedSimpArgs false
open Bool renaming true → T, false → F
theorem bw_45 {n : Nat} {v v' : World} (h : Below n v v' := by repeat (first | (with_reducible first | exact HB.out | apply bwA | apply pbN | apply bwD | refine bwS ?_ GB17.out) | exact HB.out)) : Below n v v' := h
theorem ln_45 {P : Prop} (h : P := by (try simp only [List.map_toArray, List.map_cons, List.map_nil]); first | done | rfl | (simp only [List.length_drop, List.length_take]; rfl)) : P := h

/-! ### impl_FlipEdge: function 41 -/
def impl_FlipEdge.f (k : Nat) (l0 : List (List Int)) (a1 : Int) : Option ((List (List Int)) × Bool) := (impl_CanFlip.f k l0 a1).bind fun t770 => (if t770 = true then ((impl_sideAt.f k l0 a1).bind fun bt771 => ((impl_sideAt.f k l0 (wrap64 (-a1))).bind fun bt773 => (if 0 ≤ bt771.1 then (if bt771.1 < (l0.length : Int) then ((impl_turn.f (rd_L1 l0 bt771.1) bt771.2).bind fun t776 => (if 0 ≤ bt773.1 then (if bt773.1 < (l0.length : Int) then ((impl_turn.f (rd_L1 l0 bt773.1) bt773.2).bind fun t780 => ((impl_copyRows.f k l0).bind fun t783 => (if 2 < (t776.length : Int) then (if 1 < (t780.length : Int) then (if bt771.1 < (t783.length : Int) then (if 2 < (t780.length : Int) then (if 1 < (t776.length : Int) then (if bt773.1 < (t783.length : Int) then (some (((t783.set (bt771.1 : Int).toNat (([a1, rd t776 2, rd t780 1] : List Int))).set (bt773.1 : Int).toNat (([wrap64 (-a1), rd t780 2, rd t776 1] : List Int))), true)) else (none)) else (none)) else (none)) else (none)) else (none)) else (none)))) else (none)) else (none))) else (none)) else (none)))) else (some (([] : List (List Int)), false)))
theorem impl_FlipEdge.mono : ∀ a0 a1 k, LeO (impl_FlipEdge.f k a0 a1) (impl_FlipEdge.f (k + 1) a0 a1) := by
 intro a0 a1 k
 unfold impl_FlipEdge.f
 repeat' first
   | (with_reducible exact impl_CanFlip.mono _ _ _)
   | (with_reducible exact impl_copyRows.mono _ _)
   | (with_reducible exact impl_sideAt.mono _ _ _)
   | (with_reducible exact LeO.refl _)
   | (with_reducible exact LeO.none _)
   | (with_reducible refine LeO.ite ?_ ?_)
   | (with_reducible refine LeO.bind ?_ (fun _ => ?_))
   | exact impl_CanFlip.mono _ _ _
   | exact impl_copyRows.mono _ _
   | exact impl_sideAt.mono _ _ _
   | exact LeO.none _
   | refine LeO.ite ?_ ?_
   | refine LeO.bind ?_ (fun _ => ?_)
def impl_FlipEdge.T5 : Bool × List (List Nat × List Nat) := (true, [([], []), ([], []), ([0, 1], [0, 1]), ([2], [2]), ([], []), ([3, 4], [3, 4]), ([], []), ([], []), ([6, 7], [6, 7]), ([8], [8]), ([], []), ([9, 10, 5], [9, 10]), ([5, 11, 0, 1, 2, 3, 4, 5], [5]), ([11, 12, 0, 1, 2, 3, 4, 5, 6, 7, 8, 9, 10, 11, 12], [11])])
def impl_FlipEdge.B5 : List Nat := [0, 0, 3, 7, 0, 31, 0, 0, 192, 448, 0, 2047, 4095, 8191]
theorem impl_FlipEdge.tab5 : rtab .any (opsOf Try.f41 5) = impl_FlipEdge.T5 := by kernel_rfl
theorem impl_FlipEdge.bits5 : waitsOk impl_FlipEdge.T5.2 impl_FlipEdge.B5 = true := by kernel_rfl
def impl_FlipEdge.T7 : Bool × List (List Nat × List Nat) := (true, [([], []), ([], []), ([], []), ([], []), ([3], [3]), ([4], [4]), ([], []), ([6], [6]), ([7], [7]), ([2, 5, 8], [2, 5, 8]), ([0, 1, 0, 1, 2, 3, 4, 5, 6, 7, 8, 9], [0, 1]), ([10, 9, 0, 1, 2, 3, 4, 5, 6, 7, 8, 9], [9, 10])])
def impl_FlipEdge.B7 : List Nat := [0, 0, 0, 0, 8, 24, 0, 64, 192, 508, 1023, 2047]
theorem impl_FlipEdge.tab7 : rtab .any (opsOf Try.f41 7) = impl_FlipEdge.T7 := by kernel_rfl
theorem impl_FlipEdge.bits7 : waitsOk impl_FlipEdge.T7.2 impl_FlipEdge.B7 = true := by kernel_rfl
def impl_FlipEdge.T8 : Bool × List (List Nat × List Nat) := (true, [([], []), ([], []), ([], []), ([2], [2]), ([], []), ([4], [4]), ([5], [5]), ([], []), ([7], [7]), ([8], [8]), ([3, 6, 9], [3, 6, 9]), ([0, 1, 0, 1, 2, 3, 4, 5, 6, 7, 8, 9, 10], [0, 1]), ([11, 10, 0, 1, 2, 3, 4, 5, 6, 7, 8, 9, 10], [10, 11])])
def impl_FlipEdge.B8 : List Nat := [0, 0, 0, 4, 0, 16, 48, 0, 128, 384, 1020, 2047, 4095]
theorem impl_FlipEdge.tab8 : rtab .any (opsOf Try.f41 8) = impl_FlipEdge.T8 := by kernel_rfl
theorem impl_FlipEdge.bits8 : waitsOk impl_FlipEdge.T8.2 impl_FlipEdge.B8 = true := by kernel_rfl
set_option maxHeartbeats 8000000 in
set_option maxRecDepth 100000 in
theorem impl_FlipEdge.calls (k : Nat) (A0 : Option Addr) (c0 : Nat) (l0 : List (List Int)) (a1 : Int) (r1 : List (List Int)) (r2 : Bool) (w : World) (hr0 : Kd.C (Kd.slice 3 (Kd.int .i64)) w A0 l0.length l0) (hc0 : l0.length ≤ c0) (h : impl_FlipEdge.f k l0 a1 = some (r1, r2)) :
  Calls Try.prog 41 #[.slice A0 l0.length c0, .int .i64 a1] w fun e w' => ∃ v0_ : Value, e = .returned (.tuple #[v0_, .bool r2]) ∧ Kd.S (Kd.slice 3 (Kd.int .i64)) 24 w' w.heap.size (fun _ => True) v0_ r1 ∧ Below w.heap.size w w' := by
 have HR0 := Az.mk hr0
 have HC0 := Az.mk hc0
 clear hr0 hc0
 have HB := Az.mk (Below.refl w.heap.size w)
 have H : ((impl_CanFlip.f k l0 a1).bind fun t770 => (if t770 = true then ((impl_sideAt.f k l0 a1).bind fun bt771 => ((impl_sideAt.f k l0 (wrap64 (-a1))).bind fun bt773 => (if 0 ≤ bt771.1 then (if bt771.1 < (l0.length : Int) then ((impl_turn.f (rd_L1 l0 bt771.1) bt771.2).bind fun t776 => (if 0 ≤ bt773.1 then (if bt773.1 < (l0.length : Int) then ((impl_turn.f (rd_L1 l0 bt773.1) bt773.2).bind fun t780 => ((impl_copyRows.f k l0).bind fun t783 => (if 2 < (t776.length : Int) then (if 1 < (t780.length : Int) then (if bt771.1 < (t783.length : Int) then (if 2 < (t780.length : Int) then (if 1 < (t776.length : Int) then (if bt773.1 < (t783.length : Int) then (some (((t783.set (bt771.1 : Int).toNat (([a1, rd t776 2, rd t780 1] : List Int))).set (bt773.1 : Int).toNat (([wrap64 (-a1), rd t780 2, rd t776 1] : List Int))), true)) else (none)) else (none)) else (none)) else (none)) else (none)) else (none)))) else (none)) else (none))) else (none)) else (none)))) else (some (([] : List (List Int)), false)))) = some (r1, r2) := h
 clear h
 replace H := Option.bind_eq_some_iff.mp H
 obtain ⟨t770, A30, H⟩ := H
 try dsimp only at H
 have A3 := Az.mk A30
 clear A30
 by_cases c4 : t770 = true
 rotate_left
 ·replace c4 := Bool.eq_false_iff.mpr c4
  subst c4
  have H1 : (some (([] : List (List Int)), false)) = some (r1, r2) := by rw [if_neg (show ¬ (false = true) by decide)] at H; exact H
  clear H
  have H := H1
  clear H1
  simp only [Option.some.injEq, Prod.mk.injEq] at H
  obtain ⟨rfl, rfl⟩ := H
  go_enter Try.func41, Try.ntmps41
  go_wp2_with (first | ((with_reducible refine gtC (f := 51) rfl ?_); refine goesL_ (some 15) rfl rfl Try.func51 (by kernel_rfl) rfl #[.slice A0 l0.length c0, .int .i64 a1] rfl ln_45 ?_; (with_reducible refine (impl_CanFlip.calls k _ _ l0 a1 false _ ?side1 ?side2 A3.out).mono ?_); (case side1 => repeat (first | exact HR0.out | (with_reducible refine Kd.C_alloc ?_ _) | (with_reducible refine Kd.C_drewN ?_ _) | (with_reducible refine Kd.C_drew ?_))); (case side2 => exact HC0.out); rintro e w38 ⟨rfl, hb⟩; refine ⟨_, rfl, ?_⟩; have n0_ := Az.mk (bwT bw_45 hb); clear HB; have HB := n0_; clear n0_; (try clear hb); (try clear hb2); (try clear hk); (try clear hi)))
  go_ret2
  exact ⟨_, by first | rfl | (simp [eWn, eWs] <;> rfl) | (simp [*, eWn, eWs] <;> rfl), by first | exact Kd.S_nil _ _ _ _ _ | exact Kd.N_nil _ _ _ _ _ | exact Kd.V_nil _ _ _ _ _ | exact Kd.Q_nil _ _ _ _ _ | exact Kd.R_nil _ _ _ _ _, bw_45⟩
 subst c4
 have H1 : ((impl_sideAt.f k l0 a1).bind fun bt771 => ((impl_sideAt.f k l0 (wrap64 (-a1))).bind fun bt773 => (if 0 ≤ bt771.1 then (if bt771.1 < (l0.length : Int) then ((impl_turn.f (rd_L1 l0 bt771.1) bt771.2).bind fun t776 => (if 0 ≤ bt773.1 then (if bt773.1 < (l0.length : Int) then ((impl_turn.f (rd_L1 l0 bt773.1) bt773.2).bind fun t780 => ((impl_copyRows.f k l0).bind fun t783 => (if 2 < (t776.length : Int) then (if 1 < (t780.length : Int) then (if bt771.1 < (t783.length : Int) then (if 2 < (t780.length : Int) then (if 1 < (t776.length : Int) then (if bt773.1 < (t783.length : Int) then (some (((t783.set (bt771.1 : Int).toNat (([a1, rd t776 2, rd t780 1] : List Int))).set (bt773.1 : Int).toNat (([wrap64 (-a1), rd t780 2, rd t776 1] : List Int))), true)) else (none)) else (none)) else (none)) else (none)) else (none)) else (none)))) else (none)) else (none))) else (none)) else (none)))) = some (r1, r2) := by rw [if_pos rfl] at H; exact H
 clear H
 have H := H1
 clear H1
 replace H := Option.bind_eq_some_iff.mp H
 obtain ⟨⟨t771, t772⟩, A50, H⟩ := H
 try dsimp only at H
 have A5 := Az.mk A50
 clear A50
 replace H := Option.bind_eq_some_iff.mp H
 obtain ⟨⟨t773, t774⟩, A60, H⟩ := H
 try dsimp only at H
 have A6 := Az.mk A60
 clear A60
 by_cases c7 : 0 ≤ t771
 rotate_left
 ·rw [if_neg c7] at H
  exact absurd H (by simp)
 rw [if_pos c7] at H
 have c7b0 : decide (0 ≤ t771) = true := decide_eq_true c7
 clear c7
 by_cases c8 : t771 < (l0.length : Int)
 rotate_left
 ·rw [if_neg c8] at H
  exact absurd H (by simp)
 rw [if_pos c8] at H
 have c8b0 : decide (t771 < (l0.length : Int)) = true := decide_eq_true c8
 clear c8
 replace H := Option.bind_eq_some_iff.mp H
 obtain ⟨t776, A90, H⟩ := H
 try dsimp only at H
 have A9 := Az.mk A90
 clear A90
 by_cases c10 : 0 ≤ t773
 rotate_left
 ·rw [if_neg c10] at H
  exact absurd H (by simp)
 rw [if_pos c10] at H
 have c10b0 : decide (0 ≤ t773) = true := decide_eq_true c10
 clear c10
 by_cases c11 : t773 < (l0.length : Int)
 rotate_left
 ·rw [if_neg c11] at H
  exact absurd H (by simp)
 rw [if_pos c11] at H
 have c11b0 : decide (t773 < (l0.length : Int)) = true := decide_eq_true c11
 clear c11
 replace H := Option.bind_eq_some_iff.mp H
 obtain ⟨t780, A120, H⟩ := H
 try dsimp only at H
 have A12 := Az.mk A120
 clear A120
 replace H := Option.bind_eq_some_iff.mp H
 obtain ⟨t783, A130, H⟩ := H
 try dsimp only at H
 have A13 := Az.mk A130
 clear A130
 by_cases c14 : 2 < (t776.length : Int)
 rotate_left
 ·rw [if_neg c14] at H
  exact absurd H (by simp)
 rw [if_pos c14] at H
 have c14b0 : decide (2 < (t776.length : Int)) = true := decide_eq_true c14
 have c14b1 : decide (2 < t776.length) = true := decide_eq_true (by omega)
 clear c14
 by_cases c15 : 1 < (t780.length : Int)
 rotate_left
 ·rw [if_neg c15] at H
  exact absurd H (by simp)
 rw [if_pos c15] at H
 have c15b0 : decide (1 < (t780.length : Int)) = true := decide_eq_true c15
 have c15b1 : decide (1 < t780.length) = true := decide_eq_true (by omega)
 clear c15
 obtain ⟨y788, hy788⟩ : ∃ y_ : List Int, y_ = (([a1, rd t776 2, rd t780 1] : List Int)) := ⟨_, rfl⟩
 replace H : (if t771 < (t783.length : Int) then (if 2 < (t780.length : Int) then (if 1 < (t776.length : Int) then (if t773 < (t783.length : Int) then (some (((t783.set (t771 : Int).toNat y788).set (t773 : Int).toNat (([wrap64 (-a1), rd t780 2, rd t776 1] : List Int))), true)) else (none)) else (none)) else (none)) else (none)) = some (r1, r2) := by first | (rw [hy788]; with_reducible exact H) | (have H2_ := (Option.bind_some _ _).symm.trans H; rw [hy788]; with_reducible exact H2_) | (have H2_ := (Option.bind_some _ _).symm.trans H; with_reducible exact H2_) | with_reducible exact H | (rw [hy788]; exact H) | exact H
 have Ny788 := Az.mk hy788
 clear hy788
 by_cases c16 : t771 < (t783.length : Int)
 rotate_left
 ·rw [if_neg c16] at H
  exact absurd H (by simp)
 rw [if_pos c16] at H
 have c16b0 : decide (t771 < (t783.length : Int)) = true := decide_eq_true c16
 clear c16
 obtain ⟨y791, hy791⟩ : ∃ y_ : List (List Int), y_ = (t783.set (t771 : Int).toNat y788) := ⟨_, rfl⟩
 replace H : (if 2 < (t780.length : Int) then (if 1 < (t776.length : Int) then (if t773 < (t783.length : Int) then (some ((y791.set (t773 : Int).toNat (([wrap64 (-a1), rd t780 2, rd t776 1] : List Int))), true)) else (none)) else (none)) else (none)) = some (r1, r2) := by first | (rw [hy791]; with_reducible exact H) | (have H2_ := (Option.bind_some _ _).symm.trans H; rw [hy791]; with_reducible exact H2_) | (have H2_ := (Option.bind_some _ _).symm.trans H; with_reducible exact H2_) | with_reducible exact H | (rw [hy791]; exact H) | exact H
 have Ny791 := Az.mk hy791
 clear hy791
 by_cases c18 : 2 < (t780.length : Int)
 rotate_left
 ·rw [if_neg c18] at H
  exact absurd H (by simp)
 rw [if_pos c18] at H
 have c18b0 : decide (2 < (t780.length : Int)) = true := decide_eq_true c18
 have c18b1 : decide (2 < t780.length) = true := decide_eq_true (by omega)
 clear c18
 by_cases c19 : 1 < (t776.length : Int)
 rotate_left
 ·rw [if_neg c19] at H
  exact absurd H (by simp)
 rw [if_pos c19] at H
 have c19b0 : decide (1 < (t776.length : Int)) = true := decide_eq_true c19
 have c19b1 : decide (1 < t776.length) = true := decide_eq_true (by omega)
 clear c19
 obtain ⟨y794, hy794⟩ : ∃ y_ : List Int, y_ = (([wrap64 (-a1), rd t780 2, rd t776 1] : List Int)) := ⟨_, rfl⟩
 replace H : (if t773 < (t783.length : Int) then (some ((y791.set (t773 : Int).toNat y794), true)) else (none)) = some (r1, r2) := by first | (rw [hy794]; with_reducible exact H) | (have H2_ := (Option.bind_some _ _).symm.trans H; rw [hy794]; with_reducible exact H2_) | (have H2_ := (Option.bind_some _ _).symm.trans H; with_reducible exact H2_) | with_reducible exact H | (rw [hy794]; exact H) | exact H
 have Ny794 := Az.mk hy794
 clear hy794
 by_cases c20 : t773 < (t783.length : Int)
 rotate_left
 ·rw [if_neg c20] at H
  exact absurd H (by simp)
 rw [if_pos c20] at H
 have c20b0 : decide (t773 < (t783.length : Int)) = true := decide_eq_true c20
 clear c20
 obtain ⟨y797, hy797⟩ : ∃ y_ : List (List Int), y_ = (y791.set (t773 : Int).toNat y794) := ⟨_, rfl⟩
 replace H : (some (y797, true)) = some (r1, r2) := by first | (rw [hy797]; with_reducible exact H) | (have H2_ := (Option.bind_some _ _).symm.trans H; rw [hy797]; with_reducible exact H2_) | (have H2_ := (Option.bind_some _ _).symm.trans H; with_reducible exact H2_) | with_reducible exact H | (rw [hy797]; exact H) | exact H
 have Ny797 := Az.mk hy797
 clear hy797
 simp only [Option.some.injEq, Prod.mk.injEq] at H
 obtain ⟨rfl, rfl⟩ := H
 go_enter Try.func41, Try.ntmps41
 try go_wp2_with (first | ((with_reducible refine gtC (f := 51) rfl ?_); refine goesL_ (some 15) rfl rfl Try.func51 (by kernel_rfl) rfl #[.slice A0 l0.length c0, .int .i64 a1] rfl ln_45 ?_; (with_reducible refine (impl_CanFlip.calls k _ _ l0 a1 true _ ?side1 ?side2 A3.out).mono ?_); (case side1 => repeat (first | exact HR0.out | (with_reducible refine Kd.C_alloc ?_ _) | (with_reducible refine Kd.C_drewN ?_ _) | (with_reducible refine Kd.C_drew ?_))); (case side2 => exact HC0.out); rintro e w22 ⟨rfl, hb⟩; refine ⟨_, rfl, ?_⟩; have n0_ := Az.mk (bwT bw_45 hb); clear HB; have HB := n0_; clear n0_; (try clear hb); (try clear hb2); (try clear hk); (try clear hi)) | ((with_reducible refine gtC (f := 85) rfl ?_); refine goesL_ (some 20) rfl rfl Try.func85 (by kernel_rfl) rfl #[.slice A0 l0.length c0, .int .i64 a1] rfl ln_45 ?_; (with_reducible refine (impl_sideAt.calls k _ _ l0 a1 t771 t772 _ ?side1 ?side2 A5.out).mono ?_); (case side1 => repeat (first | exact (Kd.C_below HR0.out HB.out) | (with_reducible refine Kd.C_alloc ?_ _) | (with_reducible refine Kd.C_drewN ?_ _) | (with_reducible refine Kd.C_drew ?_))); (case side2 => exact HC0.out); rintro e w' ⟨rfl, ⟨nd, rfl⟩⟩; refine ⟨_, rfl, ?_⟩; (try (rw [drewN_self w22]; generalize hq_ : World.drewN w22 _ = w22; have n0_ : Az (Below w.heap.size w w22) := ⟨by rw [← hq_]; exact bw_45⟩; clear HB hq_; have HB := n0_; clear n0_))) | ((with_reducible refine gtC (f := 85) rfl ?_); refine goesL_ (some 27) rfl rfl Try.func85 (by kernel_rfl) rfl #[.slice A0 l0.length c0, .int .i64 (wrap64 (-a1))] rfl ln_45 ?_; (with_reducible refine (impl_sideAt.calls k _ _ l0 (wrap64 (-a1)) t773 t774 _ ?side1 ?side2 A6.out).mono ?_); (case side1 => repeat (first | exact (Kd.C_below HR0.out HB.out) | (with_reducible refine Kd.C_alloc ?_ _) | (with_reducible refine Kd.C_drewN ?_ _) | (with_reducible refine Kd.C_drew ?_))); (case side2 => exact HC0.out); rintro e w' ⟨rfl, ⟨nd, rfl⟩⟩; refine ⟨_, rfl, ?_⟩; (try (rw [drewN_self w22]; generalize hq_ : World.drewN w22 _ = w22; have n0_ : Az (Below w.heap.size w w22) := ⟨by rw [← hq_]; exact bw_45⟩; clear HB hq_; have HB := n0_; clear n0_))))
 have n0_ := Az.mk (bwD HB.out)
 clear HB
 have HB := n0_
 clear n0_
 have p775 : 0 ≤ (t771 : Int) := of_decide_eq_true (by first | (with_reducible assumption) | assumption)
 have q775 : t771 < (l0.length : Int) := of_decide_eq_true (by first | (with_reducible assumption) | assumption)
 obtain ⟨ad775, A775_0, c775_0, e775, hx775_0, hl775_0, hi775_0⟩ := at_L1 HR0.out t771 p775 q775
 have hw775_0 := hx775_0
 cases e775
 replace hx775_0 := (HB.out.cell (World.block_lt_of_cell? w _ hx775_0)).trans hx775_0
 have HR775_0 := Az.mk hi775_0
 have HC775_0 := Az.mk hl775_0
 clear hi775_0 hl775_0
 replace p775 := eq_true p775
 replace q775 := eq_true q775
 have p779 : 0 ≤ (t773 : Int) := of_decide_eq_true (by first | (with_reducible assumption) | assumption)
 have q779 : t773 < (l0.length : Int) := of_decide_eq_true (by first | (with_reducible assumption) | assumption)
 obtain ⟨ad779, A779_0, c779_0, e779, hx779_0, hl779_0, hi779_0⟩ := at_L1 HR0.out t773 p779 q779
 have hw779_0 := hx779_0
 obtain rfl : ad775 = ad779 := (by injection e779)
 replace hx779_0 := (HB.out.cell (World.block_lt_of_cell? w _ hx779_0)).trans hx779_0
 have HR779_0 := Az.mk hi779_0
 have HC779_0 := Az.mk hl779_0
 clear hi779_0 hl779_0
 replace p779 := eq_true p779
 replace q779 := eq_true q779
 refine start_ (n := 14) (S := fun w' => w'.cell? (ad775.add (t771).toNat) = some (.slice A775_0 (rd_L1 l0 t771).length c775_0) ∧ w'.cell? (ad775.add (t773).toNat) = some (.slice A779_0 (rd_L1 l0 t773).length c779_0)) (ds := []) #[F,F,F,F,F,F,F,F,F,F,F,F,F,F] (by kernel_rfl) rfl rfl ⟨((HB.out.cell (World.block_lt_of_cell? w _ hw775_0)).trans hw775_0), ((HB.out.cell (World.block_lt_of_cell? w _ hw779_0)).trans hw779_0)⟩ (fun hHeld => ?_); refine with_tabW impl_FlipEdge.tab5 impl_FlipEdge.bits5 (fun HT_ HW_ => ?_)
 generalize w22.drew = w23 at HB HR775_0 HR779_0 hx775_0 hx779_0 hHeld ⊢
 refine pure_ (i := 0) (N := some 30) (v := ?_) (a' := ?_) #[T,F,F,F,F,F,F,F,F,F,F,F,F,F] rfl rfl (any_of HT_.out (by kernel_rfl)) (fun _ _ _ h => h) (Or.inl ⟨by rfl, ?_⟩) ?_ ?_
 rotate_left
 ·intro w'
  go_simp
  with_reducible rfl
 rotate_left
 ·simp only [Act.put, List.setIfInBounds_toArray, List.set_cons_zero, List.set_cons_succ, i64_w, i32_w]
  rfl
 refine pure_ (i := 1) (N := some 31) (v := ?_) (a' := ?_) #[T,T,F,F,F,F,F,F,F,F,F,F,F,F] rfl rfl (any_of HT_.out (by kernel_rfl)) (fun _ _ _ h => h) (Or.inl ⟨by rfl, ?_⟩) ?_ ?_
 rotate_left
 ·intro w'
  go_simp
  with_reducible rfl
 rotate_left
 ·simp only [Act.put, List.setIfInBounds_toArray, List.set_cons_zero, List.set_cons_succ, i64_w, i32_w]
  rfl
 refine pure_ (i := 2) (N := some 32) (v := ?_) (a' := ?_) #[T,T,T,F,F,F,F,F,F,F,F,F,F,F] rfl rfl (any_of HT_.out (by kernel_rfl)) (fun _ _ _ h => h) (Or.inl ⟨by rfl, ?_⟩) ?_ ?_
 rotate_left
 ·intro w'
  go_simp
  with_reducible rfl
 rotate_left
 ·simp only [Act.put, List.setIfInBounds_toArray, List.set_cons_zero, List.set_cons_succ, i64_w, i32_w]
  rfl
 refine pure_ (i := 4) (N := some 34) (v := ?_) (a' := ?_) #[T,T,T,F,T,F,F,F,F,F,F,F,F,F] rfl rfl (any_of HT_.out (by kernel_rfl)) (fun _ _ _ h => h) (Or.inl ⟨by rfl, ?_⟩) ?_ ?_
 rotate_left
 ·intro w'
  go_simp
  with_reducible rfl
 rotate_left
 ·simp only [Act.put, List.setIfInBounds_toArray, List.set_cons_zero, List.set_cons_succ, i64_w, i32_w]
  rfl
 refine pure_ (i := 6) (N := some 36) (v := ?_) (a' := ?_) #[T,T,T,F,T,F,T,F,F,F,F,F,F,F] rfl rfl (any_of HT_.out (by kernel_rfl)) (fun _ _ _ h => h) (Or.inl ⟨by rfl, ?_⟩) ?_ ?_
 rotate_left
 ·intro w'
  go_simp
  with_reducible rfl
 rotate_left
 ·simp only [Act.put, List.setIfInBounds_toArray, List.set_cons_zero, List.set_cons_succ, i64_w, i32_w]
  rfl
 refine pure_ (i := 7) (N := some 37) (v := ?_) (a' := ?_) #[T,T,T,F,T,F,T,T,F,F,F,F,F,F] rfl rfl (any_of HT_.out (by kernel_rfl)) (fun _ _ _ h => h) (Or.inl ⟨by rfl, ?_⟩) ?_ ?_
 rotate_left
 ·intro w'
  go_simp
  with_reducible rfl
 rotate_left
 ·simp only [Act.put, List.setIfInBounds_toArray, List.set_cons_zero, List.set_cons_succ, i64_w, i32_w]
  rfl
 refine pure_ (i := 8) (N := some 38) (v := ?_) (a' := ?_) #[T,T,T,F,T,F,T,T,T,F,F,F,F,F] rfl rfl (any_of HT_.out (by kernel_rfl)) (fun _ _ _ h => h) (Or.inl ⟨by rfl, ?_⟩) ?_ ?_
 rotate_left
 ·intro w'
  go_simp
  with_reducible rfl
 rotate_left
 ·simp only [Act.put, List.setIfInBounds_toArray, List.set_cons_zero, List.set_cons_succ, i64_w, i32_w]
  rfl
 refine pure_ (i := 10) (N := some 40) (v := ?_) (a' := ?_) #[T,T,T,F,T,F,T,T,T,F,T,F,F,F] rfl rfl (any_of HT_.out (by kernel_rfl)) (fun _ _ _ h => h) (Or.inl ⟨by rfl, ?_⟩) ?_ ?_
 rotate_left
 ·intro w'
  go_simp
  with_reducible rfl
 rotate_left
 ·simp only [Act.put, List.setIfInBounds_toArray, List.set_cons_zero, List.set_cons_succ, i64_w, i32_w]
  rfl
 refine take_ (i := 3) (N := some 33) (v := ?_) (a' := ?_) #[T,T,T,T,T,F,T,T,T,F,T,F,F,F] rfl rfl (take_ofW HT_.out HW_.out (by kernel_rfl)) (fun _ _ _ h => h) (Or.inl ⟨by rfl, ?_⟩) hHeld ?_ ?_
 rotate_left
 ·rintro w' ⟨s0, s1⟩
  go_simp
  with_reducible rfl
 rotate_left
 ·simp only [Act.put, List.setIfInBounds_toArray, List.set_cons_zero, List.set_cons_succ, i64_w, i32_w]
  rfl
 refine take_ (i := 9) (N := some 39) (v := ?_) (a' := ?_) #[T,T,T,T,T,F,T,T,T,T,T,F,F,F] rfl rfl (take_ofW HT_.out HW_.out (by kernel_rfl)) (fun _ _ _ h => h) (Or.inl ⟨by rfl, ?_⟩) hHeld ?_ ?_
 rotate_left
 ·rintro w' ⟨s0, s1⟩
  go_simp
  with_reducible rfl
 rotate_left
 ·simp only [Act.put, List.setIfInBounds_toArray, List.set_cons_zero, List.set_cons_succ, i64_w, i32_w]
  rfl
 refine one_ (i := 5) (N := some 35) #[T,T,T,T,T,T,T,T,T,T,T,F,F,F] rfl rfl (one_of HT_.out (by kernel_rfl)) (by decide) (fun K hK => ?_)
 refine goes_ Try.func86 (by kernel_rfl) rfl #[.slice A775_0 (rd_L1 l0 t771).length c775_0, .int .i64 t772] (by rfl) rfl rfl ln_45 ?_
 with_reducible refine (impl_turn.calls _ _ (rd_L1 l0 t771) t772 t776 _ ?side1 ?side2 A9.out).mono ?_
 (case side1 => repeat (first | exact (Kd.C_below HR775_0.out HB.out) | (with_reducible refine Kd.C_alloc ?_ _) | (with_reducible refine Kd.C_drewN ?_ _) | (with_reducible refine Kd.C_drew ?_)))
 (case side2 => exact HC775_0.out)
 rintro e w24 ⟨v777, rfl, ho0, hb⟩
 refine ⟨_, rfl, ?_⟩
 have n0_ := Az.mk (Kd.R_lower (Kd.R_newM (M := fun k_ => (w.heap.size ≤ k_)) ho0 (bwZ bw_45) (fun k_ h_ => h_)) (bwZ bw_45))
 have n1_ := Az.mk (bwT bw_45 hb)
 clear HB
 have HO778 := n0_
 have HB := n1_
 clear n0_ n1_
 (try clear hb)
 (try clear hb2)
 (try clear hk)
 (try clear hi)
 (try clear ho0)
 refine hK.out _ _ ⟨((HB.out.cell (World.block_lt_of_cell? w _ hw775_0)).trans hw775_0), ((HB.out.cell (World.block_lt_of_cell? w _ hw779_0)).trans hw779_0)⟩ (fun hHeld => ?_)
 clear hK K
 refine norm_ (a' := ?_) ?_ ?_
 rotate_left
 ·show Act.put _ (some 35) _ = _
  simp only [Act.put, List.setIfInBounds_toArray, List.set_cons_zero, List.set_cons_succ, i64_w, i32_w]
  rfl
 refine one_ (i := 11) (N := some 41) #[T,T,T,T,T,T,T,T,T,T,T,T,F,F] rfl rfl (one_of HT_.out (by kernel_rfl)) (by decide) (fun K hK => ?_)
 refine goes_ Try.func86 (by kernel_rfl) rfl #[.slice A779_0 (rd_L1 l0 t773).length c779_0, .int .i64 t774] (by rfl) rfl rfl ln_45 ?_
 with_reducible refine (impl_turn.calls _ _ (rd_L1 l0 t773) t774 t780 _ ?side1 ?side2 A12.out).mono ?_
 (case side1 => repeat (first | exact (Kd.C_below HR779_0.out HB.out) | (with_reducible refine Kd.C_alloc ?_ _) | (with_reducible refine Kd.C_drewN ?_ _) | (with_reducible refine Kd.C_drew ?_)))
 (case side2 => exact HC779_0.out)
 rintro e w25 ⟨v781, rfl, ho0, hb⟩
 refine ⟨_, rfl, ?_⟩
 have n0_ := Az.mk (Kd.R_elder' (by (with_reducible repeat (first | apply Kd.R_alloc | apply Kd.R_drewN | apply Kd.R_drew)); exact HO778.out) (Kd.R_base ho0) hb)
 have n1_ := Az.mk (Kd.R_lower (Kd.R_new' (Kd.R_newM (M := fun k_ => (w.heap.size ≤ k_)) ho0 (bwZ bw_45) (fun k_ h_ => h_)) (Kd.R_lt (by (with_reducible repeat (first | apply Kd.R_alloc | apply Kd.R_drewN | apply Kd.R_drew)); exact HO778.out))) (bwZ bw_45))
 have n2_ := Az.mk (bwT bw_45 hb)
 clear HO778
 clear HB
 have HO778 := n0_
 have HO782 := n1_
 have HB := n2_
 clear n0_ n1_ n2_
 (try clear hb)
 (try clear hb2)
 (try clear hk)
 (try clear hi)
 (try clear ho0)
 refine hK.out _ _ ⟨((HB.out.cell (World.block_lt_of_cell? w _ hw775_0)).trans hw775_0), ((HB.out.cell (World.block_lt_of_cell? w _ hw779_0)).trans hw779_0)⟩ (fun hHeld => ?_)
 clear hK K
 refine norm_ (a' := ?_) ?_ ?_
 rotate_left
 ·show Act.put _ (some 41) _ = _
  simp only [Act.put, List.setIfInBounds_toArray, List.set_cons_zero, List.set_cons_succ, i64_w, i32_w]
  rfl
 refine pure_ (i := 12) (N := some 10) (v := ?_) (a' := ?_) #[T,T,T,T,T,T,T,T,T,T,T,T,T,F] rfl rfl (any_of HT_.out (by kernel_rfl)) (fun _ _ _ h => h) (Or.inl ⟨by rfl, ?_⟩) ?_ ?_
 rotate_left
 ·intro w'
  go_simp
  with_reducible rfl
 rotate_left
 ·simp only [Act.put, List.setIfInBounds_toArray, List.set_cons_zero, List.set_cons_succ, i64_w, i32_w]
  rfl
 refine pure_ (i := 13) (N := some 11) (v := ?_) (a' := ?_) #[T,T,T,T,T,T,T,T,T,T,T,T,T,T] rfl rfl (any_of HT_.out (by kernel_rfl)) (fun _ _ _ h => h) (Or.inl ⟨by rfl, ?_⟩) ?_ ?_
 rotate_left
 ·intro w'
  go_simp
  with_reducible rfl
 rotate_left
 ·simp only [Act.put, List.setIfInBounds_toArray, List.set_cons_zero, List.set_cons_succ, i64_w, i32_w]
  rfl
 refine done_ (done_of HT_.out (by kernel_rfl)) ?_
 try go_wp2_with (first | ((with_reducible refine gtC (f := 107) rfl ?_); refine goesL_ (some 43) rfl rfl Try.func107 (by kernel_rfl) rfl #[.slice (some ad775) l0.length c0] rfl ln_45 ?_; (with_reducible refine (impl_copyRows.calls k _ _ l0 t783 _ ?side1 ?side2 A13.out).mono ?_); (case side1 => repeat (first | exact (Kd.C_below HR0.out HB.out) | (with_reducible refine Kd.C_alloc ?_ _) | (with_reducible refine Kd.C_drewN ?_ _) | (with_reducible refine Kd.C_drew ?_))); (case side2 => exact HC0.out); rintro e w26 ⟨v784, rfl, ho0, hb⟩; refine ⟨_, rfl, ?_⟩; have n0_ := Az.mk (Kd.R_below (by (with_reducible repeat (first | apply Kd.R_alloc | apply Kd.R_drewN | apply Kd.R_drew)); exact HO778.out) hb); have n1_ := Az.mk (Kd.R_below (by (with_reducible repeat (first | apply Kd.R_alloc | apply Kd.R_drewN | apply Kd.R_drew)); exact HO782.out) hb); have n2_ := Az.mk (Kd.S_lower ho0 (bwZ bw_45)); have n3_ := Az.mk (bwT bw_45 hb); clear HO778; clear HO782; clear HB; have HO778 := n0_; have HO782 := n1_; have HO785 := n2_; have HB := n3_; clear n0_ n1_ n2_ n3_; (try clear hb); (try clear hb2); (try clear hk); (try clear hi); (try clear ho0)))
 have n0_ := Az.mk (Kd.R_drew HO778.out)
 have n1_ := Az.mk (Kd.R_drew HO782.out)
 have n2_ := Az.mk (Kd.S_drew HO785.out)
 have n3_ := Az.mk (bwD HB.out)
 clear HO778
 clear HO782
 clear HO785
 clear HB
 have HO778 := n0_
 have HO782 := n1_
 have HO785 := n2_
 have HB := n3_
 clear n0_ n1_ n2_ n3_
 obtain ⟨Ao28, co28, eo28⟩ := Kd.R_slice HO778.out
 (first | subst eo28 | (injection eo28 with f1_ f2_ f3_; have f4_ := f1_.symm; have f5_ := f3_.symm; clear f1_ f2_ f3_; subst f4_; subst f5_))
 have p786 : 0 ≤ (2 : Int) := (by omega)
 have q786 : 2 < (t776.length : Int) := of_decide_eq_true (by first | (with_reducible assumption) | assumption)
 obtain ⟨ad786, e786, hx786_0⟩ := Kd.at_int (Kd.R_reads' HO778.out).2.2 2 p786 q786
 cases e786
 (try simp only [show (2 : Int).toNat = 2 from rfl, Nat.reduceMul, Nat.reduceEqDiff, Go.Addr.add, ↓reduceIte] at hx786_0)
 have qi786 : (2 < t776.length) = True := eq_true (by omega)
 (try rw [show ((2 : Int)).toNat = 2 from rfl] at hx786_0)
 replace p786 := eq_true p786
 replace q786 := eq_true q786
 obtain ⟨Ao29, co29, eo29⟩ := Kd.R_slice HO782.out
 (first | subst eo29 | (injection eo29 with f1_ f2_ f3_; have f4_ := f1_.symm; have f5_ := f3_.symm; clear f1_ f2_ f3_; subst f4_; subst f5_))
 have p787 : 0 ≤ (1 : Int) := (by omega)
 have q787 : 1 < (t780.length : Int) := of_decide_eq_true (by first | (with_reducible assumption) | assumption)
 obtain ⟨ad787, e787, hx787_0⟩ := Kd.at_int (Kd.R_reads' HO782.out).2.2 1 p787 q787
 cases e787
 (try simp only [show (1 : Int).toNat = 1 from rfl, Nat.reduceMul, Nat.reduceEqDiff, Go.Addr.add, ↓reduceIte] at hx787_0)
 have qi787 : (1 < t780.length) = True := eq_true (by omega)
 (try rw [show ((1 : Int)).toNat = 1 from rfl] at hx787_0)
 replace p787 := eq_true p787
 replace q787 := eq_true q787
 refine start_ (n := 12) (S := fun w' => w'.cell? ⟨ad786.block, ad786.off + 2, none⟩ = some (.int .i64 (rd t776 2)) ∧ w'.cell? ⟨ad787.block, ad787.off + 1, none⟩ = some (.int .i64 (rd t780 1))) (ds := [11]) #[F,F,F,F,F,F,F,F,F,F,F,F] (by kernel_rfl) rfl rfl ⟨hx786_0, hx787_0⟩ (fun hHeld => ?_); refine with_tabW impl_FlipEdge.tab7 impl_FlipEdge.bits7 (fun HT_ HW_ => ?_)
 generalize w26.drew = w27 at HO778 HO782 HO785 HB hx786_0 hx787_0 hHeld ⊢
 refine pure_ (i := 0) (N := some 44) (v := ?_) (a' := ?_) #[T,F,F,F,F,F,F,F,F,F,F,F] rfl rfl (any_of HT_.out (by kernel_rfl)) (fun _ _ _ h => h) (Or.inl ⟨by rfl, ?_⟩) ?_ ?_
 rotate_left
 ·intro w'
  go_simp
  with_reducible rfl
 rotate_left
 ·simp only [Act.put, List.setIfInBounds_toArray, List.set_cons_zero, List.set_cons_succ, i64_w, i32_w]
  rfl
 refine pure_ (i := 1) (N := some 45) (v := ?_) (a' := ?_) #[T,T,F,F,F,F,F,F,F,F,F,F] rfl rfl (any_of HT_.out (by kernel_rfl)) (fun _ _ _ h => h) (Or.inl ⟨by rfl, ?_⟩) ?_ ?_
 rotate_left
 ·intro w'
  go_simp
  with_reducible rfl
 rotate_left
 ·simp only [Act.put, List.setIfInBounds_toArray, List.set_cons_zero, List.set_cons_succ, i64_w, i32_w]
  rfl
 refine pure_ (i := 2) (N := some 46) (v := ?_) (a' := ?_) #[T,T,T,F,F,F,F,F,F,F,F,F] rfl rfl (any_of HT_.out (by kernel_rfl)) (fun _ _ _ h => h) (Or.inl ⟨by rfl, ?_⟩) ?_ ?_
 rotate_left
 ·intro w'
  go_simp
  with_reducible rfl
 rotate_left
 ·simp only [Act.put, List.setIfInBounds_toArray, List.set_cons_zero, List.set_cons_succ, i64_w, i32_w]
  rfl
 refine pure_ (i := 3) (N := some 47) (v := ?_) (a' := ?_) #[T,T,T,T,F,F,F,F,F,F,F,F] rfl rfl (any_of HT_.out (by kernel_rfl)) (fun _ _ _ h => h) (Or.inl ⟨by rfl, ?_⟩) ?_ ?_
 rotate_left
 ·intro w'
  go_simp
  with_reducible rfl
 rotate_left
 ·simp only [Act.put, List.setIfInBounds_toArray, List.set_cons_zero, List.set_cons_succ, i64_w, i32_w]
  rfl
 refine pure_ (i := 4) (N := some 48) (v := ?_) (a' := ?_) #[T,T,T,T,T,F,F,F,F,F,F,F] rfl rfl (any_of HT_.out (by kernel_rfl)) (fun _ _ _ h => h) (Or.inl ⟨by rfl, ?_⟩) ?_ ?_
 rotate_left
 ·intro w'
  go_simp
  with_reducible rfl
 rotate_left
 ·simp only [Act.put, List.setIfInBounds_toArray, List.set_cons_zero, List.set_cons_succ, i64_w, i32_w]
  rfl
 refine pure_ (i := 6) (N := some 50) (v := ?_) (a' := ?_) #[T,T,T,T,T,F,T,F,F,F,F,F] rfl rfl (any_of HT_.out (by kernel_rfl)) (fun _ _ _ h => h) (Or.inl ⟨by rfl, ?_⟩) ?_ ?_
 rotate_left
 ·intro w'
  go_simp
  with_reducible rfl
 rotate_left
 ·simp only [Act.put, List.setIfInBounds_toArray, List.set_cons_zero, List.set_cons_succ, i64_w, i32_w]
  rfl
 refine pure_ (i := 7) (N := some 51) (v := ?_) (a' := ?_) #[T,T,T,T,T,F,T,T,F,F,F,F] rfl rfl (any_of HT_.out (by kernel_rfl)) (fun _ _ _ h => h) (Or.inl ⟨by rfl, ?_⟩) ?_ ?_
 rotate_left
 ·intro w'
  go_simp
  with_reducible rfl
 rotate_left
 ·simp only [Act.put, List.setIfInBounds_toArray, List.set_cons_zero, List.set_cons_succ, i64_w, i32_w]
  rfl
 refine take_ (i := 5) (N := some 49) (v := ?_) (a' := ?_) #[T,T,T,T,T,T,T,T,F,F,F,F] rfl rfl (take_ofW HT_.out HW_.out (by kernel_rfl)) (fun _ _ _ h => h) (Or.inl ⟨by rfl, ?_⟩) hHeld ?_ ?_
 rotate_left
 ·rintro w' ⟨s0, s1⟩
  go_simp
  with_reducible rfl
 rotate_left
 ·simp only [Act.put, List.setIfInBounds_toArray, List.set_cons_zero, List.set_cons_succ, i64_w, i32_w]
  rfl
 refine take_ (i := 8) (N := some 52) (v := ?_) (a' := ?_) #[T,T,T,T,T,T,T,T,T,F,F,F] rfl rfl (take_ofW HT_.out HW_.out (by kernel_rfl)) (fun _ _ _ h => h) (Or.inl ⟨by rfl, ?_⟩) hHeld ?_ ?_
 rotate_left
 ·rintro w' ⟨s0, s1⟩
  go_simp
  with_reducible rfl
 rotate_left
 ·simp only [Act.put, List.setIfInBounds_toArray, List.set_cons_zero, List.set_cons_succ, i64_w, i32_w]
  rfl
 refine one_ (i := 9) (N := some 53) #[T,T,T,T,T,T,T,T,T,T,F,F] rfl rfl (one_of HT_.out (by kernel_rfl)) (by decide) (fun K hK => ?_)
 refine Kd.R_lit_step (Kd.int .i64) _ 3 ?hg (N := 53) ?hd (xs := ([a1, rd t776 2, rd t780 1] : List Int)) (inner := [.int .i64 a1, .int .i64 (rd t776 2), .int .i64 (rd t780 1)]) (ok := fun _ => True) (okp := fun _ => True) ?hr ?hp (fun _ hk => hk) trivial (Below.refl _ _) (Nat.le_refl _) (by simp) ?_; (case hd => rfl); (case hg => rfl); (case hr => first | (go_simp; done) | (go_simp; rfl)); (case hp => exact (Reps.one (show Kd.M (Kd.int .i64) _ _ _ a1 [.int .i64 a1] from rfl) (Reps.one (show Kd.M (Kd.int .i64) _ _ _ (rd t776 2) [.int .i64 (rd t776 2)] from rfl) (Reps.one (show Kd.M (Kd.int .i64) _ _ _ (rd t780 1) [.int .i64 (rd t780 1)] from rfl) (Reps.none _ _)))))
 intro v789 w30 ho31 hb hg_ hnew_
 have HS0_ := (hb.cell (World.block_lt_of_cell? _ _ (hHeld.1))).trans (hHeld.1)
 have HS1_ := (hb.cell (World.block_lt_of_cell? _ _ (hHeld.2))).trans (hHeld.2)
 clear hg_ hnew_
 (first | rw [← Ny788.out] at ho31 | (simp only [Int.reduceToNat] at ho31; rw [← Ny788.out] at ho31))
 have n0_ := Az.mk (Kd.R_elder' (by (with_reducible repeat (first | apply Kd.R_alloc | apply Kd.R_drewN | apply Kd.R_drew)); exact HO778.out) (Kd.R_base ho31) hb)
 have n1_ := Az.mk (Kd.R_elder' (by (with_reducible repeat (first | apply Kd.R_alloc | apply Kd.R_drewN | apply Kd.R_drew)); exact HO782.out) (Kd.R_base ho31) hb)
 have n2_ := Az.mk (Kd.S_elder' (by (with_reducible repeat (first | apply Kd.S_alloc | apply Kd.S_drewN | apply Kd.S_drew)); exact HO785.out) (Kd.R_base ho31) hb)
 have n3_ := Az.mk (Kd.R_lower (Kd.R_new' (Kd.R_new' (Kd.R_newM (M := fun k_ => (w.heap.size ≤ k_)) ho31 (bwZ bw_45) (fun k_ h_ => h_)) (Kd.R_lt (by (with_reducible repeat (first | apply Kd.R_alloc | apply Kd.R_drewN | apply Kd.R_drew)); exact HO778.out))) (Kd.R_lt (by (with_reducible repeat (first | apply Kd.R_alloc | apply Kd.R_drewN | apply Kd.R_drew)); exact HO782.out))) (bwZ bw_45))
 have n4_ := Az.mk (bwT bw_45 hb)
 clear HO778
 clear HO782
 clear HO785
 clear HB
 have HO778 := n0_
 have HO782 := n1_
 have HO785 := n2_
 have HO790 := n3_
 have HB := n4_
 clear n0_ n1_ n2_ n3_ n4_
 clear hb ho31
 have p17 : 0 ≤ (t771 : Int) := of_decide_eq_true (by first | (with_reducible assumption) | assumption)
 have q17 : (t771 : Int) < ((t783.length : Int) : Int) := of_decide_eq_true (by first | (with_reducible assumption) | assumption)
 obtain ⟨go17, co17, eo17, gb17, gl17, cl17, HG17⟩ := Kd.S_form HO785.out (by omega)
 (first | cases eo17 | (injection eo17 with ea_ en_ ec_; (first | subst ea_ | (injection ea_ with ea_; subst ea_)); subst ec_; clear en_))
 have GB17 := Az.mk gb17
 have GG17 := Az.mk HG17
 clear gb17 gl17 HG17
 obtain ⟨oi_ce17, ce17, hcl17, hM17, hcc17, hfr17, ho_ce17, hH_ce17⟩ := Kd.S_elem HO785.out [] (t771 : Int) p17 q17
 obtain ⟨ua17_0, rfl, ge17_0⟩ := hM17
 have hx17_0 := hcc17 0 _ rfl
 have hf17_0 := hfr17 0
 (try simp only [show ((Kd.slice 3 (Kd.int .i64))).sz = 1 from rfl, Nat.mul_one, Nat.add_zero] at hx17_0)
 (try simp only [show ((Kd.slice 3 (Kd.int .i64))).sz = 1 from rfl, Nat.mul_one, Nat.add_zero] at hf17_0)
 (try clear hcl17); (try clear hcc17); (try clear hfr17); (try clear hM17)
 replace p17 := eq_true p17
 replace q17 := eq_true q17
 obtain ⟨oi_ce32, ce32, hcl32, hM32, hcc32, hfr32, ho_ce32, hH_ce32⟩ := Kd.S_elem HO785.out [] (t771 : Int) (of_decide_eq_true (by first | (with_reducible assumption) | assumption)) (by have h_ : (t771 : Int) < ((t783.length : Int) : Int) := of_decide_eq_true (by first | (with_reducible assumption) | assumption); first | exact h_ | (have e_ := (Kd.S_reads' HO785.out).1; omega) | simpa using h_)
 obtain ⟨ua32_0, rfl, ge32_0⟩ := hM32
 have HP32 := (Kd.S_seg (ok := fun _ => True) (okg := fun k_ => some k_ = (v789 : Value).ownBlock) (okp := fun k_ => some k_ = (v789 : Value).ownBlock) hH_ce32 (of_decide_eq_true (by first | (with_reducible assumption) | assumption)) (by have h_ : (t771 : Int) < ((t783.length : Int) : Int) := of_decide_eq_true (by first | (with_reducible assumption) | assumption); first | exact h_ | (have e_ := (Kd.S_reads' HO785.out).1; omega) | simpa using h_) (seg := [v789]) (j := 0) (show 0 + 1 ≤ 1 from by decide) (x' := y788) ⟨v789, rfl, Kd.R_reok rfl HO790.out (fun k_ e_ => e_.symm)⟩ (fun k_ hk => .inr hk) (fun k_ hk => ⟨trivial, fun e_ => ((Kd.S_R HO785.out).1 go17 rfl).2 (e_ ▸ hk)⟩)).1
 (try simp only [show ((Kd.slice 3 (Kd.int .i64))).sz = 1 from rfl, Nat.mul_one, Nat.add_zero] at HP32)
 rw [← Ny791.out] at HP32
 have HQ32 := Az.mk HP32
 (try clear hcl32); (try clear hcc32); (try clear hfr32); (try clear hM32); (try clear HP32)
 refine hK.out _ _ ⟨HS0_, HS1_⟩ (fun hHeld => ?_)
 clear hK K
 refine norm_ (a' := ?_) ?_ ?_
 rotate_left
 ·show Act.put _ (some 53) _ = _
  simp only [Act.put, List.setIfInBounds_toArray, List.set_cons_zero, List.set_cons_succ, i64_w, i32_w]
  rfl
 refine pure_ (i := 10) (N := some 54) (v := ?_) (a' := ?_) #[T,T,T,T,T,T,T,T,T,T,T,F] rfl rfl (any_of HT_.out (by kernel_rfl)) (fun _ _ _ h => h) (Or.inl ⟨by rfl, ?_⟩) ?_ ?_
 rotate_left
 ·intro w'
  go_simp
  with_reducible rfl
 rotate_left
 ·simp only [Act.put, List.setIfInBounds_toArray, List.set_cons_zero, List.set_cons_succ, i64_w, i32_w]
  rfl
 refine last_ (i := 11) (N := none) #[T,T,T,T,T,T,T,T,T,T,T,T] rfl rfl (one_of HT_.out (by kernel_rfl)) (by decide) (fun K hK => ?_)
 refine skip_ (w1 := w30.setCell ⟨go17, (t771 : Int).toNat, none⟩ (v789)) (by rfl) rfl ?_ ?_
 ·obtain ⟨Av_, cv_, ev_⟩ := Kd.R_slice HO790.out
  subst ev_
  first | (go_simp; done) | (go_simp; rfl)
 refine hK.out _ _ ?_
 clear hK K
 refine done_ (done_of HT_.out (by kernel_rfl)) ?_
 try go_wp2
 have n0_ : Az (Kd.R (Kd.int .i64) 3 (w30.setCell ⟨go17, (t771 : Int).toNat, none⟩ (v789)) w.heap.size (fun k_ => (w.heap.size ≤ k_) ∧ some k_ ≠ (.slice (some ad787) t780.length co29 : Value).ownBlock) (.slice (some ad786) t776.length co28) t776) := ⟨by (with_reducible repeat (first | apply Kd.R_alloc | apply Kd.R_drewN | apply Kd.R_drew)); exact Kd.R_mono (Kd.R_far (p := ⟨go17, (t771 : Int).toNat, none⟩) (Kd.R_types HO778.out GG17.out (by decide)) (fun _ hk => hk.2) (v789)) (fun _ hk => ⟨hk.1.1.1.1, hk.1.1.2⟩)⟩
 have n1_ : Az (Kd.R (Kd.int .i64) 3 (w30.setCell ⟨go17, (t771 : Int).toNat, none⟩ (v789)) w.heap.size (fun k_ => (w.heap.size ≤ k_) ∧ some k_ ≠ (.slice (some ad786) t776.length co28 : Value).ownBlock) (.slice (some ad787) t780.length co29) t780) := ⟨by (with_reducible repeat (first | apply Kd.R_alloc | apply Kd.R_drewN | apply Kd.R_drew)); exact Kd.R_mono (Kd.R_far (p := ⟨go17, (t771 : Int).toNat, none⟩) (Kd.R_types HO782.out GG17.out (by decide)) (fun _ hk => hk.2) (v789)) (fun _ hk => ⟨hk.1.1.1.1, hk.1.1.2⟩)⟩
 have n2_ : Az (Kd.S (Kd.slice 3 (Kd.int .i64)) 24 (w30.setCell ⟨go17, (t771 : Int).toNat, none⟩ (v789)) w.heap.size (fun _ => True) (.slice (some ⟨go17, 0, none⟩) t783.length co17) y791) := ⟨by (with_reducible repeat (first | apply Kd.S_alloc | apply Kd.S_drewN | apply Kd.S_drew)); exact HQ32.out⟩
 have n3_ : Az (Below w.heap.size w (w30.setCell ⟨go17, (t771 : Int).toNat, none⟩ (v789))) := ⟨by repeat (first | (with_reducible first | exact HB.out | apply bwA | apply pbN | apply bwD | refine bwS ?_ GB17.out) | exact HB.out)⟩
 (try clear HO778)
 (try clear HO782)
 (try clear HO785)
 (try clear HB)
 generalize (w30.setCell ⟨go17, (t771 : Int).toNat, none⟩ (v789)) = w33 at n0_ n1_ n2_ n3_ ⊢
 have HO778 := n0_
 have HO782 := n1_
 have HO785 := n2_
 have HB := n3_
 clear n0_ n1_ n2_ n3_
 have n0_ := Az.mk (Kd.R_drew HO778.out)
 have n1_ := Az.mk (Kd.R_drew HO782.out)
 have n2_ := Az.mk (Kd.S_drew HO785.out)
 have n3_ := Az.mk (bwD HB.out)
 clear HO778
 clear HO782
 clear HO785
 clear HB
 have HO778 := n0_
 have HO782 := n1_
 have HO785 := n2_
 have HB := n3_
 clear n0_ n1_ n2_ n3_
 have p792 : 0 ≤ (2 : Int) := (by omega)
 have q792 : 2 < (t780.length : Int) := of_decide_eq_true (by first | (with_reducible assumption) | assumption)
 obtain ⟨ad792, e792, hx792_0⟩ := Kd.at_int (Kd.R_reads' HO782.out).2.2 2 p792 q792
 obtain rfl : ad787 = ad792 := (by injection e792)
 (try simp only [show (2 : Int).toNat = 2 from rfl, Nat.reduceMul, Nat.reduceEqDiff, Go.Addr.add, ↓reduceIte] at hx792_0)
 have qi792 : (2 < t780.length) = True := eq_true (by omega)
 (try rw [show ((2 : Int)).toNat = 2 from rfl] at hx792_0)
 replace p792 := eq_true p792
 replace q792 := eq_true q792
 have p793 : 0 ≤ (1 : Int) := (by omega)
 have q793 : 1 < (t776.length : Int) := of_decide_eq_true (by first | (with_reducible assumption) | assumption)
 obtain ⟨ad793, e793, hx793_0⟩ := Kd.at_int (Kd.R_reads' HO778.out).2.2 1 p793 q793
 obtain rfl : ad786 = ad793 := (by injection e793)
 (try simp only [show (1 : Int).toNat = 1 from rfl, Nat.reduceMul, Nat.reduceEqDiff, Go.Addr.add, ↓reduceIte] at hx793_0)
 have qi793 : (1 < t776.length) = True := eq_true (by omega)
 (try rw [show ((1 : Int)).toNat = 1 from rfl] at hx793_0)
 replace p793 := eq_true p793
 replace q793 := eq_true q793
 refine start_ (n := 13) (S := fun w' => w'.cell? ⟨ad787.block, ad787.off + 2, none⟩ = some (.int .i64 (rd t780 2)) ∧ w'.cell? ⟨ad786.block, ad786.off + 1, none⟩ = some (.int .i64 (rd t776 1))) (ds := [12]) #[F,F,F,F,F,F,F,F,F,F,F,F,F] (by kernel_rfl) rfl rfl ⟨hx792_0, hx793_0⟩ (fun hHeld => ?_); refine with_tabW impl_FlipEdge.tab8 impl_FlipEdge.bits8 (fun HT_ HW_ => ?_)
 generalize w33.drew = w34 at HO778 HO782 HO785 HB HQ32 hx792_0 hx793_0 hHeld ⊢
 refine pure_ (i := 0) (N := some 55) (v := ?_) (a' := ?_) #[T,F,F,F,F,F,F,F,F,F,F,F,F] rfl rfl (any_of HT_.out (by kernel_rfl)) (fun _ _ _ h => h) (Or.inl ⟨by rfl, ?_⟩) ?_ ?_
 rotate_left
 ·intro w'
  go_simp
  with_reducible rfl
 rotate_left
 ·simp only [Act.put, List.setIfInBounds_toArray, List.set_cons_zero, List.set_cons_succ, i64_w, i32_w]
  rfl
 refine pure_ (i := 1) (N := some 56) (v := ?_) (a' := ?_) #[T,T,F,F,F,F,F,F,F,F,F,F,F] rfl rfl (any_of HT_.out (by kernel_rfl)) (fun _ _ _ h => h) (Or.inl ⟨by rfl, ?_⟩) ?_ ?_
 rotate_left
 ·intro w'
  go_simp
  with_reducible rfl
 rotate_left
 ·simp only [Act.put, List.setIfInBounds_toArray, List.set_cons_zero, List.set_cons_succ, i64_w, i32_w]
  rfl
 refine pure_ (i := 2) (N := some 57) (v := ?_) (a' := ?_) #[T,T,T,F,F,F,F,F,F,F,F,F,F] rfl rfl (any_of HT_.out (by kernel_rfl)) (fun _ _ _ h => h) (Or.inl ⟨by rfl, ?_⟩) ?_ ?_
 rotate_left
 ·intro w'
  go_simp
  with_reducible rfl
 rotate_left
 ·simp only [Act.put, List.setIfInBounds_toArray, List.set_cons_zero, List.set_cons_succ, i64_w, i32_w]
  rfl
 refine pure_ (i := 3) (N := some 58) (v := ?_) (a' := ?_) #[T,T,T,T,F,F,F,F,F,F,F,F,F] rfl rfl (any_of HT_.out (by kernel_rfl)) (fun _ _ _ h => h) (Or.inl ⟨by rfl, ?_⟩) ?_ ?_
 rotate_left
 ·intro w'
  go_simp
  with_reducible rfl
 rotate_left
 ·simp only [Act.put, List.setIfInBounds_toArray, List.set_cons_zero, List.set_cons_succ, i64_w, i32_w]
  rfl
 refine pure_ (i := 4) (N := some 59) (v := ?_) (a' := ?_) #[T,T,T,T,T,F,F,F,F,F,F,F,F] rfl rfl (any_of HT_.out (by kernel_rfl)) (fun _ _ _ h => h) (Or.inl ⟨by rfl, ?_⟩) ?_ ?_
 rotate_left
 ·intro w'
  go_simp
  with_reducible rfl
 rotate_left
 ·simp only [Act.put, List.setIfInBounds_toArray, List.set_cons_zero, List.set_cons_succ, i64_w, i32_w]
  rfl
 refine pure_ (i := 5) (N := some 60) (v := ?_) (a' := ?_) #[T,T,T,T,T,T,F,F,F,F,F,F,F] rfl rfl (any_of HT_.out (by kernel_rfl)) (fun _ _ _ h => h) (Or.inl ⟨by rfl, ?_⟩) ?_ ?_
 rotate_left
 ·intro w'
  go_simp
  with_reducible rfl
 rotate_left
 ·simp only [Act.put, List.setIfInBounds_toArray, List.set_cons_zero, List.set_cons_succ, i64_w, i32_w]
  rfl
 refine pure_ (i := 7) (N := some 62) (v := ?_) (a' := ?_) #[T,T,T,T,T,T,F,T,F,F,F,F,F] rfl rfl (any_of HT_.out (by kernel_rfl)) (fun _ _ _ h => h) (Or.inl ⟨by rfl, ?_⟩) ?_ ?_
 rotate_left
 ·intro w'
  go_simp
  with_reducible rfl
 rotate_left
 ·simp only [Act.put, List.setIfInBounds_toArray, List.set_cons_zero, List.set_cons_succ, i64_w, i32_w]
  rfl
 refine pure_ (i := 8) (N := some 63) (v := ?_) (a' := ?_) #[T,T,T,T,T,T,F,T,T,F,F,F,F] rfl rfl (any_of HT_.out (by kernel_rfl)) (fun _ _ _ h => h) (Or.inl ⟨by rfl, ?_⟩) ?_ ?_
 rotate_left
 ·intro w'
  go_simp
  with_reducible rfl
 rotate_left
 ·simp only [Act.put, List.setIfInBounds_toArray, List.set_cons_zero, List.set_cons_succ, i64_w, i32_w]
  rfl
 refine take_ (i := 6) (N := some 61) (v := ?_) (a' := ?_) #[T,T,T,T,T,T,T,T,T,F,F,F,F] rfl rfl (take_ofW HT_.out HW_.out (by kernel_rfl)) (fun _ _ _ h => h) (Or.inl ⟨by rfl, ?_⟩) hHeld ?_ ?_
 rotate_left
 ·rintro w' ⟨s0, s1⟩
  go_simp
  with_reducible rfl
 rotate_left
 ·simp only [Act.put, List.setIfInBounds_toArray, List.set_cons_zero, List.set_cons_succ, i64_w, i32_w]
  rfl
 refine take_ (i := 9) (N := some 64) (v := ?_) (a' := ?_) #[T,T,T,T,T,T,T,T,T,T,F,F,F] rfl rfl (take_ofW HT_.out HW_.out (by kernel_rfl)) (fun _ _ _ h => h) (Or.inl ⟨by rfl, ?_⟩) hHeld ?_ ?_
 rotate_left
 ·rintro w' ⟨s0, s1⟩
  go_simp
  with_reducible rfl
 rotate_left
 ·simp only [Act.put, List.setIfInBounds_toArray, List.set_cons_zero, List.set_cons_succ, i64_w, i32_w]
  rfl
 refine one_ (i := 10) (N := some 65) #[T,T,T,T,T,T,T,T,T,T,T,F,F] rfl rfl (one_of HT_.out (by kernel_rfl)) (by decide) (fun K hK => ?_)
 refine Kd.R_lit_step (Kd.int .i64) _ 3 ?hg (N := 65) ?hd (xs := ([wrap64 (-a1), rd t780 2, rd t776 1] : List Int)) (inner := [.int .i64 (wrap64 (-a1)), .int .i64 (rd t780 2), .int .i64 (rd t776 1)]) (ok := fun _ => True) (okp := fun _ => True) ?hr ?hp (fun _ hk => hk) trivial (Below.refl _ _) (Nat.le_refl _) (by simp) ?_; (case hd => rfl); (case hg => rfl); (case hr => first | (go_simp; done) | (go_simp; rfl)); (case hp => exact (Reps.one (show Kd.M (Kd.int .i64) _ _ _ (wrap64 (-a1)) [.int .i64 (wrap64 (-a1))] from rfl) (Reps.one (show Kd.M (Kd.int .i64) _ _ _ (rd t780 2) [.int .i64 (rd t780 2)] from rfl) (Reps.one (show Kd.M (Kd.int .i64) _ _ _ (rd t776 1) [.int .i64 (rd t776 1)] from rfl) (Reps.none _ _)))))
 intro v795 w35 ho36 hb hg_ hnew_
 have HS0_ := (hb.cell (World.block_lt_of_cell? _ _ (hHeld.1))).trans (hHeld.1)
 have HS1_ := (hb.cell (World.block_lt_of_cell? _ _ (hHeld.2))).trans (hHeld.2)
 clear hg_ hnew_
 (first | rw [← Ny794.out] at ho36 | (simp only [Int.reduceToNat] at ho36; rw [← Ny794.out] at ho36))
 have n0_ := Az.mk (Kd.R_elder' (by (with_reducible repeat (first | apply Kd.R_alloc | apply Kd.R_drewN | apply Kd.R_drew)); exact HO778.out) (Kd.R_base ho36) hb)
 have n1_ := Az.mk (Kd.R_elder' (by (with_reducible repeat (first | apply Kd.R_alloc | apply Kd.R_drewN | apply Kd.R_drew)); exact HO782.out) (Kd.R_base ho36) hb)
 have n2_ := Az.mk (Kd.S_elder' (by (with_reducible repeat (first | apply Kd.S_alloc | apply Kd.S_drewN | apply Kd.S_drew)); exact HO785.out) (Kd.R_base ho36) hb)
 have n3_ := Az.mk (Kd.R_lower (Kd.R_new' (Kd.R_new' (Kd.R_newM (M := fun k_ => (w.heap.size ≤ k_)) ho36 (bwZ bw_45) (fun k_ h_ => h_)) (Kd.R_lt (by (with_reducible repeat (first | apply Kd.R_alloc | apply Kd.R_drewN | apply Kd.R_drew)); exact HO778.out))) (Kd.R_lt (by (with_reducible repeat (first | apply Kd.R_alloc | apply Kd.R_drewN | apply Kd.R_drew)); exact HO782.out))) (bwZ bw_45))
 have n4_ := Az.mk (bwT bw_45 hb)
 clear HO778
 clear HO782
 clear HO785
 clear HB
 have HO778 := n0_
 have HO782 := n1_
 have HO785 := n2_
 have HO796 := n3_
 have HB := n4_
 clear n0_ n1_ n2_ n3_ n4_
 clear hb ho36
 have p21 : 0 ≤ (t773 : Int) := of_decide_eq_true (by first | (with_reducible assumption) | assumption)
 have q21 : (t773 : Int) < ((t783.length : Int) : Int) := of_decide_eq_true (by first | (with_reducible assumption) | assumption)
 obtain ⟨oi_ce21, ce21, hcl21, hM21, hcc21, hfr21, ho_ce21, hH_ce21⟩ := Kd.S_elem HO785.out [] (t773 : Int) p21 q21
 obtain ⟨ua21_0, rfl, ge21_0⟩ := hM21
 have hx21_0 := hcc21 0 _ rfl
 have hf21_0 := hfr21 0
 (try simp only [show ((Kd.slice 3 (Kd.int .i64))).sz = 1 from rfl, Nat.mul_one, Nat.add_zero] at hx21_0)
 (try simp only [show ((Kd.slice 3 (Kd.int .i64))).sz = 1 from rfl, Nat.mul_one, Nat.add_zero] at hf21_0)
 (try clear hcl21); (try clear hcc21); (try clear hfr21); (try clear hM21)
 replace p21 := eq_true p21
 replace q21 := eq_true q21
 obtain ⟨oi_ce37, ce37, hcl37, hM37, hcc37, hfr37, ho_ce37, hH_ce37⟩ := Kd.S_elem HO785.out [] (t773 : Int) (of_decide_eq_true (by first | (with_reducible assumption) | assumption)) (by have h_ : (t773 : Int) < ((t783.length : Int) : Int) := of_decide_eq_true (by first | (with_reducible assumption) | assumption); first | exact h_ | (have e_ := (Kd.S_reads' HO785.out).1; omega) | simpa using h_)
 obtain ⟨ua37_0, rfl, ge37_0⟩ := hM37
 have HP37 := (Kd.S_seg (ok := fun _ => True) (okg := fun k_ => some k_ = (v795 : Value).ownBlock) (okp := fun k_ => some k_ = (v795 : Value).ownBlock) hH_ce37 (of_decide_eq_true (by first | (with_reducible assumption) | assumption)) (by have h_ : (t773 : Int) < ((t783.length : Int) : Int) := of_decide_eq_true (by first | (with_reducible assumption) | assumption); first | exact h_ | (have e_ := (Kd.S_reads' HO785.out).1; omega) | simpa using h_) (seg := [v795]) (j := 0) (show 0 + 1 ≤ 1 from by decide) (x' := y794) ⟨v795, rfl, Kd.R_reok rfl HO796.out (fun k_ e_ => e_.symm)⟩ (fun k_ hk => .inr hk) (fun k_ hk => ⟨trivial, fun e_ => ((Kd.S_R HO785.out).1 go17 rfl).2 (e_ ▸ hk)⟩)).1
 (try simp only [show ((Kd.slice 3 (Kd.int .i64))).sz = 1 from rfl, Nat.mul_one, Nat.add_zero] at HP37)
 rw [← Ny797.out] at HP37
 have HQ37 := Az.mk HP37
 (try clear hcl37); (try clear hcc37); (try clear hfr37); (try clear hM37); (try clear HP37)
 refine hK.out _ _ ⟨HS0_, HS1_⟩ (fun hHeld => ?_)
 clear hK K
 refine norm_ (a' := ?_) ?_ ?_
 rotate_left
 ·show Act.put _ (some 65) _ = _
  simp only [Act.put, List.setIfInBounds_toArray, List.set_cons_zero, List.set_cons_succ, i64_w, i32_w]
  rfl
 refine pure_ (i := 11) (N := some 66) (v := ?_) (a' := ?_) #[T,T,T,T,T,T,T,T,T,T,T,T,F] rfl rfl (any_of HT_.out (by kernel_rfl)) (fun _ _ _ h => h) (Or.inl ⟨by rfl, ?_⟩) ?_ ?_
 rotate_left
 ·intro w'
  go_simp
  with_reducible rfl
 rotate_left
 ·simp only [Act.put, List.setIfInBounds_toArray, List.set_cons_zero, List.set_cons_succ, i64_w, i32_w]
  rfl
 refine last_ (i := 12) (N := none) #[T,T,T,T,T,T,T,T,T,T,T,T,T] rfl rfl (one_of HT_.out (by kernel_rfl)) (by decide) (fun K hK => ?_)
 refine skip_ (w1 := w35.setCell ⟨go17, (t773 : Int).toNat, none⟩ (v795)) (by rfl) rfl ?_ ?_
 ·obtain ⟨Av_, cv_, ev_⟩ := Kd.R_slice HO796.out
  subst ev_
  first | (go_simp; done) | (go_simp; rfl)
 refine hK.out _ _ ?_
 clear hK K
 refine done_ (done_of HT_.out (by kernel_rfl)) ?_
 try go_wp2
 go_ret2
 exact ⟨_, by first | rfl | (simp [eWn, eWs] <;> rfl) | (simp [*, eWn, eWs] <;> rfl), by (with_reducible repeat (first | apply Kd.S_alloc | apply Kd.S_drewN | apply Kd.S_drew)); exact HQ37.out, bw_45⟩

end Go.Proofs.Ytolmicnapemljaa.P
