-- By this session's driver (wip/tools/mk.py) of the kit's print program, over several statements at once. Not trusted: Lean checks it.
import Derived.Test.YtkmjcdlhlhefdaaQWZip
import Derived.Test.YtkmjcdlhlhefdaaQPx0
import Derived.Test.YtkmjcdlhlhefdaaQPx12
namespace Go.Proofs.Ytkmjcdlhlhefdaa.P
open Go.RowKit Go.Proofs.YtkmjcdlhlhefdaaW.PrintWords Go.Proofs.YtkmjcdlhlhefdaaW.PrintLast Go.Proofs.YtkmjcdlhlhefdaaW.PrintMore
attribute [local go_sem] max2_int min2_int max_two min_two max_three min_three max_four min_four   -- for this text's walks alone
set_option linter.unusedVariables false
set_option linter.unusedSimpArgs false
open Bool renaming true → T, false → F

theorem bw_26 {n : Nat} {v v' : World} (h : Below n v v' := by repeat (first | (with_reducible first | exact HB.out | apply bwA | apply pbN | apply bwD) | exact HB.out)) : Below n v v' := h

/-! ### spec_l2Turn: function 55 -/
def spec_l2Turn.f (l0 : List Int) (a1 : Int) : Option (List Int) := if (l0.length : Int) = 0 then (some (([] : List Int))) else (if (Int.tmod a1 (l0.length : Int)) < 0 then ((some (([] : List Int) : List Int)).bind fun y577 => (if 0 ≤ (wrap64 ((Int.tmod a1 (l0.length : Int)) + (l0.length : Int))) then (if (wrap64 ((Int.tmod a1 (l0.length : Int)) + (l0.length : Int))) ≤ (l0.length : Int) then (if y577.length + (l0.drop ((wrap64 ((Int.tmod a1 (l0.length : Int)) + (l0.length : Int))) : Int).toNat).length < 17592186044416 then ((some (y577 ++ (l0.drop ((wrap64 ((Int.tmod a1 (l0.length : Int)) + (l0.length : Int))) : Int).toNat) : List Int)).bind fun y581 => (if y581.length + (l0.take ((wrap64 ((Int.tmod a1 (l0.length : Int)) + (l0.length : Int))) : Int).toNat).length < 17592186044416 then (some (y581 ++ (l0.take ((wrap64 ((Int.tmod a1 (l0.length : Int)) + (l0.length : Int))) : Int).toNat))) else (none))) else (none)) else (none)) else (none))) else ((some (([] : List Int) : List Int)).bind fun y588 => (if 0 ≤ (Int.tmod a1 (l0.length : Int)) then (if (Int.tmod a1 (l0.length : Int)) ≤ (l0.length : Int) then (if y588.length + (l0.drop ((Int.tmod a1 (l0.length : Int)) : Int).toNat).length < 17592186044416 then ((some (y588 ++ (l0.drop ((Int.tmod a1 (l0.length : Int)) : Int).toNat) : List Int)).bind fun y592 => (if y592.length + (l0.take ((Int.tmod a1 (l0.length : Int)) : Int).toNat).length < 17592186044416 then (some (y592 ++ (l0.take ((Int.tmod a1 (l0.length : Int)) : Int).toNat))) else (none))) else (none)) else (none)) else (none))))
def spec_l2Turn.T6 : Bool × List (List Nat × List Nat) := (true, [([], []), ([], []), ([], []), ([1, 2], [1, 2]), ([0, 3], [0, 3]), ([], []), ([], []), ([5, 6], [5, 6]), ([4, 7, 4], [4, 7]), ([8, 8, 0, 1, 2, 3, 4, 5, 6, 7, 8], [8])])
def spec_l2Turn.B6 : List Nat := [0, 0, 0, 6, 15, 0, 0, 96, 255, 511]
theorem spec_l2Turn.tab6 : rtab .any (opsOf Try.f55 6) = spec_l2Turn.T6 := by kernel_rfl
theorem spec_l2Turn.bits6 : waitsOk spec_l2Turn.T6.2 spec_l2Turn.B6 = true := by kernel_rfl
set_option maxHeartbeats 8000000 in
set_option maxRecDepth 100000 in
theorem spec_l2Turn.calls (A0 : Option Addr) (c0 : Nat) (l0 : List Int) (a1 : Int) (r : List Int) (w : World) (hr0 : Kd.C (Kd.int .i64) w A0 l0.length l0) (hc0 : l0.length ≤ c0) (h : spec_l2Turn.f l0 a1 = some r) :
  Calls Try.prog 55 #[.slice A0 l0.length c0, .int .i64 a1] w fun e w' => ∃ v0_ : Value, e = .returned (v0_) ∧ Kd.R (Kd.int .i64) 3 w' w.heap.size (fun _ => True) v0_ r ∧ Below w.heap.size w w' := by
 have HR0 := Az.mk hr0
 have HC0 := Az.mk hc0
 clear hr0 hc0
 have HB := Az.mk (Below.refl w.heap.size w)
 have H : (if (l0.length : Int) = 0 then (some (([] : List Int))) else (if (Int.tmod a1 (l0.length : Int)) < 0 then ((some (([] : List Int) : List Int)).bind fun y577 => (if 0 ≤ (wrap64 ((Int.tmod a1 (l0.length : Int)) + (l0.length : Int))) then (if (wrap64 ((Int.tmod a1 (l0.length : Int)) + (l0.length : Int))) ≤ (l0.length : Int) then (if y577.length + (l0.drop ((wrap64 ((Int.tmod a1 (l0.length : Int)) + (l0.length : Int))) : Int).toNat).length < 17592186044416 then ((some (y577 ++ (l0.drop ((wrap64 ((Int.tmod a1 (l0.length : Int)) + (l0.length : Int))) : Int).toNat) : List Int)).bind fun y581 => (if y581.length + (l0.take ((wrap64 ((Int.tmod a1 (l0.length : Int)) + (l0.length : Int))) : Int).toNat).length < 17592186044416 then (some (y581 ++ (l0.take ((wrap64 ((Int.tmod a1 (l0.length : Int)) + (l0.length : Int))) : Int).toNat))) else (none))) else (none)) else (none)) else (none))) else ((some (([] : List Int) : List Int)).bind fun y588 => (if 0 ≤ (Int.tmod a1 (l0.length : Int)) then (if (Int.tmod a1 (l0.length : Int)) ≤ (l0.length : Int) then (if y588.length + (l0.drop ((Int.tmod a1 (l0.length : Int)) : Int).toNat).length < 17592186044416 then ((some (y588 ++ (l0.drop ((Int.tmod a1 (l0.length : Int)) : Int).toNat) : List Int)).bind fun y592 => (if y592.length + (l0.take ((Int.tmod a1 (l0.length : Int)) : Int).toNat).length < 17592186044416 then (some (y592 ++ (l0.take ((Int.tmod a1 (l0.length : Int)) : Int).toNat))) else (none))) else (none)) else (none)) else (none))))) = some r := h
 clear h
 by_cases c3 : (l0.length : Int) = 0
 ·rw [if_pos c3] at H
  have c3b0 : ((l0.length : Int) == 0) = true := beq_iff_eq.mpr c3
  have c3b1 : ((l0.length : Int) != 0) = false := bne_eq_false_iff_eq.mpr c3
  clear c3
  obtain ⟨y574, hy⟩ : ∃ y_ : List Int, y_ = (([] : List Int)) := ⟨_, rfl⟩
  replace H : (some y574) = some r := rh
  have Ny574 := Az.mk hy
  clear hy
  obtain rfl := Option.some.inj H
  go_enter Try.func55, Try.ntmps55
  go_wp2_with (first | ((with_reducible refine gtD (N := 8) rfl ?_); refine Kd.R_lit (Kd.int .i64) _ 3 ?hg (N := 8) ?hd (xs := ([] : List Int)) (inner := []) (ok := fun _ => True) (okp := fun _ => True) ?hr ?hp (fun _ hk => hk) trivial (Below.refl _ _) (Nat.le_refl _) (by simp) ?_; (case hd => rfl); (case hg => rfl); (case hr => first | (go_simp; done) | (go_simp; rfl)); (case hp => exact (Reps.none _ _)); intro v575 w4 ho5 hb hg_ hnew_; clear hg_ hnew_; (first | rw [← Ny574.out] at ho5 | (simp only [Int.reduceToNat] at ho5; rw [← Ny574.out] at ho5)); have HO576 := Az.mk (Kd.R_lower ho5 (bwZ bw_26)); replace HB := Az.mk (bwT bw_26 hb); clear hb ho5))
  go_ret
  exact ⟨_, rq1, kR HO576.out, bw_26⟩
 rw [if_neg c3] at H
 have c3b0 : ((l0.length : Int) == 0) = false := beq_eq_false_iff_ne.mpr c3
 have c3b1 : ((l0.length : Int) != 0) = true := bne_iff_ne.mpr c3
 have c3b2 : ¬ (l0 = []) := fun h_ => c3 (by rw [h_]; rfl)
 by_cases c6 : (Int.tmod a1 (l0.length : Int)) < 0
 ·rw [if_pos c6] at H
  have c6b0 : decide ((Int.tmod a1 (l0.length : Int)) < 0) = true := decide_eq_true c6
  clear c6
  obtain ⟨y577, hy⟩ : ∃ y_ : List Int, y_ = (([] : List Int)) := ⟨_, rfl⟩
  replace H : (if 0 ≤ (wrap64 ((Int.tmod a1 (l0.length : Int)) + (l0.length : Int))) then (if (wrap64 ((Int.tmod a1 (l0.length : Int)) + (l0.length : Int))) ≤ (l0.length : Int) then (if y577.length + (l0.drop ((wrap64 ((Int.tmod a1 (l0.length : Int)) + (l0.length : Int))) : Int).toNat).length < 17592186044416 then ((some (y577 ++ (l0.drop ((wrap64 ((Int.tmod a1 (l0.length : Int)) + (l0.length : Int))) : Int).toNat) : List Int)).bind fun y581 => (if y581.length + (l0.take ((wrap64 ((Int.tmod a1 (l0.length : Int)) + (l0.length : Int))) : Int).toNat).length < 17592186044416 then (some (y581 ++ (l0.take ((wrap64 ((Int.tmod a1 (l0.length : Int)) + (l0.length : Int))) : Int).toNat))) else (none))) else (none)) else (none)) else (none)) = some r := rh
  have Ny577 := Az.mk hy
  clear hy
  obtain ⟨ji7, hji7⟩ : ∃ j_ : Int, (wrap64 ((Int.tmod a1 (l0.length : Int)) + (l0.length : Int))) = j_ := ⟨_, rfl⟩
  replace H : (if 0 ≤ (ji7) then (if (ji7) ≤ (l0.length : Int) then (if y577.length + (l0.drop ((ji7) : Int).toNat).length < 17592186044416 then ((some (y577 ++ (l0.drop ((ji7) : Int).toNat) : List Int)).bind fun y581 => (if y581.length + (l0.take ((ji7) : Int).toNat).length < 17592186044416 then (some (y581 ++ (l0.take ((ji7) : Int).toNat))) else (none))) else (none)) else (none)) else (none)) = some r := by first | (rw [hji7] at H; exact H) | (simp only [hji7] at H ⊢; exact H)
  have hji7w : (IntKind.i64.wrap ((Int.tmod a1 (l0.length : Int)) + (l0.length : Int))) = ji7 := (i64_w _).trans hji7
  by_cases c8 : 0 ≤ (ji7)
  rotate_left
  ·rw [if_neg c8] at H
   exact absurd H (by simp)
  rw [if_pos c8] at H
  have c8b0 := eq_true c8
  have c8b1 : decide (0 ≤ (ji7)) = true := decide_eq_true c8
  clear c8
  by_cases c9 : (ji7) ≤ (l0.length : Int)
  rotate_left
  ·rw [if_neg c9] at H
   exact absurd H (by simp)
  rw [if_pos c9] at H
  have c9b0 := eq_true c9
  have c9b1 : decide ((ji7) ≤ (l0.length : Int)) = true := decide_eq_true c9
  clear c9
  by_cases c10 : y577.length + (l0.drop ((ji7) : Int).toNat).length < 17592186044416
  rotate_left
  ·rw [if_neg c10] at H
   exact absurd H (by simp)
  rw [if_pos c10] at H
  have LMc10 := Az.mk c10
  clear c10
  obtain ⟨y581, hy⟩ : ∃ y_ : List Int, y_ = (y577 ++ (l0.drop ((ji7) : Int).toNat)) := ⟨_, rfl⟩
  replace H : (if y581.length + (l0.take ((ji7) : Int).toNat).length < 17592186044416 then (some (y581 ++ (l0.take ((ji7) : Int).toNat))) else (none)) = some r := rh
  have Ny581 := Az.mk hy
  clear hy
  have c11b0 := eq_true (of_decide_eq_true am : 0 ≤ (ji7))
  have c12b0 := eq_true (of_decide_eq_true am : (ji7) ≤ (l0.length : Int))
  by_cases c13 : y581.length + (l0.take ((ji7) : Int).toNat).length < 17592186044416
  rotate_left
  ·rw [if_neg c13] at H
   exact absurd H (by simp)
  rw [if_pos c13] at H
  have LMc13 := Az.mk c13
  clear c13
  obtain ⟨y585, hy⟩ : ∃ y_ : List Int, y_ = (y581 ++ (l0.take ((ji7) : Int).toNat)) := ⟨_, rfl⟩
  replace H : (some y585) = some r := rh
  have Ny585 := Az.mk hy
  clear hy
  obtain rfl := Option.some.inj H
  go_enter Try.func55, Try.ntmps55
  try go_wp2
  replace HB := Az.mk (bwD HB.out)
  obtain ⟨i015, hi015, _, hsz15, _⟩ := info_parts info3
  obtain ⟨A15, hcut15, hA15, hC15⟩ := print_drop_of (P := Try.prog) (Value.int .i64) 0 24 3 .i64 Try.underlying24 hi015 hsz15 A0 c0 l0 (ji7) (of_decide_eq_true am) (of_decide_eq_true am) HC0.out
  have HR580 := Az.mk (Kd.C_of_reads (h1 := fun _ => rfl) (hA15 _ (Kd.reads_of_C HR0.out)))
  have HC580 := Az.mk hC15
  clear hA15 hC15 hi015 hsz15
  obtain ⟨i016, hi016, _, hsz16, _⟩ := info_parts info3
  obtain ⟨hcut16, hA16, hC16⟩ := print_take_of (P := Try.prog) (Value.int .i64) 0 24 3 .i64 Try.underlying24 hi016 hsz16 A0 c0 l0 (ji7) (of_decide_eq_true am) (of_decide_eq_true am) HC0.out
  have HR584 := Az.mk (Kd.C_of_reads (h1 := fun _ => rfl) (hA16 _ (Kd.reads_of_C HR0.out)))
  have HC584 := Az.mk hC16
  clear hA16 hC16 hi016 hsz16
  refine start_ (n := 10) (S := fun w' => True) (ds := []) #[F,F,F,F,F,F,F,F,F,F] (by kernel_rfl) rfl rfl trivial (fun hHeld => ?_); refine with_tabW spec_l2Turn.tab6 spec_l2Turn.bits6 (fun HT_ HW_ => ?_)
  generalize w.drew = w14 at HB HR580 HR584 hHeld ⊢
  refine pu (i := 1) (N := some 20) #[F,T,F,F,F,F,F,F,F,F] (any_of HT_.out (by kernel_rfl)) ?_
  refine pu (i := 2) (N := some 21) #[F,T,T,F,F,F,F,F,F,F] (any_of HT_.out (by kernel_rfl)) ?_
  refine pu (i := 3) (N := some 22) #[F,T,T,T,F,F,F,F,F,F] (any_of HT_.out (by kernel_rfl)) ?_
  refine pu (i := 5) (N := some 24) #[F,T,T,T,F,T,F,F,F,F] (any_of HT_.out (by kernel_rfl)) ?_
  refine pu (i := 6) (N := some 25) #[F,T,T,T,F,T,T,F,F,F] (any_of HT_.out (by kernel_rfl)) ?_
  refine pu (i := 7) (N := some 26) #[F,T,T,T,F,T,T,T,F,F] (any_of HT_.out (by kernel_rfl)) ?_
  refine one_ (i := 0) (N := some 19) #[T,T,T,T,F,T,T,T,F,F] rfl rfl (one_of HT_.out (by kernel_rfl)) (by decide) (fun K hK => ?_)
  refine Kd.R_lit_step (Kd.int .i64) _ 3 ?hg (N := 19) ?hd (xs := ([] : List Int)) (inner := []) (ok := fun _ => True) (okp := fun _ => True) ?hr ?hp (fun _ hk => hk) trivial (Below.refl _ _) (Nat.le_refl _) (by simp) ?_; (case hd => rfl); (case hg => rfl); (case hr => first | (go_simp; done) | (go_simp; rfl)); (case hp => exact (Reps.none _ _))
  intro v578 w17 ho18 hb hg_ hnew_
  clear hg_ hnew_
  (first | rw [← Ny577.out] at ho18 | (simp only [Int.reduceToNat] at ho18; rw [← Ny577.out] at ho18))
  have HO579 := Az.mk (Kd.R_lower ho18 (bwZ bw_26)); replace HB := Az.mk (bwT bw_26 hb)
  clear hb ho18
  refine hK.out _ _ trivial (fun hHeld => ?_)
  clear hK K
  refine norm_ (a' := ?_) ?_ ?_
  rotate_left
  ·show Act.put _ (some 19) _ = _
   exact acq
  refine one_ (i := 4) (N := some 23) #[T,T,T,T,T,T,T,T,F,F] rfl rfl (one_of HT_.out (by kernel_rfl)) (by decide) (fun K hK => ?_)
  refine Kd.R_append_rows_step (Kd.int .i64) (w0 := w) w.heap.size (by rfl) (.tmp 19) (.tmp 22) 24 3 (.int .i64 0) 8 rfl Try.underlying24 info3 rfl (by decide) (by omega) v578 y577 (l0.drop ((ji7) : Int).toNat) _ _ _ (fun _ => True) (fun _ => False) rfl rfl ?aO ?aR (fun _ _ h => h) (fun _ h => h.elim) ?aF ?aB ?aS ?aL ?_
  (case aR => first | (rw [← show (l0.drop ((ji7) : Int).toNat).length = (l0.length - (ji7).toNat) from List.length_drop]; repeat (first | exact (Kd.C_below HR580.out HB.out) | (with_reducible refine Kd.C_alloc ?_ _) | (with_reducible refine Kd.C_drewN ?_ _) | (with_reducible refine Kd.C_drew ?_))) | (repeat (first | exact (Kd.C_below HR580.out HB.out) | (with_reducible refine Kd.C_alloc ?_ _) | (with_reducible refine Kd.C_drewN ?_ _) | (with_reducible refine Kd.C_drew ?_))))
  (case aB => exact bw_26)
  (case aF => exact (fun _ _ => trivial))
  (case aO => exact (kR HO579.out))
  (case aS => exact (bwZ bw_26))
  (case aL => have := LMc10.out; have hlx_ := (show (l0.drop ((ji7) : Int).toNat).length = (l0.length - (ji7).toNat) from List.length_drop); omega)
  intro v582 w19 ho hb hg hat
  rw [← Ny581.out] at ho
  have n0_ := Az.mk (hb)
  have n1_ := Az.mk (ho)
  clear HB
  clear HO579
  have HB := n0_
  have HO583 := n1_
  clear n0_ n1_
  clear ho hb hg hat
  refine hK.out _ _ trivial (fun hHeld => ?_)
  clear hK K
  refine norm_ (a' := ?_) ?_ ?_
  rotate_left
  ·show Act.put _ (some 23) _ = _
   exact acq
  refine one_ (i := 8) (N := some 27) #[T,T,T,T,T,T,T,T,T,F] rfl rfl (one_of HT_.out (by kernel_rfl)) (by decide) (fun K hK => ?_)
  refine Kd.R_append_rows_step (Kd.int .i64) (w0 := w) w.heap.size (by rfl) (.tmp 23) (.tmp 26) 24 3 (.int .i64 0) 8 rfl Try.underlying24 info3 rfl (by decide) (by omega) v582 y581 (l0.take ((ji7) : Int).toNat) _ _ _ (fun _ => True) (fun _ => False) rfl rfl ?aO ?aR (fun _ _ h => h) (fun _ h => h.elim) ?aF ?aB ?aS ?aL ?_
  (case aR => first | (refine Eq.mp (congrArg (fun m_ => ReadsRow _ _ _ _ m_ (l0.take ((ji7) : Int).toNat)) (show (l0.take ((ji7) : Int).toNat).length = (ji7).toNat from (by rw [List.length_take]; have h_ : ((ji7) : Int) ≤ (l0.length : Int) := of_decide_eq_true am; omega))) ?_; repeat (first | exact (Kd.C_below HR584.out HB.out) | (with_reducible refine Kd.C_alloc ?_ _) | (with_reducible refine Kd.C_drewN ?_ _) | (with_reducible refine Kd.C_drew ?_))) | (repeat (first | exact (Kd.C_below HR584.out HB.out) | (with_reducible refine Kd.C_alloc ?_ _) | (with_reducible refine Kd.C_drewN ?_ _) | (with_reducible refine Kd.C_drew ?_))))
  (case aB => exact bw_26)
  (case aF => exact (fun _ _ => trivial))
  (case aO => exact (kR HO583.out))
  (case aS => exact (bwZ bw_26))
  (case aL => have := LMc13.out; have hlx_ := (show (l0.take ((ji7) : Int).toNat).length = (ji7).toNat from (by rw [List.length_take]; have h_ : ((ji7) : Int) ≤ (l0.length : Int) := of_decide_eq_true am; omega)); omega)
  intro v586 w20 ho hb hg hat
  rw [← Ny585.out] at ho
  have n0_ := Az.mk (hb)
  have n1_ := Az.mk (ho)
  clear HB
  clear HO583
  have HB := n0_
  have HO587 := n1_
  clear n0_ n1_
  clear ho hb hg hat
  refine hK.out _ _ trivial (fun hHeld => ?_)
  clear hK K
  refine norm_ (a' := ?_) ?_ ?_
  rotate_left
  ·show Act.put _ (some 27) _ = _
   exact acq
  refine pu (i := 9) (N := some 4) #[T,T,T,T,T,T,T,T,T,T] (any_of HT_.out (by kernel_rfl)) ?_
  refine done_ (done_of HT_.out (by kernel_rfl)) ?_
  try go_wp2
  go_ret
  exact ⟨_, by first | rfl | (simp [eWn, eWs] <;> rfl) | (simp only [← hji7]; first | rfl | (simp [eWn, eWs] <;> rfl)) | (simp [*, eWn, eWs] <;> rfl), kR HO587.out, bw_26⟩
 rw [if_neg c6] at H
 have c6b0 : decide ((Int.tmod a1 (l0.length : Int)) < 0) = false := decide_eq_false c6
 clear c6
 obtain ⟨y588, hy⟩ : ∃ y_ : List Int, y_ = (([] : List Int)) := ⟨_, rfl⟩
 replace H : (if 0 ≤ (Int.tmod a1 (l0.length : Int)) then (if (Int.tmod a1 (l0.length : Int)) ≤ (l0.length : Int) then (if y588.length + (l0.drop ((Int.tmod a1 (l0.length : Int)) : Int).toNat).length < 17592186044416 then ((some (y588 ++ (l0.drop ((Int.tmod a1 (l0.length : Int)) : Int).toNat) : List Int)).bind fun y592 => (if y592.length + (l0.take ((Int.tmod a1 (l0.length : Int)) : Int).toNat).length < 17592186044416 then (some (y592 ++ (l0.take ((Int.tmod a1 (l0.length : Int)) : Int).toNat))) else (none))) else (none)) else (none)) else (none)) = some r := rh
 have Ny588 := Az.mk hy
 clear hy
 obtain ⟨ji21, hji21⟩ : ∃ j_ : Int, (Int.tmod a1 (l0.length : Int)) = j_ := ⟨_, rfl⟩
 replace H : (if 0 ≤ (ji21) then (if (ji21) ≤ (l0.length : Int) then (if y588.length + (l0.drop ((ji21) : Int).toNat).length < 17592186044416 then ((some (y588 ++ (l0.drop ((ji21) : Int).toNat) : List Int)).bind fun y592 => (if y592.length + (l0.take ((ji21) : Int).toNat).length < 17592186044416 then (some (y592 ++ (l0.take ((ji21) : Int).toNat))) else (none))) else (none)) else (none)) else (none)) = some r := by first | (rw [hji21] at H; exact H) | (simp only [hji21] at H ⊢; exact H)
 (try rw [hji21] at c6b0)
 by_cases c22 : 0 ≤ (ji21)
 rotate_left
 ·rw [if_neg c22] at H
  exact absurd H (by simp)
 rw [if_pos c22] at H
 have c22b0 := eq_true c22
 have c22b1 : decide (0 ≤ (ji21)) = true := decide_eq_true c22
 clear c22
 by_cases c23 : (ji21) ≤ (l0.length : Int)
 rotate_left
 ·rw [if_neg c23] at H
  exact absurd H (by simp)
 rw [if_pos c23] at H
 have c23b0 := eq_true c23
 have c23b1 : decide ((ji21) ≤ (l0.length : Int)) = true := decide_eq_true c23
 clear c23
 by_cases c24 : y588.length + (l0.drop ((ji21) : Int).toNat).length < 17592186044416
 rotate_left
 ·rw [if_neg c24] at H
  exact absurd H (by simp)
 rw [if_pos c24] at H
 have LMc24 := Az.mk c24
 clear c24
 obtain ⟨y592, hy⟩ : ∃ y_ : List Int, y_ = (y588 ++ (l0.drop ((ji21) : Int).toNat)) := ⟨_, rfl⟩
 replace H : (if y592.length + (l0.take ((ji21) : Int).toNat).length < 17592186044416 then (some (y592 ++ (l0.take ((ji21) : Int).toNat))) else (none)) = some r := rh
 have Ny592 := Az.mk hy
 clear hy
 have c25b0 := eq_true (of_decide_eq_true am : 0 ≤ (ji21))
 have c26b0 := eq_true (of_decide_eq_true am : (ji21) ≤ (l0.length : Int))
 by_cases c27 : y592.length + (l0.take ((ji21) : Int).toNat).length < 17592186044416
 rotate_left
 ·rw [if_neg c27] at H
  exact absurd H (by simp)
 rw [if_pos c27] at H
 have LMc27 := Az.mk c27
 clear c27
 obtain ⟨y596, hy⟩ : ∃ y_ : List Int, y_ = (y592 ++ (l0.take ((ji21) : Int).toNat)) := ⟨_, rfl⟩
 replace H : (some y596) = some r := rh
 have Ny596 := Az.mk hy
 clear hy
 obtain rfl := Option.some.inj H
 go_enter Try.func55, Try.ntmps55
 try go_wp2
 replace HB := Az.mk (bwD HB.out)
 obtain ⟨i029, hi029, _, hsz29, _⟩ := info_parts info3
 obtain ⟨A29, hcut29, hA29, hC29⟩ := print_drop_of (P := Try.prog) (Value.int .i64) 0 24 3 .i64 Try.underlying24 hi029 hsz29 A0 c0 l0 (ji21) (of_decide_eq_true am) (of_decide_eq_true am) HC0.out
 have HR591 := Az.mk (Kd.C_of_reads (h1 := fun _ => rfl) (hA29 _ (Kd.reads_of_C HR0.out)))
 have HC591 := Az.mk hC29
 clear hA29 hC29 hi029 hsz29
 obtain ⟨i030, hi030, _, hsz30, _⟩ := info_parts info3
 obtain ⟨hcut30, hA30, hC30⟩ := print_take_of (P := Try.prog) (Value.int .i64) 0 24 3 .i64 Try.underlying24 hi030 hsz30 A0 c0 l0 (ji21) (of_decide_eq_true am) (of_decide_eq_true am) HC0.out
 have HR595 := Az.mk (Kd.C_of_reads (h1 := fun _ => rfl) (hA30 _ (Kd.reads_of_C HR0.out)))
 have HC595 := Az.mk hC30
 clear hA30 hC30 hi030 hsz30
 refine start_ (n := 10) (S := fun w' => True) (ds := []) #[F,F,F,F,F,F,F,F,F,F] (by kernel_rfl) rfl rfl trivial (fun hHeld => ?_); refine with_tabW spec_l2Turn.tab6 spec_l2Turn.bits6 (fun HT_ HW_ => ?_)
 generalize w.drew = w28 at HB HR591 HR595 hHeld ⊢
 refine pu (i := 1) (N := some 20) #[F,T,F,F,F,F,F,F,F,F] (any_of HT_.out (by kernel_rfl)) ?_
 refine pu (i := 2) (N := some 21) #[F,T,T,F,F,F,F,F,F,F] (any_of HT_.out (by kernel_rfl)) ?_
 refine pu (i := 3) (N := some 22) #[F,T,T,T,F,F,F,F,F,F] (any_of HT_.out (by kernel_rfl)) ?_
 refine pu (i := 5) (N := some 24) #[F,T,T,T,F,T,F,F,F,F] (any_of HT_.out (by kernel_rfl)) ?_
 refine pu (i := 6) (N := some 25) #[F,T,T,T,F,T,T,F,F,F] (any_of HT_.out (by kernel_rfl)) ?_
 refine pu (i := 7) (N := some 26) #[F,T,T,T,F,T,T,T,F,F] (any_of HT_.out (by kernel_rfl)) ?_
 refine one_ (i := 0) (N := some 19) #[T,T,T,T,F,T,T,T,F,F] rfl rfl (one_of HT_.out (by kernel_rfl)) (by decide) (fun K hK => ?_)
 refine Kd.R_lit_step (Kd.int .i64) _ 3 ?hg (N := 19) ?hd (xs := ([] : List Int)) (inner := []) (ok := fun _ => True) (okp := fun _ => True) ?hr ?hp (fun _ hk => hk) trivial (Below.refl _ _) (Nat.le_refl _) (by simp) ?_; (case hd => rfl); (case hg => rfl); (case hr => first | (go_simp; done) | (go_simp; rfl)); (case hp => exact (Reps.none _ _))
 intro v589 w31 ho32 hb hg_ hnew_
 clear hg_ hnew_
 (first | rw [← Ny588.out] at ho32 | (simp only [Int.reduceToNat] at ho32; rw [← Ny588.out] at ho32))
 have HO590 := Az.mk (Kd.R_lower ho32 (bwZ bw_26)); replace HB := Az.mk (bwT bw_26 hb)
 clear hb ho32
 refine hK.out _ _ trivial (fun hHeld => ?_)
 clear hK K
 refine norm_ (a' := ?_) ?_ ?_
 rotate_left
 ·show Act.put _ (some 19) _ = _
  exact acq
 refine one_ (i := 4) (N := some 23) #[T,T,T,T,T,T,T,T,F,F] rfl rfl (one_of HT_.out (by kernel_rfl)) (by decide) (fun K hK => ?_)
 refine Kd.R_append_rows_step (Kd.int .i64) (w0 := w) w.heap.size (by rfl) (.tmp 19) (.tmp 22) 24 3 (.int .i64 0) 8 rfl Try.underlying24 info3 rfl (by decide) (by omega) v589 y588 (l0.drop ((ji21) : Int).toNat) _ _ _ (fun _ => True) (fun _ => False) rfl rfl ?aO ?aR (fun _ _ h => h) (fun _ h => h.elim) ?aF ?aB ?aS ?aL ?_
 (case aR => first | (rw [← show (l0.drop ((ji21) : Int).toNat).length = (l0.length - (ji21).toNat) from List.length_drop]; repeat (first | exact (Kd.C_below HR591.out HB.out) | (with_reducible refine Kd.C_alloc ?_ _) | (with_reducible refine Kd.C_drewN ?_ _) | (with_reducible refine Kd.C_drew ?_))) | (repeat (first | exact (Kd.C_below HR591.out HB.out) | (with_reducible refine Kd.C_alloc ?_ _) | (with_reducible refine Kd.C_drewN ?_ _) | (with_reducible refine Kd.C_drew ?_))))
 (case aB => exact bw_26)
 (case aF => exact (fun _ _ => trivial))
 (case aO => exact (kR HO590.out))
 (case aS => exact (bwZ bw_26))
 (case aL => have := LMc24.out; have hlx_ := (show (l0.drop ((ji21) : Int).toNat).length = (l0.length - (ji21).toNat) from List.length_drop); omega)
 intro v593 w33 ho hb hg hat
 rw [← Ny592.out] at ho
 have n0_ := Az.mk (hb)
 have n1_ := Az.mk (ho)
 clear HB
 clear HO590
 have HB := n0_
 have HO594 := n1_
 clear n0_ n1_
 clear ho hb hg hat
 refine hK.out _ _ trivial (fun hHeld => ?_)
 clear hK K
 refine norm_ (a' := ?_) ?_ ?_
 rotate_left
 ·show Act.put _ (some 23) _ = _
  exact acq
 refine one_ (i := 8) (N := some 27) #[T,T,T,T,T,T,T,T,T,F] rfl rfl (one_of HT_.out (by kernel_rfl)) (by decide) (fun K hK => ?_)
 refine Kd.R_append_rows_step (Kd.int .i64) (w0 := w) w.heap.size (by rfl) (.tmp 23) (.tmp 26) 24 3 (.int .i64 0) 8 rfl Try.underlying24 info3 rfl (by decide) (by omega) v593 y592 (l0.take ((ji21) : Int).toNat) _ _ _ (fun _ => True) (fun _ => False) rfl rfl ?aO ?aR (fun _ _ h => h) (fun _ h => h.elim) ?aF ?aB ?aS ?aL ?_
 (case aR => first | (refine Eq.mp (congrArg (fun m_ => ReadsRow _ _ _ _ m_ (l0.take ((ji21) : Int).toNat)) (show (l0.take ((ji21) : Int).toNat).length = (ji21).toNat from (by rw [List.length_take]; have h_ : ((ji21) : Int) ≤ (l0.length : Int) := of_decide_eq_true am; omega))) ?_; repeat (first | exact (Kd.C_below HR595.out HB.out) | (with_reducible refine Kd.C_alloc ?_ _) | (with_reducible refine Kd.C_drewN ?_ _) | (with_reducible refine Kd.C_drew ?_))) | (repeat (first | exact (Kd.C_below HR595.out HB.out) | (with_reducible refine Kd.C_alloc ?_ _) | (with_reducible refine Kd.C_drewN ?_ _) | (with_reducible refine Kd.C_drew ?_))))
 (case aB => exact bw_26)
 (case aF => exact (fun _ _ => trivial))
 (case aO => exact (kR HO594.out))
 (case aS => exact (bwZ bw_26))
 (case aL => have := LMc27.out; have hlx_ := (show (l0.take ((ji21) : Int).toNat).length = (ji21).toNat from (by rw [List.length_take]; have h_ : ((ji21) : Int) ≤ (l0.length : Int) := of_decide_eq_true am; omega)); omega)
 intro v597 w34 ho hb hg hat
 rw [← Ny596.out] at ho
 have n0_ := Az.mk (hb)
 have n1_ := Az.mk (ho)
 clear HB
 clear HO594
 have HB := n0_
 have HO598 := n1_
 clear n0_ n1_
 clear ho hb hg hat
 refine hK.out _ _ trivial (fun hHeld => ?_)
 clear hK K
 refine norm_ (a' := ?_) ?_ ?_
 rotate_left
 ·show Act.put _ (some 27) _ = _
  exact acq
 refine pu (i := 9) (N := some 4) #[T,T,T,T,T,T,T,T,T,T] (any_of HT_.out (by kernel_rfl)) ?_
 refine done_ (done_of HT_.out (by kernel_rfl)) ?_
 try go_wp2
 go_ret
 exact ⟨_, by first | rfl | (simp [eWn, eWs] <;> rfl) | (simp only [← hji21]; first | rfl | (simp [eWn, eWs] <;> rfl)) | (simp [*, eWn, eWs] <;> rfl), kR HO598.out, bw_26⟩

/-! ### spec_TurnWord: function 29 -/
def spec_TurnWord.f (k : Nat) (l0 : List Int) (a1 : Int) : Option (List Int) := (spec_IsWord.f k l0).bind fun t599 => (if t599 = true then ((spec_l2Turn.f l0 a1).bind fun t600 => (some t600)) else (some (([] : List Int))))
set_option maxHeartbeats 8000000 in
set_option maxRecDepth 100000 in
theorem spec_TurnWord.calls (k : Nat) (A0 : Option Addr) (c0 : Nat) (l0 : List Int) (a1 : Int) (r : List Int) (w : World) (hr0 : Kd.C (Kd.int .i64) w A0 l0.length l0) (hc0 : l0.length ≤ c0) (h : spec_TurnWord.f k l0 a1 = some r) :
  Calls Try.prog 29 #[.slice A0 l0.length c0, .int .i64 a1] w fun e w' => ∃ v0_ : Value, e = .returned (v0_) ∧ Kd.R (Kd.int .i64) 3 w' w.heap.size (fun _ => True) v0_ r ∧ Below w.heap.size w w' := by
 have HR0 := Az.mk hr0
 have HC0 := Az.mk hc0
 clear hr0 hc0
 have HB := Az.mk (Below.refl w.heap.size w)
 have H : ((spec_IsWord.f k l0).bind fun t599 => (if t599 = true then ((spec_l2Turn.f l0 a1).bind fun t600 => (some t600)) else (some (([] : List Int))))) = some r := h
 clear h
 replace H := bez H
 obtain ⟨t599, A3, H⟩ := H
 try dsimp only at H
 by_cases c4 : t599 = true
 ·subst c4
  rw [if_pos rfl] at H
  replace H := bez H
  obtain ⟨t600, A5, H⟩ := H
  replace H : (some t600) = some r := H
  obtain rfl := Option.some.inj H
  go_enter Try.func29, Try.ntmps29
  go_wp2_with (first | ((with_reducible refine gtC (f := 51) rfl ?_); refine clz Try.func51 (some 6) #[.slice A0 l0.length c0] ?_; (with_reducible refine (spec_IsWord.calls k _ _ l0 true _ ?side1 ?side2 A3.out).mono ?_); (case side1 => exact kC HR0.out); (case side2 => exact HC0.out); rintro e w' ⟨rfl, ⟨nd, rfl⟩⟩; refine ⟨_, rfl, ?_⟩) | ((with_reducible refine gtC (f := 55) rfl ?_); refine clz Try.func55 (some 11) #[.slice A0 l0.length c0, .int .i64 a1] ?_; (with_reducible refine (spec_l2Turn.calls _ _ l0 a1 t600 _ ?side1 ?side2 A5.out).mono ?_); (case side1 => exact kC HR0.out); (case side2 => exact HC0.out); rintro e w6 ⟨v601, rfl, ho0, hb⟩; refine ⟨_, rfl, ?_⟩; have HO602 := Az.mk (Kd.R_lower ho0 (bwZ bw_26)); replace HB := Az.mk (bwT bw_26 hb); (try clear hb); (try clear ho0)))
  go_ret
  exact ⟨_, rq1, kR HO602.out, bw_26⟩
 replace c4 := Bool.eq_false_iff.mpr c4
 subst c4
 rw [if_neg ff] at H
 obtain ⟨y603, hy⟩ : ∃ y_ : List Int, y_ = (([] : List Int)) := ⟨_, rfl⟩
 replace H : (some y603) = some r := rh
 have Ny603 := Az.mk hy
 clear hy
 obtain rfl := Option.some.inj H
 go_enter Try.func29, Try.ntmps29
 go_wp2_with (first | ((with_reducible refine gtC (f := 51) rfl ?_); refine clz Try.func51 (some 6) #[.slice A0 l0.length c0] ?_; (with_reducible refine (spec_IsWord.calls k _ _ l0 false _ ?side1 ?side2 A3.out).mono ?_); (case side1 => exact kC HR0.out); (case side2 => exact HC0.out); rintro e w' ⟨rfl, ⟨nd, rfl⟩⟩; refine ⟨_, rfl, ?_⟩) | ((with_reducible refine gtD (N := 8) rfl ?_); refine Kd.R_lit (Kd.int .i64) _ 3 ?hg (N := 8) ?hd (xs := ([] : List Int)) (inner := []) (ok := fun _ => True) (okp := fun _ => True) ?hr ?hp (fun _ hk => hk) trivial (Below.refl _ _) (Nat.le_refl _) (by simp) ?_; (case hd => rfl); (case hg => rfl); (case hr => first | (go_simp; done) | (go_simp; rfl)); (case hp => exact (Reps.none _ _)); intro v604 w7 ho8 hb hg_ hnew_; clear hg_ hnew_; (first | rw [← Ny603.out] at ho8 | (simp only [Int.reduceToNat] at ho8; rw [← Ny603.out] at ho8)); have HO605 := Az.mk (Kd.R_lower ho8 (bwZ bw_26)); replace HB := Az.mk (bwT bw_26 hb); clear hb ho8))
 go_ret
 exact ⟨_, rq1, kR HO605.out, bw_26⟩

end Go.Proofs.Ytkmjcdlhlhefdaa.P
