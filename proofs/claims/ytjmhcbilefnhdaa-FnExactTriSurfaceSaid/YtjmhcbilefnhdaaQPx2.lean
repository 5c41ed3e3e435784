-- By this session's driver (wip/tools/mk.py) of the kit's print program, over several statements at once. Not trusted: Lean checks it.
import Derived.Test.YtjmhcbilefnhdaaQPx0
import Derived.Test.YtjmhcbilefnhdaaQPx1
namespace Go.Proofs.Ytjmhcbilefnhdaa.P
open Go.RowKit Go.Proofs.YtjmhcbilefnhdaaW.PrintWords Go.Proofs.YtjmhcbilefnhdaaW.PrintLast Go.Proofs.YtjmhcbilefnhdaaW.PrintMore
attribute [local go_sem] max2_int min2_int max_two min_two max_three min_three max_four min_four   -- for this text's walks alone
set_option linter.unusedVariables false
set_option linter.unusedSimpArgs false

/-! ### spec_IsTriangulation: function 11 -/
mutual
def spec_IsTriangulation.j0 : Nat → List (List Int) → Int → Bool → Option (Bool)
 | 0, _, _, _ => none
 | k + 1, x0, x3, x20 => if x20 = true then (some false) else (if 0 ≤ (wrap64 ((wrap64 (2 * x3)) + 1)) then (if (wrap64 ((wrap64 (2 * x3)) + 1) : Int).toNat ≤ 281474976710656 then (spec_IsTriangulation.l0 k x0 x3 (List.replicate (wrap64 ((wrap64 (2 * x3)) + 1) : Int).toNat false) 0) else (none)) else (none))
def spec_IsTriangulation.l0 : Nat → List (List Int) → Int → List Bool → Int → Option (Bool)
 | 0, _, _, _, _ => none
 | k + 1, x0, x3, x4, x5 => if x5 < (x0.length : Int) then (if 0 ≤ x5 then (if ((rd_L1 x0 x5).length : Int) = 3 then (spec_IsTriangulation.l1 k x0 x3 x4 x5 0) else (some false)) else (none)) else (some true)
def spec_IsTriangulation.l1 : Nat → List (List Int) → Int → List Bool → Int → Int → Option (Bool)
 | 0, _, _, _, _, _ => none
 | k + 1, x0, x3, x4, x5, x6 => if x6 < 3 then (if 0 ≤ x5 then (if x5 < (x0.length : Int) then (if 0 ≤ x6 then (if x6 < ((rd_L1 x0 x5).length : Int) then (if (rd (rd_L1 x0 x5) x6) = 0 then (some false) else ((spec_l1In.f (rd (rd_L1 x0 x5) x6) (wrap64 (-x3)) x3).bind fun t110 => (if t110 = true then (if 0 ≤ (wrap64 (x3 + (rd (rd_L1 x0 x5) x6))) then (if (wrap64 (x3 + (rd (rd_L1 x0 x5) x6))) < (x4.length : Int) then (if rdOf false x4 (wrap64 (x3 + (rd (rd_L1 x0 x5) x6))) = true then (some false) else (spec_IsTriangulation.l1 k x0 x3 (x4.set ((wrap64 (x3 + (rd (rd_L1 x0 x5) x6))) : Int).toNat true) x5 (wrap64 (x6 + 1)))) else (none)) else (none)) else (some false)))) else (none)) else (none)) else (none)) else (none)) else (spec_IsTriangulation.l0 k x0 x3 x4 (wrap64 (x5 + 1)))
end
def spec_IsTriangulation.f (k : Nat) (l0 : List (List Int)) : Option (Bool) := if ((l0.length : Int) % 2) = 0 then ((spec_l1In.f (wrap64 (Int.tdiv (wrap64 (3 * (l0.length : Int))) 2)) 3 9).bind fun t103 => (spec_IsTriangulation.j0 k l0 (wrap64 (Int.tdiv (wrap64 (3 * (l0.length : Int))) 2)) (!t103))) else (spec_IsTriangulation.j0 k l0 (wrap64 (Int.tdiv (wrap64 (3 * (l0.length : Int))) 2)) true)
theorem spec_IsTriangulation.mono_l : ∀ k, (∀ y0 y1 y2, LeO (spec_IsTriangulation.j0 k y0 y1 y2) (spec_IsTriangulation.j0 (k + 1) y0 y1 y2)) ∧ (∀ y0 y1 y2 y3, LeO (spec_IsTriangulation.l0 k y0 y1 y2 y3) (spec_IsTriangulation.l0 (k + 1) y0 y1 y2 y3)) ∧ (∀ y0 y1 y2 y3 y4, LeO (spec_IsTriangulation.l1 k y0 y1 y2 y3 y4) (spec_IsTriangulation.l1 (k + 1) y0 y1 y2 y3 y4))
 | 0 => ⟨fun _ _ _ r h => by simp [spec_IsTriangulation.j0] at h, fun _ _ _ _ r h => by simp [spec_IsTriangulation.l0] at h, fun _ _ _ _ _ r h => by simp [spec_IsTriangulation.l1] at h⟩
 | k + 1 => by
  obtain ⟨ih0, ih1, ih2⟩ := spec_IsTriangulation.mono_l k
  refine ⟨?_, ?_, ?_⟩
  ·intro y0 y1 y2
   unfold spec_IsTriangulation.j0
   repeat' first
   | (with_reducible exact ih0 _ _ _)
   | (with_reducible exact ih1 _ _ _ _)
   | (with_reducible exact ih2 _ _ _ _ _)
   | (with_reducible exact LeO.refl _)
   | (with_reducible exact LeO.none _)
   | (with_reducible refine LeO.ite ?_ ?_)
   | (with_reducible refine LeO.bind ?_ (fun _ => ?_))
   | exact ih0 _ _ _
   | exact ih1 _ _ _ _
   | exact ih2 _ _ _ _ _
   | exact LeO.none _
   | refine LeO.ite ?_ ?_
   | refine LeO.bind ?_ (fun _ => ?_)
  ·intro y0 y1 y2 y3
   unfold spec_IsTriangulation.l0
   repeat' first
   | (with_reducible exact ih0 _ _ _)
   | (with_reducible exact ih1 _ _ _ _)
   | (with_reducible exact ih2 _ _ _ _ _)
   | (with_reducible exact LeO.refl _)
   | (with_reducible exact LeO.none _)
   | (with_reducible refine LeO.ite ?_ ?_)
   | (with_reducible refine LeO.bind ?_ (fun _ => ?_))
   | exact ih0 _ _ _
   | exact ih1 _ _ _ _
   | exact ih2 _ _ _ _ _
   | exact LeO.none _
   | refine LeO.ite ?_ ?_
   | refine LeO.bind ?_ (fun _ => ?_)
  ·intro y0 y1 y2 y3 y4
   unfold spec_IsTriangulation.l1
   repeat' first
   | (with_reducible exact ih0 _ _ _)
   | (with_reducible exact ih1 _ _ _ _)
   | (with_reducible exact ih2 _ _ _ _ _)
   | (with_reducible exact LeO.refl _)
   | (with_reducible exact LeO.none _)
   | (with_reducible refine LeO.ite ?_ ?_)
   | (with_reducible refine LeO.bind ?_ (fun _ => ?_))
   | exact ih0 _ _ _
   | exact ih1 _ _ _ _
   | exact ih2 _ _ _ _ _
   | exact LeO.none _
   | refine LeO.ite ?_ ?_
   | refine LeO.bind ?_ (fun _ => ?_)
theorem spec_IsTriangulation.mono : ∀ a0 k, LeO (spec_IsTriangulation.f k a0) (spec_IsTriangulation.f (k + 1) a0) := by
 intro a0 k
 obtain ⟨ih0, ih1, ih2⟩ := spec_IsTriangulation.mono_l k
 unfold spec_IsTriangulation.f
 repeat' first
   | (with_reducible exact ih0 _ _ _)
   | (with_reducible exact ih1 _ _ _ _)
   | (with_reducible exact ih2 _ _ _ _ _)
   | (with_reducible exact LeO.refl _)
   | (with_reducible exact LeO.none _)
   | (with_reducible refine LeO.ite ?_ ?_)
   | (with_reducible refine LeO.bind ?_ (fun _ => ?_))
   | exact ih0 _ _ _
   | exact ih1 _ _ _ _
   | exact ih2 _ _ _ _ _
   | exact LeO.none _
   | refine LeO.ite ?_ ?_
   | refine LeO.bind ?_ (fun _ => ?_)
set_option maxHeartbeats 8000000 in
set_option maxRecDepth 100000 in
theorem spec_IsTriangulation.calls (k : Nat) (A0 : Option Addr) (c0 : Nat) (l0 : List (List Int)) (r : Bool) (w : World) (hr0 : Kd.C (Kd.slice 3 (Kd.int .i64)) w A0 l0.length l0) (hc0 : l0.length ≤ c0) (h : spec_IsTriangulation.f k l0 = some r) :
  Calls Try.prog 11 #[.slice A0 l0.length c0] w fun e w' => e = .returned (.bool r) ∧ Below w.heap.size w w' := by
 have HR0 := Az.mk hr0
 have HC0 := Az.mk hc0
 clear hr0 hc0
 have HB := Az.mk (Below.refl w.heap.size w)
 have H : (if ((l0.length : Int) % 2) = 0 then ((spec_l1In.f (wrap64 (Int.tdiv (wrap64 (3 * (l0.length : Int))) 2)) 3 9).bind fun t103 => (spec_IsTriangulation.j0 k l0 (wrap64 (Int.tdiv (wrap64 (3 * (l0.length : Int))) 2)) (!t103))) else (spec_IsTriangulation.j0 k l0 (wrap64 (Int.tdiv (wrap64 (3 * (l0.length : Int))) 2)) true)) = some r := h
 clear h
 have HC2 := Az.mk H
 clear H
 go_enter Try.func11, Try.ntmps11
 go_upto_region 2 with (fail)
 go_cut [20] (fun v20 wc => ∃ (kq : Nat) (x20_1 : Bool), v20 = .bool x20_1 ∧ Az (spec_IsTriangulation.j0 kq l0 (wrap64 (Int.tdiv (wrap64 (3 * (l0.length : Int))) 2)) x20_1 = some r) ∧ Az (kq ≤ k) ∧ Az (Below w.heap.size w wc))
 case first =>
  have H := HC2.out
  clear HC2
  by_cases c3 : ((l0.length : Int) % 2) = 0
  ·rw [if_pos c3] at H
   have c3b0 : (((l0.length : Int) % 2) == 0) = true := beq_iff_eq.mpr c3
   have c3b1 : (((l0.length : Int) % 2) != 0) = false := bne_eq_false_iff_eq.mpr c3
   clear c3
   (first | rw [c3b0] | (simp only [i64_w, i32_w]; rw [c3b0]) | skip)
   replace H := Option.bind_eq_some_iff.mp H
   obtain ⟨t103, A40, H⟩ := H
   replace H : (spec_IsTriangulation.j0 k l0 (wrap64 (Int.tdiv (wrap64 (3 * (l0.length : Int))) 2)) (!t103)) = some r := H
   have A4 := Az.mk A40
   clear A40
   have H' := Az.mk H
   clear H
   go_wp2_with (first | (go_at_call 24; (with_reducible refine (spec_l1In.calls (wrap64 (Int.tdiv (wrap64 (3 * (l0.length : Int))) 2)) 3 9 t103 _ A4.out).mono ?_); rintro e w' ⟨rfl, ⟨nd, rfl⟩⟩))
   go_meet
   case rel => exact ⟨_, (!t103), (by first | rfl | (simp; done) | (simp [*]; done)), H', ⟨by first | omega | exact Nat.le_refl _⟩, ⟨by repeat (first | (with_reducible first | exact HB.out | apply bwA | apply pbN | apply bwD) | exact HB.out)⟩⟩
  ·rw [if_neg c3] at H
   have c3b0 : (((l0.length : Int) % 2) == 0) = false := beq_eq_false_iff_ne.mpr c3
   have c3b1 : (((l0.length : Int) % 2) != 0) = true := bne_iff_ne.mpr c3
   (first | rw [c3b0] | (simp only [i64_w, i32_w]; rw [c3b0]) | skip)
   have H' := Az.mk H
   clear H
   go_wp2
   go_meet
   case rel => exact ⟨_, (true), (by first | rfl | (simp; done) | (simp [*]; done)), H', ⟨by first | omega | exact Nat.le_refl _⟩, ⟨by repeat (first | (with_reducible first | exact HB.out | apply bwA | apply pbN | apply bwD) | exact HB.out)⟩⟩
 case rest =>
  clear HC2
  try clear c1
  try clear p2
  try clear c3
  try clear c3b0
  try clear c3b1
  obtain ⟨kq, x20_1, rfl, HA, HJ1, HB⟩ := hcut
  cases kq with
  | zero => exact absurd HA.out (by simp [spec_IsTriangulation.j0])
  | succ kj1 =>
   have H := HA.out
   clear HA
   simp only [spec_IsTriangulation.j0] at H
   by_cases c5 : x20_1 = true
   ·subst c5
    have H1 : (some false) = some r := by rw [if_pos rfl] at H; exact H
    clear H
    have H := H1
    clear H1
    obtain rfl := Option.some.inj H
    go_wp2
    go_ret
    exact ⟨by first | rfl | (simp [eWn, eWs] <;> rfl) | (simp [*, eWn, eWs] <;> rfl), by repeat (first | (with_reducible first | exact HB.out | apply bwA | apply pbN | apply bwD) | exact HB.out)⟩
   ·replace c5 := Bool.eq_false_iff.mpr c5
    subst c5
    have H1 : (if 0 ≤ (wrap64 ((wrap64 (2 * (wrap64 (Int.tdiv (wrap64 (3 * (l0.length : Int))) 2)))) + 1)) then (if (wrap64 ((wrap64 (2 * (wrap64 (Int.tdiv (wrap64 (3 * (l0.length : Int))) 2)))) + 1) : Int).toNat ≤ 281474976710656 then (spec_IsTriangulation.l0 kj1 l0 (wrap64 (Int.tdiv (wrap64 (3 * (l0.length : Int))) 2)) (List.replicate (wrap64 ((wrap64 (2 * (wrap64 (Int.tdiv (wrap64 (3 * (l0.length : Int))) 2)))) + 1) : Int).toNat false) 0) else (none)) else (none)) = some r := by rw [if_neg (show ¬ (false = true) by decide)] at H; exact H
    clear H
    have H := H1
    clear H1
    obtain ⟨ji6, hji6⟩ : ∃ j_ : Int, (wrap64 ((wrap64 (2 * (wrap64 (Int.tdiv (wrap64 (3 * (l0.length : Int))) 2)))) + 1)) = j_ := ⟨_, rfl⟩
    replace H : (if 0 ≤ (ji6) then (if (ji6 : Int).toNat ≤ 281474976710656 then (spec_IsTriangulation.l0 kj1 l0 (wrap64 (Int.tdiv (wrap64 (3 * (l0.length : Int))) 2)) (List.replicate (ji6 : Int).toNat false) 0) else (none)) else (none)) = some r := by first | (rw [hji6] at H; exact H) | (simp only [hji6] at H ⊢; exact H)
    have hji6w : (IntKind.i64.wrap ((wrap64 (2 * (wrap64 (Int.tdiv (wrap64 (3 * (l0.length : Int))) 2)))) + 1)) = ji6 := (i64_w _).trans hji6
    by_cases c7 : 0 ≤ (ji6)
    ·rw [if_pos c7] at H
     have c7b0 := eq_true c7
     have c7b1 : decide (0 ≤ (ji6)) = true := decide_eq_true c7
     clear c7
     by_cases c8 : (ji6 : Int).toNat ≤ 281474976710656
     ·rw [if_pos c8] at H
      have c8b0 := eq_true c8
      have c8b1 : decide ((ji6 : Int).toNat ≤ 281474976710656) = true := decide_eq_true c8
      clear c8
      obtain ⟨y104, hy104⟩ : ∃ y_ : List Bool, y_ = (List.replicate (ji6 : Int).toNat false) := ⟨_, rfl⟩
      replace H : (spec_IsTriangulation.l0 kj1 l0 (wrap64 (Int.tdiv (wrap64 (3 * (l0.length : Int))) 2)) y104 0) = some r := by first | (rw [hy104]; with_reducible exact H) | (have H2_ := (Option.bind_some _ _).symm.trans H; rw [hy104]; with_reducible exact H2_) | (have H2_ := (Option.bind_some _ _).symm.trans H; with_reducible exact H2_) | with_reducible exact H | (rw [hy104]; exact H) | exact H
      have Ny104 := Az.mk hy104
      clear hy104
      have H' := Az.mk H
      clear H
      go_wp2_with (first | ((with_reducible refine gtD (N := 24) rfl ?_); refine Kd.R_make Kd.bool _ 4 rfl (N := 24) rfl 49 _ _ rfl ji6 rfl rfl Try.underlying49 (.bool false) 1 info4 rfl (by decide) (by omega) false (ok := fun _ => True) (okp := fun _ => True) rfl (fun _ hk => hk) trivial (of_decide_eq_true (by first | (with_reducible assumption) | assumption)) (Nat.le_trans (Nat.mul_le_mul_right _ (of_decide_eq_true (by first | (with_reducible assumption) | assumption) : ji6.toNat ≤ 281474976710656)) (by omega)) (Below.refl _ _) (Nat.le_refl _) ?_; intro v105 w9 ho10 hb hg_ hnew_; clear hg_ hnew_; (first | rw [← Ny104.out] at ho10 | (simp only [Int.reduceToNat] at ho10; rw [← Ny104.out] at ho10)); have n0_ := Az.mk (Kd.R_lower ho10 (bwZ (by repeat (first | (with_reducible first | exact HB.out | apply bwA | apply pbN | apply bwD) | exact HB.out)))); have n1_ := Az.mk (bwT (by repeat (first | (with_reducible first | exact HB.out | apply bwA | apply pbN | apply bwD) | exact HB.out)) hb); clear HB; have HO106 := n0_; have HB := n1_; clear n0_ n1_; clear hb ho10))
      go_loopg [5] kj1 (fun kq v5 w' => ∃ (x4_2 : List Bool) (x5_2 : Int), v5 = .int .i64 x5_2 ∧ Az (spec_IsTriangulation.l0 kq l0 (wrap64 (Int.tdiv (wrap64 (3 * (l0.length : Int))) 2)) x4_2 x5_2 = some r) ∧ Az (kq ≤ kj1) ∧ Az (Kd.R Kd.bool 4 w' w.heap.size (fun _ => True) v105 x4_2) ∧ Az (Below w.heap.size w w'))
      case atStart => exact ⟨(y104), (0), (by first | rfl | (simp; done) | (simp [*]; done)), H', ⟨Nat.le_refl _⟩, ⟨by (with_reducible repeat (first | apply Kd.R_alloc | apply Kd.R_drewN | apply Kd.R_drew)); exact HO106.out⟩, ⟨by repeat (first | (with_reducible first | exact HB.out | apply bwA | apply pbN | apply bwD) | exact HB.out)⟩⟩
      case round =>
       clear H'
       try clear c1
       try clear p2
       try clear c3
       try clear c3b0
       try clear c3b1
       try clear c5
       try clear p6
       try clear c7
       try clear c7b0
       try clear c7b1
       try clear c8
       try clear c8b0
       try clear c8b1
       try clear p2
       obtain ⟨x4_2, x5_2, rfl, HA, HK2, HO_4, HB⟩ := hrel
       cases gk with
       | zero => exact absurd HA.out (by simp [spec_IsTriangulation.l0])
       | succ k2 =>
        have H := HA.out
        clear HA
        simp only [spec_IsTriangulation.l0] at H
        by_cases c11 : x5_2 < (l0.length : Int)
        ·rw [if_pos c11] at H
         have c11b0 : decide (x5_2 < (l0.length : Int)) = true := decide_eq_true c11
         clear c11
         by_cases c12 : 0 ≤ x5_2
         ·rw [if_pos c12] at H
          have c12b0 : decide (0 ≤ x5_2) = true := decide_eq_true c12
          clear c12
          by_cases c13 : ((rd_L1 l0 x5_2).length : Int) = 3
          ·rw [if_pos c13] at H
           have c13b0 : (((rd_L1 l0 x5_2).length : Int) == 3) = true := beq_iff_eq.mpr c13
           have c13b1 : (((rd_L1 l0 x5_2).length : Int) != 3) = false := bne_eq_false_iff_eq.mpr c13
           clear c13
           have H' := Az.mk H
           clear H
           have p107 : 0 ≤ (x5_2 : Int) := of_decide_eq_true (by first | (with_reducible assumption) | assumption)
           have q107 : x5_2 < (l0.length : Int) := of_decide_eq_true (by first | (with_reducible assumption) | assumption)
           obtain ⟨ad107, A107_0, c107_0, e107, hx107_0, hl107_0, hi107_0⟩ := at_L1 HR0.out x5_2 p107 q107
           cases e107
           replace hx107_0 := (HB.out.cell (World.block_lt_of_cell? w _ hx107_0)).trans hx107_0
           have HR107_0 := Az.mk hi107_0
           have HC107_0 := Az.mk hl107_0
           clear hi107_0 hl107_0
           replace p107 := eq_true p107
           replace q107 := eq_true q107
           go_wp2
           go_loopg [6] k2 (fun kq v6 w' => ∃ (x4_3 : List Bool) (x6_3 : Int), v6 = .int .i64 x6_3 ∧ Az (spec_IsTriangulation.l1 kq l0 (wrap64 (Int.tdiv (wrap64 (3 * (l0.length : Int))) 2)) x4_3 x5_2 x6_3 = some r) ∧ Az (kq ≤ k2) ∧ Az (Kd.R Kd.bool 4 w' w.heap.size (fun _ => True) v105 x4_3) ∧ Az (Below w.heap.size w w'))
           case atStart => exact ⟨(x4_2), (0), (by first | rfl | (simp; done) | (simp [*]; done)), H', ⟨Nat.le_refl _⟩, ⟨by (with_reducible repeat (first | apply Kd.R_alloc | apply Kd.R_drewN | apply Kd.R_drew)); exact HO_4.out⟩, ⟨by repeat (first | (with_reducible first | exact HB.out | apply bwA | apply pbN | apply bwD) | exact HB.out)⟩⟩
           case round =>
            clear H'
            try clear c1
            try clear p1
            try clear q1
            try clear hx1
            try clear p2
            try clear c3
            try clear c3b0
            try clear c3b1
            try clear c5
            try clear p6
            try clear c7
            try clear c7b0
            try clear c7b1
            try clear c8
            try clear c8b0
            try clear c8b1
            try clear c10
            try clear p10
            try clear q10
            try clear hx10
            try clear c11
            try clear c11b0
            try clear c12
            try clear c12b0
            try clear c13
            try clear c13b0
            try clear c13b1
            try clear hx107_0
            try clear p107
            try clear p2
            try clear p6
            try clear q107
            obtain ⟨x4_3, x6_3, rfl, HA, HK3, HO_4, HB⟩ := hrel
            cases gk with
            | zero => exact absurd HA.out (by simp [spec_IsTriangulation.l1])
            | succ k3 =>
             have H := HA.out
             clear HA
             simp only [spec_IsTriangulation.l1] at H
             by_cases c14 : x6_3 < 3
             ·rw [if_pos c14] at H
              have c14b0 : decide (x6_3 < 3) = true := decide_eq_true c14
              clear c14
              by_cases c15 : 0 ≤ x5_2
              ·rw [if_pos c15] at H
               have c15b0 : decide (0 ≤ x5_2) = true := decide_eq_true c15
               clear c15
               by_cases c16 : x5_2 < (l0.length : Int)
               ·rw [if_pos c16] at H
                have c16b0 : decide (x5_2 < (l0.length : Int)) = true := decide_eq_true c16
                clear c16
                by_cases c17 : 0 ≤ x6_3
                ·rw [if_pos c17] at H
                 have c17b0 : decide (0 ≤ x6_3) = true := decide_eq_true c17
                 clear c17
                 by_cases c18 : x6_3 < ((rd_L1 l0 x5_2).length : Int)
                 ·rw [if_pos c18] at H
                  have c18b0 : decide (x6_3 < ((rd_L1 l0 x5_2).length : Int)) = true := decide_eq_true c18
                  clear c18
                  by_cases c19 : (rd (rd_L1 l0 x5_2) x6_3) = 0
                  ·rw [if_pos c19] at H
                   have c19b0 : ((rd (rd_L1 l0 x5_2) x6_3) == 0) = true := beq_iff_eq.mpr c19
                   have c19b1 : ((rd (rd_L1 l0 x5_2) x6_3) != 0) = false := bne_eq_false_iff_eq.mpr c19
                   clear c19
                   obtain rfl := Option.some.inj H
                   have p108 : 0 ≤ (x5_2 : Int) := of_decide_eq_true (by first | (with_reducible assumption) | assumption)
                   have q108 : x5_2 < (l0.length : Int) := of_decide_eq_true (by first | (with_reducible assumption) | assumption)
                   obtain ⟨ad108, A108_0, c108_0, e108, hx108_0, hl108_0, hi108_0⟩ := at_L1 HR0.out x5_2 p108 q108
                   obtain rfl : ad107 = ad108 := (by injection e108)
                   replace hx108_0 := (HB.out.cell (World.block_lt_of_cell? w _ hx108_0)).trans hx108_0
                   have HR108_0 := Az.mk hi108_0
                   have HC108_0 := Az.mk hl108_0
                   clear hi108_0 hl108_0
                   replace p108 := eq_true p108
                   replace q108 := eq_true q108
                   have p109 : 0 ≤ (x6_3 : Int) := of_decide_eq_true (by first | (with_reducible assumption) | assumption)
                   have q109 : x6_3 < ((rd_L1 l0 x5_2).length : Int) := of_decide_eq_true (by first | (with_reducible assumption) | assumption)
                   obtain ⟨ad109, e109, hx109_0⟩ := Kd.at_int HR108_0.out x6_3 p109 q109
                   cases e109
                   replace hx109_0 := (HB.out.cell (World.block_lt_of_cell? w _ hx109_0)).trans hx109_0
                   replace p109 := eq_true p109
                   replace q109 := eq_true q109
                   go_wp2
                   go_ret
                   exact ⟨by first | rfl | (simp [eWn, eWs] <;> rfl) | (simp only [← hji6]; first | rfl | (simp [eWn, eWs] <;> rfl)) | (simp [*, eWn, eWs] <;> rfl), by repeat (first | (with_reducible first | exact HB.out | apply bwA | apply pbN | apply bwD) | exact HB.out)⟩
                  ·rw [if_neg c19] at H
                   have c19b0 : ((rd (rd_L1 l0 x5_2) x6_3) == 0) = false := beq_eq_false_iff_ne.mpr c19
                   have c19b1 : ((rd (rd_L1 l0 x5_2) x6_3) != 0) = true := bne_iff_ne.mpr c19
                   replace H := Option.bind_eq_some_iff.mp H
                   obtain ⟨t110, A200, H⟩ := H
                   replace H : (if t110 = true then (if 0 ≤ (wrap64 ((wrap64 (Int.tdiv (wrap64 (3 * (l0.length : Int))) 2)) + (rd (rd_L1 l0 x5_2) x6_3))) then (if (wrap64 ((wrap64 (Int.tdiv (wrap64 (3 * (l0.length : Int))) 2)) + (rd (rd_L1 l0 x5_2) x6_3))) < (x4_3.length : Int) then (if rdOf false x4_3 (wrap64 ((wrap64 (Int.tdiv (wrap64 (3 * (l0.length : Int))) 2)) + (rd (rd_L1 l0 x5_2) x6_3))) = true then (some false) else (spec_IsTriangulation.l1 k3 l0 (wrap64 (Int.tdiv (wrap64 (3 * (l0.length : Int))) 2)) (x4_3.set ((wrap64 ((wrap64 (Int.tdiv (wrap64 (3 * (l0.length : Int))) 2)) + (rd (rd_L1 l0 x5_2) x6_3))) : Int).toNat true) x5_2 (wrap64 (x6_3 + 1)))) else (none)) else (none)) else (some false)) = some r := H
                   have A20 := Az.mk A200
                   clear A200
                   by_cases c21 : t110 = true
                   ·subst c21
                    have H1 : (if 0 ≤ (wrap64 ((wrap64 (Int.tdiv (wrap64 (3 * (l0.length : Int))) 2)) + (rd (rd_L1 l0 x5_2) x6_3))) then (if (wrap64 ((wrap64 (Int.tdiv (wrap64 (3 * (l0.length : Int))) 2)) + (rd (rd_L1 l0 x5_2) x6_3))) < (x4_3.length : Int) then (if rdOf false x4_3 (wrap64 ((wrap64 (Int.tdiv (wrap64 (3 * (l0.length : Int))) 2)) + (rd (rd_L1 l0 x5_2) x6_3))) = true then (some false) else (spec_IsTriangulation.l1 k3 l0 (wrap64 (Int.tdiv (wrap64 (3 * (l0.length : Int))) 2)) (x4_3.set ((wrap64 ((wrap64 (Int.tdiv (wrap64 (3 * (l0.length : Int))) 2)) + (rd (rd_L1 l0 x5_2) x6_3))) : Int).toNat true) x5_2 (wrap64 (x6_3 + 1)))) else (none)) else (none)) = some r := by rw [if_pos rfl] at H; exact H
                    clear H
                    have H := H1
                    clear H1
                    obtain ⟨ji22, hji22⟩ : ∃ j_ : Int, (wrap64 ((wrap64 (Int.tdiv (wrap64 (3 * (l0.length : Int))) 2)) + (rd (rd_L1 l0 x5_2) x6_3))) = j_ := ⟨_, rfl⟩
                    replace H : (if 0 ≤ (ji22) then (if (ji22) < (x4_3.length : Int) then (if rdOf false x4_3 (ji22) = true then (some false) else (spec_IsTriangulation.l1 k3 l0 (wrap64 (Int.tdiv (wrap64 (3 * (l0.length : Int))) 2)) (x4_3.set ((ji22) : Int).toNat true) x5_2 (wrap64 (x6_3 + 1)))) else (none)) else (none)) = some r := by first | (rw [hji22] at H; exact H) | (simp only [hji22] at H ⊢; exact H)
                    (try rw [hji22] at A20)
                    have hji22w : (IntKind.i64.wrap ((wrap64 (Int.tdiv (wrap64 (3 * (l0.length : Int))) 2)) + (rd (rd_L1 l0 x5_2) x6_3))) = ji22 := (i64_w _).trans hji22
                    by_cases c23 : 0 ≤ (ji22)
                    ·rw [if_pos c23] at H
                     have c23b0 : decide (0 ≤ (ji22)) = true := decide_eq_true c23
                     clear c23
                     by_cases c24 : (ji22) < (x4_3.length : Int)
                     ·rw [if_pos c24] at H
                      have c24b0 : decide ((ji22) < (x4_3.length : Int)) = true := decide_eq_true c24
                      clear c24
                      obtain ⟨bq25, hbq25⟩ : ∃ b_ : Bool, b_ = (rdOf false x4_3 (ji22)) := ⟨_, rfl⟩
                      replace H : (if bq25 = true then (some false) else (spec_IsTriangulation.l1 k3 l0 (wrap64 (Int.tdiv (wrap64 (3 * (l0.length : Int))) 2)) (x4_3.set ((ji22) : Int).toNat true) x5_2 (wrap64 (x6_3 + 1)))) = some r := by rw [← hbq25] at H; exact H
                      have Nbq25 := Az.mk hbq25
                      clear hbq25
                      by_cases c26 : bq25 = true
                      ·subst c26
                       have H1 : (some false) = some r := by rw [if_pos rfl] at H; exact H
                       clear H
                       have H := H1
                       clear H1
                       obtain rfl := Option.some.inj H
                       have p108 : 0 ≤ (x5_2 : Int) := of_decide_eq_true (by first | (with_reducible assumption) | assumption)
                       have q108 : x5_2 < (l0.length : Int) := of_decide_eq_true (by first | (with_reducible assumption) | assumption)
                       obtain ⟨ad108, A108_0, c108_0, e108, hx108_0, hl108_0, hi108_0⟩ := at_L1 HR0.out x5_2 p108 q108
                       obtain rfl : ad107 = ad108 := (by injection e108)
                       replace hx108_0 := (HB.out.cell (World.block_lt_of_cell? w _ hx108_0)).trans hx108_0
                       have HR108_0 := Az.mk hi108_0
                       have HC108_0 := Az.mk hl108_0
                       clear hi108_0 hl108_0
                       replace p108 := eq_true p108
                       replace q108 := eq_true q108
                       have p109 : 0 ≤ (x6_3 : Int) := of_decide_eq_true (by first | (with_reducible assumption) | assumption)
                       have q109 : x6_3 < ((rd_L1 l0 x5_2).length : Int) := of_decide_eq_true (by first | (with_reducible assumption) | assumption)
                       obtain ⟨ad109, e109, hx109_0⟩ := Kd.at_int HR108_0.out x6_3 p109 q109
                       cases e109
                       replace hx109_0 := (HB.out.cell (World.block_lt_of_cell? w _ hx109_0)).trans hx109_0
                       replace p109 := eq_true p109
                       replace q109 := eq_true q109
                       go_wp2_with (first | (go_at_call 24; (with_reducible refine (spec_l1In.calls (rd (rd_L1 l0 x5_2) x6_3) (wrap64 (-(wrap64 (Int.tdiv (wrap64 (3 * (l0.length : Int))) 2)))) (wrap64 (Int.tdiv (wrap64 (3 * (l0.length : Int))) 2)) true _ A20.out).mono ?_); rintro e w' ⟨rfl, ⟨nd, rfl⟩⟩; obtain ⟨Ao27, co27, eo27⟩ := Kd.R_slice HO_4.out; subst eo27; have p111 : 0 ≤ ((ji22) : Int) := of_decide_eq_true (by first | (with_reducible assumption) | assumption); have q111 : (ji22) < (x4_3.length : Int) := of_decide_eq_true (by first | (with_reducible assumption) | assumption); obtain ⟨ad111, e111, hx111_0⟩ := Kd.at_bool (Kd.R_reads' HO_4.out).2.2 (ji22) p111 q111; (try rw [← Nbq25.out] at hx111_0); cases e111; replace p111 := eq_true p111; replace q111 := eq_true q111))
                       go_ret
                       exact ⟨by first | rfl | (simp [eWn, eWs] <;> rfl) | (simp only [← hji6, ← hji22]; first | rfl | (simp [eWn, eWs] <;> rfl)) | (simp [*, eWn, eWs] <;> rfl), by repeat (first | (with_reducible first | exact HB.out | apply bwA | apply pbN | apply bwD) | exact HB.out)⟩
                      ·replace c26 := Bool.eq_false_iff.mpr c26
                       subst c26
                       have H1 : (spec_IsTriangulation.l1 k3 l0 (wrap64 (Int.tdiv (wrap64 (3 * (l0.length : Int))) 2)) (x4_3.set ((ji22) : Int).toNat true) x5_2 (wrap64 (x6_3 + 1))) = some r := by rw [if_neg (show ¬ (false = true) by decide)] at H; exact H
                       clear H
                       have H := H1
                       clear H1
                       obtain ⟨y112, hy112⟩ : ∃ y_ : List Bool, y_ = (x4_3.set ((ji22) : Int).toNat true) := ⟨_, rfl⟩
                       replace H : (spec_IsTriangulation.l1 k3 l0 (wrap64 (Int.tdiv (wrap64 (3 * (l0.length : Int))) 2)) y112 x5_2 (wrap64 (x6_3 + 1))) = some r := by first | (rw [hy112]; with_reducible exact H) | (have H2_ := (Option.bind_some _ _).symm.trans H; rw [hy112]; with_reducible exact H2_) | (have H2_ := (Option.bind_some _ _).symm.trans H; with_reducible exact H2_) | with_reducible exact H | (rw [hy112]; exact H) | exact H
                       have Ny112 := Az.mk hy112
                       clear hy112
                       have H' := Az.mk H
                       clear H
                       have p108 : 0 ≤ (x5_2 : Int) := of_decide_eq_true (by first | (with_reducible assumption) | assumption)
                       have q108 : x5_2 < (l0.length : Int) := of_decide_eq_true (by first | (with_reducible assumption) | assumption)
                       obtain ⟨ad108, A108_0, c108_0, e108, hx108_0, hl108_0, hi108_0⟩ := at_L1 HR0.out x5_2 p108 q108
                       obtain rfl : ad107 = ad108 := (by injection e108)
                       replace hx108_0 := (HB.out.cell (World.block_lt_of_cell? w _ hx108_0)).trans hx108_0
                       have HR108_0 := Az.mk hi108_0
                       have HC108_0 := Az.mk hl108_0
                       clear hi108_0 hl108_0
                       replace p108 := eq_true p108
                       replace q108 := eq_true q108
                       have p109 : 0 ≤ (x6_3 : Int) := of_decide_eq_true (by first | (with_reducible assumption) | assumption)
                       have q109 : x6_3 < ((rd_L1 l0 x5_2).length : Int) := of_decide_eq_true (by first | (with_reducible assumption) | assumption)
                       obtain ⟨ad109, e109, hx109_0⟩ := Kd.at_int HR108_0.out x6_3 p109 q109
                       cases e109
                       replace hx109_0 := (HB.out.cell (World.block_lt_of_cell? w _ hx109_0)).trans hx109_0
                       replace p109 := eq_true p109
                       replace q109 := eq_true q109
                       go_wp2_with (first | (go_at_call 24; (with_reducible refine (spec_l1In.calls (rd (rd_L1 l0 x5_2) x6_3) (wrap64 (-(wrap64 (Int.tdiv (wrap64 (3 * (l0.length : Int))) 2)))) (wrap64 (Int.tdiv (wrap64 (3 * (l0.length : Int))) 2)) true _ A20.out).mono ?_); rintro e w' ⟨rfl, ⟨nd, rfl⟩⟩; (try (rw [drewN_self wr]; generalize hq_ : World.drewN wr _ = wr; have n0_ : Az (Kd.R Kd.bool 4 wr w.heap.size (fun _ => True) v105 x4_3) := ⟨by rw [← hq_]; exact (by (with_reducible repeat (first | apply Kd.R_alloc | apply Kd.R_drewN | apply Kd.R_drew)); exact HO_4.out)⟩; have n1_ : Az (Below w.heap.size w wr) := ⟨by rw [← hq_]; exact (by repeat (first | (with_reducible first | exact HB.out | apply bwA | apply pbN | apply bwD) | exact HB.out))⟩; clear HO_4 HB hq_; have HO_4 := n0_; have HB := n1_; clear n0_ n1_)); obtain ⟨Ao29, co29, eo29⟩ := Kd.R_slice HO_4.out; subst eo29; have p111 : 0 ≤ ((ji22) : Int) := of_decide_eq_true (by first | (with_reducible assumption) | assumption); have q111 : (ji22) < (x4_3.length : Int) := of_decide_eq_true (by first | (with_reducible assumption) | assumption); obtain ⟨ad111, e111, hx111_0⟩ := Kd.at_bool (Kd.R_reads' HO_4.out).2.2 (ji22) p111 q111; (try rw [← Nbq25.out] at hx111_0); cases e111; replace p111 := eq_true p111; replace q111 := eq_true q111; have p28 : 0 ≤ ((ji22) : Int) := of_decide_eq_true (by first | (with_reducible assumption) | assumption); have q28 : ((ji22) : Int) < ((x4_3.length : Int) : Int) := of_decide_eq_true (by first | (with_reducible assumption) | assumption); obtain ⟨go28, co28, eo28, gb28, gl28, cl28, HG28⟩ := Kd.R_form HO_4.out (by omega); (first | cases eo28 | (injection eo28 with ea_ en_ ec_; (first | subst ea_ | (injection ea_ with ea_; subst ea_)); subst ec_; clear en_)); have GB28 := Az.mk gb28; have GG28 := Az.mk HG28; clear gb28 gl28 HG28; (first | simp only [add_plain] at hx111_0 | skip); obtain ⟨hx28_0, hf28_0⟩ := Kd.R_celln false HO_4.out ((ji22) : Int) p28 q28; replace p28 := eq_true p28; replace q28 := eq_true q28; obtain ⟨hy30_, hz30_⟩ := Kd.R_celln false HO_4.out ((ji22) : Int) (of_decide_eq_true (by first | (with_reducible assumption) | assumption)) (of_decide_eq_true (by first | (with_reducible assumption) | assumption)); have HP30 := Kd.R_putg HO_4.out ((ji22) : Int) true) | ((with_reducible refine gate_store (t := 4) (p := 70) rfl ?_); refine store_event (t := 4) (p := 70) (v := ?vo_w31) (w1 := (wr.setCell ⟨go28, ((ji22) : Int).toNat, none⟩ (.bool true))) ?hg ?ho ?hn ?hr ?_; (case ho => rfl); (case hg => rfl); (case hn => rfl); (case hr => first | (go_simp; done) | (go_simp; rfl)); intro w31 hw; have hg : wr.grownBy w31 (some go28) := (by rw [hw]; exact HP30.2); have hp_ : Kd.R Kd.bool 4 w31 w.heap.size (fun _ => True) (.slice (some ⟨go28, 0, none⟩) x4_3.length co29) y112 := (by rw [hw, Ny112.out]; exact HP30.1); clear HP30; have n0_ := Az.mk (hp_); have n1_ := Az.mk ((by rw [hw]; exact bwS (HB.out) GB28.out : Below w.heap.size w w31)); clear HO_4; clear HB; have HO_4 := n0_; have HB := n1_; clear n0_ n1_; clear hg hw hp_))
                       go_roundg k3
                       case measure => have := HJ1.out; have := HK2.out; have := HK3.out; omega
                       case rel => exact ⟨(y112), (wrap64 (x6_3 + 1)), (by first | rfl | (simp; done) | (simp [*]; done)), H', ⟨by have := HJ1.out; have := HK2.out; have := HK3.out; omega⟩, ⟨by (with_reducible repeat (first | apply Kd.R_alloc | apply Kd.R_drewN | apply Kd.R_drew)); exact HO_4.out⟩, ⟨by repeat (first | (with_reducible first | exact HB.out | apply bwA | apply pbN | apply bwD) | exact HB.out)⟩⟩
                     ·rw [if_neg c24] at H
                      exact absurd H (by simp)
                    ·rw [if_neg c23] at H
                     exact absurd H (by simp)
                   ·replace c21 := Bool.eq_false_iff.mpr c21
                    subst c21
                    have H1 : (some false) = some r := by rw [if_neg (show ¬ (false = true) by decide)] at H; exact H
                    clear H
                    have H := H1
                    clear H1
                    obtain rfl := Option.some.inj H
                    have p108 : 0 ≤ (x5_2 : Int) := of_decide_eq_true (by first | (with_reducible assumption) | assumption)
                    have q108 : x5_2 < (l0.length : Int) := of_decide_eq_true (by first | (with_reducible assumption) | assumption)
                    obtain ⟨ad108, A108_0, c108_0, e108, hx108_0, hl108_0, hi108_0⟩ := at_L1 HR0.out x5_2 p108 q108
                    obtain rfl : ad107 = ad108 := (by injection e108)
                    replace hx108_0 := (HB.out.cell (World.block_lt_of_cell? w _ hx108_0)).trans hx108_0
                    have HR108_0 := Az.mk hi108_0
                    have HC108_0 := Az.mk hl108_0
                    clear hi108_0 hl108_0
                    replace p108 := eq_true p108
                    replace q108 := eq_true q108
                    have p109 : 0 ≤ (x6_3 : Int) := of_decide_eq_true (by first | (with_reducible assumption) | assumption)
                    have q109 : x6_3 < ((rd_L1 l0 x5_2).length : Int) := of_decide_eq_true (by first | (with_reducible assumption) | assumption)
                    obtain ⟨ad109, e109, hx109_0⟩ := Kd.at_int HR108_0.out x6_3 p109 q109
                    cases e109
                    replace hx109_0 := (HB.out.cell (World.block_lt_of_cell? w _ hx109_0)).trans hx109_0
                    replace p109 := eq_true p109
                    replace q109 := eq_true q109
                    go_wp2_with (first | (go_at_call 24; (with_reducible refine (spec_l1In.calls (rd (rd_L1 l0 x5_2) x6_3) (wrap64 (-(wrap64 (Int.tdiv (wrap64 (3 * (l0.length : Int))) 2)))) (wrap64 (Int.tdiv (wrap64 (3 * (l0.length : Int))) 2)) false _ A20.out).mono ?_); rintro e w' ⟨rfl, ⟨nd, rfl⟩⟩))
                    go_ret
                    exact ⟨by first | rfl | (simp [eWn, eWs] <;> rfl) | (simp only [← hji6]; first | rfl | (simp [eWn, eWs] <;> rfl)) | (simp [*, eWn, eWs] <;> rfl), by repeat (first | (with_reducible first | exact HB.out | apply bwA | apply pbN | apply bwD) | exact HB.out)⟩
                 ·rw [if_neg c18] at H
                  exact absurd H (by simp)
                ·rw [if_neg c17] at H
                 exact absurd H (by simp)
               ·rw [if_neg c16] at H
                exact absurd H (by simp)
              ·rw [if_neg c15] at H
               exact absurd H (by simp)
             ·rw [if_neg c14] at H
              have c14b0 : decide (x6_3 < 3) = false := decide_eq_false c14
              clear c14
              have H' := Az.mk H
              clear H
              go_wp2
              go_roundg k3
              case measure => have := HJ1.out; have := HK2.out; have := HK3.out; omega
              case rel => exact ⟨(x4_3), (wrap64 (x5_2 + 1)), (by first | rfl | (simp; done) | (simp [*]; done)), H', ⟨by have := HJ1.out; have := HK2.out; have := HK3.out; omega⟩, ⟨by (with_reducible repeat (first | apply Kd.R_alloc | apply Kd.R_drewN | apply Kd.R_drew)); exact HO_4.out⟩, ⟨by repeat (first | (with_reducible first | exact HB.out | apply bwA | apply pbN | apply bwD) | exact HB.out)⟩⟩
          ·rw [if_neg c13] at H
           have c13b0 : (((rd_L1 l0 x5_2).length : Int) == 3) = false := beq_eq_false_iff_ne.mpr c13
           have c13b1 : (((rd_L1 l0 x5_2).length : Int) != 3) = true := bne_iff_ne.mpr c13
           obtain rfl := Option.some.inj H
           have p107 : 0 ≤ (x5_2 : Int) := of_decide_eq_true (by first | (with_reducible assumption) | assumption)
           have q107 : x5_2 < (l0.length : Int) := of_decide_eq_true (by first | (with_reducible assumption) | assumption)
           obtain ⟨ad107, A107_0, c107_0, e107, hx107_0, hl107_0, hi107_0⟩ := at_L1 HR0.out x5_2 p107 q107
           cases e107
           replace hx107_0 := (HB.out.cell (World.block_lt_of_cell? w _ hx107_0)).trans hx107_0
           have HR107_0 := Az.mk hi107_0
           have HC107_0 := Az.mk hl107_0
           clear hi107_0 hl107_0
           replace p107 := eq_true p107
           replace q107 := eq_true q107
           go_wp2
           go_ret
           exact ⟨by first | rfl | (simp [eWn, eWs] <;> rfl) | (simp only [← hji6]; first | rfl | (simp [eWn, eWs] <;> rfl)) | (simp [*, eWn, eWs] <;> rfl), by repeat (first | (with_reducible first | exact HB.out | apply bwA | apply pbN | apply bwD) | exact HB.out)⟩
         ·rw [if_neg c12] at H
          exact absurd H (by simp)
        ·rw [if_neg c11] at H
         have c11b0 : decide (x5_2 < (l0.length : Int)) = false := decide_eq_false c11
         clear c11
         obtain rfl := Option.some.inj H
         go_wp2
         go_ret
         exact ⟨by first | rfl | (simp [eWn, eWs] <;> rfl) | (simp only [← hji6]; first | rfl | (simp [eWn, eWs] <;> rfl)) | (simp [*, eWn, eWs] <;> rfl), by repeat (first | (with_reducible first | exact HB.out | apply bwA | apply pbN | apply bwD) | exact HB.out)⟩
     ·rw [if_neg c8] at H
      exact absurd H (by simp)
    ·rw [if_neg c7] at H
     exact absurd H (by simp)

end Go.Proofs.Ytjmhcbilefnhdaa.P
