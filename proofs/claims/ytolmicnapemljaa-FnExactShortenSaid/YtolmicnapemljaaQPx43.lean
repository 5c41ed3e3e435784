-- By this session's driver (wip/tools/mk.py) of the kit's print program, over several statements at once. Not trusted: Lean checks it.
import Derived.Test.YtolmicnapemljaaQPx0
import Derived.Test.YtolmicnapemljaaQPx8
import Derived.Test.YtolmicnapemljaaQPx19
import Derived.Test.YtolmicnapemljaaQPx20
import Derived.Test.YtolmicnapemljaaQPx34
namespace Go.Proofs.Ytolmicnapemljaa.P
open Go.RowKit Go.Proofs.YtolmicnapemljaaW.PrintWords Go.Proofs.YtolmicnapemljaaW.PrintLast Go.Proofs.YtolmicnapemljaaW.PrintMore
attribute [local go_sem] max2_int min2_int max_two min_two max_three min_three max_four min_four   -- for this text's walks alone
set_option linter.unusedVariables false
set_option linter.unusedSimpArgs false
theorem bw_43 {n : Nat} {v v' : World} (h : Below n v v' := by repeat (first | (with_reducible first | exact HB.out | apply bwA | apply pbN | apply bwD) | exact HB.out)) : Below n v v' := h
theorem ln_43 {P : Prop} (h : P := by (try simp only [List.map_toArray, List.map_cons, List.map_nil]); first | done | rfl | (simp only [List.length_drop, List.length_take]; rfl)) : P := h

/-! ### spec_l5Copy: function 106 -/
def spec_l5Copy.l0 : Nat → List (List Int) → List (List Int) → Int → Option ((List (List Int)))
 | 0, _, _, _ => none
 | k + 1, x0, x3, x4 => if x4 < (x0.length : Int) then ((some (([] : List Int) : List Int)).bind fun y697 => (if 0 ≤ x4 then (if y697.length + (rd_L1 x0 x4).length < 17592186044416 then (if x3.length < 5864062014805 then (spec_l5Copy.l0 k x0 (x3 ++ [(y697 ++ (rd_L1 x0 x4))]) (wrap64 (x4 + 1))) else (none)) else (none)) else (none))) else (some x3)
def spec_l5Copy.f (k : Nat) (l0 : List (List Int)) : Option ((List (List Int))) := spec_l5Copy.l0 k l0 (([] : List (List Int))) 0
theorem spec_l5Copy.mono_l : ∀ k, (∀ y0 y1 y2, LeO (spec_l5Copy.l0 k y0 y1 y2) (spec_l5Copy.l0 (k + 1) y0 y1 y2))
 | 0 => fun _ _ _ r h => by simp [spec_l5Copy.l0] at h
 | k + 1 => by
  have ih0 := spec_l5Copy.mono_l k
  ·intro y0 y1 y2
   unfold spec_l5Copy.l0
   repeat' first
   | (with_reducible exact ih0 _ _ _)
   | (with_reducible exact LeO.refl _)
   | (with_reducible exact LeO.none _)
   | (with_reducible refine LeO.ite ?_ ?_)
   | (with_reducible refine LeO.bind ?_ (fun _ => ?_))
   | exact ih0 _ _ _
   | exact LeO.none _
   | refine LeO.ite ?_ ?_
   | refine LeO.bind ?_ (fun _ => ?_)
theorem spec_l5Copy.mono : ∀ a0 k, LeO (spec_l5Copy.f k a0) (spec_l5Copy.f (k + 1) a0) := by
 intro a0 k
 have ih0 := spec_l5Copy.mono_l k
 unfold spec_l5Copy.f
 repeat' first
   | (with_reducible exact ih0 _ _ _)
   | (with_reducible exact LeO.refl _)
   | (with_reducible exact LeO.none _)
   | (with_reducible refine LeO.ite ?_ ?_)
   | (with_reducible refine LeO.bind ?_ (fun _ => ?_))
   | exact ih0 _ _ _
   | exact LeO.none _
   | refine LeO.ite ?_ ?_
   | refine LeO.bind ?_ (fun _ => ?_)
set_option maxHeartbeats 8000000 in
set_option maxRecDepth 100000 in
theorem spec_l5Copy.calls (k : Nat) (A0 : Option Addr) (c0 : Nat) (l0 : List (List Int)) (r : List (List Int)) (w : World) (hr0 : Kd.C (Kd.slice 3 (Kd.int .i64)) w A0 l0.length l0) (hc0 : l0.length ≤ c0) (h : spec_l5Copy.f k l0 = some r) :
  Calls Try.prog 106 #[.slice A0 l0.length c0] w fun e w' => ∃ v0_ : Value, e = .returned (v0_) ∧ Kd.S (Kd.slice 3 (Kd.int .i64)) 24 w' w.heap.size (fun _ => True) v0_ r ∧ Below w.heap.size w w' := by
 have HR0 := Az.mk hr0
 have HC0 := Az.mk hc0
 clear hr0 hc0
 have HB := Az.mk (Below.refl w.heap.size w)
 have H : (spec_l5Copy.l0 k l0 (([] : List (List Int))) 0) = some r := h
 clear h
 obtain ⟨y694, hy694⟩ : ∃ y_ : List (List Int), y_ = (([] : List (List Int))) := ⟨_, rfl⟩
 replace H : (spec_l5Copy.l0 k l0 y694 0) = some r := by first | (rw [hy694]; with_reducible exact H) | (have H2_ := (Option.bind_some _ _).symm.trans H; rw [hy694]; with_reducible exact H2_) | (have H2_ := (Option.bind_some _ _).symm.trans H; with_reducible exact H2_) | with_reducible exact H | (rw [hy694]; exact H) | exact H
 have Ny694 := Az.mk hy694
 clear hy694
 have H' := Az.mk H
 clear H
 go_enter Try.func106, Try.ntmps106
 go_wp2_with (first | ((with_reducible refine gtD (N := 5) rfl ?_); refine Kd.S_lit (Kd.slice 3 (Kd.int .i64)) _ 24 ?hg (N := 5) ?hd (xs := ([] : List (List Int))) (inner := []) (ok := fun _ => True) (okp := fun _ => True) ?hr ?hp (fun _ hk => hk) trivial (Below.refl _ _) (Nat.le_refl _) (by simp) ?_; (case hd => rfl); (case hg => rfl); (case hr => first | (go_simp; done) | (go_simp; rfl)); (case hp => exact (Reps.none _ _)); intro v695 w2 ho3 hb hg_ hnew_; clear hg_ hnew_; (first | rw [← Ny694.out] at ho3 | (simp only [Int.reduceToNat] at ho3; rw [← Ny694.out] at ho3)); have n0_ := Az.mk (Kd.S_lower ho3 (bwZ bw_43)); have n1_ := Az.mk (bwT bw_43 hb); clear HB; have HO696 := n0_; have HB := n1_; clear n0_ n1_; clear hb ho3))
 go_loopg [3, 4] k (fun kq v3 v4 w' => ∃ (x3_1 : List (List Int)) (x4_1 : Int), v4 = .int .i64 x4_1 ∧ Az (spec_l5Copy.l0 kq l0 x3_1 x4_1 = some r) ∧ Az (kq ≤ k) ∧ Az (Kd.S (Kd.slice 3 (Kd.int .i64)) 24 w' w.heap.size (fun _ => True) v3 x3_1) ∧ Az (Below w.heap.size w w'))
 case atStart => exact ⟨(y694), (0), (by first | rfl | (simp; done) | (simp [*]; done)), H', ⟨Nat.le_refl _⟩, ⟨by (with_reducible repeat (first | apply Kd.S_alloc | apply Kd.S_drewN | apply Kd.S_drew)); exact HO696.out⟩, ⟨by repeat (first | (with_reducible first | exact HB.out | apply bwA | apply pbN | apply bwD) | exact HB.out)⟩⟩
 case round =>
  clear H'
  try clear c1
  try clear p2
  obtain ⟨x3_1, x4_1, rfl, HA, HK1, HO_3, HB⟩ := hrel
  cases gk with
  | zero => exact absurd HA.out (by simp [spec_l5Copy.l0])
  | succ k1 =>
   have H := HA.out
   clear HA
   simp only [spec_l5Copy.l0] at H
   by_cases c4 : x4_1 < (l0.length : Int)
   rotate_left
   ·rw [if_neg c4] at H
    have c4b0 : decide (x4_1 < (l0.length : Int)) = false := decide_eq_false c4
    clear c4
    obtain rfl := Option.some.inj H
    go_wp2
    go_ret
    exact ⟨_, by first | rfl | (simp [eWn, eWs] <;> rfl) | (simp [*, eWn, eWs] <;> rfl), by (with_reducible repeat (first | apply Kd.S_alloc | apply Kd.S_drewN | apply Kd.S_drew)); exact HO_3.out, bw_43⟩
   rw [if_pos c4] at H
   have c4b0 : decide (x4_1 < (l0.length : Int)) = true := decide_eq_true c4
   clear c4
   obtain ⟨y697, hy697⟩ : ∃ y_ : List Int, y_ = (([] : List Int)) := ⟨_, rfl⟩
   replace H : (if 0 ≤ x4_1 then (if y697.length + (rd_L1 l0 x4_1).length < 17592186044416 then (if x3_1.length < 5864062014805 then (spec_l5Copy.l0 k1 l0 (x3_1 ++ [(y697 ++ (rd_L1 l0 x4_1))]) (wrap64 (x4_1 + 1))) else (none)) else (none)) else (none)) = some r := by first | (rw [hy697]; with_reducible exact H) | (have H2_ := (Option.bind_some _ _).symm.trans H; rw [hy697]; with_reducible exact H2_) | (have H2_ := (Option.bind_some _ _).symm.trans H; with_reducible exact H2_) | with_reducible exact H | (rw [hy697]; exact H) | exact H
   have Ny697 := Az.mk hy697
   clear hy697
   by_cases c5 : 0 ≤ x4_1
   rotate_left
   ·rw [if_neg c5] at H
    exact absurd H (by simp)
   rw [if_pos c5] at H
   have c5b0 : decide (0 ≤ x4_1) = true := decide_eq_true c5
   clear c5
   by_cases c6 : y697.length + (rd_L1 l0 x4_1).length < 17592186044416
   rotate_left
   ·rw [if_neg c6] at H
    exact absurd H (by simp)
   rw [if_pos c6] at H
   have LMc6 := Az.mk c6
   clear c6
   obtain ⟨y701, hy701⟩ : ∃ y_ : List Int, y_ = (y697 ++ (rd_L1 l0 x4_1)) := ⟨_, rfl⟩
   replace H : (if x3_1.length < 5864062014805 then (spec_l5Copy.l0 k1 l0 (x3_1 ++ [y701]) (wrap64 (x4_1 + 1))) else (none)) = some r := by first | (rw [hy701]; with_reducible exact H) | (have H2_ := (Option.bind_some _ _).symm.trans H; rw [hy701]; with_reducible exact H2_) | (have H2_ := (Option.bind_some _ _).symm.trans H; with_reducible exact H2_) | with_reducible exact H | (rw [hy701]; exact H) | exact H
   have Ny701 := Az.mk hy701
   clear hy701
   by_cases c7 : x3_1.length < 5864062014805
   rotate_left
   ·rw [if_neg c7] at H
    exact absurd H (by simp)
   rw [if_pos c7] at H
   have LMc7 := Az.mk c7
   clear c7
   obtain ⟨y704, hy704⟩ : ∃ y_ : List (List Int), y_ = (x3_1 ++ [y701]) := ⟨_, rfl⟩
   replace H : (spec_l5Copy.l0 k1 l0 y704 (wrap64 (x4_1 + 1))) = some r := by first | (rw [hy704]; with_reducible exact H) | (have H2_ := (Option.bind_some _ _).symm.trans H; rw [hy704]; with_reducible exact H2_) | (have H2_ := (Option.bind_some _ _).symm.trans H; with_reducible exact H2_) | with_reducible exact H | (rw [hy704]; exact H) | exact H
   have Ny704 := Az.mk hy704
   clear hy704
   have H' := Az.mk H
   clear H
   go_wp2_with (first | ((with_reducible refine gtD (N := 13) rfl ?_); refine Kd.R_lit (Kd.int .i64) _ 3 ?hg (N := 13) ?hd (xs := ([] : List Int)) (inner := []) (ok := fun _ => True) (okp := fun _ => True) ?hr ?hp (fun _ hk => hk) trivial (Below.refl _ _) (Nat.le_refl _) (by simp) ?_; (case hd => rfl); (case hg => rfl); (case hr => first | (go_simp; done) | (go_simp; rfl)); (case hp => exact (Reps.none _ _)); intro v698 w8 ho9 hb hg_ hnew_; clear hg_ hnew_; (first | rw [← Ny697.out] at ho9 | (simp only [Int.reduceToNat] at ho9; rw [← Ny697.out] at ho9)); have n0_ := Az.mk (Kd.S_elder' (by (with_reducible repeat (first | apply Kd.S_alloc | apply Kd.S_drewN | apply Kd.S_drew)); exact HO_3.out) (Kd.R_base ho9) hb); have n1_ := Az.mk (Kd.R_lower ho9 (bwZ bw_43)); have n2_ := Az.mk (bwT bw_43 hb); clear HO_3; clear HB; have HO_3 := n0_; have HO699 := n1_; have HB := n2_; clear n0_ n1_ n2_; clear hb ho9; have p700 : 0 ≤ (x4_1 : Int) := of_decide_eq_true (by first | (with_reducible assumption) | assumption); have q700 : x4_1 < (l0.length : Int) := of_decide_eq_true (by first | (with_reducible assumption) | assumption); obtain ⟨ad700, A700_0, c700_0, e700, hx700_0, hl700_0, hi700_0⟩ := at_L1 HR0.out x4_1 p700 q700; cases e700; replace hx700_0 := (HB.out.cell (World.block_lt_of_cell? w _ hx700_0)).trans hx700_0; have HR700_0 := Az.mk hi700_0; have HC700_0 := Az.mk hl700_0; clear hi700_0 hl700_0; replace p700 := eq_true p700; replace q700 := eq_true q700) | ((with_reducible refine gate_builtin (b := .append) (xs := #[.tmp 13, .tmp 17]) rfl ?_); at_builtin; refine Kd.R_append_rows (Kd.int .i64) (w0 := w) w.heap.size rfl (.tmp 13) (.tmp 17) 24 3 (.int .i64 0) 8 rfl Try.underlying24 info3 rfl (by decide) (by omega) v698 y697 (rd_L1 l0 x4_1) _ _ _ (fun _ => True) (fun _ => False) rfl rfl ?aO ?aR (fun _ _ h => h) (fun _ h => h.elim) ?aF ?aB ?aS ?aL ?_; (case aR => repeat (first | exact (Kd.C_below HR700_0.out HB.out) | (with_reducible refine Kd.C_alloc ?_ _) | (with_reducible refine Kd.C_drewN ?_ _) | (with_reducible refine Kd.C_drew ?_))); (case aB => exact bw_43); (case aF => exact (fun _ _ => trivial)); (case aO => exact (by (with_reducible repeat (first | apply Kd.R_alloc | apply Kd.R_drewN | apply Kd.R_drew)); exact HO699.out)); (case aS => exact (bwZ bw_43)); (case aL => have := LMc6.out; omega); intro v702 w10 ho hb hg hat; rw [← Ny701.out] at ho; have n0_ := Az.mk (Kd.S_after (ok := (fun _ => True)) (by (with_reducible repeat (first | apply Kd.S_alloc | apply Kd.S_drewN | apply Kd.S_drew)); exact HO_3.out) hg hat); have n1_ := Az.mk (hb); have n2_ := Az.mk (ho); clear HO_3; clear HB; clear HO699; have HO_3 := n0_; have HB := n1_; have HO703 := n2_; clear n0_ n1_ n2_; clear ho hb hg hat; obtain ⟨Ao12, co12, eo12⟩ := Kd.R_slice HO703.out; subst eo12) | ((with_reducible refine gate_builtin (b := .append) (xs := #[.tmp 12, .tmp 19]) rfl ?_); at_builtin; refine Kd.S_append (Kd.slice 3 (Kd.int .i64)) (w0 := w) w.heap.size rfl (.tmp 12) (.tmp 19) 22 24 (.slice none 0 0) 24 rfl Try.underlying22 info24 rfl (by decide) (by omega) u3 x3_1 y701 [.slice Ao12 y701.length co12] (fun _ => True) (fun k_ => some k_ = (.slice Ao12 y701.length co12 : Value).ownBlock) rfl rfl ?aP (fun k_ hk_ => ((Kd.R_mono (ok' := fun k_ => ((fun _ => True)) k_ ∧ some k_ ≠ (u3 : Value).ownBlock) (Kd.R_apart' (HO703.out) (Kd.S_typed HO_3.out) (by decide)) (fun k_ hk => ⟨trivial, hk.2⟩))).1 k_ hk_.symm) ?aF ?aO ?aB ?aS ?aL ?_; (case aP => exact Kd.M_row (Kd.R_mono (Kd.R_tight rfl (Kd.R_mono (ok' := fun k_ => ((fun _ => True)) k_ ∧ some k_ ≠ (u3 : Value).ownBlock) (Kd.R_apart' (HO703.out) (Kd.S_typed HO_3.out) (by decide)) (fun k_ hk => ⟨trivial, hk.2⟩))) (fun _ h_ => h_))); (case aB => exact bw_43); (case aF => exact (fun _ _ => trivial)); (case aO => exact (by (with_reducible repeat (first | apply Kd.S_alloc | apply Kd.S_drewN | apply Kd.S_drew)); exact Kd.S_mono HO_3.out (fun k_ hk => ⟨trivial, fun e_ => hk.2 e_⟩))); (case aS => exact (bwZ bw_43)); (case aL => have := LMc7.out; omega); intro v705 w11 ho hb hg hat; rw [← Ny704.out] at ho; have n0_ := Az.mk (hb); have n1_ := Az.mk (ho); clear HB; clear HO_3; clear HO703; have HB := n0_; have HO706 := n1_; clear n0_ n1_; clear ho hb hg hat))
   go_roundg k1
   case measure => have := HK1.out; omega
   case rel => exact ⟨(y704), (wrap64 (x4_1 + 1)), (by first | rfl | (simp; done) | (simp [*]; done)), H', ⟨by have := HK1.out; omega⟩, ⟨by (with_reducible repeat (first | apply Kd.S_alloc | apply Kd.S_drewN | apply Kd.S_drew)); exact HO706.out⟩, ⟨by repeat (first | (with_reducible first | exact HB.out | apply bwA | apply pbN | apply bwD) | exact HB.out)⟩⟩

/-! ### spec_FlipEdge: function 42 -/
def spec_FlipEdge.f (k : Nat) (l0 : List (List Int)) (a1 : Int) : Option ((List (List Int)) × Bool) := (spec_CanFlip.f k l0 a1).bind fun t707 => (if t707 = true then ((spec_l16Find.f k l0 a1).bind fun bt708 => ((spec_l16Find.f k l0 (wrap64 (-a1))).bind fun bt710 => (if 0 ≤ bt708.1 then (if bt708.1 < (l0.length : Int) then (if 0 ≤ (Int.tmod (wrap64 (bt708.2 + 1)) 3) then (if (Int.tmod (wrap64 (bt708.2 + 1)) 3) < ((rd_L1 l0 bt708.1).length : Int) then (if 0 ≤ (Int.tmod (wrap64 (bt708.2 + 2)) 3) then (if (Int.tmod (wrap64 (bt708.2 + 2)) 3) < ((rd_L1 l0 bt708.1).length : Int) then (if 0 ≤ bt710.1 then (if bt710.1 < (l0.length : Int) then (if 0 ≤ (Int.tmod (wrap64 (bt710.2 + 1)) 3) then (if (Int.tmod (wrap64 (bt710.2 + 1)) 3) < ((rd_L1 l0 bt710.1).length : Int) then (if 0 ≤ (Int.tmod (wrap64 (bt710.2 + 2)) 3) then (if (Int.tmod (wrap64 (bt710.2 + 2)) 3) < ((rd_L1 l0 bt710.1).length : Int) then ((spec_l5Copy.f k l0).bind fun t720 => (if bt708.1 < (t720.length : Int) then (if bt710.1 < (t720.length : Int) then (some (((t720.set (bt708.1 : Int).toNat (([a1, rd (rd_L1 l0 bt708.1) (Int.tmod (wrap64 (bt708.2 + 2)) 3), rd (rd_L1 l0 bt710.1) (Int.tmod (wrap64 (bt710.2 + 1)) 3)] : List Int))).set (bt710.1 : Int).toNat (([wrap64 (-a1), rd (rd_L1 l0 bt710.1) (Int.tmod (wrap64 (bt710.2 + 2)) 3), rd (rd_L1 l0 bt708.1) (Int.tmod (wrap64 (bt708.2 + 1)) 3)] : List Int))), true)) else (none)) else (none))) else (none)) else (none)) else (none)) else (none)) else (none)) else (none)) else (none)) else (none)) else (none)) else (none)) else (none)) else (none)))) else (some ((([] : List (List Int))), false)))
theorem spec_FlipEdge.mono : ∀ a0 a1 k, LeO (spec_FlipEdge.f k a0 a1) (spec_FlipEdge.f (k + 1) a0 a1) := by
 intro a0 a1 k
 unfold spec_FlipEdge.f
 repeat' first
   | (with_reducible exact spec_CanFlip.mono _ _ _)
   | (with_reducible exact spec_l16Find.mono _ _ _)
   | (with_reducible exact spec_l5Copy.mono _ _)
   | (with_reducible exact LeO.refl _)
   | (with_reducible exact LeO.none _)
   | (with_reducible refine LeO.ite ?_ ?_)
   | (with_reducible refine LeO.bind ?_ (fun _ => ?_))
   | exact spec_CanFlip.mono _ _ _
   | exact spec_l16Find.mono _ _ _
   | exact spec_l5Copy.mono _ _
   | exact LeO.none _
   | refine LeO.ite ?_ ?_
   | refine LeO.bind ?_ (fun _ => ?_)
set_option maxHeartbeats 8000000 in
set_option maxRecDepth 100000 in
theorem spec_FlipEdge.calls (k : Nat) (A0 : Option Addr) (c0 : Nat) (l0 : List (List Int)) (a1 : Int) (r1 : List (List Int)) (r2 : Bool) (w : World) (hr0 : Kd.C (Kd.slice 3 (Kd.int .i64)) w A0 l0.length l0) (hc0 : l0.length ≤ c0) (h : spec_FlipEdge.f k l0 a1 = some (r1, r2)) :
  Calls Try.prog 42 #[.slice A0 l0.length c0, .int .i64 a1] w fun e w' => ∃ v0_ : Value, e = .returned (.tuple #[v0_, .bool r2]) ∧ Kd.S (Kd.slice 3 (Kd.int .i64)) 24 w' w.heap.size (fun _ => True) v0_ r1 ∧ Below w.heap.size w w' := by
 have HR0 := Az.mk hr0
 have HC0 := Az.mk hc0
 clear hr0 hc0
 have HB := Az.mk (Below.refl w.heap.size w)
 have H : ((spec_CanFlip.f k l0 a1).bind fun t707 => (if t707 = true then ((spec_l16Find.f k l0 a1).bind fun bt708 => ((spec_l16Find.f k l0 (wrap64 (-a1))).bind fun bt710 => (if 0 ≤ bt708.1 then (if bt708.1 < (l0.length : Int) then (if 0 ≤ (Int.tmod (wrap64 (bt708.2 + 1)) 3) then (if (Int.tmod (wrap64 (bt708.2 + 1)) 3) < ((rd_L1 l0 bt708.1).length : Int) then (if 0 ≤ (Int.tmod (wrap64 (bt708.2 + 2)) 3) then (if (Int.tmod (wrap64 (bt708.2 + 2)) 3) < ((rd_L1 l0 bt708.1).length : Int) then (if 0 ≤ bt710.1 then (if bt710.1 < (l0.length : Int) then (if 0 ≤ (Int.tmod (wrap64 (bt710.2 + 1)) 3) then (if (Int.tmod (wrap64 (bt710.2 + 1)) 3) < ((rd_L1 l0 bt710.1).length : Int) then (if 0 ≤ (Int.tmod (wrap64 (bt710.2 + 2)) 3) then (if (Int.tmod (wrap64 (bt710.2 + 2)) 3) < ((rd_L1 l0 bt710.1).length : Int) then ((spec_l5Copy.f k l0).bind fun t720 => (if bt708.1 < (t720.length : Int) then (if bt710.1 < (t720.length : Int) then (some (((t720.set (bt708.1 : Int).toNat (([a1, rd (rd_L1 l0 bt708.1) (Int.tmod (wrap64 (bt708.2 + 2)) 3), rd (rd_L1 l0 bt710.1) (Int.tmod (wrap64 (bt710.2 + 1)) 3)] : List Int))).set (bt710.1 : Int).toNat (([wrap64 (-a1), rd (rd_L1 l0 bt710.1) (Int.tmod (wrap64 (bt710.2 + 2)) 3), rd (rd_L1 l0 bt708.1) (Int.tmod (wrap64 (bt708.2 + 1)) 3)] : List Int))), true)) else (none)) else (none))) else (none)) else (none)) else (none)) else (none)) else (none)) else (none)) else (none)) else (none)) else (none)) else (none)) else (none)) else (none)))) else (some ((([] : List (List Int))), false)))) = some (r1, r2) := h
 clear h
 replace H := Option.bind_eq_some_iff.mp H
 obtain ⟨t707, A30, H⟩ := H
 try dsimp only at H
 have A3 := Az.mk A30
 clear A30
 by_cases c4 : t707 = true
 rotate_left
 ·replace c4 := Bool.eq_false_iff.mpr c4
  subst c4
  have H1 : (some ((([] : List (List Int))), false)) = some (r1, r2) := by rw [if_neg (show ¬ (false = true) by decide)] at H; exact H
  clear H
  have H := H1
  clear H1
  obtain ⟨y731, hy731⟩ : ∃ y_ : List (List Int), y_ = (([] : List (List Int))) := ⟨_, rfl⟩
  replace H : (some (y731, false)) = some (r1, r2) := by first | (rw [hy731]; with_reducible exact H) | (have H2_ := (Option.bind_some _ _).symm.trans H; rw [hy731]; with_reducible exact H2_) | (have H2_ := (Option.bind_some _ _).symm.trans H; with_reducible exact H2_) | with_reducible exact H | (rw [hy731]; exact H) | exact H
  have Ny731 := Az.mk hy731
  clear hy731
  simp only [Option.some.injEq, Prod.mk.injEq] at H
  obtain ⟨rfl, rfl⟩ := H
  go_enter Try.func42, Try.ntmps42
  go_wp2_with (first | ((with_reducible refine gtC (f := 81) rfl ?_); refine goesL_ (some 17) rfl rfl Try.func81 (by kernel_rfl) rfl #[.slice A0 l0.length c0, .int .i64 a1] rfl ln_43 ?_; (with_reducible refine (spec_CanFlip.calls k _ _ l0 a1 false _ ?side1 ?side2 A3.out).mono ?_); (case side1 => repeat (first | exact HR0.out | (with_reducible refine Kd.C_alloc ?_ _) | (with_reducible refine Kd.C_drewN ?_ _) | (with_reducible refine Kd.C_drew ?_))); (case side2 => exact HC0.out); rintro e w38 ⟨rfl, hb⟩; refine ⟨_, rfl, ?_⟩; have n0_ := Az.mk (bwT bw_43 hb); clear HB; have HB := n0_; clear n0_; (try clear hb); (try clear hb2); (try clear hk); (try clear hi)) | ((with_reducible refine gtD (N := 19) rfl ?_); refine Kd.S_lit (Kd.slice 3 (Kd.int .i64)) _ 24 ?hg (N := 19) ?hd (xs := ([] : List (List Int))) (inner := []) (ok := fun _ => True) (okp := fun _ => True) ?hr ?hp (fun _ hk => hk) trivial (Below.refl _ _) (Nat.le_refl _) (by simp) ?_; (case hd => rfl); (case hg => rfl); (case hr => first | (go_simp; done) | (go_simp; rfl)); (case hp => exact (Reps.none _ _)); intro v732 w39 ho40 hb hg_ hnew_; clear hg_ hnew_; (first | rw [← Ny731.out] at ho40 | (simp only [Int.reduceToNat] at ho40; rw [← Ny731.out] at ho40)); have n0_ := Az.mk (Kd.S_lower ho40 (bwZ bw_43)); have n1_ := Az.mk (bwT bw_43 hb); clear HB; have HO733 := n0_; have HB := n1_; clear n0_ n1_; clear hb ho40))
  go_ret2
  exact ⟨_, by first | rfl | (simp [eWn, eWs] <;> rfl) | (simp [*, eWn, eWs] <;> rfl), by (with_reducible repeat (first | apply Kd.S_alloc | apply Kd.S_drewN | apply Kd.S_drew)); exact HO733.out, bw_43⟩
 subst c4
 have H1 : ((spec_l16Find.f k l0 a1).bind fun bt708 => ((spec_l16Find.f k l0 (wrap64 (-a1))).bind fun bt710 => (if 0 ≤ bt708.1 then (if bt708.1 < (l0.length : Int) then (if 0 ≤ (Int.tmod (wrap64 (bt708.2 + 1)) 3) then (if (Int.tmod (wrap64 (bt708.2 + 1)) 3) < ((rd_L1 l0 bt708.1).length : Int) then (if 0 ≤ (Int.tmod (wrap64 (bt708.2 + 2)) 3) then (if (Int.tmod (wrap64 (bt708.2 + 2)) 3) < ((rd_L1 l0 bt708.1).length : Int) then (if 0 ≤ bt710.1 then (if bt710.1 < (l0.length : Int) then (if 0 ≤ (Int.tmod (wrap64 (bt710.2 + 1)) 3) then (if (Int.tmod (wrap64 (bt710.2 + 1)) 3) < ((rd_L1 l0 bt710.1).length : Int) then (if 0 ≤ (Int.tmod (wrap64 (bt710.2 + 2)) 3) then (if (Int.tmod (wrap64 (bt710.2 + 2)) 3) < ((rd_L1 l0 bt710.1).length : Int) then ((spec_l5Copy.f k l0).bind fun t720 => (if bt708.1 < (t720.length : Int) then (if bt710.1 < (t720.length : Int) then (some (((t720.set (bt708.1 : Int).toNat (([a1, rd (rd_L1 l0 bt708.1) (Int.tmod (wrap64 (bt708.2 + 2)) 3), rd (rd_L1 l0 bt710.1) (Int.tmod (wrap64 (bt710.2 + 1)) 3)] : List Int))).set (bt710.1 : Int).toNat (([wrap64 (-a1), rd (rd_L1 l0 bt710.1) (Int.tmod (wrap64 (bt710.2 + 2)) 3), rd (rd_L1 l0 bt708.1) (Int.tmod (wrap64 (bt708.2 + 1)) 3)] : List Int))), true)) else (none)) else (none))) else (none)) else (none)) else (none)) else (none)) else (none)) else (none)) else (none)) else (none)) else (none)) else (none)) else (none)) else (none)))) = some (r1, r2) := by rw [if_pos rfl] at H; exact H
 clear H
 have H := H1
 clear H1
 replace H := Option.bind_eq_some_iff.mp H
 obtain ⟨⟨t708, t709⟩, A50, H⟩ := H
 try dsimp only at H
 have A5 := Az.mk A50
 clear A50
 replace H := Option.bind_eq_some_iff.mp H
 obtain ⟨⟨t710, t711⟩, A60, H⟩ := H
 try dsimp only at H
 have A6 := Az.mk A60
 clear A60
 by_cases c7 : 0 ≤ t708
 rotate_left
 ·rw [if_neg c7] at H
  exact absurd H (by simp)
 rw [if_pos c7] at H
 have c7b0 : decide (0 ≤ t708) = true := decide_eq_true c7
 clear c7
 by_cases c8 : t708 < (l0.length : Int)
 rotate_left
 ·rw [if_neg c8] at H
  exact absurd H (by simp)
 rw [if_pos c8] at H
 have c8b0 : decide (t708 < (l0.length : Int)) = true := decide_eq_true c8
 clear c8
 obtain ⟨ji9, hji9⟩ : ∃ j_ : Int, (Int.tmod (wrap64 (t709 + 1)) 3) = j_ := ⟨_, rfl⟩
 replace H : (if 0 ≤ (ji9) then (if (ji9) < ((rd_L1 l0 t708).length : Int) then (if 0 ≤ (Int.tmod (wrap64 (t709 + 2)) 3) then (if (Int.tmod (wrap64 (t709 + 2)) 3) < ((rd_L1 l0 t708).length : Int) then (if 0 ≤ t710 then (if t710 < (l0.length : Int) then (if 0 ≤ (Int.tmod (wrap64 (t711 + 1)) 3) then (if (Int.tmod (wrap64 (t711 + 1)) 3) < ((rd_L1 l0 t710).length : Int) then (if 0 ≤ (Int.tmod (wrap64 (t711 + 2)) 3) then (if (Int.tmod (wrap64 (t711 + 2)) 3) < ((rd_L1 l0 t710).length : Int) then ((spec_l5Copy.f k l0).bind fun t720 => (if t708 < (t720.length : Int) then (if t710 < (t720.length : Int) then (some (((t720.set (t708 : Int).toNat (([a1, rd (rd_L1 l0 t708) (Int.tmod (wrap64 (t709 + 2)) 3), rd (rd_L1 l0 t710) (Int.tmod (wrap64 (t711 + 1)) 3)] : List Int))).set (t710 : Int).toNat (([wrap64 (-a1), rd (rd_L1 l0 t710) (Int.tmod (wrap64 (t711 + 2)) 3), rd (rd_L1 l0 t708) (ji9)] : List Int))), true)) else (none)) else (none))) else (none)) else (none)) else (none)) else (none)) else (none)) else (none)) else (none)) else (none)) else (none)) else (none)) = some (r1, r2) := by first | (rw [hji9] at H; exact H) | (simp only [hji9] at H ⊢; exact H)
 (try rw [hji9] at A3)
 (try rw [hji9] at A5)
 (try rw [hji9] at A6)
 by_cases c10 : 0 ≤ (ji9)
 rotate_left
 ·rw [if_neg c10] at H
  exact absurd H (by simp)
 rw [if_pos c10] at H
 have c10b0 : decide (0 ≤ (ji9)) = true := decide_eq_true c10
 clear c10
 by_cases c11 : (ji9) < ((rd_L1 l0 t708).length : Int)
 rotate_left
 ·rw [if_neg c11] at H
  exact absurd H (by simp)
 rw [if_pos c11] at H
 have c11b0 : decide ((ji9) < ((rd_L1 l0 t708).length : Int)) = true := decide_eq_true c11
 clear c11
 obtain ⟨ji12, hji12⟩ : ∃ j_ : Int, (Int.tmod (wrap64 (t709 + 2)) 3) = j_ := ⟨_, rfl⟩
 replace H : (if 0 ≤ (ji12) then (if (ji12) < ((rd_L1 l0 t708).length : Int) then (if 0 ≤ t710 then (if t710 < (l0.length : Int) then (if 0 ≤ (Int.tmod (wrap64 (t711 + 1)) 3) then (if (Int.tmod (wrap64 (t711 + 1)) 3) < ((rd_L1 l0 t710).length : Int) then (if 0 ≤ (Int.tmod (wrap64 (t711 + 2)) 3) then (if (Int.tmod (wrap64 (t711 + 2)) 3) < ((rd_L1 l0 t710).length : Int) then ((spec_l5Copy.f k l0).bind fun t720 => (if t708 < (t720.length : Int) then (if t710 < (t720.length : Int) then (some (((t720.set (t708 : Int).toNat (([a1, rd (rd_L1 l0 t708) (ji12), rd (rd_L1 l0 t710) (Int.tmod (wrap64 (t711 + 1)) 3)] : List Int))).set (t710 : Int).toNat (([wrap64 (-a1), rd (rd_L1 l0 t710) (Int.tmod (wrap64 (t711 + 2)) 3), rd (rd_L1 l0 t708) (ji9)] : List Int))), true)) else (none)) else (none))) else (none)) else (none)) else (none)) else (none)) else (none)) else (none)) else (none)) else (none)) = some (r1, r2) := by first | (rw [hji12] at H; exact H) | (simp only [hji12] at H ⊢; exact H)
 (try rw [hji12] at A3)
 (try rw [hji12] at A5)
 (try rw [hji12] at A6)
 by_cases c13 : 0 ≤ (ji12)
 rotate_left
 ·rw [if_neg c13] at H
  exact absurd H (by simp)
 rw [if_pos c13] at H
 have c13b0 : decide (0 ≤ (ji12)) = true := decide_eq_true c13
 clear c13
 by_cases c14 : (ji12) < ((rd_L1 l0 t708).length : Int)
 rotate_left
 ·rw [if_neg c14] at H
  exact absurd H (by simp)
 rw [if_pos c14] at H
 have c14b0 : decide ((ji12) < ((rd_L1 l0 t708).length : Int)) = true := decide_eq_true c14
 clear c14
 by_cases c15 : 0 ≤ t710
 rotate_left
 ·rw [if_neg c15] at H
  exact absurd H (by simp)
 rw [if_pos c15] at H
 have c15b0 : decide (0 ≤ t710) = true := decide_eq_true c15
 clear c15
 by_cases c16 : t710 < (l0.length : Int)
 rotate_left
 ·rw [if_neg c16] at H
  exact absurd H (by simp)
 rw [if_pos c16] at H
 have c16b0 : decide (t710 < (l0.length : Int)) = true := decide_eq_true c16
 clear c16
 obtain ⟨ji17, hji17⟩ : ∃ j_ : Int, (Int.tmod (wrap64 (t711 + 1)) 3) = j_ := ⟨_, rfl⟩
 replace H : (if 0 ≤ (ji17) then (if (ji17) < ((rd_L1 l0 t710).length : Int) then (if 0 ≤ (Int.tmod (wrap64 (t711 + 2)) 3) then (if (Int.tmod (wrap64 (t711 + 2)) 3) < ((rd_L1 l0 t710).length : Int) then ((spec_l5Copy.f k l0).bind fun t720 => (if t708 < (t720.length : Int) then (if t710 < (t720.length : Int) then (some (((t720.set (t708 : Int).toNat (([a1, rd (rd_L1 l0 t708) (ji12), rd (rd_L1 l0 t710) (ji17)] : List Int))).set (t710 : Int).toNat (([wrap64 (-a1), rd (rd_L1 l0 t710) (Int.tmod (wrap64 (t711 + 2)) 3), rd (rd_L1 l0 t708) (ji9)] : List Int))), true)) else (none)) else (none))) else (none)) else (none)) else (none)) else (none)) = some (r1, r2) := by first | (rw [hji17] at H; exact H) | (simp only [hji17] at H ⊢; exact H)
 (try rw [hji17] at A3)
 (try rw [hji17] at A5)
 (try rw [hji17] at A6)
 by_cases c18 : 0 ≤ (ji17)
 rotate_left
 ·rw [if_neg c18] at H
  exact absurd H (by simp)
 rw [if_pos c18] at H
 have c18b0 : decide (0 ≤ (ji17)) = true := decide_eq_true c18
 clear c18
 by_cases c19 : (ji17) < ((rd_L1 l0 t710).length : Int)
 rotate_left
 ·rw [if_neg c19] at H
  exact absurd H (by simp)
 rw [if_pos c19] at H
 have c19b0 : decide ((ji17) < ((rd_L1 l0 t710).length : Int)) = true := decide_eq_true c19
 clear c19
 obtain ⟨ji20, hji20⟩ : ∃ j_ : Int, (Int.tmod (wrap64 (t711 + 2)) 3) = j_ := ⟨_, rfl⟩
 replace H : (if 0 ≤ (ji20) then (if (ji20) < ((rd_L1 l0 t710).length : Int) then ((spec_l5Copy.f k l0).bind fun t720 => (if t708 < (t720.length : Int) then (if t710 < (t720.length : Int) then (some (((t720.set (t708 : Int).toNat (([a1, rd (rd_L1 l0 t708) (ji12), rd (rd_L1 l0 t710) (ji17)] : List Int))).set (t710 : Int).toNat (([wrap64 (-a1), rd (rd_L1 l0 t710) (ji20), rd (rd_L1 l0 t708) (ji9)] : List Int))), true)) else (none)) else (none))) else (none)) else (none)) = some (r1, r2) := by first | (rw [hji20] at H; exact H) | (simp only [hji20] at H ⊢; exact H)
 (try rw [hji20] at A3)
 (try rw [hji20] at A5)
 (try rw [hji20] at A6)
 by_cases c21 : 0 ≤ (ji20)
 rotate_left
 ·rw [if_neg c21] at H
  exact absurd H (by simp)
 rw [if_pos c21] at H
 have c21b0 : decide (0 ≤ (ji20)) = true := decide_eq_true c21
 clear c21
 by_cases c22 : (ji20) < ((rd_L1 l0 t710).length : Int)
 rotate_left
 ·rw [if_neg c22] at H
  exact absurd H (by simp)
 rw [if_pos c22] at H
 have c22b0 : decide ((ji20) < ((rd_L1 l0 t710).length : Int)) = true := decide_eq_true c22
 clear c22
 replace H := Option.bind_eq_some_iff.mp H
 obtain ⟨t720, A230, H⟩ := H
 try dsimp only at H
 have A23 := Az.mk A230
 clear A230
 obtain ⟨y723, hy723⟩ : ∃ y_ : List Int, y_ = (([a1, rd (rd_L1 l0 t708) (ji12), rd (rd_L1 l0 t710) (ji17)] : List Int)) := ⟨_, rfl⟩
 replace H : (if t708 < (t720.length : Int) then (if t710 < (t720.length : Int) then (some (((t720.set (t708 : Int).toNat y723).set (t710 : Int).toNat (([wrap64 (-a1), rd (rd_L1 l0 t710) (ji20), rd (rd_L1 l0 t708) (ji9)] : List Int))), true)) else (none)) else (none)) = some (r1, r2) := by first | (rw [hy723]; with_reducible exact H) | (have H2_ := (Option.bind_some _ _).symm.trans H; rw [hy723]; with_reducible exact H2_) | (have H2_ := (Option.bind_some _ _).symm.trans H; with_reducible exact H2_) | with_reducible exact H | (rw [hy723]; exact H) | exact H
 have Ny723 := Az.mk hy723
 clear hy723
 by_cases c24 : t708 < (t720.length : Int)
 rotate_left
 ·rw [if_neg c24] at H
  exact absurd H (by simp)
 rw [if_pos c24] at H
 have c24b0 : decide (t708 < (t720.length : Int)) = true := decide_eq_true c24
 clear c24
 obtain ⟨y726, hy726⟩ : ∃ y_ : List (List Int), y_ = (t720.set (t708 : Int).toNat y723) := ⟨_, rfl⟩
 replace H : (if t710 < (t720.length : Int) then (some ((y726.set (t710 : Int).toNat (([wrap64 (-a1), rd (rd_L1 l0 t710) (ji20), rd (rd_L1 l0 t708) (ji9)] : List Int))), true)) else (none)) = some (r1, r2) := by first | (rw [hy726]; with_reducible exact H) | (have H2_ := (Option.bind_some _ _).symm.trans H; rw [hy726]; with_reducible exact H2_) | (have H2_ := (Option.bind_some _ _).symm.trans H; with_reducible exact H2_) | with_reducible exact H | (rw [hy726]; exact H) | exact H
 have Ny726 := Az.mk hy726
 clear hy726
 obtain ⟨y727, hy727⟩ : ∃ y_ : List Int, y_ = (([wrap64 (-a1), rd (rd_L1 l0 t710) (ji20), rd (rd_L1 l0 t708) (ji9)] : List Int)) := ⟨_, rfl⟩
 replace H : (if t710 < (t720.length : Int) then (some ((y726.set (t710 : Int).toNat y727), true)) else (none)) = some (r1, r2) := by first | (rw [hy727]; with_reducible exact H) | (have H2_ := (Option.bind_some _ _).symm.trans H; rw [hy727]; with_reducible exact H2_) | (have H2_ := (Option.bind_some _ _).symm.trans H; with_reducible exact H2_) | with_reducible exact H | (rw [hy727]; exact H) | exact H
 have Ny727 := Az.mk hy727
 clear hy727
 by_cases c26 : t710 < (t720.length : Int)
 rotate_left
 ·rw [if_neg c26] at H
  exact absurd H (by simp)
 rw [if_pos c26] at H
 have c26b0 : decide (t710 < (t720.length : Int)) = true := decide_eq_true c26
 clear c26
 obtain ⟨y730, hy730⟩ : ∃ y_ : List (List Int), y_ = (y726.set (t710 : Int).toNat y727) := ⟨_, rfl⟩
 replace H : (some (y730, true)) = some (r1, r2) := by first | (rw [hy730]; with_reducible exact H) | (have H2_ := (Option.bind_some _ _).symm.trans H; rw [hy730]; with_reducible exact H2_) | (have H2_ := (Option.bind_some _ _).symm.trans H; with_reducible exact H2_) | with_reducible exact H | (rw [hy730]; exact H) | exact H
 have Ny730 := Az.mk hy730
 clear hy730
 simp only [Option.some.injEq, Prod.mk.injEq] at H
 obtain ⟨rfl, rfl⟩ := H
 go_enter Try.func42, Try.ntmps42
 go_wp2_with (first | ((with_reducible refine gtC (f := 81) rfl ?_); refine goesL_ (some 17) rfl rfl Try.func81 (by kernel_rfl) rfl #[.slice A0 l0.length c0, .int .i64 a1] rfl ln_43 ?_; (with_reducible refine (spec_CanFlip.calls k _ _ l0 a1 true _ ?side1 ?side2 A3.out).mono ?_); (case side1 => repeat (first | exact HR0.out | (with_reducible refine Kd.C_alloc ?_ _) | (with_reducible refine Kd.C_drewN ?_ _) | (with_reducible refine Kd.C_drew ?_))); (case side2 => exact HC0.out); rintro e w28 ⟨rfl, hb⟩; refine ⟨_, rfl, ?_⟩; have n0_ := Az.mk (bwT bw_43 hb); clear HB; have HB := n0_; clear n0_; (try clear hb); (try clear hb2); (try clear hk); (try clear hi)) | ((with_reducible refine gtC (f := 82) rfl ?_); refine goesL_ (some 23) rfl rfl Try.func82 (by kernel_rfl) rfl #[.slice A0 l0.length c0, .int .i64 a1] rfl ln_43 ?_; (with_reducible refine (spec_l16Find.calls k _ _ l0 a1 t708 t709 _ ?side1 ?side2 A5.out).mono ?_); (case side1 => repeat (first | exact (Kd.C_below HR0.out HB.out) | (with_reducible refine Kd.C_alloc ?_ _) | (with_reducible refine Kd.C_drewN ?_ _) | (with_reducible refine Kd.C_drew ?_))); (case side2 => exact HC0.out); rintro e w' ⟨rfl, ⟨nd, rfl⟩⟩; refine ⟨_, rfl, ?_⟩; (try (rw [drewN_self w28]; generalize hq_ : World.drewN w28 _ = w28; have n0_ : Az (Below w.heap.size w w28) := ⟨by rw [← hq_]; exact bw_43⟩; clear HB hq_; have HB := n0_; clear n0_))) | ((with_reducible refine gtC (f := 82) rfl ?_); refine goesL_ (some 30) rfl rfl Try.func82 (by kernel_rfl) rfl #[.slice A0 l0.length c0, .int .i64 (wrap64 (-a1))] rfl ln_43 ?_; (with_reducible refine (spec_l16Find.calls k _ _ l0 (wrap64 (-a1)) t710 t711 _ ?side1 ?side2 A6.out).mono ?_); (case side1 => repeat (first | exact (Kd.C_below HR0.out HB.out) | (with_reducible refine Kd.C_alloc ?_ _) | (with_reducible refine Kd.C_drewN ?_ _) | (with_reducible refine Kd.C_drew ?_))); (case side2 => exact HC0.out); rintro e w' ⟨rfl, ⟨nd, rfl⟩⟩; refine ⟨_, rfl, ?_⟩; (try (rw [drewN_self w28]; generalize hq_ : World.drewN w28 _ = w28; have n0_ : Az (Below w.heap.size w w28) := ⟨by rw [← hq_]; exact bw_43⟩; clear HB hq_; have HB := n0_; clear n0_)); have p712 : 0 ≤ (t708 : Int) := of_decide_eq_true (by first | (with_reducible assumption) | assumption); have q712 : t708 < (l0.length : Int) := of_decide_eq_true (by first | (with_reducible assumption) | assumption); obtain ⟨ad712, A712_0, c712_0, e712, hx712_0, hl712_0, hi712_0⟩ := at_L1 HR0.out t708 p712 q712; cases e712; replace hx712_0 := (HB.out.cell (World.block_lt_of_cell? w _ hx712_0)).trans hx712_0; have HR712_0 := Az.mk hi712_0; have HC712_0 := Az.mk hl712_0; clear hi712_0 hl712_0; replace p712 := eq_true p712; replace q712 := eq_true q712; have p713 : 0 ≤ ((ji9) : Int) := of_decide_eq_true (by first | (with_reducible assumption) | assumption); have q713 : (ji9) < ((rd_L1 l0 t708).length : Int) := of_decide_eq_true (by first | (with_reducible assumption) | assumption); obtain ⟨ad713, e713, hx713_0⟩ := Kd.at_int HR712_0.out (ji9) p713 q713; cases e713; replace hx713_0 := (HB.out.cell (World.block_lt_of_cell? w _ hx713_0)).trans hx713_0; replace p713 := eq_true p713; replace q713 := eq_true q713; have p714 : 0 ≤ (t708 : Int) := of_decide_eq_true (by first | (with_reducible assumption) | assumption); have q714 : t708 < (l0.length : Int) := of_decide_eq_true (by first | (with_reducible assumption) | assumption); obtain ⟨ad714, A714_0, c714_0, e714, hx714_0, hl714_0, hi714_0⟩ := at_L1 HR0.out t708 p714 q714; obtain rfl : ad712 = ad714 := (by injection e714); replace hx714_0 := (HB.out.cell (World.block_lt_of_cell? w _ hx714_0)).trans hx714_0; have HR714_0 := Az.mk hi714_0; have HC714_0 := Az.mk hl714_0; clear hi714_0 hl714_0; replace p714 := eq_true p714; replace q714 := eq_true q714; have ea_ := Option.some.inj (hx712_0.symm.trans hx714_0); injection ea_ with ea_ en_ ec_; subst ea_; subst ec_; clear en_; have p715 : 0 ≤ ((ji12) : Int) := of_decide_eq_true (by first | (with_reducible assumption) | assumption); have q715 : (ji12) < ((rd_L1 l0 t708).length : Int) := of_decide_eq_true (by first | (with_reducible assumption) | assumption); obtain ⟨ad715, e715, hx715_0⟩ := Kd.at_int HR714_0.out (ji12) p715 q715; cases e715; replace hx715_0 := (HB.out.cell (World.block_lt_of_cell? w _ hx715_0)).trans hx715_0; replace p715 := eq_true p715; replace q715 := eq_true q715; have p716 : 0 ≤ (t710 : Int) := of_decide_eq_true (by first | (with_reducible assumption) | assumption); have q716 : t710 < (l0.length : Int) := of_decide_eq_true (by first | (with_reducible assumption) | assumption); obtain ⟨ad716, A716_0, c716_0, e716, hx716_0, hl716_0, hi716_0⟩ := at_L1 HR0.out t710 p716 q716; obtain rfl : ad712 = ad716 := (by injection e716); replace hx716_0 := (HB.out.cell (World.block_lt_of_cell? w _ hx716_0)).trans hx716_0; have HR716_0 := Az.mk hi716_0; have HC716_0 := Az.mk hl716_0; clear hi716_0 hl716_0; replace p716 := eq_true p716; replace q716 := eq_true q716; have p717 : 0 ≤ ((ji17) : Int) := of_decide_eq_true (by first | (with_reducible assumption) | assumption); have q717 : (ji17) < ((rd_L1 l0 t710).length : Int) := of_decide_eq_true (by first | (with_reducible assumption) | assumption); obtain ⟨ad717, e717, hx717_0⟩ := Kd.at_int HR716_0.out (ji17) p717 q717; cases e717; replace hx717_0 := (HB.out.cell (World.block_lt_of_cell? w _ hx717_0)).trans hx717_0; replace p717 := eq_true p717; replace q717 := eq_true q717; have p718 : 0 ≤ (t710 : Int) := of_decide_eq_true (by first | (with_reducible assumption) | assumption); have q718 : t710 < (l0.length : Int) := of_decide_eq_true (by first | (with_reducible assumption) | assumption); obtain ⟨ad718, A718_0, c718_0, e718, hx718_0, hl718_0, hi718_0⟩ := at_L1 HR0.out t710 p718 q718; obtain rfl : ad712 = ad718 := (by injection e718); replace hx718_0 := (HB.out.cell (World.block_lt_of_cell? w _ hx718_0)).trans hx718_0; have HR718_0 := Az.mk hi718_0; have HC718_0 := Az.mk hl718_0; clear hi718_0 hl718_0; replace p718 := eq_true p718; replace q718 := eq_true q718; have ea_ := Option.some.inj (hx716_0.symm.trans hx718_0); injection ea_ with ea_ en_ ec_; subst ea_; subst ec_; clear en_; have p719 : 0 ≤ ((ji20) : Int) := of_decide_eq_true (by first | (with_reducible assumption) | assumption); have q719 : (ji20) < ((rd_L1 l0 t710).length : Int) := of_decide_eq_true (by first | (with_reducible assumption) | assumption); obtain ⟨ad719, e719, hx719_0⟩ := Kd.at_int HR718_0.out (ji20) p719 q719; cases e719; replace hx719_0 := (HB.out.cell (World.block_lt_of_cell? w _ hx719_0)).trans hx719_0; replace p719 := eq_true p719; replace q719 := eq_true q719) | ((with_reducible refine gtC (f := 106) rfl ?_); refine goesL_ (some 70) rfl rfl Try.func106 (by kernel_rfl) rfl #[.slice (some ad712) l0.length c0] rfl ln_43 ?_; (with_reducible refine (spec_l5Copy.calls k _ _ l0 t720 _ ?side1 ?side2 A23.out).mono ?_); (case side1 => repeat (first | exact (Kd.C_below HR0.out HB.out) | (with_reducible refine Kd.C_alloc ?_ _) | (with_reducible refine Kd.C_drewN ?_ _) | (with_reducible refine Kd.C_drew ?_))); (case side2 => exact HC0.out); rintro e w29 ⟨v721, rfl, ho0, hb⟩; refine ⟨_, rfl, ?_⟩; have n0_ := Az.mk (Kd.S_lower ho0 (bwZ bw_43)); have n1_ := Az.mk (bwT bw_43 hb); clear HB; have HO722 := n0_; have HB := n1_; clear n0_ n1_; (try clear hb); (try clear hb2); (try clear hk); (try clear hi); (try clear ho0)) | ((with_reducible refine gtD (N := 76) rfl ?_); refine Kd.R_lit (Kd.int .i64) _ 3 ?hg (N := 76) ?hd (xs := ([a1, rd (rd_L1 l0 t708) (ji12), rd (rd_L1 l0 t710) (ji17)] : List Int)) (inner := [.int .i64 a1, .int .i64 (rd (rd_L1 l0 t708) (ji12)), .int .i64 (rd (rd_L1 l0 t710) (ji17))]) (ok := fun _ => True) (okp := fun _ => True) ?hr ?hp (fun _ hk => hk) trivial (Below.refl _ _) (Nat.le_refl _) (by simp) ?_; (case hd => rfl); (case hg => rfl); (case hr => first | (go_simp; done) | (go_simp; rfl)); (case hp => exact (Reps.one (show Kd.M (Kd.int .i64) _ _ _ a1 [.int .i64 a1] from rfl) (Reps.one (show Kd.M (Kd.int .i64) _ _ _ (rd (rd_L1 l0 t708) (ji12)) [.int .i64 (rd (rd_L1 l0 t708) (ji12))] from rfl) (Reps.one (show Kd.M (Kd.int .i64) _ _ _ (rd (rd_L1 l0 t710) (ji17)) [.int .i64 (rd (rd_L1 l0 t710) (ji17))] from rfl) (Reps.none _ _))))); intro v724 w30 ho31 hb hg_ hnew_; clear hg_ hnew_; (first | rw [← Ny723.out] at ho31 | (simp only [Int.reduceToNat] at ho31; rw [← Ny723.out] at ho31)); have n0_ := Az.mk (Kd.S_elder' (by (with_reducible repeat (first | apply Kd.S_alloc | apply Kd.S_drewN | apply Kd.S_drew)); exact HO722.out) (Kd.R_base ho31) hb); have n1_ := Az.mk (Kd.R_lower ho31 (bwZ bw_43)); have n2_ := Az.mk (bwT bw_43 hb); clear HO722; clear HB; have HO722 := n0_; have HO725 := n1_; have HB := n2_; clear n0_ n1_ n2_; clear hb ho31; have p25 : 0 ≤ (t708 : Int) := of_decide_eq_true (by first | (with_reducible assumption) | assumption); have q25 : (t708 : Int) < ((t720.length : Int) : Int) := of_decide_eq_true (by first | (with_reducible assumption) | assumption); obtain ⟨go25, co25, eo25, gb25, gl25, cl25, HG25⟩ := Kd.S_form HO722.out (by omega); (first | cases eo25 | (injection eo25 with ea_ en_ ec_; (first | subst ea_ | (injection ea_ with ea_; subst ea_)); subst ec_; clear en_)); have GB25 := Az.mk gb25; have GG25 := Az.mk HG25; clear gb25 gl25 HG25; obtain ⟨_, ce25, hcl25, hM25, hcc25, hfr25, _, _⟩ := Kd.S_elem HO722.out [] (t708 : Int) p25 q25; obtain ⟨ve25_0, rfl, ge25_0⟩ := hM25; have hx25_0 := hcc25 0 _ rfl; have hf25_0 := hfr25 0; (try simp only [show ((Kd.slice 3 (Kd.int .i64))).sz = 1 from rfl, Nat.mul_one, Nat.add_zero] at hx25_0); (try simp only [show ((Kd.slice 3 (Kd.int .i64))).sz = 1 from rfl, Nat.mul_one, Nat.add_zero] at hf25_0); (try clear hcl25); (try clear hcc25); (try clear hfr25); (try clear hM25); replace p25 := eq_true p25; replace q25 := eq_true q25; have n_ := Az.mk (Kd.S_mono (ok' := (fun k_ => some k_ ≠ (v724 : Value).ownBlock)) HO722.out (fun k_ hk => hk.2)); clear HO722; have HO722 := n_; clear n_; have HX32 := Az.mk (show Kd.S (Kd.slice 3 (Kd.int .i64)) 24 w30 w.heap.size (fun k_ => ((fun _ => True)) k_ ∧ ¬ ((fun k_ => some k_ = (v724 : Value).ownBlock)) k_) (.slice (some ⟨go25, 0, none⟩) t720.length co25) t720 from (by (with_reducible repeat (first | apply Kd.S_alloc | apply Kd.S_drewN | apply Kd.S_drew)); exact Kd.S_mono HO722.out (fun k_ hk => ⟨trivial, fun e_ => hk e_⟩))); obtain ⟨oki32, ce32, hcl32, hM32, hcc32, hfr32, hoki32, hH32⟩ := Kd.S_elem HX32.out [] (t708 : Int) (of_decide_eq_true (by first | (with_reducible assumption) | assumption)) (by have h_ : (t708 : Int) < ((t720.length : Int) : Int) := of_decide_eq_true (by first | (with_reducible assumption) | assumption); first | exact h_ | (have e_ := (Kd.S_reads' HO722.out).1; omega) | simpa using h_); obtain ⟨ve32_0, rfl, ge32_0⟩ := hM32; have HP32 := Kd.S_seg hH32 (of_decide_eq_true (by first | (with_reducible assumption) | assumption)) (by have h_ : (t708 : Int) < ((t720.length : Int) : Int) := of_decide_eq_true (by first | (with_reducible assumption) | assumption); first | exact h_ | (have e_ := (Kd.S_reads' HO722.out).1; omega) | simpa using h_) (seg := [v724]) (j := 0) (show 1 ≤ 1 from by decide) (x' := y723) (Kd.M_row (Kd.R_mono (Kd.R_tight rfl (Kd.R_mono (ok' := fun k_ => ((fun _ => True)) k_ ∧ k_ ≠ go25) (Kd.R_apart' (HO725.out) (Kd.S_typed HO722.out) (by decide)) (fun k_ hk => ⟨trivial, fun e_ => (hk.2) (by rw [e_]; rfl)⟩))) (fun _ h_ => Or.inr (h_)))) (fun _ hk => hk) (fun k_ hk_ => ((Kd.R_mono (ok' := fun k_ => ((fun _ => True)) k_ ∧ k_ ≠ go25) (Kd.R_apart' (HO725.out) (Kd.S_typed HO722.out) (by decide)) (fun k_ hk => ⟨trivial, fun e_ => (hk.2) (by rw [e_]; rfl)⟩))).1 k_ hk_.symm); have hx32_0 := hcc32 0 _ rfl; (try simp only [show ((Kd.slice 3 (Kd.int .i64))).sz = 1 from rfl, Nat.mul_one, Nat.add_zero] at hx32_0); have hf32_0 := hfr32 0; (try simp only [show ((Kd.slice 3 (Kd.int .i64))).sz = 1 from rfl, Nat.mul_one, Nat.add_zero] at hf32_0); (try clear hcl32); (try clear hcc32); (try clear hfr32); (try clear hM32); (try clear hoki32); (try clear hH32); (try simp only [show ((Kd.slice 3 (Kd.int .i64))).sz = 1 from rfl, Nat.mul_one, Nat.add_zero] at HP32)) | ((with_reducible refine gate_store (t := 24) (p := 77) rfl ?_); refine store_event (t := 24) (p := 77) (v := ?vo_w33) (w1 := (w30.setCell ⟨go25, (t708 : Int).toNat, none⟩ (v724))) ?hg ?ho ?hn ?hr ?_; (case ho => rfl); (case hg => rfl); (case hn => rfl); (case hr => first | (go_simp; done) | (go_simp; rfl) | (obtain ⟨Av_, cv_, ev_⟩ := Kd.R_slice HO725.out; subst ev_; first | (go_simp; done) | (go_simp; rfl))); intro w33 hw; have hg : w30.grownBy w33 (some go25) := (by rw [hw]; exact HP32.2); have hp_ : Kd.S (Kd.slice 3 (Kd.int .i64)) 24 w33 w.heap.size (fun _ => True) (.slice (some ⟨go25, 0, none⟩) t720.length co25) y726 := (by rw [hw, Ny726.out]; exact HP32.1); clear HP32; have n0_ := Az.mk (hp_); have n1_ := Az.mk ((by rw [hw]; exact bwS (HB.out) GB25.out : Below w.heap.size w w33)); clear HO722; clear HB; clear HO725; have HO722 := n0_; have HB := n1_; clear n0_ n1_; clear hg hw hp_) | ((with_reducible refine gtD (N := 84) rfl ?_); refine Kd.R_lit (Kd.int .i64) _ 3 ?hg (N := 84) ?hd (xs := ([wrap64 (-a1), rd (rd_L1 l0 t710) (ji20), rd (rd_L1 l0 t708) (ji9)] : List Int)) (inner := [.int .i64 (wrap64 (-a1)), .int .i64 (rd (rd_L1 l0 t710) (ji20)), .int .i64 (rd (rd_L1 l0 t708) (ji9))]) (ok := fun _ => True) (okp := fun _ => True) ?hr ?hp (fun _ hk => hk) trivial (Below.refl _ _) (Nat.le_refl _) (by simp) ?_; (case hd => rfl); (case hg => rfl); (case hr => first | (go_simp; done) | (go_simp; rfl) | (obtain ⟨Av_, cv_, ev_⟩ := Kd.R_slice HO725.out; subst ev_; first | (go_simp; done) | (go_simp; rfl))); (case hp => exact (Reps.one (show Kd.M (Kd.int .i64) _ _ _ (wrap64 (-a1)) [.int .i64 (wrap64 (-a1))] from rfl) (Reps.one (show Kd.M (Kd.int .i64) _ _ _ (rd (rd_L1 l0 t710) (ji20)) [.int .i64 (rd (rd_L1 l0 t710) (ji20))] from rfl) (Reps.one (show Kd.M (Kd.int .i64) _ _ _ (rd (rd_L1 l0 t708) (ji9)) [.int .i64 (rd (rd_L1 l0 t708) (ji9))] from rfl) (Reps.none _ _))))); intro v728 w34 ho35 hb hg_ hnew_; clear hg_ hnew_; (first | rw [← Ny727.out] at ho35 | (simp only [Int.reduceToNat] at ho35; rw [← Ny727.out] at ho35)); have n0_ := Az.mk (Kd.S_elder' (by (with_reducible repeat (first | apply Kd.S_alloc | apply Kd.S_drewN | apply Kd.S_drew)); exact HO722.out) (Kd.R_base ho35) hb); have n1_ := Az.mk (Kd.R_lower ho35 (bwZ bw_43)); have n2_ := Az.mk (bwT bw_43 hb); clear HO722; clear HB; have HO722 := n0_; have HO729 := n1_; have HB := n2_; clear n0_ n1_ n2_; clear hb ho35; have p27 : 0 ≤ (t710 : Int) := of_decide_eq_true (by first | (with_reducible assumption) | assumption); have q27 : (t710 : Int) < ((t720.length : Int) : Int) := of_decide_eq_true (by first | (with_reducible assumption) | assumption); obtain ⟨_, ce27, hcl27, hM27, hcc27, hfr27, _, _⟩ := Kd.S_elem HO722.out [] (t710 : Int) p27 q27; obtain ⟨ve27_0, rfl, ge27_0⟩ := hM27; have hx27_0 := hcc27 0 _ rfl; have hf27_0 := hfr27 0; (try simp only [show ((Kd.slice 3 (Kd.int .i64))).sz = 1 from rfl, Nat.mul_one, Nat.add_zero] at hx27_0); (try simp only [show ((Kd.slice 3 (Kd.int .i64))).sz = 1 from rfl, Nat.mul_one, Nat.add_zero] at hf27_0); (try clear hcl27); (try clear hcc27); (try clear hfr27); (try clear hM27); replace p27 := eq_true p27; replace q27 := eq_true q27; have n_ := Az.mk (Kd.S_mono (ok' := (fun k_ => some k_ ≠ (v728 : Value).ownBlock)) HO722.out (fun k_ hk => hk.2)); clear HO722; have HO722 := n_; clear n_; have HX36 := Az.mk (show Kd.S (Kd.slice 3 (Kd.int .i64)) 24 w34 w.heap.size (fun k_ => ((fun _ => True)) k_ ∧ ¬ ((fun k_ => some k_ = (v728 : Value).ownBlock)) k_) (.slice (some ⟨go25, 0, none⟩) t720.length co25) y726 from (by (with_reducible repeat (first | apply Kd.S_alloc | apply Kd.S_drewN | apply Kd.S_drew)); exact Kd.S_mono HO722.out (fun k_ hk => ⟨trivial, fun e_ => hk e_⟩))); obtain ⟨oki36, ce36, hcl36, hM36, hcc36, hfr36, hoki36, hH36⟩ := Kd.S_elem HX36.out [] (t710 : Int) (of_decide_eq_true (by first | (with_reducible assumption) | assumption)) (by have h_ : (t710 : Int) < ((t720.length : Int) : Int) := of_decide_eq_true (by first | (with_reducible assumption) | assumption); first | exact h_ | (have e_ := (Kd.S_reads' HO722.out).1; omega) | simpa using h_); obtain ⟨ve36_0, rfl, ge36_0⟩ := hM36; have HP36 := Kd.S_seg hH36 (of_decide_eq_true (by first | (with_reducible assumption) | assumption)) (by have h_ : (t710 : Int) < ((t720.length : Int) : Int) := of_decide_eq_true (by first | (with_reducible assumption) | assumption); first | exact h_ | (have e_ := (Kd.S_reads' HO722.out).1; omega) | simpa using h_) (seg := [v728]) (j := 0) (show 1 ≤ 1 from by decide) (x' := y727) (Kd.M_row (Kd.R_mono (Kd.R_tight rfl (Kd.R_mono (ok' := fun k_ => ((fun _ => True)) k_ ∧ k_ ≠ go25) (Kd.R_apart' (HO729.out) (Kd.S_typed HO722.out) (by decide)) (fun k_ hk => ⟨trivial, fun e_ => (hk.2) (by rw [e_]; rfl)⟩))) (fun _ h_ => Or.inr (h_)))) (fun _ hk => hk) (fun k_ hk_ => ((Kd.R_mono (ok' := fun k_ => ((fun _ => True)) k_ ∧ k_ ≠ go25) (Kd.R_apart' (HO729.out) (Kd.S_typed HO722.out) (by decide)) (fun k_ hk => ⟨trivial, fun e_ => (hk.2) (by rw [e_]; rfl)⟩))).1 k_ hk_.symm); have hx36_0 := hcc36 0 _ rfl; (try simp only [show ((Kd.slice 3 (Kd.int .i64))).sz = 1 from rfl, Nat.mul_one, Nat.add_zero] at hx36_0); have hf36_0 := hfr36 0; (try simp only [show ((Kd.slice 3 (Kd.int .i64))).sz = 1 from rfl, Nat.mul_one, Nat.add_zero] at hf36_0); (try clear hcl36); (try clear hcc36); (try clear hfr36); (try clear hM36); (try clear hoki36); (try clear hH36); (try simp only [show ((Kd.slice 3 (Kd.int .i64))).sz = 1 from rfl, Nat.mul_one, Nat.add_zero] at HP36)) | ((with_reducible refine gate_store (t := 24) (p := 85) rfl ?_); refine store_event (t := 24) (p := 85) (v := ?vo_w37) (w1 := (w34.setCell ⟨go25, (t710 : Int).toNat, none⟩ (v728))) ?hg ?ho ?hn ?hr ?_; (case ho => rfl); (case hg => rfl); (case hn => rfl); (case hr => first | (go_simp; done) | (go_simp; rfl) | (obtain ⟨Av_, cv_, ev_⟩ := Kd.R_slice HO729.out; subst ev_; first | (go_simp; done) | (go_simp; rfl))); intro w37 hw; have hg : w34.grownBy w37 (some go25) := (by rw [hw]; exact HP36.2); have hp_ : Kd.S (Kd.slice 3 (Kd.int .i64)) 24 w37 w.heap.size (fun _ => True) (.slice (some ⟨go25, 0, none⟩) t720.length co25) y730 := (by rw [hw, Ny730.out]; exact HP36.1); clear HP36; have n0_ := Az.mk (hp_); have n1_ := Az.mk ((by rw [hw]; exact bwS (HB.out) GB25.out : Below w.heap.size w w37)); clear HO722; clear HB; clear HO729; have HO722 := n0_; have HB := n1_; clear n0_ n1_; clear hg hw hp_))
 go_ret2
 exact ⟨_, by first | rfl | (simp [eWn, eWs] <;> rfl) | (simp only [← hji9, ← hji12, ← hji17, ← hji20]; first | rfl | (simp [eWn, eWs] <;> rfl)) | (simp [*, eWn, eWs] <;> rfl), by (with_reducible repeat (first | apply Kd.S_alloc | apply Kd.S_drewN | apply Kd.S_drew)); exact HO722.out, bw_43⟩

/-! ### spec_Shorten: function 36 -/
def spec_Shorten.l0 : Nat → List (List Int) → List Int → Int → Option ((List (List Int)) × List Int × Bool)
 | 0, _, _, _ => none
 | k + 1, x7, x8, x9 => if x9 > 0 then ((spec_FlipCurve.f k x7 x8 x9).bind fun bt751 => ((spec_FlipEdge.f k x7 x9).bind fun bt755 => ((spec_BestFlip.f k bt755.1 bt751.1).bind fun t759 => (spec_Shorten.l0 k bt755.1 bt751.1 t759)))) else (some (x7, x8, true))
def spec_Shorten.f (k : Nat) (l0 : List (List Int)) (l1 : List Int) : Option ((List (List Int)) × List Int × Bool) := (spec_IsFair.f k l0 l1).bind fun t734 => (if t734 = true then ((spec_l5Copy.f k l0).bind fun t741 => ((some (([] : List Int) : List Int)).bind fun y744 => (if y744.length + l1.length < 17592186044416 then ((some (y744 ++ l1 : List Int)).bind fun y747 => ((spec_BestFlip.f k t741 y747).bind fun t750 => (spec_Shorten.l0 k t741 y747 t750))) else (none)))) else (some ((([] : List (List Int))), (([] : List Int)), false)))
theorem spec_Shorten.mono_l : ∀ k, (∀ y0 y1 y2, LeO (spec_Shorten.l0 k y0 y1 y2) (spec_Shorten.l0 (k + 1) y0 y1 y2))
 | 0 => fun _ _ _ r h => by simp [spec_Shorten.l0] at h
 | k + 1 => by
  have ih0 := spec_Shorten.mono_l k
  ·intro y0 y1 y2
   unfold spec_Shorten.l0
   repeat' first
   | (with_reducible exact ih0 _ _ _)
   | (with_reducible exact spec_BestFlip.mono _ _ _)
   | (with_reducible exact spec_FlipCurve.mono _ _ _ _)
   | (with_reducible exact spec_FlipEdge.mono _ _ _)
   | (with_reducible exact spec_IsFair.mono _ _ _)
   | (with_reducible exact spec_l5Copy.mono _ _)
   | (with_reducible exact LeO.refl _)
   | (with_reducible exact LeO.none _)
   | (with_reducible refine LeO.ite ?_ ?_)
   | (with_reducible refine LeO.bind ?_ (fun _ => ?_))
   | exact ih0 _ _ _
   | exact spec_BestFlip.mono _ _ _
   | exact spec_FlipCurve.mono _ _ _ _
   | exact spec_FlipEdge.mono _ _ _
   | exact spec_IsFair.mono _ _ _
   | exact spec_l5Copy.mono _ _
   | exact LeO.none _
   | refine LeO.ite ?_ ?_
   | refine LeO.bind ?_ (fun _ => ?_)
theorem spec_Shorten.mono : ∀ a0 a1 k, LeO (spec_Shorten.f k a0 a1) (spec_Shorten.f (k + 1) a0 a1) := by
 intro a0 a1 k
 have ih0 := spec_Shorten.mono_l k
 unfold spec_Shorten.f
 repeat' first
   | (with_reducible exact ih0 _ _ _)
   | (with_reducible exact spec_BestFlip.mono _ _ _)
   | (with_reducible exact spec_FlipCurve.mono _ _ _ _)
   | (with_reducible exact spec_FlipEdge.mono _ _ _)
   | (with_reducible exact spec_IsFair.mono _ _ _)
   | (with_reducible exact spec_l5Copy.mono _ _)
   | (with_reducible exact LeO.refl _)
   | (with_reducible exact LeO.none _)
   | (with_reducible refine LeO.ite ?_ ?_)
   | (with_reducible refine LeO.bind ?_ (fun _ => ?_))
   | exact ih0 _ _ _
   | exact spec_BestFlip.mono _ _ _
   | exact spec_FlipCurve.mono _ _ _ _
   | exact spec_FlipEdge.mono _ _ _
   | exact spec_IsFair.mono _ _ _
   | exact spec_l5Copy.mono _ _
   | exact LeO.none _
   | refine LeO.ite ?_ ?_
   | refine LeO.bind ?_ (fun _ => ?_)
set_option maxHeartbeats 8000000 in
set_option maxRecDepth 100000 in
theorem spec_Shorten.calls (k : Nat) (A0 : Option Addr) (c0 : Nat) (l0 : List (List Int)) (A1 : Option Addr) (c1 : Nat) (l1 : List Int) (r1 : List (List Int)) (r2 : List Int) (r3 : Bool) (w : World) (hr0 : Kd.C (Kd.slice 3 (Kd.int .i64)) w A0 l0.length l0) (hc0 : l0.length ≤ c0) (hr1 : Kd.C (Kd.int .i64) w A1 l1.length l1) (hc1 : l1.length ≤ c1) (h : spec_Shorten.f k l0 l1 = some (r1, r2, r3)) :
  Calls Try.prog 36 #[.slice A0 l0.length c0, .slice A1 l1.length c1] w fun e w' => ∃ v0_ v1_ : Value, e = .returned (.tuple #[v0_, v1_, .bool r3]) ∧ Kd.S (Kd.slice 3 (Kd.int .i64)) 24 w' w.heap.size (fun k_ => some k_ ≠ (v1_ : Value).ownBlock) v0_ r1 ∧ Kd.R (Kd.int .i64) 3 w' w.heap.size (fun _ => True) v1_ r2 ∧ Below w.heap.size w w' := by
 have HR0 := Az.mk hr0
 have HC0 := Az.mk hc0
 clear hr0 hc0
 have HR1 := Az.mk hr1
 have HC1 := Az.mk hc1
 clear hr1 hc1
 have HB := Az.mk (Below.refl w.heap.size w)
 have H : ((spec_IsFair.f k l0 l1).bind fun t734 => (if t734 = true then ((spec_l5Copy.f k l0).bind fun t741 => ((some (([] : List Int) : List Int)).bind fun y744 => (if y744.length + l1.length < 17592186044416 then ((some (y744 ++ l1 : List Int)).bind fun y747 => ((spec_BestFlip.f k t741 y747).bind fun t750 => (spec_Shorten.l0 k t741 y747 t750))) else (none)))) else (some ((([] : List (List Int))), (([] : List Int)), false)))) = some (r1, r2, r3) := h
 clear h
 replace H := Option.bind_eq_some_iff.mp H
 obtain ⟨t734, A30, H⟩ := H
 try dsimp only at H
 have A3 := Az.mk A30
 clear A30
 by_cases c4 : t734 = true
 rotate_left
 ·replace c4 := Bool.eq_false_iff.mpr c4
  subst c4
  have H1 : (some ((([] : List (List Int))), (([] : List Int)), false)) = some (r1, r2, r3) := by rw [if_neg (show ¬ (false = true) by decide)] at H; exact H
  clear H
  have H := H1
  clear H1
  obtain ⟨y735, hy735⟩ : ∃ y_ : List (List Int), y_ = (([] : List (List Int))) := ⟨_, rfl⟩
  replace H : (some (y735, (([] : List Int)), false)) = some (r1, r2, r3) := by first | (rw [hy735]; with_reducible exact H) | (have H2_ := (Option.bind_some _ _).symm.trans H; rw [hy735]; with_reducible exact H2_) | (have H2_ := (Option.bind_some _ _).symm.trans H; with_reducible exact H2_) | with_reducible exact H | (rw [hy735]; exact H) | exact H
  have Ny735 := Az.mk hy735
  clear hy735
  obtain ⟨y738, hy738⟩ : ∃ y_ : List Int, y_ = (([] : List Int)) := ⟨_, rfl⟩
  replace H : (some (y735, y738, false)) = some (r1, r2, r3) := by first | (rw [hy738]; with_reducible exact H) | (have H2_ := (Option.bind_some _ _).symm.trans H; rw [hy738]; with_reducible exact H2_) | (have H2_ := (Option.bind_some _ _).symm.trans H; with_reducible exact H2_) | with_reducible exact H | (rw [hy738]; exact H) | exact H
  have Ny738 := Az.mk hy738
  clear hy738
  simp only [Option.some.injEq, Prod.mk.injEq] at H
  obtain ⟨rfl, rfl, rfl⟩ := H
  go_enter Try.func36, Try.ntmps36
  go_wp2_with (first | ((with_reducible refine gtC (f := 57) rfl ?_); refine goesL_ (some 12) rfl rfl Try.func57 (by kernel_rfl) rfl #[.slice A0 l0.length c0, .slice A1 l1.length c1] rfl ln_43 ?_; (with_reducible refine (spec_IsFair.calls k _ _ l0 _ _ l1 false _ ?side1 ?side2 ?side3 ?side4 A3.out).mono ?_); (case side1 => repeat (first | exact HR0.out | (with_reducible refine Kd.C_alloc ?_ _) | (with_reducible refine Kd.C_drewN ?_ _) | (with_reducible refine Kd.C_drew ?_))); (case side2 => exact HC0.out); (case side3 => repeat (first | exact HR1.out | (with_reducible refine Kd.C_alloc ?_ _) | (with_reducible refine Kd.C_drewN ?_ _) | (with_reducible refine Kd.C_drew ?_))); (case side4 => exact HC1.out); rintro e w27 ⟨rfl, hb⟩; refine ⟨_, rfl, ?_⟩; have n0_ := Az.mk (bwT bw_43 hb); clear HB; have HB := n0_; clear n0_; (try clear hb); (try clear hb2); (try clear hk); (try clear hi)) | ((with_reducible refine gtD (N := 14) rfl ?_); refine Kd.S_lit (Kd.slice 3 (Kd.int .i64)) _ 24 ?hg (N := 14) ?hd (xs := ([] : List (List Int))) (inner := []) (ok := fun _ => True) (okp := fun _ => True) ?hr ?hp (fun _ hk => hk) trivial (Below.refl _ _) (Nat.le_refl _) (by simp) ?_; (case hd => rfl); (case hg => rfl); (case hr => first | (go_simp; done) | (go_simp; rfl)); (case hp => exact (Reps.none _ _)); intro v736 w28 ho29 hb hg_ hnew_; clear hg_ hnew_; (first | rw [← Ny735.out] at ho29 | (simp only [Int.reduceToNat] at ho29; rw [← Ny735.out] at ho29)); have n0_ := Az.mk (Kd.S_lower ho29 (bwZ bw_43)); have n1_ := Az.mk (bwT bw_43 hb); clear HB; have HO737 := n0_; have HB := n1_; clear n0_ n1_; clear hb ho29) | ((with_reducible refine gtD (N := 15) rfl ?_); refine Kd.R_lit (Kd.int .i64) _ 3 ?hg (N := 15) ?hd (xs := ([] : List Int)) (inner := []) (ok := fun _ => True) (okp := fun _ => True) ?hr ?hp (fun _ hk => hk) trivial (Below.refl _ _) (Nat.le_refl _) (by simp) ?_; (case hd => rfl); (case hg => rfl); (case hr => first | (go_simp; done) | (go_simp; rfl)); (case hp => exact (Reps.none _ _)); intro v739 w30 ho31 hb hg_ hnew_; clear hg_ hnew_; (first | rw [← Ny738.out] at ho31 | (simp only [Int.reduceToNat] at ho31; rw [← Ny738.out] at ho31)); have n0_ := Az.mk (Kd.S_elder' (by (with_reducible repeat (first | apply Kd.S_alloc | apply Kd.S_drewN | apply Kd.S_drew)); exact HO737.out) (Kd.R_base ho31) hb); have n1_ := Az.mk (Kd.R_lower ho31 (bwZ bw_43)); have n2_ := Az.mk (bwT bw_43 hb); clear HO737; clear HB; have HO737 := n0_; have HO740 := n1_; have HB := n2_; clear n0_ n1_ n2_; clear hb ho31))
  go_ret3
  exact ⟨_, _, by first | rfl | (simp [eWn, eWs] <;> rfl) | (simp [*, eWn, eWs] <;> rfl), by (with_reducible repeat (first | apply Kd.S_alloc | apply Kd.S_drewN | apply Kd.S_drew)); exact Kd.S_mono HO737.out (fun _ hk => hk.2), by (with_reducible repeat (first | apply Kd.R_alloc | apply Kd.R_drewN | apply Kd.R_drew)); exact HO740.out, bw_43⟩
 subst c4
 have H1 : ((spec_l5Copy.f k l0).bind fun t741 => ((some (([] : List Int) : List Int)).bind fun y744 => (if y744.length + l1.length < 17592186044416 then ((some (y744 ++ l1 : List Int)).bind fun y747 => ((spec_BestFlip.f k t741 y747).bind fun t750 => (spec_Shorten.l0 k t741 y747 t750))) else (none)))) = some (r1, r2, r3) := by rw [if_pos rfl] at H; exact H
 clear H
 have H := H1
 clear H1
 replace H := Option.bind_eq_some_iff.mp H
 obtain ⟨t741, A50, H⟩ := H
 try dsimp only at H
 have A5 := Az.mk A50
 clear A50
 obtain ⟨y744, hy744⟩ : ∃ y_ : List Int, y_ = (([] : List Int)) := ⟨_, rfl⟩
 replace H : (if y744.length + l1.length < 17592186044416 then ((some (y744 ++ l1 : List Int)).bind fun y747 => ((spec_BestFlip.f k t741 y747).bind fun t750 => (spec_Shorten.l0 k t741 y747 t750))) else (none)) = some (r1, r2, r3) := by first | (rw [hy744]; with_reducible exact H) | (have H2_ := (Option.bind_some _ _).symm.trans H; rw [hy744]; with_reducible exact H2_) | (have H2_ := (Option.bind_some _ _).symm.trans H; with_reducible exact H2_) | with_reducible exact H | (rw [hy744]; exact H) | exact H
 have Ny744 := Az.mk hy744
 clear hy744
 by_cases c6 : y744.length + l1.length < 17592186044416
 rotate_left
 ·rw [if_neg c6] at H
  exact absurd H (by simp)
 rw [if_pos c6] at H
 have LMc6 := Az.mk c6
 clear c6
 obtain ⟨y747, hy747⟩ : ∃ y_ : List Int, y_ = (y744 ++ l1) := ⟨_, rfl⟩
 replace H : ((spec_BestFlip.f k t741 y747).bind fun t750 => (spec_Shorten.l0 k t741 y747 t750)) = some (r1, r2, r3) := by first | (rw [hy747]; with_reducible exact H) | (have H2_ := (Option.bind_some _ _).symm.trans H; rw [hy747]; with_reducible exact H2_) | (have H2_ := (Option.bind_some _ _).symm.trans H; with_reducible exact H2_) | with_reducible exact H | (rw [hy747]; exact H) | exact H
 have Ny747 := Az.mk hy747
 clear hy747
 replace H := Option.bind_eq_some_iff.mp H
 obtain ⟨t750, A70, H⟩ := H
 try dsimp only at H
 have A7 := Az.mk A70
 clear A70
 have H' := Az.mk H
 clear H
 go_enter Try.func36, Try.ntmps36
 go_wp2_with (first | ((with_reducible refine gtC (f := 57) rfl ?_); refine goesL_ (some 12) rfl rfl Try.func57 (by kernel_rfl) rfl #[.slice A0 l0.length c0, .slice A1 l1.length c1] rfl ln_43 ?_; (with_reducible refine (spec_IsFair.calls k _ _ l0 _ _ l1 true _ ?side1 ?side2 ?side3 ?side4 A3.out).mono ?_); (case side1 => repeat (first | exact HR0.out | (with_reducible refine Kd.C_alloc ?_ _) | (with_reducible refine Kd.C_drewN ?_ _) | (with_reducible refine Kd.C_drew ?_))); (case side2 => exact HC0.out); (case side3 => repeat (first | exact HR1.out | (with_reducible refine Kd.C_alloc ?_ _) | (with_reducible refine Kd.C_drewN ?_ _) | (with_reducible refine Kd.C_drew ?_))); (case side4 => exact HC1.out); rintro e w8 ⟨rfl, hb⟩; refine ⟨_, rfl, ?_⟩; have n0_ := Az.mk (bwT bw_43 hb); clear HB; have HB := n0_; clear n0_; (try clear hb); (try clear hb2); (try clear hk); (try clear hi)) | ((with_reducible refine gtC (f := 106) rfl ?_); refine goesL_ (some 17) rfl rfl Try.func106 (by kernel_rfl) rfl #[.slice A0 l0.length c0] rfl ln_43 ?_; (with_reducible refine (spec_l5Copy.calls k _ _ l0 t741 _ ?side1 ?side2 A5.out).mono ?_); (case side1 => repeat (first | exact (Kd.C_below HR0.out HB.out) | (with_reducible refine Kd.C_alloc ?_ _) | (with_reducible refine Kd.C_drewN ?_ _) | (with_reducible refine Kd.C_drew ?_))); (case side2 => exact HC0.out); rintro e w9 ⟨v742, rfl, ho0, hb⟩; refine ⟨_, rfl, ?_⟩; have n0_ := Az.mk (Kd.S_lower ho0 (bwZ bw_43)); have n1_ := Az.mk (bwT bw_43 hb); clear HB; have HO743 := n0_; have HB := n1_; clear n0_ n1_; (try clear hb); (try clear hb2); (try clear hk); (try clear hi); (try clear ho0)) | ((with_reducible refine gtD (N := 18) rfl ?_); refine Kd.R_lit (Kd.int .i64) _ 3 ?hg (N := 18) ?hd (xs := ([] : List Int)) (inner := []) (ok := fun _ => True) (okp := fun _ => True) ?hr ?hp (fun _ hk => hk) trivial (Below.refl _ _) (Nat.le_refl _) (by simp) ?_; (case hd => rfl); (case hg => rfl); (case hr => first | (go_simp; done) | (go_simp; rfl)); (case hp => exact (Reps.none _ _)); intro v745 w10 ho11 hb hg_ hnew_; clear hg_ hnew_; (first | rw [← Ny744.out] at ho11 | (simp only [Int.reduceToNat] at ho11; rw [← Ny744.out] at ho11)); have n0_ := Az.mk (Kd.S_elder' (by (with_reducible repeat (first | apply Kd.S_alloc | apply Kd.S_drewN | apply Kd.S_drew)); exact HO743.out) (Kd.R_base ho11) hb); have n1_ := Az.mk (Kd.R_lower ho11 (bwZ bw_43)); have n2_ := Az.mk (bwT bw_43 hb); clear HO743; clear HB; have HO743 := n0_; have HO746 := n1_; have HB := n2_; clear n0_ n1_ n2_; clear hb ho11) | ((with_reducible refine gate_builtin (b := .append) (xs := #[.tmp 18, .tmp 19]) rfl ?_); at_builtin; refine Kd.R_append_rows (Kd.int .i64) (w0 := w) w.heap.size rfl (.tmp 18) (.tmp 19) 24 3 (.int .i64 0) 8 rfl Try.underlying24 info3 rfl (by decide) (by omega) v745 y744 l1 _ _ _ (fun _ => True) (fun _ => False) rfl rfl ?aO ?aR (fun _ _ h => h) (fun _ h => h.elim) ?aF ?aB ?aS ?aL ?_; (case aR => repeat (first | exact (Kd.C_below HR1.out HB.out) | (with_reducible refine Kd.C_alloc ?_ _) | (with_reducible refine Kd.C_drewN ?_ _) | (with_reducible refine Kd.C_drew ?_))); (case aB => exact bw_43); (case aF => exact (fun _ _ => trivial)); (case aO => exact (by (with_reducible repeat (first | apply Kd.R_alloc | apply Kd.R_drewN | apply Kd.R_drew)); exact HO746.out)); (case aS => exact (bwZ bw_43)); (case aL => have := LMc6.out; omega); intro v748 w12 ho hb hg hat; rw [← Ny747.out] at ho; have n0_ := Az.mk (Kd.S_after (ok := (fun _ => True)) (by (with_reducible repeat (first | apply Kd.S_alloc | apply Kd.S_drewN | apply Kd.S_drew)); exact HO743.out) hg hat); have n1_ := Az.mk (hb); have n2_ := Az.mk (ho); clear HO743; clear HB; clear HO746; have HO743 := n0_; have HB := n1_; have HO749 := n2_; clear n0_ n1_ n2_; clear ho hb hg hat; obtain ⟨Ao13, co13, eo13⟩ := Kd.S_slice HO743.out; subst eo13; obtain ⟨Ao14, co14, eo14⟩ := Kd.R_slice HO749.out; subst eo14) | ((with_reducible refine gtC (f := 30) rfl ?_); refine goesL_ (some 23) rfl rfl Try.func30 (by kernel_rfl) rfl #[.slice Ao13 t741.length co13, .slice Ao14 y747.length co14] rfl ln_43 ?_; (with_reducible refine (spec_BestFlip.calls k _ _ t741 _ _ y747 t750 _ ?side1 ?side2 ?side3 ?side4 A7.out).mono ?_); (case side1 => repeat (first | exact (Kd.S_reads' HO743.out).2.2 | (with_reducible refine Kd.C_alloc ?_ _) | (with_reducible refine Kd.C_drewN ?_ _) | (with_reducible refine Kd.C_drew ?_))); (case side2 => exact (Kd.S_reads' HO743.out).2.1); (case side3 => repeat (first | exact (Kd.R_reads' HO749.out).2.2 | (with_reducible refine Kd.C_alloc ?_ _) | (with_reducible refine Kd.C_drewN ?_ _) | (with_reducible refine Kd.C_drew ?_))); (case side4 => exact (Kd.R_reads' HO749.out).2.1); rintro e w15 ⟨rfl, hb⟩; refine ⟨_, rfl, ?_⟩; have n0_ := Az.mk (Kd.S_below (by (with_reducible repeat (first | apply Kd.S_alloc | apply Kd.S_drewN | apply Kd.S_drew)); exact HO743.out) hb); have n1_ := Az.mk (Kd.R_below (by (with_reducible repeat (first | apply Kd.R_alloc | apply Kd.R_drewN | apply Kd.R_drew)); exact HO749.out) hb); have n2_ := Az.mk (bwT bw_43 hb); clear HO743; clear HO749; clear HB; have HO743 := n0_; have HO749 := n1_; have HB := n2_; clear n0_ n1_ n2_; (try clear hb); (try clear hb2); (try clear hk); (try clear hi)))
 go_loopg [7, 8, 9] k (fun kq v7 v8 v9 w' => ∃ (x7_1 : List (List Int)) (x8_1 : List Int) (x9_1 : Int), v9 = .int .i64 x9_1 ∧ Az (spec_Shorten.l0 kq x7_1 x8_1 x9_1 = some (r1, r2, r3)) ∧ Az (kq ≤ k) ∧ Az (Kd.S (Kd.slice 3 (Kd.int .i64)) 24 w' w.heap.size (fun k_ => some k_ ≠ (v8 : Value).ownBlock) v7 x7_1) ∧ Az (Kd.R (Kd.int .i64) 3 w' w.heap.size (fun _ => True) v8 x8_1) ∧ Az (Below w.heap.size w w'))
 case atStart => exact ⟨(t741), (y747), (t750), (by first | rfl | (simp; done) | (simp [*]; done)), H', ⟨Nat.le_refl _⟩, ⟨by (with_reducible repeat (first | apply Kd.S_alloc | apply Kd.S_drewN | apply Kd.S_drew)); exact Kd.S_mono HO743.out (fun _ hk => hk.2)⟩, ⟨by (with_reducible repeat (first | apply Kd.R_alloc | apply Kd.R_drewN | apply Kd.R_drew)); exact HO749.out⟩, ⟨by repeat (first | (with_reducible first | exact HB.out | apply bwA | apply pbN | apply bwD) | exact HB.out)⟩⟩
 case round =>
  clear H'
  try clear c1
  try clear p2
  try clear c3
  try clear c4
  try clear c5
  try clear c6
  try clear c10
  obtain ⟨x7_1, x8_1, x9_1, rfl, HA, HK1, HO_7, HO_8, HB⟩ := hrel
  cases gk with
  | zero => exact absurd HA.out (by simp [spec_Shorten.l0])
  | succ k1 =>
   have H := HA.out
   clear HA
   simp only [spec_Shorten.l0] at H
   by_cases c16 : x9_1 > 0
   rotate_left
   ·rw [if_neg c16] at H
    have c16b0 : decide (0 < x9_1) = false := decide_eq_false c16
    clear c16
    simp only [Option.some.injEq, Prod.mk.injEq] at H
    obtain ⟨rfl, rfl, rfl⟩ := H
    go_wp2
    go_ret3
    exact ⟨_, _, by first | rfl | (simp [eWn, eWs] <;> rfl) | (simp [*, eWn, eWs] <;> rfl), by (with_reducible repeat (first | apply Kd.S_alloc | apply Kd.S_drewN | apply Kd.S_drew)); exact HO_7.out, by (with_reducible repeat (first | apply Kd.R_alloc | apply Kd.R_drewN | apply Kd.R_drew)); exact HO_8.out, bw_43⟩
   rw [if_pos c16] at H
   have c16b0 : decide (0 < x9_1) = true := decide_eq_true c16
   clear c16
   replace H := Option.bind_eq_some_iff.mp H
   obtain ⟨⟨t751, t752⟩, A170, H⟩ := H
   try dsimp only at H
   have A17 := Az.mk A170
   clear A170
   replace H := Option.bind_eq_some_iff.mp H
   obtain ⟨⟨t755, t756⟩, A180, H⟩ := H
   try dsimp only at H
   have A18 := Az.mk A180
   clear A180
   replace H := Option.bind_eq_some_iff.mp H
   obtain ⟨t759, A190, H⟩ := H
   try dsimp only at H
   have A19 := Az.mk A190
   clear A190
   have H' := Az.mk H
   clear H
   obtain ⟨Ao20, co20, eo20⟩ := Kd.S_slice HO_7.out
   subst eo20
   obtain ⟨Ao21, co21, eo21⟩ := Kd.R_slice HO_8.out
   subst eo21
   go_wp2_with (first | ((with_reducible refine gtC (f := 22) rfl ?_); refine goesL_ (some 33) rfl rfl Try.func22 (by kernel_rfl) rfl #[.slice Ao20 x7_1.length co20, .slice Ao21 x8_1.length co21, .int .i64 x9_1] rfl ln_43 ?_; (with_reducible refine (spec_FlipCurve.calls k1 _ _ x7_1 _ _ x8_1 x9_1 t751 t752 _ ?side1 ?side2 ?side3 ?side4 A17.out).mono ?_); (case side1 => repeat (first | exact (Kd.S_reads' HO_7.out).2.2 | (with_reducible refine Kd.C_alloc ?_ _) | (with_reducible refine Kd.C_drewN ?_ _) | (with_reducible refine Kd.C_drew ?_))); (case side2 => exact (Kd.S_reads' HO_7.out).2.1); (case side3 => repeat (first | exact (Kd.R_reads' HO_8.out).2.2 | (with_reducible refine Kd.C_alloc ?_ _) | (with_reducible refine Kd.C_drewN ?_ _) | (with_reducible refine Kd.C_drew ?_))); (case side4 => exact (Kd.R_reads' HO_8.out).2.1); rintro e w22 ⟨v753, rfl, ho0, hb⟩; refine ⟨_, rfl, ?_⟩; have n0_ := Az.mk (Kd.S_elder' (by (with_reducible repeat (first | apply Kd.S_alloc | apply Kd.S_drewN | apply Kd.S_drew)); exact HO_7.out) (Kd.R_base ho0) hb); have n1_ := Az.mk (Kd.R_elder' (by (with_reducible repeat (first | apply Kd.R_alloc | apply Kd.R_drewN | apply Kd.R_drew)); exact HO_8.out) (Kd.R_base ho0) hb); have n2_ := Az.mk (Kd.R_lower (Kd.R_new' ho0 (Kd.R_lt (by (with_reducible repeat (first | apply Kd.R_alloc | apply Kd.R_drewN | apply Kd.R_drew)); exact HO_8.out))) (bwZ bw_43)); have n3_ := Az.mk (bwT bw_43 hb); clear HO_7; clear HO_8; clear HB; have HO_7 := n0_; have HO_8 := n1_; have HO754 := n2_; have HB := n3_; clear n0_ n1_ n2_ n3_; (try clear hb); (try clear hb2); (try clear hk); (try clear hi); (try clear ho0)) | ((with_reducible refine gtC (f := 42) rfl ?_); refine goesL_ (some 39) rfl rfl Try.func42 (by kernel_rfl) rfl #[.slice Ao20 x7_1.length co20, .int .i64 x9_1] rfl ln_43 ?_; (with_reducible refine (spec_FlipEdge.calls k1 _ _ x7_1 x9_1 t755 t756 _ ?side1 ?side2 A18.out).mono ?_); (case side1 => repeat (first | exact (Kd.S_reads' HO_7.out).2.2 | (with_reducible refine Kd.C_alloc ?_ _) | (with_reducible refine Kd.C_drewN ?_ _) | (with_reducible refine Kd.C_drew ?_))); (case side2 => exact (Kd.S_reads' HO_7.out).2.1); rintro e w23 ⟨v757, rfl, ho0, hb⟩; refine ⟨_, rfl, ?_⟩; have n0_ := Az.mk (Kd.S_elder' (by (with_reducible repeat (first | apply Kd.S_alloc | apply Kd.S_drewN | apply Kd.S_drew)); exact HO_7.out) (Kd.S_base ho0) hb); have n1_ := Az.mk (Kd.R_below (by (with_reducible repeat (first | apply Kd.R_alloc | apply Kd.R_drewN | apply Kd.R_drew)); exact HO_8.out) hb); have n2_ := Az.mk (Kd.R_below (by (with_reducible repeat (first | apply Kd.R_alloc | apply Kd.R_drewN | apply Kd.R_drew)); exact HO754.out) hb); have n3_ := Az.mk (Kd.S_lower (Kd.S_new' (Kd.S_new' (Kd.S_new' ho0 (Kd.S_lt (by (with_reducible repeat (first | apply Kd.S_alloc | apply Kd.S_drewN | apply Kd.S_drew)); exact HO_7.out))) (Kd.R_lt (by (with_reducible repeat (first | apply Kd.R_alloc | apply Kd.R_drewN | apply Kd.R_drew)); exact HO_8.out))) (Kd.R_lt (by (with_reducible repeat (first | apply Kd.R_alloc | apply Kd.R_drewN | apply Kd.R_drew)); exact HO754.out))) (bwZ bw_43)); have n4_ := Az.mk (bwT bw_43 hb); clear HO_7; clear HO_8; clear HO754; clear HB; have HO_7 := n0_; have HO_8 := n1_; have HO754 := n2_; have HO758 := n3_; have HB := n4_; clear n0_ n1_ n2_ n3_ n4_; (try clear hb); (try clear hb2); (try clear hk); (try clear hi); (try clear ho0); obtain ⟨Ao24, co24, eo24⟩ := Kd.S_slice HO758.out; subst eo24; obtain ⟨Ao25, co25, eo25⟩ := Kd.R_slice HO754.out; subst eo25) | ((with_reducible refine gtC (f := 30) rfl ?_); refine goesL_ (some 28) rfl rfl Try.func30 (by kernel_rfl) rfl #[.slice Ao24 t755.length co24, .slice Ao25 t751.length co25] rfl ln_43 ?_; (with_reducible refine (spec_BestFlip.calls k1 _ _ t755 _ _ t751 t759 _ ?side1 ?side2 ?side3 ?side4 A19.out).mono ?_); (case side1 => repeat (first | exact (Kd.S_reads' HO758.out).2.2 | (with_reducible refine Kd.C_alloc ?_ _) | (with_reducible refine Kd.C_drewN ?_ _) | (with_reducible refine Kd.C_drew ?_))); (case side2 => exact (Kd.S_reads' HO758.out).2.1); (case side3 => repeat (first | exact (Kd.R_reads' HO754.out).2.2 | (with_reducible refine Kd.C_alloc ?_ _) | (with_reducible refine Kd.C_drewN ?_ _) | (with_reducible refine Kd.C_drew ?_))); (case side4 => exact (Kd.R_reads' HO754.out).2.1); rintro e w26 ⟨rfl, hb⟩; refine ⟨_, rfl, ?_⟩; have n0_ := Az.mk (Kd.S_below (by (with_reducible repeat (first | apply Kd.S_alloc | apply Kd.S_drewN | apply Kd.S_drew)); exact HO_7.out) hb); have n1_ := Az.mk (Kd.R_below (by (with_reducible repeat (first | apply Kd.R_alloc | apply Kd.R_drewN | apply Kd.R_drew)); exact HO_8.out) hb); have n2_ := Az.mk (Kd.R_below (by (with_reducible repeat (first | apply Kd.R_alloc | apply Kd.R_drewN | apply Kd.R_drew)); exact HO754.out) hb); have n3_ := Az.mk (Kd.S_below (by (with_reducible repeat (first | apply Kd.S_alloc | apply Kd.S_drewN | apply Kd.S_drew)); exact HO758.out) hb); have n4_ := Az.mk (bwT bw_43 hb); clear HO_7; clear HO_8; clear HO754; clear HO758; clear HB; have HO_7 := n0_; have HO_8 := n1_; have HO754 := n2_; have HO758 := n3_; have HB := n4_; clear n0_ n1_ n2_ n3_ n4_; (try clear hb); (try clear hb2); (try clear hk); (try clear hi)))
   go_roundg k1
   case measure => have := HK1.out; omega
   case rel => exact ⟨(t755), (t751), (t759), (by first | rfl | (simp; done) | (simp [*]; done)), H', ⟨by have := HK1.out; omega⟩, ⟨by (with_reducible repeat (first | apply Kd.S_alloc | apply Kd.S_drewN | apply Kd.S_drew)); exact Kd.S_mono HO758.out (fun _ hk => hk.2)⟩, ⟨by (with_reducible repeat (first | apply Kd.R_alloc | apply Kd.R_drewN | apply Kd.R_drew)); exact Kd.R_mono HO754.out (fun _ hk => trivial)⟩, ⟨by repeat (first | (with_reducible first | exact HB.out | apply bwA | apply pbN | apply bwD) | exact HB.out)⟩⟩

end Go.Proofs.Ytolmicnapemljaa.P
