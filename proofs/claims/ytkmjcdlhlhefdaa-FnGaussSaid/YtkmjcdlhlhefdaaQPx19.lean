-- By this session's driver (wip/tools/mk.py) of the kit's print program, over several statements at once. Not trusted: Lean checks it.
import Derived.Test.YtkmjcdlhlhefdaaQWZip
import Derived.Test.YtkmjcdlhlhefdaaQPx0
namespace Go.Proofs.Ytkmjcdlhlhefdaa.P
open Go.RowKit Go.Proofs.YtkmjcdlhlhefdaaW.PrintWords Go.Proofs.YtkmjcdlhlhefdaaW.PrintLast Go.Proofs.YtkmjcdlhlhefdaaW.PrintMore
attribute [local go_sem] max2_int min2_int max_two min_two max_three min_three max_four min_four   -- for this text's walks alone
set_option linter.unusedVariables false
set_option linter.unusedSimpArgs false

theorem bw_19 {n : Nat} {v v' : World} (h : Below n v v' := by repeat (first | (with_reducible first | exact HB.out | apply bwA | apply pbN | apply bwD) | exact HB.out)) : Below n v v' := h

/-! ### spec_l6Cycles: function 53 -/
mutual
def spec_l6Cycles.l0 : Nat → List Int → List (List Int) → List Bool → Int → Option ((List (List Int)))
 | 0, _, _, _, _ => none
 | k + 1, x0, x3, x4, x5 => if x5 < (x0.length : Int) then (if 0 ≤ x5 then (if x5 < (x4.length : Int) then (if rdOf false x4 x5 = true then (spec_l6Cycles.l0 k x0 x3 x4 (wrap64 (x5 + 1))) else (spec_l6Cycles.l1 k x0 x3 x4 x5 (([] : List Int)) x5)) else (none)) else (none)) else (some x3)
def spec_l6Cycles.l1 : Nat → List Int → List (List Int) → List Bool → Int → List Int → Int → Option ((List (List Int)))
 | 0, _, _, _, _, _, _ => none
 | k + 1, x0, x3, x4, x5, x6, x7 => if 0 ≤ x7 then (if x7 < (x4.length : Int) then (if rdOf false x4 x7 = true then (if x3.length < 5864062014805 then (spec_l6Cycles.l0 k x0 (x3 ++ [x6]) x4 (wrap64 (x5 + 1))) else (none)) else (if x6.length < 17592186044416 then (if x7 < (x0.length : Int) then (spec_l6Cycles.l1 k x0 x3 (x4.set (x7 : Int).toNat true) x5 (x6 ++ [x7]) (rd x0 x7)) else (none)) else (none))) else (none)) else (none)
end
def spec_l6Cycles.f (k : Nat) (l0 : List Int) : Option ((List (List Int))) := if 0 ≤ (l0.length : Int) then (if ((l0.length : Int) : Int).toNat ≤ 281474976710656 then (spec_l6Cycles.l0 k l0 (([] : List (List Int))) (List.replicate ((l0.length : Int) : Int).toNat false) 0) else (none)) else (none)
set_option maxHeartbeats 8000000 in
set_option maxRecDepth 100000 in
theorem spec_l6Cycles.calls (k : Nat) (A0 : Option Addr) (c0 : Nat) (l0 : List Int) (r : List (List Int)) (w : World) (hr0 : Kd.C (Kd.int .i64) w A0 l0.length l0) (hc0 : l0.length ≤ c0) (h : spec_l6Cycles.f k l0 = some r) :
  Calls Try.prog 53 #[.slice A0 l0.length c0] w fun e w' => ∃ v0_ : Value, e = .returned (v0_) ∧ Kd.S (Kd.slice 3 (Kd.int .i64)) 24 w' w.heap.size (fun _ => True) v0_ r ∧ Below w.heap.size w w' := by
 have HR0 := Az.mk hr0
 have HC0 := Az.mk hc0
 clear hr0 hc0
 have HB := Az.mk (Below.refl w.heap.size w)
 have H : (if 0 ≤ (l0.length : Int) then (if ((l0.length : Int) : Int).toNat ≤ 281474976710656 then (spec_l6Cycles.l0 k l0 (([] : List (List Int))) (List.replicate ((l0.length : Int) : Int).toNat false) 0) else (none)) else (none)) = some r := h
 clear h
 obtain ⟨y447, hy⟩ : ∃ y_ : List (List Int), y_ = (([] : List (List Int))) := ⟨_, rfl⟩
 replace H : (if 0 ≤ (l0.length : Int) then (if ((l0.length : Int) : Int).toNat ≤ 281474976710656 then (spec_l6Cycles.l0 k l0 y447 (List.replicate ((l0.length : Int) : Int).toNat false) 0) else (none)) else (none)) = some r := rh
 have Ny447 := Az.mk hy
 clear hy
 by_cases c2 : 0 ≤ (l0.length : Int)
 rotate_left
 ·rw [if_neg c2] at H
  exact absurd H (by simp)
 rw [if_pos c2] at H
 have c2b0 := eq_true c2
 have c2b1 : decide (0 ≤ (l0.length : Int)) = true := decide_eq_true c2
 clear c2
 by_cases c3 : ((l0.length : Int) : Int).toNat ≤ 281474976710656
 rotate_left
 ·rw [if_neg c3] at H
  exact absurd H (by simp)
 rw [if_pos c3] at H
 have c3b0 := eq_true c3
 have c3b1 : decide (((l0.length : Int) : Int).toNat ≤ 281474976710656) = true := decide_eq_true c3
 clear c3
 obtain ⟨y450, hy⟩ : ∃ y_ : List Bool, y_ = (List.replicate ((l0.length : Int) : Int).toNat false) := ⟨_, rfl⟩
 replace H : (spec_l6Cycles.l0 k l0 y447 y450 0) = some r := rh
 have Ny450 := Az.mk hy
 clear hy
 have H' := Az.mk H
 clear H
 go_enter Try.func53, Try.ntmps53
 go_wp2_with (first | ((with_reducible refine gtD (N := 8) rfl ?_); refine Kd.S_lit (Kd.slice 3 (Kd.int .i64)) _ 24 ?hg (N := 8) ?hd (xs := ([] : List (List Int))) (inner := []) (ok := fun _ => True) (okp := fun _ => True) ?hr ?hp (fun _ hk => hk) trivial (Below.refl _ _) (Nat.le_refl _) (by simp) ?_; (case hd => rfl); (case hg => rfl); (case hr => first | (go_simp; done) | (go_simp; rfl)); (case hp => exact (Reps.none _ _)); intro v448 w4 ho5 hb hg_ hnew_; clear hg_ hnew_; (first | rw [← Ny447.out] at ho5 | (simp only [Int.reduceToNat] at ho5; rw [← Ny447.out] at ho5)); have HO449 := Az.mk (Kd.S_lower ho5 (bwZ bw_19)); replace HB := Az.mk (bwT bw_19 hb); clear hb ho5) | ((with_reducible refine gtD (N := 11) rfl ?_); refine Kd.R_make Kd.bool _ 4 rfl (N := 11) rfl 59 _ _ rfl (l0.length : Int) rfl rfl Try.underlying59 (.bool false) 1 info4 rfl (by decide) (by omega) false (ok := fun _ => True) (okp := fun _ => True) rfl (fun _ hk => hk) trivial (of_decide_eq_true am) (Nat.le_trans (Nat.mul_le_mul_right _ (of_decide_eq_true am : (l0.length : Int).toNat ≤ 281474976710656)) (by omega)) (Below.refl _ _) (Nat.le_refl _) ?_; intro v451 w6 ho7 hb hg_ hnew_; clear hg_ hnew_; (first | rw [← Ny450.out] at ho7 | (simp only [Int.reduceToNat] at ho7; rw [← Ny450.out] at ho7)); replace HO449 := Az.mk (Kd.S_below (kS HO449.out) hb); have HO452 := Az.mk (Kd.R_lower ho7 (bwZ bw_19)); replace HB := Az.mk (bwT bw_19 hb); clear hb ho7))
 go_loopg [3, 5] k (fun kq v3 v5 w' => ∃ (x3_1 : List (List Int)) (x4_1 : List Bool) (x5_1 : Int), v5 = .int .i64 x5_1 ∧ Az (spec_l6Cycles.l0 kq l0 x3_1 x4_1 x5_1 = some r) ∧ Az (kq ≤ k) ∧ Az (Kd.S (Kd.slice 3 (Kd.int .i64)) 24 w' w.heap.size (fun _ => True) v3 x3_1) ∧ Az (Kd.R Kd.bool 4 w' w.heap.size (fun _ => True) v451 x4_1) ∧ Az (Below w.heap.size w w'))
 case atStart => exact ⟨(y447), (y450), (0), rq2, H', ⟨Nat.le_refl _⟩, ⟨kS HO449.out⟩, ⟨kR HO452.out⟩, ⟨bw_19⟩⟩
 clear H'
 try clear c2
 try clear c2b0
 try clear c2b1
 try clear c3
 try clear c3b0
 try clear c3b1
 obtain ⟨x3_1, x4_1, x5_1, rfl, HA, HK1, HO_3, HO_4, HB⟩ := hrel
 cases gk with
 | zero => exact absurd HA.out (by simp [spec_l6Cycles.l0])
 | succ k1 =>
  have H := HA.out
  clear HA
  simp only [spec_l6Cycles.l0] at H
  by_cases c8 : x5_1 < (l0.length : Int)
  rotate_left
  ·rw [if_neg c8] at H
   have c8b0 : decide (x5_1 < (l0.length : Int)) = false := decide_eq_false c8
   clear c8
   obtain rfl := Option.some.inj H
   go_wp2
   go_ret
   exact ⟨_, rq1, kS HO_3.out, bw_19⟩
  rw [if_pos c8] at H
  have c8b0 : decide (x5_1 < (l0.length : Int)) = true := decide_eq_true c8
  clear c8
  by_cases c9 : 0 ≤ x5_1
  rotate_left
  ·rw [if_neg c9] at H
   exact absurd H (by simp)
  rw [if_pos c9] at H
  have c9b0 : decide (0 ≤ x5_1) = true := decide_eq_true c9
  clear c9
  by_cases c10 : x5_1 < (x4_1.length : Int)
  rotate_left
  ·rw [if_neg c10] at H
   exact absurd H (by simp)
  rw [if_pos c10] at H
  have c10b0 : decide (x5_1 < (x4_1.length : Int)) = true := decide_eq_true c10
  clear c10
  obtain ⟨bq11, hbq11⟩ : ∃ b_ : Bool, b_ = (rdOf false x4_1 x5_1) := ⟨_, rfl⟩
  replace H : (if bq11 = true then (spec_l6Cycles.l0 k1 l0 x3_1 x4_1 (wrap64 (x5_1 + 1))) else (spec_l6Cycles.l1 k1 l0 x3_1 x4_1 x5_1 (([] : List Int)) x5_1)) = some r := by rw [← hbq11] at H; exact H
  have Nbq11 := Az.mk hbq11
  clear hbq11
  by_cases c12 : bq11 = true
  ·subst c12
   rw [if_pos rfl] at H
   have H' := Az.mk H
   clear H
   obtain ⟨Ao13, co13, eo13⟩ := Kd.R_slice HO_4.out
   subst eo13
   have p453 : 0 ≤ (x5_1 : Int) := of_decide_eq_true am
   have q453 : x5_1 < (x4_1.length : Int) := of_decide_eq_true am
   obtain ⟨ad453, e453, hx453_0⟩ := Kd.at_bool (Kd.R_reads' HO_4.out).2.2 x5_1 p453 q453
   (try rw [← Nbq11.out] at hx453_0)
   cases e453
   replace p453 := eq_true p453
   replace q453 := eq_true q453
   go_wp2
   go_roundg k1
   case measure => have := HK1.out; omega
   case rel => exact ⟨(x3_1), (x4_1), (wrap64 (x5_1 + 1)), rq2, H', ⟨by have := HK1.out; omega⟩, ⟨kS HO_3.out⟩, ⟨kR HO_4.out⟩, ⟨bw_19⟩⟩
  replace c12 := Bool.eq_false_iff.mpr c12
  subst c12
  rw [if_neg ff] at H
  obtain ⟨y454, hy⟩ : ∃ y_ : List Int, y_ = (([] : List Int)) := ⟨_, rfl⟩
  replace H : (spec_l6Cycles.l1 k1 l0 x3_1 x4_1 x5_1 y454 x5_1) = some r := rh
  have Ny454 := Az.mk hy
  clear hy
  have H' := Az.mk H
  clear H
  obtain ⟨Ao14, co14, eo14⟩ := Kd.R_slice HO_4.out
  subst eo14
  have p453 : 0 ≤ (x5_1 : Int) := of_decide_eq_true am
  have q453 : x5_1 < (x4_1.length : Int) := of_decide_eq_true am
  obtain ⟨ad453, e453, hx453_0⟩ := Kd.at_bool (Kd.R_reads' HO_4.out).2.2 x5_1 p453 q453
  (try rw [← Nbq11.out] at hx453_0)
  cases e453
  replace p453 := eq_true p453
  replace q453 := eq_true q453
  go_wp2_with (first | ((with_reducible refine gtD (N := 22) rfl ?_); refine Kd.R_lit (Kd.int .i64) _ 3 ?hg (N := 22) ?hd (xs := ([] : List Int)) (inner := []) (ok := fun _ => True) (okp := fun _ => True) ?hr ?hp (fun _ hk => hk) trivial (Below.refl _ _) (Nat.le_refl _) (by simp) ?_; (case hd => rfl); (case hg => rfl); (case hr => first | (go_simp; done) | (go_simp; rfl)); (case hp => exact (Reps.none _ _)); intro v455 w15 ho16 hb hg_ hnew_; clear hg_ hnew_; (first | rw [← Ny454.out] at ho16 | (simp only [Int.reduceToNat] at ho16; rw [← Ny454.out] at ho16)); replace HO_3 := Az.mk (Kd.S_elder' (kS HO_3.out) (Kd.R_base ho16) hb); replace HO_4 := Az.mk (Kd.R_below (kR HO_4.out) hb); have HO456 := Az.mk (Kd.R_lower ho16 (bwZ bw_19)); replace HB := Az.mk (bwT bw_19 hb); clear hb ho16))
  go_loopg [6, 7] k1 (fun kq v6 v7 w' => ∃ (x4_2 : List Bool) (x6_2 : List Int) (x7_2 : Int), v7 = .int .i64 x7_2 ∧ Az (spec_l6Cycles.l1 kq l0 x3_1 x4_2 x5_1 x6_2 x7_2 = some r) ∧ Az (kq ≤ k1) ∧ Az (Kd.S (Kd.slice 3 (Kd.int .i64)) 24 w' w.heap.size (fun k_ => some k_ ≠ (v6 : Value).ownBlock) u3 x3_1) ∧ Az (Kd.R Kd.bool 4 w' w.heap.size (fun _ => True) (.slice (some ad453) x4_1.length co14) x4_2) ∧ Az (Kd.R (Kd.int .i64) 3 w' w.heap.size (fun _ => True) v6 x6_2) ∧ Az (Below w.heap.size w w'))
  case atStart => exact ⟨(x4_1), (y454), (x5_1), rq2, H', ⟨Nat.le_refl _⟩, ⟨by (with_reducible repeat (first | apply Kd.S_alloc | apply Kd.S_drewN | apply Kd.S_drew)); exact Kd.S_mono HO_3.out (fun _ hk => hk.2)⟩, ⟨kR HO_4.out⟩, ⟨kR HO456.out⟩, ⟨bw_19⟩⟩
  clear H'
  try clear c2
  try clear c2b0
  try clear c2b1
  try clear c3
  try clear c3b0
  try clear c3b1
  try clear c8
  try clear c8b0
  try clear c9
  try clear c9b0
  try clear c10
  try clear c10b0
  try clear c12
  try clear hx453_0
  try clear p453
  try clear q453
  obtain ⟨x4_2, x6_2, x7_2, rfl, HA, HK2, HO_3, HO_4, HO_6, HB⟩ := hrel
  have hl4_2 := (Kd.R_reads' HO_4.out).1
  rw [hl4_2] at HO_4
  (try simp only [hl4_2])
  (try simp only [hl4_2] at HO_3)
  (try simp only [hl4_2] at HO_6)
  cases gk with
  | zero => exact absurd HA.out (by simp [spec_l6Cycles.l1])
  | succ k2 =>
   have H := HA.out
   clear HA
   simp only [spec_l6Cycles.l1] at H
   by_cases c17 : 0 ≤ x7_2
   rotate_left
   ·rw [if_neg c17] at H
    exact absurd H (by simp)
   rw [if_pos c17] at H
   have c17b0 : decide (0 ≤ x7_2) = true := decide_eq_true c17
   clear c17
   by_cases c18 : x7_2 < (x4_2.length : Int)
   rotate_left
   ·rw [if_neg c18] at H
    exact absurd H (by simp)
   rw [if_pos c18] at H
   have c18b0 : decide (x7_2 < (x4_2.length : Int)) = true := decide_eq_true c18
   clear c18
   obtain ⟨bq19, hbq19⟩ : ∃ b_ : Bool, b_ = (rdOf false x4_2 x7_2) := ⟨_, rfl⟩
   replace H : (if bq19 = true then (if x3_1.length < 5864062014805 then (spec_l6Cycles.l0 k2 l0 (x3_1 ++ [x6_2]) x4_2 (wrap64 (x5_1 + 1))) else (none)) else (if x6_2.length < 17592186044416 then (if x7_2 < (l0.length : Int) then (spec_l6Cycles.l1 k2 l0 x3_1 (x4_2.set (x7_2 : Int).toNat true) x5_1 (x6_2 ++ [x7_2]) (rd l0 x7_2)) else (none)) else (none))) = some r := by rw [← hbq19] at H; exact H
   have Nbq19 := Az.mk hbq19
   clear hbq19
   by_cases c20 : bq19 = true
   ·subst c20
    rw [if_pos rfl] at H
    by_cases c21 : x3_1.length < 5864062014805
    rotate_left
    ·rw [if_neg c21] at H
     exact absurd H (by simp)
    rw [if_pos c21] at H
    have LMc21 := Az.mk c21
    clear c21
    obtain ⟨y458, hy⟩ : ∃ y_ : List (List Int), y_ = (x3_1 ++ [x6_2]) := ⟨_, rfl⟩
    replace H : (spec_l6Cycles.l0 k2 l0 y458 x4_2 (wrap64 (x5_1 + 1))) = some r := rh
    have Ny458 := Az.mk hy
    clear hy
    have H' := Az.mk H
    clear H
    have p457 : 0 ≤ (x7_2 : Int) := of_decide_eq_true am
    have q457 : x7_2 < (x4_2.length : Int) := of_decide_eq_true am
    obtain ⟨ad457, e457, hx457_0⟩ := Kd.at_bool (Kd.R_reads' HO_4.out).2.2 x7_2 p457 q457
    (try rw [← Nbq11.out] at hx457_0)
    (try rw [← Nbq19.out] at hx457_0)
    obtain rfl : ad453 = ad457 := (by injection e457)
    replace p457 := eq_true p457
    replace q457 := eq_true q457
    obtain ⟨Ao23, co23, eo23⟩ := Kd.R_slice HO_6.out
    subst eo23
    go_wp2_with (first | ((with_reducible refine gate_builtin (b := .append) (xs := #[.tmp 40, .tmp 42]) rfl ?_); at_builtin; refine Kd.S_append (Kd.slice 3 (Kd.int .i64)) (w0 := w) w.heap.size rfl (.tmp 40) (.tmp 42) 37 24 (.slice none 0 0) 24 rfl Try.underlying37 info24 rfl (by decide) (by omega) u3 x3_1 x6_2 [.slice Ao23 x6_2.length co23] (fun _ => True) (fun k_ => some k_ = (.slice Ao23 x6_2.length co23 : Value).ownBlock) rfl rfl ?aP (fun k_ hk_ => ((Kd.R_mono (ok' := fun k_ => ((fun _ => True)) k_ ∧ some k_ ≠ (u3 : Value).ownBlock) (Kd.R_apart' (HO_6.out) (Kd.S_typed HO_3.out) (by decide)) (fun k_ hk => ⟨trivial, hk.2⟩))).1 k_ hk_.symm) ?aF ?aO ?aB ?aS ?aL ?_; (case aP => exact Kd.M_row (Kd.R_mono (Kd.R_tight rfl (Kd.R_mono (ok' := fun k_ => ((fun _ => True)) k_ ∧ some k_ ≠ (u3 : Value).ownBlock) (Kd.R_apart' (HO_6.out) (Kd.S_typed HO_3.out) (by decide)) (fun k_ hk => ⟨trivial, hk.2⟩))) (fun _ h_ => h_))); (case aB => exact bw_19); (case aF => exact (fun _ _ => trivial)); (case aO => exact (by (with_reducible repeat (first | apply Kd.S_alloc | apply Kd.S_drewN | apply Kd.S_drew)); exact Kd.S_mono HO_3.out (fun k_ hk => ⟨trivial, fun e_ => hk e_⟩))); (case aS => exact (bwZ bw_19)); (case aL => have := LMc21.out; omega); intro v459 w22 ho hb hg hat; rw [← Ny458.out] at ho; have n0_ := Az.mk (Kd.R_over' (kR HO_4.out) (Kd.S_typed (kS HO_3.out)) (by decide) hg); have n1_ := Az.mk (hb); have n2_ := Az.mk (ho); clear HO_4; clear HB; clear HO_3; clear HO_6; have HO_4 := n0_; have HB := n1_; have HO460 := n2_; clear n0_ n1_ n2_; clear ho hb hg hat))
    (try simp only [← hl4_2])
    go_roundg k2
    case measure => have := HK1.out; have := HK2.out; omega
    case rel => exact ⟨(y458), (x4_2), (wrap64 (x5_1 + 1)), rq2, H', ⟨by have := HK1.out; have := HK2.out; omega⟩, ⟨by (try simp only [hl4_2]); (with_reducible repeat (first | apply Kd.S_alloc | apply Kd.S_drewN | apply Kd.S_drew)); exact HO460.out⟩, ⟨by (try simp only [hl4_2]); (with_reducible repeat (first | apply Kd.R_alloc | apply Kd.R_drewN | apply Kd.R_drew)); exact HO_4.out⟩, ⟨bw_19⟩⟩
   replace c20 := Bool.eq_false_iff.mpr c20
   subst c20
   rw [if_neg ff] at H
   obtain ⟨y461, hy⟩ : ∃ y_ : List Bool, y_ = (x4_2.set (x7_2 : Int).toNat true) := ⟨_, rfl⟩
   replace H : (if x6_2.length < 17592186044416 then (if x7_2 < (l0.length : Int) then (spec_l6Cycles.l1 k2 l0 x3_1 y461 x5_1 (x6_2 ++ [x7_2]) (rd l0 x7_2)) else (none)) else (none)) = some r := rh
   have Ny461 := Az.mk hy
   clear hy
   by_cases c25 : x6_2.length < 17592186044416
   rotate_left
   ·rw [if_neg c25] at H
    exact absurd H (by simp)
   rw [if_pos c25] at H
   have LMc25 := Az.mk c25
   clear c25
   obtain ⟨y462, hy⟩ : ∃ y_ : List Int, y_ = (x6_2 ++ [x7_2]) := ⟨_, rfl⟩
   replace H : (if x7_2 < (l0.length : Int) then (spec_l6Cycles.l1 k2 l0 x3_1 y461 x5_1 y462 (rd l0 x7_2)) else (none)) = some r := rh
   have Ny462 := Az.mk hy
   clear hy
   by_cases c26 : x7_2 < (l0.length : Int)
   rotate_left
   ·rw [if_neg c26] at H
    exact absurd H (by simp)
   rw [if_pos c26] at H
   have c26b0 : decide (x7_2 < (l0.length : Int)) = true := decide_eq_true c26
   clear c26
   have H' := Az.mk H
   clear H
   have p457 : 0 ≤ (x7_2 : Int) := of_decide_eq_true am
   have q457 : x7_2 < (x4_2.length : Int) := of_decide_eq_true am
   obtain ⟨ad457, e457, hx457_0⟩ := Kd.at_bool (Kd.R_reads' HO_4.out).2.2 x7_2 p457 q457
   (try rw [← Nbq11.out] at hx457_0)
   (try rw [← Nbq19.out] at hx457_0)
   obtain rfl : ad453 = ad457 := (by injection e457)
   replace p457 := eq_true p457
   replace q457 := eq_true q457
   have p24 : 0 ≤ (x7_2 : Int) := of_decide_eq_true am
   have q24 : (x7_2 : Int) < ((x4_2.length : Int) : Int) := of_decide_eq_true am
   obtain ⟨go24, co24, eo24, gb24, gl24, cl24, HG24⟩ := Kd.R_form HO_4.out (by omega)
   (first | cases eo24 | (injection eo24 with ea_ en_ ec_; (first | subst ea_ | (injection ea_ with ea_; subst ea_)); subst ec_; clear en_))
   have GB24 := Az.mk gb24
   have GG24 := Az.mk HG24
   clear gb24 gl24 HG24
   (first | simp only [add_plain] at hx453_0 | skip)
   (first | simp only [add_plain] at hx457_0 | skip)
   obtain ⟨hx24_0, hf24_0⟩ := Kd.R_celln false HO_4.out (x7_2 : Int) p24 q24
   replace p24 := eq_true p24
   replace q24 := eq_true q24
   have HP27 := Kd.R_putg HO_4.out (x7_2 : Int) true
   go_wp2_with (first | ((with_reducible refine gate_store (t := 4) (p := 35) rfl ?_); refine store_event (t := 4) (p := 35) (v := ?vo_w28) (w1 := (wr.setCell ⟨go24, (x7_2 : Int).toNat, none⟩ (.bool true))) ?hg ?ho ?hn ?hr ?_; (case ho => rfl); (case hg => rfl); (case hn => rfl); (case hr => first | (go_simp; done) | (go_simp; rfl)); intro w28 hw; have hg : wr.grownBy w28 (some go24) := (by rw [hw]; exact HP27.2); have hp_ : Kd.R Kd.bool 4 w28 w.heap.size (fun _ => True) (.slice (some ⟨go24, 0, none⟩) x4_2.length co14) y461 := (by rw [hw, Ny461.out]; exact HP27.1); clear HP27; replace HO_3 := Az.mk (Kd.S_over' (v := (.slice (some ⟨go24, 0, none⟩) x4_2.length co14)) (kS HO_3.out) (Kd.R_typed HO_4.out) (by decide) hg); replace HO_6 := Az.mk (Kd.R_over' (v := (.slice (some ⟨go24, 0, none⟩) x4_2.length co14)) (kR HO_6.out) (Kd.R_typed HO_4.out) (by decide) hg); replace HO_4 := Az.mk (hp_); replace HB := Az.mk ((by rw [hw]; exact bwS (HB.out) GB24.out : Below w.heap.size w w28)); clear hg hw hp_) | ((with_reducible refine gate_builtin (b := .append) (xs := #[.tmp 36, .tmp 38]) rfl ?_); at_builtin; refine Kd.R_append (Kd.int .i64) (w0 := w) w.heap.size rfl (.tmp 36) (.tmp 38) 24 3 (.int .i64 0) 8 rfl Try.underlying24 info3 rfl (by decide) (by omega) u6 x6_2 x7_2 [.int .i64 x7_2] (fun _ => True) (fun _ => False) rfl rfl ?aP (fun _ hk => hk.elim) ?aF ?aO ?aB ?aS ?aL ?_; (case aP => exact rfl); (case aB => exact bw_19); (case aF => exact (fun _ _ => trivial)); (case aO => exact (kR HO_6.out)); (case aS => exact (bwZ bw_19)); (case aL => have := LMc25.out; omega); intro v463 w29 ho hb hg hat; rw [← Ny462.out] at ho; have n0_ := Az.mk (Kd.S_after (ok := (fun _ => True)) (by (with_reducible repeat (first | apply Kd.S_alloc | apply Kd.S_drewN | apply Kd.S_drew)); exact Kd.S_mono HO_3.out (fun _ hk => ⟨trivial, hk⟩)) hg hat); have n1_ := Az.mk (Kd.R_over' (kR HO_4.out) (Kd.R_typed (kR HO_6.out)) (by decide) hg); have n2_ := Az.mk (hb); have n3_ := Az.mk (ho); clear HO_3; clear HO_4; clear HB; clear HO_6; have HO_3 := n0_; have HO_4 := n1_; have HB := n2_; have HO464 := n3_; clear n0_ n1_ n2_ n3_; clear ho hb hg hat; have p465 : 0 ≤ (x7_2 : Int) := of_decide_eq_true am; have q465 : x7_2 < (l0.length : Int) := of_decide_eq_true am; obtain ⟨ad465, e465, hx465_0⟩ := Kd.at_int HR0.out x7_2 p465 q465; cases e465; replace hx465_0 := kc HB hx465_0; replace p465 := eq_true p465; replace q465 := eq_true q465))
   (try simp only [← hl4_2])
   (try rw [← add_plain go24 x3_1.toNat])
   (try rw [← add_plain go24 x5_1.toNat])
   (try rw [← add_plain go24 x4_1.toNat])
   go_roundg k2
   case measure => have := HK1.out; have := HK2.out; omega
   case rel => exact ⟨(y461), (y462), (rd l0 x7_2), rq2, H', ⟨by have := HK1.out; have := HK2.out; omega⟩, ⟨by (try simp only [hl4_2]); (with_reducible repeat (first | apply Kd.S_alloc | apply Kd.S_drewN | apply Kd.S_drew)); exact Kd.S_mono HO_3.out (fun _ hk => hk.2)⟩, ⟨by (try simp only [hl4_2]); (with_reducible repeat (first | apply Kd.R_alloc | apply Kd.R_drewN | apply Kd.R_drew)); exact HO_4.out⟩, ⟨by (try simp only [hl4_2]); (with_reducible repeat (first | apply Kd.R_alloc | apply Kd.R_drewN | apply Kd.R_drew)); exact HO464.out⟩, ⟨bw_19⟩⟩

/-! ### spec_l3Find: function 70 -/
def spec_l3Find.l0 : Nat → List Int → Int → Option (Int)
 | 0, _, _ => none
 | k + 1, x0, x1 => if 0 ≤ x1 then (if x1 < (x0.length : Int) then (if (rd x0 x1) = x1 then (some x1) else (spec_l3Find.l0 k x0 (rd x0 x1))) else (none)) else (none)
def spec_l3Find.f (k : Nat) (l0 : List Int) (a1 : Int) : Option (Int) := spec_l3Find.l0 k l0 a1
theorem spec_l3Find.mono_l : ∀ k, (∀ y0 y1, LeO (spec_l3Find.l0 k y0 y1) (spec_l3Find.l0 (k + 1) y0 y1))
 | 0 => fun _ _ r h => by simp [spec_l3Find.l0] at h
 | k + 1 => by
  have ih0 := spec_l3Find.mono_l k
  have i0 := fun z0 z1 => MoO.mk (ih0 z0 z1)
  ·intro y0 y1
   unfold spec_l3Find.l0
   exact mo_
theorem spec_l3Find.mono : ∀ a0 a1 k, LeO (spec_l3Find.f k a0 a1) (spec_l3Find.f (k + 1) a0 a1) := by
 intro a0 a1 k
 have ih0 := spec_l3Find.mono_l k
 have i0 := fun z0 z1 => MoO.mk (ih0 z0 z1)
 unfold spec_l3Find.f
 exact mo_
instance spec_l3Find.mi {a0 a1 k} : MoO (spec_l3Find.f k a0 a1) (spec_l3Find.f (k + 1) a0 a1) := ⟨spec_l3Find.mono _ _ _⟩
set_option maxHeartbeats 8000000 in
set_option maxRecDepth 100000 in
theorem spec_l3Find.calls (k : Nat) (A0 : Option Addr) (c0 : Nat) (l0 : List Int) (a1 : Int) (r : Int) (w : World) (hr0 : Kd.C (Kd.int .i64) w A0 l0.length l0) (hc0 : l0.length ≤ c0) (h : spec_l3Find.f k l0 a1 = some r) :
  Calls Try.prog 70 #[.slice A0 l0.length c0, .int .i64 a1] w fun e w' => e = .returned (.int .i64 r) ∧ Drawn0 w w' := by
 have HR0 := Az.mk hr0
 have HC0 := Az.mk hc0
 clear hr0 hc0
 have H : (spec_l3Find.l0 k l0 a1) = some r := h
 clear h
 have H' := Az.mk H
 clear H
 go_enter Try.func70, Try.ntmps70
 go_wp2
 go_loopg [1] k (fun kq v1 w' => ∃ (x1_1 : Int), v1 = .int .i64 x1_1 ∧ Az (spec_l3Find.l0 kq l0 x1_1 = some r) ∧ Az (kq ≤ k) ∧ Drawn0 w w')
 case atStart => exact ⟨(a1), rq2, H', ⟨Nat.le_refl _⟩, kd⟩
 clear H'
 obtain ⟨x1_1, rfl, HA, HK1, ⟨m1, rfl⟩⟩ := hrel
 cases gk with
 | zero => exact absurd HA.out (by simp [spec_l3Find.l0])
 | succ k1 =>
  have H := HA.out
  clear HA
  simp only [spec_l3Find.l0] at H
  by_cases c3 : 0 ≤ x1_1
  rotate_left
  ·rw [if_neg c3] at H
   exact absurd H (by simp)
  rw [if_pos c3] at H
  have c3b0 : decide (0 ≤ x1_1) = true := decide_eq_true c3
  clear c3
  by_cases c4 : x1_1 < (l0.length : Int)
  rotate_left
  ·rw [if_neg c4] at H
   exact absurd H (by simp)
  rw [if_pos c4] at H
  have c4b0 : decide (x1_1 < (l0.length : Int)) = true := decide_eq_true c4
  clear c4
  by_cases c5 : (rd l0 x1_1) = x1_1
  ·rw [if_pos c5] at H
   have c5b0 : ((rd l0 x1_1) == x1_1) = true := beq_iff_eq.mpr c5
   have c5b1 : ((rd l0 x1_1) != x1_1) = false := bne_eq_false_iff_eq.mpr c5
   clear c5
   obtain rfl := Option.some.inj H
   have p466 : 0 ≤ (x1_1 : Int) := of_decide_eq_true am
   have q466 : x1_1 < (l0.length : Int) := of_decide_eq_true am
   obtain ⟨ad466, e466, hx466_0⟩ := Kd.at_int HR0.out x1_1 p466 q466
   cases e466
   replace p466 := eq_true p466
   replace q466 := eq_true q466
   go_wp2
   go_ret
   exact ⟨rq2, kd⟩
  rw [if_neg c5] at H
  have c5b0 : ((rd l0 x1_1) == x1_1) = false := beq_eq_false_iff_ne.mpr c5
  have c5b1 : ((rd l0 x1_1) != x1_1) = true := bne_iff_ne.mpr c5
  have H' := Az.mk H
  clear H
  have p466 : 0 ≤ (x1_1 : Int) := of_decide_eq_true am
  have q466 : x1_1 < (l0.length : Int) := of_decide_eq_true am
  obtain ⟨ad466, e466, hx466_0⟩ := Kd.at_int HR0.out x1_1 p466 q466
  cases e466
  replace p466 := eq_true p466
  replace q466 := eq_true q466
  have p467 : 0 ≤ (x1_1 : Int) := of_decide_eq_true am
  have q467 : x1_1 < (l0.length : Int) := of_decide_eq_true am
  obtain ⟨ad467, e467, hx467_0⟩ := Kd.at_int HR0.out x1_1 p467 q467
  obtain rfl : ad466 = ad467 := (by injection e467)
  replace p467 := eq_true p467
  replace q467 := eq_true q467
  go_wp2
  go_roundg k1
  case measure => have := HK1.out; omega
  case rel => exact ⟨(rd l0 x1_1), rq2, H', ⟨by have := HK1.out; omega⟩, kd⟩

/-! ### spec_l6Mate: function 71 -/
def spec_l6Mate.f (a0 : Int) : Option (Int) := some (wrap64 ((wrap64 (a0 + 1)) - (wrap64 (2 * (Int.tmod a0 2)))))
set_option maxHeartbeats 8000000 in
set_option maxRecDepth 100000 in
theorem spec_l6Mate.calls (a0 : Int) (r : Int) (w : World) (h : spec_l6Mate.f a0 = some r) :
  Calls Try.prog 71 #[.int .i64 a0] w fun e w' => e = .returned (.int .i64 r) ∧ Drawn0 w w' := by
 have H : (some (wrap64 ((wrap64 (a0 + 1)) - (wrap64 (2 * (Int.tmod a0 2)))))) = some r := h
 clear h
 obtain rfl := Option.some.inj H
 go_enter Try.func71, Try.ntmps71
 go_wp2
 go_ret
 exact ⟨rq2, kd⟩

end Go.Proofs.Ytkmjcdlhlhefdaa.P
