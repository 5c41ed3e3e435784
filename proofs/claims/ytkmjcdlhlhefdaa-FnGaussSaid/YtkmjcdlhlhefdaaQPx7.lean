-- By this session's driver (wip/tools/mk.py) of the kit's print program, over several statements at once. Not trusted: Lean checks it.
import Derived.Test.YtkmjcdlhlhefdaaQWZip
import Derived.Test.YtkmjcdlhlhefdaaQPx0
namespace Go.Proofs.Ytkmjcdlhlhefdaa.P
open Go.RowKit Go.Proofs.YtkmjcdlhlhefdaaW.PrintWords Go.Proofs.YtkmjcdlhlhefdaaW.PrintLast Go.Proofs.YtkmjcdlhlhefdaaW.PrintMore
attribute [local go_sem] max2_int min2_int max_two min_two max_three min_three max_four min_four   -- for this text's walks alone
set_option linter.unusedVariables false
set_option linter.unusedSimpArgs false

theorem bw_7 {n : Nat} {v v' : World} (h : Below n v v' := by repeat (first | (with_reducible first | exact HB.out | apply bwA | apply pbN | apply bwD) | exact HB.out)) : Below n v v' := h

/-! ### impl_cycles: function 58 -/
mutual
def impl_cycles.l0 : Nat → List Int → List (List Int) → List Bool → Int → Int → Option ((List (List Int)))
 | 0, _, _, _, _, _ => none
 | k + 1, x0, x3, x4, x13, x14 => if x14 < x13 then (if 0 ≤ x14 then (if x14 < (x4.length : Int) then (if rdOf false x4 x14 = true then (impl_cycles.l0 k x0 x3 x4 x13 (wrap64 (x14 + 1))) else (impl_cycles.l1 k x0 x3 x4 (([] : List Int)) x14 x13 x14)) else (none)) else (none)) else (some x3)
def impl_cycles.l1 : Nat → List Int → List (List Int) → List Bool → List Int → Int → Int → Int → Option ((List (List Int)))
 | 0, _, _, _, _, _, _, _ => none
 | k + 1, x0, x3, x4, x6, x7, x13, x14 => if 0 ≤ x7 then (if x7 < (x4.length : Int) then (if rdOf false x4 x7 = true then (if x3.length < 5864062014805 then (impl_cycles.l0 k x0 (x3 ++ [x6]) x4 x13 (wrap64 (x14 + 1))) else (none)) else (if x6.length < 17592186044416 then (if x7 < (x0.length : Int) then (impl_cycles.l1 k x0 x3 (x4.set (x7 : Int).toNat true) (x6 ++ [x7]) (rd x0 x7) x13 x14) else (none)) else (none))) else (none)) else (none)
end
def impl_cycles.f (k : Nat) (l0 : List Int) : Option ((List (List Int))) := if 0 ≤ (l0.length : Int) then (if ((l0.length : Int) : Int).toNat ≤ 281474976710656 then (impl_cycles.l0 k l0 (([] : List (List Int))) (List.replicate ((l0.length : Int) : Int).toNat false) (l0.length : Int) 0) else (none)) else (none)
set_option maxHeartbeats 8000000 in
set_option maxRecDepth 100000 in
theorem impl_cycles.calls (k : Nat) (A0 : Option Addr) (c0 : Nat) (l0 : List Int) (r : List (List Int)) (w : World) (hr0 : Kd.C (Kd.int .i64) w A0 l0.length l0) (hc0 : l0.length ≤ c0) (h : impl_cycles.f k l0 = some r) :
  Calls Try.prog 58 #[.slice A0 l0.length c0] w fun e w' => ∃ v0_ : Value, e = .returned (v0_) ∧ Kd.S (Kd.slice 3 (Kd.int .i64)) 24 w' w.heap.size (fun _ => True) v0_ r ∧ Below w.heap.size w w' := by
 have HR0 := Az.mk hr0
 have HC0 := Az.mk hc0
 clear hr0 hc0
 have HB := Az.mk (Below.refl w.heap.size w)
 have H : (if 0 ≤ (l0.length : Int) then (if ((l0.length : Int) : Int).toNat ≤ 281474976710656 then (impl_cycles.l0 k l0 (([] : List (List Int))) (List.replicate ((l0.length : Int) : Int).toNat false) (l0.length : Int) 0) else (none)) else (none)) = some r := h
 clear h
 obtain ⟨y213, hy⟩ : ∃ y_ : List (List Int), y_ = (([] : List (List Int))) := ⟨_, rfl⟩
 replace H : (if 0 ≤ (l0.length : Int) then (if ((l0.length : Int) : Int).toNat ≤ 281474976710656 then (impl_cycles.l0 k l0 y213 (List.replicate ((l0.length : Int) : Int).toNat false) (l0.length : Int) 0) else (none)) else (none)) = some r := rh
 have Ny213 := Az.mk hy
 clear hy
 by_cases c2 : 0 ≤ (l0.length : Int)
 rotate_left
 ·rw [if_neg c2] at H
  exact absurd H (by simp)
 rw [if_pos c2] at H
 have c2b0 := eq_true c2
 have c2b1 : decide (0 ≤ (l0.length : Int)) = true := decide_eq_true c2
 clear c2
 by_cases c3 : ((l0.length : Int) : Int).toNat ≤ 281474976710656
 rotate_left
 ·rw [if_neg c3] at H
  exact absurd H (by simp)
 rw [if_pos c3] at H
 have c3b0 := eq_true c3
 have c3b1 : decide (((l0.length : Int) : Int).toNat ≤ 281474976710656) = true := decide_eq_true c3
 clear c3
 obtain ⟨y216, hy⟩ : ∃ y_ : List Bool, y_ = (List.replicate ((l0.length : Int) : Int).toNat false) := ⟨_, rfl⟩
 replace H : (impl_cycles.l0 k l0 y213 y216 (l0.length : Int) 0) = some r := rh
 have Ny216 := Az.mk hy
 clear hy
 have H' := Az.mk H
 clear H
 go_enter Try.func58, Try.ntmps58
 try go_wp2
 replace HB := Az.mk (bwD HB.out)
 refine start_ (n := 6) (S := fun w' => True) (ds := []) #[false, false, false, false, false, false] (by kernel_rfl) rfl rfl trivial (fun hHeld => ?_)
 generalize w.drew = w4 at HB hHeld ⊢
 refine pure_ (i := 1) (N := some 9) (v := ?_) (a' := ?_) #[false, true, false, false, false, false] rfl rfl (by kernel_rfl) (fun _ _ _ h => h) (Or.inl ⟨by rfl, ?_⟩) ?_ ?_
 rotate_left
 ·intro w'
  go_simp
  with_reducible rfl
 rotate_left
 ·exact acq
 refine pure_ (i := 2) (N := some 10) (v := ?_) (a' := ?_) #[false, true, true, false, false, false] rfl rfl (by kernel_rfl) (fun _ _ _ h => h) (Or.inl ⟨by rfl, ?_⟩) ?_ ?_
 rotate_left
 ·intro w'
  go_simp
  with_reducible rfl
 rotate_left
 ·exact acq
 refine join_ (σ := Value × Value) 1 #[true, true, true, true, true, false] (fun s_ => [(8, s_.1), (11, s_.2), (3, s_.1)]) (fun s_ w' => (Kd.S (Kd.slice 3 (Kd.int .i64)) 24 w' w.heap.size (fun _ => True) s_.1 y213) ∧ (Kd.R Kd.bool 4 w' w.heap.size (fun _ => True) s_.2 y216) ∧ (Below w.heap.size w w')) ?_ ?_
 rotate_left
 ·intro hCont
  refine two_ (i := 0) (j := 3) (Ni := some 8) (Nj := some 11) #[true, true, true, false, false, false] #[false, true, true, true, false, false] rfl rfl rfl rfl (by kernel_rfl) (by decide) (by decide) (fun K hK => ?_) (fun K hK => ?_)
  ·skip
   refine Kd.S_lit_step (Kd.slice 3 (Kd.int .i64)) _ 24 ?hg (N := 8) ?hd (xs := ([] : List (List Int))) (inner := []) (ok := fun _ => True) (okp := fun _ => True) ?hr ?hp (fun _ hk => hk) trivial (Below.refl _ _) (Nat.le_refl _) (by simp) ?_; (case hd => rfl); (case hg => rfl); (case hr => first | (go_simp; done) | (go_simp; rfl)); (case hp => exact (Reps.none _ _))
   intro v214 w5 ho6 hb hg_ hnew_
   clear hg_ hnew_
   (first | rw [← Ny213.out] at ho6 | (simp only [Int.reduceToNat] at ho6; rw [← Ny213.out] at ho6))
   have HO215 := Az.mk (Kd.S_lower ho6 (bwZ bw_7)); replace HB := Az.mk (bwT bw_7 hb)
   clear hb ho6
   refine hK.out _ _ trivial (fun hHeld => ?_)
   clear hK K
   refine norm_ (a' := ?_) ?_ ?_
   rotate_left
   ·show Act.put _ (some 8) _ = _
    exact acq
   refine pure_ (i := 4) (N := some 3) (v := ?_) (a' := ?_) #[true, true, true, false, true, false] rfl rfl (by kernel_rfl) (fun _ _ _ h => h) (Or.inl ⟨by rfl, ?_⟩) ?_ ?_
   rotate_left
   ·intro w'
    go_simp
    with_reducible rfl
   rotate_left
   ·exact acq
   refine one_ (i := 3) (N := some 11) #[true, true, true, true, true, false] rfl rfl (by kernel_rfl) (by decide) (fun K hK => ?_)
   refine Kd.R_make_step Kd.bool _ 4 (by rfl) (N := 11) rfl 59 _ _ rfl (l0.length : Int) rfl rfl Try.underlying59 (.bool false) 1 info4 rfl (by decide) (by omega) false (ok := fun _ => True) (okp := fun _ => True) rfl (fun _ hk => hk) trivial (of_decide_eq_true am) (Nat.le_trans (Nat.mul_le_mul_right _ (of_decide_eq_true am : (l0.length : Int).toNat ≤ 281474976710656)) (by omega)) (Below.refl _ _) (Nat.le_refl _) ?_
   intro v217 w7 ho8 hb hg_ hnew_
   clear hg_ hnew_
   (first | rw [← Ny216.out] at ho8 | (simp only [Int.reduceToNat] at ho8; rw [← Ny216.out] at ho8))
   replace HO215 := Az.mk (Kd.S_below (kS HO215.out) hb); have HO218 := Az.mk (Kd.R_lower ho8 (bwZ bw_7)); replace HB := Az.mk (bwT bw_7 hb)
   clear hb ho8
   refine hK.out _ _ trivial (fun hHeld => ?_)
   clear hK K
   refine norm_ (a' := ?_) ?_ ?_
   rotate_left
   ·show Act.put _ (some 11) _ = _
    exact acq
   exact norm_ (by simp only [putAll, Act.put, List.setIfInBounds_toArray, List.set_cons_zero, List.set_cons_succ]) (hCont (v214, v217) _ ⟨(kS HO215.out), (kR HO218.out), bw_7⟩)
  skip
  refine Kd.R_make_step Kd.bool _ 4 (by rfl) (N := 11) rfl 59 _ _ rfl (l0.length : Int) rfl rfl Try.underlying59 (.bool false) 1 info4 rfl (by decide) (by omega) false (ok := fun _ => True) (okp := fun _ => True) rfl (fun _ hk => hk) trivial (of_decide_eq_true am) (Nat.le_trans (Nat.mul_le_mul_right _ (of_decide_eq_true am : (l0.length : Int).toNat ≤ 281474976710656)) (by omega)) (Below.refl _ _) (Nat.le_refl _) ?_
  intro v217 w5 ho6 hb hg_ hnew_
  clear hg_ hnew_
  (first | rw [← Ny216.out] at ho6 | (simp only [Int.reduceToNat] at ho6; rw [← Ny216.out] at ho6))
  have HO218 := Az.mk (Kd.R_lower ho6 (bwZ bw_7)); replace HB := Az.mk (bwT bw_7 hb)
  clear hb ho6
  refine hK.out _ _ trivial (fun hHeld => ?_)
  clear hK K
  refine norm_ (a' := ?_) ?_ ?_
  rotate_left
  ·show Act.put _ (some 11) _ = _
   exact acq
  refine one_ (i := 0) (N := some 8) #[true, true, true, true, false, false] rfl rfl (by kernel_rfl) (by decide) (fun K hK => ?_)
  refine Kd.S_lit_step (Kd.slice 3 (Kd.int .i64)) _ 24 ?hg (N := 8) ?hd (xs := ([] : List (List Int))) (inner := []) (ok := fun _ => True) (okp := fun _ => True) ?hr ?hp (fun _ hk => hk) trivial (Below.refl _ _) (Nat.le_refl _) (by simp) ?_; (case hd => rfl); (case hg => rfl); (case hr => first | (go_simp; done) | (go_simp; rfl)); (case hp => exact (Reps.none _ _))
  intro v214 w7 ho8 hb hg_ hnew_
  clear hg_ hnew_
  (first | rw [← Ny213.out] at ho8 | (simp only [Int.reduceToNat] at ho8; rw [← Ny213.out] at ho8))
  replace HO218 := Az.mk (Kd.R_below (kR HO218.out) hb); have HO215 := Az.mk (Kd.S_lower ho8 (bwZ bw_7)); replace HB := Az.mk (bwT bw_7 hb)
  clear hb ho8
  refine hK.out _ _ trivial (fun hHeld => ?_)
  clear hK K
  refine norm_ (a' := ?_) ?_ ?_
  rotate_left
  ·show Act.put _ (some 8) _ = _
   exact acq
  refine pure_ (i := 4) (N := some 3) (v := ?_) (a' := ?_) #[true, true, true, true, true, false] rfl rfl (by kernel_rfl) (fun _ _ _ h => h) (Or.inl ⟨by rfl, ?_⟩) ?_ ?_
  rotate_left
  ·intro w'
   go_simp
   with_reducible rfl
  rotate_left
  ·exact acq
  exact norm_ (by simp only [putAll, Act.put, List.setIfInBounds_toArray, List.set_cons_zero, List.set_cons_succ]) (hCont (v214, v217) _ ⟨(kS HO215.out), (kR HO218.out), bw_7⟩)
 rintro ⟨v214, v217⟩ w9 ⟨h0_, h1_, h2_⟩
 have n0_ : Az (Kd.S (Kd.slice 3 (Kd.int .i64)) 24 w9 w.heap.size (fun _ => True) v214 y213) := ⟨h0_⟩
 have n1_ : Az (Kd.R Kd.bool 4 w9 w.heap.size (fun _ => True) v217 y216) := ⟨h1_⟩
 have n2_ : Az (Below w.heap.size w w9) := ⟨h2_⟩
 clear HB
 clear h0_ h1_ h2_
 have HO215 := n0_
 have HO218 := n1_
 have HB := n2_
 clear n0_ n1_ n2_
 have hHeld := trivial
 refine norm_ (a' := ?_) ?_ ?_
 rotate_left
 ·simp only [putAll, Act.put, List.setIfInBounds_toArray, List.set_cons_zero, List.set_cons_succ]
  rfl
 refine pure_ (i := 5) (N := some 4) (v := ?_) (a' := ?_) #[true, true, true, true, true, true] rfl rfl (by kernel_rfl) (fun _ _ _ h => h) (Or.inl ⟨by rfl, ?_⟩) ?_ ?_
 rotate_left
 ·intro w'
  go_simp
  with_reducible rfl
 rotate_left
 ·exact acq
 refine done_ (by kernel_rfl) ?_
 try go_wp2
 go_loopg [3, 14] k (fun kq v3 v14 w' => ∃ (x3_1 : List (List Int)) (x4_1 : List Bool) (x14_1 : Int), v14 = .int .i64 x14_1 ∧ Az (impl_cycles.l0 kq l0 x3_1 x4_1 (l0.length : Int) x14_1 = some r) ∧ Az (kq ≤ k) ∧ Az (Kd.S (Kd.slice 3 (Kd.int .i64)) 24 w' w.heap.size (fun _ => True) v3 x3_1) ∧ Az (Kd.R Kd.bool 4 w' w.heap.size (fun _ => True) v217 x4_1) ∧ Az (Below w.heap.size w w'))
 case atStart => exact ⟨(y213), (y216), (0), rq2, H', ⟨Nat.le_refl _⟩, ⟨kS HO215.out⟩, ⟨kR HO218.out⟩, ⟨bw_7⟩⟩
 clear H'
 try clear c2
 try clear c2b0
 try clear c2b1
 try clear c3
 try clear c3b0
 try clear c3b1
 obtain ⟨x3_1, x4_1, x14_1, rfl, HA, HK1, HO_3, HO_4, HB⟩ := hrel
 cases gk with
 | zero => exact absurd HA.out (by simp [impl_cycles.l0])
 | succ k1 =>
  have H := HA.out
  clear HA
  simp only [impl_cycles.l0] at H
  by_cases c10 : x14_1 < (l0.length : Int)
  rotate_left
  ·rw [if_neg c10] at H
   have c10b0 : decide (x14_1 < (l0.length : Int)) = false := decide_eq_false c10
   clear c10
   obtain rfl := Option.some.inj H
   go_wp2
   go_ret
   exact ⟨_, rq1, kS HO_3.out, bw_7⟩
  rw [if_pos c10] at H
  have c10b0 : decide (x14_1 < (l0.length : Int)) = true := decide_eq_true c10
  clear c10
  by_cases c11 : 0 ≤ x14_1
  rotate_left
  ·rw [if_neg c11] at H
   exact absurd H (by simp)
  rw [if_pos c11] at H
  have c11b0 : decide (0 ≤ x14_1) = true := decide_eq_true c11
  clear c11
  by_cases c12 : x14_1 < (x4_1.length : Int)
  rotate_left
  ·rw [if_neg c12] at H
   exact absurd H (by simp)
  rw [if_pos c12] at H
  have c12b0 : decide (x14_1 < (x4_1.length : Int)) = true := decide_eq_true c12
  clear c12
  obtain ⟨bq13, hbq13⟩ : ∃ b_ : Bool, b_ = (rdOf false x4_1 x14_1) := ⟨_, rfl⟩
  replace H : (if bq13 = true then (impl_cycles.l0 k1 l0 x3_1 x4_1 (l0.length : Int) (wrap64 (x14_1 + 1))) else (impl_cycles.l1 k1 l0 x3_1 x4_1 (([] : List Int)) x14_1 (l0.length : Int) x14_1)) = some r := by rw [← hbq13] at H; exact H
  have Nbq13 := Az.mk hbq13
  clear hbq13
  by_cases c14 : bq13 = true
  ·subst c14
   rw [if_pos rfl] at H
   have H' := Az.mk H
   clear H
   obtain ⟨Ao15, co15, eo15⟩ := Kd.R_slice HO_4.out
   subst eo15
   have p219 : 0 ≤ (x14_1 : Int) := of_decide_eq_true am
   have q219 : x14_1 < (x4_1.length : Int) := of_decide_eq_true am
   obtain ⟨ad219, e219, hx219_0⟩ := Kd.at_bool (Kd.R_reads' HO_4.out).2.2 x14_1 p219 q219
   (try rw [← Nbq13.out] at hx219_0)
   cases e219
   replace p219 := eq_true p219
   replace q219 := eq_true q219
   go_wp2
   go_roundg k1
   case measure => have := HK1.out; omega
   case rel => exact ⟨(x3_1), (x4_1), (wrap64 (x14_1 + 1)), rq2, H', ⟨by have := HK1.out; omega⟩, ⟨kS HO_3.out⟩, ⟨kR HO_4.out⟩, ⟨bw_7⟩⟩
  replace c14 := Bool.eq_false_iff.mpr c14
  subst c14
  rw [if_neg ff] at H
  obtain ⟨y220, hy⟩ : ∃ y_ : List Int, y_ = (([] : List Int)) := ⟨_, rfl⟩
  replace H : (impl_cycles.l1 k1 l0 x3_1 x4_1 y220 x14_1 (l0.length : Int) x14_1) = some r := rh
  have Ny220 := Az.mk hy
  clear hy
  have H' := Az.mk H
  clear H
  obtain ⟨Ao16, co16, eo16⟩ := Kd.R_slice HO_4.out
  subst eo16
  have p219 : 0 ≤ (x14_1 : Int) := of_decide_eq_true am
  have q219 : x14_1 < (x4_1.length : Int) := of_decide_eq_true am
  obtain ⟨ad219, e219, hx219_0⟩ := Kd.at_bool (Kd.R_reads' HO_4.out).2.2 x14_1 p219 q219
  (try rw [← Nbq13.out] at hx219_0)
  cases e219
  replace p219 := eq_true p219
  replace q219 := eq_true q219
  go_wp2_with (first | ((with_reducible refine gtD (N := 21) rfl ?_); refine Kd.R_lit (Kd.int .i64) _ 3 ?hg (N := 21) ?hd (xs := ([] : List Int)) (inner := []) (ok := fun _ => True) (okp := fun _ => True) ?hr ?hp (fun _ hk => hk) trivial (Below.refl _ _) (Nat.le_refl _) (by simp) ?_; (case hd => rfl); (case hg => rfl); (case hr => first | (go_simp; done) | (go_simp; rfl)); (case hp => exact (Reps.none _ _)); intro v221 w17 ho18 hb hg_ hnew_; clear hg_ hnew_; (first | rw [← Ny220.out] at ho18 | (simp only [Int.reduceToNat] at ho18; rw [← Ny220.out] at ho18)); replace HO_3 := Az.mk (Kd.S_elder' (kS HO_3.out) (Kd.R_base ho18) hb); replace HO_4 := Az.mk (Kd.R_below (kR HO_4.out) hb); have HO222 := Az.mk (Kd.R_lower ho18 (bwZ bw_7)); replace HB := Az.mk (bwT bw_7 hb); clear hb ho18))
  go_loopg [6, 7] k1 (fun kq v6 v7 w' => ∃ (x4_2 : List Bool) (x6_2 : List Int) (x7_2 : Int), v7 = .int .i64 x7_2 ∧ Az (impl_cycles.l1 kq l0 x3_1 x4_2 x6_2 x7_2 (l0.length : Int) x14_1 = some r) ∧ Az (kq ≤ k1) ∧ Az (Kd.S (Kd.slice 3 (Kd.int .i64)) 24 w' w.heap.size (fun k_ => some k_ ≠ (v6 : Value).ownBlock) u3 x3_1) ∧ Az (Kd.R Kd.bool 4 w' w.heap.size (fun _ => True) (.slice (some ad219) x4_1.length co16) x4_2) ∧ Az (Kd.R (Kd.int .i64) 3 w' w.heap.size (fun _ => True) v6 x6_2) ∧ Az (Below w.heap.size w w'))
  case atStart => exact ⟨(x4_1), (y220), (x14_1), rq2, H', ⟨Nat.le_refl _⟩, ⟨by (with_reducible repeat (first | apply Kd.S_alloc | apply Kd.S_drewN | apply Kd.S_drew)); exact Kd.S_mono HO_3.out (fun _ hk => hk.2)⟩, ⟨kR HO_4.out⟩, ⟨kR HO222.out⟩, ⟨bw_7⟩⟩
  clear H'
  try clear c2
  try clear c2b0
  try clear c2b1
  try clear c3
  try clear c3b0
  try clear c3b1
  try clear c10
  try clear c10b0
  try clear c11
  try clear c11b0
  try clear c12
  try clear c12b0
  try clear c14
  try clear hx219_0
  try clear p219
  try clear q219
  obtain ⟨x4_2, x6_2, x7_2, rfl, HA, HK2, HO_3, HO_4, HO_6, HB⟩ := hrel
  have hl4_2 := (Kd.R_reads' HO_4.out).1
  rw [hl4_2] at HO_4
  (try simp only [hl4_2])
  (try simp only [hl4_2] at HO_3)
  (try simp only [hl4_2] at HO_6)
  cases gk with
  | zero => exact absurd HA.out (by simp [impl_cycles.l1])
  | succ k2 =>
   have H := HA.out
   clear HA
   simp only [impl_cycles.l1] at H
   by_cases c19 : 0 ≤ x7_2
   rotate_left
   ·rw [if_neg c19] at H
    exact absurd H (by simp)
   rw [if_pos c19] at H
   have c19b0 : decide (0 ≤ x7_2) = true := decide_eq_true c19
   clear c19
   by_cases c20 : x7_2 < (x4_2.length : Int)
   rotate_left
   ·rw [if_neg c20] at H
    exact absurd H (by simp)
   rw [if_pos c20] at H
   have c20b0 : decide (x7_2 < (x4_2.length : Int)) = true := decide_eq_true c20
   clear c20
   obtain ⟨bq21, hbq21⟩ : ∃ b_ : Bool, b_ = (rdOf false x4_2 x7_2) := ⟨_, rfl⟩
   replace H : (if bq21 = true then (if x3_1.length < 5864062014805 then (impl_cycles.l0 k2 l0 (x3_1 ++ [x6_2]) x4_2 (l0.length : Int) (wrap64 (x14_1 + 1))) else (none)) else (if x6_2.length < 17592186044416 then (if x7_2 < (l0.length : Int) then (impl_cycles.l1 k2 l0 x3_1 (x4_2.set (x7_2 : Int).toNat true) (x6_2 ++ [x7_2]) (rd l0 x7_2) (l0.length : Int) x14_1) else (none)) else (none))) = some r := by rw [← hbq21] at H; exact H
   have Nbq21 := Az.mk hbq21
   clear hbq21
   by_cases c22 : bq21 = true
   ·subst c22
    rw [if_pos rfl] at H
    by_cases c23 : x3_1.length < 5864062014805
    rotate_left
    ·rw [if_neg c23] at H
     exact absurd H (by simp)
    rw [if_pos c23] at H
    have LMc23 := Az.mk c23
    clear c23
    obtain ⟨y224, hy⟩ : ∃ y_ : List (List Int), y_ = (x3_1 ++ [x6_2]) := ⟨_, rfl⟩
    replace H : (impl_cycles.l0 k2 l0 y224 x4_2 (l0.length : Int) (wrap64 (x14_1 + 1))) = some r := rh
    have Ny224 := Az.mk hy
    clear hy
    have H' := Az.mk H
    clear H
    have p223 : 0 ≤ (x7_2 : Int) := of_decide_eq_true am
    have q223 : x7_2 < (x4_2.length : Int) := of_decide_eq_true am
    obtain ⟨ad223, e223, hx223_0⟩ := Kd.at_bool (Kd.R_reads' HO_4.out).2.2 x7_2 p223 q223
    (try rw [← Nbq13.out] at hx223_0)
    (try rw [← Nbq21.out] at hx223_0)
    obtain rfl : ad219 = ad223 := (by injection e223)
    replace p223 := eq_true p223
    replace q223 := eq_true q223
    obtain ⟨Ao25, co25, eo25⟩ := Kd.R_slice HO_6.out
    subst eo25
    go_wp2_with (first | ((with_reducible refine gate_builtin (b := .append) (xs := #[.tmp 39, .tmp 41]) rfl ?_); at_builtin; refine Kd.S_append (Kd.slice 3 (Kd.int .i64)) (w0 := w) w.heap.size rfl (.tmp 39) (.tmp 41) 37 24 (.slice none 0 0) 24 rfl Try.underlying37 info24 rfl (by decide) (by omega) u3 x3_1 x6_2 [.slice Ao25 x6_2.length co25] (fun _ => True) (fun k_ => some k_ = (.slice Ao25 x6_2.length co25 : Value).ownBlock) rfl rfl ?aP (fun k_ hk_ => ((Kd.R_mono (ok' := fun k_ => ((fun _ => True)) k_ ∧ some k_ ≠ (u3 : Value).ownBlock) (Kd.R_apart' (HO_6.out) (Kd.S_typed HO_3.out) (by decide)) (fun k_ hk => ⟨trivial, hk.2⟩))).1 k_ hk_.symm) ?aF ?aO ?aB ?aS ?aL ?_; (case aP => exact Kd.M_row (Kd.R_mono (Kd.R_tight rfl (Kd.R_mono (ok' := fun k_ => ((fun _ => True)) k_ ∧ some k_ ≠ (u3 : Value).ownBlock) (Kd.R_apart' (HO_6.out) (Kd.S_typed HO_3.out) (by decide)) (fun k_ hk => ⟨trivial, hk.2⟩))) (fun _ h_ => h_))); (case aB => exact bw_7); (case aF => exact (fun _ _ => trivial)); (case aO => exact (by (with_reducible repeat (first | apply Kd.S_alloc | apply Kd.S_drewN | apply Kd.S_drew)); exact Kd.S_mono HO_3.out (fun k_ hk => ⟨trivial, fun e_ => hk e_⟩))); (case aS => exact (bwZ bw_7)); (case aL => have := LMc23.out; omega); intro v225 w24 ho hb hg hat; rw [← Ny224.out] at ho; have n0_ := Az.mk (Kd.R_over' (kR HO_4.out) (Kd.S_typed (kS HO_3.out)) (by decide) hg); have n1_ := Az.mk (hb); have n2_ := Az.mk (ho); clear HO_4; clear HB; clear HO_3; clear HO_6; have HO_4 := n0_; have HB := n1_; have HO226 := n2_; clear n0_ n1_ n2_; clear ho hb hg hat))
    (try simp only [← hl4_2])
    go_roundg k2
    case measure => have := HK1.out; have := HK2.out; omega
    case rel => exact ⟨(y224), (x4_2), (wrap64 (x14_1 + 1)), rq2, H', ⟨by have := HK1.out; have := HK2.out; omega⟩, ⟨by (try simp only [hl4_2]); (with_reducible repeat (first | apply Kd.S_alloc | apply Kd.S_drewN | apply Kd.S_drew)); exact HO226.out⟩, ⟨by (try simp only [hl4_2]); (with_reducible repeat (first | apply Kd.R_alloc | apply Kd.R_drewN | apply Kd.R_drew)); exact HO_4.out⟩, ⟨bw_7⟩⟩
   replace c22 := Bool.eq_false_iff.mpr c22
   subst c22
   rw [if_neg ff] at H
   obtain ⟨y227, hy⟩ : ∃ y_ : List Bool, y_ = (x4_2.set (x7_2 : Int).toNat true) := ⟨_, rfl⟩
   replace H : (if x6_2.length < 17592186044416 then (if x7_2 < (l0.length : Int) then (impl_cycles.l1 k2 l0 x3_1 y227 (x6_2 ++ [x7_2]) (rd l0 x7_2) (l0.length : Int) x14_1) else (none)) else (none)) = some r := rh
   have Ny227 := Az.mk hy
   clear hy
   by_cases c27 : x6_2.length < 17592186044416
   rotate_left
   ·rw [if_neg c27] at H
    exact absurd H (by simp)
   rw [if_pos c27] at H
   have LMc27 := Az.mk c27
   clear c27
   obtain ⟨y228, hy⟩ : ∃ y_ : List Int, y_ = (x6_2 ++ [x7_2]) := ⟨_, rfl⟩
   replace H : (if x7_2 < (l0.length : Int) then (impl_cycles.l1 k2 l0 x3_1 y227 y228 (rd l0 x7_2) (l0.length : Int) x14_1) else (none)) = some r := rh
   have Ny228 := Az.mk hy
   clear hy
   by_cases c28 : x7_2 < (l0.length : Int)
   rotate_left
   ·rw [if_neg c28] at H
    exact absurd H (by simp)
   rw [if_pos c28] at H
   have c28b0 : decide (x7_2 < (l0.length : Int)) = true := decide_eq_true c28
   clear c28
   have H' := Az.mk H
   clear H
   have p223 : 0 ≤ (x7_2 : Int) := of_decide_eq_true am
   have q223 : x7_2 < (x4_2.length : Int) := of_decide_eq_true am
   obtain ⟨ad223, e223, hx223_0⟩ := Kd.at_bool (Kd.R_reads' HO_4.out).2.2 x7_2 p223 q223
   (try rw [← Nbq13.out] at hx223_0)
   (try rw [← Nbq21.out] at hx223_0)
   obtain rfl : ad219 = ad223 := (by injection e223)
   replace p223 := eq_true p223
   replace q223 := eq_true q223
   have p26 : 0 ≤ (x7_2 : Int) := of_decide_eq_true am
   have q26 : (x7_2 : Int) < ((x4_2.length : Int) : Int) := of_decide_eq_true am
   obtain ⟨go26, co26, eo26, gb26, gl26, cl26, HG26⟩ := Kd.R_form HO_4.out (by omega)
   (first | cases eo26 | (injection eo26 with ea_ en_ ec_; (first | subst ea_ | (injection ea_ with ea_; subst ea_)); subst ec_; clear en_))
   have GB26 := Az.mk gb26
   have GG26 := Az.mk HG26
   clear gb26 gl26 HG26
   (first | simp only [add_plain] at hx219_0 | skip)
   (first | simp only [add_plain] at hx223_0 | skip)
   obtain ⟨hx26_0, hf26_0⟩ := Kd.R_celln false HO_4.out (x7_2 : Int) p26 q26
   replace p26 := eq_true p26
   replace q26 := eq_true q26
   have HP29 := Kd.R_putg HO_4.out (x7_2 : Int) true
   go_wp2_with (first | ((with_reducible refine gate_store (t := 4) (p := 34) rfl ?_); refine store_event (t := 4) (p := 34) (v := ?vo_w30) (w1 := (wr.setCell ⟨go26, (x7_2 : Int).toNat, none⟩ (.bool true))) ?hg ?ho ?hn ?hr ?_; (case ho => rfl); (case hg => rfl); (case hn => rfl); (case hr => first | (go_simp; done) | (go_simp; rfl)); intro w30 hw; have hg : wr.grownBy w30 (some go26) := (by rw [hw]; exact HP29.2); have hp_ : Kd.R Kd.bool 4 w30 w.heap.size (fun _ => True) (.slice (some ⟨go26, 0, none⟩) x4_2.length co16) y227 := (by rw [hw, Ny227.out]; exact HP29.1); clear HP29; replace HO_3 := Az.mk (Kd.S_over' (v := (.slice (some ⟨go26, 0, none⟩) x4_2.length co16)) (kS HO_3.out) (Kd.R_typed HO_4.out) (by decide) hg); replace HO_6 := Az.mk (Kd.R_over' (v := (.slice (some ⟨go26, 0, none⟩) x4_2.length co16)) (kR HO_6.out) (Kd.R_typed HO_4.out) (by decide) hg); replace HO_4 := Az.mk (hp_); replace HB := Az.mk ((by rw [hw]; exact bwS (HB.out) GB26.out : Below w.heap.size w w30)); clear hg hw hp_) | ((with_reducible refine gate_builtin (b := .append) (xs := #[.tmp 35, .tmp 37]) rfl ?_); at_builtin; refine Kd.R_append (Kd.int .i64) (w0 := w) w.heap.size rfl (.tmp 35) (.tmp 37) 24 3 (.int .i64 0) 8 rfl Try.underlying24 info3 rfl (by decide) (by omega) u6 x6_2 x7_2 [.int .i64 x7_2] (fun _ => True) (fun _ => False) rfl rfl ?aP (fun _ hk => hk.elim) ?aF ?aO ?aB ?aS ?aL ?_; (case aP => exact rfl); (case aB => exact bw_7); (case aF => exact (fun _ _ => trivial)); (case aO => exact (kR HO_6.out)); (case aS => exact (bwZ bw_7)); (case aL => have := LMc27.out; omega); intro v229 w31 ho hb hg hat; rw [← Ny228.out] at ho; have n0_ := Az.mk (Kd.S_after (ok := (fun _ => True)) (by (with_reducible repeat (first | apply Kd.S_alloc | apply Kd.S_drewN | apply Kd.S_drew)); exact Kd.S_mono HO_3.out (fun _ hk => ⟨trivial, hk⟩)) hg hat); have n1_ := Az.mk (Kd.R_over' (kR HO_4.out) (Kd.R_typed (kR HO_6.out)) (by decide) hg); have n2_ := Az.mk (hb); have n3_ := Az.mk (ho); clear HO_3; clear HO_4; clear HB; clear HO_6; have HO_3 := n0_; have HO_4 := n1_; have HB := n2_; have HO230 := n3_; clear n0_ n1_ n2_ n3_; clear ho hb hg hat; have p231 : 0 ≤ (x7_2 : Int) := of_decide_eq_true am; have q231 : x7_2 < (l0.length : Int) := of_decide_eq_true am; obtain ⟨ad231, e231, hx231_0⟩ := Kd.at_int HR0.out x7_2 p231 q231; cases e231; replace hx231_0 := kc HB hx231_0; replace p231 := eq_true p231; replace q231 := eq_true q231))
   (try simp only [← hl4_2])
   (try rw [← add_plain go26 x3_1.toNat])
   (try rw [← add_plain go26 x14_1.toNat])
   (try rw [← add_plain go26 x4_1.toNat])
   go_roundg k2
   case measure => have := HK1.out; have := HK2.out; omega
   case rel => exact ⟨(y227), (y228), (rd l0 x7_2), rq2, H', ⟨by have := HK1.out; have := HK2.out; omega⟩, ⟨by (try simp only [hl4_2]); (with_reducible repeat (first | apply Kd.S_alloc | apply Kd.S_drewN | apply Kd.S_drew)); exact Kd.S_mono HO_3.out (fun _ hk => hk.2)⟩, ⟨by (try simp only [hl4_2]); (with_reducible repeat (first | apply Kd.R_alloc | apply Kd.R_drewN | apply Kd.R_drew)); exact HO_4.out⟩, ⟨by (try simp only [hl4_2]); (with_reducible repeat (first | apply Kd.R_alloc | apply Kd.R_drewN | apply Kd.R_drew)); exact HO230.out⟩, ⟨bw_7⟩⟩

end Go.Proofs.Ytkmjcdlhlhefdaa.P
