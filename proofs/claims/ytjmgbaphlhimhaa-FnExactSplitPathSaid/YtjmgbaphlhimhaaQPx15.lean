-- By this session's driver (wip/tools/mk.py) of the kit's print program, over several statements at once. Not trusted: Lean checks it.
import Derived.Test.YtjmgbaphlhimhaaQPx0
import Derived.Test.YtjmgbaphlhimhaaQPx11
import Derived.Test.YtjmgbaphlhimhaaQPx13
import Derived.Test.YtjmgbaphlhimhaaQPx14
namespace Go.Proofs.Ytjmgbaphlhimhaa.P
open Go.RowKit Go.Proofs.YtjmgbaphlhimhaaW.PrintWords Go.Proofs.YtjmgbaphlhimhaaW.PrintLast Go.Proofs.YtjmgbaphlhimhaaW.PrintMore
attribute [local go_sem] max2_int min2_int max_two min_two max_three min_three max_four min_four   -- for this text's walks alone
set_option linter.unusedVariables false
set_option linter.unusedSimpArgs false

/-! ### impl_PlainCurve: function 27 -/
def cornerOf (c : Int) : Int := if Int.tmod c 3 = 2 then wrap64 (wrap64 (Int.tdiv c 3) * 3) else wrap64 (wrap64 (wrap64 (Int.tdiv c 3) * 3) + Int.tmod (wrap64 (c + 1)) 3)
mutual
def impl_PlainCurve.l0 : Nat → List (List Int) → List Int → List Int → Bool → Option (List Int × Bool)
 | 0, _, _, _, _ => none
 | k + 1, t, up, out, again => if again = true then (impl_PlainCurve.l1 k t up out 0 false) else (some (out, true))
def impl_PlainCurve.l1 : Nat → List (List Int) → List Int → List Int → Int → Bool → Option (List Int × Bool)
 | 0, _, _, _, _, _ => none
 | k + 1, t, up, out, c, again => if c < wrap64 (3 * (t.length : Int)) then (if again = true then (impl_PlainCurve.l0 k t up out again) else ((impl_isAround.l0 k t out up (cornerOf c) 0).bind fun b => (if b = true then ((impl_around.f k t (cornerOf c)).bind fun y => (impl_PlainCurve.l2 k t up out c y 0)) else (impl_PlainCurve.l1 k t up out (wrap64 (c + 1)) again)))) else (impl_PlainCurve.l0 k t up out again)
def impl_PlainCurve.l2 : Nat → List (List Int) → List Int → List Int → Int → List Int → Int → Option (List Int × Bool)
 | 0, _, _, _, _, _, _ => none
 | k + 1, t, up, out, c, y, e => if e < (y.length : Int) then (if 0 ≤ e then (if e < (out.length : Int) then (impl_PlainCurve.l2 k t up (out.set e.toNat (wrap64 (rd out e - rd y e))) c y (wrap64 (e + 1))) else none) else none) else (impl_PlainCurve.l1 k t up out (wrap64 (c + 1)) true)
end
def impl_PlainCurve.f (k : Nat) (t : List (List Int)) (x : List Int) : Option (List Int × Bool) := (impl_IsFair.f k t x).bind fun b => (if b = true then ((impl_vertices.f k t).bind fun up => ((impl_copyOf.f x).bind fun out => (impl_PlainCurve.l0 k t up out true))) else (some (([] : List Int), false)))
theorem impl_PlainCurve.mono_l : ∀ k, (∀ y0 y1 y2 y3, LeO (impl_PlainCurve.l0 k y0 y1 y2 y3) (impl_PlainCurve.l0 (k + 1) y0 y1 y2 y3)) ∧ (∀ y0 y1 y2 y3 y4, LeO (impl_PlainCurve.l1 k y0 y1 y2 y3 y4) (impl_PlainCurve.l1 (k + 1) y0 y1 y2 y3 y4)) ∧ (∀ y0 y1 y2 y3 y4 y5, LeO (impl_PlainCurve.l2 k y0 y1 y2 y3 y4 y5) (impl_PlainCurve.l2 (k + 1) y0 y1 y2 y3 y4 y5))
 | 0 => ⟨fun _ _ _ _ r h => by simp [impl_PlainCurve.l0] at h, fun _ _ _ _ _ r h => by simp [impl_PlainCurve.l1] at h, fun _ _ _ _ _ _ r h => by simp [impl_PlainCurve.l2] at h⟩
 | k + 1 => by
  obtain ⟨ih0, ih1, ih2⟩ := impl_PlainCurve.mono_l k
  refine ⟨?_, ?_, ?_⟩
  ·intro y0 y1 y2 y3
   unfold impl_PlainCurve.l0
   repeat' first
   | (with_reducible exact ih1 _ _ _ _ _)
   | (with_reducible exact LeO.refl _)
   | (with_reducible refine LeO.ite ?_ ?_)
  ·intro y0 y1 y2 y3 y4
   unfold impl_PlainCurve.l1
   repeat' first
   | (with_reducible exact ih0 _ _ _ _)
   | (with_reducible exact ih1 _ _ _ _ _)
   | (with_reducible exact ih2 _ _ _ _ _ _)
   | (with_reducible exact (impl_isAround.mono_l _).1 _ _ _ _ _)
   | (with_reducible exact impl_around.mono _ _ _)
   | (with_reducible exact LeO.refl _)
   | (with_reducible exact LeO.none _)
   | (with_reducible refine LeO.ite ?_ ?_)
   | (with_reducible refine LeO.bind ?_ (fun _ => ?_))
  intro y0 y1 y2 y3 y4 y5
  unfold impl_PlainCurve.l2
  repeat' first
  | (with_reducible exact ih1 _ _ _ _ _)
  | (with_reducible exact ih2 _ _ _ _ _ _)
  | (with_reducible exact LeO.refl _)
  | (with_reducible exact LeO.none _)
  | (with_reducible refine LeO.ite ?_ ?_)
theorem impl_PlainCurve.mono : ∀ a0 a1 k, LeO (impl_PlainCurve.f k a0 a1) (impl_PlainCurve.f (k + 1) a0 a1) := by
 intro a0 a1 k
 unfold impl_PlainCurve.f
 refine LeO.bind (impl_IsFair.mono _ _ _) (fun _ => LeO.ite (LeO.bind (impl_vertices.mono _ _) (fun _ => LeO.bind (LeO.refl _) (fun _ => (impl_PlainCurve.mono_l k).1 _ _ _ _))) (LeO.refl _))
set_option maxHeartbeats 16000000 in
set_option maxRecDepth 100000 in
theorem impl_PlainCurve.calls (k : Nat) (A0 : Option Addr) (c0 : Nat) (l0 : List (List Int)) (A1 : Option Addr) (c1 : Nat) (l1 : List Int) (r1 : List Int) (r2 : Bool) (w : World) (hr0 : Kd.C (Kd.slice 3 (Kd.int .i64)) w A0 l0.length l0) (hc0 : l0.length ≤ c0) (hr1 : Kd.C (Kd.int .i64) w A1 l1.length l1) (hc1 : l1.length ≤ c1) (h : impl_PlainCurve.f k l0 l1 = some (r1, r2)) :
  Calls Try.prog 27 #[.slice A0 l0.length c0, .slice A1 l1.length c1] w fun e w' => ∃ v0_ : Value, e = .returned (.tuple #[v0_, .bool r2]) ∧ Kd.R (Kd.int .i64) 3 w' w.heap.size (fun _ => True) v0_ r1 ∧ Below w.heap.size w w' := by
 have HR0 := Az.mk hr0
 have HC0 := Az.mk hc0
 have HX0 := Az.mk hr1
 have HXC := Az.mk hc1
 clear hr0 hc0 hr1 hc1
 obtain ⟨r, hr⟩ : ∃ r_ : List Int × Bool, (r1, r2) = r_ := ⟨_, rfl⟩
 have HR := Az.mk hr
 rw [hr] at h
 clear hr
 unfold impl_PlainCurve.f at h
 replace h := Option.bind_eq_some_iff.mp h
 obtain ⟨bf, T1, h⟩ := h
 have T1 := Az.mk T1
 by_cases b1 : bf = true
 rotate_left
 ·rw [if_neg b1] at h
  replace b1 := Bool.eq_false_iff.mpr b1
  subst b1
  obtain rfl := Option.some.inj h
  obtain ⟨rfl, rfl⟩ := Prod.mk.injEq .. ▸ HR.out
  go_enter Try.func27, Try.ntmps27
  go_wp2_with (first
   | (go_at_call 63; refine (impl_IsFair.calls k A0 c0 l0 A1 c1 l1 false _ (by first | exact Kd.C_drewN HR0.out _ | exact HR0.out) HC0.out (by first | exact Kd.C_drewN HX0.out _ | exact HX0.out) HXC.out T1.out).mono ?_; rintro e W0 ⟨rfl, hb⟩; have HBa := Az.mk hb; clear hb T1))
  go_ret2
  exact ⟨_, rfl, Kd.R_nil _ _ _ _ _, by first | exact HBa.out | exact pbN HBa.out _⟩
 subst b1
 rw [if_pos rfl] at h
 replace h := Option.bind_eq_some_iff.mp h
 obtain ⟨up, T2, h⟩ := h
 replace h := Option.bind_eq_some_iff.mp h
 obtain ⟨out, T3, h⟩ := h
 have T2 := Az.mk T2
 have T3 := Az.mk T3
 have H' := Az.mk h
 clear h
 have HB0 := Az.mk (Below.refl w.heap.size w)
 obtain ⟨L3, hL3⟩ : ∃ j_ : Int, wrap64 (3 * (l0.length : Int)) = j_ := ⟨_, rfl⟩
 have hL3w : IntKind.i64.wrap (3 * (l0.length : Int)) = L3 := (i64_w _).trans hL3
 go_enter Try.func27, Try.ntmps27
 go_wp2_with (first
  | (go_at_call 63; refine (impl_IsFair.calls k A0 c0 l0 A1 c1 l1 true _ (by first | exact Kd.C_drewN HR0.out _ | exact HR0.out) HC0.out (by first | exact Kd.C_drewN HX0.out _ | exact HX0.out) HXC.out T1.out).mono ?_; rintro e W0 ⟨rfl, hb⟩; have HBa := Az.mk (bwT (by first | exact pbN HB0.out _ | exact HB0.out) hb); clear hb T1 HB0)
  | (go_at_call 64; refine (impl_vertices.calls k A0 c0 l0 up _ (by first | exact Kd.C_drewN (Kd.C_below HR0.out HBa.out) _ | exact Kd.C_below HR0.out HBa.out) HC0.out T2.out).mono ?_; rintro e W1 ⟨p, AJ, cJ, rfl, hj, hb⟩; have HB1 := Az.mk (bwT (by first | exact pbN HBa.out _ | exact HBa.out) hb); have HJ1 := Az.mk (hj.lower (by first | exact HBa.out.size | exact (pbN HBa.out _).size)); have HR1 := Az.mk (Kd.C_below HR0.out HB1.out); have HX1 := Az.mk (Kd.C_below HX0.out HB1.out); clear hj hb T2 HBa HR0 HX0)
  | (go_at_call 65; refine (impl_copyOf.calls A1 c1 l1 out _ (by first | exact Kd.C_drewN HX1.out _ | exact HX1.out) HXC.out T3.out).mono ?_; rintro e W2 ⟨v, rfl, ho, hb⟩; have HO := Az.mk (Kd.R_lower (base' := W1.heap.size) ho (by first | exact Nat.le_refl _)); have HB := Az.mk (bwT (by first | exact Below.refl _ _ | exact pbN (Below.refl _ _) _) hb); clear ho hb T3 HX1; obtain ⟨AO, cO, eO⟩ := Kd.R_slice HO.out; generalize out.length = nO at eO; subst eO))
 go_loopg [8] k (fun kq v8 w' => ∃ (out_1 : List Int) (ag : Bool), v8 = .bool ag ∧ Az (impl_PlainCurve.l0 kq l0 up out_1 ag = some r) ∧ Az (kq ≤ k) ∧ Az (Kd.R (Kd.int .i64) 3 w' W1.heap.size (fun _ => True) (.slice AO nO cO) out_1) ∧ Az (Below W1.heap.size W1 w'))
 case atStart => exact ⟨out, true, rfl, H', ⟨Nat.le_refl _⟩, HO, HB⟩
 case round =>
  clear H' HO HB
  obtain ⟨out_1, ag, rfl, HA, HK1, HO, HB⟩ := hrel
  cases gk with
  | zero => exact absurd HA.out (by simp [impl_PlainCurve.l0])
  | succ k1 =>
   have H := HA.out
   clear HA
   simp only [impl_PlainCurve.l0] at H
   by_cases b2 : ag = true
   rotate_left
   ·rw [if_neg b2] at H
    replace b2 := Bool.eq_false_iff.mpr b2
    subst b2
    obtain rfl := Option.some.inj H
    obtain ⟨rfl, rfl⟩ := Prod.mk.injEq .. ▸ HR.out
    go_wp2
    go_ret2
    exact ⟨_, rfl, Kd.R_lower HO.out HB1.out.size, bwT HB1.out HB.out⟩
   subst b2
   rw [if_pos rfl] at H
   have H' := Az.mk H
   clear H
   go_wp2
   go_loopg [8, 9] k1 (fun kq v8 v9 w' => ∃ (out_2 : List Int) (ag : Bool) (c_1 : Int), v8 = .bool ag ∧ v9 = .int .i64 c_1 ∧ Az (impl_PlainCurve.l1 kq l0 up out_2 c_1 ag = some r) ∧ Az (kq ≤ k1) ∧ Az (Kd.R (Kd.int .i64) 3 w' W1.heap.size (fun _ => True) (.slice AO nO cO) out_2) ∧ Az (Below W1.heap.size W1 w'))
   case atStart => exact ⟨out_1, false, 0, rfl, rfl, H', ⟨Nat.le_refl _⟩, HO, HB⟩
   case round =>
    clear H' HO HB
    obtain ⟨out_2, ag, c_1, rfl, rfl, HA, HK2, HO, HB⟩ := hrel
    cases gk with
    | zero => exact absurd HA.out (by simp [impl_PlainCurve.l1])
    | succ k2 =>
     have H := HA.out
     clear HA
     simp only [impl_PlainCurve.l1] at H
     rw [hL3] at H
     by_cases d1 : c_1 < L3
     rotate_left
     ·rw [if_neg d1] at H
      have d1b : decide (c_1 < L3) = false := decide_eq_false d1
      clear d1
      have H' := Az.mk H
      clear H
      go_wp2
      go_roundg k2
      case measure => have := HK1.out; have := HK2.out; omega
      case rel => exact ⟨out_2, ag, rfl, H', ⟨by have := HK1.out; have := HK2.out; omega⟩, HO, HB⟩
     rw [if_pos d1] at H
     have d1b := decide_eq_true d1
     replace d1 := eq_true d1
     by_cases d2 : ag = true
     ·subst d2
      rw [if_pos rfl] at H
      have H' := Az.mk H
      clear H
      go_wp2
      go_roundg k2
      case measure => have := HK1.out; have := HK2.out; omega
      case rel => exact ⟨out_2, true, rfl, H', ⟨by have := HK1.out; have := HK2.out; omega⟩, HO, HB⟩
     rw [if_neg d2] at H
     replace d2 := Bool.eq_false_iff.mpr d2
     subst d2
     by_cases m2 : Int.tmod c_1 3 = 2
     ·have em : cornerOf c_1 = wrap64 (wrap64 (Int.tdiv c_1 3) * 3) := by unfold cornerOf; rw [if_pos m2]
      have m2b : (Int.tmod c_1 3 == 2) = true := beq_iff_eq.mpr m2
      rw [em] at H
      clear em m2
      have HJ := Az.mk (HJ1.out.below HB.out)
      replace H := Option.bind_eq_some_iff.mp H
      obtain ⟨b, T1, H⟩ := H
      have T1 := Az.mk T1
      by_cases bb : b = true
      rotate_left
      ·rw [if_neg bb] at H
       replace bb := Bool.eq_false_iff.mpr bb
       subst bb
       have H' := Az.mk H
       clear H
       go_wp2_with (first
        | (go_at_call 66; refine (impl_isAround.callsn k2 A0 c0 l0 AO cO out_2 nO (Kd.R_reads' HO.out).1 w.heap.size p AJ cJ up _ false _ (by first | exact Kd.C_drewN (Kd.C_below HR1.out HB.out) _ | exact Kd.C_below HR1.out HB.out) HC0.out (by first | exact Kd.C_drewN (Kd.R_reads' HO.out).2.2 _ | exact (Kd.R_reads' HO.out).2.2) (Nat.le_trans (Nat.le_of_eq (Kd.R_reads' HO.out).1.symm) (Kd.R_reads' HO.out).2.1) (by first | exact HJ.out.drewN _ | exact HJ.out) T1.out).mono ?_; rintro e W3 ⟨rfl, hb⟩; have HB3 := Az.mk (bwT (by first | exact pbN HB.out _ | exact HB.out) hb); have HO3 := Az.mk (Kd.R_below (by first | exact Kd.R_drewN HO.out _ | exact HO.out) hb); clear hb T1 HB HO HJ; have HB := HB3; have HO := HO3; clear HB3 HO3))
       go_roundg k2
       case measure => have := HK1.out; have := HK2.out; omega
       case rel => exact ⟨out_2, false, _, rfl, rfl, H', ⟨by have := HK2.out; omega⟩, HO, HB⟩
      subst bb
      rw [if_pos rfl] at H
      replace H := Option.bind_eq_some_iff.mp H
      obtain ⟨ys, T2, H⟩ := H
      have T2 := Az.mk T2
      have H' := Az.mk H
      clear H
      go_wp2_with (first
       | (go_at_call 66; refine (impl_isAround.callsn k2 A0 c0 l0 AO cO out_2 nO (Kd.R_reads' HO.out).1 w.heap.size p AJ cJ up _ true _ (by first | exact Kd.C_drewN (Kd.C_below HR1.out HB.out) _ | exact Kd.C_below HR1.out HB.out) HC0.out (by first | exact Kd.C_drewN (Kd.R_reads' HO.out).2.2 _ | exact (Kd.R_reads' HO.out).2.2) (Nat.le_trans (Nat.le_of_eq (Kd.R_reads' HO.out).1.symm) (Kd.R_reads' HO.out).2.1) (by first | exact HJ.out.drewN _ | exact HJ.out) T1.out).mono ?_; rintro e W3 ⟨rfl, hb⟩; have HB3 := Az.mk (bwT (by first | exact pbN HB.out _ | exact HB.out) hb); have HO3 := Az.mk (Kd.R_below (by first | exact Kd.R_drewN HO.out _ | exact HO.out) hb); clear hb T1 HB HO HJ; have HB := HB3; have HO := HO3; clear HB3 HO3)
       | (go_at_call 67; refine (impl_around.calls k2 A0 c0 l0 _ ys _ (by first | exact Kd.C_drewN (Kd.C_below HR1.out HB.out) _ | exact Kd.C_below HR1.out HB.out) HC0.out T2.out).mono ?_; rintro e W4 ⟨vy, rfl, ho, hb⟩; have HB3 := Az.mk (bwT (by first | exact pbN HB.out _ | exact HB.out) hb); have HO3 := Az.mk (Kd.R_below (by first | exact Kd.R_drewN HO.out _ | exact HO.out) hb); have HY := Az.mk (Kd.R_lower (Kd.R_new' ho (Kd.R_lt (by first | exact Kd.R_drewN HO.out _ | exact HO.out))) (by first | exact HB.out.size | exact (pbN HB.out _).size)); clear ho hb T2 HB HO; have HB := HB3; have HO := HO3; clear HB3 HO3; obtain ⟨AY, cY, eY⟩ := Kd.R_slice HY.out; subst eY))
      go_loopg [55] k2 (fun kq v55 w' => ∃ (out_3 : List Int) (e_1 : Int), v55 = .int .i64 e_1 ∧ Az (impl_PlainCurve.l2 kq l0 up out_3 c_1 ys e_1 = some r) ∧ Az (kq ≤ k2) ∧ Az (Kd.R (Kd.int .i64) 3 w' W1.heap.size (fun _ => True) (.slice AO nO cO) out_3) ∧ Az (Kd.R (Kd.int .i64) 3 w' W1.heap.size (fun k_ => True ∧ some k_ ≠ (Value.slice AO nO cO).ownBlock) (.slice AY ys.length cY) ys) ∧ Az (Below W1.heap.size W1 w'))
      case atStart => exact ⟨out_2, 0, rfl, H', ⟨Nat.le_refl _⟩, HO, HY, HB⟩
      case round =>
       clear H' HO HY HB
       obtain ⟨out_3, e_1, rfl, HA, HK3, HO, HY, HB⟩ := hrel
       cases gk with
       | zero => exact absurd HA.out (by simp [impl_PlainCurve.l2])
       | succ k3 =>
        have H := HA.out
        clear HA
        simp only [impl_PlainCurve.l2] at H
        by_cases f1 : e_1 < (ys.length : Int)
        rotate_left
        ·rw [if_neg f1] at H
         have f1b : decide (e_1 < (ys.length : Int)) = false := decide_eq_false f1
         clear f1
         have H' := Az.mk H
         clear H
         go_wp2
         go_roundg k3
         case measure => have := HK1.out; have := HK2.out; have := HK3.out; omega
         case rel => exact ⟨out_3, true, _, rfl, rfl, H', ⟨by have := HK2.out; have := HK3.out; omega⟩, HO, HB⟩
        rw [if_pos f1] at H
        by_cases f0 : 0 ≤ e_1
        rotate_left
        ·rw [if_neg f0] at H
         exact absurd H (by simp)
        rw [if_pos f0] at H
        by_cases f2 : e_1 < (out_3.length : Int)
        rotate_left
        ·rw [if_neg f2] at H
         exact absurd H (by simp)
        rw [if_pos f2] at H
        have H' := Az.mk H
        clear H
        obtain ⟨ady, ey, hy⟩ := Kd.at_int (Kd.R_reads' HY.out).2.2 e_1 f0 f1
        subst ey
        obtain ⟨g, eg⟩ := row_some HO.out f0 f2
        subst eg
        obtain ⟨hx, hf, zn, fin⟩ := row_at HO.out HB.out f0 f2
        have f1b := decide_eq_true f1
        replace f0 := eq_true f0
        replace f1 := eq_true f1
        replace f2 := eq_true f2
        replace zn := eq_true zn
        go_wp2
        go_roundg k3
        case measure => have := HK1.out; have := HK2.out; have := HK3.out; omega
        case rel => exact ⟨_, _, rfl, H', ⟨by have := HK3.out; omega⟩, ⟨(fin.out _ _ (by first | exact ⟨_, rfl⟩ | exact Drawn0.refl _)).1⟩, ⟨Kd.R_far (p := ⟨g, e_1.toNat, none⟩) HY.out (fun k_ hk_ e_ => hk_.2 (by rw [e_]; rfl)) _⟩, ⟨(fin.out _ _ (by first | exact ⟨_, rfl⟩ | exact Drawn0.refl _)).2⟩⟩
     have em : cornerOf c_1 = wrap64 (wrap64 (wrap64 (Int.tdiv c_1 3) * 3) + Int.tmod (wrap64 (c_1 + 1)) 3) := by unfold cornerOf; rw [if_neg m2]
     have m2b : (Int.tmod c_1 3 == 2) = false := beq_eq_false_iff_ne.mpr m2
     rw [em] at H
     clear em m2
     have HJ := Az.mk (HJ1.out.below HB.out)
     replace H := Option.bind_eq_some_iff.mp H
     obtain ⟨b, T1, H⟩ := H
     have T1 := Az.mk T1
     by_cases bb : b = true
     rotate_left
     ·rw [if_neg bb] at H
      replace bb := Bool.eq_false_iff.mpr bb
      subst bb
      have H' := Az.mk H
      clear H
      go_wp2_with (first
       | (go_at_call 66; refine (impl_isAround.callsn k2 A0 c0 l0 AO cO out_2 nO (Kd.R_reads' HO.out).1 w.heap.size p AJ cJ up _ false _ (by first | exact Kd.C_drewN (Kd.C_below HR1.out HB.out) _ | exact Kd.C_below HR1.out HB.out) HC0.out (by first | exact Kd.C_drewN (Kd.R_reads' HO.out).2.2 _ | exact (Kd.R_reads' HO.out).2.2) (Nat.le_trans (Nat.le_of_eq (Kd.R_reads' HO.out).1.symm) (Kd.R_reads' HO.out).2.1) (by first | exact HJ.out.drewN _ | exact HJ.out) T1.out).mono ?_; rintro e W3 ⟨rfl, hb⟩; have HB3 := Az.mk (bwT (by first | exact pbN HB.out _ | exact HB.out) hb); have HO3 := Az.mk (Kd.R_below (by first | exact Kd.R_drewN HO.out _ | exact HO.out) hb); clear hb T1 HB HO HJ; have HB := HB3; have HO := HO3; clear HB3 HO3))
      go_roundg k2
      case measure => have := HK1.out; have := HK2.out; omega
      case rel => exact ⟨out_2, false, _, rfl, rfl, H', ⟨by have := HK2.out; omega⟩, HO, HB⟩
     subst bb
     rw [if_pos rfl] at H
     replace H := Option.bind_eq_some_iff.mp H
     obtain ⟨ys, T2, H⟩ := H
     have T2 := Az.mk T2
     have H' := Az.mk H
     clear H
     go_wp2_with (first
      | (go_at_call 66; refine (impl_isAround.callsn k2 A0 c0 l0 AO cO out_2 nO (Kd.R_reads' HO.out).1 w.heap.size p AJ cJ up _ true _ (by first | exact Kd.C_drewN (Kd.C_below HR1.out HB.out) _ | exact Kd.C_below HR1.out HB.out) HC0.out (by first | exact Kd.C_drewN (Kd.R_reads' HO.out).2.2 _ | exact (Kd.R_reads' HO.out).2.2) (Nat.le_trans (Nat.le_of_eq (Kd.R_reads' HO.out).1.symm) (Kd.R_reads' HO.out).2.1) (by first | exact HJ.out.drewN _ | exact HJ.out) T1.out).mono ?_; rintro e W3 ⟨rfl, hb⟩; have HB3 := Az.mk (bwT (by first | exact pbN HB.out _ | exact HB.out) hb); have HO3 := Az.mk (Kd.R_below (by first | exact Kd.R_drewN HO.out _ | exact HO.out) hb); clear hb T1 HB HO HJ; have HB := HB3; have HO := HO3; clear HB3 HO3)
      | (go_at_call 67; refine (impl_around.calls k2 A0 c0 l0 _ ys _ (by first | exact Kd.C_drewN (Kd.C_below HR1.out HB.out) _ | exact Kd.C_below HR1.out HB.out) HC0.out T2.out).mono ?_; rintro e W4 ⟨vy, rfl, ho, hb⟩; have HB3 := Az.mk (bwT (by first | exact pbN HB.out _ | exact HB.out) hb); have HO3 := Az.mk (Kd.R_below (by first | exact Kd.R_drewN HO.out _ | exact HO.out) hb); have HY := Az.mk (Kd.R_lower (Kd.R_new' ho (Kd.R_lt (by first | exact Kd.R_drewN HO.out _ | exact HO.out))) (by first | exact HB.out.size | exact (pbN HB.out _).size)); clear ho hb T2 HB HO; have HB := HB3; have HO := HO3; clear HB3 HO3; obtain ⟨AY, cY, eY⟩ := Kd.R_slice HY.out; subst eY))
     go_loopg [55] k2 (fun kq v55 w' => ∃ (out_3 : List Int) (e_1 : Int), v55 = .int .i64 e_1 ∧ Az (impl_PlainCurve.l2 kq l0 up out_3 c_1 ys e_1 = some r) ∧ Az (kq ≤ k2) ∧ Az (Kd.R (Kd.int .i64) 3 w' W1.heap.size (fun _ => True) (.slice AO nO cO) out_3) ∧ Az (Kd.R (Kd.int .i64) 3 w' W1.heap.size (fun k_ => True ∧ some k_ ≠ (Value.slice AO nO cO).ownBlock) (.slice AY ys.length cY) ys) ∧ Az (Below W1.heap.size W1 w'))
     case atStart => exact ⟨out_2, 0, rfl, H', ⟨Nat.le_refl _⟩, HO, HY, HB⟩
     case round =>
      clear H' HO HY HB
      obtain ⟨out_3, e_1, rfl, HA, HK3, HO, HY, HB⟩ := hrel
      cases gk with
      | zero => exact absurd HA.out (by simp [impl_PlainCurve.l2])
      | succ k3 =>
       have H := HA.out
       clear HA
       simp only [impl_PlainCurve.l2] at H
       by_cases f1 : e_1 < (ys.length : Int)
       rotate_left
       ·rw [if_neg f1] at H
        have f1b : decide (e_1 < (ys.length : Int)) = false := decide_eq_false f1
        clear f1
        have H' := Az.mk H
        clear H
        go_wp2
        go_roundg k3
        case measure => have := HK1.out; have := HK2.out; have := HK3.out; omega
        case rel => exact ⟨out_3, true, _, rfl, rfl, H', ⟨by have := HK2.out; have := HK3.out; omega⟩, HO, HB⟩
       rw [if_pos f1] at H
       by_cases f0 : 0 ≤ e_1
       rotate_left
       ·rw [if_neg f0] at H
        exact absurd H (by simp)
       rw [if_pos f0] at H
       by_cases f2 : e_1 < (out_3.length : Int)
       rotate_left
       ·rw [if_neg f2] at H
        exact absurd H (by simp)
       rw [if_pos f2] at H
       have H' := Az.mk H
       clear H
       obtain ⟨ady, ey, hy⟩ := Kd.at_int (Kd.R_reads' HY.out).2.2 e_1 f0 f1
       subst ey
       obtain ⟨g, eg⟩ := row_some HO.out f0 f2
       subst eg
       obtain ⟨hx, hf, zn, fin⟩ := row_at HO.out HB.out f0 f2
       have f1b := decide_eq_true f1
       replace f0 := eq_true f0
       replace f1 := eq_true f1
       replace f2 := eq_true f2
       replace zn := eq_true zn
       go_wp2
       go_roundg k3
       case measure => have := HK1.out; have := HK2.out; have := HK3.out; omega
       case rel => exact ⟨_, _, rfl, H', ⟨by have := HK3.out; omega⟩, ⟨(fin.out _ _ (by first | exact ⟨_, rfl⟩ | exact Drawn0.refl _)).1⟩, ⟨Kd.R_far (p := ⟨g, e_1.toNat, none⟩) HY.out (fun k_ hk_ e_ => hk_.2 (by rw [e_]; rfl)) _⟩, ⟨(fin.out _ _ (by first | exact ⟨_, rfl⟩ | exact Drawn0.refl _)).2⟩⟩

end Go.Proofs.Ytjmgbaphlhimhaa.P
