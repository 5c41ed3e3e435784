-- By this session's driver (wip/tools/mk.py) of the kit's print program, over several statements at once. Not trusted: Lean checks it.
import Derived.Test.YtolmicnapemljaaQPx0
import Derived.Test.YtolmicnapemljaaQPx10
import Derived.Test.YtolmicnapemljaaQPx12
import Derived.Test.YtolmicnapemljaaQPx33
import Derived.Test.YtolmicnapemljaaQPx41
namespace Go.Proofs.Ytolmicnapemljaa.P
open Go.RowKit Go.Proofs.YtolmicnapemljaaW.PrintWords Go.Proofs.YtolmicnapemljaaW.PrintLast Go.Proofs.YtolmicnapemljaaW.PrintMore
attribute [local go_sem] max2_int min2_int max_two min_two max_three min_three max_four min_four   -- for this text's walks alone
set_option linter.unusedVariables false
set_option linter.unusedSimpArgs false

/-! ### impl_CurveLengths: function 33 -/
def impl_CurveLengths.l0 : Nat → List Int → List Int → Int → Option (List Int)
 | 0, _, _, _ => none
 | k + 1, up, cnt, i => if i < (up.length : Int) then ((joiner_top.l0 k up i).bind fun t => (if 0 ≤ t then (if t < (cnt.length : Int) then impl_CurveLengths.l0 k up (cnt.set t.toNat (wrap64 (rd cnt t + 1))) (wrap64 (i + 1)) else none) else none)) else some cnt
def impl_CurveLengths.l1 : Nat → List Int → List Int → Int → Option (List Int)
 | 0, _, _, _ => none
 | k + 1, cnt, out, i => if i < (cnt.length : Int) then (if 0 ≤ i then (if rd cnt i > 0 then (if out.length < 17592186044415 then impl_CurveLengths.l1 k cnt (out ++ [rd cnt i]) (wrap64 (i + 1)) else none) else impl_CurveLengths.l1 k cnt out (wrap64 (i + 1))) else none) else impl_sorted.f k out
def impl_CurveLengths.f (k : Nat) (t : List (List Int)) (x : List Int) : Option (List Int) := (impl_IsFair.f k t x).bind fun b => (if b = true then ((impl_curves.f k t x).bind fun up => (if (up.length : Int) ≤ 1000000000000 then ((impl_CurveLengths.l0 k up (List.replicate up.length 0) 0).bind fun cnt => impl_CurveLengths.l1 k cnt [] 0) else none)) else some ([] : List Int))
theorem impl_CurveLengths.mono0 : ∀ k y0 y1 y2, LeO (impl_CurveLengths.l0 k y0 y1 y2) (impl_CurveLengths.l0 (k + 1) y0 y1 y2)
 | 0, y0, y1, y2 => fun r h => by simp [impl_CurveLengths.l0] at h
 | k + 1, y0, y1, y2 => by
  have ih0 := impl_CurveLengths.mono0 k
  unfold impl_CurveLengths.l0
  repeat' first
   | (with_reducible exact ih0 _ _ _)
   | (with_reducible exact joiner_top.mono _ _ _)
   | (with_reducible exact LeO.refl _)
   | (with_reducible exact LeO.none _)
   | (with_reducible refine LeO.ite ?_ ?_)
   | (with_reducible refine LeO.bind ?_ (fun _ => ?_))
theorem impl_CurveLengths.mono1 : ∀ k y0 y1 y2, LeO (impl_CurveLengths.l1 k y0 y1 y2) (impl_CurveLengths.l1 (k + 1) y0 y1 y2)
 | 0, y0, y1, y2 => fun r h => by simp [impl_CurveLengths.l1] at h
 | k + 1, y0, y1, y2 => by
  have ih0 := impl_CurveLengths.mono1 k
  unfold impl_CurveLengths.l1
  repeat' first
   | (with_reducible exact ih0 _ _ _)
   | (with_reducible exact impl_sorted.mono _ _)
   | (with_reducible exact LeO.refl _)
   | (with_reducible exact LeO.none _)
   | (with_reducible refine LeO.ite ?_ ?_)
theorem impl_CurveLengths.mono : ∀ a0 a1 k, LeO (impl_CurveLengths.f k a0 a1) (impl_CurveLengths.f (k + 1) a0 a1) := by
 intro a0 a1 k
 unfold impl_CurveLengths.f
 refine LeO.bind (impl_IsFair.mono _ _ _) (fun _ => LeO.ite (LeO.bind (impl_curves.mono _ _ _) (fun _ => LeO.ite (LeO.bind (impl_CurveLengths.mono0 _ _ _ _) (fun _ => impl_CurveLengths.mono1 _ _ _ _)) (LeO.refl _))) (LeO.refl _))
set_option maxHeartbeats 16000000 in
set_option maxRecDepth 100000 in
theorem impl_CurveLengths.calls (k : Nat) (A0 : Option Addr) (c0 : Nat) (l0 : List (List Int)) (A1 : Option Addr) (c1 : Nat) (l1 : List Int) (r : List Int) (w : World) (hr0 : Kd.C (Kd.slice 3 (Kd.int .i64)) w A0 l0.length l0) (hc0 : l0.length ≤ c0) (hr1 : Kd.C (Kd.int .i64) w A1 l1.length l1) (hc1 : l1.length ≤ c1) (h : impl_CurveLengths.f k l0 l1 = some r) :
  Calls Try.prog 33 #[.slice A0 l0.length c0, .slice A1 l1.length c1] w fun e w' => ∃ v0_ : Value, e = .returned (v0_) ∧ Kd.R (Kd.int .i64) 3 w' w.heap.size (fun _ => True) v0_ r ∧ Below w.heap.size w w' := by
 have HR0 := Az.mk hr0
 have HC0 := Az.mk hc0
 have HR1 := Az.mk hr1
 have HC1 := Az.mk hc1
 clear hr0 hc0 hr1 hc1
 have HB := Az.mk (Below.refl w.heap.size w)
 unfold impl_CurveLengths.f at h
 replace h := Option.bind_eq_some_iff.mp h
 obtain ⟨b, T0, h⟩ := h
 have T0 := Az.mk T0
 by_cases p1 : b = true
 ·rw [if_pos p1] at h
  subst p1
  replace h := Option.bind_eq_some_iff.mp h
  obtain ⟨up, T1, h⟩ := h
  have T1 := Az.mk T1
  by_cases p2 : (up.length : Int) ≤ 1000000000000
  ·rw [if_pos p2] at h
   replace h := Option.bind_eq_some_iff.mp h
   obtain ⟨cntF, T2, h⟩ := h
   have T2 := Az.mk T2
   have HM := Az.mk h
   have N1 := Az.mk p2
   clear h p2
   go_enter Try.func33, Try.ntmps33
   go_wp2_with (first
    | (go_at_call 69; refine (impl_IsFair.calls k A0 c0 l0 A1 c1 l1 true _ (by first | exact Kd.C_drewN HR0.out _ | exact HR0.out) HC0.out (by first | exact Kd.C_drewN HR1.out _ | exact HR1.out) HC1.out T0.out).mono ?_; rintro e W0 ⟨rfl, hb⟩; have HB0 := Az.mk (bwT (by first | exact HB.out | exact pbN HB.out _) hb); clear hb T0 HB)
    | (go_at_call 98; refine (impl_curves.calls k A0 c0 l0 A1 c1 l1 up _ (by first | exact Kd.C_drewN (Kd.C_below HR0.out HB0.out) _ | exact Kd.C_below HR0.out HB0.out) HC0.out (by first | exact Kd.C_drewN (Kd.C_below HR1.out HB0.out) _ | exact Kd.C_below HR1.out HB0.out) HC1.out T1.out).mono ?_; rintro e W1 ⟨p, AJ, cJ, rfl, hj, hb⟩; have HJ1 := Az.mk hj; have HB1 := Az.mk (bwT (by first | exact HB0.out | exact pbN HB0.out _) hb); have hpj := hj.cell; clear hj hb T1 HB0)
    | ((with_reducible refine gtD (N := 23) rfl ?_); refine Kd.R_make (Kd.int .i64) (w0 := W1) W1.heap.size 3 rfl (N := 23) rfl 24 _ _ rfl (up.length : Int) ?hx ?hy Try.underlying24 (.int .i64 0) 8 info3 rfl (by decide) (by omega) 0 (ok := fun _ => True) (okp := fun _ => True) rfl (fun _ hk => hk) trivial (by omega) (by have := N1.out; omega) (by first | exact pbN (Below.refl _ _) _ | exact Below.refl _ _) (by first | exact Nat.le_refl _) ?_; (case hx => rfl); (case hy => rfl); intro v1 W2 ho hb hg_ hnew_; rw [Int.toNat_natCast] at ho; have HO := Az.mk ho; have HB := Az.mk hb; have hpj2 := (hb.cell (World.block_lt_of_cell? W1 _ hpj)).trans hpj; clear hg_ hnew_ ho hb hpj; have hpj := hpj2; clear hpj2; obtain ⟨AO, cO, eO⟩ := Kd.R_slice HO.out; generalize (List.replicate up.length (0 : Int)).length = nO at eO; subst eO))
   go_loopg [29] k (fun kq v29 w' => ∃ (cnt : List Int) (i_1 : Int), v29 = .int .i64 i_1 ∧ Az (impl_CurveLengths.l0 kq up cnt i_1 = some cntF) ∧ Az (kq ≤ k) ∧ Az (Kd.R (Kd.int .i64) 3 w' W1.heap.size (fun _ => True) (.slice AO nO cO) cnt) ∧ Az (Below W1.heap.size W1 w'))
   case atStart => exact ⟨_, 0, rfl, T2, ⟨Nat.le_refl _⟩, HO, HB⟩
   case round =>
    clear T2 HO HB hpj
    obtain ⟨cnt, i_1, rfl, HA, HK1, HO, HB⟩ := hrel
    cases gk with
    | zero => exact absurd HA.out (by simp [impl_CurveLengths.l0])
    | succ k1 =>
     have H := HA.out
     clear HA
     simp only [impl_CurveLengths.l0] at H
     by_cases b1 : i_1 < (up.length : Int)
     ·rw [if_pos b1] at H
      replace H := Option.bind_eq_some_iff.mp H
      obtain ⟨tt, Tt, H⟩ := H
      by_cases b2 : 0 ≤ tt
      ·rw [if_pos b2] at H
       by_cases b3 : tt < (cnt.length : Int)
       ·rw [if_pos b3] at H
        have Tt := Az.mk Tt
        have H' := Az.mk H
        clear H
        have HJ := Az.mk (HJ1.out.below HB.out)
        obtain ⟨g, eg⟩ := srt_some HO.out (by omega)
        subst eg
        obtain ⟨hx, hf, zn, fin⟩ := srt_at HO.out HB.out b2 b3
        have b1b := decide_eq_true b1
        replace b2 := eq_true b2
        replace zn := eq_true zn
        clear b1 b3
        go_wp2_with (first
         | (go_at_call 102; refine (joiner_top.calls k1 ⟨p, 0, none⟩ AJ cJ up _ _ _ (by first | exact (HJ.out.drewN _).cell | exact HJ.out.cell) (by first | exact (HJ.out.drewN _).C | exact HJ.out.C) Tt.out).mono ?_; rintro e w' ⟨rfl, ⟨nd1, rfl⟩⟩; clear Tt))
        go_roundg k1
        case measure => have := HK1.out; omega
        case rel => exact ⟨_, _, rfl, H', ⟨by have := HK1.out; omega⟩, ⟨(fin.out _ _ (by first | exact ⟨_, rfl⟩ | exact Drawn0.refl _)).1⟩, ⟨(fin.out _ _ (by first | exact ⟨_, rfl⟩ | exact Drawn0.refl _)).2⟩⟩
       ·rw [if_neg b3] at H
        exact absurd H (by simp)
      ·rw [if_neg b2] at H
       exact absurd H (by simp)
     ·rw [if_neg b1] at H
      have b1b : decide (i_1 < (up.length : Int)) = false := decide_eq_false b1
      clear b1
      obtain rfl := Option.some.inj H
      rename World => W2
      have hn := Az.mk (Kd.R_reads' HO.out).1
      have HC2 := Az.mk (Kd.R_reads' HO.out).2.2
      have HBT := Az.mk (bwT HB1.out HB.out)
      clear HO HB HJ1 HB1
      go_wp2_with (first | ((with_reducible refine gtD (N := 41) rfl ?_); refine Kd.R_lit (Kd.int .i64) _ 3 ?hg (N := 41) ?hd (xs := ([] : List Int)) (inner := []) (ok := fun _ => True) (okp := fun _ => True) ?hr ?hp (fun _ hk => hk) trivial (Below.refl _ _) (Nat.le_refl _) (by simp) ?_; (case hd => rfl); (case hg => rfl); (case hr => first | (go_simp; done) | (go_simp; rfl)); (case hp => exact Reps.none _ _); intro v1 W3 ho hb hg hat; have HO := Az.mk ho; have HB := Az.mk hb; clear ho hb hg hat; obtain ⟨A3, c3, e3⟩ := Kd.R_slice HO.out; subst e3))
      go_loopg [8, 44] k (fun kq v8 v44 w' => ∃ (out_1 : List Int) (i_2 : Int) (A : Option Addr) (c : Nat), v8 = .slice A out_1.length c ∧ v44 = .int .i64 i_2 ∧ Az (impl_CurveLengths.l1 kq cnt out_1 i_2 = some r) ∧ Az (kq ≤ k) ∧ Az (Kd.R (Kd.int .i64) 3 w' W2.heap.size (fun _ => True) (.slice A out_1.length c) out_1) ∧ Az (Below W2.heap.size W2 w'))
      case atStart => exact ⟨[], 0, _, _, rfl, rfl, HM, ⟨Nat.le_refl _⟩, HO, HB⟩
      case round =>
       clear HM HO HB
       obtain ⟨out_1, i_2, A, c, rfl, rfl, HA, HK2, HO, HB⟩ := hrel
       cases gk with
       | zero => exact absurd HA.out (by simp [impl_CurveLengths.l1])
       | succ k2 =>
        have H := HA.out
        clear HA
        simp only [impl_CurveLengths.l1] at H
        by_cases d1 : i_2 < (cnt.length : Int)
        ·rw [if_pos d1] at H
         by_cases d0 : 0 ≤ i_2
         ·rw [if_pos d0] at H
          obtain ⟨adc, ec, hxc⟩ := Kd.at_int HC2.out i_2 d0 d1
          subst ec
          replace hxc := (HB.out.cell (World.block_lt_of_cell? W2 _ hxc)).trans hxc
          obtain ⟨Y, hY⟩ : ∃ j_ : Int, rd cnt i_2 = j_ := ⟨_, rfl⟩
          rw [hY] at hxc H
          have d1b : decide (i_2 < (nO : Int)) = true := decide_eq_true (by have := hn.out; omega)
          have d1c : (i_2 < (nO : Int)) = True := eq_true (by have := hn.out; omega)
          replace d0 := eq_true d0
          clear hY d1
          by_cases f1 : Y > 0
          ·rw [if_pos f1] at H
           have f1b : decide (Y > 0) = true := decide_eq_true f1
           have f1c : decide (0 < Y) = true := decide_eq_true f1
           clear f1
           by_cases f2 : out_1.length < 17592186044415
           ·rw [if_pos f2] at H
            have LM := Az.mk f2
            have H' := Az.mk H
            clear H f2
            go_wp2_with (first | ((with_reducible refine gate_builtin (b := .append) (xs := #[.tmp 50, .tmp 52]) rfl ?_); at_builtin; refine Kd.R_append (Kd.int .i64) (w0 := W2) W2.heap.size rfl (.tmp 50) (.tmp 52) 24 3 (.int .i64 0) 8 rfl Try.underlying24 info3 rfl (by decide) (by omega) (.slice A out_1.length c) out_1 Y [.int .i64 Y] (fun _ => True) (fun _ => False) rfl rfl ?aP (fun _ hk => hk.elim) ?aF ?aO ?aB ?aS ?aL ?_; (case aP => exact rfl); (case aB => exact (by repeat (first | (with_reducible first | exact HB.out | apply pbN) | exact HB.out))); (case aF => exact (fun k_ hk_ => trivial)); (case aO => exact (by (with_reducible repeat (first | apply Kd.R_alloc | apply Kd.R_drewN | apply Kd.R_drew)); exact HO.out)); (case aS => exact HB.out.size); (case aL => have := LM.out; omega); intro v1 W6 ho hb hg hat; obtain ⟨A2, c2, e2⟩ := Kd.R_slice ho; subst e2; have HO2 := Az.mk ho; have HB2 := Az.mk hb; clear ho hb hg hat HO HB))
            go_roundg k2
            case measure => have := HK2.out; omega
            case rel => exact ⟨out_1 ++ [Y], _, A2, c2, by first | rfl | simp, rfl, H', ⟨by have := HK2.out; omega⟩, ⟨by first | exact HO2.out | exact Kd.R_drewN HO2.out _⟩, ⟨by first | exact HB2.out | exact pbN HB2.out _⟩⟩
           ·rw [if_neg f2] at H
            exact absurd H (by simp)
          ·rw [if_neg f1] at H
           have f1b : decide (Y > 0) = false := decide_eq_false f1
           have f1c : decide (0 < Y) = false := decide_eq_false f1
           clear f1
           have H' := Az.mk H
           clear H
           go_wp2
           go_roundg k2
           case measure => have := HK2.out; omega
           case rel => exact ⟨out_1, _, _, _, rfl, rfl, H', ⟨by have := HK2.out; omega⟩, ⟨by first | exact HO.out | exact Kd.R_drewN HO.out _⟩, ⟨by first | exact HB.out | exact pbN HB.out _⟩⟩
         ·rw [if_neg d0] at H
          exact absurd H (by simp)
        ·rw [if_neg d1] at H
         have d1b : decide (i_2 < (nO : Int)) = false := decide_eq_false (by have := hn.out; omega)
         clear d1
         have H' := Az.mk H
         clear H
         go_wp2_with (first
          | (go_at_call 103; refine (impl_sorted.calls k2 _ c out_1 r _ (by first | exact Kd.C_drewN (Kd.R_reads' HO.out).2.2 _ | exact (Kd.R_reads' HO.out).2.2) (Kd.R_reads' HO.out).2.1 H'.out).mono ?_; rintro e W7 ⟨v7, rfl, ho, hb⟩; have HO7 := Az.mk (Kd.R_lower (base' := w.heap.size) ho (by first | exact (bwT HBT.out HB.out).size | exact (pbN (bwT HBT.out HB.out) _).size)); have HB7 := Az.mk (bwT (by first | exact bwT HBT.out HB.out | exact pbN (bwT HBT.out HB.out) _) hb); clear ho hb H' HO HB))
         go_ret
         exact ⟨_, rfl, by first | exact HO7.out | exact Kd.R_drewN HO7.out _, by first | exact HB7.out | exact pbN HB7.out _⟩
  ·rw [if_neg p2] at h
   exact absurd h (by simp)
 ·rw [if_neg p1] at h
  replace p1 := Bool.eq_false_iff.mpr p1
  subst p1
  obtain rfl := Option.some.inj h
  go_enter Try.func33, Try.ntmps33
  go_wp2_with (first
   | (go_at_call 69; refine (impl_IsFair.calls k A0 c0 l0 A1 c1 l1 false _ (by first | exact Kd.C_drewN HR0.out _ | exact HR0.out) HC0.out (by first | exact Kd.C_drewN HR1.out _ | exact HR1.out) HC1.out T0.out).mono ?_; rintro e W0 ⟨rfl, hb⟩; have HB0 := Az.mk (bwT (by first | exact HB.out | exact pbN HB.out _) hb); clear hb T0))
  go_ret
  exact ⟨_, rfl, Kd.R_nil _ _ _ _ _, by first | exact HB0.out | exact pbN HB0.out _⟩

end Go.Proofs.Ytolmicnapemljaa.P
