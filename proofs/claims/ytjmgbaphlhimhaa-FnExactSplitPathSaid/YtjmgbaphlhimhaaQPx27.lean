-- By this session's driver (wip/tools/mk.py) of the kit's print program, over several statements at once. Not trusted: Lean checks it.
import Derived.Test.YtjmgbaphlhimhaaQPx0
import Derived.Test.YtjmgbaphlhimhaaQPx14
import Derived.Test.YtjmgbaphlhimhaaQPx15
import Derived.Test.YtjmgbaphlhimhaaQPx16
import Derived.Test.YtjmgbaphlhimhaaQPx26
namespace Go.Proofs.Ytjmgbaphlhimhaa.P
open Go.RowKit Go.Proofs.YtjmgbaphlhimhaaW.PrintWords Go.Proofs.YtjmgbaphlhimhaaW.PrintLast Go.Proofs.YtjmgbaphlhimhaaW.PrintMore
attribute [local go_sem] max2_int min2_int max_two min_two max_three min_three max_four min_four   -- for this text's walks alone
set_option linter.unusedVariables false
set_option linter.unusedSimpArgs false
open Bool renaming true → T, false → F

/-! ### impl_SplitPath: function 14 -/
mutual
def impl_SplitPath.l0 : Nat → List Int → ByteArray → Option ByteArray
 | 0, _, _ => none
 | k + 1, ys, o => if 0 < (ys.length : Int) then (if rd ys 0 > 0 then (if 1 < (ys.length : Int) then (if rd ys 1 > 0 then (if 2 < (ys.length : Int) then (if rd ys 2 > 0 then (if (o.size : Int) = 24 then (some (⟨#[]⟩ : ByteArray)) else (impl_SplitPath.l1 k ys o 0 0)) else some o) else none) else some o) else none) else some o) else none
def impl_SplitPath.l1 : Nat → List Int → ByteArray → Int → Int → Option ByteArray
 | 0, _, _, _, _ => none
 | k + 1, ys, o, b, i => if i < (ys.length : Int) then (if 0 ≤ i then (if 0 ≤ b then (if b < (ys.length : Int) then (if rd ys i > rd ys b then (impl_SplitPath.l1 k ys o i (wrap64 (i + 1))) else (impl_SplitPath.l1 k ys o b (wrap64 (i + 1)))) else none) else none) else none)
  else (if 0 ≤ b then (if b < (ys.length : Int) then (if 0 ≤ Int.tmod (wrap64 (b + 1)) 3 then (if Int.tmod (wrap64 (b + 1)) 3 < (ys.length : Int) then (if 0 ≤ Int.tmod (wrap64 (b + 2)) 3 then (if Int.tmod (wrap64 (b + 2)) 3 < (ys.length : Int) then ((impl_letterText.f (wrap64 (b + 1))).bind fun s => (if o.size + s.size ≤ 9223372036854775807 then (impl_SplitPath.l0 k (ys.set b.toNat (wrap64 (wrap64 (2 * mx (rd ys (Int.tmod (wrap64 (b + 1)) 3)) (rd ys (Int.tmod (wrap64 (b + 2)) 3))) - rd ys b))) (o ++ s)) else none)) else none) else none) else none) else none) else none) else none)
end
def impl_SplitPath.f (k : Nat) (x : List Int) : Option ByteArray := (impl_torus.f).bind fun t => ((impl_PlainCurve.f k t x).bind fun p => (if p.2 = true then ((impl_sameInts.f k p.1 x).bind fun b => (if b = true then (impl_SplitPath.l0 k p.1 (⟨#[]⟩ : ByteArray)) else some (⟨#[]⟩ : ByteArray))) else some (⟨#[]⟩ : ByteArray)))
theorem impl_SplitPath.mono_l : ∀ k, (∀ y0 y1, LeO (impl_SplitPath.l0 k y0 y1) (impl_SplitPath.l0 (k + 1) y0 y1)) ∧ (∀ y0 y1 y2 y3, LeO (impl_SplitPath.l1 k y0 y1 y2 y3) (impl_SplitPath.l1 (k + 1) y0 y1 y2 y3))
 | 0 => ⟨fun _ _ r h => by simp [impl_SplitPath.l0] at h, fun _ _ _ _ r h => by simp [impl_SplitPath.l1] at h⟩
 | k + 1 => by
  obtain ⟨ih0, ih1⟩ := impl_SplitPath.mono_l k
  refine ⟨?_, ?_⟩
  ·intro y0 y1
   unfold impl_SplitPath.l0
   repeat' first
   | (with_reducible exact ih1 _ _ _ _)
   | (with_reducible exact LeO.refl _)
   | (with_reducible exact LeO.none _)
   | (with_reducible refine LeO.ite ?_ ?_)
  intro y0 y1 y2 y3
  unfold impl_SplitPath.l1
  repeat' first
  | (with_reducible exact ih0 _ _)
  | (with_reducible exact ih1 _ _ _ _)
  | (with_reducible exact LeO.refl _)
  | (with_reducible exact LeO.none _)
  | (with_reducible refine LeO.ite ?_ ?_)
  | (with_reducible refine LeO.bind ?_ (fun _ => ?_))
theorem impl_SplitPath.mono : ∀ a0 k, LeO (impl_SplitPath.f k a0) (impl_SplitPath.f (k + 1) a0) := by
 intro a0 k
 unfold impl_SplitPath.f
 refine LeO.bind (LeO.refl _) (fun _ => LeO.bind (impl_PlainCurve.mono _ _ _) (fun _ => LeO.ite (LeO.bind (impl_sameInts.mono _ _ _) (fun _ => LeO.ite ((impl_SplitPath.mono_l k).1 _ _) (LeO.refl _))) (LeO.refl _)))
def impl_SplitPath.T15 : Bool × List (List Nat × List Nat) := (true, [([], []), ([], []), ([], []), ([], []), ([3], [3]), ([4], [4]), ([2, 5], [2, 5]), ([6], [6]), ([], []), ([], []), ([9], [9]), ([10], [10]), ([8, 11], [8, 11]), ([12], [12]), ([7, 13], [7, 13]), ([14], [14]), ([], []), ([], []), ([16, 17], [16, 17]), ([18], [18]), ([15, 19], [15, 19]), ([0, 1, 0, 1, 2, 3, 4, 5, 6, 7, 8, 9, 10, 11, 12, 13, 14, 15, 16, 17, 18, 19, 20], [0, 1]), ([21, 20, 0, 1, 2, 3, 4, 5, 6, 7, 8, 9, 10, 11, 12, 13, 14, 15, 16, 17, 18, 19, 20], [20, 21])])
def impl_SplitPath.B15 : List Nat := [0, 0, 0, 0, 8, 24, 60, 124, 0, 0, 512, 1536, 3840, 7936, 16380, 32764, 0, 0, 196608, 458752, 1048572, 2097151, 4194303]
theorem impl_SplitPath.tab15 : rtab .any (opsOf Try.f14 15) = impl_SplitPath.T15 := by kernel_rfl
theorem impl_SplitPath.bits15 : waitsOk impl_SplitPath.T15.2 impl_SplitPath.B15 = true := by kernel_rfl
set_option maxHeartbeats 16000000 in
set_option maxRecDepth 100000 in
theorem impl_SplitPath.calls (k : Nat) (A0 : Option Addr) (c0 : Nat) (l0 : List Int) (r : ByteArray) (w : World) (hr0 : Kd.C (Kd.int .i64) w A0 l0.length l0) (hc0 : l0.length ≤ c0) (h : impl_SplitPath.f k l0 = some r) :
  Calls Try.prog 14 #[.slice A0 l0.length c0] w fun e w' => e = .returned (.string r) ∧ Below w.heap.size w w' := by
 have HR0 := Az.mk hr0
 have HC0 := Az.mk hc0
 clear hr0 hc0
 unfold impl_SplitPath.f at h
 replace h := Option.bind_eq_some_iff.mp h
 obtain ⟨tt, T0, h⟩ := h
 replace h := Option.bind_eq_some_iff.mp h
 obtain ⟨⟨xs, ok⟩, T1, h⟩ := h
 dsimp only at h
 have T0 := Az.mk T0
 have T1 := Az.mk T1
 have HB := Az.mk (Below.refl w.heap.size w)
 by_cases p1 : ok = true
 rotate_left
 ·rw [if_neg p1] at h
  replace p1 := Bool.eq_false_iff.mpr p1
  subst p1
  obtain rfl := Option.some.inj h
  go_enter Try.func14, Try.ntmps14
  go_wp2_with (first
   | (go_at_call 40; refine (impl_torus.calls tt _ T0.out).mono ?_; rintro e W0 ⟨v0, rfl, ho, hb⟩; have HT := Az.mk ho; have HB0 := Az.mk (bwT (by first | exact HB.out | exact pbN HB.out _) hb); clear ho hb T0 HB; obtain ⟨AT, cT, eT⟩ := Kd.N_slice HT.out; subst eT)
   | (go_at_call 27; refine (impl_PlainCurve.calls k _ _ tt _ _ l0 xs false _ (by first | exact Kd.C_drewN (Kd.N_reads' HT.out).2.2 _ | exact (Kd.N_reads' HT.out).2.2) (Kd.N_reads' HT.out).2.1 (by first | exact Kd.C_drewN (Kd.C_below HR0.out HB0.out) _ | exact Kd.C_below HR0.out HB0.out) HC0.out T1.out).mono ?_; rintro e W1 ⟨v1, rfl, ho, hb⟩; have HB1 := Az.mk (bwT (by first | exact HB0.out | exact pbN HB0.out _) hb); clear ho hb T1 HB0 HT))
  go_ret
  exact ⟨rfl, by first | exact HB1.out | exact pbN HB1.out _ | exact pbN (pbN HB1.out _) _⟩
 rw [if_pos p1] at h
 subst p1
 replace h := Option.bind_eq_some_iff.mp h
 obtain ⟨same, T2, h⟩ := h
 have T2 := Az.mk T2
 by_cases p2 : same = true
 rotate_left
 ·rw [if_neg p2] at h
  replace p2 := Bool.eq_false_iff.mpr p2
  subst p2
  obtain rfl := Option.some.inj h
  go_enter Try.func14, Try.ntmps14
  go_wp2_with (first
   | (go_at_call 40; refine (impl_torus.calls tt _ T0.out).mono ?_; rintro e W0 ⟨v0, rfl, ho, hb⟩; have HT := Az.mk ho; have HB0 := Az.mk (bwT (by first | exact HB.out | exact pbN HB.out _) hb); clear ho hb T0 HB; obtain ⟨AT, cT, eT⟩ := Kd.N_slice HT.out; subst eT)
   | (go_at_call 27; refine (impl_PlainCurve.calls k _ _ tt _ _ l0 xs true _ (by first | exact Kd.C_drewN (Kd.N_reads' HT.out).2.2 _ | exact (Kd.N_reads' HT.out).2.2) (Kd.N_reads' HT.out).2.1 (by first | exact Kd.C_drewN (Kd.C_below HR0.out HB0.out) _ | exact Kd.C_below HR0.out HB0.out) HC0.out T1.out).mono ?_; rintro e W1 ⟨v1, rfl, ho, hb⟩; have HO := Az.mk (Kd.R_lower ho (by first | exact HB0.out.size | exact (pbN HB0.out _).size)); have HB1 := Az.mk (bwT (by first | exact HB0.out | exact pbN HB0.out _) hb); clear ho hb T1 HB0 HT; obtain ⟨AO, cO, eO⟩ := Kd.R_slice HO.out; subst eO)
   | (go_at_call 45; refine (impl_sameInts.calls k _ _ xs _ _ l0 false _ (by first | exact Kd.C_drewN (Kd.R_reads' HO.out).2.2 _ | exact (Kd.R_reads' HO.out).2.2) (Kd.R_reads' HO.out).2.1 (by first | exact Kd.C_drewN (Kd.C_below HR0.out HB1.out) _ | exact Kd.C_below HR0.out HB1.out) HC0.out T2.out).mono ?_; rintro e W2 ⟨rfl, ⟨nd2, rfl⟩⟩; clear T2))
  go_ret
  exact ⟨rfl, by first | exact HB1.out | exact pbN HB1.out _ | exact pbN (pbN HB1.out _) _⟩
 rw [if_pos p2] at h
 subst p2
 have H' := Az.mk h
 clear h
 go_enter Try.func14, Try.ntmps14
 go_wp2_with (first
  | (go_at_call 40; refine (impl_torus.calls tt _ T0.out).mono ?_; rintro e W0 ⟨v0, rfl, ho, hb⟩; have HT := Az.mk ho; have HB0 := Az.mk (bwT (by first | exact HB.out | exact pbN HB.out _) hb); clear ho hb T0 HB; obtain ⟨AT, cT, eT⟩ := Kd.N_slice HT.out; subst eT)
  | (go_at_call 27; refine (impl_PlainCurve.calls k _ _ tt _ _ l0 xs true _ (by first | exact Kd.C_drewN (Kd.N_reads' HT.out).2.2 _ | exact (Kd.N_reads' HT.out).2.2) (Kd.N_reads' HT.out).2.1 (by first | exact Kd.C_drewN (Kd.C_below HR0.out HB0.out) _ | exact Kd.C_below HR0.out HB0.out) HC0.out T1.out).mono ?_; rintro e W1 ⟨v1, rfl, ho, hb⟩; have HO := Az.mk (Kd.R_lower ho (by first | exact HB0.out.size | exact (pbN HB0.out _).size)); have HB1 := Az.mk (bwT (by first | exact HB0.out | exact pbN HB0.out _) hb); clear ho hb T1 HB0 HT; obtain ⟨AO, cO, eO⟩ := Kd.R_slice HO.out; subst eO)
  | (go_at_call 45; refine (impl_sameInts.calls k _ _ xs _ _ l0 true _ (by first | exact Kd.C_drewN (Kd.R_reads' HO.out).2.2 _ | exact (Kd.R_reads' HO.out).2.2) (Kd.R_reads' HO.out).2.1 (by first | exact Kd.C_drewN (Kd.C_below HR0.out HB1.out) _ | exact Kd.C_below HR0.out HB1.out) HC0.out T2.out).mono ?_; rintro e W2 ⟨rfl, ⟨nd2, rfl⟩⟩; clear T2))
 have HO' := Az.mk (Kd.R_drewN HO.out nd2)
 have HB' := Az.mk (pbN HB1.out nd2)
 clear HO HB1
 have HO := HO'
 have HB := HB'
 clear HO' HB' HR0
 generalize hq_ : World.drewN W1 nd2 = W2 at HO HB ⊢
 clear hq_
 generalize xs.length = nO at HO ⊢
 go_loopg [5] k (fun kq v4 w' => ∃ (ys : List Int) (o : ByteArray), v4 = .string o ∧ Az (impl_SplitPath.l0 kq ys o = some r) ∧ Az (kq ≤ k) ∧ Az (Kd.R (Kd.int .i64) 3 w' w.heap.size (fun _ => True) (.slice AO nO cO) ys) ∧ Az (Below w.heap.size w w'))
 case atStart => exact ⟨xs, ⟨#[]⟩, rfl, H', ⟨Nat.le_refl _⟩, HO, HB⟩
 case round =>
  clear H' HO HB
  obtain ⟨ys, o, rfl, HA, HK1, HO, HB⟩ := hrel
  cases gk with
  | zero => exact absurd HA.out (by simp [impl_SplitPath.l0])
  | succ k1 =>
   have H := HA.out
   clear HA
   simp only [impl_SplitPath.l0] at H
   by_cases a0 : 0 < (ys.length : Int)
   rotate_left
   ·rw [if_neg a0] at H
    exact absurd H (by simp)
   rw [if_pos a0] at H
   obtain ⟨g, eg⟩ := row_some HO.out (Int.le_refl 0) a0
   subst eg
   obtain ⟨hx0, _, zn0, _⟩ := row_at HO.out HB.out (Int.le_refl 0) a0
   have zi0 := eq_true zn0
   have zj0 : (0 < nO) = True := eq_true (by omega)
   (try rw [show ((0 : Int)).toNat = 0 from rfl] at hx0)
   by_cases c0 : rd ys 0 > 0
   rotate_left
   ·rw [if_neg c0] at H
    have c0b : decide (rd ys 0 > 0) = false := decide_eq_false c0
    have c0c : decide (0 < rd ys 0) = false := decide_eq_false c0
    clear c0
    obtain rfl := Option.some.inj H
    clear a0 zn0
    go_wp2
    go_ret
    exact ⟨rfl, by first | exact HB.out | exact pbN HB.out _⟩
   rw [if_pos c0] at H
   have c0b : decide (rd ys 0 > 0) = true := decide_eq_true c0
   have c0c : decide (0 < rd ys 0) = true := decide_eq_true c0
   clear c0
   by_cases a1 : 1 < (ys.length : Int)
   rotate_left
   ·rw [if_neg a1] at H
    exact absurd H (by simp)
   rw [if_pos a1] at H
   obtain ⟨hx1, _, zn1, _⟩ := row_at HO.out HB.out (show (0 : Int) ≤ 1 by omega) a1
   have zi1 := eq_true zn1
   have zj1 : (1 < nO) = True := eq_true (by omega)
   (try rw [show ((1 : Int)).toNat = 1 from rfl] at hx1)
   by_cases c1 : rd ys 1 > 0
   rotate_left
   ·rw [if_neg c1] at H
    have c1b : decide (rd ys 1 > 0) = false := decide_eq_false c1
    have c1c : decide (0 < rd ys 1) = false := decide_eq_false c1
    clear c1
    obtain rfl := Option.some.inj H
    clear a0 a1 zn0 zn1
    go_wp2
    go_ret
    exact ⟨rfl, by first | exact HB.out | exact pbN HB.out _⟩
   rw [if_pos c1] at H
   have c1b : decide (rd ys 1 > 0) = true := decide_eq_true c1
   have c1c : decide (0 < rd ys 1) = true := decide_eq_true c1
   clear c1
   by_cases a2 : 2 < (ys.length : Int)
   rotate_left
   ·rw [if_neg a2] at H
    exact absurd H (by simp)
   rw [if_pos a2] at H
   obtain ⟨hx2, _, zn2, _⟩ := row_at HO.out HB.out (show (0 : Int) ≤ 2 by omega) a2
   have zi2 := eq_true zn2
   have zj2 : (2 < nO) = True := eq_true (by omega)
   (try rw [show ((2 : Int)).toNat = 2 from rfl] at hx2)
   by_cases c2 : rd ys 2 > 0
   rotate_left
   ·rw [if_neg c2] at H
    have c2b : decide (rd ys 2 > 0) = false := decide_eq_false c2
    have c2c : decide (0 < rd ys 2) = false := decide_eq_false c2
    clear c2
    obtain rfl := Option.some.inj H
    clear a0 a1 a2 zn0 zn1 zn2
    go_wp2
    go_ret
    exact ⟨rfl, by first | exact HB.out | exact pbN HB.out _⟩
   rw [if_pos c2] at H
   have c2b : decide (rd ys 2 > 0) = true := decide_eq_true c2
   have c2c : decide (0 < rd ys 2) = true := decide_eq_true c2
   clear c2
   by_cases so : (o.size : Int) = 24
   ·rw [if_pos so] at H
    have sob : ((o.size : Int) == 24) = true := beq_iff_eq.mpr so
    clear so
    obtain rfl := Option.some.inj H
    clear a0 a1 a2 zn0 zn1 zn2
    go_wp2
    go_ret
    exact ⟨rfl, by first | exact HB.out | exact pbN HB.out _⟩
   rw [if_neg so] at H
   have sob : ((o.size : Int) == 24) = false := beq_eq_false_iff_ne.mpr so
   clear so
   have H' := Az.mk H
   clear H a0 a1 a2 zn0 zn1 zn2
   go_wp2
   go_loopg [6, 44] k1 (fun kq v5 v6 w' => ∃ (b i : Int), v5 = .int .i64 b ∧ v6 = .int .i64 i ∧ Az (impl_SplitPath.l1 kq ys o b i = some r) ∧ Az (kq ≤ k1) ∧ Az (Kd.R (Kd.int .i64) 3 w' w.heap.size (fun _ => True) (.slice (some ⟨g, 0, none⟩) nO cO) ys) ∧ Az (Below w.heap.size w w'))
   case atStart => exact ⟨0, 0, rfl, rfl, H', ⟨Nat.le_refl _⟩, ⟨by first | exact HO.out | exact Kd.R_drewN HO.out _⟩, ⟨by first | exact HB.out | exact pbN HB.out _⟩⟩
   case round =>
    clear H' HO HB hx0 hx1 hx2 zi0 zi1 zi2 zj0 zj1 zj2 c0b c0c c1b c1c c2b c2c sob
    obtain ⟨b, i, rfl, rfl, HA, HK2, HO, HB⟩ := hrel
    have hn := Az.mk ((Kd.R_reads' HO.out).1)
    cases gk with
    | zero => exact absurd HA.out (by simp [impl_SplitPath.l1])
    | succ k2 =>
     have H := HA.out
     clear HA
     simp only [impl_SplitPath.l1] at H
     by_cases d1 : i < (ys.length : Int)
     ·rw [if_pos d1] at H
      by_cases d0 : 0 ≤ i
      rotate_left
      ·rw [if_neg d0] at H
       exact absurd H (by simp)
      rw [if_pos d0] at H
      by_cases e0 : 0 ≤ b
      rotate_left
      ·rw [if_neg e0] at H
       exact absurd H (by simp)
      rw [if_pos e0] at H
      by_cases e1 : b < (ys.length : Int)
      rotate_left
      ·rw [if_neg e1] at H
       exact absurd H (by simp)
      rw [if_pos e1] at H
      obtain ⟨hxi, _, zni, _⟩ := row_at HO.out HB.out d0 d1
      obtain ⟨hxb, _, znb, _⟩ := row_at HO.out HB.out e0 e1
      have zi := eq_true zni
      have zib : decide (i < (nO : Int)) = true := decide_eq_true zni
      have zb := eq_true znb
      obtain ⟨X, hX⟩ : ∃ j_ : Int, rd ys i = j_ := ⟨_, rfl⟩
      obtain ⟨Y, hY⟩ : ∃ j_ : Int, rd ys b = j_ := ⟨_, rfl⟩
      rw [hX] at hxi H
      rw [hY] at hxb H
      clear hX hY zni znb d1 e1
      replace d0 := eq_true d0
      replace e0 := eq_true e0
      by_cases f1 : X > Y
      ·rw [if_pos f1] at H
       have f1b : decide (X > Y) = true := decide_eq_true f1
       have f1c : decide (Y < X) = true := decide_eq_true f1
       clear f1
       have H' := Az.mk H
       clear H
       go_wp2
       go_roundg k2
       case measure => have := HK1.out; have := HK2.out; omega
       case rel => exact ⟨i, _, rfl, rfl, H', ⟨by have := HK2.out; omega⟩, ⟨by first | exact HO.out | exact Kd.R_drewN HO.out _⟩, ⟨by first | exact HB.out | exact pbN HB.out _⟩⟩
      rw [if_neg f1] at H
      have f1b : decide (X > Y) = false := decide_eq_false f1
      have f1c : decide (Y < X) = false := decide_eq_false f1
      clear f1
      have H' := Az.mk H
      clear H
      go_wp2
      go_roundg k2
      case measure => have := HK1.out; have := HK2.out; omega
      case rel => exact ⟨b, _, rfl, rfl, H', ⟨by have := HK2.out; omega⟩, ⟨by first | exact HO.out | exact Kd.R_drewN HO.out _⟩, ⟨by first | exact HB.out | exact pbN HB.out _⟩⟩
     rw [if_neg d1] at H
     have zib : decide (i < (nO : Int)) = false := decide_eq_false (by have := hn.out; omega)
     clear d1
     by_cases e0 : 0 ≤ b
     rotate_left
     ·rw [if_neg e0] at H
      exact absurd H (by simp)
     rw [if_pos e0] at H
     by_cases e1 : b < (ys.length : Int)
     rotate_left
     ·rw [if_neg e1] at H
      exact absurd H (by simp)
     rw [if_pos e1] at H
     obtain ⟨B1, hB1⟩ : ∃ j_ : Int, wrap64 (b + 1) = j_ := ⟨_, rfl⟩
     obtain ⟨B2, hB2⟩ : ∃ j_ : Int, wrap64 (b + 2) = j_ := ⟨_, rfl⟩
     rw [hB1, hB2] at H
     have hB1w : IntKind.i64.wrap (b + 1) = B1 := (i64_w _).trans hB1
     have hB2w : IntKind.i64.wrap (b + 2) = B2 := (i64_w _).trans hB2
     obtain ⟨P1, hP1⟩ : ∃ j_ : Int, Int.tmod B1 3 = j_ := ⟨_, rfl⟩
     obtain ⟨P2, hP2⟩ : ∃ j_ : Int, Int.tmod B2 3 = j_ := ⟨_, rfl⟩
     rw [hP1, hP2] at H
     by_cases g0 : 0 ≤ P1
     rotate_left
     ·rw [if_neg g0] at H
      exact absurd H (by simp)
     rw [if_pos g0] at H
     by_cases g1 : P1 < (ys.length : Int)
     rotate_left
     ·rw [if_neg g1] at H
      exact absurd H (by simp)
     rw [if_pos g1] at H
     by_cases g2 : 0 ≤ P2
     rotate_left
     ·rw [if_neg g2] at H
      exact absurd H (by simp)
     rw [if_pos g2] at H
     by_cases g3 : P2 < (ys.length : Int)
     rotate_left
     ·rw [if_neg g3] at H
      exact absurd H (by simp)
     rw [if_pos g3] at H
     replace H := Option.bind_eq_some_iff.mp H
     obtain ⟨s, T3, H⟩ := H
     by_cases sz : o.size + s.size ≤ 9223372036854775807
     rotate_left
     ·rw [if_neg sz] at H
      exact absurd H (by simp)
     rw [if_pos sz] at H
     have T3 := Az.mk T3
     have H' := Az.mk H
     clear H
     obtain ⟨hxb, hfb, znb, fin⟩ := row_at HO.out HB.out e0 e1
     obtain ⟨hxp, _, znp, _⟩ := row_at HO.out HB.out g0 g1
     obtain ⟨hxq, _, znq, _⟩ := row_at HO.out HB.out g2 g3
     obtain ⟨Xb, hXb⟩ : ∃ j_ : Int, rd ys b = j_ := ⟨_, rfl⟩
     obtain ⟨Xp, hXp⟩ : ∃ j_ : Int, rd ys P1 = j_ := ⟨_, rfl⟩
     obtain ⟨Xq, hXq⟩ : ∃ j_ : Int, rd ys P2 = j_ := ⟨_, rfl⟩
     rw [hXb] at hxb H'
     rw [hXp] at hxp H'
     rw [hXq] at hxq H'
     clear hXb hXp hXq
     have szb := eq_true sz
     have szc : decide (o.size + s.size ≤ 9223372036854775807) = true := decide_eq_true sz
     have szd : (9223372036854775807 < o.size + s.size) = False := eq_false (Nat.not_lt.2 sz)
     replace e0 := eq_true e0
     replace g0 := eq_true g0
     replace g2 := eq_true g2
     replace znb := eq_true znb
     replace znp := eq_true znp
     replace znq := eq_true znq
     clear g1 g3 sz
     clear fin
     go_upto_region 15 with (fail)
     refine start_ (n := 23) (S := fun w' => w'.cell? ⟨g, P1.toNat, none⟩ = some (.int .i64 Xp) ∧ w'.cell? ⟨g, P2.toNat, none⟩ = some (.int .i64 Xq) ∧ w'.cell? ⟨g, b.toNat, none⟩ = some (.int .i64 Xb)) (ds := [22]) #[F,F,F,F,F,F,F,F,F,F,F,F,F,F,F,F,F,F,F,F,F,F,F] (by kernel_rfl) rfl rfl ⟨by simpa using hxp, by simpa using hxq, by simpa using hxb⟩ (fun hHeld => ?_)
     refine with_tabW impl_SplitPath.tab15 impl_SplitPath.bits15 (fun HT_ HW_ => ?_)
     have HBn := Az.mk (bwD HB.out)
     have HOn := Az.mk (Kd.R_drew HO.out)
     clear HB HO
     have HB := HBn
     have HO := HOn
     clear HBn HOn
     replace hxb := (show wr.drew.cell? ⟨g, b.toNat, none⟩ = some (.int .i64 Xb) from by simpa using hxb)
     replace hfb := (show wr.drew.frozen? ⟨g, b.toNat, none⟩ = false from by simpa using hfb)
     generalize wr.drew = wd at HB HO hHeld hxb hfb ⊢
     refine pure_ (i := 0) (N := some 57) (v := ?_) (a' := ?_) #[T,F,F,F,F,F,F,F,F,F,F,F,F,F,F,F,F,F,F,F,F,F,F] rfl rfl (any_of HT_.out (by kernel_rfl)) (fun _ _ _ h => h) (Or.inl ⟨by rfl, ?_⟩) ?_ ?_
     rotate_left
     ·intro w'
      go_simp
      with_reducible rfl
     rotate_left
     ·simp only [Act.put, List.setIfInBounds_toArray, List.set_cons_zero, List.set_cons_succ, i64_w, i32_w]
      rfl
     refine pure_ (i := 1) (N := some 58) (v := ?_) (a' := ?_) #[T,T,F,F,F,F,F,F,F,F,F,F,F,F,F,F,F,F,F,F,F,F,F] rfl rfl (any_of HT_.out (by kernel_rfl)) (fun _ _ _ h => h) (Or.inl ⟨by rfl, ?_⟩) ?_ ?_
     rotate_left
     ·intro w'
      go_simp
      with_reducible rfl
     rotate_left
     ·simp only [Act.put, List.setIfInBounds_toArray, List.set_cons_zero, List.set_cons_succ, i64_w, i32_w]
      rfl
     refine pure_ (i := 2) (N := some 59) (v := ?_) (a' := ?_) #[T,T,T,F,F,F,F,F,F,F,F,F,F,F,F,F,F,F,F,F,F,F,F] rfl rfl (any_of HT_.out (by kernel_rfl)) (fun _ _ _ h => h) (Or.inl ⟨by rfl, ?_⟩) ?_ ?_
     rotate_left
     ·intro w'
      go_simp
      with_reducible rfl
     rotate_left
     ·simp only [Act.put, List.setIfInBounds_toArray, List.set_cons_zero, List.set_cons_succ, i64_w, i32_w]
      rfl
     refine pure_ (i := 3) (N := some 60) (v := ?_) (a' := ?_) #[T,T,T,T,F,F,F,F,F,F,F,F,F,F,F,F,F,F,F,F,F,F,F] rfl rfl (any_of HT_.out (by kernel_rfl)) (fun _ _ _ h => h) (Or.inl ⟨by rfl, ?_⟩) ?_ ?_
     rotate_left
     ·intro w'
      go_simp
      with_reducible rfl
     rotate_left
     ·simp only [Act.put, List.setIfInBounds_toArray, List.set_cons_zero, List.set_cons_succ, i64_w, i32_w]
      rfl
     refine pure_ (i := 4) (N := some 61) (v := ?_) (a' := ?_) #[T,T,T,T,T,F,F,F,F,F,F,F,F,F,F,F,F,F,F,F,F,F,F] rfl rfl (any_of HT_.out (by kernel_rfl)) (fun _ _ _ h => h) (Or.inl ⟨by rfl, ?_⟩) ?_ ?_
     rotate_left
     ·intro w'
      go_simp
      with_reducible rfl
     rotate_left
     ·simp only [Act.put, List.setIfInBounds_toArray, List.set_cons_zero, List.set_cons_succ, i64_w, i32_w]
      rfl
     refine pure_ (i := 5) (N := some 62) (v := ?_) (a' := ?_) #[T,T,T,T,T,T,F,F,F,F,F,F,F,F,F,F,F,F,F,F,F,F,F] rfl rfl (any_of HT_.out (by kernel_rfl)) (fun _ _ _ h => h) (Or.inl ⟨by rfl, ?_⟩) ?_ ?_
     rotate_left
     ·intro w'
      go_simp
      with_reducible rfl
     rotate_left
     ·simp only [Act.put, List.setIfInBounds_toArray, List.set_cons_zero, List.set_cons_succ, i64_w, i32_w]
      rfl
     refine pure_ (i := 6) (N := some 63) (v := ?_) (a' := ?_) #[T,T,T,T,T,T,T,F,F,F,F,F,F,F,F,F,F,F,F,F,F,F,F] rfl rfl (any_of HT_.out (by kernel_rfl)) (fun _ _ _ h => h) (Or.inl ⟨by rfl, ?_⟩) ?_ ?_
     rotate_left
     ·intro w'
      go_simp
      with_reducible rfl
     rotate_left
     ·simp only [Act.put, List.setIfInBounds_toArray, List.set_cons_zero, List.set_cons_succ, i64_w, i32_w]
      rfl
     refine pure_ (i := 8) (N := some 65) (v := ?_) (a' := ?_) #[T,T,T,T,T,T,T,F,T,F,F,F,F,F,F,F,F,F,F,F,F,F,F] rfl rfl (any_of HT_.out (by kernel_rfl)) (fun _ _ _ h => h) (Or.inl ⟨by rfl, ?_⟩) ?_ ?_
     rotate_left
     ·intro w'
      go_simp
      with_reducible rfl
     rotate_left
     ·simp only [Act.put, List.setIfInBounds_toArray, List.set_cons_zero, List.set_cons_succ, i64_w, i32_w]
      rfl
     refine pure_ (i := 9) (N := some 66) (v := ?_) (a' := ?_) #[T,T,T,T,T,T,T,F,T,T,F,F,F,F,F,F,F,F,F,F,F,F,F] rfl rfl (any_of HT_.out (by kernel_rfl)) (fun _ _ _ h => h) (Or.inl ⟨by rfl, ?_⟩) ?_ ?_
     rotate_left
     ·intro w'
      go_simp
      with_reducible rfl
     rotate_left
     ·simp only [Act.put, List.setIfInBounds_toArray, List.set_cons_zero, List.set_cons_succ, i64_w, i32_w]
      rfl
     refine pure_ (i := 10) (N := some 67) (v := ?_) (a' := ?_) #[T,T,T,T,T,T,T,F,T,T,T,F,F,F,F,F,F,F,F,F,F,F,F] rfl rfl (any_of HT_.out (by kernel_rfl)) (fun _ _ _ h => h) (Or.inl ⟨by rfl, ?_⟩) ?_ ?_
     rotate_left
     ·intro w'
      go_simp
      with_reducible rfl
     rotate_left
     ·simp only [Act.put, List.setIfInBounds_toArray, List.set_cons_zero, List.set_cons_succ, i64_w, i32_w]
      rfl
     refine pure_ (i := 11) (N := some 68) (v := ?_) (a' := ?_) #[T,T,T,T,T,T,T,F,T,T,T,T,F,F,F,F,F,F,F,F,F,F,F] rfl rfl (any_of HT_.out (by kernel_rfl)) (fun _ _ _ h => h) (Or.inl ⟨by rfl, ?_⟩) ?_ ?_
     rotate_left
     ·intro w'
      go_simp
      with_reducible rfl
     rotate_left
     ·simp only [Act.put, List.setIfInBounds_toArray, List.set_cons_zero, List.set_cons_succ, i64_w, i32_w]
      rfl
     refine pure_ (i := 12) (N := some 69) (v := ?_) (a' := ?_) #[T,T,T,T,T,T,T,F,T,T,T,T,T,F,F,F,F,F,F,F,F,F,F] rfl rfl (any_of HT_.out (by kernel_rfl)) (fun _ _ _ h => h) (Or.inl ⟨by rfl, ?_⟩) ?_ ?_
     rotate_left
     ·intro w'
      go_simp
      with_reducible rfl
     rotate_left
     ·simp only [Act.put, List.setIfInBounds_toArray, List.set_cons_zero, List.set_cons_succ, i64_w, i32_w]
      rfl
     refine pure_ (i := 16) (N := some 73) (v := ?_) (a' := ?_) #[T,T,T,T,T,T,T,F,T,T,T,T,T,F,F,F,T,F,F,F,F,F,F] rfl rfl (any_of HT_.out (by kernel_rfl)) (fun _ _ _ h => h) (Or.inl ⟨by rfl, ?_⟩) ?_ ?_
     rotate_left
     ·intro w'
      go_simp
      with_reducible rfl
     rotate_left
     ·simp only [Act.put, List.setIfInBounds_toArray, List.set_cons_zero, List.set_cons_succ, i64_w, i32_w]
      rfl
     refine pure_ (i := 17) (N := some 74) (v := ?_) (a' := ?_) #[T,T,T,T,T,T,T,F,T,T,T,T,T,F,F,F,T,T,F,F,F,F,F] rfl rfl (any_of HT_.out (by kernel_rfl)) (fun _ _ _ h => h) (Or.inl ⟨by rfl, ?_⟩) ?_ ?_
     rotate_left
     ·intro w'
      go_simp
      with_reducible rfl
     rotate_left
     ·simp only [Act.put, List.setIfInBounds_toArray, List.set_cons_zero, List.set_cons_succ, i64_w, i32_w]
      rfl
     refine pure_ (i := 18) (N := some 75) (v := ?_) (a' := ?_) #[T,T,T,T,T,T,T,F,T,T,T,T,T,F,F,F,T,T,T,F,F,F,F] rfl rfl (any_of HT_.out (by kernel_rfl)) (fun _ _ _ h => h) (Or.inl ⟨by rfl, ?_⟩) ?_ ?_
     rotate_left
     ·intro w'
      go_simp
      with_reducible rfl
     rotate_left
     ·simp only [Act.put, List.setIfInBounds_toArray, List.set_cons_zero, List.set_cons_succ, i64_w, i32_w]
      rfl
     refine take_ (i := 7) (N := some 64) (v := ?_) (a' := ?_) #[T,T,T,T,T,T,T,T,T,T,T,T,T,F,F,F,T,T,T,F,F,F,F] rfl rfl (take_ofW HT_.out HW_.out (by kernel_rfl)) (fun _ _ _ h => h) (Or.inl ⟨by rfl, ?_⟩) hHeld ?_ ?_
     rotate_left
     ·rintro w' ⟨s0, s1, s2⟩
      go_simp
      with_reducible rfl
     rotate_left
     ·simp only [Act.put, List.setIfInBounds_toArray, List.set_cons_zero, List.set_cons_succ, i64_w, i32_w]
      rfl
     refine take_ (i := 13) (N := some 70) (v := ?_) (a' := ?_) #[T,T,T,T,T,T,T,T,T,T,T,T,T,T,F,F,T,T,T,F,F,F,F] rfl rfl (take_ofW HT_.out HW_.out (by kernel_rfl)) (fun _ _ _ h => h) (Or.inl ⟨by rfl, ?_⟩) hHeld ?_ ?_
     rotate_left
     ·rintro w' ⟨s0, s1, s2⟩
      go_simp
      with_reducible rfl
     rotate_left
     ·simp only [Act.put, List.setIfInBounds_toArray, List.set_cons_zero, List.set_cons_succ, i64_w, i32_w]
      rfl
     refine pure_ (i := 14) (N := some 71) (v := ?_) (a' := ?_) #[T,T,T,T,T,T,T,T,T,T,T,T,T,T,T,F,T,T,T,F,F,F,F] rfl rfl (any_of HT_.out (by kernel_rfl)) (fun _ _ _ h => h) (Or.inl ⟨by rfl, ?_⟩) ?_ ?_
     rotate_left
     ·intro w'
      go_simp
      with_reducible rfl
     rotate_left
     ·simp only [Act.put, List.setIfInBounds_toArray, List.set_cons_zero, List.set_cons_succ, i64_w, i32_w]
      rfl
     refine pure_ (i := 15) (N := some 72) (v := ?_) (a' := ?_) #[T,T,T,T,T,T,T,T,T,T,T,T,T,T,T,T,T,T,T,F,F,F,F] rfl rfl (any_of HT_.out (by kernel_rfl)) (fun _ _ _ h => h) (Or.inl ⟨by rfl, ?_⟩) ?_ ?_
     rotate_left
     ·intro w'
      go_simp
      with_reducible rfl
     rotate_left
     ·simp only [Act.put, List.setIfInBounds_toArray, List.set_cons_zero, List.set_cons_succ, i64_w, i32_w]
      rfl
     refine take_ (i := 19) (N := some 76) (v := ?_) (a' := ?_) #[T,T,T,T,T,T,T,T,T,T,T,T,T,T,T,T,T,T,T,T,F,F,F] rfl rfl (take_ofW HT_.out HW_.out (by kernel_rfl)) (fun _ _ _ h => h) (Or.inl ⟨by rfl, ?_⟩) hHeld ?_ ?_
     rotate_left
     ·rintro w' ⟨s0, s1, s2⟩
      go_simp
      with_reducible rfl
     rotate_left
     ·simp only [Act.put, List.setIfInBounds_toArray, List.set_cons_zero, List.set_cons_succ, i64_w, i32_w]
      rfl
     refine pure_ (i := 20) (N := some 77) (v := ?_) (a' := ?_) #[T,T,T,T,T,T,T,T,T,T,T,T,T,T,T,T,T,T,T,T,T,F,F] rfl rfl (any_of HT_.out (by kernel_rfl)) (fun _ _ _ h => h) (Or.inl ⟨by rfl, ?_⟩) ?_ ?_
     rotate_left
     ·intro w'
      go_simp
      with_reducible rfl
     rotate_left
     ·simp only [Act.put, List.setIfInBounds_toArray, List.set_cons_zero, List.set_cons_succ, i64_w, i32_w]
      rfl
     refine pure_ (i := 21) (N := some 78) (v := ?_) (a' := ?_) #[T,T,T,T,T,T,T,T,T,T,T,T,T,T,T,T,T,T,T,T,T,T,F] rfl rfl (any_of HT_.out (by kernel_rfl)) (fun _ _ _ h => h) (Or.inl ⟨by rfl, ?_⟩) ?_ ?_
     rotate_left
     ·intro w'
      go_simp
      with_reducible rfl
     rotate_left
     ·simp only [Act.put, List.setIfInBounds_toArray, List.set_cons_zero, List.set_cons_succ, i64_w, i32_w]
      rfl
     refine last_ (i := 22) (N := none) #[T,T,T,T,T,T,T,T,T,T,T,T,T,T,T,T,T,T,T,T,T,T,T] rfl rfl (one_of HT_.out (by kernel_rfl)) (by decide) (fun K hK => ?_)
     refine skip_ (w1 := ?ww1) (by rfl) rfl ?_ ?_
     rotate_left
     ·first | (go_simp; done) | (go_simp; rfl)
     refine hK.out _ _ ?_
     clear hK K
     refine done_ (done_of HT_.out (by kernel_rfl)) ?_
     obtain ⟨_, _, _, fin⟩ := row_at HO.out HB.out (of_eq_true e0) e1
     obtain ⟨V, hV⟩ : ∃ j_ : Int, wrap64 (wrap64 (2 * (if Xp < Xq then Xq else Xp)) - Xb) = j_ := ⟨_, rfl⟩
     have hmx : wrap64 (wrap64 (2 * mx Xp Xq) - Xb) = V := hV
     have H := H'.out
     clear H'
     rw [hmx] at H
     rw [hV]
     try generalize (if Xp < Xq then Xq else Xp) = M
     have H' := Az.mk H
     clear H
     have E1 := fin.out wd V (Drawn0.refl _)
     have HOE := Az.mk E1.1
     have HBE := Az.mk E1.2
     clear E1 fin hxb hfb hV hmx HO HB hHeld hxp hxq znb znp znq
     generalize (wd.setCell ⟨g, b.toNat, none⟩ (.int .i64 V)) = E at HOE HBE ⊢
     go_wp2_with (first
      | (go_at_call 46; refine (impl_letterText.calls _ s _ T3.out).mono ?_; rintro e W5 ⟨rfl, hb⟩; have HO5 := Az.mk (show Kd.R (Kd.int .i64) 3 W5 w.heap.size (fun _ => True) (.slice (some ⟨g, 0, none⟩) nO cO) (ys.set b.toNat V) from by first | exact Kd.R_below HOE.out hb | exact Kd.R_below (Kd.R_drewN HOE.out _) hb); have HB5 := Az.mk (show Below w.heap.size w W5 from by first | exact bwT HBE.out hb | exact bwT (pbN HBE.out _) hb); clear hb T3 HOE HBE))
     all_goals (go_roundg k2; (case measure => have := HK1.out; have := HK2.out; omega); (case rel => exact ⟨_, _, rfl, H', ⟨by have := HK1.out; have := HK2.out; omega⟩, ⟨by first | exact HO5.out | exact Kd.R_drewN HO5.out _⟩, ⟨by first | exact HB5.out | exact pbN HB5.out _⟩⟩))



end Go.Proofs.Ytjmgbaphlhimhaa.P
