-- By this session's driver (wip/tools/mk.py) of the kit's print program, over several statements at once. Not trusted: Lean checks it.
import Derived.Test.YtjmhcbilefnhdaaQPx0
import Derived.Test.YtjmhcbilefnhdaaQPx8
import Derived.Test.YtjmhcbilefnhdaaQPx9
import Derived.Test.YtjmhcbilefnhdaaQPx10
namespace Go.Proofs.Ytjmhcbilefnhdaa.P
open Go.RowKit Go.Proofs.YtjmhcbilefnhdaaW.PrintWords Go.Proofs.YtjmhcbilefnhdaaW.PrintLast Go.Proofs.YtjmhcbilefnhdaaW.PrintMore
attribute [local go_sem] max2_int min2_int max_two min_two max_three min_three max_four min_four   -- for this text's walks alone
set_option linter.unusedVariables false
set_option linter.unusedSimpArgs false

/-! ### impl_TriSurface: function 7 -/
def joiner_count.l0 : Nat → List Int → Int → Int → Option Int
 | 0, _, _, _ => none
 | k + 1, xs, n, i => if i < (xs.length : Int) then (if 0 ≤ i then (if i = rd xs i then joiner_count.l0 k xs (wrap64 (n + 1)) (wrap64 (i + 1)) else joiner_count.l0 k xs n (wrap64 (i + 1))) else none) else some n
theorem joiner_count.mono : ∀ k y0 y1 y2, LeO (joiner_count.l0 k y0 y1 y2) (joiner_count.l0 (k + 1) y0 y1 y2)
 | 0, y0, y1, y2 => fun r h => by simp [joiner_count.l0] at h
 | k + 1, y0, y1, y2 => by
  have ih0 := joiner_count.mono k
  unfold joiner_count.l0
  repeat' first
   | (with_reducible exact ih0 _ _ _)
   | (with_reducible exact LeO.refl _)
   | (with_reducible exact LeO.none _)
   | (with_reducible refine LeO.ite ?_ ?_)
set_option maxHeartbeats 8000000 in
set_option maxRecDepth 100000 in
theorem joiner_count.calls (k : Nat) (p : Addr) (A : Option Addr) (c : Nat) (xs : List Int) (r : Int) (w : World) (hp : w.cell? p = some (.slice A xs.length c)) (hr : Kd.C (Kd.int .i64) w A xs.length xs) (h : joiner_count.l0 k xs 0 0 = some r) :
  Calls Try.prog 20 #[.pointer (some p)] w fun e w' => e = .returned (.int .i64 r) ∧ Drawn0 w w' := by
 have HR := Az.mk hr
 have H' := Az.mk h
 clear hr h
 go_enter Try.func20, Try.ntmps20
 go_wp2
 go_loopg [3, 11] k (fun kq v3 v11 w' => ∃ n_1 i_1 : Int, v3 = .int .i64 n_1 ∧ v11 = .int .i64 i_1 ∧ Az (joiner_count.l0 kq xs n_1 i_1 = some r) ∧ Az (kq ≤ k) ∧ Drawn0 w w')
 case atStart => exact ⟨0, 0, rfl, rfl, H', ⟨Nat.le_refl _⟩, by repeat (first | exact Drawn0.refl _ | apply Drawn0.step)⟩
 case round =>
  clear H'
  obtain ⟨n_1, i_1, rfl, rfl, HA, HK1, ⟨m1, rfl⟩⟩ := hrel
  cases gk with
  | zero => exact absurd HA.out (by simp [joiner_count.l0])
  | succ k1 =>
   have H := HA.out
   clear HA
   simp only [joiner_count.l0] at H
   by_cases b2 : i_1 < (xs.length : Int)
   ·rw [if_pos b2] at H
    by_cases b1 : 0 ≤ i_1
    ·rw [if_pos b1] at H
     obtain ⟨ad, rfl, hx⟩ := Kd.at_int HR.out i_1 b1 b2
     have b2b := decide_eq_true b2
     replace b1 := eq_true b1
     replace b2 := eq_true b2
     obtain ⟨X, hX⟩ : ∃ j_ : Int, rd xs i_1 = j_ := ⟨_, rfl⟩
     rw [hX] at H hx
     clear hX
     by_cases b3 : i_1 = X
     ·rw [if_pos b3] at H
      have b3b : (i_1 == X) = true := beq_iff_eq.mpr b3
      clear b3
      have H' := Az.mk H
      clear H
      go_wp2
      go_roundg k1
      case measure => have := HK1.out; omega
      case rel => exact ⟨_, _, rfl, rfl, H', ⟨by have := HK1.out; omega⟩, by repeat (first | exact Drawn0.refl _ | apply Drawn0.step)⟩
     ·rw [if_neg b3] at H
      have b3b : (i_1 == X) = false := beq_eq_false_iff_ne.mpr b3
      clear b3
      have H' := Az.mk H
      clear H
      go_wp2
      go_roundg k1
      case measure => have := HK1.out; omega
      case rel => exact ⟨_, _, rfl, rfl, H', ⟨by have := HK1.out; omega⟩, by repeat (first | exact Drawn0.refl _ | apply Drawn0.step)⟩
    ·rw [if_neg b1] at H
     exact absurd H (by simp)
   ·rw [if_neg b2] at H
    have b2b : decide (i_1 < (xs.length : Int)) = false := decide_eq_false b2
    clear b2
    obtain rfl := Option.some.inj H
    go_wp2
    go_ret
    exact ⟨rfl, by repeat (first | exact Drawn0.refl _ | apply Drawn0.step)⟩
mutual
def impl_TriSurface.l0 : Nat → List (List Int) → List Int → Int → Option (List Int)
 | 0, _, _, _ => none
 | k + 1, t, xs, i => if i < (t.length : Int) then (if 0 ≤ i then (impl_TriSurface.l1 k t xs i 0) else none) else (some xs)
def impl_TriSurface.l1 : Nat → List (List Int) → List Int → Int → Int → Option (List Int)
 | 0, _, _, _, _ => none
 | k + 1, t, xs, i, j => if j < ((rd_L1 t i).length : Int) then (if 0 ≤ j then ((impl_sideAt.f k t (wrap64 (-(rd (rd_L1 t i) j)))).bind fun s => ((joiner_join.f k xs i s.1).bind fun ys => (impl_TriSurface.l1 k t ys i (wrap64 (j + 1))))) else none) else (impl_TriSurface.l0 k t xs (wrap64 (i + 1)))
end
def impl_TriSurface.g (k : Nat) (t : List (List Int)) (n : Int) : Option (Int × Int × Int × Int × Bool) := (impl_surfaceWith.f (wrap64 ((wrap64 (n - (wrap64 (Int.tdiv (wrap64 (3 * (t.length : Int))) 2)))) + (t.length : Int))) 0 true).bind fun s => (if s.2.2.2 = true then some (s.1, s.2.1, s.2.2.1, n, true) else some (0, 0, 0, 0, false))
def impl_TriSurface.h (k : Nat) (t : List (List Int)) (ys : List Int) : Option (Int × Int × Int × Int × Bool) := (joiner_count.l0 k ys 0 0).bind fun c => (if c = 1 then ((impl_vertices.f k t).bind fun vs => ((joiner_count.l0 k vs 0 0).bind fun n => impl_TriSurface.g k t n)) else some (0, 0, 0, 0, false))
def impl_TriSurface.f (k : Nat) (t : List (List Int)) : Option (Int × Int × Int × Int × Bool) := (impl_IsTriangulation.f k t).bind fun b => (if b = true then ((impl_newJoiner.l0 k (t.length : Int) [] 0).bind fun xs => ((impl_TriSurface.l0 k t xs 0).bind fun ys => impl_TriSurface.h k t ys)) else some (0, 0, 0, 0, false))
theorem impl_TriSurface.mono_l : ∀ k, (∀ y0 y1 y2, LeO (impl_TriSurface.l0 k y0 y1 y2) (impl_TriSurface.l0 (k + 1) y0 y1 y2)) ∧ (∀ y0 y1 y2 y3, LeO (impl_TriSurface.l1 k y0 y1 y2 y3) (impl_TriSurface.l1 (k + 1) y0 y1 y2 y3))
 | 0 => ⟨fun _ _ _ r h => by simp [impl_TriSurface.l0] at h, fun _ _ _ _ r h => by simp [impl_TriSurface.l1] at h⟩
 | k + 1 => by
  obtain ⟨ih0, ih1⟩ := impl_TriSurface.mono_l k
  refine ⟨?_, ?_⟩
  ·intro y0 y1 y2
   unfold impl_TriSurface.l0
   repeat' first
   | (with_reducible exact ih1 _ _ _ _)
   | (with_reducible exact LeO.refl _)
   | (with_reducible exact LeO.none _)
   | (with_reducible refine LeO.ite ?_ ?_)
   | (with_reducible refine LeO.bind ?_ (fun _ => ?_))
  ·intro y0 y1 y2 y3
   unfold impl_TriSurface.l1
   repeat' first
   | (with_reducible exact ih0 _ _ _)
   | (with_reducible exact ih1 _ _ _ _)
   | (with_reducible exact impl_sideAt.mono _ _ _)
   | (with_reducible exact joiner_join.mono _ _ _ _)
   | (with_reducible exact LeO.refl _)
   | (with_reducible exact LeO.none _)
   | (with_reducible refine LeO.ite ?_ ?_)
   | (with_reducible refine LeO.bind ?_ (fun _ => ?_))
theorem impl_TriSurface.mono : ∀ a0 k, LeO (impl_TriSurface.f k a0) (impl_TriSurface.f (k + 1) a0) := by
 intro a0 k
 unfold impl_TriSurface.f impl_TriSurface.h impl_TriSurface.g
 repeat' first
 | (with_reducible exact impl_IsTriangulation.mono _ _)
 | (with_reducible exact impl_newJoiner.mono _ _ _ _)
 | (with_reducible exact (impl_TriSurface.mono_l k).1 _ _ _)
 | (with_reducible exact joiner_count.mono _ _ _ _)
 | (with_reducible exact impl_vertices.mono _ _)
 | (with_reducible exact LeO.refl _)
 | (with_reducible exact LeO.none _)
 | (with_reducible refine LeO.ite ?_ ?_)
 | (with_reducible refine LeO.bind ?_ (fun _ => ?_))
set_option maxHeartbeats 8000000 in
set_option maxRecDepth 100000 in
theorem impl_TriSurface.calls (k : Nat) (A0 : Option Addr) (c0 : Nat) (l0 : List (List Int)) (r1 : Int) (r2 : Int) (r3 : Int) (r4 : Int) (r5 : Bool) (w : World) (hr0 : Kd.C (Kd.slice 3 (Kd.int .i64)) w A0 l0.length l0) (hc0 : l0.length ≤ c0) (h : impl_TriSurface.f k l0 = some (r1, r2, r3, r4, r5)) :
  Calls Try.prog 7 #[.slice A0 l0.length c0] w fun e w' => e = .returned (.tuple #[.agg #[.int .i64 r1, .int .i64 r2, .int .i64 r3], .int .i64 r4, .bool r5]) ∧ Below w.heap.size w w' := by
 have hu25 := Try.underlying25
 have HR0 := Az.mk hr0
 have HC0 := Az.mk hc0
 clear hr0 hc0
 unfold impl_TriSurface.f at h
 obtain ⟨b, T0, h⟩ := Option.bind_eq_some_iff.mp h
 have T0 := Az.mk T0
 have HB := Az.mk (Below.refl w.heap.size w)
 by_cases p1 : b = true
 ·rw [if_pos p1] at h
  subst p1
  obtain ⟨ns, T1, h⟩ := Option.bind_eq_some_iff.mp h
  obtain ⟨fs, T2, h⟩ := Option.bind_eq_some_iff.mp h
  have T1 := Az.mk T1
  have H' := Az.mk T2
  have HE := Az.mk h
  clear h T2
  go_enter Try.func7, Try.ntmps7
  go_wp2_with (first
   | ((with_reducible refine gtD (N := 2) rfl ?_); refine bxE ?hg (N := 2) ?hd (cs := #[.int .i64 0, .int .i64 0, .int .i64 0]) (t := 25) ?hr ?_; (case hd => rfl); (case hg => rfl); (case hr => first | (go_simp; done) | (go_simp; rfl)); intro g1 hg w1 hbox hb; have BK1 := Az.mk hbox; have GE1 := Az.mk (Nat.le_of_eq hg.symm : w.heap.size ≤ g1); have HB1 := Az.mk hb; clear hb hbox hg)
   | (go_at_call 16; refine (impl_IsTriangulation.calls k _ c0 l0 true _ (by first | exact Kd.C_drewN (Kd.C_below HR0.out HB1.out) _ | exact Kd.C_below HR0.out HB1.out) HC0.out T0.out).mono ?_; rintro e w2 ⟨rfl, hb⟩; have BK2 := Az.mk (bkB (by first | exact bkN BK1.out _ | exact BK1.out) hb); have HB2 := Az.mk (bwT (by first | exact HB1.out | exact pbN HB1.out _) hb); clear hb T0)
   | (go_at_call 17; refine (impl_newJoiner.calls k _ ns w2 _ (by first | exact Below.refl _ _ | exact pbN (Below.refl _ _) _) T1.out).mono ?_; rintro e W1 ⟨p, AJ, cJ, rfl, hj, hb, _⟩; have HJ1 := Az.mk hj; have HBW := Az.mk hb; clear hj hb T1))
  go_loopg [24] k (fun kq v24 w' => ∃ (xs_1 : List Int) (i_1 : Int), v24 = .int .i64 i_1 ∧ Az (impl_TriSurface.l0 kq l0 xs_1 i_1 = some fs) ∧ Az (kq ≤ k) ∧ Az (Jn w' w2.heap.size p AJ cJ xs_1) ∧ Az (Below w2.heap.size w2 w'))
  case atStart => exact ⟨ns, 0, rfl, H', ⟨Nat.le_refl _⟩, HJ1, HBW⟩
  case round =>
   clear H' HB HJ1 HBW
   obtain ⟨xs_1, i_1, rfl, HA, HK1, HJ, HB⟩ := hrel
   cases gk with
   | zero => exact absurd HA.out (by simp [impl_TriSurface.l0])
   | succ k1 =>
    have H := HA.out
    clear HA
    simp only [impl_TriSurface.l0] at H
    by_cases b2 : i_1 < (l0.length : Int)
    ·rw [if_pos b2] at H
     by_cases b1 : 0 ≤ i_1
     ·rw [if_pos b1] at H
      obtain ⟨ad, A1, c1, e1, hx1, hl1, hi1⟩ := at_L1 HR0.out i_1 b1 b2
      subst e1
      replace hx1 := ((bwT HB2.out HB.out).cell (World.block_lt_of_cell? w _ hx1)).trans hx1
      have HR1 := Az.mk hi1
      have HC1 := Az.mk hl1
      clear hi1 hl1
      have H' := Az.mk H
      clear H
      have b2b := decide_eq_true b2
      replace b1 := eq_true b1
      replace b2 := eq_true b2
      go_wp2
      go_loopg [31] k1 (fun kq v31 w' => ∃ (xs_2 : List Int) (j_1 : Int), v31 = .int .i64 j_1 ∧ Az (impl_TriSurface.l1 kq l0 xs_2 i_1 j_1 = some fs) ∧ Az (kq ≤ k1) ∧ Az (Jn w' w2.heap.size p AJ cJ xs_2) ∧ Az (Below w2.heap.size w2 w'))
      case atStart => exact ⟨xs_1, 0, rfl, H', ⟨Nat.le_refl _⟩, HJ, HB⟩
      case round =>
       clear H' HJ HB hx1
       obtain ⟨xs_2, j_1, rfl, HA, HK2, HJ, HB⟩ := hrel
       cases gk with
       | zero => exact absurd HA.out (by simp [impl_TriSurface.l1])
       | succ k2 =>
        have H := HA.out
        clear HA
        simp only [impl_TriSurface.l1] at H
        by_cases d2 : j_1 < ((rd_L1 l0 i_1).length : Int)
        ·rw [if_pos d2] at H
         by_cases d1 : 0 ≤ j_1
         ·rw [if_pos d1] at H
          obtain ⟨⟨s1, s2⟩, T1, H⟩ := Option.bind_eq_some_iff.mp H
          obtain ⟨ys, T2, H⟩ := Option.bind_eq_some_iff.mp H
          obtain ⟨ad2, e2, hx2⟩ := Kd.at_int HR1.out j_1 d1 d2
          subst e2
          replace hx2 := ((bwT HB2.out HB.out).cell (World.block_lt_of_cell? w _ hx2)).trans hx2
          obtain ⟨X, hX⟩ : ∃ j_ : Int, rd (rd_L1 l0 i_1) j_1 = j_ := ⟨_, rfl⟩
          rw [hX] at T1 hx2
          clear hX
          have T1 := Az.mk T1
          have T2 := Az.mk T2
          have H' := Az.mk H
          clear H
          have d2b := decide_eq_true d2
          replace d1 := eq_true d1
          replace d2 := eq_true d2
          go_wp2_with (first
           | (go_at_call 18; refine (impl_sideAt.calls k2 _ c0 l0 _ s1 s2 _ (by first | exact Kd.C_drewN (Kd.C_below HR0.out (bwT HB2.out HB.out)) _ | exact Kd.C_below HR0.out (bwT HB2.out HB.out)) HC0.out T1.out).mono ?_; rintro e w' ⟨rfl, ⟨nd1, rfl⟩⟩; clear T1)
           | (go_at_call 19; refine (joiner_join.calls k2 p AJ cJ xs_2 ys _ _ w2 _ (by first | exact pbN HB.out _ | exact HB.out) (by first | exact HJ.out.drewN _ | exact HJ.out) T2.out).mono ?_; rintro e W2 ⟨rfl, hj, hb⟩; clear T2 HB HJ; have HJ2 := Az.mk hj; have HB3 := Az.mk hb; clear hj hb))
          go_roundg k2
          case measure => have := HK1.out; have := HK2.out; omega
          case rel => exact ⟨ys, _, rfl, H', ⟨by have := HK2.out; omega⟩, HJ2, HB3⟩
         ·rw [if_neg d1] at H
          exact absurd H (by simp)
        ·rw [if_neg d2] at H
         have d2b : decide (j_1 < ((rd_L1 l0 i_1).length : Int)) = false := decide_eq_false d2
         clear d2
         have H' := Az.mk H
         clear H
         go_wp2
         go_roundg k2
         case measure => have := HK1.out; have := HK2.out; omega
         case rel => exact ⟨xs_2, _, rfl, H', ⟨by have := HK1.out; have := HK2.out; omega⟩, HJ, HB⟩
     ·rw [if_neg b1] at H
      exact absurd H (by simp)
    ·rw [if_neg b2] at H
     have b2b : decide (i_1 < (l0.length : Int)) = false := decide_eq_false b2
     clear b2
     obtain rfl := Option.some.inj H
     clear H
     have h := HE.out
     clear HE HB1 BK1
     unfold impl_TriSurface.h at h
     obtain ⟨c, T2, h⟩ := Option.bind_eq_some_iff.mp h
     have T2 := Az.mk T2
     by_cases q1 : c = 1
     ·rw [if_pos q1] at h
      subst q1
      obtain ⟨vs, T3, h⟩ := Option.bind_eq_some_iff.mp h
      obtain ⟨n, T4, h⟩ := Option.bind_eq_some_iff.mp h
      unfold impl_TriSurface.g at h
      obtain ⟨⟨s1, s2, s3, s4⟩, T5, h⟩ := Option.bind_eq_some_iff.mp h
      have T3 := Az.mk T3
      have T4 := Az.mk T4
      have T5 := Az.mk T5
      have HBt := Az.mk (bwT HB2.out HB.out)
      have BK := Az.mk (bkB BK2.out HB.out)
      cases s4 with
      | true =>
       rw [if_pos rfl] at h; have h := Option.some.inj h
       simp only [Prod.mk.injEq] at h
       obtain ⟨rfl, rfl, rfl, rfl, rfl⟩ := h
       go_wp2_with (first
        | (go_at_call 20; refine (joiner_count.calls k ⟨p, 0, none⟩ AJ cJ xs_1 1 _ (by first | exact (HJ.out.drewN _).cell | exact HJ.out.cell) (by first | exact (HJ.out.drewN _).C | exact HJ.out.C) T2.out).mono ?_; rintro e w' ⟨rfl, ⟨nd1, rfl⟩⟩; clear T2)
        | (go_at_call 21; refine (impl_vertices.calls k _ c0 l0 vs _ (by first | exact Kd.C_drewN (Kd.C_below HR0.out HBt.out) _ | exact Kd.C_drewN (Kd.C_drewN (Kd.C_below HR0.out HBt.out) _) _ | exact Kd.C_below HR0.out HBt.out) HC0.out T3.out).mono ?_; rintro e W3 ⟨p3, A3, c3, rfl, hj3, hb3⟩; have HJ3 := Az.mk hj3; have BK3 := Az.mk (bkB (by first | exact bkN BK.out _ | exact bkN (bkN BK.out _) _ | exact BK.out) hb3); have HB3 := Az.mk (bwT (by first | exact HBt.out | exact pbN HBt.out _ | exact pbN (pbN HBt.out _) _) hb3); clear hj3 hb3 T3)
        | (go_at_call 20; refine (joiner_count.calls k ⟨p3, 0, none⟩ A3 c3 vs n _ (by first | exact (HJ3.out.drewN _).cell | exact HJ3.out.cell) (by first | exact (HJ3.out.drewN _).C | exact HJ3.out.C) T4.out).mono ?_; rintro e w' ⟨rfl, ⟨nd2, rfl⟩⟩; clear T4)
        | (go_at_call 22; refine (impl_surfaceWith.calls _ _ _ s1 s2 s3 true _ T5.out).mono ?_; rintro e w4 ⟨rfl, hb⟩; have BK4 := Az.mk (bkB (g := g1) (o := .cells #[.int .i64 0, .int .i64 0, .int .i64 0] 25 (0, 0)) (by (with_reducible repeat (first | refine bkN ?_ _ | refine bkD ?_ | refine bkA ?_ _)); exact BK3.out) hb); have HB4 := Az.mk (bwT (by repeat (first | (with_reducible first | exact HB3.out | apply bwA | apply pbN | apply bwD) | exact HB3.out)) hb); clear hb T5)
        | ((with_reducible refine gtD (N := 13) rfl ?_); refine bxE ?hg (N := 13) ?hd (cs := #[.int .i64 0, .int .i64 0, .int .i64 0]) (t := 25) ?hr ?_; (case hd => rfl); (case hg => rfl); (case hr => first | (go_simp; done) | (go_simp; rfl)); intro g2 hg w5 hbox hb; have NB12 := Az.mk ((by rw [hg]; exact Nat.ne_of_lt (blk_lt (g := g1) (o := .cells #[.int .i64 0, .int .i64 0, .int .i64 0] 25 (0, 0)) (by (with_reducible repeat (first | refine bkN ?_ _ | refine bkD ?_ | refine bkA ?_ _)); exact BK4.out))) : g1 ≠ g2); have GE2 := Az.mk ((by rw [hg]; exact bwZ (by repeat (first | (with_reducible first | exact HB4.out | apply bwA | apply pbN | apply bwD) | exact HB4.out))) : w.heap.size ≤ g2); have BK5 := Az.mk (bkB (g := g1) (o := .cells #[.int .i64 0, .int .i64 0, .int .i64 0] 25 (0, 0)) (by (with_reducible repeat (first | refine bkN ?_ _ | refine bkD ?_ | refine bkA ?_ _)); exact BK4.out) hb); have CK5 := Az.mk hbox; have HB5 := Az.mk (bwT (by repeat (first | (with_reducible first | exact HB4.out | apply bwA | apply pbN | apply bwD) | exact HB4.out)) hb); clear hb hbox hg; have hnb := NB12.out; have hnc := NB12.out.symm; have hcza0 := (bkC BK5.out 0).trans rfl; have hcza1 := (bkC BK5.out 1).trans rfl; have hcza2 := (bkC BK5.out 2).trans rfl; have hfza0 := bkF BK5.out 0; have hfza1 := bkF BK5.out 1; have hfza2 := bkF BK5.out 2; have hczb0 := (bkC CK5.out 0).trans rfl; have hczb1 := (bkC CK5.out 1).trans rfl; have hczb2 := (bkC CK5.out 2).trans rfl; have hfzb0 := bkF CK5.out 0; have hfzb1 := bkF CK5.out 1; have hfzb2 := bkF CK5.out 2))
       refine bodyPost_ret (results_ctt rfl _ _ g1 25 #[.int .i64 s1, .int .i64 s2, .int .i64 s3] (0, 0) _ rfl (by (with_reducible repeat (first | refine bkN ?_ _ | refine bkD ?_ | refine bkA ?_ _)); refine bkp (cs := #[.int .i64 s1, .int .i64 s2, .int .i64 0]) ?_ 2 _ rfl; (with_reducible repeat (first | refine bkN ?_ _ | refine bkD ?_ | refine bkA ?_ _)); refine bkp (cs := #[.int .i64 s1, .int .i64 0, .int .i64 0]) ?_ 1 _ rfl; (with_reducible repeat (first | refine bkN ?_ _ | refine bkD ?_ | refine bkA ?_ _)); refine bkp (cs := #[.int .i64 0, .int .i64 0, .int .i64 0]) ?_ 0 _ rfl; (with_reducible repeat (first | refine bkN ?_ _ | refine bkD ?_ | refine bkA ?_ _)); refine bkf ?_ NB12.out _; (with_reducible repeat (first | refine bkN ?_ _ | refine bkD ?_ | refine bkA ?_ _)); refine bkf ?_ NB12.out _; (with_reducible repeat (first | refine bkN ?_ _ | refine bkD ?_ | refine bkA ?_ _)); refine bkf ?_ NB12.out _; (with_reducible repeat (first | refine bkN ?_ _ | refine bkD ?_ | refine bkA ?_ _)); exact BK5.out) Try.underlying25 rfl (by kernel_rfl)) rfl ?_
       exact ⟨rfl, by repeat (first | (with_reducible first | exact HB5.out | apply bwA | apply pbN | apply bwD | refine bwS ?_ GE1.out | refine bwS ?_ GE2.out) | exact HB5.out)⟩
      | false =>
       rw [if_neg (by simp)] at h; have h := Option.some.inj h
       simp only [Prod.mk.injEq] at h
       obtain ⟨rfl, rfl, rfl, rfl, rfl⟩ := h
       go_wp2_with (first
        | (go_at_call 20; refine (joiner_count.calls k ⟨p, 0, none⟩ AJ cJ xs_1 1 _ (by first | exact (HJ.out.drewN _).cell | exact HJ.out.cell) (by first | exact (HJ.out.drewN _).C | exact HJ.out.C) T2.out).mono ?_; rintro e w' ⟨rfl, ⟨nd1, rfl⟩⟩; clear T2)
        | (go_at_call 21; refine (impl_vertices.calls k _ c0 l0 vs _ (by first | exact Kd.C_drewN (Kd.C_below HR0.out HBt.out) _ | exact Kd.C_drewN (Kd.C_drewN (Kd.C_below HR0.out HBt.out) _) _ | exact Kd.C_below HR0.out HBt.out) HC0.out T3.out).mono ?_; rintro e W3 ⟨p3, A3, c3, rfl, hj3, hb3⟩; have HJ3 := Az.mk hj3; have BK3 := Az.mk (bkB (by first | exact bkN BK.out _ | exact bkN (bkN BK.out _) _ | exact BK.out) hb3); have HB3 := Az.mk (bwT (by first | exact HBt.out | exact pbN HBt.out _ | exact pbN (pbN HBt.out _) _) hb3); clear hj3 hb3 T3)
        | (go_at_call 20; refine (joiner_count.calls k ⟨p3, 0, none⟩ A3 c3 vs n _ (by first | exact (HJ3.out.drewN _).cell | exact HJ3.out.cell) (by first | exact (HJ3.out.drewN _).C | exact HJ3.out.C) T4.out).mono ?_; rintro e w' ⟨rfl, ⟨nd2, rfl⟩⟩; clear T4)
        | (go_at_call 22; refine (impl_surfaceWith.calls _ _ _ s1 s2 s3 false _ T5.out).mono ?_; rintro e w4 ⟨rfl, hb⟩; have BK4 := Az.mk (bkB (g := g1) (o := .cells #[.int .i64 0, .int .i64 0, .int .i64 0] 25 (0, 0)) (by (with_reducible repeat (first | refine bkN ?_ _ | refine bkD ?_ | refine bkA ?_ _)); exact BK3.out) hb); have HB4 := Az.mk (bwT (by repeat (first | (with_reducible first | exact HB3.out | apply bwA | apply pbN | apply bwD) | exact HB3.out)) hb); clear hb T5)
        | ((with_reducible refine gtD (N := 13) rfl ?_); refine bxE ?hg (N := 13) ?hd (cs := #[.int .i64 0, .int .i64 0, .int .i64 0]) (t := 25) ?hr ?_; (case hd => rfl); (case hg => rfl); (case hr => first | (go_simp; done) | (go_simp; rfl)); intro g2 hg w5 hbox hb; have NB12 := Az.mk ((by rw [hg]; exact Nat.ne_of_lt (blk_lt (g := g1) (o := .cells #[.int .i64 0, .int .i64 0, .int .i64 0] 25 (0, 0)) (by (with_reducible repeat (first | refine bkN ?_ _ | refine bkD ?_ | refine bkA ?_ _)); exact BK4.out))) : g1 ≠ g2); have GE2 := Az.mk ((by rw [hg]; exact bwZ (by repeat (first | (with_reducible first | exact HB4.out | apply bwA | apply pbN | apply bwD) | exact HB4.out))) : w.heap.size ≤ g2); have BK5 := Az.mk (bkB (g := g1) (o := .cells #[.int .i64 0, .int .i64 0, .int .i64 0] 25 (0, 0)) (by (with_reducible repeat (first | refine bkN ?_ _ | refine bkD ?_ | refine bkA ?_ _)); exact BK4.out) hb); have CK5 := Az.mk hbox; have HB5 := Az.mk (bwT (by repeat (first | (with_reducible first | exact HB4.out | apply bwA | apply pbN | apply bwD) | exact HB4.out)) hb); clear hb hbox hg; have hnb := NB12.out; have hnc := NB12.out.symm; have hcza0 := (bkC BK5.out 0).trans rfl; have hcza1 := (bkC BK5.out 1).trans rfl; have hcza2 := (bkC BK5.out 2).trans rfl; have hfza0 := bkF BK5.out 0; have hfza1 := bkF BK5.out 1; have hfza2 := bkF BK5.out 2; have hczb0 := (bkC CK5.out 0).trans rfl; have hczb1 := (bkC CK5.out 1).trans rfl; have hczb2 := (bkC CK5.out 2).trans rfl; have hfzb0 := bkF CK5.out 0; have hfzb1 := bkF CK5.out 1; have hfzb2 := bkF CK5.out 2))
       refine bodyPost_ret (results_ctt rfl _ _ g1 25 #[.int .i64 0, .int .i64 0, .int .i64 0] (0, 0) _ rfl (by (with_reducible repeat (first | refine bkN ?_ _ | refine bkD ?_ | refine bkA ?_ _)); refine bkp (cs := #[.int .i64 0, .int .i64 0, .int .i64 0]) ?_ 2 _ rfl; (with_reducible repeat (first | refine bkN ?_ _ | refine bkD ?_ | refine bkA ?_ _)); refine bkp (cs := #[.int .i64 0, .int .i64 0, .int .i64 0]) ?_ 1 _ rfl; (with_reducible repeat (first | refine bkN ?_ _ | refine bkD ?_ | refine bkA ?_ _)); refine bkp (cs := #[.int .i64 0, .int .i64 0, .int .i64 0]) ?_ 0 _ rfl; (with_reducible repeat (first | refine bkN ?_ _ | refine bkD ?_ | refine bkA ?_ _)); refine bkf ?_ NB12.out _; (with_reducible repeat (first | refine bkN ?_ _ | refine bkD ?_ | refine bkA ?_ _)); refine bkf ?_ NB12.out _; (with_reducible repeat (first | refine bkN ?_ _ | refine bkD ?_ | refine bkA ?_ _)); refine bkf ?_ NB12.out _; (with_reducible repeat (first | refine bkN ?_ _ | refine bkD ?_ | refine bkA ?_ _)); exact BK5.out) Try.underlying25 rfl (by kernel_rfl)) rfl ?_
       exact ⟨rfl, by repeat (first | (with_reducible first | exact HB5.out | apply bwA | apply pbN | apply bwD | refine bwS ?_ GE1.out | refine bwS ?_ GE2.out) | exact HB5.out)⟩
     ·rw [if_neg q1] at h
      have h := Option.some.inj h
      simp only [Prod.mk.injEq] at h
      obtain ⟨rfl, rfl, rfl, rfl, rfl⟩ := h
      have q1b : (c != 1) = true := bne_iff_ne.mpr q1
      clear q1
      have BK := Az.mk (bkB BK2.out HB.out)
      have HBt := Az.mk (bwT HB2.out HB.out)
      go_wp2_with (first
       | (go_at_call 20; refine (joiner_count.calls k ⟨p, 0, none⟩ AJ cJ xs_1 c _ (by first | exact (HJ.out.drewN _).cell | exact HJ.out.cell) (by first | exact (HJ.out.drewN _).C | exact HJ.out.C) T2.out).mono ?_; rintro e w' ⟨rfl, ⟨nd1, rfl⟩⟩; clear T2; have hcz0 := (bkC BK.out 0).trans rfl; have hcz1 := (bkC BK.out 1).trans rfl; have hcz2 := (bkC BK.out 2).trans rfl; have hfz0 := bkF BK.out 0; have hfz1 := bkF BK.out 1; have hfz2 := bkF BK.out 2))
      refine bodyPost_ret (results_ctt rfl _ _ g1 25 #[.int .i64 0, .int .i64 0, .int .i64 0] (0, 0) _ rfl (by (with_reducible repeat (first | refine bkN ?_ _ | refine bkD ?_ | refine bkA ?_ _)); refine bkp (cs := #[.int .i64 0, .int .i64 0, .int .i64 0]) ?_ 2 _ rfl; (with_reducible repeat (first | refine bkN ?_ _ | refine bkD ?_ | refine bkA ?_ _)); refine bkp (cs := #[.int .i64 0, .int .i64 0, .int .i64 0]) ?_ 1 _ rfl; (with_reducible repeat (first | refine bkN ?_ _ | refine bkD ?_ | refine bkA ?_ _)); refine bkp (cs := #[.int .i64 0, .int .i64 0, .int .i64 0]) ?_ 0 _ rfl; (with_reducible repeat (first | refine bkN ?_ _ | refine bkD ?_ | refine bkA ?_ _)); exact BK.out) Try.underlying25 rfl (by kernel_rfl)) rfl ?_
      exact ⟨rfl, by repeat (first | (with_reducible first | exact HBt.out | apply bwA | apply pbN | apply bwD | refine bwS ?_ GE1.out) | exact HBt.out)⟩
 ·rw [if_neg p1] at h
  replace p1 := Bool.eq_false_iff.mpr p1
  subst p1
  have h := Option.some.inj h
  simp only [Prod.mk.injEq] at h
  obtain ⟨rfl, rfl, rfl, rfl, rfl⟩ := h
  go_enter Try.func7, Try.ntmps7
  go_wp2_with (first
   | ((with_reducible refine gtD (N := 2) rfl ?_); refine bxE ?hg (N := 2) ?hd (cs := #[.int .i64 0, .int .i64 0, .int .i64 0]) (t := 25) ?hr ?_; (case hd => rfl); (case hg => rfl); (case hr => first | (go_simp; done) | (go_simp; rfl)); intro g1 hg w1 hbox hb; have BK1 := Az.mk hbox; have GE1 := Az.mk (Nat.le_of_eq hg.symm : w.heap.size ≤ g1); have HB1 := Az.mk hb; clear hb hbox hg)
   | (go_at_call 16; refine (impl_IsTriangulation.calls k _ c0 l0 false _ (by first | exact Kd.C_drewN (Kd.C_below HR0.out HB1.out) _ | exact Kd.C_below HR0.out HB1.out) HC0.out T0.out).mono ?_; rintro e w2 ⟨rfl, hb⟩; have BK2 := Az.mk (bkB (by first | exact bkN BK1.out _ | exact BK1.out) hb); have HB2 := Az.mk (bwT (by first | exact HB1.out | exact pbN HB1.out _) hb); clear hb T0; have hcz0 := (bkC BK2.out 0).trans rfl; have hcz1 := (bkC BK2.out 1).trans rfl; have hcz2 := (bkC BK2.out 2).trans rfl; have hfz0 := bkF BK2.out 0; have hfz1 := bkF BK2.out 1; have hfz2 := bkF BK2.out 2))
  refine bodyPost_ret (results_ctt rfl _ _ g1 25 #[.int .i64 0, .int .i64 0, .int .i64 0] (0, 0) _ rfl (by (with_reducible repeat (first | refine bkN ?_ _ | refine bkD ?_ | refine bkA ?_ _)); refine bkp (cs := #[.int .i64 0, .int .i64 0, .int .i64 0]) ?_ 2 _ rfl; (with_reducible repeat (first | refine bkN ?_ _ | refine bkD ?_ | refine bkA ?_ _)); refine bkp (cs := #[.int .i64 0, .int .i64 0, .int .i64 0]) ?_ 1 _ rfl; (with_reducible repeat (first | refine bkN ?_ _ | refine bkD ?_ | refine bkA ?_ _)); refine bkp (cs := #[.int .i64 0, .int .i64 0, .int .i64 0]) ?_ 0 _ rfl; (with_reducible repeat (first | refine bkN ?_ _ | refine bkD ?_ | refine bkA ?_ _)); exact BK2.out) Try.underlying25 rfl (by kernel_rfl)) rfl ?_
  exact ⟨rfl, by repeat (first | (with_reducible first | exact HB2.out | apply bwA | apply pbN | apply bwD | refine bwS ?_ GE1.out) | exact HB2.out)⟩

/-! ### laws_eqSurface: function 8 -/
def laws_eqSurface.f (a0_0 : Int) (a0_1 : Int) (a0_2 : Int) (a1_0 : Int) (a1_1 : Int) (a1_2 : Int) : Option (Bool) := if a0_0 = a1_0 then (if a0_1 = a1_1 then (if a0_2 = a1_2 then (some true) else (some false)) else (some false)) else (some false)
set_option maxHeartbeats 8000000 in
set_option maxRecDepth 100000 in
theorem laws_eqSurface.calls (a0_0 : Int) (a0_1 : Int) (a0_2 : Int) (a1_0 : Int) (a1_1 : Int) (a1_2 : Int) (r : Bool) (w : World) (h : laws_eqSurface.f a0_0 a0_1 a0_2 a1_0 a1_1 a1_2 = some r) :
  Calls Try.prog 8 #[.agg #[.int .i64 a0_0, .int .i64 a0_1, .int .i64 a0_2], .agg #[.int .i64 a1_0, .int .i64 a1_1, .int .i64 a1_2]] w fun e w' => e = .returned (.bool r) ∧ Below w.heap.size w w' := by
 have hu25 := Try.underlying25
 have HB := Az.mk (Below.refl w.heap.size w)
 have H : (if a0_0 = a1_0 then (if a0_1 = a1_1 then (if a0_2 = a1_2 then (some true) else (some false)) else (some false)) else (some false)) = some r := h
 clear h
 by_cases c3 : a0_0 = a1_0
 ·rw [if_pos c3] at H
  have c3b0 : (a0_0 == a1_0) = true := beq_iff_eq.mpr c3
  have c3b1 : (a0_0 != a1_0) = false := bne_eq_false_iff_eq.mpr c3
  clear c3
  by_cases c4 : a0_1 = a1_1
  ·rw [if_pos c4] at H
   have c4b0 : (a0_1 == a1_1) = true := beq_iff_eq.mpr c4
   have c4b1 : (a0_1 != a1_1) = false := bne_eq_false_iff_eq.mpr c4
   clear c4
   by_cases c5 : a0_2 = a1_2
   ·rw [if_pos c5] at H
    have c5b0 : (a0_2 == a1_2) = true := beq_iff_eq.mpr c5
    have c5b1 : (a0_2 != a1_2) = false := bne_eq_false_iff_eq.mpr c5
    clear c5
    obtain rfl := Option.some.inj H
    go_enter Try.func8, Try.ntmps8
    go_wp2_with (first | ((with_reducible refine gtD (N := 2) rfl ?_); refine bxE ?hg (N := 2) ?hd (cs := #[.int .i64 a0_0, .int .i64 a0_1, .int .i64 a0_2]) (t := 25) ?hr ?_; (case hd => rfl); (case hg => rfl); (case hr => first | (go_simp; done) | (go_simp; rfl)); intro gb179 hg w6 hbox hb; have n0_ := Az.mk (bwT (by repeat (first | (with_reducible first | exact HB.out | apply bwA | apply pbN | apply bwD) | exact HB.out)) hb); have n1_ := Az.mk (hbox); have n2_ := Az.mk ((by rw [hg]; exact (bwZ (by repeat (first | (with_reducible first | exact HB.out | apply bwA | apply pbN | apply bwD) | exact HB.out))) : w.heap.size ≤ gb179)); have n3_ := Az.mk ((by rw [hg]; exact (bwZ (by repeat (first | (with_reducible first | exact HB.out | apply bwA | apply pbN | apply bwD) | exact HB.out))) : w.heap.size ≤ gb179)); clear HB; have HB := n0_; have BK179 := n1_; have GW179 := n2_; have GE179 := n3_; clear n0_ n1_ n2_ n3_; clear hb hbox hg) | ((with_reducible refine gtD (N := 3) rfl ?_); refine bxE ?hg (N := 3) ?hd (cs := #[.int .i64 a1_0, .int .i64 a1_1, .int .i64 a1_2]) (t := 25) ?hr ?_; (case hd => rfl); (case hg => rfl); (case hr => first | (go_simp; done) | (go_simp; rfl)); intro gb180 hg w7 hbox hb; have n0_ := Az.mk (bkB (g := gb179) (o := .cells #[.int .i64 a0_0, .int .i64 a0_1, .int .i64 a0_2] 25 (0, 0)) (by (with_reducible repeat (first | refine bkN ?_ _ | refine bkD ?_ | refine bkA ?_ _)); exact BK179.out) hb); have n1_ := Az.mk (bwT (by repeat (first | (with_reducible first | exact HB.out | apply bwA | apply pbN | apply bwD | refine bwS ?_ GE179.out) | exact HB.out)) hb); have n2_ := Az.mk (hbox); have n3_ := Az.mk ((by rw [hg]; exact (bwZ (by repeat (first | (with_reducible first | exact HB.out | apply bwA | apply pbN | apply bwD | refine bwS ?_ GE179.out) | exact HB.out))) : w.heap.size ≤ gb180)); have n4_ := Az.mk ((by rw [hg]; exact (bwZ (by repeat (first | (with_reducible first | exact HB.out | apply bwA | apply pbN | apply bwD | refine bwS ?_ GE179.out) | exact HB.out))) : w.heap.size ≤ gb180)); have n5_ := Az.mk ((by rw [hg]; exact Nat.ne_of_lt (blk_lt (g := gb179) (o := .cells #[.int .i64 a0_0, .int .i64 a0_1, .int .i64 a0_2] 25 (0, 0)) (by (with_reducible repeat (first | refine bkN ?_ _ | refine bkD ?_ | refine bkA ?_ _)); exact BK179.out)) : gb179 ≠ gb180)); have n6_ := Az.mk ((by rw [hg]; exact Nat.ne_of_gt (blk_lt (g := gb179) (o := .cells #[.int .i64 a0_0, .int .i64 a0_1, .int .i64 a0_2] 25 (0, 0)) (by (with_reducible repeat (first | refine bkN ?_ _ | refine bkD ?_ | refine bkA ?_ _)); exact BK179.out)) : gb180 ≠ gb179)); clear BK179; clear HB; have BK179 := n0_; have HB := n1_; have BK180 := n2_; have GW180 := n3_; have GE180 := n4_; have NB179_180 := n5_; have NB180_179 := n6_; clear n0_ n1_ n2_ n3_ n4_ n5_ n6_; clear hb hbox hg; have hnb8 := NB179_180.out; have hnc8 := NB180_179.out; have hcz9_0 : w7.cell? ⟨gb179, 0, none⟩ = some (.int .i64 a0_0) := (bkC BK179.out 0).trans rfl; have hcz9_1 : w7.cell? ⟨gb179, 1, none⟩ = some (.int .i64 a0_1) := (bkC BK179.out 1).trans rfl; have hcz9_2 : w7.cell? ⟨gb179, 2, none⟩ = some (.int .i64 a0_2) := (bkC BK179.out 2).trans rfl; have hfz9_0 := bkF BK179.out 0; have hfz9_1 := bkF BK179.out 1; have hfz9_2 := bkF BK179.out 2; have hcz10_0 : w7.cell? ⟨gb180, 0, none⟩ = some (.int .i64 a1_0) := (bkC BK180.out 0).trans rfl; have hcz10_1 : w7.cell? ⟨gb180, 1, none⟩ = some (.int .i64 a1_1) := (bkC BK180.out 1).trans rfl; have hcz10_2 : w7.cell? ⟨gb180, 2, none⟩ = some (.int .i64 a1_2) := (bkC BK180.out 2).trans rfl; have hfz10_0 := bkF BK180.out 0; have hfz10_1 := bkF BK180.out 1; have hfz10_2 := bkF BK180.out 2))
    go_ret
    exact ⟨by first | rfl | (simp [eWn, eWs] <;> rfl) | (simp [*, eWn, eWs] <;> rfl), by repeat (first | (with_reducible first | exact HB.out | apply bwA | apply pbN | apply bwD | refine bwS ?_ GE179.out | refine bwS ?_ GE180.out) | exact HB.out)⟩
   ·rw [if_neg c5] at H
    have c5b0 : (a0_2 == a1_2) = false := beq_eq_false_iff_ne.mpr c5
    have c5b1 : (a0_2 != a1_2) = true := bne_iff_ne.mpr c5
    obtain rfl := Option.some.inj H
    go_enter Try.func8, Try.ntmps8
    go_wp2_with (first | ((with_reducible refine gtD (N := 2) rfl ?_); refine bxE ?hg (N := 2) ?hd (cs := #[.int .i64 a0_0, .int .i64 a0_1, .int .i64 a0_2]) (t := 25) ?hr ?_; (case hd => rfl); (case hg => rfl); (case hr => first | (go_simp; done) | (go_simp; rfl)); intro gb179 hg w11 hbox hb; have n0_ := Az.mk (bwT (by repeat (first | (with_reducible first | exact HB.out | apply bwA | apply pbN | apply bwD) | exact HB.out)) hb); have n1_ := Az.mk (hbox); have n2_ := Az.mk ((by rw [hg]; exact (bwZ (by repeat (first | (with_reducible first | exact HB.out | apply bwA | apply pbN | apply bwD) | exact HB.out))) : w.heap.size ≤ gb179)); have n3_ := Az.mk ((by rw [hg]; exact (bwZ (by repeat (first | (with_reducible first | exact HB.out | apply bwA | apply pbN | apply bwD) | exact HB.out))) : w.heap.size ≤ gb179)); clear HB; have HB := n0_; have BK179 := n1_; have GW179 := n2_; have GE179 := n3_; clear n0_ n1_ n2_ n3_; clear hb hbox hg) | ((with_reducible refine gtD (N := 3) rfl ?_); refine bxE ?hg (N := 3) ?hd (cs := #[.int .i64 a1_0, .int .i64 a1_1, .int .i64 a1_2]) (t := 25) ?hr ?_; (case hd => rfl); (case hg => rfl); (case hr => first | (go_simp; done) | (go_simp; rfl)); intro gb180 hg w12 hbox hb; have n0_ := Az.mk (bkB (g := gb179) (o := .cells #[.int .i64 a0_0, .int .i64 a0_1, .int .i64 a0_2] 25 (0, 0)) (by (with_reducible repeat (first | refine bkN ?_ _ | refine bkD ?_ | refine bkA ?_ _)); exact BK179.out) hb); have n1_ := Az.mk (bwT (by repeat (first | (with_reducible first | exact HB.out | apply bwA | apply pbN | apply bwD | refine bwS ?_ GE179.out) | exact HB.out)) hb); have n2_ := Az.mk (hbox); have n3_ := Az.mk ((by rw [hg]; exact (bwZ (by repeat (first | (with_reducible first | exact HB.out | apply bwA | apply pbN | apply bwD | refine bwS ?_ GE179.out) | exact HB.out))) : w.heap.size ≤ gb180)); have n4_ := Az.mk ((by rw [hg]; exact (bwZ (by repeat (first | (with_reducible first | exact HB.out | apply bwA | apply pbN | apply bwD | refine bwS ?_ GE179.out) | exact HB.out))) : w.heap.size ≤ gb180)); have n5_ := Az.mk ((by rw [hg]; exact Nat.ne_of_lt (blk_lt (g := gb179) (o := .cells #[.int .i64 a0_0, .int .i64 a0_1, .int .i64 a0_2] 25 (0, 0)) (by (with_reducible repeat (first | refine bkN ?_ _ | refine bkD ?_ | refine bkA ?_ _)); exact BK179.out)) : gb179 ≠ gb180)); have n6_ := Az.mk ((by rw [hg]; exact Nat.ne_of_gt (blk_lt (g := gb179) (o := .cells #[.int .i64 a0_0, .int .i64 a0_1, .int .i64 a0_2] 25 (0, 0)) (by (with_reducible repeat (first | refine bkN ?_ _ | refine bkD ?_ | refine bkA ?_ _)); exact BK179.out)) : gb180 ≠ gb179)); clear BK179; clear HB; have BK179 := n0_; have HB := n1_; have BK180 := n2_; have GW180 := n3_; have GE180 := n4_; have NB179_180 := n5_; have NB180_179 := n6_; clear n0_ n1_ n2_ n3_ n4_ n5_ n6_; clear hb hbox hg; have hnb13 := NB179_180.out; have hnc13 := NB180_179.out; have hcz14_0 : w12.cell? ⟨gb179, 0, none⟩ = some (.int .i64 a0_0) := (bkC BK179.out 0).trans rfl; have hcz14_1 : w12.cell? ⟨gb179, 1, none⟩ = some (.int .i64 a0_1) := (bkC BK179.out 1).trans rfl; have hcz14_2 : w12.cell? ⟨gb179, 2, none⟩ = some (.int .i64 a0_2) := (bkC BK179.out 2).trans rfl; have hfz14_0 := bkF BK179.out 0; have hfz14_1 := bkF BK179.out 1; have hfz14_2 := bkF BK179.out 2; have hcz15_0 : w12.cell? ⟨gb180, 0, none⟩ = some (.int .i64 a1_0) := (bkC BK180.out 0).trans rfl; have hcz15_1 : w12.cell? ⟨gb180, 1, none⟩ = some (.int .i64 a1_1) := (bkC BK180.out 1).trans rfl; have hcz15_2 : w12.cell? ⟨gb180, 2, none⟩ = some (.int .i64 a1_2) := (bkC BK180.out 2).trans rfl; have hfz15_0 := bkF BK180.out 0; have hfz15_1 := bkF BK180.out 1; have hfz15_2 := bkF BK180.out 2))
    go_ret
    exact ⟨by first | rfl | (simp [eWn, eWs] <;> rfl) | (simp [*, eWn, eWs] <;> rfl), by repeat (first | (with_reducible first | exact HB.out | apply bwA | apply pbN | apply bwD | refine bwS ?_ GE179.out | refine bwS ?_ GE180.out) | exact HB.out)⟩
  ·rw [if_neg c4] at H
   have c4b0 : (a0_1 == a1_1) = false := beq_eq_false_iff_ne.mpr c4
   have c4b1 : (a0_1 != a1_1) = true := bne_iff_ne.mpr c4
   obtain rfl := Option.some.inj H
   go_enter Try.func8, Try.ntmps8
   go_wp2_with (first | ((with_reducible refine gtD (N := 2) rfl ?_); refine bxE ?hg (N := 2) ?hd (cs := #[.int .i64 a0_0, .int .i64 a0_1, .int .i64 a0_2]) (t := 25) ?hr ?_; (case hd => rfl); (case hg => rfl); (case hr => first | (go_simp; done) | (go_simp; rfl)); intro gb179 hg w16 hbox hb; have n0_ := Az.mk (bwT (by repeat (first | (with_reducible first | exact HB.out | apply bwA | apply pbN | apply bwD) | exact HB.out)) hb); have n1_ := Az.mk (hbox); have n2_ := Az.mk ((by rw [hg]; exact (bwZ (by repeat (first | (with_reducible first | exact HB.out | apply bwA | apply pbN | apply bwD) | exact HB.out))) : w.heap.size ≤ gb179)); have n3_ := Az.mk ((by rw [hg]; exact (bwZ (by repeat (first | (with_reducible first | exact HB.out | apply bwA | apply pbN | apply bwD) | exact HB.out))) : w.heap.size ≤ gb179)); clear HB; have HB := n0_; have BK179 := n1_; have GW179 := n2_; have GE179 := n3_; clear n0_ n1_ n2_ n3_; clear hb hbox hg) | ((with_reducible refine gtD (N := 3) rfl ?_); refine bxE ?hg (N := 3) ?hd (cs := #[.int .i64 a1_0, .int .i64 a1_1, .int .i64 a1_2]) (t := 25) ?hr ?_; (case hd => rfl); (case hg => rfl); (case hr => first | (go_simp; done) | (go_simp; rfl)); intro gb180 hg w17 hbox hb; have n0_ := Az.mk (bkB (g := gb179) (o := .cells #[.int .i64 a0_0, .int .i64 a0_1, .int .i64 a0_2] 25 (0, 0)) (by (with_reducible repeat (first | refine bkN ?_ _ | refine bkD ?_ | refine bkA ?_ _)); exact BK179.out) hb); have n1_ := Az.mk (bwT (by repeat (first | (with_reducible first | exact HB.out | apply bwA | apply pbN | apply bwD | refine bwS ?_ GE179.out) | exact HB.out)) hb); have n2_ := Az.mk (hbox); have n3_ := Az.mk ((by rw [hg]; exact (bwZ (by repeat (first | (with_reducible first | exact HB.out | apply bwA | apply pbN | apply bwD | refine bwS ?_ GE179.out) | exact HB.out))) : w.heap.size ≤ gb180)); have n4_ := Az.mk ((by rw [hg]; exact (bwZ (by repeat (first | (with_reducible first | exact HB.out | apply bwA | apply pbN | apply bwD | refine bwS ?_ GE179.out) | exact HB.out))) : w.heap.size ≤ gb180)); have n5_ := Az.mk ((by rw [hg]; exact Nat.ne_of_lt (blk_lt (g := gb179) (o := .cells #[.int .i64 a0_0, .int .i64 a0_1, .int .i64 a0_2] 25 (0, 0)) (by (with_reducible repeat (first | refine bkN ?_ _ | refine bkD ?_ | refine bkA ?_ _)); exact BK179.out)) : gb179 ≠ gb180)); have n6_ := Az.mk ((by rw [hg]; exact Nat.ne_of_gt (blk_lt (g := gb179) (o := .cells #[.int .i64 a0_0, .int .i64 a0_1, .int .i64 a0_2] 25 (0, 0)) (by (with_reducible repeat (first | refine bkN ?_ _ | refine bkD ?_ | refine bkA ?_ _)); exact BK179.out)) : gb180 ≠ gb179)); clear BK179; clear HB; have BK179 := n0_; have HB := n1_; have BK180 := n2_; have GW180 := n3_; have GE180 := n4_; have NB179_180 := n5_; have NB180_179 := n6_; clear n0_ n1_ n2_ n3_ n4_ n5_ n6_; clear hb hbox hg; have hnb18 := NB179_180.out; have hnc18 := NB180_179.out; have hcz19_0 : w17.cell? ⟨gb179, 0, none⟩ = some (.int .i64 a0_0) := (bkC BK179.out 0).trans rfl; have hcz19_1 : w17.cell? ⟨gb179, 1, none⟩ = some (.int .i64 a0_1) := (bkC BK179.out 1).trans rfl; have hcz19_2 : w17.cell? ⟨gb179, 2, none⟩ = some (.int .i64 a0_2) := (bkC BK179.out 2).trans rfl; have hfz19_0 := bkF BK179.out 0; have hfz19_1 := bkF BK179.out 1; have hfz19_2 := bkF BK179.out 2; have hcz20_0 : w17.cell? ⟨gb180, 0, none⟩ = some (.int .i64 a1_0) := (bkC BK180.out 0).trans rfl; have hcz20_1 : w17.cell? ⟨gb180, 1, none⟩ = some (.int .i64 a1_1) := (bkC BK180.out 1).trans rfl; have hcz20_2 : w17.cell? ⟨gb180, 2, none⟩ = some (.int .i64 a1_2) := (bkC BK180.out 2).trans rfl; have hfz20_0 := bkF BK180.out 0; have hfz20_1 := bkF BK180.out 1; have hfz20_2 := bkF BK180.out 2))
   go_ret
   exact ⟨by first | rfl | (simp [eWn, eWs] <;> rfl) | (simp [*, eWn, eWs] <;> rfl), by repeat (first | (with_reducible first | exact HB.out | apply bwA | apply pbN | apply bwD | refine bwS ?_ GE179.out | refine bwS ?_ GE180.out) | exact HB.out)⟩
 ·rw [if_neg c3] at H
  have c3b0 : (a0_0 == a1_0) = false := beq_eq_false_iff_ne.mpr c3
  have c3b1 : (a0_0 != a1_0) = true := bne_iff_ne.mpr c3
  obtain rfl := Option.some.inj H
  go_enter Try.func8, Try.ntmps8
  go_wp2_with (first | ((with_reducible refine gtD (N := 2) rfl ?_); refine bxE ?hg (N := 2) ?hd (cs := #[.int .i64 a0_0, .int .i64 a0_1, .int .i64 a0_2]) (t := 25) ?hr ?_; (case hd => rfl); (case hg => rfl); (case hr => first | (go_simp; done) | (go_simp; rfl)); intro gb179 hg w21 hbox hb; have n0_ := Az.mk (bwT (by repeat (first | (with_reducible first | exact HB.out | apply bwA | apply pbN | apply bwD) | exact HB.out)) hb); have n1_ := Az.mk (hbox); have n2_ := Az.mk ((by rw [hg]; exact (bwZ (by repeat (first | (with_reducible first | exact HB.out | apply bwA | apply pbN | apply bwD) | exact HB.out))) : w.heap.size ≤ gb179)); have n3_ := Az.mk ((by rw [hg]; exact (bwZ (by repeat (first | (with_reducible first | exact HB.out | apply bwA | apply pbN | apply bwD) | exact HB.out))) : w.heap.size ≤ gb179)); clear HB; have HB := n0_; have BK179 := n1_; have GW179 := n2_; have GE179 := n3_; clear n0_ n1_ n2_ n3_; clear hb hbox hg) | ((with_reducible refine gtD (N := 3) rfl ?_); refine bxE ?hg (N := 3) ?hd (cs := #[.int .i64 a1_0, .int .i64 a1_1, .int .i64 a1_2]) (t := 25) ?hr ?_; (case hd => rfl); (case hg => rfl); (case hr => first | (go_simp; done) | (go_simp; rfl)); intro gb180 hg w22 hbox hb; have n0_ := Az.mk (bkB (g := gb179) (o := .cells #[.int .i64 a0_0, .int .i64 a0_1, .int .i64 a0_2] 25 (0, 0)) (by (with_reducible repeat (first | refine bkN ?_ _ | refine bkD ?_ | refine bkA ?_ _)); exact BK179.out) hb); have n1_ := Az.mk (bwT (by repeat (first | (with_reducible first | exact HB.out | apply bwA | apply pbN | apply bwD | refine bwS ?_ GE179.out) | exact HB.out)) hb); have n2_ := Az.mk (hbox); have n3_ := Az.mk ((by rw [hg]; exact (bwZ (by repeat (first | (with_reducible first | exact HB.out | apply bwA | apply pbN | apply bwD | refine bwS ?_ GE179.out) | exact HB.out))) : w.heap.size ≤ gb180)); have n4_ := Az.mk ((by rw [hg]; exact (bwZ (by repeat (first | (with_reducible first | exact HB.out | apply bwA | apply pbN | apply bwD | refine bwS ?_ GE179.out) | exact HB.out))) : w.heap.size ≤ gb180)); have n5_ := Az.mk ((by rw [hg]; exact Nat.ne_of_lt (blk_lt (g := gb179) (o := .cells #[.int .i64 a0_0, .int .i64 a0_1, .int .i64 a0_2] 25 (0, 0)) (by (with_reducible repeat (first | refine bkN ?_ _ | refine bkD ?_ | refine bkA ?_ _)); exact BK179.out)) : gb179 ≠ gb180)); have n6_ := Az.mk ((by rw [hg]; exact Nat.ne_of_gt (blk_lt (g := gb179) (o := .cells #[.int .i64 a0_0, .int .i64 a0_1, .int .i64 a0_2] 25 (0, 0)) (by (with_reducible repeat (first | refine bkN ?_ _ | refine bkD ?_ | refine bkA ?_ _)); exact BK179.out)) : gb180 ≠ gb179)); clear BK179; clear HB; have BK179 := n0_; have HB := n1_; have BK180 := n2_; have GW180 := n3_; have GE180 := n4_; have NB179_180 := n5_; have NB180_179 := n6_; clear n0_ n1_ n2_ n3_ n4_ n5_ n6_; clear hb hbox hg; have hnb23 := NB179_180.out; have hnc23 := NB180_179.out; have hcz24_0 : w22.cell? ⟨gb179, 0, none⟩ = some (.int .i64 a0_0) := (bkC BK179.out 0).trans rfl; have hcz24_1 : w22.cell? ⟨gb179, 1, none⟩ = some (.int .i64 a0_1) := (bkC BK179.out 1).trans rfl; have hcz24_2 : w22.cell? ⟨gb179, 2, none⟩ = some (.int .i64 a0_2) := (bkC BK179.out 2).trans rfl; have hfz24_0 := bkF BK179.out 0; have hfz24_1 := bkF BK179.out 1; have hfz24_2 := bkF BK179.out 2; have hcz25_0 : w22.cell? ⟨gb180, 0, none⟩ = some (.int .i64 a1_0) := (bkC BK180.out 0).trans rfl; have hcz25_1 : w22.cell? ⟨gb180, 1, none⟩ = some (.int .i64 a1_1) := (bkC BK180.out 1).trans rfl; have hcz25_2 : w22.cell? ⟨gb180, 2, none⟩ = some (.int .i64 a1_2) := (bkC BK180.out 2).trans rfl; have hfz25_0 := bkF BK180.out 0; have hfz25_1 := bkF BK180.out 1; have hfz25_2 := bkF BK180.out 2))
  go_ret
  exact ⟨by first | rfl | (simp [eWn, eWs] <;> rfl) | (simp [*, eWn, eWs] <;> rfl), by repeat (first | (with_reducible first | exact HB.out | apply bwA | apply pbN | apply bwD | refine bwS ?_ GE179.out | refine bwS ?_ GE180.out) | exact HB.out)⟩

end Go.Proofs.Ytjmhcbilefnhdaa.P
