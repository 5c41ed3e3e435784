-- By this session's driver (wip/tools/mk.py) of the kit's print program, over several statements at once. Not trusted: Lean checks it.
import Derived.Test.YtjmhcbilefnhdaaQPx0
import Derived.Test.YtjmhcbilefnhdaaQPx7
import Derived.Test.YtjmhcbilefnhdaaQPx9
namespace Go.Proofs.Ytjmhcbilefnhdaa.P
open Go.RowKit Go.Proofs.YtjmhcbilefnhdaaW.PrintWords Go.Proofs.YtjmhcbilefnhdaaW.PrintLast Go.Proofs.YtjmhcbilefnhdaaW.PrintMore
attribute [local go_sem] max2_int min2_int max_two min_two max_three min_three max_four min_four   -- for this text's walks alone
set_option linter.unusedVariables false
set_option linter.unusedSimpArgs false

/-! ### impl_sideAt: function 18 -/
def impl_sideAt.l0 : Nat → Int → List (List Int) → Int → Int → Option (Int × Int)
 | 0, _, _, _, _ => none
 | k + 1, x1, x9, x10, x11 => if x11 < x10 then (if 0 ≤ x11 then (if x11 < (x9.length : Int) then ((impl_indexOf.f k (rd_L1 x9 x11) x1).bind fun t171 => (if t171 ≥ 0 then (some (x11, t171)) else (impl_sideAt.l0 k x1 x9 x10 (wrap64 (x11 + 1))))) else (none)) else (none)) else (some ((-1), (-1)))
def impl_sideAt.f (k : Nat) (l0 : List (List Int)) (a1 : Int) : Option (Int × Int) := impl_sideAt.l0 k a1 l0 (l0.length : Int) 0
theorem impl_sideAt.mono_l : ∀ k, (∀ y0 y1 y2 y3, LeO (impl_sideAt.l0 k y0 y1 y2 y3) (impl_sideAt.l0 (k + 1) y0 y1 y2 y3))
 | 0 => fun _ _ _ _ r h => by simp [impl_sideAt.l0] at h
 | k + 1 => by
  have ih0 := impl_sideAt.mono_l k
  ·intro y0 y1 y2 y3
   unfold impl_sideAt.l0
   repeat' first
   | (with_reducible exact ih0 _ _ _ _)
   | (with_reducible exact impl_indexOf.mono _ _ _)
   | (with_reducible exact LeO.refl _)
   | (with_reducible exact LeO.none _)
   | (with_reducible refine LeO.ite ?_ ?_)
   | (with_reducible refine LeO.bind ?_ (fun _ => ?_))
   | exact ih0 _ _ _ _
   | exact impl_indexOf.mono _ _ _
   | exact LeO.none _
   | refine LeO.ite ?_ ?_
   | refine LeO.bind ?_ (fun _ => ?_)
theorem impl_sideAt.mono : ∀ a0 a1 k, LeO (impl_sideAt.f k a0 a1) (impl_sideAt.f (k + 1) a0 a1) := by
 intro a0 a1 k
 have ih0 := impl_sideAt.mono_l k
 unfold impl_sideAt.f
 repeat' first
   | (with_reducible exact ih0 _ _ _ _)
   | (with_reducible exact impl_indexOf.mono _ _ _)
   | (with_reducible exact LeO.refl _)
   | (with_reducible exact LeO.none _)
   | (with_reducible refine LeO.ite ?_ ?_)
   | (with_reducible refine LeO.bind ?_ (fun _ => ?_))
   | exact ih0 _ _ _ _
   | exact impl_indexOf.mono _ _ _
   | exact LeO.none _
   | refine LeO.ite ?_ ?_
   | refine LeO.bind ?_ (fun _ => ?_)
set_option maxHeartbeats 8000000 in
set_option maxRecDepth 100000 in
theorem impl_sideAt.calls (k : Nat) (A0 : Option Addr) (c0 : Nat) (l0 : List (List Int)) (a1 : Int) (r1 : Int) (r2 : Int) (w : World) (hr0 : Kd.C (Kd.slice 3 (Kd.int .i64)) w A0 l0.length l0) (hc0 : l0.length ≤ c0) (h : impl_sideAt.f k l0 a1 = some (r1, r2)) :
  Calls Try.prog 18 #[.slice A0 l0.length c0, .int .i64 a1] w fun e w' => e = .returned (.tuple #[.int .i64 r1, .int .i64 r2]) ∧ Drawn0 w w' := by
 have HR0 := Az.mk hr0
 have HC0 := Az.mk hc0
 clear hr0 hc0
 have H : (impl_sideAt.l0 k a1 l0 (l0.length : Int) 0) = some (r1, r2) := h
 clear h
 have H' := Az.mk H
 clear H
 go_enter Try.func18, Try.ntmps18
 go_wp2
 go_loopg [11] k (fun kq v11 w' => ∃ (x11_1 : Int), v11 = .int .i64 x11_1 ∧ Az (impl_sideAt.l0 kq a1 l0 (l0.length : Int) x11_1 = some (r1, r2)) ∧ Az (kq ≤ k) ∧ Drawn0 w w')
 case atStart => exact ⟨(0), (by first | rfl | (simp; done) | (simp [*]; done)), H', ⟨Nat.le_refl _⟩, by repeat (first | exact Drawn0.refl _ | apply Drawn0.step)⟩
 case round =>
  clear H'
  try clear c1
  try clear p2
  obtain ⟨x11_1, rfl, HA, HK1, ⟨m1, rfl⟩⟩ := hrel
  cases gk with
  | zero => exact absurd HA.out (by simp [impl_sideAt.l0])
  | succ k1 =>
   have H := HA.out
   clear HA
   simp only [impl_sideAt.l0] at H
   by_cases c3 : x11_1 < (l0.length : Int)
   ·rw [if_pos c3] at H
    have c3b0 : decide (x11_1 < (l0.length : Int)) = true := decide_eq_true c3
    clear c3
    by_cases c4 : 0 ≤ x11_1
    ·rw [if_pos c4] at H
     have c4b0 : decide (0 ≤ x11_1) = true := decide_eq_true c4
     clear c4
     by_cases c5 : x11_1 < (l0.length : Int)
     ·rw [if_pos c5] at H
      have c5b0 : decide (x11_1 < (l0.length : Int)) = true := decide_eq_true c5
      clear c5
      replace H := Option.bind_eq_some_iff.mp H
      obtain ⟨t171, A60, H⟩ := H
      replace H : (if t171 ≥ 0 then (some (x11_1, t171)) else (impl_sideAt.l0 k1 a1 l0 (l0.length : Int) (wrap64 (x11_1 + 1)))) = some (r1, r2) := H
      have A6 := Az.mk A60
      clear A60
      by_cases c7 : t171 ≥ 0
      ·rw [if_pos c7] at H
       have c7b0 : decide (0 ≤ t171) = true := decide_eq_true c7
       clear c7
       simp only [Option.some.injEq, Prod.mk.injEq] at H
       obtain ⟨rfl, rfl⟩ := H
       have p170 : 0 ≤ (x11_1 : Int) := of_decide_eq_true (by first | (with_reducible assumption) | assumption)
       have q170 : x11_1 < (l0.length : Int) := of_decide_eq_true (by first | (with_reducible assumption) | assumption)
       obtain ⟨ad170, A170_0, c170_0, e170, hx170_0, hl170_0, hi170_0⟩ := at_L1 HR0.out x11_1 p170 q170
       cases e170
       have HR170_0 := Az.mk hi170_0
       have HC170_0 := Az.mk hl170_0
       clear hi170_0 hl170_0
       replace p170 := eq_true p170
       replace q170 := eq_true q170
       go_wp2_with (first | ((with_reducible refine gtC (f := 28) rfl ?_); refine goesL_ (some 18) rfl rfl Try.func28 (by kernel_rfl) rfl #[.slice A170_0 (rd_L1 l0 x11_1).length c170_0, .int .i64 a1] rfl (by (try simp only [List.map_toArray, List.map_cons, List.map_nil]); first | done | rfl | (simp only [List.length_drop, List.length_take]; rfl)) ?_; (with_reducible refine (impl_indexOf.calls k1 _ _ (rd_L1 l0 x11_1) a1 t171 _ ?side1 ?side2 A6.out).mono ?_); (case side1 => repeat (first | exact HR170_0.out | (with_reducible refine Kd.C_alloc ?_ _) | (with_reducible refine Kd.C_drewN ?_ _) | (with_reducible refine Kd.C_drew ?_))); (case side2 => exact HC170_0.out); rintro e w' ⟨rfl, ⟨nd, rfl⟩⟩; refine ⟨_, rfl, ?_⟩))
       go_ret2
       exact ⟨by first | rfl | (simp; done) | (simp [*]; done), by repeat (first | exact Drawn0.refl _ | apply Drawn0.step)⟩
      ·rw [if_neg c7] at H
       have c7b0 : decide (0 ≤ t171) = false := decide_eq_false c7
       clear c7
       have H' := Az.mk H
       clear H
       have p170 : 0 ≤ (x11_1 : Int) := of_decide_eq_true (by first | (with_reducible assumption) | assumption)
       have q170 : x11_1 < (l0.length : Int) := of_decide_eq_true (by first | (with_reducible assumption) | assumption)
       obtain ⟨ad170, A170_0, c170_0, e170, hx170_0, hl170_0, hi170_0⟩ := at_L1 HR0.out x11_1 p170 q170
       cases e170
       have HR170_0 := Az.mk hi170_0
       have HC170_0 := Az.mk hl170_0
       clear hi170_0 hl170_0
       replace p170 := eq_true p170
       replace q170 := eq_true q170
       go_wp2_with (first | ((with_reducible refine gtC (f := 28) rfl ?_); refine goesL_ (some 18) rfl rfl Try.func28 (by kernel_rfl) rfl #[.slice A170_0 (rd_L1 l0 x11_1).length c170_0, .int .i64 a1] rfl (by (try simp only [List.map_toArray, List.map_cons, List.map_nil]); first | done | rfl | (simp only [List.length_drop, List.length_take]; rfl)) ?_; (with_reducible refine (impl_indexOf.calls k1 _ _ (rd_L1 l0 x11_1) a1 t171 _ ?side1 ?side2 A6.out).mono ?_); (case side1 => repeat (first | exact HR170_0.out | (with_reducible refine Kd.C_alloc ?_ _) | (with_reducible refine Kd.C_drewN ?_ _) | (with_reducible refine Kd.C_drew ?_))); (case side2 => exact HC170_0.out); rintro e w' ⟨rfl, ⟨nd, rfl⟩⟩; refine ⟨_, rfl, ?_⟩))
       go_roundg k1
       case measure => have := HK1.out; omega
       case rel => exact ⟨(wrap64 (x11_1 + 1)), (by first | rfl | (simp; done) | (simp [*]; done)), H', ⟨by have := HK1.out; omega⟩, by repeat (first | exact Drawn0.refl _ | apply Drawn0.step)⟩
     ·rw [if_neg c5] at H
      exact absurd H (by simp)
    ·rw [if_neg c4] at H
     exact absurd H (by simp)
   ·rw [if_neg c3] at H
    have c3b0 : decide (x11_1 < (l0.length : Int)) = false := decide_eq_false c3
    clear c3
    simp only [Option.some.injEq, Prod.mk.injEq] at H
    obtain ⟨rfl, rfl⟩ := H
    go_wp2
    go_ret2
    exact ⟨by first | rfl | (simp; done) | (simp [*]; done), by repeat (first | exact Drawn0.refl _ | apply Drawn0.step)⟩

-- NOT PRINTED: function 29 (impl_joiner_top)

-- NOT PRINTED: function 19 (impl_joiner_join)

-- NOT PRINTED: function 20 (impl_joiner_count)

/-! ### impl_vertices: function 21 -/
mutual
def impl_vertices.l0 : Nat → List (List Int) → List Int → Int → Option (List Int)
 | 0, _, _, _ => none
 | k + 1, t, xs, i => if i < (t.length : Int) then (if 0 ≤ i then (impl_vertices.l1 k t xs i 0) else none) else (some xs)
def impl_vertices.l1 : Nat → List (List Int) → List Int → Int → Int → Option (List Int)
 | 0, _, _, _, _ => none
 | k + 1, t, xs, i, j => if j < ((rd_L1 t i).length : Int) then (if 0 ≤ j then ((impl_sideAt.f k t (wrap64 (-(rd (rd_L1 t i) j)))).bind fun s => ((joiner_join.f k xs (wrap64 (wrap64 (3 * i) + j)) (wrap64 (wrap64 (3 * s.1) + Int.tmod (wrap64 (s.2 + 1)) 3))).bind fun ys => ((joiner_join.f k ys (wrap64 (wrap64 (3 * i) + Int.tmod (wrap64 (j + 1)) 3)) (wrap64 (wrap64 (3 * s.1) + s.2))).bind fun zs => (impl_vertices.l1 k t zs i (wrap64 (j + 1)))))) else none) else (impl_vertices.l0 k t xs (wrap64 (i + 1)))
end
def impl_vertices.f (k : Nat) (t : List (List Int)) : Option (List Int) := (impl_newJoiner.l0 k (wrap64 (3 * (t.length : Int))) [] 0).bind fun xs => impl_vertices.l0 k t xs 0
theorem impl_vertices.mono_l : ∀ k, (∀ y0 y1 y2, LeO (impl_vertices.l0 k y0 y1 y2) (impl_vertices.l0 (k + 1) y0 y1 y2)) ∧ (∀ y0 y1 y2 y3, LeO (impl_vertices.l1 k y0 y1 y2 y3) (impl_vertices.l1 (k + 1) y0 y1 y2 y3))
 | 0 => ⟨fun _ _ _ r h => by simp [impl_vertices.l0] at h, fun _ _ _ _ r h => by simp [impl_vertices.l1] at h⟩
 | k + 1 => by
  obtain ⟨ih0, ih1⟩ := impl_vertices.mono_l k
  refine ⟨?_, ?_⟩
  ·intro y0 y1 y2
   unfold impl_vertices.l0
   repeat' first
   | (with_reducible exact ih1 _ _ _ _)
   | (with_reducible exact LeO.refl _)
   | (with_reducible exact LeO.none _)
   | (with_reducible refine LeO.ite ?_ ?_)
   | (with_reducible refine LeO.bind ?_ (fun _ => ?_))
  ·intro y0 y1 y2 y3
   unfold impl_vertices.l1
   repeat' first
   | (with_reducible exact ih0 _ _ _)
   | (with_reducible exact ih1 _ _ _ _)
   | (with_reducible exact impl_sideAt.mono _ _ _)
   | (with_reducible exact joiner_join.mono _ _ _ _)
   | (with_reducible exact LeO.refl _)
   | (with_reducible exact LeO.none _)
   | (with_reducible refine LeO.ite ?_ ?_)
   | (with_reducible refine LeO.bind ?_ (fun _ => ?_))
theorem impl_vertices.mono : ∀ a0 k, LeO (impl_vertices.f k a0) (impl_vertices.f (k + 1) a0) := by
 intro a0 k
 unfold impl_vertices.f
 refine LeO.bind (impl_newJoiner.mono _ _ _ _) (fun _ => (impl_vertices.mono_l k).1 _ _ _)
set_option maxHeartbeats 8000000 in
set_option maxRecDepth 100000 in
theorem impl_vertices.calls (k : Nat) (A0 : Option Addr) (c0 : Nat) (l0 : List (List Int)) (xs : List Int) (w : World) (hr0 : Kd.C (Kd.slice 3 (Kd.int .i64)) w A0 l0.length l0) (hc0 : l0.length ≤ c0) (h : impl_vertices.f k l0 = some xs) :
  Calls Try.prog 21 #[.slice A0 l0.length c0] w fun e w' => ∃ (p : Nat) (A : Option Addr) (c : Nat), e = .returned (.pointer (some ⟨p, 0, none⟩)) ∧ Jn w' w.heap.size p A c xs ∧ Below w.heap.size w w' := by
 have HR0 := Az.mk hr0
 have HC0 := Az.mk hc0
 clear hr0 hc0
 unfold impl_vertices.f at h
 obtain ⟨ns, T0, h⟩ := Option.bind_eq_some_iff.mp h
 have T0 := Az.mk T0
 have H' := Az.mk h
 clear h
 have HB := Az.mk (Below.refl w.heap.size w)
 go_enter Try.func21, Try.ntmps21
 go_wp2_with (first
  | (go_at_call 17; refine (impl_newJoiner.calls k _ ns w _ (by first | exact pbN HB.out _ | exact HB.out) T0.out).mono ?_; rintro e W1 ⟨p, AJ, cJ, rfl, hj, hb, _⟩; have HJ1 := Az.mk hj; have HB1 := Az.mk hb; clear hj hb T0))
 go_loopg [16] k (fun kq v16 w' => ∃ (xs_1 : List Int) (i_1 : Int), v16 = .int .i64 i_1 ∧ Az (impl_vertices.l0 kq l0 xs_1 i_1 = some xs) ∧ Az (kq ≤ k) ∧ Az (Jn w' w.heap.size p AJ cJ xs_1) ∧ Az (Below w.heap.size w w'))
 case atStart => exact ⟨ns, 0, rfl, H', ⟨Nat.le_refl _⟩, HJ1, HB1⟩
 case round =>
  clear H' HB HJ1 HB1
  obtain ⟨xs_1, i_1, rfl, HA, HK1, HJ, HB⟩ := hrel
  cases gk with
  | zero => exact absurd HA.out (by simp [impl_vertices.l0])
  | succ k1 =>
   have H := HA.out
   clear HA
   simp only [impl_vertices.l0] at H
   by_cases b2 : i_1 < (l0.length : Int)
   ·rw [if_pos b2] at H
    by_cases b1 : 0 ≤ i_1
    ·rw [if_pos b1] at H
     obtain ⟨ad, A1, c1, e1, hx1, hl1, hi1⟩ := at_L1 HR0.out i_1 b1 b2
     subst e1
     replace hx1 := (HB.out.cell (World.block_lt_of_cell? w _ hx1)).trans hx1
     have HR1 := Az.mk hi1
     have HC1 := Az.mk hl1
     clear hi1 hl1
     have H' := Az.mk H
     clear H
     have b2b := decide_eq_true b2
     replace b1 := eq_true b1
     replace b2 := eq_true b2
     go_wp2
     go_loopg [23] k1 (fun kq v23 w' => ∃ (xs_2 : List Int) (j_1 : Int), v23 = .int .i64 j_1 ∧ Az (impl_vertices.l1 kq l0 xs_2 i_1 j_1 = some xs) ∧ Az (kq ≤ k1) ∧ Az (Jn w' w.heap.size p AJ cJ xs_2) ∧ Az (Below w.heap.size w w'))
     case atStart => exact ⟨xs_1, 0, rfl, H', ⟨Nat.le_refl _⟩, HJ, HB⟩
     case round =>
      clear H' HJ HB hx1
      obtain ⟨xs_2, j_1, rfl, HA, HK2, HJ, HB⟩ := hrel
      cases gk with
      | zero => exact absurd HA.out (by simp [impl_vertices.l1])
      | succ k2 =>
       have H := HA.out
       clear HA
       simp only [impl_vertices.l1] at H
       by_cases d2 : j_1 < ((rd_L1 l0 i_1).length : Int)
       ·rw [if_pos d2] at H
        by_cases d1 : 0 ≤ j_1
        ·rw [if_pos d1] at H
         obtain ⟨⟨s1, s2⟩, T1, H⟩ := Option.bind_eq_some_iff.mp H
         obtain ⟨ys, T2, H⟩ := Option.bind_eq_some_iff.mp H
         obtain ⟨zs, T3, H⟩ := Option.bind_eq_some_iff.mp H
         obtain ⟨ad2, e2, hx2⟩ := Kd.at_int HR1.out j_1 d1 d2
         subst e2
         replace hx2 := (HB.out.cell (World.block_lt_of_cell? w _ hx2)).trans hx2
         obtain ⟨X, hX⟩ : ∃ j_ : Int, rd (rd_L1 l0 i_1) j_1 = j_ := ⟨_, rfl⟩
         rw [hX] at T1 hx2
         clear hX
         have T1 := Az.mk T1
         have T2 := Az.mk T2
         have T3 := Az.mk T3
         have H' := Az.mk H
         clear H
         have d2b := decide_eq_true d2
         replace d1 := eq_true d1
         replace d2 := eq_true d2
         go_wp2_with (first
          | (go_at_call 18; refine (impl_sideAt.calls k2 _ c0 l0 _ s1 s2 _ (by first | exact Kd.C_drewN (Kd.C_below HR0.out HB.out) _ | exact Kd.C_below HR0.out HB.out) HC0.out T1.out).mono ?_; rintro e w' ⟨rfl, ⟨nd1, rfl⟩⟩; clear T1)
          | (go_at_call 19; refine (joiner_join.calls k2 p AJ cJ xs_2 ys _ _ w _ (by first | exact pbN HB.out _ | exact HB.out) (by first | exact HJ.out.drewN _ | exact HJ.out) T2.out).mono ?_; rintro e W2 ⟨rfl, hj, hb⟩; clear T2 HB HJ; have HJ2 := Az.mk hj; have HB2 := Az.mk hb; clear hj hb)
          | (go_at_call 19; refine (joiner_join.calls k2 p AJ cJ ys zs _ _ w _ (by first | exact pbN HB2.out _ | exact HB2.out) (by first | exact HJ2.out.drewN _ | exact HJ2.out) T3.out).mono ?_; rintro e W3 ⟨rfl, hj, hb⟩; clear T3 HB2 HJ2; have HJ3 := Az.mk hj; have HB3 := Az.mk hb; clear hj hb))
         go_roundg k2
         case measure => have := HK1.out; have := HK2.out; omega
         case rel => exact ⟨zs, _, rfl, H', ⟨by have := HK2.out; omega⟩, HJ3, HB3⟩
        ·rw [if_neg d1] at H
         exact absurd H (by simp)
       ·rw [if_neg d2] at H
        have d2b : decide (j_1 < ((rd_L1 l0 i_1).length : Int)) = false := decide_eq_false d2
        clear d2
        have H' := Az.mk H
        clear H
        go_wp2
        go_roundg k2
        case measure => have := HK1.out; have := HK2.out; omega
        case rel => exact ⟨xs_2, _, rfl, H', ⟨by have := HK1.out; have := HK2.out; omega⟩, HJ, HB⟩
    ·rw [if_neg b1] at H
     exact absurd H (by simp)
   ·rw [if_neg b2] at H
    have b2b : decide (i_1 < (l0.length : Int)) = false := decide_eq_false b2
    clear b2
    obtain rfl := Option.some.inj H
    go_wp2
    go_ret
    exact ⟨_, rfl, ⟨_, _, HJ.out⟩, HB.out⟩

/-! ### impl_mod: function 30 -/
def impl_mod.f (a0 : Int) (a1 : Int) : Option (Int) := if a1 = 0 then (none) else (if (Int.tmod a0 a1) < 0 then (some (wrap64 ((Int.tmod a0 a1) + a1))) else (some (Int.tmod a0 a1)))
set_option maxHeartbeats 8000000 in
set_option maxRecDepth 100000 in
theorem impl_mod.calls (a0 : Int) (a1 : Int) (r : Int) (w : World) (h : impl_mod.f a0 a1 = some r) :
  Calls Try.prog 30 #[.int .i64 a0, .int .i64 a1] w fun e w' => e = .returned (.int .i64 r) ∧ Drawn0 w w' := by
 have H : (if a1 = 0 then (none) else (if (Int.tmod a0 a1) < 0 then (some (wrap64 ((Int.tmod a0 a1) + a1))) else (some (Int.tmod a0 a1)))) = some r := h
 clear h
 by_cases c3 : a1 = 0
 ·rw [if_pos c3] at H
  exact absurd H (by simp)
 ·rw [if_neg c3] at H
  have c3b0 : (a1 == 0) = false := beq_eq_false_iff_ne.mpr c3
  have c3b1 : (a1 != 0) = true := bne_iff_ne.mpr c3
  by_cases c4 : (Int.tmod a0 a1) < 0
  ·rw [if_pos c4] at H
   have c4b0 : decide ((Int.tmod a0 a1) < 0) = true := decide_eq_true c4
   clear c4
   obtain rfl := Option.some.inj H
   go_enter Try.func30, Try.ntmps30
   go_wp2
   go_ret
   exact ⟨by first | rfl | (simp; done) | (simp [*]; done), by repeat (first | exact Drawn0.refl _ | apply Drawn0.step)⟩
  ·rw [if_neg c4] at H
   have c4b0 : decide ((Int.tmod a0 a1) < 0) = false := decide_eq_false c4
   clear c4
   obtain rfl := Option.some.inj H
   go_enter Try.func30, Try.ntmps30
   go_wp2
   go_ret
   exact ⟨by first | rfl | (simp; done) | (simp [*]; done), by repeat (first | exact Drawn0.refl _ | apply Drawn0.step)⟩

/-! ### impl_IsSurface: function 31 -/
def impl_IsSurface.f (a0_0 : Int) (a0_1 : Int) (a0_2 : Int) : Option (Bool) := (impl_within.f a0_0 0 20).bind fun t176 => (if t176 = true then ((impl_within.f a0_1 0 20).bind fun t177 => (if t177 = true then ((impl_within.f a0_2 0 20).bind fun t178 => (if t178 = true then (if a0_0 = 0 then (some true) else (some (a0_1 == 0))) else (some false))) else (some false))) else (some false))
set_option maxHeartbeats 8000000 in
set_option maxRecDepth 100000 in
theorem impl_IsSurface.calls (a0_0 : Int) (a0_1 : Int) (a0_2 : Int) (r : Bool) (w : World) (h : impl_IsSurface.f a0_0 a0_1 a0_2 = some r) :
  Calls Try.prog 31 #[.agg #[.int .i64 a0_0, .int .i64 a0_1, .int .i64 a0_2]] w fun e w' => e = .returned (.bool r) ∧ Below w.heap.size w w' := by
 have hu25 := Try.underlying25
 have HB := Az.mk (Below.refl w.heap.size w)
 have H : ((impl_within.f a0_0 0 20).bind fun t176 => (if t176 = true then ((impl_within.f a0_1 0 20).bind fun t177 => (if t177 = true then ((impl_within.f a0_2 0 20).bind fun t178 => (if t178 = true then (if a0_0 = 0 then (some true) else (some (a0_1 == 0))) else (some false))) else (some false))) else (some false))) = some r := h
 clear h
 replace H := Option.bind_eq_some_iff.mp H
 obtain ⟨t176, A20, H⟩ := H
 replace H : (if t176 = true then ((impl_within.f a0_1 0 20).bind fun t177 => (if t177 = true then ((impl_within.f a0_2 0 20).bind fun t178 => (if t178 = true then (if a0_0 = 0 then (some true) else (some (a0_1 == 0))) else (some false))) else (some false))) else (some false)) = some r := H
 have A2 := Az.mk A20
 clear A20
 by_cases c3 : t176 = true
 ·subst c3
  have H1 : ((impl_within.f a0_1 0 20).bind fun t177 => (if t177 = true then ((impl_within.f a0_2 0 20).bind fun t178 => (if t178 = true then (if a0_0 = 0 then (some true) else (some (a0_1 == 0))) else (some false))) else (some false))) = some r := by rw [if_pos rfl] at H; exact H
  clear H
  have H := H1
  clear H1
  replace H := Option.bind_eq_some_iff.mp H
  obtain ⟨t177, A40, H⟩ := H
  replace H : (if t177 = true then ((impl_within.f a0_2 0 20).bind fun t178 => (if t178 = true then (if a0_0 = 0 then (some true) else (some (a0_1 == 0))) else (some false))) else (some false)) = some r := H
  have A4 := Az.mk A40
  clear A40
  by_cases c5 : t177 = true
  ·subst c5
   have H1 : ((impl_within.f a0_2 0 20).bind fun t178 => (if t178 = true then (if a0_0 = 0 then (some true) else (some (a0_1 == 0))) else (some false))) = some r := by rw [if_pos rfl] at H; exact H
   clear H
   have H := H1
   clear H1
   replace H := Option.bind_eq_some_iff.mp H
   obtain ⟨t178, A60, H⟩ := H
   replace H : (if t178 = true then (if a0_0 = 0 then (some true) else (some (a0_1 == 0))) else (some false)) = some r := H
   have A6 := Az.mk A60
   clear A60
   by_cases c7 : t178 = true
   ·subst c7
    have H1 : (if a0_0 = 0 then (some true) else (some (a0_1 == 0))) = some r := by rw [if_pos rfl] at H; exact H
    clear H
    have H := H1
    clear H1
    by_cases c8 : a0_0 = 0
    ·rw [if_pos c8] at H
     have c8b0 : (a0_0 == 0) = true := beq_iff_eq.mpr c8
     have c8b1 : (a0_0 != 0) = false := bne_eq_false_iff_eq.mpr c8
     clear c8
     obtain rfl := Option.some.inj H
     go_enter Try.func31, Try.ntmps31
     go_wp2_with (first | ((with_reducible refine gtD (N := 1) rfl ?_); refine bxE ?hg (N := 1) ?hd (cs := #[.int .i64 a0_0, .int .i64 a0_1, .int .i64 a0_2]) (t := 25) ?hr ?_; (case hd => rfl); (case hg => rfl); (case hr => first | (go_simp; done) | (go_simp; rfl)); intro gb175 hg w9 hbox hb; have n0_ := Az.mk (bwT (by repeat (first | (with_reducible first | exact HB.out | apply bwA | apply pbN | apply bwD) | exact HB.out)) hb); have n1_ := Az.mk (hbox); have n2_ := Az.mk ((by rw [hg]; exact (bwZ (by repeat (first | (with_reducible first | exact HB.out | apply bwA | apply pbN | apply bwD) | exact HB.out))) : w.heap.size ≤ gb175)); have n3_ := Az.mk ((by rw [hg]; exact (bwZ (by repeat (first | (with_reducible first | exact HB.out | apply bwA | apply pbN | apply bwD) | exact HB.out))) : w.heap.size ≤ gb175)); clear HB; have HB := n0_; have BK175 := n1_; have GW175 := n2_; have GE175 := n3_; clear n0_ n1_ n2_ n3_; clear hb hbox hg; have hcz10_0 : w9.cell? ⟨gb175, 0, none⟩ = some (.int .i64 a0_0) := (bkC BK175.out 0).trans rfl; have hcz10_1 : w9.cell? ⟨gb175, 1, none⟩ = some (.int .i64 a0_1) := (bkC BK175.out 1).trans rfl; have hcz10_2 : w9.cell? ⟨gb175, 2, none⟩ = some (.int .i64 a0_2) := (bkC BK175.out 2).trans rfl; have hfz10_0 := bkF BK175.out 0; have hfz10_1 := bkF BK175.out 1; have hfz10_2 := bkF BK175.out 2) | ((with_reducible refine gtC (f := 27) rfl ?_); refine goesL_ (some 5) rfl rfl Try.func27 (by kernel_rfl) rfl #[.int .i64 a0_0, .int .i64 0, .int .i64 20] rfl (by (try simp only [List.map_toArray, List.map_cons, List.map_nil]); first | done | rfl | (simp only [List.length_drop, List.length_take]; rfl)) ?_; (with_reducible refine (impl_within.calls a0_0 0 20 true _ A2.out).mono ?_); rintro e w' ⟨rfl, ⟨nd, rfl⟩⟩; refine ⟨_, rfl, ?_⟩) | (go_at_call 27; (with_reducible refine (impl_within.calls a0_1 0 20 true _ A4.out).mono ?_); rintro e w' ⟨rfl, ⟨nd, rfl⟩⟩) | (go_at_call 27; (with_reducible refine (impl_within.calls a0_2 0 20 true _ A6.out).mono ?_); rintro e w' ⟨rfl, ⟨nd, rfl⟩⟩))
     go_ret
     exact ⟨by first | rfl | (simp [eWn, eWs] <;> rfl) | (simp [*, eWn, eWs] <;> rfl), by repeat (first | (with_reducible first | exact HB.out | apply bwA | apply pbN | apply bwD | refine bwS ?_ GE175.out) | exact HB.out)⟩
    ·rw [if_neg c8] at H
     have c8b0 : (a0_0 == 0) = false := beq_eq_false_iff_ne.mpr c8
     have c8b1 : (a0_0 != 0) = true := bne_iff_ne.mpr c8
     obtain rfl := Option.some.inj H
     go_enter Try.func31, Try.ntmps31
     go_wp2_with (first | ((with_reducible refine gtD (N := 1) rfl ?_); refine bxE ?hg (N := 1) ?hd (cs := #[.int .i64 a0_0, .int .i64 a0_1, .int .i64 a0_2]) (t := 25) ?hr ?_; (case hd => rfl); (case hg => rfl); (case hr => first | (go_simp; done) | (go_simp; rfl)); intro gb175 hg w11 hbox hb; have n0_ := Az.mk (bwT (by repeat (first | (with_reducible first | exact HB.out | apply bwA | apply pbN | apply bwD) | exact HB.out)) hb); have n1_ := Az.mk (hbox); have n2_ := Az.mk ((by rw [hg]; exact (bwZ (by repeat (first | (with_reducible first | exact HB.out | apply bwA | apply pbN | apply bwD) | exact HB.out))) : w.heap.size ≤ gb175)); have n3_ := Az.mk ((by rw [hg]; exact (bwZ (by repeat (first | (with_reducible first | exact HB.out | apply bwA | apply pbN | apply bwD) | exact HB.out))) : w.heap.size ≤ gb175)); clear HB; have HB := n0_; have BK175 := n1_; have GW175 := n2_; have GE175 := n3_; clear n0_ n1_ n2_ n3_; clear hb hbox hg; have hcz12_0 : w11.cell? ⟨gb175, 0, none⟩ = some (.int .i64 a0_0) := (bkC BK175.out 0).trans rfl; have hcz12_1 : w11.cell? ⟨gb175, 1, none⟩ = some (.int .i64 a0_1) := (bkC BK175.out 1).trans rfl; have hcz12_2 : w11.cell? ⟨gb175, 2, none⟩ = some (.int .i64 a0_2) := (bkC BK175.out 2).trans rfl; have hfz12_0 := bkF BK175.out 0; have hfz12_1 := bkF BK175.out 1; have hfz12_2 := bkF BK175.out 2) | ((with_reducible refine gtC (f := 27) rfl ?_); refine goesL_ (some 5) rfl rfl Try.func27 (by kernel_rfl) rfl #[.int .i64 a0_0, .int .i64 0, .int .i64 20] rfl (by (try simp only [List.map_toArray, List.map_cons, List.map_nil]); first | done | rfl | (simp only [List.length_drop, List.length_take]; rfl)) ?_; (with_reducible refine (impl_within.calls a0_0 0 20 true _ A2.out).mono ?_); rintro e w' ⟨rfl, ⟨nd, rfl⟩⟩; refine ⟨_, rfl, ?_⟩) | (go_at_call 27; (with_reducible refine (impl_within.calls a0_1 0 20 true _ A4.out).mono ?_); rintro e w' ⟨rfl, ⟨nd, rfl⟩⟩) | (go_at_call 27; (with_reducible refine (impl_within.calls a0_2 0 20 true _ A6.out).mono ?_); rintro e w' ⟨rfl, ⟨nd, rfl⟩⟩))
     go_ret
     exact ⟨by first | rfl | (simp [eWn, eWs] <;> rfl) | (simp [*, eWn, eWs] <;> rfl), by repeat (first | (with_reducible first | exact HB.out | apply bwA | apply pbN | apply bwD | refine bwS ?_ GE175.out) | exact HB.out)⟩
   ·replace c7 := Bool.eq_false_iff.mpr c7
    subst c7
    have H1 : (some false) = some r := by rw [if_neg (show ¬ (false = true) by decide)] at H; exact H
    clear H
    have H := H1
    clear H1
    obtain rfl := Option.some.inj H
    go_enter Try.func31, Try.ntmps31
    go_wp2_with (first | ((with_reducible refine gtD (N := 1) rfl ?_); refine bxE ?hg (N := 1) ?hd (cs := #[.int .i64 a0_0, .int .i64 a0_1, .int .i64 a0_2]) (t := 25) ?hr ?_; (case hd => rfl); (case hg => rfl); (case hr => first | (go_simp; done) | (go_simp; rfl)); intro gb175 hg w13 hbox hb; have n0_ := Az.mk (bwT (by repeat (first | (with_reducible first | exact HB.out | apply bwA | apply pbN | apply bwD) | exact HB.out)) hb); have n1_ := Az.mk (hbox); have n2_ := Az.mk ((by rw [hg]; exact (bwZ (by repeat (first | (with_reducible first | exact HB.out | apply bwA | apply pbN | apply bwD) | exact HB.out))) : w.heap.size ≤ gb175)); have n3_ := Az.mk ((by rw [hg]; exact (bwZ (by repeat (first | (with_reducible first | exact HB.out | apply bwA | apply pbN | apply bwD) | exact HB.out))) : w.heap.size ≤ gb175)); clear HB; have HB := n0_; have BK175 := n1_; have GW175 := n2_; have GE175 := n3_; clear n0_ n1_ n2_ n3_; clear hb hbox hg; have hcz14_0 : w13.cell? ⟨gb175, 0, none⟩ = some (.int .i64 a0_0) := (bkC BK175.out 0).trans rfl; have hcz14_1 : w13.cell? ⟨gb175, 1, none⟩ = some (.int .i64 a0_1) := (bkC BK175.out 1).trans rfl; have hcz14_2 : w13.cell? ⟨gb175, 2, none⟩ = some (.int .i64 a0_2) := (bkC BK175.out 2).trans rfl; have hfz14_0 := bkF BK175.out 0; have hfz14_1 := bkF BK175.out 1; have hfz14_2 := bkF BK175.out 2) | ((with_reducible refine gtC (f := 27) rfl ?_); refine goesL_ (some 5) rfl rfl Try.func27 (by kernel_rfl) rfl #[.int .i64 a0_0, .int .i64 0, .int .i64 20] rfl (by (try simp only [List.map_toArray, List.map_cons, List.map_nil]); first | done | rfl | (simp only [List.length_drop, List.length_take]; rfl)) ?_; (with_reducible refine (impl_within.calls a0_0 0 20 true _ A2.out).mono ?_); rintro e w' ⟨rfl, ⟨nd, rfl⟩⟩; refine ⟨_, rfl, ?_⟩) | (go_at_call 27; (with_reducible refine (impl_within.calls a0_1 0 20 true _ A4.out).mono ?_); rintro e w' ⟨rfl, ⟨nd, rfl⟩⟩) | (go_at_call 27; (with_reducible refine (impl_within.calls a0_2 0 20 false _ A6.out).mono ?_); rintro e w' ⟨rfl, ⟨nd, rfl⟩⟩))
    go_ret
    exact ⟨by first | rfl | (simp [eWn, eWs] <;> rfl) | (simp [*, eWn, eWs] <;> rfl), by repeat (first | (with_reducible first | exact HB.out | apply bwA | apply pbN | apply bwD | refine bwS ?_ GE175.out) | exact HB.out)⟩
  ·replace c5 := Bool.eq_false_iff.mpr c5
   subst c5
   have H1 : (some false) = some r := by rw [if_neg (show ¬ (false = true) by decide)] at H; exact H
   clear H
   have H := H1
   clear H1
   obtain rfl := Option.some.inj H
   go_enter Try.func31, Try.ntmps31
   go_wp2_with (first | ((with_reducible refine gtD (N := 1) rfl ?_); refine bxE ?hg (N := 1) ?hd (cs := #[.int .i64 a0_0, .int .i64 a0_1, .int .i64 a0_2]) (t := 25) ?hr ?_; (case hd => rfl); (case hg => rfl); (case hr => first | (go_simp; done) | (go_simp; rfl)); intro gb175 hg w15 hbox hb; have n0_ := Az.mk (bwT (by repeat (first | (with_reducible first | exact HB.out | apply bwA | apply pbN | apply bwD) | exact HB.out)) hb); have n1_ := Az.mk (hbox); have n2_ := Az.mk ((by rw [hg]; exact (bwZ (by repeat (first | (with_reducible first | exact HB.out | apply bwA | apply pbN | apply bwD) | exact HB.out))) : w.heap.size ≤ gb175)); have n3_ := Az.mk ((by rw [hg]; exact (bwZ (by repeat (first | (with_reducible first | exact HB.out | apply bwA | apply pbN | apply bwD) | exact HB.out))) : w.heap.size ≤ gb175)); clear HB; have HB := n0_; have BK175 := n1_; have GW175 := n2_; have GE175 := n3_; clear n0_ n1_ n2_ n3_; clear hb hbox hg; have hcz16_0 : w15.cell? ⟨gb175, 0, none⟩ = some (.int .i64 a0_0) := (bkC BK175.out 0).trans rfl; have hcz16_1 : w15.cell? ⟨gb175, 1, none⟩ = some (.int .i64 a0_1) := (bkC BK175.out 1).trans rfl; have hcz16_2 : w15.cell? ⟨gb175, 2, none⟩ = some (.int .i64 a0_2) := (bkC BK175.out 2).trans rfl; have hfz16_0 := bkF BK175.out 0; have hfz16_1 := bkF BK175.out 1; have hfz16_2 := bkF BK175.out 2) | ((with_reducible refine gtC (f := 27) rfl ?_); refine goesL_ (some 5) rfl rfl Try.func27 (by kernel_rfl) rfl #[.int .i64 a0_0, .int .i64 0, .int .i64 20] rfl (by (try simp only [List.map_toArray, List.map_cons, List.map_nil]); first | done | rfl | (simp only [List.length_drop, List.length_take]; rfl)) ?_; (with_reducible refine (impl_within.calls a0_0 0 20 true _ A2.out).mono ?_); rintro e w' ⟨rfl, ⟨nd, rfl⟩⟩; refine ⟨_, rfl, ?_⟩) | (go_at_call 27; (with_reducible refine (impl_within.calls a0_1 0 20 false _ A4.out).mono ?_); rintro e w' ⟨rfl, ⟨nd, rfl⟩⟩))
   go_ret
   exact ⟨by first | rfl | (simp [eWn, eWs] <;> rfl) | (simp [*, eWn, eWs] <;> rfl), by repeat (first | (with_reducible first | exact HB.out | apply bwA | apply pbN | apply bwD | refine bwS ?_ GE175.out) | exact HB.out)⟩
 ·replace c3 := Bool.eq_false_iff.mpr c3
  subst c3
  have H1 : (some false) = some r := by rw [if_neg (show ¬ (false = true) by decide)] at H; exact H
  clear H
  have H := H1
  clear H1
  obtain rfl := Option.some.inj H
  go_enter Try.func31, Try.ntmps31
  go_wp2_with (first | ((with_reducible refine gtD (N := 1) rfl ?_); refine bxE ?hg (N := 1) ?hd (cs := #[.int .i64 a0_0, .int .i64 a0_1, .int .i64 a0_2]) (t := 25) ?hr ?_; (case hd => rfl); (case hg => rfl); (case hr => first | (go_simp; done) | (go_simp; rfl)); intro gb175 hg w17 hbox hb; have n0_ := Az.mk (bwT (by repeat (first | (with_reducible first | exact HB.out | apply bwA | apply pbN | apply bwD) | exact HB.out)) hb); have n1_ := Az.mk (hbox); have n2_ := Az.mk ((by rw [hg]; exact (bwZ (by repeat (first | (with_reducible first | exact HB.out | apply bwA | apply pbN | apply bwD) | exact HB.out))) : w.heap.size ≤ gb175)); have n3_ := Az.mk ((by rw [hg]; exact (bwZ (by repeat (first | (with_reducible first | exact HB.out | apply bwA | apply pbN | apply bwD) | exact HB.out))) : w.heap.size ≤ gb175)); clear HB; have HB := n0_; have BK175 := n1_; have GW175 := n2_; have GE175 := n3_; clear n0_ n1_ n2_ n3_; clear hb hbox hg; have hcz18_0 : w17.cell? ⟨gb175, 0, none⟩ = some (.int .i64 a0_0) := (bkC BK175.out 0).trans rfl; have hcz18_1 : w17.cell? ⟨gb175, 1, none⟩ = some (.int .i64 a0_1) := (bkC BK175.out 1).trans rfl; have hcz18_2 : w17.cell? ⟨gb175, 2, none⟩ = some (.int .i64 a0_2) := (bkC BK175.out 2).trans rfl; have hfz18_0 := bkF BK175.out 0; have hfz18_1 := bkF BK175.out 1; have hfz18_2 := bkF BK175.out 2) | ((with_reducible refine gtC (f := 27) rfl ?_); refine goesL_ (some 5) rfl rfl Try.func27 (by kernel_rfl) rfl #[.int .i64 a0_0, .int .i64 0, .int .i64 20] rfl (by (try simp only [List.map_toArray, List.map_cons, List.map_nil]); first | done | rfl | (simp only [List.length_drop, List.length_take]; rfl)) ?_; (with_reducible refine (impl_within.calls a0_0 0 20 false _ A2.out).mono ?_); rintro e w' ⟨rfl, ⟨nd, rfl⟩⟩; refine ⟨_, rfl, ?_⟩))
  go_ret
  exact ⟨by first | rfl | (simp [eWn, eWs] <;> rfl) | (simp [*, eWn, eWs] <;> rfl), by repeat (first | (with_reducible first | exact HB.out | apply bwA | apply pbN | apply bwD | refine bwS ?_ GE175.out) | exact HB.out)⟩

/-! ### impl_surfaceWith: function 22 -/
def impl_surfaceWith.f (a0 : Int) (a1 : Int) (a2 : Bool) : Option (Int × Int × Int × Bool) := if a2 = true then ((impl_mod.f (wrap64 ((wrap64 (2 - a0)) - a1)) 2).bind fun m => (if m = 0 then ((impl_IsSurface.f (wrap64 (Int.tdiv (wrap64 ((wrap64 (2 - a0)) - a1)) 2)) 0 a1).bind fun b => (if b = true then (some (wrap64 (Int.tdiv (wrap64 ((wrap64 (2 - a0)) - a1)) 2), 0, a1, true)) else (some (0, 0, 0, false)))) else (some (0, 0, 0, false)))) else none
theorem wp_at_ {P : Program} {c : Code} {Q : Exit → Act → World → Prop} {f : Act} {W : World} (S : World → Prop) (hs : S W) (h : ∀ w', S w' → Code.wp P c Q f w') : Code.wp P c Q f W := h W hs
set_option maxHeartbeats 8000000 in
set_option maxRecDepth 100000 in
theorem impl_surfaceWith.calls (a0 : Int) (a1 : Int) (a2 : Bool) (r1 : Int) (r2 : Int) (r3 : Int) (r4 : Bool) (w : World) (h : impl_surfaceWith.f a0 a1 a2 = some (r1, r2, r3, r4)) :
  Calls Try.prog 22 #[.int .i64 a0, .int .i64 a1, .bool a2] w fun e w' => e = .returned (.tuple #[.agg #[.int .i64 r1, .int .i64 r2, .int .i64 r3], .bool r4]) ∧ Below w.heap.size w w' := by
 have hu25 := Try.underlying25
 have HB := Az.mk (Below.refl w.heap.size w)
 unfold impl_surfaceWith.f at h
 by_cases c4 : a2 = true
 ·subst c4
  rw [if_pos rfl] at h
  obtain ⟨m, T1, h⟩ := Option.bind_eq_some_iff.mp h
  obtain ⟨R, hR⟩ : ∃ R : Int, wrap64 ((wrap64 (2 - a0)) - a1) = R := ⟨_, rfl⟩
  rw [hR] at T1 h
  have T1 := Az.mk T1
  obtain ⟨D, hD⟩ : ∃ D : Int, wrap64 (Int.tdiv R 2) = D := ⟨_, rfl⟩
  rw [hD] at h
  go_enter Try.func22, Try.ntmps22
  go_upto_region 3 with (first | ((with_reducible refine gtD (N := 6) rfl ?_); refine bxE ?hg (N := 6) ?hd (cs := #[.int .i64 0, .int .i64 0, .int .i64 0]) (t := 25) ?hr ?_; (case hd => rfl); (case hg => rfl); (case hr => first | (go_simp; done) | (go_simp; rfl)); intro g1 hg w1 hbox hb; have BK1 := Az.mk hbox; have GE1 := Az.mk (Nat.le_of_eq hg.symm : w.heap.size ≤ g1); have HB1 := Az.mk hb; clear hb hbox hg) | ((with_reducible refine gtD (N := 9) rfl ?_); refine bxE ?hg (N := 9) ?hd (cs := #[.int .i64 0, .int .i64 0, .int .i64 0]) (t := 25) ?hr ?_; (case hd => rfl); (case hg => rfl); (case hr => first | (go_simp; done) | (go_simp; rfl)); intro g2 hg w2 hbox hb; have NB12 := Az.mk ((by rw [hg]; exact Nat.ne_of_lt (blk_lt (g := g1) (o := .cells #[.int .i64 0, .int .i64 0, .int .i64 0] 25 (0, 0)) (by (with_reducible repeat (first | refine bkN ?_ _ | refine bkD ?_ | refine bkA ?_ _)); exact BK1.out))) : g1 ≠ g2); have GE2 := Az.mk ((by rw [hg]; exact bwZ (by repeat (first | (with_reducible first | exact HB1.out | apply bwA | apply pbN | apply bwD) | exact HB1.out))) : w.heap.size ≤ g2); have BK2 := Az.mk (bkB (g := g1) (o := .cells #[.int .i64 0, .int .i64 0, .int .i64 0] 25 (0, 0)) (by (with_reducible repeat (first | refine bkN ?_ _ | refine bkD ?_ | refine bkA ?_ _)); exact BK1.out) hb); have CK2 := Az.mk hbox; have HB2 := Az.mk (bwT (by repeat (first | (with_reducible first | exact HB1.out | apply bwA | apply pbN | apply bwD) | exact HB1.out)) hb); clear hb hbox hg; have hnb := NB12.out; have hnc := NB12.out.symm; have hcza0 := (bkC CK2.out 0).trans rfl; have hcza1 := (bkC CK2.out 1).trans rfl; have hcza2 := (bkC CK2.out 2).trans rfl; have hfza0 := bkF CK2.out 0; have hfza1 := bkF CK2.out 1; have hfza2 := bkF CK2.out 2))
  try rw [hR]
  refine wp_at_ (fun w' => w'.heap[g1]? = some (.cells #[.int .i64 0, .int .i64 0, .int .i64 0] 25 (0, 0)) ∧ w'.heap[g2]? = some (.cells #[.int .i64 0, .int .i64 R, .int .i64 a1] 25 (0, 0)) ∧ Below w.heap.size w w') ⟨(by (with_reducible repeat (first | refine bkN ?_ _ | refine bkD ?_ | refine bkA ?_ _)); refine bkf ?_ NB12.out _; (with_reducible repeat (first | refine bkN ?_ _ | refine bkD ?_ | refine bkA ?_ _)); refine bkf ?_ NB12.out _; (with_reducible repeat (first | refine bkN ?_ _ | refine bkD ?_ | refine bkA ?_ _)); refine bkf ?_ NB12.out _; (with_reducible repeat (first | refine bkN ?_ _ | refine bkD ?_ | refine bkA ?_ _)); exact BK2.out), (by (with_reducible repeat (first | refine bkN ?_ _ | refine bkD ?_ | refine bkA ?_ _)); refine bkp (cs := #[.int .i64 0, .int .i64 R, .int .i64 0]) ?_ 2 _ rfl; (with_reducible repeat (first | refine bkN ?_ _ | refine bkD ?_ | refine bkA ?_ _)); refine bkp (cs := #[.int .i64 0, .int .i64 0, .int .i64 0]) ?_ 1 _ rfl; (with_reducible repeat (first | refine bkN ?_ _ | refine bkD ?_ | refine bkA ?_ _)); refine bkp (cs := #[.int .i64 0, .int .i64 0, .int .i64 0]) ?_ 0 _ rfl; (with_reducible repeat (first | refine bkN ?_ _ | refine bkD ?_ | refine bkA ?_ _)); exact CK2.out), (by repeat (first | (with_reducible first | exact HB2.out | apply bwA | apply pbN | apply bwD | refine bwS ?_ GE1.out | refine bwS ?_ GE2.out) | exact HB2.out))⟩ ?_
  rintro w3 ⟨bk3, ck3, hb3⟩
  have BK3 := Az.mk bk3; have CK3 := Az.mk ck3; have HB3 := Az.mk hb3
  clear bk3 ck3 hb3 HB2 BK2 CK2 hcza0 hcza1 hcza2 hfza0 hfza1 hfza2 BK1 HB1
  by_cases c6 : m = 0
  ·rw [if_pos c6] at h
   subst c6
   obtain ⟨b, T2, h⟩ := Option.bind_eq_some_iff.mp h
   have T2 := Az.mk T2
   have HE := Az.mk h
   clear h
   go_upto_region 7 with (first | (go_at_call 30; refine (impl_mod.calls R 2 0 _ T1.out).mono ?_; rintro e w' ⟨rfl, ⟨nd, rfl⟩⟩; clear T1; have hczb0 := (bkC CK3.out 0).trans rfl; have hczb1 := (bkC CK3.out 1).trans rfl; have hczb2 := (bkC CK3.out 2).trans rfl; have hfzb0 := bkF CK3.out 0; have hfzb1 := bkF CK3.out 1; have hfzb2 := bkF CK3.out 2))
   try rw [hD]
   refine wp_at_ (fun w' => w'.heap[g1]? = some (.cells #[.int .i64 0, .int .i64 0, .int .i64 0] 25 (0, 0)) ∧ w'.heap[g2]? = some (.cells #[.int .i64 D, .int .i64 0, .int .i64 a1] 25 (0, 0)) ∧ Below w.heap.size w w') ⟨(by (with_reducible repeat (first | refine bkN ?_ _ | refine bkD ?_ | refine bkA ?_ _)); refine bkf ?_ NB12.out _; (with_reducible repeat (first | refine bkN ?_ _ | refine bkD ?_ | refine bkA ?_ _)); refine bkf ?_ NB12.out _; (with_reducible repeat (first | refine bkN ?_ _ | refine bkD ?_ | refine bkA ?_ _)); refine bkf ?_ NB12.out _; (with_reducible repeat (first | refine bkN ?_ _ | refine bkD ?_ | refine bkA ?_ _)); exact BK3.out), (by (with_reducible repeat (first | refine bkN ?_ _ | refine bkD ?_ | refine bkA ?_ _)); refine bkp (cs := #[.int .i64 D, .int .i64 0, .int .i64 a1]) ?_ 2 _ rfl; (with_reducible repeat (first | refine bkN ?_ _ | refine bkD ?_ | refine bkA ?_ _)); refine bkp (cs := #[.int .i64 D, .int .i64 R, .int .i64 a1]) ?_ 1 _ rfl; (with_reducible repeat (first | refine bkN ?_ _ | refine bkD ?_ | refine bkA ?_ _)); refine bkp (cs := #[.int .i64 0, .int .i64 R, .int .i64 a1]) ?_ 0 _ rfl; (with_reducible repeat (first | refine bkN ?_ _ | refine bkD ?_ | refine bkA ?_ _)); exact CK3.out), (by repeat (first | (with_reducible first | exact HB3.out | apply bwA | apply pbN | apply bwD | refine bwS ?_ GE1.out | refine bwS ?_ GE2.out) | exact HB3.out))⟩ ?_
   rintro w4 ⟨bk4, ck4, hb4⟩
   have BK4 := Az.mk bk4; have CK4 := Az.mk ck4; have HB4 := Az.mk hb4
   clear bk4 ck4 hb4 HB3 BK3 CK3 hczb0 hczb1 hczb2 hfzb0 hfzb1 hfzb2
   have hczc0 := (bkC CK4.out 0).trans rfl; have hczc1 := (bkC CK4.out 1).trans rfl; have hczc2 := (bkC CK4.out 2).trans rfl; have hfzc0 := bkF CK4.out 0; have hfzc1 := bkF CK4.out 1; have hfzc2 := bkF CK4.out 2
   have h := HE.out
   clear HE
   cases b with
   | true =>
    have h := Option.some.inj ((if_pos rfl).symm.trans h)
    simp only [Prod.mk.injEq] at h
    obtain ⟨rfl, rfl, rfl, rfl⟩ := h
    go_wp2_with (first | (go_at_call 31; refine (impl_IsSurface.calls D 0 a1 true _ T2.out).mono ?_; rintro e w5 ⟨rfl, hb⟩; have BK5 := Az.mk (bkB (g := g1) (o := .cells #[.int .i64 0, .int .i64 0, .int .i64 0] 25 (0, 0)) (by (with_reducible repeat (first | refine bkN ?_ _ | refine bkD ?_ | refine bkA ?_ _)); exact BK4.out) hb); have CK5 := Az.mk (bkB (g := g2) (o := .cells #[.int .i64 D, .int .i64 0, .int .i64 a1] 25 (0, 0)) (by (with_reducible repeat (first | refine bkN ?_ _ | refine bkD ?_ | refine bkA ?_ _)); exact CK4.out) hb); have HB5 := Az.mk (bwT (by repeat (first | (with_reducible first | exact HB4.out | apply bwA | apply pbN | apply bwD) | exact HB4.out)) hb); clear hb T2; have hczd0 := (bkC BK5.out 0).trans rfl; have hczd1 := (bkC BK5.out 1).trans rfl; have hczd2 := (bkC BK5.out 2).trans rfl; have hfzd0 := bkF BK5.out 0; have hfzd1 := bkF BK5.out 1; have hfzd2 := bkF BK5.out 2; have hcze0 := (bkC CK5.out 0).trans rfl; have hcze1 := (bkC CK5.out 1).trans rfl; have hcze2 := (bkC CK5.out 2).trans rfl; have hfze0 := bkF CK5.out 0; have hfze1 := bkF CK5.out 1; have hfze2 := bkF CK5.out 2))
    refine bodyPost_ret (results_ct rfl _ _ g1 25 #[.int .i64 D, .int .i64 0, .int .i64 a1] (0, 0) _ rfl (by (with_reducible repeat (first | refine bkN ?_ _ | refine bkD ?_ | refine bkA ?_ _)); refine bkp (cs := #[.int .i64 D, .int .i64 0, .int .i64 0]) ?_ 2 _ rfl; (with_reducible repeat (first | refine bkN ?_ _ | refine bkD ?_ | refine bkA ?_ _)); refine bkp (cs := #[.int .i64 D, .int .i64 0, .int .i64 0]) ?_ 1 _ rfl; (with_reducible repeat (first | refine bkN ?_ _ | refine bkD ?_ | refine bkA ?_ _)); refine bkp (cs := #[.int .i64 0, .int .i64 0, .int .i64 0]) ?_ 0 _ rfl; (with_reducible repeat (first | refine bkN ?_ _ | refine bkD ?_ | refine bkA ?_ _)); exact BK5.out) Try.underlying25 rfl (by kernel_rfl)) rfl ?_
    exact ⟨rfl, (by repeat (first | (with_reducible first | exact HB5.out | apply bwA | apply pbN | apply bwD | refine bwS ?_ GE1.out | refine bwS ?_ GE2.out) | exact HB5.out))⟩
   | false =>
    have h := Option.some.inj ((if_neg (by decide)).symm.trans h)
    simp only [Prod.mk.injEq] at h
    obtain ⟨rfl, rfl, rfl, rfl⟩ := h
    go_wp2_with (first | (go_at_call 31; refine (impl_IsSurface.calls D 0 a1 false _ T2.out).mono ?_; rintro e w5 ⟨rfl, hb⟩; have BK5 := Az.mk (bkB (g := g1) (o := .cells #[.int .i64 0, .int .i64 0, .int .i64 0] 25 (0, 0)) (by (with_reducible repeat (first | refine bkN ?_ _ | refine bkD ?_ | refine bkA ?_ _)); exact BK4.out) hb); have CK5 := Az.mk (bkB (g := g2) (o := .cells #[.int .i64 D, .int .i64 0, .int .i64 a1] 25 (0, 0)) (by (with_reducible repeat (first | refine bkN ?_ _ | refine bkD ?_ | refine bkA ?_ _)); exact CK4.out) hb); have HB5 := Az.mk (bwT (by repeat (first | (with_reducible first | exact HB4.out | apply bwA | apply pbN | apply bwD) | exact HB4.out)) hb); clear hb T2; have hczd0 := (bkC BK5.out 0).trans rfl; have hczd1 := (bkC BK5.out 1).trans rfl; have hczd2 := (bkC BK5.out 2).trans rfl; have hfzd0 := bkF BK5.out 0; have hfzd1 := bkF BK5.out 1; have hfzd2 := bkF BK5.out 2; have hcze0 := (bkC CK5.out 0).trans rfl; have hcze1 := (bkC CK5.out 1).trans rfl; have hcze2 := (bkC CK5.out 2).trans rfl; have hfze0 := bkF CK5.out 0; have hfze1 := bkF CK5.out 1; have hfze2 := bkF CK5.out 2))
    refine bodyPost_ret (results_ct rfl _ _ g1 25 #[.int .i64 0, .int .i64 0, .int .i64 0] (0, 0) _ rfl (by (with_reducible repeat (first | refine bkN ?_ _ | refine bkD ?_ | refine bkA ?_ _)); refine bkp (cs := #[.int .i64 0, .int .i64 0, .int .i64 0]) ?_ 2 _ rfl; (with_reducible repeat (first | refine bkN ?_ _ | refine bkD ?_ | refine bkA ?_ _)); refine bkp (cs := #[.int .i64 0, .int .i64 0, .int .i64 0]) ?_ 1 _ rfl; (with_reducible repeat (first | refine bkN ?_ _ | refine bkD ?_ | refine bkA ?_ _)); refine bkp (cs := #[.int .i64 0, .int .i64 0, .int .i64 0]) ?_ 0 _ rfl; (with_reducible repeat (first | refine bkN ?_ _ | refine bkD ?_ | refine bkA ?_ _)); exact BK5.out) Try.underlying25 rfl (by kernel_rfl)) rfl ?_
    exact ⟨rfl, (by repeat (first | (with_reducible first | exact HB5.out | apply bwA | apply pbN | apply bwD | refine bwS ?_ GE1.out | refine bwS ?_ GE2.out) | exact HB5.out))⟩
  ·rw [if_neg c6] at h
   have h := Option.some.inj h
   simp only [Prod.mk.injEq] at h
   obtain ⟨rfl, rfl, rfl, rfl⟩ := h
   have c6b0 : (m == 0) = false := beq_eq_false_iff_ne.mpr c6
   have c6b1 : (m != 0) = true := bne_iff_ne.mpr c6
   go_wp2_with (first | (go_at_call 30; refine (impl_mod.calls R 2 m _ T1.out).mono ?_; rintro e w' ⟨rfl, ⟨nd, rfl⟩⟩; clear T1; have hczb0 := (bkC BK3.out 0).trans rfl; have hczb1 := (bkC BK3.out 1).trans rfl; have hczb2 := (bkC BK3.out 2).trans rfl; have hfzb0 := bkF BK3.out 0; have hfzb1 := bkF BK3.out 1; have hfzb2 := bkF BK3.out 2))
   refine bodyPost_ret (results_ct rfl _ _ g1 25 #[.int .i64 0, .int .i64 0, .int .i64 0] (0, 0) _ rfl (by (with_reducible repeat (first | refine bkN ?_ _ | refine bkD ?_ | refine bkA ?_ _)); refine bkp (cs := #[.int .i64 0, .int .i64 0, .int .i64 0]) ?_ 2 _ rfl; (with_reducible repeat (first | refine bkN ?_ _ | refine bkD ?_ | refine bkA ?_ _)); refine bkp (cs := #[.int .i64 0, .int .i64 0, .int .i64 0]) ?_ 1 _ rfl; (with_reducible repeat (first | refine bkN ?_ _ | refine bkD ?_ | refine bkA ?_ _)); refine bkp (cs := #[.int .i64 0, .int .i64 0, .int .i64 0]) ?_ 0 _ rfl; (with_reducible repeat (first | refine bkN ?_ _ | refine bkD ?_ | refine bkA ?_ _)); exact BK3.out) Try.underlying25 rfl (by kernel_rfl)) rfl ?_
   exact ⟨rfl, (by repeat (first | (with_reducible first | exact HB3.out | apply bwA | apply pbN | apply bwD | refine bwS ?_ GE1.out | refine bwS ?_ GE2.out) | exact HB3.out))⟩
 ·rw [if_neg c4] at h
  exact absurd h (by simp)

end Go.Proofs.Ytjmhcbilefnhdaa.P
