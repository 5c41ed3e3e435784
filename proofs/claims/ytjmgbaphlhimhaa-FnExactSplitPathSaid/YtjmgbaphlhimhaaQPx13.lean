-- By this session's driver (wip/tools/mk.py) of the kit's print program, over several statements at once. Not trusted: Lean checks it.
import Derived.Test.YtjmgbaphlhimhaaQPx0
import Derived.Test.YtjmgbaphlhimhaaQPx9
import Derived.Test.YtjmgbaphlhimhaaQPx12
namespace Go.Proofs.Ytjmgbaphlhimhaa.P
open Go.RowKit Go.Proofs.YtjmgbaphlhimhaaW.PrintWords Go.Proofs.YtjmgbaphlhimhaaW.PrintLast Go.Proofs.YtjmgbaphlhimhaaW.PrintMore
attribute [local go_sem] max2_int min2_int max_two min_two max_three min_three max_four min_four   -- for this text's walks alone
set_option linter.unusedVariables false
set_option linter.unusedSimpArgs false
theorem bw_13 {n : Nat} {v v' : World} (h : Below n v v' := by repeat (first | (with_reducible first | exact HB.out | apply bwA | apply pbN | apply bwD) | exact HB.out)) : Below n v v' := h

/-! ### impl_sideAt: function 101 -/
def impl_sideAt.l0 : Nat → Int → List (List Int) → Int → Int → Option (Int × Int)
 | 0, _, _, _, _ => none
 | k + 1, x1, x9, x10, x11 => if x11 < x10 then (if 0 ≤ x11 then (if x11 < (x9.length : Int) then ((impl_indexOf.f k (rd_L1 x9 x11) x1).bind fun t269 => (if t269 ≥ 0 then (some (x11, t269)) else (impl_sideAt.l0 k x1 x9 x10 (wrap64 (x11 + 1))))) else (none)) else (none)) else (some ((-1), (-1)))
def impl_sideAt.f (k : Nat) (l0 : List (List Int)) (a1 : Int) : Option (Int × Int) := impl_sideAt.l0 k a1 l0 (l0.length : Int) 0
theorem impl_sideAt.mono_l : ∀ k, (∀ y0 y1 y2 y3, LeO (impl_sideAt.l0 k y0 y1 y2 y3) (impl_sideAt.l0 (k + 1) y0 y1 y2 y3))
 | 0 => fun _ _ _ _ r h => by simp [impl_sideAt.l0] at h
 | k + 1 => by
  have ih0 := impl_sideAt.mono_l k
  ·intro y0 y1 y2 y3
   unfold impl_sideAt.l0
   repeat' first
   | (with_reducible exact ih0 _ _ _ _)
   | (with_reducible exact impl_indexOf.mono _ _ _)
   | (with_reducible exact LeO.refl _)
   | (with_reducible exact LeO.none _)
   | (with_reducible refine LeO.ite ?_ ?_)
   | (with_reducible refine LeO.bind ?_ (fun _ => ?_))
   | exact ih0 _ _ _ _
   | exact impl_indexOf.mono _ _ _
   | exact LeO.none _
   | refine LeO.ite ?_ ?_
   | refine LeO.bind ?_ (fun _ => ?_)
theorem impl_sideAt.mono : ∀ a0 a1 k, LeO (impl_sideAt.f k a0 a1) (impl_sideAt.f (k + 1) a0 a1) := by
 intro a0 a1 k
 have ih0 := impl_sideAt.mono_l k
 unfold impl_sideAt.f
 repeat' first
   | (with_reducible exact ih0 _ _ _ _)
   | (with_reducible exact impl_indexOf.mono _ _ _)
   | (with_reducible exact LeO.refl _)
   | (with_reducible exact LeO.none _)
   | (with_reducible refine LeO.ite ?_ ?_)
   | (with_reducible refine LeO.bind ?_ (fun _ => ?_))
   | exact ih0 _ _ _ _
   | exact impl_indexOf.mono _ _ _
   | exact LeO.none _
   | refine LeO.ite ?_ ?_
   | refine LeO.bind ?_ (fun _ => ?_)
set_option maxHeartbeats 8000000 in
set_option maxRecDepth 100000 in
theorem impl_sideAt.calls (k : Nat) (A0 : Option Addr) (c0 : Nat) (l0 : List (List Int)) (a1 : Int) (r1 : Int) (r2 : Int) (w : World) (hr0 : Kd.C (Kd.slice 3 (Kd.int .i64)) w A0 l0.length l0) (hc0 : l0.length ≤ c0) (h : impl_sideAt.f k l0 a1 = some (r1, r2)) :
  Calls Try.prog 101 #[.slice A0 l0.length c0, .int .i64 a1] w fun e w' => e = .returned (.tuple #[.int .i64 r1, .int .i64 r2]) ∧ Drawn0 w w' := by
 have HR0 := Az.mk hr0
 have HC0 := Az.mk hc0
 clear hr0 hc0
 have H : (impl_sideAt.l0 k a1 l0 (l0.length : Int) 0) = some (r1, r2) := h
 clear h
 have H' := Az.mk H
 clear H
 go_enter Try.func101, Try.ntmps101
 go_wp2
 go_loopg [11] k (fun kq v11 w' => ∃ (x11_1 : Int), v11 = .int .i64 x11_1 ∧ Az (impl_sideAt.l0 kq a1 l0 (l0.length : Int) x11_1 = some (r1, r2)) ∧ Az (kq ≤ k) ∧ Drawn0 w w')
 case atStart => exact ⟨(0), (by first | rfl | (simp; done) | (simp [*]; done)), H', ⟨Nat.le_refl _⟩, by repeat (first | exact Drawn0.refl _ | apply Drawn0.step)⟩
 case round =>
  clear H'
  try clear c1
  try clear p2
  obtain ⟨x11_1, rfl, HA, HK1, ⟨m1, rfl⟩⟩ := hrel
  cases gk with
  | zero => exact absurd HA.out (by simp [impl_sideAt.l0])
  | succ k1 =>
   have H := HA.out
   clear HA
   simp only [impl_sideAt.l0] at H
   by_cases c3 : x11_1 < (l0.length : Int)
   rotate_left
   ·rw [if_neg c3] at H
    have c3b0 : decide (x11_1 < (l0.length : Int)) = false := decide_eq_false c3
    clear c3
    simp only [Option.some.injEq, Prod.mk.injEq] at H
    obtain ⟨rfl, rfl⟩ := H
    go_wp2
    go_ret2
    exact ⟨by first | rfl | (simp; done) | (simp [*]; done), by repeat (first | exact Drawn0.refl _ | apply Drawn0.step)⟩
   rw [if_pos c3] at H
   have c3b0 : decide (x11_1 < (l0.length : Int)) = true := decide_eq_true c3
   clear c3
   by_cases c4 : 0 ≤ x11_1
   rotate_left
   ·rw [if_neg c4] at H
    exact absurd H (by simp)
   rw [if_pos c4] at H
   have c4b0 : decide (0 ≤ x11_1) = true := decide_eq_true c4
   clear c4
   by_cases c5 : x11_1 < (l0.length : Int)
   rotate_left
   ·rw [if_neg c5] at H
    exact absurd H (by simp)
   rw [if_pos c5] at H
   have c5b0 : decide (x11_1 < (l0.length : Int)) = true := decide_eq_true c5
   clear c5
   replace H := Option.bind_eq_some_iff.mp H
   obtain ⟨t269, A60, H⟩ := H
   try dsimp only at H
   have A6 := Az.mk A60
   clear A60
   by_cases c7 : t269 ≥ 0
   ·rw [if_pos c7] at H
    have c7b0 : decide (0 ≤ t269) = true := decide_eq_true c7
    clear c7
    simp only [Option.some.injEq, Prod.mk.injEq] at H
    obtain ⟨rfl, rfl⟩ := H
    have p268 : 0 ≤ (x11_1 : Int) := of_decide_eq_true (by first | (with_reducible assumption) | assumption)
    have q268 : x11_1 < (l0.length : Int) := of_decide_eq_true (by first | (with_reducible assumption) | assumption)
    obtain ⟨ad268, A268_0, c268_0, e268, hx268_0, hl268_0, hi268_0⟩ := at_L1 HR0.out x11_1 p268 q268
    cases e268
    have HR268_0 := Az.mk hi268_0
    have HC268_0 := Az.mk hl268_0
    clear hi268_0 hl268_0
    replace p268 := eq_true p268
    replace q268 := eq_true q268
    go_wp2_with (first | ((with_reducible refine gtC (f := 121) rfl ?_); refine goesL_ (some 18) rfl rfl Try.func121 (by kernel_rfl) rfl #[.slice A268_0 (rd_L1 l0 x11_1).length c268_0, .int .i64 a1] rfl (by (try simp only [List.map_toArray, List.map_cons, List.map_nil]); first | done | rfl | (simp only [List.length_drop, List.length_take]; rfl)) ?_; (with_reducible refine (impl_indexOf.calls k1 _ _ (rd_L1 l0 x11_1) a1 t269 _ ?side1 ?side2 A6.out).mono ?_); (case side1 => repeat (first | exact HR268_0.out | (with_reducible refine Kd.C_alloc ?_ _) | (with_reducible refine Kd.C_drewN ?_ _) | (with_reducible refine Kd.C_drew ?_))); (case side2 => exact HC268_0.out); rintro e w' ⟨rfl, ⟨nd, rfl⟩⟩; refine ⟨_, rfl, ?_⟩))
    go_ret2
    exact ⟨by first | rfl | (simp; done) | (simp [*]; done), by repeat (first | exact Drawn0.refl _ | apply Drawn0.step)⟩
   rw [if_neg c7] at H
   have c7b0 : decide (0 ≤ t269) = false := decide_eq_false c7
   clear c7
   have H' := Az.mk H
   clear H
   have p268 : 0 ≤ (x11_1 : Int) := of_decide_eq_true (by first | (with_reducible assumption) | assumption)
   have q268 : x11_1 < (l0.length : Int) := of_decide_eq_true (by first | (with_reducible assumption) | assumption)
   obtain ⟨ad268, A268_0, c268_0, e268, hx268_0, hl268_0, hi268_0⟩ := at_L1 HR0.out x11_1 p268 q268
   cases e268
   have HR268_0 := Az.mk hi268_0
   have HC268_0 := Az.mk hl268_0
   clear hi268_0 hl268_0
   replace p268 := eq_true p268
   replace q268 := eq_true q268
   go_wp2_with (first | ((with_reducible refine gtC (f := 121) rfl ?_); refine goesL_ (some 18) rfl rfl Try.func121 (by kernel_rfl) rfl #[.slice A268_0 (rd_L1 l0 x11_1).length c268_0, .int .i64 a1] rfl (by (try simp only [List.map_toArray, List.map_cons, List.map_nil]); first | done | rfl | (simp only [List.length_drop, List.length_take]; rfl)) ?_; (with_reducible refine (impl_indexOf.calls k1 _ _ (rd_L1 l0 x11_1) a1 t269 _ ?side1 ?side2 A6.out).mono ?_); (case side1 => repeat (first | exact HR268_0.out | (with_reducible refine Kd.C_alloc ?_ _) | (with_reducible refine Kd.C_drewN ?_ _) | (with_reducible refine Kd.C_drew ?_))); (case side2 => exact HC268_0.out); rintro e w' ⟨rfl, ⟨nd, rfl⟩⟩; refine ⟨_, rfl, ?_⟩))
   go_roundg k1
   case measure => have := HK1.out; omega
   case rel => exact ⟨(wrap64 (x11_1 + 1)), (by first | rfl | (simp; done) | (simp [*]; done)), H', ⟨by have := HK1.out; omega⟩, by repeat (first | exact Drawn0.refl _ | apply Drawn0.step)⟩

-- NOT PRINTED: function 103 (impl_joiner_top)

-- NOT PRINTED: function 102 (impl_joiner_join)

/-! ### impl_vertices: function 64 -/
mutual
def impl_vertices.l0 : Nat → List (List Int) → List Int → Int → Option (List Int)
 | 0, _, _, _ => none
 | k + 1, t, xs, i => if i < (t.length : Int) then (if 0 ≤ i then (impl_vertices.l1 k t xs i 0) else none) else (some xs)
def impl_vertices.l1 : Nat → List (List Int) → List Int → Int → Int → Option (List Int)
 | 0, _, _, _, _ => none
 | k + 1, t, xs, i, j => if j < ((rd_L1 t i).length : Int) then (if 0 ≤ j then ((impl_sideAt.f k t (wrap64 (-(rd (rd_L1 t i) j)))).bind fun s => ((joiner_join.f k xs (wrap64 (wrap64 (3 * i) + j)) (wrap64 (wrap64 (3 * s.1) + Int.tmod (wrap64 (s.2 + 1)) 3))).bind fun ys => ((joiner_join.f k ys (wrap64 (wrap64 (3 * i) + Int.tmod (wrap64 (j + 1)) 3)) (wrap64 (wrap64 (3 * s.1) + s.2))).bind fun zs => (impl_vertices.l1 k t zs i (wrap64 (j + 1)))))) else none) else (impl_vertices.l0 k t xs (wrap64 (i + 1)))
end
def impl_vertices.f (k : Nat) (t : List (List Int)) : Option (List Int) := (impl_newJoiner.l0 k (wrap64 (3 * (t.length : Int))) [] 0).bind fun xs => impl_vertices.l0 k t xs 0
theorem impl_vertices.mono_l : ∀ k, (∀ y0 y1 y2, LeO (impl_vertices.l0 k y0 y1 y2) (impl_vertices.l0 (k + 1) y0 y1 y2)) ∧ (∀ y0 y1 y2 y3, LeO (impl_vertices.l1 k y0 y1 y2 y3) (impl_vertices.l1 (k + 1) y0 y1 y2 y3))
 | 0 => ⟨fun _ _ _ r h => by simp [impl_vertices.l0] at h, fun _ _ _ _ r h => by simp [impl_vertices.l1] at h⟩
 | k + 1 => by
  obtain ⟨ih0, ih1⟩ := impl_vertices.mono_l k
  refine ⟨?_, ?_⟩
  ·intro y0 y1 y2
   unfold impl_vertices.l0
   repeat' first
   | (with_reducible exact ih1 _ _ _ _)
   | (with_reducible exact LeO.refl _)
   | (with_reducible exact LeO.none _)
   | (with_reducible refine LeO.ite ?_ ?_)
   | (with_reducible refine LeO.bind ?_ (fun _ => ?_))
  intro y0 y1 y2 y3
  unfold impl_vertices.l1
  repeat' first
  | (with_reducible exact ih0 _ _ _)
  | (with_reducible exact ih1 _ _ _ _)
  | (with_reducible exact impl_sideAt.mono _ _ _)
  | (with_reducible exact joiner_join.mono _ _ _ _)
  | (with_reducible exact LeO.refl _)
  | (with_reducible exact LeO.none _)
  | (with_reducible refine LeO.ite ?_ ?_)
  | (with_reducible refine LeO.bind ?_ (fun _ => ?_))
theorem impl_vertices.mono : ∀ a0 k, LeO (impl_vertices.f k a0) (impl_vertices.f (k + 1) a0) := by
 intro a0 k
 unfold impl_vertices.f
 refine LeO.bind (impl_newJoiner.mono _ _ _ _) (fun _ => (impl_vertices.mono_l k).1 _ _ _)
set_option maxHeartbeats 8000000 in
set_option maxRecDepth 100000 in
theorem impl_vertices.calls (k : Nat) (A0 : Option Addr) (c0 : Nat) (l0 : List (List Int)) (xs : List Int) (w : World) (hr0 : Kd.C (Kd.slice 3 (Kd.int .i64)) w A0 l0.length l0) (hc0 : l0.length ≤ c0) (h : impl_vertices.f k l0 = some xs) :
  Calls Try.prog 64 #[.slice A0 l0.length c0] w fun e w' => ∃ (p : Nat) (A : Option Addr) (c : Nat), e = .returned (.pointer (some ⟨p, 0, none⟩)) ∧ Jn w' w.heap.size p A c xs ∧ Below w.heap.size w w' := by
 have HR0 := Az.mk hr0
 have HC0 := Az.mk hc0
 clear hr0 hc0
 unfold impl_vertices.f at h
 obtain ⟨ns, T0, h⟩ := Option.bind_eq_some_iff.mp h
 have T0 := Az.mk T0
 have H' := Az.mk h
 clear h
 have HB := Az.mk (Below.refl w.heap.size w)
 go_enter Try.func64, Try.ntmps64
 go_wp2_with (first
  | (go_at_call 100; refine (impl_newJoiner.calls k _ ns w _ (by first | exact pbN HB.out _ | exact HB.out) T0.out).mono ?_; rintro e W1 ⟨p, AJ, cJ, rfl, hj, hb, _⟩; have HJ1 := Az.mk hj; have HB1 := Az.mk hb; clear hj hb T0))
 go_loopg [16] k (fun kq v16 w' => ∃ (xs_1 : List Int) (i_1 : Int), v16 = .int .i64 i_1 ∧ Az (impl_vertices.l0 kq l0 xs_1 i_1 = some xs) ∧ Az (kq ≤ k) ∧ Az (Jn w' w.heap.size p AJ cJ xs_1) ∧ Az (Below w.heap.size w w'))
 case atStart => exact ⟨ns, 0, rfl, H', ⟨Nat.le_refl _⟩, HJ1, HB1⟩
 case round =>
  clear H' HB HJ1 HB1
  obtain ⟨xs_1, i_1, rfl, HA, HK1, HJ, HB⟩ := hrel
  cases gk with
  | zero => exact absurd HA.out (by simp [impl_vertices.l0])
  | succ k1 =>
   have H := HA.out
   clear HA
   simp only [impl_vertices.l0] at H
   by_cases b2 : i_1 < (l0.length : Int)
   rotate_left
   ·rw [if_neg b2] at H
    have b2b : decide (i_1 < (l0.length : Int)) = false := decide_eq_false b2
    clear b2
    obtain rfl := Option.some.inj H
    go_wp2
    go_ret
    exact ⟨_, rfl, ⟨_, _, HJ.out⟩, HB.out⟩
   rw [if_pos b2] at H
   by_cases b1 : 0 ≤ i_1
   rotate_left
   ·rw [if_neg b1] at H
    exact absurd H (by simp)
   rw [if_pos b1] at H
   obtain ⟨ad, A1, c1, e1, hx1, hl1, hi1⟩ := at_L1 HR0.out i_1 b1 b2
   subst e1
   replace hx1 := (HB.out.cell (World.block_lt_of_cell? w _ hx1)).trans hx1
   have HR1 := Az.mk hi1
   have HC1 := Az.mk hl1
   clear hi1 hl1
   have H' := Az.mk H
   clear H
   have b2b := decide_eq_true b2
   replace b1 := eq_true b1
   replace b2 := eq_true b2
   go_wp2
   go_loopg [23] k1 (fun kq v23 w' => ∃ (xs_2 : List Int) (j_1 : Int), v23 = .int .i64 j_1 ∧ Az (impl_vertices.l1 kq l0 xs_2 i_1 j_1 = some xs) ∧ Az (kq ≤ k1) ∧ Az (Jn w' w.heap.size p AJ cJ xs_2) ∧ Az (Below w.heap.size w w'))
   case atStart => exact ⟨xs_1, 0, rfl, H', ⟨Nat.le_refl _⟩, HJ, HB⟩
   case round =>
    clear H' HJ HB hx1
    obtain ⟨xs_2, j_1, rfl, HA, HK2, HJ, HB⟩ := hrel
    cases gk with
    | zero => exact absurd HA.out (by simp [impl_vertices.l1])
    | succ k2 =>
     have H := HA.out
     clear HA
     simp only [impl_vertices.l1] at H
     by_cases d2 : j_1 < ((rd_L1 l0 i_1).length : Int)
     rotate_left
     ·rw [if_neg d2] at H
      have d2b : decide (j_1 < ((rd_L1 l0 i_1).length : Int)) = false := decide_eq_false d2
      clear d2
      have H' := Az.mk H
      clear H
      go_wp2
      go_roundg k2
      case measure => have := HK1.out; have := HK2.out; omega
      case rel => exact ⟨xs_2, _, rfl, H', ⟨by have := HK1.out; have := HK2.out; omega⟩, HJ, HB⟩
     rw [if_pos d2] at H
     by_cases d1 : 0 ≤ j_1
     rotate_left
     ·rw [if_neg d1] at H
      exact absurd H (by simp)
     rw [if_pos d1] at H
     obtain ⟨⟨s1, s2⟩, T1, H⟩ := Option.bind_eq_some_iff.mp H
     obtain ⟨ys, T2, H⟩ := Option.bind_eq_some_iff.mp H
     obtain ⟨zs, T3, H⟩ := Option.bind_eq_some_iff.mp H
     obtain ⟨ad2, e2, hx2⟩ := Kd.at_int HR1.out j_1 d1 d2
     subst e2
     replace hx2 := (HB.out.cell (World.block_lt_of_cell? w _ hx2)).trans hx2
     obtain ⟨X, hX⟩ : ∃ j_ : Int, rd (rd_L1 l0 i_1) j_1 = j_ := ⟨_, rfl⟩
     rw [hX] at T1 hx2
     clear hX
     have T1 := Az.mk T1
     have T2 := Az.mk T2
     have T3 := Az.mk T3
     have H' := Az.mk H
     clear H
     have d2b := decide_eq_true d2
     replace d1 := eq_true d1
     replace d2 := eq_true d2
     go_wp2_with (first
      | (go_at_call 101; refine (impl_sideAt.calls k2 _ c0 l0 _ s1 s2 _ (by first | exact Kd.C_drewN (Kd.C_below HR0.out HB.out) _ | exact Kd.C_below HR0.out HB.out) HC0.out T1.out).mono ?_; rintro e w' ⟨rfl, ⟨nd1, rfl⟩⟩; clear T1)
      | (go_at_call 102; refine (joiner_join.calls k2 p AJ cJ xs_2 ys _ _ w _ (by first | exact pbN HB.out _ | exact HB.out) (by first | exact HJ.out.drewN _ | exact HJ.out) T2.out).mono ?_; rintro e W2 ⟨rfl, hj, hb⟩; clear T2 HB HJ; have HJ2 := Az.mk hj; have HB2 := Az.mk hb; clear hj hb)
      | (go_at_call 102; refine (joiner_join.calls k2 p AJ cJ ys zs _ _ w _ (by first | exact pbN HB2.out _ | exact HB2.out) (by first | exact HJ2.out.drewN _ | exact HJ2.out) T3.out).mono ?_; rintro e W3 ⟨rfl, hj, hb⟩; clear T3 HB2 HJ2; have HJ3 := Az.mk hj; have HB3 := Az.mk hb; clear hj hb))
     go_roundg k2
     case measure => have := HK1.out; have := HK2.out; omega
     case rel => exact ⟨zs, _, rfl, H', ⟨by have := HK2.out; omega⟩, HJ3, HB3⟩

/-! ### impl_copyOf: function 65 -/
def impl_copyOf.f (l0 : List Int) : Option (List Int) := (some (([] : List Int) : List Int)).bind fun y272 => (if y272.length + l0.length < 17592186044416 then (some (y272 ++ l0)) else (none))
set_option maxHeartbeats 8000000 in
set_option maxRecDepth 100000 in
theorem impl_copyOf.calls (A0 : Option Addr) (c0 : Nat) (l0 : List Int) (r : List Int) (w : World) (hr0 : Kd.C (Kd.int .i64) w A0 l0.length l0) (hc0 : l0.length ≤ c0) (h : impl_copyOf.f l0 = some r) :
  Calls Try.prog 65 #[.slice A0 l0.length c0] w fun e w' => ∃ v0_ : Value, e = .returned (v0_) ∧ Kd.R (Kd.int .i64) 3 w' w.heap.size (fun _ => True) v0_ r ∧ Below w.heap.size w w' := by
 have HR0 := Az.mk hr0
 have HC0 := Az.mk hc0
 clear hr0 hc0
 have HB := Az.mk (Below.refl w.heap.size w)
 have H : ((some (([] : List Int) : List Int)).bind fun y272 => (if y272.length + l0.length < 17592186044416 then (some (y272 ++ l0)) else (none))) = some r := h
 clear h
 obtain ⟨y272, hy272⟩ : ∃ y_ : List Int, y_ = (([] : List Int)) := ⟨_, rfl⟩
 replace H : (if y272.length + l0.length < 17592186044416 then (some (y272 ++ l0)) else (none)) = some r := by first | (rw [hy272]; with_reducible exact H) | (have H2_ := (Option.bind_some _ _).symm.trans H; rw [hy272]; with_reducible exact H2_) | (have H2_ := (Option.bind_some _ _).symm.trans H; with_reducible exact H2_) | with_reducible exact H | (rw [hy272]; exact H) | exact H
 have Ny272 := Az.mk hy272
 clear hy272
 by_cases c2 : y272.length + l0.length < 17592186044416
 rotate_left
 ·rw [if_neg c2] at H
  exact absurd H (by simp)
 rw [if_pos c2] at H
 have LMc2 := Az.mk c2
 clear c2
 obtain ⟨y275, hy275⟩ : ∃ y_ : List Int, y_ = (y272 ++ l0) := ⟨_, rfl⟩
 replace H : (some y275) = some r := by first | (rw [hy275]; with_reducible exact H) | (have H2_ := (Option.bind_some _ _).symm.trans H; rw [hy275]; with_reducible exact H2_) | (have H2_ := (Option.bind_some _ _).symm.trans H; with_reducible exact H2_) | with_reducible exact H | (rw [hy275]; exact H) | exact H
 have Ny275 := Az.mk hy275
 clear hy275
 obtain rfl := Option.some.inj H
 go_enter Try.func65, Try.ntmps65
 go_wp2_with (first | ((with_reducible refine gtD (N := 3) rfl ?_); refine Kd.R_lit (Kd.int .i64) _ 3 ?hg (N := 3) ?hd (xs := ([] : List Int)) (inner := []) (ok := fun _ => True) (okp := fun _ => True) ?hr ?hp (fun _ hk => hk) trivial (Below.refl _ _) (Nat.le_refl _) (by simp) ?_; (case hd => rfl); (case hg => rfl); (case hr => first | (go_simp; done) | (go_simp; rfl)); (case hp => exact (Reps.none _ _)); intro v273 w3 ho4 hb hg_ hnew_; clear hg_ hnew_; (first | rw [← Ny272.out] at ho4 | (simp only [Int.reduceToNat] at ho4; rw [← Ny272.out] at ho4)); have n0_ := Az.mk (Kd.R_lower ho4 (bwZ bw_13)); have n1_ := Az.mk (bwT bw_13 hb); clear HB; have HO274 := n0_; have HB := n1_; clear n0_ n1_; clear hb ho4) | ((with_reducible refine gate_builtin (b := .append) (xs := #[.tmp 3, .tmp 4]) rfl ?_); at_builtin; refine Kd.R_append_rows (Kd.int .i64) (w0 := w) w.heap.size rfl (.tmp 3) (.tmp 4) 22 3 (.int .i64 0) 8 rfl Try.underlying22 info3 rfl (by decide) (by omega) v273 y272 l0 _ _ _ (fun _ => True) (fun _ => False) rfl rfl ?aO ?aR (fun _ _ h => h) (fun _ h => h.elim) ?aF ?aB ?aS ?aL ?_; (case aR => repeat (first | exact (Kd.C_below HR0.out HB.out) | (with_reducible refine Kd.C_alloc ?_ _) | (with_reducible refine Kd.C_drewN ?_ _) | (with_reducible refine Kd.C_drew ?_))); (case aB => exact bw_13); (case aF => exact (fun _ _ => trivial)); (case aO => exact (by (with_reducible repeat (first | apply Kd.R_alloc | apply Kd.R_drewN | apply Kd.R_drew)); exact HO274.out)); (case aS => exact (bwZ bw_13)); (case aL => have := LMc2.out; omega); intro v276 w5 ho hb hg hat; rw [← Ny275.out] at ho; have n0_ := Az.mk (hb); have n1_ := Az.mk (ho); clear HB; clear HO274; have HB := n0_; have HO277 := n1_; clear n0_ n1_; clear ho hb hg hat))
 go_ret
 exact ⟨_, by first | rfl | (simp [eWn, eWs] <;> rfl) | (simp [*, eWn, eWs] <;> rfl), by (with_reducible repeat (first | apply Kd.R_alloc | apply Kd.R_drewN | apply Kd.R_drew)); exact HO277.out, bw_13⟩

/-! ### impl_arcs: function 104 -/
theorem size_still (a0 : Int) (r : Int) (w : World) (h : impl_size.f a0 = some r) :
  Calls Try.prog 85 #[.int .i64 a0] w fun e w' => e = .returned (.int .i64 r) ∧ w' = w := by
 have H : (some (mx a0 (wrap64 (-a0)))) = some r := h
 clear h
 obtain ⟨ji2, hji2⟩ : ∃ j_ : Int, (mx a0 (wrap64 (-a0))) = j_ := ⟨_, rfl⟩
 replace H : (some ji2) = some r := by first | (rw [hji2] at H; exact H) | (simp only [hji2] at H ⊢; exact H)
 have hji2_ : (if a0 < (wrap64 (-a0)) then (wrap64 (-a0)) else a0) = ji2 := hji2
 obtain rfl := Option.some.inj H
 go_enter Try.func85, Try.ntmps85
 go_wp2
 go_ret
 exact ⟨by first | rfl | (simp [eWn, eWs] <;> rfl) | (simp only [← hji2]; first | rfl | (simp [eWn, eWs] <;> rfl)) | (simp [*, eWn, eWs] <;> rfl), rfl⟩

/-- The coordinate at a side of a triangle: the closure's own contract. -/
def arcsAt.f (l0 : List (List Int)) (l1 : List Int) (a2 i : Int) : Option Int :=
 if 0 ≤ a2 then (if a2 < (l0.length : Int) then (if 0 ≤ Int.tmod i 3 then (if Int.tmod i 3 < ((rd_L1 l0 a2).length : Int) then ((impl_size.f (rd (rd_L1 l0 a2) (Int.tmod i 3))).bind fun s => if 0 ≤ wrap64 (s - 1) then (if wrap64 (s - 1) < (l1.length : Int) then some (rd l1 (wrap64 (s - 1))) else none) else none) else none) else none) else none) else none

set_option maxHeartbeats 8000000 in
set_option maxRecDepth 100000 in
theorem arcsAt.calls (i : Int) (p1 p2 p3 : Addr) (A0 : Option Addr) (c0 : Nat) (l0 : List (List Int)) (A1 : Option Addr) (c1 : Nat) (l1 : List Int) (a2 : Int) (r : Int) (w : World)
  (h1 : w.cell? p1 = some (.slice A1 l1.length c1)) (h2 : w.cell? p2 = some (.slice A0 l0.length c0)) (h3 : w.cell? p3 = some (.int .i64 a2))
  (hr0 : Kd.C (Kd.slice 3 (Kd.int .i64)) w A0 l0.length l0) (hr1 : Kd.C (Kd.int .i64) w A1 l1.length l1) (h : arcsAt.f l0 l1 a2 i = some r) :
  Calls Try.prog 122 #[.int .i64 i, .pointer (some p1), .pointer (some p2), .pointer (some p3)] w fun e w' => e = .returned (.int .i64 r) ∧ Drawn0 w w' := by
 have HR0 := Az.mk hr0
 have HR1 := Az.mk hr1
 clear hr0 hr1
 unfold arcsAt.f at h
 by_cases b1 : 0 ≤ a2
 rotate_left
 ·rw [if_neg b1] at h; exact absurd h (by simp)
 rw [if_pos b1] at h
 by_cases b2 : a2 < (l0.length : Int)
 rotate_left
 ·rw [if_neg b2] at h; exact absurd h (by simp)
 rw [if_pos b2] at h
 by_cases b3 : 0 ≤ Int.tmod i 3
 rotate_left
 ·rw [if_neg b3] at h; exact absurd h (by simp)
 rw [if_pos b3] at h
 by_cases b4 : Int.tmod i 3 < ((rd_L1 l0 a2).length : Int)
 rotate_left
 ·rw [if_neg b4] at h; exact absurd h (by simp)
 rw [if_pos b4] at h
 obtain ⟨s, hs, h⟩ := Option.bind_eq_some_iff.mp h
 by_cases b5 : 0 ≤ wrap64 (s - 1)
 rotate_left
 ·rw [if_neg b5] at h; exact absurd h (by simp)
 rw [if_pos b5] at h
 by_cases b6 : wrap64 (s - 1) < (l1.length : Int)
 rotate_left
 ·rw [if_neg b6] at h; exact absurd h (by simp)
 rw [if_pos b6] at h
 obtain rfl := Option.some.inj h
 obtain ⟨ad0, A2, c2, rfl, hx0, _, hi0⟩ := at_L1 HR0.out a2 b1 b2
 obtain ⟨ad1, rfl, hx1⟩ := Kd.at_int hi0 (Int.tmod i 3) b3 b4
 obtain ⟨ad2, rfl, hx2⟩ := Kd.at_int HR1.out (wrap64 (s - 1)) b5 b6
 have HS := Az.mk hs
 clear hs
 obtain ⟨X, hX⟩ : ∃ j_ : Int, rd (rd_L1 l0 a2) (Int.tmod i 3) = j_ := ⟨_, rfl⟩
 obtain ⟨Y, hY⟩ : ∃ j_ : Int, Int.tmod i 3 = j_ := ⟨_, rfl⟩
 obtain ⟨Z, hZ⟩ : ∃ j_ : Int, wrap64 (s - 1) = j_ := ⟨_, rfl⟩
 have hZw : (IntKind.i64.wrap (s - 1)) = Z := (i64_w _).trans hZ
 rw [hX] at hx1
 rw [hY] at b3 b4 hx1
 rw [hZ] at b5 b6 hx2
 have SS : Az (impl_size.f X = some s) := ⟨by rw [← hX]; exact HS.out⟩
 clear HS hX
 replace b1 := eq_true b1
 replace b2 := eq_true b2
 replace b3 := eq_true b3
 replace b4 := eq_true b4
 replace b5 := eq_true b5
 replace b6 := eq_true b6
 go_enter Try.func122, Try.ntmps122
 go_wp2
 go_quiet ((go_at_call 85; refine Calls.quiet_of_same (size_still X s _ SS.out)))
 go_wp2
 go_ret
 exact ⟨by rw [hZ]; rfl, ⟨⟨_, rfl⟩⟩⟩

theorem arcs_drewN (w : World) (n : Nat) (a : Addr) : (w.drewN n).cell? a = w.cell? a := by simp
theorem arcs_new (w : World) (v : Value) (t : TypeId) : (w.alloc (.cells #[v] t)).cell? ⟨w.heap.size, 0, none⟩ = some v := by
 have h := cell_one_new w v t 0 v rfl
 exact h
theorem arcs_old {w : World} {a : Addr} {v : Value} (h : w.cell? a = some v) (o : Obj) : (w.alloc o).cell? a = some v :=
 ((Below.alloc (Below.refl w.heap.size w) (Nat.le_refl _) o).cell (World.block_lt_of_cell? w _ h)).trans h
def impl_arcs.f (l0 : List (List Int)) (l1 : List Int) (a2 a3 : Int) : Option Int :=
 (arcsAt.f l0 l1 a2 a3).bind fun t1 => ((arcsAt.f l0 l1 a2 (wrap64 (a3 + 1))).bind fun t2 => ((arcsAt.f l0 l1 a2 (wrap64 (a3 + 2))).bind fun t3 => (some (wrap64 (Int.tdiv (wrap64 ((wrap64 (t1 + t2)) - t3)) 2)))))

set_option maxHeartbeats 8000000 in
set_option maxRecDepth 100000 in
theorem impl_arcs.calls (A0 : Option Addr) (c0 : Nat) (l0 : List (List Int)) (A1 : Option Addr) (c1 : Nat) (l1 : List Int) (a2 : Int) (a3 : Int) (r : Int) (w : World) (hr0 : Kd.C (Kd.slice 3 (Kd.int .i64)) w A0 l0.length l0) (hc0 : l0.length ≤ c0) (hr1 : Kd.C (Kd.int .i64) w A1 l1.length l1) (hc1 : l1.length ≤ c1) (h : impl_arcs.f l0 l1 a2 a3 = some r) :
  Calls Try.prog 104 #[.slice A0 l0.length c0, .slice A1 l1.length c1, .int .i64 a2, .int .i64 a3] w fun e w' => e = .returned (.int .i64 r) ∧ Below w.heap.size w w' := by
 have HB := Az.mk (Below.refl w.heap.size w)
 have HR0 := Az.mk hr0
 have HR1 := Az.mk hr1
 clear hr0 hr1
 unfold impl_arcs.f at h
 obtain ⟨t1, T1, h⟩ := Option.bind_eq_some_iff.mp h
 obtain ⟨t2, T2, h⟩ := Option.bind_eq_some_iff.mp h
 obtain ⟨t3, T3, h⟩ := Option.bind_eq_some_iff.mp h
 obtain rfl := Option.some.inj h
 obtain ⟨WW, hWW⟩ : ∃ v, ((w.alloc (.cells #[.slice A0 l0.length c0] 39)).alloc (.cells #[.slice A1 l1.length c1] 22)).alloc (.cells #[.int .i64 a2] 3) = v := ⟨_, rfl⟩
 obtain ⟨W1, e1⟩ : ∃ v, w.alloc (.cells #[.slice A0 l0.length c0] 39) = v := ⟨_, rfl⟩
 obtain ⟨W2, e2⟩ : ∃ v, W1.alloc (.cells #[.slice A1 l1.length c1] 22) = v := ⟨_, rfl⟩
 have e3 : W2.alloc (.cells #[.int .i64 a2] 3) = WW := by rw [← e2, ← e1]; exact hWW
 have s1 : W1.heap.size = w.heap.size + 1 := by rw [← e1]; exact Array.size_push _
 have s2 : W2.heap.size = w.heap.size + 1 + 1 := by rw [← e2, ← s1]; exact Array.size_push _
 have g2 : WW.cell? ⟨w.heap.size, 0, none⟩ = some (.slice A0 l0.length c0) := by
  rw [← e3]; refine arcs_old ?_ _
  rw [← e2]; refine arcs_old ?_ _
  rw [← e1]; exact arcs_new _ _ _
 have g1 : WW.cell? ⟨w.heap.size + 1, 0, none⟩ = some (.slice A1 l1.length c1) := by
  rw [← e3]; refine arcs_old ?_ _
  rw [← s1, ← e2]; exact arcs_new _ _ _
 have g3 : WW.cell? ⟨w.heap.size + 1 + 1, 0, none⟩ = some (.int .i64 a2) := by
  rw [← e3, ← s2]; exact arcs_new _ _ _
 clear e1 e2 e3 s1 s2
 have g4 : Kd.C (Kd.slice 3 (Kd.int .i64)) WW A0 l0.length l0 := by
  rw [← hWW]
  exact Kd.C_alloc (Kd.C_alloc (Kd.C_alloc HR0.out _) _) _
 have g5 : Kd.C (Kd.int .i64) WW A1 l1.length l1 := by
  rw [← hWW]
  exact Kd.C_alloc (Kd.C_alloc (Kd.C_alloc HR1.out _) _) _
 have hb : Below w.heap.size w WW := by
  rw [← hWW]
  repeat (first | (with_reducible first | exact HB.out | apply bwA))
 have KK : ∀ i t, arcsAt.f l0 l1 a2 i = some t → ∀ W', Drawn0 WW W' → Calls Try.prog 122 #[.int .i64 i, .pointer (some ⟨w.heap.size + 1, 0, none⟩), .pointer (some ⟨w.heap.size, 0, none⟩), .pointer (some ⟨w.heap.size + 1 + 1, 0, none⟩)] W' fun e w' => e = .returned (.int .i64 t) ∧ Drawn0 W' w' := by
  rintro i t ht W' ⟨n, rfl⟩
  exact arcsAt.calls i _ _ _ A0 c0 l0 A1 c1 l1 a2 t _ ((arcs_drewN _ _ _).trans g1) ((arcs_drewN _ _ _).trans g2) ((arcs_drewN _ _ _).trans g3) (Kd.C_drewN g4 _) (Kd.C_drewN g5 _) ht
 have K1 := KK _ _ T1
 have K2 := KK _ _ T2
 have K3 := KK _ _ T3
 clear KK g1 g2 g3 g4 g5
 go_enter Try.func104, Try.ntmps104
 go_upto_region 2 with (fail)
 go_wp2_with (first
  | (go_at_call 122; refine (K1 _ (by repeat (first | exact Drawn0.refl _ | apply Drawn0.step))).mono ?_; rintro e w' ⟨rfl, ⟨nd1, rfl⟩⟩; clear K1)
  | (go_at_call 122; refine (K2 _ (by repeat (first | exact Drawn0.refl _ | apply Drawn0.step))).mono ?_; rintro e w' ⟨rfl, ⟨nd2, rfl⟩⟩; clear K2)
  | (go_at_call 122; refine (K3 _ (by repeat (first | exact Drawn0.refl _ | apply Drawn0.step))).mono ?_; rintro e w' ⟨rfl, ⟨nd3, rfl⟩⟩; clear K3))
 go_ret
 exact ⟨rfl, pbN hb _⟩

end Go.Proofs.Ytjmgbaphlhimhaa.P
