-- By this session's driver (wip/tools/mk.py) of the kit's print program, over several statements at once. Not trusted: Lean checks it.
import Derived.Test.YtolmicnapemljaaQPx0
import Derived.Test.YtolmicnapemljaaQPx6
import Derived.Test.YtolmicnapemljaaQPx12
namespace Go.Proofs.Ytolmicnapemljaa.P
open Go.RowKit Go.Proofs.YtolmicnapemljaaW.PrintWords Go.Proofs.YtolmicnapemljaaW.PrintLast Go.Proofs.YtolmicnapemljaaW.PrintMore
attribute [local go_sem] max2_int min2_int max_two min_two max_three min_three max_four min_four   -- for this text's walks alone
set_option linter.unusedVariables false
set_option linter.unusedSimpArgs false

/-! ### impl_vertices: function 96 -/
mutual
def impl_vertices.l0 : Nat → List (List Int) → List Int → Int → Option (List Int)
 | 0, _, _, _ => none
 | k + 1, t, xs, i => if i < (t.length : Int) then (if 0 ≤ i then (impl_vertices.l1 k t xs i 0) else none) else (some xs)
def impl_vertices.l1 : Nat → List (List Int) → List Int → Int → Int → Option (List Int)
 | 0, _, _, _, _ => none
 | k + 1, t, xs, i, j => if j < ((rd_L1 t i).length : Int) then (if 0 ≤ j then ((impl_sideAt.f k t (wrap64 (-(rd (rd_L1 t i) j)))).bind fun s => ((joiner_join.f k xs (wrap64 (wrap64 (3 * i) + j)) (wrap64 (wrap64 (3 * s.1) + Int.tmod (wrap64 (s.2 + 1)) 3))).bind fun ys => ((joiner_join.f k ys (wrap64 (wrap64 (3 * i) + Int.tmod (wrap64 (j + 1)) 3)) (wrap64 (wrap64 (3 * s.1) + s.2))).bind fun zs => (impl_vertices.l1 k t zs i (wrap64 (j + 1)))))) else none) else (impl_vertices.l0 k t xs (wrap64 (i + 1)))
end
def impl_vertices.f (k : Nat) (t : List (List Int)) : Option (List Int) := (impl_newJoiner.l0 k (wrap64 (3 * (t.length : Int))) [] 0).bind fun xs => impl_vertices.l0 k t xs 0
theorem impl_vertices.mono_l : ∀ k, (∀ y0 y1 y2, LeO (impl_vertices.l0 k y0 y1 y2) (impl_vertices.l0 (k + 1) y0 y1 y2)) ∧ (∀ y0 y1 y2 y3, LeO (impl_vertices.l1 k y0 y1 y2 y3) (impl_vertices.l1 (k + 1) y0 y1 y2 y3))
 | 0 => ⟨fun _ _ _ r h => by simp [impl_vertices.l0] at h, fun _ _ _ _ r h => by simp [impl_vertices.l1] at h⟩
 | k + 1 => by
  obtain ⟨ih0, ih1⟩ := impl_vertices.mono_l k
  refine ⟨?_, ?_⟩
  ·intro y0 y1 y2
   unfold impl_vertices.l0
   repeat' first
   | (with_reducible exact ih1 _ _ _ _)
   | (with_reducible exact LeO.refl _)
   | (with_reducible exact LeO.none _)
   | (with_reducible refine LeO.ite ?_ ?_)
   | (with_reducible refine LeO.bind ?_ (fun _ => ?_))
  ·intro y0 y1 y2 y3
   unfold impl_vertices.l1
   repeat' first
   | (with_reducible exact ih0 _ _ _)
   | (with_reducible exact ih1 _ _ _ _)
   | (with_reducible exact impl_sideAt.mono _ _ _)
   | (with_reducible exact joiner_join.mono _ _ _ _)
   | (with_reducible exact LeO.refl _)
   | (with_reducible exact LeO.none _)
   | (with_reducible refine LeO.ite ?_ ?_)
   | (with_reducible refine LeO.bind ?_ (fun _ => ?_))
theorem impl_vertices.mono : ∀ a0 k, LeO (impl_vertices.f k a0) (impl_vertices.f (k + 1) a0) := by
 intro a0 k
 unfold impl_vertices.f
 refine LeO.bind (impl_newJoiner.mono _ _ _ _) (fun _ => (impl_vertices.mono_l k).1 _ _ _)
set_option maxHeartbeats 8000000 in
set_option maxRecDepth 100000 in
theorem impl_vertices.calls (k : Nat) (A0 : Option Addr) (c0 : Nat) (l0 : List (List Int)) (xs : List Int) (w : World) (hr0 : Kd.C (Kd.slice 3 (Kd.int .i64)) w A0 l0.length l0) (hc0 : l0.length ≤ c0) (h : impl_vertices.f k l0 = some xs) :
  Calls Try.prog 96 #[.slice A0 l0.length c0] w fun e w' => ∃ (p : Nat) (A : Option Addr) (c : Nat), e = .returned (.pointer (some ⟨p, 0, none⟩)) ∧ Jn w' w.heap.size p A c xs ∧ Below w.heap.size w w' := by
 have HR0 := Az.mk hr0
 have HC0 := Az.mk hc0
 clear hr0 hc0
 unfold impl_vertices.f at h
 obtain ⟨ns, T0, h⟩ := Option.bind_eq_some_iff.mp h
 have T0 := Az.mk T0
 have H' := Az.mk h
 clear h
 have HB := Az.mk (Below.refl w.heap.size w)
 go_enter Try.func96, Try.ntmps96
 go_wp2_with (first
  | (go_at_call 93; refine (impl_newJoiner.calls k _ ns w _ (by first | exact pbN HB.out _ | exact HB.out) T0.out).mono ?_; rintro e W1 ⟨p, AJ, cJ, rfl, hj, hb, _⟩; have HJ1 := Az.mk hj; have HB1 := Az.mk hb; clear hj hb T0))
 go_loopg [16] k (fun kq v16 w' => ∃ (xs_1 : List Int) (i_1 : Int), v16 = .int .i64 i_1 ∧ Az (impl_vertices.l0 kq l0 xs_1 i_1 = some xs) ∧ Az (kq ≤ k) ∧ Az (Jn w' w.heap.size p AJ cJ xs_1) ∧ Az (Below w.heap.size w w'))
 case atStart => exact ⟨ns, 0, rfl, H', ⟨Nat.le_refl _⟩, HJ1, HB1⟩
 case round =>
  clear H' HB HJ1 HB1
  obtain ⟨xs_1, i_1, rfl, HA, HK1, HJ, HB⟩ := hrel
  cases gk with
  | zero => exact absurd HA.out (by simp [impl_vertices.l0])
  | succ k1 =>
   have H := HA.out
   clear HA
   simp only [impl_vertices.l0] at H
   by_cases b2 : i_1 < (l0.length : Int)
   ·rw [if_pos b2] at H
    by_cases b1 : 0 ≤ i_1
    ·rw [if_pos b1] at H
     obtain ⟨ad, A1, c1, e1, hx1, hl1, hi1⟩ := at_L1 HR0.out i_1 b1 b2
     subst e1
     replace hx1 := (HB.out.cell (World.block_lt_of_cell? w _ hx1)).trans hx1
     have HR1 := Az.mk hi1
     have HC1 := Az.mk hl1
     clear hi1 hl1
     have H' := Az.mk H
     clear H
     have b2b := decide_eq_true b2
     replace b1 := eq_true b1
     replace b2 := eq_true b2
     go_wp2
     go_loopg [23] k1 (fun kq v23 w' => ∃ (xs_2 : List Int) (j_1 : Int), v23 = .int .i64 j_1 ∧ Az (impl_vertices.l1 kq l0 xs_2 i_1 j_1 = some xs) ∧ Az (kq ≤ k1) ∧ Az (Jn w' w.heap.size p AJ cJ xs_2) ∧ Az (Below w.heap.size w w'))
     case atStart => exact ⟨xs_1, 0, rfl, H', ⟨Nat.le_refl _⟩, HJ, HB⟩
     case round =>
      clear H' HJ HB hx1
      obtain ⟨xs_2, j_1, rfl, HA, HK2, HJ, HB⟩ := hrel
      cases gk with
      | zero => exact absurd HA.out (by simp [impl_vertices.l1])
      | succ k2 =>
       have H := HA.out
       clear HA
       simp only [impl_vertices.l1] at H
       by_cases d2 : j_1 < ((rd_L1 l0 i_1).length : Int)
       ·rw [if_pos d2] at H
        by_cases d1 : 0 ≤ j_1
        ·rw [if_pos d1] at H
         obtain ⟨⟨s1, s2⟩, T1, H⟩ := Option.bind_eq_some_iff.mp H
         obtain ⟨ys, T2, H⟩ := Option.bind_eq_some_iff.mp H
         obtain ⟨zs, T3, H⟩ := Option.bind_eq_some_iff.mp H
         obtain ⟨ad2, e2, hx2⟩ := Kd.at_int HR1.out j_1 d1 d2
         subst e2
         replace hx2 := (HB.out.cell (World.block_lt_of_cell? w _ hx2)).trans hx2
         obtain ⟨X, hX⟩ : ∃ j_ : Int, rd (rd_L1 l0 i_1) j_1 = j_ := ⟨_, rfl⟩
         rw [hX] at T1 hx2
         clear hX
         have T1 := Az.mk T1
         have T2 := Az.mk T2
         have T3 := Az.mk T3
         have H' := Az.mk H
         clear H
         have d2b := decide_eq_true d2
         replace d1 := eq_true d1
         replace d2 := eq_true d2
         go_wp2_with (first
          | (go_at_call 85; refine (impl_sideAt.calls k2 _ c0 l0 _ s1 s2 _ (by first | exact Kd.C_drewN (Kd.C_below HR0.out HB.out) _ | exact Kd.C_below HR0.out HB.out) HC0.out T1.out).mono ?_; rintro e w' ⟨rfl, ⟨nd1, rfl⟩⟩; clear T1)
          | (go_at_call 94; refine (joiner_join.calls k2 p AJ cJ xs_2 ys _ _ w _ (by first | exact pbN HB.out _ | exact HB.out) (by first | exact HJ.out.drewN _ | exact HJ.out) T2.out).mono ?_; rintro e W2 ⟨rfl, hj, hb⟩; clear T2 HB HJ; have HJ2 := Az.mk hj; have HB2 := Az.mk hb; clear hj hb)
          | (go_at_call 94; refine (joiner_join.calls k2 p AJ cJ ys zs _ _ w _ (by first | exact pbN HB2.out _ | exact HB2.out) (by first | exact HJ2.out.drewN _ | exact HJ2.out) T3.out).mono ?_; rintro e W3 ⟨rfl, hj, hb⟩; clear T3 HB2 HJ2; have HJ3 := Az.mk hj; have HB3 := Az.mk hb; clear hj hb))
         go_roundg k2
         case measure => have := HK1.out; have := HK2.out; omega
         case rel => exact ⟨zs, _, rfl, H', ⟨by have := HK2.out; omega⟩, HJ3, HB3⟩
        ·rw [if_neg d1] at H
         exact absurd H (by simp)
       ·rw [if_neg d2] at H
        have d2b : decide (j_1 < ((rd_L1 l0 i_1).length : Int)) = false := decide_eq_false d2
        clear d2
        have H' := Az.mk H
        clear H
        go_wp2
        go_roundg k2
        case measure => have := HK1.out; have := HK2.out; omega
        case rel => exact ⟨xs_2, _, rfl, H', ⟨by have := HK1.out; have := HK2.out; omega⟩, HJ, HB⟩
    ·rw [if_neg b1] at H
     exact absurd H (by simp)
   ·rw [if_neg b2] at H
    have b2b : decide (i_1 < (l0.length : Int)) = false := decide_eq_false b2
    clear b2
    obtain rfl := Option.some.inj H
    go_wp2
    go_ret
    exact ⟨_, rfl, ⟨_, _, HJ.out⟩, HB.out⟩

end Go.Proofs.Ytolmicnapemljaa.P
