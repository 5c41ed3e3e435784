-- By this session's driver (wip/tools/mk.py) of the kit's print program, over several statements at once. Not trusted: Lean checks it.
import Derived.Test.YtolmicnapemljaaQPx0
import Derived.Test.YtolmicnapemljaaQPx8
namespace Go.Proofs.Ytolmicnapemljaa.P
open Go.RowKit Go.Proofs.YtolmicnapemljaaW.PrintWords Go.Proofs.YtolmicnapemljaaW.PrintLast Go.Proofs.YtolmicnapemljaaW.PrintMore
attribute [local go_sem] max2_int min2_int max_two min_two max_three min_three max_four min_four   -- for this text's walks alone
set_option linter.unusedVariables false
set_option linter.unusedSimpArgs false

/-! ### impl_arcs: function 123 -/
theorem size_still (a0 : Int) (r : Int) (w : World) (h : impl_size.f a0 = some r) :
  Calls Try.prog 88 #[.int .i64 a0] w fun e w' => e = .returned (.int .i64 r) ∧ w' = w := by
 have H : (some (mx a0 (wrap64 (-a0)))) = some r := h
 clear h
 obtain ⟨ji2, hji2⟩ : ∃ j_ : Int, (mx a0 (wrap64 (-a0))) = j_ := ⟨_, rfl⟩
 replace H : (some ji2) = some r := by first | (rw [hji2] at H; exact H) | (simp only [hji2] at H ⊢; exact H)
 have hji2_ : (if a0 < (wrap64 (-a0)) then (wrap64 (-a0)) else a0) = ji2 := hji2
 obtain rfl := Option.some.inj H
 go_enter Try.func88, Try.ntmps88
 go_wp2
 go_ret
 exact ⟨by first | rfl | (simp [eWn, eWs] <;> rfl) | (simp only [← hji2]; first | rfl | (simp [eWn, eWs] <;> rfl)) | (simp [*, eWn, eWs] <;> rfl), rfl⟩

/-- The coordinate at a side of a triangle: the closure's own contract. -/
def arcsAt.f (l0 : List (List Int)) (l1 : List Int) (a2 i : Int) : Option Int :=
 if 0 ≤ a2 then (if a2 < (l0.length : Int) then (if 0 ≤ Int.tmod i 3 then (if Int.tmod i 3 < ((rd_L1 l0 a2).length : Int) then ((impl_size.f (rd (rd_L1 l0 a2) (Int.tmod i 3))).bind fun s => if 0 ≤ wrap64 (s - 1) then (if wrap64 (s - 1) < (l1.length : Int) then some (rd l1 (wrap64 (s - 1))) else none) else none) else none) else none) else none) else none

set_option maxHeartbeats 8000000 in
set_option maxRecDepth 100000 in
theorem arcsAt.calls (i : Int) (p1 p2 p3 : Addr) (A0 : Option Addr) (c0 : Nat) (l0 : List (List Int)) (A1 : Option Addr) (c1 : Nat) (l1 : List Int) (a2 : Int) (r : Int) (w : World)
  (h1 : w.cell? p1 = some (.slice A1 l1.length c1)) (h2 : w.cell? p2 = some (.slice A0 l0.length c0)) (h3 : w.cell? p3 = some (.int .i64 a2))
  (hr0 : Kd.C (Kd.slice 3 (Kd.int .i64)) w A0 l0.length l0) (hr1 : Kd.C (Kd.int .i64) w A1 l1.length l1) (h : arcsAt.f l0 l1 a2 i = some r) :
  Calls Try.prog 138 #[.int .i64 i, .pointer (some p1), .pointer (some p2), .pointer (some p3)] w fun e w' => e = .returned (.int .i64 r) ∧ Drawn0 w w' := by
 have HR0 := Az.mk hr0
 have HR1 := Az.mk hr1
 clear hr0 hr1
 unfold arcsAt.f at h
 by_cases b1 : 0 ≤ a2
 ·rw [if_pos b1] at h
  by_cases b2 : a2 < (l0.length : Int)
  ·rw [if_pos b2] at h
   by_cases b3 : 0 ≤ Int.tmod i 3
   ·rw [if_pos b3] at h
    by_cases b4 : Int.tmod i 3 < ((rd_L1 l0 a2).length : Int)
    ·rw [if_pos b4] at h
     obtain ⟨s, hs, h⟩ := Option.bind_eq_some_iff.mp h
     by_cases b5 : 0 ≤ wrap64 (s - 1)
     ·rw [if_pos b5] at h
      by_cases b6 : wrap64 (s - 1) < (l1.length : Int)
      ·rw [if_pos b6] at h
       obtain rfl := Option.some.inj h
       obtain ⟨ad0, A2, c2, rfl, hx0, _, hi0⟩ := at_L1 HR0.out a2 b1 b2
       obtain ⟨ad1, rfl, hx1⟩ := Kd.at_int hi0 (Int.tmod i 3) b3 b4
       obtain ⟨ad2, rfl, hx2⟩ := Kd.at_int HR1.out (wrap64 (s - 1)) b5 b6
       have HS := Az.mk hs
       clear hs
       obtain ⟨X, hX⟩ : ∃ j_ : Int, rd (rd_L1 l0 a2) (Int.tmod i 3) = j_ := ⟨_, rfl⟩
       obtain ⟨Y, hY⟩ : ∃ j_ : Int, Int.tmod i 3 = j_ := ⟨_, rfl⟩
       obtain ⟨Z, hZ⟩ : ∃ j_ : Int, wrap64 (s - 1) = j_ := ⟨_, rfl⟩
       have hZw : (IntKind.i64.wrap (s - 1)) = Z := (i64_w _).trans hZ
       rw [hX] at hx1
       rw [hY] at b3 b4 hx1
       rw [hZ] at b5 b6 hx2
       have SS : Az (impl_size.f X = some s) := ⟨by rw [← hX]; exact HS.out⟩
       clear HS hX
       replace b1 := eq_true b1
       replace b2 := eq_true b2
       replace b3 := eq_true b3
       replace b4 := eq_true b4
       replace b5 := eq_true b5
       replace b6 := eq_true b6
       go_enter Try.func138, Try.ntmps138
       go_wp2
       go_quiet ((go_at_call 88; refine Calls.quiet_of_same (size_still X s _ SS.out)))
       go_wp2
       go_ret
       exact ⟨by rw [hZ]; rfl, ⟨⟨_, rfl⟩⟩⟩
      ·rw [if_neg b6] at h; exact absurd h (by simp)
     ·rw [if_neg b5] at h; exact absurd h (by simp)
    ·rw [if_neg b4] at h; exact absurd h (by simp)
   ·rw [if_neg b3] at h; exact absurd h (by simp)
  ·rw [if_neg b2] at h; exact absurd h (by simp)
 ·rw [if_neg b1] at h; exact absurd h (by simp)

theorem arcs_drewN (w : World) (n : Nat) (a : Addr) : (w.drewN n).cell? a = w.cell? a := by simp
theorem arcs_new (w : World) (v : Value) (t : TypeId) : (w.alloc (.cells #[v] t)).cell? ⟨w.heap.size, 0, none⟩ = some v := by
 have h := cell_one_new w v t 0 v rfl
 exact h
theorem arcs_old {w : World} {a : Addr} {v : Value} (h : w.cell? a = some v) (o : Obj) : (w.alloc o).cell? a = some v :=
 ((Below.alloc (Below.refl w.heap.size w) (Nat.le_refl _) o).cell (World.block_lt_of_cell? w _ h)).trans h
def impl_arcs.f (l0 : List (List Int)) (l1 : List Int) (a2 a3 : Int) : Option Int :=
 (arcsAt.f l0 l1 a2 a3).bind fun t1 => ((arcsAt.f l0 l1 a2 (wrap64 (a3 + 1))).bind fun t2 => ((arcsAt.f l0 l1 a2 (wrap64 (a3 + 2))).bind fun t3 => (some (wrap64 (Int.tdiv (wrap64 ((wrap64 (t1 + t2)) - t3)) 2)))))

set_option maxHeartbeats 8000000 in
set_option maxRecDepth 100000 in
theorem impl_arcs.calls (A0 : Option Addr) (c0 : Nat) (l0 : List (List Int)) (A1 : Option Addr) (c1 : Nat) (l1 : List Int) (a2 : Int) (a3 : Int) (r : Int) (w : World) (hr0 : Kd.C (Kd.slice 3 (Kd.int .i64)) w A0 l0.length l0) (hc0 : l0.length ≤ c0) (hr1 : Kd.C (Kd.int .i64) w A1 l1.length l1) (hc1 : l1.length ≤ c1) (h : impl_arcs.f l0 l1 a2 a3 = some r) :
  Calls Try.prog 123 #[.slice A0 l0.length c0, .slice A1 l1.length c1, .int .i64 a2, .int .i64 a3] w fun e w' => e = .returned (.int .i64 r) ∧ Below w.heap.size w w' := by
 have HB := Az.mk (Below.refl w.heap.size w)
 have HR0 := Az.mk hr0
 have HR1 := Az.mk hr1
 clear hr0 hr1
 unfold impl_arcs.f at h
 obtain ⟨t1, T1, h⟩ := Option.bind_eq_some_iff.mp h
 obtain ⟨t2, T2, h⟩ := Option.bind_eq_some_iff.mp h
 obtain ⟨t3, T3, h⟩ := Option.bind_eq_some_iff.mp h
 obtain rfl := Option.some.inj h
 obtain ⟨WW, hWW⟩ : ∃ v, ((w.alloc (.cells #[.slice A0 l0.length c0] 22)).alloc (.cells #[.slice A1 l1.length c1] 24)).alloc (.cells #[.int .i64 a2] 3) = v := ⟨_, rfl⟩
 obtain ⟨W1, e1⟩ : ∃ v, w.alloc (.cells #[.slice A0 l0.length c0] 22) = v := ⟨_, rfl⟩
 obtain ⟨W2, e2⟩ : ∃ v, W1.alloc (.cells #[.slice A1 l1.length c1] 24) = v := ⟨_, rfl⟩
 have e3 : W2.alloc (.cells #[.int .i64 a2] 3) = WW := by rw [← e2, ← e1]; exact hWW
 have s1 : W1.heap.size = w.heap.size + 1 := by rw [← e1]; exact Array.size_push _
 have s2 : W2.heap.size = w.heap.size + 1 + 1 := by rw [← e2, ← s1]; exact Array.size_push _
 have g2 : WW.cell? ⟨w.heap.size, 0, none⟩ = some (.slice A0 l0.length c0) := by
  rw [← e3]; refine arcs_old ?_ _
  rw [← e2]; refine arcs_old ?_ _
  rw [← e1]; exact arcs_new _ _ _
 have g1 : WW.cell? ⟨w.heap.size + 1, 0, none⟩ = some (.slice A1 l1.length c1) := by
  rw [← e3]; refine arcs_old ?_ _
  rw [← s1, ← e2]; exact arcs_new _ _ _
 have g3 : WW.cell? ⟨w.heap.size + 1 + 1, 0, none⟩ = some (.int .i64 a2) := by
  rw [← e3, ← s2]; exact arcs_new _ _ _
 clear e1 e2 e3 s1 s2
 have g4 : Kd.C (Kd.slice 3 (Kd.int .i64)) WW A0 l0.length l0 := by
  rw [← hWW]
  exact Kd.C_alloc (Kd.C_alloc (Kd.C_alloc HR0.out _) _) _
 have g5 : Kd.C (Kd.int .i64) WW A1 l1.length l1 := by
  rw [← hWW]
  exact Kd.C_alloc (Kd.C_alloc (Kd.C_alloc HR1.out _) _) _
 have hb : Below w.heap.size w WW := by
  rw [← hWW]
  repeat (first | (with_reducible first | exact HB.out | apply bwA))
 have KK : ∀ i t, arcsAt.f l0 l1 a2 i = some t → ∀ W', Drawn0 WW W' → Calls Try.prog 138 #[.int .i64 i, .pointer (some ⟨w.heap.size + 1, 0, none⟩), .pointer (some ⟨w.heap.size, 0, none⟩), .pointer (some ⟨w.heap.size + 1 + 1, 0, none⟩)] W' fun e w' => e = .returned (.int .i64 t) ∧ Drawn0 W' w' := by
  rintro i t ht W' ⟨n, rfl⟩
  exact arcsAt.calls i _ _ _ A0 c0 l0 A1 c1 l1 a2 t _ ((arcs_drewN _ _ _).trans g1) ((arcs_drewN _ _ _).trans g2) ((arcs_drewN _ _ _).trans g3) (Kd.C_drewN g4 _) (Kd.C_drewN g5 _) ht
 have K1 := KK _ _ T1
 have K2 := KK _ _ T2
 have K3 := KK _ _ T3
 clear KK g1 g2 g3 g4 g5
 go_enter Try.func123, Try.ntmps123
 go_upto_region 2 with (fail)
 go_wp2_with (first
  | (go_at_call 138; refine (K1 _ (by repeat (first | exact Drawn0.refl _ | apply Drawn0.step))).mono ?_; rintro e w' ⟨rfl, ⟨nd1, rfl⟩⟩; clear K1)
  | (go_at_call 138; refine (K2 _ (by repeat (first | exact Drawn0.refl _ | apply Drawn0.step))).mono ?_; rintro e w' ⟨rfl, ⟨nd2, rfl⟩⟩; clear K2)
  | (go_at_call 138; refine (K3 _ (by repeat (first | exact Drawn0.refl _ | apply Drawn0.step))).mono ?_; rintro e w' ⟨rfl, ⟨nd3, rfl⟩⟩; clear K3))
 go_ret
 exact ⟨rfl, pbN hb _⟩

end Go.Proofs.Ytolmicnapemljaa.P
