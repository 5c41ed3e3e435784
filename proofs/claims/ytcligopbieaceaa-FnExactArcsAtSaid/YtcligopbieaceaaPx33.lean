-- By this session's driver (wip/tools/mk.py) of the kit's print program, over several statements at once. Not trusted: Lean checks it.
import Derived.Test.YtcligopbieaceaaPx0
import Derived.Test.YtcligopbieaceaaPx1
import Derived.Test.YtcligopbieaceaaPx12
import Derived.Test.YtcligopbieaceaaPx16
import Derived.Test.YtcligopbieaceaaPx17
import Derived.Test.YtcligopbieaceaaPx18
namespace Go.Proofs.Ytcligopbieaceaa.P
open Go.RowKit Go.Proofs.YtcligopbieaceaaW.PrintWords Go.Proofs.YtcligopbieaceaaW.PrintLast Go.Proofs.YtcligopbieaceaaW.PrintMore
attribute [local go_sem] max2_int min2_int max_two min_two max_three min_three max_four min_four   -- for this text's walks alone
set_option linter.unusedVariables false
set_option linter.unusedSimpArgs false

/-! ### spec_ArcsAt: function 36 -/
def spec_ArcsAt.f (k : Nat) (l0 : List (List Int)) (l1 : List Int) (a2 : Int) (a3 : Int) : Option (Int) := (spec_IsFair.f k l0 l1).bind fun t414 => (if t414 = true then ((spec_l1In.f a2 0 (wrap64 ((l0.length : Int) - 1))).bind fun t415 => (if t415 = true then ((spec_l1In.f a3 0 2).bind fun t416 => (if t416 = true then ((spec_l15Twice.f l0 l1 a2 a3).bind fun t417 => (some (wrap64 (Int.tdiv t417 2)))) else (some (-1)))) else (some (-1)))) else (some (-1)))
theorem spec_ArcsAt.mono : ∀ a0 a1 a2 a3 k, LeO (spec_ArcsAt.f k a0 a1 a2 a3) (spec_ArcsAt.f (k + 1) a0 a1 a2 a3) := by
  intro a0 a1 a2 a3 k
  unfold spec_ArcsAt.f
  repeat' first
      | (with_reducible exact spec_IsFair.mono _ _ _)
      | (with_reducible exact LeO.refl _)
      | (with_reducible exact LeO.none _)
      | (with_reducible refine LeO.ite ?_ ?_)
      | (with_reducible refine LeO.bind ?_ (fun _ => ?_))
      | exact spec_IsFair.mono _ _ _
      | exact LeO.none _
      | refine LeO.ite ?_ ?_
      | refine LeO.bind ?_ (fun _ => ?_)
set_option maxHeartbeats 8000000 in
set_option maxRecDepth 100000 in
theorem spec_ArcsAt.calls (k : Nat) (A0 : Option Addr) (c0 : Nat) (l0 : List (List Int)) (A1 : Option Addr) (c1 : Nat) (l1 : List Int) (a2 : Int) (a3 : Int) (r : Int) (w : World) (hr0 : Kd.C (Kd.slice 3 (Kd.int .i64)) w A0 l0.length l0) (hc0 : l0.length ≤ c0) (hr1 : Kd.C (Kd.int .i64) w A1 l1.length l1) (hc1 : l1.length ≤ c1) (h : spec_ArcsAt.f k l0 l1 a2 a3 = some r) :
    Calls Try.prog 36 #[.slice A0 l0.length c0, .slice A1 l1.length c1, .int .i64 a2, .int .i64 a3] w fun e w' => e = .returned (.int .i64 r) ∧ Below w.heap.size w w' := by
  have HR0 := Aside0.mk hr0
  have HC0 := Aside0.mk hc0
  clear hr0 hc0
  have HR1 := Aside0.mk hr1
  have HC1 := Aside0.mk hc1
  clear hr1 hc1
  have HB := Aside0.mk (Below.refl w.heap.size w)
  have H : ((spec_IsFair.f k l0 l1).bind fun t414 => (if t414 = true then ((spec_l1In.f a2 0 (wrap64 ((l0.length : Int) - 1))).bind fun t415 => (if t415 = true then ((spec_l1In.f a3 0 2).bind fun t416 => (if t416 = true then ((spec_l15Twice.f l0 l1 a2 a3).bind fun t417 => (some (wrap64 (Int.tdiv t417 2)))) else (some (-1)))) else (some (-1)))) else (some (-1)))) = some r := h
  clear h
  replace H := Option.bind_eq_some_iff.mp H
  obtain ⟨t414, A50, H⟩ := H
  replace H : (if t414 = true then ((spec_l1In.f a2 0 (wrap64 ((l0.length : Int) - 1))).bind fun t415 => (if t415 = true then ((spec_l1In.f a3 0 2).bind fun t416 => (if t416 = true then ((spec_l15Twice.f l0 l1 a2 a3).bind fun t417 => (some (wrap64 (Int.tdiv t417 2)))) else (some (-1)))) else (some (-1)))) else (some (-1))) = some r := H
  have A5 := Aside0.mk A50
  clear A50
  by_cases c6 : t414 = true
  · subst c6
    have H1 : ((spec_l1In.f a2 0 (wrap64 ((l0.length : Int) - 1))).bind fun t415 => (if t415 = true then ((spec_l1In.f a3 0 2).bind fun t416 => (if t416 = true then ((spec_l15Twice.f l0 l1 a2 a3).bind fun t417 => (some (wrap64 (Int.tdiv t417 2)))) else (some (-1)))) else (some (-1)))) = some r := by rw [if_pos rfl] at H; exact H
    clear H
    have H := H1
    clear H1
    replace H := Option.bind_eq_some_iff.mp H
    obtain ⟨t415, A70, H⟩ := H
    replace H : (if t415 = true then ((spec_l1In.f a3 0 2).bind fun t416 => (if t416 = true then ((spec_l15Twice.f l0 l1 a2 a3).bind fun t417 => (some (wrap64 (Int.tdiv t417 2)))) else (some (-1)))) else (some (-1))) = some r := H
    have A7 := Aside0.mk A70
    clear A70
    by_cases c8 : t415 = true
    · subst c8
      have H1 : ((spec_l1In.f a3 0 2).bind fun t416 => (if t416 = true then ((spec_l15Twice.f l0 l1 a2 a3).bind fun t417 => (some (wrap64 (Int.tdiv t417 2)))) else (some (-1)))) = some r := by rw [if_pos rfl] at H; exact H
      clear H
      have H := H1
      clear H1
      replace H := Option.bind_eq_some_iff.mp H
      obtain ⟨t416, A90, H⟩ := H
      replace H : (if t416 = true then ((spec_l15Twice.f l0 l1 a2 a3).bind fun t417 => (some (wrap64 (Int.tdiv t417 2)))) else (some (-1))) = some r := H
      have A9 := Aside0.mk A90
      clear A90
      by_cases c10 : t416 = true
      · subst c10
        have H1 : ((spec_l15Twice.f l0 l1 a2 a3).bind fun t417 => (some (wrap64 (Int.tdiv t417 2)))) = some r := by rw [if_pos rfl] at H; exact H
        clear H
        have H := H1
        clear H1
        replace H := Option.bind_eq_some_iff.mp H
        obtain ⟨t417, A110, H⟩ := H
        replace H : (some (wrap64 (Int.tdiv t417 2))) = some r := H
        have A11 := Aside0.mk A110
        clear A110
        obtain rfl := Option.some.inj H
        go_enter Try.func36, Try.ntmps36
        go_wp2_with (first | ((with_reducible refine gate_callee (f := 30) rfl ?_); refine goesL_ (some 11) rfl rfl Try.func30 (by kernel_rfl) rfl #[.slice A0 l0.length c0, .slice A1 l1.length c1] rfl (by (try simp only [List.map_toArray, List.map_cons, List.map_nil]); first | done | rfl | (simp only [List.length_drop, List.length_take]; rfl)) ?_; (with_reducible refine (spec_IsFair.calls k _ _ l0 _ _ l1 true _ ?side1 ?side2 ?side3 ?side4 A5.out).mono ?_); (case side1 => repeat (first | exact HR0.out | (with_reducible refine Kd.C_alloc ?_ _) | (with_reducible refine Kd.C_drewN ?_ _) | (with_reducible refine Kd.C_drew ?_))); (case side2 => exact HC0.out); (case side3 => repeat (first | exact HR1.out | (with_reducible refine Kd.C_alloc ?_ _) | (with_reducible refine Kd.C_drewN ?_ _) | (with_reducible refine Kd.C_drew ?_))); (case side4 => exact HC1.out); rintro e w12 ⟨rfl, hb⟩; refine ⟨_, rfl, ?_⟩; have n0_ := Aside0.mk (below_step (by repeat (first | (with_reducible first | exact HB.out | apply below_alloc | apply pw_below_drewN | apply below_drew1) | exact HB.out)) hb); clear HB; have HB := n0_; clear n0_; (try clear hb); (try clear hb2); (try clear hk); (try clear hi)) | (go_at_call 48; (with_reducible refine (spec_l1In.calls a2 0 (wrap64 ((l0.length : Int) - 1)) true _ A7.out).mono ?_); rintro e w' ⟨rfl, ⟨nd, rfl⟩⟩) | (go_at_call 48; (with_reducible refine (spec_l1In.calls a3 0 2 true _ A9.out).mono ?_); rintro e w' ⟨rfl, ⟨nd, rfl⟩⟩) | ((with_reducible refine gate_callee (f := 55) rfl ?_); refine goesL_ (some 30) rfl rfl Try.func55 (by kernel_rfl) rfl #[.slice A0 l0.length c0, .slice A1 l1.length c1, .int .i64 a2, .int .i64 a3] rfl (by (try simp only [List.map_toArray, List.map_cons, List.map_nil]); first | done | rfl | (simp only [List.length_drop, List.length_take]; rfl)) ?_; (with_reducible refine (spec_l15Twice.calls _ _ l0 _ _ l1 a2 a3 t417 _ ?side1 ?side2 ?side3 ?side4 A11.out).mono ?_); (case side1 => repeat (first | exact (Kd.C_below HR0.out (by repeat (first | (with_reducible first | exact HB.out | apply below_alloc | apply pw_below_drewN | apply below_drew1) | exact HB.out))) | (with_reducible refine Kd.C_alloc ?_ _) | (with_reducible refine Kd.C_drewN ?_ _) | (with_reducible refine Kd.C_drew ?_))); (case side2 => exact HC0.out); (case side3 => repeat (first | exact (Kd.C_below HR1.out (by repeat (first | (with_reducible first | exact HB.out | apply below_alloc | apply pw_below_drewN | apply below_drew1) | exact HB.out))) | (with_reducible refine Kd.C_alloc ?_ _) | (with_reducible refine Kd.C_drewN ?_ _) | (with_reducible refine Kd.C_drew ?_))); (case side4 => exact HC1.out); rintro e w' ⟨rfl, ⟨nd, rfl⟩⟩; refine ⟨_, rfl, ?_⟩))
        go_ret
        exact ⟨by first | rfl | (simp [errW_none, errW_some] <;> rfl) | (simp [*, errW_none, errW_some] <;> rfl), by repeat (first | (with_reducible first | exact HB.out | apply below_alloc | apply pw_below_drewN | apply below_drew1) | exact HB.out)⟩
      · replace c10 := Bool.eq_false_iff.mpr c10
        subst c10
        have H1 : (some (-1)) = some r := by rw [if_neg (show ¬ (false = true) by decide)] at H; exact H
        clear H
        have H := H1
        clear H1
        obtain rfl := Option.some.inj H
        go_enter Try.func36, Try.ntmps36
        go_wp2_with (first | ((with_reducible refine gate_callee (f := 30) rfl ?_); refine goesL_ (some 11) rfl rfl Try.func30 (by kernel_rfl) rfl #[.slice A0 l0.length c0, .slice A1 l1.length c1] rfl (by (try simp only [List.map_toArray, List.map_cons, List.map_nil]); first | done | rfl | (simp only [List.length_drop, List.length_take]; rfl)) ?_; (with_reducible refine (spec_IsFair.calls k _ _ l0 _ _ l1 true _ ?side1 ?side2 ?side3 ?side4 A5.out).mono ?_); (case side1 => repeat (first | exact HR0.out | (with_reducible refine Kd.C_alloc ?_ _) | (with_reducible refine Kd.C_drewN ?_ _) | (with_reducible refine Kd.C_drew ?_))); (case side2 => exact HC0.out); (case side3 => repeat (first | exact HR1.out | (with_reducible refine Kd.C_alloc ?_ _) | (with_reducible refine Kd.C_drewN ?_ _) | (with_reducible refine Kd.C_drew ?_))); (case side4 => exact HC1.out); rintro e w13 ⟨rfl, hb⟩; refine ⟨_, rfl, ?_⟩; have n0_ := Aside0.mk (below_step (by repeat (first | (with_reducible first | exact HB.out | apply below_alloc | apply pw_below_drewN | apply below_drew1) | exact HB.out)) hb); clear HB; have HB := n0_; clear n0_; (try clear hb); (try clear hb2); (try clear hk); (try clear hi)) | (go_at_call 48; (with_reducible refine (spec_l1In.calls a2 0 (wrap64 ((l0.length : Int) - 1)) true _ A7.out).mono ?_); rintro e w' ⟨rfl, ⟨nd, rfl⟩⟩) | (go_at_call 48; (with_reducible refine (spec_l1In.calls a3 0 2 false _ A9.out).mono ?_); rintro e w' ⟨rfl, ⟨nd, rfl⟩⟩))
        go_ret
        exact ⟨by first | rfl | (simp [errW_none, errW_some] <;> rfl) | (simp [*, errW_none, errW_some] <;> rfl), by repeat (first | (with_reducible first | exact HB.out | apply below_alloc | apply pw_below_drewN | apply below_drew1) | exact HB.out)⟩
    · replace c8 := Bool.eq_false_iff.mpr c8
      subst c8
      have H1 : (some (-1)) = some r := by rw [if_neg (show ¬ (false = true) by decide)] at H; exact H
      clear H
      have H := H1
      clear H1
      obtain rfl := Option.some.inj H
      go_enter Try.func36, Try.ntmps36
      go_wp2_with (first | ((with_reducible refine gate_callee (f := 30) rfl ?_); refine goesL_ (some 11) rfl rfl Try.func30 (by kernel_rfl) rfl #[.slice A0 l0.length c0, .slice A1 l1.length c1] rfl (by (try simp only [List.map_toArray, List.map_cons, List.map_nil]); first | done | rfl | (simp only [List.length_drop, List.length_take]; rfl)) ?_; (with_reducible refine (spec_IsFair.calls k _ _ l0 _ _ l1 true _ ?side1 ?side2 ?side3 ?side4 A5.out).mono ?_); (case side1 => repeat (first | exact HR0.out | (with_reducible refine Kd.C_alloc ?_ _) | (with_reducible refine Kd.C_drewN ?_ _) | (with_reducible refine Kd.C_drew ?_))); (case side2 => exact HC0.out); (case side3 => repeat (first | exact HR1.out | (with_reducible refine Kd.C_alloc ?_ _) | (with_reducible refine Kd.C_drewN ?_ _) | (with_reducible refine Kd.C_drew ?_))); (case side4 => exact HC1.out); rintro e w14 ⟨rfl, hb⟩; refine ⟨_, rfl, ?_⟩; have n0_ := Aside0.mk (below_step (by repeat (first | (with_reducible first | exact HB.out | apply below_alloc | apply pw_below_drewN | apply below_drew1) | exact HB.out)) hb); clear HB; have HB := n0_; clear n0_; (try clear hb); (try clear hb2); (try clear hk); (try clear hi)) | (go_at_call 48; (with_reducible refine (spec_l1In.calls a2 0 (wrap64 ((l0.length : Int) - 1)) false _ A7.out).mono ?_); rintro e w' ⟨rfl, ⟨nd, rfl⟩⟩))
      go_ret
      exact ⟨by first | rfl | (simp [errW_none, errW_some] <;> rfl) | (simp [*, errW_none, errW_some] <;> rfl), by repeat (first | (with_reducible first | exact HB.out | apply below_alloc | apply pw_below_drewN | apply below_drew1) | exact HB.out)⟩
  · replace c6 := Bool.eq_false_iff.mpr c6
    subst c6
    have H1 : (some (-1)) = some r := by rw [if_neg (show ¬ (false = true) by decide)] at H; exact H
    clear H
    have H := H1
    clear H1
    obtain rfl := Option.some.inj H
    go_enter Try.func36, Try.ntmps36
    go_wp2_with (first | ((with_reducible refine gate_callee (f := 30) rfl ?_); refine goesL_ (some 11) rfl rfl Try.func30 (by kernel_rfl) rfl #[.slice A0 l0.length c0, .slice A1 l1.length c1] rfl (by (try simp only [List.map_toArray, List.map_cons, List.map_nil]); first | done | rfl | (simp only [List.length_drop, List.length_take]; rfl)) ?_; (with_reducible refine (spec_IsFair.calls k _ _ l0 _ _ l1 false _ ?side1 ?side2 ?side3 ?side4 A5.out).mono ?_); (case side1 => repeat (first | exact HR0.out | (with_reducible refine Kd.C_alloc ?_ _) | (with_reducible refine Kd.C_drewN ?_ _) | (with_reducible refine Kd.C_drew ?_))); (case side2 => exact HC0.out); (case side3 => repeat (first | exact HR1.out | (with_reducible refine Kd.C_alloc ?_ _) | (with_reducible refine Kd.C_drewN ?_ _) | (with_reducible refine Kd.C_drew ?_))); (case side4 => exact HC1.out); rintro e w15 ⟨rfl, hb⟩; refine ⟨_, rfl, ?_⟩; have n0_ := Aside0.mk (below_step (by repeat (first | (with_reducible first | exact HB.out | apply below_alloc | apply pw_below_drewN | apply below_drew1) | exact HB.out)) hb); clear HB; have HB := n0_; clear n0_; (try clear hb); (try clear hb2); (try clear hk); (try clear hi)))
    go_ret
    exact ⟨by first | rfl | (simp [errW_none, errW_some] <;> rfl) | (simp [*, errW_none, errW_some] <;> rfl), by repeat (first | (with_reducible first | exact HB.out | apply below_alloc | apply pw_below_drewN | apply below_drew1) | exact HB.out)⟩

/-! ### impl_arcs: function 59 -/
theorem size_still (a0 : Int) (r : Int) (w : World) (h : impl_size.f a0 = some r) :
    Calls Try.prog 56 #[.int .i64 a0] w fun e w' => e = .returned (.int .i64 r) ∧ w' = w := by
  have H : (some (mx a0 (wrap64 (-a0)))) = some r := h
  clear h
  obtain ⟨ji2, hji2⟩ : ∃ j_ : Int, (mx a0 (wrap64 (-a0))) = j_ := ⟨_, rfl⟩
  replace H : (some ji2) = some r := by first | (rw [hji2] at H; exact H) | (simp only [hji2] at H ⊢; exact H)
  have hji2_ : (if a0 < (wrap64 (-a0)) then (wrap64 (-a0)) else a0) = ji2 := hji2
  obtain rfl := Option.some.inj H
  go_enter Try.func56, Try.ntmps56
  go_wp2
  go_ret
  exact ⟨by first | rfl | (simp [errW_none, errW_some] <;> rfl) | (simp only [← hji2]; first | rfl | (simp [errW_none, errW_some] <;> rfl)) | (simp [*, errW_none, errW_some] <;> rfl), rfl⟩

/-- The coordinate at a side of a triangle: the closure's own contract. -/
def arcsAt.f (l0 : List (List Int)) (l1 : List Int) (a2 i : Int) : Option Int :=
  if 0 ≤ a2 then (if a2 < (l0.length : Int) then (if 0 ≤ Int.tmod i 3 then (if Int.tmod i 3 < ((rd_L1 l0 a2).length : Int) then ((impl_size.f (rd (rd_L1 l0 a2) (Int.tmod i 3))).bind fun s => if 0 ≤ wrap64 (s - 1) then (if wrap64 (s - 1) < (l1.length : Int) then some (rd l1 (wrap64 (s - 1))) else none) else none) else none) else none) else none) else none

set_option maxHeartbeats 8000000 in
set_option maxRecDepth 100000 in
theorem arcsAt.calls (i : Int) (p1 p2 p3 : Addr) (A0 : Option Addr) (c0 : Nat) (l0 : List (List Int)) (A1 : Option Addr) (c1 : Nat) (l1 : List Int) (a2 : Int) (r : Int) (w : World)
    (h1 : w.cell? p1 = some (.slice A1 l1.length c1)) (h2 : w.cell? p2 = some (.slice A0 l0.length c0)) (h3 : w.cell? p3 = some (.int .i64 a2))
    (hr0 : Kd.C (Kd.slice 3 (Kd.int .i64)) w A0 l0.length l0) (hr1 : Kd.C (Kd.int .i64) w A1 l1.length l1) (h : arcsAt.f l0 l1 a2 i = some r) :
    Calls Try.prog 71 #[.int .i64 i, .pointer (some p1), .pointer (some p2), .pointer (some p3)] w fun e w' => e = .returned (.int .i64 r) ∧ Drawn0 w w' := by
  have HR0 := Aside0.mk hr0
  have HR1 := Aside0.mk hr1
  clear hr0 hr1
  unfold arcsAt.f at h
  by_cases b1 : 0 ≤ a2
  · rw [if_pos b1] at h
    by_cases b2 : a2 < (l0.length : Int)
    · rw [if_pos b2] at h
      by_cases b3 : 0 ≤ Int.tmod i 3
      · rw [if_pos b3] at h
        by_cases b4 : Int.tmod i 3 < ((rd_L1 l0 a2).length : Int)
        · rw [if_pos b4] at h
          obtain ⟨s, hs, h⟩ := Option.bind_eq_some_iff.mp h
          by_cases b5 : 0 ≤ wrap64 (s - 1)
          · rw [if_pos b5] at h
            by_cases b6 : wrap64 (s - 1) < (l1.length : Int)
            · rw [if_pos b6] at h
              obtain rfl := Option.some.inj h
              obtain ⟨ad0, A2, c2, rfl, hx0, _, hi0⟩ := at_L1 HR0.out a2 b1 b2
              obtain ⟨ad1, rfl, hx1⟩ := Kd.at_int hi0 (Int.tmod i 3) b3 b4
              obtain ⟨ad2, rfl, hx2⟩ := Kd.at_int HR1.out (wrap64 (s - 1)) b5 b6
              have HS := Aside0.mk hs
              clear hs
              obtain ⟨X, hX⟩ : ∃ j_ : Int, rd (rd_L1 l0 a2) (Int.tmod i 3) = j_ := ⟨_, rfl⟩
              obtain ⟨Y, hY⟩ : ∃ j_ : Int, Int.tmod i 3 = j_ := ⟨_, rfl⟩
              obtain ⟨Z, hZ⟩ : ∃ j_ : Int, wrap64 (s - 1) = j_ := ⟨_, rfl⟩
              have hZw : (IntKind.i64.wrap (s - 1)) = Z := (i64_w _).trans hZ
              rw [hX] at hx1
              rw [hY] at b3 b4 hx1
              rw [hZ] at b5 b6 hx2
              have SS : Aside0 (impl_size.f X = some s) := ⟨by rw [← hX]; exact HS.out⟩
              clear HS hX
              replace b1 := eq_true b1
              replace b2 := eq_true b2
              replace b3 := eq_true b3
              replace b4 := eq_true b4
              replace b5 := eq_true b5
              replace b6 := eq_true b6
              go_enter Try.func71, Try.ntmps71
              go_wp2
              go_quiet ((go_at_call 56; refine Calls.quiet_of_same (size_still X s _ SS.out)))
              go_wp2
              go_ret
              exact ⟨by rw [hZ]; rfl, ⟨⟨_, rfl⟩⟩⟩
            · rw [if_neg b6] at h; exact absurd h (by simp)
          · rw [if_neg b5] at h; exact absurd h (by simp)
        · rw [if_neg b4] at h; exact absurd h (by simp)
      · rw [if_neg b3] at h; exact absurd h (by simp)
    · rw [if_neg b2] at h; exact absurd h (by simp)
  · rw [if_neg b1] at h; exact absurd h (by simp)

theorem arcs_drewN (w : World) (n : Nat) (a : Addr) : (w.drewN n).cell? a = w.cell? a := by simp
theorem arcs_new (w : World) (v : Value) (t : TypeId) : (w.alloc (.cells #[v] t)).cell? ⟨w.heap.size, 0, none⟩ = some v := by
  have h := cell_one_new w v t 0 v rfl
  exact h
theorem arcs_old {w : World} {a : Addr} {v : Value} (h : w.cell? a = some v) (o : Obj) : (w.alloc o).cell? a = some v :=
  ((Below.alloc (Below.refl w.heap.size w) (Nat.le_refl _) o).cell (World.block_lt_of_cell? w _ h)).trans h
def impl_arcs.f (l0 : List (List Int)) (l1 : List Int) (a2 a3 : Int) : Option Int :=
  (arcsAt.f l0 l1 a2 a3).bind fun t1 => ((arcsAt.f l0 l1 a2 (wrap64 (a3 + 1))).bind fun t2 => ((arcsAt.f l0 l1 a2 (wrap64 (a3 + 2))).bind fun t3 => (some (wrap64 (Int.tdiv (wrap64 ((wrap64 (t1 + t2)) - t3)) 2)))))

set_option maxHeartbeats 8000000 in
set_option maxRecDepth 100000 in
theorem impl_arcs.calls (A0 : Option Addr) (c0 : Nat) (l0 : List (List Int)) (A1 : Option Addr) (c1 : Nat) (l1 : List Int) (a2 : Int) (a3 : Int) (r : Int) (w : World) (hr0 : Kd.C (Kd.slice 3 (Kd.int .i64)) w A0 l0.length l0) (hc0 : l0.length ≤ c0) (hr1 : Kd.C (Kd.int .i64) w A1 l1.length l1) (hc1 : l1.length ≤ c1) (h : impl_arcs.f l0 l1 a2 a3 = some r) :
    Calls Try.prog 59 #[.slice A0 l0.length c0, .slice A1 l1.length c1, .int .i64 a2, .int .i64 a3] w fun e w' => e = .returned (.int .i64 r) ∧ Below w.heap.size w w' := by
  have HB := Aside0.mk (Below.refl w.heap.size w)
  have HR0 := Aside0.mk hr0
  have HR1 := Aside0.mk hr1
  clear hr0 hr1
  unfold impl_arcs.f at h
  obtain ⟨t1, T1, h⟩ := Option.bind_eq_some_iff.mp h
  obtain ⟨t2, T2, h⟩ := Option.bind_eq_some_iff.mp h
  obtain ⟨t3, T3, h⟩ := Option.bind_eq_some_iff.mp h
  obtain rfl := Option.some.inj h
  obtain ⟨WW, hWW⟩ : ∃ v, ((w.alloc (.cells #[.slice A0 l0.length c0] 30)).alloc (.cells #[.slice A1 l1.length c1] 22)).alloc (.cells #[.int .i64 a2] 3) = v := ⟨_, rfl⟩
  obtain ⟨W1, e1⟩ : ∃ v, w.alloc (.cells #[.slice A0 l0.length c0] 30) = v := ⟨_, rfl⟩
  obtain ⟨W2, e2⟩ : ∃ v, W1.alloc (.cells #[.slice A1 l1.length c1] 22) = v := ⟨_, rfl⟩
  have e3 : W2.alloc (.cells #[.int .i64 a2] 3) = WW := by rw [← e2, ← e1]; exact hWW
  have s1 : W1.heap.size = w.heap.size + 1 := by rw [← e1]; exact Array.size_push _
  have s2 : W2.heap.size = w.heap.size + 1 + 1 := by rw [← e2, ← s1]; exact Array.size_push _
  have g2 : WW.cell? ⟨w.heap.size, 0, none⟩ = some (.slice A0 l0.length c0) := by
    rw [← e3]; refine arcs_old ?_ _
    rw [← e2]; refine arcs_old ?_ _
    rw [← e1]; exact arcs_new _ _ _
  have g1 : WW.cell? ⟨w.heap.size + 1, 0, none⟩ = some (.slice A1 l1.length c1) := by
    rw [← e3]; refine arcs_old ?_ _
    rw [← s1, ← e2]; exact arcs_new _ _ _
  have g3 : WW.cell? ⟨w.heap.size + 1 + 1, 0, none⟩ = some (.int .i64 a2) := by
    rw [← e3, ← s2]; exact arcs_new _ _ _
  clear e1 e2 e3 s1 s2
  have g4 : Kd.C (Kd.slice 3 (Kd.int .i64)) WW A0 l0.length l0 := by
    rw [← hWW]
    exact Kd.C_alloc (Kd.C_alloc (Kd.C_alloc HR0.out _) _) _
  have g5 : Kd.C (Kd.int .i64) WW A1 l1.length l1 := by
    rw [← hWW]
    exact Kd.C_alloc (Kd.C_alloc (Kd.C_alloc HR1.out _) _) _
  have hb : Below w.heap.size w WW := by
    rw [← hWW]
    repeat (first | (with_reducible first | exact HB.out | apply below_alloc))
  have KK : ∀ i t, arcsAt.f l0 l1 a2 i = some t → ∀ W', Drawn0 WW W' → Calls Try.prog 71 #[.int .i64 i, .pointer (some ⟨w.heap.size + 1, 0, none⟩), .pointer (some ⟨w.heap.size, 0, none⟩), .pointer (some ⟨w.heap.size + 1 + 1, 0, none⟩)] W' fun e w' => e = .returned (.int .i64 t) ∧ Drawn0 W' w' := by
    rintro i t ht W' ⟨n, rfl⟩
    exact arcsAt.calls i _ _ _ A0 c0 l0 A1 c1 l1 a2 t _ ((arcs_drewN _ _ _).trans g1) ((arcs_drewN _ _ _).trans g2) ((arcs_drewN _ _ _).trans g3) (Kd.C_drewN g4 _) (Kd.C_drewN g5 _) ht
  have K1 := KK _ _ T1
  have K2 := KK _ _ T2
  have K3 := KK _ _ T3
  clear KK g1 g2 g3 g4 g5
  go_enter Try.func59, Try.ntmps59
  go_upto_region 2 with (fail)
  go_wp2_with (first
    | (go_at_call 71; refine (K1 _ (by repeat (first | exact Drawn0.refl _ | apply Drawn0.step))).mono ?_; rintro e w' ⟨rfl, ⟨nd1, rfl⟩⟩; clear K1)
    | (go_at_call 71; refine (K2 _ (by repeat (first | exact Drawn0.refl _ | apply Drawn0.step))).mono ?_; rintro e w' ⟨rfl, ⟨nd2, rfl⟩⟩; clear K2)
    | (go_at_call 71; refine (K3 _ (by repeat (first | exact Drawn0.refl _ | apply Drawn0.step))).mono ?_; rintro e w' ⟨rfl, ⟨nd3, rfl⟩⟩; clear K3))
  go_ret
  exact ⟨rfl, pw_below_drewN hb _⟩

/-! ### impl_ArcsAt: function 37 -/
def impl_ArcsAt.f (k : Nat) (l0 : List (List Int)) (l1 : List Int) (a2 : Int) (a3 : Int) : Option (Int) := (impl_IsFair.f k l0 l1).bind fun t418 => (if t418 = true then ((impl_within.f a2 0 (wrap64 ((l0.length : Int) - 1))).bind fun t419 => (if t419 = true then ((impl_within.f a3 0 2).bind fun t420 => (if t420 = true then ((impl_arcs.f l0 l1 a2 a3).bind fun t421 => (some t421)) else (some (-1)))) else (some (-1)))) else (some (-1)))
theorem impl_ArcsAt.mono : ∀ a0 a1 a2 a3 k, LeO (impl_ArcsAt.f k a0 a1 a2 a3) (impl_ArcsAt.f (k + 1) a0 a1 a2 a3) := by
  intro a0 a1 a2 a3 k
  unfold impl_ArcsAt.f
  repeat' first
      | (with_reducible exact impl_IsFair.mono _ _ _)
      | (with_reducible exact LeO.refl _)
      | (with_reducible exact LeO.none _)
      | (with_reducible refine LeO.ite ?_ ?_)
      | (with_reducible refine LeO.bind ?_ (fun _ => ?_))
      | exact impl_IsFair.mono _ _ _
      | exact LeO.none _
      | refine LeO.ite ?_ ?_
      | refine LeO.bind ?_ (fun _ => ?_)
set_option maxHeartbeats 8000000 in
set_option maxRecDepth 100000 in
theorem impl_ArcsAt.calls (k : Nat) (A0 : Option Addr) (c0 : Nat) (l0 : List (List Int)) (A1 : Option Addr) (c1 : Nat) (l1 : List Int) (a2 : Int) (a3 : Int) (r : Int) (w : World) (hr0 : Kd.C (Kd.slice 3 (Kd.int .i64)) w A0 l0.length l0) (hc0 : l0.length ≤ c0) (hr1 : Kd.C (Kd.int .i64) w A1 l1.length l1) (hc1 : l1.length ≤ c1) (h : impl_ArcsAt.f k l0 l1 a2 a3 = some r) :
    Calls Try.prog 37 #[.slice A0 l0.length c0, .slice A1 l1.length c1, .int .i64 a2, .int .i64 a3] w fun e w' => e = .returned (.int .i64 r) ∧ Below w.heap.size w w' := by
  have HR0 := Aside0.mk hr0
  have HC0 := Aside0.mk hc0
  clear hr0 hc0
  have HR1 := Aside0.mk hr1
  have HC1 := Aside0.mk hc1
  clear hr1 hc1
  have HB := Aside0.mk (Below.refl w.heap.size w)
  have H : ((impl_IsFair.f k l0 l1).bind fun t418 => (if t418 = true then ((impl_within.f a2 0 (wrap64 ((l0.length : Int) - 1))).bind fun t419 => (if t419 = true then ((impl_within.f a3 0 2).bind fun t420 => (if t420 = true then ((impl_arcs.f l0 l1 a2 a3).bind fun t421 => (some t421)) else (some (-1)))) else (some (-1)))) else (some (-1)))) = some r := h
  clear h
  replace H := Option.bind_eq_some_iff.mp H
  obtain ⟨t418, A50, H⟩ := H
  replace H : (if t418 = true then ((impl_within.f a2 0 (wrap64 ((l0.length : Int) - 1))).bind fun t419 => (if t419 = true then ((impl_within.f a3 0 2).bind fun t420 => (if t420 = true then ((impl_arcs.f l0 l1 a2 a3).bind fun t421 => (some t421)) else (some (-1)))) else (some (-1)))) else (some (-1))) = some r := H
  have A5 := Aside0.mk A50
  clear A50
  by_cases c6 : t418 = true
  · subst c6
    have H1 : ((impl_within.f a2 0 (wrap64 ((l0.length : Int) - 1))).bind fun t419 => (if t419 = true then ((impl_within.f a3 0 2).bind fun t420 => (if t420 = true then ((impl_arcs.f l0 l1 a2 a3).bind fun t421 => (some t421)) else (some (-1)))) else (some (-1)))) = some r := by rw [if_pos rfl] at H; exact H
    clear H
    have H := H1
    clear H1
    replace H := Option.bind_eq_some_iff.mp H
    obtain ⟨t419, A70, H⟩ := H
    replace H : (if t419 = true then ((impl_within.f a3 0 2).bind fun t420 => (if t420 = true then ((impl_arcs.f l0 l1 a2 a3).bind fun t421 => (some t421)) else (some (-1)))) else (some (-1))) = some r := H
    have A7 := Aside0.mk A70
    clear A70
    by_cases c8 : t419 = true
    · subst c8
      have H1 : ((impl_within.f a3 0 2).bind fun t420 => (if t420 = true then ((impl_arcs.f l0 l1 a2 a3).bind fun t421 => (some t421)) else (some (-1)))) = some r := by rw [if_pos rfl] at H; exact H
      clear H
      have H := H1
      clear H1
      replace H := Option.bind_eq_some_iff.mp H
      obtain ⟨t420, A90, H⟩ := H
      replace H : (if t420 = true then ((impl_arcs.f l0 l1 a2 a3).bind fun t421 => (some t421)) else (some (-1))) = some r := H
      have A9 := Aside0.mk A90
      clear A90
      by_cases c10 : t420 = true
      · subst c10
        have H1 : ((impl_arcs.f l0 l1 a2 a3).bind fun t421 => (some t421)) = some r := by rw [if_pos rfl] at H; exact H
        clear H
        have H := H1
        clear H1
        replace H := Option.bind_eq_some_iff.mp H
        obtain ⟨t421, A110, H⟩ := H
        replace H : (some t421) = some r := H
        have A11 := Aside0.mk A110
        clear A110
        obtain rfl := Option.some.inj H
        go_enter Try.func37, Try.ntmps37
        go_wp2_with (first | ((with_reducible refine gate_callee (f := 31) rfl ?_); refine goesL_ (some 11) rfl rfl Try.func31 (by kernel_rfl) rfl #[.slice A0 l0.length c0, .slice A1 l1.length c1] rfl (by (try simp only [List.map_toArray, List.map_cons, List.map_nil]); first | done | rfl | (simp only [List.length_drop, List.length_take]; rfl)) ?_; (with_reducible refine (impl_IsFair.calls k _ _ l0 _ _ l1 true _ ?side1 ?side2 ?side3 ?side4 A5.out).mono ?_); (case side1 => repeat (first | exact HR0.out | (with_reducible refine Kd.C_alloc ?_ _) | (with_reducible refine Kd.C_drewN ?_ _) | (with_reducible refine Kd.C_drew ?_))); (case side2 => exact HC0.out); (case side3 => repeat (first | exact HR1.out | (with_reducible refine Kd.C_alloc ?_ _) | (with_reducible refine Kd.C_drewN ?_ _) | (with_reducible refine Kd.C_drew ?_))); (case side4 => exact HC1.out); rintro e w12 ⟨rfl, hb⟩; refine ⟨_, rfl, ?_⟩; have n0_ := Aside0.mk (below_step (by repeat (first | (with_reducible first | exact HB.out | apply below_alloc | apply pw_below_drewN | apply below_drew1) | exact HB.out)) hb); clear HB; have HB := n0_; clear n0_; (try clear hb); (try clear hb2); (try clear hk); (try clear hi)) | (go_at_call 51; (with_reducible refine (impl_within.calls a2 0 (wrap64 ((l0.length : Int) - 1)) true _ A7.out).mono ?_); rintro e w' ⟨rfl, ⟨nd, rfl⟩⟩) | (go_at_call 51; (with_reducible refine (impl_within.calls a3 0 2 true _ A9.out).mono ?_); rintro e w' ⟨rfl, ⟨nd, rfl⟩⟩) | ((with_reducible refine gate_callee (f := 59) rfl ?_); refine goesL_ (some 30) rfl rfl Try.func59 (by kernel_rfl) rfl #[.slice A0 l0.length c0, .slice A1 l1.length c1, .int .i64 a2, .int .i64 a3] rfl (by (try simp only [List.map_toArray, List.map_cons, List.map_nil]); first | done | rfl | (simp only [List.length_drop, List.length_take]; rfl)) ?_; (with_reducible refine (impl_arcs.calls _ _ l0 _ _ l1 a2 a3 t421 _ ?side1 ?side2 ?side3 ?side4 A11.out).mono ?_); (case side1 => repeat (first | exact (Kd.C_below HR0.out (by repeat (first | (with_reducible first | exact HB.out | apply below_alloc | apply pw_below_drewN | apply below_drew1) | exact HB.out))) | (with_reducible refine Kd.C_alloc ?_ _) | (with_reducible refine Kd.C_drewN ?_ _) | (with_reducible refine Kd.C_drew ?_))); (case side2 => exact HC0.out); (case side3 => repeat (first | exact (Kd.C_below HR1.out (by repeat (first | (with_reducible first | exact HB.out | apply below_alloc | apply pw_below_drewN | apply below_drew1) | exact HB.out))) | (with_reducible refine Kd.C_alloc ?_ _) | (with_reducible refine Kd.C_drewN ?_ _) | (with_reducible refine Kd.C_drew ?_))); (case side4 => exact HC1.out); rintro e w13 ⟨rfl, hb⟩; refine ⟨_, rfl, ?_⟩; have n0_ := Aside0.mk (below_step (by repeat (first | (with_reducible first | exact HB.out | apply below_alloc | apply pw_below_drewN | apply below_drew1) | exact HB.out)) hb); clear HB; have HB := n0_; clear n0_; (try clear hb); (try clear hb2); (try clear hk); (try clear hi)))
        go_ret
        exact ⟨by first | rfl | (simp [errW_none, errW_some] <;> rfl) | (simp [*, errW_none, errW_some] <;> rfl), by repeat (first | (with_reducible first | exact HB.out | apply below_alloc | apply pw_below_drewN | apply below_drew1) | exact HB.out)⟩
      · replace c10 := Bool.eq_false_iff.mpr c10
        subst c10
        have H1 : (some (-1)) = some r := by rw [if_neg (show ¬ (false = true) by decide)] at H; exact H
        clear H
        have H := H1
        clear H1
        obtain rfl := Option.some.inj H
        go_enter Try.func37, Try.ntmps37
        go_wp2_with (first | ((with_reducible refine gate_callee (f := 31) rfl ?_); refine goesL_ (some 11) rfl rfl Try.func31 (by kernel_rfl) rfl #[.slice A0 l0.length c0, .slice A1 l1.length c1] rfl (by (try simp only [List.map_toArray, List.map_cons, List.map_nil]); first | done | rfl | (simp only [List.length_drop, List.length_take]; rfl)) ?_; (with_reducible refine (impl_IsFair.calls k _ _ l0 _ _ l1 true _ ?side1 ?side2 ?side3 ?side4 A5.out).mono ?_); (case side1 => repeat (first | exact HR0.out | (with_reducible refine Kd.C_alloc ?_ _) | (with_reducible refine Kd.C_drewN ?_ _) | (with_reducible refine Kd.C_drew ?_))); (case side2 => exact HC0.out); (case side3 => repeat (first | exact HR1.out | (with_reducible refine Kd.C_alloc ?_ _) | (with_reducible refine Kd.C_drewN ?_ _) | (with_reducible refine Kd.C_drew ?_))); (case side4 => exact HC1.out); rintro e w14 ⟨rfl, hb⟩; refine ⟨_, rfl, ?_⟩; have n0_ := Aside0.mk (below_step (by repeat (first | (with_reducible first | exact HB.out | apply below_alloc | apply pw_below_drewN | apply below_drew1) | exact HB.out)) hb); clear HB; have HB := n0_; clear n0_; (try clear hb); (try clear hb2); (try clear hk); (try clear hi)) | (go_at_call 51; (with_reducible refine (impl_within.calls a2 0 (wrap64 ((l0.length : Int) - 1)) true _ A7.out).mono ?_); rintro e w' ⟨rfl, ⟨nd, rfl⟩⟩) | (go_at_call 51; (with_reducible refine (impl_within.calls a3 0 2 false _ A9.out).mono ?_); rintro e w' ⟨rfl, ⟨nd, rfl⟩⟩))
        go_ret
        exact ⟨by first | rfl | (simp [errW_none, errW_some] <;> rfl) | (simp [*, errW_none, errW_some] <;> rfl), by repeat (first | (with_reducible first | exact HB.out | apply below_alloc | apply pw_below_drewN | apply below_drew1) | exact HB.out)⟩
    · replace c8 := Bool.eq_false_iff.mpr c8
      subst c8
      have H1 : (some (-1)) = some r := by rw [if_neg (show ¬ (false = true) by decide)] at H; exact H
      clear H
      have H := H1
      clear H1
      obtain rfl := Option.some.inj H
      go_enter Try.func37, Try.ntmps37
      go_wp2_with (first | ((with_reducible refine gate_callee (f := 31) rfl ?_); refine goesL_ (some 11) rfl rfl Try.func31 (by kernel_rfl) rfl #[.slice A0 l0.length c0, .slice A1 l1.length c1] rfl (by (try simp only [List.map_toArray, List.map_cons, List.map_nil]); first | done | rfl | (simp only [List.length_drop, List.length_take]; rfl)) ?_; (with_reducible refine (impl_IsFair.calls k _ _ l0 _ _ l1 true _ ?side1 ?side2 ?side3 ?side4 A5.out).mono ?_); (case side1 => repeat (first | exact HR0.out | (with_reducible refine Kd.C_alloc ?_ _) | (with_reducible refine Kd.C_drewN ?_ _) | (with_reducible refine Kd.C_drew ?_))); (case side2 => exact HC0.out); (case side3 => repeat (first | exact HR1.out | (with_reducible refine Kd.C_alloc ?_ _) | (with_reducible refine Kd.C_drewN ?_ _) | (with_reducible refine Kd.C_drew ?_))); (case side4 => exact HC1.out); rintro e w15 ⟨rfl, hb⟩; refine ⟨_, rfl, ?_⟩; have n0_ := Aside0.mk (below_step (by repeat (first | (with_reducible first | exact HB.out | apply below_alloc | apply pw_below_drewN | apply below_drew1) | exact HB.out)) hb); clear HB; have HB := n0_; clear n0_; (try clear hb); (try clear hb2); (try clear hk); (try clear hi)) | (go_at_call 51; (with_reducible refine (impl_within.calls a2 0 (wrap64 ((l0.length : Int) - 1)) false _ A7.out).mono ?_); rintro e w' ⟨rfl, ⟨nd, rfl⟩⟩))
      go_ret
      exact ⟨by first | rfl | (simp [errW_none, errW_some] <;> rfl) | (simp [*, errW_none, errW_some] <;> rfl), by repeat (first | (with_reducible first | exact HB.out | apply below_alloc | apply pw_below_drewN | apply below_drew1) | exact HB.out)⟩
  · replace c6 := Bool.eq_false_iff.mpr c6
    subst c6
    have H1 : (some (-1)) = some r := by rw [if_neg (show ¬ (false = true) by decide)] at H; exact H
    clear H
    have H := H1
    clear H1
    obtain rfl := Option.some.inj H
    go_enter Try.func37, Try.ntmps37
    go_wp2_with (first | ((with_reducible refine gate_callee (f := 31) rfl ?_); refine goesL_ (some 11) rfl rfl Try.func31 (by kernel_rfl) rfl #[.slice A0 l0.length c0, .slice A1 l1.length c1] rfl (by (try simp only [List.map_toArray, List.map_cons, List.map_nil]); first | done | rfl | (simp only [List.length_drop, List.length_take]; rfl)) ?_; (with_reducible refine (impl_IsFair.calls k _ _ l0 _ _ l1 false _ ?side1 ?side2 ?side3 ?side4 A5.out).mono ?_); (case side1 => repeat (first | exact HR0.out | (with_reducible refine Kd.C_alloc ?_ _) | (with_reducible refine Kd.C_drewN ?_ _) | (with_reducible refine Kd.C_drew ?_))); (case side2 => exact HC0.out); (case side3 => repeat (first | exact HR1.out | (with_reducible refine Kd.C_alloc ?_ _) | (with_reducible refine Kd.C_drewN ?_ _) | (with_reducible refine Kd.C_drew ?_))); (case side4 => exact HC1.out); rintro e w16 ⟨rfl, hb⟩; refine ⟨_, rfl, ?_⟩; have n0_ := Aside0.mk (below_step (by repeat (first | (with_reducible first | exact HB.out | apply below_alloc | apply pw_below_drewN | apply below_drew1) | exact HB.out)) hb); clear HB; have HB := n0_; clear n0_; (try clear hb); (try clear hb2); (try clear hk); (try clear hi)))
    go_ret
    exact ⟨by first | rfl | (simp [errW_none, errW_some] <;> rfl) | (simp [*, errW_none, errW_some] <;> rfl), by repeat (first | (with_reducible first | exact HB.out | apply below_alloc | apply pw_below_drewN | apply below_drew1) | exact HB.out)⟩

end Go.Proofs.Ytcligopbieaceaa.P
