-- By this session's driver (wip/tools/mk.py) of the kit's print program, over several statements at once. Not trusted: Lean checks it.
import Derived.Test.YtjmgbaphlhimhaaQPx0
import Derived.Test.YtjmgbaphlhimhaaQPx12
import Derived.Test.YtjmgbaphlhimhaaQPx13
namespace Go.Proofs.Ytjmgbaphlhimhaa.P
open Go.RowKit Go.Proofs.YtjmgbaphlhimhaaW.PrintWords Go.Proofs.YtjmgbaphlhimhaaW.PrintLast Go.Proofs.YtjmgbaphlhimhaaW.PrintMore
attribute [local go_sem] max2_int min2_int max_two min_two max_three min_three max_four min_four   -- for this text's walks alone
set_option linter.unusedVariables false
set_option linter.unusedSimpArgs false

/-! ### impl_isAround: function 66 -/
mutual
def impl_isAround.l0 : Nat → List (List Int) → List Int → List Int → Int → Int → Option Bool
 | 0, _, _, _, _, _ => none
 | k + 1, t, x, up, corner, i => if i < (t.length : Int) then (impl_isAround.l1 k t x up corner i 0) else (some true)
def impl_isAround.l1 : Nat → List (List Int) → List Int → List Int → Int → Int → Int → Option Bool
 | 0, _, _, _, _, _, _ => none
 | k + 1, t, x, up, corner, i, j => if j < 3 then ((joiner_top.l0 k up (wrap64 (wrap64 (3 * i) + Int.tmod (wrap64 (j + 1)) 3))).bind fun a => ((joiner_top.l0 k up corner).bind fun b => (if a = b then ((impl_arcs.f t x i j).bind fun n => (if n < 1 then some false else (impl_isAround.l1 k t x up corner i (wrap64 (j + 1))))) else (impl_isAround.l1 k t x up corner i (wrap64 (j + 1)))))) else (impl_isAround.l0 k t x up corner (wrap64 (i + 1)))
end
theorem impl_isAround.mono_l : ∀ k, (∀ y0 y1 y2 y3 y4, LeO (impl_isAround.l0 k y0 y1 y2 y3 y4) (impl_isAround.l0 (k + 1) y0 y1 y2 y3 y4)) ∧ (∀ y0 y1 y2 y3 y4 y5, LeO (impl_isAround.l1 k y0 y1 y2 y3 y4 y5) (impl_isAround.l1 (k + 1) y0 y1 y2 y3 y4 y5))
 | 0 => ⟨fun _ _ _ _ _ r h => by simp [impl_isAround.l0] at h, fun _ _ _ _ _ _ r h => by simp [impl_isAround.l1] at h⟩
 | k + 1 => by
  obtain ⟨ih0, ih1⟩ := impl_isAround.mono_l k
  refine ⟨?_, ?_⟩
  ·intro y0 y1 y2 y3 y4
   unfold impl_isAround.l0
   repeat' first
   | (with_reducible exact ih1 _ _ _ _ _ _)
   | (with_reducible exact LeO.refl _)
   | (with_reducible refine LeO.ite ?_ ?_)
  intro y0 y1 y2 y3 y4 y5
  unfold impl_isAround.l1
  repeat' first
  | (with_reducible exact ih0 _ _ _ _ _)
  | (with_reducible exact ih1 _ _ _ _ _ _)
  | (with_reducible exact joiner_top.mono _ _ _)
  | (with_reducible exact LeO.refl _)
  | (with_reducible exact LeO.none _)
  | (with_reducible refine LeO.ite ?_ ?_)
  | (with_reducible refine LeO.bind ?_ (fun _ => ?_))
set_option maxHeartbeats 8000000 in
set_option maxRecDepth 100000 in
theorem impl_isAround.calls (k : Nat) (A0 : Option Addr) (c0 : Nat) (l0 : List (List Int)) (A1 : Option Addr) (c1 : Nat) (l1 : List Int) (base p : Nat) (AJ : Option Addr) (cJ : Nat) (up : List Int) (a3 : Int) (r : Bool) (w : World) (hr0 : Kd.C (Kd.slice 3 (Kd.int .i64)) w A0 l0.length l0) (hc0 : l0.length ≤ c0) (hr1 : Kd.C (Kd.int .i64) w A1 l1.length l1) (hc1 : l1.length ≤ c1) (hJ : Jn w base p AJ cJ up) (h : impl_isAround.l0 k l0 l1 up a3 0 = some r) :
  Calls Try.prog 66 #[.slice A0 l0.length c0, .slice A1 l1.length c1, .pointer (some ⟨p, 0, none⟩), .int .i64 a3] w fun e w' => e = .returned (.bool r) ∧ Below w.heap.size w w' := by
 have HR0 := Az.mk hr0
 have HC0 := Az.mk hc0
 have HR1 := Az.mk hr1
 have HC1 := Az.mk hc1
 have HJ1 := Az.mk hJ
 have H' := Az.mk h
 clear hr0 hc0 hr1 hc1 hJ h
 go_enter Try.func66, Try.ntmps66
 go_wp2
 go_loopg [13] k (fun kq v13 w' => ∃ (i_1 : Int), v13 = .int .i64 i_1 ∧ Az (impl_isAround.l0 kq l0 l1 up a3 i_1 = some r) ∧ Az (kq ≤ k) ∧ Az (Below w.heap.size w w'))
 case atStart => exact ⟨0, rfl, H', ⟨Nat.le_refl _⟩, ⟨by first | exact Below.refl _ _ | exact pbN (Below.refl _ _) _⟩⟩
 case round =>
  clear H'
  obtain ⟨i_1, rfl, HA, HK1, HB⟩ := hrel
  cases gk with
  | zero => exact absurd HA.out (by simp [impl_isAround.l0])
  | succ k1 =>
   have H := HA.out
   clear HA
   simp only [impl_isAround.l0] at H
   by_cases b2 : i_1 < (l0.length : Int)
   rotate_left
   ·rw [if_neg b2] at H
    have b2b : decide (i_1 < (l0.length : Int)) = false := decide_eq_false b2
    clear b2
    obtain rfl := Option.some.inj H
    go_wp2
    go_ret
    exact ⟨rfl, HB.out⟩
   rw [if_pos b2] at H
   have b2b := decide_eq_true b2
   clear b2
   have H' := Az.mk H
   clear H
   go_wp2
   go_loopg [16] k1 (fun kq v16 w' => ∃ (j_1 : Int), v16 = .int .i64 j_1 ∧ Az (impl_isAround.l1 kq l0 l1 up a3 i_1 j_1 = some r) ∧ Az (kq ≤ k1) ∧ Az (Below w.heap.size w w'))
   case atStart => exact ⟨0, rfl, H', ⟨Nat.le_refl _⟩, HB⟩
   case round =>
    clear H' HB
    obtain ⟨j_1, rfl, HA, HK2, HB⟩ := hrel
    cases gk with
    | zero => exact absurd HA.out (by simp [impl_isAround.l1])
    | succ k2 =>
     have H := HA.out
     clear HA
     simp only [impl_isAround.l1] at H
     by_cases d2 : j_1 < 3
     rotate_left
     ·rw [if_neg d2] at H
      have d2b : decide (j_1 < 3) = false := decide_eq_false d2
      clear d2
      have H' := Az.mk H
      clear H
      go_wp2
      go_roundg k2
      case measure => have := HK1.out; have := HK2.out; omega
      case rel => exact ⟨_, rfl, H', ⟨by have := HK1.out; have := HK2.out; omega⟩, HB⟩
     rw [if_pos d2] at H
     have d2b := decide_eq_true d2
     clear d2
     replace H := Option.bind_eq_some_iff.mp H
     obtain ⟨ta, T1, H⟩ := H
     replace H := Option.bind_eq_some_iff.mp H
     obtain ⟨tb, T2, H⟩ := H
     have T1 := Az.mk T1
     have T2 := Az.mk T2
     have HJ := Az.mk (HJ1.out.below HB.out)
     by_cases e1 : ta = tb
     rotate_left
     ·rw [if_neg e1] at H
      have e1b : (ta == tb) = false := beq_eq_false_iff_ne.mpr e1
      clear e1
      have H' := Az.mk H
      clear H
      go_wp2_with (first
        | (go_at_call 103; refine (joiner_top.calls k2 ⟨p, 0, none⟩ AJ cJ up _ _ _ (by first | exact (HJ.out.drewN _).cell | exact HJ.out.cell) (by first | exact (HJ.out.drewN _).C | exact HJ.out.C) T1.out).mono ?_; rintro e w' ⟨rfl, ⟨nd1, rfl⟩⟩; clear T1)
        | (go_at_call 103; refine (joiner_top.calls k2 ⟨p, 0, none⟩ AJ cJ up _ _ _ (by first | exact (HJ.out.drewN _).cell | exact HJ.out.cell) (by first | exact (HJ.out.drewN _).C | exact HJ.out.C) T2.out).mono ?_; rintro e w' ⟨rfl, ⟨nd2, rfl⟩⟩; clear T2))
      go_roundg k2
      case measure => have := HK1.out; have := HK2.out; omega
      case rel => exact ⟨_, rfl, H', ⟨by have := HK2.out; omega⟩, ⟨by first | exact HB.out | exact pbN HB.out _⟩⟩
     rw [if_pos e1] at H
     have e1b : (ta == tb) = true := beq_iff_eq.mpr e1
     clear e1
     replace H := Option.bind_eq_some_iff.mp H
     obtain ⟨n, T3, H⟩ := H
     have T3 := Az.mk T3
     by_cases e2 : n < 1
     ·rw [if_pos e2] at H
      have e2b := decide_eq_true e2
      clear e2
      obtain rfl := Option.some.inj H
      go_wp2_with (first
       | (go_at_call 103; refine (joiner_top.calls k2 ⟨p, 0, none⟩ AJ cJ up _ _ _ (by first | exact (HJ.out.drewN _).cell | exact HJ.out.cell) (by first | exact (HJ.out.drewN _).C | exact HJ.out.C) T1.out).mono ?_; rintro e w' ⟨rfl, ⟨nd1, rfl⟩⟩; clear T1)
       | (go_at_call 103; refine (joiner_top.calls k2 ⟨p, 0, none⟩ AJ cJ up _ _ _ (by first | exact (HJ.out.drewN _).cell | exact HJ.out.cell) (by first | exact (HJ.out.drewN _).C | exact HJ.out.C) T2.out).mono ?_; rintro e w' ⟨rfl, ⟨nd2, rfl⟩⟩; clear T2)
       | (go_at_call 104; refine (impl_arcs.calls A0 c0 l0 A1 c1 l1 _ _ n _ (by first | exact Kd.C_drewN (Kd.C_below HR0.out HB.out) _ | exact Kd.C_below HR0.out HB.out) HC0.out (by first | exact Kd.C_drewN (Kd.C_below HR1.out HB.out) _ | exact Kd.C_below HR1.out HB.out) HC1.out T3.out).mono ?_; rintro e W3 ⟨rfl, hb⟩; have HB3 := Az.mk (bwT (by first | exact pbN HB.out _ | exact HB.out) hb); clear hb T3 HB; have HB := HB3; clear HB3))
      go_ret
      exact ⟨rfl, by first | exact HB.out | exact pbN HB.out _⟩
     rw [if_neg e2] at H
     have e2b : decide (n < 1) = false := decide_eq_false e2
     clear e2
     have H' := Az.mk H
     clear H
     go_wp2_with (first
      | (go_at_call 103; refine (joiner_top.calls k2 ⟨p, 0, none⟩ AJ cJ up _ _ _ (by first | exact (HJ.out.drewN _).cell | exact HJ.out.cell) (by first | exact (HJ.out.drewN _).C | exact HJ.out.C) T1.out).mono ?_; rintro e w' ⟨rfl, ⟨nd1, rfl⟩⟩; clear T1)
      | (go_at_call 103; refine (joiner_top.calls k2 ⟨p, 0, none⟩ AJ cJ up _ _ _ (by first | exact (HJ.out.drewN _).cell | exact HJ.out.cell) (by first | exact (HJ.out.drewN _).C | exact HJ.out.C) T2.out).mono ?_; rintro e w' ⟨rfl, ⟨nd2, rfl⟩⟩; clear T2)
      | (go_at_call 104; refine (impl_arcs.calls A0 c0 l0 A1 c1 l1 _ _ n _ (by first | exact Kd.C_drewN (Kd.C_below HR0.out HB.out) _ | exact Kd.C_below HR0.out HB.out) HC0.out (by first | exact Kd.C_drewN (Kd.C_below HR1.out HB.out) _ | exact Kd.C_below HR1.out HB.out) HC1.out T3.out).mono ?_; rintro e W3 ⟨rfl, hb⟩; have HB3 := Az.mk (bwT (by first | exact pbN HB.out _ | exact HB.out) hb); clear hb T3 HB; have HB := HB3; clear HB3))
     go_roundg k2
     case measure => have := HK1.out; have := HK2.out; omega
     case rel => exact ⟨_, rfl, H', ⟨by have := HK2.out; omega⟩, ⟨by first | exact HB.out | exact pbN HB.out _⟩⟩
theorem impl_isAround.callsn (k : Nat) (A0 : Option Addr) (c0 : Nat) (l0 : List (List Int)) (A1 : Option Addr) (c1 : Nat) (l1 : List Int) (n1 : Nat) (hn : n1 = l1.length) (base p : Nat) (AJ : Option Addr) (cJ : Nat) (up : List Int) (a3 : Int) (r : Bool) (w : World) (hr0 : Kd.C (Kd.slice 3 (Kd.int .i64)) w A0 l0.length l0) (hc0 : l0.length ≤ c0) (hr1 : Kd.C (Kd.int .i64) w A1 l1.length l1) (hc1 : l1.length ≤ c1) (hJ : Jn w base p AJ cJ up) (h : impl_isAround.l0 k l0 l1 up a3 0 = some r) :
  Calls Try.prog 66 #[.slice A0 l0.length c0, .slice A1 n1 c1, .pointer (some ⟨p, 0, none⟩), .int .i64 a3] w fun e w' => e = .returned (.bool r) ∧ Below w.heap.size w w' := by
 subst hn
 exact impl_isAround.calls k A0 c0 l0 A1 c1 l1 base p AJ cJ up a3 r w hr0 hc0 hr1 hc1 hJ h

/-! ### impl_around: function 67 -/
def inc1 (b : Prop) [Decidable b] (out : List Int) (e : Int) : Option (List Int) := if b then (if 0 ≤ e then (if e < (out.length : Int) then some (out.set e.toNat (wrap64 (rd out e + 1))) else none) else none) else some out
mutual
def impl_around.l0 : Nat → List (List Int) → List Int → Int → List Int → Int → Option (List Int)
 | 0, _, _, _, _, _ => none
 | k + 1, t, up, corner, out, i => if i < (t.length : Int) then (if 0 ≤ i then (impl_around.l1 k t up corner out i 0) else none) else (some out)
def impl_around.l1 : Nat → List (List Int) → List Int → Int → List Int → Int → Int → Option (List Int)
 | 0, _, _, _, _, _, _ => none
 | k + 1, t, up, corner, out, i, j => if j < ((rd_L1 t i).length : Int) then (if 0 ≤ j then (if rd (rd_L1 t i) j < 0 then (impl_around.l1 k t up corner out i (wrap64 (j + 1))) else ((joiner_top.l0 k up (wrap64 (wrap64 (3 * i) + j))).bind fun a => ((joiner_top.l0 k up corner).bind fun b => ((inc1 (a = b) out (wrap64 (rd (rd_L1 t i) j - 1))).bind fun o1 => ((joiner_top.l0 k up (wrap64 (wrap64 (3 * i) + Int.tmod (wrap64 (j + 1)) 3))).bind fun c => ((joiner_top.l0 k up corner).bind fun d => ((inc1 (c = d) o1 (wrap64 (rd (rd_L1 t i) j - 1))).bind fun o2 => (impl_around.l1 k t up corner o2 i (wrap64 (j + 1)))))))))) else none) else (impl_around.l0 k t up corner out (wrap64 (i + 1)))
end
def impl_around.f (k : Nat) (t : List (List Int)) (corner : Int) : Option (List Int) := (impl_vertices.f k t).bind fun up => (if 0 ≤ wrap64 (Int.tdiv (wrap64 (3 * (t.length : Int))) 2) then (if wrap64 (Int.tdiv (wrap64 (3 * (t.length : Int))) 2) ≤ 1000000000000 then impl_around.l0 k t up corner (List.replicate (wrap64 (Int.tdiv (wrap64 (3 * (t.length : Int))) 2)).toNat 0) 0 else none) else none)
theorem impl_around.mono_l : ∀ k, (∀ y0 y1 y2 y3 y4, LeO (impl_around.l0 k y0 y1 y2 y3 y4) (impl_around.l0 (k + 1) y0 y1 y2 y3 y4)) ∧ (∀ y0 y1 y2 y3 y4 y5, LeO (impl_around.l1 k y0 y1 y2 y3 y4 y5) (impl_around.l1 (k + 1) y0 y1 y2 y3 y4 y5))
 | 0 => ⟨fun _ _ _ _ _ r h => by simp [impl_around.l0] at h, fun _ _ _ _ _ _ r h => by simp [impl_around.l1] at h⟩
 | k + 1 => by
  obtain ⟨ih0, ih1⟩ := impl_around.mono_l k
  refine ⟨?_, ?_⟩
  ·intro y0 y1 y2 y3 y4
   unfold impl_around.l0
   repeat' first
   | (with_reducible exact ih1 _ _ _ _ _ _)
   | (with_reducible exact LeO.refl _)
   | (with_reducible exact LeO.none _)
   | (with_reducible refine LeO.ite ?_ ?_)
   | (with_reducible refine LeO.bind ?_ (fun _ => ?_))
  intro y0 y1 y2 y3 y4 y5
  unfold impl_around.l1
  repeat' first
  | (with_reducible exact ih0 _ _ _ _ _)
  | (with_reducible exact ih1 _ _ _ _ _ _)
  | (with_reducible exact joiner_top.mono _ _ _)
  | (with_reducible exact LeO.refl _)
  | (with_reducible exact LeO.none _)
  | (with_reducible refine LeO.ite ?_ ?_)
  | (with_reducible refine LeO.bind ?_ (fun _ => ?_))
theorem impl_around.mono : ∀ a0 a1 k, LeO (impl_around.f k a0 a1) (impl_around.f (k + 1) a0 a1) := by
 intro a0 a1 k
 unfold impl_around.f
 refine LeO.bind (impl_vertices.mono _ _) (fun _ => LeO.ite (LeO.ite ((impl_around.mono_l k).1 _ _ _ _ _) (LeO.refl _)) (LeO.refl _))
/-- A place of a row of one's own: its cell, and what a store there leaves. -/
theorem row_some {w : World} {base : Nat} {ok : Nat → Prop} {A : Option Addr} {n c : Nat} {out : List Int} (HO : Kd.R (Kd.int .i64) 3 w base ok (.slice A n c) out) {Z : Int} (h0 : 0 ≤ Z) (h1 : Z < (out.length : Int)) : ∃ g : Nat, A = some ⟨g, 0, none⟩ := by
 obtain ⟨g, cap, eg, _⟩ := Kd.R_form HO (by omega)
 injection eg with ea en ec
 exact ⟨g, ea⟩
theorem row_at {w : World} {base : Nat} {ok : Nat → Prop} {g n c : Nat} {out : List Int} {w0 : World} (HO : Kd.R (Kd.int .i64) 3 w base ok (.slice (some ⟨g, 0, none⟩) n c) out) (HB : Below base w0 w) {Z : Int} (h0 : 0 ≤ Z) (h1 : Z < (out.length : Int)) :
  w.cell? ⟨g, Z.toNat, none⟩ = some (.int .i64 (rd out Z)) ∧ w.frozen? ⟨g, Z.toNat, none⟩ = false ∧ (Z < (n : Int)) ∧ Az (∀ W v, Drawn0 w W → Kd.R (Kd.int .i64) 3 (W.setCell ⟨g, Z.toNat, none⟩ (.int .i64 v)) base ok (.slice (some ⟨g, 0, none⟩) n c) (out.set Z.toNat v) ∧ Below base w0 (W.setCell ⟨g, Z.toNat, none⟩ (.int .i64 v))) := by
 have hn := (Kd.R_reads' HO).1
 obtain ⟨g', cap, eg, hg1, _⟩ := Kd.R_form HO (by omega)
 injection eg with ea en ec
 injection ea with ea
 injection ea with ea
 subst ea
 obtain ⟨hx, hf⟩ := Kd.R_celln 0 HO Z h0 (by omega)
 refine ⟨hx, hf, by omega, ⟨?_⟩⟩
 rintro W v ⟨m, rfl⟩
 exact ⟨(Kd.R_putg (Kd.R_drewN HO m) Z v).1, (pbN HB m).setCell hg1 _⟩
theorem inc1_pos {b : Prop} [Decidable b] {out o : List Int} {e : Int} (hb : b) (h : inc1 b out e = some o) : 0 ≤ e ∧ e < (out.length : Int) ∧ o = out.set e.toNat (wrap64 (rd out e + 1)) := by
 unfold inc1 at h
 rw [if_pos hb] at h
 by_cases h0 : 0 ≤ e
 ·rw [if_pos h0] at h
  by_cases h1 : e < (out.length : Int)
  ·rw [if_pos h1] at h
   exact ⟨h0, h1, (Option.some.inj h).symm⟩
  rw [if_neg h1] at h; exact absurd h (by simp)
 rw [if_neg h0] at h; exact absurd h (by simp)
theorem inc1_neg {b : Prop} [Decidable b] {out o : List Int} {e : Int} (hb : ¬ b) (h : inc1 b out e = some o) : o = out := by
 unfold inc1 at h
 rw [if_neg hb] at h
 exact (Option.some.inj h).symm
set_option maxHeartbeats 8000000 in
set_option maxRecDepth 100000 in
theorem impl_around.calls (k : Nat) (A0 : Option Addr) (c0 : Nat) (l0 : List (List Int)) (a1 : Int) (r : List Int) (w : World) (hr0 : Kd.C (Kd.slice 3 (Kd.int .i64)) w A0 l0.length l0) (hc0 : l0.length ≤ c0) (h : impl_around.f k l0 a1 = some r) :
  Calls Try.prog 67 #[.slice A0 l0.length c0, .int .i64 a1] w fun e w' => ∃ v0_ : Value, e = .returned (v0_) ∧ Kd.R (Kd.int .i64) 3 w' w.heap.size (fun _ => True) v0_ r ∧ Below w.heap.size w w' := by
 have HR0 := Az.mk hr0
 have HC0 := Az.mk hc0
 clear hr0 hc0
 unfold impl_around.f at h
 obtain ⟨up, T0, h⟩ := Option.bind_eq_some_iff.mp h
 have T0 := Az.mk T0
 obtain ⟨N, hN⟩ : ∃ j_ : Int, wrap64 (Int.tdiv (wrap64 (3 * (l0.length : Int))) 2) = j_ := ⟨_, rfl⟩
 have hNw : IntKind.i64.wrap (Int.tdiv (wrap64 (3 * (l0.length : Int))) 2) = N := (i64_w _).trans hN
 rw [hN] at h
 by_cases b1 : 0 ≤ N
 rotate_left
 ·rw [if_neg b1] at h
  exact absurd h (by simp)
 rw [if_pos b1] at h
 by_cases b2 : N ≤ 1000000000000
 rotate_left
 ·rw [if_neg b2] at h
  exact absurd h (by simp)
 rw [if_pos b2] at h
 have H' := Az.mk h
 clear h
 have N0 := Az.mk b1
 have N1 := Az.mk b2
 clear b1 b2
 have HB0 := Az.mk (Below.refl w.heap.size w)
 go_enter Try.func67, Try.ntmps67
 go_wp2_with (first
  | (go_at_call 64; refine (impl_vertices.calls k _ c0 l0 up _ (by first | exact Kd.C_drewN HR0.out _ | exact HR0.out) HC0.out T0.out).mono ?_; rintro e W1 ⟨p, AJ, cJ, rfl, hj, hb⟩; have HB1 := Az.mk (bwT (by first | exact pbN HB0.out _ | exact HB0.out) hb); have HJ1 := Az.mk hj; have HR1 := Az.mk (Kd.C_below HR0.out HB1.out); clear hj hb T0 HB0 HR0)
  | ((with_reducible refine gtD (N := 17) rfl ?_); refine Kd.R_make (Kd.int .i64) (w0 := W1) W1.heap.size 3 rfl (N := 17) rfl 22 _ _ rfl N ?hx ?hy Try.underlying22 (.int .i64 0) 8 info3 rfl (by decide) (by omega) 0 (ok := fun _ => True) (okp := fun _ => True) rfl (fun _ hk => hk) trivial N0.out (by have := N1.out; omega) (by first | exact pbN (Below.refl _ _) _ | exact Below.refl _ _) (by first | exact Nat.le_refl _) ?_; (case hx => first | rfl | (simp only [hNw]; rfl)); (case hy => first | rfl | (simp only [hNw]; rfl)); intro v1 W2 ho hb hg_ hnew_; have HO := Az.mk ho; have HB := Az.mk hb; clear hg_ hnew_ ho hb; obtain ⟨AO, cO, eO⟩ := Kd.R_slice HO.out; generalize (List.replicate N.toNat (0 : Int)).length = nO at eO; subst eO))
 go_loopg [20] k (fun kq v20 w' => ∃ (out_1 : List Int) (i_1 : Int), v20 = .int .i64 i_1 ∧ Az (impl_around.l0 kq l0 up a1 out_1 i_1 = some r) ∧ Az (kq ≤ k) ∧ Az (Kd.R (Kd.int .i64) 3 w' W1.heap.size (fun _ => True) (.slice AO nO cO) out_1) ∧ Az (Below W1.heap.size W1 w'))
 case atStart => exact ⟨_, 0, rfl, H', ⟨Nat.le_refl _⟩, HO, HB⟩
 case round =>
  clear H' HO HB
  obtain ⟨out_1, i_1, rfl, HA, HK1, HO, HB⟩ := hrel
  cases gk with
  | zero => exact absurd HA.out (by simp [impl_around.l0])
  | succ k1 =>
   have H := HA.out
   clear HA
   simp only [impl_around.l0] at H
   by_cases b2 : i_1 < (l0.length : Int)
   rotate_left
   ·rw [if_neg b2] at H
    have b2b : decide (i_1 < (l0.length : Int)) = false := decide_eq_false b2
    clear b2
    obtain rfl := Option.some.inj H
    go_wp2
    go_ret
    exact ⟨_, rfl, Kd.R_lower HO.out HB1.out.size, bwT HB1.out HB.out⟩
   rw [if_pos b2] at H
   by_cases b1 : 0 ≤ i_1
   rotate_left
   ·rw [if_neg b1] at H
    exact absurd H (by simp)
   rw [if_pos b1] at H
   obtain ⟨ad, A1, c1, e1, hx1, hl1, hi1⟩ := at_L1 HR1.out i_1 b1 b2
   subst e1
   replace hx1 := (HB.out.cell (World.block_lt_of_cell? W1 _ hx1)).trans hx1
   have HR2 := Az.mk hi1
   have HC2 := Az.mk hl1
   clear hi1 hl1
   have H' := Az.mk H
   clear H
   have b2b := decide_eq_true b2
   replace b1 := eq_true b1
   replace b2 := eq_true b2
   go_wp2
   go_loopg [27] k1 (fun kq v27 w' => ∃ (out_2 : List Int) (j_1 : Int), v27 = .int .i64 j_1 ∧ Az (impl_around.l1 kq l0 up a1 out_2 i_1 j_1 = some r) ∧ Az (kq ≤ k1) ∧ Az (Kd.R (Kd.int .i64) 3 w' W1.heap.size (fun _ => True) (.slice AO nO cO) out_2) ∧ Az (Below W1.heap.size W1 w'))
   case atStart => exact ⟨out_1, 0, rfl, H', ⟨Nat.le_refl _⟩, HO, HB⟩
   case round =>
    clear H' HO HB hx1
    obtain ⟨out_2, j_1, rfl, HA, HK2, HO, HB⟩ := hrel
    cases gk with
    | zero => exact absurd HA.out (by simp [impl_around.l1])
    | succ k2 =>
     have H := HA.out
     clear HA
     simp only [impl_around.l1] at H
     by_cases d2 : j_1 < ((rd_L1 l0 i_1).length : Int)
     rotate_left
     ·rw [if_neg d2] at H
      have d2b : decide (j_1 < ((rd_L1 l0 i_1).length : Int)) = false := decide_eq_false d2
      clear d2
      have H' := Az.mk H
      clear H
      go_wp2
      go_roundg k2
      case measure => have := HK1.out; have := HK2.out; omega
      case rel => exact ⟨out_2, _, rfl, H', ⟨by have := HK1.out; have := HK2.out; omega⟩, HO, HB⟩
     rw [if_pos d2] at H
     by_cases d1 : 0 ≤ j_1
     rotate_left
     ·rw [if_neg d1] at H
      exact absurd H (by simp)
     rw [if_pos d1] at H
     obtain ⟨ad2, e2, hx2⟩ := Kd.at_int HR2.out j_1 d1 d2
     subst e2
     replace hx2 := (HB.out.cell (World.block_lt_of_cell? W1 _ hx2)).trans hx2
     obtain ⟨X, hX⟩ : ∃ j_ : Int, rd (rd_L1 l0 i_1) j_1 = j_ := ⟨_, rfl⟩
     rw [hX] at H hx2
     clear hX
     have d2b := decide_eq_true d2
     replace d1 := eq_true d1
     replace d2 := eq_true d2
     by_cases x0 : X < 0
     ·rw [if_pos x0] at H
      have x0b := decide_eq_true x0
      clear x0
      have H' := Az.mk H
      clear H
      go_wp2
      go_roundg k2
      case measure => have := HK1.out; have := HK2.out; omega
      case rel => exact ⟨out_2, _, rfl, H', ⟨by have := HK2.out; omega⟩, HO, HB⟩
     rw [if_neg x0] at H
     have x0b : decide (X < 0) = false := decide_eq_false x0
     clear x0
     obtain ⟨Z, hZ⟩ : ∃ j_ : Int, wrap64 (X - 1) = j_ := ⟨_, rfl⟩
     have hZw : IntKind.i64.wrap (X - 1) = Z := (i64_w _).trans hZ
     rw [hZ] at H
     replace H := Option.bind_eq_some_iff.mp H
     obtain ⟨ta, T1, H⟩ := H
     replace H := Option.bind_eq_some_iff.mp H
     obtain ⟨tb, T2, H⟩ := H
     replace H := Option.bind_eq_some_iff.mp H
     obtain ⟨o1, T3, H⟩ := H
     replace H := Option.bind_eq_some_iff.mp H
     obtain ⟨tc, T4, H⟩ := H
     replace H := Option.bind_eq_some_iff.mp H
     obtain ⟨td, T5, H⟩ := H
     replace H := Option.bind_eq_some_iff.mp H
     obtain ⟨o2, T6, H⟩ := H
     have T1 := Az.mk T1
     have T2 := Az.mk T2
     have T4 := Az.mk T4
     have T5 := Az.mk T5
     have HJ := Az.mk (HJ1.out.below HB.out)
     by_cases e1 : ta = tb
     rotate_left
     ·obtain rfl := inc1_neg e1 T3
      have e1b : (ta == tb) = false := beq_eq_false_iff_ne.mpr e1
      clear e1 T3
      by_cases e2 : tc = td
      rotate_left
      ·obtain rfl := inc1_neg e2 T6
       have e2b : (tc == td) = false := beq_eq_false_iff_ne.mpr e2
       clear e2 T6
       have H' := Az.mk H
       clear H
       go_wp2_with (first
        | (go_at_call 103; refine (joiner_top.calls k2 ⟨p, 0, none⟩ AJ cJ up _ _ _ (by first | exact (HJ.out.drewN _).cell | exact HJ.out.cell) (by first | exact (HJ.out.drewN _).C | exact HJ.out.C) T1.out).mono ?_; rintro e w' ⟨rfl, ⟨nd1, rfl⟩⟩; clear T1)
        | (go_at_call 103; refine (joiner_top.calls k2 ⟨p, 0, none⟩ AJ cJ up _ _ _ (by first | exact (HJ.out.drewN _).cell | exact HJ.out.cell) (by first | exact (HJ.out.drewN _).C | exact HJ.out.C) T2.out).mono ?_; rintro e w' ⟨rfl, ⟨nd2, rfl⟩⟩; clear T2)
        | (go_at_call 103; refine (joiner_top.calls k2 ⟨p, 0, none⟩ AJ cJ up _ _ _ (by first | exact (HJ.out.drewN _).cell | exact HJ.out.cell) (by first | exact (HJ.out.drewN _).C | exact HJ.out.C) T4.out).mono ?_; rintro e w' ⟨rfl, ⟨nd3, rfl⟩⟩; clear T4)
        | (go_at_call 103; refine (joiner_top.calls k2 ⟨p, 0, none⟩ AJ cJ up _ _ _ (by first | exact (HJ.out.drewN _).cell | exact HJ.out.cell) (by first | exact (HJ.out.drewN _).C | exact HJ.out.C) T5.out).mono ?_; rintro e w' ⟨rfl, ⟨nd4, rfl⟩⟩; clear T5))
       go_roundg k2
       case measure => have := HK1.out; have := HK2.out; omega
       case rel => exact ⟨o2, _, rfl, H', ⟨by have := HK2.out; omega⟩, ⟨Kd.R_drewN HO.out _⟩, ⟨pbN HB.out _⟩⟩
      obtain ⟨z0, z1, rfl⟩ := inc1_pos e2 T6
      have e2b : (tc == td) = true := beq_iff_eq.mpr e2
      have z0 := Az.mk z0
      have z1 := Az.mk z1
      clear e2 T6
      have H' := Az.mk H
      clear H
      obtain ⟨g, eg⟩ := row_some HO.out z0.out z1.out
      subst eg
      obtain ⟨hx, hf, zn, fin⟩ := row_at HO.out HB.out z0.out z1.out
      have zn1 := eq_true zn
      have z01 := eq_true z0.out
      go_wp2_with (first
       | (go_at_call 103; refine (joiner_top.calls k2 ⟨p, 0, none⟩ AJ cJ up _ _ _ (by first | exact (HJ.out.drewN _).cell | exact HJ.out.cell) (by first | exact (HJ.out.drewN _).C | exact HJ.out.C) T1.out).mono ?_; rintro e w' ⟨rfl, ⟨nd1, rfl⟩⟩; clear T1)
       | (go_at_call 103; refine (joiner_top.calls k2 ⟨p, 0, none⟩ AJ cJ up _ _ _ (by first | exact (HJ.out.drewN _).cell | exact HJ.out.cell) (by first | exact (HJ.out.drewN _).C | exact HJ.out.C) T2.out).mono ?_; rintro e w' ⟨rfl, ⟨nd2, rfl⟩⟩; clear T2)
       | (go_at_call 103; refine (joiner_top.calls k2 ⟨p, 0, none⟩ AJ cJ up _ _ _ (by first | exact (HJ.out.drewN _).cell | exact HJ.out.cell) (by first | exact (HJ.out.drewN _).C | exact HJ.out.C) T4.out).mono ?_; rintro e w' ⟨rfl, ⟨nd3, rfl⟩⟩; clear T4)
       | (go_at_call 103; refine (joiner_top.calls k2 ⟨p, 0, none⟩ AJ cJ up _ _ _ (by first | exact (HJ.out.drewN _).cell | exact HJ.out.cell) (by first | exact (HJ.out.drewN _).C | exact HJ.out.C) T5.out).mono ?_; rintro e w' ⟨rfl, ⟨nd4, rfl⟩⟩; clear T5))
      go_roundg k2
      case measure => have := HK1.out; have := HK2.out; omega
      case rel => exact ⟨(o1.set Z.toNat (wrap64 (rd o1 Z + 1))), _, rfl, H', ⟨by have := HK2.out; omega⟩, ⟨(fin.out _ _ ⟨_, rfl⟩).1⟩, ⟨(fin.out _ _ ⟨_, rfl⟩).2⟩⟩
     obtain ⟨z0, z1, rfl⟩ := inc1_pos e1 T3
     have e1b : (ta == tb) = true := beq_iff_eq.mpr e1
     have z0 := Az.mk z0
     have z1 := Az.mk z1
     clear e1 T3
     by_cases e2 : tc = td
     ·obtain ⟨_, _, rfl⟩ := inc1_pos e2 T6
      have e2b : (tc == td) = true := beq_iff_eq.mpr e2
      clear e2 T6
      have H' := Az.mk H
      clear H
      obtain ⟨g, eg⟩ := row_some HO.out z0.out z1.out
      subst eg
      obtain ⟨hx, hf, zn, fin⟩ := row_at HO.out HB.out z0.out z1.out
      have zn1 := eq_true zn
      have z01 := eq_true z0.out
      go_wp2_with (first
       | (go_at_call 103; refine (joiner_top.calls k2 ⟨p, 0, none⟩ AJ cJ up _ _ _ (by first | exact (HJ.out.drewN _).cell | exact HJ.out.cell) (by first | exact (HJ.out.drewN _).C | exact HJ.out.C) T1.out).mono ?_; rintro e w' ⟨rfl, ⟨nd1, rfl⟩⟩; clear T1)
       | (go_at_call 103; refine (joiner_top.calls k2 ⟨p, 0, none⟩ AJ cJ up _ _ _ (by first | exact (HJ.out.drewN _).cell | exact HJ.out.cell) (by first | exact (HJ.out.drewN _).C | exact HJ.out.C) T2.out).mono ?_; rintro e w' ⟨rfl, ⟨nd2, rfl⟩⟩; clear T2)
       | ((with_reducible refine gate_store (t := 3) (p := 50) rfl ?_); refine store_event (t := 3) (p := 50) (v := ?vo_1) (w1 := ?w1_1) ?hg ?ho ?hn ?hr ?_; (case ho => rfl); (case hg => rfl); (case hn => rfl); (case hr => first | (go_simp; done) | (go_simp; rfl)); intro W3 hw; have HO3 := Az.mk (show Kd.R (Kd.int .i64) 3 W3 W1.heap.size (fun _ => True) (.slice (some ⟨g, 0, none⟩) nO cO) (out_2.set Z.toNat (wrap64 (rd out_2 Z + 1))) from by rw [hw]; exact (fin.out _ _ ⟨_, rfl⟩).1); have HB3 := Az.mk (show Below W1.heap.size W1 W3 from by rw [hw]; exact (fin.out _ _ ⟨_, rfl⟩).2); clear hw fin hx hf HO HB HJ; have HO := HO3; have HB := HB3; have HJ := Az.mk (HJ1.out.below HB.out); clear HO3 HB3; obtain ⟨hx, hf, _, fin⟩ := row_at HO.out HB.out z0.out (by rw [List.length_set]; exact z1.out); skip)
       | (go_at_call 103; refine (joiner_top.calls k2 ⟨p, 0, none⟩ AJ cJ up _ _ _ (by first | exact (HJ.out.drewN _).cell | exact HJ.out.cell) (by first | exact (HJ.out.drewN _).C | exact HJ.out.C) T4.out).mono ?_; rintro e w' ⟨rfl, ⟨nd3, rfl⟩⟩; clear T4)
       | (go_at_call 103; refine (joiner_top.calls k2 ⟨p, 0, none⟩ AJ cJ up _ _ _ (by first | exact (HJ.out.drewN _).cell | exact HJ.out.cell) (by first | exact (HJ.out.drewN _).C | exact HJ.out.C) T5.out).mono ?_; rintro e w' ⟨rfl, ⟨nd4, rfl⟩⟩; clear T5))
      go_roundg k2
      case measure => have := HK1.out; have := HK2.out; omega
      case rel => exact ⟨((out_2.set Z.toNat (wrap64 (rd out_2 Z + 1))).set Z.toNat (wrap64 (rd (out_2.set Z.toNat (wrap64 (rd out_2 Z + 1))) Z + 1))), _, rfl, H', ⟨by have := HK2.out; omega⟩, ⟨(fin.out _ _ ⟨_, rfl⟩).1⟩, ⟨(fin.out _ _ ⟨_, rfl⟩).2⟩⟩
     obtain rfl := inc1_neg e2 T6
     have e2b : (tc == td) = false := beq_eq_false_iff_ne.mpr e2
     clear e2 T6
     have H' := Az.mk H
     clear H
     obtain ⟨g, eg⟩ := row_some HO.out z0.out z1.out
     subst eg
     obtain ⟨hx, hf, zn, fin⟩ := row_at HO.out HB.out z0.out z1.out
     have zn1 := eq_true zn
     have z01 := eq_true z0.out
     go_wp2_with (first
      | (go_at_call 103; refine (joiner_top.calls k2 ⟨p, 0, none⟩ AJ cJ up _ _ _ (by first | exact (HJ.out.drewN _).cell | exact HJ.out.cell) (by first | exact (HJ.out.drewN _).C | exact HJ.out.C) T1.out).mono ?_; rintro e w' ⟨rfl, ⟨nd1, rfl⟩⟩; clear T1)
      | (go_at_call 103; refine (joiner_top.calls k2 ⟨p, 0, none⟩ AJ cJ up _ _ _ (by first | exact (HJ.out.drewN _).cell | exact HJ.out.cell) (by first | exact (HJ.out.drewN _).C | exact HJ.out.C) T2.out).mono ?_; rintro e w' ⟨rfl, ⟨nd2, rfl⟩⟩; clear T2)
      | ((with_reducible refine gate_store (t := 3) (p := 50) rfl ?_); refine store_event (t := 3) (p := 50) (v := ?vo_2) (w1 := ?w1_2) ?hg ?ho ?hn ?hr ?_; (case ho => rfl); (case hg => rfl); (case hn => rfl); (case hr => first | (go_simp; done) | (go_simp; rfl)); intro W3 hw; have HO3 := Az.mk (show Kd.R (Kd.int .i64) 3 W3 W1.heap.size (fun _ => True) (.slice (some ⟨g, 0, none⟩) nO cO) (out_2.set Z.toNat (wrap64 (rd out_2 Z + 1))) from by rw [hw]; exact (fin.out _ _ ⟨_, rfl⟩).1); have HB3 := Az.mk (show Below W1.heap.size W1 W3 from by rw [hw]; exact (fin.out _ _ ⟨_, rfl⟩).2); clear hw fin hx hf HO HB HJ; have HO := HO3; have HB := HB3; have HJ := Az.mk (HJ1.out.below HB.out); clear HO3 HB3; obtain ⟨hx, hf, _, fin⟩ := row_at HO.out HB.out z0.out (by rw [List.length_set]; exact z1.out); skip)
      | (go_at_call 103; refine (joiner_top.calls k2 ⟨p, 0, none⟩ AJ cJ up _ _ _ (by first | exact (HJ.out.drewN _).cell | exact HJ.out.cell) (by first | exact (HJ.out.drewN _).C | exact HJ.out.C) T4.out).mono ?_; rintro e w' ⟨rfl, ⟨nd3, rfl⟩⟩; clear T4)
      | (go_at_call 103; refine (joiner_top.calls k2 ⟨p, 0, none⟩ AJ cJ up _ _ _ (by first | exact (HJ.out.drewN _).cell | exact HJ.out.cell) (by first | exact (HJ.out.drewN _).C | exact HJ.out.C) T5.out).mono ?_; rintro e w' ⟨rfl, ⟨nd4, rfl⟩⟩; clear T5))
     go_roundg k2
     case measure => have := HK1.out; have := HK2.out; omega
     case rel => exact ⟨(out_2.set Z.toNat (wrap64 (rd out_2 Z + 1))), _, rfl, H', ⟨by have := HK2.out; omega⟩, ⟨Kd.R_drewN HO.out _⟩, ⟨pbN HB.out _⟩⟩

end Go.Proofs.Ytjmgbaphlhimhaa.P
