-- By this session's driver (wip/tools/mk.py) of the kit's print program, over several statements at once. Not trusted: Lean checks it.
import Derived.Test.YtkmjcdlhlhefdaaQWZip
import Derived.Test.YtkmjcdlhlhefdaaQPx0
import Derived.Test.YtkmjcdlhlhefdaaQPx1
import Derived.Test.YtkmjcdlhlhefdaaQPx2
import Derived.Test.YtkmjcdlhlhefdaaQPx5
import Derived.Test.YtkmjcdlhlhefdaaQPx8
import Derived.Test.YtkmjcdlhlhefdaaQPx10
import Derived.Test.YtkmjcdlhlhefdaaQPx12
import Derived.Test.YtkmjcdlhlhefdaaQPx14
namespace Go.Proofs.Ytkmjcdlhlhefdaa.P
open Go.RowKit Go.Proofs.YtkmjcdlhlhefdaaW.PrintWords Go.Proofs.YtkmjcdlhlhefdaaW.PrintLast Go.Proofs.YtkmjcdlhlhefdaaW.PrintMore
attribute [local go_sem] max2_int min2_int max_two min_two max_three min_three max_four min_four   -- for this text's walks alone
set_option linter.unusedVariables false
set_option linter.unusedSimpArgs false

theorem bw_15 {n : Nat} {v v' : World} (h : Below n v v' := by repeat (first | (with_reducible first | exact HB.out | apply bwA | apply pbN | apply bwD) | exact HB.out)) : Below n v v' := h

theorem ln_15 {P : Prop} (h : P := by (try simp only [List.map_toArray, List.map_cons, List.map_nil]); first | done | rfl | (simp only [List.length_drop, List.length_take]; rfl)) : P := h
open Option renaming bind_eq_some_iff → be

/-! ### spec_CrossingMap: function 10 -/
def spec_CrossingMap.f (k : Nat) (l0 : List Int) (a1 : Int) : Option (List Int × Bool) := (spec_IsCrossingWord.f k l0).bind fun t354 => (if t354 = true then ((spec_l1In.f a1 0 255).bind fun t355 => (if t355 = true then ((spec_l18Map.f k l0 a1).bind fun t356 => (some (t356, true))) else (some ((([] : List Int)), false)))) else (some ((([] : List Int)), false)))
set_option maxHeartbeats 8000000 in
set_option maxRecDepth 100000 in
theorem spec_CrossingMap.calls (k : Nat) (A0 : Option Addr) (c0 : Nat) (l0 : List Int) (a1 : Int) (r1 : List Int) (r2 : Bool) (w : World) (hr0 : Kd.C (Kd.int .i64) w A0 l0.length l0) (hc0 : l0.length ≤ c0) (h : spec_CrossingMap.f k l0 a1 = some (r1, r2)) :
  Calls Try.prog 10 #[.slice A0 l0.length c0, .int .i64 a1] w fun e w' => ∃ v0_ : Value, e = .returned (.tuple #[v0_, .bool r2]) ∧ Kd.R (Kd.int .i64) 3 w' w.heap.size (fun _ => True) v0_ r1 ∧ Below w.heap.size w w' := by
 have HR0 := Az.mk hr0
 have HC0 := Az.mk hc0
 clear hr0 hc0
 have HB := Az.mk (Below.refl w.heap.size w)
 have H : ((spec_IsCrossingWord.f k l0).bind fun t354 => (if t354 = true then ((spec_l1In.f a1 0 255).bind fun t355 => (if t355 = true then ((spec_l18Map.f k l0 a1).bind fun t356 => (some (t356, true))) else (some ((([] : List Int)), false)))) else (some ((([] : List Int)), false)))) = some (r1, r2) := h
 clear h
 replace H := bez H
 obtain ⟨t354, A3, H⟩ := H
 try dsimp only at H
 by_cases c4 : t354 = true
 rotate_left
 ·replace c4 := Bool.eq_false_iff.mpr c4
  subst c4
  rw [if_neg ff] at H
  obtain ⟨y362, hy⟩ : ∃ y_ : List Int, y_ = (([] : List Int)) := ⟨_, rfl⟩
  replace H : (some (y362, false)) = some (r1, r2) := rh
  have Ny362 := Az.mk hy
  clear hy
  simp only [Option.some.injEq, Prod.mk.injEq] at H
  obtain ⟨rfl, rfl⟩ := H
  go_enter Try.func10, Try.ntmps10
  go_wp2_with (first | ((with_reducible refine gtC (f := 23) rfl ?_); refine clz Try.func23 (some 7) #[.slice A0 l0.length c0] ?_; (with_reducible refine (spec_IsCrossingWord.calls k _ _ l0 false _ ?side1 ?side2 A3.out).mono ?_); (case side1 => exact kC HR0.out); (case side2 => exact HC0.out); rintro e w' ⟨rfl, ⟨nd, rfl⟩⟩; refine ⟨_, rfl, ?_⟩) | ((with_reducible refine gtD (N := 14) rfl ?_); refine Kd.R_lit (Kd.int .i64) _ 3 ?hg (N := 14) ?hd (xs := ([] : List Int)) (inner := []) (ok := fun _ => True) (okp := fun _ => True) ?hr ?hp (fun _ hk => hk) trivial (Below.refl _ _) (Nat.le_refl _) (by simp) ?_; (case hd => rfl); (case hg => rfl); (case hr => first | (go_simp; done) | (go_simp; rfl)); (case hp => exact (Reps.none _ _)); intro v363 w11 ho12 hb hg_ hnew_; clear hg_ hnew_; (first | rw [← Ny362.out] at ho12 | (simp only [Int.reduceToNat] at ho12; rw [← Ny362.out] at ho12)); have HO364 := Az.mk (Kd.R_lower ho12 (bwZ bw_15)); replace HB := Az.mk (bwT bw_15 hb); clear hb ho12))
  go_ret2
  exact ⟨_, rq1, kR HO364.out, bw_15⟩
 subst c4
 rw [if_pos rfl] at H
 replace H := bez H
 obtain ⟨t355, A5, H⟩ := H
 try dsimp only at H
 by_cases c6 : t355 = true
 ·subst c6
  rw [if_pos rfl] at H
  replace H := bez H
  obtain ⟨t356, A7, H⟩ := H
  try dsimp only at H
  simp only [Option.some.injEq, Prod.mk.injEq] at H
  obtain ⟨rfl, rfl⟩ := H
  go_enter Try.func10, Try.ntmps10
  go_wp2_with (first | ((with_reducible refine gtC (f := 23) rfl ?_); refine clz Try.func23 (some 7) #[.slice A0 l0.length c0] ?_; (with_reducible refine (spec_IsCrossingWord.calls k _ _ l0 true _ ?side1 ?side2 A3.out).mono ?_); (case side1 => exact kC HR0.out); (case side2 => exact HC0.out); rintro e w' ⟨rfl, ⟨nd, rfl⟩⟩; refine ⟨_, rfl, ?_⟩) | (go_at_call 37; (with_reducible refine (spec_l1In.calls a1 0 255 true _ A5.out).mono ?_); rintro e w' ⟨rfl, ⟨nd, rfl⟩⟩) | ((with_reducible refine gtC (f := 38) rfl ?_); refine clz Try.func38 (some 17) #[.slice A0 l0.length c0, .int .i64 a1] ?_; (with_reducible refine (spec_l18Map.calls k _ _ l0 a1 t356 _ ?side1 ?side2 A7.out).mono ?_); (case side1 => exact kC HR0.out); (case side2 => exact HC0.out); rintro e w8 ⟨v357, rfl, ho0, hb⟩; refine ⟨_, rfl, ?_⟩; have HO358 := Az.mk (Kd.R_lower ho0 (bwZ bw_15)); replace HB := Az.mk (bwT bw_15 hb); (try clear hb); (try clear ho0)))
  go_ret2
  exact ⟨_, rq1, kR HO358.out, bw_15⟩
 replace c6 := Bool.eq_false_iff.mpr c6
 subst c6
 rw [if_neg ff] at H
 obtain ⟨y359, hy⟩ : ∃ y_ : List Int, y_ = (([] : List Int)) := ⟨_, rfl⟩
 replace H : (some (y359, false)) = some (r1, r2) := rh
 have Ny359 := Az.mk hy
 clear hy
 simp only [Option.some.injEq, Prod.mk.injEq] at H
 obtain ⟨rfl, rfl⟩ := H
 go_enter Try.func10, Try.ntmps10
 go_wp2_with (first | ((with_reducible refine gtC (f := 23) rfl ?_); refine clz Try.func23 (some 7) #[.slice A0 l0.length c0] ?_; (with_reducible refine (spec_IsCrossingWord.calls k _ _ l0 true _ ?side1 ?side2 A3.out).mono ?_); (case side1 => exact kC HR0.out); (case side2 => exact HC0.out); rintro e w' ⟨rfl, ⟨nd, rfl⟩⟩; refine ⟨_, rfl, ?_⟩) | (go_at_call 37; (with_reducible refine (spec_l1In.calls a1 0 255 false _ A5.out).mono ?_); rintro e w' ⟨rfl, ⟨nd, rfl⟩⟩) | ((with_reducible refine gtD (N := 14) rfl ?_); refine Kd.R_lit (Kd.int .i64) _ 3 ?hg (N := 14) ?hd (xs := ([] : List Int)) (inner := []) (ok := fun _ => True) (okp := fun _ => True) ?hr ?hp (fun _ hk => hk) trivial (Below.refl _ _) (Nat.le_refl _) (by simp) ?_; (case hd => rfl); (case hg => rfl); (case hr => first | (go_simp; done) | (go_simp; rfl)); (case hp => exact (Reps.none _ _)); intro v360 w9 ho10 hb hg_ hnew_; clear hg_ hnew_; (first | rw [← Ny359.out] at ho10 | (simp only [Int.reduceToNat] at ho10; rw [← Ny359.out] at ho10)); have HO361 := Az.mk (Kd.R_lower ho10 (bwZ bw_15)); replace HB := Az.mk (bwT bw_15 hb); clear hb ho10))
 go_ret2
 exact ⟨_, rq1, kR HO361.out, bw_15⟩

/-! ### spec_DrawDropCrossing: function 11 -/
def spec_DrawDropCrossing.f (k : Nat) (l0 : List Int) : Option (List Int × Int) := (spec_l1New.f k l0).bind fun bt365 => ((spec_l18Draw.f k bt365.1 bt365.2.1 bt365.2.2).bind fun bt369 => ((spec_l1Below.f bt365.1 bt369.2.1 bt369.2.2 7).bind fun bt374 => (some (bt369.1, bt374.1))))
set_option maxHeartbeats 8000000 in
set_option maxRecDepth 100000 in
theorem spec_DrawDropCrossing.calls (k : Nat) (A0 : Option Addr) (c0 : Nat) (l0 : List Int) (r1 : List Int) (r2 : Int) (w : World) (hr0 : Kd.C (Kd.int .u8) w A0 l0.length l0) (hc0 : l0.length ≤ c0) (h : spec_DrawDropCrossing.f k l0 = some (r1, r2)) :
  Calls Try.prog 11 #[.slice A0 l0.length c0] w fun e w' => ∃ v0_ : Value, e = .returned (.tuple #[v0_, .int .i64 r2]) ∧ Kd.R (Kd.int .i64) 3 w' w.heap.size (fun _ => True) v0_ r1 ∧ Below w.heap.size w w' := by
 have HR0 := Az.mk hr0
 have HC0 := Az.mk hc0
 clear hr0 hc0
 have HB := Az.mk (Below.refl w.heap.size w)
 have H : ((spec_l1New.f k l0).bind fun bt365 => ((spec_l18Draw.f k bt365.1 bt365.2.1 bt365.2.2).bind fun bt369 => ((spec_l1Below.f bt365.1 bt369.2.1 bt369.2.2 7).bind fun bt374 => (some (bt369.1, bt374.1))))) = some (r1, r2) := h
 clear h
 replace H := bez H
 obtain ⟨⟨t365, t366, t367⟩, A2, H⟩ := H
 try dsimp only at H
 replace H := bez H
 obtain ⟨⟨t369, t372, t373⟩, A3, H⟩ := H
 try dsimp only at H
 replace H := bez H
 obtain ⟨⟨t374, t375, t376⟩, A4, H⟩ := H
 try dsimp only at H
 simp only [Option.some.injEq, Prod.mk.injEq] at H
 obtain ⟨rfl, rfl⟩ := H
 go_enter Try.func11, Try.ntmps11
 go_wp2_with (first | ((with_reducible refine gtC (f := 31) rfl ?_); refine clz Try.func31 (some 6) #[.slice A0 l0.length c0] ?_; (with_reducible refine (spec_l1New.calls k _ _ l0 t365 t366 t367 w _ ?side1 ?side2 ?side3 A2.out).mono ?_); (case side1 => exact bw_15); (case side2 => exact HR0.out); (case side3 => exact HC0.out); rintro e w5 ⟨g368, rfl, hi, hb, hb2⟩; refine ⟨_, rfl, ?_⟩; replace HB := Az.mk (hb); have HI368 := Az.mk (hi); (try clear hb); (try clear hb2); (try clear hi)) | ((with_reducible refine gtC (f := 30) rfl ?_); refine clz Try.func30 (some 8) #[.pointer (some ⟨g368, 0, none⟩)] ?_; (with_reducible refine (spec_l18Draw.calls k g368 t365 t366 t367 t369 t372 t373 w _ ?side1 ?side2 A3.out).mono ?_); (case side1 => exact (kI HI368.out)); (case side2 => exact kG HB.out (IsS51.ge HI368.out)); rintro e w6 ⟨v370, rfl, ho0, hi, hb, hk⟩; refine ⟨_, rfl, ?_⟩; have HO371 := Az.mk (Kd.R_lower ho0 (bwZ (kG HB.out (IsS51.ge HI368.out)))); replace HB := Az.mk (hb); replace HI368 := Az.mk (hi); (try clear hb); (try clear hk); (try clear hi); (try clear ho0)) | ((with_reducible refine gtC (f := 34) rfl ?_); refine clz Try.func34 (some 10) #[.pointer (some ⟨g368, 0, none⟩), .int .i64 7] ?_; (with_reducible refine (spec_l1Below.calls g368 t365 t372 t373 7 t374 t375 t376 w _ ?side1 ?side2 A4.out).mono ?_); (case side1 => exact (kI HI368.out)); (case side2 => exact kG HB.out (IsS51.ge HI368.out)); rintro e w7 ⟨rfl, hi, hb, hk⟩; refine ⟨_, rfl, ?_⟩; replace HO371 := Az.mk (Kd.R_mono (Kd.R_keep (IsS51.apart (show IsS51 w _ g368 t365 t372 t373 from kI HI368.out) (kR HO371.out) (by decide)) hk (fun _ h => h.2)) (fun _ h => h.1)); replace HB := Az.mk (hb); replace HI368 := Az.mk (hi); (try clear hb); (try clear hk); (try clear hi)))
 go_ret2
 exact ⟨_, rq1, kR HO371.out, kG HB.out (IsS51.ge HI368.out)⟩

/-! ### impl_DropCrossing: function 12 -/
mutual
def impl_DropCrossing.j0 : Nat → List Int → Int → Bool → Option (List Int × Bool)
 | 0, _, _, _ => none
 | k + 1, x0, x1, x22 => if x22 = true then (some (([] : List Int), false)) else (impl_DropCrossing.l0 k x1 (([] : List Int)) x0 (x0.length : Int) 0)
def impl_DropCrossing.l0 : Nat → Int → List Int → List Int → Int → Int → Option (List Int × Bool)
 | 0, _, _, _, _, _ => none
 | k + 1, x1, x6, x24, x25, x26 => if x26 < x25 then (if 0 ≤ x26 then (if x26 < (x24.length : Int) then (if (rd x24 x26) = x1 then (impl_DropCrossing.l0 k x1 x6 x24 x25 (wrap64 (x26 + 1))) else (if x6.length < 17592186044416 then (impl_DropCrossing.l0 k x1 (x6 ++ [rd x24 x26]) x24 x25 (wrap64 (x26 + 1))) else (none))) else (none)) else (none)) else (some (x6, true))
end
def impl_DropCrossing.f (k : Nat) (l0 : List Int) (a1 : Int) : Option (List Int × Bool) := (impl_IsCrossingWord.f k l0).bind fun t377 => (if t377 = true then ((impl_indexOf.f k l0 a1).bind fun t378 => (if t378 < 0 then (impl_DropCrossing.j0 k l0 a1 true) else (impl_DropCrossing.j0 k l0 a1 ((l0.length : Int) == 2)))) else (impl_DropCrossing.j0 k l0 a1 true))
set_option maxHeartbeats 8000000 in
set_option maxRecDepth 100000 in
theorem impl_DropCrossing.calls (k : Nat) (A0 : Option Addr) (c0 : Nat) (l0 : List Int) (a1 : Int) (r1 : List Int) (r2 : Bool) (w : World) (hr0 : Kd.C (Kd.int .i64) w A0 l0.length l0) (hc0 : l0.length ≤ c0) (h : impl_DropCrossing.f k l0 a1 = some (r1, r2)) :
  Calls Try.prog 12 #[.slice A0 l0.length c0, .int .i64 a1] w fun e w' => ∃ v0_ : Value, e = .returned (.tuple #[v0_, .bool r2]) ∧ Kd.R (Kd.int .i64) 3 w' w.heap.size (fun _ => True) v0_ r1 ∧ Below w.heap.size w w' := by
 have HR0 := Az.mk hr0
 have HC0 := Az.mk hc0
 clear hr0 hc0
 have HB := Az.mk (Below.refl w.heap.size w)
 have H : ((impl_IsCrossingWord.f k l0).bind fun t377 => (if t377 = true then ((impl_indexOf.f k l0 a1).bind fun t378 => (if t378 < 0 then (impl_DropCrossing.j0 k l0 a1 true) else (impl_DropCrossing.j0 k l0 a1 ((l0.length : Int) == 2)))) else (impl_DropCrossing.j0 k l0 a1 true))) = some (r1, r2) := h
 clear h
 have HC3 := Az.mk H
 clear H
 go_enter Try.func12, Try.ntmps12
 go_upto_region 1 with (fail)
 go_cut [22] (fun v22 wc => ∃ (kq : Nat) (x22_2 : Bool), v22 = .bool x22_2 ∧ Az (impl_DropCrossing.j0 kq l0 a1 x22_2 = some (r1, r2)) ∧ Az (kq ≤ k) ∧ Az (Below w.heap.size w wc))
 case first =>
  have H := HC3.out
  clear HC3
  replace H := bez H
  obtain ⟨t377, A4, H⟩ := H
  try dsimp only at H
  by_cases c5 : t377 = true
  rotate_left
  ·replace c5 := Bool.eq_false_iff.mpr c5
   subst c5
   rw [if_neg ff] at H
   have H' := Az.mk H
   clear H
   go_wp2_with (first | ((with_reducible refine gtC (f := 22) rfl ?_); refine clz Try.func22 (some 10) #[.slice A0 l0.length c0] ?_; (with_reducible refine (impl_IsCrossingWord.calls k _ _ l0 false _ ?side1 ?side2 A4.out).mono ?_); (case side1 => exact kC (Kd.C_below HR0.out HB.out)); (case side2 => exact HC0.out); rintro e w10 ⟨rfl, hb⟩; refine ⟨_, rfl, ?_⟩; replace HB := Az.mk (bwT bw_15 hb); (try clear hb)))
   go_meet
   case rel => exact ⟨_, (true), rq2, H', ⟨by first | omega | exact Nat.le_refl _⟩, ⟨bw_15⟩⟩
  subst c5
  rw [if_pos rfl] at H
  replace H := bez H
  obtain ⟨t378, A6, H⟩ := H
  try dsimp only at H
  by_cases c7 : t378 < 0
  ·rw [if_pos c7] at H
   have c7b0 : decide (t378 < 0) = true := decide_eq_true c7
   clear c7
   (first | rw [c7b0] | (simp only [i64_w, i32_w]; rw [c7b0]) | skip)
   have H' := Az.mk H
   clear H
   go_wp2_with (first | ((with_reducible refine gtC (f := 22) rfl ?_); refine clz Try.func22 (some 10) #[.slice A0 l0.length c0] ?_; (with_reducible refine (impl_IsCrossingWord.calls k _ _ l0 true _ ?side1 ?side2 A4.out).mono ?_); (case side1 => exact kC (Kd.C_below HR0.out HB.out)); (case side2 => exact HC0.out); rintro e w8 ⟨rfl, hb⟩; refine ⟨_, rfl, ?_⟩; replace HB := Az.mk (bwT bw_15 hb); (try clear hb)) | (go_at_call 39; (with_reducible refine (impl_indexOf.calls k _ _ l0 a1 t378 _ ?side1 ?side2 A6.out).mono ?_); (case side1 => exact kC (Kd.C_below HR0.out HB.out)); (case side2 => exact HC0.out); rintro e w' ⟨rfl, ⟨nd, rfl⟩⟩))
   go_meet
   case rel => exact ⟨_, (true), rq2, H', ⟨by first | omega | exact Nat.le_refl _⟩, ⟨bw_15⟩⟩
  rw [if_neg c7] at H
  have c7b0 : decide (t378 < 0) = false := decide_eq_false c7
  clear c7
  (first | rw [c7b0] | (simp only [i64_w, i32_w]; rw [c7b0]) | skip)
  have H' := Az.mk H
  clear H
  go_wp2_with (first | ((with_reducible refine gtC (f := 22) rfl ?_); refine clz Try.func22 (some 10) #[.slice A0 l0.length c0] ?_; (with_reducible refine (impl_IsCrossingWord.calls k _ _ l0 true _ ?side1 ?side2 A4.out).mono ?_); (case side1 => exact kC (Kd.C_below HR0.out HB.out)); (case side2 => exact HC0.out); rintro e w9 ⟨rfl, hb⟩; refine ⟨_, rfl, ?_⟩; replace HB := Az.mk (bwT bw_15 hb); (try clear hb)) | (go_at_call 39; (with_reducible refine (impl_indexOf.calls k _ _ l0 a1 t378 _ ?side1 ?side2 A6.out).mono ?_); (case side1 => exact kC (Kd.C_below HR0.out HB.out)); (case side2 => exact HC0.out); rintro e w' ⟨rfl, ⟨nd, rfl⟩⟩))
  go_meet
  case rel => exact ⟨_, (((l0.length : Int) == 2)), rq2, H', ⟨by first | omega | exact Nat.le_refl _⟩, ⟨bw_15⟩⟩
 clear HC3
 try clear c5
 try clear c7
 try clear c7b0
 obtain ⟨kq, x22_2, rfl, HA, HJ2, HB⟩ := hcut
 cases kq with
 | zero => exact absurd HA.out (by simp [impl_DropCrossing.j0])
 | succ kj2 =>
  have H := HA.out
  clear HA
  simp only [impl_DropCrossing.j0] at H
  by_cases c11 : x22_2 = true
  ·subst c11
   rw [if_pos rfl] at H
   simp only [Option.some.injEq, Prod.mk.injEq] at H
   obtain ⟨rfl, rfl⟩ := H
   go_wp2
   go_ret2
   exact ⟨_, rq1, by first | exact Kd.R_nil _ _ _ _ _ | exact Kd.N_nil _ _ _ _ _ | exact Kd.V_nil _ _ _ _ _ | exact Kd.Q_nil _ _ _ _ _ | exact Kd.S_nil _ _ _ _ _, bw_15⟩
  replace c11 := Bool.eq_false_iff.mpr c11
  subst c11
  rw [if_neg ff] at H
  obtain ⟨y379, hy⟩ : ∃ y_ : List Int, y_ = (([] : List Int)) := ⟨_, rfl⟩
  replace H : (impl_DropCrossing.l0 kj2 a1 y379 l0 (l0.length : Int) 0) = some (r1, r2) := rh
  have Ny379 := Az.mk hy
  clear hy
  have H' := Az.mk H
  clear H
  go_wp2_with (first | ((with_reducible refine gtD (N := 23) rfl ?_); (try (refine gate_guard (by rfl) ?_; dsimp only)); refine Kd.R_lit (Kd.int .i64) _ 3 ?hg (N := 23) ?hd (xs := ([] : List Int)) (inner := []) (ok := fun _ => True) (okp := fun _ => True) ?hr ?hp (fun _ hk => hk) trivial (Below.refl _ _) (Nat.le_refl _) (by simp) ?_; (case hd => rfl); (case hg => rfl); (case hr => first | (go_simp; done) | (go_simp; rfl)); (case hp => exact (Reps.none _ _)); intro v380 w12 ho13 hb hg_ hnew_; clear hg_ hnew_; (first | rw [← Ny379.out] at ho13 | (simp only [Int.reduceToNat] at ho13; rw [← Ny379.out] at ho13)); have HO381 := Az.mk (Kd.R_lower ho13 (bwZ bw_15)); replace HB := Az.mk (bwT bw_15 hb); clear hb ho13))
  go_loopg [6, 26] kj2 (fun kq v6 v26 w' => ∃ (x6_2 : List Int) (x26_2 : Int), v26 = .int .i64 x26_2 ∧ Az (impl_DropCrossing.l0 kq a1 x6_2 l0 (l0.length : Int) x26_2 = some (r1, r2)) ∧ Az (kq ≤ kj2) ∧ Az (Kd.R (Kd.int .i64) 3 w' w.heap.size (fun _ => True) v6 x6_2) ∧ Az (Below w.heap.size w w'))
  case atStart => exact ⟨(y379), (0), rq2, H', ⟨Nat.le_refl _⟩, ⟨kR HO381.out⟩, ⟨bw_15⟩⟩
  clear H'
  try clear c5
  try clear c7
  try clear c7b0
  try clear c11
  obtain ⟨x6_2, x26_2, rfl, HA, HK2, HO_6, HB⟩ := hrel
  cases gk with
  | zero => exact absurd HA.out (by simp [impl_DropCrossing.l0])
  | succ k2 =>
   have H := HA.out
   clear HA
   simp only [impl_DropCrossing.l0] at H
   by_cases c14 : x26_2 < (l0.length : Int)
   rotate_left
   ·rw [if_neg c14] at H
    have c14b0 : decide (x26_2 < (l0.length : Int)) = false := decide_eq_false c14
    clear c14
    simp only [Option.some.injEq, Prod.mk.injEq] at H
    obtain ⟨rfl, rfl⟩ := H
    go_wp2
    go_ret2
    exact ⟨_, rq1, kR HO_6.out, bw_15⟩
   rw [if_pos c14] at H
   have c14b0 : decide (x26_2 < (l0.length : Int)) = true := decide_eq_true c14
   clear c14
   by_cases c15 : 0 ≤ x26_2
   rotate_left
   ·rw [if_neg c15] at H
    exact absurd H (by simp)
   rw [if_pos c15] at H
   have c15b0 : decide (0 ≤ x26_2) = true := decide_eq_true c15
   clear c15
   by_cases c16 : x26_2 < (l0.length : Int)
   rotate_left
   ·rw [if_neg c16] at H
    exact absurd H (by simp)
   rw [if_pos c16] at H
   have c16b0 : decide (x26_2 < (l0.length : Int)) = true := decide_eq_true c16
   clear c16
   by_cases c17 : (rd l0 x26_2) = a1
   ·rw [if_pos c17] at H
    have c17b0 : ((rd l0 x26_2) == a1) = true := beq_iff_eq.mpr c17
    have c17b1 : ((rd l0 x26_2) != a1) = false := bne_eq_false_iff_eq.mpr c17
    clear c17
    have H' := Az.mk H
    clear H
    have p382 : 0 ≤ (x26_2 : Int) := of_decide_eq_true am
    have q382 : x26_2 < (l0.length : Int) := of_decide_eq_true am
    obtain ⟨ad382, e382, hx382_0⟩ := Kd.at_int HR0.out x26_2 p382 q382
    cases e382
    replace hx382_0 := kc HB hx382_0
    replace p382 := eq_true p382
    replace q382 := eq_true q382
    go_wp2
    go_roundg k2
    case measure => have := HJ2.out; have := HK2.out; omega
    case rel => exact ⟨(x6_2), (wrap64 (x26_2 + 1)), rq2, H', ⟨by have := HJ2.out; have := HK2.out; omega⟩, ⟨kR HO_6.out⟩, ⟨bw_15⟩⟩
   rw [if_neg c17] at H
   have c17b0 : ((rd l0 x26_2) == a1) = false := beq_eq_false_iff_ne.mpr c17
   have c17b1 : ((rd l0 x26_2) != a1) = true := bne_iff_ne.mpr c17
   by_cases c18 : x6_2.length < 17592186044416
   rotate_left
   ·rw [if_neg c18] at H
    exact absurd H (by simp)
   rw [if_pos c18] at H
   have LMc18 := Az.mk c18
   clear c18
   obtain ⟨y383, hy⟩ : ∃ y_ : List Int, y_ = (x6_2 ++ [rd l0 x26_2]) := ⟨_, rfl⟩
   replace H : (impl_DropCrossing.l0 k2 a1 y383 l0 (l0.length : Int) (wrap64 (x26_2 + 1))) = some (r1, r2) := rh
   have Ny383 := Az.mk hy
   clear hy
   have H' := Az.mk H
   clear H
   have p382 : 0 ≤ (x26_2 : Int) := of_decide_eq_true am
   have q382 : x26_2 < (l0.length : Int) := of_decide_eq_true am
   obtain ⟨ad382, e382, hx382_0⟩ := Kd.at_int HR0.out x26_2 p382 q382
   cases e382
   replace hx382_0 := kc HB hx382_0
   replace p382 := eq_true p382
   replace q382 := eq_true q382
   go_wp2_with (first | ((with_reducible refine gate_builtin (b := .append) (xs := #[.tmp 33, .tmp 35]) rfl ?_); (try (refine gate_guard (by rfl) ?_; dsimp only)); at_builtin; refine Kd.R_append (Kd.int .i64) (w0 := w) w.heap.size rfl (.tmp 33) (.tmp 35) 24 3 (.int .i64 0) 8 rfl Try.underlying24 info3 rfl (by decide) (by omega) u6 x6_2 (rd l0 x26_2) [.int .i64 (rd l0 x26_2)] (fun _ => True) (fun _ => False) rfl rfl ?aP (fun _ hk => hk.elim) ?aF ?aO ?aB ?aS ?aL ?_; (case aP => exact rfl); (case aB => exact bw_15); (case aF => exact (fun _ _ => trivial)); (case aO => exact (kR HO_6.out)); (case aS => exact (bwZ bw_15)); (case aL => have := LMc18.out; omega); intro v384 w19 ho hb hg hat; rw [← Ny383.out] at ho; have n0_ := Az.mk (hb); have n1_ := Az.mk (ho); clear HB; clear HO_6; have HB := n0_; have HO385 := n1_; clear n0_ n1_; clear ho hb hg hat))
   go_roundg k2
   case measure => have := HJ2.out; have := HK2.out; omega
   case rel => exact ⟨(y383), (wrap64 (x26_2 + 1)), rq2, H', ⟨by have := HJ2.out; have := HK2.out; omega⟩, ⟨kR HO385.out⟩, ⟨bw_15⟩⟩

end Go.Proofs.Ytkmjcdlhlhefdaa.P
