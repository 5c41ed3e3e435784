-- By this session's driver (wip/tools/mk.py) of the kit's print program, over several statements at once. Not trusted: Lean checks it.
import Derived.Test.YtkmjcdlhlhefdaaQWZip
import Derived.Test.YtkmjcdlhlhefdaaQPx0
import Derived.Test.YtkmjcdlhlhefdaaQPx8
namespace Go.Proofs.Ytkmjcdlhlhefdaa.P
open Go.RowKit Go.Proofs.YtkmjcdlhlhefdaaW.PrintWords Go.Proofs.YtkmjcdlhlhefdaaW.PrintLast Go.Proofs.YtkmjcdlhlhefdaaW.PrintMore
attribute [local go_sem] max2_int min2_int max_two min_two max_three min_three max_four min_four   -- for this text's walks alone
set_option linter.unusedVariables false
set_option linter.unusedSimpArgs false
theorem z9_1 {p : Prop} (h : p := by (with_reducible repeat (first | apply Kd.R_alloc | apply Kd.R_drewN | apply Kd.R_drew)); exact Kd.R_mono HO_21.out (fun _ hk => ⟨hk.2, hk.1⟩)) : p := h
theorem z9_0 {p : Prop} (h : p := by (with_reducible repeat (first | apply Kd.R_alloc | apply Kd.R_drewN | apply Kd.R_drew)); exact Kd.R_mono HO_11.out (fun _ hk => ⟨hk.2, hk.1⟩)) : p := h

theorem bw_9 {n : Nat} {v v' : World} (h : Below n v v' := by repeat (first | (with_reducible first | exact HB.out | apply bwA | apply pbN | apply bwD) | exact HB.out)) : Below n v v' := h
open Option renaming bind_eq_some_iff → be

theorem cellq_ {w w' : World} {n : Nat} {a : Addr} {v : Option Value} (h : World.drewN w n = w') (hc : w.cell? a = v) : w'.cell? a = v := by
 subst h
 first | exact hc | simpa using hc
theorem frozq_ {w w' : World} {n : Nat} {a : Addr} {v : Bool} (h : World.drewN w n = w') (hc : w.frozen? a = v) : w'.frozen? a = v := by
 subst h
 first | exact hc | simpa using hc
/-! ### impl_placesOf: function 60 -/
def impl_placesOf.f (k : Nat) (l0 : List Int) (a1 : Int) : Option (Int × Int) := (impl_indexOf.f k l0 a1).bind fun t259 => (if 0 ≤ (wrap64 (t259 + 1)) then (if (wrap64 (t259 + 1)) ≤ (l0.length : Int) then ((impl_indexOf.f k (l0.drop ((wrap64 (t259 + 1)) : Int).toNat) a1).bind fun t261 => (some (t259, wrap64 ((wrap64 (t259 + 1)) + t261)))) else (none)) else (none))
set_option maxHeartbeats 8000000 in
set_option maxRecDepth 100000 in
theorem impl_placesOf.calls (k : Nat) (A0 : Option Addr) (c0 : Nat) (l0 : List Int) (a1 : Int) (r1 : Int) (r2 : Int) (w : World) (hr0 : Kd.C (Kd.int .i64) w A0 l0.length l0) (hc0 : l0.length ≤ c0) (h : impl_placesOf.f k l0 a1 = some (r1, r2)) :
  Calls Try.prog 60 #[.slice A0 l0.length c0, .int .i64 a1] w fun e w' => e = .returned (.tuple #[.int .i64 r1, .int .i64 r2]) ∧ Drawn0 w w' := by
 have HR0 := Az.mk hr0
 have HC0 := Az.mk hc0
 clear hr0 hc0
 have H : ((impl_indexOf.f k l0 a1).bind fun t259 => (if 0 ≤ (wrap64 (t259 + 1)) then (if (wrap64 (t259 + 1)) ≤ (l0.length : Int) then ((impl_indexOf.f k (l0.drop ((wrap64 (t259 + 1)) : Int).toNat) a1).bind fun t261 => (some (t259, wrap64 ((wrap64 (t259 + 1)) + t261)))) else (none)) else (none))) = some (r1, r2) := h
 clear h
 replace H := bez H
 obtain ⟨t259, A3, H⟩ := H
 try dsimp only at H
 obtain ⟨ji4, hji4⟩ : ∃ j_ : Int, (wrap64 (t259 + 1)) = j_ := ⟨_, rfl⟩
 replace H : (if 0 ≤ (ji4) then (if (ji4) ≤ (l0.length : Int) then ((impl_indexOf.f k (l0.drop ((ji4) : Int).toNat) a1).bind fun t261 => (some (t259, wrap64 ((ji4) + t261)))) else (none)) else (none)) = some (r1, r2) := by first | (rw [hji4] at H; exact H) | (simp only [hji4] at H ⊢; exact H)
 (try rw [hji4] at A3)
 have hji4w : (IntKind.i64.wrap (t259 + 1)) = ji4 := (i64_w _).trans hji4
 by_cases c5 : 0 ≤ (ji4)
 rotate_left
 ·rw [if_neg c5] at H
  exact absurd H (by simp)
 rw [if_pos c5] at H
 have c5b0 := eq_true c5
 have c5b1 : decide (0 ≤ (ji4)) = true := decide_eq_true c5
 clear c5
 by_cases c6 : (ji4) ≤ (l0.length : Int)
 rotate_left
 ·rw [if_neg c6] at H
  exact absurd H (by simp)
 rw [if_pos c6] at H
 have c6b0 := eq_true c6
 have c6b1 : decide ((ji4) ≤ (l0.length : Int)) = true := decide_eq_true c6
 clear c6
 replace H := bez H
 obtain ⟨t261, A7, H⟩ := H
 try dsimp only at H
 simp only [Option.some.injEq, Prod.mk.injEq] at H
 obtain ⟨rfl, rfl⟩ := H
 go_enter Try.func60, Try.ntmps60
 go_wp2_with (first | ((with_reducible refine gtC (f := 39) rfl ?_); refine clz Try.func39 (some 9) #[.slice A0 l0.length c0, .int .i64 a1] ?_; (with_reducible refine (impl_indexOf.calls k _ _ l0 a1 t259 _ ?side1 ?side2 A3.out).mono ?_); (case side1 => exact kC HR0.out); (case side2 => exact HC0.out); rintro e w' ⟨rfl, ⟨nd, rfl⟩⟩; refine ⟨_, rfl, ?_⟩; obtain ⟨i08, hi08, _, hsz8, _⟩ := info_parts info3; obtain ⟨A8, hcut8, hA8, hC8⟩ := print_drop_of (P := Try.prog) (Value.int .i64) 0 24 3 .i64 Try.underlying24 hi08 hsz8 A0 c0 l0 (ji4) (of_decide_eq_true am) (of_decide_eq_true am) HC0.out; have HR260 := Az.mk (Kd.C_of_reads (h1 := fun _ => rfl) (hA8 _ (Kd.reads_of_C HR0.out))); have HC260 := Az.mk hC8; clear hA8 hC8 hi08 hsz8) | ((with_reducible refine gtC (f := 39) rfl ?_); refine goesL_ (some 18) rfl rfl Try.func39 (by kernel_rfl) rfl #[.slice A8 (l0.drop ((ji4) : Int).toNat).length (c0 - (ji4).toNat), .int .i64 a1] rfl (by (try simp only [List.map_toArray, List.map_cons, List.map_nil]); first | done | (rw [show (l0.drop ((ji4) : Int).toNat).length = (l0.length - (ji4).toNat) from List.length_drop] <;> rfl) | (simp only [hji4]; rfl) | rfl | (simp only [List.length_drop, List.length_take]; rfl)) ?_; (with_reducible refine (impl_indexOf.calls k _ _ (l0.drop ((ji4) : Int).toNat) a1 t261 _ ?side1 ?side2 A7.out).mono ?_); (case side1 => exact kC HR260.out); (case side2 => exact HC260.out); rintro e w' ⟨rfl, ⟨nd, rfl⟩⟩; refine ⟨_, rfl, ?_⟩))
 go_ret2
 exact ⟨by first | rfl | (simp; done) | (simp only [← hji4] <;> (first | rfl | simp)) | (simp [*]; done), kd⟩

/-! ### impl_mod: function 61 -/
def impl_mod.f (a0 : Int) (a1 : Int) : Option (Int) := if a1 = 0 then (none) else (if (Int.tmod a0 a1) < 0 then (some (wrap64 ((Int.tmod a0 a1) + a1))) else (some (Int.tmod a0 a1)))
set_option maxHeartbeats 8000000 in
set_option maxRecDepth 100000 in
theorem impl_mod.calls (a0 : Int) (a1 : Int) (r : Int) (w : World) (h : impl_mod.f a0 a1 = some r) :
  Calls Try.prog 61 #[.int .i64 a0, .int .i64 a1] w fun e w' => e = .returned (.int .i64 r) ∧ Drawn0 w w' := by
 have H : (if a1 = 0 then (none) else (if (Int.tmod a0 a1) < 0 then (some (wrap64 ((Int.tmod a0 a1) + a1))) else (some (Int.tmod a0 a1)))) = some r := h
 clear h
 by_cases c3 : a1 = 0
 ·rw [if_pos c3] at H
  exact absurd H (by simp)
 rw [if_neg c3] at H
 have c3b0 : (a1 == 0) = false := beq_eq_false_iff_ne.mpr c3
 have c3b1 : (a1 != 0) = true := bne_iff_ne.mpr c3
 by_cases c4 : (Int.tmod a0 a1) < 0
 ·rw [if_pos c4] at H
  have c4b0 : decide ((Int.tmod a0 a1) < 0) = true := decide_eq_true c4
  clear c4
  obtain rfl := Option.some.inj H
  go_enter Try.func61, Try.ntmps61
  go_wp2
  go_ret
  exact ⟨rq2, kd⟩
 rw [if_neg c4] at H
 have c4b0 : decide ((Int.tmod a0 a1) < 0) = false := decide_eq_false c4
 clear c4
 obtain rfl := Option.some.inj H
 go_enter Try.func61, Try.ntmps61
 go_wp2
 go_ret
 exact ⟨rq2, kd⟩

/-! ### impl_crossingMap: function 33 -/
mutual
def impl_crossingMap.l0 : Nat → List Int → Int → Int → List Int → List Int → Int → Int → Option (List Int)
 | 0, _, _, _, _, _, _, _ => none
 | k + 1, x0, x1, x5, x6, x21, x22, x23 => if x23 < x22 then (if 0 ≤ x23 then (if x23 < (x21.length : Int) then ((impl_placesOf.f k x0 (rd x21 x23)).bind fun bt269 => ((impl_mod.f (wrap64 (bt269.1 - 1)) x5).bind fun t271 => ((impl_mod.f (wrap64 (bt269.2 - 1)) x5).bind fun t272 => (impl_crossingMap.l1 k x0 x1 x5 x6 (rd x21 x23) (([wrap64 (2 * bt269.1), wrap64 (2 * bt269.2), wrap64 ((wrap64 (2 * t271)) + 1), wrap64 ((wrap64 (2 * t272)) + 1)] : List Int)) x21 x22 x23 0)))) else (none)) else (none)) else (some x6)
def impl_crossingMap.l1 : Nat → List Int → Int → Int → List Int → Int → List Int → List Int → Int → Int → Int → Option (List Int)
 | 0, _, _, _, _, _, _, _, _, _, _ => none
 | k + 1, x0, x1, x5, x6, x8, x11, x21, x22, x23, x50 => if x50 < 4 then (if 0 ≤ x50 then (if x50 < (x11.length : Int) then (if 0 ≤ (Int.tmod (wrap64 (x50 + 1)) 4) then (if (Int.tmod (wrap64 (x50 + 1)) 4) < (x11.length : Int) then (if 0 ≤ (wrap64 (x8 - 1)) then (if (Go.bits .and .i64 (shr .i64 x1 (wrap64 (x8 - 1))) 1) = 1 then (if 0 ≤ (rd x11 (Int.tmod (wrap64 (x50 + 1)) 4)) then (if (rd x11 (Int.tmod (wrap64 (x50 + 1)) 4)) < (x6.length : Int) then (impl_crossingMap.l1 k x0 x1 x5 (x6.set ((rd x11 (Int.tmod (wrap64 (x50 + 1)) 4)) : Int).toNat (rd x11 x50)) x8 x11 x21 x22 x23 (wrap64 (x50 + 1))) else (none)) else (none)) else (if 0 ≤ (rd x11 x50) then (if (rd x11 x50) < (x6.length : Int) then (impl_crossingMap.l1 k x0 x1 x5 (x6.set ((rd x11 x50) : Int).toNat (rd x11 (Int.tmod (wrap64 (x50 + 1)) 4))) x8 x11 x21 x22 x23 (wrap64 (x50 + 1))) else (none)) else (none))) else (none)) else (none)) else (none)) else (none)) else (none)) else (impl_crossingMap.l0 k x0 x1 x5 x6 x21 x22 (wrap64 (x23 + 1)))
end
def impl_crossingMap.f (k : Nat) (l0 : List Int) (a1 : Int) : Option (List Int) := if 0 ≤ (wrap64 (2 * (l0.length : Int))) then (if (wrap64 (2 * (l0.length : Int)) : Int).toNat ≤ 35184372088832 then ((impl_lettersOf.f k l0).bind fun t265 => (impl_crossingMap.l0 k l0 a1 (l0.length : Int) (List.replicate (wrap64 (2 * (l0.length : Int)) : Int).toNat 0) t265 (t265.length : Int) 0)) else (none)) else (none)
set_option maxHeartbeats 8000000 in
set_option maxRecDepth 100000 in
theorem impl_crossingMap.calls (k : Nat) (A0 : Option Addr) (c0 : Nat) (l0 : List Int) (a1 : Int) (r : List Int) (w : World) (hr0 : Kd.C (Kd.int .i64) w A0 l0.length l0) (hc0 : l0.length ≤ c0) (h : impl_crossingMap.f k l0 a1 = some r) :
  Calls Try.prog 33 #[.slice A0 l0.length c0, .int .i64 a1] w fun e w' => ∃ v0_ : Value, e = .returned (v0_) ∧ Kd.R (Kd.int .i64) 3 w' w.heap.size (fun _ => True) v0_ r ∧ Below w.heap.size w w' := by
 have HR0 := Az.mk hr0
 have HC0 := Az.mk hc0
 clear hr0 hc0
 have HB := Az.mk (Below.refl w.heap.size w)
 have H : (if 0 ≤ (wrap64 (2 * (l0.length : Int))) then (if (wrap64 (2 * (l0.length : Int)) : Int).toNat ≤ 35184372088832 then ((impl_lettersOf.f k l0).bind fun t265 => (impl_crossingMap.l0 k l0 a1 (l0.length : Int) (List.replicate (wrap64 (2 * (l0.length : Int)) : Int).toNat 0) t265 (t265.length : Int) 0)) else (none)) else (none)) = some r := h
 clear h
 obtain ⟨ji3, hji3⟩ : ∃ j_ : Int, (wrap64 (2 * (l0.length : Int))) = j_ := ⟨_, rfl⟩
 replace H : (if 0 ≤ (ji3) then (if (ji3 : Int).toNat ≤ 35184372088832 then ((impl_lettersOf.f k l0).bind fun t265 => (impl_crossingMap.l0 k l0 a1 (l0.length : Int) (List.replicate (ji3 : Int).toNat 0) t265 (t265.length : Int) 0)) else (none)) else (none)) = some r := by first | (rw [hji3] at H; exact H) | (simp only [hji3] at H ⊢; exact H)
 have hji3w : (IntKind.i64.wrap (2 * (l0.length : Int))) = ji3 := (i64_w _).trans hji3
 by_cases c4 : 0 ≤ (ji3)
 rotate_left
 ·rw [if_neg c4] at H
  exact absurd H (by simp)
 rw [if_pos c4] at H
 have c4b0 := eq_true c4
 have c4b1 : decide (0 ≤ (ji3)) = true := decide_eq_true c4
 clear c4
 by_cases c5 : (ji3 : Int).toNat ≤ 35184372088832
 rotate_left
 ·rw [if_neg c5] at H
  exact absurd H (by simp)
 rw [if_pos c5] at H
 have c5b0 := eq_true c5
 have c5b1 : decide ((ji3 : Int).toNat ≤ 35184372088832) = true := decide_eq_true c5
 clear c5
 obtain ⟨y262, hy⟩ : ∃ y_ : List Int, y_ = (List.replicate (ji3 : Int).toNat 0) := ⟨_, rfl⟩
 replace H : ((impl_lettersOf.f k l0).bind fun t265 => (impl_crossingMap.l0 k l0 a1 (l0.length : Int) y262 t265 (t265.length : Int) 0)) = some r := rh
 have Ny262 := Az.mk hy
 clear hy
 replace H := bez H
 obtain ⟨t265, A6, H⟩ := H
 try dsimp only at H
 have H' := Az.mk H
 clear H
 go_enter Try.func33, Try.ntmps33
 go_wp2_with (first | ((with_reducible refine gtD (N := 19) rfl ?_); refine Kd.R_make (Kd.int .i64) _ 3 rfl (N := 19) rfl 24 _ _ rfl ji3 rfl rfl Try.underlying24 (.int .i64 0) 8 info3 rfl (by decide) (by omega) 0 (ok := fun _ => True) (okp := fun _ => True) rfl (fun _ hk => hk) trivial (of_decide_eq_true am) (Nat.le_trans (Nat.mul_le_mul_right _ (of_decide_eq_true am : ji3.toNat ≤ 35184372088832)) (by omega)) (Below.refl _ _) (Nat.le_refl _) ?_; intro v263 w7 ho8 hb hg_ hnew_; clear hg_ hnew_; (first | rw [← Ny262.out] at ho8 | (simp only [Int.reduceToNat] at ho8; rw [← Ny262.out] at ho8)); have HO264 := Az.mk (Kd.R_lower ho8 (bwZ bw_9)); replace HB := Az.mk (bwT bw_9 hb); clear hb ho8) | (go_at_call 42; (with_reducible refine (impl_lettersOf.calls k _ _ l0 t265 _ ?side1 ?side2 A6.out).mono ?_); (case side1 => exact kC (Kd.C_below HR0.out HB.out)); (case side2 => exact HC0.out); rintro e w9 ⟨v266, rfl, ho0, hb⟩; have HO267 := Az.mk (Kd.R_lower (Kd.R_new' ho0 (Kd.R_lt (kR HO264.out))) (bwZ bw_9)); replace HO264 := Az.mk (Kd.R_elder' (kR HO264.out) (Kd.R_base ho0) hb); replace HB := Az.mk (bwT bw_9 hb); (try clear hb); (try clear ho0); obtain ⟨Ao10, co10, eo10⟩ := Kd.R_slice HO267.out; subst eo10))
 repeat (go_quiet (fail); try go_wp2_with (first | ((with_reducible refine gtD (N := 19) rfl ?_); refine Kd.R_make (Kd.int .i64) _ 3 rfl (N := 19) rfl 24 _ _ rfl ji3 rfl rfl Try.underlying24 (.int .i64 0) 8 info3 rfl (by decide) (by omega) 0 (ok := fun _ => True) (okp := fun _ => True) rfl (fun _ hk => hk) trivial (of_decide_eq_true am) (Nat.le_trans (Nat.mul_le_mul_right _ (of_decide_eq_true am : ji3.toNat ≤ 35184372088832)) (by omega)) (Below.refl _ _) (Nat.le_refl _) ?_; intro v263 w7 ho8 hb hg_ hnew_; clear hg_ hnew_; (first | rw [← Ny262.out] at ho8 | (simp only [Int.reduceToNat] at ho8; rw [← Ny262.out] at ho8)); have HO264 := Az.mk (Kd.R_lower ho8 (bwZ bw_9)); replace HB := Az.mk (bwT bw_9 hb); clear hb ho8) | (go_at_call 42; (with_reducible refine (impl_lettersOf.calls k _ _ l0 t265 _ ?side1 ?side2 A6.out).mono ?_); (case side1 => exact kC (Kd.C_below HR0.out HB.out)); (case side2 => exact HC0.out); rintro e w9 ⟨v266, rfl, ho0, hb⟩; have HO267 := Az.mk (Kd.R_lower (Kd.R_new' ho0 (Kd.R_lt (kR HO264.out))) (bwZ bw_9)); replace HO264 := Az.mk (Kd.R_elder' (kR HO264.out) (Kd.R_base ho0) hb); replace HB := Az.mk (bwT bw_9 hb); (try clear hb); (try clear ho0); obtain ⟨Ao10, co10, eo10⟩ := Kd.R_slice HO267.out; subst eo10)))
 go_loopg [23] k (fun kq v23 w' => ∃ (x6_1 : List Int) (x23_1 : Int), v23 = .int .i64 x23_1 ∧ Az (impl_crossingMap.l0 kq l0 a1 (l0.length : Int) x6_1 t265 (t265.length : Int) x23_1 = some r) ∧ Az (kq ≤ k) ∧ Az (Kd.R (Kd.int .i64) 3 w' w.heap.size (fun k_ => some k_ ≠ ((.slice Ao10 t265.length co10) : Value).ownBlock) v263 x6_1) ∧ Az (Kd.R (Kd.int .i64) 3 w' w.heap.size (fun k_ => some k_ ≠ (v263 : Value).ownBlock) (.slice Ao10 t265.length co10) t265) ∧ Az (Below w.heap.size w w'))
 case atStart => exact ⟨(y262), (0), rq2, H', ⟨Nat.le_refl _⟩, ⟨by (with_reducible repeat (first | apply Kd.R_alloc | apply Kd.R_drewN | apply Kd.R_drew)); exact Kd.R_mono HO264.out (fun _ hk => hk.2)⟩, ⟨by (with_reducible repeat (first | apply Kd.R_alloc | apply Kd.R_drewN | apply Kd.R_drew)); exact Kd.R_mono HO267.out (fun _ hk => hk.2)⟩, ⟨bw_9⟩⟩
 clear H'
 try clear c4
 try clear c4b0
 try clear c4b1
 try clear c5
 try clear c5b0
 try clear c5b1
 obtain ⟨x6_1, x23_1, rfl, HA, HK1, HO_6, HO_21, HB⟩ := hrel
 cases gk with
 | zero => exact absurd HA.out (by simp [impl_crossingMap.l0])
 | succ k1 =>
  have H := HA.out
  clear HA
  simp only [impl_crossingMap.l0] at H
  by_cases c11 : x23_1 < (t265.length : Int)
  rotate_left
  ·rw [if_neg c11] at H
   have c11b0 : decide (x23_1 < (t265.length : Int)) = false := decide_eq_false c11
   clear c11
   obtain rfl := Option.some.inj H
   go_wp2
   repeat (go_quiet (fail); try go_wp2)
   go_ret
   exact ⟨_, by first | rfl | (simp [eWn, eWs] <;> rfl) | (simp only [← hji3]; first | rfl | (simp [eWn, eWs] <;> rfl)) | (simp [*, eWn, eWs] <;> rfl), by (with_reducible repeat (first | apply Kd.R_alloc | apply Kd.R_drewN | apply Kd.R_drew)); exact Kd.R_mono HO_6.out (fun _ hk => trivial), bw_9⟩
  rw [if_pos c11] at H
  have c11b0 : decide (x23_1 < (t265.length : Int)) = true := decide_eq_true c11
  clear c11
  by_cases c12 : 0 ≤ x23_1
  rotate_left
  ·rw [if_neg c12] at H
   exact absurd H (by simp)
  rw [if_pos c12] at H
  have c12b0 : decide (0 ≤ x23_1) = true := decide_eq_true c12
  clear c12
  by_cases c13 : x23_1 < (t265.length : Int)
  rotate_left
  ·rw [if_neg c13] at H
   exact absurd H (by simp)
  rw [if_pos c13] at H
  have c13b0 : decide (x23_1 < (t265.length : Int)) = true := decide_eq_true c13
  clear c13
  replace H := bez H
  obtain ⟨⟨t269, t270⟩, A14, H⟩ := H
  try dsimp only at H
  replace H := bez H
  obtain ⟨t271, A15, H⟩ := H
  try dsimp only at H
  replace H := bez H
  obtain ⟨t272, A16, H⟩ := H
  try dsimp only at H
  obtain ⟨y273, hy⟩ : ∃ y_ : List Int, y_ = (([wrap64 (2 * t269), wrap64 (2 * t270), wrap64 ((wrap64 (2 * t271)) + 1), wrap64 ((wrap64 (2 * t272)) + 1)] : List Int)) := ⟨_, rfl⟩
  replace H : (impl_crossingMap.l1 k1 l0 a1 (l0.length : Int) x6_1 (rd t265 x23_1) y273 t265 (t265.length : Int) x23_1 0) = some r := rh
  have Ny273 := Az.mk hy
  clear hy
  have H' := Az.mk H
  clear H
  have p268 : 0 ≤ (x23_1 : Int) := of_decide_eq_true am
  have q268 : x23_1 < (t265.length : Int) := of_decide_eq_true am
  obtain ⟨ad268, e268, hx268_0⟩ := Kd.at_int (Kd.R_reads' HO_21.out).2.2 x23_1 p268 q268
  cases e268
  replace p268 := eq_true p268
  replace q268 := eq_true q268
  go_wp2_with ((go_at_call 60; (with_reducible refine (impl_placesOf.calls k1 _ _ l0 (rd t265 x23_1) t269 t270 _ ?side1 ?side2 A14.out).mono ?_); (case side1 => exact kC (Kd.C_below HR0.out HB.out)); (case side2 => exact HC0.out); rintro e w' ⟨rfl, ⟨nd, rfl⟩⟩; (try first | exact ⟨rfl, _, World.drewN_drewN _ _ _⟩ | exact ⟨rfl, _, Eq.trans (World.drewN_drewN _ _ _) (congrArg (World.drewN _) (Nat.add_assoc _ _ _))⟩)))
  repeat (go_quiet (first | (go_at_call 60; (with_reducible refine (impl_placesOf.calls k1 _ _ l0 (rd t265 x23_1) t269 t270 _ ?side1 ?side2 A14.out).mono ?_); (case side1 => exact kC (Kd.C_below HR0.out HB.out)); (case side2 => exact HC0.out); rintro e w' ⟨rfl, ⟨nd, rfl⟩⟩; (try first | exact ⟨rfl, _, World.drewN_drewN _ _ _⟩ | exact ⟨rfl, _, Eq.trans (World.drewN_drewN _ _ _) (congrArg (World.drewN _) (Nat.add_assoc _ _ _))⟩)) | (go_at_call 61; (with_reducible refine (impl_mod.calls (wrap64 (t269 - 1)) (l0.length : Int) t271 _ A15.out).mono ?_); rintro e w' ⟨rfl, ⟨nd, rfl⟩⟩; (try first | exact ⟨rfl, _, World.drewN_drewN _ _ _⟩ | exact ⟨rfl, _, Eq.trans (World.drewN_drewN _ _ _) (congrArg (World.drewN _) (Nat.add_assoc _ _ _))⟩)) | (go_at_call 61; (with_reducible refine (impl_mod.calls (wrap64 (t270 - 1)) (l0.length : Int) t272 _ A16.out).mono ?_); rintro e w' ⟨rfl, ⟨nd, rfl⟩⟩; (try first | exact ⟨rfl, _, World.drewN_drewN _ _ _⟩ | exact ⟨rfl, _, Eq.trans (World.drewN_drewN _ _ _) (congrArg (World.drewN _) (Nat.add_assoc _ _ _))⟩))))
  go_wp2_with (first | (go_at_call 60; (with_reducible refine (impl_placesOf.calls k1 _ _ l0 (rd t265 x23_1) t269 t270 _ ?side1 ?side2 A14.out).mono ?_); (case side1 => exact kC (Kd.C_below HR0.out HB.out)); (case side2 => exact HC0.out); rintro e w' ⟨rfl, ⟨nd, rfl⟩⟩; (try first | exact ⟨rfl, _, World.drewN_drewN _ _ _⟩ | exact ⟨rfl, _, Eq.trans (World.drewN_drewN _ _ _) (congrArg (World.drewN _) (Nat.add_assoc _ _ _))⟩)) | (go_at_call 61; (with_reducible refine (impl_mod.calls (wrap64 (t269 - 1)) (l0.length : Int) t271 _ A15.out).mono ?_); rintro e w' ⟨rfl, ⟨nd, rfl⟩⟩; (try first | exact ⟨rfl, _, World.drewN_drewN _ _ _⟩ | exact ⟨rfl, _, Eq.trans (World.drewN_drewN _ _ _) (congrArg (World.drewN _) (Nat.add_assoc _ _ _))⟩)) | (go_at_call 61; (with_reducible refine (impl_mod.calls (wrap64 (t270 - 1)) (l0.length : Int) t272 _ A16.out).mono ?_); rintro e w' ⟨rfl, ⟨nd, rfl⟩⟩; (try first | exact ⟨rfl, _, World.drewN_drewN _ _ _⟩ | exact ⟨rfl, _, Eq.trans (World.drewN_drewN _ _ _) (congrArg (World.drewN _) (Nat.add_assoc _ _ _))⟩)) | ((with_reducible refine gtD (N := 49) rfl ?_); refine Kd.R_lit (Kd.int .i64) _ 3 ?hg (N := 49) ?hd (xs := ([wrap64 (2 * t269), wrap64 (2 * t270), wrap64 ((wrap64 (2 * t271)) + 1), wrap64 ((wrap64 (2 * t272)) + 1)] : List Int)) (inner := [.int .i64 (wrap64 (2 * t269)), .int .i64 (wrap64 (2 * t270)), .int .i64 (wrap64 ((wrap64 (2 * t271)) + 1)), .int .i64 (wrap64 ((wrap64 (2 * t272)) + 1))]) (ok := fun _ => True) (okp := fun _ => True) ?hr ?hp (fun _ hk => hk) trivial (Below.refl _ _) (Nat.le_refl _) (by simp) ?_; (case hd => rfl); (case hg => rfl); (case hr => first | (go_simp; done) | (go_simp; rfl)); (case hp => exact (Reps.one (show Kd.M (Kd.int .i64) _ _ _ (wrap64 (2 * t269)) [.int .i64 (wrap64 (2 * t269))] from rfl) (Reps.one (show Kd.M (Kd.int .i64) _ _ _ (wrap64 (2 * t270)) [.int .i64 (wrap64 (2 * t270))] from rfl) (Reps.one (show Kd.M (Kd.int .i64) _ _ _ (wrap64 ((wrap64 (2 * t271)) + 1)) [.int .i64 (wrap64 ((wrap64 (2 * t271)) + 1))] from rfl) (Reps.one (show Kd.M (Kd.int .i64) _ _ _ (wrap64 ((wrap64 (2 * t272)) + 1)) [.int .i64 (wrap64 ((wrap64 (2 * t272)) + 1))] from rfl) (Reps.none _ _)))))); intro v274 w17 ho18 hb hg_ hnew_; clear hg_ hnew_; (first | rw [← Ny273.out] at ho18 | (simp only [Int.reduceToNat] at ho18; rw [← Ny273.out] at ho18)); have HO275 := Az.mk (Kd.R_lower (Kd.R_new' (Kd.R_new' ho18 (Kd.R_lt (kR HO_6.out))) (Kd.R_lt (kR HO_21.out))) (bwZ bw_9)); replace HO_6 := Az.mk (Kd.R_elder' (kR HO_6.out) (Kd.R_base ho18) hb); replace HO_21 := Az.mk (Kd.R_elder' (kR HO_21.out) (Kd.R_base ho18) hb); replace HB := Az.mk (bwT bw_9 hb); clear hb ho18))
  go_loopg [50] k1 (fun kq v50 w' => ∃ (x6_2 : List Int) (x50_2 : Int), v50 = .int .i64 x50_2 ∧ Az (impl_crossingMap.l1 kq l0 a1 (l0.length : Int) x6_2 (rd t265 x23_1) y273 t265 (t265.length : Int) x23_1 x50_2 = some r) ∧ Az (kq ≤ k1) ∧ Az (Kd.R (Kd.int .i64) 3 w' w.heap.size (fun k_ => some k_ ≠ (v274 : Value).ownBlock ∧ some k_ ≠ ((.slice (some ad268) t265.length co10) : Value).ownBlock) v263 x6_2) ∧ Az (Kd.R (Kd.int .i64) 3 w' w.heap.size (fun k_ => some k_ ≠ (v263 : Value).ownBlock ∧ some k_ ≠ ((.slice (some ad268) t265.length co10) : Value).ownBlock) v274 y273) ∧ Az (Kd.R (Kd.int .i64) 3 w' w.heap.size (fun k_ => some k_ ≠ (v263 : Value).ownBlock ∧ some k_ ≠ (v274 : Value).ownBlock) (.slice (some ad268) t265.length co10) t265) ∧ Az (Below w.heap.size w w'))
  case atStart => exact ⟨(x6_1), (0), rq2, H', ⟨Nat.le_refl _⟩, ⟨by (with_reducible repeat (first | apply Kd.R_alloc | apply Kd.R_drewN | apply Kd.R_drew)); exact Kd.R_mono HO_6.out (fun _ hk => ⟨hk.2, hk.1⟩)⟩, ⟨by (with_reducible repeat (first | apply Kd.R_alloc | apply Kd.R_drewN | apply Kd.R_drew)); exact Kd.R_mono HO275.out (fun _ hk => ⟨hk.1.2, hk.2⟩)⟩, ⟨kR HO_21.out⟩, ⟨bw_9⟩⟩
  clear H'
  try clear c4
  try clear c4b0
  try clear c4b1
  try clear c5
  try clear c5b0
  try clear c5b1
  try clear c11
  try clear c11b0
  try clear c12
  try clear c12b0
  try clear c13
  try clear c13b0
  try clear hx268_0
  try clear p268
  try clear q268
  obtain ⟨x6_2, x50_2, rfl, HA, HK2, HO_6, HO_11, HO_21, HB⟩ := hrel
  cases gk with
  | zero => exact absurd HA.out (by simp [impl_crossingMap.l1])
  | succ k2 =>
   have H := HA.out
   clear HA
   simp only [impl_crossingMap.l1] at H
   by_cases c19 : x50_2 < 4
   rotate_left
   ·rw [if_neg c19] at H
    have c19b0 : decide (x50_2 < 4) = false := decide_eq_false c19
    clear c19
    have H' := Az.mk H
    clear H
    go_wp2
    repeat (go_quiet (fail); try go_wp2)
    go_roundg k2
    case measure => have := HK1.out; have := HK2.out; omega
    case rel => exact ⟨(x6_2), (wrap64 (x23_1 + 1)), rq2, H', ⟨by have := HK1.out; have := HK2.out; omega⟩, ⟨by (with_reducible repeat (first | apply Kd.R_alloc | apply Kd.R_drewN | apply Kd.R_drew)); exact Kd.R_mono HO_6.out (fun _ hk => hk.2)⟩, ⟨by (with_reducible repeat (first | apply Kd.R_alloc | apply Kd.R_drewN | apply Kd.R_drew)); exact Kd.R_mono HO_21.out (fun _ hk => hk.1)⟩, ⟨bw_9⟩⟩
   rw [if_pos c19] at H
   have c19b0 : decide (x50_2 < 4) = true := decide_eq_true c19
   clear c19
   by_cases c20 : 0 ≤ x50_2
   rotate_left
   ·rw [if_neg c20] at H
    exact absurd H (by simp)
   rw [if_pos c20] at H
   have c20b0 : decide (0 ≤ x50_2) = true := decide_eq_true c20
   clear c20
   by_cases c21 : x50_2 < (y273.length : Int)
   rotate_left
   ·rw [if_neg c21] at H
    exact absurd H (by simp)
   rw [if_pos c21] at H
   have c21b0 : decide (x50_2 < (y273.length : Int)) = true := decide_eq_true c21
   clear c21
   obtain ⟨ji22, hji22⟩ : ∃ j_ : Int, (Int.tmod (wrap64 (x50_2 + 1)) 4) = j_ := ⟨_, rfl⟩
   replace H : (if 0 ≤ (ji22) then (if (ji22) < (y273.length : Int) then (if 0 ≤ (wrap64 ((rd t265 x23_1) - 1)) then (if (Go.bits .and .i64 (shr .i64 a1 (wrap64 ((rd t265 x23_1) - 1))) 1) = 1 then (if 0 ≤ (rd y273 (ji22)) then (if (rd y273 (ji22)) < (x6_2.length : Int) then (impl_crossingMap.l1 k2 l0 a1 (l0.length : Int) (x6_2.set ((rd y273 (ji22)) : Int).toNat (rd y273 x50_2)) (rd t265 x23_1) y273 t265 (t265.length : Int) x23_1 (wrap64 (x50_2 + 1))) else (none)) else (none)) else (if 0 ≤ (rd y273 x50_2) then (if (rd y273 x50_2) < (x6_2.length : Int) then (impl_crossingMap.l1 k2 l0 a1 (l0.length : Int) (x6_2.set ((rd y273 x50_2) : Int).toNat (rd y273 (ji22))) (rd t265 x23_1) y273 t265 (t265.length : Int) x23_1 (wrap64 (x50_2 + 1))) else (none)) else (none))) else (none)) else (none)) else (none)) = some r := by first | (rw [hji22] at H; exact H) | (simp only [hji22] at H ⊢; exact H)
   by_cases c23 : 0 ≤ (ji22)
   rotate_left
   ·rw [if_neg c23] at H
    exact absurd H (by simp)
   rw [if_pos c23] at H
   have c23b0 : decide (0 ≤ (ji22)) = true := decide_eq_true c23
   clear c23
   by_cases c24 : (ji22) < (y273.length : Int)
   rotate_left
   ·rw [if_neg c24] at H
    exact absurd H (by simp)
   rw [if_pos c24] at H
   have c24b0 : decide ((ji22) < (y273.length : Int)) = true := decide_eq_true c24
   clear c24
   obtain ⟨ji25, hji25⟩ : ∃ j_ : Int, (wrap64 ((rd t265 x23_1) - 1)) = j_ := ⟨_, rfl⟩
   replace H : (if 0 ≤ (ji25) then (if (Go.bits .and .i64 (shr .i64 a1 (ji25)) 1) = 1 then (if 0 ≤ (rd y273 (ji22)) then (if (rd y273 (ji22)) < (x6_2.length : Int) then (impl_crossingMap.l1 k2 l0 a1 (l0.length : Int) (x6_2.set ((rd y273 (ji22)) : Int).toNat (rd y273 x50_2)) (rd t265 x23_1) y273 t265 (t265.length : Int) x23_1 (wrap64 (x50_2 + 1))) else (none)) else (none)) else (if 0 ≤ (rd y273 x50_2) then (if (rd y273 x50_2) < (x6_2.length : Int) then (impl_crossingMap.l1 k2 l0 a1 (l0.length : Int) (x6_2.set ((rd y273 x50_2) : Int).toNat (rd y273 (ji22))) (rd t265 x23_1) y273 t265 (t265.length : Int) x23_1 (wrap64 (x50_2 + 1))) else (none)) else (none))) else (none)) = some r := by first | (rw [hji25] at H; exact H) | (simp only [hji25] at H ⊢; exact H)
   have hji25w : (IntKind.i64.wrap ((rd t265 x23_1) - 1)) = ji25 := (i64_w _).trans hji25
   by_cases c26 : 0 ≤ (ji25)
   rotate_left
   ·rw [if_neg c26] at H
    exact absurd H (by simp)
   rw [if_pos c26] at H
   have c26b0 := eq_true c26
   have c26b1 : decide (0 ≤ (ji25)) = true := decide_eq_true c26
   clear c26
   obtain ⟨ji27, hji27⟩ : ∃ j_ : Int, (shr .i64 a1 (ji25)) = j_ := ⟨_, rfl⟩
   replace H : (if (Go.bits .and .i64 (ji27) 1) = 1 then (if 0 ≤ (rd y273 (ji22)) then (if (rd y273 (ji22)) < (x6_2.length : Int) then (impl_crossingMap.l1 k2 l0 a1 (l0.length : Int) (x6_2.set ((rd y273 (ji22)) : Int).toNat (rd y273 x50_2)) (rd t265 x23_1) y273 t265 (t265.length : Int) x23_1 (wrap64 (x50_2 + 1))) else (none)) else (none)) else (if 0 ≤ (rd y273 x50_2) then (if (rd y273 x50_2) < (x6_2.length : Int) then (impl_crossingMap.l1 k2 l0 a1 (l0.length : Int) (x6_2.set ((rd y273 x50_2) : Int).toNat (rd y273 (ji22))) (rd t265 x23_1) y273 t265 (t265.length : Int) x23_1 (wrap64 (x50_2 + 1))) else (none)) else (none))) = some r := by first | (rw [hji27] at H; exact H) | (simp only [hji27] at H ⊢; exact H)
   have hji27_ : (a1 / 2 ^ min (ji25).toNat 64) = ji27 := hji27
   have hji27z : (ji25) ≤ 64 → (a1 / 2 ^ (ji25).toNat) = ji27 := shr_small hji27
   by_cases c28 : (Go.bits .and .i64 (ji27) 1) = 1
   rotate_left
   ·rw [if_neg c28] at H
    have c28b0 : ((Go.bits .and .i64 (ji27) 1) == 1) = false := beq_eq_false_iff_ne.mpr c28
    have c28b1 : ((Go.bits .and .i64 (ji27) 1) != 1) = true := bne_iff_ne.mpr c28
    by_cases c35 : 0 ≤ (rd y273 x50_2)
    rotate_left
    ·rw [if_neg c35] at H
     exact absurd H (by simp)
    rw [if_pos c35] at H
    have c35b0 : decide (0 ≤ (rd y273 x50_2)) = true := decide_eq_true c35
    clear c35
    by_cases c36 : (rd y273 x50_2) < (x6_2.length : Int)
    rotate_left
    ·rw [if_neg c36] at H
     exact absurd H (by simp)
    rw [if_pos c36] at H
    have c36b0 : decide ((rd y273 x50_2) < (x6_2.length : Int)) = true := decide_eq_true c36
    clear c36
    obtain ⟨y279, hy⟩ : ∃ y_ : List Int, y_ = (x6_2.set ((rd y273 x50_2) : Int).toNat (rd y273 (ji22))) := ⟨_, rfl⟩
    replace H : (impl_crossingMap.l1 k2 l0 a1 (l0.length : Int) y279 (rd t265 x23_1) y273 t265 (t265.length : Int) x23_1 (wrap64 (x50_2 + 1))) = some r := rh
    have Ny279 := Az.mk hy
    clear hy
    have H' := Az.mk H
    clear H
    obtain ⟨Ao38, co38, eo38⟩ := Kd.R_slice HO_11.out
    subst eo38
    have p276 : 0 ≤ (x50_2 : Int) := of_decide_eq_true am
    have q276 : x50_2 < (y273.length : Int) := of_decide_eq_true am
    obtain ⟨ad276, e276, hx276_0⟩ := Kd.at_int (Kd.R_reads' HO_11.out).2.2 x50_2 p276 q276
    cases e276
    replace p276 := eq_true p276
    replace q276 := eq_true q276
    have p277 : 0 ≤ ((ji22) : Int) := of_decide_eq_true am
    have q277 : (ji22) < (y273.length : Int) := of_decide_eq_true am
    obtain ⟨ad277, e277, hx277_0⟩ := Kd.at_int (Kd.R_reads' HO_11.out).2.2 (ji22) p277 q277
    obtain rfl : ad276 = ad277 := (by injection e277)
    replace p277 := eq_true p277
    replace q277 := eq_true q277
    have p37 : 0 ≤ ((rd y273 x50_2) : Int) := of_decide_eq_true am
    have q37 : ((rd y273 x50_2) : Int) < ((x6_2.length : Int) : Int) := of_decide_eq_true am
    obtain ⟨go37, co37, eo37, gb37, gl37, cl37, HG37⟩ := Kd.R_form HO_6.out (by omega)
    (first | cases eo37 | (injection eo37 with ea_ en_ ec_; (first | subst ea_ | (injection ea_ with ea_; subst ea_)); subst ec_; clear en_))
    have GB37 := Az.mk gb37
    have GG37 := Az.mk HG37
    clear gb37 gl37 HG37
    obtain ⟨hx37_0, hf37_0⟩ := Kd.R_celln 0 HO_6.out ((rd y273 x50_2) : Int) p37 q37
    replace p37 := eq_true p37
    replace q37 := eq_true q37
    have HP39 := Kd.R_putg HO_6.out ((rd y273 x50_2) : Int) (rd y273 (ji22))
    go_wp2_with (((with_reducible refine gate_store (t := 3) (p := 74) rfl ?_); (try (rw [drewN_self wr]; generalize hq_ : World.drewN wr _ = wr; (try replace hx37_0 := cellq_ hq_ hx37_0); (try replace hx37_0 := frozq_ hq_ hx37_0); (try replace hf37_0 := frozq_ hq_ hf37_0); (try replace hx277_0 := cellq_ hq_ hx277_0); (try replace hx277_0 := frozq_ hq_ hx277_0); (try replace hx276_0 := cellq_ hq_ hx276_0); (try replace hx276_0 := frozq_ hq_ hx276_0); (try replace hx268_0 := cellq_ hq_ hx268_0); (try replace hx268_0 := frozq_ hq_ hx268_0); have n0_ := Az.mk (Kd.R_at hq_ HO_6.out); have n1_ := Az.mk (Kd.R_at hq_ HO_11.out); have n2_ := Az.mk (Kd.R_at hq_ HO_21.out); have n3_ := Az.mk (below_at hq_ HB.out); clear hq_ HO_6 HO_11 HO_21 HB; have HO_6 := n0_; have HO_11 := n1_; have HO_21 := n2_; have HB := n3_; clear n0_ n1_ n2_ n3_; (try (have HP39 := Kd.R_putg HO_6.out ((rd y273 x50_2) : Int) (rd y273 (ji22)))))); refine store_event (t := 3) (p := 74) (v := ?vo_w40) (w1 := (wr.setCell ⟨go37, ((rd y273 x50_2) : Int).toNat, none⟩ (.int .i64 (rd y273 (ji22))))) ?hg ?ho ?hn ?hr ?_; (case ho => rfl); (case hg => rfl); (case hn => rfl); (case hr => first | (go_simp; done) | (go_simp; rfl)); intro w40 hw; have hg : wr.grownBy w40 (some go37) := (by rw [hw]; exact HP39.2); have hp_ : Kd.R (Kd.int .i64) 3 w40 w.heap.size (fun k_ => some k_ ≠ (.slice (some ad276) y273.length co38 : Value).ownBlock ∧ some k_ ≠ (.slice (some ad268) t265.length co10 : Value).ownBlock) (.slice (some ⟨go37, 0, none⟩) x6_2.length co37) y279 := (by rw [hw, Ny279.out]; exact HP39.1); clear HP39; replace HO_6 := Az.mk (hp_); replace HO_11 := Az.mk (Kd.R_after (v := (.slice (some ⟨go37, 0, none⟩) x6_2.length co37)) (v1 := (.slice (some ⟨go37, 0, none⟩) x6_2.length co37)) (ok := (fun k_ => some k_ ≠ (.slice (some ad268) t265.length co10 : Value).ownBlock)) z9_0 hg (.inl rfl)); replace HO_21 := Az.mk (Kd.R_after (v := (.slice (some ⟨go37, 0, none⟩) x6_2.length co37)) (v1 := (.slice (some ⟨go37, 0, none⟩) x6_2.length co37)) (ok := (fun k_ => some k_ ≠ (.slice (some ad276) y273.length co38 : Value).ownBlock)) z9_1 hg (.inl rfl)); replace HB := Az.mk ((by rw [hw]; exact bwS (HB.out) GB37.out : Below w.heap.size w w40)); clear hg hw hp_))
    repeat (go_quiet (fail); try go_wp2_with (((with_reducible refine gate_store (t := 3) (p := 74) rfl ?_); (try (rw [drewN_self wr]; generalize hq_ : World.drewN wr _ = wr; (try replace hx37_0 := cellq_ hq_ hx37_0); (try replace hx37_0 := frozq_ hq_ hx37_0); (try replace hf37_0 := frozq_ hq_ hf37_0); (try replace hx277_0 := cellq_ hq_ hx277_0); (try replace hx277_0 := frozq_ hq_ hx277_0); (try replace hx276_0 := cellq_ hq_ hx276_0); (try replace hx276_0 := frozq_ hq_ hx276_0); (try replace hx268_0 := cellq_ hq_ hx268_0); (try replace hx268_0 := frozq_ hq_ hx268_0); have n0_ := Az.mk (Kd.R_at hq_ HO_6.out); have n1_ := Az.mk (Kd.R_at hq_ HO_11.out); have n2_ := Az.mk (Kd.R_at hq_ HO_21.out); have n3_ := Az.mk (below_at hq_ HB.out); clear hq_ HO_6 HO_11 HO_21 HB; have HO_6 := n0_; have HO_11 := n1_; have HO_21 := n2_; have HB := n3_; clear n0_ n1_ n2_ n3_; (try (have HP39 := Kd.R_putg HO_6.out ((rd y273 x50_2) : Int) (rd y273 (ji22)))))); refine store_event (t := 3) (p := 74) (v := ?vo_w40) (w1 := (wr.setCell ⟨go37, ((rd y273 x50_2) : Int).toNat, none⟩ (.int .i64 (rd y273 (ji22))))) ?hg ?ho ?hn ?hr ?_; (case ho => rfl); (case hg => rfl); (case hn => rfl); (case hr => first | (go_simp; done) | (go_simp; rfl)); intro w40 hw; have hg : wr.grownBy w40 (some go37) := (by rw [hw]; exact HP39.2); have hp_ : Kd.R (Kd.int .i64) 3 w40 w.heap.size (fun k_ => some k_ ≠ (.slice (some ad276) y273.length co38 : Value).ownBlock ∧ some k_ ≠ (.slice (some ad268) t265.length co10 : Value).ownBlock) (.slice (some ⟨go37, 0, none⟩) x6_2.length co37) y279 := (by rw [hw, Ny279.out]; exact HP39.1); clear HP39; replace HO_6 := Az.mk (hp_); replace HO_11 := Az.mk (Kd.R_after (v := (.slice (some ⟨go37, 0, none⟩) x6_2.length co37)) (v1 := (.slice (some ⟨go37, 0, none⟩) x6_2.length co37)) (ok := (fun k_ => some k_ ≠ (.slice (some ad268) t265.length co10 : Value).ownBlock)) z9_0 hg (.inl rfl)); replace HO_21 := Az.mk (Kd.R_after (v := (.slice (some ⟨go37, 0, none⟩) x6_2.length co37)) (v1 := (.slice (some ⟨go37, 0, none⟩) x6_2.length co37)) (ok := (fun k_ => some k_ ≠ (.slice (some ad276) y273.length co38 : Value).ownBlock)) z9_1 hg (.inl rfl)); replace HB := Az.mk ((by rw [hw]; exact bwS (HB.out) GB37.out : Below w.heap.size w w40)); clear hg hw hp_)))
    go_roundg k2
    case measure => have := HK1.out; have := HK2.out; omega
    case rel => exact ⟨(y279), (wrap64 (x50_2 + 1)), rq2, H', ⟨by have := HK1.out; have := HK2.out; omega⟩, ⟨kR HO_6.out⟩, ⟨by (with_reducible repeat (first | apply Kd.R_alloc | apply Kd.R_drewN | apply Kd.R_drew)); exact Kd.R_mono HO_11.out (fun _ hk => ⟨hk.2, hk.1⟩)⟩, ⟨by (with_reducible repeat (first | apply Kd.R_alloc | apply Kd.R_drewN | apply Kd.R_drew)); exact Kd.R_mono HO_21.out (fun _ hk => ⟨hk.2, hk.1⟩)⟩, ⟨bw_9⟩⟩
   rw [if_pos c28] at H
   have c28b0 : ((Go.bits .and .i64 (ji27) 1) == 1) = true := beq_iff_eq.mpr c28
   have c28b1 : ((Go.bits .and .i64 (ji27) 1) != 1) = false := bne_eq_false_iff_eq.mpr c28
   clear c28
   by_cases c29 : 0 ≤ (rd y273 (ji22))
   rotate_left
   ·rw [if_neg c29] at H
    exact absurd H (by simp)
   rw [if_pos c29] at H
   have c29b0 : decide (0 ≤ (rd y273 (ji22))) = true := decide_eq_true c29
   clear c29
   by_cases c30 : (rd y273 (ji22)) < (x6_2.length : Int)
   rotate_left
   ·rw [if_neg c30] at H
    exact absurd H (by simp)
   rw [if_pos c30] at H
   have c30b0 : decide ((rd y273 (ji22)) < (x6_2.length : Int)) = true := decide_eq_true c30
   clear c30
   obtain ⟨y278, hy⟩ : ∃ y_ : List Int, y_ = (x6_2.set ((rd y273 (ji22)) : Int).toNat (rd y273 x50_2)) := ⟨_, rfl⟩
   replace H : (impl_crossingMap.l1 k2 l0 a1 (l0.length : Int) y278 (rd t265 x23_1) y273 t265 (t265.length : Int) x23_1 (wrap64 (x50_2 + 1))) = some r := rh
   have Ny278 := Az.mk hy
   clear hy
   have H' := Az.mk H
   clear H
   obtain ⟨Ao32, co32, eo32⟩ := Kd.R_slice HO_11.out
   subst eo32
   have p276 : 0 ≤ (x50_2 : Int) := of_decide_eq_true am
   have q276 : x50_2 < (y273.length : Int) := of_decide_eq_true am
   obtain ⟨ad276, e276, hx276_0⟩ := Kd.at_int (Kd.R_reads' HO_11.out).2.2 x50_2 p276 q276
   cases e276
   replace p276 := eq_true p276
   replace q276 := eq_true q276
   have p277 : 0 ≤ ((ji22) : Int) := of_decide_eq_true am
   have q277 : (ji22) < (y273.length : Int) := of_decide_eq_true am
   obtain ⟨ad277, e277, hx277_0⟩ := Kd.at_int (Kd.R_reads' HO_11.out).2.2 (ji22) p277 q277
   obtain rfl : ad276 = ad277 := (by injection e277)
   replace p277 := eq_true p277
   replace q277 := eq_true q277
   have p31 : 0 ≤ ((rd y273 (ji22)) : Int) := of_decide_eq_true am
   have q31 : ((rd y273 (ji22)) : Int) < ((x6_2.length : Int) : Int) := of_decide_eq_true am
   obtain ⟨go31, co31, eo31, gb31, gl31, cl31, HG31⟩ := Kd.R_form HO_6.out (by omega)
   (first | cases eo31 | (injection eo31 with ea_ en_ ec_; (first | subst ea_ | (injection ea_ with ea_; subst ea_)); subst ec_; clear en_))
   have GB31 := Az.mk gb31
   have GG31 := Az.mk HG31
   clear gb31 gl31 HG31
   obtain ⟨hx31_0, hf31_0⟩ := Kd.R_celln 0 HO_6.out ((rd y273 (ji22)) : Int) p31 q31
   replace p31 := eq_true p31
   replace q31 := eq_true q31
   have HP33 := Kd.R_putg HO_6.out ((rd y273 (ji22)) : Int) (rd y273 x50_2)
   go_wp2_with (((with_reducible refine gate_store (t := 3) (p := 74) rfl ?_); (try (rw [drewN_self wr]; generalize hq_ : World.drewN wr _ = wr; (try replace hx31_0 := cellq_ hq_ hx31_0); (try replace hx31_0 := frozq_ hq_ hx31_0); (try replace hf31_0 := frozq_ hq_ hf31_0); (try replace hx277_0 := cellq_ hq_ hx277_0); (try replace hx277_0 := frozq_ hq_ hx277_0); (try replace hx276_0 := cellq_ hq_ hx276_0); (try replace hx276_0 := frozq_ hq_ hx276_0); (try replace hx268_0 := cellq_ hq_ hx268_0); (try replace hx268_0 := frozq_ hq_ hx268_0); have n0_ := Az.mk (Kd.R_at hq_ HO_6.out); have n1_ := Az.mk (Kd.R_at hq_ HO_11.out); have n2_ := Az.mk (Kd.R_at hq_ HO_21.out); have n3_ := Az.mk (below_at hq_ HB.out); clear hq_ HO_6 HO_11 HO_21 HB; have HO_6 := n0_; have HO_11 := n1_; have HO_21 := n2_; have HB := n3_; clear n0_ n1_ n2_ n3_; (try (have HP33 := Kd.R_putg HO_6.out ((rd y273 (ji22)) : Int) (rd y273 x50_2))))); refine store_event (t := 3) (p := 74) (v := ?vo_w34) (w1 := (wr.setCell ⟨go31, ((rd y273 (ji22)) : Int).toNat, none⟩ (.int .i64 (rd y273 x50_2)))) ?hg ?ho ?hn ?hr ?_; (case ho => rfl); (case hg => rfl); (case hn => rfl); (case hr => first | (go_simp; done) | (go_simp; rfl)); intro w34 hw; have hg : wr.grownBy w34 (some go31) := (by rw [hw]; exact HP33.2); have hp_ : Kd.R (Kd.int .i64) 3 w34 w.heap.size (fun k_ => some k_ ≠ (.slice (some ad276) y273.length co32 : Value).ownBlock ∧ some k_ ≠ (.slice (some ad268) t265.length co10 : Value).ownBlock) (.slice (some ⟨go31, 0, none⟩) x6_2.length co31) y278 := (by rw [hw, Ny278.out]; exact HP33.1); clear HP33; replace HO_6 := Az.mk (hp_); replace HO_11 := Az.mk (Kd.R_after (v := (.slice (some ⟨go31, 0, none⟩) x6_2.length co31)) (v1 := (.slice (some ⟨go31, 0, none⟩) x6_2.length co31)) (ok := (fun k_ => some k_ ≠ (.slice (some ad268) t265.length co10 : Value).ownBlock)) z9_0 hg (.inl rfl)); replace HO_21 := Az.mk (Kd.R_after (v := (.slice (some ⟨go31, 0, none⟩) x6_2.length co31)) (v1 := (.slice (some ⟨go31, 0, none⟩) x6_2.length co31)) (ok := (fun k_ => some k_ ≠ (.slice (some ad276) y273.length co32 : Value).ownBlock)) z9_1 hg (.inl rfl)); replace HB := Az.mk ((by rw [hw]; exact bwS (HB.out) GB31.out : Below w.heap.size w w34)); clear hg hw hp_))
   repeat (go_quiet (fail); try go_wp2_with (((with_reducible refine gate_store (t := 3) (p := 74) rfl ?_); (try (rw [drewN_self wr]; generalize hq_ : World.drewN wr _ = wr; (try replace hx31_0 := cellq_ hq_ hx31_0); (try replace hx31_0 := frozq_ hq_ hx31_0); (try replace hf31_0 := frozq_ hq_ hf31_0); (try replace hx277_0 := cellq_ hq_ hx277_0); (try replace hx277_0 := frozq_ hq_ hx277_0); (try replace hx276_0 := cellq_ hq_ hx276_0); (try replace hx276_0 := frozq_ hq_ hx276_0); (try replace hx268_0 := cellq_ hq_ hx268_0); (try replace hx268_0 := frozq_ hq_ hx268_0); have n0_ := Az.mk (Kd.R_at hq_ HO_6.out); have n1_ := Az.mk (Kd.R_at hq_ HO_11.out); have n2_ := Az.mk (Kd.R_at hq_ HO_21.out); have n3_ := Az.mk (below_at hq_ HB.out); clear hq_ HO_6 HO_11 HO_21 HB; have HO_6 := n0_; have HO_11 := n1_; have HO_21 := n2_; have HB := n3_; clear n0_ n1_ n2_ n3_; (try (have HP33 := Kd.R_putg HO_6.out ((rd y273 (ji22)) : Int) (rd y273 x50_2))))); refine store_event (t := 3) (p := 74) (v := ?vo_w34) (w1 := (wr.setCell ⟨go31, ((rd y273 (ji22)) : Int).toNat, none⟩ (.int .i64 (rd y273 x50_2)))) ?hg ?ho ?hn ?hr ?_; (case ho => rfl); (case hg => rfl); (case hn => rfl); (case hr => first | (go_simp; done) | (go_simp; rfl)); intro w34 hw; have hg : wr.grownBy w34 (some go31) := (by rw [hw]; exact HP33.2); have hp_ : Kd.R (Kd.int .i64) 3 w34 w.heap.size (fun k_ => some k_ ≠ (.slice (some ad276) y273.length co32 : Value).ownBlock ∧ some k_ ≠ (.slice (some ad268) t265.length co10 : Value).ownBlock) (.slice (some ⟨go31, 0, none⟩) x6_2.length co31) y278 := (by rw [hw, Ny278.out]; exact HP33.1); clear HP33; replace HO_6 := Az.mk (hp_); replace HO_11 := Az.mk (Kd.R_after (v := (.slice (some ⟨go31, 0, none⟩) x6_2.length co31)) (v1 := (.slice (some ⟨go31, 0, none⟩) x6_2.length co31)) (ok := (fun k_ => some k_ ≠ (.slice (some ad268) t265.length co10 : Value).ownBlock)) z9_0 hg (.inl rfl)); replace HO_21 := Az.mk (Kd.R_after (v := (.slice (some ⟨go31, 0, none⟩) x6_2.length co31)) (v1 := (.slice (some ⟨go31, 0, none⟩) x6_2.length co31)) (ok := (fun k_ => some k_ ≠ (.slice (some ad276) y273.length co32 : Value).ownBlock)) z9_1 hg (.inl rfl)); replace HB := Az.mk ((by rw [hw]; exact bwS (HB.out) GB31.out : Below w.heap.size w w34)); clear hg hw hp_)))
   go_roundg k2
   case measure => have := HK1.out; have := HK2.out; omega
   case rel => exact ⟨(y278), (wrap64 (x50_2 + 1)), rq2, H', ⟨by have := HK1.out; have := HK2.out; omega⟩, ⟨kR HO_6.out⟩, ⟨by (with_reducible repeat (first | apply Kd.R_alloc | apply Kd.R_drewN | apply Kd.R_drew)); exact Kd.R_mono HO_11.out (fun _ hk => ⟨hk.2, hk.1⟩)⟩, ⟨by (with_reducible repeat (first | apply Kd.R_alloc | apply Kd.R_drewN | apply Kd.R_drew)); exact Kd.R_mono HO_21.out (fun _ hk => ⟨hk.2, hk.1⟩)⟩, ⟨bw_9⟩⟩

end Go.Proofs.Ytkmjcdlhlhefdaa.P
