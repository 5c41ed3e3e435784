-- By this session's driver (wip/tools/mk.py) of the kit's print program, over several statements at once. Not trusted: Lean checks it.
import Derived.Test.YtkmjcdlhlhefdaaQWZip
import Derived.Test.YtkmjcdlhlhefdaaQPx0
import Derived.Test.YtkmjcdlhlhefdaaQPx5
import Derived.Test.YtkmjcdlhlhefdaaQPx6
import Derived.Test.YtkmjcdlhlhefdaaQPx7
namespace Go.Proofs.Ytkmjcdlhlhefdaa.P
open Go.RowKit Go.Proofs.YtkmjcdlhlhefdaaW.PrintWords Go.Proofs.YtkmjcdlhlhefdaaW.PrintLast Go.Proofs.YtkmjcdlhlhefdaaW.PrintMore
attribute [local go_sem] max2_int min2_int max_two min_two max_three min_three max_four min_four   -- for this text's walks alone
set_option linter.unusedVariables false
set_option linter.unusedSimpArgs false

theorem bw_8 {n : Nat} {v v' : World} (h : Below n v v' := by repeat (first | (with_reducible first | exact HB.out | apply bwA | apply pbN | apply bwD) | exact HB.out)) : Below n v v' := h

theorem ln_8 {P : Prop} (h : P := by (try simp only [List.map_toArray, List.map_cons, List.map_nil]); first | done | rfl | (simp only [List.length_drop, List.length_take]; rfl)) : P := h
open Option renaming bind_eq_some_iff → be

/-! ### impl_dual: function 59 -/
def impl_dual.l0 : Nat → List Int → List Int → Int → Int → Option (List Int)
 | 0, _, _, _, _ => none
 | k + 1, x0, x3, x9, x10 => if x10 < x9 then (if 0 ≤ (Go.bits .xor .i64 x10 1) then (if (Go.bits .xor .i64 x10 1) < (x0.length : Int) then (if 0 ≤ x10 then (if x10 < (x3.length : Int) then (impl_dual.l0 k x0 (x3.set (x10 : Int).toNat (rd x0 (Go.bits .xor .i64 x10 1))) x9 (wrap64 (x10 + 1))) else (none)) else (none)) else (none)) else (none)) else (some x3)
def impl_dual.f (k : Nat) (l0 : List Int) : Option (List Int) := if 0 ≤ (l0.length : Int) then (if ((l0.length : Int) : Int).toNat ≤ 35184372088832 then (impl_dual.l0 k l0 (List.replicate ((l0.length : Int) : Int).toNat 0) (l0.length : Int) 0) else (none)) else (none)
set_option maxHeartbeats 8000000 in
set_option maxRecDepth 100000 in
theorem impl_dual.calls (k : Nat) (A0 : Option Addr) (c0 : Nat) (l0 : List Int) (r : List Int) (w : World) (hr0 : Kd.C (Kd.int .i64) w A0 l0.length l0) (hc0 : l0.length ≤ c0) (h : impl_dual.f k l0 = some r) :
  Calls Try.prog 59 #[.slice A0 l0.length c0] w fun e w' => ∃ v0_ : Value, e = .returned (v0_) ∧ Kd.R (Kd.int .i64) 3 w' w.heap.size (fun _ => True) v0_ r ∧ Below w.heap.size w w' := by
 have HR0 := Az.mk hr0
 have HC0 := Az.mk hc0
 clear hr0 hc0
 have HB := Az.mk (Below.refl w.heap.size w)
 have H : (if 0 ≤ (l0.length : Int) then (if ((l0.length : Int) : Int).toNat ≤ 35184372088832 then (impl_dual.l0 k l0 (List.replicate ((l0.length : Int) : Int).toNat 0) (l0.length : Int) 0) else (none)) else (none)) = some r := h
 clear h
 by_cases c2 : 0 ≤ (l0.length : Int)
 rotate_left
 ·rw [if_neg c2] at H
  exact absurd H (by simp)
 rw [if_pos c2] at H
 have c2b0 := eq_true c2
 have c2b1 : decide (0 ≤ (l0.length : Int)) = true := decide_eq_true c2
 clear c2
 by_cases c3 : ((l0.length : Int) : Int).toNat ≤ 35184372088832
 rotate_left
 ·rw [if_neg c3] at H
  exact absurd H (by simp)
 rw [if_pos c3] at H
 have c3b0 := eq_true c3
 have c3b1 : decide (((l0.length : Int) : Int).toNat ≤ 35184372088832) = true := decide_eq_true c3
 clear c3
 obtain ⟨y232, hy⟩ : ∃ y_ : List Int, y_ = (List.replicate ((l0.length : Int) : Int).toNat 0) := ⟨_, rfl⟩
 replace H : (impl_dual.l0 k l0 y232 (l0.length : Int) 0) = some r := rh
 have Ny232 := Az.mk hy
 clear hy
 have H' := Az.mk H
 clear H
 go_enter Try.func59, Try.ntmps59
 go_wp2_with (first | ((with_reducible refine gtD (N := 7) rfl ?_); refine Kd.R_make (Kd.int .i64) _ 3 rfl (N := 7) rfl 24 _ _ rfl (l0.length : Int) rfl rfl Try.underlying24 (.int .i64 0) 8 info3 rfl (by decide) (by omega) 0 (ok := fun _ => True) (okp := fun _ => True) rfl (fun _ hk => hk) trivial (of_decide_eq_true am) (Nat.le_trans (Nat.mul_le_mul_right _ (of_decide_eq_true am : (l0.length : Int).toNat ≤ 35184372088832)) (by omega)) (Below.refl _ _) (Nat.le_refl _) ?_; intro v233 w4 ho5 hb hg_ hnew_; clear hg_ hnew_; (first | rw [← Ny232.out] at ho5 | (simp only [Int.reduceToNat] at ho5; rw [← Ny232.out] at ho5)); have HO234 := Az.mk (Kd.R_lower ho5 (bwZ bw_8)); replace HB := Az.mk (bwT bw_8 hb); clear hb ho5))
 go_loopg [10] k (fun kq v10 w' => ∃ (x3_1 : List Int) (x10_1 : Int), v10 = .int .i64 x10_1 ∧ Az (impl_dual.l0 kq l0 x3_1 (l0.length : Int) x10_1 = some r) ∧ Az (kq ≤ k) ∧ Az (Kd.R (Kd.int .i64) 3 w' w.heap.size (fun _ => True) v233 x3_1) ∧ Az (Below w.heap.size w w'))
 case atStart => exact ⟨(y232), (0), rq2, H', ⟨Nat.le_refl _⟩, ⟨kR HO234.out⟩, ⟨bw_8⟩⟩
 clear H'
 try clear c2
 try clear c2b0
 try clear c2b1
 try clear c3
 try clear c3b0
 try clear c3b1
 obtain ⟨x3_1, x10_1, rfl, HA, HK1, HO_3, HB⟩ := hrel
 cases gk with
 | zero => exact absurd HA.out (by simp [impl_dual.l0])
 | succ k1 =>
  have H := HA.out
  clear HA
  simp only [impl_dual.l0] at H
  by_cases c6 : x10_1 < (l0.length : Int)
  rotate_left
  ·rw [if_neg c6] at H
   have c6b0 : decide (x10_1 < (l0.length : Int)) = false := decide_eq_false c6
   clear c6
   obtain rfl := Option.some.inj H
   go_wp2
   go_ret
   exact ⟨_, rq1, kR HO_3.out, bw_8⟩
  rw [if_pos c6] at H
  have c6b0 : decide (x10_1 < (l0.length : Int)) = true := decide_eq_true c6
  clear c6
  by_cases c7 : 0 ≤ (Go.bits .xor .i64 x10_1 1)
  rotate_left
  ·rw [if_neg c7] at H
   exact absurd H (by simp)
  rw [if_pos c7] at H
  have c7b0 : decide (0 ≤ (Go.bits .xor .i64 x10_1 1)) = true := decide_eq_true c7
  clear c7
  by_cases c8 : (Go.bits .xor .i64 x10_1 1) < (l0.length : Int)
  rotate_left
  ·rw [if_neg c8] at H
   exact absurd H (by simp)
  rw [if_pos c8] at H
  have c8b0 : decide ((Go.bits .xor .i64 x10_1 1) < (l0.length : Int)) = true := decide_eq_true c8
  clear c8
  by_cases c9 : 0 ≤ x10_1
  rotate_left
  ·rw [if_neg c9] at H
   exact absurd H (by simp)
  rw [if_pos c9] at H
  have c9b0 : decide (0 ≤ x10_1) = true := decide_eq_true c9
  clear c9
  by_cases c10 : x10_1 < (x3_1.length : Int)
  rotate_left
  ·rw [if_neg c10] at H
   exact absurd H (by simp)
  rw [if_pos c10] at H
  have c10b0 : decide (x10_1 < (x3_1.length : Int)) = true := decide_eq_true c10
  clear c10
  obtain ⟨y236, hy⟩ : ∃ y_ : List Int, y_ = (x3_1.set (x10_1 : Int).toNat (rd l0 (Go.bits .xor .i64 x10_1 1))) := ⟨_, rfl⟩
  replace H : (impl_dual.l0 k1 l0 y236 (l0.length : Int) (wrap64 (x10_1 + 1))) = some r := rh
  have Ny236 := Az.mk hy
  clear hy
  have H' := Az.mk H
  clear H
  have p235 : 0 ≤ ((Go.bits .xor .i64 x10_1 1) : Int) := of_decide_eq_true am
  have q235 : (Go.bits .xor .i64 x10_1 1) < (l0.length : Int) := of_decide_eq_true am
  obtain ⟨ad235, e235, hx235_0⟩ := Kd.at_int HR0.out (Go.bits .xor .i64 x10_1 1) p235 q235
  cases e235
  replace hx235_0 := kc HB hx235_0
  replace p235 := eq_true p235
  replace q235 := eq_true q235
  have p11 : 0 ≤ (x10_1 : Int) := of_decide_eq_true am
  have q11 : (x10_1 : Int) < ((x3_1.length : Int) : Int) := of_decide_eq_true am
  obtain ⟨go11, co11, eo11, gb11, gl11, cl11, HG11⟩ := Kd.R_form HO_3.out (by omega)
  (first | cases eo11 | (injection eo11 with ea_ en_ ec_; (first | subst ea_ | (injection ea_ with ea_; subst ea_)); subst ec_; clear en_))
  have GB11 := Az.mk gb11
  have GG11 := Az.mk HG11
  clear gb11 gl11 HG11
  obtain ⟨hx11_0, hf11_0⟩ := Kd.R_celln 0 HO_3.out (x10_1 : Int) p11 q11
  replace p11 := eq_true p11
  replace q11 := eq_true q11
  have HP12 := Kd.R_putg HO_3.out (x10_1 : Int) (rd l0 (Go.bits .xor .i64 x10_1 1))
  go_wp2_with (first | ((with_reducible refine gate_store (t := 3) (p := 20) rfl ?_); refine store_event (t := 3) (p := 20) (v := ?vo_w13) (w1 := (wr.setCell ⟨go11, (x10_1 : Int).toNat, none⟩ (.int .i64 (rd l0 (Go.bits .xor .i64 x10_1 1))))) ?hg ?ho ?hn ?hr ?_; (case ho => rfl); (case hg => rfl); (case hn => rfl); (case hr => first | (go_simp; done) | (go_simp; rfl)); intro w13 hw; have hg : wr.grownBy w13 (some go11) := (by rw [hw]; exact HP12.2); have hp_ : Kd.R (Kd.int .i64) 3 w13 w.heap.size (fun _ => True) (.slice (some ⟨go11, 0, none⟩) x3_1.length co11) y236 := (by rw [hw, Ny236.out]; exact HP12.1); clear HP12; replace HO_3 := Az.mk (hp_); replace HB := Az.mk ((by rw [hw]; exact bwS (HB.out) GB11.out : Below w.heap.size w w13)); clear hg hw hp_))
  go_roundg k1
  case measure => have := HK1.out; omega
  case rel => exact ⟨(y236), (wrap64 (x10_1 + 1)), rq2, H', ⟨by have := HK1.out; omega⟩, ⟨kR HO_3.out⟩, ⟨bw_8⟩⟩

/-! ### impl_GenusOf: function 32 -/
def impl_GenusOf.f (k : Nat) (l0 : List Int) : Option (Int) := (impl_IsMap.f k l0).bind fun t237 => (if t237 = true then ((impl_MapParts.f k l0).bind fun t238 => ((impl_cycles.f k l0).bind fun t239 => ((impl_dual.f k l0).bind fun t242 => ((impl_cycles.f k t242).bind fun t245 => (some (wrap64 (t238 - (wrap64 (Int.tdiv (wrap64 ((wrap64 ((t239.length : Int) - (wrap64 ((l0.length : Int) / 2)))) + (t245.length : Int))) 2))))))))) else (some (-1)))
set_option maxHeartbeats 8000000 in
set_option maxRecDepth 100000 in
theorem impl_GenusOf.calls (k : Nat) (A0 : Option Addr) (c0 : Nat) (l0 : List Int) (r : Int) (w : World) (hr0 : Kd.C (Kd.int .i64) w A0 l0.length l0) (hc0 : l0.length ≤ c0) (h : impl_GenusOf.f k l0 = some r) :
  Calls Try.prog 32 #[.slice A0 l0.length c0] w fun e w' => e = .returned (.int .i64 r) ∧ Below w.heap.size w w' := by
 have HR0 := Az.mk hr0
 have HC0 := Az.mk hc0
 clear hr0 hc0
 have HB := Az.mk (Below.refl w.heap.size w)
 have H : ((impl_IsMap.f k l0).bind fun t237 => (if t237 = true then ((impl_MapParts.f k l0).bind fun t238 => ((impl_cycles.f k l0).bind fun t239 => ((impl_dual.f k l0).bind fun t242 => ((impl_cycles.f k t242).bind fun t245 => (some (wrap64 (t238 - (wrap64 (Int.tdiv (wrap64 ((wrap64 ((t239.length : Int) - (wrap64 ((l0.length : Int) / 2)))) + (t245.length : Int))) 2))))))))) else (some (-1)))) = some r := h
 clear h
 replace H := bez H
 obtain ⟨t237, A2, H⟩ := H
 try dsimp only at H
 by_cases c3 : t237 = true
 rotate_left
 ·replace c3 := Bool.eq_false_iff.mpr c3
  subst c3
  rw [if_neg ff] at H
  obtain rfl := Option.some.inj H
  go_enter Try.func32, Try.ntmps32
  go_wp2_with (first | ((with_reducible refine gtC (f := 56) rfl ?_); refine clz Try.func56 (some 4) #[.slice A0 l0.length c0] ?_; (with_reducible refine (impl_IsMap.calls k _ _ l0 false _ ?side1 ?side2 A2.out).mono ?_); (case side1 => exact kC HR0.out); (case side2 => exact HC0.out); rintro e w16 ⟨rfl, hb⟩; refine ⟨_, rfl, ?_⟩; replace HB := Az.mk (bwT bw_8 hb); (try clear hb)))
  go_ret
  exact ⟨rq1, bw_8⟩
 subst c3
 rw [if_pos rfl] at H
 replace H := bez H
 obtain ⟨t238, A4, H⟩ := H
 try dsimp only at H
 replace H := bez H
 obtain ⟨t239, A5, H⟩ := H
 try dsimp only at H
 replace H := bez H
 obtain ⟨t242, A6, H⟩ := H
 try dsimp only at H
 replace H := bez H
 obtain ⟨t245, A7, H⟩ := H
 try dsimp only at H
 obtain rfl := Option.some.inj H
 go_enter Try.func32, Try.ntmps32
 go_wp2_with (first | ((with_reducible refine gtC (f := 56) rfl ?_); refine clz Try.func56 (some 4) #[.slice A0 l0.length c0] ?_; (with_reducible refine (impl_IsMap.calls k _ _ l0 true _ ?side1 ?side2 A2.out).mono ?_); (case side1 => exact kC HR0.out); (case side2 => exact HC0.out); rintro e w8 ⟨rfl, hb⟩; refine ⟨_, rfl, ?_⟩; replace HB := Az.mk (bwT bw_8 hb); (try clear hb)) | ((with_reducible refine gtC (f := 57) rfl ?_); refine clz Try.func57 (some 7) #[.slice A0 l0.length c0] ?_; (with_reducible refine (impl_MapParts.calls k _ _ l0 t238 _ ?side1 ?side2 A4.out).mono ?_); (case side1 => exact kC (Kd.C_below HR0.out HB.out)); (case side2 => exact HC0.out); rintro e w9 ⟨rfl, hb⟩; refine ⟨_, rfl, ?_⟩; replace HB := Az.mk (bwT bw_8 hb); (try clear hb)) | ((with_reducible refine gtC (f := 58) rfl ?_); refine clz Try.func58 (some 9) #[.slice A0 l0.length c0] ?_; (with_reducible refine (impl_cycles.calls k _ _ l0 t239 _ ?side1 ?side2 A5.out).mono ?_); (case side1 => exact kC (Kd.C_below HR0.out HB.out)); (case side2 => exact HC0.out); rintro e w10 ⟨v240, rfl, ho0, hb⟩; refine ⟨_, rfl, ?_⟩; have HO241 := Az.mk (Kd.S_lower ho0 (bwZ bw_8)); replace HB := Az.mk (bwT bw_8 hb); (try clear hb); (try clear ho0); obtain ⟨Ao11, co11, eo11⟩ := Kd.S_slice HO241.out; subst eo11) | ((with_reducible refine gtC (f := 59) rfl ?_); refine clz Try.func59 (some 16) #[.slice A0 l0.length c0] ?_; (with_reducible refine (impl_dual.calls k _ _ l0 t242 _ ?side1 ?side2 A6.out).mono ?_); (case side1 => exact kC (Kd.C_below HR0.out HB.out)); (case side2 => exact HC0.out); rintro e w12 ⟨v243, rfl, ho0, hb⟩; refine ⟨_, rfl, ?_⟩; replace HO241 := Az.mk (Kd.S_elder' (kS HO241.out) (Kd.R_base ho0) hb); have HO244 := Az.mk (Kd.R_lower ho0 (bwZ bw_8)); replace HB := Az.mk (bwT bw_8 hb); (try clear hb); (try clear ho0); obtain ⟨Ao13, co13, eo13⟩ := Kd.R_slice HO244.out; subst eo13) | ((with_reducible refine gtC (f := 58) rfl ?_); refine clz Try.func58 (some 17) #[.slice Ao13 t242.length co13] ?_; (with_reducible refine (impl_cycles.calls k _ _ t242 t245 _ ?side1 ?side2 A7.out).mono ?_); (case side1 => exact kC (Kd.R_reads' HO244.out).2.2); (case side2 => exact (Kd.R_reads' HO244.out).2.1); rintro e w14 ⟨v246, rfl, ho0, hb⟩; refine ⟨_, rfl, ?_⟩; have HO247 := Az.mk (Kd.S_lower (Kd.S_new' (Kd.S_new' ho0 (Kd.S_lt (kS HO241.out))) (Kd.R_lt (kR HO244.out))) (bwZ bw_8)); replace HO241 := Az.mk (Kd.S_elder' (kS HO241.out) (Kd.S_base ho0) hb); replace HO244 := Az.mk (Kd.R_below (kR HO244.out) hb); replace HB := Az.mk (bwT bw_8 hb); (try clear hb); (try clear ho0); obtain ⟨Ao15, co15, eo15⟩ := Kd.S_slice HO247.out; subst eo15))
 go_ret
 exact ⟨rq1, bw_8⟩

/-! ### impl_lettersOf: function 42 -/
def impl_lettersOf.l0 : Nat → List Int → List Int → Int → Int → Option (List Int)
 | 0, _, _, _, _ => none
 | k + 1, x3, x8, x9, x10 => if x10 < x9 then (if 0 ≤ x10 then (if x10 < (x8.length : Int) then (if (rd x8 x10) > 0 then (if x3.length < 17592186044416 then (impl_lettersOf.l0 k (x3 ++ [x10]) x8 x9 (wrap64 (x10 + 1))) else (none)) else (impl_lettersOf.l0 k x3 x8 x9 (wrap64 (x10 + 1)))) else (none)) else (none)) else (some x3)
def impl_lettersOf.f (k : Nat) (l0 : List Int) : Option (List Int) := (impl_crossings.f k l0).bind fun t251 => (impl_lettersOf.l0 k (([] : List Int)) t251 (t251.length : Int) 0)
set_option maxHeartbeats 8000000 in
set_option maxRecDepth 100000 in
theorem impl_lettersOf.calls (k : Nat) (A0 : Option Addr) (c0 : Nat) (l0 : List Int) (r : List Int) (w : World) (hr0 : Kd.C (Kd.int .i64) w A0 l0.length l0) (hc0 : l0.length ≤ c0) (h : impl_lettersOf.f k l0 = some r) :
  Calls Try.prog 42 #[.slice A0 l0.length c0] w fun e w' => ∃ v0_ : Value, e = .returned (v0_) ∧ Kd.R (Kd.int .i64) 3 w' w.heap.size (fun _ => True) v0_ r ∧ Below w.heap.size w w' := by
 have HR0 := Az.mk hr0
 have HC0 := Az.mk hc0
 clear hr0 hc0
 have HB := Az.mk (Below.refl w.heap.size w)
 have H : ((impl_crossings.f k l0).bind fun t251 => (impl_lettersOf.l0 k (([] : List Int)) t251 (t251.length : Int) 0)) = some r := h
 clear h
 obtain ⟨y248, hy⟩ : ∃ y_ : List Int, y_ = (([] : List Int)) := ⟨_, rfl⟩
 replace H : ((impl_crossings.f k l0).bind fun t251 => (impl_lettersOf.l0 k y248 t251 (t251.length : Int) 0)) = some r := rh
 have Ny248 := Az.mk hy
 clear hy
 replace H := bez H
 obtain ⟨t251, A2, H⟩ := H
 try dsimp only at H
 have H' := Az.mk H
 clear H
 go_enter Try.func42, Try.ntmps42
 go_wp2_with (first | ((with_reducible refine gtD (N := 6) rfl ?_); refine Kd.R_lit (Kd.int .i64) _ 3 ?hg (N := 6) ?hd (xs := ([] : List Int)) (inner := []) (ok := fun _ => True) (okp := fun _ => True) ?hr ?hp (fun _ hk => hk) trivial (Below.refl _ _) (Nat.le_refl _) (by simp) ?_; (case hd => rfl); (case hg => rfl); (case hr => first | (go_simp; done) | (go_simp; rfl)); (case hp => exact (Reps.none _ _)); intro v249 w3 ho4 hb hg_ hnew_; clear hg_ hnew_; (first | rw [← Ny248.out] at ho4 | (simp only [Int.reduceToNat] at ho4; rw [← Ny248.out] at ho4)); have HO250 := Az.mk (Kd.R_lower ho4 (bwZ bw_8)); replace HB := Az.mk (bwT bw_8 hb); clear hb ho4) | ((with_reducible refine gtC (f := 50) rfl ?_); refine clz Try.func50 (some 8) #[.slice A0 l0.length c0] ?_; (with_reducible refine (impl_crossings.calls k (fun k_ => k_ < w.heap.size) _ _ l0 t251 _ ?side1 A2.out).mono ?_); (case side1 => exact Kd.V_mk HC0.out (Kd.F_below (Kd.C_F (Kd.heap_int .i64) HR0.out) bw_8)); rintro e w5 ⟨v252, rfl, ho0, hb⟩; refine ⟨_, rfl, ?_⟩; have HO253 := Az.mk (Kd.R_lower (Kd.R_new' (Kd.R_mono (ok' := fun k_ => True) ho0 (fun _ hk_ => trivial)) (Kd.R_lt (kR HO250.out))) (bwZ bw_8)); replace HO250 := Az.mk (Kd.R_elder' (kR HO250.out) (Kd.R_base ho0) hb); replace HB := Az.mk (bwT bw_8 hb); (try clear hb); (try clear ho0); obtain ⟨Ao6, co6, eo6⟩ := Kd.R_slice HO253.out; subst eo6))
 go_loopg [3, 10] k (fun kq v3 v10 w' => ∃ (x3_1 : List Int) (x10_1 : Int), v10 = .int .i64 x10_1 ∧ Az (impl_lettersOf.l0 kq x3_1 t251 (t251.length : Int) x10_1 = some r) ∧ Az (kq ≤ k) ∧ Az (Kd.R (Kd.int .i64) 3 w' w.heap.size (fun k_ => some k_ ≠ ((.slice Ao6 t251.length co6) : Value).ownBlock) v3 x3_1) ∧ Az (Kd.R (Kd.int .i64) 3 w' w.heap.size (fun k_ => some k_ ≠ (v3 : Value).ownBlock) (.slice Ao6 t251.length co6) t251) ∧ Az (Below w.heap.size w w'))
 case atStart => exact ⟨(y248), (0), rq2, H', ⟨Nat.le_refl _⟩, ⟨by (with_reducible repeat (first | apply Kd.R_alloc | apply Kd.R_drewN | apply Kd.R_drew)); exact Kd.R_mono HO250.out (fun _ hk => hk.2)⟩, ⟨by (with_reducible repeat (first | apply Kd.R_alloc | apply Kd.R_drewN | apply Kd.R_drew)); exact Kd.R_mono HO253.out (fun _ hk => hk.2)⟩, ⟨bw_8⟩⟩
 clear H'
 obtain ⟨x3_1, x10_1, rfl, HA, HK1, HO_3, HO_8, HB⟩ := hrel
 cases gk with
 | zero => exact absurd HA.out (by simp [impl_lettersOf.l0])
 | succ k1 =>
  have H := HA.out
  clear HA
  simp only [impl_lettersOf.l0] at H
  by_cases c7 : x10_1 < (t251.length : Int)
  rotate_left
  ·rw [if_neg c7] at H
   have c7b0 : decide (x10_1 < (t251.length : Int)) = false := decide_eq_false c7
   clear c7
   obtain rfl := Option.some.inj H
   go_wp2
   go_ret
   exact ⟨_, rq1, by (with_reducible repeat (first | apply Kd.R_alloc | apply Kd.R_drewN | apply Kd.R_drew)); exact Kd.R_mono HO_3.out (fun _ hk => trivial), bw_8⟩
  rw [if_pos c7] at H
  have c7b0 : decide (x10_1 < (t251.length : Int)) = true := decide_eq_true c7
  clear c7
  by_cases c8 : 0 ≤ x10_1
  rotate_left
  ·rw [if_neg c8] at H
   exact absurd H (by simp)
  rw [if_pos c8] at H
  have c8b0 : decide (0 ≤ x10_1) = true := decide_eq_true c8
  clear c8
  by_cases c9 : x10_1 < (t251.length : Int)
  rotate_left
  ·rw [if_neg c9] at H
   exact absurd H (by simp)
  rw [if_pos c9] at H
  have c9b0 : decide (x10_1 < (t251.length : Int)) = true := decide_eq_true c9
  clear c9
  by_cases c10 : (rd t251 x10_1) > 0
  rotate_left
  ·rw [if_neg c10] at H
   have c10b0 : decide (0 < (rd t251 x10_1)) = false := decide_eq_false c10
   clear c10
   have H' := Az.mk H
   clear H
   have p254 : 0 ≤ (x10_1 : Int) := of_decide_eq_true am
   have q254 : x10_1 < (t251.length : Int) := of_decide_eq_true am
   obtain ⟨ad254, e254, hx254_0⟩ := Kd.at_int (Kd.R_reads' HO_8.out).2.2 x10_1 p254 q254
   cases e254
   replace p254 := eq_true p254
   replace q254 := eq_true q254
   go_wp2
   go_roundg k1
   case measure => have := HK1.out; omega
   case rel => exact ⟨(x3_1), (wrap64 (x10_1 + 1)), rq2, H', ⟨by have := HK1.out; omega⟩, ⟨kR HO_3.out⟩, ⟨kR HO_8.out⟩, ⟨bw_8⟩⟩
  rw [if_pos c10] at H
  have c10b0 : decide (0 < (rd t251 x10_1)) = true := decide_eq_true c10
  clear c10
  by_cases c11 : x3_1.length < 17592186044416
  rotate_left
  ·rw [if_neg c11] at H
   exact absurd H (by simp)
  rw [if_pos c11] at H
  have LMc11 := Az.mk c11
  clear c11
  obtain ⟨y255, hy⟩ : ∃ y_ : List Int, y_ = (x3_1 ++ [x10_1]) := ⟨_, rfl⟩
  replace H : (impl_lettersOf.l0 k1 y255 t251 (t251.length : Int) (wrap64 (x10_1 + 1))) = some r := rh
  have Ny255 := Az.mk hy
  clear hy
  have H' := Az.mk H
  clear H
  have p254 : 0 ≤ (x10_1 : Int) := of_decide_eq_true am
  have q254 : x10_1 < (t251.length : Int) := of_decide_eq_true am
  obtain ⟨ad254, e254, hx254_0⟩ := Kd.at_int (Kd.R_reads' HO_8.out).2.2 x10_1 p254 q254
  cases e254
  replace p254 := eq_true p254
  replace q254 := eq_true q254
  go_wp2_with (first | ((with_reducible refine gate_builtin (b := .append) (xs := #[.tmp 17, .tmp 19]) rfl ?_); at_builtin; refine Kd.R_append (Kd.int .i64) (w0 := w) w.heap.size rfl (.tmp 17) (.tmp 19) 24 3 (.int .i64 0) 8 rfl Try.underlying24 info3 rfl (by decide) (by omega) u3 x3_1 x10_1 [.int .i64 x10_1] (fun k_ => some k_ ≠ (.slice (some ad254) t251.length co6 : Value).ownBlock) (fun _ => False) rfl rfl ?aP (fun _ hk => hk.elim) ?aF ?aO ?aB ?aS ?aL ?_; (case aP => exact rfl); (case aB => exact bw_8); (case aF => exact (fun k_ hk => Kd.fresh' (Kd.R_lt (kR HO_8.out)) k_ hk)); (case aO => exact (kR HO_3.out)); (case aS => exact (bwZ bw_8)); (case aL => have := LMc11.out; omega); intro v256 w12 ho hb hg hat; rw [← Ny255.out] at ho; have n0_ := Az.mk (Kd.R_after (ok := (fun _ => True)) (by (with_reducible repeat (first | apply Kd.R_alloc | apply Kd.R_drewN | apply Kd.R_drew)); exact Kd.R_mono HO_8.out (fun _ hk => ⟨trivial, hk⟩)) hg hat); have n1_ := Az.mk (hb); have n2_ := Az.mk (ho); clear HO_8; clear HB; clear HO_3; have HO_8 := n0_; have HB := n1_; have HO257 := n2_; clear n0_ n1_ n2_; clear ho hb hg hat))
  go_roundg k1
  case measure => have := HK1.out; omega
  case rel => exact ⟨(y255), (wrap64 (x10_1 + 1)), rq2, H', ⟨by have := HK1.out; omega⟩, ⟨kR HO257.out⟩, ⟨by (with_reducible repeat (first | apply Kd.R_alloc | apply Kd.R_drewN | apply Kd.R_drew)); exact Kd.R_mono HO_8.out (fun _ hk => hk.2)⟩, ⟨bw_8⟩⟩

/-! ### impl_indexOf: function 39 -/
def impl_indexOf.l0 : Nat → Int → List Int → Int → Int → Option (Int)
 | 0, _, _, _, _ => none
 | k + 1, x1, x7, x8, x9 => if x9 < x8 then (if 0 ≤ x9 then (if x9 < (x7.length : Int) then (if (rd x7 x9) = x1 then (some x9) else (impl_indexOf.l0 k x1 x7 x8 (wrap64 (x9 + 1)))) else (none)) else (none)) else (some (-1))
def impl_indexOf.f (k : Nat) (l0 : List Int) (a1 : Int) : Option (Int) := impl_indexOf.l0 k a1 l0 (l0.length : Int) 0
set_option maxHeartbeats 8000000 in
set_option maxRecDepth 100000 in
theorem impl_indexOf.calls (k : Nat) (A0 : Option Addr) (c0 : Nat) (l0 : List Int) (a1 : Int) (r : Int) (w : World) (hr0 : Kd.C (Kd.int .i64) w A0 l0.length l0) (hc0 : l0.length ≤ c0) (h : impl_indexOf.f k l0 a1 = some r) :
  Calls Try.prog 39 #[.slice A0 l0.length c0, .int .i64 a1] w fun e w' => e = .returned (.int .i64 r) ∧ Drawn0 w w' := by
 have HR0 := Az.mk hr0
 have HC0 := Az.mk hc0
 clear hr0 hc0
 have H : (impl_indexOf.l0 k a1 l0 (l0.length : Int) 0) = some r := h
 clear h
 have H' := Az.mk H
 clear H
 go_enter Try.func39, Try.ntmps39
 go_wp2
 go_loopg [9] k (fun kq v9 w' => ∃ (x9_1 : Int), v9 = .int .i64 x9_1 ∧ Az (impl_indexOf.l0 kq a1 l0 (l0.length : Int) x9_1 = some r) ∧ Az (kq ≤ k) ∧ Drawn0 w w')
 case atStart => exact ⟨(0), rq2, H', ⟨Nat.le_refl _⟩, kd⟩
 clear H'
 obtain ⟨x9_1, rfl, HA, HK1, ⟨m1, rfl⟩⟩ := hrel
 cases gk with
 | zero => exact absurd HA.out (by simp [impl_indexOf.l0])
 | succ k1 =>
  have H := HA.out
  clear HA
  simp only [impl_indexOf.l0] at H
  by_cases c3 : x9_1 < (l0.length : Int)
  rotate_left
  ·rw [if_neg c3] at H
   have c3b0 : decide (x9_1 < (l0.length : Int)) = false := decide_eq_false c3
   clear c3
   obtain rfl := Option.some.inj H
   go_wp2
   go_ret
   exact ⟨rq2, kd⟩
  rw [if_pos c3] at H
  have c3b0 : decide (x9_1 < (l0.length : Int)) = true := decide_eq_true c3
  clear c3
  by_cases c4 : 0 ≤ x9_1
  rotate_left
  ·rw [if_neg c4] at H
   exact absurd H (by simp)
  rw [if_pos c4] at H
  have c4b0 : decide (0 ≤ x9_1) = true := decide_eq_true c4
  clear c4
  by_cases c5 : x9_1 < (l0.length : Int)
  rotate_left
  ·rw [if_neg c5] at H
   exact absurd H (by simp)
  rw [if_pos c5] at H
  have c5b0 : decide (x9_1 < (l0.length : Int)) = true := decide_eq_true c5
  clear c5
  by_cases c6 : (rd l0 x9_1) = a1
  ·rw [if_pos c6] at H
   have c6b0 : ((rd l0 x9_1) == a1) = true := beq_iff_eq.mpr c6
   have c6b1 : ((rd l0 x9_1) != a1) = false := bne_eq_false_iff_eq.mpr c6
   clear c6
   obtain rfl := Option.some.inj H
   have p258 : 0 ≤ (x9_1 : Int) := of_decide_eq_true am
   have q258 : x9_1 < (l0.length : Int) := of_decide_eq_true am
   obtain ⟨ad258, e258, hx258_0⟩ := Kd.at_int HR0.out x9_1 p258 q258
   cases e258
   replace p258 := eq_true p258
   replace q258 := eq_true q258
   go_wp2
   go_ret
   exact ⟨rq2, kd⟩
  rw [if_neg c6] at H
  have c6b0 : ((rd l0 x9_1) == a1) = false := beq_eq_false_iff_ne.mpr c6
  have c6b1 : ((rd l0 x9_1) != a1) = true := bne_iff_ne.mpr c6
  have H' := Az.mk H
  clear H
  have p258 : 0 ≤ (x9_1 : Int) := of_decide_eq_true am
  have q258 : x9_1 < (l0.length : Int) := of_decide_eq_true am
  obtain ⟨ad258, e258, hx258_0⟩ := Kd.at_int HR0.out x9_1 p258 q258
  cases e258
  replace p258 := eq_true p258
  replace q258 := eq_true q258
  go_wp2
  go_roundg k1
  case measure => have := HK1.out; omega
  case rel => exact ⟨(wrap64 (x9_1 + 1)), rq2, H', ⟨by have := HK1.out; omega⟩, kd⟩

end Go.Proofs.Ytkmjcdlhlhefdaa.P
