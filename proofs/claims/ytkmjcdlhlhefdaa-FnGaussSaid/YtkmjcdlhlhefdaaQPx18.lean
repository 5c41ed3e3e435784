-- By this session's driver (wip/tools/mk.py) of the kit's print program, over several statements at once. Not trusted: Lean checks it.
import Derived.Test.YtkmjcdlhlhefdaaQWZip
import Derived.Test.YtkmjcdlhlhefdaaQPx0
import Derived.Test.YtkmjcdlhlhefdaaQPx5
import Derived.Test.YtkmjcdlhlhefdaaQPx15
import Derived.Test.YtkmjcdlhlhefdaaQPx17
namespace Go.Proofs.Ytkmjcdlhlhefdaa.P
open Go.RowKit Go.Proofs.YtkmjcdlhlhefdaaW.PrintWords Go.Proofs.YtkmjcdlhlhefdaaW.PrintLast Go.Proofs.YtkmjcdlhlhefdaaW.PrintMore
attribute [local go_sem] max2_int min2_int max_two min_two max_three min_three max_four min_four   -- for this text's walks alone
set_option linter.unusedVariables false
set_option linter.unusedSimpArgs false

theorem bw_18 {n : Nat} {v v' : World} (h : Below n v v' := by repeat (first | (with_reducible first | exact HB.out | apply bwA | apply pbN | apply bwD) | exact HB.out)) : Below n v v' := h

theorem ln_18 {P : Prop} (h : P := by (try simp only [List.map_toArray, List.map_cons, List.map_nil]); first | done | rfl | (simp only [List.length_drop, List.length_take]; rfl)) : P := h

/-! ### impl_DropLoops: function 15 -/
mutual
def impl_DropLoops.l0 : Nat → List Int → Bool → Option (List Int)
 | 0, _, _ => none
 | k + 1, x3, x4 => if x4 = true then (impl_DropLoops.l1 k x3 false 0) else (some x3)
def impl_DropLoops.l1 : Nat → List Int → Bool → Int → Option (List Int)
 | 0, _, _, _ => none
 | k + 1, x3, x4, x5 => if x5 < (x3.length : Int) then (if x4 = true then (impl_DropLoops.j2 k x3 x4 x5 false) else (impl_DropLoops.j2 k x3 x4 x5 (decide ((x3.length : Int) > 2)))) else (impl_DropLoops.j2 k x3 x4 x5 false)
def impl_DropLoops.j2 : Nat → List Int → Bool → Int → Bool → Option (List Int)
 | 0, _, _, _, _ => none
 | k + 1, x3, x4, x5, x25 => if x25 = true then (if 0 ≤ x5 then (if x5 < (x3.length : Int) then (if (x3.length : Int) = 0 then (none) else (if 0 ≤ (Int.tmod (wrap64 (x5 + 1)) (x3.length : Int)) then (if (Int.tmod (wrap64 (x5 + 1)) (x3.length : Int)) < (x3.length : Int) then (if (rd x3 x5) = (rd x3 (Int.tmod (wrap64 (x5 + 1)) (x3.length : Int))) then ((impl_DropCrossing.f k x3 (rd x3 x5)).bind fun bt443 => (impl_DropLoops.l1 k bt443.1 true (wrap64 (x5 + 1)))) else (impl_DropLoops.l1 k x3 x4 (wrap64 (x5 + 1)))) else (none)) else (none))) else (none)) else (none)) else (impl_DropLoops.l0 k x3 x4)
end
def impl_DropLoops.f (k : Nat) (l0 : List Int) : Option (List Int) := (impl_IsCrossingWord.f k l0).bind fun t437 => (if t437 = true then ((impl_copyOf.f l0).bind fun t438 => (impl_DropLoops.l0 k t438 true)) else (some ([] : List Int)))
set_option maxHeartbeats 8000000 in
set_option maxRecDepth 100000 in
theorem impl_DropLoops.calls (k : Nat) (A0 : Option Addr) (c0 : Nat) (l0 : List Int) (r : List Int) (w : World) (hr0 : Kd.C (Kd.int .i64) w A0 l0.length l0) (hc0 : l0.length ≤ c0) (h : impl_DropLoops.f k l0 = some r) :
  Calls Try.prog 15 #[.slice A0 l0.length c0] w fun e w' => ∃ v0_ : Value, e = .returned (v0_) ∧ Kd.R (Kd.int .i64) 3 w' w.heap.size (fun _ => True) v0_ r ∧ Below w.heap.size w w' := by
 have HR0 := Az.mk hr0
 have HC0 := Az.mk hc0
 clear hr0 hc0
 have HB := Az.mk (Below.refl w.heap.size w)
 have H : ((impl_IsCrossingWord.f k l0).bind fun t437 => (if t437 = true then ((impl_copyOf.f l0).bind fun t438 => (impl_DropLoops.l0 k t438 true)) else (some ([] : List Int)))) = some r := h
 clear h
 replace H := bez H
 obtain ⟨t437, A2, H⟩ := H
 try dsimp only at H
 by_cases c3 : t437 = true
 rotate_left
 ·replace c3 := Bool.eq_false_iff.mpr c3
  subst c3
  rw [if_neg ff] at H
  obtain rfl := Option.some.inj H
  go_enter Try.func15, Try.ntmps15
  go_wp2_with (first | ((with_reducible refine gtC (f := 22) rfl ?_); refine clz Try.func22 (some 8) #[.slice A0 l0.length c0] ?_; (with_reducible refine (impl_IsCrossingWord.calls k _ _ l0 false _ ?side1 ?side2 A2.out).mono ?_); (case side1 => exact kC HR0.out); (case side2 => exact HC0.out); rintro e w26 ⟨rfl, hb⟩; refine ⟨_, rfl, ?_⟩; replace HB := Az.mk (bwT bw_18 hb); (try clear hb)))
  go_ret
  exact ⟨_, rq1, by first | exact Kd.R_nil _ _ _ _ _ | exact Kd.N_nil _ _ _ _ _ | exact Kd.V_nil _ _ _ _ _ | exact Kd.Q_nil _ _ _ _ _ | exact Kd.S_nil _ _ _ _ _, bw_18⟩
 subst c3
 rw [if_pos rfl] at H
 replace H := bez H
 obtain ⟨t438, A4, H⟩ := H
 try dsimp only at H
 have H' := Az.mk H
 clear H
 go_enter Try.func15, Try.ntmps15
 go_wp2_with (first | ((with_reducible refine gtC (f := 22) rfl ?_); refine clz Try.func22 (some 8) #[.slice A0 l0.length c0] ?_; (with_reducible refine (impl_IsCrossingWord.calls k _ _ l0 true _ ?side1 ?side2 A2.out).mono ?_); (case side1 => exact kC HR0.out); (case side2 => exact HC0.out); rintro e w5 ⟨rfl, hb⟩; refine ⟨_, rfl, ?_⟩; replace HB := Az.mk (bwT bw_18 hb); (try clear hb)) | ((with_reducible refine gtC (f := 44) rfl ?_); refine clz Try.func44 (some 11) #[.slice A0 l0.length c0] ?_; (with_reducible refine (impl_copyOf.calls _ _ l0 t438 _ ?side1 ?side2 A4.out).mono ?_); (case side1 => exact kC (Kd.C_below HR0.out HB.out)); (case side2 => exact HC0.out); rintro e w6 ⟨v439, rfl, ho0, hb⟩; refine ⟨_, rfl, ?_⟩; have HO440 := Az.mk (Kd.R_lower ho0 (bwZ bw_18)); replace HB := Az.mk (bwT bw_18 hb); (try clear hb); (try clear ho0)))
 go_loopg [3, 4] k (fun kq v3 v4 w' => ∃ (x3_1 : List Int) (x4_1 : Bool), v4 = .bool x4_1 ∧ Az (impl_DropLoops.l0 kq x3_1 x4_1 = some r) ∧ Az (kq ≤ k) ∧ Az (Kd.R (Kd.int .i64) 3 w' w.heap.size (fun _ => True) v3 x3_1) ∧ Az (Below w.heap.size w w'))
 case atStart => exact ⟨(t438), (true), rq2, H', ⟨Nat.le_refl _⟩, ⟨kR HO440.out⟩, ⟨bw_18⟩⟩
 clear H'
 try clear c3
 obtain ⟨x3_1, x4_1, rfl, HA, HK1, HO_3, HB⟩ := hrel
 cases gk with
 | zero => exact absurd HA.out (by simp [impl_DropLoops.l0])
 | succ k1 =>
  have H := HA.out
  clear HA
  simp only [impl_DropLoops.l0] at H
  by_cases c7 : x4_1 = true
  rotate_left
  ·replace c7 := Bool.eq_false_iff.mpr c7
   subst c7
   rw [if_neg ff] at H
   obtain rfl := Option.some.inj H
   go_wp2
   go_ret
   exact ⟨_, rq1, kR HO_3.out, bw_18⟩
  subst c7
  rw [if_pos rfl] at H
  have H' := Az.mk H
  clear H
  go_wp2
  go_loopg [3, 4, 5] k1 (fun kq v3 v4 v5 w' => ∃ (x3_2 : List Int) (x4_2 : Bool) (x5_2 : Int), v4 = .bool x4_2 ∧ v5 = .int .i64 x5_2 ∧ Az (impl_DropLoops.l1 kq x3_2 x4_2 x5_2 = some r) ∧ Az (kq ≤ k1) ∧ Az (Kd.R (Kd.int .i64) 3 w' w.heap.size (fun _ => True) v3 x3_2) ∧ Az (Below w.heap.size w w'))
  case atStart => exact ⟨(x3_1), (false), (0), rq2, rq2, H', ⟨Nat.le_refl _⟩, ⟨kR HO_3.out⟩, ⟨bw_18⟩⟩
  clear H'
  try clear c3
  try clear c7
  obtain ⟨x3_2, x4_2, x5_2, rfl, rfl, HA, HK2, HO_3, HB⟩ := hrel
  cases gk with
  | zero => exact absurd HA.out (by simp [impl_DropLoops.l1])
  | succ k2 =>
   have H := HA.out
   clear HA
   simp only [impl_DropLoops.l1] at H
   have HC8 := Az.mk H
   clear H
   go_upto_region 8 with (fail)
   go_cut [25] (fun v25 wc => ∃ (kq : Nat) (x25_7 : Bool), v25 = .bool x25_7 ∧ Az (impl_DropLoops.j2 kq x3_2 x4_2 x5_2 x25_7 = some r) ∧ Az (kq ≤ k2) ∧ Az (Kd.R (Kd.int .i64) 3 wc w.heap.size (fun _ => True) u3 x3_2) ∧ Az (Below w.heap.size w wc))
   case first =>
    have H := HC8.out
    clear HC8
    by_cases c9 : x5_2 < (x3_2.length : Int)
    rotate_left
    ·rw [if_neg c9] at H
     have c9b0 : decide (x5_2 < (x3_2.length : Int)) = false := decide_eq_false c9
     clear c9
     (first | rw [c9b0] | (simp only [i64_w, i32_w]; rw [c9b0]) | skip)
     have H' := Az.mk H
     clear H
     obtain ⟨Ao13, co13, eo13⟩ := Kd.R_slice HO_3.out
     subst eo13
     go_wp2
     go_meet
     case rel => exact ⟨_, (false), rq2, H', ⟨by have := HK1.out; have := HK2.out; first | omega | exact Nat.le_refl _⟩, ⟨kR HO_3.out⟩, ⟨bw_18⟩⟩
    rw [if_pos c9] at H
    have c9b0 : decide (x5_2 < (x3_2.length : Int)) = true := decide_eq_true c9
    clear c9
    (first | rw [c9b0] | (simp only [i64_w, i32_w]; rw [c9b0]) | skip)
    by_cases c10 : x4_2 = true
    ·subst c10
     rw [if_pos rfl] at H
     have H' := Az.mk H
     clear H
     obtain ⟨Ao11, co11, eo11⟩ := Kd.R_slice HO_3.out
     subst eo11
     go_wp2
     go_meet
     case rel => exact ⟨_, (false), rq2, H', ⟨by have := HK1.out; have := HK2.out; first | omega | exact Nat.le_refl _⟩, ⟨kR HO_3.out⟩, ⟨bw_18⟩⟩
    replace c10 := Bool.eq_false_iff.mpr c10
    subst c10
    rw [if_neg ff] at H
    have H' := Az.mk H
    clear H
    obtain ⟨Ao12, co12, eo12⟩ := Kd.R_slice HO_3.out
    subst eo12
    go_wp2
    go_meet
    case rel => exact ⟨_, (decide ((x3_2.length : Int) > 2)), rq2, H', ⟨by have := HK1.out; have := HK2.out; first | omega | exact Nat.le_refl _⟩, ⟨kR HO_3.out⟩, ⟨bw_18⟩⟩
   clear HC8
   try clear c3
   try clear c7
   try clear c9
   try clear c9b0
   try clear c10
   obtain ⟨kq, x25_7, rfl, HA, HJ7, HO_3, HB⟩ := hcut
   cases kq with
   | zero => exact absurd HA.out (by simp [impl_DropLoops.j2])
   | succ kj7 =>
    have H := HA.out
    clear HA
    simp only [impl_DropLoops.j2] at H
    by_cases c14 : x25_7 = true
    rotate_left
    ·replace c14 := Bool.eq_false_iff.mpr c14
     subst c14
     rw [if_neg ff] at H
     have H' := Az.mk H
     clear H
     go_wp2
     go_roundg kj7
     case measure => have := HK1.out; have := HK2.out; have := HJ7.out; omega
     case rel => exact ⟨(x3_2), (x4_2), rq2, H', ⟨by have := HK1.out; have := HK2.out; have := HJ7.out; omega⟩, ⟨kR HO_3.out⟩, ⟨bw_18⟩⟩
    subst c14
    rw [if_pos rfl] at H
    by_cases c15 : 0 ≤ x5_2
    rotate_left
    ·rw [if_neg c15] at H
     exact absurd H (by simp)
    rw [if_pos c15] at H
    have c15b0 : decide (0 ≤ x5_2) = true := decide_eq_true c15
    clear c15
    by_cases c16 : x5_2 < (x3_2.length : Int)
    rotate_left
    ·rw [if_neg c16] at H
     exact absurd H (by simp)
    rw [if_pos c16] at H
    have c16b0 : decide (x5_2 < (x3_2.length : Int)) = true := decide_eq_true c16
    clear c16
    by_cases c17 : (x3_2.length : Int) = 0
    ·rw [if_pos c17] at H
     exact absurd H (by simp)
    rw [if_neg c17] at H
    have c17b0 : ((x3_2.length : Int) == 0) = false := beq_eq_false_iff_ne.mpr c17
    have c17b1 : ((x3_2.length : Int) != 0) = true := bne_iff_ne.mpr c17
    have c17b2 : ¬ (x3_2 = []) := fun h_ => c17 (by rw [h_]; rfl)
    obtain ⟨ji18, hji18⟩ : ∃ j_ : Int, (Int.tmod (wrap64 (x5_2 + 1)) (x3_2.length : Int)) = j_ := ⟨_, rfl⟩
    replace H : (if 0 ≤ (ji18) then (if (ji18) < (x3_2.length : Int) then (if (rd x3_2 x5_2) = (rd x3_2 (ji18)) then ((impl_DropCrossing.f kj7 x3_2 (rd x3_2 x5_2)).bind fun bt443 => (impl_DropLoops.l1 kj7 bt443.1 true (wrap64 (x5_2 + 1)))) else (impl_DropLoops.l1 kj7 x3_2 x4_2 (wrap64 (x5_2 + 1)))) else (none)) else (none)) = some r := by first | (rw [hji18] at H; exact H) | (simp only [hji18] at H ⊢; exact H)
    by_cases c19 : 0 ≤ (ji18)
    rotate_left
    ·rw [if_neg c19] at H
     exact absurd H (by simp)
    rw [if_pos c19] at H
    have c19b0 : decide (0 ≤ (ji18)) = true := decide_eq_true c19
    clear c19
    by_cases c20 : (ji18) < (x3_2.length : Int)
    rotate_left
    ·rw [if_neg c20] at H
     exact absurd H (by simp)
    rw [if_pos c20] at H
    have c20b0 : decide ((ji18) < (x3_2.length : Int)) = true := decide_eq_true c20
    clear c20
    by_cases c21 : (rd x3_2 x5_2) = (rd x3_2 (ji18))
    rotate_left
    ·rw [if_neg c21] at H
     have c21b0 : ((rd x3_2 x5_2) == (rd x3_2 (ji18))) = false := beq_eq_false_iff_ne.mpr c21
     have c21b1 : ((rd x3_2 x5_2) != (rd x3_2 (ji18))) = true := bne_iff_ne.mpr c21
     have H' := Az.mk H
     clear H
     obtain ⟨Ao25, co25, eo25⟩ := Kd.R_slice HO_3.out
     subst eo25
     have p441 : 0 ≤ (x5_2 : Int) := of_decide_eq_true am
     have q441 : x5_2 < (x3_2.length : Int) := of_decide_eq_true am
     obtain ⟨ad441, e441, hx441_0⟩ := Kd.at_int (Kd.R_reads' HO_3.out).2.2 x5_2 p441 q441
     cases e441
     replace p441 := eq_true p441
     replace q441 := eq_true q441
     have p442 : 0 ≤ ((ji18) : Int) := of_decide_eq_true am
     have q442 : (ji18) < (x3_2.length : Int) := of_decide_eq_true am
     obtain ⟨ad442, e442, hx442_0⟩ := Kd.at_int (Kd.R_reads' HO_3.out).2.2 (ji18) p442 q442
     obtain rfl : ad441 = ad442 := (by injection e442)
     replace p442 := eq_true p442
     replace q442 := eq_true q442
     go_wp2
     go_roundg kj7
     case measure => have := HK1.out; have := HK2.out; have := HJ7.out; omega
     case rel => exact ⟨(x3_2), (x4_2), (wrap64 (x5_2 + 1)), rq2, rq2, H', ⟨by have := HK1.out; have := HK2.out; have := HJ7.out; omega⟩, ⟨kR HO_3.out⟩, ⟨bw_18⟩⟩
    rw [if_pos c21] at H
    have c21b0 : ((rd x3_2 x5_2) == (rd x3_2 (ji18))) = true := beq_iff_eq.mpr c21
    have c21b1 : ((rd x3_2 x5_2) != (rd x3_2 (ji18))) = false := bne_eq_false_iff_eq.mpr c21
    clear c21
    replace H := bez H
    obtain ⟨⟨t443, t444⟩, A22, H⟩ := H
    try dsimp only at H
    have H' := Az.mk H
    clear H
    obtain ⟨Ao23, co23, eo23⟩ := Kd.R_slice HO_3.out
    subst eo23
    have p441 : 0 ≤ (x5_2 : Int) := of_decide_eq_true am
    have q441 : x5_2 < (x3_2.length : Int) := of_decide_eq_true am
    obtain ⟨ad441, e441, hx441_0⟩ := Kd.at_int (Kd.R_reads' HO_3.out).2.2 x5_2 p441 q441
    cases e441
    replace p441 := eq_true p441
    replace q441 := eq_true q441
    have p442 : 0 ≤ ((ji18) : Int) := of_decide_eq_true am
    have q442 : (ji18) < (x3_2.length : Int) := of_decide_eq_true am
    obtain ⟨ad442, e442, hx442_0⟩ := Kd.at_int (Kd.R_reads' HO_3.out).2.2 (ji18) p442 q442
    obtain rfl : ad441 = ad442 := (by injection e442)
    replace p442 := eq_true p442
    replace q442 := eq_true q442
    go_wp2_with (first | ((with_reducible refine gtC (f := 12) rfl ?_); refine clz Try.func12 (some 45) #[.slice (some ad441) x3_2.length co23, .int .i64 (rd x3_2 x5_2)] ?_; (with_reducible refine (impl_DropCrossing.calls kj7 _ _ x3_2 (rd x3_2 x5_2) t443 t444 _ ?side1 ?side2 A22.out).mono ?_); (case side1 => exact kC (Kd.R_reads' HO_3.out).2.2); (case side2 => exact (Kd.R_reads' HO_3.out).2.1); rintro e w24 ⟨v445, rfl, ho0, hb⟩; refine ⟨_, rfl, ?_⟩; have HO446 := Az.mk (Kd.R_lower (Kd.R_new' ho0 (Kd.R_lt (kR HO_3.out))) (bwZ bw_18)); replace HO_3 := Az.mk (Kd.R_elder' (kR HO_3.out) (Kd.R_base ho0) hb); replace HB := Az.mk (bwT bw_18 hb); (try clear hb); (try clear ho0)))
    go_roundg kj7
    case measure => have := HK1.out; have := HK2.out; have := HJ7.out; omega
    case rel => exact ⟨(t443), (true), (wrap64 (x5_2 + 1)), rq2, rq2, H', ⟨by have := HK1.out; have := HK2.out; have := HJ7.out; omega⟩, ⟨by (with_reducible repeat (first | apply Kd.R_alloc | apply Kd.R_drewN | apply Kd.R_drew)); exact Kd.R_mono HO446.out (fun _ hk => trivial)⟩, ⟨bw_18⟩⟩

/-! ### spec_l1Min: function 45 -/
def spec_l1Min.f (a0 : Int) (a1 : Int) : Option (Int) := if a0 < a1 then (some a0) else (some a1)
set_option maxHeartbeats 8000000 in
set_option maxRecDepth 100000 in
theorem spec_l1Min.calls (a0 : Int) (a1 : Int) (r : Int) (w : World) (h : spec_l1Min.f a0 a1 = some r) :
  Calls Try.prog 45 #[.int .i64 a0, .int .i64 a1] w fun e w' => e = .returned (.int .i64 r) ∧ Drawn0 w w' := by
 have H : (if a0 < a1 then (some a0) else (some a1)) = some r := h
 clear h
 by_cases c3 : a0 < a1
 ·rw [if_pos c3] at H
  have c3b0 : decide (a0 < a1) = true := decide_eq_true c3
  clear c3
  obtain rfl := Option.some.inj H
  go_enter Try.func45, Try.ntmps45
  go_wp2
  go_ret
  exact ⟨rq2, kd⟩
 rw [if_neg c3] at H
 have c3b0 : decide (a0 < a1) = false := decide_eq_false c3
 clear c3
 obtain rfl := Option.some.inj H
 go_enter Try.func45, Try.ntmps45
 go_wp2
 go_ret
 exact ⟨rq2, kd⟩

end Go.Proofs.Ytkmjcdlhlhefdaa.P
