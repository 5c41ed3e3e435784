-- By this session's driver (wip/tools/mk.py) of the kit's print program, over several statements at once. Not trusted: Lean checks it.
import Derived.Test.YtkmjcdlhlhefdaaQWZip
import Derived.Test.YtkmjcdlhlhefdaaQPx0
import Derived.Test.YtkmjcdlhlhefdaaQPx12
import Derived.Test.YtkmjcdlhlhefdaaQPx14
import Derived.Test.YtkmjcdlhlhefdaaQPx18
import Derived.Test.YtkmjcdlhlhefdaaQPx19
import Derived.Test.YtkmjcdlhlhefdaaQPx20
namespace Go.Proofs.Ytkmjcdlhlhefdaa.P
open Go.RowKit Go.Proofs.YtkmjcdlhlhefdaaW.PrintWords Go.Proofs.YtkmjcdlhlhefdaaW.PrintLast Go.Proofs.YtkmjcdlhlhefdaaW.PrintMore
attribute [local go_sem] max2_int min2_int max_two min_two max_three min_three max_four min_four   -- for this text's walks alone
set_option linter.unusedVariables false
set_option linter.unusedSimpArgs false

theorem bw_21 {n : Nat} {v v' : World} (h : Below n v v' := by repeat (first | (with_reducible first | exact HB.out | apply bwA | apply pbN | apply bwD) | exact HB.out)) : Below n v v' := h

theorem ln_21 {P : Prop} (h : P := by (try simp only [List.map_toArray, List.map_cons, List.map_nil]); first | done | rfl | (simp only [List.length_drop, List.length_take]; rfl)) : P := h
open Option renaming bind_eq_some_iff → be

/-! ### spec_l6Dual: function 66 -/
def spec_l6Dual.l0 : Nat → List Int → List Int → Int → Option (List Int)
 | 0, _, _, _ => none
 | k + 1, x0, x3, x4 => if x4 < (x0.length : Int) then ((spec_l6Mate.f x4).bind fun t487 => (if 0 ≤ t487 then (if t487 < (x0.length : Int) then (if x3.length < 17592186044416 then (spec_l6Dual.l0 k x0 (x3 ++ [rd x0 t487]) (wrap64 (x4 + 1))) else (none)) else (none)) else (none))) else (some x3)
def spec_l6Dual.f (k : Nat) (l0 : List Int) : Option (List Int) := spec_l6Dual.l0 k l0 (([] : List Int)) 0
set_option maxHeartbeats 8000000 in
set_option maxRecDepth 100000 in
theorem spec_l6Dual.calls (k : Nat) (A0 : Option Addr) (c0 : Nat) (l0 : List Int) (r : List Int) (w : World) (hr0 : Kd.C (Kd.int .i64) w A0 l0.length l0) (hc0 : l0.length ≤ c0) (h : spec_l6Dual.f k l0 = some r) :
  Calls Try.prog 66 #[.slice A0 l0.length c0] w fun e w' => ∃ v0_ : Value, e = .returned (v0_) ∧ Kd.R (Kd.int .i64) 3 w' w.heap.size (fun _ => True) v0_ r ∧ Below w.heap.size w w' := by
 have HR0 := Az.mk hr0
 have HC0 := Az.mk hc0
 clear hr0 hc0
 have HB := Az.mk (Below.refl w.heap.size w)
 have H : (spec_l6Dual.l0 k l0 (([] : List Int)) 0) = some r := h
 clear h
 obtain ⟨y484, hy⟩ : ∃ y_ : List Int, y_ = (([] : List Int)) := ⟨_, rfl⟩
 replace H : (spec_l6Dual.l0 k l0 y484 0) = some r := rh
 have Ny484 := Az.mk hy
 clear hy
 have H' := Az.mk H
 clear H
 go_enter Try.func66, Try.ntmps66
 go_wp2_with (first | ((with_reducible refine gtD (N := 5) rfl ?_); refine Kd.R_lit (Kd.int .i64) _ 3 ?hg (N := 5) ?hd (xs := ([] : List Int)) (inner := []) (ok := fun _ => True) (okp := fun _ => True) ?hr ?hp (fun _ hk => hk) trivial (Below.refl _ _) (Nat.le_refl _) (by simp) ?_; (case hd => rfl); (case hg => rfl); (case hr => first | (go_simp; done) | (go_simp; rfl)); (case hp => exact (Reps.none _ _)); intro v485 w2 ho3 hb hg_ hnew_; clear hg_ hnew_; (first | rw [← Ny484.out] at ho3 | (simp only [Int.reduceToNat] at ho3; rw [← Ny484.out] at ho3)); have HO486 := Az.mk (Kd.R_lower ho3 (bwZ bw_21)); replace HB := Az.mk (bwT bw_21 hb); clear hb ho3))
 go_loopg [3, 4] k (fun kq v3 v4 w' => ∃ (x3_1 : List Int) (x4_1 : Int), v4 = .int .i64 x4_1 ∧ Az (spec_l6Dual.l0 kq l0 x3_1 x4_1 = some r) ∧ Az (kq ≤ k) ∧ Az (Kd.R (Kd.int .i64) 3 w' w.heap.size (fun _ => True) v3 x3_1) ∧ Az (Below w.heap.size w w'))
 case atStart => exact ⟨(y484), (0), rq2, H', ⟨Nat.le_refl _⟩, ⟨kR HO486.out⟩, ⟨bw_21⟩⟩
 clear H'
 obtain ⟨x3_1, x4_1, rfl, HA, HK1, HO_3, HB⟩ := hrel
 cases gk with
 | zero => exact absurd HA.out (by simp [spec_l6Dual.l0])
 | succ k1 =>
  have H := HA.out
  clear HA
  simp only [spec_l6Dual.l0] at H
  by_cases c4 : x4_1 < (l0.length : Int)
  rotate_left
  ·rw [if_neg c4] at H
   have c4b0 : decide (x4_1 < (l0.length : Int)) = false := decide_eq_false c4
   clear c4
   obtain rfl := Option.some.inj H
   go_wp2
   go_ret
   exact ⟨_, rq1, kR HO_3.out, bw_21⟩
  rw [if_pos c4] at H
  have c4b0 : decide (x4_1 < (l0.length : Int)) = true := decide_eq_true c4
  clear c4
  replace H := bez H
  obtain ⟨t487, A5, H⟩ := H
  try dsimp only at H
  by_cases c6 : 0 ≤ t487
  rotate_left
  ·rw [if_neg c6] at H
   exact absurd H (by simp)
  rw [if_pos c6] at H
  have c6b0 : decide (0 ≤ t487) = true := decide_eq_true c6
  clear c6
  by_cases c7 : t487 < (l0.length : Int)
  rotate_left
  ·rw [if_neg c7] at H
   exact absurd H (by simp)
  rw [if_pos c7] at H
  have c7b0 : decide (t487 < (l0.length : Int)) = true := decide_eq_true c7
  clear c7
  by_cases c8 : x3_1.length < 17592186044416
  rotate_left
  ·rw [if_neg c8] at H
   exact absurd H (by simp)
  rw [if_pos c8] at H
  have LMc8 := Az.mk c8
  clear c8
  obtain ⟨y489, hy⟩ : ∃ y_ : List Int, y_ = (x3_1 ++ [rd l0 t487]) := ⟨_, rfl⟩
  replace H : (spec_l6Dual.l0 k1 l0 y489 (wrap64 (x4_1 + 1))) = some r := rh
  have Ny489 := Az.mk hy
  clear hy
  have H' := Az.mk H
  clear H
  go_wp2_with (first | ((with_reducible refine gtC (f := 71) rfl ?_); refine clz Try.func71 (some 15) #[.int .i64 x4_1] ?_; (with_reducible refine (spec_l6Mate.calls x4_1 t487 _ A5.out).mono ?_); rintro e w' ⟨rfl, ⟨nd, rfl⟩⟩; refine ⟨_, rfl, ?_⟩; have p488 : 0 ≤ (t487 : Int) := of_decide_eq_true am; have q488 : t487 < (l0.length : Int) := of_decide_eq_true am; obtain ⟨ad488, e488, hx488_0⟩ := Kd.at_int HR0.out t487 p488 q488; cases e488; replace hx488_0 := kc HB hx488_0; replace p488 := eq_true p488; replace q488 := eq_true q488) | ((with_reducible refine gate_builtin (b := .append) (xs := #[.tmp 12, .tmp 18]) rfl ?_); at_builtin; refine Kd.R_append (Kd.int .i64) (w0 := w) w.heap.size rfl (.tmp 12) (.tmp 18) 24 3 (.int .i64 0) 8 rfl Try.underlying24 info3 rfl (by decide) (by omega) u3 x3_1 (rd l0 t487) [.int .i64 (rd l0 t487)] (fun _ => True) (fun _ => False) rfl rfl ?aP (fun _ hk => hk.elim) ?aF ?aO ?aB ?aS ?aL ?_; (case aP => exact rfl); (case aB => exact bw_21); (case aF => exact (fun _ _ => trivial)); (case aO => exact (kR HO_3.out)); (case aS => exact (bwZ bw_21)); (case aL => have := LMc8.out; omega); intro v490 w9 ho hb hg hat; rw [← Ny489.out] at ho; have n0_ := Az.mk (hb); have n1_ := Az.mk (ho); clear HB; clear HO_3; have HB := n0_; have HO491 := n1_; clear n0_ n1_; clear ho hb hg hat))
  go_roundg k1
  case measure => have := HK1.out; omega
  case rel => exact ⟨(y489), (wrap64 (x4_1 + 1)), rq2, H', ⟨by have := HK1.out; omega⟩, ⟨kR HO491.out⟩, ⟨bw_21⟩⟩

/-! ### spec_l6Genus: function 46 -/
def spec_l6Genus.f (k : Nat) (l0 : List Int) : Option (Int) := (spec_l6Parts.f k l0).bind fun t492 => ((spec_l6Cycles.f k l0).bind fun t493 => ((spec_l6Dual.f k l0).bind fun t496 => ((spec_l6Cycles.f k t496).bind fun t499 => (some (wrap64 (t492 - (wrap64 (Int.tdiv (wrap64 ((wrap64 ((t493.length : Int) - (wrap64 ((l0.length : Int) / 2)))) + (t499.length : Int))) 2))))))))
set_option maxHeartbeats 8000000 in
set_option maxRecDepth 100000 in
theorem spec_l6Genus.calls (k : Nat) (A0 : Option Addr) (c0 : Nat) (l0 : List Int) (r : Int) (w : World) (hr0 : Kd.C (Kd.int .i64) w A0 l0.length l0) (hc0 : l0.length ≤ c0) (h : spec_l6Genus.f k l0 = some r) :
  Calls Try.prog 46 #[.slice A0 l0.length c0] w fun e w' => e = .returned (.int .i64 r) ∧ Below w.heap.size w w' := by
 have HR0 := Az.mk hr0
 have HC0 := Az.mk hc0
 clear hr0 hc0
 have HB := Az.mk (Below.refl w.heap.size w)
 have H : ((spec_l6Parts.f k l0).bind fun t492 => ((spec_l6Cycles.f k l0).bind fun t493 => ((spec_l6Dual.f k l0).bind fun t496 => ((spec_l6Cycles.f k t496).bind fun t499 => (some (wrap64 (t492 - (wrap64 (Int.tdiv (wrap64 ((wrap64 ((t493.length : Int) - (wrap64 ((l0.length : Int) / 2)))) + (t499.length : Int))) 2))))))))) = some r := h
 clear h
 replace H := bez H
 obtain ⟨t492, A2, H⟩ := H
 try dsimp only at H
 replace H := bez H
 obtain ⟨t493, A3, H⟩ := H
 try dsimp only at H
 replace H := bez H
 obtain ⟨t496, A4, H⟩ := H
 try dsimp only at H
 replace H := bez H
 obtain ⟨t499, A5, H⟩ := H
 try dsimp only at H
 obtain rfl := Option.some.inj H
 go_enter Try.func46, Try.ntmps46
 go_wp2_with (first | ((with_reducible refine gtC (f := 54) rfl ?_); refine clz Try.func54 (some 4) #[.slice A0 l0.length c0] ?_; (with_reducible refine (spec_l6Parts.calls k _ _ l0 t492 _ ?side1 ?side2 A2.out).mono ?_); (case side1 => exact kC HR0.out); (case side2 => exact HC0.out); rintro e w6 ⟨rfl, hb⟩; refine ⟨_, rfl, ?_⟩; replace HB := Az.mk (bwT bw_21 hb); (try clear hb)) | ((with_reducible refine gtC (f := 53) rfl ?_); refine clz Try.func53 (some 6) #[.slice A0 l0.length c0] ?_; (with_reducible refine (spec_l6Cycles.calls k _ _ l0 t493 _ ?side1 ?side2 A3.out).mono ?_); (case side1 => exact kC (Kd.C_below HR0.out HB.out)); (case side2 => exact HC0.out); rintro e w7 ⟨v494, rfl, ho0, hb⟩; refine ⟨_, rfl, ?_⟩; have HO495 := Az.mk (Kd.S_lower ho0 (bwZ bw_21)); replace HB := Az.mk (bwT bw_21 hb); (try clear hb); (try clear ho0); obtain ⟨Ao8, co8, eo8⟩ := Kd.S_slice HO495.out; subst eo8) | ((with_reducible refine gtC (f := 66) rfl ?_); refine clz Try.func66 (some 13) #[.slice A0 l0.length c0] ?_; (with_reducible refine (spec_l6Dual.calls k _ _ l0 t496 _ ?side1 ?side2 A4.out).mono ?_); (case side1 => exact kC (Kd.C_below HR0.out HB.out)); (case side2 => exact HC0.out); rintro e w9 ⟨v497, rfl, ho0, hb⟩; refine ⟨_, rfl, ?_⟩; replace HO495 := Az.mk (Kd.S_elder' (kS HO495.out) (Kd.R_base ho0) hb); have HO498 := Az.mk (Kd.R_lower ho0 (bwZ bw_21)); replace HB := Az.mk (bwT bw_21 hb); (try clear hb); (try clear ho0); obtain ⟨Ao10, co10, eo10⟩ := Kd.R_slice HO498.out; subst eo10) | ((with_reducible refine gtC (f := 53) rfl ?_); refine clz Try.func53 (some 14) #[.slice Ao10 t496.length co10] ?_; (with_reducible refine (spec_l6Cycles.calls k _ _ t496 t499 _ ?side1 ?side2 A5.out).mono ?_); (case side1 => exact kC (Kd.R_reads' HO498.out).2.2); (case side2 => exact (Kd.R_reads' HO498.out).2.1); rintro e w11 ⟨v500, rfl, ho0, hb⟩; refine ⟨_, rfl, ?_⟩; have HO501 := Az.mk (Kd.S_lower (Kd.S_new' (Kd.S_new' ho0 (Kd.S_lt (kS HO495.out))) (Kd.R_lt (kR HO498.out))) (bwZ bw_21)); replace HO495 := Az.mk (Kd.S_elder' (kS HO495.out) (Kd.S_base ho0) hb); replace HO498 := Az.mk (Kd.R_below (kR HO498.out) hb); replace HB := Az.mk (bwT bw_21 hb); (try clear hb); (try clear ho0); obtain ⟨Ao12, co12, eo12⟩ := Kd.S_slice HO501.out; subst eo12))
 go_ret
 exact ⟨rq1, bw_21⟩

/-! ### spec_CurveGenus: function 16 -/
mutual
def spec_CurveGenus.l0 : Nat → List Int → Int → Int → Option (Int)
 | 0, _, _, _ => none
 | k + 1, x0, x3, x4 => if x4 < 256 then (spec_CurveGenus.l1 k x0 x3 x4 true 1) else (some x3)
def spec_CurveGenus.l1 : Nat → List Int → Int → Int → Bool → Int → Option (Int)
 | 0, _, _, _, _, _ => none
 | k + 1, x0, x3, x4, x5, x6 => if x6 ≤ 8 then (if x5 = true then (if 0 ≤ (IntKind.u64.wrap (wrap64 (x6 - 1))) then (if (Go.bits .and .i64 (shr .i64 x4 (IntKind.u64.wrap (wrap64 (x6 - 1)))) 1) = 0 then (spec_CurveGenus.l1 k x0 x3 x4 true (wrap64 (x6 + 1))) else ((spec_l5Count.f k x0 x6).bind fun t503 => (spec_CurveGenus.l1 k x0 x3 x4 (t503 == 2) (wrap64 (x6 + 1))))) else (none)) else (spec_CurveGenus.l1 k x0 x3 x4 false (wrap64 (x6 + 1)))) else (if x5 = true then ((spec_l18Map.f k x0 x4).bind fun t504 => ((spec_l6Genus.f k t504).bind fun t507 => ((spec_l1Min.f x3 t507).bind fun t508 => (spec_CurveGenus.l0 k x0 t508 (wrap64 (x4 + 1)))))) else (spec_CurveGenus.l0 k x0 x3 (wrap64 (x4 + 1))))
end
def spec_CurveGenus.f (k : Nat) (l0 : List Int) : Option (Int) := (spec_IsCrossingWord.f k l0).bind fun t502 => (if t502 = true then (spec_CurveGenus.l0 k l0 (l0.length : Int) 0) else (some (-1)))
set_option maxHeartbeats 8000000 in
set_option maxRecDepth 100000 in
theorem spec_CurveGenus.calls (k : Nat) (A0 : Option Addr) (c0 : Nat) (l0 : List Int) (r : Int) (w : World) (hr0 : Kd.C (Kd.int .i64) w A0 l0.length l0) (hc0 : l0.length ≤ c0) (h : spec_CurveGenus.f k l0 = some r) :
  Calls Try.prog 16 #[.slice A0 l0.length c0] w fun e w' => e = .returned (.int .i64 r) ∧ Below w.heap.size w w' := by
 have HR0 := Az.mk hr0
 have HC0 := Az.mk hc0
 clear hr0 hc0
 have HB := Az.mk (Below.refl w.heap.size w)
 have H : ((spec_IsCrossingWord.f k l0).bind fun t502 => (if t502 = true then (spec_CurveGenus.l0 k l0 (l0.length : Int) 0) else (some (-1)))) = some r := h
 clear h
 replace H := bez H
 obtain ⟨t502, A2, H⟩ := H
 try dsimp only at H
 by_cases c3 : t502 = true
 rotate_left
 ·replace c3 := Bool.eq_false_iff.mpr c3
  subst c3
  rw [if_neg ff] at H
  obtain rfl := Option.some.inj H
  go_enter Try.func16, Try.ntmps16
  go_wp2_with (first | ((with_reducible refine gtC (f := 23) rfl ?_); refine clz Try.func23 (some 8) #[.slice A0 l0.length c0] ?_; (with_reducible refine (spec_IsCrossingWord.calls k _ _ l0 false _ ?side1 ?side2 A2.out).mono ?_); (case side1 => exact kC HR0.out); (case side2 => exact HC0.out); rintro e w' ⟨rfl, ⟨nd, rfl⟩⟩; refine ⟨_, rfl, ?_⟩))
  go_ret
  exact ⟨rq1, bw_21⟩
 subst c3
 rw [if_pos rfl] at H
 have H' := Az.mk H
 clear H
 go_enter Try.func16, Try.ntmps16
 go_wp2_with (first | ((with_reducible refine gtC (f := 23) rfl ?_); refine clz Try.func23 (some 8) #[.slice A0 l0.length c0] ?_; (with_reducible refine (spec_IsCrossingWord.calls k _ _ l0 true _ ?side1 ?side2 A2.out).mono ?_); (case side1 => exact kC HR0.out); (case side2 => exact HC0.out); rintro e w' ⟨rfl, ⟨nd, rfl⟩⟩; refine ⟨_, rfl, ?_⟩))
 go_loopg [3, 4] k (fun kq v3 v4 w' => ∃ (x3_1 : Int) (x4_1 : Int), v3 = .int .i64 x3_1 ∧ v4 = .int .i64 x4_1 ∧ Az (spec_CurveGenus.l0 kq l0 x3_1 x4_1 = some r) ∧ Az (kq ≤ k) ∧ Az (Below w.heap.size w w'))
 case atStart => exact ⟨((l0.length : Int)), (0), rq2, rq2, H', ⟨Nat.le_refl _⟩, ⟨bw_21⟩⟩
 clear H'
 try clear c3
 obtain ⟨x3_1, x4_1, rfl, rfl, HA, HK1, HB⟩ := hrel
 cases gk with
 | zero => exact absurd HA.out (by simp [spec_CurveGenus.l0])
 | succ k1 =>
  have H := HA.out
  clear HA
  simp only [spec_CurveGenus.l0] at H
  by_cases c4 : x4_1 < 256
  rotate_left
  ·rw [if_neg c4] at H
   have c4b0 : decide (x4_1 < 256) = false := decide_eq_false c4
   clear c4
   obtain rfl := Option.some.inj H
   go_wp2
   go_ret
   exact ⟨rq1, bw_21⟩
  rw [if_pos c4] at H
  have c4b0 : decide (x4_1 < 256) = true := decide_eq_true c4
  clear c4
  have H' := Az.mk H
  clear H
  go_wp2
  go_loopg [5, 6] k1 (fun kq v5 v6 w' => ∃ (x5_2 : Bool) (x6_2 : Int), v5 = .bool x5_2 ∧ v6 = .int .i64 x6_2 ∧ Az (spec_CurveGenus.l1 kq l0 x3_1 x4_1 x5_2 x6_2 = some r) ∧ Az (kq ≤ k1) ∧ Az (Below w.heap.size w w'))
  case atStart => exact ⟨(true), (1), rq2, rq2, H', ⟨Nat.le_refl _⟩, ⟨bw_21⟩⟩
  clear H'
  try clear c3
  try clear c4
  try clear c4b0
  obtain ⟨x5_2, x6_2, rfl, rfl, HA, HK2, HB⟩ := hrel
  cases gk with
  | zero => exact absurd HA.out (by simp [spec_CurveGenus.l1])
  | succ k2 =>
   have H := HA.out
   clear HA
   simp only [spec_CurveGenus.l1] at H
   by_cases c5 : x6_2 ≤ 8
   rotate_left
   ·rw [if_neg c5] at H
    have c5b0 : decide (x6_2 ≤ 8) = false := decide_eq_false c5
    clear c5
    by_cases c12 : x5_2 = true
    rotate_left
    ·replace c12 := Bool.eq_false_iff.mpr c12
     subst c12
     rw [if_neg ff] at H
     have H' := Az.mk H
     clear H
     go_wp2
     go_roundg k2
     case measure => have := HK1.out; have := HK2.out; omega
     case rel => exact ⟨(x3_1), (wrap64 (x4_1 + 1)), rq2, rq2, H', ⟨by have := HK1.out; have := HK2.out; omega⟩, ⟨bw_21⟩⟩
    subst c12
    rw [if_pos rfl] at H
    replace H := bez H
    obtain ⟨t504, A13, H⟩ := H
    try dsimp only at H
    replace H := bez H
    obtain ⟨t507, A14, H⟩ := H
    try dsimp only at H
    replace H := bez H
    obtain ⟨t508, A15, H⟩ := H
    try dsimp only at H
    have H' := Az.mk H
    clear H
    go_wp2_with (first | ((with_reducible refine gtC (f := 38) rfl ?_); refine clz Try.func38 (some 40) #[.slice A0 l0.length c0, .int .i64 x4_1] ?_; (with_reducible refine (spec_l18Map.calls k2 _ _ l0 x4_1 t504 _ ?side1 ?side2 A13.out).mono ?_); (case side1 => exact kC (Kd.C_below HR0.out HB.out)); (case side2 => exact HC0.out); rintro e w16 ⟨v505, rfl, ho0, hb⟩; refine ⟨_, rfl, ?_⟩; have HO506 := Az.mk (Kd.R_lower ho0 (bwZ bw_21)); replace HB := Az.mk (bwT bw_21 hb); (try clear hb); (try clear ho0); obtain ⟨Ao17, co17, eo17⟩ := Kd.R_slice HO506.out; subst eo17) | ((with_reducible refine gtC (f := 46) rfl ?_); refine clz Try.func46 (some 41) #[.slice Ao17 t504.length co17] ?_; (with_reducible refine (spec_l6Genus.calls k2 _ _ t504 t507 _ ?side1 ?side2 A14.out).mono ?_); (case side1 => exact kC (Kd.R_reads' HO506.out).2.2); (case side2 => exact (Kd.R_reads' HO506.out).2.1); rintro e w18 ⟨rfl, hb⟩; refine ⟨_, rfl, ?_⟩; replace HO506 := Az.mk (Kd.R_below (kR HO506.out) hb); replace HB := Az.mk (bwT bw_21 hb); (try clear hb)) | ((with_reducible refine gtC (f := 45) rfl ?_); refine clz Try.func45 (some 42) #[.int .i64 x3_1, .int .i64 t507] ?_; (with_reducible refine (spec_l1Min.calls x3_1 t507 t508 _ A15.out).mono ?_); rintro e w' ⟨rfl, ⟨nd, rfl⟩⟩; refine ⟨_, rfl, ?_⟩))
    go_roundg k2
    case measure => have := HK1.out; have := HK2.out; omega
    case rel => exact ⟨(t508), (wrap64 (x4_1 + 1)), rq2, rq2, H', ⟨by have := HK1.out; have := HK2.out; omega⟩, ⟨bw_21⟩⟩
   rw [if_pos c5] at H
   have c5b0 : decide (x6_2 ≤ 8) = true := decide_eq_true c5
   clear c5
   by_cases c6 : x5_2 = true
   rotate_left
   ·replace c6 := Bool.eq_false_iff.mpr c6
    subst c6
    rw [if_neg ff] at H
    have H' := Az.mk H
    clear H
    go_wp2
    go_roundg k2
    case measure => have := HK1.out; have := HK2.out; omega
    case rel => exact ⟨(false), (wrap64 (x6_2 + 1)), rq2, rq2, H', ⟨by have := HK1.out; have := HK2.out; omega⟩, ⟨bw_21⟩⟩
   subst c6
   rw [if_pos rfl] at H
   obtain ⟨ji7, hji7⟩ : ∃ j_ : Int, (IntKind.u64.wrap (wrap64 (x6_2 - 1))) = j_ := ⟨_, rfl⟩
   replace H : (if 0 ≤ (ji7) then (if (Go.bits .and .i64 (shr .i64 x4_1 (ji7)) 1) = 0 then (spec_CurveGenus.l1 k2 l0 x3_1 x4_1 true (wrap64 (x6_2 + 1))) else ((spec_l5Count.f k2 l0 x6_2).bind fun t503 => (spec_CurveGenus.l1 k2 l0 x3_1 x4_1 (t503 == 2) (wrap64 (x6_2 + 1))))) else (none)) = some r := by first | (rw [hji7] at H; exact H) | (simp only [hji7] at H ⊢; exact H)
   by_cases c8 : 0 ≤ (ji7)
   rotate_left
   ·rw [if_neg c8] at H
    exact absurd H (by simp)
   rw [if_pos c8] at H
   have c8b0 := eq_true c8
   have c8b1 : decide (0 ≤ (ji7)) = true := decide_eq_true c8
   clear c8
   obtain ⟨ji9, hji9⟩ : ∃ j_ : Int, (shr .i64 x4_1 (ji7)) = j_ := ⟨_, rfl⟩
   replace H : (if (Go.bits .and .i64 (ji9) 1) = 0 then (spec_CurveGenus.l1 k2 l0 x3_1 x4_1 true (wrap64 (x6_2 + 1))) else ((spec_l5Count.f k2 l0 x6_2).bind fun t503 => (spec_CurveGenus.l1 k2 l0 x3_1 x4_1 (t503 == 2) (wrap64 (x6_2 + 1))))) = some r := by first | (rw [hji9] at H; exact H) | (simp only [hji9] at H ⊢; exact H)
   have hji9_ : (x4_1 / 2 ^ min (ji7).toNat 64) = ji9 := hji9
   have hji9z : (ji7) ≤ 64 → (x4_1 / 2 ^ (ji7).toNat) = ji9 := shr_small hji9
   by_cases c10 : (Go.bits .and .i64 (ji9) 1) = 0
   ·rw [if_pos c10] at H
    have c10b0 : ((Go.bits .and .i64 (ji9) 1) == 0) = true := beq_iff_eq.mpr c10
    have c10b1 : ((Go.bits .and .i64 (ji9) 1) != 0) = false := bne_eq_false_iff_eq.mpr c10
    clear c10
    have H' := Az.mk H
    clear H
    go_wp2
    go_roundg k2
    case measure => have := HK1.out; have := HK2.out; omega
    case rel => exact ⟨(true), (wrap64 (x6_2 + 1)), rq2, rq2, H', ⟨by have := HK1.out; have := HK2.out; omega⟩, ⟨bw_21⟩⟩
   rw [if_neg c10] at H
   have c10b0 : ((Go.bits .and .i64 (ji9) 1) == 0) = false := beq_eq_false_iff_ne.mpr c10
   have c10b1 : ((Go.bits .and .i64 (ji9) 1) != 0) = true := bne_iff_ne.mpr c10
   replace H := bez H
   obtain ⟨t503, A11, H⟩ := H
   try dsimp only at H
   have H' := Az.mk H
   clear H
   go_wp2_with (first | (go_at_call 40; (with_reducible refine (spec_l5Count.calls k2 _ _ l0 x6_2 t503 _ ?side1 ?side2 A11.out).mono ?_); (case side1 => exact kC (Kd.C_below HR0.out HB.out)); (case side2 => exact HC0.out); rintro e w' ⟨rfl, ⟨nd, rfl⟩⟩))
   go_roundg k2
   case measure => have := HK1.out; have := HK2.out; omega
   case rel => exact ⟨((t503 == 2)), (wrap64 (x6_2 + 1)), rq2, rq2, H', ⟨by have := HK1.out; have := HK2.out; omega⟩, ⟨bw_21⟩⟩

end Go.Proofs.Ytkmjcdlhlhefdaa.P
