-- By this session's driver (wip/tools/mk.py) of the kit's print program, over several statements at once. Not trusted: Lean checks it.
import Derived.Test.YtkmjcdlhlhefdaaQWZip
import Derived.Test.YtkmjcdlhlhefdaaQPx0
import Derived.Test.YtkmjcdlhlhefdaaQPx10
import Derived.Test.YtkmjcdlhlhefdaaQPx12
import Derived.Test.YtkmjcdlhlhefdaaQPx22
namespace Go.Proofs.Ytkmjcdlhlhefdaa.P
open Go.RowKit Go.Proofs.YtkmjcdlhlhefdaaW.PrintWords Go.Proofs.YtkmjcdlhlhefdaaW.PrintLast Go.Proofs.YtkmjcdlhlhefdaaW.PrintMore
attribute [local go_sem] max2_int min2_int max_two min_two max_three min_three max_four min_four   -- for this text's walks alone
set_option linter.unusedVariables false
set_option linter.unusedSimpArgs false

theorem bw_23 {n : Nat} {v v' : World} (h : Below n v v' := by repeat (first | (with_reducible first | exact HB.out | apply bwA | apply pbN | apply bwD) | exact HB.out)) : Below n v v' := h

theorem ln_23 {P : Prop} (h : P := by (try simp only [List.map_toArray, List.map_cons, List.map_nil]); first | done | rfl | (simp only [List.length_drop, List.length_take]; rfl)) : P := h
open Option renaming bind_eq_some_iff → be

/-! ### spec_LinkRow: function 20 -/
mutual
def spec_LinkRow.l0 : Nat → List Int → List Int → Int → Option (List Int)
 | 0, _, _, _ => none
 | k + 1, x0, x3, x4 => if x4 ≤ 8 then ((spec_IsCrossingWord.f k x0).bind fun t526 => (spec_LinkRow.j1 k x0 x3 x4 t526)) else (spec_LinkRow.j1 k x0 x3 x4 false)
def spec_LinkRow.j1 : Nat → List Int → List Int → Int → Bool → Option (List Int)
 | 0, _, _, _, _ => none
 | k + 1, x0, x3, x4, x13 => if x13 = true then ((spec_l5Count.f k x0 x4).bind fun t527 => (if t527 = 0 then (spec_LinkRow.l0 k x0 x3 (wrap64 (x4 + 1))) else (spec_LinkRow.l1 k x0 x3 x4 0 1))) else (some x3)
def spec_LinkRow.l1 : Nat → List Int → List Int → Int → Int → Int → Option (List Int)
 | 0, _, _, _, _, _ => none
 | k + 1, x0, x3, x4, x5, x6 => if x6 ≤ 8 then (if x6 = x4 then ((spec_l1Bit.f false).bind fun t528 => (spec_LinkRow.l1 k x0 x3 x4 (wrap64 (x5 + t528)) (wrap64 (x6 + 1)))) else ((spec_l5Count.f k x0 x6).bind fun t529 => (if t529 = 2 then ((spec_l18Linked.f k x0 x4 x6).bind fun t530 => ((spec_l1Bit.f t530).bind fun t531 => (spec_LinkRow.l1 k x0 x3 x4 (wrap64 (x5 + t531)) (wrap64 (x6 + 1))))) else ((spec_l1Bit.f false).bind fun t532 => (spec_LinkRow.l1 k x0 x3 x4 (wrap64 (x5 + t532)) (wrap64 (x6 + 1))))))) else (if x3.length < 17592186044416 then (spec_LinkRow.l0 k x0 (x3 ++ [x5]) (wrap64 (x4 + 1))) else (none))
end
def spec_LinkRow.f (k : Nat) (l0 : List Int) : Option (List Int) := spec_LinkRow.l0 k l0 (([] : List Int)) 1
set_option maxHeartbeats 8000000 in
set_option maxRecDepth 100000 in
theorem spec_LinkRow.calls (k : Nat) (A0 : Option Addr) (c0 : Nat) (l0 : List Int) (r : List Int) (w : World) (hr0 : Kd.C (Kd.int .i64) w A0 l0.length l0) (hc0 : l0.length ≤ c0) (h : spec_LinkRow.f k l0 = some r) :
  Calls Try.prog 20 #[.slice A0 l0.length c0] w fun e w' => ∃ v0_ : Value, e = .returned (v0_) ∧ Kd.R (Kd.int .i64) 3 w' w.heap.size (fun _ => True) v0_ r ∧ Below w.heap.size w w' := by
 have HR0 := Az.mk hr0
 have HC0 := Az.mk hc0
 clear hr0 hc0
 have HB := Az.mk (Below.refl w.heap.size w)
 have H : (spec_LinkRow.l0 k l0 (([] : List Int)) 1) = some r := h
 clear h
 obtain ⟨y523, hy⟩ : ∃ y_ : List Int, y_ = (([] : List Int)) := ⟨_, rfl⟩
 replace H : (spec_LinkRow.l0 k l0 y523 1) = some r := rh
 have Ny523 := Az.mk hy
 clear hy
 have H' := Az.mk H
 clear H
 go_enter Try.func20, Try.ntmps20
 go_wp2_with (first | ((with_reducible refine gtD (N := 7) rfl ?_); refine Kd.R_lit (Kd.int .i64) _ 3 ?hg (N := 7) ?hd (xs := ([] : List Int)) (inner := []) (ok := fun _ => True) (okp := fun _ => True) ?hr ?hp (fun _ hk => hk) trivial (Below.refl _ _) (Nat.le_refl _) (by simp) ?_; (case hd => rfl); (case hg => rfl); (case hr => first | (go_simp; done) | (go_simp; rfl)); (case hp => exact (Reps.none _ _)); intro v524 w2 ho3 hb hg_ hnew_; clear hg_ hnew_; (first | rw [← Ny523.out] at ho3 | (simp only [Int.reduceToNat] at ho3; rw [← Ny523.out] at ho3)); have HO525 := Az.mk (Kd.R_lower ho3 (bwZ bw_23)); replace HB := Az.mk (bwT bw_23 hb); clear hb ho3))
 go_loopg [3, 4] k (fun kq v3 v4 w' => ∃ (x3_1 : List Int) (x4_1 : Int), v4 = .int .i64 x4_1 ∧ Az (spec_LinkRow.l0 kq l0 x3_1 x4_1 = some r) ∧ Az (kq ≤ k) ∧ Az (Kd.R (Kd.int .i64) 3 w' w.heap.size (fun _ => True) v3 x3_1) ∧ Az (Below w.heap.size w w'))
 case atStart => exact ⟨(y523), (1), rq2, H', ⟨Nat.le_refl _⟩, ⟨kR HO525.out⟩, ⟨bw_23⟩⟩
 clear H'
 obtain ⟨x3_1, x4_1, rfl, HA, HK1, HO_3, HB⟩ := hrel
 cases gk with
 | zero => exact absurd HA.out (by simp [spec_LinkRow.l0])
 | succ k1 =>
  have H := HA.out
  clear HA
  simp only [spec_LinkRow.l0] at H
  have HC4 := Az.mk H
  clear H
  go_upto_region 3 with (fail)
  go_cut [13] (fun v13 wc => ∃ (kq : Nat) (x13_3 : Bool), v13 = .bool x13_3 ∧ Az (spec_LinkRow.j1 kq l0 x3_1 x4_1 x13_3 = some r) ∧ Az (kq ≤ k1) ∧ Az (Kd.R (Kd.int .i64) 3 wc w.heap.size (fun _ => True) u3 x3_1) ∧ Az (Below w.heap.size w wc))
  case first =>
   have H := HC4.out
   clear HC4
   by_cases c5 : x4_1 ≤ 8
   rotate_left
   ·rw [if_neg c5] at H
    have c5b0 : decide (x4_1 ≤ 8) = false := decide_eq_false c5
    clear c5
    (first | rw [c5b0] | (simp only [i64_w, i32_w]; rw [c5b0]) | skip)
    have H' := Az.mk H
    clear H
    go_wp2
    go_meet
    case rel => exact ⟨_, (false), rq2, H', ⟨by have := HK1.out; first | omega | exact Nat.le_refl _⟩, ⟨kR HO_3.out⟩, ⟨bw_23⟩⟩
   rw [if_pos c5] at H
   have c5b0 : decide (x4_1 ≤ 8) = true := decide_eq_true c5
   clear c5
   (first | rw [c5b0] | (simp only [i64_w, i32_w]; rw [c5b0]) | skip)
   replace H := bez H
   obtain ⟨t526, A6, H⟩ := H
   try dsimp only at H
   have H' := Az.mk H
   clear H
   go_wp2_with (first | (go_at_call 23; (with_reducible refine (spec_IsCrossingWord.calls k1 _ _ l0 t526 _ ?side1 ?side2 A6.out).mono ?_); (case side1 => exact kC (Kd.C_below HR0.out HB.out)); (case side2 => exact HC0.out); rintro e w' ⟨rfl, ⟨nd, rfl⟩⟩))
   go_meet
   case rel => exact ⟨_, (t526), rq2, H', ⟨by have := HK1.out; first | omega | exact Nat.le_refl _⟩, ⟨kR HO_3.out⟩, ⟨bw_23⟩⟩
  clear HC4
  try clear c5
  try clear c5b0
  obtain ⟨kq, x13_3, rfl, HA, HJ3, HO_3, HB⟩ := hcut
  cases kq with
  | zero => exact absurd HA.out (by simp [spec_LinkRow.j1])
  | succ kj3 =>
   have H := HA.out
   clear HA
   simp only [spec_LinkRow.j1] at H
   by_cases c7 : x13_3 = true
   rotate_left
   ·replace c7 := Bool.eq_false_iff.mpr c7
    subst c7
    rw [if_neg ff] at H
    obtain rfl := Option.some.inj H
    go_wp2
    go_ret
    exact ⟨_, rq1, kR HO_3.out, bw_23⟩
   subst c7
   rw [if_pos rfl] at H
   replace H := bez H
   obtain ⟨t527, A8, H⟩ := H
   try dsimp only at H
   by_cases c9 : t527 = 0
   ·rw [if_pos c9] at H
    have c9b0 : (t527 == 0) = true := beq_iff_eq.mpr c9
    have c9b1 : (t527 != 0) = false := bne_eq_false_iff_eq.mpr c9
    clear c9
    have H' := Az.mk H
    clear H
    go_wp2_with (first | ((with_reducible refine gtC (f := 40) rfl ?_); refine clz Try.func40 (some 18) #[.slice A0 l0.length c0, .int .i64 x4_1] ?_; (with_reducible refine (spec_l5Count.calls kj3 _ _ l0 x4_1 t527 _ ?side1 ?side2 A8.out).mono ?_); (case side1 => exact kC (Kd.C_below HR0.out HB.out)); (case side2 => exact HC0.out); rintro e w' ⟨rfl, ⟨nd, rfl⟩⟩; refine ⟨_, rfl, ?_⟩))
    go_roundg kj3
    case measure => have := HK1.out; have := HJ3.out; omega
    case rel => exact ⟨(x3_1), (wrap64 (x4_1 + 1)), rq2, H', ⟨by have := HK1.out; have := HJ3.out; omega⟩, ⟨kR HO_3.out⟩, ⟨bw_23⟩⟩
   rw [if_neg c9] at H
   have c9b0 : (t527 == 0) = false := beq_eq_false_iff_ne.mpr c9
   have c9b1 : (t527 != 0) = true := bne_iff_ne.mpr c9
   have H' := Az.mk H
   clear H
   go_wp2_with (first | ((with_reducible refine gtC (f := 40) rfl ?_); refine clz Try.func40 (some 18) #[.slice A0 l0.length c0, .int .i64 x4_1] ?_; (with_reducible refine (spec_l5Count.calls kj3 _ _ l0 x4_1 t527 _ ?side1 ?side2 A8.out).mono ?_); (case side1 => exact kC (Kd.C_below HR0.out HB.out)); (case side2 => exact HC0.out); rintro e w' ⟨rfl, ⟨nd, rfl⟩⟩; refine ⟨_, rfl, ?_⟩))
   go_loopg [5, 6] kj3 (fun kq v5 v6 w' => ∃ (x5_3 : Int) (x6_3 : Int), v5 = .int .i64 x5_3 ∧ v6 = .int .i64 x6_3 ∧ Az (spec_LinkRow.l1 kq l0 x3_1 x4_1 x5_3 x6_3 = some r) ∧ Az (kq ≤ kj3) ∧ Az (Kd.R (Kd.int .i64) 3 w' w.heap.size (fun _ => True) u3 x3_1) ∧ Az (Below w.heap.size w w'))
   case atStart => exact ⟨(0), (1), rq2, rq2, H', ⟨Nat.le_refl _⟩, ⟨kR HO_3.out⟩, ⟨bw_23⟩⟩
   clear H'
   try clear c5
   try clear c5b0
   try clear c7
   try clear c9
   try clear c9b0
   try clear c9b1
   obtain ⟨x5_3, x6_3, rfl, rfl, HA, HK3, HO_3, HB⟩ := hrel
   cases gk with
   | zero => exact absurd HA.out (by simp [spec_LinkRow.l1])
   | succ k3 =>
    have H := HA.out
    clear HA
    simp only [spec_LinkRow.l1] at H
    by_cases c10 : x6_3 ≤ 8
    rotate_left
    ·rw [if_neg c10] at H
     have c10b0 : decide (x6_3 ≤ 8) = false := decide_eq_false c10
     clear c10
     by_cases c18 : x3_1.length < 17592186044416
     rotate_left
     ·rw [if_neg c18] at H
      exact absurd H (by simp)
     rw [if_pos c18] at H
     have LMc18 := Az.mk c18
     clear c18
     obtain ⟨y533, hy⟩ : ∃ y_ : List Int, y_ = (x3_1 ++ [x5_3]) := ⟨_, rfl⟩
     replace H : (spec_LinkRow.l0 k3 l0 y533 (wrap64 (x4_1 + 1))) = some r := rh
     have Ny533 := Az.mk hy
     clear hy
     have H' := Az.mk H
     clear H
     go_wp2_with (first | ((with_reducible refine gate_builtin (b := .append) (xs := #[.tmp 42, .tmp 44]) rfl ?_); at_builtin; refine Kd.R_append (Kd.int .i64) (w0 := w) w.heap.size rfl (.tmp 42) (.tmp 44) 24 3 (.int .i64 0) 8 rfl Try.underlying24 info3 rfl (by decide) (by omega) u3 x3_1 x5_3 [.int .i64 x5_3] (fun _ => True) (fun _ => False) rfl rfl ?aP (fun _ hk => hk.elim) ?aF ?aO ?aB ?aS ?aL ?_; (case aP => exact rfl); (case aB => exact bw_23); (case aF => exact (fun _ _ => trivial)); (case aO => exact (kR HO_3.out)); (case aS => exact (bwZ bw_23)); (case aL => have := LMc18.out; omega); intro v534 w19 ho hb hg hat; rw [← Ny533.out] at ho; have n0_ := Az.mk (hb); have n1_ := Az.mk (ho); clear HB; clear HO_3; have HB := n0_; have HO535 := n1_; clear n0_ n1_; clear ho hb hg hat))
     go_roundg k3
     case measure => have := HK1.out; have := HJ3.out; have := HK3.out; omega
     case rel => exact ⟨(y533), (wrap64 (x4_1 + 1)), rq2, H', ⟨by have := HK1.out; have := HJ3.out; have := HK3.out; omega⟩, ⟨kR HO535.out⟩, ⟨bw_23⟩⟩
    rw [if_pos c10] at H
    have c10b0 : decide (x6_3 ≤ 8) = true := decide_eq_true c10
    clear c10
    by_cases c11 : x6_3 = x4_1
    ·rw [if_pos c11] at H
     have c11b0 : (x6_3 == x4_1) = true := beq_iff_eq.mpr c11
     have c11b1 : (x6_3 != x4_1) = false := bne_eq_false_iff_eq.mpr c11
     clear c11
     replace H := bez H
     obtain ⟨t528, A12, H⟩ := H
     try dsimp only at H
     have H' := Az.mk H
     clear H
     go_wp2_with (first | ((with_reducible refine gtC (f := 48) rfl ?_); refine clz Try.func48 (some 40) #[.bool false] ?_; (with_reducible refine (spec_l1Bit.calls false t528 _ A12.out).mono ?_); rintro e w' ⟨rfl, ⟨nd, rfl⟩⟩; refine ⟨_, rfl, ?_⟩))
     go_roundg k3
     case measure => have := HK1.out; have := HJ3.out; have := HK3.out; omega
     case rel => exact ⟨(wrap64 (x5_3 + t528)), (wrap64 (x6_3 + 1)), rq2, rq2, H', ⟨by have := HK1.out; have := HJ3.out; have := HK3.out; omega⟩, ⟨kR HO_3.out⟩, ⟨bw_23⟩⟩
    rw [if_neg c11] at H
    have c11b0 : (x6_3 == x4_1) = false := beq_eq_false_iff_ne.mpr c11
    have c11b1 : (x6_3 != x4_1) = true := bne_iff_ne.mpr c11
    replace H := bez H
    obtain ⟨t529, A13, H⟩ := H
    try dsimp only at H
    by_cases c14 : t529 = 2
    rotate_left
    ·rw [if_neg c14] at H
     have c14b0 : (t529 == 2) = false := beq_eq_false_iff_ne.mpr c14
     have c14b1 : (t529 != 2) = true := bne_iff_ne.mpr c14
     replace H := bez H
     obtain ⟨t532, A17, H⟩ := H
     try dsimp only at H
     have H' := Az.mk H
     clear H
     go_wp2_with (first | (go_at_call 40; (with_reducible refine (spec_l5Count.calls k3 _ _ l0 x6_3 t529 _ ?side1 ?side2 A13.out).mono ?_); (case side1 => exact kC (Kd.C_below HR0.out HB.out)); (case side2 => exact HC0.out); rintro e w' ⟨rfl, ⟨nd, rfl⟩⟩) | ((with_reducible refine gtC (f := 48) rfl ?_); refine clz Try.func48 (some 40) #[.bool false] ?_; (with_reducible refine (spec_l1Bit.calls false t532 _ A17.out).mono ?_); rintro e w' ⟨rfl, ⟨nd, rfl⟩⟩; refine ⟨_, rfl, ?_⟩))
     go_roundg k3
     case measure => have := HK1.out; have := HJ3.out; have := HK3.out; omega
     case rel => exact ⟨(wrap64 (x5_3 + t532)), (wrap64 (x6_3 + 1)), rq2, rq2, H', ⟨by have := HK1.out; have := HJ3.out; have := HK3.out; omega⟩, ⟨kR HO_3.out⟩, ⟨bw_23⟩⟩
    rw [if_pos c14] at H
    have c14b0 : (t529 == 2) = true := beq_iff_eq.mpr c14
    have c14b1 : (t529 != 2) = false := bne_eq_false_iff_eq.mpr c14
    clear c14
    replace H := bez H
    obtain ⟨t530, A15, H⟩ := H
    try dsimp only at H
    replace H := bez H
    obtain ⟨t531, A16, H⟩ := H
    try dsimp only at H
    have H' := Az.mk H
    clear H
    go_wp2_with (first | (go_at_call 40; (with_reducible refine (spec_l5Count.calls k3 _ _ l0 x6_3 t529 _ ?side1 ?side2 A13.out).mono ?_); (case side1 => exact kC (Kd.C_below HR0.out HB.out)); (case side2 => exact HC0.out); rintro e w' ⟨rfl, ⟨nd, rfl⟩⟩) | (go_at_call 47; (with_reducible refine (spec_l18Linked.calls k3 _ _ l0 x4_1 x6_3 t530 _ ?side1 ?side2 A15.out).mono ?_); (case side1 => exact kC (Kd.C_below HR0.out bw_23)); (case side2 => exact HC0.out); rintro e w' ⟨rfl, ⟨nd, rfl⟩⟩) | ((with_reducible refine gtC (f := 48) rfl ?_); refine clz Try.func48 (some 40) #[.bool t530] ?_; (with_reducible refine (spec_l1Bit.calls t530 t531 _ A16.out).mono ?_); rintro e w' ⟨rfl, ⟨nd, rfl⟩⟩; refine ⟨_, rfl, ?_⟩))
    go_roundg k3
    case measure => have := HK1.out; have := HJ3.out; have := HK3.out; omega
    case rel => exact ⟨(wrap64 (x5_3 + t531)), (wrap64 (x6_3 + 1)), rq2, rq2, H', ⟨by have := HK1.out; have := HJ3.out; have := HK3.out; omega⟩, ⟨kR HO_3.out⟩, ⟨bw_23⟩⟩

end Go.Proofs.Ytkmjcdlhlhefdaa.P
