-- By this session's driver (wip/tools/mk.py) of the kit's print program, over several statements at once. Not trusted: Lean checks it.
import Derived.Test.YtkmjcdlhlhefdaaQWZip
import Derived.Test.YtkmjcdlhlhefdaaQPx0
import Derived.Test.YtkmjcdlhlhefdaaQPx10
import Derived.Test.YtkmjcdlhlhefdaaQPx19
namespace Go.Proofs.Ytkmjcdlhlhefdaa.P
open Go.RowKit Go.Proofs.YtkmjcdlhlhefdaaW.PrintWords Go.Proofs.YtkmjcdlhlhefdaaW.PrintLast Go.Proofs.YtkmjcdlhlhefdaaW.PrintMore
attribute [local go_sem] max2_int min2_int max_two min_two max_three min_three max_four min_four   -- for this text's walks alone
set_option linter.unusedVariables false
set_option linter.unusedSimpArgs false
open Bool renaming true → T, false → F

theorem bw_20 {n : Nat} {v v' : World} (h : Below n v v' := by repeat (first | (with_reducible first | exact HB.out | apply bwA | apply pbN | apply bwD) | exact HB.out)) : Below n v v' := h

theorem ln_20 {P : Prop} (h : P := by (try simp only [List.map_toArray, List.map_cons, List.map_nil]); first | done | rfl | (simp only [List.length_drop, List.length_take]; rfl)) : P := h
open Option renaming bind_eq_some_iff → be

/-! ### spec_l6Parts: function 54 -/
mutual
def spec_l6Parts.l0 : Nat → List Int → List Int → Int → Option (Int)
 | 0, _, _, _ => none
 | k + 1, x0, x3, x4 => if x4 < (x0.length : Int) then (if x3.length < 17592186044416 then (spec_l6Parts.l0 k x0 (x3 ++ [x4]) (wrap64 (x4 + 1))) else (none)) else (spec_l6Parts.l1 k x0 x3 0)
def spec_l6Parts.l1 : Nat → List Int → List Int → Int → Option (Int)
 | 0, _, _, _ => none
 | k + 1, x0, x3, x5 => if x5 < (x0.length : Int) then ((spec_l3Find.f k x3 x5).bind fun t474 => (if 0 ≤ x5 then ((spec_l3Find.f k x3 (rd x0 x5)).bind fun t476 => (if 0 ≤ t474 then (if t474 < (x3.length : Int) then ((some (x3.set (t474 : Int).toNat t476 : List Int)).bind fun y477 => ((spec_l3Find.f k y477 x5).bind fun t478 => ((spec_l6Mate.f x5).bind fun t479 => ((spec_l3Find.f k y477 t479).bind fun t480 => (if 0 ≤ t478 then (if t478 < (x3.length : Int) then (spec_l6Parts.l1 k x0 (y477.set (t478 : Int).toNat t480) (wrap64 (x5 + 1))) else (none)) else (none)))))) else (none)) else (none))) else (none))) else (spec_l6Parts.l2 k x0 x3 0 0)
def spec_l6Parts.l2 : Nat → List Int → List Int → Int → Int → Option (Int)
 | 0, _, _, _, _ => none
 | k + 1, x0, x3, x6, x7 => if x7 < (x0.length : Int) then (if 0 ≤ x7 then (if x7 < (x3.length : Int) then ((spec_l1Bit.f ((rd x3 x7) == x7)).bind fun t483 => (spec_l6Parts.l2 k x0 x3 (wrap64 (x6 + t483)) (wrap64 (x7 + 1)))) else (none)) else (none)) else (some x6)
end
def spec_l6Parts.f (k : Nat) (l0 : List Int) : Option (Int) := spec_l6Parts.l0 k l0 (([] : List Int)) 0
theorem spec_l6Parts.mono_l : ∀ k, (∀ y0 y1 y2, LeO (spec_l6Parts.l0 k y0 y1 y2) (spec_l6Parts.l0 (k + 1) y0 y1 y2)) ∧ (∀ y0 y1 y2, LeO (spec_l6Parts.l1 k y0 y1 y2) (spec_l6Parts.l1 (k + 1) y0 y1 y2)) ∧ (∀ y0 y1 y2 y3, LeO (spec_l6Parts.l2 k y0 y1 y2 y3) (spec_l6Parts.l2 (k + 1) y0 y1 y2 y3))
 | 0 => ⟨fun _ _ _ r h => by simp [spec_l6Parts.l0] at h, fun _ _ _ r h => by simp [spec_l6Parts.l1] at h, fun _ _ _ _ r h => by simp [spec_l6Parts.l2] at h⟩
 | k + 1 => by
  obtain ⟨ih0, ih1, ih2⟩ := spec_l6Parts.mono_l k
  have i0 := fun z0 z1 z2 => MoO.mk (ih0 z0 z1 z2)
  have i1 := fun z0 z1 z2 => MoO.mk (ih1 z0 z1 z2)
  have i2 := fun z0 z1 z2 z3 => MoO.mk (ih2 z0 z1 z2 z3)
  refine ⟨?_, ?_, ?_⟩
  ·intro y0 y1 y2
   unfold spec_l6Parts.l0
   exact mo_
  ·intro y0 y1 y2
   unfold spec_l6Parts.l1
   exact mo_
  intro y0 y1 y2 y3
  unfold spec_l6Parts.l2
  exact mo_
theorem spec_l6Parts.mono : ∀ a0 k, LeO (spec_l6Parts.f k a0) (spec_l6Parts.f (k + 1) a0) := by
 intro a0 k
 obtain ⟨ih0, ih1, ih2⟩ := spec_l6Parts.mono_l k
 have i0 := fun z0 z1 z2 => MoO.mk (ih0 z0 z1 z2)
 have i1 := fun z0 z1 z2 => MoO.mk (ih1 z0 z1 z2)
 have i2 := fun z0 z1 z2 z3 => MoO.mk (ih2 z0 z1 z2 z3)
 unfold spec_l6Parts.f
 exact mo_
instance spec_l6Parts.mi {a0 k} : MoO (spec_l6Parts.f k a0) (spec_l6Parts.f (k + 1) a0) := ⟨spec_l6Parts.mono _ _⟩
def spec_l6Parts.T9 : Bool × List (List Nat × List Nat) := (true, [([], []), ([], []), ([], []), ([1, 2], [1, 2]), ([], []), ([], []), ([], []), ([5, 6], [5, 6]), ([7], [7]), ([4, 8, 3], [4, 8]), ([0, 3, 0, 1, 2, 3, 4, 5, 6, 7, 8, 9], [0, 3]), ([10, 9, 9, 0, 1, 2, 3, 4, 5, 6, 7, 8, 9], [9, 10])])
def spec_l6Parts.B9 : List Nat := [0, 0, 0, 6, 0, 0, 0, 96, 224, 510, 1023, 2047]
theorem spec_l6Parts.tab9 : rtab .any (opsOf Try.f54 9) = spec_l6Parts.T9 := by kernel_rfl
theorem spec_l6Parts.bits9 : waitsOk spec_l6Parts.T9.2 spec_l6Parts.B9 = true := by kernel_rfl
set_option maxHeartbeats 8000000 in
set_option maxRecDepth 100000 in
theorem spec_l6Parts.calls (k : Nat) (A0 : Option Addr) (c0 : Nat) (l0 : List Int) (r : Int) (w : World) (hr0 : Kd.C (Kd.int .i64) w A0 l0.length l0) (hc0 : l0.length ≤ c0) (h : spec_l6Parts.f k l0 = some r) :
  Calls Try.prog 54 #[.slice A0 l0.length c0] w fun e w' => e = .returned (.int .i64 r) ∧ Below w.heap.size w w' := by
 have HR0 := Az.mk hr0
 have HC0 := Az.mk hc0
 clear hr0 hc0
 have HB := Az.mk (Below.refl w.heap.size w)
 have H : (spec_l6Parts.l0 k l0 (([] : List Int)) 0) = some r := h
 clear h
 obtain ⟨y468, hy⟩ : ∃ y_ : List Int, y_ = (([] : List Int)) := ⟨_, rfl⟩
 replace H : (spec_l6Parts.l0 k l0 y468 0) = some r := rh
 have Ny468 := Az.mk hy
 clear hy
 have H' := Az.mk H
 clear H
 go_enter Try.func54, Try.ntmps54
 go_wp2_with (first | ((with_reducible refine gtD (N := 8) rfl ?_); refine Kd.R_lit (Kd.int .i64) _ 3 ?hg (N := 8) ?hd (xs := ([] : List Int)) (inner := []) (ok := fun _ => True) (okp := fun _ => True) ?hr ?hp (fun _ hk => hk) trivial (Below.refl _ _) (Nat.le_refl _) (by simp) ?_; (case hd => rfl); (case hg => rfl); (case hr => first | (go_simp; done) | (go_simp; rfl)); (case hp => exact (Reps.none _ _)); intro v469 w2 ho3 hb hg_ hnew_; clear hg_ hnew_; (first | rw [← Ny468.out] at ho3 | (simp only [Int.reduceToNat] at ho3; rw [← Ny468.out] at ho3)); have HO470 := Az.mk (Kd.R_lower ho3 (bwZ bw_20)); replace HB := Az.mk (bwT bw_20 hb); clear hb ho3))
 go_loopg [3, 4] k (fun kq v3 v4 w' => ∃ (x3_1 : List Int) (x4_1 : Int), v4 = .int .i64 x4_1 ∧ Az (spec_l6Parts.l0 kq l0 x3_1 x4_1 = some r) ∧ Az (kq ≤ k) ∧ Az (Kd.R (Kd.int .i64) 3 w' w.heap.size (fun _ => True) v3 x3_1) ∧ Az (Below w.heap.size w w'))
 case atStart => exact ⟨(y468), (0), rq2, H', ⟨Nat.le_refl _⟩, ⟨kR HO470.out⟩, ⟨bw_20⟩⟩
 clear H'
 obtain ⟨x3_1, x4_1, rfl, HA, HK1, HO_3, HB⟩ := hrel
 cases gk with
 | zero => exact absurd HA.out (by simp [spec_l6Parts.l0])
 | succ k1 =>
  have H := HA.out
  clear HA
  simp only [spec_l6Parts.l0] at H
  by_cases c4 : x4_1 < (l0.length : Int)
  ·rw [if_pos c4] at H
   have c4b0 : decide (x4_1 < (l0.length : Int)) = true := decide_eq_true c4
   clear c4
   by_cases c5 : x3_1.length < 17592186044416
   rotate_left
   ·rw [if_neg c5] at H
    exact absurd H (by simp)
   rw [if_pos c5] at H
   have LMc5 := Az.mk c5
   clear c5
   obtain ⟨y471, hy⟩ : ∃ y_ : List Int, y_ = (x3_1 ++ [x4_1]) := ⟨_, rfl⟩
   replace H : (spec_l6Parts.l0 k1 l0 y471 (wrap64 (x4_1 + 1))) = some r := rh
   have Ny471 := Az.mk hy
   clear hy
   have H' := Az.mk H
   clear H
   go_wp2_with (first | ((with_reducible refine gate_builtin (b := .append) (xs := #[.tmp 15, .tmp 17]) rfl ?_); at_builtin; refine Kd.R_append (Kd.int .i64) (w0 := w) w.heap.size rfl (.tmp 15) (.tmp 17) 24 3 (.int .i64 0) 8 rfl Try.underlying24 info3 rfl (by decide) (by omega) u3 x3_1 x4_1 [.int .i64 x4_1] (fun _ => True) (fun _ => False) rfl rfl ?aP (fun _ hk => hk.elim) ?aF ?aO ?aB ?aS ?aL ?_; (case aP => exact rfl); (case aB => exact bw_20); (case aF => exact (fun _ _ => trivial)); (case aO => exact (kR HO_3.out)); (case aS => exact (bwZ bw_20)); (case aL => have := LMc5.out; omega); intro v472 w6 ho hb hg hat; rw [← Ny471.out] at ho; have n0_ := Az.mk (hb); have n1_ := Az.mk (ho); clear HB; clear HO_3; have HB := n0_; have HO473 := n1_; clear n0_ n1_; clear ho hb hg hat))
   go_roundg k1
   case measure => have := HK1.out; omega
   case rel => exact ⟨(y471), (wrap64 (x4_1 + 1)), rq2, H', ⟨by have := HK1.out; omega⟩, ⟨kR HO473.out⟩, ⟨bw_20⟩⟩
  rw [if_neg c4] at H
  have c4b0 : decide (x4_1 < (l0.length : Int)) = false := decide_eq_false c4
  clear c4
  have H' := Az.mk H
  clear H
  go_wp2
  go_loopg [5] k1 (fun kq v5 w' => ∃ (x3_2 : List Int) (x5_2 : Int), v5 = .int .i64 x5_2 ∧ Az (spec_l6Parts.l1 kq l0 x3_2 x5_2 = some r) ∧ Az (kq ≤ k1) ∧ Az (Kd.R (Kd.int .i64) 3 w' w.heap.size (fun _ => True) u3 x3_2) ∧ Az (Below w.heap.size w w'))
  case atStart => exact ⟨(x3_1), (0), rq2, H', ⟨Nat.le_refl _⟩, ⟨kR HO_3.out⟩, ⟨bw_20⟩⟩
  clear H'
  try clear c4
  try clear c4b0
  try clear c5
  obtain ⟨x3_2, x5_2, rfl, HA, HK2, HO_3, HB⟩ := hrel
  cases gk with
  | zero => exact absurd HA.out (by simp [spec_l6Parts.l1])
  | succ k2 =>
   have H := HA.out
   clear HA
   simp only [spec_l6Parts.l1] at H
   by_cases c7 : x5_2 < (l0.length : Int)
   rotate_left
   ·rw [if_neg c7] at H
    have c7b0 : decide (x5_2 < (l0.length : Int)) = false := decide_eq_false c7
    clear c7
    have H' := Az.mk H
    clear H
    go_wp2
    go_loopg [6, 7] k2 (fun kq v6 v7 w' => ∃ (x6_3 : Int) (x7_3 : Int), v6 = .int .i64 x6_3 ∧ v7 = .int .i64 x7_3 ∧ Az (spec_l6Parts.l2 kq l0 x3_2 x6_3 x7_3 = some r) ∧ Az (kq ≤ k2) ∧ Az (Kd.R (Kd.int .i64) 3 w' w.heap.size (fun _ => True) u3 x3_2) ∧ Az (Below w.heap.size w w'))
    case atStart => exact ⟨(0), (0), rq2, rq2, H', ⟨Nat.le_refl _⟩, ⟨kR HO_3.out⟩, ⟨bw_20⟩⟩
    clear H'
    try clear c4
    try clear c4b0
    try clear c5
    try clear c7
    try clear c7b0
    obtain ⟨x6_3, x7_3, rfl, rfl, HA, HK3, HO_3, HB⟩ := hrel
    cases gk with
    | zero => exact absurd HA.out (by simp [spec_l6Parts.l2])
    | succ k3 =>
     have H := HA.out
     clear HA
     simp only [spec_l6Parts.l2] at H
     by_cases c26 : x7_3 < (l0.length : Int)
     rotate_left
     ·rw [if_neg c26] at H
      have c26b0 : decide (x7_3 < (l0.length : Int)) = false := decide_eq_false c26
      clear c26
      obtain rfl := Option.some.inj H
      go_wp2
      go_ret
      exact ⟨rq1, bw_20⟩
     rw [if_pos c26] at H
     have c26b0 : decide (x7_3 < (l0.length : Int)) = true := decide_eq_true c26
     clear c26
     by_cases c27 : 0 ≤ x7_3
     rotate_left
     ·rw [if_neg c27] at H
      exact absurd H (by simp)
     rw [if_pos c27] at H
     have c27b0 : decide (0 ≤ x7_3) = true := decide_eq_true c27
     clear c27
     by_cases c28 : x7_3 < (x3_2.length : Int)
     rotate_left
     ·rw [if_neg c28] at H
      exact absurd H (by simp)
     rw [if_pos c28] at H
     have c28b0 : decide (x7_3 < (x3_2.length : Int)) = true := decide_eq_true c28
     clear c28
     replace H := bez H
     obtain ⟨t483, A29, H⟩ := H
     try dsimp only at H
     have H' := Az.mk H
     clear H
     obtain ⟨Ao30, co30, eo30⟩ := Kd.R_slice HO_3.out
     subst eo30
     have p482 : 0 ≤ (x7_3 : Int) := of_decide_eq_true am
     have q482 : x7_3 < (x3_2.length : Int) := of_decide_eq_true am
     obtain ⟨ad482, e482, hx482_0⟩ := Kd.at_int (Kd.R_reads' HO_3.out).2.2 x7_3 p482 q482
     cases e482
     replace p482 := eq_true p482
     replace q482 := eq_true q482
     go_wp2_with (first | ((with_reducible refine gtC (f := 48) rfl ?_); refine clz Try.func48 (some 58) #[.bool ((rd x3_2 x7_3) == x7_3)] ?_; (with_reducible refine (spec_l1Bit.calls ((rd x3_2 x7_3) == x7_3) t483 _ A29.out).mono ?_); rintro e w' ⟨rfl, ⟨nd, rfl⟩⟩; refine ⟨_, rfl, ?_⟩))
     go_roundg k3
     case measure => have := HK1.out; have := HK2.out; have := HK3.out; omega
     case rel => exact ⟨(wrap64 (x6_3 + t483)), (wrap64 (x7_3 + 1)), rq2, rq2, H', ⟨by have := HK1.out; have := HK2.out; have := HK3.out; omega⟩, ⟨kR HO_3.out⟩, ⟨bw_20⟩⟩
   rw [if_pos c7] at H
   have c7b0 : decide (x5_2 < (l0.length : Int)) = true := decide_eq_true c7
   clear c7
   replace H := bez H
   obtain ⟨t474, A8, H⟩ := H
   try dsimp only at H
   by_cases c9 : 0 ≤ x5_2
   rotate_left
   ·rw [if_neg c9] at H
    exact absurd H (by simp)
   rw [if_pos c9] at H
   have c9b0 : decide (0 ≤ x5_2) = true := decide_eq_true c9
   clear c9
   replace H := bez H
   obtain ⟨t476, A10, H⟩ := H
   try dsimp only at H
   by_cases c11 : 0 ≤ t474
   rotate_left
   ·rw [if_neg c11] at H
    exact absurd H (by simp)
   rw [if_pos c11] at H
   have c11b0 : decide (0 ≤ t474) = true := decide_eq_true c11
   clear c11
   by_cases c12 : t474 < (x3_2.length : Int)
   rotate_left
   ·rw [if_neg c12] at H
    exact absurd H (by simp)
   rw [if_pos c12] at H
   have c12b0 : decide (t474 < (x3_2.length : Int)) = true := decide_eq_true c12
   clear c12
   obtain ⟨y477, hy⟩ : ∃ y_ : List Int, y_ = (x3_2.set (t474 : Int).toNat t476) := ⟨_, rfl⟩
   replace H : ((spec_l3Find.f k2 y477 x5_2).bind fun t478 => ((spec_l6Mate.f x5_2).bind fun t479 => ((spec_l3Find.f k2 y477 t479).bind fun t480 => (if 0 ≤ t478 then (if t478 < (x3_2.length : Int) then (spec_l6Parts.l1 k2 l0 (y477.set (t478 : Int).toNat t480) (wrap64 (x5_2 + 1))) else (none)) else (none))))) = some r := rh
   have Ny477 := Az.mk hy
   clear hy
   replace H := bez H
   obtain ⟨t478, A14, H⟩ := H
   try dsimp only at H
   replace H := bez H
   obtain ⟨t479, A15, H⟩ := H
   try dsimp only at H
   replace H := bez H
   obtain ⟨t480, A16, H⟩ := H
   try dsimp only at H
   by_cases c17 : 0 ≤ t478
   rotate_left
   ·rw [if_neg c17] at H
    exact absurd H (by simp)
   rw [if_pos c17] at H
   have c17b0 : decide (0 ≤ t478) = true := decide_eq_true c17
   clear c17
   by_cases c18 : t478 < (x3_2.length : Int)
   rotate_left
   ·rw [if_neg c18] at H
    exact absurd H (by simp)
   rw [if_pos c18] at H
   have c18b0 : decide (t478 < (x3_2.length : Int)) = true := decide_eq_true c18
   clear c18
   obtain ⟨y481, hy⟩ : ∃ y_ : List Int, y_ = (y477.set (t478 : Int).toNat t480) := ⟨_, rfl⟩
   replace H : (spec_l6Parts.l1 k2 l0 y481 (wrap64 (x5_2 + 1))) = some r := rh
   have Ny481 := Az.mk hy
   clear hy
   have H' := Az.mk H
   clear H
   try go_wp2
   replace HO_3 := Az.mk (Kd.R_drew HO_3.out); replace HB := Az.mk (bwD HB.out)
   have p475 : 0 ≤ (x5_2 : Int) := of_decide_eq_true am
   have q475 : x5_2 < (l0.length : Int) := of_decide_eq_true am
   obtain ⟨ad475, e475, hx475_0⟩ := Kd.at_int HR0.out x5_2 p475 q475
   have hw475_0 := hx475_0
   cases e475
   replace hx475_0 := kc HB hx475_0
   replace p475 := eq_true p475
   replace q475 := eq_true q475
   obtain ⟨Ao21, co21, eo21⟩ := Kd.R_slice HO_3.out
   (first | subst eo21 | (injection eo21 with f1_ f2_ f3_; have f4_ := f1_.symm; have f5_ := f3_.symm; clear f1_ f2_ f3_; subst f4_; subst f5_))
   refine start_ (n := 12) (S := fun w' => w'.cell? (ad475.add (x5_2).toNat) = some (.int .i64 (rd l0 x5_2))) (ds := [11]) #[F,F,F,F,F,F,F,F,F,F,F,F] (by kernel_rfl) rfl rfl ((kc HB hw475_0)) (fun hHeld => ?_); refine with_tabW spec_l6Parts.tab9 spec_l6Parts.bits9 (fun HT_ HW_ => ?_)
   generalize wr.drew = w20 at HO_3 HB hx475_0 hHeld ⊢
   refine pu (i := 0) (N := some 25) #[T,F,F,F,F,F,F,F,F,F,F,F] (any_of HT_.out (by kernel_rfl)) ?_
   refine pu (i := 1) (N := some 26) #[T,T,F,F,F,F,F,F,F,F,F,F] (any_of HT_.out (by kernel_rfl)) ?_
   refine pu (i := 2) (N := some 27) #[T,T,T,F,F,F,F,F,F,F,F,F] (any_of HT_.out (by kernel_rfl)) ?_
   refine pu (i := 4) (N := some 29) #[T,T,T,F,T,F,F,F,F,F,F,F] (any_of HT_.out (by kernel_rfl)) ?_
   refine pu (i := 5) (N := some 30) #[T,T,T,F,T,T,F,F,F,F,F,F] (any_of HT_.out (by kernel_rfl)) ?_
   refine pu (i := 6) (N := some 31) #[T,T,T,F,T,T,T,F,F,F,F,F] (any_of HT_.out (by kernel_rfl)) ?_
   refine pu (i := 7) (N := some 32) #[T,T,T,F,T,T,T,T,F,F,F,F] (any_of HT_.out (by kernel_rfl)) ?_
   refine take_ (i := 8) (N := some 33) (v := ?_) (a' := ?_) #[T,T,T,F,T,T,T,T,T,F,F,F] rfl rfl (take_ofW HT_.out HW_.out (by kernel_rfl)) (fun _ _ _ h => h) (Or.inl ⟨by rfl, ?_⟩) hHeld ?_ ?_
   rotate_left
   ·intro w' s0
    go_simp
    with_reducible rfl
   rotate_left
   ·exact acq
   refine one_ (i := 3) (N := some 28) #[T,T,T,T,T,T,T,T,T,F,F,F] rfl rfl (one_of HT_.out (by kernel_rfl)) (by decide) (fun K hK => ?_)
   refine goes_ Try.func70 (by kernel_rfl) rfl #[.slice Ao21 x3_2.length co21, .int .i64 x5_2] (by rfl) rfl rfl ln_20 ?_
   with_reducible refine (spec_l3Find.calls k2 _ _ x3_2 x5_2 t474 _ ?side1 ?side2 A8.out).mono ?_
   (case side1 => exact kC (Kd.R_reads' HO_3.out).2.2)
   (case side2 => exact (Kd.R_reads' HO_3.out).2.1)
   rintro e w' ⟨rfl, ⟨nd, rfl⟩⟩
   refine ⟨_, rfl, ?_⟩
   refine hK.out _ _ ((kc HB hw475_0)) (fun hHeld => ?_)
   clear hK K
   refine norm_ (a' := ?_) ?_ ?_
   rotate_left
   ·show Act.put _ (some 28) _ = _
    exact acq
   refine one_ (i := 9) (N := some 34) #[T,T,T,T,T,T,T,T,T,T,F,F] rfl rfl (one_of HT_.out (by kernel_rfl)) (by decide) (fun K hK => ?_)
   refine goes_ Try.func70 (by kernel_rfl) rfl #[.slice Ao21 x3_2.length co21, .int .i64 (rd l0 x5_2)] (by rfl) rfl rfl ln_20 ?_
   with_reducible refine (spec_l3Find.calls k2 _ _ x3_2 (rd l0 x5_2) t476 _ ?side1 ?side2 A10.out).mono ?_
   (case side1 => exact kC (Kd.R_reads' HO_3.out).2.2)
   (case side2 => exact (Kd.R_reads' HO_3.out).2.1)
   rintro e w' ⟨rfl, ⟨nd, rfl⟩⟩
   refine ⟨_, rfl, ?_⟩
   have p13 : 0 ≤ (t474 : Int) := of_decide_eq_true am
   have q13 : (t474 : Int) < ((x3_2.length : Int) : Int) := of_decide_eq_true am
   obtain ⟨go13, co13, eo13, gb13, gl13, cl13, HG13⟩ := Kd.R_form HO_3.out (by omega)
   (first | cases eo13 | (injection eo13 with ea_ en_ ec_; (first | subst ea_ | (injection ea_ with ea_; subst ea_)); subst ec_; clear en_))
   have GB13 := Az.mk gb13
   have GG13 := Az.mk HG13
   clear gb13 gl13 HG13
   obtain ⟨hx13_0, hf13_0⟩ := Kd.R_celln 0 HO_3.out (t474 : Int) p13 q13
   replace p13 := eq_true p13
   replace q13 := eq_true q13
   have HP22 := Kd.R_putn HO_3.out (t474 : Int) t476
   rw [← Ny477.out] at HP22
   have HQ22 := Az.mk HP22
   clear HP22
   refine hK.out _ _ ((kc HB hw475_0)) (fun hHeld => ?_)
   clear hK K
   refine norm_ (a' := ?_) ?_ ?_
   rotate_left
   ·show Act.put _ (some 34) _ = _
    exact acq
   refine pu (i := 10) (N := some 35) #[T,T,T,T,T,T,T,T,T,T,T,F] (any_of HT_.out (by kernel_rfl)) ?_
   refine last_ (i := 11) (N := none) #[T,T,T,T,T,T,T,T,T,T,T,T] rfl rfl (one_of HT_.out (by kernel_rfl)) (by decide) (fun K hK => ?_)
   refine skip_ (w1 := ?_) (by rfl) rfl ?_ ?_
   rotate_left
   ·go_simp
    rfl
   refine hK.out _ _ ?_
   clear hK K
   refine done_ (done_of HT_.out (by kernel_rfl)) ?_
   generalize hq_ : World.drewN w20 _ = wq_
   have n0_ : Az (Kd.R (Kd.int .i64) 3 (wq_.setCell ⟨go13, (t474 : Int).toNat, none⟩ (.int .i64 t476)) w.heap.size (fun _ => True) (.slice (some ⟨go13, 0, none⟩) x3_2.length co21) y477) := ⟨by rw [← hq_, Ny477.out]; exact (Kd.R_putn (Kd.R_drewN HO_3.out _) (t474 : Int) t476)⟩
   have n1_ : Az (Below w.heap.size w (wq_.setCell ⟨go13, (t474 : Int).toNat, none⟩ (.int .i64 t476))) := ⟨by rw [← hq_]; repeat (first | (with_reducible first | exact HB.out | apply bwA | apply pbN | apply bwD | refine bwS ?_ GB13.out) | exact HB.out)⟩
   clear hq_
   (try clear HO_3)
   (try clear HB)
   generalize (wq_.setCell ⟨go13, (t474 : Int).toNat, none⟩ (.int .i64 t476)) = w23 at n0_ n1_ ⊢
   have HO_3 := n0_
   have HB := n1_
   clear n0_ n1_
   try go_wp2_with (first | ((with_reducible refine gtC (f := 70) rfl ?_); refine goesL_ (some 39) rfl rfl Try.func70 (by kernel_rfl) rfl #[.slice (some ⟨go13, 0, none⟩) y477.length co21, .int .i64 x5_2] rfl (by (try simp only [List.map_toArray, List.map_cons, List.map_nil]); first | done | (rw [show y477.length = x3_2.length from (Kd.R_reads' HO_3.out).1.symm] <;> rfl) | rfl | (simp only [List.length_drop, List.length_take]; rfl)) ?_; (with_reducible refine (spec_l3Find.calls k2 _ _ y477 x5_2 t478 _ ?side1 ?side2 A14.out).mono ?_); (case side1 => exact kC (Kd.R_reads' HO_3.out).2.2); (case side2 => rw [show y477.length = x3_2.length from (Kd.R_reads' HO_3.out).1.symm]; exact (Kd.R_reads' HO_3.out).2.1); rintro e w' ⟨rfl, ⟨nd, rfl⟩⟩; refine ⟨_, rfl, ?_⟩; (try (rw [drewN_self w23]; generalize hq_ : World.drewN w23 _ = w23; have n0_ : Az (Kd.R (Kd.int .i64) 3 w23 w.heap.size (fun _ => True) (.slice (some ⟨go13, 0, none⟩) x3_2.length co21) y477) := ⟨by rw [← hq_]; exact (kR HO_3.out)⟩; have n1_ : Az (Below w.heap.size w w23) := ⟨by rw [← hq_]; exact bw_20⟩; clear HO_3 HB hq_; have HO_3 := n0_; have HB := n1_; clear n0_ n1_))) | ((with_reducible refine gtC (f := 71) rfl ?_); refine clz Try.func71 (some 42) #[.int .i64 x5_2] ?_; (with_reducible refine (spec_l6Mate.calls x5_2 t479 _ A15.out).mono ?_); rintro e w' ⟨rfl, ⟨nd, rfl⟩⟩; refine ⟨_, rfl, ?_⟩; (try (rw [drewN_self w23]; generalize hq_ : World.drewN w23 _ = w23; have n0_ : Az (Kd.R (Kd.int .i64) 3 w23 w.heap.size (fun _ => True) (.slice (some ⟨go13, 0, none⟩) x3_2.length co21) y477) := ⟨by rw [← hq_]; exact (kR HO_3.out)⟩; have n1_ : Az (Below w.heap.size w w23) := ⟨by rw [← hq_]; exact bw_20⟩; clear HO_3 HB hq_; have HO_3 := n0_; have HB := n1_; clear n0_ n1_))) | ((with_reducible refine gtC (f := 70) rfl ?_); refine goesL_ (some 43) rfl rfl Try.func70 (by kernel_rfl) rfl #[.slice (some ⟨go13, 0, none⟩) y477.length co21, .int .i64 t479] rfl (by (try simp only [List.map_toArray, List.map_cons, List.map_nil]); first | done | (rw [show y477.length = x3_2.length from (Kd.R_reads' HO_3.out).1.symm] <;> rfl) | rfl | (simp only [List.length_drop, List.length_take]; rfl)) ?_; (with_reducible refine (spec_l3Find.calls k2 _ _ y477 t479 t480 _ ?side1 ?side2 A16.out).mono ?_); (case side1 => exact kC (Kd.R_reads' HO_3.out).2.2); (case side2 => rw [show y477.length = x3_2.length from (Kd.R_reads' HO_3.out).1.symm]; exact (Kd.R_reads' HO_3.out).2.1); rintro e w' ⟨rfl, ⟨nd, rfl⟩⟩; refine ⟨_, rfl, ?_⟩; (try (rw [drewN_self w23]; generalize hq_ : World.drewN w23 _ = w23; have n0_ : Az (Kd.R (Kd.int .i64) 3 w23 w.heap.size (fun _ => True) (.slice (some ⟨go13, 0, none⟩) x3_2.length co21) y477) := ⟨by rw [← hq_]; exact (kR HO_3.out)⟩; have n1_ : Az (Below w.heap.size w w23) := ⟨by rw [← hq_]; exact bw_20⟩; clear HO_3 HB hq_; have HO_3 := n0_; have HB := n1_; clear n0_ n1_)); have p19 : 0 ≤ (t478 : Int) := of_decide_eq_true am; have q19 : (t478 : Int) < ((x3_2.length : Int) : Int) := of_decide_eq_true am; obtain ⟨hx19_0, hf19_0⟩ := Kd.R_celln 0 HO_3.out (t478 : Int) p19 q19; replace p19 := eq_true p19; replace q19 := eq_true q19; obtain ⟨hy24_, hz24_⟩ := Kd.R_celln 0 HO_3.out (t478 : Int) (of_decide_eq_true am) (of_decide_eq_true am); have HP24 := Kd.R_putg HO_3.out (t478 : Int) t480) | ((with_reducible refine gate_store (t := 3) (p := 44) rfl ?_); refine store_event (t := 3) (p := 44) (v := ?vo_w25) (w1 := (w23.setCell ⟨go13, (t478 : Int).toNat, none⟩ (.int .i64 t480))) ?hg ?ho ?hn ?hr ?_; (case ho => rfl); (case hg => rfl); (case hn => rfl); (case hr => first | (go_simp; done) | (go_simp; rfl)); intro w25 hw; have hg : w23.grownBy w25 (some go13) := (by rw [hw]; exact HP24.2); have hp_ : Kd.R (Kd.int .i64) 3 w25 w.heap.size (fun _ => True) (.slice (some ⟨go13, 0, none⟩) x3_2.length co21) y481 := (by rw [hw, Ny481.out]; exact HP24.1); clear HP24; replace HO_3 := Az.mk (hp_); replace HB := Az.mk ((by rw [hw]; exact bwS (HB.out) GB13.out : Below w.heap.size w w25)); clear hg hw hp_))
   go_roundg k2
   case measure => have := HK1.out; have := HK2.out; omega
   case rel => exact ⟨(y481), (wrap64 (x5_2 + 1)), rq2, H', ⟨by have := HK1.out; have := HK2.out; omega⟩, ⟨kR HO_3.out⟩, ⟨bw_20⟩⟩

end Go.Proofs.Ytkmjcdlhlhefdaa.P
