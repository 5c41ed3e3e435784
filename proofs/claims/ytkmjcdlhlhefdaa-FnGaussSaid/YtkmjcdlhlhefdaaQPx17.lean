-- By this session's driver (wip/tools/mk.py) of the kit's print program, over several statements at once. Not trusted: Lean checks it.
import Derived.Test.YtkmjcdlhlhefdaaQWZip
import Derived.Test.YtkmjcdlhlhefdaaQPx0
import Derived.Test.YtkmjcdlhlhefdaaQPx5
import Derived.Test.YtkmjcdlhlhefdaaQPx8
import Derived.Test.YtkmjcdlhlhefdaaQPx16
namespace Go.Proofs.Ytkmjcdlhlhefdaa.P
open Go.RowKit Go.Proofs.YtkmjcdlhlhefdaaW.PrintWords Go.Proofs.YtkmjcdlhlhefdaaW.PrintLast Go.Proofs.YtkmjcdlhlhefdaaW.PrintMore
attribute [local go_sem] max2_int min2_int max_two min_two max_three min_three max_four min_four   -- for this text's walks alone
set_option linter.unusedVariables false
set_option linter.unusedSimpArgs false

theorem bw_17 {n : Nat} {v v' : World} (h : Below n v v' := by repeat (first | (with_reducible first | exact HB.out | apply bwA | apply pbN | apply bwD) | exact HB.out)) : Below n v v' := h

theorem ln_17 {P : Prop} (h : P := by (try simp only [List.map_toArray, List.map_cons, List.map_nil]); first | done | rfl | (simp only [List.length_drop, List.length_take]; rfl)) : P := h
open Option renaming bind_eq_some_iff → be

/-! ### impl_LinkRow: function 14 -/
mutual
def impl_LinkRow.l0 : Nat → List Int → List Int → List Int → Int → Int → Option (List Int)
 | 0, _, _, _, _, _ => none
 | k + 1, x0, x3, x14, x15, x16 => if x16 < x15 then (if 0 ≤ x16 then (if x16 < (x14.length : Int) then ((impl_lettersOf.f k x0).bind fun t423 => (impl_LinkRow.l1 k x0 x3 (rd x14 x16) 0 x14 x15 x16 t423 (t423.length : Int) 0)) else (none)) else (none)) else (some x3)
def impl_LinkRow.l1 : Nat → List Int → List Int → Int → Int → List Int → Int → Int → List Int → Int → Int → Option (List Int)
 | 0, _, _, _, _, _, _, _, _, _, _ => none
 | k + 1, x0, x3, x5, x6, x14, x15, x16, x21, x22, x23 => if x23 < x22 then (if 0 ≤ x23 then (if x23 < (x21.length : Int) then (if x5 = (rd x21 x23) then (impl_LinkRow.l1 k x0 x3 x5 x6 x14 x15 x16 x21 x22 (wrap64 (x23 + 1))) else ((impl_linked.f k x0 x5 (rd x21 x23)).bind fun t427 => (if t427 = true then (impl_LinkRow.l1 k x0 x3 x5 (wrap64 (x6 + 1)) x14 x15 x16 x21 x22 (wrap64 (x23 + 1))) else (impl_LinkRow.l1 k x0 x3 x5 x6 x14 x15 x16 x21 x22 (wrap64 (x23 + 1)))))) else (none)) else (none)) else (if x3.length < 17592186044416 then (impl_LinkRow.l0 k x0 (x3 ++ [x6]) x14 x15 (wrap64 (x16 + 1))) else (none))
end
def impl_LinkRow.f (k : Nat) (l0 : List Int) : Option (List Int) := (impl_IsCrossingWord.f k l0).bind fun t415 => (if t415 = true then ((impl_lettersOf.f k l0).bind fun t419 => (impl_LinkRow.l0 k l0 (([] : List Int)) t419 (t419.length : Int) 0)) else (some ([] : List Int)))
set_option maxHeartbeats 8000000 in
set_option maxRecDepth 100000 in
theorem impl_LinkRow.calls (k : Nat) (A0 : Option Addr) (c0 : Nat) (l0 : List Int) (r : List Int) (w : World) (hr0 : Kd.C (Kd.int .i64) w A0 l0.length l0) (hc0 : l0.length ≤ c0) (h : impl_LinkRow.f k l0 = some r) :
  Calls Try.prog 14 #[.slice A0 l0.length c0] w fun e w' => ∃ v0_ : Value, e = .returned (v0_) ∧ Kd.R (Kd.int .i64) 3 w' w.heap.size (fun _ => True) v0_ r ∧ Below w.heap.size w w' := by
 have HR0 := Az.mk hr0
 have HC0 := Az.mk hc0
 clear hr0 hc0
 have HB := Az.mk (Below.refl w.heap.size w)
 have H : ((impl_IsCrossingWord.f k l0).bind fun t415 => (if t415 = true then ((impl_lettersOf.f k l0).bind fun t419 => (impl_LinkRow.l0 k l0 (([] : List Int)) t419 (t419.length : Int) 0)) else (some ([] : List Int)))) = some r := h
 clear h
 replace H := bez H
 obtain ⟨t415, A2, H⟩ := H
 try dsimp only at H
 by_cases c3 : t415 = true
 rotate_left
 ·replace c3 := Bool.eq_false_iff.mpr c3
  subst c3
  rw [if_neg ff] at H
  obtain rfl := Option.some.inj H
  go_enter Try.func14, Try.ntmps14
  go_wp2_with (first | ((with_reducible refine gtC (f := 22) rfl ?_); refine clz Try.func22 (some 10) #[.slice A0 l0.length c0] ?_; (with_reducible refine (impl_IsCrossingWord.calls k _ _ l0 false _ ?side1 ?side2 A2.out).mono ?_); (case side1 => exact kC HR0.out); (case side2 => exact HC0.out); rintro e w24 ⟨rfl, hb⟩; refine ⟨_, rfl, ?_⟩; replace HB := Az.mk (bwT bw_17 hb); (try clear hb)))
  go_ret
  exact ⟨_, rq1, by first | exact Kd.R_nil _ _ _ _ _ | exact Kd.N_nil _ _ _ _ _ | exact Kd.V_nil _ _ _ _ _ | exact Kd.Q_nil _ _ _ _ _ | exact Kd.S_nil _ _ _ _ _, bw_17⟩
 subst c3
 rw [if_pos rfl] at H
 obtain ⟨y416, hy⟩ : ∃ y_ : List Int, y_ = (([] : List Int)) := ⟨_, rfl⟩
 replace H : ((impl_lettersOf.f k l0).bind fun t419 => (impl_LinkRow.l0 k l0 y416 t419 (t419.length : Int) 0)) = some r := rh
 have Ny416 := Az.mk hy
 clear hy
 replace H := bez H
 obtain ⟨t419, A4, H⟩ := H
 try dsimp only at H
 have H' := Az.mk H
 clear H
 go_enter Try.func14, Try.ntmps14
 go_wp2_with (first | ((with_reducible refine gtC (f := 22) rfl ?_); refine clz Try.func22 (some 10) #[.slice A0 l0.length c0] ?_; (with_reducible refine (impl_IsCrossingWord.calls k _ _ l0 true _ ?side1 ?side2 A2.out).mono ?_); (case side1 => exact kC HR0.out); (case side2 => exact HC0.out); rintro e w5 ⟨rfl, hb⟩; refine ⟨_, rfl, ?_⟩; replace HB := Az.mk (bwT bw_17 hb); (try clear hb)) | ((with_reducible refine gtD (N := 12) rfl ?_); refine Kd.R_lit (Kd.int .i64) _ 3 ?hg (N := 12) ?hd (xs := ([] : List Int)) (inner := []) (ok := fun _ => True) (okp := fun _ => True) ?hr ?hp (fun _ hk => hk) trivial (Below.refl _ _) (Nat.le_refl _) (by simp) ?_; (case hd => rfl); (case hg => rfl); (case hr => first | (go_simp; done) | (go_simp; rfl)); (case hp => exact (Reps.none _ _)); intro v417 w6 ho7 hb hg_ hnew_; clear hg_ hnew_; (first | rw [← Ny416.out] at ho7 | (simp only [Int.reduceToNat] at ho7; rw [← Ny416.out] at ho7)); have HO418 := Az.mk (Kd.R_lower ho7 (bwZ bw_17)); replace HB := Az.mk (bwT bw_17 hb); clear hb ho7) | ((with_reducible refine gtC (f := 42) rfl ?_); refine clz Try.func42 (some 14) #[.slice A0 l0.length c0] ?_; (with_reducible refine (impl_lettersOf.calls k _ _ l0 t419 _ ?side1 ?side2 A4.out).mono ?_); (case side1 => exact kC (Kd.C_below HR0.out HB.out)); (case side2 => exact HC0.out); rintro e w8 ⟨v420, rfl, ho0, hb⟩; refine ⟨_, rfl, ?_⟩; have HO421 := Az.mk (Kd.R_lower (Kd.R_new' ho0 (Kd.R_lt (kR HO418.out))) (bwZ bw_17)); replace HO418 := Az.mk (Kd.R_elder' (kR HO418.out) (Kd.R_base ho0) hb); replace HB := Az.mk (bwT bw_17 hb); (try clear hb); (try clear ho0); obtain ⟨Ao9, co9, eo9⟩ := Kd.R_slice HO421.out; subst eo9))
 go_loopg [3, 16] k (fun kq v3 v16 w' => ∃ (x3_1 : List Int) (x16_1 : Int), v16 = .int .i64 x16_1 ∧ Az (impl_LinkRow.l0 kq l0 x3_1 t419 (t419.length : Int) x16_1 = some r) ∧ Az (kq ≤ k) ∧ Az (Kd.R (Kd.int .i64) 3 w' w.heap.size (fun k_ => some k_ ≠ ((.slice Ao9 t419.length co9) : Value).ownBlock) v3 x3_1) ∧ Az (Kd.R (Kd.int .i64) 3 w' w.heap.size (fun k_ => some k_ ≠ (v3 : Value).ownBlock) (.slice Ao9 t419.length co9) t419) ∧ Az (Below w.heap.size w w'))
 case atStart => exact ⟨(y416), (0), rq2, H', ⟨Nat.le_refl _⟩, ⟨by (with_reducible repeat (first | apply Kd.R_alloc | apply Kd.R_drewN | apply Kd.R_drew)); exact Kd.R_mono HO418.out (fun _ hk => hk.2)⟩, ⟨by (with_reducible repeat (first | apply Kd.R_alloc | apply Kd.R_drewN | apply Kd.R_drew)); exact Kd.R_mono HO421.out (fun _ hk => hk.2)⟩, ⟨bw_17⟩⟩
 clear H'
 try clear c3
 obtain ⟨x3_1, x16_1, rfl, HA, HK1, HO_3, HO_14, HB⟩ := hrel
 cases gk with
 | zero => exact absurd HA.out (by simp [impl_LinkRow.l0])
 | succ k1 =>
  have H := HA.out
  clear HA
  simp only [impl_LinkRow.l0] at H
  by_cases c10 : x16_1 < (t419.length : Int)
  rotate_left
  ·rw [if_neg c10] at H
   have c10b0 : decide (x16_1 < (t419.length : Int)) = false := decide_eq_false c10
   clear c10
   obtain rfl := Option.some.inj H
   go_wp2
   go_ret
   exact ⟨_, rq1, by (with_reducible repeat (first | apply Kd.R_alloc | apply Kd.R_drewN | apply Kd.R_drew)); exact Kd.R_mono HO_3.out (fun _ hk => trivial), bw_17⟩
  rw [if_pos c10] at H
  have c10b0 : decide (x16_1 < (t419.length : Int)) = true := decide_eq_true c10
  clear c10
  by_cases c11 : 0 ≤ x16_1
  rotate_left
  ·rw [if_neg c11] at H
   exact absurd H (by simp)
  rw [if_pos c11] at H
  have c11b0 : decide (0 ≤ x16_1) = true := decide_eq_true c11
  clear c11
  by_cases c12 : x16_1 < (t419.length : Int)
  rotate_left
  ·rw [if_neg c12] at H
   exact absurd H (by simp)
  rw [if_pos c12] at H
  have c12b0 : decide (x16_1 < (t419.length : Int)) = true := decide_eq_true c12
  clear c12
  replace H := bez H
  obtain ⟨t423, A13, H⟩ := H
  try dsimp only at H
  have H' := Az.mk H
  clear H
  have p422 : 0 ≤ (x16_1 : Int) := of_decide_eq_true am
  have q422 : x16_1 < (t419.length : Int) := of_decide_eq_true am
  obtain ⟨ad422, e422, hx422_0⟩ := Kd.at_int (Kd.R_reads' HO_14.out).2.2 x16_1 p422 q422
  cases e422
  replace p422 := eq_true p422
  replace q422 := eq_true q422
  go_wp2_with (first | ((with_reducible refine gtC (f := 42) rfl ?_); refine clz Try.func42 (some 21) #[.slice A0 l0.length c0] ?_; (with_reducible refine (impl_lettersOf.calls k1 _ _ l0 t423 _ ?side1 ?side2 A13.out).mono ?_); (case side1 => exact kC (Kd.C_below HR0.out HB.out)); (case side2 => exact HC0.out); rintro e w14 ⟨v424, rfl, ho0, hb⟩; refine ⟨_, rfl, ?_⟩; have HO425 := Az.mk (Kd.R_lower (Kd.R_new' (Kd.R_new' ho0 (Kd.R_lt (kR HO_3.out))) (Kd.R_lt (kR HO_14.out))) (bwZ bw_17)); replace HO_3 := Az.mk (Kd.R_elder' (kR HO_3.out) (Kd.R_base ho0) hb); replace HO_14 := Az.mk (Kd.R_elder' (kR HO_14.out) (Kd.R_base ho0) hb); replace HB := Az.mk (bwT bw_17 hb); (try clear hb); (try clear ho0); obtain ⟨Ao15, co15, eo15⟩ := Kd.R_slice HO425.out; subst eo15))
  go_loopg [6, 23] k1 (fun kq v6 v23 w' => ∃ (x6_2 : Int) (x23_2 : Int), v6 = .int .i64 x6_2 ∧ v23 = .int .i64 x23_2 ∧ Az (impl_LinkRow.l1 kq l0 x3_1 (rd t419 x16_1) x6_2 t419 (t419.length : Int) x16_1 t423 (t423.length : Int) x23_2 = some r) ∧ Az (kq ≤ k1) ∧ Az (Kd.R (Kd.int .i64) 3 w' w.heap.size (fun k_ => some k_ ≠ ((.slice (some ad422) t419.length co9) : Value).ownBlock ∧ some k_ ≠ ((.slice Ao15 t423.length co15) : Value).ownBlock) u3 x3_1) ∧ Az (Kd.R (Kd.int .i64) 3 w' w.heap.size (fun k_ => some k_ ≠ (u3 : Value).ownBlock ∧ some k_ ≠ ((.slice Ao15 t423.length co15) : Value).ownBlock) (.slice (some ad422) t419.length co9) t419) ∧ Az (Kd.R (Kd.int .i64) 3 w' w.heap.size (fun k_ => some k_ ≠ (u3 : Value).ownBlock ∧ some k_ ≠ ((.slice (some ad422) t419.length co9) : Value).ownBlock) (.slice Ao15 t423.length co15) t423) ∧ Az (Below w.heap.size w w'))
  case atStart => exact ⟨(0), (0), rq2, rq2, H', ⟨Nat.le_refl _⟩, ⟨kR HO_3.out⟩, ⟨kR HO_14.out⟩, ⟨by (with_reducible repeat (first | apply Kd.R_alloc | apply Kd.R_drewN | apply Kd.R_drew)); exact Kd.R_mono HO425.out (fun _ hk => ⟨hk.1.2, hk.2⟩)⟩, ⟨bw_17⟩⟩
  clear H'
  try clear c3
  try clear c10
  try clear c10b0
  try clear c11
  try clear c11b0
  try clear c12
  try clear c12b0
  try clear hx422_0
  try clear p422
  try clear q422
  obtain ⟨x6_2, x23_2, rfl, rfl, HA, HK2, HO_3, HO_14, HO_21, HB⟩ := hrel
  cases gk with
  | zero => exact absurd HA.out (by simp [impl_LinkRow.l1])
  | succ k2 =>
   have H := HA.out
   clear HA
   simp only [impl_LinkRow.l1] at H
   by_cases c16 : x23_2 < (t423.length : Int)
   rotate_left
   ·rw [if_neg c16] at H
    have c16b0 : decide (x23_2 < (t423.length : Int)) = false := decide_eq_false c16
    clear c16
    by_cases c22 : x3_1.length < 17592186044416
    rotate_left
    ·rw [if_neg c22] at H
     exact absurd H (by simp)
    rw [if_pos c22] at H
    have LMc22 := Az.mk c22
    clear c22
    obtain ⟨y428, hy⟩ : ∃ y_ : List Int, y_ = (x3_1 ++ [x6_2]) := ⟨_, rfl⟩
    replace H : (impl_LinkRow.l0 k2 l0 y428 t419 (t419.length : Int) (wrap64 (x16_1 + 1))) = some r := rh
    have Ny428 := Az.mk hy
    clear hy
    have H' := Az.mk H
    clear H
    go_wp2_with (first | ((with_reducible refine gate_builtin (b := .append) (xs := #[.tmp 39, .tmp 41]) rfl ?_); at_builtin; refine Kd.R_append (Kd.int .i64) (w0 := w) w.heap.size rfl (.tmp 39) (.tmp 41) 24 3 (.int .i64 0) 8 rfl Try.underlying24 info3 rfl (by decide) (by omega) u3 x3_1 x6_2 [.int .i64 x6_2] (fun k_ => some k_ ≠ (.slice (some ad422) t419.length co9 : Value).ownBlock ∧ some k_ ≠ (.slice Ao15 t423.length co15 : Value).ownBlock) (fun _ => False) rfl rfl ?aP (fun _ hk => hk.elim) ?aF ?aO ?aB ?aS ?aL ?_; (case aP => exact rfl); (case aB => exact bw_17); (case aF => exact (fun k_ hk => ⟨Kd.fresh' (Kd.R_lt (kR HO_14.out)) k_ hk, Kd.fresh' (Kd.R_lt (kR HO_21.out)) k_ hk⟩)); (case aO => exact (kR HO_3.out)); (case aS => exact (bwZ bw_17)); (case aL => have := LMc22.out; omega); intro v429 w23 ho hb hg hat; rw [← Ny428.out] at ho; have n0_ := Az.mk (Kd.R_after (ok := (fun k_ => some k_ ≠ (.slice Ao15 t423.length co15 : Value).ownBlock)) (by (with_reducible repeat (first | apply Kd.R_alloc | apply Kd.R_drewN | apply Kd.R_drew)); exact Kd.R_mono HO_14.out (fun _ hk => ⟨hk.2, hk.1⟩)) hg hat); have n1_ := Az.mk (Kd.R_after (ok := (fun k_ => some k_ ≠ (.slice (some ad422) t419.length co9 : Value).ownBlock)) (by (with_reducible repeat (first | apply Kd.R_alloc | apply Kd.R_drewN | apply Kd.R_drew)); exact Kd.R_mono HO_21.out (fun _ hk => ⟨hk.2, hk.1⟩)) hg hat); have n2_ := Az.mk (hb); have n3_ := Az.mk (ho); clear HO_14; clear HO_21; clear HB; clear HO_3; have HO_14 := n0_; have HO_21 := n1_; have HB := n2_; have HO430 := n3_; clear n0_ n1_ n2_ n3_; clear ho hb hg hat))
    go_roundg k2
    case measure => have := HK1.out; have := HK2.out; omega
    case rel => exact ⟨(y428), (wrap64 (x16_1 + 1)), rq2, H', ⟨by have := HK1.out; have := HK2.out; omega⟩, ⟨by (with_reducible repeat (first | apply Kd.R_alloc | apply Kd.R_drewN | apply Kd.R_drew)); exact Kd.R_mono HO430.out (fun _ hk => hk.1)⟩, ⟨by (with_reducible repeat (first | apply Kd.R_alloc | apply Kd.R_drewN | apply Kd.R_drew)); exact Kd.R_mono HO_14.out (fun _ hk => hk.2)⟩, ⟨bw_17⟩⟩
   rw [if_pos c16] at H
   have c16b0 : decide (x23_2 < (t423.length : Int)) = true := decide_eq_true c16
   clear c16
   by_cases c17 : 0 ≤ x23_2
   rotate_left
   ·rw [if_neg c17] at H
    exact absurd H (by simp)
   rw [if_pos c17] at H
   have c17b0 : decide (0 ≤ x23_2) = true := decide_eq_true c17
   clear c17
   by_cases c18 : x23_2 < (t423.length : Int)
   rotate_left
   ·rw [if_neg c18] at H
    exact absurd H (by simp)
   rw [if_pos c18] at H
   have c18b0 : decide (x23_2 < (t423.length : Int)) = true := decide_eq_true c18
   clear c18
   by_cases c19 : (rd t419 x16_1) = (rd t423 x23_2)
   ·rw [if_pos c19] at H
    have c19b0 : ((rd t419 x16_1) == (rd t423 x23_2)) = true := beq_iff_eq.mpr c19
    have c19b1 : ((rd t419 x16_1) != (rd t423 x23_2)) = false := bne_eq_false_iff_eq.mpr c19
    clear c19
    have H' := Az.mk H
    clear H
    have p426 : 0 ≤ (x23_2 : Int) := of_decide_eq_true am
    have q426 : x23_2 < (t423.length : Int) := of_decide_eq_true am
    obtain ⟨ad426, e426, hx426_0⟩ := Kd.at_int (Kd.R_reads' HO_21.out).2.2 x23_2 p426 q426
    cases e426
    replace p426 := eq_true p426
    replace q426 := eq_true q426
    go_wp2
    go_roundg k2
    case measure => have := HK1.out; have := HK2.out; omega
    case rel => exact ⟨(x6_2), (wrap64 (x23_2 + 1)), rq2, rq2, H', ⟨by have := HK1.out; have := HK2.out; omega⟩, ⟨kR HO_3.out⟩, ⟨kR HO_14.out⟩, ⟨kR HO_21.out⟩, ⟨bw_17⟩⟩
   rw [if_neg c19] at H
   have c19b0 : ((rd t419 x16_1) == (rd t423 x23_2)) = false := beq_eq_false_iff_ne.mpr c19
   have c19b1 : ((rd t419 x16_1) != (rd t423 x23_2)) = true := bne_iff_ne.mpr c19
   replace H := bez H
   obtain ⟨t427, A20, H⟩ := H
   try dsimp only at H
   by_cases c21 : t427 = true
   ·subst c21
    rw [if_pos rfl] at H
    have H' := Az.mk H
    clear H
    have p426 : 0 ≤ (x23_2 : Int) := of_decide_eq_true am
    have q426 : x23_2 < (t423.length : Int) := of_decide_eq_true am
    obtain ⟨ad426, e426, hx426_0⟩ := Kd.at_int (Kd.R_reads' HO_21.out).2.2 x23_2 p426 q426
    cases e426
    replace p426 := eq_true p426
    replace q426 := eq_true q426
    go_wp2_with (first | (go_at_call 43; (with_reducible refine (impl_linked.calls k2 _ _ l0 (rd t419 x16_1) (rd t423 x23_2) true _ ?side1 ?side2 A20.out).mono ?_); (case side1 => exact kC (Kd.C_below HR0.out HB.out)); (case side2 => exact HC0.out); rintro e w' ⟨rfl, ⟨nd, rfl⟩⟩))
    go_roundg k2
    case measure => have := HK1.out; have := HK2.out; omega
    case rel => exact ⟨(wrap64 (x6_2 + 1)), (wrap64 (x23_2 + 1)), rq2, rq2, H', ⟨by have := HK1.out; have := HK2.out; omega⟩, ⟨kR HO_3.out⟩, ⟨kR HO_14.out⟩, ⟨kR HO_21.out⟩, ⟨bw_17⟩⟩
   replace c21 := Bool.eq_false_iff.mpr c21
   subst c21
   rw [if_neg ff] at H
   have H' := Az.mk H
   clear H
   have p426 : 0 ≤ (x23_2 : Int) := of_decide_eq_true am
   have q426 : x23_2 < (t423.length : Int) := of_decide_eq_true am
   obtain ⟨ad426, e426, hx426_0⟩ := Kd.at_int (Kd.R_reads' HO_21.out).2.2 x23_2 p426 q426
   cases e426
   replace p426 := eq_true p426
   replace q426 := eq_true q426
   go_wp2_with (first | (go_at_call 43; (with_reducible refine (impl_linked.calls k2 _ _ l0 (rd t419 x16_1) (rd t423 x23_2) false _ ?side1 ?side2 A20.out).mono ?_); (case side1 => exact kC (Kd.C_below HR0.out HB.out)); (case side2 => exact HC0.out); rintro e w' ⟨rfl, ⟨nd, rfl⟩⟩))
   go_roundg k2
   case measure => have := HK1.out; have := HK2.out; omega
   case rel => exact ⟨(x6_2), (wrap64 (x23_2 + 1)), rq2, rq2, H', ⟨by have := HK1.out; have := HK2.out; omega⟩, ⟨kR HO_3.out⟩, ⟨kR HO_14.out⟩, ⟨kR HO_21.out⟩, ⟨bw_17⟩⟩

/-! ### impl_copyOf: function 44 -/
def impl_copyOf.f (l0 : List Int) : Option (List Int) := (some (([] : List Int) : List Int)).bind fun y431 => (if y431.length + l0.length < 17592186044416 then (some (y431 ++ l0)) else (none))
set_option maxHeartbeats 8000000 in
set_option maxRecDepth 100000 in
theorem impl_copyOf.calls (A0 : Option Addr) (c0 : Nat) (l0 : List Int) (r : List Int) (w : World) (hr0 : Kd.C (Kd.int .i64) w A0 l0.length l0) (hc0 : l0.length ≤ c0) (h : impl_copyOf.f l0 = some r) :
  Calls Try.prog 44 #[.slice A0 l0.length c0] w fun e w' => ∃ v0_ : Value, e = .returned (v0_) ∧ Kd.R (Kd.int .i64) 3 w' w.heap.size (fun _ => True) v0_ r ∧ Below w.heap.size w w' := by
 have HR0 := Az.mk hr0
 have HC0 := Az.mk hc0
 clear hr0 hc0
 have HB := Az.mk (Below.refl w.heap.size w)
 have H : ((some (([] : List Int) : List Int)).bind fun y431 => (if y431.length + l0.length < 17592186044416 then (some (y431 ++ l0)) else (none))) = some r := h
 clear h
 obtain ⟨y431, hy⟩ : ∃ y_ : List Int, y_ = (([] : List Int)) := ⟨_, rfl⟩
 replace H : (if y431.length + l0.length < 17592186044416 then (some (y431 ++ l0)) else (none)) = some r := rh
 have Ny431 := Az.mk hy
 clear hy
 by_cases c2 : y431.length + l0.length < 17592186044416
 rotate_left
 ·rw [if_neg c2] at H
  exact absurd H (by simp)
 rw [if_pos c2] at H
 have LMc2 := Az.mk c2
 clear c2
 obtain ⟨y434, hy⟩ : ∃ y_ : List Int, y_ = (y431 ++ l0) := ⟨_, rfl⟩
 replace H : (some y434) = some r := rh
 have Ny434 := Az.mk hy
 clear hy
 obtain rfl := Option.some.inj H
 go_enter Try.func44, Try.ntmps44
 go_wp2_with (first | ((with_reducible refine gtD (N := 3) rfl ?_); refine Kd.R_lit (Kd.int .i64) _ 3 ?hg (N := 3) ?hd (xs := ([] : List Int)) (inner := []) (ok := fun _ => True) (okp := fun _ => True) ?hr ?hp (fun _ hk => hk) trivial (Below.refl _ _) (Nat.le_refl _) (by simp) ?_; (case hd => rfl); (case hg => rfl); (case hr => first | (go_simp; done) | (go_simp; rfl)); (case hp => exact (Reps.none _ _)); intro v432 w3 ho4 hb hg_ hnew_; clear hg_ hnew_; (first | rw [← Ny431.out] at ho4 | (simp only [Int.reduceToNat] at ho4; rw [← Ny431.out] at ho4)); have HO433 := Az.mk (Kd.R_lower ho4 (bwZ bw_17)); replace HB := Az.mk (bwT bw_17 hb); clear hb ho4) | ((with_reducible refine gate_builtin (b := .append) (xs := #[.tmp 3, .tmp 4]) rfl ?_); at_builtin; refine Kd.R_append_rows (Kd.int .i64) (w0 := w) w.heap.size rfl (.tmp 3) (.tmp 4) 24 3 (.int .i64 0) 8 rfl Try.underlying24 info3 rfl (by decide) (by omega) v432 y431 l0 _ _ _ (fun _ => True) (fun _ => False) rfl rfl ?aO ?aR (fun _ _ h => h) (fun _ h => h.elim) ?aF ?aB ?aS ?aL ?_; (case aR => exact kC (Kd.C_below HR0.out HB.out)); (case aB => exact bw_17); (case aF => exact (fun _ _ => trivial)); (case aO => exact (kR HO433.out)); (case aS => exact (bwZ bw_17)); (case aL => have := LMc2.out; omega); intro v435 w5 ho hb hg hat; rw [← Ny434.out] at ho; have n0_ := Az.mk (hb); have n1_ := Az.mk (ho); clear HB; clear HO433; have HB := n0_; have HO436 := n1_; clear n0_ n1_; clear ho hb hg hat))
 go_ret
 exact ⟨_, rq1, kR HO436.out, bw_17⟩

end Go.Proofs.Ytkmjcdlhlhefdaa.P
