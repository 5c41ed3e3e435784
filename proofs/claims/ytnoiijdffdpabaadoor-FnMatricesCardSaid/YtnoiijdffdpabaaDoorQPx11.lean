-- By this session's driver (wip/tools/mk.py) of the kit's print program, over several statements at once. Not trusted: Lean checks it.
import Derived.Test.YtnoiijdffdpabaaDoorQWZip
import Derived.Test.YtnoiijdffdpabaaDoorQPx0
import Derived.Test.YtnoiijdffdpabaaDoorQPx9
import Derived.Test.YtnoiijdffdpabaaDoorQPx10
namespace Go.Proofs.YtnoiijdffdpabaaDoor.P
open Go.RowKit Go.Proofs.YtnoiijdffdpabaaDoorW.PrintWords Go.Proofs.YtnoiijdffdpabaaDoorW.PrintLast Go.Proofs.YtnoiijdffdpabaaDoorW.PrintMore
attribute [local go_sem] max2_int min2_int max_two min_two max_three min_three max_four min_four   -- for this text's walks alone
set_option linter.unusedVariables false
set_option linter.unusedSimpArgs false
theorem bw_11 {n : Nat} {v v' : World} (h : Below n v v' := by repeat (first | (with_reducible first | exact HB.out | apply bwA | apply pbN | apply bwD | refine bwS ?_ GE239.out) | exact HB.out)) : Below n v v' := h
theorem ln_11 {P : Prop} (h : P := by (try simp only [List.map_toArray, List.map_cons, List.map_nil]); first | done | rfl | (simp only [List.length_drop, List.length_take]; rfl)) : P := h
open Option renaming bind_eq_some_iff → be
theorem z11_7 {p : Prop} (h : p := by repeat (first | (with_reducible first | exact HB.out | apply bwA | apply pbN | apply bwD | refine bwS ?_ (IsS71.ge HI0.out)) | exact HB.out)) : p := h
theorem z11_6 {p : Prop} (h : p := by repeat (first | (with_reducible first | exact HB.out | apply bwA | apply pbN | apply bwD | refine bwS ?_ (IsS71.ge HI0.out) | refine bwS ?_ GE214.out) | exact HB.out)) : p := h
theorem z11_5 {p : Prop} (h : p := by repeat (first | (with_reducible first | exact HK.out | apply KeepBut.set_ | apply keep_drewN | apply keep_drew | apply keep_alloc | refine keep_far ?_ GW214.out _ | refine keep_far ?_ GW223.out _) | exact HK.out)) : p := h
theorem z11_4 {p : Prop} (h : p := by repeat (first | (with_reducible first | exact HI0.out | apply IsS71.alloc | apply IsS71.drewN | apply IsS71.drew | apply IsS71.set_1 | apply IsS71.set_2 | refine IsS71.far ?_ NB0_214.out _ | refine IsS71.far ?_ NB0_223.out _) | exact HI0.out)) : p := h
theorem z11_3 {p : Prop} (h : p := by repeat (first | (with_reducible first | exact HI0.out | apply IsS71.alloc | apply IsS71.drewN | apply IsS71.drew | apply IsS71.set_1 | apply IsS71.set_2) | exact HI0.out)) : p := h
theorem z11_2 {p : Prop} (h : p := by repeat (first | (with_reducible first | exact HI0.out | apply IsS71.alloc | apply IsS71.drewN | apply IsS71.drew | apply IsS71.set_1 | apply IsS71.set_2 | refine IsS71.far ?_ NB0_214.out _) | exact HI0.out)) : p := h
theorem z11_1 {p : Prop} (h : p := by repeat (first | (with_reducible first | exact HK.out | apply KeepBut.set_ | apply keep_drewN | apply keep_drew | apply keep_alloc) | exact HK.out)) : p := h
theorem z11_0 {p : Prop} (h : p := by repeat (first | (with_reducible first | exact HK.out | apply KeepBut.set_ | apply keep_drewN | apply keep_drew | apply keep_alloc | refine keep_far ?_ GW214.out _) | exact HK.out)) : p := h

/-! ### spec_l1Byte: function 69 -/
def spec_l1Byte.f (s0_0 : List Int) (s0_1 : Int) (s0_2 : Int) : Option (Int × Int × Int) := if s0_1 < (s0_0.length : Int) then (if 0 ≤ s0_1 then (some (Go.bits .and .i64 (wrap64 ((Go.bits .and .i64 (Go.bits .xor .i64 ((wrap64 ((wrap64 (s0_2 * 6364136223846793005)) + 1442695040888963407)) / 8589934592) ((wrap64 ((wrap64 (s0_2 * 6364136223846793005)) + 1442695040888963407)) / 35184372088832)) 255) + (wrap64 (rd s0_0 s0_1)))) 255, wrap64 (s0_1 + 1), wrap64 ((wrap64 (s0_2 * 6364136223846793005)) + 1442695040888963407))) else (none)) else (some (Go.bits .and .i64 (Go.bits .xor .i64 ((wrap64 ((wrap64 (s0_2 * 6364136223846793005)) + 1442695040888963407)) / 8589934592) ((wrap64 ((wrap64 (s0_2 * 6364136223846793005)) + 1442695040888963407)) / 35184372088832)) 255, s0_1, wrap64 ((wrap64 (s0_2 * 6364136223846793005)) + 1442695040888963407)))
set_option maxHeartbeats 8000000 in
set_option maxRecDepth 100000 in
theorem spec_l1Byte.calls (g : Nat) (s0_0 : List Int) (s0_1 : Int) (s0_2 : Int) (r1 : Int) (r2 : Int) (r3 : Int) (w0 w : World) (hI : IsS71 w0 w g s0_0 s0_1 s0_2) (hB : Below w0.heap.size w0 w) (h : spec_l1Byte.f s0_0 s0_1 s0_2 = some (r1, r2, r3)) :
  Calls Tryd.prog 69 #[.pointer (some ⟨g, 0, none⟩)] w fun e w' => e = .returned (.int .i64 r1) ∧ IsS71 w0 w' g s0_0 r2 r3 ∧ Below w0.heap.size w0 w' ∧ KeepBut w w' g none := by
 have HI0 := Az.mk hI
 have HK := Az.mk (KeepBut.refl w g none)
 have HL := Az.mk hB.size
 clear hI
 have HW0 := Az.mk hB.size
 have HB := Az.mk hB
 clear hB
 have H : (if s0_1 < (s0_0.length : Int) then (if 0 ≤ s0_1 then (some (Go.bits .and .i64 (wrap64 ((Go.bits .and .i64 (Go.bits .xor .i64 ((wrap64 ((wrap64 (s0_2 * 6364136223846793005)) + 1442695040888963407)) / 8589934592) ((wrap64 ((wrap64 (s0_2 * 6364136223846793005)) + 1442695040888963407)) / 35184372088832)) 255) + (wrap64 (rd s0_0 s0_1)))) 255, wrap64 (s0_1 + 1), wrap64 ((wrap64 (s0_2 * 6364136223846793005)) + 1442695040888963407))) else (none)) else (some (Go.bits .and .i64 (Go.bits .xor .i64 ((wrap64 ((wrap64 (s0_2 * 6364136223846793005)) + 1442695040888963407)) / 8589934592) ((wrap64 ((wrap64 (s0_2 * 6364136223846793005)) + 1442695040888963407)) / 35184372088832)) 255, s0_1, wrap64 ((wrap64 (s0_2 * 6364136223846793005)) + 1442695040888963407)))) = some (r1, r2, r3) := h
 clear h
 by_cases c2 : s0_1 < (s0_0.length : Int)
 rotate_left
 ·rw [if_neg c2] at H
  have c2b0 : decide (s0_1 < (s0_0.length : Int)) = false := decide_eq_false c2
  clear c2
  simp only [Option.some.injEq, Prod.mk.injEq] at H
  obtain ⟨rfl, rfl, rfl⟩ := H
  obtain ⟨ASz5_0, cSz5_0, HGz5, hgz5, HSz5_0⟩ := HI0.out
  have hcz5_0 := cellS71_0 HGz5
  have hcz5_1 := cellS71_1 HGz5
  have hcz5_2 := cellS71_2 HGz5
  have hfz5_1 := bkF HGz5 1
  have hfz5_2 := bkF HGz5 2
  clear HGz5 hgz5
  go_enter Tryd.func69, Tryd.ntmps69
  go_wp2
  repeat (go_quiet (fail); try go_wp2)
  go_ret
  exact ⟨rq1, by repeat (first | (with_reducible first | exact HI0.out | apply IsS71.alloc | apply IsS71.drewN | apply IsS71.drew | apply IsS71.set_1 | apply IsS71.set_2) | exact HI0.out), by repeat (first | (with_reducible first | exact HB.out | apply bwA | apply pbN | apply bwD | refine bwS ?_ (IsS71.ge HI0.out)) | exact HB.out), by repeat (first | (with_reducible first | exact HK.out | apply KeepBut.set_ | apply keep_drewN | apply keep_drew | apply keep_alloc) | exact HK.out)⟩
 rw [if_pos c2] at H
 have c2b0 : decide (s0_1 < (s0_0.length : Int)) = true := decide_eq_true c2
 clear c2
 by_cases c3 : 0 ≤ s0_1
 rotate_left
 ·rw [if_neg c3] at H
  exact absurd H (by simp)
 rw [if_pos c3] at H
 have c3b0 : decide (0 ≤ s0_1) = true := decide_eq_true c3
 clear c3
 simp only [Option.some.injEq, Prod.mk.injEq] at H
 obtain ⟨rfl, rfl, rfl⟩ := H
 obtain ⟨ASz4_0, cSz4_0, HGz4, hgz4, HSz4_0⟩ := HI0.out
 have hcz4_0 := cellS71_0 HGz4
 have hcz4_1 := cellS71_1 HGz4
 have hcz4_2 := cellS71_2 HGz4
 have hfz4_1 := bkF HGz4 1
 have hfz4_2 := bkF HGz4 2
 clear HGz4 hgz4
 have p185 : 0 ≤ (s0_1 : Int) := of_decide_eq_true (by first | (with_reducible assumption) | assumption)
 have q185 : s0_1 < (s0_0.length : Int) := of_decide_eq_true (by first | (with_reducible assumption) | assumption)
 obtain ⟨ad185, e185, hx185_0⟩ := Kd.at_int HSz4_0 s0_1 p185 q185
 cases e185
 have hn185_0 : ad185.block ≠ g := Nat.ne_of_lt (Nat.lt_of_lt_of_le (by have := World.block_lt_of_cell? _ _ hx185_0; first | rwa [add_block] at this | exact this) (IsS71.ge HI0.out))
 replace hx185_0 := pw_cell_below HB.out hx185_0
 replace hx185_0 := (cell_far (p := ⟨g, 2, none⟩) (by first | (rw [add_block]; exact hn185_0) | (show (Addr.add _ _).block ≠ _; rw [add_block]; exact hn185_0) | exact hn185_0) (.int .i64 (wrap64 ((wrap64 (s0_2 * 6364136223846793005)) + 1442695040888963407)))).trans hx185_0
 (try have hy185_0 := fun (n_ : Nat) => (show (((w.drewN n_).setCell ⟨g, 2, none⟩ (.int .i64 (wrap64 ((wrap64 (s0_2 * 6364136223846793005)) + 1442695040888963407))))).cell? _ = some _ from hx185_0))
 clear hn185_0
 replace p185 := eq_true p185
 replace q185 := eq_true q185
 go_enter Tryd.func69, Tryd.ntmps69
 go_wp2
 repeat (go_quiet (fail); try go_wp2)
 go_ret
 exact ⟨rq1, by repeat (first | (with_reducible first | exact HI0.out | apply IsS71.alloc | apply IsS71.drewN | apply IsS71.drew | apply IsS71.set_1 | apply IsS71.set_2) | exact HI0.out), by repeat (first | (with_reducible first | exact HB.out | apply bwA | apply pbN | apply bwD | refine bwS ?_ (IsS71.ge HI0.out)) | exact HB.out), by repeat (first | (with_reducible first | exact HK.out | apply KeepBut.set_ | apply keep_drewN | apply keep_drew | apply keep_alloc) | exact HK.out)⟩

/-! ### spec_l1Below: function 58 -/
def spec_l1Below.f (s0_0 : List Int) (s0_1 : Int) (s0_2 : Int) (a1 : Int) : Option (Int × Int × Int) := if a1 ≤ 0 then (some (0, s0_1, s0_2)) else (if a1 ≤ 256 then ((spec_l1Byte.f s0_0 s0_1 s0_2).bind fun bt186 => (if a1 = 0 then (none) else (some (Int.tmod bt186.1 a1, bt186.2.1, bt186.2.2)))) else ((spec_l1Byte.f s0_0 s0_1 s0_2).bind fun bt189 => ((spec_l1Byte.f s0_0 bt189.2.1 bt189.2.2).bind fun bt192 => ((spec_l1Byte.f s0_0 bt192.2.1 bt192.2.2).bind fun bt195 => ((spec_l1Byte.f s0_0 bt195.2.1 bt195.2.2).bind fun bt198 => (if a1 = 0 then (none) else (some (Int.tmod (wrap64 ((wrap64 ((wrap64 ((wrap64 (bt189.1 * 16777216)) + (wrap64 (bt192.1 * 65536)))) + (wrap64 (bt195.1 * 256)))) + bt198.1)) a1, bt198.2.1, bt198.2.2))))))))
set_option maxHeartbeats 8000000 in
set_option maxRecDepth 100000 in
theorem spec_l1Below.calls (g : Nat) (s0_0 : List Int) (s0_1 : Int) (s0_2 : Int) (a1 : Int) (r1 : Int) (r2 : Int) (r3 : Int) (w0 w : World) (hI : IsS71 w0 w g s0_0 s0_1 s0_2) (hB : Below w0.heap.size w0 w) (h : spec_l1Below.f s0_0 s0_1 s0_2 a1 = some (r1, r2, r3)) :
  Calls Tryd.prog 58 #[.pointer (some ⟨g, 0, none⟩), .int .i64 a1] w fun e w' => e = .returned (.int .i64 r1) ∧ IsS71 w0 w' g s0_0 r2 r3 ∧ Below w0.heap.size w0 w' ∧ KeepBut w w' g none := by
 have HI0 := Az.mk hI
 have HK := Az.mk (KeepBut.refl w g none)
 have HL := Az.mk hB.size
 clear hI
 have HW0 := Az.mk hB.size
 have HB := Az.mk hB
 clear hB
 have H : (if a1 ≤ 0 then (some (0, s0_1, s0_2)) else (if a1 ≤ 256 then ((spec_l1Byte.f s0_0 s0_1 s0_2).bind fun bt186 => (if a1 = 0 then (none) else (some (Int.tmod bt186.1 a1, bt186.2.1, bt186.2.2)))) else ((spec_l1Byte.f s0_0 s0_1 s0_2).bind fun bt189 => ((spec_l1Byte.f s0_0 bt189.2.1 bt189.2.2).bind fun bt192 => ((spec_l1Byte.f s0_0 bt192.2.1 bt192.2.2).bind fun bt195 => ((spec_l1Byte.f s0_0 bt195.2.1 bt195.2.2).bind fun bt198 => (if a1 = 0 then (none) else (some (Int.tmod (wrap64 ((wrap64 ((wrap64 ((wrap64 (bt189.1 * 16777216)) + (wrap64 (bt192.1 * 65536)))) + (wrap64 (bt195.1 * 256)))) + bt198.1)) a1, bt198.2.1, bt198.2.2))))))))) = some (r1, r2, r3) := h
 clear h
 by_cases c3 : a1 ≤ 0
 ·rw [if_pos c3] at H
  have c3b0 : decide (a1 ≤ 0) = true := decide_eq_true c3
  clear c3
  simp only [Option.some.injEq, Prod.mk.injEq] at H
  obtain ⟨rfl, rfl, rfl⟩ := H
  go_enter Tryd.func58, Tryd.ntmps58
  go_wp2
  go_ret
  exact ⟨rq1, by repeat (first | (with_reducible first | exact HI0.out | apply IsS71.alloc | apply IsS71.drewN | apply IsS71.drew | apply IsS71.set_1 | apply IsS71.set_2) | exact HI0.out), by repeat (first | (with_reducible first | exact HB.out | apply bwA | apply pbN | apply bwD | refine bwS ?_ (IsS71.ge HI0.out)) | exact HB.out), by repeat (first | (with_reducible first | exact HK.out | apply KeepBut.set_ | apply keep_drewN | apply keep_drew | apply keep_alloc) | exact HK.out)⟩
 rw [if_neg c3] at H
 have c3b0 : decide (a1 ≤ 0) = false := decide_eq_false c3
 clear c3
 by_cases c4 : a1 ≤ 256
 ·rw [if_pos c4] at H
  have c4b0 : decide (a1 ≤ 256) = true := decide_eq_true c4
  clear c4
  replace H := bez H
  obtain ⟨⟨t186, t187, t188⟩, A5, H⟩ := H
  try dsimp only at H
  by_cases c6 : a1 = 0
  ·rw [if_pos c6] at H
   exact absurd H (by simp)
  rw [if_neg c6] at H
  have c6b0 : (a1 == 0) = false := beq_eq_false_iff_ne.mpr c6
  have c6b1 : (a1 != 0) = true := bne_iff_ne.mpr c6
  simp only [Option.some.injEq, Prod.mk.injEq] at H
  obtain ⟨rfl, rfl, rfl⟩ := H
  go_enter Tryd.func58, Tryd.ntmps58
  go_wp2_with (first | ((with_reducible refine gtC (f := 69) rfl ?_); refine clz Tryd.func69 (some 14) #[.pointer (some ⟨g, 0, none⟩)] ?_; (with_reducible refine (spec_l1Byte.calls g s0_0 s0_1 s0_2 t186 t187 t188 w0 _ ?side1 ?side2 A5.out).mono ?_); (case side1 => exact z11_3); (case side2 => repeat (first | (with_reducible first | exact HB.out | apply bwA | apply pbN | apply bwD | refine bwS ?_ (IsS71.ge HI0.out)) | exact HB.out)); rintro e w7 ⟨rfl, hi, hb, hk⟩; refine ⟨_, rfl, ?_⟩; replace HK := Az.mk (KeepBut.trans z11_1 hk (.inl rfl)); replace HB := Az.mk (hb); replace HI0 := Az.mk (hi); (try clear hb); (try clear hk); (try clear hi)))
  go_ret
  exact ⟨rq1, by repeat (first | (with_reducible first | exact HI0.out | apply IsS71.alloc | apply IsS71.drewN | apply IsS71.drew | apply IsS71.set_1 | apply IsS71.set_2) | exact HI0.out), by repeat (first | (with_reducible first | exact HB.out | apply bwA | apply pbN | apply bwD | refine bwS ?_ (IsS71.ge HI0.out)) | exact HB.out), by repeat (first | (with_reducible first | exact HK.out | apply KeepBut.set_ | apply keep_drewN | apply keep_drew | apply keep_alloc) | exact HK.out)⟩
 rw [if_neg c4] at H
 have c4b0 : decide (a1 ≤ 256) = false := decide_eq_false c4
 clear c4
 replace H := bez H
 obtain ⟨⟨t189, t190, t191⟩, A8, H⟩ := H
 try dsimp only at H
 replace H := bez H
 obtain ⟨⟨t192, t193, t194⟩, A9, H⟩ := H
 try dsimp only at H
 replace H := bez H
 obtain ⟨⟨t195, t196, t197⟩, A10, H⟩ := H
 try dsimp only at H
 replace H := bez H
 obtain ⟨⟨t198, t199, t200⟩, A11, H⟩ := H
 try dsimp only at H
 by_cases c12 : a1 = 0
 ·rw [if_pos c12] at H
  exact absurd H (by simp)
 rw [if_neg c12] at H
 have c12b0 : (a1 == 0) = false := beq_eq_false_iff_ne.mpr c12
 have c12b1 : (a1 != 0) = true := bne_iff_ne.mpr c12
 simp only [Option.some.injEq, Prod.mk.injEq] at H
 obtain ⟨rfl, rfl, rfl⟩ := H
 go_enter Tryd.func58, Tryd.ntmps58
 go_wp2_with (first | ((with_reducible refine gtC (f := 69) rfl ?_); refine clz Tryd.func69 (some 18) #[.pointer (some ⟨g, 0, none⟩)] ?_; (with_reducible refine (spec_l1Byte.calls g s0_0 s0_1 s0_2 t189 t190 t191 w0 _ ?side1 ?side2 A8.out).mono ?_); (case side1 => exact z11_3); (case side2 => repeat (first | (with_reducible first | exact HB.out | apply bwA | apply pbN | apply bwD | refine bwS ?_ (IsS71.ge HI0.out)) | exact HB.out)); rintro e w13 ⟨rfl, hi, hb, hk⟩; refine ⟨_, rfl, ?_⟩; replace HK := Az.mk (KeepBut.trans z11_1 hk (.inl rfl)); replace HB := Az.mk (hb); replace HI0 := Az.mk (hi); (try clear hb); (try clear hk); (try clear hi)) | ((with_reducible refine gtC (f := 69) rfl ?_); refine clz Tryd.func69 (some 20) #[.pointer (some ⟨g, 0, none⟩)] ?_; (with_reducible refine (spec_l1Byte.calls g s0_0 t190 t191 t192 t193 t194 w0 _ ?side1 ?side2 A9.out).mono ?_); (case side1 => exact z11_3); (case side2 => repeat (first | (with_reducible first | exact HB.out | apply bwA | apply pbN | apply bwD | refine bwS ?_ (IsS71.ge HI0.out)) | exact HB.out)); rintro e w14 ⟨rfl, hi, hb, hk⟩; refine ⟨_, rfl, ?_⟩; replace HK := Az.mk (KeepBut.trans z11_1 hk (.inl rfl)); replace HB := Az.mk (hb); replace HI0 := Az.mk (hi); (try clear hb); (try clear hk); (try clear hi)) | ((with_reducible refine gtC (f := 69) rfl ?_); refine clz Tryd.func69 (some 22) #[.pointer (some ⟨g, 0, none⟩)] ?_; (with_reducible refine (spec_l1Byte.calls g s0_0 t193 t194 t195 t196 t197 w0 _ ?side1 ?side2 A10.out).mono ?_); (case side1 => exact z11_3); (case side2 => repeat (first | (with_reducible first | exact HB.out | apply bwA | apply pbN | apply bwD | refine bwS ?_ (IsS71.ge HI0.out)) | exact HB.out)); rintro e w15 ⟨rfl, hi, hb, hk⟩; refine ⟨_, rfl, ?_⟩; replace HK := Az.mk (KeepBut.trans z11_1 hk (.inl rfl)); replace HB := Az.mk (hb); replace HI0 := Az.mk (hi); (try clear hb); (try clear hk); (try clear hi)) | ((with_reducible refine gtC (f := 69) rfl ?_); refine clz Tryd.func69 (some 24) #[.pointer (some ⟨g, 0, none⟩)] ?_; (with_reducible refine (spec_l1Byte.calls g s0_0 t196 t197 t198 t199 t200 w0 _ ?side1 ?side2 A11.out).mono ?_); (case side1 => exact z11_3); (case side2 => repeat (first | (with_reducible first | exact HB.out | apply bwA | apply pbN | apply bwD | refine bwS ?_ (IsS71.ge HI0.out)) | exact HB.out)); rintro e w16 ⟨rfl, hi, hb, hk⟩; refine ⟨_, rfl, ?_⟩; replace HK := Az.mk (KeepBut.trans z11_1 hk (.inl rfl)); replace HB := Az.mk (hb); replace HI0 := Az.mk (hi); (try clear hb); (try clear hk); (try clear hi)))
 go_ret
 exact ⟨rq1, by repeat (first | (with_reducible first | exact HI0.out | apply IsS71.alloc | apply IsS71.drewN | apply IsS71.drew | apply IsS71.set_1 | apply IsS71.set_2) | exact HI0.out), by repeat (first | (with_reducible first | exact HB.out | apply bwA | apply pbN | apply bwD | refine bwS ?_ (IsS71.ge HI0.out)) | exact HB.out), by repeat (first | (with_reducible first | exact HK.out | apply KeepBut.set_ | apply keep_drewN | apply keep_drew | apply keep_alloc) | exact HK.out)⟩

/-! ### spec_l1Pick: function 46 -/
def spec_l1Pick.f (s0_0 : List Int) (s0_1 : Int) (s0_2 : Int) (l1 : List ByteArray) : Option (ByteArray × Int × Int) := (spec_l1Below.f s0_0 s0_1 s0_2 (l1.length : Int)).bind fun bt201 => (if 0 ≤ bt201.1 then (if bt201.1 < (l1.length : Int) then (some (rdOf ByteArray.empty l1 bt201.1, bt201.2.1, bt201.2.2)) else (none)) else (none))
set_option maxHeartbeats 8000000 in
set_option maxRecDepth 100000 in
theorem spec_l1Pick.calls (g : Nat) (s0_0 : List Int) (s0_1 : Int) (s0_2 : Int) (A1 : Option Addr) (c1 : Nat) (l1 : List ByteArray) (r1 : ByteArray) (r2 : Int) (r3 : Int) (w0 w : World) (hI : IsS71 w0 w g s0_0 s0_1 s0_2) (hB : Below w0.heap.size w0 w) (hr1 : Kd.C Kd.string w A1 l1.length l1) (hc1 : l1.length ≤ c1) (hf1 : ∀ ad, A1 = some ad → 0 < l1.length → ad.block ≠ g) (h : spec_l1Pick.f s0_0 s0_1 s0_2 l1 = some (r1, r2, r3)) :
  Calls Tryd.prog 46 #[.pointer (some ⟨g, 0, none⟩), .slice A1 l1.length c1] w fun e w' => e = .returned (.string r1) ∧ IsS71 w0 w' g s0_0 r2 r3 ∧ Below w0.heap.size w0 w' ∧ KeepBut w w' g none := by
 have HR1 := Az.mk hr1
 have HC1 := Az.mk hc1
 clear hr1 hc1
 have HI0 := Az.mk hI
 have HK := Az.mk (KeepBut.refl w g none)
 have HL := Az.mk hB.size
 clear hI
 have HW0 := Az.mk hB.size
 have HB := Az.mk hB
 clear hB
 have H : ((spec_l1Below.f s0_0 s0_1 s0_2 (l1.length : Int)).bind fun bt201 => (if 0 ≤ bt201.1 then (if bt201.1 < (l1.length : Int) then (some (rdOf ByteArray.empty l1 bt201.1, bt201.2.1, bt201.2.2)) else (none)) else (none))) = some (r1, r2, r3) := h
 clear h
 replace H := bez H
 obtain ⟨⟨t201, t202, t203⟩, A3, H⟩ := H
 try dsimp only at H
 by_cases c4 : 0 ≤ t201
 rotate_left
 ·rw [if_neg c4] at H
  exact absurd H (by simp)
 rw [if_pos c4] at H
 have c4b0 : decide (0 ≤ t201) = true := decide_eq_true c4
 clear c4
 by_cases c5 : t201 < (l1.length : Int)
 rotate_left
 ·rw [if_neg c5] at H
  exact absurd H (by simp)
 rw [if_pos c5] at H
 have c5b0 : decide (t201 < (l1.length : Int)) = true := decide_eq_true c5
 clear c5
 simp only [Option.some.injEq, Prod.mk.injEq] at H
 obtain ⟨rfl, rfl, rfl⟩ := H
 go_enter Tryd.func46, Tryd.ntmps46
 go_wp2_with (first | ((with_reducible refine gtC (f := 58) rfl ?_); refine clz Tryd.func58 (some 9) #[.pointer (some ⟨g, 0, none⟩), .int .i64 (l1.length : Int)] ?_; (with_reducible refine (spec_l1Below.calls g s0_0 s0_1 s0_2 (l1.length : Int) t201 t202 t203 w0 _ ?side1 ?side2 A3.out).mono ?_); (case side1 => exact z11_3); (case side2 => repeat (first | (with_reducible first | exact HB.out | apply bwA | apply pbN | apply bwD | refine bwS ?_ (IsS71.ge HI0.out)) | exact HB.out)); rintro e w6 ⟨rfl, hi, hb, hk⟩; refine ⟨_, rfl, ?_⟩; replace HK := Az.mk (KeepBut.trans z11_1 hk (.inl rfl)); replace HB := Az.mk (hb); replace HI0 := Az.mk (hi); (try clear hb); (try clear hk); (try clear hi); have p204 : 0 ≤ (t201 : Int) := of_decide_eq_true (by first | (with_reducible assumption) | assumption); have q204 : t201 < (l1.length : Int) := of_decide_eq_true (by first | (with_reducible assumption) | assumption); obtain ⟨ad204, e204, hx204_0⟩ := Kd.at_string HR1.out t201 p204 q204; cases e204; replace hx204_0 := keep_cell HK.out hx204_0 (by first | (rw [add_block]; exact hf1 _ rfl (by omega)) | exact hf1 _ rfl (by omega) | exact hf1 ad204 rfl (by omega)); replace p204 := eq_true p204; replace q204 := eq_true q204))
 go_ret
 exact ⟨rq1, by repeat (first | (with_reducible first | exact HI0.out | apply IsS71.alloc | apply IsS71.drewN | apply IsS71.drew | apply IsS71.set_1 | apply IsS71.set_2) | exact HI0.out), by repeat (first | (with_reducible first | exact HB.out | apply bwA | apply pbN | apply bwD | refine bwS ?_ (IsS71.ge HI0.out)) | exact HB.out), by repeat (first | (with_reducible first | exact HK.out | apply KeepBut.set_ | apply keep_drewN | apply keep_drew | apply keep_alloc) | exact HK.out)⟩

/-! ### spec_l13Word: function 47 -/
def spec_l13Word.l0 : Nat → ByteArray → Int → List Int → Int → Int → Option (ByteArray × Int × Int)
 | 0, _, _, _, _, _ => none
 | k + 1, x5, x6, x1000, x1001, x1002 => if x6 > 0 then ((spec_l1Pick.f x1000 x1001 x1002 (([(⟨#[82]⟩ : ByteArray), (⟨#[76]⟩ : ByteArray), (⟨#[114]⟩ : ByteArray), (⟨#[108]⟩ : ByteArray)] : List ByteArray))).bind fun bt211 => (if x5.size + bt211.1.size ≤ 9223372036854775807 then (spec_l13Word.l0 k (x5 ++ bt211.1) (wrap64 (x6 - 1)) x1000 bt211.2.1 bt211.2.2) else (none))) else (some (x5, x1001, x1002))
def spec_l13Word.f (k : Nat) (s0_0 : List Int) (s0_1 : Int) (s0_2 : Int) (a1 : Int) : Option (ByteArray × Int × Int) := (spec_l1Below.f s0_0 s0_1 s0_2 (wrap64 (a1 + 1))).bind fun bt205 => (spec_l13Word.l0 k (⟨#[]⟩ : ByteArray) bt205.1 s0_0 bt205.2.1 bt205.2.2)
theorem spec_l13Word.mono_l : ∀ k, (∀ y0 y1 y2 y3 y4, LeO (spec_l13Word.l0 k y0 y1 y2 y3 y4) (spec_l13Word.l0 (k + 1) y0 y1 y2 y3 y4))
 | 0 => fun _ _ _ _ _ r h => by simp [spec_l13Word.l0] at h
 | k + 1 => by
  have ih0 := spec_l13Word.mono_l k
  have i0 := fun z0 z1 z2 z3 z4 => MoO.mk (ih0 z0 z1 z2 z3 z4)
  ·intro y0 y1 y2 y3 y4
   unfold spec_l13Word.l0
   exact mo_
theorem spec_l13Word.mono : ∀ a0 a1 a2 a3 k, LeO (spec_l13Word.f k a0 a1 a2 a3) (spec_l13Word.f (k + 1) a0 a1 a2 a3) := by
 intro a0 a1 a2 a3 k
 have ih0 := spec_l13Word.mono_l k
 have i0 := fun z0 z1 z2 z3 z4 => MoO.mk (ih0 z0 z1 z2 z3 z4)
 unfold spec_l13Word.f
 exact mo_
instance spec_l13Word.mi {a0 a1 a2 a3 k} : MoO (spec_l13Word.f k a0 a1 a2 a3) (spec_l13Word.f (k + 1) a0 a1 a2 a3) := ⟨spec_l13Word.mono _ _ _ _ _⟩
set_option maxHeartbeats 8000000 in
set_option maxRecDepth 100000 in
theorem spec_l13Word.calls (k : Nat) (g : Nat) (s0_0 : List Int) (s0_1 : Int) (s0_2 : Int) (a1 : Int) (r1 : ByteArray) (r2 : Int) (r3 : Int) (w0 w : World) (hI : IsS71 w0 w g s0_0 s0_1 s0_2) (hB : Below w0.heap.size w0 w) (h : spec_l13Word.f k s0_0 s0_1 s0_2 a1 = some (r1, r2, r3)) :
  Calls Tryd.prog 47 #[.pointer (some ⟨g, 0, none⟩), .int .i64 a1] w fun e w' => e = .returned (.string r1) ∧ IsS71 w0 w' g s0_0 r2 r3 ∧ Below w0.heap.size w0 w' ∧ KeepBut w w' g none := by
 have HI0 := Az.mk hI
 have HK := Az.mk (KeepBut.refl w g none)
 have HL := Az.mk hB.size
 clear hI
 have HW0 := Az.mk hB.size
 have HB := Az.mk hB
 clear hB
 have H : ((spec_l1Below.f s0_0 s0_1 s0_2 (wrap64 (a1 + 1))).bind fun bt205 => (spec_l13Word.l0 k (⟨#[]⟩ : ByteArray) bt205.1 s0_0 bt205.2.1 bt205.2.2)) = some (r1, r2, r3) := h
 clear h
 replace H := bez H
 obtain ⟨⟨t205, t206, t207⟩, A3, H⟩ := H
 try dsimp only at H
 have H' := Az.mk H
 clear H
 go_enter Tryd.func47, Tryd.ntmps47
 go_wp2_with (first | ((with_reducible refine gtC (f := 58) rfl ?_); refine clz Tryd.func58 (some 10) #[.pointer (some ⟨g, 0, none⟩), .int .i64 (wrap64 (a1 + 1))] ?_; (with_reducible refine (spec_l1Below.calls g s0_0 s0_1 s0_2 (wrap64 (a1 + 1)) t205 t206 t207 w0 _ ?side1 ?side2 A3.out).mono ?_); (case side1 => exact z11_3); (case side2 => repeat (first | (with_reducible first | exact HB.out | apply bwA | apply pbN | apply bwD | refine bwS ?_ (IsS71.ge HI0.out)) | exact HB.out)); rintro e w4 ⟨rfl, hi, hb, hk⟩; refine ⟨_, rfl, ?_⟩; replace HK := Az.mk (KeepBut.trans z11_1 hk (.inl rfl)); replace HB := Az.mk (hb); replace HI0 := Az.mk (hi); (try clear hb); (try clear hk); (try clear hi)))
 go_loopg [5, 6] k (fun kq v5 v6 w' => ∃ (x5_1 : ByteArray) (x6_1 : Int) (x1001_1 : Int) (x1002_1 : Int), v5 = .string x5_1 ∧ v6 = .int .i64 x6_1 ∧ Az (spec_l13Word.l0 kq x5_1 x6_1 s0_0 x1001_1 x1002_1 = some (r1, r2, r3)) ∧ Az (kq ≤ k) ∧ Az (IsS71 w0 w' g s0_0 x1001_1 x1002_1) ∧ Az (KeepBut w w' g none) ∧ Az (Below w0.heap.size w0 w'))
 case atStart => exact ⟨((⟨#[]⟩ : ByteArray)), (t205), (t206), (t207), rq2, rq2, H', ⟨Nat.le_refl _⟩, ⟨by repeat (first | (with_reducible first | exact HI0.out | apply IsS71.alloc | apply IsS71.drewN | apply IsS71.drew | apply IsS71.set_1 | apply IsS71.set_2) | exact HI0.out)⟩, ⟨by repeat (first | (with_reducible first | exact HK.out | apply KeepBut.set_ | apply keep_drewN | apply keep_drew | apply keep_alloc) | exact HK.out)⟩, ⟨by repeat (first | (with_reducible first | exact HB.out | apply bwA | apply pbN | apply bwD | refine bwS ?_ (IsS71.ge HI0.out)) | exact HB.out)⟩⟩
 clear H'
 obtain ⟨x5_1, x6_1, x1001_1, x1002_1, rfl, rfl, HA, HK1, HI0, HK, HB⟩ := hrel
 cases gk with
 | zero => exact absurd HA.out (by simp [spec_l13Word.l0])
 | succ k1 =>
  have H := HA.out
  clear HA
  simp only [spec_l13Word.l0] at H
  by_cases c5 : x6_1 > 0
  rotate_left
  ·rw [if_neg c5] at H
   have c5b0 : decide (0 < x6_1) = false := decide_eq_false c5
   clear c5
   simp only [Option.some.injEq, Prod.mk.injEq] at H
   obtain ⟨rfl, rfl, rfl⟩ := H
   go_wp2
   go_ret
   exact ⟨rq1, by repeat (first | (with_reducible first | exact HI0.out | apply IsS71.alloc | apply IsS71.drewN | apply IsS71.drew | apply IsS71.set_1 | apply IsS71.set_2) | exact HI0.out), by repeat (first | (with_reducible first | exact HB.out | apply bwA | apply pbN | apply bwD | refine bwS ?_ (IsS71.ge HI0.out)) | exact HB.out), by repeat (first | (with_reducible first | exact HK.out | apply KeepBut.set_ | apply keep_drewN | apply keep_drew | apply keep_alloc) | exact HK.out)⟩
  rw [if_pos c5] at H
  have c5b0 : decide (0 < x6_1) = true := decide_eq_true c5
  clear c5
  obtain ⟨y208, hy208⟩ : ∃ y_ : List ByteArray, y_ = (([(⟨#[82]⟩ : ByteArray), (⟨#[76]⟩ : ByteArray), (⟨#[114]⟩ : ByteArray), (⟨#[108]⟩ : ByteArray)] : List ByteArray)) := ⟨_, rfl⟩
  replace H : ((spec_l1Pick.f s0_0 x1001_1 x1002_1 y208).bind fun bt211 => (if x5_1.size + bt211.1.size ≤ 9223372036854775807 then (spec_l13Word.l0 k1 (x5_1 ++ bt211.1) (wrap64 (x6_1 - 1)) s0_0 bt211.2.1 bt211.2.2) else (none))) = some (r1, r2, r3) := by first | (rw [hy208]; with_reducible exact H) | (have H2_ := (Option.bind_some _ _).symm.trans H; rw [hy208]; with_reducible exact H2_) | (have H2_ := (Option.bind_some _ _).symm.trans H; with_reducible exact H2_) | with_reducible exact H | (rw [hy208]; exact H) | exact H
  have Ny208 := Az.mk hy208
  clear hy208
  replace H := bez H
  obtain ⟨⟨t211, t212, t213⟩, A6, H⟩ := H
  try dsimp only at H
  by_cases c7 : x5_1.size + t211.size ≤ 9223372036854775807
  rotate_left
  ·rw [if_neg c7] at H
   exact absurd H (by simp)
  rw [if_pos c7] at H
  have c7b0 := eq_true c7
  have c7b1 : decide (x5_1.size + t211.size ≤ 9223372036854775807) = true := decide_eq_true c7
  try have c7b2 : (9223372036854775807 < x5_1.size + t211.size) = False := eq_false (Nat.not_lt.2 c7)
  have H' := Az.mk H
  clear H
  go_wp2_with (first | ((with_reducible refine gtD (N := 17) rfl ?_); refine Kd.R_lit Kd.string _ 9 ?hg (N := 17) ?hd (xs := ([(⟨#[82]⟩ : ByteArray), (⟨#[76]⟩ : ByteArray), (⟨#[114]⟩ : ByteArray), (⟨#[108]⟩ : ByteArray)] : List ByteArray)) (inner := [.string (⟨#[82]⟩ : ByteArray), .string (⟨#[76]⟩ : ByteArray), .string (⟨#[114]⟩ : ByteArray), .string (⟨#[108]⟩ : ByteArray)]) (ok := fun _ => True) (okp := fun _ => True) ?hr ?hp (fun _ hk => hk) trivial (Below.refl _ _) (Nat.le_refl _) (by simp) ?_; (case hd => rfl); (case hg => rfl); (case hr => first | (go_simp; done) | (go_simp; rfl)); (case hp => exact (Reps.one (show Kd.M Kd.string _ _ _ (⟨#[82]⟩ : ByteArray) [.string (⟨#[82]⟩ : ByteArray)] from rfl) (Reps.one (show Kd.M Kd.string _ _ _ (⟨#[76]⟩ : ByteArray) [.string (⟨#[76]⟩ : ByteArray)] from rfl) (Reps.one (show Kd.M Kd.string _ _ _ (⟨#[114]⟩ : ByteArray) [.string (⟨#[114]⟩ : ByteArray)] from rfl) (Reps.one (show Kd.M Kd.string _ _ _ (⟨#[108]⟩ : ByteArray) [.string (⟨#[108]⟩ : ByteArray)] from rfl) (Reps.none _ _)))))); intro v209 w8 ho9 hb hg_ hnew_; clear hg_ hnew_; (first | rw [← Ny208.out] at ho9 | (simp only [Int.reduceToNat] at ho9; rw [← Ny208.out] at ho9)); have HO210 := Az.mk (Kd.R_lower ho9 (keep_size (w := w) (g := g) (row := none) z11_1)); replace HK := Az.mk (KeepBut.trans z11_1 (KeepBut.of_below hb g none) (.inl rfl)); replace HB := Az.mk (bwT z11_7 hb); replace HI0 := Az.mk (IsS71.below z11_3 hb); clear hb ho9; obtain ⟨Ao10, co10, eo10⟩ := Kd.R_slice HO210.out; subst eo10) | ((with_reducible refine gtC (f := 46) rfl ?_); refine clz Tryd.func46 (some 18) #[.pointer (some ⟨g, 0, none⟩), .slice Ao10 y208.length co10] ?_; (with_reducible refine (spec_l1Pick.calls g s0_0 x1001_1 x1002_1 _ _ y208 t211 t212 t213 w0 _ ?side1 ?side2 ?side3 ?side4 ?side5 A6.out).mono ?_); (case side1 => exact z11_3); (case side2 => repeat (first | (with_reducible first | exact HB.out | apply bwA | apply pbN | apply bwD | refine bwS ?_ (IsS71.ge HI0.out)) | exact HB.out)); (case side3 => repeat (first | exact (Kd.R_reads' HO210.out).2.2 | (with_reducible refine Kd.C_alloc ?_ _) | (with_reducible refine Kd.C_drewN ?_ _) | (with_reducible refine Kd.C_drew ?_))); (case side4 => exact (Kd.R_reads' HO210.out).2.1); (case side5 => exact far_slice (IsS71.own_ne HI0.out HO210.out (by decide))); rintro e w11 ⟨rfl, hi, hb, hk⟩; refine ⟨_, rfl, ?_⟩; replace HO210 := Az.mk (Kd.R_mono (Kd.R_keep (IsS71.apart (show IsS71 w0 _ g s0_0 x1001_1 x1002_1 from by repeat (first | (with_reducible first | exact HI0.out | apply IsS71.alloc | apply IsS71.drewN | apply IsS71.drew | apply IsS71.set_1 | apply IsS71.set_2) | exact HI0.out)) (by (with_reducible repeat (first | apply Kd.R_alloc | apply Kd.R_drewN | apply Kd.R_drew)); exact HO210.out) (by decide)) hk (fun _ h => h.2)) (fun _ h => h.1)); replace HK := Az.mk (KeepBut.trans z11_1 hk (.inl rfl)); replace HB := Az.mk (hb); replace HI0 := Az.mk (hi); (try clear hb); (try clear hk); (try clear hi)))
  go_roundg k1
  case measure => have := HK1.out; omega
  case rel => exact ⟨(x5_1 ++ t211), (wrap64 (x6_1 - 1)), (t212), (t213), rq2, rq2, H', ⟨by have := HK1.out; omega⟩, ⟨by repeat (first | (with_reducible first | exact HI0.out | apply IsS71.alloc | apply IsS71.drewN | apply IsS71.drew | apply IsS71.set_1 | apply IsS71.set_2) | exact HI0.out)⟩, ⟨by repeat (first | (with_reducible first | exact HK.out | apply KeepBut.set_ | apply keep_drewN | apply keep_drew | apply keep_alloc) | exact HK.out)⟩, ⟨by repeat (first | (with_reducible first | exact HB.out | apply bwA | apply pbN | apply bwD | refine bwS ?_ (IsS71.ge HI0.out)) | exact HB.out)⟩⟩

/-! ### spec_l13Draw: function 38 -/
def spec_l13Draw.f (k : Nat) (s0_0 : List Int) (s0_1 : Int) (s0_2 : Int) : Option (Int × Int × Int × Int × Int × Int) := (spec_l13Word.f k s0_0 s0_1 s0_2 6).bind fun bt215 => ((spec_TurnsOf.f k bt215.1).bind fun bt218 => ((spec_l1Below.f s0_0 bt215.2.1 bt215.2.2 14).bind fun bt224 => (if bt224.1 = 0 then ((spec_l1Below.f s0_0 bt224.2.1 bt224.2.2 3).bind fun bt227 => ((spec_l1Below.f s0_0 bt227.2.1 bt227.2.2 3).bind fun bt230 => ((spec_l1Below.f s0_0 bt230.2.1 bt230.2.2 3).bind fun bt233 => ((spec_l1Below.f s0_0 bt233.2.1 bt233.2.2 3).bind fun bt236 => (some (wrap64 (bt227.1 - 1), wrap64 (bt230.1 - 1), wrap64 (bt233.1 - 1), wrap64 (bt236.1 - 1), bt236.2.1, bt236.2.2)))))) else (if bt224.1 = 1 then (some ((-1), 0, 0, (-1), bt224.2.1, bt224.2.2)) else (if bt224.1 = 2 then (some (0, (-1), 1, 0, bt224.2.1, bt224.2.2)) else (some (bt218.1, bt218.2.1, bt218.2.2.1, bt218.2.2.2.1, bt224.2.1, bt224.2.2)))))))
theorem spec_l13Draw.mono : ∀ a0 a1 a2 k, LeO (spec_l13Draw.f k a0 a1 a2) (spec_l13Draw.f (k + 1) a0 a1 a2) := by
 intro a0 a1 a2 k
 unfold spec_l13Draw.f
 exact mo_
instance spec_l13Draw.mi {a0 a1 a2 k} : MoO (spec_l13Draw.f k a0 a1 a2) (spec_l13Draw.f (k + 1) a0 a1 a2) := ⟨spec_l13Draw.mono _ _ _ _⟩
set_option maxHeartbeats 8000000 in
set_option maxRecDepth 100000 in
theorem spec_l13Draw.calls (k : Nat) (g : Nat) (s0_0 : List Int) (s0_1 : Int) (s0_2 : Int) (r1 : Int) (r2 : Int) (r3 : Int) (r4 : Int) (r5 : Int) (r6 : Int) (w0 w : World) (hI : IsS71 w0 w g s0_0 s0_1 s0_2) (hB : Below w0.heap.size w0 w) (h : spec_l13Draw.f k s0_0 s0_1 s0_2 = some (r1, r2, r3, r4, r5, r6)) :
  Calls Tryd.prog 38 #[.pointer (some ⟨g, 0, none⟩)] w fun e w' => e = .returned (.agg #[.int .i64 r1, .int .i64 r2, .int .i64 r3, .int .i64 r4]) ∧ IsS71 w0 w' g s0_0 r5 r6 ∧ Below w0.heap.size w0 w' ∧ KeepBut w w' g none := by
 have hu25 := Tryd.underlying25
 have HI0 := Az.mk hI
 have HK := Az.mk (KeepBut.refl w g none)
 have HL := Az.mk hB.size
 clear hI
 have HW0 := Az.mk hB.size
 have HB := Az.mk hB
 clear hB
 have H : ((spec_l13Word.f k s0_0 s0_1 s0_2 6).bind fun bt215 => ((spec_TurnsOf.f k bt215.1).bind fun bt218 => ((spec_l1Below.f s0_0 bt215.2.1 bt215.2.2 14).bind fun bt224 => (if bt224.1 = 0 then ((spec_l1Below.f s0_0 bt224.2.1 bt224.2.2 3).bind fun bt227 => ((spec_l1Below.f s0_0 bt227.2.1 bt227.2.2 3).bind fun bt230 => ((spec_l1Below.f s0_0 bt230.2.1 bt230.2.2 3).bind fun bt233 => ((spec_l1Below.f s0_0 bt233.2.1 bt233.2.2 3).bind fun bt236 => (some (wrap64 (bt227.1 - 1), wrap64 (bt230.1 - 1), wrap64 (bt233.1 - 1), wrap64 (bt236.1 - 1), bt236.2.1, bt236.2.2)))))) else (if bt224.1 = 1 then (some ((-1), 0, 0, (-1), bt224.2.1, bt224.2.2)) else (if bt224.1 = 2 then (some (0, (-1), 1, 0, bt224.2.1, bt224.2.2)) else (some (bt218.1, bt218.2.1, bt218.2.2.1, bt218.2.2.2.1, bt224.2.1, bt224.2.2)))))))) = some (r1, r2, r3, r4, r5, r6) := h
 clear h
 replace H := bez H
 obtain ⟨⟨t215, t216, t217⟩, A2, H⟩ := H
 try dsimp only at H
 replace H := bez H
 obtain ⟨⟨t218, t219, t220, t221, t222⟩, A3, H⟩ := H
 try dsimp only at H
 replace H := bez H
 obtain ⟨⟨t224, t225, t226⟩, A4, H⟩ := H
 try dsimp only at H
 by_cases c5 : t224 = 0
 ·rw [if_pos c5] at H
  have c5b0 : (t224 == 0) = true := beq_iff_eq.mpr c5
  have c5b1 : (t224 != 0) = false := bne_eq_false_iff_eq.mpr c5
  clear c5
  replace H := bez H
  obtain ⟨⟨t227, t228, t229⟩, A6, H⟩ := H
  try dsimp only at H
  replace H := bez H
  obtain ⟨⟨t230, t231, t232⟩, A7, H⟩ := H
  try dsimp only at H
  replace H := bez H
  obtain ⟨⟨t233, t234, t235⟩, A8, H⟩ := H
  try dsimp only at H
  replace H := bez H
  obtain ⟨⟨t236, t237, t238⟩, A9, H⟩ := H
  try dsimp only at H
  simp only [Option.some.injEq, Prod.mk.injEq] at H
  obtain ⟨rfl, rfl, rfl, rfl, rfl, rfl⟩ := H
  go_enter Tryd.func38, Tryd.ntmps38
  go_wp2_with (first | ((with_reducible refine gtD (N := 2) rfl ?_); refine bx (N := 2) (cs := #[.int .i64 0, .int .i64 0, .int .i64 0, .int .i64 0]) (t := 25) ?_; intro gb214 hg w10 hbox hb; replace HB := Az.mk (bwT z11_7 hb); have BK214 := Az.mk (hbox); have GW214 := Az.mk ((by rw [hg]; exact (keep_size (w := w) (g := g) (row := none) z11_1) : w.heap.size ≤ gb214)); have GE214 := Az.mk ((Nat.le_trans HW0.out (by rw [hg]; exact (keep_size (w := w) (g := g) (row := none) z11_1) : w.heap.size ≤ gb214) : w0.heap.size ≤ gb214)); replace HK := Az.mk (KeepBut.trans z11_1 (KeepBut.of_below hb g none) (.inl rfl)); have NB0_214 := Az.mk ((by rw [hg]; exact Nat.ne_of_lt (IsS71.lt (show IsS71 w0 _ g s0_0 s0_1 s0_2 from by repeat (first | (with_reducible first | exact HI0.out | apply IsS71.alloc | apply IsS71.drewN | apply IsS71.drew | apply IsS71.set_1 | apply IsS71.set_2) | exact HI0.out))) : g ≠ gb214)); have NB214_0 := Az.mk ((by rw [hg]; exact Nat.ne_of_gt (IsS71.lt (show IsS71 w0 _ g s0_0 s0_1 s0_2 from by repeat (first | (with_reducible first | exact HI0.out | apply IsS71.alloc | apply IsS71.drewN | apply IsS71.drew | apply IsS71.set_1 | apply IsS71.set_2) | exact HI0.out))) : gb214 ≠ g)); replace HI0 := Az.mk (IsS71.below z11_3 hb); clear hb hbox hg) | ((with_reducible refine gtC (f := 47) rfl ?_); refine clz Tryd.func47 (some 7) #[.pointer (some ⟨g, 0, none⟩), .int .i64 6] ?_; (with_reducible refine (spec_l13Word.calls k g s0_0 s0_1 s0_2 6 t215 t216 t217 w0 _ ?side1 ?side2 A2.out).mono ?_); (case side1 => exact z11_2); (case side2 => repeat (first | (with_reducible first | exact HB.out | apply bwA | apply pbN | apply bwD | refine bwS ?_ (IsS71.ge HI0.out) | refine bwS ?_ GE214.out) | exact HB.out)); rintro e w11 ⟨rfl, hi, hb, hk⟩; refine ⟨_, rfl, ?_⟩; replace BK214 := bkk BK214 hk NB214_0; replace HK := Az.mk (KeepBut.trans z11_0 hk (.inl rfl)); replace HB := Az.mk (hb); replace HI0 := Az.mk (hi); (try clear hb); (try clear hk); (try clear hi)) | ((with_reducible refine gtC (f := 17) rfl ?_); refine clz Tryd.func17 (some 8) #[.string t215] ?_; (with_reducible refine (spec_TurnsOf.calls k t215 t218 t219 t220 t221 t222 _ A3.out).mono ?_); rintro e w12 ⟨rfl, hb⟩; refine ⟨_, rfl, ?_⟩; replace BK214 := bkz BK214 hb; replace HK := Az.mk (KeepBut.trans z11_0 (KeepBut.of_below hb g none) (.inl rfl)); replace HB := Az.mk (bwT z11_6 hb); replace HI0 := Az.mk (IsS71.below z11_2 hb); (try clear hb)) | ((with_reducible refine gtD (N := 3) rfl ?_); refine bx (N := 3) (cs := #[.int .i64 0, .int .i64 0, .int .i64 0, .int .i64 0]) (t := 25) ?_; intro gb223 hg w13 hbox hb; replace HB := Az.mk (bwT z11_6 hb); have BK223 := Az.mk (hbox); have GW223 := Az.mk ((by rw [hg]; exact (keep_size (w := w) (g := g) (row := none) z11_0) : w.heap.size ≤ gb223)); have GE223 := Az.mk ((Nat.le_trans HW0.out (by rw [hg]; exact (keep_size (w := w) (g := g) (row := none) z11_0) : w.heap.size ≤ gb223) : w0.heap.size ≤ gb223)); replace HK := Az.mk (KeepBut.trans z11_0 (KeepBut.of_below hb g none) (.inl rfl)); have NB214_223 := nlt BK214 hg; have NB223_214 := ngt BK214 hg; replace BK214 := bkz BK214 hb; have NB0_223 := Az.mk ((by rw [hg]; exact Nat.ne_of_lt (IsS71.lt (show IsS71 w0 _ g s0_0 t216 t217 from by repeat (first | (with_reducible first | exact HI0.out | apply IsS71.alloc | apply IsS71.drewN | apply IsS71.drew | apply IsS71.set_1 | apply IsS71.set_2 | refine IsS71.far ?_ NB0_214.out _) | exact HI0.out))) : g ≠ gb223)); have NB223_0 := Az.mk ((by rw [hg]; exact Nat.ne_of_gt (IsS71.lt (show IsS71 w0 _ g s0_0 t216 t217 from by repeat (first | (with_reducible first | exact HI0.out | apply IsS71.alloc | apply IsS71.drewN | apply IsS71.drew | apply IsS71.set_1 | apply IsS71.set_2 | refine IsS71.far ?_ NB0_214.out _) | exact HI0.out))) : gb223 ≠ g)); replace HI0 := Az.mk (IsS71.below z11_2 hb); clear hb hbox hg; have hnb14 := NB223_214.out; have hnc14 := NB214_223.out; have hnb15 := NB223_0.out; have hnc15 := NB0_223.out; obtain ⟨hcz16_0, hcz16_1, hcz16_2, hcz16_3, hfz16_0, hfz16_1, hfz16_2, hfz16_3⟩ := bq4 BK223) | ((with_reducible refine gtC (f := 58) rfl ?_); refine clz Tryd.func58 (some 12) #[.pointer (some ⟨g, 0, none⟩), .int .i64 14] ?_; (with_reducible refine (spec_l1Below.calls g s0_0 t216 t217 14 t224 t225 t226 w0 _ ?side1 ?side2 A4.out).mono ?_); (case side1 => exact z11_4); (case side2 => repeat (first | (with_reducible first | exact HB.out | apply bwA | apply pbN | apply bwD | refine bwS ?_ (IsS71.ge HI0.out) | refine bwS ?_ GE214.out | refine bwS ?_ GE223.out) | exact HB.out)); rintro e w17 ⟨rfl, hi, hb, hk⟩; refine ⟨_, rfl, ?_⟩; replace BK214 := Az.mk (KeepBut.blk hk (g' := gb214) (o := .cells #[.int .i64 0, .int .i64 0, .int .i64 0, .int .i64 0] 25 (0, 0)) bkv NB214_0.out (by simp)); replace BK223 := Az.mk (KeepBut.blk hk (g' := gb223) (o := .cells #[.int .i64 t218, .int .i64 t219, .int .i64 t220, .int .i64 t221] 25 (0, 0)) bkv NB223_0.out (by simp)); replace HK := Az.mk (KeepBut.trans z11_5 hk (.inl rfl)); replace HB := Az.mk (hb); replace HI0 := Az.mk (hi); (try clear hb); (try clear hk); (try clear hi)) | ((with_reducible refine gtC (f := 58) rfl ?_); refine clz Tryd.func58 (some 16) #[.pointer (some ⟨g, 0, none⟩), .int .i64 3] ?_; (with_reducible refine (spec_l1Below.calls g s0_0 t225 t226 3 t227 t228 t229 w0 _ ?side1 ?side2 A6.out).mono ?_); (case side1 => exact z11_4); (case side2 => repeat (first | (with_reducible first | exact HB.out | apply bwA | apply pbN | apply bwD | refine bwS ?_ (IsS71.ge HI0.out) | refine bwS ?_ GE214.out | refine bwS ?_ GE223.out) | exact HB.out)); rintro e w18 ⟨rfl, hi, hb, hk⟩; refine ⟨_, rfl, ?_⟩; replace BK214 := bkk BK214 hk NB214_0; replace BK223 := bkk BK223 hk NB223_0; replace HK := Az.mk (KeepBut.trans z11_5 hk (.inl rfl)); replace HB := Az.mk (hb); replace HI0 := Az.mk (hi); (try clear hb); (try clear hk); (try clear hi)) | ((with_reducible refine gtC (f := 58) rfl ?_); refine clz Tryd.func58 (some 19) #[.pointer (some ⟨g, 0, none⟩), .int .i64 3] ?_; (with_reducible refine (spec_l1Below.calls g s0_0 t228 t229 3 t230 t231 t232 w0 _ ?side1 ?side2 A7.out).mono ?_); (case side1 => exact z11_4); (case side2 => repeat (first | (with_reducible first | exact HB.out | apply bwA | apply pbN | apply bwD | refine bwS ?_ (IsS71.ge HI0.out) | refine bwS ?_ GE214.out | refine bwS ?_ GE223.out) | exact HB.out)); rintro e w19 ⟨rfl, hi, hb, hk⟩; refine ⟨_, rfl, ?_⟩; replace BK214 := bkk BK214 hk NB214_0; replace BK223 := bkk BK223 hk NB223_0; replace HK := Az.mk (KeepBut.trans z11_5 hk (.inl rfl)); replace HB := Az.mk (hb); replace HI0 := Az.mk (hi); (try clear hb); (try clear hk); (try clear hi)) | ((with_reducible refine gtC (f := 58) rfl ?_); refine clz Tryd.func58 (some 22) #[.pointer (some ⟨g, 0, none⟩), .int .i64 3] ?_; (with_reducible refine (spec_l1Below.calls g s0_0 t231 t232 3 t233 t234 t235 w0 _ ?side1 ?side2 A8.out).mono ?_); (case side1 => exact z11_4); (case side2 => repeat (first | (with_reducible first | exact HB.out | apply bwA | apply pbN | apply bwD | refine bwS ?_ (IsS71.ge HI0.out) | refine bwS ?_ GE214.out | refine bwS ?_ GE223.out) | exact HB.out)); rintro e w20 ⟨rfl, hi, hb, hk⟩; refine ⟨_, rfl, ?_⟩; replace BK214 := bkk BK214 hk NB214_0; replace BK223 := bkk BK223 hk NB223_0; replace HK := Az.mk (KeepBut.trans z11_5 hk (.inl rfl)); replace HB := Az.mk (hb); replace HI0 := Az.mk (hi); (try clear hb); (try clear hk); (try clear hi)) | ((with_reducible refine gtC (f := 58) rfl ?_); refine clz Tryd.func58 (some 25) #[.pointer (some ⟨g, 0, none⟩), .int .i64 3] ?_; (with_reducible refine (spec_l1Below.calls g s0_0 t234 t235 3 t236 t237 t238 w0 _ ?side1 ?side2 A9.out).mono ?_); (case side1 => exact z11_4); (case side2 => repeat (first | (with_reducible first | exact HB.out | apply bwA | apply pbN | apply bwD | refine bwS ?_ (IsS71.ge HI0.out) | refine bwS ?_ GE214.out | refine bwS ?_ GE223.out) | exact HB.out)); rintro e w21 ⟨rfl, hi, hb, hk⟩; refine ⟨_, rfl, ?_⟩; replace BK214 := bkk BK214 hk NB214_0; replace BK223 := bkk BK223 hk NB223_0; replace HK := Az.mk (KeepBut.trans z11_5 hk (.inl rfl)); replace HB := Az.mk (hb); replace HI0 := Az.mk (hi); (try clear hb); (try clear hk); (try clear hi); have hnb22 := NB214_0.out; have hnc22 := NB0_214.out; obtain ⟨hcz23_0, hcz23_1, hcz23_2, hcz23_3, hfz23_0, hfz23_1, hfz23_2, hfz23_3⟩ := bq4 BK214))
  refine bodyPost_ret (results_cell_row rfl _ _ gb214 25 #[.int .i64 (wrap64 (t227 - 1)), .int .i64 (wrap64 (t230 - 1)), .int .i64 (wrap64 (t233 - 1)), .int .i64 (wrap64 (t236 - 1))] (0, 0) _ rfl bkv Tryd.underlying25 rfl (by kernel_rfl)) rfl ?_
  exact ⟨rq1, by repeat (first | (with_reducible first | exact HI0.out | apply IsS71.alloc | apply IsS71.drewN | apply IsS71.drew | apply IsS71.set_1 | apply IsS71.set_2 | refine IsS71.far ?_ NB0_214.out _ | refine IsS71.far ?_ NB0_223.out _) | exact HI0.out), by repeat (first | (with_reducible first | exact HB.out | apply bwA | apply pbN | apply bwD | refine bwS ?_ (IsS71.ge HI0.out) | refine bwS ?_ GE214.out | refine bwS ?_ GE223.out) | exact HB.out), by repeat (first | (with_reducible first | exact HK.out | apply KeepBut.set_ | apply keep_drewN | apply keep_drew | apply keep_alloc | refine keep_far ?_ GW214.out _ | refine keep_far ?_ GW223.out _) | exact HK.out)⟩
 rw [if_neg c5] at H
 have c5b0 : (t224 == 0) = false := beq_eq_false_iff_ne.mpr c5
 have c5b1 : (t224 != 0) = true := bne_iff_ne.mpr c5
 by_cases c24 : t224 = 1
 ·rw [if_pos c24] at H
  have c24b0 : (t224 == 1) = true := beq_iff_eq.mpr c24
  have c24b1 : (t224 != 1) = false := bne_eq_false_iff_eq.mpr c24
  clear c24
  simp only [Option.some.injEq, Prod.mk.injEq] at H
  obtain ⟨rfl, rfl, rfl, rfl, rfl, rfl⟩ := H
  go_enter Tryd.func38, Tryd.ntmps38
  go_wp2_with (first | ((with_reducible refine gtD (N := 2) rfl ?_); refine bx (N := 2) (cs := #[.int .i64 0, .int .i64 0, .int .i64 0, .int .i64 0]) (t := 25) ?_; intro gb214 hg w25 hbox hb; replace HB := Az.mk (bwT z11_7 hb); have BK214 := Az.mk (hbox); have GW214 := Az.mk ((by rw [hg]; exact (keep_size (w := w) (g := g) (row := none) z11_1) : w.heap.size ≤ gb214)); have GE214 := Az.mk ((Nat.le_trans HW0.out (by rw [hg]; exact (keep_size (w := w) (g := g) (row := none) z11_1) : w.heap.size ≤ gb214) : w0.heap.size ≤ gb214)); replace HK := Az.mk (KeepBut.trans z11_1 (KeepBut.of_below hb g none) (.inl rfl)); have NB0_214 := Az.mk ((by rw [hg]; exact Nat.ne_of_lt (IsS71.lt (show IsS71 w0 _ g s0_0 s0_1 s0_2 from by repeat (first | (with_reducible first | exact HI0.out | apply IsS71.alloc | apply IsS71.drewN | apply IsS71.drew | apply IsS71.set_1 | apply IsS71.set_2) | exact HI0.out))) : g ≠ gb214)); have NB214_0 := Az.mk ((by rw [hg]; exact Nat.ne_of_gt (IsS71.lt (show IsS71 w0 _ g s0_0 s0_1 s0_2 from by repeat (first | (with_reducible first | exact HI0.out | apply IsS71.alloc | apply IsS71.drewN | apply IsS71.drew | apply IsS71.set_1 | apply IsS71.set_2) | exact HI0.out))) : gb214 ≠ g)); replace HI0 := Az.mk (IsS71.below z11_3 hb); clear hb hbox hg) | ((with_reducible refine gtC (f := 47) rfl ?_); refine clz Tryd.func47 (some 7) #[.pointer (some ⟨g, 0, none⟩), .int .i64 6] ?_; (with_reducible refine (spec_l13Word.calls k g s0_0 s0_1 s0_2 6 t215 t216 t217 w0 _ ?side1 ?side2 A2.out).mono ?_); (case side1 => exact z11_2); (case side2 => repeat (first | (with_reducible first | exact HB.out | apply bwA | apply pbN | apply bwD | refine bwS ?_ (IsS71.ge HI0.out) | refine bwS ?_ GE214.out) | exact HB.out)); rintro e w26 ⟨rfl, hi, hb, hk⟩; refine ⟨_, rfl, ?_⟩; replace BK214 := bkk BK214 hk NB214_0; replace HK := Az.mk (KeepBut.trans z11_0 hk (.inl rfl)); replace HB := Az.mk (hb); replace HI0 := Az.mk (hi); (try clear hb); (try clear hk); (try clear hi)) | ((with_reducible refine gtC (f := 17) rfl ?_); refine clz Tryd.func17 (some 8) #[.string t215] ?_; (with_reducible refine (spec_TurnsOf.calls k t215 t218 t219 t220 t221 t222 _ A3.out).mono ?_); rintro e w27 ⟨rfl, hb⟩; refine ⟨_, rfl, ?_⟩; replace BK214 := bkz BK214 hb; replace HK := Az.mk (KeepBut.trans z11_0 (KeepBut.of_below hb g none) (.inl rfl)); replace HB := Az.mk (bwT z11_6 hb); replace HI0 := Az.mk (IsS71.below z11_2 hb); (try clear hb)) | ((with_reducible refine gtD (N := 3) rfl ?_); refine bx (N := 3) (cs := #[.int .i64 0, .int .i64 0, .int .i64 0, .int .i64 0]) (t := 25) ?_; intro gb223 hg w28 hbox hb; replace HB := Az.mk (bwT z11_6 hb); have BK223 := Az.mk (hbox); have GW223 := Az.mk ((by rw [hg]; exact (keep_size (w := w) (g := g) (row := none) z11_0) : w.heap.size ≤ gb223)); have GE223 := Az.mk ((Nat.le_trans HW0.out (by rw [hg]; exact (keep_size (w := w) (g := g) (row := none) z11_0) : w.heap.size ≤ gb223) : w0.heap.size ≤ gb223)); replace HK := Az.mk (KeepBut.trans z11_0 (KeepBut.of_below hb g none) (.inl rfl)); have NB214_223 := nlt BK214 hg; have NB223_214 := ngt BK214 hg; replace BK214 := bkz BK214 hb; have NB0_223 := Az.mk ((by rw [hg]; exact Nat.ne_of_lt (IsS71.lt (show IsS71 w0 _ g s0_0 t216 t217 from by repeat (first | (with_reducible first | exact HI0.out | apply IsS71.alloc | apply IsS71.drewN | apply IsS71.drew | apply IsS71.set_1 | apply IsS71.set_2 | refine IsS71.far ?_ NB0_214.out _) | exact HI0.out))) : g ≠ gb223)); have NB223_0 := Az.mk ((by rw [hg]; exact Nat.ne_of_gt (IsS71.lt (show IsS71 w0 _ g s0_0 t216 t217 from by repeat (first | (with_reducible first | exact HI0.out | apply IsS71.alloc | apply IsS71.drewN | apply IsS71.drew | apply IsS71.set_1 | apply IsS71.set_2 | refine IsS71.far ?_ NB0_214.out _) | exact HI0.out))) : gb223 ≠ g)); replace HI0 := Az.mk (IsS71.below z11_2 hb); clear hb hbox hg; have hnb29 := NB223_214.out; have hnc29 := NB214_223.out; have hnb30 := NB223_0.out; have hnc30 := NB0_223.out; obtain ⟨hcz31_0, hcz31_1, hcz31_2, hcz31_3, hfz31_0, hfz31_1, hfz31_2, hfz31_3⟩ := bq4 BK223) | ((with_reducible refine gtC (f := 58) rfl ?_); refine clz Tryd.func58 (some 12) #[.pointer (some ⟨g, 0, none⟩), .int .i64 14] ?_; (with_reducible refine (spec_l1Below.calls g s0_0 t216 t217 14 t224 t225 t226 w0 _ ?side1 ?side2 A4.out).mono ?_); (case side1 => exact z11_4); (case side2 => repeat (first | (with_reducible first | exact HB.out | apply bwA | apply pbN | apply bwD | refine bwS ?_ (IsS71.ge HI0.out) | refine bwS ?_ GE214.out | refine bwS ?_ GE223.out) | exact HB.out)); rintro e w32 ⟨rfl, hi, hb, hk⟩; refine ⟨_, rfl, ?_⟩; replace BK214 := Az.mk (KeepBut.blk hk (g' := gb214) (o := .cells #[.int .i64 0, .int .i64 0, .int .i64 0, .int .i64 0] 25 (0, 0)) bkv NB214_0.out (by simp)); replace BK223 := Az.mk (KeepBut.blk hk (g' := gb223) (o := .cells #[.int .i64 t218, .int .i64 t219, .int .i64 t220, .int .i64 t221] 25 (0, 0)) bkv NB223_0.out (by simp)); replace HK := Az.mk (KeepBut.trans z11_5 hk (.inl rfl)); replace HB := Az.mk (hb); replace HI0 := Az.mk (hi); (try clear hb); (try clear hk); (try clear hi); have hnb33 := NB214_0.out; have hnc33 := NB0_214.out; obtain ⟨hcz34_0, hcz34_1, hcz34_2, hcz34_3, hfz34_0, hfz34_1, hfz34_2, hfz34_3⟩ := bq4 BK214))
  refine bodyPost_ret (results_cell_row rfl _ _ gb214 25 #[.int .i64 (-1), .int .i64 0, .int .i64 0, .int .i64 (-1)] (0, 0) _ rfl bkv Tryd.underlying25 rfl (by kernel_rfl)) rfl ?_
  exact ⟨rq1, by repeat (first | (with_reducible first | exact HI0.out | apply IsS71.alloc | apply IsS71.drewN | apply IsS71.drew | apply IsS71.set_1 | apply IsS71.set_2 | refine IsS71.far ?_ NB0_214.out _ | refine IsS71.far ?_ NB0_223.out _) | exact HI0.out), by repeat (first | (with_reducible first | exact HB.out | apply bwA | apply pbN | apply bwD | refine bwS ?_ (IsS71.ge HI0.out) | refine bwS ?_ GE214.out | refine bwS ?_ GE223.out) | exact HB.out), by repeat (first | (with_reducible first | exact HK.out | apply KeepBut.set_ | apply keep_drewN | apply keep_drew | apply keep_alloc | refine keep_far ?_ GW214.out _ | refine keep_far ?_ GW223.out _) | exact HK.out)⟩
 rw [if_neg c24] at H
 have c24b0 : (t224 == 1) = false := beq_eq_false_iff_ne.mpr c24
 have c24b1 : (t224 != 1) = true := bne_iff_ne.mpr c24
 by_cases c35 : t224 = 2
 rotate_left
 ·rw [if_neg c35] at H
  have c35b0 : (t224 == 2) = false := beq_eq_false_iff_ne.mpr c35
  have c35b1 : (t224 != 2) = true := bne_iff_ne.mpr c35
  simp only [Option.some.injEq, Prod.mk.injEq] at H
  obtain ⟨rfl, rfl, rfl, rfl, rfl, rfl⟩ := H
  go_enter Tryd.func38, Tryd.ntmps38
  go_wp2_with (first | ((with_reducible refine gtD (N := 2) rfl ?_); refine bx (N := 2) (cs := #[.int .i64 0, .int .i64 0, .int .i64 0, .int .i64 0]) (t := 25) ?_; intro gb214 hg w46 hbox hb; replace HB := Az.mk (bwT z11_7 hb); have BK214 := Az.mk (hbox); have GW214 := Az.mk ((by rw [hg]; exact (keep_size (w := w) (g := g) (row := none) z11_1) : w.heap.size ≤ gb214)); have GE214 := Az.mk ((Nat.le_trans HW0.out (by rw [hg]; exact (keep_size (w := w) (g := g) (row := none) z11_1) : w.heap.size ≤ gb214) : w0.heap.size ≤ gb214)); replace HK := Az.mk (KeepBut.trans z11_1 (KeepBut.of_below hb g none) (.inl rfl)); have NB0_214 := Az.mk ((by rw [hg]; exact Nat.ne_of_lt (IsS71.lt (show IsS71 w0 _ g s0_0 s0_1 s0_2 from by repeat (first | (with_reducible first | exact HI0.out | apply IsS71.alloc | apply IsS71.drewN | apply IsS71.drew | apply IsS71.set_1 | apply IsS71.set_2) | exact HI0.out))) : g ≠ gb214)); have NB214_0 := Az.mk ((by rw [hg]; exact Nat.ne_of_gt (IsS71.lt (show IsS71 w0 _ g s0_0 s0_1 s0_2 from by repeat (first | (with_reducible first | exact HI0.out | apply IsS71.alloc | apply IsS71.drewN | apply IsS71.drew | apply IsS71.set_1 | apply IsS71.set_2) | exact HI0.out))) : gb214 ≠ g)); replace HI0 := Az.mk (IsS71.below z11_3 hb); clear hb hbox hg) | ((with_reducible refine gtC (f := 47) rfl ?_); refine clz Tryd.func47 (some 7) #[.pointer (some ⟨g, 0, none⟩), .int .i64 6] ?_; (with_reducible refine (spec_l13Word.calls k g s0_0 s0_1 s0_2 6 t215 t216 t217 w0 _ ?side1 ?side2 A2.out).mono ?_); (case side1 => exact z11_2); (case side2 => repeat (first | (with_reducible first | exact HB.out | apply bwA | apply pbN | apply bwD | refine bwS ?_ (IsS71.ge HI0.out) | refine bwS ?_ GE214.out) | exact HB.out)); rintro e w47 ⟨rfl, hi, hb, hk⟩; refine ⟨_, rfl, ?_⟩; replace BK214 := bkk BK214 hk NB214_0; replace HK := Az.mk (KeepBut.trans z11_0 hk (.inl rfl)); replace HB := Az.mk (hb); replace HI0 := Az.mk (hi); (try clear hb); (try clear hk); (try clear hi)) | ((with_reducible refine gtC (f := 17) rfl ?_); refine clz Tryd.func17 (some 8) #[.string t215] ?_; (with_reducible refine (spec_TurnsOf.calls k t215 t218 t219 t220 t221 t222 _ A3.out).mono ?_); rintro e w48 ⟨rfl, hb⟩; refine ⟨_, rfl, ?_⟩; replace BK214 := bkz BK214 hb; replace HK := Az.mk (KeepBut.trans z11_0 (KeepBut.of_below hb g none) (.inl rfl)); replace HB := Az.mk (bwT z11_6 hb); replace HI0 := Az.mk (IsS71.below z11_2 hb); (try clear hb)) | ((with_reducible refine gtD (N := 3) rfl ?_); refine bx (N := 3) (cs := #[.int .i64 0, .int .i64 0, .int .i64 0, .int .i64 0]) (t := 25) ?_; intro gb223 hg w49 hbox hb; replace HB := Az.mk (bwT z11_6 hb); have BK223 := Az.mk (hbox); have GW223 := Az.mk ((by rw [hg]; exact (keep_size (w := w) (g := g) (row := none) z11_0) : w.heap.size ≤ gb223)); have GE223 := Az.mk ((Nat.le_trans HW0.out (by rw [hg]; exact (keep_size (w := w) (g := g) (row := none) z11_0) : w.heap.size ≤ gb223) : w0.heap.size ≤ gb223)); replace HK := Az.mk (KeepBut.trans z11_0 (KeepBut.of_below hb g none) (.inl rfl)); have NB214_223 := nlt BK214 hg; have NB223_214 := ngt BK214 hg; replace BK214 := bkz BK214 hb; have NB0_223 := Az.mk ((by rw [hg]; exact Nat.ne_of_lt (IsS71.lt (show IsS71 w0 _ g s0_0 t216 t217 from by repeat (first | (with_reducible first | exact HI0.out | apply IsS71.alloc | apply IsS71.drewN | apply IsS71.drew | apply IsS71.set_1 | apply IsS71.set_2 | refine IsS71.far ?_ NB0_214.out _) | exact HI0.out))) : g ≠ gb223)); have NB223_0 := Az.mk ((by rw [hg]; exact Nat.ne_of_gt (IsS71.lt (show IsS71 w0 _ g s0_0 t216 t217 from by repeat (first | (with_reducible first | exact HI0.out | apply IsS71.alloc | apply IsS71.drewN | apply IsS71.drew | apply IsS71.set_1 | apply IsS71.set_2 | refine IsS71.far ?_ NB0_214.out _) | exact HI0.out))) : gb223 ≠ g)); replace HI0 := Az.mk (IsS71.below z11_2 hb); clear hb hbox hg; have hnb50 := NB223_214.out; have hnc50 := NB214_223.out; have hnb51 := NB223_0.out; have hnc51 := NB0_223.out; obtain ⟨hcz52_0, hcz52_1, hcz52_2, hcz52_3, hfz52_0, hfz52_1, hfz52_2, hfz52_3⟩ := bq4 BK223) | ((with_reducible refine gtC (f := 58) rfl ?_); refine clz Tryd.func58 (some 12) #[.pointer (some ⟨g, 0, none⟩), .int .i64 14] ?_; (with_reducible refine (spec_l1Below.calls g s0_0 t216 t217 14 t224 t225 t226 w0 _ ?side1 ?side2 A4.out).mono ?_); (case side1 => exact z11_4); (case side2 => repeat (first | (with_reducible first | exact HB.out | apply bwA | apply pbN | apply bwD | refine bwS ?_ (IsS71.ge HI0.out) | refine bwS ?_ GE214.out | refine bwS ?_ GE223.out) | exact HB.out)); rintro e w53 ⟨rfl, hi, hb, hk⟩; refine ⟨_, rfl, ?_⟩; replace BK214 := Az.mk (KeepBut.blk hk (g' := gb214) (o := .cells #[.int .i64 0, .int .i64 0, .int .i64 0, .int .i64 0] 25 (0, 0)) bkv NB214_0.out (by simp)); replace BK223 := Az.mk (KeepBut.blk hk (g' := gb223) (o := .cells #[.int .i64 t218, .int .i64 t219, .int .i64 t220, .int .i64 t221] 25 (0, 0)) bkv NB223_0.out (by simp)); replace HK := Az.mk (KeepBut.trans z11_5 hk (.inl rfl)); replace HB := Az.mk (hb); replace HI0 := Az.mk (hi); (try clear hb); (try clear hk); (try clear hi); obtain ⟨hcz54_0, hcz54_1, hcz54_2, hcz54_3, hfz54_0, hfz54_1, hfz54_2, hfz54_3⟩ := bq4 BK223; have hnb55 := NB214_0.out; have hnc55 := NB0_214.out; obtain ⟨hcz56_0, hcz56_1, hcz56_2, hcz56_3, hfz56_0, hfz56_1, hfz56_2, hfz56_3⟩ := bq4 BK214))
  refine bodyPost_ret (results_cell_row rfl _ _ gb214 25 #[.int .i64 t218, .int .i64 t219, .int .i64 t220, .int .i64 t221] (0, 0) _ rfl bkv Tryd.underlying25 rfl (by kernel_rfl)) rfl ?_
  exact ⟨rq1, by repeat (first | (with_reducible first | exact HI0.out | apply IsS71.alloc | apply IsS71.drewN | apply IsS71.drew | apply IsS71.set_1 | apply IsS71.set_2 | refine IsS71.far ?_ NB0_214.out _ | refine IsS71.far ?_ NB0_223.out _) | exact HI0.out), by repeat (first | (with_reducible first | exact HB.out | apply bwA | apply pbN | apply bwD | refine bwS ?_ (IsS71.ge HI0.out) | refine bwS ?_ GE214.out | refine bwS ?_ GE223.out) | exact HB.out), by repeat (first | (with_reducible first | exact HK.out | apply KeepBut.set_ | apply keep_drewN | apply keep_drew | apply keep_alloc | refine keep_far ?_ GW214.out _ | refine keep_far ?_ GW223.out _) | exact HK.out)⟩
 rw [if_pos c35] at H
 have c35b0 : (t224 == 2) = true := beq_iff_eq.mpr c35
 have c35b1 : (t224 != 2) = false := bne_eq_false_iff_eq.mpr c35
 clear c35
 simp only [Option.some.injEq, Prod.mk.injEq] at H
 obtain ⟨rfl, rfl, rfl, rfl, rfl, rfl⟩ := H
 go_enter Tryd.func38, Tryd.ntmps38
 go_wp2_with (first | ((with_reducible refine gtD (N := 2) rfl ?_); refine bx (N := 2) (cs := #[.int .i64 0, .int .i64 0, .int .i64 0, .int .i64 0]) (t := 25) ?_; intro gb214 hg w36 hbox hb; replace HB := Az.mk (bwT z11_7 hb); have BK214 := Az.mk (hbox); have GW214 := Az.mk ((by rw [hg]; exact (keep_size (w := w) (g := g) (row := none) z11_1) : w.heap.size ≤ gb214)); have GE214 := Az.mk ((Nat.le_trans HW0.out (by rw [hg]; exact (keep_size (w := w) (g := g) (row := none) z11_1) : w.heap.size ≤ gb214) : w0.heap.size ≤ gb214)); replace HK := Az.mk (KeepBut.trans z11_1 (KeepBut.of_below hb g none) (.inl rfl)); have NB0_214 := Az.mk ((by rw [hg]; exact Nat.ne_of_lt (IsS71.lt (show IsS71 w0 _ g s0_0 s0_1 s0_2 from by repeat (first | (with_reducible first | exact HI0.out | apply IsS71.alloc | apply IsS71.drewN | apply IsS71.drew | apply IsS71.set_1 | apply IsS71.set_2) | exact HI0.out))) : g ≠ gb214)); have NB214_0 := Az.mk ((by rw [hg]; exact Nat.ne_of_gt (IsS71.lt (show IsS71 w0 _ g s0_0 s0_1 s0_2 from by repeat (first | (with_reducible first | exact HI0.out | apply IsS71.alloc | apply IsS71.drewN | apply IsS71.drew | apply IsS71.set_1 | apply IsS71.set_2) | exact HI0.out))) : gb214 ≠ g)); replace HI0 := Az.mk (IsS71.below z11_3 hb); clear hb hbox hg) | ((with_reducible refine gtC (f := 47) rfl ?_); refine clz Tryd.func47 (some 7) #[.pointer (some ⟨g, 0, none⟩), .int .i64 6] ?_; (with_reducible refine (spec_l13Word.calls k g s0_0 s0_1 s0_2 6 t215 t216 t217 w0 _ ?side1 ?side2 A2.out).mono ?_); (case side1 => exact z11_2); (case side2 => repeat (first | (with_reducible first | exact HB.out | apply bwA | apply pbN | apply bwD | refine bwS ?_ (IsS71.ge HI0.out) | refine bwS ?_ GE214.out) | exact HB.out)); rintro e w37 ⟨rfl, hi, hb, hk⟩; refine ⟨_, rfl, ?_⟩; replace BK214 := bkk BK214 hk NB214_0; replace HK := Az.mk (KeepBut.trans z11_0 hk (.inl rfl)); replace HB := Az.mk (hb); replace HI0 := Az.mk (hi); (try clear hb); (try clear hk); (try clear hi)) | ((with_reducible refine gtC (f := 17) rfl ?_); refine clz Tryd.func17 (some 8) #[.string t215] ?_; (with_reducible refine (spec_TurnsOf.calls k t215 t218 t219 t220 t221 t222 _ A3.out).mono ?_); rintro e w38 ⟨rfl, hb⟩; refine ⟨_, rfl, ?_⟩; replace BK214 := bkz BK214 hb; replace HK := Az.mk (KeepBut.trans z11_0 (KeepBut.of_below hb g none) (.inl rfl)); replace HB := Az.mk (bwT z11_6 hb); replace HI0 := Az.mk (IsS71.below z11_2 hb); (try clear hb)) | ((with_reducible refine gtD (N := 3) rfl ?_); refine bx (N := 3) (cs := #[.int .i64 0, .int .i64 0, .int .i64 0, .int .i64 0]) (t := 25) ?_; intro gb223 hg w39 hbox hb; replace HB := Az.mk (bwT z11_6 hb); have BK223 := Az.mk (hbox); have GW223 := Az.mk ((by rw [hg]; exact (keep_size (w := w) (g := g) (row := none) z11_0) : w.heap.size ≤ gb223)); have GE223 := Az.mk ((Nat.le_trans HW0.out (by rw [hg]; exact (keep_size (w := w) (g := g) (row := none) z11_0) : w.heap.size ≤ gb223) : w0.heap.size ≤ gb223)); replace HK := Az.mk (KeepBut.trans z11_0 (KeepBut.of_below hb g none) (.inl rfl)); have NB214_223 := nlt BK214 hg; have NB223_214 := ngt BK214 hg; replace BK214 := bkz BK214 hb; have NB0_223 := Az.mk ((by rw [hg]; exact Nat.ne_of_lt (IsS71.lt (show IsS71 w0 _ g s0_0 t216 t217 from by repeat (first | (with_reducible first | exact HI0.out | apply IsS71.alloc | apply IsS71.drewN | apply IsS71.drew | apply IsS71.set_1 | apply IsS71.set_2 | refine IsS71.far ?_ NB0_214.out _) | exact HI0.out))) : g ≠ gb223)); have NB223_0 := Az.mk ((by rw [hg]; exact Nat.ne_of_gt (IsS71.lt (show IsS71 w0 _ g s0_0 t216 t217 from by repeat (first | (with_reducible first | exact HI0.out | apply IsS71.alloc | apply IsS71.drewN | apply IsS71.drew | apply IsS71.set_1 | apply IsS71.set_2 | refine IsS71.far ?_ NB0_214.out _) | exact HI0.out))) : gb223 ≠ g)); replace HI0 := Az.mk (IsS71.below z11_2 hb); clear hb hbox hg; have hnb40 := NB223_214.out; have hnc40 := NB214_223.out; have hnb41 := NB223_0.out; have hnc41 := NB0_223.out; obtain ⟨hcz42_0, hcz42_1, hcz42_2, hcz42_3, hfz42_0, hfz42_1, hfz42_2, hfz42_3⟩ := bq4 BK223) | ((with_reducible refine gtC (f := 58) rfl ?_); refine clz Tryd.func58 (some 12) #[.pointer (some ⟨g, 0, none⟩), .int .i64 14] ?_; (with_reducible refine (spec_l1Below.calls g s0_0 t216 t217 14 t224 t225 t226 w0 _ ?side1 ?side2 A4.out).mono ?_); (case side1 => exact z11_4); (case side2 => repeat (first | (with_reducible first | exact HB.out | apply bwA | apply pbN | apply bwD | refine bwS ?_ (IsS71.ge HI0.out) | refine bwS ?_ GE214.out | refine bwS ?_ GE223.out) | exact HB.out)); rintro e w43 ⟨rfl, hi, hb, hk⟩; refine ⟨_, rfl, ?_⟩; replace BK214 := Az.mk (KeepBut.blk hk (g' := gb214) (o := .cells #[.int .i64 0, .int .i64 0, .int .i64 0, .int .i64 0] 25 (0, 0)) bkv NB214_0.out (by simp)); replace BK223 := Az.mk (KeepBut.blk hk (g' := gb223) (o := .cells #[.int .i64 t218, .int .i64 t219, .int .i64 t220, .int .i64 t221] 25 (0, 0)) bkv NB223_0.out (by simp)); replace HK := Az.mk (KeepBut.trans z11_5 hk (.inl rfl)); replace HB := Az.mk (hb); replace HI0 := Az.mk (hi); (try clear hb); (try clear hk); (try clear hi); have hnb44 := NB214_0.out; have hnc44 := NB0_214.out; obtain ⟨hcz45_0, hcz45_1, hcz45_2, hcz45_3, hfz45_0, hfz45_1, hfz45_2, hfz45_3⟩ := bq4 BK214))
 refine bodyPost_ret (results_cell_row rfl _ _ gb214 25 #[.int .i64 0, .int .i64 (-1), .int .i64 1, .int .i64 0] (0, 0) _ rfl bkv Tryd.underlying25 rfl (by kernel_rfl)) rfl ?_
 exact ⟨rq1, by repeat (first | (with_reducible first | exact HI0.out | apply IsS71.alloc | apply IsS71.drewN | apply IsS71.drew | apply IsS71.set_1 | apply IsS71.set_2 | refine IsS71.far ?_ NB0_214.out _ | refine IsS71.far ?_ NB0_223.out _) | exact HI0.out), by repeat (first | (with_reducible first | exact HB.out | apply bwA | apply pbN | apply bwD | refine bwS ?_ (IsS71.ge HI0.out) | refine bwS ?_ GE214.out | refine bwS ?_ GE223.out) | exact HB.out), by repeat (first | (with_reducible first | exact HK.out | apply KeepBut.set_ | apply keep_drewN | apply keep_drew | apply keep_alloc | refine keep_far ?_ GW214.out _ | refine keep_far ?_ GW223.out _) | exact HK.out)⟩

/-! ### spec_DrawTimesMatrix: function 9 -/
def spec_DrawTimesMatrix.f (k : Nat) (l0 : List Int) : Option (Int × Int × Int × Int × Int × Int × Int × Int) := (spec_l1New.f k l0).bind fun bt241 => ((spec_l13Draw.f k bt241.1 bt241.2.1 bt241.2.2).bind fun bt245 => ((spec_l13Draw.f k bt241.1 bt245.2.2.2.2.1 bt245.2.2.2.2.2).bind fun bt251 => (some (bt245.1, bt245.2.1, bt245.2.2.1, bt245.2.2.2.1, bt251.1, bt251.2.1, bt251.2.2.1, bt251.2.2.2.1))))
theorem spec_DrawTimesMatrix.mono : ∀ a0 k, LeO (spec_DrawTimesMatrix.f k a0) (spec_DrawTimesMatrix.f (k + 1) a0) := by
 intro a0 k
 unfold spec_DrawTimesMatrix.f
 exact mo_
instance spec_DrawTimesMatrix.mi {a0 k} : MoO (spec_DrawTimesMatrix.f k a0) (spec_DrawTimesMatrix.f (k + 1) a0) := ⟨spec_DrawTimesMatrix.mono _ _⟩
set_option maxHeartbeats 8000000 in
set_option maxRecDepth 100000 in
theorem spec_DrawTimesMatrix.calls (k : Nat) (A0 : Option Addr) (c0 : Nat) (l0 : List Int) (r1 : Int) (r2 : Int) (r3 : Int) (r4 : Int) (r5 : Int) (r6 : Int) (r7 : Int) (r8 : Int) (w : World) (hr0 : Kd.C (Kd.int .u8) w A0 l0.length l0) (hc0 : l0.length ≤ c0) (h : spec_DrawTimesMatrix.f k l0 = some (r1, r2, r3, r4, r5, r6, r7, r8)) :
  Calls Tryd.prog 9 #[.slice A0 l0.length c0] w fun e w' => e = .returned (.tuple #[.agg #[.int .i64 r1, .int .i64 r2, .int .i64 r3, .int .i64 r4], .agg #[.int .i64 r5, .int .i64 r6, .int .i64 r7, .int .i64 r8]]) ∧ Below w.heap.size w w' := by
 have hu25 := Tryd.underlying25
 have HR0 := Az.mk hr0
 have HC0 := Az.mk hc0
 clear hr0 hc0
 have HB := Az.mk (Below.refl w.heap.size w)
 have H : ((spec_l1New.f k l0).bind fun bt241 => ((spec_l13Draw.f k bt241.1 bt241.2.1 bt241.2.2).bind fun bt245 => ((spec_l13Draw.f k bt241.1 bt245.2.2.2.2.1 bt245.2.2.2.2.2).bind fun bt251 => (some (bt245.1, bt245.2.1, bt245.2.2.1, bt245.2.2.2.1, bt251.1, bt251.2.1, bt251.2.2.1, bt251.2.2.2.1))))) = some (r1, r2, r3, r4, r5, r6, r7, r8) := h
 clear h
 replace H := bez H
 obtain ⟨⟨t241, t242, t243⟩, A2, H⟩ := H
 try dsimp only at H
 replace H := bez H
 obtain ⟨⟨t245, t246, t247, t248, t249, t250⟩, A3, H⟩ := H
 try dsimp only at H
 replace H := bez H
 obtain ⟨⟨t251, t252, t253, t254, t255, t256⟩, A4, H⟩ := H
 try dsimp only at H
 simp only [Option.some.injEq, Prod.mk.injEq] at H
 obtain ⟨rfl, rfl, rfl, rfl, rfl, rfl, rfl, rfl⟩ := H
 go_enter Tryd.func9, Tryd.ntmps9
 go_wp2_with (first | ((with_reducible refine gtD (N := 2) rfl ?_); refine bx (N := 2) (cs := #[.int .i64 0, .int .i64 0, .int .i64 0, .int .i64 0]) (t := 25) ?_; intro gb239 hg w5 hbox hb; have BK239 := Az.mk (hbox); have GW239 := gwz hg bw_11; have GE239 := gwz hg bw_11; replace HB := Az.mk (bwT bw_11 hb); clear hb hbox hg) | ((with_reducible refine gtD (N := 3) rfl ?_); refine bx (N := 3) (cs := #[.int .i64 0, .int .i64 0, .int .i64 0, .int .i64 0]) (t := 25) ?_; intro gb240 hg w6 hbox hb; have BK240 := Az.mk (hbox); have GW240 := gwz hg bw_11; have GE240 := gwz hg bw_11; replace HB := Az.mk (bwT bw_11 hb); have NB239_240 := nlt BK239 hg; have NB240_239 := ngt BK239 hg; replace BK239 := bkz BK239 hb; clear hb hbox hg) | ((with_reducible refine gtC (f := 37) rfl ?_); refine clz Tryd.func37 (some 6) #[.slice A0 l0.length c0] ?_; (with_reducible refine (spec_l1New.calls k _ _ l0 t241 t242 t243 w _ ?side1 ?side2 ?side3 A2.out).mono ?_); (case side1 => exact bw_11); (case side2 => exact HR0.out); (case side3 => exact HC0.out); rintro e w7 ⟨g244, rfl, hi, hb, hb2⟩; refine ⟨_, rfl, ?_⟩; replace HB := Az.mk (hb); have HI244 := Az.mk (hi); have NB244_239 := Az.mk (IsS71.ne_blk hi (bkB (g := gb239) (o := .cells #[.int .i64 0, .int .i64 0, .int .i64 0, .int .i64 0] 25 (0, 0)) (bk1 BK239) hb2) (by decide)); have NB239_244 := Az.mk (Ne.symm (IsS71.ne_blk hi (bkB (g := gb239) (o := .cells #[.int .i64 0, .int .i64 0, .int .i64 0, .int .i64 0] 25 (0, 0)) (bk1 BK239) hb2) (by decide))); replace BK239 := Az.mk (bkB (g := gb239) (o := .cells #[.int .i64 0, .int .i64 0, .int .i64 0, .int .i64 0] 25 (0, 0)) (bk1 BK239) hb2); have NB244_240 := Az.mk (IsS71.ne_blk hi (bkB (g := gb240) (o := .cells #[.int .i64 0, .int .i64 0, .int .i64 0, .int .i64 0] 25 (0, 0)) (bk1 BK240) hb2) (by decide)); have NB240_244 := Az.mk (Ne.symm (IsS71.ne_blk hi (bkB (g := gb240) (o := .cells #[.int .i64 0, .int .i64 0, .int .i64 0, .int .i64 0] 25 (0, 0)) (bk1 BK240) hb2) (by decide))); replace BK240 := Az.mk (bkB (g := gb240) (o := .cells #[.int .i64 0, .int .i64 0, .int .i64 0, .int .i64 0] 25 (0, 0)) (bk1 BK240) hb2); (try clear hb); (try clear hb2); (try clear hi)) | ((with_reducible refine gtC (f := 38) rfl ?_); refine clz Tryd.func38 (some 8) #[.pointer (some ⟨g244, 0, none⟩)] ?_; (with_reducible refine (spec_l13Draw.calls k g244 t241 t242 t243 t245 t246 t247 t248 t249 t250 w _ ?side1 ?side2 A3.out).mono ?_); (case side1 => exact (by repeat (first | (with_reducible first | exact HI244.out | apply IsS71.alloc | apply IsS71.drewN | apply IsS71.drew | apply IsS71.set_1 | apply IsS71.set_2 | refine IsS71.far ?_ NB244_239.out _ | refine IsS71.far ?_ NB244_240.out _) | exact HI244.out))); (case side2 => repeat (first | (with_reducible first | exact HB.out | apply bwA | apply pbN | apply bwD | refine bwS ?_ (IsS71.ge HI244.out) | refine bwS ?_ GE239.out | refine bwS ?_ GE240.out) | exact HB.out)); rintro e w8 ⟨rfl, hi, hb, hk⟩; refine ⟨_, rfl, ?_⟩; replace BK239 := bkk BK239 hk NB239_244; replace BK240 := bkk BK240 hk NB240_244; replace HB := Az.mk (hb); replace HI244 := Az.mk (hi); (try clear hb); (try clear hk); (try clear hi)) | ((with_reducible refine gtC (f := 38) rfl ?_); refine clz Tryd.func38 (some 10) #[.pointer (some ⟨g244, 0, none⟩)] ?_; (with_reducible refine (spec_l13Draw.calls k g244 t241 t249 t250 t251 t252 t253 t254 t255 t256 w _ ?side1 ?side2 A4.out).mono ?_); (case side1 => exact (by repeat (first | (with_reducible first | exact HI244.out | apply IsS71.alloc | apply IsS71.drewN | apply IsS71.drew | apply IsS71.set_1 | apply IsS71.set_2 | refine IsS71.far ?_ NB244_239.out _ | refine IsS71.far ?_ NB244_240.out _) | exact HI244.out))); (case side2 => repeat (first | (with_reducible first | exact HB.out | apply bwA | apply pbN | apply bwD | refine bwS ?_ (IsS71.ge HI244.out) | refine bwS ?_ GE239.out | refine bwS ?_ GE240.out) | exact HB.out)); rintro e w9 ⟨rfl, hi, hb, hk⟩; refine ⟨_, rfl, ?_⟩; replace BK239 := bkk BK239 hk NB239_244; replace BK240 := bkk BK240 hk NB240_244; replace HB := Az.mk (hb); replace HI244 := Az.mk (hi); (try clear hb); (try clear hk); (try clear hi); have hnb10 := NB239_240.out; have hnc10 := NB240_239.out; have hnb11 := NB239_244.out; have hnc11 := NB244_239.out; obtain ⟨hcz12_0, hcz12_1, hcz12_2, hcz12_3, hfz12_0, hfz12_1, hfz12_2, hfz12_3⟩ := bq4 BK239; have hnb13 := NB240_244.out; have hnc13 := NB244_240.out; obtain ⟨hcz14_0, hcz14_1, hcz14_2, hcz14_3, hfz14_0, hfz14_1, hfz14_2, hfz14_3⟩ := bq4 BK240))
 refine bodyPost_ret (results_cc rfl _ _ gb239 gb240 25 25 #[.int .i64 t245, .int .i64 t246, .int .i64 t247, .int .i64 t248] #[.int .i64 t251, .int .i64 t252, .int .i64 t253, .int .i64 t254] (0, 0) (0, 0) _ _ rfl bkv Tryd.underlying25 rfl (by kernel_rfl) rfl bkv Tryd.underlying25 rfl (by kernel_rfl)) rfl ?_
 exact ⟨rq1, by repeat (first | (with_reducible first | exact HB.out | apply bwA | apply pbN | apply bwD | refine bwS ?_ (IsS71.ge HI244.out) | refine bwS ?_ GE239.out | refine bwS ?_ GE240.out) | exact HB.out)⟩

end Go.Proofs.YtnoiijdffdpabaaDoor.P
