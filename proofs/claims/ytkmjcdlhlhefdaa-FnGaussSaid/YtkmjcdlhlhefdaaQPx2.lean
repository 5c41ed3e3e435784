-- By this session's driver (wip/tools/mk.py) of the kit's print program, over several statements at once. Not trusted: Lean checks it.
import Derived.Test.YtkmjcdlhlhefdaaQWZip
import Derived.Test.YtkmjcdlhlhefdaaQPx0
import Derived.Test.YtkmjcdlhlhefdaaQPx1
namespace Go.Proofs.Ytkmjcdlhlhefdaa.P
open Go.RowKit Go.Proofs.YtkmjcdlhlhefdaaW.PrintWords Go.Proofs.YtkmjcdlhlhefdaaW.PrintLast Go.Proofs.YtkmjcdlhlhefdaaW.PrintMore
attribute [local go_sem] max2_int min2_int max_two min_two max_three min_three max_four min_four   -- for this text's walks alone
set_option linter.unusedVariables false
set_option linter.unusedSimpArgs false

theorem bw_2 {n : Nat} {v v' : World} (h : Below n v v' := by repeat (first | (with_reducible first | exact HB.out | apply bwA | apply pbN | apply bwD | refine bwS ?_ GE166.out | refine bwS ?_ GE167.out) | exact HB.out)) : Below n v v' := h

theorem ln_2 {P : Prop} (h : P := by (try simp only [List.map_toArray, List.map_cons, List.map_nil]); first | done | rfl | (simp only [List.length_drop, List.length_take]; rfl)) : P := h
open Option renaming bind_eq_some_iff → be

/-! ### spec_l18Draw: function 30 -/
theorem capB_ {A : Option Addr} {c : Nat} (x y : Nat) : (Value.slice A x c).ownBlock = (Value.slice A y c).ownBlock := by cases A <;> rfl
mutual
def spec_l18Draw.l0 : Nat → List Int → Int → Int → List Int → Int → Int → Option (List Int × Int × Int)
 | 0, _, _, _, _, _, _ => none
 | k + 1, x3, x4, x5, x1000, x1001, x1002 => if x5 ≤ x4 then (spec_l18Draw.l1 k x3 x4 x5 0 x1000 x1001 x1002) else ((spec_l1Below.f x1000 x1001 x1002 16).bind fun bt149 => (if bt149.1 = 0 then ((spec_l1PickInt.f x1000 bt149.2.1 bt149.2.2 (([(-1), 8, 9] : List Int))).bind fun bt155 => (if 0 < (x3.length : Int) then (some ((x3.set (0 : Int).toNat bt155.1), bt155.2.1, bt155.2.2)) else (none))) else (if bt149.1 = 1 then (some ((([1, 2, 3, 1, 2, 3] : List Int)), bt149.2.1, bt149.2.2)) else (if bt149.1 = 2 then (some ((([1, 2, 3, 4, 2, 1, 4, 3] : List Int)), bt149.2.1, bt149.2.2)) else (some (x3, bt149.2.1, bt149.2.2))))))
def spec_l18Draw.l1 : Nat → List Int → Int → Int → Int → List Int → Int → Int → Option (List Int × Int × Int)
 | 0, _, _, _, _, _, _, _ => none
 | k + 1, x3, x4, x5, x6, x1000, x1001, x1002 => if x6 < 2 then ((spec_l1Below.f x1000 x1001 x1002 (wrap64 ((x3.length : Int) + 1))).bind fun bt127 => ((some (([] : List Int) : List Int)).bind fun y130 => (if 0 ≤ bt127.1 then (if bt127.1 ≤ (x3.length : Int) then ((some (x3.drop (bt127.1 : Int).toNat : List Int)).bind fun y133 => (if y130.length + y133.length < 17592186044416 then ((some (y130 ++ y133 : List Int)).bind fun y137 => ((some (x3.take (bt127.1 : Int).toNat : List Int)).bind fun y140 => (if y140.length < 17592186044416 then ((some (y140 ++ [x5] : List Int)).bind fun y143 => (if y143.length + y137.length < 17592186044416 then (spec_l18Draw.l1 k (y143 ++ y137) x4 x5 (wrap64 (x6 + 1)) x1000 bt127.2.1 bt127.2.2) else (none))) else (none)))) else (none))) else (none)) else (none)))) else (spec_l18Draw.l0 k x3 x4 (wrap64 (x5 + 1)) x1000 x1001 x1002)
end
def spec_l18Draw.f (k : Nat) (s0_0 : List Int) (s0_1 : Int) (s0_2 : Int) : Option (List Int × Int × Int) := (spec_l1Below.f s0_0 s0_1 s0_2 5).bind fun bt124 => (spec_l18Draw.l0 k (([] : List Int)) (wrap64 (1 + bt124.1)) 1 s0_0 bt124.2.1 bt124.2.2)
set_option maxHeartbeats 8000000 in
set_option maxRecDepth 100000 in
theorem spec_l18Draw.calls (k : Nat) (g : Nat) (s0_0 : List Int) (s0_1 : Int) (s0_2 : Int) (r1 : List Int) (r2 : Int) (r3 : Int) (w0 w : World) (hI : IsS51 w0 w g s0_0 s0_1 s0_2) (hB : Below w0.heap.size w0 w) (h : spec_l18Draw.f k s0_0 s0_1 s0_2 = some (r1, r2, r3)) :
  Calls Try.prog 30 #[.pointer (some ⟨g, 0, none⟩)] w fun e w' => ∃ v0_ : Value, e = .returned (v0_) ∧ Kd.R (Kd.int .i64) 3 w' w.heap.size (fun _ => True) v0_ r1 ∧ IsS51 w0 w' g s0_0 r2 r3 ∧ Below w0.heap.size w0 w' ∧ KeepBut w w' g none := by
 have HI0 := Az.mk hI
 have HK := Az.mk (KeepBut.refl w g none)
 have HL := Az.mk hB.size
 clear hI
 have HW0 := Az.mk hB.size
 have HB := Az.mk hB
 clear hB
 have H : ((spec_l1Below.f s0_0 s0_1 s0_2 5).bind fun bt124 => (spec_l18Draw.l0 k (([] : List Int)) (wrap64 (1 + bt124.1)) 1 s0_0 bt124.2.1 bt124.2.2)) = some (r1, r2, r3) := h
 clear h
 obtain ⟨y121, hy⟩ : ∃ y_ : List Int, y_ = (([] : List Int)) := ⟨_, rfl⟩
 replace H : ((spec_l1Below.f s0_0 s0_1 s0_2 5).bind fun bt124 => (spec_l18Draw.l0 k y121 (wrap64 (1 + bt124.1)) 1 s0_0 bt124.2.1 bt124.2.2)) = some (r1, r2, r3) := rh
 have Ny121 := Az.mk hy
 clear hy
 replace H := bez H
 obtain ⟨⟨t124, t125, t126⟩, A2, H⟩ := H
 try dsimp only at H
 have H' := Az.mk H
 clear H
 go_enter Try.func30, Try.ntmps30
 go_wp2_with (first | ((with_reducible refine gtD (N := 9) rfl ?_); refine Kd.R_lit (Kd.int .i64) _ 3 ?hg (N := 9) ?hd (xs := ([] : List Int)) (inner := []) (ok := fun _ => True) (okp := fun _ => True) ?hr ?hp (fun _ hk => hk) trivial (Below.refl _ _) (Nat.le_refl _) (by simp) ?_; (case hd => rfl); (case hg => rfl); (case hr => first | (go_simp; done) | (go_simp; rfl)); (case hp => exact (Reps.none _ _)); intro v122 w3 ho4 hb hg_ hnew_; clear hg_ hnew_; (first | rw [← Ny121.out] at ho4 | (simp only [Int.reduceToNat] at ho4; rw [← Ny121.out] at ho4)); have HO123 := Az.mk (Kd.R_lower ho4 (keep_size (w := w) (g := g) (row := none) (kK HK.out))); replace HK := Az.mk (KeepBut.trans (kK HK.out) (KeepBut.of_below hb g none) (.inl rfl)); replace HB := Az.mk (bwT (kG HB.out (IsS51.ge HI0.out)) hb); replace HI0 := Az.mk (IsS51.below (kI HI0.out) hb); clear hb ho4) | ((with_reducible refine gtC (f := 34) rfl ?_); refine clz Try.func34 (some 11) #[.pointer (some ⟨g, 0, none⟩), .int .i64 5] ?_; (with_reducible refine (spec_l1Below.calls g s0_0 s0_1 s0_2 5 t124 t125 t126 w0 _ ?side1 ?side2 A2.out).mono ?_); (case side1 => exact (kI HI0.out)); (case side2 => exact kG HB.out (IsS51.ge HI0.out)); rintro e w5 ⟨rfl, hi, hb, hk⟩; refine ⟨_, rfl, ?_⟩; replace HO123 := Az.mk (Kd.R_mono (Kd.R_keep (IsS51.apart (show IsS51 w0 _ g s0_0 s0_1 s0_2 from kI HI0.out) (kR HO123.out) (by decide)) hk (fun _ h => h.2)) (fun _ h => h.1)); replace HK := Az.mk (KeepBut.trans (kK HK.out) hk (.inl rfl)); replace HB := Az.mk (hb); replace HI0 := Az.mk (hi); (try clear hb); (try clear hk); (try clear hi)))
 go_loopg [3, 5] k (fun kq v3 v5 w' => ∃ (x3_1 : List Int) (x5_1 : Int) (x1001_1 : Int) (x1002_1 : Int), v5 = .int .i64 x5_1 ∧ Az (spec_l18Draw.l0 kq x3_1 (wrap64 (1 + t124)) x5_1 s0_0 x1001_1 x1002_1 = some (r1, r2, r3)) ∧ Az (kq ≤ k) ∧ Az (Kd.R (Kd.int .i64) 3 w' w.heap.size (fun _ => True) v3 x3_1) ∧ Az (IsS51 w0 w' g s0_0 x1001_1 x1002_1) ∧ Az (KeepBut w w' g none) ∧ Az (Below w0.heap.size w0 w'))
 case atStart => exact ⟨(y121), (1), (t125), (t126), rq2, H', ⟨Nat.le_refl _⟩, ⟨kR HO123.out⟩, ⟨kI HI0.out⟩, ⟨kK HK.out⟩, ⟨kG HB.out (IsS51.ge HI0.out)⟩⟩
 clear H'
 obtain ⟨x3_1, x5_1, x1001_1, x1002_1, rfl, HA, HK1, HO_3, HI0, HK, HB⟩ := hrel
 cases gk with
 | zero => exact absurd HA.out (by simp [spec_l18Draw.l0])
 | succ k1 =>
  have H := HA.out
  clear HA
  simp only [spec_l18Draw.l0] at H
  by_cases c6 : x5_1 ≤ (wrap64 (1 + t124))
  rotate_left
  ·rw [if_neg c6] at H
   have c6b0 : decide (x5_1 ≤ (wrap64 (1 + t124))) = false := decide_eq_false c6
   clear c6
   replace H := bez H
   obtain ⟨⟨t149, t150, t151⟩, A25, H⟩ := H
   try dsimp only at H
   by_cases c26 : t149 = 0
   ·rw [if_pos c26] at H
    have c26b0 : (t149 == 0) = true := beq_iff_eq.mpr c26
    have c26b1 : (t149 != 0) = false := bne_eq_false_iff_eq.mpr c26
    clear c26
    obtain ⟨y152, hy⟩ : ∃ y_ : List Int, y_ = (([(-1), 8, 9] : List Int)) := ⟨_, rfl⟩
    replace H : ((spec_l1PickInt.f s0_0 t150 t151 y152).bind fun bt155 => (if 0 < (x3_1.length : Int) then (some ((x3_1.set (0 : Int).toNat bt155.1), bt155.2.1, bt155.2.2)) else (none))) = some (r1, r2, r3) := rh
    have Ny152 := Az.mk hy
    clear hy
    replace H := bez H
    obtain ⟨⟨t155, t156, t157⟩, A27, H⟩ := H
    try dsimp only at H
    by_cases c28 : 0 < (x3_1.length : Int)
    rotate_left
    ·rw [if_neg c28] at H
     exact absurd H (by simp)
    rw [if_pos c28] at H
    have c28b0 : decide (0 < (x3_1.length : Int)) = true := decide_eq_true c28
    have c28b1 : decide (0 < x3_1.length) = true := decide_eq_true (by omega)
    clear c28
    obtain ⟨y158, hy⟩ : ∃ y_ : List Int, y_ = (x3_1.set (0 : Int).toNat t155) := ⟨_, rfl⟩
    replace H : (some (y158, t156, t157)) = some (r1, r2, r3) := rh
    have Ny158 := Az.mk hy
    clear hy
    simp only [Option.some.injEq, Prod.mk.injEq] at H
    obtain ⟨rfl, rfl, rfl⟩ := H
    go_wp2_with (first | ((with_reducible refine gtC (f := 34) rfl ?_); refine clz Try.func34 (some 41) #[.pointer (some ⟨g, 0, none⟩), .int .i64 16] ?_; (with_reducible refine (spec_l1Below.calls g s0_0 x1001_1 x1002_1 16 t149 t150 t151 w0 _ ?side1 ?side2 A25.out).mono ?_); (case side1 => exact (kI HI0.out)); (case side2 => exact kG HB.out (IsS51.ge HI0.out)); rintro e w30 ⟨rfl, hi, hb, hk⟩; refine ⟨_, rfl, ?_⟩; replace HO_3 := Az.mk (Kd.R_mono (Kd.R_keep (IsS51.apart (show IsS51 w0 _ g s0_0 x1001_1 x1002_1 from kI HI0.out) (kR HO_3.out) (by decide)) hk (fun _ h => h.2)) (fun _ h => h.1)); replace HK := Az.mk (KeepBut.trans (kK HK.out) hk (.inl rfl)); replace HB := Az.mk (hb); replace HI0 := Az.mk (hi); (try clear hb); (try clear hk); (try clear hi)) | ((with_reducible refine gtD (N := 46) rfl ?_); refine Kd.R_lit (Kd.int .i64) _ 3 ?hg (N := 46) ?hd (xs := ([(-1), 8, 9] : List Int)) (inner := [.int .i64 (-1), .int .i64 8, .int .i64 9]) (ok := fun _ => True) (okp := fun _ => True) ?hr ?hp (fun _ hk => hk) trivial (Below.refl _ _) (Nat.le_refl _) (by simp) ?_; (case hd => rfl); (case hg => rfl); (case hr => first | (go_simp; done) | (go_simp; rfl)); (case hp => exact (Reps.one (show Kd.M (Kd.int .i64) _ _ _ (-1) [.int .i64 (-1)] from rfl) (Reps.one (show Kd.M (Kd.int .i64) _ _ _ 8 [.int .i64 8] from rfl) (Reps.one (show Kd.M (Kd.int .i64) _ _ _ 9 [.int .i64 9] from rfl) (Reps.none _ _))))); intro v153 w31 ho32 hb hg_ hnew_; clear hg_ hnew_; (first | rw [← Ny152.out] at ho32 | (simp only [Int.reduceToNat] at ho32; rw [← Ny152.out] at ho32)); have HO154 := Az.mk (Kd.R_lower (Kd.R_new' ho32 (Kd.R_lt (kR HO_3.out))) (keep_size (w := w) (g := g) (row := none) (kK HK.out))); replace HO_3 := Az.mk (Kd.R_elder' (kR HO_3.out) (Kd.R_base ho32) hb); replace HK := Az.mk (KeepBut.trans (kK HK.out) (KeepBut.of_below hb g none) (.inl rfl)); replace HB := Az.mk (bwT (kG HB.out (IsS51.ge HI0.out)) hb); replace HI0 := Az.mk (IsS51.below (kI HI0.out) hb); clear hb ho32; obtain ⟨Ao33, co33, eo33⟩ := Kd.R_slice HO154.out; subst eo33) | ((with_reducible refine gtC (f := 35) rfl ?_); refine clz Try.func35 (some 47) #[.pointer (some ⟨g, 0, none⟩), .slice Ao33 y152.length co33] ?_; (with_reducible refine (spec_l1PickInt.calls g s0_0 t150 t151 _ _ y152 t155 t156 t157 w0 _ ?side1 ?side2 ?side3 ?side4 ?side5 A27.out).mono ?_); (case side1 => exact (kI HI0.out)); (case side2 => exact kG HB.out (IsS51.ge HI0.out)); (case side3 => exact kC (Kd.R_reads' HO154.out).2.2); (case side4 => exact (Kd.R_reads' HO154.out).2.1); (case side5 => exact far_slice (IsS51.own_ne HI0.out HO154.out (by decide))); rintro e w34 ⟨rfl, hi, hb, hk⟩; refine ⟨_, rfl, ?_⟩; replace HO_3 := Az.mk (Kd.R_mono (Kd.R_keep (IsS51.apart (show IsS51 w0 _ g s0_0 t150 t151 from kI HI0.out) (kR HO_3.out) (by decide)) hk (fun _ h => h.2)) (fun _ h => h.1)); replace HO154 := Az.mk (Kd.R_mono (Kd.R_keep (IsS51.apart (show IsS51 w0 _ g s0_0 t150 t151 from kI HI0.out) (kR HO154.out) (by decide)) hk (fun _ h => h.2)) (fun _ h => h.1)); replace HK := Az.mk (KeepBut.trans (kK HK.out) hk (.inl rfl)); replace HB := Az.mk (hb); replace HI0 := Az.mk (hi); (try clear hb); (try clear hk); (try clear hi); have p29 : 0 ≤ (0 : Int) := (by omega); have q29 : (0 : Int) < ((x3_1.length : Int) : Int) := of_decide_eq_true am; have qi29 : (0 < x3_1.length) = True := eq_true (by omega); obtain ⟨go29, co29, eo29, gb29, gl29, cl29, HG29⟩ := Kd.R_form HO_3.out (by omega); (first | cases eo29 | (injection eo29 with ea_ en_ ec_; (first | subst ea_ | (injection ea_ with ea_; subst ea_)); subst ec_; clear en_)); have GB29 := Az.mk gb29; have GG29 := Az.mk HG29; clear gb29 gl29 HG29; obtain ⟨hx29_0, hf29_0⟩ := Kd.R_celln 0 HO_3.out (0 : Int) p29 q29; (try rw [show ((0 : Int)).toNat = 0 from rfl] at hx29_0); (try simp only [Nat.reduceMul, Nat.zero_mul, Nat.zero_add, Nat.reduceAdd] at hx29_0); (try rw [show ((0 : Int)).toNat = 0 from rfl] at hf29_0); (try simp only [Nat.reduceMul, Nat.zero_mul, Nat.zero_add, Nat.reduceAdd] at hf29_0); replace p29 := eq_true p29; replace q29 := eq_true q29; have n_ := Az.mk (Kd.R_mono (ok' := (fun k_ => some k_ ≠ (.slice Ao33 y152.length co33 : Value).ownBlock)) HO_3.out (fun k_ hk => hk.2)); clear HO_3; have HO_3 := n_; clear n_; obtain ⟨hy35_, hz35_⟩ := Kd.R_celln 0 HO_3.out (0 : Int) (by omega) (of_decide_eq_true am); (try simp only [Int.reduceToNat, Int.toNat_zero, Int.toNat_ofNat, Nat.reduceMul, Nat.zero_mul, Nat.zero_add] at hy35_ hz35_); (try rw [show ((0 : Int)).toNat = 0 from rfl] at hy35_); (try rw [show ((0 : Int)).toNat = 0 from rfl] at hz35_); have HP35 := Kd.R_putg HO_3.out (0 : Int) t155) | ((with_reducible refine gate_store (t := 3) (p := 48) rfl ?_); refine store_event (t := 3) (p := 48) (v := ?vo_w36) (w1 := (w34.setCell ⟨go29, (0 : Int).toNat, none⟩ (.int .i64 t155))) ?hg ?ho ?hn ?hr ?_; (case ho => rfl); (case hg => rfl); (case hn => rfl); (case hr => first | (go_simp; done) | (go_simp; rfl)); intro w36 hw; have hg : w34.grownBy w36 (some go29) := (by rw [hw]; exact HP35.2); have hp_ : Kd.R (Kd.int .i64) 3 w36 w.heap.size (fun k_ => some k_ ≠ (.slice Ao33 y152.length co33 : Value).ownBlock) (.slice (some ⟨go29, 0, none⟩) x3_1.length co29) y158 := (by rw [hw, Ny158.out]; exact HP35.1); clear HP35; replace HI0 := Az.mk (IsS51.grown (kI HI0.out) hg (IsS51.own_ne HI0.out HO_3.out (by decide))); replace HO154 := Az.mk (Kd.R_after (v := (.slice (some ⟨go29, 0, none⟩) x3_1.length co29)) (v1 := (.slice (some ⟨go29, 0, none⟩) x3_1.length co29)) (ok := (fun _ => True)) (kR HO154.out) hg (.inl rfl)); replace HB := Az.mk ((by rw [hw]; exact bwS (HB.out) (Nat.le_trans HL.out GB29.out) : Below w0.heap.size w0 w36)); replace HK := Az.mk (KeepBut.trans (kK HK.out) (KeepBut.of_grown hg g) (Kd.R_base2 HO_3.out)); replace HO_3 := Az.mk (hp_); clear hg hw hp_))
    go_ret
    exact ⟨_, rq1, by (with_reducible repeat (first | apply Kd.R_alloc | apply Kd.R_drewN | apply Kd.R_drew)); exact Kd.R_mono HO_3.out (fun _ hk => trivial), kI HI0.out, kG HB.out (IsS51.ge HI0.out), kK HK.out⟩
   rw [if_neg c26] at H
   have c26b0 : (t149 == 0) = false := beq_eq_false_iff_ne.mpr c26
   have c26b1 : (t149 != 0) = true := bne_iff_ne.mpr c26
   by_cases c37 : t149 = 1
   ·rw [if_pos c37] at H
    have c37b0 : (t149 == 1) = true := beq_iff_eq.mpr c37
    have c37b1 : (t149 != 1) = false := bne_eq_false_iff_eq.mpr c37
    clear c37
    obtain ⟨y159, hy⟩ : ∃ y_ : List Int, y_ = (([1, 2, 3, 1, 2, 3] : List Int)) := ⟨_, rfl⟩
    replace H : (some (y159, t150, t151)) = some (r1, r2, r3) := rh
    have Ny159 := Az.mk hy
    clear hy
    simp only [Option.some.injEq, Prod.mk.injEq] at H
    obtain ⟨rfl, rfl, rfl⟩ := H
    go_wp2_with (first | ((with_reducible refine gtC (f := 34) rfl ?_); refine clz Try.func34 (some 41) #[.pointer (some ⟨g, 0, none⟩), .int .i64 16] ?_; (with_reducible refine (spec_l1Below.calls g s0_0 x1001_1 x1002_1 16 t149 t150 t151 w0 _ ?side1 ?side2 A25.out).mono ?_); (case side1 => exact (kI HI0.out)); (case side2 => exact kG HB.out (IsS51.ge HI0.out)); rintro e w38 ⟨rfl, hi, hb, hk⟩; refine ⟨_, rfl, ?_⟩; replace HO_3 := Az.mk (Kd.R_mono (Kd.R_keep (IsS51.apart (show IsS51 w0 _ g s0_0 x1001_1 x1002_1 from kI HI0.out) (kR HO_3.out) (by decide)) hk (fun _ h => h.2)) (fun _ h => h.1)); replace HK := Az.mk (KeepBut.trans (kK HK.out) hk (.inl rfl)); replace HB := Az.mk (hb); replace HI0 := Az.mk (hi); (try clear hb); (try clear hk); (try clear hi)) | ((with_reducible refine gtD (N := 51) rfl ?_); refine Kd.R_lit (Kd.int .i64) _ 3 ?hg (N := 51) ?hd (xs := ([1, 2, 3, 1, 2, 3] : List Int)) (inner := [.int .i64 1, .int .i64 2, .int .i64 3, .int .i64 1, .int .i64 2, .int .i64 3]) (ok := fun _ => True) (okp := fun _ => True) ?hr ?hp (fun _ hk => hk) trivial (Below.refl _ _) (Nat.le_refl _) (by simp) ?_; (case hd => rfl); (case hg => rfl); (case hr => first | (go_simp; done) | (go_simp; rfl)); (case hp => exact (Reps.one (show Kd.M (Kd.int .i64) _ _ _ 1 [.int .i64 1] from rfl) (Reps.one (show Kd.M (Kd.int .i64) _ _ _ 2 [.int .i64 2] from rfl) (Reps.one (show Kd.M (Kd.int .i64) _ _ _ 3 [.int .i64 3] from rfl) (Reps.one (show Kd.M (Kd.int .i64) _ _ _ 1 [.int .i64 1] from rfl) (Reps.one (show Kd.M (Kd.int .i64) _ _ _ 2 [.int .i64 2] from rfl) (Reps.one (show Kd.M (Kd.int .i64) _ _ _ 3 [.int .i64 3] from rfl) (Reps.none _ _)))))))); intro v160 w39 ho40 hb hg_ hnew_; clear hg_ hnew_; (first | rw [← Ny159.out] at ho40 | (simp only [Int.reduceToNat] at ho40; rw [← Ny159.out] at ho40)); have HO161 := Az.mk (Kd.R_lower (Kd.R_new' ho40 (Kd.R_lt (kR HO_3.out))) (keep_size (w := w) (g := g) (row := none) (kK HK.out))); replace HO_3 := Az.mk (Kd.R_elder' (kR HO_3.out) (Kd.R_base ho40) hb); replace HK := Az.mk (KeepBut.trans (kK HK.out) (KeepBut.of_below hb g none) (.inl rfl)); replace HB := Az.mk (bwT (kG HB.out (IsS51.ge HI0.out)) hb); replace HI0 := Az.mk (IsS51.below (kI HI0.out) hb); clear hb ho40))
    go_ret
    exact ⟨_, rq1, by (with_reducible repeat (first | apply Kd.R_alloc | apply Kd.R_drewN | apply Kd.R_drew)); exact Kd.R_mono HO161.out (fun _ hk => trivial), kI HI0.out, kG HB.out (IsS51.ge HI0.out), kK HK.out⟩
   rw [if_neg c37] at H
   have c37b0 : (t149 == 1) = false := beq_eq_false_iff_ne.mpr c37
   have c37b1 : (t149 != 1) = true := bne_iff_ne.mpr c37
   by_cases c41 : t149 = 2
   rotate_left
   ·rw [if_neg c41] at H
    have c41b0 : (t149 == 2) = false := beq_eq_false_iff_ne.mpr c41
    have c41b1 : (t149 != 2) = true := bne_iff_ne.mpr c41
    simp only [Option.some.injEq, Prod.mk.injEq] at H
    obtain ⟨rfl, rfl, rfl⟩ := H
    go_wp2_with (first | ((with_reducible refine gtC (f := 34) rfl ?_); refine clz Try.func34 (some 41) #[.pointer (some ⟨g, 0, none⟩), .int .i64 16] ?_; (with_reducible refine (spec_l1Below.calls g s0_0 x1001_1 x1002_1 16 t149 t150 t151 w0 _ ?side1 ?side2 A25.out).mono ?_); (case side1 => exact (kI HI0.out)); (case side2 => exact kG HB.out (IsS51.ge HI0.out)); rintro e w45 ⟨rfl, hi, hb, hk⟩; refine ⟨_, rfl, ?_⟩; replace HO_3 := Az.mk (Kd.R_mono (Kd.R_keep (IsS51.apart (show IsS51 w0 _ g s0_0 x1001_1 x1002_1 from kI HI0.out) (kR HO_3.out) (by decide)) hk (fun _ h => h.2)) (fun _ h => h.1)); replace HK := Az.mk (KeepBut.trans (kK HK.out) hk (.inl rfl)); replace HB := Az.mk (hb); replace HI0 := Az.mk (hi); (try clear hb); (try clear hk); (try clear hi)))
    go_ret
    exact ⟨_, rq1, kR HO_3.out, kI HI0.out, kG HB.out (IsS51.ge HI0.out), kK HK.out⟩
   rw [if_pos c41] at H
   have c41b0 : (t149 == 2) = true := beq_iff_eq.mpr c41
   have c41b1 : (t149 != 2) = false := bne_eq_false_iff_eq.mpr c41
   clear c41
   obtain ⟨y162, hy⟩ : ∃ y_ : List Int, y_ = (([1, 2, 3, 4, 2, 1, 4, 3] : List Int)) := ⟨_, rfl⟩
   replace H : (some (y162, t150, t151)) = some (r1, r2, r3) := rh
   have Ny162 := Az.mk hy
   clear hy
   simp only [Option.some.injEq, Prod.mk.injEq] at H
   obtain ⟨rfl, rfl, rfl⟩ := H
   go_wp2_with (first | ((with_reducible refine gtC (f := 34) rfl ?_); refine clz Try.func34 (some 41) #[.pointer (some ⟨g, 0, none⟩), .int .i64 16] ?_; (with_reducible refine (spec_l1Below.calls g s0_0 x1001_1 x1002_1 16 t149 t150 t151 w0 _ ?side1 ?side2 A25.out).mono ?_); (case side1 => exact (kI HI0.out)); (case side2 => exact kG HB.out (IsS51.ge HI0.out)); rintro e w42 ⟨rfl, hi, hb, hk⟩; refine ⟨_, rfl, ?_⟩; replace HO_3 := Az.mk (Kd.R_mono (Kd.R_keep (IsS51.apart (show IsS51 w0 _ g s0_0 x1001_1 x1002_1 from kI HI0.out) (kR HO_3.out) (by decide)) hk (fun _ h => h.2)) (fun _ h => h.1)); replace HK := Az.mk (KeepBut.trans (kK HK.out) hk (.inl rfl)); replace HB := Az.mk (hb); replace HI0 := Az.mk (hi); (try clear hb); (try clear hk); (try clear hi)) | ((with_reducible refine gtD (N := 54) rfl ?_); refine Kd.R_lit (Kd.int .i64) _ 3 ?hg (N := 54) ?hd (xs := ([1, 2, 3, 4, 2, 1, 4, 3] : List Int)) (inner := [.int .i64 1, .int .i64 2, .int .i64 3, .int .i64 4, .int .i64 2, .int .i64 1, .int .i64 4, .int .i64 3]) (ok := fun _ => True) (okp := fun _ => True) ?hr ?hp (fun _ hk => hk) trivial (Below.refl _ _) (Nat.le_refl _) (by simp) ?_; (case hd => rfl); (case hg => rfl); (case hr => first | (go_simp; done) | (go_simp; rfl)); (case hp => exact (Reps.one (show Kd.M (Kd.int .i64) _ _ _ 1 [.int .i64 1] from rfl) (Reps.one (show Kd.M (Kd.int .i64) _ _ _ 2 [.int .i64 2] from rfl) (Reps.one (show Kd.M (Kd.int .i64) _ _ _ 3 [.int .i64 3] from rfl) (Reps.one (show Kd.M (Kd.int .i64) _ _ _ 4 [.int .i64 4] from rfl) (Reps.one (show Kd.M (Kd.int .i64) _ _ _ 2 [.int .i64 2] from rfl) (Reps.one (show Kd.M (Kd.int .i64) _ _ _ 1 [.int .i64 1] from rfl) (Reps.one (show Kd.M (Kd.int .i64) _ _ _ 4 [.int .i64 4] from rfl) (Reps.one (show Kd.M (Kd.int .i64) _ _ _ 3 [.int .i64 3] from rfl) (Reps.none _ _)))))))))); intro v163 w43 ho44 hb hg_ hnew_; clear hg_ hnew_; (first | rw [← Ny162.out] at ho44 | (simp only [Int.reduceToNat] at ho44; rw [← Ny162.out] at ho44)); have HO164 := Az.mk (Kd.R_lower (Kd.R_new' ho44 (Kd.R_lt (kR HO_3.out))) (keep_size (w := w) (g := g) (row := none) (kK HK.out))); replace HO_3 := Az.mk (Kd.R_elder' (kR HO_3.out) (Kd.R_base ho44) hb); replace HK := Az.mk (KeepBut.trans (kK HK.out) (KeepBut.of_below hb g none) (.inl rfl)); replace HB := Az.mk (bwT (kG HB.out (IsS51.ge HI0.out)) hb); replace HI0 := Az.mk (IsS51.below (kI HI0.out) hb); clear hb ho44))
   go_ret
   exact ⟨_, rq1, by (with_reducible repeat (first | apply Kd.R_alloc | apply Kd.R_drewN | apply Kd.R_drew)); exact Kd.R_mono HO164.out (fun _ hk => trivial), kI HI0.out, kG HB.out (IsS51.ge HI0.out), kK HK.out⟩
  rw [if_pos c6] at H
  have c6b0 : decide (x5_1 ≤ (wrap64 (1 + t124))) = true := decide_eq_true c6
  clear c6
  have H' := Az.mk H
  clear H
  go_wp2
  go_loopg [3, 6] k1 (fun kq v3 v6 w' => ∃ (x3_2 : List Int) (x6_2 : Int) (x1001_2 : Int) (x1002_2 : Int), v6 = .int .i64 x6_2 ∧ Az (spec_l18Draw.l1 kq x3_2 (wrap64 (1 + t124)) x5_1 x6_2 s0_0 x1001_2 x1002_2 = some (r1, r2, r3)) ∧ Az (kq ≤ k1) ∧ Az (Kd.R (Kd.int .i64) 3 w' w.heap.size (fun _ => True) v3 x3_2) ∧ Az (IsS51 w0 w' g s0_0 x1001_2 x1002_2) ∧ Az (KeepBut w w' g none) ∧ Az (Below w0.heap.size w0 w'))
  case atStart => exact ⟨(x3_1), (0), (x1001_1), (x1002_1), rq2, H', ⟨Nat.le_refl _⟩, ⟨kR HO_3.out⟩, ⟨kI HI0.out⟩, ⟨kK HK.out⟩, ⟨kG HB.out (IsS51.ge HI0.out)⟩⟩
  clear H'
  try clear c6
  try clear c6b0
  obtain ⟨x3_2, x6_2, x1001_2, x1002_2, rfl, HA, HK2, HO_3, HI0, HK, HB⟩ := hrel
  cases gk with
  | zero => exact absurd HA.out (by simp [spec_l18Draw.l1])
  | succ k2 =>
   have H := HA.out
   clear HA
   simp only [spec_l18Draw.l1] at H
   by_cases c7 : x6_2 < 2
   rotate_left
   ·rw [if_neg c7] at H
    have c7b0 : decide (x6_2 < 2) = false := decide_eq_false c7
    clear c7
    have H' := Az.mk H
    clear H
    go_wp2
    go_roundg k2
    case measure => have := HK1.out; have := HK2.out; omega
    case rel => exact ⟨(x3_2), (wrap64 (x5_1 + 1)), (x1001_2), (x1002_2), rq2, H', ⟨by have := HK1.out; have := HK2.out; omega⟩, ⟨kR HO_3.out⟩, ⟨kI HI0.out⟩, ⟨kK HK.out⟩, ⟨kG HB.out (IsS51.ge HI0.out)⟩⟩
   rw [if_pos c7] at H
   have c7b0 : decide (x6_2 < 2) = true := decide_eq_true c7
   clear c7
   replace H := bez H
   obtain ⟨⟨t127, t128, t129⟩, A8, H⟩ := H
   try dsimp only at H
   obtain ⟨y130, hy⟩ : ∃ y_ : List Int, y_ = (([] : List Int)) := ⟨_, rfl⟩
   replace H : (if 0 ≤ t127 then (if t127 ≤ (x3_2.length : Int) then ((some (x3_2.drop (t127 : Int).toNat : List Int)).bind fun y133 => (if y130.length + y133.length < 17592186044416 then ((some (y130 ++ y133 : List Int)).bind fun y137 => ((some (x3_2.take (t127 : Int).toNat : List Int)).bind fun y140 => (if y140.length < 17592186044416 then ((some (y140 ++ [x5_1] : List Int)).bind fun y143 => (if y143.length + y137.length < 17592186044416 then (spec_l18Draw.l1 k2 (y143 ++ y137) (wrap64 (1 + t124)) x5_1 (wrap64 (x6_2 + 1)) s0_0 t128 t129) else (none))) else (none)))) else (none))) else (none)) else (none)) = some (r1, r2, r3) := rh
   have Ny130 := Az.mk hy
   clear hy
   by_cases c9 : 0 ≤ t127
   rotate_left
   ·rw [if_neg c9] at H
    exact absurd H (by simp)
   rw [if_pos c9] at H
   have c9b0 := eq_true c9
   have c9b1 : decide (0 ≤ t127) = true := decide_eq_true c9
   clear c9
   by_cases c10 : t127 ≤ (x3_2.length : Int)
   rotate_left
   ·rw [if_neg c10] at H
    exact absurd H (by simp)
   rw [if_pos c10] at H
   have c10b0 := eq_true c10
   have c10b1 : decide (t127 ≤ (x3_2.length : Int)) = true := decide_eq_true c10
   clear c10
   obtain ⟨y133, hy⟩ : ∃ y_ : List Int, y_ = (x3_2.drop (t127 : Int).toNat) := ⟨_, rfl⟩
   replace H : (if y130.length + y133.length < 17592186044416 then ((some (y130 ++ y133 : List Int)).bind fun y137 => ((some (x3_2.take (t127 : Int).toNat : List Int)).bind fun y140 => (if y140.length < 17592186044416 then ((some (y140 ++ [x5_1] : List Int)).bind fun y143 => (if y143.length + y137.length < 17592186044416 then (spec_l18Draw.l1 k2 (y143 ++ y137) (wrap64 (1 + t124)) x5_1 (wrap64 (x6_2 + 1)) s0_0 t128 t129) else (none))) else (none)))) else (none)) = some (r1, r2, r3) := rh
   have Ny133 := Az.mk hy
   clear hy
   by_cases c11 : y130.length + y133.length < 17592186044416
   rotate_left
   ·rw [if_neg c11] at H
    exact absurd H (by simp)
   rw [if_pos c11] at H
   have LMc11 := Az.mk c11
   clear c11
   obtain ⟨y137, hy⟩ : ∃ y_ : List Int, y_ = (y130 ++ y133) := ⟨_, rfl⟩
   replace H : ((some (x3_2.take (t127 : Int).toNat : List Int)).bind fun y140 => (if y140.length < 17592186044416 then ((some (y140 ++ [x5_1] : List Int)).bind fun y143 => (if y143.length + y137.length < 17592186044416 then (spec_l18Draw.l1 k2 (y143 ++ y137) (wrap64 (1 + t124)) x5_1 (wrap64 (x6_2 + 1)) s0_0 t128 t129) else (none))) else (none))) = some (r1, r2, r3) := rh
   have Ny137 := Az.mk hy
   clear hy
   have c12b0 := eq_true (of_decide_eq_true am : t127 ≤ (x3_2.length : Int))
   obtain ⟨y140, hy⟩ : ∃ y_ : List Int, y_ = (x3_2.take (t127 : Int).toNat) := ⟨_, rfl⟩
   replace H : (if y140.length < 17592186044416 then ((some (y140 ++ [x5_1] : List Int)).bind fun y143 => (if y143.length + y137.length < 17592186044416 then (spec_l18Draw.l1 k2 (y143 ++ y137) (wrap64 (1 + t124)) x5_1 (wrap64 (x6_2 + 1)) s0_0 t128 t129) else (none))) else (none)) = some (r1, r2, r3) := rh
   have Ny140 := Az.mk hy
   clear hy
   by_cases c13 : y140.length < 17592186044416
   rotate_left
   ·rw [if_neg c13] at H
    exact absurd H (by simp)
   rw [if_pos c13] at H
   have LMc13 := Az.mk c13
   clear c13
   obtain ⟨y143, hy⟩ : ∃ y_ : List Int, y_ = (y140 ++ [x5_1]) := ⟨_, rfl⟩
   replace H : (if y143.length + y137.length < 17592186044416 then (spec_l18Draw.l1 k2 (y143 ++ y137) (wrap64 (1 + t124)) x5_1 (wrap64 (x6_2 + 1)) s0_0 t128 t129) else (none)) = some (r1, r2, r3) := rh
   have Ny143 := Az.mk hy
   clear hy
   by_cases c14 : y143.length + y137.length < 17592186044416
   rotate_left
   ·rw [if_neg c14] at H
    exact absurd H (by simp)
   rw [if_pos c14] at H
   have LMc14 := Az.mk c14
   clear c14
   obtain ⟨y146, hy⟩ : ∃ y_ : List Int, y_ = (y143 ++ y137) := ⟨_, rfl⟩
   replace H : (spec_l18Draw.l1 k2 y146 (wrap64 (1 + t124)) x5_1 (wrap64 (x6_2 + 1)) s0_0 t128 t129) = some (r1, r2, r3) := rh
   have Ny146 := Az.mk hy
   clear hy
   have H' := Az.mk H
   clear H
   obtain ⟨Ao15, co15, eo15⟩ := Kd.R_slice HO_3.out
   subst eo15
   go_wp2_with (first | ((with_reducible refine gtC (f := 34) rfl ?_); refine clz Try.func34 (some 26) #[.pointer (some ⟨g, 0, none⟩), .int .i64 (wrap64 ((x3_2.length : Int) + 1))] ?_; (with_reducible refine (spec_l1Below.calls g s0_0 x1001_2 x1002_2 (wrap64 ((x3_2.length : Int) + 1)) t127 t128 t129 w0 _ ?side1 ?side2 A8.out).mono ?_); (case side1 => exact (kI HI0.out)); (case side2 => exact kG HB.out (IsS51.ge HI0.out)); rintro e w16 ⟨rfl, hi, hb, hk⟩; refine ⟨_, rfl, ?_⟩; replace HO_3 := Az.mk (Kd.R_mono (Kd.R_keep (IsS51.apart (show IsS51 w0 _ g s0_0 x1001_2 x1002_2 from kI HI0.out) (kR HO_3.out) (by decide)) hk (fun _ h => h.2)) (fun _ h => h.1)); replace HK := Az.mk (KeepBut.trans (kK HK.out) hk (.inl rfl)); replace HB := Az.mk (hb); replace HI0 := Az.mk (hi); (try clear hb); (try clear hk); (try clear hi)) | ((with_reducible refine gtD (N := 27) rfl ?_); refine Kd.R_lit (Kd.int .i64) _ 3 ?hg (N := 27) ?hd (xs := ([] : List Int)) (inner := []) (ok := fun _ => True) (okp := fun _ => True) ?hr ?hp (fun _ hk => hk) trivial (Below.refl _ _) (Nat.le_refl _) (by simp) ?_; (case hd => rfl); (case hg => rfl); (case hr => first | (go_simp; done) | (go_simp; rfl)); (case hp => exact (Reps.none _ _)); intro v131 w17 ho18 hb hg_ hnew_; clear hg_ hnew_; (first | rw [← Ny130.out] at ho18 | (simp only [Int.reduceToNat] at ho18; rw [← Ny130.out] at ho18)); have HO132 := Az.mk (Kd.R_lower (Kd.R_new' ho18 (Kd.R_lt (kR HO_3.out))) (keep_size (w := w) (g := g) (row := none) (kK HK.out))); replace HO_3 := Az.mk (Kd.R_elder' (kR HO_3.out) (Kd.R_base ho18) hb); replace HK := Az.mk (KeepBut.trans (kK HK.out) (KeepBut.of_below hb g none) (.inl rfl)); replace HB := Az.mk (bwT (kG HB.out (IsS51.ge HI0.out)) hb); replace HI0 := Az.mk (IsS51.below (kI HI0.out) hb); clear hb ho18; have q19 : (t127 : Int) ≤ ((x3_2.length : Int) : Int) := of_decide_eq_true am; obtain ⟨i019, hi019, _, hsz19, _⟩ := info_parts info3; have hroom19 : x3_2.length ≤ co15 := (Kd.R_reads' HO_3.out).2.1; have hC19 : Kd.C (Kd.int .i64) _ Ao15 x3_2.length x3_2 := (Kd.R_reads' HO_3.out).2.2; have q019 : (0 : Int) ≤ (t127 : Int) := of_decide_eq_true am; have hcut19 := cut_from (P := Try.prog) 24 3 .i64 Try.underlying24 hi019 1 hsz19 Ao15 x3_2.length co15 t127 q019 q19; have hr19 := Kd.C_drop (m := (t127 : Int).toNat) (c := co15) hC19 (by omega) hroom19; obtain ⟨A19, hA19⟩ : ∃ A1, A1 = (if co15 = (t127 : Int).toNat then Ao15 else (Ao15 : Option Addr).map (·.add ((t127 : Int).toNat * 1))) := ⟨_, rfl⟩; obtain ⟨c19, hc19⟩ : ∃ c1, c1 = co15 - (t127 : Int).toNat := ⟨_, rfl⟩; have hy19 : y133.length = x3_2.length - (t127 : Int).toNat := (by rw [Ny133.out, List.length_drop] <;> omega); rw [show (x3_2).drop (t127 : Int).toNat = y133 from Ny133.out.symm] at hr19; replace hr19 : Kd.C (Kd.int .i64) _ A19 y133.length y133 := (by rw [hA19]; exact hr19); rw [← hy19, ← hA19, ← hc19] at hcut19; have HR136 := Az.mk hr19; have HC136 := Az.mk (show y133.length ≤ c19 from by rw [hy19, hc19]; exact Nat.sub_le_sub_right hroom19 _); clear hr19 hC19 hroom19 hi019 hsz19 hc19; have KY19 := Az.mk hy19; have KA19 := Az.mk hA19; clear hy19 hA19; have KL19 := Az.mk (show (t127 : Int).toNat ≤ x3_2.length from by omega); replace q19 := eq_true q19) | ((with_reducible refine gate_builtin (b := .append) (xs := #[.tmp 27, .tmp 30]) rfl ?_); at_builtin; refine Kd.R_append_rows (Kd.int .i64) w.heap.size rfl (.tmp 27) (.tmp 30) 24 3 (.int .i64 0) 8 rfl Try.underlying24 info3 rfl (by decide) (by omega) v131 y130 y133 _ _ _ (fun k_ => some k_ ≠ (.slice Ao15 x3_2.length co15 : Value).ownBlock) (fun _ => False) rfl rfl ?aO ?aR (fun _ _ h => h) (fun _ h => h.elim) ?aF (Below.refl _ _) ?aS ?aL ?_; (case aR => repeat (first | exact (by repeat (first | (with_reducible exact HR136.out) | (with_reducible refine Kd.C_alloc ?_ _) | (with_reducible refine Kd.C_drewN ?_ _) | (with_reducible refine Kd.C_drew ?_) | exact HR136.out)) | (with_reducible refine Kd.C_alloc ?_ _) | (with_reducible refine Kd.C_drewN ?_ _) | (with_reducible refine Kd.C_drew ?_))); (case aF => exact (fun k_ hk => Kd.fresh' (Kd.R_lt (kR HO_3.out)) k_ hk)); (case aO => exact (by (with_reducible repeat (first | apply Kd.R_alloc | apply Kd.R_drewN | apply Kd.R_drew)); exact Kd.R_mono HO132.out (fun _ hk => hk.2))); (case aS => exact (keep_size (w := w) (g := g) (row := none) (kK HK.out))); (case aL => have := LMc11.out; omega); intro v138 w20 ho hb hg hat; rw [← Ny137.out] at ho; have n0_ := Az.mk (Kd.R_after (ok := (fun _ => True)) (kR HO_3.out) hg hat); have n1_ := Az.mk (IsS51.grown (kI HI0.out) hg (IsS51.own_ne HI0.out HO132.out (by decide))); have n2_ := Az.mk (below_weaken (kG HB.out (IsS51.ge HI0.out)) HL.out hb); have n3_ := Az.mk (KeepBut.trans (kK HK.out) (KeepBut.of_grown hg g) (Kd.R_base2 HO132.out)); have n4_ := Az.mk ((show Kd.C (Kd.int .i64) w20 A19 y133.length y133 from by rw [Ny133.out, KA19.out]; exact Kd.C_drop (m := (t127 : Int).toNat) (c := co15) ((Kd.R_reads' (Kd.R_after (ok := (fun _ => True)) (kR HO_3.out) hg hat)).2.2) KL19.out ((Kd.R_reads' (Kd.R_after (ok := (fun _ => True)) (kR HO_3.out) hg hat)).2.1))); have n5_ := Az.mk (ho); clear HO_3; clear HI0; clear HB; clear HK; clear HR136; clear HO132; have HO_3 := n0_; have HI0 := n1_; have HB := n2_; have HK := n3_; have HR136 := n4_; have HO139 := n5_; clear n0_ n1_ n2_ n3_ n4_ n5_; clear ho hb hg hat; have q21 : (t127 : Int) ≤ ((x3_2.length : Int) : Int) := of_decide_eq_true am; obtain ⟨i021, hi021, _, hsz21, _⟩ := info_parts info3; have hcut21 := cut_to (P := Try.prog) 24 3 .i64 Try.underlying24 hi021 Ao15 x3_2.length co15 t127 (of_decide_eq_true am) q21 (Kd.R_reads' HO_3.out).2.1; have hr21 := Kd.R_take (m := (t127 : Int).toNat) HO_3.out (by omega); have hy21 : y140.length = (t127 : Int).toNat := (by rw [Ny140.out, List.length_take]; omega); rw [← Ny140.out] at hr21; rw [← hy21] at hr21 hcut21; clear hy21 hi021 hsz21 HO_3; have HO142 := Az.mk hr21; clear hr21; replace q21 := eq_true q21) | ((with_reducible refine gate_builtin (b := .append) (xs := #[.tmp 34, .tmp 36]) rfl ?_); at_builtin; refine Kd.R_append (Kd.int .i64) w.heap.size rfl (.tmp 34) (.tmp 36) 24 3 (.int .i64 0) 8 rfl Try.underlying24 info3 rfl (by decide) (by omega) (.slice Ao15 y140.length co15) y140 x5_1 [.int .i64 x5_1] (fun k_ => some k_ ≠ (v138 : Value).ownBlock) (fun _ => False) rfl rfl ?aP (fun _ hk => hk.elim) ?aF ?aO (Below.refl _ _) ?aS ?aL ?_; (case aP => exact rfl); (case aF => exact (fun k_ hk => Kd.fresh' (Kd.R_lt (kR HO139.out)) k_ hk)); (case aO => exact (by (with_reducible repeat (first | apply Kd.R_alloc | apply Kd.R_drewN | apply Kd.R_drew)); exact Kd.R_mono HO142.out (fun _ hk => hk.2))); (case aS => exact (keep_size (w := w) (g := g) (row := none) (kK HK.out))); (case aL => have := LMc13.out; omega); intro v144 w22 ho hb hg hat; rw [← Ny143.out] at ho; have n0_ := Az.mk (IsS51.grown (kI HI0.out) hg (IsS51.own_ne HI0.out HO142.out (by decide))); have n1_ := Az.mk (Kd.R_after (ok := (fun _ => True)) (by (with_reducible repeat (first | apply Kd.R_alloc | apply Kd.R_drewN | apply Kd.R_drew)); exact Kd.R_mono HO139.out (fun _ hk => ⟨trivial, by rw [capB_ _ x3_2.length]; exact hk⟩)) hg hat); have n2_ := Az.mk (below_weaken (kG HB.out (IsS51.ge HI0.out)) HL.out hb); have n3_ := Az.mk (KeepBut.trans (kK HK.out) (KeepBut.of_grown hg g) (Kd.R_base2 HO142.out)); have n4_ := Az.mk (ho); clear HI0; clear HO139; clear HB; clear HK; clear HO142; have HI0 := n0_; have HO139 := n1_; have HB := n2_; have HK := n3_; have HO145 := n4_; clear n0_ n1_ n2_ n3_ n4_; clear ho hb hg hat; obtain ⟨Ao24, co24, eo24⟩ := Kd.R_slice HO139.out; subst eo24) | ((with_reducible refine gate_builtin (b := .append) (xs := #[.tmp 37, .tmp 38]) rfl ?_); at_builtin; refine Kd.R_append_rows (Kd.int .i64) w.heap.size rfl (.tmp 37) (.tmp 38) 24 3 (.int .i64 0) 8 rfl Try.underlying24 info3 rfl (by decide) (by omega) v144 y143 y137 _ _ _ (fun k_ => some k_ ≠ (.slice Ao24 y137.length co24 : Value).ownBlock) (fun _ => False) rfl rfl ?aO ?aR (fun _ _ h => h) (fun _ h => h.elim) ?aF (Below.refl _ _) ?aS ?aL ?_; (case aR => exact kC (Kd.R_reads' HO139.out).2.2); (case aF => exact (fun k_ hk => Kd.fresh' (Kd.R_lt (kR HO139.out)) k_ hk)); (case aO => exact (kR HO145.out)); (case aS => exact (keep_size (w := w) (g := g) (row := none) (kK HK.out))); (case aL => have := LMc14.out; omega); intro v147 w23 ho hb hg hat; rw [← Ny146.out] at ho; have n0_ := Az.mk (IsS51.grown (kI HI0.out) hg (IsS51.own_ne HI0.out HO145.out (by decide))); have n1_ := Az.mk (Kd.R_after (ok := (fun _ => True)) (kR HO139.out) hg hat); have n2_ := Az.mk (below_weaken (kG HB.out (IsS51.ge HI0.out)) HL.out hb); have n3_ := Az.mk (KeepBut.trans (kK HK.out) (KeepBut.of_grown hg g) (Kd.R_base2 HO145.out)); have n4_ := Az.mk (ho); clear HI0; clear HO139; clear HB; clear HK; clear HO145; have HI0 := n0_; have HO139 := n1_; have HB := n2_; have HK := n3_; have HO148 := n4_; clear n0_ n1_ n2_ n3_ n4_; clear ho hb hg hat))
   go_roundg k2
   case measure => have := HK1.out; have := HK2.out; omega
   case rel => exact ⟨(y146), (wrap64 (x6_2 + 1)), (t128), (t129), rq2, H', ⟨by have := HK1.out; have := HK2.out; omega⟩, ⟨by (with_reducible repeat (first | apply Kd.R_alloc | apply Kd.R_drewN | apply Kd.R_drew)); exact Kd.R_mono HO148.out (fun _ hk => trivial)⟩, ⟨kI HI0.out⟩, ⟨kK HK.out⟩, ⟨kG HB.out (IsS51.ge HI0.out)⟩⟩

/-! ### spec_l1New: function 31 -/
def spec_l1New.l0 : Nat → List Int → Int → Int → Option (List Int × Int × Int)
 | 0, _, _, _ => none
 | k + 1, x0, x3, x4 => if x4 < (x0.length : Int) then (if x4 < 4000 then (if 0 ≤ x4 then (spec_l1New.l0 k x0 (Go.bits .and .i64 (wrap64 ((wrap64 ((wrap64 (x3 * 131)) + (wrap64 (rd x0 x4)))) + 7)) 1073741823) (wrap64 (x4 + 1))) else (none)) else (some (x0, 0, x3))) else (some (x0, 0, x3))
def spec_l1New.f (k : Nat) (l0 : List Int) : Option (List Int × Int × Int) := spec_l1New.l0 k l0 (wrap64 (26583 + (l0.length : Int))) 0
set_option maxHeartbeats 8000000 in
set_option maxRecDepth 100000 in
theorem spec_l1New.calls (k : Nat) (A0 : Option Addr) (c0 : Nat) (l0 : List Int) (r1 : List Int) (r2 : Int) (r3 : Int) (w0 w : World) (hB : Below w0.heap.size w0 w) (hr0 : Kd.C (Kd.int .u8) w0 A0 l0.length l0) (hc0 : l0.length ≤ c0) (h : spec_l1New.f k l0 = some (r1, r2, r3)) :
  Calls Try.prog 31 #[.slice A0 l0.length c0] w fun e w' => ∃ g_ : Nat, e = .returned (.pointer (some ⟨g_, 0, none⟩)) ∧ IsS51 w0 w' g_ r1 r2 r3 ∧ Below w0.heap.size w0 w' ∧ Below w.heap.size w w' := by
 have hu51 := Try.underlying51
 have HR0 := Az.mk hr0
 have HC0 := Az.mk hc0
 clear hr0 hc0
 have HBW := Az.mk (Below.refl w.heap.size w)
 have HW0 := Az.mk hB.size
 have HB := Az.mk hB
 clear hB
 have H : (spec_l1New.l0 k l0 (wrap64 (26583 + (l0.length : Int))) 0) = some (r1, r2, r3) := h
 clear h
 have H' := Az.mk H
 clear H
 go_enter Try.func31, Try.ntmps31
 go_wp2
 go_loopg [3, 4] k (fun kq v3 v4 w' => ∃ (x3_1 : Int) (x4_1 : Int), v3 = .int .i64 x3_1 ∧ v4 = .int .i64 x4_1 ∧ Az (spec_l1New.l0 kq l0 x3_1 x4_1 = some (r1, r2, r3)) ∧ Az (kq ≤ k) ∧ Az (Below w0.heap.size w0 w') ∧ Az (Below w.heap.size w w'))
 case atStart => exact ⟨(wrap64 (26583 + (l0.length : Int))), (0), rq2, rq2, H', ⟨Nat.le_refl _⟩, ⟨bw_2⟩, ⟨by repeat (first | (with_reducible first | exact HBW.out | apply bwA | apply pbN | apply bwD) | exact HBW.out)⟩⟩
 clear H'
 obtain ⟨x3_1, x4_1, rfl, rfl, HA, HK1, HB, HBW⟩ := hrel
 cases gk with
 | zero => exact absurd HA.out (by simp [spec_l1New.l0])
 | succ k1 =>
  have H := HA.out
  clear HA
  simp only [spec_l1New.l0] at H
  by_cases c2 : x4_1 < (l0.length : Int)
  rotate_left
  ·rw [if_neg c2] at H
   have c2b0 : decide (x4_1 < (l0.length : Int)) = false := decide_eq_false c2
   clear c2
   simp only [Option.some.injEq, Prod.mk.injEq] at H
   obtain ⟨rfl, rfl, rfl⟩ := H
   go_wp2_with (first | ((with_reducible refine gtD (N := 31) rfl ?_); refine bx (N := 31) (cs := #[.slice A0 l0.length c0, .int .i64 0, .int .i64 x3_1]) (t := 51) ?_; intro gb167 hg w6 hbox hb; replace HB := Az.mk (bwT bw_2 hb); have BK167 := Az.mk (hbox); have GW167 := Az.mk ((by rw [hg]; exact (bwZ (by repeat (first | (with_reducible first | exact HBW.out | apply bwA | apply pbN | apply bwD) | exact HBW.out))) : w.heap.size ≤ gb167)); have GE167 := Az.mk ((Nat.le_trans HW0.out (by rw [hg]; exact (bwZ (by repeat (first | (with_reducible first | exact HBW.out | apply bwA | apply pbN | apply bwD) | exact HBW.out))) : w.heap.size ≤ gb167) : w0.heap.size ≤ gb167)); replace HBW := Az.mk (bwT HBW.out hb); clear hb hbox hg))
   go_ret
   exact ⟨_, rfl, (show IsS51 w0 _ gb167 l0 0 x3_1 from ⟨_, _, by (with_reducible repeat first | apply bkN | apply bkD | apply bkA); exact BK167.out, GE167.out, HR0.out⟩), by repeat (first | (with_reducible first | exact HB.out | apply bwA | apply pbN | apply bwD | refine bwS ?_ GE167.out) | exact HB.out), by repeat (first | (with_reducible first | exact HBW.out | apply bwA | apply pbN | apply bwD | refine bwS ?_ GW167.out) | exact HBW.out)⟩
  rw [if_pos c2] at H
  have c2b0 : decide (x4_1 < (l0.length : Int)) = true := decide_eq_true c2
  clear c2
  by_cases c3 : x4_1 < 4000
  rotate_left
  ·rw [if_neg c3] at H
   have c3b0 : decide (x4_1 < 4000) = false := decide_eq_false c3
   clear c3
   simp only [Option.some.injEq, Prod.mk.injEq] at H
   obtain ⟨rfl, rfl, rfl⟩ := H
   go_wp2_with (first | ((with_reducible refine gtD (N := 31) rfl ?_); refine bx (N := 31) (cs := #[.slice A0 l0.length c0, .int .i64 0, .int .i64 x3_1]) (t := 51) ?_; intro gb166 hg w5 hbox hb; replace HB := Az.mk (bwT bw_2 hb); have BK166 := Az.mk (hbox); have GW166 := Az.mk ((by rw [hg]; exact (bwZ (by repeat (first | (with_reducible first | exact HBW.out | apply bwA | apply pbN | apply bwD) | exact HBW.out))) : w.heap.size ≤ gb166)); have GE166 := Az.mk ((Nat.le_trans HW0.out (by rw [hg]; exact (bwZ (by repeat (first | (with_reducible first | exact HBW.out | apply bwA | apply pbN | apply bwD) | exact HBW.out))) : w.heap.size ≤ gb166) : w0.heap.size ≤ gb166)); replace HBW := Az.mk (bwT HBW.out hb); clear hb hbox hg))
   go_ret
   exact ⟨_, rfl, (show IsS51 w0 _ gb166 l0 0 x3_1 from ⟨_, _, by (with_reducible repeat first | apply bkN | apply bkD | apply bkA); exact BK166.out, GE166.out, HR0.out⟩), by repeat (first | (with_reducible first | exact HB.out | apply bwA | apply pbN | apply bwD | refine bwS ?_ GE166.out) | exact HB.out), by repeat (first | (with_reducible first | exact HBW.out | apply bwA | apply pbN | apply bwD | refine bwS ?_ GW166.out) | exact HBW.out)⟩
  rw [if_pos c3] at H
  have c3b0 : decide (x4_1 < 4000) = true := decide_eq_true c3
  clear c3
  by_cases c4 : 0 ≤ x4_1
  rotate_left
  ·rw [if_neg c4] at H
   exact absurd H (by simp)
  rw [if_pos c4] at H
  have c4b0 : decide (0 ≤ x4_1) = true := decide_eq_true c4
  clear c4
  have H' := Az.mk H
  clear H
  have p165 : 0 ≤ (x4_1 : Int) := of_decide_eq_true am
  have q165 : x4_1 < (l0.length : Int) := of_decide_eq_true am
  obtain ⟨ad165, e165, hx165_0⟩ := Kd.at_int HR0.out x4_1 p165 q165
  cases e165
  replace hx165_0 := pw_cell_below HB.out hx165_0
  replace p165 := eq_true p165
  replace q165 := eq_true q165
  go_wp2
  go_roundg k1
  case measure => have := HK1.out; omega
  case rel => exact ⟨(Go.bits .and .i64 (wrap64 ((wrap64 ((wrap64 (x3_1 * 131)) + (wrap64 (rd l0 x4_1)))) + 7)) 1073741823), (wrap64 (x4_1 + 1)), rq2, rq2, H', ⟨by have := HK1.out; omega⟩, ⟨bw_2⟩, ⟨by repeat (first | (with_reducible first | exact HBW.out | apply bwA | apply pbN | apply bwD) | exact HBW.out)⟩⟩

/-! ### spec_DrawCurveGenus: function 5 -/
def spec_DrawCurveGenus.f (k : Nat) (l0 : List Int) : Option (List Int) := (spec_l1New.f k l0).bind fun bt168 => ((spec_l18Draw.f k bt168.1 bt168.2.1 bt168.2.2).bind fun bt172 => (some bt172.1))
set_option maxHeartbeats 8000000 in
set_option maxRecDepth 100000 in
theorem spec_DrawCurveGenus.calls (k : Nat) (A0 : Option Addr) (c0 : Nat) (l0 : List Int) (r : List Int) (w : World) (hr0 : Kd.C (Kd.int .u8) w A0 l0.length l0) (hc0 : l0.length ≤ c0) (h : spec_DrawCurveGenus.f k l0 = some r) :
  Calls Try.prog 5 #[.slice A0 l0.length c0] w fun e w' => ∃ v0_ : Value, e = .returned (v0_) ∧ Kd.R (Kd.int .i64) 3 w' w.heap.size (fun _ => True) v0_ r ∧ Below w.heap.size w w' := by
 have HR0 := Az.mk hr0
 have HC0 := Az.mk hc0
 clear hr0 hc0
 have HB := Az.mk (Below.refl w.heap.size w)
 have H : ((spec_l1New.f k l0).bind fun bt168 => ((spec_l18Draw.f k bt168.1 bt168.2.1 bt168.2.2).bind fun bt172 => (some bt172.1))) = some r := h
 clear h
 replace H := bez H
 obtain ⟨⟨t168, t169, t170⟩, A2, H⟩ := H
 try dsimp only at H
 replace H := bez H
 obtain ⟨⟨t172, t175, t176⟩, A3, H⟩ := H
 replace H : (some t172) = some r := H
 obtain rfl := Option.some.inj H
 go_enter Try.func5, Try.ntmps5
 go_wp2_with (first | ((with_reducible refine gtC (f := 31) rfl ?_); refine clz Try.func31 (some 4) #[.slice A0 l0.length c0] ?_; (with_reducible refine (spec_l1New.calls k _ _ l0 t168 t169 t170 w _ ?side1 ?side2 ?side3 A2.out).mono ?_); (case side1 => exact bw_2); (case side2 => exact HR0.out); (case side3 => exact HC0.out); rintro e w4 ⟨g171, rfl, hi, hb, hb2⟩; refine ⟨_, rfl, ?_⟩; replace HB := Az.mk (hb); have HI171 := Az.mk (hi); (try clear hb); (try clear hb2); (try clear hi)) | ((with_reducible refine gtC (f := 30) rfl ?_); refine clz Try.func30 (some 5) #[.pointer (some ⟨g171, 0, none⟩)] ?_; (with_reducible refine (spec_l18Draw.calls k g171 t168 t169 t170 t172 t175 t176 w _ ?side1 ?side2 A3.out).mono ?_); (case side1 => exact (kI HI171.out)); (case side2 => exact kG HB.out (IsS51.ge HI171.out)); rintro e w5 ⟨v173, rfl, ho0, hi, hb, hk⟩; refine ⟨_, rfl, ?_⟩; have HO174 := Az.mk (Kd.R_lower ho0 (bwZ (kG HB.out (IsS51.ge HI171.out)))); replace HB := Az.mk (hb); replace HI171 := Az.mk (hi); (try clear hb); (try clear hk); (try clear hi); (try clear ho0)))
 go_ret
 exact ⟨_, rq1, kR HO174.out, kG HB.out (IsS51.ge HI171.out)⟩

/-! ### impl_within: function 36 -/
def impl_within.f (a0 : Int) (a1 : Int) (a2 : Int) : Option (Bool) := if a0 ≥ a1 then (some (decide (a0 ≤ a2))) else (some false)
set_option maxHeartbeats 8000000 in
set_option maxRecDepth 100000 in
theorem impl_within.calls (a0 : Int) (a1 : Int) (a2 : Int) (r : Bool) (w : World) (h : impl_within.f a0 a1 a2 = some r) :
  Calls Try.prog 36 #[.int .i64 a0, .int .i64 a1, .int .i64 a2] w fun e w' => e = .returned (.bool r) ∧ Drawn0 w w' := by
 have H : (if a0 ≥ a1 then (some (decide (a0 ≤ a2))) else (some false)) = some r := h
 clear h
 by_cases c4 : a0 ≥ a1
 ·rw [if_pos c4] at H
  have c4b0 : decide (a1 ≤ a0) = true := decide_eq_true c4
  clear c4
  obtain rfl := Option.some.inj H
  go_enter Try.func36, Try.ntmps36
  go_wp2
  go_ret
  exact ⟨rq2, kd⟩
 rw [if_neg c4] at H
 have c4b0 : decide (a1 ≤ a0) = false := decide_eq_false c4
 clear c4
 obtain rfl := Option.some.inj H
 go_enter Try.func36, Try.ntmps36
 go_wp2
 go_ret
 exact ⟨rq2, kd⟩

/-! ### impl_isLetter: function 67 -/
def impl_isLetter.f (a0 : Int) : Option (Bool) := if a0 = 0 then (some false) else ((impl_within.f a0 (-8) 8).bind fun t177 => (some t177))
set_option maxHeartbeats 8000000 in
set_option maxRecDepth 100000 in
theorem impl_isLetter.calls (a0 : Int) (r : Bool) (w : World) (h : impl_isLetter.f a0 = some r) :
  Calls Try.prog 67 #[.int .i64 a0] w fun e w' => e = .returned (.bool r) ∧ Drawn0 w w' := by
 have H : (if a0 = 0 then (some false) else ((impl_within.f a0 (-8) 8).bind fun t177 => (some t177))) = some r := h
 clear h
 by_cases c2 : a0 = 0
 ·rw [if_pos c2] at H
  have c2b0 : (a0 == 0) = true := beq_iff_eq.mpr c2
  have c2b1 : (a0 != 0) = false := bne_eq_false_iff_eq.mpr c2
  clear c2
  obtain rfl := Option.some.inj H
  go_enter Try.func67, Try.ntmps67
  go_wp2
  go_ret
  exact ⟨rq2, kd⟩
 rw [if_neg c2] at H
 have c2b0 : (a0 == 0) = false := beq_eq_false_iff_ne.mpr c2
 have c2b1 : (a0 != 0) = true := bne_iff_ne.mpr c2
 replace H := bez H
 obtain ⟨t177, A3, H⟩ := H
 replace H : (some t177) = some r := H
 obtain rfl := Option.some.inj H
 go_enter Try.func67, Try.ntmps67
 go_wp2_with (first | (go_at_call 36; (with_reducible refine (impl_within.calls a0 (-8) 8 t177 _ A3.out).mono ?_); rintro e w' ⟨rfl, ⟨nd, rfl⟩⟩))
 go_ret
 exact ⟨rq2, kd⟩

end Go.Proofs.Ytkmjcdlhlhefdaa.P
