-- By this session's driver (wip/tools/mk.py) of the kit's print program, over several statements at once. Not trusted: Lean checks it.
import Derived.Test.YtolmicnapemljaaQPx0
namespace Go.Proofs.Ytolmicnapemljaa.P
open Go.RowKit Go.Proofs.YtolmicnapemljaaW.PrintWords Go.Proofs.YtolmicnapemljaaW.PrintLast Go.Proofs.YtolmicnapemljaaW.PrintMore
attribute [local go_sem] max2_int min2_int max_two min_two max_three min_three max_four min_four   -- for this text's walks alone
set_option linter.unusedVariables false
set_option linter.unusedSimpArgs false

/-! ### impl_sorted: function 103 -/
theorem srt_some {w : World} {base : Nat} {ok : Nat → Prop} {A : Option Addr} {n c : Nat} {out : List Int} (HO : Kd.R (Kd.int .i64) 3 w base ok (.slice A n c) out) (h1 : 0 < out.length) : ∃ g : Nat, A = some ⟨g, 0, none⟩ := by
 obtain ⟨g, cap, eg, _⟩ := Kd.R_form HO h1
 injection eg with ea en ec
 exact ⟨g, ea⟩
theorem srt_at {w : World} {base : Nat} {ok : Nat → Prop} {g n c : Nat} {out : List Int} {w0 : World} (HO : Kd.R (Kd.int .i64) 3 w base ok (.slice (some ⟨g, 0, none⟩) n c) out) (HB : Below base w0 w) {Z : Int} (h0 : 0 ≤ Z) (h1 : Z < (out.length : Int)) :
  w.cell? ⟨g, Z.toNat, none⟩ = some (.int .i64 (rd out Z)) ∧ w.frozen? ⟨g, Z.toNat, none⟩ = false ∧ (Z < (n : Int)) ∧ Az (∀ W v, Drawn0 w W → Kd.R (Kd.int .i64) 3 (W.setCell ⟨g, Z.toNat, none⟩ (.int .i64 v)) base ok (.slice (some ⟨g, 0, none⟩) n c) (out.set Z.toNat v) ∧ Below base w0 (W.setCell ⟨g, Z.toNat, none⟩ (.int .i64 v))) := by
 have hn := (Kd.R_reads' HO).1
 obtain ⟨g', cap, eg, hg1, _⟩ := Kd.R_form HO (by omega)
 injection eg with ea en ec
 injection ea with ea
 injection ea with ea
 subst ea
 obtain ⟨hx, hf⟩ := Kd.R_celln 0 HO Z h0 (by omega)
 refine ⟨hx, hf, by omega, ⟨?_⟩⟩
 rintro W v ⟨m, rfl⟩
 exact ⟨(Kd.R_putg (Kd.R_drewN HO m) Z v).1, (pbN HB m).setCell hg1 _⟩
theorem srt_w {q : Int} {n : Nat} (h0 : 0 ≤ q) (h1 : q ≤ (n : Int)) (h2 : n < 17592186044415) : wrap64 (q + 1) = q + 1 := by
 unfold wrap64
 omega
theorem srt_w1 {q : Int} {n : Nat} (h0 : q > 0) (h1 : q ≤ (n : Int)) (h2 : n < 17592186044415) : wrap64 (q - 1) = q - 1 := by
 unfold wrap64
 omega
theorem own_cells {w : World} {base g n c : Nat} {ok : Nat → Prop} {out : List Int} (HO : Kd.R (Kd.int .i64) 3 w base ok (.slice (some ⟨g, 0, none⟩) n c) out) : ∃ cur : List Value, w.heap[g]? = some (.cells cur.toArray 3 (0, 0)) ∧ n ≤ c ∧ c ≤ maxLen ∧ cur.length = c ∧ cur.take n = out.map (Value.int .i64) ∧ base ≤ g := by
 have hn := (Kd.R_reads' HO).1
 obtain ⟨h1, h2⟩ := Kd.own_of_R HO
 rcases h2 with ⟨h2, _⟩ | ⟨g', cap, cur, e1, e2, e3, e4, e5, e6, e7⟩
 ·cases h2
 ·injection e1 with ea eb ec
  injection ea with ea
  injection ea with ea
  subst ea
  subst ec
  refine ⟨cur.toList, by rw [Array.toArray_toList]; exact e3, by omega, e5, by rw [Array.length_toList]; omega, ?_, e2⟩
  rw [← hn, Nat.mul_one] at e7
  exact e7
theorem srt_back {W W4 : World} {base g n c q : Nat} {ok : Nat → Prop} {out : List Int} {cur : List Value} (hn : n = out.length + 1) (hq : q ≤ out.length) (HO : Kd.R (Kd.int .i64) 3 W base ok (.slice (some ⟨g, 0, none⟩) n c) (out ++ [0])) (h0 : W.heap[g]? = some (.cells cur.toArray 3 (0, 0))) (h1 : n ≤ c) (h2 : c ≤ maxLen) (h3 : cur.length = c) (h4 : cur.take n = (out ++ [0]).map (Value.int .i64)) (h5 : base ≤ g)
  (hg : W4.heap[g]? = some (.cells (splice cur (q + 1) ((out.drop q).map (Value.int .i64))).toArray 3 (0, 0))) : Kd.R (Kd.int .i64) 3 W4 base ok (.slice (some ⟨g, 0, none⟩) n c) ((out ++ [0]).take (q + 1) ++ out.drop q) := by
 have hl : ((out ++ [0]).take (q + 1) ++ out.drop q).length = n := by rw [List.length_append, List.length_take, List.length_drop, List.length_append]; simp; omega
 refine Kd.R_of_own ?_ HO.1
 refine ⟨by rw [encs_length, Nat.mul_one], .inr ⟨g, c, _, by rw [hl], h5, hg, by rw [hl]; exact h1, h2, ?_, ?_⟩⟩
 ·rw [List.size_toArray, length_splice _ _ _ (by rw [List.length_map, List.length_drop]; omega), h3, Nat.mul_one]
 ·rw [hl, Nat.mul_one]
  unfold splice encs
  have e1 : cur.take (q + 1) = ((out ++ [0]).take (q + 1)).map (Value.int .i64) := by
   rw [List.map_take, ← h4, List.take_take, Nat.min_eq_left (by omega)]
  rw [List.toList_toArray, ← List.append_assoc, List.take_append_of_le_length (by rw [List.length_append, List.length_take, List.length_map, List.length_drop]; omega), e1, ← List.map_append, List.take_of_length_le (by rw [List.length_map, hl]; exact Nat.le_refl _)]
theorem srt_put {out : List Int} {q : Nat} {X : Int} (hq : q ≤ out.length) : ((out ++ [0]).take (q + 1) ++ out.drop q).set q X = out.take q ++ (X :: out.drop q) := by
 have hl : ((out ++ [0]).take (q + 1)).length = q + 1 := by rw [List.length_take, List.length_append]; simp; omega
 rw [List.set_append_left _ _ (by omega)]
 have e : (out ++ [0]).take (q + 1) = out.take q ++ [(out ++ [0])[q]'(by rw [List.length_append]; simp; omega)] := by
  rw [List.take_succ_eq_append_getElem (by rw [List.length_append]; simp; omega), List.take_append_of_le_length hq]
 rw [e, List.set_append_right _ _ (by rw [List.length_take]; omega), List.length_take, show q - min q out.length = 0 by omega, List.set_cons_zero, List.append_assoc]
 rfl
mutual
def impl_sorted.l0 : Nat → List Int → List Int → Int → Option (List Int)
 | 0, _, _, _ => none
 | k + 1, l, out, i => if i < (l.length : Int) then (if 0 ≤ i then (impl_sorted.l1 k l out i (out.length : Int)) else none) else (some out)
def impl_sorted.l1 : Nat → List Int → List Int → Int → Int → Option (List Int)
 | 0, _, _, _, _ => none
 | k + 1, l, out, i, q => if 0 ≤ q then (if q ≤ (out.length : Int) then (if out.length < 17592186044415 then (if q > 0 then (if rd out (q - 1) > rd l i then (impl_sorted.l1 k l out i (q - 1)) else (impl_sorted.l0 k l (out.take q.toNat ++ (rd l i :: out.drop q.toNat)) (wrap64 (i + 1)))) else (impl_sorted.l0 k l (out.take q.toNat ++ (rd l i :: out.drop q.toNat)) (wrap64 (i + 1)))) else none) else none) else none
end
def impl_sorted.f (k : Nat) (l : List Int) : Option (List Int) := impl_sorted.l0 k l [] 0
theorem impl_sorted.mono_l : ∀ k, (∀ y0 y1 y2, LeO (impl_sorted.l0 k y0 y1 y2) (impl_sorted.l0 (k + 1) y0 y1 y2)) ∧ (∀ y0 y1 y2 y3, LeO (impl_sorted.l1 k y0 y1 y2 y3) (impl_sorted.l1 (k + 1) y0 y1 y2 y3))
 | 0 => ⟨fun _ _ _ r h => by simp [impl_sorted.l0] at h, fun _ _ _ _ r h => by simp [impl_sorted.l1] at h⟩
 | k + 1 => by
  obtain ⟨ih0, ih1⟩ := impl_sorted.mono_l k
  refine ⟨?_, ?_⟩
  ·intro y0 y1 y2
   unfold impl_sorted.l0
   repeat' first
   | (with_reducible exact ih1 _ _ _ _)
   | (with_reducible exact LeO.refl _)
   | (with_reducible exact LeO.none _)
   | (with_reducible refine LeO.ite ?_ ?_)
  ·intro y0 y1 y2 y3
   unfold impl_sorted.l1
   repeat' first
   | (with_reducible exact ih0 _ _ _)
   | (with_reducible exact ih1 _ _ _ _)
   | (with_reducible exact LeO.refl _)
   | (with_reducible exact LeO.none _)
   | (with_reducible refine LeO.ite ?_ ?_)
theorem impl_sorted.mono : ∀ a0 k, LeO (impl_sorted.f k a0) (impl_sorted.f (k + 1) a0) := fun a0 k => (impl_sorted.mono_l k).1 _ _ _
def impl_sorted.T9 : Bool × List (List Nat × List Nat) := (true, [([], []), ([], []), ([1], [1]), ([0, 2], [0, 2]), ([], []), ([], []), ([4, 5], [4, 5]), ([3, 6], [3, 6])])
def impl_sorted.B9 : List Nat := [0, 0, 2, 7, 0, 0, 48, 127]
theorem impl_sorted.tab9 : rtab .any (opsOf Try.f103 9) = impl_sorted.T9 := by kernel_rfl
theorem impl_sorted.bits9 : waitsOk impl_sorted.T9.2 impl_sorted.B9 = true := by kernel_rfl
set_option maxHeartbeats 16000000 in
set_option maxRecDepth 100000 in
theorem impl_sorted.calls (k : Nat) (A0 : Option Addr) (c0 : Nat) (l0 : List Int) (r : List Int) (w : World) (hr0 : Kd.C (Kd.int .i64) w A0 l0.length l0) (hc0 : l0.length ≤ c0) (h : impl_sorted.f k l0 = some r) :
  Calls Try.prog 103 #[.slice A0 l0.length c0] w fun e w' => ∃ v0_ : Value, e = .returned (v0_) ∧ Kd.R (Kd.int .i64) 3 w' w.heap.size (fun _ => True) v0_ r ∧ Below w.heap.size w w' := by
 have HR0 := Az.mk hr0
 have HC0 := Az.mk hc0
 clear hr0 hc0
 have H' := Az.mk h
 clear h
 have HB := Az.mk (Below.refl w.heap.size w)
 go_enter Try.func103, Try.ntmps103
 go_wp2_with (first | ((with_reducible refine gtD (N := 7) rfl ?_); refine Kd.R_lit (Kd.int .i64) _ 3 ?hg (N := 7) ?hd (xs := ([] : List Int)) (inner := []) (ok := fun _ => True) (okp := fun _ => True) ?hr ?hp (fun _ hk => hk) trivial (Below.refl _ _) (Nat.le_refl _) (by simp) ?_; (case hd => rfl); (case hg => rfl); (case hr => first | (go_simp; done) | (go_simp; rfl)); (case hp => exact Reps.none _ _); intro v1 W1 ho hb hg hat; have HO := Az.mk ho; have HB1 := Az.mk hb; clear ho hb hg hat HB; have HB := HB1; clear HB1; obtain ⟨A, c, e2⟩ := Kd.R_slice HO.out; subst e2))
 go_loopg [3, 10] k (fun kq v3 v10 w' => ∃ (out_1 : List Int) (i_1 : Int) (A : Option Addr) (c : Nat), v3 = .slice A out_1.length c ∧ v10 = .int .i64 i_1 ∧ Az (impl_sorted.l0 kq l0 out_1 i_1 = some r) ∧ Az (kq ≤ k) ∧ Az (Kd.R (Kd.int .i64) 3 w' w.heap.size (fun _ => True) (.slice A out_1.length c) out_1) ∧ Az (Below w.heap.size w w'))
 case atStart => exact ⟨[], 0, _, _, rfl, rfl, H', ⟨Nat.le_refl _⟩, HO, HB⟩
 case round =>
  clear H' HO HB
  obtain ⟨out_1, i_1, A, c, rfl, rfl, HA, HK1, HO, HB⟩ := hrel
  cases gk with
  | zero => exact absurd HA.out (by simp [impl_sorted.l0])
  | succ k1 =>
   have H := HA.out
   clear HA
   simp only [impl_sorted.l0] at H
   by_cases b1 : i_1 < (l0.length : Int)
   ·rw [if_pos b1] at H
    by_cases b0 : 0 ≤ i_1
    ·rw [if_pos b0] at H
     obtain ⟨adx, rfl, hx1⟩ := Kd.at_int HR0.out i_1 b0 b1
     replace hx1 := (HB.out.cell (World.block_lt_of_cell? w _ hx1)).trans hx1
     obtain ⟨X, hX⟩ : ∃ j_ : Int, rd l0 i_1 = j_ := ⟨_, rfl⟩
     rw [hX] at hx1
     have b1b := decide_eq_true b1
     replace b0 := eq_true b0
     replace b1 := eq_true b1
     have H' := Az.mk H
     clear H
     go_wp2
     go_loopg [6] k1 (fun kq v6 w' => ∃ (q_1 : Int), v6 = .int .i64 q_1 ∧ Az (impl_sorted.l1 kq l0 out_1 i_1 q_1 = some r) ∧ Az (kq ≤ k1) ∧ Az (Kd.R (Kd.int .i64) 3 w' w.heap.size (fun _ => True) (.slice A out_1.length c) out_1) ∧ Az (Below w.heap.size w w'))
     case atStart => exact ⟨_, rfl, H', ⟨Nat.le_refl _⟩, ⟨by first | exact HO.out | exact Kd.R_drewN HO.out _⟩, ⟨by first | exact HB.out | exact pbN HB.out _⟩⟩
     case round =>
      clear H' HO HB hx1
      obtain ⟨q_1, rfl, HA, HK2, HO, HB⟩ := hrel
      cases gk with
      | zero => exact absurd HA.out (by simp [impl_sorted.l1])
      | succ k2 =>
       have H := HA.out
       clear HA
       simp only [impl_sorted.l1] at H
       rw [hX] at H
       by_cases d0 : 0 ≤ q_1
       ·rw [if_pos d0] at H
        by_cases d1 : q_1 ≤ (out_1.length : Int)
        ·rw [if_pos d1] at H
         by_cases d2 : out_1.length < 17592186044415
         ·rw [if_pos d2] at H
          have LM := Az.mk d2
          have hq0 := Az.mk d0
          have hq1 := Az.mk d1
          by_cases d3 : q_1 > 0
          ·rw [if_pos d3] at H
           obtain ⟨g0, eg0⟩ := srt_some HO.out (by omega)
           subst eg0
           obtain ⟨Z, hZ⟩ : ∃ j_ : Int, q_1 - 1 = j_ := ⟨_, rfl⟩
           obtain ⟨hxq, _, znq, _⟩ := srt_at HO.out HB.out (show 0 ≤ Z by omega) (by omega)
           have z0 : (0 ≤ Z) = True := eq_true (by omega)
           have z1 := eq_true znq
           have d3b : decide (q_1 > 0) = true := decide_eq_true d3
           have d3c : decide (0 < q_1) = true := decide_eq_true d3
           have hqw : IntKind.i64.wrap (q_1 - 1) = Z := (i64_w _).trans ((srt_w1 d3 d1 d2).trans hZ)
           have hqw2 : wrap64 (q_1 - 1) = Z := (srt_w1 d3 d1 d2).trans hZ
           rw [hZ] at H
           obtain ⟨Y, hY⟩ : ∃ j_ : Int, rd out_1 Z = j_ := ⟨_, rfl⟩
           rw [hY] at hxq H
           clear hY hZ znq d0 d1 d2 d3
           by_cases d4 : Y > X
           ·rw [if_pos d4] at H
            have d4b : decide (Y > X) = true := decide_eq_true d4
            have d4c : decide (X < Y) = true := decide_eq_true d4
            clear d4
            have H' := Az.mk H
            clear H
            go_wp2
            go_roundg k2
            case measure => have := HK1.out; have := HK2.out; omega
            case rel => exact ⟨_, rfl, H', ⟨by have := HK2.out; omega⟩, ⟨by first | exact HO.out | exact Kd.R_drewN HO.out _⟩, ⟨by first | exact HB.out | exact pbN HB.out _⟩⟩
           ·rw [if_neg d4] at H
            have d4b : decide (Y > X) = false := decide_eq_false d4
            have d4c : decide (X < Y) = false := decide_eq_false d4
            clear d4
            have H' := Az.mk H
            clear H
            obtain ⟨Q, hQ0⟩ : ∃ j_ : Int, wrap64 (q_1 + 1) = j_ := ⟨_, rfl⟩
            have hQw : IntKind.i64.wrap (q_1 + 1) = Q := (i64_w _).trans hQ0
            have hQ := Az.mk (show Q = q_1 + 1 from by rw [← hQ0]; exact srt_w hq0.out hq1.out LM.out)
            clear hQ0
            go_wp2_with (first | ((with_reducible refine gate_builtin (b := .append) (xs := #[.tmp 29, .tmp 30]) rfl ?_); at_builtin; refine Kd.R_append (Kd.int .i64) (w0 := w) w.heap.size rfl (.tmp 29) (.tmp 30) 24 3 (.int .i64 0) 8 rfl Try.underlying24 info3 rfl (by decide) (by omega) (.slice (some ⟨g0, 0, none⟩) out_1.length c) out_1 0 [.int .i64 0] (fun _ => True) (fun _ => False) rfl rfl ?aP (fun _ hk => hk.elim) ?aF ?aO ?aB ?aS ?aL ?_; (case aP => exact rfl); (case aB => exact (by repeat (first | (with_reducible first | exact HB.out | apply pbN) | exact HB.out))); (case aF => exact (fun k_ hk_ => trivial)); (case aO => exact (by (with_reducible repeat (first | apply Kd.R_alloc | apply Kd.R_drewN | apply Kd.R_drew)); exact HO.out)); (case aS => exact HB.out.size); (case aL => have := LM.out; omega); intro v1 W6 ho hb hg hat; obtain ⟨A2, c2, e2⟩ := Kd.R_slice ho; subst e2; have HO2 := Az.mk (show Kd.R (Kd.int .i64) 3 W6 w.heap.size (fun _ => True) (.slice A2 (out_1.length + 1) c2) (out_1 ++ [0]) from by rw [show out_1.length + 1 = (out_1 ++ [0]).length from by simp]; exact ho); have HB2 := Az.mk hb; clear ho hb hg hat HO HB; have HB := HB2; clear HB2; obtain ⟨g, eg⟩ := srt_some HO2.out (by rw [List.length_append]; simp); subst eg))
            obtain ⟨i0, hi0, _, hsz0, _⟩ := info_parts info3
            obtain ⟨DD, hDD0⟩ : ∃ D_ : Option Addr, (if c2 = Q.toNat then some (⟨g, 0, none⟩ : Addr) else some ⟨g, Q.toNat, none⟩) = D_ := ⟨_, rfl⟩
            obtain ⟨SS, hSS0⟩ : ∃ D_ : Option Addr, (if c2 = q_1.toNat then some (⟨g, 0, none⟩ : Addr) else some ⟨g, q_1.toNat, none⟩) = D_ := ⟨_, rfl⟩
            have hnc := (Kd.R_reads' HO2.out).2.1
            have hDD := Az.mk (show q_1 < (out_1.length : Int) → DD = some ⟨g, q_1.toNat + 1, none⟩ from fun h_ => by rw [← hDD0, if_neg (by rw [hQ.out]; have := hq0.out; omega), hQ.out]; congr 2; have := hq0.out; omega)
            have hSS := Az.mk (show SS = some ⟨g, q_1.toNat, none⟩ from by rw [← hSS0, if_neg (by have := hq0.out; have := hq1.out; omega)])
            have zQ0 : (0 ≤ Q) = True := eq_true (by rw [hQ.out]; have := hq0.out; omega)
            have zQ1 : (Q ≤ (out_1.length : Int) + 1) = True := eq_true (by rw [hQ.out]; have := hq1.out; omega)
            have zq0 : (0 ≤ q_1) = True := eq_true hq0.out
            have zq1 : (q_1 ≤ (out_1.length : Int) + 1) = True := eq_true (by have := hq1.out; omega)
            clear hnc
            refine start_ (n := 8) (S := fun w' => True) (ds := [7]) #[false, false, false, false, false, false, false, false] (by kernel_rfl) rfl rfl trivial (fun hHeld => ?_)
            refine with_tabW impl_sorted.tab9 impl_sorted.bits9 (fun HT_ HW_ => ?_)
            have HBn := Az.mk (bwD HB.out)
            have HOn := Az.mk (Kd.R_drew HO2.out)
            clear HB HO2
            have HB := HBn
            have HO2 := HOn
            clear HBn HOn
            generalize W6.drew = wd at HB HO2 hHeld ⊢
            obtain ⟨cur, hcur0, hc1, hc2, hc3, hc4, hc5⟩ := own_cells HO2.out
            have hcur := Az.mk hcur0
            have hgB := Az.mk hc5
            have hcn := Az.mk (show ((out_1.drop q_1.toNat).map (Value.int .i64)).length = Nat.min (out_1.length + 1 - q_1.toNat) (out_1.length + 1 - Q.toNat) from by rw [List.length_map, List.length_drop]; have e2 := hQ.out; have e3 := hq0.out; have e4 := hq1.out; show _ = min _ _; omega)
            have hcp := Az.mk (show 0 < ((out_1.drop q_1.toNat).map (Value.int .i64)).length → DD = some ⟨g, q_1.toNat + 1, none⟩ ∧ ∃ ad, SS = some ad ∧ ∀ j v, ((out_1.drop q_1.toNat).map (Value.int .i64))[j]? = some v → wd.cell? (ad.add j) = some v from by
             intro hlen
             rw [List.length_map, List.length_drop] at hlen
             have e2 := hQ.out
             have e3 := hq0.out
             have e4 := hq1.out
             refine ⟨?_, ⟨g, q_1.toNat, none⟩, hSS.out, fun j v hv => ?_⟩
             ·exact hDD.out (by omega)
             ·rw [List.getElem?_map, List.getElem?_drop] at hv
              obtain ⟨z, hz, rfl⟩ := Option.map_eq_some_iff.1 hv
              have hjl : q_1.toNat + j < out_1.length := by
               rcases Nat.lt_or_ge (q_1.toNat + j) out_1.length with h' | h'
               ·exact h'
               ·rw [List.getElem?_eq_none h'] at hz; cases hz
              obtain ⟨hx, _⟩ := Kd.R_celln 0 HO2.out ((q_1.toNat + j : Nat) : Int) (by omega) (by omega)
              have ea : (⟨g, q_1.toNat, none⟩ : Addr).add j = ⟨g, ((q_1.toNat + j : Nat) : Int).toNat, none⟩ := by
               rw [Int.toNat_natCast]; unfold Addr.add
               by_cases e : j = 0
               ·rw [if_pos e, e, Nat.add_zero]
               ·rw [if_neg e]
              rw [ea, hx]
              congr 2
              unfold rdOf
              rw [Int.toNat_natCast, List.getD_eq_getElem?_getD, List.getElem?_append_left hjl, hz]
              rfl)
            have hcf := Az.mk (show q_1.toNat + 1 + ((out_1.drop q_1.toNat).map (Value.int .i64)).length ≤ cur.length from by rw [List.length_map, List.length_drop]; have e3 := hq0.out; have e4 := hq1.out; omega)
            refine pure_ (i := 0) (N := some 32) (v := ?_) (a' := ?_) #[true, false, false, false, false, false, false, false] rfl rfl (any_of HT_.out (by kernel_rfl)) (fun _ _ _ h => h) (Or.inl ⟨by rfl, ?_⟩) ?_ ?_
            rotate_left
            ·intro w'
             go_simp
             with_reducible rfl
            rotate_left
            ·simp only [Act.put, List.setIfInBounds_toArray, List.set_cons_zero, List.set_cons_succ, i64_w, i32_w]
             rfl
            refine pure_ (i := 1) (N := some 33) (v := ?_) (a' := ?_) #[true, true, false, false, false, false, false, false] rfl rfl (any_of HT_.out (by kernel_rfl)) (fun _ _ _ h => h) (Or.inl ⟨by rfl, ?_⟩) ?_ ?_
            rotate_left
            ·intro w'
             go_simp
             with_reducible rfl
            rotate_left
            ·simp only [Act.put, List.setIfInBounds_toArray, List.set_cons_zero, List.set_cons_succ, i64_w, i32_w]
             rfl
            refine pure_ (i := 2) (N := some 34) (v := ?_) (a' := ?_) #[true, true, true, false, false, false, false, false] rfl rfl (any_of HT_.out (by kernel_rfl)) (fun _ _ _ h => h) (Or.inl ⟨by rfl, ?_⟩) ?_ ?_
            rotate_left
            ·intro w'
             go_simp
             with_reducible rfl
            rotate_left
            ·simp only [Act.put, List.setIfInBounds_toArray, List.set_cons_zero, List.set_cons_succ, i64_w, i32_w]
             rfl
            refine pure_ (i := 3) (N := some 35) (v := ?_) (a' := ?_) #[true, true, true, true, false, false, false, false] rfl rfl (any_of HT_.out (by kernel_rfl)) (fun _ _ _ h => h) (Or.inl ⟨by rfl, ?_⟩) ?_ ?_
            rotate_left
            ·intro w'
             go_simp
             with_reducible rfl
            rotate_left
            ·simp only [Act.put, List.setIfInBounds_toArray, List.set_cons_zero, List.set_cons_succ, i64_w, i32_w]
             rfl
            refine pure_ (i := 4) (N := some 36) (v := ?_) (a' := ?_) #[true, true, true, true, true, false, false, false] rfl rfl (any_of HT_.out (by kernel_rfl)) (fun _ _ _ h => h) (Or.inl ⟨by rfl, ?_⟩) ?_ ?_
            rotate_left
            ·intro w'
             go_simp
             with_reducible rfl
            rotate_left
            ·simp only [Act.put, List.setIfInBounds_toArray, List.set_cons_zero, List.set_cons_succ, i64_w, i32_w]
             rfl
            refine pure_ (i := 5) (N := some 37) (v := ?_) (a' := ?_) #[true, true, true, true, true, true, false, false] rfl rfl (any_of HT_.out (by kernel_rfl)) (fun _ _ _ h => h) (Or.inl ⟨by rfl, ?_⟩) ?_ ?_
            rotate_left
            ·intro w'
             go_simp
             with_reducible rfl
            rotate_left
            ·simp only [Act.put, List.setIfInBounds_toArray, List.set_cons_zero, List.set_cons_succ, i64_w, i32_w]
             rfl
            refine pure_ (i := 6) (N := some 38) (v := ?_) (a' := ?_) #[true, true, true, true, true, true, true, false] rfl rfl (any_of HT_.out (by kernel_rfl)) (fun _ _ _ h => h) (Or.inl ⟨by rfl, ?_⟩) ?_ ?_
            rotate_left
            ·intro w'
             go_simp
             with_reducible rfl
            rotate_left
            ·simp only [Act.put, List.setIfInBounds_toArray, List.set_cons_zero, List.set_cons_succ, i64_w, i32_w]
             rfl
            refine last_ (i := 7) (N := some 39) #[true, true, true, true, true, true, true, true] rfl rfl (one_of HT_.out (by kernel_rfl)) (by decide) (fun K hK => ?_)
            refine step_copy_splice rfl (.tmp 35) (.tmp 38) 24 24 rfl 3 Try.underlying24 (by rw [hi0]; exact congrArg some hsz0) DD SS _ _ _ _ (by rfl) (by rfl) g (q_1.toNat + 1) cur 3 hcur.out ((out_1.drop q_1.toNat).map (Value.int .i64)) hcn.out hcp.out hcf.out (fun v hv => by obtain ⟨z, _, rfl⟩ := List.mem_map.1 hv; rfl) w.heap.size w HB.out hgB.out ?_
            intro W4 hg4 hb4
            have HG4 := Az.mk hg4.out
            have HB4 := Az.mk hb4
            clear hg4 hb4
            refine hK.out _ _ ?_
            clear hK K
            refine done_ (done_of HT_.out (by kernel_rfl)) ?_
            have HO4 := Az.mk (srt_back (q := q_1.toNat) rfl (by have := hq0.out; have := hq1.out; omega) HO2.out hcur.out hc1 hc2 hc3 hc4 hc5 HG4.out)
            clear hDD0 hSS0 hDD hSS zQ0 zQ1 zq0 zq1 hHeld HO2 hcur hcn hcp hcf HG4 HB hc1 hc2 hc3 hc4 hc5 hQw
            have hl4 := Az.mk (show ((out_1 ++ [0]).take (q_1.toNat + 1) ++ out_1.drop q_1.toNat).length = out_1.length + 1 from by rw [List.length_append, List.length_take, List.length_drop, List.length_append]; have := hq0.out; have := hq1.out; simp; omega)
            obtain ⟨hx4, hf4, zn4, fin4⟩ := srt_at HO4.out HB4.out hq0.out (show q_1 < (((out_1 ++ [0]).take (q_1.toNat + 1) ++ out_1.drop q_1.toNat).length : Int) from by rw [hl4.out]; have := hq1.out; omega)
            have zq0 := eq_true hq0.out
            have zq1 := eq_true zn4
            have zq2 : (q_1 < (out_1.length : Int) + 1) = True := eq_true (by have := hq1.out; omega)
            clear zn4
            go_wp2
            all_goals (go_roundg k2; (case measure => have := HK1.out; have := HK2.out; omega); (case rel => (have E := fin4.out _ X (by first | exact ⟨_, rfl⟩ | exact Drawn0.refl _); have ep := srt_put (out := out_1) (q := q_1.toNat) (X := X) (by have := hq0.out; have := hq1.out; omega); rw [ep] at E; have el : out_1.length + 1 = (out_1.take q_1.toNat ++ (X :: out_1.drop q_1.toNat)).length := (by rw [List.length_append, List.length_cons, List.length_take, List.length_drop]; have := hq0.out; have := hq1.out; omega); exact ⟨out_1.take q_1.toNat ++ (X :: out_1.drop q_1.toNat), _, _, c2, (by rw [el]), rfl, H', ⟨by have := HK1.out; have := HK2.out; omega⟩, ⟨(by rw [← el]; exact E.1)⟩, ⟨E.2⟩⟩)))
          ·rw [if_neg d3] at H
           have d3b : decide (q_1 > 0) = false := decide_eq_false d3
           have d3c : decide (0 < q_1) = false := decide_eq_false d3
           clear d0 d1 d2 d3
           have H' := Az.mk H
           clear H
           obtain ⟨Q, hQ0⟩ : ∃ j_ : Int, wrap64 (q_1 + 1) = j_ := ⟨_, rfl⟩
           have hQw : IntKind.i64.wrap (q_1 + 1) = Q := (i64_w _).trans hQ0
           have hQ := Az.mk (show Q = q_1 + 1 from by rw [← hQ0]; exact srt_w hq0.out hq1.out LM.out)
           clear hQ0
           go_wp2_with (first | ((with_reducible refine gate_builtin (b := .append) (xs := #[.tmp 29, .tmp 30]) rfl ?_); at_builtin; refine Kd.R_append (Kd.int .i64) (w0 := w) w.heap.size rfl (.tmp 29) (.tmp 30) 24 3 (.int .i64 0) 8 rfl Try.underlying24 info3 rfl (by decide) (by omega) (.slice A out_1.length c) out_1 0 [.int .i64 0] (fun _ => True) (fun _ => False) rfl rfl ?aP (fun _ hk => hk.elim) ?aF ?aO ?aB ?aS ?aL ?_; (case aP => exact rfl); (case aB => exact (by repeat (first | (with_reducible first | exact HB.out | apply pbN) | exact HB.out))); (case aF => exact (fun k_ hk_ => trivial)); (case aO => exact (by (with_reducible repeat (first | apply Kd.R_alloc | apply Kd.R_drewN | apply Kd.R_drew)); exact HO.out)); (case aS => exact HB.out.size); (case aL => have := LM.out; omega); intro v1 W6 ho hb hg hat; obtain ⟨A2, c2, e2⟩ := Kd.R_slice ho; subst e2; have HO2 := Az.mk (show Kd.R (Kd.int .i64) 3 W6 w.heap.size (fun _ => True) (.slice A2 (out_1.length + 1) c2) (out_1 ++ [0]) from by rw [show out_1.length + 1 = (out_1 ++ [0]).length from by simp]; exact ho); have HB2 := Az.mk hb; clear ho hb hg hat HO HB; have HB := HB2; clear HB2; obtain ⟨g, eg⟩ := srt_some HO2.out (by rw [List.length_append]; simp); subst eg))
           obtain ⟨i0, hi0, _, hsz0, _⟩ := info_parts info3
           obtain ⟨DD, hDD0⟩ : ∃ D_ : Option Addr, (if c2 = Q.toNat then some (⟨g, 0, none⟩ : Addr) else some ⟨g, Q.toNat, none⟩) = D_ := ⟨_, rfl⟩
           obtain ⟨SS, hSS0⟩ : ∃ D_ : Option Addr, (if c2 = q_1.toNat then some (⟨g, 0, none⟩ : Addr) else some ⟨g, q_1.toNat, none⟩) = D_ := ⟨_, rfl⟩
           have hnc := (Kd.R_reads' HO2.out).2.1
           have hDD := Az.mk (show q_1 < (out_1.length : Int) → DD = some ⟨g, q_1.toNat + 1, none⟩ from fun h_ => by rw [← hDD0, if_neg (by rw [hQ.out]; have := hq0.out; omega), hQ.out]; congr 2; have := hq0.out; omega)
           have hSS := Az.mk (show SS = some ⟨g, q_1.toNat, none⟩ from by rw [← hSS0, if_neg (by have := hq0.out; have := hq1.out; omega)])
           have zQ0 : (0 ≤ Q) = True := eq_true (by rw [hQ.out]; have := hq0.out; omega)
           have zQ1 : (Q ≤ (out_1.length : Int) + 1) = True := eq_true (by rw [hQ.out]; have := hq1.out; omega)
           have zq0 : (0 ≤ q_1) = True := eq_true hq0.out
           have zq1 : (q_1 ≤ (out_1.length : Int) + 1) = True := eq_true (by have := hq1.out; omega)
           clear hnc
           refine start_ (n := 8) (S := fun w' => True) (ds := [7]) #[false, false, false, false, false, false, false, false] (by kernel_rfl) rfl rfl trivial (fun hHeld => ?_)
           refine with_tabW impl_sorted.tab9 impl_sorted.bits9 (fun HT_ HW_ => ?_)
           have HBn := Az.mk (bwD HB.out)
           have HOn := Az.mk (Kd.R_drew HO2.out)
           clear HB HO2
           have HB := HBn
           have HO2 := HOn
           clear HBn HOn
           generalize W6.drew = wd at HB HO2 hHeld ⊢
           obtain ⟨cur, hcur0, hc1, hc2, hc3, hc4, hc5⟩ := own_cells HO2.out
           have hcur := Az.mk hcur0
           have hgB := Az.mk hc5
           have hcn := Az.mk (show ((out_1.drop q_1.toNat).map (Value.int .i64)).length = Nat.min (out_1.length + 1 - q_1.toNat) (out_1.length + 1 - Q.toNat) from by rw [List.length_map, List.length_drop]; have e2 := hQ.out; have e3 := hq0.out; have e4 := hq1.out; show _ = min _ _; omega)
           have hcp := Az.mk (show 0 < ((out_1.drop q_1.toNat).map (Value.int .i64)).length → DD = some ⟨g, q_1.toNat + 1, none⟩ ∧ ∃ ad, SS = some ad ∧ ∀ j v, ((out_1.drop q_1.toNat).map (Value.int .i64))[j]? = some v → wd.cell? (ad.add j) = some v from by
            intro hlen
            rw [List.length_map, List.length_drop] at hlen
            have e2 := hQ.out
            have e3 := hq0.out
            have e4 := hq1.out
            refine ⟨?_, ⟨g, q_1.toNat, none⟩, hSS.out, fun j v hv => ?_⟩
            ·exact hDD.out (by omega)
            ·rw [List.getElem?_map, List.getElem?_drop] at hv
             obtain ⟨z, hz, rfl⟩ := Option.map_eq_some_iff.1 hv
             have hjl : q_1.toNat + j < out_1.length := by
              rcases Nat.lt_or_ge (q_1.toNat + j) out_1.length with h' | h'
              ·exact h'
              ·rw [List.getElem?_eq_none h'] at hz; cases hz
             obtain ⟨hx, _⟩ := Kd.R_celln 0 HO2.out ((q_1.toNat + j : Nat) : Int) (by omega) (by omega)
             have ea : (⟨g, q_1.toNat, none⟩ : Addr).add j = ⟨g, ((q_1.toNat + j : Nat) : Int).toNat, none⟩ := by
              rw [Int.toNat_natCast]; unfold Addr.add
              by_cases e : j = 0
              ·rw [if_pos e, e, Nat.add_zero]
              ·rw [if_neg e]
             rw [ea, hx]
             congr 2
             unfold rdOf
             rw [Int.toNat_natCast, List.getD_eq_getElem?_getD, List.getElem?_append_left hjl, hz]
             rfl)
           have hcf := Az.mk (show q_1.toNat + 1 + ((out_1.drop q_1.toNat).map (Value.int .i64)).length ≤ cur.length from by rw [List.length_map, List.length_drop]; have e3 := hq0.out; have e4 := hq1.out; omega)
           refine pure_ (i := 0) (N := some 32) (v := ?_) (a' := ?_) #[true, false, false, false, false, false, false, false] rfl rfl (any_of HT_.out (by kernel_rfl)) (fun _ _ _ h => h) (Or.inl ⟨by rfl, ?_⟩) ?_ ?_
           rotate_left
           ·intro w'
            go_simp
            with_reducible rfl
           rotate_left
           ·simp only [Act.put, List.setIfInBounds_toArray, List.set_cons_zero, List.set_cons_succ, i64_w, i32_w]
            rfl
           refine pure_ (i := 1) (N := some 33) (v := ?_) (a' := ?_) #[true, true, false, false, false, false, false, false] rfl rfl (any_of HT_.out (by kernel_rfl)) (fun _ _ _ h => h) (Or.inl ⟨by rfl, ?_⟩) ?_ ?_
           rotate_left
           ·intro w'
            go_simp
            with_reducible rfl
           rotate_left
           ·simp only [Act.put, List.setIfInBounds_toArray, List.set_cons_zero, List.set_cons_succ, i64_w, i32_w]
            rfl
           refine pure_ (i := 2) (N := some 34) (v := ?_) (a' := ?_) #[true, true, true, false, false, false, false, false] rfl rfl (any_of HT_.out (by kernel_rfl)) (fun _ _ _ h => h) (Or.inl ⟨by rfl, ?_⟩) ?_ ?_
           rotate_left
           ·intro w'
            go_simp
            with_reducible rfl
           rotate_left
           ·simp only [Act.put, List.setIfInBounds_toArray, List.set_cons_zero, List.set_cons_succ, i64_w, i32_w]
            rfl
           refine pure_ (i := 3) (N := some 35) (v := ?_) (a' := ?_) #[true, true, true, true, false, false, false, false] rfl rfl (any_of HT_.out (by kernel_rfl)) (fun _ _ _ h => h) (Or.inl ⟨by rfl, ?_⟩) ?_ ?_
           rotate_left
           ·intro w'
            go_simp
            with_reducible rfl
           rotate_left
           ·simp only [Act.put, List.setIfInBounds_toArray, List.set_cons_zero, List.set_cons_succ, i64_w, i32_w]
            rfl
           refine pure_ (i := 4) (N := some 36) (v := ?_) (a' := ?_) #[true, true, true, true, true, false, false, false] rfl rfl (any_of HT_.out (by kernel_rfl)) (fun _ _ _ h => h) (Or.inl ⟨by rfl, ?_⟩) ?_ ?_
           rotate_left
           ·intro w'
            go_simp
            with_reducible rfl
           rotate_left
           ·simp only [Act.put, List.setIfInBounds_toArray, List.set_cons_zero, List.set_cons_succ, i64_w, i32_w]
            rfl
           refine pure_ (i := 5) (N := some 37) (v := ?_) (a' := ?_) #[true, true, true, true, true, true, false, false] rfl rfl (any_of HT_.out (by kernel_rfl)) (fun _ _ _ h => h) (Or.inl ⟨by rfl, ?_⟩) ?_ ?_
           rotate_left
           ·intro w'
            go_simp
            with_reducible rfl
           rotate_left
           ·simp only [Act.put, List.setIfInBounds_toArray, List.set_cons_zero, List.set_cons_succ, i64_w, i32_w]
            rfl
           refine pure_ (i := 6) (N := some 38) (v := ?_) (a' := ?_) #[true, true, true, true, true, true, true, false] rfl rfl (any_of HT_.out (by kernel_rfl)) (fun _ _ _ h => h) (Or.inl ⟨by rfl, ?_⟩) ?_ ?_
           rotate_left
           ·intro w'
            go_simp
            with_reducible rfl
           rotate_left
           ·simp only [Act.put, List.setIfInBounds_toArray, List.set_cons_zero, List.set_cons_succ, i64_w, i32_w]
            rfl
           refine last_ (i := 7) (N := some 39) #[true, true, true, true, true, true, true, true] rfl rfl (one_of HT_.out (by kernel_rfl)) (by decide) (fun K hK => ?_)
           refine step_copy_splice rfl (.tmp 35) (.tmp 38) 24 24 rfl 3 Try.underlying24 (by rw [hi0]; exact congrArg some hsz0) DD SS _ _ _ _ (by rfl) (by rfl) g (q_1.toNat + 1) cur 3 hcur.out ((out_1.drop q_1.toNat).map (Value.int .i64)) hcn.out hcp.out hcf.out (fun v hv => by obtain ⟨z, _, rfl⟩ := List.mem_map.1 hv; rfl) w.heap.size w HB.out hgB.out ?_
           intro W4 hg4 hb4
           have HG4 := Az.mk hg4.out
           have HB4 := Az.mk hb4
           clear hg4 hb4
           refine hK.out _ _ ?_
           clear hK K
           refine done_ (done_of HT_.out (by kernel_rfl)) ?_
           have HO4 := Az.mk (srt_back (q := q_1.toNat) rfl (by have := hq0.out; have := hq1.out; omega) HO2.out hcur.out hc1 hc2 hc3 hc4 hc5 HG4.out)
           clear hDD0 hSS0 hDD hSS zQ0 zQ1 zq0 zq1 hHeld HO2 hcur hcn hcp hcf HG4 HB hc1 hc2 hc3 hc4 hc5 hQw
           have hl4 := Az.mk (show ((out_1 ++ [0]).take (q_1.toNat + 1) ++ out_1.drop q_1.toNat).length = out_1.length + 1 from by rw [List.length_append, List.length_take, List.length_drop, List.length_append]; have := hq0.out; have := hq1.out; simp; omega)
           obtain ⟨hx4, hf4, zn4, fin4⟩ := srt_at HO4.out HB4.out hq0.out (show q_1 < (((out_1 ++ [0]).take (q_1.toNat + 1) ++ out_1.drop q_1.toNat).length : Int) from by rw [hl4.out]; have := hq1.out; omega)
           have zq0 := eq_true hq0.out
           have zq1 := eq_true zn4
           have zq2 : (q_1 < (out_1.length : Int) + 1) = True := eq_true (by have := hq1.out; omega)
           clear zn4
           go_wp2
           all_goals (go_roundg k2; (case measure => have := HK1.out; have := HK2.out; omega); (case rel => (have E := fin4.out _ X (by first | exact ⟨_, rfl⟩ | exact Drawn0.refl _); have ep := srt_put (out := out_1) (q := q_1.toNat) (X := X) (by have := hq0.out; have := hq1.out; omega); rw [ep] at E; have el : out_1.length + 1 = (out_1.take q_1.toNat ++ (X :: out_1.drop q_1.toNat)).length := (by rw [List.length_append, List.length_cons, List.length_take, List.length_drop]; have := hq0.out; have := hq1.out; omega); exact ⟨out_1.take q_1.toNat ++ (X :: out_1.drop q_1.toNat), _, _, c2, (by rw [el]), rfl, H', ⟨by have := HK1.out; have := HK2.out; omega⟩, ⟨(by rw [← el]; exact E.1)⟩, ⟨E.2⟩⟩)))
         ·rw [if_neg d2] at H
          exact absurd H (by simp)
        ·rw [if_neg d1] at H
         exact absurd H (by simp)
       ·rw [if_neg d0] at H
        exact absurd H (by simp)
    ·rw [if_neg b0] at H
     exact absurd H (by simp)
   ·rw [if_neg b1] at H
    have b1b : decide (i_1 < (l0.length : Int)) = false := decide_eq_false b1
    clear b1
    obtain rfl := Option.some.inj H
    go_wp2
    go_ret
    exact ⟨_, rfl, by first | exact HO.out | exact Kd.R_drewN HO.out _, by first | exact HB.out | exact pbN HB.out _⟩

end Go.Proofs.Ytolmicnapemljaa.P
