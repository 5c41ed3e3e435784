-- By this session's driver (wip/tools/mk.py) of the kit's print program, over several statements at once. Not trusted: Lean checks it.
import Derived.Test.YtjmgbaphlhimhaaVPx0
import Derived.Test.YtjmgbaphlhimhaaVPx19
import Derived.Test.YtjmgbaphlhimhaaVPx20
import Derived.Test.YtjmgbaphlhimhaaVPx21
namespace Go.Proofs.Ytjmgbaphlhimhaa.P
open Go.RowKit Go.Proofs.YtjmgbaphlhimhaaW.PrintWords Go.Proofs.YtjmgbaphlhimhaaW.PrintLast Go.Proofs.YtjmgbaphlhimhaaW.PrintMore
attribute [local go_sem] max2_int min2_int max_two min_two max_three min_three max_four min_four   -- for this text's walks alone
set_option linter.unusedVariables false
set_option linter.unusedSimpArgs false
theorem bw_27 {n : Nat} {v v' : World} (h : Below n v v' := by repeat (first | (with_reducible first | exact HB.out | apply bwA | apply pbN | apply bwD | refine bwS ?_ GE401.out | refine bwS ?_ GE406.out | refine bwS ?_ GE415.out | refine bwS ?_ GE420.out) | exact HB.out)) : Below n v v' := h
theorem ln_27 {P : Prop} (h : P := by (try simp only [List.map_toArray, List.map_cons, List.map_nil]); first | done | rfl | (simp only [List.length_drop, List.length_take]; rfl)) : P := h

/-! ### spec_CrossOf: function 15 -/
def spec_CrossOf.j0 : Nat → Int → Int → Bool → Int → Int → Int → Int → Option (Int)
 | 0, _, _, _, _, _, _, _ => none
 | k + 1, x6, x9, x28, x402000, x402001, x407000, x407001 => if x28 = true then (some (-1)) else (if x6 = 0 then (some 0) else (if x9 = 0 then (some 0) else ((spec_CrossNumber.f k x402000 x402001 x407000 x407001).bind fun t407 => (some (wrap64 ((wrap64 (x6 * x9)) * t407))))))
def spec_CrossOf.f (k : Nat) (l0 : List Int) (l1 : List Int) : Option (Int) := (spec_SlopeOfCurve.f k l0).bind fun bt397 => ((spec_SlopeOfCurve.f k l1).bind fun bt402 => (if bt397.2.2.2 = true then (spec_CrossOf.j0 k bt397.2.2.1 bt402.2.2.1 (!bt402.2.2.2) bt397.1 bt397.2.1 bt402.1 bt402.2.1) else (spec_CrossOf.j0 k bt397.2.2.1 bt402.2.2.1 true bt397.1 bt397.2.1 bt402.1 bt402.2.1)))
theorem spec_CrossOf.mono_l : ∀ k, (∀ y0 y1 y2 y3 y4 y5 y6, LeO (spec_CrossOf.j0 k y0 y1 y2 y3 y4 y5 y6) (spec_CrossOf.j0 (k + 1) y0 y1 y2 y3 y4 y5 y6))
 | 0 => fun _ _ _ _ _ _ _ r h => by simp [spec_CrossOf.j0] at h
 | k + 1 => by
  have ih0 := spec_CrossOf.mono_l k
  ·intro y0 y1 y2 y3 y4 y5 y6
   unfold spec_CrossOf.j0
   repeat' first
   | (with_reducible exact ih0 _ _ _ _ _ _ _)
   | (with_reducible exact spec_CrossNumber.mono _ _ _ _ _)
   | (with_reducible exact spec_SlopeOfCurve.mono _ _)
   | (with_reducible exact LeO.refl _)
   | (with_reducible exact LeO.none _)
   | (with_reducible refine LeO.ite ?_ ?_)
   | (with_reducible refine LeO.bind ?_ (fun _ => ?_))
   | exact ih0 _ _ _ _ _ _ _
   | exact spec_CrossNumber.mono _ _ _ _ _
   | exact spec_SlopeOfCurve.mono _ _
   | exact LeO.none _
   | refine LeO.ite ?_ ?_
   | refine LeO.bind ?_ (fun _ => ?_)
theorem spec_CrossOf.mono : ∀ a0 a1 k, LeO (spec_CrossOf.f k a0 a1) (spec_CrossOf.f (k + 1) a0 a1) := by
 intro a0 a1 k
 have ih0 := spec_CrossOf.mono_l k
 unfold spec_CrossOf.f
 repeat' first
   | (with_reducible exact ih0 _ _ _ _ _ _ _)
   | (with_reducible exact spec_CrossNumber.mono _ _ _ _ _)
   | (with_reducible exact spec_SlopeOfCurve.mono _ _)
   | (with_reducible exact LeO.refl _)
   | (with_reducible exact LeO.none _)
   | (with_reducible refine LeO.ite ?_ ?_)
   | (with_reducible refine LeO.bind ?_ (fun _ => ?_))
   | exact ih0 _ _ _ _ _ _ _
   | exact spec_CrossNumber.mono _ _ _ _ _
   | exact spec_SlopeOfCurve.mono _ _
   | exact LeO.none _
   | refine LeO.ite ?_ ?_
   | refine LeO.bind ?_ (fun _ => ?_)
set_option maxHeartbeats 8000000 in
set_option maxRecDepth 100000 in
theorem spec_CrossOf.calls (k : Nat) (A0 : Option Addr) (c0 : Nat) (l0 : List Int) (A1 : Option Addr) (c1 : Nat) (l1 : List Int) (r : Int) (w : World) (hr0 : Kd.C (Kd.int .i64) w A0 l0.length l0) (hc0 : l0.length ≤ c0) (hr1 : Kd.C (Kd.int .i64) w A1 l1.length l1) (hc1 : l1.length ≤ c1) (h : spec_CrossOf.f k l0 l1 = some r) :
  Calls Try.prog 15 #[.slice A0 l0.length c0, .slice A1 l1.length c1] w fun e w' => e = .returned (.int .i64 r) ∧ Below w.heap.size w w' := by
 have hu24 := Try.underlying24
 have HR0 := Az.mk hr0
 have HC0 := Az.mk hc0
 clear hr0 hc0
 have HR1 := Az.mk hr1
 have HC1 := Az.mk hc1
 clear hr1 hc1
 have HB := Az.mk (Below.refl w.heap.size w)
 have H : ((spec_SlopeOfCurve.f k l0).bind fun bt397 => ((spec_SlopeOfCurve.f k l1).bind fun bt402 => (if bt397.2.2.2 = true then (spec_CrossOf.j0 k bt397.2.2.1 bt402.2.2.1 (!bt402.2.2.2) bt397.1 bt397.2.1 bt402.1 bt402.2.1) else (spec_CrossOf.j0 k bt397.2.2.1 bt402.2.2.1 true bt397.1 bt397.2.1 bt402.1 bt402.2.1)))) = some r := h
 clear h
 replace H := Option.bind_eq_some_iff.mp H
 obtain ⟨⟨t397, t398, t399, t400⟩, A30, H⟩ := H
 try dsimp only at H
 have A3 := Az.mk A30
 clear A30
 replace H := Option.bind_eq_some_iff.mp H
 obtain ⟨⟨t402, t403, t404, t405⟩, A40, H⟩ := H
 try dsimp only at H
 have A4 := Az.mk A40
 clear A40
 have HC5 := Az.mk H
 clear H
 go_enter Try.func15, Try.ntmps15
 go_upto_region 3 with (first | ((with_reducible refine gtC (f := 8) rfl ?_); refine goesL_ (some 13) rfl rfl Try.func8 (by kernel_rfl) rfl #[.slice A0 l0.length c0] rfl ln_27 ?_; (with_reducible refine (spec_SlopeOfCurve.calls k _ _ l0 t397 t398 t399 t400 _ ?side1 ?side2 A3.out).mono ?_); (case side1 => repeat (first | exact HR0.out | (with_reducible refine Kd.C_alloc ?_ _) | (with_reducible refine Kd.C_drewN ?_ _) | (with_reducible refine Kd.C_drew ?_))); (case side2 => exact HC0.out); rintro e w6 ⟨rfl, hb⟩; refine ⟨_, rfl, ?_⟩; have n0_ := Az.mk (bwT bw_27 hb); clear HB; have HB := n0_; clear n0_; (try clear hb); (try clear hb2); (try clear hk); (try clear hi)) | ((with_reducible refine gtD (N := 5) rfl ?_); refine bxE ?hg (N := 5) ?hd (cs := #[.int .i64 0, .int .i64 0]) (t := 24) ?hr ?_; (case hd => rfl); (case hg => rfl); (case hr => first | (go_simp; done) | (go_simp; rfl)); intro gb401 hg w7 hbox hb; have n0_ := Az.mk (bwT bw_27 hb); have n1_ := Az.mk (hbox); have n2_ := Az.mk ((by rw [hg]; exact (bwZ bw_27) : w.heap.size ≤ gb401)); have n3_ := n2_; clear HB; have HB := n0_; have BK401 := n1_; have GW401 := n2_; have GE401 := n3_; clear n0_ n1_ n2_ n3_; clear hb hbox hg; have hcz8_0 : w7.cell? ⟨gb401, 0, none⟩ = some (.int .i64 0) := (bkC BK401.out 0).trans rfl; have hcz8_1 : w7.cell? ⟨gb401, 1, none⟩ = some (.int .i64 0) := (bkC BK401.out 1).trans rfl; have hfz8_0 := bkF BK401.out 0; have hfz8_1 := bkF BK401.out 1) | ((with_reducible refine gtC (f := 8) rfl ?_); refine goesL_ (some 19) rfl rfl Try.func8 (by kernel_rfl) rfl #[.slice A1 l1.length c1] rfl ln_27 ?_; (with_reducible refine (spec_SlopeOfCurve.calls k _ _ l1 t402 t403 t404 t405 _ ?side1 ?side2 A4.out).mono ?_); (case side1 => exact Kd.C_below HR1.out bw_27); (case side2 => exact HC1.out); rintro e w9 ⟨rfl, hb⟩; refine ⟨_, rfl, ?_⟩; have n0_ := Az.mk (bkB (g := gb401) (o := .cells #[.int .i64 t397, .int .i64 t398] 24 (0, 0)) (by (with_reducible repeat (first | refine bkN ?_ _ | refine bkD ?_ | refine bkA ?_ _)); refine bkp (cs := #[.int .i64 t397, .int .i64 0]) ?_ 1 _ rfl; (with_reducible repeat (first | refine bkN ?_ _ | refine bkD ?_ | refine bkA ?_ _)); refine bkp (cs := #[.int .i64 0, .int .i64 0]) ?_ 0 _ rfl; (with_reducible repeat (first | refine bkN ?_ _ | refine bkD ?_ | refine bkA ?_ _)); exact BK401.out) hb); have n1_ := Az.mk (bwT bw_27 hb); clear BK401; clear HB; have BK401 := n0_; have HB := n1_; clear n0_ n1_; (try clear hb); (try clear hb2); (try clear hk); (try clear hi)) | ((with_reducible refine gtD (N := 8) rfl ?_); refine bxE ?hg (N := 8) ?hd (cs := #[.int .i64 0, .int .i64 0]) (t := 24) ?hr ?_; (case hd => rfl); (case hg => rfl); (case hr => first | (go_simp; done) | (go_simp; rfl)); intro gb406 hg w10 hbox hb; have n0_ := Az.mk (bkB (g := gb401) (o := .cells #[.int .i64 t397, .int .i64 t398] 24 (0, 0)) (by (with_reducible repeat (first | refine bkN ?_ _ | refine bkD ?_ | refine bkA ?_ _)); exact BK401.out) hb); have n1_ := Az.mk (bwT bw_27 hb); have n2_ := Az.mk (hbox); have n3_ := Az.mk ((by rw [hg]; exact (bwZ bw_27) : w.heap.size ≤ gb406)); have n4_ := n3_; have n5_ := Az.mk ((by rw [hg]; exact Nat.ne_of_lt (blk_lt (g := gb401) (o := .cells #[.int .i64 t397, .int .i64 t398] 24 (0, 0)) (by (with_reducible repeat (first | refine bkN ?_ _ | refine bkD ?_ | refine bkA ?_ _)); exact BK401.out)) : gb401 ≠ gb406)); have n6_ := Az.mk ((by rw [hg]; exact Nat.ne_of_gt (blk_lt (g := gb401) (o := .cells #[.int .i64 t397, .int .i64 t398] 24 (0, 0)) (by (with_reducible repeat (first | refine bkN ?_ _ | refine bkD ?_ | refine bkA ?_ _)); exact BK401.out)) : gb406 ≠ gb401)); clear BK401; clear HB; have BK401 := n0_; have HB := n1_; have BK406 := n2_; have GW406 := n3_; have GE406 := n4_; have NB401_406 := n5_; have NB406_401 := n6_; clear n0_ n1_ n2_ n3_ n4_ n5_ n6_; clear hb hbox hg; have hnb11 := NB406_401.out; have hnc11 := NB401_406.out; have hcz12_0 : w10.cell? ⟨gb406, 0, none⟩ = some (.int .i64 0) := (bkC BK406.out 0).trans rfl; have hcz12_1 : w10.cell? ⟨gb406, 1, none⟩ = some (.int .i64 0) := (bkC BK406.out 1).trans rfl; have hfz12_0 := bkF BK406.out 0; have hfz12_1 := bkF BK406.out 1))
 (try simp only [Act.put, List.setIfInBounds_toArray, List.set_cons_zero, List.set_cons_succ])
 go_cut [28] (fun v28 wc => ∃ (kq : Nat) (x28_4 : Bool), v28 = .bool x28_4 ∧ Az (spec_CrossOf.j0 kq t399 t404 x28_4 t397 t398 t402 t403 = some r) ∧ Az (kq ≤ k) ∧ Az (wc.heap[gb401]? = some (.cells #[.int .i64 t397, .int .i64 t398] 24 (0, 0))) ∧ Az (wc.heap[gb406]? = some (.cells #[.int .i64 t402, .int .i64 t403] 24 (0, 0))) ∧ Az (Below w.heap.size w wc))
 case first =>
  have H := HC5.out
  clear HC5
  by_cases c13 : t400 = true
  ·subst c13
   have H1 : (spec_CrossOf.j0 k t399 t404 (!t405) t397 t398 t402 t403) = some r := by rw [if_pos rfl] at H; exact H
   clear H
   have H := H1
   clear H1
   have H' := Az.mk H
   clear H
   go_wp2
   go_meet
   case rel => exact ⟨_, (!t405), (by first | rfl | (simp; done) | (simp [*]; done)), H', ⟨by first | omega | exact Nat.le_refl _⟩, ⟨by (with_reducible repeat (first | refine bkN ?_ _ | refine bkD ?_ | refine bkA ?_ _)); refine bkf ?_ NB401_406.out _; (with_reducible repeat (first | refine bkN ?_ _ | refine bkD ?_ | refine bkA ?_ _)); refine bkf ?_ NB401_406.out _; (with_reducible repeat (first | refine bkN ?_ _ | refine bkD ?_ | refine bkA ?_ _)); exact BK401.out⟩, ⟨by (with_reducible repeat (first | refine bkN ?_ _ | refine bkD ?_ | refine bkA ?_ _)); refine bkp (cs := #[.int .i64 t402, .int .i64 0]) ?_ 1 _ rfl; (with_reducible repeat (first | refine bkN ?_ _ | refine bkD ?_ | refine bkA ?_ _)); refine bkp (cs := #[.int .i64 0, .int .i64 0]) ?_ 0 _ rfl; (with_reducible repeat (first | refine bkN ?_ _ | refine bkD ?_ | refine bkA ?_ _)); exact BK406.out⟩, ⟨by repeat (first | (with_reducible first | exact HB.out | apply bwA | apply pbN | apply bwD | refine bwS ?_ GE401.out | refine bwS ?_ GE406.out) | exact HB.out)⟩⟩
  replace c13 := Bool.eq_false_iff.mpr c13
  subst c13
  have H1 : (spec_CrossOf.j0 k t399 t404 true t397 t398 t402 t403) = some r := by rw [if_neg (show ¬ (false = true) by decide)] at H; exact H
  clear H
  have H := H1
  clear H1
  have H' := Az.mk H
  clear H
  go_wp2
  go_meet
  case rel => exact ⟨_, (true), (by first | rfl | (simp; done) | (simp [*]; done)), H', ⟨by first | omega | exact Nat.le_refl _⟩, ⟨by (with_reducible repeat (first | refine bkN ?_ _ | refine bkD ?_ | refine bkA ?_ _)); refine bkf ?_ NB401_406.out _; (with_reducible repeat (first | refine bkN ?_ _ | refine bkD ?_ | refine bkA ?_ _)); refine bkf ?_ NB401_406.out _; (with_reducible repeat (first | refine bkN ?_ _ | refine bkD ?_ | refine bkA ?_ _)); exact BK401.out⟩, ⟨by (with_reducible repeat (first | refine bkN ?_ _ | refine bkD ?_ | refine bkA ?_ _)); refine bkp (cs := #[.int .i64 t402, .int .i64 0]) ?_ 1 _ rfl; (with_reducible repeat (first | refine bkN ?_ _ | refine bkD ?_ | refine bkA ?_ _)); refine bkp (cs := #[.int .i64 0, .int .i64 0]) ?_ 0 _ rfl; (with_reducible repeat (first | refine bkN ?_ _ | refine bkD ?_ | refine bkA ?_ _)); exact BK406.out⟩, ⟨by repeat (first | (with_reducible first | exact HB.out | apply bwA | apply pbN | apply bwD | refine bwS ?_ GE401.out | refine bwS ?_ GE406.out) | exact HB.out)⟩⟩
 case rest =>
  clear HC5
  try clear c1
  try clear p2
  try clear c8
  try clear c11
  try clear c13
  try clear hcz12_0
  try clear hcz12_1
  try clear hcz8_0
  try clear hcz8_1
  try clear hfz12_0
  try clear hfz12_1
  try clear hfz8_0
  try clear hfz8_1
  obtain ⟨kq, x28_4, rfl, HA, HJ4, BK401, BK406, HB⟩ := hcut
  cases kq with
  | zero => exact absurd HA.out (by simp [spec_CrossOf.j0])
  | succ kj4 =>
   have H := HA.out
   clear HA
   simp only [spec_CrossOf.j0] at H
   by_cases c14 : x28_4 = true
   ·subst c14
    have H1 : (some (-1)) = some r := by rw [if_pos rfl] at H; exact H
    clear H
    have H := H1
    clear H1
    obtain rfl := Option.some.inj H
    go_wp2
    go_ret
    exact ⟨by first | rfl | (simp [eWn, eWs] <;> rfl) | (simp [*, eWn, eWs] <;> rfl), bw_27⟩
   replace c14 := Bool.eq_false_iff.mpr c14
   subst c14
   have H1 : (if t399 = 0 then (some 0) else (if t404 = 0 then (some 0) else ((spec_CrossNumber.f kj4 t397 t398 t402 t403).bind fun t407 => (some (wrap64 ((wrap64 (t399 * t404)) * t407)))))) = some r := by rw [if_neg (show ¬ (false = true) by decide)] at H; exact H
   clear H
   have H := H1
   clear H1
   by_cases c15 : t399 = 0
   ·rw [if_pos c15] at H
    have c15b0 : (t399 == 0) = true := beq_iff_eq.mpr c15
    have c15b1 : (t399 != 0) = false := bne_eq_false_iff_eq.mpr c15
    clear c15
    obtain rfl := Option.some.inj H
    go_wp2
    go_ret
    exact ⟨by first | rfl | (simp [eWn, eWs] <;> rfl) | (simp [*, eWn, eWs] <;> rfl), bw_27⟩
   rw [if_neg c15] at H
   have c15b0 : (t399 == 0) = false := beq_eq_false_iff_ne.mpr c15
   have c15b1 : (t399 != 0) = true := bne_iff_ne.mpr c15
   by_cases c16 : t404 = 0
   ·rw [if_pos c16] at H
    have c16b0 : (t404 == 0) = true := beq_iff_eq.mpr c16
    have c16b1 : (t404 != 0) = false := bne_eq_false_iff_eq.mpr c16
    clear c16
    obtain rfl := Option.some.inj H
    go_wp2
    go_ret
    exact ⟨by first | rfl | (simp [eWn, eWs] <;> rfl) | (simp [*, eWn, eWs] <;> rfl), bw_27⟩
   rw [if_neg c16] at H
   have c16b0 : (t404 == 0) = false := beq_eq_false_iff_ne.mpr c16
   have c16b1 : (t404 != 0) = true := bne_iff_ne.mpr c16
   replace H := Option.bind_eq_some_iff.mp H
   obtain ⟨t407, A170, H⟩ := H
   try dsimp only at H
   have A17 := Az.mk A170
   clear A170
   obtain rfl := Option.some.inj H
   have hnb18 := NB401_406.out
   have hnc18 := NB406_401.out
   have hcz19_0 : wc.cell? ⟨gb401, 0, none⟩ = some (.int .i64 t397) := (bkC BK401.out 0).trans rfl
   have hcz19_1 : wc.cell? ⟨gb401, 1, none⟩ = some (.int .i64 t398) := (bkC BK401.out 1).trans rfl
   have hfz19_0 := bkF BK401.out 0
   have hfz19_1 := bkF BK401.out 1
   have hcz20_0 : wc.cell? ⟨gb406, 0, none⟩ = some (.int .i64 t402) := (bkC BK406.out 0).trans rfl
   have hcz20_1 : wc.cell? ⟨gb406, 1, none⟩ = some (.int .i64 t403) := (bkC BK406.out 1).trans rfl
   have hfz20_0 := bkF BK406.out 0
   have hfz20_1 := bkF BK406.out 1
   go_wp2_with (first | ((with_reducible refine gtC (f := 47) rfl ?_); refine goesL_ (some 40) rfl rfl Try.func47 (by kernel_rfl) rfl #[.agg #[.int .i64 t397, .int .i64 t398], .agg #[.int .i64 t402, .int .i64 t403]] rfl ln_27 ?_; (with_reducible refine (spec_CrossNumber.calls kj4 t397 t398 t402 t403 t407 _ A17.out).mono ?_); rintro e w21 ⟨rfl, hb⟩; refine ⟨_, rfl, ?_⟩; have n0_ := Az.mk (bkB (g := gb401) (o := .cells #[.int .i64 t397, .int .i64 t398] 24 (0, 0)) (by (with_reducible repeat (first | refine bkN ?_ _ | refine bkD ?_ | refine bkA ?_ _)); exact BK401.out) hb); have n1_ := Az.mk (bkB (g := gb406) (o := .cells #[.int .i64 t402, .int .i64 t403] 24 (0, 0)) (by (with_reducible repeat (first | refine bkN ?_ _ | refine bkD ?_ | refine bkA ?_ _)); exact BK406.out) hb); have n2_ := Az.mk (bwT bw_27 hb); clear BK401; clear BK406; clear HB; have BK401 := n0_; have BK406 := n1_; have HB := n2_; clear n0_ n1_ n2_; (try clear hb); (try clear hb2); (try clear hk); (try clear hi)))
   go_ret
   exact ⟨by first | rfl | (simp [eWn, eWs] <;> rfl) | (simp [*, eWn, eWs] <;> rfl), bw_27⟩

/-! ### impl_CrossOf: function 16 -/
def impl_CrossOf.j0 : Nat → Int → Int → Bool → Int → Int → Int → Int → Option (Int)
 | 0, _, _, _, _, _, _, _ => none
 | k + 1, x6, x9, x23, x416000, x416001, x421000, x421001 => if x23 = true then (some (-1)) else (if x6 = 0 then (some 0) else (if x9 = 0 then (some 0) else ((impl_cross.f x416000 x416001 x421000 x421001).bind fun t421 => (some (wrap64 ((wrap64 (t421 * x6)) * x9))))))
def impl_CrossOf.f (k : Nat) (l0 : List Int) (l1 : List Int) : Option (Int) := (impl_SlopeOfCurve.f k l0).bind fun bt411 => ((impl_SlopeOfCurve.f k l1).bind fun bt416 => (if bt411.2.2.2 = true then (impl_CrossOf.j0 k bt411.2.2.1 bt416.2.2.1 (!bt416.2.2.2) bt411.1 bt411.2.1 bt416.1 bt416.2.1) else (impl_CrossOf.j0 k bt411.2.2.1 bt416.2.2.1 true bt411.1 bt411.2.1 bt416.1 bt416.2.1)))
theorem impl_CrossOf.mono_l : ∀ k, (∀ y0 y1 y2 y3 y4 y5 y6, LeO (impl_CrossOf.j0 k y0 y1 y2 y3 y4 y5 y6) (impl_CrossOf.j0 (k + 1) y0 y1 y2 y3 y4 y5 y6))
 | 0 => fun _ _ _ _ _ _ _ r h => by simp [impl_CrossOf.j0] at h
 | k + 1 => by
  have ih0 := impl_CrossOf.mono_l k
  ·intro y0 y1 y2 y3 y4 y5 y6
   unfold impl_CrossOf.j0
   repeat' first
   | (with_reducible exact ih0 _ _ _ _ _ _ _)
   | (with_reducible exact impl_SlopeOfCurve.mono _ _)
   | (with_reducible exact LeO.refl _)
   | (with_reducible exact LeO.none _)
   | (with_reducible refine LeO.ite ?_ ?_)
   | (with_reducible refine LeO.bind ?_ (fun _ => ?_))
   | exact ih0 _ _ _ _ _ _ _
   | exact impl_SlopeOfCurve.mono _ _
   | exact LeO.none _
   | refine LeO.ite ?_ ?_
   | refine LeO.bind ?_ (fun _ => ?_)
theorem impl_CrossOf.mono : ∀ a0 a1 k, LeO (impl_CrossOf.f k a0 a1) (impl_CrossOf.f (k + 1) a0 a1) := by
 intro a0 a1 k
 have ih0 := impl_CrossOf.mono_l k
 unfold impl_CrossOf.f
 repeat' first
   | (with_reducible exact ih0 _ _ _ _ _ _ _)
   | (with_reducible exact impl_SlopeOfCurve.mono _ _)
   | (with_reducible exact LeO.refl _)
   | (with_reducible exact LeO.none _)
   | (with_reducible refine LeO.ite ?_ ?_)
   | (with_reducible refine LeO.bind ?_ (fun _ => ?_))
   | exact ih0 _ _ _ _ _ _ _
   | exact impl_SlopeOfCurve.mono _ _
   | exact LeO.none _
   | refine LeO.ite ?_ ?_
   | refine LeO.bind ?_ (fun _ => ?_)
set_option maxHeartbeats 8000000 in
set_option maxRecDepth 100000 in
theorem impl_CrossOf.calls (k : Nat) (A0 : Option Addr) (c0 : Nat) (l0 : List Int) (A1 : Option Addr) (c1 : Nat) (l1 : List Int) (r : Int) (w : World) (hr0 : Kd.C (Kd.int .i64) w A0 l0.length l0) (hc0 : l0.length ≤ c0) (hr1 : Kd.C (Kd.int .i64) w A1 l1.length l1) (hc1 : l1.length ≤ c1) (h : impl_CrossOf.f k l0 l1 = some r) :
  Calls Try.prog 16 #[.slice A0 l0.length c0, .slice A1 l1.length c1] w fun e w' => e = .returned (.int .i64 r) ∧ Below w.heap.size w w' := by
 have hu24 := Try.underlying24
 have HR0 := Az.mk hr0
 have HC0 := Az.mk hc0
 clear hr0 hc0
 have HR1 := Az.mk hr1
 have HC1 := Az.mk hc1
 clear hr1 hc1
 have HB := Az.mk (Below.refl w.heap.size w)
 have H : ((impl_SlopeOfCurve.f k l0).bind fun bt411 => ((impl_SlopeOfCurve.f k l1).bind fun bt416 => (if bt411.2.2.2 = true then (impl_CrossOf.j0 k bt411.2.2.1 bt416.2.2.1 (!bt416.2.2.2) bt411.1 bt411.2.1 bt416.1 bt416.2.1) else (impl_CrossOf.j0 k bt411.2.2.1 bt416.2.2.1 true bt411.1 bt411.2.1 bt416.1 bt416.2.1)))) = some r := h
 clear h
 replace H := Option.bind_eq_some_iff.mp H
 obtain ⟨⟨t411, t412, t413, t414⟩, A30, H⟩ := H
 try dsimp only at H
 have A3 := Az.mk A30
 clear A30
 replace H := Option.bind_eq_some_iff.mp H
 obtain ⟨⟨t416, t417, t418, t419⟩, A40, H⟩ := H
 try dsimp only at H
 have A4 := Az.mk A40
 clear A40
 have HC5 := Az.mk H
 clear H
 go_enter Try.func16, Try.ntmps16
 go_upto_region 3 with (first | ((with_reducible refine gtC (f := 10) rfl ?_); refine goesL_ (some 13) rfl rfl Try.func10 (by kernel_rfl) rfl #[.slice A0 l0.length c0] rfl ln_27 ?_; (with_reducible refine (impl_SlopeOfCurve.calls k _ _ l0 t411 t412 t413 t414 _ ?side1 ?side2 A3.out).mono ?_); (case side1 => repeat (first | exact HR0.out | (with_reducible refine Kd.C_alloc ?_ _) | (with_reducible refine Kd.C_drewN ?_ _) | (with_reducible refine Kd.C_drew ?_))); (case side2 => exact HC0.out); rintro e w6 ⟨rfl, hb⟩; refine ⟨_, rfl, ?_⟩; have n0_ := Az.mk (bwT bw_27 hb); clear HB; have HB := n0_; clear n0_; (try clear hb); (try clear hb2); (try clear hk); (try clear hi)) | ((with_reducible refine gtD (N := 5) rfl ?_); refine bxE ?hg (N := 5) ?hd (cs := #[.int .i64 0, .int .i64 0]) (t := 24) ?hr ?_; (case hd => rfl); (case hg => rfl); (case hr => first | (go_simp; done) | (go_simp; rfl)); intro gb415 hg w7 hbox hb; have n0_ := Az.mk (bwT bw_27 hb); have n1_ := Az.mk (hbox); have n2_ := Az.mk ((by rw [hg]; exact (bwZ bw_27) : w.heap.size ≤ gb415)); have n3_ := n2_; clear HB; have HB := n0_; have BK415 := n1_; have GW415 := n2_; have GE415 := n3_; clear n0_ n1_ n2_ n3_; clear hb hbox hg; have hcz8_0 : w7.cell? ⟨gb415, 0, none⟩ = some (.int .i64 0) := (bkC BK415.out 0).trans rfl; have hcz8_1 : w7.cell? ⟨gb415, 1, none⟩ = some (.int .i64 0) := (bkC BK415.out 1).trans rfl; have hfz8_0 := bkF BK415.out 0; have hfz8_1 := bkF BK415.out 1) | ((with_reducible refine gtC (f := 10) rfl ?_); refine goesL_ (some 19) rfl rfl Try.func10 (by kernel_rfl) rfl #[.slice A1 l1.length c1] rfl ln_27 ?_; (with_reducible refine (impl_SlopeOfCurve.calls k _ _ l1 t416 t417 t418 t419 _ ?side1 ?side2 A4.out).mono ?_); (case side1 => exact Kd.C_below HR1.out bw_27); (case side2 => exact HC1.out); rintro e w9 ⟨rfl, hb⟩; refine ⟨_, rfl, ?_⟩; have n0_ := Az.mk (bkB (g := gb415) (o := .cells #[.int .i64 t411, .int .i64 t412] 24 (0, 0)) (by (with_reducible repeat (first | refine bkN ?_ _ | refine bkD ?_ | refine bkA ?_ _)); refine bkp (cs := #[.int .i64 t411, .int .i64 0]) ?_ 1 _ rfl; (with_reducible repeat (first | refine bkN ?_ _ | refine bkD ?_ | refine bkA ?_ _)); refine bkp (cs := #[.int .i64 0, .int .i64 0]) ?_ 0 _ rfl; (with_reducible repeat (first | refine bkN ?_ _ | refine bkD ?_ | refine bkA ?_ _)); exact BK415.out) hb); have n1_ := Az.mk (bwT bw_27 hb); clear BK415; clear HB; have BK415 := n0_; have HB := n1_; clear n0_ n1_; (try clear hb); (try clear hb2); (try clear hk); (try clear hi)) | ((with_reducible refine gtD (N := 8) rfl ?_); refine bxE ?hg (N := 8) ?hd (cs := #[.int .i64 0, .int .i64 0]) (t := 24) ?hr ?_; (case hd => rfl); (case hg => rfl); (case hr => first | (go_simp; done) | (go_simp; rfl)); intro gb420 hg w10 hbox hb; have n0_ := Az.mk (bkB (g := gb415) (o := .cells #[.int .i64 t411, .int .i64 t412] 24 (0, 0)) (by (with_reducible repeat (first | refine bkN ?_ _ | refine bkD ?_ | refine bkA ?_ _)); exact BK415.out) hb); have n1_ := Az.mk (bwT bw_27 hb); have n2_ := Az.mk (hbox); have n3_ := Az.mk ((by rw [hg]; exact (bwZ bw_27) : w.heap.size ≤ gb420)); have n4_ := n3_; have n5_ := Az.mk ((by rw [hg]; exact Nat.ne_of_lt (blk_lt (g := gb415) (o := .cells #[.int .i64 t411, .int .i64 t412] 24 (0, 0)) (by (with_reducible repeat (first | refine bkN ?_ _ | refine bkD ?_ | refine bkA ?_ _)); exact BK415.out)) : gb415 ≠ gb420)); have n6_ := Az.mk ((by rw [hg]; exact Nat.ne_of_gt (blk_lt (g := gb415) (o := .cells #[.int .i64 t411, .int .i64 t412] 24 (0, 0)) (by (with_reducible repeat (first | refine bkN ?_ _ | refine bkD ?_ | refine bkA ?_ _)); exact BK415.out)) : gb420 ≠ gb415)); clear BK415; clear HB; have BK415 := n0_; have HB := n1_; have BK420 := n2_; have GW420 := n3_; have GE420 := n4_; have NB415_420 := n5_; have NB420_415 := n6_; clear n0_ n1_ n2_ n3_ n4_ n5_ n6_; clear hb hbox hg; have hnb11 := NB420_415.out; have hnc11 := NB415_420.out; have hcz12_0 : w10.cell? ⟨gb420, 0, none⟩ = some (.int .i64 0) := (bkC BK420.out 0).trans rfl; have hcz12_1 : w10.cell? ⟨gb420, 1, none⟩ = some (.int .i64 0) := (bkC BK420.out 1).trans rfl; have hfz12_0 := bkF BK420.out 0; have hfz12_1 := bkF BK420.out 1))
 (try simp only [Act.put, List.setIfInBounds_toArray, List.set_cons_zero, List.set_cons_succ])
 go_cut [23] (fun v23 wc => ∃ (kq : Nat) (x23_4 : Bool), v23 = .bool x23_4 ∧ Az (impl_CrossOf.j0 kq t413 t418 x23_4 t411 t412 t416 t417 = some r) ∧ Az (kq ≤ k) ∧ Az (wc.heap[gb415]? = some (.cells #[.int .i64 t411, .int .i64 t412] 24 (0, 0))) ∧ Az (wc.heap[gb420]? = some (.cells #[.int .i64 t416, .int .i64 t417] 24 (0, 0))) ∧ Az (Below w.heap.size w wc))
 case first =>
  have H := HC5.out
  clear HC5
  by_cases c13 : t414 = true
  ·subst c13
   have H1 : (impl_CrossOf.j0 k t413 t418 (!t419) t411 t412 t416 t417) = some r := by rw [if_pos rfl] at H; exact H
   clear H
   have H := H1
   clear H1
   have H' := Az.mk H
   clear H
   go_wp2
   go_meet
   case rel => exact ⟨_, (!t419), (by first | rfl | (simp; done) | (simp [*]; done)), H', ⟨by first | omega | exact Nat.le_refl _⟩, ⟨by (with_reducible repeat (first | refine bkN ?_ _ | refine bkD ?_ | refine bkA ?_ _)); refine bkf ?_ NB415_420.out _; (with_reducible repeat (first | refine bkN ?_ _ | refine bkD ?_ | refine bkA ?_ _)); refine bkf ?_ NB415_420.out _; (with_reducible repeat (first | refine bkN ?_ _ | refine bkD ?_ | refine bkA ?_ _)); exact BK415.out⟩, ⟨by (with_reducible repeat (first | refine bkN ?_ _ | refine bkD ?_ | refine bkA ?_ _)); refine bkp (cs := #[.int .i64 t416, .int .i64 0]) ?_ 1 _ rfl; (with_reducible repeat (first | refine bkN ?_ _ | refine bkD ?_ | refine bkA ?_ _)); refine bkp (cs := #[.int .i64 0, .int .i64 0]) ?_ 0 _ rfl; (with_reducible repeat (first | refine bkN ?_ _ | refine bkD ?_ | refine bkA ?_ _)); exact BK420.out⟩, ⟨by repeat (first | (with_reducible first | exact HB.out | apply bwA | apply pbN | apply bwD | refine bwS ?_ GE415.out | refine bwS ?_ GE420.out) | exact HB.out)⟩⟩
  replace c13 := Bool.eq_false_iff.mpr c13
  subst c13
  have H1 : (impl_CrossOf.j0 k t413 t418 true t411 t412 t416 t417) = some r := by rw [if_neg (show ¬ (false = true) by decide)] at H; exact H
  clear H
  have H := H1
  clear H1
  have H' := Az.mk H
  clear H
  go_wp2
  go_meet
  case rel => exact ⟨_, (true), (by first | rfl | (simp; done) | (simp [*]; done)), H', ⟨by first | omega | exact Nat.le_refl _⟩, ⟨by (with_reducible repeat (first | refine bkN ?_ _ | refine bkD ?_ | refine bkA ?_ _)); refine bkf ?_ NB415_420.out _; (with_reducible repeat (first | refine bkN ?_ _ | refine bkD ?_ | refine bkA ?_ _)); refine bkf ?_ NB415_420.out _; (with_reducible repeat (first | refine bkN ?_ _ | refine bkD ?_ | refine bkA ?_ _)); exact BK415.out⟩, ⟨by (with_reducible repeat (first | refine bkN ?_ _ | refine bkD ?_ | refine bkA ?_ _)); refine bkp (cs := #[.int .i64 t416, .int .i64 0]) ?_ 1 _ rfl; (with_reducible repeat (first | refine bkN ?_ _ | refine bkD ?_ | refine bkA ?_ _)); refine bkp (cs := #[.int .i64 0, .int .i64 0]) ?_ 0 _ rfl; (with_reducible repeat (first | refine bkN ?_ _ | refine bkD ?_ | refine bkA ?_ _)); exact BK420.out⟩, ⟨by repeat (first | (with_reducible first | exact HB.out | apply bwA | apply pbN | apply bwD | refine bwS ?_ GE415.out | refine bwS ?_ GE420.out) | exact HB.out)⟩⟩
 case rest =>
  clear HC5
  try clear c1
  try clear p2
  try clear c10
  try clear c11
  try clear c13
  try clear hcz12_0
  try clear hcz12_1
  try clear hcz8_0
  try clear hcz8_1
  try clear hfz12_0
  try clear hfz12_1
  try clear hfz8_0
  try clear hfz8_1
  obtain ⟨kq, x23_4, rfl, HA, HJ4, BK415, BK420, HB⟩ := hcut
  cases kq with
  | zero => exact absurd HA.out (by simp [impl_CrossOf.j0])
  | succ kj4 =>
   have H := HA.out
   clear HA
   simp only [impl_CrossOf.j0] at H
   by_cases c14 : x23_4 = true
   ·subst c14
    have H1 : (some (-1)) = some r := by rw [if_pos rfl] at H; exact H
    clear H
    have H := H1
    clear H1
    obtain rfl := Option.some.inj H
    go_wp2
    go_ret
    exact ⟨by first | rfl | (simp [eWn, eWs] <;> rfl) | (simp [*, eWn, eWs] <;> rfl), bw_27⟩
   replace c14 := Bool.eq_false_iff.mpr c14
   subst c14
   have H1 : (if t413 = 0 then (some 0) else (if t418 = 0 then (some 0) else ((impl_cross.f t411 t412 t416 t417).bind fun t421 => (some (wrap64 ((wrap64 (t421 * t413)) * t418)))))) = some r := by rw [if_neg (show ¬ (false = true) by decide)] at H; exact H
   clear H
   have H := H1
   clear H1
   by_cases c15 : t413 = 0
   ·rw [if_pos c15] at H
    have c15b0 : (t413 == 0) = true := beq_iff_eq.mpr c15
    have c15b1 : (t413 != 0) = false := bne_eq_false_iff_eq.mpr c15
    clear c15
    obtain rfl := Option.some.inj H
    go_wp2
    go_ret
    exact ⟨by first | rfl | (simp [eWn, eWs] <;> rfl) | (simp [*, eWn, eWs] <;> rfl), bw_27⟩
   rw [if_neg c15] at H
   have c15b0 : (t413 == 0) = false := beq_eq_false_iff_ne.mpr c15
   have c15b1 : (t413 != 0) = true := bne_iff_ne.mpr c15
   by_cases c16 : t418 = 0
   ·rw [if_pos c16] at H
    have c16b0 : (t418 == 0) = true := beq_iff_eq.mpr c16
    have c16b1 : (t418 != 0) = false := bne_eq_false_iff_eq.mpr c16
    clear c16
    obtain rfl := Option.some.inj H
    go_wp2
    go_ret
    exact ⟨by first | rfl | (simp [eWn, eWs] <;> rfl) | (simp [*, eWn, eWs] <;> rfl), bw_27⟩
   rw [if_neg c16] at H
   have c16b0 : (t418 == 0) = false := beq_eq_false_iff_ne.mpr c16
   have c16b1 : (t418 != 0) = true := bne_iff_ne.mpr c16
   replace H := Option.bind_eq_some_iff.mp H
   obtain ⟨t421, A170, H⟩ := H
   try dsimp only at H
   have A17 := Az.mk A170
   clear A170
   obtain rfl := Option.some.inj H
   have hnb18 := NB415_420.out
   have hnc18 := NB420_415.out
   have hcz19_0 : wc.cell? ⟨gb415, 0, none⟩ = some (.int .i64 t411) := (bkC BK415.out 0).trans rfl
   have hcz19_1 : wc.cell? ⟨gb415, 1, none⟩ = some (.int .i64 t412) := (bkC BK415.out 1).trans rfl
   have hfz19_0 := bkF BK415.out 0
   have hfz19_1 := bkF BK415.out 1
   have hcz20_0 : wc.cell? ⟨gb420, 0, none⟩ = some (.int .i64 t416) := (bkC BK420.out 0).trans rfl
   have hcz20_1 : wc.cell? ⟨gb420, 1, none⟩ = some (.int .i64 t417) := (bkC BK420.out 1).trans rfl
   have hfz20_0 := bkF BK420.out 0
   have hfz20_1 := bkF BK420.out 1
   go_wp2_with (first | ((with_reducible refine gtC (f := 48) rfl ?_); refine goesL_ (some 39) rfl rfl Try.func48 (by kernel_rfl) rfl #[.agg #[.int .i64 t411, .int .i64 t412], .agg #[.int .i64 t416, .int .i64 t417]] rfl ln_27 ?_; (with_reducible refine (impl_cross.calls t411 t412 t416 t417 t421 _ A17.out).mono ?_); rintro e w21 ⟨rfl, hb⟩; refine ⟨_, rfl, ?_⟩; have n0_ := Az.mk (bkB (g := gb415) (o := .cells #[.int .i64 t411, .int .i64 t412] 24 (0, 0)) (by (with_reducible repeat (first | refine bkN ?_ _ | refine bkD ?_ | refine bkA ?_ _)); exact BK415.out) hb); have n1_ := Az.mk (bkB (g := gb420) (o := .cells #[.int .i64 t416, .int .i64 t417] 24 (0, 0)) (by (with_reducible repeat (first | refine bkN ?_ _ | refine bkD ?_ | refine bkA ?_ _)); exact BK420.out) hb); have n2_ := Az.mk (bwT bw_27 hb); clear BK415; clear BK420; clear HB; have BK415 := n0_; have BK420 := n1_; have HB := n2_; clear n0_ n1_ n2_; (try clear hb); (try clear hb2); (try clear hk); (try clear hi)))
   go_ret
   exact ⟨by first | rfl | (simp [eWn, eWs] <;> rfl) | (simp [*, eWn, eWs] <;> rfl), bw_27⟩

end Go.Proofs.Ytjmgbaphlhimhaa.P
