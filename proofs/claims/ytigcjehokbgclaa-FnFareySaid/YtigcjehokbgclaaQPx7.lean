-- By this session's driver (wip/tools/mk.py) of the kit's print program, over several statements at once. Not trusted: Lean checks it.
import Derived.Test.YtigcjehokbgclaaQWZip
import Derived.Test.YtigcjehokbgclaaQPx0
import Derived.Test.YtigcjehokbgclaaQPx6
namespace Go.Proofs.Ytigcjehokbgclaa.P
open Go.RowKit Go.Proofs.YtigcjehokbgclaaW.PrintWords Go.Proofs.YtigcjehokbgclaaW.PrintLast Go.Proofs.YtigcjehokbgclaaW.PrintMore
attribute [local go_sem] max2_int min2_int max_two min_two max_three min_three max_four min_four   -- for this text's walks alone
set_option linter.unusedVariables false
set_option linter.unusedSimpArgs false
theorem bw_7 {n : Nat} {v v' : World} (h : Below n v v' := by repeat (first | (with_reducible first | exact HB.out | apply bwA | apply pbN | apply bwD | refine bwS ?_ GE214.out | refine bwS ?_ GE215.out | refine bwS ?_ GE220.out | refine bwS ?_ GE221.out | refine bwS ?_ GE224.out) | exact HB.out)) : Below n v v' := h
theorem ln_7 {P : Prop} (h : P := by (try simp only [List.map_toArray, List.map_cons, List.map_nil]); first | done | rfl | (simp only [List.length_drop, List.length_take]; rfl)) : P := h
open Option renaming bind_eq_some_iff → be

/-! ### spec_DrawSlopeDistance: function 5 -/
def spec_DrawSlopeDistance.f (k : Nat) (l0 : List Int) : Option (Int × Int × Int × Int) := (spec_l12Two.f k l0).bind fun bt216 => (some (bt216.1, bt216.2.1, bt216.2.2.1, bt216.2.2.2))
theorem spec_DrawSlopeDistance.mono : ∀ a0 k, LeO (spec_DrawSlopeDistance.f k a0) (spec_DrawSlopeDistance.f (k + 1) a0) := by
 intro a0 k
 unfold spec_DrawSlopeDistance.f
 exact mo_
instance spec_DrawSlopeDistance.mi {a0 k} : MoO (spec_DrawSlopeDistance.f k a0) (spec_DrawSlopeDistance.f (k + 1) a0) := ⟨spec_DrawSlopeDistance.mono _ _⟩
set_option maxHeartbeats 8000000 in
set_option maxRecDepth 100000 in
theorem spec_DrawSlopeDistance.calls (k : Nat) (A0 : Option Addr) (c0 : Nat) (l0 : List Int) (r1 : Int) (r2 : Int) (r3 : Int) (r4 : Int) (w : World) (hr0 : Kd.C (Kd.int .u8) w A0 l0.length l0) (hc0 : l0.length ≤ c0) (h : spec_DrawSlopeDistance.f k l0 = some (r1, r2, r3, r4)) :
  Calls Try.prog 5 #[.slice A0 l0.length c0] w fun e w' => e = .returned (.tuple #[.agg #[.int .i64 r1, .int .i64 r2], .agg #[.int .i64 r3, .int .i64 r4]]) ∧ Below w.heap.size w w' := by
 have hu25 := Try.underlying25
 have HR0 := Az.mk hr0
 have HC0 := Az.mk hc0
 clear hr0 hc0
 have HB := Az.mk (Below.refl w.heap.size w)
 have H : ((spec_l12Two.f k l0).bind fun bt216 => (some (bt216.1, bt216.2.1, bt216.2.2.1, bt216.2.2.2))) = some (r1, r2, r3, r4) := h
 clear h
 replace H := bez H
 obtain ⟨⟨t216, t217, t218, t219⟩, A2, H⟩ := H
 try dsimp only at H
 simp only [Option.some.injEq, Prod.mk.injEq] at H
 obtain ⟨rfl, rfl, rfl, rfl⟩ := H
 go_enter Try.func5, Try.ntmps5
 try go_wp2_with (first | ((with_reducible refine gtD (N := 2) rfl ?_); refine bx (N := 2) (cs := #[.int .i64 0, .int .i64 0]) (t := 25) ?_; intro gb214 hg w3 hbox hb; have BK214 := Az.mk (hbox); have GW214 := gwz hg bw_7; have GE214 := gwz hg bw_7; replace HB := Az.mk (bwT bw_7 hb); clear hb hbox hg) | ((with_reducible refine gtD (N := 3) rfl ?_); refine bx (N := 3) (cs := #[.int .i64 0, .int .i64 0]) (t := 25) ?_; intro gb215 hg w4 hbox hb; have BK215 := Az.mk (hbox); have GW215 := gwz hg bw_7; have GE215 := gwz hg bw_7; replace HB := Az.mk (bwT bw_7 hb); have NB214_215 := nlt BK214 hg; have NB215_214 := ngt BK214 hg; replace BK214 := bkz BK214 hb; clear hb hbox hg) | ((with_reducible refine gtC (f := 26) rfl ?_); refine clz Try.func26 (some 8) #[.slice A0 l0.length c0] ?_; (with_reducible refine (spec_l12Two.calls k _ _ l0 t216 t217 t218 t219 _ ?side1 ?side2 A2.out).mono ?_); (case side1 => repeat (first | exact (Kd.C_below HR0.out HB.out) | (with_reducible refine Kd.C_alloc ?_ _) | (with_reducible refine Kd.C_drewN ?_ _) | (with_reducible refine Kd.C_drew ?_))); (case side2 => exact HC0.out); rintro e w5 ⟨rfl, hb⟩; refine ⟨_, rfl, ?_⟩; replace BK214 := bkz BK214 hb; replace BK215 := bkz BK215 hb; replace HB := Az.mk (bwT bw_7 hb); (try clear hb)) | ((with_reducible refine gtD (N := 4) rfl ?_); refine bx (N := 4) (cs := #[.int .i64 0, .int .i64 0]) (t := 25) ?_; intro gb220 hg w6 hbox hb; have BK220 := Az.mk (hbox); have GW220 := gwz hg bw_7; have GE220 := gwz hg bw_7; replace HB := Az.mk (bwT bw_7 hb); have NB214_220 := nlt BK214 hg; have NB220_214 := ngt BK214 hg; replace BK214 := bkz BK214 hb; have NB215_220 := nlt BK215 hg; have NB220_215 := ngt BK215 hg; replace BK215 := bkz BK215 hb; clear hb hbox hg) | ((with_reducible refine gtD (N := 5) rfl ?_); refine bx (N := 5) (cs := #[.int .i64 0, .int .i64 0]) (t := 25) ?_; intro gb221 hg w7 hbox hb; have BK221 := Az.mk (hbox); have GW221 := gwz hg bw_7; have GE221 := gwz hg bw_7; replace HB := Az.mk (bwT bw_7 hb); have NB214_221 := nlt BK214 hg; have NB221_214 := ngt BK214 hg; replace BK214 := bkz BK214 hb; have NB215_221 := nlt BK215 hg; have NB221_215 := ngt BK215 hg; replace BK215 := bkz BK215 hb; have NB220_221 := nlt BK220 hg; have NB221_220 := ngt BK220 hg; replace BK220 := bkz BK220 hb; clear hb hbox hg; have hnb8 := NB220_214.out; have hnc8 := NB214_220.out; have hnb9 := NB220_215.out; have hnc9 := NB215_220.out; have hnb10 := NB220_221.out; have hnc10 := NB221_220.out; obtain ⟨hcz11_0, hcz11_1, hfz11_0, hfz11_1⟩ := bq2 BK220; have hnb12 := NB221_214.out; have hnc12 := NB214_221.out; have hnb13 := NB221_215.out; have hnc13 := NB215_221.out; obtain ⟨hcz14_0, hcz14_1, hfz14_0, hfz14_1⟩ := bq2 BK221))
 have n0_ : Az (((((w7.setCell ⟨gb220, 0, none⟩ (.int .i64 t216)).setCell ⟨gb220, 1, none⟩ (.int .i64 t217)).setCell ⟨gb221, 0, none⟩ (.int .i64 t218)).setCell ⟨gb221, 1, none⟩ (.int .i64 t219)).heap[gb214]? = some (.cells #[.int .i64 0, .int .i64 0] 25 (0, 0))) := ⟨bkv⟩
 have n1_ : Az (((((w7.setCell ⟨gb220, 0, none⟩ (.int .i64 t216)).setCell ⟨gb220, 1, none⟩ (.int .i64 t217)).setCell ⟨gb221, 0, none⟩ (.int .i64 t218)).setCell ⟨gb221, 1, none⟩ (.int .i64 t219)).heap[gb215]? = some (.cells #[.int .i64 0, .int .i64 0] 25 (0, 0))) := ⟨bkv⟩
 have n2_ : Az (((((w7.setCell ⟨gb220, 0, none⟩ (.int .i64 t216)).setCell ⟨gb220, 1, none⟩ (.int .i64 t217)).setCell ⟨gb221, 0, none⟩ (.int .i64 t218)).setCell ⟨gb221, 1, none⟩ (.int .i64 t219)).heap[gb220]? = some (.cells #[.int .i64 t216, .int .i64 t217] 25 (0, 0))) := ⟨bkv⟩
 have n3_ : Az (((((w7.setCell ⟨gb220, 0, none⟩ (.int .i64 t216)).setCell ⟨gb220, 1, none⟩ (.int .i64 t217)).setCell ⟨gb221, 0, none⟩ (.int .i64 t218)).setCell ⟨gb221, 1, none⟩ (.int .i64 t219)).heap[gb221]? = some (.cells #[.int .i64 t218, .int .i64 t219] 25 (0, 0))) := ⟨bkv⟩
 have n4_ : Az (Below w.heap.size w ((((w7.setCell ⟨gb220, 0, none⟩ (.int .i64 t216)).setCell ⟨gb220, 1, none⟩ (.int .i64 t217)).setCell ⟨gb221, 0, none⟩ (.int .i64 t218)).setCell ⟨gb221, 1, none⟩ (.int .i64 t219))) := ⟨bw_7⟩
 (try clear BK214)
 (try clear BK215)
 (try clear BK220)
 (try clear BK221)
 (try clear HB)
 generalize ((((w7.setCell ⟨gb220, 0, none⟩ (.int .i64 t216)).setCell ⟨gb220, 1, none⟩ (.int .i64 t217)).setCell ⟨gb221, 0, none⟩ (.int .i64 t218)).setCell ⟨gb221, 1, none⟩ (.int .i64 t219)) = w15 at n0_ n1_ n2_ n3_ n4_ ⊢
 have BK214 := n0_
 have BK215 := n1_
 have BK220 := n2_
 have BK221 := n3_
 have HB := n4_
 clear n0_ n1_ n2_ n3_ n4_
 replace BK214 := Az.mk (bkD BK214.out); replace BK215 := Az.mk (bkD BK215.out); replace BK220 := Az.mk (bkD BK220.out); replace BK221 := Az.mk (bkD BK221.out); replace HB := Az.mk (bwD HB.out)
 refine start_ (n := 4) (S := fun w' => w'.cell? ⟨gb220, 0, none⟩ = some (.int .i64 t216) ∧ w'.cell? ⟨gb220, 1, none⟩ = some (.int .i64 t217) ∧ w'.cell? ⟨gb221, 0, none⟩ = some (.int .i64 t218) ∧ w'.cell? ⟨gb221, 1, none⟩ = some (.int .i64 t219)) (ds := []) #[false, false, false, false] (by kernel_rfl) rfl rfl cs_ (fun hHeld => ?_)
 generalize w15.drew = w16 at BK214 BK215 BK220 BK221 HB hHeld ⊢
 refine take_ (i := 0) (N := some 11) (v := ?_) (a' := ?_) #[true, false, false, false] rfl rfl (by kernel_rfl) (fun _ _ _ h => h) (Or.inl ⟨by rfl, ?_⟩) hHeld ?_ ?_
 rotate_left
 ·rintro w' ⟨s0, s1, s2, s3⟩
  go_simp
  with_reducible rfl
 rotate_left
 ·exact acq
 refine take_ (i := 1) (N := some 12) (v := ?_) (a' := ?_) #[true, true, false, false] rfl rfl (by kernel_rfl) (fun _ _ _ h => h) (Or.inl ⟨by rfl, ?_⟩) hHeld ?_ ?_
 rotate_left
 ·rintro w' ⟨s0, s1, s2, s3⟩
  go_simp
  with_reducible rfl
 rotate_left
 ·exact acq
 refine one_ (i := 2) (N := none) #[true, true, true, false] rfl rfl (by kernel_rfl) (by decide) (fun K hK => ?_)
 have hs17 := bkc0 BK214
 have hfs17 := bkF BK214.out 0
 have hns17_1 := NB215_214.out
 have hns17_2 := NB220_214.out
 have hns17_3 := NB221_214.out
 have hms17_1 := NB214_215.out
 have hms17_2 := NB214_220.out
 have hms17_3 := NB214_221.out
 have hs18 := bkc1 BK214
 have hfs18 := bkF BK214.out 1
 have hns18_1 := NB215_214.out
 have hns18_2 := NB220_214.out
 have hns18_3 := NB221_214.out
 have hms18_1 := NB214_215.out
 have hms18_2 := NB214_220.out
 have hms18_3 := NB214_221.out
 refine skip_ (w1 := ?_) (by rfl) rfl ?_ ?_
 rotate_left
 ·go_simp
  rfl
 refine hK.out _ _ ⟨((cell_far (p := ⟨gb214, _, none⟩) NB220_214.out _).trans (((cell_far (p := ⟨gb214, _, none⟩) NB220_214.out _).trans (hHeld.1)))), ((cell_far (p := ⟨gb214, _, none⟩) NB220_214.out _).trans (((cell_far (p := ⟨gb214, _, none⟩) NB220_214.out _).trans (hHeld.2.1)))), ((cell_far (p := ⟨gb214, _, none⟩) NB221_214.out _).trans (((cell_far (p := ⟨gb214, _, none⟩) NB221_214.out _).trans (hHeld.2.2.1)))), ((cell_far (p := ⟨gb214, _, none⟩) NB221_214.out _).trans (((cell_far (p := ⟨gb214, _, none⟩) NB221_214.out _).trans (hHeld.2.2.2))))⟩ (fun hHeld => ?_)
 clear hK K
 refine one_ (i := 3) (N := none) #[true, true, true, true] rfl rfl (by kernel_rfl) (by decide) (fun K hK => ?_)
 have hs19 := bkc0 BK215
 have hfs19 := bkF BK215.out 0
 have hns19_0 := NB214_215.out
 have hns19_2 := NB220_215.out
 have hns19_3 := NB221_215.out
 have hms19_0 := NB215_214.out
 have hms19_2 := NB215_220.out
 have hms19_3 := NB215_221.out
 have hs20 := bkc1 BK215
 have hfs20 := bkF BK215.out 1
 have hns20_0 := NB214_215.out
 have hns20_2 := NB220_215.out
 have hns20_3 := NB221_215.out
 have hms20_0 := NB215_214.out
 have hms20_2 := NB215_220.out
 have hms20_3 := NB215_221.out
 refine skip_ (w1 := ?_) (by rfl) rfl ?_ ?_
 rotate_left
 ·go_simp
  rfl
 refine hK.out _ _ ⟨((cell_far (p := ⟨gb215, _, none⟩) NB220_215.out _).trans (((cell_far (p := ⟨gb215, _, none⟩) NB220_215.out _).trans (hHeld.1)))), ((cell_far (p := ⟨gb215, _, none⟩) NB220_215.out _).trans (((cell_far (p := ⟨gb215, _, none⟩) NB220_215.out _).trans (hHeld.2.1)))), ((cell_far (p := ⟨gb215, _, none⟩) NB221_215.out _).trans (((cell_far (p := ⟨gb215, _, none⟩) NB221_215.out _).trans (hHeld.2.2.1)))), ((cell_far (p := ⟨gb215, _, none⟩) NB221_215.out _).trans (((cell_far (p := ⟨gb215, _, none⟩) NB221_215.out _).trans (hHeld.2.2.2))))⟩ (fun hHeld => ?_)
 clear hK K
 refine done_ (by kernel_rfl) ?_
 try go_wp2
 refine bodyPost_ret (results_cc rfl _ _ gb214 gb215 25 25 #[.int .i64 t216, .int .i64 t217] #[.int .i64 t218, .int .i64 t219] (0, 0) (0, 0) _ _ rfl bkv Try.underlying25 rfl (by kernel_rfl) rfl bkv Try.underlying25 rfl (by kernel_rfl)) rfl ?_
 exact ⟨rq1, bw_7⟩

/-! ### impl_within: function 32 -/
def impl_within.f (a0 : Int) (a1 : Int) (a2 : Int) : Option (Bool) := if a0 ≥ a1 then (some (decide (a0 ≤ a2))) else (some false)
set_option maxHeartbeats 8000000 in
set_option maxRecDepth 100000 in
theorem impl_within.calls (a0 : Int) (a1 : Int) (a2 : Int) (r : Bool) (w : World) (h : impl_within.f a0 a1 a2 = some r) :
  Calls Try.prog 32 #[.int .i64 a0, .int .i64 a1, .int .i64 a2] w fun e w' => e = .returned (.bool r) ∧ Drawn0 w w' := by
 have H : (if a0 ≥ a1 then (some (decide (a0 ≤ a2))) else (some false)) = some r := h
 clear h
 by_cases c4 : a0 ≥ a1
 ·rw [if_pos c4] at H
  have c4b0 : decide (a1 ≤ a0) = true := decide_eq_true c4
  clear c4
  obtain rfl := Option.some.inj H
  go_enter Try.func32, Try.ntmps32
  go_wp2
  go_ret
  exact ⟨by first | rfl | (simp; done) | (simp [*]; done), by repeat (first | exact Drawn0.refl _ | apply Drawn0.step)⟩
 rw [if_neg c4] at H
 have c4b0 : decide (a1 ≤ a0) = false := decide_eq_false c4
 clear c4
 obtain rfl := Option.some.inj H
 go_enter Try.func32, Try.ntmps32
 go_wp2
 go_ret
 exact ⟨by first | rfl | (simp; done) | (simp [*]; done), by repeat (first | exact Drawn0.refl _ | apply Drawn0.step)⟩

/-! ### impl_size: function 63 -/
def impl_size.f (a0 : Int) : Option (Int) := some (mx a0 (wrap64 (-a0)))
set_option maxHeartbeats 8000000 in
set_option maxRecDepth 100000 in
theorem impl_size.calls (a0 : Int) (r : Int) (w : World) (h : impl_size.f a0 = some r) :
  Calls Try.prog 63 #[.int .i64 a0] w fun e w' => e = .returned (.int .i64 r) ∧ Below w.heap.size w w' := by
 have HB := Az.mk (Below.refl w.heap.size w)
 have H : (some (mx a0 (wrap64 (-a0)))) = some r := h
 clear h
 obtain ⟨ji2, hji2⟩ : ∃ j_ : Int, (mx a0 (wrap64 (-a0))) = j_ := ⟨_, rfl⟩
 replace H : (some ji2) = some r := by first | (rw [hji2] at H; exact H) | (simp only [hji2] at H ⊢; exact H)
 have hji2_ : (if a0 < (wrap64 (-a0)) then (wrap64 (-a0)) else a0) = ji2 := hji2
 obtain rfl := Option.some.inj H
 go_enter Try.func63, Try.ntmps63
 go_wp2
 go_ret
 exact ⟨by first | rfl | (simp [eWn, eWs] <;> rfl) | (simp only [← hji2]; first | rfl | (simp [eWn, eWs] <;> rfl)) | (simp [*, eWn, eWs] <;> rfl), bw_7⟩

/-! ### impl_gcd: function 52 -/
def impl_gcd.l0 : Nat → Int → Int → Option (Int)
 | 0, _, _ => none
 | k + 1, x0, x1 => if x1 = 0 then (some x0) else (impl_gcd.l0 k x1 (Int.tmod x0 x1))
def impl_gcd.f (k : Nat) (a0 : Int) (a1 : Int) : Option (Int) := (impl_size.f a0).bind fun t222 => ((impl_size.f a1).bind fun t223 => (impl_gcd.l0 k t222 t223))
theorem impl_gcd.mono_l : ∀ k, (∀ y0 y1, LeO (impl_gcd.l0 k y0 y1) (impl_gcd.l0 (k + 1) y0 y1))
 | 0 => fun _ _ r h => by simp [impl_gcd.l0] at h
 | k + 1 => by
  have ih0 := impl_gcd.mono_l k
  have i0 := fun z0 z1 => MoO.mk (ih0 z0 z1)
  ·intro y0 y1
   unfold impl_gcd.l0
   exact mo_
theorem impl_gcd.mono : ∀ a0 a1 k, LeO (impl_gcd.f k a0 a1) (impl_gcd.f (k + 1) a0 a1) := by
 intro a0 a1 k
 have ih0 := impl_gcd.mono_l k
 have i0 := fun z0 z1 => MoO.mk (ih0 z0 z1)
 unfold impl_gcd.f
 exact mo_
instance impl_gcd.mi {a0 a1 k} : MoO (impl_gcd.f k a0 a1) (impl_gcd.f (k + 1) a0 a1) := ⟨impl_gcd.mono _ _ _⟩
set_option maxHeartbeats 8000000 in
set_option maxRecDepth 100000 in
theorem impl_gcd.calls (k : Nat) (a0 : Int) (a1 : Int) (r : Int) (w : World) (h : impl_gcd.f k a0 a1 = some r) :
  Calls Try.prog 52 #[.int .i64 a0, .int .i64 a1] w fun e w' => e = .returned (.int .i64 r) ∧ Below w.heap.size w w' := by
 have HB := Az.mk (Below.refl w.heap.size w)
 have H : ((impl_size.f a0).bind fun t222 => ((impl_size.f a1).bind fun t223 => (impl_gcd.l0 k t222 t223))) = some r := h
 clear h
 replace H := bez H
 obtain ⟨t222, A3, H⟩ := H
 try dsimp only at H
 replace H := bez H
 obtain ⟨t223, A4, H⟩ := H
 try dsimp only at H
 have H' := Az.mk H
 clear H
 go_enter Try.func52, Try.ntmps52
 go_wp2_with (first | (go_at_call 63; (with_reducible refine (impl_size.calls a0 t222 _ A3.out).mono ?_); rintro e w5 ⟨rfl, hb⟩; replace HB := Az.mk (bwT bw_7 hb); (try clear hb)) | (go_at_call 63; (with_reducible refine (impl_size.calls a1 t223 _ A4.out).mono ?_); rintro e w6 ⟨rfl, hb⟩; replace HB := Az.mk (bwT bw_7 hb); (try clear hb)))
 repeat (go_quiet (fail); try go_wp2_with (first | (go_at_call 63; (with_reducible refine (impl_size.calls a0 t222 _ A3.out).mono ?_); rintro e w5 ⟨rfl, hb⟩; replace HB := Az.mk (bwT bw_7 hb); (try clear hb)) | (go_at_call 63; (with_reducible refine (impl_size.calls a1 t223 _ A4.out).mono ?_); rintro e w6 ⟨rfl, hb⟩; replace HB := Az.mk (bwT bw_7 hb); (try clear hb))))
 go_loopg [0, 1] k (fun kq v0 v1 w' => ∃ (x0_1 : Int) (x1_1 : Int), v0 = .int .i64 x0_1 ∧ v1 = .int .i64 x1_1 ∧ Az (impl_gcd.l0 kq x0_1 x1_1 = some r) ∧ Az (kq ≤ k) ∧ Az (Below w.heap.size w w'))
 case atStart => exact ⟨(t222), (t223), rq2, rq2, H', ⟨Nat.le_refl _⟩, ⟨bw_7⟩⟩
 clear H'
 obtain ⟨x0_1, x1_1, rfl, rfl, HA, HK1, HB⟩ := hrel
 cases gk with
 | zero => exact absurd HA.out (by simp [impl_gcd.l0])
 | succ k1 =>
  have H := HA.out
  clear HA
  simp only [impl_gcd.l0] at H
  by_cases c7 : x1_1 = 0
  ·rw [if_pos c7] at H
   have c7b0 : (x1_1 == 0) = true := beq_iff_eq.mpr c7
   have c7b1 : (x1_1 != 0) = false := bne_eq_false_iff_eq.mpr c7
   clear c7
   obtain rfl := Option.some.inj H
   go_wp2
   repeat (go_quiet (fail); try go_wp2)
   go_ret
   exact ⟨rq1, bw_7⟩
  rw [if_neg c7] at H
  have c7b0 : (x1_1 == 0) = false := beq_eq_false_iff_ne.mpr c7
  have c7b1 : (x1_1 != 0) = true := bne_iff_ne.mpr c7
  have H' := Az.mk H
  clear H
  go_wp2
  repeat (go_quiet (fail); try go_wp2)
  go_roundg k1
  case measure => have := HK1.out; omega
  case rel => exact ⟨(x1_1), (Int.tmod x0_1 x1_1), rq2, rq2, H', ⟨by have := HK1.out; omega⟩, ⟨bw_7⟩⟩

/-! ### impl_IsSlope: function 27 -/
def impl_IsSlope.f (k : Nat) (a0_0 : Int) (a0_1 : Int) : Option (Bool) := (impl_within.f a0_0 (-1000) 1000).bind fun t225 => (if t225 = true then ((impl_within.f a0_1 0 1000).bind fun t226 => (if t226 = true then ((impl_gcd.f k a0_0 a0_1).bind fun t227 => (if t227 = 1 then (if a0_1 > 0 then (some true) else (some (a0_0 == 1))) else (some false))) else (some false))) else (some false))
theorem impl_IsSlope.mono : ∀ a0 a1 k, LeO (impl_IsSlope.f k a0 a1) (impl_IsSlope.f (k + 1) a0 a1) := by
 intro a0 a1 k
 unfold impl_IsSlope.f
 exact mo_
instance impl_IsSlope.mi {a0 a1 k} : MoO (impl_IsSlope.f k a0 a1) (impl_IsSlope.f (k + 1) a0 a1) := ⟨impl_IsSlope.mono _ _ _⟩
set_option maxHeartbeats 8000000 in
set_option maxRecDepth 100000 in
theorem impl_IsSlope.calls (k : Nat) (a0_0 : Int) (a0_1 : Int) (r : Bool) (w : World) (h : impl_IsSlope.f k a0_0 a0_1 = some r) :
  Calls Try.prog 27 #[.agg #[.int .i64 a0_0, .int .i64 a0_1]] w fun e w' => e = .returned (.bool r) ∧ Below w.heap.size w w' := by
 have hu25 := Try.underlying25
 have HB := Az.mk (Below.refl w.heap.size w)
 have H : ((impl_within.f a0_0 (-1000) 1000).bind fun t225 => (if t225 = true then ((impl_within.f a0_1 0 1000).bind fun t226 => (if t226 = true then ((impl_gcd.f k a0_0 a0_1).bind fun t227 => (if t227 = 1 then (if a0_1 > 0 then (some true) else (some (a0_0 == 1))) else (some false))) else (some false))) else (some false))) = some r := h
 clear h
 replace H := bez H
 obtain ⟨t225, A2, H⟩ := H
 try dsimp only at H
 by_cases c3 : t225 = true
 rotate_left
 ·replace c3 := Bool.eq_false_iff.mpr c3
  subst c3
  rw [if_neg (show ¬ (false = true) by decide)] at H
  obtain rfl := Option.some.inj H
  go_enter Try.func27, Try.ntmps27
  go_wp2_with (first | ((with_reducible refine gtD (N := 1) rfl ?_); refine bx (N := 1) (cs := #[.int .i64 a0_0, .int .i64 a0_1]) (t := 25) ?_; intro gb224 hg w22 hbox hb; have BK224 := Az.mk (hbox); have GW224 := gwz hg bw_7; have GE224 := gwz hg bw_7; replace HB := Az.mk (bwT bw_7 hb); clear hb hbox hg; obtain ⟨hcz23_0, hcz23_1, hfz23_0, hfz23_1⟩ := bq2 BK224) | ((with_reducible refine gtC (f := 32) rfl ?_); refine clz Try.func32 (some 5) #[.int .i64 a0_0, .int .i64 (-1000), .int .i64 1000] ?_; (with_reducible refine (impl_within.calls a0_0 (-1000) 1000 false _ A2.out).mono ?_); rintro e w' ⟨rfl, ⟨nd, rfl⟩⟩; refine ⟨_, rfl, ?_⟩))
  go_ret
  exact ⟨rq1, bw_7⟩
 subst c3
 rw [if_pos rfl] at H
 replace H := bez H
 obtain ⟨t226, A4, H⟩ := H
 try dsimp only at H
 by_cases c5 : t226 = true
 rotate_left
 ·replace c5 := Bool.eq_false_iff.mpr c5
  subst c5
  rw [if_neg (show ¬ (false = true) by decide)] at H
  obtain rfl := Option.some.inj H
  go_enter Try.func27, Try.ntmps27
  go_wp2_with (first | ((with_reducible refine gtD (N := 1) rfl ?_); refine bx (N := 1) (cs := #[.int .i64 a0_0, .int .i64 a0_1]) (t := 25) ?_; intro gb224 hg w20 hbox hb; have BK224 := Az.mk (hbox); have GW224 := gwz hg bw_7; have GE224 := gwz hg bw_7; replace HB := Az.mk (bwT bw_7 hb); clear hb hbox hg; obtain ⟨hcz21_0, hcz21_1, hfz21_0, hfz21_1⟩ := bq2 BK224) | ((with_reducible refine gtC (f := 32) rfl ?_); refine clz Try.func32 (some 5) #[.int .i64 a0_0, .int .i64 (-1000), .int .i64 1000] ?_; (with_reducible refine (impl_within.calls a0_0 (-1000) 1000 true _ A2.out).mono ?_); rintro e w' ⟨rfl, ⟨nd, rfl⟩⟩; refine ⟨_, rfl, ?_⟩) | (go_at_call 32; (with_reducible refine (impl_within.calls a0_1 0 1000 false _ A4.out).mono ?_); rintro e w' ⟨rfl, ⟨nd, rfl⟩⟩))
  go_ret
  exact ⟨rq1, bw_7⟩
 subst c5
 rw [if_pos rfl] at H
 replace H := bez H
 obtain ⟨t227, A6, H⟩ := H
 try dsimp only at H
 by_cases c7 : t227 = 1
 rotate_left
 ·rw [if_neg c7] at H
  have c7b0 : (t227 == 1) = false := beq_eq_false_iff_ne.mpr c7
  have c7b1 : (t227 != 1) = true := bne_iff_ne.mpr c7
  obtain rfl := Option.some.inj H
  go_enter Try.func27, Try.ntmps27
  go_wp2_with (first | ((with_reducible refine gtD (N := 1) rfl ?_); refine bx (N := 1) (cs := #[.int .i64 a0_0, .int .i64 a0_1]) (t := 25) ?_; intro gb224 hg w17 hbox hb; have BK224 := Az.mk (hbox); have GW224 := gwz hg bw_7; have GE224 := gwz hg bw_7; replace HB := Az.mk (bwT bw_7 hb); clear hb hbox hg; obtain ⟨hcz18_0, hcz18_1, hfz18_0, hfz18_1⟩ := bq2 BK224) | ((with_reducible refine gtC (f := 32) rfl ?_); refine clz Try.func32 (some 5) #[.int .i64 a0_0, .int .i64 (-1000), .int .i64 1000] ?_; (with_reducible refine (impl_within.calls a0_0 (-1000) 1000 true _ A2.out).mono ?_); rintro e w' ⟨rfl, ⟨nd, rfl⟩⟩; refine ⟨_, rfl, ?_⟩) | (go_at_call 32; (with_reducible refine (impl_within.calls a0_1 0 1000 true _ A4.out).mono ?_); rintro e w' ⟨rfl, ⟨nd, rfl⟩⟩) | (go_at_call 52; (with_reducible refine (impl_gcd.calls k a0_0 a0_1 t227 _ A6.out).mono ?_); rintro e w19 ⟨rfl, hb⟩; replace BK224 := bkz BK224 hb; replace HB := Az.mk (bwT bw_7 hb); (try clear hb)))
  go_ret
  exact ⟨rq1, bw_7⟩
 rw [if_pos c7] at H
 have c7b0 : (t227 == 1) = true := beq_iff_eq.mpr c7
 have c7b1 : (t227 != 1) = false := bne_eq_false_iff_eq.mpr c7
 clear c7
 by_cases c8 : a0_1 > 0
 ·rw [if_pos c8] at H
  have c8b0 : decide (0 < a0_1) = true := decide_eq_true c8
  clear c8
  obtain rfl := Option.some.inj H
  go_enter Try.func27, Try.ntmps27
  go_wp2_with (first | ((with_reducible refine gtD (N := 1) rfl ?_); refine bx (N := 1) (cs := #[.int .i64 a0_0, .int .i64 a0_1]) (t := 25) ?_; intro gb224 hg w9 hbox hb; have BK224 := Az.mk (hbox); have GW224 := gwz hg bw_7; have GE224 := gwz hg bw_7; replace HB := Az.mk (bwT bw_7 hb); clear hb hbox hg; obtain ⟨hcz10_0, hcz10_1, hfz10_0, hfz10_1⟩ := bq2 BK224) | ((with_reducible refine gtC (f := 32) rfl ?_); refine clz Try.func32 (some 5) #[.int .i64 a0_0, .int .i64 (-1000), .int .i64 1000] ?_; (with_reducible refine (impl_within.calls a0_0 (-1000) 1000 true _ A2.out).mono ?_); rintro e w' ⟨rfl, ⟨nd, rfl⟩⟩; refine ⟨_, rfl, ?_⟩) | (go_at_call 32; (with_reducible refine (impl_within.calls a0_1 0 1000 true _ A4.out).mono ?_); rintro e w' ⟨rfl, ⟨nd, rfl⟩⟩) | (go_at_call 52; (with_reducible refine (impl_gcd.calls k a0_0 a0_1 t227 _ A6.out).mono ?_); rintro e w11 ⟨rfl, hb⟩; replace BK224 := bkz BK224 hb; replace HB := Az.mk (bwT bw_7 hb); (try clear hb); obtain ⟨hcz12_0, hcz12_1, hfz12_0, hfz12_1⟩ := bq2 BK224))
  go_ret
  exact ⟨rq1, bw_7⟩
 rw [if_neg c8] at H
 have c8b0 : decide (0 < a0_1) = false := decide_eq_false c8
 clear c8
 obtain rfl := Option.some.inj H
 go_enter Try.func27, Try.ntmps27
 go_wp2_with (first | ((with_reducible refine gtD (N := 1) rfl ?_); refine bx (N := 1) (cs := #[.int .i64 a0_0, .int .i64 a0_1]) (t := 25) ?_; intro gb224 hg w13 hbox hb; have BK224 := Az.mk (hbox); have GW224 := gwz hg bw_7; have GE224 := gwz hg bw_7; replace HB := Az.mk (bwT bw_7 hb); clear hb hbox hg; obtain ⟨hcz14_0, hcz14_1, hfz14_0, hfz14_1⟩ := bq2 BK224) | ((with_reducible refine gtC (f := 32) rfl ?_); refine clz Try.func32 (some 5) #[.int .i64 a0_0, .int .i64 (-1000), .int .i64 1000] ?_; (with_reducible refine (impl_within.calls a0_0 (-1000) 1000 true _ A2.out).mono ?_); rintro e w' ⟨rfl, ⟨nd, rfl⟩⟩; refine ⟨_, rfl, ?_⟩) | (go_at_call 32; (with_reducible refine (impl_within.calls a0_1 0 1000 true _ A4.out).mono ?_); rintro e w' ⟨rfl, ⟨nd, rfl⟩⟩) | (go_at_call 52; (with_reducible refine (impl_gcd.calls k a0_0 a0_1 t227 _ A6.out).mono ?_); rintro e w15 ⟨rfl, hb⟩; replace BK224 := bkz BK224 hb; replace HB := Az.mk (bwT bw_7 hb); (try clear hb); obtain ⟨hcz16_0, hcz16_1, hfz16_0, hfz16_1⟩ := bq2 BK224))
 go_ret
 exact ⟨rq1, bw_7⟩

/-! ### impl_euclid: function 53 -/
def impl_euclid.f : Nat → Int → Int → Option (Int × Int)
 | 0, _, _ => none
 | k + 1, a0, a1 => if a1 = 0 then (some (a0, 0)) else ((impl_euclid.f k a1 (Int.tmod a0 a1)).bind fun bt228 => (some (bt228.2, wrap64 (bt228.1 - (wrap64 ((wrap64 (Int.tdiv a0 a1)) * bt228.2))))))
theorem impl_euclid.mono_l : ∀ k, (∀ y0 y1, LeO (impl_euclid.f k y0 y1) (impl_euclid.f (k + 1) y0 y1))
 | 0 => fun _ _ r h => by simp [impl_euclid.f] at h
 | k + 1 => by
  have ih0 := impl_euclid.mono_l k
  have i0 := fun z0 z1 => MoO.mk (ih0 z0 z1)
  ·intro y0 y1
   unfold impl_euclid.f
   exact mo_
theorem impl_euclid.mono : ∀ a0 a1 k, LeO (impl_euclid.f k a0 a1) (impl_euclid.f (k + 1) a0 a1) := by
 intro a0 a1 k
 have ih0 := impl_euclid.mono_l k
 exact ih0 a0 a1
instance impl_euclid.mi {a0 a1 k} : MoO (impl_euclid.f k a0 a1) (impl_euclid.f (k + 1) a0 a1) := ⟨impl_euclid.mono _ _ _⟩
set_option maxHeartbeats 8000000 in
set_option maxRecDepth 100000 in
theorem impl_euclid.calls (k : Nat) : ∀ (a0 : Int) (a1 : Int) (r1 : Int) (r2 : Int) (w : World) (h : impl_euclid.f k a0 a1 = some (r1, r2)),
  Calls Try.prog 53 #[.int .i64 a0, .int .i64 a1] w fun e w' => e = .returned (.tuple #[.int .i64 r1, .int .i64 r2]) ∧ Drawn0 w w' := by
 induction k using Nat.strongRecOn with
 | _ k ih =>
 intro a0 a1 r1 r2 w h
 cases k with
 | zero => exact absurd h (by simp [impl_euclid.f])
 | succ k =>
 simp only [impl_euclid.f] at h
 have H : (if a1 = 0 then (some (a0, 0)) else ((impl_euclid.f k a1 (Int.tmod a0 a1)).bind fun bt228 => (some (bt228.2, wrap64 (bt228.1 - (wrap64 ((wrap64 (Int.tdiv a0 a1)) * bt228.2))))))) = some (r1, r2) := h
 clear h
 by_cases c3 : a1 = 0
 ·rw [if_pos c3] at H
  have c3b0 : (a1 == 0) = true := beq_iff_eq.mpr c3
  have c3b1 : (a1 != 0) = false := bne_eq_false_iff_eq.mpr c3
  clear c3
  simp only [Option.some.injEq, Prod.mk.injEq] at H
  obtain ⟨rfl, rfl⟩ := H
  go_enter Try.func53, Try.ntmps53
  go_wp2
  repeat (go_quiet (fail); try go_wp2)
  go_ret2
  exact ⟨by first | rfl | (simp; done) | (simp [*]; done), by repeat (first | exact Drawn0.refl _ | apply Drawn0.step)⟩
 rw [if_neg c3] at H
 have c3b0 : (a1 == 0) = false := beq_eq_false_iff_ne.mpr c3
 have c3b1 : (a1 != 0) = true := bne_iff_ne.mpr c3
 replace H := bez H
 obtain ⟨⟨t228, t229⟩, A4, H⟩ := H
 try dsimp only at H
 simp only [Option.some.injEq, Prod.mk.injEq] at H
 obtain ⟨rfl, rfl⟩ := H
 go_enter Try.func53, Try.ntmps53
 go_wp2_with ((go_at_call 53; (with_reducible refine (ih k (by omega) a1 (Int.tmod a0 a1) t228 t229 _ A4.out).mono ?_); rintro e w' ⟨rfl, ⟨nd, rfl⟩⟩; (try first | exact ⟨rfl, _, World.drewN_drewN _ _ _⟩ | exact ⟨rfl, _, Eq.trans (World.drewN_drewN _ _ _) (congrArg (World.drewN _) (Nat.add_assoc _ _ _))⟩)))
 repeat (go_quiet ((go_at_call 53; (with_reducible refine (ih k (by omega) a1 (Int.tmod a0 a1) t228 t229 _ A4.out).mono ?_); rintro e w' ⟨rfl, ⟨nd, rfl⟩⟩; (try first | exact ⟨rfl, _, World.drewN_drewN _ _ _⟩ | exact ⟨rfl, _, Eq.trans (World.drewN_drewN _ _ _) (congrArg (World.drewN _) (Nat.add_assoc _ _ _))⟩))); try go_wp2_with ((go_at_call 53; (with_reducible refine (ih k (by omega) a1 (Int.tmod a0 a1) t228 t229 _ A4.out).mono ?_); rintro e w' ⟨rfl, ⟨nd, rfl⟩⟩; (try first | exact ⟨rfl, _, World.drewN_drewN _ _ _⟩ | exact ⟨rfl, _, Eq.trans (World.drewN_drewN _ _ _) (congrArg (World.drewN _) (Nat.add_assoc _ _ _))⟩))))
 go_ret2
 exact ⟨by first | rfl | (simp; done) | (simp [*]; done), by repeat (first | exact Drawn0.refl _ | apply Drawn0.step)⟩

/-! ### impl_mod: function 36 -/
def impl_mod.f (a0 : Int) (a1 : Int) : Option (Int) := if a1 = 0 then (none) else (if (Int.tmod a0 a1) < 0 then (some (wrap64 ((Int.tmod a0 a1) + a1))) else (some (Int.tmod a0 a1)))
set_option maxHeartbeats 8000000 in
set_option maxRecDepth 100000 in
theorem impl_mod.calls (a0 : Int) (a1 : Int) (r : Int) (w : World) (h : impl_mod.f a0 a1 = some r) :
  Calls Try.prog 36 #[.int .i64 a0, .int .i64 a1] w fun e w' => e = .returned (.int .i64 r) ∧ Drawn0 w w' := by
 have H : (if a1 = 0 then (none) else (if (Int.tmod a0 a1) < 0 then (some (wrap64 ((Int.tmod a0 a1) + a1))) else (some (Int.tmod a0 a1)))) = some r := h
 clear h
 by_cases c3 : a1 = 0
 ·rw [if_pos c3] at H
  exact absurd H (by simp)
 rw [if_neg c3] at H
 have c3b0 : (a1 == 0) = false := beq_eq_false_iff_ne.mpr c3
 have c3b1 : (a1 != 0) = true := bne_iff_ne.mpr c3
 by_cases c4 : (Int.tmod a0 a1) < 0
 ·rw [if_pos c4] at H
  have c4b0 : decide ((Int.tmod a0 a1) < 0) = true := decide_eq_true c4
  clear c4
  obtain rfl := Option.some.inj H
  go_enter Try.func36, Try.ntmps36
  go_wp2
  go_ret
  exact ⟨by first | rfl | (simp; done) | (simp [*]; done), by repeat (first | exact Drawn0.refl _ | apply Drawn0.step)⟩
 rw [if_neg c4] at H
 have c4b0 : decide ((Int.tmod a0 a1) < 0) = false := decide_eq_false c4
 clear c4
 obtain rfl := Option.some.inj H
 go_enter Try.func36, Try.ntmps36
 go_wp2
 go_ret
 exact ⟨by first | rfl | (simp; done) | (simp [*]; done), by repeat (first | exact Drawn0.refl _ | apply Drawn0.step)⟩

-- NOT PRINTED: function 54 (impl_farey_distance)

end Go.Proofs.Ytigcjehokbgclaa.P
