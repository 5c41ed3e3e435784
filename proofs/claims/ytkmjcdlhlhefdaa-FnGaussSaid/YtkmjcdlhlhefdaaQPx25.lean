-- By this session's driver (wip/tools/mk.py) of the kit's print program, over several statements at once. Not trusted: Lean checks it.
import Derived.Test.YtkmjcdlhlhefdaaQWZip
import Derived.Test.YtkmjcdlhlhefdaaQPx0
import Derived.Test.YtkmjcdlhlhefdaaQPx10
import Derived.Test.YtkmjcdlhlhefdaaQPx19
import Derived.Test.YtkmjcdlhlhefdaaQPx20
namespace Go.Proofs.Ytkmjcdlhlhefdaa.P
open Go.RowKit Go.Proofs.YtkmjcdlhlhefdaaW.PrintWords Go.Proofs.YtkmjcdlhlhefdaaW.PrintLast Go.Proofs.YtkmjcdlhlhefdaaW.PrintMore
attribute [local go_sem] max2_int min2_int max_two min_two max_three min_three max_four min_four   -- for this text's walks alone
set_option linter.unusedVariables false
set_option linter.unusedSimpArgs false

theorem bw_25 {n : Nat} {v v' : World} (h : Below n v v' := by repeat (first | (with_reducible first | exact HB.out | apply bwA | apply pbN | apply bwD) | exact HB.out)) : Below n v v' := h

theorem ln_25 {P : Prop} (h : P := by (try simp only [List.map_toArray, List.map_cons, List.map_nil]); first | done | rfl | (simp only [List.length_drop, List.length_take]; rfl)) : P := h
open Option renaming bind_eq_some_iff → be

/-! ### spec_l6Perm: function 52 -/
def spec_l6Perm.l0 : Nat → List Int → List Bool → Int → Option (Bool)
 | 0, _, _, _ => none
 | k + 1, x0, x3, x4 => if x4 < (x0.length : Int) then (if 0 ≤ x4 then ((spec_l1In.f (rd x0 x4) 0 (wrap64 ((x0.length : Int) - 1))).bind fun t557 => (if t557 = true then (if 0 ≤ (rd x0 x4) then (if (rd x0 x4) < (x3.length : Int) then (if rdOf false x3 (rd x0 x4) = true then (some false) else (spec_l6Perm.l0 k x0 (x3.set ((rd x0 x4) : Int).toNat true) (wrap64 (x4 + 1)))) else (none)) else (none)) else (some false))) else (none)) else (some true)
def spec_l6Perm.f (k : Nat) (l0 : List Int) : Option (Bool) := if 0 ≤ (l0.length : Int) then (if ((l0.length : Int) : Int).toNat ≤ 281474976710656 then (spec_l6Perm.l0 k l0 (List.replicate ((l0.length : Int) : Int).toNat false) 0) else (none)) else (none)
set_option maxHeartbeats 8000000 in
set_option maxRecDepth 100000 in
theorem spec_l6Perm.calls (k : Nat) (A0 : Option Addr) (c0 : Nat) (l0 : List Int) (r : Bool) (w : World) (hr0 : Kd.C (Kd.int .i64) w A0 l0.length l0) (hc0 : l0.length ≤ c0) (h : spec_l6Perm.f k l0 = some r) :
  Calls Try.prog 52 #[.slice A0 l0.length c0] w fun e w' => e = .returned (.bool r) ∧ Below w.heap.size w w' := by
 have HR0 := Az.mk hr0
 have HC0 := Az.mk hc0
 clear hr0 hc0
 have HB := Az.mk (Below.refl w.heap.size w)
 have H : (if 0 ≤ (l0.length : Int) then (if ((l0.length : Int) : Int).toNat ≤ 281474976710656 then (spec_l6Perm.l0 k l0 (List.replicate ((l0.length : Int) : Int).toNat false) 0) else (none)) else (none)) = some r := h
 clear h
 by_cases c2 : 0 ≤ (l0.length : Int)
 rotate_left
 ·rw [if_neg c2] at H
  exact absurd H (by simp)
 rw [if_pos c2] at H
 have c2b0 := eq_true c2
 have c2b1 : decide (0 ≤ (l0.length : Int)) = true := decide_eq_true c2
 clear c2
 by_cases c3 : ((l0.length : Int) : Int).toNat ≤ 281474976710656
 rotate_left
 ·rw [if_neg c3] at H
  exact absurd H (by simp)
 rw [if_pos c3] at H
 have c3b0 := eq_true c3
 have c3b1 : decide (((l0.length : Int) : Int).toNat ≤ 281474976710656) = true := decide_eq_true c3
 clear c3
 obtain ⟨y553, hy⟩ : ∃ y_ : List Bool, y_ = (List.replicate ((l0.length : Int) : Int).toNat false) := ⟨_, rfl⟩
 replace H : (spec_l6Perm.l0 k l0 y553 0) = some r := rh
 have Ny553 := Az.mk hy
 clear hy
 have H' := Az.mk H
 clear H
 go_enter Try.func52, Try.ntmps52
 go_wp2_with (first | ((with_reducible refine gtD (N := 7) rfl ?_); refine Kd.R_make Kd.bool _ 4 rfl (N := 7) rfl 59 _ _ rfl (l0.length : Int) rfl rfl Try.underlying59 (.bool false) 1 info4 rfl (by decide) (by omega) false (ok := fun _ => True) (okp := fun _ => True) rfl (fun _ hk => hk) trivial (of_decide_eq_true am) (Nat.le_trans (Nat.mul_le_mul_right _ (of_decide_eq_true am : (l0.length : Int).toNat ≤ 281474976710656)) (by omega)) (Below.refl _ _) (Nat.le_refl _) ?_; intro v554 w4 ho5 hb hg_ hnew_; clear hg_ hnew_; (first | rw [← Ny553.out] at ho5 | (simp only [Int.reduceToNat] at ho5; rw [← Ny553.out] at ho5)); have HO555 := Az.mk (Kd.R_lower ho5 (bwZ bw_25)); replace HB := Az.mk (bwT bw_25 hb); clear hb ho5))
 go_loopg [4] k (fun kq v4 w' => ∃ (x3_1 : List Bool) (x4_1 : Int), v4 = .int .i64 x4_1 ∧ Az (spec_l6Perm.l0 kq l0 x3_1 x4_1 = some r) ∧ Az (kq ≤ k) ∧ Az (Kd.R Kd.bool 4 w' w.heap.size (fun _ => True) v554 x3_1) ∧ Az (Below w.heap.size w w'))
 case atStart => exact ⟨(y553), (0), rq2, H', ⟨Nat.le_refl _⟩, ⟨kR HO555.out⟩, ⟨bw_25⟩⟩
 clear H'
 try clear c2
 try clear c2b0
 try clear c2b1
 try clear c3
 try clear c3b0
 try clear c3b1
 obtain ⟨x3_1, x4_1, rfl, HA, HK1, HO_3, HB⟩ := hrel
 cases gk with
 | zero => exact absurd HA.out (by simp [spec_l6Perm.l0])
 | succ k1 =>
  have H := HA.out
  clear HA
  simp only [spec_l6Perm.l0] at H
  by_cases c6 : x4_1 < (l0.length : Int)
  rotate_left
  ·rw [if_neg c6] at H
   have c6b0 : decide (x4_1 < (l0.length : Int)) = false := decide_eq_false c6
   clear c6
   obtain rfl := Option.some.inj H
   go_wp2
   go_ret
   exact ⟨rq1, bw_25⟩
  rw [if_pos c6] at H
  have c6b0 : decide (x4_1 < (l0.length : Int)) = true := decide_eq_true c6
  clear c6
  by_cases c7 : 0 ≤ x4_1
  rotate_left
  ·rw [if_neg c7] at H
   exact absurd H (by simp)
  rw [if_pos c7] at H
  have c7b0 : decide (0 ≤ x4_1) = true := decide_eq_true c7
  clear c7
  replace H := bez H
  obtain ⟨t557, A8, H⟩ := H
  try dsimp only at H
  by_cases c9 : t557 = true
  rotate_left
  ·replace c9 := Bool.eq_false_iff.mpr c9
   subst c9
   rw [if_neg ff] at H
   obtain rfl := Option.some.inj H
   have p556 : 0 ≤ (x4_1 : Int) := of_decide_eq_true am
   have q556 : x4_1 < (l0.length : Int) := of_decide_eq_true am
   obtain ⟨ad556, e556, hx556_0⟩ := Kd.at_int HR0.out x4_1 p556 q556
   cases e556
   replace hx556_0 := kc HB hx556_0
   replace p556 := eq_true p556
   replace q556 := eq_true q556
   go_wp2_with (first | ((with_reducible refine gtC (f := 37) rfl ?_); refine clz Try.func37 (some 21) #[.int .i64 (rd l0 x4_1), .int .i64 0, .int .i64 (wrap64 ((l0.length : Int) - 1))] ?_; (with_reducible refine (spec_l1In.calls (rd l0 x4_1) 0 (wrap64 ((l0.length : Int) - 1)) false _ A8.out).mono ?_); rintro e w' ⟨rfl, ⟨nd, rfl⟩⟩; refine ⟨_, rfl, ?_⟩))
   go_ret
   exact ⟨rq1, bw_25⟩
  subst c9
  rw [if_pos rfl] at H
  by_cases c10 : 0 ≤ (rd l0 x4_1)
  rotate_left
  ·rw [if_neg c10] at H
   exact absurd H (by simp)
  rw [if_pos c10] at H
  have c10b0 : decide (0 ≤ (rd l0 x4_1)) = true := decide_eq_true c10
  clear c10
  by_cases c11 : (rd l0 x4_1) < (x3_1.length : Int)
  rotate_left
  ·rw [if_neg c11] at H
   exact absurd H (by simp)
  rw [if_pos c11] at H
  have c11b0 : decide ((rd l0 x4_1) < (x3_1.length : Int)) = true := decide_eq_true c11
  clear c11
  obtain ⟨bq12, hbq12⟩ : ∃ b_ : Bool, b_ = (rdOf false x3_1 (rd l0 x4_1)) := ⟨_, rfl⟩
  replace H : (if bq12 = true then (some false) else (spec_l6Perm.l0 k1 l0 (x3_1.set ((rd l0 x4_1) : Int).toNat true) (wrap64 (x4_1 + 1)))) = some r := by rw [← hbq12] at H; exact H
  have Nbq12 := Az.mk hbq12
  clear hbq12
  by_cases c13 : bq12 = true
  ·subst c13
   rw [if_pos rfl] at H
   obtain rfl := Option.some.inj H
   have p556 : 0 ≤ (x4_1 : Int) := of_decide_eq_true am
   have q556 : x4_1 < (l0.length : Int) := of_decide_eq_true am
   obtain ⟨ad556, e556, hx556_0⟩ := Kd.at_int HR0.out x4_1 p556 q556
   cases e556
   replace hx556_0 := kc HB hx556_0
   replace p556 := eq_true p556
   replace q556 := eq_true q556
   go_wp2_with (first | ((with_reducible refine gtC (f := 37) rfl ?_); refine clz Try.func37 (some 21) #[.int .i64 (rd l0 x4_1), .int .i64 0, .int .i64 (wrap64 ((l0.length : Int) - 1))] ?_; (with_reducible refine (spec_l1In.calls (rd l0 x4_1) 0 (wrap64 ((l0.length : Int) - 1)) true _ A8.out).mono ?_); rintro e w' ⟨rfl, ⟨nd, rfl⟩⟩; refine ⟨_, rfl, ?_⟩; have p558 : 0 ≤ (x4_1 : Int) := of_decide_eq_true am; have q558 : x4_1 < (l0.length : Int) := of_decide_eq_true am; obtain ⟨ad558, e558, hx558_0⟩ := Kd.at_int HR0.out x4_1 p558 q558; obtain rfl : ad556 = ad558 := (by injection e558); replace hx558_0 := kc HB hx558_0; replace p558 := eq_true p558; replace q558 := eq_true q558; obtain ⟨Ao14, co14, eo14⟩ := Kd.R_slice HO_3.out; subst eo14; have p559 : 0 ≤ ((rd l0 x4_1) : Int) := of_decide_eq_true am; have q559 : (rd l0 x4_1) < (x3_1.length : Int) := of_decide_eq_true am; obtain ⟨ad559, e559, hx559_0⟩ := Kd.at_bool (Kd.R_reads' HO_3.out).2.2 (rd l0 x4_1) p559 q559; (try rw [← Nbq12.out] at hx559_0); cases e559; replace p559 := eq_true p559; replace q559 := eq_true q559))
   go_ret
   exact ⟨rq1, bw_25⟩
  replace c13 := Bool.eq_false_iff.mpr c13
  subst c13
  rw [if_neg ff] at H
  obtain ⟨y561, hy⟩ : ∃ y_ : List Bool, y_ = (x3_1.set ((rd l0 x4_1) : Int).toNat true) := ⟨_, rfl⟩
  replace H : (spec_l6Perm.l0 k1 l0 y561 (wrap64 (x4_1 + 1))) = some r := rh
  have Ny561 := Az.mk hy
  clear hy
  have H' := Az.mk H
  clear H
  have p556 : 0 ≤ (x4_1 : Int) := of_decide_eq_true am
  have q556 : x4_1 < (l0.length : Int) := of_decide_eq_true am
  obtain ⟨ad556, e556, hx556_0⟩ := Kd.at_int HR0.out x4_1 p556 q556
  cases e556
  replace hx556_0 := kc HB hx556_0
  replace p556 := eq_true p556
  replace q556 := eq_true q556
  go_wp2_with (first | ((with_reducible refine gtC (f := 37) rfl ?_); refine clz Try.func37 (some 21) #[.int .i64 (rd l0 x4_1), .int .i64 0, .int .i64 (wrap64 ((l0.length : Int) - 1))] ?_; (with_reducible refine (spec_l1In.calls (rd l0 x4_1) 0 (wrap64 ((l0.length : Int) - 1)) true _ A8.out).mono ?_); rintro e w' ⟨rfl, ⟨nd, rfl⟩⟩; refine ⟨_, rfl, ?_⟩; (try (rw [drewN_self wr]; generalize hq_ : World.drewN wr _ = wr; have n0_ : Az (Kd.R Kd.bool 4 wr w.heap.size (fun _ => True) v554 x3_1) := ⟨by rw [← hq_]; exact (kR HO_3.out)⟩; have n1_ : Az (Below w.heap.size w wr) := ⟨by rw [← hq_]; exact bw_25⟩; clear HO_3 HB hq_; have HO_3 := n0_; have HB := n1_; clear n0_ n1_)); have p558 : 0 ≤ (x4_1 : Int) := of_decide_eq_true am; have q558 : x4_1 < (l0.length : Int) := of_decide_eq_true am; obtain ⟨ad558, e558, hx558_0⟩ := Kd.at_int HR0.out x4_1 p558 q558; obtain rfl : ad556 = ad558 := (by injection e558); replace hx558_0 := kc HB hx558_0; replace p558 := eq_true p558; replace q558 := eq_true q558; obtain ⟨Ao16, co16, eo16⟩ := Kd.R_slice HO_3.out; subst eo16; have p559 : 0 ≤ ((rd l0 x4_1) : Int) := of_decide_eq_true am; have q559 : (rd l0 x4_1) < (x3_1.length : Int) := of_decide_eq_true am; obtain ⟨ad559, e559, hx559_0⟩ := Kd.at_bool (Kd.R_reads' HO_3.out).2.2 (rd l0 x4_1) p559 q559; (try rw [← Nbq12.out] at hx559_0); cases e559; replace p559 := eq_true p559; replace q559 := eq_true q559; have p560 : 0 ≤ (x4_1 : Int) := of_decide_eq_true am; have q560 : x4_1 < (l0.length : Int) := of_decide_eq_true am; obtain ⟨ad560, e560, hx560_0⟩ := Kd.at_int HR0.out x4_1 p560 q560; obtain rfl : ad556 = ad560 := (by injection e560); replace hx560_0 := kc HB hx560_0; replace p560 := eq_true p560; replace q560 := eq_true q560; have p15 : 0 ≤ ((rd l0 x4_1) : Int) := of_decide_eq_true am; have q15 : ((rd l0 x4_1) : Int) < ((x3_1.length : Int) : Int) := of_decide_eq_true am; obtain ⟨go15, co15, eo15, gb15, gl15, cl15, HG15⟩ := Kd.R_form HO_3.out (by omega); (first | cases eo15 | (injection eo15 with ea_ en_ ec_; (first | subst ea_ | (injection ea_ with ea_; subst ea_)); subst ec_; clear en_)); have GB15 := Az.mk gb15; have GG15 := Az.mk HG15; clear gb15 gl15 HG15; (first | simp only [add_plain] at hx559_0 | skip); obtain ⟨hx15_0, hf15_0⟩ := Kd.R_celln false HO_3.out ((rd l0 x4_1) : Int) p15 q15; replace p15 := eq_true p15; replace q15 := eq_true q15; obtain ⟨hy17_, hz17_⟩ := Kd.R_celln false HO_3.out ((rd l0 x4_1) : Int) (of_decide_eq_true am) (of_decide_eq_true am); have HP17 := Kd.R_putg HO_3.out ((rd l0 x4_1) : Int) true) | ((with_reducible refine gate_store (t := 4) (p := 37) rfl ?_); refine store_event (t := 4) (p := 37) (v := ?vo_w18) (w1 := (wr.setCell ⟨go15, ((rd l0 x4_1) : Int).toNat, none⟩ (.bool true))) ?hg ?ho ?hn ?hr ?_; (case ho => rfl); (case hg => rfl); (case hn => rfl); (case hr => first | (go_simp; done) | (go_simp; rfl)); intro w18 hw; have hg : wr.grownBy w18 (some go15) := (by rw [hw]; exact HP17.2); have hp_ : Kd.R Kd.bool 4 w18 w.heap.size (fun _ => True) (.slice (some ⟨go15, 0, none⟩) x3_1.length co16) y561 := (by rw [hw, Ny561.out]; exact HP17.1); clear HP17; replace HO_3 := Az.mk (hp_); replace HB := Az.mk ((by rw [hw]; exact bwS (HB.out) GB15.out : Below w.heap.size w w18)); clear hg hw hp_))
  go_roundg k1
  case measure => have := HK1.out; omega
  case rel => exact ⟨(y561), (wrap64 (x4_1 + 1)), rq2, H', ⟨by have := HK1.out; omega⟩, ⟨kR HO_3.out⟩, ⟨bw_25⟩⟩

/-! ### spec_IsMap: function 25 -/
def spec_IsMap.f (k : Nat) (l0 : List Int) : Option (Bool) := (spec_l1In.f (l0.length : Int) 2 24).bind fun t562 => (if t562 = true then (if ((l0.length : Int) % 2) = 0 then ((spec_l6Perm.f k l0).bind fun t563 => (some t563)) else (some false)) else (some false))
set_option maxHeartbeats 8000000 in
set_option maxRecDepth 100000 in
theorem spec_IsMap.calls (k : Nat) (A0 : Option Addr) (c0 : Nat) (l0 : List Int) (r : Bool) (w : World) (hr0 : Kd.C (Kd.int .i64) w A0 l0.length l0) (hc0 : l0.length ≤ c0) (h : spec_IsMap.f k l0 = some r) :
  Calls Try.prog 25 #[.slice A0 l0.length c0] w fun e w' => e = .returned (.bool r) ∧ Below w.heap.size w w' := by
 have HR0 := Az.mk hr0
 have HC0 := Az.mk hc0
 clear hr0 hc0
 have HB := Az.mk (Below.refl w.heap.size w)
 have H : ((spec_l1In.f (l0.length : Int) 2 24).bind fun t562 => (if t562 = true then (if ((l0.length : Int) % 2) = 0 then ((spec_l6Perm.f k l0).bind fun t563 => (some t563)) else (some false)) else (some false))) = some r := h
 clear h
 replace H := bez H
 obtain ⟨t562, A2, H⟩ := H
 try dsimp only at H
 by_cases c3 : t562 = true
 rotate_left
 ·replace c3 := Bool.eq_false_iff.mpr c3
  subst c3
  rw [if_neg ff] at H
  obtain rfl := Option.some.inj H
  go_enter Try.func25, Try.ntmps25
  go_wp2_with (first | ((with_reducible refine gtC (f := 37) rfl ?_); refine clz Try.func37 (some 5) #[.int .i64 (l0.length : Int), .int .i64 2, .int .i64 24] ?_; (with_reducible refine (spec_l1In.calls (l0.length : Int) 2 24 false _ A2.out).mono ?_); rintro e w' ⟨rfl, ⟨nd, rfl⟩⟩; refine ⟨_, rfl, ?_⟩))
  go_ret
  exact ⟨rq1, bw_25⟩
 subst c3
 rw [if_pos rfl] at H
 by_cases c4 : ((l0.length : Int) % 2) = 0
 rotate_left
 ·rw [if_neg c4] at H
  have c4b0 : (((l0.length : Int) % 2) == 0) = false := beq_eq_false_iff_ne.mpr c4
  have c4b1 : (((l0.length : Int) % 2) != 0) = true := bne_iff_ne.mpr c4
  obtain rfl := Option.some.inj H
  go_enter Try.func25, Try.ntmps25
  go_wp2_with (first | ((with_reducible refine gtC (f := 37) rfl ?_); refine clz Try.func37 (some 5) #[.int .i64 (l0.length : Int), .int .i64 2, .int .i64 24] ?_; (with_reducible refine (spec_l1In.calls (l0.length : Int) 2 24 true _ A2.out).mono ?_); rintro e w' ⟨rfl, ⟨nd, rfl⟩⟩; refine ⟨_, rfl, ?_⟩))
  go_ret
  exact ⟨rq1, bw_25⟩
 rw [if_pos c4] at H
 have c4b0 : (((l0.length : Int) % 2) == 0) = true := beq_iff_eq.mpr c4
 have c4b1 : (((l0.length : Int) % 2) != 0) = false := bne_eq_false_iff_eq.mpr c4
 clear c4
 replace H := bez H
 obtain ⟨t563, A5, H⟩ := H
 replace H : (some t563) = some r := H
 obtain rfl := Option.some.inj H
 go_enter Try.func25, Try.ntmps25
 go_wp2_with (first | ((with_reducible refine gtC (f := 37) rfl ?_); refine clz Try.func37 (some 5) #[.int .i64 (l0.length : Int), .int .i64 2, .int .i64 24] ?_; (with_reducible refine (spec_l1In.calls (l0.length : Int) 2 24 true _ A2.out).mono ?_); rintro e w' ⟨rfl, ⟨nd, rfl⟩⟩; refine ⟨_, rfl, ?_⟩) | (go_at_call 52; (with_reducible refine (spec_l6Perm.calls k _ _ l0 t563 _ ?side1 ?side2 A5.out).mono ?_); (case side1 => exact kC HR0.out); (case side2 => exact HC0.out); rintro e w6 ⟨rfl, hb⟩; replace HB := Az.mk (bwT bw_25 hb); (try clear hb)))
 go_ret
 exact ⟨rq1, bw_25⟩

/-! ### spec_CyclesOf: function 26 -/
def spec_CyclesOf.f (k : Nat) (l0 : List Int) : Option ((List (List Int))) := (spec_IsMap.f k l0).bind fun t564 => (if t564 = true then ((spec_l6Cycles.f k l0).bind fun t565 => (some t565)) else (some (([] : List (List Int)))))
set_option maxHeartbeats 8000000 in
set_option maxRecDepth 100000 in
theorem spec_CyclesOf.calls (k : Nat) (A0 : Option Addr) (c0 : Nat) (l0 : List Int) (r : List (List Int)) (w : World) (hr0 : Kd.C (Kd.int .i64) w A0 l0.length l0) (hc0 : l0.length ≤ c0) (h : spec_CyclesOf.f k l0 = some r) :
  Calls Try.prog 26 #[.slice A0 l0.length c0] w fun e w' => ∃ v0_ : Value, e = .returned (v0_) ∧ Kd.S (Kd.slice 3 (Kd.int .i64)) 24 w' w.heap.size (fun _ => True) v0_ r ∧ Below w.heap.size w w' := by
 have HR0 := Az.mk hr0
 have HC0 := Az.mk hc0
 clear hr0 hc0
 have HB := Az.mk (Below.refl w.heap.size w)
 have H : ((spec_IsMap.f k l0).bind fun t564 => (if t564 = true then ((spec_l6Cycles.f k l0).bind fun t565 => (some t565)) else (some (([] : List (List Int)))))) = some r := h
 clear h
 replace H := bez H
 obtain ⟨t564, A2, H⟩ := H
 try dsimp only at H
 by_cases c3 : t564 = true
 ·subst c3
  rw [if_pos rfl] at H
  replace H := bez H
  obtain ⟨t565, A4, H⟩ := H
  replace H : (some t565) = some r := H
  obtain rfl := Option.some.inj H
  go_enter Try.func26, Try.ntmps26
  go_wp2_with (first | ((with_reducible refine gtC (f := 25) rfl ?_); refine clz Try.func25 (some 4) #[.slice A0 l0.length c0] ?_; (with_reducible refine (spec_IsMap.calls k _ _ l0 true _ ?side1 ?side2 A2.out).mono ?_); (case side1 => exact kC HR0.out); (case side2 => exact HC0.out); rintro e w5 ⟨rfl, hb⟩; refine ⟨_, rfl, ?_⟩; replace HB := Az.mk (bwT bw_25 hb); (try clear hb)) | ((with_reducible refine gtC (f := 53) rfl ?_); refine clz Try.func53 (some 8) #[.slice A0 l0.length c0] ?_; (with_reducible refine (spec_l6Cycles.calls k _ _ l0 t565 _ ?side1 ?side2 A4.out).mono ?_); (case side1 => exact kC (Kd.C_below HR0.out HB.out)); (case side2 => exact HC0.out); rintro e w6 ⟨v566, rfl, ho0, hb⟩; refine ⟨_, rfl, ?_⟩; have HO567 := Az.mk (Kd.S_lower ho0 (bwZ bw_25)); replace HB := Az.mk (bwT bw_25 hb); (try clear hb); (try clear ho0)))
  go_ret
  exact ⟨_, rq1, kS HO567.out, bw_25⟩
 replace c3 := Bool.eq_false_iff.mpr c3
 subst c3
 rw [if_neg ff] at H
 obtain ⟨y568, hy⟩ : ∃ y_ : List (List Int), y_ = (([] : List (List Int))) := ⟨_, rfl⟩
 replace H : (some y568) = some r := rh
 have Ny568 := Az.mk hy
 clear hy
 obtain rfl := Option.some.inj H
 go_enter Try.func26, Try.ntmps26
 go_wp2_with (first | ((with_reducible refine gtC (f := 25) rfl ?_); refine clz Try.func25 (some 4) #[.slice A0 l0.length c0] ?_; (with_reducible refine (spec_IsMap.calls k _ _ l0 false _ ?side1 ?side2 A2.out).mono ?_); (case side1 => exact kC HR0.out); (case side2 => exact HC0.out); rintro e w7 ⟨rfl, hb⟩; refine ⟨_, rfl, ?_⟩; replace HB := Az.mk (bwT bw_25 hb); (try clear hb)) | ((with_reducible refine gtD (N := 6) rfl ?_); refine Kd.S_lit (Kd.slice 3 (Kd.int .i64)) _ 24 ?hg (N := 6) ?hd (xs := ([] : List (List Int))) (inner := []) (ok := fun _ => True) (okp := fun _ => True) ?hr ?hp (fun _ hk => hk) trivial (Below.refl _ _) (Nat.le_refl _) (by simp) ?_; (case hd => rfl); (case hg => rfl); (case hr => first | (go_simp; done) | (go_simp; rfl)); (case hp => exact (Reps.none _ _)); intro v569 w8 ho9 hb hg_ hnew_; clear hg_ hnew_; (first | rw [← Ny568.out] at ho9 | (simp only [Int.reduceToNat] at ho9; rw [← Ny568.out] at ho9)); have HO570 := Az.mk (Kd.S_lower ho9 (bwZ bw_25)); replace HB := Az.mk (bwT bw_25 hb); clear hb ho9))
 go_ret
 exact ⟨_, rq1, kS HO570.out, bw_25⟩

/-! ### spec_MapParts: function 27 -/
def spec_MapParts.f (k : Nat) (l0 : List Int) : Option (Int) := (spec_IsMap.f k l0).bind fun t571 => (if t571 = true then ((spec_l6Parts.f k l0).bind fun t572 => (some t572)) else (some (-1)))
set_option maxHeartbeats 8000000 in
set_option maxRecDepth 100000 in
theorem spec_MapParts.calls (k : Nat) (A0 : Option Addr) (c0 : Nat) (l0 : List Int) (r : Int) (w : World) (hr0 : Kd.C (Kd.int .i64) w A0 l0.length l0) (hc0 : l0.length ≤ c0) (h : spec_MapParts.f k l0 = some r) :
  Calls Try.prog 27 #[.slice A0 l0.length c0] w fun e w' => e = .returned (.int .i64 r) ∧ Below w.heap.size w w' := by
 have HR0 := Az.mk hr0
 have HC0 := Az.mk hc0
 clear hr0 hc0
 have HB := Az.mk (Below.refl w.heap.size w)
 have H : ((spec_IsMap.f k l0).bind fun t571 => (if t571 = true then ((spec_l6Parts.f k l0).bind fun t572 => (some t572)) else (some (-1)))) = some r := h
 clear h
 replace H := bez H
 obtain ⟨t571, A2, H⟩ := H
 try dsimp only at H
 by_cases c3 : t571 = true
 rotate_left
 ·replace c3 := Bool.eq_false_iff.mpr c3
  subst c3
  rw [if_neg ff] at H
  obtain rfl := Option.some.inj H
  go_enter Try.func27, Try.ntmps27
  go_wp2_with (first | ((with_reducible refine gtC (f := 25) rfl ?_); refine clz Try.func25 (some 4) #[.slice A0 l0.length c0] ?_; (with_reducible refine (spec_IsMap.calls k _ _ l0 false _ ?side1 ?side2 A2.out).mono ?_); (case side1 => exact kC HR0.out); (case side2 => exact HC0.out); rintro e w7 ⟨rfl, hb⟩; refine ⟨_, rfl, ?_⟩; replace HB := Az.mk (bwT bw_25 hb); (try clear hb)))
  go_ret
  exact ⟨rq1, bw_25⟩
 subst c3
 rw [if_pos rfl] at H
 replace H := bez H
 obtain ⟨t572, A4, H⟩ := H
 replace H : (some t572) = some r := H
 obtain rfl := Option.some.inj H
 go_enter Try.func27, Try.ntmps27
 go_wp2_with (first | ((with_reducible refine gtC (f := 25) rfl ?_); refine clz Try.func25 (some 4) #[.slice A0 l0.length c0] ?_; (with_reducible refine (spec_IsMap.calls k _ _ l0 true _ ?side1 ?side2 A2.out).mono ?_); (case side1 => exact kC HR0.out); (case side2 => exact HC0.out); rintro e w5 ⟨rfl, hb⟩; refine ⟨_, rfl, ?_⟩; replace HB := Az.mk (bwT bw_25 hb); (try clear hb)) | ((with_reducible refine gtC (f := 54) rfl ?_); refine clz Try.func54 (some 7) #[.slice A0 l0.length c0] ?_; (with_reducible refine (spec_l6Parts.calls k _ _ l0 t572 _ ?side1 ?side2 A4.out).mono ?_); (case side1 => exact kC (Kd.C_below HR0.out HB.out)); (case side2 => exact HC0.out); rintro e w6 ⟨rfl, hb⟩; refine ⟨_, rfl, ?_⟩; replace HB := Az.mk (bwT bw_25 hb); (try clear hb)))
 go_ret
 exact ⟨rq1, bw_25⟩

/-! ### laws_total: function 28 -/
def laws_total.l0 : Nat → List Int → Int → Int → Option (Int)
 | 0, _, _, _ => none
 | k + 1, x0, x3, x4 => if x4 < (x0.length : Int) then (if 0 ≤ x4 then (laws_total.l0 k x0 (wrap64 (x3 + (rd x0 x4))) (wrap64 (x4 + 1))) else (none)) else (some x3)
def laws_total.f (k : Nat) (l0 : List Int) : Option (Int) := laws_total.l0 k l0 0 0
set_option maxHeartbeats 8000000 in
set_option maxRecDepth 100000 in
theorem laws_total.calls (k : Nat) (A0 : Option Addr) (c0 : Nat) (l0 : List Int) (r : Int) (w : World) (hr0 : Kd.C (Kd.int .i64) w A0 l0.length l0) (hc0 : l0.length ≤ c0) (h : laws_total.f k l0 = some r) :
  Calls Try.prog 28 #[.slice A0 l0.length c0] w fun e w' => e = .returned (.int .i64 r) ∧ Drawn0 w w' := by
 have HR0 := Az.mk hr0
 have HC0 := Az.mk hc0
 clear hr0 hc0
 have H : (laws_total.l0 k l0 0 0) = some r := h
 clear h
 have H' := Az.mk H
 clear H
 go_enter Try.func28, Try.ntmps28
 go_wp2
 go_loopg [3, 4] k (fun kq v3 v4 w' => ∃ (x3_1 : Int) (x4_1 : Int), v3 = .int .i64 x3_1 ∧ v4 = .int .i64 x4_1 ∧ Az (laws_total.l0 kq l0 x3_1 x4_1 = some r) ∧ Az (kq ≤ k) ∧ Drawn0 w w')
 case atStart => exact ⟨(0), (0), rq2, rq2, H', ⟨Nat.le_refl _⟩, kd⟩
 clear H'
 obtain ⟨x3_1, x4_1, rfl, rfl, HA, HK1, ⟨m1, rfl⟩⟩ := hrel
 cases gk with
 | zero => exact absurd HA.out (by simp [laws_total.l0])
 | succ k1 =>
  have H := HA.out
  clear HA
  simp only [laws_total.l0] at H
  by_cases c2 : x4_1 < (l0.length : Int)
  rotate_left
  ·rw [if_neg c2] at H
   have c2b0 : decide (x4_1 < (l0.length : Int)) = false := decide_eq_false c2
   clear c2
   obtain rfl := Option.some.inj H
   go_wp2
   go_ret
   exact ⟨rq2, kd⟩
  rw [if_pos c2] at H
  have c2b0 : decide (x4_1 < (l0.length : Int)) = true := decide_eq_true c2
  clear c2
  by_cases c3 : 0 ≤ x4_1
  rotate_left
  ·rw [if_neg c3] at H
   exact absurd H (by simp)
  rw [if_pos c3] at H
  have c3b0 : decide (0 ≤ x4_1) = true := decide_eq_true c3
  clear c3
  have H' := Az.mk H
  clear H
  have p573 : 0 ≤ (x4_1 : Int) := of_decide_eq_true am
  have q573 : x4_1 < (l0.length : Int) := of_decide_eq_true am
  obtain ⟨ad573, e573, hx573_0⟩ := Kd.at_int HR0.out x4_1 p573 q573
  cases e573
  replace p573 := eq_true p573
  replace q573 := eq_true q573
  go_wp2
  go_roundg k1
  case measure => have := HK1.out; omega
  case rel => exact ⟨(wrap64 (x3_1 + (rd l0 x4_1))), (wrap64 (x4_1 + 1)), rq2, rq2, H', ⟨by have := HK1.out; omega⟩, kd⟩

end Go.Proofs.Ytkmjcdlhlhefdaa.P
