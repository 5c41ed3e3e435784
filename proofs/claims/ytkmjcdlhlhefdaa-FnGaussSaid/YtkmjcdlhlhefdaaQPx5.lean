-- The walks (printed by mk.py's driver of the kit's print program, cut by prune.py and sq2.py), laid together by join.py. Not trusted: Lean checks it.
import Derived.Test.YtkmjcdlhlhefdaaQWZip
import Derived.Test.YtkmjcdlhlhefdaaQPx0
import Derived.Test.YtkmjcdlhlhefdaaQPx2
namespace Go.Proofs.Ytkmjcdlhlhefdaa.P
open Go.RowKit Go.Proofs.YtkmjcdlhlhefdaaW.PrintWords Go.Proofs.YtkmjcdlhlhefdaaW.PrintLast Go.Proofs.YtkmjcdlhlhefdaaW.PrintMore
attribute [local go_sem] max2_int min2_int max_two min_two max_three min_three max_four min_four   -- for this text's walks alone
set_option linter.unusedVariables false
set_option linter.unusedSimpArgs false

theorem bw_3 {n : Nat} {v v' : World} (h : Below n v v' := by repeat (first | (with_reducible first | exact HB.out | apply bwA | apply pbN | apply bwD) | exact HB.out)) : Below n v v' := h

theorem ln_3 {P : Prop} (h : P := by (try simp only [List.map_toArray, List.map_cons, List.map_nil]); first | done | rfl | (simp only [List.length_drop, List.length_take]; rfl)) : P := h

/-! ### impl_IsWord: function 49 -/
def impl_IsWord.l0 : Nat → List Int → List Int → Int → Int → Option (Bool)
 | 0, _, _, _, _ => none
 | k + 1, x0, x5, x6, x7 => if x7 < x6 then (if 0 ≤ x7 then (if x7 < (x5.length : Int) then ((impl_isLetter.f (rd x5 x7)).bind fun t179 => (if t179 = true then (impl_IsWord.l0 k x0 x5 x6 (wrap64 (x7 + 1))) else (some false))) else (none)) else (none)) else (some (decide ((x0.length : Int) ≤ 24)))
def impl_IsWord.f (k : Nat) (l0 : List Int) : Option (Bool) := impl_IsWord.l0 k l0 l0 (l0.length : Int) 0
set_option maxHeartbeats 8000000 in
set_option maxRecDepth 100000 in
theorem impl_IsWord.calls (k : Nat) (A0 : Option Addr) (c0 : Nat) (l0 : List Int) (r : Bool) (w : World) (hr0 : Kd.C (Kd.int .i64) w A0 l0.length l0) (hc0 : l0.length ≤ c0) (h : impl_IsWord.f k l0 = some r) :
  Calls Try.prog 49 #[.slice A0 l0.length c0] w fun e w' => e = .returned (.bool r) ∧ Drawn0 w w' := by
 have HR0 := Az.mk hr0
 have HC0 := Az.mk hc0
 clear hr0 hc0
 have H : (impl_IsWord.l0 k l0 l0 (l0.length : Int) 0) = some r := h
 clear h
 have H' := Az.mk H
 clear H
 go_enter Try.func49, Try.ntmps49
 go_wp2
 go_loopg [7] k (fun kq v7 w' => ∃ (x7_1 : Int), v7 = .int .i64 x7_1 ∧ Az (impl_IsWord.l0 kq l0 l0 (l0.length : Int) x7_1 = some r) ∧ Az (kq ≤ k) ∧ Drawn0 w w')
 case atStart => exact ⟨(0), rq2, H', ⟨Nat.le_refl _⟩, kd⟩
 clear H'
 obtain ⟨x7_1, rfl, HA, HK1, ⟨m1, rfl⟩⟩ := hrel
 cases gk with
 | zero => exact absurd HA.out (by simp [impl_IsWord.l0])
 | succ k1 =>
  have H := HA.out
  clear HA
  simp only [impl_IsWord.l0] at H
  by_cases c2 : x7_1 < (l0.length : Int)
  rotate_left
  ·rw [if_neg c2] at H
   have c2b0 : decide (x7_1 < (l0.length : Int)) = false := decide_eq_false c2
   clear c2
   obtain rfl := Option.some.inj H
   go_wp2
   go_ret
   exact ⟨rq2, kd⟩
  rw [if_pos c2] at H
  have c2b0 : decide (x7_1 < (l0.length : Int)) = true := decide_eq_true c2
  clear c2
  by_cases c3 : 0 ≤ x7_1
  rotate_left
  ·rw [if_neg c3] at H
   exact absurd H (by simp)
  rw [if_pos c3] at H
  have c3b0 : decide (0 ≤ x7_1) = true := decide_eq_true c3
  clear c3
  by_cases c4 : x7_1 < (l0.length : Int)
  rotate_left
  ·rw [if_neg c4] at H
   exact absurd H (by simp)
  rw [if_pos c4] at H
  have c4b0 : decide (x7_1 < (l0.length : Int)) = true := decide_eq_true c4
  clear c4
  replace H := bez H
  obtain ⟨t179, A5, H⟩ := H
  try dsimp only at H
  by_cases c6 : t179 = true
  rotate_left
  ·replace c6 := Bool.eq_false_iff.mpr c6
   subst c6
   rw [if_neg ff] at H
   obtain rfl := Option.some.inj H
   have p178 : 0 ≤ (x7_1 : Int) := of_decide_eq_true am
   have q178 : x7_1 < (l0.length : Int) := of_decide_eq_true am
   obtain ⟨ad178, e178, hx178_0⟩ := Kd.at_int HR0.out x7_1 p178 q178
   cases e178
   replace p178 := eq_true p178
   replace q178 := eq_true q178
   go_wp2_with (first | ((with_reducible refine gtC (f := 67) rfl ?_); refine clz Try.func67 (some 12) #[.int .i64 (rd l0 x7_1)] ?_; (with_reducible refine (impl_isLetter.calls (rd l0 x7_1) false _ A5.out).mono ?_); rintro e w' ⟨rfl, ⟨nd, rfl⟩⟩; refine ⟨_, rfl, ?_⟩))
   go_ret
   exact ⟨rq2, kd⟩
  subst c6
  rw [if_pos rfl] at H
  have H' := Az.mk H
  clear H
  have p178 : 0 ≤ (x7_1 : Int) := of_decide_eq_true am
  have q178 : x7_1 < (l0.length : Int) := of_decide_eq_true am
  obtain ⟨ad178, e178, hx178_0⟩ := Kd.at_int HR0.out x7_1 p178 q178
  cases e178
  replace p178 := eq_true p178
  replace q178 := eq_true q178
  go_wp2_with (first | ((with_reducible refine gtC (f := 67) rfl ?_); refine clz Try.func67 (some 12) #[.int .i64 (rd l0 x7_1)] ?_; (with_reducible refine (impl_isLetter.calls (rd l0 x7_1) true _ A5.out).mono ?_); rintro e w' ⟨rfl, ⟨nd, rfl⟩⟩; refine ⟨_, rfl, ?_⟩))
  go_roundg k1
  case measure => have := HK1.out; omega
  case rel => exact ⟨(wrap64 (x7_1 + 1)), rq2, H', ⟨by have := HK1.out; omega⟩, kd⟩

/-! ### impl_size: function 77 -/
def impl_size.f (a0 : Int) : Option (Int) := some (mx a0 (wrap64 (-a0)))
set_option maxHeartbeats 8000000 in
set_option maxRecDepth 100000 in
theorem impl_size.calls (a0 : Int) (r : Int) (w : World) (h : impl_size.f a0 = some r) :
  Calls Try.prog 77 #[.int .i64 a0] w fun e w' => e = .returned (.int .i64 r) ∧ Below w.heap.size w w' := by
 have HB := Az.mk (Below.refl w.heap.size w)
 have H : (some (mx a0 (wrap64 (-a0)))) = some r := h
 clear h
 obtain ⟨ji2, hji2⟩ : ∃ j_ : Int, (mx a0 (wrap64 (-a0))) = j_ := ⟨_, rfl⟩
 replace H : (some ji2) = some r := by first | (rw [hji2] at H; exact H) | (simp only [hji2] at H ⊢; exact H)
 have hji2_ : (if a0 < (wrap64 (-a0)) then (wrap64 (-a0)) else a0) = ji2 := hji2
 obtain rfl := Option.some.inj H
 go_enter Try.func77, Try.ntmps77
 go_wp2
 go_ret
 exact ⟨by first | rfl | (simp [eWn, eWs] <;> rfl) | (simp only [← hji2]; first | rfl | (simp [eWn, eWs] <;> rfl)) | (simp [*, eWn, eWs] <;> rfl), bw_3⟩

/-! ### impl_letterCounts: function 68 -/
mutual
def impl_letterCounts.l0 : Nat → List Int → List (List Int) → Int → Int → Option (List Int)
 | 0, _, _, _, _ => none
 | k + 1, x3, x9, x10, x11 => if x11 < x10 then (if 0 ≤ x11 then (if x11 < (x9.length : Int) then (impl_letterCounts.l1 k x3 x9 x10 x11 (rd_L1 x9 x11) ((rd_L1 x9 x11).length : Int) 0) else (none)) else (none)) else (some x3)
def impl_letterCounts.l1 : Nat → List Int → List (List Int) → Int → Int → List Int → Int → Int → Option (List Int)
 | 0, _, _, _, _, _, _, _ => none
 | k + 1, x3, x9, x10, x11, x15, x16, x17 => if x17 < x16 then (if 0 ≤ x17 then (if x17 < (x15.length : Int) then ((impl_size.f (rd x15 x17)).bind fun t185 => (if 0 ≤ t185 then (if t185 < (x3.length : Int) then (impl_letterCounts.l1 k (x3.set (t185 : Int).toNat (wrap64 ((rd x3 t185) + 1))) x9 x10 x11 x15 x16 (wrap64 (x17 + 1))) else (none)) else (none))) else (none)) else (none)) else (impl_letterCounts.l0 k x3 x9 x10 (wrap64 (x11 + 1)))
end
def impl_letterCounts.f (k : Nat) (l0 : List (List Int)) : Option (List Int) := if 9 ≤ 35184372088832 then (impl_letterCounts.l0 k (List.replicate 9 0) l0 (l0.length : Int) 0) else (none)
set_option maxHeartbeats 8000000 in
set_option maxRecDepth 100000 in
theorem impl_letterCounts.calls (k : Nat) (A0 : Option Addr) (c0 : Nat) (l0 : List (List Int)) (r : List Int) (w : World) (hr0 : Kd.C (Kd.slice 3 (Kd.int .i64)) w A0 l0.length l0) (hc0 : l0.length ≤ c0) (h : impl_letterCounts.f k l0 = some r) :
  Calls Try.prog 68 #[.slice A0 l0.length c0] w fun e w' => ∃ v0_ : Value, e = .returned (v0_) ∧ Kd.R (Kd.int .i64) 3 w' w.heap.size (fun _ => True) v0_ r ∧ Below w.heap.size w w' := by
 have HR0 := Az.mk hr0
 have HC0 := Az.mk hc0
 clear hr0 hc0
 have HB := Az.mk (Below.refl w.heap.size w)
 have H : (if 9 ≤ 35184372088832 then (impl_letterCounts.l0 k (List.replicate 9 0) l0 (l0.length : Int) 0) else (none)) = some r := h
 clear h
 by_cases c2 : 9 ≤ 35184372088832
 rotate_left
 ·rw [if_neg c2] at H
  exact absurd H (by simp)
 rw [if_pos c2] at H
 have c2b0 := eq_true c2
 have c2b1 : decide (9 ≤ 35184372088832) = true := decide_eq_true c2
 clear c2
 obtain ⟨y180, hy⟩ : ∃ y_ : List Int, y_ = (List.replicate 9 0) := ⟨_, rfl⟩
 replace H : (impl_letterCounts.l0 k y180 l0 (l0.length : Int) 0) = some r := rh
 have Ny180 := Az.mk hy
 clear hy
 have H' := Az.mk H
 clear H
 go_enter Try.func68, Try.ntmps68
 go_wp2_with (first | ((with_reducible refine gtD (N := 8) rfl ?_); refine Kd.R_make (Kd.int .i64) _ 3 rfl (N := 8) rfl 24 _ _ rfl 9 rfl rfl Try.underlying24 (.int .i64 0) 8 info3 rfl (by decide) (by omega) 0 (ok := fun _ => True) (okp := fun _ => True) rfl (fun _ hk => hk) trivial (by omega) (by omega) (Below.refl _ _) (Nat.le_refl _) ?_; intro v181 w3 ho4 hb hg_ hnew_; clear hg_ hnew_; (first | rw [← Ny180.out] at ho4 | (simp only [Int.reduceToNat] at ho4; rw [← Ny180.out] at ho4)); have HO182 := Az.mk (Kd.R_lower ho4 (bwZ bw_3)); replace HB := Az.mk (bwT bw_3 hb); clear hb ho4))
 go_loopg [11] k (fun kq v11 w' => ∃ (x3_1 : List Int) (x11_1 : Int), v11 = .int .i64 x11_1 ∧ Az (impl_letterCounts.l0 kq x3_1 l0 (l0.length : Int) x11_1 = some r) ∧ Az (kq ≤ k) ∧ Az (Kd.R (Kd.int .i64) 3 w' w.heap.size (fun _ => True) v181 x3_1) ∧ Az (Below w.heap.size w w'))
 case atStart => exact ⟨(y180), (0), rq2, H', ⟨Nat.le_refl _⟩, ⟨kR HO182.out⟩, ⟨bw_3⟩⟩
 clear H'
 try clear c2
 try clear c2b0
 try clear c2b1
 obtain ⟨x3_1, x11_1, rfl, HA, HK1, HO_3, HB⟩ := hrel
 cases gk with
 | zero => exact absurd HA.out (by simp [impl_letterCounts.l0])
 | succ k1 =>
  have H := HA.out
  clear HA
  simp only [impl_letterCounts.l0] at H
  by_cases c5 : x11_1 < (l0.length : Int)
  rotate_left
  ·rw [if_neg c5] at H
   have c5b0 : decide (x11_1 < (l0.length : Int)) = false := decide_eq_false c5
   clear c5
   obtain rfl := Option.some.inj H
   go_wp2
   go_ret
   exact ⟨_, rq1, kR HO_3.out, bw_3⟩
  rw [if_pos c5] at H
  have c5b0 : decide (x11_1 < (l0.length : Int)) = true := decide_eq_true c5
  clear c5
  by_cases c6 : 0 ≤ x11_1
  rotate_left
  ·rw [if_neg c6] at H
   exact absurd H (by simp)
  rw [if_pos c6] at H
  have c6b0 : decide (0 ≤ x11_1) = true := decide_eq_true c6
  clear c6
  by_cases c7 : x11_1 < (l0.length : Int)
  rotate_left
  ·rw [if_neg c7] at H
   exact absurd H (by simp)
  rw [if_pos c7] at H
  have c7b0 : decide (x11_1 < (l0.length : Int)) = true := decide_eq_true c7
  clear c7
  have H' := Az.mk H
  clear H
  have p183 : 0 ≤ (x11_1 : Int) := of_decide_eq_true am
  have q183 : x11_1 < (l0.length : Int) := of_decide_eq_true am
  obtain ⟨ad183, A183_0, c183_0, e183, hx183_0, hl183_0, hi183_0⟩ := at_L1 HR0.out x11_1 p183 q183
  cases e183
  replace hx183_0 := kc HB hx183_0
  have HR183_0 := Az.mk hi183_0
  have HC183_0 := Az.mk hl183_0
  clear hi183_0 hl183_0
  replace p183 := eq_true p183
  replace q183 := eq_true q183
  go_wp2
  go_loopg [17] k1 (fun kq v17 w' => ∃ (x3_2 : List Int) (x17_2 : Int), v17 = .int .i64 x17_2 ∧ Az (impl_letterCounts.l1 kq x3_2 l0 (l0.length : Int) x11_1 (rd_L1 l0 x11_1) ((rd_L1 l0 x11_1).length : Int) x17_2 = some r) ∧ Az (kq ≤ k1) ∧ Az (Kd.R (Kd.int .i64) 3 w' w.heap.size (fun _ => True) v181 x3_2) ∧ Az (Below w.heap.size w w'))
  case atStart => exact ⟨(x3_1), (0), rq2, H', ⟨Nat.le_refl _⟩, ⟨kR HO_3.out⟩, ⟨bw_3⟩⟩
  clear H'
  try clear c2
  try clear c2b0
  try clear c2b1
  try clear c5
  try clear c5b0
  try clear c6
  try clear c6b0
  try clear c7
  try clear c7b0
  try clear hx183_0
  try clear p183
  try clear q183
  obtain ⟨x3_2, x17_2, rfl, HA, HK2, HO_3, HB⟩ := hrel
  cases gk with
  | zero => exact absurd HA.out (by simp [impl_letterCounts.l1])
  | succ k2 =>
   have H := HA.out
   clear HA
   simp only [impl_letterCounts.l1] at H
   by_cases c8 : x17_2 < ((rd_L1 l0 x11_1).length : Int)
   rotate_left
   ·rw [if_neg c8] at H
    have c8b0 : decide (x17_2 < ((rd_L1 l0 x11_1).length : Int)) = false := decide_eq_false c8
    clear c8
    have H' := Az.mk H
    clear H
    go_wp2
    go_roundg k2
    case measure => have := HK1.out; have := HK2.out; omega
    case rel => exact ⟨(x3_2), (wrap64 (x11_1 + 1)), rq2, H', ⟨by have := HK1.out; have := HK2.out; omega⟩, ⟨kR HO_3.out⟩, ⟨bw_3⟩⟩
   rw [if_pos c8] at H
   have c8b0 : decide (x17_2 < ((rd_L1 l0 x11_1).length : Int)) = true := decide_eq_true c8
   clear c8
   by_cases c9 : 0 ≤ x17_2
   rotate_left
   ·rw [if_neg c9] at H
    exact absurd H (by simp)
   rw [if_pos c9] at H
   have c9b0 : decide (0 ≤ x17_2) = true := decide_eq_true c9
   clear c9
   by_cases c10 : x17_2 < ((rd_L1 l0 x11_1).length : Int)
   rotate_left
   ·rw [if_neg c10] at H
    exact absurd H (by simp)
   rw [if_pos c10] at H
   have c10b0 : decide (x17_2 < ((rd_L1 l0 x11_1).length : Int)) = true := decide_eq_true c10
   clear c10
   replace H := bez H
   obtain ⟨t185, A11, H⟩ := H
   try dsimp only at H
   by_cases c12 : 0 ≤ t185
   rotate_left
   ·rw [if_neg c12] at H
    exact absurd H (by simp)
   rw [if_pos c12] at H
   have c12b0 : decide (0 ≤ t185) = true := decide_eq_true c12
   clear c12
   by_cases c13 : t185 < (x3_2.length : Int)
   rotate_left
   ·rw [if_neg c13] at H
    exact absurd H (by simp)
   rw [if_pos c13] at H
   have c13b0 : decide (t185 < (x3_2.length : Int)) = true := decide_eq_true c13
   clear c13
   obtain ⟨y187, hy⟩ : ∃ y_ : List Int, y_ = (x3_2.set (t185 : Int).toNat (wrap64 ((rd x3_2 t185) + 1))) := ⟨_, rfl⟩
   replace H : (impl_letterCounts.l1 k2 y187 l0 (l0.length : Int) x11_1 (rd_L1 l0 x11_1) ((rd_L1 l0 x11_1).length : Int) (wrap64 (x17_2 + 1))) = some r := rh
   have Ny187 := Az.mk hy
   clear hy
   have H' := Az.mk H
   clear H
   have p184 : 0 ≤ (x17_2 : Int) := of_decide_eq_true am
   have q184 : x17_2 < ((rd_L1 l0 x11_1).length : Int) := of_decide_eq_true am
   obtain ⟨ad184, e184, hx184_0⟩ := Kd.at_int HR183_0.out x17_2 p184 q184
   cases e184
   replace hx184_0 := kc HB hx184_0
   replace p184 := eq_true p184
   replace q184 := eq_true q184
   go_wp2_with (first | ((with_reducible refine gtC (f := 77) rfl ?_); refine clz Try.func77 (some 23) #[.int .i64 (rd (rd_L1 l0 x11_1) x17_2)] ?_; (with_reducible refine (impl_size.calls (rd (rd_L1 l0 x11_1) x17_2) t185 _ A11.out).mono ?_); rintro e w15 ⟨rfl, hb⟩; refine ⟨_, rfl, ?_⟩; replace HO_3 := Az.mk (Kd.R_below (kR HO_3.out) hb); replace HB := Az.mk (bwT bw_3 hb); (try clear hb); obtain ⟨Ao16, co16, eo16⟩ := Kd.R_slice HO_3.out; subst eo16; have p186 : 0 ≤ (t185 : Int) := of_decide_eq_true am; have q186 : t185 < (x3_2.length : Int) := of_decide_eq_true am; obtain ⟨ad186, e186, hx186_0⟩ := Kd.at_int (Kd.R_reads' HO_3.out).2.2 t185 p186 q186; cases e186; replace p186 := eq_true p186; replace q186 := eq_true q186; have p14 : 0 ≤ (t185 : Int) := of_decide_eq_true am; have q14 : (t185 : Int) < ((x3_2.length : Int) : Int) := of_decide_eq_true am; obtain ⟨go14, co14, eo14, gb14, gl14, cl14, HG14⟩ := Kd.R_form HO_3.out (by omega); (first | cases eo14 | (injection eo14 with ea_ en_ ec_; (first | subst ea_ | (injection ea_ with ea_; subst ea_)); subst ec_; clear en_)); have GB14 := Az.mk gb14; have GG14 := Az.mk HG14; clear gb14 gl14 HG14; (first | simp only [add_plain] at hx186_0 | skip); obtain ⟨hx14_0, hf14_0⟩ := Kd.R_celln 0 HO_3.out (t185 : Int) p14 q14; replace p14 := eq_true p14; replace q14 := eq_true q14; obtain ⟨hy17_, hz17_⟩ := Kd.R_celln 0 HO_3.out (t185 : Int) (of_decide_eq_true am) (of_decide_eq_true am); have HP17 := Kd.R_putg HO_3.out (t185 : Int) (wrap64 ((rd x3_2 t185) + 1))) | ((with_reducible refine gate_store (t := 3) (p := 27) rfl ?_); refine store_event (t := 3) (p := 27) (v := ?vo_w18) (w1 := (w15.setCell ⟨go14, (t185 : Int).toNat, none⟩ (.int .i64 (wrap64 ((rd x3_2 t185) + 1))))) ?hg ?ho ?hn ?hr ?_; (case ho => rfl); (case hg => rfl); (case hn => rfl); (case hr => first | (go_simp; done) | (go_simp; rfl)); intro w18 hw; have hg : w15.grownBy w18 (some go14) := (by rw [hw]; exact HP17.2); have hp_ : Kd.R (Kd.int .i64) 3 w18 w.heap.size (fun _ => True) (.slice (some ⟨go14, 0, none⟩) x3_2.length co16) y187 := (by rw [hw, Ny187.out]; exact HP17.1); clear HP17; replace HO_3 := Az.mk (hp_); replace HB := Az.mk ((by rw [hw]; exact bwS (HB.out) GB14.out : Below w.heap.size w w18)); clear hg hw hp_))
   go_roundg k2
   case measure => have := HK1.out; have := HK2.out; omega
   case rel => exact ⟨(y187), (wrap64 (x17_2 + 1)), rq2, H', ⟨by have := HK1.out; have := HK2.out; omega⟩, ⟨kR HO_3.out⟩, ⟨bw_3⟩⟩

/-! ### impl_crossings: function 50 -/
def impl_crossings.f (k : Nat) (l0 : List Int) : Option (List Int) := (impl_letterCounts.f k (([l0] : List (List Int)))).bind fun t191 => (some t191)
set_option maxHeartbeats 8000000 in
set_option maxRecDepth 100000 in
theorem impl_crossings.calls (k : Nat) (P0_ : Nat → Prop) (A0 : Option Addr) (c0 : Nat) (l0 : List Int) (r : List Int) (w : World) (hs0 : Kd.V (Kd.int .i64) 3 w w.heap.size (fun k_ => P0_ k_) (.slice A0 l0.length c0) l0) (h : impl_crossings.f k l0 = some r) :
  Calls Try.prog 50 #[.slice A0 l0.length c0] w fun e w' => ∃ v0_ : Value, e = .returned (v0_) ∧ Kd.R (Kd.int .i64) 3 w' w.heap.size (fun k_ => (w.heap.size ≤ k_)) v0_ r ∧ Below w.heap.size w w' := by
 have HO0 := Az.mk (show Kd.V (Kd.int .i64) 3 w w.heap.size (fun k_ => (P0_ k_ ∨ w.heap.size ≤ k_)) (.slice A0 l0.length c0) l0 from Kd.V_mono hs0 (fun k_ hk => .inl hk))
 have HB := Az.mk (Below.refl w.heap.size w)
 have H : ((impl_letterCounts.f k (([l0] : List (List Int)))).bind fun t191 => (some t191)) = some r := h
 clear h
 obtain ⟨y188, hy⟩ : ∃ y_ : List (List Int), y_ = (([l0] : List (List Int))) := ⟨_, rfl⟩
 replace H : ((impl_letterCounts.f k y188).bind fun t191 => (some t191)) = some r := rh
 have Ny188 := Az.mk hy
 clear hy
 replace H := bez H
 obtain ⟨t191, A2, H⟩ := H
 replace H : (some t191) = some r := H
 obtain rfl := Option.some.inj H
 go_enter Try.func50, Try.ntmps50
 go_wp2_with (first | ((with_reducible refine gtD (N := 4) rfl ?_); refine Kd.N_lit (Kd.slice 3 (Kd.int .i64)) _ 24 ?hg (N' := 4) ?hd (xs := ([l0] : List (List Int))) (inner := [.slice A0 l0.length c0]) (ok := (fun k_ => (P0_ k_ ∨ w.heap.size ≤ k_))) (okp := (fun k_ => (P0_ k_ ∨ w.heap.size ≤ k_))) ?hr ?hp (fun _ hk => hk) ((show ∀ k_, w.heap.size ≤ k_ → (fun k_ => (P0_ k_ ∨ w.heap.size ≤ k_)) k_ from fun k_ hk => (.inr (Nat.le_trans (bwZ bw_3) hk))) _ (Nat.le_refl _)) (Below.refl _ _) (Nat.le_refl _) (by simp) ?_; (case hd => rfl); (case hg => rfl); (case hr => first | (go_simp; done) | (go_simp; rfl)); (case hp => exact (Reps.one (show Kd.FK (Kd.slice 3 (Kd.int .i64)) _ _ l0 [.slice A0 l0.length c0] from (Kd.FK_slice_mk (Kd.V_reads' (Kd.V_mono (ok' := (fun k_ => (P0_ k_ ∨ w.heap.size ≤ k_))) (HO0.out) (fun k_ hk => hk))).2.1 (Kd.V_F (Kd.V_mono (ok' := (fun k_ => (P0_ k_ ∨ w.heap.size ≤ k_))) (HO0.out) (fun k_ hk => hk))))) (Reps.none _ _))); intro v189 w3 ho4 hb hg_ hnew_; clear hg_ hnew_; (first | rw [← Ny188.out] at ho4 | (simp only [Int.reduceToNat] at ho4; rw [← Ny188.out] at ho4)); replace HO0 := Az.mk (Kd.V_elder' (by (with_reducible repeat (first | apply Kd.V_alloc | apply Kd.V_drewN | apply Kd.V_drew)); exact HO0.out) (Kd.N_base ho4) hb); have HO190 := Az.mk (Kd.N_lower ho4 (bwZ bw_3)); replace HB := Az.mk (bwT bw_3 hb); clear hb ho4; obtain ⟨Ao5, co5, eo5⟩ := Kd.N_slice HO190.out; subst eo5) | ((with_reducible refine gtC (f := 68) rfl ?_); refine clz Try.func68 (some 5) #[.slice Ao5 y188.length co5] ?_; (with_reducible refine (impl_letterCounts.calls k _ _ y188 t191 _ ?side1 ?side2 A2.out).mono ?_); (case side1 => exact kC (Kd.N_reads' HO190.out).2.2); (case side2 => exact (Kd.N_reads' HO190.out).2.1); rintro e w6 ⟨v192, rfl, ho0, hb⟩; refine ⟨_, rfl, ?_⟩; replace HO0 := Az.mk (Kd.V_elder' (by (with_reducible repeat (first | apply Kd.V_alloc | apply Kd.V_drewN | apply Kd.V_drew)); exact HO0.out) (Kd.R_base ho0) hb); replace HO190 := Az.mk (Kd.N_elder' (by (with_reducible repeat (first | apply Kd.N_alloc | apply Kd.N_drewN | apply Kd.N_drew)); exact HO190.out) (Kd.R_base ho0) hb); have HO193 := Az.mk (Kd.R_lower (Kd.R_newM (M := fun k_ => (w.heap.size ≤ k_)) ho0 (bwZ bw_3) (fun k_ h_ => h_)) (bwZ bw_3)); replace HB := Az.mk (bwT bw_3 hb); (try clear hb); (try clear ho0)))
 go_ret
 exact ⟨_, rq1, by (with_reducible repeat (first | apply Kd.R_alloc | apply Kd.R_drewN | apply Kd.R_drew)); exact Kd.R_mono HO193.out (fun _ hk => hk.1), bw_3⟩

end Go.Proofs.Ytkmjcdlhlhefdaa.P
namespace Go.Proofs.Ytkmjcdlhlhefdaa.P
open Go.RowKit Go.Proofs.YtkmjcdlhlhefdaaW.PrintWords Go.Proofs.YtkmjcdlhlhefdaaW.PrintLast Go.Proofs.YtkmjcdlhlhefdaaW.PrintMore
attribute [local go_sem] max2_int min2_int max_two min_two max_three min_three max_four min_four   -- for this text's walks alone
set_option linter.unusedVariables false
set_option linter.unusedSimpArgs false

theorem bw_4 {n : Nat} {v v' : World} (h : Below n v v' := by repeat (first | (with_reducible first | exact HB.out | apply bwA | apply pbN | apply bwD) | exact HB.out)) : Below n v v' := h

/-! ### impl_IsCrossingWord: function 22 -/
mutual
def impl_IsCrossingWord.j0 : Nat → List Int → Bool → Option (Bool)
 | 0, _, _ => none
 | k + 1, x0, x15 => if x15 = true then (some false) else ((impl_crossings.f k x0).bind fun t196 => (impl_IsCrossingWord.l0 k x0 t196 (t196.length : Int) 0))
def impl_IsCrossingWord.l0 : Nat → List Int → List Int → Int → Int → Option (Bool)
 | 0, _, _, _, _ => none
 | k + 1, x0, x17, x18, x19 => if x19 < x18 then (if 0 ≤ x19 then (if x19 < (x17.length : Int) then (if (rd x17 x19) = 0 then (impl_IsCrossingWord.l0 k x0 x17 x18 (wrap64 (x19 + 1))) else (if (rd x17 x19) = 2 then (impl_IsCrossingWord.l0 k x0 x17 x18 (wrap64 (x19 + 1))) else (some false))) else (none)) else (none)) else (impl_IsCrossingWord.l1 k x0 (x0.length : Int) 0)
def impl_IsCrossingWord.l1 : Nat → List Int → Int → Int → Option (Bool)
 | 0, _, _, _ => none
 | k + 1, x30, x31, x32 => if x32 < x31 then (if 0 ≤ x32 then (if x32 < (x30.length : Int) then (if (rd x30 x32) < 1 then (some false) else (impl_IsCrossingWord.l1 k x30 x31 (wrap64 (x32 + 1)))) else (none)) else (none)) else (some true)
end
def impl_IsCrossingWord.f (k : Nat) (l0 : List Int) : Option (Bool) := (impl_IsWord.f k l0).bind fun t194 => (if t194 = true then ((impl_within.f (l0.length : Int) 2 12).bind fun t195 => (impl_IsCrossingWord.j0 k l0 (!t195))) else (impl_IsCrossingWord.j0 k l0 true))
set_option maxHeartbeats 8000000 in
set_option maxRecDepth 100000 in
theorem impl_IsCrossingWord.calls (k : Nat) (A0 : Option Addr) (c0 : Nat) (l0 : List Int) (r : Bool) (w : World) (hr0 : Kd.C (Kd.int .i64) w A0 l0.length l0) (hc0 : l0.length ≤ c0) (h : impl_IsCrossingWord.f k l0 = some r) :
  Calls Try.prog 22 #[.slice A0 l0.length c0] w fun e w' => e = .returned (.bool r) ∧ Below w.heap.size w w' := by
 have HR0 := Az.mk hr0
 have HC0 := Az.mk hc0
 clear hr0 hc0
 have HB := Az.mk (Below.refl w.heap.size w)
 have H : ((impl_IsWord.f k l0).bind fun t194 => (if t194 = true then ((impl_within.f (l0.length : Int) 2 12).bind fun t195 => (impl_IsCrossingWord.j0 k l0 (!t195))) else (impl_IsCrossingWord.j0 k l0 true))) = some r := h
 clear h
 have HC2 := Az.mk H
 clear H
 go_enter Try.func22, Try.ntmps22
 go_upto_region 1 with (fail)
 go_cut [15] (fun v15 wc => ∃ (kq : Nat) (x15_1 : Bool), v15 = .bool x15_1 ∧ Az (impl_IsCrossingWord.j0 kq l0 x15_1 = some r) ∧ Az (kq ≤ k) ∧ Az (Below w.heap.size w wc))
 case first =>
  have H := HC2.out
  clear HC2
  replace H := bez H
  obtain ⟨t194, A3, H⟩ := H
  try dsimp only at H
  by_cases c4 : t194 = true
  rotate_left
  ·replace c4 := Bool.eq_false_iff.mpr c4
   subst c4
   rw [if_neg ff] at H
   have H' := Az.mk H
   clear H
   go_wp2_with (first | ((with_reducible refine gtC (f := 49) rfl ?_); refine clz Try.func49 (some 8) #[.slice A0 l0.length c0] ?_; (with_reducible refine (impl_IsWord.calls k _ _ l0 false _ ?side1 ?side2 A3.out).mono ?_); (case side1 => exact kC (Kd.C_below HR0.out HB.out)); (case side2 => exact HC0.out); rintro e w' ⟨rfl, ⟨nd, rfl⟩⟩; refine ⟨_, rfl, ?_⟩))
   go_meet
   case rel => exact ⟨_, (true), rq2, H', ⟨by first | omega | exact Nat.le_refl _⟩, ⟨bw_4⟩⟩
  subst c4
  rw [if_pos rfl] at H
  replace H := bez H
  obtain ⟨t195, A5, H⟩ := H
  try dsimp only at H
  have H' := Az.mk H
  clear H
  go_wp2_with (first | ((with_reducible refine gtC (f := 49) rfl ?_); refine clz Try.func49 (some 8) #[.slice A0 l0.length c0] ?_; (with_reducible refine (impl_IsWord.calls k _ _ l0 true _ ?side1 ?side2 A3.out).mono ?_); (case side1 => exact kC (Kd.C_below HR0.out HB.out)); (case side2 => exact HC0.out); rintro e w' ⟨rfl, ⟨nd, rfl⟩⟩; refine ⟨_, rfl, ?_⟩) | (go_at_call 36; (with_reducible refine (impl_within.calls (l0.length : Int) 2 12 t195 _ A5.out).mono ?_); rintro e w' ⟨rfl, ⟨nd, rfl⟩⟩))
  go_meet
  case rel => exact ⟨_, (!t195), rq2, H', ⟨by first | omega | exact Nat.le_refl _⟩, ⟨bw_4⟩⟩
 clear HC2
 try clear c4
 obtain ⟨kq, x15_1, rfl, HA, HJ1, HB⟩ := hcut
 cases kq with
 | zero => exact absurd HA.out (by simp [impl_IsCrossingWord.j0])
 | succ kj1 =>
  have H := HA.out
  clear HA
  simp only [impl_IsCrossingWord.j0] at H
  by_cases c6 : x15_1 = true
  ·subst c6
   rw [if_pos rfl] at H
   obtain rfl := Option.some.inj H
   go_wp2
   go_ret
   exact ⟨rq1, bw_4⟩
  replace c6 := Bool.eq_false_iff.mpr c6
  subst c6
  rw [if_neg ff] at H
  replace H := bez H
  obtain ⟨t196, A7, H⟩ := H
  try dsimp only at H
  have H' := Az.mk H
  clear H
  go_wp2_with (first | ((with_reducible refine gtC (f := 50) rfl ?_); refine clz Try.func50 (some 17) #[.slice A0 l0.length c0] ?_; (with_reducible refine (impl_crossings.calls kj1 (fun k_ => k_ < w.heap.size) _ _ l0 t196 _ ?side1 A7.out).mono ?_); (case side1 => exact Kd.V_mk HC0.out (Kd.F_below (Kd.C_F (Kd.heap_int .i64) HR0.out) bw_4)); rintro e w8 ⟨v197, rfl, ho0, hb⟩; refine ⟨_, rfl, ?_⟩; have HO198 := Az.mk (Kd.R_lower (Kd.R_mono (ok' := fun k_ => True) ho0 (fun _ hk_ => trivial)) (bwZ bw_4)); replace HB := Az.mk (bwT bw_4 hb); (try clear hb); (try clear ho0); obtain ⟨Ao9, co9, eo9⟩ := Kd.R_slice HO198.out; subst eo9))
  go_loopg [19] kj1 (fun kq v19 w' => ∃ (x19_2 : Int), v19 = .int .i64 x19_2 ∧ Az (impl_IsCrossingWord.l0 kq l0 t196 (t196.length : Int) x19_2 = some r) ∧ Az (kq ≤ kj1) ∧ Az (Kd.R (Kd.int .i64) 3 w' w.heap.size (fun _ => True) (.slice Ao9 t196.length co9) t196) ∧ Az (Below w.heap.size w w'))
  case atStart => exact ⟨(0), rq2, H', ⟨Nat.le_refl _⟩, ⟨kR HO198.out⟩, ⟨bw_4⟩⟩
  clear H'
  try clear c4
  try clear c6
  obtain ⟨x19_2, rfl, HA, HK2, HO_17, HB⟩ := hrel
  cases gk with
  | zero => exact absurd HA.out (by simp [impl_IsCrossingWord.l0])
  | succ k2 =>
   have H := HA.out
   clear HA
   simp only [impl_IsCrossingWord.l0] at H
   by_cases c10 : x19_2 < (t196.length : Int)
   ·rw [if_pos c10] at H
    have c10b0 : decide (x19_2 < (t196.length : Int)) = true := decide_eq_true c10
    clear c10
    by_cases c11 : 0 ≤ x19_2
    rotate_left
    ·rw [if_neg c11] at H
     exact absurd H (by simp)
    rw [if_pos c11] at H
    have c11b0 : decide (0 ≤ x19_2) = true := decide_eq_true c11
    clear c11
    by_cases c12 : x19_2 < (t196.length : Int)
    rotate_left
    ·rw [if_neg c12] at H
     exact absurd H (by simp)
    rw [if_pos c12] at H
    have c12b0 : decide (x19_2 < (t196.length : Int)) = true := decide_eq_true c12
    clear c12
    by_cases c13 : (rd t196 x19_2) = 0
    ·rw [if_pos c13] at H
     have c13b0 : ((rd t196 x19_2) == 0) = true := beq_iff_eq.mpr c13
     have c13b1 : ((rd t196 x19_2) != 0) = false := bne_eq_false_iff_eq.mpr c13
     clear c13
     have H' := Az.mk H
     clear H
     have p199 : 0 ≤ (x19_2 : Int) := of_decide_eq_true am
     have q199 : x19_2 < (t196.length : Int) := of_decide_eq_true am
     obtain ⟨ad199, e199, hx199_0⟩ := Kd.at_int (Kd.R_reads' HO_17.out).2.2 x19_2 p199 q199
     cases e199
     replace p199 := eq_true p199
     replace q199 := eq_true q199
     go_wp2
     go_roundg k2
     case measure => have := HJ1.out; have := HK2.out; omega
     case rel => exact ⟨(wrap64 (x19_2 + 1)), rq2, H', ⟨by have := HJ1.out; have := HK2.out; omega⟩, ⟨kR HO_17.out⟩, ⟨bw_4⟩⟩
    rw [if_neg c13] at H
    have c13b0 : ((rd t196 x19_2) == 0) = false := beq_eq_false_iff_ne.mpr c13
    have c13b1 : ((rd t196 x19_2) != 0) = true := bne_iff_ne.mpr c13
    by_cases c14 : (rd t196 x19_2) = 2
    rotate_left
    ·rw [if_neg c14] at H
     have c14b0 : ((rd t196 x19_2) == 2) = false := beq_eq_false_iff_ne.mpr c14
     have c14b1 : ((rd t196 x19_2) != 2) = true := bne_iff_ne.mpr c14
     obtain rfl := Option.some.inj H
     have p199 : 0 ≤ (x19_2 : Int) := of_decide_eq_true am
     have q199 : x19_2 < (t196.length : Int) := of_decide_eq_true am
     obtain ⟨ad199, e199, hx199_0⟩ := Kd.at_int (Kd.R_reads' HO_17.out).2.2 x19_2 p199 q199
     cases e199
     replace p199 := eq_true p199
     replace q199 := eq_true q199
     go_wp2
     go_ret
     exact ⟨rq1, bw_4⟩
    rw [if_pos c14] at H
    have c14b0 : ((rd t196 x19_2) == 2) = true := beq_iff_eq.mpr c14
    have c14b1 : ((rd t196 x19_2) != 2) = false := bne_eq_false_iff_eq.mpr c14
    clear c14
    have H' := Az.mk H
    clear H
    have p199 : 0 ≤ (x19_2 : Int) := of_decide_eq_true am
    have q199 : x19_2 < (t196.length : Int) := of_decide_eq_true am
    obtain ⟨ad199, e199, hx199_0⟩ := Kd.at_int (Kd.R_reads' HO_17.out).2.2 x19_2 p199 q199
    cases e199
    replace p199 := eq_true p199
    replace q199 := eq_true q199
    go_wp2
    go_roundg k2
    case measure => have := HJ1.out; have := HK2.out; omega
    case rel => exact ⟨(wrap64 (x19_2 + 1)), rq2, H', ⟨by have := HJ1.out; have := HK2.out; omega⟩, ⟨kR HO_17.out⟩, ⟨bw_4⟩⟩
   rw [if_neg c10] at H
   have c10b0 : decide (x19_2 < (t196.length : Int)) = false := decide_eq_false c10
   clear c10
   have H' := Az.mk H
   clear H
   go_wp2
   go_loopg [32] k2 (fun kq v32 w' => ∃ (x32_3 : Int), v32 = .int .i64 x32_3 ∧ Az (impl_IsCrossingWord.l1 kq l0 (l0.length : Int) x32_3 = some r) ∧ Az (kq ≤ k2) ∧ Az (Below w.heap.size w w'))
   case atStart => exact ⟨(0), rq2, H', ⟨Nat.le_refl _⟩, ⟨bw_4⟩⟩
   clear H'
   try clear c4
   try clear c6
   try clear c10
   try clear c10b0
   try clear c11
   try clear c11b0
   try clear c12
   try clear c12b0
   try clear c13
   try clear c13b0
   try clear c13b1
   try clear c14
   try clear c14b0
   try clear c14b1
   try clear hx199_0
   try clear p199
   try clear q199
   obtain ⟨x32_3, rfl, HA, HK3, HB⟩ := hrel
   cases gk with
   | zero => exact absurd HA.out (by simp [impl_IsCrossingWord.l1])
   | succ k3 =>
    have H := HA.out
    clear HA
    simp only [impl_IsCrossingWord.l1] at H
    by_cases c15 : x32_3 < (l0.length : Int)
    rotate_left
    ·rw [if_neg c15] at H
     have c15b0 : decide (x32_3 < (l0.length : Int)) = false := decide_eq_false c15
     clear c15
     obtain rfl := Option.some.inj H
     go_wp2
     go_ret
     exact ⟨rq1, bw_4⟩
    rw [if_pos c15] at H
    have c15b0 : decide (x32_3 < (l0.length : Int)) = true := decide_eq_true c15
    clear c15
    by_cases c16 : 0 ≤ x32_3
    rotate_left
    ·rw [if_neg c16] at H
     exact absurd H (by simp)
    rw [if_pos c16] at H
    have c16b0 : decide (0 ≤ x32_3) = true := decide_eq_true c16
    clear c16
    by_cases c17 : x32_3 < (l0.length : Int)
    rotate_left
    ·rw [if_neg c17] at H
     exact absurd H (by simp)
    rw [if_pos c17] at H
    have c17b0 : decide (x32_3 < (l0.length : Int)) = true := decide_eq_true c17
    clear c17
    by_cases c18 : (rd l0 x32_3) < 1
    ·rw [if_pos c18] at H
     have c18b0 : decide ((rd l0 x32_3) < 1) = true := decide_eq_true c18
     clear c18
     obtain rfl := Option.some.inj H
     have p200 : 0 ≤ (x32_3 : Int) := of_decide_eq_true am
     have q200 : x32_3 < (l0.length : Int) := of_decide_eq_true am
     obtain ⟨ad200, e200, hx200_0⟩ := Kd.at_int HR0.out x32_3 p200 q200
     cases e200
     replace hx200_0 := kc HB hx200_0
     replace p200 := eq_true p200
     replace q200 := eq_true q200
     go_wp2
     go_ret
     exact ⟨rq1, bw_4⟩
    rw [if_neg c18] at H
    have c18b0 : decide ((rd l0 x32_3) < 1) = false := decide_eq_false c18
    clear c18
    have H' := Az.mk H
    clear H
    have p200 : 0 ≤ (x32_3 : Int) := of_decide_eq_true am
    have q200 : x32_3 < (l0.length : Int) := of_decide_eq_true am
    obtain ⟨ad200, e200, hx200_0⟩ := Kd.at_int HR0.out x32_3 p200 q200
    cases e200
    replace hx200_0 := kc HB hx200_0
    replace p200 := eq_true p200
    replace q200 := eq_true q200
    go_wp2
    go_roundg k3
    case measure => have := HJ1.out; have := HK2.out; have := HK3.out; omega
    case rel => exact ⟨(wrap64 (x32_3 + 1)), rq2, H', ⟨by have := HJ1.out; have := HK2.out; have := HK3.out; omega⟩, ⟨bw_4⟩⟩

end Go.Proofs.Ytkmjcdlhlhefdaa.P
namespace Go.Proofs.Ytkmjcdlhlhefdaa.P
open Go.RowKit Go.Proofs.YtkmjcdlhlhefdaaW.PrintWords Go.Proofs.YtkmjcdlhlhefdaaW.PrintLast Go.Proofs.YtkmjcdlhlhefdaaW.PrintMore
attribute [local go_sem] max2_int min2_int max_two min_two max_three min_three max_four min_four   -- for this text's walks alone
set_option linter.unusedVariables false
set_option linter.unusedSimpArgs false

theorem bw_5 {n : Nat} {v v' : World} (h : Below n v v' := by repeat (first | (with_reducible first | exact HB.out | apply bwA | apply pbN | apply bwD) | exact HB.out)) : Below n v v' := h

theorem ln_5 {P : Prop} (h : P := by (try simp only [List.map_toArray, List.map_cons, List.map_nil]); first | done | rfl | (simp only [List.length_drop, List.length_take]; rfl)) : P := h

/-! ### impl_isPermutation: function 72 -/
def impl_isPermutation.l0 : Nat → List Int → List Bool → List Int → Int → Int → Option (Bool)
 | 0, _, _, _, _, _ => none
 | k + 1, x0, x3, x9, x10, x11 => if x11 < x10 then (if 0 ≤ x11 then (if x11 < (x9.length : Int) then ((impl_within.f (rd x9 x11) 0 (wrap64 ((x0.length : Int) - 1))).bind fun t205 => (if t205 = true then (if 0 ≤ (rd x9 x11) then (if (rd x9 x11) < (x3.length : Int) then (if rdOf false x3 (rd x9 x11) = true then (some false) else (impl_isPermutation.l0 k x0 (x3.set ((rd x9 x11) : Int).toNat true) x9 x10 (wrap64 (x11 + 1)))) else (none)) else (none)) else (some false))) else (none)) else (none)) else (some true)
def impl_isPermutation.f (k : Nat) (l0 : List Int) : Option (Bool) := if 0 ≤ (l0.length : Int) then (if ((l0.length : Int) : Int).toNat ≤ 281474976710656 then (impl_isPermutation.l0 k l0 (List.replicate ((l0.length : Int) : Int).toNat false) l0 (l0.length : Int) 0) else (none)) else (none)
theorem impl_isPermutation.mono_l : ∀ k, (∀ y0 y1 y2 y3 y4, LeO (impl_isPermutation.l0 k y0 y1 y2 y3 y4) (impl_isPermutation.l0 (k + 1) y0 y1 y2 y3 y4))
 | 0 => fun _ _ _ _ _ r h => by simp [impl_isPermutation.l0] at h
 | k + 1 => by
  have ih0 := impl_isPermutation.mono_l k
  have i0 := fun z0 z1 z2 z3 z4 => MoO.mk (ih0 z0 z1 z2 z3 z4)
  ·intro y0 y1 y2 y3 y4
   unfold impl_isPermutation.l0
   exact mo_
theorem impl_isPermutation.mono : ∀ a0 k, LeO (impl_isPermutation.f k a0) (impl_isPermutation.f (k + 1) a0) := by
 intro a0 k
 have ih0 := impl_isPermutation.mono_l k
 have i0 := fun z0 z1 z2 z3 z4 => MoO.mk (ih0 z0 z1 z2 z3 z4)
 unfold impl_isPermutation.f
 exact mo_
instance impl_isPermutation.mi {a0 k} : MoO (impl_isPermutation.f k a0) (impl_isPermutation.f (k + 1) a0) := ⟨impl_isPermutation.mono _ _⟩
set_option maxHeartbeats 8000000 in
set_option maxRecDepth 100000 in
theorem impl_isPermutation.calls (k : Nat) (A0 : Option Addr) (c0 : Nat) (l0 : List Int) (r : Bool) (w : World) (hr0 : Kd.C (Kd.int .i64) w A0 l0.length l0) (hc0 : l0.length ≤ c0) (h : impl_isPermutation.f k l0 = some r) :
  Calls Try.prog 72 #[.slice A0 l0.length c0] w fun e w' => e = .returned (.bool r) ∧ Below w.heap.size w w' := by
 have HR0 := Az.mk hr0
 have HC0 := Az.mk hc0
 clear hr0 hc0
 have HB := Az.mk (Below.refl w.heap.size w)
 have H : (if 0 ≤ (l0.length : Int) then (if ((l0.length : Int) : Int).toNat ≤ 281474976710656 then (impl_isPermutation.l0 k l0 (List.replicate ((l0.length : Int) : Int).toNat false) l0 (l0.length : Int) 0) else (none)) else (none)) = some r := h
 clear h
 by_cases c2 : 0 ≤ (l0.length : Int)
 rotate_left
 ·rw [if_neg c2] at H
  exact absurd H (by simp)
 rw [if_pos c2] at H
 have c2b0 := eq_true c2
 have c2b1 : decide (0 ≤ (l0.length : Int)) = true := decide_eq_true c2
 clear c2
 by_cases c3 : ((l0.length : Int) : Int).toNat ≤ 281474976710656
 rotate_left
 ·rw [if_neg c3] at H
  exact absurd H (by simp)
 rw [if_pos c3] at H
 have c3b0 := eq_true c3
 have c3b1 : decide (((l0.length : Int) : Int).toNat ≤ 281474976710656) = true := decide_eq_true c3
 clear c3
 obtain ⟨y201, hy⟩ : ∃ y_ : List Bool, y_ = (List.replicate ((l0.length : Int) : Int).toNat false) := ⟨_, rfl⟩
 replace H : (impl_isPermutation.l0 k l0 y201 l0 (l0.length : Int) 0) = some r := rh
 have Ny201 := Az.mk hy
 clear hy
 have H' := Az.mk H
 clear H
 go_enter Try.func72, Try.ntmps72
 go_wp2_with (first | ((with_reducible refine gtD (N := 8) rfl ?_); refine Kd.R_make Kd.bool _ 4 rfl (N := 8) rfl 59 _ _ rfl (l0.length : Int) rfl rfl Try.underlying59 (.bool false) 1 info4 rfl (by decide) (by omega) false (ok := fun _ => True) (okp := fun _ => True) rfl (fun _ hk => hk) trivial (of_decide_eq_true am) (Nat.le_trans (Nat.mul_le_mul_right _ (of_decide_eq_true am : (l0.length : Int).toNat ≤ 281474976710656)) (by omega)) (Below.refl _ _) (Nat.le_refl _) ?_; intro v202 w4 ho5 hb hg_ hnew_; clear hg_ hnew_; (first | rw [← Ny201.out] at ho5 | (simp only [Int.reduceToNat] at ho5; rw [← Ny201.out] at ho5)); have HO203 := Az.mk (Kd.R_lower ho5 (bwZ bw_5)); replace HB := Az.mk (bwT bw_5 hb); clear hb ho5))
 go_loopg [11] k (fun kq v11 w' => ∃ (x3_1 : List Bool) (x11_1 : Int), v11 = .int .i64 x11_1 ∧ Az (impl_isPermutation.l0 kq l0 x3_1 l0 (l0.length : Int) x11_1 = some r) ∧ Az (kq ≤ k) ∧ Az (Kd.R Kd.bool 4 w' w.heap.size (fun _ => True) v202 x3_1) ∧ Az (Below w.heap.size w w'))
 case atStart => exact ⟨(y201), (0), rq2, H', ⟨Nat.le_refl _⟩, ⟨kR HO203.out⟩, ⟨bw_5⟩⟩
 clear H'
 try clear c2
 try clear c2b0
 try clear c2b1
 try clear c3
 try clear c3b0
 try clear c3b1
 obtain ⟨x3_1, x11_1, rfl, HA, HK1, HO_3, HB⟩ := hrel
 cases gk with
 | zero => exact absurd HA.out (by simp [impl_isPermutation.l0])
 | succ k1 =>
  have H := HA.out
  clear HA
  simp only [impl_isPermutation.l0] at H
  by_cases c6 : x11_1 < (l0.length : Int)
  rotate_left
  ·rw [if_neg c6] at H
   have c6b0 : decide (x11_1 < (l0.length : Int)) = false := decide_eq_false c6
   clear c6
   obtain rfl := Option.some.inj H
   go_wp2
   go_ret
   exact ⟨rq1, bw_5⟩
  rw [if_pos c6] at H
  have c6b0 : decide (x11_1 < (l0.length : Int)) = true := decide_eq_true c6
  clear c6
  by_cases c7 : 0 ≤ x11_1
  rotate_left
  ·rw [if_neg c7] at H
   exact absurd H (by simp)
  rw [if_pos c7] at H
  have c7b0 : decide (0 ≤ x11_1) = true := decide_eq_true c7
  clear c7
  by_cases c8 : x11_1 < (l0.length : Int)
  rotate_left
  ·rw [if_neg c8] at H
   exact absurd H (by simp)
  rw [if_pos c8] at H
  have c8b0 : decide (x11_1 < (l0.length : Int)) = true := decide_eq_true c8
  clear c8
  replace H := bez H
  obtain ⟨t205, A9, H⟩ := H
  try dsimp only at H
  by_cases c10 : t205 = true
  rotate_left
  ·replace c10 := Bool.eq_false_iff.mpr c10
   subst c10
   rw [if_neg ff] at H
   obtain rfl := Option.some.inj H
   have p204 : 0 ≤ (x11_1 : Int) := of_decide_eq_true am
   have q204 : x11_1 < (l0.length : Int) := of_decide_eq_true am
   obtain ⟨ad204, e204, hx204_0⟩ := Kd.at_int HR0.out x11_1 p204 q204
   cases e204
   replace hx204_0 := kc HB hx204_0
   replace p204 := eq_true p204
   replace q204 := eq_true q204
   go_wp2_with (first | ((with_reducible refine gtC (f := 36) rfl ?_); refine clz Try.func36 (some 19) #[.int .i64 (rd l0 x11_1), .int .i64 0, .int .i64 (wrap64 ((l0.length : Int) - 1))] ?_; (with_reducible refine (impl_within.calls (rd l0 x11_1) 0 (wrap64 ((l0.length : Int) - 1)) false _ A9.out).mono ?_); rintro e w' ⟨rfl, ⟨nd, rfl⟩⟩; refine ⟨_, rfl, ?_⟩))
   go_ret
   exact ⟨rq1, bw_5⟩
  subst c10
  rw [if_pos rfl] at H
  by_cases c11 : 0 ≤ (rd l0 x11_1)
  rotate_left
  ·rw [if_neg c11] at H
   exact absurd H (by simp)
  rw [if_pos c11] at H
  have c11b0 : decide (0 ≤ (rd l0 x11_1)) = true := decide_eq_true c11
  clear c11
  by_cases c12 : (rd l0 x11_1) < (x3_1.length : Int)
  rotate_left
  ·rw [if_neg c12] at H
   exact absurd H (by simp)
  rw [if_pos c12] at H
  have c12b0 : decide ((rd l0 x11_1) < (x3_1.length : Int)) = true := decide_eq_true c12
  clear c12
  obtain ⟨bq13, hbq13⟩ : ∃ b_ : Bool, b_ = (rdOf false x3_1 (rd l0 x11_1)) := ⟨_, rfl⟩
  replace H : (if bq13 = true then (some false) else (impl_isPermutation.l0 k1 l0 (x3_1.set ((rd l0 x11_1) : Int).toNat true) l0 (l0.length : Int) (wrap64 (x11_1 + 1)))) = some r := by rw [← hbq13] at H; exact H
  have Nbq13 := Az.mk hbq13
  clear hbq13
  by_cases c14 : bq13 = true
  ·subst c14
   rw [if_pos rfl] at H
   obtain rfl := Option.some.inj H
   have p204 : 0 ≤ (x11_1 : Int) := of_decide_eq_true am
   have q204 : x11_1 < (l0.length : Int) := of_decide_eq_true am
   obtain ⟨ad204, e204, hx204_0⟩ := Kd.at_int HR0.out x11_1 p204 q204
   cases e204
   replace hx204_0 := kc HB hx204_0
   replace p204 := eq_true p204
   replace q204 := eq_true q204
   go_wp2_with (first | ((with_reducible refine gtC (f := 36) rfl ?_); refine clz Try.func36 (some 19) #[.int .i64 (rd l0 x11_1), .int .i64 0, .int .i64 (wrap64 ((l0.length : Int) - 1))] ?_; (with_reducible refine (impl_within.calls (rd l0 x11_1) 0 (wrap64 ((l0.length : Int) - 1)) true _ A9.out).mono ?_); rintro e w' ⟨rfl, ⟨nd, rfl⟩⟩; refine ⟨_, rfl, ?_⟩; obtain ⟨Ao15, co15, eo15⟩ := Kd.R_slice HO_3.out; subst eo15; have p206 : 0 ≤ ((rd l0 x11_1) : Int) := of_decide_eq_true am; have q206 : (rd l0 x11_1) < (x3_1.length : Int) := of_decide_eq_true am; obtain ⟨ad206, e206, hx206_0⟩ := Kd.at_bool (Kd.R_reads' HO_3.out).2.2 (rd l0 x11_1) p206 q206; (try rw [← Nbq13.out] at hx206_0); cases e206; replace p206 := eq_true p206; replace q206 := eq_true q206))
   go_ret
   exact ⟨rq1, bw_5⟩
  replace c14 := Bool.eq_false_iff.mpr c14
  subst c14
  rw [if_neg ff] at H
  obtain ⟨y207, hy⟩ : ∃ y_ : List Bool, y_ = (x3_1.set ((rd l0 x11_1) : Int).toNat true) := ⟨_, rfl⟩
  replace H : (impl_isPermutation.l0 k1 l0 y207 l0 (l0.length : Int) (wrap64 (x11_1 + 1))) = some r := rh
  have Ny207 := Az.mk hy
  clear hy
  have H' := Az.mk H
  clear H
  have p204 : 0 ≤ (x11_1 : Int) := of_decide_eq_true am
  have q204 : x11_1 < (l0.length : Int) := of_decide_eq_true am
  obtain ⟨ad204, e204, hx204_0⟩ := Kd.at_int HR0.out x11_1 p204 q204
  cases e204
  replace hx204_0 := kc HB hx204_0
  replace p204 := eq_true p204
  replace q204 := eq_true q204
  go_wp2_with (first | ((with_reducible refine gtC (f := 36) rfl ?_); refine clz Try.func36 (some 19) #[.int .i64 (rd l0 x11_1), .int .i64 0, .int .i64 (wrap64 ((l0.length : Int) - 1))] ?_; (with_reducible refine (impl_within.calls (rd l0 x11_1) 0 (wrap64 ((l0.length : Int) - 1)) true _ A9.out).mono ?_); rintro e w' ⟨rfl, ⟨nd, rfl⟩⟩; refine ⟨_, rfl, ?_⟩; (try (rw [drewN_self wr]; generalize hq_ : World.drewN wr _ = wr; have n0_ : Az (Kd.R Kd.bool 4 wr w.heap.size (fun _ => True) v202 x3_1) := ⟨by rw [← hq_]; exact (kR HO_3.out)⟩; have n1_ : Az (Below w.heap.size w wr) := ⟨by rw [← hq_]; exact bw_5⟩; clear HO_3 HB hq_; have HO_3 := n0_; have HB := n1_; clear n0_ n1_)); obtain ⟨Ao17, co17, eo17⟩ := Kd.R_slice HO_3.out; subst eo17; have p206 : 0 ≤ ((rd l0 x11_1) : Int) := of_decide_eq_true am; have q206 : (rd l0 x11_1) < (x3_1.length : Int) := of_decide_eq_true am; obtain ⟨ad206, e206, hx206_0⟩ := Kd.at_bool (Kd.R_reads' HO_3.out).2.2 (rd l0 x11_1) p206 q206; (try rw [← Nbq13.out] at hx206_0); cases e206; replace p206 := eq_true p206; replace q206 := eq_true q206; have p16 : 0 ≤ ((rd l0 x11_1) : Int) := of_decide_eq_true am; have q16 : ((rd l0 x11_1) : Int) < ((x3_1.length : Int) : Int) := of_decide_eq_true am; obtain ⟨go16, co16, eo16, gb16, gl16, cl16, HG16⟩ := Kd.R_form HO_3.out (by omega); (first | cases eo16 | (injection eo16 with ea_ en_ ec_; (first | subst ea_ | (injection ea_ with ea_; subst ea_)); subst ec_; clear en_)); have GB16 := Az.mk gb16; have GG16 := Az.mk HG16; clear gb16 gl16 HG16; (first | simp only [add_plain] at hx206_0 | skip); obtain ⟨hx16_0, hf16_0⟩ := Kd.R_celln false HO_3.out ((rd l0 x11_1) : Int) p16 q16; replace p16 := eq_true p16; replace q16 := eq_true q16; obtain ⟨hy18_, hz18_⟩ := Kd.R_celln false HO_3.out ((rd l0 x11_1) : Int) (of_decide_eq_true am) (of_decide_eq_true am); have HP18 := Kd.R_putg HO_3.out ((rd l0 x11_1) : Int) true) | ((with_reducible refine gate_store (t := 4) (p := 29) rfl ?_); refine store_event (t := 4) (p := 29) (v := ?vo_w19) (w1 := (wr.setCell ⟨go16, ((rd l0 x11_1) : Int).toNat, none⟩ (.bool true))) ?hg ?ho ?hn ?hr ?_; (case ho => rfl); (case hg => rfl); (case hn => rfl); (case hr => first | (go_simp; done) | (go_simp; rfl)); intro w19 hw; have hg : wr.grownBy w19 (some go16) := (by rw [hw]; exact HP18.2); have hp_ : Kd.R Kd.bool 4 w19 w.heap.size (fun _ => True) (.slice (some ⟨go16, 0, none⟩) x3_1.length co17) y207 := (by rw [hw, Ny207.out]; exact HP18.1); clear HP18; replace HO_3 := Az.mk (hp_); replace HB := Az.mk ((by rw [hw]; exact bwS (HB.out) GB16.out : Below w.heap.size w w19)); clear hg hw hp_))
  go_roundg k1
  case measure => have := HK1.out; omega
  case rel => exact ⟨(y207), (wrap64 (x11_1 + 1)), rq2, H', ⟨by have := HK1.out; omega⟩, ⟨kR HO_3.out⟩, ⟨bw_5⟩⟩

/-! ### impl_IsMap: function 56 -/
def impl_IsMap.f (k : Nat) (l0 : List Int) : Option (Bool) := (impl_within.f (l0.length : Int) 2 24).bind fun t208 => (if t208 = true then (if ((l0.length : Int) % 2) = 0 then ((impl_isPermutation.f k l0).bind fun t209 => (some t209)) else (some false)) else (some false))
theorem impl_IsMap.mono : ∀ a0 k, LeO (impl_IsMap.f k a0) (impl_IsMap.f (k + 1) a0) := by
 intro a0 k
 unfold impl_IsMap.f
 exact mo_
instance impl_IsMap.mi {a0 k} : MoO (impl_IsMap.f k a0) (impl_IsMap.f (k + 1) a0) := ⟨impl_IsMap.mono _ _⟩
set_option maxHeartbeats 8000000 in
set_option maxRecDepth 100000 in
theorem impl_IsMap.calls (k : Nat) (A0 : Option Addr) (c0 : Nat) (l0 : List Int) (r : Bool) (w : World) (hr0 : Kd.C (Kd.int .i64) w A0 l0.length l0) (hc0 : l0.length ≤ c0) (h : impl_IsMap.f k l0 = some r) :
  Calls Try.prog 56 #[.slice A0 l0.length c0] w fun e w' => e = .returned (.bool r) ∧ Below w.heap.size w w' := by
 have HR0 := Az.mk hr0
 have HC0 := Az.mk hc0
 clear hr0 hc0
 have HB := Az.mk (Below.refl w.heap.size w)
 have H : ((impl_within.f (l0.length : Int) 2 24).bind fun t208 => (if t208 = true then (if ((l0.length : Int) % 2) = 0 then ((impl_isPermutation.f k l0).bind fun t209 => (some t209)) else (some false)) else (some false))) = some r := h
 clear h
 replace H := bez H
 obtain ⟨t208, A2, H⟩ := H
 try dsimp only at H
 by_cases c3 : t208 = true
 rotate_left
 ·replace c3 := Bool.eq_false_iff.mpr c3
  subst c3
  rw [if_neg ff] at H
  obtain rfl := Option.some.inj H
  go_enter Try.func56, Try.ntmps56
  go_wp2_with (first | ((with_reducible refine gtC (f := 36) rfl ?_); refine clz Try.func36 (some 5) #[.int .i64 (l0.length : Int), .int .i64 2, .int .i64 24] ?_; (with_reducible refine (impl_within.calls (l0.length : Int) 2 24 false _ A2.out).mono ?_); rintro e w' ⟨rfl, ⟨nd, rfl⟩⟩; refine ⟨_, rfl, ?_⟩))
  go_ret
  exact ⟨rq1, bw_5⟩
 subst c3
 rw [if_pos rfl] at H
 by_cases c4 : ((l0.length : Int) % 2) = 0
 rotate_left
 ·rw [if_neg c4] at H
  have c4b0 : (((l0.length : Int) % 2) == 0) = false := beq_eq_false_iff_ne.mpr c4
  have c4b1 : (((l0.length : Int) % 2) != 0) = true := bne_iff_ne.mpr c4
  obtain rfl := Option.some.inj H
  go_enter Try.func56, Try.ntmps56
  go_wp2_with (first | ((with_reducible refine gtC (f := 36) rfl ?_); refine clz Try.func36 (some 5) #[.int .i64 (l0.length : Int), .int .i64 2, .int .i64 24] ?_; (with_reducible refine (impl_within.calls (l0.length : Int) 2 24 true _ A2.out).mono ?_); rintro e w' ⟨rfl, ⟨nd, rfl⟩⟩; refine ⟨_, rfl, ?_⟩))
  go_ret
  exact ⟨rq1, bw_5⟩
 rw [if_pos c4] at H
 have c4b0 : (((l0.length : Int) % 2) == 0) = true := beq_iff_eq.mpr c4
 have c4b1 : (((l0.length : Int) % 2) != 0) = false := bne_eq_false_iff_eq.mpr c4
 clear c4
 replace H := bez H
 obtain ⟨t209, A5, H⟩ := H
 replace H : (some t209) = some r := H
 obtain rfl := Option.some.inj H
 go_enter Try.func56, Try.ntmps56
 go_wp2_with (first | ((with_reducible refine gtC (f := 36) rfl ?_); refine clz Try.func36 (some 5) #[.int .i64 (l0.length : Int), .int .i64 2, .int .i64 24] ?_; (with_reducible refine (impl_within.calls (l0.length : Int) 2 24 true _ A2.out).mono ?_); rintro e w' ⟨rfl, ⟨nd, rfl⟩⟩; refine ⟨_, rfl, ?_⟩) | (go_at_call 72; (with_reducible refine (impl_isPermutation.calls k _ _ l0 t209 _ ?side1 ?side2 A5.out).mono ?_); (case side1 => exact kC HR0.out); (case side2 => exact HC0.out); rintro e w6 ⟨rfl, hb⟩; replace HB := Az.mk (bwT bw_5 hb); (try clear hb)))
 go_ret
 exact ⟨rq1, bw_5⟩

end Go.Proofs.Ytkmjcdlhlhefdaa.P
