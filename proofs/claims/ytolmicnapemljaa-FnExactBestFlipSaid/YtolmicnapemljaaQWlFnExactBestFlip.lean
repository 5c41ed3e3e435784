-- By this session's lawgen.py: the walk of a law in a straight line. Not trusted: Lean checks it.
import Derived.Test.YtolmicnapemljaaQPx4
import Derived.Test.YtolmicnapemljaaQPx5
import Derived.Test.YtolmicnapemljaaQPx34
import Derived.Test.YtolmicnapemljaaQPx35
namespace Go.Proofs.Ytolmicnapemljaa.P
open Go.RowKit Go.Proofs.YtolmicnapemljaaW.PrintWords Go.Proofs.YtolmicnapemljaaW.PrintLast Go.Proofs.YtolmicnapemljaaW.PrintMore
set_option linter.unusedVariables false
/-- Blocks from lo on, below hi. -/
def Iv (lo hi : Nat) (k : Nat) : Prop := lo ≤ k ∧ k < hi
section
variable {α : Type} {d : Kd α} {e : Nat} {w Wp W : World} {ok : Nat → Prop} {v : Value} {xs : List α} {a b c f : Nat}
theorem S_iv (h : Kd.S d e W Wp.heap.size ok v xs) (hb : w.heap.size ≤ Wp.heap.size) : Kd.S d e W w.heap.size (Iv Wp.heap.size W.heap.size) v xs := Kd.S_lower (Kd.S_mono (Kd.S_bound h) (fun _ hk => ⟨hk.2.1, hk.2.2.1⟩)) hb
theorem R_iv (h : Kd.R d e W Wp.heap.size ok v xs) (hb : w.heap.size ≤ Wp.heap.size) : Kd.R d e W w.heap.size (Iv Wp.heap.size W.heap.size) v xs := Kd.R_lower (Kd.R_mono (Kd.R_bound h) (fun _ hk => ⟨hk.2.1, hk.2.2.1⟩)) hb
theorem S_off (h : Kd.S d e Wp w.heap.size (Iv a b) v xs) (hk : Kept Wp W (Iv c f)) (hd : b ≤ c ∨ f ≤ a) : Kd.S d e W w.heap.size (Iv a b) v xs := Kd.S_step h (fun k ho hlt => hk.2 k hlt (fun hc => by have h1 := ho.1; have h2 := ho.2; have h3 := hc.1; have h4 := hc.2; omega))
theorem R_off (h : Kd.R d e Wp w.heap.size (Iv a b) v xs) (hk : Kept Wp W (Iv c f)) (hd : b ≤ c ∨ f ≤ a) : Kd.R d e W w.heap.size (Iv a b) v xs := Kd.R_step h (fun k ho hlt => hk.2 k hlt (fun hc => by have h1 := ho.1; have h2 := ho.2; have h3 := hc.1; have h4 := hc.2; omega))
end
theorem calls_len {P : Program} {fn : FuncId} {A : Option Addr} {c n m : Nat} {x : Value} {w : World} {Q : Ending → World → Prop} (h : n = m) (hc : Calls P fn #[.slice A m c, x] w Q) : Calls P fn #[.slice A n c, x] w Q := by
  subst h
  exact hc

def laws_FnExactBestFlip.f (k : Nat) (l0 : List (List Int)) (l1 : List Int) : Option Bool := if (l1.length : Int) > 1048576 then some true else ((laws_szIntSS.f k (l0) 1048576).bind fun r2 => (if r2 < 0 then some true else ((laws_toIntSS.f k (l0)).bind fun r5 => ((laws_toIntS.f k (l1)).bind fun r8 => ((spec_BestFlip.f k (r5) (r8)).bind fun r10 => ((laws_toIntSS.f k (l0)).bind fun r12 => ((laws_toIntS.f k (l1)).bind fun r14 => ((impl_BestFlip.f k (r12) (r14)).bind fun r16 => (if r16 = r10 then ((laws_toIntSS.f k (l0)).bind fun r19 => ((laws_eqIntSS.f k (r12) (r19)).bind fun r22 => (if r22 = true then ((laws_toIntS.f k (l1)).bind fun r25 => ((laws_eqIntS.f k (r14) (r25)).bind fun r28 => (if r28 = true then (some true) else none))) else none))) else none)))))))))
set_option maxHeartbeats 8000000 in
set_option maxRecDepth 100000 in
theorem laws_FnExactBestFlip.calls (k : Nat) (A0 : Option Addr) (c0 : Nat) (l0 : List (List Int)) (A1 : Option Addr) (c1 : Nat) (l1 : List Int) (r : Bool) (w : World) (hr0 : Kd.C (Kd.slice 3 (Kd.int .i64)) w A0 l0.length l0) (hc0 : l0.length ≤ c0) (hr1 : Kd.C (Kd.int .i64) w A1 l1.length l1) (hc1 : l1.length ≤ c1) (h : laws_FnExactBestFlip.f k l0 l1 = some r) :
    Calls Try.prog 7 #[.slice A0 l0.length c0, .slice A1 l1.length c1] w fun e w' => e = .returned (.bool r) ∧ Below w.heap.size w w' := by
  have HR0 := Az.mk hr0
  have HC0 := Az.mk hc0
  clear hr0 hc0
  have HR1 := Az.mk hr1
  have HC1 := Az.mk hc1
  clear hr1 hc1
  have HB_w := Az.mk (Below.refl w.heap.size w)
  have H := h
  clear h
  unfold laws_FnExactBestFlip.f at H
  by_cases c29 : (l1.length : Int) > 1048576
  · rw [if_pos c29] at H
    have c29b : decide (1048576 < (l1.length : Int)) = true := decide_eq_true c29
    clear c29
    obtain rfl := Option.some.inj H
    go_enter Try.func7, Try.ntmps7
    go_wp2
    go_ret
    exact ⟨rfl, HB_w.out⟩
  · rw [if_neg c29] at H
    have c29b : decide (1048576 < (l1.length : Int)) = false := decide_eq_false c29
    clear c29
    replace H := Option.bind_eq_some_iff.mp H
    obtain ⟨r2, T1_, H⟩ := H
    have T1 := Az.mk T1_
    clear T1_
    try dsimp only at H
    by_cases c30 : r2 < 0
    · rw [if_pos c30] at H
      have c30b := decide_eq_true c30
      clear c30
      obtain rfl := Option.some.inj H
      go_enter Try.func7, Try.ntmps7
      go_wp2_with (first | ((with_reducible refine gtC (f := 13) rfl ?_); refine goesL_ (some 15) rfl rfl Try.func13 (by kernel_rfl) rfl #[.slice A0 l0.length c0, .int .i64 1048576] rfl (by (try simp only [List.map_toArray, List.map_cons, List.map_nil]); first | done | rfl) ?_; refine (laws_szIntSS.calls k A0 c0 (l0) 1048576 r2 w (Kd.C_below HR0.out HB_w.out) HC0.out T1.out).mono ?_; rintro e W1 ⟨rfl, hd⟩; refine ⟨_, rfl, ?_⟩; have hb := Drawn0.below hd; clear hd; have HB_W1 := Az.mk (bwT HB_w.out hb); have HS_W1 := Az.mk (show w.heap.size ≤ W1.heap.size from hb.size); clear hb))
      go_ret
      exact ⟨rfl, HB_W1.out⟩
    · rw [if_neg c30] at H
      have c30b := decide_eq_false c30
      clear c30
      replace H := Option.bind_eq_some_iff.mp H
      obtain ⟨r5, T4_, H⟩ := H
      have T4 := Az.mk T4_
      clear T4_
      try dsimp only at H
      replace H := Option.bind_eq_some_iff.mp H
      obtain ⟨r8, T7_, H⟩ := H
      have T7 := Az.mk T7_
      clear T7_
      try dsimp only at H
      replace H := Option.bind_eq_some_iff.mp H
      obtain ⟨r10, T9_, H⟩ := H
      have T9 := Az.mk T9_
      clear T9_
      try dsimp only at H
      replace H := Option.bind_eq_some_iff.mp H
      obtain ⟨r12, T11_, H⟩ := H
      have T11 := Az.mk T11_
      clear T11_
      try dsimp only at H
      replace H := Option.bind_eq_some_iff.mp H
      obtain ⟨r14, T13_, H⟩ := H
      have T13 := Az.mk T13_
      clear T13_
      try dsimp only at H
      replace H := Option.bind_eq_some_iff.mp H
      obtain ⟨r16, T15_, H⟩ := H
      have T15 := Az.mk T15_
      clear T15_
      try dsimp only at H
      by_cases c31 : r16 = r10
      · rw [if_pos c31] at H
        subst c31
        replace H := Option.bind_eq_some_iff.mp H
        obtain ⟨r19, T18_, H⟩ := H
        have T18 := Az.mk T18_
        clear T18_
        try dsimp only at H
        replace H := Option.bind_eq_some_iff.mp H
        obtain ⟨r22, T21_, H⟩ := H
        have T21 := Az.mk T21_
        clear T21_
        try dsimp only at H
        by_cases c32 : r22 = true
        · rw [if_pos c32] at H
          subst c32
          replace H := Option.bind_eq_some_iff.mp H
          obtain ⟨r25, T24_, H⟩ := H
          have T24 := Az.mk T24_
          clear T24_
          try dsimp only at H
          replace H := Option.bind_eq_some_iff.mp H
          obtain ⟨r28, T27_, H⟩ := H
          have T27 := Az.mk T27_
          clear T27_
          try dsimp only at H
          by_cases c33 : r28 = true
          · rw [if_pos c33] at H
            subst c33
            obtain rfl := Option.some.inj H
            go_enter Try.func7, Try.ntmps7
            go_wp2_with (first | ((with_reducible refine gtC (f := 13) rfl ?_); refine goesL_ (some 15) rfl rfl Try.func13 (by kernel_rfl) rfl #[.slice A0 l0.length c0, .int .i64 1048576] rfl (by (try simp only [List.map_toArray, List.map_cons, List.map_nil]); first | done | rfl) ?_; refine (laws_szIntSS.calls k A0 c0 (l0) 1048576 r2 w (Kd.C_below HR0.out HB_w.out) HC0.out T1.out).mono ?_; rintro e W1 ⟨rfl, hd⟩; refine ⟨_, rfl, ?_⟩; have hb := Drawn0.below hd; clear hd; have HB_W1 := Az.mk (bwT HB_w.out hb); have HS_W1 := Az.mk (show w.heap.size ≤ W1.heap.size from hb.size); clear hb) | ((with_reducible refine gtC (f := 15) rfl ?_); refine goesL_ (some 19) rfl rfl Try.func15 (by kernel_rfl) rfl #[.slice A0 l0.length c0] rfl (by (try simp only [List.map_toArray, List.map_cons, List.map_nil]); first | done | rfl) ?_; refine (laws_toIntSS.calls k A0 c0 (l0) r5 W1 (Kd.C_below HR0.out HB_W1.out) HC0.out T4.out).mono ?_; rintro e W2 ⟨v19_0, rfl, ho0, hb⟩; refine ⟨_, rfl, ?_⟩; have HO19_0 := Az.mk (S_iv (w := w) ho0 HB_W1.out.size); have HB_W2 := Az.mk (bwT HB_W1.out hb); have HS_W2 := Az.mk (show W1.heap.size ≤ W2.heap.size from hb.size); clear HB_W1; clear hb; clear ho0; obtain ⟨A19_0, c19_0, e_v19_0⟩ := Kd.S_slice HO19_0.out; subst e_v19_0) | ((with_reducible refine gtC (f := 23) rfl ?_); refine goesL_ (some 21) rfl rfl Try.func23 (by kernel_rfl) rfl #[.slice A1 l1.length c1] rfl (by (try simp only [List.map_toArray, List.map_cons, List.map_nil]); first | done | rfl) ?_; refine (laws_toIntS.calls k A1 c1 (l1) r8 W2 (Kd.C_below HR1.out HB_W2.out) HC1.out T7.out).mono ?_; rintro e W3 ⟨v21_0, rfl, ho0, hb⟩; refine ⟨_, rfl, ?_⟩; have HO21_0 := Az.mk (R_iv (w := w) ho0 HB_W2.out.size); have HB_W3 := Az.mk (bwT HB_W2.out hb); have HS_W3 := Az.mk (show W2.heap.size ≤ W3.heap.size from hb.size); have HO19_0_ := Az.mk (Kd.S_below HO19_0.out hb); clear HO19_0; have HO19_0 := HO19_0_; clear HO19_0_; clear HB_W2; clear hb; clear ho0; obtain ⟨A21_0, c21_0, e_v21_0⟩ := Kd.R_slice HO21_0.out; subst e_v21_0) | ((with_reducible refine gtC (f := 30) rfl ?_); refine goesL_ (some 22) rfl rfl Try.func30 (by kernel_rfl) rfl #[.slice A19_0 r5.length c19_0, .slice A21_0 r8.length c21_0] rfl (by (try simp only [List.map_toArray, List.map_cons, List.map_nil]); first | done | rfl) ?_; refine (spec_BestFlip.calls k A19_0 c19_0 (r5) A21_0 c21_0 (r8) r16 W3 (Kd.S_reads' HO19_0.out).2.2 (Nat.le_trans (Nat.le_of_eq (Kd.S_reads' HO19_0.out).1.symm) (Kd.S_reads' HO19_0.out).2.1) (Kd.R_reads' HO21_0.out).2.2 (Nat.le_trans (Nat.le_of_eq (Kd.R_reads' HO21_0.out).1.symm) (Kd.R_reads' HO21_0.out).2.1) T9.out).mono ?_; rintro e W4 ⟨rfl, hb⟩; refine ⟨_, rfl, ?_⟩; have HB_W4 := Az.mk (bwT HB_W3.out hb); have HS_W4 := Az.mk (show W3.heap.size ≤ W4.heap.size from hb.size); have HO19_0_ := Az.mk (Kd.S_below HO19_0.out hb); have HO21_0_ := Az.mk (Kd.R_below HO21_0.out hb); clear HO19_0; have HO19_0 := HO19_0_; clear HO19_0_; clear HO21_0; have HO21_0 := HO21_0_; clear HO21_0_; clear HB_W3; clear hb) | ((with_reducible refine gtC (f := 15) rfl ?_); refine goesL_ (some 24) rfl rfl Try.func15 (by kernel_rfl) rfl #[.slice A0 l0.length c0] rfl (by (try simp only [List.map_toArray, List.map_cons, List.map_nil]); first | done | rfl) ?_; refine (laws_toIntSS.calls k A0 c0 (l0) r12 W4 (Kd.C_below HR0.out HB_W4.out) HC0.out T11.out).mono ?_; rintro e W5 ⟨v24_0, rfl, ho0, hb⟩; refine ⟨_, rfl, ?_⟩; have HO24_0 := Az.mk (S_iv (w := w) ho0 HB_W4.out.size); have HB_W5 := Az.mk (bwT HB_W4.out hb); have HS_W5 := Az.mk (show W4.heap.size ≤ W5.heap.size from hb.size); have HO19_0_ := Az.mk (Kd.S_below HO19_0.out hb); have HO21_0_ := Az.mk (Kd.R_below HO21_0.out hb); clear HO19_0; have HO19_0 := HO19_0_; clear HO19_0_; clear HO21_0; have HO21_0 := HO21_0_; clear HO21_0_; clear HB_W4; clear hb; clear ho0; obtain ⟨A24_0, c24_0, e_v24_0⟩ := Kd.S_slice HO24_0.out; subst e_v24_0) | ((with_reducible refine gtC (f := 23) rfl ?_); refine goesL_ (some 26) rfl rfl Try.func23 (by kernel_rfl) rfl #[.slice A1 l1.length c1] rfl (by (try simp only [List.map_toArray, List.map_cons, List.map_nil]); first | done | rfl) ?_; refine (laws_toIntS.calls k A1 c1 (l1) r14 W5 (Kd.C_below HR1.out HB_W5.out) HC1.out T13.out).mono ?_; rintro e W6 ⟨v26_0, rfl, ho0, hb⟩; refine ⟨_, rfl, ?_⟩; have HO26_0 := Az.mk (R_iv (w := w) ho0 HB_W5.out.size); have HB_W6 := Az.mk (bwT HB_W5.out hb); have HS_W6 := Az.mk (show W5.heap.size ≤ W6.heap.size from hb.size); have HO19_0_ := Az.mk (Kd.S_below HO19_0.out hb); have HO21_0_ := Az.mk (Kd.R_below HO21_0.out hb); have HO24_0_ := Az.mk (Kd.S_below HO24_0.out hb); clear HO19_0; have HO19_0 := HO19_0_; clear HO19_0_; clear HO21_0; have HO21_0 := HO21_0_; clear HO21_0_; clear HO24_0; have HO24_0 := HO24_0_; clear HO24_0_; clear HB_W5; clear hb; clear ho0; obtain ⟨A26_0, c26_0, e_v26_0⟩ := Kd.R_slice HO26_0.out; subst e_v26_0) | ((with_reducible refine gtC (f := 31) rfl ?_); refine goesL_ (some 29) rfl rfl Try.func31 (by kernel_rfl) rfl #[.slice A24_0 r12.length c24_0, .slice A26_0 r14.length c26_0] rfl (by (try simp only [List.map_toArray, List.map_cons, List.map_nil]); first | done | rfl) ?_; refine (impl_BestFlip.calls k A24_0 c24_0 (r12) A26_0 c26_0 (r14) r16 W6 (Kd.S_reads' HO24_0.out).2.2 (Nat.le_trans (Nat.le_of_eq (Kd.S_reads' HO24_0.out).1.symm) (Kd.S_reads' HO24_0.out).2.1) (Kd.R_reads' HO26_0.out).2.2 (Nat.le_trans (Nat.le_of_eq (Kd.R_reads' HO26_0.out).1.symm) (Kd.R_reads' HO26_0.out).2.1) T15.out).mono ?_; rintro e W7 ⟨rfl, hb⟩; refine ⟨_, rfl, ?_⟩; have HB_W7 := Az.mk (bwT HB_W6.out hb); have HS_W7 := Az.mk (show W6.heap.size ≤ W7.heap.size from hb.size); have HO19_0_ := Az.mk (Kd.S_below HO19_0.out hb); have HO21_0_ := Az.mk (Kd.R_below HO21_0.out hb); have HO24_0_ := Az.mk (Kd.S_below HO24_0.out hb); have HO26_0_ := Az.mk (Kd.R_below HO26_0.out hb); clear HO19_0; have HO19_0 := HO19_0_; clear HO19_0_; clear HO21_0; have HO21_0 := HO21_0_; clear HO21_0_; clear HO24_0; have HO24_0 := HO24_0_; clear HO24_0_; clear HO26_0; have HO26_0 := HO26_0_; clear HO26_0_; clear HB_W6; clear hb) | ((with_reducible refine gtC (f := 15) rfl ?_); refine goesL_ (some 35) rfl rfl Try.func15 (by kernel_rfl) rfl #[.slice A0 l0.length c0] rfl (by (try simp only [List.map_toArray, List.map_cons, List.map_nil]); first | done | rfl) ?_; refine (laws_toIntSS.calls k A0 c0 (l0) r19 W7 (Kd.C_below HR0.out HB_W7.out) HC0.out T18.out).mono ?_; rintro e W8 ⟨v35_0, rfl, ho0, hb⟩; refine ⟨_, rfl, ?_⟩; have HO35_0 := Az.mk (S_iv (w := w) ho0 HB_W7.out.size); have HB_W8 := Az.mk (bwT HB_W7.out hb); have HS_W8 := Az.mk (show W7.heap.size ≤ W8.heap.size from hb.size); have HO19_0_ := Az.mk (Kd.S_below HO19_0.out hb); have HO21_0_ := Az.mk (Kd.R_below HO21_0.out hb); have HO24_0_ := Az.mk (Kd.S_below HO24_0.out hb); have HO26_0_ := Az.mk (Kd.R_below HO26_0.out hb); clear HO19_0; have HO19_0 := HO19_0_; clear HO19_0_; clear HO21_0; have HO21_0 := HO21_0_; clear HO21_0_; clear HO24_0; have HO24_0 := HO24_0_; clear HO24_0_; clear HO26_0; have HO26_0 := HO26_0_; clear HO26_0_; clear HB_W7; clear hb; clear ho0; obtain ⟨A35_0, c35_0, e_v35_0⟩ := Kd.S_slice HO35_0.out; subst e_v35_0) | ((with_reducible refine gtC (f := 18) rfl ?_); refine goesL_ (some 36) rfl rfl Try.func18 (by kernel_rfl) rfl #[.slice A24_0 r12.length c24_0, .slice A35_0 r19.length c35_0] rfl (by (try simp only [List.map_toArray, List.map_cons, List.map_nil]); first | done | rfl) ?_; refine (laws_eqIntSS.calls k A24_0 c24_0 (r12) A35_0 c35_0 (r19) true W8 (Kd.S_reads' HO24_0.out).2.2 (Nat.le_trans (Nat.le_of_eq (Kd.S_reads' HO24_0.out).1.symm) (Kd.S_reads' HO24_0.out).2.1) (Kd.S_reads' HO35_0.out).2.2 (Nat.le_trans (Nat.le_of_eq (Kd.S_reads' HO35_0.out).1.symm) (Kd.S_reads' HO35_0.out).2.1) T21.out).mono ?_; rintro e W9 ⟨rfl, hd⟩; refine ⟨_, rfl, ?_⟩; have hb := Drawn0.below hd; clear hd; have HB_W9 := Az.mk (bwT HB_W8.out hb); have HS_W9 := Az.mk (show W8.heap.size ≤ W9.heap.size from hb.size); have HO19_0_ := Az.mk (Kd.S_below HO19_0.out hb); have HO21_0_ := Az.mk (Kd.R_below HO21_0.out hb); have HO24_0_ := Az.mk (Kd.S_below HO24_0.out hb); have HO26_0_ := Az.mk (Kd.R_below HO26_0.out hb); have HO35_0_ := Az.mk (Kd.S_below HO35_0.out hb); clear HO19_0; have HO19_0 := HO19_0_; clear HO19_0_; clear HO21_0; have HO21_0 := HO21_0_; clear HO21_0_; clear HO24_0; have HO24_0 := HO24_0_; clear HO24_0_; clear HO26_0; have HO26_0 := HO26_0_; clear HO26_0_; clear HO35_0; have HO35_0 := HO35_0_; clear HO35_0_; clear HB_W8; clear hb) | ((with_reducible refine gtC (f := 23) rfl ?_); refine goesL_ (some 40) rfl rfl Try.func23 (by kernel_rfl) rfl #[.slice A1 l1.length c1] rfl (by (try simp only [List.map_toArray, List.map_cons, List.map_nil]); first | done | rfl) ?_; refine (laws_toIntS.calls k A1 c1 (l1) r25 W9 (Kd.C_below HR1.out HB_W9.out) HC1.out T24.out).mono ?_; rintro e W10 ⟨v40_0, rfl, ho0, hb⟩; refine ⟨_, rfl, ?_⟩; have HO40_0 := Az.mk (R_iv (w := w) ho0 HB_W9.out.size); have HB_W10 := Az.mk (bwT HB_W9.out hb); have HS_W10 := Az.mk (show W9.heap.size ≤ W10.heap.size from hb.size); have HO19_0_ := Az.mk (Kd.S_below HO19_0.out hb); have HO21_0_ := Az.mk (Kd.R_below HO21_0.out hb); have HO24_0_ := Az.mk (Kd.S_below HO24_0.out hb); have HO26_0_ := Az.mk (Kd.R_below HO26_0.out hb); have HO35_0_ := Az.mk (Kd.S_below HO35_0.out hb); clear HO19_0; have HO19_0 := HO19_0_; clear HO19_0_; clear HO21_0; have HO21_0 := HO21_0_; clear HO21_0_; clear HO24_0; have HO24_0 := HO24_0_; clear HO24_0_; clear HO26_0; have HO26_0 := HO26_0_; clear HO26_0_; clear HO35_0; have HO35_0 := HO35_0_; clear HO35_0_; clear HB_W9; clear hb; clear ho0; obtain ⟨A40_0, c40_0, e_v40_0⟩ := Kd.R_slice HO40_0.out; subst e_v40_0) | ((with_reducible refine gtC (f := 17) rfl ?_); refine goesL_ (some 41) rfl rfl Try.func17 (by kernel_rfl) rfl #[.slice A26_0 r14.length c26_0, .slice A40_0 r25.length c40_0] rfl (by (try simp only [List.map_toArray, List.map_cons, List.map_nil]); first | done | rfl) ?_; refine (laws_eqIntS.calls k A26_0 c26_0 (r14) A40_0 c40_0 (r25) true W10 (Kd.R_reads' HO26_0.out).2.2 (Nat.le_trans (Nat.le_of_eq (Kd.R_reads' HO26_0.out).1.symm) (Kd.R_reads' HO26_0.out).2.1) (Kd.R_reads' HO40_0.out).2.2 (Nat.le_trans (Nat.le_of_eq (Kd.R_reads' HO40_0.out).1.symm) (Kd.R_reads' HO40_0.out).2.1) T27.out).mono ?_; rintro e W11 ⟨rfl, hd⟩; refine ⟨_, rfl, ?_⟩; have hb := Drawn0.below hd; clear hd; have HB_W11 := Az.mk (bwT HB_W10.out hb); have HS_W11 := Az.mk (show W10.heap.size ≤ W11.heap.size from hb.size); have HO19_0_ := Az.mk (Kd.S_below HO19_0.out hb); have HO21_0_ := Az.mk (Kd.R_below HO21_0.out hb); have HO24_0_ := Az.mk (Kd.S_below HO24_0.out hb); have HO26_0_ := Az.mk (Kd.R_below HO26_0.out hb); have HO35_0_ := Az.mk (Kd.S_below HO35_0.out hb); have HO40_0_ := Az.mk (Kd.R_below HO40_0.out hb); clear HO19_0; have HO19_0 := HO19_0_; clear HO19_0_; clear HO21_0; have HO21_0 := HO21_0_; clear HO21_0_; clear HO24_0; have HO24_0 := HO24_0_; clear HO24_0_; clear HO26_0; have HO26_0 := HO26_0_; clear HO26_0_; clear HO35_0; have HO35_0 := HO35_0_; clear HO35_0_; clear HO40_0; have HO40_0 := HO40_0_; clear HO40_0_; clear HB_W10; clear hb))
            go_ret
            exact ⟨rfl, HB_W11.out⟩
          · rw [if_neg c33] at H; exact absurd H (by simp)
        · rw [if_neg c32] at H; exact absurd H (by simp)
      · rw [if_neg c31] at H; exact absurd H (by simp)
end Go.Proofs.Ytolmicnapemljaa.P
