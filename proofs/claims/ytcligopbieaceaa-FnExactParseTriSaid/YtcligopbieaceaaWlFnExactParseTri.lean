-- By this session's lawgen.py: the walk of a law in a straight line. Not trusted: Lean checks it.
import Derived.Test.YtcligopbieaceaaPx5
import Derived.Test.YtcligopbieaceaaPx9
import Derived.Test.YtcligopbieaceaaPx30
import Derived.Test.YtcligopbieaceaaPx32
namespace Go.Proofs.Ytcligopbieaceaa.P
open Go.RowKit Go.Proofs.YtcligopbieaceaaW.PrintWords Go.Proofs.YtcligopbieaceaaW.PrintLast Go.Proofs.YtcligopbieaceaaW.PrintMore
set_option linter.unusedVariables false
/-- Blocks from lo on, below hi. -/
def Iv (lo hi : Nat) (k : Nat) : Prop := lo ≤ k ∧ k < hi
section
variable {α : Type} {d : Kd α} {e : Nat} {w Wp W : World} {ok : Nat → Prop} {v : Value} {xs : List α} {a b c f : Nat}
theorem S_iv (h : Kd.S d e W Wp.heap.size ok v xs) (hb : w.heap.size ≤ Wp.heap.size) : Kd.S d e W w.heap.size (Iv Wp.heap.size W.heap.size) v xs := Kd.S_lower (Kd.S_mono (Kd.S_bound h) (fun _ hk => ⟨hk.2.1, hk.2.2.1⟩)) hb
theorem R_iv (h : Kd.R d e W Wp.heap.size ok v xs) (hb : w.heap.size ≤ Wp.heap.size) : Kd.R d e W w.heap.size (Iv Wp.heap.size W.heap.size) v xs := Kd.R_lower (Kd.R_mono (Kd.R_bound h) (fun _ hk => ⟨hk.2.1, hk.2.2.1⟩)) hb
theorem S_off (h : Kd.S d e Wp w.heap.size (Iv a b) v xs) (hk : Kept Wp W (Iv c f)) (hd : b ≤ c ∨ f ≤ a) : Kd.S d e W w.heap.size (Iv a b) v xs := Kd.S_step h (fun k ho hlt => hk.2 k hlt (fun hc => by have h1 := ho.1; have h2 := ho.2; have h3 := hc.1; have h4 := hc.2; omega))
theorem R_off (h : Kd.R d e Wp w.heap.size (Iv a b) v xs) (hk : Kept Wp W (Iv c f)) (hd : b ≤ c ∨ f ≤ a) : Kd.R d e W w.heap.size (Iv a b) v xs := Kd.R_step h (fun k ho hlt => hk.2 k hlt (fun hc => by have h1 := ho.1; have h2 := ho.2; have h3 := hc.1; have h4 := hc.2; omega))
end
theorem calls_len {P : Program} {fn : FuncId} {A : Option Addr} {c n m : Nat} {x : Value} {w : World} {Q : Ending → World → Prop} (h : n = m) (hc : Calls P fn #[.slice A m c, x] w Q) : Calls P fn #[.slice A n c, x] w Q := by
  subst h
  exact hc

def laws_FnExactParseTri.f (k : Nat) (a0 : ByteArray) : Option Bool := if (a0.size : Int) > 1048576 then some true else ((spec_ParseTri.f k a0).bind fun (r2, r3) => ((impl_ParseTri.f k a0).bind fun (r5, r6) => ((laws_eqIntSS.f k (r5) (r2)).bind fun r9 => (if r9 = true then (if r6 = r3 then ((laws_markIntSS.f k (r5) 1).bind fun (r11, r12) => ((laws_heldIntSS.f k (r12) 1).bind fun r15 => (if r15 < 0 then none else (if r15 = r11 then ((impl_ParseTri.f k a0).bind fun (r17, r18) => ((laws_eqIntSS.f k (r17) (r2)).bind fun r21 => (if r21 = true then (if r18 = r3 then ((laws_heldIntSS.f k (r12) 1).bind fun r24 => (if r24 < 0 then none else (if r24 = r11 then (some true) else none))) else none) else none))) else none)))) else none) else none))))
set_option maxHeartbeats 8000000 in
set_option maxRecDepth 100000 in
theorem laws_FnExactParseTri.calls (k : Nat) (a0 : ByteArray) (r : Bool) (w : World)  (h : laws_FnExactParseTri.f k a0 = some r) :
    Calls Try.prog 8 #[.string a0] w fun e w' => e = .returned (.bool r) ∧ Below w.heap.size w w' := by
  have HB_w := Aside0.mk (Below.refl w.heap.size w)
  have H := h
  clear h
  unfold laws_FnExactParseTri.f at H
  by_cases c25 : (a0.size : Int) > 1048576
  · rw [if_pos c25] at H
    have c25b : decide (1048576 < (a0.size : Int)) = true := decide_eq_true c25
    clear c25
    obtain rfl := Option.some.inj H
    go_enter Try.func8, Try.ntmps8
    go_wp2
    go_ret
    exact ⟨rfl, HB_w.out⟩
  · rw [if_neg c25] at H
    have c25b : decide (1048576 < (a0.size : Int)) = false := decide_eq_false c25
    clear c25
    replace H := Option.bind_eq_some_iff.mp H
    obtain ⟨⟨r2, r3⟩, T1_, H⟩ := H
    have T1 := Aside0.mk T1_
    clear T1_
    try dsimp only at H
    replace H := Option.bind_eq_some_iff.mp H
    obtain ⟨⟨r5, r6⟩, T4_, H⟩ := H
    have T4 := Aside0.mk T4_
    clear T4_
    try dsimp only at H
    replace H := Option.bind_eq_some_iff.mp H
    obtain ⟨r9, T8_, H⟩ := H
    have T8 := Aside0.mk T8_
    clear T8_
    try dsimp only at H
    by_cases c26 : r9 = true
    · rw [if_pos c26] at H
      subst c26
      by_cases c27 : r6 = r3
      · rw [if_pos c27] at H
        subst c27
        replace H := Option.bind_eq_some_iff.mp H
        obtain ⟨⟨r11, r12⟩, T10_, H⟩ := H
        have T10 := Aside0.mk T10_
        clear T10_
        try dsimp only at H
        replace H := Option.bind_eq_some_iff.mp H
        obtain ⟨r15, T14_, H⟩ := H
        have T14 := Aside0.mk T14_
        clear T14_
        try dsimp only at H
        by_cases c28 : r15 < 0
        · rw [if_pos c28] at H; exact absurd H (by simp)
        · rw [if_neg c28] at H
          have c28b := decide_eq_false c28
          clear c28
          by_cases c29 : r15 = r11
          · rw [if_pos c29] at H
            subst c29
            replace H := Option.bind_eq_some_iff.mp H
            obtain ⟨⟨r17, r18⟩, T16_, H⟩ := H
            have T16 := Aside0.mk T16_
            clear T16_
            try dsimp only at H
            replace H := Option.bind_eq_some_iff.mp H
            obtain ⟨r21, T20_, H⟩ := H
            have T20 := Aside0.mk T20_
            clear T20_
            try dsimp only at H
            by_cases c30 : r21 = true
            · rw [if_pos c30] at H
              subst c30
              by_cases c31 : r18 = r6
              · rw [if_pos c31] at H
                subst c31
                replace H := Option.bind_eq_some_iff.mp H
                obtain ⟨r24, T23_, H⟩ := H
                have T23 := Aside0.mk T23_
                clear T23_
                try dsimp only at H
                by_cases c32 : r24 < 0
                · rw [if_pos c32] at H; exact absurd H (by simp)
                · rw [if_neg c32] at H
                  have c32b := decide_eq_false c32
                  clear c32
                  by_cases c33 : r24 = r15
                  · rw [if_pos c33] at H
                    subst c33
                    obtain rfl := Option.some.inj H
                    go_enter Try.func8, Try.ntmps8
                    go_wp2_with (first | ((with_reducible refine gate_callee (f := 32) rfl ?_); refine goesL_ (some 16) rfl rfl Try.func32 (by kernel_rfl) rfl #[.string a0] rfl (by (try simp only [List.map_toArray, List.map_cons, List.map_nil]); first | done | rfl) ?_; refine (spec_ParseTri.calls k a0 r2 r18 w  T1.out).mono ?_; rintro e W1 ⟨v16_0, rfl, ho0, hb⟩; refine ⟨_, rfl, ?_⟩; have HO16_0 := Aside0.mk (S_iv (w := w) ho0 HB_w.out.size); have HB_W1 := Aside0.mk (below_step HB_w.out hb); have HS_W1 := Aside0.mk (show w.heap.size ≤ W1.heap.size from hb.size); clear hb; clear ho0; obtain ⟨A16_0, c16_0, e_v16_0⟩ := Kd.S_slice HO16_0.out; subst e_v16_0) | ((with_reducible refine gate_callee (f := 33) rfl ?_); refine goesL_ (some 21) rfl rfl Try.func33 (by kernel_rfl) rfl #[.string a0] rfl (by (try simp only [List.map_toArray, List.map_cons, List.map_nil]); first | done | rfl) ?_; refine (impl_ParseTri.calls k a0 r5 r18 W1  T4.out).mono ?_; rintro e W2 ⟨v21_0, rfl, ho0, hb⟩; refine ⟨_, rfl, ?_⟩; have HO21_0 := Aside0.mk (S_iv (w := w) ho0 HB_W1.out.size); have HB_W2 := Aside0.mk (below_step HB_W1.out hb); have HS_W2 := Aside0.mk (show W1.heap.size ≤ W2.heap.size from hb.size); have HO16_0_ := Aside0.mk (Kd.S_below HO16_0.out hb); clear HO16_0; have HO16_0 := HO16_0_; clear HO16_0_; clear HB_W1; clear hb; clear ho0; obtain ⟨A21_0, c21_0, e_v21_0⟩ := Kd.S_slice HO21_0.out; subst e_v21_0) | ((with_reducible refine gate_callee (f := 27) rfl ?_); refine goesL_ (some 26) rfl rfl Try.func27 (by kernel_rfl) rfl #[.slice A21_0 r5.length c21_0, .slice A16_0 r2.length c16_0] rfl (by (try simp only [List.map_toArray, List.map_cons, List.map_nil]); first | done | rfl) ?_; refine (laws_eqIntSS.calls k A21_0 c21_0 (r5) A16_0 c16_0 (r2) true W2 (Kd.S_reads' HO21_0.out).2.2 (Nat.le_trans (Nat.le_of_eq (Kd.S_reads' HO21_0.out).1.symm) (Kd.S_reads' HO21_0.out).2.1) (Kd.S_reads' HO16_0.out).2.2 (Nat.le_trans (Nat.le_of_eq (Kd.S_reads' HO16_0.out).1.symm) (Kd.S_reads' HO16_0.out).2.1) T8.out).mono ?_; rintro e W3 ⟨rfl, hd⟩; refine ⟨_, rfl, ?_⟩; have hb := Drawn0.below hd; clear hd; have HB_W3 := Aside0.mk (below_step HB_W2.out hb); have HS_W3 := Aside0.mk (show W2.heap.size ≤ W3.heap.size from hb.size); have HO16_0_ := Aside0.mk (Kd.S_below HO16_0.out hb); have HO21_0_ := Aside0.mk (Kd.S_below HO21_0.out hb); clear HO16_0; have HO16_0 := HO16_0_; clear HO16_0_; clear HO21_0; have HO21_0 := HO21_0_; clear HO21_0_; clear HB_W2; clear hb) | ((with_reducible refine gate_callee (f := 34) rfl ?_); refine goesL_ (some 35) rfl rfl Try.func34 (by kernel_rfl) rfl #[.slice A21_0 r5.length c21_0, .int .i64 1] rfl (by (try simp only [List.map_toArray, List.map_cons, List.map_nil]); first | done | rfl) ?_; refine (laws_markIntSS.calls k (Iv W1.heap.size W2.heap.size) (.slice A21_0 r5.length c21_0) (r5) 1 r24 r12 w W3 HB_W3.out HO21_0.out T10.out).mono ?_; rintro e W4 ⟨rfl, hy, hb, hk⟩; refine ⟨_, rfl, ?_⟩; have HB_W4 := Aside0.mk hb; have HS_W4 := Aside0.mk (show W3.heap.size ≤ W4.heap.size from hk.1); have HO16_0_ := Aside0.mk (S_off HO16_0.out hk (by have := HS_W1.out; have := HS_W2.out; have := HS_W3.out; omega)); have HO21_0_ := Aside0.mk (hy); clear HO16_0; have HO16_0 := HO16_0_; clear HO16_0_; clear HO21_0; have HO21_0 := HO21_0_; clear HO21_0_; clear HB_W3; clear hb hk hy) | ((with_reducible refine gate_callee (f := 35) rfl ?_); refine goesL_ (some 38) rfl rfl Try.func35 (by kernel_rfl) rfl #[.slice A21_0 r5.length c21_0, .int .i64 1] rfl (by (try simp only [List.map_toArray, List.map_cons, List.map_nil]); first | done | rfl) ?_; refine (calls_len ((Kd.S_reads' HO21_0.out).1) (laws_heldIntSS.calls k A21_0 c21_0 (r12) 1 r24 W4 (Kd.S_reads' HO21_0.out).2.2 (Nat.le_trans (Nat.le_of_eq (Kd.S_reads' HO21_0.out).1.symm) (Kd.S_reads' HO21_0.out).2.1) T14.out)).mono ?_; rintro e W5 ⟨rfl, hd⟩; refine ⟨_, rfl, ?_⟩; have hb := Drawn0.below hd; clear hd; have HB_W5 := Aside0.mk (below_step HB_W4.out hb); have HS_W5 := Aside0.mk (show W4.heap.size ≤ W5.heap.size from hb.size); have HO16_0_ := Aside0.mk (Kd.S_below HO16_0.out hb); have HO21_0_ := Aside0.mk (Kd.S_below HO21_0.out hb); clear HO16_0; have HO16_0 := HO16_0_; clear HO16_0_; clear HO21_0; have HO21_0 := HO21_0_; clear HO21_0_; clear HB_W4; clear hb) | ((with_reducible refine gate_callee (f := 33) rfl ?_); refine goesL_ (some 46) rfl rfl Try.func33 (by kernel_rfl) rfl #[.string a0] rfl (by (try simp only [List.map_toArray, List.map_cons, List.map_nil]); first | done | rfl) ?_; refine (impl_ParseTri.calls k a0 r17 r18 W5  T16.out).mono ?_; rintro e W6 ⟨v46_0, rfl, ho0, hb⟩; refine ⟨_, rfl, ?_⟩; have HO46_0 := Aside0.mk (S_iv (w := w) ho0 HB_W5.out.size); have HB_W6 := Aside0.mk (below_step HB_W5.out hb); have HS_W6 := Aside0.mk (show W5.heap.size ≤ W6.heap.size from hb.size); have HO16_0_ := Aside0.mk (Kd.S_below HO16_0.out hb); have HO21_0_ := Aside0.mk (Kd.S_below HO21_0.out hb); clear HO16_0; have HO16_0 := HO16_0_; clear HO16_0_; clear HO21_0; have HO21_0 := HO21_0_; clear HO21_0_; clear HB_W5; clear hb; clear ho0; obtain ⟨A46_0, c46_0, e_v46_0⟩ := Kd.S_slice HO46_0.out; subst e_v46_0) | ((with_reducible refine gate_callee (f := 27) rfl ?_); refine goesL_ (some 51) rfl rfl Try.func27 (by kernel_rfl) rfl #[.slice A46_0 r17.length c46_0, .slice A16_0 r2.length c16_0] rfl (by (try simp only [List.map_toArray, List.map_cons, List.map_nil]); first | done | rfl) ?_; refine (laws_eqIntSS.calls k A46_0 c46_0 (r17) A16_0 c16_0 (r2) true W6 (Kd.S_reads' HO46_0.out).2.2 (Nat.le_trans (Nat.le_of_eq (Kd.S_reads' HO46_0.out).1.symm) (Kd.S_reads' HO46_0.out).2.1) (Kd.S_reads' HO16_0.out).2.2 (Nat.le_trans (Nat.le_of_eq (Kd.S_reads' HO16_0.out).1.symm) (Kd.S_reads' HO16_0.out).2.1) T20.out).mono ?_; rintro e W7 ⟨rfl, hd⟩; refine ⟨_, rfl, ?_⟩; have hb := Drawn0.below hd; clear hd; have HB_W7 := Aside0.mk (below_step HB_W6.out hb); have HS_W7 := Aside0.mk (show W6.heap.size ≤ W7.heap.size from hb.size); have HO16_0_ := Aside0.mk (Kd.S_below HO16_0.out hb); have HO21_0_ := Aside0.mk (Kd.S_below HO21_0.out hb); have HO46_0_ := Aside0.mk (Kd.S_below HO46_0.out hb); clear HO16_0; have HO16_0 := HO16_0_; clear HO16_0_; clear HO21_0; have HO21_0 := HO21_0_; clear HO21_0_; clear HO46_0; have HO46_0 := HO46_0_; clear HO46_0_; clear HB_W6; clear hb) | ((with_reducible refine gate_callee (f := 35) rfl ?_); refine goesL_ (some 60) rfl rfl Try.func35 (by kernel_rfl) rfl #[.slice A21_0 r5.length c21_0, .int .i64 1] rfl (by (try simp only [List.map_toArray, List.map_cons, List.map_nil]); first | done | rfl) ?_; refine (calls_len ((Kd.S_reads' HO21_0.out).1) (laws_heldIntSS.calls k A21_0 c21_0 (r12) 1 r24 W7 (Kd.S_reads' HO21_0.out).2.2 (Nat.le_trans (Nat.le_of_eq (Kd.S_reads' HO21_0.out).1.symm) (Kd.S_reads' HO21_0.out).2.1) T23.out)).mono ?_; rintro e W8 ⟨rfl, hd⟩; refine ⟨_, rfl, ?_⟩; have hb := Drawn0.below hd; clear hd; have HB_W8 := Aside0.mk (below_step HB_W7.out hb); have HS_W8 := Aside0.mk (show W7.heap.size ≤ W8.heap.size from hb.size); have HO16_0_ := Aside0.mk (Kd.S_below HO16_0.out hb); have HO21_0_ := Aside0.mk (Kd.S_below HO21_0.out hb); have HO46_0_ := Aside0.mk (Kd.S_below HO46_0.out hb); clear HO16_0; have HO16_0 := HO16_0_; clear HO16_0_; clear HO21_0; have HO21_0 := HO21_0_; clear HO21_0_; clear HO46_0; have HO46_0 := HO46_0_; clear HO46_0_; clear HB_W7; clear hb))
                    go_ret
                    exact ⟨rfl, HB_W8.out⟩
                  · rw [if_neg c33] at H; exact absurd H (by simp)
              · rw [if_neg c31] at H; exact absurd H (by simp)
            · rw [if_neg c30] at H; exact absurd H (by simp)
          · rw [if_neg c29] at H; exact absurd H (by simp)
      · rw [if_neg c27] at H; exact absurd H (by simp)
    · rw [if_neg c26] at H; exact absurd H (by simp)
end Go.Proofs.Ytcligopbieaceaa.P
