-- By this session's lawgen.py: the walk of a law in a straight line. Not trusted: Lean checks it.
import Derived.Test.YtcligopbieaceaaPx5
import Derived.Test.YtcligopbieaceaaPx6
import Derived.Test.YtcligopbieaceaaPx9
import Derived.Test.YtcligopbieaceaaPx42
import Derived.Test.YtcligopbieaceaaPx43
namespace Go.Proofs.Ytcligopbieaceaa.P
open Go.RowKit Go.Proofs.YtcligopbieaceaaW.PrintWords Go.Proofs.YtcligopbieaceaaW.PrintLast Go.Proofs.YtcligopbieaceaaW.PrintMore
set_option linter.unusedVariables false
/-- Blocks from lo on, below hi. -/
def Iv (lo hi : Nat) (k : Nat) : Prop := lo ≤ k ∧ k < hi
section
variable {α : Type} {d : Kd α} {e : Nat} {w Wp W : World} {ok : Nat → Prop} {v : Value} {xs : List α} {a b c f : Nat}
theorem S_iv (h : Kd.S d e W Wp.heap.size ok v xs) (hb : w.heap.size ≤ Wp.heap.size) : Kd.S d e W w.heap.size (Iv Wp.heap.size W.heap.size) v xs := Kd.S_lower (Kd.S_mono (Kd.S_bound h) (fun _ hk => ⟨hk.2.1, hk.2.2.1⟩)) hb
theorem R_iv (h : Kd.R d e W Wp.heap.size ok v xs) (hb : w.heap.size ≤ Wp.heap.size) : Kd.R d e W w.heap.size (Iv Wp.heap.size W.heap.size) v xs := Kd.R_lower (Kd.R_mono (Kd.R_bound h) (fun _ hk => ⟨hk.2.1, hk.2.2.1⟩)) hb
theorem S_off (h : Kd.S d e Wp w.heap.size (Iv a b) v xs) (hk : Kept Wp W (Iv c f)) (hd : b ≤ c ∨ f ≤ a) : Kd.S d e W w.heap.size (Iv a b) v xs := Kd.S_step h (fun k ho hlt => hk.2 k hlt (fun hc => by have h1 := ho.1; have h2 := ho.2; have h3 := hc.1; have h4 := hc.2; omega))
theorem R_off (h : Kd.R d e Wp w.heap.size (Iv a b) v xs) (hk : Kept Wp W (Iv c f)) (hd : b ≤ c ∨ f ≤ a) : Kd.R d e W w.heap.size (Iv a b) v xs := Kd.R_step h (fun k ho hlt => hk.2 k hlt (fun hc => by have h1 := ho.1; have h2 := ho.2; have h3 := hc.1; have h4 := hc.2; omega))
end
theorem calls_len {P : Program} {fn : FuncId} {A : Option Addr} {c n m : Nat} {x : Value} {w : World} {Q : Ending → World → Prop} (h : n = m) (hc : Calls P fn #[.slice A m c, x] w Q) : Calls P fn #[.slice A n c, x] w Q := by
  subst h
  exact hc

def laws_FnExactFlipEdge.f (k : Nat) (l0 : List (List Int)) (a1 : Int) : Option Bool := (laws_szIntSS.f k (l0) 1048576).bind fun r2 => (if r2 < 0 then some true else ((laws_toIntSS.f k (l0)).bind fun r5 => ((spec_FlipEdge.f k (r5) a1).bind fun (r7, r8) => ((laws_toIntSS.f k (l0)).bind fun r10 => ((impl_FlipEdge.f k (r10) a1).bind fun (r12, r13) => ((laws_eqIntSS.f k (r12) (r7)).bind fun r16 => (if r16 = true then (if r13 = r8 then ((laws_toIntSS.f k (l0)).bind fun r19 => ((laws_eqIntSS.f k (r10) (r19)).bind fun r22 => (if r22 = true then ((laws_markIntSS.f k (r10) 1).bind fun (r24, r25) => (if r24 < 0 then none else ((laws_eqIntSS.f k (r12) (r7)).bind fun r28 => (if r28 = true then (if r13 = r8 then ((laws_markIntSS.f k (r12) 1).bind fun (r30, r31) => ((laws_heldIntSS.f k (r31) 1).bind fun r34 => (if r34 < 0 then none else (if r34 = r30 then ((laws_toIntSS.f k (l0)).bind fun r37 => ((impl_FlipEdge.f k (r37) a1).bind fun (r39, r40) => ((laws_eqIntSS.f k (r39) (r7)).bind fun r43 => (if r43 = true then (if r40 = r8 then ((laws_heldIntSS.f k (r31) 1).bind fun r46 => (if r46 < 0 then none else (if r46 = r30 then (some true) else none))) else none) else none)))) else none)))) else none) else none)))) else none))) else none) else none)))))))
set_option maxHeartbeats 8000000 in
set_option maxRecDepth 100000 in
theorem laws_FnExactFlipEdge.calls (k : Nat) (A0 : Option Addr) (c0 : Nat) (l0 : List (List Int)) (a1 : Int) (r : Bool) (w : World) (hr0 : Kd.C (Kd.slice 3 (Kd.int .i64)) w A0 l0.length l0) (hc0 : l0.length ≤ c0) (h : laws_FnExactFlipEdge.f k l0 a1 = some r) :
    Calls Try.prog 14 #[.slice A0 l0.length c0, .int .i64 a1] w fun e w' => e = .returned (.bool r) ∧ Below w.heap.size w w' := by
  have HR0 := Aside0.mk hr0
  have HC0 := Aside0.mk hc0
  clear hr0 hc0
  have HB_w := Aside0.mk (Below.refl w.heap.size w)
  have H := h
  clear h
  unfold laws_FnExactFlipEdge.f at H
  replace H := Option.bind_eq_some_iff.mp H
  obtain ⟨r2, T1_, H⟩ := H
  have T1 := Aside0.mk T1_
  clear T1_
  try dsimp only at H
  by_cases c47 : r2 < 0
  · rw [if_pos c47] at H
    have c47b := decide_eq_true c47
    clear c47
    obtain rfl := Option.some.inj H
    go_enter Try.func14, Try.ntmps14
    go_wp2_with (first | ((with_reducible refine gate_callee (f := 23) rfl ?_); refine goesL_ (some 18) rfl rfl Try.func23 (by kernel_rfl) rfl #[.slice A0 l0.length c0, .int .i64 1048576] rfl (by (try simp only [List.map_toArray, List.map_cons, List.map_nil]); first | done | rfl) ?_; refine (laws_szIntSS.calls k A0 c0 (l0) 1048576 r2 w (Kd.C_below HR0.out HB_w.out) HC0.out T1.out).mono ?_; rintro e W1 ⟨rfl, hd⟩; refine ⟨_, rfl, ?_⟩; have hb := Drawn0.below hd; clear hd; have HB_W1 := Aside0.mk (below_step HB_w.out hb); have HS_W1 := Aside0.mk (show w.heap.size ≤ W1.heap.size from hb.size); clear hb))
    go_ret
    exact ⟨rfl, HB_W1.out⟩
  · rw [if_neg c47] at H
    have c47b := decide_eq_false c47
    clear c47
    replace H := Option.bind_eq_some_iff.mp H
    obtain ⟨r5, T4_, H⟩ := H
    have T4 := Aside0.mk T4_
    clear T4_
    try dsimp only at H
    replace H := Option.bind_eq_some_iff.mp H
    obtain ⟨⟨r7, r8⟩, T6_, H⟩ := H
    have T6 := Aside0.mk T6_
    clear T6_
    try dsimp only at H
    replace H := Option.bind_eq_some_iff.mp H
    obtain ⟨r10, T9_, H⟩ := H
    have T9 := Aside0.mk T9_
    clear T9_
    try dsimp only at H
    replace H := Option.bind_eq_some_iff.mp H
    obtain ⟨⟨r12, r13⟩, T11_, H⟩ := H
    have T11 := Aside0.mk T11_
    clear T11_
    try dsimp only at H
    replace H := Option.bind_eq_some_iff.mp H
    obtain ⟨r16, T15_, H⟩ := H
    have T15 := Aside0.mk T15_
    clear T15_
    try dsimp only at H
    by_cases c48 : r16 = true
    · rw [if_pos c48] at H
      subst c48
      by_cases c49 : r13 = r8
      · rw [if_pos c49] at H
        subst c49
        replace H := Option.bind_eq_some_iff.mp H
        obtain ⟨r19, T18_, H⟩ := H
        have T18 := Aside0.mk T18_
        clear T18_
        try dsimp only at H
        replace H := Option.bind_eq_some_iff.mp H
        obtain ⟨r22, T21_, H⟩ := H
        have T21 := Aside0.mk T21_
        clear T21_
        try dsimp only at H
        by_cases c50 : r22 = true
        · rw [if_pos c50] at H
          subst c50
          replace H := Option.bind_eq_some_iff.mp H
          obtain ⟨⟨r24, r25⟩, T23_, H⟩ := H
          have T23 := Aside0.mk T23_
          clear T23_
          try dsimp only at H
          by_cases c51 : r24 < 0
          · rw [if_pos c51] at H; exact absurd H (by simp)
          · rw [if_neg c51] at H
            have c51b := decide_eq_false c51
            clear c51
            replace H := Option.bind_eq_some_iff.mp H
            obtain ⟨r28, T27_, H⟩ := H
            have T27 := Aside0.mk T27_
            clear T27_
            try dsimp only at H
            by_cases c52 : r28 = true
            · rw [if_pos c52] at H
              subst c52
              rw [if_pos rfl] at H
              replace H := Option.bind_eq_some_iff.mp H
              obtain ⟨⟨r30, r31⟩, T29_, H⟩ := H
              have T29 := Aside0.mk T29_
              clear T29_
              try dsimp only at H
              replace H := Option.bind_eq_some_iff.mp H
              obtain ⟨r34, T33_, H⟩ := H
              have T33 := Aside0.mk T33_
              clear T33_
              try dsimp only at H
              by_cases c53 : r34 < 0
              · rw [if_pos c53] at H; exact absurd H (by simp)
              · rw [if_neg c53] at H
                have c53b := decide_eq_false c53
                clear c53
                by_cases c54 : r34 = r30
                · rw [if_pos c54] at H
                  subst c54
                  replace H := Option.bind_eq_some_iff.mp H
                  obtain ⟨r37, T36_, H⟩ := H
                  have T36 := Aside0.mk T36_
                  clear T36_
                  try dsimp only at H
                  replace H := Option.bind_eq_some_iff.mp H
                  obtain ⟨⟨r39, r40⟩, T38_, H⟩ := H
                  have T38 := Aside0.mk T38_
                  clear T38_
                  try dsimp only at H
                  replace H := Option.bind_eq_some_iff.mp H
                  obtain ⟨r43, T42_, H⟩ := H
                  have T42 := Aside0.mk T42_
                  clear T42_
                  try dsimp only at H
                  by_cases c55 : r43 = true
                  · rw [if_pos c55] at H
                    subst c55
                    by_cases c56 : r40 = r13
                    · rw [if_pos c56] at H
                      subst c56
                      replace H := Option.bind_eq_some_iff.mp H
                      obtain ⟨r46, T45_, H⟩ := H
                      have T45 := Aside0.mk T45_
                      clear T45_
                      try dsimp only at H
                      by_cases c57 : r46 < 0
                      · rw [if_pos c57] at H; exact absurd H (by simp)
                      · rw [if_neg c57] at H
                        have c57b := decide_eq_false c57
                        clear c57
                        by_cases c58 : r46 = r34
                        · rw [if_pos c58] at H
                          subst c58
                          obtain rfl := Option.some.inj H
                          go_enter Try.func14, Try.ntmps14
                          go_wp2_with (first | ((with_reducible refine gate_callee (f := 23) rfl ?_); refine goesL_ (some 18) rfl rfl Try.func23 (by kernel_rfl) rfl #[.slice A0 l0.length c0, .int .i64 1048576] rfl (by (try simp only [List.map_toArray, List.map_cons, List.map_nil]); first | done | rfl) ?_; refine (laws_szIntSS.calls k A0 c0 (l0) 1048576 r2 w (Kd.C_below HR0.out HB_w.out) HC0.out T1.out).mono ?_; rintro e W1 ⟨rfl, hd⟩; refine ⟨_, rfl, ?_⟩; have hb := Drawn0.below hd; clear hd; have HB_W1 := Aside0.mk (below_step HB_w.out hb); have HS_W1 := Aside0.mk (show w.heap.size ≤ W1.heap.size from hb.size); clear hb) | ((with_reducible refine gate_callee (f := 25) rfl ?_); refine goesL_ (some 23) rfl rfl Try.func25 (by kernel_rfl) rfl #[.slice A0 l0.length c0] rfl (by (try simp only [List.map_toArray, List.map_cons, List.map_nil]); first | done | rfl) ?_; refine (laws_toIntSS.calls k A0 c0 (l0) r5 W1 (Kd.C_below HR0.out HB_W1.out) HC0.out T4.out).mono ?_; rintro e W2 ⟨v23_0, rfl, ho0, hb⟩; refine ⟨_, rfl, ?_⟩; have HO23_0 := Aside0.mk (S_iv (w := w) ho0 HB_W1.out.size); have HB_W2 := Aside0.mk (below_step HB_W1.out hb); have HS_W2 := Aside0.mk (show W1.heap.size ≤ W2.heap.size from hb.size); clear HB_W1; clear hb; clear ho0; obtain ⟨A23_0, c23_0, e_v23_0⟩ := Kd.S_slice HO23_0.out; subst e_v23_0) | ((with_reducible refine gate_callee (f := 46) rfl ?_); refine goesL_ (some 25) rfl rfl Try.func46 (by kernel_rfl) rfl #[.slice A23_0 r5.length c23_0, .int .i64 a1] rfl (by (try simp only [List.map_toArray, List.map_cons, List.map_nil]); first | done | rfl) ?_; refine (spec_FlipEdge.calls k A23_0 c23_0 (r5) a1 r7 r40 W2 (Kd.S_reads' HO23_0.out).2.2 (Nat.le_trans (Nat.le_of_eq (Kd.S_reads' HO23_0.out).1.symm) (Kd.S_reads' HO23_0.out).2.1) T6.out).mono ?_; rintro e W3 ⟨v25_0, rfl, ho0, hb⟩; refine ⟨_, rfl, ?_⟩; have HO25_0 := Aside0.mk (S_iv (w := w) ho0 HB_W2.out.size); have HB_W3 := Aside0.mk (below_step HB_W2.out hb); have HS_W3 := Aside0.mk (show W2.heap.size ≤ W3.heap.size from hb.size); have HO23_0_ := Aside0.mk (Kd.S_below HO23_0.out hb); clear HO23_0; have HO23_0 := HO23_0_; clear HO23_0_; clear HB_W2; clear hb; clear ho0; obtain ⟨A25_0, c25_0, e_v25_0⟩ := Kd.S_slice HO25_0.out; subst e_v25_0) | ((with_reducible refine gate_callee (f := 25) rfl ?_); refine goesL_ (some 29) rfl rfl Try.func25 (by kernel_rfl) rfl #[.slice A0 l0.length c0] rfl (by (try simp only [List.map_toArray, List.map_cons, List.map_nil]); first | done | rfl) ?_; refine (laws_toIntSS.calls k A0 c0 (l0) r10 W3 (Kd.C_below HR0.out HB_W3.out) HC0.out T9.out).mono ?_; rintro e W4 ⟨v29_0, rfl, ho0, hb⟩; refine ⟨_, rfl, ?_⟩; have HO29_0 := Aside0.mk (S_iv (w := w) ho0 HB_W3.out.size); have HB_W4 := Aside0.mk (below_step HB_W3.out hb); have HS_W4 := Aside0.mk (show W3.heap.size ≤ W4.heap.size from hb.size); have HO23_0_ := Aside0.mk (Kd.S_below HO23_0.out hb); have HO25_0_ := Aside0.mk (Kd.S_below HO25_0.out hb); clear HO23_0; have HO23_0 := HO23_0_; clear HO23_0_; clear HO25_0; have HO25_0 := HO25_0_; clear HO25_0_; clear HB_W3; clear hb; clear ho0; obtain ⟨A29_0, c29_0, e_v29_0⟩ := Kd.S_slice HO29_0.out; subst e_v29_0) | ((with_reducible refine gate_callee (f := 47) rfl ?_); refine goesL_ (some 33) rfl rfl Try.func47 (by kernel_rfl) rfl #[.slice A29_0 r10.length c29_0, .int .i64 a1] rfl (by (try simp only [List.map_toArray, List.map_cons, List.map_nil]); first | done | rfl) ?_; refine (impl_FlipEdge.calls k A29_0 c29_0 (r10) a1 r12 r40 W4 (Kd.S_reads' HO29_0.out).2.2 (Nat.le_trans (Nat.le_of_eq (Kd.S_reads' HO29_0.out).1.symm) (Kd.S_reads' HO29_0.out).2.1) T11.out).mono ?_; rintro e W5 ⟨v33_0, rfl, ho0, hb⟩; refine ⟨_, rfl, ?_⟩; have HO33_0 := Aside0.mk (S_iv (w := w) ho0 HB_W4.out.size); have HB_W5 := Aside0.mk (below_step HB_W4.out hb); have HS_W5 := Aside0.mk (show W4.heap.size ≤ W5.heap.size from hb.size); have HO23_0_ := Aside0.mk (Kd.S_below HO23_0.out hb); have HO25_0_ := Aside0.mk (Kd.S_below HO25_0.out hb); have HO29_0_ := Aside0.mk (Kd.S_below HO29_0.out hb); clear HO23_0; have HO23_0 := HO23_0_; clear HO23_0_; clear HO25_0; have HO25_0 := HO25_0_; clear HO25_0_; clear HO29_0; have HO29_0 := HO29_0_; clear HO29_0_; clear HB_W4; clear hb; clear ho0; obtain ⟨A33_0, c33_0, e_v33_0⟩ := Kd.S_slice HO33_0.out; subst e_v33_0) | ((with_reducible refine gate_callee (f := 27) rfl ?_); refine goesL_ (some 38) rfl rfl Try.func27 (by kernel_rfl) rfl #[.slice A33_0 r12.length c33_0, .slice A25_0 r7.length c25_0] rfl (by (try simp only [List.map_toArray, List.map_cons, List.map_nil]); first | done | rfl) ?_; refine (laws_eqIntSS.calls k A33_0 c33_0 (r12) A25_0 c25_0 (r7) true W5 (Kd.S_reads' HO33_0.out).2.2 (Nat.le_trans (Nat.le_of_eq (Kd.S_reads' HO33_0.out).1.symm) (Kd.S_reads' HO33_0.out).2.1) (Kd.S_reads' HO25_0.out).2.2 (Nat.le_trans (Nat.le_of_eq (Kd.S_reads' HO25_0.out).1.symm) (Kd.S_reads' HO25_0.out).2.1) T15.out).mono ?_; rintro e W6 ⟨rfl, hd⟩; refine ⟨_, rfl, ?_⟩; have hb := Drawn0.below hd; clear hd; have HB_W6 := Aside0.mk (below_step HB_W5.out hb); have HS_W6 := Aside0.mk (show W5.heap.size ≤ W6.heap.size from hb.size); have HO23_0_ := Aside0.mk (Kd.S_below HO23_0.out hb); have HO25_0_ := Aside0.mk (Kd.S_below HO25_0.out hb); have HO29_0_ := Aside0.mk (Kd.S_below HO29_0.out hb); have HO33_0_ := Aside0.mk (Kd.S_below HO33_0.out hb); clear HO23_0; have HO23_0 := HO23_0_; clear HO23_0_; clear HO25_0; have HO25_0 := HO25_0_; clear HO25_0_; clear HO29_0; have HO29_0 := HO29_0_; clear HO29_0_; clear HO33_0; have HO33_0 := HO33_0_; clear HO33_0_; clear HB_W5; clear hb) | ((with_reducible refine gate_callee (f := 25) rfl ?_); refine goesL_ (some 47) rfl rfl Try.func25 (by kernel_rfl) rfl #[.slice A0 l0.length c0] rfl (by (try simp only [List.map_toArray, List.map_cons, List.map_nil]); first | done | rfl) ?_; refine (laws_toIntSS.calls k A0 c0 (l0) r19 W6 (Kd.C_below HR0.out HB_W6.out) HC0.out T18.out).mono ?_; rintro e W7 ⟨v47_0, rfl, ho0, hb⟩; refine ⟨_, rfl, ?_⟩; have HO47_0 := Aside0.mk (S_iv (w := w) ho0 HB_W6.out.size); have HB_W7 := Aside0.mk (below_step HB_W6.out hb); have HS_W7 := Aside0.mk (show W6.heap.size ≤ W7.heap.size from hb.size); have HO23_0_ := Aside0.mk (Kd.S_below HO23_0.out hb); have HO25_0_ := Aside0.mk (Kd.S_below HO25_0.out hb); have HO29_0_ := Aside0.mk (Kd.S_below HO29_0.out hb); have HO33_0_ := Aside0.mk (Kd.S_below HO33_0.out hb); clear HO23_0; have HO23_0 := HO23_0_; clear HO23_0_; clear HO25_0; have HO25_0 := HO25_0_; clear HO25_0_; clear HO29_0; have HO29_0 := HO29_0_; clear HO29_0_; clear HO33_0; have HO33_0 := HO33_0_; clear HO33_0_; clear HB_W6; clear hb; clear ho0; obtain ⟨A47_0, c47_0, e_v47_0⟩ := Kd.S_slice HO47_0.out; subst e_v47_0) | ((with_reducible refine gate_callee (f := 27) rfl ?_); refine goesL_ (some 48) rfl rfl Try.func27 (by kernel_rfl) rfl #[.slice A29_0 r10.length c29_0, .slice A47_0 r19.length c47_0] rfl (by (try simp only [List.map_toArray, List.map_cons, List.map_nil]); first | done | rfl) ?_; refine (laws_eqIntSS.calls k A29_0 c29_0 (r10) A47_0 c47_0 (r19) true W7 (Kd.S_reads' HO29_0.out).2.2 (Nat.le_trans (Nat.le_of_eq (Kd.S_reads' HO29_0.out).1.symm) (Kd.S_reads' HO29_0.out).2.1) (Kd.S_reads' HO47_0.out).2.2 (Nat.le_trans (Nat.le_of_eq (Kd.S_reads' HO47_0.out).1.symm) (Kd.S_reads' HO47_0.out).2.1) T21.out).mono ?_; rintro e W8 ⟨rfl, hd⟩; refine ⟨_, rfl, ?_⟩; have hb := Drawn0.below hd; clear hd; have HB_W8 := Aside0.mk (below_step HB_W7.out hb); have HS_W8 := Aside0.mk (show W7.heap.size ≤ W8.heap.size from hb.size); have HO23_0_ := Aside0.mk (Kd.S_below HO23_0.out hb); have HO25_0_ := Aside0.mk (Kd.S_below HO25_0.out hb); have HO29_0_ := Aside0.mk (Kd.S_below HO29_0.out hb); have HO33_0_ := Aside0.mk (Kd.S_below HO33_0.out hb); have HO47_0_ := Aside0.mk (Kd.S_below HO47_0.out hb); clear HO23_0; have HO23_0 := HO23_0_; clear HO23_0_; clear HO25_0; have HO25_0 := HO25_0_; clear HO25_0_; clear HO29_0; have HO29_0 := HO29_0_; clear HO29_0_; clear HO33_0; have HO33_0 := HO33_0_; clear HO33_0_; clear HO47_0; have HO47_0 := HO47_0_; clear HO47_0_; clear HB_W7; clear hb) | ((with_reducible refine gate_callee (f := 34) rfl ?_); refine goesL_ (some 52) rfl rfl Try.func34 (by kernel_rfl) rfl #[.slice A29_0 r10.length c29_0, .int .i64 1] rfl (by (try simp only [List.map_toArray, List.map_cons, List.map_nil]); first | done | rfl) ?_; refine (laws_markIntSS.calls k (Iv W3.heap.size W4.heap.size) (.slice A29_0 r10.length c29_0) (r10) 1 r24 r25 w W8 HB_W8.out HO29_0.out T23.out).mono ?_; rintro e W9 ⟨rfl, hy, hb, hk⟩; refine ⟨_, rfl, ?_⟩; have HB_W9 := Aside0.mk hb; have HS_W9 := Aside0.mk (show W8.heap.size ≤ W9.heap.size from hk.1); have HO23_0_ := Aside0.mk (S_off HO23_0.out hk (by have := HS_W1.out; have := HS_W2.out; have := HS_W3.out; have := HS_W4.out; have := HS_W5.out; have := HS_W6.out; have := HS_W7.out; have := HS_W8.out; omega)); have HO25_0_ := Aside0.mk (S_off HO25_0.out hk (by have := HS_W1.out; have := HS_W2.out; have := HS_W3.out; have := HS_W4.out; have := HS_W5.out; have := HS_W6.out; have := HS_W7.out; have := HS_W8.out; omega)); have HO29_0_ := Aside0.mk (hy); have HO33_0_ := Aside0.mk (S_off HO33_0.out hk (by have := HS_W1.out; have := HS_W2.out; have := HS_W3.out; have := HS_W4.out; have := HS_W5.out; have := HS_W6.out; have := HS_W7.out; have := HS_W8.out; omega)); have HO47_0_ := Aside0.mk (S_off HO47_0.out hk (by have := HS_W1.out; have := HS_W2.out; have := HS_W3.out; have := HS_W4.out; have := HS_W5.out; have := HS_W6.out; have := HS_W7.out; have := HS_W8.out; omega)); clear HO23_0; have HO23_0 := HO23_0_; clear HO23_0_; clear HO25_0; have HO25_0 := HO25_0_; clear HO25_0_; clear HO29_0; have HO29_0 := HO29_0_; clear HO29_0_; clear HO33_0; have HO33_0 := HO33_0_; clear HO33_0_; clear HO47_0; have HO47_0 := HO47_0_; clear HO47_0_; clear HB_W8; clear hb hk hy) | (go_at_call 27; refine (laws_eqIntSS.calls k A33_0 c33_0 (r12) A25_0 c25_0 (r7) true W9 (Kd.S_reads' HO33_0.out).2.2 (Nat.le_trans (Nat.le_of_eq (Kd.S_reads' HO33_0.out).1.symm) (Kd.S_reads' HO33_0.out).2.1) (Kd.S_reads' HO25_0.out).2.2 (Nat.le_trans (Nat.le_of_eq (Kd.S_reads' HO25_0.out).1.symm) (Kd.S_reads' HO25_0.out).2.1) T27.out).mono ?_; rintro e W10 ⟨rfl, hd⟩; have hb := Drawn0.below hd; clear hd; have HB_W10 := Aside0.mk (below_step HB_W9.out hb); have HS_W10 := Aside0.mk (show W9.heap.size ≤ W10.heap.size from hb.size); have HO23_0_ := Aside0.mk (Kd.S_below HO23_0.out hb); have HO25_0_ := Aside0.mk (Kd.S_below HO25_0.out hb); have HO29_0_ := Aside0.mk (Kd.S_below HO29_0.out hb); have HO33_0_ := Aside0.mk (Kd.S_below HO33_0.out hb); have HO47_0_ := Aside0.mk (Kd.S_below HO47_0.out hb); clear HO23_0; have HO23_0 := HO23_0_; clear HO23_0_; clear HO25_0; have HO25_0 := HO25_0_; clear HO25_0_; clear HO29_0; have HO29_0 := HO29_0_; clear HO29_0_; clear HO33_0; have HO33_0 := HO33_0_; clear HO33_0_; clear HO47_0; have HO47_0 := HO47_0_; clear HO47_0_; clear HB_W9; clear hb) | ((with_reducible refine gate_callee (f := 34) rfl ?_); refine goesL_ (some 68) rfl rfl Try.func34 (by kernel_rfl) rfl #[.slice A33_0 r12.length c33_0, .int .i64 1] rfl (by (try simp only [List.map_toArray, List.map_cons, List.map_nil]); first | done | rfl) ?_; refine (laws_markIntSS.calls k (Iv W4.heap.size W5.heap.size) (.slice A33_0 r12.length c33_0) (r12) 1 r46 r31 w W10 HB_W10.out HO33_0.out T29.out).mono ?_; rintro e W11 ⟨rfl, hy, hb, hk⟩; refine ⟨_, rfl, ?_⟩; have HB_W11 := Aside0.mk hb; have HS_W11 := Aside0.mk (show W10.heap.size ≤ W11.heap.size from hk.1); have HO23_0_ := Aside0.mk (S_off HO23_0.out hk (by have := HS_W1.out; have := HS_W2.out; have := HS_W3.out; have := HS_W4.out; have := HS_W5.out; have := HS_W6.out; have := HS_W7.out; have := HS_W8.out; have := HS_W9.out; have := HS_W10.out; omega)); have HO25_0_ := Aside0.mk (S_off HO25_0.out hk (by have := HS_W1.out; have := HS_W2.out; have := HS_W3.out; have := HS_W4.out; have := HS_W5.out; have := HS_W6.out; have := HS_W7.out; have := HS_W8.out; have := HS_W9.out; have := HS_W10.out; omega)); have HO29_0_ := Aside0.mk (S_off HO29_0.out hk (by have := HS_W1.out; have := HS_W2.out; have := HS_W3.out; have := HS_W4.out; have := HS_W5.out; have := HS_W6.out; have := HS_W7.out; have := HS_W8.out; have := HS_W9.out; have := HS_W10.out; omega)); have HO33_0_ := Aside0.mk (hy); have HO47_0_ := Aside0.mk (S_off HO47_0.out hk (by have := HS_W1.out; have := HS_W2.out; have := HS_W3.out; have := HS_W4.out; have := HS_W5.out; have := HS_W6.out; have := HS_W7.out; have := HS_W8.out; have := HS_W9.out; have := HS_W10.out; omega)); clear HO23_0; have HO23_0 := HO23_0_; clear HO23_0_; clear HO25_0; have HO25_0 := HO25_0_; clear HO25_0_; clear HO29_0; have HO29_0 := HO29_0_; clear HO29_0_; clear HO33_0; have HO33_0 := HO33_0_; clear HO33_0_; clear HO47_0; have HO47_0 := HO47_0_; clear HO47_0_; clear HB_W10; clear hb hk hy) | ((with_reducible refine gate_callee (f := 35) rfl ?_); refine goesL_ (some 71) rfl rfl Try.func35 (by kernel_rfl) rfl #[.slice A33_0 r12.length c33_0, .int .i64 1] rfl (by (try simp only [List.map_toArray, List.map_cons, List.map_nil]); first | done | rfl) ?_; refine (calls_len ((Kd.S_reads' HO33_0.out).1) (laws_heldIntSS.calls k A33_0 c33_0 (r31) 1 r46 W11 (Kd.S_reads' HO33_0.out).2.2 (Nat.le_trans (Nat.le_of_eq (Kd.S_reads' HO33_0.out).1.symm) (Kd.S_reads' HO33_0.out).2.1) T33.out)).mono ?_; rintro e W12 ⟨rfl, hd⟩; refine ⟨_, rfl, ?_⟩; have hb := Drawn0.below hd; clear hd; have HB_W12 := Aside0.mk (below_step HB_W11.out hb); have HS_W12 := Aside0.mk (show W11.heap.size ≤ W12.heap.size from hb.size); have HO23_0_ := Aside0.mk (Kd.S_below HO23_0.out hb); have HO25_0_ := Aside0.mk (Kd.S_below HO25_0.out hb); have HO29_0_ := Aside0.mk (Kd.S_below HO29_0.out hb); have HO33_0_ := Aside0.mk (Kd.S_below HO33_0.out hb); have HO47_0_ := Aside0.mk (Kd.S_below HO47_0.out hb); clear HO23_0; have HO23_0 := HO23_0_; clear HO23_0_; clear HO25_0; have HO25_0 := HO25_0_; clear HO25_0_; clear HO29_0; have HO29_0 := HO29_0_; clear HO29_0_; clear HO33_0; have HO33_0 := HO33_0_; clear HO33_0_; clear HO47_0; have HO47_0 := HO47_0_; clear HO47_0_; clear HB_W11; clear hb) | ((with_reducible refine gate_callee (f := 25) rfl ?_); refine goesL_ (some 79) rfl rfl Try.func25 (by kernel_rfl) rfl #[.slice A0 l0.length c0] rfl (by (try simp only [List.map_toArray, List.map_cons, List.map_nil]); first | done | rfl) ?_; refine (laws_toIntSS.calls k A0 c0 (l0) r37 W12 (Kd.C_below HR0.out HB_W12.out) HC0.out T36.out).mono ?_; rintro e W13 ⟨v79_0, rfl, ho0, hb⟩; refine ⟨_, rfl, ?_⟩; have HO79_0 := Aside0.mk (S_iv (w := w) ho0 HB_W12.out.size); have HB_W13 := Aside0.mk (below_step HB_W12.out hb); have HS_W13 := Aside0.mk (show W12.heap.size ≤ W13.heap.size from hb.size); have HO23_0_ := Aside0.mk (Kd.S_below HO23_0.out hb); have HO25_0_ := Aside0.mk (Kd.S_below HO25_0.out hb); have HO29_0_ := Aside0.mk (Kd.S_below HO29_0.out hb); have HO33_0_ := Aside0.mk (Kd.S_below HO33_0.out hb); have HO47_0_ := Aside0.mk (Kd.S_below HO47_0.out hb); clear HO23_0; have HO23_0 := HO23_0_; clear HO23_0_; clear HO25_0; have HO25_0 := HO25_0_; clear HO25_0_; clear HO29_0; have HO29_0 := HO29_0_; clear HO29_0_; clear HO33_0; have HO33_0 := HO33_0_; clear HO33_0_; clear HO47_0; have HO47_0 := HO47_0_; clear HO47_0_; clear HB_W12; clear hb; clear ho0; obtain ⟨A79_0, c79_0, e_v79_0⟩ := Kd.S_slice HO79_0.out; subst e_v79_0) | ((with_reducible refine gate_callee (f := 47) rfl ?_); refine goesL_ (some 81) rfl rfl Try.func47 (by kernel_rfl) rfl #[.slice A79_0 r37.length c79_0, .int .i64 a1] rfl (by (try simp only [List.map_toArray, List.map_cons, List.map_nil]); first | done | rfl) ?_; refine (impl_FlipEdge.calls k A79_0 c79_0 (r37) a1 r39 r40 W13 (Kd.S_reads' HO79_0.out).2.2 (Nat.le_trans (Nat.le_of_eq (Kd.S_reads' HO79_0.out).1.symm) (Kd.S_reads' HO79_0.out).2.1) T38.out).mono ?_; rintro e W14 ⟨v81_0, rfl, ho0, hb⟩; refine ⟨_, rfl, ?_⟩; have HO81_0 := Aside0.mk (S_iv (w := w) ho0 HB_W13.out.size); have HB_W14 := Aside0.mk (below_step HB_W13.out hb); have HS_W14 := Aside0.mk (show W13.heap.size ≤ W14.heap.size from hb.size); have HO23_0_ := Aside0.mk (Kd.S_below HO23_0.out hb); have HO25_0_ := Aside0.mk (Kd.S_below HO25_0.out hb); have HO29_0_ := Aside0.mk (Kd.S_below HO29_0.out hb); have HO33_0_ := Aside0.mk (Kd.S_below HO33_0.out hb); have HO47_0_ := Aside0.mk (Kd.S_below HO47_0.out hb); have HO79_0_ := Aside0.mk (Kd.S_below HO79_0.out hb); clear HO23_0; have HO23_0 := HO23_0_; clear HO23_0_; clear HO25_0; have HO25_0 := HO25_0_; clear HO25_0_; clear HO29_0; have HO29_0 := HO29_0_; clear HO29_0_; clear HO33_0; have HO33_0 := HO33_0_; clear HO33_0_; clear HO47_0; have HO47_0 := HO47_0_; clear HO47_0_; clear HO79_0; have HO79_0 := HO79_0_; clear HO79_0_; clear HB_W13; clear hb; clear ho0; obtain ⟨A81_0, c81_0, e_v81_0⟩ := Kd.S_slice HO81_0.out; subst e_v81_0) | ((with_reducible refine gate_callee (f := 27) rfl ?_); refine goesL_ (some 86) rfl rfl Try.func27 (by kernel_rfl) rfl #[.slice A81_0 r39.length c81_0, .slice A25_0 r7.length c25_0] rfl (by (try simp only [List.map_toArray, List.map_cons, List.map_nil]); first | done | rfl) ?_; refine (laws_eqIntSS.calls k A81_0 c81_0 (r39) A25_0 c25_0 (r7) true W14 (Kd.S_reads' HO81_0.out).2.2 (Nat.le_trans (Nat.le_of_eq (Kd.S_reads' HO81_0.out).1.symm) (Kd.S_reads' HO81_0.out).2.1) (Kd.S_reads' HO25_0.out).2.2 (Nat.le_trans (Nat.le_of_eq (Kd.S_reads' HO25_0.out).1.symm) (Kd.S_reads' HO25_0.out).2.1) T42.out).mono ?_; rintro e W15 ⟨rfl, hd⟩; refine ⟨_, rfl, ?_⟩; have hb := Drawn0.below hd; clear hd; have HB_W15 := Aside0.mk (below_step HB_W14.out hb); have HS_W15 := Aside0.mk (show W14.heap.size ≤ W15.heap.size from hb.size); have HO23_0_ := Aside0.mk (Kd.S_below HO23_0.out hb); have HO25_0_ := Aside0.mk (Kd.S_below HO25_0.out hb); have HO29_0_ := Aside0.mk (Kd.S_below HO29_0.out hb); have HO33_0_ := Aside0.mk (Kd.S_below HO33_0.out hb); have HO47_0_ := Aside0.mk (Kd.S_below HO47_0.out hb); have HO79_0_ := Aside0.mk (Kd.S_below HO79_0.out hb); have HO81_0_ := Aside0.mk (Kd.S_below HO81_0.out hb); clear HO23_0; have HO23_0 := HO23_0_; clear HO23_0_; clear HO25_0; have HO25_0 := HO25_0_; clear HO25_0_; clear HO29_0; have HO29_0 := HO29_0_; clear HO29_0_; clear HO33_0; have HO33_0 := HO33_0_; clear HO33_0_; clear HO47_0; have HO47_0 := HO47_0_; clear HO47_0_; clear HO79_0; have HO79_0 := HO79_0_; clear HO79_0_; clear HO81_0; have HO81_0 := HO81_0_; clear HO81_0_; clear HB_W14; clear hb) | ((with_reducible refine gate_callee (f := 35) rfl ?_); refine goesL_ (some 95) rfl rfl Try.func35 (by kernel_rfl) rfl #[.slice A33_0 r12.length c33_0, .int .i64 1] rfl (by (try simp only [List.map_toArray, List.map_cons, List.map_nil]); first | done | rfl) ?_; refine (calls_len ((Kd.S_reads' HO33_0.out).1) (laws_heldIntSS.calls k A33_0 c33_0 (r31) 1 r46 W15 (Kd.S_reads' HO33_0.out).2.2 (Nat.le_trans (Nat.le_of_eq (Kd.S_reads' HO33_0.out).1.symm) (Kd.S_reads' HO33_0.out).2.1) T45.out)).mono ?_; rintro e W16 ⟨rfl, hd⟩; refine ⟨_, rfl, ?_⟩; have hb := Drawn0.below hd; clear hd; have HB_W16 := Aside0.mk (below_step HB_W15.out hb); have HS_W16 := Aside0.mk (show W15.heap.size ≤ W16.heap.size from hb.size); have HO23_0_ := Aside0.mk (Kd.S_below HO23_0.out hb); have HO25_0_ := Aside0.mk (Kd.S_below HO25_0.out hb); have HO29_0_ := Aside0.mk (Kd.S_below HO29_0.out hb); have HO33_0_ := Aside0.mk (Kd.S_below HO33_0.out hb); have HO47_0_ := Aside0.mk (Kd.S_below HO47_0.out hb); have HO79_0_ := Aside0.mk (Kd.S_below HO79_0.out hb); have HO81_0_ := Aside0.mk (Kd.S_below HO81_0.out hb); clear HO23_0; have HO23_0 := HO23_0_; clear HO23_0_; clear HO25_0; have HO25_0 := HO25_0_; clear HO25_0_; clear HO29_0; have HO29_0 := HO29_0_; clear HO29_0_; clear HO33_0; have HO33_0 := HO33_0_; clear HO33_0_; clear HO47_0; have HO47_0 := HO47_0_; clear HO47_0_; clear HO79_0; have HO79_0 := HO79_0_; clear HO79_0_; clear HO81_0; have HO81_0 := HO81_0_; clear HO81_0_; clear HB_W15; clear hb))
                          go_ret
                          exact ⟨rfl, HB_W16.out⟩
                        · rw [if_neg c58] at H; exact absurd H (by simp)
                    · rw [if_neg c56] at H; exact absurd H (by simp)
                  · rw [if_neg c55] at H; exact absurd H (by simp)
                · rw [if_neg c54] at H; exact absurd H (by simp)
            · rw [if_neg c52] at H; exact absurd H (by simp)
        · rw [if_neg c50] at H; exact absurd H (by simp)
      · rw [if_neg c49] at H; exact absurd H (by simp)
    · rw [if_neg c48] at H; exact absurd H (by simp)
end Go.Proofs.Ytcligopbieaceaa.P
