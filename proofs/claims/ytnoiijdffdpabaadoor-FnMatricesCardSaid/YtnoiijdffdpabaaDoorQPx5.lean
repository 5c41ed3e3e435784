-- By this session's driver (wip/tools/mk.py) of the kit's print program, over several statements at once. Not trusted: Lean checks it.
import Derived.Test.YtnoiijdffdpabaaDoorQWZip
import Derived.Test.YtnoiijdffdpabaaDoorQPx0
import Derived.Test.YtnoiijdffdpabaaDoorQPx2
namespace Go.Proofs.YtnoiijdffdpabaaDoor.P
open Go.RowKit Go.Proofs.YtnoiijdffdpabaaDoorW.PrintWords Go.Proofs.YtnoiijdffdpabaaDoorW.PrintLast Go.Proofs.YtnoiijdffdpabaaDoorW.PrintMore
attribute [local go_sem] max2_int min2_int max_two min_two max_three min_three max_four min_four   -- for this text's walks alone
set_option linter.unusedVariables false
set_option linter.unusedSimpArgs false
theorem bw_5 {n : Nat} {v v' : World} (h : Below n v v' := by repeat (first | (with_reducible first | exact HB.out | apply bwA | apply pbN | apply bwD | refine bwS ?_ GE125.out) | exact HB.out)) : Below n v v' := h

/-! ### impl_IsMatrix: function 21 -/
def impl_IsMatrix.f (k : Nat) (a0_0 : Int) (a0_1 : Int) (a0_2 : Int) (a0_3 : Int) : Option (Bool) := (impl_areSmall.f k (([a0_0, a0_1, a0_2, a0_3] : List Int))).bind fun t129 => (if t129 = true then (some ((wrap64 ((wrap64 (a0_0 * a0_3)) - (wrap64 (a0_1 * a0_2)))) == 1)) else (some false))
theorem impl_IsMatrix.mono : ∀ a0 a1 a2 a3 k, LeO (impl_IsMatrix.f k a0 a1 a2 a3) (impl_IsMatrix.f (k + 1) a0 a1 a2 a3) := by
 intro a0 a1 a2 a3 k
 unfold impl_IsMatrix.f
 exact mo_
instance impl_IsMatrix.mi {a0 a1 a2 a3 k} : MoO (impl_IsMatrix.f k a0 a1 a2 a3) (impl_IsMatrix.f (k + 1) a0 a1 a2 a3) := ⟨impl_IsMatrix.mono _ _ _ _ _⟩
set_option maxHeartbeats 8000000 in
set_option maxRecDepth 100000 in
theorem impl_IsMatrix.calls (k : Nat) (a0_0 : Int) (a0_1 : Int) (a0_2 : Int) (a0_3 : Int) (r : Bool) (w : World) (h : impl_IsMatrix.f k a0_0 a0_1 a0_2 a0_3 = some r) :
  Calls Tryd.prog 21 #[.agg #[.int .i64 a0_0, .int .i64 a0_1, .int .i64 a0_2, .int .i64 a0_3]] w fun e w' => e = .returned (.bool r) ∧ Below w.heap.size w w' := by
 have hu25 := Tryd.underlying25
 have HB := Az.mk (Below.refl w.heap.size w)
 have H : ((impl_areSmall.f k (([a0_0, a0_1, a0_2, a0_3] : List Int))).bind fun t129 => (if t129 = true then (some ((wrap64 ((wrap64 (a0_0 * a0_3)) - (wrap64 (a0_1 * a0_2)))) == 1)) else (some false))) = some r := h
 clear h
 obtain ⟨y126, hy126⟩ : ∃ y_ : List Int, y_ = (([a0_0, a0_1, a0_2, a0_3] : List Int)) := ⟨_, rfl⟩
 replace H : ((impl_areSmall.f k y126).bind fun t129 => (if t129 = true then (some ((wrap64 ((wrap64 (a0_0 * a0_3)) - (wrap64 (a0_1 * a0_2)))) == 1)) else (some false))) = some r := by first | (rw [hy126]; with_reducible exact H) | (have H2_ := (Option.bind_some _ _).symm.trans H; rw [hy126]; with_reducible exact H2_) | (have H2_ := (Option.bind_some _ _).symm.trans H; with_reducible exact H2_) | with_reducible exact H | (rw [hy126]; exact H) | exact H
 have Ny126 := Az.mk hy126
 clear hy126
 replace H := bez H
 obtain ⟨t129, A2, H⟩ := H
 try dsimp only at H
 by_cases c3 : t129 = true
 ·subst c3
  rw [if_pos rfl] at H
  obtain rfl := Option.some.inj H
  go_enter Tryd.func21, Tryd.ntmps21
  go_wp2_with (first | ((with_reducible refine gtD (N := 1) rfl ?_); refine bx (N := 1) (cs := #[.int .i64 a0_0, .int .i64 a0_1, .int .i64 a0_2, .int .i64 a0_3]) (t := 25) ?_; intro gb125 hg w4 hbox hb; have BK125 := Az.mk (hbox); have GW125 := gwz hg bw_5; have GE125 := gwz hg bw_5; replace HB := Az.mk (bwT bw_5 hb); clear hb hbox hg; obtain ⟨hcz5_0, hcz5_1, hcz5_2, hcz5_3, hfz5_0, hfz5_1, hfz5_2, hfz5_3⟩ := bq4 BK125) | ((with_reducible refine gtD (N := 11) rfl ?_); refine Kd.R_lit (Kd.int .i64) _ 3 ?hg (N := 11) ?hd (xs := ([a0_0, a0_1, a0_2, a0_3] : List Int)) (inner := [.int .i64 a0_0, .int .i64 a0_1, .int .i64 a0_2, .int .i64 a0_3]) (ok := fun _ => True) (okp := fun _ => True) ?hr ?hp (fun _ hk => hk) trivial (Below.refl _ _) (Nat.le_refl _) (by simp) ?_; (case hd => rfl); (case hg => rfl); (case hr => first | (go_simp; done) | (go_simp; rfl)); (case hp => exact (Reps.one (show Kd.M (Kd.int .i64) _ _ _ a0_0 [.int .i64 a0_0] from rfl) (Reps.one (show Kd.M (Kd.int .i64) _ _ _ a0_1 [.int .i64 a0_1] from rfl) (Reps.one (show Kd.M (Kd.int .i64) _ _ _ a0_2 [.int .i64 a0_2] from rfl) (Reps.one (show Kd.M (Kd.int .i64) _ _ _ a0_3 [.int .i64 a0_3] from rfl) (Reps.none _ _)))))); intro v127 w6 ho7 hb hg_ hnew_; clear hg_ hnew_; (first | rw [← Ny126.out] at ho7 | (simp only [Int.reduceToNat] at ho7; rw [← Ny126.out] at ho7)); have HO128 := Az.mk (Kd.R_lower ho7 (bwZ bw_5)); replace BK125 := bkz BK125 hb; replace HB := Az.mk (bwT bw_5 hb); clear hb ho7; obtain ⟨Ao8, co8, eo8⟩ := Kd.R_slice HO128.out; subst eo8) | ((with_reducible refine gtC (f := 52) rfl ?_); refine clz Tryd.func52 (some 12) #[.slice Ao8 y126.length co8] ?_; (with_reducible refine (impl_areSmall.calls k _ _ y126 true _ ?side1 ?side2 A2.out).mono ?_); (case side1 => repeat (first | exact (Kd.R_reads' HO128.out).2.2 | (with_reducible refine Kd.C_alloc ?_ _) | (with_reducible refine Kd.C_drewN ?_ _) | (with_reducible refine Kd.C_drew ?_))); (case side2 => exact (Kd.R_reads' HO128.out).2.1); rintro e w' ⟨rfl, ⟨nd, rfl⟩⟩; refine ⟨_, rfl, ?_⟩; obtain ⟨hcz9_0, hcz9_1, hcz9_2, hcz9_3, hfz9_0, hfz9_1, hfz9_2, hfz9_3⟩ := bq4 BK125))
  go_ret
  exact ⟨rq1, bw_5⟩
 replace c3 := Bool.eq_false_iff.mpr c3
 subst c3
 rw [if_neg (show ¬ (false = true) by decide)] at H
 obtain rfl := Option.some.inj H
 go_enter Tryd.func21, Tryd.ntmps21
 go_wp2_with (first | ((with_reducible refine gtD (N := 1) rfl ?_); refine bx (N := 1) (cs := #[.int .i64 a0_0, .int .i64 a0_1, .int .i64 a0_2, .int .i64 a0_3]) (t := 25) ?_; intro gb125 hg w10 hbox hb; have BK125 := Az.mk (hbox); have GW125 := gwz hg bw_5; have GE125 := gwz hg bw_5; replace HB := Az.mk (bwT bw_5 hb); clear hb hbox hg; obtain ⟨hcz11_0, hcz11_1, hcz11_2, hcz11_3, hfz11_0, hfz11_1, hfz11_2, hfz11_3⟩ := bq4 BK125) | ((with_reducible refine gtD (N := 11) rfl ?_); refine Kd.R_lit (Kd.int .i64) _ 3 ?hg (N := 11) ?hd (xs := ([a0_0, a0_1, a0_2, a0_3] : List Int)) (inner := [.int .i64 a0_0, .int .i64 a0_1, .int .i64 a0_2, .int .i64 a0_3]) (ok := fun _ => True) (okp := fun _ => True) ?hr ?hp (fun _ hk => hk) trivial (Below.refl _ _) (Nat.le_refl _) (by simp) ?_; (case hd => rfl); (case hg => rfl); (case hr => first | (go_simp; done) | (go_simp; rfl)); (case hp => exact (Reps.one (show Kd.M (Kd.int .i64) _ _ _ a0_0 [.int .i64 a0_0] from rfl) (Reps.one (show Kd.M (Kd.int .i64) _ _ _ a0_1 [.int .i64 a0_1] from rfl) (Reps.one (show Kd.M (Kd.int .i64) _ _ _ a0_2 [.int .i64 a0_2] from rfl) (Reps.one (show Kd.M (Kd.int .i64) _ _ _ a0_3 [.int .i64 a0_3] from rfl) (Reps.none _ _)))))); intro v127 w12 ho13 hb hg_ hnew_; clear hg_ hnew_; (first | rw [← Ny126.out] at ho13 | (simp only [Int.reduceToNat] at ho13; rw [← Ny126.out] at ho13)); have HO128 := Az.mk (Kd.R_lower ho13 (bwZ bw_5)); replace BK125 := bkz BK125 hb; replace HB := Az.mk (bwT bw_5 hb); clear hb ho13; obtain ⟨Ao14, co14, eo14⟩ := Kd.R_slice HO128.out; subst eo14) | ((with_reducible refine gtC (f := 52) rfl ?_); refine clz Tryd.func52 (some 12) #[.slice Ao14 y126.length co14] ?_; (with_reducible refine (impl_areSmall.calls k _ _ y126 false _ ?side1 ?side2 A2.out).mono ?_); (case side1 => repeat (first | exact (Kd.R_reads' HO128.out).2.2 | (with_reducible refine Kd.C_alloc ?_ _) | (with_reducible refine Kd.C_drewN ?_ _) | (with_reducible refine Kd.C_drew ?_))); (case side2 => exact (Kd.R_reads' HO128.out).2.1); rintro e w' ⟨rfl, ⟨nd, rfl⟩⟩; refine ⟨_, rfl, ?_⟩))
 go_ret
 exact ⟨rq1, bw_5⟩

-- NOT PRINTED: function 74 (abi_NoEscape)

-- NOT PRINTED: function 71 (strings_Builder_copyCheck)

-- NOT PRINTED: function 75 (bytealg_MakeNoZero)

-- NOT PRINTED: function 72 (strings_Builder_grow)

-- NOT PRINTED: function 65 (strings_Builder_Grow)

-- NOT PRINTED: function 66 (strings_Builder_WriteString)

-- NOT PRINTED: function 67 (strings_Builder_String)

-- NOT PRINTED: function 56 (strings_Join)

/-! ### impl_Join: function 35 -/
open Go.Shelf
def jnRen : Go.Shelf.Ren := ⟨fun | 156 => 56 | 165 => 65 | 166 => 66 | 169 => 67 | 240 => 71 | 241 => 72 | 276 => 74 | 277 => 75 | n => n, fun | 31 => 52 | 9 => 9 | 3 => 3 | 4 => 4 | 0 => 0 | 20 => 20 | 72 => 79 | 76 => 83 | 70 => 77 | 37 => 28 | 75 => 82 | 127 => 87 | 164 => 90 | 5 => 5 | 80 => 85 | n => n, fun | n => n⟩
theorem jnLays : Go.Proofs.Lays.n156 Tryd.prog jnRen := {
 mixed := by kernel_rfl
 f156 := Tryd.func56.trans (congrArg some (by kernel_rfl))
 f165 := Tryd.func65.trans (congrArg some (by kernel_rfl))
 f166 := Tryd.func66.trans (congrArg some (by kernel_rfl))
 f169 := Tryd.func67.trans (congrArg some (by kernel_rfl))
 f240 := Tryd.func71.trans (congrArg some (by kernel_rfl))
 f241 := Tryd.func72.trans (congrArg some (by kernel_rfl))
 f276 := Tryd.func74.trans (congrArg some (by kernel_rfl))
 f277 := Tryd.func75.trans (congrArg some (by kernel_rfl))
 t0 := Tryd.underlying0
 a0 := Tryd.isAgg0
 z0 := Tryd.sizeOf0
 v0 := Tryd.zeroValue0
 t3 := Tryd.underlying3
 a3 := Tryd.isAgg3
 z3 := Tryd.sizeOf3
 v3 := Tryd.zeroValue3
 t4 := Tryd.underlying4
 a4 := Tryd.isAgg4
 z4 := Tryd.sizeOf4
 v4 := Tryd.zeroValue4
 t9 := Tryd.underlying9
 a9 := Tryd.isAgg9
 z9 := Tryd.sizeOf9
 v9 := Tryd.zeroValue9
 t20 := Tryd.underlying20
 a20 := Tryd.isAgg20
 z20 := Tryd.sizeOf20
 v20 := Tryd.zeroValue20
 t31 := Tryd.underlying52
 a31 := Tryd.isAgg52
 z31 := Tryd.sizeOf52
 v31 := Tryd.zeroValue52
 t37 := Tryd.underlying28
 a37 := Tryd.isAgg28
 z37 := Tryd.sizeOf28
 v37 := Tryd.zeroValue28
 t70 := Tryd.underlying77
 a70 := Tryd.isAgg77
 z70 := Tryd.sizeOf77
 v70 := Tryd.zeroValue77
 t72 := Tryd.underlying79
 a72 := Tryd.isAgg79
 z72 := Tryd.sizeOf79
 v72 := Tryd.zeroValue79
 t75 := Tryd.underlying82
 a75 := Tryd.isAgg82
 z75 := Tryd.sizeOf82
 v75 := Tryd.zeroValue82
 t76 := Tryd.underlying83
 a76 := Tryd.isAgg83
 z76 := Tryd.sizeOf83
 v76 := Tryd.zeroValue83
 t127 := Tryd.underlying87
 a127 := Tryd.isAgg87
 z127 := Tryd.sizeOf87
 v127 := Tryd.zeroValue87
 t164 := Tryd.underlying90
 a164 := Tryd.isAgg90
 z164 := Tryd.sizeOf90
 v164 := Tryd.zeroValue90 }
theorem jnExtra : Builder.Extra Tryd.prog jnRen := {
 sizeBuilder := by kernel_rfl
 liesBuilder := by kernel_rfl
 t5 := Tryd.underlying5
 a5 := Tryd.isAgg5
 z5 := Tryd.sizeOf5
 v5 := Tryd.zeroValue5
 infoByte := by kernel_rfl
 cellsByte := by kernel_rfl
 sizeByte := by kernel_rfl
 neB5 := by decide }
open Go.RowKit in
theorem jnNone (a : Option Addr) (c : Nat) (sep : ByteArray) (w : World) :
  Calls Tryd.prog 56 #[.slice a 0 c, .string sep] w fun e w' => e = .returned (.string ⟨#[]⟩) ∧ w' = w := Any.strings_Join_none jnLays jnExtra a c sep w
open Go.RowKit in
theorem jnJoin (bk o c : Nat) (xs : List ByteArray) (sep : ByteArray) (w : World) (hcells : ∀ (j : Nat) x, xs[j]? = some x → w.cell? ⟨bk, o + j, none⟩ = some (.string x)) (hbk : bk < w.heap.size) (hN : xs.length ≤ 140737488355328) (hcap : xs.length ≤ c) (hlen : (Lib.join (xs.map (·.data.toList)) sep.data.toList).length ≤ 140737488355328) :
  Calls Tryd.prog 56 #[.slice (some ⟨bk, o, none⟩) xs.length c, .string sep] w fun e w' => e = .returned (.string ⟨(Lib.join (xs.map (·.data.toList)) sep.data.toList).toArray⟩) ∧ Below w.heap.size w w' := Any.strings_Join jnLays jnExtra bk o c xs sep w hcells hbk hN hcap hlen
def impl_Join.f (l0 : List ByteArray) (a1 : ByteArray) : Option ByteArray := if l0.length ≤ 140737488355328 then (if (Lib.join (l0.map (·.data.toList)) a1.data.toList).length ≤ 140737488355328 then some (⟨(Lib.join (l0.map (·.data.toList)) a1.data.toList).toArray⟩ : ByteArray) else none) else none
theorem spot_none {w : World} {ad : Addr} {v : Value} (h : w.cell? ad = some v) : ad.spot = none := by
 unfold World.cell? at h
 split at h
 ·by_cases hs : ad.spot.isSome = true
  ·rw [if_pos hs] at h; exact absurd h (by simp)
  cases e : ad.spot with
  | none => rfl
  | some q => rw [e] at hs; exact absurd rfl hs
 exact absurd h (by simp)
set_option maxHeartbeats 8000000 in
set_option maxRecDepth 100000 in
theorem impl_Join.calls (A0 : Option Addr) (c0 : Nat) (l0 : List ByteArray) (a1 : ByteArray) (r : ByteArray) (w : World) (hr0 : Kd.C Kd.string w A0 l0.length l0) (hc0 : l0.length ≤ c0) (h : impl_Join.f l0 a1 = some r) :
  Calls Tryd.prog 35 #[.slice A0 l0.length c0, .string a1] w fun e w' => e = .returned (.string r) ∧ Below w.heap.size w w' := by
 have HR0 := Az.mk hr0
 have HC0 := Az.mk hc0
 clear hr0 hc0
 have HB := Az.mk (Below.refl w.heap.size w)
 unfold impl_Join.f at h
 by_cases b1 : l0.length ≤ 140737488355328
 rotate_left
 ·rw [if_neg b1] at h
  exact absurd h (by simp)
 rw [if_pos b1] at h
 by_cases b2 : (Lib.join (l0.map (·.data.toList)) a1.data.toList).length ≤ 140737488355328
 rotate_left
 ·rw [if_neg b2] at h
  exact absurd h (by simp)
 rw [if_pos b2] at h
 obtain hr := Option.some.inj h
 have K : ∀ W, Drawn0 w W → Calls Tryd.prog 56 #[.slice A0 l0.length c0, .string a1] W fun e w' => e = .returned (.string r) ∧ Below W.heap.size W w' := by
  rintro W ⟨n, rfl⟩
  have hk := Kd.C_drewN HR0.out n
  rw [← hr]
  rcases Nat.eq_zero_or_pos l0.length with h0 | h0
  ·obtain rfl : l0 = [] := List.eq_nil_of_length_eq_zero h0
   exact (jnNone A0 c0 a1 _).mono fun e w' he => ⟨he.1, by rw [he.2]; exact Below.refl _ _⟩
  obtain ⟨ad, rfl, hc⟩ := hk.2.2 h0
  have cell : ∀ (j : Nat) x, l0[j]? = some x → (w.drewN n).cell? (ad.add j) = some (.string x) := by
   intro j x hx
   obtain ⟨c, _, hR, hcell⟩ := hc j x hx
   have hR' : c = [Value.string x] := hR
   subst hR'
   have := hcell 0 _ rfl
   rwa [show j * Kd.string.sz + 0 = j from by show j * 1 + 0 = j; omega] at this
  have c0' := cell 0 l0[0] (List.getElem?_eq_getElem h0)
  have hs := spot_none c0'
  have ha : ad.add 0 = ad := if_pos rfl
  rw [ha] at hs c0'
  obtain ⟨bk, o, sp⟩ := ad
  dsimp only at hs
  subst hs
  have hadd : ∀ j : Nat, (⟨bk, o, none⟩ : Addr).add j = ⟨bk, o + j, none⟩ := by
   intro j
   unfold Addr.add
   by_cases e : j = 0
   ·rw [if_pos e, e, Nat.add_zero]
   rw [if_neg e]
  exact jnJoin bk o c0 l0 a1 _ (fun j x hx => by rw [← hadd j]; exact cell j x hx) (World.block_lt_of_cell? _ _ c0') b1 HC0.out b2
 clear h b1 b2 hr
 go_enter Tryd.func35, Tryd.ntmps35
 go_wp2_with (first
  | (go_at_call 56; refine (K _ (by repeat (first | exact Drawn0.refl _ | apply Drawn0.step))).mono ?_; rintro e W1 ⟨rfl, hb⟩; have HB1 := Az.mk (bwT (by first | exact HB.out | exact pbN HB.out _) hb); clear hb K))
 go_ret
 exact ⟨rfl, by first | exact HB1.out | exact pbN HB1.out _⟩

-- NOT PRINTED: function 76 (strconv_small)

-- NOT PRINTED: function 80 (strconv_log10Pow2)

-- NOT PRINTED: function 81 (bits_Len64)

-- NOT PRINTED: function 82 (strconv_bool2_int)

-- NOT PRINTED: function 77 (strconv_numDigits)

-- NOT PRINTED: function 78 (strconv_formatBase10)

-- NOT PRINTED: function 83 (strconv_isPowerOfTwo)

-- NOT PRINTED: function 85 (bits_TrailingZeros32)

-- NOT PRINTED: function 86 (bits_TrailingZeros64)

-- NOT PRINTED: function 84 (bits_TrailingZeros)

-- NOT PRINTED: function 79 (strconv_formatBits)

-- NOT PRINTED: function 73 (strconv_FormatInt)

-- NOT PRINTED: function 68 (strconv_Itoa_68)

-- NOT PRINTED: function 57 (strconv_Itoa_57)

/-! ### impl_FormatInt: function 36 -/
def itRen : Go.Shelf.Ren := ⟨fun | 171 => 57 | 243 => 68 | 246 => 73 | 283 => 76 | 284 => 77 | 285 => 78 | 286 => 79 | 129 => 81 | 317 => 80 | 318 => 82 | 319 => 83 | 320 => 84 | 337 => 85 | 338 => 86 | n => n, fun | 3 => 3 | 9 => 9 | 2 => 2 | 4 => 4 | 171 => 93 | 0 => 0 | 53 => 94 | 37 => 28 | 5 => 5 | 173 => 97 | 212 => 99 | 51 => 100 | 20 => 20 | 213 => 101 | 46 => 89 | 232 => 105 | 233 => 106 | n => n, fun | 17 => 1 | 18 => 2 | 19 => 3 | n => n⟩
theorem itLays : Go.Proofs.LaysM.n171 Tryd.prog itRen := {
 mixed := by kernel_rfl
 f129 := Tryd.func81.trans (congrArg some (by kernel_rfl))
 f171 := Tryd.func57.trans (congrArg some (by kernel_rfl))
 f243 := Tryd.func68.trans (congrArg some (by kernel_rfl))
 f246 := Tryd.func73.trans (congrArg some (by kernel_rfl))
 f283 := Tryd.func76.trans (congrArg some (by kernel_rfl))
 f284 := Tryd.func77.trans (congrArg some (by kernel_rfl))
 f285 := Tryd.func78.trans (congrArg some (by kernel_rfl))
 f286 := Tryd.func79.trans (congrArg some (by kernel_rfl))
 f317 := Tryd.func80.trans (congrArg some (by kernel_rfl))
 f318 := Tryd.func82.trans (congrArg some (by kernel_rfl))
 f319 := Tryd.func83.trans (congrArg some (by kernel_rfl))
 f320 := Tryd.func84.trans (congrArg some (by kernel_rfl))
 f337 := Tryd.func85.trans (congrArg some (by kernel_rfl))
 f338 := Tryd.func86.trans (congrArg some (by kernel_rfl))
 t0 := Tryd.underlying0
 a0 := Tryd.isAgg0
 z0 := Tryd.sizeOf0
 v0 := Tryd.zeroValue0
 t2 := Tryd.underlying2
 a2 := Tryd.isAgg2
 z2 := Tryd.sizeOf2
 v2 := Tryd.zeroValue2
 t3 := Tryd.underlying3
 a3 := Tryd.isAgg3
 z3 := Tryd.sizeOf3
 v3 := Tryd.zeroValue3
 t4 := Tryd.underlying4
 a4 := Tryd.isAgg4
 z4 := Tryd.sizeOf4
 v4 := Tryd.zeroValue4
 t5 := Tryd.underlying5
 a5 := Tryd.isAgg5
 z5 := Tryd.sizeOf5
 v5 := Tryd.zeroValue5
 t9 := Tryd.underlying9
 a9 := Tryd.isAgg9
 z9 := Tryd.sizeOf9
 v9 := Tryd.zeroValue9
 t20 := Tryd.underlying20
 a20 := Tryd.isAgg20
 z20 := Tryd.sizeOf20
 v20 := Tryd.zeroValue20
 t37 := Tryd.underlying28
 a37 := Tryd.isAgg28
 z37 := Tryd.sizeOf28
 v37 := Tryd.zeroValue28
 t46 := Tryd.underlying89
 a46 := Tryd.isAgg89
 z46 := Tryd.sizeOf89
 v46 := Tryd.zeroValue89
 t51 := Tryd.underlying100
 a51 := Tryd.isAgg100
 z51 := Tryd.sizeOf100
 v51 := Tryd.zeroValue100
 t53 := Tryd.underlying94
 a53 := Tryd.isAgg94
 z53 := Tryd.sizeOf94
 v53 := Tryd.zeroValue94
 t171 := Tryd.underlying93
 a171 := Tryd.isAgg93
 z171 := Tryd.sizeOf93
 v171 := Tryd.zeroValue93
 t173 := Tryd.underlying97
 a173 := Tryd.isAgg97
 z173 := Tryd.sizeOf97
 v173 := Tryd.zeroValue97
 t212 := Tryd.underlying99
 a212 := Tryd.isAgg99
 z212 := Tryd.sizeOf99
 v212 := Tryd.zeroValue99
 t213 := Tryd.underlying101
 a213 := Tryd.isAgg101
 z213 := Tryd.sizeOf101
 t232 := Tryd.underlying105
 a232 := Tryd.isAgg105
 z232 := Tryd.sizeOf105
 v232 := Tryd.zeroValue105
 t233 := Tryd.underlying106
 a233 := Tryd.isAgg106
 z233 := Tryd.sizeOf106
 v233 := Tryd.zeroValue106
 g17 := by kernel_rfl
 g18 := by kernel_rfl
 g19 := by kernel_rfl
 i0 := by kernel_rfl
 i2 := by kernel_rfl
 i3 := by kernel_rfl
 i4 := by kernel_rfl
 i5 := by kernel_rfl
 i9 := by kernel_rfl
 i20 := by kernel_rfl
 i37 := by kernel_rfl
 i46 := by kernel_rfl
 i51 := by kernel_rfl
 i53 := by kernel_rfl
 i171 := by kernel_rfl
 i173 := by kernel_rfl
 i212 := by kernel_rfl
 i232 := by kernel_rfl
 i233 := by kernel_rfl
 m17 := by kernel_rfl
 m18 := by kernel_rfl
 m19 := by kernel_rfl }
open Go.RowKit Go.Sort Go.Lib in
theorem itItoa (n : Int) (h0 : -9223372036854775808 ≤ n) (h1 : n ≤ 9223372036854775807) (w : World) (htab : Lib.TabIs Tryd.prog w "internal/strconv.uint64pow10" .u64 Lib.pow10Tab) :
  Calls Tryd.prog 57 #[.int .i64 n] w fun e w' => e = .returned (.string ⟨(Lib.itoa n).toArray⟩) ∧ ∃ k os, w' = grow (w.drewN k) os := Any.strconv_Itoa itLays n h0 h1 w htab
/-- The library's table of powers of ten lies as its text lays it. -/
def Tabs (w : World) : Prop := Lib.TabIs Tryd.prog w "internal/strconv.uint64pow10" .u64 Lib.pow10Tab
theorem Tabs.on {w W : World} (h : Tabs w) (hb : Below w.heap.size w W) : Tabs W := ((Lib.tabBelow_of_tabIs h).on hb).here
theorem tabs_ {w : World} (h : Tabs w := by exact Tabs.on HT.out bw_5) : Tabs w := h
def impl_FormatInt.f (a0 : Int) : Option ByteArray := if -9223372036854775808 ≤ a0 then (if a0 ≤ 9223372036854775807 then some (⟨(Lib.itoa a0).toArray⟩ : ByteArray) else none) else none
theorem grow_below {w : World} {k : Nat} {os : Array Obj} : Below w.heap.size w (Go.Sort.grow (w.drewN k) os) :=
 ⟨rfl, rfl, rfl, by simp [Go.Sort.grow], fun i hi => by
  show ((w.drewN k).heap ++ os)[i]? = _
  rw [Array.getElem?_append_left (by simpa using hi)]
  rfl⟩
set_option maxHeartbeats 8000000 in
set_option maxRecDepth 100000 in
theorem impl_FormatInt.calls (a0 : Int) (r : ByteArray) (w : World) (h : impl_FormatInt.f a0 = some r) (hT : Tabs w := by exact tabs_) :
  Calls Tryd.prog 36 #[.int .i64 a0] w fun e w' => e = .returned (.string r) ∧ Below w.heap.size w w' := by
 have HB := Az.mk (Below.refl w.heap.size w)
 have HT := Az.mk hT
 clear hT
 unfold impl_FormatInt.f at h
 by_cases b1 : -9223372036854775808 ≤ a0
 rotate_left
 ·rw [if_neg b1] at h
  exact absurd h (by simp)
 by_cases b2 : a0 ≤ 9223372036854775807
 rotate_left
 ·rw [if_pos b1, if_neg b2] at h
  exact absurd h (by simp)
 rw [if_pos b1, if_pos b2] at h
 obtain hr := Option.some.inj h
 have K : ∀ W, Drawn0 w W → Calls Tryd.prog 57 #[.int .i64 a0] W fun e w' => e = .returned (.string r) ∧ Below W.heap.size W w' := by
  rintro W ⟨n, rfl⟩
  rw [← hr]
  refine (itItoa a0 b1 b2 _ (Tabs.on HT.out (pbN (Below.refl _ _) n))).mono ?_
  rintro e w' ⟨rfl, k, os, rfl⟩
  exact ⟨rfl, grow_below⟩
 clear h b1 b2 hr
 go_enter Tryd.func36, Tryd.ntmps36
 go_wp2_with (first
  | (go_at_call 57; refine (K _ (by repeat (first | exact Drawn0.refl _ | apply Drawn0.step))).mono ?_; rintro e W1 ⟨rfl, hb⟩; have HB1 := Az.mk (bwT (by first | exact HB.out | exact pbN HB.out _) hb); clear hb K))
 go_ret
 exact ⟨rfl, by first | exact HB1.out | exact pbN HB1.out _⟩

end Go.Proofs.YtnoiijdffdpabaaDoor.P
