/- The program's MatrixText answers as the reference's, for all arguments; no condition. -/
import Derived.Test.YtnoiijdffdpabaaDoorPx0
import Derived.Test.YtnoiijdffdpabaaDoorHelp
import Derived.Test.YtnoiijdffdpabaaDoorPx3
import Derived.Test.YtnoiijdffdpabaaDoorPx5
import Derived.Lib.ItoaLen
import Derived.Test.YtnoiijdffdpabaaDoorPx4
import Derived.Test.YtnoiijdffdpabaaDoorPx6
import Derived.Test.YtnoiijdffdpabaaDoorPx7
import Derived.Test.YtnoiijdffdpabaaDoorPx8

namespace Go.Proofs.YtnoiijdffdpabaaDoor.L
open Go.RowKit Go.Proofs.YtnoiijdffdpabaaDoor.P Go.Proofs.YtnoiijdffdpabaaDoor.Help Go.Proofs.YtnoiijdffdpabaaDoorW.PrintWords
set_option linter.unusedVariables false
set_option linter.unusedSimpArgs false

theorem w_id {a : Int} (h0 : -9223372036854775808 ≤ a) (h1 : a ≤ 9223372036854775807) : wrap64 a = a := by unfold wrap64; omega
theorem mulb {a b A B : Int} (h1 : -A ≤ a) (h2 : a ≤ A) (h3 : -B ≤ b) (h4 : b ≤ B) : -(A * B) ≤ a * b ∧ a * b ≤ A * B := by
  have hA : 0 ≤ A := by omega
  have hB : 0 ≤ B := by omega
  have h : (a * b).natAbs ≤ (A * B).natAbs := by
    rw [Int.natAbs_mul, Int.natAbs_mul]
    exact Nat.mul_le_mul (by omega) (by omega)
  have hp : 0 ≤ A * B := Int.mul_nonneg hA hB
  omega
theorem rd_nat (xs : List Int) (i : Nat) (h : i < xs.length) : rd xs (i : Int) = xs[i] := by
  unfold rd
  simp [List.getD_eq_getElem?_getD, List.getElem?_eq_getElem h]
theorem bind_ite {α β : Type} {c : Prop} [Decidable c] (x y : Option α) (f : α → Option β) : (if c then x else y).bind f = if c then x.bind f else y.bind f := by split <;> rfl
theorem unit_of {a d : Int} (h : a * d = 1) : a = 1 ∨ a = -1 := by
  have h1 : a.natAbs * d.natAbs = 1 := by rw [← Int.natAbs_mul, h]; rfl
  have h2 : a.natAbs = 1 := Nat.eq_one_of_mul_eq_one_right h1
  omega
end Go.Proofs.YtnoiijdffdpabaaDoor.L

namespace Go.Proofs.YtnoiijdffdpabaaDoor.L
open Go Go.RowKit Go.Proofs.YtnoiijdffdpabaaDoor.P Go.Proofs.YtnoiijdffdpabaaDoor.Help Go.Proofs.YtnoiijdffdpabaaDoorW.PrintWords
set_option linter.unusedVariables false
set_option linter.unusedSimpArgs false
theorem wrap_s {a : Int} (h0 : -9223372036854775808 ≤ a) (h1 : a ≤ 9223372036854775807) : wrap64 a = a := by unfold wrap64; omega
/-- The digits of a number, none for 0. -/
def dgs (u : Nat) : List UInt8 := if u = 0 then [] else Lib.decDigits u
theorem dgs_step (u : Nat) (h : 0 < u) : dgs u = dgs (u / 10) ++ [UInt8.ofNat (48 + u % 10)] := by
  have e : dgs u = Lib.decDigits u := if_neg (by omega)
  rw [e, Lib.decDigits]
  by_cases c : u < 10
  · rw [dif_pos c]
    have : u / 10 = 0 := by omega
    rw [this, Nat.mod_eq_of_lt c]
    rfl
  · rw [dif_neg c]
    have : dgs (u / 10) = Lib.decDigits (u / 10) := if_neg (by omega)
    rw [this]
theorem dgs_len (u : Nat) (h : u < 18446744073709551616) : (dgs u).length ≤ 20 := by
  unfold dgs
  split
  · simp
  · rw [Lib.decDigits_length]
    exact Lib.nDigits_le20 u h
theorem one_digit (d : Int) (n : Nat) (hd : d = (n : Int)) (hn : n < 10) : strOfNums [(wrap64 (48 + d)) % 256] = ⟨#[UInt8.ofNat (48 + n)]⟩ := by
  subst hd
  rw [wrap_s (by omega) (by omega)]
  unfold strOfNums
  have : ((48 + (n : Int)) % 256).toNat = 48 + n := by omega
  simp [this]
theorem fmt_l0 (b : Bool) : ∀ (d k : Nat) (x : Int) (o : ByteArray), (dgs x.natAbs).length ≤ d → d < k → x.natAbs < 18446744073709551616 → o.size + d ≤ 1000 → -9223372036854775808 ≤ x → x ≤ 9223372036854775807 →
    spec_FormatInt.l0 k x b o = some ((if b = true then (⟨#[45]⟩ : ByteArray) else ⟨#[]⟩) ++ (⟨(dgs x.natAbs).toArray⟩ ++ o))
  | d, 0, x, o, hl, hk, hx, ho, h0, h1 => by omega
  | d, k + 1, x, o, hl, hk, hx, ho, h0, h1 => by
    simp only [spec_FormatInt.l0]
    by_cases c : x = 0
    · subst c
      rw [if_pos rfl]
      have e : (⟨(dgs (Int.natAbs 0)).toArray⟩ : ByteArray) = ⟨#[]⟩ := rfl
      rw [e, show (⟨#[]⟩ : ByteArray) ++ o = o from ByteArray.empty_append]
      cases b with
      | true => rw [if_pos rfl, if_pos (by omega), if_pos rfl]
      | false => rw [if_neg (by decide), if_neg (by decide), show (⟨#[]⟩ : ByteArray) ++ o = o from ByteArray.empty_append]
    · rw [if_neg c]
      have hp : 0 < x.natAbs := by omega
      have hs := dgs_step x.natAbs hp
      have e1 : (Int.tdiv x 10).natAbs = x.natAbs / 10 := by rw [Int.natAbs_tdiv]; rfl
      have e2 : (Int.tmod x 10).natAbs = x.natAbs % 10 := by rw [Int.natAbs_tmod]; rfl
      have e3 : -9223372036854775808 ≤ Int.tdiv x 10 ∧ Int.tdiv x 10 ≤ 9223372036854775807 := by omega
      obtain ⟨d, rfl⟩ : ∃ m, d = m + 1 := ⟨d - 1, by
        have : 0 < (dgs x.natAbs).length := by rw [hs]; simp
        omega⟩
      have hsz : ∀ n : Nat, (⟨#[UInt8.ofNat (48 + n)]⟩ : ByteArray).size = 1 := fun _ => rfl
      have key : ∀ n : Nat, n = x.natAbs % 10 → spec_FormatInt.l0 k (wrap64 (Int.tdiv x 10)) b ((⟨#[UInt8.ofNat (48 + n)]⟩ : ByteArray) ++ o) = some ((if b = true then (⟨#[45]⟩ : ByteArray) else ⟨#[]⟩) ++ (⟨(dgs x.natAbs).toArray⟩ ++ o)) := by
        intro n hn
        rw [wrap_s e3.1 e3.2]
        have hl2 : (dgs (Int.tdiv x 10).natAbs).length ≤ d := by
          rw [e1]
          rw [hs, List.length_append, List.length_singleton] at hl
          omega
        rw [fmt_l0 b d k (Int.tdiv x 10) _ hl2 (by omega) (by rw [e1]; omega) (by rw [ByteArray.size_append, hsz]; omega) e3.1 e3.2]
        congr 2
        rw [e1, hs, hn, ← ByteArray.append_assoc]
        congr 1
        all_goals (apply ByteArray.ext; simp [ByteArray.data_append])
      by_cases c2 : Int.tmod x 10 < 0
      · rw [if_pos c2, Option.bind_some, wrap_s (a := -(Int.tmod x 10)) (by omega) (by omega), one_digit (-(Int.tmod x 10)) (x.natAbs % 10) (by omega) (by omega), hsz, if_pos (by omega)]
        exact key _ rfl
      · rw [if_neg c2, Option.bind_some, one_digit (Int.tmod x 10) (x.natAbs % 10) (by omega) (by omega), hsz, if_pos (by omega)]
        exact key _ rfl
theorem spec_fmt (x : Int) (h0 : -9223372036854775808 ≤ x) (h1 : x ≤ 9223372036854775807) (k : Nat) (hk : 21 < k) : spec_FormatInt.f k x = some ⟨(Lib.itoa x).toArray⟩ := by
  unfold spec_FormatInt.f
  by_cases c : x = 0
  · subst c
    rw [if_pos rfl]
    have : Lib.itoa 0 = [48] := by
      unfold Lib.itoa
      rw [if_neg (by decide), Lib.decDigits_one (by decide)]
      rfl
    rw [this]
  · rw [if_neg c]
    have hd : dgs x.natAbs = Lib.decDigits x.natAbs := if_neg (by omega)
    rw [fmt_l0 _ 20 k x _ (dgs_len _ (by omega)) (by omega) (by omega) (by decide) h0 h1, hd, show ∀ o : ByteArray, o ++ (⟨#[]⟩ : ByteArray) = o from fun o => ByteArray.append_empty]
    congr 1
    unfold Lib.itoa
    by_cases c2 : x < 0
    · rw [if_pos (decide_eq_true c2), if_pos c2]
      apply ByteArray.ext
      simp [ByteArray.data_append]
    · rw [if_neg (by simpa using c2), if_neg c2, show (⟨#[]⟩ : ByteArray) ++ (⟨(Lib.decDigits x.natAbs).toArray⟩ : ByteArray) = _ from ByteArray.empty_append, show x.natAbs = x.toNat by omega]
theorem impl_fmt (x : Int) (h0 : -9223372036854775808 ≤ x) (h1 : x ≤ 9223372036854775807) : impl_FormatInt.f x = some ⟨(Lib.itoa x).toArray⟩ := by
  unfold impl_FormatInt.f
  rw [if_pos h0, if_pos h1]
theorem itoa_size (x : Int) (h0 : -9223372036854775808 ≤ x) (h1 : x ≤ 9223372036854775807) : (⟨(Lib.itoa x).toArray⟩ : ByteArray).size ≤ 21 := by
  have := Lib.itoa_length_le x h0 h1
  simpa [ByteArray.size] using this
end Go.Proofs.YtnoiijdffdpabaaDoor.L

namespace Go.Proofs.YtnoiijdffdpabaaDoor.L
open Go.RowKit Go.Proofs.YtnoiijdffdpabaaDoor.P Go.Proofs.YtnoiijdffdpabaaDoor.Help Go.Proofs.YtnoiijdffdpabaaDoorW.PrintWords
set_option linter.unusedVariables false
set_option linter.unusedSimpArgs false

theorem l1In_eq (a lo hi : Int) : spec_l1In.f a lo hi = some (decide (lo ≤ a ∧ a ≤ hi)) := by
  unfold spec_l1In.f
  by_cases h : lo ≤ a <;> simp [h]
theorem within_eq (a lo hi : Int) : impl_within.f a lo hi = some (decide (lo ≤ a ∧ a ≤ hi)) := by
  unfold impl_within.f
  by_cases h : lo ≤ a <;> simp [h]
end Go.Proofs.YtnoiijdffdpabaaDoor.L

namespace Go.Proofs.YtnoiijdffdpabaaDoor.L
open Go.RowKit Go.Proofs.YtnoiijdffdpabaaDoor.P Go.Proofs.YtnoiijdffdpabaaDoor.Help Go.Proofs.YtnoiijdffdpabaaDoorW.PrintWords
set_option linter.unusedVariables false
set_option linter.unusedSimpArgs false

def sm (x : Int) : Bool := decide (-1000 ≤ x ∧ x ≤ 1000)
theorem fits_l0 (xs : List Int) (hx : xs.length ≤ 1000000) : ∀ (d k i : Nat), i + d = xs.length → d < k → spec_l11Fits.l0 k xs (i : Int) = some ((xs.drop i).all sm) := by
  intro d
  induction d with
  | zero =>
    intro k i hi hk
    obtain ⟨k, rfl⟩ : ∃ m, k = m + 1 := ⟨k - 1, by omega⟩
    simp only [spec_l11Fits.l0]
    rw [if_neg (by omega), List.drop_of_length_le (by omega)]
    rfl
  | succ d ih =>
    intro k i hi hk
    obtain ⟨k, rfl⟩ : ∃ m, k = m + 1 := ⟨k - 1, by omega⟩
    have hlt : i < xs.length := by omega
    simp only [spec_l11Fits.l0]
    rw [if_pos (by omega), if_pos (by omega), l1In_eq, Option.bind_some, w_id (by omega) (by omega), show ((i : Int) + 1) = ((i + 1 : Nat) : Int) by omega, ih k (i + 1) (by omega) (by omega), List.drop_eq_getElem_cons hlt, List.all_cons, rd_nat xs i hlt]
    unfold sm
    by_cases h : -1000 ≤ xs[i] ∧ xs[i] ≤ 1000 <;> simp [h]
theorem areSmall_l0 (xs : List Int) (hx : xs.length ≤ 1000000) : ∀ (d k i : Nat), i + d = xs.length → d < k → impl_areSmall.l0 k xs (xs.length : Int) (i : Int) = some ((xs.drop i).all sm) := by
  intro d
  induction d with
  | zero =>
    intro k i hi hk
    obtain ⟨k, rfl⟩ : ∃ m, k = m + 1 := ⟨k - 1, by omega⟩
    simp only [impl_areSmall.l0]
    rw [if_neg (by omega), List.drop_of_length_le (by omega)]
    rfl
  | succ d ih =>
    intro k i hi hk
    obtain ⟨k, rfl⟩ : ∃ m, k = m + 1 := ⟨k - 1, by omega⟩
    have hlt : i < xs.length := by omega
    simp only [impl_areSmall.l0]
    rw [if_pos (by omega), if_pos (by omega), if_pos (by omega), within_eq, Option.bind_some, w_id (by omega) (by omega), show ((i : Int) + 1) = ((i + 1 : Nat) : Int) by omega, ih k (i + 1) (by omega) (by omega), List.drop_eq_getElem_cons hlt, List.all_cons, rd_nat xs i hlt]
    unfold sm
    by_cases h : -1000 ≤ xs[i] ∧ xs[i] ≤ 1000 <;> simp [h]
/-- A matrix: four small numbers, the determinant 1. -/
def isM (a b c d : Int) : Bool := decide ((-1000 ≤ a ∧ a ≤ 1000) ∧ (-1000 ≤ b ∧ b ≤ 1000) ∧ (-1000 ≤ c ∧ c ≤ 1000) ∧ (-1000 ≤ d ∧ d ≤ 1000) ∧ a * d - b * c = 1)
theorem isM_true {a b c d : Int} (h : isM a b c d = true) : (-1000 ≤ a ∧ a ≤ 1000) ∧ (-1000 ≤ b ∧ b ≤ 1000) ∧ (-1000 ≤ c ∧ c ≤ 1000) ∧ (-1000 ≤ d ∧ d ≤ 1000) ∧ a * d - b * c = 1 := of_decide_eq_true h
theorem det_w {a b c d : Int} (ha : -1000 ≤ a ∧ a ≤ 1000) (hb : -1000 ≤ b ∧ b ≤ 1000) (hc : -1000 ≤ c ∧ c ≤ 1000) (hd : -1000 ≤ d ∧ d ≤ 1000) : wrap64 ((wrap64 (a * d)) - (wrap64 (b * c))) = a * d - b * c := by
  have h1 := mulb ha.1 ha.2 hd.1 hd.2
  have h2 := mulb hb.1 hb.2 hc.1 hc.2
  rw [w_id (a := a * d) (by omega) (by omega), w_id (a := b * c) (by omega) (by omega), w_id (by omega) (by omega)]
theorem four_all (a b c d : Int) : ([a, b, c, d].all sm) = decide ((-1000 ≤ a ∧ a ≤ 1000) ∧ (-1000 ≤ b ∧ b ≤ 1000) ∧ (-1000 ≤ c ∧ c ≤ 1000) ∧ (-1000 ≤ d ∧ d ≤ 1000)) := by
  rw [Bool.eq_iff_iff]
  simp [List.all_cons, sm]
theorem isM_of {a b c d : Int} {t : Bool} (ht : t = decide ((-1000 ≤ a ∧ a ≤ 1000) ∧ (-1000 ≤ b ∧ b ≤ 1000) ∧ (-1000 ≤ c ∧ c ≤ 1000) ∧ (-1000 ≤ d ∧ d ≤ 1000))) :
    (if t = true then (some ((wrap64 ((wrap64 (a * d)) - (wrap64 (b * c)))) == 1)) else (some false)) = some (isM a b c d) := by
  subst ht
  by_cases h : (-1000 ≤ a ∧ a ≤ 1000) ∧ (-1000 ≤ b ∧ b ≤ 1000) ∧ (-1000 ≤ c ∧ c ≤ 1000) ∧ (-1000 ≤ d ∧ d ≤ 1000)
  · rw [if_pos (decide_eq_true h), det_w h.1 h.2.1 h.2.2.1 h.2.2.2]
    unfold isM
    congr 1
    rw [Bool.eq_iff_iff]
    simp [h]
  · rw [if_neg (by simpa using h)]
    unfold isM
    congr 1
    symm
    rw [decide_eq_false_iff_not]
    rintro ⟨h1, h2, h3, h4, _⟩
    exact h ⟨h1, h2, h3, h4⟩
theorem spec_isM (a b c d : Int) (k : Nat) (hk : 4 < k) : spec_IsMatrix.f k a b c d = some (isM a b c d) := by
  unfold spec_IsMatrix.f spec_l11Fits.f
  rw [show (0 : Int) = ((0 : Nat) : Int) from rfl, fits_l0 _ (by simp) 4 k 0 (by simp) hk, Option.bind_some, List.drop_zero]
  exact isM_of (four_all a b c d)
theorem impl_isM (a b c d : Int) (k : Nat) (hk : 4 < k) : impl_IsMatrix.f k a b c d = some (isM a b c d) := by
  unfold impl_IsMatrix.f impl_areSmall.f
  rw [show (0 : Int) = ((0 : Nat) : Int) from rfl, areSmall_l0 _ (by simp) 4 k 0 (by simp) hk, Option.bind_some, List.drop_zero]
  exact isM_of (four_all a b c d)
end Go.Proofs.YtnoiijdffdpabaaDoor.L

namespace Go.Proofs.YtnoiijdffdpabaaDoor.L
open Go Go.RowKit Go.Proofs.YtnoiijdffdpabaaDoor.P Go.Proofs.YtnoiijdffdpabaaDoor.Help Go.Proofs.YtnoiijdffdpabaaDoorW.PrintWords
set_option linter.unusedVariables false
set_option linter.unusedSimpArgs false
def itS (x : Int) : ByteArray := ⟨(Lib.itoa x).toArray⟩
def mtext (a b c d : Int) : ByteArray := if isM a b c d = true then ((((((itS a ++ (⟨#[44]⟩ : ByteArray)) ++ itS b) ++ (⟨#[44]⟩ : ByteArray)) ++ itS c) ++ (⟨#[44]⟩ : ByteArray)) ++ itS d) else ⟨#[]⟩
theorem spec_mtext (a b c d : Int) (k : Nat) (hk : 21 < k) : spec_MatrixText.f k a b c d = some (mtext a b c d) := by
  unfold spec_MatrixText.f mtext
  rw [spec_isM _ _ _ _ k (by omega), Option.bind_some]
  by_cases h : isM a b c d = true
  · obtain ⟨h1, h2, h3, h4, _⟩ := isM_true h
    have z : (⟨#[44]⟩ : ByteArray).size = 1 := rfl
    have s1 := itoa_size a (by omega) (by omega)
    have s2 := itoa_size b (by omega) (by omega)
    have s3 := itoa_size c (by omega) (by omega)
    have s4 := itoa_size d (by omega) (by omega)
    rw [if_pos h, if_pos h, spec_fmt a (by omega) (by omega) k hk, Option.bind_some, spec_fmt b (by omega) (by omega) k hk, Option.bind_some, spec_fmt c (by omega) (by omega) k hk, Option.bind_some, spec_fmt d (by omega) (by omega) k hk, Option.bind_some]
    simp only [ByteArray.size_append, z]
    rw [if_pos (by omega), if_pos (by omega), if_pos (by omega), if_pos (by omega), if_pos (by omega), if_pos (by omega)]
    rfl
  · rw [if_neg h, if_neg h]
theorem impl_mtext (a b c d : Int) (k : Nat) (hk : 21 < k) : impl_MatrixText.f k a b c d = some (mtext a b c d) := by
  unfold impl_MatrixText.f mtext
  rw [impl_isM _ _ _ _ k (by omega), Option.bind_some]
  by_cases h : isM a b c d = true
  · obtain ⟨h1, h2, h3, h4, _⟩ := isM_true h
    have s1 := Lib.itoa_length_le a (by omega) (by omega)
    have s2 := Lib.itoa_length_le b (by omega) (by omega)
    have s3 := Lib.itoa_length_le c (by omega) (by omega)
    have s4 := Lib.itoa_length_le d (by omega) (by omega)
    rw [if_pos h, if_pos h, impl_fmt a (by omega) (by omega), Option.bind_some, impl_fmt b (by omega) (by omega), Option.bind_some, impl_fmt c (by omega) (by omega), Option.bind_some, impl_fmt d (by omega) (by omega), Option.bind_some]
    unfold impl_Join.f
    have e : Lib.join (([⟨(Lib.itoa a).toArray⟩, ⟨(Lib.itoa b).toArray⟩, ⟨(Lib.itoa c).toArray⟩, ⟨(Lib.itoa d).toArray⟩] : List ByteArray).map (·.data.toList)) (⟨#[44]⟩ : ByteArray).data.toList = Lib.itoa a ++ ([44] ++ Lib.itoa b ++ ([44] ++ Lib.itoa c ++ ([44] ++ Lib.itoa d))) := by
      simp only [List.map_cons, List.map_nil]
      rw [Lib.join_cons]
      simp [Lib.joinTail]
    rw [if_pos (by simp), e, if_pos (by simp; omega), Option.bind_some]
    congr 1
    unfold itS
    apply ByteArray.ext
    simp [ByteArray.data_append]
  · rw [if_neg h, if_neg h]
end Go.Proofs.YtnoiijdffdpabaaDoor.L

namespace Go.Proofs.YtnoiijdffdpabaaDoor.Pure
open Go.RowKit Go.Proofs.YtnoiijdffdpabaaDoor.P Go.Proofs.YtnoiijdffdpabaaDoor.Help Go.Proofs.YtnoiijdffdpabaaDoor.L
theorem FnExactMatrixText : ∀ (a0_0 a0_1 a0_2 a0_3 : Int), I64 a0_0 → I64 a0_1 → I64 a0_2 → I64 a0_3 → ∃ k, laws_FnExactMatrixText.f k a0_0 a0_1 a0_2 a0_3 = some true := by
  intro a b c d _ _ _ _
  refine ⟨30, ?_⟩
  unfold laws_FnExactMatrixText.f laws_toMatrix.f
  simp only [Option.bind_some]
  rw [spec_mtext _ _ _ _ _ (by decide), impl_mtext _ _ _ _ _ (by decide)]
  simp
end Go.Proofs.YtnoiijdffdpabaaDoor.Pure
