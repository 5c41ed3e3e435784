/- What the program's and the reference's functions on matrices of whole numbers compute, as plain functions; no condition but the number of rounds. -/
import Derived.Test.YtjmifldndjkmpaaPx2
import Derived.Test.YtjmifldndjkmpaaPx3
import Derived.Test.YtjmifldndjkmpaaPx4
import Derived.Test.YtjmifldndjkmpaaPx5
import Derived.Test.YtjmifldndjkmpaaPx6
import Derived.Test.YtjmifldndjkmpaaHelp
namespace Go.Proofs.Ytjmifldndjkmpaa.L
open Go.RowKit Go.Proofs.Ytjmifldndjkmpaa.P Go.Proofs.Ytjmifldndjkmpaa.Help Go.Proofs.YtjmifldndjkmpaaW.PrintWords
set_option linter.unusedVariables false
set_option linter.unusedSimpArgs false

theorem w_id {a : Int} (h0 : -9223372036854775808 ≤ a) (h1 : a ≤ 9223372036854775807) : wrap64 a = a := by unfold wrap64; omega
theorem mulb {a b A B : Int} (h1 : -A ≤ a) (h2 : a ≤ A) (h3 : -B ≤ b) (h4 : b ≤ B) : -(A * B) ≤ a * b ∧ a * b ≤ A * B := by
  have hA : 0 ≤ A := by omega
  have hB : 0 ≤ B := by omega
  have h : (a * b).natAbs ≤ (A * B).natAbs := by
    rw [Int.natAbs_mul, Int.natAbs_mul]
    exact Nat.mul_le_mul (by omega) (by omega)
  have hp : 0 ≤ A * B := Int.mul_nonneg hA hB
  omega
def sm (x : Int) : Bool := decide (-1000 ≤ x ∧ x ≤ 1000)
theorem l1In_eq (a lo hi : Int) : spec_l1In.f a lo hi = some (decide (lo ≤ a ∧ a ≤ hi)) := by
  unfold spec_l1In.f
  by_cases h : lo ≤ a <;> simp [h]
theorem within_eq (a lo hi : Int) : impl_within.f a lo hi = some (decide (lo ≤ a ∧ a ≤ hi)) := by
  unfold impl_within.f
  by_cases h : lo ≤ a <;> simp [h]
theorem rd_nat (xs : List Int) (i : Nat) (h : i < xs.length) : rd xs (i : Int) = xs[i] := by
  unfold rd
  simp [List.getD_eq_getElem?_getD, List.getElem?_eq_getElem h]
theorem fits_l0 (xs : List Int) (hx : xs.length ≤ 1000000) : ∀ (d k i : Nat), i + d = xs.length → d < k → spec_l11Fits.l0 k xs (i : Int) = some ((xs.drop i).all sm) := by
  intro d
  induction d with
  | zero =>
    intro k i hi hk
    obtain ⟨k, rfl⟩ : ∃ m, k = m + 1 := ⟨k - 1, by omega⟩
    simp only [spec_l11Fits.l0]
    rw [if_neg (by omega), List.drop_of_length_le (by omega)]
    rfl
  | succ d ih =>
    intro k i hi hk
    obtain ⟨k, rfl⟩ : ∃ m, k = m + 1 := ⟨k - 1, by omega⟩
    have hlt : i < xs.length := by omega
    simp only [spec_l11Fits.l0]
    rw [if_pos (by omega), if_pos (by omega), l1In_eq, Option.bind_some, w_id (by omega) (by omega), show ((i : Int) + 1) = ((i + 1 : Nat) : Int) by omega, ih k (i + 1) (by omega) (by omega), List.drop_eq_getElem_cons hlt, List.all_cons, rd_nat xs i hlt]
    unfold sm
    by_cases h : -1000 ≤ xs[i] ∧ xs[i] ≤ 1000 <;> simp [h]
theorem areSmall_l0 (xs : List Int) (hx : xs.length ≤ 1000000) : ∀ (d k i : Nat), i + d = xs.length → d < k → impl_areSmall.l0 k xs (xs.length : Int) (i : Int) = some ((xs.drop i).all sm) := by
  intro d
  induction d with
  | zero =>
    intro k i hi hk
    obtain ⟨k, rfl⟩ : ∃ m, k = m + 1 := ⟨k - 1, by omega⟩
    simp only [impl_areSmall.l0]
    rw [if_neg (by omega), List.drop_of_length_le (by omega)]
    rfl
  | succ d ih =>
    intro k i hi hk
    obtain ⟨k, rfl⟩ : ∃ m, k = m + 1 := ⟨k - 1, by omega⟩
    have hlt : i < xs.length := by omega
    simp only [impl_areSmall.l0]
    rw [if_pos (by omega), if_pos (by omega), if_pos (by omega), within_eq, Option.bind_some, w_id (by omega) (by omega), show ((i : Int) + 1) = ((i + 1 : Nat) : Int) by omega, ih k (i + 1) (by omega) (by omega), List.drop_eq_getElem_cons hlt, List.all_cons, rd_nat xs i hlt]
    unfold sm
    by_cases h : -1000 ≤ xs[i] ∧ xs[i] ≤ 1000 <;> simp [h]
/-- A matrix: four small numbers, the determinant 1. -/
def isM (a b c d : Int) : Bool := decide ((-1000 ≤ a ∧ a ≤ 1000) ∧ (-1000 ≤ b ∧ b ≤ 1000) ∧ (-1000 ≤ c ∧ c ≤ 1000) ∧ (-1000 ≤ d ∧ d ≤ 1000) ∧ a * d - b * c = 1)
theorem isM_true {a b c d : Int} (h : isM a b c d = true) : (-1000 ≤ a ∧ a ≤ 1000) ∧ (-1000 ≤ b ∧ b ≤ 1000) ∧ (-1000 ≤ c ∧ c ≤ 1000) ∧ (-1000 ≤ d ∧ d ≤ 1000) ∧ a * d - b * c = 1 := of_decide_eq_true h
theorem det_w {a b c d : Int} (ha : -1000 ≤ a ∧ a ≤ 1000) (hb : -1000 ≤ b ∧ b ≤ 1000) (hc : -1000 ≤ c ∧ c ≤ 1000) (hd : -1000 ≤ d ∧ d ≤ 1000) : wrap64 ((wrap64 (a * d)) - (wrap64 (b * c))) = a * d - b * c := by
  have h1 := mulb ha.1 ha.2 hd.1 hd.2
  have h2 := mulb hb.1 hb.2 hc.1 hc.2
  rw [w_id (a := a * d) (by omega) (by omega), w_id (a := b * c) (by omega) (by omega), w_id (by omega) (by omega)]
theorem four_all (a b c d : Int) : ([a, b, c, d].all sm) = decide ((-1000 ≤ a ∧ a ≤ 1000) ∧ (-1000 ≤ b ∧ b ≤ 1000) ∧ (-1000 ≤ c ∧ c ≤ 1000) ∧ (-1000 ≤ d ∧ d ≤ 1000)) := by
  rw [Bool.eq_iff_iff]
  simp [List.all_cons, sm]
theorem isM_of {a b c d : Int} {t : Bool} (ht : t = decide ((-1000 ≤ a ∧ a ≤ 1000) ∧ (-1000 ≤ b ∧ b ≤ 1000) ∧ (-1000 ≤ c ∧ c ≤ 1000) ∧ (-1000 ≤ d ∧ d ≤ 1000))) :
    (if t = true then (some ((wrap64 ((wrap64 (a * d)) - (wrap64 (b * c)))) == 1)) else (some false)) = some (isM a b c d) := by
  subst ht
  by_cases h : (-1000 ≤ a ∧ a ≤ 1000) ∧ (-1000 ≤ b ∧ b ≤ 1000) ∧ (-1000 ≤ c ∧ c ≤ 1000) ∧ (-1000 ≤ d ∧ d ≤ 1000)
  · rw [if_pos (decide_eq_true h), det_w h.1 h.2.1 h.2.2.1 h.2.2.2]
    unfold isM
    congr 1
    rw [Bool.eq_iff_iff]
    simp [h]
  · rw [if_neg (by simpa using h)]
    unfold isM
    congr 1
    symm
    rw [decide_eq_false_iff_not]
    rintro ⟨h1, h2, h3, h4, _⟩
    exact h ⟨h1, h2, h3, h4⟩
theorem unit_of {a d : Int} (h : a * d = 1) : a = 1 ∨ a = -1 := by
  have h1 : a.natAbs * d.natAbs = 1 := by rw [← Int.natAbs_mul, h]; rfl
  have h2 : a.natAbs = 1 := Nat.eq_one_of_mul_eq_one_right h1
  omega
theorem spec_isM (a b c d : Int) (k : Nat) (hk : 4 < k) : spec_IsMatrix.f k a b c d = some (isM a b c d) := by
  unfold spec_IsMatrix.f spec_l11Fits.f
  rw [show (0 : Int) = ((0 : Nat) : Int) from rfl, fits_l0 _ (by simp) 4 k 0 (by simp) hk, Option.bind_some, List.drop_zero]
  exact isM_of (four_all a b c d)
theorem impl_isM (a b c d : Int) (k : Nat) (hk : 4 < k) : impl_IsMatrix.f k a b c d = some (isM a b c d) := by
  unfold impl_IsMatrix.f impl_areSmall.f
  rw [show (0 : Int) = ((0 : Nat) : Int) from rfl, areSmall_l0 _ (by simp) 4 k 0 (by simp) hk, Option.bind_some, List.drop_zero]
  exact isM_of (four_all a b c d)
theorem bind_ite {α β : Type} {c : Prop} [Decidable c] (x y : Option α) (f : α → Option β) : (if c then x else y).bind f = if c then x.bind f else y.bind f := by split <;> rfl
theorem spec_inv (a b c d : Int) (k : Nat) (hk : 4 < k) : spec_InverseMatrix.f k a b c d = some (if isM a b c d then (d, wrap64 (-b), wrap64 (-c), a) else (0, 0, 0, 0)) := by
  unfold spec_InverseMatrix.f
  rw [spec_isM _ _ _ _ _ hk, Option.bind_some]
  split <;> rfl
theorem impl_inv (a b c d : Int) (k : Nat) (hk : 4 < k) : impl_InverseMatrix.f k a b c d = some (if isM a b c d then (d, wrap64 (-b), wrap64 (-c), a) else (0, 0, 0, 0)) := by
  unfold impl_InverseMatrix.f
  rw [impl_isM _ _ _ _ _ hk, Option.bind_some]
  split <;> rfl
theorem spec_tr (a b c d : Int) (k : Nat) (hk : 4 < k) : spec_TraceOf.f k a b c d = some (if isM a b c d then wrap64 (a + d) else 0) := by
  unfold spec_TraceOf.f
  rw [spec_isM _ _ _ _ _ hk, Option.bind_some]
  split <;> rfl
theorem impl_tr (a b c d : Int) (k : Nat) (hk : 4 < k) : impl_TraceOf.f k a b c d = some (if isM a b c d then wrap64 (a + d) else 0) := by
  unfold impl_TraceOf.f
  rw [impl_isM _ _ _ _ _ hk, Option.bind_some]
  split <;> rfl
theorem eqM_self (a b c d : Int) : laws_eqMatrix.f a b c d a b c d = some true := by simp [laws_eqMatrix.f]
/-- The kind of a matrix. -/
def kindB (a b c d : Int) : ByteArray :=
  if isM a b c d = true then
    if b = 0 ∧ c = 0 then ⟨#[105, 100, 101, 110, 116, 105, 116, 121]⟩
    else if -1 ≤ a + d ∧ a + d ≤ 1 then ⟨#[112, 101, 114, 105, 111, 100, 105, 99]⟩
    else if a + d = 2 ∨ a + d = -2 then ⟨#[116, 119, 105, 115, 116]⟩ else ⟨#[115, 116, 114, 101, 116, 99, 104]⟩
  else ⟨#[]⟩
theorem spec_kind (a b c d : Int) (k : Nat) (hk : 4 < k) : spec_KindOf.f k a b c d = some (kindB a b c d) := by
  obtain ⟨k, rfl⟩ : ∃ m, k = m + 1 := ⟨k - 1, by omega⟩
  unfold spec_KindOf.f kindB
  rw [spec_isM _ _ _ _ _ hk, Option.bind_some]
  by_cases h : isM a b c d = true
  · rw [if_pos h, if_pos h]
    obtain ⟨ha, hb, hc, hd, hdet⟩ := isM_true h
    have hw : wrap64 (a + d) = a + d := w_id (by omega) (by omega)
    simp only [spec_KindOf.j0, l1In_eq, hw, Option.bind_some, decide_eq_true_eq, beq_iff_eq, Bool.false_eq_true, if_false]
    by_cases h1 : b = 0
    · by_cases h2 : c = 0
      · simp [h1, h2]
      · simp only [h1, h2, if_true, if_false, and_false]
        by_cases h3 : -1 ≤ a + d ∧ a + d ≤ 1
        · rw [if_pos h3, if_pos h3]
        · rw [if_neg h3, if_neg h3]
          by_cases h4 : -2 ≤ a + d ∧ a + d ≤ 2
          · rw [if_pos h4, if_pos (by omega)]
          · rw [if_neg h4, if_neg (by omega)]
    · simp only [h1, if_false, false_and]
      by_cases h3 : -1 ≤ a + d ∧ a + d ≤ 1
      · rw [if_pos h3, if_pos h3]
      · rw [if_neg h3, if_neg h3]
        by_cases h4 : -2 ≤ a + d ∧ a + d ≤ 2
        · rw [if_pos h4, if_pos (by omega)]
        · rw [if_neg h4, if_neg (by omega)]
  · rw [if_neg h, if_neg h]
theorem impl_kind (a b c d : Int) (k : Nat) (hk : 4 < k) : impl_KindOf.f k a b c d = some (kindB a b c d) := by
  obtain ⟨k, rfl⟩ : ∃ m, k = m + 1 := ⟨k - 1, by omega⟩
  unfold impl_KindOf.f kindB impl_one.f
  rw [impl_isM _ _ _ _ _ hk, Option.bind_some]
  by_cases h : isM a b c d = true
  · rw [if_pos h, if_pos h]
    obtain ⟨ha, hb, hc, hd, hdet⟩ := isM_true h
    have hw : wrap64 (a + d) = a + d := w_id (by omega) (by omega)
    have hid : (b = 0 ∧ c = 0) ↔ ((a = 1 ∧ b = 0 ∧ c = 0 ∧ d = 1) ∨ (a = -1 ∧ b = 0 ∧ c = 0 ∧ d = -1)) := by
      constructor
      · rintro ⟨rfl, rfl⟩
        have h1 : a * d = 1 := by simpa using hdet
        rcases unit_of h1 with rfl | rfl
        · left; refine ⟨rfl, rfl, rfl, by omega⟩
        · right; refine ⟨rfl, rfl, rfl, by omega⟩
      · rintro (⟨_, h1, h2, _⟩ | ⟨_, h1, h2, _⟩) <;> exact ⟨h1, h2⟩
    simp only [impl_KindOf.j0, within_eq, hw, Option.bind_some, decide_eq_true_eq, Bool.and_eq_true, beq_iff_eq]
    by_cases h1 : a = 1 ∧ b = 0 ∧ c = 0 ∧ d = 1
    · rw [if_pos h1, if_pos (hid.2 (.inl h1)), if_pos trivial]
    · rw [if_neg h1]
      by_cases h2 : a = -1 ∧ b = 0 ∧ c = 0 ∧ d = -1
      · rw [if_pos h2, if_pos (hid.2 (.inr h2))]
      · rw [if_neg h2, if_neg (fun h => (hid.1 h).elim h1 h2)]
        by_cases h3 : -1 ≤ a + d ∧ a + d ≤ 1
        · rw [if_pos h3, if_pos h3]
        · rw [if_neg h3, if_neg h3]
          by_cases h4 : a + d = 2
          · rw [if_pos h4, if_pos (.inl h4)]
          · rw [if_neg h4]
            by_cases h5 : a + d = -2
            · rw [if_pos h5, if_pos (.inr h5)]
            · rw [if_neg h5, if_neg (by omega)]
  · rw [if_neg h, if_neg h]
/-- The product of two matrices, if it is one. -/
def timesR (a b c d e f g h : Int) : Int × Int × Int × Int × Bool :=
  if isM a b c d = true ∧ isM e f g h = true ∧ isM (a * e + b * g) (a * f + b * h) (c * e + d * g) (c * f + d * h) = true then (a * e + b * g, a * f + b * h, c * e + d * g, c * f + d * h, true) else (0, 0, 0, 0, false)
theorem dot_w {a b e g : Int} (ha : -1000 ≤ a ∧ a ≤ 1000) (hb : -1000 ≤ b ∧ b ≤ 1000) (he : -1000 ≤ e ∧ e ≤ 1000) (hg : -1000 ≤ g ∧ g ≤ 1000) : wrap64 ((wrap64 (a * e)) + (wrap64 (b * g))) = a * e + b * g := by
  have h1 := mulb ha.1 ha.2 he.1 he.2
  have h2 := mulb hb.1 hb.2 hg.1 hg.2
  rw [w_id (a := a * e) (by omega) (by omega), w_id (a := b * g) (by omega) (by omega), w_id (by omega) (by omega)]
theorem spec_prod {a b c d e f g h : Int} (ha : -1000 ≤ a ∧ a ≤ 1000) (hb : -1000 ≤ b ∧ b ≤ 1000) (hc : -1000 ≤ c ∧ c ≤ 1000) (hd : -1000 ≤ d ∧ d ≤ 1000) (he : -1000 ≤ e ∧ e ≤ 1000) (hf : -1000 ≤ f ∧ f ≤ 1000) (hg : -1000 ≤ g ∧ g ≤ 1000) (hh : -1000 ≤ h ∧ h ≤ 1000) :
    spec_l13Times.f a b c d e f g h = some (a * e + b * g, a * f + b * h, c * e + d * g, c * f + d * h) := by
  unfold spec_l13Times.f
  rw [dot_w ha hb he hg, dot_w ha hb hf hh, dot_w hc hd he hg, dot_w hc hd hf hh]
theorem spec_times (a b c d e f g h : Int) (k : Nat) (hk : 4 < k) : spec_TimesMatrix.f k a b c d e f g h = some (timesR a b c d e f g h) := by
  unfold spec_TimesMatrix.f timesR
  rw [spec_isM _ _ _ _ _ hk, spec_isM _ _ _ _ _ hk, Option.bind_some, Option.bind_some]
  by_cases h1 : isM a b c d = true
  · rw [if_pos h1]
    by_cases h2 : isM e f g h = true
    · rw [if_pos h2]
      obtain ⟨ha, hb, hc, hd, _⟩ := isM_true h1
      obtain ⟨he, hf, hg, hh, _⟩ := isM_true h2
      rw [spec_prod ha hb hc hd he hf hg hh]
      simp only [Option.bind_some]
      rw [spec_isM _ _ _ _ _ hk, Option.bind_some]
      simp only [h1, h2, true_and]
      split <;> rfl
    · rw [if_neg h2, if_neg (fun h => h2 h.2.1)]
  · rw [if_neg h1, if_neg (fun h => h1 h.1)]
theorem impl_times (a b c d e f g h : Int) (k : Nat) (hk : 5 < k) : impl_TimesMatrix.f k a b c d e f g h = some (timesR a b c d e f g h) := by
  unfold impl_TimesMatrix.f timesR
  rw [impl_isM _ _ _ _ _ (by omega), impl_isM _ _ _ _ _ (by omega), Option.bind_some, Option.bind_some]
  obtain ⟨k, rfl⟩ : ∃ m, k = m + 1 := ⟨k - 1, by omega⟩
  simp only [impl_TimesMatrix.j0]
  by_cases h1 : isM a b c d = true
  · rw [if_pos h1]
    by_cases h2 : isM e f g h = true
    · obtain ⟨ha, hb, hc, hd, _⟩ := isM_true h1
      obtain ⟨he, hf, hg, hh, _⟩ := isM_true h2
      rw [dot_w ha hb he hg, dot_w ha hb hf hh, dot_w hc hd he hg, dot_w hc hd hf hh, impl_isM _ _ _ _ _ (by omega), Option.bind_some]
      simp only [h1, h2, true_and, Bool.not_true, Bool.false_eq_true, if_false]
      split <;> rfl
    · rw [if_pos (by simpa using h2), if_neg (fun h => h2 h.2.1)]
  · rw [if_neg h1, if_pos trivial, if_neg (fun h => h1 h.1)]
end Go.Proofs.Ytjmifldndjkmpaa.L
