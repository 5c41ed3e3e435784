/- What the program's and the reference's ParentsOf compute; no condition but the number of rounds. -/
import Derived.Test.YtjmifldndjkmpaaPx0
import Derived.Test.YtjmifldndjkmpaaPx37
import Derived.Test.YtjmifldndjkmpaaPx38
import Derived.Test.YtjmifldndjkmpaaHelp
import Derived.Test.YtjmifldndjkmpaaLIsS
namespace Go.Proofs.Ytjmifldndjkmpaa.L
open Go.RowKit Go.Proofs.Ytjmifldndjkmpaa.P Go.Proofs.Ytjmifldndjkmpaa.Help Go.Proofs.YtjmifldndjkmpaaW.PrintWords
set_option linter.unusedVariables false
set_option linter.unusedSimpArgs false

theorem divmod {a b q r : Int} (hb : 0 < b) (h : r + b * q = a) (h0 : 0 ≤ r) (h1 : r < b) : a / b = q ∧ a % b = r := (Int.ediv_emod_unique hb).2 ⟨h, h0, h1⟩
theorem tdivmod (a b : Int) (hb : 0 < b) : (a.tmod b < 0 → a / b = a.tdiv b - 1 ∧ a % b = a.tmod b + b) ∧ (¬ a.tmod b < 0 → a / b = a.tdiv b ∧ a % b = a.tmod b) := by
  have h1 : b * a.tdiv b + a.tmod b = a := Int.mul_tdiv_add_tmod a b
  have h2 : (a.tmod b).natAbs < b.natAbs := by
    rw [Int.natAbs_tmod]
    exact Nat.mod_lt _ (by omega)
  constructor
  · intro h
    refine divmod hb ?_ (by omega) (by omega)
    rw [Int.mul_sub, Int.mul_one]
    omega
  · intro h
    exact divmod hb (by omega) (by omega) (by omega)
theorem down_eq (a b : Int) (hb : 0 < b) (ha : -1000000000000 ≤ a ∧ a ≤ 1000000000000) : spec_l14Down.f a b = some (a / b) := by
  unfold spec_l14Down.f
  have hd : (a.tdiv b).natAbs ≤ a.natAbs := Int.natAbs_tdiv_le_natAbs a b
  obtain ⟨t1, t2⟩ := tdivmod a b hb
  rw [if_neg (by omega)]
  by_cases h : a.tmod b < 0
  · rw [if_pos h, w_id (a := a.tdiv b) (by omega) (by omega), w_id (by omega) (by omega), (t1 h).1]
  · rw [if_neg h, w_id (by omega) (by omega), (t2 h).1]
theorem mod_eq (a b : Int) (hb : 0 < b ∧ b ≤ 1000000000000) : impl_mod.f a b = some (a % b) := by
  unfold impl_mod.f
  obtain ⟨t1, t2⟩ := tdivmod a b hb.1
  have h2 : (a.tmod b).natAbs < b.natAbs := by
    rw [Int.natAbs_tmod]
    exact Nat.mod_lt _ (by omega)
  rw [if_neg (by omega)]
  by_cases h : a.tmod b < 0
  · rw [if_pos h, w_id (by omega) (by omega), (t1 h).2]
  · rw [if_neg h, (t2 h).2]
/-- The two neighbours of which p / q is the sum, from a denominator on. -/
def par : Nat → Int → Int → Int → List S38 × Bool
  | 0, _, _, _ => ([], false)
  | n + 1, x, p, q => if (p * x) % q = 1 then ([⟨(p * x) / q, x⟩, ⟨p - (p * x) / q, q - x⟩], true) else par n (x + 1) p q
theorem spec_par : ∀ (n k : Nat) (x p q : Int), x + n = q → n < k → 1 ≤ x → -1000 ≤ p ∧ p ≤ 1000 → 2 ≤ q ∧ q ≤ 1000 → spec_ParentsOf.l0 k x p q = some (par n x p q) := by
  intro n
  induction n with
  | zero =>
    intro k x p q hx hk h1 hp hq
    obtain ⟨k, rfl⟩ : ∃ m, k = m + 1 := ⟨k - 1, by omega⟩
    simp only [spec_ParentsOf.l0, par]
    rw [if_neg (by omega)]
  | succ n ih =>
    intro k x p q hx hk h1 hp hq
    obtain ⟨k, rfl⟩ : ∃ m, k = m + 1 := ⟨k - 1, by omega⟩
    have hb := mulb hp.1 hp.2 (show -1000 ≤ x by omega) (show x ≤ 1000 by omega)
    simp only [spec_ParentsOf.l0, par]
    have hdm : q * (p * x / q) + (p * x) % q = p * x := Int.mul_ediv_add_emod (p * x) q
    have hr0 := Int.emod_nonneg (p * x) (show q ≠ 0 by omega)
    have hr1 := Int.emod_lt_of_pos (p * x) (show 0 < q by omega)
    have hfb : -1000001 ≤ p * x / q ∧ p * x / q ≤ 1000001 := by
      have hd : ((p * x).tdiv q).natAbs ≤ (p * x).natAbs := Int.natAbs_tdiv_le_natAbs _ _
      obtain ⟨t1, t2⟩ := tdivmod (p * x) q (by omega)
      by_cases h : (p * x).tmod q < 0
      · rw [(t1 h).1]; omega
      · rw [(t2 h).1]; omega
    have hcomm : p * x / q * q = q * (p * x / q) := Int.mul_comm _ _
    rw [if_pos (by omega), w_id (a := p * x) (by omega) (by omega), down_eq _ _ (by omega) (by omega), Option.bind_some, hcomm, w_id (a := q * (p * x / q)) (by omega) (by omega), w_id (a := p * x - q * (p * x / q)) (by omega) (by omega), w_id (a := p - p * x / q) (by omega) (by omega), w_id (a := q - x) (by omega) (by omega), w_id (a := x + 1) (by omega) (by omega)]
    by_cases h : (p * x) % q = 1
    · rw [if_pos (by omega), if_pos h]
    · rw [if_neg (by omega), if_neg h, ih k (x + 1) p q (by omega) (by omega) (by omega) hp hq]
theorem impl_par : ∀ (n k : Nat) (x p q : Int), x + n = q → n < k → 1 ≤ x → -1000 ≤ p ∧ p ≤ 1000 → 2 ≤ q ∧ q ≤ 1000 → impl_ParentsOf.l0 k x p q = some (par n x p q) := by
  intro n
  induction n with
  | zero =>
    intro k x p q hx hk h1 hp hq
    obtain ⟨k, rfl⟩ : ∃ m, k = m + 1 := ⟨k - 1, by omega⟩
    simp only [impl_ParentsOf.l0, par]
    rw [if_neg (by omega)]
  | succ n ih =>
    intro k x p q hx hk h1 hp hq
    obtain ⟨k, rfl⟩ : ∃ m, k = m + 1 := ⟨k - 1, by omega⟩
    have hb := mulb hp.1 hp.2 (show -1000 ≤ x by omega) (show x ≤ 1000 by omega)
    simp only [impl_ParentsOf.l0, par]
    have hdm : q * (p * x / q) + (p * x) % q = p * x := Int.mul_ediv_add_emod (p * x) q
    rw [if_pos (by omega), w_id (a := p * x) (by omega) (by omega), w_id (a := p * x - 1) (by omega) (by omega), mod_eq _ _ (by omega), Option.bind_some, w_id (a := x + 1) (by omega) (by omega), if_neg (show ¬ q = 0 by omega)]
    by_cases h : (p * x) % q = 1
    · have hx1 : p * x - 1 = q * (p * x / q) := by omega
      have h0 : (p * x - 1) % q = 0 := by rw [hx1]; exact Int.mul_emod_right _ _
      have ht : (p * x - 1).tdiv q = p * x / q := by
        conv => lhs; rw [hx1]
        exact Int.mul_tdiv_cancel_left _ (by omega)
      have hfb : -1000001 ≤ p * x / q ∧ p * x / q ≤ 1000001 := by
        have hd : ((p * x - 1).tdiv q).natAbs ≤ (p * x - 1).natAbs := Int.natAbs_tdiv_le_natAbs _ _
        rw [ht] at hd
        omega
      rw [if_pos h0, if_pos h, ht, w_id (a := p * x / q) (by omega) (by omega), w_id (a := p - p * x / q) (by omega) (by omega), w_id (a := q - x) (by omega) (by omega)]
    · have h0 : ¬ (p * x - 1) % q = 0 := by
        intro h0
        obtain ⟨m, hm⟩ := Int.dvd_of_emod_eq_zero h0
        apply h
        exact (divmod (a := p * x) (b := q) (q := m) (r := 1) (by omega) (by omega) (by omega) (by omega)).2
      rw [if_neg h0, if_neg h, ih k (x + 1) p q (by omega) (by omega) (by omega) hp hq]
def parR (p q : Int) : List S38 × Bool := if isS p q = true ∧ 2 ≤ q then par (q - 1).toNat 1 p q else ([], false)
theorem par_len : ∀ (n : Nat) (x p q : Int), (par n x p q).1.length ≤ 2 := by
  intro n
  induction n with
  | zero => intro x p q; simp [par]
  | succ n ih =>
    intro x p q
    unfold par
    split
    · simp
    · exact ih _ _ _
theorem parR_len (p q : Int) : (parR p q).1.length ≤ 2 := by
  unfold parR
  split
  · exact par_len _ _ _ _
  · simp
theorem spec_parents (p q : Int) (k : Nat) (hk : 1001 < k) : spec_ParentsOf.f k p q = some (parR p q) := by
  obtain ⟨k, rfl⟩ : ∃ m, k = m + 1 := ⟨k - 1, by omega⟩
  unfold spec_ParentsOf.f parR
  rw [spec_isS _ _ _ (by omega), Option.bind_some]
  simp only [spec_ParentsOf.j0, decide_eq_true_eq, if_true]
  by_cases h : isS p q = true
  · rw [if_pos h]
    obtain ⟨h1, h2, _⟩ := isS_true h
    by_cases h3 : q < 2
    · rw [if_pos h3, if_neg (fun h => by omega)]
    · rw [if_neg h3, if_pos ⟨h, by omega⟩]
      exact spec_par _ k 1 p q (by omega) (by omega) (by omega) h1 (by omega)
  · rw [if_neg h, if_neg (fun h' => h h'.1)]
theorem impl_parents (p q : Int) (k : Nat) (hk : 1001 < k) : impl_ParentsOf.f k p q = some (parR p q) := by
  obtain ⟨k, rfl⟩ : ∃ m, k = m + 1 := ⟨k - 1, by omega⟩
  unfold impl_ParentsOf.f parR
  rw [impl_isS _ _ _ (by omega), Option.bind_some]
  simp only [impl_ParentsOf.j0, decide_eq_true_eq, if_true]
  by_cases h : isS p q = true
  · rw [if_pos h]
    obtain ⟨h1, h2, _⟩ := isS_true h
    by_cases h3 : q < 2
    · rw [if_pos h3, if_neg (fun h => by omega)]
    · rw [if_neg h3, if_pos ⟨h, by omega⟩]
      exact impl_par _ k 1 p q (by omega) (by omega) (by omega) h1 (by omega)
  · rw [if_neg h, if_neg (fun h' => h h'.1)]
end Go.Proofs.Ytjmifldndjkmpaa.L
