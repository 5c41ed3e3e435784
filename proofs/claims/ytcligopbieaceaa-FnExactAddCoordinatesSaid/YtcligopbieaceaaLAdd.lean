/- What the program's and the reference's AddCoordinates compute; no condition but the number of rounds and the length. -/
import Derived.Test.YtcligopbieaceaaPx3
import Derived.Test.YtcligopbieaceaaPx4
import Derived.Test.YtcligopbieaceaaLCoord
namespace Go.Proofs.Ytcligopbieaceaa.L
open Go.RowKit Go.Proofs.Ytcligopbieaceaa.P Go.Proofs.Ytcligopbieaceaa.Help Go.Proofs.YtcligopbieaceaaW.PrintWords
set_option linter.unusedVariables false
set_option linter.unusedSimpArgs false

/-- The sums, element by element. -/
def addL : List Int → List Int → List Int
  | x :: xs, y :: ys => (x + y) :: addL xs ys
  | _, _ => []
theorem addL_len : ∀ (xs ys : List Int), (addL xs ys).length ≤ xs.length
  | [], _ => by simp [addL]
  | _ :: _, [] => by simp [addL]
  | x :: xs, y :: ys => by
    have := addL_len xs ys
    rw [addL, List.length_cons, List.length_cons]
    omega
theorem spec_add_l0 (xs ys : List Int) (hx : xs.length ≤ 1048576) (hl : ys.length = xs.length) : ∀ (d k i : Nat) (o : List Int), i + d = xs.length → d < k → o.length = i →
    spec_AddCoordinates.l0 k xs ys o (i : Int) = some (if (xs.drop i).all co = true ∧ (ys.drop i).all co = true ∧ (addL (xs.drop i) (ys.drop i)).all co = true then (o ++ addL (xs.drop i) (ys.drop i), true) else ([], false)) := by
  intro d
  induction d with
  | zero =>
    intro k i o hi hk ho
    obtain ⟨k, rfl⟩ : ∃ m, k = m + 1 := ⟨k - 1, by omega⟩
    simp only [spec_AddCoordinates.l0]
    rw [if_neg (by omega), List.drop_of_length_le (by omega), List.drop_of_length_le (by omega)]
    simp [addL]
  | succ d ih =>
    intro k i o hi hk ho
    obtain ⟨k, rfl⟩ : ∃ m, k = m + 1 := ⟨k - 1, by omega⟩
    have hlt : i < xs.length := by omega
    have hlt2 : i < ys.length := by omega
    simp only [spec_AddCoordinates.l0]
    rw [if_pos (by omega), if_pos (by omega), l1In_eq, l1In_eq, Option.bind_some, Option.bind_some, rd_nat xs i hlt, rd_nat ys i hlt2, List.drop_eq_getElem_cons hlt, List.drop_eq_getElem_cons hlt2, addL, List.all_cons, List.all_cons, List.all_cons]
    by_cases h : 0 ≤ xs[i] ∧ xs[i] ≤ 200
    · have hc : co xs[i] = true := decide_eq_true h
      rw [if_pos (decide_eq_true h), if_pos (by omega), hc, Bool.true_and]
      by_cases h2 : 0 ≤ ys[i] ∧ ys[i] ≤ 200
      · have hc2 : co ys[i] = true := decide_eq_true h2
        rw [if_pos (decide_eq_true h2), hc2, Bool.true_and, w_id (a := xs[i] + ys[i]) (by omega) (by omega)]
        by_cases h3 : xs[i] + ys[i] > 200
        · have hc3 : co (xs[i] + ys[i]) = false := decide_eq_false (by omega)
          rw [if_pos h3, hc3, Bool.false_and, if_neg (fun h => absurd h.2.2 (by decide))]
        · have hc3 : co (xs[i] + ys[i]) = true := decide_eq_true (by omega)
          rw [if_neg h3, if_pos (by omega), hc3, Bool.true_and, w_id (by omega) (by omega), show ((i : Int) + 1) = ((i + 1 : Nat) : Int) by omega, ih k (i + 1) _ (by omega) (by omega) (by simp; omega), List.append_assoc]
          rfl
      · have hc2 : co ys[i] = false := decide_eq_false h2
        rw [if_neg (by simpa using h2), hc2, Bool.false_and, if_neg (fun h => absurd h.2.1 (by decide))]
    · have hc : co xs[i] = false := decide_eq_false h
      rw [if_neg (by simpa using h), hc, Bool.false_and, if_neg (fun h => absurd h.1 (by decide))]
theorem impl_add_l0 (xs ys : List Int) (hx : xs.length ≤ 1048576) (hl : ys.length = xs.length) (cx : xs.all co = true) (cy : ys.all co = true) : ∀ (d k i : Nat) (o : List Int), i + d = xs.length → d + 1048577 < k → o.length = i →
    impl_AddCoordinates.l0 k xs ys o (xs.length : Int) (i : Int) = some (if (o ++ addL (xs.drop i) (ys.drop i)).all co = true then (o ++ addL (xs.drop i) (ys.drop i), true) else ([], false)) := by
  intro d
  induction d with
  | zero =>
    intro k i o hi hk ho
    obtain ⟨k, rfl⟩ : ∃ m, k = m + 1 := ⟨k - 1, by omega⟩
    simp only [impl_AddCoordinates.l0]
    rw [if_neg (by omega), List.drop_of_length_le (by omega), List.drop_of_length_le (by omega), areCo o (by omega) k (by omega), Option.bind_some]
    simp only [addL, List.append_nil]
    split <;> rfl
  | succ d ih =>
    intro k i o hi hk ho
    obtain ⟨k, rfl⟩ : ∃ m, k = m + 1 := ⟨k - 1, by omega⟩
    have hlt : i < xs.length := by omega
    have hlt2 : i < ys.length := by omega
    have b1 := all_co cx xs[i] (List.getElem_mem hlt)
    have b2 := all_co cy ys[i] (List.getElem_mem hlt2)
    simp only [impl_AddCoordinates.l0]
    rw [if_pos (by omega), if_pos (by omega), if_pos (by omega), if_pos (by omega), if_pos (by omega), rd_nat xs i hlt, rd_nat ys i hlt2, w_id (a := xs[i] + ys[i]) (by omega) (by omega), w_id (by omega) (by omega), show ((i : Int) + 1) = ((i + 1 : Nat) : Int) by omega, ih k (i + 1) _ (by omega) (by omega) (by simp; omega), List.append_assoc, List.drop_eq_getElem_cons hlt, List.drop_eq_getElem_cons hlt2, addL]
    rfl
def addR (xs ys : List Int) : List Int × Bool := if xs.length = ys.length ∧ xs.all co = true ∧ ys.all co = true ∧ (addL xs ys).all co = true then (addL xs ys, true) else ([], false)
theorem addR_len (xs ys : List Int) : (addR xs ys).1.length ≤ xs.length := by
  unfold addR
  split
  · exact addL_len _ _
  · simp
theorem spec_add (xs ys : List Int) (hx : xs.length ≤ 1048576) (k : Nat) (hk : 1048576 < k) : spec_AddCoordinates.f k xs ys = some (addR xs ys) := by
  unfold spec_AddCoordinates.f addR
  by_cases h : xs.length = ys.length
  · rw [if_pos (by omega)]
    have := spec_add_l0 xs ys hx (by omega) xs.length k 0 [] (by omega) (by omega) (by simp)
    rw [List.drop_zero, List.drop_zero, List.nil_append] at this
    refine this.trans ?_
    congr 1
    simp only [h, true_and]
  · rw [if_neg (by omega), if_neg (fun h' => h h'.1)]
theorem impl_add (xs ys : List Int) (hx : xs.length ≤ 1048576) (k : Nat) (hk : 2097160 < k) : impl_AddCoordinates.f k xs ys = some (addR xs ys) := by
  obtain ⟨k, rfl⟩ : ∃ m, k = m + 1 := ⟨k - 1, by omega⟩
  unfold impl_AddCoordinates.f addR
  simp only [impl_AddCoordinates.j0, if_true]
  by_cases h : xs.length = ys.length
  · rw [if_pos (show (xs.length : Int) = ys.length by omega), areCo xs (by omega) _ (by omega), areCo ys (by omega) _ (by omega), Option.bind_some, Option.bind_some]
    by_cases h1 : xs.all co = true
    · rw [if_pos h1]
      by_cases h2 : ys.all co = true
      · rw [h2, if_neg (by decide)]
        have := impl_add_l0 xs ys hx (by omega) h1 h2 xs.length k 0 [] (by omega) (by omega) (by simp)
        rw [List.drop_zero, List.drop_zero, List.nil_append] at this
        refine this.trans ?_
        simp only [h, h1, true_and]
      · rw [if_pos (by simpa using h2), if_neg (fun h => h2 h.2.2.1)]
    · rw [if_neg h1, if_neg (fun h => h1 h.2.1)]
  · rw [if_neg (show ¬ (xs.length : Int) = ys.length by omega), if_neg (fun h' => h h'.1)]
end Go.Proofs.Ytcligopbieaceaa.L
