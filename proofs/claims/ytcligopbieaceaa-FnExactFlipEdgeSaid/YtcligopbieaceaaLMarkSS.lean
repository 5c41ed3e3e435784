/- What the statements' own marking of slices of slices of whole numbers writes and finds again; no condition but the number of rounds and the lengths. -/
import Derived.Test.YtcligopbieaceaaPx9
import Derived.Test.YtcligopbieaceaaLMark
import Derived.Test.YtcligopbieaceaaLSS
namespace Go.Proofs.Ytcligopbieaceaa.L
open Go.RowKit Go.Proofs.Ytcligopbieaceaa.P Go.Proofs.Ytcligopbieaceaa.Help Go.Proofs.YtcligopbieaceaaW.PrintWords
set_option linter.unusedVariables false
set_option linter.unusedSimpArgs false

def markLL : List Nat → Int → List (List Int)
  | [], _ => []
  | n :: ns, j => markL n j :: markLL ns (j + n)
def totN : List Nat → Nat
  | [] => 0
  | n :: ns => n + totN ns
theorem markLL_len : ∀ (ns : List Nat) (j : Int), (markLL ns j).length = ns.length
  | [], _ => rfl
  | n :: ns, j => by rw [markLL, List.length_cons, List.length_cons, markLL_len ns]
theorem tot_map : ∀ (xs : List (List Int)), totN (xs.map List.length) = tot xs
  | [] => rfl
  | r :: rs => by rw [List.map_cons, totN, tot, tot_map rs]
theorem markIntSS_l0 : ∀ (d k i : Nat) (xs : List (List Int)) (j : Int), i + d = xs.length → d + 1048577 < k → xs.length ≤ 1048600 → (∀ r ∈ xs, r.length ≤ 1048576) → 0 ≤ j → j + tot (xs.drop i) ≤ 100000000 →
    laws_markIntSS.l0 k xs j (i : Int) = some (j + tot (xs.drop i), xs.take i ++ markLL ((xs.drop i).map List.length) j) := by
  intro d
  induction d with
  | zero =>
    intro k i xs j hi hk hx hr h0 h1
    obtain ⟨k, rfl⟩ : ∃ m, k = m + 1 := ⟨k - 1, by omega⟩
    simp only [laws_markIntSS.l0]
    rw [if_neg (by omega), List.drop_of_length_le (by omega), List.take_of_length_le (by omega)]
    simp [tot, markLL]
  | succ d ih =>
    intro k i xs j hi hk hx hr h0 h1
    obtain ⟨k, rfl⟩ : ∃ m, k = m + 1 := ⟨k - 1, by omega⟩
    have hlt : i < xs.length := by omega
    have hl := hr _ (List.getElem_mem hlt)
    rw [List.drop_eq_getElem_cons hlt, tot] at h1
    simp only [laws_markIntSS.l0]
    rw [if_pos (by omega), if_pos (by omega), rdL_nat xs i hlt, markIntS_f _ hl j (by omega) k (by omega), Option.bind_some, w_id (by omega) (by omega), show ((i : Int) + 1) = ((i + 1 : Nat) : Int) by omega, Int.toNat_natCast]
    have hd : (xs.set i (markL xs[i].length j)).drop (i + 1) = xs.drop (i + 1) := by rw [List.drop_set_of_lt (by omega)]
    rw [ih k (i + 1) _ _ (by rw [List.length_set]; omega) (by omega) (by rw [List.length_set]; exact hx) (fun r hm => by
      rcases List.mem_or_eq_of_mem_set hm with h | h
      · exact hr r h
      · rw [h, markL_len]; exact hl) (by omega) (by rw [hd]; omega), hd, List.drop_eq_getElem_cons hlt, tot, List.map_cons, markLL, List.take_succ_eq_append_getElem (by rw [List.length_set]; omega), List.getElem_set_self, List.take_set_of_le (by omega), List.append_assoc]
    congr 2
    · omega
theorem markIntSS_f (xs : List (List Int)) (hx : xs.length ≤ 1048600) (hr : ∀ r ∈ xs, r.length ≤ 1048576) (ht : tot xs ≤ 2000000) (k : Nat) (hk : 3000000 < k) : laws_markIntSS.f k xs 1 = some (1 + (tot xs : Int), markLL (xs.map List.length) 1) := by
  unfold laws_markIntSS.f
  have := markIntSS_l0 xs.length k 0 xs 1 (by omega) (by omega) hx hr (by omega) (by rw [List.drop_zero]; omega)
  rw [List.drop_zero, List.take_zero, List.nil_append] at this
  exact this
theorem markLL_drop : ∀ (ns : List Nat) (j : Int) (i : Nat), (markLL ns j).drop i = markLL (ns.drop i) (j + totN (ns.take i))
  | ns, j, 0 => by simp [totN]
  | [], j, i + 1 => by simp [markLL]
  | n :: ns, j, i + 1 => by
    rw [markLL, List.drop_succ_cons, List.drop_succ_cons, List.take_succ_cons, totN, markLL_drop ns (j + n) i]
    congr 1
    omega
theorem heldIntSS_l0 : ∀ (d k i : Nat) (ys : List (List Int)) (ns : List Nat) (j : Int), i + d = ys.length → d + 1048577 < k → ys.length ≤ 1048600 → (∀ n ∈ ns, n ≤ 1048576) → 0 ≤ j → j + totN ns ≤ 100000000 → ys.drop i = markLL ns j →
    laws_heldIntSS.l0 k ys j (i : Int) = some (j + totN ns) := by
  intro d
  induction d with
  | zero =>
    intro k i ys ns j hi hk hx hr h0 h1 he
    obtain ⟨k, rfl⟩ : ∃ m, k = m + 1 := ⟨k - 1, by omega⟩
    simp only [laws_heldIntSS.l0]
    rw [if_neg (by omega)]
    rw [List.drop_of_length_le (by omega)] at he
    cases ns with
    | nil => simp [totN]
    | cons n ns => rw [markLL] at he; exact absurd he (by simp)
  | succ d ih =>
    intro k i ys ns j hi hk hx hr h0 h1 he
    obtain ⟨k, rfl⟩ : ∃ m, k = m + 1 := ⟨k - 1, by omega⟩
    have hlt : i < ys.length := by omega
    rw [List.drop_eq_getElem_cons hlt] at he
    cases ns with
    | nil => exact absurd he (List.cons_ne_nil _ _)
    | cons n ns =>
      rw [markLL] at he
      injection he with e1 e2
      have hn := hr n List.mem_cons_self
      rw [totN] at h1
      simp only [laws_heldIntSS.l0]
      rw [if_pos (by omega), if_pos (by omega), rdL_nat ys i hlt, e1, heldIntS_f n hn j (by omega) k (by omega), Option.bind_some, if_neg (by omega), w_id (by omega) (by omega), show ((i : Int) + 1) = ((i + 1 : Nat) : Int) by omega, ih k (i + 1) ys ns (j + n) (by omega) (by omega) hx (fun m hm => hr m (List.mem_cons_of_mem _ hm)) (by omega) (by omega) e2, totN]
      congr 1
      omega
theorem heldIntSS_f (xs : List (List Int)) (hx : xs.length ≤ 1048600) (hr : ∀ r ∈ xs, r.length ≤ 1048576) (ht : tot xs ≤ 2000000) (k : Nat) (hk : 3000000 < k) : laws_heldIntSS.f k (markLL (xs.map List.length) 1) 1 = some (1 + (tot xs : Int)) := by
  unfold laws_heldIntSS.f
  have := heldIntSS_l0 xs.length k 0 (markLL (xs.map List.length) 1) (xs.map List.length) 1 (by rw [markLL_len, List.length_map]; omega) (by omega) (by rw [markLL_len, List.length_map]; exact hx) (fun n hn => by
    obtain ⟨r, hm, rfl⟩ := List.mem_map.1 hn
    exact hr r hm) (by omega) (by rw [tot_map]; omega) (by rw [List.drop_zero])
  rw [tot_map] at this
  exact this
end Go.Proofs.Ytcligopbieaceaa.L
