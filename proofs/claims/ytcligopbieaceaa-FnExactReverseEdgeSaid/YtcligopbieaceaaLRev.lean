/- What ReverseEdge computes in the program and in the reference; no condition but the number of rounds and the lengths. -/
import Derived.Test.YtcligopbieaceaaPx35
import Derived.Test.YtcligopbieaceaaPx36
import Derived.Test.YtcligopbieaceaaLCopy
import Derived.Test.YtcligopbieaceaaLSide
import Derived.Test.YtcligopbieaceaaLAbs
import Derived.Test.YtcligopbieaceaaLMarkSS
namespace Go.Proofs.Ytcligopbieaceaa.L
open Go.RowKit Go.Proofs.Ytcligopbieaceaa.P Go.Proofs.Ytcligopbieaceaa.Help Go.Proofs.YtcligopbieaceaaW.PrintWords
set_option linter.unusedVariables false
set_option linter.unusedSimpArgs false

def neg (e x : Int) : Int := if (x.natAbs : Int) = e then -x else x
theorem set_take {α : Type} (xs : List α) (i : Nat) (h : i < xs.length) (v : α) (ys : List α) : ((xs.take i ++ v :: ys).length = xs.length → True) := fun _ => trivial
theorem impl_rev_l1 (x0 : List (List Int)) (hx : x0.length ≤ 1000) (e : Int) (i : Nat) : ∀ (d j k : Nat) (row : List Int), j + d = row.length → d < k → row.length ≤ 1000 → (∀ x ∈ row.drop j, -9 ≤ x ∧ x ≤ 9) →
    impl_ReverseEdge.l1 k x0 row e (i : Int) (j : Int) = impl_ReverseEdge.l0 (k - d - 1) (x0.set i (row.take j ++ (row.drop j).map (neg e))) e (wrap64 ((i : Int) + 1)) := by
  intro d
  induction d with
  | zero =>
    intro j k row hj hk hl hb
    obtain ⟨k, rfl⟩ : ∃ m, k = m + 1 := ⟨k - 1, by omega⟩
    simp only [impl_ReverseEdge.l1]
    rw [if_neg (by omega), List.drop_of_length_le (by omega), List.take_of_length_le (by omega)]
    simp
  | succ d ih =>
    intro j k row hj hk hl hb
    obtain ⟨k, rfl⟩ : ∃ m, k = m + 1 := ⟨k - 1, by omega⟩
    have hlt : j < row.length := by omega
    rw [List.drop_eq_getElem_cons hlt] at hb
    have hx := hb row[j] List.mem_cons_self
    simp only [impl_ReverseEdge.l1]
    rw [if_pos (by omega), if_pos (by omega), rd_nat row j hlt, size_eq (by omega) (by omega), Option.bind_some, w_id (a := (j : Int) + 1) (by omega) (by omega), show ((j : Int) + 1) = ((j + 1 : Nat) : Int) by omega, w_id (a := -row[j]) (by omega) (by omega), Int.toNat_natCast, List.drop_eq_getElem_cons hlt, List.map_cons, show k + 1 - (d + 1) - 1 = k - d - 1 by omega]
    have hd : (row.set j (-row[j])).drop (j + 1) = row.drop (j + 1) := by rw [List.drop_set_of_lt (by omega)]
    by_cases h : (row[j].natAbs : Int) = e
    · rw [if_pos h, ih (j + 1) k _ (by rw [List.length_set]; omega) (by omega) (by rw [List.length_set]; omega) (by rw [hd]; exact fun x hx => hb x (List.mem_cons_of_mem _ hx)), hd, List.take_succ_eq_append_getElem (by rw [List.length_set]; omega), List.getElem_set_self, List.take_set_of_le (by omega), List.append_assoc]
      unfold neg
      rw [if_pos h]
      rfl
    · rw [if_neg h, ih (j + 1) k _ (by omega) (by omega) hl (fun x hx => hb x (List.mem_cons_of_mem _ hx)), List.take_succ_eq_append_getElem hlt, List.append_assoc]
      unfold neg
      rw [if_neg h]
      rfl
theorem impl_rev_l0 (e : Int) : ∀ (d i k : Nat) (x0 : List (List Int)), i + d = x0.length → 5 * d < k → x0.length ≤ 1000 → (∀ r ∈ x0.drop i, r.length = 3 ∧ ∀ x ∈ r, -9 ≤ x ∧ x ≤ 9) →
    impl_ReverseEdge.l0 k x0 e (i : Int) = some (x0.take i ++ (x0.drop i).map (List.map (neg e)), true) := by
  intro d
  induction d with
  | zero =>
    intro i k x0 hi hk hl hb
    obtain ⟨k, rfl⟩ : ∃ m, k = m + 1 := ⟨k - 1, by omega⟩
    simp only [impl_ReverseEdge.l0]
    rw [if_neg (by omega), List.drop_of_length_le (by omega), List.take_of_length_le (by omega)]
    simp
  | succ d ih =>
    intro i k x0 hi hk hl hb
    obtain ⟨k, rfl⟩ : ∃ m, k = m + 1 := ⟨k - 1, by omega⟩
    have hlt : i < x0.length := by omega
    rw [List.drop_eq_getElem_cons hlt] at hb
    have hr := hb x0[i] List.mem_cons_self
    simp only [impl_ReverseEdge.l0]
    have h1 := impl_rev_l1 x0 hl e i 3 0 k x0[i] (by omega) (by omega) (by omega) (by rw [List.drop_zero]; exact hr.2)
    rw [List.drop_zero, List.take_zero, List.nil_append, show ((0 : Nat) : Int) = 0 from rfl] at h1
    have hd : (x0.set i (x0[i].map (neg e))).drop (i + 1) = x0.drop (i + 1) := by rw [List.drop_set_of_lt (by omega)]
    rw [if_pos (by omega), if_pos (by omega), rdL_nat x0 i hlt, h1, w_id (by omega) (by omega), show ((i : Int) + 1) = ((i + 1 : Nat) : Int) by omega, ih (i + 1) _ _ (by rw [List.length_set]; omega) (by omega) (by rw [List.length_set]; exact hl) (by rw [hd]; exact fun r hm => hb r (List.mem_cons_of_mem _ hm)), hd, List.take_succ_eq_append_getElem (by rw [List.length_set]; omega), List.getElem_set_self, List.take_set_of_le (by omega), List.append_assoc, List.drop_eq_getElem_cons hlt, List.map_cons]
    rfl
theorem spec_rev_l1 (t : List (List Int)) (ht : t.length ≤ 1000) (e : Int) (i : Nat) (hi : i < t.length) (h3 : t[i].length = 3) (hb : ∀ x ∈ t[i], -9 ≤ x ∧ x ≤ 9) : ∀ (d j k : Nat) (out : List (List Int)) (P : List Int), j + d = 3 → d < k → (ho : out.length = t.length) → P.length = j → out[i]'(by omega) = P ++ t[i].drop j →
    spec_ReverseEdge.l1 k t e out (i : Int) (j : Int) = spec_ReverseEdge.l0 (k - d - 1) t e (out.set i (P ++ (t[i].drop j).map (neg e))) (wrap64 ((i : Int) + 1)) := by
  intro d
  induction d with
  | zero =>
    intro j k out P hj hk ho hP hout
    obtain ⟨k, rfl⟩ : ∃ m, k = m + 1 := ⟨k - 1, by omega⟩
    simp only [spec_ReverseEdge.l1]
    rw [List.drop_of_length_le (by omega)] at hout ⊢
    rw [if_neg (by omega), List.map_nil, ← hout, List.set_getElem_self]
    rfl
  | succ d ih =>
    intro j k out P hj hk ho hP hout
    obtain ⟨k, rfl⟩ : ∃ m, k = m + 1 := ⟨k - 1, by omega⟩
    have hlt : j < t[i].length := by omega
    have hx := hb t[i][j] (List.getElem_mem hlt)
    rw [List.drop_eq_getElem_cons hlt] at hout ⊢
    have hol : (out[i]'(by omega)).length = 3 := by rw [hout, List.length_append, List.length_cons, List.length_drop]; omega
    simp only [spec_ReverseEdge.l1]
    rw [if_pos (by omega), if_pos (by omega), if_pos (by omega), if_pos (by omega), rdL_nat t i hi, if_pos (by omega), rd_nat _ j hlt, l3Abs_eq (by omega) (by omega), Option.bind_some, rdL_nat out i (by omega), w_id (a := (j : Int) + 1) (by omega) (by omega), show ((j : Int) + 1) = ((j + 1 : Nat) : Int) by omega, w_id (a := -t[i][j]) (by omega) (by omega), List.map_cons, show k + 1 - (d + 1) - 1 = k - d - 1 by omega]
    by_cases h : (t[i][j].natAbs : Int) = e
    · have hs : (out[i]'(by omega)).set j (-t[i][j]) = P ++ [-t[i][j]] ++ t[i].drop (j + 1) := by
        rw [hout, List.set_append_right _ _ (by omega), hP, Nat.sub_self, List.set_cons_zero, List.append_assoc]
        rfl
      rw [if_pos h, if_pos (by omega), if_pos (by omega), Int.toNat_natCast, Int.toNat_natCast, ih (j + 1) k _ (P ++ [-t[i][j]]) (by omega) (by omega) (by rw [List.length_set]; exact ho) (by rw [List.length_append]; simp; omega) (by rw [List.getElem_set_self]; exact hs), List.set_set, List.append_assoc]
      unfold neg
      rw [if_pos h]
      rfl
    · rw [if_neg h, ih (j + 1) k out (P ++ [t[i][j]]) (by omega) (by omega) ho (by rw [List.length_append]; simp; omega) (by rw [hout, List.append_assoc]; rfl), List.append_assoc]
      unfold neg
      rw [if_neg h]
      rfl
theorem spec_rev_l0 (t : List (List Int)) (ht : t.length ≤ 1000) (e : Int) (hb : ∀ r ∈ t, r.length = 3 ∧ ∀ x ∈ r, -9 ≤ x ∧ x ≤ 9) : ∀ (d i k : Nat) (out : List (List Int)), i + d = t.length → 5 * d < k → out.length = t.length → out.drop i = t.drop i →
    spec_ReverseEdge.l0 k t e out (i : Int) = some (out.take i ++ (t.drop i).map (List.map (neg e)), true) := by
  intro d
  induction d with
  | zero =>
    intro i k out hi hk ho hd
    obtain ⟨k, rfl⟩ : ∃ m, k = m + 1 := ⟨k - 1, by omega⟩
    simp only [spec_ReverseEdge.l0]
    rw [if_neg (by omega), List.drop_of_length_le (by omega), List.take_of_length_le (by omega)]
    simp
  | succ d ih =>
    intro i k out hi hk ho hd
    obtain ⟨k, rfl⟩ : ∃ m, k = m + 1 := ⟨k - 1, by omega⟩
    have hlt : i < t.length := by omega
    have hr := hb _ (List.getElem_mem hlt)
    rw [List.drop_eq_getElem_cons hlt, List.drop_eq_getElem_cons (by omega)] at hd
    injection hd with hd1 hd2
    simp only [spec_ReverseEdge.l0]
    have h1 := spec_rev_l1 t ht e i hlt hr.1 hr.2 3 0 k out [] (by omega) (by omega) ho rfl (by rw [List.drop_zero, List.nil_append]; exact hd1)
    rw [List.drop_zero, List.nil_append, show ((0 : Nat) : Int) = 0 from rfl] at h1
    have hdd : (out.set i (t[i].map (neg e))).drop (i + 1) = out.drop (i + 1) := by rw [List.drop_set_of_lt (by omega)]
    rw [if_pos (by omega), h1, w_id (by omega) (by omega), show ((i : Int) + 1) = ((i + 1 : Nat) : Int) by omega, ih (i + 1) _ _ (by omega) (by omega) (by rw [List.length_set]; exact ho) (by rw [hdd]; exact hd2), List.take_succ_eq_append_getElem (by rw [List.length_set]; omega), List.getElem_set_self, List.take_set_of_le (by omega), List.append_assoc, List.drop_eq_getElem_cons hlt, List.map_cons]
    rfl
/-- The triangulation with an edge and its inverse exchanged. -/
def revR (t : List (List Int)) (e : Int) : List (List Int) × Bool := if isE t e = true then (t.map (List.map (neg e)), true) else ([], false)
theorem tri_rows {t : List (List Int)} {n : Int} (ok : TriOk t n) : ∀ r ∈ t, r.length = 3 ∧ ∀ x ∈ r, -9 ≤ x ∧ x ≤ 9 := fun r hr => ⟨ok.row r hr, fun x hx => by
  have := ok.inr x (List.mem_flatten.2 ⟨r, hr, hx⟩)
  have := ok.n9
  omega⟩
theorem spec_rev (t : List (List Int)) (ht : t.length ≤ 1048576) (hr : ∀ r ∈ t, r.length ≤ 1048576) (e : Int) (k : Nat) (hk : 6000000 < k) : spec_ReverseEdge.f k t e = some (revR t e) := by
  unfold spec_ReverseEdge.f revR
  rw [spec_isE t ht e k hk, Option.bind_some]
  by_cases h : isE t e = true
  · obtain ⟨ok, _⟩ := isE_bd ht h
    have hs := ok.short
    have := spec_rev_l0 t (by omega) e (tri_rows ok) t.length 0 k t (by omega) (by omega) rfl rfl
    rw [List.drop_zero, List.take_zero, List.nil_append] at this
    rw [if_pos h, if_pos h, l5Copy_f t ht hr k (by omega), Option.bind_some]
    exact this
  · rw [if_neg h, if_neg h]
theorem impl_rev (t : List (List Int)) (ht : t.length ≤ 1048576) (hr : ∀ r ∈ t, r.length ≤ 1048576) (e : Int) (k : Nat) (hk : 6000000 < k) : impl_ReverseEdge.f k t e = some (revR t e) := by
  unfold impl_ReverseEdge.f revR
  rw [impl_isT t ht k hk, Option.bind_some]
  by_cases h : isT t = true
  · rw [if_pos h, within_eq, Option.bind_some, show wrap64 (Int.tdiv (wrap64 (3 * (t.length : Int))) 2) = edges t from rfl]
    by_cases h2 : 1 ≤ e ∧ e ≤ edges t
    · have he : isE t e = true := by unfold isE; rw [h, decide_eq_true h2]; rfl
      have ok := isT_ok ht h
      have hs := ok.short
      have := impl_rev_l0 e t.length 0 k t (by omega) (by omega) (by omega) (by rw [List.drop_zero]; exact tri_rows ok)
      rw [List.drop_zero, List.take_zero, List.nil_append] at this
      rw [if_pos (decide_eq_true h2), if_pos he, copyRows_f t ht hr k (by omega), Option.bind_some]
      exact this
    · have he : ¬ isE t e = true := by unfold isE; rw [decide_eq_false h2, Bool.and_false]; decide
      rw [if_neg (by rw [decide_eq_false h2]; decide), if_neg he]
  · have he : ¬ isE t e = true := by unfold isE; rw [Bool.eq_false_iff.mpr h, Bool.false_and]; decide
    rw [if_neg h, if_neg he]
theorem revR_bd (t : List (List Int)) (ht : t.length ≤ 1048576) (e : Int) : (revR t e).1.length ≤ 1048576 ∧ (∀ r ∈ (revR t e).1, r.length ≤ 1048576) ∧ tot (revR t e).1 ≤ 2000000 := by
  unfold revR
  by_cases h : isE t e = true
  · obtain ⟨ok, _⟩ := isE_bd ht h
    have hs := ok.short
    rw [if_pos h]
    have h3 : ∀ r ∈ t.map (List.map (neg e)), r.length = 3 := fun r hr => by
      obtain ⟨q, hq, rfl⟩ := List.mem_map.1 hr
      rw [List.length_map]
      exact ok.row q hq
    have ht3 : ∀ (o : List (List Int)), (∀ r ∈ o, r.length = 3) → tot o = 3 * o.length := by
      intro o
      induction o with
      | nil => intro _; rfl
      | cons r rs ih => intro h; rw [tot, h r List.mem_cons_self, ih (fun x hx => h x (List.mem_cons_of_mem _ hx)), List.length_cons]; omega
    have := ht3 _ h3
    have hl : (t.map (List.map (neg e))).length = t.length := List.length_map ..
    exact ⟨by show (t.map (List.map (neg e))).length ≤ _; omega, fun r hr => by have := h3 r hr; omega, by show tot (t.map (List.map (neg e))) ≤ _; omega⟩
  · rw [if_neg h]
    simp [tot]
end Go.Proofs.Ytcligopbieaceaa.L
