/- What ParseTri computes in the program and in the reference; no condition but the number of rounds and the text's length. -/
import Derived.Test.YtcligopbieaceaaPx29
import Derived.Test.YtcligopbieaceaaPx30
import Derived.Test.YtcligopbieaceaaPx31
import Derived.Test.YtcligopbieaceaaPx32
import Derived.Test.YtcligopbieaceaaLTriOk
import Derived.Test.YtcligopbieaceaaLMarkSS
namespace Go.Proofs.Ytcligopbieaceaa.L
open Go.RowKit Go.Proofs.Ytcligopbieaceaa.P Go.Proofs.Ytcligopbieaceaa.Help Go.Proofs.YtcligopbieaceaaW.PrintWords
set_option linter.unusedVariables false
set_option linter.unusedSimpArgs false

/-- The parts of a text between the bytes b, from a place on. -/
def partsR (x : ByteArray) (b : Int) : Nat → Nat → Nat → List ByteArray
  | 0, a, _ => [x.extract a x.size]
  | d + 1, a, i => if bt x (i : Int) = b then x.extract a i :: partsR x b d (i + 1) (i + 1) else partsR x b d a (i + 1)
theorem parts_len (x : ByteArray) (b : Int) : ∀ (d a i : Nat), (partsR x b d a i).length ≤ d + 1
  | 0, _, _ => by simp [partsR]
  | d + 1, a, i => by
    rw [partsR]
    split
    · have := parts_len x b d (i + 1) (i + 1); rw [List.length_cons]; omega
    · have := parts_len x b d a (i + 1); omega
/-- The lengths, one more each. -/
def sizes : List ByteArray → Nat
  | [] => 0
  | p :: ps => p.size + 1 + sizes ps
theorem parts_sizes (x : ByteArray) (b : Int) : ∀ (d a i : Nat), i + d = x.size → a ≤ i → sizes (partsR x b d a i) = x.size - a + 1
  | 0, a, i, h, ha => by
    rw [partsR, sizes, sizes, ByteArray.size_extract]
    omega
  | d + 1, a, i, h, ha => by
    rw [partsR]
    split
    · rw [sizes, ByteArray.size_extract, parts_sizes x b d (i + 1) (i + 1) (by omega) (by omega)]
      omega
    · exact parts_sizes x b d a (i + 1) (by omega) (by omega)
theorem spec_split_l0 (x : ByteArray) (hx : x.size ≤ 1048576) (b : Int) : ∀ (d k a i : Nat) (out : List ByteArray), i + d = x.size → d + 3 < k → a ≤ i → out.length ≤ i → spec_SplitByte.l0 k x b out (a : Int) (i : Int) = some (out ++ partsR x b d a i) := by
  intro d
  induction d with
  | zero =>
    intro k a i out hi hk ha ho
    obtain ⟨k, rfl⟩ : ∃ m, k = m + 2 := ⟨k - 2, by omega⟩
    rw [show k + 2 = (k + 1) + 1 from rfl]
    simp only [spec_SplitByte.l0]
    rw [if_pos (by omega), if_pos (by omega), if_pos (by omega), if_pos (by omega), if_pos (by omega), w_id (a := (i : Int) + 1) (by omega) (by omega), if_neg (by omega), Int.toNat_natCast, Int.toNat_natCast, partsR, show i = x.size by omega]
  | succ d ih =>
    intro k a i out hi hk ha ho
    obtain ⟨k, rfl⟩ : ∃ m, k = m + 1 := ⟨k - 1, by omega⟩
    simp only [spec_SplitByte.l0]
    rw [if_pos (by omega), if_neg (by omega), if_pos (by omega), if_pos (by omega), partsR]
    by_cases h : bt x (i : Int) = b
    · rw [if_pos h, if_pos h, if_pos (by omega), if_pos (by omega), if_pos (by omega), w_id (a := (i : Int) + 1) (by omega) (by omega), show ((i : Int) + 1) = ((i + 1 : Nat) : Int) by omega, ih k (i + 1) (i + 1) _ (by omega) (by omega) (by omega) (by rw [List.length_append]; simp; omega), List.append_assoc, Int.toNat_natCast, Int.toNat_natCast]
      rfl
    · rw [if_neg h, if_neg h, w_id (a := (i : Int) + 1) (by omega) (by omega), show ((i : Int) + 1) = ((i + 1 : Nat) : Int) by omega, ih k a (i + 1) _ (by omega) (by omega) (by omega) (by omega)]
theorem impl_split_l0 (x : ByteArray) (hx : x.size ≤ 1048576) (b : Int) : ∀ (d k a i : Nat) (out : List ByteArray), i + d = x.size → d + 3 < k → a ≤ i → out.length ≤ i → impl_SplitByte.l0 k x b out (a : Int) (x.size : Int) (i : Int) = some (out ++ partsR x b d a i) := by
  intro d
  induction d with
  | zero =>
    intro k a i out hi hk ha ho
    obtain ⟨k, rfl⟩ : ∃ m, k = m + 1 := ⟨k - 1, by omega⟩
    simp only [impl_SplitByte.l0]
    rw [if_neg (by omega), if_pos (by omega), if_pos (by omega), if_pos (by omega), Int.toNat_natCast, partsR]
  | succ d ih =>
    intro k a i out hi hk ha ho
    obtain ⟨k, rfl⟩ : ∃ m, k = m + 1 := ⟨k - 1, by omega⟩
    simp only [impl_SplitByte.l0]
    rw [if_pos (by omega), if_pos (by omega), if_pos (by omega), partsR]
    by_cases h : bt x (i : Int) = b
    · rw [if_pos h, if_pos h, if_pos (by omega), if_pos (by omega), if_pos (by omega), if_pos (by omega), w_id (a := (i : Int) + 1) (by omega) (by omega), show ((i : Int) + 1) = ((i + 1 : Nat) : Int) by omega, ih k (i + 1) (i + 1) _ (by omega) (by omega) (by omega) (by rw [List.length_append]; simp; omega), List.append_assoc, Int.toNat_natCast, Int.toNat_natCast]
      rfl
    · rw [if_neg h, if_neg h, w_id (a := (i : Int) + 1) (by omega) (by omega), show ((i : Int) + 1) = ((i + 1 : Nat) : Int) by omega, ih k a (i + 1) _ (by omega) (by omega) (by omega) (by omega)]
theorem spec_split (x : ByteArray) (hx : x.size ≤ 1048576) (b : Int) (k : Nat) (hk : 1048580 < k) : spec_SplitByte.f k x b = some (partsR x b x.size 0 0) := by
  unfold spec_SplitByte.f
  have := spec_split_l0 x hx b x.size k 0 0 [] (by omega) (by omega) (by omega) (by simp)
  rw [List.nil_append] at this
  exact this
theorem impl_split (x : ByteArray) (hx : x.size ≤ 1048576) (b : Int) (k : Nat) (hk : 1048580 < k) : impl_SplitByte.f k x b = some (partsR x b x.size 0 0) := by
  unfold impl_SplitByte.f
  have := impl_split_l0 x hx b x.size k 0 0 [] (by omega) (by omega) (by omega) (by simp)
  rw [List.nil_append] at this
  exact this
/-- A byte's letter. -/
def letP (b : Int) : Option Int := if 97 ≤ b ∧ b ≤ 105 then some (b - 96) else if 65 ≤ b ∧ b ≤ 73 then some (64 - b) else none
def bytesP (x : ByteArray) : Nat → Nat → Option (List Int)
  | 0, _ => some []
  | d + 1, j => match letP (bt x (j : Int)) with | none => none | some y => match bytesP x d (j + 1) with | none => none | some r => some (y :: r)
theorem bytesP_len (x : ByteArray) : ∀ (d j : Nat) (r : List Int), bytesP x d j = some r → r.length = d
  | 0, j, r, h => by have := Option.some.inj h; subst this; rfl
  | d + 1, j, r, h => by
    rw [bytesP] at h
    cases h1 : letP (bt x (j : Int)) with
    | none => rw [h1] at h; exact absurd h (by simp)
    | some y =>
      rw [h1] at h
      cases h2 : bytesP x d (j + 1) with
      | none => rw [h2] at h; exact absurd h (by simp)
      | some s =>
        rw [h2] at h
        have := Option.some.inj h
        subst this
        rw [List.length_cons, bytesP_len x d (j + 1) s h2]
def parseR : List ByteArray → List (List Int) → List (List Int) × Bool
  | [], out => if isT out = true then (out, true) else ([], false)
  | p :: ps, out => match bytesP p p.size 0 with | none => ([], false) | some r => parseR ps (out ++ [r])
theorem bt_bd (x : ByteArray) (i : Int) : 0 ≤ bt x i ∧ bt x i ≤ 255 := by
  unfold bt
  split
  · have := (x[i.toNat]).toNat_lt
    omega
  · omega
theorem part_at (ps : List ByteArray) (i : Nat) (h : i < ps.length) : rdOf ByteArray.empty ps (i : Int) = ps[i] := by
  unfold rdOf
  simp [List.getD_eq_getElem?_getD, List.getElem?_eq_getElem h]
theorem spec_parse_l1 (ps : List ByteArray) (i : Nat) (hi : i < ps.length) (hs : ps[i].size ≤ 1048576) (out : List (List Int)) (ho : out.length ≤ 1048600) : ∀ (d j k : Nat) (row : List Int), j + d = ps[i].size → 2 * d < k → row.length ≤ j →
    spec_ParseTri.l1 k out ps (i : Int) row (j : Int) = (match bytesP ps[i] d j with | none => some ([], false) | some r => spec_ParseTri.l0 (k - 2 * d - 1) (out ++ [row ++ r]) ps (wrap64 ((i : Int) + 1))) := by
  intro d
  induction d with
  | zero =>
    intro j k row hj hk hr
    obtain ⟨k, rfl⟩ : ∃ m, k = m + 1 := ⟨k - 1, by omega⟩
    simp only [spec_ParseTri.l1]
    rw [if_pos (by omega), if_pos (by omega), part_at ps i hi, if_neg (by omega), if_pos (by omega)]
    simp [bytesP]
  | succ d ih =>
    intro j k row hj hk hr
    obtain ⟨k, rfl⟩ : ∃ m, k = m + 2 := ⟨k - 2, by omega⟩
    have hb := bt_bd ps[i] (j : Int)
    rw [show k + 2 = (k + 1) + 1 from rfl]
    simp only [spec_ParseTri.l1]
    rw [if_pos (by omega), if_pos (by omega), part_at ps i hi, if_pos (by omega), if_pos (by omega), bytesP]
    simp only [spec_ParseTri.j2]
    generalize bt ps[i] (j : Int) = c at hb ⊢
    have hgo : ∀ y : Int, spec_ParseTri.l1 k out ps (i : Int) (row ++ [y]) (wrap64 ((j : Int) + 1)) = (match (match bytesP ps[i] d (j + 1) with | none => none | some r => some (y :: r)) with | none => some ([], false) | some r => spec_ParseTri.l0 (k + 1 + 1 - 2 * (d + 1) - 1) (out ++ [row ++ r]) ps (wrap64 ((i : Int) + 1))) := by
      intro y
      rw [w_id (a := (j : Int) + 1) (by omega) (by omega), show ((j : Int) + 1) = ((j + 1 : Nat) : Int) by omega, ih (j + 1) k _ (by omega) (by omega) (by rw [List.length_append]; simp; omega)]
      cases bytesP ps[i] d (j + 1) with
      | none => rfl
      | some r =>
        show spec_ParseTri.l0 _ _ _ _ = spec_ParseTri.l0 _ _ _ _
        rw [List.append_assoc, show k + 1 + 1 - 2 * (d + 1) - 1 = k - 2 * d - 1 by omega]
        rfl
    unfold letP
    by_cases h1 : 97 ≤ c
    · rw [if_pos h1]
      by_cases h2 : c ≤ 105
      · rw [if_pos (by simpa using h2), if_pos (show row.length < 17592186044416 by omega), if_pos (show 97 ≤ c ∧ c ≤ 105 from ⟨h1, h2⟩), w_id (a := c) (by omega) (by omega), w_id (a := c - 97) (by omega) (by omega), w_id (by omega) (by omega), hgo, show c - 97 + 1 = c - 96 by omega]
      · rw [if_neg (by simpa using h2), if_neg (show ¬ (97 ≤ c ∧ c ≤ 105) from fun h => h2 h.2), if_pos (show c ≥ 65 by omega), if_neg (by omega), if_neg (show ¬ (65 ≤ c ∧ c ≤ 73) by omega)]
    · rw [if_neg h1, if_neg (show ¬ (false = true) by decide), if_neg (show ¬ (97 ≤ c ∧ c ≤ 105) from fun h => h1 h.1)]
      by_cases h3 : 65 ≤ c
      · rw [if_pos h3]
        by_cases h4 : c ≤ 73
        · rw [if_pos h4, if_pos (show row.length < 17592186044416 by omega), if_pos (show 65 ≤ c ∧ c ≤ 73 from ⟨h3, h4⟩), w_id (a := c) (by omega) (by omega), w_id (a := c - 65) (by omega) (by omega), w_id (a := c - 65 + 1) (by omega) (by omega), w_id (by omega) (by omega), hgo, show -(c - 65 + 1) = 64 - c by omega]
        · rw [if_neg h4, if_neg (show ¬ (65 ≤ c ∧ c ≤ 73) from fun h => h4 h.2)]
      · rw [if_neg h3, if_neg (show ¬ (65 ≤ c ∧ c ≤ 73) from fun h => h3 h.1)]
theorem spec_parse_l0 (ps : List ByteArray) (hps : ∀ p ∈ ps, p.size ≤ 1048576) (hn : ps.length ≤ 1048590) : ∀ (d i k : Nat) (out : List (List Int)), i + d = ps.length → 2 * sizes (ps.drop i) + 6000002 < k → out.length ≤ i → spec_ParseTri.l0 k out ps (i : Int) = some (parseR (ps.drop i) out) := by
  intro d
  induction d with
  | zero =>
    intro i k out hi hk ho
    obtain ⟨k, rfl⟩ : ∃ m, k = m + 1 := ⟨k - 1, by omega⟩
    simp only [spec_ParseTri.l0]
    rw [if_neg (by omega), spec_isT' out (by omega) k (by omega), Option.bind_some, List.drop_of_length_le (by omega), parseR]
    split <;> rfl
  | succ d ih =>
    intro i k out hi hk ho
    obtain ⟨k, rfl⟩ : ∃ m, k = m + 1 := ⟨k - 1, by omega⟩
    have hlt : i < ps.length := by omega
    have hs := hps _ (List.getElem_mem hlt)
    rw [List.drop_eq_getElem_cons hlt, sizes] at hk
    have := spec_parse_l1 ps i hlt hs out (by omega) ps[i].size 0 k [] (by omega) (by omega) (by simp)
    simp only [spec_ParseTri.l0]
    rw [show ((0 : Nat) : Int) = 0 from rfl] at this
    rw [if_pos (by omega), this, List.drop_eq_getElem_cons hlt, parseR]
    cases bytesP ps[i] ps[i].size 0 with
    | none => rfl
    | some r =>
      show spec_ParseTri.l0 _ _ _ _ = some (parseR _ _)
      rw [List.nil_append, w_id (by omega) (by omega), show ((i : Int) + 1) = ((i + 1 : Nat) : Int) by omega, ih (i + 1) _ _ (by omega) (by omega) (by rw [List.length_append]; simp; omega)]
theorem impl_parse_l1 (ps : List ByteArray) (x : ByteArray) (hs : x.size ≤ 1048576) (m : Int) (i : Int) (out : List (List Int)) (ho : out.length ≤ 1048600) : ∀ (d j k : Nat) (row : List Int), j + d = x.size → 2 * d < k → row.length ≤ j →
    impl_ParseTri.l1 k out x row ps m i (x.size : Int) (j : Int) = (match bytesP x d j with | none => some ([], false) | some r => impl_ParseTri.l0 (k - 2 * d - 1) (out ++ [row ++ r]) ps m (wrap64 (i + 1))) := by
  intro d
  induction d with
  | zero =>
    intro j k row hj hk hr
    obtain ⟨k, rfl⟩ : ∃ m, k = m + 1 := ⟨k - 1, by omega⟩
    simp only [impl_ParseTri.l1]
    rw [if_neg (by omega), if_pos (by omega)]
    simp [bytesP]
  | succ d ih =>
    intro j k row hj hk hr
    obtain ⟨k, rfl⟩ : ∃ m, k = m + 2 := ⟨k - 2, by omega⟩
    have hb := bt_bd x (j : Int)
    rw [show k + 2 = (k + 1) + 1 from rfl]
    simp only [impl_ParseTri.l1]
    rw [if_pos (by omega), if_pos (by omega), if_pos (by omega), bytesP]
    simp only [impl_ParseTri.j2]
    generalize bt x (j : Int) = c at hb ⊢
    have hgo : ∀ y : Int, impl_ParseTri.l1 k out x (row ++ [y]) ps m i (x.size : Int) (wrap64 ((j : Int) + 1)) = (match (match bytesP x d (j + 1) with | none => none | some r => some (y :: r)) with | none => some ([], false) | some r => impl_ParseTri.l0 (k + 1 + 1 - 2 * (d + 1) - 1) (out ++ [row ++ r]) ps m (wrap64 (i + 1))) := by
      intro y
      rw [w_id (a := (j : Int) + 1) (by omega) (by omega), show ((j : Int) + 1) = ((j + 1 : Nat) : Int) by omega, ih (j + 1) k _ (by omega) (by omega) (by rw [List.length_append]; simp; omega)]
      cases bytesP x d (j + 1) with
      | none => rfl
      | some r =>
        show impl_ParseTri.l0 _ _ _ _ _ = impl_ParseTri.l0 _ _ _ _ _
        rw [List.append_assoc, show k + 1 + 1 - 2 * (d + 1) - 1 = k - 2 * d - 1 by omega]
        rfl
    unfold letP
    by_cases h1 : 97 ≤ c
    · rw [if_pos h1]
      by_cases h2 : c ≤ 105
      · rw [if_pos (by rw [decide_eq_true_iff]; omega), if_pos (show row.length < 17592186044416 by omega), if_pos (show 97 ≤ c ∧ c ≤ 105 from ⟨h1, h2⟩), hgo, show (c - 97) % 256 + 1 = c - 96 by omega]
      · rw [if_neg (by rw [decide_eq_true_iff]; omega), if_neg (show ¬ (97 ≤ c ∧ c ≤ 105) from fun h => h2 h.2), if_pos (show c ≥ 65 by omega), if_neg (by omega), if_neg (show ¬ (65 ≤ c ∧ c ≤ 73) by omega)]
    · rw [if_neg h1, if_neg (show ¬ (false = true) by decide), if_neg (show ¬ (97 ≤ c ∧ c ≤ 105) from fun h => h1 h.1)]
      by_cases h3 : 65 ≤ c
      · rw [if_pos h3]
        by_cases h4 : c ≤ 73
        · rw [if_pos (show c < 74 by omega), if_pos (show row.length < 17592186044416 by omega), if_pos (show 65 ≤ c ∧ c ≤ 73 from ⟨h3, h4⟩), hgo, show -((c - 65) % 256) - 1 = 64 - c by omega]
        · rw [if_neg (show ¬ (c < 74) by omega), if_neg (show ¬ (65 ≤ c ∧ c ≤ 73) from fun h => h4 h.2)]
      · rw [if_neg h3, if_neg (show ¬ (65 ≤ c ∧ c ≤ 73) from fun h => h3 h.1)]
theorem impl_parse_l0 (ps : List ByteArray) (hps : ∀ p ∈ ps, p.size ≤ 1048576) (hn : ps.length ≤ 1048590) : ∀ (d i k : Nat) (out : List (List Int)), i + d = ps.length → 2 * sizes (ps.drop i) + 6000002 < k → out.length ≤ i → impl_ParseTri.l0 k out ps (ps.length : Int) (i : Int) = some (parseR (ps.drop i) out) := by
  intro d
  induction d with
  | zero =>
    intro i k out hi hk ho
    obtain ⟨k, rfl⟩ : ∃ m, k = m + 1 := ⟨k - 1, by omega⟩
    simp only [impl_ParseTri.l0]
    rw [if_neg (by omega), impl_isT' out (by omega) k (by omega), Option.bind_some, List.drop_of_length_le (by omega), parseR]
    split <;> rfl
  | succ d ih =>
    intro i k out hi hk ho
    obtain ⟨k, rfl⟩ : ∃ m, k = m + 1 := ⟨k - 1, by omega⟩
    have hlt : i < ps.length := by omega
    have hs := hps _ (List.getElem_mem hlt)
    rw [List.drop_eq_getElem_cons hlt, sizes] at hk
    have := impl_parse_l1 ps ps[i] hs (ps.length : Int) (i : Int) out (by omega) ps[i].size 0 k [] (by omega) (by omega) (by simp)
    simp only [impl_ParseTri.l0]
    rw [show ((0 : Nat) : Int) = 0 from rfl] at this
    rw [if_pos (by omega), if_pos (by omega), if_pos (by omega), part_at ps i hlt, this, List.drop_eq_getElem_cons hlt, parseR]
    cases bytesP ps[i] ps[i].size 0 with
    | none => rfl
    | some r =>
      show impl_ParseTri.l0 _ _ _ _ _ = some (parseR _ _)
      rw [List.nil_append, w_id (by omega) (by omega), show ((i : Int) + 1) = ((i + 1 : Nat) : Int) by omega, ih (i + 1) _ _ (by omega) (by omega) (by rw [List.length_append]; simp; omega)]
theorem parse_true : ∀ (ps : List ByteArray) (out o : List (List Int)), parseR ps out = (o, true) → isT o = true ∧ o.length = out.length + ps.length ∧ tot o + o.length = tot out + out.length + sizes ps
  | [], out, o, h => by
    rw [parseR] at h
    by_cases c : isT out = true
    · rw [if_pos c] at h
      injection h with h _
      subst h
      exact ⟨c, rfl, rfl⟩
    · rw [if_neg c] at h
      injection h with _ h
      exact absurd h (by decide)
  | p :: ps, out, o, h => by
    rw [parseR] at h
    cases hb : bytesP p p.size 0 with
    | none => rw [hb] at h; injection h with _ h; exact absurd h (by decide)
    | some r =>
      rw [hb] at h
      obtain ⟨h1, h2, h3⟩ := parse_true ps (out ++ [r]) o h
      have hl := bytesP_len p _ _ r hb
      have ta : ∀ a : List (List Int), tot (a ++ [r]) = tot a + r.length := by
        intro a
        induction a with
        | nil => simp [tot]
        | cons x a ih => rw [List.cons_append, tot, tot, ih]; omega
      rw [ta, List.length_append, List.length_singleton] at h3
      rw [List.length_append, List.length_singleton] at h2
      rw [List.length_cons, sizes]
      exact ⟨h1, by omega, by omega⟩
theorem parse_false : ∀ (ps : List ByteArray) (out : List (List Int)), parseR ps out = ([], false) ∨ ∃ o, parseR ps out = (o, true)
  | [], out => by
    rw [parseR]
    split
    · exact .inr ⟨_, rfl⟩
    · exact .inl rfl
  | p :: ps, out => by
    rw [parseR]
    split
    · exact .inl rfl
    · exact parse_false ps _
/-- The triangulation with a text. -/
def parseT (x : ByteArray) : List (List Int) × Bool := parseR (partsR x 32 x.size 0 0) []
theorem tot_three : ∀ (o : List (List Int)), (∀ r ∈ o, r.length = 3) → tot o = 3 * o.length
  | [], _ => rfl
  | r :: rs, h => by
    rw [tot, h r List.mem_cons_self, tot_three rs (fun x hx => h x (List.mem_cons_of_mem _ hx)), List.length_cons]
    omega
theorem parseT_cases (x : ByteArray) (hx : x.size ≤ 1048576) : parseT x = ([], false) ∨ ∃ o, parseT x = (o, true) ∧ isT o = true ∧ o.length ≤ 6 ∧ (∀ r ∈ o, r.length = 3) ∧ x.size ≤ 36 := by
  unfold parseT
  rcases parse_false (partsR x 32 x.size 0 0) [] with h | ⟨o, h⟩
  · exact .inl h
  · obtain ⟨h1, h2, h3⟩ := parse_true _ _ _ h
    have hl := parts_len x 32 x.size 0 0
    have hs := parts_sizes x 32 x.size 0 0 (by omega) (by omega)
    rw [List.length_nil] at h2
    have ok := isT_ok' (t := o) (by omega) h1
    have hsh := ok.short
    have ht := tot_three o ok.row
    refine .inr ⟨o, h, h1, hsh.1, ok.row, ?_⟩
    rw [hs] at h3
    simp only [tot, List.length_nil] at h3
    omega
theorem part_size (x : ByteArray) (b : Int) : ∀ (d a i : Nat), ∀ p ∈ partsR x b d a i, p.size ≤ x.size
  | 0, a, i, p, hp => by
    rw [partsR, List.mem_singleton] at hp
    rw [hp, ByteArray.size_extract]
    omega
  | d + 1, a, i, p, hp => by
    rw [partsR] at hp
    split at hp
    · rcases List.mem_cons.1 hp with rfl | hp
      · rw [ByteArray.size_extract]; omega
      · exact part_size x b d _ _ p hp
    · exact part_size x b d _ _ p hp
theorem spec_parse (x : ByteArray) (hx : x.size ≤ 1048576) (k : Nat) (hk : 9000000 < k) : spec_ParseTri.f k x = some (parseT x) := by
  unfold spec_ParseTri.f parseT
  have hl := parts_len x 32 x.size 0 0
  have hs := parts_sizes x 32 x.size 0 0 (by omega) (by omega)
  rw [spec_split x hx 32 k (by omega), Option.bind_some]
  have := spec_parse_l0 (partsR x 32 x.size 0 0) (fun p hp => Nat.le_trans (part_size x 32 _ _ _ p hp) hx) (by omega) _ 0 k [] (Nat.zero_add _) (by rw [List.drop_zero, hs]; omega) (by simp)
  rw [List.drop_zero] at this
  exact this
theorem impl_parse (x : ByteArray) (hx : x.size ≤ 1048576) (k : Nat) (hk : 9000000 < k) : impl_ParseTri.f k x = some (parseT x) := by
  unfold impl_ParseTri.f
  by_cases h : (x.size : Int) > 36
  · rw [if_pos h]
    rcases parseT_cases x hx with h2 | ⟨o, _, _, _, _, h2⟩
    · rw [h2]
    · omega
  · rw [if_neg h]
    unfold parseT
    have hl := parts_len x 32 x.size 0 0
    have hs := parts_sizes x 32 x.size 0 0 (by omega) (by omega)
    rw [impl_split x hx 32 k (by omega), Option.bind_some]
    have := impl_parse_l0 (partsR x 32 x.size 0 0) (fun p hp => Nat.le_trans (part_size x 32 _ _ _ p hp) hx) (by omega) _ 0 k [] (Nat.zero_add _) (by rw [List.drop_zero, hs]; omega) (by simp)
    rw [List.drop_zero] at this
    exact this
end Go.Proofs.Ytcligopbieaceaa.L
