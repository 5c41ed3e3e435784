-- By this session's driver (wip/tools/mk.py) of the kit's print program, over several statements at once. Not trusted: Lean checks it.
import Derived.Test.YtahokioglinpgaaQPx0
import Derived.Test.YtahokioglinpgaaQPx4
import Derived.Test.YtahokioglinpgaaQPx8
namespace Go.Proofs.Ytahokioglinpgaa.P
open Go.RowKit Go.Proofs.YtahokioglinpgaaW.PrintWords Go.Proofs.YtahokioglinpgaaW.PrintLast Go.Proofs.YtahokioglinpgaaW.PrintMore
attribute [local go_sem] max2_int min2_int max_two min_two max_three min_three max_four min_four   -- for this text's walks alone
set_option linter.unusedVariables false
set_option linter.unusedSimpArgs false

/-! ### impl_TurnTriangles: function 9 -/
abbrev tt_k : Kd (List Int × Nat) := Kd.tag (fun k : Nat => k) (Kd.slice 3 (Kd.int .i64))
theorem tt_some {α : Type} {d : Kd α} {e : Nat} {w : World} {base : Nat} {ok : Nat → Prop} {A : Option Addr} {n c : Nat} {out : List α} (HO : d.R e w base ok (.slice A n c) out) (h1 : 0 < out.length) : ∃ g : Nat, A = some ⟨g, 0, none⟩ := by
 obtain ⟨g, cap, eg, _⟩ := Kd.R_form HO h1
 injection eg with ea en ec
 exact ⟨g, ea⟩
/-- A row of one's own, read: its header, and it. -/
theorem tt_at {w : World} {base : Nat} {ok : Nat → Prop} {g n c : Nat} {out : List (List Int × Nat)} (HO : tt_k.R 29 w base ok (.slice (some ⟨g, 0, none⟩) n c) out) {Z : Int} (h0 : 0 ≤ Z) (h1 : Z < (out.length : Int)) :
  ∃ A1 c1, w.cell? ⟨g, Z.toNat, none⟩ = some (.slice A1 (rd_L1 (out.map Prod.fst) Z).length c1) ∧ (Z < (n : Int)) ∧ Kd.R (Kd.int .i64) 3 w base (fun _ => True) (.slice A1 (rd_L1 (out.map Prod.fst) Z).length c1) (rd_L1 (out.map Prod.fst) Z) := by
 have hn := (Kd.R_reads' HO).1
 obtain ⟨cs, hcl, hM, hcc, _⟩ := Kd.R_elem HO (([] : List Int), 0) Z h0 (by omega)
 obtain ⟨v, rfl, hv⟩ := hM
 have e : rd_L1 (out.map Prod.fst) Z = (out.getD Z.toNat (([] : List Int), 0)).1 := by
  unfold rd_L1
  rw [List.getD_eq_getElem?_getD, List.getD_eq_getElem?_getD, List.getElem?_map]
  cases out[Z.toNat]? <;> rfl
 rw [e]
 obtain ⟨A1, c1, rfl⟩ := Kd.R_slice hv
 have hc := hcc 0 _ rfl
 have e2 : Z.toNat * tt_k.sz + 0 = Z.toNat := by show Z.toNat * 1 + 0 = _; omega
 rw [e2] at hc
 exact ⟨A1, c1, hc, by omega, Kd.R_mono hv (fun _ _ => trivial)⟩
theorem tt_first {w : World} {base : Nat} {ok : Nat → Prop} {A : Option Addr} {n c : Nat} {x : List Int} (HO : Kd.R (Kd.int .i64) 3 w base ok (.slice A n c) x) (h1 : 0 < x.length) : ∃ g : Nat, A = some ⟨g, 0, none⟩ ∧ w.cell? ⟨g, 0, none⟩ = some (.int .i64 (rd x 0)) := by
 obtain ⟨g, rfl⟩ := tt_some HO h1
 have hn := (Kd.R_reads' HO).1
 exact ⟨g, rfl, (Kd.R_celln 0 HO 0 (by omega) (by omega)).1⟩
theorem tt_own {w : World} {base g n c : Nat} {ok : Nat → Prop} {out : List (List Int × Nat)} (HO : tt_k.R 29 w base ok (.slice (some ⟨g, 0, none⟩) n c) out) : ∃ (cur inner : List Value), w.heap[g]? = some (.cells cur.toArray 29 (0, 0)) ∧ n ≤ c ∧ c ≤ maxLen ∧ cur.length = c ∧ cur.take n = inner ∧ base ≤ g ∧ Reps (tt_k.M w base (fun k => ok k ∧ some k ≠ some g)) 1 out inner ∧ (∀ v ∈ inner, v.oneCell' = true) ∧ (∀ i v, inner[i]? = some v → w.cell? ⟨g, i, none⟩ = some v) := by
 have hn := (Kd.R_reads' HO).1
 obtain ⟨h1, inner, h2, hr⟩ := HO
 have hcell : ∀ i v, inner[i]? = some v → w.cell? ⟨g, i, none⟩ = some v := fun i v hi => by
  have := h2.cells (g := g) (by simp [Value.ownBlock]) _ v hi
  rwa [add_plain] at this
 have hone : ∀ v ∈ inner, v.oneCell' = true := Kd.reps_one hr (Nat.zero_lt_one) (fun p cs h => tt_k.K_one (tt_k.K_of_M h))
 rcases h2.2 with ⟨h2, _⟩ | ⟨g', cap, cur, e1, e2, e3, e4, e5, e6, e7⟩
 ·cases h2
 ·injection e1 with ea eb ec
  injection ea with ea
  injection ea with ea
  subst ea
  subst ec
  have e6' : cur.size = c * 1 := e6
  have e7' : cur.toList.take (out.length * 1) = inner := e7
  refine ⟨cur.toList, inner, by rw [Array.toArray_toList]; exact e3, by omega, e5, by rw [Array.length_toList]; omega, by rw [Nat.mul_one] at e7'; rw [hn]; exact e7', e2, ?_, hone, hcell⟩
  exact hr.imp_ (fun p cs h => tt_k.M_mono (fun k hk => ⟨hk.1, by simpa [Value.ownBlock] using hk.2⟩) h)
theorem tt_back {W W4 : World} {base g n c q : Nat} {out : List (List Int × Nat)} {z : List Int × Nat} {inner cur : List Value} (hn : n = out.length + 1) (hq : q ≤ out.length) (hr : Reps (tt_k.M W base (fun k => True ∧ some k ≠ some g)) 1 (out ++ [z]) inner) (h1 : n ≤ c) (h2 : c ≤ maxLen) (h3 : cur.length = c) (h4 : cur.take n = inner) (h5 : base ≤ g)
  (hg : W4.heap[g]? = some (.cells (splice cur (q + 1) ((inner.take out.length).drop q)).toArray 29 (0, 0))) (hw : W.grownBy W4 (some g)) : tt_k.R 29 W4 base (fun _ => True) (.slice (some ⟨g, 0, none⟩) n c) ((out ++ [z]).take (q + 1) ++ out.drop q) := by
 have hil : inner.length = n := by have := hr.1; rw [List.length_append] at this; simp at this; omega
 have hl : ((out ++ [z]).take (q + 1) ++ out.drop q).length = n := by rw [List.length_append, List.length_take, List.length_drop, List.length_append]; simp; omega
 have hr4 : Reps (tt_k.M W4 base (fun k => True ∧ some k ≠ (Value.slice (some ⟨g, 0, none⟩) n c).ownBlock)) 1 (out ++ [z]) inner := hr.imp_ (fun p cs h => tt_k.M_mono (fun k hk => ⟨hk.1, by simpa [Value.ownBlock] using hk.2⟩) (Kd.M_grown h hw (fun k hk => hk.2)))
 have ra := Kd.reps_take (m := q + 1) hr4 (by rw [List.length_append]; simp; omega)
 have rb := Kd.reps_drop (m := q) (Kd.reps_take (m := out.length) hr4 (by rw [List.length_append]; simp))
 rw [List.take_left' rfl] at rb
 rw [Nat.mul_one] at ra
 rw [Nat.mul_one, Nat.mul_one] at rb
 refine ⟨fun _ _ => trivial, inner.take (q + 1) ++ (inner.take out.length).drop q, ?_, Kd.reps_append ra rb⟩
 have hlc : ((inner.take out.length).drop q).length = out.length - q := by rw [List.length_drop, List.length_take]; omega
 refine ⟨by show _ = _ * 1; rw [hl, Nat.mul_one, List.length_append, List.length_take, hlc]; omega, .inr ⟨g, c, _, by rw [hl], h5, hg, by rw [hl]; exact h1, h2, ?_, ?_⟩⟩
 ·show _ = _ * 1
  rw [List.size_toArray, length_splice _ _ _ (by rw [hlc]; omega), h3, Nat.mul_one]
 ·show List.take (_ * 1) _ = _
  rw [hl, Nat.mul_one]
  unfold splice
  have e1 : cur.take (q + 1) = inner.take (q + 1) := by
   rw [← h4, List.take_take, Nat.min_eq_left (by omega)]
  rw [List.toList_toArray, ← List.append_assoc, List.take_append_of_le_length (by rw [List.length_append, List.length_take, hlc]; omega), e1, List.take_of_length_le (by rw [List.length_append, List.length_take, hlc]; omega)]
theorem tt_ne {W : World} {base g n c N : Nat} {out : List (List Int × Nat)} {A1 : Option Addr} {n1 c1 : Nat} {x : List Int} (HO : tt_k.R 29 W base (fun _ => True) (.slice (some ⟨g, 0, none⟩) n c) out) (hx : Kd.R (Kd.int .i64) 3 W base (fun _ => True) (.slice A1 n1 c1) x) : Kd.R (Kd.int .i64) 3 W base (fun k => True ∧ k ≠ g) (.slice A1 n1 c1) x := by
 obtain ⟨cells, hc⟩ := Kd.R_typed HO g (by simp [Value.ownBlock])
 exact Kd.R_types hx hc (fun q hq => by
  have : q = 3 := by simpa [Kd.int, Kd.scalar] using hq
  subst this
  decide)
/-- A row laid into its place. -/
theorem tt_put {W : World} {base g n c go co : Nat} {w0 : World} {out : List (List Int × Nat)} {x : List Int} (HO : tt_k.R 29 W base (fun _ => True) (.slice (some ⟨g, 0, none⟩) n c) out) (HB : Below base w0 W) (hx : Kd.R (Kd.int .i64) 3 W base (fun _ => True) (.slice (some ⟨go, 0, none⟩) x.length co) x) {Z : Int} (h0 : 0 ≤ Z) (h1 : Z < (out.length : Int)) :
  Az (∀ W', Drawn0 W W' → tt_k.R 29 (W'.setCell ⟨g, Z.toNat, none⟩ (.slice (some ⟨go, 0, none⟩) x.length co)) base (fun _ => True) (.slice (some ⟨g, 0, none⟩) n c) (out.set Z.toNat (x, go)) ∧ Below base w0 (W'.setCell ⟨g, Z.toNat, none⟩ (.slice (some ⟨go, 0, none⟩) x.length co))) := by
 refine ⟨?_⟩
 rintro W' ⟨m, rfl⟩
 have HO' := Kd.R_drewN HO m
 have hx' := Kd.R_tight rfl (tt_ne (N := 0) HO' (Kd.R_drewN hx m))
 have hn := (Kd.R_reads' HO').1
 have hbg := Kd.R_base HO' g (by simp [Value.ownBlock])
 have hne : go ≠ g := by
  have := (tt_ne (N := 0) HO' (Kd.R_drewN hx m)).1 go (by simp [Value.ownBlock])
  exact this.2
 obtain ⟨cs, hcl, _, hcc, _⟩ := Kd.R_elem HO' (([] : List Int), 0) Z h0 (by omega)
 have hcl1 : cs.length = 1 := hcl
 obtain ⟨u, rfl⟩ := List.length_eq_one_iff.1 hcl1
 have hseg := Kd.R_seg HO' Z h0 (by omega) hcl hcc (j := 0) (seg := [.slice (some ⟨go, 0, none⟩) x.length co]) (by show 0 + 1 ≤ 1; omega) (x' := (x, go)) (okp := fun k => k = go) (by
  refine ⟨_, rfl, ?_⟩
  exact Kd.R_mono hx' (fun k hk => by
   have : k = go := by simpa [Value.ownBlock] using hk
   exact ⟨this, this⟩)) (fun k hk => ⟨trivial, by rw [hk]; exact hne⟩)
 have e2 : Z.toNat * tt_k.sz + 0 = Z.toNat := by show Z.toNat * 1 + 0 = _; omega
 rw [e2] at hseg
 exact ⟨hseg.1, (pbN HB m).setCell hbg _⟩
theorem tt_putL {α : Type} {out : List α} {z X : α} {q : Nat} (hq : q ≤ out.length) : ((out ++ [z]).take (q + 1) ++ out.drop q).set q X = out.take q ++ (X :: out.drop q) := by
 have hl : ((out ++ [z]).take (q + 1)).length = q + 1 := by rw [List.length_take, List.length_append]; simp; omega
 rw [List.set_append_left _ _ (by omega)]
 have e : (out ++ [z]).take (q + 1) = out.take q ++ [(out ++ [z])[q]'(by rw [List.length_append]; simp; omega)] := by
  rw [List.take_succ_eq_append_getElem (by rw [List.length_append]; simp; omega), List.take_append_of_le_length hq]
 rw [e, List.set_append_right _ _ (by rw [List.length_take]; omega), List.length_take, show q - min q out.length = 0 by omega, List.set_cons_zero, List.append_assoc]
 rfl
/-- Labels that are all different: the rows lie apart. -/
theorem tt_S {w : World} {base : Nat} {v : Value} {out : List (List Int × Nat)} (HO : tt_k.R 29 w base (fun _ => True) v out) (hd : (out.map Prod.snd).Nodup) : Kd.S (Kd.slice 3 (Kd.int .i64)) 29 w base (fun _ => True) v (out.map Prod.fst) := by
 obtain ⟨h0, inner, ho, hr⟩ := HO
 refine ⟨fun k => (out.map Prod.snd).idxOf k, h0, inner, by rw [List.length_zipIdx, List.length_map]; exact ho, by rw [List.length_zipIdx, List.length_map]; exact hr.1, fun j p hj => ?_⟩
 rw [List.getElem?_zipIdx, Nat.zero_add, List.getElem?_map] at hj
 obtain ⟨x, hx, rfl⟩ := Option.map_eq_some_iff.1 hj
 obtain ⟨y, hy, rfl⟩ := Option.map_eq_some_iff.1 hx
 obtain ⟨hlt, ey⟩ := List.getElem?_eq_some_iff.1 hy
 have hM : (Kd.slice 3 (Kd.int .i64)).M w base (fun k => (True ∧ some k ≠ v.ownBlock) ∧ k = y.2) y.1 ((inner.drop (j * 1)).take 1) := hr.2 j y hy
 refine (Kd.slice 3 (Kd.int .i64)).M_mono (fun k hk => ⟨hk.1, ?_⟩) hM
 rw [hk.2, ← ey]
 have := hd.idxOf_getElem j (by rw [List.length_map]; exact hlt)
 rw [List.getElem_map] at this
 exact this
theorem tt_labels {α : Type} {out : List (α × Nat)} {N go : Nat} {X : α} {q : Nat} (hd : (out.map Prod.snd).Nodup) (hN : ∀ p ∈ out, p.2 < N) (hg : N ≤ go) : ((out.take q ++ ((X, go) :: out.drop q)).map Prod.snd).Nodup ∧ ∀ p ∈ out.take q ++ ((X, go) :: out.drop q), p.2 < go + 1 := by
 have hp : List.Perm (out.take q ++ ((X, go) :: out.drop q)) ((X, go) :: out) := by
  refine List.perm_middle.trans ?_
  rw [List.take_append_drop]
 refine ⟨?_, fun p hp' => ?_⟩
 ·refine (hp.map Prod.snd).nodup_iff.2 ?_
  rw [List.map_cons]
  refine List.nodup_cons.2 ⟨fun h => ?_, hd⟩
  obtain ⟨p, hp1, hp2⟩ := List.mem_map.1 h
  have := hN p hp1
  omega
 ·rcases List.mem_cons.1 (hp.mem_iff.1 hp') with rfl | h
  ·show go < go + 1
   omega
  ·have := hN p h
   omega
open Go.RowKit in
theorem step_copy_keep {P : Program} {ops : Array Oper} {o : Oper} {a : Act} {w : World} {K : Act → World → Prop} {Q : Exit → Act → World → Prop} {E : Prop} (hgd : o.guard = none) (d s : Operand) (dT sT : TypeId)
  (ho : o.op = .call { callee := .builtin .copy, args := #[d, s], argTypes := #[dT, sT] }) (elem : TypeId) (hu : P.underlying dT = some (.slice elem)) (hsz : (P.info? elem).map (·.size) = some 1)
  (dp sp : Option Addr) (dLen dCap sLen sCap : Nat) (hd : a.eval d = .slice dp dLen dCap) (hs : a.eval s = .slice sp sLen sCap)
  (g off : Nat) (cur : List Value) (t : TypeId) (hg : w.heap[g]? = some (.cells cur.toArray t (0, 0))) (cs : List Value) (hn : cs.length = Nat.min sLen dLen)
  (hpos : 0 < cs.length → dp = some ⟨g, off, none⟩ ∧ ∃ ad, sp = some ad ∧ ∀ j v, cs[j]? = some v → w.cell? (ad.add j) = some v)
  (hfit : off + cs.length ≤ cur.length) (h1 : ∀ v ∈ cs, v.oneCell' = true)
  (h : ∀ w', Az (w'.heap[g]? = some (.cells (splice cur off cs).toArray t (0, 0))) → Az (w.grownBy w' (some g)) → K (a.put o.dst (goInt cs.length)) w') :
  if Region.wanted o (yielded ops a.tmps) = true then Oper.wp P o a w K Q else E := by
 have hw : Region.wanted o (yielded ops a.tmps) = true := by simp [Region.wanted, hgd]
 rw [if_pos hw]
 by_cases h0 : cs.length = 0
 ·obtain rfl : cs = [] := List.eq_nil_of_length_eq_zero h0
  have hrun := run_copy_none (P := P) w dT sT o.type elem dp sp dLen dCap sLen sCap hu hsz (by simpa using hn.symm)
  unfold Oper.wp
  simp [execOp, ho, resolve, invoke, builtin, hd, hs, hrun, Result.andThen]
  exact h w ⟨by simpa [splice] using hg⟩ ⟨⟨rfl, rfl, rfl, Nat.le_refl _, fun _ _ _ => rfl⟩⟩
 ·obtain ⟨rfl, ad, rfl, hsrc⟩ := hpos (by omega)
  have hrun := run_copy_row (P := P) w dT sT o.type elem g off dLen dCap ad sLen sCap cur.toArray t cs hu hsz hg hn hsrc (by simpa using hfit) h1
  unfold Oper.wp
  simp [execOp, ho, resolve, invoke, builtin, hd, hs, hrun, Result.andThen]
  exact h _ ⟨by simpa [splice] using setRow_heap w g _ _ t _ hg⟩ ⟨⟨rfl, rfl, rfl, by simp [World.setRow], fun k _ hk => setRow_other w g k _ (fun e => hk (by rw [e]))⟩⟩
theorem tt_w {q : Int} {n : Nat} (h0 : 0 ≤ q) (h1 : q ≤ (n : Int)) (h2 : n < 5864062014805) : wrap64 (q + 1) = q + 1 := by
 unfold wrap64
 omega
theorem tt_w1 {q : Int} {n : Nat} (h0 : q > 0) (h1 : q ≤ (n : Int)) (h2 : n < 5864062014805) : wrap64 (q - 1) = q - 1 := by
 unfold wrap64
 omega
theorem tt_ht : ∀ q, q ∈ 3 :: (Kd.int .i64).E → q ≠ 29 := fun q hq => by
 have : q = 3 := by simpa [Kd.int, Kd.scalar] using hq
 subst this
 decide
theorem tt_cell {w : World} {base : Nat} {ok : Nat → Prop} {g n c : Nat} {out : List (List Int × Nat)} (HO : tt_k.R 29 w base ok (.slice (some ⟨g, 0, none⟩) n c) out) {Z : Int} (h0 : 0 ≤ Z) (h1 : Z < (out.length : Int)) :
  ∃ u, w.cell? ⟨g, Z.toNat, none⟩ = some u ∧ w.frozen? ⟨g, Z.toNat, none⟩ = false ∧ (Z < (n : Int)) := by
 have hn := (Kd.R_reads' HO).1
 obtain ⟨cs, hcl, hM, hcc, hf⟩ := Kd.R_elem HO (([] : List Int), 0) Z h0 (by omega)
 obtain ⟨v, rfl, hv⟩ := hM
 have hc := hcc 0 _ rfl
 have hf0 := hf 0
 have e2 : Z.toNat * tt_k.sz + 0 = Z.toNat := by show Z.toNat * 1 + 0 = _; omega
 rw [e2] at hc hf0
 exact ⟨v, hc, hf0, by omega⟩
theorem tt_head {w : World} {base : Nat} {ok : Nat → Prop} {g n c : Nat} {x : List Int} (HO : Kd.R (Kd.int .i64) 3 w base ok (.slice (some ⟨g, 0, none⟩) n c) x) (h1 : 0 < x.length) : w.cell? ⟨g, 0, none⟩ = some (.int .i64 (rd x 0)) := by
 have hn := (Kd.R_reads' HO).1
 exact (Kd.R_celln 0 HO 0 (by omega) (by omega)).1
/-- Behind the store: the row, what lies below, and the labels. -/
theorem tt_done {W : World} {base g n c go co : Nat} {w0 : World} {ps : List (List Int × Nat)} {z : List Int × Nat} {x : List Int} {q : Int} (hq0 : 0 ≤ q) (hq1 : q ≤ (ps.length : Int)) (HO : tt_k.R 29 W base (fun _ => True) (.slice (some ⟨g, 0, none⟩) n c) ((ps ++ [z]).take (q.toNat + 1) ++ ps.drop q.toNat)) (HB : Below base w0 W) (hx : Kd.R (Kd.int .i64) 3 W base (fun _ => True) (.slice (some ⟨go, 0, none⟩) x.length co) x) (hL : (ps.map Prod.snd).Nodup ∧ ∀ p ∈ ps, p.2 < go) :
  Az (∀ W', Drawn0 W W' → tt_k.R 29 (W'.setCell ⟨g, q.toNat, none⟩ (.slice (some ⟨go, 0, none⟩) x.length co)) base (fun _ => True) (.slice (some ⟨g, 0, none⟩) n c) (ps.take q.toNat ++ ((x, go) :: ps.drop q.toNat)) ∧ Below base w0 (W'.setCell ⟨g, q.toNat, none⟩ (.slice (some ⟨go, 0, none⟩) x.length co)) ∧ ((ps.take q.toNat ++ ((x, go) :: ps.drop q.toNat)).map Prod.snd).Nodup ∧ ∀ p ∈ ps.take q.toNat ++ ((x, go) :: ps.drop q.toNat), p.2 < (W'.setCell ⟨g, q.toNat, none⟩ (.slice (some ⟨go, 0, none⟩) x.length co)).heap.size) := by
 refine ⟨fun W' hW => ?_⟩
 have hl4 : ((ps ++ [z]).take (q.toNat + 1) ++ ps.drop q.toNat).length = ps.length + 1 := by rw [List.length_append, List.length_take, List.length_drop, List.length_append]; simp; omega
 obtain ⟨h1, h2⟩ := (tt_put HO HB hx hq0 (by omega)).out W' hW
 rw [tt_putL (by omega)] at h1
 obtain ⟨h3, h4⟩ := tt_labels (X := x) (q := q.toNat) hL.1 hL.2 (Nat.le_refl go)
 refine ⟨h1, h2, h3, fun p hp => ?_⟩
 have h5 := h4 p hp
 have hgo : go < (W'.setCell ⟨g, q.toNat, none⟩ (.slice (some ⟨go, 0, none⟩) x.length co)).heap.size := by
  obtain ⟨m, rfl⟩ := hW
  have a1 := Kd.R_lt (Kd.R_drewN hx m) go (by simp [Value.ownBlock])
  have a2 := ((Below.refl g (W.drewN m)).setCell (p := ⟨g, q.toNat, none⟩) (Nat.le_refl g) (.slice (some ⟨go, 0, none⟩) x.length co)).size
  exact Nat.lt_of_lt_of_le a1 a2
 omega
theorem tt_map {ps : List (List Int × Nat)} {x : List Int} {go q : Nat} : (ps.take q ++ ((x, go) :: ps.drop q)).map Prod.fst = (ps.map Prod.fst).take q ++ (x :: (ps.map Prod.fst).drop q) := by
 rw [List.map_append, List.map_cons, List.map_take, List.map_drop]
mutual
def impl_TurnTriangles.l0 : Nat → List (List Int) → List (List Int) → Int → Option (List (List Int))
 | 0, _, _, _ => none
 | k + 1, t, out, i => if i < (t.length : Int) then (if 0 ≤ i then impl_TurnTriangles.l1 k t out i 0 0 else none) else some out
def impl_TurnTriangles.l1 : Nat → List (List Int) → List (List Int) → Int → Int → Int → Option (List (List Int))
 | 0, _, _, _, _, _ => none
 | k + 1, t, out, i, m, j => if j < ((rd_L1 t i).length : Int) then (if 0 ≤ j then (if 0 ≤ m then (if m < ((rd_L1 t i).length : Int) then (if rd (rd_L1 t i) j < rd (rd_L1 t i) m then impl_TurnTriangles.l1 k t out i j (wrap64 (j + 1)) else impl_TurnTriangles.l1 k t out i m (wrap64 (j + 1))) else none) else none) else none) else ((impl_turn.f (rd_L1 t i) m).bind fun own => (if 0 < own.length then impl_TurnTriangles.l2 k t out i own (out.length : Int) else none))
def impl_TurnTriangles.l2 : Nat → List (List Int) → List (List Int) → Int → List Int → Int → Option (List (List Int))
 | 0, _, _, _, _, _ => none
 | k + 1, t, out, i, own, q => if 0 ≤ q then (if q ≤ (out.length : Int) then (if out.length < 5864062014805 then (if q > 0 then (if 0 < (rd_L1 out (q - 1)).length then (if rd (rd_L1 out (q - 1)) 0 > rd own 0 then impl_TurnTriangles.l2 k t out i own (q - 1) else impl_TurnTriangles.l0 k t (out.take q.toNat ++ (own :: out.drop q.toNat)) (wrap64 (i + 1))) else none) else impl_TurnTriangles.l0 k t (out.take q.toNat ++ (own :: out.drop q.toNat)) (wrap64 (i + 1))) else none) else none) else none
end
def impl_TurnTriangles.f (k : Nat) (t : List (List Int)) : Option (List (List Int)) := (impl_IsTriangulation.f k t).bind fun b => if b = true then impl_TurnTriangles.l0 k t [] 0 else some []
theorem impl_TurnTriangles.mono_l : ∀ k, (∀ y0 y1 y2, LeO (impl_TurnTriangles.l0 k y0 y1 y2) (impl_TurnTriangles.l0 (k + 1) y0 y1 y2)) ∧ (∀ y0 y1 y2 y3 y4, LeO (impl_TurnTriangles.l1 k y0 y1 y2 y3 y4) (impl_TurnTriangles.l1 (k + 1) y0 y1 y2 y3 y4)) ∧ (∀ y0 y1 y2 y3 y4, LeO (impl_TurnTriangles.l2 k y0 y1 y2 y3 y4) (impl_TurnTriangles.l2 (k + 1) y0 y1 y2 y3 y4))
 | 0 => ⟨fun _ _ _ r h => by simp [impl_TurnTriangles.l0] at h, fun _ _ _ _ _ r h => by simp [impl_TurnTriangles.l1] at h, fun _ _ _ _ _ r h => by simp [impl_TurnTriangles.l2] at h⟩
 | k + 1 => by
  obtain ⟨ih0, ih1, ih2⟩ := impl_TurnTriangles.mono_l k
  refine ⟨?_, ?_, ?_⟩
  ·intro y0 y1 y2
   unfold impl_TurnTriangles.l0
   repeat' first
   | (with_reducible exact ih1 _ _ _ _ _)
   | (with_reducible exact LeO.refl _)
   | (with_reducible exact LeO.none _)
   | (with_reducible refine LeO.ite ?_ ?_)
  ·intro y0 y1 y2 y3 y4
   unfold impl_TurnTriangles.l1
   repeat' first
   | (with_reducible exact ih1 _ _ _ _ _)
   | (with_reducible exact ih2 _ _ _ _ _)
   | (with_reducible exact LeO.refl _)
   | (with_reducible exact LeO.none _)
   | (with_reducible refine LeO.ite ?_ ?_)
   | (with_reducible refine LeO.bind ?_ (fun _ => ?_))
  ·intro y0 y1 y2 y3 y4
   unfold impl_TurnTriangles.l2
   repeat' first
   | (with_reducible exact ih0 _ _ _)
   | (with_reducible exact ih2 _ _ _ _ _)
   | (with_reducible exact LeO.refl _)
   | (with_reducible exact LeO.none _)
   | (with_reducible refine LeO.ite ?_ ?_)
theorem impl_TurnTriangles.mono : ∀ a0 k, LeO (impl_TurnTriangles.f k a0) (impl_TurnTriangles.f (k + 1) a0) := by
 intro a0 k
 unfold impl_TurnTriangles.f
 refine LeO.bind (impl_IsTriangulation.mono _ _) (fun _ => LeO.ite ((impl_TurnTriangles.mono_l k).1 _ _ _) (LeO.refl _))
def impl_TurnTriangles.T19 : Bool × List (List Nat × List Nat) := (true, [([], []), ([], []), ([1], [1]), ([0, 2], [0, 2]), ([], []), ([], []), ([4, 5], [4, 5]), ([3, 6], [3, 6])])
def impl_TurnTriangles.B19 : List Nat := [0, 0, 2, 7, 0, 0, 48, 127]
theorem impl_TurnTriangles.tab19 : rtab .any (opsOf Try.f9 19) = impl_TurnTriangles.T19 := by kernel_rfl
theorem impl_TurnTriangles.bits19 : waitsOk impl_TurnTriangles.T19.2 impl_TurnTriangles.B19 = true := by kernel_rfl
set_option maxHeartbeats 16000000 in
set_option maxRecDepth 100000 in
theorem impl_TurnTriangles.calls (k : Nat) (A0 : Option Addr) (c0 : Nat) (l0 : List (List Int)) (r : List (List Int)) (w : World) (hr0 : Kd.C (Kd.slice 3 (Kd.int .i64)) w A0 l0.length l0) (hc0 : l0.length ≤ c0) (h : impl_TurnTriangles.f k l0 = some r) :
  Calls Try.prog 9 #[.slice A0 l0.length c0] w fun e w' => ∃ v0_ : Value, e = .returned (v0_) ∧ Kd.S (Kd.slice 3 (Kd.int .i64)) 29 w' w.heap.size (fun _ => True) v0_ r ∧ Below w.heap.size w w' := by
 have HR0 := Az.mk hr0
 have HC0 := Az.mk hc0
 clear hr0 hc0
 have HBs := Az.mk (Below.refl w.heap.size w)
 unfold impl_TurnTriangles.f at h
 replace h := Option.bind_eq_some_iff.mp h
 obtain ⟨b, T0, h⟩ := h
 have T0 := Az.mk T0
 by_cases p1 : b = true
 ·rw [if_pos p1] at h
  subst p1
  have H' := Az.mk h
  clear h
  go_enter Try.func9, Try.ntmps9
  go_wp2_with (first
   | (go_at_call 21; refine (impl_IsTriangulation.calls k A0 c0 l0 true _ (by first | exact Kd.C_drewN HR0.out _ | exact HR0.out) HC0.out T0.out).mono ?_; rintro e W0 ⟨rfl, hb⟩; have HB0 := Az.mk (bwT (by first | exact HBs.out | exact pbN HBs.out _) hb); clear hb T0 HBs)
   | ((with_reducible refine gtD (N := 14) rfl ?_); refine Kd.R_lit tt_k _ 29 ?hg (N := 14) ?hd (xs := ([] : List (List Int × Nat))) (inner := []) (ok := fun _ => True) (okp := fun _ => True) ?hr ?hp (fun _ hk => hk) trivial (Below.refl _ _) (Nat.le_refl _) (by simp) ?_; (case hd => rfl); (case hg => rfl); (case hr => first | (go_simp; done) | (go_simp; rfl)); (case hp => exact Reps.none _ _); intro v1 W1 ho hb hg hat; have HO := Az.mk (Kd.R_lower (base' := w.heap.size) ho (by first | exact HB0.out.size | exact (pbN HB0.out _).size)); have HB := Az.mk (bwT (by first | exact HB0.out | exact pbN HB0.out _) hb); clear ho hb hg hat HB0; obtain ⟨A, c, e2⟩ := Kd.R_slice HO.out; subst e2))
  go_loopg [3, 17] k (fun kq v3 v17 w' => ∃ (ps : List (List Int × Nat)) (i_1 : Int) (A : Option Addr) (c : Nat), v3 = .slice A ps.length c ∧ v17 = .int .i64 i_1 ∧ Az (impl_TurnTriangles.l0 kq l0 (ps.map Prod.fst) i_1 = some r) ∧ Az (kq ≤ k) ∧ Az (tt_k.R 29 w' w.heap.size (fun _ => True) (.slice A ps.length c) ps) ∧ Az (Below w.heap.size w w') ∧ Az ((ps.map Prod.snd).Nodup ∧ ∀ p ∈ ps, p.2 < w'.heap.size))
  case atStart => exact ⟨[], 0, _, _, rfl, rfl, H', ⟨Nat.le_refl _⟩, HO, HB, ⟨List.nodup_nil, fun p hp => by cases hp⟩⟩
  case round =>
   clear H' HO HB
   obtain ⟨ps, i_1, A, c, rfl, rfl, HA, HK1, HO, HB, HLB⟩ := hrel
   cases gk with
   | zero => exact absurd HA.out (by simp [impl_TurnTriangles.l0])
   | succ k1 =>
    have H := HA.out
    clear HA
    simp only [impl_TurnTriangles.l0] at H
    by_cases b1 : i_1 < (l0.length : Int)
    ·rw [if_pos b1] at H
     by_cases b0 : 0 ≤ i_1
     ·rw [if_pos b0] at H
      obtain ⟨ad5, A5, c5, e5, hx5, hl5, hi5⟩ := at_L1 HR0.out i_1 b0 b1
      cases e5
      replace hx5 := (HB.out.cell (World.block_lt_of_cell? w _ hx5)).trans hx5
      obtain ⟨sd, hsd⟩ : ∃ s_ : List Int, rd_L1 l0 i_1 = s_ := ⟨_, rfl⟩
      rw [hsd] at hx5 hl5 hi5
      have HCs := Az.mk hi5
      have HLs := Az.mk hl5
      have HSD := Az.mk hsd
      have b1b := decide_eq_true b1
      replace b0 := eq_true b0
      replace b1 := eq_true b1
      have H' := Az.mk H
      clear H hsd hi5 hl5
      go_wp2
      go_loopg [6, 23] k1 (fun kq v6 v23 w' => ∃ (m_1 j_1 : Int), v6 = .int .i64 m_1 ∧ v23 = .int .i64 j_1 ∧ Az (impl_TurnTriangles.l1 kq l0 (ps.map Prod.fst) i_1 m_1 j_1 = some r) ∧ Az (kq ≤ k1) ∧ Az (tt_k.R 29 w' w.heap.size (fun _ => True) (.slice A ps.length c) ps) ∧ Az (Below w.heap.size w w') ∧ Az ((ps.map Prod.snd).Nodup ∧ ∀ p ∈ ps, p.2 < w'.heap.size))
      case atStart => exact ⟨0, 0, rfl, rfl, H', ⟨Nat.le_refl _⟩, ⟨by first | exact HO.out | exact Kd.R_drewN HO.out _⟩, ⟨by first | exact HB.out | exact pbN HB.out _⟩, ⟨HLB.out.1, fun p hp => by first | exact HLB.out.2 p hp | exact Nat.lt_of_lt_of_le (HLB.out.2 p hp) (pbN (Below.refl 0 _) _).size⟩⟩
      case round =>
       clear H' HO HB HLB hx5
       obtain ⟨m_1, j_1, rfl, rfl, HA, HK2, HO, HB, HLB⟩ := hrel
       cases gk with
       | zero => exact absurd HA.out (by simp [impl_TurnTriangles.l1])
       | succ k2 =>
        have H := HA.out
        clear HA
        simp only [impl_TurnTriangles.l1] at H
        rw [HSD.out] at H
        by_cases c1 : j_1 < (sd.length : Int)
        ·rw [if_pos c1] at H
         by_cases c2 : 0 ≤ j_1
         ·rw [if_pos c2] at H
          by_cases c3 : 0 ≤ m_1
          ·rw [if_pos c3] at H
           by_cases c4 : m_1 < (sd.length : Int)
           ·rw [if_pos c4] at H
            obtain ⟨adj, ej, hxj⟩ := Kd.at_int HCs.out j_1 c2 c1
            cases ej
            replace hxj := (HB.out.cell (World.block_lt_of_cell? w _ hxj)).trans hxj
            obtain ⟨adm, em, hxm⟩ := Kd.at_int HCs.out m_1 c3 c4
            cases em
            replace hxm := (HB.out.cell (World.block_lt_of_cell? w _ hxm)).trans hxm
            obtain ⟨X, hX⟩ : ∃ j_ : Int, rd sd j_1 = j_ := ⟨_, rfl⟩
            obtain ⟨Y, hY⟩ : ∃ j_ : Int, rd sd m_1 = j_ := ⟨_, rfl⟩
            rw [hX] at hxj H
            rw [hY] at hxm H
            have c1b := decide_eq_true c1
            replace c1 := eq_true c1
            replace c2 := eq_true c2
            replace c3 := eq_true c3
            replace c4 := eq_true c4
            clear hX hY
            by_cases c5 : X < Y
            ·rw [if_pos c5] at H
             have c5b := decide_eq_true c5
             have H' := Az.mk H
             clear H c5
             go_wp2
             go_roundg k2
             case measure => have := HK2.out; omega
             case rel => exact ⟨_, _, rfl, rfl, H', ⟨by have := HK2.out; omega⟩, ⟨by first | exact HO.out | exact Kd.R_drewN HO.out _⟩, ⟨by first | exact HB.out | exact pbN HB.out _⟩, ⟨HLB.out.1, fun p hp => by first | exact HLB.out.2 p hp | exact Nat.lt_of_lt_of_le (HLB.out.2 p hp) (pbN (Below.refl 0 _) _).size⟩⟩
            ·rw [if_neg c5] at H
             have c5b := decide_eq_false c5
             have H' := Az.mk H
             clear H c5
             go_wp2
             go_roundg k2
             case measure => have := HK2.out; omega
             case rel => exact ⟨_, _, rfl, rfl, H', ⟨by have := HK2.out; omega⟩, ⟨by first | exact HO.out | exact Kd.R_drewN HO.out _⟩, ⟨by first | exact HB.out | exact pbN HB.out _⟩, ⟨HLB.out.1, fun p hp => by first | exact HLB.out.2 p hp | exact Nat.lt_of_lt_of_le (HLB.out.2 p hp) (pbN (Below.refl 0 _) _).size⟩⟩
           ·rw [if_neg c4] at H
            exact absurd H (by simp)
          ·rw [if_neg c3] at H
           exact absurd H (by simp)
         ·rw [if_neg c2] at H
          exact absurd H (by simp)
        ·rw [if_neg c1] at H
         have c1b : decide (j_1 < (sd.length : Int)) = false := decide_eq_false c1
         clear c1
         replace H := Option.bind_eq_some_iff.mp H
         obtain ⟨own, T2, H⟩ := H
         have T2 := Az.mk T2
         by_cases c6 : 0 < own.length
         ·rw [if_pos c6] at H
          have HP := Az.mk c6
          have H' := Az.mk H
          clear H c6
          go_wp2_with (first
           | (go_at_call 22; refine (impl_turn.calls A5 c5 sd m_1 own _ (by first | exact Kd.C_drewN (Kd.C_below HCs.out HB.out) _ | exact Kd.C_below HCs.out HB.out) HLs.out T2.out).mono ?_; rintro e W3 ⟨v3, rfl, ho, hb⟩; obtain ⟨Aw, cw, ew⟩ := Kd.R_slice ho; subst ew; obtain ⟨go, ego⟩ := tt_some ho HP.out; subst ego; have HL3 := Az.mk (show (ps.map Prod.snd).Nodup ∧ ∀ p ∈ ps, p.2 < go from ⟨HLB.out.1, fun p hp => Nat.lt_of_lt_of_le (by first | exact HLB.out.2 p hp | exact Nat.lt_of_lt_of_le (HLB.out.2 p hp) (pbN (Below.refl 0 _) _).size) (Kd.R_base ho go (by simp [Value.ownBlock]))⟩); have HOw := Az.mk (Kd.R_lower (base' := w.heap.size) ho (by first | exact HB.out.size | exact (pbN HB.out _).size)); have HO3 := Az.mk (Kd.R_below (by first | exact HO.out | exact Kd.R_drewN HO.out _) hb); have HB3 := Az.mk (bwT (by first | exact HB.out | exact pbN HB.out _) hb); clear ho hb HO HB HLB T2; have HO := HO3; have HB := HB3; have HLB := HL3; clear HO3 HB3 HL3))
          go_loopg [10] k2 (fun kq v10 w' => ∃ (q_1 : Int), v10 = .int .i64 q_1 ∧ Az (impl_TurnTriangles.l2 kq l0 (ps.map Prod.fst) i_1 own q_1 = some r) ∧ Az (kq ≤ k2) ∧ Az (tt_k.R 29 w' w.heap.size (fun _ => True) (.slice A ps.length c) ps) ∧ Az (Below w.heap.size w w') ∧ Az (Kd.R (Kd.int .i64) 3 w' w.heap.size (fun _ => True) (.slice (some ⟨go, 0, none⟩) own.length cw) own))
          case atStart => exact ⟨_, rfl, ⟨by have := H'.out; rw [List.length_map] at this; exact this⟩, ⟨Nat.le_refl _⟩, ⟨by first | exact HO.out | exact Kd.R_drewN HO.out _⟩, ⟨by first | exact HB.out | exact pbN HB.out _⟩, ⟨by first | exact HOw.out | exact Kd.R_drewN HOw.out _⟩⟩
          case round =>
           clear H' HO HB HOw
           obtain ⟨q_1, rfl, HA, HK3, HO, HB, HOw⟩ := hrel
           cases gk with
           | zero => exact absurd HA.out (by simp [impl_TurnTriangles.l2])
           | succ k3 =>
            have H := HA.out
            clear HA
            simp only [impl_TurnTriangles.l2, List.length_map] at H
            by_cases d0 : 0 ≤ q_1
            ·rw [if_pos d0] at H
             by_cases d1 : q_1 ≤ (ps.length : Int)
             ·rw [if_pos d1] at H
              by_cases d2 : ps.length < 5864062014805
              ·rw [if_pos d2] at H
               have LM := Az.mk d2
               have hq0 := Az.mk d0
               have hq1 := Az.mk d1
               by_cases d3 : q_1 > 0
               ·rw [if_pos d3] at H
                obtain ⟨g0, eg0⟩ := tt_some HO.out (by omega)
                subst eg0
                obtain ⟨Z, hZ⟩ : ∃ j_ : Int, q_1 - 1 = j_ := ⟨_, rfl⟩
                obtain ⟨A1, c1, hxr, znq, hR1⟩ := tt_at HO.out (show 0 ≤ Z by omega) (by omega)
                have z0 : (0 ≤ Z) = True := eq_true (by omega)
                have z1 := eq_true znq
                have d3b : decide (q_1 > 0) = true := decide_eq_true d3
                have d3c : decide (0 < q_1) = true := decide_eq_true d3
                have hqw : IntKind.i64.wrap (q_1 - 1) = Z := (i64_w _).trans ((tt_w1 d3 d1 d2).trans hZ)
                have hqw2 : wrap64 (q_1 - 1) = Z := (tt_w1 d3 d1 d2).trans hZ
                rw [hZ] at H
                clear hZ znq d0 d1 d2 d3
                by_cases e1 : 0 < (rd_L1 (ps.map Prod.fst) Z).length
                ·rw [if_pos e1] at H
                 obtain ⟨g1, eg1, hx1⟩ := tt_first hR1 e1
                 subst eg1
                 have hxo := tt_head HOw.out HP.out
                 obtain ⟨Y, hY⟩ : ∃ j_ : Int, rd (rd_L1 (ps.map Prod.fst) Z) 0 = j_ := ⟨_, rfl⟩
                 obtain ⟨X, hX⟩ : ∃ j_ : Int, rd own 0 = j_ := ⟨_, rfl⟩
                 rw [hY] at hx1 H
                 rw [hX] at hxo H
                 obtain ⟨n1, hn1⟩ : ∃ n_ : Nat, (rd_L1 (ps.map Prod.fst) Z).length = n_ := ⟨_, rfl⟩
                 rw [hn1] at hxr e1
                 have zn1 : ((0 : Int) < (n1 : Int)) = True := eq_true (by omega)
                 have zn2 : (0 < n1) = True := eq_true e1
                 have zo1 : ((0 : Int) < (own.length : Int)) = True := eq_true (by have := HP.out; omega)
                 have zo2 : (0 < own.length) = True := eq_true HP.out
                 clear hY hX hn1 hR1 e1
                 by_cases d4 : Y > X
                 ·rw [if_pos d4] at H
                  have d4b : decide (Y > X) = true := decide_eq_true d4
                  have d4c : decide (X < Y) = true := decide_eq_true d4
                  clear d4
                  have H' := Az.mk H
                  clear H
                  go_wp2
                  go_quiet (fail)
                  go_wp2
                  go_roundg k3
                  case measure => have := HK3.out; omega
                  case rel => exact ⟨_, rfl, H', ⟨by have := HK3.out; omega⟩, ⟨by first | exact HO.out | exact Kd.R_drewN HO.out _⟩, ⟨by first | exact HB.out | exact pbN HB.out _⟩, ⟨by first | exact HOw.out | exact Kd.R_drewN HOw.out _⟩⟩
                 ·rw [if_neg d4] at H
                  have d4b : decide (Y > X) = false := decide_eq_false d4
                  have d4c : decide (X < Y) = false := decide_eq_false d4
                  clear d4
                  have H' := Az.mk H
                  clear H
                  obtain ⟨Q, hQ0⟩ : ∃ j_ : Int, wrap64 (q_1 + 1) = j_ := ⟨_, rfl⟩
                  have hQw : IntKind.i64.wrap (q_1 + 1) = Q := (i64_w _).trans hQ0
                  have hQ := Az.mk (show Q = q_1 + 1 from by rw [← hQ0]; exact tt_w hq0.out hq1.out LM.out)
                  clear hQ0
                  go_wp2
                  go_quiet (fail)
                  go_wp2_with (first | ((with_reducible refine gate_builtin (b := .append) (xs := #[.tmp 58, .tmp 59]) rfl ?_); at_builtin; refine Kd.R_append tt_k (w0 := w) w.heap.size rfl (.tmp 58) (.tmp 59) 22 29 (.slice none 0 0) 24 rfl Try.underlying22 info29 rfl (by decide) (by omega) (.slice (some ⟨g0, 0, none⟩) ps.length c) ps (([] : List Int), 0) [.slice none 0 0] (fun _ => True) (fun _ => False) rfl rfl ?aP (fun _ hk => hk.elim) ?aF ?aO ?aB ?aS ?aL ?_; (case aP => exact ⟨_, rfl, Kd.R_nil _ _ _ _ _⟩); (case aB => exact (by repeat (first | (with_reducible first | exact HB.out | apply pbN) | exact HB.out))); (case aF => exact (fun k_ hk_ => trivial)); (case aO => exact (by (with_reducible repeat (first | apply Kd.R_alloc | apply Kd.R_drewN | apply Kd.R_drew)); exact HO.out)); (case aS => exact HB.out.size); (case aL => have := LM.out; omega); intro v1 W6 ho hb hg hat; obtain ⟨A2, c2, e2⟩ := Kd.R_slice ho; subst e2; have HO2 := Az.mk (show tt_k.R 29 W6 w.heap.size (fun _ => True) (.slice A2 (ps.length + 1) c2) (ps ++ [(([] : List Int), 0)]) from by rw [show ps.length + 1 = (ps ++ [(([] : List Int), 0)]).length from by simp]; exact ho); have HB2 := Az.mk hb; have HOw2 := Az.mk (Kd.R_over (by first | exact HOw.out | exact Kd.R_drewN HOw.out _) (by first | exact HO.out | exact Kd.R_drewN HO.out _) tt_ht hg); clear ho hb hg hat HO HB HOw; have HB := HB2; have HOw := HOw2; clear HB2 HOw2; obtain ⟨g, eg⟩ := tt_some HO2.out (by rw [List.length_append]; simp); subst eg))
                  obtain ⟨i0, hi0, _, hsz0, _⟩ := info_parts info29
                  obtain ⟨DD, hDD0⟩ : ∃ D_ : Option Addr, (if c2 = Q.toNat then some (⟨g, 0, none⟩ : Addr) else some ⟨g, Q.toNat, none⟩) = D_ := ⟨_, rfl⟩
                  obtain ⟨SS, hSS0⟩ : ∃ D_ : Option Addr, (if c2 = q_1.toNat then some (⟨g, 0, none⟩ : Addr) else some ⟨g, q_1.toNat, none⟩) = D_ := ⟨_, rfl⟩
                  have hnc := (Kd.R_reads' HO2.out).2.1
                  have hDD := Az.mk (show q_1 < (ps.length : Int) → DD = some ⟨g, q_1.toNat + 1, none⟩ from fun h_ => by rw [← hDD0, if_neg (by rw [hQ.out]; have := hq0.out; omega), hQ.out]; congr 2; have := hq0.out; omega)
                  have hSS := Az.mk (show SS = some ⟨g, q_1.toNat, none⟩ from by rw [← hSS0, if_neg (by have := hq0.out; have := hq1.out; omega)])
                  have zQ0 : (0 ≤ Q) = True := eq_true (by rw [hQ.out]; have := hq0.out; omega)
                  have zQ1 : (Q ≤ (ps.length : Int) + 1) = True := eq_true (by rw [hQ.out]; have := hq1.out; omega)
                  have zq0 : (0 ≤ q_1) = True := eq_true hq0.out
                  have zq1 : (q_1 ≤ (ps.length : Int) + 1) = True := eq_true (by have := hq1.out; omega)
                  clear hnc
                  refine start_ (n := 8) (S := fun w' => True) (ds := [7]) #[false, false, false, false, false, false, false, false] (by kernel_rfl) rfl rfl trivial (fun hHeld => ?_)
                  refine with_tabW impl_TurnTriangles.tab19 impl_TurnTriangles.bits19 (fun HT_ HW_ => ?_)
                  have HBn := Az.mk (bwD HB.out)
                  have HOn := Az.mk (Kd.R_drew HO2.out)
                  have HWn := Az.mk (Kd.R_drew HOw.out)
                  clear HB HO2 HOw
                  have HB := HBn
                  have HO2 := HOn
                  have HOw := HWn
                  clear HBn HOn HWn
                  generalize W6.drew = wd at HB HO2 HOw hHeld ⊢
                  obtain ⟨cur, inner, hcur0, hc1, hc2, hc3, hc4, hc5, hc60, hc70, hc80⟩ := tt_own HO2.out
                  have hcur := Az.mk hcur0
                  have hc6 := Az.mk hc60
                  have hc7 := Az.mk hc70
                  have hc8 := Az.mk hc80
                  have hil := Az.mk (show inner.length = ps.length + 1 from by have := hc60.1; rw [List.length_append, List.length_singleton, Nat.mul_one] at this; exact this)
                  clear hcur0 hc60 hc70 hc80
                  have hcl := Az.mk (show ((inner.take ps.length).drop q_1.toNat).length = ps.length - q_1.toNat from by rw [List.length_drop, List.length_take]; have := hil.out; omega)
                  have hcn := Az.mk (show ((inner.take ps.length).drop q_1.toNat).length = Nat.min (ps.length + 1 - q_1.toNat) (ps.length + 1 - Q.toNat) from by rw [hcl.out]; have e2 := hQ.out; have e3 := hq0.out; have e4 := hq1.out; show _ = min _ _; omega)
                  have hcp := Az.mk (show 0 < ((inner.take ps.length).drop q_1.toNat).length → DD = some ⟨g, q_1.toNat + 1, none⟩ ∧ ∃ ad, SS = some ad ∧ ∀ j v, ((inner.take ps.length).drop q_1.toNat)[j]? = some v → wd.cell? (ad.add j) = some v from by
                   intro hlen
                   rw [hcl.out] at hlen
                   have e2 := hQ.out
                   have e3 := hq0.out
                   have e4 := hq1.out
                   refine ⟨hDD.out (by omega), ⟨g, q_1.toNat, none⟩, hSS.out, fun j v hv => ?_⟩
                   rw [List.getElem?_drop, List.getElem?_take] at hv
                   split at hv
                   ·have ea : (⟨g, q_1.toNat, none⟩ : Addr).add j = ⟨g, q_1.toNat + j, none⟩ := by
                     unfold Addr.add
                     by_cases e : j = 0
                     ·rw [if_pos e, e, Nat.add_zero]
                     ·rw [if_neg e]
                    rw [ea]
                    exact hc8.out _ _ hv
                   ·cases hv)
                  have hcf := Az.mk (show q_1.toNat + 1 + ((inner.take ps.length).drop q_1.toNat).length ≤ cur.length from by rw [hcl.out]; have e3 := hq0.out; have e4 := hq1.out; omega)
                  refine pure_ (i := 0) (N := some 61) (v := ?_) (a' := ?_) #[true, false, false, false, false, false, false, false] rfl rfl (any_of HT_.out (by kernel_rfl)) (fun _ _ _ h => h) (Or.inl ⟨by rfl, ?_⟩) ?_ ?_
                  rotate_left
                  ·intro w'
                   go_simp
                   with_reducible rfl
                  rotate_left
                  ·simp only [Act.put, List.setIfInBounds_toArray, List.set_cons_zero, List.set_cons_succ, i64_w, i32_w]
                   rfl
                  refine pure_ (i := 1) (N := some 62) (v := ?_) (a' := ?_) #[true, true, false, false, false, false, false, false] rfl rfl (any_of HT_.out (by kernel_rfl)) (fun _ _ _ h => h) (Or.inl ⟨by rfl, ?_⟩) ?_ ?_
                  rotate_left
                  ·intro w'
                   go_simp
                   with_reducible rfl
                  rotate_left
                  ·simp only [Act.put, List.setIfInBounds_toArray, List.set_cons_zero, List.set_cons_succ, i64_w, i32_w]
                   rfl
                  refine pure_ (i := 2) (N := some 63) (v := ?_) (a' := ?_) #[true, true, true, false, false, false, false, false] rfl rfl (any_of HT_.out (by kernel_rfl)) (fun _ _ _ h => h) (Or.inl ⟨by rfl, ?_⟩) ?_ ?_
                  rotate_left
                  ·intro w'
                   go_simp
                   with_reducible rfl
                  rotate_left
                  ·simp only [Act.put, List.setIfInBounds_toArray, List.set_cons_zero, List.set_cons_succ, i64_w, i32_w]
                   rfl
                  refine pure_ (i := 3) (N := some 64) (v := ?_) (a' := ?_) #[true, true, true, true, false, false, false, false] rfl rfl (any_of HT_.out (by kernel_rfl)) (fun _ _ _ h => h) (Or.inl ⟨by rfl, ?_⟩) ?_ ?_
                  rotate_left
                  ·intro w'
                   go_simp
                   with_reducible rfl
                  rotate_left
                  ·simp only [Act.put, List.setIfInBounds_toArray, List.set_cons_zero, List.set_cons_succ, i64_w, i32_w]
                   rfl
                  refine pure_ (i := 4) (N := some 65) (v := ?_) (a' := ?_) #[true, true, true, true, true, false, false, false] rfl rfl (any_of HT_.out (by kernel_rfl)) (fun _ _ _ h => h) (Or.inl ⟨by rfl, ?_⟩) ?_ ?_
                  rotate_left
                  ·intro w'
                   go_simp
                   with_reducible rfl
                  rotate_left
                  ·simp only [Act.put, List.setIfInBounds_toArray, List.set_cons_zero, List.set_cons_succ, i64_w, i32_w]
                   rfl
                  refine pure_ (i := 5) (N := some 66) (v := ?_) (a' := ?_) #[true, true, true, true, true, true, false, false] rfl rfl (any_of HT_.out (by kernel_rfl)) (fun _ _ _ h => h) (Or.inl ⟨by rfl, ?_⟩) ?_ ?_
                  rotate_left
                  ·intro w'
                   go_simp
                   with_reducible rfl
                  rotate_left
                  ·simp only [Act.put, List.setIfInBounds_toArray, List.set_cons_zero, List.set_cons_succ, i64_w, i32_w]
                   rfl
                  refine pure_ (i := 6) (N := some 67) (v := ?_) (a' := ?_) #[true, true, true, true, true, true, true, false] rfl rfl (any_of HT_.out (by kernel_rfl)) (fun _ _ _ h => h) (Or.inl ⟨by rfl, ?_⟩) ?_ ?_
                  rotate_left
                  ·intro w'
                   go_simp
                   with_reducible rfl
                  rotate_left
                  ·simp only [Act.put, List.setIfInBounds_toArray, List.set_cons_zero, List.set_cons_succ, i64_w, i32_w]
                   rfl
                  refine last_ (i := 7) (N := some 68) #[true, true, true, true, true, true, true, true] rfl rfl (one_of HT_.out (by kernel_rfl)) (by decide) (fun K hK => ?_)
                  refine step_copy_keep rfl (.tmp 64) (.tmp 67) 22 22 rfl 29 Try.underlying22 (by rw [hi0]; exact congrArg some hsz0) DD SS _ _ _ _ (by rfl) (by rfl) g (q_1.toNat + 1) cur 29 hcur.out ((inner.take ps.length).drop q_1.toNat) hcn.out hcp.out hcf.out (fun v hv => hc7.out v (List.mem_of_mem_take (List.mem_of_mem_drop hv))) ?_
                  intro W4 HG4 HB4
                  refine hK.out _ _ ?_
                  clear hK K
                  refine done_ (done_of HT_.out (by kernel_rfl)) ?_
                  have HO4 := Az.mk (tt_back (q := q_1.toNat) rfl (by have := hq0.out; have := hq1.out; omega) hc6.out hc1 hc2 hc3 hc4 hc5 HG4.out HB4.out)
                  have HB5 := Az.mk (HB.out.grown HB4.out HB.out.size (fun k_ hk_ => by injection hk_ with hk_; rw [← hk_]; exact hc5))
                  have HOw4 := Az.mk (Kd.R_mono (ok' := fun _ => True) (Kd.R_grown (tt_ne (N := 0) HO2.out HOw.out) HB4.out (fun k_ hk_ e_ => by injection e_ with e_; exact hk_.2 e_)) (fun _ _ => trivial))
                  clear hDD0 hSS0 hDD hSS zQ0 zQ1 zq0 zq1 hHeld HO2 hcur hcn hcp hcf hcl hil HG4 HB4 HB HOw hc1 hc2 hc3 hc4 hc5 hc6 hc7 hc8 hQw
                  obtain ⟨u4, hx4, hf4, zn4⟩ := tt_cell HO4.out hq0.out (show q_1 < (((ps ++ [(([] : List Int), 0)]).take (q_1.toNat + 1) ++ ps.drop q_1.toNat).length : Int) from by rw [List.length_append, List.length_take, List.length_drop, List.length_append]; have := hq0.out; have := hq1.out; simp; omega)
                  have fin4 := tt_done hq0.out hq1.out HO4.out HB5.out HOw4.out HLB.out
                  have zq0 := eq_true hq0.out
                  have zq1 := eq_true zn4
                  have zq2 : (q_1 < (ps.length : Int) + 1) = True := eq_true (by have := hq1.out; omega)
                  clear zn4
                  go_wp2
                  all_goals (go_roundg k3; (case measure => have := HK1.out; have := HK2.out; have := HK3.out; omega); (case rel => (have E := fin4.out _ (by first | exact ⟨_, rfl⟩ | exact Drawn0.refl _); have el : ps.length + 1 = (ps.take q_1.toNat ++ ((own, go) :: ps.drop q_1.toNat)).length := (by rw [List.length_append, List.length_cons, List.length_take, List.length_drop]; have := hq0.out; have := hq1.out; omega); exact ⟨ps.take q_1.toNat ++ ((own, go) :: ps.drop q_1.toNat), _, _, c2, (by rw [el]), rfl, ⟨by rw [tt_map]; exact H'.out⟩, ⟨by have := HK1.out; have := HK2.out; have := HK3.out; omega⟩, ⟨(by rw [← el]; exact E.1)⟩, ⟨E.2.1⟩, ⟨E.2.2⟩⟩)))
                ·rw [if_neg e1] at H
                 exact absurd H (by simp)
               ·rw [if_neg d3] at H
                have d3b : decide (q_1 > 0) = false := decide_eq_false d3
                have d3c : decide (0 < q_1) = false := decide_eq_false d3
                clear d0 d1 d2 d3
                have H' := Az.mk H
                clear H
                obtain ⟨Q, hQ0⟩ : ∃ j_ : Int, wrap64 (q_1 + 1) = j_ := ⟨_, rfl⟩
                have hQw : IntKind.i64.wrap (q_1 + 1) = Q := (i64_w _).trans hQ0
                have hQ := Az.mk (show Q = q_1 + 1 from by rw [← hQ0]; exact tt_w hq0.out hq1.out LM.out)
                clear hQ0
                go_wp2
                go_quiet (fail)
                go_wp2_with (first | ((with_reducible refine gate_builtin (b := .append) (xs := #[.tmp 58, .tmp 59]) rfl ?_); at_builtin; refine Kd.R_append tt_k (w0 := w) w.heap.size rfl (.tmp 58) (.tmp 59) 22 29 (.slice none 0 0) 24 rfl Try.underlying22 info29 rfl (by decide) (by omega) (.slice A ps.length c) ps (([] : List Int), 0) [.slice none 0 0] (fun _ => True) (fun _ => False) rfl rfl ?aP (fun _ hk => hk.elim) ?aF ?aO ?aB ?aS ?aL ?_; (case aP => exact ⟨_, rfl, Kd.R_nil _ _ _ _ _⟩); (case aB => exact (by repeat (first | (with_reducible first | exact HB.out | apply pbN) | exact HB.out))); (case aF => exact (fun k_ hk_ => trivial)); (case aO => exact (by (with_reducible repeat (first | apply Kd.R_alloc | apply Kd.R_drewN | apply Kd.R_drew)); exact HO.out)); (case aS => exact HB.out.size); (case aL => have := LM.out; omega); intro v1 W6 ho hb hg hat; obtain ⟨A2, c2, e2⟩ := Kd.R_slice ho; subst e2; have HO2 := Az.mk (show tt_k.R 29 W6 w.heap.size (fun _ => True) (.slice A2 (ps.length + 1) c2) (ps ++ [(([] : List Int), 0)]) from by rw [show ps.length + 1 = (ps ++ [(([] : List Int), 0)]).length from by simp]; exact ho); have HB2 := Az.mk hb; have HOw2 := Az.mk (Kd.R_over (by first | exact HOw.out | exact Kd.R_drewN HOw.out _) (by first | exact HO.out | exact Kd.R_drewN HO.out _) tt_ht hg); clear ho hb hg hat HO HB HOw; have HB := HB2; have HOw := HOw2; clear HB2 HOw2; obtain ⟨g, eg⟩ := tt_some HO2.out (by rw [List.length_append]; simp); subst eg))
                obtain ⟨i0, hi0, _, hsz0, _⟩ := info_parts info29
                obtain ⟨DD, hDD0⟩ : ∃ D_ : Option Addr, (if c2 = Q.toNat then some (⟨g, 0, none⟩ : Addr) else some ⟨g, Q.toNat, none⟩) = D_ := ⟨_, rfl⟩
                obtain ⟨SS, hSS0⟩ : ∃ D_ : Option Addr, (if c2 = q_1.toNat then some (⟨g, 0, none⟩ : Addr) else some ⟨g, q_1.toNat, none⟩) = D_ := ⟨_, rfl⟩
                have hnc := (Kd.R_reads' HO2.out).2.1
                have hDD := Az.mk (show q_1 < (ps.length : Int) → DD = some ⟨g, q_1.toNat + 1, none⟩ from fun h_ => by rw [← hDD0, if_neg (by rw [hQ.out]; have := hq0.out; omega), hQ.out]; congr 2; have := hq0.out; omega)
                have hSS := Az.mk (show SS = some ⟨g, q_1.toNat, none⟩ from by rw [← hSS0, if_neg (by have := hq0.out; have := hq1.out; omega)])
                have zQ0 : (0 ≤ Q) = True := eq_true (by rw [hQ.out]; have := hq0.out; omega)
                have zQ1 : (Q ≤ (ps.length : Int) + 1) = True := eq_true (by rw [hQ.out]; have := hq1.out; omega)
                have zq0 : (0 ≤ q_1) = True := eq_true hq0.out
                have zq1 : (q_1 ≤ (ps.length : Int) + 1) = True := eq_true (by have := hq1.out; omega)
                clear hnc
                refine start_ (n := 8) (S := fun w' => True) (ds := [7]) #[false, false, false, false, false, false, false, false] (by kernel_rfl) rfl rfl trivial (fun hHeld => ?_)
                refine with_tabW impl_TurnTriangles.tab19 impl_TurnTriangles.bits19 (fun HT_ HW_ => ?_)
                have HBn := Az.mk (bwD HB.out)
                have HOn := Az.mk (Kd.R_drew HO2.out)
                have HWn := Az.mk (Kd.R_drew HOw.out)
                clear HB HO2 HOw
                have HB := HBn
                have HO2 := HOn
                have HOw := HWn
                clear HBn HOn HWn
                generalize W6.drew = wd at HB HO2 HOw hHeld ⊢
                obtain ⟨cur, inner, hcur0, hc1, hc2, hc3, hc4, hc5, hc60, hc70, hc80⟩ := tt_own HO2.out
                have hcur := Az.mk hcur0
                have hc6 := Az.mk hc60
                have hc7 := Az.mk hc70
                have hc8 := Az.mk hc80
                have hil := Az.mk (show inner.length = ps.length + 1 from by have := hc60.1; rw [List.length_append, List.length_singleton, Nat.mul_one] at this; exact this)
                clear hcur0 hc60 hc70 hc80
                have hcl := Az.mk (show ((inner.take ps.length).drop q_1.toNat).length = ps.length - q_1.toNat from by rw [List.length_drop, List.length_take]; have := hil.out; omega)
                have hcn := Az.mk (show ((inner.take ps.length).drop q_1.toNat).length = Nat.min (ps.length + 1 - q_1.toNat) (ps.length + 1 - Q.toNat) from by rw [hcl.out]; have e2 := hQ.out; have e3 := hq0.out; have e4 := hq1.out; show _ = min _ _; omega)
                have hcp := Az.mk (show 0 < ((inner.take ps.length).drop q_1.toNat).length → DD = some ⟨g, q_1.toNat + 1, none⟩ ∧ ∃ ad, SS = some ad ∧ ∀ j v, ((inner.take ps.length).drop q_1.toNat)[j]? = some v → wd.cell? (ad.add j) = some v from by
                 intro hlen
                 rw [hcl.out] at hlen
                 have e2 := hQ.out
                 have e3 := hq0.out
                 have e4 := hq1.out
                 refine ⟨hDD.out (by omega), ⟨g, q_1.toNat, none⟩, hSS.out, fun j v hv => ?_⟩
                 rw [List.getElem?_drop, List.getElem?_take] at hv
                 split at hv
                 ·have ea : (⟨g, q_1.toNat, none⟩ : Addr).add j = ⟨g, q_1.toNat + j, none⟩ := by
                   unfold Addr.add
                   by_cases e : j = 0
                   ·rw [if_pos e, e, Nat.add_zero]
                   ·rw [if_neg e]
                  rw [ea]
                  exact hc8.out _ _ hv
                 ·cases hv)
                have hcf := Az.mk (show q_1.toNat + 1 + ((inner.take ps.length).drop q_1.toNat).length ≤ cur.length from by rw [hcl.out]; have e3 := hq0.out; have e4 := hq1.out; omega)
                refine pure_ (i := 0) (N := some 61) (v := ?_) (a' := ?_) #[true, false, false, false, false, false, false, false] rfl rfl (any_of HT_.out (by kernel_rfl)) (fun _ _ _ h => h) (Or.inl ⟨by rfl, ?_⟩) ?_ ?_
                rotate_left
                ·intro w'
                 go_simp
                 with_reducible rfl
                rotate_left
                ·simp only [Act.put, List.setIfInBounds_toArray, List.set_cons_zero, List.set_cons_succ, i64_w, i32_w]
                 rfl
                refine pure_ (i := 1) (N := some 62) (v := ?_) (a' := ?_) #[true, true, false, false, false, false, false, false] rfl rfl (any_of HT_.out (by kernel_rfl)) (fun _ _ _ h => h) (Or.inl ⟨by rfl, ?_⟩) ?_ ?_
                rotate_left
                ·intro w'
                 go_simp
                 with_reducible rfl
                rotate_left
                ·simp only [Act.put, List.setIfInBounds_toArray, List.set_cons_zero, List.set_cons_succ, i64_w, i32_w]
                 rfl
                refine pure_ (i := 2) (N := some 63) (v := ?_) (a' := ?_) #[true, true, true, false, false, false, false, false] rfl rfl (any_of HT_.out (by kernel_rfl)) (fun _ _ _ h => h) (Or.inl ⟨by rfl, ?_⟩) ?_ ?_
                rotate_left
                ·intro w'
                 go_simp
                 with_reducible rfl
                rotate_left
                ·simp only [Act.put, List.setIfInBounds_toArray, List.set_cons_zero, List.set_cons_succ, i64_w, i32_w]
                 rfl
                refine pure_ (i := 3) (N := some 64) (v := ?_) (a' := ?_) #[true, true, true, true, false, false, false, false] rfl rfl (any_of HT_.out (by kernel_rfl)) (fun _ _ _ h => h) (Or.inl ⟨by rfl, ?_⟩) ?_ ?_
                rotate_left
                ·intro w'
                 go_simp
                 with_reducible rfl
                rotate_left
                ·simp only [Act.put, List.setIfInBounds_toArray, List.set_cons_zero, List.set_cons_succ, i64_w, i32_w]
                 rfl
                refine pure_ (i := 4) (N := some 65) (v := ?_) (a' := ?_) #[true, true, true, true, true, false, false, false] rfl rfl (any_of HT_.out (by kernel_rfl)) (fun _ _ _ h => h) (Or.inl ⟨by rfl, ?_⟩) ?_ ?_
                rotate_left
                ·intro w'
                 go_simp
                 with_reducible rfl
                rotate_left
                ·simp only [Act.put, List.setIfInBounds_toArray, List.set_cons_zero, List.set_cons_succ, i64_w, i32_w]
                 rfl
                refine pure_ (i := 5) (N := some 66) (v := ?_) (a' := ?_) #[true, true, true, true, true, true, false, false] rfl rfl (any_of HT_.out (by kernel_rfl)) (fun _ _ _ h => h) (Or.inl ⟨by rfl, ?_⟩) ?_ ?_
                rotate_left
                ·intro w'
                 go_simp
                 with_reducible rfl
                rotate_left
                ·simp only [Act.put, List.setIfInBounds_toArray, List.set_cons_zero, List.set_cons_succ, i64_w, i32_w]
                 rfl
                refine pure_ (i := 6) (N := some 67) (v := ?_) (a' := ?_) #[true, true, true, true, true, true, true, false] rfl rfl (any_of HT_.out (by kernel_rfl)) (fun _ _ _ h => h) (Or.inl ⟨by rfl, ?_⟩) ?_ ?_
                rotate_left
                ·intro w'
                 go_simp
                 with_reducible rfl
                rotate_left
                ·simp only [Act.put, List.setIfInBounds_toArray, List.set_cons_zero, List.set_cons_succ, i64_w, i32_w]
                 rfl
                refine last_ (i := 7) (N := some 68) #[true, true, true, true, true, true, true, true] rfl rfl (one_of HT_.out (by kernel_rfl)) (by decide) (fun K hK => ?_)
                refine step_copy_keep rfl (.tmp 64) (.tmp 67) 22 22 rfl 29 Try.underlying22 (by rw [hi0]; exact congrArg some hsz0) DD SS _ _ _ _ (by rfl) (by rfl) g (q_1.toNat + 1) cur 29 hcur.out ((inner.take ps.length).drop q_1.toNat) hcn.out hcp.out hcf.out (fun v hv => hc7.out v (List.mem_of_mem_take (List.mem_of_mem_drop hv))) ?_
                intro W4 HG4 HB4
                refine hK.out _ _ ?_
                clear hK K
                refine done_ (done_of HT_.out (by kernel_rfl)) ?_
                have HO4 := Az.mk (tt_back (q := q_1.toNat) rfl (by have := hq0.out; have := hq1.out; omega) hc6.out hc1 hc2 hc3 hc4 hc5 HG4.out HB4.out)
                have HB5 := Az.mk (HB.out.grown HB4.out HB.out.size (fun k_ hk_ => by injection hk_ with hk_; rw [← hk_]; exact hc5))
                have HOw4 := Az.mk (Kd.R_mono (ok' := fun _ => True) (Kd.R_grown (tt_ne (N := 0) HO2.out HOw.out) HB4.out (fun k_ hk_ e_ => by injection e_ with e_; exact hk_.2 e_)) (fun _ _ => trivial))
                clear hDD0 hSS0 hDD hSS zQ0 zQ1 zq0 zq1 hHeld HO2 hcur hcn hcp hcf hcl hil HG4 HB4 HB HOw hc1 hc2 hc3 hc4 hc5 hc6 hc7 hc8 hQw
                obtain ⟨u4, hx4, hf4, zn4⟩ := tt_cell HO4.out hq0.out (show q_1 < (((ps ++ [(([] : List Int), 0)]).take (q_1.toNat + 1) ++ ps.drop q_1.toNat).length : Int) from by rw [List.length_append, List.length_take, List.length_drop, List.length_append]; have := hq0.out; have := hq1.out; simp; omega)
                have fin4 := tt_done hq0.out hq1.out HO4.out HB5.out HOw4.out HLB.out
                have zq0 := eq_true hq0.out
                have zq1 := eq_true zn4
                have zq2 : (q_1 < (ps.length : Int) + 1) = True := eq_true (by have := hq1.out; omega)
                clear zn4
                go_wp2
                all_goals (go_roundg k3; (case measure => have := HK1.out; have := HK2.out; have := HK3.out; omega); (case rel => (have E := fin4.out _ (by first | exact ⟨_, rfl⟩ | exact Drawn0.refl _); have el : ps.length + 1 = (ps.take q_1.toNat ++ ((own, go) :: ps.drop q_1.toNat)).length := (by rw [List.length_append, List.length_cons, List.length_take, List.length_drop]; have := hq0.out; have := hq1.out; omega); exact ⟨ps.take q_1.toNat ++ ((own, go) :: ps.drop q_1.toNat), _, _, c2, (by rw [el]), rfl, ⟨by rw [tt_map]; exact H'.out⟩, ⟨by have := HK1.out; have := HK2.out; have := HK3.out; omega⟩, ⟨(by rw [← el]; exact E.1)⟩, ⟨E.2.1⟩, ⟨E.2.2⟩⟩)))
              ·rw [if_neg d2] at H
               exact absurd H (by simp)
             ·rw [if_neg d1] at H
              exact absurd H (by simp)
            ·rw [if_neg d0] at H
             exact absurd H (by simp)
         ·rw [if_neg c6] at H
          exact absurd H (by simp)
     ·rw [if_neg b0] at H
      exact absurd H (by simp)
    ·rw [if_neg b1] at H
     have b1b : decide (i_1 < (l0.length : Int)) = false := decide_eq_false b1
     clear b1
     obtain rfl := Option.some.inj H
     go_wp2
     go_ret
     exact ⟨_, rfl, tt_S (by first | exact HO.out | exact Kd.R_drewN HO.out _) HLB.out.1, by first | exact HB.out | exact pbN HB.out _⟩
 ·rw [if_neg p1] at h
  replace p1 := Bool.eq_false_iff.mpr p1
  subst p1
  obtain rfl := Option.some.inj h
  go_enter Try.func9, Try.ntmps9
  go_wp2_with (first
   | (go_at_call 21; refine (impl_IsTriangulation.calls k A0 c0 l0 false _ (by first | exact Kd.C_drewN HR0.out _ | exact HR0.out) HC0.out T0.out).mono ?_; rintro e W0 ⟨rfl, hb⟩; have HB0 := Az.mk (bwT (by first | exact HBs.out | exact pbN HBs.out _) hb); clear hb T0 HBs))
  go_ret
  exact ⟨_, rfl, Kd.S_nil _ _ _ _ _, by first | exact HB0.out | exact pbN HB0.out _⟩

end Go.Proofs.Ytahokioglinpgaa.P
