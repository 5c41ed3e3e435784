-- By this session's driver (wip/tools/mk.py) of the kit's print program, over several statements at once. Not trusted: Lean checks it.
import Derived.Test.YtahokioglinpgaaQPx0
import Derived.Test.YtahokioglinpgaaQPx2
import Derived.Test.YtahokioglinpgaaQPx6
namespace Go.Proofs.Ytahokioglinpgaa.P
open Go.RowKit Go.Proofs.YtahokioglinpgaaW.PrintWords Go.Proofs.YtahokioglinpgaaW.PrintLast Go.Proofs.YtahokioglinpgaaW.PrintMore
attribute [local go_sem] max2_int min2_int max_two min_two max_three min_three max_four min_four   -- for this text's walks alone
set_option linter.unusedVariables false
set_option linter.unusedSimpArgs false

/-! ### spec_TurnTriangles: function 7 -/
abbrev stt_k : Kd (List Int × Nat) := Kd.tag (fun k : Nat => k) (Kd.slice 3 (Kd.int .i64))
theorem stt_some {α : Type} {d : Kd α} {e : Nat} {w : World} {base : Nat} {ok : Nat → Prop} {A : Option Addr} {n c : Nat} {out : List α} (HO : d.R e w base ok (.slice A n c) out) (h1 : 0 < out.length) : ∃ g : Nat, A = some ⟨g, 0, none⟩ := by
 obtain ⟨g, cap, eg, _⟩ := Kd.R_form HO h1
 injection eg with ea en ec
 exact ⟨g, ea⟩
/-- A row of one's own, read: its header, and it. -/
theorem stt_at {w : World} {base : Nat} {ok : Nat → Prop} {g n c : Nat} {out : List (List Int × Nat)} (HO : stt_k.R 29 w base ok (.slice (some ⟨g, 0, none⟩) n c) out) {Z : Int} (h0 : 0 ≤ Z) (h1 : Z < (out.length : Int)) :
  ∃ A1 c1, w.cell? ⟨g, Z.toNat, none⟩ = some (.slice A1 (rd_L1 (out.map Prod.fst) Z).length c1) ∧ (Z < (n : Int)) ∧ Kd.R (Kd.int .i64) 3 w base (fun _ => True) (.slice A1 (rd_L1 (out.map Prod.fst) Z).length c1) (rd_L1 (out.map Prod.fst) Z) := by
 have hn := (Kd.R_reads' HO).1
 obtain ⟨cs, hcl, hM, hcc, _⟩ := Kd.R_elem HO (([] : List Int), 0) Z h0 (by omega)
 obtain ⟨v, rfl, hv⟩ := hM
 have e : rd_L1 (out.map Prod.fst) Z = (out.getD Z.toNat (([] : List Int), 0)).1 := by
  unfold rd_L1
  rw [List.getD_eq_getElem?_getD, List.getD_eq_getElem?_getD, List.getElem?_map]
  cases out[Z.toNat]? <;> rfl
 rw [e]
 obtain ⟨A1, c1, rfl⟩ := Kd.R_slice hv
 have hc := hcc 0 _ rfl
 have e2 : Z.toNat * stt_k.sz + 0 = Z.toNat := by show Z.toNat * 1 + 0 = _; omega
 rw [e2] at hc
 exact ⟨A1, c1, hc, by omega, Kd.R_mono hv (fun _ _ => trivial)⟩
theorem stt_first {w : World} {base : Nat} {ok : Nat → Prop} {A : Option Addr} {n c : Nat} {x : List Int} (HO : Kd.R (Kd.int .i64) 3 w base ok (.slice A n c) x) (h1 : 0 < x.length) : ∃ g : Nat, A = some ⟨g, 0, none⟩ ∧ w.cell? ⟨g, 0, none⟩ = some (.int .i64 (rd x 0)) := by
 obtain ⟨g, rfl⟩ := stt_some HO h1
 have hn := (Kd.R_reads' HO).1
 exact ⟨g, rfl, (Kd.R_celln 0 HO 0 (by omega) (by omega)).1⟩
/-- Labels that are all different: the rows lie apart. -/
theorem stt_S {w : World} {base : Nat} {v : Value} {out : List (List Int × Nat)} (HO : stt_k.R 29 w base (fun _ => True) v out) (hd : (out.map Prod.snd).Nodup) : Kd.S (Kd.slice 3 (Kd.int .i64)) 29 w base (fun _ => True) v (out.map Prod.fst) := by
 obtain ⟨h0, inner, ho, hr⟩ := HO
 refine ⟨fun k => (out.map Prod.snd).idxOf k, h0, inner, by rw [List.length_zipIdx, List.length_map]; exact ho, by rw [List.length_zipIdx, List.length_map]; exact hr.1, fun j p hj => ?_⟩
 rw [List.getElem?_zipIdx, Nat.zero_add, List.getElem?_map] at hj
 obtain ⟨x, hx, rfl⟩ := Option.map_eq_some_iff.1 hj
 obtain ⟨y, hy, rfl⟩ := Option.map_eq_some_iff.1 hx
 obtain ⟨hlt, ey⟩ := List.getElem?_eq_some_iff.1 hy
 have hM : (Kd.slice 3 (Kd.int .i64)).M w base (fun k => (True ∧ some k ≠ v.ownBlock) ∧ k = y.2) y.1 ((inner.drop (j * 1)).take 1) := hr.2 j y hy
 refine (Kd.slice 3 (Kd.int .i64)).M_mono (fun k hk => ⟨hk.1, ?_⟩) hM
 rw [hk.2, ← ey]
 have := hd.idxOf_getElem j (by rw [List.length_map]; exact hlt)
 rw [List.getElem_map] at this
 exact this
theorem stt_labels {α : Type} {out : List (α × Nat)} {N go : Nat} {X : α} {q : Nat} (hd : (out.map Prod.snd).Nodup) (hN : ∀ p ∈ out, p.2 < N) (hg : N ≤ go) : ((out.take q ++ ((X, go) :: out.drop q)).map Prod.snd).Nodup ∧ ∀ p ∈ out.take q ++ ((X, go) :: out.drop q), p.2 < go + 1 := by
 have hp : List.Perm (out.take q ++ ((X, go) :: out.drop q)) ((X, go) :: out) := by
  refine List.perm_middle.trans ?_
  rw [List.take_append_drop]
 refine ⟨?_, fun p hp' => ?_⟩
 ·refine (hp.map Prod.snd).nodup_iff.2 ?_
  rw [List.map_cons]
  refine List.nodup_cons.2 ⟨fun h => ?_, hd⟩
  obtain ⟨p, hp1, hp2⟩ := List.mem_map.1 h
  have := hN p hp1
  omega
 ·rcases List.mem_cons.1 (hp.mem_iff.1 hp') with rfl | h
  ·show go < go + 1
   omega
  ·have := hN p h
   omega
theorem stt_w1 {q : Int} {n : Nat} (h0 : q > 0) (h1 : q ≤ (n : Int)) (h2 : n < 5864062014805) : wrap64 (q - 1) = q - 1 := by
 unfold wrap64
 omega
theorem stt_ht : ∀ q, q ∈ 3 :: (Kd.int .i64).E → q ≠ 29 := fun q hq => by
 have : q = 3 := by simpa [Kd.int, Kd.scalar] using hq
 subst this
 decide
theorem stt_head {w : World} {base : Nat} {ok : Nat → Prop} {g n c : Nat} {x : List Int} (HO : Kd.R (Kd.int .i64) 3 w base ok (.slice (some ⟨g, 0, none⟩) n c) x) (h1 : 0 < x.length) : w.cell? ⟨g, 0, none⟩ = some (.int .i64 (rd x 0)) := by
 have hn := (Kd.R_reads' HO).1
 exact (Kd.R_celln 0 HO 0 (by omega) (by omega)).1
theorem stt_map {ps : List (List Int × Nat)} {x : List Int} {go q : Nat} : (ps.take q ++ ((x, go) :: ps.drop q)).map Prod.fst = (ps.map Prod.fst).take q ++ (x :: (ps.map Prod.fst).drop q) := by
 rw [List.map_append, List.map_cons, List.map_take, List.map_drop]
theorem ts_cuts {A : Option Addr} {n c : Nat} (hn : n ≤ c) {q : Int} (h0 : 0 ≤ q) (h1 : q ≤ (n : Int)) : ∃ A' : Option Addr, (∀ W : World, (Instr.slice 22 (.slice A n c) (some (.int .i64 q)) none none).run Try.prog W = .ok (.slice A' (n - q.toNat) (c - q.toNat)) W) ∧ (∀ W : World, (Instr.slice 22 (.slice A n c) none (some (.int .i64 q)) none).run Try.prog W = .ok (.slice A q.toNat c) W) ∧ (∀ (α : Type) (R : α → List Value → Prop) (w : World) (ps : List α), ReadsRow R 1 w A n ps → ReadsRow R 1 w A' (n - q.toNat) (ps.drop q.toNat)) := by
 obtain ⟨i0, hi0, _, hsz0, _⟩ := info_parts info29
 have hel : (Try.prog).elem 22 = 29 := by simp [Program.elem, Try.underlying22]
 have hu : (Try.prog).underlying 22 = some (.slice ((Try.prog).elem 22)) := by rw [hel]; exact Try.underlying22
 obtain ⟨m, rfl⟩ := Int.eq_ofNat_of_zero_le h0
 simp only [Int.toNat_natCast]
 refine ⟨if c = m then A else A.map (·.add m), fun W => ?_, fun W => ?_, fun α R w ps h => ?_⟩
 ·rw [run_slice_l W 22 A n c hu .i64 (m : Int) (Int.natCast_nonneg _) (by omega), hel]
  simp [sizeOf, typeInfo, hi0, hsz0, sliced, Result.andThen]
 ·have ha : (A.map fun x => x.add 0) = A := by cases A <;> simp [Addr.add]
  rw [run_slice_h W 22 A n c hu .i64 (m : Int) (Int.natCast_nonneg _) (by omega), hel]
  simp [sizeOf, typeInfo, hi0, hsz0, sliced, Result.andThen, ha]
 ·have hl : (ps.drop m).length = n - m := by rw [List.length_drop, h.1]
  refine ⟨hl, by have := h.2.1; omega, fun hp => ?_⟩
  obtain ⟨ad, rfl, hcell⟩ := h.2.2 (by omega)
  rw [if_neg (by omega)]
  refine ⟨ad.add m, rfl, fun j p hj => ?_⟩
  rw [List.getElem?_drop] at hj
  obtain ⟨cs, h1, h2, h3⟩ := hcell (m + j) p hj
  refine ⟨cs, h1, h2, fun i u hu => ?_⟩
  rw [add_add, show m + (j * 1 + i) = (m + j) * 1 + i by omega]
  exact h3 i u hu
/-- The elements of one's own row, to be laid into another row that is made now. -/
theorem ts_rows {W W2 : World} {base n c : Nat} {A : Option Addr} {ps : List (List Int × Nat)} {vl : Value} (HO : stt_k.R 29 W base (fun _ => True) (.slice A n c) ps) (hb : Below W.heap.size W W2) (hl : ∀ k, vl.ownBlock = some k → W.heap.size ≤ k) : ReadsRow (stt_k.M W2 base (fun k => some k ≠ (Value.slice A n c).ownBlock ∧ some k ≠ vl.ownBlock)) 1 W2 A n ps := by
 obtain ⟨A', c', e, hlc, hr⟩ := OwnRow.reads (Kd.R_bound HO).2
 injection e with ea en ec
 subst ea
 subst en
 exact hr.imp_ hb (fun p cs h => stt_k.M_mono (fun k hk => ⟨hk.2, fun he => by have := hl k he.symm; have := hk.1.2.2.1; omega⟩) (Kd.M_below h hb))
theorem ts_keep {W W2 W3 : World} {v : Value} (hb : Below W.heap.size W W2) (hl : ∀ k, v.ownBlock = some k → W.heap.size ≤ k) (hg : W2.grownBy W3 v.ownBlock) : Below W.heap.size W W3 := hb.grown hg hb.size hl
theorem ts_below {W W2 : World} (hg : W.grownBy W2 none) : Below W.heap.size W W2 := ⟨hg.os, hg.tape, hg.output, hg.size, fun k hk => hg.block k hk (by simp)⟩
theorem ts_new {W : World} {v : Value} (hat : ∃ b, v.ownBlock = some b ∧ W.heap.size ≤ b) : ∀ k, v.ownBlock = some k → W.heap.size ≤ k := fun k hk => by
 obtain ⟨b, hb1, hb2⟩ := hat
 rw [hb1] at hk
 injection hk with hk
 omega
theorem ts_cap {A : Option Addr} {x y c : Nat} : (Value.slice A x c).ownBlock = (Value.slice A y c).ownBlock := by cases A <;> rfl
/-- The row's rest stays while the row is written. -/
theorem ts_rest {W : World} {base n c q : Nat} {A : Option Addr} {u : Value} {xs : List (List Int × Nat)} (h : stt_k.R 29 W base (fun k => some k ≠ (Value.slice A n c).ownBlock) u xs) : stt_k.R 29 W base (fun k => True ∧ some k ≠ (Value.slice A q c).ownBlock) u xs := Kd.R_mono h (fun k hk => ⟨trivial, by rw [ts_cap (y := n)]; exact hk⟩)
theorem ts_far {W : World} {base n c N : Nat} {A : Option Addr} {ps : List (List Int × Nat)} {go n1 c1 : Nat} {x : List Int} (HO : stt_k.R 29 W base (fun _ => True) (.slice A n c) ps) (hx : Kd.R (Kd.int .i64) 3 W base (fun _ => True) (.slice (some ⟨go, 0, none⟩) n1 c1) x) : some go ≠ (Value.slice A n c).ownBlock := fun he => by
 obtain ⟨cells, hc⟩ := Kd.R_typed HO go he.symm
 exact (Kd.R_types hx hc stt_ht).1 go (by simp [Value.ownBlock]) |>.2 rfl
theorem ts_M {W : World} {base go n1 c1 : Nat} {x : List Int} (hx : Kd.R (Kd.int .i64) 3 W base (fun _ => True) (.slice (some ⟨go, 0, none⟩) n1 c1) x) : stt_k.M W base (fun k => k = go) (x, go) [.slice (some ⟨go, 0, none⟩) n1 c1] :=
 ⟨_, rfl, Kd.R_mono (Kd.R_tight rfl hx) (fun k hk => by
  have : k = go := by simpa [Value.ownBlock] using hk
  exact ⟨this, this⟩)⟩
theorem ts_size {W W1 W2 : World} {u v : Option Nat} {base go n1 c1 : Nat} {x : List Int} (hx : Kd.R (Kd.int .i64) 3 W base (fun _ => True) (.slice (some ⟨go, 0, none⟩) n1 c1) x) (h1 : W.grownBy W1 u) (h2 : W1.grownBy W2 v) : go < W2.heap.size := by
 have a := Kd.R_lt hx go (by simp [Value.ownBlock])
 have b := h1.size
 have d := h2.size
 omega
theorem ts_labels {α : Type} {ps : List (α × Nat)} {go q N : Nat} {X : α} (hL : (ps.map Prod.snd).Nodup ∧ ∀ p ∈ ps, p.2 < go) (hN : go < N) : (((ps.take q ++ [(X, go)]) ++ ps.drop q).map Prod.snd).Nodup ∧ ∀ p ∈ (ps.take q ++ [(X, go)]) ++ ps.drop q, p.2 < N := by
 rw [List.append_assoc, List.singleton_append]
 obtain ⟨h3, h4⟩ := stt_labels (X := X) (q := q) hL.1 hL.2 (Nat.le_refl go)
 exact ⟨h3, fun p hp => by have := h4 p hp; omega⟩
theorem ts_map {ps : List (List Int × Nat)} {x : List Int} {go q : Nat} : ((ps.take q ++ [(x, go)]) ++ ps.drop q).map Prod.fst = (ps.map Prod.fst).take q ++ (x :: (ps.map Prod.fst).drop q) := by
 rw [List.append_assoc, List.singleton_append, stt_map]
theorem ts_reads {W : World} {base n c : Nat} {ok : Nat → Prop} {A : Option Addr} {xs : List (List Int × Nat)} (h : stt_k.R 29 W base ok (.slice A n c) xs) : ReadsRow (stt_k.M W base (fun k => ok k ∧ some k ≠ (Value.slice A n c).ownBlock)) 1 W A n xs := by
 obtain ⟨A', c', e, hlc, hr⟩ := OwnRow.reads h.2
 injection e with ea en ec
 subst ea
 subst en
 exact hr
mutual
def spec_TurnTriangles.l0 : Nat → List (List Int) → List (List Int) → Int → Option (List (List Int))
 | 0, _, _, _ => none
 | k + 1, t, out, i => if i < (t.length : Int) then (if 0 ≤ i then ((spec_l2Turn.f (rd_L1 t i) 0).bind fun row => (if 0 < row.length then spec_TurnTriangles.l1 k t out i row 1 else none)) else none) else some out
def spec_TurnTriangles.l1 : Nat → List (List Int) → List (List Int) → Int → List Int → Int → Option (List (List Int))
 | 0, _, _, _, _, _ => none
 | k + 1, t, out, i, row, j => if j < 3 then (if 0 ≤ j then (if j < ((rd_L1 t i).length : Int) then (if rd (rd_L1 t i) j < rd row 0 then ((spec_l2Turn.f (rd_L1 t i) j).bind fun row2 => (if 0 < row2.length then spec_TurnTriangles.l1 k t out i row2 (wrap64 (j + 1)) else none)) else spec_TurnTriangles.l1 k t out i row (wrap64 (j + 1))) else none) else none) else spec_TurnTriangles.l2 k t out i row (out.length : Int)
def spec_TurnTriangles.l2 : Nat → List (List Int) → List (List Int) → Int → List Int → Int → Option (List (List Int))
 | 0, _, _, _, _, _ => none
 | k + 1, t, out, i, own, q => if 0 ≤ q then (if q ≤ (out.length : Int) then (if out.length < 5864062014805 then (if q > 0 then (if 0 < (rd_L1 out (q - 1)).length then (if rd (rd_L1 out (q - 1)) 0 > rd own 0 then spec_TurnTriangles.l2 k t out i own (q - 1) else spec_TurnTriangles.l0 k t (out.take q.toNat ++ (own :: out.drop q.toNat)) (wrap64 (i + 1))) else none) else spec_TurnTriangles.l0 k t (out.take q.toNat ++ (own :: out.drop q.toNat)) (wrap64 (i + 1))) else none) else none) else none
end
def spec_TurnTriangles.f (k : Nat) (t : List (List Int)) : Option (List (List Int)) := (spec_IsTriangulation.f k t).bind fun b => if b = true then spec_TurnTriangles.l0 k t [] 0 else some []
theorem spec_TurnTriangles.mono_l : ∀ k, (∀ y0 y1 y2, LeO (spec_TurnTriangles.l0 k y0 y1 y2) (spec_TurnTriangles.l0 (k + 1) y0 y1 y2)) ∧ (∀ y0 y1 y2 y3 y4, LeO (spec_TurnTriangles.l1 k y0 y1 y2 y3 y4) (spec_TurnTriangles.l1 (k + 1) y0 y1 y2 y3 y4)) ∧ (∀ y0 y1 y2 y3 y4, LeO (spec_TurnTriangles.l2 k y0 y1 y2 y3 y4) (spec_TurnTriangles.l2 (k + 1) y0 y1 y2 y3 y4))
 | 0 => ⟨fun _ _ _ r h => by simp [spec_TurnTriangles.l0] at h, fun _ _ _ _ _ r h => by simp [spec_TurnTriangles.l1] at h, fun _ _ _ _ _ r h => by simp [spec_TurnTriangles.l2] at h⟩
 | k + 1 => by
  obtain ⟨ih0, ih1, ih2⟩ := spec_TurnTriangles.mono_l k
  refine ⟨?_, ?_, ?_⟩
  ·intro y0 y1 y2
   unfold spec_TurnTriangles.l0
   repeat' first
   | (with_reducible exact ih1 _ _ _ _ _)
   | (with_reducible exact LeO.refl _)
   | (with_reducible exact LeO.none _)
   | (with_reducible refine LeO.ite ?_ ?_)
   | (with_reducible refine LeO.bind ?_ (fun _ => ?_))
  ·intro y0 y1 y2 y3 y4
   unfold spec_TurnTriangles.l1
   repeat' first
   | (with_reducible exact ih1 _ _ _ _ _)
   | (with_reducible exact ih2 _ _ _ _ _)
   | (with_reducible exact LeO.refl _)
   | (with_reducible exact LeO.none _)
   | (with_reducible refine LeO.ite ?_ ?_)
   | (with_reducible refine LeO.bind ?_ (fun _ => ?_))
  ·intro y0 y1 y2 y3 y4
   unfold spec_TurnTriangles.l2
   repeat' first
   | (with_reducible exact ih0 _ _ _)
   | (with_reducible exact ih2 _ _ _ _ _)
   | (with_reducible exact LeO.refl _)
   | (with_reducible exact LeO.none _)
   | (with_reducible refine LeO.ite ?_ ?_)
theorem spec_TurnTriangles.mono : ∀ a0 k, LeO (spec_TurnTriangles.f k a0) (spec_TurnTriangles.f (k + 1) a0) := by
 intro a0 k
 unfold spec_TurnTriangles.f
 refine LeO.bind (spec_IsTriangulation.mono _ _) (fun _ => LeO.ite ((spec_TurnTriangles.mono_l k).1 _ _ _) (LeO.refl _))
set_option maxHeartbeats 16000000 in
set_option maxRecDepth 100000 in
theorem spec_TurnTriangles.calls (k : Nat) (A0 : Option Addr) (c0 : Nat) (l0 : List (List Int)) (r : List (List Int)) (w : World) (hr0 : Kd.C (Kd.slice 3 (Kd.int .i64)) w A0 l0.length l0) (hc0 : l0.length ≤ c0) (h : spec_TurnTriangles.f k l0 = some r) :
  Calls Try.prog 7 #[.slice A0 l0.length c0] w fun e w' => ∃ v0_ : Value, e = .returned (v0_) ∧ Kd.S (Kd.slice 3 (Kd.int .i64)) 29 w' w.heap.size (fun _ => True) v0_ r ∧ Below w.heap.size w w' := by
 have HR0 := Az.mk hr0
 have HC0 := Az.mk hc0
 clear hr0 hc0
 have HBs := Az.mk (Below.refl w.heap.size w)
 unfold spec_TurnTriangles.f at h
 replace h := Option.bind_eq_some_iff.mp h
 obtain ⟨b, T0, h⟩ := h
 have T0 := Az.mk T0
 by_cases p1 : b = true
 ·rw [if_pos p1] at h
  subst p1
  have H' := Az.mk h
  clear h
  go_enter Try.func7, Try.ntmps7
  go_wp2_with (first
   | ((with_reducible refine gtD (N := 9) rfl ?_); refine Kd.R_lit stt_k _ 29 ?hg (N := 9) ?hd (xs := ([] : List (List Int × Nat))) (inner := []) (ok := fun _ => True) (okp := fun _ => True) ?hr ?hp (fun _ hk => hk) trivial (Below.refl _ _) (Nat.le_refl _) (by simp) ?_; (case hd => rfl); (case hg => rfl); (case hr => first | (go_simp; done) | (go_simp; rfl)); (case hp => exact Reps.none _ _); intro v1 W1 ho hb hg hat; have HO := Az.mk (Kd.R_lower (base' := w.heap.size) ho (by first | exact HBs.out.size | exact (pbN HBs.out _).size)); have HB := Az.mk (bwT (by first | exact HBs.out | exact pbN HBs.out _) hb); clear ho hb hg hat HBs; obtain ⟨A, c, e2⟩ := Kd.R_slice HO.out; subst e2)
   | (go_at_call 18; refine (spec_IsTriangulation.calls k A0 c0 l0 true _ (by first | exact Kd.C_drewN (Kd.C_below HR0.out HB.out) _ | exact Kd.C_below HR0.out HB.out) HC0.out T0.out).mono ?_; rintro e W0 ⟨rfl, hb⟩; have HO0 := Az.mk (Kd.R_below (by first | exact HO.out | exact Kd.R_drewN HO.out _) hb); have HB0 := Az.mk (bwT (by first | exact HB.out | exact pbN HB.out _) hb); clear hb T0 HO HB; have HO := HO0; have HB := HB0; clear HO0 HB0))
  go_loopg [3, 4] k (fun kq v3 v4 w' => ∃ (ps : List (List Int × Nat)) (i_1 : Int) (A : Option Addr) (c : Nat), v3 = .slice A ps.length c ∧ v4 = .int .i64 i_1 ∧ Az (spec_TurnTriangles.l0 kq l0 (ps.map Prod.fst) i_1 = some r) ∧ Az (kq ≤ k) ∧ Az (stt_k.R 29 w' w.heap.size (fun _ => True) (.slice A ps.length c) ps) ∧ Az (Below w.heap.size w w') ∧ Az ((ps.map Prod.snd).Nodup ∧ ∀ p ∈ ps, p.2 < w'.heap.size))
  case atStart => exact ⟨[], 0, _, _, rfl, rfl, H', ⟨Nat.le_refl _⟩, ⟨by first | exact HO.out | exact Kd.R_drewN HO.out _⟩, ⟨by first | exact HB.out | exact pbN HB.out _⟩, ⟨List.nodup_nil, fun p hp => by cases hp⟩⟩
  case round =>
   clear H' HO HB
   obtain ⟨ps, i_1, A, c, rfl, rfl, HA, HK1, HO, HB, HLB⟩ := hrel
   cases gk with
   | zero => exact absurd HA.out (by simp [spec_TurnTriangles.l0])
   | succ k1 =>
    have H := HA.out
    clear HA
    simp only [spec_TurnTriangles.l0] at H
    by_cases b1 : i_1 < (l0.length : Int)
    ·rw [if_pos b1] at H
     by_cases b0 : 0 ≤ i_1
     ·rw [if_pos b0] at H
      obtain ⟨ad5, A5, c5, e5, hx5, hl5, hi5⟩ := at_L1 HR0.out i_1 b0 b1
      cases e5
      have HX5 := Az.mk hx5
      replace hx5 := (HB.out.cell (World.block_lt_of_cell? w _ hx5)).trans hx5
      obtain ⟨sd, hsd⟩ : ∃ s_ : List Int, rd_L1 l0 i_1 = s_ := ⟨_, rfl⟩
      rw [hsd] at hx5 hl5 hi5 H
      have HX5 := Az.mk (show _ from hsd ▸ HX5.out)
      have HCs := Az.mk hi5
      have HLs := Az.mk hl5
      have HSD := Az.mk hsd
      have b1b := decide_eq_true b1
      replace b0 := eq_true b0
      replace b1 := eq_true b1
      clear hsd hi5 hl5
      replace H := Option.bind_eq_some_iff.mp H
      obtain ⟨row0, T1, H⟩ := H
      have T1 := Az.mk T1
      by_cases c0' : 0 < row0.length
      ·rw [if_pos c0'] at H
       have HP0 := Az.mk c0'
       have H' := Az.mk H
       clear H c0'
       go_wp2_with (first
        | (go_at_call 19; refine (spec_l2Turn.calls _ c5 sd 0 row0 _ (by first | exact Kd.C_drewN (Kd.C_below HCs.out HB.out) _ | exact Kd.C_below HCs.out HB.out) HLs.out T1.out).mono ?_; rintro e W3 ⟨v3, rfl, ho, hb⟩; obtain ⟨Aw, cw2, ew⟩ := Kd.R_slice ho; subst ew; obtain ⟨go2, ego⟩ := stt_some ho HP0.out; subst ego; have HL3 := Az.mk (show (ps.map Prod.snd).Nodup ∧ ∀ p ∈ ps, p.2 < go2 from ⟨HLB.out.1, fun p hp => Nat.lt_of_lt_of_le (by first | exact HLB.out.2 p hp | exact Nat.lt_of_lt_of_le (HLB.out.2 p hp) (pbN (Below.refl 0 _) _).size) (Kd.R_base ho go2 (by simp [Value.ownBlock]))⟩); have HOw3 := Az.mk (Kd.R_lower (base' := w.heap.size) ho (by first | exact HB.out.size | exact (pbN HB.out _).size)); have HO3 := Az.mk (Kd.R_below (by first | exact HO.out | exact Kd.R_drewN HO.out _) hb); have HB3 := Az.mk (bwT (by first | exact HB.out | exact pbN HB.out _) hb); clear ho hb HO HB HLB T1; have HO := HO3; have HB := HB3; have HLB := HL3; have HOw := HOw3; clear HO3 HB3 HL3 HOw3))
       go_loopg [5, 6] k1 (fun kq v5 v6 w' => ∃ (row : List Int) (go cw : Nat) (j_1 : Int), v5 = .slice (some ⟨go, 0, none⟩) row.length cw ∧ v6 = .int .i64 j_1 ∧ Az (spec_TurnTriangles.l1 kq l0 (ps.map Prod.fst) i_1 row j_1 = some r) ∧ Az (kq ≤ k1) ∧ Az (0 < row.length) ∧ Az (stt_k.R 29 w' w.heap.size (fun _ => True) (.slice A ps.length c) ps) ∧ Az (Below w.heap.size w w') ∧ Az (Kd.R (Kd.int .i64) 3 w' w.heap.size (fun _ => True) (.slice (some ⟨go, 0, none⟩) row.length cw) row) ∧ Az ((ps.map Prod.snd).Nodup ∧ ∀ p ∈ ps, p.2 < go))
       case atStart => exact ⟨row0, go2, cw2, 1, rfl, rfl, H', ⟨Nat.le_refl _⟩, HP0, ⟨by first | exact HO.out | exact Kd.R_drewN HO.out _⟩, ⟨by first | exact HB.out | exact pbN HB.out _⟩, ⟨by first | exact HOw.out | exact Kd.R_drewN HOw.out _⟩, HLB⟩
       case round =>
        clear H' HO HB HLB HOw HP0
        try clear hx5
        obtain ⟨row, go, cw, j_1, rfl, rfl, HA, HK2, HP, HO, HB, HOw, HLB⟩ := hrel
        have hx5 := (HB.out.cell (World.block_lt_of_cell? w _ HX5.out)).trans HX5.out
        cases gk with
        | zero => exact absurd HA.out (by simp [spec_TurnTriangles.l1])
        | succ k2 =>
         have H := HA.out
         clear HA
         simp only [spec_TurnTriangles.l1] at H
         rw [HSD.out] at H
         by_cases c1 : j_1 < 3
         ·rw [if_pos c1] at H
          by_cases c2 : 0 ≤ j_1
          ·rw [if_pos c2] at H
           by_cases c4 : j_1 < (sd.length : Int)
           ·rw [if_pos c4] at H
            obtain ⟨adj, ej, hxj⟩ := Kd.at_int HCs.out j_1 c2 c4
            cases ej
            replace hxj := (HB.out.cell (World.block_lt_of_cell? w _ hxj)).trans hxj
            have hxo := stt_head HOw.out HP.out
            obtain ⟨X, hX⟩ : ∃ j_ : Int, rd sd j_1 = j_ := ⟨_, rfl⟩
            obtain ⟨Y, hY⟩ : ∃ j_ : Int, rd row 0 = j_ := ⟨_, rfl⟩
            rw [hX] at hxj H
            rw [hY] at hxo H
            have c1b := decide_eq_true c1
            replace c2 := eq_true c2
            replace c4 := eq_true c4
            have zo1 : ((0 : Int) < (row.length : Int)) = True := eq_true (by have := HP.out; omega)
            have zo2 : (0 < row.length) = True := eq_true HP.out
            clear hX hY c1
            by_cases c5' : X < Y
            ·rw [if_pos c5'] at H
             replace H := Option.bind_eq_some_iff.mp H
             obtain ⟨row2, T2, H⟩ := H
             have T2 := Az.mk T2
             by_cases c6 : 0 < row2.length
             ·rw [if_pos c6] at H
              have HP2 := Az.mk c6
              have c5b := decide_eq_true c5'
              have H' := Az.mk H
              clear H c5' c6
              go_wp2
              go_quiet (fail)
              go_wp2_with (first
               | (go_at_call 19; refine (spec_l2Turn.calls _ c5 sd j_1 row2 _ (by first | exact Kd.C_drewN (Kd.C_below HCs.out HB.out) _ | exact Kd.C_below HCs.out HB.out) HLs.out T2.out).mono ?_; rintro e W3 ⟨v3, rfl, ho, hb⟩; obtain ⟨Aw, cw2, ew⟩ := Kd.R_slice ho; subst ew; obtain ⟨go2, ego⟩ := stt_some ho HP2.out; subst ego; have HL3 := Az.mk (show (ps.map Prod.snd).Nodup ∧ ∀ p ∈ ps, p.2 < go2 from ⟨HLB.out.1, fun p hp => Nat.lt_of_lt_of_le (Nat.lt_trans (HLB.out.2 p hp) (Kd.R_lt (by first | exact HOw.out | exact Kd.R_drewN HOw.out _) go (by simp [Value.ownBlock]))) (Kd.R_base ho go2 (by simp [Value.ownBlock]))⟩); have HOw3 := Az.mk (Kd.R_lower (base' := w.heap.size) ho (by first | exact HB.out.size | exact (pbN HB.out _).size)); have HO3 := Az.mk (Kd.R_below (by first | exact HO.out | exact Kd.R_drewN HO.out _) hb); have HB3 := Az.mk (bwT (by first | exact HB.out | exact pbN HB.out _) hb); clear ho hb HO HB HLB T2 HOw; have HO := HO3; have HB := HB3; have HLB := HL3; have HOw := HOw3; clear HO3 HB3 HL3 HOw3))
              go_roundg k2
              case measure => have := HK2.out; omega
              case rel => exact ⟨row2, go2, cw2, _, rfl, rfl, H', ⟨by have := HK2.out; omega⟩, HP2, ⟨by first | exact HO.out | exact Kd.R_drewN HO.out _⟩, ⟨by first | exact HB.out | exact pbN HB.out _⟩, ⟨by first | exact HOw.out | exact Kd.R_drewN HOw.out _⟩, HLB⟩
             ·rw [if_neg c6] at H
              exact absurd H (by simp)
            ·rw [if_neg c5'] at H
             have c5b := decide_eq_false c5'
             have H' := Az.mk H
             clear H c5'
             go_wp2
             go_quiet (fail)
             go_wp2
             go_roundg k2
             case measure => have := HK2.out; omega
             case rel => exact ⟨row, go, cw, _, rfl, rfl, H', ⟨by have := HK2.out; omega⟩, HP, ⟨by first | exact HO.out | exact Kd.R_drewN HO.out _⟩, ⟨by first | exact HB.out | exact pbN HB.out _⟩, ⟨by first | exact HOw.out | exact Kd.R_drewN HOw.out _⟩, HLB⟩
           ·rw [if_neg c4] at H
            exact absurd H (by simp)
          ·rw [if_neg c2] at H
           exact absurd H (by simp)
         ·rw [if_neg c1] at H
          have c1b : decide (j_1 < 3) = false := decide_eq_false c1
          have H' := Az.mk H
          clear c1 H
          go_wp2
          go_loopg [7] k2 (fun kq v7 w' => ∃ (q_1 : Int), v7 = .int .i64 q_1 ∧ Az (spec_TurnTriangles.l2 kq l0 (ps.map Prod.fst) i_1 row q_1 = some r) ∧ Az (kq ≤ k2) ∧ Az (stt_k.R 29 w' w.heap.size (fun _ => True) (.slice A ps.length c) ps) ∧ Az (Below w.heap.size w w') ∧ Az (Kd.R (Kd.int .i64) 3 w' w.heap.size (fun _ => True) (.slice (some ⟨go, 0, none⟩) row.length cw) row))
          case atStart => exact ⟨_, rfl, ⟨by have := H'.out; rw [List.length_map] at this; exact this⟩, ⟨Nat.le_refl _⟩, ⟨by first | exact HO.out | exact Kd.R_drewN HO.out _⟩, ⟨by first | exact HB.out | exact pbN HB.out _⟩, ⟨by first | exact HOw.out | exact Kd.R_drewN HOw.out _⟩⟩
          case round =>
           clear H' HO HB HOw hx5
           obtain ⟨q_1, rfl, HA, HK3, HO, HB, HOw⟩ := hrel
           cases gk with
           | zero => exact absurd HA.out (by simp [spec_TurnTriangles.l2])
           | succ k3 =>
            have H := HA.out
            clear HA
            simp only [spec_TurnTriangles.l2, List.length_map] at H
            by_cases d0 : 0 ≤ q_1
            ·rw [if_pos d0] at H
             by_cases d1 : q_1 ≤ (ps.length : Int)
             ·rw [if_pos d1] at H
              by_cases d2 : ps.length < 5864062014805
              ·rw [if_pos d2] at H
               have LM := Az.mk d2
               have hq0 := Az.mk d0
               have hq1 := Az.mk d1
               by_cases d3 : q_1 > 0
               ·rw [if_pos d3] at H
                obtain ⟨g0, eg0⟩ := stt_some HO.out (by omega)
                subst eg0
                obtain ⟨Z, hZ⟩ : ∃ j_ : Int, q_1 - 1 = j_ := ⟨_, rfl⟩
                obtain ⟨A1, c1, hxr, znq, hR1⟩ := stt_at HO.out (show 0 ≤ Z by omega) (by omega)
                have z0 : (0 ≤ Z) = True := eq_true (by omega)
                have z1 := eq_true znq
                have d3b : decide (q_1 > 0) = true := decide_eq_true d3
                have d3c : decide (0 < q_1) = true := decide_eq_true d3
                have hqw : IntKind.i64.wrap (q_1 - 1) = Z := (i64_w _).trans ((stt_w1 d3 d1 d2).trans hZ)
                have hqw2 : wrap64 (q_1 - 1) = Z := (stt_w1 d3 d1 d2).trans hZ
                rw [hZ] at H
                clear hZ znq d0 d1 d2 d3
                by_cases e1 : 0 < (rd_L1 (ps.map Prod.fst) Z).length
                ·rw [if_pos e1] at H
                 obtain ⟨g1, eg1, hx1⟩ := stt_first hR1 e1
                 subst eg1
                 have hxo := stt_head HOw.out HP.out
                 obtain ⟨Y, hY⟩ : ∃ j_ : Int, rd (rd_L1 (ps.map Prod.fst) Z) 0 = j_ := ⟨_, rfl⟩
                 obtain ⟨X, hX⟩ : ∃ j_ : Int, rd row 0 = j_ := ⟨_, rfl⟩
                 rw [hY] at hx1 H
                 rw [hX] at hxo H
                 obtain ⟨n1, hn1⟩ : ∃ n_ : Nat, (rd_L1 (ps.map Prod.fst) Z).length = n_ := ⟨_, rfl⟩
                 rw [hn1] at hxr e1
                 have zn1 : ((0 : Int) < (n1 : Int)) = True := eq_true (by omega)
                 have zn2 : (0 < n1) = True := eq_true e1
                 have zo1 : ((0 : Int) < (row.length : Int)) = True := eq_true (by have := HP.out; omega)
                 have zo2 : (0 < row.length) = True := eq_true HP.out
                 clear hY hX hn1 hR1 e1
                 by_cases d4 : Y > X
                 ·rw [if_pos d4] at H
                  have d4b : decide (Y > X) = true := decide_eq_true d4
                  have d4c : decide (X < Y) = true := decide_eq_true d4
                  clear d4
                  have H' := Az.mk H
                  clear H
                  go_wp2
                  go_quiet (fail)
                  go_wp2
                  go_roundg k3
                  case measure => have := HK3.out; omega
                  case rel => exact ⟨_, rfl, H', ⟨by have := HK3.out; omega⟩, ⟨by first | exact HO.out | exact Kd.R_drewN HO.out _⟩, ⟨by first | exact HB.out | exact pbN HB.out _⟩, ⟨by first | exact HOw.out | exact Kd.R_drewN HOw.out _⟩⟩
                 ·rw [if_neg d4] at H
                  have d4b : decide (Y > X) = false := decide_eq_false d4
                  have d4c : decide (X < Y) = false := decide_eq_false d4
                  clear d4
                  have H' := Az.mk H
                  clear H
                  obtain ⟨DD, hcut1, hcut2, hrd0⟩ := ts_cuts (A := (some ⟨g0, 0, none⟩)) (Kd.R_reads' HO.out).2.1 hq0.out hq1.out
                  have hrd := Az.mk hrd0
                  clear hrd0
                  have hdl : ps.length - q_1.toNat = (ps.drop q_1.toNat).length := List.length_drop.symm
                  clear hdl
                  go_wp2
                  go_quiet (fail)
                  go_wp2_with (first | ((with_reducible refine gtD (N := 65) rfl ?_); refine Kd.R_lit stt_k (w0 := w) w.heap.size 29 ?hg (N := 65) ?hd (xs := ([] : List (List Int × Nat))) (inner := []) (ok := fun k => some k ≠ (Value.slice (some ⟨g0, 0, none⟩) ps.length c).ownBlock) (okp := fun _ => False) ?hr ?hp (fun _ hk => hk.elim) ?hf ?hB ?hS (by simp) ?_; (case hd => rfl); (case hg => rfl); (case hr => first | (go_simp; done) | (go_simp; rfl)); (case hp => exact Reps.none _ _); (case hf => exact fun he => Nat.lt_irrefl _ (Kd.R_lt (by first | exact HO.out | exact Kd.R_drewN HO.out _) _ he.symm)); (case hB => exact (by first | exact HB.out | exact pbN HB.out _)); (case hS => exact (by first | exact HB.out.size | exact (pbN HB.out _).size)); intro vl W2 ho hb hg hat; have HVl := Az.mk ho; have HNl := Az.mk (ts_new hat); have HBW := Az.mk (ts_below hg); have HRd := Az.mk (ts_rows (vl := vl) (by first | exact HO.out | exact Kd.R_drewN HO.out _) HBW.out HNl.out); have HFl := Az.mk (show ∀ k, W2.heap.size ≤ k → some k ≠ (Value.slice (some ⟨g0, 0, none⟩) ps.length c).ownBlock from fun k hk he => by have := Kd.R_lt (Kd.R_below (by first | exact HO.out | exact Kd.R_drewN HO.out _) HBW.out) k he.symm; omega); have HB2 := Az.mk hb; clear ho hb hg hat) | ((with_reducible refine gate_builtin (b := .append) (xs := #[.tmp 65, .tmp 68]) rfl ?_); at_builtin; refine Kd.R_append_rows stt_k (Rr := stt_k.M W2 w.heap.size (fun k => some k ≠ (Value.slice (some ⟨g0, 0, none⟩) ps.length c).ownBlock ∧ some k ≠ vl.ownBlock)) (w0 := w) w.heap.size rfl (.tmp 65) (.tmp 68) 22 29 (.slice none 0 0) 24 rfl Try.underlying22 info29 rfl (by decide) (by omega) vl [] (ps.drop q_1.toNat) _ _ _ (fun k => some k ≠ (Value.slice (some ⟨g0, 0, none⟩) ps.length c).ownBlock) (fun k => some k ≠ (Value.slice (some ⟨g0, 0, none⟩) ps.length c).ownBlock ∧ some k ≠ vl.ownBlock) rfl rfl ?aO ?aR (fun _ _ h => h) (fun k hk => hk) ?aF ?aB ?aS ?aL ?_; (case aR => exact hrd.out _ _ _ _ HRd.out); (case aB => exact HB2.out); (case aF => exact HFl.out); (case aO => exact HVl.out); (case aS => exact HB2.out.size); (case aL => have := LM.out; show (0 + _) * 24 ≤ _; omega); intro v1 W4 ho hb hg hat; obtain ⟨Ar, cr, er⟩ := Kd.R_slice ho; subst er; have HR := Az.mk (show stt_k.R 29 W4 w.heap.size (fun k => some k ≠ (Value.slice (some ⟨g0, 0, none⟩) ps.length c).ownBlock) (.slice Ar (ps.length - q_1.toNat) cr) (ps.drop q_1.toNat) from (show (([] : List (List Int × Nat)) ++ ps.drop q_1.toNat).length = ps.length - q_1.toNat by simp) ▸ ho); have HBX := Az.mk (ts_keep HBW.out HNl.out hg); have HO4 := Az.mk (Kd.R_below (by first | exact HO.out | exact Kd.R_drewN HO.out _) HBX.out); have HOw4 := Az.mk (Kd.R_below (by first | exact HOw.out | exact Kd.R_drewN HOw.out _) HBX.out); have HB4 := Az.mk hb; clear ho hb hat hg HVl HRd HFl HB2 HBX HBW HNl HO HOw HB; have HO := HO4; have HOw := HOw4; have HB := HB4; clear HO4 HOw4 HB4) | ((with_reducible refine gate_builtin (b := .append) (xs := #[.tmp 72, .tmp 74]) rfl ?_); at_builtin; refine Kd.R_append stt_k (w0 := w) w.heap.size rfl (.tmp 72) (.tmp 74) 22 29 (.slice none 0 0) 24 rfl Try.underlying22 info29 rfl (by decide) (by omega) (.slice (some ⟨g0, 0, none⟩) q_1.toNat c) (ps.take q_1.toNat) (row, go) [.slice (some ⟨go, 0, none⟩) row.length cw] (fun _ => True) (fun k => k = go) rfl rfl ?aP ?aK (fun _ _ => trivial) ?aO ?aB ?aS ?aL ?_; (case aP => exact ts_M (by first | exact HOw.out | exact Kd.R_drewN HOw.out _)); (case aK => exact fun k hk => ⟨trivial, by rw [hk, ts_cap (y := ps.length)]; exact ts_far (N := 0) (by first | exact HO.out | exact Kd.R_drewN HO.out _) (by first | exact HOw.out | exact Kd.R_drewN HOw.out _)⟩); (case aO => exact Kd.R_take (by first | exact HO.out | exact Kd.R_drewN HO.out _) (by have := hq0.out; have := hq1.out; omega)); (case aB => exact (by first | exact HB.out | exact pbN HB.out _)); (case aS => exact (by first | exact HB.out.size | exact (pbN HB.out _).size)); (case aL => have := LM.out; rw [List.length_take]; omega); intro v1 W5 ho hb hg hat; have HR5 := Az.mk (Kd.R_after (ts_rest (q := q_1.toNat) (by first | exact HR.out | exact Kd.R_drewN HR.out _)) hg hat); have HV5 := Az.mk ho; have HB5 := Az.mk hb; have HG5 := Az.mk hg; clear ho hb hg hat HR HO HB) | ((with_reducible refine gate_builtin (b := .append) (xs := #[.tmp 75, .tmp 76]) rfl ?_); at_builtin; refine Kd.R_append_rows stt_k (w0 := w) w.heap.size rfl (.tmp 75) (.tmp 76) 22 29 (.slice none 0 0) 24 rfl Try.underlying22 info29 rfl (by decide) (by omega) v1 (ps.take q_1.toNat ++ [(row, go)]) (ps.drop q_1.toNat) _ _ _ (fun _ => True) _ rfl rfl ?aO (ts_reads HR5.out) (fun _ _ h => h) ?aK (fun _ _ => trivial) ?aB ?aS ?aL ?_; (case aK => exact fun k hk => ⟨trivial, hk.1.2⟩); (case aB => exact HB5.out); (case aO => exact HV5.out); (case aS => exact HB5.out.size); (case aL => have := LM.out; have := hq0.out; have := hq1.out; rw [List.length_append, List.length_take, List.length_singleton]; omega); intro v2 W6 ho hb hg hat; have HS6 := Az.mk (show go < W6.heap.size from by first | exact ts_size HOw.out HG5.out hg | exact ts_size (Kd.R_drewN HOw.out _) HG5.out hg); obtain ⟨A6, c6, e6⟩ := Kd.R_slice ho; subst e6; have E6 := Az.mk (show ((ps.take q_1.toNat ++ [(row, go)]) ++ ps.drop q_1.toNat).length = ps.length + 1 from by rw [List.length_append, List.length_append, List.length_take, List.length_drop, List.length_singleton]; have := hq0.out; have := hq1.out; omega); rw [E6.out] at ho; have HO6 := Az.mk ho; have HB6 := Az.mk hb; clear ho hb hg hat HR5 HV5 HB5 HG5 HOw))
                  all_goals (go_roundg k3; (case measure => have := HK1.out; have := HK2.out; have := HK3.out; omega); (case rel => exact ⟨(ps.take q_1.toNat ++ [(row, go)]) ++ ps.drop q_1.toNat, _, A6, c6, (by rw [E6.out]; congr 1; have := hq0.out; have := hq1.out; omega), rfl, ⟨by rw [ts_map]; exact H'.out⟩, ⟨by have := HK1.out; have := HK2.out; have := HK3.out; omega⟩, ⟨by rw [E6.out]; first | exact HO6.out | exact Kd.R_drewN HO6.out _⟩, ⟨by first | exact HB6.out | exact pbN HB6.out _⟩, ⟨ts_labels HLB.out (by first | exact HS6.out | exact Nat.lt_of_lt_of_le HS6.out (pbN (Below.refl 0 _) _).size)⟩⟩))
                ·rw [if_neg e1] at H
                 exact absurd H (by simp)
               ·rw [if_neg d3] at H
                have d3b : decide (q_1 > 0) = false := decide_eq_false d3
                have d3c : decide (0 < q_1) = false := decide_eq_false d3
                clear d0 d1 d2 d3
                have H' := Az.mk H
                clear H
                obtain ⟨DD, hcut1, hcut2, hrd0⟩ := ts_cuts (A := A) (Kd.R_reads' HO.out).2.1 hq0.out hq1.out
                have hrd := Az.mk hrd0
                clear hrd0
                have hdl : ps.length - q_1.toNat = (ps.drop q_1.toNat).length := List.length_drop.symm
                clear hdl
                go_wp2
                go_quiet (fail)
                go_wp2_with (first | ((with_reducible refine gtD (N := 65) rfl ?_); refine Kd.R_lit stt_k (w0 := w) w.heap.size 29 ?hg (N := 65) ?hd (xs := ([] : List (List Int × Nat))) (inner := []) (ok := fun k => some k ≠ (Value.slice A ps.length c).ownBlock) (okp := fun _ => False) ?hr ?hp (fun _ hk => hk.elim) ?hf ?hB ?hS (by simp) ?_; (case hd => rfl); (case hg => rfl); (case hr => first | (go_simp; done) | (go_simp; rfl)); (case hp => exact Reps.none _ _); (case hf => exact fun he => Nat.lt_irrefl _ (Kd.R_lt (by first | exact HO.out | exact Kd.R_drewN HO.out _) _ he.symm)); (case hB => exact (by first | exact HB.out | exact pbN HB.out _)); (case hS => exact (by first | exact HB.out.size | exact (pbN HB.out _).size)); intro vl W2 ho hb hg hat; have HVl := Az.mk ho; have HNl := Az.mk (ts_new hat); have HBW := Az.mk (ts_below hg); have HRd := Az.mk (ts_rows (vl := vl) (by first | exact HO.out | exact Kd.R_drewN HO.out _) HBW.out HNl.out); have HFl := Az.mk (show ∀ k, W2.heap.size ≤ k → some k ≠ (Value.slice A ps.length c).ownBlock from fun k hk he => by have := Kd.R_lt (Kd.R_below (by first | exact HO.out | exact Kd.R_drewN HO.out _) HBW.out) k he.symm; omega); have HB2 := Az.mk hb; clear ho hb hg hat) | ((with_reducible refine gate_builtin (b := .append) (xs := #[.tmp 65, .tmp 68]) rfl ?_); at_builtin; refine Kd.R_append_rows stt_k (Rr := stt_k.M W2 w.heap.size (fun k => some k ≠ (Value.slice A ps.length c).ownBlock ∧ some k ≠ vl.ownBlock)) (w0 := w) w.heap.size rfl (.tmp 65) (.tmp 68) 22 29 (.slice none 0 0) 24 rfl Try.underlying22 info29 rfl (by decide) (by omega) vl [] (ps.drop q_1.toNat) _ _ _ (fun k => some k ≠ (Value.slice A ps.length c).ownBlock) (fun k => some k ≠ (Value.slice A ps.length c).ownBlock ∧ some k ≠ vl.ownBlock) rfl rfl ?aO ?aR (fun _ _ h => h) (fun k hk => hk) ?aF ?aB ?aS ?aL ?_; (case aR => exact hrd.out _ _ _ _ HRd.out); (case aB => exact HB2.out); (case aF => exact HFl.out); (case aO => exact HVl.out); (case aS => exact HB2.out.size); (case aL => have := LM.out; show (0 + _) * 24 ≤ _; omega); intro v1 W4 ho hb hg hat; obtain ⟨Ar, cr, er⟩ := Kd.R_slice ho; subst er; have HR := Az.mk (show stt_k.R 29 W4 w.heap.size (fun k => some k ≠ (Value.slice A ps.length c).ownBlock) (.slice Ar (ps.length - q_1.toNat) cr) (ps.drop q_1.toNat) from (show (([] : List (List Int × Nat)) ++ ps.drop q_1.toNat).length = ps.length - q_1.toNat by simp) ▸ ho); have HBX := Az.mk (ts_keep HBW.out HNl.out hg); have HO4 := Az.mk (Kd.R_below (by first | exact HO.out | exact Kd.R_drewN HO.out _) HBX.out); have HOw4 := Az.mk (Kd.R_below (by first | exact HOw.out | exact Kd.R_drewN HOw.out _) HBX.out); have HB4 := Az.mk hb; clear ho hb hat hg HVl HRd HFl HB2 HBX HBW HNl HO HOw HB; have HO := HO4; have HOw := HOw4; have HB := HB4; clear HO4 HOw4 HB4) | ((with_reducible refine gate_builtin (b := .append) (xs := #[.tmp 72, .tmp 74]) rfl ?_); at_builtin; refine Kd.R_append stt_k (w0 := w) w.heap.size rfl (.tmp 72) (.tmp 74) 22 29 (.slice none 0 0) 24 rfl Try.underlying22 info29 rfl (by decide) (by omega) (.slice A q_1.toNat c) (ps.take q_1.toNat) (row, go) [.slice (some ⟨go, 0, none⟩) row.length cw] (fun _ => True) (fun k => k = go) rfl rfl ?aP ?aK (fun _ _ => trivial) ?aO ?aB ?aS ?aL ?_; (case aP => exact ts_M (by first | exact HOw.out | exact Kd.R_drewN HOw.out _)); (case aK => exact fun k hk => ⟨trivial, by rw [hk, ts_cap (y := ps.length)]; exact ts_far (N := 0) (by first | exact HO.out | exact Kd.R_drewN HO.out _) (by first | exact HOw.out | exact Kd.R_drewN HOw.out _)⟩); (case aO => exact Kd.R_take (by first | exact HO.out | exact Kd.R_drewN HO.out _) (by have := hq0.out; have := hq1.out; omega)); (case aB => exact (by first | exact HB.out | exact pbN HB.out _)); (case aS => exact (by first | exact HB.out.size | exact (pbN HB.out _).size)); (case aL => have := LM.out; rw [List.length_take]; omega); intro v1 W5 ho hb hg hat; have HR5 := Az.mk (Kd.R_after (ts_rest (q := q_1.toNat) (by first | exact HR.out | exact Kd.R_drewN HR.out _)) hg hat); have HV5 := Az.mk ho; have HB5 := Az.mk hb; have HG5 := Az.mk hg; clear ho hb hg hat HR HO HB) | ((with_reducible refine gate_builtin (b := .append) (xs := #[.tmp 75, .tmp 76]) rfl ?_); at_builtin; refine Kd.R_append_rows stt_k (w0 := w) w.heap.size rfl (.tmp 75) (.tmp 76) 22 29 (.slice none 0 0) 24 rfl Try.underlying22 info29 rfl (by decide) (by omega) v1 (ps.take q_1.toNat ++ [(row, go)]) (ps.drop q_1.toNat) _ _ _ (fun _ => True) _ rfl rfl ?aO (ts_reads HR5.out) (fun _ _ h => h) ?aK (fun _ _ => trivial) ?aB ?aS ?aL ?_; (case aK => exact fun k hk => ⟨trivial, hk.1.2⟩); (case aB => exact HB5.out); (case aO => exact HV5.out); (case aS => exact HB5.out.size); (case aL => have := LM.out; have := hq0.out; have := hq1.out; rw [List.length_append, List.length_take, List.length_singleton]; omega); intro v2 W6 ho hb hg hat; have HS6 := Az.mk (show go < W6.heap.size from by first | exact ts_size HOw.out HG5.out hg | exact ts_size (Kd.R_drewN HOw.out _) HG5.out hg); obtain ⟨A6, c6, e6⟩ := Kd.R_slice ho; subst e6; have E6 := Az.mk (show ((ps.take q_1.toNat ++ [(row, go)]) ++ ps.drop q_1.toNat).length = ps.length + 1 from by rw [List.length_append, List.length_append, List.length_take, List.length_drop, List.length_singleton]; have := hq0.out; have := hq1.out; omega); rw [E6.out] at ho; have HO6 := Az.mk ho; have HB6 := Az.mk hb; clear ho hb hg hat HR5 HV5 HB5 HG5 HOw))
                all_goals (go_roundg k3; (case measure => have := HK1.out; have := HK2.out; have := HK3.out; omega); (case rel => exact ⟨(ps.take q_1.toNat ++ [(row, go)]) ++ ps.drop q_1.toNat, _, A6, c6, (by rw [E6.out]; congr 1; have := hq0.out; have := hq1.out; omega), rfl, ⟨by rw [ts_map]; exact H'.out⟩, ⟨by have := HK1.out; have := HK2.out; have := HK3.out; omega⟩, ⟨by rw [E6.out]; first | exact HO6.out | exact Kd.R_drewN HO6.out _⟩, ⟨by first | exact HB6.out | exact pbN HB6.out _⟩, ⟨ts_labels HLB.out (by first | exact HS6.out | exact Nat.lt_of_lt_of_le HS6.out (pbN (Below.refl 0 _) _).size)⟩⟩))
              ·rw [if_neg d2] at H
               exact absurd H (by simp)
             ·rw [if_neg d1] at H
              exact absurd H (by simp)
            ·rw [if_neg d0] at H
             exact absurd H (by simp)
      ·rw [if_neg c0'] at H
       exact absurd H (by simp)
     ·rw [if_neg b0] at H
      exact absurd H (by simp)
    ·rw [if_neg b1] at H
     have b1b : decide (i_1 < (l0.length : Int)) = false := decide_eq_false b1
     clear b1
     obtain rfl := Option.some.inj H
     go_wp2
     go_ret
     exact ⟨_, rfl, stt_S (by first | exact HO.out | exact Kd.R_drewN HO.out _) HLB.out.1, by first | exact HB.out | exact pbN HB.out _⟩
 ·rw [if_neg p1] at h
  replace p1 := Bool.eq_false_iff.mpr p1
  subst p1
  obtain rfl := Option.some.inj h
  go_enter Try.func7, Try.ntmps7
  go_wp2_with (first
   | ((with_reducible refine gtD (N := 9) rfl ?_); refine Kd.R_lit stt_k _ 29 ?hg (N := 9) ?hd (xs := ([] : List (List Int × Nat))) (inner := []) (ok := fun _ => True) (okp := fun _ => True) ?hr ?hp (fun _ hk => hk) trivial (Below.refl _ _) (Nat.le_refl _) (by simp) ?_; (case hd => rfl); (case hg => rfl); (case hr => first | (go_simp; done) | (go_simp; rfl)); (case hp => exact Reps.none _ _); intro v1 W1 ho hb hg hat; have HO := Az.mk (Kd.R_lower (base' := w.heap.size) ho (by first | exact HBs.out.size | exact (pbN HBs.out _).size)); have HB := Az.mk (bwT (by first | exact HBs.out | exact pbN HBs.out _) hb); clear ho hb hg hat HBs; obtain ⟨A, c, e2⟩ := Kd.R_slice HO.out; subst e2)
   | (go_at_call 18; refine (spec_IsTriangulation.calls k A0 c0 l0 false _ (by first | exact Kd.C_drewN (Kd.C_below HR0.out HB.out) _ | exact Kd.C_below HR0.out HB.out) HC0.out T0.out).mono ?_; rintro e W0 ⟨rfl, hb⟩; have HO0 := Az.mk (Kd.R_below (by first | exact HO.out | exact Kd.R_drewN HO.out _) hb); have HB0 := Az.mk (bwT (by first | exact HB.out | exact pbN HB.out _) hb); clear hb T0 HO HB; have HO := HO0; have HB := HB0; clear HO0 HB0))
  go_ret
  exact ⟨_, rfl, stt_S (out := []) (by first | exact HO.out | exact Kd.R_drewN HO.out _) List.nodup_nil, by first | exact HB.out | exact pbN HB.out _⟩

end Go.Proofs.Ytahokioglinpgaa.P
