-- By this session's driver (wip/tools/mk.py) of the kit's print program, over several statements at once. Not trusted: Lean checks it.
import Derived.Test.YtigcjehokbgclaaQWZip
import Derived.Test.YtigcjehokbgclaaQPx0
import Derived.Test.YtigcjehokbgclaaQPx2
import Derived.Test.YtigcjehokbgclaaQPx5
namespace Go.Proofs.Ytigcjehokbgclaa.P
open Go.RowKit Go.Proofs.YtigcjehokbgclaaW.PrintWords Go.Proofs.YtigcjehokbgclaaW.PrintLast Go.Proofs.YtigcjehokbgclaaW.PrintMore
attribute [local go_sem] max2_int min2_int max_two min_two max_three min_three max_four min_four   -- for this text's walks alone
set_option linter.unusedVariables false
set_option linter.unusedSimpArgs false
open Bool renaming true → T, false → F
theorem bw_6 {n : Nat} {v v' : World} (h : Below n v v' := by repeat (first | (with_reducible first | exact HB.out | apply bwA | apply pbN | apply bwD | refine bwS ?_ GE178.out) | exact HB.out)) : Below n v v' := h
theorem ln_6 {P : Prop} (h : P := by (try simp only [List.map_toArray, List.map_cons, List.map_nil]); first | done | rfl | (simp only [List.length_drop, List.length_take]; rfl)) : P := h
open Option renaming bind_eq_some_iff → be
theorem z6_6 {p : Prop} (h : p := by kernel_rfl) : p := h
theorem z6_5 {p : Prop} (h : p := by repeat (first | (with_reducible first | exact HI183.out | apply IsS68.alloc | apply IsS68.drewN | apply IsS68.drew | apply IsS68.set_1 | apply IsS68.set_2 | refine IsS68.far ?_ NB183_178.out _ | refine IsS68.far ?_ NB183_179.out _) | exact HI183.out)) : p := h
theorem z6_4 {p : Prop} (h : p := by repeat (first | (with_reducible first | exact HB.out | apply bwA | apply pbN | apply bwD | refine bwS ?_ (IsS68.ge HI183.out) | refine bwS ?_ GE178.out | refine bwS ?_ GE179.out) | exact HB.out)) : p := h
theorem z6_3 {p : Prop} (h : p := by repeat (first | (with_reducible first | exact HB.out | apply bwA | apply pbN | apply bwD | refine bwS ?_ (IsS68.ge HI183.out) | refine bwS ?_ GE178.out | refine bwS ?_ GE179.out | refine bwS ?_ GE188.out) | exact HB.out)) : p := h
theorem z6_2 {p : Prop} (h : p := by repeat (first | (with_reducible first | exact HI183.out | apply IsS68.alloc | apply IsS68.drewN | apply IsS68.drew | apply IsS68.set_1 | apply IsS68.set_2 | refine IsS68.far ?_ NB183_178.out _ | refine IsS68.far ?_ NB183_179.out _ | refine IsS68.far ?_ NB183_188.out _) | exact HI183.out)) : p := h
theorem z6_1 {p : Prop} (h : p := by repeat (first | (with_reducible first | exact HB.out | apply bwA | apply pbN | apply bwD | refine bwS ?_ (IsS68.ge HI183.out) | refine bwS ?_ GE178.out | refine bwS ?_ GE179.out | refine bwS ?_ GE188.out | refine bwS ?_ GE198.out) | exact HB.out)) : p := h
theorem z6_0 {p : Prop} (h : p := by repeat (first | (with_reducible first | exact HI183.out | apply IsS68.alloc | apply IsS68.drewN | apply IsS68.drew | apply IsS68.set_1 | apply IsS68.set_2 | refine IsS68.far ?_ NB183_178.out _ | refine IsS68.far ?_ NB183_179.out _ | refine IsS68.far ?_ NB183_188.out _ | refine IsS68.far ?_ NB183_198.out _) | exact HI183.out)) : p := h

/-! ### spec_l12Two: function 26 -/
def spec_l12Two.j0 : Nat → Bool → List Int → Int → Int → Int → Int → Int → Int → Option (Int × Int × Int × Int)
 | 0, _, _, _, _, _, _, _, _ => none
 | k + 1, x29, x184000, x184001, x184002, x189000, x189001, x199000, x199001 => if x29 = true then (some (x189000, x189001, x199000, x199001)) else ((spec_SlopeOf.f k x189000 (wrap64 (x189001 + 1))).bind fun bt202 => (if bt202.2.2 = true then (some (x189000, x189001, bt202.1, bt202.2.1)) else ((spec_l12Draw.f k x184000 x184001 x184002).bind fun bt206 => (some (x189000, x189001, bt206.1, bt206.2.1)))))
def spec_l12Two.f (k : Nat) (l0 : List Int) : Option (Int × Int × Int × Int) := (spec_l1New.f k l0).bind fun bt180 => ((spec_l12Draw.f k bt180.1 bt180.2.1 bt180.2.2).bind fun bt184 => ((spec_l1Once.f bt180.1 bt184.2.2.1 bt184.2.2.2 2).bind fun bt189 => (if bt189.1 = true then ((spec_l1Below.f bt180.1 bt189.2.1 bt189.2.2 5).bind fun bt192 => ((spec_TwistSlope.f k bt184.1 bt184.2.1 0 1 (wrap64 (bt192.1 - 2))).bind fun bt195 => (if bt195.2.2 = true then ((spec_l1Once.f bt180.1 bt192.2.1 bt192.2.2 2).bind fun bt199 => (spec_l12Two.j0 k bt199.1 bt180.1 bt199.2.1 bt199.2.2 bt184.1 bt184.2.1 bt195.1 bt195.2.1)) else (spec_l12Two.j0 k false bt180.1 bt192.2.1 bt192.2.2 bt184.1 bt184.2.1 bt195.1 bt195.2.1)))) else ((spec_l12Draw.f k bt180.1 bt189.2.1 bt189.2.2).bind fun bt210 => (some (bt184.1, bt184.2.1, bt210.1, bt210.2.1))))))
theorem spec_l12Two.mono_l : ∀ k, (∀ y0 y1 y2 y3 y4 y5 y6 y7, LeO (spec_l12Two.j0 k y0 y1 y2 y3 y4 y5 y6 y7) (spec_l12Two.j0 (k + 1) y0 y1 y2 y3 y4 y5 y6 y7))
 | 0 => fun _ _ _ _ _ _ _ _ r h => by simp [spec_l12Two.j0] at h
 | k + 1 => by
  have ih0 := spec_l12Two.mono_l k
  have i0 := fun z0 z1 z2 z3 z4 z5 z6 z7 => MoO.mk (ih0 z0 z1 z2 z3 z4 z5 z6 z7)
  ·intro y0 y1 y2 y3 y4 y5 y6 y7
   unfold spec_l12Two.j0
   exact mo_
theorem spec_l12Two.mono : ∀ a0 k, LeO (spec_l12Two.f k a0) (spec_l12Two.f (k + 1) a0) := by
 intro a0 k
 have ih0 := spec_l12Two.mono_l k
 have i0 := fun z0 z1 z2 z3 z4 z5 z6 z7 => MoO.mk (ih0 z0 z1 z2 z3 z4 z5 z6 z7)
 unfold spec_l12Two.f
 exact mo_
instance spec_l12Two.mi {a0 k} : MoO (spec_l12Two.f k a0) (spec_l12Two.f (k + 1) a0) := ⟨spec_l12Two.mono _ _⟩
def spec_l12Two.T4 : Bool × List (List Nat × List Nat) := (true, [([], []), ([], []), ([], []), ([2], [2]), ([3], [3]), ([0, 1, 4, 3], [0, 1, 4]), ([5], [5]), ([6], [6]), ([6], [6]), ([], []), ([9, 7, 5, 0, 1, 2, 3, 4, 5, 6, 7, 9], [7, 9]), ([8, 10, 0, 1, 2, 3, 4, 5, 6, 7, 8, 9, 10], [8])])
def spec_l12Two.B4 : List Nat := [0, 0, 0, 4, 12, 31, 63, 127, 127, 0, 767, 2047]
theorem spec_l12Two.tab4 : rtab .any (opsOf Try.f26 4) = spec_l12Two.T4 := by kernel_rfl
theorem spec_l12Two.bits4 : waitsOk spec_l12Two.T4.2 spec_l12Two.B4 = true := by kernel_rfl
set_option maxHeartbeats 8000000 in
set_option maxRecDepth 100000 in
theorem spec_l12Two.calls (k : Nat) (A0 : Option Addr) (c0 : Nat) (l0 : List Int) (r1 : Int) (r2 : Int) (r3 : Int) (r4 : Int) (w : World) (hr0 : Kd.C (Kd.int .u8) w A0 l0.length l0) (hc0 : l0.length ≤ c0) (h : spec_l12Two.f k l0 = some (r1, r2, r3, r4)) :
  Calls Try.prog 26 #[.slice A0 l0.length c0] w fun e w' => e = .returned (.tuple #[.agg #[.int .i64 r1, .int .i64 r2], .agg #[.int .i64 r3, .int .i64 r4]]) ∧ Below w.heap.size w w' := by
 have hu25 := Try.underlying25
 have HR0 := Az.mk hr0
 have HC0 := Az.mk hc0
 clear hr0 hc0
 have HB := Az.mk (Below.refl w.heap.size w)
 have H : ((spec_l1New.f k l0).bind fun bt180 => ((spec_l12Draw.f k bt180.1 bt180.2.1 bt180.2.2).bind fun bt184 => ((spec_l1Once.f bt180.1 bt184.2.2.1 bt184.2.2.2 2).bind fun bt189 => (if bt189.1 = true then ((spec_l1Below.f bt180.1 bt189.2.1 bt189.2.2 5).bind fun bt192 => ((spec_TwistSlope.f k bt184.1 bt184.2.1 0 1 (wrap64 (bt192.1 - 2))).bind fun bt195 => (if bt195.2.2 = true then ((spec_l1Once.f bt180.1 bt192.2.1 bt192.2.2 2).bind fun bt199 => (spec_l12Two.j0 k bt199.1 bt180.1 bt199.2.1 bt199.2.2 bt184.1 bt184.2.1 bt195.1 bt195.2.1)) else (spec_l12Two.j0 k false bt180.1 bt192.2.1 bt192.2.2 bt184.1 bt184.2.1 bt195.1 bt195.2.1)))) else ((spec_l12Draw.f k bt180.1 bt189.2.1 bt189.2.2).bind fun bt210 => (some (bt184.1, bt184.2.1, bt210.1, bt210.2.1))))))) = some (r1, r2, r3, r4) := h
 clear h
 replace H := bez H
 obtain ⟨⟨t180, t181, t182⟩, A2, H⟩ := H
 try dsimp only at H
 replace H := bez H
 obtain ⟨⟨t184, t185, t186, t187⟩, A3, H⟩ := H
 try dsimp only at H
 replace H := bez H
 obtain ⟨⟨t189, t190, t191⟩, A4, H⟩ := H
 try dsimp only at H
 by_cases c5 : t189 = true
 rotate_left
 ·replace c5 := Bool.eq_false_iff.mpr c5
  subst c5
  rw [if_neg (show ¬ (false = true) by decide)] at H
  replace H := bez H
  obtain ⟨⟨t210, t211, t212, t213⟩, A77, H⟩ := H
  try dsimp only at H
  simp only [Option.some.injEq, Prod.mk.injEq] at H
  obtain ⟨rfl, rfl, rfl, rfl⟩ := H
  go_enter Try.func26, Try.ntmps26
  try go_wp2_with (first | ((with_reducible refine gtD (N := 2) rfl ?_); refine bx (N := 2) (cs := #[.int .i64 0, .int .i64 0]) (t := 25) ?_; intro gb178 hg w78 hbox hb; have BK178 := Az.mk (hbox); have GW178 := gwz hg bw_6; have GE178 := gwz hg bw_6; replace HB := Az.mk (bwT bw_6 hb); clear hb hbox hg) | ((with_reducible refine gtD (N := 3) rfl ?_); refine bx (N := 3) (cs := #[.int .i64 0, .int .i64 0]) (t := 25) ?_; intro gb179 hg w79 hbox hb; have BK179 := Az.mk (hbox); have GW179 := gwz hg bw_6; have GE179 := gwz hg bw_6; replace HB := Az.mk (bwT bw_6 hb); have NB178_179 := nlt BK178 hg; have NB179_178 := ngt BK178 hg; replace BK178 := bkz BK178 hb; clear hb hbox hg) | ((with_reducible refine gtC (f := 29) rfl ?_); refine clz Try.func29 (some 11) #[.slice A0 l0.length c0] ?_; (with_reducible refine (spec_l1New.calls k _ _ l0 t180 t181 t182 w _ ?side1 ?side2 ?side3 A2.out).mono ?_); (case side1 => exact bw_6); (case side2 => exact HR0.out); (case side3 => exact HC0.out); rintro e w80 ⟨g183, rfl, hi, hb, hb2⟩; refine ⟨_, rfl, ?_⟩; replace HB := Az.mk (hb); have HI183 := Az.mk (hi); have NB183_178 := Az.mk (IsS68.ne_blk hi (bkB (g := gb178) (o := .cells #[.int .i64 0, .int .i64 0] 25 (0, 0)) (bk1 BK178) hb2) (by decide)); have NB178_183 := Az.mk (Ne.symm (IsS68.ne_blk hi (bkB (g := gb178) (o := .cells #[.int .i64 0, .int .i64 0] 25 (0, 0)) (bk1 BK178) hb2) (by decide))); replace BK178 := Az.mk (bkB (g := gb178) (o := .cells #[.int .i64 0, .int .i64 0] 25 (0, 0)) (bk1 BK178) hb2); have NB183_179 := Az.mk (IsS68.ne_blk hi (bkB (g := gb179) (o := .cells #[.int .i64 0, .int .i64 0] 25 (0, 0)) (bk1 BK179) hb2) (by decide)); have NB179_183 := Az.mk (Ne.symm (IsS68.ne_blk hi (bkB (g := gb179) (o := .cells #[.int .i64 0, .int .i64 0] 25 (0, 0)) (bk1 BK179) hb2) (by decide))); replace BK179 := Az.mk (bkB (g := gb179) (o := .cells #[.int .i64 0, .int .i64 0] 25 (0, 0)) (bk1 BK179) hb2); (try clear hb); (try clear hb2); (try clear hi)) | ((with_reducible refine gtC (f := 30) rfl ?_); refine clz Try.func30 (some 13) #[.pointer (some ⟨g183, 0, none⟩)] ?_; (with_reducible refine (spec_l12Draw.calls k g183 t180 t181 t182 t184 t185 t186 t187 w _ ?side1 ?side2 A3.out).mono ?_); (case side1 => exact z6_5); (case side2 => repeat (first | (with_reducible first | exact HB.out | apply bwA | apply pbN | apply bwD | refine bwS ?_ (IsS68.ge HI183.out) | refine bwS ?_ GE178.out | refine bwS ?_ GE179.out) | exact HB.out)); rintro e w81 ⟨rfl, hi, hb, hk⟩; refine ⟨_, rfl, ?_⟩; replace BK178 := bkk BK178 hk NB178_183; replace BK179 := bkk BK179 hk NB179_183; replace HB := Az.mk (hb); replace HI183 := Az.mk (hi); (try clear hb); (try clear hk); (try clear hi)) | ((with_reducible refine gtD (N := 5) rfl ?_); refine bx (N := 5) (cs := #[.int .i64 0, .int .i64 0]) (t := 25) ?_; intro gb188 hg w82 hbox hb; have BK188 := Az.mk (hbox); have GW188 := Az.mk ((by rw [hg]; exact (bwZ z6_4) : w.heap.size ≤ gb188)); have GE188 := Az.mk ((by rw [hg]; exact (bwZ z6_4) : w.heap.size ≤ gb188)); replace HB := Az.mk (bwT z6_4 hb); have NB178_188 := nlt BK178 hg; have NB188_178 := ngt BK178 hg; replace BK178 := bkz BK178 hb; have NB179_188 := nlt BK179 hg; have NB188_179 := ngt BK179 hg; replace BK179 := bkz BK179 hb; have NB183_188 := Az.mk ((by rw [hg]; exact Nat.ne_of_lt (IsS68.lt (show IsS68 w _ g183 t180 t186 t187 from by repeat (first | (with_reducible first | exact HI183.out | apply IsS68.alloc | apply IsS68.drewN | apply IsS68.drew | apply IsS68.set_1 | apply IsS68.set_2 | refine IsS68.far ?_ NB183_178.out _ | refine IsS68.far ?_ NB183_179.out _) | exact HI183.out))) : g183 ≠ gb188)); have NB188_183 := Az.mk ((by rw [hg]; exact Nat.ne_of_gt (IsS68.lt (show IsS68 w _ g183 t180 t186 t187 from by repeat (first | (with_reducible first | exact HI183.out | apply IsS68.alloc | apply IsS68.drewN | apply IsS68.drew | apply IsS68.set_1 | apply IsS68.set_2 | refine IsS68.far ?_ NB183_178.out _ | refine IsS68.far ?_ NB183_179.out _) | exact HI183.out))) : gb188 ≠ g183)); replace HI183 := Az.mk (IsS68.below z6_5 hb); clear hb hbox hg; have hnb83 := NB188_178.out; have hnc83 := NB178_188.out; have hnb84 := NB188_179.out; have hnc84 := NB179_188.out; have hnb85 := NB188_183.out; have hnc85 := NB183_188.out; obtain ⟨hcz86_0, hcz86_1, hfz86_0, hfz86_1⟩ := bq2 BK188) | ((with_reducible refine gtC (f := 49) rfl ?_); refine clz Try.func49 (some 15) #[.pointer (some ⟨g183, 0, none⟩), .int .i64 2] ?_; (with_reducible refine (spec_l1Once.calls g183 t180 t186 t187 2 false t190 t191 w _ ?side1 ?side2 A4.out).mono ?_); (case side1 => exact z6_2); (case side2 => repeat (first | (with_reducible first | exact HB.out | apply bwA | apply pbN | apply bwD | refine bwS ?_ (IsS68.ge HI183.out) | refine bwS ?_ GE178.out | refine bwS ?_ GE179.out | refine bwS ?_ GE188.out) | exact HB.out)); rintro e w87 ⟨rfl, hi, hb, hk⟩; refine ⟨_, rfl, ?_⟩; replace BK178 := Az.mk (KeepBut.blk hk (g' := gb178) (o := .cells #[.int .i64 0, .int .i64 0] 25 (0, 0)) bkv NB178_183.out (by simp)); replace BK179 := Az.mk (KeepBut.blk hk (g' := gb179) (o := .cells #[.int .i64 0, .int .i64 0] 25 (0, 0)) bkv NB179_183.out (by simp)); replace BK188 := Az.mk (KeepBut.blk hk (g' := gb188) (o := .cells #[.int .i64 t184, .int .i64 t185] 25 (0, 0)) bkv NB188_183.out (by simp)); replace HB := Az.mk (hb); replace HI183 := Az.mk (hi); (try clear hb); (try clear hk); (try clear hi)))
  replace BK178 := Az.mk (bkD BK178.out); replace BK179 := Az.mk (bkD BK179.out); replace BK188 := Az.mk (bkD BK188.out); replace HI183 := Az.mk (IsS68.drew HI183.out); replace HB := Az.mk (bwD HB.out)
  refine start_ (n := 5) (S := fun w' => w'.cell? ⟨gb188, 0, none⟩ = some (.int .i64 t184) ∧ w'.cell? ⟨gb188, 1, none⟩ = some (.int .i64 t185)) (ds := []) #[F,F,F,F,F] z6_6 rfl rfl ⟨(bkC BK188.out 0).trans rfl, (bkC BK188.out 1).trans rfl⟩ (fun hHeld => ?_)
  generalize w87.drew = w88 at BK178 BK179 BK188 HI183 HB hHeld ⊢
  refine pure_ (i := 1) (N := some 45) (v := ?_) (a' := ?_) #[F,T,F,F,F] rfl rfl z6_6 (fun _ _ _ h => h) (Or.inl ⟨by rfl, ?_⟩) ?_ ?_
  rotate_left
  ·intro w'
   go_simp
   with_reducible rfl
  rotate_left
  ·exact acq
  refine take_ (i := 0) (N := some 44) (v := ?_) (a' := ?_) #[T,T,F,F,F] rfl rfl z6_6 (fun _ _ _ h => h) (Or.inl ⟨by rfl, ?_⟩) hHeld ?_ ?_
  rotate_left
  ·rintro w' ⟨s0, s1⟩
   go_simp
   with_reducible rfl
  rotate_left
  ·exact acq
  refine one_ (i := 2) (N := some 46) #[T,T,T,F,F] rfl rfl z6_6 (by decide) (fun K hK => ?_)
  refine goes_ Try.func30 z6_6 rfl #[.pointer (some ⟨g183, 0, none⟩)] (by rfl) rfl rfl ln_6 ?_
  with_reducible refine (spec_l12Draw.calls k g183 t180 t190 t191 t210 t211 t212 t213 w _ ?side1 ?side2 A77.out).mono ?_
  (case side1 => exact z6_2)
  (case side2 => repeat (first | (with_reducible first | exact HB.out | apply bwA | apply pbN | apply bwD | refine bwS ?_ (IsS68.ge HI183.out) | refine bwS ?_ GE178.out | refine bwS ?_ GE179.out | refine bwS ?_ GE188.out) | exact HB.out))
  rintro e w89 ⟨rfl, hi, hb, hk⟩
  refine ⟨_, rfl, ?_⟩
  replace BK178 := bkk BK178 hk NB178_183; replace BK179 := bkk BK179 hk NB179_183; replace BK188 := bkk BK188 hk NB188_183; replace HB := Az.mk (hb); replace HI183 := Az.mk (hi)
  (try clear hb)
  (try clear hb2)
  (try clear hk)
  (try clear hi)
  refine hK.out _ _ ⟨(bkC BK188.out 0).trans rfl, (bkC BK188.out 1).trans rfl⟩ (fun hHeld => ?_)
  clear hK K
  refine norm_ (a' := ?_) ?_ ?_
  rotate_left
  ·show Act.put _ (some 46) _ = _
   exact acq
  refine one_ (i := 3) (N := none) #[T,T,T,T,F] rfl rfl z6_6 (by decide) (fun K hK => ?_)
  have hs90 := bkc0 BK178
  have hfs90 := bkF BK178.out 0
  have hns90_1 := NB179_178.out
  have hns90_2 := NB188_178.out
  have hms90_1 := NB178_179.out
  have hms90_2 := NB178_188.out
  have hs91 := bkc1 BK178
  have hfs91 := bkF BK178.out 1
  have hns91_1 := NB179_178.out
  have hns91_2 := NB188_178.out
  have hms91_1 := NB178_179.out
  have hms91_2 := NB178_188.out
  refine skip_ (w1 := ?_) (by rfl) rfl ?_ ?_
  rotate_left
  ·go_simp
   rfl
  refine hK.out _ _ ⟨((cell_far (p := ⟨gb178, _, none⟩) NB188_178.out _).trans (((cell_far (p := ⟨gb178, _, none⟩) NB188_178.out _).trans (hHeld.1)))), ((cell_far (p := ⟨gb178, _, none⟩) NB188_178.out _).trans (((cell_far (p := ⟨gb178, _, none⟩) NB188_178.out _).trans (hHeld.2))))⟩ (fun hHeld => ?_)
  clear hK K
  refine one_ (i := 4) (N := none) #[T,T,T,T,T] rfl rfl z6_6 (by decide) (fun K hK => ?_)
  have hs92 := bkc0 BK179
  have hfs92 := bkF BK179.out 0
  have hns92_0 := NB178_179.out
  have hns92_2 := NB188_179.out
  have hms92_0 := NB179_178.out
  have hms92_2 := NB179_188.out
  have hs93 := bkc1 BK179
  have hfs93 := bkF BK179.out 1
  have hns93_0 := NB178_179.out
  have hns93_2 := NB188_179.out
  have hms93_0 := NB179_178.out
  have hms93_2 := NB179_188.out
  refine skip_ (w1 := ?_) (by rfl) rfl ?_ ?_
  rotate_left
  ·go_simp
   rfl
  refine hK.out _ _ ⟨((cell_far (p := ⟨gb179, _, none⟩) NB188_179.out _).trans (((cell_far (p := ⟨gb179, _, none⟩) NB188_179.out _).trans (hHeld.1)))), ((cell_far (p := ⟨gb179, _, none⟩) NB188_179.out _).trans (((cell_far (p := ⟨gb179, _, none⟩) NB188_179.out _).trans (hHeld.2))))⟩ (fun hHeld => ?_)
  clear hK K
  refine done_ z6_6 ?_
  try go_wp2
  refine bodyPost_ret (results_cc rfl _ _ gb178 gb179 25 25 #[.int .i64 t184, .int .i64 t185] #[.int .i64 t210, .int .i64 t211] (0, 0) (0, 0) _ _ rfl bkv Try.underlying25 rfl z6_6 rfl bkv Try.underlying25 rfl z6_6) rfl ?_
  exact ⟨rq1, by repeat (first | (with_reducible first | exact HB.out | apply bwA | apply pbN | apply bwD | refine bwS ?_ (IsS68.ge HI183.out) | refine bwS ?_ GE178.out | refine bwS ?_ GE179.out | refine bwS ?_ GE188.out) | exact HB.out)⟩
 subst c5
 rw [if_pos rfl] at H
 replace H := bez H
 obtain ⟨⟨t192, t193, t194⟩, A6, H⟩ := H
 try dsimp only at H
 replace H := bez H
 obtain ⟨⟨t195, t196, t197⟩, A7, H⟩ := H
 try dsimp only at H
 have HC8 := Az.mk H
 clear H
 go_enter Try.func26, Try.ntmps26
 try go_wp2_with (first | ((with_reducible refine gtD (N := 2) rfl ?_); refine bx (N := 2) (cs := #[.int .i64 0, .int .i64 0]) (t := 25) ?_; intro gb178 hg w9 hbox hb; have BK178 := Az.mk (hbox); have GW178 := gwz hg bw_6; have GE178 := gwz hg bw_6; replace HB := Az.mk (bwT bw_6 hb); clear hb hbox hg) | ((with_reducible refine gtD (N := 3) rfl ?_); refine bx (N := 3) (cs := #[.int .i64 0, .int .i64 0]) (t := 25) ?_; intro gb179 hg w10 hbox hb; have BK179 := Az.mk (hbox); have GW179 := gwz hg bw_6; have GE179 := gwz hg bw_6; replace HB := Az.mk (bwT bw_6 hb); have NB178_179 := nlt BK178 hg; have NB179_178 := ngt BK178 hg; replace BK178 := bkz BK178 hb; clear hb hbox hg) | ((with_reducible refine gtC (f := 29) rfl ?_); refine clz Try.func29 (some 11) #[.slice A0 l0.length c0] ?_; (with_reducible refine (spec_l1New.calls k _ _ l0 t180 t181 t182 w _ ?side1 ?side2 ?side3 A2.out).mono ?_); (case side1 => exact bw_6); (case side2 => exact HR0.out); (case side3 => exact HC0.out); rintro e w11 ⟨g183, rfl, hi, hb, hb2⟩; refine ⟨_, rfl, ?_⟩; replace HB := Az.mk (hb); have HI183 := Az.mk (hi); have NB183_178 := Az.mk (IsS68.ne_blk hi (bkB (g := gb178) (o := .cells #[.int .i64 0, .int .i64 0] 25 (0, 0)) (bk1 BK178) hb2) (by decide)); have NB178_183 := Az.mk (Ne.symm (IsS68.ne_blk hi (bkB (g := gb178) (o := .cells #[.int .i64 0, .int .i64 0] 25 (0, 0)) (bk1 BK178) hb2) (by decide))); replace BK178 := Az.mk (bkB (g := gb178) (o := .cells #[.int .i64 0, .int .i64 0] 25 (0, 0)) (bk1 BK178) hb2); have NB183_179 := Az.mk (IsS68.ne_blk hi (bkB (g := gb179) (o := .cells #[.int .i64 0, .int .i64 0] 25 (0, 0)) (bk1 BK179) hb2) (by decide)); have NB179_183 := Az.mk (Ne.symm (IsS68.ne_blk hi (bkB (g := gb179) (o := .cells #[.int .i64 0, .int .i64 0] 25 (0, 0)) (bk1 BK179) hb2) (by decide))); replace BK179 := Az.mk (bkB (g := gb179) (o := .cells #[.int .i64 0, .int .i64 0] 25 (0, 0)) (bk1 BK179) hb2); (try clear hb); (try clear hb2); (try clear hi)) | ((with_reducible refine gtC (f := 30) rfl ?_); refine clz Try.func30 (some 13) #[.pointer (some ⟨g183, 0, none⟩)] ?_; (with_reducible refine (spec_l12Draw.calls k g183 t180 t181 t182 t184 t185 t186 t187 w _ ?side1 ?side2 A3.out).mono ?_); (case side1 => exact z6_5); (case side2 => repeat (first | (with_reducible first | exact HB.out | apply bwA | apply pbN | apply bwD | refine bwS ?_ (IsS68.ge HI183.out) | refine bwS ?_ GE178.out | refine bwS ?_ GE179.out) | exact HB.out)); rintro e w12 ⟨rfl, hi, hb, hk⟩; refine ⟨_, rfl, ?_⟩; replace BK178 := bkk BK178 hk NB178_183; replace BK179 := bkk BK179 hk NB179_183; replace HB := Az.mk (hb); replace HI183 := Az.mk (hi); (try clear hb); (try clear hk); (try clear hi)) | ((with_reducible refine gtD (N := 5) rfl ?_); refine bx (N := 5) (cs := #[.int .i64 0, .int .i64 0]) (t := 25) ?_; intro gb188 hg w13 hbox hb; have BK188 := Az.mk (hbox); have GW188 := Az.mk ((by rw [hg]; exact (bwZ z6_4) : w.heap.size ≤ gb188)); have GE188 := Az.mk ((by rw [hg]; exact (bwZ z6_4) : w.heap.size ≤ gb188)); replace HB := Az.mk (bwT z6_4 hb); have NB178_188 := nlt BK178 hg; have NB188_178 := ngt BK178 hg; replace BK178 := bkz BK178 hb; have NB179_188 := nlt BK179 hg; have NB188_179 := ngt BK179 hg; replace BK179 := bkz BK179 hb; have NB183_188 := Az.mk ((by rw [hg]; exact Nat.ne_of_lt (IsS68.lt (show IsS68 w _ g183 t180 t186 t187 from by repeat (first | (with_reducible first | exact HI183.out | apply IsS68.alloc | apply IsS68.drewN | apply IsS68.drew | apply IsS68.set_1 | apply IsS68.set_2 | refine IsS68.far ?_ NB183_178.out _ | refine IsS68.far ?_ NB183_179.out _) | exact HI183.out))) : g183 ≠ gb188)); have NB188_183 := Az.mk ((by rw [hg]; exact Nat.ne_of_gt (IsS68.lt (show IsS68 w _ g183 t180 t186 t187 from by repeat (first | (with_reducible first | exact HI183.out | apply IsS68.alloc | apply IsS68.drewN | apply IsS68.drew | apply IsS68.set_1 | apply IsS68.set_2 | refine IsS68.far ?_ NB183_178.out _ | refine IsS68.far ?_ NB183_179.out _) | exact HI183.out))) : gb188 ≠ g183)); replace HI183 := Az.mk (IsS68.below z6_5 hb); clear hb hbox hg; have hnb14 := NB188_178.out; have hnc14 := NB178_188.out; have hnb15 := NB188_179.out; have hnc15 := NB179_188.out; have hnb16 := NB188_183.out; have hnc16 := NB183_188.out; obtain ⟨hcz17_0, hcz17_1, hfz17_0, hfz17_1⟩ := bq2 BK188) | ((with_reducible refine gtC (f := 49) rfl ?_); refine clz Try.func49 (some 15) #[.pointer (some ⟨g183, 0, none⟩), .int .i64 2] ?_; (with_reducible refine (spec_l1Once.calls g183 t180 t186 t187 2 true t190 t191 w _ ?side1 ?side2 A4.out).mono ?_); (case side1 => exact z6_2); (case side2 => repeat (first | (with_reducible first | exact HB.out | apply bwA | apply pbN | apply bwD | refine bwS ?_ (IsS68.ge HI183.out) | refine bwS ?_ GE178.out | refine bwS ?_ GE179.out | refine bwS ?_ GE188.out) | exact HB.out)); rintro e w18 ⟨rfl, hi, hb, hk⟩; refine ⟨_, rfl, ?_⟩; replace BK178 := Az.mk (KeepBut.blk hk (g' := gb178) (o := .cells #[.int .i64 0, .int .i64 0] 25 (0, 0)) bkv NB178_183.out (by simp)); replace BK179 := Az.mk (KeepBut.blk hk (g' := gb179) (o := .cells #[.int .i64 0, .int .i64 0] 25 (0, 0)) bkv NB179_183.out (by simp)); replace BK188 := Az.mk (KeepBut.blk hk (g' := gb188) (o := .cells #[.int .i64 t184, .int .i64 t185] 25 (0, 0)) bkv NB188_183.out (by simp)); replace HB := Az.mk (hb); replace HI183 := Az.mk (hi); (try clear hb); (try clear hk); (try clear hi)))
 replace BK178 := Az.mk (bkD BK178.out); replace BK179 := Az.mk (bkD BK179.out); replace BK188 := Az.mk (bkD BK188.out); replace HI183 := Az.mk (IsS68.drew HI183.out); replace HB := Az.mk (bwD HB.out)
 refine start_ (n := 12) (S := fun w' => w'.cell? ⟨gb188, 0, none⟩ = some (.int .i64 t184) ∧ w'.cell? ⟨gb188, 1, none⟩ = some (.int .i64 t185)) (ds := []) #[F,F,F,F,F,F,F,F,F,F,F,F] z6_6 rfl rfl ⟨(bkC BK188.out 0).trans rfl, (bkC BK188.out 1).trans rfl⟩ (fun hHeld => ?_); refine with_tabW spec_l12Two.tab4 spec_l12Two.bits4 (fun HT_ HW_ => ?_)
 generalize w18.drew = w19 at BK178 BK179 BK188 HI183 HB hHeld ⊢
 refine pu (i := 1) (N := some 18) #[F,T,F,F,F,F,F,F,F,F,F,F] (any_of HT_.out z6_6) ?_
 refine pu (i := 2) (N := some 19) #[F,T,T,F,F,F,F,F,F,F,F,F] (any_of HT_.out z6_6) ?_
 refine take_ (i := 0) (N := some 17) (v := ?_) (a' := ?_) #[T,T,T,F,F,F,F,F,F,F,F,F] rfl rfl (take_ofW HT_.out HW_.out z6_6) (fun _ _ _ h => h) (Or.inl ⟨by rfl, ?_⟩) hHeld ?_ ?_
 rotate_left
 ·rintro w' ⟨s0, s1⟩
  go_simp
  with_reducible rfl
 rotate_left
 ·exact acq
 refine join_ (σ := Nat) 2 #[T,T,T,T,T,T,T,T,T,T,F,F] (fun s_ => [(20, .int .i64 t192), (22, .tuple #[.agg #[.int .i64 t195, .int .i64 t196], .bool t197]), (6, .pointer (some ⟨s_, 0, none⟩)), (21, .int .i64 (wrap64 (t192 - 2))), (16, .tuple #[.agg #[.int .i64 t195, .int .i64 t196], .bool t197]), (23, .agg #[.int .i64 t195, .int .i64 t196]), (24, .bool t197)]) (fun s_ w' => (w'.cell? ⟨gb188, 0, none⟩ = some (.int .i64 t184) ∧ w'.cell? ⟨gb188, 1, none⟩ = some (.int .i64 t185)) ∧ (w'.heap[gb178]? = some (.cells #[.int .i64 0, .int .i64 0] 25 (0, 0))) ∧ (w'.heap[gb179]? = some (.cells #[.int .i64 0, .int .i64 0] 25 (0, 0))) ∧ (w'.heap[gb188]? = some (.cells #[.int .i64 t184, .int .i64 t185] 25 (0, 0))) ∧ (w'.heap[s_]? = some (.cells #[.int .i64 0, .int .i64 0] 25 (0, 0))) ∧ (w.heap.size ≤ s_) ∧ (w.heap.size ≤ s_) ∧ (g183 ≠ s_) ∧ (s_ ≠ g183) ∧ (gb178 ≠ s_) ∧ (s_ ≠ gb178) ∧ (gb179 ≠ s_) ∧ (s_ ≠ gb179) ∧ (gb188 ≠ s_) ∧ (s_ ≠ gb188) ∧ (IsS68 w w' g183 t180 t193 t194) ∧ (Below w.heap.size w w')) ?_ ?_
 rotate_left
 ·intro hCont
  refine two_ (i := 3) (j := 9) (Ni := some 20) (Nj := some 6) #[T,T,T,T,F,F,F,F,F,F,F,F] #[T,T,T,F,F,F,F,F,F,T,F,F] rfl rfl rfl rfl (two_of HT_.out z6_6) (by decide) (by decide) (fun K hK => ?_) (fun K hK => ?_)
  ·skip
   refine goes_ Try.func51 z6_6 rfl #[.pointer (some ⟨g183, 0, none⟩), .int .i64 5] (by rfl) rfl rfl ln_6 ?_
   with_reducible refine (spec_l1Below.calls g183 t180 t190 t191 5 t192 t193 t194 w _ ?side1 ?side2 A6.out).mono ?_
   (case side1 => exact z6_2)
   (case side2 => repeat (first | (with_reducible first | exact HB.out | apply bwA | apply pbN | apply bwD | refine bwS ?_ (IsS68.ge HI183.out) | refine bwS ?_ GE178.out | refine bwS ?_ GE179.out | refine bwS ?_ GE188.out) | exact HB.out))
   rintro e w20 ⟨rfl, hi, hb, hk⟩
   refine ⟨_, rfl, ?_⟩
   replace BK178 := bkk BK178 hk NB178_183; replace BK179 := bkk BK179 hk NB179_183; replace BK188 := bkk BK188 hk NB188_183; replace HB := Az.mk (hb); replace HI183 := Az.mk (hi)
   (try clear hb)
   (try clear hb2)
   (try clear hk)
   (try clear hi)
   refine hK.out _ _ ⟨(bkC BK188.out 0).trans rfl, (bkC BK188.out 1).trans rfl⟩ (fun hHeld => ?_)
   clear hK K
   refine norm_ (a' := ?_) ?_ ?_
   rotate_left
   ·show Act.put _ (some 20) _ = _
    exact acq
   refine pu (i := 4) (N := some 21) #[T,T,T,T,T,F,F,F,F,F,F,F] (any_of HT_.out z6_6) ?_
   refine two_ (i := 5) (j := 9) (Ni := some 22) (Nj := some 6) #[T,T,T,T,T,T,F,F,F,F,F,F] #[T,T,T,T,T,F,F,F,F,T,F,F] rfl rfl rfl rfl (two_of HT_.out z6_6) (by decide) (by decide) (fun K hK => ?_) (fun K hK => ?_)
   ·skip
    refine goes_ Try.func50 z6_6 rfl #[.agg #[.int .i64 t184, .int .i64 t185], .agg #[.int .i64 0, .int .i64 1], .int .i64 (wrap64 (t192 - 2))] (by rfl) rfl rfl ln_6 ?_
    with_reducible refine (spec_TwistSlope.calls k t184 t185 0 1 (wrap64 (t192 - 2)) t195 t196 t197 _ A7.out).mono ?_
    rintro e w21 ⟨rfl, hb⟩
    refine ⟨_, rfl, ?_⟩
    replace BK178 := bkz BK178 hb; replace BK179 := bkz BK179 hb; replace BK188 := bkz BK188 hb; replace HB := Az.mk (bwT z6_3 hb); replace HI183 := Az.mk (IsS68.below z6_2 hb)
    (try clear hb)
    (try clear hb2)
    (try clear hk)
    (try clear hi)
    refine hK.out _ _ ⟨(bkC BK188.out 0).trans rfl, (bkC BK188.out 1).trans rfl⟩ (fun hHeld => ?_)
    clear hK K
    refine norm_ (a' := ?_) ?_ ?_
    rotate_left
    ·show Act.put _ (some 22) _ = _
     exact acq
    refine pu (i := 6) (N := some 16) #[T,T,T,T,T,T,T,F,F,F,F,F] (any_of HT_.out z6_6) ?_
    refine pu (i := 7) (N := some 23) #[T,T,T,T,T,T,T,T,F,F,F,F] (any_of HT_.out z6_6) ?_
    refine pu (i := 8) (N := some 24) #[T,T,T,T,T,T,T,T,T,F,F,F] (any_of HT_.out z6_6) ?_
    refine one_ (i := 9) (N := some 6) #[T,T,T,T,T,T,T,T,T,T,F,F] rfl rfl (one_of HT_.out z6_6) (by decide) (fun K hK => ?_)
    refine box_step ?hg (N := 6) ?hd (cs := #[.int .i64 0, .int .i64 0]) (t := 25) ?hr ?_; (case hd => rfl); (case hg => rfl); (case hr => first | (go_simp; done) | (go_simp; rfl))
    intro gb198 hg w22 hbox hb
    have BK198 := Az.mk (hbox); have GW198 := Az.mk ((by rw [hg]; exact (bwZ z6_3) : w.heap.size ≤ gb198)); have GE198 := Az.mk ((by rw [hg]; exact (bwZ z6_3) : w.heap.size ≤ gb198)); replace HB := Az.mk (bwT z6_3 hb); have NB178_198 := nlt BK178 hg; have NB198_178 := ngt BK178 hg; replace BK178 := bkz BK178 hb; have NB179_198 := nlt BK179 hg; have NB198_179 := ngt BK179 hg; replace BK179 := bkz BK179 hb; have NB188_198 := nlt BK188 hg; have NB198_188 := ngt BK188 hg; replace BK188 := bkz BK188 hb; have NB183_198 := Az.mk ((by rw [hg]; exact Nat.ne_of_lt (IsS68.lt (show IsS68 w _ g183 t180 t193 t194 from by repeat (first | (with_reducible first | exact HI183.out | apply IsS68.alloc | apply IsS68.drewN | apply IsS68.drew | apply IsS68.set_1 | apply IsS68.set_2 | refine IsS68.far ?_ NB183_178.out _ | refine IsS68.far ?_ NB183_179.out _ | refine IsS68.far ?_ NB183_188.out _) | exact HI183.out))) : g183 ≠ gb198)); have NB198_183 := Az.mk ((by rw [hg]; exact Nat.ne_of_gt (IsS68.lt (show IsS68 w _ g183 t180 t193 t194 from by repeat (first | (with_reducible first | exact HI183.out | apply IsS68.alloc | apply IsS68.drewN | apply IsS68.drew | apply IsS68.set_1 | apply IsS68.set_2 | refine IsS68.far ?_ NB183_178.out _ | refine IsS68.far ?_ NB183_179.out _ | refine IsS68.far ?_ NB183_188.out _) | exact HI183.out))) : gb198 ≠ g183)); replace HI183 := Az.mk (IsS68.below z6_2 hb)
    clear hb hbox hg
    refine hK.out _ _ ⟨(bkC BK188.out 0).trans rfl, (bkC BK188.out 1).trans rfl⟩ (fun hHeld => ?_)
    clear hK K
    refine norm_ (a' := ?_) ?_ ?_
    rotate_left
    ·show Act.put _ (some 6) _ = _
     exact acq
    exact norm_ (by simp only [putAll, Act.put, List.setIfInBounds_toArray, List.set_cons_zero, List.set_cons_succ]) (hCont (gb198) _ ⟨hHeld, (bk1 BK178), (bk1 BK179), (bk1 BK188), (bk1 BK198), GW198.out, GE198.out, NB183_198.out, NB198_183.out, NB178_198.out, NB198_178.out, NB179_198.out, NB198_179.out, NB188_198.out, NB198_188.out, z6_0, z6_1⟩)
   skip
   refine box_step ?hg (N := 6) ?hd (cs := #[.int .i64 0, .int .i64 0]) (t := 25) ?hr ?_; (case hd => rfl); (case hg => rfl); (case hr => first | (go_simp; done) | (go_simp; rfl))
   intro gb198 hg w21 hbox hb
   have BK198 := Az.mk (hbox); have GW198 := Az.mk ((by rw [hg]; exact (bwZ z6_3) : w.heap.size ≤ gb198)); have GE198 := Az.mk ((by rw [hg]; exact (bwZ z6_3) : w.heap.size ≤ gb198)); replace HB := Az.mk (bwT z6_3 hb); have NB178_198 := nlt BK178 hg; have NB198_178 := ngt BK178 hg; replace BK178 := bkz BK178 hb; have NB179_198 := nlt BK179 hg; have NB198_179 := ngt BK179 hg; replace BK179 := bkz BK179 hb; have NB188_198 := nlt BK188 hg; have NB198_188 := ngt BK188 hg; replace BK188 := bkz BK188 hb; have NB183_198 := Az.mk ((by rw [hg]; exact Nat.ne_of_lt (IsS68.lt (show IsS68 w _ g183 t180 t193 t194 from by repeat (first | (with_reducible first | exact HI183.out | apply IsS68.alloc | apply IsS68.drewN | apply IsS68.drew | apply IsS68.set_1 | apply IsS68.set_2 | refine IsS68.far ?_ NB183_178.out _ | refine IsS68.far ?_ NB183_179.out _ | refine IsS68.far ?_ NB183_188.out _) | exact HI183.out))) : g183 ≠ gb198)); have NB198_183 := Az.mk ((by rw [hg]; exact Nat.ne_of_gt (IsS68.lt (show IsS68 w _ g183 t180 t193 t194 from by repeat (first | (with_reducible first | exact HI183.out | apply IsS68.alloc | apply IsS68.drewN | apply IsS68.drew | apply IsS68.set_1 | apply IsS68.set_2 | refine IsS68.far ?_ NB183_178.out _ | refine IsS68.far ?_ NB183_179.out _ | refine IsS68.far ?_ NB183_188.out _) | exact HI183.out))) : gb198 ≠ g183)); replace HI183 := Az.mk (IsS68.below z6_2 hb)
   clear hb hbox hg
   refine hK.out _ _ ⟨(bkC BK188.out 0).trans rfl, (bkC BK188.out 1).trans rfl⟩ (fun hHeld => ?_)
   clear hK K
   refine norm_ (a' := ?_) ?_ ?_
   rotate_left
   ·show Act.put _ (some 6) _ = _
    exact acq
   refine one_ (i := 5) (N := some 22) #[T,T,T,T,T,T,F,F,F,T,F,F] rfl rfl (one_of HT_.out z6_6) (by decide) (fun K hK => ?_)
   refine goes_ Try.func50 z6_6 rfl #[.agg #[.int .i64 t184, .int .i64 t185], .agg #[.int .i64 0, .int .i64 1], .int .i64 (wrap64 (t192 - 2))] (by rfl) rfl rfl ln_6 ?_
   with_reducible refine (spec_TwistSlope.calls k t184 t185 0 1 (wrap64 (t192 - 2)) t195 t196 t197 _ A7.out).mono ?_
   rintro e w22 ⟨rfl, hb⟩
   refine ⟨_, rfl, ?_⟩
   replace BK178 := bkz BK178 hb; replace BK179 := bkz BK179 hb; replace BK188 := bkz BK188 hb; replace BK198 := bkz BK198 hb; replace HB := Az.mk (bwT z6_1 hb); replace HI183 := Az.mk (IsS68.below z6_0 hb)
   (try clear hb)
   (try clear hb2)
   (try clear hk)
   (try clear hi)
   refine hK.out _ _ ⟨(bkC BK188.out 0).trans rfl, (bkC BK188.out 1).trans rfl⟩ (fun hHeld => ?_)
   clear hK K
   refine norm_ (a' := ?_) ?_ ?_
   rotate_left
   ·show Act.put _ (some 22) _ = _
    exact acq
   refine pu (i := 6) (N := some 16) #[T,T,T,T,T,T,T,F,F,T,F,F] (any_of HT_.out z6_6) ?_
   refine pu (i := 7) (N := some 23) #[T,T,T,T,T,T,T,T,F,T,F,F] (any_of HT_.out z6_6) ?_
   refine pu (i := 8) (N := some 24) #[T,T,T,T,T,T,T,T,T,T,F,F] (any_of HT_.out z6_6) ?_
   exact norm_ (by simp only [putAll, Act.put, List.setIfInBounds_toArray, List.set_cons_zero, List.set_cons_succ]) (hCont (gb198) _ ⟨hHeld, (bk1 BK178), (bk1 BK179), (bk1 BK188), (bk1 BK198), GW198.out, GE198.out, NB183_198.out, NB198_183.out, NB178_198.out, NB198_178.out, NB179_198.out, NB198_179.out, NB188_198.out, NB198_188.out, z6_0, z6_1⟩)
  skip
  refine box_step ?hg (N := 6) ?hd (cs := #[.int .i64 0, .int .i64 0]) (t := 25) ?hr ?_; (case hd => rfl); (case hg => rfl); (case hr => first | (go_simp; done) | (go_simp; rfl))
  intro gb198 hg w20 hbox hb
  have BK198 := Az.mk (hbox); have GW198 := Az.mk ((by rw [hg]; exact (bwZ z6_3) : w.heap.size ≤ gb198)); have GE198 := Az.mk ((by rw [hg]; exact (bwZ z6_3) : w.heap.size ≤ gb198)); replace HB := Az.mk (bwT z6_3 hb); have NB178_198 := nlt BK178 hg; have NB198_178 := ngt BK178 hg; replace BK178 := bkz BK178 hb; have NB179_198 := nlt BK179 hg; have NB198_179 := ngt BK179 hg; replace BK179 := bkz BK179 hb; have NB188_198 := nlt BK188 hg; have NB198_188 := ngt BK188 hg; replace BK188 := bkz BK188 hb; have NB183_198 := Az.mk ((by rw [hg]; exact Nat.ne_of_lt (IsS68.lt (show IsS68 w _ g183 t180 t190 t191 from by repeat (first | (with_reducible first | exact HI183.out | apply IsS68.alloc | apply IsS68.drewN | apply IsS68.drew | apply IsS68.set_1 | apply IsS68.set_2 | refine IsS68.far ?_ NB183_178.out _ | refine IsS68.far ?_ NB183_179.out _ | refine IsS68.far ?_ NB183_188.out _) | exact HI183.out))) : g183 ≠ gb198)); have NB198_183 := Az.mk ((by rw [hg]; exact Nat.ne_of_gt (IsS68.lt (show IsS68 w _ g183 t180 t190 t191 from by repeat (first | (with_reducible first | exact HI183.out | apply IsS68.alloc | apply IsS68.drewN | apply IsS68.drew | apply IsS68.set_1 | apply IsS68.set_2 | refine IsS68.far ?_ NB183_178.out _ | refine IsS68.far ?_ NB183_179.out _ | refine IsS68.far ?_ NB183_188.out _) | exact HI183.out))) : gb198 ≠ g183)); replace HI183 := Az.mk (IsS68.below z6_2 hb)
  clear hb hbox hg
  refine hK.out _ _ ⟨(bkC BK188.out 0).trans rfl, (bkC BK188.out 1).trans rfl⟩ (fun hHeld => ?_)
  clear hK K
  refine norm_ (a' := ?_) ?_ ?_
  rotate_left
  ·show Act.put _ (some 6) _ = _
   exact acq
  refine one_ (i := 3) (N := some 20) #[T,T,T,T,F,F,F,F,F,T,F,F] rfl rfl (one_of HT_.out z6_6) (by decide) (fun K hK => ?_)
  refine goes_ Try.func51 z6_6 rfl #[.pointer (some ⟨g183, 0, none⟩), .int .i64 5] (by rfl) rfl rfl ln_6 ?_
  with_reducible refine (spec_l1Below.calls g183 t180 t190 t191 5 t192 t193 t194 w _ ?side1 ?side2 A6.out).mono ?_
  (case side1 => exact z6_0)
  (case side2 => repeat (first | (with_reducible first | exact HB.out | apply bwA | apply pbN | apply bwD | refine bwS ?_ (IsS68.ge HI183.out) | refine bwS ?_ GE178.out | refine bwS ?_ GE179.out | refine bwS ?_ GE188.out | refine bwS ?_ GE198.out) | exact HB.out))
  rintro e w21 ⟨rfl, hi, hb, hk⟩
  refine ⟨_, rfl, ?_⟩
  replace BK178 := bkk BK178 hk NB178_183; replace BK179 := bkk BK179 hk NB179_183; replace BK188 := bkk BK188 hk NB188_183; replace BK198 := bkk BK198 hk NB198_183; replace HB := Az.mk (hb); replace HI183 := Az.mk (hi)
  (try clear hb)
  (try clear hb2)
  (try clear hk)
  (try clear hi)
  refine hK.out _ _ ⟨(bkC BK188.out 0).trans rfl, (bkC BK188.out 1).trans rfl⟩ (fun hHeld => ?_)
  clear hK K
  refine norm_ (a' := ?_) ?_ ?_
  rotate_left
  ·show Act.put _ (some 20) _ = _
   exact acq
  refine pu (i := 4) (N := some 21) #[T,T,T,T,T,F,F,F,F,T,F,F] (any_of HT_.out z6_6) ?_
  refine one_ (i := 5) (N := some 22) #[T,T,T,T,T,T,F,F,F,T,F,F] rfl rfl (one_of HT_.out z6_6) (by decide) (fun K hK => ?_)
  refine goes_ Try.func50 z6_6 rfl #[.agg #[.int .i64 t184, .int .i64 t185], .agg #[.int .i64 0, .int .i64 1], .int .i64 (wrap64 (t192 - 2))] (by rfl) rfl rfl ln_6 ?_
  with_reducible refine (spec_TwistSlope.calls k t184 t185 0 1 (wrap64 (t192 - 2)) t195 t196 t197 _ A7.out).mono ?_
  rintro e w22 ⟨rfl, hb⟩
  refine ⟨_, rfl, ?_⟩
  replace BK178 := bkz BK178 hb; replace BK179 := bkz BK179 hb; replace BK188 := bkz BK188 hb; replace BK198 := bkz BK198 hb; replace HB := Az.mk (bwT z6_1 hb); replace HI183 := Az.mk (IsS68.below z6_0 hb)
  (try clear hb)
  (try clear hb2)
  (try clear hk)
  (try clear hi)
  refine hK.out _ _ ⟨(bkC BK188.out 0).trans rfl, (bkC BK188.out 1).trans rfl⟩ (fun hHeld => ?_)
  clear hK K
  refine norm_ (a' := ?_) ?_ ?_
  rotate_left
  ·show Act.put _ (some 22) _ = _
   exact acq
  refine pu (i := 6) (N := some 16) #[T,T,T,T,T,T,T,F,F,T,F,F] (any_of HT_.out z6_6) ?_
  refine pu (i := 7) (N := some 23) #[T,T,T,T,T,T,T,T,F,T,F,F] (any_of HT_.out z6_6) ?_
  refine pu (i := 8) (N := some 24) #[T,T,T,T,T,T,T,T,T,T,F,F] (any_of HT_.out z6_6) ?_
  exact norm_ (by simp only [putAll, Act.put, List.setIfInBounds_toArray, List.set_cons_zero, List.set_cons_succ]) (hCont (gb198) _ ⟨hHeld, (bk1 BK178), (bk1 BK179), (bk1 BK188), (bk1 BK198), GW198.out, GE198.out, NB183_198.out, NB198_183.out, NB178_198.out, NB198_178.out, NB179_198.out, NB198_179.out, NB188_198.out, NB198_188.out, z6_0, z6_1⟩)
 rintro gb198 w23 ⟨hS_, h0_, h1_, h2_, h3_, h4_, h5_, h6_, h7_, h8_, h9_, h10_, h11_, h12_, h13_, h14_, h15_⟩
 have n0_ : Az (w23.heap[gb178]? = some (.cells #[.int .i64 0, .int .i64 0] 25 (0, 0))) := ⟨h0_⟩
 have n1_ : Az (w23.heap[gb179]? = some (.cells #[.int .i64 0, .int .i64 0] 25 (0, 0))) := ⟨h1_⟩
 have n2_ : Az (w23.heap[gb188]? = some (.cells #[.int .i64 t184, .int .i64 t185] 25 (0, 0))) := ⟨h2_⟩
 have n3_ : Az (w23.heap[gb198]? = some (.cells #[.int .i64 0, .int .i64 0] 25 (0, 0))) := ⟨h3_⟩
 have n4_ : Az (w.heap.size ≤ gb198) := ⟨h4_⟩
 have n5_ : Az (w.heap.size ≤ gb198) := ⟨h5_⟩
 have n6_ : Az (g183 ≠ gb198) := ⟨h6_⟩
 have n7_ : Az (gb198 ≠ g183) := ⟨h7_⟩
 have n8_ : Az (gb178 ≠ gb198) := ⟨h8_⟩
 have n9_ : Az (gb198 ≠ gb178) := ⟨h9_⟩
 have n10_ : Az (gb179 ≠ gb198) := ⟨h10_⟩
 have n11_ : Az (gb198 ≠ gb179) := ⟨h11_⟩
 have n12_ : Az (gb188 ≠ gb198) := ⟨h12_⟩
 have n13_ : Az (gb198 ≠ gb188) := ⟨h13_⟩
 have n14_ : Az (IsS68 w w23 g183 t180 t193 t194) := ⟨h14_⟩
 have n15_ : Az (Below w.heap.size w w23) := ⟨h15_⟩
 clear BK178
 clear BK179
 clear BK188
 clear HI183
 clear HB
 clear h0_ h1_ h2_ h3_ h4_ h5_ h6_ h7_ h8_ h9_ h10_ h11_ h12_ h13_ h14_ h15_
 have BK178 := n0_
 have BK179 := n1_
 have BK188 := n2_
 have BK198 := n3_
 have GW198 := n4_
 have GE198 := n5_
 have NB183_198 := n6_
 have NB198_183 := n7_
 have NB178_198 := n8_
 have NB198_178 := n9_
 have NB179_198 := n10_
 have NB198_179 := n11_
 have NB188_198 := n12_
 have NB198_188 := n13_
 have HI183 := n14_
 have HB := n15_
 clear n0_ n1_ n2_ n3_ n4_ n5_ n6_ n7_ n8_ n9_ n10_ n11_ n12_ n13_ n14_ n15_
 have hHeld : w23.cell? ⟨gb188, 0, none⟩ = some (.int .i64 t184) ∧ w23.cell? ⟨gb188, 1, none⟩ = some (.int .i64 t185) := hS_
 refine norm_ (a' := ?_) ?_ ?_
 rotate_left
 ·simp only [putAll, Act.put, List.setIfInBounds_toArray, List.set_cons_zero, List.set_cons_succ]
  rfl
 refine one_ (i := 10) (N := none) #[T,T,T,T,T,T,T,T,T,T,T,F] rfl rfl (one_of HT_.out z6_6) (by decide) (fun K hK => ?_)
 have hs24 := bkc0 BK198
 have hfs24 := bkF BK198.out 0
 have hns24_0 := NB178_198.out
 have hns24_1 := NB179_198.out
 have hns24_2 := NB188_198.out
 have hms24_0 := NB198_178.out
 have hms24_1 := NB198_179.out
 have hms24_2 := NB198_188.out
 have hs25 := bkc1 BK198
 have hfs25 := bkF BK198.out 1
 have hns25_0 := NB178_198.out
 have hns25_1 := NB179_198.out
 have hns25_2 := NB188_198.out
 have hms25_0 := NB198_178.out
 have hms25_1 := NB198_179.out
 have hms25_2 := NB198_188.out
 refine skip_ (w1 := ?_) (by rfl) rfl ?_ ?_
 rotate_left
 ·go_simp
  rfl
 refine hK.out _ _ ⟨((cell_far (p := ⟨gb198, _, none⟩) NB188_198.out _).trans (((cell_far (p := ⟨gb198, _, none⟩) NB188_198.out _).trans (hHeld.1)))), ((cell_far (p := ⟨gb198, _, none⟩) NB188_198.out _).trans (((cell_far (p := ⟨gb198, _, none⟩) NB188_198.out _).trans (hHeld.2))))⟩ (fun hHeld => ?_)
 clear hK K
 refine pu (i := 11) (N := some 7) #[T,T,T,T,T,T,T,T,T,T,T,T] (any_of HT_.out z6_6) ?_
 refine done_ (done_of HT_.out z6_6) ?_
 go_upto_region 5 with (fail)
 go_cut [29] (fun v29 wc => ∃ (kq : Nat) (x29_7 : Bool) (x184001_7 : Int) (x184002_7 : Int), v29 = .bool x29_7 ∧ Az (spec_l12Two.j0 kq x29_7 t180 x184001_7 x184002_7 t184 t185 t195 t196 = some (r1, r2, r3, r4)) ∧ Az (kq ≤ k) ∧ Az (wc.heap[gb178]? = some (.cells #[.int .i64 0, .int .i64 0] 25 (0, 0))) ∧ Az (wc.heap[gb179]? = some (.cells #[.int .i64 0, .int .i64 0] 25 (0, 0))) ∧ Az (wc.heap[gb188]? = some (.cells #[.int .i64 t184, .int .i64 t185] 25 (0, 0))) ∧ Az (wc.heap[gb198]? = some (.cells #[.int .i64 t195, .int .i64 t196] 25 (0, 0))) ∧ Az (IsS68 w wc g183 t180 x184001_7 x184002_7) ∧ Az (Below w.heap.size w wc))
 case first =>
  have H := HC8.out
  clear HC8
  by_cases c26 : t197 = true
  rotate_left
  ·replace c26 := Bool.eq_false_iff.mpr c26
   subst c26
   rw [if_neg (show ¬ (false = true) by decide)] at H
   have H' := Az.mk H
   clear H
   go_wp2
   go_meet
   case rel => exact ⟨_, (false), (t193), (t194), rq2, H', ⟨by first | omega | exact Nat.le_refl _⟩, ⟨bkv⟩, ⟨bkv⟩, ⟨bkv⟩, ⟨bkv⟩, ⟨by repeat (first | (with_reducible first | exact HI183.out | apply IsS68.alloc | apply IsS68.drewN | apply IsS68.drew | apply IsS68.set_1 | apply IsS68.set_2 | refine IsS68.far ?_ NB183_178.out _ | refine IsS68.far ?_ NB183_179.out _ | refine IsS68.far ?_ NB183_188.out _ | refine IsS68.far ?_ NB183_198.out _) | exact HI183.out)⟩, ⟨by repeat (first | (with_reducible first | exact HB.out | apply bwA | apply pbN | apply bwD | refine bwS ?_ (IsS68.ge HI183.out) | refine bwS ?_ GE178.out | refine bwS ?_ GE179.out | refine bwS ?_ GE188.out | refine bwS ?_ GE198.out) | exact HB.out)⟩⟩
  subst c26
  rw [if_pos rfl] at H
  replace H := bez H
  obtain ⟨⟨t199, t200, t201⟩, A27, H⟩ := H
  try dsimp only at H
  have H' := Az.mk H
  clear H
  go_wp2_with (first | (go_at_call 49; (with_reducible refine (spec_l1Once.calls g183 t180 t193 t194 2 t199 t200 t201 w _ ?side1 ?side2 A27.out).mono ?_); (case side1 => exact z6_0); (case side2 => repeat (first | (with_reducible first | exact HB.out | apply bwA | apply pbN | apply bwD | refine bwS ?_ (IsS68.ge HI183.out) | refine bwS ?_ GE178.out | refine bwS ?_ GE179.out | refine bwS ?_ GE188.out | refine bwS ?_ GE198.out) | exact HB.out)); rintro e w28 ⟨rfl, hi, hb, hk⟩; replace BK178 := Az.mk (KeepBut.blk hk (g' := gb178) (o := .cells #[.int .i64 0, .int .i64 0] 25 (0, 0)) bkv NB178_183.out (by simp)); replace BK179 := Az.mk (KeepBut.blk hk (g' := gb179) (o := .cells #[.int .i64 0, .int .i64 0] 25 (0, 0)) bkv NB179_183.out (by simp)); replace BK188 := Az.mk (KeepBut.blk hk (g' := gb188) (o := .cells #[.int .i64 t184, .int .i64 t185] 25 (0, 0)) bkv NB188_183.out (by simp)); replace BK198 := Az.mk (KeepBut.blk hk (g' := gb198) (o := .cells #[.int .i64 t195, .int .i64 t196] 25 (0, 0)) bkv NB198_183.out (by simp)); replace HB := Az.mk (hb); replace HI183 := Az.mk (hi); (try clear hb); (try clear hk); (try clear hi)))
  go_meet
  case rel => exact ⟨_, (t199), (t200), (t201), rq2, H', ⟨by first | omega | exact Nat.le_refl _⟩, ⟨bk1 BK178⟩, ⟨bk1 BK179⟩, ⟨bk1 BK188⟩, ⟨bk1 BK198⟩, ⟨by repeat (first | (with_reducible first | exact HI183.out | apply IsS68.alloc | apply IsS68.drewN | apply IsS68.drew | apply IsS68.set_1 | apply IsS68.set_2 | refine IsS68.far ?_ NB183_178.out _ | refine IsS68.far ?_ NB183_179.out _ | refine IsS68.far ?_ NB183_188.out _ | refine IsS68.far ?_ NB183_198.out _) | exact HI183.out)⟩, ⟨by repeat (first | (with_reducible first | exact HB.out | apply bwA | apply pbN | apply bwD | refine bwS ?_ (IsS68.ge HI183.out) | refine bwS ?_ GE178.out | refine bwS ?_ GE179.out | refine bwS ?_ GE188.out | refine bwS ?_ GE198.out) | exact HB.out)⟩⟩
 clear HC8
 try clear c5
 try clear c26
 try clear hcz17_0
 try clear hcz17_1
 try clear hfz17_0
 try clear hfz17_1
 obtain ⟨kq, x29_7, x184001_7, x184002_7, rfl, HA, HJ7, BK178, BK179, BK188, BK198, HI183, HB⟩ := hcut
 cases kq with
 | zero => exact absurd HA.out (by simp [spec_l12Two.j0])
 | succ kj7 =>
  have H := HA.out
  clear HA
  simp only [spec_l12Two.j0] at H
  by_cases c29 : x29_7 = true
  ·subst c29
   rw [if_pos rfl] at H
   simp only [Option.some.injEq, Prod.mk.injEq] at H
   obtain ⟨rfl, rfl, rfl, rfl⟩ := H
   try go_wp2
   replace BK178 := Az.mk (bkD BK178.out); replace BK179 := Az.mk (bkD BK179.out); replace BK188 := Az.mk (bkD BK188.out); replace BK198 := Az.mk (bkD BK198.out); replace HI183 := Az.mk (IsS68.drew HI183.out); replace HB := Az.mk (bwD HB.out)
   refine start_ (n := 4) (S := fun w' => w'.cell? ⟨gb188, 0, none⟩ = some (.int .i64 t184) ∧ w'.cell? ⟨gb188, 1, none⟩ = some (.int .i64 t185) ∧ w'.cell? ⟨gb198, 0, none⟩ = some (.int .i64 t195) ∧ w'.cell? ⟨gb198, 1, none⟩ = some (.int .i64 t196)) (ds := []) #[F,F,F,F] z6_6 rfl rfl cs_ (fun hHeld => ?_)
   generalize wc.drew = w30 at BK178 BK179 BK188 BK198 HI183 HB hHeld ⊢
   refine take_ (i := 0) (N := some 30) (v := ?_) (a' := ?_) #[T,F,F,F] rfl rfl z6_6 (fun _ _ _ h => h) (Or.inl ⟨by rfl, ?_⟩) hHeld ?_ ?_
   rotate_left
   ·rintro w' ⟨s0, s1, s2, s3⟩
    go_simp
    with_reducible rfl
   rotate_left
   ·exact acq
   refine take_ (i := 1) (N := some 31) (v := ?_) (a' := ?_) #[T,T,F,F] rfl rfl z6_6 (fun _ _ _ h => h) (Or.inl ⟨by rfl, ?_⟩) hHeld ?_ ?_
   rotate_left
   ·rintro w' ⟨s0, s1, s2, s3⟩
    go_simp
    with_reducible rfl
   rotate_left
   ·exact acq
   refine one_ (i := 2) (N := none) #[T,T,T,F] rfl rfl z6_6 (by decide) (fun K hK => ?_)
   have hs31 := bkc0 BK178
   have hfs31 := bkF BK178.out 0
   have hns31_1 := NB179_178.out
   have hns31_2 := NB188_178.out
   have hns31_3 := NB198_178.out
   have hms31_1 := NB178_179.out
   have hms31_2 := NB178_188.out
   have hms31_3 := NB178_198.out
   have hs32 := bkc1 BK178
   have hfs32 := bkF BK178.out 1
   have hns32_1 := NB179_178.out
   have hns32_2 := NB188_178.out
   have hns32_3 := NB198_178.out
   have hms32_1 := NB178_179.out
   have hms32_2 := NB178_188.out
   have hms32_3 := NB178_198.out
   refine skip_ (w1 := ?_) (by rfl) rfl ?_ ?_
   rotate_left
   ·go_simp
    rfl
   refine hK.out _ _ ⟨((cell_far (p := ⟨gb178, _, none⟩) NB188_178.out _).trans (((cell_far (p := ⟨gb178, _, none⟩) NB188_178.out _).trans (hHeld.1)))), ((cell_far (p := ⟨gb178, _, none⟩) NB188_178.out _).trans (((cell_far (p := ⟨gb178, _, none⟩) NB188_178.out _).trans (hHeld.2.1)))), ((cell_far (p := ⟨gb178, _, none⟩) NB198_178.out _).trans (((cell_far (p := ⟨gb178, _, none⟩) NB198_178.out _).trans (hHeld.2.2.1)))), ((cell_far (p := ⟨gb178, _, none⟩) NB198_178.out _).trans (((cell_far (p := ⟨gb178, _, none⟩) NB198_178.out _).trans (hHeld.2.2.2))))⟩ (fun hHeld => ?_)
   clear hK K
   refine one_ (i := 3) (N := none) #[T,T,T,T] rfl rfl z6_6 (by decide) (fun K hK => ?_)
   have hs33 := bkc0 BK179
   have hfs33 := bkF BK179.out 0
   have hns33_0 := NB178_179.out
   have hns33_2 := NB188_179.out
   have hns33_3 := NB198_179.out
   have hms33_0 := NB179_178.out
   have hms33_2 := NB179_188.out
   have hms33_3 := NB179_198.out
   have hs34 := bkc1 BK179
   have hfs34 := bkF BK179.out 1
   have hns34_0 := NB178_179.out
   have hns34_2 := NB188_179.out
   have hns34_3 := NB198_179.out
   have hms34_0 := NB179_178.out
   have hms34_2 := NB179_188.out
   have hms34_3 := NB179_198.out
   refine skip_ (w1 := ?_) (by rfl) rfl ?_ ?_
   rotate_left
   ·go_simp
    rfl
   refine hK.out _ _ ⟨((cell_far (p := ⟨gb179, _, none⟩) NB188_179.out _).trans (((cell_far (p := ⟨gb179, _, none⟩) NB188_179.out _).trans (hHeld.1)))), ((cell_far (p := ⟨gb179, _, none⟩) NB188_179.out _).trans (((cell_far (p := ⟨gb179, _, none⟩) NB188_179.out _).trans (hHeld.2.1)))), ((cell_far (p := ⟨gb179, _, none⟩) NB198_179.out _).trans (((cell_far (p := ⟨gb179, _, none⟩) NB198_179.out _).trans (hHeld.2.2.1)))), ((cell_far (p := ⟨gb179, _, none⟩) NB198_179.out _).trans (((cell_far (p := ⟨gb179, _, none⟩) NB198_179.out _).trans (hHeld.2.2.2))))⟩ (fun hHeld => ?_)
   clear hK K
   refine done_ z6_6 ?_
   try go_wp2
   refine bodyPost_ret (results_cc rfl _ _ gb178 gb179 25 25 #[.int .i64 t184, .int .i64 t185] #[.int .i64 t195, .int .i64 t196] (0, 0) (0, 0) _ _ rfl bkv Try.underlying25 rfl z6_6 rfl bkv Try.underlying25 rfl z6_6) rfl ?_
   exact ⟨rq1, by repeat (first | (with_reducible first | exact HB.out | apply bwA | apply pbN | apply bwD | refine bwS ?_ (IsS68.ge HI183.out) | refine bwS ?_ GE178.out | refine bwS ?_ GE179.out | refine bwS ?_ GE188.out | refine bwS ?_ GE198.out) | exact HB.out)⟩
  replace c29 := Bool.eq_false_iff.mpr c29
  subst c29
  rw [if_neg (show ¬ (false = true) by decide)] at H
  replace H := bez H
  obtain ⟨⟨t202, t203, t204⟩, A35, H⟩ := H
  try dsimp only at H
  by_cases c36 : t204 = true
  ·subst c36
   rw [if_pos rfl] at H
   simp only [Option.some.injEq, Prod.mk.injEq] at H
   obtain ⟨rfl, rfl, rfl, rfl⟩ := H
   have hnb37 := NB188_178.out
   have hnc37 := NB178_188.out
   have hnb38 := NB188_179.out
   have hnc38 := NB179_188.out
   have hnb39 := NB188_198.out
   have hnc39 := NB198_188.out
   have hnb40 := NB188_183.out
   have hnc40 := NB183_188.out
   have hcz41_0 := bkc0 BK188
   have hcz41_1 := bkc1 BK188
   have hfz41_0 := bkF BK188.out 0
   have hfz41_1 := bkF BK188.out 1
   try go_wp2_with (first | ((with_reducible refine gtC (f := 42) rfl ?_); refine clz Try.func42 (some 38) #[.int .i64 t184, .int .i64 (wrap64 (t185 + 1))] ?_; (with_reducible refine (spec_SlopeOf.calls kj7 t184 (wrap64 (t185 + 1)) t202 t203 true _ A35.out).mono ?_); rintro e w42 ⟨rfl, hb⟩; refine ⟨_, rfl, ?_⟩; replace BK178 := bkz BK178 hb; replace BK179 := bkz BK179 hb; replace BK188 := bkz BK188 hb; replace BK198 := bkz BK198 hb; replace HB := Az.mk (bwT z6_1 hb); replace HI183 := Az.mk (IsS68.below z6_0 hb); (try clear hb)) | ((with_reducible refine gtD (N := 8) rfl ?_); refine bx (N := 8) (cs := #[.int .i64 0, .int .i64 0]) (t := 25) ?_; intro gb205 hg w43 hbox hb; have BK205 := Az.mk (hbox); have GW205 := Az.mk ((by rw [hg]; exact (bwZ z6_1) : w.heap.size ≤ gb205)); have GE205 := Az.mk ((by rw [hg]; exact (bwZ z6_1) : w.heap.size ≤ gb205)); replace HB := Az.mk (bwT z6_1 hb); have NB178_205 := nlt BK178 hg; have NB205_178 := ngt BK178 hg; replace BK178 := bkz BK178 hb; have NB179_205 := nlt BK179 hg; have NB205_179 := ngt BK179 hg; replace BK179 := bkz BK179 hb; have NB188_205 := nlt BK188 hg; have NB205_188 := ngt BK188 hg; replace BK188 := bkz BK188 hb; have NB198_205 := nlt BK198 hg; have NB205_198 := ngt BK198 hg; replace BK198 := bkz BK198 hb; have NB183_205 := Az.mk ((by rw [hg]; exact Nat.ne_of_lt (IsS68.lt (show IsS68 w _ g183 t180 x184001_7 x184002_7 from by repeat (first | (with_reducible first | exact HI183.out | apply IsS68.alloc | apply IsS68.drewN | apply IsS68.drew | apply IsS68.set_1 | apply IsS68.set_2 | refine IsS68.far ?_ NB183_178.out _ | refine IsS68.far ?_ NB183_179.out _ | refine IsS68.far ?_ NB183_188.out _ | refine IsS68.far ?_ NB183_198.out _) | exact HI183.out))) : g183 ≠ gb205)); have NB205_183 := Az.mk ((by rw [hg]; exact Nat.ne_of_gt (IsS68.lt (show IsS68 w _ g183 t180 x184001_7 x184002_7 from by repeat (first | (with_reducible first | exact HI183.out | apply IsS68.alloc | apply IsS68.drewN | apply IsS68.drew | apply IsS68.set_1 | apply IsS68.set_2 | refine IsS68.far ?_ NB183_178.out _ | refine IsS68.far ?_ NB183_179.out _ | refine IsS68.far ?_ NB183_188.out _ | refine IsS68.far ?_ NB183_198.out _) | exact HI183.out))) : gb205 ≠ g183)); replace HI183 := Az.mk (IsS68.below z6_0 hb); clear hb hbox hg; have hnb44 := NB205_178.out; have hnc44 := NB178_205.out; have hnb45 := NB205_179.out; have hnc45 := NB179_205.out; have hnb46 := NB205_188.out; have hnc46 := NB188_205.out; have hnb47 := NB205_198.out; have hnc47 := NB198_205.out; have hnb48 := NB205_183.out; have hnc48 := NB183_205.out; obtain ⟨hcz49_0, hcz49_1, hfz49_0, hfz49_1⟩ := bq2 BK205))
   have n0_ : Az (((w43.setCell ⟨gb205, 0, none⟩ (.int .i64 t202)).setCell ⟨gb205, 1, none⟩ (.int .i64 t203)).heap[gb178]? = some (.cells #[.int .i64 0, .int .i64 0] 25 (0, 0))) := ⟨bkv⟩
   have n1_ : Az (((w43.setCell ⟨gb205, 0, none⟩ (.int .i64 t202)).setCell ⟨gb205, 1, none⟩ (.int .i64 t203)).heap[gb179]? = some (.cells #[.int .i64 0, .int .i64 0] 25 (0, 0))) := ⟨bkv⟩
   have n2_ : Az (((w43.setCell ⟨gb205, 0, none⟩ (.int .i64 t202)).setCell ⟨gb205, 1, none⟩ (.int .i64 t203)).heap[gb188]? = some (.cells #[.int .i64 t184, .int .i64 t185] 25 (0, 0))) := ⟨bkv⟩
   have n3_ : Az (((w43.setCell ⟨gb205, 0, none⟩ (.int .i64 t202)).setCell ⟨gb205, 1, none⟩ (.int .i64 t203)).heap[gb198]? = some (.cells #[.int .i64 t195, .int .i64 t196] 25 (0, 0))) := ⟨bkv⟩
   have n4_ : Az (((w43.setCell ⟨gb205, 0, none⟩ (.int .i64 t202)).setCell ⟨gb205, 1, none⟩ (.int .i64 t203)).heap[gb205]? = some (.cells #[.int .i64 t202, .int .i64 t203] 25 (0, 0))) := ⟨bkv⟩
   have n5_ : Az (IsS68 w ((w43.setCell ⟨gb205, 0, none⟩ (.int .i64 t202)).setCell ⟨gb205, 1, none⟩ (.int .i64 t203)) g183 t180 x184001_7 x184002_7) := ⟨by repeat (first | (with_reducible first | exact HI183.out | apply IsS68.alloc | apply IsS68.drewN | apply IsS68.drew | apply IsS68.set_1 | apply IsS68.set_2 | refine IsS68.far ?_ NB183_178.out _ | refine IsS68.far ?_ NB183_179.out _ | refine IsS68.far ?_ NB183_188.out _ | refine IsS68.far ?_ NB183_198.out _ | refine IsS68.far ?_ NB183_205.out _) | exact HI183.out)⟩
   have n6_ : Az (Below w.heap.size w ((w43.setCell ⟨gb205, 0, none⟩ (.int .i64 t202)).setCell ⟨gb205, 1, none⟩ (.int .i64 t203))) := ⟨by repeat (first | (with_reducible first | exact HB.out | apply bwA | apply pbN | apply bwD | refine bwS ?_ (IsS68.ge HI183.out) | refine bwS ?_ GE178.out | refine bwS ?_ GE179.out | refine bwS ?_ GE188.out | refine bwS ?_ GE198.out | refine bwS ?_ GE205.out) | exact HB.out)⟩
   (try clear BK178)
   (try clear BK179)
   (try clear BK188)
   (try clear BK198)
   (try clear BK205)
   (try clear HI183)
   (try clear HB)
   generalize ((w43.setCell ⟨gb205, 0, none⟩ (.int .i64 t202)).setCell ⟨gb205, 1, none⟩ (.int .i64 t203)) = w50 at n0_ n1_ n2_ n3_ n4_ n5_ n6_ ⊢
   have BK178 := n0_
   have BK179 := n1_
   have BK188 := n2_
   have BK198 := n3_
   have BK205 := n4_
   have HI183 := n5_
   have HB := n6_
   clear n0_ n1_ n2_ n3_ n4_ n5_ n6_
   replace BK178 := Az.mk (bkD BK178.out); replace BK179 := Az.mk (bkD BK179.out); replace BK188 := Az.mk (bkD BK188.out); replace BK198 := Az.mk (bkD BK198.out); replace BK205 := Az.mk (bkD BK205.out); replace HI183 := Az.mk (IsS68.drew HI183.out); replace HB := Az.mk (bwD HB.out)
   refine start_ (n := 4) (S := fun w' => w'.cell? ⟨gb188, 0, none⟩ = some (.int .i64 t184) ∧ w'.cell? ⟨gb188, 1, none⟩ = some (.int .i64 t185) ∧ w'.cell? ⟨gb205, 0, none⟩ = some (.int .i64 t202) ∧ w'.cell? ⟨gb205, 1, none⟩ = some (.int .i64 t203)) (ds := []) #[F,F,F,F] z6_6 rfl rfl cs_ (fun hHeld => ?_)
   generalize w50.drew = w51 at BK178 BK179 BK188 BK198 BK205 HI183 HB hHeld ⊢
   refine take_ (i := 0) (N := some 42) (v := ?_) (a' := ?_) #[T,F,F,F] rfl rfl z6_6 (fun _ _ _ h => h) (Or.inl ⟨by rfl, ?_⟩) hHeld ?_ ?_
   rotate_left
   ·rintro w' ⟨s0, s1, s2, s3⟩
    go_simp
    with_reducible rfl
   rotate_left
   ·exact acq
   refine take_ (i := 1) (N := some 43) (v := ?_) (a' := ?_) #[T,T,F,F] rfl rfl z6_6 (fun _ _ _ h => h) (Or.inl ⟨by rfl, ?_⟩) hHeld ?_ ?_
   rotate_left
   ·rintro w' ⟨s0, s1, s2, s3⟩
    go_simp
    with_reducible rfl
   rotate_left
   ·exact acq
   refine one_ (i := 2) (N := none) #[T,T,T,F] rfl rfl z6_6 (by decide) (fun K hK => ?_)
   have hs52 := bkc0 BK178
   have hfs52 := bkF BK178.out 0
   have hns52_1 := NB179_178.out
   have hns52_2 := NB188_178.out
   have hns52_3 := NB198_178.out
   have hns52_4 := NB205_178.out
   have hms52_1 := NB178_179.out
   have hms52_2 := NB178_188.out
   have hms52_3 := NB178_198.out
   have hms52_4 := NB178_205.out
   have hs53 := bkc1 BK178
   have hfs53 := bkF BK178.out 1
   have hns53_1 := NB179_178.out
   have hns53_2 := NB188_178.out
   have hns53_3 := NB198_178.out
   have hns53_4 := NB205_178.out
   have hms53_1 := NB178_179.out
   have hms53_2 := NB178_188.out
   have hms53_3 := NB178_198.out
   have hms53_4 := NB178_205.out
   refine skip_ (w1 := ?_) (by rfl) rfl ?_ ?_
   rotate_left
   ·go_simp
    rfl
   refine hK.out _ _ ⟨((cell_far (p := ⟨gb178, _, none⟩) NB188_178.out _).trans (((cell_far (p := ⟨gb178, _, none⟩) NB188_178.out _).trans (hHeld.1)))), ((cell_far (p := ⟨gb178, _, none⟩) NB188_178.out _).trans (((cell_far (p := ⟨gb178, _, none⟩) NB188_178.out _).trans (hHeld.2.1)))), ((cell_far (p := ⟨gb178, _, none⟩) NB205_178.out _).trans (((cell_far (p := ⟨gb178, _, none⟩) NB205_178.out _).trans (hHeld.2.2.1)))), ((cell_far (p := ⟨gb178, _, none⟩) NB205_178.out _).trans (((cell_far (p := ⟨gb178, _, none⟩) NB205_178.out _).trans (hHeld.2.2.2))))⟩ (fun hHeld => ?_)
   clear hK K
   refine one_ (i := 3) (N := none) #[T,T,T,T] rfl rfl z6_6 (by decide) (fun K hK => ?_)
   have hs54 := bkc0 BK179
   have hfs54 := bkF BK179.out 0
   have hns54_0 := NB178_179.out
   have hns54_2 := NB188_179.out
   have hns54_3 := NB198_179.out
   have hns54_4 := NB205_179.out
   have hms54_0 := NB179_178.out
   have hms54_2 := NB179_188.out
   have hms54_3 := NB179_198.out
   have hms54_4 := NB179_205.out
   have hs55 := bkc1 BK179
   have hfs55 := bkF BK179.out 1
   have hns55_0 := NB178_179.out
   have hns55_2 := NB188_179.out
   have hns55_3 := NB198_179.out
   have hns55_4 := NB205_179.out
   have hms55_0 := NB179_178.out
   have hms55_2 := NB179_188.out
   have hms55_3 := NB179_198.out
   have hms55_4 := NB179_205.out
   refine skip_ (w1 := ?_) (by rfl) rfl ?_ ?_
   rotate_left
   ·go_simp
    rfl
   refine hK.out _ _ ⟨((cell_far (p := ⟨gb179, _, none⟩) NB188_179.out _).trans (((cell_far (p := ⟨gb179, _, none⟩) NB188_179.out _).trans (hHeld.1)))), ((cell_far (p := ⟨gb179, _, none⟩) NB188_179.out _).trans (((cell_far (p := ⟨gb179, _, none⟩) NB188_179.out _).trans (hHeld.2.1)))), ((cell_far (p := ⟨gb179, _, none⟩) NB205_179.out _).trans (((cell_far (p := ⟨gb179, _, none⟩) NB205_179.out _).trans (hHeld.2.2.1)))), ((cell_far (p := ⟨gb179, _, none⟩) NB205_179.out _).trans (((cell_far (p := ⟨gb179, _, none⟩) NB205_179.out _).trans (hHeld.2.2.2))))⟩ (fun hHeld => ?_)
   clear hK K
   refine done_ z6_6 ?_
   try go_wp2
   refine bodyPost_ret (results_cc rfl _ _ gb178 gb179 25 25 #[.int .i64 t184, .int .i64 t185] #[.int .i64 t202, .int .i64 t203] (0, 0) (0, 0) _ _ rfl bkv Try.underlying25 rfl z6_6 rfl bkv Try.underlying25 rfl z6_6) rfl ?_
   exact ⟨rq1, by repeat (first | (with_reducible first | exact HB.out | apply bwA | apply pbN | apply bwD | refine bwS ?_ (IsS68.ge HI183.out) | refine bwS ?_ GE178.out | refine bwS ?_ GE179.out | refine bwS ?_ GE188.out | refine bwS ?_ GE198.out | refine bwS ?_ GE205.out) | exact HB.out)⟩
  replace c36 := Bool.eq_false_iff.mpr c36
  subst c36
  rw [if_neg (show ¬ (false = true) by decide)] at H
  replace H := bez H
  obtain ⟨⟨t206, t207, t208, t209⟩, A56, H⟩ := H
  try dsimp only at H
  simp only [Option.some.injEq, Prod.mk.injEq] at H
  obtain ⟨rfl, rfl, rfl, rfl⟩ := H
  have hnb57 := NB188_178.out
  have hnc57 := NB178_188.out
  have hnb58 := NB188_179.out
  have hnc58 := NB179_188.out
  have hnb59 := NB188_198.out
  have hnc59 := NB198_188.out
  have hnb60 := NB188_183.out
  have hnc60 := NB183_188.out
  have hcz61_0 := bkc0 BK188
  have hcz61_1 := bkc1 BK188
  have hfz61_0 := bkF BK188.out 0
  have hfz61_1 := bkF BK188.out 1
  try go_wp2_with (first | ((with_reducible refine gtC (f := 42) rfl ?_); refine clz Try.func42 (some 38) #[.int .i64 t184, .int .i64 (wrap64 (t185 + 1))] ?_; (with_reducible refine (spec_SlopeOf.calls kj7 t184 (wrap64 (t185 + 1)) t202 t203 false _ A35.out).mono ?_); rintro e w62 ⟨rfl, hb⟩; refine ⟨_, rfl, ?_⟩; replace BK178 := bkz BK178 hb; replace BK179 := bkz BK179 hb; replace BK188 := bkz BK188 hb; replace BK198 := bkz BK198 hb; replace HB := Az.mk (bwT z6_1 hb); replace HI183 := Az.mk (IsS68.below z6_0 hb); (try clear hb)) | ((with_reducible refine gtD (N := 8) rfl ?_); refine bx (N := 8) (cs := #[.int .i64 0, .int .i64 0]) (t := 25) ?_; intro gb205 hg w63 hbox hb; have BK205 := Az.mk (hbox); have GW205 := Az.mk ((by rw [hg]; exact (bwZ z6_1) : w.heap.size ≤ gb205)); have GE205 := Az.mk ((by rw [hg]; exact (bwZ z6_1) : w.heap.size ≤ gb205)); replace HB := Az.mk (bwT z6_1 hb); have NB178_205 := nlt BK178 hg; have NB205_178 := ngt BK178 hg; replace BK178 := bkz BK178 hb; have NB179_205 := nlt BK179 hg; have NB205_179 := ngt BK179 hg; replace BK179 := bkz BK179 hb; have NB188_205 := nlt BK188 hg; have NB205_188 := ngt BK188 hg; replace BK188 := bkz BK188 hb; have NB198_205 := nlt BK198 hg; have NB205_198 := ngt BK198 hg; replace BK198 := bkz BK198 hb; have NB183_205 := Az.mk ((by rw [hg]; exact Nat.ne_of_lt (IsS68.lt (show IsS68 w _ g183 t180 x184001_7 x184002_7 from by repeat (first | (with_reducible first | exact HI183.out | apply IsS68.alloc | apply IsS68.drewN | apply IsS68.drew | apply IsS68.set_1 | apply IsS68.set_2 | refine IsS68.far ?_ NB183_178.out _ | refine IsS68.far ?_ NB183_179.out _ | refine IsS68.far ?_ NB183_188.out _ | refine IsS68.far ?_ NB183_198.out _) | exact HI183.out))) : g183 ≠ gb205)); have NB205_183 := Az.mk ((by rw [hg]; exact Nat.ne_of_gt (IsS68.lt (show IsS68 w _ g183 t180 x184001_7 x184002_7 from by repeat (first | (with_reducible first | exact HI183.out | apply IsS68.alloc | apply IsS68.drewN | apply IsS68.drew | apply IsS68.set_1 | apply IsS68.set_2 | refine IsS68.far ?_ NB183_178.out _ | refine IsS68.far ?_ NB183_179.out _ | refine IsS68.far ?_ NB183_188.out _ | refine IsS68.far ?_ NB183_198.out _) | exact HI183.out))) : gb205 ≠ g183)); replace HI183 := Az.mk (IsS68.below z6_0 hb); clear hb hbox hg; have hnb64 := NB205_178.out; have hnc64 := NB178_205.out; have hnb65 := NB205_179.out; have hnc65 := NB179_205.out; have hnb66 := NB205_188.out; have hnc66 := NB188_205.out; have hnb67 := NB205_198.out; have hnc67 := NB198_205.out; have hnb68 := NB205_183.out; have hnc68 := NB183_205.out; obtain ⟨hcz69_0, hcz69_1, hfz69_0, hfz69_1⟩ := bq2 BK205))
  have n0_ : Az (((w63.setCell ⟨gb205, 0, none⟩ (.int .i64 t202)).setCell ⟨gb205, 1, none⟩ (.int .i64 t203)).heap[gb178]? = some (.cells #[.int .i64 0, .int .i64 0] 25 (0, 0))) := ⟨bkv⟩
  have n1_ : Az (((w63.setCell ⟨gb205, 0, none⟩ (.int .i64 t202)).setCell ⟨gb205, 1, none⟩ (.int .i64 t203)).heap[gb179]? = some (.cells #[.int .i64 0, .int .i64 0] 25 (0, 0))) := ⟨bkv⟩
  have n2_ : Az (((w63.setCell ⟨gb205, 0, none⟩ (.int .i64 t202)).setCell ⟨gb205, 1, none⟩ (.int .i64 t203)).heap[gb188]? = some (.cells #[.int .i64 t184, .int .i64 t185] 25 (0, 0))) := ⟨bkv⟩
  have n3_ : Az (((w63.setCell ⟨gb205, 0, none⟩ (.int .i64 t202)).setCell ⟨gb205, 1, none⟩ (.int .i64 t203)).heap[gb198]? = some (.cells #[.int .i64 t195, .int .i64 t196] 25 (0, 0))) := ⟨bkv⟩
  have n4_ : Az (((w63.setCell ⟨gb205, 0, none⟩ (.int .i64 t202)).setCell ⟨gb205, 1, none⟩ (.int .i64 t203)).heap[gb205]? = some (.cells #[.int .i64 t202, .int .i64 t203] 25 (0, 0))) := ⟨bkv⟩
  have n5_ : Az (IsS68 w ((w63.setCell ⟨gb205, 0, none⟩ (.int .i64 t202)).setCell ⟨gb205, 1, none⟩ (.int .i64 t203)) g183 t180 x184001_7 x184002_7) := ⟨by repeat (first | (with_reducible first | exact HI183.out | apply IsS68.alloc | apply IsS68.drewN | apply IsS68.drew | apply IsS68.set_1 | apply IsS68.set_2 | refine IsS68.far ?_ NB183_178.out _ | refine IsS68.far ?_ NB183_179.out _ | refine IsS68.far ?_ NB183_188.out _ | refine IsS68.far ?_ NB183_198.out _ | refine IsS68.far ?_ NB183_205.out _) | exact HI183.out)⟩
  have n6_ : Az (Below w.heap.size w ((w63.setCell ⟨gb205, 0, none⟩ (.int .i64 t202)).setCell ⟨gb205, 1, none⟩ (.int .i64 t203))) := ⟨by repeat (first | (with_reducible first | exact HB.out | apply bwA | apply pbN | apply bwD | refine bwS ?_ (IsS68.ge HI183.out) | refine bwS ?_ GE178.out | refine bwS ?_ GE179.out | refine bwS ?_ GE188.out | refine bwS ?_ GE198.out | refine bwS ?_ GE205.out) | exact HB.out)⟩
  (try clear BK178)
  (try clear BK179)
  (try clear BK188)
  (try clear BK198)
  (try clear BK205)
  (try clear HI183)
  (try clear HB)
  generalize ((w63.setCell ⟨gb205, 0, none⟩ (.int .i64 t202)).setCell ⟨gb205, 1, none⟩ (.int .i64 t203)) = w70 at n0_ n1_ n2_ n3_ n4_ n5_ n6_ ⊢
  have BK178 := n0_
  have BK179 := n1_
  have BK188 := n2_
  have BK198 := n3_
  have BK205 := n4_
  have HI183 := n5_
  have HB := n6_
  clear n0_ n1_ n2_ n3_ n4_ n5_ n6_
  replace BK178 := Az.mk (bkD BK178.out); replace BK179 := Az.mk (bkD BK179.out); replace BK188 := Az.mk (bkD BK188.out); replace BK198 := Az.mk (bkD BK198.out); replace BK205 := Az.mk (bkD BK205.out); replace HI183 := Az.mk (IsS68.drew HI183.out); replace HB := Az.mk (bwD HB.out)
  refine start_ (n := 5) (S := fun w' => w'.cell? ⟨gb188, 0, none⟩ = some (.int .i64 t184) ∧ w'.cell? ⟨gb188, 1, none⟩ = some (.int .i64 t185)) (ds := []) #[F,F,F,F,F] z6_6 rfl rfl ⟨(bkC BK188.out 0).trans rfl, (bkC BK188.out 1).trans rfl⟩ (fun hHeld => ?_)
  generalize w70.drew = w71 at BK178 BK179 BK188 BK198 BK205 HI183 HB hHeld ⊢
  refine pure_ (i := 1) (N := some 45) (v := ?_) (a' := ?_) #[F,T,F,F,F] rfl rfl z6_6 (fun _ _ _ h => h) (Or.inl ⟨by rfl, ?_⟩) ?_ ?_
  rotate_left
  ·intro w'
   go_simp
   with_reducible rfl
  rotate_left
  ·exact acq
  refine take_ (i := 0) (N := some 44) (v := ?_) (a' := ?_) #[T,T,F,F,F] rfl rfl z6_6 (fun _ _ _ h => h) (Or.inl ⟨by rfl, ?_⟩) hHeld ?_ ?_
  rotate_left
  ·rintro w' ⟨s0, s1⟩
   go_simp
   with_reducible rfl
  rotate_left
  ·exact acq
  refine one_ (i := 2) (N := some 46) #[T,T,T,F,F] rfl rfl z6_6 (by decide) (fun K hK => ?_)
  refine goes_ Try.func30 z6_6 rfl #[.pointer (some ⟨g183, 0, none⟩)] (by rfl) rfl rfl ln_6 ?_
  with_reducible refine (spec_l12Draw.calls kj7 g183 t180 x184001_7 x184002_7 t206 t207 t208 t209 w _ ?side1 ?side2 A56.out).mono ?_
  (case side1 => exact (by repeat (first | (with_reducible first | exact HI183.out | apply IsS68.alloc | apply IsS68.drewN | apply IsS68.drew | apply IsS68.set_1 | apply IsS68.set_2 | refine IsS68.far ?_ NB183_178.out _ | refine IsS68.far ?_ NB183_179.out _ | refine IsS68.far ?_ NB183_188.out _ | refine IsS68.far ?_ NB183_198.out _ | refine IsS68.far ?_ NB183_205.out _) | exact HI183.out)))
  (case side2 => repeat (first | (with_reducible first | exact HB.out | apply bwA | apply pbN | apply bwD | refine bwS ?_ (IsS68.ge HI183.out) | refine bwS ?_ GE178.out | refine bwS ?_ GE179.out | refine bwS ?_ GE188.out | refine bwS ?_ GE198.out | refine bwS ?_ GE205.out) | exact HB.out))
  rintro e w72 ⟨rfl, hi, hb, hk⟩
  refine ⟨_, rfl, ?_⟩
  replace BK178 := bkk BK178 hk NB178_183; replace BK179 := bkk BK179 hk NB179_183; replace BK188 := bkk BK188 hk NB188_183; replace BK198 := bkk BK198 hk NB198_183; replace BK205 := bkk BK205 hk NB205_183; replace HB := Az.mk (hb); replace HI183 := Az.mk (hi)
  (try clear hb)
  (try clear hb2)
  (try clear hk)
  (try clear hi)
  refine hK.out _ _ ⟨(bkC BK188.out 0).trans rfl, (bkC BK188.out 1).trans rfl⟩ (fun hHeld => ?_)
  clear hK K
  refine norm_ (a' := ?_) ?_ ?_
  rotate_left
  ·show Act.put _ (some 46) _ = _
   exact acq
  refine one_ (i := 3) (N := none) #[T,T,T,T,F] rfl rfl z6_6 (by decide) (fun K hK => ?_)
  have hs73 := bkc0 BK178
  have hfs73 := bkF BK178.out 0
  have hns73_1 := NB179_178.out
  have hns73_2 := NB188_178.out
  have hns73_3 := NB198_178.out
  have hns73_4 := NB205_178.out
  have hms73_1 := NB178_179.out
  have hms73_2 := NB178_188.out
  have hms73_3 := NB178_198.out
  have hms73_4 := NB178_205.out
  have hs74 := bkc1 BK178
  have hfs74 := bkF BK178.out 1
  have hns74_1 := NB179_178.out
  have hns74_2 := NB188_178.out
  have hns74_3 := NB198_178.out
  have hns74_4 := NB205_178.out
  have hms74_1 := NB178_179.out
  have hms74_2 := NB178_188.out
  have hms74_3 := NB178_198.out
  have hms74_4 := NB178_205.out
  refine skip_ (w1 := ?_) (by rfl) rfl ?_ ?_
  rotate_left
  ·go_simp
   rfl
  refine hK.out _ _ ⟨((cell_far (p := ⟨gb178, _, none⟩) NB188_178.out _).trans (((cell_far (p := ⟨gb178, _, none⟩) NB188_178.out _).trans (hHeld.1)))), ((cell_far (p := ⟨gb178, _, none⟩) NB188_178.out _).trans (((cell_far (p := ⟨gb178, _, none⟩) NB188_178.out _).trans (hHeld.2))))⟩ (fun hHeld => ?_)
  clear hK K
  refine one_ (i := 4) (N := none) #[T,T,T,T,T] rfl rfl z6_6 (by decide) (fun K hK => ?_)
  have hs75 := bkc0 BK179
  have hfs75 := bkF BK179.out 0
  have hns75_0 := NB178_179.out
  have hns75_2 := NB188_179.out
  have hns75_3 := NB198_179.out
  have hns75_4 := NB205_179.out
  have hms75_0 := NB179_178.out
  have hms75_2 := NB179_188.out
  have hms75_3 := NB179_198.out
  have hms75_4 := NB179_205.out
  have hs76 := bkc1 BK179
  have hfs76 := bkF BK179.out 1
  have hns76_0 := NB178_179.out
  have hns76_2 := NB188_179.out
  have hns76_3 := NB198_179.out
  have hns76_4 := NB205_179.out
  have hms76_0 := NB179_178.out
  have hms76_2 := NB179_188.out
  have hms76_3 := NB179_198.out
  have hms76_4 := NB179_205.out
  refine skip_ (w1 := ?_) (by rfl) rfl ?_ ?_
  rotate_left
  ·go_simp
   rfl
  refine hK.out _ _ ⟨((cell_far (p := ⟨gb179, _, none⟩) NB188_179.out _).trans (((cell_far (p := ⟨gb179, _, none⟩) NB188_179.out _).trans (hHeld.1)))), ((cell_far (p := ⟨gb179, _, none⟩) NB188_179.out _).trans (((cell_far (p := ⟨gb179, _, none⟩) NB188_179.out _).trans (hHeld.2))))⟩ (fun hHeld => ?_)
  clear hK K
  refine done_ z6_6 ?_
  try go_wp2
  refine bodyPost_ret (results_cc rfl _ _ gb178 gb179 25 25 #[.int .i64 t184, .int .i64 t185] #[.int .i64 t206, .int .i64 t207] (0, 0) (0, 0) _ _ rfl bkv Try.underlying25 rfl z6_6 rfl bkv Try.underlying25 rfl z6_6) rfl ?_
  exact ⟨rq1, by repeat (first | (with_reducible first | exact HB.out | apply bwA | apply pbN | apply bwD | refine bwS ?_ (IsS68.ge HI183.out) | refine bwS ?_ GE178.out | refine bwS ?_ GE179.out | refine bwS ?_ GE188.out | refine bwS ?_ GE198.out | refine bwS ?_ GE205.out) | exact HB.out)⟩

end Go.Proofs.Ytigcjehokbgclaa.P
