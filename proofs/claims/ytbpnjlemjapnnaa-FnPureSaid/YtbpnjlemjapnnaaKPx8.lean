-- The walks, cut and laid together by this session's tools (prune.py, sq2.py, min.py: shorter names, no needless spaces). Not trusted: Lean checks it.
import Derived.Test.YtbpnjlemjapnnaaKWZip
import Derived.Test.YtbpnjlemjapnnaaKPx0
namespace Go.Proofs.Ytbpnjlemjapnnaa.P
open Go.RowKit Go.Proofs.YtbpnjlemjapnnaaW.PrintWords Go.Proofs.YtbpnjlemjapnnaaW.PrintLast Go.Proofs.YtbpnjlemjapnnaaW.PrintMore
attribute [local go_sem] max2_int min2_int max_two min_two max_three min_three max_four min_four   -- for this text's walks alone
set_option linter.unusedVariables false
set_option linter.unusedSimpArgs false
set_option maxHeartbeats 8000000
set_option maxRecDepth 100000
open Option renaming bind_eq_some_iff → be
theorem ln_8 {P:Prop} (h:P:=by(try simp only[List.map_toArray,List.map_cons,List.map_nil]);first|done|rfl|(simp only[List.length_drop,List.length_take];rfl)):P:=h
/-- A state of type 63 at block g of W; what its slices lead to came in by w0. -/
def IsS63 (w0 W:World) (g:Nat) (f0:List Int) (f1:Int) (f2:Int):Prop:=∃A0 c0,W.heap[g]?= some (.cells #[.slice A0 f0.length c0, .int .i64 f1, .int .i64 f2] 63 (0,0))∧w0.heap.size≤g∧Kd.C (Kd.int .u8) w0 A0 f0.length f0
theorem IsS63.grown {w0 W:World}{g:Nat}{f0:List Int}{f1:Int}{f2:Int}{W1:World}{row:Option Nat} (h:IsS63 w0 W g f0 f1 f2) (hw:W.grownBy W1 row) (hne:some g≠row):IsS63 w0 W1 g f0 f1 f2:=by
 obtain⟨A0,c0,hb,hg,Ad⟩:=h
 exact⟨A0,c0,blk_grown hb hw hne,hg,Ad⟩
theorem IsS63.kept {w0 W:World}{g:Nat}{f0:List Int}{f1:Int}{f2:Int}{W1:World}{S:Nat→Prop} (h:IsS63 w0 W g f0 f1 f2) (hk:Kept W W1 S) (hne:¬S g):IsS63 w0 W1 g f0 f1 f2:=by
 obtain⟨A0,c0,hb,hg,Ad⟩:=h
 exact⟨A0,c0,blk_kept hb hk hne,hg,Ad⟩
theorem IsS63.below {w0 W:World}{g:Nat}{f0:List Int}{f1:Int}{f2:Int}{W1:World} (h:IsS63 w0 W g f0 f1 f2) (hw:Below W.heap.size W W1):IsS63 w0 W1 g f0 f1 f2:=h.grown (grown_of_below hw none) (by simp)
theorem IsS63.alloc {w0 W:World}{g:Nat}{f0:List Int}{f1:Int}{f2:Int} (h:IsS63 w0 W g f0 f1 f2) (o:Obj):IsS63 w0 (W.alloc o) g f0 f1 f2:=h.below (bwA (Below.refl _ _) o)
theorem IsS63.drewN {w0 W:World}{g:Nat}{f0:List Int}{f1:Int}{f2:Int} (h:IsS63 w0 W g f0 f1 f2) (m:Nat):IsS63 w0 (W.drewN m) g f0 f1 f2:=h
theorem IsS63.drew {w0 W:World}{g:Nat}{f0:List Int}{f1:Int}{f2:Int} (h:IsS63 w0 W g f0 f1 f2):IsS63 w0 W.drew g f0 f1 f2:=h
theorem IsS63.at_ {w0 W:World}{g:Nat}{f0:List Int}{f1:Int}{f2:Int}{w':World}{m:Nat} (hq:W.drewN m=w') (h:IsS63 w0 W g f0 f1 f2):IsS63 w0 w' g f0 f1 f2:=by subst hq;exact IsS63.drewN h m
theorem IsS63.apart {w0 W:World}{g:Nat}{f0:List Int}{f1:Int}{f2:Int}{α:Type}{d:Kd α}{e:Nat}{base:Nat}{ok:Nat→Prop}{v:Value}{xs:List α} (h:IsS63 w0 W g f0 f1 f2) (ho:d.R e W base ok v xs) (ht:∀q,q∈e :: d.E→q≠63):d.R e W base (fun k=>ok k∧k≠g) v xs:=by
 obtain⟨A0,c0,hb,hg,Ad⟩:=h
 exact Kd.R_types ho hb ht
theorem IsS63.own_ne {w0 W:World}{g:Nat}{f0:List Int}{f1:Int}{f2:Int}{α:Type}{d:Kd α}{e:Nat}{base:Nat}{ok:Nat→Prop}{v:Value}{xs:List α} (h:IsS63 w0 W g f0 f1 f2) (ho:d.R e W base ok v xs) (ht:e≠63):some g≠v.ownBlock:=by
 obtain⟨A0,c0,hb,hg,Ad⟩:=h
 exact Kd.R_ne ho hb ht
theorem IsS63.apartQ {w0 W:World}{g:Nat}{f0:List Int}{f1:Int}{f2:Int}{α:Type}{d:Kd α}{e:Nat}{base:Nat}{ok:Nat→Prop}{v:Value}{xs:List α} (h:IsS63 w0 W g f0 f1 f2) (ho:d.Q e W base ok v xs) (ht:∀q,q∈e :: d.E→q≠63):d.Q e W base (fun k=>ok k∧k≠g) v xs:=by
 obtain⟨A0,c0,hb,hg,Ad⟩:=h
 exact Kd.Q_types ho hb ht
theorem IsS63.own_neQ {w0 W:World}{g:Nat}{f0:List Int}{f1:Int}{f2:Int}{α:Type}{d:Kd α}{e:Nat}{base:Nat}{ok:Nat→Prop}{v:Value}{xs:List α} (h:IsS63 w0 W g f0 f1 f2) (ho:d.Q e W base ok v xs) (ht:e≠63):some g≠v.ownBlock:=by
 obtain⟨A0,c0,hb,hg,Ad⟩:=h
 exact Kd.Q_ne ho hb ht
theorem IsS63.apartS {w0 W:World}{g:Nat}{f0:List Int}{f1:Int}{f2:Int}{α:Type}{d:Kd α}{e:Nat}{base:Nat}{ok:Nat→Prop}{v:Value}{xs:List α} (h:IsS63 w0 W g f0 f1 f2) (ho:d.S e W base ok v xs) (ht:∀q,q∈e :: d.E→q≠63):d.S e W base (fun k=>ok k∧k≠g) v xs:=by
 obtain⟨A0,c0,hb,hg,Ad⟩:=h
 exact Kd.S_types ho hb ht
theorem IsS63.own_neS {w0 W:World}{g:Nat}{f0:List Int}{f1:Int}{f2:Int}{α:Type}{d:Kd α}{e:Nat}{base:Nat}{ok:Nat→Prop}{v:Value}{xs:List α} (h:IsS63 w0 W g f0 f1 f2) (ho:d.S e W base ok v xs) (ht:e≠63):some g≠v.ownBlock:=by
 obtain⟨A0,c0,hb,hg,Ad⟩:=h
 exact Kd.S_ne ho hb ht
theorem IsS63.ge {w0 W:World}{g:Nat}{f0:List Int}{f1:Int}{f2:Int} (h:IsS63 w0 W g f0 f1 f2):w0.heap.size≤g:=by
 obtain⟨A0,c0,hb,hg,Ad⟩:=h
 exact hg
theorem IsS63.far {w0 W:World}{g:Nat}{f0:List Int}{f1:Int}{f2:Int}{p:Addr} (h:IsS63 w0 W g f0 f1 f2) (hne:g≠p.block) (u:Value):IsS63 w0 (W.setCell p u) g f0 f1 f2:=by
 obtain⟨A0,c0,hb,hg,Ad⟩:=h
 exact⟨A0,c0,bkf hb hne u,hg,Ad⟩
theorem cellS63_0 {W:World}{g:Nat}{A0:Option Addr}{c0:Nat}{f0:List Int}{f1:Int}{f2:Int} (h:W.heap[g]?= some (.cells #[.slice A0 f0.length c0, .int .i64 f1, .int .i64 f2] 63 (0,0))):W.cell? ⟨g,0,none⟩=some (.slice A0 f0.length c0):=(bkC h 0).trans rfl
theorem cellS63_1 {W:World}{g:Nat}{A0:Option Addr}{c0:Nat}{f0:List Int}{f1:Int}{f2:Int} (h:W.heap[g]?= some (.cells #[.slice A0 f0.length c0, .int .i64 f1, .int .i64 f2] 63 (0,0))):W.cell? ⟨g,1,none⟩=some (.int .i64 f1):=(bkC h 1).trans rfl
theorem IsS63.set_1 {w0 W:World}{g:Nat}{f0:List Int}{f1:Int}{f2:Int} (h:IsS63 w0 W g f0 f1 f2) (x:Int):IsS63 w0 (W.setCell ⟨g,1,none⟩ (.int .i64 x)) g f0 x f2:=by
 obtain⟨A0,c0,hb,hg,Ad⟩:=h
 exact⟨A0,c0,by simpa using blk_set hb 1 (.int .i64 x),hg,Ad⟩
theorem cellS63_2 {W:World}{g:Nat}{A0:Option Addr}{c0:Nat}{f0:List Int}{f1:Int}{f2:Int} (h:W.heap[g]?= some (.cells #[.slice A0 f0.length c0, .int .i64 f1, .int .i64 f2] 63 (0,0))):W.cell? ⟨g,2,none⟩=some (.int .i64 f2):=(bkC h 2).trans rfl
theorem IsS63.set_2 {w0 W:World}{g:Nat}{f0:List Int}{f1:Int}{f2:Int} (h:IsS63 w0 W g f0 f1 f2) (x:Int):IsS63 w0 (W.setCell ⟨g,2,none⟩ (.int .i64 x)) g f0 f1 x:=by
 obtain⟨A0,c0,hb,hg,Ad⟩:=h
 exact⟨A0,c0,by simpa using blk_set hb 2 (.int .i64 x),hg,Ad⟩
theorem kI {q p:Prop} (h:q) (hs:q→p:=by intro h_;repeat(first|(with_reducible first|exact h_|apply IsS63.alloc|apply IsS63.drewN|apply IsS63.drew|apply IsS63.set_1|apply IsS63.set_2)|exact h_)):p:=hs h
def gX.f (s0_0:List Int) (s0_1:Int) (s0_2:Int):Option (Int × Int × Int):=if s0_1<(s0_0.length:Int) then(if 0≤s0_1 then(some (Go.bits .and .i64 (wrap64 ((Go.bits .and .i64 (Go.bits .xor .i64 ((wrap64 ((wrap64 (s0_2*6364136223846793005))+1442695040888963407)) / 8589934592) ((wrap64 ((wrap64 (s0_2*6364136223846793005))+1442695040888963407)) / 35184372088832)) 255)+(wrap64 (rd s0_0 s0_1)))) 255,wrap64 (s0_1+1),wrap64 ((wrap64 (s0_2*6364136223846793005))+1442695040888963407))) else(none)) else(some (Go.bits .and .i64 (Go.bits .xor .i64 ((wrap64 ((wrap64 (s0_2*6364136223846793005))+1442695040888963407)) / 8589934592) ((wrap64 ((wrap64 (s0_2*6364136223846793005))+1442695040888963407)) / 35184372088832)) 255,s0_1,wrap64 ((wrap64 (s0_2*6364136223846793005))+1442695040888963407)))
theorem gX.calls (g:Nat) (Ag:List Int) (Ae:Int) (Af:Int) (r1:Int) (r2:Int) (r3:Int) (w0 w:World) (hI:IsS63 w0 w g Ag Ae Af) (hB:Below w0.heap.size w0 w) (h:gX.f Ag Ae Af=some (r1,r2,r3)):
  Calls Try.prog 80 #[.pointer (some ⟨g,0,none⟩)] w fun e w'=>e= .returned (.int .i64 r1)∧IsS63 w0 w' g Ag r2 r3∧Below w0.heap.size w0 w'∧KeepBut w w' g none:=by
 have HI0:=Az.mk hI
 have HK:=Az.mk (KeepBut.refl w g none)
 have HL:=Az.mk hB.size
 clear hI
 have HW0:=Az.mk hB.size
 have HB:=Az.mk hB
 clear hB
 have H:(if Ae<(Ag.length:Int) then(if 0≤Ae then(some (Go.bits .and .i64 (wrap64 ((Go.bits .and .i64 (Go.bits .xor .i64 ((wrap64 ((wrap64 (Af*6364136223846793005))+1442695040888963407)) / 8589934592) ((wrap64 ((wrap64 (Af*6364136223846793005))+1442695040888963407)) / 35184372088832)) 255)+(wrap64 (rd Ag Ae)))) 255,wrap64 (Ae+1),wrap64 ((wrap64 (Af*6364136223846793005))+1442695040888963407))) else(none)) else(some (Go.bits .and .i64 (Go.bits .xor .i64 ((wrap64 ((wrap64 (Af*6364136223846793005))+1442695040888963407)) / 8589934592) ((wrap64 ((wrap64 (Af*6364136223846793005))+1442695040888963407)) / 35184372088832)) 255,Ae,wrap64 ((wrap64 (Af*6364136223846793005))+1442695040888963407))))=some (r1,r2,r3):=h
 clear h
 by_cases c2:Ae<(Ag.length:Int)
 rotate_left
 ·rw[ig c2]at H
  have Ak:=decide_eq_false c2
  clear c2
  simp only[Option.some.injEq,Prod.mk.injEq]at H
  obtain⟨rfl,rfl,rfl⟩:=H
  obtain⟨ASz5_0,cSz5_0,HGz5,hgz5,HSz5_0⟩:=HI0.out
  have Al:=cellS63_0 HGz5
  have Am:=cellS63_1 HGz5
  have Ao:=cellS63_2 HGz5
  have Ap:=bkF HGz5 1
  have Aq:=bkF HGz5 2
  clear HGz5 hgz5
  go_enter Try.func80,Try.ntmps80
  go_wp2
  repeat(go_quiet (fail);try go_wp2)
  go_ret
  exact⟨rq1,kI HI0.out,kG HB.out (IsS63.ge HI0.out),kK HK.out⟩
 rw[ip c2]at H
 have Ak:=ode c2
 clear c2
 by_cases c3:0≤Ae
 rotate_left
 ·rw[ig c3]at H
  exact absurd H (by simp)
 rw[ip c3]at H
 have Bb:=ode c3
 clear c3
 simp only[Option.some.injEq,Prod.mk.injEq]at H
 obtain⟨rfl,rfl,rfl⟩:=H
 obtain⟨ASz4_0,cSz4_0,HGz4,hgz4,HSz4_0⟩:=HI0.out
 have As:=cellS63_0 HGz4
 have Au:=cellS63_1 HGz4
 have Av:=cellS63_2 HGz4
 have Ax:=bkF HGz4 1
 have Ay:=bkF HGz4 2
 clear HGz4 hgz4
 have Ah:0≤(Ae:Int):=od
 have Ai:Ae<(Ag.length:Int):=od
 obtain⟨Aj,Ba,Ad⟩:=Kd.at_int HSz4_0 Ae Ah Ai
 cases Ba
 have hn204_0:Aj.block≠g:=Nat.ne_of_lt (Nat.lt_of_lt_of_le (by have:=World.block_lt_of_cell? _ _ Ad;first|rwa [add_block]at this|exact this) (IsS63.ge HI0.out))
 replace Ad:=pw_cell_below HB.out Ad
 replace Ad:=(cell_far (p:=⟨g,2,none⟩) (by first|(rw[add_block];exact hn204_0)|(show(Addr.add _ _).block≠_;rw[add_block];exact hn204_0)|exact hn204_0) (.int .i64 (wrap64 ((wrap64 (Af*6364136223846793005))+1442695040888963407)))).trans Ad
 (try have hy204_0:=fun (n_:Nat)=>(show(((w.drewN n_).setCell ⟨g,2,none⟩ (.int .i64 (wrap64 ((wrap64 (Af*6364136223846793005))+1442695040888963407))))).cell? _=some _ from Ad))
 clear hn204_0
 replace Ah:=ets Ah
 replace Ai:=ets Ai
 go_enter Try.func80,Try.ntmps80
 go_wp2
 repeat(go_quiet (fail);try go_wp2)
 go_ret
 exact⟨rq1,kI HI0.out,kG HB.out (IsS63.ge HI0.out),kK HK.out⟩
def fB.f (s0_0:List Int) (s0_1:Int) (s0_2:Int) (a1:Int):Option (Int × Int × Int):=if a1≤0 then(some (0,s0_1,s0_2)) else(if a1≤256 then((gX.f s0_0 s0_1 s0_2).bind fun bt205=>(if a1=0 then(none) else(some (Int.tmod bt205.1 a1,bt205.2.1,bt205.2.2)))) else((gX.f s0_0 s0_1 s0_2).bind fun bt208=>((gX.f s0_0 bt208.2.1 bt208.2.2).bind fun bt211=>((gX.f s0_0 bt211.2.1 bt211.2.2).bind fun bt214=>((gX.f s0_0 bt214.2.1 bt214.2.2).bind fun bt217=>(if a1=0 then(none) else(some (Int.tmod (wrap64 ((wrap64 ((wrap64 ((wrap64 (bt208.1*16777216))+(wrap64 (bt211.1*65536))))+(wrap64 (bt214.1*256))))+bt217.1)) a1,bt217.2.1,bt217.2.2))))))))
theorem fB.calls (g:Nat) (Af:List Int) (Ag:Int) (Ah:Int) (a1:Int) (r1:Int) (r2:Int) (r3:Int) (w0 w:World) (hI:IsS63 w0 w g Af Ag Ah) (hB:Below w0.heap.size w0 w) (h:fB.f Af Ag Ah a1=some (r1,r2,r3)):
  Calls Try.prog 51 #[.pointer (some ⟨g,0,none⟩), .int .i64 a1] w fun e w'=>e= .returned (.int .i64 r1)∧IsS63 w0 w' g Af r2 r3∧Below w0.heap.size w0 w'∧KeepBut w w' g none:=by
 have HI0:=Az.mk hI
 have HK:=Az.mk (KeepBut.refl w g none)
 have HL:=Az.mk hB.size
 clear hI
 have HW0:=Az.mk hB.size
 have HB:=Az.mk hB
 clear hB
 have H:(if a1≤0 then(some (0,Ag,Ah)) else(if a1≤256 then((gX.f Af Ag Ah).bind fun Ai=>(if a1=0 then(none) else(some (Int.tmod Ai.1 a1,Ai.2.1,Ai.2.2)))) else((gX.f Af Ag Ah).bind fun Aj=>((gX.f Af Aj.2.1 Aj.2.2).bind fun Ak=>((gX.f Af Ak.2.1 Ak.2.2).bind fun Al=>((gX.f Af Al.2.1 Al.2.2).bind fun Am=>(if a1=0 then(none) else(some (Int.tmod (wrap64 ((wrap64 ((wrap64 ((wrap64 (Aj.1*16777216))+(wrap64 (Ak.1*65536))))+(wrap64 (Al.1*256))))+Am.1)) a1,Am.2.1,Am.2.2)))))))))=some (r1,r2,r3):=h
 clear h
 by_cases c3:a1≤0
 ·rw[ip c3]at H
  have Ay:=ode c3
  clear c3
  simp only[Option.some.injEq,Prod.mk.injEq]at H
  obtain⟨rfl,rfl,rfl⟩:=H
  go_enter Try.func51,Try.ntmps51
  go_wp2
  go_ret
  exact⟨rq1,kI HI0.out,kG HB.out (IsS63.ge HI0.out),kK HK.out⟩
 rw[ig c3]at H
 have Ay:=decide_eq_false c3
 clear c3
 by_cases c4:a1≤256
 ·rw[ip c4]at H
  have Ba:=ode c4
  clear c4
  replace H:=bez H
  obtain⟨⟨Bb,Bc,Bd⟩,A5,H⟩:=H
  try dsimp only at H
  by_cases c6:a1=0
  ·rw[ip c6]at H
   exact absurd H (by simp)
  rw[ig c6]at H
  have Bo:=beq_eq_false_iff_ne.mpr c6
  have Bp:=bne_iff_ne.mpr c6
  simp only[Option.some.injEq,Prod.mk.injEq]at H
  obtain⟨rfl,rfl,rfl⟩:=H
  go_enter Try.func51,Try.ntmps51
  go_wp2_with (first|((with_reducible refine gtC (f:=80) rfl ?_);refine clz Try.func80 (some 14) #[.pointer (some ⟨g,0,none⟩)] ?_;(with_reducible refine(gX.calls g Af Ag Ah Bb Bc Bd w0 _ ?Ad ?Ae A5.out).mono ?_);(case Ad=>exact(kI HI0.out));(case Ae=>exact kG HB.out (IsS63.ge HI0.out));rintro e w7 ⟨rfl,hi,hb,hk⟩;refine⟨_,rfl,?_⟩;replace HK:=Az.mk (KeepBut.trans (kK HK.out) hk (.inl rfl));replace HB:=Az.mk (hb);replace HI0:=Az.mk (hi);(try clear hb);(try clear hk);(try clear hi)))
  go_ret
  exact⟨rq1,kI HI0.out,kG HB.out (IsS63.ge HI0.out),kK HK.out⟩
 rw[ig c4]at H
 have Ba:=decide_eq_false c4
 clear c4
 replace H:=bez H
 obtain⟨⟨Bf,Ao,Ap⟩,A8,H⟩:=H
 try dsimp only at H
 replace H:=bez H
 obtain⟨⟨Bh,Aq,As⟩,A9,H⟩:=H
 try dsimp only at H
 replace H:=bez H
 obtain⟨⟨Bi,Au,Av⟩,Bq,H⟩:=H
 try dsimp only at H
 replace H:=bez H
 obtain⟨⟨Bj,Bk,Bl⟩,Br,H⟩:=H
 try dsimp only at H
 by_cases Ax:a1=0
 ·rw[ip Ax]at H
  exact absurd H (by simp)
 rw[ig Ax]at H
 have Bm:=beq_eq_false_iff_ne.mpr Ax
 have Bn:=bne_iff_ne.mpr Ax
 simp only[Option.some.injEq,Prod.mk.injEq]at H
 obtain⟨rfl,rfl,rfl⟩:=H
 go_enter Try.func51,Try.ntmps51
 go_wp2_with (first|((with_reducible refine gtC (f:=80) rfl ?_);refine clz Try.func80 (some 18) #[.pointer (some ⟨g,0,none⟩)] ?_;(with_reducible refine(gX.calls g Af Ag Ah Bf Ao Ap w0 _ ?Ad ?Ae A8.out).mono ?_);(case Ad=>exact(kI HI0.out));(case Ae=>exact kG HB.out (IsS63.ge HI0.out));rintro e Bs ⟨rfl,hi,hb,hk⟩;refine⟨_,rfl,?_⟩;replace HK:=Az.mk (KeepBut.trans (kK HK.out) hk (.inl rfl));replace HB:=Az.mk (hb);replace HI0:=Az.mk (hi);(try clear hb);(try clear hk);(try clear hi))|((with_reducible refine gtC (f:=80) rfl ?_);refine clz Try.func80 (some 20) #[.pointer (some ⟨g,0,none⟩)] ?_;(with_reducible refine(gX.calls g Af Ao Ap Bh Aq As w0 _ ?Ad ?Ae A9.out).mono ?_);(case Ad=>exact(kI HI0.out));(case Ae=>exact kG HB.out (IsS63.ge HI0.out));rintro e Bt ⟨rfl,hi,hb,hk⟩;refine⟨_,rfl,?_⟩;replace HK:=Az.mk (KeepBut.trans (kK HK.out) hk (.inl rfl));replace HB:=Az.mk (hb);replace HI0:=Az.mk (hi);(try clear hb);(try clear hk);(try clear hi))|((with_reducible refine gtC (f:=80) rfl ?_);refine clz Try.func80 (some 22) #[.pointer (some ⟨g,0,none⟩)] ?_;(with_reducible refine(gX.calls g Af Aq As Bi Au Av w0 _ ?Ad ?Ae Bq.out).mono ?_);(case Ad=>exact(kI HI0.out));(case Ae=>exact kG HB.out (IsS63.ge HI0.out));rintro e Bu ⟨rfl,hi,hb,hk⟩;refine⟨_,rfl,?_⟩;replace HK:=Az.mk (KeepBut.trans (kK HK.out) hk (.inl rfl));replace HB:=Az.mk (hb);replace HI0:=Az.mk (hi);(try clear hb);(try clear hk);(try clear hi))|((with_reducible refine gtC (f:=80) rfl ?_);refine clz Try.func80 (some 24) #[.pointer (some ⟨g,0,none⟩)] ?_;(with_reducible refine(gX.calls g Af Au Av Bj Bk Bl w0 _ ?Ad ?Ae Br.out).mono ?_);(case Ad=>exact(kI HI0.out));(case Ae=>exact kG HB.out (IsS63.ge HI0.out));rintro e Bv ⟨rfl,hi,hb,hk⟩;refine⟨_,rfl,?_⟩;replace HK:=Az.mk (KeepBut.trans (kK HK.out) hk (.inl rfl));replace HB:=Az.mk (hb);replace HI0:=Az.mk (hi);(try clear hb);(try clear hk);(try clear hi)))
 go_ret
 exact⟨rq1,kI HI0.out,kG HB.out (IsS63.ge HI0.out),kK HK.out⟩
def jS.f (s0_0:List Int) (s0_1:Int) (s0_2:Int) (l1:List ByteArray):Option (ByteArray × Int × Int):=(fB.f s0_0 s0_1 s0_2 (l1.length:Int)).bind fun bt220=>(if 0≤bt220.1 then(if bt220.1<(l1.length:Int) then(some (rdOf ByteArray.empty l1 bt220.1,bt220.2.1,bt220.2.2)) else(none)) else(none))
theorem jS.calls (g:Nat) (Ag:List Int) (Ah:Int) (Ai:Int) (A1:Option Addr) (c1:Nat) (l1:List ByteArray) (r1:ByteArray) (r2:Int) (r3:Int) (w0 w:World) (hI:IsS63 w0 w g Ag Ah Ai) (hB:Below w0.heap.size w0 w) (Av:Kd.C Kd.string w A1 l1.length l1) (Ax:l1.length≤c1) (Ap:∀ad,A1=some ad→0<l1.length→ad.block≠g) (h:jS.f Ag Ah Ai l1=some (r1,r2,r3)):
  Calls Try.prog 79 #[.pointer (some ⟨g,0,none⟩), .slice A1 l1.length c1] w fun e w'=>e= .returned (.string r1)∧IsS63 w0 w' g Ag r2 r3∧Below w0.heap.size w0 w'∧KeepBut w w' g none:=by
 have HR1:=Az.mk Av
 have Bb:=Az.mk Ax
 clear Av Ax
 have HI0:=Az.mk hI
 have HK:=Az.mk (KeepBut.refl w g none)
 have HL:=Az.mk hB.size
 clear hI
 have HW0:=Az.mk hB.size
 have HB:=Az.mk hB
 clear hB
 have H:((fB.f Ag Ah Ai (l1.length:Int)).bind fun Ad=>(if 0≤Ad.1 then(if Ad.1<(l1.length:Int) then(some (rdOf ByteArray.empty l1 Ad.1,Ad.2.1,Ad.2.2)) else(none)) else(none)))=some (r1,r2,r3):=h
 clear h
 replace H:=bez H
 obtain⟨⟨Af,Aq,As⟩,A3,H⟩:=H
 try dsimp only at H
 by_cases c4:0≤Af
 rotate_left
 ·rw[ig c4]at H
  exact absurd H (by simp)
 rw[ip c4]at H
 have Ay:=ode c4
 clear c4
 by_cases c5:Af<(l1.length:Int)
 rotate_left
 ·rw[ig c5]at H
  exact absurd H (by simp)
 rw[ip c5]at H
 have Ba:=ode c5
 clear c5
 simp only[Option.some.injEq,Prod.mk.injEq]at H
 obtain⟨rfl,rfl,rfl⟩:=H
 go_enter Try.func79,Try.ntmps79
 go_wp2_with (first|((with_reducible refine gtC (f:=51) rfl ?_);refine clz Try.func51 (some 9) #[.pointer (some ⟨g,0,none⟩), .int .i64 (l1.length:Int)] ?_;(with_reducible refine(fB.calls g Ag Ah Ai (l1.length:Int) Af Aq As w0 _ ?Al ?Am A3.out).mono ?_);(case Al=>exact(kI HI0.out));(case Am=>exact kG HB.out (IsS63.ge HI0.out));rintro e w6 ⟨rfl,hi,hb,hk⟩;refine⟨_,rfl,?_⟩;replace HK:=Az.mk (KeepBut.trans (kK HK.out) hk (.inl rfl));replace HB:=Az.mk (hb);replace HI0:=Az.mk (hi);(try clear hb);(try clear hk);(try clear hi);have Aj:0≤(Af:Int):=od;have Ak:Af<(l1.length:Int):=od;obtain⟨Ao,Au,Ae⟩:=Kd.at_string HR1.out Af Aj Ak;cases Au;replace Ae:=keep_cell HK.out Ae (by first|(rw[add_block];exact Ap _ rfl (by omega))|exact Ap _ rfl (by omega)|exact Ap Ao rfl (by omega));replace Aj:=ets Aj;replace Ak:=ets Ak))
 go_ret
 exact⟨rq1,kI HI0.out,kG HB.out (IsS63.ge HI0.out),kK HK.out⟩
def jY.f (k:Nat) (s0_0:List Int) (s0_1:Int) (s0_2:Int):Option ((List (List Int)) × Int × Int):=(jS.f s0_0 s0_1 s0_2 (([(⟨#[97,98,99,32,65,66,67]⟩:ByteArray),(⟨#[97,98,99,32,65,67,66]⟩:ByteArray),(⟨#[97,98,99,32,65,100,101,32,66,68,102,32,67,70,69]⟩:ByteArray),(⟨#[97,98,67,32,66,100,101,32,99,68,102,32,65,69,70]⟩:ByteArray),(⟨#[97,98,99,32,65,100,101,32,66,102,68,32,67,70,69]⟩:ByteArray),(⟨#[97,98,99,32,65,100,101,32,102,66,103,32,68,69,104,32,67,72,105,32,70,73,71]⟩:ByteArray)]:List ByteArray))).bind fun bt227=>((fL.f k bt227.1).bind fun bt230=>(if(bt230.1.length:Int)=0 then(none) else(some (bt230.1,bt227.2.1,bt227.2.2))))
theorem jY.calls (k:Nat) (g:Nat) (Ag:List Int) (Ah:Int) (Ai:Int) (r1:List (List Int)) (r2:Int) (r3:Int) (w0 w:World) (hI:IsS63 w0 w g Ag Ah Ai) (hB:Below w0.heap.size w0 w) (h:jY.f k Ag Ah Ai=some (r1,r2,r3)):
  Calls Try.prog 50 #[.pointer (some ⟨g,0,none⟩)] w fun e w'=>∃v0_:Value,e= .returned (v0_)∧Kd.S (Kd.slice 3 (Kd.int .i64)) 25 w' w.heap.size (fun _=>True) v0_ r1∧IsS63 w0 w' g Ag r2 r3∧Below w0.heap.size w0 w'∧KeepBut w w' g none:=by
 have HI0:=Az.mk hI
 have HK:=Az.mk (KeepBut.refl w g none)
 have HL:=Az.mk hB.size
 clear hI
 have HW0:=Az.mk hB.size
 have HB:=Az.mk hB
 clear hB
 have H:((jS.f Ag Ah Ai (([(⟨#[97,98,99,32,65,66,67]⟩:ByteArray),(⟨#[97,98,99,32,65,67,66]⟩:ByteArray),(⟨#[97,98,99,32,65,100,101,32,66,68,102,32,67,70,69]⟩:ByteArray),(⟨#[97,98,67,32,66,100,101,32,99,68,102,32,65,69,70]⟩:ByteArray),(⟨#[97,98,99,32,65,100,101,32,66,102,68,32,67,70,69]⟩:ByteArray),(⟨#[97,98,99,32,65,100,101,32,102,66,103,32,68,69,104,32,67,72,105,32,70,73,71]⟩:ByteArray)]:List ByteArray))).bind fun Ae=>((fL.f k Ae.1).bind fun Af=>(if(Af.1.length:Int)=0 then(none) else(some (Af.1,Ae.2.1,Ae.2.2)))))=some (r1,r2,r3):=h
 clear h
 obtain⟨Am,hy⟩:∃y_:List ByteArray,y_=(([(⟨#[97,98,99,32,65,66,67]⟩:ByteArray),(⟨#[97,98,99,32,65,67,66]⟩:ByteArray),(⟨#[97,98,99,32,65,100,101,32,66,68,102,32,67,70,69]⟩:ByteArray),(⟨#[97,98,67,32,66,100,101,32,99,68,102,32,65,69,70]⟩:ByteArray),(⟨#[97,98,99,32,65,100,101,32,66,102,68,32,67,70,69]⟩:ByteArray),(⟨#[97,98,99,32,65,100,101,32,102,66,103,32,68,69,104,32,67,72,105,32,70,73,71]⟩:ByteArray)]:List ByteArray)):=⟨_,rfl⟩
 replace H:((jS.f Ag Ah Ai Am).bind fun Ae=>((fL.f k Ae.1).bind fun Af=>(if(Af.1.length:Int)=0 then(none) else(some (Af.1,Ae.2.1,Ae.2.2)))))=some (r1,r2,r3):=rh
 have Ak:=Az.mk hy
 clear hy
 replace H:=bez H
 obtain⟨⟨Ao,Ay,Ba⟩,A2,H⟩:=H
 try dsimp only at H
 replace H:=bez H
 obtain⟨⟨Ap,Bb⟩,A3,H⟩:=H
 try dsimp only at H
 by_cases c4:(Ap.length:Int)=0
 ·rw[ip c4]at H
  exact absurd H (by simp)
 rw[ig c4]at H
 have Bj:=beq_eq_false_iff_ne.mpr c4
 have Bk:=bne_iff_ne.mpr c4
 have Bl:¬(Ap=[]):=fun h_=>c4 (by rw[h_];rfl)
 simp only[Option.some.injEq,Prod.mk.injEq]at H
 obtain⟨rfl,rfl,rfl⟩:=H
 go_enter Try.func50,Try.ntmps50
 go_wp2_with (first|((with_reducible refine gtD (N:=7) rfl ?_);refine Kd.R_lit Kd.string _ 9 ?hg (N:=7) ?hd (xs:=([(⟨#[97,98,99,32,65,66,67]⟩:ByteArray),(⟨#[97,98,99,32,65,67,66]⟩:ByteArray),(⟨#[97,98,99,32,65,100,101,32,66,68,102,32,67,70,69]⟩:ByteArray),(⟨#[97,98,67,32,66,100,101,32,99,68,102,32,65,69,70]⟩:ByteArray),(⟨#[97,98,99,32,65,100,101,32,66,102,68,32,67,70,69]⟩:ByteArray),(⟨#[97,98,99,32,65,100,101,32,102,66,103,32,68,69,104,32,67,72,105,32,70,73,71]⟩:ByteArray)]:List ByteArray)) (inner:=[.string (⟨#[97,98,99,32,65,66,67]⟩:ByteArray), .string (⟨#[97,98,99,32,65,67,66]⟩:ByteArray), .string (⟨#[97,98,99,32,65,100,101,32,66,68,102,32,67,70,69]⟩:ByteArray), .string (⟨#[97,98,67,32,66,100,101,32,99,68,102,32,65,69,70]⟩:ByteArray), .string (⟨#[97,98,99,32,65,100,101,32,66,102,68,32,67,70,69]⟩:ByteArray), .string (⟨#[97,98,99,32,65,100,101,32,102,66,103,32,68,69,104,32,67,72,105,32,70,73,71]⟩:ByteArray)]) (ok:=fun _=>True) (okp:=fun _=>True) ?hr ?hp (fun _ hk=>hk) trivial (Below.refl _ _) (Nat.le_refl _) (by simp) ?_;(case hd=>rfl);(case hg=>rfl);(case hr=>first|(go_simp;done)|(go_simp;rfl));(case hp=>exact(Reps.one (show Kd.M Kd.string _ _ _ (⟨#[97,98,99,32,65,66,67]⟩:ByteArray) [.string (⟨#[97,98,99,32,65,66,67]⟩:ByteArray)]from rfl) (Reps.one (show Kd.M Kd.string _ _ _ (⟨#[97,98,99,32,65,67,66]⟩:ByteArray) [.string (⟨#[97,98,99,32,65,67,66]⟩:ByteArray)]from rfl) (Reps.one (show Kd.M Kd.string _ _ _ (⟨#[97,98,99,32,65,100,101,32,66,68,102,32,67,70,69]⟩:ByteArray) [.string (⟨#[97,98,99,32,65,100,101,32,66,68,102,32,67,70,69]⟩:ByteArray)]from rfl) (Reps.one (show Kd.M Kd.string _ _ _ (⟨#[97,98,67,32,66,100,101,32,99,68,102,32,65,69,70]⟩:ByteArray) [.string (⟨#[97,98,67,32,66,100,101,32,99,68,102,32,65,69,70]⟩:ByteArray)]from rfl) (Reps.one (show Kd.M Kd.string _ _ _ (⟨#[97,98,99,32,65,100,101,32,66,102,68,32,67,70,69]⟩:ByteArray) [.string (⟨#[97,98,99,32,65,100,101,32,66,102,68,32,67,70,69]⟩:ByteArray)]from rfl) (Reps.one (show Kd.M Kd.string _ _ _ (⟨#[97,98,99,32,65,100,101,32,102,66,103,32,68,69,104,32,67,72,105,32,70,73,71]⟩:ByteArray) [.string (⟨#[97,98,99,32,65,100,101,32,102,66,103,32,68,69,104,32,67,72,105,32,70,73,71]⟩:ByteArray)]from rfl) (Reps.none _ _))))))));intro Bm Bq Aj hb hg_ hnew_;clear hg_ hnew_;(first|rw[←Ak.out]at Aj|(simp only[Int.reduceToNat]at Aj;rw[←Ak.out]at Aj));have Ad:=Az.mk (Kd.R_lower (Kd.R_newM (M:=fun k_=>(w.heap.size≤k_)) Aj (keep_size (w:=w) (g:=g) (row:=none) (kK HK.out)) (fun k_ h_=>h_)) (keep_size (w:=w) (g:=g) (row:=none) (kK HK.out)));replace HK:=Az.mk (KeepBut.trans (kK HK.out) (KeepBut.of_below hb g none) (.inl rfl));replace HB:=Az.mk (bwT (kG HB.out (IsS63.ge HI0.out)) hb);replace HI0:=Az.mk (IsS63.below (kI HI0.out) hb);clear hb Aj;obtain⟨Bc,Bd,Bf⟩:=Kd.R_slice Ad.out;subst Bf)|((with_reducible refine gtC (f:=79) rfl ?_);refine clz Try.func79 (some 8) #[.pointer (some ⟨g,0,none⟩), .slice Bc Am.length Bd] ?_;(with_reducible refine(jS.calls g Ag Ah Ai _ _ Am Ao Ay Ba w0 _ ?Aq ?As ?Au ?Av ?Ax A2.out).mono ?_);(case Aq=>exact(kI HI0.out));(case As=>exact kG HB.out (IsS63.ge HI0.out));(case Au=>exact kC (Kd.R_reads' Ad.out).2.2);(case Av=>exact(Kd.R_reads' Ad.out).2.1);(case Ax=>exact far_slice (IsS63.own_ne HI0.out Ad.out (by decide)));rintro e Br ⟨rfl,hi,hb,hk⟩;refine⟨_,rfl,?_⟩;replace Ad:=Az.mk (Kd.R_mono (Kd.R_keep (IsS63.apart (show IsS63 w0 _ g Ag Ah Ai from kI HI0.out) (kR Ad.out) (by decide)) hk (fun _ h=>h.2)) (fun _ h=>h.1));replace HK:=Az.mk (KeepBut.trans (kK HK.out) hk (.inl rfl));replace HB:=Az.mk (hb);replace HI0:=Az.mk (hi);(try clear hb);(try clear hk);(try clear hi))|((with_reducible refine gtC (f:=78) rfl ?_);refine clz Try.func78 (some 9) #[.string Ao] ?_;(with_reducible refine(fL.calls k Ao Ap Bb _ A3.out).mono ?_);rintro e Bs ⟨Bn,rfl,Bi,hb⟩;refine⟨_,rfl,?_⟩;replace Ad:=Az.mk (Kd.R_below (kR Ad.out) hb);have Al:=Az.mk (Kd.S_lower Bi (keep_size (w:=w) (g:=g) (row:=none) (kK HK.out)));replace HK:=Az.mk (KeepBut.trans (kK HK.out) (KeepBut.of_below hb g none) (.inl rfl));replace HB:=Az.mk (bwT (kG HB.out (IsS63.ge HI0.out)) hb);replace HI0:=Az.mk (IsS63.below (kI HI0.out) hb);(try clear hb);(try clear Bi);obtain⟨Bo,Bp,Bh⟩:=Kd.S_slice Al.out;subst Bh))
 go_ret
 exact⟨_,rq1,kS Al.out,kI HI0.out,kG HB.out (IsS63.ge HI0.out),kK HK.out⟩
section
open Bool renaming true → T, false → F
theorem z9_0 {p:Prop} (h:p:=by kernel_rfl):p:=h
theorem bw_9 {n:Nat}{v v':World} (h:Below n v v':=by repeat(first|(with_reducible first|exact HB.out|apply bwA|apply pbN|apply bwD)|exact HB.out)):Below n v v':=h
theorem ln_9 {P:Prop} (h:P:=by(try simp only[List.map_toArray,List.map_cons,List.map_nil]);first|done|rfl|(simp only[List.length_drop,List.length_take];rfl)):P:=h
def fI.l0:Nat→List Int→List Int→List Int→Int→Option (List Int × Bool)
 |0,_,_,_,_=>none
 |k+1,x0,x1,x6,x7=>if x7<(x0.length:Int) then(if 0≤x7 then((fR.f (rd x0 x7) 0 200).bind fun t231=>(if t231=true then(if x7<(x1.length:Int) then((fR.f (rd x1 x7) 0 200).bind fun t233=>(if t233=true then(if(wrap64 ((rd x0 x7)+(rd x1 x7)))>200 then(some ((([]:List Int)),false)) else(if x6.length<17592186044416 then(fI.l0 k x0 x1 (x6 ++ [wrap64 ((rd x0 x7)+(rd x1 x7))]) (wrap64 (x7+1))) else(none))) else(some ((([]:List Int)),false)))) else(none)) else(some ((([]:List Int)),false)))) else(none)) else(some (x6,true))
def fI.f (k:Nat) (l0:List Int) (l1:List Int):Option (List Int × Bool):=if(l0.length:Int)=(l1.length:Int) then(fI.l0 k l0 l1 (([]:List Int)) 0) else(some ((([]:List Int)),false))
def fI.T7:Bool × List (List Nat × List Nat):=(true,[([],[]),([],[]),([0,1],[0,1]),([2],[2]),([3],[3]),([4],[4]),([5,4],[5]),([6],[6]),([6],[6]),([7,8,6],[6,7,8]),([9,6],[6,9]),([10,6,6],[6,10]),([11,6],[6,11]),([6,12],[6,12]),([13,11],[13]),([14],[14]),([14],[14]),([15,16,14],[14,15,16]),([17,14],[14,17]),([14],[14]),([14],[14]),([19,20,14],[14,19,20]),([21,14],[14,21]),([18,22,14],[14,18,22]),([23,14],[14,23]),([14,24],[14,24])])
def fI.B7:List Nat:=[0,0,3,7,15,31,63,127,127,511,1023,2047,4095,8191,16383,32767,32767,131071,262143,32767,32767,1605631,3702783,8388607,16777215,33554431]
theorem fI.tab7:rtab .any (opsOf Try.f52 7)=fI.T7:=by kernel_rfl
theorem fI.bits7:waitsOk fI.T7.2 fI.B7=true:=by kernel_rfl
def fI.T9:Bool × List (List Nat × List Nat):=(true,[([],[]),([],[]),([],[]),([1,2],[1,2]),([3],[3]),([],[]),([],[]),([5,6],[5,6]),([7],[7]),([4,8],[4,8]),([9],[9]),([0,10],[0,10]),([11,11,0,1,2,3,4,5,6,7,8,9,10,11],[0,11])])
def fI.B9:List Nat:=[0,0,0,6,14,0,0,96,224,510,1022,2047,4095]
theorem fI.tab9:rtab .any (opsOf Try.f52 9)=fI.T9:=by kernel_rfl
theorem fI.bits9:waitsOk fI.T9.2 fI.B9=true:=by kernel_rfl
theorem fI.calls (k:Nat) (A0:Option Addr) (c0:Nat) (l0:List Int) (A1:Option Addr) (c1:Nat) (l1:List Int) (r1:List Int) (r2:Bool) (w:World) (Di:Kd.C (Kd.int .i64) w A0 l0.length l0) (Dj:l0.length≤c0) (Dk:Kd.C (Kd.int .i64) w A1 l1.length l1) (Dl:l1.length≤c1) (h:fI.f k l0 l1=some (r1,r2)):
  Calls Try.prog 52 #[.slice A0 l0.length c0, .slice A1 l1.length c1] w fun e w'=>∃v0_:Value,e= .returned (.tuple #[v0_, .bool r2])∧Kd.R (Kd.int .i64) 3 w' w.heap.size (fun _=>True) v0_ r1∧Below w.heap.size w w':=by
 have Bw:=Az.mk Di
 have Du:=Az.mk Dj
 clear Di Dj
 have HR1:=Az.mk Dk
 have Dv:=Az.mk Dl
 clear Dk Dl
 have HB:=Az.mk (Below.refl w.heap.size w)
 have H:(if(l0.length:Int)=(l1.length:Int) then(fI.l0 k l0 l1 (([]:List Int)) 0) else(some ((([]:List Int)),false)))=some (r1,r2):=h
 clear h
 by_cases c3:(l0.length:Int)=(l1.length:Int)
 rotate_left
 ·rw[ig c3]at H
  have Cf:=beq_eq_false_iff_ne.mpr c3
  have Cg:=bne_iff_ne.mpr c3
  have Ch:(l0.length== l1.length)=false:=by first|simpa using c3|(simp at c3 ⊢;omega)
  obtain⟨Cy,hy⟩:∃y_:List Int,y_=(([]:List Int)):=⟨_,rfl⟩
  replace H:(some (Cy,false))=some (r1,r2):=rh
  have Br:=Az.mk hy
  clear hy
  simp only[Option.some.injEq,Prod.mk.injEq]at H
  obtain⟨rfl,rfl⟩:=H
  go_enter Try.func52,Try.ntmps52
  go_wp2_with (first|((with_reducible refine gtD (N:=13) rfl ?_);refine Kd.R_lit (Kd.int .i64) _ 3 ?hg (N:=13) ?hd (xs:=([]:List Int)) (inner:=[]) (ok:=fun _=>True) (okp:=fun _=>True) ?hr ?hp (fun _ hk=>hk) trivial (Below.refl _ _) (Nat.le_refl _) (by simp) ?_;(case hd=>rfl);(case hg=>rfl);(case hr=>first|(go_simp;done)|(go_simp;rfl));(case hp=>exact(Reps.none _ _));intro Dn Dw Bn hb hg_ hnew_;clear hg_ hnew_;(first|rw[←Br.out]at Bn|(simp only[Int.reduceToNat]at Bn;rw[←Br.out]at Bn));have Ci:=Az.mk (Kd.R_lower Bn (bwZ bw_9));replace HB:=Az.mk (bwT bw_9 hb);clear hb Bn))
  go_ret2
  exact⟨_,rq1,kR Ci.out,bw_9⟩
 rw[ip c3]at H
 have Cf:=beq_iff_eq.mpr c3
 have Cg:=bne_eq_false_iff_eq.mpr c3
 have Ch:(l0.length== l1.length)=true:=by first|simpa using c3|(simp at c3 ⊢;omega)
 clear c3
 obtain⟨Cj,hy⟩:∃y_:List Int,y_=(([]:List Int)):=⟨_,rfl⟩
 replace H:(fI.l0 k l0 l1 Cj 0)=some (r1,r2):=rh
 have Bs:=Az.mk hy
 clear hy
 have H':=Az.mk H
 clear H
 go_enter Try.func52,Try.ntmps52
 go_wp2_with (first|((with_reducible refine gtD (N:=14) rfl ?_);refine Kd.R_lit (Kd.int .i64) _ 3 ?hg (N:=14) ?hd (xs:=([]:List Int)) (inner:=[]) (ok:=fun _=>True) (okp:=fun _=>True) ?hr ?hp (fun _ hk=>hk) trivial (Below.refl _ _) (Nat.le_refl _) (by simp) ?_;(case hd=>rfl);(case hg=>rfl);(case hr=>first|(go_simp;done)|(go_simp;rfl));(case hp=>exact(Reps.none _ _));intro Do w4 Ck hb hg_ hnew_;clear hg_ hnew_;(first|rw[←Bs.out]at Ck|(simp only[Int.reduceToNat]at Ck;rw[←Bs.out]at Ck));have Cl:=Az.mk (Kd.R_lower Ck (bwZ bw_9));replace HB:=Az.mk (bwT bw_9 hb);clear hb Ck))
 go_loopg [6,7] k (fun kq v6 v7 w'=>∃(Bc:List Int) (Ad:Int),v7= .int .i64 Ad∧Az (fI.l0 kq l0 l1 Bc Ad=some (r1,r2))∧Az (kq≤k)∧Az (Kd.R (Kd.int .i64) 3 w' w.heap.size (fun _=>True) v6 Bc)∧Az (Below w.heap.size w w'))
 case atStart=>exact⟨(Cj),(0),rq2,H',⟨Nat.le_refl _⟩,⟨kR Cl.out⟩,⟨bw_9⟩⟩
 clear H'
 try clear c1
 try clear c3
 try clear Cf
 try clear Cg
 try clear Ch
 obtain⟨Bc,Ad,rfl,HA,HK1,Ah,HB⟩:=hrel
 cases gk with
 |zero=>exact absurd HA.out (by simp[fI.l0])
 |succ k1=>
  have H:=HA.out
  clear HA
  simp only[fI.l0]at H
  by_cases c6:Ad<(l0.length:Int)
  rotate_left
  ·rw[ig c6]at H
   have Cz:=decide_eq_false c6
   clear c6
   simp only[Option.some.injEq,Prod.mk.injEq]at H
   obtain⟨rfl,rfl⟩:=H
   go_wp2
   go_ret2
   exact⟨_,rq1,kR Ah.out,bw_9⟩
  rw[ip c6]at H
  have Cz:=ode c6
  clear c6
  by_cases c7:0≤Ad
  rotate_left
  ·rw[ig c7]at H
   exact absurd H (by simp)
  rw[ip c7]at H
  have Dp:=ode c7
  clear c7
  replace H:=bez H
  obtain⟨Da,A8,H⟩:=H
  try dsimp only at H
  by_cases c9:Da=true
  rotate_left
  ·replace c9:=Bool.eq_false_iff.mpr c9
   subst c9
   rw[ig ff]at H
   obtain⟨Db,hy⟩:∃y_:List Int,y_=(([]:List Int)):=⟨_,rfl⟩
   replace H:(some (Db,false))=some (r1,r2):=rh
   have Bt:=Az.mk hy
   clear hy
   simp only[Option.some.injEq,Prod.mk.injEq]at H
   obtain⟨rfl,rfl⟩:=H
   try go_wp2
   replace Ah:=Az.mk (Kd.R_drew Ah.out);replace HB:=Az.mk (bwD HB.out)
   have Aq:0≤(Ad:Int):=od
   have As:Ad<(l0.length:Int):=od
   obtain⟨Al,Bd,Ae⟩:=Kd.at_int Bw.out Ad Aq As
   have Af:=Ae
   cases Bd
   replace Ae:=kc HB Ae
   replace Aq:=ets Aq
   replace As:=ets As
   refine start_ (n:=26) (S:=fun w'=>w'.cell? (Al.add (Ad).toNat)=some (.int .i64 (rd l0 Ad))) (ds:=[]) #[F,F,F,F,F,F,F,F,F,F,F,F,F,F,F,F,F,F,F,F,F,F,F,F,F,F] z9_0 rfl rfl ((kc HB Af)) (fun hHeld=>?_);refine with_tabW fI.tab7 fI.bits7 (fun HT_ HW_=>?_)
   generalize wr.drew=Dx at Ah HB Ae hHeld ⊢
   refine pu (i:=0) (N:=some 21) #[T,F,F,F,F,F,F,F,F,F,F,F,F,F,F,F,F,F,F,F,F,F,F,F,F,F] (any_of HT_.out z9_0) ?_
   refine pu (i:=1) (N:=some 22) #[T,T,F,F,F,F,F,F,F,F,F,F,F,F,F,F,F,F,F,F,F,F,F,F,F,F] (any_of HT_.out z9_0) ?_
   refine pu (i:=2) (N:=some 23) #[T,T,T,F,F,F,F,F,F,F,F,F,F,F,F,F,F,F,F,F,F,F,F,F,F,F] (any_of HT_.out z9_0) ?_
   refine take_ (i:=3) (N:=some 24) (v:=?_) (a':=?_) #[T,T,T,T,F,F,F,F,F,F,F,F,F,F,F,F,F,F,F,F,F,F,F,F,F,F] rfl rfl (take_ofW HT_.out HW_.out z9_0) (fun _ _ _ h=>h) (Or.inl ⟨by rfl,?_⟩) hHeld ?_ ?_
   rotate_left
   ·intro w' s0
    go_simp
    with_reducible rfl
   rotate_left
   ·exact acq
   refine one_ (i:=4) (N:=some 25) #[T,T,T,T,T,F,F,F,F,F,F,F,F,F,F,F,F,F,F,F,F,F,F,F,F,F] rfl rfl (one_of HT_.out z9_0) (by decide) (fun K hK=>?_)
   refine goes_ Try.func42 z9_0 rfl #[.int .i64 (rd l0 Ad), .int .i64 0, .int .i64 200] (by rfl) rfl rfl ln_9 ?_
   with_reducible refine(fR.calls (rd l0 Ad) 0 200 false _ A8.out).mono ?_
   rintro e w' ⟨rfl,⟨nd,rfl⟩⟩
   refine⟨_,rfl,?_⟩
   refine hK.out _ _ ((kc HB Af)) (fun hHeld=>?_)
   clear hK K
   refine norm_ (a':=?_) ?_ ?_
   rotate_left
   ·show Act.put _ (some 25) _=_
    exact acq
   refine pu (i:=5) (N:=some 26) #[T,T,T,T,T,T,F,F,F,F,F,F,F,F,F,F,F,F,F,F,F,F,F,F,F,F] (any_of HT_.out z9_0) ?_
   refine pu (i:=6) (N:=some 27) #[T,T,T,T,T,T,T,F,F,F,F,F,F,F,F,F,F,F,F,F,F,F,F,F,F,F] (any_of HT_.out z9_0) ?_
   refine pure_ (i:=7) (N:=some 28) (v:=undef) (a':=?_) #[T,T,T,T,T,T,T,T,F,F,F,F,F,F,F,F,F,F,F,F,F,F,F,F,F,F] rfl rfl (any_of HT_.out z9_0) (fun _ _ _ h=>h) (Or.inr ⟨by rfl,rfl⟩) ?_ ?_
   rotate_left
   ·exact acq
   refine pure_ (i:=8) (N:=some 29) (v:=undef) (a':=?_) #[T,T,T,T,T,T,T,T,T,F,F,F,F,F,F,F,F,F,F,F,F,F,F,F,F,F] rfl rfl (any_of HT_.out z9_0) (fun _ _ _ h=>h) (Or.inr ⟨by rfl,rfl⟩) ?_ ?_
   rotate_left
   ·exact acq
   refine pure_ (i:=9) (N:=some 30) (v:=undef) (a':=?_) #[T,T,T,T,T,T,T,T,T,T,F,F,F,F,F,F,F,F,F,F,F,F,F,F,F,F] rfl rfl (any_of HT_.out z9_0) (fun _ _ _ h=>h) (Or.inr ⟨by rfl,rfl⟩) ?_ ?_
   rotate_left
   ·exact acq
   refine pure_ (i:=10) (N:=some 31) (v:=undef) (a':=?_) #[T,T,T,T,T,T,T,T,T,T,T,F,F,F,F,F,F,F,F,F,F,F,F,F,F,F] rfl rfl (any_of HT_.out z9_0) (fun _ _ _ h=>h) (Or.inr ⟨by rfl,rfl⟩) ?_ ?_
   rotate_left
   ·exact acq
   refine pure_ (i:=11) (N:=some 32) (v:=undef) (a':=?_) #[T,T,T,T,T,T,T,T,T,T,T,T,F,F,F,F,F,F,F,F,F,F,F,F,F,F] rfl rfl (any_of HT_.out z9_0) (fun _ _ _ h=>h) (Or.inr ⟨by rfl,rfl⟩) ?_ ?_
   rotate_left
   ·exact acq
   refine pure_ (i:=12) (N:=some 33) (v:=undef) (a':=?_) #[T,T,T,T,T,T,T,T,T,T,T,T,T,F,F,F,F,F,F,F,F,F,F,F,F,F] rfl rfl (any_of HT_.out z9_0) (fun _ _ _ h=>h) (Or.inr ⟨by rfl,rfl⟩) ?_ ?_
   rotate_left
   ·exact acq
   refine pu (i:=13) (N:=some 34) #[T,T,T,T,T,T,T,T,T,T,T,T,T,T,F,F,F,F,F,F,F,F,F,F,F,F] (any_of HT_.out z9_0) ?_
   refine pu (i:=14) (N:=some 35) #[T,T,T,T,T,T,T,T,T,T,T,T,T,T,T,F,F,F,F,F,F,F,F,F,F,F] (any_of HT_.out z9_0) ?_
   refine pure_ (i:=15) (N:=some 36) (v:=undef) (a':=?_) #[T,T,T,T,T,T,T,T,T,T,T,T,T,T,T,T,F,F,F,F,F,F,F,F,F,F] rfl rfl (any_of HT_.out z9_0) (fun _ _ _ h=>h) (Or.inr ⟨by rfl,rfl⟩) ?_ ?_
   rotate_left
   ·exact acq
   refine pure_ (i:=16) (N:=some 37) (v:=undef) (a':=?_) #[T,T,T,T,T,T,T,T,T,T,T,T,T,T,T,T,T,F,F,F,F,F,F,F,F,F] rfl rfl (any_of HT_.out z9_0) (fun _ _ _ h=>h) (Or.inr ⟨by rfl,rfl⟩) ?_ ?_
   rotate_left
   ·exact acq
   refine pure_ (i:=17) (N:=some 38) (v:=undef) (a':=?_) #[T,T,T,T,T,T,T,T,T,T,T,T,T,T,T,T,T,T,F,F,F,F,F,F,F,F] rfl rfl (any_of HT_.out z9_0) (fun _ _ _ h=>h) (Or.inr ⟨by rfl,rfl⟩) ?_ ?_
   rotate_left
   ·exact acq
   refine pure_ (i:=18) (N:=some 39) (v:=undef) (a':=?_) #[T,T,T,T,T,T,T,T,T,T,T,T,T,T,T,T,T,T,T,F,F,F,F,F,F,F] rfl rfl (any_of HT_.out z9_0) (fun _ _ _ h=>h) (Or.inr ⟨by rfl,rfl⟩) ?_ ?_
   rotate_left
   ·exact acq
   refine pure_ (i:=19) (N:=some 40) (v:=undef) (a':=?_) #[T,T,T,T,T,T,T,T,T,T,T,T,T,T,T,T,T,T,T,T,F,F,F,F,F,F] rfl rfl (any_of HT_.out z9_0) (fun _ _ _ h=>h) (Or.inr ⟨by rfl,rfl⟩) ?_ ?_
   rotate_left
   ·exact acq
   refine pure_ (i:=20) (N:=some 41) (v:=undef) (a':=?_) #[T,T,T,T,T,T,T,T,T,T,T,T,T,T,T,T,T,T,T,T,T,F,F,F,F,F] rfl rfl (any_of HT_.out z9_0) (fun _ _ _ h=>h) (Or.inr ⟨by rfl,rfl⟩) ?_ ?_
   rotate_left
   ·exact acq
   refine pure_ (i:=21) (N:=some 42) (v:=undef) (a':=?_) #[T,T,T,T,T,T,T,T,T,T,T,T,T,T,T,T,T,T,T,T,T,T,F,F,F,F] rfl rfl (any_of HT_.out z9_0) (fun _ _ _ h=>h) (Or.inr ⟨by rfl,rfl⟩) ?_ ?_
   rotate_left
   ·exact acq
   refine pure_ (i:=22) (N:=some 43) (v:=undef) (a':=?_) #[T,T,T,T,T,T,T,T,T,T,T,T,T,T,T,T,T,T,T,T,T,T,T,F,F,F] rfl rfl (any_of HT_.out z9_0) (fun _ _ _ h=>h) (Or.inr ⟨by rfl,rfl⟩) ?_ ?_
   rotate_left
   ·exact acq
   refine pure_ (i:=23) (N:=some 44) (v:=undef) (a':=?_) #[T,T,T,T,T,T,T,T,T,T,T,T,T,T,T,T,T,T,T,T,T,T,T,T,F,F] rfl rfl (any_of HT_.out z9_0) (fun _ _ _ h=>h) (Or.inr ⟨by rfl,rfl⟩) ?_ ?_
   rotate_left
   ·exact acq
   refine pure_ (i:=24) (N:=some 45) (v:=undef) (a':=?_) #[T,T,T,T,T,T,T,T,T,T,T,T,T,T,T,T,T,T,T,T,T,T,T,T,T,F] rfl rfl (any_of HT_.out z9_0) (fun _ _ _ h=>h) (Or.inr ⟨by rfl,rfl⟩) ?_ ?_
   rotate_left
   ·exact acq
   refine pu (i:=25) (N:=some 46) #[T,T,T,T,T,T,T,T,T,T,T,T,T,T,T,T,T,T,T,T,T,T,T,T,T,T] (any_of HT_.out z9_0) ?_
   refine done_ (done_of HT_.out z9_0) ?_
   try go_wp2_with (first|((with_reducible refine gtD (N:=47) rfl ?_);refine Kd.R_lit (Kd.int .i64) _ 3 ?hg (N:=47) ?hd (xs:=([]:List Int)) (inner:=[]) (ok:=fun _=>True) (okp:=fun _=>True) ?hr ?hp (fun _ hk=>hk) trivial (Below.refl _ _) (Nat.le_refl _) (by simp) ?_;(case hd=>rfl);(case hg=>rfl);(case hr=>first|(go_simp;done)|(go_simp;rfl));(case hp=>exact(Reps.none _ _));intro Dq Dy Bk hb hg_ hnew_;clear hg_ hnew_;(first|rw[←Bt.out]at Bk|(simp only[Int.reduceToNat]at Bk;rw[←Bt.out]at Bk));have Cm:=Az.mk (Kd.R_lower (Kd.R_new' Bk (Kd.R_lt (kR Ah.out))) (bwZ bw_9));replace Ah:=Az.mk (Kd.R_elder' (kR Ah.out) (Kd.R_base Bk) hb);replace HB:=Az.mk (bwT bw_9 hb);clear hb Bk))
   go_ret2
   exact⟨_,rq1,by(with_reducible repeat(first|apply Kd.R_alloc|apply Kd.R_drewN|apply Kd.R_drew));exact Kd.R_mono Cm.out (fun _ hk=>trivial),bw_9⟩
  subst c9
  rw[ip rfl]at H
  by_cases Cv:Ad<(l1.length:Int)
  rotate_left
  ·rw[ig Cv]at H
   exact absurd H (by simp)
  rw[ip Cv]at H
  have Dm:=ode Cv
  clear Cv
  replace H:=bez H
  obtain⟨Dc,Dd,H⟩:=H
  try dsimp only at H
  by_cases Cw:Dc=true
  rotate_left
  ·replace Cw:=Bool.eq_false_iff.mpr Cw
   subst Cw
   rw[ig ff]at H
   obtain⟨De,hy⟩:∃y_:List Int,y_=(([]:List Int)):=⟨_,rfl⟩
   replace H:(some (De,false))=some (r1,r2):=rh
   have Bu:=Az.mk hy
   clear hy
   simp only[Option.some.injEq,Prod.mk.injEq]at H
   obtain⟨rfl,rfl⟩:=H
   try go_wp2
   replace Ah:=Az.mk (Kd.R_drew Ah.out);replace HB:=Az.mk (bwD HB.out)
   have Aq:0≤(Ad:Int):=od
   have As:Ad<(l0.length:Int):=od
   obtain⟨Al,Bd,Ae⟩:=Kd.at_int Bw.out Ad Aq As
   have Af:=Ae
   cases Bd
   replace Ae:=kc HB Ae
   replace Aq:=ets Aq
   replace As:=ets As
   have Ba:0≤(Ad:Int):=od
   have Bb:Ad<(l1.length:Int):=od
   obtain⟨Ap,Bo,Ag⟩:=Kd.at_int HR1.out Ad Ba Bb
   have Ai:=Ag
   cases Bo
   replace Ag:=kc HB Ag
   replace Ba:=ets Ba
   replace Bb:=ets Bb
   refine start_ (n:=26) (S:=fun w'=>w'.cell? (Al.add (Ad).toNat)=some (.int .i64 (rd l0 Ad))∧w'.cell? (Ap.add (Ad).toNat)=some (.int .i64 (rd l1 Ad))) (ds:=[]) #[F,F,F,F,F,F,F,F,F,F,F,F,F,F,F,F,F,F,F,F,F,F,F,F,F,F] z9_0 rfl rfl ⟨(kc HB Af),(kc HB Ai)⟩ (fun hHeld=>?_);refine with_tabW fI.tab7 fI.bits7 (fun HT_ HW_=>?_)
   generalize wr.drew=Dz at Ah HB Ae Ag hHeld ⊢
   refine pu (i:=0) (N:=some 21) #[T,F,F,F,F,F,F,F,F,F,F,F,F,F,F,F,F,F,F,F,F,F,F,F,F,F] (any_of HT_.out z9_0) ?_
   refine pu (i:=1) (N:=some 22) #[T,T,F,F,F,F,F,F,F,F,F,F,F,F,F,F,F,F,F,F,F,F,F,F,F,F] (any_of HT_.out z9_0) ?_
   refine pu (i:=2) (N:=some 23) #[T,T,T,F,F,F,F,F,F,F,F,F,F,F,F,F,F,F,F,F,F,F,F,F,F,F] (any_of HT_.out z9_0) ?_
   refine take_ (i:=3) (N:=some 24) (v:=?_) (a':=?_) #[T,T,T,T,F,F,F,F,F,F,F,F,F,F,F,F,F,F,F,F,F,F,F,F,F,F] rfl rfl (take_ofW HT_.out HW_.out z9_0) (fun _ _ _ h=>h) (Or.inl ⟨by rfl,?_⟩) hHeld ?_ ?_
   rotate_left
   ·rintro w' ⟨s0,s1⟩
    go_simp
    with_reducible rfl
   rotate_left
   ·exact acq
   refine one_ (i:=4) (N:=some 25) #[T,T,T,T,T,F,F,F,F,F,F,F,F,F,F,F,F,F,F,F,F,F,F,F,F,F] rfl rfl (one_of HT_.out z9_0) (by decide) (fun K hK=>?_)
   refine goes_ Try.func42 z9_0 rfl #[.int .i64 (rd l0 Ad), .int .i64 0, .int .i64 200] (by rfl) rfl rfl ln_9 ?_
   with_reducible refine(fR.calls (rd l0 Ad) 0 200 true _ A8.out).mono ?_
   rintro e w' ⟨rfl,⟨nd,rfl⟩⟩
   refine⟨_,rfl,?_⟩
   refine hK.out _ _ ⟨(kc HB Af),(kc HB Ai)⟩ (fun hHeld=>?_)
   clear hK K
   refine norm_ (a':=?_) ?_ ?_
   rotate_left
   ·show Act.put _ (some 25) _=_
    exact acq
   refine pu (i:=5) (N:=some 26) #[T,T,T,T,T,T,F,F,F,F,F,F,F,F,F,F,F,F,F,F,F,F,F,F,F,F] (any_of HT_.out z9_0) ?_
   refine pu (i:=6) (N:=some 27) #[T,T,T,T,T,T,T,F,F,F,F,F,F,F,F,F,F,F,F,F,F,F,F,F,F,F] (any_of HT_.out z9_0) ?_
   refine pu (i:=7) (N:=some 28) #[T,T,T,T,T,T,T,T,F,F,F,F,F,F,F,F,F,F,F,F,F,F,F,F,F,F] (any_of HT_.out z9_0) ?_
   refine pu (i:=8) (N:=some 29) #[T,T,T,T,T,T,T,T,T,F,F,F,F,F,F,F,F,F,F,F,F,F,F,F,F,F] (any_of HT_.out z9_0) ?_
   refine pu (i:=9) (N:=some 30) #[T,T,T,T,T,T,T,T,T,T,F,F,F,F,F,F,F,F,F,F,F,F,F,F,F,F] (any_of HT_.out z9_0) ?_
   refine take_ (i:=10) (N:=some 31) (v:=?_) (a':=?_) #[T,T,T,T,T,T,T,T,T,T,T,F,F,F,F,F,F,F,F,F,F,F,F,F,F,F] rfl rfl (take_ofW HT_.out HW_.out z9_0) (fun _ _ _ h=>h) (Or.inl ⟨by rfl,?_⟩) hHeld ?_ ?_
   rotate_left
   ·rintro w' ⟨s0,s1⟩
    go_simp
    with_reducible rfl
   rotate_left
   ·exact acq
   refine one_ (i:=11) (N:=some 32) #[T,T,T,T,T,T,T,T,T,T,T,T,F,F,F,F,F,F,F,F,F,F,F,F,F,F] rfl rfl (one_of HT_.out z9_0) (by decide) (fun K hK=>?_)
   refine goes_ Try.func42 z9_0 rfl #[.int .i64 (rd l1 Ad), .int .i64 0, .int .i64 200] (by rfl) rfl rfl ln_9 ?_
   with_reducible refine(fR.calls (rd l1 Ad) 0 200 false _ Dd.out).mono ?_
   rintro e w' ⟨rfl,⟨nd,rfl⟩⟩
   refine⟨_,rfl,?_⟩
   refine hK.out _ _ ⟨(kc HB Af),(kc HB Ai)⟩ (fun hHeld=>?_)
   clear hK K
   refine norm_ (a':=?_) ?_ ?_
   rotate_left
   ·show Act.put _ (some 32) _=_
    exact acq
   refine pu (i:=12) (N:=some 33) #[T,T,T,T,T,T,T,T,T,T,T,T,T,F,F,F,F,F,F,F,F,F,F,F,F,F] (any_of HT_.out z9_0) ?_
   refine pu (i:=13) (N:=some 34) #[T,T,T,T,T,T,T,T,T,T,T,T,T,T,F,F,F,F,F,F,F,F,F,F,F,F] (any_of HT_.out z9_0) ?_
   refine pu (i:=14) (N:=some 35) #[T,T,T,T,T,T,T,T,T,T,T,T,T,T,T,F,F,F,F,F,F,F,F,F,F,F] (any_of HT_.out z9_0) ?_
   refine pure_ (i:=15) (N:=some 36) (v:=undef) (a':=?_) #[T,T,T,T,T,T,T,T,T,T,T,T,T,T,T,T,F,F,F,F,F,F,F,F,F,F] rfl rfl (any_of HT_.out z9_0) (fun _ _ _ h=>h) (Or.inr ⟨by rfl,rfl⟩) ?_ ?_
   rotate_left
   ·exact acq
   refine pure_ (i:=16) (N:=some 37) (v:=undef) (a':=?_) #[T,T,T,T,T,T,T,T,T,T,T,T,T,T,T,T,T,F,F,F,F,F,F,F,F,F] rfl rfl (any_of HT_.out z9_0) (fun _ _ _ h=>h) (Or.inr ⟨by rfl,rfl⟩) ?_ ?_
   rotate_left
   ·exact acq
   refine pure_ (i:=17) (N:=some 38) (v:=undef) (a':=?_) #[T,T,T,T,T,T,T,T,T,T,T,T,T,T,T,T,T,T,F,F,F,F,F,F,F,F] rfl rfl (any_of HT_.out z9_0) (fun _ _ _ h=>h) (Or.inr ⟨by rfl,rfl⟩) ?_ ?_
   rotate_left
   ·exact acq
   refine pure_ (i:=18) (N:=some 39) (v:=undef) (a':=?_) #[T,T,T,T,T,T,T,T,T,T,T,T,T,T,T,T,T,T,T,F,F,F,F,F,F,F] rfl rfl (any_of HT_.out z9_0) (fun _ _ _ h=>h) (Or.inr ⟨by rfl,rfl⟩) ?_ ?_
   rotate_left
   ·exact acq
   refine pure_ (i:=19) (N:=some 40) (v:=undef) (a':=?_) #[T,T,T,T,T,T,T,T,T,T,T,T,T,T,T,T,T,T,T,T,F,F,F,F,F,F] rfl rfl (any_of HT_.out z9_0) (fun _ _ _ h=>h) (Or.inr ⟨by rfl,rfl⟩) ?_ ?_
   rotate_left
   ·exact acq
   refine pure_ (i:=20) (N:=some 41) (v:=undef) (a':=?_) #[T,T,T,T,T,T,T,T,T,T,T,T,T,T,T,T,T,T,T,T,T,F,F,F,F,F] rfl rfl (any_of HT_.out z9_0) (fun _ _ _ h=>h) (Or.inr ⟨by rfl,rfl⟩) ?_ ?_
   rotate_left
   ·exact acq
   refine pure_ (i:=21) (N:=some 42) (v:=undef) (a':=?_) #[T,T,T,T,T,T,T,T,T,T,T,T,T,T,T,T,T,T,T,T,T,T,F,F,F,F] rfl rfl (any_of HT_.out z9_0) (fun _ _ _ h=>h) (Or.inr ⟨by rfl,rfl⟩) ?_ ?_
   rotate_left
   ·exact acq
   refine pure_ (i:=22) (N:=some 43) (v:=undef) (a':=?_) #[T,T,T,T,T,T,T,T,T,T,T,T,T,T,T,T,T,T,T,T,T,T,T,F,F,F] rfl rfl (any_of HT_.out z9_0) (fun _ _ _ h=>h) (Or.inr ⟨by rfl,rfl⟩) ?_ ?_
   rotate_left
   ·exact acq
   refine pure_ (i:=23) (N:=some 44) (v:=undef) (a':=?_) #[T,T,T,T,T,T,T,T,T,T,T,T,T,T,T,T,T,T,T,T,T,T,T,T,F,F] rfl rfl (any_of HT_.out z9_0) (fun _ _ _ h=>h) (Or.inr ⟨by rfl,rfl⟩) ?_ ?_
   rotate_left
   ·exact acq
   refine pure_ (i:=24) (N:=some 45) (v:=undef) (a':=?_) #[T,T,T,T,T,T,T,T,T,T,T,T,T,T,T,T,T,T,T,T,T,T,T,T,T,F] rfl rfl (any_of HT_.out z9_0) (fun _ _ _ h=>h) (Or.inr ⟨by rfl,rfl⟩) ?_ ?_
   rotate_left
   ·exact acq
   refine pu (i:=25) (N:=some 46) #[T,T,T,T,T,T,T,T,T,T,T,T,T,T,T,T,T,T,T,T,T,T,T,T,T,T] (any_of HT_.out z9_0) ?_
   refine done_ (done_of HT_.out z9_0) ?_
   try go_wp2_with (first|((with_reducible refine gtD (N:=47) rfl ?_);refine Kd.R_lit (Kd.int .i64) _ 3 ?hg (N:=47) ?hd (xs:=([]:List Int)) (inner:=[]) (ok:=fun _=>True) (okp:=fun _=>True) ?hr ?hp (fun _ hk=>hk) trivial (Below.refl _ _) (Nat.le_refl _) (by simp) ?_;(case hd=>rfl);(case hg=>rfl);(case hr=>first|(go_simp;done)|(go_simp;rfl));(case hp=>exact(Reps.none _ _));intro Dr Ea Bl hb hg_ hnew_;clear hg_ hnew_;(first|rw[←Bu.out]at Bl|(simp only[Int.reduceToNat]at Bl;rw[←Bu.out]at Bl));have Cn:=Az.mk (Kd.R_lower (Kd.R_new' Bl (Kd.R_lt (kR Ah.out))) (bwZ bw_9));replace Ah:=Az.mk (Kd.R_elder' (kR Ah.out) (Kd.R_base Bl) hb);replace HB:=Az.mk (bwT bw_9 hb);clear hb Bl))
   go_ret2
   exact⟨_,rq1,by(with_reducible repeat(first|apply Kd.R_alloc|apply Kd.R_drewN|apply Kd.R_drew));exact Kd.R_mono Cn.out (fun _ hk=>trivial),bw_9⟩
  subst Cw
  rw[ip rfl]at H
  by_cases Cd:(wrap64 ((rd l0 Ad)+(rd l1 Ad)))>200
  ·rw[ip Cd]at H
   have Co:decide (200<(wrap64 ((rd l0 Ad)+(rd l1 Ad))))=true:=ode Cd
   clear Cd
   obtain⟨Df,hy⟩:∃y_:List Int,y_=(([]:List Int)):=⟨_,rfl⟩
   replace H:(some (Df,false))=some (r1,r2):=rh
   have Bv:=Az.mk hy
   clear hy
   simp only[Option.some.injEq,Prod.mk.injEq]at H
   obtain⟨rfl,rfl⟩:=H
   try go_wp2
   replace Ah:=Az.mk (Kd.R_drew Ah.out);replace HB:=Az.mk (bwD HB.out)
   have Aq:0≤(Ad:Int):=od
   have As:Ad<(l0.length:Int):=od
   obtain⟨Al,Bd,Ae⟩:=Kd.at_int Bw.out Ad Aq As
   have Af:=Ae
   cases Bd
   replace Ae:=kc HB Ae
   replace Aq:=ets Aq
   replace As:=ets As
   have Ba:0≤(Ad:Int):=od
   have Bb:Ad<(l1.length:Int):=od
   obtain⟨Ap,Bo,Ag⟩:=Kd.at_int HR1.out Ad Ba Bb
   have Ai:=Ag
   cases Bo
   replace Ag:=kc HB Ag
   replace Ba:=ets Ba
   replace Bb:=ets Bb
   have Bf:0≤(Ad:Int):=od
   have Bh:Ad<(l0.length:Int):=od
   obtain⟨Bp,Bx,Aj⟩:=Kd.at_int Bw.out Ad Bf Bh
   have Am:=Aj
   obtain rfl:Al=Bp:=(by injection Bx)
   replace Aj:=kc HB Aj
   replace Bf:=ets Bf
   replace Bh:=ets Bh
   have Bi:0≤(Ad:Int):=od
   have Bj:Ad<(l1.length:Int):=od
   obtain⟨Bq,By,Ak⟩:=Kd.at_int HR1.out Ad Bi Bj
   have Ao:=Ak
   obtain rfl:Ap=Bq:=(by injection By)
   replace Ak:=kc HB Ak
   replace Bi:=ets Bi
   replace Bj:=ets Bj
   refine start_ (n:=26) (S:=fun w'=>w'.cell? (Al.add (Ad).toNat)=some (.int .i64 (rd l0 Ad))∧w'.cell? (Ap.add (Ad).toNat)=some (.int .i64 (rd l1 Ad))∧w'.cell? (Al.add (Ad).toNat)=some (.int .i64 (rd l0 Ad))∧w'.cell? (Ap.add (Ad).toNat)=some (.int .i64 (rd l1 Ad))) (ds:=[]) #[F,F,F,F,F,F,F,F,F,F,F,F,F,F,F,F,F,F,F,F,F,F,F,F,F,F] z9_0 rfl rfl ⟨(kc HB Af),(kc HB Ai),(kc HB Am),(kc HB Ao)⟩ (fun hHeld=>?_);refine with_tabW fI.tab7 fI.bits7 (fun HT_ HW_=>?_)
   generalize wr.drew=Eb at Ah HB Ae Ag Aj Ak hHeld ⊢
   refine pu (i:=0) (N:=some 21) #[T,F,F,F,F,F,F,F,F,F,F,F,F,F,F,F,F,F,F,F,F,F,F,F,F,F] (any_of HT_.out z9_0) ?_
   refine pu (i:=1) (N:=some 22) #[T,T,F,F,F,F,F,F,F,F,F,F,F,F,F,F,F,F,F,F,F,F,F,F,F,F] (any_of HT_.out z9_0) ?_
   refine pu (i:=2) (N:=some 23) #[T,T,T,F,F,F,F,F,F,F,F,F,F,F,F,F,F,F,F,F,F,F,F,F,F,F] (any_of HT_.out z9_0) ?_
   refine take_ (i:=3) (N:=some 24) (v:=?_) (a':=?_) #[T,T,T,T,F,F,F,F,F,F,F,F,F,F,F,F,F,F,F,F,F,F,F,F,F,F] rfl rfl (take_ofW HT_.out HW_.out z9_0) (fun _ _ _ h=>h) (Or.inl ⟨by rfl,?_⟩) hHeld ?_ ?_
   rotate_left
   ·rintro w' ⟨s0,s1,s2,s3⟩
    go_simp
    with_reducible rfl
   rotate_left
   ·exact acq
   refine one_ (i:=4) (N:=some 25) #[T,T,T,T,T,F,F,F,F,F,F,F,F,F,F,F,F,F,F,F,F,F,F,F,F,F] rfl rfl (one_of HT_.out z9_0) (by decide) (fun K hK=>?_)
   refine goes_ Try.func42 z9_0 rfl #[.int .i64 (rd l0 Ad), .int .i64 0, .int .i64 200] (by rfl) rfl rfl ln_9 ?_
   with_reducible refine(fR.calls (rd l0 Ad) 0 200 true _ A8.out).mono ?_
   rintro e w' ⟨rfl,⟨nd,rfl⟩⟩
   refine⟨_,rfl,?_⟩
   refine hK.out _ _ ⟨(kc HB Af),(kc HB Ai),(kc HB Am),(kc HB Ao)⟩ (fun hHeld=>?_)
   clear hK K
   refine norm_ (a':=?_) ?_ ?_
   rotate_left
   ·show Act.put _ (some 25) _=_
    exact acq
   refine pu (i:=5) (N:=some 26) #[T,T,T,T,T,T,F,F,F,F,F,F,F,F,F,F,F,F,F,F,F,F,F,F,F,F] (any_of HT_.out z9_0) ?_
   refine pu (i:=6) (N:=some 27) #[T,T,T,T,T,T,T,F,F,F,F,F,F,F,F,F,F,F,F,F,F,F,F,F,F,F] (any_of HT_.out z9_0) ?_
   refine pu (i:=7) (N:=some 28) #[T,T,T,T,T,T,T,T,F,F,F,F,F,F,F,F,F,F,F,F,F,F,F,F,F,F] (any_of HT_.out z9_0) ?_
   refine pu (i:=8) (N:=some 29) #[T,T,T,T,T,T,T,T,T,F,F,F,F,F,F,F,F,F,F,F,F,F,F,F,F,F] (any_of HT_.out z9_0) ?_
   refine pu (i:=9) (N:=some 30) #[T,T,T,T,T,T,T,T,T,T,F,F,F,F,F,F,F,F,F,F,F,F,F,F,F,F] (any_of HT_.out z9_0) ?_
   refine take_ (i:=10) (N:=some 31) (v:=?_) (a':=?_) #[T,T,T,T,T,T,T,T,T,T,T,F,F,F,F,F,F,F,F,F,F,F,F,F,F,F] rfl rfl (take_ofW HT_.out HW_.out z9_0) (fun _ _ _ h=>h) (Or.inl ⟨by rfl,?_⟩) hHeld ?_ ?_
   rotate_left
   ·rintro w' ⟨s0,s1,s2,s3⟩
    go_simp
    with_reducible rfl
   rotate_left
   ·exact acq
   refine one_ (i:=11) (N:=some 32) #[T,T,T,T,T,T,T,T,T,T,T,T,F,F,F,F,F,F,F,F,F,F,F,F,F,F] rfl rfl (one_of HT_.out z9_0) (by decide) (fun K hK=>?_)
   refine goes_ Try.func42 z9_0 rfl #[.int .i64 (rd l1 Ad), .int .i64 0, .int .i64 200] (by rfl) rfl rfl ln_9 ?_
   with_reducible refine(fR.calls (rd l1 Ad) 0 200 true _ Dd.out).mono ?_
   rintro e w' ⟨rfl,⟨nd,rfl⟩⟩
   refine⟨_,rfl,?_⟩
   refine hK.out _ _ ⟨(kc HB Af),(kc HB Ai),(kc HB Am),(kc HB Ao)⟩ (fun hHeld=>?_)
   clear hK K
   refine norm_ (a':=?_) ?_ ?_
   rotate_left
   ·show Act.put _ (some 32) _=_
    exact acq
   refine pu (i:=12) (N:=some 33) #[T,T,T,T,T,T,T,T,T,T,T,T,T,F,F,F,F,F,F,F,F,F,F,F,F,F] (any_of HT_.out z9_0) ?_
   refine pu (i:=13) (N:=some 34) #[T,T,T,T,T,T,T,T,T,T,T,T,T,T,F,F,F,F,F,F,F,F,F,F,F,F] (any_of HT_.out z9_0) ?_
   refine pu (i:=14) (N:=some 35) #[T,T,T,T,T,T,T,T,T,T,T,T,T,T,T,F,F,F,F,F,F,F,F,F,F,F] (any_of HT_.out z9_0) ?_
   refine pu (i:=15) (N:=some 36) #[T,T,T,T,T,T,T,T,T,T,T,T,T,T,T,T,F,F,F,F,F,F,F,F,F,F] (any_of HT_.out z9_0) ?_
   refine pu (i:=16) (N:=some 37) #[T,T,T,T,T,T,T,T,T,T,T,T,T,T,T,T,T,F,F,F,F,F,F,F,F,F] (any_of HT_.out z9_0) ?_
   refine pu (i:=17) (N:=some 38) #[T,T,T,T,T,T,T,T,T,T,T,T,T,T,T,T,T,T,F,F,F,F,F,F,F,F] (any_of HT_.out z9_0) ?_
   refine pu (i:=19) (N:=some 40) #[T,T,T,T,T,T,T,T,T,T,T,T,T,T,T,T,T,T,F,T,F,F,F,F,F,F] (any_of HT_.out z9_0) ?_
   refine pu (i:=20) (N:=some 41) #[T,T,T,T,T,T,T,T,T,T,T,T,T,T,T,T,T,T,F,T,T,F,F,F,F,F] (any_of HT_.out z9_0) ?_
   refine pu (i:=21) (N:=some 42) #[T,T,T,T,T,T,T,T,T,T,T,T,T,T,T,T,T,T,F,T,T,T,F,F,F,F] (any_of HT_.out z9_0) ?_
   refine take_ (i:=18) (N:=some 39) (v:=?_) (a':=?_) #[T,T,T,T,T,T,T,T,T,T,T,T,T,T,T,T,T,T,T,T,T,T,F,F,F,F] rfl rfl (take_ofW HT_.out HW_.out z9_0) (fun _ _ _ h=>h) (Or.inl ⟨by rfl,?_⟩) hHeld ?_ ?_
   rotate_left
   ·rintro w' ⟨s0,s1,s2,s3⟩
    go_simp
    with_reducible rfl
   rotate_left
   ·exact acq
   refine take_ (i:=22) (N:=some 43) (v:=?_) (a':=?_) #[T,T,T,T,T,T,T,T,T,T,T,T,T,T,T,T,T,T,T,T,T,T,T,F,F,F] rfl rfl (take_ofW HT_.out HW_.out z9_0) (fun _ _ _ h=>h) (Or.inl ⟨by rfl,?_⟩) hHeld ?_ ?_
   rotate_left
   ·rintro w' ⟨s0,s1,s2,s3⟩
    go_simp
    with_reducible rfl
   rotate_left
   ·exact acq
   refine pu (i:=23) (N:=some 44) #[T,T,T,T,T,T,T,T,T,T,T,T,T,T,T,T,T,T,T,T,T,T,T,T,F,F] (any_of HT_.out z9_0) ?_
   refine pu (i:=24) (N:=some 45) #[T,T,T,T,T,T,T,T,T,T,T,T,T,T,T,T,T,T,T,T,T,T,T,T,T,F] (any_of HT_.out z9_0) ?_
   refine pu (i:=25) (N:=some 46) #[T,T,T,T,T,T,T,T,T,T,T,T,T,T,T,T,T,T,T,T,T,T,T,T,T,T] (any_of HT_.out z9_0) ?_
   refine done_ (done_of HT_.out z9_0) ?_
   try go_wp2_with (first|((with_reducible refine gtD (N:=47) rfl ?_);refine Kd.R_lit (Kd.int .i64) _ 3 ?hg (N:=47) ?hd (xs:=([]:List Int)) (inner:=[]) (ok:=fun _=>True) (okp:=fun _=>True) ?hr ?hp (fun _ hk=>hk) trivial (Below.refl _ _) (Nat.le_refl _) (by simp) ?_;(case hd=>rfl);(case hg=>rfl);(case hr=>first|(go_simp;done)|(go_simp;rfl));(case hp=>exact(Reps.none _ _));intro Ds Ec Bm hb hg_ hnew_;clear hg_ hnew_;(first|rw[←Bv.out]at Bm|(simp only[Int.reduceToNat]at Bm;rw[←Bv.out]at Bm));have Cp:=Az.mk (Kd.R_lower (Kd.R_new' Bm (Kd.R_lt (kR Ah.out))) (bwZ bw_9));replace Ah:=Az.mk (Kd.R_elder' (kR Ah.out) (Kd.R_base Bm) hb);replace HB:=Az.mk (bwT bw_9 hb);clear hb Bm))
   go_ret2
   exact⟨_,rq1,by(with_reducible repeat(first|apply Kd.R_alloc|apply Kd.R_drewN|apply Kd.R_drew));exact Kd.R_mono Cp.out (fun _ hk=>trivial),bw_9⟩
  rw[ig Cd]at H
  have Co:decide (200<(wrap64 ((rd l0 Ad)+(rd l1 Ad))))=false:=decide_eq_false Cd
  clear Cd
  by_cases Cx:Bc.length<17592186044416
  rotate_left
  ·rw[ig Cx]at H
   exact absurd H (by simp)
  rw[ip Cx]at H
  have LMc17:=Az.mk Cx
  clear Cx
  obtain⟨Cq,hy⟩:∃y_:List Int,y_=(Bc ++ [wrap64 ((rd l0 Ad)+(rd l1 Ad))]):=⟨_,rfl⟩
  replace H:(fI.l0 k1 l0 l1 Cq (wrap64 (Ad+1)))=some (r1,r2):=rh
  have Cr:=Az.mk hy
  clear hy
  have H':=Az.mk H
  clear H
  try go_wp2
  replace Ah:=Az.mk (Kd.R_drew Ah.out);replace HB:=Az.mk (bwD HB.out)
  have Aq:0≤(Ad:Int):=od
  have As:Ad<(l0.length:Int):=od
  obtain⟨Al,Bd,Ae⟩:=Kd.at_int Bw.out Ad Aq As
  have Af:=Ae
  cases Bd
  replace Ae:=kc HB Ae
  replace Aq:=ets Aq
  replace As:=ets As
  have Ba:0≤(Ad:Int):=od
  have Bb:Ad<(l1.length:Int):=od
  obtain⟨Ap,Bo,Ag⟩:=Kd.at_int HR1.out Ad Ba Bb
  have Ai:=Ag
  cases Bo
  replace Ag:=kc HB Ag
  replace Ba:=ets Ba
  replace Bb:=ets Bb
  have Bf:0≤(Ad:Int):=od
  have Bh:Ad<(l0.length:Int):=od
  obtain⟨Bp,Bx,Aj⟩:=Kd.at_int Bw.out Ad Bf Bh
  have Am:=Aj
  obtain rfl:Al=Bp:=(by injection Bx)
  replace Aj:=kc HB Aj
  replace Bf:=ets Bf
  replace Bh:=ets Bh
  have Bi:0≤(Ad:Int):=od
  have Bj:Ad<(l1.length:Int):=od
  obtain⟨Bq,By,Ak⟩:=Kd.at_int HR1.out Ad Bi Bj
  have Ao:=Ak
  obtain rfl:Ap=Bq:=(by injection By)
  replace Ak:=kc HB Ak
  replace Bi:=ets Bi
  replace Bj:=ets Bj
  refine start_ (n:=26) (S:=fun w'=>w'.cell? (Al.add (Ad).toNat)=some (.int .i64 (rd l0 Ad))∧w'.cell? (Ap.add (Ad).toNat)=some (.int .i64 (rd l1 Ad))∧w'.cell? (Al.add (Ad).toNat)=some (.int .i64 (rd l0 Ad))∧w'.cell? (Ap.add (Ad).toNat)=some (.int .i64 (rd l1 Ad))) (ds:=[]) #[F,F,F,F,F,F,F,F,F,F,F,F,F,F,F,F,F,F,F,F,F,F,F,F,F,F] z9_0 rfl rfl ⟨(kc HB Af),(kc HB Ai),(kc HB Am),(kc HB Ao)⟩ (fun hHeld=>?_);refine with_tabW fI.tab7 fI.bits7 (fun HT_ HW_=>?_)
  generalize wr.drew=Ce at Ah HB Ae Ag Aj Ak hHeld ⊢
  refine pu (i:=0) (N:=some 21) #[T,F,F,F,F,F,F,F,F,F,F,F,F,F,F,F,F,F,F,F,F,F,F,F,F,F] (any_of HT_.out z9_0) ?_
  refine pu (i:=1) (N:=some 22) #[T,T,F,F,F,F,F,F,F,F,F,F,F,F,F,F,F,F,F,F,F,F,F,F,F,F] (any_of HT_.out z9_0) ?_
  refine pu (i:=2) (N:=some 23) #[T,T,T,F,F,F,F,F,F,F,F,F,F,F,F,F,F,F,F,F,F,F,F,F,F,F] (any_of HT_.out z9_0) ?_
  refine take_ (i:=3) (N:=some 24) (v:=?_) (a':=?_) #[T,T,T,T,F,F,F,F,F,F,F,F,F,F,F,F,F,F,F,F,F,F,F,F,F,F] rfl rfl (take_ofW HT_.out HW_.out z9_0) (fun _ _ _ h=>h) (Or.inl ⟨by rfl,?_⟩) hHeld ?_ ?_
  rotate_left
  ·rintro w' ⟨s0,s1,s2,s3⟩
   go_simp
   with_reducible rfl
  rotate_left
  ·exact acq
  refine one_ (i:=4) (N:=some 25) #[T,T,T,T,T,F,F,F,F,F,F,F,F,F,F,F,F,F,F,F,F,F,F,F,F,F] rfl rfl (one_of HT_.out z9_0) (by decide) (fun K hK=>?_)
  refine goes_ Try.func42 z9_0 rfl #[.int .i64 (rd l0 Ad), .int .i64 0, .int .i64 200] (by rfl) rfl rfl ln_9 ?_
  with_reducible refine(fR.calls (rd l0 Ad) 0 200 true _ A8.out).mono ?_
  rintro e w' ⟨rfl,⟨nd,rfl⟩⟩
  refine⟨_,rfl,?_⟩
  refine hK.out _ _ ⟨(kc HB Af),(kc HB Ai),(kc HB Am),(kc HB Ao)⟩ (fun hHeld=>?_)
  clear hK K
  refine norm_ (a':=?_) ?_ ?_
  rotate_left
  ·show Act.put _ (some 25) _=_
   exact acq
  refine pu (i:=5) (N:=some 26) #[T,T,T,T,T,T,F,F,F,F,F,F,F,F,F,F,F,F,F,F,F,F,F,F,F,F] (any_of HT_.out z9_0) ?_
  refine pu (i:=6) (N:=some 27) #[T,T,T,T,T,T,T,F,F,F,F,F,F,F,F,F,F,F,F,F,F,F,F,F,F,F] (any_of HT_.out z9_0) ?_
  refine pu (i:=7) (N:=some 28) #[T,T,T,T,T,T,T,T,F,F,F,F,F,F,F,F,F,F,F,F,F,F,F,F,F,F] (any_of HT_.out z9_0) ?_
  refine pu (i:=8) (N:=some 29) #[T,T,T,T,T,T,T,T,T,F,F,F,F,F,F,F,F,F,F,F,F,F,F,F,F,F] (any_of HT_.out z9_0) ?_
  refine pu (i:=9) (N:=some 30) #[T,T,T,T,T,T,T,T,T,T,F,F,F,F,F,F,F,F,F,F,F,F,F,F,F,F] (any_of HT_.out z9_0) ?_
  refine take_ (i:=10) (N:=some 31) (v:=?_) (a':=?_) #[T,T,T,T,T,T,T,T,T,T,T,F,F,F,F,F,F,F,F,F,F,F,F,F,F,F] rfl rfl (take_ofW HT_.out HW_.out z9_0) (fun _ _ _ h=>h) (Or.inl ⟨by rfl,?_⟩) hHeld ?_ ?_
  rotate_left
  ·rintro w' ⟨s0,s1,s2,s3⟩
   go_simp
   with_reducible rfl
  rotate_left
  ·exact acq
  refine one_ (i:=11) (N:=some 32) #[T,T,T,T,T,T,T,T,T,T,T,T,F,F,F,F,F,F,F,F,F,F,F,F,F,F] rfl rfl (one_of HT_.out z9_0) (by decide) (fun K hK=>?_)
  refine goes_ Try.func42 z9_0 rfl #[.int .i64 (rd l1 Ad), .int .i64 0, .int .i64 200] (by rfl) rfl rfl ln_9 ?_
  with_reducible refine(fR.calls (rd l1 Ad) 0 200 true _ Dd.out).mono ?_
  rintro e w' ⟨rfl,⟨nd,rfl⟩⟩
  refine⟨_,rfl,?_⟩
  refine hK.out _ _ ⟨(kc HB Af),(kc HB Ai),(kc HB Am),(kc HB Ao)⟩ (fun hHeld=>?_)
  clear hK K
  refine norm_ (a':=?_) ?_ ?_
  rotate_left
  ·show Act.put _ (some 32) _=_
   exact acq
  refine pu (i:=12) (N:=some 33) #[T,T,T,T,T,T,T,T,T,T,T,T,T,F,F,F,F,F,F,F,F,F,F,F,F,F] (any_of HT_.out z9_0) ?_
  refine pu (i:=13) (N:=some 34) #[T,T,T,T,T,T,T,T,T,T,T,T,T,T,F,F,F,F,F,F,F,F,F,F,F,F] (any_of HT_.out z9_0) ?_
  refine pu (i:=14) (N:=some 35) #[T,T,T,T,T,T,T,T,T,T,T,T,T,T,T,F,F,F,F,F,F,F,F,F,F,F] (any_of HT_.out z9_0) ?_
  refine pu (i:=15) (N:=some 36) #[T,T,T,T,T,T,T,T,T,T,T,T,T,T,T,T,F,F,F,F,F,F,F,F,F,F] (any_of HT_.out z9_0) ?_
  refine pu (i:=16) (N:=some 37) #[T,T,T,T,T,T,T,T,T,T,T,T,T,T,T,T,T,F,F,F,F,F,F,F,F,F] (any_of HT_.out z9_0) ?_
  refine pu (i:=17) (N:=some 38) #[T,T,T,T,T,T,T,T,T,T,T,T,T,T,T,T,T,T,F,F,F,F,F,F,F,F] (any_of HT_.out z9_0) ?_
  refine pu (i:=19) (N:=some 40) #[T,T,T,T,T,T,T,T,T,T,T,T,T,T,T,T,T,T,F,T,F,F,F,F,F,F] (any_of HT_.out z9_0) ?_
  refine pu (i:=20) (N:=some 41) #[T,T,T,T,T,T,T,T,T,T,T,T,T,T,T,T,T,T,F,T,T,F,F,F,F,F] (any_of HT_.out z9_0) ?_
  refine pu (i:=21) (N:=some 42) #[T,T,T,T,T,T,T,T,T,T,T,T,T,T,T,T,T,T,F,T,T,T,F,F,F,F] (any_of HT_.out z9_0) ?_
  refine take_ (i:=18) (N:=some 39) (v:=?_) (a':=?_) #[T,T,T,T,T,T,T,T,T,T,T,T,T,T,T,T,T,T,T,T,T,T,F,F,F,F] rfl rfl (take_ofW HT_.out HW_.out z9_0) (fun _ _ _ h=>h) (Or.inl ⟨by rfl,?_⟩) hHeld ?_ ?_
  rotate_left
  ·rintro w' ⟨s0,s1,s2,s3⟩
   go_simp
   with_reducible rfl
  rotate_left
  ·exact acq
  refine take_ (i:=22) (N:=some 43) (v:=?_) (a':=?_) #[T,T,T,T,T,T,T,T,T,T,T,T,T,T,T,T,T,T,T,T,T,T,T,F,F,F] rfl rfl (take_ofW HT_.out HW_.out z9_0) (fun _ _ _ h=>h) (Or.inl ⟨by rfl,?_⟩) hHeld ?_ ?_
  rotate_left
  ·rintro w' ⟨s0,s1,s2,s3⟩
   go_simp
   with_reducible rfl
  rotate_left
  ·exact acq
  refine pu (i:=23) (N:=some 44) #[T,T,T,T,T,T,T,T,T,T,T,T,T,T,T,T,T,T,T,T,T,T,T,T,F,F] (any_of HT_.out z9_0) ?_
  refine pu (i:=24) (N:=some 45) #[T,T,T,T,T,T,T,T,T,T,T,T,T,T,T,T,T,T,T,T,T,T,T,T,T,F] (any_of HT_.out z9_0) ?_
  refine pu (i:=25) (N:=some 46) #[T,T,T,T,T,T,T,T,T,T,T,T,T,T,T,T,T,T,T,T,T,T,T,T,T,T] (any_of HT_.out z9_0) ?_
  refine done_ (done_of HT_.out z9_0) ?_
  try go_wp2
  (try(rw[drewN_self Ce];generalize hq_:World.drewN Ce _=Ce;have n0_:Az (Kd.R (Kd.int .i64) 3 Ce w.heap.size (fun _=>True) u6 Bc):=⟨by rw[←hq_];exact(kR Ah.out)⟩;have n1_:Az (Below w.heap.size w Ce):=⟨by rw[←hq_];exact bw_9⟩;clear Ah HB hq_;have Ah:=n0_;have HB:=n1_;clear n0_ n1_))
  replace Ah:=Az.mk (Kd.R_drew Ah.out);replace HB:=Az.mk (bwD HB.out)
  have Bz:0≤(Ad:Int):=od
  have Ca:Ad<(l0.length:Int):=od
  obtain⟨Cs,Dg,Au⟩:=Kd.at_int Bw.out Ad Bz Ca
  have Av:=Au
  obtain rfl:Al=Cs:=(by injection Dg)
  replace Au:=kc HB Au
  replace Bz:=ets Bz
  replace Ca:=ets Ca
  have Cb:0≤(Ad:Int):=od
  have Cc:Ad<(l1.length:Int):=od
  obtain⟨Ct,Dh,Ax⟩:=Kd.at_int HR1.out Ad Cb Cc
  have Ay:=Ax
  obtain rfl:Ap=Ct:=(by injection Dh)
  replace Ax:=kc HB Ax
  replace Cb:=ets Cb
  replace Cc:=ets Cc
  refine start_ (n:=13) (S:=fun w'=>w'.cell? (Al.add (Ad).toNat)=some (.int .i64 (rd l0 Ad))∧w'.cell? (Ap.add (Ad).toNat)=some (.int .i64 (rd l1 Ad))) (ds:=[]) #[F,F,F,F,F,F,F,F,F,F,F,F,F] z9_0 rfl rfl ⟨(kc HB Av),(kc HB Ay)⟩ (fun hHeld=>?_);refine with_tabW fI.tab9 fI.bits9 (fun HT_ HW_=>?_)
  generalize Ce.drew=Ed at Ah HB Au Ax hHeld ⊢
  refine pu (i:=0) (N:=some 48) #[T,F,F,F,F,F,F,F,F,F,F,F,F] (any_of HT_.out z9_0) ?_
  refine pu (i:=1) (N:=some 49) #[T,T,F,F,F,F,F,F,F,F,F,F,F] (any_of HT_.out z9_0) ?_
  refine pu (i:=2) (N:=some 50) #[T,T,T,F,F,F,F,F,F,F,F,F,F] (any_of HT_.out z9_0) ?_
  refine pu (i:=3) (N:=some 51) #[T,T,T,T,F,F,F,F,F,F,F,F,F] (any_of HT_.out z9_0) ?_
  refine pu (i:=5) (N:=some 53) #[T,T,T,T,F,T,F,F,F,F,F,F,F] (any_of HT_.out z9_0) ?_
  refine pu (i:=6) (N:=some 54) #[T,T,T,T,F,T,T,F,F,F,F,F,F] (any_of HT_.out z9_0) ?_
  refine pu (i:=7) (N:=some 55) #[T,T,T,T,F,T,T,T,F,F,F,F,F] (any_of HT_.out z9_0) ?_
  refine take_ (i:=4) (N:=some 52) (v:=?_) (a':=?_) #[T,T,T,T,T,T,T,T,F,F,F,F,F] rfl rfl (take_ofW HT_.out HW_.out z9_0) (fun _ _ _ h=>h) (Or.inl ⟨by rfl,?_⟩) hHeld ?_ ?_
  rotate_left
  ·rintro w' ⟨s0,s1⟩
   go_simp
   with_reducible rfl
  rotate_left
  ·exact acq
  refine take_ (i:=8) (N:=some 56) (v:=?_) (a':=?_) #[T,T,T,T,T,T,T,T,T,F,F,F,F] rfl rfl (take_ofW HT_.out HW_.out z9_0) (fun _ _ _ h=>h) (Or.inl ⟨by rfl,?_⟩) hHeld ?_ ?_
  rotate_left
  ·rintro w' ⟨s0,s1⟩
   go_simp
   with_reducible rfl
  rotate_left
  ·exact acq
  refine pu (i:=9) (N:=some 57) #[T,T,T,T,T,T,T,T,T,T,F,F,F] (any_of HT_.out z9_0) ?_
  refine one_ (i:=10) (N:=some 58) #[T,T,T,T,T,T,T,T,T,T,T,F,F] rfl rfl (one_of HT_.out z9_0) (by decide) (fun K hK=>?_)
  refine value_ (w1:=?_) (v:=?_) (by rfl) rfl ?_ ?_
  rotate_left 2
  ·go_simp
   constructor
   ·rfl
   rfl
  refine hK.out _ _ ⟨(World.cell?_alloc_lt _ _ _ (World.block_lt_of_cell? _ _ ((kc HB Av)))).trans ((kc HB Av)),(World.cell?_alloc_lt _ _ _ (World.block_lt_of_cell? _ _ ((kc HB Ay)))).trans ((kc HB Ay))⟩ (fun hHeld=>?_)
  clear hK K
  refine norm_ (a':=?_) ?_ ?_
  rotate_left
  ·show Act.put _ (some 58) _=_
   exact acq
  refine one_ (i:=11) (N:=some 59) #[T,T,T,T,T,T,T,T,T,T,T,T,F] rfl rfl (one_of HT_.out z9_0) (by decide) (fun K hK=>?_)
  refine Kd.R_append_step (Kd.int .i64) (w0:=w) w.heap.size (by rfl) (.tmp 48) (.tmp 58) 25 3 (.int .i64 0) 8 rfl Try.underlying25 info3 rfl (by decide) (by omega) u6 Bc (wrap64 ((rd l0 Ad)+(rd l1 Ad))) [.int .i64 (wrap64 ((rd l0 Ad)+(rd l1 Ad)))] (fun _=>True) (fun _=>False) rfl rfl ?aP (fun _ hk=>hk.elim) ?aF ?aO ?aB ?aS ?aL ?_
  (case aP=>exact rfl)
  (case aB=>exact bw_9)
  (case aF=>exact(fun _ _=>trivial))
  (case aO=>exact(kR Ah.out))
  (case aS=>exact(bwZ bw_9))
  (case aL=>have:=LMc17.out;omega)
  intro Dt Ee ho hb hg hat
  rw[←Cr.out]at ho
  have n0_:=Az.mk (hb)
  have n1_:=Az.mk (ho)
  clear HB
  clear Ah
  have HB:=n0_
  have Cu:=n1_
  clear n0_ n1_
  clear ho hb hg hat
  refine hK.out _ _ ⟨(kc HB Av),(kc HB Ay)⟩ (fun hHeld=>?_)
  clear hK K
  refine norm_ (a':=?_) ?_ ?_
  rotate_left
  ·show Act.put _ (some 59) _=_
   exact acq
  refine pu (i:=12) (N:=some 6) #[T,T,T,T,T,T,T,T,T,T,T,T,T] (any_of HT_.out z9_0) ?_
  refine done_ (done_of HT_.out z9_0) ?_
  try go_wp2
  go_roundg k1
  case measure=>have:=HK1.out;omega
  case rel=>exact⟨(Cq),(wrap64 (Ad+1)),rq2,H',⟨by have:=HK1.out;omega⟩,⟨kR Cu.out⟩,⟨bw_9⟩⟩
end
def gK.f (s0_0:List Int) (s0_1:Int) (s0_2:Int) (l1:List Int):Option (Int × Int × Int):=(fB.f s0_0 s0_1 s0_2 (l1.length:Int)).bind fun bt250=>(if 0≤bt250.1 then(if bt250.1<(l1.length:Int) then(some (rd l1 bt250.1,bt250.2.1,bt250.2.2)) else(none)) else(none))
theorem gK.calls (g:Nat) (Ag:List Int) (Ah:Int) (Ai:Int) (A1:Option Addr) (c1:Nat) (l1:List Int) (r1:Int) (r2:Int) (r3:Int) (w0 w:World) (hI:IsS63 w0 w g Ag Ah Ai) (hB:Below w0.heap.size w0 w) (Av:Kd.C (Kd.int .i64) w A1 l1.length l1) (Ax:l1.length≤c1) (Ap:∀ad,A1=some ad→0<l1.length→ad.block≠g) (h:gK.f Ag Ah Ai l1=some (r1,r2,r3)):
  Calls Try.prog 53 #[.pointer (some ⟨g,0,none⟩), .slice A1 l1.length c1] w fun e w'=>e= .returned (.int .i64 r1)∧IsS63 w0 w' g Ag r2 r3∧Below w0.heap.size w0 w'∧KeepBut w w' g none:=by
 have HR1:=Az.mk Av
 have Bb:=Az.mk Ax
 clear Av Ax
 have HI0:=Az.mk hI
 have HK:=Az.mk (KeepBut.refl w g none)
 have HL:=Az.mk hB.size
 clear hI
 have HW0:=Az.mk hB.size
 have HB:=Az.mk hB
 clear hB
 have H:((fB.f Ag Ah Ai (l1.length:Int)).bind fun Ad=>(if 0≤Ad.1 then(if Ad.1<(l1.length:Int) then(some (rd l1 Ad.1,Ad.2.1,Ad.2.2)) else(none)) else(none)))=some (r1,r2,r3):=h
 clear h
 replace H:=bez H
 obtain⟨⟨Af,Aq,As⟩,A3,H⟩:=H
 try dsimp only at H
 by_cases c4:0≤Af
 rotate_left
 ·rw[ig c4]at H
  exact absurd H (by simp)
 rw[ip c4]at H
 have Ay:=ode c4
 clear c4
 by_cases c5:Af<(l1.length:Int)
 rotate_left
 ·rw[ig c5]at H
  exact absurd H (by simp)
 rw[ip c5]at H
 have Ba:=ode c5
 clear c5
 simp only[Option.some.injEq,Prod.mk.injEq]at H
 obtain⟨rfl,rfl,rfl⟩:=H
 go_enter Try.func53,Try.ntmps53
 go_wp2_with (first|((with_reducible refine gtC (f:=51) rfl ?_);refine clz Try.func51 (some 9) #[.pointer (some ⟨g,0,none⟩), .int .i64 (l1.length:Int)] ?_;(with_reducible refine(fB.calls g Ag Ah Ai (l1.length:Int) Af Aq As w0 _ ?Al ?Am A3.out).mono ?_);(case Al=>exact(kI HI0.out));(case Am=>exact kG HB.out (IsS63.ge HI0.out));rintro e w6 ⟨rfl,hi,hb,hk⟩;refine⟨_,rfl,?_⟩;replace HK:=Az.mk (KeepBut.trans (kK HK.out) hk (.inl rfl));replace HB:=Az.mk (hb);replace HI0:=Az.mk (hi);(try clear hb);(try clear hk);(try clear hi);have Aj:0≤(Af:Int):=od;have Ak:Af<(l1.length:Int):=od;obtain⟨Ao,Au,Ae⟩:=Kd.at_int HR1.out Af Aj Ak;cases Au;replace Ae:=keep_cell HK.out Ae (by first|(rw[add_block];exact Ap _ rfl (by omega))|exact Ap _ rfl (by omega)|exact Ap Ao rfl (by omega));replace Aj:=ets Aj;replace Ak:=ets Ak))
 go_ret
 exact⟨rq1,kI HI0.out,kG HB.out (IsS63.ge HI0.out),kK HK.out⟩
end Go.Proofs.Ytbpnjlemjapnnaa.P
