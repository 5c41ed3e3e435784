-- The walks, cut and laid together by this session's tools (prune.py, sq2.py, min.py: shorter names, no needless spaces). Not trusted: Lean checks it.
import Derived.Test.YtflbpjijgnmklaaKWZip
import Derived.Test.YtflbpjijgnmklaaKPx19
namespace Go.Proofs.Ytflbpjijgnmklaa.P
open Go.RowKit Go.Proofs.YtflbpjijgnmklaaW.PrintWords Go.Proofs.YtflbpjijgnmklaaW.PrintLast Go.Proofs.YtflbpjijgnmklaaW.PrintMore
attribute [local go_sem] max2_int min2_int max_two min_two max_three min_three max_four min_four   -- for this text's walks alone
set_option linter.unusedVariables false
set_option linter.unusedSimpArgs false
set_option maxHeartbeats 8000000
set_option maxRecDepth 100000
open Option renaming bind_eq_some_iff → be
theorem bw_24 {n:Nat}{v v':World} (h:Below n v v':=by repeat(first|(with_reducible first|exact HB.out|apply bwA|apply pbN|apply bwD)|exact HB.out)):Below n v v':=h
theorem ln_24 {P:Prop} (h:P:=by(try simp only[List.map_toArray,List.map_cons,List.map_nil]);first|done|rfl|(simp only[List.length_drop,List.length_take];rfl)):P:=h
def jL.f (k:Nat) (l0:List Int):Option ((List (List Int)) × List Int × Int × Int):=(gQ.f k l0).bind fun bt434=>((fO.f k bt434.1 bt434.2.1 bt434.2.2).bind fun bt438=>((fK.f bt434.1 bt438.2.2.1 bt438.2.2.2 (wrap64 ((bt438.1.length:Int)+1))).bind fun bt446=>((jK.f bt434.1 bt446.2.1 bt446.2.2 14).bind fun bt449=>((gK.f bt449.1).bind fun t452=>((fK.f bt434.1 bt449.2.1 bt449.2.2 3).bind fun bt453=>(some (bt438.1,bt438.2.1,wrap64 (bt446.1 - t452),bt453.1)))))))
theorem jL.calls (k:Nat) (A0:Option Addr) (c0:Nat) (l0:List Int) (r1:List (List Int)) (r2:List Int) (r3:Int) (r4:Int) (w:World) (Bj:Kd.C (Kd.int .u8) w A0 l0.length l0) (Bk:l0.length≤c0) (h:jL.f k l0=some (r1,r2,r3,r4)):
  Calls Try.prog 46 #[.slice A0 l0.length c0] w fun e w'=>∃v0_ v1_:Value,e= .returned (.tuple #[v0_,v1_, .int .i64 r3, .int .i64 r4])∧Kd.S (Kd.slice 3 (Kd.int .i64)) 25 w' w.heap.size (fun k_=>some k_≠(v1_:Value).ownBlock) v0_ r1∧Kd.Q (Kd.int .i64) 3 w' w.heap.size (fun _=>True) v1_ r2∧Below w.heap.size w w':=by
 have Bn:=Az.mk Bj
 have Bo:=Az.mk Bk
 clear Bj Bk
 have HB:=Az.mk (Below.refl w.heap.size w)
 have H:((gQ.f k l0).bind fun Ag=>((fO.f k Ag.1 Ag.2.1 Ag.2.2).bind fun Ah=>((fK.f Ag.1 Ah.2.2.1 Ah.2.2.2 (wrap64 ((Ah.1.length:Int)+1))).bind fun Ai=>((jK.f Ag.1 Ai.2.1 Ai.2.2 14).bind fun Aj=>((gK.f Aj.1).bind fun As=>((fK.f Ag.1 Aj.2.1 Aj.2.2 3).bind fun Aw=>(some (Ah.1,Ah.2.1,wrap64 (Ai.1 - As),Aw.1))))))))=some (r1,r2,r3,r4):=h
 clear h
 replace H:=bez H
 obtain⟨⟨Ae,Ax,Ay⟩,A2,H⟩:=H
 try dsimp only at H
 replace H:=bez H
 obtain⟨⟨Au,Bb,Ak,Al⟩,A3,H⟩:=H
 try dsimp only at H
 replace H:=bez H
 obtain⟨⟨Bc,Am,Ao⟩,A4,H⟩:=H
 try dsimp only at H
 replace H:=bez H
 obtain⟨⟨Av,Ap,Aq⟩,A5,H⟩:=H
 try dsimp only at H
 replace H:=bez H
 obtain⟨As,A6,H⟩:=H
 try dsimp only at H
 replace H:=bez H
 obtain⟨⟨Bd,Bf,Bh⟩,A7,H⟩:=H
 try dsimp only at H
 simp only[Option.some.injEq,Prod.mk.injEq]at H
 obtain⟨rfl,rfl,rfl,rfl⟩:=H
 go_enter Try.func46,Try.ntmps46
 go_wp2_with (first|((with_reducible refine gtC (f:=38) rfl ?_);refine clz Try.func38 (some 10) #[.slice A0 l0.length c0] ?_;(with_reducible refine(gQ.calls k _ _ l0 Ae Ax Ay w _ ?Aa ?Ab ?Ba A2.out).mono ?_);(case Aa=>exact bw_24);(case Ab=>exact Bn.out);(case Ba=>exact Bo.out);rintro e w8 ⟨Ac,rfl,hi,hb,hb2⟩;refine⟨_,rfl,?_⟩;replace HB:=Az.mk (hb);have HI437:=Az.mk (hi);(try clear hb);(try clear hb2);(try clear hi))|((with_reducible refine gtC (f:=37) rfl ?_);refine clz Try.func37 (some 13) #[.pointer (some ⟨Ac,0,none⟩)] ?_;(with_reducible refine(fO.calls k Ac Ae Ax Ay Au Bb Ak Al w _ ?Aa ?Ab A3.out).mono ?_);(case Aa=>exact(kI HI437.out));(case Ab=>exact kG HB.out (IsS96.ge HI437.out));rintro e w9 ⟨Bp,Bq,rfl,Bl,Bm,hi,hb,hk⟩;refine⟨_,rfl,?_⟩;have Ad:=Az.mk (Kd.S_lower Bl (bwZ (kG HB.out (IsS96.ge HI437.out))));have Af:=Az.mk (Kd.Q_lower Bm (bwZ (kG HB.out (IsS96.ge HI437.out))));replace HB:=Az.mk (hb);replace HI437:=Az.mk (hi);(try clear hb);(try clear hk);(try clear hi);(try clear Bl);(try clear Bm);obtain⟨Br,Bs,Bi⟩:=Kd.S_slice Ad.out;subst Bi)|((with_reducible refine gtC (f:=75) rfl ?_);refine clz Try.func75 (some 22) #[.pointer (some ⟨Ac,0,none⟩), .int .i64 (wrap64 ((Au.length:Int)+1))] ?_;(with_reducible refine(fK.calls Ac Ae Ak Al (wrap64 ((Au.length:Int)+1)) Bc Am Ao w _ ?Aa ?Ab A4.out).mono ?_);(case Aa=>exact(kI HI437.out));(case Ab=>exact kG HB.out (IsS96.ge HI437.out));rintro e Bt ⟨rfl,hi,hb,hk⟩;refine⟨_,rfl,?_⟩;replace Ad:=Az.mk (Kd.S_mono (Kd.S_keep (IsS96.apartS (show IsS96 w _ Ac Ae Ak Al from kI HI437.out) (kS Ad.out) (by decide)) hk (fun _ h=>h.2)) (fun _ h=>h.1));replace Af:=Az.mk (Kd.Q_mono (Kd.Q_keep (IsS96.apartQ (show IsS96 w _ Ac Ae Ak Al from kI HI437.out) (kQ Af.out) (by decide)) hk (fun _ h=>h.2)) (fun _ h=>h.1));replace HB:=Az.mk (hb);replace HI437:=Az.mk (hi);(try clear hb);(try clear hk);(try clear hi))|((with_reducible refine gtC (f:=51) rfl ?_);refine clz Try.func51 (some 24) #[.pointer (some ⟨Ac,0,none⟩), .int .i64 14] ?_;(with_reducible refine(jK.calls Ac Ae Am Ao 14 Av Ap Aq w _ ?Aa ?Ab A5.out).mono ?_);(case Aa=>exact(kI HI437.out));(case Ab=>exact kG HB.out (IsS96.ge HI437.out));rintro e Bu ⟨rfl,hi,hb,hk⟩;refine⟨_,rfl,?_⟩;replace Ad:=Az.mk (Kd.S_mono (Kd.S_keep (IsS96.apartS (show IsS96 w _ Ac Ae Am Ao from kI HI437.out) (kS Ad.out) (by decide)) hk (fun _ h=>h.2)) (fun _ h=>h.1));replace Af:=Az.mk (Kd.Q_mono (Kd.Q_keep (IsS96.apartQ (show IsS96 w _ Ac Ae Am Ao from kI HI437.out) (kQ Af.out) (by decide)) hk (fun _ h=>h.2)) (fun _ h=>h.1));replace HB:=Az.mk (hb);replace HI437:=Az.mk (hi);(try clear hb);(try clear hk);(try clear hi))|((with_reducible refine gtC (f:=61) rfl ?_);refine clz Try.func61 (some 25) #[.bool Av] ?_;(with_reducible refine(gK.calls Av As _ A6.out).mono ?_);rintro e w' ⟨rfl,⟨nd,rfl⟩⟩;refine⟨_,rfl,?_⟩)|((with_reducible refine gtC (f:=75) rfl ?_);refine clz Try.func75 (some 28) #[.pointer (some ⟨Ac,0,none⟩), .int .i64 3] ?_;(with_reducible refine(fK.calls Ac Ae Ap Aq 3 Bd Bf Bh w _ ?Aa ?Ab A7.out).mono ?_);(case Aa=>exact(kI HI437.out));(case Ab=>exact kG HB.out (IsS96.ge HI437.out));rintro e Bv ⟨rfl,hi,hb,hk⟩;refine⟨_,rfl,?_⟩;replace Ad:=Az.mk (Kd.S_mono (Kd.S_keep (IsS96.apartS (show IsS96 w _ Ac Ae Ap Aq from kI HI437.out) (kS Ad.out) (by decide)) hk (fun _ h=>h.2)) (fun _ h=>h.1));replace Af:=Az.mk (Kd.Q_mono (Kd.Q_keep (IsS96.apartQ (show IsS96 w _ Ac Ae Ap Aq from kI HI437.out) (kQ Af.out) (by decide)) hk (fun _ h=>h.2)) (fun _ h=>h.1));replace HB:=Az.mk (hb);replace HI437:=Az.mk (hi);(try clear hb);(try clear hk);(try clear hi)))
 refine bodyPost_ret (results_list (rs:=[.tmp 2, .tmp 3, .tmp 4, .tmp 5]) rfl (by simp) (.tmp (.tmp (.tmp (.tmp .nil))))) rfl ?_
 exact⟨_,_,rq1,kS Ad.out,kQ Af.out,kG HB.out (IsS96.ge HI437.out)⟩
def jR.f (k:Nat) (l0:List Int):Option ((List (List Int)) × List Int × Int × Int):=(jL.f k l0).bind fun bt456=>(some (bt456.1,bt456.2.1,bt456.2.2.1,bt456.2.2.2))
theorem jR.calls (k:Nat) (A0:Option Addr) (c0:Nat) (l0:List Int) (r1:List (List Int)) (r2:List Int) (r3:Int) (r4:Int) (w:World) (Aj:Kd.C (Kd.int .u8) w A0 l0.length l0) (Ak:l0.length≤c0) (h:jR.f k l0=some (r1,r2,r3,r4)):
  Calls Try.prog 10 #[.slice A0 l0.length c0] w fun e w'=>∃v0_ v1_:Value,e= .returned (.tuple #[v0_,v1_, .int .i64 r3, .int .i64 r4])∧Kd.S (Kd.slice 3 (Kd.int .i64)) 25 w' w.heap.size (fun k_=>some k_≠(v1_:Value).ownBlock) v0_ r1∧Kd.Q (Kd.int .i64) 3 w' w.heap.size (fun _=>True) v1_ r2∧Below w.heap.size w w':=by
 have Ao:=Az.mk Aj
 have Ap:=Az.mk Ak
 clear Aj Ak
 have HB:=Az.mk (Below.refl w.heap.size w)
 have H:((jL.f k l0).bind fun Aa=>(some (Aa.1,Aa.2.1,Aa.2.2.1,Aa.2.2.2)))=some (r1,r2,r3,r4):=h
 clear h
 replace H:=bez H
 obtain⟨⟨Af,Ag,Ah,Ai⟩,A2,H⟩:=H
 try dsimp only at H
 simp only[Option.some.injEq,Prod.mk.injEq]at H
 obtain⟨rfl,rfl,rfl,rfl⟩:=H
 go_enter Try.func10,Try.ntmps10
 go_wp2_with (first|((with_reducible refine gtC (f:=46) rfl ?_);refine clz Try.func46 (some 12) #[.slice A0 l0.length c0] ?_;(with_reducible refine(jL.calls k _ _ l0 Af Ag Ah Ai _ ?Ab ?Ac A2.out).mono ?_);(case Ab=>exact kC Ao.out);(case Ac=>exact Ap.out);rintro e w3 ⟨Aq,As,rfl,Al,Am,hb⟩;refine⟨_,rfl,?_⟩;have Ad:=Az.mk (Kd.S_lower Al (bwZ bw_24));have Ae:=Az.mk (Kd.Q_lower Am (bwZ bw_24));replace HB:=Az.mk (bwT bw_24 hb);(try clear hb);(try clear Al);(try clear Am)))
 refine bodyPost_ret (results_list (rs:=[.tmp 2, .tmp 3, .tmp 4, .tmp 5]) rfl (by simp) (.tmp (.tmp (.tmp (.tmp .nil))))) rfl ?_
 exact⟨_,_,rq1,kS Ad.out,kQ Ae.out,bw_24⟩
def jE.f (k:Nat) (l0:List Int):Option ((List (List Int)) × Int × Int):=(jL.f k l0).bind fun bt464=>(some (bt464.1,bt464.2.2.1,bt464.2.2.2))
theorem jE.calls (k:Nat) (A0:Option Addr) (c0:Nat) (l0:List Int) (r1:List (List Int)) (r2:Int) (r3:Int) (w:World) (Ai:Kd.C (Kd.int .u8) w A0 l0.length l0) (Aj:l0.length≤c0) (h:jE.f k l0=some (r1,r2,r3)):
  Calls Try.prog 11 #[.slice A0 l0.length c0] w fun e w'=>∃v0_:Value,e= .returned (.tuple #[v0_, .int .i64 r2, .int .i64 r3])∧Kd.S (Kd.slice 3 (Kd.int .i64)) 25 w' w.heap.size (fun _=>True) v0_ r1∧Below w.heap.size w w':=by
 have Ao:=Az.mk Ai
 have Ap:=Az.mk Aj
 clear Ai Aj
 have HB:=Az.mk (Below.refl w.heap.size w)
 have H:((jL.f k l0).bind fun Aa=>(some (Aa.1,Aa.2.2.1,Aa.2.2.2)))=some (r1,r2,r3):=h
 clear h
 replace H:=bez H
 obtain⟨⟨Ae,Af,Ag,Ah⟩,A2,H⟩:=H
 try dsimp only at H
 simp only[Option.some.injEq,Prod.mk.injEq]at H
 obtain⟨rfl,rfl,rfl⟩:=H
 go_enter Try.func11,Try.ntmps11
 go_wp2_with (first|((with_reducible refine gtC (f:=46) rfl ?_);refine clz Try.func46 (some 11) #[.slice A0 l0.length c0] ?_;(with_reducible refine(jL.calls k _ _ l0 Ae Af Ag Ah _ ?Ab ?Ac A2.out).mono ?_);(case Ab=>exact kC Ao.out);(case Ac=>exact Ap.out);rintro e w3 ⟨Aq,As,rfl,Ak,Al,hb⟩;refine⟨_,rfl,?_⟩;have Ad:=Az.mk (Kd.S_lower Ak (bwZ bw_24));have Am:=Az.mk (Kd.Q_lower Al (bwZ bw_24));replace HB:=Az.mk (bwT bw_24 hb);(try clear hb);(try clear Ak);(try clear Al)))
 go_ret3
 exact⟨_,rq1,by(with_reducible repeat(first|apply Kd.S_alloc|apply Kd.S_drewN|apply Kd.S_drew));exact Kd.S_mono Ad.out (fun _ hk=>trivial),bw_24⟩
def gW.l0:Nat→Int→List Int→Int→Int→Option (Int)
 |0,_,_,_,_=>none
 |k+1,x1,x7,x8,x9=>if x9<x8 then(if 0≤x9 then(if x9<(x7.length:Int) then(if(rd x7 x9)=x1 then(some x9) else(gW.l0 k x1 x7 x8 (wrap64 (x9+1)))) else(none)) else(none)) else(some (-1))
def gW.f (k:Nat) (l0:List Int) (a1:Int):Option (Int):=gW.l0 k a1 l0 (l0.length:Int) 0
theorem gW.calls (k:Nat) (A0:Option Addr) (c0:Nat) (l0:List Int) (a1:Int) (r:Int) (w:World) (Aj:Kd.C (Kd.int .i64) w A0 l0.length l0) (Ak:l0.length≤c0) (h:gW.f k l0 a1=some r):
  Calls Try.prog 80 #[.slice A0 l0.length c0, .int .i64 a1] w fun e w'=>e= .returned (.int .i64 r)∧Drawn0 w w':=by
 have Al:=Az.mk Aj
 have Ap:=Az.mk Ak
 clear Aj Ak
 have H:(gW.l0 k a1 l0 (l0.length:Int) 0)=some r:=h
 clear h
 have H':=Az.mk H
 clear H
 go_enter Try.func80,Try.ntmps80
 go_wp2
 go_loopg [9] k (fun kq v9 w'=>∃(Aa:Int),v9= .int .i64 Aa∧Az (gW.l0 kq a1 l0 (l0.length:Int) Aa=some r)∧Az (kq≤k)∧Drawn0 w w')
 case atStart=>exact⟨(0),rq2,H',⟨Nat.le_refl _⟩,kd⟩
 clear H'
 obtain⟨Aa,rfl,HA,HK1,⟨m1,rfl⟩⟩:=hrel
 cases gk with
 |zero=>exact absurd HA.out (by simp[gW.l0])
 |succ k1=>
  have H:=HA.out
  clear HA
  simp only[gW.l0]at H
  by_cases c3:Aa<(l0.length:Int)
  rotate_left
  ·rw[ig c3]at H
   have Ag:=decide_eq_false c3
   clear c3
   obtain rfl:=Option.some.inj H
   go_wp2
   go_ret
   exact⟨rq2,kd⟩
  rw[ip c3]at H
  have Ag:=ode c3
  clear c3
  by_cases c4:0≤Aa
  rotate_left
  ·rw[ig c4]at H
   exact absurd H (by simp)
  rw[ip c4]at H
  have Am:=ode c4
  clear c4
  by_cases c5:Aa<(l0.length:Int)
  rotate_left
  ·rw[ig c5]at H
   exact absurd H (by simp)
  rw[ip c5]at H
  have Ao:=ode c5
  clear c5
  by_cases c6:(rd l0 Aa)=a1
  ·rw[ip c6]at H
   have Ah:=beq_iff_eq.mpr c6
   have Ai:=bne_eq_false_iff_eq.mpr c6
   clear c6
   obtain rfl:=Option.some.inj H
   have Ab:0≤(Aa:Int):=od
   have Ac:Aa<(l0.length:Int):=od
   obtain⟨Af,Ae,Ad⟩:=Kd.at_int Al.out Aa Ab Ac
   cases Ae
   replace Ab:=ets Ab
   replace Ac:=ets Ac
   go_wp2
   go_ret
   exact⟨rq2,kd⟩
  rw[ig c6]at H
  have Ah:=beq_eq_false_iff_ne.mpr c6
  have Ai:=bne_iff_ne.mpr c6
  have H':=Az.mk H
  clear H
  have Ab:0≤(Aa:Int):=od
  have Ac:Aa<(l0.length:Int):=od
  obtain⟨Af,Ae,Ad⟩:=Kd.at_int Al.out Aa Ab Ac
  cases Ae
  replace Ab:=ets Ab
  replace Ac:=ets Ac
  go_wp2
  go_roundg k1
  case measure=>have:=HK1.out;omega
  case rel=>exact⟨(wrap64 (Aa+1)),rq2,H',⟨by have:=HK1.out;omega⟩,kd⟩
def gX.l0:Nat→Int→List (List Int)→Int→Int→Option (Int × Int)
 |0,_,_,_,_=>none
 |k+1,x1,x9,x10,x11=>if x11<x10 then(if 0≤x11 then(if x11<(x9.length:Int) then((gW.f k (rd_L1 x9 x11) x1).bind fun t474=>(if t474 ≥ 0 then(some (x11,t474)) else(gX.l0 k x1 x9 x10 (wrap64 (x11+1))))) else(none)) else(none)) else(some ((-1),(-1)))
def gX.f (k:Nat) (l0:List (List Int)) (a1:Int):Option (Int × Int):=gX.l0 k a1 l0 (l0.length:Int) 0
theorem gX.calls (k:Nat) (A0:Option Addr) (c0:Nat) (l0:List (List Int)) (a1:Int) (r1:Int) (r2:Int) (w:World) (Au:Kd.C (Kd.slice 3 (Kd.int .i64)) w A0 l0.length l0) (Av:l0.length≤c0) (h:gX.f k l0 a1=some (r1,r2)):
  Calls Try.prog 54 #[.slice A0 l0.length c0, .int .i64 a1] w fun e w'=>e= .returned (.tuple #[.int .i64 r1, .int .i64 r2])∧Drawn0 w w':=by
 have Aw:=Az.mk Au
 have Bb:=Az.mk Av
 clear Au Av
 have H:(gX.l0 k a1 l0 (l0.length:Int) 0)=some (r1,r2):=h
 clear h
 have H':=Az.mk H
 clear H
 go_enter Try.func54,Try.ntmps54
 go_wp2
 go_loopg [11] k (fun kq Ax w'=>∃(Aa:Int),Ax= .int .i64 Aa∧Az (gX.l0 kq a1 l0 (l0.length:Int) Aa=some (r1,r2))∧Az (kq≤k)∧Drawn0 w w')
 case atStart=>exact⟨(0),rq2,H',⟨Nat.le_refl _⟩,kd⟩
 clear H'
 obtain⟨Aa,rfl,HA,HK1,⟨m1,rfl⟩⟩:=hrel
 cases gk with
 |zero=>exact absurd HA.out (by simp[gX.l0])
 |succ k1=>
  have H:=HA.out
  clear HA
  simp only[gX.l0]at H
  by_cases c3:Aa<(l0.length:Int)
  rotate_left
  ·rw[ig c3]at H
   have Aq:=decide_eq_false c3
   clear c3
   simp only[Option.some.injEq,Prod.mk.injEq]at H
   obtain⟨rfl,rfl⟩:=H
   go_wp2
   go_ret2
   exact⟨rq2,kd⟩
  rw[ip c3]at H
  have Aq:=ode c3
  clear c3
  by_cases c4:0≤Aa
  rotate_left
  ·rw[ig c4]at H
   exact absurd H (by simp)
  rw[ip c4]at H
  have Ay:=ode c4
  clear c4
  by_cases c5:Aa<(l0.length:Int)
  rotate_left
  ·rw[ig c5]at H
   exact absurd H (by simp)
  rw[ip c5]at H
  have Ba:=ode c5
  clear c5
  replace H:=bez H
  obtain⟨Aj,A6,H⟩:=H
  try dsimp only at H
  by_cases c7:Aj ≥ 0
  ·rw[ip c7]at H
   have As:decide (0≤Aj)=true:=ode c7
   clear c7
   simp only[Option.some.injEq,Prod.mk.injEq]at H
   obtain⟨rfl,rfl⟩:=H
   have Af:0≤(Aa:Int):=od
   have Ag:Aa<(l0.length:Int):=od
   obtain⟨Ap,Ah,Ai,Ao,Am,Ab,Ac⟩:=at_L1 Aw.out Aa Af Ag
   cases Ao
   have Ad:=Az.mk Ac
   have Ae:=Az.mk Ab
   clear Ac Ab
   replace Af:=ets Af
   replace Ag:=ets Ag
   go_wp2_with (first|((with_reducible refine gtC (f:=80) rfl ?_);refine clz Try.func80 (some 18) #[.slice Ah (rd_L1 l0 Aa).length Ai, .int .i64 a1] ?_;(with_reducible refine(gW.calls k1 _ _ (rd_L1 l0 Aa) a1 Aj _ ?Ak ?Al A6.out).mono ?_);(case Ak=>exact kC Ad.out);(case Al=>exact Ae.out);rintro e w' ⟨rfl,⟨nd,rfl⟩⟩;refine⟨_,rfl,?_⟩))
   go_ret2
   exact⟨rq2,kd⟩
  rw[ig c7]at H
  have As:decide (0≤Aj)=false:=decide_eq_false c7
  clear c7
  have H':=Az.mk H
  clear H
  have Af:0≤(Aa:Int):=od
  have Ag:Aa<(l0.length:Int):=od
  obtain⟨Ap,Ah,Ai,Ao,Am,Ab,Ac⟩:=at_L1 Aw.out Aa Af Ag
  cases Ao
  have Ad:=Az.mk Ac
  have Ae:=Az.mk Ab
  clear Ac Ab
  replace Af:=ets Af
  replace Ag:=ets Ag
  go_wp2_with (first|((with_reducible refine gtC (f:=80) rfl ?_);refine clz Try.func80 (some 18) #[.slice Ah (rd_L1 l0 Aa).length Ai, .int .i64 a1] ?_;(with_reducible refine(gW.calls k1 _ _ (rd_L1 l0 Aa) a1 Aj _ ?Ak ?Al A6.out).mono ?_);(case Ak=>exact kC Ad.out);(case Al=>exact Ae.out);rintro e w' ⟨rfl,⟨nd,rfl⟩⟩;refine⟨_,rfl,?_⟩))
  go_roundg k1
  case measure=>have:=HK1.out;omega
  case rel=>exact⟨(wrap64 (Aa+1)),rq2,H',⟨by have:=HK1.out;omega⟩,kd⟩
theorem z25_1 {p:Prop} (h:p:=by first|exact(HJ.out.drewN _).C|exact HJ.out.C):p:=h
theorem z25_0 {p:Prop} (h:p:=by first|exact(HJ.out.drewN _).cell|exact HJ.out.cell):p:=h
mutual
def gB.l0:Nat→List (List Int)→List Int→Int→Option (List Int)
 |0,_,_,_=>none
 |k+1,t,xs,i=>if i<(t.length:Int) then(if 0≤i then(gB.l1 k t xs i 0)else none) else(some xs)
def gB.l1:Nat→List (List Int)→List Int→Int→Int→Option (List Int)
 |0,_,_,_,_=>none
 |k+1,t,xs,i,j=>if j<((rd_L1 t i).length:Int) then(if 0≤j then((gX.f k t (wrap64 (-(rd (rd_L1 t i) j)))).bind fun s=>((joiner_join.f k xs (wrap64 (wrap64 (3*i)+j)) (wrap64 (wrap64 (3*s.1)+Int.tmod (wrap64 (s.2+1)) 3))).bind fun ys=>((joiner_join.f k ys (wrap64 (wrap64 (3*i)+Int.tmod (wrap64 (j+1)) 3)) (wrap64 (wrap64 (3*s.1)+s.2))).bind fun zs=>(gB.l1 k t zs i (wrap64 (j+1))))))else none) else(gB.l0 k t xs (wrap64 (i+1)))
end
def gB.f (k:Nat) (t:List (List Int)):Option (List Int):=(gT.l0 k (wrap64 (3*(t.length:Int))) [] 0).bind fun xs=>gB.l0 k t xs 0
theorem gB.calls (k:Nat) (A0:Option Addr) (c0:Nat) (l0:List (List Int)) (xs:List Int) (w:World) (Ae:Kd.C (Kd.slice 3 (Kd.int .i64)) w A0 l0.length l0) (Af:l0.length≤c0) (h:gB.f k l0=some xs):
  Calls Try.prog 57 #[.slice A0 l0.length c0] w fun e w'=>∃(p:Nat) (A:Option Addr) (c:Nat),e= .returned (.pointer (some ⟨p,0,none⟩))∧Jn w' w.heap.size p A c xs∧Below w.heap.size w w':=by
 have Aa:=Az.mk Ae
 have Aj:=Az.mk Af
 clear Ae Af
 unfold gB.f at h
 obtain⟨ns,T0,h⟩:=be.mp h
 have T0:=Az.mk T0
 have H':=Az.mk h
 clear h
 have HB:=Az.mk (Below.refl w.heap.size w)
 go_enter Try.func57,Try.ntmps57
 go_wp2_with (first
  |(go_at_call 53;refine(gT.calls k _ ns w _ (by first|exact pbN HB.out _|exact HB.out) T0.out).mono ?_;rintro e W1 ⟨p,AJ,cJ,rfl,hj,hb,_⟩;have Ag:=Az.mk hj;have HB1:=Az.mk hb;clear hj hb T0))
 go_loopg [16] k (fun kq Ak w'=>∃(xs_1:List Int) (i_1:Int),Ak= .int .i64 i_1∧Az (gB.l0 kq l0 xs_1 i_1=some xs)∧Az (kq≤k)∧Az (Jn w' w.heap.size p AJ cJ xs_1)∧Az (Below w.heap.size w w'))
 case atStart=>exact⟨ns,0,rfl,H',⟨Nat.le_refl _⟩,Ag,HB1⟩
 clear H' HB Ag HB1
 obtain⟨xs_1,i_1,rfl,HA,HK1,HJ,HB⟩:=hrel
 cases gk with
 |zero=>exact absurd HA.out (by simp[gB.l0])
 |succ k1=>
  have H:=HA.out
  clear HA
  simp only[gB.l0]at H
  by_cases b2:i_1<(l0.length:Int)
  rotate_left
  ·rw[ig b2]at H
   have b2b:decide (i_1<(l0.length:Int))=false:=decide_eq_false b2
   clear b2
   obtain rfl:=Option.some.inj H
   go_wp2
   go_ret
   exact⟨_,rfl,⟨_,_,HJ.out⟩,HB.out⟩
  rw[ip b2]at H
  by_cases b1:0≤i_1
  rotate_left
  ·rw[ig b1]at H
   exact absurd H (by simp)
  rw[ip b1]at H
  obtain⟨ad,A1,c1,e1,Ab,Ah,Ai⟩:=at_L1 Aa.out i_1 b1 b2
  subst e1
  replace Ab:=kc HB Ab
  have HR1:=Az.mk Ai
  have Ao:=Az.mk Ah
  clear Ai Ah
  have H':=Az.mk H
  clear H
  have b2b:=ode b2
  replace b1:=ets b1
  replace b2:=ets b2
  go_wp2
  go_loopg [23] k1 (fun kq Al w'=>∃(xs_2:List Int) (j_1:Int),Al= .int .i64 j_1∧Az (gB.l1 kq l0 xs_2 i_1 j_1=some xs)∧Az (kq≤k1)∧Az (Jn w' w.heap.size p AJ cJ xs_2)∧Az (Below w.heap.size w w'))
  case atStart=>exact⟨xs_1,0,rfl,H',⟨Nat.le_refl _⟩,HJ,HB⟩
  clear H' HJ HB Ab
  obtain⟨xs_2,j_1,rfl,HA,HK2,HJ,HB⟩:=hrel
  cases gk with
  |zero=>exact absurd HA.out (by simp[gB.l1])
  |succ k2=>
   have H:=HA.out
   clear HA
   simp only[gB.l1]at H
   by_cases d2:j_1<((rd_L1 l0 i_1).length:Int)
   rotate_left
   ·rw[ig d2]at H
    have d2b:decide (j_1<((rd_L1 l0 i_1).length:Int))=false:=decide_eq_false d2
    clear d2
    have H':=Az.mk H
    clear H
    go_wp2
    go_roundg k2
    case measure=>have:=HK1.out;have:=HK2.out;omega
    case rel=>exact⟨xs_2,_,rfl,H',⟨by have:=HK1.out;have:=HK2.out;omega⟩,HJ,HB⟩
   rw[ip d2]at H
   by_cases d1:0≤j_1
   rotate_left
   ·rw[ig d1]at H
    exact absurd H (by simp)
   rw[ip d1]at H
   obtain⟨⟨s1,s2⟩,T1,H⟩:=be.mp H
   obtain⟨ys,T2,H⟩:=be.mp H
   obtain⟨zs,T3,H⟩:=be.mp H
   obtain⟨Ap,e2,Ac⟩:=Kd.at_int HR1.out j_1 d1 d2
   subst e2
   replace Ac:=kc HB Ac
   obtain⟨X,hX⟩:∃j_:Int,rd (rd_L1 l0 i_1) j_1=j_:=⟨_,rfl⟩
   rw[hX]at T1 Ac
   clear hX
   have T1:=Az.mk T1
   have T2:=Az.mk T2
   have T3:=Az.mk T3
   have H':=Az.mk H
   clear H
   have d2b:=ode d2
   replace d1:=ets d1
   replace d2:=ets d2
   go_wp2_with (first
    |(go_at_call 54;refine(gX.calls k2 _ c0 l0 _ s1 s2 _ (by first|exact Kd.C_drewN (Kd.C_below Aa.out HB.out) _|exact Kd.C_below Aa.out HB.out) Aj.out T1.out).mono ?_;rintro e w' ⟨rfl,⟨nd1,rfl⟩⟩;clear T1)
    |(go_at_call 55;refine(joiner_join.calls k2 p AJ cJ xs_2 ys _ _ w _ (by first|exact pbN HB.out _|exact HB.out) (by first|exact HJ.out.drewN _|exact HJ.out) T2.out).mono ?_;rintro e W2 ⟨rfl,hj,hb⟩;clear T2 HB HJ;have Ad:=Az.mk hj;have HB2:=Az.mk hb;clear hj hb)
    |(go_at_call 55;refine(joiner_join.calls k2 p AJ cJ ys zs _ _ w _ (by first|exact pbN HB2.out _|exact HB2.out) (by first|exact Ad.out.drewN _|exact Ad.out) T3.out).mono ?_;rintro e W3 ⟨rfl,hj,hb⟩;clear T3 HB2 Ad;have Am:=Az.mk hj;have HB3:=Az.mk hb;clear hj hb))
   go_roundg k2
   case measure=>have:=HK1.out;have:=HK2.out;omega
   case rel=>exact⟨zs,_,rfl,H',⟨by have:=HK2.out;omega⟩,Am,HB3⟩
def inc1 (b:Prop) [Decidable b] (out:List Int) (e:Int):Option (List Int):=if b then(if 0≤e then(if e<(out.length:Int)then some (out.set e.toNat (wrap64 (rd out e+1)))else none)else none)else some out
mutual
def gH.l0:Nat→List (List Int)→List Int→Int→List Int→Int→Option (List Int)
 |0,_,_,_,_,_=>none
 |k+1,t,up,corner,out,i=>if i<(t.length:Int) then(if 0≤i then(gH.l1 k t up corner out i 0)else none) else(some out)
def gH.l1:Nat→List (List Int)→List Int→Int→List Int→Int→Int→Option (List Int)
 |0,_,_,_,_,_,_=>none
 |k+1,t,up,corner,out,i,j=>if j<((rd_L1 t i).length:Int) then(if 0≤j then(if rd (rd_L1 t i) j<0 then(gH.l1 k t up corner out i (wrap64 (j+1))) else((joiner_top.l0 k up (wrap64 (wrap64 (3*i)+j))).bind fun a=>((joiner_top.l0 k up corner).bind fun b=>((inc1 (a=b) out (wrap64 (rd (rd_L1 t i) j - 1))).bind fun o1=>((joiner_top.l0 k up (wrap64 (wrap64 (3*i)+Int.tmod (wrap64 (j+1)) 3))).bind fun c=>((joiner_top.l0 k up corner).bind fun d=>((inc1 (c=d) o1 (wrap64 (rd (rd_L1 t i) j - 1))).bind fun o2=>(gH.l1 k t up corner o2 i (wrap64 (j+1))))))))))else none) else(gH.l0 k t up corner out (wrap64 (i+1)))
end
def gH.f (k:Nat) (t:List (List Int)) (corner:Int):Option (List Int):=(gB.f k t).bind fun up=>(if 0≤wrap64 (Int.tdiv (wrap64 (3*(t.length:Int))) 2) then(if wrap64 (Int.tdiv (wrap64 (3*(t.length:Int))) 2)≤1000000000000 then gH.l0 k t up corner (List.replicate (wrap64 (Int.tdiv (wrap64 (3*(t.length:Int))) 2)).toNat 0) 0 else none)else none)
/-- A place of a row of one's own: its cell, and what a store there leaves. -/
theorem row_some {w:World}{base:Nat}{ok:Nat→Prop}{A:Option Addr}{n c:Nat}{out:List Int} (HO:Kd.R (Kd.int .i64) 3 w base ok (.slice A n c) out){Z:Int} (h0:0≤Z) (h1:Z<(out.length:Int)):∃g:Nat,A=some ⟨g,0,none⟩:=by
 obtain⟨g,cap,eg,_⟩:=Kd.R_form HO (by omega)
 injection eg with ea en ec
 exact⟨g,ea⟩
theorem row_at {w:World}{base:Nat}{ok:Nat→Prop}{g n c:Nat}{out:List Int}{w0:World} (HO:Kd.R (Kd.int .i64) 3 w base ok (.slice (some ⟨g,0,none⟩) n c) out) (HB:Below base w0 w){Z:Int} (h0:0≤Z) (h1:Z<(out.length:Int)):
  w.cell? ⟨g,Z.toNat,none⟩=some (.int .i64 (rd out Z))∧w.frozen? ⟨g,Z.toNat,none⟩=false∧(Z<(n:Int))∧Az (∀W v,Drawn0 w W→Kd.R (Kd.int .i64) 3 (W.setCell ⟨g,Z.toNat,none⟩ (.int .i64 v)) base ok (.slice (some ⟨g,0,none⟩) n c) (out.set Z.toNat v)∧Below base w0 (W.setCell ⟨g,Z.toNat,none⟩ (.int .i64 v))):=by
 have hn:=(Kd.R_reads' HO).1
 obtain⟨g',cap,eg,hg1,_⟩:=Kd.R_form HO (by omega)
 injection eg with ea en ec
 injection ea with ea
 injection ea with ea
 subst ea
 obtain⟨hx,hf⟩:=Kd.R_celln 0 HO Z h0 (by omega)
 refine⟨hx,hf,by omega,⟨?_⟩⟩
 rintro W v ⟨m,rfl⟩
 exact⟨(Kd.R_putg (Kd.R_drewN HO m) Z v).1,(pbN HB m).setCell hg1 _⟩
theorem inc1_pos {b:Prop} [Decidable b]{out o:List Int}{e:Int} (hb:b) (h:inc1 b out e=some o):0≤e∧e<(out.length:Int)∧o=out.set e.toNat (wrap64 (rd out e+1)):=by
 unfold inc1 at h
 rw[ip hb]at h
 by_cases h0:0≤e
 ·rw[ip h0]at h
  by_cases h1:e<(out.length:Int)
  ·rw[ip h1]at h
   exact⟨h0,h1,(Option.some.inj h).symm⟩
  rw[ig h1]at h;exact absurd h (by simp)
 rw[ig h0]at h;exact absurd h (by simp)
theorem inc1_neg {b:Prop} [Decidable b]{out o:List Int}{e:Int} (hb:¬b) (h:inc1 b out e=some o):o=out:=by
 unfold inc1 at h
 rw[ig hb]at h
 exact(Option.some.inj h).symm
theorem gH.calls (k:Nat) (A0:Option Addr) (c0:Nat) (l0:List (List Int)) (a1:Int) (r:List Int) (w:World) (Ah:Kd.C (Kd.slice 3 (Kd.int .i64)) w A0 l0.length l0) (Ai:l0.length≤c0) (h:gH.f k l0 a1=some r):
  Calls Try.prog 48 #[.slice A0 l0.length c0, .int .i64 a1] w fun e w'=>∃v0_:Value,e= .returned (v0_)∧Kd.R (Kd.int .i64) 3 w' w.heap.size (fun _=>True) v0_ r∧Below w.heap.size w w':=by
 have Ad:=Az.mk Ah
 have Am:=Az.mk Ai
 clear Ah Ai
 unfold gH.f at h
 obtain⟨up,T0,h⟩:=be.mp h
 have T0:=Az.mk T0
 obtain⟨N,hN⟩:∃j_:Int,wrap64 (Int.tdiv (wrap64 (3*(l0.length:Int))) 2)=j_:=⟨_,rfl⟩
 have hNw:IntKind.i64.wrap (Int.tdiv (wrap64 (3*(l0.length:Int))) 2)=N:=(i64_w _).trans hN
 rw[hN]at h
 by_cases b1:0≤N
 rotate_left
 ·rw[ig b1]at h
  exact absurd h (by simp)
 rw[ip b1]at h
 by_cases b2:N≤1000000000000
 rotate_left
 ·rw[ig b2]at h
  exact absurd h (by simp)
 rw[ip b2]at h
 have H':=Az.mk h
 clear h
 have N0:=Az.mk b1
 have N1:=Az.mk b2
 clear b1 b2
 have HB0:=Az.mk (Below.refl w.heap.size w)
 go_enter Try.func48,Try.ntmps48
 go_wp2_with (first
  |(go_at_call 57;refine(gB.calls k _ c0 l0 up _ (by first|exact Kd.C_drewN Ad.out _|exact Ad.out) Am.out T0.out).mono ?_;rintro e W1 ⟨p,AJ,cJ,rfl,hj,hb⟩;have HB1:=Az.mk (bwT (by first|exact pbN HB0.out _|exact HB0.out) hb);have Ag:=Az.mk hj;have HR1:=Az.mk (Kd.C_below Ad.out HB1.out);clear hj hb T0 HB0 Ad)
  |((with_reducible refine gtD (N:=17) rfl ?_);refine Kd.R_make (Kd.int .i64) (w0:=W1) W1.heap.size 3 rfl (N:=17) rfl 25 _ _ rfl N ?hx ?hy Try.underlying25 (.int .i64 0) 8 info3 rfl (by decide) (by omega) 0 (ok:=fun _=>True) (okp:=fun _=>True) rfl (fun _ hk=>hk) trivial N0.out (by have:=N1.out;omega) (by first|exact pbN (Below.refl _ _) _|exact Below.refl _ _) (by first|exact Nat.le_refl _) ?_;(case hx=>first|rfl|(simp only[hNw];rfl));(case hy=>first|rfl|(simp only[hNw];rfl));intro v1 W2 ho hb hg_ hnew_;have HO:=Az.mk ho;have HB:=Az.mk hb;clear hg_ hnew_ ho hb;obtain⟨AO,cO,eO⟩:=Kd.R_slice HO.out;generalize (List.replicate N.toNat (0:Int)).length=nO at eO;subst eO))
 go_loopg [20] k (fun kq Ao w'=>∃(Ab:List Int) (i_1:Int),Ao= .int .i64 i_1∧Az (gH.l0 kq l0 up a1 Ab i_1=some r)∧Az (kq≤k)∧Az (Kd.R (Kd.int .i64) 3 w' W1.heap.size (fun _=>True) (.slice AO nO cO) Ab)∧Az (Below W1.heap.size W1 w'))
 case atStart=>exact⟨_,0,rfl,H',⟨Nat.le_refl _⟩,HO,HB⟩
 clear H' HO HB
 obtain⟨Ab,i_1,rfl,HA,HK1,HO,HB⟩:=hrel
 cases gk with
 |zero=>exact absurd HA.out (by simp[gH.l0])
 |succ k1=>
  have H:=HA.out
  clear HA
  simp only[gH.l0]at H
  by_cases b2:i_1<(l0.length:Int)
  rotate_left
  ·rw[ig b2]at H
   have b2b:decide (i_1<(l0.length:Int))=false:=decide_eq_false b2
   clear b2
   obtain rfl:=Option.some.inj H
   go_wp2
   go_ret
   exact⟨_,rfl,Kd.R_lower HO.out HB1.out.size,bwT HB1.out HB.out⟩
  rw[ip b2]at H
  by_cases b1:0≤i_1
  rotate_left
  ·rw[ig b1]at H
   exact absurd H (by simp)
  rw[ip b1]at H
  obtain⟨ad,A1,c1,e1,Ae,Aj,Ak⟩:=at_L1 HR1.out i_1 b1 b2
  subst e1
  replace Ae:=(HB.out.cell (World.block_lt_of_cell? W1 _ Ae)).trans Ae
  have Ap:=Az.mk Ak
  have Av:=Az.mk Aj
  clear Ak Aj
  have H':=Az.mk H
  clear H
  have b2b:=ode b2
  replace b1:=ets b1
  replace b2:=ets b2
  go_wp2
  go_loopg [27] k1 (fun kq Aq w'=>∃(Aa:List Int) (j_1:Int),Aq= .int .i64 j_1∧Az (gH.l1 kq l0 up a1 Aa i_1 j_1=some r)∧Az (kq≤k1)∧Az (Kd.R (Kd.int .i64) 3 w' W1.heap.size (fun _=>True) (.slice AO nO cO) Aa)∧Az (Below W1.heap.size W1 w'))
  case atStart=>exact⟨Ab,0,rfl,H',⟨Nat.le_refl _⟩,HO,HB⟩
  clear H' HO HB Ae
  obtain⟨Aa,j_1,rfl,HA,HK2,HO,HB⟩:=hrel
  cases gk with
  |zero=>exact absurd HA.out (by simp[gH.l1])
  |succ k2=>
   have H:=HA.out
   clear HA
   simp only[gH.l1]at H
   by_cases d2:j_1<((rd_L1 l0 i_1).length:Int)
   rotate_left
   ·rw[ig d2]at H
    have d2b:decide (j_1<((rd_L1 l0 i_1).length:Int))=false:=decide_eq_false d2
    clear d2
    have H':=Az.mk H
    clear H
    go_wp2
    go_roundg k2
    case measure=>have:=HK1.out;have:=HK2.out;omega
    case rel=>exact⟨Aa,_,rfl,H',⟨by have:=HK1.out;have:=HK2.out;omega⟩,HO,HB⟩
   rw[ip d2]at H
   by_cases d1:0≤j_1
   rotate_left
   ·rw[ig d1]at H
    exact absurd H (by simp)
   rw[ip d1]at H
   obtain⟨Aw,e2,Af⟩:=Kd.at_int Ap.out j_1 d1 d2
   subst e2
   replace Af:=(HB.out.cell (World.block_lt_of_cell? W1 _ Af)).trans Af
   obtain⟨X,hX⟩:∃j_:Int,rd (rd_L1 l0 i_1) j_1=j_:=⟨_,rfl⟩
   rw[hX]at H Af
   clear hX
   have d2b:=ode d2
   replace d1:=ets d1
   replace d2:=ets d2
   by_cases x0:X<0
   ·rw[ip x0]at H
    have x0b:=ode x0
    clear x0
    have H':=Az.mk H
    clear H
    go_wp2
    go_roundg k2
    case measure=>have:=HK1.out;have:=HK2.out;omega
    case rel=>exact⟨Aa,_,rfl,H',⟨by have:=HK2.out;omega⟩,HO,HB⟩
   rw[ig x0]at H
   have x0b:decide (X<0)=false:=decide_eq_false x0
   clear x0
   obtain⟨Z,hZ⟩:∃j_:Int,wrap64 (X - 1)=j_:=⟨_,rfl⟩
   have hZw:IntKind.i64.wrap (X - 1)=Z:=(i64_w _).trans hZ
   rw[hZ]at H
   replace H:=be.mp H
   obtain⟨ta,T1,H⟩:=H
   replace H:=be.mp H
   obtain⟨tb,T2,H⟩:=H
   replace H:=be.mp H
   obtain⟨o1,T3,H⟩:=H
   replace H:=be.mp H
   obtain⟨tc,T4,H⟩:=H
   replace H:=be.mp H
   obtain⟨td,T5,H⟩:=H
   replace H:=be.mp H
   obtain⟨o2,T6,H⟩:=H
   have T1:=Az.mk T1
   have T2:=Az.mk T2
   have T4:=Az.mk T4
   have T5:=Az.mk T5
   have HJ:=Az.mk (Ag.out.below HB.out)
   by_cases e1:ta=tb
   rotate_left
   ·obtain rfl:=inc1_neg e1 T3
    have e1b:(ta== tb)=false:=beq_eq_false_iff_ne.mpr e1
    clear e1 T3
    by_cases e2:tc=td
    rotate_left
    ·obtain rfl:=inc1_neg e2 T6
     have e2b:(tc== td)=false:=beq_eq_false_iff_ne.mpr e2
     clear e2 T6
     have H':=Az.mk H
     clear H
     go_wp2_with (first
      |(go_at_call 40;refine(joiner_top.calls k2 ⟨p,0,none⟩ AJ cJ up _ _ _ z25_0 z25_1 T1.out).mono ?_;rintro e w' ⟨rfl,⟨nd1,rfl⟩⟩;clear T1)
      |(go_at_call 40;refine(joiner_top.calls k2 ⟨p,0,none⟩ AJ cJ up _ _ _ z25_0 z25_1 T2.out).mono ?_;rintro e w' ⟨rfl,⟨nd2,rfl⟩⟩;clear T2)
      |(go_at_call 40;refine(joiner_top.calls k2 ⟨p,0,none⟩ AJ cJ up _ _ _ z25_0 z25_1 T4.out).mono ?_;rintro e w' ⟨rfl,⟨nd3,rfl⟩⟩;clear T4)
      |(go_at_call 40;refine(joiner_top.calls k2 ⟨p,0,none⟩ AJ cJ up _ _ _ z25_0 z25_1 T5.out).mono ?_;rintro e w' ⟨rfl,⟨nd4,rfl⟩⟩;clear T5))
     go_roundg k2
     case measure=>have:=HK1.out;have:=HK2.out;omega
     case rel=>exact⟨o2,_,rfl,H',⟨by have:=HK2.out;omega⟩,⟨Kd.R_drewN HO.out _⟩,⟨pbN HB.out _⟩⟩
    obtain⟨z0,z1,rfl⟩:=inc1_pos e2 T6
    have e2b:(tc== td)=true:=beq_iff_eq.mpr e2
    have z0:=Az.mk z0
    have z1:=Az.mk z1
    clear e2 T6
    have H':=Az.mk H
    clear H
    obtain⟨g,eg⟩:=row_some HO.out z0.out z1.out
    subst eg
    obtain⟨hx,hf,zn,fin⟩:=row_at HO.out HB.out z0.out z1.out
    have zn1:=ets zn
    have Al:=ets z0.out
    go_wp2_with (first
     |(go_at_call 40;refine(joiner_top.calls k2 ⟨p,0,none⟩ AJ cJ up _ _ _ z25_0 z25_1 T1.out).mono ?_;rintro e w' ⟨rfl,⟨nd1,rfl⟩⟩;clear T1)
     |(go_at_call 40;refine(joiner_top.calls k2 ⟨p,0,none⟩ AJ cJ up _ _ _ z25_0 z25_1 T2.out).mono ?_;rintro e w' ⟨rfl,⟨nd2,rfl⟩⟩;clear T2)
     |(go_at_call 40;refine(joiner_top.calls k2 ⟨p,0,none⟩ AJ cJ up _ _ _ z25_0 z25_1 T4.out).mono ?_;rintro e w' ⟨rfl,⟨nd3,rfl⟩⟩;clear T4)
     |(go_at_call 40;refine(joiner_top.calls k2 ⟨p,0,none⟩ AJ cJ up _ _ _ z25_0 z25_1 T5.out).mono ?_;rintro e w' ⟨rfl,⟨nd4,rfl⟩⟩;clear T5))
    go_roundg k2
    case measure=>have:=HK1.out;have:=HK2.out;omega
    case rel=>exact⟨(o1.set Z.toNat (wrap64 (rd o1 Z+1))),_,rfl,H',⟨by have:=HK2.out;omega⟩,⟨(fin.out _ _ ⟨_,rfl⟩).1⟩,⟨(fin.out _ _ ⟨_,rfl⟩).2⟩⟩
   obtain⟨z0,z1,rfl⟩:=inc1_pos e1 T3
   have e1b:(ta== tb)=true:=beq_iff_eq.mpr e1
   have z0:=Az.mk z0
   have z1:=Az.mk z1
   clear e1 T3
   by_cases e2:tc=td
   ·obtain⟨_,_,rfl⟩:=inc1_pos e2 T6
    have e2b:(tc== td)=true:=beq_iff_eq.mpr e2
    clear e2 T6
    have H':=Az.mk H
    clear H
    obtain⟨g,eg⟩:=row_some HO.out z0.out z1.out
    subst eg
    obtain⟨hx,hf,zn,fin⟩:=row_at HO.out HB.out z0.out z1.out
    have zn1:=ets zn
    have Al:=ets z0.out
    go_wp2_with (first
     |(go_at_call 40;refine(joiner_top.calls k2 ⟨p,0,none⟩ AJ cJ up _ _ _ z25_0 z25_1 T1.out).mono ?_;rintro e w' ⟨rfl,⟨nd1,rfl⟩⟩;clear T1)
     |(go_at_call 40;refine(joiner_top.calls k2 ⟨p,0,none⟩ AJ cJ up _ _ _ z25_0 z25_1 T2.out).mono ?_;rintro e w' ⟨rfl,⟨nd2,rfl⟩⟩;clear T2)
     |((with_reducible refine gate_store (t:=3) (p:=50) rfl ?_);refine store_event (t:=3) (p:=50) (v:=?vo_1) (w1:=?As) ?hg ?ho ?hn ?hr ?_;(case ho=>rfl);(case hg=>rfl);(case hn=>rfl);(case hr=>first|(go_simp;done)|(go_simp;rfl));intro W3 hw;have Ac:=Az.mk (show Kd.R (Kd.int .i64) 3 W3 W1.heap.size (fun _=>True) (.slice (some ⟨g,0,none⟩) nO cO) (Aa.set Z.toNat (wrap64 (rd Aa Z+1)))from by rw[hw];exact(fin.out _ _ ⟨_,rfl⟩).1);have HB3:=Az.mk (show Below W1.heap.size W1 W3 from by rw[hw];exact(fin.out _ _ ⟨_,rfl⟩).2);clear hw fin hx hf HO HB HJ;have HO:=Ac;have HB:=HB3;have HJ:=Az.mk (Ag.out.below HB.out);clear Ac HB3;obtain⟨hx,hf,_,fin⟩:=row_at HO.out HB.out z0.out (by rw[List.length_set];exact z1.out);skip)
     |(go_at_call 40;refine(joiner_top.calls k2 ⟨p,0,none⟩ AJ cJ up _ _ _ z25_0 z25_1 T4.out).mono ?_;rintro e w' ⟨rfl,⟨nd3,rfl⟩⟩;clear T4)
     |(go_at_call 40;refine(joiner_top.calls k2 ⟨p,0,none⟩ AJ cJ up _ _ _ z25_0 z25_1 T5.out).mono ?_;rintro e w' ⟨rfl,⟨nd4,rfl⟩⟩;clear T5))
    go_roundg k2
    case measure=>have:=HK1.out;have:=HK2.out;omega
    case rel=>exact⟨((Aa.set Z.toNat (wrap64 (rd Aa Z+1))).set Z.toNat (wrap64 (rd (Aa.set Z.toNat (wrap64 (rd Aa Z+1))) Z+1))),_,rfl,H',⟨by have:=HK2.out;omega⟩,⟨(fin.out _ _ ⟨_,rfl⟩).1⟩,⟨(fin.out _ _ ⟨_,rfl⟩).2⟩⟩
   obtain rfl:=inc1_neg e2 T6
   have e2b:(tc== td)=false:=beq_eq_false_iff_ne.mpr e2
   clear e2 T6
   have H':=Az.mk H
   clear H
   obtain⟨g,eg⟩:=row_some HO.out z0.out z1.out
   subst eg
   obtain⟨hx,hf,zn,fin⟩:=row_at HO.out HB.out z0.out z1.out
   have zn1:=ets zn
   have Al:=ets z0.out
   go_wp2_with (first
    |(go_at_call 40;refine(joiner_top.calls k2 ⟨p,0,none⟩ AJ cJ up _ _ _ z25_0 z25_1 T1.out).mono ?_;rintro e w' ⟨rfl,⟨nd1,rfl⟩⟩;clear T1)
    |(go_at_call 40;refine(joiner_top.calls k2 ⟨p,0,none⟩ AJ cJ up _ _ _ z25_0 z25_1 T2.out).mono ?_;rintro e w' ⟨rfl,⟨nd2,rfl⟩⟩;clear T2)
    |((with_reducible refine gate_store (t:=3) (p:=50) rfl ?_);refine store_event (t:=3) (p:=50) (v:=?vo_2) (w1:=?Au) ?hg ?ho ?hn ?hr ?_;(case ho=>rfl);(case hg=>rfl);(case hn=>rfl);(case hr=>first|(go_simp;done)|(go_simp;rfl));intro W3 hw;have Ac:=Az.mk (show Kd.R (Kd.int .i64) 3 W3 W1.heap.size (fun _=>True) (.slice (some ⟨g,0,none⟩) nO cO) (Aa.set Z.toNat (wrap64 (rd Aa Z+1)))from by rw[hw];exact(fin.out _ _ ⟨_,rfl⟩).1);have HB3:=Az.mk (show Below W1.heap.size W1 W3 from by rw[hw];exact(fin.out _ _ ⟨_,rfl⟩).2);clear hw fin hx hf HO HB HJ;have HO:=Ac;have HB:=HB3;have HJ:=Az.mk (Ag.out.below HB.out);clear Ac HB3;obtain⟨hx,hf,_,fin⟩:=row_at HO.out HB.out z0.out (by rw[List.length_set];exact z1.out);skip)
    |(go_at_call 40;refine(joiner_top.calls k2 ⟨p,0,none⟩ AJ cJ up _ _ _ z25_0 z25_1 T4.out).mono ?_;rintro e w' ⟨rfl,⟨nd3,rfl⟩⟩;clear T4)
    |(go_at_call 40;refine(joiner_top.calls k2 ⟨p,0,none⟩ AJ cJ up _ _ _ z25_0 z25_1 T5.out).mono ?_;rintro e w' ⟨rfl,⟨nd4,rfl⟩⟩;clear T5))
   go_roundg k2
   case measure=>have:=HK1.out;have:=HK2.out;omega
   case rel=>exact⟨(Aa.set Z.toNat (wrap64 (rd Aa Z+1))),_,rfl,H',⟨by have:=HK2.out;omega⟩,⟨Kd.R_drewN HO.out _⟩,⟨pbN HB.out _⟩⟩
theorem bw_26 {n:Nat}{v v':World} (h:Below n v v':=by repeat(first|(with_reducible first|exact HB.out|apply bwA|apply pbN|apply bwD)|exact HB.out)):Below n v v':=h
theorem ln_26 {P:Prop} (h:P:=by(try simp only[List.map_toArray,List.map_cons,List.map_nil]);first|done|rfl|(simp only[List.length_drop,List.length_take];rfl)):P:=h
def jM.f (k:Nat) (l0:List (List Int)) (a1:Int) (a2:Int):Option (List Int × Bool):=(fB.f k l0).bind fun t475=>(if t475=true then((fV.f a1 0 (wrap64 ((l0.length:Int) - 1))).bind fun t476=>(if t476=true then((fV.f a2 0 2).bind fun t477=>(if t477=true then((gH.f k l0 (wrap64 ((wrap64 (3*a1))+(Int.tmod (wrap64 (a2+1)) 3)))).bind fun t478=>(some (t478,true))) else(some (([]:List Int),false)))) else(some (([]:List Int),false)))) else(some (([]:List Int),false)))
theorem jM.calls (k:Nat) (A0:Option Addr) (c0:Nat) (l0:List (List Int)) (a1:Int) (a2:Int) (r1:List Int) (r2:Bool) (w:World) (Aj:Kd.C (Kd.slice 3 (Kd.int .i64)) w A0 l0.length l0) (Ak:l0.length≤c0) (h:jM.f k l0 a1 a2=some (r1,r2)):
  Calls Try.prog 12 #[.slice A0 l0.length c0, .int .i64 a1, .int .i64 a2] w fun e w'=>∃v0_:Value,e= .returned (.tuple #[v0_, .bool r2])∧Kd.R (Kd.int .i64) 3 w' w.heap.size (fun _=>True) v0_ r1∧Below w.heap.size w w':=by
 have Ag:=Az.mk Aj
 have Ah:=Az.mk Ak
 clear Aj Ak
 have HB:=Az.mk (Below.refl w.heap.size w)
 have H:((fB.f k l0).bind fun Ac=>(if Ac=true then((fV.f a1 0 (wrap64 ((l0.length:Int) - 1))).bind fun Ad=>(if Ad=true then((fV.f a2 0 2).bind fun Ae=>(if Ae=true then((gH.f k l0 (wrap64 ((wrap64 (3*a1))+(Int.tmod (wrap64 (a2+1)) 3)))).bind fun Af=>(some (Af,true))) else(some (([]:List Int),false)))) else(some (([]:List Int),false)))) else(some (([]:List Int),false))))=some (r1,r2):=h
 clear h
 replace H:=bez H
 obtain⟨Ac,A4,H⟩:=H
 try dsimp only at H
 by_cases c5:Ac=true
 rotate_left
 ·replace c5:=Bool.eq_false_iff.mpr c5
  subst c5
  rw[ig ff]at H
  simp only[Option.some.injEq,Prod.mk.injEq]at H
  obtain⟨rfl,rfl⟩:=H
  go_enter Try.func12,Try.ntmps12
  go_wp2_with (first|((with_reducible refine gtC (f:=30) rfl ?_);refine clz Try.func30 (some 9) #[.slice A0 l0.length c0] ?_;(with_reducible refine(fB.calls k _ _ l0 false _ ?Aa ?Ab A4.out).mono ?_);(case Aa=>exact kC Ag.out);(case Ab=>exact Ah.out);rintro e Ap ⟨rfl,hb⟩;refine⟨_,rfl,?_⟩;replace HB:=Az.mk (bwT bw_26 hb);(try clear hb)))
  go_ret2
  exact⟨_,rq1,by first|exact Kd.R_nil _ _ _ _ _|exact Kd.N_nil _ _ _ _ _|exact Kd.V_nil _ _ _ _ _|exact Kd.Q_nil _ _ _ _ _|exact Kd.S_nil _ _ _ _ _,bw_26⟩
 subst c5
 rw[ip rfl]at H
 replace H:=bez H
 obtain⟨Ad,A6,H⟩:=H
 try dsimp only at H
 by_cases c7:Ad=true
 rotate_left
 ·replace c7:=Bool.eq_false_iff.mpr c7
  subst c7
  rw[ig ff]at H
  simp only[Option.some.injEq,Prod.mk.injEq]at H
  obtain⟨rfl,rfl⟩:=H
  go_enter Try.func12,Try.ntmps12
  go_wp2_with (first|((with_reducible refine gtC (f:=30) rfl ?_);refine clz Try.func30 (some 9) #[.slice A0 l0.length c0] ?_;(with_reducible refine(fB.calls k _ _ l0 true _ ?Aa ?Ab A4.out).mono ?_);(case Aa=>exact kC Ag.out);(case Ab=>exact Ah.out);rintro e Aq ⟨rfl,hb⟩;refine⟨_,rfl,?_⟩;replace HB:=Az.mk (bwT bw_26 hb);(try clear hb))|(go_at_call 47;(with_reducible refine(fV.calls a1 0 (wrap64 ((l0.length:Int) - 1)) false _ A6.out).mono ?_);rintro e w' ⟨rfl,⟨nd,rfl⟩⟩))
  go_ret2
  exact⟨_,rq1,by first|exact Kd.R_nil _ _ _ _ _|exact Kd.N_nil _ _ _ _ _|exact Kd.V_nil _ _ _ _ _|exact Kd.Q_nil _ _ _ _ _|exact Kd.S_nil _ _ _ _ _,bw_26⟩
 subst c7
 rw[ip rfl]at H
 replace H:=bez H
 obtain⟨Ae,A8,H⟩:=H
 try dsimp only at H
 by_cases c9:Ae=true
 rotate_left
 ·replace c9:=Bool.eq_false_iff.mpr c9
  subst c9
  rw[ig ff]at H
  simp only[Option.some.injEq,Prod.mk.injEq]at H
  obtain⟨rfl,rfl⟩:=H
  go_enter Try.func12,Try.ntmps12
  go_wp2_with (first|((with_reducible refine gtC (f:=30) rfl ?_);refine clz Try.func30 (some 9) #[.slice A0 l0.length c0] ?_;(with_reducible refine(fB.calls k _ _ l0 true _ ?Aa ?Ab A4.out).mono ?_);(case Aa=>exact kC Ag.out);(case Ab=>exact Ah.out);rintro e As ⟨rfl,hb⟩;refine⟨_,rfl,?_⟩;replace HB:=Az.mk (bwT bw_26 hb);(try clear hb))|(go_at_call 47;(with_reducible refine(fV.calls a1 0 (wrap64 ((l0.length:Int) - 1)) true _ A6.out).mono ?_);rintro e w' ⟨rfl,⟨nd,rfl⟩⟩)|(go_at_call 47;(with_reducible refine(fV.calls a2 0 2 false _ A8.out).mono ?_);rintro e w' ⟨rfl,⟨nd,rfl⟩⟩))
  go_ret2
  exact⟨_,rq1,by first|exact Kd.R_nil _ _ _ _ _|exact Kd.N_nil _ _ _ _ _|exact Kd.V_nil _ _ _ _ _|exact Kd.Q_nil _ _ _ _ _|exact Kd.S_nil _ _ _ _ _,bw_26⟩
 subst c9
 rw[ip rfl]at H
 replace H:=bez H
 obtain⟨Af,Am,H⟩:=H
 try dsimp only at H
 simp only[Option.some.injEq,Prod.mk.injEq]at H
 obtain⟨rfl,rfl⟩:=H
 go_enter Try.func12,Try.ntmps12
 go_wp2_with (first|((with_reducible refine gtC (f:=30) rfl ?_);refine clz Try.func30 (some 9) #[.slice A0 l0.length c0] ?_;(with_reducible refine(fB.calls k _ _ l0 true _ ?Aa ?Ab A4.out).mono ?_);(case Aa=>exact kC Ag.out);(case Ab=>exact Ah.out);rintro e Au ⟨rfl,hb⟩;refine⟨_,rfl,?_⟩;replace HB:=Az.mk (bwT bw_26 hb);(try clear hb))|(go_at_call 47;(with_reducible refine(fV.calls a1 0 (wrap64 ((l0.length:Int) - 1)) true _ A6.out).mono ?_);rintro e w' ⟨rfl,⟨nd,rfl⟩⟩)|(go_at_call 47;(with_reducible refine(fV.calls a2 0 2 true _ A8.out).mono ?_);rintro e w' ⟨rfl,⟨nd,rfl⟩⟩)|((with_reducible refine gtC (f:=48) rfl ?_);refine clz Try.func48 (some 31) #[.slice A0 l0.length c0, .int .i64 (wrap64 ((wrap64 (3*a1))+(Int.tmod (wrap64 (a2+1)) 3)))] ?_;(with_reducible refine(gH.calls k _ _ l0 (wrap64 ((wrap64 (3*a1))+(Int.tmod (wrap64 (a2+1)) 3))) Af _ ?Aa ?Ab Am.out).mono ?_);(case Aa=>exact kC (Kd.C_below Ag.out bw_26));(case Ab=>exact Ah.out);rintro e Av ⟨Ao,rfl,Al,hb⟩;refine⟨_,rfl,?_⟩;have Ai:=Az.mk (Kd.R_lower Al (bwZ bw_26));replace HB:=Az.mk (bwT bw_26 hb);(try clear hb);(try clear Al)))
 go_ret2
 exact⟨_,rq1,kR Ai.out,bw_26⟩
def jC.f (k:Nat) (l0:List (List Int)) (a1:Int) (a2:Int):Option (List Int × Bool):=(fA.f k l0).bind fun t481=>(if t481=true then((fW.f a1 0 (wrap64 ((l0.length:Int) - 1))).bind fun t482=>(if t482=true then((fW.f a2 0 2).bind fun t483=>(if t483=true then((gI.f k l0 a1 a2).bind fun t484=>(some (t484,true))) else(some ((([]:List Int)),false)))) else(some ((([]:List Int)),false)))) else(some ((([]:List Int)),false)))
theorem jC.calls (k:Nat) (A0:Option Addr) (c0:Nat) (l0:List (List Int)) (a1:Int) (a2:Int) (r1:List Int) (r2:Bool) (w:World) (Ay:Kd.C (Kd.slice 3 (Kd.int .i64)) w A0 l0.length l0) (Ba:l0.length≤c0) (h:jC.f k l0 a1 a2=some (r1,r2)):
  Calls Try.prog 13 #[.slice A0 l0.length c0, .int .i64 a1, .int .i64 a2] w fun e w'=>∃v0_:Value,e= .returned (.tuple #[v0_, .bool r2])∧Kd.R (Kd.int .i64) 3 w' w.heap.size (fun _=>True) v0_ r1∧Below w.heap.size w w':=by
 have Am:=Az.mk Ay
 have Ao:=Az.mk Ba
 clear Ay Ba
 have HB:=Az.mk (Below.refl w.heap.size w)
 have H:((fA.f k l0).bind fun Ai=>(if Ai=true then((fW.f a1 0 (wrap64 ((l0.length:Int) - 1))).bind fun Aj=>(if Aj=true then((fW.f a2 0 2).bind fun Ak=>(if Ak=true then((gI.f k l0 a1 a2).bind fun Al=>(some (Al,true))) else(some ((([]:List Int)),false)))) else(some ((([]:List Int)),false)))) else(some ((([]:List Int)),false))))=some (r1,r2):=h
 clear h
 replace H:=bez H
 obtain⟨Ai,A4,H⟩:=H
 try dsimp only at H
 by_cases c5:Ai=true
 rotate_left
 ·replace c5:=Bool.eq_false_iff.mpr c5
  subst c5
  rw[ig ff]at H
  obtain⟨Av,hy⟩:∃y_:List Int,y_=(([]:List Int)):=⟨_,rfl⟩
  replace H:(some (Av,false))=some (r1,r2):=rh
  have Af:=Az.mk hy
  clear hy
  simp only[Option.some.injEq,Prod.mk.injEq]at H
  obtain⟨rfl,rfl⟩:=H
  go_enter Try.func13,Try.ntmps13
  go_wp2_with (first|((with_reducible refine gtC (f:=31) rfl ?_);refine clz Try.func31 (some 9) #[.slice A0 l0.length c0] ?_;(with_reducible refine(fA.calls k _ _ l0 false _ ?Aa ?Ab A4.out).mono ?_);(case Aa=>exact kC Am.out);(case Ab=>exact Ao.out);rintro e Bj ⟨rfl,hb⟩;refine⟨_,rfl,?_⟩;replace HB:=Az.mk (bwT bw_26 hb);(try clear hb))|((with_reducible refine gtD (N:=24) rfl ?_);(try(refine gate_guard (by rfl) ?_;dsimp only));refine Kd.R_lit (Kd.int .i64) _ 3 ?hg (N:=24) ?hd (xs:=([]:List Int)) (inner:=[]) (ok:=fun _=>True) (okp:=fun _=>True) ?hr ?hp (fun _ hk=>hk) trivial (Below.refl _ _) (Nat.le_refl _) (by simp) ?_;(case hd=>rfl);(case hg=>rfl);(case hr=>first|(go_simp;done)|(go_simp;rfl));(case hp=>exact(Reps.none _ _));intro Bc Bk Ac hb hg_ hnew_;clear hg_ hnew_;(first|rw[←Af.out]at Ac|(simp only[Int.reduceToNat]at Ac;rw[←Af.out]at Ac));have Ap:=Az.mk (Kd.R_lower Ac (bwZ bw_26));replace HB:=Az.mk (bwT bw_26 hb);clear hb Ac))
  go_ret2
  exact⟨_,rq1,kR Ap.out,bw_26⟩
 subst c5
 rw[ip rfl]at H
 replace H:=bez H
 obtain⟨Aj,A6,H⟩:=H
 try dsimp only at H
 by_cases c7:Aj=true
 rotate_left
 ·replace c7:=Bool.eq_false_iff.mpr c7
  subst c7
  rw[ig ff]at H
  obtain⟨Aw,hy⟩:∃y_:List Int,y_=(([]:List Int)):=⟨_,rfl⟩
  replace H:(some (Aw,false))=some (r1,r2):=rh
  have Ag:=Az.mk hy
  clear hy
  simp only[Option.some.injEq,Prod.mk.injEq]at H
  obtain⟨rfl,rfl⟩:=H
  go_enter Try.func13,Try.ntmps13
  go_wp2_with (first|((with_reducible refine gtC (f:=31) rfl ?_);refine clz Try.func31 (some 9) #[.slice A0 l0.length c0] ?_;(with_reducible refine(fA.calls k _ _ l0 true _ ?Aa ?Ab A4.out).mono ?_);(case Aa=>exact kC Am.out);(case Ab=>exact Ao.out);rintro e Bl ⟨rfl,hb⟩;refine⟨_,rfl,?_⟩;replace HB:=Az.mk (bwT bw_26 hb);(try clear hb))|(go_at_call 49;(with_reducible refine(fW.calls a1 0 (wrap64 ((l0.length:Int) - 1)) false _ A6.out).mono ?_);rintro e w' ⟨rfl,⟨nd,rfl⟩⟩)|((with_reducible refine gtD (N:=24) rfl ?_);(try(refine gate_guard (by rfl) ?_;dsimp only));refine Kd.R_lit (Kd.int .i64) _ 3 ?hg (N:=24) ?hd (xs:=([]:List Int)) (inner:=[]) (ok:=fun _=>True) (okp:=fun _=>True) ?hr ?hp (fun _ hk=>hk) trivial (Below.refl _ _) (Nat.le_refl _) (by simp) ?_;(case hd=>rfl);(case hg=>rfl);(case hr=>first|(go_simp;done)|(go_simp;rfl));(case hp=>exact(Reps.none _ _));intro Bd Bm Ad hb hg_ hnew_;clear hg_ hnew_;(first|rw[←Ag.out]at Ad|(simp only[Int.reduceToNat]at Ad;rw[←Ag.out]at Ad));have Aq:=Az.mk (Kd.R_lower Ad (bwZ bw_26));replace HB:=Az.mk (bwT bw_26 hb);clear hb Ad))
  go_ret2
  exact⟨_,rq1,kR Aq.out,bw_26⟩
 subst c7
 rw[ip rfl]at H
 replace H:=bez H
 obtain⟨Ak,A8,H⟩:=H
 try dsimp only at H
 by_cases c9:Ak=true
 ·subst c9
  rw[ip rfl]at H
  replace H:=bez H
  obtain⟨Al,Bf,H⟩:=H
  try dsimp only at H
  simp only[Option.some.injEq,Prod.mk.injEq]at H
  obtain⟨rfl,rfl⟩:=H
  go_enter Try.func13,Try.ntmps13
  go_wp2_with (first|((with_reducible refine gtC (f:=31) rfl ?_);refine clz Try.func31 (some 9) #[.slice A0 l0.length c0] ?_;(with_reducible refine(fA.calls k _ _ l0 true _ ?Aa ?Ab A4.out).mono ?_);(case Aa=>exact kC Am.out);(case Ab=>exact Ao.out);rintro e Bn ⟨rfl,hb⟩;refine⟨_,rfl,?_⟩;replace HB:=Az.mk (bwT bw_26 hb);(try clear hb))|(go_at_call 49;(with_reducible refine(fW.calls a1 0 (wrap64 ((l0.length:Int) - 1)) true _ A6.out).mono ?_);rintro e w' ⟨rfl,⟨nd,rfl⟩⟩)|(go_at_call 49;(with_reducible refine(fW.calls a2 0 2 true _ A8.out).mono ?_);rintro e w' ⟨rfl,⟨nd,rfl⟩⟩)|((with_reducible refine gtC (f:=50) rfl ?_);refine clz Try.func50 (some 28) #[.slice A0 l0.length c0, .int .i64 a1, .int .i64 a2] ?_;(with_reducible refine(gI.calls k _ _ l0 a1 a2 Al _ ?Aa ?Ab Bf.out).mono ?_);(case Aa=>exact kC (Kd.C_below Am.out bw_26));(case Ab=>exact Ao.out);rintro e Bo ⟨Bh,rfl,Bb,hb⟩;refine⟨_,rfl,?_⟩;have As:=Az.mk (Kd.R_lower Bb (bwZ bw_26));replace HB:=Az.mk (bwT bw_26 hb);(try clear hb);(try clear Bb)))
  go_ret2
  exact⟨_,rq1,kR As.out,bw_26⟩
 replace c9:=Bool.eq_false_iff.mpr c9
 subst c9
 rw[ig ff]at H
 obtain⟨Ax,hy⟩:∃y_:List Int,y_=(([]:List Int)):=⟨_,rfl⟩
 replace H:(some (Ax,false))=some (r1,r2):=rh
 have Ah:=Az.mk hy
 clear hy
 simp only[Option.some.injEq,Prod.mk.injEq]at H
 obtain⟨rfl,rfl⟩:=H
 go_enter Try.func13,Try.ntmps13
 go_wp2_with (first|((with_reducible refine gtC (f:=31) rfl ?_);refine clz Try.func31 (some 9) #[.slice A0 l0.length c0] ?_;(with_reducible refine(fA.calls k _ _ l0 true _ ?Aa ?Ab A4.out).mono ?_);(case Aa=>exact kC Am.out);(case Ab=>exact Ao.out);rintro e Bp ⟨rfl,hb⟩;refine⟨_,rfl,?_⟩;replace HB:=Az.mk (bwT bw_26 hb);(try clear hb))|(go_at_call 49;(with_reducible refine(fW.calls a1 0 (wrap64 ((l0.length:Int) - 1)) true _ A6.out).mono ?_);rintro e w' ⟨rfl,⟨nd,rfl⟩⟩)|(go_at_call 49;(with_reducible refine(fW.calls a2 0 2 false _ A8.out).mono ?_);rintro e w' ⟨rfl,⟨nd,rfl⟩⟩)|((with_reducible refine gtD (N:=24) rfl ?_);(try(refine gate_guard (by rfl) ?_;dsimp only));refine Kd.R_lit (Kd.int .i64) _ 3 ?hg (N:=24) ?hd (xs:=([]:List Int)) (inner:=[]) (ok:=fun _=>True) (okp:=fun _=>True) ?hr ?hp (fun _ hk=>hk) trivial (Below.refl _ _) (Nat.le_refl _) (by simp) ?_;(case hd=>rfl);(case hg=>rfl);(case hr=>first|(go_simp;done)|(go_simp;rfl));(case hp=>exact(Reps.none _ _));intro Bi Bq Ae hb hg_ hnew_;clear hg_ hnew_;(first|rw[←Ah.out]at Ae|(simp only[Int.reduceToNat]at Ae;rw[←Ah.out]at Ae));have Au:=Az.mk (Kd.R_lower Ae (bwZ bw_26));replace HB:=Az.mk (bwT bw_26 hb);clear hb Ae))
 go_ret2
 exact⟨_,rq1,kR Au.out,bw_26⟩
def jA.f (k:Nat) (l0:List Int):Option (List Int × List Int):=(gQ.f k l0).bind fun bt496=>((fO.f k bt496.1 bt496.2.1 bt496.2.2).bind fun bt500=>((fO.f k bt496.1 bt500.2.2.1 bt500.2.2.2).bind fun bt508=>((jK.f bt496.1 bt508.2.2.1 bt508.2.2.2 2).bind fun bt516=>(if bt516.1=true then((some (([]:List Int):List Int)).bind fun y519=>(if y519.length+bt500.2.1.length<17592186044416 then(some (bt500.2.1,(y519 ++ bt500.2.1))) else(none))) else(some (bt500.2.1,bt508.2.1))))))
theorem jA.calls (k:Nat) (A0:Option Addr) (c0:Nat) (l0:List Int) (r1:List Int) (r2:List Int) (w:World) (Bx:Kd.C (Kd.int .u8) w A0 l0.length l0) (By:l0.length≤c0) (h:jA.f k l0=some (r1,r2)):
  Calls Try.prog 14 #[.slice A0 l0.length c0] w fun e w'=>∃v0_ v1_:Value,e= .returned (.tuple #[v0_,v1_])∧Kd.Q (Kd.int .i64) 3 w' w.heap.size (fun k_=>some k_≠(v1_:Value).ownBlock) v0_ r1∧Kd.Q (Kd.int .i64) 3 w' w.heap.size (fun k_=>some k_≠(v0_:Value).ownBlock) v1_ r2∧Below w.heap.size w w':=by
 have Bz:=Az.mk Bx
 have Ca:=Az.mk By
 clear Bx By
 have HB:=Az.mk (Below.refl w.heap.size w)
 have H:((gQ.f k l0).bind fun Ao=>((fO.f k Ao.1 Ao.2.1 Ao.2.2).bind fun Al=>((fO.f k Ao.1 Al.2.2.1 Al.2.2.2).bind fun Aw=>((jK.f Ao.1 Aw.2.2.1 Aw.2.2.2 2).bind fun Bi=>(if Bi.1=true then((some (([]:List Int):List Int)).bind fun Ap=>(if Ap.length+Al.2.1.length<17592186044416 then(some (Al.2.1,(Ap ++ Al.2.1))) else(none))) else(some (Al.2.1,Aw.2.1)))))))=some (r1,r2):=h
 clear h
 replace H:=bez H
 obtain⟨⟨Af,Bb,Bc⟩,A2,H⟩:=H
 try dsimp only at H
 replace H:=bez H
 obtain⟨⟨Bj,Ai,Aq,As⟩,A3,H⟩:=H
 try dsimp only at H
 replace H:=bez H
 obtain⟨⟨Bk,Bl,Aj,Ak⟩,A4,H⟩:=H
 try dsimp only at H
 replace H:=bez H
 obtain⟨⟨Bs,Bm,Bn⟩,A5,H⟩:=H
 try dsimp only at H
 by_cases c6:Bs=true
 rotate_left
 ·replace c6:=Bool.eq_false_iff.mpr c6
  subst c6
  rw[ig ff]at H
  simp only[Option.some.injEq,Prod.mk.injEq]at H
  obtain⟨rfl,rfl⟩:=H
  go_enter Try.func14,Try.ntmps14
  go_wp2_with (first|((with_reducible refine gtC (f:=38) rfl ?_);refine clz Try.func38 (some 10) #[.slice A0 l0.length c0] ?_;(with_reducible refine(gQ.calls k _ _ l0 Af Bb Bc w _ ?Ad ?Ae ?Ax A2.out).mono ?_);(case Ad=>exact bw_26);(case Ae=>exact Bz.out);(case Ax=>exact Ca.out);rintro e Cd ⟨Ab,rfl,hi,hb,hb2⟩;refine⟨_,rfl,?_⟩;replace HB:=Az.mk (hb);have HI499:=Az.mk (hi);(try clear hb);(try clear hb2);(try clear hi))|((with_reducible refine gtC (f:=37) rfl ?_);refine clz Try.func37 (some 13) #[.pointer (some ⟨Ab,0,none⟩)] ?_;(with_reducible refine(fO.calls k Ab Af Bb Bc Bj Ai Aq As w _ ?Ad ?Ae A3.out).mono ?_);(case Ad=>exact(kI HI499.out));(case Ae=>exact kG HB.out (IsS96.ge HI499.out));rintro e Ce ⟨Bo,Bt,rfl,Av,Au,hi,hb,hk⟩;refine⟨_,rfl,?_⟩;have Ac:=Az.mk (Kd.S_lower Av (bwZ (kG HB.out (IsS96.ge HI499.out))));have Aa:=Az.mk (Kd.Q_lower Au (bwZ (kG HB.out (IsS96.ge HI499.out))));replace HB:=Az.mk (hb);replace HI499:=Az.mk (hi);(try clear hb);(try clear hk);(try clear hi);(try clear Av);(try clear Au))|((with_reducible refine gtC (f:=37) rfl ?_);refine clz Try.func37 (some 18) #[.pointer (some ⟨Ab,0,none⟩)] ?_;(with_reducible refine(fO.calls k Ab Af Aq As Bk Bl Aj Ak w _ ?Ad ?Ae A4.out).mono ?_);(case Ad=>exact(kI HI499.out));(case Ae=>exact kG HB.out (IsS96.ge HI499.out));rintro e Cf ⟨Bp,Ay,rfl,Av,Au,hi,hb,hk⟩;refine⟨_,rfl,?_⟩;have Ah:=Az.mk (Kd.S_lower (Kd.S_new' (Kd.S_new' Av (Kd.S_lt (kS Ac.out))) (Kd.Q_lt (kQ Aa.out))) (bwZ (kG HB.out (IsS96.ge HI499.out))));replace Ac:=Az.mk (Kd.S_mono (Kd.S_told (Kd.S_told (Kd.S_oldK (IsS96.apartS (show IsS96 w _ Ab Af Aq As from kI HI499.out) (kS Ac.out) (by decide)) hk) (Kd.S_base Av)) (Kd.Q_base Au)) (fun _ h_=>h_.1));have Ag:=Az.mk (Kd.Q_lower (Kd.Q_new' Au (Kd.Q_lt (kQ Aa.out))) (bwZ (kG HB.out (IsS96.ge HI499.out))));replace Aa:=Az.mk (Kd.Q_mono (Kd.Q_told (Kd.Q_oldK (IsS96.apartQ (show IsS96 w _ Ab Af Aq As from kI HI499.out) (kQ Aa.out) (by decide)) hk) (Kd.Q_base Au)) (fun _ h_=>h_.1));replace HB:=Az.mk (hb);replace HI499:=Az.mk (hi);(try clear hb);(try clear hk);(try clear hi);(try clear Av);(try clear Au))|((with_reducible refine gtC (f:=51) rfl ?_);refine clz Try.func51 (some 22) #[.pointer (some ⟨Ab,0,none⟩), .int .i64 2] ?_;(with_reducible refine(jK.calls Ab Af Aj Ak 2 false Bm Bn w _ ?Ad ?Ae A5.out).mono ?_);(case Ad=>exact(kI HI499.out));(case Ae=>exact kG HB.out (IsS96.ge HI499.out));rintro e Cg ⟨rfl,hi,hb,hk⟩;refine⟨_,rfl,?_⟩;replace Ac:=Az.mk (Kd.S_mono (Kd.S_keep (IsS96.apartS (show IsS96 w _ Ab Af Aj Ak from kI HI499.out) (kS Ac.out) (by decide)) hk (fun _ h=>h.2)) (fun _ h=>h.1));replace Aa:=Az.mk (Kd.Q_mono (Kd.Q_keep (IsS96.apartQ (show IsS96 w _ Ab Af Aj Ak from kI HI499.out) (kQ Aa.out) (by decide)) hk (fun _ h=>h.2)) (fun _ h=>h.1));replace Ah:=Az.mk (Kd.S_mono (Kd.S_keep (IsS96.apartS (show IsS96 w _ Ab Af Aj Ak from kI HI499.out) (kS Ah.out) (by decide)) hk (fun _ h=>h.2)) (fun _ h=>h.1));replace Ag:=Az.mk (Kd.Q_mono (Kd.Q_keep (IsS96.apartQ (show IsS96 w _ Ab Af Aj Ak from kI HI499.out) (kQ Ag.out) (by decide)) hk (fun _ h=>h.2)) (fun _ h=>h.1));replace HB:=Az.mk (hb);replace HI499:=Az.mk (hi);(try clear hb);(try clear hk);(try clear hi)))
  go_ret2
  exact⟨_,_,rq1,by(with_reducible repeat(first|apply Kd.Q_alloc|apply Kd.Q_drewN|apply Kd.Q_drew));exact Kd.Q_mono Aa.out (fun _ hk=>hk.2),by(with_reducible repeat(first|apply Kd.Q_alloc|apply Kd.Q_drewN|apply Kd.Q_drew));exact Kd.Q_mono Ag.out (fun _ hk=>hk.2),kG HB.out (IsS96.ge HI499.out)⟩
 subst c6
 rw[ip rfl]at H
 obtain⟨Ap,hy⟩:∃y_:List Int,y_=(([]:List Int)):=⟨_,rfl⟩
 replace H:(if Ap.length+Ai.length<17592186044416 then(some (Ai,(Ap ++ Ai))) else(none))=some (r1,r2):=rh
 have Bh:=Az.mk hy
 clear hy
 by_cases c7:Ap.length+Ai.length<17592186044416
 rotate_left
 ·rw[ig c7]at H
  exact absurd H (by simp)
 rw[ip c7]at H
 have LMc7:=Az.mk c7
 clear c7
 obtain⟨Bu,hy⟩:∃y_:List Int,y_=(Ap ++ Ai):=⟨_,rfl⟩
 replace H:(some (Ai,Bu))=some (r1,r2):=rh
 have Bq:=Az.mk hy
 clear hy
 simp only[Option.some.injEq,Prod.mk.injEq]at H
 obtain⟨rfl,rfl⟩:=H
 go_enter Try.func14,Try.ntmps14
 go_wp2_with (first|((with_reducible refine gtC (f:=38) rfl ?_);refine clz Try.func38 (some 10) #[.slice A0 l0.length c0] ?_;(with_reducible refine(gQ.calls k _ _ l0 Af Bb Bc w _ ?Ad ?Ae ?Ax A2.out).mono ?_);(case Ad=>exact bw_26);(case Ae=>exact Bz.out);(case Ax=>exact Ca.out);rintro e w8 ⟨Ab,rfl,hi,hb,hb2⟩;refine⟨_,rfl,?_⟩;replace HB:=Az.mk (hb);have HI499:=Az.mk (hi);(try clear hb);(try clear hb2);(try clear hi))|((with_reducible refine gtC (f:=37) rfl ?_);refine clz Try.func37 (some 13) #[.pointer (some ⟨Ab,0,none⟩)] ?_;(with_reducible refine(fO.calls k Ab Af Bb Bc Bj Ai Aq As w _ ?Ad ?Ae A3.out).mono ?_);(case Ad=>exact(kI HI499.out));(case Ae=>exact kG HB.out (IsS96.ge HI499.out));rintro e w9 ⟨Bo,Bt,rfl,Av,Au,hi,hb,hk⟩;refine⟨_,rfl,?_⟩;have Ac:=Az.mk (Kd.S_lower Av (bwZ (kG HB.out (IsS96.ge HI499.out))));have Aa:=Az.mk (Kd.Q_lower Au (bwZ (kG HB.out (IsS96.ge HI499.out))));replace HB:=Az.mk (hb);replace HI499:=Az.mk (hi);(try clear hb);(try clear hk);(try clear hi);(try clear Av);(try clear Au))|((with_reducible refine gtC (f:=37) rfl ?_);refine clz Try.func37 (some 18) #[.pointer (some ⟨Ab,0,none⟩)] ?_;(with_reducible refine(fO.calls k Ab Af Aq As Bk Bl Aj Ak w _ ?Ad ?Ae A4.out).mono ?_);(case Ad=>exact(kI HI499.out));(case Ae=>exact kG HB.out (IsS96.ge HI499.out));rintro e Ch ⟨Bp,Ay,rfl,Av,Au,hi,hb,hk⟩;refine⟨_,rfl,?_⟩;have Ah:=Az.mk (Kd.S_lower (Kd.S_new' (Kd.S_new' Av (Kd.S_lt (kS Ac.out))) (Kd.Q_lt (kQ Aa.out))) (bwZ (kG HB.out (IsS96.ge HI499.out))));replace Ac:=Az.mk (Kd.S_mono (Kd.S_told (Kd.S_told (Kd.S_oldK (IsS96.apartS (show IsS96 w _ Ab Af Aq As from kI HI499.out) (kS Ac.out) (by decide)) hk) (Kd.S_base Av)) (Kd.Q_base Au)) (fun _ h_=>h_.1));have Ag:=Az.mk (Kd.Q_lower (Kd.Q_new' Au (Kd.Q_lt (kQ Aa.out))) (bwZ (kG HB.out (IsS96.ge HI499.out))));replace Aa:=Az.mk (Kd.Q_mono (Kd.Q_told (Kd.Q_oldK (IsS96.apartQ (show IsS96 w _ Ab Af Aq As from kI HI499.out) (kQ Aa.out) (by decide)) hk) (Kd.Q_base Au)) (fun _ h_=>h_.1));replace HB:=Az.mk (hb);replace HI499:=Az.mk (hi);(try clear hb);(try clear hk);(try clear hi);(try clear Av);(try clear Au))|((with_reducible refine gtC (f:=51) rfl ?_);refine clz Try.func51 (some 22) #[.pointer (some ⟨Ab,0,none⟩), .int .i64 2] ?_;(with_reducible refine(jK.calls Ab Af Aj Ak 2 true Bm Bn w _ ?Ad ?Ae A5.out).mono ?_);(case Ad=>exact(kI HI499.out));(case Ae=>exact kG HB.out (IsS96.ge HI499.out));rintro e Ci ⟨rfl,hi,hb,hk⟩;refine⟨_,rfl,?_⟩;replace Ac:=Az.mk (Kd.S_mono (Kd.S_keep (IsS96.apartS (show IsS96 w _ Ab Af Aj Ak from kI HI499.out) (kS Ac.out) (by decide)) hk (fun _ h=>h.2)) (fun _ h=>h.1));replace Aa:=Az.mk (Kd.Q_mono (Kd.Q_keep (IsS96.apartQ (show IsS96 w _ Ab Af Aj Ak from kI HI499.out) (kQ Aa.out) (by decide)) hk (fun _ h=>h.2)) (fun _ h=>h.1));replace Ah:=Az.mk (Kd.S_mono (Kd.S_keep (IsS96.apartS (show IsS96 w _ Ab Af Aj Ak from kI HI499.out) (kS Ah.out) (by decide)) hk (fun _ h=>h.2)) (fun _ h=>h.1));replace Ag:=Az.mk (Kd.Q_mono (Kd.Q_keep (IsS96.apartQ (show IsS96 w _ Ab Af Aj Ak from kI HI499.out) (kQ Ag.out) (by decide)) hk (fun _ h=>h.2)) (fun _ h=>h.1));replace HB:=Az.mk (hb);replace HI499:=Az.mk (hi);(try clear hb);(try clear hk);(try clear hi))|((with_reducible refine gtD (N:=24) rfl ?_);refine Kd.R_lit (Kd.int .i64) _ 3 ?hg (N:=24) ?hd (xs:=([]:List Int)) (inner:=[]) (ok:=fun _=>True) (okp:=fun _=>True) ?hr ?hp (fun _ hk=>hk) trivial (Below.refl _ _) (Nat.le_refl _) (by simp) ?_;(case hd=>rfl);(case hg=>rfl);(case hr=>first|(go_simp;done)|(go_simp;rfl));(case hp=>exact(Reps.none _ _));intro Bv Cj Am hb hg_ hnew_;clear hg_ hnew_;(first|rw[←Bh.out]at Am|(simp only[Int.reduceToNat]at Am;rw[←Bh.out]at Am));replace Ac:=Az.mk (Kd.S_elder' (kS Ac.out) (Kd.R_base Am) hb);replace Ah:=Az.mk (Kd.S_elder' (kS Ah.out) (Kd.R_base Am) hb);have Ba:=Az.mk (Kd.R_lower (Kd.R_new' (Kd.R_new' Am (Kd.Q_lt (kQ Aa.out))) (Kd.Q_lt (kQ Ag.out))) (bwZ (kG HB.out (IsS96.ge HI499.out))));replace Aa:=Az.mk (Kd.Q_elder' (kQ Aa.out) (Kd.R_base Am) hb);replace Ag:=Az.mk (Kd.Q_elder' (kQ Ag.out) (Kd.R_base Am) hb);replace HB:=Az.mk (bwT (kG HB.out (IsS96.ge HI499.out)) hb);replace HI499:=Az.mk (IsS96.below (kI HI499.out) hb);clear hb Am;obtain⟨Bd,Bf,Bw,_⟩:=Kd.Q_slice Aa.out;subst Bw)|((with_reducible refine gate_builtin (b:= .append) (xs:= #[.tmp 24, .tmp 25]) rfl ?_);at_builtin;refine Kd.R_append_rows (Kd.int .i64) (w0:=w) w.heap.size rfl (.tmp 24) (.tmp 25) 25 3 (.int .i64 0) 8 rfl Try.underlying25 info3 rfl (by decide) (by omega) Bv Ap Ai _ _ _ (fun k_=>some k_≠(.slice Bd Ai.length Bf:Value).ownBlock∧some k_≠(Ay:Value).ownBlock) (fun _=>False) rfl rfl ?aO ?aR (fun _ _ h=>h) (fun _ h=>h.elim) ?aF ?aB ?aS ?aL ?_;(case aR=>exact kC (Kd.Q_reads' Aa.out).2.2);(case aB=>exact(kG HB.out (IsS96.ge HI499.out)));(case aF=>exact(fun k_ hk=>⟨Kd.fresh' (Kd.Q_lt (kQ Aa.out)) k_ hk,Kd.fresh' (Kd.Q_lt (kQ Ag.out)) k_ hk⟩));(case aO=>exact(by(with_reducible repeat(first|apply Kd.R_alloc|apply Kd.R_drewN|apply Kd.R_drew));exact Kd.R_mono Ba.out (fun _ hk=>⟨hk.1.2,hk.2⟩)));(case aS=>exact(bwZ (kG HB.out (IsS96.ge HI499.out))));(case aL=>have:=LMc7.out;omega);intro Cc Ck ho hb hg hat;rw[←Bq.out]at ho;have n0_:=Az.mk (IsS96.grown (kI HI499.out) hg (IsS96.own_ne HI499.out Ba.out (by decide)));have n1_:=Az.mk (Kd.S_after (ok:=(fun k_=>some k_≠(.slice Bd Ai.length Bf:Value).ownBlock∧some k_≠(Bp:Value).ownBlock∧some k_≠(Ay:Value).ownBlock)) (by(with_reducible repeat(first|apply Kd.S_alloc|apply Kd.S_drewN|apply Kd.S_drew));exact Kd.S_mono Ac.out (fun _ hk=>⟨⟨hk.1.1.1,⟨hk.1.1.2,hk.1.2⟩⟩,hk.2⟩)) hg hat);have n2_:=Az.mk (Kd.Q_after (ok:=(fun k_=>some k_≠(Ay:Value).ownBlock)) (by(with_reducible repeat(first|apply Kd.Q_alloc|apply Kd.Q_drewN|apply Kd.Q_drew));exact Kd.Q_mono Aa.out (fun _ hk=>⟨hk.1.2,hk.2⟩)) hg hat);have n3_:=Az.mk (Kd.S_after (ok:=(fun k_=>some k_≠(Bo:Value).ownBlock∧some k_≠(.slice Bd Ai.length Bf:Value).ownBlock∧some k_≠(Ay:Value).ownBlock)) (by(with_reducible repeat(first|apply Kd.S_alloc|apply Kd.S_drewN|apply Kd.S_drew));exact Kd.S_mono Ah.out (fun _ hk=>⟨⟨hk.1.1.2,⟨hk.1.2,hk.1.1.1⟩⟩,hk.2⟩)) hg hat);have n4_:=Az.mk (Kd.Q_after (ok:=(fun k_=>some k_≠(.slice Bd Ai.length Bf:Value).ownBlock)) (by(with_reducible repeat(first|apply Kd.Q_alloc|apply Kd.Q_drewN|apply Kd.Q_drew));exact Kd.Q_mono Ag.out (fun _ hk=>⟨hk.1.2,hk.2⟩)) hg hat);have n5_:=Az.mk (hb);have n6_:=Az.mk (ho);clear HI499;clear Ac;clear Aa;clear Ah;clear Ag;clear HB;clear Ba;have HI499:=n0_;have Ac:=n1_;have Aa:=n2_;have Ah:=n3_;have Ag:=n4_;have HB:=n5_;have Br:=n6_;clear n0_ n1_ n2_ n3_ n4_ n5_ n6_;clear ho hb hg hat))
 go_ret2
 exact⟨_,_,rq1,by(with_reducible repeat(first|apply Kd.Q_alloc|apply Kd.Q_drewN|apply Kd.Q_drew));exact Kd.Q_mono Aa.out (fun _ hk=>hk.2),Kd.Q_of_R (by(with_reducible repeat(first|apply Kd.R_alloc|apply Kd.R_drewN|apply Kd.R_drew));exact Kd.R_mono Br.out (fun _ hk=>hk.1)),kG HB.out (IsS96.ge HI499.out)⟩
section
open Bool renaming true → T, false → F
theorem bw_27 {n:Nat}{v v':World} (h:Below n v v':=by repeat(first|(with_reducible first|exact HB.out|apply bwA|apply pbN|apply bwD)|exact HB.out)):Below n v v':=h
mutual
def fJ.j0:Nat→List Int→List Int→Bool→Option (List Int × Bool)
 |0,_,_,_=>none
 |k+1,x0,x1,x22=>if x22=true then(some (([]:List Int),false)) else(fJ.l0 k x0 x1 (([]:List Int)) (x0.length:Int) 0)
def fJ.l0:Nat→List Int→List Int→List Int→Int→Int→Option (List Int × Bool)
 |0,_,_,_,_,_=>none
 |k+1,x0,x1,x6,x25,x26=>if x26<x25 then(if 0≤x26 then(if x26<(x0.length:Int) then(if x26<(x1.length:Int) then(if x6.length<17592186044416 then(fJ.l0 k x0 x1 (x6 ++ [wrap64 ((rd x0 x26)+(rd x1 x26))]) x25 (wrap64 (x26+1))) else(none)) else(none)) else(none)) else(none)) else((fX.f k x6).bind fun t535=>(if t535=true then(some (x6,true)) else(some (([]:List Int),false))))
end
def fJ.f (k:Nat) (l0:List Int) (l1:List Int):Option (List Int × Bool):=if(l0.length:Int)=(l1.length:Int) then((fX.f k l0).bind fun t525=>(if t525=true then((fX.f k l1).bind fun t526=>(fJ.j0 k l0 l1 (!t526))) else(fJ.j0 k l0 l1 true))) else(fJ.j0 k l0 l1 true)
def fJ.T7:Bool × List (List Nat × List Nat):=(true,[([],[]),([],[]),([],[]),([1,2],[1,2]),([3],[3]),([],[]),([],[]),([5,6],[5,6]),([7],[7]),([4,8],[4,8]),([9],[9]),([0,10],[0,10]),([11,11,0,1,2,3,4,5,6,7,8,9,10,11],[0,11])])
def fJ.B7:List Nat:=[0,0,0,6,14,0,0,96,224,510,1022,2047,4095]
theorem fJ.tab7:rtab .any (opsOf Try.f15 7)=fJ.T7:=by kernel_rfl
theorem fJ.bits7:waitsOk fJ.T7.2 fJ.B7=true:=by kernel_rfl
theorem fJ.calls (k:Nat) (A0:Option Addr) (c0:Nat) (l0:List Int) (A1:Option Addr) (c1:Nat) (l1:List Int) (r1:List Int) (r2:Bool) (w:World) (Cc:Kd.C (Kd.int .i64) w A0 l0.length l0) (Cd:l0.length≤c0) (Ce:Kd.C (Kd.int .i64) w A1 l1.length l1) (Cf:l1.length≤c1) (h:fJ.f k l0 l1=some (r1,r2)):
  Calls Try.prog 15 #[.slice A0 l0.length c0, .slice A1 l1.length c1] w fun e w'=>∃v0_:Value,e= .returned (.tuple #[v0_, .bool r2])∧Kd.R (Kd.int .i64) 3 w' w.heap.size (fun _=>True) v0_ r1∧Below w.heap.size w w':=by
 have Bp:=Az.mk Cc
 have Cg:=Az.mk Cd
 clear Cc Cd
 have HR1:=Az.mk Ce
 have Cm:=Az.mk Cf
 clear Ce Cf
 have HB:=Az.mk (Below.refl w.heap.size w)
 have H:(if(l0.length:Int)=(l1.length:Int) then((fX.f k l0).bind fun Ap=>(if Ap=true then((fX.f k l1).bind fun Am=>(fJ.j0 k l0 l1 (!Am))) else(fJ.j0 k l0 l1 true))) else(fJ.j0 k l0 l1 true))=some (r1,r2):=h
 clear h
 have Bq:=Az.mk H
 clear H
 go_enter Try.func15,Try.ntmps15
 go_upto_region 1 with (fail)
 go_cut [22] (fun Cn wc=>∃(kq:Nat) (Ak:Bool),Cn= .bool Ak∧Az (fJ.j0 kq l0 l1 Ak=some (r1,r2))∧Az (kq≤k)∧Az (Below w.heap.size w wc))
 case first=>
  have H:=Bq.out
  clear Bq
  by_cases c4:(l0.length:Int)=(l1.length:Int)
  rotate_left
  ·rw[ig c4]at H
   have Aj:=beq_eq_false_iff_ne.mpr c4
   have Aq:=bne_iff_ne.mpr c4
   have As:(l0.length== l1.length)=false:=by first|simpa using c4|(simp at c4 ⊢;omega)
   (first|rw[Aj]|(simp only[i64_w,i32_w];rw[Aj])|skip)
   have H':=Az.mk H
   clear H
   go_wp2
   go_meet
   case rel=>exact⟨_,(true),rq2,H',⟨by first|omega|exact Nat.le_refl _⟩,⟨bw_27⟩⟩
  rw[ip c4]at H
  have Aj:=beq_iff_eq.mpr c4
  have Aq:=bne_eq_false_iff_eq.mpr c4
  have As:(l0.length== l1.length)=true:=by first|simpa using c4|(simp at c4 ⊢;omega)
  clear c4
  (first|rw[Aj]|(simp only[i64_w,i32_w];rw[Aj])|skip)
  replace H:=bez H
  obtain⟨Ap,A5,H⟩:=H
  try dsimp only at H
  by_cases c6:Ap=true
  rotate_left
  ·replace c6:=Bool.eq_false_iff.mpr c6
   subst c6
   rw[ig ff]at H
   have H':=Az.mk H
   clear H
   go_wp2_with (first|(go_at_call 52;(with_reducible refine(fX.calls k _ _ l0 false _ ?Ab ?Ac A5.out).mono ?_);(case Ab=>exact kC (Kd.C_below Bp.out HB.out));(case Ac=>exact Cg.out);rintro e w' ⟨rfl,⟨nd,rfl⟩⟩))
   go_meet
   case rel=>exact⟨_,(true),rq2,H',⟨by first|omega|exact Nat.le_refl _⟩,⟨bw_27⟩⟩
  subst c6
  rw[ip rfl]at H
  replace H:=bez H
  obtain⟨Am,A7,H⟩:=H
  try dsimp only at H
  have H':=Az.mk H
  clear H
  go_wp2_with (first|(go_at_call 52;(with_reducible refine(fX.calls k _ _ l0 true _ ?Ab ?Ac A5.out).mono ?_);(case Ab=>exact kC (Kd.C_below Bp.out HB.out));(case Ac=>exact Cg.out);rintro e w' ⟨rfl,⟨nd,rfl⟩⟩)|(go_at_call 52;(with_reducible refine(fX.calls k _ _ l1 Am _ ?Ab ?Ac A7.out).mono ?_);(case Ab=>exact kC (Kd.C_below HR1.out bw_27));(case Ac=>exact Cm.out);rintro e w' ⟨rfl,⟨nd,rfl⟩⟩))
  go_meet
  case rel=>exact⟨_,(!Am),rq2,H',⟨by first|omega|exact Nat.le_refl _⟩,⟨bw_27⟩⟩
 clear Bq
 try clear c1
 try clear c4
 try clear Aj
 try clear Aq
 try clear As
 try clear c6
 obtain⟨kq,Ak,rfl,HA,Ch,HB⟩:=hcut
 cases kq with
 |zero=>exact absurd HA.out (by simp[fJ.j0])
 |succ Br=>
  have H:=HA.out
  clear HA
  simp only[fJ.j0]at H
  by_cases c8:Ak=true
  ·subst c8
   rw[ip rfl]at H
   simp only[Option.some.injEq,Prod.mk.injEq]at H
   obtain⟨rfl,rfl⟩:=H
   go_wp2
   go_ret2
   exact⟨_,rq1,by first|exact Kd.R_nil _ _ _ _ _|exact Kd.N_nil _ _ _ _ _|exact Kd.V_nil _ _ _ _ _|exact Kd.Q_nil _ _ _ _ _|exact Kd.S_nil _ _ _ _ _,bw_27⟩
  replace c8:=Bool.eq_false_iff.mpr c8
  subst c8
  rw[ig ff]at H
  obtain⟨Ba,hy⟩:∃y_:List Int,y_=(([]:List Int)):=⟨_,rfl⟩
  replace H:(fJ.l0 Br l0 l1 Ba (l0.length:Int) 0)=some (r1,r2):=rh
  have Ao:=Az.mk hy
  clear hy
  have H':=Az.mk H
  clear H
  go_wp2_with (first|((with_reducible refine gtD (N:=23) rfl ?_);refine Kd.R_lit (Kd.int .i64) _ 3 ?hg (N:=23) ?hd (xs:=([]:List Int)) (inner:=[]) (ok:=fun _=>True) (okp:=fun _=>True) ?hr ?hp (fun _ hk=>hk) trivial (Below.refl _ _) (Nat.le_refl _) (by simp) ?_;(case hd=>rfl);(case hg=>rfl);(case hr=>first|(go_simp;done)|(go_simp;rfl));(case hp=>exact(Reps.none _ _));intro Co w9 Al hb hg_ hnew_;clear hg_ hnew_;(first|rw[←Ao.out]at Al|(simp only[Int.reduceToNat]at Al;rw[←Ao.out]at Al));have Bb:=Az.mk (Kd.R_lower Al (bwZ bw_27));replace HB:=Az.mk (bwT bw_27 hb);clear hb Al))
  go_loopg [6,26] Br (fun kq v6 Cp w'=>∃(Ai:List Int) (Aa:Int),Cp= .int .i64 Aa∧Az (fJ.l0 kq l0 l1 Ai (l0.length:Int) Aa=some (r1,r2))∧Az (kq≤Br)∧Az (Kd.R (Kd.int .i64) 3 w' w.heap.size (fun _=>True) v6 Ai)∧Az (Below w.heap.size w w'))
  case atStart=>exact⟨(Ba),(0),rq2,H',⟨Nat.le_refl _⟩,⟨kR Bb.out⟩,⟨bw_27⟩⟩
  clear H'
  try clear c1
  try clear c4
  try clear Aj
  try clear Aq
  try clear As
  try clear c6
  try clear c8
  obtain⟨Ai,Aa,rfl,HA,HK2,Ad,HB⟩:=hrel
  cases gk with
  |zero=>exact absurd HA.out (by simp[fJ.l0])
  |succ k2=>
   have H:=HA.out
   clear HA
   simp only[fJ.l0]at H
   by_cases Ay:Aa<(l0.length:Int)
   rotate_left
   ·rw[ig Ay]at H
    have Bc:=decide_eq_false Ay
    clear Ay
    replace H:=bez H
    obtain⟨Bs,Ci,H⟩:=H
    try dsimp only at H
    by_cases Bk:Bs=true
    ·subst Bk
     rw[ip rfl]at H
     simp only[Option.some.injEq,Prod.mk.injEq]at H
     obtain⟨rfl,rfl⟩:=H
     obtain⟨Bt,Bu,Bv⟩:=Kd.R_slice Ad.out
     subst Bv
     go_wp2_with (first|((with_reducible refine gtC (f:=52) rfl ?_);refine clz Try.func52 (some 43) #[.slice Bt Ai.length Bu] ?_;(with_reducible refine(fX.calls k2 _ _ Ai true _ ?Ab ?Ac Ci.out).mono ?_);(case Ab=>exact kC (Kd.R_reads' Ad.out).2.2);(case Ac=>exact(Kd.R_reads' Ad.out).2.1);rintro e w' ⟨rfl,⟨nd,rfl⟩⟩;refine⟨_,rfl,?_⟩))
     go_ret2
     exact⟨_,rq1,kR Ad.out,bw_27⟩
    replace Bk:=Bool.eq_false_iff.mpr Bk
    subst Bk
    rw[ig ff]at H
    simp only[Option.some.injEq,Prod.mk.injEq]at H
    obtain⟨rfl,rfl⟩:=H
    obtain⟨Bw,Bx,By⟩:=Kd.R_slice Ad.out
    subst By
    go_wp2_with (first|((with_reducible refine gtC (f:=52) rfl ?_);refine clz Try.func52 (some 43) #[.slice Bw Ai.length Bx] ?_;(with_reducible refine(fX.calls k2 _ _ Ai false _ ?Ab ?Ac Ci.out).mono ?_);(case Ab=>exact kC (Kd.R_reads' Ad.out).2.2);(case Ac=>exact(Kd.R_reads' Ad.out).2.1);rintro e w' ⟨rfl,⟨nd,rfl⟩⟩;refine⟨_,rfl,?_⟩))
    go_ret2
    exact⟨_,rq1,by first|exact Kd.R_nil _ _ _ _ _|exact Kd.N_nil _ _ _ _ _|exact Kd.V_nil _ _ _ _ _|exact Kd.Q_nil _ _ _ _ _|exact Kd.S_nil _ _ _ _ _,bw_27⟩
   rw[ip Ay]at H
   have Bc:=ode Ay
   clear Ay
   by_cases Bl:0≤Aa
   rotate_left
   ·rw[ig Bl]at H
    exact absurd H (by simp)
   rw[ip Bl]at H
   have Cj:=ode Bl
   clear Bl
   by_cases Bm:Aa<(l0.length:Int)
   rotate_left
   ·rw[ig Bm]at H
    exact absurd H (by simp)
   rw[ip Bm]at H
   have Ck:=ode Bm
   clear Bm
   by_cases Bn:Aa<(l1.length:Int)
   rotate_left
   ·rw[ig Bn]at H
    exact absurd H (by simp)
   rw[ip Bn]at H
   have Cl:=ode Bn
   clear Bn
   by_cases Bo:Ai.length<17592186044416
   rotate_left
   ·rw[ig Bo]at H
    exact absurd H (by simp)
   rw[ip Bo]at H
   have LMc15:=Az.mk Bo
   clear Bo
   obtain⟨Bd,hy⟩:∃y_:List Int,y_=(Ai ++ [wrap64 ((rd l0 Aa)+(rd l1 Aa))]):=⟨_,rfl⟩
   replace H:(fJ.l0 k2 l0 l1 Bd (l0.length:Int) (wrap64 (Aa+1)))=some (r1,r2):=rh
   have Bf:=Az.mk hy
   clear hy
   have H':=Az.mk H
   clear H
   try go_wp2
   replace Ad:=Az.mk (Kd.R_drew Ad.out);replace HB:=Az.mk (bwD HB.out)
   have Au:0≤(Aa:Int):=od
   have Av:Aa<(l0.length:Int):=od
   obtain⟨Bh,Bz,Ae⟩:=Kd.at_int Bp.out Aa Au Av
   have Af:=Ae
   cases Bz
   replace Ae:=kc HB Ae
   replace Au:=ets Au
   replace Av:=ets Av
   have Aw:0≤(Aa:Int):=od
   have Ax:Aa<(l1.length:Int):=od
   obtain⟨Bi,Ca,Ag⟩:=Kd.at_int HR1.out Aa Aw Ax
   have Ah:=Ag
   cases Ca
   replace Ag:=kc HB Ag
   replace Aw:=ets Aw
   replace Ax:=ets Ax
   refine start_ (n:=13) (S:=fun w'=>w'.cell? (Bh.add (Aa).toNat)=some (.int .i64 (rd l0 Aa))∧w'.cell? (Bi.add (Aa).toNat)=some (.int .i64 (rd l1 Aa))) (ds:=[]) #[F,F,F,F,F,F,F,F,F,F,F,F,F] (by kernel_rfl) rfl rfl ⟨(kc HB Af),(kc HB Ah)⟩ (fun hHeld=>?_);refine with_tabW fJ.tab7 fJ.bits7 (fun HT_ HW_=>?_)
   generalize wr.drew=Cs at Ad HB Ae Ag hHeld ⊢
   refine pu (i:=0) (N:=some 29) #[T,F,F,F,F,F,F,F,F,F,F,F,F] (any_of HT_.out (by kernel_rfl)) ?_
   refine pu (i:=1) (N:=some 30) #[T,T,F,F,F,F,F,F,F,F,F,F,F] (any_of HT_.out (by kernel_rfl)) ?_
   refine pu (i:=2) (N:=some 31) #[T,T,T,F,F,F,F,F,F,F,F,F,F] (any_of HT_.out (by kernel_rfl)) ?_
   refine pu (i:=3) (N:=some 32) #[T,T,T,T,F,F,F,F,F,F,F,F,F] (any_of HT_.out (by kernel_rfl)) ?_
   refine pu (i:=5) (N:=some 34) #[T,T,T,T,F,T,F,F,F,F,F,F,F] (any_of HT_.out (by kernel_rfl)) ?_
   refine pu (i:=6) (N:=some 35) #[T,T,T,T,F,T,T,F,F,F,F,F,F] (any_of HT_.out (by kernel_rfl)) ?_
   refine pu (i:=7) (N:=some 36) #[T,T,T,T,F,T,T,T,F,F,F,F,F] (any_of HT_.out (by kernel_rfl)) ?_
   refine take_ (i:=4) (N:=some 33) (v:=?_) (a':=?_) #[T,T,T,T,T,T,T,T,F,F,F,F,F] rfl rfl (take_ofW HT_.out HW_.out (by kernel_rfl)) (fun _ _ _ h=>h) (Or.inl ⟨by rfl,?_⟩) hHeld ?_ ?_
   rotate_left
   ·rintro w' ⟨s0,s1⟩
    go_simp
    with_reducible rfl
   rotate_left
   ·exact acq
   refine take_ (i:=8) (N:=some 37) (v:=?_) (a':=?_) #[T,T,T,T,T,T,T,T,T,F,F,F,F] rfl rfl (take_ofW HT_.out HW_.out (by kernel_rfl)) (fun _ _ _ h=>h) (Or.inl ⟨by rfl,?_⟩) hHeld ?_ ?_
   rotate_left
   ·rintro w' ⟨s0,s1⟩
    go_simp
    with_reducible rfl
   rotate_left
   ·exact acq
   refine pu (i:=9) (N:=some 38) #[T,T,T,T,T,T,T,T,T,T,F,F,F] (any_of HT_.out (by kernel_rfl)) ?_
   refine one_ (i:=10) (N:=some 39) #[T,T,T,T,T,T,T,T,T,T,T,F,F] rfl rfl (one_of HT_.out (by kernel_rfl)) (by decide) (fun K hK=>?_)
   refine value_ (w1:=?_) (v:=?_) (by rfl) rfl ?_ ?_
   rotate_left 2
   ·go_simp
    constructor
    ·rfl
    rfl
   refine hK.out _ _ ⟨(World.cell?_alloc_lt _ _ _ (World.block_lt_of_cell? _ _ ((kc HB Af)))).trans ((kc HB Af)),(World.cell?_alloc_lt _ _ _ (World.block_lt_of_cell? _ _ ((kc HB Ah)))).trans ((kc HB Ah))⟩ (fun hHeld=>?_)
   clear hK K
   refine norm_ (a':=?_) ?_ ?_
   rotate_left
   ·show Act.put _ (some 39) _=_
    exact acq
   refine one_ (i:=11) (N:=some 40) #[T,T,T,T,T,T,T,T,T,T,T,T,F] rfl rfl (one_of HT_.out (by kernel_rfl)) (by decide) (fun K hK=>?_)
   refine Kd.R_append_step (Kd.int .i64) (w0:=w) w.heap.size (by rfl) (.tmp 29) (.tmp 39) 25 3 (.int .i64 0) 8 rfl Try.underlying25 info3 rfl (by decide) (by omega) u6 Ai (wrap64 ((rd l0 Aa)+(rd l1 Aa))) [.int .i64 (wrap64 ((rd l0 Aa)+(rd l1 Aa)))] (fun _=>True) (fun _=>False) rfl rfl ?aP (fun _ hk=>hk.elim) ?aF ?aO ?aB ?aS ?aL ?_
   (case aP=>exact rfl)
   (case aB=>exact bw_27)
   (case aF=>exact(fun _ _=>trivial))
   (case aO=>exact(kR Ad.out))
   (case aS=>exact(bwZ bw_27))
   (case aL=>have:=LMc15.out;omega)
   intro Cq Ct ho hb hg hat
   rw[←Bf.out]at ho
   have n0_:=Az.mk (hb)
   have n1_:=Az.mk (ho)
   clear HB
   clear Ad
   have HB:=n0_
   have Bj:=n1_
   clear n0_ n1_
   clear ho hb hg hat
   refine hK.out _ _ ⟨(kc HB Af),(kc HB Ah)⟩ (fun hHeld=>?_)
   clear hK K
   refine norm_ (a':=?_) ?_ ?_
   rotate_left
   ·show Act.put _ (some 40) _=_
    exact acq
   refine pu (i:=12) (N:=some 6) #[T,T,T,T,T,T,T,T,T,T,T,T,T] (any_of HT_.out (by kernel_rfl)) ?_
   refine done_ (done_of HT_.out (by kernel_rfl)) ?_
   try go_wp2
   go_roundg k2
   case measure=>have:=Ch.out;have:=HK2.out;omega
   case rel=>exact⟨(Bd),(wrap64 (Aa+1)),rq2,H',⟨by have:=Ch.out;have:=HK2.out;omega⟩,⟨kR Bj.out⟩,⟨bw_27⟩⟩
-- NOT PRINTED: function 56 (impl_joiner_count)
def mC.f (a0:Int) (a1:Int):Option (Int):=if a1=0 then(none) else(if(Int.tmod a0 a1)<0 then(some (wrap64 ((Int.tmod a0 a1)+a1))) else(some (Int.tmod a0 a1)))
theorem mC.calls (a0:Int) (a1:Int) (r:Int) (w:World) (h:mC.f a0 a1=some r):
  Calls Try.prog 81 #[.int .i64 a0, .int .i64 a1] w fun e w'=>e= .returned (.int .i64 r)∧Drawn0 w w':=by
 have H:(if a1=0 then(none) else(if(Int.tmod a0 a1)<0 then(some (wrap64 ((Int.tmod a0 a1)+a1))) else(some (Int.tmod a0 a1))))=some r:=h
 clear h
 by_cases c3:a1=0
 ·rw[ip c3]at H
  exact absurd H (by simp)
 rw[ig c3]at H
 have Ab:=beq_eq_false_iff_ne.mpr c3
 have Ac:=bne_iff_ne.mpr c3
 by_cases c4:(Int.tmod a0 a1)<0
 ·rw[ip c4]at H
  have Aa:=ode c4
  clear c4
  obtain rfl:=Option.some.inj H
  go_enter Try.func81,Try.ntmps81
  go_wp2
  go_ret
  exact⟨rq2,kd⟩
 rw[ig c4]at H
 have Aa:=decide_eq_false c4
 clear c4
 obtain rfl:=Option.some.inj H
 go_enter Try.func81,Try.ntmps81
 go_wp2
 go_ret
 exact⟨rq2,kd⟩
end
theorem z28_0 {p:Prop} (h:p:=by repeat(first|(with_reducible first|exact HB4.out|apply bwA|apply pbN|apply bwD)|exact HB4.out)):p:=h
theorem bw_28 {n:Nat}{v v':World} (h:Below n v v':=by repeat(first|(with_reducible first|exact HB.out|apply bwA|apply pbN|apply bwD|refine bwS ?_ GE537.out)|exact HB.out)):Below n v v':=h
theorem ln_28 {P:Prop} (h:P:=by(try simp only[List.map_toArray,List.map_cons,List.map_nil]);first|done|rfl|(simp only[List.length_drop,List.length_take];rfl)):P:=h
def jU.f (a0_0:Int) (a0_1:Int) (a0_2:Int):Option (Bool):=(fV.f a0_0 0 20).bind fun t538=>(if t538=true then((fV.f a0_1 0 20).bind fun t539=>(if t539=true then((fV.f a0_2 0 20).bind fun t540=>(if t540=true then(if a0_0=0 then(some true) else(some (a0_1== 0))) else(some false))) else(some false))) else(some false))
theorem jU.calls (Aa:Int) (Ac:Int) (Ad:Int) (r:Bool) (w:World) (h:jU.f Aa Ac Ad=some r):
  Calls Try.prog 82 #[.agg #[.int .i64 Aa, .int .i64 Ac, .int .i64 Ad]] w fun e w'=>e= .returned (.bool r)∧Below w.heap.size w w':=by
 have hu42:=Try.underlying42
 have HB:=Az.mk (Below.refl w.heap.size w)
 have H:((fV.f Aa 0 20).bind fun Ag=>(if Ag=true then((fV.f Ac 0 20).bind fun Ah=>(if Ah=true then((fV.f Ad 0 20).bind fun Ai=>(if Ai=true then(if Aa=0 then(some true) else(some (Ac== 0))) else(some false))) else(some false))) else(some false)))=some r:=h
 clear h
 replace H:=bez H
 obtain⟨Ag,A2,H⟩:=H
 try dsimp only at H
 by_cases c3:Ag=true
 rotate_left
 ·replace c3:=Bool.eq_false_iff.mpr c3
  subst c3
  rw[ig ff]at H
  obtain rfl:=Option.some.inj H
  go_enter Try.func82,Try.ntmps82
  go_wp2_with (first|((with_reducible refine gtD (N:=1) rfl ?_);refine bx (N:=1) (cs:= #[.int .i64 Aa, .int .i64 Ac, .int .i64 Ad]) (t:=42) ?_;intro Ae hg Bv hbox hb;have Ab:=Az.mk (hbox);have Af:=gwz hg bw_28;have GE537:=gwz hg bw_28;replace HB:=Az.mk (bwT bw_28 hb);clear hb hbox hg;obtain⟨Aj,Ak,Al,Am,Ao,Ap⟩:=bq3 Ab)|((with_reducible refine gtC (f:=47) rfl ?_);refine clz Try.func47 (some 5) #[.int .i64 Aa, .int .i64 0, .int .i64 20] ?_;(with_reducible refine(fV.calls Aa 0 20 false _ A2.out).mono ?_);rintro e w' ⟨rfl,⟨nd,rfl⟩⟩;refine⟨_,rfl,?_⟩))
  go_ret
  exact⟨rq1,bw_28⟩
 subst c3
 rw[ip rfl]at H
 replace H:=bez H
 obtain⟨Ah,A4,H⟩:=H
 try dsimp only at H
 by_cases c5:Ah=true
 rotate_left
 ·replace c5:=Bool.eq_false_iff.mpr c5
  subst c5
  rw[ig ff]at H
  obtain rfl:=Option.some.inj H
  go_enter Try.func82,Try.ntmps82
  go_wp2_with (first|((with_reducible refine gtD (N:=1) rfl ?_);refine bx (N:=1) (cs:= #[.int .i64 Aa, .int .i64 Ac, .int .i64 Ad]) (t:=42) ?_;intro Ae hg Bw hbox hb;have Ab:=Az.mk (hbox);have Af:=gwz hg bw_28;have GE537:=gwz hg bw_28;replace HB:=Az.mk (bwT bw_28 hb);clear hb hbox hg;obtain⟨Aq,As,Au,Av,Aw,Ax⟩:=bq3 Ab)|((with_reducible refine gtC (f:=47) rfl ?_);refine clz Try.func47 (some 5) #[.int .i64 Aa, .int .i64 0, .int .i64 20] ?_;(with_reducible refine(fV.calls Aa 0 20 true _ A2.out).mono ?_);rintro e w' ⟨rfl,⟨nd,rfl⟩⟩;refine⟨_,rfl,?_⟩)|(go_at_call 47;(with_reducible refine(fV.calls Ac 0 20 false _ A4.out).mono ?_);rintro e w' ⟨rfl,⟨nd,rfl⟩⟩))
  go_ret
  exact⟨rq1,bw_28⟩
 subst c5
 rw[ip rfl]at H
 replace H:=bez H
 obtain⟨Ai,A6,H⟩:=H
 try dsimp only at H
 by_cases c7:Ai=true
 rotate_left
 ·replace c7:=Bool.eq_false_iff.mpr c7
  subst c7
  rw[ig ff]at H
  obtain rfl:=Option.some.inj H
  go_enter Try.func82,Try.ntmps82
  go_wp2_with (first|((with_reducible refine gtD (N:=1) rfl ?_);refine bx (N:=1) (cs:= #[.int .i64 Aa, .int .i64 Ac, .int .i64 Ad]) (t:=42) ?_;intro Ae hg Bx hbox hb;have Ab:=Az.mk (hbox);have Af:=gwz hg bw_28;have GE537:=gwz hg bw_28;replace HB:=Az.mk (bwT bw_28 hb);clear hb hbox hg;obtain⟨Ay,Ba,Bb,Bc,Bd,Bf⟩:=bq3 Ab)|((with_reducible refine gtC (f:=47) rfl ?_);refine clz Try.func47 (some 5) #[.int .i64 Aa, .int .i64 0, .int .i64 20] ?_;(with_reducible refine(fV.calls Aa 0 20 true _ A2.out).mono ?_);rintro e w' ⟨rfl,⟨nd,rfl⟩⟩;refine⟨_,rfl,?_⟩)|(go_at_call 47;(with_reducible refine(fV.calls Ac 0 20 true _ A4.out).mono ?_);rintro e w' ⟨rfl,⟨nd,rfl⟩⟩)|(go_at_call 47;(with_reducible refine(fV.calls Ad 0 20 false _ A6.out).mono ?_);rintro e w' ⟨rfl,⟨nd,rfl⟩⟩))
  go_ret
  exact⟨rq1,bw_28⟩
 subst c7
 rw[ip rfl]at H
 by_cases c8:Aa=0
 rotate_left
 ·rw[ig c8]at H
  have Bt:=beq_eq_false_iff_ne.mpr c8
  have Bu:=bne_iff_ne.mpr c8
  obtain rfl:=Option.some.inj H
  go_enter Try.func82,Try.ntmps82
  go_wp2_with (first|((with_reducible refine gtD (N:=1) rfl ?_);refine bx (N:=1) (cs:= #[.int .i64 Aa, .int .i64 Ac, .int .i64 Ad]) (t:=42) ?_;intro Ae hg By hbox hb;have Ab:=Az.mk (hbox);have Af:=gwz hg bw_28;have GE537:=gwz hg bw_28;replace HB:=Az.mk (bwT bw_28 hb);clear hb hbox hg;obtain⟨Bh,Bi,Bj,Bk,Bl,Bm⟩:=bq3 Ab)|((with_reducible refine gtC (f:=47) rfl ?_);refine clz Try.func47 (some 5) #[.int .i64 Aa, .int .i64 0, .int .i64 20] ?_;(with_reducible refine(fV.calls Aa 0 20 true _ A2.out).mono ?_);rintro e w' ⟨rfl,⟨nd,rfl⟩⟩;refine⟨_,rfl,?_⟩)|(go_at_call 47;(with_reducible refine(fV.calls Ac 0 20 true _ A4.out).mono ?_);rintro e w' ⟨rfl,⟨nd,rfl⟩⟩)|(go_at_call 47;(with_reducible refine(fV.calls Ad 0 20 true _ A6.out).mono ?_);rintro e w' ⟨rfl,⟨nd,rfl⟩⟩))
  go_ret
  exact⟨rq1,bw_28⟩
 rw[ip c8]at H
 have Bt:=beq_iff_eq.mpr c8
 have Bu:=bne_eq_false_iff_eq.mpr c8
 clear c8
 obtain rfl:=Option.some.inj H
 go_enter Try.func82,Try.ntmps82
 go_wp2_with (first|((with_reducible refine gtD (N:=1) rfl ?_);refine bx (N:=1) (cs:= #[.int .i64 Aa, .int .i64 Ac, .int .i64 Ad]) (t:=42) ?_;intro Ae hg w9 hbox hb;have Ab:=Az.mk (hbox);have Af:=gwz hg bw_28;have GE537:=gwz hg bw_28;replace HB:=Az.mk (bwT bw_28 hb);clear hb hbox hg;obtain⟨Bn,Bo,Bp,Bq,Br,Bs⟩:=bq3 Ab)|((with_reducible refine gtC (f:=47) rfl ?_);refine clz Try.func47 (some 5) #[.int .i64 Aa, .int .i64 0, .int .i64 20] ?_;(with_reducible refine(fV.calls Aa 0 20 true _ A2.out).mono ?_);rintro e w' ⟨rfl,⟨nd,rfl⟩⟩;refine⟨_,rfl,?_⟩)|(go_at_call 47;(with_reducible refine(fV.calls Ac 0 20 true _ A4.out).mono ?_);rintro e w' ⟨rfl,⟨nd,rfl⟩⟩)|(go_at_call 47;(with_reducible refine(fV.calls Ad 0 20 true _ A6.out).mono ?_);rintro e w' ⟨rfl,⟨nd,rfl⟩⟩))
 go_ret
 exact⟨rq1,bw_28⟩
def jH.f (a0:Int) (a1:Int) (a2:Bool):Option (Int × Int × Int × Bool):=if a2=true then((mC.f (wrap64 ((wrap64 (2 - a0)) - a1)) 2).bind fun m=>(if m=0 then((jU.f (wrap64 (Int.tdiv (wrap64 ((wrap64 (2 - a0)) - a1)) 2)) 0 a1).bind fun b=>(if b=true then(some (wrap64 (Int.tdiv (wrap64 ((wrap64 (2 - a0)) - a1)) 2),0,a1,true)) else(some (0,0,0,false)))) else(some (0,0,0,false))))else none
theorem wp_at_ {P:Program}{c:Code}{Q:Exit→Act→World→Prop}{f:Act}{W:World} (S:World→Prop) (hs:S W) (h:∀w',S w'→Code.wp P c Q f w'):Code.wp P c Q f W:=h W hs
theorem jH.calls (a0:Int) (a1:Int) (a2:Bool) (r1:Int) (r2:Int) (r3:Int) (r4:Bool) (w:World) (h:jH.f a0 a1 a2=some (r1,r2,r3,r4)):
  Calls Try.prog 58 #[.int .i64 a0, .int .i64 a1, .bool a2] w fun e w'=>e= .returned (.tuple #[.agg #[.int .i64 r1, .int .i64 r2, .int .i64 r3], .bool r4])∧Below w.heap.size w w':=by
 have hu25:=Try.underlying42
 have HB:=Az.mk (Below.refl w.heap.size w)
 unfold jH.f at h
 by_cases c4:a2=true
 rotate_left
 ·rw[ig c4]at h
  exact absurd h (by simp)
 subst c4
 rw[ip rfl]at h
 obtain⟨m,T1,h⟩:=be.mp h
 obtain⟨R,hR⟩:∃R:Int,wrap64 ((wrap64 (2 - a0)) - a1)=R:=⟨_,rfl⟩
 rw[hR]at T1 h
 have T1:=Az.mk T1
 obtain⟨D,hD⟩:∃D:Int,wrap64 (Int.tdiv R 2)=D:=⟨_,rfl⟩
 rw[hD]at h
 go_enter Try.func58,Try.ntmps58
 go_upto_region 3 with (first|((with_reducible refine gtD (N:=6) rfl ?_);refine bx (N:=6) (cs:= #[.int .i64 0, .int .i64 0, .int .i64 0]) (t:=42) ?_;intro g1 hg w1 hbox hb;have Ae:=Az.mk hbox;have Ac:=Az.mk (Nat.le_of_eq hg.symm:w.heap.size≤g1);have HB1:=Az.mk hb;clear hb hbox hg)|((with_reducible refine gtD (N:=9) rfl ?_);refine bx (N:=9) (cs:= #[.int .i64 0, .int .i64 0, .int .i64 0]) (t:=42) ?_;intro g2 hg w2 hbox hb;have NB12:=Az.mk ((by rw[hg];exact Nat.ne_of_lt (blk_lt (g:=g1) (o:= .cells #[.int .i64 0, .int .i64 0, .int .i64 0] 42 (0,0)) (bk1 Ae))):g1≠g2);have Ad:=Az.mk ((by rw[hg];exact bwZ (by repeat(first|(with_reducible first|exact HB1.out|apply bwA|apply pbN|apply bwD)|exact HB1.out))):w.heap.size≤g2);have Ai:=Az.mk (bkB (g:=g1) (o:= .cells #[.int .i64 0, .int .i64 0, .int .i64 0] 42 (0,0)) (bk1 Ae) hb);have CK2:=Az.mk hbox;have HB2:=Az.mk (bwT (by repeat(first|(with_reducible first|exact HB1.out|apply bwA|apply pbN|apply bwD)|exact HB1.out)) hb);clear hb hbox hg;have hnb:=NB12.out;have hnc:=NB12.out.symm;have hcza0:=(bkC CK2.out 0).trans rfl;have hcza1:=(bkC CK2.out 1).trans rfl;have hcza2:=(bkC CK2.out 2).trans rfl;have hfza0:=bkF CK2.out 0;have hfza1:=bkF CK2.out 1;have hfza2:=bkF CK2.out 2))
 try rw[hR]
 refine wp_at_ (fun w'=>w'.heap[g1]?= some (.cells #[.int .i64 0, .int .i64 0, .int .i64 0] 42 (0,0))∧w'.heap[g2]?= some (.cells #[.int .i64 0, .int .i64 R, .int .i64 a1] 42 (0,0))∧Below w.heap.size w w') ⟨bkv,(by(with_reducible repeat first|apply bkN|apply bkD|apply bkA);refine bkp (cs:= #[.int .i64 0, .int .i64 R, .int .i64 0]) ?_ 2 _ rfl;(with_reducible repeat first|apply bkN|apply bkD|apply bkA);refine bkp (cs:= #[.int .i64 0, .int .i64 0, .int .i64 0]) ?_ 1 _ rfl;(with_reducible repeat first|apply bkN|apply bkD|apply bkA);refine bkp (cs:= #[.int .i64 0, .int .i64 0, .int .i64 0]) ?_ 0 _ rfl;(with_reducible repeat first|apply bkN|apply bkD|apply bkA);exact CK2.out),(by repeat(first|(with_reducible first|exact HB2.out|apply bwA|apply pbN|apply bwD|refine bwS ?_ Ac.out|refine bwS ?_ Ad.out)|exact HB2.out))⟩ ?_
 rintro w3 ⟨Af,ck3,hb3⟩
 have Ab:=Az.mk Af;have CK3:=Az.mk ck3;have HB3:=Az.mk hb3
 clear Af ck3 hb3 HB2 Ai CK2 hcza0 hcza1 hcza2 hfza0 hfza1 hfza2 Ae HB1
 by_cases c6:m=0
 rotate_left
 ·rw[ig c6]at h
  have h:=Option.some.inj h
  simp only[Prod.mk.injEq]at h
  obtain⟨rfl,rfl,rfl,rfl⟩:=h
  have Aj:=beq_eq_false_iff_ne.mpr c6
  have Ak:=bne_iff_ne.mpr c6
  go_wp2_with (first|(go_at_call 81;refine(mC.calls R 2 m _ T1.out).mono ?_;rintro e w' ⟨rfl,⟨nd,rfl⟩⟩;clear T1;have hczb0:=(bkC Ab.out 0).trans rfl;have hczb1:=(bkC Ab.out 1).trans rfl;have hczb2:=(bkC Ab.out 2).trans rfl;have hfzb0:=bkF Ab.out 0;have hfzb1:=bkF Ab.out 1;have hfzb2:=bkF Ab.out 2))
  refine bodyPost_ret (results_ct rfl _ _ g1 42 #[.int .i64 0, .int .i64 0, .int .i64 0] (0,0) _ rfl bkv Try.underlying42 rfl (by kernel_rfl)) rfl ?_
  exact⟨rfl,(by repeat(first|(with_reducible first|exact HB3.out|apply bwA|apply pbN|apply bwD|refine bwS ?_ Ac.out|refine bwS ?_ Ad.out)|exact HB3.out))⟩
 rw[ip c6]at h
 subst c6
 obtain⟨b,T2,h⟩:=be.mp h
 have T2:=Az.mk T2
 have HE:=Az.mk h
 clear h
 go_upto_region 7 with (first|(go_at_call 81;refine(mC.calls R 2 0 _ T1.out).mono ?_;rintro e w' ⟨rfl,⟨nd,rfl⟩⟩;clear T1;have hczb0:=(bkC CK3.out 0).trans rfl;have hczb1:=(bkC CK3.out 1).trans rfl;have hczb2:=(bkC CK3.out 2).trans rfl;have hfzb0:=bkF CK3.out 0;have hfzb1:=bkF CK3.out 1;have hfzb2:=bkF CK3.out 2))
 try rw[hD]
 refine wp_at_ (fun w'=>w'.heap[g1]?= some (.cells #[.int .i64 0, .int .i64 0, .int .i64 0] 42 (0,0))∧w'.heap[g2]?= some (.cells #[.int .i64 D, .int .i64 0, .int .i64 a1] 42 (0,0))∧Below w.heap.size w w') ⟨bkv,(by(with_reducible repeat first|apply bkN|apply bkD|apply bkA);refine bkp (cs:= #[.int .i64 D, .int .i64 0, .int .i64 a1]) ?_ 2 _ rfl;(with_reducible repeat first|apply bkN|apply bkD|apply bkA);refine bkp (cs:= #[.int .i64 D, .int .i64 R, .int .i64 a1]) ?_ 1 _ rfl;(with_reducible repeat first|apply bkN|apply bkD|apply bkA);refine bkp (cs:= #[.int .i64 0, .int .i64 R, .int .i64 a1]) ?_ 0 _ rfl;(with_reducible repeat first|apply bkN|apply bkD|apply bkA);exact CK3.out),(by repeat(first|(with_reducible first|exact HB3.out|apply bwA|apply pbN|apply bwD|refine bwS ?_ Ac.out|refine bwS ?_ Ad.out)|exact HB3.out))⟩ ?_
 rintro w4 ⟨Ag,ck4,hb4⟩
 have Ah:=Az.mk Ag;have CK4:=Az.mk ck4;have HB4:=Az.mk hb4
 clear Ag ck4 hb4 HB3 Ab CK3 hczb0 hczb1 hczb2 hfzb0 hfzb1 hfzb2
 have hczc0:=(bkC CK4.out 0).trans rfl;have hczc1:=(bkC CK4.out 1).trans rfl;have hczc2:=(bkC CK4.out 2).trans rfl;have hfzc0:=bkF CK4.out 0;have hfzc1:=bkF CK4.out 1;have hfzc2:=bkF CK4.out 2
 have h:=HE.out
 clear HE
 cases b with
 |true=>
  have h:=Option.some.inj ((ip rfl).symm.trans h)
  simp only[Prod.mk.injEq]at h
  obtain⟨rfl,rfl,rfl,rfl⟩:=h
  go_wp2_with (first|(go_at_call 82;refine(jU.calls D 0 a1 true _ T2.out).mono ?_;rintro e w5 ⟨rfl,hb⟩;have Aa:=Az.mk (bkB (g:=g1) (o:= .cells #[.int .i64 0, .int .i64 0, .int .i64 0] 42 (0,0)) (bk1 Ah) hb);have CK5:=Az.mk (bkB (g:=g2) (o:= .cells #[.int .i64 D, .int .i64 0, .int .i64 a1] 42 (0,0)) (by(with_reducible repeat first|apply bkN|apply bkD|apply bkA);exact CK4.out) hb);have HB5:=Az.mk (bwT z28_0 hb);clear hb T2;have hczd0:=(bkC Aa.out 0).trans rfl;have hczd1:=(bkC Aa.out 1).trans rfl;have hczd2:=(bkC Aa.out 2).trans rfl;have hfzd0:=bkF Aa.out 0;have hfzd1:=bkF Aa.out 1;have hfzd2:=bkF Aa.out 2;have hcze0:=(bkC CK5.out 0).trans rfl;have hcze1:=(bkC CK5.out 1).trans rfl;have hcze2:=(bkC CK5.out 2).trans rfl;have hfze0:=bkF CK5.out 0;have hfze1:=bkF CK5.out 1;have hfze2:=bkF CK5.out 2))
  refine bodyPost_ret (results_ct rfl _ _ g1 42 #[.int .i64 D, .int .i64 0, .int .i64 a1] (0,0) _ rfl bkv Try.underlying42 rfl (by kernel_rfl)) rfl ?_
  exact⟨rfl,(by repeat(first|(with_reducible first|exact HB5.out|apply bwA|apply pbN|apply bwD|refine bwS ?_ Ac.out|refine bwS ?_ Ad.out)|exact HB5.out))⟩
 |false=>
  have h:=Option.some.inj ((ig (by decide)).symm.trans h)
  simp only[Prod.mk.injEq]at h
  obtain⟨rfl,rfl,rfl,rfl⟩:=h
  go_wp2_with (first|(go_at_call 82;refine(jU.calls D 0 a1 false _ T2.out).mono ?_;rintro e w5 ⟨rfl,hb⟩;have Aa:=Az.mk (bkB (g:=g1) (o:= .cells #[.int .i64 0, .int .i64 0, .int .i64 0] 42 (0,0)) (bk1 Ah) hb);have CK5:=Az.mk (bkB (g:=g2) (o:= .cells #[.int .i64 D, .int .i64 0, .int .i64 a1] 42 (0,0)) (by(with_reducible repeat first|apply bkN|apply bkD|apply bkA);exact CK4.out) hb);have HB5:=Az.mk (bwT z28_0 hb);clear hb T2;have hczd0:=(bkC Aa.out 0).trans rfl;have hczd1:=(bkC Aa.out 1).trans rfl;have hczd2:=(bkC Aa.out 2).trans rfl;have hfzd0:=bkF Aa.out 0;have hfzd1:=bkF Aa.out 1;have hfzd2:=bkF Aa.out 2;have hcze0:=(bkC CK5.out 0).trans rfl;have hcze1:=(bkC CK5.out 1).trans rfl;have hcze2:=(bkC CK5.out 2).trans rfl;have hfze0:=bkF CK5.out 0;have hfze1:=bkF CK5.out 1;have hfze2:=bkF CK5.out 2))
  refine bodyPost_ret (results_ct rfl _ _ g1 42 #[.int .i64 0, .int .i64 0, .int .i64 0] (0,0) _ rfl bkv Try.underlying42 rfl (by kernel_rfl)) rfl ?_
  exact⟨rfl,(by repeat(first|(with_reducible first|exact HB5.out|apply bwA|apply pbN|apply bwD|refine bwS ?_ Ac.out|refine bwS ?_ Ad.out)|exact HB5.out))⟩
def joiner_count.l0:Nat→List Int→Int→Int→Option Int
 |0,_,_,_=>none
 |k+1,xs,n,i=>if i<(xs.length:Int) then(if 0≤i then(if i=rd xs i then joiner_count.l0 k xs (wrap64 (n+1)) (wrap64 (i+1))else joiner_count.l0 k xs n (wrap64 (i+1)))else none)else some n
theorem joiner_count.calls (k:Nat) (p:Addr) (A:Option Addr) (c:Nat) (xs:List Int) (r:Int) (w:World) (hp:w.cell? p=some (.slice A xs.length c)) (hr:Kd.C (Kd.int .i64) w A xs.length xs) (h:joiner_count.l0 k xs 0 0=some r):
  Calls Try.prog 56 #[.pointer (some p)] w fun e w'=>e= .returned (.int .i64 r)∧Drawn0 w w':=by
 have HR:=Az.mk hr
 have H':=Az.mk h
 clear hr h
 go_enter Try.func56,Try.ntmps56
 go_wp2
 go_loopg [3,11] k (fun kq v3 Aa w'=>∃n_1 i_1:Int,v3= .int .i64 n_1∧Aa= .int .i64 i_1∧Az (joiner_count.l0 kq xs n_1 i_1=some r)∧Az (kq≤k)∧Drawn0 w w')
 case atStart=>exact⟨0,0,rfl,rfl,H',⟨Nat.le_refl _⟩,kd⟩
 clear H'
 obtain⟨n_1,i_1,rfl,rfl,HA,HK1,⟨m1,rfl⟩⟩:=hrel
 cases gk with
 |zero=>exact absurd HA.out (by simp[joiner_count.l0])
 |succ k1=>
  have H:=HA.out
  clear HA
  simp only[joiner_count.l0]at H
  by_cases b2:i_1<(xs.length:Int)
  rotate_left
  ·rw[ig b2]at H
   have b2b:decide (i_1<(xs.length:Int))=false:=decide_eq_false b2
   clear b2
   obtain rfl:=Option.some.inj H
   go_wp2
   go_ret
   exact⟨rfl,kd⟩
  rw[ip b2]at H
  by_cases b1:0≤i_1
  rotate_left
  ·rw[ig b1]at H
   exact absurd H (by simp)
  rw[ip b1]at H
  obtain⟨ad,rfl,hx⟩:=Kd.at_int HR.out i_1 b1 b2
  have b2b:=ode b2
  replace b1:=ets b1
  replace b2:=ets b2
  obtain⟨X,hX⟩:∃j_:Int,rd xs i_1=j_:=⟨_,rfl⟩
  rw[hX]at H hx
  clear hX
  by_cases b3:i_1=X
  ·rw[ip b3]at H
   have b3b:(i_1== X)=true:=beq_iff_eq.mpr b3
   clear b3
   have H':=Az.mk H
   clear H
   go_wp2
   go_roundg k1
   case measure=>have:=HK1.out;omega
   case rel=>exact⟨_,_,rfl,rfl,H',⟨by have:=HK1.out;omega⟩,kd⟩
  rw[ig b3]at H
  have b3b:(i_1== X)=false:=beq_eq_false_iff_ne.mpr b3
  clear b3
  have H':=Az.mk H
  clear H
  go_wp2
  go_roundg k1
  case measure=>have:=HK1.out;omega
  case rel=>exact⟨_,_,rfl,rfl,H',⟨by have:=HK1.out;omega⟩,kd⟩
mutual
def fU.l0:Nat→List (List Int)→List Int→Int→Option (List Int)
 |0,_,_,_=>none
 |k+1,t,xs,i=>if i<(t.length:Int) then(if 0≤i then(fU.l1 k t xs i 0)else none) else(some xs)
def fU.l1:Nat→List (List Int)→List Int→Int→Int→Option (List Int)
 |0,_,_,_,_=>none
 |k+1,t,xs,i,j=>if j<((rd_L1 t i).length:Int) then(if 0≤j then((gX.f k t (wrap64 (-(rd (rd_L1 t i) j)))).bind fun s=>((joiner_join.f k xs i s.1).bind fun ys=>(fU.l1 k t ys i (wrap64 (j+1)))))else none) else(fU.l0 k t xs (wrap64 (i+1)))
end
def fU.g (k:Nat) (t:List (List Int)) (n:Int):Option (Int × Int × Int × Int × Bool):=(jH.f (wrap64 ((wrap64 (n - (wrap64 (Int.tdiv (wrap64 (3*(t.length:Int))) 2))))+(t.length:Int))) 0 true).bind fun s=>(if s.2.2.2=true then some (s.1,s.2.1,s.2.2.1,n,true)else some (0,0,0,0,false))
def fU.h (k:Nat) (t:List (List Int)) (ys:List Int):Option (Int × Int × Int × Int × Bool):=(joiner_count.l0 k ys 0 0).bind fun c=>(if c=1 then((gB.f k t).bind fun vs=>((joiner_count.l0 k vs 0 0).bind fun n=>fU.g k t n))else some (0,0,0,0,false))
def fU.f (k:Nat) (t:List (List Int)):Option (Int × Int × Int × Int × Bool):=(fB.f k t).bind fun b=>(if b=true then((gT.l0 k (t.length:Int) [] 0).bind fun xs=>((fU.l0 k t xs 0).bind fun ys=>fU.h k t ys))else some (0,0,0,0,false))
theorem fU.calls (k:Nat) (A0:Option Addr) (c0:Nat) (l0:List (List Int)) (r1:Int) (r2:Int) (r3:Int) (r4:Int) (r5:Bool) (w:World) (Av:Kd.C (Kd.slice 3 (Kd.int .i64)) w A0 l0.length l0) (Aw:l0.length≤c0) (h:fU.f k l0=some (r1,r2,r3,r4,r5)):
  Calls Try.prog 17 #[.slice A0 l0.length c0] w fun e w'=>e= .returned (.tuple #[.agg #[.int .i64 r1, .int .i64 r2, .int .i64 r3], .int .i64 r4, .bool r5])∧Below w.heap.size w w':=by
 have hu25:=Try.underlying42
 have Aa:=Az.mk Av
 have Af:=Az.mk Aw
 clear Av Aw
 unfold fU.f at h
 obtain⟨b,T0,h⟩:=be.mp h
 have T0:=Az.mk T0
 have HB:=Az.mk (Below.refl w.heap.size w)
 by_cases p1:b=true
 rotate_left
 ·rw[ig p1]at h
  replace p1:=Bool.eq_false_iff.mpr p1
  subst p1
  have h:=Option.some.inj h
  simp only[Prod.mk.injEq]at h
  obtain⟨rfl,rfl,rfl,rfl,rfl⟩:=h
  go_enter Try.func17,Try.ntmps17
  go_wp2_with (first
   |((with_reducible refine gtD (N:=2) rfl ?_);refine bx (N:=2) (cs:= #[.int .i64 0, .int .i64 0, .int .i64 0]) (t:=42) ?_;intro g1 hg w1 hbox hb;have Ae:=Az.mk hbox;have Ag:=Az.mk (Nat.le_of_eq hg.symm:w.heap.size≤g1);have HB1:=Az.mk hb;clear hb hbox hg)
   |(go_at_call 30;refine(fB.calls k _ c0 l0 false _ (by first|exact Kd.C_drewN (Kd.C_below Aa.out HB1.out) _|exact Kd.C_below Aa.out HB1.out) Af.out T0.out).mono ?_;rintro e w2 ⟨rfl,hb⟩;have Ac:=Az.mk (bkB (by first|exact bkN Ae.out _|exact Ae.out) hb);have HB2:=Az.mk (bwT (by first|exact HB1.out|exact pbN HB1.out _) hb);clear hb T0;have Ak:=(bkC Ac.out 0).trans rfl;have Al:=(bkC Ac.out 1).trans rfl;have Am:=(bkC Ac.out 2).trans rfl;have Ao:=bkF Ac.out 0;have Ap:=bkF Ac.out 1;have Aq:=bkF Ac.out 2))
  refine bodyPost_ret (results_ctt rfl _ _ g1 42 #[.int .i64 0, .int .i64 0, .int .i64 0] (0,0) _ rfl bkv Try.underlying42 rfl (by kernel_rfl)) rfl ?_
  exact⟨rfl,by repeat(first|(with_reducible first|exact HB2.out|apply bwA|apply pbN|apply bwD|refine bwS ?_ Ag.out)|exact HB2.out)⟩
 rw[ip p1]at h
 subst p1
 obtain⟨ns,T1,h⟩:=be.mp h
 obtain⟨fs,T2,h⟩:=be.mp h
 have T1:=Az.mk T1
 have H':=Az.mk T2
 have HE:=Az.mk h
 clear h T2
 go_enter Try.func17,Try.ntmps17
 go_wp2_with (first
  |((with_reducible refine gtD (N:=2) rfl ?_);refine bx (N:=2) (cs:= #[.int .i64 0, .int .i64 0, .int .i64 0]) (t:=42) ?_;intro g1 hg w1 hbox hb;have Ae:=Az.mk hbox;have Ag:=Az.mk (Nat.le_of_eq hg.symm:w.heap.size≤g1);have HB1:=Az.mk hb;clear hb hbox hg)
  |(go_at_call 30;refine(fB.calls k _ c0 l0 true _ (by first|exact Kd.C_drewN (Kd.C_below Aa.out HB1.out) _|exact Kd.C_below Aa.out HB1.out) Af.out T0.out).mono ?_;rintro e w2 ⟨rfl,hb⟩;have Ac:=Az.mk (bkB (by first|exact bkN Ae.out _|exact Ae.out) hb);have HB2:=Az.mk (bwT (by first|exact HB1.out|exact pbN HB1.out _) hb);clear hb T0)
  |(go_at_call 53;refine(gT.calls k _ ns w2 _ (by first|exact Below.refl _ _|exact pbN (Below.refl _ _) _) T1.out).mono ?_;rintro e W1 ⟨p,AJ,cJ,rfl,hj,hb,_⟩;have Ax:=Az.mk hj;have HBW:=Az.mk hb;clear hj hb T1))
 go_loopg [24] k (fun kq Bb w'=>∃(xs_1:List Int) (i_1:Int),Bb= .int .i64 i_1∧Az (fU.l0 kq l0 xs_1 i_1=some fs)∧Az (kq≤k)∧Az (Jn w' w2.heap.size p AJ cJ xs_1)∧Az (Below w2.heap.size w2 w'))
 case atStart=>exact⟨ns,0,rfl,H',⟨Nat.le_refl _⟩,Ax,HBW⟩
 clear H' HB Ax HBW
 obtain⟨xs_1,i_1,rfl,HA,HK1,HJ,HB⟩:=hrel
 cases gk with
 |zero=>exact absurd HA.out (by simp[fU.l0])
 |succ k1=>
  have H:=HA.out
  clear HA
  simp only[fU.l0]at H
  by_cases b2:i_1<(l0.length:Int)
  rotate_left
  ·rw[ig b2]at H
   have b2b:decide (i_1<(l0.length:Int))=false:=decide_eq_false b2
   clear b2
   obtain rfl:=Option.some.inj H
   clear H
   have h:=HE.out
   clear HE HB1 Ae
   unfold fU.h at h
   obtain⟨c,T2,h⟩:=be.mp h
   have T2:=Az.mk T2
   by_cases q1:c=1
   rotate_left
   ·rw[ig q1]at h
    have h:=Option.some.inj h
    simp only[Prod.mk.injEq]at h
    obtain⟨rfl,rfl,rfl,rfl,rfl⟩:=h
    have q1b:(c != 1)=true:=bne_iff_ne.mpr q1
    clear q1
    have BK:=Az.mk (bkB Ac.out HB.out)
    have HBt:=Az.mk (bwT HB2.out HB.out)
    go_wp2_with (first
     |(go_at_call 56;refine(joiner_count.calls k ⟨p,0,none⟩ AJ cJ xs_1 c _ (by first|exact(HJ.out.drewN _).cell|exact HJ.out.cell) (by first|exact(HJ.out.drewN _).C|exact HJ.out.C) T2.out).mono ?_;rintro e w' ⟨rfl,⟨nd1,rfl⟩⟩;clear T2;have Ak:=(bkC BK.out 0).trans rfl;have Al:=(bkC BK.out 1).trans rfl;have Am:=(bkC BK.out 2).trans rfl;have Ao:=bkF BK.out 0;have Ap:=bkF BK.out 1;have Aq:=bkF BK.out 2))
    refine bodyPost_ret (results_ctt rfl _ _ g1 42 #[.int .i64 0, .int .i64 0, .int .i64 0] (0,0) _ rfl (by(with_reducible repeat first|apply bkN|apply bkD|apply bkA);refine bkp (cs:= #[.int .i64 0, .int .i64 0, .int .i64 0]) ?_ 2 _ rfl;(with_reducible repeat first|apply bkN|apply bkD|apply bkA);refine bkp (cs:= #[.int .i64 0, .int .i64 0, .int .i64 0]) ?_ 1 _ rfl;(with_reducible repeat first|apply bkN|apply bkD|apply bkA);refine bkp (cs:= #[.int .i64 0, .int .i64 0, .int .i64 0]) ?_ 0 _ rfl;(with_reducible repeat first|apply bkN|apply bkD|apply bkA);exact BK.out) Try.underlying42 rfl (by kernel_rfl)) rfl ?_
    exact⟨rfl,by repeat(first|(with_reducible first|exact HBt.out|apply bwA|apply pbN|apply bwD|refine bwS ?_ Ag.out)|exact HBt.out)⟩
   rw[ip q1]at h
   subst q1
   obtain⟨vs,T3,h⟩:=be.mp h
   obtain⟨n,T4,h⟩:=be.mp h
   unfold fU.g at h
   obtain⟨⟨s1,s2,s3,s4⟩,T5,h⟩:=be.mp h
   have T3:=Az.mk T3
   have T4:=Az.mk T4
   have T5:=Az.mk T5
   have HBt:=Az.mk (bwT HB2.out HB.out)
   have BK:=Az.mk (bkB Ac.out HB.out)
   cases s4 with
   |true=>
    rw[ip rfl]at h;have h:=Option.some.inj h
    simp only[Prod.mk.injEq]at h
    obtain⟨rfl,rfl,rfl,rfl,rfl⟩:=h
    go_wp2_with (first
     |(go_at_call 56;refine(joiner_count.calls k ⟨p,0,none⟩ AJ cJ xs_1 1 _ (by first|exact(HJ.out.drewN _).cell|exact HJ.out.cell) (by first|exact(HJ.out.drewN _).C|exact HJ.out.C) T2.out).mono ?_;rintro e w' ⟨rfl,⟨nd1,rfl⟩⟩;clear T2)
     |(go_at_call 57;refine(gB.calls k _ c0 l0 vs _ (by first|exact Kd.C_drewN (Kd.C_below Aa.out HBt.out) _|exact Kd.C_drewN (Kd.C_drewN (Kd.C_below Aa.out HBt.out) _) _|exact Kd.C_below Aa.out HBt.out) Af.out T3.out).mono ?_;rintro e W3 ⟨p3,A3,c3,rfl,hj3,hb3⟩;have Ad:=Az.mk hj3;have As:=Az.mk (bkB (by first|exact bkN BK.out _|exact bkN (bkN BK.out _) _|exact BK.out) hb3);have HB3:=Az.mk (bwT (by first|exact HBt.out|exact pbN HBt.out _|exact pbN (pbN HBt.out _) _) hb3);clear hj3 hb3 T3)
     |(go_at_call 56;refine(joiner_count.calls k ⟨p3,0,none⟩ A3 c3 vs n _ (by first|exact(Ad.out.drewN _).cell|exact Ad.out.cell) (by first|exact(Ad.out.drewN _).C|exact Ad.out.C) T4.out).mono ?_;rintro e w' ⟨rfl,⟨nd2,rfl⟩⟩;clear T4)
     |(go_at_call 58;refine(jH.calls _ _ _ s1 s2 s3 true _ T5.out).mono ?_;rintro e w4 ⟨rfl,hb⟩;have Ah:=Az.mk (bkB (g:=g1) (o:= .cells #[.int .i64 0, .int .i64 0, .int .i64 0] 42 (0,0)) (bk1 As) hb);have HB4:=Az.mk (bwT (by repeat(first|(with_reducible first|exact HB3.out|apply bwA|apply pbN|apply bwD)|exact HB3.out)) hb);clear hb T5)
     |((with_reducible refine gtD (N:=13) rfl ?_);refine bx (N:=13) (cs:= #[.int .i64 0, .int .i64 0, .int .i64 0]) (t:=42) ?_;intro g2 hg w5 hbox hb;have NB12:=Az.mk ((by rw[hg];exact Nat.ne_of_lt (blk_lt (g:=g1) (o:= .cells #[.int .i64 0, .int .i64 0, .int .i64 0] 42 (0,0)) (bk1 Ah))):g1≠g2);have Au:=Az.mk ((by rw[hg];exact bwZ z28_0):w.heap.size≤g2);have Ab:=Az.mk (bkB (g:=g1) (o:= .cells #[.int .i64 0, .int .i64 0, .int .i64 0] 42 (0,0)) (bk1 Ah) hb);have CK5:=Az.mk hbox;have HB5:=Az.mk (bwT z28_0 hb);clear hb hbox hg;have hnb:=NB12.out;have hnc:=NB12.out.symm;have hcza0:=(bkC Ab.out 0).trans rfl;have hcza1:=(bkC Ab.out 1).trans rfl;have hcza2:=(bkC Ab.out 2).trans rfl;have hfza0:=bkF Ab.out 0;have hfza1:=bkF Ab.out 1;have hfza2:=bkF Ab.out 2;have hczb0:=(bkC CK5.out 0).trans rfl;have hczb1:=(bkC CK5.out 1).trans rfl;have hczb2:=(bkC CK5.out 2).trans rfl;have hfzb0:=bkF CK5.out 0;have hfzb1:=bkF CK5.out 1;have hfzb2:=bkF CK5.out 2))
    refine bodyPost_ret (results_ctt rfl _ _ g1 42 #[.int .i64 s1, .int .i64 s2, .int .i64 s3] (0,0) _ rfl bkv Try.underlying42 rfl (by kernel_rfl)) rfl ?_
    exact⟨rfl,by repeat(first|(with_reducible first|exact HB5.out|apply bwA|apply pbN|apply bwD|refine bwS ?_ Ag.out|refine bwS ?_ Au.out)|exact HB5.out)⟩
   |false=>
    rw[ig (by simp)]at h;have h:=Option.some.inj h
    simp only[Prod.mk.injEq]at h
    obtain⟨rfl,rfl,rfl,rfl,rfl⟩:=h
    go_wp2_with (first
     |(go_at_call 56;refine(joiner_count.calls k ⟨p,0,none⟩ AJ cJ xs_1 1 _ (by first|exact(HJ.out.drewN _).cell|exact HJ.out.cell) (by first|exact(HJ.out.drewN _).C|exact HJ.out.C) T2.out).mono ?_;rintro e w' ⟨rfl,⟨nd1,rfl⟩⟩;clear T2)
     |(go_at_call 57;refine(gB.calls k _ c0 l0 vs _ (by first|exact Kd.C_drewN (Kd.C_below Aa.out HBt.out) _|exact Kd.C_drewN (Kd.C_drewN (Kd.C_below Aa.out HBt.out) _) _|exact Kd.C_below Aa.out HBt.out) Af.out T3.out).mono ?_;rintro e W3 ⟨p3,A3,c3,rfl,hj3,hb3⟩;have Ad:=Az.mk hj3;have As:=Az.mk (bkB (by first|exact bkN BK.out _|exact bkN (bkN BK.out _) _|exact BK.out) hb3);have HB3:=Az.mk (bwT (by first|exact HBt.out|exact pbN HBt.out _|exact pbN (pbN HBt.out _) _) hb3);clear hj3 hb3 T3)
     |(go_at_call 56;refine(joiner_count.calls k ⟨p3,0,none⟩ A3 c3 vs n _ (by first|exact(Ad.out.drewN _).cell|exact Ad.out.cell) (by first|exact(Ad.out.drewN _).C|exact Ad.out.C) T4.out).mono ?_;rintro e w' ⟨rfl,⟨nd2,rfl⟩⟩;clear T4)
     |(go_at_call 58;refine(jH.calls _ _ _ s1 s2 s3 false _ T5.out).mono ?_;rintro e w4 ⟨rfl,hb⟩;have Ah:=Az.mk (bkB (g:=g1) (o:= .cells #[.int .i64 0, .int .i64 0, .int .i64 0] 42 (0,0)) (bk1 As) hb);have HB4:=Az.mk (bwT (by repeat(first|(with_reducible first|exact HB3.out|apply bwA|apply pbN|apply bwD)|exact HB3.out)) hb);clear hb T5)
     |((with_reducible refine gtD (N:=13) rfl ?_);refine bx (N:=13) (cs:= #[.int .i64 0, .int .i64 0, .int .i64 0]) (t:=42) ?_;intro g2 hg w5 hbox hb;have NB12:=Az.mk ((by rw[hg];exact Nat.ne_of_lt (blk_lt (g:=g1) (o:= .cells #[.int .i64 0, .int .i64 0, .int .i64 0] 42 (0,0)) (bk1 Ah))):g1≠g2);have Au:=Az.mk ((by rw[hg];exact bwZ z28_0):w.heap.size≤g2);have Ab:=Az.mk (bkB (g:=g1) (o:= .cells #[.int .i64 0, .int .i64 0, .int .i64 0] 42 (0,0)) (bk1 Ah) hb);have CK5:=Az.mk hbox;have HB5:=Az.mk (bwT z28_0 hb);clear hb hbox hg;have hnb:=NB12.out;have hnc:=NB12.out.symm;have hcza0:=(bkC Ab.out 0).trans rfl;have hcza1:=(bkC Ab.out 1).trans rfl;have hcza2:=(bkC Ab.out 2).trans rfl;have hfza0:=bkF Ab.out 0;have hfza1:=bkF Ab.out 1;have hfza2:=bkF Ab.out 2;have hczb0:=(bkC CK5.out 0).trans rfl;have hczb1:=(bkC CK5.out 1).trans rfl;have hczb2:=(bkC CK5.out 2).trans rfl;have hfzb0:=bkF CK5.out 0;have hfzb1:=bkF CK5.out 1;have hfzb2:=bkF CK5.out 2))
    refine bodyPost_ret (results_ctt rfl _ _ g1 42 #[.int .i64 0, .int .i64 0, .int .i64 0] (0,0) _ rfl bkv Try.underlying42 rfl (by kernel_rfl)) rfl ?_
    exact⟨rfl,by repeat(first|(with_reducible first|exact HB5.out|apply bwA|apply pbN|apply bwD|refine bwS ?_ Ag.out|refine bwS ?_ Au.out)|exact HB5.out)⟩
  rw[ip b2]at H
  by_cases b1:0≤i_1
  rotate_left
  ·rw[ig b1]at H
   exact absurd H (by simp)
  rw[ip b1]at H
  obtain⟨ad,A1,c1,e1,Ai,Ay,Ba⟩:=at_L1 Aa.out i_1 b1 b2
  subst e1
  replace Ai:=((bwT HB2.out HB.out).cell (World.block_lt_of_cell? w _ Ai)).trans Ai
  have HR1:=Az.mk Ba
  have Bf:=Az.mk Ay
  clear Ba Ay
  have H':=Az.mk H
  clear H
  have b2b:=ode b2
  replace b1:=ets b1
  replace b2:=ets b2
  go_wp2
  go_loopg [31] k1 (fun kq Bc w'=>∃(xs_2:List Int) (j_1:Int),Bc= .int .i64 j_1∧Az (fU.l1 kq l0 xs_2 i_1 j_1=some fs)∧Az (kq≤k1)∧Az (Jn w' w2.heap.size p AJ cJ xs_2)∧Az (Below w2.heap.size w2 w'))
  case atStart=>exact⟨xs_1,0,rfl,H',⟨Nat.le_refl _⟩,HJ,HB⟩
  clear H' HJ HB Ai
  obtain⟨xs_2,j_1,rfl,HA,HK2,HJ,HB⟩:=hrel
  cases gk with
  |zero=>exact absurd HA.out (by simp[fU.l1])
  |succ k2=>
   have H:=HA.out
   clear HA
   simp only[fU.l1]at H
   by_cases d2:j_1<((rd_L1 l0 i_1).length:Int)
   rotate_left
   ·rw[ig d2]at H
    have d2b:decide (j_1<((rd_L1 l0 i_1).length:Int))=false:=decide_eq_false d2
    clear d2
    have H':=Az.mk H
    clear H
    go_wp2
    go_roundg k2
    case measure=>have:=HK1.out;have:=HK2.out;omega
    case rel=>exact⟨xs_2,_,rfl,H',⟨by have:=HK1.out;have:=HK2.out;omega⟩,HJ,HB⟩
   rw[ip d2]at H
   by_cases d1:0≤j_1
   rotate_left
   ·rw[ig d1]at H
    exact absurd H (by simp)
   rw[ip d1]at H
   obtain⟨⟨s1,s2⟩,T1,H⟩:=be.mp H
   obtain⟨ys,T2,H⟩:=be.mp H
   obtain⟨Bh,e2,Aj⟩:=Kd.at_int HR1.out j_1 d1 d2
   subst e2
   replace Aj:=((bwT HB2.out HB.out).cell (World.block_lt_of_cell? w _ Aj)).trans Aj
   obtain⟨X,hX⟩:∃j_:Int,rd (rd_L1 l0 i_1) j_1=j_:=⟨_,rfl⟩
   rw[hX]at T1 Aj
   clear hX
   have T1:=Az.mk T1
   have T2:=Az.mk T2
   have H':=Az.mk H
   clear H
   have d2b:=ode d2
   replace d1:=ets d1
   replace d2:=ets d2
   go_wp2_with (first
    |(go_at_call 54;refine(gX.calls k2 _ c0 l0 _ s1 s2 _ (by first|exact Kd.C_drewN (Kd.C_below Aa.out (bwT HB2.out HB.out)) _|exact Kd.C_below Aa.out (bwT HB2.out HB.out)) Af.out T1.out).mono ?_;rintro e w' ⟨rfl,⟨nd1,rfl⟩⟩;clear T1)
    |(go_at_call 55;refine(joiner_join.calls k2 p AJ cJ xs_2 ys _ _ w2 _ (by first|exact pbN HB.out _|exact HB.out) (by first|exact HJ.out.drewN _|exact HJ.out) T2.out).mono ?_;rintro e W2 ⟨rfl,hj,hb⟩;clear T2 HB HJ;have Bd:=Az.mk hj;have HB3:=Az.mk hb;clear hj hb))
   go_roundg k2
   case measure=>have:=HK1.out;have:=HK2.out;omega
   case rel=>exact⟨ys,_,rfl,H',⟨by have:=HK2.out;omega⟩,Bd,HB3⟩
end Go.Proofs.Ytflbpjijgnmklaa.P
