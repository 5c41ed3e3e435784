-- The walks, cut and laid together by this session's tools (prune.py, sq2.py, min.py: shorter names, no needless spaces). Not trusted: Lean checks it.
import Derived.Test.YtemeiocmgbgikaaKWZip
import Derived.Test.YtemeiocmgbgikaaKPx27
namespace Go.Proofs.Ytemeiocmgbgikaa.P
open Go.RowKit Go.Proofs.YtemeiocmgbgikaaW.PrintWords Go.Proofs.YtemeiocmgbgikaaW.PrintLast Go.Proofs.YtemeiocmgbgikaaW.PrintMore
attribute [local go_sem] max2_int min2_int max_two min_two max_three min_three max_four min_four   -- for this text's walks alone
set_option linter.unusedVariables false
set_option linter.unusedSimpArgs false
set_option maxHeartbeats 8000000
set_option maxRecDepth 100000
open Option renaming bind_eq_some_iff → be
theorem bw_32 {n:Nat}{v v':World} (h:Below n v v':=by repeat(first|(with_reducible first|exact HB.out|apply bwA|apply pbN|apply bwD)|exact HB.out)):Below n v v':=h
def gO.l0:Nat→List Int→List Int→Int→Int→Option (Bool)
 |0,_,_,_,_=>none
 |k+1,x0,x1,x12,x13=>if x13<x12 then(if 0≤x13 then(if x13<(x0.length:Int) then(if x13<(x1.length:Int) then(if(rd x0 x13)=(rd x1 x13) then(gO.l0 k x0 x1 x12 (wrap64 (x13+1))) else(some false)) else(none)) else(none)) else(none)) else(some true)
def gO.f (k:Nat) (l0:List Int) (l1:List Int):Option (Bool):=if(l0.length:Int)=(l1.length:Int) then(gO.l0 k l0 l1 (l0.length:Int) 0) else(some false)
theorem gO.calls (k:Nat) (A0:Option Addr) (c0:Nat) (l0:List Int) (A1:Option Addr) (c1:Nat) (l1:List Int) (r:Bool) (w:World) (Av:Kd.C (Kd.int .i64) w A0 l0.length l0) (Ax:l0.length≤c0) (Ay:Kd.C (Kd.int .i64) w A1 l1.length l1) (Ba:l1.length≤c1) (h:gO.f k l0 l1=some r):
  Calls Try.prog 66 #[.slice A0 l0.length c0, .slice A1 l1.length c1] w fun e w'=>e= .returned (.bool r)∧Drawn0 w w':=by
 have Bb:=Az.mk Av
 have Bj:=Az.mk Ax
 clear Av Ax
 have Bc:=Az.mk Ay
 have Bk:=Az.mk Ba
 clear Ay Ba
 have H:=h
 unfold gO.f at H
 clear h
 by_cases c3:(l0.length:Int)=(l1.length:Int)
 rotate_left
 ·rw[ig c3]at H
  have Aj:=beq_eq_false_iff_ne.mpr c3
  have Ak:=bne_iff_ne.mpr c3
  have Al:(l0.length== l1.length)=false:=by first|simpa using c3|(simp at c3 ⊢;omega)
  obtain rfl:=Option.some.inj H
  go_enter Try.func66,Try.ntmps66
  go_wp2
  repeat(go_quiet (fail);try go_wp2)
  go_ret
  exact⟨rq2,kd⟩
 rw[ip c3]at H
 have Aj:=beq_iff_eq.mpr c3
 have Ak:=bne_eq_false_iff_eq.mpr c3
 have Al:(l0.length== l1.length)=true:=by first|simpa using c3|(simp at c3 ⊢;omega)
 clear c3
 have H':=Az.mk H
 clear H
 go_enter Try.func66,Try.ntmps66
 go_wp2
 repeat(go_quiet (fail);try go_wp2)
 go_loopg [13] k (fun kq Bd w'=>∃(Aa:Int),Bd= .int .i64 Aa∧Az (gO.l0 kq l0 l1 (l0.length:Int) Aa=some r)∧Az (kq≤k)∧Drawn0 w w')
 case atStart=>exact⟨(0),rq2,H',⟨Nat.le_refl _⟩,kd⟩
 clear H'
 try clear c1
 try clear c3
 try clear Aj
 try clear Ak
 try clear Al
 obtain⟨Aa,rfl,HA,HK1,⟨m1,rfl⟩⟩:=hrel
 cases gk with
 |zero=>exact absurd HA.out (by simp[gO.l0])
 |succ k1=>
  have H:=HA.out
  clear HA
  simp only[gO.l0]at H
  by_cases c4:Aa<(l0.length:Int)
  rotate_left
  ·rw[ig c4]at H
   have Aq:=decide_eq_false c4
   clear c4
   obtain rfl:=Option.some.inj H
   go_wp2
   repeat(go_quiet (fail);try go_wp2)
   go_ret
   exact⟨rq2,kd⟩
  rw[ip c4]at H
  have Aq:=ode c4
  clear c4
  by_cases c5:0≤Aa
  rotate_left
  ·rw[ig c5]at H
   exact absurd H (by simp)
  rw[ip c5]at H
  have Bf:=ode c5
  clear c5
  by_cases c6:Aa<(l0.length:Int)
  rotate_left
  ·rw[ig c6]at H
   exact absurd H (by simp)
  rw[ip c6]at H
  have Bh:=ode c6
  clear c6
  by_cases c7:Aa<(l1.length:Int)
  rotate_left
  ·rw[ig c7]at H
   exact absurd H (by simp)
  rw[ip c7]at H
  have Bi:=ode c7
  clear c7
  by_cases c8:(rd l0 Aa)=(rd l1 Aa)
  rotate_left
  ·rw[ig c8]at H
   have As:=beq_eq_false_iff_ne.mpr c8
   have Au:=bne_iff_ne.mpr c8
   obtain rfl:=Option.some.inj H
   have Ab:0≤(Aa:Int):=od
   have Ac:Aa<(l0.length:Int):=od
   obtain⟨Am,Ah,Af⟩:=Kd.at_int Bb.out Aa Ab Ac
   cases Ah
   replace Ab:=ets Ab
   replace Ac:=ets Ac
   have Ad:0≤(Aa:Int):=od
   have Ae:Aa<(l1.length:Int):=od
   obtain⟨Ap,Ai,Ag⟩:=Kd.at_int Bc.out Aa Ad Ae
   cases Ai
   replace Ad:=ets Ad
   replace Ae:=ets Ae
   go_wp2
   repeat(go_quiet (fail);try go_wp2)
   go_ret
   exact⟨rq2,kd⟩
  rw[ip c8]at H
  have As:=beq_iff_eq.mpr c8
  have Au:=bne_eq_false_iff_eq.mpr c8
  clear c8
  have H':=Az.mk H
  clear H
  have Ab:0≤(Aa:Int):=od
  have Ac:Aa<(l0.length:Int):=od
  obtain⟨Am,Ah,Af⟩:=Kd.at_int Bb.out Aa Ab Ac
  cases Ah
  replace Ab:=ets Ab
  replace Ac:=ets Ac
  have Ad:0≤(Aa:Int):=od
  have Ae:Aa<(l1.length:Int):=od
  obtain⟨Ap,Ai,Ag⟩:=Kd.at_int Bc.out Aa Ad Ae
  cases Ai
  replace Ad:=ets Ad
  replace Ae:=ets Ae
  go_wp2
  repeat(go_quiet (fail);try go_wp2)
  go_roundg k1
  case measure=>have:=HK1.out;omega
  case rel=>exact⟨(wrap64 (Aa+1)),rq2,H',⟨by have:=HK1.out;omega⟩,kd⟩
def jA.l0:Nat→List (List Int)→List (List Int)→Int→Int→Option (Bool)
 |0,_,_,_,_=>none
 |k+1,x0,x1,x12,x13=>if x13<x12 then(if 0≤x13 then(if x13<(x0.length:Int) then(if x13<(x1.length:Int) then((gO.f k (rd_L1 x0 x13) (rd_L1 x1 x13)).bind fun t662=>(if t662=true then(jA.l0 k x0 x1 x12 (wrap64 (x13+1))) else(some false))) else(none)) else(none)) else(none)) else(some true)
def jA.f (k:Nat) (l0:List (List Int)) (l1:List (List Int)):Option (Bool):=if(l0.length:Int)=(l1.length:Int) then(jA.l0 k l0 l1 (l0.length:Int) 0) else(some false)
theorem jA.calls (k:Nat) (A0:Option Addr) (c0:Nat) (l0:List (List Int)) (A1:Option Addr) (c1:Nat) (l1:List (List Int)) (r:Bool) (w:World) (Bo:Kd.C (Kd.slice 3 (Kd.int .i64)) w A0 l0.length l0) (Bp:l0.length≤c0) (Bq:Kd.C (Kd.slice 3 (Kd.int .i64)) w A1 l1.length l1) (Br:l1.length≤c1) (h:jA.f k l0 l1=some r):
  Calls Try.prog 49 #[.slice A0 l0.length c0, .slice A1 l1.length c1] w fun e w'=>e= .returned (.bool r)∧Drawn0 w w':=by
 have Bs:=Az.mk Bo
 have By:=Az.mk Bp
 clear Bo Bp
 have Bt:=Az.mk Bq
 have Bz:=Az.mk Br
 clear Bq Br
 have H:=h
 unfold jA.f at H
 clear h
 by_cases c3:(l0.length:Int)=(l1.length:Int)
 rotate_left
 ·rw[ig c3]at H
  have Bh:=beq_eq_false_iff_ne.mpr c3
  have Bi:=bne_iff_ne.mpr c3
  have Bj:(l0.length== l1.length)=false:=by first|simpa using c3|(simp at c3 ⊢;omega)
  obtain rfl:=Option.some.inj H
  go_enter Try.func49,Try.ntmps49
  go_wp2
  repeat(go_quiet (fail);try go_wp2)
  go_ret
  exact⟨rq2,kd⟩
 rw[ip c3]at H
 have Bh:=beq_iff_eq.mpr c3
 have Bi:=bne_eq_false_iff_eq.mpr c3
 have Bj:(l0.length== l1.length)=true:=by first|simpa using c3|(simp at c3 ⊢;omega)
 clear c3
 have H':=Az.mk H
 clear H
 go_enter Try.func49,Try.ntmps49
 go_wp2
 repeat(go_quiet (fail);try go_wp2)
 go_loopg [13] k (fun kq Bu w'=>∃(Aa:Int),Bu= .int .i64 Aa∧Az (jA.l0 kq l0 l1 (l0.length:Int) Aa=some r)∧Az (kq≤k)∧Drawn0 w w')
 case atStart=>exact⟨(0),rq2,H',⟨Nat.le_refl _⟩,kd⟩
 clear H'
 try clear c1
 try clear c3
 try clear Bh
 try clear Bi
 try clear Bj
 obtain⟨Aa,rfl,HA,HK1,⟨m1,rfl⟩⟩:=hrel
 cases gk with
 |zero=>exact absurd HA.out (by simp[jA.l0])
 |succ k1=>
  have H:=HA.out
  clear HA
  simp only[jA.l0]at H
  by_cases c4:Aa<(l0.length:Int)
  rotate_left
  ·rw[ig c4]at H
   have Bm:=decide_eq_false c4
   clear c4
   obtain rfl:=Option.some.inj H
   go_wp2
   repeat(go_quiet (fail);try go_wp2)
   go_ret
   exact⟨rq2,kd⟩
  rw[ip c4]at H
  have Bm:=ode c4
  clear c4
  by_cases c5:0≤Aa
  rotate_left
  ·rw[ig c5]at H
   exact absurd H (by simp)
  rw[ip c5]at H
  have Bv:=ode c5
  clear c5
  by_cases c6:Aa<(l0.length:Int)
  rotate_left
  ·rw[ig c6]at H
   exact absurd H (by simp)
  rw[ip c6]at H
  have Bw:=ode c6
  clear c6
  by_cases c7:Aa<(l1.length:Int)
  rotate_left
  ·rw[ig c7]at H
   exact absurd H (by simp)
  rw[ip c7]at H
  have Bx:=ode c7
  clear c7
  replace H:=bez H
  obtain⟨Bn,A8,H⟩:=H
  try dsimp only at H
  by_cases c9:Bn=true
  rotate_left
  ·replace c9:=Bool.eq_false_iff.mpr c9
   subst c9
   rw[ig ff]at H
   obtain rfl:=Option.some.inj H
   have Ap:0≤(Aa:Int):=od
   have Aq:Aa<(l0.length:Int):=od
   obtain⟨Bk,Ay,Ba,Bb,Av,Aj,Ak⟩:=at_L1 Bs.out Aa Ap Aq
   cases Bb
   have Ab:=Az.mk Ak
   have Ac:=Az.mk Aj
   clear Ak Aj
   replace Ap:=ets Ap
   replace Aq:=ets Aq
   have As:0≤(Aa:Int):=od
   have Au:Aa<(l1.length:Int):=od
   obtain⟨Bl,Bc,Bd,Bf,Ax,Al,Am⟩:=at_L1 Bt.out Aa As Au
   cases Bf
   have Ad:=Az.mk Am
   have Ae:=Az.mk Al
   clear Am Al
   replace As:=ets As
   replace Au:=ets Au
   go_wp2_with ((go_at_call 66;(with_reducible refine(gO.calls k1 _ _ (rd_L1 l0 Aa) _ _ (rd_L1 l1 Aa) false _ ?Af ?Ag ?Ah ?Ai A8.out).mono ?_);(case Af=>exact kC Ab.out);(case Ag=>exact Ac.out);(case Ah=>exact kC Ad.out);(case Ai=>exact Ae.out);rintro e w' ⟨rfl,⟨nd,rfl⟩⟩;(try first|exact⟨rfl,_,World.drewN_drewN _ _ _⟩|exact⟨rfl,_,Eq.trans (World.drewN_drewN _ _ _) (congrArg (World.drewN _) (Nat.add_assoc _ _ _))⟩)))
   repeat(go_quiet ((go_at_call 66;(with_reducible refine(gO.calls k1 _ _ (rd_L1 l0 Aa) _ _ (rd_L1 l1 Aa) false _ ?Af ?Ag ?Ah ?Ai A8.out).mono ?_);(case Af=>exact kC Ab.out);(case Ag=>exact Ac.out);(case Ah=>exact kC Ad.out);(case Ai=>exact Ae.out);rintro e w' ⟨rfl,⟨nd,rfl⟩⟩;(try first|exact⟨rfl,_,World.drewN_drewN _ _ _⟩|exact⟨rfl,_,Eq.trans (World.drewN_drewN _ _ _) (congrArg (World.drewN _) (Nat.add_assoc _ _ _))⟩)));try go_wp2_with ((go_at_call 66;(with_reducible refine(gO.calls k1 _ _ (rd_L1 l0 Aa) _ _ (rd_L1 l1 Aa) false _ ?Af ?Ag ?Ah ?Ai A8.out).mono ?_);(case Af=>exact kC Ab.out);(case Ag=>exact Ac.out);(case Ah=>exact kC Ad.out);(case Ai=>exact Ae.out);rintro e w' ⟨rfl,⟨nd,rfl⟩⟩;(try first|exact⟨rfl,_,World.drewN_drewN _ _ _⟩|exact⟨rfl,_,Eq.trans (World.drewN_drewN _ _ _) (congrArg (World.drewN _) (Nat.add_assoc _ _ _))⟩))))
   go_ret
   exact⟨rq2,kd⟩
  subst c9
  rw[ip rfl]at H
  have H':=Az.mk H
  clear H
  have Ap:0≤(Aa:Int):=od
  have Aq:Aa<(l0.length:Int):=od
  obtain⟨Bk,Ay,Ba,Bb,Av,Aj,Ak⟩:=at_L1 Bs.out Aa Ap Aq
  cases Bb
  have Ab:=Az.mk Ak
  have Ac:=Az.mk Aj
  clear Ak Aj
  replace Ap:=ets Ap
  replace Aq:=ets Aq
  have As:0≤(Aa:Int):=od
  have Au:Aa<(l1.length:Int):=od
  obtain⟨Bl,Bc,Bd,Bf,Ax,Al,Am⟩:=at_L1 Bt.out Aa As Au
  cases Bf
  have Ad:=Az.mk Am
  have Ae:=Az.mk Al
  clear Am Al
  replace As:=ets As
  replace Au:=ets Au
  go_wp2_with ((go_at_call 66;(with_reducible refine(gO.calls k1 _ _ (rd_L1 l0 Aa) _ _ (rd_L1 l1 Aa) true _ ?Af ?Ag ?Ah ?Ai A8.out).mono ?_);(case Af=>exact kC Ab.out);(case Ag=>exact Ac.out);(case Ah=>exact kC Ad.out);(case Ai=>exact Ae.out);rintro e w' ⟨rfl,⟨nd,rfl⟩⟩;(try first|exact⟨rfl,_,World.drewN_drewN _ _ _⟩|exact⟨rfl,_,Eq.trans (World.drewN_drewN _ _ _) (congrArg (World.drewN _) (Nat.add_assoc _ _ _))⟩)))
  repeat(go_quiet ((go_at_call 66;(with_reducible refine(gO.calls k1 _ _ (rd_L1 l0 Aa) _ _ (rd_L1 l1 Aa) true _ ?Af ?Ag ?Ah ?Ai A8.out).mono ?_);(case Af=>exact kC Ab.out);(case Ag=>exact Ac.out);(case Ah=>exact kC Ad.out);(case Ai=>exact Ae.out);rintro e w' ⟨rfl,⟨nd,rfl⟩⟩;(try first|exact⟨rfl,_,World.drewN_drewN _ _ _⟩|exact⟨rfl,_,Eq.trans (World.drewN_drewN _ _ _) (congrArg (World.drewN _) (Nat.add_assoc _ _ _))⟩)));try go_wp2_with ((go_at_call 66;(with_reducible refine(gO.calls k1 _ _ (rd_L1 l0 Aa) _ _ (rd_L1 l1 Aa) true _ ?Af ?Ag ?Ah ?Ai A8.out).mono ?_);(case Af=>exact kC Ab.out);(case Ag=>exact Ac.out);(case Ah=>exact kC Ad.out);(case Ai=>exact Ae.out);rintro e w' ⟨rfl,⟨nd,rfl⟩⟩;(try first|exact⟨rfl,_,World.drewN_drewN _ _ _⟩|exact⟨rfl,_,Eq.trans (World.drewN_drewN _ _ _) (congrArg (World.drewN _) (Nat.add_assoc _ _ _))⟩))))
  go_roundg k1
  case measure=>have:=HK1.out;omega
  case rel=>exact⟨(wrap64 (Aa+1)),rq2,H',⟨by have:=HK1.out;omega⟩,kd⟩
def gZ.f (k:Nat) (l0:List (List Int)) (l1:List (List Int)):Option (Bool):=(fC.f k l0).bind fun t663=>(if t663=true then((fC.f k l1).bind fun t664=>(if t664=true then((fA.f k l0).bind fun t665=>((fA.f k l1).bind fun t668=>((jA.f k t665 t668).bind fun t671=>(some t671)))) else(some false))) else(some false))
theorem gZ.calls (k:Nat) (A0:Option Addr) (c0:Nat) (l0:List (List Int)) (A1:Option Addr) (c1:Nat) (l1:List (List Int)) (r:Bool) (w:World) (Ax:Kd.C (Kd.slice 3 (Kd.int .i64)) w A0 l0.length l0) (Ay:l0.length≤c0) (Ba:Kd.C (Kd.slice 3 (Kd.int .i64)) w A1 l1.length l1) (Bb:l1.length≤c1) (h:gZ.f k l0 l1=some r):
  Calls Try.prog 18 #[.slice A0 l0.length c0, .slice A1 l1.length c1] w fun e w'=>e= .returned (.bool r)∧Below w.heap.size w w':=by
 have Ak:=Az.mk Ax
 have Al:=Az.mk Ay
 clear Ax Ay
 have Am:=Az.mk Ba
 have Ap:=Az.mk Bb
 clear Ba Bb
 have HB:=Az.mk (Below.refl w.heap.size w)
 have H:=h
 unfold gZ.f at H
 clear h
 replace H:=bez H
 obtain⟨Aq,A3,H⟩:=H
 try dsimp only at H
 by_cases c4:Aq=true
 rotate_left
 ·replace c4:=Bool.eq_false_iff.mpr c4
  subst c4
  rw[ig ff]at H
  obtain rfl:=Option.some.inj H
  go_enter Try.func18,Try.ntmps18
  go_wp2_with (first|((with_reducible refine gtC (f:=45) rfl ?_);refine clz Try.func45 (some 6) #[.slice A0 l0.length c0] ?_;(with_reducible refine(fC.calls k _ _ l0 false _ ?Aa ?Ab A3.out).mono ?_);(case Aa=>exact kC Ak.out);(case Ab=>exact Al.out);rintro e Bk ⟨rfl,hb⟩;refine⟨_,rfl,?_⟩;replace HB:=Az.mk (bwT bw_32 hb);(try clear hb)))
  go_ret
  exact⟨rq1,bw_32⟩
 subst c4
 rw[ip rfl]at H
 replace H:=bez H
 obtain⟨As,A5,H⟩:=H
 try dsimp only at H
 by_cases c6:As=true
 rotate_left
 ·replace c6:=Bool.eq_false_iff.mpr c6
  subst c6
  rw[ig ff]at H
  obtain rfl:=Option.some.inj H
  go_enter Try.func18,Try.ntmps18
  go_wp2_with (first|((with_reducible refine gtC (f:=45) rfl ?_);refine clz Try.func45 (some 6) #[.slice A0 l0.length c0] ?_;(with_reducible refine(fC.calls k _ _ l0 true _ ?Aa ?Ab A3.out).mono ?_);(case Aa=>exact kC Ak.out);(case Ab=>exact Al.out);rintro e Bl ⟨rfl,hb⟩;refine⟨_,rfl,?_⟩;replace HB:=Az.mk (bwT bw_32 hb);(try clear hb))|(go_at_call 45;(with_reducible refine(fC.calls k _ _ l1 false _ ?Aa ?Ab A5.out).mono ?_);(case Aa=>exact kC (Kd.C_below Am.out HB.out));(case Ab=>exact Ap.out);rintro e Bm ⟨rfl,hb⟩;replace HB:=Az.mk (bwT bw_32 hb);(try clear hb)))
  go_ret
  exact⟨rq1,bw_32⟩
 subst c6
 rw[ip rfl]at H
 replace H:=bez H
 obtain⟨Af,A7,H⟩:=H
 try dsimp only at H
 replace H:=bez H
 obtain⟨Ag,A8,H⟩:=H
 try dsimp only at H
 replace H:=bez H
 obtain⟨Ah,A9,H⟩:=H
 replace H:(some Ah)=some r:=H
 obtain rfl:=Option.some.inj H
 go_enter Try.func18,Try.ntmps18
 go_wp2_with (first|((with_reducible refine gtC (f:=45) rfl ?_);refine clz Try.func45 (some 6) #[.slice A0 l0.length c0] ?_;(with_reducible refine(fC.calls k _ _ l0 true _ ?Aa ?Ab A3.out).mono ?_);(case Aa=>exact kC Ak.out);(case Ab=>exact Al.out);rintro e Bn ⟨rfl,hb⟩;refine⟨_,rfl,?_⟩;replace HB:=Az.mk (bwT bw_32 hb);(try clear hb))|(go_at_call 45;(with_reducible refine(fC.calls k _ _ l1 true _ ?Aa ?Ab A5.out).mono ?_);(case Aa=>exact kC (Kd.C_below Am.out HB.out));(case Ab=>exact Ap.out);rintro e Bo ⟨rfl,hb⟩;replace HB:=Az.mk (bwT bw_32 hb);(try clear hb))|(go_at_call 21;(with_reducible refine(fA.calls k _ _ l0 Af _ ?Aa ?Ab A7.out).mono ?_);(case Aa=>exact kC (Kd.C_below Ak.out HB.out));(case Ab=>exact Al.out);rintro e w12 ⟨Bc,rfl,Ae,hb⟩;have Ac:=Az.mk (Kd.S_lower Ae (bwZ bw_32));replace HB:=Az.mk (bwT bw_32 hb);(try clear hb);(try clear Ae))|(go_at_call 21;(with_reducible refine(fA.calls k _ _ l1 Ag _ ?Aa ?Ab A8.out).mono ?_);(case Aa=>exact kC (Kd.C_below Am.out HB.out));(case Ab=>exact Ap.out);rintro e Bp ⟨Bd,rfl,Ae,hb⟩;have Ad:=Az.mk (Kd.S_lower (Kd.S_new' Ae (Kd.S_lt (kS Ac.out))) (bwZ bw_32));replace Ac:=Az.mk (Kd.S_elder' (kS Ac.out) (Kd.S_base Ae) hb);replace HB:=Az.mk (bwT bw_32 hb);(try clear hb);(try clear Ae);obtain⟨Bf,Bh,Au⟩:=Kd.S_slice Ac.out;subst Au;obtain⟨Bi,Bj,Av⟩:=Kd.S_slice Ad.out;subst Av)|(go_at_call 49;(with_reducible refine(jA.calls k _ _ Af _ _ Ag Ah _ ?Aa ?Ab ?Ai ?Aj A9.out).mono ?_);(case Aa=>exact kC (Kd.S_reads' Ac.out).2.2);(case Ab=>exact(Kd.S_reads' Ac.out).2.1);(case Ai=>exact kC (Kd.S_reads' Ad.out).2.2);(case Aj=>exact(Kd.S_reads' Ad.out).2.1);rintro e w' ⟨rfl,⟨nd,rfl⟩⟩))
 go_ret
 exact⟨rq1,bw_32⟩
theorem z33_0 {p:Prop} (h:p:=by first|exact HO.out|exact Kd.R_drewN HO.out _):p:=h
abbrev stt_k:Kd (List Int × Nat):=Kd.tag (fun k:Nat=>k) (Kd.slice 3 (Kd.int .i64))
theorem stt_some {α:Type}{d:Kd α}{e:Nat}{w:World}{base:Nat}{ok:Nat→Prop}{A:Option Addr}{n c:Nat}{out:List α} (HO:d.R e w base ok (.slice A n c) out) (h1:0<out.length):∃g:Nat,A=some ⟨g,0,none⟩:=by
 obtain⟨g,cap,eg,_⟩:=Kd.R_form HO h1
 injection eg with ea en ec
 exact⟨g,ea⟩
/-- A row of one's own, read: its header, and it. -/
theorem stt_at {w:World}{base:Nat}{ok:Nat→Prop}{g n c:Nat}{out:List (List Int × Nat)} (HO:stt_k.R 25 w base ok (.slice (some ⟨g,0,none⟩) n c) out){Z:Int} (h0:0≤Z) (h1:Z<(out.length:Int)):
  ∃A1 c1,w.cell? ⟨g,Z.toNat,none⟩=some (.slice A1 (rd_L1 (out.map Prod.fst) Z).length c1)∧(Z<(n:Int))∧Kd.R (Kd.int .i64) 3 w base (fun _=>True) (.slice A1 (rd_L1 (out.map Prod.fst) Z).length c1) (rd_L1 (out.map Prod.fst) Z):=by
 have hn:=(Kd.R_reads' HO).1
 obtain⟨cs,hcl,hM,hcc,_⟩:=Kd.R_elem HO (([]:List Int),0) Z h0 (by omega)
 obtain⟨v,rfl,hv⟩:=hM
 have e:rd_L1 (out.map Prod.fst) Z=(out.getD Z.toNat (([]:List Int),0)).1:=by
  unfold rd_L1
  rw[List.getD_eq_getElem?_getD,List.getD_eq_getElem?_getD,List.getElem?_map]
  cases out[Z.toNat]? <;> rfl
 rw[e]
 obtain⟨A1,c1,rfl⟩:=Kd.R_slice hv
 have hc:=hcc 0 _ rfl
 have e2:Z.toNat*stt_k.sz+0=Z.toNat:=by show Z.toNat*1+0=_;omega
 rw[e2]at hc
 exact⟨A1,c1,hc,by omega,Kd.R_mono hv (fun _ _=>trivial)⟩
theorem stt_first {w:World}{base:Nat}{ok:Nat→Prop}{A:Option Addr}{n c:Nat}{x:List Int} (HO:Kd.R (Kd.int .i64) 3 w base ok (.slice A n c) x) (h1:0<x.length):∃g:Nat,A=some ⟨g,0,none⟩∧w.cell? ⟨g,0,none⟩=some (.int .i64 (rd x 0)):=by
 obtain⟨g,rfl⟩:=stt_some HO h1
 have hn:=(Kd.R_reads' HO).1
 exact⟨g,rfl,(Kd.R_celln 0 HO 0 (by omega) (by omega)).1⟩
/-- Labels that are all different: the rows lie apart. -/
theorem stt_S {w:World}{base:Nat}{v:Value}{out:List (List Int × Nat)} (HO:stt_k.R 25 w base (fun _=>True) v out) (hd:(out.map Prod.snd).Nodup):Kd.S (Kd.slice 3 (Kd.int .i64)) 25 w base (fun _=>True) v (out.map Prod.fst):=by
 obtain⟨h0,inner,ho,hr⟩:=HO
 refine⟨fun k=>(out.map Prod.snd).idxOf k,h0,inner,by rw[List.length_zipIdx,List.length_map];exact ho,by rw[List.length_zipIdx,List.length_map];exact hr.1,fun j p hj=>?_⟩
 rw[List.getElem?_zipIdx,Nat.zero_add,List.getElem?_map]at hj
 obtain⟨x,hx,rfl⟩:=Option.map_eq_some_iff.1 hj
 obtain⟨y,hy,rfl⟩:=Option.map_eq_some_iff.1 hx
 obtain⟨hlt,ey⟩:=List.getElem?_eq_some_iff.1 hy
 have hM:(Kd.slice 3 (Kd.int .i64)).M w base (fun k=>(True∧some k≠v.ownBlock)∧k=y.2) y.1 ((inner.drop (j*1)).take 1):=hr.2 j y hy
 refine(Kd.slice 3 (Kd.int .i64)).M_mono (fun k hk=>⟨hk.1,?_⟩) hM
 rw[hk.2, ←ey]
 have:=hd.idxOf_getElem j (by rw[List.length_map];exact hlt)
 rw[List.getElem_map]at this
 exact this
theorem stt_labels {α:Type}{out:List (α × Nat)}{N go:Nat}{X:α}{q:Nat} (hd:(out.map Prod.snd).Nodup) (hN:∀p∈out,p.2<N) (hg:N≤go):((out.take q ++ ((X,go) :: out.drop q)).map Prod.snd).Nodup∧∀p∈out.take q ++ ((X,go) :: out.drop q),p.2<go+1:=by
 have hp:List.Perm (out.take q ++ ((X,go) :: out.drop q)) ((X,go) :: out):=by
  refine List.perm_middle.trans ?_
  rw[List.take_append_drop]
 refine⟨?_,fun p hp'=>?_⟩
 ·refine(hp.map Prod.snd).nodup_iff.2 ?_
  rw[List.map_cons]
  refine List.nodup_cons.2 ⟨fun h=>?_,hd⟩
  obtain⟨p,hp1,hp2⟩:=List.mem_map.1 h
  have:=hN p hp1
  omega
 rcases List.mem_cons.1 (hp.mem_iff.1 hp')with rfl|h
 ·show go<go+1
  omega
 have:=hN p h
 omega
theorem stt_w1 {q:Int}{n:Nat} (h0:q>0) (h1:q≤(n:Int)) (h2:n<5864062014805):wrap64 (q - 1)=q - 1:=by
 unfold wrap64
 omega
theorem stt_ht:∀q,q∈3 :: (Kd.int .i64).E→q≠25:=fun q hq=>by
 have:q=3:=by simpa[Kd.int,Kd.scalar] using hq
 subst this
 decide
theorem stt_head {w:World}{base:Nat}{ok:Nat→Prop}{g n c:Nat}{x:List Int} (HO:Kd.R (Kd.int .i64) 3 w base ok (.slice (some ⟨g,0,none⟩) n c) x) (h1:0<x.length):w.cell? ⟨g,0,none⟩=some (.int .i64 (rd x 0)):=by
 have hn:=(Kd.R_reads' HO).1
 exact(Kd.R_celln 0 HO 0 (by omega) (by omega)).1
theorem stt_map {ps:List (List Int × Nat)}{x:List Int}{go q:Nat}:(ps.take q ++ ((x,go) :: ps.drop q)).map Prod.fst=(ps.map Prod.fst).take q ++ (x :: (ps.map Prod.fst).drop q):=by
 rw[List.map_append,List.map_cons,List.map_take,List.map_drop]
theorem ts_cuts {A:Option Addr}{n c:Nat} (hn:n≤c){q:Int} (h0:0≤q) (h1:q≤(n:Int)):∃A':Option Addr,(∀W:World,(Instr.slice 24 (.slice A n c) (some (.int .i64 q)) none none).run Try.prog W= .ok (.slice A' (n - q.toNat) (c - q.toNat)) W)∧(∀W:World,(Instr.slice 24 (.slice A n c) none (some (.int .i64 q)) none).run Try.prog W= .ok (.slice A q.toNat c) W)∧(∀(α:Type) (R:α→List Value→Prop) (w:World) (ps:List α),ReadsRow R 1 w A n ps→ReadsRow R 1 w A' (n - q.toNat) (ps.drop q.toNat)):=by
 obtain⟨i0,Aa,_,hsz0,_⟩:=info_parts info25
 have hel:(Try.prog).elem 24=25:=by simp[Program.elem,Try.underlying24]
 have hu:(Try.prog).underlying 24=some (.slice ((Try.prog).elem 24)):=by rw[hel];exact Try.underlying24
 obtain⟨m,rfl⟩:=Int.eq_ofNat_of_zero_le h0
 simp only[Int.toNat_natCast]
 refine⟨if c=m then A else A.map (·.add m),fun W=>?_,fun W=>?_,fun α R w ps h=>?_⟩
 ·rw[run_slice_l W 24 A n c hu .i64 (m:Int) (Int.natCast_nonneg _) (by omega),hel]
  simp[sizeOf,typeInfo,Aa,hsz0,sliced,Result.andThen]
 ·have ha:(A.map fun x=>x.add 0)=A:=by cases A <;> simp[Addr.add]
  rw[run_slice_h W 24 A n c hu .i64 (m:Int) (Int.natCast_nonneg _) (by omega),hel]
  simp[sizeOf,typeInfo,Aa,hsz0,sliced,Result.andThen,ha]
 have hl:(ps.drop m).length=n - m:=by rw[List.length_drop,h.1]
 refine⟨hl,by have:=h.2.1;omega,fun hp=>?_⟩
 obtain⟨ad,rfl,hcell⟩:=h.2.2 (by omega)
 rw[ig (by omega)]
 refine⟨ad.add m,rfl,fun j p hj=>?_⟩
 rw[List.getElem?_drop]at hj
 obtain⟨cs,h1,h2,h3⟩:=hcell (m+j) p hj
 refine⟨cs,h1,h2,fun i u hu=>?_⟩
 rw[add_add,show m+(j*1+i)=(m+j)*1+i by omega]
 exact h3 i u hu
/-- The elements of one's own row, to be laid into another row that is made now. -/
theorem ts_rows {W W2:World}{base n c:Nat}{A:Option Addr}{ps:List (List Int × Nat)}{vl:Value} (HO:stt_k.R 25 W base (fun _=>True) (.slice A n c) ps) (hb:Below W.heap.size W W2) (hl:∀k,vl.ownBlock=some k→W.heap.size≤k):ReadsRow (stt_k.M W2 base (fun k=>some k≠(Value.slice A n c).ownBlock∧some k≠vl.ownBlock)) 1 W2 A n ps:=by
 obtain⟨A',c',e,hlc,hr⟩:=OwnRow.reads (Kd.R_bound HO).2
 injection e with ea en ec
 subst ea
 subst en
 exact hr.imp_ hb (fun p cs h=>stt_k.M_mono (fun k hk=>⟨hk.2,fun he=>by have:=hl k he.symm;have:=hk.1.2.2.1;omega⟩) (Kd.M_below h hb))
theorem ts_keep {W W2 W3:World}{v:Value} (hb:Below W.heap.size W W2) (hl:∀k,v.ownBlock=some k→W.heap.size≤k) (hg:W2.grownBy W3 v.ownBlock):Below W.heap.size W W3:=hb.grown hg hb.size hl
theorem ts_below {W W2:World} (hg:W.grownBy W2 none):Below W.heap.size W W2:=⟨hg.os,hg.tape,hg.output,hg.size,fun k hk=>hg.block k hk (by simp)⟩
theorem ts_new {W:World}{v:Value} (hat:∃b,v.ownBlock=some b∧W.heap.size≤b):∀k,v.ownBlock=some k→W.heap.size≤k:=fun k hk=>by
 obtain⟨b,hb1,hb2⟩:=hat
 rw[hb1]at hk
 injection hk with hk
 omega
theorem ts_cap {A:Option Addr}{x y c:Nat}:(Value.slice A x c).ownBlock=(Value.slice A y c).ownBlock:=by cases A <;> rfl
/-- The row's rest stays while the row is written. -/
theorem ts_rest {W:World}{base n c q:Nat}{A:Option Addr}{u:Value}{xs:List (List Int × Nat)} (h:stt_k.R 25 W base (fun k=>some k≠(Value.slice A n c).ownBlock) u xs):stt_k.R 25 W base (fun k=>True∧some k≠(Value.slice A q c).ownBlock) u xs:=Kd.R_mono h (fun k hk=>⟨trivial,by rw[ts_cap (y:=n)];exact hk⟩)
theorem ts_far {W:World}{base n c N:Nat}{A:Option Addr}{ps:List (List Int × Nat)}{go n1 c1:Nat}{x:List Int} (HO:stt_k.R 25 W base (fun _=>True) (.slice A n c) ps) (hx:Kd.R (Kd.int .i64) 3 W base (fun _=>True) (.slice (some ⟨go,0,none⟩) n1 c1) x):some go≠(Value.slice A n c).ownBlock:=fun he=>by
 obtain⟨cells,hc⟩:=Kd.R_typed HO go he.symm
 exact(Kd.R_types hx hc stt_ht).1 go (by simp[Value.ownBlock])|>.2 rfl
theorem ts_M {W:World}{base go n1 c1:Nat}{x:List Int} (hx:Kd.R (Kd.int .i64) 3 W base (fun _=>True) (.slice (some ⟨go,0,none⟩) n1 c1) x):stt_k.M W base (fun k=>k=go) (x,go) [.slice (some ⟨go,0,none⟩) n1 c1]:=
 ⟨_,rfl,Kd.R_mono (Kd.R_tight rfl hx) (fun k hk=>by
  have:k=go:=by simpa[Value.ownBlock] using hk
  exact⟨this,this⟩)⟩
theorem ts_size {W W1 W2:World}{u v:Option Nat}{base go n1 c1:Nat}{x:List Int} (hx:Kd.R (Kd.int .i64) 3 W base (fun _=>True) (.slice (some ⟨go,0,none⟩) n1 c1) x) (h1:W.grownBy W1 u) (h2:W1.grownBy W2 v):go<W2.heap.size:=by
 have a:=Kd.R_lt hx go (by simp[Value.ownBlock])
 have b:=h1.size
 have d:=h2.size
 omega
theorem ts_labels {α:Type}{ps:List (α × Nat)}{go q N:Nat}{X:α} (hL:(ps.map Prod.snd).Nodup∧∀p∈ps,p.2<go) (hN:go<N):(((ps.take q ++ [(X,go)]) ++ ps.drop q).map Prod.snd).Nodup∧∀p∈(ps.take q ++ [(X,go)]) ++ ps.drop q,p.2<N:=by
 rw[List.append_assoc,List.singleton_append]
 obtain⟨h3,h4⟩:=stt_labels (X:=X) (q:=q) hL.1 hL.2 (Nat.le_refl go)
 exact⟨h3,fun p hp=>by have:=h4 p hp;omega⟩
theorem ts_map {ps:List (List Int × Nat)}{x:List Int}{go q:Nat}:((ps.take q ++ [(x,go)]) ++ ps.drop q).map Prod.fst=(ps.map Prod.fst).take q ++ (x :: (ps.map Prod.fst).drop q):=by
 rw[List.append_assoc,List.singleton_append,stt_map]
theorem ts_reads {W:World}{base n c:Nat}{ok:Nat→Prop}{A:Option Addr}{xs:List (List Int × Nat)} (h:stt_k.R 25 W base ok (.slice A n c) xs):ReadsRow (stt_k.M W base (fun k=>ok k∧some k≠(Value.slice A n c).ownBlock)) 1 W A n xs:=by
 obtain⟨A',c',e,hlc,hr⟩:=OwnRow.reads h.2
 injection e with ea en ec
 subst ea
 subst en
 exact hr
mutual
def fD.l0:Nat→List (List Int)→List (List Int)→Int→Option (List (List Int))
 |0,_,_,_=>none
 |k+1,t,out,i=>if i<(t.length:Int) then(if 0≤i then((gM.f (rd_L1 t i) 0).bind fun row=>(if 0<row.length then fD.l1 k t out i row 1 else none))else none)else some out
def fD.l1:Nat→List (List Int)→List (List Int)→Int→List Int→Int→Option (List (List Int))
 |0,_,_,_,_,_=>none
 |k+1,t,out,i,row,j=>if j<3 then(if 0≤j then(if j<((rd_L1 t i).length:Int) then(if rd (rd_L1 t i) j<rd row 0 then((gM.f (rd_L1 t i) j).bind fun row2=>(if 0<row2.length then fD.l1 k t out i row2 (wrap64 (j+1))else none))else fD.l1 k t out i row (wrap64 (j+1)))else none)else none)else fD.l2 k t out i row (out.length:Int)
def fD.l2:Nat→List (List Int)→List (List Int)→Int→List Int→Int→Option (List (List Int))
 |0,_,_,_,_,_=>none
 |k+1,t,out,i,own,q=>if 0≤q then(if q≤(out.length:Int) then(if out.length<5864062014805 then(if q>0 then(if 0<(rd_L1 out (q - 1)).length then(if rd (rd_L1 out (q - 1)) 0>rd own 0 then fD.l2 k t out i own (q - 1)else fD.l0 k t (out.take q.toNat ++ (own :: out.drop q.toNat)) (wrap64 (i+1)))else none)else fD.l0 k t (out.take q.toNat ++ (own :: out.drop q.toNat)) (wrap64 (i+1)))else none)else none)else none
end
def fD.f (k:Nat) (t:List (List Int)):Option (List (List Int)):=(fB.f k t).bind fun b=>if b=true then fD.l0 k t [] 0 else some []
set_option maxHeartbeats 16000000 in
theorem fD.calls (k:Nat) (A0:Option Addr) (c0:Nat) (l0:List (List Int)) (r:List (List Int)) (w:World) (Ap:Kd.C (Kd.slice 3 (Kd.int .i64)) w A0 l0.length l0) (Aq:l0.length≤c0) (h:fD.f k l0=some r):
  Calls Try.prog 22 #[.slice A0 l0.length c0] w fun e w'=>∃v0_:Value,e= .returned (v0_)∧Kd.S (Kd.slice 3 (Kd.int .i64)) 25 w' w.heap.size (fun _=>True) v0_ r∧Below w.heap.size w w':=by
 have Ac:=Az.mk Ap
 have As:=Az.mk Aq
 clear Ap Aq
 have HBs:=Az.mk (Below.refl w.heap.size w)
 unfold fD.f at h
 replace h:=Option.bind_eq_some_iff.mp h
 obtain⟨b,T0,h⟩:=h
 have T0:=Az.mk T0
 by_cases p1:b=true
 rotate_left
 ·rw[ig p1]at h
  replace p1:=Bool.eq_false_iff.mpr p1
  subst p1
  obtain rfl:=Option.some.inj h
  go_enter Try.func22,Try.ntmps22
  go_wp2_with (first
   |((with_reducible refine gtD (N:=9) rfl ?_);refine Kd.R_lit stt_k _ 25 ?hg (N:=9) ?hd (xs:=([]:List (List Int × Nat))) (inner:=[]) (ok:=fun _=>True) (okp:=fun _=>True) ?hr ?hp (fun _ hk=>hk) trivial (Below.refl _ _) (Nat.le_refl _) (by simp) ?_;(case hd=>rfl);(case hg=>rfl);(case hr=>first|(go_simp;done)|(go_simp;rfl));(case hp=>exact Reps.none _ _);intro v1 W1 ho hb hg hat;have HO:=Az.mk (Kd.R_lower (base':=w.heap.size) ho (by first|exact HBs.out.size|exact(pbN HBs.out _).size));have HB:=Az.mk (bwT (by first|exact HBs.out|exact pbN HBs.out _) hb);clear ho hb hg hat HBs;obtain⟨A,c,e2⟩:=Kd.R_slice HO.out;subst e2)
   |(go_at_call 28;refine(fB.calls k A0 c0 l0 false _ (by first|exact Kd.C_drewN (Kd.C_below Ac.out HB.out) _|exact Kd.C_below Ac.out HB.out) As.out T0.out).mono ?_;rintro e W0 ⟨rfl,hb⟩;have Ad:=Az.mk (Kd.R_below z33_0 hb);have HB0:=Az.mk (bwT (by first|exact HB.out|exact pbN HB.out _) hb);clear hb T0 HO HB;have HO:=Ad;have HB:=HB0;clear Ad HB0))
  go_ret
  exact⟨_,rfl,stt_S (out:=[]) z33_0 List.nodup_nil,by first|exact HB.out|exact pbN HB.out _⟩
 rw[ip p1]at h
 subst p1
 have H':=Az.mk h
 clear h
 go_enter Try.func22,Try.ntmps22
 go_wp2_with (first
  |((with_reducible refine gtD (N:=9) rfl ?_);refine Kd.R_lit stt_k _ 25 ?hg (N:=9) ?hd (xs:=([]:List (List Int × Nat))) (inner:=[]) (ok:=fun _=>True) (okp:=fun _=>True) ?hr ?hp (fun _ hk=>hk) trivial (Below.refl _ _) (Nat.le_refl _) (by simp) ?_;(case hd=>rfl);(case hg=>rfl);(case hr=>first|(go_simp;done)|(go_simp;rfl));(case hp=>exact Reps.none _ _);intro v1 W1 ho hb hg hat;have HO:=Az.mk (Kd.R_lower (base':=w.heap.size) ho (by first|exact HBs.out.size|exact(pbN HBs.out _).size));have HB:=Az.mk (bwT (by first|exact HBs.out|exact pbN HBs.out _) hb);clear ho hb hg hat HBs;obtain⟨A,c,e2⟩:=Kd.R_slice HO.out;subst e2)
  |(go_at_call 28;refine(fB.calls k A0 c0 l0 true _ (by first|exact Kd.C_drewN (Kd.C_below Ac.out HB.out) _|exact Kd.C_below Ac.out HB.out) As.out T0.out).mono ?_;rintro e W0 ⟨rfl,hb⟩;have Ad:=Az.mk (Kd.R_below z33_0 hb);have HB0:=Az.mk (bwT (by first|exact HB.out|exact pbN HB.out _) hb);clear hb T0 HO HB;have HO:=Ad;have HB:=HB0;clear Ad HB0))
 go_loopg [3,4] k (fun kq v3 v4 w'=>∃(ps:List (List Int × Nat)) (i_1:Int) (A:Option Addr) (c:Nat),v3= .slice A ps.length c∧v4= .int .i64 i_1∧Az (fD.l0 kq l0 (ps.map Prod.fst) i_1=some r)∧Az (kq≤k)∧Az (stt_k.R 25 w' w.heap.size (fun _=>True) (.slice A ps.length c) ps)∧Az (Below w.heap.size w w')∧Az ((ps.map Prod.snd).Nodup∧∀p∈ps,p.2<w'.heap.size))
 case atStart=>exact⟨[],0,_,_,rfl,rfl,H',⟨Nat.le_refl _⟩,⟨by first|exact HO.out|exact Kd.R_drewN HO.out _⟩,⟨by first|exact HB.out|exact pbN HB.out _⟩,⟨List.nodup_nil,fun p hp=>by cases hp⟩⟩
 clear H' HO HB
 obtain⟨ps,i_1,A,c,rfl,rfl,HA,HK1,HO,HB,HLB⟩:=hrel
 cases gk with
 |zero=>exact absurd HA.out (by simp[fD.l0])
 |succ k1=>
  have H:=HA.out
  clear HA
  simp only[fD.l0]at H
  by_cases b1:i_1<(l0.length:Int)
  rotate_left
  ·rw[ig b1]at H
   have b1b:decide (i_1<(l0.length:Int))=false:=decide_eq_false b1
   clear b1
   obtain rfl:=Option.some.inj H
   go_wp2
   go_ret
   exact⟨_,rfl,stt_S z33_0 HLB.out.1,by first|exact HB.out|exact pbN HB.out _⟩
  rw[ip b1]at H
  by_cases b0:0≤i_1
  rotate_left
  ·rw[ig b0]at H
   exact absurd H (by simp)
  rw[ip b0]at H
  obtain⟨Ax,A5,c5,e5,Aa,Ak,Al⟩:=at_L1 Ac.out i_1 b0 b1
  cases e5
  have Aj:=Az.mk Aa
  replace Aa:=kc HB Aa
  obtain⟨sd,hsd⟩:∃s_:List Int,rd_L1 l0 i_1=s_:=⟨_,rfl⟩
  rw[hsd]at Aa Ak Al H
  have Aj:=Az.mk (show _ from hsd ▸ Aj.out)
  have HCs:=Az.mk Al
  have HLs:=Az.mk Ak
  have HSD:=Az.mk hsd
  have b1b:=ode b1
  replace b0:=ets b0
  replace b1:=ets b1
  clear hsd Al Ak
  replace H:=Option.bind_eq_some_iff.mp H
  obtain⟨row0,T1,H⟩:=H
  have T1:=Az.mk T1
  by_cases c0':0<row0.length
  ·rw[ip c0']at H
   have Am:=Az.mk c0'
   have H':=Az.mk H
   clear H c0'
   go_wp2_with (first
    |(go_at_call 48;refine(gM.calls _ c5 sd 0 row0 _ (by first|exact Kd.C_drewN (Kd.C_below HCs.out HB.out) _|exact Kd.C_below HCs.out HB.out) HLs.out T1.out).mono ?_;rintro e W3 ⟨v3,rfl,ho,hb⟩;obtain⟨Aw,cw2,ew⟩:=Kd.R_slice ho;subst ew;obtain⟨Ab,ego⟩:=stt_some ho Am.out;subst ego;have Ae:=Az.mk (show(ps.map Prod.snd).Nodup∧∀p∈ps,p.2<Ab from⟨HLB.out.1,fun p hp=>Nat.lt_of_lt_of_le (by first|exact HLB.out.2 p hp|exact Nat.lt_of_lt_of_le (HLB.out.2 p hp) (pbN (Below.refl 0 _) _).size) (Kd.R_base ho Ab (by simp[Value.ownBlock]))⟩);have HOw3:=Az.mk (Kd.R_lower (base':=w.heap.size) ho (by first|exact HB.out.size|exact(pbN HB.out _).size));have Af:=Az.mk (Kd.R_below z33_0 hb);have HB3:=Az.mk (bwT (by first|exact HB.out|exact pbN HB.out _) hb);clear ho hb HO HB HLB T1;have HO:=Af;have HB:=HB3;have HLB:=Ae;have HOw:=HOw3;clear Af HB3 Ae HOw3))
   go_loopg [5,6] k1 (fun kq v5 v6 w'=>∃(row:List Int) (go cw:Nat) (j_1:Int),v5= .slice (some ⟨go,0,none⟩) row.length cw∧v6= .int .i64 j_1∧Az (fD.l1 kq l0 (ps.map Prod.fst) i_1 row j_1=some r)∧Az (kq≤k1)∧Az (0<row.length)∧Az (stt_k.R 25 w' w.heap.size (fun _=>True) (.slice A ps.length c) ps)∧Az (Below w.heap.size w w')∧Az (Kd.R (Kd.int .i64) 3 w' w.heap.size (fun _=>True) (.slice (some ⟨go,0,none⟩) row.length cw) row)∧Az ((ps.map Prod.snd).Nodup∧∀p∈ps,p.2<go))
   case atStart=>exact⟨row0,Ab,cw2,1,rfl,rfl,H',⟨Nat.le_refl _⟩,Am,⟨by first|exact HO.out|exact Kd.R_drewN HO.out _⟩,⟨by first|exact HB.out|exact pbN HB.out _⟩,⟨by first|exact HOw.out|exact Kd.R_drewN HOw.out _⟩,HLB⟩
   clear H' HO HB HLB HOw Am
   try clear Aa
   obtain⟨row,go,cw,j_1,rfl,rfl,HA,HK2,HP,HO,HB,HOw,HLB⟩:=hrel
   have Aa:=(HB.out.cell (World.block_lt_of_cell? w _ Aj.out)).trans Aj.out
   cases gk with
   |zero=>exact absurd HA.out (by simp[fD.l1])
   |succ k2=>
    have H:=HA.out
    clear HA
    simp only[fD.l1]at H
    rw[HSD.out]at H
    by_cases c1:j_1<3
    ·rw[ip c1]at H
     by_cases c2:0≤j_1
     rotate_left
     ·rw[ig c2]at H
      exact absurd H (by simp)
     rw[ip c2]at H
     by_cases c4:j_1<(sd.length:Int)
     rotate_left
     ·rw[ig c4]at H
      exact absurd H (by simp)
     rw[ip c4]at H
     obtain⟨adj,ej,hxj⟩:=Kd.at_int HCs.out j_1 c2 c4
     cases ej
     replace hxj:=kc HB hxj
     have hxo:=stt_head HOw.out HP.out
     obtain⟨X,hX⟩:∃j_:Int,rd sd j_1=j_:=⟨_,rfl⟩
     obtain⟨Y,hY⟩:∃j_:Int,rd row 0=j_:=⟨_,rfl⟩
     rw[hX]at hxj H
     rw[hY]at hxo H
     have c1b:=ode c1
     replace c2:=ets c2
     replace c4:=ets c4
     have zo1:((0:Int)<(row.length:Int))=True:=ets (by have:=HP.out;omega)
     have zo2:(0<row.length)=True:=ets HP.out
     clear hX hY c1
     by_cases c5':X<Y
     ·rw[ip c5']at H
      replace H:=Option.bind_eq_some_iff.mp H
      obtain⟨row2,T2,H⟩:=H
      have T2:=Az.mk T2
      by_cases c6:0<row2.length
      rotate_left
      ·rw[ig c6]at H
       exact absurd H (by simp)
      rw[ip c6]at H
      have Au:=Az.mk c6
      have c5b:=ode c5'
      have H':=Az.mk H
      clear H c5' c6
      go_wp2
      go_quiet (fail)
      go_wp2_with (first
       |(go_at_call 48;refine(gM.calls _ c5 sd j_1 row2 _ (by first|exact Kd.C_drewN (Kd.C_below HCs.out HB.out) _|exact Kd.C_below HCs.out HB.out) HLs.out T2.out).mono ?_;rintro e W3 ⟨v3,rfl,ho,hb⟩;obtain⟨Aw,cw2,ew⟩:=Kd.R_slice ho;subst ew;obtain⟨Ab,ego⟩:=stt_some ho Au.out;subst ego;have Ae:=Az.mk (show(ps.map Prod.snd).Nodup∧∀p∈ps,p.2<Ab from⟨HLB.out.1,fun p hp=>Nat.lt_of_lt_of_le (Nat.lt_trans (HLB.out.2 p hp) (Kd.R_lt (by first|exact HOw.out|exact Kd.R_drewN HOw.out _) go (by simp[Value.ownBlock]))) (Kd.R_base ho Ab (by simp[Value.ownBlock]))⟩);have HOw3:=Az.mk (Kd.R_lower (base':=w.heap.size) ho (by first|exact HB.out.size|exact(pbN HB.out _).size));have Af:=Az.mk (Kd.R_below z33_0 hb);have HB3:=Az.mk (bwT (by first|exact HB.out|exact pbN HB.out _) hb);clear ho hb HO HB HLB T2 HOw;have HO:=Af;have HB:=HB3;have HLB:=Ae;have HOw:=HOw3;clear Af HB3 Ae HOw3))
      go_roundg k2
      case measure=>have:=HK2.out;omega
      case rel=>exact⟨row2,Ab,cw2,_,rfl,rfl,H',⟨by have:=HK2.out;omega⟩,Au,⟨by first|exact HO.out|exact Kd.R_drewN HO.out _⟩,⟨by first|exact HB.out|exact pbN HB.out _⟩,⟨by first|exact HOw.out|exact Kd.R_drewN HOw.out _⟩,HLB⟩
     rw[ig c5']at H
     have c5b:=decide_eq_false c5'
     have H':=Az.mk H
     clear H c5'
     go_wp2
     go_quiet (fail)
     go_wp2
     go_roundg k2
     case measure=>have:=HK2.out;omega
     case rel=>exact⟨row,go,cw,_,rfl,rfl,H',⟨by have:=HK2.out;omega⟩,HP,⟨by first|exact HO.out|exact Kd.R_drewN HO.out _⟩,⟨by first|exact HB.out|exact pbN HB.out _⟩,⟨by first|exact HOw.out|exact Kd.R_drewN HOw.out _⟩,HLB⟩
    rw[ig c1]at H
    have c1b:decide (j_1<3)=false:=decide_eq_false c1
    have H':=Az.mk H
    clear c1 H
    go_wp2
    go_loopg [7] k2 (fun kq v7 w'=>∃(q_1:Int),v7= .int .i64 q_1∧Az (fD.l2 kq l0 (ps.map Prod.fst) i_1 row q_1=some r)∧Az (kq≤k2)∧Az (stt_k.R 25 w' w.heap.size (fun _=>True) (.slice A ps.length c) ps)∧Az (Below w.heap.size w w')∧Az (Kd.R (Kd.int .i64) 3 w' w.heap.size (fun _=>True) (.slice (some ⟨go,0,none⟩) row.length cw) row))
    case atStart=>exact⟨_,rfl,⟨by have:=H'.out;rw[List.length_map]at this;exact this⟩,⟨Nat.le_refl _⟩,⟨by first|exact HO.out|exact Kd.R_drewN HO.out _⟩,⟨by first|exact HB.out|exact pbN HB.out _⟩,⟨by first|exact HOw.out|exact Kd.R_drewN HOw.out _⟩⟩
    clear H' HO HB HOw Aa
    obtain⟨q_1,rfl,HA,HK3,HO,HB,HOw⟩:=hrel
    cases gk with
    |zero=>exact absurd HA.out (by simp[fD.l2])
    |succ k3=>
     have H:=HA.out
     clear HA
     simp only[fD.l2,List.length_map]at H
     by_cases d0:0≤q_1
     rotate_left
     ·rw[ig d0]at H
      exact absurd H (by simp)
     rw[ip d0]at H
     by_cases d1:q_1≤(ps.length:Int)
     rotate_left
     ·rw[ig d1]at H
      exact absurd H (by simp)
     rw[ip d1]at H
     by_cases d2:ps.length<5864062014805
     rotate_left
     ·rw[ig d2]at H
      exact absurd H (by simp)
     rw[ip d2]at H
     have LM:=Az.mk d2
     have hq0:=Az.mk d0
     have hq1:=Az.mk d1
     by_cases d3:q_1>0
     rotate_left
     ·rw[ig d3]at H
      have d3b:decide (q_1>0)=false:=decide_eq_false d3
      have d3c:decide (0<q_1)=false:=decide_eq_false d3
      clear d0 d1 d2 d3
      have H':=Az.mk H
      clear H
      obtain⟨DD,hcut1,hcut2,hrd0⟩:=ts_cuts (A:=A) (Kd.R_reads' HO.out).2.1 hq0.out hq1.out
      have hrd:=Az.mk hrd0
      clear hrd0
      have hdl:ps.length - q_1.toNat=(ps.drop q_1.toNat).length:=List.length_drop.symm
      clear hdl
      go_wp2
      go_quiet (fail)
      go_wp2_with (first|((with_reducible refine gtD (N:=65) rfl ?_);refine Kd.R_lit stt_k (w0:=w) w.heap.size 25 ?hg (N:=65) ?hd (xs:=([]:List (List Int × Nat))) (inner:=[]) (ok:=fun k=>some k≠(Value.slice A ps.length c).ownBlock) (okp:=fun _=>False) ?hr ?hp (fun _ hk=>hk.elim) ?hf ?hB ?hS (by simp) ?_;(case hd=>rfl);(case hg=>rfl);(case hr=>first|(go_simp;done)|(go_simp;rfl));(case hp=>exact Reps.none _ _);(case hf=>exact fun he=>Nat.lt_irrefl _ (Kd.R_lt z33_0 _ he.symm));(case hB=>exact(by first|exact HB.out|exact pbN HB.out _));(case hS=>exact(by first|exact HB.out.size|exact(pbN HB.out _).size));intro vl W2 ho hb hg hat;have HVl:=Az.mk ho;have HNl:=Az.mk (ts_new hat);have HBW:=Az.mk (ts_below hg);have HRd:=Az.mk (ts_rows (vl:=vl) z33_0 HBW.out HNl.out);have HFl:=Az.mk (show ∀k,W2.heap.size≤k→some k≠(Value.slice A ps.length c).ownBlock from fun k hk he=>by have:=Kd.R_lt (Kd.R_below z33_0 HBW.out) k he.symm;omega);have HB2:=Az.mk hb;clear ho hb hg hat)|((with_reducible refine gate_builtin (b:= .append) (xs:= #[.tmp 65, .tmp 68]) rfl ?_);at_builtin;refine Kd.R_append_rows stt_k (Rr:=stt_k.M W2 w.heap.size (fun k=>some k≠(Value.slice A ps.length c).ownBlock∧some k≠vl.ownBlock)) (w0:=w) w.heap.size rfl (.tmp 65) (.tmp 68) 24 25 (.slice none 0 0) 24 rfl Try.underlying24 info25 rfl (by decide) (by omega) vl [] (ps.drop q_1.toNat) _ _ _ (fun k=>some k≠(Value.slice A ps.length c).ownBlock) (fun k=>some k≠(Value.slice A ps.length c).ownBlock∧some k≠vl.ownBlock) rfl rfl ?aO ?aR (fun _ _ h=>h) (fun k hk=>hk) ?aF ?aB ?aS ?aL ?_;(case aR=>exact hrd.out _ _ _ _ HRd.out);(case aB=>exact HB2.out);(case aF=>exact HFl.out);(case aO=>exact HVl.out);(case aS=>exact HB2.out.size);(case aL=>have:=LM.out;show(0+_)*24≤_;omega);intro v1 W4 ho hb hg hat;obtain⟨Ar,cr,er⟩:=Kd.R_slice ho;subst er;have HR:=Az.mk (show stt_k.R 25 W4 w.heap.size (fun k=>some k≠(Value.slice A ps.length c).ownBlock) (.slice Ar (ps.length - q_1.toNat) cr) (ps.drop q_1.toNat) from(show(([]:List (List Int × Nat)) ++ ps.drop q_1.toNat).length=ps.length - q_1.toNat by simp) ▸ ho);have HBX:=Az.mk (ts_keep HBW.out HNl.out hg);have Ag:=Az.mk (Kd.R_below z33_0 HBX.out);have HOw4:=Az.mk (Kd.R_below (by first|exact HOw.out|exact Kd.R_drewN HOw.out _) HBX.out);have HB4:=Az.mk hb;clear ho hb hat hg HVl HRd HFl HB2 HBX HBW HNl HO HOw HB;have HO:=Ag;have HOw:=HOw4;have HB:=HB4;clear Ag HOw4 HB4)|((with_reducible refine gate_builtin (b:= .append) (xs:= #[.tmp 72, .tmp 74]) rfl ?_);at_builtin;refine Kd.R_append stt_k (w0:=w) w.heap.size rfl (.tmp 72) (.tmp 74) 24 25 (.slice none 0 0) 24 rfl Try.underlying24 info25 rfl (by decide) (by omega) (.slice A q_1.toNat c) (ps.take q_1.toNat) (row,go) [.slice (some ⟨go,0,none⟩) row.length cw] (fun _=>True) (fun k=>k=go) rfl rfl ?aP ?aK (fun _ _=>trivial) ?aO ?aB ?aS ?aL ?_;(case aP=>exact ts_M (by first|exact HOw.out|exact Kd.R_drewN HOw.out _));(case aK=>exact fun k hk=>⟨trivial,by rw[hk,ts_cap (y:=ps.length)];exact ts_far (N:=0) z33_0 (by first|exact HOw.out|exact Kd.R_drewN HOw.out _)⟩);(case aO=>exact Kd.R_take z33_0 (by have:=hq0.out;have:=hq1.out;omega));(case aB=>exact(by first|exact HB.out|exact pbN HB.out _));(case aS=>exact(by first|exact HB.out.size|exact(pbN HB.out _).size));(case aL=>have:=LM.out;rw[List.length_take];omega);intro v1 W5 ho hb hg hat;have Ah:=Az.mk (Kd.R_after (ts_rest (q:=q_1.toNat) (by first|exact HR.out|exact Kd.R_drewN HR.out _)) hg hat);have HV5:=Az.mk ho;have HB5:=Az.mk hb;have HG5:=Az.mk hg;clear ho hb hg hat HR HO HB)|((with_reducible refine gate_builtin (b:= .append) (xs:= #[.tmp 75, .tmp 76]) rfl ?_);at_builtin;refine Kd.R_append_rows stt_k (w0:=w) w.heap.size rfl (.tmp 75) (.tmp 76) 24 25 (.slice none 0 0) 24 rfl Try.underlying24 info25 rfl (by decide) (by omega) v1 (ps.take q_1.toNat ++ [(row,go)]) (ps.drop q_1.toNat) _ _ _ (fun _=>True) _ rfl rfl ?aO (ts_reads Ah.out) (fun _ _ h=>h) ?aK (fun _ _=>trivial) ?aB ?aS ?aL ?_;(case aK=>exact fun k hk=>⟨trivial,hk.1.2⟩);(case aB=>exact HB5.out);(case aO=>exact HV5.out);(case aS=>exact HB5.out.size);(case aL=>have:=LM.out;have:=hq0.out;have:=hq1.out;rw[List.length_append,List.length_take,List.length_singleton];omega);intro v2 W6 ho hb hg hat;have HS6:=Az.mk (show go<W6.heap.size from by first|exact ts_size HOw.out HG5.out hg|exact ts_size (Kd.R_drewN HOw.out _) HG5.out hg);obtain⟨A6,c6,e6⟩:=Kd.R_slice ho;subst e6;have E6:=Az.mk (show((ps.take q_1.toNat ++ [(row,go)]) ++ ps.drop q_1.toNat).length=ps.length+1 from by rw[List.length_append,List.length_append,List.length_take,List.length_drop,List.length_singleton];have:=hq0.out;have:=hq1.out;omega);rw[E6.out]at ho;have Ai:=Az.mk ho;have HB6:=Az.mk hb;clear ho hb hg hat Ah HV5 HB5 HG5 HOw))
      all_goals (go_roundg k3;(case measure=>have:=HK1.out;have:=HK2.out;have:=HK3.out;omega);(case rel=>exact⟨(ps.take q_1.toNat ++ [(row,go)]) ++ ps.drop q_1.toNat,_,A6,c6,(by rw[E6.out];congr 1;have:=hq0.out;have:=hq1.out;omega),rfl,⟨by rw[ts_map];exact H'.out⟩,⟨by have:=HK1.out;have:=HK2.out;have:=HK3.out;omega⟩,⟨by rw[E6.out];first|exact Ai.out|exact Kd.R_drewN Ai.out _⟩,⟨by first|exact HB6.out|exact pbN HB6.out _⟩,⟨ts_labels HLB.out (by first|exact HS6.out|exact Nat.lt_of_lt_of_le HS6.out (pbN (Below.refl 0 _) _).size)⟩⟩))
     rw[ip d3]at H
     obtain⟨g0,eg0⟩:=stt_some HO.out (by omega)
     subst eg0
     obtain⟨Z,hZ⟩:∃j_:Int,q_1 - 1=j_:=⟨_,rfl⟩
     obtain⟨A1,c1,hxr,znq,hR1⟩:=stt_at HO.out (show 0≤Z by omega) (by omega)
     have z0:(0≤Z)=True:=ets (by omega)
     have z1:=ets znq
     have d3b:decide (q_1>0)=true:=ode d3
     have d3c:decide (0<q_1)=true:=ode d3
     have hqw:IntKind.i64.wrap (q_1 - 1)=Z:=(i64_w _).trans ((stt_w1 d3 d1 d2).trans hZ)
     have hqw2:wrap64 (q_1 - 1)=Z:=(stt_w1 d3 d1 d2).trans hZ
     rw[hZ]at H
     clear hZ znq d0 d1 d2 d3
     by_cases e1:0<(rd_L1 (ps.map Prod.fst) Z).length
     rotate_left
     ·rw[ig e1]at H
      exact absurd H (by simp)
     rw[ip e1]at H
     obtain⟨g1,eg1,Av⟩:=stt_first hR1 e1
     subst eg1
     have hxo:=stt_head HOw.out HP.out
     obtain⟨Y,hY⟩:∃j_:Int,rd (rd_L1 (ps.map Prod.fst) Z) 0=j_:=⟨_,rfl⟩
     obtain⟨X,hX⟩:∃j_:Int,rd row 0=j_:=⟨_,rfl⟩
     rw[hY]at Av H
     rw[hX]at hxo H
     obtain⟨n1,hn1⟩:∃n_:Nat,(rd_L1 (ps.map Prod.fst) Z).length=n_:=⟨_,rfl⟩
     rw[hn1]at hxr e1
     have zn1:((0:Int)<(n1:Int))=True:=ets (by omega)
     have zn2:(0<n1)=True:=ets e1
     have zo1:((0:Int)<(row.length:Int))=True:=ets (by have:=HP.out;omega)
     have zo2:(0<row.length)=True:=ets HP.out
     clear hY hX hn1 hR1 e1
     by_cases d4:Y>X
     ·rw[ip d4]at H
      have d4b:decide (Y>X)=true:=ode d4
      have d4c:decide (X<Y)=true:=ode d4
      clear d4
      have H':=Az.mk H
      clear H
      go_wp2
      go_quiet (fail)
      go_wp2
      go_roundg k3
      case measure=>have:=HK3.out;omega
      case rel=>exact⟨_,rfl,H',⟨by have:=HK3.out;omega⟩,⟨by first|exact HO.out|exact Kd.R_drewN HO.out _⟩,⟨by first|exact HB.out|exact pbN HB.out _⟩,⟨by first|exact HOw.out|exact Kd.R_drewN HOw.out _⟩⟩
     rw[ig d4]at H
     have d4b:decide (Y>X)=false:=decide_eq_false d4
     have d4c:decide (X<Y)=false:=decide_eq_false d4
     clear d4
     have H':=Az.mk H
     clear H
     obtain⟨DD,hcut1,hcut2,hrd0⟩:=ts_cuts (A:=(some ⟨g0,0,none⟩)) (Kd.R_reads' HO.out).2.1 hq0.out hq1.out
     have hrd:=Az.mk hrd0
     clear hrd0
     have hdl:ps.length - q_1.toNat=(ps.drop q_1.toNat).length:=List.length_drop.symm
     clear hdl
     go_wp2
     go_quiet (fail)
     go_wp2_with (first|((with_reducible refine gtD (N:=65) rfl ?_);refine Kd.R_lit stt_k (w0:=w) w.heap.size 25 ?hg (N:=65) ?hd (xs:=([]:List (List Int × Nat))) (inner:=[]) (ok:=fun k=>some k≠(Value.slice (some ⟨g0,0,none⟩) ps.length c).ownBlock) (okp:=fun _=>False) ?hr ?hp (fun _ hk=>hk.elim) ?hf ?hB ?hS (by simp) ?_;(case hd=>rfl);(case hg=>rfl);(case hr=>first|(go_simp;done)|(go_simp;rfl));(case hp=>exact Reps.none _ _);(case hf=>exact fun he=>Nat.lt_irrefl _ (Kd.R_lt z33_0 _ he.symm));(case hB=>exact(by first|exact HB.out|exact pbN HB.out _));(case hS=>exact(by first|exact HB.out.size|exact(pbN HB.out _).size));intro vl W2 ho hb hg hat;have HVl:=Az.mk ho;have HNl:=Az.mk (ts_new hat);have HBW:=Az.mk (ts_below hg);have HRd:=Az.mk (ts_rows (vl:=vl) z33_0 HBW.out HNl.out);have HFl:=Az.mk (show ∀k,W2.heap.size≤k→some k≠(Value.slice (some ⟨g0,0,none⟩) ps.length c).ownBlock from fun k hk he=>by have:=Kd.R_lt (Kd.R_below z33_0 HBW.out) k he.symm;omega);have HB2:=Az.mk hb;clear ho hb hg hat)|((with_reducible refine gate_builtin (b:= .append) (xs:= #[.tmp 65, .tmp 68]) rfl ?_);at_builtin;refine Kd.R_append_rows stt_k (Rr:=stt_k.M W2 w.heap.size (fun k=>some k≠(Value.slice (some ⟨g0,0,none⟩) ps.length c).ownBlock∧some k≠vl.ownBlock)) (w0:=w) w.heap.size rfl (.tmp 65) (.tmp 68) 24 25 (.slice none 0 0) 24 rfl Try.underlying24 info25 rfl (by decide) (by omega) vl [] (ps.drop q_1.toNat) _ _ _ (fun k=>some k≠(Value.slice (some ⟨g0,0,none⟩) ps.length c).ownBlock) (fun k=>some k≠(Value.slice (some ⟨g0,0,none⟩) ps.length c).ownBlock∧some k≠vl.ownBlock) rfl rfl ?aO ?aR (fun _ _ h=>h) (fun k hk=>hk) ?aF ?aB ?aS ?aL ?_;(case aR=>exact hrd.out _ _ _ _ HRd.out);(case aB=>exact HB2.out);(case aF=>exact HFl.out);(case aO=>exact HVl.out);(case aS=>exact HB2.out.size);(case aL=>have:=LM.out;show(0+_)*24≤_;omega);intro v1 W4 ho hb hg hat;obtain⟨Ar,cr,er⟩:=Kd.R_slice ho;subst er;have HR:=Az.mk (show stt_k.R 25 W4 w.heap.size (fun k=>some k≠(Value.slice (some ⟨g0,0,none⟩) ps.length c).ownBlock) (.slice Ar (ps.length - q_1.toNat) cr) (ps.drop q_1.toNat) from(show(([]:List (List Int × Nat)) ++ ps.drop q_1.toNat).length=ps.length - q_1.toNat by simp) ▸ ho);have HBX:=Az.mk (ts_keep HBW.out HNl.out hg);have Ag:=Az.mk (Kd.R_below z33_0 HBX.out);have HOw4:=Az.mk (Kd.R_below (by first|exact HOw.out|exact Kd.R_drewN HOw.out _) HBX.out);have HB4:=Az.mk hb;clear ho hb hat hg HVl HRd HFl HB2 HBX HBW HNl HO HOw HB;have HO:=Ag;have HOw:=HOw4;have HB:=HB4;clear Ag HOw4 HB4)|((with_reducible refine gate_builtin (b:= .append) (xs:= #[.tmp 72, .tmp 74]) rfl ?_);at_builtin;refine Kd.R_append stt_k (w0:=w) w.heap.size rfl (.tmp 72) (.tmp 74) 24 25 (.slice none 0 0) 24 rfl Try.underlying24 info25 rfl (by decide) (by omega) (.slice (some ⟨g0,0,none⟩) q_1.toNat c) (ps.take q_1.toNat) (row,go) [.slice (some ⟨go,0,none⟩) row.length cw] (fun _=>True) (fun k=>k=go) rfl rfl ?aP ?aK (fun _ _=>trivial) ?aO ?aB ?aS ?aL ?_;(case aP=>exact ts_M (by first|exact HOw.out|exact Kd.R_drewN HOw.out _));(case aK=>exact fun k hk=>⟨trivial,by rw[hk,ts_cap (y:=ps.length)];exact ts_far (N:=0) z33_0 (by first|exact HOw.out|exact Kd.R_drewN HOw.out _)⟩);(case aO=>exact Kd.R_take z33_0 (by have:=hq0.out;have:=hq1.out;omega));(case aB=>exact(by first|exact HB.out|exact pbN HB.out _));(case aS=>exact(by first|exact HB.out.size|exact(pbN HB.out _).size));(case aL=>have:=LM.out;rw[List.length_take];omega);intro v1 W5 ho hb hg hat;have Ah:=Az.mk (Kd.R_after (ts_rest (q:=q_1.toNat) (by first|exact HR.out|exact Kd.R_drewN HR.out _)) hg hat);have HV5:=Az.mk ho;have HB5:=Az.mk hb;have HG5:=Az.mk hg;clear ho hb hg hat HR HO HB)|((with_reducible refine gate_builtin (b:= .append) (xs:= #[.tmp 75, .tmp 76]) rfl ?_);at_builtin;refine Kd.R_append_rows stt_k (w0:=w) w.heap.size rfl (.tmp 75) (.tmp 76) 24 25 (.slice none 0 0) 24 rfl Try.underlying24 info25 rfl (by decide) (by omega) v1 (ps.take q_1.toNat ++ [(row,go)]) (ps.drop q_1.toNat) _ _ _ (fun _=>True) _ rfl rfl ?aO (ts_reads Ah.out) (fun _ _ h=>h) ?aK (fun _ _=>trivial) ?aB ?aS ?aL ?_;(case aK=>exact fun k hk=>⟨trivial,hk.1.2⟩);(case aB=>exact HB5.out);(case aO=>exact HV5.out);(case aS=>exact HB5.out.size);(case aL=>have:=LM.out;have:=hq0.out;have:=hq1.out;rw[List.length_append,List.length_take,List.length_singleton];omega);intro v2 W6 ho hb hg hat;have HS6:=Az.mk (show go<W6.heap.size from by first|exact ts_size HOw.out HG5.out hg|exact ts_size (Kd.R_drewN HOw.out _) HG5.out hg);obtain⟨A6,c6,e6⟩:=Kd.R_slice ho;subst e6;have E6:=Az.mk (show((ps.take q_1.toNat ++ [(row,go)]) ++ ps.drop q_1.toNat).length=ps.length+1 from by rw[List.length_append,List.length_append,List.length_take,List.length_drop,List.length_singleton];have:=hq0.out;have:=hq1.out;omega);rw[E6.out]at ho;have Ai:=Az.mk ho;have HB6:=Az.mk hb;clear ho hb hg hat Ah HV5 HB5 HG5 HOw))
     all_goals (go_roundg k3;(case measure=>have:=HK1.out;have:=HK2.out;have:=HK3.out;omega);(case rel=>exact⟨(ps.take q_1.toNat ++ [(row,go)]) ++ ps.drop q_1.toNat,_,A6,c6,(by rw[E6.out];congr 1;have:=hq0.out;have:=hq1.out;omega),rfl,⟨by rw[ts_map];exact H'.out⟩,⟨by have:=HK1.out;have:=HK2.out;have:=HK3.out;omega⟩,⟨by rw[E6.out];first|exact Ai.out|exact Kd.R_drewN Ai.out _⟩,⟨by first|exact HB6.out|exact pbN HB6.out _⟩,⟨ts_labels HLB.out (by first|exact HS6.out|exact Nat.lt_of_lt_of_le HS6.out (pbN (Below.refl 0 _) _).size)⟩⟩))
  rw[ig c0']at H
  exact absurd H (by simp)
theorem bw_34 {n:Nat}{v v':World} (h:Below n v v':=by repeat(first|(with_reducible first|exact HB.out|apply bwA|apply pbN|apply bwD)|exact HB.out)):Below n v v':=h
def gW.l0:Nat→List Int→List Int→Int→Option (Bool)
 |0,_,_,_=>none
 |k+1,x0,x1,x5=>if x5<(x0.length:Int) then(if 0≤x5 then(if x5<(x1.length:Int) then(if(rd x0 x5)=(rd x1 x5) then(gW.l0 k x0 x1 (wrap64 (x5+1))) else(some false)) else(none)) else(none)) else(some true)
def gW.f (k:Nat) (l0:List Int) (l1:List Int):Option (Bool):=if(l0.length:Int)=(l1.length:Int) then(gW.l0 k l0 l1 0) else(some false)
theorem gW.calls (k:Nat) (A0:Option Addr) (c0:Nat) (l0:List Int) (A1:Option Addr) (c1:Nat) (l1:List Int) (r:Bool) (w:World) (Av:Kd.C (Kd.int .i64) w A0 l0.length l0) (Ax:l0.length≤c0) (Ay:Kd.C (Kd.int .i64) w A1 l1.length l1) (Ba:l1.length≤c1) (h:gW.f k l0 l1=some r):
  Calls Try.prog 67 #[.slice A0 l0.length c0, .slice A1 l1.length c1] w fun e w'=>e= .returned (.bool r)∧Drawn0 w w':=by
 have Bb:=Az.mk Av
 have Bh:=Az.mk Ax
 clear Av Ax
 have Bc:=Az.mk Ay
 have Bi:=Az.mk Ba
 clear Ay Ba
 have H:=h
 unfold gW.f at H
 clear h
 by_cases c3:(l0.length:Int)=(l1.length:Int)
 rotate_left
 ·rw[ig c3]at H
  have Aj:=beq_eq_false_iff_ne.mpr c3
  have Ak:=bne_iff_ne.mpr c3
  have Al:(l0.length== l1.length)=false:=by first|simpa using c3|(simp at c3 ⊢;omega)
  obtain rfl:=Option.some.inj H
  go_enter Try.func67,Try.ntmps67
  go_wp2
  repeat(go_quiet (fail);try go_wp2)
  go_ret
  exact⟨rq2,kd⟩
 rw[ip c3]at H
 have Aj:=beq_iff_eq.mpr c3
 have Ak:=bne_eq_false_iff_eq.mpr c3
 have Al:(l0.length== l1.length)=true:=by first|simpa using c3|(simp at c3 ⊢;omega)
 clear c3
 have H':=Az.mk H
 clear H
 go_enter Try.func67,Try.ntmps67
 go_wp2
 repeat(go_quiet (fail);try go_wp2)
 go_loopg [5] k (fun kq v5 w'=>∃(Aa:Int),v5= .int .i64 Aa∧Az (gW.l0 kq l0 l1 Aa=some r)∧Az (kq≤k)∧Drawn0 w w')
 case atStart=>exact⟨(0),rq2,H',⟨Nat.le_refl _⟩,kd⟩
 clear H'
 try clear c1
 try clear c3
 try clear Aj
 try clear Ak
 try clear Al
 obtain⟨Aa,rfl,HA,HK1,⟨m1,rfl⟩⟩:=hrel
 cases gk with
 |zero=>exact absurd HA.out (by simp[gW.l0])
 |succ k1=>
  have H:=HA.out
  clear HA
  simp only[gW.l0]at H
  by_cases c4:Aa<(l0.length:Int)
  rotate_left
  ·rw[ig c4]at H
   have Aq:=decide_eq_false c4
   clear c4
   obtain rfl:=Option.some.inj H
   go_wp2
   repeat(go_quiet (fail);try go_wp2)
   go_ret
   exact⟨rq2,kd⟩
  rw[ip c4]at H
  have Aq:=ode c4
  clear c4
  by_cases c5:0≤Aa
  rotate_left
  ·rw[ig c5]at H
   exact absurd H (by simp)
  rw[ip c5]at H
  have Bd:=ode c5
  clear c5
  by_cases c6:Aa<(l1.length:Int)
  rotate_left
  ·rw[ig c6]at H
   exact absurd H (by simp)
  rw[ip c6]at H
  have Bf:=ode c6
  clear c6
  by_cases c7:(rd l0 Aa)=(rd l1 Aa)
  rotate_left
  ·rw[ig c7]at H
   have As:=beq_eq_false_iff_ne.mpr c7
   have Au:=bne_iff_ne.mpr c7
   obtain rfl:=Option.some.inj H
   have Ab:0≤(Aa:Int):=od
   have Ac:Aa<(l0.length:Int):=od
   obtain⟨Am,Ah,Af⟩:=Kd.at_int Bb.out Aa Ab Ac
   cases Ah
   replace Ab:=ets Ab
   replace Ac:=ets Ac
   have Ad:0≤(Aa:Int):=od
   have Ae:Aa<(l1.length:Int):=od
   obtain⟨Ap,Ai,Ag⟩:=Kd.at_int Bc.out Aa Ad Ae
   cases Ai
   replace Ad:=ets Ad
   replace Ae:=ets Ae
   go_wp2
   repeat(go_quiet (fail);try go_wp2)
   go_ret
   exact⟨rq2,kd⟩
  rw[ip c7]at H
  have As:=beq_iff_eq.mpr c7
  have Au:=bne_eq_false_iff_eq.mpr c7
  clear c7
  have H':=Az.mk H
  clear H
  have Ab:0≤(Aa:Int):=od
  have Ac:Aa<(l0.length:Int):=od
  obtain⟨Am,Ah,Af⟩:=Kd.at_int Bb.out Aa Ab Ac
  cases Ah
  replace Ab:=ets Ab
  replace Ac:=ets Ac
  have Ad:0≤(Aa:Int):=od
  have Ae:Aa<(l1.length:Int):=od
  obtain⟨Ap,Ai,Ag⟩:=Kd.at_int Bc.out Aa Ad Ae
  cases Ai
  replace Ad:=ets Ad
  replace Ae:=ets Ae
  go_wp2
  repeat(go_quiet (fail);try go_wp2)
  go_roundg k1
  case measure=>have:=HK1.out;omega
  case rel=>exact⟨(wrap64 (Aa+1)),rq2,H',⟨by have:=HK1.out;omega⟩,kd⟩
def jD.l0:Nat→List (List Int)→List (List Int)→Int→Option (Bool)
 |0,_,_,_=>none
 |k+1,x0,x1,x5=>if x5<(x0.length:Int) then(if 0≤x5 then(if x5<(x1.length:Int) then((gW.f k (rd_L1 x0 x5) (rd_L1 x1 x5)).bind fun t676=>(if t676=true then(jD.l0 k x0 x1 (wrap64 (x5+1))) else(some false))) else(none)) else(none)) else(some true)
def jD.f (k:Nat) (l0:List (List Int)) (l1:List (List Int)):Option (Bool):=if(l0.length:Int)=(l1.length:Int) then(jD.l0 k l0 l1 0) else(some false)
theorem jD.calls (k:Nat) (A0:Option Addr) (c0:Nat) (l0:List (List Int)) (A1:Option Addr) (c1:Nat) (l1:List (List Int)) (r:Bool) (w:World) (Bo:Kd.C (Kd.slice 3 (Kd.int .i64)) w A0 l0.length l0) (Bp:l0.length≤c0) (Bq:Kd.C (Kd.slice 3 (Kd.int .i64)) w A1 l1.length l1) (Br:l1.length≤c1) (h:jD.f k l0 l1=some r):
  Calls Try.prog 50 #[.slice A0 l0.length c0, .slice A1 l1.length c1] w fun e w'=>e= .returned (.bool r)∧Drawn0 w w':=by
 have Bs:=Az.mk Bo
 have Bw:=Az.mk Bp
 clear Bo Bp
 have Bt:=Az.mk Bq
 have Bx:=Az.mk Br
 clear Bq Br
 have H:=h
 unfold jD.f at H
 clear h
 by_cases c3:(l0.length:Int)=(l1.length:Int)
 rotate_left
 ·rw[ig c3]at H
  have Bh:=beq_eq_false_iff_ne.mpr c3
  have Bi:=bne_iff_ne.mpr c3
  have Bj:(l0.length== l1.length)=false:=by first|simpa using c3|(simp at c3 ⊢;omega)
  obtain rfl:=Option.some.inj H
  go_enter Try.func50,Try.ntmps50
  go_wp2
  repeat(go_quiet (fail);try go_wp2)
  go_ret
  exact⟨rq2,kd⟩
 rw[ip c3]at H
 have Bh:=beq_iff_eq.mpr c3
 have Bi:=bne_eq_false_iff_eq.mpr c3
 have Bj:(l0.length== l1.length)=true:=by first|simpa using c3|(simp at c3 ⊢;omega)
 clear c3
 have H':=Az.mk H
 clear H
 go_enter Try.func50,Try.ntmps50
 go_wp2
 repeat(go_quiet (fail);try go_wp2)
 go_loopg [5] k (fun kq v5 w'=>∃(Aa:Int),v5= .int .i64 Aa∧Az (jD.l0 kq l0 l1 Aa=some r)∧Az (kq≤k)∧Drawn0 w w')
 case atStart=>exact⟨(0),rq2,H',⟨Nat.le_refl _⟩,kd⟩
 clear H'
 try clear c1
 try clear c3
 try clear Bh
 try clear Bi
 try clear Bj
 obtain⟨Aa,rfl,HA,HK1,⟨m1,rfl⟩⟩:=hrel
 cases gk with
 |zero=>exact absurd HA.out (by simp[jD.l0])
 |succ k1=>
  have H:=HA.out
  clear HA
  simp only[jD.l0]at H
  by_cases c4:Aa<(l0.length:Int)
  rotate_left
  ·rw[ig c4]at H
   have Bm:=decide_eq_false c4
   clear c4
   obtain rfl:=Option.some.inj H
   go_wp2
   repeat(go_quiet (fail);try go_wp2)
   go_ret
   exact⟨rq2,kd⟩
  rw[ip c4]at H
  have Bm:=ode c4
  clear c4
  by_cases c5:0≤Aa
  rotate_left
  ·rw[ig c5]at H
   exact absurd H (by simp)
  rw[ip c5]at H
  have Bu:=ode c5
  clear c5
  by_cases c6:Aa<(l1.length:Int)
  rotate_left
  ·rw[ig c6]at H
   exact absurd H (by simp)
  rw[ip c6]at H
  have Bv:=ode c6
  clear c6
  replace H:=bez H
  obtain⟨Bn,A7,H⟩:=H
  try dsimp only at H
  by_cases c8:Bn=true
  rotate_left
  ·replace c8:=Bool.eq_false_iff.mpr c8
   subst c8
   rw[ig ff]at H
   obtain rfl:=Option.some.inj H
   have Ap:0≤(Aa:Int):=od
   have Aq:Aa<(l0.length:Int):=od
   obtain⟨Bk,Ay,Ba,Bb,Av,Aj,Ak⟩:=at_L1 Bs.out Aa Ap Aq
   cases Bb
   have Ab:=Az.mk Ak
   have Ac:=Az.mk Aj
   clear Ak Aj
   replace Ap:=ets Ap
   replace Aq:=ets Aq
   have As:0≤(Aa:Int):=od
   have Au:Aa<(l1.length:Int):=od
   obtain⟨Bl,Bc,Bd,Bf,Ax,Al,Am⟩:=at_L1 Bt.out Aa As Au
   cases Bf
   have Ad:=Az.mk Am
   have Ae:=Az.mk Al
   clear Am Al
   replace As:=ets As
   replace Au:=ets Au
   go_wp2_with ((go_at_call 67;(with_reducible refine(gW.calls k1 _ _ (rd_L1 l0 Aa) _ _ (rd_L1 l1 Aa) false _ ?Af ?Ag ?Ah ?Ai A7.out).mono ?_);(case Af=>exact kC Ab.out);(case Ag=>exact Ac.out);(case Ah=>exact kC Ad.out);(case Ai=>exact Ae.out);rintro e w' ⟨rfl,⟨nd,rfl⟩⟩;(try first|exact⟨rfl,_,World.drewN_drewN _ _ _⟩|exact⟨rfl,_,Eq.trans (World.drewN_drewN _ _ _) (congrArg (World.drewN _) (Nat.add_assoc _ _ _))⟩)))
   repeat(go_quiet ((go_at_call 67;(with_reducible refine(gW.calls k1 _ _ (rd_L1 l0 Aa) _ _ (rd_L1 l1 Aa) false _ ?Af ?Ag ?Ah ?Ai A7.out).mono ?_);(case Af=>exact kC Ab.out);(case Ag=>exact Ac.out);(case Ah=>exact kC Ad.out);(case Ai=>exact Ae.out);rintro e w' ⟨rfl,⟨nd,rfl⟩⟩;(try first|exact⟨rfl,_,World.drewN_drewN _ _ _⟩|exact⟨rfl,_,Eq.trans (World.drewN_drewN _ _ _) (congrArg (World.drewN _) (Nat.add_assoc _ _ _))⟩)));try go_wp2_with ((go_at_call 67;(with_reducible refine(gW.calls k1 _ _ (rd_L1 l0 Aa) _ _ (rd_L1 l1 Aa) false _ ?Af ?Ag ?Ah ?Ai A7.out).mono ?_);(case Af=>exact kC Ab.out);(case Ag=>exact Ac.out);(case Ah=>exact kC Ad.out);(case Ai=>exact Ae.out);rintro e w' ⟨rfl,⟨nd,rfl⟩⟩;(try first|exact⟨rfl,_,World.drewN_drewN _ _ _⟩|exact⟨rfl,_,Eq.trans (World.drewN_drewN _ _ _) (congrArg (World.drewN _) (Nat.add_assoc _ _ _))⟩))))
   go_ret
   exact⟨rq2,kd⟩
  subst c8
  rw[ip rfl]at H
  have H':=Az.mk H
  clear H
  have Ap:0≤(Aa:Int):=od
  have Aq:Aa<(l0.length:Int):=od
  obtain⟨Bk,Ay,Ba,Bb,Av,Aj,Ak⟩:=at_L1 Bs.out Aa Ap Aq
  cases Bb
  have Ab:=Az.mk Ak
  have Ac:=Az.mk Aj
  clear Ak Aj
  replace Ap:=ets Ap
  replace Aq:=ets Aq
  have As:0≤(Aa:Int):=od
  have Au:Aa<(l1.length:Int):=od
  obtain⟨Bl,Bc,Bd,Bf,Ax,Al,Am⟩:=at_L1 Bt.out Aa As Au
  cases Bf
  have Ad:=Az.mk Am
  have Ae:=Az.mk Al
  clear Am Al
  replace As:=ets As
  replace Au:=ets Au
  go_wp2_with ((go_at_call 67;(with_reducible refine(gW.calls k1 _ _ (rd_L1 l0 Aa) _ _ (rd_L1 l1 Aa) true _ ?Af ?Ag ?Ah ?Ai A7.out).mono ?_);(case Af=>exact kC Ab.out);(case Ag=>exact Ac.out);(case Ah=>exact kC Ad.out);(case Ai=>exact Ae.out);rintro e w' ⟨rfl,⟨nd,rfl⟩⟩;(try first|exact⟨rfl,_,World.drewN_drewN _ _ _⟩|exact⟨rfl,_,Eq.trans (World.drewN_drewN _ _ _) (congrArg (World.drewN _) (Nat.add_assoc _ _ _))⟩)))
  repeat(go_quiet ((go_at_call 67;(with_reducible refine(gW.calls k1 _ _ (rd_L1 l0 Aa) _ _ (rd_L1 l1 Aa) true _ ?Af ?Ag ?Ah ?Ai A7.out).mono ?_);(case Af=>exact kC Ab.out);(case Ag=>exact Ac.out);(case Ah=>exact kC Ad.out);(case Ai=>exact Ae.out);rintro e w' ⟨rfl,⟨nd,rfl⟩⟩;(try first|exact⟨rfl,_,World.drewN_drewN _ _ _⟩|exact⟨rfl,_,Eq.trans (World.drewN_drewN _ _ _) (congrArg (World.drewN _) (Nat.add_assoc _ _ _))⟩)));try go_wp2_with ((go_at_call 67;(with_reducible refine(gW.calls k1 _ _ (rd_L1 l0 Aa) _ _ (rd_L1 l1 Aa) true _ ?Af ?Ag ?Ah ?Ai A7.out).mono ?_);(case Af=>exact kC Ab.out);(case Ag=>exact Ac.out);(case Ah=>exact kC Ad.out);(case Ai=>exact Ae.out);rintro e w' ⟨rfl,⟨nd,rfl⟩⟩;(try first|exact⟨rfl,_,World.drewN_drewN _ _ _⟩|exact⟨rfl,_,Eq.trans (World.drewN_drewN _ _ _) (congrArg (World.drewN _) (Nat.add_assoc _ _ _))⟩))))
  go_roundg k1
  case measure=>have:=HK1.out;omega
  case rel=>exact⟨(wrap64 (Aa+1)),rq2,H',⟨by have:=HK1.out;omega⟩,kd⟩
def jO.f (k:Nat) (l0:List (List Int)) (l1:List (List Int)):Option (Bool):=(fB.f k l0).bind fun t677=>(if t677=true then((fD.f k l0).bind fun t678=>((fD.f k l1).bind fun t681=>((jD.f k t678 t681).bind fun t684=>(some t684)))) else(some false))
theorem jO.calls (k:Nat) (A0:Option Addr) (c0:Nat) (l0:List (List Int)) (A1:Option Addr) (c1:Nat) (l1:List (List Int)) (r:Bool) (w:World) (As:Kd.C (Kd.slice 3 (Kd.int .i64)) w A0 l0.length l0) (Au:l0.length≤c0) (Av:Kd.C (Kd.slice 3 (Kd.int .i64)) w A1 l1.length l1) (Ax:l1.length≤c1) (h:jO.f k l0 l1=some r):
  Calls Try.prog 19 #[.slice A0 l0.length c0, .slice A1 l1.length c1] w fun e w'=>e= .returned (.bool r)∧Below w.heap.size w w':=by
 have Ak:=Az.mk As
 have Al:=Az.mk Au
 clear As Au
 have Ay:=Az.mk Av
 have Ba:=Az.mk Ax
 clear Av Ax
 have HB:=Az.mk (Below.refl w.heap.size w)
 have H:=h
 unfold jO.f at H
 clear h
 replace H:=bez H
 obtain⟨Am,A3,H⟩:=H
 try dsimp only at H
 by_cases c4:Am=true
 rotate_left
 ·replace c4:=Bool.eq_false_iff.mpr c4
  subst c4
  rw[ig ff]at H
  obtain rfl:=Option.some.inj H
  go_enter Try.func19,Try.ntmps19
  go_wp2_with (first|((with_reducible refine gtC (f:=28) rfl ?_);refine clz Try.func28 (some 6) #[.slice A0 l0.length c0] ?_;(with_reducible refine(fB.calls k _ _ l0 false _ ?Aa ?Ab A3.out).mono ?_);(case Aa=>exact kC Ak.out);(case Ab=>exact Al.out);rintro e Bj ⟨rfl,hb⟩;refine⟨_,rfl,?_⟩;replace HB:=Az.mk (bwT bw_34 hb);(try clear hb)))
  go_ret
  exact⟨rq1,bw_34⟩
 subst c4
 rw[ip rfl]at H
 replace H:=bez H
 obtain⟨Af,A5,H⟩:=H
 try dsimp only at H
 replace H:=bez H
 obtain⟨Ag,A6,H⟩:=H
 try dsimp only at H
 replace H:=bez H
 obtain⟨Ah,A7,H⟩:=H
 replace H:(some Ah)=some r:=H
 obtain rfl:=Option.some.inj H
 go_enter Try.func19,Try.ntmps19
 go_wp2_with (first|((with_reducible refine gtC (f:=28) rfl ?_);refine clz Try.func28 (some 6) #[.slice A0 l0.length c0] ?_;(with_reducible refine(fB.calls k _ _ l0 true _ ?Aa ?Ab A3.out).mono ?_);(case Aa=>exact kC Ak.out);(case Ab=>exact Al.out);rintro e w8 ⟨rfl,hb⟩;refine⟨_,rfl,?_⟩;replace HB:=Az.mk (bwT bw_34 hb);(try clear hb))|(go_at_call 22;(with_reducible refine(fD.calls k _ _ l0 Af _ ?Aa ?Ab A5.out).mono ?_);(case Aa=>exact kC (Kd.C_below Ak.out HB.out));(case Ab=>exact Al.out);rintro e w9 ⟨Bb,rfl,Ae,hb⟩;have Ac:=Az.mk (Kd.S_lower Ae (bwZ bw_34));replace HB:=Az.mk (bwT bw_34 hb);(try clear hb);(try clear Ae))|(go_at_call 22;(with_reducible refine(fD.calls k _ _ l1 Ag _ ?Aa ?Ab A6.out).mono ?_);(case Aa=>exact kC (Kd.C_below Ay.out HB.out));(case Ab=>exact Ba.out);rintro e Bk ⟨Bc,rfl,Ae,hb⟩;have Ad:=Az.mk (Kd.S_lower (Kd.S_new' Ae (Kd.S_lt (kS Ac.out))) (bwZ bw_34));replace Ac:=Az.mk (Kd.S_elder' (kS Ac.out) (Kd.S_base Ae) hb);replace HB:=Az.mk (bwT bw_34 hb);(try clear hb);(try clear Ae);obtain⟨Bd,Bf,Ap⟩:=Kd.S_slice Ac.out;subst Ap;obtain⟨Bh,Bi,Aq⟩:=Kd.S_slice Ad.out;subst Aq)|(go_at_call 50;(with_reducible refine(jD.calls k _ _ Af _ _ Ag Ah _ ?Aa ?Ab ?Ai ?Aj A7.out).mono ?_);(case Aa=>exact kC (Kd.S_reads' Ac.out).2.2);(case Ab=>exact(Kd.S_reads' Ac.out).2.1);(case Ai=>exact kC (Kd.S_reads' Ad.out).2.2);(case Aj=>exact(Kd.S_reads' Ad.out).2.1);rintro e w' ⟨rfl,⟨nd,rfl⟩⟩))
 go_ret
 exact⟨rq1,bw_34⟩
theorem bw_35 {n:Nat}{v v':World} (h:Below n v v':=by repeat(first|(with_reducible first|exact HB.out|apply bwA|apply pbN|apply bwD)|exact HB.out)):Below n v v':=h
mutual
def fV.l0:Nat→List (List Int)→List Int→Int→Option (Int)
 |0,_,_,_=>none
 |k+1,x0,x3,x4=>if x4<(x0.length:Int) then(if x3.length<17592186044416 then(fV.l0 k x0 (x3 ++ [x4]) (wrap64 (x4+1))) else(none)) else(fV.l1 k x0 x3 0)
def fV.l1:Nat→List (List Int)→List Int→Int→Option (Int)
 |0,_,_,_=>none
 |k+1,x0,x3,x5=>if x5<(x0.length:Int) then(fV.l2 k x0 x3 x5 0) else(fV.l4 k x0 x3 0 0)
def fV.l2:Nat→List (List Int)→List Int→Int→Int→Option (Int)
 |0,_,_,_,_=>none
 |k+1,x0,x3,x5,x6=>if x6<x5 then(fV.l3 k x0 x3 x5 x6 0) else(fV.l1 k x0 x3 (wrap64 (x5+1)))
def fV.l3:Nat→List (List Int)→List Int→Int→Int→Int→Option (Int)
 |0,_,_,_,_,_=>none
 |k+1,x0,x3,x5,x6,x7=>if x7<9 then(if 0≤x5 then(if x5<(x0.length:Int) then(if 0≤(wrap64 (Int.tdiv x7 3)) then(if(wrap64 (Int.tdiv x7 3))<((rd_L1 x0 x5).length:Int) then(if 0≤x6 then(if x6<(x0.length:Int) then(if 0≤(Int.tmod x7 3) then(if(Int.tmod x7 3)<((rd_L1 x0 x6).length:Int) then(if(rd (rd_L1 x0 x5) (wrap64 (Int.tdiv x7 3)))=(wrap64 (-(rd (rd_L1 x0 x6) (Int.tmod x7 3)))) then((fX.f k x3 x5).bind fun t695=>((fX.f k x3 x6).bind fun t696=>(if 0≤t695 then(if t695<(x3.length:Int) then(fV.l3 k x0 (x3.set (t695:Int).toNat t696) x5 x6 (wrap64 (x7+1))) else(none)) else(none)))) else(fV.l3 k x0 x3 x5 x6 (wrap64 (x7+1)))) else(none)) else(none)) else(none)) else(none)) else(none)) else(none)) else(none)) else(none)) else(fV.l2 k x0 x3 x5 (wrap64 (x6+1)))
def fV.l4:Nat→List (List Int)→List Int→Int→Int→Option (Int)
 |0,_,_,_,_=>none
 |k+1,x0,x3,x8,x9=>if x9<(x0.length:Int) then(if 0≤x9 then(if x9<(x3.length:Int) then((gJ.f ((rd x3 x9)== x9)).bind fun t699=>(fV.l4 k x0 x3 (wrap64 (x8+t699)) (wrap64 (x9+1)))) else(none)) else(none)) else(some x8)
end
def fV.f (k:Nat) (l0:List (List Int)):Option (Int):=fV.l0 k l0 (([]:List Int)) 0
theorem fV.calls (k:Nat) (A0:Option Addr) (c0:Nat) (l0:List (List Int)) (r:Int) (w:World) (El:Kd.C (Kd.slice 3 (Kd.int .i64)) w A0 l0.length l0) (Em:l0.length≤c0) (h:fV.f k l0=some r):
  Calls Try.prog 53 #[.slice A0 l0.length c0] w fun e w'=>e= .returned (.int .i64 r)∧Below w.heap.size w w':=by
 have Dk:=Az.mk El
 have Gg:=Az.mk Em
 clear El Em
 have HB:=Az.mk (Below.refl w.heap.size w)
 have H:=h
 unfold fV.f at H
 clear h
 obtain⟨Da,hy⟩:∃y_:List Int,y_=(([]:List Int)):=⟨_,rfl⟩
 replace H:(fV.l0 k l0 Da 0)=some r:=rh
 have Bo:=Az.mk hy
 clear hy
 have H':=Az.mk H
 clear H
 go_enter Try.func53,Try.ntmps53
 go_wp2_with (((with_reducible refine gtD (N:=10) rfl ?_);refine Kd.R_lit (Kd.int .i64) _ 3 ?hg (N:=10) ?hd (xs:=([]:List Int)) (inner:=[]) (ok:=fun _=>True) (okp:=fun _=>True) ?hr ?hp (fun _ hk=>hk) trivial (Below.refl _ _) (Nat.le_refl _) (by simp) ?_;(case hd=>rfl);(case hg=>rfl);(case hr=>first|(go_simp;done)|(go_simp;rfl));(case hp=>exact(Reps.none _ _));intro Dy w2 Bp hb hg_ hnew_;clear hg_ hnew_;(first|rw[←Bo.out]at Bp|(simp only[Int.reduceToNat]at Bp;rw[←Bo.out]at Bp));have Ce:=Az.mk (Kd.R_lower Bp (bwZ bw_35));replace HB:=Az.mk (bwT bw_35 hb);clear hb Bp))
 repeat(go_quiet (fail);try go_wp2_with (((with_reducible refine gtD (N:=10) rfl ?_);refine Kd.R_lit (Kd.int .i64) _ 3 ?hg (N:=10) ?hd (xs:=([]:List Int)) (inner:=[]) (ok:=fun _=>True) (okp:=fun _=>True) ?hr ?hp (fun _ hk=>hk) trivial (Below.refl _ _) (Nat.le_refl _) (by simp) ?_;(case hd=>rfl);(case hg=>rfl);(case hr=>first|(go_simp;done)|(go_simp;rfl));(case hp=>exact(Reps.none _ _));intro Dy w2 Bp hb hg_ hnew_;clear hg_ hnew_;(first|rw[←Bo.out]at Bp|(simp only[Int.reduceToNat]at Bp;rw[←Bo.out]at Bp));have Ce:=Az.mk (Kd.R_lower Bp (bwZ bw_35));replace HB:=Az.mk (bwT bw_35 hb);clear hb Bp)))
 go_loopg [3,4] k (fun kq v3 v4 w'=>∃(Bc:List Int) (As:Int),v4= .int .i64 As∧Az (fV.l0 kq l0 Bc As=some r)∧Az (kq≤k)∧Az (Kd.R (Kd.int .i64) 3 w' w.heap.size (fun _=>True) v3 Bc)∧Az (Below w.heap.size w w'))
 case atStart=>exact⟨(Da),(0),rq2,H',⟨Nat.le_refl _⟩,⟨kR Ce.out⟩,⟨bw_35⟩⟩
 clear H'
 obtain⟨Bc,As,rfl,HA,HK1,HO_3,HB⟩:=hrel
 cases gk with
 |zero=>exact absurd HA.out (by simp[fV.l0])
 |succ k1=>
  have H:=HA.out
  clear HA
  simp only[fV.l0]at H
  by_cases c4:As<(l0.length:Int)
  ·rw[ip c4]at H
   have Bq:=ode c4
   clear c4
   by_cases c5:Bc.length<17592186044416
   rotate_left
   ·rw[ig c5]at H
    exact absurd H (by simp)
   rw[ip c5]at H
   have LMc5:=Az.mk c5
   clear c5
   obtain⟨Db,hy⟩:∃y_:List Int,y_=(Bc ++ [As]):=⟨_,rfl⟩
   replace H:(fV.l0 k1 l0 Db (wrap64 (As+1)))=some r:=rh
   have Cf:=Az.mk hy
   clear hy
   have H':=Az.mk H
   clear H
   go_wp2_with (((with_reducible refine gate_builtin (b:= .append) (xs:= #[.tmp 17, .tmp 19]) rfl ?_);at_builtin;refine Kd.R_append (Kd.int .i64) (w0:=w) w.heap.size rfl (.tmp 17) (.tmp 19) 25 3 (.int .i64 0) 8 rfl Try.underlying25 info3 rfl (by decide) (by omega) u3 Bc As [.int .i64 As] (fun _=>True) (fun _=>False) rfl rfl ?aP (fun _ hk=>hk.elim) ?aF ?aO ?aB ?aS ?aL ?_;(case aP=>exact rfl);(case aB=>exact bw_35);(case aF=>exact(fun _ _=>trivial));(case aO=>exact(kR HO_3.out));(case aS=>exact(bwZ bw_35));(case aL=>have:=LMc5.out;omega);intro Dz w6 ho hb hg hat;rw[←Cf.out]at ho;have n0_:=Az.mk (hb);have n1_:=Az.mk (ho);clear HB;clear HO_3;have HB:=n0_;have Cg:=n1_;clear n0_ n1_;clear ho hb hg hat))
   repeat(go_quiet (fail);try go_wp2_with (((with_reducible refine gate_builtin (b:= .append) (xs:= #[.tmp 17, .tmp 19]) rfl ?_);at_builtin;refine Kd.R_append (Kd.int .i64) (w0:=w) w.heap.size rfl (.tmp 17) (.tmp 19) 25 3 (.int .i64 0) 8 rfl Try.underlying25 info3 rfl (by decide) (by omega) u3 Bc As [.int .i64 As] (fun _=>True) (fun _=>False) rfl rfl ?aP (fun _ hk=>hk.elim) ?aF ?aO ?aB ?aS ?aL ?_;(case aP=>exact rfl);(case aB=>exact bw_35);(case aF=>exact(fun _ _=>trivial));(case aO=>exact(kR HO_3.out));(case aS=>exact(bwZ bw_35));(case aL=>have:=LMc5.out;omega);intro Dz w6 ho hb hg hat;rw[←Cf.out]at ho;have n0_:=Az.mk (hb);have n1_:=Az.mk (ho);clear HB;clear HO_3;have HB:=n0_;have Cg:=n1_;clear n0_ n1_;clear ho hb hg hat)))
   go_roundg k1
   case measure=>have:=HK1.out;omega
   case rel=>exact⟨(Db),(wrap64 (As+1)),rq2,H',⟨by have:=HK1.out;omega⟩,⟨kR Cg.out⟩,⟨bw_35⟩⟩
  rw[ig c4]at H
  have Bq:=decide_eq_false c4
  clear c4
  have H':=Az.mk H
  clear H
  go_wp2
  repeat(go_quiet (fail);try go_wp2)
  go_loopg [5] k1 (fun kq v5 w'=>∃(Au:List Int) (Aa:Int),v5= .int .i64 Aa∧Az (fV.l1 kq l0 Au Aa=some r)∧Az (kq≤k1)∧Az (Kd.R (Kd.int .i64) 3 w' w.heap.size (fun _=>True) u3 Au)∧Az (Below w.heap.size w w'))
  case atStart=>exact⟨(Bc),(0),rq2,H',⟨Nat.le_refl _⟩,⟨kR HO_3.out⟩,⟨bw_35⟩⟩
  clear H'
  try clear c4
  try clear Bq
  try clear c5
  obtain⟨Au,Aa,rfl,HA,HK2,HO_3,HB⟩:=hrel
  cases gk with
  |zero=>exact absurd HA.out (by simp[fV.l1])
  |succ k2=>
   have H:=HA.out
   clear HA
   simp only[fV.l1]at H
   by_cases c7:Aa<(l0.length:Int)
   rotate_left
   ·rw[ig c7]at H
    have By:=decide_eq_false c7
    clear c7
    have H':=Az.mk H
    clear H
    go_wp2
    repeat(go_quiet (fail);try go_wp2)
    go_loopg [8,9] k2 (fun kq v8 v9 w'=>∃(Bz:Int) (Ad:Int),v8= .int .i64 Bz∧v9= .int .i64 Ad∧Az (fV.l4 kq l0 Au Bz Ad=some r)∧Az (kq≤k2)∧Az (Kd.R (Kd.int .i64) 3 w' w.heap.size (fun _=>True) u3 Au)∧Az (Below w.heap.size w w'))
    case atStart=>exact⟨(0),(0),rq2,rq2,H',⟨Nat.le_refl _⟩,⟨kR HO_3.out⟩,⟨bw_35⟩⟩
    clear H'
    try clear c4
    try clear Bq
    try clear c5
    try clear c7
    try clear By
    obtain⟨Bz,Ad,rfl,rfl,HA,HK3,HO_3,HB⟩:=hrel
    cases gk with
    |zero=>exact absurd HA.out (by simp[fV.l4])
    |succ k3=>
     have H:=HA.out
     clear HA
     simp only[fV.l4]at H
     by_cases Cz:Ad<(l0.length:Int)
     rotate_left
     ·rw[ig Cz]at H
      have Dc:=decide_eq_false Cz
      clear Cz
      obtain rfl:=Option.some.inj H
      go_wp2
      repeat(go_quiet (fail);try go_wp2)
      go_ret
      exact⟨rq1,bw_35⟩
     rw[ip Cz]at H
     have Dc:=ode Cz
     clear Cz
     by_cases Dl:0≤Ad
     rotate_left
     ·rw[ig Dl]at H
      exact absurd H (by simp)
     rw[ip Dl]at H
     have Eo:=ode Dl
     clear Dl
     by_cases Dm:Ad<(Au.length:Int)
     rotate_left
     ·rw[ig Dm]at H
      exact absurd H (by simp)
     rw[ip Dm]at H
     have Ep:=ode Dm
     clear Dm
     replace H:=bez H
     obtain⟨Ca,Ea,H⟩:=H
     try dsimp only at H
     have H':=Az.mk H
     clear H
     obtain⟨Gd,Ge,Eb⟩:=Kd.R_slice HO_3.out
     subst Eb
     have Ci:0≤(Ad:Int):=od
     have Cj:Ad<(Au.length:Int):=od
     obtain⟨Er,Ec,Dn⟩:=Kd.at_int (Kd.R_reads' HO_3.out).2.2 Ad Ci Cj
     cases Ec
     replace Ci:=ets Ci
     replace Cj:=ets Cj
     go_wp2_with ((go_at_call 55;(with_reducible refine(gJ.calls ((rd Au Ad)== Ad) Ca _ Ea.out).mono ?_);rintro e w' ⟨rfl,⟨nd,rfl⟩⟩;(try first|exact⟨rfl,_,World.drewN_drewN _ _ _⟩|exact⟨rfl,_,Eq.trans (World.drewN_drewN _ _ _) (congrArg (World.drewN _) (Nat.add_assoc _ _ _))⟩)))
     repeat(go_quiet ((go_at_call 55;(with_reducible refine(gJ.calls ((rd Au Ad)== Ad) Ca _ Ea.out).mono ?_);rintro e w' ⟨rfl,⟨nd,rfl⟩⟩;(try first|exact⟨rfl,_,World.drewN_drewN _ _ _⟩|exact⟨rfl,_,Eq.trans (World.drewN_drewN _ _ _) (congrArg (World.drewN _) (Nat.add_assoc _ _ _))⟩)));try go_wp2_with ((go_at_call 55;(with_reducible refine(gJ.calls ((rd Au Ad)== Ad) Ca _ Ea.out).mono ?_);rintro e w' ⟨rfl,⟨nd,rfl⟩⟩;(try first|exact⟨rfl,_,World.drewN_drewN _ _ _⟩|exact⟨rfl,_,Eq.trans (World.drewN_drewN _ _ _) (congrArg (World.drewN _) (Nat.add_assoc _ _ _))⟩))))
     go_roundg k3
     case measure=>have:=HK1.out;have:=HK2.out;have:=HK3.out;omega
     case rel=>exact⟨(wrap64 (Bz+Ca)),(wrap64 (Ad+1)),rq2,rq2,H',⟨by have:=HK1.out;have:=HK2.out;have:=HK3.out;omega⟩,⟨kR HO_3.out⟩,⟨bw_35⟩⟩
   rw[ip c7]at H
   have By:=ode c7
   clear c7
   have H':=Az.mk H
   clear H
   go_wp2
   repeat(go_quiet (fail);try go_wp2)
   go_loopg [6] k2 (fun kq v6 w'=>∃(Br:List Int) (Ab:Int),v6= .int .i64 Ab∧Az (fV.l2 kq l0 Br Aa Ab=some r)∧Az (kq≤k2)∧Az (Kd.R (Kd.int .i64) 3 w' w.heap.size (fun _=>True) u3 Br)∧Az (Below w.heap.size w w'))
   case atStart=>exact⟨(Au),(0),rq2,H',⟨Nat.le_refl _⟩,⟨kR HO_3.out⟩,⟨bw_35⟩⟩
   clear H'
   try clear c4
   try clear Bq
   try clear c5
   try clear c7
   try clear By
   obtain⟨Br,Ab,rfl,HA,HK3,HO_3,HB⟩:=hrel
   cases gk with
   |zero=>exact absurd HA.out (by simp[fV.l2])
   |succ k3=>
    have H:=HA.out
    clear HA
    simp only[fV.l2]at H
    by_cases c8:Ab<Aa
    rotate_left
    ·rw[ig c8]at H
     have Dd:=decide_eq_false c8
     clear c8
     have H':=Az.mk H
     clear H
     go_wp2
     repeat(go_quiet (fail);try go_wp2)
     go_roundg k3
     case measure=>have:=HK1.out;have:=HK2.out;have:=HK3.out;omega
     case rel=>exact⟨(Br),(wrap64 (Aa+1)),rq2,H',⟨by have:=HK1.out;have:=HK2.out;have:=HK3.out;omega⟩,⟨kR HO_3.out⟩,⟨bw_35⟩⟩
    rw[ip c8]at H
    have Dd:=ode c8
    clear c8
    have H':=Az.mk H
    clear H
    go_wp2
    repeat(go_quiet (fail);try go_wp2)
    go_loopg [7] k3 (fun kq v7 w'=>∃(Ae:List Int) (Av:Int),v7= .int .i64 Av∧Az (fV.l3 kq l0 Ae Aa Ab Av=some r)∧Az (kq≤k3)∧Az (Kd.R (Kd.int .i64) 3 w' w.heap.size (fun _=>True) u3 Ae)∧Az (Below w.heap.size w w'))
    case atStart=>exact⟨(Br),(0),rq2,H',⟨Nat.le_refl _⟩,⟨kR HO_3.out⟩,⟨bw_35⟩⟩
    clear H'
    try clear c4
    try clear Bq
    try clear c5
    try clear c7
    try clear By
    try clear c8
    try clear Dd
    obtain⟨Ae,Av,rfl,HA,HK4,HO_3,HB⟩:=hrel
    cases gk with
    |zero=>exact absurd HA.out (by simp[fV.l3])
    |succ k4=>
     have H:=HA.out
     clear HA
     simp only[fV.l3]at H
     by_cases c9:Av<9
     rotate_left
     ·rw[ig c9]at H
      have Ed:=decide_eq_false c9
      clear c9
      have H':=Az.mk H
      clear H
      go_wp2
      repeat(go_quiet (fail);try go_wp2)
      go_roundg k4
      case measure=>have:=HK1.out;have:=HK2.out;have:=HK3.out;have:=HK4.out;omega
      case rel=>exact⟨(Ae),(wrap64 (Ab+1)),rq2,H',⟨by have:=HK1.out;have:=HK2.out;have:=HK3.out;have:=HK4.out;omega⟩,⟨kR HO_3.out⟩,⟨bw_35⟩⟩
     rw[ip c9]at H
     have Ed:=ode c9
     clear c9
     by_cases Do:0≤Aa
     rotate_left
     ·rw[ig Do]at H
      exact absurd H (by simp)
     rw[ip Do]at H
     have Es:=ode Do
     clear Do
     by_cases Dp:Aa<(l0.length:Int)
     rotate_left
     ·rw[ig Dp]at H
      exact absurd H (by simp)
     rw[ip Dp]at H
     have Et:=ode Dp
     clear Dp
     obtain⟨Ax,Bs⟩:∃j_:Int,(wrap64 (Int.tdiv Av 3))=j_:=⟨_,rfl⟩
     first|rw[Bs]at H|simp only[Bs]at H
     have hji12w:(IntKind.i64.wrap (Int.tdiv Av 3))=Ax:=(i64_w _).trans Bs
     by_cases Dq:0≤(Ax)
     rotate_left
     ·rw[ig Dq]at H
      exact absurd H (by simp)
     rw[ip Dq]at H
     have Eu:=ode Dq
     clear Dq
     by_cases Dr:(Ax)<((rd_L1 l0 Aa).length:Int)
     rotate_left
     ·rw[ig Dr]at H
      exact absurd H (by simp)
     rw[ip Dr]at H
     have Ev:=ode Dr
     clear Dr
     by_cases Ds:0≤Ab
     rotate_left
     ·rw[ig Ds]at H
      exact absurd H (by simp)
     rw[ip Ds]at H
     have Ew:=ode Ds
     clear Ds
     by_cases Dt:Ab<(l0.length:Int)
     rotate_left
     ·rw[ig Dt]at H
      exact absurd H (by simp)
     rw[ip Dt]at H
     have Ex:=ode Dt
     clear Dt
     obtain⟨Ay,Ch⟩:∃j_:Int,(Int.tmod Av 3)=j_:=⟨_,rfl⟩
     first|rw[Ch]at H|simp only[Ch]at H
     by_cases Du:0≤(Ay)
     rotate_left
     ·rw[ig Du]at H
      exact absurd H (by simp)
     rw[ip Du]at H
     have Ey:=ode Du
     clear Du
     by_cases Dv:(Ay)<((rd_L1 l0 Ab).length:Int)
     rotate_left
     ·rw[ig Dv]at H
      exact absurd H (by simp)
     rw[ip Dv]at H
     have Ez:=ode Dv
     clear Dv
     by_cases Ck:(rd (rd_L1 l0 Aa) (Ax))=(wrap64 (-(rd (rd_L1 l0 Ab) (Ay))))
     rotate_left
     ·rw[ig Ck]at H
      have De:=beq_eq_false_iff_ne.mpr Ck
      have Df:=bne_iff_ne.mpr Ck
      have H':=Az.mk H
      clear H
      have Bd:0≤(Aa:Int):=od
      have Bf:Aa<(l0.length:Int):=od
      obtain⟨Bt,Cl,Cm,Cn,Af,Ag,Ah⟩:=at_L1 Dk.out Aa Bd Bf
      cases Cn
      replace Af:=kc HB Af
      have Ba:=Az.mk Ah
      have Cb:=Az.mk Ag
      clear Ah Ag
      replace Bd:=ets Bd
      replace Bf:=ets Bf
      have Bh:0≤((Ax):Int):=od
      have Bi:(Ax)<((rd_L1 l0 Aa).length:Int):=od
      obtain⟨Dg,Co,Ai⟩:=Kd.at_int Ba.out (Ax) Bh Bi
      cases Co
      replace Ai:=kc HB Ai
      replace Bh:=ets Bh
      replace Bi:=ets Bi
      have Bj:0≤(Ab:Int):=od
      have Bk:Ab<(l0.length:Int):=od
      obtain⟨Bu,Cp,Cq,Cr,Aj,Ak,Al⟩:=at_L1 Dk.out Ab Bj Bk
      obtain rfl:Bt=Bu:=(by injection Cr)
      replace Aj:=kc HB Aj
      have Bb:=Az.mk Al
      have Cc:=Az.mk Ak
      clear Al Ak
      replace Bj:=ets Bj
      replace Bk:=ets Bk
      have Bl:0≤((Ay):Int):=od
      have Bm:(Ay)<((rd_L1 l0 Ab).length:Int):=od
      obtain⟨Dh,Cs,Am⟩:=Kd.at_int Bb.out (Ay) Bl Bm
      cases Cs
      replace Am:=kc HB Am
      replace Bl:=ets Bl
      replace Bm:=ets Bm
      go_wp2
      repeat(go_quiet (fail);try go_wp2)
      go_roundg k4
      case measure=>have:=HK1.out;have:=HK2.out;have:=HK3.out;have:=HK4.out;omega
      case rel=>exact⟨(Ae),(wrap64 (Av+1)),rq2,H',⟨by have:=HK1.out;have:=HK2.out;have:=HK3.out;have:=HK4.out;omega⟩,⟨kR HO_3.out⟩,⟨bw_35⟩⟩
     rw[ip Ck]at H
     have De:=beq_iff_eq.mpr Ck
     have Df:=bne_eq_false_iff_eq.mpr Ck
     clear Ck
     replace H:=bez H
     obtain⟨Ac,Ee,H⟩:=H
     try dsimp only at H
     replace H:=bez H
     obtain⟨Bn,Ga,H⟩:=H
     try dsimp only at H
     by_cases Dw:0≤Ac
     rotate_left
     ·rw[ig Dw]at H
      exact absurd H (by simp)
     rw[ip Dw]at H
     have Gb:=ode Dw
     clear Dw
     by_cases Dx:Ac<(Ae.length:Int)
     rotate_left
     ·rw[ig Dx]at H
      exact absurd H (by simp)
     rw[ip Dx]at H
     have Gc:=ode Dx
     clear Dx
     obtain⟨Ct,hy⟩:∃y_:List Int,y_=(Ae.set (Ac:Int).toNat Bn):=⟨_,rfl⟩
     replace H:(fV.l3 k4 l0 Ct Aa Ab (wrap64 (Av+1)))=some r:=rh
     have Di:=Az.mk hy
     clear hy
     have H':=Az.mk H
     clear H
     have Bd:0≤(Aa:Int):=od
     have Bf:Aa<(l0.length:Int):=od
     obtain⟨Bt,Cl,Cm,Cn,Af,Ag,Ah⟩:=at_L1 Dk.out Aa Bd Bf
     cases Cn
     replace Af:=kc HB Af
     have Ba:=Az.mk Ah
     have Cb:=Az.mk Ag
     clear Ah Ag
     replace Bd:=ets Bd
     replace Bf:=ets Bf
     have Bh:0≤((Ax):Int):=od
     have Bi:(Ax)<((rd_L1 l0 Aa).length:Int):=od
     obtain⟨Dg,Co,Ai⟩:=Kd.at_int Ba.out (Ax) Bh Bi
     cases Co
     replace Ai:=kc HB Ai
     replace Bh:=ets Bh
     replace Bi:=ets Bi
     have Bj:0≤(Ab:Int):=od
     have Bk:Ab<(l0.length:Int):=od
     obtain⟨Bu,Cp,Cq,Cr,Aj,Ak,Al⟩:=at_L1 Dk.out Ab Bj Bk
     obtain rfl:Bt=Bu:=(by injection Cr)
     replace Aj:=kc HB Aj
     have Bb:=Az.mk Al
     have Cc:=Az.mk Ak
     clear Al Ak
     replace Bj:=ets Bj
     replace Bk:=ets Bk
     have Bl:0≤((Ay):Int):=od
     have Bm:(Ay)<((rd_L1 l0 Ab).length:Int):=od
     obtain⟨Dh,Cs,Am⟩:=Kd.at_int Bb.out (Ay) Bl Bm
     cases Cs
     replace Am:=kc HB Am
     replace Bl:=ets Bl
     replace Bm:=ets Bm
     obtain⟨Gf,Ef,Eg⟩:=Kd.R_slice HO_3.out
     subst Eg
     go_wp2_with ((go_at_call 68;(with_reducible refine(fX.calls k4 _ _ Ae Aa Ac _ ?Ap ?Aq Ee.out).mono ?_);(case Ap=>exact kC (Kd.R_reads' HO_3.out).2.2);(case Aq=>exact(Kd.R_reads' HO_3.out).2.1);rintro e w' ⟨rfl,⟨nd,rfl⟩⟩;(try first|exact⟨rfl,_,World.drewN_drewN _ _ _⟩|exact⟨rfl,_,Eq.trans (World.drewN_drewN _ _ _) (congrArg (World.drewN _) (Nat.add_assoc _ _ _))⟩)))
     repeat(go_quiet (first|(go_at_call 68;(with_reducible refine(fX.calls k4 _ _ Ae Aa Ac _ ?Ap ?Aq Ee.out).mono ?_);(case Ap=>exact kC (Kd.R_reads' HO_3.out).2.2);(case Aq=>exact(Kd.R_reads' HO_3.out).2.1);rintro e w' ⟨rfl,⟨nd,rfl⟩⟩;(try first|exact⟨rfl,_,World.drewN_drewN _ _ _⟩|exact⟨rfl,_,Eq.trans (World.drewN_drewN _ _ _) (congrArg (World.drewN _) (Nat.add_assoc _ _ _))⟩))|(go_at_call 68;(with_reducible refine(fX.calls k4 _ _ Ae Ab Bn _ ?Ap ?Aq Ga.out).mono ?_);(case Ap=>exact kC (Kd.R_reads' HO_3.out).2.2);(case Aq=>exact(Kd.R_reads' HO_3.out).2.1);rintro e w' ⟨rfl,⟨nd,rfl⟩⟩;(try first|exact⟨rfl,_,World.drewN_drewN _ _ _⟩|exact⟨rfl,_,Eq.trans (World.drewN_drewN _ _ _) (congrArg (World.drewN _) (Nat.add_assoc _ _ _))⟩);have Cu:0≤(Ac:Int):=od;have Cv:(Ac:Int)<((Ae.length:Int):Int):=od;obtain⟨Cd,Eh,Bv,Bw,gl25,Ei,HG25⟩:=Kd.R_form HO_3.out (by omega);(first|cases Bv|(injection Bv with ea_ en_ ec_;(first|subst ea_|(injection ea_ with ea_;subst ea_));subst ec_;clear en_));have Dj:=Az.mk Bw;have Ej:=Az.mk HG25;clear Bw gl25 HG25;obtain⟨Cw,Cy⟩:=Kd.R_celln 0 HO_3.out (Ac:Int) Cu Cv;replace Cu:=ets Cu;replace Cv:=ets Cv;obtain⟨hy27_,hz27_⟩:=Kd.R_celln 0 HO_3.out (Ac:Int) (od) (od);have Bx:=Kd.R_putg HO_3.out (Ac:Int) Bn));try go_wp2_with (first|(go_at_call 68;(with_reducible refine(fX.calls k4 _ _ Ae Aa Ac _ ?Ap ?Aq Ee.out).mono ?_);(case Ap=>exact kC (Kd.R_reads' HO_3.out).2.2);(case Aq=>exact(Kd.R_reads' HO_3.out).2.1);rintro e w' ⟨rfl,⟨nd,rfl⟩⟩;(try first|exact⟨rfl,_,World.drewN_drewN _ _ _⟩|exact⟨rfl,_,Eq.trans (World.drewN_drewN _ _ _) (congrArg (World.drewN _) (Nat.add_assoc _ _ _))⟩))|(go_at_call 68;(with_reducible refine(fX.calls k4 _ _ Ae Ab Bn _ ?Ap ?Aq Ga.out).mono ?_);(case Ap=>exact kC (Kd.R_reads' HO_3.out).2.2);(case Aq=>exact(Kd.R_reads' HO_3.out).2.1);rintro e w' ⟨rfl,⟨nd,rfl⟩⟩;(try first|exact⟨rfl,_,World.drewN_drewN _ _ _⟩|exact⟨rfl,_,Eq.trans (World.drewN_drewN _ _ _) (congrArg (World.drewN _) (Nat.add_assoc _ _ _))⟩);have Cu:0≤(Ac:Int):=od;have Cv:(Ac:Int)<((Ae.length:Int):Int):=od;obtain⟨Cd,Eh,Bv,Bw,gl25,Ei,HG25⟩:=Kd.R_form HO_3.out (by omega);(first|cases Bv|(injection Bv with ea_ en_ ec_;(first|subst ea_|(injection ea_ with ea_;subst ea_));subst ec_;clear en_));have Dj:=Az.mk Bw;have Ej:=Az.mk HG25;clear Bw gl25 HG25;obtain⟨Cw,Cy⟩:=Kd.R_celln 0 HO_3.out (Ac:Int) Cu Cv;replace Cu:=ets Cu;replace Cv:=ets Cv;obtain⟨hy27_,hz27_⟩:=Kd.R_celln 0 HO_3.out (Ac:Int) (od) (od);have Bx:=Kd.R_putg HO_3.out (Ac:Int) Bn)|((with_reducible refine gate_store (t:=3) (p:=61) rfl ?_);(try(rw[drewN_self wr];generalize hq_:World.drewN wr _=wr;have n0_:=Az.mk (Kd.R_at hq_ HO_3.out);have n1_:=Az.mk (below_at hq_ HB.out);clear hq_ HO_3 HB;have HO_3:=n0_;have HB:=n1_;clear n0_ n1_;(try(obtain⟨hy27_,hz27_⟩:=Kd.R_celln 0 HO_3.out (Ac:Int) (od) (od)));(try(have Bx:=Kd.R_putg HO_3.out (Ac:Int) Bn))));refine store_event (t:=3) (p:=61) (v:=?vo_w28) (w1:=(wr.setCell ⟨Cd,(Ac:Int).toNat,none⟩ (.int .i64 Bn))) ?hg ?ho ?hn ?hr ?_;(case ho=>rfl);(case hg=>rfl);(case hn=>rfl);(case hr=>first|(go_simp;done)|(go_simp;rfl));intro Ek hw;have hg:wr.grownBy Ek (some Cd):=(by rw[hw];exact Bx.2);have hp_:Kd.R (Kd.int .i64) 3 Ek w.heap.size (fun _=>True) (.slice (some ⟨Cd,0,none⟩) Ae.length Ef) Ct:=(by rw[hw,Di.out];exact Bx.1);clear Bx;replace HO_3:=Az.mk (hp_);replace HB:=Az.mk ((by rw[hw];exact bwS (HB.out) Dj.out:Below w.heap.size w Ek));clear hg hw hp_)))
     go_roundg k4
     case measure=>have:=HK1.out;have:=HK2.out;have:=HK3.out;have:=HK4.out;omega
     case rel=>exact⟨(Ct),(wrap64 (Av+1)),rq2,H',⟨by have:=HK1.out;have:=HK2.out;have:=HK3.out;have:=HK4.out;omega⟩,⟨kR HO_3.out⟩,⟨bw_35⟩⟩
theorem bw_36 {n:Nat}{v v':World} (h:Below n v v':=by repeat(first|(with_reducible first|exact HB.out|apply bwA|apply pbN|apply bwD|refine bwS ?_ GE700.out)|exact HB.out)):Below n v v':=h
theorem ln_36 {P:Prop} (h:P:=by(try simp only[List.map_toArray,List.map_cons,List.map_nil]);first|done|rfl|(simp only[List.length_drop,List.length_take];rfl)):P:=h
mutual
def gA.j0:Nat→List (List Int)→Bool→Option (Int × Int × Int × Int × Bool)
 |0,_,_=>none
 |k+1,x0,x15=>if x15=true then(some (0,0,0,0,false)) else((fR.f k x0).bind fun t703=>(gA.l0 k x0 t703 0 2))
def gA.l0:Nat→List (List Int)→List Int→Int→Int→Option (Int × Int × Int × Int × Bool)
 |0,_,_,_,_=>none
 |k+1,x0,x5,x6,x7=>if x7<(x5.length:Int) then(if 0≤x7 then((gJ.f ((rd x5 x7)== x7)).bind fun t707=>(gA.l0 k x0 x5 (wrap64 (x6+t707)) (wrap64 (x7+1)))) else(none)) else(some (wrap64 (Int.tdiv (wrap64 ((wrap64 (2 - x6))+(wrap64 ((x0.length:Int) / 2)))) 2),0,0,x6,true))
end
def gA.f (k:Nat) (l0:List (List Int)):Option (Int × Int × Int × Int × Bool):=(fB.f k l0).bind fun t701=>(if t701=true then((fV.f k l0).bind fun t702=>(gA.j0 k l0 (t702 != 1))) else(gA.j0 k l0 true))
theorem gA.calls (k:Nat) (A0:Option Addr) (c0:Nat) (l0:List (List Int)) (r1:Int) (r2:Int) (r3:Int) (r4:Int) (r5:Bool) (w:World) (Bw:Kd.C (Kd.slice 3 (Kd.int .i64)) w A0 l0.length l0) (Bx:l0.length≤c0) (h:gA.f k l0=some (r1,r2,r3,r4,r5)):
  Calls Try.prog 27 #[.slice A0 l0.length c0] w fun e w'=>e= .returned (.tuple #[.agg #[.int .i64 r1, .int .i64 r2, .int .i64 r3], .int .i64 r4, .bool r5])∧Below w.heap.size w w':=by
 have hu45:=Try.underlying45
 have Bd:=Az.mk Bw
 have Bf:=Az.mk Bx
 clear Bw Bx
 have HB:=Az.mk (Below.refl w.heap.size w)
 have H:=h
 unfold gA.f at H
 clear h
 have Bp:=Az.mk H
 clear H
 go_enter Try.func27,Try.ntmps27
 go_upto_region 1 with (first|((with_reducible refine gtD (N:=2) rfl ?_);refine bx (N:=2) (cs:= #[.int .i64 0, .int .i64 0, .int .i64 0]) (t:=45) ?_;intro Ag hg w3 hbox hb;have Aa:=Az.mk (hbox);have By:=gwz hg bw_36;have GE700:=gwz hg bw_36;replace HB:=Az.mk (bwT bw_36 hb);clear hb hbox hg))
 (try simp only[Act.put,List.setIfInBounds_toArray,List.set_cons_zero,List.set_cons_succ])
 go_cut [15] (fun Cd wc=>∃(kq:Nat) (Ah:Bool),Cd= .bool Ah∧Az (gA.j0 kq l0 Ah=some (r1,r2,r3,r4,r5))∧Az (kq≤k)∧Az (wc.heap[Ag]?= some (.cells #[.int .i64 0, .int .i64 0, .int .i64 0] 45 (0,0)))∧Az (Below w.heap.size w wc))
 case first=>
  have H:=Bp.out
  clear Bp
  replace H:=bez H
  obtain⟨Bq,A4,H⟩:=H
  try dsimp only at H
  by_cases c5:Bq=true
  rotate_left
  ·replace c5:=Bool.eq_false_iff.mpr c5
   subst c5
   rw[ig ff]at H
   have H':=Az.mk H
   clear H
   go_wp2_with (first|((with_reducible refine gtC (f:=28) rfl ?_);refine clz Try.func28 (some 9) #[.slice A0 l0.length c0] ?_;(with_reducible refine(fB.calls k _ _ l0 false _ ?Ac ?Ad A4.out).mono ?_);(case Ac=>exact kC (Kd.C_below Bd.out HB.out));(case Ad=>exact Bf.out);rintro e w9 ⟨rfl,hb⟩;refine⟨_,rfl,?_⟩;replace Aa:=bkz Aa hb;replace HB:=Az.mk (bwT bw_36 hb);(try clear hb)))
   go_meet
   case rel=>exact⟨_,(true),rq2,H',⟨by first|omega|exact Nat.le_refl _⟩,⟨bk1 Aa⟩,⟨bw_36⟩⟩
  subst c5
  rw[ip rfl]at H
  replace H:=bez H
  obtain⟨Ax,A6,H⟩:=H
  try dsimp only at H
  have H':=Az.mk H
  clear H
  go_wp2_with (first|((with_reducible refine gtC (f:=28) rfl ?_);refine clz Try.func28 (some 9) #[.slice A0 l0.length c0] ?_;(with_reducible refine(fB.calls k _ _ l0 true _ ?Ac ?Ad A4.out).mono ?_);(case Ac=>exact kC (Kd.C_below Bd.out HB.out));(case Ad=>exact Bf.out);rintro e w7 ⟨rfl,hb⟩;refine⟨_,rfl,?_⟩;replace Aa:=bkz Aa hb;replace HB:=Az.mk (bwT bw_36 hb);(try clear hb))|(go_at_call 53;(with_reducible refine(fV.calls k _ _ l0 Ax _ ?Ac ?Ad A6.out).mono ?_);(case Ac=>exact kC (Kd.C_below Bd.out HB.out));(case Ad=>exact Bf.out);rintro e w8 ⟨rfl,hb⟩;replace Aa:=bkz Aa hb;replace HB:=Az.mk (bwT bw_36 hb);(try clear hb)))
  go_meet
  case rel=>exact⟨_,((Ax != 1)),rq2,H',⟨by first|omega|exact Nat.le_refl _⟩,⟨bk1 Aa⟩,⟨bw_36⟩⟩
 clear Bp
 try clear c5
 obtain⟨kq,Ah,rfl,HA,Bz,Aa,HB⟩:=hcut
 cases kq with
 |zero=>exact absurd HA.out (by simp[gA.j0])
 |succ Br=>
  have H:=HA.out
  clear HA
  simp only[gA.j0]at H
  by_cases Ay:Ah=true
  ·subst Ay
   rw[ip rfl]at H
   simp only[Option.some.injEq,Prod.mk.injEq]at H
   obtain⟨rfl,rfl,rfl,rfl,rfl⟩:=H
   have Ai:=bkc0 Aa
   have Aj:=bkc1 Aa
   have Ak:=bkc2 Aa
   have Al:=bkF Aa.out 0
   have Am:=bkF Aa.out 1
   have Ap:=bkF Aa.out 2
   go_wp2
   refine bodyPost_ret (results_ctt rfl _ _ Ag 45 #[.int .i64 0, .int .i64 0, .int .i64 0] (0,0) _ rfl bkv Try.underlying45 rfl (by kernel_rfl)) rfl ?_
   exact⟨rq1,bw_36⟩
  replace Ay:=Bool.eq_false_iff.mpr Ay
  subst Ay
  rw[ig ff]at H
  replace H:=bez H
  obtain⟨Ae,Ce,H⟩:=H
  try dsimp only at H
  have H':=Az.mk H
  clear H
  go_wp2_with (first|((with_reducible refine gtC (f:=54) rfl ?_);refine clz Try.func54 (some 18) #[.slice A0 l0.length c0] ?_;(with_reducible refine(fR.calls Br _ _ l0 Ae _ ?Ac ?Ad Ce.out).mono ?_);(case Ac=>exact kC (Kd.C_below Bd.out HB.out));(case Ad=>exact Bf.out);rintro e Ck ⟨Bs,rfl,Ca,hb⟩;refine⟨_,rfl,?_⟩;have Ba:=Az.mk (Kd.R_lower Ca (bwZ bw_36));replace Aa:=bkz Aa hb;replace HB:=Az.mk (bwT bw_36 hb);(try clear hb);(try clear Ca)))
  go_loopg [6,7] Br (fun kq v6 v7 w'=>∃(Af:Int) (Ab:Int),v6= .int .i64 Af∧v7= .int .i64 Ab∧Az (gA.l0 kq l0 Ae Af Ab=some (r1,r2,r3,r4,r5))∧Az (kq≤Br)∧Az (Kd.R (Kd.int .i64) 3 w' w.heap.size (fun _=>True) Bs Ae)∧Az (w'.heap[Ag]?= some (.cells #[.int .i64 0, .int .i64 0, .int .i64 0] 45 (0,0)))∧Az (Below w.heap.size w w'))
  case atStart=>exact⟨(0),(2),rq2,rq2,H',⟨Nat.le_refl _⟩,⟨kR Ba.out⟩,⟨bk1 Aa⟩,⟨bw_36⟩⟩
  clear H'
  try clear c5
  try clear Ay
  try clear Ai
  try clear Aj
  try clear Ak
  try clear Al
  try clear Am
  try clear Ap
  obtain⟨Af,Ab,rfl,rfl,HA,HK2,Aq,Aa,HB⟩:=hrel
  cases gk with
  |zero=>exact absurd HA.out (by simp[gA.l0])
  |succ k2=>
   have H:=HA.out
   clear HA
   simp only[gA.l0]at H
   by_cases Av:Ab<(Ae.length:Int)
   rotate_left
   ·rw[ig Av]at H
    have Bb:=decide_eq_false Av
    clear Av
    simp only[Option.some.injEq,Prod.mk.injEq]at H
    obtain⟨rfl,rfl,rfl,rfl,rfl⟩:=H
    obtain⟨Cf,Cg,Bt⟩:=Kd.R_slice Aq.out
    subst Bt
    have Bh:=bkc0 Aa
    have Bi:=bkc1 Aa
    have Bj:=bkc2 Aa
    have Bk:=bkF Aa.out 0
    have Bl:=bkF Aa.out 1
    have Bm:=bkF Aa.out 2
    go_wp2
    refine bodyPost_ret (results_ctt rfl _ _ Ag 45 #[.int .i64 (wrap64 (Int.tdiv (wrap64 ((wrap64 (2 - Af))+(wrap64 ((l0.length:Int) / 2)))) 2)), .int .i64 0, .int .i64 0] (0,0) _ rfl (by(with_reducible repeat first|apply bkN|apply bkD|apply bkA);refine bkp (cs:= #[.int .i64 (wrap64 (Int.tdiv (wrap64 ((wrap64 (2 - Af))+(wrap64 ((l0.length:Int) / 2)))) 2)), .int .i64 0, .int .i64 0]) ?_ 2 _ rfl;(with_reducible repeat first|apply bkN|apply bkD|apply bkA);refine bkp (cs:= #[.int .i64 (wrap64 (Int.tdiv (wrap64 ((wrap64 (2 - Af))+(wrap64 ((l0.length:Int) / 2)))) 2)), .int .i64 0, .int .i64 0]) ?_ 1 _ rfl;(with_reducible repeat first|apply bkN|apply bkD|apply bkA);refine bkp (cs:= #[.int .i64 0, .int .i64 0, .int .i64 0]) ?_ 0 _ rfl;(with_reducible repeat first|apply bkN|apply bkD|apply bkA);exact Aa.out) Try.underlying45 rfl (by kernel_rfl)) rfl ?_
    exact⟨rq1,bw_36⟩
   rw[ip Av]at H
   have Bb:=ode Av
   clear Av
   by_cases Bn:0≤Ab
   rotate_left
   ·rw[ig Bn]at H
    exact absurd H (by simp)
   rw[ip Bn]at H
   have Cb:=ode Bn
   clear Bn
   replace H:=bez H
   obtain⟨Bc,Ch,H⟩:=H
   try dsimp only at H
   have H':=Az.mk H
   clear H
   obtain⟨Ci,Cj,Bu⟩:=Kd.R_slice Aq.out
   subst Bu
   have As:0≤(Ab:Int):=od
   have Au:Ab<(Ae.length:Int):=od
   obtain⟨Cc,Bv,Bo⟩:=Kd.at_int (Kd.R_reads' Aq.out).2.2 Ab As Au
   cases Bv
   replace As:=ets As
   replace Au:=ets Au
   go_wp2_with (first|((with_reducible refine gtC (f:=55) rfl ?_);refine clz Try.func55 (some 32) #[.bool ((rd Ae Ab)== Ab)] ?_;(with_reducible refine(gJ.calls ((rd Ae Ab)== Ab) Bc _ Ch.out).mono ?_);rintro e w' ⟨rfl,⟨nd,rfl⟩⟩;refine⟨_,rfl,?_⟩))
   go_roundg k2
   case measure=>have:=Bz.out;have:=HK2.out;omega
   case rel=>exact⟨(wrap64 (Af+Bc)),(wrap64 (Ab+1)),rq2,rq2,H',⟨by have:=Bz.out;have:=HK2.out;omega⟩,⟨kR Aq.out⟩,⟨bk1 Aa⟩,⟨bw_36⟩⟩
def gX.l0:Nat→List Int→Int→Int→Int→Int→Int→Option (Int)
 |0,_,_,_,_,_,_=>none
 |k+1,x0,x1,x2,x7,x8,x9=>if x9<(wrap64 (x8 - 1)) then(if 0≤x9 then(if x9<(x0.length:Int) then(gX.l0 k x0 x1 x2 (wrap64 (x7+(rd x0 x9))) x8 (wrap64 (x9+1))) else(none)) else(none)) else(if x1>0 then(some (wrap64 (x7+x2))) else(if 0≤(wrap64 (x8 - 1)) then(if(wrap64 (x8 - 1))<(x0.length:Int) then(some (wrap64 ((wrap64 ((wrap64 (x7+(rd x0 (wrap64 (x8 - 1))))) - 1)) - x2))) else(none)) else(none)))
def gX.f (k:Nat) (l0:List Int) (a1:Int) (a2:Int):Option (Int):=(fZ.f a1).bind fun t708=>(gX.l0 k l0 a1 a2 0 t708 0)
theorem gX.calls (k:Nat) (A0:Option Addr) (c0:Nat) (l0:List Int) (a1:Int) (a2:Int) (r:Int) (w:World) (Av:Kd.C (Kd.int .i64) w A0 l0.length l0) (Ax:l0.length≤c0) (h:gX.f k l0 a1 a2=some r):
  Calls Try.prog 75 #[.slice A0 l0.length c0, .int .i64 a1, .int .i64 a2] w fun e w'=>e= .returned (.int .i64 r)∧Drawn0 w w':=by
 have Ay:=Az.mk Av
 have Bi:=Az.mk Ax
 clear Av Ax
 have H:=h
 unfold gX.f at H
 clear h
 replace H:=bez H
 obtain⟨Ab,A4,H⟩:=H
 try dsimp only at H
 have H':=Az.mk H
 clear H
 go_enter Try.func75,Try.ntmps75
 go_wp2_with (first|((with_reducible refine gtC (f:=43) rfl ?_);refine clz Try.func43 (some 11) #[.int .i64 a1] ?_;(with_reducible refine(fZ.calls a1 Ab _ A4.out).mono ?_);rintro e w' ⟨rfl,⟨nd,rfl⟩⟩;refine⟨_,rfl,?_⟩))
 go_loopg [7,9] k (fun kq v7 v9 w'=>∃(Ad:Int) (Aa:Int),v7= .int .i64 Ad∧v9= .int .i64 Aa∧Az (gX.l0 kq l0 a1 a2 Ad Ab Aa=some r)∧Az (kq≤k)∧Drawn0 w w')
 case atStart=>exact⟨(0),(0),rq2,rq2,H',⟨Nat.le_refl _⟩,kd⟩
 clear H'
 obtain⟨Ad,Aa,rfl,rfl,HA,HK1,⟨m1,rfl⟩⟩:=hrel
 cases gk with
 |zero=>exact absurd HA.out (by simp[gX.l0])
 |succ k1=>
  have H:=HA.out
  clear HA
  simp only[gX.l0]at H
  by_cases c5:Aa<(wrap64 (Ab - 1))
  ·rw[ip c5]at H
   have Aj:=ode c5
   clear c5
   by_cases c6:0≤Aa
   rotate_left
   ·rw[ig c6]at H
    exact absurd H (by simp)
   rw[ip c6]at H
   have Bf:=ode c6
   clear c6
   by_cases c7:Aa<(l0.length:Int)
   rotate_left
   ·rw[ig c7]at H
    exact absurd H (by simp)
   rw[ip c7]at H
   have Bh:=ode c7
   clear c7
   have H':=Az.mk H
   clear H
   have Ae:0≤(Aa:Int):=od
   have Af:Aa<(l0.length:Int):=od
   obtain⟨Ba,Aq,Ak⟩:=Kd.at_int Ay.out Aa Ae Af
   cases Aq
   replace Ae:=ets Ae
   replace Af:=ets Af
   go_wp2
   go_roundg k1
   case measure=>have:=HK1.out;omega
   case rel=>exact⟨(wrap64 (Ad+(rd l0 Aa))),(wrap64 (Aa+1)),rq2,rq2,H',⟨by have:=HK1.out;omega⟩,kd⟩
  rw[ig c5]at H
  have Aj:=decide_eq_false c5
  clear c5
  by_cases c8:a1>0
  ·rw[ip c8]at H
   have As:decide (0<a1)=true:=ode c8
   clear c8
   obtain rfl:=Option.some.inj H
   go_wp2
   go_ret
   exact⟨rq2,kd⟩
  rw[ig c8]at H
  have As:decide (0<a1)=false:=decide_eq_false c8
  clear c8
  obtain⟨Ai,Ac⟩:∃j_:Int,(wrap64 (Ab - 1))=j_:=⟨_,rfl⟩
  first|rw[Ac]at H|simp only[Ac]at H
  (try rw[Ac]at Aj)
  have hji9w:(IntKind.i64.wrap (Ab - 1))=Ai:=(i64_w _).trans Ac
  by_cases Al:0≤(Ai)
  rotate_left
  ·rw[ig Al]at H
   exact absurd H (by simp)
  rw[ip Al]at H
  have Bb:=ode Al
  clear Al
  by_cases Am:(Ai)<(l0.length:Int)
  rotate_left
  ·rw[ig Am]at H
   exact absurd H (by simp)
  rw[ip Am]at H
  have Bc:=ode Am
  clear Am
  obtain rfl:=Option.some.inj H
  have Ag:0≤((Ai):Int):=od
  have Ah:(Ai)<(l0.length:Int):=od
  obtain⟨Bd,Au,Ap⟩:=Kd.at_int Ay.out (Ai) Ag Ah
  cases Au
  replace Ag:=ets Ag
  replace Ah:=ets Ah
  go_wp2
  go_ret
  exact⟨by first|rfl|(simp;done)|(simp only[←Ac] <;> (first|rfl|simp))|(simp[*];done),kd⟩
end Go.Proofs.Ytemeiocmgbgikaa.P
