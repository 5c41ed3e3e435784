-- The walks, cut and laid together by this session's tools (prune.py, sq2.py, min.py: shorter names, no needless spaces). Not trusted: Lean checks it.
import Derived.Test.YtflbpjijgnmklaaKWZip
import Derived.Test.YtflbpjijgnmklaaKPx35
namespace Go.Proofs.Ytflbpjijgnmklaa.P
open Go.RowKit Go.Proofs.YtflbpjijgnmklaaW.PrintWords Go.Proofs.YtflbpjijgnmklaaW.PrintLast Go.Proofs.YtflbpjijgnmklaaW.PrintMore
attribute [local go_sem] max2_int min2_int max_two min_two max_three min_three max_four min_four   -- for this text's walks alone
set_option linter.unusedVariables false
set_option linter.unusedSimpArgs false
set_option maxHeartbeats 8000000
set_option maxRecDepth 100000
open Option renaming bind_eq_some_iff → be
theorem bw_40 {n:Nat}{v v':World} (h:Below n v v':=by repeat(first|(with_reducible first|exact HB.out|apply bwA|apply pbN|apply bwD|refine bwS ?_ GE717.out|refine bwS ?_ GE721.out)|exact HB.out)):Below n v v':=h
theorem ln_40 {P:Prop} (h:P:=by(try simp only[List.map_toArray,List.map_cons,List.map_nil]);first|done|rfl|(simp only[List.length_drop,List.length_take];rfl)):P:=h
def jO.f (a0_0:Int) (a0_1:Int) (a0_2:Int):Option (Bool):=(fW.f a0_0 0 20).bind fun t718=>(if t718=true then((fW.f a0_1 0 20).bind fun t719=>(if t719=true then((fW.f a0_2 0 20).bind fun t720=>(if t720=true then(if a0_0=0 then(some true) else(some (a0_1== 0))) else(some false))) else(some false))) else(some false))
theorem jO.calls (Aa:Int) (Ac:Int) (Ad:Int) (r:Bool) (w:World) (h:jO.f Aa Ac Ad=some r):
  Calls Try.prog 74 #[.agg #[.int .i64 Aa, .int .i64 Ac, .int .i64 Ad]] w fun e w'=>e= .returned (.bool r)∧Below w.heap.size w w':=by
 have hu42:=Try.underlying42
 have HB:=Az.mk (Below.refl w.heap.size w)
 have H:((fW.f Aa 0 20).bind fun Ag=>(if Ag=true then((fW.f Ac 0 20).bind fun Ah=>(if Ah=true then((fW.f Ad 0 20).bind fun Ai=>(if Ai=true then(if Aa=0 then(some true) else(some (Ac== 0))) else(some false))) else(some false))) else(some false)))=some r:=h
 clear h
 replace H:=bez H
 obtain⟨Ag,A2,H⟩:=H
 try dsimp only at H
 by_cases c3:Ag=true
 rotate_left
 ·replace c3:=Bool.eq_false_iff.mpr c3
  subst c3
  rw[ig ff]at H
  obtain rfl:=Option.some.inj H
  go_enter Try.func74,Try.ntmps74
  go_wp2_with (first|((with_reducible refine gtD (N:=1) rfl ?_);refine bx (N:=1) (cs:= #[.int .i64 Aa, .int .i64 Ac, .int .i64 Ad]) (t:=42) ?_;intro Ae hg Bv hbox hb;have Ab:=Az.mk (hbox);have Af:=gwz hg bw_40;have GE717:=gwz hg bw_40;replace HB:=Az.mk (bwT bw_40 hb);clear hb hbox hg;obtain⟨Aj,Ak,Al,Am,Ao,Ap⟩:=bq3 Ab)|((with_reducible refine gtC (f:=49) rfl ?_);refine clz Try.func49 (some 5) #[.int .i64 Aa, .int .i64 0, .int .i64 20] ?_;(with_reducible refine(fW.calls Aa 0 20 false _ A2.out).mono ?_);rintro e w' ⟨rfl,⟨nd,rfl⟩⟩;refine⟨_,rfl,?_⟩))
  go_ret
  exact⟨rq1,bw_40⟩
 subst c3
 rw[ip rfl]at H
 replace H:=bez H
 obtain⟨Ah,A4,H⟩:=H
 try dsimp only at H
 by_cases c5:Ah=true
 rotate_left
 ·replace c5:=Bool.eq_false_iff.mpr c5
  subst c5
  rw[ig ff]at H
  obtain rfl:=Option.some.inj H
  go_enter Try.func74,Try.ntmps74
  go_wp2_with (first|((with_reducible refine gtD (N:=1) rfl ?_);refine bx (N:=1) (cs:= #[.int .i64 Aa, .int .i64 Ac, .int .i64 Ad]) (t:=42) ?_;intro Ae hg Bw hbox hb;have Ab:=Az.mk (hbox);have Af:=gwz hg bw_40;have GE717:=gwz hg bw_40;replace HB:=Az.mk (bwT bw_40 hb);clear hb hbox hg;obtain⟨Aq,As,Au,Av,Aw,Ax⟩:=bq3 Ab)|((with_reducible refine gtC (f:=49) rfl ?_);refine clz Try.func49 (some 5) #[.int .i64 Aa, .int .i64 0, .int .i64 20] ?_;(with_reducible refine(fW.calls Aa 0 20 true _ A2.out).mono ?_);rintro e w' ⟨rfl,⟨nd,rfl⟩⟩;refine⟨_,rfl,?_⟩)|(go_at_call 49;(with_reducible refine(fW.calls Ac 0 20 false _ A4.out).mono ?_);rintro e w' ⟨rfl,⟨nd,rfl⟩⟩))
  go_ret
  exact⟨rq1,bw_40⟩
 subst c5
 rw[ip rfl]at H
 replace H:=bez H
 obtain⟨Ai,A6,H⟩:=H
 try dsimp only at H
 by_cases c7:Ai=true
 rotate_left
 ·replace c7:=Bool.eq_false_iff.mpr c7
  subst c7
  rw[ig ff]at H
  obtain rfl:=Option.some.inj H
  go_enter Try.func74,Try.ntmps74
  go_wp2_with (first|((with_reducible refine gtD (N:=1) rfl ?_);refine bx (N:=1) (cs:= #[.int .i64 Aa, .int .i64 Ac, .int .i64 Ad]) (t:=42) ?_;intro Ae hg Bx hbox hb;have Ab:=Az.mk (hbox);have Af:=gwz hg bw_40;have GE717:=gwz hg bw_40;replace HB:=Az.mk (bwT bw_40 hb);clear hb hbox hg;obtain⟨Ay,Ba,Bb,Bc,Bd,Bf⟩:=bq3 Ab)|((with_reducible refine gtC (f:=49) rfl ?_);refine clz Try.func49 (some 5) #[.int .i64 Aa, .int .i64 0, .int .i64 20] ?_;(with_reducible refine(fW.calls Aa 0 20 true _ A2.out).mono ?_);rintro e w' ⟨rfl,⟨nd,rfl⟩⟩;refine⟨_,rfl,?_⟩)|(go_at_call 49;(with_reducible refine(fW.calls Ac 0 20 true _ A4.out).mono ?_);rintro e w' ⟨rfl,⟨nd,rfl⟩⟩)|(go_at_call 49;(with_reducible refine(fW.calls Ad 0 20 false _ A6.out).mono ?_);rintro e w' ⟨rfl,⟨nd,rfl⟩⟩))
  go_ret
  exact⟨rq1,bw_40⟩
 subst c7
 rw[ip rfl]at H
 by_cases c8:Aa=0
 rotate_left
 ·rw[ig c8]at H
  have Bt:=beq_eq_false_iff_ne.mpr c8
  have Bu:=bne_iff_ne.mpr c8
  obtain rfl:=Option.some.inj H
  go_enter Try.func74,Try.ntmps74
  go_wp2_with (first|((with_reducible refine gtD (N:=1) rfl ?_);refine bx (N:=1) (cs:= #[.int .i64 Aa, .int .i64 Ac, .int .i64 Ad]) (t:=42) ?_;intro Ae hg By hbox hb;have Ab:=Az.mk (hbox);have Af:=gwz hg bw_40;have GE717:=gwz hg bw_40;replace HB:=Az.mk (bwT bw_40 hb);clear hb hbox hg;obtain⟨Bh,Bi,Bj,Bk,Bl,Bm⟩:=bq3 Ab)|((with_reducible refine gtC (f:=49) rfl ?_);refine clz Try.func49 (some 5) #[.int .i64 Aa, .int .i64 0, .int .i64 20] ?_;(with_reducible refine(fW.calls Aa 0 20 true _ A2.out).mono ?_);rintro e w' ⟨rfl,⟨nd,rfl⟩⟩;refine⟨_,rfl,?_⟩)|(go_at_call 49;(with_reducible refine(fW.calls Ac 0 20 true _ A4.out).mono ?_);rintro e w' ⟨rfl,⟨nd,rfl⟩⟩)|(go_at_call 49;(with_reducible refine(fW.calls Ad 0 20 true _ A6.out).mono ?_);rintro e w' ⟨rfl,⟨nd,rfl⟩⟩))
  go_ret
  exact⟨rq1,bw_40⟩
 rw[ip c8]at H
 have Bt:=beq_iff_eq.mpr c8
 have Bu:=bne_eq_false_iff_eq.mpr c8
 clear c8
 obtain rfl:=Option.some.inj H
 go_enter Try.func74,Try.ntmps74
 go_wp2_with (first|((with_reducible refine gtD (N:=1) rfl ?_);refine bx (N:=1) (cs:= #[.int .i64 Aa, .int .i64 Ac, .int .i64 Ad]) (t:=42) ?_;intro Ae hg w9 hbox hb;have Ab:=Az.mk (hbox);have Af:=gwz hg bw_40;have GE717:=gwz hg bw_40;replace HB:=Az.mk (bwT bw_40 hb);clear hb hbox hg;obtain⟨Bn,Bo,Bp,Bq,Br,Bs⟩:=bq3 Ab)|((with_reducible refine gtC (f:=49) rfl ?_);refine clz Try.func49 (some 5) #[.int .i64 Aa, .int .i64 0, .int .i64 20] ?_;(with_reducible refine(fW.calls Aa 0 20 true _ A2.out).mono ?_);rintro e w' ⟨rfl,⟨nd,rfl⟩⟩;refine⟨_,rfl,?_⟩)|(go_at_call 49;(with_reducible refine(fW.calls Ac 0 20 true _ A4.out).mono ?_);rintro e w' ⟨rfl,⟨nd,rfl⟩⟩)|(go_at_call 49;(with_reducible refine(fW.calls Ad 0 20 true _ A6.out).mono ?_);rintro e w' ⟨rfl,⟨nd,rfl⟩⟩))
 go_ret
 exact⟨rq1,bw_40⟩
def jN.f (a0_0:Int) (a0_1:Int) (a0_2:Int):Option (Int):=(jO.f a0_0 a0_1 a0_2).bind fun t722=>(if t722=true then(some (wrap64 ((wrap64 ((wrap64 (2 - (wrap64 (2*a0_0)))) - a0_1)) - a0_2))) else(some (-100)))
theorem jN.calls (Ab:Int) (Ac:Int) (Ad:Int) (r:Int) (w:World) (h:jN.f Ab Ac Ad=some r):
  Calls Try.prog 34 #[.agg #[.int .i64 Ab, .int .i64 Ac, .int .i64 Ad]] w fun e w'=>e= .returned (.int .i64 r)∧Below w.heap.size w w':=by
 have hu42:=Try.underlying42
 have HB:=Az.mk (Below.refl w.heap.size w)
 have H:((jO.f Ab Ac Ad).bind fun Ae=>(if Ae=true then(some (wrap64 ((wrap64 ((wrap64 (2 - (wrap64 (2*Ab)))) - Ac)) - Ad))) else(some (-100))))=some r:=h
 clear h
 replace H:=bez H
 obtain⟨Ae,A2,H⟩:=H
 try dsimp only at H
 by_cases c3:Ae=true
 ·subst c3
  rw[ip rfl]at H
  obtain rfl:=Option.some.inj H
  go_enter Try.func34,Try.ntmps34
  go_wp2_with (first|((with_reducible refine gtD (N:=1) rfl ?_);refine bx (N:=1) (cs:= #[.int .i64 Ab, .int .i64 Ac, .int .i64 Ad]) (t:=42) ?_;intro Af hg w4 hbox hb;have Aa:=Az.mk (hbox);have Ag:=gwz hg bw_40;have GE721:=gwz hg bw_40;replace HB:=Az.mk (bwT bw_40 hb);clear hb hbox hg;obtain⟨Ah,Ai,Aj,Ak,Al,Am⟩:=bq3 Aa)|((with_reducible refine gtC (f:=74) rfl ?_);refine clz Try.func74 (some 4) #[.agg #[.int .i64 Ab, .int .i64 Ac, .int .i64 Ad]] ?_;(with_reducible refine(jO.calls Ab Ac Ad true _ A2.out).mono ?_);rintro e w6 ⟨rfl,hb⟩;refine⟨_,rfl,?_⟩;replace Aa:=bkz Aa hb;replace HB:=Az.mk (bwT bw_40 hb);(try clear hb);obtain⟨Ao,Ap,Aq,As,Au,Av⟩:=bq3 Aa))
  go_ret
  exact⟨rq1,bw_40⟩
 replace c3:=Bool.eq_false_iff.mpr c3
 subst c3
 rw[ig ff]at H
 obtain rfl:=Option.some.inj H
 go_enter Try.func34,Try.ntmps34
 go_wp2_with (first|((with_reducible refine gtD (N:=1) rfl ?_);refine bx (N:=1) (cs:= #[.int .i64 Ab, .int .i64 Ac, .int .i64 Ad]) (t:=42) ?_;intro Af hg w8 hbox hb;have Aa:=Az.mk (hbox);have Ag:=gwz hg bw_40;have GE721:=gwz hg bw_40;replace HB:=Az.mk (bwT bw_40 hb);clear hb hbox hg;obtain⟨Aw,Ax,Ay,Ba,Bb,Bc⟩:=bq3 Aa)|((with_reducible refine gtC (f:=74) rfl ?_);refine clz Try.func74 (some 4) #[.agg #[.int .i64 Ab, .int .i64 Ac, .int .i64 Ad]] ?_;(with_reducible refine(jO.calls Ab Ac Ad false _ A2.out).mono ?_);rintro e Bd ⟨rfl,hb⟩;refine⟨_,rfl,?_⟩;replace Aa:=bkz Aa hb;replace HB:=Az.mk (bwT bw_40 hb);(try clear hb)))
 go_ret
 exact⟨rq1,bw_40⟩
def gS.l0:Nat→List Int→Int→Int→Option (Int)
 |0,_,_,_=>none
 |k+1,x0,x3,x4=>if x4<(x0.length:Int) then(if 0≤x4 then(gS.l0 k x0 (wrap64 (x3+(rd x0 x4))) (wrap64 (x4+1))) else(none)) else(some x3)
def gS.f (k:Nat) (l0:List Int):Option (Int):=gS.l0 k l0 0 0
theorem gS.calls (k:Nat) (A0:Option Addr) (c0:Nat) (l0:List Int) (r:Int) (w:World) (Ah:Kd.C (Kd.int .i64) w A0 l0.length l0) (Ai:l0.length≤c0) (h:gS.f k l0=some r):
  Calls Try.prog 35 #[.slice A0 l0.length c0] w fun e w'=>e= .returned (.int .i64 r)∧Drawn0 w w':=by
 have Ak:=Az.mk Ah
 have Am:=Az.mk Ai
 clear Ah Ai
 have H:(gS.l0 k l0 0 0)=some r:=h
 clear h
 have H':=Az.mk H
 clear H
 go_enter Try.func35,Try.ntmps35
 go_wp2
 go_loopg [3,4] k (fun kq v3 v4 w'=>∃(Ab:Int) (Aa:Int),v3= .int .i64 Ab∧v4= .int .i64 Aa∧Az (gS.l0 kq l0 Ab Aa=some r)∧Az (kq≤k)∧Drawn0 w w')
 case atStart=>exact⟨(0),(0),rq2,rq2,H',⟨Nat.le_refl _⟩,kd⟩
 clear H'
 obtain⟨Ab,Aa,rfl,rfl,HA,HK1,⟨m1,rfl⟩⟩:=hrel
 cases gk with
 |zero=>exact absurd HA.out (by simp[gS.l0])
 |succ k1=>
  have H:=HA.out
  clear HA
  simp only[gS.l0]at H
  by_cases c2:Aa<(l0.length:Int)
  rotate_left
  ·rw[ig c2]at H
   have Af:=decide_eq_false c2
   clear c2
   obtain rfl:=Option.some.inj H
   go_wp2
   go_ret
   exact⟨rq2,kd⟩
  rw[ip c2]at H
  have Af:=ode c2
  clear c2
  by_cases c3:0≤Aa
  rotate_left
  ·rw[ig c3]at H
   exact absurd H (by simp)
  rw[ip c3]at H
  have Al:=ode c3
  clear c3
  have H':=Az.mk H
  clear H
  have Ac:0≤(Aa:Int):=od
  have Ad:Aa<(l0.length:Int):=od
  obtain⟨Aj,Ag,Ae⟩:=Kd.at_int Ak.out Aa Ac Ad
  cases Ag
  replace Ac:=ets Ac
  replace Ad:=ets Ad
  go_wp2
  go_roundg k1
  case measure=>have:=HK1.out;omega
  case rel=>exact⟨(wrap64 (Ab+(rd l0 Aa))),(wrap64 (Aa+1)),rq2,rq2,H',⟨by have:=HK1.out;omega⟩,kd⟩
def jV.f (k:Nat) (l0:List (List Int)):Option (List Int):=(jC.f k l0 0 0).bind fun bt724=>(some bt724.1)
theorem jV.calls (k:Nat) (A0:Option Addr) (c0:Nat) (l0:List (List Int)) (r:List Int) (w:World) (Ag:Kd.C (Kd.slice 3 (Kd.int .i64)) w A0 l0.length l0) (Ah:l0.length≤c0) (h:jV.f k l0=some r):
  Calls Try.prog 36 #[.slice A0 l0.length c0] w fun e w'=>∃v0_:Value,e= .returned (v0_)∧Kd.R (Kd.int .i64) 3 w' w.heap.size (fun _=>True) v0_ r∧Below w.heap.size w w':=by
 have Aj:=Az.mk Ag
 have Ak:=Az.mk Ah
 clear Ag Ah
 have HB:=Az.mk (Below.refl w.heap.size w)
 have H:((jC.f k l0 0 0).bind fun Aa=>(some Aa.1))=some r:=h
 clear h
 replace H:=bez H
 obtain⟨⟨Ab,Af⟩,A2,H⟩:=H
 replace H:(some Ab)=some r:=H
 obtain rfl:=Option.some.inj H
 go_enter Try.func36,Try.ntmps36
 go_wp2_with (first|((with_reducible refine gtC (f:=13) rfl ?_);refine clz Try.func13 (some 7) #[.slice A0 l0.length c0, .int .i64 0, .int .i64 0] ?_;(with_reducible refine(jC.calls k _ _ l0 0 0 Ab Af _ ?Ac ?Ad A2.out).mono ?_);(case Ac=>exact kC Aj.out);(case Ad=>exact Ak.out);rintro e w3 ⟨Al,rfl,Ai,hb⟩;refine⟨_,rfl,?_⟩;have Ae:=Az.mk (Kd.R_lower Ai (bwZ bw_40));replace HB:=Az.mk (bwT bw_40 hb);(try clear hb);(try clear Ai)))
 go_ret
 exact⟨_,rq1,kR Ae.out,bw_40⟩
attribute [local go_sem high] eqA42
mutual
def laws_FnCurves.j0:Nat→List (List Int)→List Int→List Int→List (List Int)→List Int→Bool→Int→Bool→List Int→Bool→Int→Int→Int→Option (Bool)
 |0,_,_,_,_,_,_,_,_,_,_,_,_,_=>none
 |k+1,x3,x4,x5,x15,x18,x19,x29,x30,x34,x264,x788000,x788001,x788002=>if x264=true then(none) else(if x30=true then((jN.f x788000 x788001 x788002).bind fun t826=>(laws_FnCurves.j1 k x3 x4 x5 x15 x18 x19 x34 (t826 != (wrap64 (x29 - (wrap64 ((x3.length:Int) / 2))))))) else(laws_FnCurves.j1 k x3 x4 x5 x15 x18 x19 x34 false))
def laws_FnCurves.j1:Nat→List (List Int)→List Int→List Int→List (List Int)→List Int→Bool→List Int→Bool→Option (Bool)
 |0,_,_,_,_,_,_,_,_=>none
 |k+1,x3,x4,x5,x15,x18,x19,x34,x275=>if x275=true then(none) else(if x19=true then((fH.f k x15 x18).bind fun t827=>(if t827=true then((gC.f k x15 x18).bind fun t828=>(laws_FnCurves.j2 k x3 x4 x5 x34 (t828 != 1))) else(none))) else(laws_FnCurves.j2 k x3 x4 x5 x34 false))
def laws_FnCurves.j2:Nat→List (List Int)→List Int→List Int→List Int→Bool→Option (Bool)
 |0,_,_,_,_,_=>none
 |k+1,x3,x4,x5,x34,x288=>if x288=true then(none) else((fH.f k x3 x4).bind fun t829=>(if t829=true then((gC.f k x3 x4).bind fun t831=>((gS.f k x5).bind fun t832=>((gS.f k x4).bind fun t833=>(if t832=t833 then(if t831=(x5.length:Int) then((jV.f k x3).bind fun t834=>((fJ.f k x4 t834).bind fun bt837=>(if bt837.2=true then((fH.f k x3 bt837.1).bind fun t841=>(if t841=true then((gC.f k x3 bt837.1).bind fun t842=>(laws_FnCurves.j3 k x3 x4 x34 t831 (t842 != (wrap64 (t831+1))))) else(none))) else(laws_FnCurves.j3 k x3 x4 x34 t831 false)))) else(none)) else(none))))) else((gC.f k x3 x4).bind fun t830=>(if t830=(-1) then(some ((x5.length:Int)== 0)) else(none)))))
def laws_FnCurves.j3:Nat→List (List Int)→List Int→List Int→Int→Bool→Option (Bool)
 |0,_,_,_,_,_=>none
 |k+1,x3,x4,x34,x41,x337=>if x337=true then(none) else((fC.f k x3 x34).bind fun bt843=>(if bt843.2=true then((fZ.f k bt843.1 x34).bind fun t847=>(if t847=true then((fH.f k x3 x34).bind fun t848=>(if t848=true then((gC.f k x3 x34).bind fun t849=>(if t849≤x41 then((gS.f k x34).bind fun t850=>((gS.f k x4).bind fun t851=>(some (decide (t850≤t851))))) else(none))) else(none))) else(none))) else(none)))
end
def laws_FnCurves.f (k:Nat) (l0:List Int):Option (Bool):=(jY.f l0).bind fun t728=>(if t728=true then(some true) else((jD.f k l0).bind fun bt729=>((fY.f k bt729.1 bt729.2).bind fun t735=>((jJ.f k l0).bind fun t738=>((fR.f k t738).bind fun bt739=>((fP.f k t738).bind fun bt743=>((jR.f k l0).bind fun bt747=>((jE.f k l0).bind fun bt755=>((jM.f k bt755.1 bt755.2.1 bt755.2.2).bind fun bt760=>((jC.f k bt755.1 bt755.2.1 bt755.2.2).bind fun bt764=>((jA.f k l0).bind fun bt768=>((fJ.f k bt768.1 bt768.2).bind fun bt774=>((fG.f k bt768.1 bt768.2).bind fun bt778=>((fU.f k bt729.1).bind fun bt782=>((gD.f k bt729.1).bind fun bt788=>((fC.f k bt729.1 bt729.2).bind fun bt794=>((fI.f k bt729.1 bt729.2).bind fun bt798=>((fN.f k bt729.1 bt729.2).bind fun t802=>((fZ.f k t735 t802).bind fun t805=>(if t805=true then(if(bt739.2 != bt743.2)=true then(none) else((gO.f k bt739.1 bt743.1).bind fun t806=>(if t806=true then((jW.f k bt747.1 bt747.2.1 bt747.2.2.1 bt747.2.2.2).bind fun t807=>((jX.f k bt747.1 bt747.2.1 bt747.2.2.1 bt747.2.2.2).bind fun t808=>(if t807=t808 then(if(bt760.2 != bt764.2)=true then(none) else((fZ.f k bt760.1 bt764.1).bind fun t809=>(if t809=true then(if(bt774.2 != bt778.2)=true then(none) else((fZ.f k bt774.1 bt778.1).bind fun t810=>(if t810=true then(if(bt782.2.2.2.2 != bt788.2.2.2.2)=true then(none) else(if(!(bt782.1== bt788.1)||(!(bt782.2.1== bt788.2.1)||(!(bt782.2.2.1== bt788.2.2.1))))=true then(none) else(if bt782.2.2.2.1=bt788.2.2.2.1 then(if(bt794.2 != bt798.2)=true then(none) else((fZ.f k bt794.1 bt798.1).bind fun t811=>(if t811=true then((fH.f k bt729.1 bt729.2).bind fun t812=>((fL.f k bt729.1 bt729.2).bind fun t813=>(if(t812 != t813)=true then(none) else((gC.f k bt729.1 bt729.2).bind fun t814=>((gZ.f k bt729.1 bt729.2).bind fun t815=>(if t814=t815 then((fB.f k bt729.1).bind fun t816=>((fA.f k bt729.1).bind fun t817=>(if(t816 != t817)=true then(none) else((gJ.f k bt729.1).bind fun t818=>((fR.f k t818).bind fun bt819=>((gA.f k bt729.1).bind fun t823=>(if t818.toList=t823.toList then((fA.f k bt729.1).bind fun t824=>(if(bt819.2 != t824)=true then(none) else(if bt819.2=true then((gO.f k bt819.1 bt729.1).bind fun t825=>(laws_FnCurves.j0 k bt729.1 bt729.2 t735 bt755.1 bt760.1 bt760.2 bt782.2.2.2.1 bt782.2.2.2.2 bt794.1 (!t825) bt782.1 bt782.2.1 bt782.2.2.1)) else(laws_FnCurves.j0 k bt729.1 bt729.2 t735 bt755.1 bt760.1 bt760.2 bt782.2.2.2.1 bt782.2.2.2.2 bt794.1 false bt782.1 bt782.2.1 bt782.2.2.1)))) else(none)))))))) else(none))))))) else(none)))) else(none)))) else(none)))) else(none)))) else(none)))) else(none)))) else(none)))))))))))))))))))))
def laws_FnCurves.Pure:Prop:=∀(l0:List Int),l0.length≤maxLen→l0.length*1≤140737488351232→(∀x∈l0,(Lit.int .u8 x).wf=true)→∃k,laws_FnCurves.f k l0=some true
attribute [local go_sem high] eqA42
def tailOf:Code→Nat→Code
 |c,0=>c
 | .seq _ b,n+1=>tailOf b n
 |c,_+1=>c
theorem bw_43 {n:Nat}{v v':World} (h:Below n v v':=by repeat(first|(with_reducible first|exact HB.out|apply bwA|apply pbN|apply bwD|refine bwS ?_ GE787.out|refine bwS ?_ GE793.out)|exact HB.out)):Below n v v':=h
attribute [local go_sem high] eqA42
theorem laws_FnCurves.p37 (A0:Option Addr) (c0:Nat) (l0:List Int) (r:Bool) (w:World) (Aj:List (List Int)) (Al Bm:List Int) (Bn:ByteArray) (Bo:List (List Int)) (Bp:Bool) (Bq:List (List Int)) (Br:Bool) (Bs:List (List Int)) (Bt:List Int) (Bu Bv:Int) (Bw:List (List Int)) (Bx By:Int) (Bz:List Int) (Ca:Bool) (Cc:List Int) (Cd:Bool) (Ce Cf Cg:List Int) (Ch:Bool) (Ci:List Int) (Cj:Bool) (t782 t783 t784 Ck:Int) (Cl:Bool) (t788 t789 t790 Cm:Int) (Cn:Bool) (Ae:List Int) (Co:Bool) (Cp:List Int) (Cq:Bool) (Cs:ByteArray) (Ct:Bool) (Ba:Option Addr) (Bb:Nat) (Ap:Option Addr) (Aq:Nat) (Cu:Option Addr) (Cv:Nat) (Cw:Option Addr) (Da:Nat) (Db:Option Addr) (Dc gb787:Nat) (GE787:Az (w.heap.size≤gb787)) (gb793:Nat) (GE793:Az (w.heap.size≤gb793)) (Dd:Option Addr) (De:Nat) (Df:Option Addr) (Dg:Nat) (Dh:Option Addr) (Di:Nat) (Dj:Option Addr) (Dk:Nat) (Dl:Option Addr) (Dm:Nat) (Dn:Option Addr) (Do:Nat) (Dp:Option Addr) (Dq:Nat) (Dr:Option Addr) (Ds:Nat) (Dt:Option Addr) (Du:Nat) (Am:Option Addr) (Ao:Nat) (Dv:Option Addr) (Dw:Nat) (Dx:Value) (Bc:Int) (Dy:Bool) (nd:Nat) (Dz:Value) (wc:World) (u46 u47 u48 u49 u50 u51 u52 u53 u54 u55 u56 u57 u58 u59 u60 u61 u62 u63 u64 u65 u66 u67 u68 u69 u70 u71 u72 u73 u74 u75 u76 u77 u78 u79 u80 u81 u82 u83 u84 u85 u86 u87 u88 u89 u90 u91 u92 u93 u94 u95 u96 u97 u98 u99 u100 u101 u102 u103 u104 u105 u106 u107 u108 u109 u110 u111 u112 u113 u114 u115 u116 u117 u118 u119 u120 u121 u122 u123 u124 u125 u126 u127 u128 u129 u130 u131 u132 u133 u134 u135 u136 u137 u138 u139 u140 u141 u142 u143 u144 u145 u146 u147 u148 u149 u150 u151 u152 u153 u154 u155 u156 u157 u158 u159 u160 u161 u162 u163 u164 u165 u166 u167 u168 u169 u170 u171 u172 u173 u174 u175 u176 u177 u178 u179 u180 u181 u182 u183 u184 u185 u186 u187 u188 u189 u190 u191 u192 u193 u194 u195 u196 u197 u198 u199 u200 u201 u202 u203 u204 u205 u206 u207 u208 u209 u210 u211 u212 u213 u214 u215 u216 u217 u218 u219 u220 u221 u222 u223 u224 u225 u226 u227 u228 u229 u230 u231 u232 u233 u234 u235 u236 u237 u238 u239 u240 u241 u242 u243 u244 u245 u246 u247 u248 u249 u250 u251 u252 u253 u254 u255 u256 u257 u258 u259 u260 u261 u262 u263 u264 u265 u266 u267 u268 u269 u270 u271 u272 u273 u274 u275 u276 u277 u278 u279 u280 u281 u282 u283 u284 u285 u286 u287 u288 u289 u290 u291 u292 u293 u294 u295 u296 u297 u298 u299 u300 u301 u302 u303 u304 u305 u306 u307 u308 u309 u310 u311 u312 u313 u314 u315 u316 u317 u318 u319 u320 u321 u322 u323 u324 u325 u326 u327 u328 u329 u330 u331 u332 u333 u334 u335 u336 u338 u339 u340 u341 u342 u343 u344 u345 u346 u347 u348 u349 u350 u351 u352 u353 u354 u355 u356 u357 u358 u359 u360 u361 u362 u363 u364 u365 u366 u367 u368:Value) (Af:Az (Kd.S (Kd.slice 3 (Kd.int IntKind.i64)) 25 wc (w.heap.size) (fun (k_:Nat)=>some k_≠Value.ownBlock (Value.slice Ap (List.length Al) Aq)∧some k_≠Value.ownBlock (Value.slice Am (List.length Ae) Ao)) (Value.slice Ba (List.length Aj) Bb) Aj)) (Ak:Az (Kd.Q (Kd.int IntKind.i64) 3 wc (w.heap.size) (fun (k_:Nat)=>some k_≠Value.ownBlock (Value.slice Am (List.length Ae) Ao)) (Value.slice Ap (List.length Al) Aq) Al)) (Aa:Az (Kd.R (Kd.int IntKind.i64) 3 wc (w.heap.size) (fun (k_:Nat)=>some k_≠Value.ownBlock (Value.slice Ap (List.length Al) Aq)) (Value.slice Am (List.length Ae) Ao) Ae)) (BK787:Az ((World.heap wc)[gb787]?= some (Obj.cells #[Value.int IntKind.i64 t782,Value.int IntKind.i64 t783,Value.int IntKind.i64 t784] 42))) (BK793:Az ((World.heap wc)[gb793]?= some (Obj.cells #[Value.int IntKind.i64 t788,Value.int IntKind.i64 t789,Value.int IntKind.i64 t790] 42))) (HB:Az (Below (w.heap.size) w wc)) (Ab:Nat) (As:List Int) (Bd:Bool) (H:(if Bd=true then Option.bind (fZ.f Ab As Ae) fun (Bf:Bool)=>if Bf=true then Option.bind (fH.f Ab Aj Ae) fun (Bh:Bool)=>if Bh=true then Option.bind (gC.f Ab Aj Ae) fun (Au:Int)=>if Au≤Bc then Option.bind (gS.f Ab Ae) fun (Bi:Int)=>Option.bind (gS.f Ab Al) fun (Bj:Int)=>some (Decidable.decide (Bi≤Bj))else none else none else none else none)=some r) (Ea:Az (fC.f Ab Aj Ae=some (As,Bd))):
  Code.wp Try.prog (tailOf (Try.f3.body.getD .skip) 29) (bodyPost Try.prog Try.f3 (fun e w'=>e= .returned (.bool r)∧Below w.heap.size w w')) ⟨#[Value.slice A0 (List.length l0) c0,undef,Value.bool false,Value.slice Ba (List.length Aj) Bb,Value.slice Ap (List.length Al) Aq,Value.slice Dd (List.length Bm) De,Value.string Bn,Value.slice Df (List.length Bo) Dg,Value.bool Bp,Value.slice Dh (List.length Bq) Di,Value.bool Br,Value.slice Dj (List.length Bs) Dk,Value.slice Dl (List.length Bt) Dm,Value.int IntKind.i64 Bu,Value.int IntKind.i64 Bv,Value.slice Cu (List.length Bw) Cv,Value.int IntKind.i64 Bx,Value.int IntKind.i64 By,Value.slice Dn (List.length Bz) Do,Value.bool Ca,Value.slice Dp (List.length Cc) Dq,Value.bool Cd,Value.slice Cw (List.length Ce) Da,Value.slice Db (List.length Cf) Dc,Value.slice Dr (List.length Cg) Ds,Value.bool Ch,Value.slice Dt (List.length Ci) Du,Value.bool Cj,Value.pointer (some ⟨gb787,0,none⟩),Value.int IntKind.i64 Ck,Value.bool Cl,Value.pointer (some ⟨gb793,0,none⟩),Value.int IntKind.i64 Cm,Value.bool Cn,Value.slice Am (List.length Ae) Ao,Value.bool Co,Value.slice Dv (List.length Cp) Dw,Value.bool Cq,Value.string Cs,Dx,Value.bool Ct,Value.int IntKind.i64 Bc,Dz,Value.bool Dy,undef,undef,u46,u47,u48,u49,u50,u51,u52,u53,u54,u55,u56,u57,u58,u59,u60,u61,u62,u63,u64,u65,u66,u67,u68,u69,u70,u71,u72,u73,u74,u75,u76,u77,u78,u79,u80,u81,u82,u83,u84,u85,u86,u87,u88,u89,u90,u91,u92,u93,u94,u95,u96,u97,u98,u99,u100,u101,u102,u103,u104,u105,u106,u107,u108,u109,u110,u111,u112,u113,u114,u115,u116,u117,u118,u119,u120,u121,u122,u123,u124,u125,u126,u127,u128,u129,u130,u131,u132,u133,u134,u135,u136,u137,u138,u139,u140,u141,u142,u143,u144,u145,u146,u147,u148,u149,u150,u151,u152,u153,u154,u155,u156,u157,u158,u159,u160,u161,u162,u163,u164,u165,u166,u167,u168,u169,u170,u171,u172,u173,u174,u175,u176,u177,u178,u179,u180,u181,u182,u183,u184,u185,u186,u187,u188,u189,u190,u191,u192,u193,u194,u195,u196,u197,u198,u199,u200,u201,u202,u203,u204,u205,u206,u207,u208,u209,u210,u211,u212,u213,u214,u215,u216,u217,u218,u219,u220,u221,u222,u223,u224,u225,u226,u227,u228,u229,u230,u231,u232,u233,u234,u235,u236,u237,u238,u239,u240,u241,u242,u243,u244,u245,u246,u247,u248,u249,u250,u251,u252,u253,u254,u255,u256,u257,u258,u259,u260,u261,u262,u263,u264,u265,u266,u267,u268,u269,u270,u271,u272,u273,u274,u275,u276,u277,u278,u279,u280,u281,u282,u283,u284,u285,u286,u287,u288,u289,u290,u291,u292,u293,u294,u295,u296,u297,u298,u299,u300,u301,u302,u303,u304,u305,u306,u307,u308,u309,u310,u311,u312,u313,u314,u315,u316,u317,u318,u319,u320,u321,u322,u323,u324,u325,u326,u327,u328,u329,u330,u331,u332,u333,u334,u335,u336,Value.bool false,u338,u339,u340,u341,u342,u343,u344,u345,u346,u347,u348,u349,u350,u351,u352,u353,u354,u355,u356,u357,u358,u359,u360,u361,u362,u363,u364,u365,u366,u367,u368],[]⟩ wc:=by
 (try dsimp only)
 conv=>arg 2;whnf
 by_cases Av:Bd=true
 rotate_left
 ·replace Av:=Bool.eq_false_iff.mpr Av
  subst Av
  rw[ig ff]at H
  exact absurd H (by simp)
 subst Av
 rw[ip rfl]at H
 replace H:=bez H
 obtain⟨Bf,Eb,H⟩:=H
 try dsimp only at H
 by_cases Aw:Bf=true
 rotate_left
 ·replace Aw:=Bool.eq_false_iff.mpr Aw
  subst Aw
  rw[ig ff]at H
  exact absurd H (by simp)
 subst Aw
 rw[ip rfl]at H
 replace H:=bez H
 obtain⟨Bh,Ec,H⟩:=H
 try dsimp only at H
 by_cases Ax:Bh=true
 rotate_left
 ·replace Ax:=Bool.eq_false_iff.mpr Ax
  subst Ax
  rw[ig ff]at H
  exact absurd H (by simp)
 subst Ax
 rw[ip rfl]at H
 replace H:=bez H
 obtain⟨Au,Ed,H⟩:=H
 try dsimp only at H
 by_cases Ay:Au≤Bc
 rotate_left
 ·rw[ig Ay]at H
  exact absurd H (by simp)
 rw[ip Ay]at H
 have Ee:=ode Ay
 clear Ay
 replace H:=bez H
 obtain⟨Bi,Ef,H⟩:=H
 try dsimp only at H
 replace H:=bez H
 obtain⟨Bj,Eg,H⟩:=H
 try dsimp only at H
 obtain rfl:=Option.some.inj H
 go_wp2_with (first|((with_reducible refine gtC (f:=19) rfl ?_);refine clz Try.func19 (some 341) #[.slice Ba Aj.length Bb, .slice Am Ae.length Ao] ?_;(with_reducible refine(fC.calls Ab _ _ Aj _ _ Ae As true _ ?Ac ?Ad ?Ag ?Ah Ea.out).mono ?_);(case Ac=>exact kC (Kd.S_reads' Af.out).2.2);(case Ad=>exact(Kd.S_reads' Af.out).2.1);(case Ag=>exact kC (Kd.R_reads' Aa.out).2.2);(case Ah=>exact(Kd.R_reads' Aa.out).2.1);rintro e Ej ⟨Ek,rfl,Bk,hb⟩;refine⟨_,rfl,?_⟩;replace Af:=Az.mk (Kd.S_elder' (kS Af.out) (Kd.R_base Bk) hb);have Ai:=Az.mk (Kd.R_lower (Kd.R_new' (Kd.R_new' Bk (Kd.Q_lt (kQ Ak.out))) (Kd.R_lt (kR Aa.out))) (bwZ bw_43));replace Ak:=Az.mk (Kd.Q_elder' (kQ Ak.out) (Kd.R_base Bk) hb);replace Aa:=Az.mk (Kd.R_elder' (kR Aa.out) (Kd.R_base Bk) hb);replace BK787:=bkz BK787 hb;replace BK793:=bkz BK793 hb;replace HB:=Az.mk (bwT bw_43 hb);(try clear hb);(try clear Bk);obtain⟨Eh,Ei,Bl⟩:=Kd.R_slice Ai.out;subst Bl)|(go_at_call 21;(with_reducible refine(fZ.calls Ab _ _ As _ _ Ae true _ ?Ac ?Ad ?Ag ?Ah Eb.out).mono ?_);(case Ac=>exact kC (Kd.R_reads' Ai.out).2.2);(case Ad=>exact(Kd.R_reads' Ai.out).2.1);(case Ag=>exact kC (Kd.R_reads' Aa.out).2.2);(case Ah=>exact(Kd.R_reads' Aa.out).2.1);rintro e w' ⟨rfl,⟨nd,rfl⟩⟩)|(go_at_call 26;(with_reducible refine(fH.calls Ab _ _ Aj _ _ Ae true _ ?Ac ?Ad ?Ag ?Ah Ec.out).mono ?_);(case Ac=>exact kC (Kd.S_reads' Af.out).2.2);(case Ad=>exact(Kd.S_reads' Af.out).2.1);(case Ag=>exact kC (Kd.R_reads' Aa.out).2.2);(case Ah=>exact(Kd.R_reads' Aa.out).2.1);rintro e El ⟨rfl,hb⟩;replace Af:=Az.mk (Kd.S_below (kS Af.out) hb);replace Ak:=Az.mk (Kd.Q_below (kQ Ak.out) hb);replace Aa:=Az.mk (Kd.R_below (kR Aa.out) hb);replace Ai:=Az.mk (Kd.R_below (kR Ai.out) hb);replace BK787:=bkz BK787 hb;replace BK793:=bkz BK793 hb;replace HB:=Az.mk (bwT bw_43 hb);(try clear hb))|(go_at_call 28;(with_reducible refine(gC.calls Ab _ _ Aj _ _ Ae Au _ ?Ac ?Ad ?Ag ?Ah Ed.out).mono ?_);(case Ac=>exact kC (Kd.S_reads' Af.out).2.2);(case Ad=>exact(Kd.S_reads' Af.out).2.1);(case Ag=>exact kC (Kd.R_reads' Aa.out).2.2);(case Ah=>exact(Kd.R_reads' Aa.out).2.1);rintro e Em ⟨rfl,hb⟩;replace Af:=Az.mk (Kd.S_below (kS Af.out) hb);replace Ak:=Az.mk (Kd.Q_below (kQ Ak.out) hb);replace Aa:=Az.mk (Kd.R_below (kR Aa.out) hb);replace Ai:=Az.mk (Kd.R_below (kR Ai.out) hb);replace BK787:=bkz BK787 hb;replace BK793:=bkz BK793 hb;replace HB:=Az.mk (bwT bw_43 hb);(try clear hb))|(go_at_call 35;(with_reducible refine(gS.calls Ab _ _ Ae Bi _ ?Ac ?Ad Ef.out).mono ?_);(case Ac=>exact kC (Kd.R_reads' Aa.out).2.2);(case Ad=>exact(Kd.R_reads' Aa.out).2.1);rintro e w' ⟨rfl,⟨nd,rfl⟩⟩)|(go_at_call 35;(with_reducible refine(gS.calls Ab _ _ Al Bj _ ?Ac ?Ad Eg.out).mono ?_);(case Ac=>exact kC (Kd.Q_reads' Ak.out).2.2);(case Ad=>exact(Kd.Q_reads' Ak.out).2.1);rintro e w' ⟨rfl,⟨nd,rfl⟩⟩))
 go_ret
 exact⟨rq1,bw_43⟩
theorem bw_44 {n:Nat}{v v':World} (h:Below n v v':=by repeat(first|(with_reducible first|exact HB.out|apply bwA|apply pbN|apply bwD|refine bwS ?_ GE787.out|refine bwS ?_ GE793.out)|exact HB.out)):Below n v v':=h
theorem ln_44 {P:Prop} (h:P:=by(try simp only[List.map_toArray,List.map_cons,List.map_nil]);first|done|rfl|(simp only[List.length_drop,List.length_take];rfl)):P:=h
attribute [local go_sem high] eqA42
theorem laws_FnCurves.p29 (k:Nat) (A0:Option Addr) (c0:Nat) (l0:List Int) (r:Bool) (w:World) (Ah:List (List Int)) (Ae Au:List Int) (Cg:ByteArray) (Ch:List (List Int)) (Ci:Bool) (Cj:List (List Int)) (Ck:Bool) (Cl:List (List Int)) (Cm:List Int) (Cn Co:Int) (Cp:List (List Int)) (Cq Cs:Int) (Ct:List Int) (Cu:Bool) (Cv:List Int) (Cw:Bool) (Da Db Dc:List Int) (Dd:Bool) (De:List Int) (Df:Bool) (t782 t783 t784 Dg:Int) (Dh:Bool) (t788 t789 t790 Di:Int) (Dj:Bool) (Ap:List Int) (Dk:Bool) (Dl:List Int) (Dm:Bool) (Dn:ByteArray) (Do:Bool) (Aw:Option Addr) (Ax:Nat) (Am:Option Addr) (Ao:Nat) (Dp:Option Addr) (Dq:Nat) (Dr:Option Addr) (Ds:Nat) (Dt:Option Addr) (Du gb787:Nat) (GE787:Az (w.heap.size≤gb787)) (gb793:Nat) (GE793:Az (w.heap.size≤gb793)) (Bb:Option Addr) (Bc:Nat) (Dv:Option Addr) (Dw:Nat) (Dx:Option Addr) (Dy:Nat) (Dz:Option Addr) (Ea:Nat) (Eb:Option Addr) (Ec:Nat) (Ed:Option Addr) (Ee:Nat) (Ef:Option Addr) (Eg:Nat) (Eh:Option Addr) (Ei:Nat) (Ej:Option Addr) (Ek:Nat) (Ay:Option Addr) (Ba:Nat) (El:Option Addr) (Em nd:Nat) (Eo:Value) (Ep:Nat) (Er:Az (Ep+1≤k)) (Bu:Nat) (Bv:Az (Bu+1≤Ep)) (wc:World) (u46 u47 u48 u49 u50 u51 u52 u53 u54 u55 u56 u57 u58 u59 u60 u61 u62 u63 u64 u65 u66 u67 u68 u69 u70 u71 u72 u73 u74 u75 u76 u77 u78 u79 u80 u81 u82 u83 u84 u85 u86 u87 u88 u89 u90 u91 u92 u93 u94 u95 u96 u97 u98 u99 u100 u101 u102 u103 u104 u105 u106 u107 u108 u109 u110 u111 u112 u113 u114 u115 u116 u117 u118 u119 u120 u121 u122 u123 u124 u125 u126 u127 u128 u129 u130 u131 u132 u133 u134 u135 u136 u137 u138 u139 u140 u141 u142 u143 u144 u145 u146 u147 u148 u149 u150 u151 u152 u153 u154 u155 u156 u157 u158 u159 u160 u161 u162 u163 u164 u165 u166 u167 u168 u169 u170 u171 u172 u173 u174 u175 u176 u177 u178 u179 u180 u181 u182 u183 u184 u185 u186 u187 u188 u189 u190 u191 u192 u193 u194 u195 u196 u197 u198 u199 u200 u201 u202 u203 u204 u205 u206 u207 u208 u209 u210 u211 u212 u213 u214 u215 u216 u217 u218 u219 u220 u221 u222 u223 u224 u225 u226 u227 u228 u229 u230 u231 u232 u233 u234 u235 u236 u237 u238 u239 u240 u241 u242 u243 u244 u245 u246 u247 u248 u249 u250 u251 u252 u253 u254 u255 u256 u257 u258 u259 u260 u261 u262 u263 u264 u265 u266 u267 u268 u269 u270 u271 u272 u273 u274 u275 u276 u277 u278 u279 u280 u281 u282 u283 u284 u285 u286 u287 u289 u290 u291 u292 u293 u294 u295 u296 u297 u298 u299 u300 u301 u302 u303 u304 u305 u306 u307 u308 u309 u310 u311 u312 u313 u314 u315 u316 u317 u318 u319 u320 u321 u322 u323 u324 u325 u326 u327 u328 u329 u330 u331 u332 u333 u334 u335 u336 u337 u338 u339 u340 u341 u342 u343 u344 u345 u346 u347 u348 u349 u350 u351 u352 u353 u354 u355 u356 u357 u358 u359 u360 u361 u362 u363 u364 u365 u366 u367 u368:Value) (Ab:Az (Kd.S (Kd.slice 3 (Kd.int IntKind.i64)) 25 wc (w.heap.size) (fun (k_:Nat)=>some k_≠Value.ownBlock (Value.slice Am (List.length Ae) Ao)∧some k_≠Value.ownBlock (Value.slice Bb (List.length Au) Bc)∧some k_≠Value.ownBlock (Value.slice Ay (List.length Ap) Ba)) (Value.slice Aw (List.length Ah) Ax) Ah)) (Ac:Az (Kd.Q (Kd.int IntKind.i64) 3 wc (w.heap.size) (fun (k_:Nat)=>some k_≠Value.ownBlock (Value.slice Bb (List.length Au) Bc)∧some k_≠Value.ownBlock (Value.slice Ay (List.length Ap) Ba)) (Value.slice Am (List.length Ae) Ao) Ae)) (Ai:Az (Kd.R (Kd.int IntKind.i64) 3 wc (w.heap.size) (fun (k_:Nat)=>some k_≠Value.ownBlock (Value.slice Am (List.length Ae) Ao)∧some k_≠Value.ownBlock (Value.slice Ay (List.length Ap) Ba)) (Value.slice Bb (List.length Au) Bc) Au)) (Ad:Az (Kd.R (Kd.int IntKind.i64) 3 wc (w.heap.size) (fun (k_:Nat)=>some k_≠Value.ownBlock (Value.slice Am (List.length Ae) Ao)∧some k_≠Value.ownBlock (Value.slice Bb (List.length Au) Bc)) (Value.slice Ay (List.length Ap) Ba) Ap)) (BK787:Az ((World.heap wc)[gb787]?= some (Obj.cells #[Value.int IntKind.i64 t782,Value.int IntKind.i64 t783,Value.int IntKind.i64 t784] 42))) (BK793:Az ((World.heap wc)[gb793]?= some (Obj.cells #[Value.int IntKind.i64 t788,Value.int IntKind.i64 t789,Value.int IntKind.i64 t790] 42))) (HB:Az (Below (w.heap.size) w wc)) (Aa:Nat) (Bw:Az (Aa+1≤Bu)) (Bx:Bool) (H:(if Bx=true then Option.bind (gC.f Aa Ah Ae) fun (Av:Int)=>Option.bind (gS.f Aa Au) fun (Bp:Int)=>Option.bind (gS.f Aa Ae) fun (Bq:Int)=>if Bp=Bq then if Av=(↑(List.length Au):Int)then Option.bind (jV.f Aa Ah) fun (Bi:List Int)=>Option.bind (fJ.f Aa Ae Bi) fun (Bj:List Int × Bool)=>if Prod.snd Bj=true then Option.bind (fH.f Aa Ah (Prod.fst Bj)) fun (By:Bool)=>if By=true then Option.bind (gC.f Aa Ah (Prod.fst Bj)) fun (Br:Int)=>laws_FnCurves.j3 Aa Ah Ae Ap Av (Br != wrap64 (Av+1))else none else laws_FnCurves.j3 Aa Ah Ae Ap Av false else none else none else Option.bind (gC.f Aa Ah Ae) fun (Bs:Int)=>if Bs= -1 then some ((↑(List.length Au):Int)== 0)else none)=some r) (Es:Az (fH.f Aa Ah Ae=some Bx)):
  Code.wp Try.prog (tailOf (Try.f3.body.getD .skip) 24) (bodyPost Try.prog Try.f3 (fun e w'=>e= .returned (.bool r)∧Below w.heap.size w w')) ⟨#[Value.slice A0 (List.length l0) c0,undef,Value.bool false,Value.slice Aw (List.length Ah) Ax,Value.slice Am (List.length Ae) Ao,Value.slice Bb (List.length Au) Bc,Value.string Cg,Value.slice Dv (List.length Ch) Dw,Value.bool Ci,Value.slice Dx (List.length Cj) Dy,Value.bool Ck,Value.slice Dz (List.length Cl) Ea,Value.slice Eb (List.length Cm) Ec,Value.int IntKind.i64 Cn,Value.int IntKind.i64 Co,Value.slice Dp (List.length Cp) Dq,Value.int IntKind.i64 Cq,Value.int IntKind.i64 Cs,Value.slice Ed (List.length Ct) Ee,Value.bool Cu,Value.slice Ef (List.length Cv) Eg,Value.bool Cw,Value.slice Dr (List.length Da) Ds,Value.slice Dt (List.length Db) Du,Value.slice Eh (List.length Dc) Ei,Value.bool Dd,Value.slice Ej (List.length De) Ek,Value.bool Df,Value.pointer (some ⟨gb787,0,none⟩),Value.int IntKind.i64 Dg,Value.bool Dh,Value.pointer (some ⟨gb793,0,none⟩),Value.int IntKind.i64 Di,Value.bool Dj,Value.slice Ay (List.length Ap) Ba,Value.bool Dk,Value.slice El (List.length Dl) Em,Value.bool Dm,Value.string Dn,Eo,Value.bool Do,undef,undef,undef,undef,undef,u46,u47,u48,u49,u50,u51,u52,u53,u54,u55,u56,u57,u58,u59,u60,u61,u62,u63,u64,u65,u66,u67,u68,u69,u70,u71,u72,u73,u74,u75,u76,u77,u78,u79,u80,u81,u82,u83,u84,u85,u86,u87,u88,u89,u90,u91,u92,u93,u94,u95,u96,u97,u98,u99,u100,u101,u102,u103,u104,u105,u106,u107,u108,u109,u110,u111,u112,u113,u114,u115,u116,u117,u118,u119,u120,u121,u122,u123,u124,u125,u126,u127,u128,u129,u130,u131,u132,u133,u134,u135,u136,u137,u138,u139,u140,u141,u142,u143,u144,u145,u146,u147,u148,u149,u150,u151,u152,u153,u154,u155,u156,u157,u158,u159,u160,u161,u162,u163,u164,u165,u166,u167,u168,u169,u170,u171,u172,u173,u174,u175,u176,u177,u178,u179,u180,u181,u182,u183,u184,u185,u186,u187,u188,u189,u190,u191,u192,u193,u194,u195,u196,u197,u198,u199,u200,u201,u202,u203,u204,u205,u206,u207,u208,u209,u210,u211,u212,u213,u214,u215,u216,u217,u218,u219,u220,u221,u222,u223,u224,u225,u226,u227,u228,u229,u230,u231,u232,u233,u234,u235,u236,u237,u238,u239,u240,u241,u242,u243,u244,u245,u246,u247,u248,u249,u250,u251,u252,u253,u254,u255,u256,u257,u258,u259,u260,u261,u262,u263,u264,u265,u266,u267,u268,u269,u270,u271,u272,u273,u274,u275,u276,u277,u278,u279,u280,u281,u282,u283,u284,u285,u286,u287,Value.bool false,u289,u290,u291,u292,u293,u294,u295,u296,u297,u298,u299,u300,u301,u302,u303,u304,u305,u306,u307,u308,u309,u310,u311,u312,u313,u314,u315,u316,u317,u318,u319,u320,u321,u322,u323,u324,u325,u326,u327,u328,u329,u330,u331,u332,u333,u334,u335,u336,u337,u338,u339,u340,u341,u342,u343,u344,u345,u346,u347,u348,u349,u350,u351,u352,u353,u354,u355,u356,u357,u358,u359,u360,u361,u362,u363,u364,u365,u366,u367,u368],[]⟩ wc:=by
 (try dsimp only)
 conv=>arg 2;whnf
 by_cases Bk:Bx=true
 rotate_left
 ·replace Bk:=Bool.eq_false_iff.mpr Bk
  subst Bk
  rw[ig ff]at H
  replace H:=bez H
  obtain⟨Bs,Ey,H⟩:=H
  try dsimp only at H
  by_cases Bl:Bs=(-1)
  rotate_left
  ·rw[ig Bl]at H
   exact absurd H (by simp)
  rw[ip Bl]at H
  have Ez:=beq_iff_eq.mpr Bl
  have Ga:=bne_eq_false_iff_eq.mpr Bl
  clear Bl
  obtain rfl:=Option.some.inj H
  go_wp2_with (first|((with_reducible refine gtC (f:=26) rfl ?_);refine clz Try.func26 (some 291) #[.slice Aw Ah.length Ax, .slice Am Ae.length Ao] ?_;(with_reducible refine(fH.calls Aa _ _ Ah _ _ Ae false _ ?Af ?Ag ?Aj ?Ak Es.out).mono ?_);(case Af=>exact kC (Kd.S_reads' Ab.out).2.2);(case Ag=>exact(Kd.S_reads' Ab.out).2.1);(case Aj=>exact kC (Kd.Q_reads' Ac.out).2.2);(case Ak=>exact(Kd.Q_reads' Ac.out).2.1);rintro e Gr ⟨rfl,hb⟩;refine⟨_,rfl,?_⟩;replace Ab:=Az.mk (Kd.S_below (kS Ab.out) hb);replace Ac:=Az.mk (Kd.Q_below (kQ Ac.out) hb);replace Ai:=Az.mk (Kd.R_below (kR Ai.out) hb);replace Ad:=Az.mk (Kd.R_below (kR Ad.out) hb);replace BK787:=bkz BK787 hb;replace BK793:=bkz BK793 hb;replace HB:=Az.mk (bwT bw_44 hb);(try clear hb))|((with_reducible refine gtC (f:=28) rfl ?_);refine clz Try.func28 (some 295) #[.slice Aw Ah.length Ax, .slice Am Ae.length Ao] ?_;(with_reducible refine(gC.calls Aa _ _ Ah _ _ Ae Bs _ ?Af ?Ag ?Aj ?Ak Ey.out).mono ?_);(case Af=>exact kC (Kd.S_reads' Ab.out).2.2);(case Ag=>exact(Kd.S_reads' Ab.out).2.1);(case Aj=>exact kC (Kd.Q_reads' Ac.out).2.2);(case Ak=>exact(Kd.Q_reads' Ac.out).2.1);rintro e Gs ⟨rfl,hb⟩;refine⟨_,rfl,?_⟩;replace Ab:=Az.mk (Kd.S_below (kS Ab.out) hb);replace Ac:=Az.mk (Kd.Q_below (kQ Ac.out) hb);replace Ai:=Az.mk (Kd.R_below (kR Ai.out) hb);replace Ad:=Az.mk (Kd.R_below (kR Ad.out) hb);replace BK787:=bkz BK787 hb;replace BK793:=bkz BK793 hb;replace HB:=Az.mk (bwT bw_44 hb);(try clear hb)))
  go_ret
  exact⟨rq1,bw_44⟩
 subst Bk
 rw[ip rfl]at H
 replace H:=bez H
 obtain⟨Av,Gb,H⟩:=H
 try dsimp only at H
 replace H:=bez H
 obtain⟨Bp,Gc,H⟩:=H
 try dsimp only at H
 replace H:=bez H
 obtain⟨Bq,Gd,H⟩:=H
 try dsimp only at H
 by_cases Bf:Bp=Bq
 rotate_left
 ·rw[ig Bf]at H
  exact absurd H (by simp)
 rw[ip Bf]at H
 have Bz:=beq_iff_eq.mpr Bf
 have Ca:=bne_eq_false_iff_eq.mpr Bf
 clear Bf
 by_cases Bh:Av=(Au.length:Int)
 rotate_left
 ·rw[ig Bh]at H
  exact absurd H (by simp)
 rw[ip Bh]at H
 have Cc:=beq_iff_eq.mpr Bh
 have Cd:=bne_eq_false_iff_eq.mpr Bh
 clear Bh
 replace H:=bez H
 obtain⟨Bi,Ge,H⟩:=H
 try dsimp only at H
 replace H:=bez H
 obtain⟨⟨Ce,Cf⟩,Gf,H⟩:=H
 try dsimp only at H
 have Bm:=Az.mk H
 clear H
 go_upto_region 35 with (first|((with_reducible refine gtC (f:=26) rfl ?_);refine clz Try.func26 (some 291) #[.slice Aw Ah.length Ax, .slice Am Ae.length Ao] ?_;(with_reducible refine(fH.calls Aa _ _ Ah _ _ Ae true _ ?Af ?Ag ?Aj ?Ak Es.out).mono ?_);(case Af=>exact kC (Kd.S_reads' Ab.out).2.2);(case Ag=>exact(Kd.S_reads' Ab.out).2.1);(case Aj=>exact kC (Kd.Q_reads' Ac.out).2.2);(case Ak=>exact(Kd.Q_reads' Ac.out).2.1);rintro e Gt ⟨rfl,hb⟩;refine⟨_,rfl,?_⟩;replace Ab:=Az.mk (Kd.S_below (kS Ab.out) hb);replace Ac:=Az.mk (Kd.Q_below (kQ Ac.out) hb);replace Ai:=Az.mk (Kd.R_below (kR Ai.out) hb);replace Ad:=Az.mk (Kd.R_below (kR Ad.out) hb);replace BK787:=bkz BK787 hb;replace BK793:=bkz BK793 hb;replace HB:=Az.mk (bwT bw_44 hb);(try clear hb))|((with_reducible refine gtC (f:=28) rfl ?_);refine clz Try.func28 (some 304) #[.slice Aw Ah.length Ax, .slice Am Ae.length Ao] ?_;(with_reducible refine(gC.calls Aa _ _ Ah _ _ Ae Av _ ?Af ?Ag ?Aj ?Ak Gb.out).mono ?_);(case Af=>exact kC (Kd.S_reads' Ab.out).2.2);(case Ag=>exact(Kd.S_reads' Ab.out).2.1);(case Aj=>exact kC (Kd.Q_reads' Ac.out).2.2);(case Ak=>exact(Kd.Q_reads' Ac.out).2.1);rintro e Gu ⟨rfl,hb⟩;refine⟨_,rfl,?_⟩;replace Ab:=Az.mk (Kd.S_below (kS Ab.out) hb);replace Ac:=Az.mk (Kd.Q_below (kQ Ac.out) hb);replace Ai:=Az.mk (Kd.R_below (kR Ai.out) hb);replace Ad:=Az.mk (Kd.R_below (kR Ad.out) hb);replace BK787:=bkz BK787 hb;replace BK793:=bkz BK793 hb;replace HB:=Az.mk (bwT bw_44 hb);(try clear hb))|((with_reducible refine gtC (f:=35) rfl ?_);refine clz Try.func35 (some 306) #[.slice Bb Au.length Bc] ?_;(with_reducible refine(gS.calls Aa _ _ Au Bp _ ?Af ?Ag Gc.out).mono ?_);(case Af=>exact kC (Kd.R_reads' Ai.out).2.2);(case Ag=>exact(Kd.R_reads' Ai.out).2.1);rintro e w' ⟨rfl,⟨nd,rfl⟩⟩;refine⟨_,rfl,?_⟩)|((with_reducible refine gtC (f:=35) rfl ?_);refine clz Try.func35 (some 308) #[.slice Am Ae.length Ao] ?_;(with_reducible refine(gS.calls Aa _ _ Ae Bq _ ?Af ?Ag Gd.out).mono ?_);(case Af=>exact kC (Kd.Q_reads' Ac.out).2.2);(case Ag=>exact(Kd.Q_reads' Ac.out).2.1);rintro e w' ⟨rfl,⟨nd,rfl⟩⟩;refine⟨_,rfl,?_⟩)|((with_reducible refine gtC (f:=36) rfl ?_);refine clz Try.func36 (some 319) #[.slice Aw Ah.length Ax] ?_;(with_reducible refine(jV.calls Aa _ _ Ah Bi _ ?Af ?Ag Ge.out).mono ?_);(case Af=>exact kC (Kd.S_reads' Ab.out).2.2);(case Ag=>exact(Kd.S_reads' Ab.out).2.1);rintro e Gv ⟨Gw,rfl,Bd,hb⟩;refine⟨_,rfl,?_⟩;replace Ab:=Az.mk (Kd.S_elder' (kS Ab.out) (Kd.R_base Bd) hb);have Al:=Az.mk (Kd.R_lower (Kd.R_new' (Kd.R_new' (Kd.R_new' Bd (Kd.Q_lt (kQ Ac.out))) (Kd.R_lt (kR Ai.out))) (Kd.R_lt (kR Ad.out))) (bwZ bw_44));replace Ac:=Az.mk (Kd.Q_elder' (kQ Ac.out) (Kd.R_base Bd) hb);replace Ai:=Az.mk (Kd.R_elder' (kR Ai.out) (Kd.R_base Bd) hb);replace Ad:=Az.mk (Kd.R_elder' (kR Ad.out) (Kd.R_base Bd) hb);replace BK787:=bkz BK787 hb;replace BK793:=bkz BK793 hb;replace HB:=Az.mk (bwT bw_44 hb);(try clear hb);(try clear Bd);obtain⟨Et,Eu,Ev⟩:=Kd.R_slice Al.out;subst Ev)|((with_reducible refine gtC (f:=15) rfl ?_);refine clz Try.func15 (some 320) #[.slice Am Ae.length Ao, .slice Et Bi.length Eu] ?_;(with_reducible refine(fJ.calls Aa _ _ Ae _ _ Bi Ce Cf _ ?Af ?Ag ?Aj ?Ak Gf.out).mono ?_);(case Af=>exact kC (Kd.Q_reads' Ac.out).2.2);(case Ag=>exact(Kd.Q_reads' Ac.out).2.1);(case Aj=>exact kC (Kd.R_reads' Al.out).2.2);(case Ak=>exact(Kd.R_reads' Al.out).2.1);rintro e Gx ⟨Gg,rfl,Bd,hb⟩;refine⟨_,rfl,?_⟩;replace Ab:=Az.mk (Kd.S_elder' (kS Ab.out) (Kd.R_base Bd) hb);have Aq:=Az.mk (Kd.R_lower (Kd.R_new' (Kd.R_new' (Kd.R_new' (Kd.R_new' Bd (Kd.Q_lt (kQ Ac.out))) (Kd.R_lt (kR Ai.out))) (Kd.R_lt (kR Ad.out))) (Kd.R_lt (kR Al.out))) (bwZ bw_44));replace Ac:=Az.mk (Kd.Q_elder' (kQ Ac.out) (Kd.R_base Bd) hb);replace Ai:=Az.mk (Kd.R_elder' (kR Ai.out) (Kd.R_base Bd) hb);replace Ad:=Az.mk (Kd.R_elder' (kR Ad.out) (Kd.R_base Bd) hb);replace Al:=Az.mk (Kd.R_elder' (kR Al.out) (Kd.R_base Bd) hb);replace BK787:=bkz BK787 hb;replace BK793:=bkz BK793 hb;replace HB:=Az.mk (bwT bw_44 hb);(try clear hb);(try clear Bd)))
 (try simp only[Act.put,List.setIfInBounds_toArray,List.set_cons_zero,List.set_cons_succ])
 go_cut [337] (fun Gh wc=>∃(kq:Nat) (As:Bool),Gh= .bool As∧Az (laws_FnCurves.j3 kq Ah Ae Ap Av As=some r)∧Az (kq≤Aa)∧Az (Kd.S (Kd.slice 3 (Kd.int .i64)) 25 wc w.heap.size (fun k_=>some k_≠((.slice Am Ae.length Ao):Value).ownBlock∧some k_≠((.slice Ay Ap.length Ba):Value).ownBlock) (.slice Aw Ah.length Ax) Ah)∧Az (Kd.Q (Kd.int .i64) 3 wc w.heap.size (fun k_=>some k_≠((.slice Ay Ap.length Ba):Value).ownBlock) (.slice Am Ae.length Ao) Ae)∧Az (Kd.R (Kd.int .i64) 3 wc w.heap.size (fun k_=>some k_≠((.slice Am Ae.length Ao):Value).ownBlock) (.slice Ay Ap.length Ba) Ap)∧Az (wc.heap[gb787]?= some (.cells #[.int .i64 t782, .int .i64 t783, .int .i64 t784] 42 (0,0)))∧Az (wc.heap[gb793]?= some (.cells #[.int .i64 t788, .int .i64 t789, .int .i64 t790] 42 (0,0)))∧Az (Below w.heap.size w wc))
 case first=>
  have H:=Bm.out
  clear Bm
  by_cases Bn:Cf=true
  rotate_left
  ·replace Bn:=Bool.eq_false_iff.mpr Bn
   subst Bn
   rw[ig ff]at H
   have H':=Az.mk H
   clear H
   go_wp2
   go_meet
   case rel=>exact⟨_,(false),rq2,H',⟨by have:=Er.out;have:=Bv.out;have:=Bw.out;first|omega|exact Nat.le_refl _⟩,⟨by(with_reducible repeat(first|apply Kd.S_alloc|apply Kd.S_drewN|apply Kd.S_drew));exact Kd.S_mono Ab.out (fun _ hk=>⟨hk.1.1.1,hk.1.1.2.2⟩)⟩,⟨by(with_reducible repeat(first|apply Kd.Q_alloc|apply Kd.Q_drewN|apply Kd.Q_drew));exact Kd.Q_mono Ac.out (fun _ hk=>hk.1.1.2)⟩,⟨by(with_reducible repeat(first|apply Kd.R_alloc|apply Kd.R_drewN|apply Kd.R_drew));exact Kd.R_mono Ad.out (fun _ hk=>hk.1.1.1)⟩,⟨bk1 BK787⟩,⟨bk1 BK793⟩,⟨bw_44⟩⟩
  subst Bn
  rw[ip rfl]at H
  replace H:=bez H
  obtain⟨By,Gi,H⟩:=H
  try dsimp only at H
  by_cases Bo:By=true
  rotate_left
  ·replace Bo:=Bool.eq_false_iff.mpr Bo
   subst Bo
   rw[ig ff]at H
   exact absurd H (by simp)
  subst Bo
  rw[ip rfl]at H
  replace H:=bez H
  obtain⟨Br,Gj,H⟩:=H
  try dsimp only at H
  have H':=Az.mk H
  clear H
  obtain⟨Gn,Gp,Ew⟩:=Kd.R_slice Aq.out
  subst Ew
  go_wp2_with (first|(go_at_call 26;(with_reducible refine(fH.calls Aa _ _ Ah _ _ Ce true _ ?Af ?Ag ?Aj ?Ak Gi.out).mono ?_);(case Af=>exact kC (Kd.S_reads' Ab.out).2.2);(case Ag=>exact(Kd.S_reads' Ab.out).2.1);(case Aj=>exact kC (Kd.R_reads' Aq.out).2.2);(case Ak=>exact(Kd.R_reads' Aq.out).2.1);rintro e Gy ⟨rfl,hb⟩;replace Ab:=Az.mk (Kd.S_below (kS Ab.out) hb);replace Ac:=Az.mk (Kd.Q_below (kQ Ac.out) hb);replace Ai:=Az.mk (Kd.R_below (kR Ai.out) hb);replace Ad:=Az.mk (Kd.R_below (kR Ad.out) hb);replace Al:=Az.mk (Kd.R_below (kR Al.out) hb);replace Aq:=Az.mk (Kd.R_below (kR Aq.out) hb);replace BK787:=bkz BK787 hb;replace BK793:=bkz BK793 hb;replace HB:=Az.mk (bwT bw_44 hb);(try clear hb))|(go_at_call 28;(with_reducible refine(gC.calls Aa _ _ Ah _ _ Ce Br _ ?Af ?Ag ?Aj ?Ak Gj.out).mono ?_);(case Af=>exact kC (Kd.S_reads' Ab.out).2.2);(case Ag=>exact(Kd.S_reads' Ab.out).2.1);(case Aj=>exact kC (Kd.R_reads' Aq.out).2.2);(case Ak=>exact(Kd.R_reads' Aq.out).2.1);rintro e Gz ⟨rfl,hb⟩;replace Ab:=Az.mk (Kd.S_below (kS Ab.out) hb);replace Ac:=Az.mk (Kd.Q_below (kQ Ac.out) hb);replace Ai:=Az.mk (Kd.R_below (kR Ai.out) hb);replace Ad:=Az.mk (Kd.R_below (kR Ad.out) hb);replace Al:=Az.mk (Kd.R_below (kR Al.out) hb);replace Aq:=Az.mk (Kd.R_below (kR Aq.out) hb);replace BK787:=bkz BK787 hb;replace BK793:=bkz BK793 hb;replace HB:=Az.mk (bwT bw_44 hb);(try clear hb)))
  go_meet
  case rel=>exact⟨_,((Br != (wrap64 (Av+1)))),rq2,H',⟨by have:=Er.out;have:=Bv.out;have:=Bw.out;first|omega|exact Nat.le_refl _⟩,⟨by(with_reducible repeat(first|apply Kd.S_alloc|apply Kd.S_drewN|apply Kd.S_drew));exact Kd.S_mono Ab.out (fun _ hk=>⟨hk.1.1.1,hk.1.1.2.2⟩)⟩,⟨by(with_reducible repeat(first|apply Kd.Q_alloc|apply Kd.Q_drewN|apply Kd.Q_drew));exact Kd.Q_mono Ac.out (fun _ hk=>hk.1.1.2)⟩,⟨by(with_reducible repeat(first|apply Kd.R_alloc|apply Kd.R_drewN|apply Kd.R_drew));exact Kd.R_mono Ad.out (fun _ hk=>hk.1.1.1)⟩,⟨bk1 BK787⟩,⟨bk1 BK793⟩,⟨bw_44⟩⟩
 clear Bm
 try clear Bk
 try clear Bf
 try clear Bz
 try clear Ca
 try clear Bh
 try clear Cc
 try clear Cd
 try clear Bn
 try clear Bo
 obtain⟨kq,As,rfl,HA,Gq,Ab,Ac,Ad,BK787,BK793,HB⟩:=hcut
 cases kq with
 |zero=>exact absurd HA.out (by simp[laws_FnCurves.j3])
 |succ Ex=>
  have H:=HA.out
  clear HA
  simp only[laws_FnCurves.j3]at H
  by_cases Bt:As=true
  ·subst Bt
   rw[ip rfl]at H
   exact absurd H (by simp)
  replace Bt:=Bool.eq_false_iff.mpr Bt
  subst Bt
  rw[ig ff]at H
  replace H:=bez H
  obtain⟨⟨Gk,Gl⟩,Gm,H⟩:=H
  try dsimp only at H
  rename_i Kt at_ K0 a0
  have AT:=Az.mk at_
  clear at_
  go_wp2
  exact AT.out _ _ (laws_FnCurves.p37 A0 c0 l0 r w Ah Ae Au Cg Ch Ci Cj Ck Cl Cm Cn Co Cp Cq Cs Ct Cu Cv Cw Da Db Dc Dd De Df t782 t783 t784 Dg Dh t788 t789 t790 Di Dj Ap Dk Dl Dm Dn Do Aw Ax Am Ao Dp Dq Dr Ds Dt Du gb787 GE787 gb793 GE793 Bb Bc Dv Dw Dx Dy Dz Ea Eb Ec Ed Ee Ef Eg Eh Ei Ej Ek Ay Ba El Em Eo Av Cf nd Gg wc u46 u47 u48 u49 u50 u51 u52 u53 u54 u55 u56 u57 u58 u59 u60 u61 u62 u63 u64 u65 u66 u67 u68 u69 u70 u71 u72 u73 u74 u75 u76 u77 u78 u79 u80 u81 u82 u83 u84 u85 u86 u87 u88 u89 u90 u91 u92 u93 u94 u95 u96 u97 u98 u99 u100 u101 u102 u103 u104 u105 u106 u107 u108 u109 u110 u111 u112 u113 u114 u115 u116 u117 u118 u119 u120 u121 u122 u123 u124 u125 u126 u127 u128 u129 u130 u131 u132 u133 u134 u135 u136 u137 u138 u139 u140 u141 u142 u143 u144 u145 u146 u147 u148 u149 u150 u151 u152 u153 u154 u155 u156 u157 u158 u159 u160 u161 u162 u163 u164 u165 u166 u167 u168 u169 u170 u171 u172 u173 u174 u175 u176 u177 u178 u179 u180 u181 u182 u183 u184 u185 u186 u187 u188 u189 u190 u191 u192 u193 u194 u195 u196 u197 u198 u199 u200 u201 u202 u203 u204 u205 u206 u207 u208 u209 u210 u211 u212 u213 u214 u215 u216 u217 u218 u219 u220 u221 u222 u223 u224 u225 u226 u227 u228 u229 u230 u231 u232 u233 u234 u235 u236 u237 u238 u239 u240 u241 u242 u243 u244 u245 u246 u247 u248 u249 u250 u251 u252 u253 u254 u255 u256 u257 u258 u259 u260 u261 u262 u263 u264 u265 u266 u267 u268 u269 u270 u271 u272 u273 u274 u275 u276 u277 u278 u279 u280 u281 u282 u283 u284 u285 u286 u287 u288 u289 u290 u291 u292 u293 u294 u295 u296 u297 u298 u299 u300 u301 u302 u303 u304 u305 u306 u307 u308 u309 u310 u311 u312 u313 u314 u315 u316 u317 u318 u319 u320 u321 u322 u323 u324 u325 u326 u327 u328 u329 u330 u331 u332 u333 u334 u335 u336 u338 u339 u340 u341 u342 u343 u344 u345 u346 u347 u348 u349 u350 u351 u352 u353 u354 u355 u356 u357 u358 u359 u360 u361 u362 u363 u364 u365 u366 u367 u368 Ab Ac Ad BK787 BK793 HB Ex Gk Gl H Gm)
theorem bw_45 {n:Nat}{v v':World} (h:Below n v v':=by repeat(first|(with_reducible first|exact HB.out|apply bwA|apply pbN|apply bwD|refine bwS ?_ GE787.out|refine bwS ?_ GE793.out)|exact HB.out)):Below n v v':=h
attribute [local go_sem high] eqA42
theorem laws_FnCurves.p27 (k:Nat) (A0:Option Addr) (c0:Nat) (l0:List Int) (r:Bool) (w:World) (Aq:List (List Int)) (Aa Ab:List Int) (Bu:ByteArray) (Bv:List (List Int)) (Bw:Bool) (Bx:List (List Int)) (By:Bool) (Bz:List (List Int)) (Ca:List Int) (Cc Cd:Int) (As:List (List Int)) (Ce Cf:Int) (Af:List Int) (Bm:Bool) (Cg:List Int) (Ch:Bool) (Ci Cj Ck:List Int) (Cl:Bool) (Cm:List Int) (Cn:Bool) (t782 t783 t784 Co:Int) (Cp:Bool) (t788 t789 t790 Cq:Int) (Cs:Bool) (Ac:List Int) (Ct:Bool) (Cu:List Int) (Cv:Bool) (Cw:ByteArray) (Da:Bool) (Ba:Option Addr) (Bb:Nat) (Aj:Option Addr) (Ak:Nat) (Bn:Option Addr) (Bo:Nat) (Db:Option Addr) (Dc:Nat) (Dd:Option Addr) (De gb787:Nat) (GE787:Az (w.heap.size≤gb787)) (gb793:Nat) (GE793:Az (w.heap.size≤gb793)) (Al:Option Addr) (Am:Nat) (Df:Option Addr) (Dg:Nat) (Dh:Option Addr) (Di:Nat) (Dj:Option Addr) (Dk:Nat) (Dl:Option Addr) (Dm:Nat) (Au:Option Addr) (Av:Nat) (Dn:Option Addr) (Do:Nat) (Dp:Option Addr) (Dq:Nat) (Dr:Option Addr) (Ds:Nat) (Ao:Option Addr) (Ap:Nat) (Dt:Option Addr) (Du nd:Nat) (Dv:Value) (Br:Nat) (Bs:Az (Br+1≤k)) (wc:World) (u46 u47 u48 u49 u50 u51 u52 u53 u54 u55 u56 u57 u58 u59 u60 u61 u62 u63 u64 u65 u66 u67 u68 u69 u70 u71 u72 u73 u74 u75 u76 u77 u78 u79 u80 u81 u82 u83 u84 u85 u86 u87 u88 u89 u90 u91 u92 u93 u94 u95 u96 u97 u98 u99 u100 u101 u102 u103 u104 u105 u106 u107 u108 u109 u110 u111 u112 u113 u114 u115 u116 u117 u118 u119 u120 u121 u122 u123 u124 u125 u126 u127 u128 u129 u130 u131 u132 u133 u134 u135 u136 u137 u138 u139 u140 u141 u142 u143 u144 u145 u146 u147 u148 u149 u150 u151 u152 u153 u154 u155 u156 u157 u158 u159 u160 u161 u162 u163 u164 u165 u166 u167 u168 u169 u170 u171 u172 u173 u174 u175 u176 u177 u178 u179 u180 u181 u182 u183 u184 u185 u186 u187 u188 u189 u190 u191 u192 u193 u194 u195 u196 u197 u198 u199 u200 u201 u202 u203 u204 u205 u206 u207 u208 u209 u210 u211 u212 u213 u214 u215 u216 u217 u218 u219 u220 u221 u222 u223 u224 u225 u226 u227 u228 u229 u230 u231 u232 u233 u234 u235 u236 u237 u238 u239 u240 u241 u242 u243 u244 u245 u246 u247 u248 u249 u250 u251 u252 u253 u254 u255 u256 u257 u258 u259 u260 u261 u262 u263 u264 u265 u266 u267 u268 u269 u270 u271 u272 u273 u274 u276 u277 u278 u279 u280 u281 u282 u283 u284 u285 u286 u287 u288 u289 u290 u291 u292 u293 u294 u295 u296 u297 u298 u299 u300 u301 u302 u303 u304 u305 u306 u307 u308 u309 u310 u311 u312 u313 u314 u315 u316 u317 u318 u319 u320 u321 u322 u323 u324 u325 u326 u327 u328 u329 u330 u331 u332 u333 u334 u335 u336 u337 u338 u339 u340 u341 u342 u343 u344 u345 u346 u347 u348 u349 u350 u351 u352 u353 u354 u355 u356 u357 u358 u359 u360 u361 u362 u363 u364 u365 u366 u367 u368:Value) (Aw:Az (Kd.S (Kd.slice 3 (Kd.int IntKind.i64)) 25 wc (w.heap.size) (fun (k_:Nat)=>some k_≠Value.ownBlock (Value.slice Aj (List.length Aa) Ak)∧some k_≠Value.ownBlock (Value.slice Al (List.length Ab) Am)∧some k_≠Value.ownBlock (Value.slice Bn (List.length As) Bo)∧some k_≠Value.ownBlock (Value.slice Au (List.length Af) Av)∧some k_≠Value.ownBlock (Value.slice Ao (List.length Ac) Ap)) (Value.slice Ba (List.length Aq) Bb) Aq)) (Ax:Az (Kd.Q (Kd.int IntKind.i64) 3 wc (w.heap.size) (fun (k_:Nat)=>some k_≠Value.ownBlock (Value.slice Al (List.length Ab) Am)∧some k_≠Value.ownBlock (Value.slice Au (List.length Af) Av)∧some k_≠Value.ownBlock (Value.slice Ao (List.length Ac) Ap)) (Value.slice Aj (List.length Aa) Ak) Aa)) (Ay:Az (Kd.R (Kd.int IntKind.i64) 3 wc (w.heap.size) (fun (k_:Nat)=>some k_≠Value.ownBlock (Value.slice Aj (List.length Aa) Ak)∧some k_≠Value.ownBlock (Value.slice Au (List.length Af) Av)∧some k_≠Value.ownBlock (Value.slice Ao (List.length Ac) Ap)) (Value.slice Al (List.length Ab) Am) Ab)) (Ag:Az (Kd.S (Kd.slice 3 (Kd.int IntKind.i64)) 25 wc (w.heap.size) (fun (k_:Nat)=>some k_≠Value.ownBlock (Value.slice Ba (List.length Aq) Bb)∧some k_≠Value.ownBlock (Value.slice Aj (List.length Aa) Ak)∧some k_≠Value.ownBlock (Value.slice Al (List.length Ab) Am)∧some k_≠Value.ownBlock (Value.slice Au (List.length Af) Av)∧some k_≠Value.ownBlock (Value.slice Ao (List.length Ac) Ap)) (Value.slice Bn (List.length As) Bo) As)) (Ah:Az (Kd.R (Kd.int IntKind.i64) 3 wc (w.heap.size) (fun (k_:Nat)=>some k_≠Value.ownBlock (Value.slice Aj (List.length Aa) Ak)∧some k_≠Value.ownBlock (Value.slice Al (List.length Ab) Am)∧some k_≠Value.ownBlock (Value.slice Ao (List.length Ac) Ap)) (Value.slice Au (List.length Af) Av) Af)) (Ai:Az (Kd.R (Kd.int IntKind.i64) 3 wc (w.heap.size) (fun (k_:Nat)=>some k_≠Value.ownBlock (Value.slice Aj (List.length Aa) Ak)∧some k_≠Value.ownBlock (Value.slice Al (List.length Ab) Am)∧some k_≠Value.ownBlock (Value.slice Au (List.length Af) Av)) (Value.slice Ao (List.length Ac) Ap) Ac)) (BK787:Az ((World.heap wc)[gb787]?= some (Obj.cells #[Value.int IntKind.i64 t782,Value.int IntKind.i64 t783,Value.int IntKind.i64 t784] 42))) (BK793:Az ((World.heap wc)[gb793]?= some (Obj.cells #[Value.int IntKind.i64 t788,Value.int IntKind.i64 t789,Value.int IntKind.i64 t790] 42))) (HB:Az (Below (w.heap.size) w wc)) (Ad:Nat) (Bc:Az (Ad+1≤Br)) (Bd:Az ((if Bm=true then Option.bind (fH.f Ad As Af) fun (Bt:Bool)=>if Bt=true then Option.bind (gC.f Ad As Af) fun (Bp:Int)=>laws_FnCurves.j2 Ad Aq Aa Ab Ac (Bp != 1)else none else laws_FnCurves.j2 Ad Aq Aa Ab Ac false)=some r)):
  Code.wp Try.prog (tailOf (Try.f3.body.getD .skip) 23) (bodyPost Try.prog Try.f3 (fun e w'=>e= .returned (.bool r)∧Below w.heap.size w w')) ⟨#[Value.slice A0 (List.length l0) c0,undef,Value.bool false,Value.slice Ba (List.length Aq) Bb,Value.slice Aj (List.length Aa) Ak,Value.slice Al (List.length Ab) Am,Value.string Bu,Value.slice Df (List.length Bv) Dg,Value.bool Bw,Value.slice Dh (List.length Bx) Di,Value.bool By,Value.slice Dj (List.length Bz) Dk,Value.slice Dl (List.length Ca) Dm,Value.int IntKind.i64 Cc,Value.int IntKind.i64 Cd,Value.slice Bn (List.length As) Bo,Value.int IntKind.i64 Ce,Value.int IntKind.i64 Cf,Value.slice Au (List.length Af) Av,Value.bool Bm,Value.slice Dn (List.length Cg) Do,Value.bool Ch,Value.slice Db (List.length Ci) Dc,Value.slice Dd (List.length Cj) De,Value.slice Dp (List.length Ck) Dq,Value.bool Cl,Value.slice Dr (List.length Cm) Ds,Value.bool Cn,Value.pointer (some ⟨gb787,0,none⟩),Value.int IntKind.i64 Co,Value.bool Cp,Value.pointer (some ⟨gb793,0,none⟩),Value.int IntKind.i64 Cq,Value.bool Cs,Value.slice Ao (List.length Ac) Ap,Value.bool Ct,Value.slice Dt (List.length Cu) Du,Value.bool Cv,Value.string Cw,Dv,Value.bool Da,undef,undef,undef,undef,undef,u46,u47,u48,u49,u50,u51,u52,u53,u54,u55,u56,u57,u58,u59,u60,u61,u62,u63,u64,u65,u66,u67,u68,u69,u70,u71,u72,u73,u74,u75,u76,u77,u78,u79,u80,u81,u82,u83,u84,u85,u86,u87,u88,u89,u90,u91,u92,u93,u94,u95,u96,u97,u98,u99,u100,u101,u102,u103,u104,u105,u106,u107,u108,u109,u110,u111,u112,u113,u114,u115,u116,u117,u118,u119,u120,u121,u122,u123,u124,u125,u126,u127,u128,u129,u130,u131,u132,u133,u134,u135,u136,u137,u138,u139,u140,u141,u142,u143,u144,u145,u146,u147,u148,u149,u150,u151,u152,u153,u154,u155,u156,u157,u158,u159,u160,u161,u162,u163,u164,u165,u166,u167,u168,u169,u170,u171,u172,u173,u174,u175,u176,u177,u178,u179,u180,u181,u182,u183,u184,u185,u186,u187,u188,u189,u190,u191,u192,u193,u194,u195,u196,u197,u198,u199,u200,u201,u202,u203,u204,u205,u206,u207,u208,u209,u210,u211,u212,u213,u214,u215,u216,u217,u218,u219,u220,u221,u222,u223,u224,u225,u226,u227,u228,u229,u230,u231,u232,u233,u234,u235,u236,u237,u238,u239,u240,u241,u242,u243,u244,u245,u246,u247,u248,u249,u250,u251,u252,u253,u254,u255,u256,u257,u258,u259,u260,u261,u262,u263,u264,u265,u266,u267,u268,u269,u270,u271,u272,u273,u274,Value.bool false,u276,u277,u278,u279,u280,u281,u282,u283,u284,u285,u286,u287,u288,u289,u290,u291,u292,u293,u294,u295,u296,u297,u298,u299,u300,u301,u302,u303,u304,u305,u306,u307,u308,u309,u310,u311,u312,u313,u314,u315,u316,u317,u318,u319,u320,u321,u322,u323,u324,u325,u326,u327,u328,u329,u330,u331,u332,u333,u334,u335,u336,u337,u338,u339,u340,u341,u342,u343,u344,u345,u346,u347,u348,u349,u350,u351,u352,u353,u354,u355,u356,u357,u358,u359,u360,u361,u362,u363,u364,u365,u366,u367,u368],[]⟩ wc:=by
 (try dsimp only)
 conv=>arg 2;whnf
 go_upto_region 27 with (fail)
 go_cut [288] (fun Dy wc=>∃(kq:Nat) (Ae:Bool),Dy= .bool Ae∧Az (laws_FnCurves.j2 kq Aq Aa Ab Ac Ae=some r)∧Az (kq≤Ad)∧Az (Kd.S (Kd.slice 3 (Kd.int .i64)) 25 wc w.heap.size (fun k_=>some k_≠((.slice Aj Aa.length Ak):Value).ownBlock∧some k_≠((.slice Al Ab.length Am):Value).ownBlock∧some k_≠((.slice Ao Ac.length Ap):Value).ownBlock) (.slice Ba Aq.length Bb) Aq)∧Az (Kd.Q (Kd.int .i64) 3 wc w.heap.size (fun k_=>some k_≠((.slice Al Ab.length Am):Value).ownBlock∧some k_≠((.slice Ao Ac.length Ap):Value).ownBlock) (.slice Aj Aa.length Ak) Aa)∧Az (Kd.R (Kd.int .i64) 3 wc w.heap.size (fun k_=>some k_≠((.slice Aj Aa.length Ak):Value).ownBlock∧some k_≠((.slice Ao Ac.length Ap):Value).ownBlock) (.slice Al Ab.length Am) Ab)∧Az (Kd.R (Kd.int .i64) 3 wc w.heap.size (fun k_=>some k_≠((.slice Aj Aa.length Ak):Value).ownBlock∧some k_≠((.slice Al Ab.length Am):Value).ownBlock) (.slice Ao Ac.length Ap) Ac)∧Az (wc.heap[gb787]?= some (.cells #[.int .i64 t782, .int .i64 t783, .int .i64 t784] 42 (0,0)))∧Az (wc.heap[gb793]?= some (.cells #[.int .i64 t788, .int .i64 t789, .int .i64 t790] 42 (0,0)))∧Az (Below w.heap.size w wc))
 case first=>
  have H:=Bd.out
  clear Bd
  by_cases Bf:Bm=true
  rotate_left
  ·replace Bf:=Bool.eq_false_iff.mpr Bf
   subst Bf
   rw[ig ff]at H
   have H':=Az.mk H
   clear H
   go_wp2
   go_meet
   case rel=>exact⟨_,(false),rq2,H',⟨by have:=Bs.out;have:=Bc.out;first|omega|exact Nat.le_refl _⟩,⟨by(with_reducible repeat(first|apply Kd.S_alloc|apply Kd.S_drewN|apply Kd.S_drew));exact Kd.S_mono Aw.out (fun _ hk=>⟨hk.1,⟨hk.2.1,hk.2.2.2.2⟩⟩)⟩,⟨by(with_reducible repeat(first|apply Kd.Q_alloc|apply Kd.Q_drewN|apply Kd.Q_drew));exact Kd.Q_mono Ax.out (fun _ hk=>⟨hk.1,hk.2.2⟩)⟩,⟨by(with_reducible repeat(first|apply Kd.R_alloc|apply Kd.R_drewN|apply Kd.R_drew));exact Kd.R_mono Ay.out (fun _ hk=>⟨hk.1,hk.2.2⟩)⟩,⟨by(with_reducible repeat(first|apply Kd.R_alloc|apply Kd.R_drewN|apply Kd.R_drew));exact Kd.R_mono Ai.out (fun _ hk=>⟨hk.1,hk.2.1⟩)⟩,⟨bk1 BK787⟩,⟨bk1 BK793⟩,⟨bw_45⟩⟩
  subst Bf
  rw[ip rfl]at H
  replace H:=bez H
  obtain⟨Bt,Dz,H⟩:=H
  try dsimp only at H
  by_cases Bh:Bt=true
  rotate_left
  ·replace Bh:=Bool.eq_false_iff.mpr Bh
   subst Bh
   rw[ig ff]at H
   exact absurd H (by simp)
  subst Bh
  rw[ip rfl]at H
  replace H:=bez H
  obtain⟨Bp,Ea,H⟩:=H
  try dsimp only at H
  have H':=Az.mk H
  clear H
  go_wp2_with (first|(go_at_call 26;(with_reducible refine(fH.calls Ad _ _ As _ _ Af true _ ?Bi ?Bj ?Bk ?Bl Dz.out).mono ?_);(case Bi=>exact kC (Kd.S_reads' Ag.out).2.2);(case Bj=>exact(Kd.S_reads' Ag.out).2.1);(case Bk=>exact kC (Kd.R_reads' Ah.out).2.2);(case Bl=>exact(Kd.R_reads' Ah.out).2.1);rintro e Ed ⟨rfl,hb⟩;replace Aw:=Az.mk (Kd.S_below (kS Aw.out) hb);replace Ax:=Az.mk (Kd.Q_below (kQ Ax.out) hb);replace Ay:=Az.mk (Kd.R_below (kR Ay.out) hb);replace Ag:=Az.mk (Kd.S_below (kS Ag.out) hb);replace Ah:=Az.mk (Kd.R_below (kR Ah.out) hb);replace Ai:=Az.mk (Kd.R_below (kR Ai.out) hb);replace BK787:=bkz BK787 hb;replace BK793:=bkz BK793 hb;replace HB:=Az.mk (bwT bw_45 hb);(try clear hb))|(go_at_call 28;(with_reducible refine(gC.calls Ad _ _ As _ _ Af Bp _ ?Bi ?Bj ?Bk ?Bl Ea.out).mono ?_);(case Bi=>exact kC (Kd.S_reads' Ag.out).2.2);(case Bj=>exact(Kd.S_reads' Ag.out).2.1);(case Bk=>exact kC (Kd.R_reads' Ah.out).2.2);(case Bl=>exact(Kd.R_reads' Ah.out).2.1);rintro e Ee ⟨rfl,hb⟩;replace Aw:=Az.mk (Kd.S_below (kS Aw.out) hb);replace Ax:=Az.mk (Kd.Q_below (kQ Ax.out) hb);replace Ay:=Az.mk (Kd.R_below (kR Ay.out) hb);replace Ag:=Az.mk (Kd.S_below (kS Ag.out) hb);replace Ah:=Az.mk (Kd.R_below (kR Ah.out) hb);replace Ai:=Az.mk (Kd.R_below (kR Ai.out) hb);replace BK787:=bkz BK787 hb;replace BK793:=bkz BK793 hb;replace HB:=Az.mk (bwT bw_45 hb);(try clear hb)))
  go_meet
  case rel=>exact⟨_,((Bp != 1)),rq2,H',⟨by have:=Bs.out;have:=Bc.out;first|omega|exact Nat.le_refl _⟩,⟨by(with_reducible repeat(first|apply Kd.S_alloc|apply Kd.S_drewN|apply Kd.S_drew));exact Kd.S_mono Aw.out (fun _ hk=>⟨hk.1,⟨hk.2.1,hk.2.2.2.2⟩⟩)⟩,⟨by(with_reducible repeat(first|apply Kd.Q_alloc|apply Kd.Q_drewN|apply Kd.Q_drew));exact Kd.Q_mono Ax.out (fun _ hk=>⟨hk.1,hk.2.2⟩)⟩,⟨by(with_reducible repeat(first|apply Kd.R_alloc|apply Kd.R_drewN|apply Kd.R_drew));exact Kd.R_mono Ay.out (fun _ hk=>⟨hk.1,hk.2.2⟩)⟩,⟨by(with_reducible repeat(first|apply Kd.R_alloc|apply Kd.R_drewN|apply Kd.R_drew));exact Kd.R_mono Ai.out (fun _ hk=>⟨hk.1,hk.2.1⟩)⟩,⟨bk1 BK787⟩,⟨bk1 BK793⟩,⟨bw_45⟩⟩
 clear Bd
 try clear Bf
 try clear Bh
 obtain⟨kq,Ae,rfl,HA,Dw,Aw,Ax,Ay,Ai,BK787,BK793,HB⟩:=hcut
 cases kq with
 |zero=>exact absurd HA.out (by simp[laws_FnCurves.j2])
 |succ Dx=>
  have H:=HA.out
  clear HA
  simp only[laws_FnCurves.j2]at H
  by_cases Bq:Ae=true
  ·subst Bq
   rw[ip rfl]at H
   exact absurd H (by simp)
  replace Bq:=Bool.eq_false_iff.mpr Bq
  subst Bq
  rw[ig ff]at H
  replace H:=bez H
  obtain⟨Eb,Ec,H⟩:=H
  try dsimp only at H
  rename_i Kt at_ K0 a0
  have AT:=Az.mk at_
  clear at_
  go_wp2
  exact AT.out _ _ (laws_FnCurves.p29 k A0 c0 l0 r w Aq Aa Ab Bu Bv Bw Bx By Bz Ca Cc Cd As Ce Cf Af Bm Cg Ch Ci Cj Ck Cl Cm Cn t782 t783 t784 Co Cp t788 t789 t790 Cq Cs Ac Ct Cu Cv Cw Da Ba Bb Aj Ak Bn Bo Db Dc Dd De gb787 GE787 gb793 GE793 Al Am Df Dg Dh Di Dj Dk Dl Dm Au Av Dn Do Dp Dq Dr Ds Ao Ap Dt Du nd Dv Br Bs Ad Bc wc u46 u47 u48 u49 u50 u51 u52 u53 u54 u55 u56 u57 u58 u59 u60 u61 u62 u63 u64 u65 u66 u67 u68 u69 u70 u71 u72 u73 u74 u75 u76 u77 u78 u79 u80 u81 u82 u83 u84 u85 u86 u87 u88 u89 u90 u91 u92 u93 u94 u95 u96 u97 u98 u99 u100 u101 u102 u103 u104 u105 u106 u107 u108 u109 u110 u111 u112 u113 u114 u115 u116 u117 u118 u119 u120 u121 u122 u123 u124 u125 u126 u127 u128 u129 u130 u131 u132 u133 u134 u135 u136 u137 u138 u139 u140 u141 u142 u143 u144 u145 u146 u147 u148 u149 u150 u151 u152 u153 u154 u155 u156 u157 u158 u159 u160 u161 u162 u163 u164 u165 u166 u167 u168 u169 u170 u171 u172 u173 u174 u175 u176 u177 u178 u179 u180 u181 u182 u183 u184 u185 u186 u187 u188 u189 u190 u191 u192 u193 u194 u195 u196 u197 u198 u199 u200 u201 u202 u203 u204 u205 u206 u207 u208 u209 u210 u211 u212 u213 u214 u215 u216 u217 u218 u219 u220 u221 u222 u223 u224 u225 u226 u227 u228 u229 u230 u231 u232 u233 u234 u235 u236 u237 u238 u239 u240 u241 u242 u243 u244 u245 u246 u247 u248 u249 u250 u251 u252 u253 u254 u255 u256 u257 u258 u259 u260 u261 u262 u263 u264 u265 u266 u267 u268 u269 u270 u271 u272 u273 u274 u275 u276 u277 u278 u279 u280 u281 u282 u283 u284 u285 u286 u287 u289 u290 u291 u292 u293 u294 u295 u296 u297 u298 u299 u300 u301 u302 u303 u304 u305 u306 u307 u308 u309 u310 u311 u312 u313 u314 u315 u316 u317 u318 u319 u320 u321 u322 u323 u324 u325 u326 u327 u328 u329 u330 u331 u332 u333 u334 u335 u336 u337 u338 u339 u340 u341 u342 u343 u344 u345 u346 u347 u348 u349 u350 u351 u352 u353 u354 u355 u356 u357 u358 u359 u360 u361 u362 u363 u364 u365 u366 u367 u368 Aw Ax Ay Ai BK787 BK793 HB Dx Dw Eb H Ec)
theorem bw_46 {n:Nat}{v v':World} (h:Below n v v':=by repeat(first|(with_reducible first|exact HB.out|apply bwA|apply pbN|apply bwD|refine bwS ?_ GE787.out|refine bwS ?_ GE793.out)|exact HB.out)):Below n v v':=h
attribute [local go_sem high] eqA42
theorem laws_FnCurves.p25 (k:Nat) (A0:Option Addr) (c0:Nat) (l0:List Int) (r:Bool) (w:World) (Ao:List (List Int)) (Aa Ab:List Int) (Bu:ByteArray) (Bv:List (List Int)) (Bw:Bool) (Bx:List (List Int)) (By:Bool) (Bz:List (List Int)) (Ca:List Int) (Cc Cd:Int) (Ap:List (List Int)) (Ce Cf:Int) (Ac:List Int) (Bd:Bool) (Cg:List Int) (Ch:Bool) (Ci Cj Ck:List Int) (Cl:Bool) (Cm:List Int) (Cn:Bool) (t782 t783 t784 Bp:Int) (Bq:Bool) (t788 t789 t790 Co:Int) (Cp:Bool) (Ad:List Int) (Cq:Bool) (Cs:List Int) (Ct:Bool) (Cu:ByteArray) (Cv:Bool) (Av:Option Addr) (Aw:Nat) (Ae:Option Addr) (Af:Nat) (Ax:Option Addr) (Ay:Nat) (Cw:Option Addr) (Da:Nat) (Db:Option Addr) (Dc gb787:Nat) (GE787:Az (w.heap.size≤gb787)) (gb793:Nat) (GE793:Az (w.heap.size≤gb793)) (NB787_793:Az (gb787≠gb793)) (NB793_787:Az (gb793≠gb787)) (Ag:Option Addr) (Ah:Nat) (Dd:Option Addr) (De:Nat) (Df:Option Addr) (Dg:Nat) (Dh:Option Addr) (Di:Nat) (Dj:Option Addr) (Dk:Nat) (Ai:Option Addr) (Aj:Nat) (Dl:Option Addr) (Dm:Nat) (Dn:Option Addr) (Do:Nat) (Dp:Option Addr) (Dq:Nat) (Ak:Option Addr) (Al:Nat) (Dr:Option Addr) (Ds nd:Nat) (Dt:Value) (wc:World) (u46 u47 u48 u49 u50 u51 u52 u53 u54 u55 u56 u57 u58 u59 u60 u61 u62 u63 u64 u65 u66 u67 u68 u69 u70 u71 u72 u73 u74 u75 u76 u77 u78 u79 u80 u81 u82 u83 u84 u85 u86 u87 u88 u89 u90 u91 u92 u93 u94 u95 u96 u97 u98 u99 u100 u101 u102 u103 u104 u105 u106 u107 u108 u109 u110 u111 u112 u113 u114 u115 u116 u117 u118 u119 u120 u121 u122 u123 u124 u125 u126 u127 u128 u129 u130 u131 u132 u133 u134 u135 u136 u137 u138 u139 u140 u141 u142 u143 u144 u145 u146 u147 u148 u149 u150 u151 u152 u153 u154 u155 u156 u157 u158 u159 u160 u161 u162 u163 u164 u165 u166 u167 u168 u169 u170 u171 u172 u173 u174 u175 u176 u177 u178 u179 u180 u181 u182 u183 u184 u185 u186 u187 u188 u189 u190 u191 u192 u193 u194 u195 u196 u197 u198 u199 u200 u201 u202 u203 u204 u205 u206 u207 u208 u209 u210 u211 u212 u213 u214 u215 u216 u217 u218 u219 u220 u221 u222 u223 u224 u225 u226 u227 u228 u229 u230 u231 u232 u233 u234 u235 u236 u237 u238 u239 u240 u241 u242 u243 u244 u245 u246 u247 u248 u249 u250 u251 u252 u253 u254 u255 u256 u257 u258 u259 u260 u261 u262 u263 u265 u266 u267 u268 u269 u270 u271 u272 u273 u274 u275 u276 u277 u278 u279 u280 u281 u282 u283 u284 u285 u286 u287 u288 u289 u290 u291 u292 u293 u294 u295 u296 u297 u298 u299 u300 u301 u302 u303 u304 u305 u306 u307 u308 u309 u310 u311 u312 u313 u314 u315 u316 u317 u318 u319 u320 u321 u322 u323 u324 u325 u326 u327 u328 u329 u330 u331 u332 u333 u334 u335 u336 u337 u338 u339 u340 u341 u342 u343 u344 u345 u346 u347 u348 u349 u350 u351 u352 u353 u354 u355 u356 u357 u358 u359 u360 u361 u362 u363 u364 u365 u366 u367 u368:Value) (Ba:Az (Kd.S (Kd.slice 3 (Kd.int IntKind.i64)) 25 wc (w.heap.size) (fun (k_:Nat)=>some k_≠Value.ownBlock (Value.slice Ae (List.length Aa) Af)∧some k_≠Value.ownBlock (Value.slice Ag (List.length Ab) Ah)∧some k_≠Value.ownBlock (Value.slice Ax (List.length Ap) Ay)∧some k_≠Value.ownBlock (Value.slice Ai (List.length Ac) Aj)∧some k_≠Value.ownBlock (Value.slice Ak (List.length Ad) Al)) (Value.slice Av (List.length Ao) Aw) Ao)) (Bb:Az (Kd.Q (Kd.int IntKind.i64) 3 wc (w.heap.size) (fun (k_:Nat)=>some k_≠Value.ownBlock (Value.slice Ag (List.length Ab) Ah)∧some k_≠Value.ownBlock (Value.slice Ai (List.length Ac) Aj)∧some k_≠Value.ownBlock (Value.slice Ak (List.length Ad) Al)) (Value.slice Ae (List.length Aa) Af) Aa)) (Bc:Az (Kd.R (Kd.int IntKind.i64) 3 wc (w.heap.size) (fun (k_:Nat)=>some k_≠Value.ownBlock (Value.slice Ae (List.length Aa) Af)∧some k_≠Value.ownBlock (Value.slice Ai (List.length Ac) Aj)∧some k_≠Value.ownBlock (Value.slice Ak (List.length Ad) Al)) (Value.slice Ag (List.length Ab) Ah) Ab)) (Aq:Az (Kd.S (Kd.slice 3 (Kd.int IntKind.i64)) 25 wc (w.heap.size) (fun (k_:Nat)=>some k_≠Value.ownBlock (Value.slice Av (List.length Ao) Aw)∧some k_≠Value.ownBlock (Value.slice Ae (List.length Aa) Af)∧some k_≠Value.ownBlock (Value.slice Ag (List.length Ab) Ah)∧some k_≠Value.ownBlock (Value.slice Ai (List.length Ac) Aj)∧some k_≠Value.ownBlock (Value.slice Ak (List.length Ad) Al)) (Value.slice Ax (List.length Ap) Ay) Ap)) (As:Az (Kd.R (Kd.int IntKind.i64) 3 wc (w.heap.size) (fun (k_:Nat)=>some k_≠Value.ownBlock (Value.slice Ae (List.length Aa) Af)∧some k_≠Value.ownBlock (Value.slice Ag (List.length Ab) Ah)∧some k_≠Value.ownBlock (Value.slice Ak (List.length Ad) Al)) (Value.slice Ai (List.length Ac) Aj) Ac)) (Au:Az (Kd.R (Kd.int IntKind.i64) 3 wc (w.heap.size) (fun (k_:Nat)=>some k_≠Value.ownBlock (Value.slice Ae (List.length Aa) Af)∧some k_≠Value.ownBlock (Value.slice Ag (List.length Ab) Ah)∧some k_≠Value.ownBlock (Value.slice Ai (List.length Ac) Aj)) (Value.slice Ak (List.length Ad) Al) Ad)) (BK787:Az ((World.heap wc)[gb787]?= some (Obj.cells #[Value.int IntKind.i64 t782,Value.int IntKind.i64 t783,Value.int IntKind.i64 t784] 42))) (BK793:Az ((World.heap wc)[gb793]?= some (Obj.cells #[Value.int IntKind.i64 t788,Value.int IntKind.i64 t789,Value.int IntKind.i64 t790] 42))) (HB:Az (Below (w.heap.size) w wc)) (Bf:Nat) (Bt:Az (Bf+1≤k)) (Bh:Az ((if Bq=true then Option.bind (jN.f t782 t783 t784) fun (Br:Int)=>laws_FnCurves.j1 Bf Ao Aa Ab Ap Ac Bd Ad (Br != wrap64 (Bp - wrap64 ((↑(List.length Ao):Int) / 2)))else laws_FnCurves.j1 Bf Ao Aa Ab Ap Ac Bd Ad false)=some r)):
  Code.wp Try.prog (tailOf (Try.f3.body.getD .skip) 22) (bodyPost Try.prog Try.f3 (fun e w'=>e= .returned (.bool r)∧Below w.heap.size w w')) ⟨#[Value.slice A0 (List.length l0) c0,undef,Value.bool false,Value.slice Av (List.length Ao) Aw,Value.slice Ae (List.length Aa) Af,Value.slice Ag (List.length Ab) Ah,Value.string Bu,Value.slice Dd (List.length Bv) De,Value.bool Bw,Value.slice Df (List.length Bx) Dg,Value.bool By,Value.slice Dh (List.length Bz) Di,Value.slice Dj (List.length Ca) Dk,Value.int IntKind.i64 Cc,Value.int IntKind.i64 Cd,Value.slice Ax (List.length Ap) Ay,Value.int IntKind.i64 Ce,Value.int IntKind.i64 Cf,Value.slice Ai (List.length Ac) Aj,Value.bool Bd,Value.slice Dl (List.length Cg) Dm,Value.bool Ch,Value.slice Cw (List.length Ci) Da,Value.slice Db (List.length Cj) Dc,Value.slice Dn (List.length Ck) Do,Value.bool Cl,Value.slice Dp (List.length Cm) Dq,Value.bool Cn,Value.pointer (some ⟨gb787,0,none⟩),Value.int IntKind.i64 Bp,Value.bool Bq,Value.pointer (some ⟨gb793,0,none⟩),Value.int IntKind.i64 Co,Value.bool Cp,Value.slice Ak (List.length Ad) Al,Value.bool Cq,Value.slice Dr (List.length Cs) Ds,Value.bool Ct,Value.string Cu,Dt,Value.bool Cv,undef,undef,undef,undef,undef,u46,u47,u48,u49,u50,u51,u52,u53,u54,u55,u56,u57,u58,u59,u60,u61,u62,u63,u64,u65,u66,u67,u68,u69,u70,u71,u72,u73,u74,u75,u76,u77,u78,u79,u80,u81,u82,u83,u84,u85,u86,u87,u88,u89,u90,u91,u92,u93,u94,u95,u96,u97,u98,u99,u100,u101,u102,u103,u104,u105,u106,u107,u108,u109,u110,u111,u112,u113,u114,u115,u116,u117,u118,u119,u120,u121,u122,u123,u124,u125,u126,u127,u128,u129,u130,u131,u132,u133,u134,u135,u136,u137,u138,u139,u140,u141,u142,u143,u144,u145,u146,u147,u148,u149,u150,u151,u152,u153,u154,u155,u156,u157,u158,u159,u160,u161,u162,u163,u164,u165,u166,u167,u168,u169,u170,u171,u172,u173,u174,u175,u176,u177,u178,u179,u180,u181,u182,u183,u184,u185,u186,u187,u188,u189,u190,u191,u192,u193,u194,u195,u196,u197,u198,u199,u200,u201,u202,u203,u204,u205,u206,u207,u208,u209,u210,u211,u212,u213,u214,u215,u216,u217,u218,u219,u220,u221,u222,u223,u224,u225,u226,u227,u228,u229,u230,u231,u232,u233,u234,u235,u236,u237,u238,u239,u240,u241,u242,u243,u244,u245,u246,u247,u248,u249,u250,u251,u252,u253,u254,u255,u256,u257,u258,u259,u260,u261,u262,u263,Value.bool false,u265,u266,u267,u268,u269,u270,u271,u272,u273,u274,u275,u276,u277,u278,u279,u280,u281,u282,u283,u284,u285,u286,u287,u288,u289,u290,u291,u292,u293,u294,u295,u296,u297,u298,u299,u300,u301,u302,u303,u304,u305,u306,u307,u308,u309,u310,u311,u312,u313,u314,u315,u316,u317,u318,u319,u320,u321,u322,u323,u324,u325,u326,u327,u328,u329,u330,u331,u332,u333,u334,u335,u336,u337,u338,u339,u340,u341,u342,u343,u344,u345,u346,u347,u348,u349,u350,u351,u352,u353,u354,u355,u356,u357,u358,u359,u360,u361,u362,u363,u364,u365,u366,u367,u368],[]⟩ wc:=by
 (try dsimp only)
 conv=>arg 2;whnf
 go_upto_region 25 with (fail)
 go_cut [275] (fun Dx wc=>∃(kq:Nat) (Am:Bool),Dx= .bool Am∧Az (laws_FnCurves.j1 kq Ao Aa Ab Ap Ac Bd Ad Am=some r)∧Az (kq≤Bf)∧Az (Kd.S (Kd.slice 3 (Kd.int .i64)) 25 wc w.heap.size (fun k_=>some k_≠((.slice Ae Aa.length Af):Value).ownBlock∧some k_≠((.slice Ag Ab.length Ah):Value).ownBlock∧some k_≠((.slice Ax Ap.length Ay):Value).ownBlock∧some k_≠((.slice Ai Ac.length Aj):Value).ownBlock∧some k_≠((.slice Ak Ad.length Al):Value).ownBlock) (.slice Av Ao.length Aw) Ao)∧Az (Kd.Q (Kd.int .i64) 3 wc w.heap.size (fun k_=>some k_≠((.slice Ag Ab.length Ah):Value).ownBlock∧some k_≠((.slice Ai Ac.length Aj):Value).ownBlock∧some k_≠((.slice Ak Ad.length Al):Value).ownBlock) (.slice Ae Aa.length Af) Aa)∧Az (Kd.R (Kd.int .i64) 3 wc w.heap.size (fun k_=>some k_≠((.slice Ae Aa.length Af):Value).ownBlock∧some k_≠((.slice Ai Ac.length Aj):Value).ownBlock∧some k_≠((.slice Ak Ad.length Al):Value).ownBlock) (.slice Ag Ab.length Ah) Ab)∧Az (Kd.S (Kd.slice 3 (Kd.int .i64)) 25 wc w.heap.size (fun k_=>some k_≠((.slice Av Ao.length Aw):Value).ownBlock∧some k_≠((.slice Ae Aa.length Af):Value).ownBlock∧some k_≠((.slice Ag Ab.length Ah):Value).ownBlock∧some k_≠((.slice Ai Ac.length Aj):Value).ownBlock∧some k_≠((.slice Ak Ad.length Al):Value).ownBlock) (.slice Ax Ap.length Ay) Ap)∧Az (Kd.R (Kd.int .i64) 3 wc w.heap.size (fun k_=>some k_≠((.slice Ae Aa.length Af):Value).ownBlock∧some k_≠((.slice Ag Ab.length Ah):Value).ownBlock∧some k_≠((.slice Ak Ad.length Al):Value).ownBlock) (.slice Ai Ac.length Aj) Ac)∧Az (Kd.R (Kd.int .i64) 3 wc w.heap.size (fun k_=>some k_≠((.slice Ae Aa.length Af):Value).ownBlock∧some k_≠((.slice Ag Ab.length Ah):Value).ownBlock∧some k_≠((.slice Ai Ac.length Aj):Value).ownBlock) (.slice Ak Ad.length Al) Ad)∧Az (wc.heap[gb787]?= some (.cells #[.int .i64 t782, .int .i64 t783, .int .i64 t784] 42 (0,0)))∧Az (wc.heap[gb793]?= some (.cells #[.int .i64 t788, .int .i64 t789, .int .i64 t790] 42 (0,0)))∧Az (Below w.heap.size w wc))
 case first=>
  have H:=Bh.out
  clear Bh
  by_cases Bi:Bq=true
  rotate_left
  ·replace Bi:=Bool.eq_false_iff.mpr Bi
   subst Bi
   rw[ig ff]at H
   have H':=Az.mk H
   clear H
   go_wp2
   go_meet
   case rel=>exact⟨_,(false),rq2,H',⟨by have:=Bt.out;first|omega|exact Nat.le_refl _⟩,⟨kS Ba.out⟩,⟨kQ Bb.out⟩,⟨kR Bc.out⟩,⟨kS Aq.out⟩,⟨kR As.out⟩,⟨kR Au.out⟩,⟨bk1 BK787⟩,⟨bk1 BK793⟩,⟨bw_46⟩⟩
  subst Bi
  rw[ip rfl]at H
  replace H:=bez H
  obtain⟨Br,Dy,H⟩:=H
  try dsimp only at H
  have H':=Az.mk H
  clear H
  have hnb119:=NB787_793.out
  have hnc119:=NB793_787.out
  have Bj:=bkc0 BK787
  have Bk:=bkc1 BK787
  have Bl:=bkc2 BK787
  have Bm:=bkF BK787.out 0
  have Bn:=bkF BK787.out 1
  have Bo:=bkF BK787.out 2
  go_wp2_with (first|(go_at_call 34;(with_reducible refine(jN.calls t782 t783 t784 Br _ Dy.out).mono ?_);rintro e Dz ⟨rfl,hb⟩;replace Ba:=Az.mk (Kd.S_below (kS Ba.out) hb);replace Bb:=Az.mk (Kd.Q_below (kQ Bb.out) hb);replace Bc:=Az.mk (Kd.R_below (kR Bc.out) hb);replace Aq:=Az.mk (Kd.S_below (kS Aq.out) hb);replace As:=Az.mk (Kd.R_below (kR As.out) hb);replace Au:=Az.mk (Kd.R_below (kR Au.out) hb);replace BK787:=bkz BK787 hb;replace BK793:=bkz BK793 hb;replace HB:=Az.mk (bwT bw_46 hb);(try clear hb)))
  go_meet
  case rel=>exact⟨_,((Br != (wrap64 (Bp - (wrap64 ((Ao.length:Int) / 2)))))),rq2,H',⟨by have:=Bt.out;first|omega|exact Nat.le_refl _⟩,⟨kS Ba.out⟩,⟨kQ Bb.out⟩,⟨kR Bc.out⟩,⟨kS Aq.out⟩,⟨kR As.out⟩,⟨kR Au.out⟩,⟨bk1 BK787⟩,⟨bk1 BK793⟩,⟨bw_46⟩⟩
 clear Bh
 try clear Bi
 try clear Bj
 try clear Bk
 try clear Bl
 try clear Bm
 try clear Bn
 try clear Bo
 obtain⟨kq,Am,rfl,HA,Du,Ba,Bb,Bc,Aq,As,Au,BK787,BK793,HB⟩:=hcut
 cases kq with
 |zero=>exact absurd HA.out (by simp[laws_FnCurves.j1])
 |succ Dv=>
  have H:=HA.out
  clear HA
  simp only[laws_FnCurves.j1]at H
  by_cases Bs:Am=true
  ·subst Bs
   rw[ip rfl]at H
   exact absurd H (by simp)
  replace Bs:=Bool.eq_false_iff.mpr Bs
  subst Bs
  rw[ig ff]at H
  have Dw:=Az.mk H
  clear H
  rename_i Kt at_ K0 a0
  have AT:=Az.mk at_
  clear at_
  go_wp2
  exact AT.out _ _ (laws_FnCurves.p27 k A0 c0 l0 r w Ao Aa Ab Bu Bv Bw Bx By Bz Ca Cc Cd Ap Ce Cf Ac Bd Cg Ch Ci Cj Ck Cl Cm Cn t782 t783 t784 Bp Bq t788 t789 t790 Co Cp Ad Cq Cs Ct Cu Cv Av Aw Ae Af Ax Ay Cw Da Db Dc gb787 GE787 gb793 GE793 Ag Ah Dd De Df Dg Dh Di Dj Dk Ai Aj Dl Dm Dn Do Dp Dq Ak Al Dr Ds nd Dt Bf Bt wc u46 u47 u48 u49 u50 u51 u52 u53 u54 u55 u56 u57 u58 u59 u60 u61 u62 u63 u64 u65 u66 u67 u68 u69 u70 u71 u72 u73 u74 u75 u76 u77 u78 u79 u80 u81 u82 u83 u84 u85 u86 u87 u88 u89 u90 u91 u92 u93 u94 u95 u96 u97 u98 u99 u100 u101 u102 u103 u104 u105 u106 u107 u108 u109 u110 u111 u112 u113 u114 u115 u116 u117 u118 u119 u120 u121 u122 u123 u124 u125 u126 u127 u128 u129 u130 u131 u132 u133 u134 u135 u136 u137 u138 u139 u140 u141 u142 u143 u144 u145 u146 u147 u148 u149 u150 u151 u152 u153 u154 u155 u156 u157 u158 u159 u160 u161 u162 u163 u164 u165 u166 u167 u168 u169 u170 u171 u172 u173 u174 u175 u176 u177 u178 u179 u180 u181 u182 u183 u184 u185 u186 u187 u188 u189 u190 u191 u192 u193 u194 u195 u196 u197 u198 u199 u200 u201 u202 u203 u204 u205 u206 u207 u208 u209 u210 u211 u212 u213 u214 u215 u216 u217 u218 u219 u220 u221 u222 u223 u224 u225 u226 u227 u228 u229 u230 u231 u232 u233 u234 u235 u236 u237 u238 u239 u240 u241 u242 u243 u244 u245 u246 u247 u248 u249 u250 u251 u252 u253 u254 u255 u256 u257 u258 u259 u260 u261 u262 u263 u264 u265 u266 u267 u268 u269 u270 u271 u272 u273 u274 u276 u277 u278 u279 u280 u281 u282 u283 u284 u285 u286 u287 u288 u289 u290 u291 u292 u293 u294 u295 u296 u297 u298 u299 u300 u301 u302 u303 u304 u305 u306 u307 u308 u309 u310 u311 u312 u313 u314 u315 u316 u317 u318 u319 u320 u321 u322 u323 u324 u325 u326 u327 u328 u329 u330 u331 u332 u333 u334 u335 u336 u337 u338 u339 u340 u341 u342 u343 u344 u345 u346 u347 u348 u349 u350 u351 u352 u353 u354 u355 u356 u357 u358 u359 u360 u361 u362 u363 u364 u365 u366 u367 u368 Ba Bb Bc Aq As Au BK787 BK793 HB Dv Du Dw)
end Go.Proofs.Ytflbpjijgnmklaa.P
