-- The walks, cut and laid together by this session's tools (prune.py, sq2.py, min.py: shorter names, no needless spaces). Not trusted: Lean checks it.
import Derived.Test.YtemeiocmgbgikaaKWZip
import Derived.Test.YtemeiocmgbgikaaKPx13
namespace Go.Proofs.Ytemeiocmgbgikaa.P
open Go.RowKit Go.Proofs.YtemeiocmgbgikaaW.PrintWords Go.Proofs.YtemeiocmgbgikaaW.PrintLast Go.Proofs.YtemeiocmgbgikaaW.PrintMore
attribute [local go_sem] max2_int min2_int max_two min_two max_three min_three max_four min_four   -- for this text's walks alone
set_option linter.unusedVariables false
set_option linter.unusedSimpArgs false
set_option maxHeartbeats 8000000
set_option maxRecDepth 100000
open Option renaming bind_eq_some_iff → be
section
open Bool renaming true → T, false → F
theorem z18_0 {p:Prop} (h:p:=by kernel_rfl):p:=h
theorem bw_18 {n:Nat}{v v':World} (h:Below n v v':=by repeat(first|(with_reducible first|exact HB.out|apply bwA|apply pbN|apply bwD|refine bwS ?_ GB17.out)|exact HB.out)):Below n v v':=h
theorem ln_18 {P:Prop} (h:P:=by(try simp only[List.map_toArray,List.map_cons,List.map_nil]);first|done|rfl|(simp only[List.length_drop,List.length_take];rfl)):P:=h
def fU.f (k:Nat) (l0:List (List Int)) (a1:Int):Option ((List (List Int)) × Bool):=(gT.f k l0 a1).bind fun t391=>(if t391=true then((gP.f k l0 a1).bind fun bt392=>((gP.f k l0 (wrap64 (-a1))).bind fun bt394=>(if 0≤bt392.1 then(if bt392.1<(l0.length:Int) then((gU.f (rd_L1 l0 bt392.1) bt392.2).bind fun t397=>(if 0≤bt394.1 then(if bt394.1<(l0.length:Int) then((gU.f (rd_L1 l0 bt394.1) bt394.2).bind fun t401=>((gN.f k l0).bind fun t404=>(if 2<(t397.length:Int) then(if 1<(t401.length:Int) then(if bt392.1<(t404.length:Int) then(if 2<(t401.length:Int) then(if 1<(t397.length:Int) then(if bt394.1<(t404.length:Int) then(some (((t404.set (bt392.1:Int).toNat (([a1,rd t397 2,rd t401 1]:List Int))).set (bt394.1:Int).toNat (([wrap64 (-a1),rd t401 2,rd t397 1]:List Int))),true)) else(none)) else(none)) else(none)) else(none)) else(none)) else(none)))) else(none)) else(none))) else(none)) else(none)))) else(some (([]:List (List Int)),false)))
def fU.T5:Bool × List (List Nat × List Nat):=(true,[([],[]),([],[]),([0,1],[0,1]),([2],[2]),([],[]),([3,4],[3,4]),([],[]),([],[]),([6,7],[6,7]),([8],[8]),([],[]),([9,10,5],[9,10]),([5,11,0,1,2,3,4,5],[5]),([11,12,0,1,2,3,4,5,6,7,8,9,10,11,12],[11])])
def fU.B5:List Nat:=[0,0,3,7,0,31,0,0,192,448,0,2047,4095,8191]
theorem fU.tab5:rtab .any (opsOf Try.f6 5)=fU.T5:=by kernel_rfl
theorem fU.bits5:waitsOk fU.T5.2 fU.B5=true:=by kernel_rfl
def fU.T7:Bool × List (List Nat × List Nat):=(true,[([],[]),([],[]),([],[]),([],[]),([3],[3]),([4],[4]),([],[]),([6],[6]),([7],[7]),([2,5,8],[2,5,8]),([0,1,0,1,2,3,4,5,6,7,8,9],[0,1]),([10,9,0,1,2,3,4,5,6,7,8,9],[9,10])])
def fU.B7:List Nat:=[0,0,0,0,8,24,0,64,192,508,1023,2047]
theorem fU.tab7:rtab .any (opsOf Try.f6 7)=fU.T7:=by kernel_rfl
theorem fU.bits7:waitsOk fU.T7.2 fU.B7=true:=by kernel_rfl
def fU.T8:Bool × List (List Nat × List Nat):=(true,[([],[]),([],[]),([],[]),([2],[2]),([],[]),([4],[4]),([5],[5]),([],[]),([7],[7]),([8],[8]),([3,6,9],[3,6,9]),([0,1,0,1,2,3,4,5,6,7,8,9,10],[0,1]),([11,10,0,1,2,3,4,5,6,7,8,9,10],[10,11])])
def fU.B8:List Nat:=[0,0,0,4,0,16,48,0,128,384,1020,2047,4095]
theorem fU.tab8:rtab .any (opsOf Try.f6 8)=fU.T8:=by kernel_rfl
theorem fU.bits8:waitsOk fU.T8.2 fU.B8=true:=by kernel_rfl
theorem fU.calls (k:Nat) (A0:Option Addr) (c0:Nat) (l0:List (List Int)) (a1:Int) (r1:List (List Int)) (r2:Bool) (w:World) (Gg:Kd.C (Kd.slice 3 (Kd.int .i64)) w A0 l0.length l0) (Gh:l0.length≤c0) (h:fU.f k l0 a1=some (r1,r2)):
  Calls Try.prog 6 #[.slice A0 l0.length c0, .int .i64 a1] w fun e w'=>∃v0_:Value,e= .returned (.tuple #[v0_, .bool r2])∧Kd.S (Kd.slice 3 (Kd.int .i64)) 25 w' w.heap.size (fun _=>True) v0_ r1∧Below w.heap.size w w':=by
 have Ch:=Az.mk Gg
 have De:=Az.mk Gh
 clear Gg Gh
 have HB:=Az.mk (Below.refl w.heap.size w)
 have H:=h
 unfold fU.f at H
 clear h
 replace H:=bez H
 obtain⟨Em,A3,H⟩:=H
 try dsimp only at H
 by_cases c4:Em=true
 rotate_left
 ·replace c4:=Bool.eq_false_iff.mpr c4
  subst c4
  rw[ig ff]at H
  simp only[Option.some.injEq,Prod.mk.injEq]at H
  obtain⟨rfl,rfl⟩:=H
  go_enter Try.func6,Try.ntmps6
  go_wp2_with (first|((with_reducible refine gtC (f:=20) rfl ?_);refine clz Try.func20 (some 15) #[.slice A0 l0.length c0, .int .i64 a1] ?_;(with_reducible refine(gT.calls k _ _ l0 a1 false _ ?Ah ?Ai A3.out).mono ?_);(case Ah=>exact kC Ch.out);(case Ai=>exact De.out);rintro e Hq ⟨rfl,hb⟩;refine⟨_,rfl,?_⟩;replace HB:=Az.mk (bwT bw_18 hb);(try clear hb)))
  go_ret2
  exact⟨_,rq1,by first|exact Kd.S_nil _ _ _ _ _|exact Kd.N_nil _ _ _ _ _|exact Kd.V_nil _ _ _ _ _|exact Kd.Q_nil _ _ _ _ _|exact Kd.R_nil _ _ _ _ _,bw_18⟩
 subst c4
 rw[ip rfl]at H
 replace H:=bez H
 obtain⟨⟨Ad,Ci⟩,A5,H⟩:=H
 try dsimp only at H
 replace H:=bez H
 obtain⟨⟨Ag,Cj⟩,A6,H⟩:=H
 try dsimp only at H
 by_cases c7:0≤Ad
 rotate_left
 ·rw[ig c7]at H
  exact absurd H (by simp)
 rw[ip c7]at H
 have Gz:=ode c7
 clear c7
 by_cases c8:Ad<(l0.length:Int)
 rotate_left
 ·rw[ig c8]at H
  exact absurd H (by simp)
 rw[ip c8]at H
 have Ha:=ode c8
 clear c8
 replace H:=bez H
 obtain⟨Ae,A9,H⟩:=H
 try dsimp only at H
 by_cases Ee:0≤Ag
 rotate_left
 ·rw[ig Ee]at H
  exact absurd H (by simp)
 rw[ip Ee]at H
 have Gi:=ode Ee
 clear Ee
 by_cases Ef:Ag<(l0.length:Int)
 rotate_left
 ·rw[ig Ef]at H
  exact absurd H (by simp)
 rw[ip Ef]at H
 have Gj:=ode Ef
 clear Ef
 replace H:=bez H
 obtain⟨Af,Hb,H⟩:=H
 try dsimp only at H
 replace H:=bez H
 obtain⟨Aj,Hc,H⟩:=H
 try dsimp only at H
 by_cases Eg:2<(Ae.length:Int)
 rotate_left
 ·rw[ig Eg]at H
  exact absurd H (by simp)
 rw[ip Eg]at H
 have Gk:=ode Eg
 have Gl:decide (2<Ae.length)=true:=ode (by omega)
 clear Eg
 by_cases Eh:1<(Af.length:Int)
 rotate_left
 ·rw[ig Eh]at H
  exact absurd H (by simp)
 rw[ip Eh]at H
 have Gm:=ode Eh
 have Gn:decide (1<Af.length)=true:=ode (by omega)
 clear Eh
 obtain⟨Ck,hy⟩:∃y_:List Int,y_=(([a1,rd Ae 2,rd Af 1]:List Int)):=⟨_,rfl⟩
 replace H:(if Ad<(Aj.length:Int) then(if 2<(Af.length:Int) then(if 1<(Ae.length:Int) then(if Ag<(Aj.length:Int) then(some (((Aj.set (Ad:Int).toNat Ck).set (Ag:Int).toNat (([wrap64 (-a1),rd Af 2,rd Ae 1]:List Int))),true)) else(none)) else(none)) else(none)) else(none))=some (r1,r2):=rh
 have Bz:=Az.mk hy
 clear hy
 by_cases Ei:Ad<(Aj.length:Int)
 rotate_left
 ·rw[ig Ei]at H
  exact absurd H (by simp)
 rw[ip Ei]at H
 have Gp:=ode Ei
 clear Ei
 obtain⟨Bs,hy⟩:∃y_:List (List Int),y_=(Aj.set (Ad:Int).toNat Ck):=⟨_,rfl⟩
 replace H:(if 2<(Af.length:Int) then(if 1<(Ae.length:Int) then(if Ag<(Aj.length:Int) then(some ((Bs.set (Ag:Int).toNat (([wrap64 (-a1),rd Af 2,rd Ae 1]:List Int))),true)) else(none)) else(none)) else(none))=some (r1,r2):=rh
 have Df:=Az.mk hy
 clear hy
 by_cases Ej:2<(Af.length:Int)
 rotate_left
 ·rw[ig Ej]at H
  exact absurd H (by simp)
 rw[ip Ej]at H
 have Gq:=ode Ej
 have Gr:decide (2<Af.length)=true:=ode (by omega)
 clear Ej
 by_cases Ek:1<(Ae.length:Int)
 rotate_left
 ·rw[ig Ek]at H
  exact absurd H (by simp)
 rw[ip Ek]at H
 have Gs:=ode Ek
 have Gt:decide (1<Ae.length)=true:=ode (by omega)
 clear Ek
 obtain⟨Cl,hy⟩:∃y_:List Int,y_=(([wrap64 (-a1),rd Af 2,rd Ae 1]:List Int)):=⟨_,rfl⟩
 replace H:(if Ag<(Aj.length:Int) then(some ((Bs.set (Ag:Int).toNat Cl),true)) else(none))=some (r1,r2):=rh
 have Ca:=Az.mk hy
 clear hy
 by_cases El:Ag<(Aj.length:Int)
 rotate_left
 ·rw[ig El]at H
  exact absurd H (by simp)
 rw[ip El]at H
 have Gu:=ode El
 clear El
 obtain⟨Eo,hy⟩:∃y_:List (List Int),y_=(Bs.set (Ag:Int).toNat Cl):=⟨_,rfl⟩
 replace H:(some (Eo,true))=some (r1,r2):=rh
 have Dg:=Az.mk hy
 clear hy
 simp only[Option.some.injEq,Prod.mk.injEq]at H
 obtain⟨rfl,rfl⟩:=H
 go_enter Try.func6,Try.ntmps6
 try go_wp2_with (first|((with_reducible refine gtC (f:=20) rfl ?_);refine clz Try.func20 (some 15) #[.slice A0 l0.length c0, .int .i64 a1] ?_;(with_reducible refine(gT.calls k _ _ l0 a1 true _ ?Ah ?Ai A3.out).mono ?_);(case Ah=>exact kC Ch.out);(case Ai=>exact De.out);rintro e Bt ⟨rfl,hb⟩;refine⟨_,rfl,?_⟩;replace HB:=Az.mk (bwT bw_18 hb);(try clear hb))|((with_reducible refine gtC (f:=33) rfl ?_);refine clz Try.func33 (some 20) #[.slice A0 l0.length c0, .int .i64 a1] ?_;(with_reducible refine(gP.calls k _ _ l0 a1 Ad Ci _ ?Ah ?Ai A5.out).mono ?_);(case Ah=>exact kC (Kd.C_below Ch.out HB.out));(case Ai=>exact De.out);rintro e w' ⟨rfl,⟨nd,rfl⟩⟩;refine⟨_,rfl,?_⟩;(try(rw[drewN_self Bt];generalize hq_:World.drewN Bt _=Bt;have n0_:Az (Below w.heap.size w Bt):=⟨by rw[←hq_];exact bw_18⟩;clear HB hq_;have HB:=n0_;clear n0_)))|((with_reducible refine gtC (f:=33) rfl ?_);refine clz Try.func33 (some 27) #[.slice A0 l0.length c0, .int .i64 (wrap64 (-a1))] ?_;(with_reducible refine(gP.calls k _ _ l0 (wrap64 (-a1)) Ag Cj _ ?Ah ?Ai A6.out).mono ?_);(case Ah=>exact kC (Kd.C_below Ch.out HB.out));(case Ai=>exact De.out);rintro e w' ⟨rfl,⟨nd,rfl⟩⟩;refine⟨_,rfl,?_⟩;(try(rw[drewN_self Bt];generalize hq_:World.drewN Bt _=Bt;have n0_:Az (Below w.heap.size w Bt):=⟨by rw[←hq_];exact bw_18⟩;clear HB hq_;have HB:=n0_;clear n0_))))
 replace HB:=Az.mk (bwD HB.out)
 have Cm:0≤(Ad:Int):=od
 have Cn:Ad<(l0.length:Int):=od
 obtain⟨Bf,Bn,Bo,Ep,Am,Bh,Bi⟩:=at_L1 Ch.out Ad Cm Cn
 have Ba:=Am
 cases Ep
 replace Am:=kc HB Am
 have Bj:=Az.mk Bi
 have Bu:=Az.mk Bh
 clear Bi Bh
 replace Cm:=ets Cm
 replace Cn:=ets Cn
 have Co:0≤(Ag:Int):=od
 have Cp:Ag<(l0.length:Int):=od
 obtain⟨Dh,Bp,Bq,Er,Ap,Bk,Bl⟩:=at_L1 Ch.out Ag Co Cp
 have Bb:=Ap
 obtain rfl:Bf=Dh:=(by injection Er)
 replace Ap:=kc HB Ap
 have Bm:=Az.mk Bl
 have Bv:=Az.mk Bk
 clear Bl Bk
 replace Co:=ets Co
 replace Cp:=ets Cp
 refine start_ (n:=14) (S:=fun w'=>w'.cell? (Bf.add (Ad).toNat)=some (.slice Bn (rd_L1 l0 Ad).length Bo)∧w'.cell? (Bf.add (Ag).toNat)=some (.slice Bp (rd_L1 l0 Ag).length Bq)) (ds:=[]) #[F,F,F,F,F,F,F,F,F,F,F,F,F,F] z18_0 rfl rfl ⟨(kc HB Ba),(kc HB Bb)⟩ (fun hHeld=>?_);refine with_tabW fU.tab5 fU.bits5 (fun HT_ HW_=>?_)
 generalize Bt.drew=Hr at HB Bj Bm Am Ap hHeld ⊢
 refine pu (i:=0) (N:=some 30) #[T,F,F,F,F,F,F,F,F,F,F,F,F,F] (any_of HT_.out z18_0) ?_
 refine pu (i:=1) (N:=some 31) #[T,T,F,F,F,F,F,F,F,F,F,F,F,F] (any_of HT_.out z18_0) ?_
 refine pu (i:=2) (N:=some 32) #[T,T,T,F,F,F,F,F,F,F,F,F,F,F] (any_of HT_.out z18_0) ?_
 refine pu (i:=4) (N:=some 34) #[T,T,T,F,T,F,F,F,F,F,F,F,F,F] (any_of HT_.out z18_0) ?_
 refine pu (i:=6) (N:=some 36) #[T,T,T,F,T,F,T,F,F,F,F,F,F,F] (any_of HT_.out z18_0) ?_
 refine pu (i:=7) (N:=some 37) #[T,T,T,F,T,F,T,T,F,F,F,F,F,F] (any_of HT_.out z18_0) ?_
 refine pu (i:=8) (N:=some 38) #[T,T,T,F,T,F,T,T,T,F,F,F,F,F] (any_of HT_.out z18_0) ?_
 refine pu (i:=10) (N:=some 40) #[T,T,T,F,T,F,T,T,T,F,T,F,F,F] (any_of HT_.out z18_0) ?_
 refine take_ (i:=3) (N:=some 33) (v:=?_) (a':=?_) #[T,T,T,T,T,F,T,T,T,F,T,F,F,F] rfl rfl (take_ofW HT_.out HW_.out z18_0) (fun _ _ _ h=>h) (Or.inl ⟨by rfl,?_⟩) hHeld ?_ ?_
 rotate_left
 ·rintro w' ⟨s0,s1⟩
  go_simp
  with_reducible rfl
 rotate_left
 ·exact acq
 refine take_ (i:=9) (N:=some 39) (v:=?_) (a':=?_) #[T,T,T,T,T,F,T,T,T,T,T,F,F,F] rfl rfl (take_ofW HT_.out HW_.out z18_0) (fun _ _ _ h=>h) (Or.inl ⟨by rfl,?_⟩) hHeld ?_ ?_
 rotate_left
 ·rintro w' ⟨s0,s1⟩
  go_simp
  with_reducible rfl
 rotate_left
 ·exact acq
 refine one_ (i:=5) (N:=some 35) #[T,T,T,T,T,T,T,T,T,T,T,F,F,F] rfl rfl (one_of HT_.out z18_0) (by decide) (fun K hK=>?_)
 refine goes_ Try.func34 z18_0 rfl #[.slice Bn (rd_L1 l0 Ad).length Bo, .int .i64 Ci] (by rfl) rfl rfl ln_18 ?_
 with_reducible refine(gU.calls _ _ (rd_L1 l0 Ad) Ci Ae _ ?Ah ?Ai A9.out).mono ?_
 (case Ah=>exact kC (Kd.C_below Bj.out HB.out))
 (case Ai=>exact Bu.out)
 rintro e Hs ⟨Hd,rfl,Bw,hb⟩
 refine⟨_,rfl,?_⟩
 have Aa:=Az.mk (Kd.R_lower (Kd.R_newM (M:=fun k_=>(w.heap.size≤k_)) Bw (bwZ bw_18) (fun k_ h_=>h_)) (bwZ bw_18));replace HB:=Az.mk (bwT bw_18 hb)
 (try clear hb)
 (try clear hb2)
 (try clear hk)
 (try clear hi)
 (try clear Bw)
 refine hK.out _ _ ⟨(kc HB Ba),(kc HB Bb)⟩ (fun hHeld=>?_)
 clear hK K
 refine norm_ (a':=?_) ?_ ?_
 rotate_left
 ·show Act.put _ (some 35) _=_
  exact acq
 refine one_ (i:=11) (N:=some 41) #[T,T,T,T,T,T,T,T,T,T,T,T,F,F] rfl rfl (one_of HT_.out z18_0) (by decide) (fun K hK=>?_)
 refine goes_ Try.func34 z18_0 rfl #[.slice Bp (rd_L1 l0 Ag).length Bq, .int .i64 Cj] (by rfl) rfl rfl ln_18 ?_
 with_reducible refine(gU.calls _ _ (rd_L1 l0 Ag) Cj Af _ ?Ah ?Ai Hb.out).mono ?_
 (case Ah=>exact kC (Kd.C_below Bm.out HB.out))
 (case Ai=>exact Bv.out)
 rintro e Ht ⟨He,rfl,Bw,hb⟩
 refine⟨_,rfl,?_⟩
 have Ac:=Az.mk (Kd.R_lower (Kd.R_new' (Kd.R_newM (M:=fun k_=>(w.heap.size≤k_)) Bw (bwZ bw_18) (fun k_ h_=>h_)) (Kd.R_lt (kR Aa.out))) (bwZ bw_18));replace Aa:=Az.mk (Kd.R_elder' (kR Aa.out) (Kd.R_base Bw) hb);replace HB:=Az.mk (bwT bw_18 hb)
 (try clear hb)
 (try clear hb2)
 (try clear hk)
 (try clear hi)
 (try clear Bw)
 refine hK.out _ _ ⟨(kc HB Ba),(kc HB Bb)⟩ (fun hHeld=>?_)
 clear hK K
 refine norm_ (a':=?_) ?_ ?_
 rotate_left
 ·show Act.put _ (some 41) _=_
  exact acq
 refine pu (i:=12) (N:=some 10) #[T,T,T,T,T,T,T,T,T,T,T,T,T,F] (any_of HT_.out z18_0) ?_
 refine pu (i:=13) (N:=some 11) #[T,T,T,T,T,T,T,T,T,T,T,T,T,T] (any_of HT_.out z18_0) ?_
 refine done_ (done_of HT_.out z18_0) ?_
 try go_wp2_with (first|((with_reducible refine gtC (f:=35) rfl ?_);refine clz Try.func35 (some 43) #[.slice (some Bf) l0.length c0] ?_;(with_reducible refine(gN.calls k _ _ l0 Aj _ ?Ah ?Ai Hc.out).mono ?_);(case Ah=>exact kC (Kd.C_below Ch.out HB.out));(case Ai=>exact De.out);rintro e Hf ⟨Hg,rfl,Bw,hb⟩;refine⟨_,rfl,?_⟩;replace Aa:=Az.mk (Kd.R_below (kR Aa.out) hb);replace Ac:=Az.mk (Kd.R_below (kR Ac.out) hb);have Ab:=Az.mk (Kd.S_lower Bw (bwZ bw_18));replace HB:=Az.mk (bwT bw_18 hb);(try clear hb);(try clear Bw)))
 replace Aa:=Az.mk (Kd.R_drew Aa.out);replace Ac:=Az.mk (Kd.R_drew Ac.out);replace Ab:=Az.mk (Kd.S_drew Ab.out);replace HB:=Az.mk (bwD HB.out)
 obtain⟨Hh,Di,Dj⟩:=Kd.R_slice Aa.out
 (first|subst Dj|(injection Dj with f1_ f2_ f3_;have f4_:=f1_.symm;have f5_:=f3_.symm;clear f1_ f2_ f3_;subst f4_;subst f5_))
 have Cq:0≤(2:Int):=(by omega)
 have Cr:2<(Ae.length:Int):=od
 obtain⟨Ax,Es,Aq⟩:=Kd.at_int (Kd.R_reads' Aa.out).2.2 2 Cq Cr
 cases Es
 (try simp only[show(2:Int).toNat=2 from rfl,Nat.reduceMul,Nat.reduceEqDiff,Go.Addr.add, ↓reduceIte]at Aq)
 have Gv:(2<Ae.length)=True:=ets (by omega)
 (try rw[show((2:Int)).toNat=2 from rfl]at Aq)
 replace Cq:=ets Cq
 replace Cr:=ets Cr
 obtain⟨Hi,Dk,Dl⟩:=Kd.R_slice Ac.out
 (first|subst Dl|(injection Dl with f1_ f2_ f3_;have f4_:=f1_.symm;have f5_:=f3_.symm;clear f1_ f2_ f3_;subst f4_;subst f5_))
 have Cs:0≤(1:Int):=(by omega)
 have Ct:1<(Af.length:Int):=od
 obtain⟨Ay,Et,As⟩:=Kd.at_int (Kd.R_reads' Ac.out).2.2 1 Cs Ct
 cases Et
 (try simp only[show(1:Int).toNat=1 from rfl,Nat.reduceMul,Nat.reduceEqDiff,Go.Addr.add, ↓reduceIte]at As)
 have Gw:(1<Af.length)=True:=ets (by omega)
 (try rw[show((1:Int)).toNat=1 from rfl]at As)
 replace Cs:=ets Cs
 replace Ct:=ets Ct
 refine start_ (n:=12) (S:=fun w'=>w'.cell? ⟨Ax.block,Ax.off+2,none⟩=some (.int .i64 (rd Ae 2))∧w'.cell? ⟨Ay.block,Ay.off+1,none⟩=some (.int .i64 (rd Af 1))) (ds:=[11]) #[F,F,F,F,F,F,F,F,F,F,F,F] z18_0 rfl rfl ⟨Aq,As⟩ (fun hHeld=>?_);refine with_tabW fU.tab7 fU.bits7 (fun HT_ HW_=>?_)
 generalize Hf.drew=Hu at Aa Ac Ab HB Aq As hHeld ⊢
 refine pu (i:=0) (N:=some 44) #[T,F,F,F,F,F,F,F,F,F,F,F] (any_of HT_.out z18_0) ?_
 refine pu (i:=1) (N:=some 45) #[T,T,F,F,F,F,F,F,F,F,F,F] (any_of HT_.out z18_0) ?_
 refine pu (i:=2) (N:=some 46) #[T,T,T,F,F,F,F,F,F,F,F,F] (any_of HT_.out z18_0) ?_
 refine pu (i:=3) (N:=some 47) #[T,T,T,T,F,F,F,F,F,F,F,F] (any_of HT_.out z18_0) ?_
 refine pu (i:=4) (N:=some 48) #[T,T,T,T,T,F,F,F,F,F,F,F] (any_of HT_.out z18_0) ?_
 refine pu (i:=6) (N:=some 50) #[T,T,T,T,T,F,T,F,F,F,F,F] (any_of HT_.out z18_0) ?_
 refine pu (i:=7) (N:=some 51) #[T,T,T,T,T,F,T,T,F,F,F,F] (any_of HT_.out z18_0) ?_
 refine take_ (i:=5) (N:=some 49) (v:=?_) (a':=?_) #[T,T,T,T,T,T,T,T,F,F,F,F] rfl rfl (take_ofW HT_.out HW_.out z18_0) (fun _ _ _ h=>h) (Or.inl ⟨by rfl,?_⟩) hHeld ?_ ?_
 rotate_left
 ·rintro w' ⟨s0,s1⟩
  go_simp
  with_reducible rfl
 rotate_left
 ·exact acq
 refine take_ (i:=8) (N:=some 52) (v:=?_) (a':=?_) #[T,T,T,T,T,T,T,T,T,F,F,F] rfl rfl (take_ofW HT_.out HW_.out z18_0) (fun _ _ _ h=>h) (Or.inl ⟨by rfl,?_⟩) hHeld ?_ ?_
 rotate_left
 ·rintro w' ⟨s0,s1⟩
  go_simp
  with_reducible rfl
 rotate_left
 ·exact acq
 refine one_ (i:=9) (N:=some 53) #[T,T,T,T,T,T,T,T,T,T,F,F] rfl rfl (one_of HT_.out z18_0) (by decide) (fun K hK=>?_)
 refine Kd.R_lit_step (Kd.int .i64) _ 3 ?hg (N:=53) ?hd (xs:=([a1,rd Ae 2,rd Af 1]:List Int)) (inner:=[.int .i64 a1, .int .i64 (rd Ae 2), .int .i64 (rd Af 1)]) (ok:=fun _=>True) (okp:=fun _=>True) ?hr ?hp (fun _ hk=>hk) trivial (Below.refl _ _) (Nat.le_refl _) (by simp) ?_;(case hd=>rfl);(case hg=>rfl);(case hr=>first|(go_simp;done)|(go_simp;rfl));(case hp=>exact(Reps.one (show Kd.M (Kd.int .i64) _ _ _ a1 [.int .i64 a1]from rfl) (Reps.one (show Kd.M (Kd.int .i64) _ _ _ (rd Ae 2) [.int .i64 (rd Ae 2)]from rfl) (Reps.one (show Kd.M (Kd.int .i64) _ _ _ (rd Af 1) [.int .i64 (rd Af 1)]from rfl) (Reps.none _ _)))))
 intro Ak Dd Bc hb hg_ hnew_
 have HS0_:=(hb.cell (World.block_lt_of_cell? _ _ (hHeld.1))).trans (hHeld.1)
 have HS1_:=(hb.cell (World.block_lt_of_cell? _ _ (hHeld.2))).trans (hHeld.2)
 clear hg_ hnew_
 (first|rw[←Bz.out]at Bc|(simp only[Int.reduceToNat]at Bc;rw[←Bz.out]at Bc))
 replace Ab:=Az.mk (Kd.S_elder' (kS Ab.out) (Kd.R_base Bc) hb);have Cb:=Az.mk (Kd.R_lower (Kd.R_new' (Kd.R_new' (Kd.R_newM (M:=fun k_=>(w.heap.size≤k_)) Bc (bwZ bw_18) (fun k_ h_=>h_)) (Kd.R_lt (kR Aa.out))) (Kd.R_lt (kR Ac.out))) (bwZ bw_18));replace Aa:=Az.mk (Kd.R_elder' (kR Aa.out) (Kd.R_base Bc) hb);replace Ac:=Az.mk (Kd.R_elder' (kR Ac.out) (Kd.R_base Bc) hb);replace HB:=Az.mk (bwT bw_18 hb)
 clear hb Bc
 have Eu:0≤(Ad:Int):=od
 have Ev:(Ad:Int)<((Aj.length:Int):Int):=od
 obtain⟨Al,Ew,Dm,Dn,gl17,Hj,HG17⟩:=Kd.S_form Ab.out (by omega)
 (first|cases Dm|(injection Dm with ea_ en_ ec_;(first|subst ea_|(injection ea_ with ea_;subst ea_));subst ec_;clear en_))
 have GB17:=Az.mk Dn
 have Do:=Az.mk HG17
 clear Dn gl17 HG17
 obtain⟨oi_ce17,Hk,Dp,Dq,Cc,Cd,ho_ce17,hH_ce17⟩:=Kd.S_elem Ab.out [] (Ad:Int) Eu Ev
 obtain⟨ua17_0,rfl,Ex⟩:=Dq
 have Cu:=Cc 0 _ rfl
 have Cv:=Cd 0
 (try simp only[show((Kd.slice 3 (Kd.int .i64))).sz=1 from rfl,Nat.mul_one,Nat.add_zero]at Cu)
 (try simp only[show((Kd.slice 3 (Kd.int .i64))).sz=1 from rfl,Nat.mul_one,Nat.add_zero]at Cv)
 (try clear Dp);(try clear Cc);(try clear Cd);(try clear Dq)
 replace Eu:=ets Eu
 replace Ev:=ets Ev
 obtain⟨oi_ce32,Hl,Dr,Ds,Dt,Du,ho_ce32,hH_ce32⟩:=Kd.S_elem Ab.out [] (Ad:Int) (od) (by have h_:(Ad:Int)<((Aj.length:Int):Int):=od;first|exact h_|(have e_:=(Kd.S_reads' Ab.out).1;omega)|simpa using h_)
 obtain⟨ua32_0,rfl,Ey⟩:=Ds
 have Bx:=(Kd.S_seg (ok:=fun _=>True) (okg:=fun k_=>some k_=(Ak:Value).ownBlock) (okp:=fun k_=>some k_=(Ak:Value).ownBlock) hH_ce32 (od) (by have h_:(Ad:Int)<((Aj.length:Int):Int):=od;first|exact h_|(have e_:=(Kd.S_reads' Ab.out).1;omega)|simpa using h_) (seg:=[Ak]) (j:=0) (show 0+1≤1 from by decide) (x':=Ck) ⟨Ak,rfl,Kd.R_reok rfl Cb.out (fun k_ e_=>e_.symm)⟩ (fun k_ hk=> .inr hk) (fun k_ hk=>⟨trivial,fun e_=>((Kd.S_R Ab.out).1 Al rfl).2 (e_ ▸ hk)⟩)).1
 (try simp only[show((Kd.slice 3 (Kd.int .i64))).sz=1 from rfl,Nat.mul_one,Nat.add_zero]at Bx)
 rw[←Df.out]at Bx
 have Dv:=Az.mk Bx
 (try clear Dr);(try clear Dt);(try clear Du);(try clear Ds);(try clear Bx)
 refine hK.out _ _ ⟨HS0_,HS1_⟩ (fun hHeld=>?_)
 clear hK K
 refine norm_ (a':=?_) ?_ ?_
 rotate_left
 ·show Act.put _ (some 53) _=_
  exact acq
 refine pu (i:=10) (N:=some 54) #[T,T,T,T,T,T,T,T,T,T,T,F] (any_of HT_.out z18_0) ?_
 refine last_ (i:=11) (N:=none) #[T,T,T,T,T,T,T,T,T,T,T,T] rfl rfl (one_of HT_.out z18_0) (by decide) (fun K hK=>?_)
 refine skip_ (w1:=Dd.setCell ⟨Al,(Ad:Int).toNat,none⟩ (Ak)) (by rfl) rfl ?_ ?_
 ·obtain⟨Av_,cv_,ev_⟩:=Kd.R_slice Cb.out
  subst ev_
  first|(go_simp;done)|(go_simp;rfl)
 refine hK.out _ _ ?_
 clear hK K
 refine done_ (done_of HT_.out z18_0) ?_
 try go_wp2
 have n0_:Az (Kd.R (Kd.int .i64) 3 (Dd.setCell ⟨Al,(Ad:Int).toNat,none⟩ (Ak)) w.heap.size (fun k_=>(w.heap.size≤k_)∧some k_≠(.slice (some Ay) Af.length Dk:Value).ownBlock) (.slice (some Ax) Ae.length Di) Ae):=⟨by(with_reducible repeat(first|apply Kd.R_alloc|apply Kd.R_drewN|apply Kd.R_drew));exact Kd.R_mono (Kd.R_far (p:=⟨Al,(Ad:Int).toNat,none⟩) (Kd.R_types Aa.out Do.out (by decide)) (fun _ hk=>hk.2) (Ak)) (fun _ hk=>⟨hk.1.1.1.1,hk.1.1.2⟩)⟩
 have n1_:Az (Kd.R (Kd.int .i64) 3 (Dd.setCell ⟨Al,(Ad:Int).toNat,none⟩ (Ak)) w.heap.size (fun k_=>(w.heap.size≤k_)∧some k_≠(.slice (some Ax) Ae.length Di:Value).ownBlock) (.slice (some Ay) Af.length Dk) Af):=⟨by(with_reducible repeat(first|apply Kd.R_alloc|apply Kd.R_drewN|apply Kd.R_drew));exact Kd.R_mono (Kd.R_far (p:=⟨Al,(Ad:Int).toNat,none⟩) (Kd.R_types Ac.out Do.out (by decide)) (fun _ hk=>hk.2) (Ak)) (fun _ hk=>⟨hk.1.1.1.1,hk.1.1.2⟩)⟩
 have n2_:Az (Kd.S (Kd.slice 3 (Kd.int .i64)) 25 (Dd.setCell ⟨Al,(Ad:Int).toNat,none⟩ (Ak)) w.heap.size (fun _=>True) (.slice (some ⟨Al,0,none⟩) Aj.length Ew) Bs):=⟨kS Dv.out⟩
 have n3_:Az (Below w.heap.size w (Dd.setCell ⟨Al,(Ad:Int).toNat,none⟩ (Ak))):=⟨bw_18⟩
 (try clear Aa)
 (try clear Ac)
 (try clear Ab)
 (try clear HB)
 generalize (Dd.setCell ⟨Al,(Ad:Int).toNat,none⟩ (Ak))=Hm at n0_ n1_ n2_ n3_ ⊢
 have Aa:=n0_
 have Ac:=n1_
 have Ab:=n2_
 have HB:=n3_
 clear n0_ n1_ n2_ n3_
 replace Aa:=Az.mk (Kd.R_drew Aa.out);replace Ac:=Az.mk (Kd.R_drew Ac.out);replace Ab:=Az.mk (Kd.S_drew Ab.out);replace HB:=Az.mk (bwD HB.out)
 have Cw:0≤(2:Int):=(by omega)
 have Cy:2<(Af.length:Int):=od
 obtain⟨Dw,Ez,Au⟩:=Kd.at_int (Kd.R_reads' Ac.out).2.2 2 Cw Cy
 obtain rfl:Ay=Dw:=(by injection Ez)
 (try simp only[show(2:Int).toNat=2 from rfl,Nat.reduceMul,Nat.reduceEqDiff,Go.Addr.add, ↓reduceIte]at Au)
 have Gx:(2<Af.length)=True:=ets (by omega)
 (try rw[show((2:Int)).toNat=2 from rfl]at Au)
 replace Cw:=ets Cw
 replace Cy:=ets Cy
 have Cz:0≤(1:Int):=(by omega)
 have Da:1<(Ae.length:Int):=od
 obtain⟨Dx,Ga,Av⟩:=Kd.at_int (Kd.R_reads' Aa.out).2.2 1 Cz Da
 obtain rfl:Ax=Dx:=(by injection Ga)
 (try simp only[show(1:Int).toNat=1 from rfl,Nat.reduceMul,Nat.reduceEqDiff,Go.Addr.add, ↓reduceIte]at Av)
 have Gy:(1<Ae.length)=True:=ets (by omega)
 (try rw[show((1:Int)).toNat=1 from rfl]at Av)
 replace Cz:=ets Cz
 replace Da:=ets Da
 refine start_ (n:=13) (S:=fun w'=>w'.cell? ⟨Ay.block,Ay.off+2,none⟩=some (.int .i64 (rd Af 2))∧w'.cell? ⟨Ax.block,Ax.off+1,none⟩=some (.int .i64 (rd Ae 1))) (ds:=[12]) #[F,F,F,F,F,F,F,F,F,F,F,F,F] z18_0 rfl rfl ⟨Au,Av⟩ (fun hHeld=>?_);refine with_tabW fU.tab8 fU.bits8 (fun HT_ HW_=>?_)
 generalize Hm.drew=Hv at Aa Ac Ab HB Dv Au Av hHeld ⊢
 refine pu (i:=0) (N:=some 55) #[T,F,F,F,F,F,F,F,F,F,F,F,F] (any_of HT_.out z18_0) ?_
 refine pu (i:=1) (N:=some 56) #[T,T,F,F,F,F,F,F,F,F,F,F,F] (any_of HT_.out z18_0) ?_
 refine pu (i:=2) (N:=some 57) #[T,T,T,F,F,F,F,F,F,F,F,F,F] (any_of HT_.out z18_0) ?_
 refine pu (i:=3) (N:=some 58) #[T,T,T,T,F,F,F,F,F,F,F,F,F] (any_of HT_.out z18_0) ?_
 refine pu (i:=4) (N:=some 59) #[T,T,T,T,T,F,F,F,F,F,F,F,F] (any_of HT_.out z18_0) ?_
 refine pu (i:=5) (N:=some 60) #[T,T,T,T,T,T,F,F,F,F,F,F,F] (any_of HT_.out z18_0) ?_
 refine pu (i:=7) (N:=some 62) #[T,T,T,T,T,T,F,T,F,F,F,F,F] (any_of HT_.out z18_0) ?_
 refine pu (i:=8) (N:=some 63) #[T,T,T,T,T,T,F,T,T,F,F,F,F] (any_of HT_.out z18_0) ?_
 refine take_ (i:=6) (N:=some 61) (v:=?_) (a':=?_) #[T,T,T,T,T,T,T,T,T,F,F,F,F] rfl rfl (take_ofW HT_.out HW_.out z18_0) (fun _ _ _ h=>h) (Or.inl ⟨by rfl,?_⟩) hHeld ?_ ?_
 rotate_left
 ·rintro w' ⟨s0,s1⟩
  go_simp
  with_reducible rfl
 rotate_left
 ·exact acq
 refine take_ (i:=9) (N:=some 64) (v:=?_) (a':=?_) #[T,T,T,T,T,T,T,T,T,T,F,F,F] rfl rfl (take_ofW HT_.out HW_.out z18_0) (fun _ _ _ h=>h) (Or.inl ⟨by rfl,?_⟩) hHeld ?_ ?_
 rotate_left
 ·rintro w' ⟨s0,s1⟩
  go_simp
  with_reducible rfl
 rotate_left
 ·exact acq
 refine one_ (i:=10) (N:=some 65) #[T,T,T,T,T,T,T,T,T,T,T,F,F] rfl rfl (one_of HT_.out z18_0) (by decide) (fun K hK=>?_)
 refine Kd.R_lit_step (Kd.int .i64) _ 3 ?hg (N:=65) ?hd (xs:=([wrap64 (-a1),rd Af 2,rd Ae 1]:List Int)) (inner:=[.int .i64 (wrap64 (-a1)), .int .i64 (rd Af 2), .int .i64 (rd Ae 1)]) (ok:=fun _=>True) (okp:=fun _=>True) ?hr ?hp (fun _ hk=>hk) trivial (Below.refl _ _) (Nat.le_refl _) (by simp) ?_;(case hd=>rfl);(case hg=>rfl);(case hr=>first|(go_simp;done)|(go_simp;rfl));(case hp=>exact(Reps.one (show Kd.M (Kd.int .i64) _ _ _ (wrap64 (-a1)) [.int .i64 (wrap64 (-a1))]from rfl) (Reps.one (show Kd.M (Kd.int .i64) _ _ _ (rd Af 2) [.int .i64 (rd Af 2)]from rfl) (Reps.one (show Kd.M (Kd.int .i64) _ _ _ (rd Ae 1) [.int .i64 (rd Ae 1)]from rfl) (Reps.none _ _)))))
 intro Br Hn Bd hb hg_ hnew_
 have HS0_:=(hb.cell (World.block_lt_of_cell? _ _ (hHeld.1))).trans (hHeld.1)
 have HS1_:=(hb.cell (World.block_lt_of_cell? _ _ (hHeld.2))).trans (hHeld.2)
 clear hg_ hnew_
 (first|rw[←Ca.out]at Bd|(simp only[Int.reduceToNat]at Bd;rw[←Ca.out]at Bd))
 replace Ab:=Az.mk (Kd.S_elder' (kS Ab.out) (Kd.R_base Bd) hb);have Ce:=Az.mk (Kd.R_lower (Kd.R_new' (Kd.R_new' (Kd.R_newM (M:=fun k_=>(w.heap.size≤k_)) Bd (bwZ bw_18) (fun k_ h_=>h_)) (Kd.R_lt (kR Aa.out))) (Kd.R_lt (kR Ac.out))) (bwZ bw_18));replace Aa:=Az.mk (Kd.R_elder' (kR Aa.out) (Kd.R_base Bd) hb);replace Ac:=Az.mk (Kd.R_elder' (kR Ac.out) (Kd.R_base Bd) hb);replace HB:=Az.mk (bwT bw_18 hb)
 clear hb Bd
 have Gb:0≤(Ag:Int):=od
 have Gc:(Ag:Int)<((Aj.length:Int):Int):=od
 obtain⟨oi_ce21,Ho,Dy,Dz,Cf,Cg,ho_ce21,hH_ce21⟩:=Kd.S_elem Ab.out [] (Ag:Int) Gb Gc
 obtain⟨ua21_0,rfl,Gd⟩:=Dz
 have Db:=Cf 0 _ rfl
 have Dc:=Cg 0
 (try simp only[show((Kd.slice 3 (Kd.int .i64))).sz=1 from rfl,Nat.mul_one,Nat.add_zero]at Db)
 (try simp only[show((Kd.slice 3 (Kd.int .i64))).sz=1 from rfl,Nat.mul_one,Nat.add_zero]at Dc)
 (try clear Dy);(try clear Cf);(try clear Cg);(try clear Dz)
 replace Gb:=ets Gb
 replace Gc:=ets Gc
 obtain⟨oi_ce37,Hp,Ea,Eb,Ec,Ed,ho_ce37,hH_ce37⟩:=Kd.S_elem Ab.out [] (Ag:Int) (od) (by have h_:(Ag:Int)<((Aj.length:Int):Int):=od;first|exact h_|(have e_:=(Kd.S_reads' Ab.out).1;omega)|simpa using h_)
 obtain⟨ua37_0,rfl,Ge⟩:=Eb
 have By:=(Kd.S_seg (ok:=fun _=>True) (okg:=fun k_=>some k_=(Br:Value).ownBlock) (okp:=fun k_=>some k_=(Br:Value).ownBlock) hH_ce37 (od) (by have h_:(Ag:Int)<((Aj.length:Int):Int):=od;first|exact h_|(have e_:=(Kd.S_reads' Ab.out).1;omega)|simpa using h_) (seg:=[Br]) (j:=0) (show 0+1≤1 from by decide) (x':=Cl) ⟨Br,rfl,Kd.R_reok rfl Ce.out (fun k_ e_=>e_.symm)⟩ (fun k_ hk=> .inr hk) (fun k_ hk=>⟨trivial,fun e_=>((Kd.S_R Ab.out).1 Al rfl).2 (e_ ▸ hk)⟩)).1
 (try simp only[show((Kd.slice 3 (Kd.int .i64))).sz=1 from rfl,Nat.mul_one,Nat.add_zero]at By)
 rw[←Dg.out]at By
 have Gf:=Az.mk By
 (try clear Ea);(try clear Ec);(try clear Ed);(try clear Eb);(try clear By)
 refine hK.out _ _ ⟨HS0_,HS1_⟩ (fun hHeld=>?_)
 clear hK K
 refine norm_ (a':=?_) ?_ ?_
 rotate_left
 ·show Act.put _ (some 65) _=_
  exact acq
 refine pu (i:=11) (N:=some 66) #[T,T,T,T,T,T,T,T,T,T,T,T,F] (any_of HT_.out z18_0) ?_
 refine last_ (i:=12) (N:=none) #[T,T,T,T,T,T,T,T,T,T,T,T,T] rfl rfl (one_of HT_.out z18_0) (by decide) (fun K hK=>?_)
 refine skip_ (w1:=Hn.setCell ⟨Al,(Ag:Int).toNat,none⟩ (Br)) (by rfl) rfl ?_ ?_
 ·obtain⟨Av_,cv_,ev_⟩:=Kd.R_slice Ce.out
  subst ev_
  first|(go_simp;done)|(go_simp;rfl)
 refine hK.out _ _ ?_
 clear hK K
 refine done_ (done_of HT_.out z18_0) ?_
 try go_wp2
 go_ret2
 exact⟨_,rq1,kS Gf.out,bw_18⟩
end
theorem bw_19 {n:Nat}{v v':World} (h:Below n v v':=by repeat(first|(with_reducible first|exact HB.out|apply bwA|apply pbN|apply bwD)|exact HB.out)):Below n v v':=h
theorem ln_19 {P:Prop} (h:P:=by(try simp only[List.map_toArray,List.map_cons,List.map_nil]);first|done|rfl|(simp only[List.length_drop,List.length_take];rfl)):P:=h
mutual
def fY.l0:Nat→List (List Int)→Int→Int→Option (Int × Int)
 |0,_,_,_=>none
 |k+1,x0,x1,x6=>if x6<(x0.length:Int) then(fY.l1 k x0 x1 x6 0) else(some ((-1),(-1)))
def fY.l1:Nat→List (List Int)→Int→Int→Int→Option (Int × Int)
 |0,_,_,_,_=>none
 |k+1,x0,x1,x6,x7=>if x7<3 then(if 0≤x6 then(if x6<(x0.length:Int) then(if 0≤x7 then(if x7<((rd_L1 x0 x6).length:Int) then(if(rd (rd_L1 x0 x6) x7)=x1 then(some (x6,x7)) else(fY.l1 k x0 x1 x6 (wrap64 (x7+1)))) else(none)) else(none)) else(none)) else(none)) else(fY.l0 k x0 x1 (wrap64 (x6+1)))
end
def fY.f (k:Nat) (l0:List (List Int)) (a1:Int):Option (Int × Int):=fY.l0 k l0 a1 0
theorem fY.calls (k:Nat) (A0:Option Addr) (c0:Nat) (l0:List (List Int)) (a1:Int) (r1:Int) (r2:Int) (w:World) (Bc:Kd.C (Kd.slice 3 (Kd.int .i64)) w A0 l0.length l0) (Bd:l0.length≤c0) (h:fY.f k l0 a1=some (r1,r2)):
  Calls Try.prog 37 #[.slice A0 l0.length c0, .int .i64 a1] w fun e w'=>e= .returned (.tuple #[.int .i64 r1, .int .i64 r2])∧Drawn0 w w':=by
 have Bf:=Az.mk Bc
 have Bl:=Az.mk Bd
 clear Bc Bd
 have H:(fY.l0 k l0 a1 0)=some (r1,r2):=h
 clear h
 have H':=Az.mk H
 clear H
 go_enter Try.func37,Try.ntmps37
 go_wp2
 go_loopg [6] k (fun kq v6 w'=>∃(Aa:Int),v6= .int .i64 Aa∧Az (fY.l0 kq l0 a1 Aa=some (r1,r2))∧Az (kq≤k)∧Drawn0 w w')
 case atStart=>exact⟨(0),rq2,H',⟨Nat.le_refl _⟩,kd⟩
 clear H'
 obtain⟨Aa,rfl,HA,HK1,⟨m1,rfl⟩⟩:=hrel
 cases gk with
 |zero=>exact absurd HA.out (by simp[fY.l0])
 |succ k1=>
  have H:=HA.out
  clear HA
  simp only[fY.l0]at H
  by_cases c3:Aa<(l0.length:Int)
  rotate_left
  ·rw[ig c3]at H
   have Au:=decide_eq_false c3
   clear c3
   simp only[Option.some.injEq,Prod.mk.injEq]at H
   obtain⟨rfl,rfl⟩:=H
   go_wp2
   go_ret2
   exact⟨rq2,kd⟩
  rw[ip c3]at H
  have Au:=ode c3
  clear c3
  have H':=Az.mk H
  clear H
  go_wp2
  go_loopg [7] k1 (fun kq v7 w'=>∃(Ab:Int),v7= .int .i64 Ab∧Az (fY.l1 kq l0 a1 Aa Ab=some (r1,r2))∧Az (kq≤k1)∧Drawn0 w w')
  case atStart=>exact⟨(0),rq2,H',⟨Nat.le_refl _⟩,kd⟩
  clear H'
  try clear c3
  try clear Au
  obtain⟨Ab,rfl,HA,HK2,⟨m2,rfl⟩⟩:=hrel
  cases gk with
  |zero=>exact absurd HA.out (by simp[fY.l1])
  |succ k2=>
   have H:=HA.out
   clear HA
   simp only[fY.l1]at H
   by_cases c4:Ab<3
   rotate_left
   ·rw[ig c4]at H
    have Ay:=decide_eq_false c4
    clear c4
    have H':=Az.mk H
    clear H
    go_wp2
    go_roundg k2
    case measure=>have:=HK1.out;have:=HK2.out;omega
    case rel=>exact⟨(wrap64 (Aa+1)),rq2,H',⟨by have:=HK1.out;have:=HK2.out;omega⟩,kd⟩
   rw[ip c4]at H
   have Ay:=ode c4
   clear c4
   by_cases c5:0≤Aa
   rotate_left
   ·rw[ig c5]at H
    exact absurd H (by simp)
   rw[ip c5]at H
   have Bh:=ode c5
   clear c5
   by_cases c6:Aa<(l0.length:Int)
   rotate_left
   ·rw[ig c6]at H
    exact absurd H (by simp)
   rw[ip c6]at H
   have Bi:=ode c6
   clear c6
   by_cases c7:0≤Ab
   rotate_left
   ·rw[ig c7]at H
    exact absurd H (by simp)
   rw[ip c7]at H
   have Bj:=ode c7
   clear c7
   by_cases c8:Ab<((rd_L1 l0 Aa).length:Int)
   rotate_left
   ·rw[ig c8]at H
    exact absurd H (by simp)
   rw[ip c8]at H
   have Bk:=ode c8
   clear c8
   by_cases c9:(rd (rd_L1 l0 Aa) Ab)=a1
   ·rw[ip c9]at H
    have Ba:=beq_iff_eq.mpr c9
    have Bb:=bne_eq_false_iff_eq.mpr c9
    clear c9
    simp only[Option.some.injEq,Prod.mk.injEq]at H
    obtain⟨rfl,rfl⟩:=H
    have Af:0≤(Aa:Int):=od
    have Ag:Aa<(l0.length:Int):=od
    obtain⟨Av,Am,Ap,Aq,Aj,Ac,Ad⟩:=at_L1 Bf.out Aa Af Ag
    cases Aq
    have Ae:=Az.mk Ad
    have Ak:=Az.mk Ac
    clear Ad Ac
    replace Af:=ets Af
    replace Ag:=ets Ag
    have Ah:0≤(Ab:Int):=od
    have Ai:Ab<((rd_L1 l0 Aa).length:Int):=od
    obtain⟨Ax,As,Al⟩:=Kd.at_int Ae.out Ab Ah Ai
    cases As
    replace Ah:=ets Ah
    replace Ai:=ets Ai
    go_wp2
    go_ret2
    exact⟨rq2,kd⟩
   rw[ig c9]at H
   have Ba:=beq_eq_false_iff_ne.mpr c9
   have Bb:=bne_iff_ne.mpr c9
   have H':=Az.mk H
   clear H
   have Af:0≤(Aa:Int):=od
   have Ag:Aa<(l0.length:Int):=od
   obtain⟨Av,Am,Ap,Aq,Aj,Ac,Ad⟩:=at_L1 Bf.out Aa Af Ag
   cases Aq
   have Ae:=Az.mk Ad
   have Ak:=Az.mk Ac
   clear Ad Ac
   replace Af:=ets Af
   replace Ag:=ets Ag
   have Ah:0≤(Ab:Int):=od
   have Ai:Ab<((rd_L1 l0 Aa).length:Int):=od
   obtain⟨Ax,As,Al⟩:=Kd.at_int Ae.out Ab Ah Ai
   cases As
   replace Ah:=ets Ah
   replace Ai:=ets Ai
   go_wp2
   go_roundg k2
   case measure=>have:=HK1.out;have:=HK2.out;omega
   case rel=>exact⟨(wrap64 (Ab+1)),rq2,H',⟨by have:=HK1.out;have:=HK2.out;omega⟩,kd⟩
def jR.f (k:Nat) (l0:List (List Int)) (a1:Int):Option (Bool):=(fB.f k l0).bind fun t421=>(if t421=true then((gV.f a1 1 (wrap64 (Int.tdiv (wrap64 (3*(l0.length:Int))) 2))).bind fun t422=>(some t422)) else(some false))
theorem jR.calls (k:Nat) (A0:Option Addr) (c0:Nat) (l0:List (List Int)) (a1:Int) (r:Bool) (w:World) (Ae:Kd.C (Kd.slice 3 (Kd.int .i64)) w A0 l0.length l0) (Af:l0.length≤c0) (h:jR.f k l0 a1=some r):
  Calls Try.prog 47 #[.slice A0 l0.length c0, .int .i64 a1] w fun e w'=>e= .returned (.bool r)∧Below w.heap.size w w':=by
 have Ag:=Az.mk Ae
 have Ah:=Az.mk Af
 clear Ae Af
 have HB:=Az.mk (Below.refl w.heap.size w)
 have H:=h
 unfold jR.f at H
 clear h
 replace H:=bez H
 obtain⟨Ad,A3,H⟩:=H
 try dsimp only at H
 by_cases c4:Ad=true
 rotate_left
 ·replace c4:=Bool.eq_false_iff.mpr c4
  subst c4
  rw[ig ff]at H
  obtain rfl:=Option.some.inj H
  go_enter Try.func47,Try.ntmps47
  go_wp2_with (first|((with_reducible refine gtC (f:=28) rfl ?_);refine clz Try.func28 (some 6) #[.slice A0 l0.length c0] ?_;(with_reducible refine(fB.calls k _ _ l0 false _ ?Aa ?Ab A3.out).mono ?_);(case Aa=>exact kC Ag.out);(case Ab=>exact Ah.out);rintro e w7 ⟨rfl,hb⟩;refine⟨_,rfl,?_⟩;replace HB:=Az.mk (bwT bw_19 hb);(try clear hb)))
  go_ret
  exact⟨rq1,bw_19⟩
 subst c4
 rw[ip rfl]at H
 replace H:=bez H
 obtain⟨Ac,A5,H⟩:=H
 replace H:(some Ac)=some r:=H
 obtain rfl:=Option.some.inj H
 go_enter Try.func47,Try.ntmps47
 go_wp2_with (first|((with_reducible refine gtC (f:=28) rfl ?_);refine clz Try.func28 (some 6) #[.slice A0 l0.length c0] ?_;(with_reducible refine(fB.calls k _ _ l0 true _ ?Aa ?Ab A3.out).mono ?_);(case Aa=>exact kC Ag.out);(case Ab=>exact Ah.out);rintro e w6 ⟨rfl,hb⟩;refine⟨_,rfl,?_⟩;replace HB:=Az.mk (bwT bw_19 hb);(try clear hb))|(go_at_call 52;(with_reducible refine(gV.calls a1 1 (wrap64 (Int.tdiv (wrap64 (3*(l0.length:Int))) 2)) Ac _ A5.out).mono ?_);rintro e w' ⟨rfl,⟨nd,rfl⟩⟩))
 go_ret
 exact⟨rq1,bw_19⟩
def jM.f (k:Nat) (l0:List (List Int)) (a1:Int):Option (Bool):=(jR.f k l0 a1).bind fun t423=>(if t423=true then((fY.f k l0 a1).bind fun bt424=>((fY.f k l0 (wrap64 (-a1))).bind fun bt426=>(some (bt424.1 != bt426.1)))) else(some false))
theorem jM.calls (k:Nat) (A0:Option Addr) (c0:Nat) (l0:List (List Int)) (a1:Int) (r:Bool) (w:World) (Aj:Kd.C (Kd.slice 3 (Kd.int .i64)) w A0 l0.length l0) (Ak:l0.length≤c0) (h:jM.f k l0 a1=some r):
  Calls Try.prog 36 #[.slice A0 l0.length c0, .int .i64 a1] w fun e w'=>e= .returned (.bool r)∧Below w.heap.size w w':=by
 have Ac:=Az.mk Aj
 have Ad:=Az.mk Ak
 clear Aj Ak
 have HB:=Az.mk (Below.refl w.heap.size w)
 have H:=h
 unfold jM.f at H
 clear h
 replace H:=bez H
 obtain⟨Ae,A3,H⟩:=H
 try dsimp only at H
 by_cases c4:Ae=true
 rotate_left
 ·replace c4:=Bool.eq_false_iff.mpr c4
  subst c4
  rw[ig ff]at H
  obtain rfl:=Option.some.inj H
  go_enter Try.func36,Try.ntmps36
  go_wp2_with (first|((with_reducible refine gtC (f:=47) rfl ?_);refine clz Try.func47 (some 11) #[.slice A0 l0.length c0, .int .i64 a1] ?_;(with_reducible refine(jR.calls k _ _ l0 a1 false _ ?Aa ?Ab A3.out).mono ?_);(case Aa=>exact kC Ac.out);(case Ab=>exact Ad.out);rintro e w8 ⟨rfl,hb⟩;refine⟨_,rfl,?_⟩;replace HB:=Az.mk (bwT bw_19 hb);(try clear hb)))
  go_ret
  exact⟨rq1,bw_19⟩
 subst c4
 rw[ip rfl]at H
 replace H:=bez H
 obtain⟨⟨Af,Ag⟩,A5,H⟩:=H
 try dsimp only at H
 replace H:=bez H
 obtain⟨⟨Ah,Ai⟩,A6,H⟩:=H
 try dsimp only at H
 obtain rfl:=Option.some.inj H
 go_enter Try.func36,Try.ntmps36
 go_wp2_with (first|((with_reducible refine gtC (f:=47) rfl ?_);refine clz Try.func47 (some 11) #[.slice A0 l0.length c0, .int .i64 a1] ?_;(with_reducible refine(jR.calls k _ _ l0 a1 true _ ?Aa ?Ab A3.out).mono ?_);(case Aa=>exact kC Ac.out);(case Ab=>exact Ad.out);rintro e w7 ⟨rfl,hb⟩;refine⟨_,rfl,?_⟩;replace HB:=Az.mk (bwT bw_19 hb);(try clear hb))|((with_reducible refine gtC (f:=37) rfl ?_);refine clz Try.func37 (some 16) #[.slice A0 l0.length c0, .int .i64 a1] ?_;(with_reducible refine(fY.calls k _ _ l0 a1 Af Ag _ ?Aa ?Ab A5.out).mono ?_);(case Aa=>exact kC (Kd.C_below Ac.out HB.out));(case Ab=>exact Ad.out);rintro e w' ⟨rfl,⟨nd,rfl⟩⟩;refine⟨_,rfl,?_⟩)|((with_reducible refine gtC (f:=37) rfl ?_);refine clz Try.func37 (some 23) #[.slice A0 l0.length c0, .int .i64 (wrap64 (-a1))] ?_;(with_reducible refine(fY.calls k _ _ l0 (wrap64 (-a1)) Ah Ai _ ?Aa ?Ab A6.out).mono ?_);(case Aa=>exact kC (Kd.C_below Ac.out bw_19));(case Ab=>exact Ad.out);rintro e w' ⟨rfl,⟨nd,rfl⟩⟩;refine⟨_,rfl,?_⟩))
 go_ret
 exact⟨rq1,bw_19⟩
def gQ.l0:Nat→List (List Int)→List (List Int)→Int→Option ((List (List Int)))
 |0,_,_,_=>none
 |k+1,x0,x3,x4=>if x4<(x0.length:Int) then((some (([]:List Int):List Int)).bind fun y431=>(if 0≤x4 then(if y431.length+(rd_L1 x0 x4).length<17592186044416 then(if x3.length<5864062014805 then(gQ.l0 k x0 (x3 ++ [(y431 ++ (rd_L1 x0 x4))]) (wrap64 (x4+1))) else(none)) else(none)) else(none))) else(some x3)
def gQ.f (k:Nat) (l0:List (List Int)):Option ((List (List Int))):=gQ.l0 k l0 (([]:List (List Int))) 0
theorem gQ.calls (k:Nat) (A0:Option Addr) (c0:Nat) (l0:List (List Int)) (r:List (List Int)) (w:World) (Bn:Kd.C (Kd.slice 3 (Kd.int .i64)) w A0 l0.length l0) (Bo:l0.length≤c0) (h:gQ.f k l0=some r):
  Calls Try.prog 38 #[.slice A0 l0.length c0] w fun e w'=>∃v0_:Value,e= .returned (v0_)∧Kd.S (Kd.slice 3 (Kd.int .i64)) 25 w' w.heap.size (fun _=>True) v0_ r∧Below w.heap.size w w':=by
 have Bq:=Az.mk Bn
 have Bv:=Az.mk Bo
 clear Bn Bo
 have HB:=Az.mk (Below.refl w.heap.size w)
 have H:=h
 unfold gQ.f at H
 clear h
 obtain⟨As,hy⟩:∃y_:List (List Int),y_=(([]:List (List Int))):=⟨_,rfl⟩
 replace H:(gQ.l0 k l0 As 0)=some r:=rh
 have Aj:=Az.mk hy
 clear hy
 have H':=Az.mk H
 clear H
 go_enter Try.func38,Try.ntmps38
 go_wp2_with (first|((with_reducible refine gtD (N:=5) rfl ?_);refine Kd.S_lit (Kd.slice 3 (Kd.int .i64)) _ 25 ?hg (N:=5) ?hd (xs:=([]:List (List Int))) (inner:=[]) (ok:=fun _=>True) (okp:=fun _=>True) ?hr ?hp (fun _ hk=>hk) trivial (Below.refl _ _) (Nat.le_refl _) (by simp) ?_;(case hd=>rfl);(case hg=>rfl);(case hr=>first|(go_simp;done)|(go_simp;rfl));(case hp=>exact(Reps.none _ _));intro Br w2 Au hb hg_ hnew_;clear hg_ hnew_;(first|rw[←Aj.out]at Au|(simp only[Int.reduceToNat]at Au;rw[←Aj.out]at Au));have Av:=Az.mk (Kd.S_lower Au (bwZ bw_19));replace HB:=Az.mk (bwT bw_19 hb);clear hb Au))
 go_loopg [3,4] k (fun kq v3 v4 w'=>∃(Ab:List (List Int)) (Aa:Int),v4= .int .i64 Aa∧Az (gQ.l0 kq l0 Ab Aa=some r)∧Az (kq≤k)∧Az (Kd.S (Kd.slice 3 (Kd.int .i64)) 25 w' w.heap.size (fun _=>True) v3 Ab)∧Az (Below w.heap.size w w'))
 case atStart=>exact⟨(As),(0),rq2,H',⟨Nat.le_refl _⟩,⟨kS Av.out⟩,⟨bw_19⟩⟩
 clear H'
 obtain⟨Ab,Aa,rfl,HA,HK1,HO_3,HB⟩:=hrel
 cases gk with
 |zero=>exact absurd HA.out (by simp[gQ.l0])
 |succ k1=>
  have H:=HA.out
  clear HA
  simp only[gQ.l0]at H
  by_cases c4:Aa<(l0.length:Int)
  rotate_left
  ·rw[ig c4]at H
   have Bh:=decide_eq_false c4
   clear c4
   obtain rfl:=Option.some.inj H
   go_wp2
   go_ret
   exact⟨_,rq1,kS HO_3.out,bw_19⟩
  rw[ip c4]at H
  have Bh:=ode c4
  clear c4
  obtain⟨Ag,hy⟩:∃y_:List Int,y_=(([]:List Int)):=⟨_,rfl⟩
  replace H:(if 0≤Aa then(if Ag.length+(rd_L1 l0 Aa).length<17592186044416 then(if Ab.length<5864062014805 then(gQ.l0 k1 l0 (Ab ++ [(Ag ++ (rd_L1 l0 Aa))]) (wrap64 (Aa+1))) else(none)) else(none)) else(none))=some r:=rh
  have Ak:=Az.mk hy
  clear hy
  by_cases c5:0≤Aa
  rotate_left
  ·rw[ig c5]at H
   exact absurd H (by simp)
  rw[ip c5]at H
  have Bs:=ode c5
  clear c5
  by_cases c6:Ag.length+(rd_L1 l0 Aa).length<17592186044416
  rotate_left
  ·rw[ig c6]at H
   exact absurd H (by simp)
  rw[ip c6]at H
  have LMc6:=Az.mk c6
  clear c6
  obtain⟨Ah,hy⟩:∃y_:List Int,y_=(Ag ++ (rd_L1 l0 Aa)):=⟨_,rfl⟩
  replace H:(if Ab.length<5864062014805 then(gQ.l0 k1 l0 (Ab ++ [Ah]) (wrap64 (Aa+1))) else(none))=some r:=rh
  have Ax:=Az.mk hy
  clear hy
  by_cases c7:Ab.length<5864062014805
  rotate_left
  ·rw[ig c7]at H
   exact absurd H (by simp)
  rw[ip c7]at H
  have LMc7:=Az.mk c7
  clear c7
  obtain⟨Ay,hy⟩:∃y_:List (List Int),y_=(Ab ++ [Ah]):=⟨_,rfl⟩
  replace H:(gQ.l0 k1 l0 Ay (wrap64 (Aa+1)))=some r:=rh
  have Ba:=Az.mk hy
  clear hy
  have H':=Az.mk H
  clear H
  go_wp2_with (first|((with_reducible refine gtD (N:=13) rfl ?_);refine Kd.R_lit (Kd.int .i64) _ 3 ?hg (N:=13) ?hd (xs:=([]:List Int)) (inner:=[]) (ok:=fun _=>True) (okp:=fun _=>True) ?hr ?hp (fun _ hk=>hk) trivial (Below.refl _ _) (Nat.le_refl _) (by simp) ?_;(case hd=>rfl);(case hg=>rfl);(case hr=>first|(go_simp;done)|(go_simp;rfl));(case hp=>exact(Reps.none _ _));intro Bi w8 Aq hb hg_ hnew_;clear hg_ hnew_;(first|rw[←Ak.out]at Aq|(simp only[Int.reduceToNat]at Aq;rw[←Ak.out]at Aq));replace HO_3:=Az.mk (Kd.S_elder' (kS HO_3.out) (Kd.R_base Aq) hb);have Al:=Az.mk (Kd.R_lower Aq (bwZ bw_19));replace HB:=Az.mk (bwT bw_19 hb);clear hb Aq;have Am:0≤(Aa:Int):=od;have Ap:Aa<(l0.length:Int):=od;obtain⟨Bp,Bj,Bk,Bl,Ac,Ad,Ae⟩:=at_L1 Bq.out Aa Am Ap;cases Bl;replace Ac:=kc HB Ac;have Ai:=Az.mk Ae;have Bf:=Az.mk Ad;clear Ae Ad;replace Am:=ets Am;replace Ap:=ets Ap)|((with_reducible refine gate_builtin (b:= .append) (xs:= #[.tmp 13, .tmp 17]) rfl ?_);at_builtin;refine Kd.R_append_rows (Kd.int .i64) (w0:=w) w.heap.size rfl (.tmp 13) (.tmp 17) 25 3 (.int .i64 0) 8 rfl Try.underlying25 info3 rfl (by decide) (by omega) Bi Ag (rd_L1 l0 Aa) _ _ _ (fun _=>True) (fun _=>False) rfl rfl ?aO ?aR (fun _ _ h=>h) (fun _ h=>h.elim) ?aF ?aB ?aS ?aL ?_;(case aR=>exact kC (Kd.C_below Ai.out HB.out));(case aB=>exact bw_19);(case aF=>exact(fun _ _=>trivial));(case aO=>exact(kR Al.out));(case aS=>exact(bwZ bw_19));(case aL=>have:=LMc6.out;omega);intro Bt Bw ho hb hg hat;rw[←Ax.out]at ho;have n0_:=Az.mk (Kd.S_after (ok:=(fun _=>True)) (kS HO_3.out) hg hat);have n1_:=Az.mk (hb);have n2_:=Az.mk (ho);clear HO_3;clear HB;clear Al;have HO_3:=n0_;have HB:=n1_;have Af:=n2_;clear n0_ n1_ n2_;clear ho hb hg hat;obtain⟨Bb,Bc,Bm⟩:=Kd.R_slice Af.out;subst Bm)|((with_reducible refine gate_builtin (b:= .append) (xs:= #[.tmp 12, .tmp 19]) rfl ?_);at_builtin;refine Kd.S_append (Kd.slice 3 (Kd.int .i64)) (w0:=w) w.heap.size rfl (.tmp 12) (.tmp 19) 24 25 (.slice none 0 0) 24 rfl Try.underlying24 info25 rfl (by decide) (by omega) u3 Ab Ah [.slice Bb Ah.length Bc] (fun _=>True) (fun k_=>some k_=(.slice Bb Ah.length Bc:Value).ownBlock) rfl rfl ?aP (fun k_ hk_=>((Kd.R_mono (ok':=fun k_=>((fun _=>True)) k_∧some k_≠(u3:Value).ownBlock) (Kd.R_apart' (Af.out) (Kd.S_typed HO_3.out) (by decide)) (fun k_ hk=>⟨trivial,hk.2⟩))).1 k_ hk_.symm) ?aF ?aO ?aB ?aS ?aL ?_;(case aP=>exact Kd.M_row (Kd.R_mono (Kd.R_tight rfl (Kd.R_mono (ok':=fun k_=>((fun _=>True)) k_∧some k_≠(u3:Value).ownBlock) (Kd.R_apart' (Af.out) (Kd.S_typed HO_3.out) (by decide)) (fun k_ hk=>⟨trivial,hk.2⟩))) (fun _ h_=>h_)));(case aB=>exact bw_19);(case aF=>exact(fun _ _=>trivial));(case aO=>exact(by(with_reducible repeat(first|apply Kd.S_alloc|apply Kd.S_drewN|apply Kd.S_drew));exact Kd.S_mono HO_3.out (fun k_ hk=>⟨trivial,fun e_=>hk.2 e_⟩)));(case aS=>exact(bwZ bw_19));(case aL=>have:=LMc7.out;omega);intro Bu Bx ho hb hg hat;rw[←Ba.out]at ho;have n0_:=Az.mk (hb);have n1_:=Az.mk (ho);clear HB;clear HO_3;clear Af;have HB:=n0_;have Bd:=n1_;clear n0_ n1_;clear ho hb hg hat))
  go_roundg k1
  case measure=>have:=HK1.out;omega
  case rel=>exact⟨(Ay),(wrap64 (Aa+1)),rq2,H',⟨by have:=HK1.out;omega⟩,⟨kS Bd.out⟩,⟨bw_19⟩⟩
theorem bw_20 {n:Nat}{v v':World} (h:Below n v v':=by repeat(first|(with_reducible first|exact HB.out|apply bwA|apply pbN|apply bwD)|exact HB.out)):Below n v v':=h
theorem ln_20 {P:Prop} (h:P:=by(try simp only[List.map_toArray,List.map_cons,List.map_nil]);first|done|rfl|(simp only[List.length_drop,List.length_take];rfl)):P:=h
def jK.f (k:Nat) (l0:List (List Int)) (a1:Int):Option ((List (List Int)) × Bool):=(jM.f k l0 a1).bind fun t441=>(if t441=true then((fY.f k l0 a1).bind fun bt442=>((fY.f k l0 (wrap64 (-a1))).bind fun bt444=>(if 0≤bt442.1 then(if bt442.1<(l0.length:Int) then(if 0≤(Int.tmod (wrap64 (bt442.2+1)) 3) then(if(Int.tmod (wrap64 (bt442.2+1)) 3)<((rd_L1 l0 bt442.1).length:Int) then(if 0≤(Int.tmod (wrap64 (bt442.2+2)) 3) then(if(Int.tmod (wrap64 (bt442.2+2)) 3)<((rd_L1 l0 bt442.1).length:Int) then(if 0≤bt444.1 then(if bt444.1<(l0.length:Int) then(if 0≤(Int.tmod (wrap64 (bt444.2+1)) 3) then(if(Int.tmod (wrap64 (bt444.2+1)) 3)<((rd_L1 l0 bt444.1).length:Int) then(if 0≤(Int.tmod (wrap64 (bt444.2+2)) 3) then(if(Int.tmod (wrap64 (bt444.2+2)) 3)<((rd_L1 l0 bt444.1).length:Int) then((gQ.f k l0).bind fun t454=>(if bt442.1<(t454.length:Int) then(if bt444.1<(t454.length:Int) then(some (((t454.set (bt442.1:Int).toNat (([a1,rd (rd_L1 l0 bt442.1) (Int.tmod (wrap64 (bt442.2+2)) 3),rd (rd_L1 l0 bt444.1) (Int.tmod (wrap64 (bt444.2+1)) 3)]:List Int))).set (bt444.1:Int).toNat (([wrap64 (-a1),rd (rd_L1 l0 bt444.1) (Int.tmod (wrap64 (bt444.2+2)) 3),rd (rd_L1 l0 bt442.1) (Int.tmod (wrap64 (bt442.2+1)) 3)]:List Int))),true)) else(none)) else(none))) else(none)) else(none)) else(none)) else(none)) else(none)) else(none)) else(none)) else(none)) else(none)) else(none)) else(none)) else(none)))) else(some ((([]:List (List Int))),false)))
theorem jK.calls (k:Nat) (A0:Option Addr) (c0:Nat) (l0:List (List Int)) (a1:Int) (r1:List (List Int)) (r2:Bool) (w:World) (Hp:Kd.C (Kd.slice 3 (Kd.int .i64)) w A0 l0.length l0) (Hq:l0.length≤c0) (h:jK.f k l0 a1=some (r1,r2)):
  Calls Try.prog 7 #[.slice A0 l0.length c0, .int .i64 a1] w fun e w'=>∃v0_:Value,e= .returned (.tuple #[v0_, .bool r2])∧Kd.S (Kd.slice 3 (Kd.int .i64)) 25 w' w.heap.size (fun _=>True) v0_ r1∧Below w.heap.size w w':=by
 have Bu:=Az.mk Hp
 have Dt:=Az.mk Hq
 clear Hp Hq
 have HB:=Az.mk (Below.refl w.heap.size w)
 have H:=h
 unfold jK.f at H
 clear h
 replace H:=bez H
 obtain⟨Ge,A3,H⟩:=H
 try dsimp only at H
 by_cases c4:Ge=true
 rotate_left
 ·replace c4:=Bool.eq_false_iff.mpr c4
  subst c4
  rw[ig ff]at H
  obtain⟨Gf,hy⟩:∃y_:List (List Int),y_=(([]:List (List Int))):=⟨_,rfl⟩
  replace H:(some (Gf,false))=some (r1,r2):=rh
  have Ce:=Az.mk hy
  clear hy
  simp only[Option.some.injEq,Prod.mk.injEq]at H
  obtain⟨rfl,rfl⟩:=H
  go_enter Try.func7,Try.ntmps7
  go_wp2_with (first|((with_reducible refine gtC (f:=36) rfl ?_);refine clz Try.func36 (some 17) #[.slice A0 l0.length c0, .int .i64 a1] ?_;(with_reducible refine(jM.calls k _ _ l0 a1 false _ ?Ae ?Af A3.out).mono ?_);(case Ae=>exact kC Bu.out);(case Af=>exact Dt.out);rintro e Iv ⟨rfl,hb⟩;refine⟨_,rfl,?_⟩;replace HB:=Az.mk (bwT bw_20 hb);(try clear hb))|((with_reducible refine gtD (N:=19) rfl ?_);refine Kd.S_lit (Kd.slice 3 (Kd.int .i64)) _ 25 ?hg (N:=19) ?hd (xs:=([]:List (List Int))) (inner:=[]) (ok:=fun _=>True) (okp:=fun _=>True) ?hr ?hp (fun _ hk=>hk) trivial (Below.refl _ _) (Nat.le_refl _) (by simp) ?_;(case hd=>rfl);(case hg=>rfl);(case hr=>first|(go_simp;done)|(go_simp;rfl));(case hp=>exact(Reps.none _ _));intro Ij Iw Bs hb hg_ hnew_;clear hg_ hnew_;(first|rw[←Ce.out]at Bs|(simp only[Int.reduceToNat]at Bs;rw[←Ce.out]at Bs));have Du:=Az.mk (Kd.S_lower Bs (bwZ bw_20));replace HB:=Az.mk (bwT bw_20 hb);clear hb Bs))
  go_ret2
  exact⟨_,rq1,kS Du.out,bw_20⟩
 subst c4
 rw[ip rfl]at H
 replace H:=bez H
 obtain⟨⟨Ac,Cq⟩,A5,H⟩:=H
 try dsimp only at H
 replace H:=bez H
 obtain⟨⟨Ab,Cr⟩,A6,H⟩:=H
 try dsimp only at H
 by_cases c7:0≤Ac
 rotate_left
 ·rw[ig c7]at H
  exact absurd H (by simp)
 rw[ip c7]at H
 have Ik:=ode c7
 clear c7
 by_cases c8:Ac<(l0.length:Int)
 rotate_left
 ·rw[ig c8]at H
  exact absurd H (by simp)
 rw[ip c8]at H
 have Il:=ode c8
 clear c8
 obtain⟨Br,Bo⟩:∃j_:Int,(Int.tmod (wrap64 (Cq+1)) 3)=j_:=⟨_,rfl⟩
 first|rw[Bo]at H|simp only[Bo]at H
 (try rw[Bo]at A3)
 (try rw[Bo]at A5)
 (try rw[Bo]at A6)
 by_cases Em:0≤(Br)
 rotate_left
 ·rw[ig Em]at H
  exact absurd H (by simp)
 rw[ip Em]at H
 have Hr:=ode Em
 clear Em
 by_cases Eo:(Br)<((rd_L1 l0 Ac).length:Int)
 rotate_left
 ·rw[ig Eo]at H
  exact absurd H (by simp)
 rw[ip Eo]at H
 have Hs:=ode Eo
 clear Eo
 obtain⟨Ai,Ak⟩:∃j_:Int,(Int.tmod (wrap64 (Cq+2)) 3)=j_:=⟨_,rfl⟩
 first|rw[Ak]at H|simp only[Ak]at H
 (try rw[Ak]at A3)
 (try rw[Ak]at A5)
 (try rw[Ak]at A6)
 by_cases Ep:0≤(Ai)
 rotate_left
 ·rw[ig Ep]at H
  exact absurd H (by simp)
 rw[ip Ep]at H
 have Ht:=ode Ep
 clear Ep
 by_cases Er:(Ai)<((rd_L1 l0 Ac).length:Int)
 rotate_left
 ·rw[ig Er]at H
  exact absurd H (by simp)
 rw[ip Er]at H
 have Hu:=ode Er
 clear Er
 by_cases Es:0≤Ab
 rotate_left
 ·rw[ig Es]at H
  exact absurd H (by simp)
 rw[ip Es]at H
 have Hv:=ode Es
 clear Es
 by_cases Et:Ab<(l0.length:Int)
 rotate_left
 ·rw[ig Et]at H
  exact absurd H (by simp)
 rw[ip Et]at H
 have Hw:=ode Et
 clear Et
 obtain⟨Aj,Al⟩:∃j_:Int,(Int.tmod (wrap64 (Cr+1)) 3)=j_:=⟨_,rfl⟩
 first|rw[Al]at H|simp only[Al]at H
 (try rw[Al]at A3)
 (try rw[Al]at A5)
 (try rw[Al]at A6)
 by_cases Eu:0≤(Aj)
 rotate_left
 ·rw[ig Eu]at H
  exact absurd H (by simp)
 rw[ip Eu]at H
 have Hx:=ode Eu
 clear Eu
 by_cases Ev:(Aj)<((rd_L1 l0 Ab).length:Int)
 rotate_left
 ·rw[ig Ev]at H
  exact absurd H (by simp)
 rw[ip Ev]at H
 have Hy:=ode Ev
 clear Ev
 obtain⟨Ag,Am⟩:∃j_:Int,(Int.tmod (wrap64 (Cr+2)) 3)=j_:=⟨_,rfl⟩
 first|rw[Am]at H|simp only[Am]at H
 (try rw[Am]at A3)
 (try rw[Am]at A5)
 (try rw[Am]at A6)
 by_cases Ew:0≤(Ag)
 rotate_left
 ·rw[ig Ew]at H
  exact absurd H (by simp)
 rw[ip Ew]at H
 have Hz:=ode Ew
 clear Ew
 by_cases Ex:(Ag)<((rd_L1 l0 Ab).length:Int)
 rotate_left
 ·rw[ig Ex]at H
  exact absurd H (by simp)
 rw[ip Ex]at H
 have Ia:=ode Ex
 clear Ex
 replace H:=bez H
 obtain⟨Ad,Im,H⟩:=H
 try dsimp only at H
 obtain⟨Cs,hy⟩:∃y_:List Int,y_=(([a1,rd (rd_L1 l0 Ac) (Ai),rd (rd_L1 l0 Ab) (Aj)]:List Int)):=⟨_,rfl⟩
 replace H:(if Ac<(Ad.length:Int) then(if Ab<(Ad.length:Int) then(some (((Ad.set (Ac:Int).toNat Cs).set (Ab:Int).toNat (([wrap64 (-a1),rd (rd_L1 l0 Ab) (Ag),rd (rd_L1 l0 Ac) (Br)]:List Int))),true)) else(none)) else(none))=some (r1,r2):=rh
 have Cf:=Az.mk hy
 clear hy
 by_cases Ey:Ac<(Ad.length:Int)
 rotate_left
 ·rw[ig Ey]at H
  exact absurd H (by simp)
 rw[ip Ey]at H
 have Ib:=ode Ey
 clear Ey
 obtain⟨Bt,hy⟩:∃y_:List (List Int),y_=(Ad.set (Ac:Int).toNat Cs):=⟨_,rfl⟩
 replace H:(if Ab<(Ad.length:Int) then(some ((Bt.set (Ab:Int).toNat (([wrap64 (-a1),rd (rd_L1 l0 Ab) (Ag),rd (rd_L1 l0 Ac) (Br)]:List Int))),true)) else(none))=some (r1,r2):=rh
 have Dv:=Az.mk hy
 clear hy
 obtain⟨Ct,hy⟩:∃y_:List Int,y_=(([wrap64 (-a1),rd (rd_L1 l0 Ab) (Ag),rd (rd_L1 l0 Ac) (Br)]:List Int)):=⟨_,rfl⟩
 replace H:(if Ab<(Ad.length:Int) then(some ((Bt.set (Ab:Int).toNat Ct),true)) else(none))=some (r1,r2):=rh
 have Cg:=Az.mk hy
 clear hy
 by_cases Ez:Ab<(Ad.length:Int)
 rotate_left
 ·rw[ig Ez]at H
  exact absurd H (by simp)
 rw[ip Ez]at H
 have Ic:=ode Ez
 clear Ez
 obtain⟨Dw,hy⟩:∃y_:List (List Int),y_=(Bt.set (Ab:Int).toNat Ct):=⟨_,rfl⟩
 replace H:(some (Dw,true))=some (r1,r2):=rh
 have Dx:=Az.mk hy
 clear hy
 simp only[Option.some.injEq,Prod.mk.injEq]at H
 obtain⟨rfl,rfl⟩:=H
 go_enter Try.func7,Try.ntmps7
 go_wp2_with (first|((with_reducible refine gtC (f:=36) rfl ?_);refine clz Try.func36 (some 17) #[.slice A0 l0.length c0, .int .i64 a1] ?_;(with_reducible refine(jM.calls k _ _ l0 a1 true _ ?Ae ?Af A3.out).mono ?_);(case Ae=>exact kC Bu.out);(case Af=>exact Dt.out);rintro e Ch ⟨rfl,hb⟩;refine⟨_,rfl,?_⟩;replace HB:=Az.mk (bwT bw_20 hb);(try clear hb))|((with_reducible refine gtC (f:=37) rfl ?_);refine clz Try.func37 (some 23) #[.slice A0 l0.length c0, .int .i64 a1] ?_;(with_reducible refine(fY.calls k _ _ l0 a1 Ac Cq _ ?Ae ?Af A5.out).mono ?_);(case Ae=>exact kC (Kd.C_below Bu.out HB.out));(case Af=>exact Dt.out);rintro e w' ⟨rfl,⟨nd,rfl⟩⟩;refine⟨_,rfl,?_⟩;(try(rw[drewN_self Ch];generalize hq_:World.drewN Ch _=Ch;have n0_:Az (Below w.heap.size w Ch):=⟨by rw[←hq_];exact bw_20⟩;clear HB hq_;have HB:=n0_;clear n0_)))|((with_reducible refine gtC (f:=37) rfl ?_);refine clz Try.func37 (some 30) #[.slice A0 l0.length c0, .int .i64 (wrap64 (-a1))] ?_;(with_reducible refine(fY.calls k _ _ l0 (wrap64 (-a1)) Ab Cr _ ?Ae ?Af A6.out).mono ?_);(case Ae=>exact kC (Kd.C_below Bu.out HB.out));(case Af=>exact Dt.out);rintro e w' ⟨rfl,⟨nd,rfl⟩⟩;refine⟨_,rfl,?_⟩;(try(rw[drewN_self Ch];generalize hq_:World.drewN Ch _=Ch;have n0_:Az (Below w.heap.size w Ch):=⟨by rw[←hq_];exact bw_20⟩;clear HB hq_;have HB:=n0_;clear n0_));have Cu:0≤(Ac:Int):=od;have Cv:Ac<(l0.length:Int):=od;obtain⟨Ax,Gg,Gh,Gi,Ap,Ay,Ba⟩:=at_L1 Bu.out Ac Cu Cv;cases Gi;replace Ap:=kc HB Ap;have Bv:=Az.mk Ba;have Ga:=Az.mk Ay;clear Ba Ay;replace Cu:=ets Cu;replace Cv:=ets Cv;have Cw:0≤((Br):Int):=od;have Cy:(Br)<((rd_L1 l0 Ac).length:Int):=od;obtain⟨Id,Gj,Bb⟩:=Kd.at_int Bv.out (Br) Cw Cy;cases Gj;replace Bb:=kc HB Bb;replace Cw:=ets Cw;replace Cy:=ets Cy;have Cz:0≤(Ac:Int):=od;have Da:Ac<(l0.length:Int):=od;obtain⟨Dy,Gk,Gl,Gm,Aq,Bc,Bd⟩:=at_L1 Bu.out Ac Cz Da;obtain rfl:Ax=Dy:=(by injection Gm);replace Aq:=kc HB Aq;have Bw:=Az.mk Bd;have Gb:=Az.mk Bc;clear Bd Bc;replace Cz:=ets Cz;replace Da:=ets Da;have ea_:=Option.some.inj (Ap.symm.trans Aq);injection ea_ with ea_ en_ ec_;subst ea_;subst ec_;clear en_;have Db:0≤((Ai):Int):=od;have Dc:(Ai)<((rd_L1 l0 Ac).length:Int):=od;obtain⟨Ie,Gn,Bf⟩:=Kd.at_int Bw.out (Ai) Db Dc;cases Gn;replace Bf:=kc HB Bf;replace Db:=ets Db;replace Dc:=ets Dc;have Dd:0≤(Ab:Int):=od;have De:Ab<(l0.length:Int):=od;obtain⟨Dz,Gp,Gq,Gr,As,Bh,Bi⟩:=at_L1 Bu.out Ab Dd De;obtain rfl:Ax=Dz:=(by injection Gr);replace As:=kc HB As;have Bx:=Az.mk Bi;have Gc:=Az.mk Bh;clear Bi Bh;replace Dd:=ets Dd;replace De:=ets De;have Df:0≤((Aj):Int):=od;have Dg:(Aj)<((rd_L1 l0 Ab).length:Int):=od;obtain⟨Ig,Gs,Bj⟩:=Kd.at_int Bx.out (Aj) Df Dg;cases Gs;replace Bj:=kc HB Bj;replace Df:=ets Df;replace Dg:=ets Dg;have Dh:0≤(Ab:Int):=od;have Di:Ab<(l0.length:Int):=od;obtain⟨Ea,Gt,Gu,Gv,Au,Bk,Bl⟩:=at_L1 Bu.out Ab Dh Di;obtain rfl:Ax=Ea:=(by injection Gv);replace Au:=kc HB Au;have By:=Az.mk Bl;have Gd:=Az.mk Bk;clear Bl Bk;replace Dh:=ets Dh;replace Di:=ets Di;have ea_:=Option.some.inj (As.symm.trans Au);injection ea_ with ea_ en_ ec_;subst ea_;subst ec_;clear en_;have Dj:0≤((Ag):Int):=od;have Dk:(Ag)<((rd_L1 l0 Ab).length:Int):=od;obtain⟨Ih,Gw,Bm⟩:=Kd.at_int By.out (Ag) Dj Dk;cases Gw;replace Bm:=kc HB Bm;replace Dj:=ets Dj;replace Dk:=ets Dk)|((with_reducible refine gtC (f:=38) rfl ?_);refine clz Try.func38 (some 70) #[.slice (some Ax) l0.length c0] ?_;(with_reducible refine(gQ.calls k _ _ l0 Ad _ ?Ae ?Af Im.out).mono ?_);(case Ae=>exact kC (Kd.C_below Bu.out HB.out));(case Af=>exact Dt.out);rintro e Ix ⟨In,rfl,Ii,hb⟩;refine⟨_,rfl,?_⟩;have Aa:=Az.mk (Kd.S_lower Ii (bwZ bw_20));replace HB:=Az.mk (bwT bw_20 hb);(try clear hb);(try clear Ii))|((with_reducible refine gtD (N:=76) rfl ?_);refine Kd.R_lit (Kd.int .i64) _ 3 ?hg (N:=76) ?hd (xs:=([a1,rd (rd_L1 l0 Ac) (Ai),rd (rd_L1 l0 Ab) (Aj)]:List Int)) (inner:=[.int .i64 a1, .int .i64 (rd (rd_L1 l0 Ac) (Ai)), .int .i64 (rd (rd_L1 l0 Ab) (Aj))]) (ok:=fun _=>True) (okp:=fun _=>True) ?hr ?hp (fun _ hk=>hk) trivial (Below.refl _ _) (Nat.le_refl _) (by simp) ?_;(case hd=>rfl);(case hg=>rfl);(case hr=>first|(go_simp;done)|(go_simp;rfl));(case hp=>exact(Reps.one (show Kd.M (Kd.int .i64) _ _ _ a1 [.int .i64 a1]from rfl) (Reps.one (show Kd.M (Kd.int .i64) _ _ _ (rd (rd_L1 l0 Ac) (Ai)) [.int .i64 (rd (rd_L1 l0 Ac) (Ai))]from rfl) (Reps.one (show Kd.M (Kd.int .i64) _ _ _ (rd (rd_L1 l0 Ab) (Aj)) [.int .i64 (rd (rd_L1 l0 Ab) (Aj))]from rfl) (Reps.none _ _)))));intro Bz Gx Bp hb hg_ hnew_;clear hg_ hnew_;(first|rw[←Cf.out]at Bp|(simp only[Int.reduceToNat]at Bp;rw[←Cf.out]at Bp));replace Aa:=Az.mk (Kd.S_elder' (kS Aa.out) (Kd.R_base Bp) hb);have Av:=Az.mk (Kd.R_lower Bp (bwZ bw_20));replace HB:=Az.mk (bwT bw_20 hb);clear hb Bp;have Gy:0≤(Ac:Int):=od;have Gz:(Ac:Int)<((Ad.length:Int):Int):=od;obtain⟨Ah,Ca,Eb,Ec,gl25,Io,HG25⟩:=Kd.S_form Aa.out (by omega);(first|cases Eb|(injection Eb with ea_ en_ ec_;(first|subst ea_|(injection ea_ with ea_;subst ea_));subst ec_;clear en_));have Ed:=Az.mk Ec;have Ip:=Az.mk HG25;clear Ec gl25 HG25;obtain⟨_,Iq,Ee,Ef,Ci,Cj,_,_⟩:=Kd.S_elem Aa.out [] (Ac:Int) Gy Gz;obtain⟨Ha,rfl,Hb⟩:=Ef;have Dl:=Ci 0 _ rfl;have Dm:=Cj 0;(try simp only[show((Kd.slice 3 (Kd.int .i64))).sz=1 from rfl,Nat.mul_one,Nat.add_zero]at Dl);(try simp only[show((Kd.slice 3 (Kd.int .i64))).sz=1 from rfl,Nat.mul_one,Nat.add_zero]at Dm);(try clear Ee);(try clear Ci);(try clear Cj);(try clear Ef);replace Gy:=ets Gy;replace Gz:=ets Gz;have n_:=Az.mk (Kd.S_mono (ok':=(fun k_=>some k_≠(Bz:Value).ownBlock)) Aa.out (fun k_ hk=>hk.2));clear Aa;have Aa:=n_;clear n_;have Hc:=Az.mk (show Kd.S (Kd.slice 3 (Kd.int .i64)) 25 Gx w.heap.size (fun k_=>((fun _=>True)) k_∧¬((fun k_=>some k_=(Bz:Value).ownBlock)) k_) (.slice (some ⟨Ah,0,none⟩) Ad.length Ca) Ad from(by(with_reducible repeat(first|apply Kd.S_alloc|apply Kd.S_drewN|apply Kd.S_drew));exact Kd.S_mono Aa.out (fun k_ hk=>⟨trivial,fun e_=>hk e_⟩)));obtain⟨oki32,Ir,Eg,Eh,Ck,Cl,hoki32,hH32⟩:=Kd.S_elem Hc.out [] (Ac:Int) (od) (by have h_:(Ac:Int)<((Ad.length:Int):Int):=od;first|exact h_|(have e_:=(Kd.S_reads' Aa.out).1;omega)|simpa using h_);obtain⟨Hd,rfl,He⟩:=Eh;have Cb:=Kd.S_seg hH32 (od) (by have h_:(Ac:Int)<((Ad.length:Int):Int):=od;first|exact h_|(have e_:=(Kd.S_reads' Aa.out).1;omega)|simpa using h_) (seg:=[Bz]) (j:=0) (show 1≤1 from by decide) (x':=Cs) (Kd.M_row (Kd.R_mono (Kd.R_tight rfl (Kd.R_mono (ok':=fun k_=>((fun _=>True)) k_∧k_≠Ah) (Kd.R_apart' (Av.out) (Kd.S_typed Aa.out) (by decide)) (fun k_ hk=>⟨trivial,fun e_=>(hk.2) (by rw[e_];rfl)⟩))) (fun _ h_=>Or.inr (h_)))) (fun _ hk=>hk) (fun k_ hk_=>((Kd.R_mono (ok':=fun k_=>((fun _=>True)) k_∧k_≠Ah) (Kd.R_apart' (Av.out) (Kd.S_typed Aa.out) (by decide)) (fun k_ hk=>⟨trivial,fun e_=>(hk.2) (by rw[e_];rfl)⟩))).1 k_ hk_.symm);have Dn:=Ck 0 _ rfl;(try simp only[show((Kd.slice 3 (Kd.int .i64))).sz=1 from rfl,Nat.mul_one,Nat.add_zero]at Dn);have Do:=Cl 0;(try simp only[show((Kd.slice 3 (Kd.int .i64))).sz=1 from rfl,Nat.mul_one,Nat.add_zero]at Do);(try clear Eg);(try clear Ck);(try clear Cl);(try clear Eh);(try clear hoki32);(try clear hH32);(try simp only[show((Kd.slice 3 (Kd.int .i64))).sz=1 from rfl,Nat.mul_one,Nat.add_zero]at Cb))|((with_reducible refine gate_store (t:=25) (p:=77) rfl ?_);refine store_event (t:=25) (p:=77) (v:=?vo_w33) (w1:=(Gx.setCell ⟨Ah,(Ac:Int).toNat,none⟩ (Bz))) ?hg ?ho ?hn ?hr ?_;(case ho=>rfl);(case hg=>rfl);(case hn=>rfl);(case hr=>first|(go_simp;done)|(go_simp;rfl)|(obtain⟨Av_,cv_,ev_⟩:=Kd.R_slice Av.out;subst ev_;first|(go_simp;done)|(go_simp;rfl)));intro Hf hw;have hg:Gx.grownBy Hf (some Ah):=(by rw[hw];exact Cb.2);have hp_:Kd.S (Kd.slice 3 (Kd.int .i64)) 25 Hf w.heap.size (fun _=>True) (.slice (some ⟨Ah,0,none⟩) Ad.length Ca) Bt:=(by rw[hw,Dv.out];exact Cb.1);clear Cb;have n0_:=Az.mk (hp_);have n1_:=Az.mk ((by rw[hw];exact bwS (HB.out) Ed.out:Below w.heap.size w Hf));clear Aa;clear HB;clear Av;have Aa:=n0_;have HB:=n1_;clear n0_ n1_;clear hg hw hp_)|((with_reducible refine gtD (N:=84) rfl ?_);refine Kd.R_lit (Kd.int .i64) _ 3 ?hg (N:=84) ?hd (xs:=([wrap64 (-a1),rd (rd_L1 l0 Ab) (Ag),rd (rd_L1 l0 Ac) (Br)]:List Int)) (inner:=[.int .i64 (wrap64 (-a1)), .int .i64 (rd (rd_L1 l0 Ab) (Ag)), .int .i64 (rd (rd_L1 l0 Ac) (Br))]) (ok:=fun _=>True) (okp:=fun _=>True) ?hr ?hp (fun _ hk=>hk) trivial (Below.refl _ _) (Nat.le_refl _) (by simp) ?_;(case hd=>rfl);(case hg=>rfl);(case hr=>first|(go_simp;done)|(go_simp;rfl)|(obtain⟨Av_,cv_,ev_⟩:=Kd.R_slice Av.out;subst ev_;first|(go_simp;done)|(go_simp;rfl)));(case hp=>exact(Reps.one (show Kd.M (Kd.int .i64) _ _ _ (wrap64 (-a1)) [.int .i64 (wrap64 (-a1))]from rfl) (Reps.one (show Kd.M (Kd.int .i64) _ _ _ (rd (rd_L1 l0 Ab) (Ag)) [.int .i64 (rd (rd_L1 l0 Ab) (Ag))]from rfl) (Reps.one (show Kd.M (Kd.int .i64) _ _ _ (rd (rd_L1 l0 Ac) (Br)) [.int .i64 (rd (rd_L1 l0 Ac) (Br))]from rfl) (Reps.none _ _)))));intro Cc Hg Bq hb hg_ hnew_;clear hg_ hnew_;(first|rw[←Cg.out]at Bq|(simp only[Int.reduceToNat]at Bq;rw[←Cg.out]at Bq));replace Aa:=Az.mk (Kd.S_elder' (kS Aa.out) (Kd.R_base Bq) hb);have Bn:=Az.mk (Kd.R_lower Bq (bwZ bw_20));replace HB:=Az.mk (bwT bw_20 hb);clear hb Bq;have Hh:0≤(Ab:Int):=od;have Hi:(Ab:Int)<((Ad.length:Int):Int):=od;obtain⟨_,It,Ei,Ej,Cm,Cn,_,_⟩:=Kd.S_elem Aa.out [] (Ab:Int) Hh Hi;obtain⟨Hj,rfl,Hk⟩:=Ej;have Dp:=Cm 0 _ rfl;have Dq:=Cn 0;(try simp only[show((Kd.slice 3 (Kd.int .i64))).sz=1 from rfl,Nat.mul_one,Nat.add_zero]at Dp);(try simp only[show((Kd.slice 3 (Kd.int .i64))).sz=1 from rfl,Nat.mul_one,Nat.add_zero]at Dq);(try clear Ei);(try clear Cm);(try clear Cn);(try clear Ej);replace Hh:=ets Hh;replace Hi:=ets Hi;have n_:=Az.mk (Kd.S_mono (ok':=(fun k_=>some k_≠(Cc:Value).ownBlock)) Aa.out (fun k_ hk=>hk.2));clear Aa;have Aa:=n_;clear n_;have Hl:=Az.mk (show Kd.S (Kd.slice 3 (Kd.int .i64)) 25 Hg w.heap.size (fun k_=>((fun _=>True)) k_∧¬((fun k_=>some k_=(Cc:Value).ownBlock)) k_) (.slice (some ⟨Ah,0,none⟩) Ad.length Ca) Bt from(by(with_reducible repeat(first|apply Kd.S_alloc|apply Kd.S_drewN|apply Kd.S_drew));exact Kd.S_mono Aa.out (fun k_ hk=>⟨trivial,fun e_=>hk e_⟩)));obtain⟨oki36,Iu,Ek,El,Co,Cp,hoki36,hH36⟩:=Kd.S_elem Hl.out [] (Ab:Int) (od) (by have h_:(Ab:Int)<((Ad.length:Int):Int):=od;first|exact h_|(have e_:=(Kd.S_reads' Aa.out).1;omega)|simpa using h_);obtain⟨Hm,rfl,Hn⟩:=El;have Cd:=Kd.S_seg hH36 (od) (by have h_:(Ab:Int)<((Ad.length:Int):Int):=od;first|exact h_|(have e_:=(Kd.S_reads' Aa.out).1;omega)|simpa using h_) (seg:=[Cc]) (j:=0) (show 1≤1 from by decide) (x':=Ct) (Kd.M_row (Kd.R_mono (Kd.R_tight rfl (Kd.R_mono (ok':=fun k_=>((fun _=>True)) k_∧k_≠Ah) (Kd.R_apart' (Bn.out) (Kd.S_typed Aa.out) (by decide)) (fun k_ hk=>⟨trivial,fun e_=>(hk.2) (by rw[e_];rfl)⟩))) (fun _ h_=>Or.inr (h_)))) (fun _ hk=>hk) (fun k_ hk_=>((Kd.R_mono (ok':=fun k_=>((fun _=>True)) k_∧k_≠Ah) (Kd.R_apart' (Bn.out) (Kd.S_typed Aa.out) (by decide)) (fun k_ hk=>⟨trivial,fun e_=>(hk.2) (by rw[e_];rfl)⟩))).1 k_ hk_.symm);have Dr:=Co 0 _ rfl;(try simp only[show((Kd.slice 3 (Kd.int .i64))).sz=1 from rfl,Nat.mul_one,Nat.add_zero]at Dr);have Ds:=Cp 0;(try simp only[show((Kd.slice 3 (Kd.int .i64))).sz=1 from rfl,Nat.mul_one,Nat.add_zero]at Ds);(try clear Ek);(try clear Co);(try clear Cp);(try clear El);(try clear hoki36);(try clear hH36);(try simp only[show((Kd.slice 3 (Kd.int .i64))).sz=1 from rfl,Nat.mul_one,Nat.add_zero]at Cd))|((with_reducible refine gate_store (t:=25) (p:=85) rfl ?_);refine store_event (t:=25) (p:=85) (v:=?vo_w37) (w1:=(Hg.setCell ⟨Ah,(Ab:Int).toNat,none⟩ (Cc))) ?hg ?ho ?hn ?hr ?_;(case ho=>rfl);(case hg=>rfl);(case hn=>rfl);(case hr=>first|(go_simp;done)|(go_simp;rfl)|(obtain⟨Av_,cv_,ev_⟩:=Kd.R_slice Bn.out;subst ev_;first|(go_simp;done)|(go_simp;rfl)));intro Ho hw;have hg:Hg.grownBy Ho (some Ah):=(by rw[hw];exact Cd.2);have hp_:Kd.S (Kd.slice 3 (Kd.int .i64)) 25 Ho w.heap.size (fun _=>True) (.slice (some ⟨Ah,0,none⟩) Ad.length Ca) Dw:=(by rw[hw,Dx.out];exact Cd.1);clear Cd;have n0_:=Az.mk (hp_);have n1_:=Az.mk ((by rw[hw];exact bwS (HB.out) Ed.out:Below w.heap.size w Ho));clear Aa;clear HB;clear Bn;have Aa:=n0_;have HB:=n1_;clear n0_ n1_;clear hg hw hp_))
 go_ret2
 exact⟨_,by first|rfl|(simp[eWn,eWs] <;> rfl)|(simp only[←Bo, ←Ak, ←Al, ←Am];first|rfl|(simp[eWn,eWs] <;> rfl))|(simp[*,eWn,eWs] <;> rfl),kS Aa.out,bw_20⟩
def gS.f (a0:Int):Option (Int):=some (mx a0 (wrap64 (-a0)))
theorem gS.calls (a0:Int) (r:Int) (w:World) (h:gS.f a0=some r):
  Calls Try.prog 41 #[.int .i64 a0] w fun e w'=>e= .returned (.int .i64 r)∧Below w.heap.size w w':=by
 have HB:=Az.mk (Below.refl w.heap.size w)
 have H:(some (mx a0 (wrap64 (-a0))))=some r:=h
 clear h
 obtain⟨Ab,Aa⟩:∃j_:Int,(mx a0 (wrap64 (-a0)))=j_:=⟨_,rfl⟩
 replace H:(some Ab)=some r:=by first|(rw[Aa]at H;exact H)|(simp only[Aa]at H ⊢;exact H)
 have hji2_:(if a0<(wrap64 (-a0)) then(wrap64 (-a0))else a0)=Ab:=Aa
 obtain rfl:=Option.some.inj H
 go_enter Try.func41,Try.ntmps41
 go_wp2
 go_ret
 exact⟨by first|rfl|(simp[eWn,eWs] <;> rfl)|(simp only[←Aa];first|rfl|(simp[eWn,eWs] <;> rfl))|(simp[*,eWn,eWs] <;> rfl),bw_20⟩
def gD.l0:Nat→List Int→Int→Int→Option (Bool)
 |0,_,_,_=>none
 |k+1,x5,x6,x7=>if x7<x6 then(if 0≤x7 then(if x7<(x5.length:Int) then((gY.f (rd x5 x7) 0 200).bind fun t469=>(if t469=true then(gD.l0 k x5 x6 (wrap64 (x7+1))) else(some false))) else(none)) else(none)) else(some true)
def gD.f (k:Nat) (l0:List Int):Option (Bool):=gD.l0 k l0 (l0.length:Int) 0
theorem gD.calls (k:Nat) (A0:Option Addr) (c0:Nat) (l0:List Int) (r:Bool) (w:World) (Ai:Kd.C (Kd.int .i64) w A0 l0.length l0) (Aj:l0.length≤c0) (h:gD.f k l0=some r):
  Calls Try.prog 51 #[.slice A0 l0.length c0] w fun e w'=>e= .returned (.bool r)∧Drawn0 w w':=by
 have Ak:=Az.mk Ai
 have Ap:=Az.mk Aj
 clear Ai Aj
 have H:=h
 unfold gD.f at H
 clear h
 have H':=Az.mk H
 clear H
 go_enter Try.func51,Try.ntmps51
 go_wp2
 go_loopg [7] k (fun kq v7 w'=>∃(Aa:Int),v7= .int .i64 Aa∧Az (gD.l0 kq l0 (l0.length:Int) Aa=some r)∧Az (kq≤k)∧Drawn0 w w')
 case atStart=>exact⟨(0),rq2,H',⟨Nat.le_refl _⟩,kd⟩
 clear H'
 obtain⟨Aa,rfl,HA,HK1,⟨m1,rfl⟩⟩:=hrel
 cases gk with
 |zero=>exact absurd HA.out (by simp[gD.l0])
 |succ k1=>
  have H:=HA.out
  clear HA
  simp only[gD.l0]at H
  by_cases c2:Aa<(l0.length:Int)
  rotate_left
  ·rw[ig c2]at H
   have Ag:=decide_eq_false c2
   clear c2
   obtain rfl:=Option.some.inj H
   go_wp2
   go_ret
   exact⟨rq2,kd⟩
  rw[ip c2]at H
  have Ag:=ode c2
  clear c2
  by_cases c3:0≤Aa
  rotate_left
  ·rw[ig c3]at H
   exact absurd H (by simp)
  rw[ip c3]at H
  have Al:=ode c3
  clear c3
  by_cases c4:Aa<(l0.length:Int)
  rotate_left
  ·rw[ig c4]at H
   exact absurd H (by simp)
  rw[ip c4]at H
  have Am:=ode c4
  clear c4
  replace H:=bez H
  obtain⟨Ah,A5,H⟩:=H
  try dsimp only at H
  by_cases c6:Ah=true
  rotate_left
  ·replace c6:=Bool.eq_false_iff.mpr c6
   subst c6
   rw[ig ff]at H
   obtain rfl:=Option.some.inj H
   have Ab:0≤(Aa:Int):=od
   have Ac:Aa<(l0.length:Int):=od
   obtain⟨Af,Ae,Ad⟩:=Kd.at_int Ak.out Aa Ab Ac
   cases Ae
   replace Ab:=ets Ab
   replace Ac:=ets Ac
   go_wp2_with (first|((with_reducible refine gtC (f:=46) rfl ?_);refine clz Try.func46 (some 12) #[.int .i64 (rd l0 Aa), .int .i64 0, .int .i64 200] ?_;(with_reducible refine(gY.calls (rd l0 Aa) 0 200 false _ A5.out).mono ?_);rintro e w' ⟨rfl,⟨nd,rfl⟩⟩;refine⟨_,rfl,?_⟩))
   go_ret
   exact⟨rq2,kd⟩
  subst c6
  rw[ip rfl]at H
  have H':=Az.mk H
  clear H
  have Ab:0≤(Aa:Int):=od
  have Ac:Aa<(l0.length:Int):=od
  obtain⟨Af,Ae,Ad⟩:=Kd.at_int Ak.out Aa Ab Ac
  cases Ae
  replace Ab:=ets Ab
  replace Ac:=ets Ac
  go_wp2_with (first|((with_reducible refine gtC (f:=46) rfl ?_);refine clz Try.func46 (some 12) #[.int .i64 (rd l0 Aa), .int .i64 0, .int .i64 200] ?_;(with_reducible refine(gY.calls (rd l0 Aa) 0 200 true _ A5.out).mono ?_);rintro e w' ⟨rfl,⟨nd,rfl⟩⟩;refine⟨_,rfl,?_⟩))
  go_roundg k1
  case measure=>have:=HK1.out;omega
  case rel=>exact⟨(wrap64 (Aa+1)),rq2,H',⟨by have:=HK1.out;omega⟩,kd⟩
end Go.Proofs.Ytemeiocmgbgikaa.P
