-- The walks, cut and laid together by this session's tools (prune.py, sq2.py, min.py: shorter names, no needless spaces). Not trusted: Lean checks it.
import Derived.Test.YtbpnjlemjapnnaaKWZip
import Derived.Test.YtbpnjlemjapnnaaKPx26
namespace Go.Proofs.Ytbpnjlemjapnnaa.P
open Go.RowKit Go.Proofs.YtbpnjlemjapnnaaW.PrintWords Go.Proofs.YtbpnjlemjapnnaaW.PrintLast Go.Proofs.YtbpnjlemjapnnaaW.PrintMore
attribute [local go_sem] max2_int min2_int max_two min_two max_three min_three max_four min_four   -- for this text's walks alone
set_option linter.unusedVariables false
set_option linter.unusedSimpArgs false
set_option maxHeartbeats 8000000
set_option maxRecDepth 100000
open Option renaming bind_eq_some_iff → be
section
open Bool renaming true → T, false → F
theorem bw_32 {n:Nat}{v v':World} (h:Below n v v':=by repeat(first|(with_reducible first|exact HB.out|apply bwA|apply pbN|apply bwD|refine bwS ?_ GB21.out)|exact HB.out)):Below n v v':=h
theorem ln_32 {P:Prop} (h:P:=by(try simp only[List.map_toArray,List.map_cons,List.map_nil]);first|done|rfl|(simp only[List.length_drop,List.length_take];rfl)):P:=h
mutual
def fJ.l0:Nat→List (List Int)→List Int→Option (List Int × Bool)
 |0,_,_=>none
 |k+1,x0,x6=>(fK.f k x0 x6).bind fun bt582=>(if bt582.1<0 then(some (x6,true)) else((gL.f k x0 bt582.1 bt582.2).bind fun t584=>(fJ.l1 k x0 x6 t584 0)))
def fJ.l1:Nat→List (List Int)→List Int→List Int→Int→Option (List Int × Bool)
 |0,_,_,_,_=>none
 |k+1,x0,x6,x9,x10=>if x10<(x6.length:Int) then(if 0≤x10 then(if x10<(x9.length:Int) then(fJ.l1 k x0 (x6.set (x10:Int).toNat (wrap64 ((rd x6 x10) - (rd x9 x10)))) x9 (wrap64 (x10+1))) else(none)) else(none)) else(fJ.l0 k x0 x6)
end
def fJ.f (k:Nat) (l0:List (List Int)) (l1:List Int):Option (List Int × Bool):=(fN.f k l0 l1).bind fun t572=>(if t572=true then((some (([]:List Int):List Int)).bind fun y576=>(if y576.length+l1.length<17592186044416 then(fJ.l0 k l0 (y576 ++ l1)) else(none))) else(some ((([]:List Int)),false)))
def fJ.T11:Bool × List (List Nat × List Nat):=(true,[([],[]),([],[]),([],[]),([],[]),([2,3],[2,3]),([4],[4]),([],[]),([],[]),([6,7],[6,7]),([8],[8]),([5,9],[5,9]),([0,1,0,1,2,3,4,5,6,7,8,9,10],[0,1]),([11,10,0,1,2,3,4,5,6,7,8,9,10],[10,11])])
def fJ.B11:List Nat:=[0,0,0,0,12,28,0,0,192,448,1020,2047,4095]
theorem fJ.tab11:rtab .any (opsOf Try.f13 11)=fJ.T11:=by kernel_rfl
theorem fJ.bits11:waitsOk fJ.T11.2 fJ.B11=true:=by kernel_rfl
theorem fJ.calls (k:Nat) (A0:Option Addr) (c0:Nat) (l0:List (List Int)) (A1:Option Addr) (c1:Nat) (l1:List Int) (r1:List Int) (r2:Bool) (w:World) (Cy:Kd.C (Kd.slice 3 (Kd.int .i64)) w A0 l0.length l0) (Cz:l0.length≤c0) (Da:Kd.C (Kd.int .i64) w A1 l1.length l1) (Db:l1.length≤c1) (h:fJ.f k l0 l1=some (r1,r2)):
  Calls Try.prog 13 #[.slice A0 l0.length c0, .slice A1 l1.length c1] w fun e w'=>∃v0_:Value,e= .returned (.tuple #[v0_, .bool r2])∧Kd.R (Kd.int .i64) 3 w' w.heap.size (fun _=>True) v0_ r1∧Below w.heap.size w w':=by
 have Bs:=Az.mk Cy
 have Bt:=Az.mk Cz
 clear Cy Cz
 have HR1:=Az.mk Da
 have Dc:=Az.mk Db
 clear Da Db
 have HB:=Az.mk (Below.refl w.heap.size w)
 have H:((fN.f k l0 l1).bind fun Bd=>(if Bd=true then((some (([]:List Int):List Int)).bind fun Ap=>(if Ap.length+l1.length<17592186044416 then(fJ.l0 k l0 (Ap ++ l1)) else(none))) else(some ((([]:List Int)),false))))=some (r1,r2):=h
 clear h
 replace H:=bez H
 obtain⟨Bd,A3,H⟩:=H
 try dsimp only at H
 by_cases c4:Bd=true
 rotate_left
 ·replace c4:=Bool.eq_false_iff.mpr c4
  subst c4
  rw[ig ff]at H
  obtain⟨Cl,hy⟩:∃y_:List Int,y_=(([]:List Int)):=⟨_,rfl⟩
  replace H:(some (Cl,false))=some (r1,r2):=rh
  have Ay:=Az.mk hy
  clear hy
  simp only[Option.some.injEq,Prod.mk.injEq]at H
  obtain⟨rfl,rfl⟩:=H
  go_enter Try.func13,Try.ntmps13
  go_wp2_with (first|((with_reducible refine gtC (f:=38) rfl ?_);refine clz Try.func38 (some 13) #[.slice A0 l0.length c0, .slice A1 l1.length c1] ?_;(with_reducible refine(fN.calls k _ _ l0 _ _ l1 false _ ?Af ?Ag ?Aj ?Ak A3.out).mono ?_);(case Af=>exact kC Bs.out);(case Ag=>exact Bt.out);(case Aj=>exact kC HR1.out);(case Ak=>exact Dc.out);rintro e Do ⟨rfl,hb⟩;refine⟨_,rfl,?_⟩;replace HB:=Az.mk (bwT bw_32 hb);(try clear hb))|((with_reducible refine gtD (N:=15) rfl ?_);refine Kd.R_lit (Kd.int .i64) _ 3 ?hg (N:=15) ?hd (xs:=([]:List Int)) (inner:=[]) (ok:=fun _=>True) (okp:=fun _=>True) ?hr ?hp (fun _ hk=>hk) trivial (Below.refl _ _) (Nat.le_refl _) (by simp) ?_;(case hd=>rfl);(case hg=>rfl);(case hr=>first|(go_simp;done)|(go_simp;rfl));(case hp=>exact(Reps.none _ _));intro Dh Dp Au hb hg_ hnew_;clear hg_ hnew_;(first|rw[←Ay.out]at Au|(simp only[Int.reduceToNat]at Au;rw[←Ay.out]at Au));have Bu:=Az.mk (Kd.R_lower Au (bwZ bw_32));replace HB:=Az.mk (bwT bw_32 hb);clear hb Au))
  go_ret2
  exact⟨_,rq1,kR Bu.out,bw_32⟩
 subst c4
 rw[ip rfl]at H
 obtain⟨Ap,hy⟩:∃y_:List Int,y_=(([]:List Int)):=⟨_,rfl⟩
 replace H:(if Ap.length+l1.length<17592186044416 then(fJ.l0 k l0 (Ap ++ l1)) else(none))=some (r1,r2):=rh
 have Ba:=Az.mk hy
 clear hy
 by_cases c5:Ap.length+l1.length<17592186044416
 rotate_left
 ·rw[ig c5]at H
  exact absurd H (by simp)
 rw[ip c5]at H
 have LMc5:=Az.mk c5
 clear c5
 obtain⟨Bv,hy⟩:∃y_:List Int,y_=(Ap ++ l1):=⟨_,rfl⟩
 replace H:(fJ.l0 k l0 Bv)=some (r1,r2):=rh
 have Bw:=Az.mk hy
 clear hy
 have H':=Az.mk H
 clear H
 go_enter Try.func13,Try.ntmps13
 go_wp2_with (first|((with_reducible refine gtC (f:=38) rfl ?_);refine clz Try.func38 (some 13) #[.slice A0 l0.length c0, .slice A1 l1.length c1] ?_;(with_reducible refine(fN.calls k _ _ l0 _ _ l1 true _ ?Af ?Ag ?Aj ?Ak A3.out).mono ?_);(case Af=>exact kC Bs.out);(case Ag=>exact Bt.out);(case Aj=>exact kC HR1.out);(case Ak=>exact Dc.out);rintro e w6 ⟨rfl,hb⟩;refine⟨_,rfl,?_⟩;replace HB:=Az.mk (bwT bw_32 hb);(try clear hb))|((with_reducible refine gtD (N:=16) rfl ?_);refine Kd.R_lit (Kd.int .i64) _ 3 ?hg (N:=16) ?hd (xs:=([]:List Int)) (inner:=[]) (ok:=fun _=>True) (okp:=fun _=>True) ?hr ?hp (fun _ hk=>hk) trivial (Below.refl _ _) (Nat.le_refl _) (by simp) ?_;(case hd=>rfl);(case hg=>rfl);(case hr=>first|(go_simp;done)|(go_simp;rfl));(case hp=>exact(Reps.none _ _));intro Cm w7 Bx hb hg_ hnew_;clear hg_ hnew_;(first|rw[←Ba.out]at Bx|(simp only[Int.reduceToNat]at Bx;rw[←Ba.out]at Bx));have Bb:=Az.mk (Kd.R_lower Bx (bwZ bw_32));replace HB:=Az.mk (bwT bw_32 hb);clear hb Bx)|((with_reducible refine gate_builtin (b:= .append) (xs:= #[.tmp 16, .tmp 17]) rfl ?_);at_builtin;refine Kd.R_append_rows (Kd.int .i64) (w0:=w) w.heap.size rfl (.tmp 16) (.tmp 17) 25 3 (.int .i64 0) 8 rfl Try.underlying25 info3 rfl (by decide) (by omega) Cm Ap l1 _ _ _ (fun _=>True) (fun _=>False) rfl rfl ?aO ?aR (fun _ _ h=>h) (fun _ h=>h.elim) ?aF ?aB ?aS ?aL ?_;(case aR=>exact kC (Kd.C_below HR1.out HB.out));(case aB=>exact bw_32);(case aF=>exact(fun _ _=>trivial));(case aO=>exact(kR Bb.out));(case aS=>exact(bwZ bw_32));(case aL=>have:=LMc5.out;omega);intro Cn w9 ho hb hg hat;rw[←Bw.out]at ho;have n0_:=Az.mk (hb);have n1_:=Az.mk (ho);clear HB;clear Bb;have HB:=n0_;have By:=n1_;clear n0_ n1_;clear ho hb hg hat))
 go_loopg [] k (fun kq w'=>∃(Al:List Int),Az (fJ.l0 kq l0 Al=some (r1,r2))∧Az (kq≤k)∧Az (Kd.R (Kd.int .i64) 3 w' w.heap.size (fun _=>True) Cn Al)∧Az (Below w.heap.size w w'))
 case atStart=>exact⟨(Bv),H',⟨Nat.le_refl _⟩,⟨kR By.out⟩,⟨bw_32⟩⟩
 clear H'
 try clear c1
 try clear c4
 try clear c5
 obtain⟨Al,HA,HK1,Ae,HB⟩:=hrel
 cases gk with
 |zero=>exact absurd HA.out (by simp[fJ.l0])
 |succ k1=>
  have H:=HA.out
  clear HA
  simp only[fJ.l0]at H
  replace H:=bez H
  obtain⟨⟨Av,Ax⟩,Dd,H⟩:=H
  try dsimp only at H
  by_cases Bf:Av<0
  ·rw[ip Bf]at H
   have Bc:=ode Bf
   clear Bf
   simp only[Option.some.injEq,Prod.mk.injEq]at H
   obtain⟨rfl,rfl⟩:=H
   obtain⟨Co,Cp,Cq⟩:=Kd.R_slice Ae.out
   subst Cq
   go_wp2_with (first|((with_reducible refine gtC (f:=39) rfl ?_);refine clz Try.func39 (some 22) #[.slice A0 l0.length c0, .slice Co Al.length Cp] ?_;(with_reducible refine(fK.calls k1 _ _ l0 _ _ Al Av Ax _ ?Af ?Ag ?Aj ?Ak Dd.out).mono ?_);(case Af=>exact kC (Kd.C_below Bs.out HB.out));(case Ag=>exact Bt.out);(case Aj=>exact kC (Kd.R_reads' Ae.out).2.2);(case Ak=>exact(Kd.R_reads' Ae.out).2.1);rintro e Dq ⟨rfl,hb⟩;refine⟨_,rfl,?_⟩;replace Ae:=Az.mk (Kd.R_below (kR Ae.out) hb);replace HB:=Az.mk (bwT bw_32 hb);(try clear hb)))
   go_ret2
   exact⟨_,rq1,kR Ae.out,bw_32⟩
  rw[ig Bf]at H
  have Bc:=decide_eq_false Bf
  clear Bf
  replace H:=bez H
  obtain⟨Am,Di,H⟩:=H
  try dsimp only at H
  have H':=Az.mk H
  clear H
  obtain⟨Bh,Bi,Cr⟩:=Kd.R_slice Ae.out
  subst Cr
  go_wp2_with (first|((with_reducible refine gtC (f:=39) rfl ?_);refine clz Try.func39 (some 22) #[.slice A0 l0.length c0, .slice Bh Al.length Bi] ?_;(with_reducible refine(fK.calls k1 _ _ l0 _ _ Al Av Ax _ ?Af ?Ag ?Aj ?Ak Dd.out).mono ?_);(case Af=>exact kC (Kd.C_below Bs.out HB.out));(case Ag=>exact Bt.out);(case Aj=>exact kC (Kd.R_reads' Ae.out).2.2);(case Ak=>exact(Kd.R_reads' Ae.out).2.1);rintro e Dr ⟨rfl,hb⟩;refine⟨_,rfl,?_⟩;replace Ae:=Az.mk (Kd.R_below (kR Ae.out) hb);replace HB:=Az.mk (bwT bw_32 hb);(try clear hb))|((with_reducible refine gtC (f:=40) rfl ?_);refine clz Try.func40 (some 31) #[.slice A0 l0.length c0, .int .i64 Av, .int .i64 Ax] ?_;(with_reducible refine(gL.calls k1 _ _ l0 Av Ax Am _ ?Af ?Ag Di.out).mono ?_);(case Af=>exact kC (Kd.C_below Bs.out HB.out));(case Ag=>exact Bt.out);rintro e Ds ⟨Bz,rfl,Cs,hb⟩;refine⟨_,rfl,?_⟩;have Ca:=Az.mk (Kd.R_lower (Kd.R_new' Cs (Kd.R_lt (kR Ae.out))) (bwZ bw_32));replace Ae:=Az.mk (Kd.R_elder' (kR Ae.out) (Kd.R_base Cs) hb);replace HB:=Az.mk (bwT bw_32 hb);(try clear hb);(try clear Cs)))
  go_loopg [10] k1 (fun kq Dj w'=>∃(Ai:List Int) (Ad:Int),Dj= .int .i64 Ad∧Az (fJ.l1 kq l0 Ai Am Ad=some (r1,r2))∧Az (kq≤k1)∧Az (Kd.R (Kd.int .i64) 3 w' w.heap.size (fun k_=>some k_≠(Bz:Value).ownBlock) (.slice Bh Al.length Bi) Ai)∧Az (Kd.R (Kd.int .i64) 3 w' w.heap.size (fun k_=>some k_≠((.slice Bh Al.length Bi):Value).ownBlock) Bz Am)∧Az (Below w.heap.size w w'))
  case atStart=>exact⟨(Al),(0),rq2,H',⟨Nat.le_refl _⟩,⟨by(with_reducible repeat(first|apply Kd.R_alloc|apply Kd.R_drewN|apply Kd.R_drew));exact Kd.R_mono Ae.out (fun _ hk=>hk.2)⟩,⟨by(with_reducible repeat(first|apply Kd.R_alloc|apply Kd.R_drewN|apply Kd.R_drew));exact Kd.R_mono Ca.out (fun _ hk=>hk.2)⟩,⟨bw_32⟩⟩
  clear H'
  try clear c1
  try clear c4
  try clear c5
  try clear Bf
  try clear Bc
  obtain⟨Ai,Ad,rfl,HA,HK2,Ae,Aq,HB⟩:=hrel
  have Ah:=(Kd.R_reads' Ae.out).1
  rw[Ah]at Ae
  (try simp only[Ah])
  (try simp only[Ah]at Aq)
  cases gk with
  |zero=>exact absurd HA.out (by simp[fJ.l1])
  |succ k2=>
   have H:=HA.out
   clear HA
   simp only[fJ.l1]at H
   by_cases Br:Ad<(Ai.length:Int)
   rotate_left
   ·rw[ig Br]at H
    have Cb:=decide_eq_false Br
    clear Br
    have H':=Az.mk H
    clear H
    go_wp2
    (try simp only[←Ah])
    go_roundg k2
    case measure=>have:=HK1.out;have:=HK2.out;omega
    case rel=>exact⟨(Ai),H',⟨by have:=HK1.out;have:=HK2.out;omega⟩,⟨by(try simp only[Ah]);(with_reducible repeat(first|apply Kd.R_alloc|apply Kd.R_drewN|apply Kd.R_drew));exact Kd.R_mono Ae.out (fun _ hk=>trivial)⟩,⟨bw_32⟩⟩
   rw[ip Br]at H
   have Cb:=ode Br
   clear Br
   by_cases Cj:0≤Ad
   rotate_left
   ·rw[ig Cj]at H
    exact absurd H (by simp)
   rw[ip Cj]at H
   have De:=ode Cj
   clear Cj
   by_cases Ck:Ad<(Am.length:Int)
   rotate_left
   ·rw[ig Ck]at H
    exact absurd H (by simp)
   rw[ip Ck]at H
   have Df:=ode Ck
   clear Ck
   obtain⟨Cc,hy⟩:∃y_:List Int,y_=(Ai.set (Ad:Int).toNat (wrap64 ((rd Ai Ad) - (rd Am Ad)))):=⟨_,rfl⟩
   replace H:(fJ.l1 k2 l0 Cc Am (wrap64 (Ad+1)))=some (r1,r2):=rh
   have Cd:=Az.mk hy
   clear hy
   have H':=Az.mk H
   clear H
   try go_wp2
   replace Ae:=Az.mk (Kd.R_drew Ae.out);replace Aq:=Az.mk (Kd.R_drew Aq.out);replace HB:=Az.mk (bwD HB.out)
   have Bj:0≤(Ad:Int):=od
   have Bk:Ad<(Ai.length:Int):=od
   obtain⟨Dg,Ct,Ao⟩:=Kd.at_int (Kd.R_reads' Ae.out).2.2 Ad Bj Bk
   cases Ct
   replace Bj:=ets Bj
   replace Bk:=ets Bk
   obtain⟨Dk,Dl,Ce⟩:=Kd.R_slice Aq.out
   (first|subst Ce|(injection Ce with f1_ f2_ f3_;have f4_:=f1_.symm;have f5_:=f3_.symm;clear f1_ f2_ f3_;subst f4_;subst f5_))
   have Bl:0≤(Ad:Int):=od
   have Bm:Ad<(Am.length:Int):=od
   obtain⟨Cf,Cu,As⟩:=Kd.at_int (Kd.R_reads' Aq.out).2.2 Ad Bl Bm
   cases Cu
   replace Bl:=ets Bl
   replace Bm:=ets Bm
   have Cv:0≤(Ad:Int):=od
   have Cw:(Ad:Int)<((Ai.length:Int):Int):=od
   obtain⟨Bn,Dm,Cg,Ch,gl21,Dn,HG21⟩:=Kd.R_form Ae.out (by omega)
   (first|cases Cg|(injection Cg with ea_ en_ ec_;(first|subst ea_|(injection ea_ with ea_;subst ea_));subst ec_;clear en_))
   have GB21:=Az.mk Ch
   have Cx:=Az.mk HG21
   clear Ch gl21 HG21
   (first|simp only[add_plain]at Ao|skip)
   obtain⟨Bo,Bp⟩:=Kd.R_celln 0 Ae.out (Ad:Int) Cv Cw
   replace Cv:=ets Cv
   replace Cw:=ets Cw
   have Bq:=Kd.R_putn Ae.out (Ad:Int) (wrap64 ((rd Ai Ad) - (rd Am Ad)))
   rw[←Cd.out]at Bq
   have Ci:=Az.mk Bq
   clear Bq
   refine start_ (n:=13) (S:=fun w'=>w'.cell? ⟨Bn,(Ad).toNat,none⟩=some (.int .i64 (rd Ai Ad))∧w'.cell? (Cf.add (Ad).toNat)=some (.int .i64 (rd Am Ad))) (ds:=[12]) #[F,F,F,F,F,F,F,F,F,F,F,F,F] (by kernel_rfl) rfl rfl ⟨Ao,As⟩ (fun hHeld=>?_);refine with_tabW fJ.tab11 fJ.bits11 (fun HT_ HW_=>?_)
   generalize wr.drew=Dt at Ae Aq HB Cx Ci Bp Bo Ao As hHeld ⊢
   refine pu (i:=0) (N:=some 38) #[T,F,F,F,F,F,F,F,F,F,F,F,F] (any_of HT_.out (by kernel_rfl)) ?_
   refine pu (i:=1) (N:=some 39) #[T,T,F,F,F,F,F,F,F,F,F,F,F] (any_of HT_.out (by kernel_rfl)) ?_
   refine pu (i:=2) (N:=some 40) #[T,T,T,F,F,F,F,F,F,F,F,F,F] (any_of HT_.out (by kernel_rfl)) ?_
   refine pu (i:=3) (N:=some 41) #[T,T,T,T,F,F,F,F,F,F,F,F,F] (any_of HT_.out (by kernel_rfl)) ?_
   refine pu (i:=4) (N:=some 42) #[T,T,T,T,T,F,F,F,F,F,F,F,F] (any_of HT_.out (by kernel_rfl)) ?_
   refine pu (i:=6) (N:=some 44) #[T,T,T,T,T,F,T,F,F,F,F,F,F] (any_of HT_.out (by kernel_rfl)) ?_
   refine pu (i:=7) (N:=some 45) #[T,T,T,T,T,F,T,T,F,F,F,F,F] (any_of HT_.out (by kernel_rfl)) ?_
   refine pu (i:=8) (N:=some 46) #[T,T,T,T,T,F,T,T,T,F,F,F,F] (any_of HT_.out (by kernel_rfl)) ?_
   refine take_ (i:=5) (N:=some 43) (v:=?_) (a':=?_) #[T,T,T,T,T,T,T,T,T,F,F,F,F] rfl rfl (take_ofW HT_.out HW_.out (by kernel_rfl)) (fun _ _ _ h=>h) (Or.inl ⟨by rfl,?_⟩) hHeld ?_ ?_
   rotate_left
   ·rintro w' ⟨s0,s1⟩
    go_simp
    with_reducible rfl
   rotate_left
   ·exact acq
   refine take_ (i:=9) (N:=some 47) (v:=?_) (a':=?_) #[T,T,T,T,T,T,T,T,T,T,F,F,F] rfl rfl (take_ofW HT_.out HW_.out (by kernel_rfl)) (fun _ _ _ h=>h) (Or.inl ⟨by rfl,?_⟩) hHeld ?_ ?_
   rotate_left
   ·rintro w' ⟨s0,s1⟩
    go_simp
    with_reducible rfl
   rotate_left
   ·exact acq
   refine pu (i:=10) (N:=some 48) #[T,T,T,T,T,T,T,T,T,T,T,F,F] (any_of HT_.out (by kernel_rfl)) ?_
   refine pu (i:=11) (N:=some 49) #[T,T,T,T,T,T,T,T,T,T,T,T,F] (any_of HT_.out (by kernel_rfl)) ?_
   refine last_ (i:=12) (N:=none) #[T,T,T,T,T,T,T,T,T,T,T,T,T] rfl rfl (one_of HT_.out (by kernel_rfl)) (by decide) (fun K hK=>?_)
   refine skip_ (w1:=?_) (by rfl) rfl ?_ ?_
   rotate_left
   ·go_simp
    rfl
   refine hK.out _ _ ?_
   clear hK K
   refine done_ (done_of HT_.out (by kernel_rfl)) ?_
   try go_wp2
   (try simp only[←Ah])
   go_roundg k2
   case measure=>have:=HK1.out;have:=HK2.out;omega
   case rel=>exact⟨(Cc),(wrap64 (Ad+1)),rq2,H',⟨by have:=HK1.out;have:=HK2.out;omega⟩,⟨by(try simp only[Ah]);(with_reducible repeat(first|apply Kd.R_alloc|apply Kd.R_drewN|apply Kd.R_drew));exact Ci.out⟩,⟨by(try simp only[Ah]);(with_reducible repeat(first|apply Kd.R_alloc|apply Kd.R_drewN|apply Kd.R_drew));exact Kd.R_mono (Kd.R_far (p:=⟨Bn,(Ad:Int).toNat,none⟩) (Kd.R_mono Aq.out (fun k_ hk=>(⟨hk,fun e_=>hk (by rw[e_];rfl)⟩:_∧k_≠Bn))) (fun _ hk=>hk.2) (.int .i64 (wrap64 ((rd Ai Ad) - (rd Am Ad))))) (fun _ hk=>hk.1)⟩,⟨bw_32⟩⟩
def jV.f (a0:Int):Option (Bool):=(fR.f a0 1 8).bind fun t590=>(if t590=true then(some true) else((fR.f a0 (-8) (-1)).bind fun t591=>(some t591)))
theorem jV.calls (a0:Int) (r:Bool) (w:World) (h:jV.f a0=some r):
  Calls Try.prog 88 #[.int .i64 a0] w fun e w'=>e= .returned (.bool r)∧Drawn0 w w':=by
 have H:((fR.f a0 1 8).bind fun Ae=>(if Ae=true then(some true) else((fR.f a0 (-8) (-1)).bind fun Ad=>(some Ad))))=some r:=h
 clear h
 replace H:=bez H
 obtain⟨Ae,A2,H⟩:=H
 try dsimp only at H
 by_cases c3:Ae=true
 ·subst c3
  rw[ip rfl]at H
  obtain rfl:=Option.some.inj H
  go_enter Try.func88,Try.ntmps88
  go_wp2_with (first|((with_reducible refine gtC (f:=42) rfl ?_);refine clz Try.func42 (some 4) #[.int .i64 a0, .int .i64 1, .int .i64 8] ?_;(with_reducible refine(fR.calls a0 1 8 true _ A2.out).mono ?_);rintro e w' ⟨rfl,⟨nd,rfl⟩⟩;refine⟨_,rfl,?_⟩))
  go_ret
  exact⟨rq2,kd⟩
 replace c3:=Bool.eq_false_iff.mpr c3
 subst c3
 rw[ig ff]at H
 replace H:=bez H
 obtain⟨Ad,A4,H⟩:=H
 replace H:(some Ad)=some r:=H
 obtain rfl:=Option.some.inj H
 go_enter Try.func88,Try.ntmps88
 go_wp2_with (first|((with_reducible refine gtC (f:=42) rfl ?_);refine clz Try.func42 (some 4) #[.int .i64 a0, .int .i64 1, .int .i64 8] ?_;(with_reducible refine(fR.calls a0 1 8 false _ A2.out).mono ?_);rintro e w' ⟨rfl,⟨nd,rfl⟩⟩;refine⟨_,rfl,?_⟩)|(go_at_call 42;(with_reducible refine(fR.calls a0 (-8) (-1) Ad _ A4.out).mono ?_);rintro e w' ⟨rfl,⟨nd,rfl⟩⟩))
 go_ret
 exact⟨rq2,kd⟩
end
def jD.l0:Nat→List Int→Int→Option (Bool)
 |0,_,_=>none
 |k+1,x0,x3=>if x3<(x0.length:Int) then(if 0≤x3 then((jV.f (rd x0 x3)).bind fun t593=>(if t593=true then(jD.l0 k x0 (wrap64 (x3+1))) else(some false))) else(none)) else(some (decide ((x0.length:Int)≤24)))
def jD.f (k:Nat) (l0:List Int):Option (Bool):=jD.l0 k l0 0
theorem jD.calls (k:Nat) (A0:Option Addr) (c0:Nat) (l0:List Int) (r:Bool) (w:World) (Al:Kd.C (Kd.int .i64) w A0 l0.length l0) (Am:l0.length≤c0) (h:jD.f k l0=some r):
  Calls Try.prog 72 #[.slice A0 l0.length c0] w fun e w'=>e= .returned (.bool r)∧Drawn0 w w':=by
 have Ao:=Az.mk Al
 have Aq:=Az.mk Am
 clear Al Am
 have H:(jD.l0 k l0 0)=some r:=h
 clear h
 have H':=Az.mk H
 clear H
 go_enter Try.func72,Try.ntmps72
 go_wp2
 go_loopg [3] k (fun kq v3 w'=>∃(Ad:Int),v3= .int .i64 Ad∧Az (jD.l0 kq l0 Ad=some r)∧Az (kq≤k)∧Drawn0 w w')
 case atStart=>exact⟨(0),rq2,H',⟨Nat.le_refl _⟩,kd⟩
 clear H'
 obtain⟨Ad,rfl,HA,HK1,⟨m1,rfl⟩⟩:=hrel
 cases gk with
 |zero=>exact absurd HA.out (by simp[jD.l0])
 |succ k1=>
  have H:=HA.out
  clear HA
  simp only[jD.l0]at H
  by_cases c2:Ad<(l0.length:Int)
  rotate_left
  ·rw[ig c2]at H
   have Aj:=decide_eq_false c2
   clear c2
   obtain rfl:=Option.some.inj H
   go_wp2
   go_ret
   exact⟨rq2,kd⟩
  rw[ip c2]at H
  have Aj:=ode c2
  clear c2
  by_cases c3:0≤Ad
  rotate_left
  ·rw[ig c3]at H
   exact absurd H (by simp)
  rw[ip c3]at H
  have Ap:=ode c3
  clear c3
  replace H:=bez H
  obtain⟨Ak,A4,H⟩:=H
  try dsimp only at H
  by_cases c5:Ak=true
  rotate_left
  ·replace c5:=Bool.eq_false_iff.mpr c5
   subst c5
   rw[ig ff]at H
   obtain rfl:=Option.some.inj H
   have Ae:0≤(Ad:Int):=od
   have Af:Ad<(l0.length:Int):=od
   obtain⟨Ai,Ah,Ag⟩:=Kd.at_int Ao.out Ad Ae Af
   cases Ah
   replace Ae:=ets Ae
   replace Af:=ets Af
   go_wp2_with (first|((with_reducible refine gtC (f:=88) rfl ?_);refine clz Try.func88 (some 14) #[.int .i64 (rd l0 Ad)] ?_;(with_reducible refine(jV.calls (rd l0 Ad) false _ A4.out).mono ?_);rintro e w' ⟨rfl,⟨nd,rfl⟩⟩;refine⟨_,rfl,?_⟩))
   go_ret
   exact⟨rq2,kd⟩
  subst c5
  rw[ip rfl]at H
  have H':=Az.mk H
  clear H
  have Ae:0≤(Ad:Int):=od
  have Af:Ad<(l0.length:Int):=od
  obtain⟨Ai,Ah,Ag⟩:=Kd.at_int Ao.out Ad Ae Af
  cases Ah
  replace Ae:=ets Ae
  replace Af:=ets Af
  go_wp2_with (first|((with_reducible refine gtC (f:=88) rfl ?_);refine clz Try.func88 (some 14) #[.int .i64 (rd l0 Ad)] ?_;(with_reducible refine(jV.calls (rd l0 Ad) true _ A4.out).mono ?_);rintro e w' ⟨rfl,⟨nd,rfl⟩⟩;refine⟨_,rfl,?_⟩))
  go_roundg k1
  case measure=>have:=HK1.out;omega
  case rel=>exact⟨(wrap64 (Ad+1)),rq2,H',⟨by have:=HK1.out;omega⟩,kd⟩
section
open Bool renaming true → T, false → F
theorem bw_34 {n:Nat}{v v':World} (h:Below n v v':=by repeat(first|(with_reducible first|exact HB.out|apply bwA|apply pbN|apply bwD|refine bwS ?_ GB16.out)|exact HB.out)):Below n v v':=h
mutual
def fW.l0:Nat→List (List Int)→List Int→Int→Option (List Int)
 |0,_,_,_=>none
 |k+1,x0,x3,x4=>if x4<(x0.length:Int) then(fW.l1 k x0 x3 x4 0) else(some x3)
def fW.l1:Nat→List (List Int)→List Int→Int→Int→Option (List Int)
 |0,_,_,_,_=>none
 |k+1,x0,x3,x4,x5=>if 0≤x4 then(if x4<(x0.length:Int) then(if x5<((rd_L1 x0 x4).length:Int) then(if 0≤x5 then((gB.f (rd (rd_L1 x0 x4) x5)).bind fun t600=>((gB.f (rd (rd_L1 x0 x4) x5)).bind fun t603=>(if 0≤t603 then(if t603<(x3.length:Int) then(if 0≤t600 then(if t600<(x3.length:Int) then(fW.l1 k x0 (x3.set (t600:Int).toNat (wrap64 ((rd x3 t603)+1))) x4 (wrap64 (x5+1))) else(none)) else(none)) else(none)) else(none)))) else(none)) else(fW.l0 k x0 x3 (wrap64 (x4+1)))) else(none)) else(none)
end
def fW.f (k:Nat) (l0:List (List Int)):Option (List Int):=if 9≤35184372088832 then(fW.l0 k l0 (List.replicate 9 0) 0) else(none)
def fW.T8:Bool × List (List Nat × List Nat):=(true,[([],[]),([],[]),([],[]),([1,2],[1,2]),([3],[3]),([],[]),([4,5],[4,5]),([6],[6]),([7],[7]),([],[]),([],[]),([],[]),([10,11],[10,11]),([12],[12]),([],[]),([13,14],[13,14]),([15],[15]),([16,8],[16]),([9,17],[9,17]),([18],[18]),([19],[19]),([0,8,0,1,2,3,4,5,6,7,8,9,10,11,12,13,14,15,16,17,18,19,20],[0,8]),([21,20,17,0,1,2,3,4,5,6,7,8,9,10,11,12,13,14,15,16,17,18,19,20],[20,21])])
def fW.B8:List Nat:=[0,0,0,6,14,0,62,126,254,0,0,0,3072,7168,0,31744,64512,130558,262142,524286,1048574,2097151,4194303]
theorem fW.tab8:rtab .any (opsOf Try.f73 8)=fW.T8:=by kernel_rfl
theorem fW.bits8:waitsOk fW.T8.2 fW.B8=true:=by kernel_rfl
theorem fW.calls (k:Nat) (A0:Option Addr) (c0:Nat) (l0:List (List Int)) (r:List Int) (w:World) (Dp:Kd.C (Kd.slice 3 (Kd.int .i64)) w A0 l0.length l0) (Dq:l0.length≤c0) (h:fW.f k l0=some r):
  Calls Try.prog 73 #[.slice A0 l0.length c0] w fun e w'=>∃v0_:Value,e= .returned (v0_)∧Kd.R (Kd.int .i64) 3 w' w.heap.size (fun _=>True) v0_ r∧Below w.heap.size w w':=by
 have Cu:=Az.mk Dp
 have Eh:=Az.mk Dq
 clear Dp Dq
 have HB:=Az.mk (Below.refl w.heap.size w)
 have H:(if 9≤35184372088832 then(fW.l0 k l0 (List.replicate 9 0) 0) else(none))=some r:=h
 clear h
 by_cases c2:9≤35184372088832
 rotate_left
 ·rw[ig c2]at H
  exact absurd H (by simp)
 rw[ip c2]at H
 have Cf:=ets c2
 have Cg:=ode c2
 clear c2
 obtain⟨Ch,hy⟩:∃y_:List Int,y_=(List.replicate 9 0):=⟨_,rfl⟩
 replace H:(fW.l0 k l0 Ch 0)=some r:=rh
 have Bq:=Az.mk hy
 clear hy
 have H':=Az.mk H
 clear H
 go_enter Try.func73,Try.ntmps73
 go_wp2_with (first|((with_reducible refine gtD (N:=6) rfl ?_);refine Kd.R_make (Kd.int .i64) _ 3 rfl (N:=6) rfl 25 _ _ rfl 9 rfl rfl Try.underlying25 (.int .i64 0) 8 info3 rfl (by decide) (by omega) 0 (ok:=fun _=>True) (okp:=fun _=>True) rfl (fun _ hk=>hk) trivial (by omega) (by omega) (Below.refl _ _) (Nat.le_refl _) ?_;intro Ci w3 Cj hb hg_ hnew_;clear hg_ hnew_;(first|rw[←Bq.out]at Cj|(simp only[Int.reduceToNat]at Cj;rw[←Bq.out]at Cj));have Ck:=Az.mk (Kd.R_lower Cj (bwZ bw_34));replace HB:=Az.mk (bwT bw_34 hb);clear hb Cj))
 go_loopg [4] k (fun kq v4 w'=>∃(Bn:List Int) (Ad:Int),v4= .int .i64 Ad∧Az (fW.l0 kq l0 Bn Ad=some r)∧Az (kq≤k)∧Az (Kd.R (Kd.int .i64) 3 w' w.heap.size (fun _=>True) Ci Bn)∧Az (Below w.heap.size w w'))
 case atStart=>exact⟨(Ch),(0),rq2,H',⟨Nat.le_refl _⟩,⟨kR Ck.out⟩,⟨bw_34⟩⟩
 clear H'
 try clear c2
 try clear Cf
 try clear Cg
 obtain⟨Bn,Ad,rfl,HA,HK1,Ak,HB⟩:=hrel
 cases gk with
 |zero=>exact absurd HA.out (by simp[fW.l0])
 |succ k1=>
  have H:=HA.out
  clear HA
  simp only[fW.l0]at H
  by_cases c5:Ad<(l0.length:Int)
  rotate_left
  ·rw[ig c5]at H
   have Cl:=decide_eq_false c5
   clear c5
   obtain rfl:=Option.some.inj H
   go_wp2
   go_ret
   exact⟨_,rq1,kR Ak.out,bw_34⟩
  rw[ip c5]at H
  have Cl:=ode c5
  clear c5
  have H':=Az.mk H
  clear H
  go_wp2
  go_loopg [5] k1 (fun kq v5 w'=>∃(Al:List Int) (Ae:Int),v5= .int .i64 Ae∧Az (fW.l1 kq l0 Al Ad Ae=some r)∧Az (kq≤k1)∧Az (Kd.R (Kd.int .i64) 3 w' w.heap.size (fun _=>True) Ci Al)∧Az (Below w.heap.size w w'))
  case atStart=>exact⟨(Bn),(0),rq2,H',⟨Nat.le_refl _⟩,⟨kR Ak.out⟩,⟨bw_34⟩⟩
  clear H'
  try clear c2
  try clear Cf
  try clear Cg
  try clear c5
  try clear Cl
  obtain⟨Al,Ae,rfl,HA,HK2,Ak,HB⟩:=hrel
  cases gk with
  |zero=>exact absurd HA.out (by simp[fW.l1])
  |succ k2=>
   have H:=HA.out
   clear HA
   simp only[fW.l1]at H
   by_cases c6:0≤Ad
   rotate_left
   ·rw[ig c6]at H
    exact absurd H (by simp)
   rw[ip c6]at H
   have Dw:=ode c6
   clear c6
   by_cases c7:Ad<(l0.length:Int)
   rotate_left
   ·rw[ig c7]at H
    exact absurd H (by simp)
   rw[ip c7]at H
   have Dx:=ode c7
   clear c7
   by_cases c8:Ae<((rd_L1 l0 Ad).length:Int)
   rotate_left
   ·rw[ig c8]at H
    have Db:=decide_eq_false c8
    clear c8
    have H':=Az.mk H
    clear H
    have Bb:0≤(Ad:Int):=od
    have Bc:Ad<(l0.length:Int):=od
    obtain⟨Ay,Br,Bs,Bt,Af,Ag,Ah⟩:=at_L1 Cu.out Ad Bb Bc
    cases Bt
    replace Af:=kc HB Af
    have Bo:=Az.mk Ah
    have Bp:=Az.mk Ag
    clear Ah Ag
    replace Bb:=ets Bb
    replace Bc:=ets Bc
    go_wp2
    go_roundg k2
    case measure=>have:=HK1.out;have:=HK2.out;omega
    case rel=>exact⟨(Al),(wrap64 (Ad+1)),rq2,H',⟨by have:=HK1.out;have:=HK2.out;omega⟩,⟨kR Ak.out⟩,⟨bw_34⟩⟩
   rw[ip c8]at H
   have Db:=ode c8
   clear c8
   by_cases c9:0≤Ae
   rotate_left
   ·rw[ig c9]at H
    exact absurd H (by simp)
   rw[ip c9]at H
   have Dy:=ode c9
   clear c9
   replace H:=bez H
   obtain⟨Ba,Dz,H⟩:=H
   try dsimp only at H
   replace H:=bez H
   obtain⟨Ap,Ea,H⟩:=H
   try dsimp only at H
   by_cases Cv:0≤Ap
   rotate_left
   ·rw[ig Cv]at H
    exact absurd H (by simp)
   rw[ip Cv]at H
   have Dr:=ode Cv
   clear Cv
   by_cases Cw:Ap<(Al.length:Int)
   rotate_left
   ·rw[ig Cw]at H
    exact absurd H (by simp)
   rw[ip Cw]at H
   have Ds:=ode Cw
   clear Cw
   by_cases Cx:0≤Ba
   rotate_left
   ·rw[ig Cx]at H
    exact absurd H (by simp)
   rw[ip Cx]at H
   have Dt:=ode Cx
   clear Cx
   by_cases Cy:Ba<(Al.length:Int)
   rotate_left
   ·rw[ig Cy]at H
    exact absurd H (by simp)
   rw[ip Cy]at H
   have Du:=ode Cy
   clear Cy
   obtain⟨Cm,hy⟩:∃y_:List Int,y_=(Al.set (Ba:Int).toNat (wrap64 ((rd Al Ap)+1))):=⟨_,rfl⟩
   replace H:(fW.l1 k2 l0 Cm Ad (wrap64 (Ae+1)))=some r:=rh
   have Cn:=Az.mk hy
   clear hy
   have H':=Az.mk H
   clear H
   have Bb:0≤(Ad:Int):=od
   have Bc:Ad<(l0.length:Int):=od
   obtain⟨Ay,Br,Bs,Bt,Af,Ag,Ah⟩:=at_L1 Cu.out Ad Bb Bc
   cases Bt
   replace Af:=kc HB Af
   have Bo:=Az.mk Ah
   have Bp:=Az.mk Ag
   clear Ah Ag
   replace Bb:=ets Bb
   replace Bc:=ets Bc
   try go_wp2
   replace Ak:=Az.mk (Kd.R_drew Ak.out);replace HB:=Az.mk (bwD HB.out)
   have Bu:0≤(Ad:Int):=od
   have Bv:Ad<(l0.length:Int):=od
   obtain⟨Co,Dc,Bm,Dd,Ai,Bd,Bf⟩:=at_L1 Cu.out Ad Bu Bv
   have Aq:=Ai
   obtain rfl:Ay=Co:=(by injection Dd)
   replace Ai:=kc HB Ai
   have Bh:=Az.mk Bf
   have Cz:=Az.mk Bd
   clear Bf Bd
   replace Bu:=ets Bu
   replace Bv:=ets Bv
   have Bw:0≤(Ae:Int):=od
   have Bx:Ae<((rd_L1 l0 Ad).length:Int):=od
   obtain⟨Bi,De,Am⟩:=Kd.at_int Bh.out Ae Bw Bx
   have As:=Am
   cases De
   replace Am:=kc HB Am
   replace Bw:=ets Bw
   replace Bx:=ets Bx
   have By:0≤(Ad:Int):=od
   have Bz:Ad<(l0.length:Int):=od
   obtain⟨Cp,Df,Dg,Dh,Aj,Bj,Bk⟩:=at_L1 Cu.out Ad By Bz
   have Au:=Aj
   obtain rfl:Ay=Cp:=(by injection Dh)
   replace Aj:=kc HB Aj
   have Bl:=Az.mk Bk
   have Da:=Az.mk Bj
   clear Bk Bj
   replace By:=ets By
   replace Bz:=ets Bz
   have ea_:=Option.some.inj (Ai.symm.trans Aj)
   injection ea_ with ea_ en_ ec_
   subst ea_
   subst ec_
   clear en_
   have Ca:0≤(Ae:Int):=od
   have Cb:Ae<((rd_L1 l0 Ad).length:Int):=od
   obtain⟨Dv,Di,Ao⟩:=Kd.at_int Bl.out Ae Ca Cb
   have Av:=Ao
   cases Di
   replace Ao:=kc HB Ao
   replace Ca:=ets Ca
   replace Cb:=ets Cb
   have Cc:0≤(Ap:Int):=od
   have Cd:Ap<(Al.length:Int):=od
   obtain⟨Av3_,cv3_,ev3_⟩:=Kd.R_slice Ak.out
   subst ev3_
   obtain⟨Cq,Dj,Ax⟩:=Kd.at_int (Kd.R_reads' Ak.out).2.2 Ap Cc Cd
   cases Dj
   replace Cc:=ets Cc
   replace Cd:=ets Cd
   refine start_ (n:=23) (S:=fun w'=>w'.cell? (Ay.add (Ad).toNat)=some (.slice (some Bi) (rd_L1 l0 Ad).length Bm)∧w'.cell? (Bi.add (Ae).toNat)=some (.int .i64 (rd (rd_L1 l0 Ad) Ae))∧w'.cell? (Ay.add (Ad).toNat)=some (.slice (some Bi) (rd_L1 l0 Ad).length Bm)∧w'.cell? (Bi.add (Ae).toNat)=some (.int .i64 (rd (rd_L1 l0 Ad) Ae))∧w'.cell? (Cq.add (Ap).toNat)=some (.int .i64 (rd Al Ap))) (ds:=[22]) #[F,F,F,F,F,F,F,F,F,F,F,F,F,F,F,F,F,F,F,F,F,F,F] (by kernel_rfl) rfl rfl ⟨(kc HB Aq),(kc HB As),(kc HB Au),(kc HB Av),Ax⟩ (fun hHeld=>?_);refine with_tabW fW.tab8 fW.bits8 (fun HT_ HW_=>?_)
   generalize wr.drew=Ei at Ak HB Bh Bl Ai Am Aj Ao Ax hHeld ⊢
   refine pu (i:=0) (N:=some 22) #[T,F,F,F,F,F,F,F,F,F,F,F,F,F,F,F,F,F,F,F,F,F,F] (any_of HT_.out (by kernel_rfl)) ?_
   refine pu (i:=1) (N:=some 23) #[T,T,F,F,F,F,F,F,F,F,F,F,F,F,F,F,F,F,F,F,F,F,F] (any_of HT_.out (by kernel_rfl)) ?_
   refine pu (i:=2) (N:=some 24) #[T,T,T,F,F,F,F,F,F,F,F,F,F,F,F,F,F,F,F,F,F,F,F] (any_of HT_.out (by kernel_rfl)) ?_
   refine pu (i:=3) (N:=some 25) #[T,T,T,T,F,F,F,F,F,F,F,F,F,F,F,F,F,F,F,F,F,F,F] (any_of HT_.out (by kernel_rfl)) ?_
   refine pu (i:=5) (N:=some 27) #[T,T,T,T,F,T,F,F,F,F,F,F,F,F,F,F,F,F,F,F,F,F,F] (any_of HT_.out (by kernel_rfl)) ?_
   refine pu (i:=9) (N:=some 31) #[T,T,T,T,F,T,F,F,F,T,F,F,F,F,F,F,F,F,F,F,F,F,F] (any_of HT_.out (by kernel_rfl)) ?_
   refine pu (i:=10) (N:=some 32) #[T,T,T,T,F,T,F,F,F,T,T,F,F,F,F,F,F,F,F,F,F,F,F] (any_of HT_.out (by kernel_rfl)) ?_
   refine pu (i:=11) (N:=some 33) #[T,T,T,T,F,T,F,F,F,T,T,T,F,F,F,F,F,F,F,F,F,F,F] (any_of HT_.out (by kernel_rfl)) ?_
   refine pu (i:=12) (N:=some 34) #[T,T,T,T,F,T,F,F,F,T,T,T,T,F,F,F,F,F,F,F,F,F,F] (any_of HT_.out (by kernel_rfl)) ?_
   refine pu (i:=14) (N:=some 36) #[T,T,T,T,F,T,F,F,F,T,T,T,T,F,T,F,F,F,F,F,F,F,F] (any_of HT_.out (by kernel_rfl)) ?_
   refine take_ (i:=4) (N:=some 26) (v:=?_) (a':=?_) #[T,T,T,T,T,T,F,F,F,T,T,T,T,F,T,F,F,F,F,F,F,F,F] rfl rfl (take_ofW HT_.out HW_.out (by kernel_rfl)) (fun _ _ _ h=>h) (Or.inl ⟨by rfl,?_⟩) hHeld ?_ ?_
   rotate_left
   ·rintro w' ⟨s0,s1,s2,s3,s4⟩
    try simp only[add_plain]at s4
    go_simp
    with_reducible rfl
   rotate_left
   ·exact acq
   refine pu (i:=6) (N:=some 28) #[T,T,T,T,T,T,T,F,F,T,T,T,T,F,T,F,F,F,F,F,F,F,F] (any_of HT_.out (by kernel_rfl)) ?_
   refine take_ (i:=7) (N:=some 29) (v:=?_) (a':=?_) #[T,T,T,T,T,T,T,T,F,T,T,T,T,F,T,F,F,F,F,F,F,F,F] rfl rfl (take_ofW HT_.out HW_.out (by kernel_rfl)) (fun _ _ _ h=>h) (Or.inl ⟨by rfl,?_⟩) hHeld ?_ ?_
   rotate_left
   ·rintro w' ⟨s0,s1,s2,s3,s4⟩
    try simp only[add_plain]at s4
    go_simp
    with_reducible rfl
   rotate_left
   ·exact acq
   refine take_ (i:=13) (N:=some 35) (v:=?_) (a':=?_) #[T,T,T,T,T,T,T,T,F,T,T,T,T,T,T,F,F,F,F,F,F,F,F] rfl rfl (take_ofW HT_.out HW_.out (by kernel_rfl)) (fun _ _ _ h=>h) (Or.inl ⟨by rfl,?_⟩) hHeld ?_ ?_
   rotate_left
   ·rintro w' ⟨s0,s1,s2,s3,s4⟩
    try simp only[add_plain]at s4
    go_simp
    with_reducible rfl
   rotate_left
   ·exact acq
   refine pu (i:=15) (N:=some 37) #[T,T,T,T,T,T,T,T,F,T,T,T,T,T,T,T,F,F,F,F,F,F,F] (any_of HT_.out (by kernel_rfl)) ?_
   refine take_ (i:=16) (N:=some 38) (v:=?_) (a':=?_) #[T,T,T,T,T,T,T,T,F,T,T,T,T,T,T,T,T,F,F,F,F,F,F] rfl rfl (take_ofW HT_.out HW_.out (by kernel_rfl)) (fun _ _ _ h=>h) (Or.inl ⟨by rfl,?_⟩) hHeld ?_ ?_
   rotate_left
   ·rintro w' ⟨s0,s1,s2,s3,s4⟩
    try simp only[add_plain]at s4
    go_simp
    with_reducible rfl
   rotate_left
   ·exact acq
   refine one_ (i:=8) (N:=some 30) #[T,T,T,T,T,T,T,T,T,T,T,T,T,T,T,T,T,F,F,F,F,F,F] rfl rfl (one_of HT_.out (by kernel_rfl)) (by decide) (fun K hK=>?_)
   refine goes_ Try.func70 (by kernel_rfl) rfl #[.int .i64 (rd (rd_L1 l0 Ad) Ae)] (by rfl) rfl rfl (by(try simp only[List.map_toArray,List.map_cons,List.map_nil]);first|done|rfl|(simp only[List.length_drop,List.length_take];rfl)) ?_
   with_reducible refine(gB.calls (rd (rd_L1 l0 Ad) Ae) Ba _ Dz.out).mono ?_
   rintro e w' ⟨rfl,⟨nd,rfl⟩⟩
   refine⟨_,rfl,?_⟩
   refine hK.out _ _ ⟨(kc HB Aq),(kc HB As),(kc HB Au),(kc HB Av),hHeld.2.2.2.2⟩ (fun hHeld=>?_)
   clear hK K
   refine norm_ (a':=?_) ?_ ?_
   rotate_left
   ·show Act.put _ (some 30) _=_
    exact acq
   refine one_ (i:=17) (N:=some 39) #[T,T,T,T,T,T,T,T,T,T,T,T,T,T,T,T,T,T,F,F,F,F,F] rfl rfl (one_of HT_.out (by kernel_rfl)) (by decide) (fun K hK=>?_)
   refine goes_ Try.func70 (by kernel_rfl) rfl #[.int .i64 (rd (rd_L1 l0 Ad) Ae)] (by rfl) rfl rfl (by(try simp only[List.map_toArray,List.map_cons,List.map_nil]);first|done|rfl|(simp only[List.length_drop,List.length_take];rfl)) ?_
   with_reducible refine(gB.calls (rd (rd_L1 l0 Ad) Ae) Ap _ Ea.out).mono ?_
   rintro e w' ⟨rfl,⟨nd,rfl⟩⟩
   refine⟨_,rfl,?_⟩
   obtain⟨Eb,Ec,Cr⟩:=Kd.R_slice Ak.out
   (first|subst Cr|(injection Cr with f1_ f2_ f3_;have f4_:=f1_.symm;have f5_:=f3_.symm;clear f1_ f2_ f3_;subst f4_;subst f5_))
   have Dk:0≤(Ba:Int):=od
   have Dl:(Ba:Int)<((Al.length:Int):Int):=od
   obtain⟨Ed,Ee,Cs,Ct,gl16,Ef,HG16⟩:=Kd.R_form Ak.out (by omega)
   (first|cases Cs|(injection Cs with ea_ en_ ec_;(first|subst ea_|(injection ea_ with ea_;subst ea_));subst ec_;clear en_))
   have GB16:=Az.mk Ct
   have Eg:=Az.mk HG16
   clear Ct gl16 HG16
   (first|simp only[add_plain]at Ax|skip)
   obtain⟨Dm,Dn⟩:=Kd.R_celln 0 Ak.out (Ba:Int) Dk Dl
   replace Dk:=ets Dk
   replace Dl:=ets Dl
   have Ce:=Kd.R_putn Ak.out (Ba:Int) (wrap64 ((rd Al Ap)+1))
   rw[←Cn.out]at Ce
   have Do:=Az.mk Ce
   clear Ce
   refine hK.out _ _ ⟨(kc HB Aq),(kc HB As),(kc HB Au),(kc HB Av),hHeld.2.2.2.2⟩ (fun hHeld=>?_)
   clear hK K
   refine norm_ (a':=?_) ?_ ?_
   rotate_left
   ·show Act.put _ (some 39) _=_
    exact acq
   refine pu (i:=18) (N:=some 40) #[T,T,T,T,T,T,T,T,T,T,T,T,T,T,T,T,T,T,T,F,F,F,F] (any_of HT_.out (by kernel_rfl)) ?_
   refine take_ (i:=19) (N:=some 41) (v:=?_) (a':=?_) #[T,T,T,T,T,T,T,T,T,T,T,T,T,T,T,T,T,T,T,T,F,F,F] rfl rfl (take_ofW HT_.out HW_.out (by kernel_rfl)) (fun _ _ _ h=>h) (Or.inl ⟨by rfl,?_⟩) hHeld ?_ ?_
   rotate_left
   ·rintro w' ⟨s0,s1,s2,s3,s4⟩
    try simp only[add_plain]at s4
    go_simp
    with_reducible rfl
   rotate_left
   ·exact acq
   refine pu (i:=20) (N:=some 42) #[T,T,T,T,T,T,T,T,T,T,T,T,T,T,T,T,T,T,T,T,T,F,F] (any_of HT_.out (by kernel_rfl)) ?_
   refine pu (i:=21) (N:=some 43) #[T,T,T,T,T,T,T,T,T,T,T,T,T,T,T,T,T,T,T,T,T,T,F] (any_of HT_.out (by kernel_rfl)) ?_
   refine last_ (i:=22) (N:=none) #[T,T,T,T,T,T,T,T,T,T,T,T,T,T,T,T,T,T,T,T,T,T,T] rfl rfl (one_of HT_.out (by kernel_rfl)) (by decide) (fun K hK=>?_)
   refine skip_ (w1:=?_) (by rfl) rfl ?_ ?_
   rotate_left
   ·go_simp
    rfl
   refine hK.out _ _ ?_
   clear hK K
   refine done_ (done_of HT_.out (by kernel_rfl)) ?_
   try go_wp2
   go_roundg k2
   case measure=>have:=HK1.out;have:=HK2.out;omega
   case rel=>exact⟨(Cm),(wrap64 (Ae+1)),rq2,H',⟨by have:=HK1.out;have:=HK2.out;omega⟩,⟨kR Do.out⟩,⟨bw_34⟩⟩
end
theorem bw_35 {n:Nat}{v v':World} (h:Below n v v':=by repeat(first|(with_reducible first|exact HB.out|apply bwA|apply pbN|apply bwD)|exact HB.out)):Below n v v':=h
mutual
def fS.l0:Nat→List (List Int)→Int→Int→Option (Bool)
 |0,_,_,_=>none
 |k+1,x0,x3,x4=>if x4<(x0.length:Int) then(if 0≤x4 then(if((rd_L1 x0 x4).length:Int)=0 then(some false) else((jD.f k (rd_L1 x0 x4)).bind fun t608=>(if t608=true then(fS.l0 k x0 (wrap64 (x3+((rd_L1 x0 x4).length:Int))) (wrap64 (x4+1))) else(some false)))) else(none)) else((fR.f (x0.length:Int) 1 4).bind fun t610=>(if t610=true then(fS.j1 k x0 (decide (x3>20))) else(fS.j1 k x0 true)))
def fS.j1:Nat→List (List Int)→Bool→Option (Bool)
 |0,_,_=>none
 |k+1,x0,x41=>if x41=true then(some false) else((fW.f k x0).bind fun t611=>(fS.l1 k t611 0))
def fS.l1:Nat→List Int→Int→Option (Bool)
 |0,_,_=>none
 |k+1,x5,x6=>if x6<(x5.length:Int) then(if 0≤x6 then(if(rd x5 x6)>2 then(some false) else(fS.l1 k x5 (wrap64 (x6+1)))) else(none)) else(some true)
end
def fS.f (k:Nat) (l0:List (List Int)):Option (Bool):=fS.l0 k l0 0 0
theorem fS.calls (k:Nat) (A0:Option Addr) (c0:Nat) (l0:List (List Int)) (r:Bool) (w:World) (Cz:Kd.C (Kd.slice 3 (Kd.int .i64)) w A0 l0.length l0) (Da:l0.length≤c0) (h:fS.f k l0=some r):
  Calls Try.prog 41 #[.slice A0 l0.length c0] w fun e w'=>e= .returned (.bool r)∧Below w.heap.size w w':=by
 have Bt:=Az.mk Cz
 have De:=Az.mk Da
 clear Cz Da
 have HB:=Az.mk (Below.refl w.heap.size w)
 have H:(fS.l0 k l0 0 0)=some r:=h
 clear h
 have H':=Az.mk H
 clear H
 go_enter Try.func41,Try.ntmps41
 go_wp2
 go_loopg [3,4] k (fun kq v3 v4 w'=>∃(Bl:Int) (Ae:Int),v3= .int .i64 Bl∧v4= .int .i64 Ae∧Az (fS.l0 kq l0 Bl Ae=some r)∧Az (kq≤k)∧Az (Below w.heap.size w w'))
 case atStart=>exact⟨(0),(0),rq2,rq2,H',⟨Nat.le_refl _⟩,⟨bw_35⟩⟩
 clear H'
 obtain⟨Bl,Ae,rfl,rfl,HA,HK1,HB⟩:=hrel
 cases gk with
 |zero=>exact absurd HA.out (by simp[fS.l0])
 |succ k1=>
  have H:=HA.out
  clear HA
  simp only[fS.l0]at H
  by_cases c2:Ae<(l0.length:Int)
  ·rw[ip c2]at H
   have Bu:=ode c2
   clear c2
   by_cases c3:0≤Ae
   rotate_left
   ·rw[ig c3]at H
    exact absurd H (by simp)
   rw[ip c3]at H
   have Cd:=ode c3
   clear c3
   by_cases c4:((rd_L1 l0 Ae).length:Int)=0
   ·rw[ip c4]at H
    have Bv:=beq_iff_eq.mpr c4
    have Bw:=bne_eq_false_iff_eq.mpr c4
    clear c4
    obtain rfl:=Option.some.inj H
    have Am:0≤(Ae:Int):=od
    have Ao:Ae<(l0.length:Int):=od
    obtain⟨Ax,Bm,Bn,Bo,Ad,Ag,Ah⟩:=at_L1 Bt.out Ae Am Ao
    cases Bo
    replace Ad:=kc HB Ad
    have Bd:=Az.mk Ah
    have Bf:=Az.mk Ag
    clear Ah Ag
    replace Am:=ets Am
    replace Ao:=ets Ao
    go_wp2
    go_ret
    exact⟨rq1,bw_35⟩
   rw[ig c4]at H
   have Bv:=beq_eq_false_iff_ne.mpr c4
   have Bw:=bne_iff_ne.mpr c4
   have Ce:¬((rd_L1 l0 Ae)=[]):=fun h_=>c4 (by rw[h_];rfl)
   replace H:=bez H
   obtain⟨Co,A5,H⟩:=H
   try dsimp only at H
   by_cases c6:Co=true
   rotate_left
   ·replace c6:=Bool.eq_false_iff.mpr c6
    subst c6
    rw[ig ff]at H
    obtain rfl:=Option.some.inj H
    have Am:0≤(Ae:Int):=od
    have Ao:Ae<(l0.length:Int):=od
    obtain⟨Ax,Bm,Bn,Bo,Ad,Ag,Ah⟩:=at_L1 Bt.out Ae Am Ao
    cases Bo
    replace Ad:=kc HB Ad
    have Bd:=Az.mk Ah
    have Bf:=Az.mk Ag
    clear Ah Ag
    replace Am:=ets Am
    replace Ao:=ets Ao
    have Ap:0≤(Ae:Int):=od
    have Aq:Ae<(l0.length:Int):=od
    obtain⟨Bp,Bx,By,Bz,Af,Aj,Ak⟩:=at_L1 Bt.out Ae Ap Aq
    obtain rfl:Ax=Bp:=(by injection Bz)
    replace Af:=kc HB Af
    have As:=Az.mk Ak
    have Au:=Az.mk Aj
    clear Ak Aj
    replace Ap:=ets Ap
    replace Aq:=ets Aq
    have ea_:=Option.some.inj (Ad.symm.trans Af)
    injection ea_ with ea_ en_ ec_
    subst ea_
    subst ec_
    clear en_
    go_wp2_with (first|(go_at_call 72;(with_reducible refine(jD.calls k1 _ _ (rd_L1 l0 Ae) false _ ?Ay ?Ba A5.out).mono ?_);(case Ay=>exact kC (Kd.C_below As.out HB.out));(case Ba=>exact Au.out);rintro e w' ⟨rfl,⟨nd,rfl⟩⟩))
    go_ret
    exact⟨rq1,bw_35⟩
   subst c6
   rw[ip rfl]at H
   have H':=Az.mk H
   clear H
   have Am:0≤(Ae:Int):=od
   have Ao:Ae<(l0.length:Int):=od
   obtain⟨Ax,Bm,Bn,Bo,Ad,Ag,Ah⟩:=at_L1 Bt.out Ae Am Ao
   cases Bo
   replace Ad:=kc HB Ad
   have Bd:=Az.mk Ah
   have Bf:=Az.mk Ag
   clear Ah Ag
   replace Am:=ets Am
   replace Ao:=ets Ao
   have Ap:0≤(Ae:Int):=od
   have Aq:Ae<(l0.length:Int):=od
   obtain⟨Bp,Bx,By,Bz,Af,Aj,Ak⟩:=at_L1 Bt.out Ae Ap Aq
   obtain rfl:Ax=Bp:=(by injection Bz)
   replace Af:=kc HB Af
   have As:=Az.mk Ak
   have Au:=Az.mk Aj
   clear Ak Aj
   replace Ap:=ets Ap
   replace Aq:=ets Aq
   have ea_:=Option.some.inj (Ad.symm.trans Af)
   injection ea_ with ea_ en_ ec_
   subst ea_
   subst ec_
   clear en_
   go_wp2_with (first|(go_at_call 72;(with_reducible refine(jD.calls k1 _ _ (rd_L1 l0 Ae) true _ ?Ay ?Ba A5.out).mono ?_);(case Ay=>exact kC (Kd.C_below As.out HB.out));(case Ba=>exact Au.out);rintro e w' ⟨rfl,⟨nd,rfl⟩⟩;have Bq:0≤(Ae:Int):=od;have Br:Ae<(l0.length:Int):=od;obtain⟨Cf,Cp,Cq,Cr,Al,Bh,Bi⟩:=at_L1 Bt.out Ae Bq Br;obtain rfl:Ax=Cf:=(by injection Cr);replace Al:=kc HB Al;have Cl:=Az.mk Bi;have Cm:=Az.mk Bh;clear Bi Bh;replace Bq:=ets Bq;replace Br:=ets Br;have ea_:=Option.some.inj (Ad.symm.trans Al);injection ea_ with ea_ en_ ec_;subst ea_;subst ec_;clear en_))
   go_roundg k1
   case measure=>have:=HK1.out;omega
   case rel=>exact⟨(wrap64 (Bl+((rd_L1 l0 Ae).length:Int))),(wrap64 (Ae+1)),rq2,rq2,H',⟨by have:=HK1.out;omega⟩,⟨bw_35⟩⟩
  rw[ig c2]at H
  have Bu:=decide_eq_false c2
  clear c2
  have Cs:=Az.mk H
  clear H
  go_upto_region 8 with (fail)
  go_cut [41] (fun Df wc=>∃(kq:Nat) (Bj:Bool),Df= .bool Bj∧Az (fS.j1 kq l0 Bj=some r)∧Az (kq≤k1)∧Az (Below w.heap.size w wc))
  case first=>
   have H:=Cs.out
   clear Cs
   replace H:=bez H
   obtain⟨Ct,A8,H⟩:=H
   try dsimp only at H
   by_cases c9:Ct=true
   ·subst c9
    rw[ip rfl]at H
    have H':=Az.mk H
    clear H
    go_wp2_with (first|((with_reducible refine gtC (f:=42) rfl ?_);refine clz Try.func42 (some 36) #[.int .i64 (l0.length:Int), .int .i64 1, .int .i64 4] ?_;(with_reducible refine(fR.calls (l0.length:Int) 1 4 true _ A8.out).mono ?_);rintro e w' ⟨rfl,⟨nd,rfl⟩⟩;refine⟨_,rfl,?_⟩))
    go_meet
    case rel=>exact⟨_,(decide (Bl>20)),rq2,H',⟨by have:=HK1.out;first|omega|exact Nat.le_refl _⟩,⟨bw_35⟩⟩
   replace c9:=Bool.eq_false_iff.mpr c9
   subst c9
   rw[ig ff]at H
   have H':=Az.mk H
   clear H
   go_wp2_with (first|((with_reducible refine gtC (f:=42) rfl ?_);refine clz Try.func42 (some 36) #[.int .i64 (l0.length:Int), .int .i64 1, .int .i64 4] ?_;(with_reducible refine(fR.calls (l0.length:Int) 1 4 false _ A8.out).mono ?_);rintro e w' ⟨rfl,⟨nd,rfl⟩⟩;refine⟨_,rfl,?_⟩))
   go_meet
   case rel=>exact⟨_,(true),rq2,H',⟨by have:=HK1.out;first|omega|exact Nat.le_refl _⟩,⟨bw_35⟩⟩
  clear Cs
  try clear c2
  try clear Bu
  try clear c3
  try clear Cd
  try clear c4
  try clear Bv
  try clear Bw
  try clear Ce
  try clear c6
  try clear c9
  try clear Ad
  try clear Af
  try clear Al
  try clear Am
  try clear Ap
  try clear Bq
  try clear Ao
  try clear Aq
  try clear Br
  obtain⟨kq,Bj,rfl,HA,Db,HB⟩:=hcut
  cases kq with
  |zero=>exact absurd HA.out (by simp[fS.j1])
  |succ Cu=>
   have H:=HA.out
   clear HA
   simp only[fS.j1]at H
   by_cases Cg:Bj=true
   ·subst Cg
    rw[ip rfl]at H
    obtain rfl:=Option.some.inj H
    go_wp2
    go_ret
    exact⟨rq1,bw_35⟩
   replace Cg:=Bool.eq_false_iff.mpr Cg
   subst Cg
   rw[ig ff]at H
   replace H:=bez H
   obtain⟨Av,Dg,H⟩:=H
   try dsimp only at H
   have H':=Az.mk H
   clear H
   go_wp2_with (first|((with_reducible refine gtC (f:=73) rfl ?_);refine clz Try.func73 (some 43) #[.slice A0 l0.length c0] ?_;(with_reducible refine(fW.calls Cu _ _ l0 Av _ ?Ay ?Ba Dg.out).mono ?_);(case Ay=>exact kC (Kd.C_below Bt.out HB.out));(case Ba=>exact De.out);rintro e Dn ⟨Cv,rfl,Dc,hb⟩;refine⟨_,rfl,?_⟩;have Ch:=Az.mk (Kd.R_lower Dc (bwZ bw_35));replace HB:=Az.mk (bwT bw_35 hb);(try clear hb);(try clear Dc)))
   go_loopg [6] Cu (fun kq v6 w'=>∃(Ai:Int),v6= .int .i64 Ai∧Az (fS.l1 kq Av Ai=some r)∧Az (kq≤Cu)∧Az (Kd.R (Kd.int .i64) 3 w' w.heap.size (fun _=>True) Cv Av)∧Az (Below w.heap.size w w'))
   case atStart=>exact⟨(0),rq2,H',⟨Nat.le_refl _⟩,⟨kR Ch.out⟩,⟨bw_35⟩⟩
   clear H'
   try clear c2
   try clear Bu
   try clear c3
   try clear Cd
   try clear c4
   try clear Bv
   try clear Bw
   try clear Ce
   try clear c6
   try clear c9
   try clear Cg
   try clear Ad
   try clear Af
   try clear Al
   try clear Am
   try clear Ap
   try clear Bq
   try clear Ao
   try clear Aq
   try clear Br
   obtain⟨Ai,rfl,HA,HK3,Bk,HB⟩:=hrel
   cases gk with
   |zero=>exact absurd HA.out (by simp[fS.l1])
   |succ k3=>
    have H:=HA.out
    clear HA
    simp only[fS.l1]at H
    by_cases Cb:Ai<(Av.length:Int)
    rotate_left
    ·rw[ig Cb]at H
     have Ci:=decide_eq_false Cb
     clear Cb
     obtain rfl:=Option.some.inj H
     obtain⟨Dh,Di,Cw⟩:=Kd.R_slice Bk.out
     subst Cw
     go_wp2
     go_ret
     exact⟨rq1,bw_35⟩
    rw[ip Cb]at H
    have Ci:=ode Cb
    clear Cb
    by_cases Cn:0≤Ai
    rotate_left
    ·rw[ig Cn]at H
     exact absurd H (by simp)
    rw[ip Cn]at H
    have Dd:=ode Cn
    clear Cn
    by_cases Cc:(rd Av Ai)>2
    ·rw[ip Cc]at H
     have Cj:decide (2<(rd Av Ai))=true:=ode Cc
     clear Cc
     obtain rfl:=Option.some.inj H
     obtain⟨Dj,Dk,Cx⟩:=Kd.R_slice Bk.out
     subst Cx
     have Bb:0≤(Ai:Int):=od
     have Bc:Ai<(Av.length:Int):=od
     obtain⟨Ck,Ca,Bs⟩:=Kd.at_int (Kd.R_reads' Bk.out).2.2 Ai Bb Bc
     cases Ca
     replace Bb:=ets Bb
     replace Bc:=ets Bc
     go_wp2
     go_ret
     exact⟨rq1,bw_35⟩
    rw[ig Cc]at H
    have Cj:decide (2<(rd Av Ai))=false:=decide_eq_false Cc
    clear Cc
    have H':=Az.mk H
    clear H
    obtain⟨Dl,Dm,Cy⟩:=Kd.R_slice Bk.out
    subst Cy
    have Bb:0≤(Ai:Int):=od
    have Bc:Ai<(Av.length:Int):=od
    obtain⟨Ck,Ca,Bs⟩:=Kd.at_int (Kd.R_reads' Bk.out).2.2 Ai Bb Bc
    cases Ca
    replace Bb:=ets Bb
    replace Bc:=ets Bc
    go_wp2
    go_roundg k3
    case measure=>have:=HK1.out;have:=Db.out;have:=HK3.out;omega
    case rel=>exact⟨(wrap64 (Ai+1)),rq2,H',⟨by have:=HK1.out;have:=Db.out;have:=HK3.out;omega⟩,⟨kR Bk.out⟩,⟨bw_35⟩⟩
theorem bw_36 {n:Nat}{v v':World} (h:Below n v v':=by repeat(first|(with_reducible first|exact HB.out|apply bwA|apply pbN|apply bwD)|exact HB.out)):Below n v v':=h
def gU.l0:Nat→List (List Int)→List (List Int)→Int→Option ((List (List Int)))
 |0,_,_,_=>none
 |k+1,x0,x3,x4=>if x4<(x0.length:Int) then((some (([]:List Int):List Int)).bind fun y618=>(if 0≤x4 then(if y618.length+(rd_L1 x0 x4).length<17592186044416 then(if x3.length<5864062014805 then(gU.l0 k x0 (x3 ++ [(y618 ++ (rd_L1 x0 x4))]) (wrap64 (x4+1))) else(none)) else(none)) else(none))) else(some x3)
def gU.f (k:Nat) (l0:List (List Int)):Option ((List (List Int))):=gU.l0 k l0 (([]:List (List Int))) 0
theorem gU.calls (k:Nat) (A0:Option Addr) (c0:Nat) (l0:List (List Int)) (r:List (List Int)) (w:World) (Bq:Kd.C (Kd.slice 3 (Kd.int .i64)) w A0 l0.length l0) (Br:l0.length≤c0) (h:gU.f k l0=some r):
  Calls Try.prog 74 #[.slice A0 l0.length c0] w fun e w'=>∃v0_:Value,e= .returned (v0_)∧Kd.S (Kd.slice 3 (Kd.int .i64)) 25 w' w.heap.size (fun _=>True) v0_ r∧Below w.heap.size w w':=by
 have Bt:=Az.mk Bq
 have By:=Az.mk Br
 clear Bq Br
 have HB:=Az.mk (Below.refl w.heap.size w)
 have H:(gU.l0 k l0 (([]:List (List Int))) 0)=some r:=h
 clear h
 obtain⟨Ax,hy⟩:∃y_:List (List Int),y_=(([]:List (List Int))):=⟨_,rfl⟩
 replace H:(gU.l0 k l0 Ax 0)=some r:=rh
 have Ao:=Az.mk hy
 clear hy
 have H':=Az.mk H
 clear H
 go_enter Try.func74,Try.ntmps74
 go_wp2_with (first|((with_reducible refine gtD (N:=5) rfl ?_);refine Kd.S_lit (Kd.slice 3 (Kd.int .i64)) _ 25 ?hg (N:=5) ?hd (xs:=([]:List (List Int))) (inner:=[]) (ok:=fun _=>True) (okp:=fun _=>True) ?hr ?hp (fun _ hk=>hk) trivial (Below.refl _ _) (Nat.le_refl _) (by simp) ?_;(case hd=>rfl);(case hg=>rfl);(case hr=>first|(go_simp;done)|(go_simp;rfl));(case hp=>exact(Reps.none _ _));intro Bu w2 Ay hb hg_ hnew_;clear hg_ hnew_;(first|rw[←Ao.out]at Ay|(simp only[Int.reduceToNat]at Ay;rw[←Ao.out]at Ay));have Ba:=Az.mk (Kd.S_lower Ay (bwZ bw_36));replace HB:=Az.mk (bwT bw_36 hb);clear hb Ay))
 go_loopg [3,4] k (fun kq v3 v4 w'=>∃(Ae:List (List Int)) (Ad:Int),v4= .int .i64 Ad∧Az (gU.l0 kq l0 Ae Ad=some r)∧Az (kq≤k)∧Az (Kd.S (Kd.slice 3 (Kd.int .i64)) 25 w' w.heap.size (fun _=>True) v3 Ae)∧Az (Below w.heap.size w w'))
 case atStart=>exact⟨(Ax),(0),rq2,H',⟨Nat.le_refl _⟩,⟨kS Ba.out⟩,⟨bw_36⟩⟩
 clear H'
 obtain⟨Ae,Ad,rfl,HA,HK1,Af,HB⟩:=hrel
 cases gk with
 |zero=>exact absurd HA.out (by simp[gU.l0])
 |succ k1=>
  have H:=HA.out
  clear HA
  simp only[gU.l0]at H
  by_cases c4:Ad<(l0.length:Int)
  rotate_left
  ·rw[ig c4]at H
   have Bk:=decide_eq_false c4
   clear c4
   obtain rfl:=Option.some.inj H
   go_wp2
   go_ret
   exact⟨_,rq1,kS Af.out,bw_36⟩
  rw[ip c4]at H
  have Bk:=ode c4
  clear c4
  obtain⟨Ak,hy⟩:∃y_:List Int,y_=(([]:List Int)):=⟨_,rfl⟩
  replace H:(if 0≤Ad then(if Ak.length+(rd_L1 l0 Ad).length<17592186044416 then(if Ae.length<5864062014805 then(gU.l0 k1 l0 (Ae ++ [(Ak ++ (rd_L1 l0 Ad))]) (wrap64 (Ad+1))) else(none)) else(none)) else(none))=some r:=rh
  have Ap:=Az.mk hy
  clear hy
  by_cases c5:0≤Ad
  rotate_left
  ·rw[ig c5]at H
   exact absurd H (by simp)
  rw[ip c5]at H
  have Bv:=ode c5
  clear c5
  by_cases c6:Ak.length+(rd_L1 l0 Ad).length<17592186044416
  rotate_left
  ·rw[ig c6]at H
   exact absurd H (by simp)
  rw[ip c6]at H
  have LMc6:=Az.mk c6
  clear c6
  obtain⟨Al,hy⟩:∃y_:List Int,y_=(Ak ++ (rd_L1 l0 Ad)):=⟨_,rfl⟩
  replace H:(if Ae.length<5864062014805 then(gU.l0 k1 l0 (Ae ++ [Al]) (wrap64 (Ad+1))) else(none))=some r:=rh
  have Bb:=Az.mk hy
  clear hy
  by_cases c7:Ae.length<5864062014805
  rotate_left
  ·rw[ig c7]at H
   exact absurd H (by simp)
  rw[ip c7]at H
  have LMc7:=Az.mk c7
  clear c7
  obtain⟨Bc,hy⟩:∃y_:List (List Int),y_=(Ae ++ [Al]):=⟨_,rfl⟩
  replace H:(gU.l0 k1 l0 Bc (wrap64 (Ad+1)))=some r:=rh
  have Bd:=Az.mk hy
  clear hy
  have H':=Az.mk H
  clear H
  go_wp2_with (first|((with_reducible refine gtD (N:=13) rfl ?_);refine Kd.R_lit (Kd.int .i64) _ 3 ?hg (N:=13) ?hd (xs:=([]:List Int)) (inner:=[]) (ok:=fun _=>True) (okp:=fun _=>True) ?hr ?hp (fun _ hk=>hk) trivial (Below.refl _ _) (Nat.le_refl _) (by simp) ?_;(case hd=>rfl);(case hg=>rfl);(case hr=>first|(go_simp;done)|(go_simp;rfl));(case hp=>exact(Reps.none _ _));intro Bl w8 Av hb hg_ hnew_;clear hg_ hnew_;(first|rw[←Ap.out]at Av|(simp only[Int.reduceToNat]at Av;rw[←Ap.out]at Av));replace Af:=Az.mk (Kd.S_elder' (kS Af.out) (Kd.R_base Av) hb);have Aq:=Az.mk (Kd.R_lower Av (bwZ bw_36));replace HB:=Az.mk (bwT bw_36 hb);clear hb Av;have As:0≤(Ad:Int):=od;have Au:Ad<(l0.length:Int):=od;obtain⟨Bs,Bm,Bn,Bo,Ag,Ah,Ai⟩:=at_L1 Bt.out Ad As Au;cases Bo;replace Ag:=kc HB Ag;have Am:=Az.mk Ai;have Bj:=Az.mk Ah;clear Ai Ah;replace As:=ets As;replace Au:=ets Au)|((with_reducible refine gate_builtin (b:= .append) (xs:= #[.tmp 13, .tmp 17]) rfl ?_);at_builtin;refine Kd.R_append_rows (Kd.int .i64) (w0:=w) w.heap.size rfl (.tmp 13) (.tmp 17) 25 3 (.int .i64 0) 8 rfl Try.underlying25 info3 rfl (by decide) (by omega) Bl Ak (rd_L1 l0 Ad) _ _ _ (fun _=>True) (fun _=>False) rfl rfl ?aO ?aR (fun _ _ h=>h) (fun _ h=>h.elim) ?aF ?aB ?aS ?aL ?_;(case aR=>exact kC (Kd.C_below Am.out HB.out));(case aB=>exact bw_36);(case aF=>exact(fun _ _=>trivial));(case aO=>exact(kR Aq.out));(case aS=>exact(bwZ bw_36));(case aL=>have:=LMc6.out;omega);intro Bw Bz ho hb hg hat;rw[←Bb.out]at ho;have n0_:=Az.mk (Kd.S_after (ok:=(fun _=>True)) (kS Af.out) hg hat);have n1_:=Az.mk (hb);have n2_:=Az.mk (ho);clear Af;clear HB;clear Aq;have Af:=n0_;have HB:=n1_;have Aj:=n2_;clear n0_ n1_ n2_;clear ho hb hg hat;obtain⟨Bf,Bh,Bp⟩:=Kd.R_slice Aj.out;subst Bp)|((with_reducible refine gate_builtin (b:= .append) (xs:= #[.tmp 12, .tmp 19]) rfl ?_);at_builtin;refine Kd.S_append (Kd.slice 3 (Kd.int .i64)) (w0:=w) w.heap.size rfl (.tmp 12) (.tmp 19) 24 25 (.slice none 0 0) 24 rfl Try.underlying24 info25 rfl (by decide) (by omega) u3 Ae Al [.slice Bf Al.length Bh] (fun _=>True) (fun k_=>some k_=(.slice Bf Al.length Bh:Value).ownBlock) rfl rfl ?aP (fun k_ hk_=>((Kd.R_mono (ok':=fun k_=>((fun _=>True)) k_∧some k_≠(u3:Value).ownBlock) (Kd.R_apart' (Aj.out) (Kd.S_typed Af.out) (by decide)) (fun k_ hk=>⟨trivial,hk.2⟩))).1 k_ hk_.symm) ?aF ?aO ?aB ?aS ?aL ?_;(case aP=>exact Kd.M_row (Kd.R_mono (Kd.R_tight rfl (Kd.R_mono (ok':=fun k_=>((fun _=>True)) k_∧some k_≠(u3:Value).ownBlock) (Kd.R_apart' (Aj.out) (Kd.S_typed Af.out) (by decide)) (fun k_ hk=>⟨trivial,hk.2⟩))) (fun _ h_=>h_)));(case aB=>exact bw_36);(case aF=>exact(fun _ _=>trivial));(case aO=>exact(by(with_reducible repeat(first|apply Kd.S_alloc|apply Kd.S_drewN|apply Kd.S_drew));exact Kd.S_mono Af.out (fun k_ hk=>⟨trivial,fun e_=>hk.2 e_⟩)));(case aS=>exact(bwZ bw_36));(case aL=>have:=LMc7.out;omega);intro Bx Ca ho hb hg hat;rw[←Bd.out]at ho;have n0_:=Az.mk (hb);have n1_:=Az.mk (ho);clear HB;clear Af;clear Aj;have HB:=n0_;have Bi:=n1_;clear n0_ n1_;clear ho hb hg hat))
  go_roundg k1
  case measure=>have:=HK1.out;omega
  case rel=>exact⟨(Bc),(wrap64 (Ad+1)),rq2,H',⟨by have:=HK1.out;omega⟩,⟨kS Bi.out⟩,⟨bw_36⟩⟩
def jX.f (k:Nat) (l0:List (List Int)):Option ((List (List Int)) × Bool):=(fS.f k l0).bind fun t628=>(if t628=true then(some (l0,true)) else(some ((([]:List (List Int))),false)))
theorem jX.calls (k:Nat) (P0_:Nat→Prop) (A0:Option Addr) (c0:Nat) (l0:List (List Int)) (r1:List (List Int)) (r2:Bool) (w:World) (hs0:Kd.V (Kd.slice 3 (Kd.int .i64)) 25 w w.heap.size (fun k_=>P0_ k_) (.slice A0 l0.length c0) l0) (h:jX.f k l0=some (r1,r2)):
  Calls Try.prog 75 #[.slice A0 l0.length c0] w fun e w'=>∃v0_:Value,e= .returned (.tuple #[v0_, .bool r2])∧Kd.V (Kd.slice 3 (Kd.int .i64)) 25 w' w.heap.size (fun k_=>(P0_ k_∨w.heap.size≤k_)) v0_ r1∧Below w.heap.size w w':=by
 have Ad:=Az.mk (show Kd.V (Kd.slice 3 (Kd.int .i64)) 25 w w.heap.size (fun k_=>(P0_ k_∨w.heap.size≤k_)) (.slice A0 l0.length c0) l0 from Kd.V_mono hs0 (fun k_ hk=> .inl hk))
 have HB:=Az.mk (Below.refl w.heap.size w)
 have H:((fS.f k l0).bind fun Ah=>(if Ah=true then(some (l0,true)) else(some ((([]:List (List Int))),false))))=some (r1,r2):=h
 clear h
 replace H:=bez H
 obtain⟨Ah,A2,H⟩:=H
 try dsimp only at H
 by_cases c3:Ah=true
 ·subst c3
  rw[ip rfl]at H
  simp only[Option.some.injEq,Prod.mk.injEq]at H
  obtain⟨rfl,rfl⟩:=H
  go_enter Try.func75,Try.ntmps75
  go_wp2_with (first|((with_reducible refine gtC (f:=41) rfl ?_);refine clz Try.func41 (some 5) #[.slice A0 l0.length c0] ?_;(with_reducible refine(fS.calls k _ _ l0 true _ ?Ae ?Af A2.out).mono ?_);(case Ae=>exact kC (Kd.V_reads' Ad.out).2.2);(case Af=>exact(Kd.V_reads' Ad.out).2.1);rintro e w4 ⟨rfl,hb⟩;refine⟨_,rfl,?_⟩;replace Ad:=Az.mk (Kd.V_below (by(with_reducible repeat(first|apply Kd.V_alloc|apply Kd.V_drewN|apply Kd.V_drew));exact Ad.out) hb);replace HB:=Az.mk (bwT bw_36 hb);(try clear hb)))
  go_ret2
  exact⟨_,rq1,by(with_reducible repeat(first|apply Kd.V_alloc|apply Kd.V_drewN|apply Kd.V_drew));exact Ad.out,bw_36⟩
 replace c3:=Bool.eq_false_iff.mpr c3
 subst c3
 rw[ig ff]at H
 obtain⟨Ak,hy⟩:∃y_:List (List Int),y_=(([]:List (List Int))):=⟨_,rfl⟩
 replace H:(some (Ak,false))=some (r1,r2):=rh
 have Ag:=Az.mk hy
 clear hy
 simp only[Option.some.injEq,Prod.mk.injEq]at H
 obtain⟨rfl,rfl⟩:=H
 go_enter Try.func75,Try.ntmps75
 go_wp2_with (first|((with_reducible refine gtC (f:=41) rfl ?_);refine clz Try.func41 (some 5) #[.slice A0 l0.length c0] ?_;(with_reducible refine(fS.calls k _ _ l0 false _ ?Ae ?Af A2.out).mono ?_);(case Ae=>exact kC (Kd.V_reads' Ad.out).2.2);(case Af=>exact(Kd.V_reads' Ad.out).2.1);rintro e w5 ⟨rfl,hb⟩;refine⟨_,rfl,?_⟩;replace Ad:=Az.mk (Kd.V_below (by(with_reducible repeat(first|apply Kd.V_alloc|apply Kd.V_drewN|apply Kd.V_drew));exact Ad.out) hb);replace HB:=Az.mk (bwT bw_36 hb);(try clear hb))|((with_reducible refine gtD (N:=7) rfl ?_);refine Kd.S_lit (Kd.slice 3 (Kd.int .i64)) _ 25 ?hg (N:=7) ?hd (xs:=([]:List (List Int))) (inner:=[]) (ok:=fun _=>True) (okp:=fun _=>True) ?hr ?hp (fun _ hk=>hk) trivial (Below.refl _ _) (Nat.le_refl _) (by simp) ?_;(case hd=>rfl);(case hg=>rfl);(case hr=>first|(go_simp;done)|(go_simp;rfl));(case hp=>exact(Reps.none _ _));intro Al w6 Ai hb hg_ hnew_;clear hg_ hnew_;(first|rw[←Ag.out]at Ai|(simp only[Int.reduceToNat]at Ai;rw[←Ag.out]at Ai));replace Ad:=Az.mk (Kd.V_elder' (by(with_reducible repeat(first|apply Kd.V_alloc|apply Kd.V_drewN|apply Kd.V_drew));exact Ad.out) (Kd.S_base Ai) hb);have Aj:=Az.mk (Kd.S_lower (Kd.S_newM (M:=fun k_=>(w.heap.size≤k_)) Ai (bwZ bw_36) (fun k_ h_=>h_)) (bwZ bw_36));replace HB:=Az.mk (bwT bw_36 hb);clear hb Ai))
 go_ret2
 exact⟨_,rq1,Kd.V_mono (Kd.S_V (by(with_reducible repeat(first|apply Kd.S_alloc|apply Kd.S_drewN|apply Kd.S_drew));exact Kd.S_mono Aj.out (fun _ hk=>hk.1))) (fun k_ hk=>by first|exact⟨(.inr (hk.1)),hk.2⟩|exact(.inr (hk))),bw_36⟩
def mF.f (k:Nat) (l0:List (List Int)) (a1:Int) (l2:List Int):Option ((List (List Int)) × Bool):=(gU.f k l0).bind fun t632=>(if 0≤a1 then(if a1<(t632.length:Int) then((jX.f k (t632.set (a1:Int).toNat l2)).bind fun bt636=>(some (bt636.1,bt636.2))) else(none)) else(none))
theorem mF.calls (k:Nat) (A0:Option Addr) (c0:Nat) (l0:List (List Int)) (a1:Int) (P2_:Nat→Prop) (A2:Option Addr) (c2:Nat) (l2:List Int) (r1:List (List Int)) (r2:Bool) (w:World) (Bn:Kd.C (Kd.slice 3 (Kd.int .i64)) w A0 l0.length l0) (Bo:l0.length≤c0) (hs2:Kd.V (Kd.int .i64) 3 w w.heap.size (fun k_=>P2_ k_) (.slice A2 l2.length c2) l2) (h:mF.f k l0 a1 l2=some (r1,r2)):
  Calls Try.prog 43 #[.slice A0 l0.length c0, .int .i64 a1, .slice A2 l2.length c2] w fun e w'=>∃v0_:Value,e= .returned (.tuple #[v0_, .bool r2])∧Kd.V (Kd.slice 3 (Kd.int .i64)) 25 w' w.heap.size (fun k_=>(P2_ k_∨w.heap.size≤k_)) v0_ r1∧Below w.heap.size w w':=by
 have Bt:=Az.mk Bn
 have Bu:=Az.mk Bo
 clear Bn Bo
 have Al:=Az.mk (show Kd.V (Kd.int .i64) 3 w w.heap.size (fun k_=>(P2_ k_∨w.heap.size≤k_)) (.slice A2 l2.length c2) l2 from Kd.V_mono hs2 (fun k_ hk=> .inl hk))
 have HB:=Az.mk (Below.refl w.heap.size w)
 have H:((gU.f k l0).bind fun Ae=>(if 0≤a1 then(if a1<(Ae.length:Int) then((jX.f k (Ae.set (a1:Int).toNat l2)).bind fun Af=>(some (Af.1,Af.2))) else(none)) else(none)))=some (r1,r2):=h
 clear h
 replace H:=bez H
 obtain⟨Ae,A4,H⟩:=H
 try dsimp only at H
 by_cases c5:0≤a1
 rotate_left
 ·rw[ig c5]at H
  exact absurd H (by simp)
 rw[ip c5]at H
 have Bv:=ode c5
 clear c5
 by_cases c6:a1<(Ae.length:Int)
 rotate_left
 ·rw[ig c6]at H
  exact absurd H (by simp)
 rw[ip c6]at H
 have Bw:=ode c6
 clear c6
 obtain⟨Ag,hy⟩:∃y_:List (List Int),y_=(Ae.set (a1:Int).toNat l2):=⟨_,rfl⟩
 replace H:((jX.f k Ag).bind fun Af=>(some (Af.1,Af.2)))=some (r1,r2):=rh
 have Au:=Az.mk hy
 clear hy
 replace H:=bez H
 obtain⟨⟨Bi,Bj⟩,A8,H⟩:=H
 try dsimp only at H
 simp only[Option.some.injEq,Prod.mk.injEq]at H
 obtain⟨rfl,rfl⟩:=H
 go_enter Try.func43,Try.ntmps43
 go_wp2_with (first|((with_reducible refine gtC (f:=74) rfl ?_);refine clz Try.func74 (some 12) #[.slice A0 l0.length c0] ?_;(with_reducible refine(gU.calls k _ _ l0 Ae _ ?Ah ?Av A4.out).mono ?_);(case Ah=>exact kC Bt.out);(case Av=>exact Bu.out);rintro e w9 ⟨Bx,rfl,As,hb⟩;refine⟨_,rfl,?_⟩;replace Al:=Az.mk (Kd.V_elder' (by(with_reducible repeat(first|apply Kd.V_alloc|apply Kd.V_drewN|apply Kd.V_drew));exact Al.out) (Kd.S_base As) hb);have Ad:=Az.mk (Kd.N_lower (Kd.N_mono (ok':=fun k_=>(P2_ k_∨w.heap.size≤k_)) (Kd.S_N (Kd.S_bound As)) (fun k_ hk_=>(.inr (Nat.le_trans (bwZ bw_36) hk_.2.1)))) (bwZ bw_36));replace HB:=Az.mk (bwT bw_36 hb);(try clear hb);(try clear As);have p7:0≤(a1:Int):=od;have q7:(a1:Int)<((Ae.length:Int):Int):=od;obtain⟨Ak,Ax,Bp,Bq,gl7,Cb,HG7⟩:=Kd.N_form Ad.out (by omega);(first|cases Bp|(injection Bp with ea_ en_ ec_;(first|subst ea_|(injection ea_ with ea_;subst ea_));subst ec_;clear en_));have By:=Az.mk Bq;have Cc:=Az.mk HG7;clear Bq gl7 HG7;obtain⟨Cd,Bk,Br,Ay,Ba⟩:=Kd.N_elem Ad.out [] (a1:Int) p7 q7;obtain⟨ua7_0,uc7_0,rfl,ul7_0,Bs⟩:=Kd.FK_slice_open Br;have Bb:=Ay 0 _ rfl;have Bc:=Ba 0;(try simp only[show((Kd.slice 3 (Kd.int .i64))).sz=1 from rfl,Nat.mul_one,Nat.add_zero]at Bb);(try simp only[show((Kd.slice 3 (Kd.int .i64))).sz=1 from rfl,Nat.mul_one,Nat.add_zero]at Bc);(try clear Bk);(try clear Ay);(try clear Ba);(try clear Br);replace p7:=ets p7;replace q7:=ets q7;have Bd:=Az.mk (show Kd.N (Kd.slice 3 (Kd.int .i64)) 25 w9 w.heap.size (fun k_=>(P2_ k_∨w.heap.size≤k_)) (.slice (some ⟨Ak,0,none⟩) Ae.length Ax) Ae from(by(with_reducible repeat(first|apply Kd.N_alloc|apply Kd.N_drewN|apply Kd.N_drew));exact Ad.out));obtain⟨Bz,Am,Bf,Ai,Ao⟩:=Kd.N_elem Bd.out [] (a1:Int) (od) (by have h_:(a1:Int)<((Ae.length:Int):Int):=od;first|exact h_|(have e_:=(Kd.N_reads' Ad.out).1;omega)|simpa using h_);obtain⟨ua10_0,uc10_0,rfl,ul10_0,Bl⟩:=Kd.FK_slice_open Bf;have Aj:=Kd.N_seg Bd.out (a1:Int) (od) (by have h_:(a1:Int)<((Ae.length:Int):Int):=od;first|exact h_|(have e_:=(Kd.N_reads' Ad.out).1;omega)|simpa using h_) (seg:=[.slice A2 l2.length c2]) (j:=0) Am Ai (show 1≤1 from by decide) (x':=l2) (Kd.FK_slice_mk (Kd.V_reads' (Kd.V_mono (ok':=(fun k_=>((fun k_=>(P2_ k_∨w.heap.size≤k_))) k_∧k_≠Ak)) (Al.out) (fun k_ hk=>⟨hk.1,fun e_=>(hk.2) (by rw[e_];rfl)⟩))).2.1 (Kd.V_F (Kd.V_mono (ok':=(fun k_=>((fun k_=>(P2_ k_∨w.heap.size≤k_))) k_∧k_≠Ak)) (Al.out) (fun k_ hk=>⟨hk.1,fun e_=>(hk.2) (by rw[e_];rfl)⟩)))) (fun _ hk=>hk);have Ap:=Ai 0 _ rfl;(try simp only[show((Kd.slice 3 (Kd.int .i64))).sz=1 from rfl,Nat.mul_one,Nat.add_zero]at Ap);have Aq:=Ao 0;(try simp only[show((Kd.slice 3 (Kd.int .i64))).sz=1 from rfl,Nat.mul_one,Nat.add_zero]at Aq);(try clear Am);(try clear Ai);(try clear Ao);(try clear Bf);(try simp only[show((Kd.slice 3 (Kd.int .i64))).sz=1 from rfl,Nat.mul_one,Nat.add_zero]at Aj);(try simp only[show((Kd.slice 3 (Kd.int .i64))).sz=1 from rfl,Nat.mul_one,Nat.add_zero]at Aj))|((with_reducible refine gate_store (t:=25) (p:=16) rfl ?_);refine store_event (t:=25) (p:=16) (v:=?vo_w11) (w1:=(w9.setCell ⟨Ak,(a1:Int).toNat,none⟩ (.slice A2 l2.length c2))) ?hg ?ho ?hn ?hr ?_;(case ho=>rfl);(case hg=>rfl);(case hn=>rfl);(case hr=>first|(go_simp;done)|(go_simp;rfl));intro Bm hw;have hg:w9.grownBy Bm (some Ak):=(by rw[hw];exact Aj.2);have hp_:Kd.N (Kd.slice 3 (Kd.int .i64)) 25 Bm w.heap.size (fun k_=>(P2_ k_∨w.heap.size≤k_)) (.slice (some ⟨Ak,0,none⟩) Ae.length Ax) Ag:=(by rw[hw,Au.out];exact Aj.1);clear Aj;replace Al:=Az.mk (Kd.V_afterv (v:=(.slice (some ⟨Ak,0,none⟩) Ae.length Ax)) (v1:=(.slice (some ⟨Ak,0,none⟩) Ae.length Ax)) (ok:=(fun k_=>(P2_ k_∨w.heap.size≤k_))) (by(with_reducible repeat(first|apply Kd.V_alloc|apply Kd.V_drewN|apply Kd.V_drew));exact Al.out) hg (.inl rfl));replace Ad:=Az.mk (hp_);replace HB:=Az.mk ((by rw[hw];exact bwS (HB.out) By.out:Below w.heap.size w Bm));clear hg hw hp_)|((with_reducible refine gtC (f:=75) rfl ?_);refine goesL_ (some 19) rfl rfl Try.func75 (by kernel_rfl) rfl #[.slice (some ⟨Ak,0,none⟩) Ag.length Ax] rfl (by(try simp only[List.map_toArray,List.map_cons,List.map_nil]);first|done|(rw[show Ag.length=Ae.length from(Kd.N_reads' Ad.out).1.symm] <;> rfl)|rfl|(simp only[List.length_drop,List.length_take];rfl)) ?_;(with_reducible refine(jX.calls k (fun k_=>(P2_ k_∨w.heap.size≤k_)) _ _ Ag Bi Bj _ ?Ah A8.out).mono ?_);(case Ah=>rw[show Ag.length=Ae.length from(Kd.N_reads' Ad.out).1.symm];exact Kd.N_V (Ad.out));rintro e Ce ⟨Ca,rfl,As,hb⟩;refine⟨_,rfl,?_⟩;replace Al:=Az.mk (Kd.V_below (by(with_reducible repeat(first|apply Kd.V_alloc|apply Kd.V_drewN|apply Kd.V_drew));exact Al.out) hb);replace Ad:=Az.mk (Kd.N_below (by(with_reducible repeat(first|apply Kd.N_alloc|apply Kd.N_drewN|apply Kd.N_drew));exact Ad.out) hb);have Bh:=Az.mk (Kd.V_lower (Kd.V_mono (ok':=fun k_=>(P2_ k_∨w.heap.size≤k_)) As (fun k_ hk_=>Or.elim hk_ (fun hs_=>hs_) (fun hn_=>(.inr (Nat.le_trans (bwZ bw_36) hn_))))) (bwZ bw_36));replace HB:=Az.mk (bwT bw_36 hb);(try clear hb);(try clear As)))
 go_ret2
 exact⟨_,rq1,by(with_reducible repeat(first|apply Kd.V_alloc|apply Kd.V_drewN|apply Kd.V_drew));exact Bh.out,bw_36⟩
def gN.l0:Nat→List Int→List Int→Int→Option (List Int)
 |0,_,_,_=>none
 |k+1,x0,x3,x4=>if x4 ≥ 0 then(if 0≤x4 then(if x4<(x0.length:Int) then(if x3.length<17592186044416 then(gN.l0 k x0 (x3 ++ [wrap64 (-(rd x0 x4))]) (wrap64 (x4 - 1))) else(none)) else(none)) else(none)) else(some x3)
def gN.f (k:Nat) (l0:List Int):Option (List Int):=gN.l0 k l0 (([]:List Int)) (wrap64 ((l0.length:Int) - 1))
theorem gN.calls (k:Nat) (A0:Option Addr) (c0:Nat) (l0:List Int) (r:List Int) (w:World) (Av:Kd.C (Kd.int .i64) w A0 l0.length l0) (Ax:l0.length≤c0) (h:gN.f k l0=some r):
  Calls Try.prog 44 #[.slice A0 l0.length c0] w fun e w'=>∃v0_:Value,e= .returned (v0_)∧Kd.R (Kd.int .i64) 3 w' w.heap.size (fun _=>True) v0_ r∧Below w.heap.size w w':=by
 have Ba:=Az.mk Av
 have Bh:=Az.mk Ax
 clear Av Ax
 have HB:=Az.mk (Below.refl w.heap.size w)
 have H:(gN.l0 k l0 (([]:List Int)) (wrap64 ((l0.length:Int) - 1)))=some r:=h
 clear h
 obtain⟨Ak,hy⟩:∃y_:List Int,y_=(([]:List Int)):=⟨_,rfl⟩
 replace H:(gN.l0 k l0 Ak (wrap64 ((l0.length:Int) - 1)))=some r:=rh
 have Ag:=Az.mk hy
 clear hy
 have H':=Az.mk H
 clear H
 go_enter Try.func44,Try.ntmps44
 go_wp2_with (first|((with_reducible refine gtD (N:=5) rfl ?_);refine Kd.R_lit (Kd.int .i64) _ 3 ?hg (N:=5) ?hd (xs:=([]:List Int)) (inner:=[]) (ok:=fun _=>True) (okp:=fun _=>True) ?hr ?hp (fun _ hk=>hk) trivial (Below.refl _ _) (Nat.le_refl _) (by simp) ?_;(case hd=>rfl);(case hg=>rfl);(case hr=>first|(go_simp;done)|(go_simp;rfl));(case hp=>exact(Reps.none _ _));intro Bb w2 Al hb hg_ hnew_;clear hg_ hnew_;(first|rw[←Ag.out]at Al|(simp only[Int.reduceToNat]at Al;rw[←Ag.out]at Al));have Am:=Az.mk (Kd.R_lower Al (bwZ bw_36));replace HB:=Az.mk (bwT bw_36 hb);clear hb Al))
 go_loopg [3,4] k (fun kq v3 v4 w'=>∃(Af:List Int) (Ad:Int),v4= .int .i64 Ad∧Az (gN.l0 kq l0 Af Ad=some r)∧Az (kq≤k)∧Az (Kd.R (Kd.int .i64) 3 w' w.heap.size (fun _=>True) v3 Af)∧Az (Below w.heap.size w w'))
 case atStart=>exact⟨(Ak),(wrap64 ((l0.length:Int) - 1)),rq2,H',⟨Nat.le_refl _⟩,⟨kR Am.out⟩,⟨bw_36⟩⟩
 clear H'
 obtain⟨Af,Ad,rfl,HA,HK1,Ah,HB⟩:=hrel
 cases gk with
 |zero=>exact absurd HA.out (by simp[gN.l0])
 |succ k1=>
  have H:=HA.out
  clear HA
  simp only[gN.l0]at H
  by_cases c4:Ad ≥ 0
  rotate_left
  ·rw[ig c4]at H
   have As:decide (0≤Ad)=false:=decide_eq_false c4
   clear c4
   obtain rfl:=Option.some.inj H
   go_wp2
   go_ret
   exact⟨_,rq1,kR Ah.out,bw_36⟩
  rw[ip c4]at H
  have As:decide (0≤Ad)=true:=ode c4
  clear c4
  by_cases c5:0≤Ad
  rotate_left
  ·rw[ig c5]at H
   exact absurd H (by simp)
  rw[ip c5]at H
  have Bc:=ode c5
  clear c5
  by_cases c6:Ad<(l0.length:Int)
  rotate_left
  ·rw[ig c6]at H
   exact absurd H (by simp)
  rw[ip c6]at H
  have Bd:=ode c6
  clear c6
  by_cases c7:Af.length<17592186044416
  rotate_left
  ·rw[ig c7]at H
   exact absurd H (by simp)
  rw[ip c7]at H
  have LMc7:=Az.mk c7
  clear c7
  obtain⟨Ao,hy⟩:∃y_:List Int,y_=(Af ++ [wrap64 (-(rd l0 Ad))]):=⟨_,rfl⟩
  replace H:(gN.l0 k1 l0 Ao (wrap64 (Ad - 1)))=some r:=rh
  have Ap:=Az.mk hy
  clear hy
  have H':=Az.mk H
  clear H
  have Ai:0≤(Ad:Int):=od
  have Aj:Ad<(l0.length:Int):=od
  obtain⟨Ay,Au,Ae⟩:=Kd.at_int Ba.out Ad Ai Aj
  cases Au
  replace Ae:=kc HB Ae
  replace Ai:=ets Ai
  replace Aj:=ets Aj
  go_wp2_with (first|((with_reducible refine gate_builtin (b:= .append) (xs:= #[.tmp 13, .tmp 19]) rfl ?_);at_builtin;refine Kd.R_append (Kd.int .i64) (w0:=w) w.heap.size rfl (.tmp 13) (.tmp 19) 25 3 (.int .i64 0) 8 rfl Try.underlying25 info3 rfl (by decide) (by omega) u3 Af (wrap64 (-(rd l0 Ad))) [.int .i64 (wrap64 (-(rd l0 Ad)))] (fun _=>True) (fun _=>False) rfl rfl ?aP (fun _ hk=>hk.elim) ?aF ?aO ?aB ?aS ?aL ?_;(case aP=>exact rfl);(case aB=>exact bw_36);(case aF=>exact(fun _ _=>trivial));(case aO=>exact(kR Ah.out));(case aS=>exact(bwZ bw_36));(case aL=>have:=LMc7.out;omega);intro Bf w8 ho hb hg hat;rw[←Ap.out]at ho;have n0_:=Az.mk (hb);have n1_:=Az.mk (ho);clear HB;clear Ah;have HB:=n0_;have Aq:=n1_;clear n0_ n1_;clear ho hb hg hat))
  go_roundg k1
  case measure=>have:=HK1.out;omega
  case rel=>exact⟨(Ao),(wrap64 (Ad - 1)),rq2,H',⟨by have:=HK1.out;omega⟩,⟨kR Aq.out⟩,⟨bw_36⟩⟩
theorem bw_37 {n:Nat}{v v':World} (h:Below n v v':=by repeat(first|(with_reducible first|exact HB.out|apply bwA|apply pbN|apply bwD)|exact HB.out)):Below n v v':=h
theorem ln_37 {P:Prop} (h:P:=by(try simp only[List.map_toArray,List.map_cons,List.map_nil]);first|done|rfl|(simp only[List.length_drop,List.length_take];rfl)):P:=h
def gJ.j0:Nat→List (List Int)→Int→Bool→Option ((List (List Int)) × Bool)
 |0,_,_,_=>none
 |k+1,x0,x1,x18=>if x18=true then(some ((([]:List (List Int))),false)) else(if 0≤x1 then(if x1<(x0.length:Int) then((gN.f k (rd_L1 x0 x1)).bind fun t653=>((mF.f k x0 x1 t653).bind fun bt656=>(some (bt656.1,bt656.2)))) else(none)) else(none))
def gJ.f (k:Nat) (l0:List (List Int)) (a1:Int):Option ((List (List Int)) × Bool):=(fS.f k l0).bind fun t647=>(if t647=true then((fR.f a1 0 (wrap64 ((l0.length:Int) - 1))).bind fun t648=>(gJ.j0 k l0 a1 (!t648))) else(gJ.j0 k l0 a1 true))
theorem gJ.calls (k:Nat) (A0:Option Addr) (c0:Nat) (l0:List (List Int)) (a1:Int) (r1:List (List Int)) (r2:Bool) (w:World) (Bt:Kd.C (Kd.slice 3 (Kd.int .i64)) w A0 l0.length l0) (Bu:l0.length≤c0) (h:gJ.f k l0 a1=some (r1,r2)):
  Calls Try.prog 14 #[.slice A0 l0.length c0, .int .i64 a1] w fun e w'=>∃v0_:Value,e= .returned (.tuple #[v0_, .bool r2])∧Kd.V (Kd.slice 3 (Kd.int .i64)) 25 w' w.heap.size (fun k_=>(w.heap.size≤k_)) v0_ r1∧Below w.heap.size w w':=by
 have Bj:=Az.mk Bt
 have Bm:=Az.mk Bu
 clear Bt Bu
 have HB:=Az.mk (Below.refl w.heap.size w)
 have H:((fS.f k l0).bind fun As=>(if As=true then((fR.f a1 0 (wrap64 ((l0.length:Int) - 1))).bind fun Al=>(gJ.j0 k l0 a1 (!Al))) else(gJ.j0 k l0 a1 true)))=some (r1,r2):=h
 clear h
 have Bn:=Az.mk H
 clear H
 go_enter Try.func14,Try.ntmps14
 go_upto_region 1 with (fail)
 go_cut [18] (fun By wc=>∃(kq:Nat) (Ag:Bool),By= .bool Ag∧Az (gJ.j0 kq l0 a1 Ag=some (r1,r2))∧Az (kq≤k)∧Az (Below w.heap.size w wc))
 case first=>
  have H:=Bn.out
  clear Bn
  replace H:=bez H
  obtain⟨As,A4,H⟩:=H
  try dsimp only at H
  by_cases c5:As=true
  rotate_left
  ·replace c5:=Bool.eq_false_iff.mpr c5
   subst c5
   rw[ig ff]at H
   have H':=Az.mk H
   clear H
   go_wp2_with (first|((with_reducible refine gtC (f:=41) rfl ?_);refine clz Try.func41 (some 9) #[.slice A0 l0.length c0] ?_;(with_reducible refine(fS.calls k _ _ l0 false _ ?Ad ?Ae A4.out).mono ?_);(case Ad=>exact kC (Kd.C_below Bj.out HB.out));(case Ae=>exact Bm.out);rintro e w8 ⟨rfl,hb⟩;refine⟨_,rfl,?_⟩;replace HB:=Az.mk (bwT bw_37 hb);(try clear hb)))
   go_meet
   case rel=>exact⟨_,(true),rq2,H',⟨by first|omega|exact Nat.le_refl _⟩,⟨bw_37⟩⟩
  subst c5
  rw[ip rfl]at H
  replace H:=bez H
  obtain⟨Al,A6,H⟩:=H
  try dsimp only at H
  have H':=Az.mk H
  clear H
  go_wp2_with (first|((with_reducible refine gtC (f:=41) rfl ?_);refine clz Try.func41 (some 9) #[.slice A0 l0.length c0] ?_;(with_reducible refine(fS.calls k _ _ l0 true _ ?Ad ?Ae A4.out).mono ?_);(case Ad=>exact kC (Kd.C_below Bj.out HB.out));(case Ae=>exact Bm.out);rintro e w7 ⟨rfl,hb⟩;refine⟨_,rfl,?_⟩;replace HB:=Az.mk (bwT bw_37 hb);(try clear hb))|(go_at_call 42;(with_reducible refine(fR.calls a1 0 (wrap64 ((l0.length:Int) - 1)) Al _ A6.out).mono ?_);rintro e w' ⟨rfl,⟨nd,rfl⟩⟩))
  go_meet
  case rel=>exact⟨_,(!Al),rq2,H',⟨by first|omega|exact Nat.le_refl _⟩,⟨bw_37⟩⟩
 clear Bn
 try clear c5
 obtain⟨kq,Ag,rfl,HA,Ce,HB⟩:=hcut
 cases kq with
 |zero=>exact absurd HA.out (by simp[gJ.j0])
 |succ Bv=>
  have H:=HA.out
  clear HA
  simp only[gJ.j0]at H
  by_cases c9:Ag=true
  ·subst c9
   rw[ip rfl]at H
   obtain⟨Bo,hy⟩:∃y_:List (List Int),y_=(([]:List (List Int))):=⟨_,rfl⟩
   replace H:(some (Bo,false))=some (r1,r2):=rh
   have Aq:=Az.mk hy
   clear hy
   simp only[Option.some.injEq,Prod.mk.injEq]at H
   obtain⟨rfl,rfl⟩:=H
   go_wp2_with (first|((with_reducible refine gtD (N:=19) rfl ?_);(try(refine gate_guard (by rfl) ?_;dsimp only));refine Kd.S_lit (Kd.slice 3 (Kd.int .i64)) _ 25 ?hg (N:=19) ?hd (xs:=([]:List (List Int))) (inner:=[]) (ok:=fun _=>True) (okp:=fun _=>True) ?hr ?hp (fun _ hk=>hk) trivial (Below.refl _ _) (Nat.le_refl _) (by simp) ?_;(case hd=>rfl);(case hg=>rfl);(case hr=>first|(go_simp;done)|(go_simp;rfl));(case hp=>exact(Reps.none _ _));intro Bz Cf Ak hb hg_ hnew_;clear hg_ hnew_;(first|rw[←Aq.out]at Ak|(simp only[Int.reduceToNat]at Ak;rw[←Aq.out]at Ak));have Ba:=Az.mk (Kd.S_lower (Kd.S_newM (M:=fun k_=>(w.heap.size≤k_)) Ak (bwZ bw_37) (fun k_ h_=>h_)) (bwZ bw_37));replace HB:=Az.mk (bwT bw_37 hb);clear hb Ak))
   go_ret2
   exact⟨_,rq1,Kd.S_V (by(with_reducible repeat(first|apply Kd.S_alloc|apply Kd.S_drewN|apply Kd.S_drew));exact Kd.S_mono Ba.out (fun _ hk=>hk.1)),bw_37⟩
  replace c9:=Bool.eq_false_iff.mpr c9
  subst c9
  rw[ig ff]at H
  by_cases Bk:0≤a1
  rotate_left
  ·rw[ig Bk]at H
   exact absurd H (by simp)
  rw[ip Bk]at H
  have Bw:=ode Bk
  clear Bk
  by_cases Bl:a1<(l0.length:Int)
  rotate_left
  ·rw[ig Bl]at H
   exact absurd H (by simp)
  rw[ip Bl]at H
  have Bx:=ode Bl
  clear Bl
  replace H:=bez H
  obtain⟨Am,Ca,H⟩:=H
  try dsimp only at H
  replace H:=bez H
  obtain⟨⟨Bp,Bq⟩,Cb,H⟩:=H
  try dsimp only at H
  simp only[Option.some.injEq,Prod.mk.injEq]at H
  obtain⟨rfl,rfl⟩:=H
  have Au:0≤(a1:Int):=od
  have Av:a1<(l0.length:Int):=od
  obtain⟨Bb,Ax,Ay,Br,Ah,Ai,Aj⟩:=at_L1 Bj.out a1 Au Av
  cases Br
  replace Ah:=kc HB Ah
  have Ao:=Az.mk Aj
  have Ap:=Az.mk Ai
  clear Aj Ai
  replace Au:=ets Au
  replace Av:=ets Av
  go_wp2_with (first|((with_reducible refine gtC (f:=44) rfl ?_);refine clz Try.func44 (some 27) #[.slice Ax (rd_L1 l0 a1).length Ay] ?_;(with_reducible refine(gN.calls Bv _ _ (rd_L1 l0 a1) Am _ ?Ad ?Ae Ca.out).mono ?_);(case Ad=>exact kC (Kd.C_below Ao.out HB.out));(case Ae=>exact Ap.out);rintro e Cg ⟨Cc,rfl,Bc,hb⟩;refine⟨_,rfl,?_⟩;have Af:=Az.mk (Kd.R_lower (Kd.R_newM (M:=fun k_=>(w.heap.size≤k_)) Bc (bwZ bw_37) (fun k_ h_=>h_)) (bwZ bw_37));replace HB:=Az.mk (bwT bw_37 hb);(try clear hb);(try clear Bc);obtain⟨Bd,Bf,Bs⟩:=Kd.R_slice Af.out;subst Bs)|((with_reducible refine gtC (f:=43) rfl ?_);refine clz Try.func43 (some 28) #[.slice (some Bb) l0.length c0, .int .i64 a1, .slice Bd Am.length Bf] ?_;(with_reducible refine(mF.calls Bv _ _ l0 a1 (fun k_=>some k_=(.slice Bd Am.length Bf:Value).ownBlock) _ _ Am Bp Bq _ ?Ad ?Ae ?Bh Cb.out).mono ?_);(case Ad=>exact kC (Kd.C_below Bj.out HB.out));(case Ae=>exact Bm.out);(case Bh=>exact Kd.R_V (Kd.R_tight rfl (Af.out)));rintro e Ch ⟨Cd,rfl,Bc,hb⟩;refine⟨_,rfl,?_⟩;have Bi:=Az.mk (Kd.V_lower (Kd.V_mono (ok':=fun k_=>(w.heap.size≤k_)) Bc (fun k_ hk_=>Or.elim hk_ (fun hs_=>((Af.out).1 k_ hs_.symm).1) (fun hn_=>(Nat.le_trans (bwZ bw_37) hn_)))) (bwZ bw_37));replace Af:=Az.mk (Kd.R_below (kR Af.out) hb);replace HB:=Az.mk (bwT bw_37 hb);(try clear hb);(try clear Bc)))
  go_ret2
  exact⟨_,rq1,by(with_reducible repeat(first|apply Kd.V_alloc|apply Kd.V_drewN|apply Kd.V_drew));exact Bi.out,bw_37⟩
def fU.l0:Nat→List Int→List Int→Int→Option (Bool)
 |0,_,_,_=>none
 |k+1,x0,x1,x5=>if x5<(x0.length:Int) then(if 0≤x5 then(if x5<(x1.length:Int) then(if(rd x0 x5)=(rd x1 x5) then(fU.l0 k x0 x1 (wrap64 (x5+1))) else(some false)) else(none)) else(none)) else(some true)
def fU.f (k:Nat) (l0:List Int) (l1:List Int):Option (Bool):=if(l0.length:Int)=(l1.length:Int) then(fU.l0 k l0 l1 0) else(some false)
theorem fU.calls (k:Nat) (A0:Option Addr) (c0:Nat) (l0:List Int) (A1:Option Addr) (c1:Nat) (l1:List Int) (r:Bool) (w:World) (Ay:Kd.C (Kd.int .i64) w A0 l0.length l0) (Ba:l0.length≤c0) (Bb:Kd.C (Kd.int .i64) w A1 l1.length l1) (Bc:l1.length≤c1) (h:fU.f k l0 l1=some r):
  Calls Try.prog 15 #[.slice A0 l0.length c0, .slice A1 l1.length c1] w fun e w'=>e= .returned (.bool r)∧Drawn0 w w':=by
 have Bd:=Az.mk Ay
 have Bi:=Az.mk Ba
 clear Ay Ba
 have HR1:=Az.mk Bb
 have Bj:=Az.mk Bc
 clear Bb Bc
 have H:(if(l0.length:Int)=(l1.length:Int) then(fU.l0 k l0 l1 0) else(some false))=some r:=h
 clear h
 by_cases c3:(l0.length:Int)=(l1.length:Int)
 rotate_left
 ·rw[ig c3]at H
  have Am:=beq_eq_false_iff_ne.mpr c3
  have Ao:=bne_iff_ne.mpr c3
  have Ap:(l0.length== l1.length)=false:=by first|simpa using c3|(simp at c3 ⊢;omega)
  obtain rfl:=Option.some.inj H
  go_enter Try.func15,Try.ntmps15
  go_wp2
  repeat(go_quiet (fail);try go_wp2)
  go_ret
  exact⟨rq2,kd⟩
 rw[ip c3]at H
 have Am:=beq_iff_eq.mpr c3
 have Ao:=bne_eq_false_iff_eq.mpr c3
 have Ap:(l0.length== l1.length)=true:=by first|simpa using c3|(simp at c3 ⊢;omega)
 clear c3
 have H':=Az.mk H
 clear H
 go_enter Try.func15,Try.ntmps15
 go_wp2
 repeat(go_quiet (fail);try go_wp2)
 go_loopg [5] k (fun kq v5 w'=>∃(Ad:Int),v5= .int .i64 Ad∧Az (fU.l0 kq l0 l1 Ad=some r)∧Az (kq≤k)∧Drawn0 w w')
 case atStart=>exact⟨(0),rq2,H',⟨Nat.le_refl _⟩,kd⟩
 clear H'
 try clear c1
 try clear c3
 try clear Am
 try clear Ao
 try clear Ap
 obtain⟨Ad,rfl,HA,HK1,⟨m1,rfl⟩⟩:=hrel
 cases gk with
 |zero=>exact absurd HA.out (by simp[fU.l0])
 |succ k1=>
  have H:=HA.out
  clear HA
  simp only[fU.l0]at H
  by_cases c4:Ad<(l0.length:Int)
  rotate_left
  ·rw[ig c4]at H
   have Au:=decide_eq_false c4
   clear c4
   obtain rfl:=Option.some.inj H
   go_wp2
   repeat(go_quiet (fail);try go_wp2)
   go_ret
   exact⟨rq2,kd⟩
  rw[ip c4]at H
  have Au:=ode c4
  clear c4
  by_cases c5:0≤Ad
  rotate_left
  ·rw[ig c5]at H
   exact absurd H (by simp)
  rw[ip c5]at H
  have Bf:=ode c5
  clear c5
  by_cases c6:Ad<(l1.length:Int)
  rotate_left
  ·rw[ig c6]at H
   exact absurd H (by simp)
  rw[ip c6]at H
  have Bh:=ode c6
  clear c6
  by_cases c7:(rd l0 Ad)=(rd l1 Ad)
  rotate_left
  ·rw[ig c7]at H
   have Av:=beq_eq_false_iff_ne.mpr c7
   have Ax:=bne_iff_ne.mpr c7
   obtain rfl:=Option.some.inj H
   have Ae:0≤(Ad:Int):=od
   have Af:Ad<(l0.length:Int):=od
   obtain⟨Aq,Ak,Ai⟩:=Kd.at_int Bd.out Ad Ae Af
   cases Ak
   replace Ae:=ets Ae
   replace Af:=ets Af
   have Ag:0≤(Ad:Int):=od
   have Ah:Ad<(l1.length:Int):=od
   obtain⟨As,Al,Aj⟩:=Kd.at_int HR1.out Ad Ag Ah
   cases Al
   replace Ag:=ets Ag
   replace Ah:=ets Ah
   go_wp2
   repeat(go_quiet (fail);try go_wp2)
   go_ret
   exact⟨rq2,kd⟩
  rw[ip c7]at H
  have Av:=beq_iff_eq.mpr c7
  have Ax:=bne_eq_false_iff_eq.mpr c7
  clear c7
  have H':=Az.mk H
  clear H
  have Ae:0≤(Ad:Int):=od
  have Af:Ad<(l0.length:Int):=od
  obtain⟨Aq,Ak,Ai⟩:=Kd.at_int Bd.out Ad Ae Af
  cases Ak
  replace Ae:=ets Ae
  replace Af:=ets Af
  have Ag:0≤(Ad:Int):=od
  have Ah:Ad<(l1.length:Int):=od
  obtain⟨As,Al,Aj⟩:=Kd.at_int HR1.out Ad Ag Ah
  cases Al
  replace Ag:=ets Ag
  replace Ah:=ets Ah
  go_wp2
  repeat(go_quiet (fail);try go_wp2)
  go_roundg k1
  case measure=>have:=HK1.out;omega
  case rel=>exact⟨(wrap64 (Ad+1)),rq2,H',⟨by have:=HK1.out;omega⟩,kd⟩
def gH.l0:Nat→List (List Int)→List (List Int)→Int→Option (Bool)
 |0,_,_,_=>none
 |k+1,x0,x1,x5=>if x5<(x0.length:Int) then(if 0≤x5 then(if x5<(x1.length:Int) then((fU.f k (rd_L1 x0 x5) (rd_L1 x1 x5)).bind fun t664=>(if t664=true then(gH.l0 k x0 x1 (wrap64 (x5+1))) else(some false))) else(none)) else(none)) else(some true)
def gH.f (k:Nat) (l0:List (List Int)) (l1:List (List Int)):Option (Bool):=if(l0.length:Int)=(l1.length:Int) then(gH.l0 k l0 l1 0) else(some false)
theorem gH.calls (k:Nat) (A0:Option Addr) (c0:Nat) (l0:List (List Int)) (A1:Option Addr) (c1:Nat) (l1:List (List Int)) (r:Bool) (w:World) (Bq:Kd.C (Kd.slice 3 (Kd.int .i64)) w A0 l0.length l0) (Br:l0.length≤c0) (Bs:Kd.C (Kd.slice 3 (Kd.int .i64)) w A1 l1.length l1) (Bt:l1.length≤c1) (h:gH.f k l0 l1=some r):
  Calls Try.prog 16 #[.slice A0 l0.length c0, .slice A1 l1.length c1] w fun e w'=>e= .returned (.bool r)∧Drawn0 w w':=by
 have Bu:=Az.mk Bq
 have Bx:=Az.mk Br
 clear Bq Br
 have HR1:=Az.mk Bs
 have By:=Az.mk Bt
 clear Bs Bt
 have H:(if(l0.length:Int)=(l1.length:Int) then(gH.l0 k l0 l1 0) else(some false))=some r:=h
 clear h
 by_cases c3:(l0.length:Int)=(l1.length:Int)
 rotate_left
 ·rw[ig c3]at H
  have Bj:=beq_eq_false_iff_ne.mpr c3
  have Bk:=bne_iff_ne.mpr c3
  have Bl:(l0.length== l1.length)=false:=by first|simpa using c3|(simp at c3 ⊢;omega)
  obtain rfl:=Option.some.inj H
  go_enter Try.func16,Try.ntmps16
  go_wp2
  repeat(go_quiet (fail);try go_wp2)
  go_ret
  exact⟨rq2,kd⟩
 rw[ip c3]at H
 have Bj:=beq_iff_eq.mpr c3
 have Bk:=bne_eq_false_iff_eq.mpr c3
 have Bl:(l0.length== l1.length)=true:=by first|simpa using c3|(simp at c3 ⊢;omega)
 clear c3
 have H':=Az.mk H
 clear H
 go_enter Try.func16,Try.ntmps16
 go_wp2
 repeat(go_quiet (fail);try go_wp2)
 go_loopg [5] k (fun kq v5 w'=>∃(Ad:Int),v5= .int .i64 Ad∧Az (gH.l0 kq l0 l1 Ad=some r)∧Az (kq≤k)∧Drawn0 w w')
 case atStart=>exact⟨(0),rq2,H',⟨Nat.le_refl _⟩,kd⟩
 clear H'
 try clear c1
 try clear c3
 try clear Bj
 try clear Bk
 try clear Bl
 obtain⟨Ad,rfl,HA,HK1,⟨m1,rfl⟩⟩:=hrel
 cases gk with
 |zero=>exact absurd HA.out (by simp[gH.l0])
 |succ k1=>
  have H:=HA.out
  clear HA
  simp only[gH.l0]at H
  by_cases c4:Ad<(l0.length:Int)
  rotate_left
  ·rw[ig c4]at H
   have Bo:=decide_eq_false c4
   clear c4
   obtain rfl:=Option.some.inj H
   go_wp2
   repeat(go_quiet (fail);try go_wp2)
   go_ret
   exact⟨rq2,kd⟩
  rw[ip c4]at H
  have Bo:=ode c4
  clear c4
  by_cases c5:0≤Ad
  rotate_left
  ·rw[ig c5]at H
   exact absurd H (by simp)
  rw[ip c5]at H
  have Bv:=ode c5
  clear c5
  by_cases c6:Ad<(l1.length:Int)
  rotate_left
  ·rw[ig c6]at H
   exact absurd H (by simp)
  rw[ip c6]at H
  have Bw:=ode c6
  clear c6
  replace H:=bez H
  obtain⟨Bp,A7,H⟩:=H
  try dsimp only at H
  by_cases c8:Bp=true
  rotate_left
  ·replace c8:=Bool.eq_false_iff.mpr c8
   subst c8
   rw[ig ff]at H
   obtain rfl:=Option.some.inj H
   have As:0≤(Ad:Int):=od
   have Au:Ad<(l0.length:Int):=od
   obtain⟨Bm,Bb,Bc,Bd,Ay,Am,Ao⟩:=at_L1 Bu.out Ad As Au
   cases Bd
   have Ae:=Az.mk Ao
   have Af:=Az.mk Am
   clear Ao Am
   replace As:=ets As
   replace Au:=ets Au
   have Av:0≤(Ad:Int):=od
   have Ax:Ad<(l1.length:Int):=od
   obtain⟨Bn,Bf,Bh,Bi,Ba,Ap,Aq⟩:=at_L1 HR1.out Ad Av Ax
   cases Bi
   have Ag:=Az.mk Aq
   have Ah:=Az.mk Ap
   clear Aq Ap
   replace Av:=ets Av
   replace Ax:=ets Ax
   go_wp2_with ((go_at_call 15;(with_reducible refine(fU.calls k1 _ _ (rd_L1 l0 Ad) _ _ (rd_L1 l1 Ad) false _ ?Ai ?Aj ?Ak ?Al A7.out).mono ?_);(case Ai=>exact kC Ae.out);(case Aj=>exact Af.out);(case Ak=>exact kC Ag.out);(case Al=>exact Ah.out);rintro e w' ⟨rfl,⟨nd,rfl⟩⟩;(try first|exact⟨rfl,_,World.drewN_drewN _ _ _⟩|exact⟨rfl,_,Eq.trans (World.drewN_drewN _ _ _) (congrArg (World.drewN _) (Nat.add_assoc _ _ _))⟩)))
   repeat(go_quiet ((go_at_call 15;(with_reducible refine(fU.calls k1 _ _ (rd_L1 l0 Ad) _ _ (rd_L1 l1 Ad) false _ ?Ai ?Aj ?Ak ?Al A7.out).mono ?_);(case Ai=>exact kC Ae.out);(case Aj=>exact Af.out);(case Ak=>exact kC Ag.out);(case Al=>exact Ah.out);rintro e w' ⟨rfl,⟨nd,rfl⟩⟩;(try first|exact⟨rfl,_,World.drewN_drewN _ _ _⟩|exact⟨rfl,_,Eq.trans (World.drewN_drewN _ _ _) (congrArg (World.drewN _) (Nat.add_assoc _ _ _))⟩)));try go_wp2_with ((go_at_call 15;(with_reducible refine(fU.calls k1 _ _ (rd_L1 l0 Ad) _ _ (rd_L1 l1 Ad) false _ ?Ai ?Aj ?Ak ?Al A7.out).mono ?_);(case Ai=>exact kC Ae.out);(case Aj=>exact Af.out);(case Ak=>exact kC Ag.out);(case Al=>exact Ah.out);rintro e w' ⟨rfl,⟨nd,rfl⟩⟩;(try first|exact⟨rfl,_,World.drewN_drewN _ _ _⟩|exact⟨rfl,_,Eq.trans (World.drewN_drewN _ _ _) (congrArg (World.drewN _) (Nat.add_assoc _ _ _))⟩))))
   go_ret
   exact⟨rq2,kd⟩
  subst c8
  rw[ip rfl]at H
  have H':=Az.mk H
  clear H
  have As:0≤(Ad:Int):=od
  have Au:Ad<(l0.length:Int):=od
  obtain⟨Bm,Bb,Bc,Bd,Ay,Am,Ao⟩:=at_L1 Bu.out Ad As Au
  cases Bd
  have Ae:=Az.mk Ao
  have Af:=Az.mk Am
  clear Ao Am
  replace As:=ets As
  replace Au:=ets Au
  have Av:0≤(Ad:Int):=od
  have Ax:Ad<(l1.length:Int):=od
  obtain⟨Bn,Bf,Bh,Bi,Ba,Ap,Aq⟩:=at_L1 HR1.out Ad Av Ax
  cases Bi
  have Ag:=Az.mk Aq
  have Ah:=Az.mk Ap
  clear Aq Ap
  replace Av:=ets Av
  replace Ax:=ets Ax
  go_wp2_with ((go_at_call 15;(with_reducible refine(fU.calls k1 _ _ (rd_L1 l0 Ad) _ _ (rd_L1 l1 Ad) true _ ?Ai ?Aj ?Ak ?Al A7.out).mono ?_);(case Ai=>exact kC Ae.out);(case Aj=>exact Af.out);(case Ak=>exact kC Ag.out);(case Al=>exact Ah.out);rintro e w' ⟨rfl,⟨nd,rfl⟩⟩;(try first|exact⟨rfl,_,World.drewN_drewN _ _ _⟩|exact⟨rfl,_,Eq.trans (World.drewN_drewN _ _ _) (congrArg (World.drewN _) (Nat.add_assoc _ _ _))⟩)))
  repeat(go_quiet ((go_at_call 15;(with_reducible refine(fU.calls k1 _ _ (rd_L1 l0 Ad) _ _ (rd_L1 l1 Ad) true _ ?Ai ?Aj ?Ak ?Al A7.out).mono ?_);(case Ai=>exact kC Ae.out);(case Aj=>exact Af.out);(case Ak=>exact kC Ag.out);(case Al=>exact Ah.out);rintro e w' ⟨rfl,⟨nd,rfl⟩⟩;(try first|exact⟨rfl,_,World.drewN_drewN _ _ _⟩|exact⟨rfl,_,Eq.trans (World.drewN_drewN _ _ _) (congrArg (World.drewN _) (Nat.add_assoc _ _ _))⟩)));try go_wp2_with ((go_at_call 15;(with_reducible refine(fU.calls k1 _ _ (rd_L1 l0 Ad) _ _ (rd_L1 l1 Ad) true _ ?Ai ?Aj ?Ak ?Al A7.out).mono ?_);(case Ai=>exact kC Ae.out);(case Aj=>exact Af.out);(case Ak=>exact kC Ag.out);(case Al=>exact Ah.out);rintro e w' ⟨rfl,⟨nd,rfl⟩⟩;(try first|exact⟨rfl,_,World.drewN_drewN _ _ _⟩|exact⟨rfl,_,Eq.trans (World.drewN_drewN _ _ _) (congrArg (World.drewN _) (Nat.add_assoc _ _ _))⟩))))
  go_roundg k1
  case measure=>have:=HK1.out;omega
  case rel=>exact⟨(wrap64 (Ad+1)),rq2,H',⟨by have:=HK1.out;omega⟩,kd⟩
section
open Bool renaming true → T, false → F
theorem bw_38 {n:Nat}{v v':World} (h:Below n v v':=by repeat(first|(with_reducible first|exact HB.out|apply bwA|apply pbN|apply bwD)|exact HB.out)):Below n v v':=h
def gT.f (l0:List Int) (a1:Int):Option (List Int):=if(l0.length:Int)=0 then(some (([]:List Int))) else(if(Int.tmod a1 (l0.length:Int))<0 then((some (([]:List Int):List Int)).bind fun y668=>(if 0≤(wrap64 ((Int.tmod a1 (l0.length:Int))+(l0.length:Int))) then(if(wrap64 ((Int.tmod a1 (l0.length:Int))+(l0.length:Int)))≤(l0.length:Int) then(if y668.length+(l0.drop ((wrap64 ((Int.tmod a1 (l0.length:Int))+(l0.length:Int))):Int).toNat).length<17592186044416 then((some (y668 ++ (l0.drop ((wrap64 ((Int.tmod a1 (l0.length:Int))+(l0.length:Int))):Int).toNat):List Int)).bind fun y672=>(if y672.length+(l0.take ((wrap64 ((Int.tmod a1 (l0.length:Int))+(l0.length:Int))):Int).toNat).length<17592186044416 then(some (y672 ++ (l0.take ((wrap64 ((Int.tmod a1 (l0.length:Int))+(l0.length:Int))):Int).toNat))) else(none))) else(none)) else(none)) else(none))) else((some (([]:List Int):List Int)).bind fun y679=>(if 0≤(Int.tmod a1 (l0.length:Int)) then(if(Int.tmod a1 (l0.length:Int))≤(l0.length:Int) then(if y679.length+(l0.drop ((Int.tmod a1 (l0.length:Int)):Int).toNat).length<17592186044416 then((some (y679 ++ (l0.drop ((Int.tmod a1 (l0.length:Int)):Int).toNat):List Int)).bind fun y683=>(if y683.length+(l0.take ((Int.tmod a1 (l0.length:Int)):Int).toNat).length<17592186044416 then(some (y683 ++ (l0.take ((Int.tmod a1 (l0.length:Int)):Int).toNat))) else(none))) else(none)) else(none)) else(none))))
def gT.T6:Bool × List (List Nat × List Nat):=(true,[([],[]),([],[]),([],[]),([1,2],[1,2]),([0,3],[0,3]),([],[]),([],[]),([5,6],[5,6]),([4,7,4],[4,7]),([8,8,0,1,2,3,4,5,6,7,8],[8])])
def gT.B6:List Nat:=[0,0,0,6,15,0,0,96,255,511]
theorem gT.tab6:rtab .any (opsOf Try.f46 6)=gT.T6:=by kernel_rfl
theorem gT.bits6:waitsOk gT.T6.2 gT.B6=true:=by kernel_rfl
theorem gT.calls (A0:Option Addr) (c0:Nat) (l0:List Int) (a1:Int) (r:List Int) (w:World) (Cj:Kd.C (Kd.int .i64) w A0 l0.length l0) (Ck:l0.length≤c0) (h:gT.f l0 a1=some r):
  Calls Try.prog 46 #[.slice A0 l0.length c0, .int .i64 a1] w fun e w'=>∃v0_:Value,e= .returned (v0_)∧Kd.R (Kd.int .i64) 3 w' w.heap.size (fun _=>True) v0_ r∧Below w.heap.size w w':=by
 have Bu:=Az.mk Cj
 have Bv:=Az.mk Ck
 clear Cj Ck
 have HB:=Az.mk (Below.refl w.heap.size w)
 have H:(if(l0.length:Int)=0 then(some (([]:List Int))) else(if(Int.tmod a1 (l0.length:Int))<0 then((some (([]:List Int):List Int)).bind fun Ah=>(if 0≤(wrap64 ((Int.tmod a1 (l0.length:Int))+(l0.length:Int))) then(if(wrap64 ((Int.tmod a1 (l0.length:Int))+(l0.length:Int)))≤(l0.length:Int) then(if Ah.length+(l0.drop ((wrap64 ((Int.tmod a1 (l0.length:Int))+(l0.length:Int))):Int).toNat).length<17592186044416 then((some (Ah ++ (l0.drop ((wrap64 ((Int.tmod a1 (l0.length:Int))+(l0.length:Int))):Int).toNat):List Int)).bind fun Af=>(if Af.length+(l0.take ((wrap64 ((Int.tmod a1 (l0.length:Int))+(l0.length:Int))):Int).toNat).length<17592186044416 then(some (Af ++ (l0.take ((wrap64 ((Int.tmod a1 (l0.length:Int))+(l0.length:Int))):Int).toNat))) else(none))) else(none)) else(none)) else(none))) else((some (([]:List Int):List Int)).bind fun Ai=>(if 0≤(Int.tmod a1 (l0.length:Int)) then(if(Int.tmod a1 (l0.length:Int))≤(l0.length:Int) then(if Ai.length+(l0.drop ((Int.tmod a1 (l0.length:Int)):Int).toNat).length<17592186044416 then((some (Ai ++ (l0.drop ((Int.tmod a1 (l0.length:Int)):Int).toNat):List Int)).bind fun Ag=>(if Ag.length+(l0.take ((Int.tmod a1 (l0.length:Int)):Int).toNat).length<17592186044416 then(some (Ag ++ (l0.take ((Int.tmod a1 (l0.length:Int)):Int).toNat))) else(none))) else(none)) else(none)) else(none)))))=some r:=h
 clear h
 by_cases c3:(l0.length:Int)=0
 ·rw[ip c3]at H
  have Ca:=beq_iff_eq.mpr c3
  have Cb:=bne_eq_false_iff_eq.mpr c3
  clear c3
  obtain⟨Cc,hy⟩:∃y_:List Int,y_=(([]:List Int)):=⟨_,rfl⟩
  replace H:(some Cc)=some r:=rh
  have Au:=Az.mk hy
  clear hy
  obtain rfl:=Option.some.inj H
  go_enter Try.func46,Try.ntmps46
  go_wp2_with (first|((with_reducible refine gtD (N:=8) rfl ?_);refine Kd.R_lit (Kd.int .i64) _ 3 ?hg (N:=8) ?hd (xs:=([]:List Int)) (inner:=[]) (ok:=fun _=>True) (okp:=fun _=>True) ?hr ?hp (fun _ hk=>hk) trivial (Below.refl _ _) (Nat.le_refl _) (by simp) ?_;(case hd=>rfl);(case hg=>rfl);(case hr=>first|(go_simp;done)|(go_simp;rfl));(case hp=>exact(Reps.none _ _));intro Cx w4 Bj hb hg_ hnew_;clear hg_ hnew_;(first|rw[←Au.out]at Bj|(simp only[Int.reduceToNat]at Bj;rw[←Au.out]at Bj));have Bk:=Az.mk (Kd.R_lower Bj (bwZ bw_38));replace HB:=Az.mk (bwT bw_38 hb);clear hb Bj))
  go_ret
  exact⟨_,rq1,kR Bk.out,bw_38⟩
 rw[ig c3]at H
 have Ca:=beq_eq_false_iff_ne.mpr c3
 have Cb:=bne_iff_ne.mpr c3
 have Cy:¬(l0=[]):=fun h_=>c3 (by rw[h_];rfl)
 by_cases c6:(Int.tmod a1 (l0.length:Int))<0
 ·rw[ip c6]at H
  have Bl:=ode c6
  clear c6
  obtain⟨Ah,hy⟩:∃y_:List Int,y_=(([]:List Int)):=⟨_,rfl⟩
  replace H:(if 0≤(wrap64 ((Int.tmod a1 (l0.length:Int))+(l0.length:Int))) then(if(wrap64 ((Int.tmod a1 (l0.length:Int))+(l0.length:Int)))≤(l0.length:Int) then(if Ah.length+(l0.drop ((wrap64 ((Int.tmod a1 (l0.length:Int))+(l0.length:Int))):Int).toNat).length<17592186044416 then((some (Ah ++ (l0.drop ((wrap64 ((Int.tmod a1 (l0.length:Int))+(l0.length:Int))):Int).toNat):List Int)).bind fun Af=>(if Af.length+(l0.take ((wrap64 ((Int.tmod a1 (l0.length:Int))+(l0.length:Int))):Int).toNat).length<17592186044416 then(some (Af ++ (l0.take ((wrap64 ((Int.tmod a1 (l0.length:Int))+(l0.length:Int))):Int).toNat))) else(none))) else(none)) else(none)) else(none))=some r:=rh
  have Av:=Az.mk hy
  clear hy
  obtain⟨Ae,As⟩:∃j_:Int,(wrap64 ((Int.tmod a1 (l0.length:Int))+(l0.length:Int)))=j_:=⟨_,rfl⟩
  replace H:(if 0≤(Ae) then(if(Ae)≤(l0.length:Int) then(if Ah.length+(l0.drop ((Ae):Int).toNat).length<17592186044416 then((some (Ah ++ (l0.drop ((Ae):Int).toNat):List Int)).bind fun Af=>(if Af.length+(l0.take ((Ae):Int).toNat).length<17592186044416 then(some (Af ++ (l0.take ((Ae):Int).toNat))) else(none))) else(none)) else(none)) else(none))=some r:=by first|(rw[As]at H;exact H)|(simp only[As]at H ⊢;exact H)
  have hji7w:(IntKind.i64.wrap ((Int.tmod a1 (l0.length:Int))+(l0.length:Int)))=Ae:=(i64_w _).trans As
  by_cases c8:0≤(Ae)
  rotate_left
  ·rw[ig c8]at H
   exact absurd H (by simp)
  rw[ip c8]at H
  have Cz:=ets c8
  have Da:=ode c8
  clear c8
  by_cases c9:(Ae)≤(l0.length:Int)
  rotate_left
  ·rw[ig c9]at H
   exact absurd H (by simp)
  rw[ip c9]at H
  have Db:=ets c9
  have Dc:=ode c9
  clear c9
  by_cases Bw:Ah.length+(l0.drop ((Ae):Int).toNat).length<17592186044416
  rotate_left
  ·rw[ig Bw]at H
   exact absurd H (by simp)
  rw[ip Bw]at H
  have LMc10:=Az.mk Bw
  clear Bw
  obtain⟨Af,hy⟩:∃y_:List Int,y_=(Ah ++ (l0.drop ((Ae):Int).toNat)):=⟨_,rfl⟩
  replace H:(if Af.length+(l0.take ((Ae):Int).toNat).length<17592186044416 then(some (Af ++ (l0.take ((Ae):Int).toNat))) else(none))=some r:=rh
  have Bm:=Az.mk hy
  clear hy
  have Cl:=ets (od:0≤(Ae))
  have Cm:=ets (od:(Ae)≤(l0.length:Int))
  by_cases Bx:Af.length+(l0.take ((Ae):Int).toNat).length<17592186044416
  rotate_left
  ·rw[ig Bx]at H
   exact absurd H (by simp)
  rw[ip Bx]at H
  have LMc13:=Az.mk Bx
  clear Bx
  obtain⟨Cd,hy⟩:∃y_:List Int,y_=(Af ++ (l0.take ((Ae):Int).toNat)):=⟨_,rfl⟩
  replace H:(some Cd)=some r:=rh
  have Bn:=Az.mk hy
  clear hy
  obtain rfl:=Option.some.inj H
  go_enter Try.func46,Try.ntmps46
  try go_wp2
  replace HB:=Az.mk (bwD HB.out)
  obtain⟨Dd,Ax,_,hsz15,_⟩:=info_parts info3
  obtain⟨Dj,hcut15,hA15,hC15⟩:=print_drop_of (P:=Try.prog) (Value.int .i64) 0 25 3 .i64 Try.underlying25 Ax hsz15 A0 c0 l0 (Ae) (od) (od) Bv.out
  have Ak:=Az.mk (Kd.C_of_reads (h1:=fun _=>rfl) (hA15 _ (Kd.reads_of_C Bu.out)))
  have Cn:=Az.mk hC15
  clear hA15 hC15 Ax hsz15
  obtain⟨De,Ay,_,hsz16,_⟩:=info_parts info3
  obtain⟨hcut16,hA16,hC16⟩:=print_take_of (P:=Try.prog) (Value.int .i64) 0 25 3 .i64 Try.underlying25 Ay hsz16 A0 c0 l0 (Ae) (od) (od) Bv.out
  have Al:=Az.mk (Kd.C_of_reads (h1:=fun _=>rfl) (hA16 _ (Kd.reads_of_C Bu.out)))
  have Co:=Az.mk hC16
  clear hA16 hC16 Ay hsz16
  refine start_ (n:=10) (S:=fun w'=>True) (ds:=[]) #[F,F,F,F,F,F,F,F,F,F] (by kernel_rfl) rfl rfl trivial (fun hHeld=>?_);refine with_tabW gT.tab6 gT.bits6 (fun HT_ HW_=>?_)
  generalize w.drew=Dk at HB Ak Al hHeld ⊢
  refine pu (i:=1) (N:=some 20) #[F,T,F,F,F,F,F,F,F,F] (any_of HT_.out (by kernel_rfl)) ?_
  refine pu (i:=2) (N:=some 21) #[F,T,T,F,F,F,F,F,F,F] (any_of HT_.out (by kernel_rfl)) ?_
  refine pu (i:=3) (N:=some 22) #[F,T,T,T,F,F,F,F,F,F] (any_of HT_.out (by kernel_rfl)) ?_
  refine pu (i:=5) (N:=some 24) #[F,T,T,T,F,T,F,F,F,F] (any_of HT_.out (by kernel_rfl)) ?_
  refine pu (i:=6) (N:=some 25) #[F,T,T,T,F,T,T,F,F,F] (any_of HT_.out (by kernel_rfl)) ?_
  refine pu (i:=7) (N:=some 26) #[F,T,T,T,F,T,T,T,F,F] (any_of HT_.out (by kernel_rfl)) ?_
  refine one_ (i:=0) (N:=some 19) #[T,T,T,T,F,T,T,T,F,F] rfl rfl (one_of HT_.out (by kernel_rfl)) (by decide) (fun K hK=>?_)
  refine Kd.R_lit_step (Kd.int .i64) _ 3 ?hg (N:=19) ?hd (xs:=([]:List Int)) (inner:=[]) (ok:=fun _=>True) (okp:=fun _=>True) ?hr ?hp (fun _ hk=>hk) trivial (Below.refl _ _) (Nat.le_refl _) (by simp) ?_;(case hd=>rfl);(case hg=>rfl);(case hr=>first|(go_simp;done)|(go_simp;rfl));(case hp=>exact(Reps.none _ _))
  intro Ce Dl Am hb hg_ hnew_
  clear hg_ hnew_
  (first|rw[←Av.out]at Am|(simp only[Int.reduceToNat]at Am;rw[←Av.out]at Am))
  have Ba:=Az.mk (Kd.R_lower Am (bwZ bw_38));replace HB:=Az.mk (bwT bw_38 hb)
  clear hb Am
  refine hK.out _ _ trivial (fun hHeld=>?_)
  clear hK K
  refine norm_ (a':=?_) ?_ ?_
  rotate_left
  ·show Act.put _ (some 19) _=_
   exact acq
  refine one_ (i:=4) (N:=some 23) #[T,T,T,T,T,T,T,T,F,F] rfl rfl (one_of HT_.out (by kernel_rfl)) (by decide) (fun K hK=>?_)
  refine Kd.R_append_rows_step (Kd.int .i64) (w0:=w) w.heap.size (by rfl) (.tmp 19) (.tmp 22) 25 3 (.int .i64 0) 8 rfl Try.underlying25 info3 rfl (by decide) (by omega) Ce Ah (l0.drop ((Ae):Int).toNat) _ _ _ (fun _=>True) (fun _=>False) rfl rfl ?aO ?aR (fun _ _ h=>h) (fun _ h=>h.elim) ?aF ?aB ?aS ?aL ?_
  (case aR=>first|(rw[←show(l0.drop ((Ae):Int).toNat).length=(l0.length - (Ae).toNat)from List.length_drop];repeat(first|exact(Kd.C_below Ak.out HB.out)|(with_reducible refine Kd.C_alloc ?_ _)|(with_reducible refine Kd.C_drewN ?_ _)|(with_reducible refine Kd.C_drew ?_)))|(repeat(first|exact(Kd.C_below Ak.out HB.out)|(with_reducible refine Kd.C_alloc ?_ _)|(with_reducible refine Kd.C_drewN ?_ _)|(with_reducible refine Kd.C_drew ?_))))
  (case aB=>exact bw_38)
  (case aF=>exact(fun _ _=>trivial))
  (case aO=>exact(kR Ba.out))
  (case aS=>exact(bwZ bw_38))
  (case aL=>have:=LMc10.out;have hlx_:=(show(l0.drop ((Ae):Int).toNat).length=(l0.length - (Ae).toNat)from List.length_drop);omega)
  intro Cf Dm ho hb hg hat
  rw[←Bm.out]at ho
  have n0_:=Az.mk (hb)
  have n1_:=Az.mk (ho)
  clear HB
  clear Ba
  have HB:=n0_
  have Bb:=n1_
  clear n0_ n1_
  clear ho hb hg hat
  refine hK.out _ _ trivial (fun hHeld=>?_)
  clear hK K
  refine norm_ (a':=?_) ?_ ?_
  rotate_left
  ·show Act.put _ (some 23) _=_
   exact acq
  refine one_ (i:=8) (N:=some 27) #[T,T,T,T,T,T,T,T,T,F] rfl rfl (one_of HT_.out (by kernel_rfl)) (by decide) (fun K hK=>?_)
  refine Kd.R_append_rows_step (Kd.int .i64) (w0:=w) w.heap.size (by rfl) (.tmp 23) (.tmp 26) 25 3 (.int .i64 0) 8 rfl Try.underlying25 info3 rfl (by decide) (by omega) Cf Af (l0.take ((Ae):Int).toNat) _ _ _ (fun _=>True) (fun _=>False) rfl rfl ?aO ?aR (fun _ _ h=>h) (fun _ h=>h.elim) ?aF ?aB ?aS ?aL ?_
  (case aR=>first|(refine Eq.mp (congrArg (fun m_=>ReadsRow _ _ _ _ m_ (l0.take ((Ae):Int).toNat)) (show(l0.take ((Ae):Int).toNat).length=(Ae).toNat from(by rw[List.length_take];have h_:((Ae):Int)≤(l0.length:Int):=od;omega))) ?_;repeat(first|exact(Kd.C_below Al.out HB.out)|(with_reducible refine Kd.C_alloc ?_ _)|(with_reducible refine Kd.C_drewN ?_ _)|(with_reducible refine Kd.C_drew ?_)))|(repeat(first|exact(Kd.C_below Al.out HB.out)|(with_reducible refine Kd.C_alloc ?_ _)|(with_reducible refine Kd.C_drewN ?_ _)|(with_reducible refine Kd.C_drew ?_))))
  (case aB=>exact bw_38)
  (case aF=>exact(fun _ _=>trivial))
  (case aO=>exact(kR Bb.out))
  (case aS=>exact(bwZ bw_38))
  (case aL=>have:=LMc13.out;have hlx_:=(show(l0.take ((Ae):Int).toNat).length=(Ae).toNat from(by rw[List.length_take];have h_:((Ae):Int)≤(l0.length:Int):=od;omega));omega)
  intro Df Dn ho hb hg hat
  rw[←Bn.out]at ho
  have n0_:=Az.mk (hb)
  have n1_:=Az.mk (ho)
  clear HB
  clear Bb
  have HB:=n0_
  have Bo:=n1_
  clear n0_ n1_
  clear ho hb hg hat
  refine hK.out _ _ trivial (fun hHeld=>?_)
  clear hK K
  refine norm_ (a':=?_) ?_ ?_
  rotate_left
  ·show Act.put _ (some 27) _=_
   exact acq
  refine pu (i:=9) (N:=some 4) #[T,T,T,T,T,T,T,T,T,T] (any_of HT_.out (by kernel_rfl)) ?_
  refine done_ (done_of HT_.out (by kernel_rfl)) ?_
  try go_wp2
  go_ret
  exact⟨_,by first|rfl|(simp[eWn,eWs] <;> rfl)|(simp only[←As];first|rfl|(simp[eWn,eWs] <;> rfl))|(simp[*,eWn,eWs] <;> rfl),kR Bo.out,bw_38⟩
 rw[ig c6]at H
 have Bl:=decide_eq_false c6
 clear c6
 obtain⟨Ai,hy⟩:∃y_:List Int,y_=(([]:List Int)):=⟨_,rfl⟩
 replace H:(if 0≤(Int.tmod a1 (l0.length:Int)) then(if(Int.tmod a1 (l0.length:Int))≤(l0.length:Int) then(if Ai.length+(l0.drop ((Int.tmod a1 (l0.length:Int)):Int).toNat).length<17592186044416 then((some (Ai ++ (l0.drop ((Int.tmod a1 (l0.length:Int)):Int).toNat):List Int)).bind fun Ag=>(if Ag.length+(l0.take ((Int.tmod a1 (l0.length:Int)):Int).toNat).length<17592186044416 then(some (Ag ++ (l0.take ((Int.tmod a1 (l0.length:Int)):Int).toNat))) else(none))) else(none)) else(none)) else(none))=some r:=rh
 have Bc:=Az.mk hy
 clear hy
 obtain⟨Ad,Aj⟩:∃j_:Int,(Int.tmod a1 (l0.length:Int))=j_:=⟨_,rfl⟩
 replace H:(if 0≤(Ad) then(if(Ad)≤(l0.length:Int) then(if Ai.length+(l0.drop ((Ad):Int).toNat).length<17592186044416 then((some (Ai ++ (l0.drop ((Ad):Int).toNat):List Int)).bind fun Ag=>(if Ag.length+(l0.take ((Ad):Int).toNat).length<17592186044416 then(some (Ag ++ (l0.take ((Ad):Int).toNat))) else(none))) else(none)) else(none)) else(none))=some r:=by first|(rw[Aj]at H;exact H)|(simp only[Aj]at H ⊢;exact H)
 (try rw[Aj]at Bl)
 by_cases Bp:0≤(Ad)
 rotate_left
 ·rw[ig Bp]at H
  exact absurd H (by simp)
 rw[ip Bp]at H
 have Cp:=ets Bp
 have Cq:=ode Bp
 clear Bp
 by_cases Bq:(Ad)≤(l0.length:Int)
 rotate_left
 ·rw[ig Bq]at H
  exact absurd H (by simp)
 rw[ip Bq]at H
 have Cr:=ets Bq
 have Cs:=ode Bq
 clear Bq
 by_cases By:Ai.length+(l0.drop ((Ad):Int).toNat).length<17592186044416
 rotate_left
 ·rw[ig By]at H
  exact absurd H (by simp)
 rw[ip By]at H
 have LMc24:=Az.mk By
 clear By
 obtain⟨Ag,hy⟩:∃y_:List Int,y_=(Ai ++ (l0.drop ((Ad):Int).toNat)):=⟨_,rfl⟩
 replace H:(if Ag.length+(l0.take ((Ad):Int).toNat).length<17592186044416 then(some (Ag ++ (l0.take ((Ad):Int).toNat))) else(none))=some r:=rh
 have Br:=Az.mk hy
 clear hy
 have Ct:=ets (od:0≤(Ad))
 have Cu:=ets (od:(Ad)≤(l0.length:Int))
 by_cases Bz:Ag.length+(l0.take ((Ad):Int).toNat).length<17592186044416
 rotate_left
 ·rw[ig Bz]at H
  exact absurd H (by simp)
 rw[ip Bz]at H
 have LMc27:=Az.mk Bz
 clear Bz
 obtain⟨Cg,hy⟩:∃y_:List Int,y_=(Ag ++ (l0.take ((Ad):Int).toNat)):=⟨_,rfl⟩
 replace H:(some Cg)=some r:=rh
 have Bs:=Az.mk hy
 clear hy
 obtain rfl:=Option.some.inj H
 go_enter Try.func46,Try.ntmps46
 try go_wp2
 replace HB:=Az.mk (bwD HB.out)
 obtain⟨Dg,Bd,_,hsz29,_⟩:=info_parts info3
 obtain⟨Do,hcut29,hA29,hC29⟩:=print_drop_of (P:=Try.prog) (Value.int .i64) 0 25 3 .i64 Try.underlying25 Bd hsz29 A0 c0 l0 (Ad) (od) (od) Bv.out
 have Ao:=Az.mk (Kd.C_of_reads (h1:=fun _=>rfl) (hA29 _ (Kd.reads_of_C Bu.out)))
 have Cv:=Az.mk hC29
 clear hA29 hC29 Bd hsz29
 obtain⟨Dh,Bf,_,hsz30,_⟩:=info_parts info3
 obtain⟨hcut30,hA30,hC30⟩:=print_take_of (P:=Try.prog) (Value.int .i64) 0 25 3 .i64 Try.underlying25 Bf hsz30 A0 c0 l0 (Ad) (od) (od) Bv.out
 have Ap:=Az.mk (Kd.C_of_reads (h1:=fun _=>rfl) (hA30 _ (Kd.reads_of_C Bu.out)))
 have Cw:=Az.mk hC30
 clear hA30 hC30 Bf hsz30
 refine start_ (n:=10) (S:=fun w'=>True) (ds:=[]) #[F,F,F,F,F,F,F,F,F,F] (by kernel_rfl) rfl rfl trivial (fun hHeld=>?_);refine with_tabW gT.tab6 gT.bits6 (fun HT_ HW_=>?_)
 generalize w.drew=Dp at HB Ao Ap hHeld ⊢
 refine pu (i:=1) (N:=some 20) #[F,T,F,F,F,F,F,F,F,F] (any_of HT_.out (by kernel_rfl)) ?_
 refine pu (i:=2) (N:=some 21) #[F,T,T,F,F,F,F,F,F,F] (any_of HT_.out (by kernel_rfl)) ?_
 refine pu (i:=3) (N:=some 22) #[F,T,T,T,F,F,F,F,F,F] (any_of HT_.out (by kernel_rfl)) ?_
 refine pu (i:=5) (N:=some 24) #[F,T,T,T,F,T,F,F,F,F] (any_of HT_.out (by kernel_rfl)) ?_
 refine pu (i:=6) (N:=some 25) #[F,T,T,T,F,T,T,F,F,F] (any_of HT_.out (by kernel_rfl)) ?_
 refine pu (i:=7) (N:=some 26) #[F,T,T,T,F,T,T,T,F,F] (any_of HT_.out (by kernel_rfl)) ?_
 refine one_ (i:=0) (N:=some 19) #[T,T,T,T,F,T,T,T,F,F] rfl rfl (one_of HT_.out (by kernel_rfl)) (by decide) (fun K hK=>?_)
 refine Kd.R_lit_step (Kd.int .i64) _ 3 ?hg (N:=19) ?hd (xs:=([]:List Int)) (inner:=[]) (ok:=fun _=>True) (okp:=fun _=>True) ?hr ?hp (fun _ hk=>hk) trivial (Below.refl _ _) (Nat.le_refl _) (by simp) ?_;(case hd=>rfl);(case hg=>rfl);(case hr=>first|(go_simp;done)|(go_simp;rfl));(case hp=>exact(Reps.none _ _))
 intro Ch Dq Aq hb hg_ hnew_
 clear hg_ hnew_
 (first|rw[←Bc.out]at Aq|(simp only[Int.reduceToNat]at Aq;rw[←Bc.out]at Aq))
 have Bh:=Az.mk (Kd.R_lower Aq (bwZ bw_38));replace HB:=Az.mk (bwT bw_38 hb)
 clear hb Aq
 refine hK.out _ _ trivial (fun hHeld=>?_)
 clear hK K
 refine norm_ (a':=?_) ?_ ?_
 rotate_left
 ·show Act.put _ (some 19) _=_
  exact acq
 refine one_ (i:=4) (N:=some 23) #[T,T,T,T,T,T,T,T,F,F] rfl rfl (one_of HT_.out (by kernel_rfl)) (by decide) (fun K hK=>?_)
 refine Kd.R_append_rows_step (Kd.int .i64) (w0:=w) w.heap.size (by rfl) (.tmp 19) (.tmp 22) 25 3 (.int .i64 0) 8 rfl Try.underlying25 info3 rfl (by decide) (by omega) Ch Ai (l0.drop ((Ad):Int).toNat) _ _ _ (fun _=>True) (fun _=>False) rfl rfl ?aO ?aR (fun _ _ h=>h) (fun _ h=>h.elim) ?aF ?aB ?aS ?aL ?_
 (case aR=>first|(rw[←show(l0.drop ((Ad):Int).toNat).length=(l0.length - (Ad).toNat)from List.length_drop];repeat(first|exact(Kd.C_below Ao.out HB.out)|(with_reducible refine Kd.C_alloc ?_ _)|(with_reducible refine Kd.C_drewN ?_ _)|(with_reducible refine Kd.C_drew ?_)))|(repeat(first|exact(Kd.C_below Ao.out HB.out)|(with_reducible refine Kd.C_alloc ?_ _)|(with_reducible refine Kd.C_drewN ?_ _)|(with_reducible refine Kd.C_drew ?_))))
 (case aB=>exact bw_38)
 (case aF=>exact(fun _ _=>trivial))
 (case aO=>exact(kR Bh.out))
 (case aS=>exact(bwZ bw_38))
 (case aL=>have:=LMc24.out;have hlx_:=(show(l0.drop ((Ad):Int).toNat).length=(l0.length - (Ad).toNat)from List.length_drop);omega)
 intro Ci Dr ho hb hg hat
 rw[←Br.out]at ho
 have n0_:=Az.mk (hb)
 have n1_:=Az.mk (ho)
 clear HB
 clear Bh
 have HB:=n0_
 have Bi:=n1_
 clear n0_ n1_
 clear ho hb hg hat
 refine hK.out _ _ trivial (fun hHeld=>?_)
 clear hK K
 refine norm_ (a':=?_) ?_ ?_
 rotate_left
 ·show Act.put _ (some 23) _=_
  exact acq
 refine one_ (i:=8) (N:=some 27) #[T,T,T,T,T,T,T,T,T,F] rfl rfl (one_of HT_.out (by kernel_rfl)) (by decide) (fun K hK=>?_)
 refine Kd.R_append_rows_step (Kd.int .i64) (w0:=w) w.heap.size (by rfl) (.tmp 23) (.tmp 26) 25 3 (.int .i64 0) 8 rfl Try.underlying25 info3 rfl (by decide) (by omega) Ci Ag (l0.take ((Ad):Int).toNat) _ _ _ (fun _=>True) (fun _=>False) rfl rfl ?aO ?aR (fun _ _ h=>h) (fun _ h=>h.elim) ?aF ?aB ?aS ?aL ?_
 (case aR=>first|(refine Eq.mp (congrArg (fun m_=>ReadsRow _ _ _ _ m_ (l0.take ((Ad):Int).toNat)) (show(l0.take ((Ad):Int).toNat).length=(Ad).toNat from(by rw[List.length_take];have h_:((Ad):Int)≤(l0.length:Int):=od;omega))) ?_;repeat(first|exact(Kd.C_below Ap.out HB.out)|(with_reducible refine Kd.C_alloc ?_ _)|(with_reducible refine Kd.C_drewN ?_ _)|(with_reducible refine Kd.C_drew ?_)))|(repeat(first|exact(Kd.C_below Ap.out HB.out)|(with_reducible refine Kd.C_alloc ?_ _)|(with_reducible refine Kd.C_drewN ?_ _)|(with_reducible refine Kd.C_drew ?_))))
 (case aB=>exact bw_38)
 (case aF=>exact(fun _ _=>trivial))
 (case aO=>exact(kR Bi.out))
 (case aS=>exact(bwZ bw_38))
 (case aL=>have:=LMc27.out;have hlx_:=(show(l0.take ((Ad):Int).toNat).length=(Ad).toNat from(by rw[List.length_take];have h_:((Ad):Int)≤(l0.length:Int):=od;omega));omega)
 intro Di Ds ho hb hg hat
 rw[←Bs.out]at ho
 have n0_:=Az.mk (hb)
 have n1_:=Az.mk (ho)
 clear HB
 clear Bi
 have HB:=n0_
 have Bt:=n1_
 clear n0_ n1_
 clear ho hb hg hat
 refine hK.out _ _ trivial (fun hHeld=>?_)
 clear hK K
 refine norm_ (a':=?_) ?_ ?_
 rotate_left
 ·show Act.put _ (some 27) _=_
  exact acq
 refine pu (i:=9) (N:=some 4) #[T,T,T,T,T,T,T,T,T,T] (any_of HT_.out (by kernel_rfl)) ?_
 refine done_ (done_of HT_.out (by kernel_rfl)) ?_
 try go_wp2
 go_ret
 exact⟨_,by first|rfl|(simp[eWn,eWs] <;> rfl)|(simp only[←Aj];first|rfl|(simp[eWn,eWs] <;> rfl))|(simp[*,eWn,eWs] <;> rfl),kR Bt.out,bw_38⟩
end
end Go.Proofs.Ytbpnjlemjapnnaa.P
