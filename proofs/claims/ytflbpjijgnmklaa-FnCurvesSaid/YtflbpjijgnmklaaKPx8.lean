-- The walks, cut and laid together by this session's tools (prune.py, sq2.py, min.py: shorter names, no needless spaces). Not trusted: Lean checks it.
import Derived.Test.YtflbpjijgnmklaaKWZip
import Derived.Test.YtflbpjijgnmklaaKPx0
namespace Go.Proofs.Ytflbpjijgnmklaa.P
open Go.RowKit Go.Proofs.YtflbpjijgnmklaaW.PrintWords Go.Proofs.YtflbpjijgnmklaaW.PrintLast Go.Proofs.YtflbpjijgnmklaaW.PrintMore
attribute [local go_sem] max2_int min2_int max_two min_two max_three min_three max_four min_four   -- for this text's walks alone
set_option linter.unusedVariables false
set_option linter.unusedSimpArgs false
set_option maxHeartbeats 8000000
set_option maxRecDepth 100000
open Option renaming bind_eq_some_iff → be
theorem bw_8 {n:Nat}{v v':World} (h:Below n v v':=by repeat(first|(with_reducible first|exact HB.out|apply bwA|apply pbN|apply bwD)|exact HB.out)):Below n v v':=h
mutual
def fP.l0:Nat→List (List Int)→List ByteArray→Int→Option ((List (List Int)) × Bool)
 |0,_,_,_=>none
 |k+1,x4,x5,x6=>if x6<(x5.length:Int) then(fP.l1 k x4 x5 x6 (([]:List Int)) 0) else((fA.f k x4).bind fun t169=>(if t169=true then(some (x4,true)) else(some ((([]:List (List Int))),false))))
def fP.l1:Nat→List (List Int)→List ByteArray→Int→List Int→Int→Option ((List (List Int)) × Bool)
 |0,_,_,_,_,_=>none
 |k+1,x4,x5,x6,x7,x8=>if 0≤x6 then(if x6<(x5.length:Int) then(if x8<((rdOf ByteArray.empty x5 x6).size:Int) then(if 0≤x8 then(if(bt (rdOf ByteArray.empty x5 x6) x8) ≥ 97 then(fP.j2 k x4 x5 x6 x7 x8 (bt (rdOf ByteArray.empty x5 x6) x8) (decide ((bt (rdOf ByteArray.empty x5 x6) x8)≤105))) else(fP.j2 k x4 x5 x6 x7 x8 (bt (rdOf ByteArray.empty x5 x6) x8) false)) else(none)) else(if x4.length<5864062014805 then(fP.l0 k (x4 ++ [x7]) x5 (wrap64 (x6+1))) else(none))) else(none)) else(none)
def fP.j2:Nat→List (List Int)→List ByteArray→Int→List Int→Int→Int→Bool→Option ((List (List Int)) × Bool)
 |0,_,_,_,_,_,_,_=>none
 |k+1,x4,x5,x6,x7,x8,x9,x36=>if x36=true then(if x7.length<17592186044416 then(fP.l1 k x4 x5 x6 (x7 ++ [wrap64 ((wrap64 ((wrap64 (x9)) - 97))+1)]) (wrap64 (x8+1))) else(none)) else(if x9 ≥ 65 then(if x9≤73 then(if x7.length<17592186044416 then(fP.l1 k x4 x5 x6 (x7 ++ [wrap64 (-(wrap64 ((wrap64 ((wrap64 (x9)) - 65))+1)))]) (wrap64 (x8+1))) else(none)) else(some ((([]:List (List Int))),false))) else(some ((([]:List (List Int))),false)))
end
def fP.f (k:Nat) (a0:ByteArray):Option ((List (List Int)) × Bool):=(gL.f k a0 32).bind fun t166=>(fP.l0 k (([]:List (List Int))) t166 0)
theorem fP.calls (k:Nat) (a0:ByteArray) (r1:List (List Int)) (r2:Bool) (w:World) (h:fP.f k a0=some (r1,r2)):
  Calls Try.prog 9 #[.string a0] w fun e w'=>∃v0_:Value,e= .returned (.tuple #[v0_, .bool r2])∧Kd.S (Kd.slice 3 (Kd.int .i64)) 25 w' w.heap.size (fun _=>True) v0_ r1∧Below w.heap.size w w':=by
 have HB:=Az.mk (Below.refl w.heap.size w)
 have H:((gL.f k a0 32).bind fun Aa=>(fP.l0 k (([]:List (List Int))) Aa 0))=some (r1,r2):=h
 clear h
 obtain⟨Bt,hy⟩:∃y_:List (List Int),y_=(([]:List (List Int))):=⟨_,rfl⟩
 replace H:((gL.f k a0 32).bind fun Aa=>(fP.l0 k Bt Aa 0))=some (r1,r2):=rh
 have Bd:=Az.mk hy
 clear hy
 replace H:=bez H
 obtain⟨Aa,A2,H⟩:=H
 try dsimp only at H
 have H':=Az.mk H
 clear H
 go_enter Try.func9,Try.ntmps9
 go_wp2_with (first|((with_reducible refine gtD (N:=10) rfl ?_);refine Kd.S_lit (Kd.slice 3 (Kd.int .i64)) _ 25 ?hg (N:=10) ?hd (xs:=([]:List (List Int))) (inner:=[]) (ok:=fun _=>True) (okp:=fun _=>True) ?hr ?hp (fun _ hk=>hk) trivial (Below.refl _ _) (Nat.le_refl _) (by simp) ?_;(case hd=>rfl);(case hg=>rfl);(case hr=>first|(go_simp;done)|(go_simp;rfl));(case hp=>exact(Reps.none _ _));intro Ea w3 Bu hb hg_ hnew_;clear hg_ hnew_;(first|rw[←Bd.out]at Bu|(simp only[Int.reduceToNat]at Bu;rw[←Bd.out]at Bu));have As:=Az.mk (Kd.S_lower Bu (bwZ bw_8));replace HB:=Az.mk (bwT bw_8 hb);clear hb Bu)|((with_reducible refine gtC (f:=45) rfl ?_);refine clz Try.func45 (some 12) #[.string a0, .int .u8 32] ?_;(with_reducible refine(gL.calls k a0 32 Aa _ A2.out).mono ?_);rintro e w5 ⟨Dh,rfl,Dx,hb⟩;refine⟨_,rfl,?_⟩;replace As:=Az.mk (Kd.S_below (kS As.out) hb);have Bv:=Az.mk (Kd.R_lower Dx (bwZ bw_8));replace HB:=Az.mk (bwT bw_8 hb);(try clear hb);(try clear Dx)))
 go_loopg [4,6] k (fun kq v4 v6 w'=>∃(Ag:List (List Int)) (Ab:Int),v6= .int .i64 Ab∧Az (fP.l0 kq Ag Aa Ab=some (r1,r2))∧Az (kq≤k)∧Az (Kd.S (Kd.slice 3 (Kd.int .i64)) 25 w' w.heap.size (fun _=>True) v4 Ag)∧Az (Kd.R Kd.string 9 w' w.heap.size (fun _=>True) Dh Aa)∧Az (Below w.heap.size w w'))
 case atStart=>exact⟨(Bt),(0),rq2,H',⟨Nat.le_refl _⟩,⟨kS As.out⟩,⟨kR Bv.out⟩,⟨bw_8⟩⟩
 clear H'
 obtain⟨Ag,Ab,rfl,HA,HK1,Ac,Ad,HB⟩:=hrel
 cases gk with
 |zero=>exact absurd HA.out (by simp[fP.l0])
 |succ k1=>
  have H:=HA.out
  clear HA
  simp only[fP.l0]at H
  by_cases c6:Ab<(Aa.length:Int)
  rotate_left
  ·rw[ig c6]at H
   have Bl:=decide_eq_false c6
   clear c6
   replace H:=bez H
   obtain⟨Di,Dy,H⟩:=H
   try dsimp only at H
   by_cases Da:Di=true
   ·subst Da
    rw[ip rfl]at H
    simp only[Option.some.injEq,Prod.mk.injEq]at H
    obtain⟨rfl,rfl⟩:=H
    obtain⟨Eb,Ec,Dj⟩:=Kd.R_slice Ad.out
    subst Dj
    obtain⟨Dk,Dl,Dm⟩:=Kd.S_slice Ac.out
    subst Dm
    go_wp2_with (first|((with_reducible refine gtC (f:=31) rfl ?_);refine clz Try.func31 (some 70) #[.slice Dk Ag.length Dl] ?_;(with_reducible refine(fA.calls k1 _ _ Ag true _ ?Au ?Av Dy.out).mono ?_);(case Au=>exact kC (Kd.S_reads' Ac.out).2.2);(case Av=>exact(Kd.S_reads' Ac.out).2.1);rintro e Er ⟨rfl,hb⟩;refine⟨_,rfl,?_⟩;replace Ac:=Az.mk (Kd.S_below (kS Ac.out) hb);replace Ad:=Az.mk (Kd.R_below (kR Ad.out) hb);replace HB:=Az.mk (bwT bw_8 hb);(try clear hb)))
    go_ret2
    exact⟨_,rq1,kS Ac.out,bw_8⟩
   replace Da:=Bool.eq_false_iff.mpr Da
   subst Da
   rw[ig ff]at H
   obtain⟨Dn,hy⟩:∃y_:List (List Int),y_=(([]:List (List Int))):=⟨_,rfl⟩
   replace H:(some (Dn,false))=some (r1,r2):=rh
   have Bf:=Az.mk hy
   clear hy
   simp only[Option.some.injEq,Prod.mk.injEq]at H
   obtain⟨rfl,rfl⟩:=H
   obtain⟨Ed,Ee,Do⟩:=Kd.R_slice Ad.out
   subst Do
   obtain⟨Dp,Dq,Dr⟩:=Kd.S_slice Ac.out
   subst Dr
   go_wp2_with (first|((with_reducible refine gtC (f:=31) rfl ?_);refine clz Try.func31 (some 70) #[.slice Dp Ag.length Dq] ?_;(with_reducible refine(fA.calls k1 _ _ Ag false _ ?Au ?Av Dy.out).mono ?_);(case Au=>exact kC (Kd.S_reads' Ac.out).2.2);(case Av=>exact(Kd.S_reads' Ac.out).2.1);rintro e Es ⟨rfl,hb⟩;refine⟨_,rfl,?_⟩;replace Ac:=Az.mk (Kd.S_below (kS Ac.out) hb);replace Ad:=Az.mk (Kd.R_below (kR Ad.out) hb);replace HB:=Az.mk (bwT bw_8 hb);(try clear hb))|((with_reducible refine gtD (N:=72) rfl ?_);refine Kd.S_lit (Kd.slice 3 (Kd.int .i64)) _ 25 ?hg (N:=72) ?hd (xs:=([]:List (List Int))) (inner:=[]) (ok:=fun _=>True) (okp:=fun _=>True) ?hr ?hp (fun _ hk=>hk) trivial (Below.refl _ _) (Nat.le_refl _) (by simp) ?_;(case hd=>rfl);(case hg=>rfl);(case hr=>first|(go_simp;done)|(go_simp;rfl));(case hp=>exact(Reps.none _ _));intro Ef Et Ao hb hg_ hnew_;clear hg_ hnew_;(first|rw[←Bf.out]at Ao|(simp only[Int.reduceToNat]at Ao;rw[←Bf.out]at Ao));replace Ad:=Az.mk (Kd.R_below (kR Ad.out) hb);have Bw:=Az.mk (Kd.S_lower (Kd.S_new' Ao (Kd.S_lt (kS Ac.out))) (bwZ bw_8));replace Ac:=Az.mk (Kd.S_elder' (kS Ac.out) (Kd.S_base Ao) hb);replace HB:=Az.mk (bwT bw_8 hb);clear hb Ao))
   go_ret2
   exact⟨_,rq1,by(with_reducible repeat(first|apply Kd.S_alloc|apply Kd.S_drewN|apply Kd.S_drew));exact Kd.S_mono Bw.out (fun _ hk=>trivial),bw_8⟩
  rw[ip c6]at H
  have Bl:=ode c6
  clear c6
  obtain⟨Bx,hy⟩:∃y_:List Int,y_=(([]:List Int)):=⟨_,rfl⟩
  replace H:(fP.l1 k1 Ag Aa Ab Bx 0)=some (r1,r2):=rh
  have Bh:=Az.mk hy
  clear hy
  have H':=Az.mk H
  clear H
  obtain⟨Eg,Dz,Eh⟩:=Kd.R_slice Ad.out
  subst Eh
  go_wp2_with (first|((with_reducible refine gtD (N:=19) rfl ?_);refine Kd.R_lit (Kd.int .i64) _ 3 ?hg (N:=19) ?hd (xs:=([]:List Int)) (inner:=[]) (ok:=fun _=>True) (okp:=fun _=>True) ?hr ?hp (fun _ hk=>hk) trivial (Below.refl _ _) (Nat.le_refl _) (by simp) ?_;(case hd=>rfl);(case hg=>rfl);(case hr=>first|(go_simp;done)|(go_simp;rfl));(case hp=>exact(Reps.none _ _));intro Ei w8 Bq hb hg_ hnew_;clear hg_ hnew_;(first|rw[←Bh.out]at Bq|(simp only[Int.reduceToNat]at Bq;rw[←Bh.out]at Bq));replace Ac:=Az.mk (Kd.S_elder' (kS Ac.out) (Kd.R_base Bq) hb);replace Ad:=Az.mk (Kd.R_below (kR Ad.out) hb);have By:=Az.mk (Kd.R_lower Bq (bwZ bw_8));replace HB:=Az.mk (bwT bw_8 hb);clear hb Bq))
  go_loopg [7,8] k1 (fun kq v7 v8 w'=>∃(Ah:List Int) (Ae:Int),v8= .int .i64 Ae∧Az (fP.l1 kq Ag Aa Ab Ah Ae=some (r1,r2))∧Az (kq≤k1)∧Az (Kd.S (Kd.slice 3 (Kd.int .i64)) 25 w' w.heap.size (fun k_=>some k_≠(v7:Value).ownBlock) u4 Ag)∧Az (Kd.R Kd.string 9 w' w.heap.size (fun _=>True) (.slice Eg Aa.length Dz) Aa)∧Az (Kd.R (Kd.int .i64) 3 w' w.heap.size (fun _=>True) v7 Ah)∧Az (Below w.heap.size w w'))
  case atStart=>exact⟨(Bx),(0),rq2,H',⟨Nat.le_refl _⟩,⟨by(with_reducible repeat(first|apply Kd.S_alloc|apply Kd.S_drewN|apply Kd.S_drew));exact Kd.S_mono Ac.out (fun _ hk=>hk.2)⟩,⟨kR Ad.out⟩,⟨kR By.out⟩,⟨bw_8⟩⟩
  clear H'
  try clear c6
  try clear Bl
  obtain⟨Ah,Ae,rfl,HA,HK2,Ac,Ad,Af,HB⟩:=hrel
  cases gk with
  |zero=>exact absurd HA.out (by simp[fP.l1])
  |succ k2=>
   have H:=HA.out
   clear HA
   simp only[fP.l1]at H
   by_cases Bz:0≤Ab
   rotate_left
   ·rw[ig Bz]at H
    exact absurd H (by simp)
   rw[ip Bz]at H
   have Ca:=ode Bz
   clear Bz
   by_cases Cc:Ab<(Aa.length:Int)
   rotate_left
   ·rw[ig Cc]at H
    exact absurd H (by simp)
   rw[ip Cc]at H
   have Cd:=ode Cc
   clear Cc
   by_cases Bm:Ae<((rdOf ByteArray.empty Aa Ab).size:Int)
   rotate_left
   ·rw[ig Bm]at H
    have Bi:=decide_eq_false Bm
    clear Bm
    by_cases Db:Ag.length<5864062014805
    rotate_left
    ·rw[ig Db]at H
     exact absurd H (by simp)
    rw[ip Db]at H
    have LMc28:=Az.mk Db
    clear Db
    obtain⟨Ce,hy⟩:∃y_:List (List Int),y_=(Ag ++ [Ah]):=⟨_,rfl⟩
    replace H:(fP.l0 k2 Ce Aa (wrap64 (Ab+1)))=some (r1,r2):=rh
    have Cf:=Az.mk hy
    clear hy
    have H':=Az.mk H
    clear H
    have Ak:0≤(Ab:Int):=od
    have Al:Ab<(Aa.length:Int):=od
    obtain⟨Aw,Bn,Am⟩:=Kd.at_string (Kd.R_reads' Ad.out).2.2 Ab Ak Al
    cases Bn
    replace Ak:=ets Ak
    replace Al:=ets Al
    obtain⟨Cg,Ch,Ds⟩:=Kd.R_slice Af.out
    subst Ds
    go_wp2_with (first|((with_reducible refine gate_builtin (b:= .append) (xs:= #[.tmp 65, .tmp 67]) rfl ?_);at_builtin;refine Kd.S_append (Kd.slice 3 (Kd.int .i64)) (w0:=w) w.heap.size rfl (.tmp 65) (.tmp 67) 24 25 (.slice none 0 0) 24 rfl Try.underlying24 info25 rfl (by decide) (by omega) u4 Ag Ah [.slice Cg Ah.length Ch] (fun _=>True) (fun k_=>some k_=(.slice Cg Ah.length Ch:Value).ownBlock) rfl rfl ?aP (fun k_ hk_=>((Kd.R_mono (ok':=fun k_=>((fun _=>True)) k_∧some k_≠(u4:Value).ownBlock) (Kd.R_apart' (Af.out) (Kd.S_typed Ac.out) (by decide)) (fun k_ hk=>⟨trivial,hk.2⟩))).1 k_ hk_.symm) ?aF ?aO ?aB ?aS ?aL ?_;(case aP=>exact Kd.M_row (Kd.R_mono (Kd.R_tight rfl (Kd.R_mono (ok':=fun k_=>((fun _=>True)) k_∧some k_≠(u4:Value).ownBlock) (Kd.R_apart' (Af.out) (Kd.S_typed Ac.out) (by decide)) (fun k_ hk=>⟨trivial,hk.2⟩))) (fun _ h_=>h_)));(case aB=>exact bw_8);(case aF=>exact(fun _ _=>trivial));(case aO=>exact(by(with_reducible repeat(first|apply Kd.S_alloc|apply Kd.S_drewN|apply Kd.S_drew));exact Kd.S_mono Ac.out (fun k_ hk=>⟨trivial,fun e_=>hk e_⟩)));(case aS=>exact(bwZ bw_8));(case aL=>have:=LMc28.out;omega);intro Ej Eu ho hb hg hat;rw[←Cf.out]at ho;have n0_:=Az.mk (Kd.R_over' (kR Ad.out) (Kd.S_typed (kS Ac.out)) (by decide) hg);have n1_:=Az.mk (hb);have n2_:=Az.mk (ho);clear Ad;clear HB;clear Ac;clear Af;have Ad:=n0_;have HB:=n1_;have Ci:=n2_;clear n0_ n1_ n2_;clear ho hb hg hat))
    go_roundg k2
    case measure=>have:=HK1.out;have:=HK2.out;omega
    case rel=>exact⟨(Ce),(wrap64 (Ab+1)),rq2,H',⟨by have:=HK1.out;have:=HK2.out;omega⟩,⟨kS Ci.out⟩,⟨kR Ad.out⟩,⟨bw_8⟩⟩
   rw[ip Bm]at H
   have Bi:=ode Bm
   clear Bm
   by_cases Cj:0≤Ae
   rotate_left
   ·rw[ig Cj]at H
    exact absurd H (by simp)
   rw[ip Cj]at H
   have Ck:=ode Cj
   clear Cj
   have Bo:=Az.mk H
   clear H
   have Ak:0≤(Ab:Int):=od
   have Al:Ab<(Aa.length:Int):=od
   obtain⟨Aw,Bn,Am⟩:=Kd.at_string (Kd.R_reads' Ad.out).2.2 Ab Ak Al
   cases Bn
   replace Ak:=ets Ak
   replace Al:=ets Al
   have Ax:0≤(Ab:Int):=od
   have Ay:Ab<(Aa.length:Int):=od
   obtain⟨Cl,Dt,Ba⟩:=Kd.at_string (Kd.R_reads' Ad.out).2.2 Ab Ax Ay
   obtain rfl:Aw=Cl:=(by injection Dt)
   replace Ax:=ets Ax
   replace Ay:=ets Ay
   have Dc:0≤(Ae:Int):=od
   have Dd:Ae<((rdOf ByteArray.empty Aa Ab).size:Int):=od
   have Du:=bt_at (rdOf ByteArray.empty Aa Ab) Ae
   replace Dc:=ets Dc
   replace Dd:=ets Dd
   go_upto_region 12 with (fail)
   go_cut [36] (fun Ek wc=>∃(kq:Nat) (Aj:Bool),Ek= .bool Aj∧Az (fP.j2 kq Ag Aa Ab Ah Ae (bt (rdOf ByteArray.empty Aa Ab) Ae) Aj=some (r1,r2))∧Az (kq≤k2)∧Az (Kd.S (Kd.slice 3 (Kd.int .i64)) 25 wc w.heap.size (fun k_=>some k_≠(u7:Value).ownBlock) u4 Ag)∧Az (Kd.R Kd.string 9 wc w.heap.size (fun _=>True) (.slice (some Aw) Aa.length Dz) Aa)∧Az (Kd.R (Kd.int .i64) 3 wc w.heap.size (fun _=>True) u7 Ah)∧Az (Below w.heap.size w wc))
   case first=>
    have H:=Bo.out
    clear Bo
    by_cases Bp:(bt (rdOf ByteArray.empty Aa Ab) Ae) ≥ 97
    ·rw[ip Bp]at H
     have Ai:decide (97≤(bt (rdOf ByteArray.empty Aa Ab) Ae))=true:=ode Bp
     clear Bp
     (first|rw[Ai]|(simp only[i64_w,i32_w];rw[Ai])|skip)
     have H':=Az.mk H
     clear H
     go_wp2
     go_meet
     case rel=>exact⟨_,(decide ((bt (rdOf ByteArray.empty Aa Ab) Ae)≤105)),rq2,H',⟨by have:=HK1.out;have:=HK2.out;first|omega|exact Nat.le_refl _⟩,⟨kS Ac.out⟩,⟨kR Ad.out⟩,⟨kR Af.out⟩,⟨bw_8⟩⟩
    rw[ig Bp]at H
    have Ai:decide (97≤(bt (rdOf ByteArray.empty Aa Ab) Ae))=false:=decide_eq_false Bp
    clear Bp
    (first|rw[Ai]|(simp only[i64_w,i32_w];rw[Ai])|skip)
    have H':=Az.mk H
    clear H
    go_wp2
    go_meet
    case rel=>exact⟨_,(false),rq2,H',⟨by have:=HK1.out;have:=HK2.out;first|omega|exact Nat.le_refl _⟩,⟨kS Ac.out⟩,⟨kR Ad.out⟩,⟨kR Af.out⟩,⟨bw_8⟩⟩
   clear Bo
   try clear c6
   try clear Bl
   try clear Bz
   try clear Ca
   try clear Cc
   try clear Cd
   try clear Bm
   try clear Bi
   try clear Cj
   try clear Ck
   try clear Dc
   try clear Dd
   try clear Du
   try clear Bp
   try clear Ai
   try clear Am
   try clear Ba
   try clear Dc
   try clear Ak
   try clear Ax
   try clear Dd
   try clear Al
   try clear Ay
   obtain⟨kq,Aj,rfl,HA,Bb,Ac,Ad,Af,HB⟩:=hcut
   cases kq with
   |zero=>exact absurd HA.out (by simp[fP.j2])
   |succ Bc=>
    have H:=HA.out
    clear HA
    simp only[fP.j2]at H
    by_cases De:Aj=true
    ·subst De
     rw[ip rfl]at H
     by_cases Df:Ah.length<17592186044416
     rotate_left
     ·rw[ig Df]at H
      exact absurd H (by simp)
     rw[ip Df]at H
     have LMc18:=Az.mk Df
     clear Df
     obtain⟨Cm,hy⟩:∃y_:List Int,y_=(Ah ++ [wrap64 ((wrap64 ((wrap64 ((bt (rdOf ByteArray.empty Aa Ab) Ae))) - 97))+1)]):=⟨_,rfl⟩
     replace H:(fP.l1 Bc Ag Aa Ab Cm (wrap64 (Ae+1)))=some (r1,r2):=rh
     have Cn:=Az.mk hy
     clear hy
     have H':=Az.mk H
     clear H
     go_wp2_with (first|((with_reducible refine gate_builtin (b:= .append) (xs:= #[.tmp 43, .tmp 48]) rfl ?_);at_builtin;refine Kd.R_append (Kd.int .i64) (w0:=w) w.heap.size rfl (.tmp 43) (.tmp 48) 25 3 (.int .i64 0) 8 rfl Try.underlying25 info3 rfl (by decide) (by omega) u7 Ah (wrap64 ((wrap64 ((wrap64 ((bt (rdOf ByteArray.empty Aa Ab) Ae))) - 97))+1)) [.int .i64 (wrap64 ((wrap64 ((wrap64 ((bt (rdOf ByteArray.empty Aa Ab) Ae))) - 97))+1))] (fun _=>True) (fun _=>False) rfl rfl ?aP (fun _ hk=>hk.elim) ?aF ?aO ?aB ?aS ?aL ?_;(case aP=>exact rfl);(case aB=>exact bw_8);(case aF=>exact(fun _ _=>trivial));(case aO=>exact(kR Af.out));(case aS=>exact(bwZ bw_8));(case aL=>have:=LMc18.out;omega);intro El Ev ho hb hg hat;rw[←Cn.out]at ho;have n0_:=Az.mk (Kd.S_after (ok:=(fun _=>True)) (by(with_reducible repeat(first|apply Kd.S_alloc|apply Kd.S_drewN|apply Kd.S_drew));exact Kd.S_mono Ac.out (fun _ hk=>⟨trivial,hk⟩)) hg hat);have n1_:=Az.mk (Kd.R_over' (kR Ad.out) (Kd.R_typed (kR Af.out)) (by decide) hg);have n2_:=Az.mk (hb);have n3_:=Az.mk (ho);clear Ac;clear Ad;clear HB;clear Af;have Ac:=n0_;have Ad:=n1_;have HB:=n2_;have Co:=n3_;clear n0_ n1_ n2_ n3_;clear ho hb hg hat))
     go_roundg Bc
     case measure=>have:=HK1.out;have:=HK2.out;have:=Bb.out;omega
     case rel=>exact⟨(Cm),(wrap64 (Ae+1)),rq2,H',⟨by have:=HK1.out;have:=HK2.out;have:=Bb.out;omega⟩,⟨by(with_reducible repeat(first|apply Kd.S_alloc|apply Kd.S_drewN|apply Kd.S_drew));exact Kd.S_mono Ac.out (fun _ hk=>hk.2)⟩,⟨kR Ad.out⟩,⟨kR Co.out⟩,⟨bw_8⟩⟩
    replace De:=Bool.eq_false_iff.mpr De
    subst De
    rw[ig ff]at H
    by_cases Br:(bt (rdOf ByteArray.empty Aa Ab) Ae) ≥ 65
    rotate_left
    ·rw[ig Br]at H
     have Cp:decide (65≤(bt (rdOf ByteArray.empty Aa Ab) Ae))=false:=decide_eq_false Br
     clear Br
     obtain⟨Dv,hy⟩:∃y_:List (List Int),y_=(([]:List (List Int))):=⟨_,rfl⟩
     replace H:(some (Dv,false))=some (r1,r2):=rh
     have Bj:=Az.mk hy
     clear hy
     simp only[Option.some.injEq,Prod.mk.injEq]at H
     obtain⟨rfl,rfl⟩:=H
     go_wp2_with (first|((with_reducible refine gtD (N:=35) rfl ?_);refine Kd.S_lit (Kd.slice 3 (Kd.int .i64)) _ 25 ?hg (N:=35) ?hd (xs:=([]:List (List Int))) (inner:=[]) (ok:=fun _=>True) (okp:=fun _=>True) ?hr ?hp (fun _ hk=>hk) trivial (Below.refl _ _) (Nat.le_refl _) (by simp) ?_;(case hd=>rfl);(case hg=>rfl);(case hr=>first|(go_simp;done)|(go_simp;rfl));(case hp=>exact(Reps.none _ _));intro Em Ew Ap hb hg_ hnew_;clear hg_ hnew_;(first|rw[←Bj.out]at Ap|(simp only[Int.reduceToNat]at Ap;rw[←Bj.out]at Ap));replace Ad:=Az.mk (Kd.R_below (kR Ad.out) hb);have Cq:=Az.mk (Kd.S_lower (Kd.S_new' (Kd.S_new' Ap (Kd.S_lt (kS Ac.out))) (Kd.R_lt (kR Af.out))) (bwZ bw_8));replace Ac:=Az.mk (Kd.S_elder' (kS Ac.out) (Kd.S_base Ap) hb);replace Af:=Az.mk (Kd.R_below (kR Af.out) hb);replace HB:=Az.mk (bwT bw_8 hb);clear hb Ap))
     go_ret2
     exact⟨_,rq1,by(with_reducible repeat(first|apply Kd.S_alloc|apply Kd.S_drewN|apply Kd.S_drew));exact Kd.S_mono Cq.out (fun _ hk=>trivial),bw_8⟩
    rw[ip Br]at H
    have Cp:decide (65≤(bt (rdOf ByteArray.empty Aa Ab) Ae))=true:=ode Br
    clear Br
    by_cases Bs:(bt (rdOf ByteArray.empty Aa Ab) Ae)≤73
    rotate_left
    ·rw[ig Bs]at H
     have Cs:=decide_eq_false Bs
     clear Bs
     obtain⟨Dw,hy⟩:∃y_:List (List Int),y_=(([]:List (List Int))):=⟨_,rfl⟩
     replace H:(some (Dw,false))=some (r1,r2):=rh
     have Bk:=Az.mk hy
     clear hy
     simp only[Option.some.injEq,Prod.mk.injEq]at H
     obtain⟨rfl,rfl⟩:=H
     go_wp2_with (first|((with_reducible refine gtD (N:=35) rfl ?_);refine Kd.S_lit (Kd.slice 3 (Kd.int .i64)) _ 25 ?hg (N:=35) ?hd (xs:=([]:List (List Int))) (inner:=[]) (ok:=fun _=>True) (okp:=fun _=>True) ?hr ?hp (fun _ hk=>hk) trivial (Below.refl _ _) (Nat.le_refl _) (by simp) ?_;(case hd=>rfl);(case hg=>rfl);(case hr=>first|(go_simp;done)|(go_simp;rfl));(case hp=>exact(Reps.none _ _));intro Eo Ex Aq hb hg_ hnew_;clear hg_ hnew_;(first|rw[←Bk.out]at Aq|(simp only[Int.reduceToNat]at Aq;rw[←Bk.out]at Aq));replace Ad:=Az.mk (Kd.R_below (kR Ad.out) hb);have Ct:=Az.mk (Kd.S_lower (Kd.S_new' (Kd.S_new' Aq (Kd.S_lt (kS Ac.out))) (Kd.R_lt (kR Af.out))) (bwZ bw_8));replace Ac:=Az.mk (Kd.S_elder' (kS Ac.out) (Kd.S_base Aq) hb);replace Af:=Az.mk (Kd.R_below (kR Af.out) hb);replace HB:=Az.mk (bwT bw_8 hb);clear hb Aq))
     go_ret2
     exact⟨_,rq1,by(with_reducible repeat(first|apply Kd.S_alloc|apply Kd.S_drewN|apply Kd.S_drew));exact Kd.S_mono Ct.out (fun _ hk=>trivial),bw_8⟩
    rw[ip Bs]at H
    have Cs:=ode Bs
    clear Bs
    by_cases Dg:Ah.length<17592186044416
    rotate_left
    ·rw[ig Dg]at H
     exact absurd H (by simp)
    rw[ip Dg]at H
    have LMc22:=Az.mk Dg
    clear Dg
    obtain⟨Cu,hy⟩:∃y_:List Int,y_=(Ah ++ [wrap64 (-(wrap64 ((wrap64 ((wrap64 ((bt (rdOf ByteArray.empty Aa Ab) Ae))) - 65))+1)))]):=⟨_,rfl⟩
    replace H:(fP.l1 Bc Ag Aa Ab Cu (wrap64 (Ae+1)))=some (r1,r2):=rh
    have Cv:=Az.mk hy
    clear hy
    have H':=Az.mk H
    clear H
    go_wp2_with (first|((with_reducible refine gate_builtin (b:= .append) (xs:= #[.tmp 57, .tmp 63]) rfl ?_);at_builtin;refine Kd.R_append (Kd.int .i64) (w0:=w) w.heap.size rfl (.tmp 57) (.tmp 63) 25 3 (.int .i64 0) 8 rfl Try.underlying25 info3 rfl (by decide) (by omega) u7 Ah (wrap64 (-(wrap64 ((wrap64 ((wrap64 ((bt (rdOf ByteArray.empty Aa Ab) Ae))) - 65))+1)))) [.int .i64 (wrap64 (-(wrap64 ((wrap64 ((wrap64 ((bt (rdOf ByteArray.empty Aa Ab) Ae))) - 65))+1))))] (fun _=>True) (fun _=>False) rfl rfl ?aP (fun _ hk=>hk.elim) ?aF ?aO ?aB ?aS ?aL ?_;(case aP=>exact rfl);(case aB=>exact bw_8);(case aF=>exact(fun _ _=>trivial));(case aO=>exact(kR Af.out));(case aS=>exact(bwZ bw_8));(case aL=>have:=LMc22.out;omega);intro Ep Ey ho hb hg hat;rw[←Cv.out]at ho;have n0_:=Az.mk (Kd.S_after (ok:=(fun _=>True)) (by(with_reducible repeat(first|apply Kd.S_alloc|apply Kd.S_drewN|apply Kd.S_drew));exact Kd.S_mono Ac.out (fun _ hk=>⟨trivial,hk⟩)) hg hat);have n1_:=Az.mk (Kd.R_over' (kR Ad.out) (Kd.R_typed (kR Af.out)) (by decide) hg);have n2_:=Az.mk (hb);have n3_:=Az.mk (ho);clear Ac;clear Ad;clear HB;clear Af;have Ac:=n0_;have Ad:=n1_;have HB:=n2_;have Cw:=n3_;clear n0_ n1_ n2_ n3_;clear ho hb hg hat))
    go_roundg Bc
    case measure=>have:=HK1.out;have:=HK2.out;have:=Bb.out;omega
    case rel=>exact⟨(Cu),(wrap64 (Ae+1)),rq2,H',⟨by have:=HK1.out;have:=HK2.out;have:=Bb.out;omega⟩,⟨by(with_reducible repeat(first|apply Kd.S_alloc|apply Kd.S_drewN|apply Kd.S_drew));exact Kd.S_mono Ac.out (fun _ hk=>hk.2)⟩,⟨kR Ad.out⟩,⟨kR Cw.out⟩,⟨bw_8⟩⟩
theorem ln_9 {P:Prop} (h:P:=by(try simp only[List.map_toArray,List.map_cons,List.map_nil]);first|done|rfl|(simp only[List.length_drop,List.length_take];rfl)):P:=h
/-- A state of type 96 at block g of W; what its slices lead to came in by w0. -/
def IsS96 (w0 W:World) (g:Nat) (f0:List Int) (f1:Int) (f2:Int):Prop:=∃A0 c0,W.heap[g]?= some (.cells #[.slice A0 f0.length c0, .int .i64 f1, .int .i64 f2] 96 (0,0))∧w0.heap.size≤g∧Kd.C (Kd.int .u8) w0 A0 f0.length f0
theorem IsS96.grown {w0 W:World}{g:Nat}{f0:List Int}{f1:Int}{f2:Int}{W1:World}{row:Option Nat} (h:IsS96 w0 W g f0 f1 f2) (hw:W.grownBy W1 row) (hne:some g≠row):IsS96 w0 W1 g f0 f1 f2:=by
 obtain⟨A0,c0,hb,hg,Aa⟩:=h
 exact⟨A0,c0,blk_grown hb hw hne,hg,Aa⟩
theorem IsS96.below {w0 W:World}{g:Nat}{f0:List Int}{f1:Int}{f2:Int}{W1:World} (h:IsS96 w0 W g f0 f1 f2) (hw:Below W.heap.size W W1):IsS96 w0 W1 g f0 f1 f2:=h.grown (grown_of_below hw none) (by simp)
theorem IsS96.alloc {w0 W:World}{g:Nat}{f0:List Int}{f1:Int}{f2:Int} (h:IsS96 w0 W g f0 f1 f2) (o:Obj):IsS96 w0 (W.alloc o) g f0 f1 f2:=h.below (bwA (Below.refl _ _) o)
theorem IsS96.drewN {w0 W:World}{g:Nat}{f0:List Int}{f1:Int}{f2:Int} (h:IsS96 w0 W g f0 f1 f2) (m:Nat):IsS96 w0 (W.drewN m) g f0 f1 f2:=h
theorem IsS96.drew {w0 W:World}{g:Nat}{f0:List Int}{f1:Int}{f2:Int} (h:IsS96 w0 W g f0 f1 f2):IsS96 w0 W.drew g f0 f1 f2:=h
theorem IsS96.apart {w0 W:World}{g:Nat}{f0:List Int}{f1:Int}{f2:Int}{α:Type}{d:Kd α}{e:Nat}{base:Nat}{ok:Nat→Prop}{v:Value}{xs:List α} (h:IsS96 w0 W g f0 f1 f2) (ho:d.R e W base ok v xs) (ht:∀q,q∈e :: d.E→q≠96):d.R e W base (fun k=>ok k∧k≠g) v xs:=by
 obtain⟨A0,c0,hb,hg,Aa⟩:=h
 exact Kd.R_types ho hb ht
theorem IsS96.own_ne {w0 W:World}{g:Nat}{f0:List Int}{f1:Int}{f2:Int}{α:Type}{d:Kd α}{e:Nat}{base:Nat}{ok:Nat→Prop}{v:Value}{xs:List α} (h:IsS96 w0 W g f0 f1 f2) (ho:d.R e W base ok v xs) (ht:e≠96):some g≠v.ownBlock:=by
 obtain⟨A0,c0,hb,hg,Aa⟩:=h
 exact Kd.R_ne ho hb ht
theorem IsS96.apartQ {w0 W:World}{g:Nat}{f0:List Int}{f1:Int}{f2:Int}{α:Type}{d:Kd α}{e:Nat}{base:Nat}{ok:Nat→Prop}{v:Value}{xs:List α} (h:IsS96 w0 W g f0 f1 f2) (ho:d.Q e W base ok v xs) (ht:∀q,q∈e :: d.E→q≠96):d.Q e W base (fun k=>ok k∧k≠g) v xs:=by
 obtain⟨A0,c0,hb,hg,Aa⟩:=h
 exact Kd.Q_types ho hb ht
theorem IsS96.own_neQ {w0 W:World}{g:Nat}{f0:List Int}{f1:Int}{f2:Int}{α:Type}{d:Kd α}{e:Nat}{base:Nat}{ok:Nat→Prop}{v:Value}{xs:List α} (h:IsS96 w0 W g f0 f1 f2) (ho:d.Q e W base ok v xs) (ht:e≠96):some g≠v.ownBlock:=by
 obtain⟨A0,c0,hb,hg,Aa⟩:=h
 exact Kd.Q_ne ho hb ht
theorem IsS96.apartS {w0 W:World}{g:Nat}{f0:List Int}{f1:Int}{f2:Int}{α:Type}{d:Kd α}{e:Nat}{base:Nat}{ok:Nat→Prop}{v:Value}{xs:List α} (h:IsS96 w0 W g f0 f1 f2) (ho:d.S e W base ok v xs) (ht:∀q,q∈e :: d.E→q≠96):d.S e W base (fun k=>ok k∧k≠g) v xs:=by
 obtain⟨A0,c0,hb,hg,Aa⟩:=h
 exact Kd.S_types ho hb ht
theorem IsS96.own_neS {w0 W:World}{g:Nat}{f0:List Int}{f1:Int}{f2:Int}{α:Type}{d:Kd α}{e:Nat}{base:Nat}{ok:Nat→Prop}{v:Value}{xs:List α} (h:IsS96 w0 W g f0 f1 f2) (ho:d.S e W base ok v xs) (ht:e≠96):some g≠v.ownBlock:=by
 obtain⟨A0,c0,hb,hg,Aa⟩:=h
 exact Kd.S_ne ho hb ht
theorem IsS96.ge {w0 W:World}{g:Nat}{f0:List Int}{f1:Int}{f2:Int} (h:IsS96 w0 W g f0 f1 f2):w0.heap.size≤g:=by
 obtain⟨A0,c0,hb,hg,Aa⟩:=h
 exact hg
theorem IsS96.far {w0 W:World}{g:Nat}{f0:List Int}{f1:Int}{f2:Int}{p:Addr} (h:IsS96 w0 W g f0 f1 f2) (hne:g≠p.block) (u:Value):IsS96 w0 (W.setCell p u) g f0 f1 f2:=by
 obtain⟨A0,c0,hb,hg,Aa⟩:=h
 exact⟨A0,c0,bkf hb hne u,hg,Aa⟩
theorem cellS96_0 {W:World}{g:Nat}{A0:Option Addr}{c0:Nat}{f0:List Int}{f1:Int}{f2:Int} (h:W.heap[g]?= some (.cells #[.slice A0 f0.length c0, .int .i64 f1, .int .i64 f2] 96 (0,0))):W.cell? ⟨g,0,none⟩=some (.slice A0 f0.length c0):=(bkC h 0).trans rfl
theorem cellS96_1 {W:World}{g:Nat}{A0:Option Addr}{c0:Nat}{f0:List Int}{f1:Int}{f2:Int} (h:W.heap[g]?= some (.cells #[.slice A0 f0.length c0, .int .i64 f1, .int .i64 f2] 96 (0,0))):W.cell? ⟨g,1,none⟩=some (.int .i64 f1):=(bkC h 1).trans rfl
theorem IsS96.set_1 {w0 W:World}{g:Nat}{f0:List Int}{f1:Int}{f2:Int} (h:IsS96 w0 W g f0 f1 f2) (x:Int):IsS96 w0 (W.setCell ⟨g,1,none⟩ (.int .i64 x)) g f0 x f2:=by
 obtain⟨A0,c0,hb,hg,Aa⟩:=h
 exact⟨A0,c0,by simpa using blk_set hb 1 (.int .i64 x),hg,Aa⟩
theorem cellS96_2 {W:World}{g:Nat}{A0:Option Addr}{c0:Nat}{f0:List Int}{f1:Int}{f2:Int} (h:W.heap[g]?= some (.cells #[.slice A0 f0.length c0, .int .i64 f1, .int .i64 f2] 96 (0,0))):W.cell? ⟨g,2,none⟩=some (.int .i64 f2):=(bkC h 2).trans rfl
theorem IsS96.set_2 {w0 W:World}{g:Nat}{f0:List Int}{f1:Int}{f2:Int} (h:IsS96 w0 W g f0 f1 f2) (x:Int):IsS96 w0 (W.setCell ⟨g,2,none⟩ (.int .i64 x)) g f0 f1 x:=by
 obtain⟨A0,c0,hb,hg,Aa⟩:=h
 exact⟨A0,c0,by simpa using blk_set hb 2 (.int .i64 x),hg,Aa⟩
theorem kI {q p:Prop} (h:q) (hs:q→p:=by intro h_;repeat(first|(with_reducible first|exact h_|apply IsS96.alloc|apply IsS96.drewN|apply IsS96.drew|apply IsS96.set_1|apply IsS96.set_2)|exact h_)):p:=hs h
def gV.f (s0_0:List Int) (s0_1:Int) (s0_2:Int):Option (Int × Int × Int):=if s0_1<(s0_0.length:Int) then(if 0≤s0_1 then(some (Go.bits .and .i64 (wrap64 ((Go.bits .and .i64 (Go.bits .xor .i64 ((wrap64 ((wrap64 (s0_2*6364136223846793005))+1442695040888963407)) / 8589934592) ((wrap64 ((wrap64 (s0_2*6364136223846793005))+1442695040888963407)) / 35184372088832)) 255)+(wrap64 (rd s0_0 s0_1)))) 255,wrap64 (s0_1+1),wrap64 ((wrap64 (s0_2*6364136223846793005))+1442695040888963407))) else(none)) else(some (Go.bits .and .i64 (Go.bits .xor .i64 ((wrap64 ((wrap64 (s0_2*6364136223846793005))+1442695040888963407)) / 8589934592) ((wrap64 ((wrap64 (s0_2*6364136223846793005))+1442695040888963407)) / 35184372088832)) 255,s0_1,wrap64 ((wrap64 (s0_2*6364136223846793005))+1442695040888963407)))
theorem gV.calls (g:Nat) (Ad:List Int) (Ab:Int) (Ac:Int) (r1:Int) (r2:Int) (r3:Int) (w0 w:World) (hI:IsS96 w0 w g Ad Ab Ac) (hB:Below w0.heap.size w0 w) (h:gV.f Ad Ab Ac=some (r1,r2,r3)):
  Calls Try.prog 86 #[.pointer (some ⟨g,0,none⟩)] w fun e w'=>e= .returned (.int .i64 r1)∧IsS96 w0 w' g Ad r2 r3∧Below w0.heap.size w0 w'∧KeepBut w w' g none:=by
 have HI0:=Az.mk hI
 have HK:=Az.mk (KeepBut.refl w g none)
 have HL:=Az.mk hB.size
 clear hI
 have HW0:=Az.mk hB.size
 have HB:=Az.mk hB
 clear hB
 have H:(if Ab<(Ad.length:Int) then(if 0≤Ab then(some (Go.bits .and .i64 (wrap64 ((Go.bits .and .i64 (Go.bits .xor .i64 ((wrap64 ((wrap64 (Ac*6364136223846793005))+1442695040888963407)) / 8589934592) ((wrap64 ((wrap64 (Ac*6364136223846793005))+1442695040888963407)) / 35184372088832)) 255)+(wrap64 (rd Ad Ab)))) 255,wrap64 (Ab+1),wrap64 ((wrap64 (Ac*6364136223846793005))+1442695040888963407))) else(none)) else(some (Go.bits .and .i64 (Go.bits .xor .i64 ((wrap64 ((wrap64 (Ac*6364136223846793005))+1442695040888963407)) / 8589934592) ((wrap64 ((wrap64 (Ac*6364136223846793005))+1442695040888963407)) / 35184372088832)) 255,Ab,wrap64 ((wrap64 (Ac*6364136223846793005))+1442695040888963407))))=some (r1,r2,r3):=h
 clear h
 by_cases c2:Ab<(Ad.length:Int)
 rotate_left
 ·rw[ig c2]at H
  have Ah:=decide_eq_false c2
  clear c2
  simp only[Option.some.injEq,Prod.mk.injEq]at H
  obtain⟨rfl,rfl,rfl⟩:=H
  obtain⟨ASz5_0,cSz5_0,HGz5,hgz5,HSz5_0⟩:=HI0.out
  have Ai:=cellS96_0 HGz5
  have Aj:=cellS96_1 HGz5
  have Ak:=cellS96_2 HGz5
  have Al:=bkF HGz5 1
  have Am:=bkF HGz5 2
  clear HGz5 hgz5
  go_enter Try.func86,Try.ntmps86
  go_wp2
  repeat(go_quiet (fail);try go_wp2)
  go_ret
  exact⟨rq1,kI HI0.out,kG HB.out (IsS96.ge HI0.out),kK HK.out⟩
 rw[ip c2]at H
 have Ah:=ode c2
 clear c2
 by_cases c3:0≤Ab
 rotate_left
 ·rw[ig c3]at H
  exact absurd H (by simp)
 rw[ip c3]at H
 have Aw:=ode c3
 clear c3
 simp only[Option.some.injEq,Prod.mk.injEq]at H
 obtain⟨rfl,rfl,rfl⟩:=H
 obtain⟨ASz4_0,cSz4_0,HGz4,hgz4,HSz4_0⟩:=HI0.out
 have Ao:=cellS96_0 HGz4
 have Ap:=cellS96_1 HGz4
 have Aq:=cellS96_2 HGz4
 have As:=bkF HGz4 1
 have Au:=bkF HGz4 2
 clear HGz4 hgz4
 have Ae:0≤(Ab:Int):=od
 have Af:Ab<(Ad.length:Int):=od
 obtain⟨Ag,Av,Aa⟩:=Kd.at_int HSz4_0 Ab Ae Af
 cases Av
 have hn193_0:Ag.block≠g:=Nat.ne_of_lt (Nat.lt_of_lt_of_le (by have:=World.block_lt_of_cell? _ _ Aa;first|rwa [add_block]at this|exact this) (IsS96.ge HI0.out))
 replace Aa:=pw_cell_below HB.out Aa
 replace Aa:=(cell_far (p:=⟨g,2,none⟩) (by first|(rw[add_block];exact hn193_0)|(show(Addr.add _ _).block≠_;rw[add_block];exact hn193_0)|exact hn193_0) (.int .i64 (wrap64 ((wrap64 (Ac*6364136223846793005))+1442695040888963407)))).trans Aa
 (try have hy193_0:=fun (n_:Nat)=>(show(((w.drewN n_).setCell ⟨g,2,none⟩ (.int .i64 (wrap64 ((wrap64 (Ac*6364136223846793005))+1442695040888963407))))).cell? _=some _ from Aa))
 clear hn193_0
 replace Ae:=ets Ae
 replace Af:=ets Af
 go_enter Try.func86,Try.ntmps86
 go_wp2
 repeat(go_quiet (fail);try go_wp2)
 go_ret
 exact⟨rq1,kI HI0.out,kG HB.out (IsS96.ge HI0.out),kK HK.out⟩
def fK.f (s0_0:List Int) (s0_1:Int) (s0_2:Int) (a1:Int):Option (Int × Int × Int):=if a1≤0 then(some (0,s0_1,s0_2)) else(if a1≤256 then((gV.f s0_0 s0_1 s0_2).bind fun bt194=>(if a1=0 then(none) else(some (Int.tmod bt194.1 a1,bt194.2.1,bt194.2.2)))) else((gV.f s0_0 s0_1 s0_2).bind fun bt197=>((gV.f s0_0 bt197.2.1 bt197.2.2).bind fun bt200=>((gV.f s0_0 bt200.2.1 bt200.2.2).bind fun bt203=>((gV.f s0_0 bt203.2.1 bt203.2.2).bind fun bt206=>(if a1=0 then(none) else(some (Int.tmod (wrap64 ((wrap64 ((wrap64 ((wrap64 (bt197.1*16777216))+(wrap64 (bt200.1*65536))))+(wrap64 (bt203.1*256))))+bt206.1)) a1,bt206.2.1,bt206.2.2))))))))
theorem fK.calls (g:Nat) (Ac:List Int) (Ad:Int) (Ae:Int) (a1:Int) (r1:Int) (r2:Int) (r3:Int) (w0 w:World) (hI:IsS96 w0 w g Ac Ad Ae) (hB:Below w0.heap.size w0 w) (h:fK.f Ac Ad Ae a1=some (r1,r2,r3)):
  Calls Try.prog 75 #[.pointer (some ⟨g,0,none⟩), .int .i64 a1] w fun e w'=>e= .returned (.int .i64 r1)∧IsS96 w0 w' g Ac r2 r3∧Below w0.heap.size w0 w'∧KeepBut w w' g none:=by
 have HI0:=Az.mk hI
 have HK:=Az.mk (KeepBut.refl w g none)
 have HL:=Az.mk hB.size
 clear hI
 have HW0:=Az.mk hB.size
 have HB:=Az.mk hB
 clear hB
 have H:(if a1≤0 then(some (0,Ad,Ae)) else(if a1≤256 then((gV.f Ac Ad Ae).bind fun Af=>(if a1=0 then(none) else(some (Int.tmod Af.1 a1,Af.2.1,Af.2.2)))) else((gV.f Ac Ad Ae).bind fun Ag=>((gV.f Ac Ag.2.1 Ag.2.2).bind fun Ah=>((gV.f Ac Ah.2.1 Ah.2.2).bind fun Ai=>((gV.f Ac Ai.2.1 Ai.2.2).bind fun Aj=>(if a1=0 then(none) else(some (Int.tmod (wrap64 ((wrap64 ((wrap64 ((wrap64 (Ag.1*16777216))+(wrap64 (Ah.1*65536))))+(wrap64 (Ai.1*256))))+Aj.1)) a1,Aj.2.1,Aj.2.2)))))))))=some (r1,r2,r3):=h
 clear h
 by_cases c3:a1≤0
 ·rw[ip c3]at H
  have Au:=ode c3
  clear c3
  simp only[Option.some.injEq,Prod.mk.injEq]at H
  obtain⟨rfl,rfl,rfl⟩:=H
  go_enter Try.func75,Try.ntmps75
  go_wp2
  go_ret
  exact⟨rq1,kI HI0.out,kG HB.out (IsS96.ge HI0.out),kK HK.out⟩
 rw[ig c3]at H
 have Au:=decide_eq_false c3
 clear c3
 by_cases c4:a1≤256
 ·rw[ip c4]at H
  have Av:=ode c4
  clear c4
  replace H:=bez H
  obtain⟨⟨Aw,Ax,Ay⟩,A5,H⟩:=H
  try dsimp only at H
  by_cases c6:a1=0
  ·rw[ip c6]at H
   exact absurd H (by simp)
  rw[ig c6]at H
  have Bk:=beq_eq_false_iff_ne.mpr c6
  have Bl:=bne_iff_ne.mpr c6
  simp only[Option.some.injEq,Prod.mk.injEq]at H
  obtain⟨rfl,rfl,rfl⟩:=H
  go_enter Try.func75,Try.ntmps75
  go_wp2_with (first|((with_reducible refine gtC (f:=86) rfl ?_);refine clz Try.func86 (some 14) #[.pointer (some ⟨g,0,none⟩)] ?_;(with_reducible refine(gV.calls g Ac Ad Ae Aw Ax Ay w0 _ ?Aa ?Ab A5.out).mono ?_);(case Aa=>exact(kI HI0.out));(case Ab=>exact kG HB.out (IsS96.ge HI0.out));rintro e w7 ⟨rfl,hi,hb,hk⟩;refine⟨_,rfl,?_⟩;replace HK:=Az.mk (KeepBut.trans (kK HK.out) hk (.inl rfl));replace HB:=Az.mk (hb);replace HI0:=Az.mk (hi);(try clear hb);(try clear hk);(try clear hi)))
  go_ret
  exact⟨rq1,kI HI0.out,kG HB.out (IsS96.ge HI0.out),kK HK.out⟩
 rw[ig c4]at H
 have Av:=decide_eq_false c4
 clear c4
 replace H:=bez H
 obtain⟨⟨Ba,Ak,Al⟩,A8,H⟩:=H
 try dsimp only at H
 replace H:=bez H
 obtain⟨⟨Bb,Am,Ao⟩,A9,H⟩:=H
 try dsimp only at H
 replace H:=bez H
 obtain⟨⟨Bc,Ap,Aq⟩,Bm,H⟩:=H
 try dsimp only at H
 replace H:=bez H
 obtain⟨⟨Bd,Bf,Bh⟩,Bn,H⟩:=H
 try dsimp only at H
 by_cases As:a1=0
 ·rw[ip As]at H
  exact absurd H (by simp)
 rw[ig As]at H
 have Bi:=beq_eq_false_iff_ne.mpr As
 have Bj:=bne_iff_ne.mpr As
 simp only[Option.some.injEq,Prod.mk.injEq]at H
 obtain⟨rfl,rfl,rfl⟩:=H
 go_enter Try.func75,Try.ntmps75
 go_wp2_with (first|((with_reducible refine gtC (f:=86) rfl ?_);refine clz Try.func86 (some 18) #[.pointer (some ⟨g,0,none⟩)] ?_;(with_reducible refine(gV.calls g Ac Ad Ae Ba Ak Al w0 _ ?Aa ?Ab A8.out).mono ?_);(case Aa=>exact(kI HI0.out));(case Ab=>exact kG HB.out (IsS96.ge HI0.out));rintro e Bo ⟨rfl,hi,hb,hk⟩;refine⟨_,rfl,?_⟩;replace HK:=Az.mk (KeepBut.trans (kK HK.out) hk (.inl rfl));replace HB:=Az.mk (hb);replace HI0:=Az.mk (hi);(try clear hb);(try clear hk);(try clear hi))|((with_reducible refine gtC (f:=86) rfl ?_);refine clz Try.func86 (some 20) #[.pointer (some ⟨g,0,none⟩)] ?_;(with_reducible refine(gV.calls g Ac Ak Al Bb Am Ao w0 _ ?Aa ?Ab A9.out).mono ?_);(case Aa=>exact(kI HI0.out));(case Ab=>exact kG HB.out (IsS96.ge HI0.out));rintro e Bp ⟨rfl,hi,hb,hk⟩;refine⟨_,rfl,?_⟩;replace HK:=Az.mk (KeepBut.trans (kK HK.out) hk (.inl rfl));replace HB:=Az.mk (hb);replace HI0:=Az.mk (hi);(try clear hb);(try clear hk);(try clear hi))|((with_reducible refine gtC (f:=86) rfl ?_);refine clz Try.func86 (some 22) #[.pointer (some ⟨g,0,none⟩)] ?_;(with_reducible refine(gV.calls g Ac Am Ao Bc Ap Aq w0 _ ?Aa ?Ab Bm.out).mono ?_);(case Aa=>exact(kI HI0.out));(case Ab=>exact kG HB.out (IsS96.ge HI0.out));rintro e Bq ⟨rfl,hi,hb,hk⟩;refine⟨_,rfl,?_⟩;replace HK:=Az.mk (KeepBut.trans (kK HK.out) hk (.inl rfl));replace HB:=Az.mk (hb);replace HI0:=Az.mk (hi);(try clear hb);(try clear hk);(try clear hi))|((with_reducible refine gtC (f:=86) rfl ?_);refine clz Try.func86 (some 24) #[.pointer (some ⟨g,0,none⟩)] ?_;(with_reducible refine(gV.calls g Ac Ap Aq Bd Bf Bh w0 _ ?Aa ?Ab Bn.out).mono ?_);(case Aa=>exact(kI HI0.out));(case Ab=>exact kG HB.out (IsS96.ge HI0.out));rintro e Br ⟨rfl,hi,hb,hk⟩;refine⟨_,rfl,?_⟩;replace HK:=Az.mk (KeepBut.trans (kK HK.out) hk (.inl rfl));replace HB:=Az.mk (hb);replace HI0:=Az.mk (hi);(try clear hb);(try clear hk);(try clear hi)))
 go_ret
 exact⟨rq1,kI HI0.out,kG HB.out (IsS96.ge HI0.out),kK HK.out⟩
def jI.f (s0_0:List Int) (s0_1:Int) (s0_2:Int) (l1:List ByteArray):Option (ByteArray × Int × Int):=(fK.f s0_0 s0_1 s0_2 (l1.length:Int)).bind fun bt209=>(if 0≤bt209.1 then(if bt209.1<(l1.length:Int) then(some (rdOf ByteArray.empty l1 bt209.1,bt209.2.1,bt209.2.2)) else(none)) else(none))
theorem jI.calls (g:Nat) (Ad:List Int) (Ae:Int) (Af:Int) (A1:Option Addr) (c1:Nat) (l1:List ByteArray) (r1:ByteArray) (r2:Int) (r3:Int) (w0 w:World) (hI:IsS96 w0 w g Ad Ae Af) (hB:Below w0.heap.size w0 w) (Aq:Kd.C Kd.string w A1 l1.length l1) (As:l1.length≤c1) (Al:∀ad,A1=some ad→0<l1.length→ad.block≠g) (h:jI.f Ad Ae Af l1=some (r1,r2,r3)):
  Calls Try.prog 78 #[.pointer (some ⟨g,0,none⟩), .slice A1 l1.length c1] w fun e w'=>e= .returned (.string r1)∧IsS96 w0 w' g Ad r2 r3∧Below w0.heap.size w0 w'∧KeepBut w w' g none:=by
 have HR1:=Az.mk Aq
 have Aw:=Az.mk As
 clear Aq As
 have HI0:=Az.mk hI
 have HK:=Az.mk (KeepBut.refl w g none)
 have HL:=Az.mk hB.size
 clear hI
 have HW0:=Az.mk hB.size
 have HB:=Az.mk hB
 clear hB
 have H:((fK.f Ad Ae Af (l1.length:Int)).bind fun Aa=>(if 0≤Aa.1 then(if Aa.1<(l1.length:Int) then(some (rdOf ByteArray.empty l1 Aa.1,Aa.2.1,Aa.2.2)) else(none)) else(none)))=some (r1,r2,r3):=h
 clear h
 replace H:=bez H
 obtain⟨⟨Ac,Am,Ao⟩,A3,H⟩:=H
 try dsimp only at H
 by_cases c4:0≤Ac
 rotate_left
 ·rw[ig c4]at H
  exact absurd H (by simp)
 rw[ip c4]at H
 have Au:=ode c4
 clear c4
 by_cases c5:Ac<(l1.length:Int)
 rotate_left
 ·rw[ig c5]at H
  exact absurd H (by simp)
 rw[ip c5]at H
 have Av:=ode c5
 clear c5
 simp only[Option.some.injEq,Prod.mk.injEq]at H
 obtain⟨rfl,rfl,rfl⟩:=H
 go_enter Try.func78,Try.ntmps78
 go_wp2_with (first|((with_reducible refine gtC (f:=75) rfl ?_);refine clz Try.func75 (some 9) #[.pointer (some ⟨g,0,none⟩), .int .i64 (l1.length:Int)] ?_;(with_reducible refine(fK.calls g Ad Ae Af (l1.length:Int) Ac Am Ao w0 _ ?Ai ?Aj A3.out).mono ?_);(case Ai=>exact(kI HI0.out));(case Aj=>exact kG HB.out (IsS96.ge HI0.out));rintro e w6 ⟨rfl,hi,hb,hk⟩;refine⟨_,rfl,?_⟩;replace HK:=Az.mk (KeepBut.trans (kK HK.out) hk (.inl rfl));replace HB:=Az.mk (hb);replace HI0:=Az.mk (hi);(try clear hb);(try clear hk);(try clear hi);have Ag:0≤(Ac:Int):=od;have Ah:Ac<(l1.length:Int):=od;obtain⟨Ak,Ap,Ab⟩:=Kd.at_string HR1.out Ac Ag Ah;cases Ap;replace Ab:=keep_cell HK.out Ab (by first|(rw[add_block];exact Al _ rfl (by omega))|exact Al _ rfl (by omega)|exact Al Ak rfl (by omega));replace Ag:=ets Ag;replace Ah:=ets Ah))
 go_ret
 exact⟨rq1,kI HI0.out,kG HB.out (IsS96.ge HI0.out),kK HK.out⟩
def jP.f (k:Nat) (s0_0:List Int) (s0_1:Int) (s0_2:Int):Option ((List (List Int)) × Int × Int):=(jI.f s0_0 s0_1 s0_2 (([(⟨#[97,98,99,32,65,66,67]⟩:ByteArray),(⟨#[97,98,99,32,65,67,66]⟩:ByteArray),(⟨#[97,98,99,32,65,100,101,32,66,68,102,32,67,70,69]⟩:ByteArray),(⟨#[97,98,67,32,66,100,101,32,99,68,102,32,65,69,70]⟩:ByteArray),(⟨#[97,98,99,32,65,100,101,32,66,102,68,32,67,70,69]⟩:ByteArray),(⟨#[97,98,99,32,65,100,101,32,102,66,103,32,68,69,104,32,67,72,105,32,70,73,71]⟩:ByteArray)]:List ByteArray))).bind fun bt216=>((fP.f k bt216.1).bind fun bt219=>(if(bt219.1.length:Int)=0 then(none) else(some (bt219.1,bt216.2.1,bt216.2.2))))
theorem jP.calls (k:Nat) (g:Nat) (Ad:List Int) (Ae:Int) (Af:Int) (r1:List (List Int)) (r2:Int) (r3:Int) (w0 w:World) (hI:IsS96 w0 w g Ad Ae Af) (hB:Below w0.heap.size w0 w) (h:jP.f k Ad Ae Af=some (r1,r2,r3)):
  Calls Try.prog 43 #[.pointer (some ⟨g,0,none⟩)] w fun e w'=>∃v0_:Value,e= .returned (v0_)∧Kd.S (Kd.slice 3 (Kd.int .i64)) 25 w' w.heap.size (fun _=>True) v0_ r1∧IsS96 w0 w' g Ad r2 r3∧Below w0.heap.size w0 w'∧KeepBut w w' g none:=by
 have HI0:=Az.mk hI
 have HK:=Az.mk (KeepBut.refl w g none)
 have HL:=Az.mk hB.size
 clear hI
 have HW0:=Az.mk hB.size
 have HB:=Az.mk hB
 clear hB
 have H:((jI.f Ad Ae Af (([(⟨#[97,98,99,32,65,66,67]⟩:ByteArray),(⟨#[97,98,99,32,65,67,66]⟩:ByteArray),(⟨#[97,98,99,32,65,100,101,32,66,68,102,32,67,70,69]⟩:ByteArray),(⟨#[97,98,67,32,66,100,101,32,99,68,102,32,65,69,70]⟩:ByteArray),(⟨#[97,98,99,32,65,100,101,32,66,102,68,32,67,70,69]⟩:ByteArray),(⟨#[97,98,99,32,65,100,101,32,102,66,103,32,68,69,104,32,67,72,105,32,70,73,71]⟩:ByteArray)]:List ByteArray))).bind fun Ab=>((fP.f k Ab.1).bind fun Ac=>(if(Ac.1.length:Int)=0 then(none) else(some (Ac.1,Ab.2.1,Ab.2.2)))))=some (r1,r2,r3):=h
 clear h
 obtain⟨Aj,hy⟩:∃y_:List ByteArray,y_=(([(⟨#[97,98,99,32,65,66,67]⟩:ByteArray),(⟨#[97,98,99,32,65,67,66]⟩:ByteArray),(⟨#[97,98,99,32,65,100,101,32,66,68,102,32,67,70,69]⟩:ByteArray),(⟨#[97,98,67,32,66,100,101,32,99,68,102,32,65,69,70]⟩:ByteArray),(⟨#[97,98,99,32,65,100,101,32,66,102,68,32,67,70,69]⟩:ByteArray),(⟨#[97,98,99,32,65,100,101,32,102,66,103,32,68,69,104,32,67,72,105,32,70,73,71]⟩:ByteArray)]:List ByteArray)):=⟨_,rfl⟩
 replace H:((jI.f Ad Ae Af Aj).bind fun Ab=>((fP.f k Ab.1).bind fun Ac=>(if(Ac.1.length:Int)=0 then(none) else(some (Ac.1,Ab.2.1,Ab.2.2)))))=some (r1,r2,r3):=rh
 have Ah:=Az.mk hy
 clear hy
 replace H:=bez H
 obtain⟨⟨Ak,Au,Av⟩,A2,H⟩:=H
 try dsimp only at H
 replace H:=bez H
 obtain⟨⟨Al,Aw⟩,A3,H⟩:=H
 try dsimp only at H
 by_cases c4:(Al.length:Int)=0
 ·rw[ip c4]at H
  exact absurd H (by simp)
 rw[ig c4]at H
 have Bd:=beq_eq_false_iff_ne.mpr c4
 have Bf:=bne_iff_ne.mpr c4
 have Bh:¬(Al=[]):=fun h_=>c4 (by rw[h_];rfl)
 simp only[Option.some.injEq,Prod.mk.injEq]at H
 obtain⟨rfl,rfl,rfl⟩:=H
 go_enter Try.func43,Try.ntmps43
 go_wp2_with (first|((with_reducible refine gtD (N:=7) rfl ?_);refine Kd.R_lit Kd.string _ 9 ?hg (N:=7) ?hd (xs:=([(⟨#[97,98,99,32,65,66,67]⟩:ByteArray),(⟨#[97,98,99,32,65,67,66]⟩:ByteArray),(⟨#[97,98,99,32,65,100,101,32,66,68,102,32,67,70,69]⟩:ByteArray),(⟨#[97,98,67,32,66,100,101,32,99,68,102,32,65,69,70]⟩:ByteArray),(⟨#[97,98,99,32,65,100,101,32,66,102,68,32,67,70,69]⟩:ByteArray),(⟨#[97,98,99,32,65,100,101,32,102,66,103,32,68,69,104,32,67,72,105,32,70,73,71]⟩:ByteArray)]:List ByteArray)) (inner:=[.string (⟨#[97,98,99,32,65,66,67]⟩:ByteArray), .string (⟨#[97,98,99,32,65,67,66]⟩:ByteArray), .string (⟨#[97,98,99,32,65,100,101,32,66,68,102,32,67,70,69]⟩:ByteArray), .string (⟨#[97,98,67,32,66,100,101,32,99,68,102,32,65,69,70]⟩:ByteArray), .string (⟨#[97,98,99,32,65,100,101,32,66,102,68,32,67,70,69]⟩:ByteArray), .string (⟨#[97,98,99,32,65,100,101,32,102,66,103,32,68,69,104,32,67,72,105,32,70,73,71]⟩:ByteArray)]) (ok:=fun _=>True) (okp:=fun _=>True) ?hr ?hp (fun _ hk=>hk) trivial (Below.refl _ _) (Nat.le_refl _) (by simp) ?_;(case hd=>rfl);(case hg=>rfl);(case hr=>first|(go_simp;done)|(go_simp;rfl));(case hp=>exact(Reps.one (show Kd.M Kd.string _ _ _ (⟨#[97,98,99,32,65,66,67]⟩:ByteArray) [.string (⟨#[97,98,99,32,65,66,67]⟩:ByteArray)]from rfl) (Reps.one (show Kd.M Kd.string _ _ _ (⟨#[97,98,99,32,65,67,66]⟩:ByteArray) [.string (⟨#[97,98,99,32,65,67,66]⟩:ByteArray)]from rfl) (Reps.one (show Kd.M Kd.string _ _ _ (⟨#[97,98,99,32,65,100,101,32,66,68,102,32,67,70,69]⟩:ByteArray) [.string (⟨#[97,98,99,32,65,100,101,32,66,68,102,32,67,70,69]⟩:ByteArray)]from rfl) (Reps.one (show Kd.M Kd.string _ _ _ (⟨#[97,98,67,32,66,100,101,32,99,68,102,32,65,69,70]⟩:ByteArray) [.string (⟨#[97,98,67,32,66,100,101,32,99,68,102,32,65,69,70]⟩:ByteArray)]from rfl) (Reps.one (show Kd.M Kd.string _ _ _ (⟨#[97,98,99,32,65,100,101,32,66,102,68,32,67,70,69]⟩:ByteArray) [.string (⟨#[97,98,99,32,65,100,101,32,66,102,68,32,67,70,69]⟩:ByteArray)]from rfl) (Reps.one (show Kd.M Kd.string _ _ _ (⟨#[97,98,99,32,65,100,101,32,102,66,103,32,68,69,104,32,67,72,105,32,70,73,71]⟩:ByteArray) [.string (⟨#[97,98,99,32,65,100,101,32,102,66,103,32,68,69,104,32,67,72,105,32,70,73,71]⟩:ByteArray)]from rfl) (Reps.none _ _))))))));intro Bi Bm Ag hb hg_ hnew_;clear hg_ hnew_;(first|rw[←Ah.out]at Ag|(simp only[Int.reduceToNat]at Ag;rw[←Ah.out]at Ag));have Aa:=Az.mk (Kd.R_lower (Kd.R_newM (M:=fun k_=>(w.heap.size≤k_)) Ag (keep_size (w:=w) (g:=g) (row:=none) (kK HK.out)) (fun k_ h_=>h_)) (keep_size (w:=w) (g:=g) (row:=none) (kK HK.out)));replace HK:=Az.mk (KeepBut.trans (kK HK.out) (KeepBut.of_below hb g none) (.inl rfl));replace HB:=Az.mk (bwT (kG HB.out (IsS96.ge HI0.out)) hb);replace HI0:=Az.mk (IsS96.below (kI HI0.out) hb);clear hb Ag;obtain⟨Ax,Ay,Ba⟩:=Kd.R_slice Aa.out;subst Ba)|((with_reducible refine gtC (f:=78) rfl ?_);refine clz Try.func78 (some 8) #[.pointer (some ⟨g,0,none⟩), .slice Ax Aj.length Ay] ?_;(with_reducible refine(jI.calls g Ad Ae Af _ _ Aj Ak Au Av w0 _ ?Am ?Ao ?Ap ?Aq ?As A2.out).mono ?_);(case Am=>exact(kI HI0.out));(case Ao=>exact kG HB.out (IsS96.ge HI0.out));(case Ap=>exact kC (Kd.R_reads' Aa.out).2.2);(case Aq=>exact(Kd.R_reads' Aa.out).2.1);(case As=>exact far_slice (IsS96.own_ne HI0.out Aa.out (by decide)));rintro e Bn ⟨rfl,hi,hb,hk⟩;refine⟨_,rfl,?_⟩;replace Aa:=Az.mk (Kd.R_mono (Kd.R_keep (IsS96.apart (show IsS96 w0 _ g Ad Ae Af from kI HI0.out) (kR Aa.out) (by decide)) hk (fun _ h=>h.2)) (fun _ h=>h.1));replace HK:=Az.mk (KeepBut.trans (kK HK.out) hk (.inl rfl));replace HB:=Az.mk (hb);replace HI0:=Az.mk (hi);(try clear hb);(try clear hk);(try clear hi))|((with_reducible refine gtC (f:=9) rfl ?_);refine clz Try.func9 (some 9) #[.string Ak] ?_;(with_reducible refine(fP.calls k Ak Al Aw _ A3.out).mono ?_);rintro e Bo ⟨Bj,rfl,Bc,hb⟩;refine⟨_,rfl,?_⟩;replace Aa:=Az.mk (Kd.R_below (kR Aa.out) hb);have Ai:=Az.mk (Kd.S_lower Bc (keep_size (w:=w) (g:=g) (row:=none) (kK HK.out)));replace HK:=Az.mk (KeepBut.trans (kK HK.out) (KeepBut.of_below hb g none) (.inl rfl));replace HB:=Az.mk (bwT (kG HB.out (IsS96.ge HI0.out)) hb);replace HI0:=Az.mk (IsS96.below (kI HI0.out) hb);(try clear hb);(try clear Bc);obtain⟨Bk,Bl,Bb⟩:=Kd.S_slice Ai.out;subst Bb))
 go_ret
 exact⟨_,rq1,kS Ai.out,kI HI0.out,kG HB.out (IsS96.ge HI0.out),kK HK.out⟩
def gK.f (a0:Bool):Option (Int):=if a0=true then(some 1) else(some 0)
theorem gK.calls (a0:Bool) (r:Int) (w:World) (h:gK.f a0=some r):
  Calls Try.prog 61 #[.bool a0] w fun e w'=>e= .returned (.int .i64 r)∧Drawn0 w w':=by
 have H:(if a0=true then(some 1) else(some 0))=some r:=h
 clear h
 by_cases c2:a0=true
 ·subst c2
  rw[ip rfl]at H
  obtain rfl:=Option.some.inj H
  go_enter Try.func61,Try.ntmps61
  go_wp2
  go_ret
  exact⟨rq2,kd⟩
 replace c2:=Bool.eq_false_iff.mpr c2
 subst c2
 rw[ig ff]at H
 obtain rfl:=Option.some.inj H
 go_enter Try.func61,Try.ntmps61
 go_wp2
 go_ret
 exact⟨rq2,kd⟩
def fS.l0:Nat→List Int→Int→Option (Int)
 |0,_,_=>none
 |k+1,x0,x1=>if 0≤x1 then(if x1<(x0.length:Int) then(if(rd x0 x1)=x1 then(some x1) else(fS.l0 k x0 (rd x0 x1))) else(none)) else(none)
def fS.f (k:Nat) (l0:List Int) (a1:Int):Option (Int):=fS.l0 k l0 a1
theorem fS.calls (k:Nat) (A0:Option Addr) (c0:Nat) (l0:List Int) (a1:Int) (r:Int) (w:World) (Ap:Kd.C (Kd.int .i64) w A0 l0.length l0) (Aq:l0.length≤c0) (h:fS.f k l0 a1=some r):
  Calls Try.prog 66 #[.slice A0 l0.length c0, .int .i64 a1] w fun e w'=>e= .returned (.int .i64 r)∧Drawn0 w w':=by
 have Ak:=Az.mk Ap
 have Av:=Az.mk Aq
 clear Ap Aq
 have H:(fS.l0 k l0 a1)=some r:=h
 clear h
 have H':=Az.mk H
 clear H
 go_enter Try.func66,Try.ntmps66
 go_wp2
 go_loopg [1] k (fun kq v1 w'=>∃(Aa:Int),v1= .int .i64 Aa∧Az (fS.l0 kq l0 Aa=some r)∧Az (kq≤k)∧Drawn0 w w')
 case atStart=>exact⟨(a1),rq2,H',⟨Nat.le_refl _⟩,kd⟩
 clear H'
 obtain⟨Aa,rfl,HA,HK1,⟨m1,rfl⟩⟩:=hrel
 cases gk with
 |zero=>exact absurd HA.out (by simp[fS.l0])
 |succ k1=>
  have H:=HA.out
  clear HA
  simp only[fS.l0]at H
  by_cases c3:0≤Aa
  rotate_left
  ·rw[ig c3]at H
   exact absurd H (by simp)
  rw[ip c3]at H
  have As:=ode c3
  clear c3
  by_cases c4:Aa<(l0.length:Int)
  rotate_left
  ·rw[ig c4]at H
   exact absurd H (by simp)
  rw[ip c4]at H
  have Au:=ode c4
  clear c4
  by_cases c5:(rd l0 Aa)=Aa
  ·rw[ip c5]at H
   have Al:=beq_iff_eq.mpr c5
   have Am:=bne_eq_false_iff_eq.mpr c5
   clear c5
   obtain rfl:=Option.some.inj H
   have Ab:0≤(Aa:Int):=od
   have Ac:Aa<(l0.length:Int):=od
   obtain⟨Ae,Af,Ad⟩:=Kd.at_int Ak.out Aa Ab Ac
   cases Af
   replace Ab:=ets Ab
   replace Ac:=ets Ac
   go_wp2
   go_ret
   exact⟨rq2,kd⟩
  rw[ig c5]at H
  have Al:=beq_eq_false_iff_ne.mpr c5
  have Am:=bne_iff_ne.mpr c5
  have H':=Az.mk H
  clear H
  have Ab:0≤(Aa:Int):=od
  have Ac:Aa<(l0.length:Int):=od
  obtain⟨Ae,Af,Ad⟩:=Kd.at_int Ak.out Aa Ab Ac
  cases Af
  replace Ab:=ets Ab
  replace Ac:=ets Ac
  have Ag:0≤(Aa:Int):=od
  have Ah:Aa<(l0.length:Int):=od
  obtain⟨Ai,Ao,Aj⟩:=Kd.at_int Ak.out Aa Ag Ah
  obtain rfl:Ae=Ai:=(by injection Ao)
  replace Ag:=ets Ag
  replace Ah:=ets Ah
  go_wp2
  go_roundg k1
  case measure=>have:=HK1.out;omega
  case rel=>exact⟨(rd l0 Aa),rq2,H',⟨by have:=HK1.out;omega⟩,kd⟩
theorem bw_10 {n:Nat}{v v':World} (h:Below n v v':=by repeat(first|(with_reducible first|exact HB.out|apply bwA|apply pbN|apply bwD)|exact HB.out)):Below n v v':=h
theorem ln_10 {P:Prop} (h:P:=by(try simp only[List.map_toArray,List.map_cons,List.map_nil]);first|done|rfl|(simp only[List.length_drop,List.length_take];rfl)):P:=h
mutual
def fT.l0:Nat→List (List Int)→List Int→Int→Option (List Int)
 |0,_,_,_=>none
 |k+1,x0,x3,x4=>if x4≤(wrap64 ((wrap64 (3*(x0.length:Int)))+1)) then(if x3.length<17592186044416 then(fT.l0 k x0 (x3 ++ [x4]) (wrap64 (x4+1))) else(none)) else(fT.l1 k x0 x3 0)
def fT.l1:Nat→List (List Int)→List Int→Int→Option (List Int)
 |0,_,_,_=>none
 |k+1,x0,x3,x5=>if x5<(x0.length:Int) then(fT.l2 k x0 x3 x5 0) else(some x3)
def fT.l2:Nat→List (List Int)→List Int→Int→Int→Option (List Int)
 |0,_,_,_,_=>none
 |k+1,x0,x3,x5,x6=>if x6<3 then(if 0≤x5 then(if x5<(x0.length:Int) then(if 0≤x6 then(if x6<((rd_L1 x0 x5).length:Int) then(if 0≤(Int.tmod (wrap64 (x6+1)) 3) then(if(Int.tmod (wrap64 (x6+1)) 3)<((rd_L1 x0 x5).length:Int) then((gF.f (rd (rd_L1 x0 x5) x6)).bind fun t225=>((gK.f (decide ((rd (rd_L1 x0 x5) x6)>0))).bind fun t226=>((fS.f k x3 (wrap64 ((wrap64 (2*t225))+t226))).bind fun t227=>((gF.f (rd (rd_L1 x0 x5) (Int.tmod (wrap64 (x6+1)) 3))).bind fun t228=>((gK.f (decide ((rd (rd_L1 x0 x5) (Int.tmod (wrap64 (x6+1)) 3))<0))).bind fun t229=>((fS.f k x3 (wrap64 ((wrap64 (2*t228))+t229))).bind fun t230=>(if 0≤t227 then(if t227<(x3.length:Int) then(fT.l2 k x0 (x3.set (t227:Int).toNat t230) x5 (wrap64 (x6+1))) else(none)) else(none)))))))) else(none)) else(none)) else(none)) else(none)) else(none)) else(none)) else(fT.l1 k x0 x3 (wrap64 (x5+1)))
end
def fT.f (k:Nat) (l0:List (List Int)):Option (List Int):=fT.l0 k l0 (([]:List Int)) 0
theorem fT.calls (k:Nat) (A0:Option Addr) (c0:Nat) (l0:List (List Int)) (r:List Int) (w:World) (Dm:Kd.C (Kd.slice 3 (Kd.int .i64)) w A0 l0.length l0) (Dn:l0.length≤c0) (h:fT.f k l0=some r):
  Calls Try.prog 60 #[.slice A0 l0.length c0] w fun e w'=>∃v0_:Value,e= .returned (v0_)∧Kd.R (Kd.int .i64) 3 w' w.heap.size (fun _=>True) v0_ r∧Below w.heap.size w w':=by
 have Do:=Az.mk Dm
 have Ek:=Az.mk Dn
 clear Dm Dn
 have HB:=Az.mk (Below.refl w.heap.size w)
 have H:(fT.l0 k l0 (([]:List Int)) 0)=some r:=h
 clear h
 obtain⟨Bw,hy⟩:∃y_:List Int,y_=(([]:List Int)):=⟨_,rfl⟩
 replace H:(fT.l0 k l0 Bw 0)=some r:=rh
 have Bj:=Az.mk hy
 clear hy
 have H':=Az.mk H
 clear H
 go_enter Try.func60,Try.ntmps60
 go_wp2_with (first|((with_reducible refine gtD (N:=11) rfl ?_);refine Kd.R_lit (Kd.int .i64) _ 3 ?hg (N:=11) ?hd (xs:=([]:List Int)) (inner:=[]) (ok:=fun _=>True) (okp:=fun _=>True) ?hr ?hp (fun _ hk=>hk) trivial (Below.refl _ _) (Nat.le_refl _) (by simp) ?_;(case hd=>rfl);(case hg=>rfl);(case hr=>first|(go_simp;done)|(go_simp;rfl));(case hp=>exact(Reps.none _ _));intro Dy w2 Bx hb hg_ hnew_;clear hg_ hnew_;(first|rw[←Bj.out]at Bx|(simp only[Int.reduceToNat]at Bx;rw[←Bj.out]at Bx));have By:=Az.mk (Kd.R_lower Bx (bwZ bw_10));replace HB:=Az.mk (bwT bw_10 hb);clear hb Bx))
 go_loopg [3,4] k (fun kq v3 v4 w'=>∃(Aj:List Int) (Ag:Int),v4= .int .i64 Ag∧Az (fT.l0 kq l0 Aj Ag=some r)∧Az (kq≤k)∧Az (Kd.R (Kd.int .i64) 3 w' w.heap.size (fun _=>True) v3 Aj)∧Az (Below w.heap.size w w'))
 case atStart=>exact⟨(Bw),(0),rq2,H',⟨Nat.le_refl _⟩,⟨kR By.out⟩,⟨bw_10⟩⟩
 clear H'
 obtain⟨Aj,Ag,rfl,HA,HK1,Aa,HB⟩:=hrel
 cases gk with
 |zero=>exact absurd HA.out (by simp[fT.l0])
 |succ k1=>
  have H:=HA.out
  clear HA
  simp only[fT.l0]at H
  by_cases c4:Ag≤(wrap64 ((wrap64 (3*(l0.length:Int)))+1))
  ·rw[ip c4]at H
   have Bk:=ode c4
   clear c4
   by_cases c5:Aj.length<17592186044416
   rotate_left
   ·rw[ig c5]at H
    exact absurd H (by simp)
   rw[ip c5]at H
   have LMc5:=Az.mk c5
   clear c5
   obtain⟨Bz,hy⟩:∃y_:List Int,y_=(Aj ++ [Ag]):=⟨_,rfl⟩
   replace H:(fT.l0 k1 l0 Bz (wrap64 (Ag+1)))=some r:=rh
   have Ca:=Az.mk hy
   clear hy
   have H':=Az.mk H
   clear H
   go_wp2_with (first|((with_reducible refine gate_builtin (b:= .append) (xs:= #[.tmp 20, .tmp 22]) rfl ?_);at_builtin;refine Kd.R_append (Kd.int .i64) (w0:=w) w.heap.size rfl (.tmp 20) (.tmp 22) 25 3 (.int .i64 0) 8 rfl Try.underlying25 info3 rfl (by decide) (by omega) u3 Aj Ag [.int .i64 Ag] (fun _=>True) (fun _=>False) rfl rfl ?aP (fun _ hk=>hk.elim) ?aF ?aO ?aB ?aS ?aL ?_;(case aP=>exact rfl);(case aB=>exact bw_10);(case aF=>exact(fun _ _=>trivial));(case aO=>exact(kR Aa.out));(case aS=>exact(bwZ bw_10));(case aL=>have:=LMc5.out;omega);intro Dz w6 ho hb hg hat;rw[←Ca.out]at ho;have n0_:=Az.mk (hb);have n1_:=Az.mk (ho);clear HB;clear Aa;have HB:=n0_;have Cc:=n1_;clear n0_ n1_;clear ho hb hg hat))
   go_roundg k1
   case measure=>have:=HK1.out;omega
   case rel=>exact⟨(Bz),(wrap64 (Ag+1)),rq2,H',⟨by have:=HK1.out;omega⟩,⟨kR Cc.out⟩,⟨bw_10⟩⟩
  rw[ig c4]at H
  have Bk:=decide_eq_false c4
  clear c4
  have H':=Az.mk H
  clear H
  go_wp2
  go_loopg [5] k1 (fun kq v5 w'=>∃(Bf:List Int) (Ab:Int),v5= .int .i64 Ab∧Az (fT.l1 kq l0 Bf Ab=some r)∧Az (kq≤k1)∧Az (Kd.R (Kd.int .i64) 3 w' w.heap.size (fun _=>True) u3 Bf)∧Az (Below w.heap.size w w'))
  case atStart=>exact⟨(Aj),(0),rq2,H',⟨Nat.le_refl _⟩,⟨kR Aa.out⟩,⟨bw_10⟩⟩
  clear H'
  try clear c4
  try clear Bk
  try clear c5
  obtain⟨Bf,Ab,rfl,HA,HK2,Aa,HB⟩:=hrel
  cases gk with
  |zero=>exact absurd HA.out (by simp[fT.l1])
  |succ k2=>
   have H:=HA.out
   clear HA
   simp only[fT.l1]at H
   by_cases c7:Ab<(l0.length:Int)
   rotate_left
   ·rw[ig c7]at H
    have Cd:=decide_eq_false c7
    clear c7
    obtain rfl:=Option.some.inj H
    go_wp2
    go_ret
    exact⟨_,rq1,kR Aa.out,bw_10⟩
   rw[ip c7]at H
   have Cd:=ode c7
   clear c7
   have H':=Az.mk H
   clear H
   go_wp2
   go_loopg [6] k2 (fun kq v6 w'=>∃(Ac:List Int) (Ad:Int),v6= .int .i64 Ad∧Az (fT.l2 kq l0 Ac Ab Ad=some r)∧Az (kq≤k2)∧Az (Kd.R (Kd.int .i64) 3 w' w.heap.size (fun _=>True) u3 Ac)∧Az (Below w.heap.size w w'))
   case atStart=>exact⟨(Bf),(0),rq2,H',⟨Nat.le_refl _⟩,⟨kR Aa.out⟩,⟨bw_10⟩⟩
   clear H'
   try clear c4
   try clear Bk
   try clear c5
   try clear c7
   try clear Cd
   obtain⟨Ac,Ad,rfl,HA,HK3,Aa,HB⟩:=hrel
   cases gk with
   |zero=>exact absurd HA.out (by simp[fT.l2])
   |succ k3=>
    have H:=HA.out
    clear HA
    simp only[fT.l2]at H
    by_cases c8:Ad<3
    rotate_left
    ·rw[ig c8]at H
     have Ct:=decide_eq_false c8
     clear c8
     have H':=Az.mk H
     clear H
     go_wp2
     go_roundg k3
     case measure=>have:=HK1.out;have:=HK2.out;have:=HK3.out;omega
     case rel=>exact⟨(Ac),(wrap64 (Ab+1)),rq2,H',⟨by have:=HK1.out;have:=HK2.out;have:=HK3.out;omega⟩,⟨kR Aa.out⟩,⟨bw_10⟩⟩
    rw[ip c8]at H
    have Ct:=ode c8
    clear c8
    by_cases c9:0≤Ab
    rotate_left
    ·rw[ig c9]at H
     exact absurd H (by simp)
    rw[ip c9]at H
    have Ea:=ode c9
    clear c9
    by_cases Cj:Ab<(l0.length:Int)
    rotate_left
    ·rw[ig Cj]at H
     exact absurd H (by simp)
    rw[ip Cj]at H
    have Dp:=ode Cj
    clear Cj
    by_cases Ck:0≤Ad
    rotate_left
    ·rw[ig Ck]at H
     exact absurd H (by simp)
    rw[ip Ck]at H
    have Dq:=ode Ck
    clear Ck
    by_cases Cl:Ad<((rd_L1 l0 Ab).length:Int)
    rotate_left
    ·rw[ig Cl]at H
     exact absurd H (by simp)
    rw[ip Cl]at H
    have Dr:=ode Cl
    clear Cl
    obtain⟨Af,Al⟩:∃j_:Int,(Int.tmod (wrap64 (Ad+1)) 3)=j_:=⟨_,rfl⟩
    replace H:(if 0≤(Af) then(if(Af)<((rd_L1 l0 Ab).length:Int) then((gF.f (rd (rd_L1 l0 Ab) Ad)).bind fun Ax=>((gK.f (decide ((rd (rd_L1 l0 Ab) Ad)>0))).bind fun Ay=>((fS.f k3 Ac (wrap64 ((wrap64 (2*Ax))+Ay))).bind fun Ae=>((gF.f (rd (rd_L1 l0 Ab) (Af))).bind fun Ba=>((gK.f (decide ((rd (rd_L1 l0 Ab) (Af))<0))).bind fun Bb=>((fS.f k3 Ac (wrap64 ((wrap64 (2*Ba))+Bb))).bind fun Av=>(if 0≤Ae then(if Ae<(Ac.length:Int) then(fT.l2 k3 l0 (Ac.set (Ae:Int).toNat Av) Ab (wrap64 (Ad+1))) else(none)) else(none)))))))) else(none)) else(none))=some r:=by first|(rw[Al]at H;exact H)|(simp only[Al]at H ⊢;exact H)
    by_cases Cm:0≤(Af)
    rotate_left
    ·rw[ig Cm]at H
     exact absurd H (by simp)
    rw[ip Cm]at H
    have Ds:=ode Cm
    clear Cm
    by_cases Cn:(Af)<((rd_L1 l0 Ab).length:Int)
    rotate_left
    ·rw[ig Cn]at H
     exact absurd H (by simp)
    rw[ip Cn]at H
    have Dt:=ode Cn
    clear Cn
    replace H:=bez H
    obtain⟨Ax,Eb,H⟩:=H
    try dsimp only at H
    replace H:=bez H
    obtain⟨Ay,Ec,H⟩:=H
    try dsimp only at H
    replace H:=bez H
    obtain⟨Ae,Ed,H⟩:=H
    try dsimp only at H
    replace H:=bez H
    obtain⟨Ba,Ee,H⟩:=H
    try dsimp only at H
    replace H:=bez H
    obtain⟨Bb,Ef,H⟩:=H
    try dsimp only at H
    replace H:=bez H
    obtain⟨Av,Eg,H⟩:=H
    try dsimp only at H
    by_cases Co:0≤Ae
    rotate_left
    ·rw[ig Co]at H
     exact absurd H (by simp)
    rw[ip Co]at H
    have Du:=ode Co
    clear Co
    by_cases Cp:Ae<(Ac.length:Int)
    rotate_left
    ·rw[ig Cp]at H
     exact absurd H (by simp)
    rw[ip Cp]at H
    have Dv:=ode Cp
    clear Cp
    obtain⟨Bl,hy⟩:∃y_:List Int,y_=(Ac.set (Ae:Int).toNat Av):=⟨_,rfl⟩
    replace H:(fT.l2 k3 l0 Bl Ab (wrap64 (Ad+1)))=some r:=rh
    have Ce:=Az.mk hy
    clear hy
    have H':=Az.mk H
    clear H
    have Bm:0≤(Ab:Int):=od
    have Bn:Ab<(l0.length:Int):=od
    obtain⟨Cf,Cu,Cv,Cw,Ah,Am,Ao⟩:=at_L1 Do.out Ab Bm Bn
    cases Cw
    replace Ah:=kc HB Ah
    have Bh:=Az.mk Ao
    have Cq:=Az.mk Am
    clear Ao Am
    replace Bm:=ets Bm
    replace Bn:=ets Bn
    have Bo:0≤(Ad:Int):=od
    have Bp:Ad<((rd_L1 l0 Ab).length:Int):=od
    obtain⟨Dw,Da,Ap⟩:=Kd.at_int Bh.out Ad Bo Bp
    cases Da
    replace Ap:=kc HB Ap
    replace Bo:=ets Bo
    replace Bp:=ets Bp
    have Bq:0≤(Ab:Int):=od
    have Br:Ab<(l0.length:Int):=od
    obtain⟨Cg,Db,Dc,Dd,Ai,Aq,As⟩:=at_L1 Do.out Ab Bq Br
    obtain rfl:Cf=Cg:=(by injection Dd)
    replace Ai:=kc HB Ai
    have Bi:=Az.mk As
    have Cs:=Az.mk Aq
    clear As Aq
    replace Bq:=ets Bq
    replace Br:=ets Br
    have ea_:=Option.some.inj (Ah.symm.trans Ai)
    injection ea_ with ea_ en_ ec_
    subst ea_
    subst ec_
    clear en_
    have Bs:0≤((Af):Int):=od
    have Bt:(Af)<((rd_L1 l0 Ab).length:Int):=od
    obtain⟨Dx,De,Au⟩:=Kd.at_int Bi.out (Af) Bs Bt
    cases De
    replace Au:=kc HB Au
    replace Bs:=ets Bs
    replace Bt:=ets Bt
    go_wp2_with (first|((with_reducible refine gtC (f:=79) rfl ?_);refine clz Try.func79 (some 52) #[.int .i64 (rd (rd_L1 l0 Ab) Ad)] ?_;(with_reducible refine(gF.calls (rd (rd_L1 l0 Ab) Ad) Ax _ Eb.out).mono ?_);rintro e w' ⟨rfl,⟨nd,rfl⟩⟩;refine⟨_,rfl,?_⟩;(try(rw[drewN_self wr];generalize hq_:World.drewN wr _=wr;have n0_:Az (Kd.R (Kd.int .i64) 3 wr w.heap.size (fun _=>True) u3 Ac):=⟨by rw[←hq_];exact(kR Aa.out)⟩;have n1_:Az (Below w.heap.size w wr):=⟨by rw[←hq_];exact bw_10⟩;clear Aa HB hq_;have Aa:=n0_;have HB:=n1_;clear n0_ n1_)))|((with_reducible refine gtC (f:=61) rfl ?_);refine clz Try.func61 (some 56) #[.bool (decide ((rd (rd_L1 l0 Ab) Ad)>0))] ?_;(with_reducible refine(gK.calls (decide ((rd (rd_L1 l0 Ab) Ad)>0)) Ay _ Ec.out).mono ?_);rintro e w' ⟨rfl,⟨nd,rfl⟩⟩;refine⟨_,rfl,?_⟩;(try(rw[drewN_self wr];generalize hq_:World.drewN wr _=wr;have n0_:Az (Kd.R (Kd.int .i64) 3 wr w.heap.size (fun _=>True) u3 Ac):=⟨by rw[←hq_];exact(kR Aa.out)⟩;have n1_:Az (Below w.heap.size w wr):=⟨by rw[←hq_];exact bw_10⟩;clear Aa HB hq_;have Aa:=n0_;have HB:=n1_;clear n0_ n1_));obtain⟨Aw,Ak,Df⟩:=Kd.R_slice Aa.out;subst Df)|((with_reducible refine gtC (f:=66) rfl ?_);refine clz Try.func66 (some 58) #[.slice Aw Ac.length Ak, .int .i64 (wrap64 ((wrap64 (2*Ax))+Ay))] ?_;(with_reducible refine(fS.calls k3 _ _ Ac (wrap64 ((wrap64 (2*Ax))+Ay)) Ae _ ?Bc ?Bd Ed.out).mono ?_);(case Bc=>exact kC (Kd.R_reads' Aa.out).2.2);(case Bd=>exact(Kd.R_reads' Aa.out).2.1);rintro e w' ⟨rfl,⟨nd,rfl⟩⟩;refine⟨_,rfl,?_⟩;(try(rw[drewN_self wr];generalize hq_:World.drewN wr _=wr;have n0_:Az (Kd.R (Kd.int .i64) 3 wr w.heap.size (fun _=>True) (.slice Aw Ac.length Ak) Ac):=⟨by rw[←hq_];exact(kR Aa.out)⟩;have n1_:Az (Below w.heap.size w wr):=⟨by rw[←hq_];exact bw_10⟩;clear Aa HB hq_;have Aa:=n0_;have HB:=n1_;clear n0_ n1_)))|((with_reducible refine gtC (f:=79) rfl ?_);refine goesL_ (some 61) rfl rfl Try.func79 (by kernel_rfl) rfl #[.int .i64 (rd (rd_L1 l0 Ab) (Af))] rfl (by(try simp only[List.map_toArray,List.map_cons,List.map_nil]);first|done|(simp only[Al];rfl)|rfl|(simp only[List.length_drop,List.length_take];rfl)) ?_;(with_reducible refine(gF.calls (rd (rd_L1 l0 Ab) (Af)) Ba _ Ee.out).mono ?_);rintro e w' ⟨rfl,⟨nd,rfl⟩⟩;refine⟨_,rfl,?_⟩;(try(rw[drewN_self wr];generalize hq_:World.drewN wr _=wr;have n0_:Az (Kd.R (Kd.int .i64) 3 wr w.heap.size (fun _=>True) (.slice Aw Ac.length Ak) Ac):=⟨by rw[←hq_];exact(kR Aa.out)⟩;have n1_:Az (Below w.heap.size w wr):=⟨by rw[←hq_];exact bw_10⟩;clear Aa HB hq_;have Aa:=n0_;have HB:=n1_;clear n0_ n1_)))|((with_reducible refine gtC (f:=61) rfl ?_);refine goesL_ (some 65) rfl rfl Try.func61 (by kernel_rfl) rfl #[.bool (decide ((rd (rd_L1 l0 Ab) (Af))<0))] rfl (by(try simp only[List.map_toArray,List.map_cons,List.map_nil]);first|done|(simp only[Al];rfl)|rfl|(simp only[List.length_drop,List.length_take];rfl)) ?_;(with_reducible refine(gK.calls (decide ((rd (rd_L1 l0 Ab) (Af))<0)) Bb _ Ef.out).mono ?_);rintro e w' ⟨rfl,⟨nd,rfl⟩⟩;refine⟨_,rfl,?_⟩;(try(rw[drewN_self wr];generalize hq_:World.drewN wr _=wr;have n0_:Az (Kd.R (Kd.int .i64) 3 wr w.heap.size (fun _=>True) (.slice Aw Ac.length Ak) Ac):=⟨by rw[←hq_];exact(kR Aa.out)⟩;have n1_:Az (Below w.heap.size w wr):=⟨by rw[←hq_];exact bw_10⟩;clear Aa HB hq_;have Aa:=n0_;have HB:=n1_;clear n0_ n1_)))|((with_reducible refine gtC (f:=66) rfl ?_);refine clz Try.func66 (some 67) #[.slice Aw Ac.length Ak, .int .i64 (wrap64 ((wrap64 (2*Ba))+Bb))] ?_;(with_reducible refine(fS.calls k3 _ _ Ac (wrap64 ((wrap64 (2*Ba))+Bb)) Av _ ?Bc ?Bd Eg.out).mono ?_);(case Bc=>exact kC (Kd.R_reads' Aa.out).2.2);(case Bd=>exact(Kd.R_reads' Aa.out).2.1);rintro e w' ⟨rfl,⟨nd,rfl⟩⟩;refine⟨_,rfl,?_⟩;(try(rw[drewN_self wr];generalize hq_:World.drewN wr _=wr;have n0_:Az (Kd.R (Kd.int .i64) 3 wr w.heap.size (fun _=>True) (.slice Aw Ac.length Ak) Ac):=⟨by rw[←hq_];exact(kR Aa.out)⟩;have n1_:Az (Below w.heap.size w wr):=⟨by rw[←hq_];exact bw_10⟩;clear Aa HB hq_;have Aa:=n0_;have HB:=n1_;clear n0_ n1_));have Dg:0≤(Ae:Int):=od;have Dh:(Ae:Int)<((Ac.length:Int):Int):=od;obtain⟨Bu,Eh,Ch,Ci,gl24,Ei,HG24⟩:=Kd.R_form Aa.out (by omega);(first|cases Ch|(injection Ch with ea_ en_ ec_;(first|subst ea_|(injection ea_ with ea_;subst ea_));subst ec_;clear en_));have Di:=Az.mk Ci;have Ej:=Az.mk HG24;clear Ci gl24 HG24;obtain⟨Dj,Dk⟩:=Kd.R_celln 0 Aa.out (Ae:Int) Dg Dh;replace Dg:=ets Dg;replace Dh:=ets Dh;obtain⟨hy26_,hz26_⟩:=Kd.R_celln 0 Aa.out (Ae:Int) (od) (od);have Bv:=Kd.R_putg Aa.out (Ae:Int) Av)|((with_reducible refine gate_store (t:=3) (p:=71) rfl ?_);refine store_event (t:=3) (p:=71) (v:=?vo_w27) (w1:=(wr.setCell ⟨Bu,(Ae:Int).toNat,none⟩ (.int .i64 Av))) ?hg ?ho ?hn ?hr ?_;(case ho=>rfl);(case hg=>rfl);(case hn=>rfl);(case hr=>first|(go_simp;done)|(go_simp;rfl));intro Dl hw;have hg:wr.grownBy Dl (some Bu):=(by rw[hw];exact Bv.2);have hp_:Kd.R (Kd.int .i64) 3 Dl w.heap.size (fun _=>True) (.slice (some ⟨Bu,0,none⟩) Ac.length Ak) Bl:=(by rw[hw,Ce.out];exact Bv.1);clear Bv;replace Aa:=Az.mk (hp_);replace HB:=Az.mk ((by rw[hw];exact bwS (HB.out) Di.out:Below w.heap.size w Dl));clear hg hw hp_))
    go_roundg k3
    case measure=>have:=HK1.out;have:=HK2.out;have:=HK3.out;omega
    case rel=>exact⟨(Bl),(wrap64 (Ad+1)),rq2,H',⟨by have:=HK1.out;have:=HK2.out;have:=HK3.out;omega⟩,⟨kR Aa.out⟩,⟨bw_10⟩⟩
theorem bw_11 {n:Nat}{v v':World} (h:Below n v v':=by repeat(first|(with_reducible first|exact HB.out|apply bwA|apply pbN|apply bwD)|exact HB.out)):Below n v v':=h
theorem ln_11 {P:Prop} (h:P:=by(try simp only[List.map_toArray,List.map_cons,List.map_nil]);first|done|rfl|(simp only[List.length_drop,List.length_take];rfl)):P:=h
def gI.l0:Nat→List (List Int)→List Int→Int→List Int→Int→Option (List Int)
 |0,_,_,_,_,_=>none
 |k+1,x0,x7,x9,x10,x11=>if x11≤(wrap64 (Int.tdiv (wrap64 (3*(x0.length:Int))) 2)) then((fS.f k x7 (wrap64 (2*x11))).bind fun t243=>((gK.f (t243== x9)).bind fun t244=>((fS.f k x7 (wrap64 ((wrap64 (2*x11))+1))).bind fun t245=>((gK.f (t245== x9)).bind fun t246=>(if x10.length<17592186044416 then(gI.l0 k x0 x7 x9 (x10 ++ [wrap64 (t244+t246)]) (wrap64 (x11+1))) else(none)))))) else(some x10)
def gI.f (k:Nat) (l0:List (List Int)) (a1:Int) (a2:Int):Option (List Int):=(fT.f k l0).bind fun t232=>(if 0≤a1 then(if a1<(l0.length:Int) then(if 0≤a2 then(if a2<((rd_L1 l0 a1).length:Int) then((gF.f (rd (rd_L1 l0 a1) a2)).bind fun t237=>((gK.f (decide ((rd (rd_L1 l0 a1) a2)>0))).bind fun t238=>((fS.f k t232 (wrap64 ((wrap64 (2*t237))+t238))).bind fun t239=>(gI.l0 k l0 t232 t239 (([]:List Int)) 1)))) else(none)) else(none)) else(none)) else(none))
theorem gI.calls (k:Nat) (A0:Option Addr) (c0:Nat) (l0:List (List Int)) (a1:Int) (a2:Int) (r:List Int) (w:World) (Ca:Kd.C (Kd.slice 3 (Kd.int .i64)) w A0 l0.length l0) (Cc:l0.length≤c0) (h:gI.f k l0 a1 a2=some r):
  Calls Try.prog 50 #[.slice A0 l0.length c0, .int .i64 a1, .int .i64 a2] w fun e w'=>∃v0_:Value,e= .returned (v0_)∧Kd.R (Kd.int .i64) 3 w' w.heap.size (fun _=>True) v0_ r∧Below w.heap.size w w':=by
 have Cd:=Az.mk Ca
 have Ci:=Az.mk Cc
 clear Ca Cc
 have HB:=Az.mk (Below.refl w.heap.size w)
 have H:((fT.f k l0).bind fun Aa=>(if 0≤a1 then(if a1<(l0.length:Int) then(if 0≤a2 then(if a2<((rd_L1 l0 a1).length:Int) then((gF.f (rd (rd_L1 l0 a1) a2)).bind fun Aq=>((gK.f (decide ((rd (rd_L1 l0 a1) a2)>0))).bind fun As=>((fS.f k Aa (wrap64 ((wrap64 (2*Aq))+As))).bind fun Af=>(gI.l0 k l0 Aa Af (([]:List Int)) 1)))) else(none)) else(none)) else(none)) else(none)))=some r:=h
 clear h
 replace H:=bez H
 obtain⟨Aa,A4,H⟩:=H
 try dsimp only at H
 by_cases c5:0≤a1
 rotate_left
 ·rw[ig c5]at H
  exact absurd H (by simp)
 rw[ip c5]at H
 have Br:=ode c5
 clear c5
 by_cases c6:a1<(l0.length:Int)
 rotate_left
 ·rw[ig c6]at H
  exact absurd H (by simp)
 rw[ip c6]at H
 have Bs:=ode c6
 clear c6
 by_cases c7:0≤a2
 rotate_left
 ·rw[ig c7]at H
  exact absurd H (by simp)
 rw[ip c7]at H
 have Bt:=ode c7
 clear c7
 by_cases c8:a2<((rd_L1 l0 a1).length:Int)
 rotate_left
 ·rw[ig c8]at H
  exact absurd H (by simp)
 rw[ip c8]at H
 have Bu:=ode c8
 clear c8
 replace H:=bez H
 obtain⟨Aq,A9,H⟩:=H
 try dsimp only at H
 replace H:=bez H
 obtain⟨As,Cj,H⟩:=H
 try dsimp only at H
 replace H:=bez H
 obtain⟨Af,Ck,H⟩:=H
 try dsimp only at H
 obtain⟨Bj,hy⟩:∃y_:List Int,y_=(([]:List Int)):=⟨_,rfl⟩
 replace H:(gI.l0 k l0 Aa Af Bj 1)=some r:=rh
 have Bd:=Az.mk hy
 clear hy
 have H':=Az.mk H
 clear H
 go_enter Try.func50,Try.ntmps50
 go_wp2_with (first|((with_reducible refine gtC (f:=60) rfl ?_);refine clz Try.func60 (some 13) #[.slice A0 l0.length c0] ?_;(with_reducible refine(fT.calls k _ _ l0 Aa _ ?Ac ?Ad A4.out).mono ?_);(case Ac=>exact kC Cd.out);(case Ad=>exact Ci.out);rintro e Cu ⟨Cl,rfl,Ce,hb⟩;refine⟨_,rfl,?_⟩;have Ae:=Az.mk (Kd.R_lower Ce (bwZ bw_11));replace HB:=Az.mk (bwT bw_11 hb);(try clear hb);(try clear Ce);have Av:0≤(a1:Int):=od;have Aw:a1<(l0.length:Int):=od;obtain⟨Cf,Bv,Bw,Bx,Ah,Ak,Al⟩:=at_L1 Cd.out a1 Av Aw;cases Bx;replace Ah:=kc HB Ah;have Ax:=Az.mk Al;have Bp:=Az.mk Ak;clear Al Ak;replace Av:=ets Av;replace Aw:=ets Aw;have Ay:0≤(a2:Int):=od;have Ba:a2<((rd_L1 l0 a1).length:Int):=od;obtain⟨Cg,By,Ai⟩:=Kd.at_int Ax.out a2 Ay Ba;cases By;replace Ai:=kc HB Ai;replace Ay:=ets Ay;replace Ba:=ets Ba)|((with_reducible refine gtC (f:=79) rfl ?_);refine clz Try.func79 (some 23) #[.int .i64 (rd (rd_L1 l0 a1) a2)] ?_;(with_reducible refine(gF.calls (rd (rd_L1 l0 a1) a2) Aq _ A9.out).mono ?_);rintro e w' ⟨rfl,⟨nd,rfl⟩⟩;refine⟨_,rfl,?_⟩)|((with_reducible refine gtC (f:=61) rfl ?_);refine clz Try.func61 (some 27) #[.bool (decide ((rd (rd_L1 l0 a1) a2)>0))] ?_;(with_reducible refine(gK.calls (decide ((rd (rd_L1 l0 a1) a2)>0)) As _ Cj.out).mono ?_);rintro e w' ⟨rfl,⟨nd,rfl⟩⟩;refine⟨_,rfl,?_⟩;obtain⟨Am,Ao,Bz⟩:=Kd.R_slice Ae.out;subst Bz)|((with_reducible refine gtC (f:=66) rfl ?_);refine clz Try.func66 (some 29) #[.slice Am Aa.length Ao, .int .i64 (wrap64 ((wrap64 (2*Aq))+As))] ?_;(with_reducible refine(fS.calls k _ _ Aa (wrap64 ((wrap64 (2*Aq))+As)) Af _ ?Ac ?Ad Ck.out).mono ?_);(case Ac=>exact kC (Kd.R_reads' Ae.out).2.2);(case Ad=>exact(Kd.R_reads' Ae.out).2.1);rintro e w' ⟨rfl,⟨nd,rfl⟩⟩;refine⟨_,rfl,?_⟩)|((with_reducible refine gtD (N:=30) rfl ?_);refine Kd.R_lit (Kd.int .i64) _ 3 ?hg (N:=30) ?hd (xs:=([]:List Int)) (inner:=[]) (ok:=fun _=>True) (okp:=fun _=>True) ?hr ?hp (fun _ hk=>hk) trivial (Below.refl _ _) (Nat.le_refl _) (by simp) ?_;(case hd=>rfl);(case hg=>rfl);(case hr=>first|(go_simp;done)|(go_simp;rfl));(case hp=>exact(Reps.none _ _));intro Cm Cv Ap hb hg_ hnew_;clear hg_ hnew_;(first|rw[←Bd.out]at Ap|(simp only[Int.reduceToNat]at Ap;rw[←Bd.out]at Ap));have Bk:=Az.mk (Kd.R_lower (Kd.R_new' Ap (Kd.R_lt (kR Ae.out))) (bwZ bw_11));replace Ae:=Az.mk (Kd.R_elder' (kR Ae.out) (Kd.R_base Ap) hb);replace HB:=Az.mk (bwT bw_11 hb);clear hb Ap))
 go_loopg [10,11] k (fun kq Ch Cn w'=>∃(Ag:List Int) (Ab:Int),Cn= .int .i64 Ab∧Az (gI.l0 kq l0 Aa Af Ag Ab=some r)∧Az (kq≤k)∧Az (Kd.R (Kd.int .i64) 3 w' w.heap.size (fun k_=>some k_≠(Ch:Value).ownBlock) (.slice Am Aa.length Ao) Aa)∧Az (Kd.R (Kd.int .i64) 3 w' w.heap.size (fun k_=>some k_≠((.slice Am Aa.length Ao):Value).ownBlock) Ch Ag)∧Az (Below w.heap.size w w'))
 case atStart=>exact⟨(Bj),(1),rq2,H',⟨Nat.le_refl _⟩,⟨by(with_reducible repeat(first|apply Kd.R_alloc|apply Kd.R_drewN|apply Kd.R_drew));exact Kd.R_mono Ae.out (fun _ hk=>hk.2)⟩,⟨by(with_reducible repeat(first|apply Kd.R_alloc|apply Kd.R_drewN|apply Kd.R_drew));exact Kd.R_mono Bk.out (fun _ hk=>hk.2)⟩,⟨bw_11⟩⟩
 clear H'
 try clear c5
 try clear Br
 try clear c6
 try clear Bs
 try clear c7
 try clear Bt
 try clear c8
 try clear Bu
 try clear Ah
 try clear Ai
 try clear Av
 try clear Ay
 try clear Aw
 try clear Ba
 obtain⟨Ag,Ab,rfl,HA,HK1,Aj,Au,HB⟩:=hrel
 cases gk with
 |zero=>exact absurd HA.out (by simp[gI.l0])
 |succ k1=>
  have H:=HA.out
  clear HA
  simp only[gI.l0]at H
  by_cases Bi:Ab≤(wrap64 (Int.tdiv (wrap64 (3*(l0.length:Int))) 2))
  rotate_left
  ·rw[ig Bi]at H
   have Bl:=decide_eq_false Bi
   clear Bi
   obtain rfl:=Option.some.inj H
   go_wp2
   go_ret
   exact⟨_,rq1,by(with_reducible repeat(first|apply Kd.R_alloc|apply Kd.R_drewN|apply Kd.R_drew));exact Kd.R_mono Au.out (fun _ hk=>trivial),bw_11⟩
  rw[ip Bi]at H
  have Bl:=ode Bi
  clear Bi
  replace H:=bez H
  obtain⟨Bf,Co,H⟩:=H
  try dsimp only at H
  replace H:=bez H
  obtain⟨Bb,Cp,H⟩:=H
  try dsimp only at H
  replace H:=bez H
  obtain⟨Bh,Cq,H⟩:=H
  try dsimp only at H
  replace H:=bez H
  obtain⟨Bc,Cs,H⟩:=H
  try dsimp only at H
  by_cases Bq:Ag.length<17592186044416
  rotate_left
  ·rw[ig Bq]at H
   exact absurd H (by simp)
  rw[ip Bq]at H
  have LMc21:=Az.mk Bq
  clear Bq
  obtain⟨Bm,hy⟩:∃y_:List Int,y_=(Ag ++ [wrap64 (Bb+Bc)]):=⟨_,rfl⟩
  replace H:(gI.l0 k1 l0 Aa Af Bm (wrap64 (Ab+1)))=some r:=rh
  have Bn:=Az.mk hy
  clear hy
  have H':=Az.mk H
  clear H
  go_wp2_with (first|((with_reducible refine gtC (f:=66) rfl ?_);refine clz Try.func66 (some 43) #[.slice Am Aa.length Ao, .int .i64 (wrap64 (2*Ab))] ?_;(with_reducible refine(fS.calls k1 _ _ Aa (wrap64 (2*Ab)) Bf _ ?Ac ?Ad Co.out).mono ?_);(case Ac=>exact kC (Kd.R_reads' Aj.out).2.2);(case Ad=>exact(Kd.R_reads' Aj.out).2.1);rintro e w' ⟨rfl,⟨nd,rfl⟩⟩;refine⟨_,rfl,?_⟩)|((with_reducible refine gtC (f:=61) rfl ?_);refine clz Try.func61 (some 46) #[.bool (Bf== Af)] ?_;(with_reducible refine(gK.calls (Bf== Af) Bb _ Cp.out).mono ?_);rintro e w' ⟨rfl,⟨nd,rfl⟩⟩;refine⟨_,rfl,?_⟩)|((with_reducible refine gtC (f:=66) rfl ?_);refine clz Try.func66 (some 51) #[.slice Am Aa.length Ao, .int .i64 (wrap64 ((wrap64 (2*Ab))+1))] ?_;(with_reducible refine(fS.calls k1 _ _ Aa (wrap64 ((wrap64 (2*Ab))+1)) Bh _ ?Ac ?Ad Cq.out).mono ?_);(case Ac=>exact kC (Kd.R_reads' Aj.out).2.2);(case Ad=>exact(Kd.R_reads' Aj.out).2.1);rintro e w' ⟨rfl,⟨nd,rfl⟩⟩;refine⟨_,rfl,?_⟩)|((with_reducible refine gtC (f:=61) rfl ?_);refine clz Try.func61 (some 54) #[.bool (Bh== Af)] ?_;(with_reducible refine(gK.calls (Bh== Af) Bc _ Cs.out).mono ?_);rintro e w' ⟨rfl,⟨nd,rfl⟩⟩;refine⟨_,rfl,?_⟩)|((with_reducible refine gate_builtin (b:= .append) (xs:= #[.tmp 39, .tmp 56]) rfl ?_);at_builtin;refine Kd.R_append (Kd.int .i64) (w0:=w) w.heap.size rfl (.tmp 39) (.tmp 56) 25 3 (.int .i64 0) 8 rfl Try.underlying25 info3 rfl (by decide) (by omega) u10 Ag (wrap64 (Bb+Bc)) [.int .i64 (wrap64 (Bb+Bc))] (fun k_=>some k_≠(.slice Am Aa.length Ao:Value).ownBlock) (fun _=>False) rfl rfl ?aP (fun _ hk=>hk.elim) ?aF ?aO ?aB ?aS ?aL ?_;(case aP=>exact rfl);(case aB=>exact bw_11);(case aF=>exact(fun k_ hk=>Kd.fresh' (Kd.R_lt (kR Aj.out)) k_ hk));(case aO=>exact(kR Au.out));(case aS=>exact(bwZ bw_11));(case aL=>have:=LMc21.out;omega);intro Ct Cw ho hb hg hat;rw[←Bn.out]at ho;have n0_:=Az.mk (Kd.R_after (ok:=(fun _=>True)) (by(with_reducible repeat(first|apply Kd.R_alloc|apply Kd.R_drewN|apply Kd.R_drew));exact Kd.R_mono Aj.out (fun _ hk=>⟨trivial,hk⟩)) hg hat);have n1_:=Az.mk (hb);have n2_:=Az.mk (ho);clear Aj;clear HB;clear Au;have Aj:=n0_;have HB:=n1_;have Bo:=n2_;clear n0_ n1_ n2_;clear ho hb hg hat))
  go_roundg k1
  case measure=>have:=HK1.out;omega
  case rel=>exact⟨(Bm),(wrap64 (Ab+1)),rq2,H',⟨by have:=HK1.out;omega⟩,⟨by(with_reducible repeat(first|apply Kd.R_alloc|apply Kd.R_drewN|apply Kd.R_drew));exact Kd.R_mono Aj.out (fun _ hk=>hk.2)⟩,⟨kR Bo.out⟩,⟨bw_11⟩⟩
def jF.f (s0_0:List Int) (s0_1:Int) (s0_2:Int) (l1:List Int):Option (Int × Int × Int):=(fK.f s0_0 s0_1 s0_2 (l1.length:Int)).bind fun bt250=>(if 0≤bt250.1 then(if bt250.1<(l1.length:Int) then(some (rd l1 bt250.1,bt250.2.1,bt250.2.2)) else(none)) else(none))
theorem jF.calls (g:Nat) (Ad:List Int) (Ae:Int) (Af:Int) (A1:Option Addr) (c1:Nat) (l1:List Int) (r1:Int) (r2:Int) (r3:Int) (w0 w:World) (hI:IsS96 w0 w g Ad Ae Af) (hB:Below w0.heap.size w0 w) (Aq:Kd.C (Kd.int .i64) w A1 l1.length l1) (As:l1.length≤c1) (Al:∀ad,A1=some ad→0<l1.length→ad.block≠g) (h:jF.f Ad Ae Af l1=some (r1,r2,r3)):
  Calls Try.prog 76 #[.pointer (some ⟨g,0,none⟩), .slice A1 l1.length c1] w fun e w'=>e= .returned (.int .i64 r1)∧IsS96 w0 w' g Ad r2 r3∧Below w0.heap.size w0 w'∧KeepBut w w' g none:=by
 have HR1:=Az.mk Aq
 have Aw:=Az.mk As
 clear Aq As
 have HI0:=Az.mk hI
 have HK:=Az.mk (KeepBut.refl w g none)
 have HL:=Az.mk hB.size
 clear hI
 have HW0:=Az.mk hB.size
 have HB:=Az.mk hB
 clear hB
 have H:((fK.f Ad Ae Af (l1.length:Int)).bind fun Aa=>(if 0≤Aa.1 then(if Aa.1<(l1.length:Int) then(some (rd l1 Aa.1,Aa.2.1,Aa.2.2)) else(none)) else(none)))=some (r1,r2,r3):=h
 clear h
 replace H:=bez H
 obtain⟨⟨Ac,Am,Ao⟩,A3,H⟩:=H
 try dsimp only at H
 by_cases c4:0≤Ac
 rotate_left
 ·rw[ig c4]at H
  exact absurd H (by simp)
 rw[ip c4]at H
 have Au:=ode c4
 clear c4
 by_cases c5:Ac<(l1.length:Int)
 rotate_left
 ·rw[ig c5]at H
  exact absurd H (by simp)
 rw[ip c5]at H
 have Av:=ode c5
 clear c5
 simp only[Option.some.injEq,Prod.mk.injEq]at H
 obtain⟨rfl,rfl,rfl⟩:=H
 go_enter Try.func76,Try.ntmps76
 go_wp2_with (first|((with_reducible refine gtC (f:=75) rfl ?_);refine clz Try.func75 (some 9) #[.pointer (some ⟨g,0,none⟩), .int .i64 (l1.length:Int)] ?_;(with_reducible refine(fK.calls g Ad Ae Af (l1.length:Int) Ac Am Ao w0 _ ?Ai ?Aj A3.out).mono ?_);(case Ai=>exact(kI HI0.out));(case Aj=>exact kG HB.out (IsS96.ge HI0.out));rintro e w6 ⟨rfl,hi,hb,hk⟩;refine⟨_,rfl,?_⟩;replace HK:=Az.mk (KeepBut.trans (kK HK.out) hk (.inl rfl));replace HB:=Az.mk (hb);replace HI0:=Az.mk (hi);(try clear hb);(try clear hk);(try clear hi);have Ag:0≤(Ac:Int):=od;have Ah:Ac<(l1.length:Int):=od;obtain⟨Ak,Ap,Ab⟩:=Kd.at_int HR1.out Ac Ag Ah;cases Ap;replace Ab:=keep_cell HK.out Ab (by first|(rw[add_block];exact Al _ rfl (by omega))|exact Al _ rfl (by omega)|exact Al Ak rfl (by omega));replace Ag:=ets Ag;replace Ah:=ets Ah))
 go_ret
 exact⟨rq1,kI HI0.out,kG HB.out (IsS96.ge HI0.out),kK HK.out⟩
end Go.Proofs.Ytflbpjijgnmklaa.P
