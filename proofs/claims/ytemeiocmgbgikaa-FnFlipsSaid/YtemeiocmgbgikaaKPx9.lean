-- The walks, cut and laid together by this session's tools (prune.py, sq2.py, min.py: shorter names, no needless spaces). Not trusted: Lean checks it.
import Derived.Test.YtemeiocmgbgikaaKWZip
import Derived.Test.YtemeiocmgbgikaaKPx0
namespace Go.Proofs.Ytemeiocmgbgikaa.P
open Go.RowKit Go.Proofs.YtemeiocmgbgikaaW.PrintWords Go.Proofs.YtemeiocmgbgikaaW.PrintLast Go.Proofs.YtemeiocmgbgikaaW.PrintMore
attribute [local go_sem] max2_int min2_int max_two min_two max_three min_three max_four min_four   -- for this text's walks alone
set_option linter.unusedVariables false
set_option linter.unusedSimpArgs false
set_option maxHeartbeats 8000000
set_option maxRecDepth 100000
theorem bw_9 {n:Nat}{v v':World} (h:Below n v v':=by repeat(first|(with_reducible first|exact HB.out|apply bwA|apply pbN|apply bwD)|exact HB.out)):Below n v v':=h
theorem ln_9 {P:Prop} (h:P:=by(try simp only[List.map_toArray,List.map_cons,List.map_nil]);first|done|rfl|(simp only[List.length_drop,List.length_take];rfl)):P:=h
mutual
def fN.l0:Nat→List (List Int)→List ByteArray→Int→Option ((List (List Int)) × Bool)
 |0,_,_,_=>none
 |k+1,x4,x5,x6=>if x6<(x5.length:Int) then(fN.l1 k x4 x5 x6 (([]:List Int)) 0) else((fB.f k x4).bind fun t199=>(if t199=true then(some (x4,true)) else(some ((([]:List (List Int))),false))))
def fN.l1:Nat→List (List Int)→List ByteArray→Int→List Int→Int→Option ((List (List Int)) × Bool)
 |0,_,_,_,_,_=>none
 |k+1,x4,x5,x6,x7,x8=>if 0≤x6 then(if x6<(x5.length:Int) then(if x8<((rdOf ByteArray.empty x5 x6).size:Int) then(if 0≤x8 then(if(bt (rdOf ByteArray.empty x5 x6) x8) ≥ 97 then(fN.j2 k x4 x5 x6 x7 x8 (bt (rdOf ByteArray.empty x5 x6) x8) (decide ((bt (rdOf ByteArray.empty x5 x6) x8)≤105))) else(fN.j2 k x4 x5 x6 x7 x8 (bt (rdOf ByteArray.empty x5 x6) x8) false)) else(none)) else(if x4.length<5864062014805 then(fN.l0 k (x4 ++ [x7]) x5 (wrap64 (x6+1))) else(none))) else(none)) else(none)
def fN.j2:Nat→List (List Int)→List ByteArray→Int→List Int→Int→Int→Bool→Option ((List (List Int)) × Bool)
 |0,_,_,_,_,_,_,_=>none
 |k+1,x4,x5,x6,x7,x8,x9,x36=>if x36=true then(if x7.length<17592186044416 then(fN.l1 k x4 x5 x6 (x7 ++ [wrap64 ((wrap64 ((wrap64 (x9)) - 97))+1)]) (wrap64 (x8+1))) else(none)) else(if x9 ≥ 65 then(if x9≤73 then(if x7.length<17592186044416 then(fN.l1 k x4 x5 x6 (x7 ++ [wrap64 (-(wrap64 ((wrap64 ((wrap64 (x9)) - 65))+1)))]) (wrap64 (x8+1))) else(none)) else(some ((([]:List (List Int))),false))) else(some ((([]:List (List Int))),false)))
end
def fN.f (k:Nat) (a0:ByteArray):Option ((List (List Int)) × Bool):=(gH.f k a0 32).bind fun t196=>(fN.l0 k (([]:List (List Int))) t196 0)
theorem fN.calls (k:Nat) (a0:ByteArray) (r1:List (List Int)) (r2:Bool) (w:World) (h:fN.f k a0=some (r1,r2)):
  Calls Try.prog 76 #[.string a0] w fun e w'=>∃v0_:Value,e= .returned (.tuple #[v0_, .bool r2])∧Kd.S (Kd.slice 3 (Kd.int .i64)) 25 w' w.heap.size (fun _=>True) v0_ r1∧Below w.heap.size w w':=by
 have HB:=Az.mk (Below.refl w.heap.size w)
 have H:=h
 unfold fN.f at H
 clear h
 obtain⟨Bv,hy⟩:∃y_:List (List Int),y_=(([]:List (List Int))):=⟨_,rfl⟩
 replace H:((gH.f k a0 32).bind fun Ac=>(fN.l0 k Bv Ac 0))=some (r1,r2):=rh
 have Bh:=Az.mk hy
 clear hy
 replace H:=bez H
 obtain⟨Ac,A2,H⟩:=H
 try dsimp only at H
 have H':=Az.mk H
 clear H
 go_enter Try.func76,Try.ntmps76
 go_wp2_with (first|((with_reducible refine gtD (N:=10) rfl ?_);refine Kd.S_lit (Kd.slice 3 (Kd.int .i64)) _ 25 ?hg (N:=10) ?hd (xs:=([]:List (List Int))) (inner:=[]) (ok:=fun _=>True) (okp:=fun _=>True) ?hr ?hp (fun _ hk=>hk) trivial (Below.refl _ _) (Nat.le_refl _) (by simp) ?_;(case hd=>rfl);(case hg=>rfl);(case hr=>first|(go_simp;done)|(go_simp;rfl));(case hp=>exact(Reps.none _ _));intro Dy w3 Bw hb hg_ hnew_;clear hg_ hnew_;(first|rw[←Bh.out]at Bw|(simp only[Int.reduceToNat]at Bw;rw[←Bh.out]at Bw));have Au:=Az.mk (Kd.S_lower Bw (bwZ bw_9));replace HB:=Az.mk (bwT bw_9 hb);clear hb Bw)|((with_reducible refine gtC (f:=78) rfl ?_);refine clz Try.func78 (some 12) #[.string a0, .int .u8 32] ?_;(with_reducible refine(gH.calls k a0 32 Ac _ A2.out).mono ?_);rintro e w5 ⟨Df,rfl,Dv,hb⟩;refine⟨_,rfl,?_⟩;replace Au:=Az.mk (Kd.S_below (kS Au.out) hb);have Bx:=Az.mk (Kd.R_lower Dv (bwZ bw_9));replace HB:=Az.mk (bwT bw_9 hb);(try clear hb);(try clear Dv)))
 go_loopg [4,6] k (fun kq v4 v6 w'=>∃(Ag:List (List Int)) (Aa:Int),v6= .int .i64 Aa∧Az (fN.l0 kq Ag Ac Aa=some (r1,r2))∧Az (kq≤k)∧Az (Kd.S (Kd.slice 3 (Kd.int .i64)) 25 w' w.heap.size (fun _=>True) v4 Ag)∧Az (Kd.R Kd.string 9 w' w.heap.size (fun _=>True) Df Ac)∧Az (Below w.heap.size w w'))
 case atStart=>exact⟨(Bv),(0),rq2,H',⟨Nat.le_refl _⟩,⟨kS Au.out⟩,⟨kR Bx.out⟩,⟨bw_9⟩⟩
 clear H'
 obtain⟨Ag,Aa,rfl,HA,HK1,Ab,Ad,HB⟩:=hrel
 cases gk with
 |zero=>exact absurd HA.out (by simp[fN.l0])
 |succ k1=>
  have H:=HA.out
  clear HA
  simp only[fN.l0]at H
  by_cases c6:Aa<(Ac.length:Int)
  rotate_left
  ·rw[ig c6]at H
   have Bn:=decide_eq_false c6
   clear c6
   replace H:=bez H
   obtain⟨Dg,Dw,H⟩:=H
   try dsimp only at H
   by_cases Cy:Dg=true
   ·subst Cy
    rw[ip rfl]at H
    simp only[Option.some.injEq,Prod.mk.injEq]at H
    obtain⟨rfl,rfl⟩:=H
    obtain⟨Dz,Ea,Dh⟩:=Kd.R_slice Ad.out
    subst Dh
    obtain⟨Di,Dj,Dk⟩:=Kd.S_slice Ab.out
    subst Dk
    go_wp2_with (first|((with_reducible refine gtC (f:=28) rfl ?_);refine clz Try.func28 (some 70) #[.slice Di Ag.length Dj] ?_;(with_reducible refine(fB.calls k1 _ _ Ag true _ ?Av ?Ax Dw.out).mono ?_);(case Av=>exact kC (Kd.S_reads' Ab.out).2.2);(case Ax=>exact(Kd.S_reads' Ab.out).2.1);rintro e Eo ⟨rfl,hb⟩;refine⟨_,rfl,?_⟩;replace Ab:=Az.mk (Kd.S_below (kS Ab.out) hb);replace Ad:=Az.mk (Kd.R_below (kR Ad.out) hb);replace HB:=Az.mk (bwT bw_9 hb);(try clear hb)))
    go_ret2
    exact⟨_,rq1,kS Ab.out,bw_9⟩
   replace Cy:=Bool.eq_false_iff.mpr Cy
   subst Cy
   rw[ig ff]at H
   obtain⟨Dl,hy⟩:∃y_:List (List Int),y_=(([]:List (List Int))):=⟨_,rfl⟩
   replace H:(some (Dl,false))=some (r1,r2):=rh
   have Bi:=Az.mk hy
   clear hy
   simp only[Option.some.injEq,Prod.mk.injEq]at H
   obtain⟨rfl,rfl⟩:=H
   obtain⟨Eb,Ec,Dm⟩:=Kd.R_slice Ad.out
   subst Dm
   obtain⟨Dn,Do,Dp⟩:=Kd.S_slice Ab.out
   subst Dp
   go_wp2_with (first|((with_reducible refine gtC (f:=28) rfl ?_);refine clz Try.func28 (some 70) #[.slice Dn Ag.length Do] ?_;(with_reducible refine(fB.calls k1 _ _ Ag false _ ?Av ?Ax Dw.out).mono ?_);(case Av=>exact kC (Kd.S_reads' Ab.out).2.2);(case Ax=>exact(Kd.S_reads' Ab.out).2.1);rintro e Ep ⟨rfl,hb⟩;refine⟨_,rfl,?_⟩;replace Ab:=Az.mk (Kd.S_below (kS Ab.out) hb);replace Ad:=Az.mk (Kd.R_below (kR Ad.out) hb);replace HB:=Az.mk (bwT bw_9 hb);(try clear hb))|((with_reducible refine gtD (N:=72) rfl ?_);refine Kd.S_lit (Kd.slice 3 (Kd.int .i64)) _ 25 ?hg (N:=72) ?hd (xs:=([]:List (List Int))) (inner:=[]) (ok:=fun _=>True) (okp:=fun _=>True) ?hr ?hp (fun _ hk=>hk) trivial (Below.refl _ _) (Nat.le_refl _) (by simp) ?_;(case hd=>rfl);(case hg=>rfl);(case hr=>first|(go_simp;done)|(go_simp;rfl));(case hp=>exact(Reps.none _ _));intro Ed Er Ap hb hg_ hnew_;clear hg_ hnew_;(first|rw[←Bi.out]at Ap|(simp only[Int.reduceToNat]at Ap;rw[←Bi.out]at Ap));replace Ad:=Az.mk (Kd.R_below (kR Ad.out) hb);have By:=Az.mk (Kd.S_lower (Kd.S_new' Ap (Kd.S_lt (kS Ab.out))) (bwZ bw_9));replace Ab:=Az.mk (Kd.S_elder' (kS Ab.out) (Kd.S_base Ap) hb);replace HB:=Az.mk (bwT bw_9 hb);clear hb Ap))
   go_ret2
   exact⟨_,rq1,by(with_reducible repeat(first|apply Kd.S_alloc|apply Kd.S_drewN|apply Kd.S_drew));exact Kd.S_mono By.out (fun _ hk=>trivial),bw_9⟩
  rw[ip c6]at H
  have Bn:=ode c6
  clear c6
  obtain⟨Bz,hy⟩:∃y_:List Int,y_=(([]:List Int)):=⟨_,rfl⟩
  replace H:(fN.l1 k1 Ag Ac Aa Bz 0)=some (r1,r2):=rh
  have Bj:=Az.mk hy
  clear hy
  have H':=Az.mk H
  clear H
  obtain⟨Ee,Dx,Ef⟩:=Kd.R_slice Ad.out
  subst Ef
  go_wp2_with (first|((with_reducible refine gtD (N:=19) rfl ?_);refine Kd.R_lit (Kd.int .i64) _ 3 ?hg (N:=19) ?hd (xs:=([]:List Int)) (inner:=[]) (ok:=fun _=>True) (okp:=fun _=>True) ?hr ?hp (fun _ hk=>hk) trivial (Below.refl _ _) (Nat.le_refl _) (by simp) ?_;(case hd=>rfl);(case hg=>rfl);(case hr=>first|(go_simp;done)|(go_simp;rfl));(case hp=>exact(Reps.none _ _));intro Eg w8 Bs hb hg_ hnew_;clear hg_ hnew_;(first|rw[←Bj.out]at Bs|(simp only[Int.reduceToNat]at Bs;rw[←Bj.out]at Bs));replace Ab:=Az.mk (Kd.S_elder' (kS Ab.out) (Kd.R_base Bs) hb);replace Ad:=Az.mk (Kd.R_below (kR Ad.out) hb);have Ca:=Az.mk (Kd.R_lower Bs (bwZ bw_9));replace HB:=Az.mk (bwT bw_9 hb);clear hb Bs))
  go_loopg [7,8] k1 (fun kq v7 v8 w'=>∃(Ah:List Int) (Ae:Int),v8= .int .i64 Ae∧Az (fN.l1 kq Ag Ac Aa Ah Ae=some (r1,r2))∧Az (kq≤k1)∧Az (Kd.S (Kd.slice 3 (Kd.int .i64)) 25 w' w.heap.size (fun k_=>some k_≠(v7:Value).ownBlock) u4 Ag)∧Az (Kd.R Kd.string 9 w' w.heap.size (fun _=>True) (.slice Ee Ac.length Dx) Ac)∧Az (Kd.R (Kd.int .i64) 3 w' w.heap.size (fun _=>True) v7 Ah)∧Az (Below w.heap.size w w'))
  case atStart=>exact⟨(Bz),(0),rq2,H',⟨Nat.le_refl _⟩,⟨by(with_reducible repeat(first|apply Kd.S_alloc|apply Kd.S_drewN|apply Kd.S_drew));exact Kd.S_mono Ab.out (fun _ hk=>hk.2)⟩,⟨kR Ad.out⟩,⟨kR Ca.out⟩,⟨bw_9⟩⟩
  clear H'
  try clear c6
  try clear Bn
  obtain⟨Ah,Ae,rfl,HA,HK2,Ab,Ad,Af,HB⟩:=hrel
  cases gk with
  |zero=>exact absurd HA.out (by simp[fN.l1])
  |succ k2=>
   have H:=HA.out
   clear HA
   simp only[fN.l1]at H
   by_cases Cb:0≤Aa
   rotate_left
   ·rw[ig Cb]at H
    exact absurd H (by simp)
   rw[ip Cb]at H
   have Cc:=ode Cb
   clear Cb
   by_cases Cd:Aa<(Ac.length:Int)
   rotate_left
   ·rw[ig Cd]at H
    exact absurd H (by simp)
   rw[ip Cd]at H
   have Ce:=ode Cd
   clear Cd
   by_cases Bo:Ae<((rdOf ByteArray.empty Ac Aa).size:Int)
   rotate_left
   ·rw[ig Bo]at H
    have Bk:=decide_eq_false Bo
    clear Bo
    by_cases Cz:Ag.length<5864062014805
    rotate_left
    ·rw[ig Cz]at H
     exact absurd H (by simp)
    rw[ip Cz]at H
    have LMc28:=Az.mk Cz
    clear Cz
    obtain⟨Cf,hy⟩:∃y_:List (List Int),y_=(Ag ++ [Ah]):=⟨_,rfl⟩
    replace H:(fN.l0 k2 Cf Ac (wrap64 (Aa+1)))=some (r1,r2):=rh
    have Cg:=Az.mk hy
    clear hy
    have H':=Az.mk H
    clear H
    have Ak:0≤(Aa:Int):=od
    have Al:Aa<(Ac.length:Int):=od
    obtain⟨Ay,Bp,Am⟩:=Kd.at_string (Kd.R_reads' Ad.out).2.2 Aa Ak Al
    cases Bp
    replace Ak:=ets Ak
    replace Al:=ets Al
    obtain⟨Ch,Ci,Dq⟩:=Kd.R_slice Af.out
    subst Dq
    go_wp2_with (first|((with_reducible refine gate_builtin (b:= .append) (xs:= #[.tmp 65, .tmp 67]) rfl ?_);at_builtin;refine Kd.S_append (Kd.slice 3 (Kd.int .i64)) (w0:=w) w.heap.size rfl (.tmp 65) (.tmp 67) 24 25 (.slice none 0 0) 24 rfl Try.underlying24 info25 rfl (by decide) (by omega) u4 Ag Ah [.slice Ch Ah.length Ci] (fun _=>True) (fun k_=>some k_=(.slice Ch Ah.length Ci:Value).ownBlock) rfl rfl ?aP (fun k_ hk_=>((Kd.R_mono (ok':=fun k_=>((fun _=>True)) k_∧some k_≠(u4:Value).ownBlock) (Kd.R_apart' (Af.out) (Kd.S_typed Ab.out) (by decide)) (fun k_ hk=>⟨trivial,hk.2⟩))).1 k_ hk_.symm) ?aF ?aO ?aB ?aS ?aL ?_;(case aP=>exact Kd.M_row (Kd.R_mono (Kd.R_tight rfl (Kd.R_mono (ok':=fun k_=>((fun _=>True)) k_∧some k_≠(u4:Value).ownBlock) (Kd.R_apart' (Af.out) (Kd.S_typed Ab.out) (by decide)) (fun k_ hk=>⟨trivial,hk.2⟩))) (fun _ h_=>h_)));(case aB=>exact bw_9);(case aF=>exact(fun _ _=>trivial));(case aO=>exact(by(with_reducible repeat(first|apply Kd.S_alloc|apply Kd.S_drewN|apply Kd.S_drew));exact Kd.S_mono Ab.out (fun k_ hk=>⟨trivial,fun e_=>hk e_⟩)));(case aS=>exact(bwZ bw_9));(case aL=>have:=LMc28.out;omega);intro Eh Es ho hb hg hat;rw[←Cg.out]at ho;have n0_:=Az.mk (Kd.R_over' (kR Ad.out) (Kd.S_typed (kS Ab.out)) (by decide) hg);have n1_:=Az.mk (hb);have n2_:=Az.mk (ho);clear Ad;clear HB;clear Ab;clear Af;have Ad:=n0_;have HB:=n1_;have Cj:=n2_;clear n0_ n1_ n2_;clear ho hb hg hat))
    go_roundg k2
    case measure=>have:=HK1.out;have:=HK2.out;omega
    case rel=>exact⟨(Cf),(wrap64 (Aa+1)),rq2,H',⟨by have:=HK1.out;have:=HK2.out;omega⟩,⟨kS Cj.out⟩,⟨kR Ad.out⟩,⟨bw_9⟩⟩
   rw[ip Bo]at H
   have Bk:=ode Bo
   clear Bo
   by_cases Ck:0≤Ae
   rotate_left
   ·rw[ig Ck]at H
    exact absurd H (by simp)
   rw[ip Ck]at H
   have Cl:=ode Ck
   clear Ck
   have Bq:=Az.mk H
   clear H
   have Ak:0≤(Aa:Int):=od
   have Al:Aa<(Ac.length:Int):=od
   obtain⟨Ay,Bp,Am⟩:=Kd.at_string (Kd.R_reads' Ad.out).2.2 Aa Ak Al
   cases Bp
   replace Ak:=ets Ak
   replace Al:=ets Al
   have Ba:0≤(Aa:Int):=od
   have Bb:Aa<(Ac.length:Int):=od
   obtain⟨Cm,Dr,Bc⟩:=Kd.at_string (Kd.R_reads' Ad.out).2.2 Aa Ba Bb
   obtain rfl:Ay=Cm:=(by injection Dr)
   replace Ba:=ets Ba
   replace Bb:=ets Bb
   have Da:0≤(Ae:Int):=od
   have Db:Ae<((rdOf ByteArray.empty Ac Aa).size:Int):=od
   have Ds:=bt_at (rdOf ByteArray.empty Ac Aa) Ae
   replace Da:=ets Da
   replace Db:=ets Db
   go_upto_region 12 with (fail)
   go_cut [36] (fun Ei wc=>∃(kq:Nat) (Aj:Bool),Ei= .bool Aj∧Az (fN.j2 kq Ag Ac Aa Ah Ae (bt (rdOf ByteArray.empty Ac Aa) Ae) Aj=some (r1,r2))∧Az (kq≤k2)∧Az (Kd.S (Kd.slice 3 (Kd.int .i64)) 25 wc w.heap.size (fun k_=>some k_≠(u7:Value).ownBlock) u4 Ag)∧Az (Kd.R Kd.string 9 wc w.heap.size (fun _=>True) (.slice (some Ay) Ac.length Dx) Ac)∧Az (Kd.R (Kd.int .i64) 3 wc w.heap.size (fun _=>True) u7 Ah)∧Az (Below w.heap.size w wc))
   case first=>
    have H:=Bq.out
    clear Bq
    by_cases Br:(bt (rdOf ByteArray.empty Ac Aa) Ae) ≥ 97
    ·rw[ip Br]at H
     have Ai:decide (97≤(bt (rdOf ByteArray.empty Ac Aa) Ae))=true:=ode Br
     clear Br
     (first|rw[Ai]|(simp only[i64_w,i32_w];rw[Ai])|skip)
     have H':=Az.mk H
     clear H
     go_wp2
     go_meet
     case rel=>exact⟨_,(decide ((bt (rdOf ByteArray.empty Ac Aa) Ae)≤105)),rq2,H',⟨by have:=HK1.out;have:=HK2.out;first|omega|exact Nat.le_refl _⟩,⟨kS Ab.out⟩,⟨kR Ad.out⟩,⟨kR Af.out⟩,⟨bw_9⟩⟩
    rw[ig Br]at H
    have Ai:decide (97≤(bt (rdOf ByteArray.empty Ac Aa) Ae))=false:=decide_eq_false Br
    clear Br
    (first|rw[Ai]|(simp only[i64_w,i32_w];rw[Ai])|skip)
    have H':=Az.mk H
    clear H
    go_wp2
    go_meet
    case rel=>exact⟨_,(false),rq2,H',⟨by have:=HK1.out;have:=HK2.out;first|omega|exact Nat.le_refl _⟩,⟨kS Ab.out⟩,⟨kR Ad.out⟩,⟨kR Af.out⟩,⟨bw_9⟩⟩
   clear Bq
   try clear c6
   try clear Bn
   try clear Cb
   try clear Cc
   try clear Cd
   try clear Ce
   try clear Bo
   try clear Bk
   try clear Ck
   try clear Cl
   try clear Da
   try clear Db
   try clear Ds
   try clear Br
   try clear Ai
   try clear Am
   try clear Bc
   try clear Da
   try clear Ak
   try clear Ba
   try clear Db
   try clear Al
   try clear Bb
   obtain⟨kq,Aj,rfl,HA,Bd,Ab,Ad,Af,HB⟩:=hcut
   cases kq with
   |zero=>exact absurd HA.out (by simp[fN.j2])
   |succ Bf=>
    have H:=HA.out
    clear HA
    simp only[fN.j2]at H
    by_cases Dc:Aj=true
    ·subst Dc
     rw[ip rfl]at H
     by_cases Dd:Ah.length<17592186044416
     rotate_left
     ·rw[ig Dd]at H
      exact absurd H (by simp)
     rw[ip Dd]at H
     have LMc18:=Az.mk Dd
     clear Dd
     obtain⟨Cn,hy⟩:∃y_:List Int,y_=(Ah ++ [wrap64 ((wrap64 ((wrap64 ((bt (rdOf ByteArray.empty Ac Aa) Ae))) - 97))+1)]):=⟨_,rfl⟩
     replace H:(fN.l1 Bf Ag Ac Aa Cn (wrap64 (Ae+1)))=some (r1,r2):=rh
     have Co:=Az.mk hy
     clear hy
     have H':=Az.mk H
     clear H
     go_wp2_with (first|((with_reducible refine gate_builtin (b:= .append) (xs:= #[.tmp 43, .tmp 48]) rfl ?_);at_builtin;refine Kd.R_append (Kd.int .i64) (w0:=w) w.heap.size rfl (.tmp 43) (.tmp 48) 25 3 (.int .i64 0) 8 rfl Try.underlying25 info3 rfl (by decide) (by omega) u7 Ah (wrap64 ((wrap64 ((wrap64 ((bt (rdOf ByteArray.empty Ac Aa) Ae))) - 97))+1)) [.int .i64 (wrap64 ((wrap64 ((wrap64 ((bt (rdOf ByteArray.empty Ac Aa) Ae))) - 97))+1))] (fun _=>True) (fun _=>False) rfl rfl ?aP (fun _ hk=>hk.elim) ?aF ?aO ?aB ?aS ?aL ?_;(case aP=>exact rfl);(case aB=>exact bw_9);(case aF=>exact(fun _ _=>trivial));(case aO=>exact(kR Af.out));(case aS=>exact(bwZ bw_9));(case aL=>have:=LMc18.out;omega);intro Ej Et ho hb hg hat;rw[←Co.out]at ho;have n0_:=Az.mk (Kd.S_after (ok:=(fun _=>True)) (by(with_reducible repeat(first|apply Kd.S_alloc|apply Kd.S_drewN|apply Kd.S_drew));exact Kd.S_mono Ab.out (fun _ hk=>⟨trivial,hk⟩)) hg hat);have n1_:=Az.mk (Kd.R_over' (kR Ad.out) (Kd.R_typed (kR Af.out)) (by decide) hg);have n2_:=Az.mk (hb);have n3_:=Az.mk (ho);clear Ab;clear Ad;clear HB;clear Af;have Ab:=n0_;have Ad:=n1_;have HB:=n2_;have Cp:=n3_;clear n0_ n1_ n2_ n3_;clear ho hb hg hat))
     go_roundg Bf
     case measure=>have:=HK1.out;have:=HK2.out;have:=Bd.out;omega
     case rel=>exact⟨(Cn),(wrap64 (Ae+1)),rq2,H',⟨by have:=HK1.out;have:=HK2.out;have:=Bd.out;omega⟩,⟨by(with_reducible repeat(first|apply Kd.S_alloc|apply Kd.S_drewN|apply Kd.S_drew));exact Kd.S_mono Ab.out (fun _ hk=>hk.2)⟩,⟨kR Ad.out⟩,⟨kR Cp.out⟩,⟨bw_9⟩⟩
    replace Dc:=Bool.eq_false_iff.mpr Dc
    subst Dc
    rw[ig ff]at H
    by_cases Bt:(bt (rdOf ByteArray.empty Ac Aa) Ae) ≥ 65
    rotate_left
    ·rw[ig Bt]at H
     have Cq:decide (65≤(bt (rdOf ByteArray.empty Ac Aa) Ae))=false:=decide_eq_false Bt
     clear Bt
     obtain⟨Dt,hy⟩:∃y_:List (List Int),y_=(([]:List (List Int))):=⟨_,rfl⟩
     replace H:(some (Dt,false))=some (r1,r2):=rh
     have Bl:=Az.mk hy
     clear hy
     simp only[Option.some.injEq,Prod.mk.injEq]at H
     obtain⟨rfl,rfl⟩:=H
     go_wp2_with (first|((with_reducible refine gtD (N:=35) rfl ?_);refine Kd.S_lit (Kd.slice 3 (Kd.int .i64)) _ 25 ?hg (N:=35) ?hd (xs:=([]:List (List Int))) (inner:=[]) (ok:=fun _=>True) (okp:=fun _=>True) ?hr ?hp (fun _ hk=>hk) trivial (Below.refl _ _) (Nat.le_refl _) (by simp) ?_;(case hd=>rfl);(case hg=>rfl);(case hr=>first|(go_simp;done)|(go_simp;rfl));(case hp=>exact(Reps.none _ _));intro Ek Eu Aq hb hg_ hnew_;clear hg_ hnew_;(first|rw[←Bl.out]at Aq|(simp only[Int.reduceToNat]at Aq;rw[←Bl.out]at Aq));replace Ad:=Az.mk (Kd.R_below (kR Ad.out) hb);have Cr:=Az.mk (Kd.S_lower (Kd.S_new' (Kd.S_new' Aq (Kd.S_lt (kS Ab.out))) (Kd.R_lt (kR Af.out))) (bwZ bw_9));replace Ab:=Az.mk (Kd.S_elder' (kS Ab.out) (Kd.S_base Aq) hb);replace Af:=Az.mk (Kd.R_below (kR Af.out) hb);replace HB:=Az.mk (bwT bw_9 hb);clear hb Aq))
     go_ret2
     exact⟨_,rq1,by(with_reducible repeat(first|apply Kd.S_alloc|apply Kd.S_drewN|apply Kd.S_drew));exact Kd.S_mono Cr.out (fun _ hk=>trivial),bw_9⟩
    rw[ip Bt]at H
    have Cq:decide (65≤(bt (rdOf ByteArray.empty Ac Aa) Ae))=true:=ode Bt
    clear Bt
    by_cases Bu:(bt (rdOf ByteArray.empty Ac Aa) Ae)≤73
    rotate_left
    ·rw[ig Bu]at H
     have Cs:=decide_eq_false Bu
     clear Bu
     obtain⟨Du,hy⟩:∃y_:List (List Int),y_=(([]:List (List Int))):=⟨_,rfl⟩
     replace H:(some (Du,false))=some (r1,r2):=rh
     have Bm:=Az.mk hy
     clear hy
     simp only[Option.some.injEq,Prod.mk.injEq]at H
     obtain⟨rfl,rfl⟩:=H
     go_wp2_with (first|((with_reducible refine gtD (N:=35) rfl ?_);refine Kd.S_lit (Kd.slice 3 (Kd.int .i64)) _ 25 ?hg (N:=35) ?hd (xs:=([]:List (List Int))) (inner:=[]) (ok:=fun _=>True) (okp:=fun _=>True) ?hr ?hp (fun _ hk=>hk) trivial (Below.refl _ _) (Nat.le_refl _) (by simp) ?_;(case hd=>rfl);(case hg=>rfl);(case hr=>first|(go_simp;done)|(go_simp;rfl));(case hp=>exact(Reps.none _ _));intro El Ev As hb hg_ hnew_;clear hg_ hnew_;(first|rw[←Bm.out]at As|(simp only[Int.reduceToNat]at As;rw[←Bm.out]at As));replace Ad:=Az.mk (Kd.R_below (kR Ad.out) hb);have Ct:=Az.mk (Kd.S_lower (Kd.S_new' (Kd.S_new' As (Kd.S_lt (kS Ab.out))) (Kd.R_lt (kR Af.out))) (bwZ bw_9));replace Ab:=Az.mk (Kd.S_elder' (kS Ab.out) (Kd.S_base As) hb);replace Af:=Az.mk (Kd.R_below (kR Af.out) hb);replace HB:=Az.mk (bwT bw_9 hb);clear hb As))
     go_ret2
     exact⟨_,rq1,by(with_reducible repeat(first|apply Kd.S_alloc|apply Kd.S_drewN|apply Kd.S_drew));exact Kd.S_mono Ct.out (fun _ hk=>trivial),bw_9⟩
    rw[ip Bu]at H
    have Cs:=ode Bu
    clear Bu
    by_cases De:Ah.length<17592186044416
    rotate_left
    ·rw[ig De]at H
     exact absurd H (by simp)
    rw[ip De]at H
    have LMc22:=Az.mk De
    clear De
    obtain⟨Cu,hy⟩:∃y_:List Int,y_=(Ah ++ [wrap64 (-(wrap64 ((wrap64 ((wrap64 ((bt (rdOf ByteArray.empty Ac Aa) Ae))) - 65))+1)))]):=⟨_,rfl⟩
    replace H:(fN.l1 Bf Ag Ac Aa Cu (wrap64 (Ae+1)))=some (r1,r2):=rh
    have Cv:=Az.mk hy
    clear hy
    have H':=Az.mk H
    clear H
    go_wp2_with (first|((with_reducible refine gate_builtin (b:= .append) (xs:= #[.tmp 57, .tmp 63]) rfl ?_);at_builtin;refine Kd.R_append (Kd.int .i64) (w0:=w) w.heap.size rfl (.tmp 57) (.tmp 63) 25 3 (.int .i64 0) 8 rfl Try.underlying25 info3 rfl (by decide) (by omega) u7 Ah (wrap64 (-(wrap64 ((wrap64 ((wrap64 ((bt (rdOf ByteArray.empty Ac Aa) Ae))) - 65))+1)))) [.int .i64 (wrap64 (-(wrap64 ((wrap64 ((wrap64 ((bt (rdOf ByteArray.empty Ac Aa) Ae))) - 65))+1))))] (fun _=>True) (fun _=>False) rfl rfl ?aP (fun _ hk=>hk.elim) ?aF ?aO ?aB ?aS ?aL ?_;(case aP=>exact rfl);(case aB=>exact bw_9);(case aF=>exact(fun _ _=>trivial));(case aO=>exact(kR Af.out));(case aS=>exact(bwZ bw_9));(case aL=>have:=LMc22.out;omega);intro Em Ew ho hb hg hat;rw[←Cv.out]at ho;have n0_:=Az.mk (Kd.S_after (ok:=(fun _=>True)) (by(with_reducible repeat(first|apply Kd.S_alloc|apply Kd.S_drewN|apply Kd.S_drew));exact Kd.S_mono Ab.out (fun _ hk=>⟨trivial,hk⟩)) hg hat);have n1_:=Az.mk (Kd.R_over' (kR Ad.out) (Kd.R_typed (kR Af.out)) (by decide) hg);have n2_:=Az.mk (hb);have n3_:=Az.mk (ho);clear Ab;clear Ad;clear HB;clear Af;have Ab:=n0_;have Ad:=n1_;have HB:=n2_;have Cw:=n3_;clear n0_ n1_ n2_ n3_;clear ho hb hg hat))
    go_roundg Bf
    case measure=>have:=HK1.out;have:=HK2.out;have:=Bd.out;omega
    case rel=>exact⟨(Cu),(wrap64 (Ae+1)),rq2,H',⟨by have:=HK1.out;have:=HK2.out;have:=Bd.out;omega⟩,⟨by(with_reducible repeat(first|apply Kd.S_alloc|apply Kd.S_drewN|apply Kd.S_drew));exact Kd.S_mono Ab.out (fun _ hk=>hk.2)⟩,⟨kR Ad.out⟩,⟨kR Cw.out⟩,⟨bw_9⟩⟩
def jS.f (s0_0:List Int) (s0_1:Int) (s0_2:Int) (l1:List ByteArray):Option (ByteArray × Int × Int):=(fO.f s0_0 s0_1 s0_2 (l1.length:Int)).bind fun bt223=>(if 0≤bt223.1 then(if bt223.1<(l1.length:Int) then(some (rdOf ByteArray.empty l1 bt223.1,bt223.2.1,bt223.2.2)) else(none)) else(none))
theorem jS.calls (g:Nat) (Ac:List Int) (Ad:Int) (Ae:Int) (A1:Option Addr) (c1:Nat) (l1:List ByteArray) (r1:ByteArray) (r2:Int) (r3:Int) (w0 w:World) (hI:IsS76 w0 w g Ac Ad Ae) (hB:Below w0.heap.size w0 w) (Aq:Kd.C Kd.string w A1 l1.length l1) (As:l1.length≤c1) (Ak:∀ad,A1=some ad→0<l1.length→ad.block≠g) (h:jS.f Ac Ad Ae l1=some (r1,r2,r3)):
  Calls Try.prog 77 #[.pointer (some ⟨g,0,none⟩), .slice A1 l1.length c1] w fun e w'=>e= .returned (.string r1)∧IsS76 w0 w' g Ac r2 r3∧Below w0.heap.size w0 w'∧KeepBut w w' g none:=by
 have Au:=Az.mk Aq
 have Ay:=Az.mk As
 clear Aq As
 have HI0:=Az.mk hI
 have HK:=Az.mk (KeepBut.refl w g none)
 have HL:=Az.mk hB.size
 clear hI
 have HW0:=Az.mk hB.size
 have HB:=Az.mk hB
 clear hB
 have H:=h
 unfold jS.f at H
 clear h
 replace H:=bez H
 obtain⟨⟨Ab,Al,Am⟩,A3,H⟩:=H
 try dsimp only at H
 by_cases c4:0≤Ab
 rotate_left
 ·rw[ig c4]at H
  exact absurd H (by simp)
 rw[ip c4]at H
 have Av:=ode c4
 clear c4
 by_cases c5:Ab<(l1.length:Int)
 rotate_left
 ·rw[ig c5]at H
  exact absurd H (by simp)
 rw[ip c5]at H
 have Ax:=ode c5
 clear c5
 simp only[Option.some.injEq,Prod.mk.injEq]at H
 obtain⟨rfl,rfl,rfl⟩:=H
 go_enter Try.func77,Try.ntmps77
 go_wp2_with (first|((with_reducible refine gtC (f:=62) rfl ?_);refine clz Try.func62 (some 9) #[.pointer (some ⟨g,0,none⟩), .int .i64 (l1.length:Int)] ?_;(with_reducible refine(fO.calls g Ac Ad Ae (l1.length:Int) Ab Al Am w0 _ ?Ah ?Ai A3.out).mono ?_);(case Ah=>exact(kI HI0.out));(case Ai=>exact kG HB.out (IsS76.ge HI0.out));rintro e w6 ⟨rfl,hi,hb,hk⟩;refine⟨_,rfl,?_⟩;replace HK:=Az.mk (KeepBut.trans (kK HK.out) hk (.inl rfl));replace HB:=Az.mk (hb);replace HI0:=Az.mk (hi);(try clear hb);(try clear hk);(try clear hi);have Af:0≤(Ab:Int):=od;have Ag:Ab<(l1.length:Int):=od;obtain⟨Aj,Ap,Aa⟩:=Kd.at_string Au.out Ab Af Ag;cases Ap;replace Aa:=keep_cell HK.out Aa (by first|(rw[add_block];exact Ak _ rfl (by omega))|exact Ak _ rfl (by omega)|exact Ak Aj rfl (by omega));replace Af:=ets Af;replace Ag:=ets Ag))
 go_ret
 exact⟨rq1,kI HI0.out,kG HB.out (IsS76.ge HI0.out),kK HK.out⟩
def jU.f (k:Nat) (s0_0:List Int) (s0_1:Int) (s0_2:Int):Option ((List (List Int)) × Int × Int):=(jS.f s0_0 s0_1 s0_2 (([(⟨#[97,98,99,32,65,66,67]⟩:ByteArray),(⟨#[97,98,99,32,65,67,66]⟩:ByteArray),(⟨#[97,98,99,32,65,100,101,32,66,68,102,32,67,70,69]⟩:ByteArray),(⟨#[97,98,67,32,66,100,101,32,99,68,102,32,65,69,70]⟩:ByteArray),(⟨#[97,98,99,32,65,100,101,32,66,102,68,32,67,70,69]⟩:ByteArray),(⟨#[97,98,99,32,65,100,101,32,102,66,103,32,68,69,104,32,67,72,105,32,70,73,71]⟩:ByteArray)]:List ByteArray))).bind fun bt230=>((fN.f k bt230.1).bind fun bt233=>(if(bt233.1.length:Int)=0 then(none) else(some (bt233.1,bt230.2.1,bt230.2.2))))
theorem jU.calls (k:Nat) (g:Nat) (Ab:List Int) (Ac:Int) (Ad:Int) (r1:List (List Int)) (r2:Int) (r3:Int) (w0 w:World) (hI:IsS76 w0 w g Ab Ac Ad) (hB:Below w0.heap.size w0 w) (h:jU.f k Ab Ac Ad=some (r1,r2,r3)):
  Calls Try.prog 71 #[.pointer (some ⟨g,0,none⟩)] w fun e w'=>∃v0_:Value,e= .returned (v0_)∧Kd.S (Kd.slice 3 (Kd.int .i64)) 25 w' w.heap.size (fun _=>True) v0_ r1∧IsS76 w0 w' g Ab r2 r3∧Below w0.heap.size w0 w'∧KeepBut w w' g none:=by
 have HI0:=Az.mk hI
 have HK:=Az.mk (KeepBut.refl w g none)
 have HL:=Az.mk hB.size
 clear hI
 have HW0:=Az.mk hB.size
 have HB:=Az.mk hB
 clear hB
 have H:=h
 unfold jU.f at H
 clear h
 obtain⟨Aj,hy⟩:∃y_:List ByteArray,y_=(([(⟨#[97,98,99,32,65,66,67]⟩:ByteArray),(⟨#[97,98,99,32,65,67,66]⟩:ByteArray),(⟨#[97,98,99,32,65,100,101,32,66,68,102,32,67,70,69]⟩:ByteArray),(⟨#[97,98,67,32,66,100,101,32,99,68,102,32,65,69,70]⟩:ByteArray),(⟨#[97,98,99,32,65,100,101,32,66,102,68,32,67,70,69]⟩:ByteArray),(⟨#[97,98,99,32,65,100,101,32,102,66,103,32,68,69,104,32,67,72,105,32,70,73,71]⟩:ByteArray)]:List ByteArray)):=⟨_,rfl⟩
 replace H:((jS.f Ab Ac Ad Aj).bind fun Ae=>((fN.f k Ae.1).bind fun Ag=>(if(Ag.1.length:Int)=0 then(none) else(some (Ag.1,Ae.2.1,Ae.2.2)))))=some (r1,r2,r3):=rh
 have Ah:=Az.mk hy
 clear hy
 replace H:=bez H
 obtain⟨⟨Ak,Av,Ax⟩,A2,H⟩:=H
 try dsimp only at H
 replace H:=bez H
 obtain⟨⟨Al,Ay⟩,A3,H⟩:=H
 try dsimp only at H
 by_cases c4:(Al.length:Int)=0
 ·rw[ip c4]at H
  exact absurd H (by simp)
 rw[ig c4]at H
 have Bh:=beq_eq_false_iff_ne.mpr c4
 have Bi:=bne_iff_ne.mpr c4
 have Bj:¬(Al=[]):=fun h_=>c4 (by rw[h_];rfl)
 simp only[Option.some.injEq,Prod.mk.injEq]at H
 obtain⟨rfl,rfl,rfl⟩:=H
 go_enter Try.func71,Try.ntmps71
 go_wp2_with (first|((with_reducible refine gtD (N:=7) rfl ?_);refine Kd.R_lit Kd.string _ 9 ?hg (N:=7) ?hd (xs:=([(⟨#[97,98,99,32,65,66,67]⟩:ByteArray),(⟨#[97,98,99,32,65,67,66]⟩:ByteArray),(⟨#[97,98,99,32,65,100,101,32,66,68,102,32,67,70,69]⟩:ByteArray),(⟨#[97,98,67,32,66,100,101,32,99,68,102,32,65,69,70]⟩:ByteArray),(⟨#[97,98,99,32,65,100,101,32,66,102,68,32,67,70,69]⟩:ByteArray),(⟨#[97,98,99,32,65,100,101,32,102,66,103,32,68,69,104,32,67,72,105,32,70,73,71]⟩:ByteArray)]:List ByteArray)) (inner:=[.string (⟨#[97,98,99,32,65,66,67]⟩:ByteArray), .string (⟨#[97,98,99,32,65,67,66]⟩:ByteArray), .string (⟨#[97,98,99,32,65,100,101,32,66,68,102,32,67,70,69]⟩:ByteArray), .string (⟨#[97,98,67,32,66,100,101,32,99,68,102,32,65,69,70]⟩:ByteArray), .string (⟨#[97,98,99,32,65,100,101,32,66,102,68,32,67,70,69]⟩:ByteArray), .string (⟨#[97,98,99,32,65,100,101,32,102,66,103,32,68,69,104,32,67,72,105,32,70,73,71]⟩:ByteArray)]) (ok:=fun _=>True) (okp:=fun _=>True) ?hr ?hp (fun _ hk=>hk) trivial (Below.refl _ _) (Nat.le_refl _) (by simp) ?_;(case hd=>rfl);(case hg=>rfl);(case hr=>first|(go_simp;done)|(go_simp;rfl));(case hp=>exact(Reps.one (show Kd.M Kd.string _ _ _ (⟨#[97,98,99,32,65,66,67]⟩:ByteArray) [.string (⟨#[97,98,99,32,65,66,67]⟩:ByteArray)]from rfl) (Reps.one (show Kd.M Kd.string _ _ _ (⟨#[97,98,99,32,65,67,66]⟩:ByteArray) [.string (⟨#[97,98,99,32,65,67,66]⟩:ByteArray)]from rfl) (Reps.one (show Kd.M Kd.string _ _ _ (⟨#[97,98,99,32,65,100,101,32,66,68,102,32,67,70,69]⟩:ByteArray) [.string (⟨#[97,98,99,32,65,100,101,32,66,68,102,32,67,70,69]⟩:ByteArray)]from rfl) (Reps.one (show Kd.M Kd.string _ _ _ (⟨#[97,98,67,32,66,100,101,32,99,68,102,32,65,69,70]⟩:ByteArray) [.string (⟨#[97,98,67,32,66,100,101,32,99,68,102,32,65,69,70]⟩:ByteArray)]from rfl) (Reps.one (show Kd.M Kd.string _ _ _ (⟨#[97,98,99,32,65,100,101,32,66,102,68,32,67,70,69]⟩:ByteArray) [.string (⟨#[97,98,99,32,65,100,101,32,66,102,68,32,67,70,69]⟩:ByteArray)]from rfl) (Reps.one (show Kd.M Kd.string _ _ _ (⟨#[97,98,99,32,65,100,101,32,102,66,103,32,68,69,104,32,67,72,105,32,70,73,71]⟩:ByteArray) [.string (⟨#[97,98,99,32,65,100,101,32,102,66,103,32,68,69,104,32,67,72,105,32,70,73,71]⟩:ByteArray)]from rfl) (Reps.none _ _))))))));intro Bk Bo Af hb hg_ hnew_;clear hg_ hnew_;(first|rw[←Ah.out]at Af|(simp only[Int.reduceToNat]at Af;rw[←Ah.out]at Af));have Aa:=Az.mk (Kd.R_lower (Kd.R_newM (M:=fun k_=>(w.heap.size≤k_)) Af (keep_size (w:=w) (g:=g) (row:=none) (kK HK.out)) (fun k_ h_=>h_)) (keep_size (w:=w) (g:=g) (row:=none) (kK HK.out)));replace HK:=Az.mk (KeepBut.trans (kK HK.out) (KeepBut.of_below hb g none) (.inl rfl));replace HB:=Az.mk (bwT (kG HB.out (IsS76.ge HI0.out)) hb);replace HI0:=Az.mk (IsS76.below (kI HI0.out) hb);clear hb Af;obtain⟨Ba,Bb,Bc⟩:=Kd.R_slice Aa.out;subst Bc)|((with_reducible refine gtC (f:=77) rfl ?_);refine clz Try.func77 (some 8) #[.pointer (some ⟨g,0,none⟩), .slice Ba Aj.length Bb] ?_;(with_reducible refine(jS.calls g Ab Ac Ad _ _ Aj Ak Av Ax w0 _ ?Am ?Ap ?Aq ?As ?Au A2.out).mono ?_);(case Am=>exact(kI HI0.out));(case Ap=>exact kG HB.out (IsS76.ge HI0.out));(case Aq=>exact kC (Kd.R_reads' Aa.out).2.2);(case As=>exact(Kd.R_reads' Aa.out).2.1);(case Au=>exact far_slice (IsS76.own_ne HI0.out Aa.out (by decide)));rintro e Bp ⟨rfl,hi,hb,hk⟩;refine⟨_,rfl,?_⟩;replace Aa:=Az.mk (Kd.R_mono (Kd.R_keep (IsS76.apart (show IsS76 w0 _ g Ab Ac Ad from kI HI0.out) (kR Aa.out) (by decide)) hk (fun _ h=>h.2)) (fun _ h=>h.1));replace HK:=Az.mk (KeepBut.trans (kK HK.out) hk (.inl rfl));replace HB:=Az.mk (hb);replace HI0:=Az.mk (hi);(try clear hb);(try clear hk);(try clear hi))|((with_reducible refine gtC (f:=76) rfl ?_);refine clz Try.func76 (some 9) #[.string Ak] ?_;(with_reducible refine(fN.calls k Ak Al Ay _ A3.out).mono ?_);rintro e Bq ⟨Bl,rfl,Bf,hb⟩;refine⟨_,rfl,?_⟩;replace Aa:=Az.mk (Kd.R_below (kR Aa.out) hb);have Ai:=Az.mk (Kd.S_lower Bf (keep_size (w:=w) (g:=g) (row:=none) (kK HK.out)));replace HK:=Az.mk (KeepBut.trans (kK HK.out) (KeepBut.of_below hb g none) (.inl rfl));replace HB:=Az.mk (bwT (kG HB.out (IsS76.ge HI0.out)) hb);replace HI0:=Az.mk (IsS76.below (kI HI0.out) hb);(try clear hb);(try clear Bf);obtain⟨Bm,Bn,Bd⟩:=Kd.S_slice Ai.out;subst Bd))
 go_ret
 exact⟨_,rq1,kS Ai.out,kI HI0.out,kG HB.out (IsS76.ge HI0.out),kK HK.out⟩
section
open Bool renaming true → T, false → F
theorem z11_0 {p:Prop} (h:p:=by kernel_rfl):p:=h
theorem bw_11 {n:Nat}{v v':World} (h:Below n v v':=by repeat(first|(with_reducible first|exact HB.out|apply bwA|apply pbN|apply bwD)|exact HB.out)):Below n v v':=h
theorem ln_11 {P:Prop} (h:P:=by(try simp only[List.map_toArray,List.map_cons,List.map_nil]);first|done|rfl|(simp only[List.length_drop,List.length_take];rfl)):P:=h
def fH.l0:Nat→List Int→List Int→List Int→Int→Option (List Int × Bool)
 |0,_,_,_,_=>none
 |k+1,x0,x1,x6,x7=>if x7<(x0.length:Int) then(if 0≤x7 then((gV.f (rd x0 x7) 0 200).bind fun t234=>(if t234=true then(if x7<(x1.length:Int) then((gV.f (rd x1 x7) 0 200).bind fun t236=>(if t236=true then(if(wrap64 ((rd x0 x7)+(rd x1 x7)))>200 then(some ((([]:List Int)),false)) else(if x6.length<17592186044416 then(fH.l0 k x0 x1 (x6 ++ [wrap64 ((rd x0 x7)+(rd x1 x7))]) (wrap64 (x7+1))) else(none))) else(some ((([]:List Int)),false)))) else(none)) else(some ((([]:List Int)),false)))) else(none)) else(some (x6,true))
def fH.f (k:Nat) (l0:List Int) (l1:List Int):Option (List Int × Bool):=if(l0.length:Int)=(l1.length:Int) then(fH.l0 k l0 l1 (([]:List Int)) 0) else(some ((([]:List Int)),false))
def fH.T7:Bool × List (List Nat × List Nat):=(true,[([],[]),([],[]),([0,1],[0,1]),([2],[2]),([3],[3]),([4],[4]),([5,4],[5]),([6],[6]),([6],[6]),([7,8,6],[6,7,8]),([9,6],[6,9]),([10,6,6],[6,10]),([11,6],[6,11]),([6,12],[6,12]),([13,11],[13]),([14],[14]),([14],[14]),([15,16,14],[14,15,16]),([17,14],[14,17]),([14],[14]),([14],[14]),([19,20,14],[14,19,20]),([21,14],[14,21]),([18,22,14],[14,18,22]),([23,14],[14,23]),([14,24],[14,24])])
def fH.B7:List Nat:=[0,0,3,7,15,31,63,127,127,511,1023,2047,4095,8191,16383,32767,32767,131071,262143,32767,32767,1605631,3702783,8388607,16777215,33554431]
theorem fH.tab7:rtab .any (opsOf Try.f72 7)=fH.T7:=by kernel_rfl
theorem fH.bits7:waitsOk fH.T7.2 fH.B7=true:=by kernel_rfl
def fH.T9:Bool × List (List Nat × List Nat):=(true,[([],[]),([],[]),([],[]),([1,2],[1,2]),([3],[3]),([],[]),([],[]),([5,6],[5,6]),([7],[7]),([4,8],[4,8]),([9],[9]),([0,10],[0,10]),([11,11,0,1,2,3,4,5,6,7,8,9,10,11],[0,11])])
def fH.B9:List Nat:=[0,0,0,6,14,0,0,96,224,510,1022,2047,4095]
theorem fH.tab9:rtab .any (opsOf Try.f72 9)=fH.T9:=by kernel_rfl
theorem fH.bits9:waitsOk fH.T9.2 fH.B9=true:=by kernel_rfl
theorem fH.calls (k:Nat) (A0:Option Addr) (c0:Nat) (l0:List Int) (A1:Option Addr) (c1:Nat) (l1:List Int) (r1:List Int) (r2:Bool) (w:World) (Dh:Kd.C (Kd.int .i64) w A0 l0.length l0) (Di:l0.length≤c0) (Dj:Kd.C (Kd.int .i64) w A1 l1.length l1) (Dk:l1.length≤c1) (h:fH.f k l0 l1=some (r1,r2)):
  Calls Try.prog 72 #[.slice A0 l0.length c0, .slice A1 l1.length c1] w fun e w'=>∃v0_:Value,e= .returned (.tuple #[v0_, .bool r2])∧Kd.R (Kd.int .i64) 3 w' w.heap.size (fun _=>True) v0_ r1∧Below w.heap.size w w':=by
 have Bt:=Az.mk Dh
 have Dt:=Az.mk Di
 clear Dh Di
 have Ca:=Az.mk Dj
 have Du:=Az.mk Dk
 clear Dj Dk
 have HB:=Az.mk (Below.refl w.heap.size w)
 have H:=h
 unfold fH.f at H
 clear h
 by_cases c3:(l0.length:Int)=(l1.length:Int)
 rotate_left
 ·rw[ig c3]at H
  have Cd:=beq_eq_false_iff_ne.mpr c3
  have Ce:=bne_iff_ne.mpr c3
  have Cf:(l0.length== l1.length)=false:=by first|simpa using c3|(simp at c3 ⊢;omega)
  obtain⟨Cw,hy⟩:∃y_:List Int,y_=(([]:List Int)):=⟨_,rfl⟩
  replace H:(some (Cw,false))=some (r1,r2):=rh
  have Bo:=Az.mk hy
  clear hy
  simp only[Option.some.injEq,Prod.mk.injEq]at H
  obtain⟨rfl,rfl⟩:=H
  go_enter Try.func72,Try.ntmps72
  go_wp2_with (first|((with_reducible refine gtD (N:=13) rfl ?_);refine Kd.R_lit (Kd.int .i64) _ 3 ?hg (N:=13) ?hd (xs:=([]:List Int)) (inner:=[]) (ok:=fun _=>True) (okp:=fun _=>True) ?hr ?hp (fun _ hk=>hk) trivial (Below.refl _ _) (Nat.le_refl _) (by simp) ?_;(case hd=>rfl);(case hg=>rfl);(case hr=>first|(go_simp;done)|(go_simp;rfl));(case hp=>exact(Reps.none _ _));intro Dm Dv Bk hb hg_ hnew_;clear hg_ hnew_;(first|rw[←Bo.out]at Bk|(simp only[Int.reduceToNat]at Bk;rw[←Bo.out]at Bk));have Cg:=Az.mk (Kd.R_lower Bk (bwZ bw_11));replace HB:=Az.mk (bwT bw_11 hb);clear hb Bk))
  go_ret2
  exact⟨_,rq1,kR Cg.out,bw_11⟩
 rw[ip c3]at H
 have Cd:=beq_iff_eq.mpr c3
 have Ce:=bne_eq_false_iff_eq.mpr c3
 have Cf:(l0.length== l1.length)=true:=by first|simpa using c3|(simp at c3 ⊢;omega)
 clear c3
 obtain⟨Ch,hy⟩:∃y_:List Int,y_=(([]:List Int)):=⟨_,rfl⟩
 replace H:(fH.l0 k l0 l1 Ch 0)=some (r1,r2):=rh
 have Bp:=Az.mk hy
 clear hy
 have H':=Az.mk H
 clear H
 go_enter Try.func72,Try.ntmps72
 go_wp2_with (first|((with_reducible refine gtD (N:=14) rfl ?_);refine Kd.R_lit (Kd.int .i64) _ 3 ?hg (N:=14) ?hd (xs:=([]:List Int)) (inner:=[]) (ok:=fun _=>True) (okp:=fun _=>True) ?hr ?hp (fun _ hk=>hk) trivial (Below.refl _ _) (Nat.le_refl _) (by simp) ?_;(case hd=>rfl);(case hg=>rfl);(case hr=>first|(go_simp;done)|(go_simp;rfl));(case hp=>exact(Reps.none _ _));intro Dn w4 Ci hb hg_ hnew_;clear hg_ hnew_;(first|rw[←Bp.out]at Ci|(simp only[Int.reduceToNat]at Ci;rw[←Bp.out]at Ci));have Cj:=Az.mk (Kd.R_lower Ci (bwZ bw_11));replace HB:=Az.mk (bwT bw_11 hb);clear hb Ci))
 go_loopg [6,7] k (fun kq v6 v7 w'=>∃(Ay:List Int) (Aa:Int),v7= .int .i64 Aa∧Az (fH.l0 kq l0 l1 Ay Aa=some (r1,r2))∧Az (kq≤k)∧Az (Kd.R (Kd.int .i64) 3 w' w.heap.size (fun _=>True) v6 Ay)∧Az (Below w.heap.size w w'))
 case atStart=>exact⟨(Ch),(0),rq2,H',⟨Nat.le_refl _⟩,⟨kR Cj.out⟩,⟨bw_11⟩⟩
 clear H'
 try clear c1
 try clear c3
 try clear Cd
 try clear Ce
 try clear Cf
 obtain⟨Ay,Aa,rfl,HA,HK1,HO_6,HB⟩:=hrel
 cases gk with
 |zero=>exact absurd HA.out (by simp[fH.l0])
 |succ k1=>
  have H:=HA.out
  clear HA
  simp only[fH.l0]at H
  by_cases c6:Aa<(l0.length:Int)
  rotate_left
  ·rw[ig c6]at H
   have Cy:=decide_eq_false c6
   clear c6
   simp only[Option.some.injEq,Prod.mk.injEq]at H
   obtain⟨rfl,rfl⟩:=H
   go_wp2
   go_ret2
   exact⟨_,rq1,kR HO_6.out,bw_11⟩
  rw[ip c6]at H
  have Cy:=ode c6
  clear c6
  by_cases c7:0≤Aa
  rotate_left
  ·rw[ig c7]at H
   exact absurd H (by simp)
  rw[ip c7]at H
  have Do:=ode c7
  clear c7
  replace H:=bez H
  obtain⟨Cz,A8,H⟩:=H
  try dsimp only at H
  by_cases c9:Cz=true
  rotate_left
  ·replace c9:=Bool.eq_false_iff.mpr c9
   subst c9
   rw[ig ff]at H
   obtain⟨Da,hy⟩:∃y_:List Int,y_=(([]:List Int)):=⟨_,rfl⟩
   replace H:(some (Da,false))=some (r1,r2):=rh
   have Bq:=Az.mk hy
   clear hy
   simp only[Option.some.injEq,Prod.mk.injEq]at H
   obtain⟨rfl,rfl⟩:=H
   try go_wp2
   replace HO_6:=Az.mk (Kd.R_drew HO_6.out);replace HB:=Az.mk (bwD HB.out)
   have Al:0≤(Aa:Int):=od
   have Am:Aa<(l0.length:Int):=od
   obtain⟨Ah,Ba,Ab⟩:=Kd.at_int Bt.out Aa Al Am
   have Ac:=Ab
   cases Ba
   replace Ab:=kc HB Ab
   replace Al:=ets Al
   replace Am:=ets Am
   refine start_ (n:=26) (S:=fun w'=>w'.cell? (Ah.add (Aa).toNat)=some (.int .i64 (rd l0 Aa))) (ds:=[]) #[F,F,F,F,F,F,F,F,F,F,F,F,F,F,F,F,F,F,F,F,F,F,F,F,F,F] z11_0 rfl rfl ((kc HB Ac)) (fun hHeld=>?_);refine with_tabW fH.tab7 fH.bits7 (fun HT_ HW_=>?_)
   generalize wr.drew=Dw at HO_6 HB Ab hHeld ⊢
   refine pu (i:=0) (N:=some 21) #[T,F,F,F,F,F,F,F,F,F,F,F,F,F,F,F,F,F,F,F,F,F,F,F,F,F] (any_of HT_.out z11_0) ?_
   refine pu (i:=1) (N:=some 22) #[T,T,F,F,F,F,F,F,F,F,F,F,F,F,F,F,F,F,F,F,F,F,F,F,F,F] (any_of HT_.out z11_0) ?_
   refine pu (i:=2) (N:=some 23) #[T,T,T,F,F,F,F,F,F,F,F,F,F,F,F,F,F,F,F,F,F,F,F,F,F,F] (any_of HT_.out z11_0) ?_
   refine take_ (i:=3) (N:=some 24) (v:=?_) (a':=?_) #[T,T,T,T,F,F,F,F,F,F,F,F,F,F,F,F,F,F,F,F,F,F,F,F,F,F] rfl rfl (take_ofW HT_.out HW_.out z11_0) (fun _ _ _ h=>h) (Or.inl ⟨by rfl,?_⟩) hHeld ?_ ?_
   rotate_left
   ·intro w' s0
    go_simp
    with_reducible rfl
   rotate_left
   ·exact acq
   refine one_ (i:=4) (N:=some 25) #[T,T,T,T,T,F,F,F,F,F,F,F,F,F,F,F,F,F,F,F,F,F,F,F,F,F] rfl rfl (one_of HT_.out z11_0) (by decide) (fun K hK=>?_)
   refine goes_ Try.func52 z11_0 rfl #[.int .i64 (rd l0 Aa), .int .i64 0, .int .i64 200] (by rfl) rfl rfl ln_11 ?_
   with_reducible refine(gV.calls (rd l0 Aa) 0 200 false _ A8.out).mono ?_
   rintro e w' ⟨rfl,⟨nd,rfl⟩⟩
   refine⟨_,rfl,?_⟩
   refine hK.out _ _ ((kc HB Ac)) (fun hHeld=>?_)
   clear hK K
   refine norm_ (a':=?_) ?_ ?_
   rotate_left
   ·show Act.put _ (some 25) _=_
    exact acq
   refine pu (i:=5) (N:=some 26) #[T,T,T,T,T,T,F,F,F,F,F,F,F,F,F,F,F,F,F,F,F,F,F,F,F,F] (any_of HT_.out z11_0) ?_
   refine pu (i:=6) (N:=some 27) #[T,T,T,T,T,T,T,F,F,F,F,F,F,F,F,F,F,F,F,F,F,F,F,F,F,F] (any_of HT_.out z11_0) ?_
   refine pure_ (i:=7) (N:=some 28) (v:=undef) (a':=?_) #[T,T,T,T,T,T,T,T,F,F,F,F,F,F,F,F,F,F,F,F,F,F,F,F,F,F] rfl rfl (any_of HT_.out z11_0) (fun _ _ _ h=>h) (Or.inr ⟨by rfl,rfl⟩) ?_ ?_
   rotate_left
   ·exact acq
   refine pure_ (i:=8) (N:=some 29) (v:=undef) (a':=?_) #[T,T,T,T,T,T,T,T,T,F,F,F,F,F,F,F,F,F,F,F,F,F,F,F,F,F] rfl rfl (any_of HT_.out z11_0) (fun _ _ _ h=>h) (Or.inr ⟨by rfl,rfl⟩) ?_ ?_
   rotate_left
   ·exact acq
   refine pure_ (i:=9) (N:=some 30) (v:=undef) (a':=?_) #[T,T,T,T,T,T,T,T,T,T,F,F,F,F,F,F,F,F,F,F,F,F,F,F,F,F] rfl rfl (any_of HT_.out z11_0) (fun _ _ _ h=>h) (Or.inr ⟨by rfl,rfl⟩) ?_ ?_
   rotate_left
   ·exact acq
   refine pure_ (i:=10) (N:=some 31) (v:=undef) (a':=?_) #[T,T,T,T,T,T,T,T,T,T,T,F,F,F,F,F,F,F,F,F,F,F,F,F,F,F] rfl rfl (any_of HT_.out z11_0) (fun _ _ _ h=>h) (Or.inr ⟨by rfl,rfl⟩) ?_ ?_
   rotate_left
   ·exact acq
   refine pure_ (i:=11) (N:=some 32) (v:=undef) (a':=?_) #[T,T,T,T,T,T,T,T,T,T,T,T,F,F,F,F,F,F,F,F,F,F,F,F,F,F] rfl rfl (any_of HT_.out z11_0) (fun _ _ _ h=>h) (Or.inr ⟨by rfl,rfl⟩) ?_ ?_
   rotate_left
   ·exact acq
   refine pure_ (i:=12) (N:=some 33) (v:=undef) (a':=?_) #[T,T,T,T,T,T,T,T,T,T,T,T,T,F,F,F,F,F,F,F,F,F,F,F,F,F] rfl rfl (any_of HT_.out z11_0) (fun _ _ _ h=>h) (Or.inr ⟨by rfl,rfl⟩) ?_ ?_
   rotate_left
   ·exact acq
   refine pu (i:=13) (N:=some 34) #[T,T,T,T,T,T,T,T,T,T,T,T,T,T,F,F,F,F,F,F,F,F,F,F,F,F] (any_of HT_.out z11_0) ?_
   refine pu (i:=14) (N:=some 35) #[T,T,T,T,T,T,T,T,T,T,T,T,T,T,T,F,F,F,F,F,F,F,F,F,F,F] (any_of HT_.out z11_0) ?_
   refine pure_ (i:=15) (N:=some 36) (v:=undef) (a':=?_) #[T,T,T,T,T,T,T,T,T,T,T,T,T,T,T,T,F,F,F,F,F,F,F,F,F,F] rfl rfl (any_of HT_.out z11_0) (fun _ _ _ h=>h) (Or.inr ⟨by rfl,rfl⟩) ?_ ?_
   rotate_left
   ·exact acq
   refine pure_ (i:=16) (N:=some 37) (v:=undef) (a':=?_) #[T,T,T,T,T,T,T,T,T,T,T,T,T,T,T,T,T,F,F,F,F,F,F,F,F,F] rfl rfl (any_of HT_.out z11_0) (fun _ _ _ h=>h) (Or.inr ⟨by rfl,rfl⟩) ?_ ?_
   rotate_left
   ·exact acq
   refine pure_ (i:=17) (N:=some 38) (v:=undef) (a':=?_) #[T,T,T,T,T,T,T,T,T,T,T,T,T,T,T,T,T,T,F,F,F,F,F,F,F,F] rfl rfl (any_of HT_.out z11_0) (fun _ _ _ h=>h) (Or.inr ⟨by rfl,rfl⟩) ?_ ?_
   rotate_left
   ·exact acq
   refine pure_ (i:=18) (N:=some 39) (v:=undef) (a':=?_) #[T,T,T,T,T,T,T,T,T,T,T,T,T,T,T,T,T,T,T,F,F,F,F,F,F,F] rfl rfl (any_of HT_.out z11_0) (fun _ _ _ h=>h) (Or.inr ⟨by rfl,rfl⟩) ?_ ?_
   rotate_left
   ·exact acq
   refine pure_ (i:=19) (N:=some 40) (v:=undef) (a':=?_) #[T,T,T,T,T,T,T,T,T,T,T,T,T,T,T,T,T,T,T,T,F,F,F,F,F,F] rfl rfl (any_of HT_.out z11_0) (fun _ _ _ h=>h) (Or.inr ⟨by rfl,rfl⟩) ?_ ?_
   rotate_left
   ·exact acq
   refine pure_ (i:=20) (N:=some 41) (v:=undef) (a':=?_) #[T,T,T,T,T,T,T,T,T,T,T,T,T,T,T,T,T,T,T,T,T,F,F,F,F,F] rfl rfl (any_of HT_.out z11_0) (fun _ _ _ h=>h) (Or.inr ⟨by rfl,rfl⟩) ?_ ?_
   rotate_left
   ·exact acq
   refine pure_ (i:=21) (N:=some 42) (v:=undef) (a':=?_) #[T,T,T,T,T,T,T,T,T,T,T,T,T,T,T,T,T,T,T,T,T,T,F,F,F,F] rfl rfl (any_of HT_.out z11_0) (fun _ _ _ h=>h) (Or.inr ⟨by rfl,rfl⟩) ?_ ?_
   rotate_left
   ·exact acq
   refine pure_ (i:=22) (N:=some 43) (v:=undef) (a':=?_) #[T,T,T,T,T,T,T,T,T,T,T,T,T,T,T,T,T,T,T,T,T,T,T,F,F,F] rfl rfl (any_of HT_.out z11_0) (fun _ _ _ h=>h) (Or.inr ⟨by rfl,rfl⟩) ?_ ?_
   rotate_left
   ·exact acq
   refine pure_ (i:=23) (N:=some 44) (v:=undef) (a':=?_) #[T,T,T,T,T,T,T,T,T,T,T,T,T,T,T,T,T,T,T,T,T,T,T,T,F,F] rfl rfl (any_of HT_.out z11_0) (fun _ _ _ h=>h) (Or.inr ⟨by rfl,rfl⟩) ?_ ?_
   rotate_left
   ·exact acq
   refine pure_ (i:=24) (N:=some 45) (v:=undef) (a':=?_) #[T,T,T,T,T,T,T,T,T,T,T,T,T,T,T,T,T,T,T,T,T,T,T,T,T,F] rfl rfl (any_of HT_.out z11_0) (fun _ _ _ h=>h) (Or.inr ⟨by rfl,rfl⟩) ?_ ?_
   rotate_left
   ·exact acq
   refine pu (i:=25) (N:=some 46) #[T,T,T,T,T,T,T,T,T,T,T,T,T,T,T,T,T,T,T,T,T,T,T,T,T,T] (any_of HT_.out z11_0) ?_
   refine done_ (done_of HT_.out z11_0) ?_
   try go_wp2_with (first|((with_reducible refine gtD (N:=47) rfl ?_);refine Kd.R_lit (Kd.int .i64) _ 3 ?hg (N:=47) ?hd (xs:=([]:List Int)) (inner:=[]) (ok:=fun _=>True) (okp:=fun _=>True) ?hr ?hp (fun _ hk=>hk) trivial (Below.refl _ _) (Nat.le_refl _) (by simp) ?_;(case hd=>rfl);(case hg=>rfl);(case hr=>first|(go_simp;done)|(go_simp;rfl));(case hp=>exact(Reps.none _ _));intro Dp Dx Bh hb hg_ hnew_;clear hg_ hnew_;(first|rw[←Bq.out]at Bh|(simp only[Int.reduceToNat]at Bh;rw[←Bq.out]at Bh));have Ck:=Az.mk (Kd.R_lower (Kd.R_new' Bh (Kd.R_lt (kR HO_6.out))) (bwZ bw_11));replace HO_6:=Az.mk (Kd.R_elder' (kR HO_6.out) (Kd.R_base Bh) hb);replace HB:=Az.mk (bwT bw_11 hb);clear hb Bh))
   go_ret2
   exact⟨_,rq1,by(with_reducible repeat(first|apply Kd.R_alloc|apply Kd.R_drewN|apply Kd.R_drew));exact Kd.R_mono Ck.out (fun _ hk=>trivial),bw_11⟩
  subst c9
  rw[ip rfl]at H
  by_cases Ct:Aa<(l1.length:Int)
  rotate_left
  ·rw[ig Ct]at H
   exact absurd H (by simp)
  rw[ip Ct]at H
  have Dl:=ode Ct
  clear Ct
  replace H:=bez H
  obtain⟨Db,Dc,H⟩:=H
  try dsimp only at H
  by_cases Cu:Db=true
  rotate_left
  ·replace Cu:=Bool.eq_false_iff.mpr Cu
   subst Cu
   rw[ig ff]at H
   obtain⟨Dd,hy⟩:∃y_:List Int,y_=(([]:List Int)):=⟨_,rfl⟩
   replace H:(some (Dd,false))=some (r1,r2):=rh
   have Br:=Az.mk hy
   clear hy
   simp only[Option.some.injEq,Prod.mk.injEq]at H
   obtain⟨rfl,rfl⟩:=H
   try go_wp2
   replace HO_6:=Az.mk (Kd.R_drew HO_6.out);replace HB:=Az.mk (bwD HB.out)
   have Al:0≤(Aa:Int):=od
   have Am:Aa<(l0.length:Int):=od
   obtain⟨Ah,Ba,Ab⟩:=Kd.at_int Bt.out Aa Al Am
   have Ac:=Ab
   cases Ba
   replace Ab:=kc HB Ab
   replace Al:=ets Al
   replace Am:=ets Am
   have Av:0≤(Aa:Int):=od
   have Ax:Aa<(l1.length:Int):=od
   obtain⟨Ak,Bl,Ad⟩:=Kd.at_int Ca.out Aa Av Ax
   have Ae:=Ad
   cases Bl
   replace Ad:=kc HB Ad
   replace Av:=ets Av
   replace Ax:=ets Ax
   refine start_ (n:=26) (S:=fun w'=>w'.cell? (Ah.add (Aa).toNat)=some (.int .i64 (rd l0 Aa))∧w'.cell? (Ak.add (Aa).toNat)=some (.int .i64 (rd l1 Aa))) (ds:=[]) #[F,F,F,F,F,F,F,F,F,F,F,F,F,F,F,F,F,F,F,F,F,F,F,F,F,F] z11_0 rfl rfl ⟨(kc HB Ac),(kc HB Ae)⟩ (fun hHeld=>?_);refine with_tabW fH.tab7 fH.bits7 (fun HT_ HW_=>?_)
   generalize wr.drew=Dy at HO_6 HB Ab Ad hHeld ⊢
   refine pu (i:=0) (N:=some 21) #[T,F,F,F,F,F,F,F,F,F,F,F,F,F,F,F,F,F,F,F,F,F,F,F,F,F] (any_of HT_.out z11_0) ?_
   refine pu (i:=1) (N:=some 22) #[T,T,F,F,F,F,F,F,F,F,F,F,F,F,F,F,F,F,F,F,F,F,F,F,F,F] (any_of HT_.out z11_0) ?_
   refine pu (i:=2) (N:=some 23) #[T,T,T,F,F,F,F,F,F,F,F,F,F,F,F,F,F,F,F,F,F,F,F,F,F,F] (any_of HT_.out z11_0) ?_
   refine take_ (i:=3) (N:=some 24) (v:=?_) (a':=?_) #[T,T,T,T,F,F,F,F,F,F,F,F,F,F,F,F,F,F,F,F,F,F,F,F,F,F] rfl rfl (take_ofW HT_.out HW_.out z11_0) (fun _ _ _ h=>h) (Or.inl ⟨by rfl,?_⟩) hHeld ?_ ?_
   rotate_left
   ·rintro w' ⟨s0,s1⟩
    go_simp
    with_reducible rfl
   rotate_left
   ·exact acq
   refine one_ (i:=4) (N:=some 25) #[T,T,T,T,T,F,F,F,F,F,F,F,F,F,F,F,F,F,F,F,F,F,F,F,F,F] rfl rfl (one_of HT_.out z11_0) (by decide) (fun K hK=>?_)
   refine goes_ Try.func52 z11_0 rfl #[.int .i64 (rd l0 Aa), .int .i64 0, .int .i64 200] (by rfl) rfl rfl ln_11 ?_
   with_reducible refine(gV.calls (rd l0 Aa) 0 200 true _ A8.out).mono ?_
   rintro e w' ⟨rfl,⟨nd,rfl⟩⟩
   refine⟨_,rfl,?_⟩
   refine hK.out _ _ ⟨(kc HB Ac),(kc HB Ae)⟩ (fun hHeld=>?_)
   clear hK K
   refine norm_ (a':=?_) ?_ ?_
   rotate_left
   ·show Act.put _ (some 25) _=_
    exact acq
   refine pu (i:=5) (N:=some 26) #[T,T,T,T,T,T,F,F,F,F,F,F,F,F,F,F,F,F,F,F,F,F,F,F,F,F] (any_of HT_.out z11_0) ?_
   refine pu (i:=6) (N:=some 27) #[T,T,T,T,T,T,T,F,F,F,F,F,F,F,F,F,F,F,F,F,F,F,F,F,F,F] (any_of HT_.out z11_0) ?_
   refine pu (i:=7) (N:=some 28) #[T,T,T,T,T,T,T,T,F,F,F,F,F,F,F,F,F,F,F,F,F,F,F,F,F,F] (any_of HT_.out z11_0) ?_
   refine pu (i:=8) (N:=some 29) #[T,T,T,T,T,T,T,T,T,F,F,F,F,F,F,F,F,F,F,F,F,F,F,F,F,F] (any_of HT_.out z11_0) ?_
   refine pu (i:=9) (N:=some 30) #[T,T,T,T,T,T,T,T,T,T,F,F,F,F,F,F,F,F,F,F,F,F,F,F,F,F] (any_of HT_.out z11_0) ?_
   refine take_ (i:=10) (N:=some 31) (v:=?_) (a':=?_) #[T,T,T,T,T,T,T,T,T,T,T,F,F,F,F,F,F,F,F,F,F,F,F,F,F,F] rfl rfl (take_ofW HT_.out HW_.out z11_0) (fun _ _ _ h=>h) (Or.inl ⟨by rfl,?_⟩) hHeld ?_ ?_
   rotate_left
   ·rintro w' ⟨s0,s1⟩
    go_simp
    with_reducible rfl
   rotate_left
   ·exact acq
   refine one_ (i:=11) (N:=some 32) #[T,T,T,T,T,T,T,T,T,T,T,T,F,F,F,F,F,F,F,F,F,F,F,F,F,F] rfl rfl (one_of HT_.out z11_0) (by decide) (fun K hK=>?_)
   refine goes_ Try.func52 z11_0 rfl #[.int .i64 (rd l1 Aa), .int .i64 0, .int .i64 200] (by rfl) rfl rfl ln_11 ?_
   with_reducible refine(gV.calls (rd l1 Aa) 0 200 false _ Dc.out).mono ?_
   rintro e w' ⟨rfl,⟨nd,rfl⟩⟩
   refine⟨_,rfl,?_⟩
   refine hK.out _ _ ⟨(kc HB Ac),(kc HB Ae)⟩ (fun hHeld=>?_)
   clear hK K
   refine norm_ (a':=?_) ?_ ?_
   rotate_left
   ·show Act.put _ (some 32) _=_
    exact acq
   refine pu (i:=12) (N:=some 33) #[T,T,T,T,T,T,T,T,T,T,T,T,T,F,F,F,F,F,F,F,F,F,F,F,F,F] (any_of HT_.out z11_0) ?_
   refine pu (i:=13) (N:=some 34) #[T,T,T,T,T,T,T,T,T,T,T,T,T,T,F,F,F,F,F,F,F,F,F,F,F,F] (any_of HT_.out z11_0) ?_
   refine pu (i:=14) (N:=some 35) #[T,T,T,T,T,T,T,T,T,T,T,T,T,T,T,F,F,F,F,F,F,F,F,F,F,F] (any_of HT_.out z11_0) ?_
   refine pure_ (i:=15) (N:=some 36) (v:=undef) (a':=?_) #[T,T,T,T,T,T,T,T,T,T,T,T,T,T,T,T,F,F,F,F,F,F,F,F,F,F] rfl rfl (any_of HT_.out z11_0) (fun _ _ _ h=>h) (Or.inr ⟨by rfl,rfl⟩) ?_ ?_
   rotate_left
   ·exact acq
   refine pure_ (i:=16) (N:=some 37) (v:=undef) (a':=?_) #[T,T,T,T,T,T,T,T,T,T,T,T,T,T,T,T,T,F,F,F,F,F,F,F,F,F] rfl rfl (any_of HT_.out z11_0) (fun _ _ _ h=>h) (Or.inr ⟨by rfl,rfl⟩) ?_ ?_
   rotate_left
   ·exact acq
   refine pure_ (i:=17) (N:=some 38) (v:=undef) (a':=?_) #[T,T,T,T,T,T,T,T,T,T,T,T,T,T,T,T,T,T,F,F,F,F,F,F,F,F] rfl rfl (any_of HT_.out z11_0) (fun _ _ _ h=>h) (Or.inr ⟨by rfl,rfl⟩) ?_ ?_
   rotate_left
   ·exact acq
   refine pure_ (i:=18) (N:=some 39) (v:=undef) (a':=?_) #[T,T,T,T,T,T,T,T,T,T,T,T,T,T,T,T,T,T,T,F,F,F,F,F,F,F] rfl rfl (any_of HT_.out z11_0) (fun _ _ _ h=>h) (Or.inr ⟨by rfl,rfl⟩) ?_ ?_
   rotate_left
   ·exact acq
   refine pure_ (i:=19) (N:=some 40) (v:=undef) (a':=?_) #[T,T,T,T,T,T,T,T,T,T,T,T,T,T,T,T,T,T,T,T,F,F,F,F,F,F] rfl rfl (any_of HT_.out z11_0) (fun _ _ _ h=>h) (Or.inr ⟨by rfl,rfl⟩) ?_ ?_
   rotate_left
   ·exact acq
   refine pure_ (i:=20) (N:=some 41) (v:=undef) (a':=?_) #[T,T,T,T,T,T,T,T,T,T,T,T,T,T,T,T,T,T,T,T,T,F,F,F,F,F] rfl rfl (any_of HT_.out z11_0) (fun _ _ _ h=>h) (Or.inr ⟨by rfl,rfl⟩) ?_ ?_
   rotate_left
   ·exact acq
   refine pure_ (i:=21) (N:=some 42) (v:=undef) (a':=?_) #[T,T,T,T,T,T,T,T,T,T,T,T,T,T,T,T,T,T,T,T,T,T,F,F,F,F] rfl rfl (any_of HT_.out z11_0) (fun _ _ _ h=>h) (Or.inr ⟨by rfl,rfl⟩) ?_ ?_
   rotate_left
   ·exact acq
   refine pure_ (i:=22) (N:=some 43) (v:=undef) (a':=?_) #[T,T,T,T,T,T,T,T,T,T,T,T,T,T,T,T,T,T,T,T,T,T,T,F,F,F] rfl rfl (any_of HT_.out z11_0) (fun _ _ _ h=>h) (Or.inr ⟨by rfl,rfl⟩) ?_ ?_
   rotate_left
   ·exact acq
   refine pure_ (i:=23) (N:=some 44) (v:=undef) (a':=?_) #[T,T,T,T,T,T,T,T,T,T,T,T,T,T,T,T,T,T,T,T,T,T,T,T,F,F] rfl rfl (any_of HT_.out z11_0) (fun _ _ _ h=>h) (Or.inr ⟨by rfl,rfl⟩) ?_ ?_
   rotate_left
   ·exact acq
   refine pure_ (i:=24) (N:=some 45) (v:=undef) (a':=?_) #[T,T,T,T,T,T,T,T,T,T,T,T,T,T,T,T,T,T,T,T,T,T,T,T,T,F] rfl rfl (any_of HT_.out z11_0) (fun _ _ _ h=>h) (Or.inr ⟨by rfl,rfl⟩) ?_ ?_
   rotate_left
   ·exact acq
   refine pu (i:=25) (N:=some 46) #[T,T,T,T,T,T,T,T,T,T,T,T,T,T,T,T,T,T,T,T,T,T,T,T,T,T] (any_of HT_.out z11_0) ?_
   refine done_ (done_of HT_.out z11_0) ?_
   try go_wp2_with (first|((with_reducible refine gtD (N:=47) rfl ?_);refine Kd.R_lit (Kd.int .i64) _ 3 ?hg (N:=47) ?hd (xs:=([]:List Int)) (inner:=[]) (ok:=fun _=>True) (okp:=fun _=>True) ?hr ?hp (fun _ hk=>hk) trivial (Below.refl _ _) (Nat.le_refl _) (by simp) ?_;(case hd=>rfl);(case hg=>rfl);(case hr=>first|(go_simp;done)|(go_simp;rfl));(case hp=>exact(Reps.none _ _));intro Dq Dz Bi hb hg_ hnew_;clear hg_ hnew_;(first|rw[←Br.out]at Bi|(simp only[Int.reduceToNat]at Bi;rw[←Br.out]at Bi));have Cl:=Az.mk (Kd.R_lower (Kd.R_new' Bi (Kd.R_lt (kR HO_6.out))) (bwZ bw_11));replace HO_6:=Az.mk (Kd.R_elder' (kR HO_6.out) (Kd.R_base Bi) hb);replace HB:=Az.mk (bwT bw_11 hb);clear hb Bi))
   go_ret2
   exact⟨_,rq1,by(with_reducible repeat(first|apply Kd.R_alloc|apply Kd.R_drewN|apply Kd.R_drew));exact Kd.R_mono Cl.out (fun _ hk=>trivial),bw_11⟩
  subst Cu
  rw[ip rfl]at H
  by_cases Cb:(wrap64 ((rd l0 Aa)+(rd l1 Aa)))>200
  ·rw[ip Cb]at H
   have Cm:decide (200<(wrap64 ((rd l0 Aa)+(rd l1 Aa))))=true:=ode Cb
   clear Cb
   obtain⟨De,hy⟩:∃y_:List Int,y_=(([]:List Int)):=⟨_,rfl⟩
   replace H:(some (De,false))=some (r1,r2):=rh
   have Bs:=Az.mk hy
   clear hy
   simp only[Option.some.injEq,Prod.mk.injEq]at H
   obtain⟨rfl,rfl⟩:=H
   try go_wp2
   replace HO_6:=Az.mk (Kd.R_drew HO_6.out);replace HB:=Az.mk (bwD HB.out)
   have Al:0≤(Aa:Int):=od
   have Am:Aa<(l0.length:Int):=od
   obtain⟨Ah,Ba,Ab⟩:=Kd.at_int Bt.out Aa Al Am
   have Ac:=Ab
   cases Ba
   replace Ab:=kc HB Ab
   replace Al:=ets Al
   replace Am:=ets Am
   have Av:0≤(Aa:Int):=od
   have Ax:Aa<(l1.length:Int):=od
   obtain⟨Ak,Bl,Ad⟩:=Kd.at_int Ca.out Aa Av Ax
   have Ae:=Ad
   cases Bl
   replace Ad:=kc HB Ad
   replace Av:=ets Av
   replace Ax:=ets Ax
   have Bb:0≤(Aa:Int):=od
   have Bc:Aa<(l0.length:Int):=od
   obtain⟨Bm,Bu,Af⟩:=Kd.at_int Bt.out Aa Bb Bc
   have Ai:=Af
   obtain rfl:Ah=Bm:=(by injection Bu)
   replace Af:=kc HB Af
   replace Bb:=ets Bb
   replace Bc:=ets Bc
   have Bd:0≤(Aa:Int):=od
   have Bf:Aa<(l1.length:Int):=od
   obtain⟨Bn,Bv,Ag⟩:=Kd.at_int Ca.out Aa Bd Bf
   have Aj:=Ag
   obtain rfl:Ak=Bn:=(by injection Bv)
   replace Ag:=kc HB Ag
   replace Bd:=ets Bd
   replace Bf:=ets Bf
   refine start_ (n:=26) (S:=fun w'=>w'.cell? (Ah.add (Aa).toNat)=some (.int .i64 (rd l0 Aa))∧w'.cell? (Ak.add (Aa).toNat)=some (.int .i64 (rd l1 Aa))∧w'.cell? (Ah.add (Aa).toNat)=some (.int .i64 (rd l0 Aa))∧w'.cell? (Ak.add (Aa).toNat)=some (.int .i64 (rd l1 Aa))) (ds:=[]) #[F,F,F,F,F,F,F,F,F,F,F,F,F,F,F,F,F,F,F,F,F,F,F,F,F,F] z11_0 rfl rfl ⟨(kc HB Ac),(kc HB Ae),(kc HB Ai),(kc HB Aj)⟩ (fun hHeld=>?_);refine with_tabW fH.tab7 fH.bits7 (fun HT_ HW_=>?_)
   generalize wr.drew=Ea at HO_6 HB Ab Ad Af Ag hHeld ⊢
   refine pu (i:=0) (N:=some 21) #[T,F,F,F,F,F,F,F,F,F,F,F,F,F,F,F,F,F,F,F,F,F,F,F,F,F] (any_of HT_.out z11_0) ?_
   refine pu (i:=1) (N:=some 22) #[T,T,F,F,F,F,F,F,F,F,F,F,F,F,F,F,F,F,F,F,F,F,F,F,F,F] (any_of HT_.out z11_0) ?_
   refine pu (i:=2) (N:=some 23) #[T,T,T,F,F,F,F,F,F,F,F,F,F,F,F,F,F,F,F,F,F,F,F,F,F,F] (any_of HT_.out z11_0) ?_
   refine take_ (i:=3) (N:=some 24) (v:=?_) (a':=?_) #[T,T,T,T,F,F,F,F,F,F,F,F,F,F,F,F,F,F,F,F,F,F,F,F,F,F] rfl rfl (take_ofW HT_.out HW_.out z11_0) (fun _ _ _ h=>h) (Or.inl ⟨by rfl,?_⟩) hHeld ?_ ?_
   rotate_left
   ·rintro w' ⟨s0,s1,s2,s3⟩
    go_simp
    with_reducible rfl
   rotate_left
   ·exact acq
   refine one_ (i:=4) (N:=some 25) #[T,T,T,T,T,F,F,F,F,F,F,F,F,F,F,F,F,F,F,F,F,F,F,F,F,F] rfl rfl (one_of HT_.out z11_0) (by decide) (fun K hK=>?_)
   refine goes_ Try.func52 z11_0 rfl #[.int .i64 (rd l0 Aa), .int .i64 0, .int .i64 200] (by rfl) rfl rfl ln_11 ?_
   with_reducible refine(gV.calls (rd l0 Aa) 0 200 true _ A8.out).mono ?_
   rintro e w' ⟨rfl,⟨nd,rfl⟩⟩
   refine⟨_,rfl,?_⟩
   refine hK.out _ _ ⟨(kc HB Ac),(kc HB Ae),(kc HB Ai),(kc HB Aj)⟩ (fun hHeld=>?_)
   clear hK K
   refine norm_ (a':=?_) ?_ ?_
   rotate_left
   ·show Act.put _ (some 25) _=_
    exact acq
   refine pu (i:=5) (N:=some 26) #[T,T,T,T,T,T,F,F,F,F,F,F,F,F,F,F,F,F,F,F,F,F,F,F,F,F] (any_of HT_.out z11_0) ?_
   refine pu (i:=6) (N:=some 27) #[T,T,T,T,T,T,T,F,F,F,F,F,F,F,F,F,F,F,F,F,F,F,F,F,F,F] (any_of HT_.out z11_0) ?_
   refine pu (i:=7) (N:=some 28) #[T,T,T,T,T,T,T,T,F,F,F,F,F,F,F,F,F,F,F,F,F,F,F,F,F,F] (any_of HT_.out z11_0) ?_
   refine pu (i:=8) (N:=some 29) #[T,T,T,T,T,T,T,T,T,F,F,F,F,F,F,F,F,F,F,F,F,F,F,F,F,F] (any_of HT_.out z11_0) ?_
   refine pu (i:=9) (N:=some 30) #[T,T,T,T,T,T,T,T,T,T,F,F,F,F,F,F,F,F,F,F,F,F,F,F,F,F] (any_of HT_.out z11_0) ?_
   refine take_ (i:=10) (N:=some 31) (v:=?_) (a':=?_) #[T,T,T,T,T,T,T,T,T,T,T,F,F,F,F,F,F,F,F,F,F,F,F,F,F,F] rfl rfl (take_ofW HT_.out HW_.out z11_0) (fun _ _ _ h=>h) (Or.inl ⟨by rfl,?_⟩) hHeld ?_ ?_
   rotate_left
   ·rintro w' ⟨s0,s1,s2,s3⟩
    go_simp
    with_reducible rfl
   rotate_left
   ·exact acq
   refine one_ (i:=11) (N:=some 32) #[T,T,T,T,T,T,T,T,T,T,T,T,F,F,F,F,F,F,F,F,F,F,F,F,F,F] rfl rfl (one_of HT_.out z11_0) (by decide) (fun K hK=>?_)
   refine goes_ Try.func52 z11_0 rfl #[.int .i64 (rd l1 Aa), .int .i64 0, .int .i64 200] (by rfl) rfl rfl ln_11 ?_
   with_reducible refine(gV.calls (rd l1 Aa) 0 200 true _ Dc.out).mono ?_
   rintro e w' ⟨rfl,⟨nd,rfl⟩⟩
   refine⟨_,rfl,?_⟩
   refine hK.out _ _ ⟨(kc HB Ac),(kc HB Ae),(kc HB Ai),(kc HB Aj)⟩ (fun hHeld=>?_)
   clear hK K
   refine norm_ (a':=?_) ?_ ?_
   rotate_left
   ·show Act.put _ (some 32) _=_
    exact acq
   refine pu (i:=12) (N:=some 33) #[T,T,T,T,T,T,T,T,T,T,T,T,T,F,F,F,F,F,F,F,F,F,F,F,F,F] (any_of HT_.out z11_0) ?_
   refine pu (i:=13) (N:=some 34) #[T,T,T,T,T,T,T,T,T,T,T,T,T,T,F,F,F,F,F,F,F,F,F,F,F,F] (any_of HT_.out z11_0) ?_
   refine pu (i:=14) (N:=some 35) #[T,T,T,T,T,T,T,T,T,T,T,T,T,T,T,F,F,F,F,F,F,F,F,F,F,F] (any_of HT_.out z11_0) ?_
   refine pu (i:=15) (N:=some 36) #[T,T,T,T,T,T,T,T,T,T,T,T,T,T,T,T,F,F,F,F,F,F,F,F,F,F] (any_of HT_.out z11_0) ?_
   refine pu (i:=16) (N:=some 37) #[T,T,T,T,T,T,T,T,T,T,T,T,T,T,T,T,T,F,F,F,F,F,F,F,F,F] (any_of HT_.out z11_0) ?_
   refine pu (i:=17) (N:=some 38) #[T,T,T,T,T,T,T,T,T,T,T,T,T,T,T,T,T,T,F,F,F,F,F,F,F,F] (any_of HT_.out z11_0) ?_
   refine pu (i:=19) (N:=some 40) #[T,T,T,T,T,T,T,T,T,T,T,T,T,T,T,T,T,T,F,T,F,F,F,F,F,F] (any_of HT_.out z11_0) ?_
   refine pu (i:=20) (N:=some 41) #[T,T,T,T,T,T,T,T,T,T,T,T,T,T,T,T,T,T,F,T,T,F,F,F,F,F] (any_of HT_.out z11_0) ?_
   refine pu (i:=21) (N:=some 42) #[T,T,T,T,T,T,T,T,T,T,T,T,T,T,T,T,T,T,F,T,T,T,F,F,F,F] (any_of HT_.out z11_0) ?_
   refine take_ (i:=18) (N:=some 39) (v:=?_) (a':=?_) #[T,T,T,T,T,T,T,T,T,T,T,T,T,T,T,T,T,T,T,T,T,T,F,F,F,F] rfl rfl (take_ofW HT_.out HW_.out z11_0) (fun _ _ _ h=>h) (Or.inl ⟨by rfl,?_⟩) hHeld ?_ ?_
   rotate_left
   ·rintro w' ⟨s0,s1,s2,s3⟩
    go_simp
    with_reducible rfl
   rotate_left
   ·exact acq
   refine take_ (i:=22) (N:=some 43) (v:=?_) (a':=?_) #[T,T,T,T,T,T,T,T,T,T,T,T,T,T,T,T,T,T,T,T,T,T,T,F,F,F] rfl rfl (take_ofW HT_.out HW_.out z11_0) (fun _ _ _ h=>h) (Or.inl ⟨by rfl,?_⟩) hHeld ?_ ?_
   rotate_left
   ·rintro w' ⟨s0,s1,s2,s3⟩
    go_simp
    with_reducible rfl
   rotate_left
   ·exact acq
   refine pu (i:=23) (N:=some 44) #[T,T,T,T,T,T,T,T,T,T,T,T,T,T,T,T,T,T,T,T,T,T,T,T,F,F] (any_of HT_.out z11_0) ?_
   refine pu (i:=24) (N:=some 45) #[T,T,T,T,T,T,T,T,T,T,T,T,T,T,T,T,T,T,T,T,T,T,T,T,T,F] (any_of HT_.out z11_0) ?_
   refine pu (i:=25) (N:=some 46) #[T,T,T,T,T,T,T,T,T,T,T,T,T,T,T,T,T,T,T,T,T,T,T,T,T,T] (any_of HT_.out z11_0) ?_
   refine done_ (done_of HT_.out z11_0) ?_
   try go_wp2_with (first|((with_reducible refine gtD (N:=47) rfl ?_);refine Kd.R_lit (Kd.int .i64) _ 3 ?hg (N:=47) ?hd (xs:=([]:List Int)) (inner:=[]) (ok:=fun _=>True) (okp:=fun _=>True) ?hr ?hp (fun _ hk=>hk) trivial (Below.refl _ _) (Nat.le_refl _) (by simp) ?_;(case hd=>rfl);(case hg=>rfl);(case hr=>first|(go_simp;done)|(go_simp;rfl));(case hp=>exact(Reps.none _ _));intro Dr Eb Bj hb hg_ hnew_;clear hg_ hnew_;(first|rw[←Bs.out]at Bj|(simp only[Int.reduceToNat]at Bj;rw[←Bs.out]at Bj));have Cn:=Az.mk (Kd.R_lower (Kd.R_new' Bj (Kd.R_lt (kR HO_6.out))) (bwZ bw_11));replace HO_6:=Az.mk (Kd.R_elder' (kR HO_6.out) (Kd.R_base Bj) hb);replace HB:=Az.mk (bwT bw_11 hb);clear hb Bj))
   go_ret2
   exact⟨_,rq1,by(with_reducible repeat(first|apply Kd.R_alloc|apply Kd.R_drewN|apply Kd.R_drew));exact Kd.R_mono Cn.out (fun _ hk=>trivial),bw_11⟩
  rw[ig Cb]at H
  have Cm:decide (200<(wrap64 ((rd l0 Aa)+(rd l1 Aa))))=false:=decide_eq_false Cb
  clear Cb
  by_cases Cv:Ay.length<17592186044416
  rotate_left
  ·rw[ig Cv]at H
   exact absurd H (by simp)
  rw[ip Cv]at H
  have LMc17:=Az.mk Cv
  clear Cv
  obtain⟨Co,hy⟩:∃y_:List Int,y_=(Ay ++ [wrap64 ((rd l0 Aa)+(rd l1 Aa))]):=⟨_,rfl⟩
  replace H:(fH.l0 k1 l0 l1 Co (wrap64 (Aa+1)))=some (r1,r2):=rh
  have Cp:=Az.mk hy
  clear hy
  have H':=Az.mk H
  clear H
  try go_wp2
  replace HO_6:=Az.mk (Kd.R_drew HO_6.out);replace HB:=Az.mk (bwD HB.out)
  have Al:0≤(Aa:Int):=od
  have Am:Aa<(l0.length:Int):=od
  obtain⟨Ah,Ba,Ab⟩:=Kd.at_int Bt.out Aa Al Am
  have Ac:=Ab
  cases Ba
  replace Ab:=kc HB Ab
  replace Al:=ets Al
  replace Am:=ets Am
  have Av:0≤(Aa:Int):=od
  have Ax:Aa<(l1.length:Int):=od
  obtain⟨Ak,Bl,Ad⟩:=Kd.at_int Ca.out Aa Av Ax
  have Ae:=Ad
  cases Bl
  replace Ad:=kc HB Ad
  replace Av:=ets Av
  replace Ax:=ets Ax
  have Bb:0≤(Aa:Int):=od
  have Bc:Aa<(l0.length:Int):=od
  obtain⟨Bm,Bu,Af⟩:=Kd.at_int Bt.out Aa Bb Bc
  have Ai:=Af
  obtain rfl:Ah=Bm:=(by injection Bu)
  replace Af:=kc HB Af
  replace Bb:=ets Bb
  replace Bc:=ets Bc
  have Bd:0≤(Aa:Int):=od
  have Bf:Aa<(l1.length:Int):=od
  obtain⟨Bn,Bv,Ag⟩:=Kd.at_int Ca.out Aa Bd Bf
  have Aj:=Ag
  obtain rfl:Ak=Bn:=(by injection Bv)
  replace Ag:=kc HB Ag
  replace Bd:=ets Bd
  replace Bf:=ets Bf
  refine start_ (n:=26) (S:=fun w'=>w'.cell? (Ah.add (Aa).toNat)=some (.int .i64 (rd l0 Aa))∧w'.cell? (Ak.add (Aa).toNat)=some (.int .i64 (rd l1 Aa))∧w'.cell? (Ah.add (Aa).toNat)=some (.int .i64 (rd l0 Aa))∧w'.cell? (Ak.add (Aa).toNat)=some (.int .i64 (rd l1 Aa))) (ds:=[]) #[F,F,F,F,F,F,F,F,F,F,F,F,F,F,F,F,F,F,F,F,F,F,F,F,F,F] z11_0 rfl rfl ⟨(kc HB Ac),(kc HB Ae),(kc HB Ai),(kc HB Aj)⟩ (fun hHeld=>?_);refine with_tabW fH.tab7 fH.bits7 (fun HT_ HW_=>?_)
  generalize wr.drew=Cc at HO_6 HB Ab Ad Af Ag hHeld ⊢
  refine pu (i:=0) (N:=some 21) #[T,F,F,F,F,F,F,F,F,F,F,F,F,F,F,F,F,F,F,F,F,F,F,F,F,F] (any_of HT_.out z11_0) ?_
  refine pu (i:=1) (N:=some 22) #[T,T,F,F,F,F,F,F,F,F,F,F,F,F,F,F,F,F,F,F,F,F,F,F,F,F] (any_of HT_.out z11_0) ?_
  refine pu (i:=2) (N:=some 23) #[T,T,T,F,F,F,F,F,F,F,F,F,F,F,F,F,F,F,F,F,F,F,F,F,F,F] (any_of HT_.out z11_0) ?_
  refine take_ (i:=3) (N:=some 24) (v:=?_) (a':=?_) #[T,T,T,T,F,F,F,F,F,F,F,F,F,F,F,F,F,F,F,F,F,F,F,F,F,F] rfl rfl (take_ofW HT_.out HW_.out z11_0) (fun _ _ _ h=>h) (Or.inl ⟨by rfl,?_⟩) hHeld ?_ ?_
  rotate_left
  ·rintro w' ⟨s0,s1,s2,s3⟩
   go_simp
   with_reducible rfl
  rotate_left
  ·exact acq
  refine one_ (i:=4) (N:=some 25) #[T,T,T,T,T,F,F,F,F,F,F,F,F,F,F,F,F,F,F,F,F,F,F,F,F,F] rfl rfl (one_of HT_.out z11_0) (by decide) (fun K hK=>?_)
  refine goes_ Try.func52 z11_0 rfl #[.int .i64 (rd l0 Aa), .int .i64 0, .int .i64 200] (by rfl) rfl rfl ln_11 ?_
  with_reducible refine(gV.calls (rd l0 Aa) 0 200 true _ A8.out).mono ?_
  rintro e w' ⟨rfl,⟨nd,rfl⟩⟩
  refine⟨_,rfl,?_⟩
  refine hK.out _ _ ⟨(kc HB Ac),(kc HB Ae),(kc HB Ai),(kc HB Aj)⟩ (fun hHeld=>?_)
  clear hK K
  refine norm_ (a':=?_) ?_ ?_
  rotate_left
  ·show Act.put _ (some 25) _=_
   exact acq
  refine pu (i:=5) (N:=some 26) #[T,T,T,T,T,T,F,F,F,F,F,F,F,F,F,F,F,F,F,F,F,F,F,F,F,F] (any_of HT_.out z11_0) ?_
  refine pu (i:=6) (N:=some 27) #[T,T,T,T,T,T,T,F,F,F,F,F,F,F,F,F,F,F,F,F,F,F,F,F,F,F] (any_of HT_.out z11_0) ?_
  refine pu (i:=7) (N:=some 28) #[T,T,T,T,T,T,T,T,F,F,F,F,F,F,F,F,F,F,F,F,F,F,F,F,F,F] (any_of HT_.out z11_0) ?_
  refine pu (i:=8) (N:=some 29) #[T,T,T,T,T,T,T,T,T,F,F,F,F,F,F,F,F,F,F,F,F,F,F,F,F,F] (any_of HT_.out z11_0) ?_
  refine pu (i:=9) (N:=some 30) #[T,T,T,T,T,T,T,T,T,T,F,F,F,F,F,F,F,F,F,F,F,F,F,F,F,F] (any_of HT_.out z11_0) ?_
  refine take_ (i:=10) (N:=some 31) (v:=?_) (a':=?_) #[T,T,T,T,T,T,T,T,T,T,T,F,F,F,F,F,F,F,F,F,F,F,F,F,F,F] rfl rfl (take_ofW HT_.out HW_.out z11_0) (fun _ _ _ h=>h) (Or.inl ⟨by rfl,?_⟩) hHeld ?_ ?_
  rotate_left
  ·rintro w' ⟨s0,s1,s2,s3⟩
   go_simp
   with_reducible rfl
  rotate_left
  ·exact acq
  refine one_ (i:=11) (N:=some 32) #[T,T,T,T,T,T,T,T,T,T,T,T,F,F,F,F,F,F,F,F,F,F,F,F,F,F] rfl rfl (one_of HT_.out z11_0) (by decide) (fun K hK=>?_)
  refine goes_ Try.func52 z11_0 rfl #[.int .i64 (rd l1 Aa), .int .i64 0, .int .i64 200] (by rfl) rfl rfl ln_11 ?_
  with_reducible refine(gV.calls (rd l1 Aa) 0 200 true _ Dc.out).mono ?_
  rintro e w' ⟨rfl,⟨nd,rfl⟩⟩
  refine⟨_,rfl,?_⟩
  refine hK.out _ _ ⟨(kc HB Ac),(kc HB Ae),(kc HB Ai),(kc HB Aj)⟩ (fun hHeld=>?_)
  clear hK K
  refine norm_ (a':=?_) ?_ ?_
  rotate_left
  ·show Act.put _ (some 32) _=_
   exact acq
  refine pu (i:=12) (N:=some 33) #[T,T,T,T,T,T,T,T,T,T,T,T,T,F,F,F,F,F,F,F,F,F,F,F,F,F] (any_of HT_.out z11_0) ?_
  refine pu (i:=13) (N:=some 34) #[T,T,T,T,T,T,T,T,T,T,T,T,T,T,F,F,F,F,F,F,F,F,F,F,F,F] (any_of HT_.out z11_0) ?_
  refine pu (i:=14) (N:=some 35) #[T,T,T,T,T,T,T,T,T,T,T,T,T,T,T,F,F,F,F,F,F,F,F,F,F,F] (any_of HT_.out z11_0) ?_
  refine pu (i:=15) (N:=some 36) #[T,T,T,T,T,T,T,T,T,T,T,T,T,T,T,T,F,F,F,F,F,F,F,F,F,F] (any_of HT_.out z11_0) ?_
  refine pu (i:=16) (N:=some 37) #[T,T,T,T,T,T,T,T,T,T,T,T,T,T,T,T,T,F,F,F,F,F,F,F,F,F] (any_of HT_.out z11_0) ?_
  refine pu (i:=17) (N:=some 38) #[T,T,T,T,T,T,T,T,T,T,T,T,T,T,T,T,T,T,F,F,F,F,F,F,F,F] (any_of HT_.out z11_0) ?_
  refine pu (i:=19) (N:=some 40) #[T,T,T,T,T,T,T,T,T,T,T,T,T,T,T,T,T,T,F,T,F,F,F,F,F,F] (any_of HT_.out z11_0) ?_
  refine pu (i:=20) (N:=some 41) #[T,T,T,T,T,T,T,T,T,T,T,T,T,T,T,T,T,T,F,T,T,F,F,F,F,F] (any_of HT_.out z11_0) ?_
  refine pu (i:=21) (N:=some 42) #[T,T,T,T,T,T,T,T,T,T,T,T,T,T,T,T,T,T,F,T,T,T,F,F,F,F] (any_of HT_.out z11_0) ?_
  refine take_ (i:=18) (N:=some 39) (v:=?_) (a':=?_) #[T,T,T,T,T,T,T,T,T,T,T,T,T,T,T,T,T,T,T,T,T,T,F,F,F,F] rfl rfl (take_ofW HT_.out HW_.out z11_0) (fun _ _ _ h=>h) (Or.inl ⟨by rfl,?_⟩) hHeld ?_ ?_
  rotate_left
  ·rintro w' ⟨s0,s1,s2,s3⟩
   go_simp
   with_reducible rfl
  rotate_left
  ·exact acq
  refine take_ (i:=22) (N:=some 43) (v:=?_) (a':=?_) #[T,T,T,T,T,T,T,T,T,T,T,T,T,T,T,T,T,T,T,T,T,T,T,F,F,F] rfl rfl (take_ofW HT_.out HW_.out z11_0) (fun _ _ _ h=>h) (Or.inl ⟨by rfl,?_⟩) hHeld ?_ ?_
  rotate_left
  ·rintro w' ⟨s0,s1,s2,s3⟩
   go_simp
   with_reducible rfl
  rotate_left
  ·exact acq
  refine pu (i:=23) (N:=some 44) #[T,T,T,T,T,T,T,T,T,T,T,T,T,T,T,T,T,T,T,T,T,T,T,T,F,F] (any_of HT_.out z11_0) ?_
  refine pu (i:=24) (N:=some 45) #[T,T,T,T,T,T,T,T,T,T,T,T,T,T,T,T,T,T,T,T,T,T,T,T,T,F] (any_of HT_.out z11_0) ?_
  refine pu (i:=25) (N:=some 46) #[T,T,T,T,T,T,T,T,T,T,T,T,T,T,T,T,T,T,T,T,T,T,T,T,T,T] (any_of HT_.out z11_0) ?_
  refine done_ (done_of HT_.out z11_0) ?_
  try go_wp2
  (try(rw[drewN_self Cc];generalize hq_:World.drewN Cc _=Cc;have n0_:Az (Kd.R (Kd.int .i64) 3 Cc w.heap.size (fun _=>True) u6 Ay):=⟨by rw[←hq_];exact(kR HO_6.out)⟩;have n1_:Az (Below w.heap.size w Cc):=⟨by rw[←hq_];exact bw_11⟩;clear HO_6 HB hq_;have HO_6:=n0_;have HB:=n1_;clear n0_ n1_))
  replace HO_6:=Az.mk (Kd.R_drew HO_6.out);replace HB:=Az.mk (bwD HB.out)
  have Bw:0≤(Aa:Int):=od
  have Bx:Aa<(l0.length:Int):=od
  obtain⟨Cq,Df,Ap⟩:=Kd.at_int Bt.out Aa Bw Bx
  have Aq:=Ap
  obtain rfl:Ah=Cq:=(by injection Df)
  replace Ap:=kc HB Ap
  replace Bw:=ets Bw
  replace Bx:=ets Bx
  have By:0≤(Aa:Int):=od
  have Bz:Aa<(l1.length:Int):=od
  obtain⟨Cr,Dg,As⟩:=Kd.at_int Ca.out Aa By Bz
  have Au:=As
  obtain rfl:Ak=Cr:=(by injection Dg)
  replace As:=kc HB As
  replace By:=ets By
  replace Bz:=ets Bz
  refine start_ (n:=13) (S:=fun w'=>w'.cell? (Ah.add (Aa).toNat)=some (.int .i64 (rd l0 Aa))∧w'.cell? (Ak.add (Aa).toNat)=some (.int .i64 (rd l1 Aa))) (ds:=[]) #[F,F,F,F,F,F,F,F,F,F,F,F,F] z11_0 rfl rfl ⟨(kc HB Aq),(kc HB Au)⟩ (fun hHeld=>?_);refine with_tabW fH.tab9 fH.bits9 (fun HT_ HW_=>?_)
  generalize Cc.drew=Ec at HO_6 HB Ap As hHeld ⊢
  refine pu (i:=0) (N:=some 48) #[T,F,F,F,F,F,F,F,F,F,F,F,F] (any_of HT_.out z11_0) ?_
  refine pu (i:=1) (N:=some 49) #[T,T,F,F,F,F,F,F,F,F,F,F,F] (any_of HT_.out z11_0) ?_
  refine pu (i:=2) (N:=some 50) #[T,T,T,F,F,F,F,F,F,F,F,F,F] (any_of HT_.out z11_0) ?_
  refine pu (i:=3) (N:=some 51) #[T,T,T,T,F,F,F,F,F,F,F,F,F] (any_of HT_.out z11_0) ?_
  refine pu (i:=5) (N:=some 53) #[T,T,T,T,F,T,F,F,F,F,F,F,F] (any_of HT_.out z11_0) ?_
  refine pu (i:=6) (N:=some 54) #[T,T,T,T,F,T,T,F,F,F,F,F,F] (any_of HT_.out z11_0) ?_
  refine pu (i:=7) (N:=some 55) #[T,T,T,T,F,T,T,T,F,F,F,F,F] (any_of HT_.out z11_0) ?_
  refine take_ (i:=4) (N:=some 52) (v:=?_) (a':=?_) #[T,T,T,T,T,T,T,T,F,F,F,F,F] rfl rfl (take_ofW HT_.out HW_.out z11_0) (fun _ _ _ h=>h) (Or.inl ⟨by rfl,?_⟩) hHeld ?_ ?_
  rotate_left
  ·rintro w' ⟨s0,s1⟩
   go_simp
   with_reducible rfl
  rotate_left
  ·exact acq
  refine take_ (i:=8) (N:=some 56) (v:=?_) (a':=?_) #[T,T,T,T,T,T,T,T,T,F,F,F,F] rfl rfl (take_ofW HT_.out HW_.out z11_0) (fun _ _ _ h=>h) (Or.inl ⟨by rfl,?_⟩) hHeld ?_ ?_
  rotate_left
  ·rintro w' ⟨s0,s1⟩
   go_simp
   with_reducible rfl
  rotate_left
  ·exact acq
  refine pu (i:=9) (N:=some 57) #[T,T,T,T,T,T,T,T,T,T,F,F,F] (any_of HT_.out z11_0) ?_
  refine one_ (i:=10) (N:=some 58) #[T,T,T,T,T,T,T,T,T,T,T,F,F] rfl rfl (one_of HT_.out z11_0) (by decide) (fun K hK=>?_)
  refine value_ (w1:=?_) (v:=?_) (by rfl) rfl ?_ ?_
  rotate_left 2
  ·go_simp
   constructor
   ·rfl
   rfl
  refine hK.out _ _ ⟨(World.cell?_alloc_lt _ _ _ (World.block_lt_of_cell? _ _ ((kc HB Aq)))).trans ((kc HB Aq)),(World.cell?_alloc_lt _ _ _ (World.block_lt_of_cell? _ _ ((kc HB Au)))).trans ((kc HB Au))⟩ (fun hHeld=>?_)
  clear hK K
  refine norm_ (a':=?_) ?_ ?_
  rotate_left
  ·show Act.put _ (some 58) _=_
   exact acq
  refine one_ (i:=11) (N:=some 59) #[T,T,T,T,T,T,T,T,T,T,T,T,F] rfl rfl (one_of HT_.out z11_0) (by decide) (fun K hK=>?_)
  refine Kd.R_append_step (Kd.int .i64) (w0:=w) w.heap.size (by rfl) (.tmp 48) (.tmp 58) 25 3 (.int .i64 0) 8 rfl Try.underlying25 info3 rfl (by decide) (by omega) u6 Ay (wrap64 ((rd l0 Aa)+(rd l1 Aa))) [.int .i64 (wrap64 ((rd l0 Aa)+(rd l1 Aa)))] (fun _=>True) (fun _=>False) rfl rfl ?aP (fun _ hk=>hk.elim) ?aF ?aO ?aB ?aS ?aL ?_
  (case aP=>exact rfl)
  (case aB=>exact bw_11)
  (case aF=>exact(fun _ _=>trivial))
  (case aO=>exact(kR HO_6.out))
  (case aS=>exact(bwZ bw_11))
  (case aL=>have:=LMc17.out;omega)
  intro Ds Ed ho hb hg hat
  rw[←Cp.out]at ho
  have n0_:=Az.mk (hb)
  have n1_:=Az.mk (ho)
  clear HB
  clear HO_6
  have HB:=n0_
  have Cs:=n1_
  clear n0_ n1_
  clear ho hb hg hat
  refine hK.out _ _ ⟨(kc HB Aq),(kc HB Au)⟩ (fun hHeld=>?_)
  clear hK K
  refine norm_ (a':=?_) ?_ ?_
  rotate_left
  ·show Act.put _ (some 59) _=_
   exact acq
  refine pu (i:=12) (N:=some 6) #[T,T,T,T,T,T,T,T,T,T,T,T,T] (any_of HT_.out z11_0) ?_
  refine done_ (done_of HT_.out z11_0) ?_
  try go_wp2
  go_roundg k1
  case measure=>have:=HK1.out;omega
  case rel=>exact⟨(Co),(wrap64 (Aa+1)),rq2,H',⟨by have:=HK1.out;omega⟩,⟨kR Cs.out⟩,⟨bw_11⟩⟩
end
def jI.f (s0_0:List Int) (s0_1:Int) (s0_2:Int) (l1:List Int):Option (Int × Int × Int):=(fO.f s0_0 s0_1 s0_2 (l1.length:Int)).bind fun bt253=>(if 0≤bt253.1 then(if bt253.1<(l1.length:Int) then(some (rd l1 bt253.1,bt253.2.1,bt253.2.2)) else(none)) else(none))
theorem jI.calls (g:Nat) (Ac:List Int) (Ad:Int) (Ae:Int) (A1:Option Addr) (c1:Nat) (l1:List Int) (r1:Int) (r2:Int) (r3:Int) (w0 w:World) (hI:IsS76 w0 w g Ac Ad Ae) (hB:Below w0.heap.size w0 w) (Aq:Kd.C (Kd.int .i64) w A1 l1.length l1) (As:l1.length≤c1) (Ak:∀ad,A1=some ad→0<l1.length→ad.block≠g) (h:jI.f Ac Ad Ae l1=some (r1,r2,r3)):
  Calls Try.prog 73 #[.pointer (some ⟨g,0,none⟩), .slice A1 l1.length c1] w fun e w'=>e= .returned (.int .i64 r1)∧IsS76 w0 w' g Ac r2 r3∧Below w0.heap.size w0 w'∧KeepBut w w' g none:=by
 have Au:=Az.mk Aq
 have Ay:=Az.mk As
 clear Aq As
 have HI0:=Az.mk hI
 have HK:=Az.mk (KeepBut.refl w g none)
 have HL:=Az.mk hB.size
 clear hI
 have HW0:=Az.mk hB.size
 have HB:=Az.mk hB
 clear hB
 have H:=h
 unfold jI.f at H
 clear h
 replace H:=bez H
 obtain⟨⟨Ab,Al,Am⟩,A3,H⟩:=H
 try dsimp only at H
 by_cases c4:0≤Ab
 rotate_left
 ·rw[ig c4]at H
  exact absurd H (by simp)
 rw[ip c4]at H
 have Av:=ode c4
 clear c4
 by_cases c5:Ab<(l1.length:Int)
 rotate_left
 ·rw[ig c5]at H
  exact absurd H (by simp)
 rw[ip c5]at H
 have Ax:=ode c5
 clear c5
 simp only[Option.some.injEq,Prod.mk.injEq]at H
 obtain⟨rfl,rfl,rfl⟩:=H
 go_enter Try.func73,Try.ntmps73
 go_wp2_with (first|((with_reducible refine gtC (f:=62) rfl ?_);refine clz Try.func62 (some 9) #[.pointer (some ⟨g,0,none⟩), .int .i64 (l1.length:Int)] ?_;(with_reducible refine(fO.calls g Ac Ad Ae (l1.length:Int) Ab Al Am w0 _ ?Ah ?Ai A3.out).mono ?_);(case Ah=>exact(kI HI0.out));(case Ai=>exact kG HB.out (IsS76.ge HI0.out));rintro e w6 ⟨rfl,hi,hb,hk⟩;refine⟨_,rfl,?_⟩;replace HK:=Az.mk (KeepBut.trans (kK HK.out) hk (.inl rfl));replace HB:=Az.mk (hb);replace HI0:=Az.mk (hi);(try clear hb);(try clear hk);(try clear hi);have Af:0≤(Ab:Int):=od;have Ag:Ab<(l1.length:Int):=od;obtain⟨Aj,Ap,Aa⟩:=Kd.at_int Au.out Ab Af Ag;cases Ap;replace Aa:=keep_cell HK.out Aa (by first|(rw[add_block];exact Ak _ rfl (by omega))|exact Ak _ rfl (by omega)|exact Ak Aj rfl (by omega));replace Af:=ets Af;replace Ag:=ets Ag))
 go_ret
 exact⟨rq1,kI HI0.out,kG HB.out (IsS76.ge HI0.out),kK HK.out⟩
end Go.Proofs.Ytemeiocmgbgikaa.P
