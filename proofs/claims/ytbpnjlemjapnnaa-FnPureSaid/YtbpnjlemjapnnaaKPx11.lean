-- The walks, cut and laid together by this session's tools (prune.py, sq2.py, min.py: shorter names, no needless spaces). Not trusted: Lean checks it.
import Derived.Test.YtbpnjlemjapnnaaKWZip
import Derived.Test.YtbpnjlemjapnnaaKPx8
namespace Go.Proofs.Ytbpnjlemjapnnaa.P
open Go.RowKit Go.Proofs.YtbpnjlemjapnnaaW.PrintWords Go.Proofs.YtbpnjlemjapnnaaW.PrintLast Go.Proofs.YtbpnjlemjapnnaaW.PrintMore
attribute [local go_sem] max2_int min2_int max_two min_two max_three min_three max_four min_four   -- for this text's walks alone
set_option linter.unusedVariables false
set_option linter.unusedSimpArgs false
set_option maxHeartbeats 8000000
set_option maxRecDepth 100000
open Option renaming bind_eq_some_iff → be
theorem ln_11 {P:Prop} (h:P:=by(try simp only[List.map_toArray,List.map_cons,List.map_nil]);first|done|rfl|(simp only[List.length_drop,List.length_take];rfl)):P:=h
mutual
def fM.l0:Nat→List (List Int)→List Int→Int→List Int→Int→Int→Option ((List (List Int)) × List Int × Int × Int)
 |0,_,_,_,_,_,_=>none
 |k+1,x4,x5,x6,x1000,x1001,x1002=>if x6>0 then((fB.f x1000 x1001 x1002 (x4.length:Int)).bind fun bt265=>((fB.f x1000 bt265.2.1 bt265.2.2 3).bind fun bt268=>((gL.f k x4 bt265.1 bt268.1).bind fun t271=>((fI.f k x5 t271).bind fun bt274=>(fM.l0 k x4 bt274.1 (wrap64 (x6 - 1)) x1000 bt268.2.1 bt268.2.2))))) else(fM.l1 k x4 x5 0 x1000 x1001 x1002)
def fM.l1:Nat→List (List Int)→List Int→Int→List Int→Int→Int→Option ((List (List Int)) × List Int × Int × Int)
 |0,_,_,_,_,_,_=>none
 |k+1,x4,x5,x8,x1000,x1001,x1002=>if x8<12 then((some (([]:List Int):List Int)).bind fun y278=>(if y278.length+x5.length<17592186044416 then((some (y278 ++ x5:List Int)).bind fun y281=>((fB.f x1000 x1001 x1002 (y281.length:Int)).bind fun bt284=>((fB.f x1000 bt284.2.1 bt284.2.2 7).bind fun bt287=>(if 0≤bt284.1 then(if bt284.1<(y281.length:Int) then((fB.f x1000 bt287.2.1 bt287.2.2 (y281.length:Int)).bind fun bt291=>((fB.f x1000 bt291.2.1 bt291.2.2 7).bind fun bt294=>(if 0≤bt291.1 then(if bt291.1<(y281.length:Int) then((some ((y281.set (bt284.1:Int).toNat bt287.1).set (bt291.1:Int).toNat bt294.1:List Int)).bind fun y297=>((fN.f k x4 y297).bind fun t298=>(if t298=true then(fM.l1 k x4 y297 (wrap64 (x8+1)) x1000 bt294.2.1 bt294.2.2) else(fM.l1 k x4 x5 (wrap64 (x8+1)) x1000 bt294.2.1 bt294.2.2)))) else(none)) else(none)))) else(none)) else(none))))) else(none))) else((fB.f x1000 x1001 x1002 18).bind fun bt299=>(if bt299.1=0 then((gK.f x1000 bt299.2.1 bt299.2.2 (([(-1),201,1,3]:List Int))).bind fun bt305=>(if 0<(x5.length:Int) then(some (x4,(x5.set (0:Int).toNat bt305.1),bt305.2.1,bt305.2.2)) else(none))) else(if bt299.1=1 then(if 1≤(x5.length:Int) then(some (x4,(x5.drop (1:Int).toNat),bt299.2.1,bt299.2.2)) else(none)) else(if bt299.1=2 then(if 0<(x4.length:Int) then((gK.f x1000 bt299.2.1 bt299.2.2 (([0,2,(-1),9]:List Int))).bind fun bt316=>(if 0<((rd_L1 x4 0).length:Int) then(some ((x4.set (0:Int).toNat ((rd_L1 x4 0).set (0:Int).toNat bt316.1)),x5,bt316.2.1,bt316.2.2)) else(none))) else(none)) else(some (x4,x5,bt299.2.1,bt299.2.2))))))
end
def fM.f (k:Nat) (s0_0:List Int) (s0_1:Int) (s0_2:Int):Option ((List (List Int)) × List Int × Int × Int):=(jY.f k s0_0 s0_1 s0_2).bind fun bt254=>(if 0≤(wrap64 (Int.tdiv (wrap64 (3*(bt254.1.length:Int))) 2)) then(if(wrap64 (Int.tdiv (wrap64 (3*(bt254.1.length:Int))) 2):Int).toNat≤35184372088832 then((fB.f s0_0 bt254.2.1 bt254.2.2 3).bind fun bt262=>(fM.l0 k bt254.1 (List.replicate (wrap64 (Int.tdiv (wrap64 (3*(bt254.1.length:Int))) 2):Int).toNat 0) (wrap64 (1+bt262.1)) s0_0 bt262.2.1 bt262.2.2)) else(none)) else(none))
def fM.T22:Bool × List (List Nat × List Nat):=(true,[([],[]),([0],[0]),([1],[1]),([],[]),([],[]),([3,4],[3,4]),([2,0,1,2,3,4,5],[2]),([6,5,5,0,1,2,3,4,5],[5,6])])
def fM.B22:List Nat:=[0,1,3,0,0,24,63,127]
theorem fM.tab22:rtab .any (opsOf Try.f20 22)=fM.T22:=by kernel_rfl
theorem fM.bits22:waitsOk fM.T22.2 fM.B22=true:=by kernel_rfl
theorem fM.calls (k:Nat) (g:Nat) (Ae:List Int) (Dy:Int) (Dz:Int) (r1:List (List Int)) (r2:List Int) (r3:Int) (r4:Int) (w0 w:World) (hI:IsS63 w0 w g Ae Dy Dz) (hB:Below w0.heap.size w0 w) (h:fM.f k Ae Dy Dz=some (r1,r2,r3,r4)):
  Calls Try.prog 20 #[.pointer (some ⟨g,0,none⟩)] w fun e w'=>∃v0_ v1_:Value,e= .returned (.tuple #[v0_,v1_])∧Kd.S (Kd.slice 3 (Kd.int .i64)) 25 w' w.heap.size (fun k_=>some k_≠(v1_:Value).ownBlock) v0_ r1∧Kd.Q (Kd.int .i64) 3 w' w.heap.size (fun _=>True) v1_ r2∧IsS63 w0 w' g Ae r3 r4∧Below w0.heap.size w0 w'∧KeepBut w w' g none:=by
 have HI0:=Az.mk hI
 have HK:=Az.mk (KeepBut.refl w g none)
 have HL:=Az.mk hB.size
 clear hI
 have HW0:=Az.mk hB.size
 have HB:=Az.mk hB
 clear hB
 have H:((jY.f k Ae Dy Dz).bind fun Ca=>(if 0≤(wrap64 (Int.tdiv (wrap64 (3*(Ca.1.length:Int))) 2)) then(if(wrap64 (Int.tdiv (wrap64 (3*(Ca.1.length:Int))) 2):Int).toNat≤35184372088832 then((fB.f Ae Ca.2.1 Ca.2.2 3).bind fun Ba=>(fM.l0 k Ca.1 (List.replicate (wrap64 (Int.tdiv (wrap64 (3*(Ca.1.length:Int))) 2):Int).toNat 0) (wrap64 (1+Ba.1)) Ae Ba.2.1 Ba.2.2)) else(none)) else(none)))=some (r1,r2,r3,r4):=h
 clear h
 replace H:=bez H
 obtain⟨⟨Al,Cu,Cv⟩,A2,H⟩:=H
 try dsimp only at H
 obtain⟨Ea,Ch⟩:∃j_:Int,(wrap64 (Int.tdiv (wrap64 (3*(Al.length:Int))) 2))=j_:=⟨_,rfl⟩
 replace H:(if 0≤(Ea) then(if(Ea:Int).toNat≤35184372088832 then((fB.f Ae Cu Cv 3).bind fun Ba=>(fM.l0 k Al (List.replicate (Ea:Int).toNat 0) (wrap64 (1+Ba.1)) Ae Ba.2.1 Ba.2.2)) else(none)) else(none))=some (r1,r2,r3,r4):=by first|(rw[Ch]at H;exact H)|(simp only[Ch]at H ⊢;exact H)
 (try rw[Ch]at A2)
 have hji3w:(IntKind.i64.wrap (Int.tdiv (wrap64 (3*(Al.length:Int))) 2))=Ea:=(i64_w _).trans Ch
 by_cases c4:0≤(Ea)
 rotate_left
 ·rw[ig c4]at H
  exact absurd H (by simp)
 rw[ip c4]at H
 have Hd:=ets c4
 have He:=ode c4
 clear c4
 by_cases c5:(Ea:Int).toNat≤35184372088832
 rotate_left
 ·rw[ig c5]at H
  exact absurd H (by simp)
 rw[ip c5]at H
 have Hf:=ets c5
 have Hg:=ode c5
 clear c5
 obtain⟨Hh,hy⟩:∃y_:List Int,y_=(List.replicate (Ea:Int).toNat 0):=⟨_,rfl⟩
 replace H:((fB.f Ae Cu Cv 3).bind fun Ba=>(fM.l0 k Al Hh (wrap64 (1+Ba.1)) Ae Ba.2.1 Ba.2.2))=some (r1,r2,r3,r4):=rh
 have Eo:=Az.mk hy
 clear hy
 replace H:=bez H
 obtain⟨⟨Hi,Hj,Hk⟩,A6,H⟩:=H
 try dsimp only at H
 have H':=Az.mk H
 clear H
 go_enter Try.func20,Try.ntmps20
 go_wp2_with (first|((with_reducible refine gtC (f:=50) rfl ?_);refine clz Try.func50 (some 11) #[.pointer (some ⟨g,0,none⟩)] ?_;(with_reducible refine(jY.calls k g Ae Dy Dz Al Cu Cv w0 _ ?Ah ?Ai A2.out).mono ?_);(case Ah=>exact(kI HI0.out));(case Ai=>exact kG HB.out (IsS63.ge HI0.out));rintro e w7 ⟨Lr,rfl,Cw,hi,hb,hk⟩;refine⟨_,rfl,?_⟩;have Cb:=Az.mk (Kd.S_lower Cw (keep_size (w:=w) (g:=g) (row:=none) (kK HK.out)));replace HK:=Az.mk (KeepBut.trans (kK HK.out) hk (.inl rfl));replace HB:=Az.mk (hb);replace HI0:=Az.mk (hi);(try clear hb);(try clear hk);(try clear hi);(try clear Cw);obtain⟨Hl,Hm,Ls⟩:=Kd.S_slice Cb.out;subst Ls)|((with_reducible refine gtD (N:=16) rfl ?_);refine Kd.R_make (Kd.int .i64) _ 3 rfl (N:=16) rfl 25 _ _ rfl Ea rfl rfl Try.underlying25 (.int .i64 0) 8 info3 rfl (by decide) (by omega) 0 (ok:=fun _=>True) (okp:=fun _=>True) rfl (fun _ hk=>hk) trivial (od) (Nat.le_trans (Nat.mul_le_mul_right _ (od:Ea.toNat≤35184372088832)) (by omega)) (Below.refl _ _) (Nat.le_refl _) ?_;intro Lt w9 Cx hb hg_ hnew_;clear hg_ hnew_;(first|rw[←Eo.out]at Cx|(simp only[Int.reduceToNat]at Cx;rw[←Eo.out]at Cx));replace Cb:=Az.mk (Kd.S_elder' (kS Cb.out) (Kd.R_base Cx) hb);have Dj:=Az.mk (Kd.R_lower Cx (keep_size (w:=w) (g:=g) (row:=none) (kK HK.out)));replace HK:=Az.mk (KeepBut.trans (kK HK.out) (KeepBut.of_below hb g none) (.inl rfl));replace HB:=Az.mk (bwT (kG HB.out (IsS63.ge HI0.out)) hb);replace HI0:=Az.mk (IsS63.below (kI HI0.out) hb);clear hb Cx)|((with_reducible refine gtC (f:=51) rfl ?_);refine clz Try.func51 (some 18) #[.pointer (some ⟨g,0,none⟩), .int .i64 3] ?_;(with_reducible refine(fB.calls g Ae Cu Cv 3 Hi Hj Hk w0 _ ?Ah ?Ai A6.out).mono ?_);(case Ah=>exact(kI HI0.out));(case Ai=>exact kG HB.out (IsS63.ge HI0.out));rintro e Mr ⟨rfl,hi,hb,hk⟩;refine⟨_,rfl,?_⟩;replace Cb:=Az.mk (Kd.S_mono (Kd.S_keep (IsS63.apartS (show IsS63 w0 _ g Ae Cu Cv from kI HI0.out) (kS Cb.out) (by decide)) hk (fun _ h=>h.2)) (fun _ h=>h.1));replace Dj:=Az.mk (Kd.R_mono (Kd.R_keep (IsS63.apart (show IsS63 w0 _ g Ae Cu Cv from kI HI0.out) (kR Dj.out) (by decide)) hk (fun _ h=>h.2)) (fun _ h=>h.1));replace HK:=Az.mk (KeepBut.trans (kK HK.out) hk (.inl rfl));replace HB:=Az.mk (hb);replace HI0:=Az.mk (hi);(try clear hb);(try clear hk);(try clear hi)))
 go_loopg [5,6] k (fun kq v5 v6 w'=>∃(Cy:List Int) (Cj:Int) (Ax:Int) (Ay:Int),v6= .int .i64 Cj∧Az (fM.l0 kq Al Cy Cj Ae Ax Ay=some (r1,r2,r3,r4))∧Az (kq≤k)∧Az (Kd.S (Kd.slice 3 (Kd.int .i64)) 25 w' w.heap.size (fun k_=>some k_≠(v5:Value).ownBlock) (.slice Hl Al.length Hm) Al)∧Az (Kd.Q (Kd.int .i64) 3 w' w.heap.size (fun _=>True) v5 Cy)∧Az (IsS63 w0 w' g Ae Ax Ay)∧Az (KeepBut w w' g none)∧Az (Below w0.heap.size w0 w'))
 case atStart=>exact⟨(Hh),(wrap64 (1+Hi)),(Hj),(Hk),rq2,H',⟨Nat.le_refl _⟩,⟨by(with_reducible repeat(first|apply Kd.S_alloc|apply Kd.S_drewN|apply Kd.S_drew));exact Kd.S_mono Cb.out (fun _ hk=>hk.2)⟩,⟨Kd.Q_of_R (kR Dj.out)⟩,⟨kI HI0.out⟩,⟨kK HK.out⟩,⟨kG HB.out (IsS63.ge HI0.out)⟩⟩
 clear H'
 try clear c4
 try clear Hd
 try clear He
 try clear c5
 try clear Hf
 try clear Hg
 obtain⟨Cy,Cj,Ax,Ay,rfl,HA,HK1,Af,Ad,HI0,HK,HB⟩:=hrel
 cases gk with
 |zero=>exact absurd HA.out (by simp[fM.l0])
 |succ k1=>
  have H:=HA.out
  clear HA
  simp only[fM.l0]at H
  by_cases Ez:Cj>0
  ·rw[ip Ez]at H
   have Ep:decide (0<Cj)=true:=ode Ez
   clear Ez
   replace H:=bez H
   obtain⟨⟨Ga,Eb,Ec⟩,Lu,H⟩:=H
   try dsimp only at H
   replace H:=bez H
   obtain⟨⟨Gb,Hn,Ho⟩,Lv,H⟩:=H
   try dsimp only at H
   replace H:=bez H
   obtain⟨Gc,Lw,H⟩:=H
   try dsimp only at H
   replace H:=bez H
   obtain⟨⟨Hp,Je⟩,Lx,H⟩:=H
   try dsimp only at H
   have H':=Az.mk H
   clear H
   go_wp2_with (first|((with_reducible refine gtC (f:=51) rfl ?_);refine clz Try.func51 (some 28) #[.pointer (some ⟨g,0,none⟩), .int .i64 (Al.length:Int)] ?_;(with_reducible refine(fB.calls g Ae Ax Ay (Al.length:Int) Ga Eb Ec w0 _ ?Ah ?Ai Lu.out).mono ?_);(case Ah=>exact(kI HI0.out));(case Ai=>exact kG HB.out (IsS63.ge HI0.out));rintro e Ms ⟨rfl,hi,hb,hk⟩;refine⟨_,rfl,?_⟩;replace Af:=Az.mk (Kd.S_mono (Kd.S_keep (IsS63.apartS (show IsS63 w0 _ g Ae Ax Ay from kI HI0.out) (kS Af.out) (by decide)) hk (fun _ h=>h.2)) (fun _ h=>h.1));replace Ad:=Az.mk (Kd.Q_mono (Kd.Q_keep (IsS63.apartQ (show IsS63 w0 _ g Ae Ax Ay from kI HI0.out) (kQ Ad.out) (by decide)) hk (fun _ h=>h.2)) (fun _ h=>h.1));replace HK:=Az.mk (KeepBut.trans (kK HK.out) hk (.inl rfl));replace HB:=Az.mk (hb);replace HI0:=Az.mk (hi);(try clear hb);(try clear hk);(try clear hi))|((with_reducible refine gtC (f:=51) rfl ?_);refine clz Try.func51 (some 30) #[.pointer (some ⟨g,0,none⟩), .int .i64 3] ?_;(with_reducible refine(fB.calls g Ae Eb Ec 3 Gb Hn Ho w0 _ ?Ah ?Ai Lv.out).mono ?_);(case Ah=>exact(kI HI0.out));(case Ai=>exact kG HB.out (IsS63.ge HI0.out));rintro e Mt ⟨rfl,hi,hb,hk⟩;refine⟨_,rfl,?_⟩;replace Af:=Az.mk (Kd.S_mono (Kd.S_keep (IsS63.apartS (show IsS63 w0 _ g Ae Eb Ec from kI HI0.out) (kS Af.out) (by decide)) hk (fun _ h=>h.2)) (fun _ h=>h.1));replace Ad:=Az.mk (Kd.Q_mono (Kd.Q_keep (IsS63.apartQ (show IsS63 w0 _ g Ae Eb Ec from kI HI0.out) (kQ Ad.out) (by decide)) hk (fun _ h=>h.2)) (fun _ h=>h.1));replace HK:=Az.mk (KeepBut.trans (kK HK.out) hk (.inl rfl));replace HB:=Az.mk (hb);replace HI0:=Az.mk (hi);(try clear hb);(try clear hk);(try clear hi))|((with_reducible refine gtC (f:=40) rfl ?_);refine clz Try.func40 (some 31) #[.slice Hl Al.length Hm, .int .i64 Ga, .int .i64 Gb] ?_;(with_reducible refine(gL.calls k1 _ _ Al Ga Gb Gc _ ?Ah ?Ai Lw.out).mono ?_);(case Ah=>exact kC (Kd.S_reads' Af.out).2.2);(case Ai=>exact(Kd.S_reads' Af.out).2.1);rintro e Mu ⟨Ly,rfl,Cw,hb⟩;refine⟨_,rfl,?_⟩;replace Af:=Az.mk (Kd.S_elder' (kS Af.out) (Kd.R_base Cw) hb);have Cc:=Az.mk (Kd.R_lower (Kd.R_new' Cw (Kd.Q_lt (kQ Ad.out))) (keep_size (w:=w) (g:=g) (row:=none) (kK HK.out)));replace Ad:=Az.mk (Kd.Q_elder' (kQ Ad.out) (Kd.R_base Cw) hb);replace HK:=Az.mk (KeepBut.trans (kK HK.out) (KeepBut.of_below hb g none) (.inl rfl));replace HB:=Az.mk (bwT (kG HB.out (IsS63.ge HI0.out)) hb);replace HI0:=Az.mk (IsS63.below (kI HI0.out) hb);(try clear hb);(try clear Cw);obtain⟨Jf,Jg,Ji,_⟩:=Kd.Q_slice Ad.out;subst Ji;obtain⟨Jj,Jk,Jl⟩:=Kd.R_slice Cc.out;subst Jl)|((with_reducible refine gtC (f:=52) rfl ?_);refine clz Try.func52 (some 35) #[.slice Jf Cy.length Jg, .slice Jj Gc.length Jk] ?_;(with_reducible refine(fI.calls k1 _ _ Cy _ _ Gc Hp Je _ ?Ah ?Ai ?Bk ?Bl Lx.out).mono ?_);(case Ah=>exact kC (Kd.Q_reads' Ad.out).2.2);(case Ai=>exact(Kd.Q_reads' Ad.out).2.1);(case Bk=>exact kC (Kd.R_reads' Cc.out).2.2);(case Bl=>exact(Kd.R_reads' Cc.out).2.1);rintro e Mv ⟨Lz,rfl,Cw,hb⟩;refine⟨_,rfl,?_⟩;replace Af:=Az.mk (Kd.S_elder' (kS Af.out) (Kd.R_base Cw) hb);have Hq:=Az.mk (Kd.R_lower (Kd.R_new' (Kd.R_new' Cw (Kd.Q_lt (kQ Ad.out))) (Kd.R_lt (kR Cc.out))) (keep_size (w:=w) (g:=g) (row:=none) (kK HK.out)));replace Ad:=Az.mk (Kd.Q_elder' (kQ Ad.out) (Kd.R_base Cw) hb);replace Cc:=Az.mk (Kd.R_elder' (kR Cc.out) (Kd.R_base Cw) hb);replace HK:=Az.mk (KeepBut.trans (kK HK.out) (KeepBut.of_below hb g none) (.inl rfl));replace HB:=Az.mk (bwT (kG HB.out (IsS63.ge HI0.out)) hb);replace HI0:=Az.mk (IsS63.below (kI HI0.out) hb);(try clear hb);(try clear Cw)))
   go_roundg k1
   case measure=>have:=HK1.out;omega
   case rel=>exact⟨(Hp),(wrap64 (Cj - 1)),(Hn),(Ho),rq2,H',⟨by have:=HK1.out;omega⟩,⟨by(with_reducible repeat(first|apply Kd.S_alloc|apply Kd.S_drewN|apply Kd.S_drew));exact Kd.S_mono Af.out (fun _ hk=>hk.2)⟩,⟨Kd.Q_of_R (by(with_reducible repeat(first|apply Kd.R_alloc|apply Kd.R_drewN|apply Kd.R_drew));exact Kd.R_mono Hq.out (fun _ hk=>trivial))⟩,⟨kI HI0.out⟩,⟨kK HK.out⟩,⟨kG HB.out (IsS63.ge HI0.out)⟩⟩
  rw[ig Ez]at H
  have Ep:decide (0<Cj)=false:=decide_eq_false Ez
  clear Ez
  have H':=Az.mk H
  clear H
  go_wp2
  go_loopg [5,8] k1 (fun kq v5 v8 w'=>∃(Ao:List Int) (Bm:Int) (Aj:Int) (Ak:Int),v8= .int .i64 Bm∧Az (fM.l1 kq Al Ao Bm Ae Aj Ak=some (r1,r2,r3,r4))∧Az (kq≤k1)∧Az (Kd.S (Kd.slice 3 (Kd.int .i64)) 25 w' w.heap.size (fun k_=>some k_≠(v5:Value).ownBlock) (.slice Hl Al.length Hm) Al)∧Az (Kd.Q (Kd.int .i64) 3 w' w.heap.size (fun _=>True) v5 Ao)∧Az (IsS63 w0 w' g Ae Aj Ak)∧Az (KeepBut w w' g none)∧Az (Below w0.heap.size w0 w'))
  case atStart=>exact⟨(Cy),(0),(Ax),(Ay),rq2,H',⟨Nat.le_refl _⟩,⟨kS Af.out⟩,⟨kQ Ad.out⟩,⟨kI HI0.out⟩,⟨kK HK.out⟩,⟨kG HB.out (IsS63.ge HI0.out)⟩⟩
  clear H'
  try clear c4
  try clear Hd
  try clear He
  try clear c5
  try clear Hf
  try clear Hg
  try clear Ez
  try clear Ep
  obtain⟨Ao,Bm,Aj,Ak,rfl,HA,HK2,Af,Ad,HI0,HK,HB⟩:=hrel
  cases gk with
  |zero=>exact absurd HA.out (by simp[fM.l1])
  |succ k2=>
   have H:=HA.out
   clear HA
   simp only[fM.l1]at H
   by_cases Hc:Bm<12
   ·rw[ip Hc]at H
    have Hr:=ode Hc
    clear Hc
    obtain⟨Cz,hy⟩:∃y_:List Int,y_=(([]:List Int)):=⟨_,rfl⟩
    replace H:(if Cz.length+Ao.length<17592186044416 then((some (Cz ++ Ao:List Int)).bind fun Am=>((fB.f Ae Aj Ak (Am.length:Int)).bind fun Bb=>((fB.f Ae Bb.2.1 Bb.2.2 7).bind fun Br=>(if 0≤Bb.1 then(if Bb.1<(Am.length:Int) then((fB.f Ae Br.2.1 Br.2.2 (Am.length:Int)).bind fun As=>((fB.f Ae As.2.1 As.2.2 7).bind fun Au=>(if 0≤As.1 then(if As.1<(Am.length:Int) then((some ((Am.set (Bb.1:Int).toNat Br.1).set (As.1:Int).toNat Au.1:List Int)).bind fun Av=>((fN.f k2 Al Av).bind fun Ce=>(if Ce=true then(fM.l1 k2 Al Av (wrap64 (Bm+1)) Ae Au.2.1 Au.2.2) else(fM.l1 k2 Al Ao (wrap64 (Bm+1)) Ae Au.2.1 Au.2.2)))) else(none)) else(none)))) else(none)) else(none))))) else(none))=some (r1,r2,r3,r4):=rh
    have Cr:=Az.mk hy
    clear hy
    by_cases Iq:Cz.length+Ao.length<17592186044416
    rotate_left
    ·rw[ig Iq]at H
     exact absurd H (by simp)
    rw[ip Iq]at H
    have LMc24:=Az.mk Iq
    clear Iq
    obtain⟨Am,hy⟩:∃y_:List Int,y_=(Cz ++ Ao):=⟨_,rfl⟩
    replace H:((fB.f Ae Aj Ak (Am.length:Int)).bind fun Bb=>((fB.f Ae Bb.2.1 Bb.2.2 7).bind fun Br=>(if 0≤Bb.1 then(if Bb.1<(Am.length:Int) then((fB.f Ae Br.2.1 Br.2.2 (Am.length:Int)).bind fun As=>((fB.f Ae As.2.1 As.2.2 7).bind fun Au=>(if 0≤As.1 then(if As.1<(Am.length:Int) then((some ((Am.set (Bb.1:Int).toNat Br.1).set (As.1:Int).toNat Au.1:List Int)).bind fun Av=>((fN.f k2 Al Av).bind fun Ce=>(if Ce=true then(fM.l1 k2 Al Av (wrap64 (Bm+1)) Ae Au.2.1 Au.2.2) else(fM.l1 k2 Al Ao (wrap64 (Bm+1)) Ae Au.2.1 Au.2.2)))) else(none)) else(none)))) else(none)) else(none))))=some (r1,r2,r3,r4):=rh
    have Er:=Az.mk hy
    clear hy
    replace H:=bez H
    obtain⟨⟨Bc,Bw,Bx⟩,Kt,H⟩:=H
    try dsimp only at H
    replace H:=bez H
    obtain⟨⟨Ck,Bs,Bt⟩,Ku,H⟩:=H
    try dsimp only at H
    by_cases Ir:0≤Bc
    rotate_left
    ·rw[ig Ir]at H
     exact absurd H (by simp)
    rw[ip Ir]at H
    have Kv:=ode Ir
    clear Ir
    by_cases It:Bc<(Am.length:Int)
    rotate_left
    ·rw[ig It]at H
     exact absurd H (by simp)
    rw[ip It]at H
    have Kw:=ode It
    clear It
    obtain⟨Ed,hy⟩:∃y_:List Int,y_=(Am.set (Bc:Int).toNat Ck):=⟨_,rfl⟩
    replace H:((fB.f Ae Bs Bt (Am.length:Int)).bind fun As=>((fB.f Ae As.2.1 As.2.2 7).bind fun Au=>(if 0≤As.1 then(if As.1<(Am.length:Int) then((some (Ed.set (As.1:Int).toNat Au.1:List Int)).bind fun Av=>((fN.f k2 Al Av).bind fun Ce=>(if Ce=true then(fM.l1 k2 Al Av (wrap64 (Bm+1)) Ae Au.2.1 Au.2.2) else(fM.l1 k2 Al Ao (wrap64 (Bm+1)) Ae Au.2.1 Au.2.2)))) else(none)) else(none))))=some (r1,r2,r3,r4):=rh
    have Es:=Az.mk hy
    clear hy
    replace H:=bez H
    obtain⟨⟨Bd,By,Bz⟩,Kx,H⟩:=H
    try dsimp only at H
    replace H:=bez H
    obtain⟨⟨Cl,Da,Db⟩,Ky,H⟩:=H
    try dsimp only at H
    by_cases Iu:0≤Bd
    rotate_left
    ·rw[ig Iu]at H
     exact absurd H (by simp)
    rw[ip Iu]at H
    have Kz:=ode Iu
    clear Iu
    by_cases Iw:Bd<(Am.length:Int)
    rotate_left
    ·rw[ig Iw]at H
     exact absurd H (by simp)
    rw[ip Iw]at H
    have La:=ode Iw
    clear Iw
    obtain⟨Av,hy⟩:∃y_:List Int,y_=(Ed.set (Bd:Int).toNat Cl):=⟨_,rfl⟩
    replace H:((fN.f k2 Al Av).bind fun Ce=>(if Ce=true then(fM.l1 k2 Al Av (wrap64 (Bm+1)) Ae Da Db) else(fM.l1 k2 Al Ao (wrap64 (Bm+1)) Ae Da Db)))=some (r1,r2,r3,r4):=rh
    have Et:=Az.mk hy
    clear hy
    replace H:=bez H
    obtain⟨Ce,Lb,H⟩:=H
    try dsimp only at H
    by_cases Ix:Ce=true
    ·subst Ix
     rw[ip rfl]at H
     have H':=Az.mk H
     clear H
     go_wp2_with (first|((with_reducible refine gtD (N:=42) rfl ?_);refine Kd.R_lit (Kd.int .i64) _ 3 ?hg (N:=42) ?hd (xs:=([]:List Int)) (inner:=[]) (ok:=fun _=>True) (okp:=fun _=>True) ?hr ?hp (fun _ hk=>hk) trivial (Below.refl _ _) (Nat.le_refl _) (by simp) ?_;(case hd=>rfl);(case hg=>rfl);(case hr=>first|(go_simp;done)|(go_simp;rfl));(case hp=>exact(Reps.none _ _));intro Gd Mw Cm hb hg_ hnew_;clear hg_ hnew_;(first|rw[←Cr.out]at Cm|(simp only[Int.reduceToNat]at Cm;rw[←Cr.out]at Cm));replace Af:=Az.mk (Kd.S_elder' (kS Af.out) (Kd.R_base Cm) hb);have Bn:=Az.mk (Kd.R_lower (Kd.R_new' Cm (Kd.Q_lt (kQ Ad.out))) (keep_size (w:=w) (g:=g) (row:=none) (kK HK.out)));replace Ad:=Az.mk (Kd.Q_elder' (kQ Ad.out) (Kd.R_base Cm) hb);replace HK:=Az.mk (KeepBut.trans (kK HK.out) (KeepBut.of_below hb g none) (.inl rfl));replace HB:=Az.mk (bwT (kG HB.out (IsS63.ge HI0.out)) hb);replace HI0:=Az.mk (IsS63.below (kI HI0.out) hb);clear hb Cm;obtain⟨Dc,Dd,Jm,_⟩:=Kd.Q_slice Ad.out;subst Jm)|((with_reducible refine gate_builtin (b:= .append) (xs:= #[.tmp 42, .tmp 43]) rfl ?_);at_builtin;refine Kd.R_append_rows (Kd.int .i64) w.heap.size rfl (.tmp 42) (.tmp 43) 25 3 (.int .i64 0) 8 rfl Try.underlying25 info3 rfl (by decide) (by omega) Gd Cz Ao _ _ _ (fun k_=>some k_≠(.slice Dc Ao.length Dd:Value).ownBlock) (fun _=>False) rfl rfl ?aO ?aR (fun _ _ h=>h) (fun _ h=>h.elim) ?aF (Below.refl _ _) ?aS ?aL ?_;(case aR=>exact kC (Kd.Q_reads' Ad.out).2.2);(case aF=>exact(fun k_ hk=>Kd.fresh' (Kd.Q_lt (kQ Ad.out)) k_ hk));(case aO=>exact(by(with_reducible repeat(first|apply Kd.R_alloc|apply Kd.R_drewN|apply Kd.R_drew));exact Kd.R_mono Bn.out (fun _ hk=>hk.2)));(case aS=>exact(keep_size (w:=w) (g:=g) (row:=none) (kK HK.out)));(case aL=>have:=LMc24.out;omega);intro Jo Mx ho hb hg hat;rw[←Er.out]at ho;have n0_:=Az.mk (Kd.S_after (ok:=(fun k_=>some k_≠(.slice Dc Ao.length Dd:Value).ownBlock)) (kS Af.out) hg hat);have n1_:=Az.mk (Kd.Q_after (ok:=(fun _=>True)) (kQ Ad.out) hg hat);have n2_:=Az.mk (IsS63.grown (kI HI0.out) hg (IsS63.own_ne HI0.out Bn.out (by decide)));have n3_:=Az.mk (below_weaken (kG HB.out (IsS63.ge HI0.out)) HL.out hb);have n4_:=Az.mk (KeepBut.trans (kK HK.out) (KeepBut.of_grown hg g) (Kd.R_base2 Bn.out));have n5_:=Az.mk (ho);clear Af;clear Ad;clear HI0;clear HB;clear HK;clear Bn;have Af:=n0_;have Ad:=n1_;have HI0:=n2_;have HB:=n3_;have HK:=n4_;have Ag:=n5_;clear n0_ n1_ n2_ n3_ n4_ n5_;clear ho hb hg hat;obtain⟨Ma,Bu,Jp⟩:=Kd.R_slice Ag.out;subst Jp)|((with_reducible refine gtC (f:=51) rfl ?_);refine clz Try.func51 (some 49) #[.pointer (some ⟨g,0,none⟩), .int .i64 (Am.length:Int)] ?_;(with_reducible refine(fB.calls g Ae Aj Ak (Am.length:Int) Bc Bw Bx w0 _ ?Ah ?Ai Kt.out).mono ?_);(case Ah=>exact(kI HI0.out));(case Ai=>exact kG HB.out (IsS63.ge HI0.out));rintro e My ⟨rfl,hi,hb,hk⟩;refine⟨_,rfl,?_⟩;replace Af:=Az.mk (Kd.S_mono (Kd.S_keep (IsS63.apartS (show IsS63 w0 _ g Ae Aj Ak from kI HI0.out) (kS Af.out) (by decide)) hk (fun _ h=>h.2)) (fun _ h=>h.1));replace Ad:=Az.mk (Kd.Q_mono (Kd.Q_keep (IsS63.apartQ (show IsS63 w0 _ g Ae Aj Ak from kI HI0.out) (kQ Ad.out) (by decide)) hk (fun _ h=>h.2)) (fun _ h=>h.1));replace Ag:=Az.mk (Kd.R_mono (Kd.R_keep (IsS63.apart (show IsS63 w0 _ g Ae Aj Ak from kI HI0.out) (kR Ag.out) (by decide)) hk (fun _ h=>h.2)) (fun _ h=>h.1));replace HK:=Az.mk (KeepBut.trans (kK HK.out) hk (.inl rfl));replace HB:=Az.mk (hb);replace HI0:=Az.mk (hi);(try clear hb);(try clear hk);(try clear hi))|((with_reducible refine gtC (f:=51) rfl ?_);refine clz Try.func51 (some 51) #[.pointer (some ⟨g,0,none⟩), .int .i64 7] ?_;(with_reducible refine(fB.calls g Ae Bw Bx 7 Ck Bs Bt w0 _ ?Ah ?Ai Ku.out).mono ?_);(case Ah=>exact(kI HI0.out));(case Ai=>exact kG HB.out (IsS63.ge HI0.out));rintro e Lc ⟨rfl,hi,hb,hk⟩;refine⟨_,rfl,?_⟩;replace Af:=Az.mk (Kd.S_mono (Kd.S_keep (IsS63.apartS (show IsS63 w0 _ g Ae Bw Bx from kI HI0.out) (kS Af.out) (by decide)) hk (fun _ h=>h.2)) (fun _ h=>h.1));replace Ad:=Az.mk (Kd.Q_mono (Kd.Q_keep (IsS63.apartQ (show IsS63 w0 _ g Ae Bw Bx from kI HI0.out) (kQ Ad.out) (by decide)) hk (fun _ h=>h.2)) (fun _ h=>h.1));replace Ag:=Az.mk (Kd.R_mono (Kd.R_keep (IsS63.apart (show IsS63 w0 _ g Ae Bw Bx from kI HI0.out) (kR Ag.out) (by decide)) hk (fun _ h=>h.2)) (fun _ h=>h.1));replace HK:=Az.mk (KeepBut.trans (kK HK.out) hk (.inl rfl));replace HB:=Az.mk (hb);replace HI0:=Az.mk (hi);(try clear hb);(try clear hk);(try clear hi);have Ge:0≤(Bc:Int):=od;have Gf:(Bc:Int)<((Am.length:Int):Int):=od;obtain⟨Ap,Jq,Dk,Dl,gl29,Jr,HG29⟩:=Kd.R_form Ag.out (by omega);(first|cases Dk|(injection Dk with ea_ en_ ec_;(first|subst ea_|(injection ea_ with ea_;subst ea_));subst ec_;clear en_));have Dm:=Az.mk Dl;have Js:=Az.mk HG29;clear Dl gl29 HG29;obtain⟨Gg,Gh⟩:=Kd.R_celln 0 Ag.out (Bc:Int) Ge Gf;replace Ge:=ets Ge;replace Gf:=ets Gf;obtain⟨hy44_,hz44_⟩:=Kd.R_celln 0 Ag.out (Bc:Int) (od) (od);have Gi:=Kd.R_putg Ag.out (Bc:Int) Ck)|((with_reducible refine gate_store (t:=3) (p:=52) rfl ?_);refine store_event (t:=3) (p:=52) (v:=?vo_w45) (w1:=(Lc.setCell ⟨Ap,(Bc:Int).toNat,none⟩ (.int .i64 Ck))) ?hg ?ho ?hn ?hr ?_;(case ho=>rfl);(case hg=>rfl);(case hn=>rfl);(case hr=>first|(go_simp;done)|(go_simp;rfl));intro Jt hw;have hg:Lc.grownBy Jt (some Ap):=(by rw[hw];exact Gi.2);have hp_:Kd.R (Kd.int .i64) 3 Jt w.heap.size (fun k_=>some k_≠(.slice Dc Ao.length Dd:Value).ownBlock) (.slice (some ⟨Ap,0,none⟩) Am.length Bu) Ed:=(by rw[hw,Es.out];exact Gi.1);clear Gi;replace Af:=Az.mk (Kd.S_after (v:=(.slice (some ⟨Ap,0,none⟩) Am.length Bu)) (v1:=(.slice (some ⟨Ap,0,none⟩) Am.length Bu)) (ok:=(fun k_=>some k_≠(.slice Dc Ao.length Dd:Value).ownBlock)) (kS Af.out) hg (.inl rfl));replace Ad:=Az.mk (Kd.Q_after (v:=(.slice (some ⟨Ap,0,none⟩) Am.length Bu)) (v1:=(.slice (some ⟨Ap,0,none⟩) Am.length Bu)) (ok:=(fun _=>True)) (kQ Ad.out) hg (.inl rfl));replace HI0:=Az.mk (IsS63.grown (kI HI0.out) hg (IsS63.own_ne HI0.out Ag.out (by decide)));replace HB:=Az.mk ((by rw[hw];exact bwS (HB.out) (Nat.le_trans HL.out Dm.out):Below w0.heap.size w0 Jt));replace HK:=Az.mk (KeepBut.trans (kK HK.out) (KeepBut.of_grown hg g) (Kd.R_base2 Ag.out));replace Ag:=Az.mk (hp_);clear hg hw hp_)|((with_reducible refine gtC (f:=51) rfl ?_);refine clz Try.func51 (some 57) #[.pointer (some ⟨g,0,none⟩), .int .i64 (Am.length:Int)] ?_;(with_reducible refine(fB.calls g Ae Bs Bt (Am.length:Int) Bd By Bz w0 _ ?Ah ?Ai Kx.out).mono ?_);(case Ah=>exact(kI HI0.out));(case Ai=>exact kG HB.out (IsS63.ge HI0.out));rintro e Mz ⟨rfl,hi,hb,hk⟩;refine⟨_,rfl,?_⟩;replace Af:=Az.mk (Kd.S_mono (Kd.S_keep (IsS63.apartS (show IsS63 w0 _ g Ae Bs Bt from kI HI0.out) (kS Af.out) (by decide)) hk (fun _ h=>h.2)) (fun _ h=>h.1));replace Ad:=Az.mk (Kd.Q_mono (Kd.Q_keep (IsS63.apartQ (show IsS63 w0 _ g Ae Bs Bt from kI HI0.out) (kQ Ad.out) (by decide)) hk (fun _ h=>h.2)) (fun _ h=>h.1));replace Ag:=Az.mk (Kd.R_mono (Kd.R_keep (IsS63.apart (show IsS63 w0 _ g Ae Bs Bt from kI HI0.out) (kR Ag.out) (by decide)) hk (fun _ h=>h.2)) (fun _ h=>h.1));replace HK:=Az.mk (KeepBut.trans (kK HK.out) hk (.inl rfl));replace HB:=Az.mk (hb);replace HI0:=Az.mk (hi);(try clear hb);(try clear hk);(try clear hi))|((with_reducible refine gtC (f:=51) rfl ?_);refine clz Try.func51 (some 59) #[.pointer (some ⟨g,0,none⟩), .int .i64 7] ?_;(with_reducible refine(fB.calls g Ae By Bz 7 Cl Da Db w0 _ ?Ah ?Ai Ky.out).mono ?_);(case Ah=>exact(kI HI0.out));(case Ai=>exact kG HB.out (IsS63.ge HI0.out));rintro e Ld ⟨rfl,hi,hb,hk⟩;refine⟨_,rfl,?_⟩;replace Af:=Az.mk (Kd.S_mono (Kd.S_keep (IsS63.apartS (show IsS63 w0 _ g Ae By Bz from kI HI0.out) (kS Af.out) (by decide)) hk (fun _ h=>h.2)) (fun _ h=>h.1));replace Ad:=Az.mk (Kd.Q_mono (Kd.Q_keep (IsS63.apartQ (show IsS63 w0 _ g Ae By Bz from kI HI0.out) (kQ Ad.out) (by decide)) hk (fun _ h=>h.2)) (fun _ h=>h.1));replace Ag:=Az.mk (Kd.R_mono (Kd.R_keep (IsS63.apart (show IsS63 w0 _ g Ae By Bz from kI HI0.out) (kR Ag.out) (by decide)) hk (fun _ h=>h.2)) (fun _ h=>h.1));replace HK:=Az.mk (KeepBut.trans (kK HK.out) hk (.inl rfl));replace HB:=Az.mk (hb);replace HI0:=Az.mk (hi);(try clear hb);(try clear hk);(try clear hi);have Gj:0≤(Bd:Int):=od;have Gk:(Bd:Int)<((Am.length:Int):Int):=od;obtain⟨Gl,Gm⟩:=Kd.R_celln 0 Ag.out (Bd:Int) Gj Gk;replace Gj:=ets Gj;replace Gk:=ets Gk;obtain⟨hy48_,hz48_⟩:=Kd.R_celln 0 Ag.out (Bd:Int) (od) (od);have Gn:=Kd.R_putg Ag.out (Bd:Int) Cl)|((with_reducible refine gate_store (t:=3) (p:=60) rfl ?_);refine store_event (t:=3) (p:=60) (v:=?vo_w49) (w1:=(Ld.setCell ⟨Ap,(Bd:Int).toNat,none⟩ (.int .i64 Cl))) ?hg ?ho ?hn ?hr ?_;(case ho=>rfl);(case hg=>rfl);(case hn=>rfl);(case hr=>first|(go_simp;done)|(go_simp;rfl));intro Ju hw;have hg:Ld.grownBy Ju (some Ap):=(by rw[hw];exact Gn.2);have hp_:Kd.R (Kd.int .i64) 3 Ju w.heap.size (fun k_=>some k_≠(.slice Dc Ao.length Dd:Value).ownBlock) (.slice (some ⟨Ap,0,none⟩) Am.length Bu) Av:=(by rw[hw,Et.out];exact Gn.1);clear Gn;replace Af:=Az.mk (Kd.S_after (v:=(.slice (some ⟨Ap,0,none⟩) Am.length Bu)) (v1:=(.slice (some ⟨Ap,0,none⟩) Am.length Bu)) (ok:=(fun k_=>some k_≠(.slice Dc Ao.length Dd:Value).ownBlock)) (kS Af.out) hg (.inl rfl));replace Ad:=Az.mk (Kd.Q_after (v:=(.slice (some ⟨Ap,0,none⟩) Am.length Bu)) (v1:=(.slice (some ⟨Ap,0,none⟩) Am.length Bu)) (ok:=(fun _=>True)) (kQ Ad.out) hg (.inl rfl));replace HI0:=Az.mk (IsS63.grown (kI HI0.out) hg (IsS63.own_ne HI0.out Ag.out (by decide)));replace HB:=Az.mk ((by rw[hw];exact bwS (HB.out) (Nat.le_trans HL.out Dm.out):Below w0.heap.size w0 Ju));replace HK:=Az.mk (KeepBut.trans (kK HK.out) (KeepBut.of_grown hg g) (Kd.R_base2 Ag.out));replace Ag:=Az.mk (hp_);clear hg hw hp_)|((with_reducible refine gtC (f:=38) rfl ?_);refine goesL_ (some 63) rfl rfl Try.func38 (by kernel_rfl) rfl #[.slice Hl Al.length Hm, .slice (some ⟨Ap,0,none⟩) Av.length Bu] rfl (by(try simp only[List.map_toArray,List.map_cons,List.map_nil]);first|done|(rw[show Av.length=Am.length from(Kd.R_reads' Ag.out).1.symm] <;> rfl)|rfl|(simp only[List.length_drop,List.length_take];rfl)) ?_;(with_reducible refine(fN.calls k2 _ _ Al _ _ Av true _ ?Ah ?Ai ?Bk ?Bl Lb.out).mono ?_);(case Ah=>exact kC (Kd.S_reads' Af.out).2.2);(case Ai=>exact(Kd.S_reads' Af.out).2.1);(case Bk=>exact kC (Kd.R_reads' Ag.out).2.2);(case Bl=>rw[show Av.length=Am.length from(Kd.R_reads' Ag.out).1.symm];exact(Kd.R_reads' Ag.out).2.1);rintro e Na ⟨rfl,hb⟩;refine⟨_,rfl,?_⟩;replace Af:=Az.mk (Kd.S_below (kS Af.out) hb);replace Ad:=Az.mk (Kd.Q_below (kQ Ad.out) hb);replace Ag:=Az.mk (Kd.R_below (kR Ag.out) hb);replace HK:=Az.mk (KeepBut.trans (kK HK.out) (KeepBut.of_below hb g none) (.inl rfl));replace HB:=Az.mk (bwT (kG HB.out (IsS63.ge HI0.out)) hb);replace HI0:=Az.mk (IsS63.below (kI HI0.out) hb);(try clear hb)))
     go_roundg k2
     case measure=>have:=HK1.out;have:=HK2.out;omega
     case rel=>exact⟨(Av),(wrap64 (Bm+1)),(Da),(Db),rq2,H',⟨by have:=HK1.out;have:=HK2.out;omega⟩,⟨by(with_reducible repeat(first|apply Kd.S_alloc|apply Kd.S_drewN|apply Kd.S_drew));exact Kd.S_mono Af.out (fun _ hk=>hk.2)⟩,⟨Kd.Q_of_R (by(with_reducible repeat(first|apply Kd.R_alloc|apply Kd.R_drewN|apply Kd.R_drew));exact Kd.R_mono Ag.out (fun _ hk=>trivial))⟩,⟨kI HI0.out⟩,⟨kK HK.out⟩,⟨kG HB.out (IsS63.ge HI0.out)⟩⟩
    replace Ix:=Bool.eq_false_iff.mpr Ix
    subst Ix
    rw[ig ff]at H
    have H':=Az.mk H
    clear H
    go_wp2_with (first|((with_reducible refine gtD (N:=42) rfl ?_);refine Kd.R_lit (Kd.int .i64) _ 3 ?hg (N:=42) ?hd (xs:=([]:List Int)) (inner:=[]) (ok:=fun _=>True) (okp:=fun _=>True) ?hr ?hp (fun _ hk=>hk) trivial (Below.refl _ _) (Nat.le_refl _) (by simp) ?_;(case hd=>rfl);(case hg=>rfl);(case hr=>first|(go_simp;done)|(go_simp;rfl));(case hp=>exact(Reps.none _ _));intro Gd Nb Cn hb hg_ hnew_;clear hg_ hnew_;(first|rw[←Cr.out]at Cn|(simp only[Int.reduceToNat]at Cn;rw[←Cr.out]at Cn));replace Af:=Az.mk (Kd.S_elder' (kS Af.out) (Kd.R_base Cn) hb);have Bn:=Az.mk (Kd.R_lower (Kd.R_new' Cn (Kd.Q_lt (kQ Ad.out))) (keep_size (w:=w) (g:=g) (row:=none) (kK HK.out)));replace Ad:=Az.mk (Kd.Q_elder' (kQ Ad.out) (Kd.R_base Cn) hb);replace HK:=Az.mk (KeepBut.trans (kK HK.out) (KeepBut.of_below hb g none) (.inl rfl));replace HB:=Az.mk (bwT (kG HB.out (IsS63.ge HI0.out)) hb);replace HI0:=Az.mk (IsS63.below (kI HI0.out) hb);clear hb Cn;obtain⟨De,Df,Jv,_⟩:=Kd.Q_slice Ad.out;subst Jv)|((with_reducible refine gate_builtin (b:= .append) (xs:= #[.tmp 42, .tmp 43]) rfl ?_);at_builtin;refine Kd.R_append_rows (Kd.int .i64) w.heap.size rfl (.tmp 42) (.tmp 43) 25 3 (.int .i64 0) 8 rfl Try.underlying25 info3 rfl (by decide) (by omega) Gd Cz Ao _ _ _ (fun k_=>some k_≠(.slice De Ao.length Df:Value).ownBlock) (fun _=>False) rfl rfl ?aO ?aR (fun _ _ h=>h) (fun _ h=>h.elim) ?aF (Below.refl _ _) ?aS ?aL ?_;(case aR=>exact kC (Kd.Q_reads' Ad.out).2.2);(case aF=>exact(fun k_ hk=>Kd.fresh' (Kd.Q_lt (kQ Ad.out)) k_ hk));(case aO=>exact(by(with_reducible repeat(first|apply Kd.R_alloc|apply Kd.R_drewN|apply Kd.R_drew));exact Kd.R_mono Bn.out (fun _ hk=>hk.2)));(case aS=>exact(keep_size (w:=w) (g:=g) (row:=none) (kK HK.out)));(case aL=>have:=LMc24.out;omega);intro Jo Nc ho hb hg hat;rw[←Er.out]at ho;have n0_:=Az.mk (Kd.S_after (ok:=(fun k_=>some k_≠(.slice De Ao.length Df:Value).ownBlock)) (kS Af.out) hg hat);have n1_:=Az.mk (Kd.Q_after (ok:=(fun _=>True)) (kQ Ad.out) hg hat);have n2_:=Az.mk (IsS63.grown (kI HI0.out) hg (IsS63.own_ne HI0.out Bn.out (by decide)));have n3_:=Az.mk (below_weaken (kG HB.out (IsS63.ge HI0.out)) HL.out hb);have n4_:=Az.mk (KeepBut.trans (kK HK.out) (KeepBut.of_grown hg g) (Kd.R_base2 Bn.out));have n5_:=Az.mk (ho);clear Af;clear Ad;clear HI0;clear HB;clear HK;clear Bn;have Af:=n0_;have Ad:=n1_;have HI0:=n2_;have HB:=n3_;have HK:=n4_;have Ag:=n5_;clear n0_ n1_ n2_ n3_ n4_ n5_;clear ho hb hg hat;obtain⟨Mb,Bv,Jw⟩:=Kd.R_slice Ag.out;subst Jw)|((with_reducible refine gtC (f:=51) rfl ?_);refine clz Try.func51 (some 49) #[.pointer (some ⟨g,0,none⟩), .int .i64 (Am.length:Int)] ?_;(with_reducible refine(fB.calls g Ae Aj Ak (Am.length:Int) Bc Bw Bx w0 _ ?Ah ?Ai Kt.out).mono ?_);(case Ah=>exact(kI HI0.out));(case Ai=>exact kG HB.out (IsS63.ge HI0.out));rintro e Nd ⟨rfl,hi,hb,hk⟩;refine⟨_,rfl,?_⟩;replace Af:=Az.mk (Kd.S_mono (Kd.S_keep (IsS63.apartS (show IsS63 w0 _ g Ae Aj Ak from kI HI0.out) (kS Af.out) (by decide)) hk (fun _ h=>h.2)) (fun _ h=>h.1));replace Ad:=Az.mk (Kd.Q_mono (Kd.Q_keep (IsS63.apartQ (show IsS63 w0 _ g Ae Aj Ak from kI HI0.out) (kQ Ad.out) (by decide)) hk (fun _ h=>h.2)) (fun _ h=>h.1));replace Ag:=Az.mk (Kd.R_mono (Kd.R_keep (IsS63.apart (show IsS63 w0 _ g Ae Aj Ak from kI HI0.out) (kR Ag.out) (by decide)) hk (fun _ h=>h.2)) (fun _ h=>h.1));replace HK:=Az.mk (KeepBut.trans (kK HK.out) hk (.inl rfl));replace HB:=Az.mk (hb);replace HI0:=Az.mk (hi);(try clear hb);(try clear hk);(try clear hi))|((with_reducible refine gtC (f:=51) rfl ?_);refine clz Try.func51 (some 51) #[.pointer (some ⟨g,0,none⟩), .int .i64 7] ?_;(with_reducible refine(fB.calls g Ae Bw Bx 7 Ck Bs Bt w0 _ ?Ah ?Ai Ku.out).mono ?_);(case Ah=>exact(kI HI0.out));(case Ai=>exact kG HB.out (IsS63.ge HI0.out));rintro e Le ⟨rfl,hi,hb,hk⟩;refine⟨_,rfl,?_⟩;replace Af:=Az.mk (Kd.S_mono (Kd.S_keep (IsS63.apartS (show IsS63 w0 _ g Ae Bw Bx from kI HI0.out) (kS Af.out) (by decide)) hk (fun _ h=>h.2)) (fun _ h=>h.1));replace Ad:=Az.mk (Kd.Q_mono (Kd.Q_keep (IsS63.apartQ (show IsS63 w0 _ g Ae Bw Bx from kI HI0.out) (kQ Ad.out) (by decide)) hk (fun _ h=>h.2)) (fun _ h=>h.1));replace Ag:=Az.mk (Kd.R_mono (Kd.R_keep (IsS63.apart (show IsS63 w0 _ g Ae Bw Bx from kI HI0.out) (kR Ag.out) (by decide)) hk (fun _ h=>h.2)) (fun _ h=>h.1));replace HK:=Az.mk (KeepBut.trans (kK HK.out) hk (.inl rfl));replace HB:=Az.mk (hb);replace HI0:=Az.mk (hi);(try clear hb);(try clear hk);(try clear hi);have Ge:0≤(Bc:Int):=od;have Gf:(Bc:Int)<((Am.length:Int):Int):=od;obtain⟨Ap,Jq,Dk,Dl,gl29,Jr,HG29⟩:=Kd.R_form Ag.out (by omega);(first|cases Dk|(injection Dk with ea_ en_ ec_;(first|subst ea_|(injection ea_ with ea_;subst ea_));subst ec_;clear en_));have Dm:=Az.mk Dl;have Js:=Az.mk HG29;clear Dl gl29 HG29;obtain⟨Gg,Gh⟩:=Kd.R_celln 0 Ag.out (Bc:Int) Ge Gf;replace Ge:=ets Ge;replace Gf:=ets Gf;obtain⟨hy58_,hz58_⟩:=Kd.R_celln 0 Ag.out (Bc:Int) (od) (od);have Gp:=Kd.R_putg Ag.out (Bc:Int) Ck)|((with_reducible refine gate_store (t:=3) (p:=52) rfl ?_);refine store_event (t:=3) (p:=52) (v:=?vo_w59) (w1:=(Le.setCell ⟨Ap,(Bc:Int).toNat,none⟩ (.int .i64 Ck))) ?hg ?ho ?hn ?hr ?_;(case ho=>rfl);(case hg=>rfl);(case hn=>rfl);(case hr=>first|(go_simp;done)|(go_simp;rfl));intro Jx hw;have hg:Le.grownBy Jx (some Ap):=(by rw[hw];exact Gp.2);have hp_:Kd.R (Kd.int .i64) 3 Jx w.heap.size (fun k_=>some k_≠(.slice De Ao.length Df:Value).ownBlock) (.slice (some ⟨Ap,0,none⟩) Am.length Bv) Ed:=(by rw[hw,Es.out];exact Gp.1);clear Gp;replace Af:=Az.mk (Kd.S_after (v:=(.slice (some ⟨Ap,0,none⟩) Am.length Bv)) (v1:=(.slice (some ⟨Ap,0,none⟩) Am.length Bv)) (ok:=(fun k_=>some k_≠(.slice De Ao.length Df:Value).ownBlock)) (kS Af.out) hg (.inl rfl));replace Ad:=Az.mk (Kd.Q_after (v:=(.slice (some ⟨Ap,0,none⟩) Am.length Bv)) (v1:=(.slice (some ⟨Ap,0,none⟩) Am.length Bv)) (ok:=(fun _=>True)) (kQ Ad.out) hg (.inl rfl));replace HI0:=Az.mk (IsS63.grown (kI HI0.out) hg (IsS63.own_ne HI0.out Ag.out (by decide)));replace HB:=Az.mk ((by rw[hw];exact bwS (HB.out) (Nat.le_trans HL.out Dm.out):Below w0.heap.size w0 Jx));replace HK:=Az.mk (KeepBut.trans (kK HK.out) (KeepBut.of_grown hg g) (Kd.R_base2 Ag.out));replace Ag:=Az.mk (hp_);clear hg hw hp_)|((with_reducible refine gtC (f:=51) rfl ?_);refine clz Try.func51 (some 57) #[.pointer (some ⟨g,0,none⟩), .int .i64 (Am.length:Int)] ?_;(with_reducible refine(fB.calls g Ae Bs Bt (Am.length:Int) Bd By Bz w0 _ ?Ah ?Ai Kx.out).mono ?_);(case Ah=>exact(kI HI0.out));(case Ai=>exact kG HB.out (IsS63.ge HI0.out));rintro e Nf ⟨rfl,hi,hb,hk⟩;refine⟨_,rfl,?_⟩;replace Af:=Az.mk (Kd.S_mono (Kd.S_keep (IsS63.apartS (show IsS63 w0 _ g Ae Bs Bt from kI HI0.out) (kS Af.out) (by decide)) hk (fun _ h=>h.2)) (fun _ h=>h.1));replace Ad:=Az.mk (Kd.Q_mono (Kd.Q_keep (IsS63.apartQ (show IsS63 w0 _ g Ae Bs Bt from kI HI0.out) (kQ Ad.out) (by decide)) hk (fun _ h=>h.2)) (fun _ h=>h.1));replace Ag:=Az.mk (Kd.R_mono (Kd.R_keep (IsS63.apart (show IsS63 w0 _ g Ae Bs Bt from kI HI0.out) (kR Ag.out) (by decide)) hk (fun _ h=>h.2)) (fun _ h=>h.1));replace HK:=Az.mk (KeepBut.trans (kK HK.out) hk (.inl rfl));replace HB:=Az.mk (hb);replace HI0:=Az.mk (hi);(try clear hb);(try clear hk);(try clear hi))|((with_reducible refine gtC (f:=51) rfl ?_);refine clz Try.func51 (some 59) #[.pointer (some ⟨g,0,none⟩), .int .i64 7] ?_;(with_reducible refine(fB.calls g Ae By Bz 7 Cl Da Db w0 _ ?Ah ?Ai Ky.out).mono ?_);(case Ah=>exact(kI HI0.out));(case Ai=>exact kG HB.out (IsS63.ge HI0.out));rintro e Lf ⟨rfl,hi,hb,hk⟩;refine⟨_,rfl,?_⟩;replace Af:=Az.mk (Kd.S_mono (Kd.S_keep (IsS63.apartS (show IsS63 w0 _ g Ae By Bz from kI HI0.out) (kS Af.out) (by decide)) hk (fun _ h=>h.2)) (fun _ h=>h.1));replace Ad:=Az.mk (Kd.Q_mono (Kd.Q_keep (IsS63.apartQ (show IsS63 w0 _ g Ae By Bz from kI HI0.out) (kQ Ad.out) (by decide)) hk (fun _ h=>h.2)) (fun _ h=>h.1));replace Ag:=Az.mk (Kd.R_mono (Kd.R_keep (IsS63.apart (show IsS63 w0 _ g Ae By Bz from kI HI0.out) (kR Ag.out) (by decide)) hk (fun _ h=>h.2)) (fun _ h=>h.1));replace HK:=Az.mk (KeepBut.trans (kK HK.out) hk (.inl rfl));replace HB:=Az.mk (hb);replace HI0:=Az.mk (hi);(try clear hb);(try clear hk);(try clear hi);have Gj:0≤(Bd:Int):=od;have Gk:(Bd:Int)<((Am.length:Int):Int):=od;obtain⟨Gl,Gm⟩:=Kd.R_celln 0 Ag.out (Bd:Int) Gj Gk;replace Gj:=ets Gj;replace Gk:=ets Gk;obtain⟨hy62_,hz62_⟩:=Kd.R_celln 0 Ag.out (Bd:Int) (od) (od);have Gq:=Kd.R_putg Ag.out (Bd:Int) Cl)|((with_reducible refine gate_store (t:=3) (p:=60) rfl ?_);refine store_event (t:=3) (p:=60) (v:=?vo_w63) (w1:=(Lf.setCell ⟨Ap,(Bd:Int).toNat,none⟩ (.int .i64 Cl))) ?hg ?ho ?hn ?hr ?_;(case ho=>rfl);(case hg=>rfl);(case hn=>rfl);(case hr=>first|(go_simp;done)|(go_simp;rfl));intro Jy hw;have hg:Lf.grownBy Jy (some Ap):=(by rw[hw];exact Gq.2);have hp_:Kd.R (Kd.int .i64) 3 Jy w.heap.size (fun k_=>some k_≠(.slice De Ao.length Df:Value).ownBlock) (.slice (some ⟨Ap,0,none⟩) Am.length Bv) Av:=(by rw[hw,Et.out];exact Gq.1);clear Gq;replace Af:=Az.mk (Kd.S_after (v:=(.slice (some ⟨Ap,0,none⟩) Am.length Bv)) (v1:=(.slice (some ⟨Ap,0,none⟩) Am.length Bv)) (ok:=(fun k_=>some k_≠(.slice De Ao.length Df:Value).ownBlock)) (kS Af.out) hg (.inl rfl));replace Ad:=Az.mk (Kd.Q_after (v:=(.slice (some ⟨Ap,0,none⟩) Am.length Bv)) (v1:=(.slice (some ⟨Ap,0,none⟩) Am.length Bv)) (ok:=(fun _=>True)) (kQ Ad.out) hg (.inl rfl));replace HI0:=Az.mk (IsS63.grown (kI HI0.out) hg (IsS63.own_ne HI0.out Ag.out (by decide)));replace HB:=Az.mk ((by rw[hw];exact bwS (HB.out) (Nat.le_trans HL.out Dm.out):Below w0.heap.size w0 Jy));replace HK:=Az.mk (KeepBut.trans (kK HK.out) (KeepBut.of_grown hg g) (Kd.R_base2 Ag.out));replace Ag:=Az.mk (hp_);clear hg hw hp_)|((with_reducible refine gtC (f:=38) rfl ?_);refine goesL_ (some 63) rfl rfl Try.func38 (by kernel_rfl) rfl #[.slice Hl Al.length Hm, .slice (some ⟨Ap,0,none⟩) Av.length Bv] rfl (by(try simp only[List.map_toArray,List.map_cons,List.map_nil]);first|done|(rw[show Av.length=Am.length from(Kd.R_reads' Ag.out).1.symm] <;> rfl)|rfl|(simp only[List.length_drop,List.length_take];rfl)) ?_;(with_reducible refine(fN.calls k2 _ _ Al _ _ Av false _ ?Ah ?Ai ?Bk ?Bl Lb.out).mono ?_);(case Ah=>exact kC (Kd.S_reads' Af.out).2.2);(case Ai=>exact(Kd.S_reads' Af.out).2.1);(case Bk=>exact kC (Kd.R_reads' Ag.out).2.2);(case Bl=>rw[show Av.length=Am.length from(Kd.R_reads' Ag.out).1.symm];exact(Kd.R_reads' Ag.out).2.1);rintro e Ng ⟨rfl,hb⟩;refine⟨_,rfl,?_⟩;replace Af:=Az.mk (Kd.S_below (kS Af.out) hb);replace Ad:=Az.mk (Kd.Q_below (kQ Ad.out) hb);replace Ag:=Az.mk (Kd.R_below (kR Ag.out) hb);replace HK:=Az.mk (KeepBut.trans (kK HK.out) (KeepBut.of_below hb g none) (.inl rfl));replace HB:=Az.mk (bwT (kG HB.out (IsS63.ge HI0.out)) hb);replace HI0:=Az.mk (IsS63.below (kI HI0.out) hb);(try clear hb)))
    go_roundg k2
    case measure=>have:=HK1.out;have:=HK2.out;omega
    case rel=>exact⟨(Ao),(wrap64 (Bm+1)),(Da),(Db),rq2,H',⟨by have:=HK1.out;have:=HK2.out;omega⟩,⟨by(with_reducible repeat(first|apply Kd.S_alloc|apply Kd.S_drewN|apply Kd.S_drew));exact Kd.S_mono Af.out (fun _ hk=>hk.1)⟩,⟨by(with_reducible repeat(first|apply Kd.Q_alloc|apply Kd.Q_drewN|apply Kd.Q_drew));exact Kd.Q_mono Ad.out (fun _ hk=>trivial)⟩,⟨kI HI0.out⟩,⟨kK HK.out⟩,⟨kG HB.out (IsS63.ge HI0.out)⟩⟩
   rw[ig Hc]at H
   have Hr:=decide_eq_false Hc
   clear Hc
   replace H:=bez H
   obtain⟨⟨Co,Bi,Bj⟩,Iy,H⟩:=H
   try dsimp only at H
   by_cases Gr:Co=0
   ·rw[ip Gr]at H
    have Hs:=beq_iff_eq.mpr Gr
    have Ht:=bne_eq_false_iff_eq.mpr Gr
    clear Gr
    obtain⟨Dg,hy⟩:∃y_:List Int,y_=(([(-1),201,1,3]:List Int)):=⟨_,rfl⟩
    replace H:((gK.f Ae Bi Bj Dg).bind fun Dn=>(if 0<(Ao.length:Int) then(some (Al,(Ao.set (0:Int).toNat Dn.1),Dn.2.1,Dn.2.2)) else(none)))=some (r1,r2,r3,r4):=rh
    have Eu:=Az.mk hy
    clear hy
    replace H:=bez H
    obtain⟨⟨Ee,Hu,Hv⟩,Mc,H⟩:=H
    try dsimp only at H
    by_cases Iz:0<(Ao.length:Int)
    rotate_left
    ·rw[ig Iz]at H
     exact absurd H (by simp)
    rw[ip Iz]at H
    have Lg:=ode Iz
    have Lh:decide (0<Ao.length)=true:=ode (by omega)
    clear Iz
    obtain⟨Hw,hy⟩:∃y_:List Int,y_=(Ao.set (0:Int).toNat Ee):=⟨_,rfl⟩
    replace H:(some (Al,Hw,Hu,Hv))=some (r1,r2,r3,r4):=rh
    have Hx:=Az.mk hy
    clear hy
    simp only[Option.some.injEq,Prod.mk.injEq]at H
    obtain⟨rfl,rfl,rfl,rfl⟩:=H
    go_wp2_with (first|((with_reducible refine gtC (f:=51) rfl ?_);refine clz Try.func51 (some 66) #[.pointer (some ⟨g,0,none⟩), .int .i64 18] ?_;(with_reducible refine(fB.calls g Ae Aj Ak 18 Co Bi Bj w0 _ ?Ah ?Ai Iy.out).mono ?_);(case Ah=>exact(kI HI0.out));(case Ai=>exact kG HB.out (IsS63.ge HI0.out));rintro e Nh ⟨rfl,hi,hb,hk⟩;refine⟨_,rfl,?_⟩;replace Af:=Az.mk (Kd.S_mono (Kd.S_keep (IsS63.apartS (show IsS63 w0 _ g Ae Aj Ak from kI HI0.out) (kS Af.out) (by decide)) hk (fun _ h=>h.2)) (fun _ h=>h.1));replace Ad:=Az.mk (Kd.Q_mono (Kd.Q_keep (IsS63.apartQ (show IsS63 w0 _ g Ae Aj Ak from kI HI0.out) (kQ Ad.out) (by decide)) hk (fun _ h=>h.2)) (fun _ h=>h.1));replace HK:=Az.mk (KeepBut.trans (kK HK.out) hk (.inl rfl));replace HB:=Az.mk (hb);replace HI0:=Az.mk (hi);(try clear hb);(try clear hk);(try clear hi))|((with_reducible refine gtD (N:=71) rfl ?_);refine Kd.R_lit (Kd.int .i64) _ 3 ?hg (N:=71) ?hd (xs:=([(-1),201,1,3]:List Int)) (inner:=[.int .i64 (-1), .int .i64 201, .int .i64 1, .int .i64 3]) (ok:=fun _=>True) (okp:=fun _=>True) ?hr ?hp (fun _ hk=>hk) trivial (Below.refl _ _) (Nat.le_refl _) (by simp) ?_;(case hd=>rfl);(case hg=>rfl);(case hr=>first|(go_simp;done)|(go_simp;rfl));(case hp=>exact(Reps.one (show Kd.M (Kd.int .i64) _ _ _ (-1) [.int .i64 (-1)]from rfl) (Reps.one (show Kd.M (Kd.int .i64) _ _ _ 201 [.int .i64 201]from rfl) (Reps.one (show Kd.M (Kd.int .i64) _ _ _ 1 [.int .i64 1]from rfl) (Reps.one (show Kd.M (Kd.int .i64) _ _ _ 3 [.int .i64 3]from rfl) (Reps.none _ _))))));intro Md Nl Cp hb hg_ hnew_;clear hg_ hnew_;(first|rw[←Eu.out]at Cp|(simp only[Int.reduceToNat]at Cp;rw[←Eu.out]at Cp));replace Af:=Az.mk (Kd.S_elder' (kS Af.out) (Kd.R_base Cp) hb);have Bp:=Az.mk (Kd.R_lower (Kd.R_new' Cp (Kd.Q_lt (kQ Ad.out))) (keep_size (w:=w) (g:=g) (row:=none) (kK HK.out)));replace Ad:=Az.mk (Kd.Q_elder' (kQ Ad.out) (Kd.R_base Cp) hb);replace HK:=Az.mk (KeepBut.trans (kK HK.out) (KeepBut.of_below hb g none) (.inl rfl));replace HB:=Az.mk (bwT (kG HB.out (IsS63.ge HI0.out)) hb);replace HI0:=Az.mk (IsS63.below (kI HI0.out) hb);clear hb Cp;obtain⟨Ef,Eg,Jz⟩:=Kd.R_slice Bp.out;subst Jz)|((with_reducible refine gtC (f:=53) rfl ?_);refine clz Try.func53 (some 72) #[.pointer (some ⟨g,0,none⟩), .slice Ef Dg.length Eg] ?_;(with_reducible refine(gK.calls g Ae Bi Bj _ _ Dg Ee Hu Hv w0 _ ?Ah ?Ai ?Bk ?Bl ?Do Mc.out).mono ?_);(case Ah=>exact(kI HI0.out));(case Ai=>exact kG HB.out (IsS63.ge HI0.out));(case Bk=>exact kC (Kd.R_reads' Bp.out).2.2);(case Bl=>exact(Kd.R_reads' Bp.out).2.1);(case Do=>exact far_slice (IsS63.own_ne HI0.out Bp.out (by decide)));rintro e Li ⟨rfl,hi,hb,hk⟩;refine⟨_,rfl,?_⟩;replace Af:=Az.mk (Kd.S_mono (Kd.S_keep (IsS63.apartS (show IsS63 w0 _ g Ae Bi Bj from kI HI0.out) (kS Af.out) (by decide)) hk (fun _ h=>h.2)) (fun _ h=>h.1));replace Ad:=Az.mk (Kd.Q_mono (Kd.Q_keep (IsS63.apartQ (show IsS63 w0 _ g Ae Bi Bj from kI HI0.out) (kQ Ad.out) (by decide)) hk (fun _ h=>h.2)) (fun _ h=>h.1));replace Bp:=Az.mk (Kd.R_mono (Kd.R_keep (IsS63.apart (show IsS63 w0 _ g Ae Bi Bj from kI HI0.out) (kR Bp.out) (by decide)) hk (fun _ h=>h.2)) (fun _ h=>h.1));replace HK:=Az.mk (KeepBut.trans (kK HK.out) hk (.inl rfl));replace HB:=Az.mk (hb);replace HI0:=Az.mk (hi);(try clear hb);(try clear hk);(try clear hi);have Ka:0≤(0:Int):=(by omega);have Kb:(0:Int)<((Ao.length:Int):Int):=od;have Me:(0<Ao.length)=True:=ets (by omega);obtain⟨Cq,Dh,Dp,Hy,Hz,gl69,Mf,HG69⟩:=Kd.Q_form Ad.out (by omega);(first|cases Hy|(injection Hy with ea_ en_ ec_;(first|subst ea_|(injection ea_ with ea_;subst ea_));subst ec_;clear en_));have Ke:=Az.mk Hz;have Mg:=Az.mk HG69;clear Hz gl69 HG69;obtain⟨Dq,Dr⟩:=Kd.Q_cell 0 Ad.out (0:Int) Ka Kb;(try rw[show((0:Int)).toNat=0 from rfl]at Dq);(try simp only[Nat.reduceMul,Nat.zero_mul,Nat.zero_add,Nat.reduceAdd]at Dq);(try rw[show((0:Int)).toNat=0 from rfl]at Dr);(try simp only[Nat.reduceMul,Nat.zero_mul,Nat.zero_add,Nat.reduceAdd]at Dr);replace Ka:=ets Ka;replace Kb:=ets Kb;have n_:=Az.mk (Kd.Q_mono (ok':=(fun k_=>some k_≠(.slice Ef Dg.length Eg:Value).ownBlock)) Ad.out (fun k_ hk=>hk.2));clear Ad;have Ad:=n_;clear n_;obtain⟨hy75_,hz75_⟩:=Kd.Q_cell 0 Ad.out (0:Int) (by omega) (od);(try simp only[Int.reduceToNat,Int.toNat_zero,Int.toNat_ofNat,Nat.reduceMul,Nat.zero_mul,Nat.zero_add]at hy75_ hz75_);(try rw[show((0:Int)).toNat=0 from rfl]at hy75_);(try rw[show((0:Int)).toNat=0 from rfl]at hz75_);(try rw[Nat.add_zero]at hy75_);(try rw[Nat.add_zero]at hz75_);have Gs:=Kd.Q_putg Ad.out (0:Int) (by omega) (by have h_:(0:Int)<((Ao.length:Int):Int):=od;first|exact h_|(have e_:=(Kd.Q_reads' Ad.out).1;omega)|simpa using h_) Ee)|((with_reducible refine gate_store (t:=3) (p:=73) rfl ?_);refine store_event (t:=3) (p:=73) (v:=?vo_w76) (w1:=(Li.setCell ⟨Cq,Dh+(0:Int).toNat,none⟩ (.int .i64 Ee))) ?hg ?ho ?hn ?hr ?_;(case ho=>rfl);(case hg=>rfl);(case hn=>rfl);(case hr=>first|(go_simp;done)|(go_simp;rfl));intro Kf hw;have hg:Li.grownBy Kf (some Cq):=(by rw[hw];exact Gs.2);have hp_:Kd.Q (Kd.int .i64) 3 Kf w.heap.size (fun k_=>some k_≠(.slice Ef Dg.length Eg:Value).ownBlock) (.slice (some ⟨Cq,Dh,none⟩) Ao.length Dp) Hw:=(by rw[hw,Hx.out];exact Gs.1);clear Gs;replace Af:=Az.mk (Kd.S_after (v:=(.slice (some ⟨Cq,Dh,none⟩) Ao.length Dp)) (v1:=(.slice (some ⟨Cq,Dh,none⟩) Ao.length Dp)) (ok:=(fun k_=>some k_≠(.slice Ef Dg.length Eg:Value).ownBlock)) (by(with_reducible repeat(first|apply Kd.S_alloc|apply Kd.S_drewN|apply Kd.S_drew));exact Kd.S_mono Af.out (fun _ hk=>⟨hk.2,hk.1⟩)) hg (.inl rfl));replace HI0:=Az.mk (IsS63.grown (kI HI0.out) hg (IsS63.own_neQ HI0.out Ad.out (by decide)));replace Bp:=Az.mk (Kd.R_after (v:=(.slice (some ⟨Cq,Dh,none⟩) Ao.length Dp)) (v1:=(.slice (some ⟨Cq,Dh,none⟩) Ao.length Dp)) (ok:=(fun _=>True)) (kR Bp.out) hg (.inl rfl));replace HB:=Az.mk ((by rw[hw];exact bwS (HB.out) (Nat.le_trans HL.out Ke.out):Below w0.heap.size w0 Kf));replace HK:=Az.mk (KeepBut.trans (kK HK.out) (KeepBut.of_grown hg g) (Kd.Q_base2 Ad.out));replace Ad:=Az.mk (hp_);clear hg hw hp_))
    go_ret2
    exact⟨_,_,by first|rfl|(simp[eWn,eWs] <;> rfl)|(simp only[←Ch];first|rfl|(simp[eWn,eWs] <;> rfl))|(simp[*,eWn,eWs] <;> rfl),by(with_reducible repeat(first|apply Kd.S_alloc|apply Kd.S_drewN|apply Kd.S_drew));exact Kd.S_mono Af.out (fun _ hk=>hk.2),by(with_reducible repeat(first|apply Kd.Q_alloc|apply Kd.Q_drewN|apply Kd.Q_drew));exact Kd.Q_mono Ad.out (fun _ hk=>trivial),kI HI0.out,kG HB.out (IsS63.ge HI0.out),kK HK.out⟩
   rw[ig Gr]at H
   have Hs:=beq_eq_false_iff_ne.mpr Gr
   have Ht:=bne_iff_ne.mpr Gr
   by_cases Gt:Co=1
   ·rw[ip Gt]at H
    have Ia:=beq_iff_eq.mpr Gt
    have Ib:=bne_eq_false_iff_eq.mpr Gt
    clear Gt
    by_cases Ic:1≤(Ao.length:Int)
    rotate_left
    ·rw[ig Ic]at H
     exact absurd H (by simp)
    rw[ip Ic]at H
    have Lj:=ets Ic
    have Lk:=ode Ic
    clear Ic
    obtain⟨Di,hy⟩:∃y_:List Int,y_=(Ao.drop (1:Int).toNat):=⟨_,rfl⟩
    replace H:(some (Al,Di,Bi,Bj))=some (r1,r2,r3,r4):=rh
    have Ev:=Az.mk hy
    clear hy
    simp only[Option.some.injEq,Prod.mk.injEq]at H
    obtain⟨rfl,rfl,rfl,rfl⟩:=H
    go_wp2_with (first|((with_reducible refine gtC (f:=51) rfl ?_);refine clz Try.func51 (some 66) #[.pointer (some ⟨g,0,none⟩), .int .i64 18] ?_;(with_reducible refine(fB.calls g Ae Aj Ak 18 Co Bi Bj w0 _ ?Ah ?Ai Iy.out).mono ?_);(case Ah=>exact(kI HI0.out));(case Ai=>exact kG HB.out (IsS63.ge HI0.out));rintro e Mh ⟨rfl,hi,hb,hk⟩;refine⟨_,rfl,?_⟩;replace Af:=Az.mk (Kd.S_mono (Kd.S_keep (IsS63.apartS (show IsS63 w0 _ g Ae Aj Ak from kI HI0.out) (kS Af.out) (by decide)) hk (fun _ h=>h.2)) (fun _ h=>h.1));replace Ad:=Az.mk (Kd.Q_mono (Kd.Q_keep (IsS63.apartQ (show IsS63 w0 _ g Ae Aj Ak from kI HI0.out) (kQ Ad.out) (by decide)) hk (fun _ h=>h.2)) (fun _ h=>h.1));replace HK:=Az.mk (KeepBut.trans (kK HK.out) hk (.inl rfl));replace HB:=Az.mk (hb);replace HI0:=Az.mk (hi);(try clear hb);(try clear hk);(try clear hi);obtain⟨Ds,Eh,Kg,_⟩:=Kd.Q_slice Ad.out;subst Kg;have Kh:(1:Int)≤((Ao.length:Int):Int):=od;obtain⟨Mi,Ew,_,hsz81,_⟩:=info_parts info3;have hcut81:=cut_from (P:=Try.prog) 25 3 .i64 Try.underlying25 Ew 1 hsz81 Ds Ao.length Eh 1 (by omega) Kh;have Dt:=Kd.Q_drop (k:=(1:Int).toNat) Ad.out (by omega);obtain⟨Ki,hA81⟩:∃A1,A1=(if Eh=(1:Int).toNat then Ds else(Ds:Option Addr).map (·.add ((1:Int).toNat*1))):=⟨_,rfl⟩;obtain⟨Kj,Gu⟩:∃c1,c1=Eh - (1:Int).toNat:=⟨_,rfl⟩;have hy81:Di.length=Ao.length - (1:Int).toNat:=(by rw[Ev.out,List.length_drop]);rw[←Ev.out]at Dt;rw[←hy81, ←hA81, ←Gu]at hcut81;replace Dt:Kd.Q (Kd.int .i64) 3 Mh w.heap.size (fun _=>True) (.slice Ki Di.length Kj) Di:=(by rw[hA81,Gu,hy81];exact Dt);have HE81:Az ((Value.slice Ki Di.length Kj).ownBlock=(.slice Ds Ao.length Eh:Value).ownBlock):=⟨by rw[hA81];split <;> (cases (Ds:Option Addr) <;> rfl)⟩;clear hy81 Ew hsz81 Ad hA81 Gu;have Id:=Az.mk Dt;clear Dt;replace Kh:=ets Kh;have n_:=Az.mk (Kd.S_mono (ok':=fun k_=>some k_≠(.slice Ki Di.length Kj:Value).ownBlock) Af.out (fun k_ hk=>(by rw[HE81.out];exact hk)));clear Af;have Af:=n_;clear n_))
    go_ret2
    exact⟨_,_,by first|rfl|(simp[eWn,eWs] <;> rfl)|(simp only[←Ch];first|rfl|(simp[eWn,eWs] <;> rfl))|(simp[*,eWn,eWs] <;> rfl),kS Af.out,kQ Id.out,kI HI0.out,kG HB.out (IsS63.ge HI0.out),kK HK.out⟩
   rw[ig Gt]at H
   have Ia:=beq_eq_false_iff_ne.mpr Gt
   have Ib:=bne_iff_ne.mpr Gt
   by_cases Gv:Co=2
   rotate_left
   ·rw[ig Gv]at H
    have Ie:=beq_eq_false_iff_ne.mpr Gv
    have Ig:=bne_iff_ne.mpr Gv
    simp only[Option.some.injEq,Prod.mk.injEq]at H
    obtain⟨rfl,rfl,rfl,rfl⟩:=H
    go_wp2_with (first|((with_reducible refine gtC (f:=51) rfl ?_);refine clz Try.func51 (some 66) #[.pointer (some ⟨g,0,none⟩), .int .i64 18] ?_;(with_reducible refine(fB.calls g Ae Aj Ak 18 Co Bi Bj w0 _ ?Ah ?Ai Iy.out).mono ?_);(case Ah=>exact(kI HI0.out));(case Ai=>exact kG HB.out (IsS63.ge HI0.out));rintro e Nm ⟨rfl,hi,hb,hk⟩;refine⟨_,rfl,?_⟩;replace Af:=Az.mk (Kd.S_mono (Kd.S_keep (IsS63.apartS (show IsS63 w0 _ g Ae Aj Ak from kI HI0.out) (kS Af.out) (by decide)) hk (fun _ h=>h.2)) (fun _ h=>h.1));replace Ad:=Az.mk (Kd.Q_mono (Kd.Q_keep (IsS63.apartQ (show IsS63 w0 _ g Ae Aj Ak from kI HI0.out) (kQ Ad.out) (by decide)) hk (fun _ h=>h.2)) (fun _ h=>h.1));replace HK:=Az.mk (KeepBut.trans (kK HK.out) hk (.inl rfl));replace HB:=Az.mk (hb);replace HI0:=Az.mk (hi);(try clear hb);(try clear hk);(try clear hi)))
    go_ret2
    exact⟨_,_,by first|rfl|(simp[eWn,eWs] <;> rfl)|(simp only[←Ch];first|rfl|(simp[eWn,eWs] <;> rfl))|(simp[*,eWn,eWs] <;> rfl),kS Af.out,kQ Ad.out,kI HI0.out,kG HB.out (IsS63.ge HI0.out),kK HK.out⟩
   rw[ip Gv]at H
   have Ie:=beq_iff_eq.mpr Gv
   have Ig:=bne_eq_false_iff_eq.mpr Gv
   clear Gv
   by_cases Ja:0<(Al.length:Int)
   rotate_left
   ·rw[ig Ja]at H
    exact absurd H (by simp)
   rw[ip Ja]at H
   have Ll:=ode Ja
   have Lm:decide (0<Al.length)=true:=ode (by omega)
   clear Ja
   obtain⟨Gw,hy⟩:∃y_:List Int,y_=(([0,2,(-1),9]:List Int)):=⟨_,rfl⟩
   replace H:((gK.f Ae Bi Bj Gw).bind fun Du=>(if 0<((rd_L1 Al 0).length:Int) then(some ((Al.set (0:Int).toNat ((rd_L1 Al 0).set (0:Int).toNat Du.1)),Ao,Du.2.1,Du.2.2)) else(none)))=some (r1,r2,r3,r4):=rh
   have Ex:=Az.mk hy
   clear hy
   replace H:=bez H
   obtain⟨⟨Ei,Gx,Gy⟩,Mj,H⟩:=H
   try dsimp only at H
   by_cases Jb:0<((rd_L1 Al 0).length:Int)
   rotate_left
   ·rw[ig Jb]at H
    exact absurd H (by simp)
   rw[ip Jb]at H
   have Ln:=ode Jb
   have Lo:decide (0<(rd_L1 Al 0).length)=true:=ode (by omega)
   clear Jb
   obtain⟨Gz,hy⟩:∃y_:List Int,y_=((rd_L1 Al 0).set (0:Int).toNat Ei):=⟨_,rfl⟩
   replace H:(some ((Al.set (0:Int).toNat Gz),Ao,Gx,Gy))=some (r1,r2,r3,r4):=rh
   have Ih:=Az.mk hy
   clear hy
   obtain⟨Kk,hy⟩:∃y_:List (List Int),y_=(Al.set (0:Int).toNat Gz):=⟨_,rfl⟩
   replace H:(some (Kk,Ao,Gx,Gy))=some (r1,r2,r3,r4):=rh
   have Ii:=Az.mk hy
   clear hy
   simp only[Option.some.injEq,Prod.mk.injEq]at H
   obtain⟨rfl,rfl,rfl,rfl⟩:=H
   try go_wp2_with (first|((with_reducible refine gtC (f:=51) rfl ?_);refine clz Try.func51 (some 66) #[.pointer (some ⟨g,0,none⟩), .int .i64 18] ?_;(with_reducible refine(fB.calls g Ae Aj Ak 18 Co Bi Bj w0 _ ?Ah ?Ai Iy.out).mono ?_);(case Ah=>exact(kI HI0.out));(case Ai=>exact kG HB.out (IsS63.ge HI0.out));rintro e Mk ⟨rfl,hi,hb,hk⟩;refine⟨_,rfl,?_⟩;replace Af:=Az.mk (Kd.S_mono (Kd.S_keep (IsS63.apartS (show IsS63 w0 _ g Ae Aj Ak from kI HI0.out) (kS Af.out) (by decide)) hk (fun _ h=>h.2)) (fun _ h=>h.1));replace Ad:=Az.mk (Kd.Q_mono (Kd.Q_keep (IsS63.apartQ (show IsS63 w0 _ g Ae Aj Ak from kI HI0.out) (kQ Ad.out) (by decide)) hk (fun _ h=>h.2)) (fun _ h=>h.1));replace HK:=Az.mk (KeepBut.trans (kK HK.out) hk (.inl rfl));replace HB:=Az.mk (hb);replace HI0:=Az.mk (hi);(try clear hb);(try clear hk);(try clear hi)))
   replace Af:=Az.mk (Kd.S_drew Af.out);replace Ad:=Az.mk (Kd.Q_drew Ad.out);replace HI0:=Az.mk (IsS63.drew HI0.out);replace HK:=Az.mk (keep_drew HK.out);replace HB:=Az.mk (bwD HB.out)
   have Ej:0≤(0:Int):=(by omega)
   have Ek:0<(Al.length:Int):=od
   obtain⟨Ij,Ha,Hb,Kl,Bf,Cs,Ct⟩:=at_L1 (Kd.S_reads' Af.out).2.2 0 Ej Ek
   cases Kl
   obtain⟨Lp,hce312,hMe312,Dv⟩:=Kd.S_get Af.out [] 0 Ej (by first|exact Ek|exact od|(have e_:=(Kd.S_reads' Af.out).1;omega))
   obtain⟨Jc,rfl,Cf⟩:=hMe312
   have Bo:=Dv 0 _ rfl
   rw[Nat.add_zero,show((Kd.slice 3 (Kd.int .i64))).sz=1 from rfl,Nat.mul_one]at Bo
   replace Bo:=Option.some.inj (Bo.symm.trans Bf)
   rw[Bo]at Cf
   have Aq:=Az.mk (show Kd.R (Kd.int .i64) 3 _ _ _ _ (rd_L1 Al 0)from Cf)
   clear Bo Cf
   have Bh:=Az.mk Bf
   clear Dv hce312
   have Lq:(0<Al.length)=True:=ets (by omega)
   (try rw[show((0:Int)).toNat=0 from rfl]at Bf)
   (try rw[Addr.add_zero']at Bf)
   have Bq:=Az.mk Ct
   have Jd:=Az.mk Cs
   clear Ct Cs
   replace Ej:=ets Ej
   replace Ek:=ets Ek
   refine start_ (n:=8) (S:=fun w'=>w'.cell? Ij=some (.slice Ha (rd_L1 Al 0).length Hb)) (ds:=[7]) #[false,false,false,false,false,false,false,false] (by kernel_rfl) rfl rfl (Bf) (fun hHeld=>?_);refine with_tabW fM.tab22 fM.bits22 (fun HT_ HW_=>?_)
   generalize Mk.drew=Nn at Af Ad HI0 HK HB Aq Bq Bh Bf hHeld ⊢
   refine pu (i:=0) (N:=some 80) #[true,false,false,false,false,false,false,false] (any_of HT_.out (by kernel_rfl)) ?_
   refine pu (i:=1) (N:=some 81) #[true,true,false,false,false,false,false,false] (any_of HT_.out (by kernel_rfl)) ?_
   refine pu (i:=3) (N:=some 83) #[true,true,false,true,false,false,false,false] (any_of HT_.out (by kernel_rfl)) ?_
   refine take_ (i:=2) (N:=some 82) (v:=?_) (a':=?_) #[true,true,true,true,false,false,false,false] rfl rfl (take_ofW HT_.out HW_.out (by kernel_rfl)) (fun _ _ _ h=>h) (Or.inl ⟨by rfl,?_⟩) hHeld ?_ ?_
   rotate_left
   ·intro w' s0
    go_simp
    with_reducible rfl
   rotate_left
   ·exact acq
   refine one_ (i:=4) (N:=some 84) #[true,true,true,true,true,false,false,false] rfl rfl (one_of HT_.out (by kernel_rfl)) (by decide) (fun K hK=>?_)
   refine Kd.R_lit_step (Kd.int .i64) _ 3 ?hg (N:=84) ?hd (xs:=([0,2,(-1),9]:List Int)) (inner:=[.int .i64 0, .int .i64 2, .int .i64 (-1), .int .i64 9]) (ok:=fun _=>True) (okp:=fun _=>True) ?hr ?hp (fun _ hk=>hk) trivial (Below.refl _ _) (Nat.le_refl _) (by simp) ?_;(case hd=>rfl);(case hg=>rfl);(case hr=>first|(go_simp;done)|(go_simp;rfl));(case hp=>exact(Reps.one (show Kd.M (Kd.int .i64) _ _ _ 0 [.int .i64 0]from rfl) (Reps.one (show Kd.M (Kd.int .i64) _ _ _ 2 [.int .i64 2]from rfl) (Reps.one (show Kd.M (Kd.int .i64) _ _ _ (-1) [.int .i64 (-1)]from rfl) (Reps.one (show Kd.M (Kd.int .i64) _ _ _ 9 [.int .i64 9]from rfl) (Reps.none _ _))))))
   intro Ml Np Ci hb hg_ hnew_
   have HS0_:=(hb.cell (World.block_lt_of_cell? _ _ (hHeld))).trans (hHeld)
   clear hg_ hnew_
   (first|rw[←Ex.out]at Ci|(simp only[Int.reduceToNat]at Ci;rw[←Ex.out]at Ci))
   replace Af:=Az.mk (Kd.S_elder' (kS Af.out) (Kd.R_base Ci) hb);have Cd:=Az.mk (Kd.R_lower (Kd.R_new' (Kd.R_new' Ci (Kd.Q_lt (kQ Ad.out))) (Kd.R_lt (kR Aq.out))) (keep_size (w:=w) (g:=g) (row:=none) (kK HK.out)));replace Ad:=Az.mk (Kd.Q_elder' (kQ Ad.out) (Kd.R_base Ci) hb);replace Aq:=Az.mk (Kd.R_elder' (kR Aq.out) (Kd.R_base Ci) hb);replace Bq:=Az.mk (Kd.C_below (by repeat(first|(with_reducible exact Bq.out)|(with_reducible refine Kd.C_alloc ?_ _)|(with_reducible refine Kd.C_drewN ?_ _)|(with_reducible refine Kd.C_drew ?_)|exact Bq.out)) hb);replace Bh:=Az.mk (pw_cell_below hb Bh.out);replace HK:=Az.mk (KeepBut.trans (kK HK.out) (KeepBut.of_below hb g none) (.inl rfl));replace HB:=Az.mk (bwT (kG HB.out (IsS63.ge HI0.out)) hb);replace HI0:=Az.mk (IsS63.below (kI HI0.out) hb)
   clear hb Ci
   obtain⟨Km,Kn,Ik⟩:=Kd.R_slice Cd.out
   (first|subst Ik|(injection Ik with f1_ f2_ f3_;have f4_:=f1_.symm;have f5_:=f3_.symm;clear f1_ f2_ f3_;subst f4_;subst f5_))
   refine hK.out _ _ (HS0_) (fun hHeld=>?_)
   clear hK K
   refine norm_ (a':=?_) ?_ ?_
   rotate_left
   ·show Act.put _ (some 84) _=_
    exact acq
   refine one_ (i:=5) (N:=some 85) #[true,true,true,true,true,true,false,false] rfl rfl (one_of HT_.out (by kernel_rfl)) (by decide) (fun K hK=>?_)
   refine goes_ Try.func53 (by kernel_rfl) rfl #[.pointer (some ⟨g,0,none⟩), .slice Km Gw.length Kn] (by rfl) rfl rfl ln_11 ?_
   with_reducible refine(gK.calls g Ae Bi Bj _ _ Gw Ei Gx Gy w0 _ ?Ah ?Ai ?Bk ?Bl ?Do Mj.out).mono ?_
   (case Ah=>exact(kI HI0.out))
   (case Ai=>exact kG HB.out (IsS63.ge HI0.out))
   (case Bk=>exact kC (Kd.R_reads' Cd.out).2.2)
   (case Bl=>exact(Kd.R_reads' Cd.out).2.1)
   (case Do=>exact far_slice (IsS63.own_ne HI0.out Cd.out (by decide)))
   rintro e Nq ⟨rfl,hi,hb,hk⟩
   have HS0_:=keep_cell hk (hHeld) (by first|(rw[add_block];exact Kd.own_blk (IsS63.own_neS HI0.out Af.out (by decide)))|(show(Addr.add _ _).block≠_;rw[add_block];exact Kd.own_blk (IsS63.own_neS HI0.out Af.out (by decide)))|exact Kd.own_blk (IsS63.own_neS HI0.out Af.out (by decide)))
   refine⟨_,rfl,?_⟩
   replace Ad:=Az.mk (Kd.Q_mono (Kd.Q_keep (IsS63.apartQ (show IsS63 w0 _ g Ae Bi Bj from kI HI0.out) (kQ Ad.out) (by decide)) hk (fun _ h=>h.2)) (fun _ h=>h.1));replace Aq:=Az.mk (Kd.R_mono (Kd.R_keep (IsS63.apart (show IsS63 w0 _ g Ae Bi Bj from kI HI0.out) (kR Aq.out) (by decide)) hk (fun _ h=>h.2)) (fun _ h=>h.1));replace Bh:=Az.mk (keep_cell hk Bh.out (by first|(rw[add_block];exact Kd.own_blk (IsS63.own_neS HI0.out Af.out (by decide)))|(show(Addr.add _ _).block≠_;rw[add_block];exact Kd.own_blk (IsS63.own_neS HI0.out Af.out (by decide)))|exact Kd.own_blk (IsS63.own_neS HI0.out Af.out (by decide))|(dsimp only;exact Kd.own_blk (IsS63.own_neS HI0.out Af.out (by decide)))));replace Af:=Az.mk (Kd.S_mono (Kd.S_keep (IsS63.apartS (show IsS63 w0 _ g Ae Bi Bj from kI HI0.out) (kS Af.out) (by decide)) hk (fun _ h=>h.2)) (fun _ h=>h.1));replace Cd:=Az.mk (Kd.R_mono (Kd.R_keep (IsS63.apart (show IsS63 w0 _ g Ae Bi Bj from kI HI0.out) (kR Cd.out) (by decide)) hk (fun _ h=>h.2)) (fun _ h=>h.1));replace HK:=Az.mk (KeepBut.trans (kK HK.out) hk (.inl rfl));replace HB:=Az.mk (hb);replace HI0:=Az.mk (hi)
   (try clear hb)
   (try clear hb2)
   (try clear hk)
   (try clear hi)
   have Ko:0≤(0:Int):=(by omega)
   have Kp:(0:Int)<(((rd_L1 Al 0).length:Int):Int):=od
   have Mm:(0<(rd_L1 Al 0).length)=True:=ets (by omega)
   obtain⟨Il,Mn,Im,In,gl86,Mo,HG86⟩:=Kd.R_form Aq.out (by omega)
   (first|cases Im|(injection Im with ea_ en_ ec_;(first|subst ea_|(injection ea_ with ea_;subst ea_));subst ec_;clear en_))
   have Io:=Az.mk In
   have Mp:=Az.mk HG86
   clear In gl86 HG86
   obtain⟨Dw,Dx⟩:=Kd.R_celln 0 Aq.out (0:Int) Ko Kp
   (try rw[show((0:Int)).toNat=0 from rfl]at Dw)
   (try simp only[Nat.reduceMul,Nat.zero_mul,Nat.zero_add,Nat.reduceAdd]at Dw)
   (try rw[show((0:Int)).toNat=0 from rfl]at Dx)
   (try simp only[Nat.reduceMul,Nat.zero_mul,Nat.zero_add,Nat.reduceAdd]at Dx)
   replace Ko:=ets Ko
   replace Kp:=ets Kp
   have hq93:(0:Int)<(Al.length:Int):=(by have h_:(0:Int)<((Al.length:Int):Int):=od;first|exact h_|(have e_:=(Kd.S_reads' Af.out).1;omega)|simpa only[List.length_set,List.length_set] using h_)
   obtain⟨oki93,Mq,Ip,Kq,Ey,hok93,hbk93⟩:=Kd.S_borrow Af.out [] (0:Int) (by omega) hq93
   obtain⟨Kr,rfl,Cg⟩:=Kq
   have El:=Ey 0 _ rfl
   rw[Nat.add_zero,show((Kd.slice 3 (Kd.int .i64))).sz=1 from rfl,Nat.mul_one]at El
   replace El:=Option.some.inj (El.symm.trans Bh.out)
   subst El
   clear Ey Ip
   replace Cg:=(show Kd.R (Kd.int .i64) 3 _ _ _ _ (rd_L1 Al 0)from Cg)
   have Em:=Kd.R_putg Cg (0:Int) Ei
   have HN0_go86:=Az.mk (show g≠Il from by have h_:=IsS63.own_ne HI0.out Aq.out (by decide);intro e_;exact h_ (by rw[e_];rfl))
   rw[←Ih.out]at Em
   have HS93:=hbk93 Em.2 (fun k_ e_=>by injection e_ with e_;subst e_;exact Cg.1 _ rfl) (x':=Gz) (Kd.M_row Em.1)
   rw[←Ii.out]at HS93
   have Ks:=Az.mk HS93
   clear Em HS93 hbk93 hok93
   refine hK.out _ _ (HS0_) (fun hHeld=>?_)
   clear hK K
   refine norm_ (a':=?_) ?_ ?_
   rotate_left
   ·show Act.put _ (some 85) _=_
    exact acq
   refine pu (i:=6) (N:=some 86) #[true,true,true,true,true,true,true,false] (any_of HT_.out (by kernel_rfl)) ?_
   refine last_ (i:=7) (N:=none) #[true,true,true,true,true,true,true,true] rfl rfl (one_of HT_.out (by kernel_rfl)) (by decide) (fun K hK=>?_)
   refine skip_ (w1:=?_) (by rfl) rfl ?_ ?_
   rotate_left
   ·go_simp
    rfl
   refine hK.out _ _ ?_
   clear hK K
   refine done_ (done_of HT_.out (by kernel_rfl)) ?_
   try go_wp2
   go_ret2
   exact⟨_,_,by first|rfl|(simp[eWn,eWs] <;> rfl)|(simp only[←Ch];first|rfl|(simp[eWn,eWs] <;> rfl))|(simp[*,eWn,eWs] <;> rfl),by(with_reducible repeat(first|apply Kd.S_alloc|apply Kd.S_drewN|apply Kd.S_drew));exact Kd.S_mono Ks.out (fun _ hk=>hk.1),by(with_reducible repeat(first|apply Kd.Q_alloc|apply Kd.Q_drewN|apply Kd.Q_drew));exact Kd.Q_mono (Kd.Q_far (p:=⟨Il,0,none⟩) (Kd.Q_far1 Ad.out rfl ((Aq.out.1 _ rfl).1.1)) (fun _ hk=>hk.2) (.int .i64 Ei)) (fun _ hk=>trivial),by repeat(first|(with_reducible first|exact HI0.out|apply IsS63.alloc|apply IsS63.drewN|apply IsS63.drew|apply IsS63.set_1|apply IsS63.set_2|refine IsS63.far ?_ HN0_go86.out _)|exact HI0.out),by repeat(first|(with_reducible first|exact HB.out|apply bwA|apply pbN|apply bwD|refine bwS ?_ (Nat.le_trans HL.out Io.out)|refine bwS ?_ (IsS63.ge HI0.out))|exact HB.out),by repeat(first|(with_reducible first|exact HK.out|apply KeepBut.set_|apply keep_drewN|apply keep_drew|apply keep_alloc|refine keep_far ?_ Io.out _)|exact HK.out)⟩
theorem bw_12 {n:Nat}{v v':World} (h:Below n v v':=by repeat(first|(with_reducible first|exact HB.out|apply bwA|apply pbN|apply bwD|refine bwS ?_ GE323.out|refine bwS ?_ GE324.out)|exact HB.out)):Below n v v':=h
def gS.l0:Nat→List Int→Int→Int→Option (List Int × Int × Int)
 |0,_,_,_=>none
 |k+1,x0,x3,x4=>if x4<(x0.length:Int) then(if x4<4000 then(if 0≤x4 then(gS.l0 k x0 (Go.bits .and .i64 (wrap64 ((wrap64 ((wrap64 (x3*131))+(wrap64 (rd x0 x4))))+7)) 1073741823) (wrap64 (x4+1))) else(none)) else(some (x0,0,x3))) else(some (x0,0,x3))
def gS.f (k:Nat) (l0:List Int):Option (List Int × Int × Int):=gS.l0 k l0 (wrap64 (26583+(l0.length:Int))) 0
theorem gS.calls (k:Nat) (A0:Option Addr) (c0:Nat) (l0:List Int) (r1:List Int) (r2:Int) (r3:Int) (w0 w:World) (hB:Below w0.heap.size w0 w) (Av:Kd.C (Kd.int .u8) w0 A0 l0.length l0) (Ax:l0.length≤c0) (h:gS.f k l0=some (r1,r2,r3)):
  Calls Try.prog 21 #[.slice A0 l0.length c0] w fun e w'=>∃g_:Nat,e= .returned (.pointer (some ⟨g_,0,none⟩))∧IsS63 w0 w' g_ r1 r2 r3∧Below w0.heap.size w0 w'∧Below w.heap.size w w':=by
 have hu63:=Try.underlying63
 have Ap:=Az.mk Av
 have Bb:=Az.mk Ax
 clear Av Ax
 have HBW:=Az.mk (Below.refl w.heap.size w)
 have HW0:=Az.mk hB.size
 have HB:=Az.mk hB
 clear hB
 have H:(gS.l0 k l0 (wrap64 (26583+(l0.length:Int))) 0)=some (r1,r2,r3):=h
 clear h
 have H':=Az.mk H
 clear H
 go_enter Try.func21,Try.ntmps21
 go_wp2
 go_loopg [3,4] k (fun kq v3 v4 w'=>∃(Ae:Int) (Ad:Int),v3= .int .i64 Ae∧v4= .int .i64 Ad∧Az (gS.l0 kq l0 Ae Ad=some (r1,r2,r3))∧Az (kq≤k)∧Az (Below w0.heap.size w0 w')∧Az (Below w.heap.size w w'))
 case atStart=>exact⟨(wrap64 (26583+(l0.length:Int))),(0),rq2,rq2,H',⟨Nat.le_refl _⟩,⟨bw_12⟩,⟨by repeat(first|(with_reducible first|exact HBW.out|apply bwA|apply pbN|apply bwD)|exact HBW.out)⟩⟩
 clear H'
 obtain⟨Ae,Ad,rfl,rfl,HA,HK1,HB,HBW⟩:=hrel
 cases gk with
 |zero=>exact absurd HA.out (by simp[gS.l0])
 |succ k1=>
  have H:=HA.out
  clear HA
  simp only[gS.l0]at H
  by_cases c2:Ad<(l0.length:Int)
  rotate_left
  ·rw[ig c2]at H
   have Aq:=decide_eq_false c2
   clear c2
   simp only[Option.some.injEq,Prod.mk.injEq]at H
   obtain⟨rfl,rfl,rfl⟩:=H
   go_wp2_with (first|((with_reducible refine gtD (N:=31) rfl ?_);refine bx (N:=31) (cs:= #[.slice A0 l0.length c0, .int .i64 0, .int .i64 Ae]) (t:=63) ?_;intro Af hg w6 hbox hb;replace HB:=Az.mk (bwT bw_12 hb);have Ak:=Az.mk (hbox);have Al:=Az.mk ((by rw[hg];exact(bwZ (by repeat(first|(with_reducible first|exact HBW.out|apply bwA|apply pbN|apply bwD)|exact HBW.out))):w.heap.size≤Af));have GE324:=Az.mk ((Nat.le_trans HW0.out (by rw[hg];exact(bwZ (by repeat(first|(with_reducible first|exact HBW.out|apply bwA|apply pbN|apply bwD)|exact HBW.out))):w.heap.size≤Af):w0.heap.size≤Af));replace HBW:=Az.mk (bwT HBW.out hb);clear hb hbox hg))
   go_ret
   exact⟨_,rfl,(show IsS63 w0 _ Af l0 0 Ae from⟨_,_,by(with_reducible repeat first|apply bkN|apply bkD|apply bkA);exact Ak.out,GE324.out,Ap.out⟩),by repeat(first|(with_reducible first|exact HB.out|apply bwA|apply pbN|apply bwD|refine bwS ?_ GE324.out)|exact HB.out),by repeat(first|(with_reducible first|exact HBW.out|apply bwA|apply pbN|apply bwD|refine bwS ?_ Al.out)|exact HBW.out)⟩
  rw[ip c2]at H
  have Aq:=ode c2
  clear c2
  by_cases c3:Ad<4000
  rotate_left
  ·rw[ig c3]at H
   have As:=decide_eq_false c3
   clear c3
   simp only[Option.some.injEq,Prod.mk.injEq]at H
   obtain⟨rfl,rfl,rfl⟩:=H
   go_wp2_with (first|((with_reducible refine gtD (N:=31) rfl ?_);refine bx (N:=31) (cs:= #[.slice A0 l0.length c0, .int .i64 0, .int .i64 Ae]) (t:=63) ?_;intro Ag hg w5 hbox hb;replace HB:=Az.mk (bwT bw_12 hb);have Am:=Az.mk (hbox);have Ao:=Az.mk ((by rw[hg];exact(bwZ (by repeat(first|(with_reducible first|exact HBW.out|apply bwA|apply pbN|apply bwD)|exact HBW.out))):w.heap.size≤Ag));have GE323:=Az.mk ((Nat.le_trans HW0.out (by rw[hg];exact(bwZ (by repeat(first|(with_reducible first|exact HBW.out|apply bwA|apply pbN|apply bwD)|exact HBW.out))):w.heap.size≤Ag):w0.heap.size≤Ag));replace HBW:=Az.mk (bwT HBW.out hb);clear hb hbox hg))
   go_ret
   exact⟨_,rfl,(show IsS63 w0 _ Ag l0 0 Ae from⟨_,_,by(with_reducible repeat first|apply bkN|apply bkD|apply bkA);exact Am.out,GE323.out,Ap.out⟩),by repeat(first|(with_reducible first|exact HB.out|apply bwA|apply pbN|apply bwD|refine bwS ?_ GE323.out)|exact HB.out),by repeat(first|(with_reducible first|exact HBW.out|apply bwA|apply pbN|apply bwD|refine bwS ?_ Ao.out)|exact HBW.out)⟩
  rw[ip c3]at H
  have As:=ode c3
  clear c3
  by_cases c4:0≤Ad
  rotate_left
  ·rw[ig c4]at H
   exact absurd H (by simp)
  rw[ip c4]at H
  have Ba:=ode c4
  clear c4
  have H':=Az.mk H
  clear H
  have Ai:0≤(Ad:Int):=od
  have Aj:Ad<(l0.length:Int):=od
  obtain⟨Ay,Au,Ah⟩:=Kd.at_int Ap.out Ad Ai Aj
  cases Au
  replace Ah:=pw_cell_below HB.out Ah
  replace Ai:=ets Ai
  replace Aj:=ets Aj
  go_wp2
  go_roundg k1
  case measure=>have:=HK1.out;omega
  case rel=>exact⟨(Go.bits .and .i64 (wrap64 ((wrap64 ((wrap64 (Ae*131))+(wrap64 (rd l0 Ad))))+7)) 1073741823),(wrap64 (Ad+1)),rq2,rq2,H',⟨by have:=HK1.out;omega⟩,⟨bw_12⟩,⟨by repeat(first|(with_reducible first|exact HBW.out|apply bwA|apply pbN|apply bwD)|exact HBW.out)⟩⟩
def jO.f (k:Nat) (l0:List Int):Option ((List (List Int)) × List Int):=(gS.f k l0).bind fun bt325=>((fM.f k bt325.1 bt325.2.1 bt325.2.2).bind fun bt329=>(some (bt329.1,bt329.2.1)))
theorem jO.calls (k:Nat) (A0:Option Addr) (c0:Nat) (l0:List Int) (r1:List (List Int)) (r2:List Int) (w:World) (Av:Kd.C (Kd.int .u8) w A0 l0.length l0) (Ax:l0.length≤c0) (h:jO.f k l0=some (r1,r2)):
  Calls Try.prog 5 #[.slice A0 l0.length c0] w fun e w'=>∃v0_ v1_:Value,e= .returned (.tuple #[v0_,v1_])∧Kd.S (Kd.slice 3 (Kd.int .i64)) 25 w' w.heap.size (fun k_=>some k_≠(v1_:Value).ownBlock) v0_ r1∧Kd.Q (Kd.int .i64) 3 w' w.heap.size (fun _=>True) v1_ r2∧Below w.heap.size w w':=by
 have Bb:=Az.mk Av
 have Bc:=Az.mk Ax
 clear Av Ax
 have HB:=Az.mk (Below.refl w.heap.size w)
 have H:((gS.f k l0).bind fun Ad=>((fM.f k Ad.1 Ad.2.1 Ad.2.2).bind fun Ag=>(some (Ag.1,Ag.2.1))))=some (r1,r2):=h
 clear h
 replace H:=bez H
 obtain⟨⟨Ah,Ai,Aj⟩,A2,H⟩:=H
 try dsimp only at H
 replace H:=bez H
 obtain⟨⟨Ap,Aq,As,Au⟩,A3,H⟩:=H
 try dsimp only at H
 simp only[Option.some.injEq,Prod.mk.injEq]at H
 obtain⟨rfl,rfl⟩:=H
 go_enter Try.func5,Try.ntmps5
 go_wp2_with (first|((with_reducible refine gtC (f:=21) rfl ?_);refine clz Try.func21 (some 8) #[.slice A0 l0.length c0] ?_;(with_reducible refine(gS.calls k _ _ l0 Ah Ai Aj w _ ?Ae ?Af ?Ak A2.out).mono ?_);(case Ae=>exact bw_12);(case Af=>exact Bb.out);(case Ak=>exact Bc.out);rintro e w4 ⟨Al,rfl,hi,hb,hb2⟩;refine⟨_,rfl,?_⟩;replace HB:=Az.mk (hb);have HI328:=Az.mk (hi);(try clear hb);(try clear hb2);(try clear hi))|((with_reducible refine gtC (f:=20) rfl ?_);refine clz Try.func20 (some 9) #[.pointer (some ⟨Al,0,none⟩)] ?_;(with_reducible refine(fM.calls k Al Ah Ai Aj Ap Aq As Au w _ ?Ae ?Af A3.out).mono ?_);(case Ae=>exact(kI HI328.out));(case Af=>exact kG HB.out (IsS63.ge HI328.out));rintro e w5 ⟨Bd,Bf,rfl,Ay,Ba,hi,hb,hk⟩;refine⟨_,rfl,?_⟩;have Am:=Az.mk (Kd.S_lower Ay (bwZ (kG HB.out (IsS63.ge HI328.out))));have Ao:=Az.mk (Kd.Q_lower Ba (bwZ (kG HB.out (IsS63.ge HI328.out))));replace HB:=Az.mk (hb);replace HI328:=Az.mk (hi);(try clear hb);(try clear hk);(try clear hi);(try clear Ay);(try clear Ba)))
 go_ret2
 exact⟨_,_,rq1,kS Am.out,kQ Ao.out,kG HB.out (IsS63.ge HI328.out)⟩
def jL.f (s0_0:List Int) (s0_1:Int) (s0_2:Int) (a1:Int):Option (Bool × Int × Int):=(fB.f s0_0 s0_1 s0_2 a1).bind fun bt337=>(some ((bt337.1== 0),bt337.2.1,bt337.2.2))
theorem jL.calls (g:Nat) (Ad:List Int) (Af:Int) (Ag:Int) (a1:Int) (r1:Bool) (r2:Int) (r3:Int) (w0 w:World) (hI:IsS63 w0 w g Ad Af Ag) (hB:Below w0.heap.size w0 w) (h:jL.f Ad Af Ag a1=some (r1,r2,r3)):
  Calls Try.prog 81 #[.pointer (some ⟨g,0,none⟩), .int .i64 a1] w fun e w'=>e= .returned (.bool r1)∧IsS63 w0 w' g Ad r2 r3∧Below w0.heap.size w0 w'∧KeepBut w w' g none:=by
 have HI0:=Az.mk hI
 have HK:=Az.mk (KeepBut.refl w g none)
 have HL:=Az.mk hB.size
 clear hI
 have HW0:=Az.mk hB.size
 have HB:=Az.mk hB
 clear hB
 have H:((fB.f Ad Af Ag a1).bind fun Ae=>(some ((Ae.1== 0),Ae.2.1,Ae.2.2)))=some (r1,r2,r3):=h
 clear h
 replace H:=bez H
 obtain⟨⟨Aj,Ak,Al⟩,A3,H⟩:=H
 try dsimp only at H
 simp only[Option.some.injEq,Prod.mk.injEq]at H
 obtain⟨rfl,rfl,rfl⟩:=H
 go_enter Try.func81,Try.ntmps81
 go_wp2_with (first|((with_reducible refine gtC (f:=51) rfl ?_);refine clz Try.func51 (some 7) #[.pointer (some ⟨g,0,none⟩), .int .i64 a1] ?_;(with_reducible refine(fB.calls g Ad Af Ag a1 Aj Ak Al w0 _ ?Ah ?Ai A3.out).mono ?_);(case Ah=>exact(kI HI0.out));(case Ai=>exact kG HB.out (IsS63.ge HI0.out));rintro e w4 ⟨rfl,hi,hb,hk⟩;refine⟨_,rfl,?_⟩;replace HK:=Az.mk (KeepBut.trans (kK HK.out) hk (.inl rfl));replace HB:=Az.mk (hb);replace HI0:=Az.mk (hi);(try clear hb);(try clear hk);(try clear hi)))
 go_ret
 exact⟨rq1,kI HI0.out,kG HB.out (IsS63.ge HI0.out),kK HK.out⟩
end Go.Proofs.Ytbpnjlemjapnnaa.P
