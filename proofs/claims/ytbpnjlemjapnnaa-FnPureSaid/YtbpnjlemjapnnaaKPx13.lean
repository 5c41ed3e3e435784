-- The walks, cut and laid together by this session's tools (prune.py, sq2.py, min.py: shorter names, no needless spaces). Not trusted: Lean checks it.
import Derived.Test.YtbpnjlemjapnnaaKWZip
import Derived.Test.YtbpnjlemjapnnaaKPx11
namespace Go.Proofs.Ytbpnjlemjapnnaa.P
open Go.RowKit Go.Proofs.YtbpnjlemjapnnaaW.PrintWords Go.Proofs.YtbpnjlemjapnnaaW.PrintLast Go.Proofs.YtbpnjlemjapnnaaW.PrintMore
attribute [local go_sem] max2_int min2_int max_two min_two max_three min_three max_four min_four   -- for this text's walks alone
set_option linter.unusedVariables false
set_option linter.unusedSimpArgs false
set_option maxHeartbeats 8000000
set_option maxRecDepth 100000
open Option renaming bind_eq_some_iff → be
section
open Bool renaming true → T, false → F
theorem z13_0 {p:Prop} (h:p:=by kernel_rfl):p:=h
theorem ln_13 {P:Prop} (h:P:=by(try simp only[List.map_toArray,List.map_cons,List.map_nil]);first|done|rfl|(simp only[List.length_drop,List.length_take];rfl)):P:=h
mutual
def fG.l0:Nat→Int→List Int→Int→List Int→Int→Int→Option ((List (List Int)) × Int × Int)
 |0,_,_,_,_,_,_=>none
 |k+1,x3,x4,x5,x1000,x1001,x1002=>(fB.f x1000 x1001 x1002 5).bind fun bt349=>(if x5≤(wrap64 (2+bt349.1)) then(if x4.length<17592186044416 then((some (x4 ++ [x5]:List Int)).bind fun y352=>((jL.f x1000 bt349.2.1 bt349.2.2 4).bind fun bt355=>(if bt355.1=true then(fG.l0 k x3 y352 (wrap64 (x5+1)) x1000 bt355.2.1 bt355.2.2) else((fB.f x1000 bt355.2.1 bt355.2.2 2).bind fun bt358=>(if y352.length<17592186044416 then(fG.l0 k x3 (y352 ++ [wrap64 (x5*(wrap64 (1 - (wrap64 (2*bt358.1)))))]) (wrap64 (x5+1)) x1000 bt358.2.1 bt358.2.2) else(none)))))) else(none)) else(fG.l1 k x3 x4 x1000 bt349.2.1 bt349.2.2))
def fG.l1:Nat→Int→List Int→List Int→Int→Int→Option ((List (List Int)) × Int × Int)
 |0,_,_,_,_,_=>none
 |k+1,x3,x4,x1000,x1001,x1002=>if(x4.length:Int)<x3 then(if x4.length<17592186044416 then((some (x4 ++ [8]:List Int)).bind fun y364=>(fG.l1 k (y364.length:Int) y364 x1000 x1001 x1002)) else(none)) else(fG.l2 k x3 x4 (([]:List (List Int))) 0 x1000 x1001 x1002)
def fG.l2:Nat→Int→List Int→List (List Int)→Int→List Int→Int→Int→Option ((List (List Int)) × Int × Int)
 |0,_,_,_,_,_,_,_=>none
 |k+1,x3,x4,x6,x7,x1000,x1001,x1002=>if x7<x3 then(if x6.length<5864062014805 then(fG.l2 k x3 x4 (x6 ++ [(([]:List Int))]) (wrap64 (x7+1)) x1000 x1001 x1002) else(none)) else(fG.l3 k x3 x4 x6 0 x1000 x1001 x1002)
def fG.l3:Nat→Int→List Int→List (List Int)→Int→List Int→Int→Int→Option ((List (List Int)) × Int × Int)
 |0,_,_,_,_,_,_,_=>none
 |k+1,x2,x3,g,q,b,i,h=>if q<(x3.length:Int) then((fB.f b i h x2).bind fun c=>if q<x2 then fG.l4 k x2 x3 g q q b c.2.1 c.2.2 else fG.l4 k x2 x3 g q c.1 b c.2.1 c.2.2)else some (g,i,h)
def fG.l4:Nat→Int→List Int→List (List Int)→Int→Int→List Int→Int→Int→Option ((List (List Int)) × Int × Int)
 |0,_,_,_,_,_,_,_,_=>none
 |k+1,x2,x3,g,q,p,b,i,h=>if 0≤p then(if p<(g.length:Int) then((fB.f b i h (wrap64 (((rd_L1 g p).length:Int)+1))).bind fun a=>if 0≤a.1 then(if a.1≤((rd_L1 g p).length:Int) then(if 0≤q then(if q<(x3.length:Int) then(if(rd_L1 g p).length<17592186044415 then fG.l3 k x2 x3 (g.set p.toNat (((rd_L1 g p).take a.1.toNat ++ [rd x3 q]) ++ (rd_L1 g p).drop a.1.toNat)) (wrap64 (q+1)) b a.2.1 a.2.2 else none)else none)else none)else none)else none)else none)else none
end
def fG.f (k:Nat) (s0_0:List Int) (s0_1:Int) (s0_2:Int):Option ((List (List Int)) × Int × Int):=(gK.f s0_0 s0_1 s0_2 (([0,0,1,2]:List Int))).bind fun bt343=>(fG.l0 k (wrap64 (1+bt343.1)) (([]:List Int)) 1 s0_0 bt343.2.1 bt343.2.2)
def fG.T25:Bool × List (List Nat × List Nat):=(true,[([],[]),([],[]),([],[]),([],[]),([2,3],[2,3]),([4],[4]),([],[]),([5,6],[5,6]),([],[]),([],[]),([8,9],[8,9]),([10],[10]),([11],[11]),([7,12],[7,12]),([],[]),([13,14,13],[13,14]),([0,1,0,1,2,3,4,5,6,7,8,9,10,11,12,13,14,15],[0,1]),([16,15,15,0,1,2,3,4,5,6,7,8,9,10,11,12,13,14,15],[15,16])])
def fG.B25:List Nat:=[0,0,0,0,12,28,0,124,0,0,768,1792,3840,8188,0,32764,65535,131071]
theorem fG.tab25:rtab .any (opsOf Try.f54 25)=fG.T25:=by kernel_rfl
theorem fG.bits25:waitsOk fG.T25.2 fG.B25=true:=by kernel_rfl
theorem fG.calls (k:Nat) (g:Nat) (Ah:List Int) (El:Int) (Em:Int) (r1:List (List Int)) (r2:Int) (r3:Int) (w0 w:World) (hI:IsS63 w0 w g Ah El Em) (hB:Below w0.heap.size w0 w) (h:fG.f k Ah El Em=some (r1,r2,r3)):
  Calls Try.prog 54 #[.pointer (some ⟨g,0,none⟩)] w fun e w'=>∃v0_:Value,e= .returned (v0_)∧Kd.S (Kd.slice 3 (Kd.int .i64)) 25 w' w.heap.size (fun _=>True) v0_ r1∧IsS63 w0 w' g Ah r2 r3∧Below w0.heap.size w0 w'∧KeepBut w w' g none:=by
 have HI0:=Az.mk hI
 have HK:=Az.mk (KeepBut.refl w g none)
 have HL:=Az.mk hB.size
 clear hI
 have HW0:=Az.mk hB.size
 have HB:=Az.mk hB
 clear hB
 have H:((gK.f Ah El Em (([0,0,1,2]:List Int))).bind fun Cc=>(fG.l0 k (wrap64 (1+Cc.1)) (([]:List Int)) 1 Ah Cc.2.1 Cc.2.2))=some (r1,r2,r3):=h
 clear h
 obtain⟨Ie,hy⟩:∃y_:List Int,y_=(([0,0,1,2]:List Int)):=⟨_,rfl⟩
 replace H:((gK.f Ah El Em Ie).bind fun Cc=>(fG.l0 k (wrap64 (1+Cc.1)) (([]:List Int)) 1 Ah Cc.2.1 Cc.2.2))=some (r1,r2,r3):=rh
 have Hk:=Az.mk hy
 clear hy
 replace H:=bez H
 obtain⟨⟨Dd,Ig,Ih⟩,A2,H⟩:=H
 try dsimp only at H
 obtain⟨Jm,hy⟩:∃y_:List Int,y_=(([]:List Int)):=⟨_,rfl⟩
 replace H:(fG.l0 k (wrap64 (1+Dd)) Jm 1 Ah Ig Ih)=some (r1,r2,r3):=rh
 have Hl:=Az.mk hy
 clear hy
 have H':=Az.mk H
 clear H
 go_enter Try.func54,Try.ntmps54
 go_wp2_with (first|((with_reducible refine gtD (N:=13) rfl ?_);refine Kd.R_lit (Kd.int .i64) _ 3 ?hg (N:=13) ?hd (xs:=([0,0,1,2]:List Int)) (inner:=[.int .i64 0, .int .i64 0, .int .i64 1, .int .i64 2]) (ok:=fun _=>True) (okp:=fun _=>True) ?hr ?hp (fun _ hk=>hk) trivial (Below.refl _ _) (Nat.le_refl _) (by simp) ?_;(case hd=>rfl);(case hg=>rfl);(case hr=>first|(go_simp;done)|(go_simp;rfl));(case hp=>exact(Reps.one (show Kd.M (Kd.int .i64) _ _ _ 0 [.int .i64 0]from rfl) (Reps.one (show Kd.M (Kd.int .i64) _ _ _ 0 [.int .i64 0]from rfl) (Reps.one (show Kd.M (Kd.int .i64) _ _ _ 1 [.int .i64 1]from rfl) (Reps.one (show Kd.M (Kd.int .i64) _ _ _ 2 [.int .i64 2]from rfl) (Reps.none _ _))))));intro Nv w3 Jo hb hg_ hnew_;clear hg_ hnew_;(first|rw[←Hk.out]at Jo|(simp only[Int.reduceToNat]at Jo;rw[←Hk.out]at Jo));have Bm:=Az.mk (Kd.R_lower Jo (keep_size (w:=w) (g:=g) (row:=none) (kK HK.out)));replace HK:=Az.mk (KeepBut.trans (kK HK.out) (KeepBut.of_below hb g none) (.inl rfl));replace HB:=Az.mk (bwT (kG HB.out (IsS63.ge HI0.out)) hb);replace HI0:=Az.mk (IsS63.below (kI HI0.out) hb);clear hb Jo;obtain⟨Nw,Nx,Ny⟩:=Kd.R_slice Bm.out;subst Ny)|((with_reducible refine gtC (f:=53) rfl ?_);refine clz Try.func53 (some 14) #[.pointer (some ⟨g,0,none⟩), .slice Nw Ie.length Nx] ?_;(with_reducible refine(gK.calls g Ah El Em _ _ Ie Dd Ig Ih w0 _ ?Am ?Ao ?Jp ?Jq ?Jr A2.out).mono ?_);(case Am=>exact(kI HI0.out));(case Ao=>exact kG HB.out (IsS63.ge HI0.out));(case Jp=>exact kC (Kd.R_reads' Bm.out).2.2);(case Jq=>exact(Kd.R_reads' Bm.out).2.1);(case Jr=>exact far_slice (IsS63.own_ne HI0.out Bm.out (by decide)));rintro e w6 ⟨rfl,hi,hb,hk⟩;refine⟨_,rfl,?_⟩;replace Bm:=Az.mk (Kd.R_mono (Kd.R_keep (IsS63.apart (show IsS63 w0 _ g Ah El Em from kI HI0.out) (kR Bm.out) (by decide)) hk (fun _ h=>h.2)) (fun _ h=>h.1));replace HK:=Az.mk (KeepBut.trans (kK HK.out) hk (.inl rfl));replace HB:=Az.mk (hb);replace HI0:=Az.mk (hi);(try clear hb);(try clear hk);(try clear hi))|((with_reducible refine gtD (N:=16) rfl ?_);refine Kd.R_lit (Kd.int .i64) _ 3 ?hg (N:=16) ?hd (xs:=([]:List Int)) (inner:=[]) (ok:=fun _=>True) (okp:=fun _=>True) ?hr ?hp (fun _ hk=>hk) trivial (Below.refl _ _) (Nat.le_refl _) (by simp) ?_;(case hd=>rfl);(case hg=>rfl);(case hr=>first|(go_simp;done)|(go_simp;rfl));(case hp=>exact(Reps.none _ _));intro Nz w7 Ji hb hg_ hnew_;clear hg_ hnew_;(first|rw[←Hl.out]at Ji|(simp only[Int.reduceToNat]at Ji;rw[←Hl.out]at Ji));have Js:=Az.mk (Kd.R_lower (Kd.R_new' Ji (Kd.R_lt (kR Bm.out))) (keep_size (w:=w) (g:=g) (row:=none) (kK HK.out)));replace Bm:=Az.mk (Kd.R_elder' (kR Bm.out) (Kd.R_base Ji) hb);replace HK:=Az.mk (KeepBut.trans (kK HK.out) (KeepBut.of_below hb g none) (.inl rfl));replace HB:=Az.mk (bwT (kG HB.out (IsS63.ge HI0.out)) hb);replace HI0:=Az.mk (IsS63.below (kI HI0.out) hb);clear hb Ji))
 go_loopg [4,5] k (fun kq v4 v5 w'=>∃(Cy:List Int) (Bd:Int) (Ap:Int) (Aq:Int),v5= .int .i64 Bd∧Az (fG.l0 kq (wrap64 (1+Dd)) Cy Bd Ah Ap Aq=some (r1,r2,r3))∧Az (kq≤k)∧Az (Kd.R (Kd.int .i64) 3 w' w.heap.size (fun _=>True) v4 Cy)∧Az (IsS63 w0 w' g Ah Ap Aq)∧Az (KeepBut w w' g none)∧Az (Below w0.heap.size w0 w'))
 case atStart=>exact⟨(Jm),(1),(Ig),(Ih),rq2,H',⟨Nat.le_refl _⟩,⟨by(with_reducible repeat(first|apply Kd.R_alloc|apply Kd.R_drewN|apply Kd.R_drew));exact Kd.R_mono Js.out (fun _ hk=>trivial)⟩,⟨kI HI0.out⟩,⟨kK HK.out⟩,⟨kG HB.out (IsS63.ge HI0.out)⟩⟩
 clear H'
 obtain⟨Cy,Bd,Ap,Aq,rfl,HA,HK1,Ad,HI0,HK,HB⟩:=hrel
 cases gk with
 |zero=>exact absurd HA.out (by simp[fG.l0])
 |succ k1=>
  have H:=HA.out
  clear HA
  simp only[fG.l0]at H
  replace H:=bez H
  obtain⟨⟨Gj,Bi,Bj⟩,A9,H⟩:=H
  try dsimp only at H
  by_cases Gk:Bd≤(wrap64 (2+Gj))
  ·rw[ip Gk]at H
   have Dj:=ode Gk
   clear Gk
   by_cases Ii:Cy.length<17592186044416
   rotate_left
   ·rw[ig Ii]at H
    exact absurd H (by simp)
   rw[ip Ii]at H
   have LMc11:=Az.mk Ii
   clear Ii
   obtain⟨De,hy⟩:∃y_:List Int,y_=(Cy ++ [Bd]):=⟨_,rfl⟩
   replace H:((jL.f Ah Bi Bj 4).bind fun Cz=>(if Cz.1=true then(fG.l0 k1 (wrap64 (1+Dd)) De (wrap64 (Bd+1)) Ah Cz.2.1 Cz.2.2) else((fB.f Ah Cz.2.1 Cz.2.2 2).bind fun Eo=>(if De.length<17592186044416 then(fG.l0 k1 (wrap64 (1+Dd)) (De ++ [wrap64 (Bd*(wrap64 (1 - (wrap64 (2*Eo.1)))))]) (wrap64 (Bd+1)) Ah Eo.2.1 Eo.2.2) else(none)))))=some (r1,r2,r3):=rh
   have Hm:=Az.mk hy
   clear hy
   replace H:=bez H
   obtain⟨⟨Lx,Ep,Er⟩,Nb,H⟩:=H
   try dsimp only at H
   by_cases Ij:Lx=true
   ·subst Ij
    rw[ip rfl]at H
    have H':=Az.mk H
    clear H
    go_wp2_with (first|((with_reducible refine gtC (f:=51) rfl ?_);refine clz Try.func51 (some 19) #[.pointer (some ⟨g,0,none⟩), .int .i64 5] ?_;(with_reducible refine(fB.calls g Ah Ap Aq 5 Gj Bi Bj w0 _ ?Am ?Ao A9.out).mono ?_);(case Am=>exact(kI HI0.out));(case Ao=>exact kG HB.out (IsS63.ge HI0.out));rintro e Pc ⟨rfl,hi,hb,hk⟩;refine⟨_,rfl,?_⟩;replace Ad:=Az.mk (Kd.R_mono (Kd.R_keep (IsS63.apart (show IsS63 w0 _ g Ah Ap Aq from kI HI0.out) (kR Ad.out) (by decide)) hk (fun _ h=>h.2)) (fun _ h=>h.1));replace HK:=Az.mk (KeepBut.trans (kK HK.out) hk (.inl rfl));replace HB:=Az.mk (hb);replace HI0:=Az.mk (hi);(try clear hb);(try clear hk);(try clear hi))|((with_reducible refine gate_builtin (b:= .append) (xs:= #[.tmp 24, .tmp 26]) rfl ?_);at_builtin;refine Kd.R_append (Kd.int .i64) w.heap.size rfl (.tmp 24) (.tmp 26) 25 3 (.int .i64 0) 8 rfl Try.underlying25 info3 rfl (by decide) (by omega) u4 Cy Bd [.int .i64 Bd] (fun _=>True) (fun _=>False) rfl rfl ?aP (fun _ hk=>hk.elim) ?aF ?aO (Below.refl _ _) ?aS ?aL ?_;(case aP=>exact rfl);(case aF=>exact(fun _ _=>trivial));(case aO=>exact(kR Ad.out));(case aS=>exact(keep_size (w:=w) (g:=g) (row:=none) (kK HK.out)));(case aL=>have:=LMc11.out;omega);intro Jt Pd ho hb hg hat;rw[←Hm.out]at ho;have n0_:=Az.mk (IsS63.grown (kI HI0.out) hg (IsS63.own_ne HI0.out Ad.out (by decide)));have n1_:=Az.mk (below_weaken (kG HB.out (IsS63.ge HI0.out)) HL.out hb);have n2_:=Az.mk (KeepBut.trans (kK HK.out) (KeepBut.of_grown hg g) (Kd.R_base2 Ad.out));have n3_:=Az.mk (ho);clear HI0;clear HB;clear HK;clear Ad;have HI0:=n0_;have HB:=n1_;have HK:=n2_;have Bc:=n3_;clear n0_ n1_ n2_ n3_;clear ho hb hg hat)|((with_reducible refine gtC (f:=81) rfl ?_);refine clz Try.func81 (some 29) #[.pointer (some ⟨g,0,none⟩), .int .i64 4] ?_;(with_reducible refine(jL.calls g Ah Bi Bj 4 true Ep Er w0 _ ?Am ?Ao Nb.out).mono ?_);(case Am=>exact(kI HI0.out));(case Ao=>exact kG HB.out (IsS63.ge HI0.out));rintro e Pe ⟨rfl,hi,hb,hk⟩;refine⟨_,rfl,?_⟩;replace Bc:=Az.mk (Kd.R_mono (Kd.R_keep (IsS63.apart (show IsS63 w0 _ g Ah Bi Bj from kI HI0.out) (kR Bc.out) (by decide)) hk (fun _ h=>h.2)) (fun _ h=>h.1));replace HK:=Az.mk (KeepBut.trans (kK HK.out) hk (.inl rfl));replace HB:=Az.mk (hb);replace HI0:=Az.mk (hi);(try clear hb);(try clear hk);(try clear hi)))
    go_roundg k1
    case measure=>have:=HK1.out;omega
    case rel=>exact⟨(De),(wrap64 (Bd+1)),(Ep),(Er),rq2,H',⟨by have:=HK1.out;omega⟩,⟨kR Bc.out⟩,⟨kI HI0.out⟩,⟨kK HK.out⟩,⟨kG HB.out (IsS63.ge HI0.out)⟩⟩
   replace Ij:=Bool.eq_false_iff.mpr Ij
   subst Ij
   rw[ig ff]at H
   replace H:=bez H
   obtain⟨⟨Gl,Ik,Il⟩,Oa,H⟩:=H
   try dsimp only at H
   by_cases Im:De.length<17592186044416
   rotate_left
   ·rw[ig Im]at H
    exact absurd H (by simp)
   rw[ip Im]at H
   have LMc18:=Az.mk Im
   clear Im
   obtain⟨Ju,hy⟩:∃y_:List Int,y_=(De ++ [wrap64 (Bd*(wrap64 (1 - (wrap64 (2*Gl)))))]):=⟨_,rfl⟩
   replace H:(fG.l0 k1 (wrap64 (1+Dd)) Ju (wrap64 (Bd+1)) Ah Ik Il)=some (r1,r2,r3):=rh
   have Jv:=Az.mk hy
   clear hy
   have H':=Az.mk H
   clear H
   go_wp2_with (first|((with_reducible refine gtC (f:=51) rfl ?_);refine clz Try.func51 (some 19) #[.pointer (some ⟨g,0,none⟩), .int .i64 5] ?_;(with_reducible refine(fB.calls g Ah Ap Aq 5 Gj Bi Bj w0 _ ?Am ?Ao A9.out).mono ?_);(case Am=>exact(kI HI0.out));(case Ao=>exact kG HB.out (IsS63.ge HI0.out));rintro e Pf ⟨rfl,hi,hb,hk⟩;refine⟨_,rfl,?_⟩;replace Ad:=Az.mk (Kd.R_mono (Kd.R_keep (IsS63.apart (show IsS63 w0 _ g Ah Ap Aq from kI HI0.out) (kR Ad.out) (by decide)) hk (fun _ h=>h.2)) (fun _ h=>h.1));replace HK:=Az.mk (KeepBut.trans (kK HK.out) hk (.inl rfl));replace HB:=Az.mk (hb);replace HI0:=Az.mk (hi);(try clear hb);(try clear hk);(try clear hi))|((with_reducible refine gate_builtin (b:= .append) (xs:= #[.tmp 24, .tmp 26]) rfl ?_);at_builtin;refine Kd.R_append (Kd.int .i64) w.heap.size rfl (.tmp 24) (.tmp 26) 25 3 (.int .i64 0) 8 rfl Try.underlying25 info3 rfl (by decide) (by omega) u4 Cy Bd [.int .i64 Bd] (fun _=>True) (fun _=>False) rfl rfl ?aP (fun _ hk=>hk.elim) ?aF ?aO (Below.refl _ _) ?aS ?aL ?_;(case aP=>exact rfl);(case aF=>exact(fun _ _=>trivial));(case aO=>exact(kR Ad.out));(case aS=>exact(keep_size (w:=w) (g:=g) (row:=none) (kK HK.out)));(case aL=>have:=LMc11.out;omega);intro Jt Pg ho hb hg hat;rw[←Hm.out]at ho;have n0_:=Az.mk (IsS63.grown (kI HI0.out) hg (IsS63.own_ne HI0.out Ad.out (by decide)));have n1_:=Az.mk (below_weaken (kG HB.out (IsS63.ge HI0.out)) HL.out hb);have n2_:=Az.mk (KeepBut.trans (kK HK.out) (KeepBut.of_grown hg g) (Kd.R_base2 Ad.out));have n3_:=Az.mk (ho);clear HI0;clear HB;clear HK;clear Ad;have HI0:=n0_;have HB:=n1_;have HK:=n2_;have Bc:=n3_;clear n0_ n1_ n2_ n3_;clear ho hb hg hat)|((with_reducible refine gtC (f:=81) rfl ?_);refine clz Try.func81 (some 29) #[.pointer (some ⟨g,0,none⟩), .int .i64 4] ?_;(with_reducible refine(jL.calls g Ah Bi Bj 4 false Ep Er w0 _ ?Am ?Ao Nb.out).mono ?_);(case Am=>exact(kI HI0.out));(case Ao=>exact kG HB.out (IsS63.ge HI0.out));rintro e Ph ⟨rfl,hi,hb,hk⟩;refine⟨_,rfl,?_⟩;replace Bc:=Az.mk (Kd.R_mono (Kd.R_keep (IsS63.apart (show IsS63 w0 _ g Ah Bi Bj from kI HI0.out) (kR Bc.out) (by decide)) hk (fun _ h=>h.2)) (fun _ h=>h.1));replace HK:=Az.mk (KeepBut.trans (kK HK.out) hk (.inl rfl));replace HB:=Az.mk (hb);replace HI0:=Az.mk (hi);(try clear hb);(try clear hk);(try clear hi))|((with_reducible refine gtC (f:=51) rfl ?_);refine clz Try.func51 (some 34) #[.pointer (some ⟨g,0,none⟩), .int .i64 2] ?_;(with_reducible refine(fB.calls g Ah Ep Er 2 Gl Ik Il w0 _ ?Am ?Ao Oa.out).mono ?_);(case Am=>exact(kI HI0.out));(case Ao=>exact kG HB.out (IsS63.ge HI0.out));rintro e Pi ⟨rfl,hi,hb,hk⟩;refine⟨_,rfl,?_⟩;replace Bc:=Az.mk (Kd.R_mono (Kd.R_keep (IsS63.apart (show IsS63 w0 _ g Ah Ep Er from kI HI0.out) (kR Bc.out) (by decide)) hk (fun _ h=>h.2)) (fun _ h=>h.1));replace HK:=Az.mk (KeepBut.trans (kK HK.out) hk (.inl rfl));replace HB:=Az.mk (hb);replace HI0:=Az.mk (hi);(try clear hb);(try clear hk);(try clear hi))|((with_reducible refine gate_builtin (b:= .append) (xs:= #[.tmp 31, .tmp 38]) rfl ?_);at_builtin;refine Kd.R_append (Kd.int .i64) w.heap.size rfl (.tmp 31) (.tmp 38) 25 3 (.int .i64 0) 8 rfl Try.underlying25 info3 rfl (by decide) (by omega) Jt De (wrap64 (Bd*(wrap64 (1 - (wrap64 (2*Gl)))))) [.int .i64 (wrap64 (Bd*(wrap64 (1 - (wrap64 (2*Gl))))))] (fun _=>True) (fun _=>False) rfl rfl ?aP (fun _ hk=>hk.elim) ?aF ?aO (Below.refl _ _) ?aS ?aL ?_;(case aP=>exact rfl);(case aF=>exact(fun _ _=>trivial));(case aO=>exact(kR Bc.out));(case aS=>exact(keep_size (w:=w) (g:=g) (row:=none) (kK HK.out)));(case aL=>have:=LMc18.out;omega);intro Ob Pj ho hb hg hat;rw[←Jv.out]at ho;have n0_:=Az.mk (IsS63.grown (kI HI0.out) hg (IsS63.own_ne HI0.out Bc.out (by decide)));have n1_:=Az.mk (below_weaken (kG HB.out (IsS63.ge HI0.out)) HL.out hb);have n2_:=Az.mk (KeepBut.trans (kK HK.out) (KeepBut.of_grown hg g) (Kd.R_base2 Bc.out));have n3_:=Az.mk (ho);clear HI0;clear HB;clear HK;clear Bc;have HI0:=n0_;have HB:=n1_;have HK:=n2_;have Jw:=n3_;clear n0_ n1_ n2_ n3_;clear ho hb hg hat))
   go_roundg k1
   case measure=>have:=HK1.out;omega
   case rel=>exact⟨(Ju),(wrap64 (Bd+1)),(Ik),(Il),rq2,H',⟨by have:=HK1.out;omega⟩,⟨kR Jw.out⟩,⟨kI HI0.out⟩,⟨kK HK.out⟩,⟨kG HB.out (IsS63.ge HI0.out)⟩⟩
  rw[ig Gk]at H
  have Dj:=decide_eq_false Gk
  clear Gk
  have H':=Az.mk H
  clear H
  go_wp2_with (first|((with_reducible refine gtC (f:=51) rfl ?_);refine clz Try.func51 (some 19) #[.pointer (some ⟨g,0,none⟩), .int .i64 5] ?_;(with_reducible refine(fB.calls g Ah Ap Aq 5 Gj Bi Bj w0 _ ?Am ?Ao A9.out).mono ?_);(case Am=>exact(kI HI0.out));(case Ao=>exact kG HB.out (IsS63.ge HI0.out));rintro e Pk ⟨rfl,hi,hb,hk⟩;refine⟨_,rfl,?_⟩;replace Ad:=Az.mk (Kd.R_mono (Kd.R_keep (IsS63.apart (show IsS63 w0 _ g Ah Ap Aq from kI HI0.out) (kR Ad.out) (by decide)) hk (fun _ h=>h.2)) (fun _ h=>h.1));replace HK:=Az.mk (KeepBut.trans (kK HK.out) hk (.inl rfl));replace HB:=Az.mk (hb);replace HI0:=Az.mk (hi);(try clear hb);(try clear hk);(try clear hi)))
  go_loopg [3,4] k1 (fun kq v3 v4 w'=>∃(Bk:Int) (Aj:List Int),v3= .int .i64 Bk∧Az (fG.l1 kq Bk Aj Ah Bi Bj=some (r1,r2,r3))∧Az (kq≤k1)∧Az (Kd.R (Kd.int .i64) 3 w' w.heap.size (fun _=>True) v4 Aj)∧Az (IsS63 w0 w' g Ah Bi Bj)∧Az (KeepBut w w' g none)∧Az (Below w0.heap.size w0 w'))
  case atStart=>exact⟨((wrap64 (1+Dd))),(Cy),rq2,H',⟨Nat.le_refl _⟩,⟨kR Ad.out⟩,⟨kI HI0.out⟩,⟨kK HK.out⟩,⟨kG HB.out (IsS63.ge HI0.out)⟩⟩
  clear H'
  try clear Gk
  try clear Dj
  try clear Ii
  try clear Ij
  try clear Im
  obtain⟨Bk,Aj,rfl,HA,HK2,Ad,HI0,HK,HB⟩:=hrel
  cases gk with
  |zero=>exact absurd HA.out (by simp[fG.l1])
  |succ k2=>
   have H:=HA.out
   clear HA
   simp only[fG.l1]at H
   by_cases Hn:(Aj.length:Int)<Bk
   ·rw[ip Hn]at H
    have Es:=ode Hn
    clear Hn
    by_cases Jj:Aj.length<17592186044416
    rotate_left
    ·rw[ig Jj]at H
     exact absurd H (by simp)
    rw[ip Jj]at H
    have LMc26:=Az.mk Jj
    clear Jj
    obtain⟨Gm,hy⟩:∃y_:List Int,y_=(Aj ++ [8]):=⟨_,rfl⟩
    replace H:(fG.l1 k2 (Gm.length:Int) Gm Ah Bi Bj)=some (r1,r2,r3):=rh
    have Jx:=Az.mk hy
    clear hy
    have H':=Az.mk H
    clear H
    obtain⟨Ly,Lz,Ma⟩:=Kd.R_slice Ad.out
    subst Ma
    go_wp2_with (first|((with_reducible refine gate_builtin (b:= .append) (xs:= #[.tmp 44, .tmp 45]) rfl ?_);at_builtin;refine Kd.R_append (Kd.int .i64) w.heap.size rfl (.tmp 44) (.tmp 45) 25 3 (.int .i64 0) 8 rfl Try.underlying25 info3 rfl (by decide) (by omega) (.slice Ly Aj.length Lz) Aj 8 [.int .i64 8] (fun _=>True) (fun _=>False) rfl rfl ?aP (fun _ hk=>hk.elim) ?aF ?aO (Below.refl _ _) ?aS ?aL ?_;(case aP=>exact rfl);(case aF=>exact(fun _ _=>trivial));(case aO=>exact(kR Ad.out));(case aS=>exact(keep_size (w:=w) (g:=g) (row:=none) (kK HK.out)));(case aL=>have:=LMc26.out;omega);intro Oc Pl ho hb hg hat;rw[←Jx.out]at ho;have n0_:=Az.mk (IsS63.grown (kI HI0.out) hg (IsS63.own_ne HI0.out Ad.out (by decide)));have n1_:=Az.mk (below_weaken (kG HB.out (IsS63.ge HI0.out)) HL.out hb);have n2_:=Az.mk (KeepBut.trans (kK HK.out) (KeepBut.of_grown hg g) (Kd.R_base2 Ad.out));have n3_:=Az.mk (ho);clear HI0;clear HB;clear HK;clear Ad;have HI0:=n0_;have HB:=n1_;have HK:=n2_;have Ho:=n3_;clear n0_ n1_ n2_ n3_;clear ho hb hg hat;obtain⟨Od,Oe,Mb⟩:=Kd.R_slice Ho.out;subst Mb))
    go_roundg k2
    case measure=>have:=HK1.out;have:=HK2.out;omega
    case rel=>exact⟨((Gm.length:Int)),(Gm),rq2,H',⟨by have:=HK1.out;have:=HK2.out;omega⟩,⟨kR Ho.out⟩,⟨kI HI0.out⟩,⟨kK HK.out⟩,⟨kG HB.out (IsS63.ge HI0.out)⟩⟩
   rw[ig Hn]at H
   have Es:=decide_eq_false Hn
   clear Hn
   obtain⟨Jy,hy⟩:∃y_:List (List Int),y_=(([]:List (List Int))):=⟨_,rfl⟩
   replace H:(fG.l2 k2 Bk Aj Jy 0 Ah Bi Bj)=some (r1,r2,r3):=rh
   have Hp:=Az.mk hy
   clear hy
   have H':=Az.mk H
   clear H
   obtain⟨Bl,Ay,Mc⟩:=Kd.R_slice Ad.out
   subst Mc
   go_wp2_with (first|((with_reducible refine gtD (N:=49) rfl ?_);refine Kd.S_lit (Kd.slice 3 (Kd.int .i64)) _ 25 ?hg (N:=49) ?hd (xs:=([]:List (List Int))) (inner:=[]) (ok:=fun _=>True) (okp:=fun _=>True) ?hr ?hp (fun _ hk=>hk) trivial (Below.refl _ _) (Nat.le_refl _) (by simp) ?_;(case hd=>rfl);(case hg=>rfl);(case hr=>first|(go_simp;done)|(go_simp;rfl));(case hp=>exact(Reps.none _ _));intro Of Pm Et hb hg_ hnew_;clear hg_ hnew_;(first|rw[←Hp.out]at Et|(simp only[Int.reduceToNat]at Et;rw[←Hp.out]at Et));have Jz:=Az.mk (Kd.S_lower (Kd.S_new' Et (Kd.R_lt (kR Ad.out))) (keep_size (w:=w) (g:=g) (row:=none) (kK HK.out)));replace Ad:=Az.mk (Kd.R_below (kR Ad.out) hb);replace HK:=Az.mk (KeepBut.trans (kK HK.out) (KeepBut.of_below hb g none) (.inl rfl));replace HB:=Az.mk (bwT (kG HB.out (IsS63.ge HI0.out)) hb);replace HI0:=Az.mk (IsS63.below (kI HI0.out) hb);clear hb Et))
   go_loopg [6,7] k2 (fun kq v6 v7 w'=>∃(Cn:List (List Int)) (Df:Int),v7= .int .i64 Df∧Az (fG.l2 kq Bk Aj Cn Df Ah Bi Bj=some (r1,r2,r3))∧Az (kq≤k2)∧Az (Kd.R (Kd.int .i64) 3 w' w.heap.size (fun _=>True) (.slice Bl Aj.length Ay) Aj)∧Az (Kd.S (Kd.slice 3 (Kd.int .i64)) 25 w' w.heap.size (fun k_=>some k_≠((.slice Bl Aj.length Ay):Value).ownBlock) v6 Cn)∧Az (IsS63 w0 w' g Ah Bi Bj)∧Az (KeepBut w w' g none)∧Az (Below w0.heap.size w0 w'))
   case atStart=>exact⟨(Jy),(0),rq2,H',⟨Nat.le_refl _⟩,⟨kR Ad.out⟩,⟨by(with_reducible repeat(first|apply Kd.S_alloc|apply Kd.S_drewN|apply Kd.S_drew));exact Kd.S_mono Jz.out (fun _ hk=>hk.2)⟩,⟨kI HI0.out⟩,⟨kK HK.out⟩,⟨kG HB.out (IsS63.ge HI0.out)⟩⟩
   clear H'
   try clear Gk
   try clear Dj
   try clear Ii
   try clear Ij
   try clear Im
   try clear Hn
   try clear Es
   try clear Jj
   obtain⟨Cn,Df,rfl,HA,HK3,Ad,Ag,HI0,HK,HB⟩:=hrel
   cases gk with
   |zero=>exact absurd HA.out (by simp[fG.l2])
   |succ k3=>
    have H:=HA.out
    clear HA
    simp only[fG.l2]at H
    by_cases In:Df<Bk
    ·rw[ip In]at H
     have Hq:=ode In
     clear In
     obtain⟨Eu,hy⟩:∃y_:List Int,y_=(([]:List Int)):=⟨_,rfl⟩
     replace H:(if Cn.length<5864062014805 then(fG.l2 k3 Bk Aj (Cn ++ [Eu]) (wrap64 (Df+1)) Ah Bi Bj) else(none))=some (r1,r2,r3):=rh
     have Hr:=Az.mk hy
     clear hy
     by_cases Ka:Cn.length<5864062014805
     rotate_left
     ·rw[ig Ka]at H
      exact absurd H (by simp)
     rw[ip Ka]at H
     have LMc34:=Az.mk Ka
     clear Ka
     obtain⟨Kb,hy⟩:∃y_:List (List Int),y_=(Cn ++ [Eu]):=⟨_,rfl⟩
     replace H:(fG.l2 k3 Bk Aj Kb (wrap64 (Df+1)) Ah Bi Bj)=some (r1,r2,r3):=rh
     have Ke:=Az.mk hy
     clear hy
     have H':=Az.mk H
     clear H
     go_wp2_with (first|((with_reducible refine gtD (N:=56) rfl ?_);refine Kd.R_lit (Kd.int .i64) _ 3 ?hg (N:=56) ?hd (xs:=([]:List Int)) (inner:=[]) (ok:=fun _=>True) (okp:=fun _=>True) ?hr ?hp (fun _ hk=>hk) trivial (Below.refl _ _) (Nat.le_refl _) (by simp) ?_;(case hd=>rfl);(case hg=>rfl);(case hr=>first|(go_simp;done)|(go_simp;rfl));(case hp=>exact(Reps.none _ _));intro Og Pn Dg hb hg_ hnew_;clear hg_ hnew_;(first|rw[←Hr.out]at Dg|(simp only[Int.reduceToNat]at Dg;rw[←Hr.out]at Dg));replace Ag:=Az.mk (Kd.S_elder' (kS Ag.out) (Kd.R_base Dg) hb);have Dk:=Az.mk (Kd.R_lower (Kd.R_new' Dg (Kd.R_lt (kR Ad.out))) (keep_size (w:=w) (g:=g) (row:=none) (kK HK.out)));replace Ad:=Az.mk (Kd.R_elder' (kR Ad.out) (Kd.R_base Dg) hb);replace HK:=Az.mk (KeepBut.trans (kK HK.out) (KeepBut.of_below hb g none) (.inl rfl));replace HB:=Az.mk (bwT (kG HB.out (IsS63.ge HI0.out)) hb);replace HI0:=Az.mk (IsS63.below (kI HI0.out) hb);clear hb Dg;obtain⟨Kf,Kg,Md⟩:=Kd.R_slice Dk.out;subst Md)|((with_reducible refine gate_builtin (b:= .append) (xs:= #[.tmp 55, .tmp 57]) rfl ?_);at_builtin;refine Kd.S_append (Kd.slice 3 (Kd.int .i64)) w.heap.size rfl (.tmp 55) (.tmp 57) 24 25 (.slice none 0 0) 24 rfl Try.underlying24 info25 rfl (by decide) (by omega) u6 Cn Eu [.slice Kf Eu.length Kg] (fun k_=>some k_≠(.slice Bl Aj.length Ay:Value).ownBlock) (fun k_=>some k_=(.slice Kf Eu.length Kg:Value).ownBlock) rfl rfl ?aP (fun k_ hk_=>((Kd.R_mono (ok':=fun k_=>((fun k_=>some k_≠(.slice Bl Aj.length Ay:Value).ownBlock)) k_∧some k_≠(u6:Value).ownBlock) (Kd.R_apart' (Dk.out) (Kd.S_typed Ag.out) (by decide)) (fun k_ hk=>⟨hk.1.2,hk.2⟩))).1 k_ hk_.symm) ?aF ?aO (Below.refl _ _) ?aS ?aL ?_;(case aP=>exact Kd.M_row (Kd.R_mono (Kd.R_tight rfl (Kd.R_mono (ok':=fun k_=>((fun k_=>some k_≠(.slice Bl Aj.length Ay:Value).ownBlock)) k_∧some k_≠(u6:Value).ownBlock) (Kd.R_apart' (Dk.out) (Kd.S_typed Ag.out) (by decide)) (fun k_ hk=>⟨hk.1.2,hk.2⟩))) (fun _ h_=>h_)));(case aF=>exact(fun k_ hk=>Kd.fresh' (Kd.R_lt (kR Ad.out)) k_ hk));(case aO=>exact(by(with_reducible repeat(first|apply Kd.S_alloc|apply Kd.S_drewN|apply Kd.S_drew));exact Kd.S_mono Ag.out (fun k_ hk=>⟨hk.1,fun e_=>hk.2 e_⟩)));(case aS=>exact(keep_size (w:=w) (g:=g) (row:=none) (kK HK.out)));(case aL=>have:=LMc34.out;omega);intro Oh Po ho hb hg hat;rw[←Ke.out]at ho;have n0_:=Az.mk (Kd.R_over' (kR Ad.out) (Kd.S_typed (kS Ag.out)) (by decide) hg);have n1_:=Az.mk (IsS63.grown (kI HI0.out) hg (IsS63.own_neS HI0.out Ag.out (by decide)));have n2_:=Az.mk (below_weaken (kG HB.out (IsS63.ge HI0.out)) HL.out hb);have n3_:=Az.mk (KeepBut.trans (kK HK.out) (KeepBut.of_grown hg g) (Kd.S_base2 Ag.out));have n4_:=Az.mk (ho);clear Ad;clear HI0;clear HB;clear HK;clear Ag;clear Dk;have Ad:=n0_;have HI0:=n1_;have HB:=n2_;have HK:=n3_;have Kh:=n4_;clear n0_ n1_ n2_ n3_ n4_;clear ho hb hg hat))
     go_roundg k3
     case measure=>have:=HK1.out;have:=HK2.out;have:=HK3.out;omega
     case rel=>exact⟨(Kb),(wrap64 (Df+1)),rq2,H',⟨by have:=HK1.out;have:=HK2.out;have:=HK3.out;omega⟩,⟨by(with_reducible repeat(first|apply Kd.R_alloc|apply Kd.R_drewN|apply Kd.R_drew));exact Kd.R_mono Ad.out (fun _ hk=>trivial)⟩,⟨kS Kh.out⟩,⟨kI HI0.out⟩,⟨kK HK.out⟩,⟨kG HB.out (IsS63.ge HI0.out)⟩⟩
    rw[ig In]at H
    have Hq:=decide_eq_false In
    clear In
    have H':=Az.mk H
    clear H
    go_wp2
    go_loopg [8] k3 (fun kq v8 w'=>∃(Af:List (List Int)) (Ae:Int) (As:Int) (Au:Int),v8= .int .i64 Ae∧Az (fG.l3 kq Bk Aj Af Ae Ah As Au=some (r1,r2,r3))∧Az (kq≤k3)∧Az (Kd.R (Kd.int .i64) 3 w' w.heap.size (fun _=>True) (.slice Bl Aj.length Ay) Aj)∧Az (Kd.S (Kd.slice 3 (Kd.int .i64)) 25 w' w.heap.size (fun k_=>some k_≠((.slice Bl Aj.length Ay):Value).ownBlock) u6 Af)∧Az (IsS63 w0 w' g Ah As Au)∧Az (KeepBut w w' g none)∧Az (Below w0.heap.size w0 w'))
    case atStart=>exact⟨(Cn),(0),(Bi),(Bj),rq2,H',⟨Nat.le_refl _⟩,⟨kR Ad.out⟩,⟨kS Ag.out⟩,⟨kI HI0.out⟩,⟨kK HK.out⟩,⟨kG HB.out (IsS63.ge HI0.out)⟩⟩
    clear H'
    try clear Gk
    try clear Dj
    try clear Ii
    try clear Ij
    try clear Im
    try clear Hn
    try clear Es
    try clear Jj
    try clear In
    try clear Hq
    try clear Ka
    obtain⟨Af,Ae,As,Au,rfl,HA,HK4,Ad,Ag,HI0,HK,HB⟩:=hrel
    cases gk with
    |zero=>exact absurd HA.out (by simp[fG.l3])
    |succ k4=>
     have H:=HA.out
     clear HA
     simp only[fG.l3]at H
     by_cases Jk:Ae<(Aj.length:Int)
     rotate_left
     ·rw[ig Jk]at H
      have Ki:=decide_eq_false Jk
      clear Jk
      simp only[Option.some.injEq,Prod.mk.injEq]at H
      obtain⟨rfl,rfl,rfl⟩:=H
      go_wp2
      go_ret
      exact⟨_,rq1,by(with_reducible repeat(first|apply Kd.S_alloc|apply Kd.S_drewN|apply Kd.S_drew));exact Kd.S_mono Ag.out (fun _ hk=>trivial),kI HI0.out,kG HB.out (IsS63.ge HI0.out),kK HK.out⟩
     rw[ip Jk]at H
     have Ki:=ode Jk
     clear Jk
     replace H:=be.mp H
     obtain⟨⟨Ai,Cl,Cm⟩,Kj,H⟩:=H
     dsimp only at H
     have Nc:=Az.mk Kj
     clear Kj
     by_cases Jl:Ae<Bk
     ·rw[ip Jl]at H
      have Kk:=ode Jl
      clear Jl
      cases k4 with
      |zero=>exact absurd H (by simp[fG.l4])
      |succ k5=>
       simp only[fG.l4]at H
       by_cases cP0:0≤Ae
       case neg=>rw[ig cP0]at H;exact absurd H (by simp)
       rw[ip cP0]at H
       have cP0b0:=(ode cP0:decide (0≤Ae)=true)
       clear cP0
       by_cases cP1:Ae<(Af.length:Int)
       case neg=>rw[ig cP1]at H;exact absurd H (by simp)
       rw[ip cP1]at H
       have cP1b0:=(ode cP1:decide (Ae<(Af.length:Int))=true)
       clear cP1
       replace H:=be.mp H
       obtain⟨⟨Bf,Io,Ip⟩,Kl,H⟩:=H
       dsimp only at H
       have Oi:=Az.mk Kl
       clear Kl
       by_cases cA0:0≤Bf
       case neg=>rw[ig cA0]at H;exact absurd H (by simp)
       rw[ip cA0]at H
       have cA0b0:=ets cA0
       have cA0b1:=(ode cA0:decide (0≤Bf)=true)
       clear cA0
       by_cases cA1:Bf≤((rd_L1 Af Ae).length:Int)
       case neg=>rw[ig cA1]at H;exact absurd H (by simp)
       rw[ip cA1]at H
       have cA1b0:=ets cA1
       have cA1b1:=(ode cA1:decide (Bf≤((rd_L1 Af Ae).length:Int))=true)
       have HAT:=Az.mk cA1
       clear cA1
       by_cases cK0:0≤Ae
       case neg=>rw[ig cK0]at H;exact absurd H (by simp)
       rw[ip cK0]at H
       have cK0b0:=(ode cK0:decide (0≤Ae)=true)
       clear cK0
       by_cases cK1:Ae<(Aj.length:Int)
       case neg=>rw[ig cK1]at H;exact absurd H (by simp)
       rw[ip cK1]at H
       have cK1b0:=(ode cK1:decide (Ae<(Aj.length:Int))=true)
       clear cK1
       by_cases cL:(rd_L1 Af Ae).length<17592186044415
       case neg=>rw[ig cL]at H;exact absurd H (by simp)
       rw[ip cL]at H
       have LMC:=Az.mk cL
       clear cL
       obtain⟨Gn,hyN⟩:∃y_:List Int,y_=[]:=⟨_,rfl⟩
       obtain⟨Co,hyD⟩:∃y_:List Int,y_=(rd_L1 Af Ae).drop (Bf:Int).toNat:=⟨_,rfl⟩
       obtain⟨Dh,hyR⟩:∃y_:List Int,y_=Gn ++ Co:=⟨_,rfl⟩
       obtain⟨yT,hyT⟩:∃y_:List Int,y_=(rd_L1 Af Ae).take (Bf:Int).toNat:=⟨_,rfl⟩
       obtain⟨Iq,hyA⟩:∃y_:List Int,y_=yT ++ [rd Aj Ae]:=⟨_,rfl⟩
       obtain⟨yF,hyF⟩:∃y_:List Int,y_=Iq ++ Dh:=⟨_,rfl⟩
       obtain⟨Km,hyS⟩:∃y_:List (List Int),y_=Af.set (Ae:Int).toNat yF:=⟨_,rfl⟩
       replace H:fG.l3 k5 Bk Aj Km (wrap64 (Ae+1)) Ah Io Ip=some (r1,r2,r3):=by rw[hyS,hyF,hyA,hyR,hyT,hyN,hyD,List.nil_append];exact H
       have hlT:yT.length≤(rd_L1 Af Ae).length:=by rw[hyT,List.length_take];exact Nat.min_le_right _ _
       have hlR:yT.length+Dh.length=(rd_L1 Af Ae).length:=by rw[hyT,hyR,hyN,hyD,List.nil_append,List.length_take,List.length_drop];have:=HAT.out;omega
       have LMc47:Az (Gn.length+Co.length<17592186044416):=⟨by have:=LMC.out;have h2:Dh.length=Gn.length+Co.length:=(by rw[hyR,List.length_append]);omega⟩
       have LM1:Az ((yT.length+1)*8≤140737488355328):=⟨by have:=LMC.out;omega⟩
       have LM2:Az ((Iq.length+Dh.length)*8≤140737488355328):=⟨by have:=LMC.out;rw[hyA,List.length_append,List.length_singleton];omega⟩
       have Hs:=Az.mk hyN
       have Ht:=Az.mk hyD
       have Kn:=Az.mk hyR
       have Ko:=Az.mk hyA
       have Kp:=Az.mk hyS
       have NyT:=Az.mk hyT
       have NyF:=Az.mk hyF
       clear hyN hyD hyR hyT hyA hyF hyS hlT hlR
       have H':=Az.mk H
       clear H
       go_wp2_with (first|((with_reducible refine gtC (f:=51) rfl ?_);refine clz Try.func51 (some 67) #[.pointer (some ⟨g,0,none⟩), .int .i64 Bk] ?_;(with_reducible refine(fB.calls g Ah As Au Bk Ai Cl Cm w0 _ ?Am ?Ao Nc.out).mono ?_);(case Am=>exact(kI HI0.out));(case Ao=>exact kG HB.out (IsS63.ge HI0.out));rintro e Pp ⟨rfl,hi,hb,hk⟩;refine⟨_,rfl,?_⟩;replace Ad:=Az.mk (Kd.R_mono (Kd.R_keep (IsS63.apart (show IsS63 w0 _ g Ah As Au from kI HI0.out) (kR Ad.out) (by decide)) hk (fun _ h=>h.2)) (fun _ h=>h.1));replace Ag:=Az.mk (Kd.S_mono (Kd.S_keep (IsS63.apartS (show IsS63 w0 _ g Ah As Au from kI HI0.out) (kS Ag.out) (by decide)) hk (fun _ h=>h.2)) (fun _ h=>h.1));replace HK:=Az.mk (KeepBut.trans (kK HK.out) hk (.inl rfl));replace HB:=Az.mk (hb);replace HI0:=Az.mk (hi);(try clear hb);(try clear hk);(try clear hi);obtain⟨Oj,Kq,Me⟩:=Kd.S_slice Ag.out;subst Me;have Gp:0≤(Ae:Int):=od;have Gq:Ae<(Af.length:Int):=od;obtain⟨Dl,Ir,It,Mf,Bw,Dm,Dn⟩:=at_L1 (Kd.S_reads' Ag.out).2.2 Ae Gp Gq;cases Mf;obtain⟨Nd,hce379,hMe379,Ev⟩:=Kd.S_get Ag.out [] Ae Gp (by first|exact Gq|exact od|(have e_:=(Kd.S_reads' Ag.out).1;omega));obtain⟨Lj,rfl,Cp⟩:=hMe379;have Bn:=Ev 0 _ rfl;rw[Nat.add_zero,show((Kd.slice 3 (Kd.int .i64))).sz=1 from rfl,Nat.mul_one]at Bn;replace Bn:=Option.some.inj (Bn.symm.trans Bw);rw[Bn]at Cp;have Ak:=Az.mk (show Kd.R (Kd.int .i64) 3 _ _ _ _ (rd_L1 Af Ae)from Cp);clear Bn Cp;have Bx:=Az.mk Bw;clear Ev hce379;have Lk:=Az.mk Dn;have Ll:=Az.mk Dm;clear Dn Dm;replace Gp:=ets Gp;replace Gq:=ets Gq)|((with_reducible refine gtC (f:=51) rfl ?_);refine clz Try.func51 (some 79) #[.pointer (some ⟨g,0,none⟩), .int .i64 (wrap64 (((rd_L1 Af Ae).length:Int)+1))] ?_;(with_reducible refine(fB.calls g Ah Cl Cm (wrap64 (((rd_L1 Af Ae).length:Int)+1)) Bf Io Ip w0 _ ?Am ?Ao Oi.out).mono ?_);(case Am=>exact(kI HI0.out));(case Ao=>exact kG HB.out (IsS63.ge HI0.out));rintro e Pq ⟨rfl,hi,hb,hk⟩;refine⟨_,rfl,?_⟩;replace Ad:=Az.mk (Kd.R_mono (Kd.R_keep (IsS63.apart (show IsS63 w0 _ g Ah Cl Cm from kI HI0.out) (kR Ad.out) (by decide)) hk (fun _ h=>h.2)) (fun _ h=>h.1));replace Ak:=Az.mk (Kd.R_mono (Kd.R_keep (IsS63.apart (show IsS63 w0 _ g Ah Cl Cm from kI HI0.out) (kR Ak.out) (by decide)) hk (fun _ h=>h.2)) (fun _ h=>h.1));replace Bx:=Az.mk (keep_cell hk Bx.out (by first|(rw[add_block];exact Kd.own_blk (IsS63.own_neS HI0.out Ag.out (by decide)))|(show(Addr.add _ _).block≠_;rw[add_block];exact Kd.own_blk (IsS63.own_neS HI0.out Ag.out (by decide)))|exact Kd.own_blk (IsS63.own_neS HI0.out Ag.out (by decide))|(dsimp only;exact Kd.own_blk (IsS63.own_neS HI0.out Ag.out (by decide)))));replace Ag:=Az.mk (Kd.S_mono (Kd.S_keep (IsS63.apartS (show IsS63 w0 _ g Ah Cl Cm from kI HI0.out) (kS Ag.out) (by decide)) hk (fun _ h=>h.2)) (fun _ h=>h.1));replace HK:=Az.mk (KeepBut.trans (kK HK.out) hk (.inl rfl));replace HB:=Az.mk (hb);replace HI0:=Az.mk (hi);(try clear hb);(try clear hk);(try clear hi))|((with_reducible refine gtD (N:=80) rfl ?_);refine Kd.R_lit (Kd.int .i64) _ 3 ?hg (N:=80) ?hd (xs:=([]:List Int)) (inner:=[]) (ok:=fun _=>True) (okp:=fun _=>True) ?hr ?hp (fun _ hk=>hk) trivial (Below.refl _ _) (Nat.le_refl _) (by simp) ?_;(case hd=>rfl);(case hg=>rfl);(case hr=>first|(go_simp;done)|(go_simp;rfl));(case hp=>exact(Reps.none _ _));intro Mg Pr Da hb hg_ hnew_;clear hg_ hnew_;(first|rw[←Hs.out]at Da|(simp only[Int.reduceToNat]at Da;rw[←Hs.out]at Da));replace Ag:=Az.mk (Kd.S_elder' (kS Ag.out) (Kd.R_base Da) hb);have Do:=Az.mk (Kd.R_lower (Kd.R_new' (Kd.R_new' Da (Kd.R_lt (kR Ad.out))) (Kd.R_lt (kR Ak.out))) (keep_size (w:=w) (g:=g) (row:=none) (kK HK.out)));replace Ad:=Az.mk (Kd.R_elder' (kR Ad.out) (Kd.R_base Da) hb);replace Ak:=Az.mk (Kd.R_elder' (kR Ak.out) (Kd.R_base Da) hb);replace Bx:=Az.mk (pw_cell_below hb Bx.out);replace HK:=Az.mk (KeepBut.trans (kK HK.out) (KeepBut.of_below hb g none) (.inl rfl));replace HB:=Az.mk (bwT (kG HB.out (IsS63.ge HI0.out)) hb);replace HI0:=Az.mk (IsS63.below (kI HI0.out) hb);clear hb Da;have Gr:0≤(Ae:Int):=od;have Gs:Ae<(Af.length:Int):=od;obtain⟨Kr,Cq,Cd,Mh,By,Dp,Dq⟩:=at_L1 (Kd.S_reads' Ag.out).2.2 Ae Gr Gs;obtain rfl:Dl=Kr:=(by injection Mh);obtain⟨Nf,hce386,hMe386,Ew⟩:=Kd.S_get Ag.out [] Ae Gr (by first|exact Gs|exact od|(have e_:=(Kd.S_reads' Ag.out).1;omega));obtain⟨Lm,rfl,Cr⟩:=hMe386;have Bo:=Ew 0 _ rfl;rw[Nat.add_zero,show((Kd.slice 3 (Kd.int .i64))).sz=1 from rfl,Nat.mul_one]at Bo;replace Bo:=Option.some.inj (Bo.symm.trans By);rw[Bo]at Cr;have Ba:=Az.mk (show Kd.R (Kd.int .i64) 3 _ _ _ _ (rd_L1 Af Ae)from Cr);clear Bo Cr;have Ln:=Az.mk By;clear Ew hce386;have Dr:=Az.mk Dq;have Gt:=Az.mk Dp;clear Dq Dp;replace Gr:=ets Gr;replace Gs:=ets Gs;have Mi:(Bf:Int)≤(((rd_L1 Af Ae).length:Int):Int):=od;obtain⟨Ol,Hu,_,hsz70,_⟩:=info_parts info3;have hroom70:(rd_L1 Af Ae).length≤Cd:=Gt.out;have hC70:Kd.C (Kd.int .i64) _ Cq (rd_L1 Af Ae).length (rd_L1 Af Ae):=(by repeat(first|(with_reducible exact Dr.out)|(with_reducible refine Kd.C_alloc ?_ _)|(with_reducible refine Kd.C_drewN ?_ _)|(with_reducible refine Kd.C_drew ?_)|exact Dr.out));have Mj:(0:Int)≤(Bf:Int):=od;have hcut70:=cut_from (P:=Try.prog) 25 3 .i64 Try.underlying25 Hu 1 hsz70 Cq (rd_L1 Af Ae).length Cd Bf Mj Mi;have Ex:=Kd.C_drop (m:=(Bf:Int).toNat) (c:=Cd) hC70 (by omega) hroom70;obtain⟨Om,hA70⟩:∃A1,A1=(if Cd=(Bf:Int).toNat then Cq else(Cq:Option Addr).map (·.add ((Bf:Int).toNat*1))):=⟨_,rfl⟩;obtain⟨Oo,Iu⟩:∃c1,c1=Cd - (Bf:Int).toNat:=⟨_,rfl⟩;have hy70:Co.length=(rd_L1 Af Ae).length - (Bf:Int).toNat:=(by rw[Ht.out,List.length_drop] <;> omega);rw[show(rd_L1 Af Ae).drop (Bf:Int).toNat=Co from Ht.out.symm]at Ex;replace Ex:Kd.C (Kd.int .i64) _ Om Co.length Co:=(by rw[hA70];exact Ex);rw[←hy70, ←hA70, ←Iu]at hcut70;have Hv:=Az.mk Ex;have Ng:=Az.mk (show Co.length≤Oo from by rw[hy70,Iu];exact Nat.sub_le_sub_right hroom70 _);clear Ex hC70 hroom70 Hu hsz70 Iu;have KY70:=Az.mk hy70;have KA70:=Az.mk hA70;clear hy70 hA70;replace Mi:=ets Mi)|((with_reducible refine gate_builtin (b:= .append) (xs:= #[.tmp 80, .tmp 86]) rfl ?_);at_builtin;refine Kd.R_append_rows (Kd.int .i64) w.heap.size rfl (.tmp 80) (.tmp 86) 25 3 (.int .i64 0) 8 rfl Try.underlying25 info3 rfl (by decide) (by omega) Mg Gn Co _ _ _ (fun k_=>some k_≠(.slice Bl Aj.length Ay:Value).ownBlock∧some k_≠(.slice Ir (rd_L1 Af Ae).length It:Value).ownBlock) (fun _=>False) rfl rfl ?aO ?aR (fun _ _ h=>h) (fun _ h=>h.elim) ?aF (Below.refl _ _) ?aS ?aL ?_;(case aR=>repeat(first|exact(by repeat(first|(with_reducible exact Hv.out)|(with_reducible refine Kd.C_alloc ?_ _)|(with_reducible refine Kd.C_drewN ?_ _)|(with_reducible refine Kd.C_drew ?_)|exact Hv.out))|(with_reducible refine Kd.C_alloc ?_ _)|(with_reducible refine Kd.C_drewN ?_ _)|(with_reducible refine Kd.C_drew ?_)));(case aF=>exact(fun k_ hk=>⟨Kd.fresh' (Kd.R_lt (kR Ad.out)) k_ hk,Kd.fresh' (Kd.R_lt (kR Ak.out)) k_ hk⟩));(case aO=>exact(by(with_reducible repeat(first|apply Kd.R_alloc|apply Kd.R_drewN|apply Kd.R_drew));exact Kd.R_mono Do.out (fun _ hk=>⟨hk.1.2,hk.2⟩)));(case aS=>exact(keep_size (w:=w) (g:=g) (row:=none) (kK HK.out)));(case aL=>have:=LMc47.out;omega);intro Op Oq ho hb hg hat;rw[←Kn.out]at ho;have n0_:=Az.mk (Kd.R_after (ok:=(fun _=>True)) (kR Ad.out) hg hat);have n1_:=Az.mk (Kd.S_after (ok:=(fun k_=>some k_≠(.slice Bl Aj.length Ay:Value).ownBlock)) (kS Ag.out) hg hat);have n2_:=Az.mk (IsS63.grown (kI HI0.out) hg (IsS63.own_ne HI0.out Do.out (by decide)));have n3_:=Az.mk (Kd.R_after (ok:=(fun k_=>some k_≠(.slice Bl Aj.length Ay:Value).ownBlock∧some k_≠(.slice (some Dl) Af.length Kq:Value).ownBlock)) (kR Ak.out) hg hat);have n4_:=Az.mk (Kd.R_after (ok:=(fun k_=>some k_≠(.slice Bl Aj.length Ay:Value).ownBlock∧some k_≠(.slice (some Dl) Af.length Kq:Value).ownBlock)) (by(with_reducible repeat(first|apply Kd.R_alloc|apply Kd.R_drewN|apply Kd.R_drew));exact Kd.R_mono Ba.out (fun _ hk=>⟨⟨hk.1.1,hk.2⟩,hk.1.2⟩)) hg hat);have n5_:=Az.mk (below_weaken (kG HB.out (IsS63.ge HI0.out)) HL.out hb);have n6_:=Az.mk (KeepBut.trans (kK HK.out) (KeepBut.of_grown hg g) (Kd.R_base2 Do.out));have n7_:=Az.mk (ho);clear Ad;clear Ag;clear HI0;clear Ak;clear Ba;clear HB;clear HK;clear Do;have Ad:=n0_;have Ag:=n1_;have HI0:=n2_;have Ak:=n3_;have Ba:=n4_;have HB:=n5_;have HK:=n6_;have Av:=n7_;clear n0_ n1_ n2_ n3_ n4_ n5_ n6_ n7_;clear ho hb hg hat))
       replace Ad:=Az.mk (Kd.R_drew Ad.out);replace Ag:=Az.mk (Kd.S_drew Ag.out);replace Ak:=Az.mk (Kd.R_drew Ak.out);replace Ba:=Az.mk (Kd.R_drew Ba.out);replace Av:=Az.mk (Kd.R_drew Av.out);replace HI0:=Az.mk (IsS63.drew HI0.out);replace HK:=Az.mk (keep_drew HK.out);replace HB:=Az.mk (bwD HB.out)
       have Gu:0≤(Ae:Int):=od
       have Gv:Ae<(Af.length:Int):=od
       obtain⟨Ks,Ce,Cf,Mk,Bp,Ds,Dt⟩:=at_L1 (Kd.S_reads' Ag.out).2.2 Ae Gu Gv
       obtain rfl:Dl=Ks:=(by injection Mk)
       obtain⟨Nh,hce394,hMe394,Ey⟩:=Kd.S_get Ag.out [] Ae Gu (by first|exact Gv|exact od|(have e_:=(Kd.S_reads' Ag.out).1;omega))
       obtain⟨Lo,rfl,Cs⟩:=hMe394
       have Bq:=Ey 0 _ rfl
       rw[Nat.add_zero,show((Kd.slice 3 (Kd.int .i64))).sz=1 from rfl,Nat.mul_one]at Bq
       replace Bq:=Option.some.inj (Bq.symm.trans Bp)
       rw[Bq]at Cs
       have Du:=Az.mk (show Kd.R (Kd.int .i64) 3 _ _ _ _ (rd_L1 Af Ae)from Cs)
       clear Bq Cs
       have Dv:=Az.mk Bp
       clear Ey hce394
       have Gw:=Az.mk Dt
       have Gx:=Az.mk Ds
       clear Dt Ds
       replace Gu:=ets Gu
       replace Gv:=ets Gv
       have Iw:0≤(Ae:Int):=od
       have Ix:Ae<(Aj.length:Int):=od
       obtain⟨Ez,Ml,Dw⟩:=Kd.at_int (Kd.R_reads' Ad.out).2.2 Ae Iw Ix
       cases Ml
       replace Iw:=ets Iw
       replace Ix:=ets Ix
       obtain⟨Gy,Ot,Kt,Ku,gl73,Ou,HG73⟩:=Kd.S_form Ag.out (by have h_:(Ae:Int)<((Af.length:Int):Int):=od;have h2_:0≤(Ae:Int):=(od);omega)
       (first|cases Kt|(injection Kt with ea_ en_ ec_;(first|subst ea_|(injection ea_ with ea_;subst ea_));subst ec_;clear en_))
       have Kv:=Az.mk Ku
       have Mm:=Az.mk HG73
       clear Ku gl73 HG73
       (first|simp only[add_plain]at Bw|skip)
       (first|simp only[add_plain]at By|skip)
       (first|simp only[add_plain]at Bp|skip)
       obtain⟨oki73,Ov,Kw,Mn,Hw,_,hoki73,hH73⟩:=Kd.S_elem Ag.out [] (Ae:Int) (od) (by have h_:(Ae:Int)<((Af.length:Int):Int):=od;first|exact h_|(have e_:=(Kd.S_reads' Ag.out).1;omega)|simpa using h_)
       obtain⟨Mo,rfl,Ga⟩:=Mn
       have Gb:=Hw 0 _ rfl
       have hX73:=Dv.out
       (try simp only[add_plain]at hX73)
       (try simp only[Nat.add_zero]at Gb)
       (try rw[show((Kd.slice 3 (Kd.int .i64))).sz=1 from rfl,Nat.mul_one]at Gb)
       replace Gb:=Option.some.inj (Gb.symm.trans hX73)
       subst Gb
       clear hX73 Hw Kw
       have UU73:=Az.mk (show Kd.R (Kd.int .i64) 3 _ w.heap.size oki73 (.slice Ce (rd_L1 Af Ae).length Cf) (rd_L1 Af Ae)from Ga)
       have HH73:=Az.mk hH73
       have HN73:=Az.mk (Kd.S_reads' Ag.out).1
       clear hH73 Ga
       have OK73:=Az.mk hoki73
       clear hoki73
       obtain⟨i0C,hi0C,_,_,_⟩:=info_parts info3
       have hcutC:=cut_to (P:=Try.prog) 25 3 .i64 Try.underlying25 hi0C Ce (rd_L1 Af Ae).length Cf Bf (od) (od) Gx.out
       have hyC:yT.length=(Bf:Int).toNat:=by rw[NyT.out,List.length_take];have:=HAT.out;omega
       rw[←hyC]at hcutC
       have KYC:=Az.mk hyC
       clear hyC hi0C
       obtain⟨AoR,coR,eoR⟩:=Kd.R_slice Av.out
       subst eoR
       refine start_ (n:=18) (S:=fun w'=>w'.cell? ⟨Gy,(Ae).toNat,none⟩=some (.slice Ce (rd_L1 Af Ae).length Cf)∧w'.cell? (Ez.add (Ae).toNat)=some (.int .i64 (rd Aj Ae))) (ds:=[13,15,17]) #[F,F,F,F,F,F,F,F,F,F,F,F,F,F,F,F,F,F] z13_0 rfl rfl ⟨Bp,Dw⟩ (fun hHeld=>?_);refine with_tabW fG.tab25 fG.bits25 (fun HT_ HW_=>?_)
       generalize Oq.drew=Lp at Ad Ag Ak Ba Av HI0 HK HB Mm HH73 Du Gw Dv UU73 Bw By Bp Dw hHeld ⊢
       have UTC:=Az.mk (show Kd.R (Kd.int .i64) 3 Lp w.heap.size oki73 (.slice Ce yT.length Cf) yT from by rw[KYC.out,NyT.out];exact Kd.R_take UU73.out (by have:=HAT.out;omega))
       refine pu (i:=0) (N:=some 88) #[T,F,F,F,F,F,F,F,F,F,F,F,F,F,F,F,F,F] (any_of HT_.out z13_0) ?_
       refine pu (i:=1) (N:=some 89) #[T,T,F,F,F,F,F,F,F,F,F,F,F,F,F,F,F,F] (any_of HT_.out z13_0) ?_
       refine pu (i:=2) (N:=some 90) #[T,T,T,F,F,F,F,F,F,F,F,F,F,F,F,F,F,F] (any_of HT_.out z13_0) ?_
       refine pu (i:=3) (N:=some 91) #[T,T,T,T,F,F,F,F,F,F,F,F,F,F,F,F,F,F] (any_of HT_.out z13_0) ?_
       refine pu (i:=4) (N:=some 92) #[T,T,T,T,T,F,F,F,F,F,F,F,F,F,F,F,F,F] (any_of HT_.out z13_0) ?_
       refine pu (i:=6) (N:=some 94) #[T,T,T,T,T,F,T,F,F,F,F,F,F,F,F,F,F,F] (any_of HT_.out z13_0) ?_
       refine pu (i:=8) (N:=some 96) #[T,T,T,T,T,F,T,F,T,F,F,F,F,F,F,F,F,F] (any_of HT_.out z13_0) ?_
       refine pu (i:=9) (N:=some 97) #[T,T,T,T,T,F,T,F,T,T,F,F,F,F,F,F,F,F] (any_of HT_.out z13_0) ?_
       refine pu (i:=10) (N:=some 98) #[T,T,T,T,T,F,T,F,T,T,T,F,F,F,F,F,F,F] (any_of HT_.out z13_0) ?_
       refine pu (i:=14) (N:=some 102) #[T,T,T,T,T,F,T,F,T,T,T,F,F,F,T,F,F,F] (any_of HT_.out z13_0) ?_
       refine take_ (i:=5) (N:=some 93) (v:=?_) (a':=?_) #[T,T,T,T,T,T,T,F,T,T,T,F,F,F,T,F,F,F] rfl rfl (take_ofW HT_.out HW_.out z13_0) (fun _ _ _ h=>h) (Or.inl ⟨by rfl,?_⟩) hHeld ?_ ?_
       rotate_left
       ·rintro w' ⟨s0,s1⟩
        go_simp
        with_reducible rfl
       rotate_left
       ·exact acq
       refine pu (i:=7) (N:=some 95) #[T,T,T,T,T,T,T,T,T,T,T,F,F,F,T,F,F,F] (any_of HT_.out z13_0) ?_
       refine take_ (i:=11) (N:=some 99) (v:=?_) (a':=?_) #[T,T,T,T,T,T,T,T,T,T,T,T,F,F,T,F,F,F] rfl rfl (take_ofW HT_.out HW_.out z13_0) (fun _ _ _ h=>h) (Or.inl ⟨by rfl,?_⟩) hHeld ?_ ?_
       rotate_left
       ·rintro w' ⟨s0,s1⟩
        go_simp
        with_reducible rfl
       rotate_left
       ·exact acq
       refine one_ (i:=12) (N:=some 100) #[T,T,T,T,T,T,T,T,T,T,T,T,T,F,T,F,F,F] rfl rfl (one_of HT_.out z13_0) (by decide) (fun K hK=>?_)
       refine value_ (w1:=?_) (v:=?_) (by rfl) rfl ?_ ?_
       rotate_left 2
       ·go_simp
        constructor
        ·rfl
        rfl
       refine hK.out _ _ ⟨(World.cell?_alloc_lt _ _ _ (World.block_lt_of_cell? _ _ (hHeld.1))).trans (hHeld.1),(World.cell?_alloc_lt _ _ _ (World.block_lt_of_cell? _ _ (hHeld.2))).trans (hHeld.2)⟩ (fun hHeld=>?_)
       clear hK K
       refine norm_ (a':=?_) ?_ ?_
       rotate_left
       ·show Act.put _ (some 100) _=_
        exact acq
       refine last_ (i:=13) (N:=some 101) #[T,T,T,T,T,T,T,T,T,T,T,T,T,T,T,F,F,F] rfl rfl (one_of HT_.out z13_0) (by decide) (fun K hK=>?_)
       refine Kd.R_append_step (Kd.int .i64) w.heap.size (by rfl) (.tmp 95) (.tmp 100) 25 3 (.int .i64 0) 8 rfl Try.underlying25 info3 rfl (by decide) (by omega) (.slice Ce yT.length Cf) yT (rd Aj Ae) [.int .i64 (rd Aj Ae)] (fun k_=>oki73 k_∨((fun k_=>some k_≠(.slice (some Ez) Aj.length Ay:Value).ownBlock∧some k_≠(.slice AoR Dh.length coR:Value).ownBlock)) k_∧Lp.heap.size≤k_) (fun _=>False) rfl rfl ?aP (fun _ hk=>hk.elim) ?aF ?aO (Below.refl _ _) ?aS ?aL ?_
       (case aP=>exact rfl)
       (case aF=>exact(fun k_ hk=> .inr ⟨⟨Kd.fresh' (Kd.R_lt (kR Ad.out)) k_ hk,Kd.fresh' (Kd.R_lt (kR Av.out)) k_ hk⟩,hk⟩))
       (case aO=>exact(by(with_reducible repeat(first|apply Kd.R_alloc|apply Kd.R_drewN|apply Kd.R_drew));exact Kd.R_mono UTC.out (fun _ hk=> .inl hk)))
       (case aS=>exact(keep_size (w:=w) (g:=g) (row:=none) (kK HK.out)))
       (case aL=>exact LM1.out)
       intro Mp Ow ho hb hg hat
       rw[←Ko.out]at ho
       have n0_:=Az.mk (Kd.R_grown2 (kR Ad.out) rfl hg (fun k_ e_=>(OK73.out k_ (UTC.out.1 k_ e_)).1.1))
       have n1_:=Az.mk (IsS63.grown (kI HI0.out) hg (IsS63.own_ne HI0.out UTC.out (by decide)))
       have n2_:=Az.mk (Kd.R_grown2 (kR Av.out) rfl hg (fun k_ e_=>(OK73.out k_ (UTC.out.1 k_ e_)).1.2))
       have n3_:=Az.mk (below_weaken (kG HB.out (IsS63.ge HI0.out)) HL.out hb)
       have n4_:=Az.mk (KeepBut.trans (kK HK.out) (KeepBut.of_grown hg g) (Kd.R_base2 UTC.out))
       have n5_:=Az.mk (Kd.H_grown (Kd.H_widen (by repeat(first|exact HH73.out|refine Kd.H_alloc ?_ _|refine Kd.H_drewN ?_ _|refine Kd.H_drew ?_))) hg (fun k_ e_=> .inl (UTC.out.1 k_ e_)))
       have n6_:=Az.mk (ho)
       have HSZ:Az (Lp.heap.size≤Ow.heap.size):=⟨hg.size⟩
       clear Ad
       clear HI0
       clear Av
       clear HB
       clear HK
       clear HH73
       clear Ag
       clear UU73
       clear UTC
       clear Ak
       clear Ba
       clear Du
       have Ad:=n0_
       have HI0:=n1_
       have Av:=n2_
       have HB:=n3_
       have HK:=n4_
       have HH73:=n5_
       have Cg:=n6_
       clear n0_ n1_ n2_ n3_ n4_ n5_ n6_
       clear ho hb hg hat
       refine hK.out _ _ ?_
       clear hK K
       refine norm_ (a':=?_) ?_ ?_
       rotate_left
       ·show Act.put _ (some 101) _=_
        exact acq
       refine last_ (i:=15) (N:=some 103) #[T,T,T,T,T,T,T,T,T,T,T,T,T,T,T,T,F,F] rfl rfl (one_of HT_.out z13_0) (by decide) (fun K hK=>?_)
       refine Kd.R_append_rows_step (Kd.int .i64) w.heap.size (by rfl) (.tmp 101) (.tmp 102) 25 3 (.int .i64 0) 8 rfl Try.underlying25 info3 rfl (by decide) (by omega) Mp Iq Dh _ _ _ (fun k_=>oki73 k_∨((fun k_=>some k_≠(.slice (some Ez) Aj.length Ay:Value).ownBlock∧some k_≠(.slice AoR Dh.length coR:Value).ownBlock)) k_∧Lp.heap.size≤k_) (fun _=>False) rfl rfl ?aO ?aR (fun _ _ h=>h) (fun _ h=>h.elim) ?aF (Below.refl _ _) ?aS ?aL ?_
       (case aR=>exact(Kd.R_reads' Av.out).2.2)
       (case aF=>exact(fun k_ hk=> .inr ⟨⟨Kd.fresh' (Kd.R_lt (kR Ad.out)) k_ hk,Kd.fresh' (Kd.R_lt (kR Av.out)) k_ hk⟩,Nat.le_trans HSZ.out hk⟩))
       (case aO=>exact(kR Cg.out))
       (case aS=>exact(keep_size (w:=w) (g:=g) (row:=none) (kK HK.out)))
       (case aL=>exact LM2.out)
       intro vF wF ho hb hg hat
       rw[←NyF.out]at ho
       have n0_:=Az.mk (Kd.R_grown2 (kR Ad.out) rfl hg (fun k_ e_=>(Cg.out.1 k_ e_).elim (fun h_=>(OK73.out k_ h_).1.1) (fun h_=>h_.1.1)))
       have n1_:=Az.mk (IsS63.grown (kI HI0.out) hg (IsS63.own_ne HI0.out Cg.out (by decide)))
       have n2_:=Az.mk (Kd.R_grown2 (kR Av.out) rfl hg (fun k_ e_=>(Cg.out.1 k_ e_).elim (fun h_=>(OK73.out k_ h_).1.2) (fun h_=>h_.1.2)))
       have n3_:=Az.mk (below_weaken (kG HB.out (IsS63.ge HI0.out)) HL.out hb)
       have n4_:=Az.mk (KeepBut.trans (kK HK.out) (KeepBut.of_grown hg g) (Kd.R_base2 Cg.out))
       have n5_:=Az.mk (Kd.H_grown HH73.out hg (fun k_ e_=>Cg.out.1 k_ e_))
       have n6_:=Az.mk (ho)
       clear Ad
       clear HI0
       clear Av
       clear HB
       clear HK
       clear HH73
       clear Cg
       have Ad:=n0_
       have HI0:=n1_
       have Av:=n2_
       have HB:=n3_
       have HK:=n4_
       have HH73:=n5_
       have HOF:=n6_
       clear n0_ n1_ n2_ n3_ n4_ n5_ n6_
       clear ho hb hg hat
       obtain⟨AoF,coF,eoF⟩:=Kd.R_slice HOF.out
       subst eoF
       have pST:0≤(Ae:Int):=od
       have qST:(Ae:Int)<((Af.length:Int):Int):=od
       replace pST:=ets pST
       replace qST:=ets qST
       obtain⟨_,_,hraw,_,_,hccF,_⟩:=Kd.H_raw HH73.out (od) (by have h_:(Ae:Int)<((Af.length:Int):Int):=od;first|exact h_|(have e_:=(HN73.out);omega)|simpa using h_)
       obtain⟨_,hfrF⟩:=Kd.H_at HH73.out (od) (by have h_:(Ae:Int)<((Af.length:Int):Int):=od;first|exact h_|(have e_:=(HN73.out);omega)|simpa using h_)
       have hxF_0:=hccF 0 _ rfl
       have hfF_0:=hfrF 0
       (try simp only[Nat.add_zero]at hxF_0 hfF_0)
       (try rw[show((Kd.slice 3 (Kd.int .i64))).sz=1 from rfl,Nat.mul_one]at hxF_0)
       (try rw[show((Kd.slice 3 (Kd.int .i64))).sz=1 from rfl,Nat.mul_one]at hfF_0)
       have HPF:=Kd.S_seg0 HH73.out (od) (by have h_:(Ae:Int)<((Af.length:Int):Int):=od;first|exact h_|(have e_:=(HN73.out);omega)|simpa using h_) (seg:=[.slice AoF yF.length coF]) (j:=0) (show 1≤1 from by decide) (x':=yF) (Kd.M_row HOF.out) (fun _ hk=>hk)
       (try simp only[show((Kd.slice 3 (Kd.int .i64))).sz=1 from rfl,Nat.mul_one,Nat.add_zero]at HPF)
       clear hccF hfrF
       have HN0_go73:=Az.mk (show g≠Gy from by have h_:=IsS63.own_ne HI0.out hraw (by decide);intro e_;exact h_ (by rw[e_];rfl))
       have HSF:=HPF.1
       rw[←Kp.out]at HSF
       have Mq:=Az.mk HSF
       obtain⟨_,hggF⟩:=Kd.R_typed hraw Gy rfl
       have GG75_:=Az.mk hggF
       clear HPF HSF hggF
       refine hK.out _ _ ?_
       clear hK K
       refine norm_ (a':=?_) ?_ ?_
       rotate_left
       ·show Act.put _ (some 103) _=_
        exact acq
       refine pu (i:=16) (N:=some 104) #[T,T,T,T,T,T,T,T,T,T,T,T,T,T,T,T,T,F] (any_of HT_.out z13_0) ?_
       refine last_ (i:=17) (N:=none) #[T,T,T,T,T,T,T,T,T,T,T,T,T,T,T,T,T,T] rfl rfl (one_of HT_.out z13_0) (by decide) (fun K hK=>?_)
       refine skip_ (w1:=?_) (by rfl) rfl ?_ ?_
       rotate_left
       ·go_simp
        rfl
       refine hK.out _ _ ?_
       clear hK K
       refine done_ (done_of HT_.out z13_0) ?_
       go_wp2
       go_roundg k5
       case measure=>have:=HK1.out;have:=HK2.out;have:=HK3.out;have:=HK4.out;omega
       case rel=>exact⟨(Km),(wrap64 (Ae+1)),(Io),(Ip),rq2,H',⟨by have:=HK1.out;have:=HK2.out;have:=HK3.out;have:=HK4.out;omega⟩,⟨by(with_reducible repeat(first|apply Kd.R_alloc|apply Kd.R_drewN|apply Kd.R_drew));exact Kd.R_mono (Kd.R_far (p:=⟨Gy,(Ae:Int).toNat,none⟩) (Kd.R_types Ad.out GG75_.out (by decide)) (fun _ hk=>hk.2) (.slice AoF yF.length coF)) (fun _ hk=>trivial)⟩,⟨by(with_reducible repeat(first|apply Kd.S_alloc|apply Kd.S_drewN|apply Kd.S_drew));exact Kd.S_mono Mq.out (fun _ hk=>hk.1)⟩,⟨by repeat(first|(with_reducible first|exact HI0.out|apply IsS63.alloc|apply IsS63.drewN|apply IsS63.drew|apply IsS63.set_1|apply IsS63.set_2|refine IsS63.far ?_ HN0_go73.out _)|exact HI0.out)⟩,⟨by repeat(first|(with_reducible first|exact HK.out|apply KeepBut.set_|apply keep_drewN|apply keep_drew|apply keep_alloc|refine keep_far ?_ Kv.out _)|exact HK.out)⟩,⟨by repeat(first|(with_reducible first|exact HB.out|apply bwA|apply pbN|apply bwD|refine bwS ?_ (Nat.le_trans HL.out Kv.out)|refine bwS ?_ (IsS63.ge HI0.out))|exact HB.out)⟩⟩
     rw[ig Jl]at H
     have Kk:=decide_eq_false Jl
     clear Jl
     cases k4 with
     |zero=>exact absurd H (by simp[fG.l4])
     |succ k5=>
      simp only[fG.l4]at H
      by_cases cP0:0≤Ai
      case neg=>rw[ig cP0]at H;exact absurd H (by simp)
      rw[ip cP0]at H
      have cP0b0:=(ode cP0:decide (0≤Ai)=true)
      clear cP0
      by_cases cP1:Ai<(Af.length:Int)
      case neg=>rw[ig cP1]at H;exact absurd H (by simp)
      rw[ip cP1]at H
      have cP1b0:=(ode cP1:decide (Ai<(Af.length:Int))=true)
      clear cP1
      replace H:=be.mp H
      obtain⟨⟨Bh,Iy,Iz⟩,Kx,H⟩:=H
      dsimp only at H
      have Ox:=Az.mk Kx
      clear Kx
      by_cases cA0:0≤Bh
      case neg=>rw[ig cA0]at H;exact absurd H (by simp)
      rw[ip cA0]at H
      have cA0b0:=ets cA0
      have cA0b1:=(ode cA0:decide (0≤Bh)=true)
      clear cA0
      by_cases cA1:Bh≤((rd_L1 Af Ai).length:Int)
      case neg=>rw[ig cA1]at H;exact absurd H (by simp)
      rw[ip cA1]at H
      have cA1b0:=ets cA1
      have cA1b1:=(ode cA1:decide (Bh≤((rd_L1 Af Ai).length:Int))=true)
      have HAT:=Az.mk cA1
      clear cA1
      by_cases cK0:0≤Ae
      case neg=>rw[ig cK0]at H;exact absurd H (by simp)
      rw[ip cK0]at H
      have cK0b0:=(ode cK0:decide (0≤Ae)=true)
      clear cK0
      by_cases cK1:Ae<(Aj.length:Int)
      case neg=>rw[ig cK1]at H;exact absurd H (by simp)
      rw[ip cK1]at H
      have cK1b0:=(ode cK1:decide (Ae<(Aj.length:Int))=true)
      clear cK1
      by_cases cL:(rd_L1 Af Ai).length<17592186044415
      case neg=>rw[ig cL]at H;exact absurd H (by simp)
      rw[ip cL]at H
      have LMC:=Az.mk cL
      clear cL
      obtain⟨Gz,hyN⟩:∃y_:List Int,y_=[]:=⟨_,rfl⟩
      obtain⟨Ct,hyD⟩:∃y_:List Int,y_=(rd_L1 Af Ai).drop (Bh:Int).toNat:=⟨_,rfl⟩
      obtain⟨Di,hyR⟩:∃y_:List Int,y_=Gz ++ Ct:=⟨_,rfl⟩
      obtain⟨yT,hyT⟩:∃y_:List Int,y_=(rd_L1 Af Ai).take (Bh:Int).toNat:=⟨_,rfl⟩
      obtain⟨Ja,hyA⟩:∃y_:List Int,y_=yT ++ [rd Aj Ae]:=⟨_,rfl⟩
      obtain⟨yF,hyF⟩:∃y_:List Int,y_=Ja ++ Di:=⟨_,rfl⟩
      obtain⟨Ky,hyS⟩:∃y_:List (List Int),y_=Af.set (Ai:Int).toNat yF:=⟨_,rfl⟩
      replace H:fG.l3 k5 Bk Aj Ky (wrap64 (Ae+1)) Ah Iy Iz=some (r1,r2,r3):=by rw[hyS,hyF,hyA,hyR,hyT,hyN,hyD,List.nil_append];exact H
      have hlT:yT.length≤(rd_L1 Af Ai).length:=by rw[hyT,List.length_take];exact Nat.min_le_right _ _
      have hlR:yT.length+Di.length=(rd_L1 Af Ai).length:=by rw[hyT,hyR,hyN,hyD,List.nil_append,List.length_take,List.length_drop];have:=HAT.out;omega
      have LMc84:Az (Gz.length+Ct.length<17592186044416):=⟨by have:=LMC.out;have h2:Di.length=Gz.length+Ct.length:=(by rw[hyR,List.length_append]);omega⟩
      have LM1:Az ((yT.length+1)*8≤140737488355328):=⟨by have:=LMC.out;omega⟩
      have LM2:Az ((Ja.length+Di.length)*8≤140737488355328):=⟨by have:=LMC.out;rw[hyA,List.length_append,List.length_singleton];omega⟩
      have Hx:=Az.mk hyN
      have Hy:=Az.mk hyD
      have Kz:=Az.mk hyR
      have La:=Az.mk hyA
      have Lb:=Az.mk hyS
      have NyT:=Az.mk hyT
      have NyF:=Az.mk hyF
      clear hyN hyD hyR hyT hyA hyF hyS hlT hlR
      have H':=Az.mk H
      clear H
      go_wp2_with (first|((with_reducible refine gtC (f:=51) rfl ?_);refine clz Try.func51 (some 67) #[.pointer (some ⟨g,0,none⟩), .int .i64 Bk] ?_;(with_reducible refine(fB.calls g Ah As Au Bk Ai Cl Cm w0 _ ?Am ?Ao Nc.out).mono ?_);(case Am=>exact(kI HI0.out));(case Ao=>exact kG HB.out (IsS63.ge HI0.out));rintro e Oy ⟨rfl,hi,hb,hk⟩;refine⟨_,rfl,?_⟩;replace Ad:=Az.mk (Kd.R_mono (Kd.R_keep (IsS63.apart (show IsS63 w0 _ g Ah As Au from kI HI0.out) (kR Ad.out) (by decide)) hk (fun _ h=>h.2)) (fun _ h=>h.1));replace Ag:=Az.mk (Kd.S_mono (Kd.S_keep (IsS63.apartS (show IsS63 w0 _ g Ah As Au from kI HI0.out) (kS Ag.out) (by decide)) hk (fun _ h=>h.2)) (fun _ h=>h.1));replace HK:=Az.mk (KeepBut.trans (kK HK.out) hk (.inl rfl));replace HB:=Az.mk (hb);replace HI0:=Az.mk (hi);(try clear hb);(try clear hk);(try clear hi);obtain⟨Nl,Hz,Lc⟩:=Kd.S_slice Ag.out;subst Lc;have Ha:0≤(Ai:Int):=od;have Hb:Ai<(Af.length:Int):=od;obtain⟨Dx,Jb,Jc,Mr,Bz,Dy,Dz⟩:=at_L1 (Kd.S_reads' Ag.out).2.2 Ai Ha Hb;cases Mr;obtain⟨Nm,hce400,hMe400,Gc⟩:=Kd.S_get Ag.out [] Ai Ha (by first|exact Hb|exact od|(have e_:=(Kd.S_reads' Ag.out).1;omega));obtain⟨Lq,rfl,Cu⟩:=hMe400;have Br:=Gc 0 _ rfl;rw[Nat.add_zero,show((Kd.slice 3 (Kd.int .i64))).sz=1 from rfl,Nat.mul_one]at Br;replace Br:=Option.some.inj (Br.symm.trans Bz);rw[Br]at Cu;have Al:=Az.mk (show Kd.R (Kd.int .i64) 3 _ _ _ _ (rd_L1 Af Ai)from Cu);clear Br Cu;have Ca:=Az.mk Bz;clear Gc hce400;have Lr:=Az.mk Dz;have Ls:=Az.mk Dy;clear Dz Dy;replace Ha:=ets Ha;replace Hb:=ets Hb)|((with_reducible refine gtC (f:=51) rfl ?_);refine clz Try.func51 (some 79) #[.pointer (some ⟨g,0,none⟩), .int .i64 (wrap64 (((rd_L1 Af Ai).length:Int)+1))] ?_;(with_reducible refine(fB.calls g Ah Cl Cm (wrap64 (((rd_L1 Af Ai).length:Int)+1)) Bh Iy Iz w0 _ ?Am ?Ao Ox.out).mono ?_);(case Am=>exact(kI HI0.out));(case Ao=>exact kG HB.out (IsS63.ge HI0.out));rintro e Oz ⟨rfl,hi,hb,hk⟩;refine⟨_,rfl,?_⟩;replace Ad:=Az.mk (Kd.R_mono (Kd.R_keep (IsS63.apart (show IsS63 w0 _ g Ah Cl Cm from kI HI0.out) (kR Ad.out) (by decide)) hk (fun _ h=>h.2)) (fun _ h=>h.1));replace Al:=Az.mk (Kd.R_mono (Kd.R_keep (IsS63.apart (show IsS63 w0 _ g Ah Cl Cm from kI HI0.out) (kR Al.out) (by decide)) hk (fun _ h=>h.2)) (fun _ h=>h.1));replace Ca:=Az.mk (keep_cell hk Ca.out (by first|(rw[add_block];exact Kd.own_blk (IsS63.own_neS HI0.out Ag.out (by decide)))|(show(Addr.add _ _).block≠_;rw[add_block];exact Kd.own_blk (IsS63.own_neS HI0.out Ag.out (by decide)))|exact Kd.own_blk (IsS63.own_neS HI0.out Ag.out (by decide))|(dsimp only;exact Kd.own_blk (IsS63.own_neS HI0.out Ag.out (by decide)))));replace Ag:=Az.mk (Kd.S_mono (Kd.S_keep (IsS63.apartS (show IsS63 w0 _ g Ah Cl Cm from kI HI0.out) (kS Ag.out) (by decide)) hk (fun _ h=>h.2)) (fun _ h=>h.1));replace HK:=Az.mk (KeepBut.trans (kK HK.out) hk (.inl rfl));replace HB:=Az.mk (hb);replace HI0:=Az.mk (hi);(try clear hb);(try clear hk);(try clear hi))|((with_reducible refine gtD (N:=80) rfl ?_);refine Kd.R_lit (Kd.int .i64) _ 3 ?hg (N:=80) ?hd (xs:=([]:List Int)) (inner:=[]) (ok:=fun _=>True) (okp:=fun _=>True) ?hr ?hp (fun _ hk=>hk) trivial (Below.refl _ _) (Nat.le_refl _) (by simp) ?_;(case hd=>rfl);(case hg=>rfl);(case hr=>first|(go_simp;done)|(go_simp;rfl));(case hp=>exact(Reps.none _ _));intro Ms Pa Bv hb hg_ hnew_;clear hg_ hnew_;(first|rw[←Hx.out]at Bv|(simp only[Int.reduceToNat]at Bv;rw[←Hx.out]at Bv));replace Ag:=Az.mk (Kd.S_elder' (kS Ag.out) (Kd.R_base Bv) hb);have Ea:=Az.mk (Kd.R_lower (Kd.R_new' (Kd.R_new' Bv (Kd.R_lt (kR Ad.out))) (Kd.R_lt (kR Al.out))) (keep_size (w:=w) (g:=g) (row:=none) (kK HK.out)));replace Ad:=Az.mk (Kd.R_elder' (kR Ad.out) (Kd.R_base Bv) hb);replace Al:=Az.mk (Kd.R_elder' (kR Al.out) (Kd.R_base Bv) hb);replace Ca:=Az.mk (pw_cell_below hb Ca.out);replace HK:=Az.mk (KeepBut.trans (kK HK.out) (KeepBut.of_below hb g none) (.inl rfl));replace HB:=Az.mk (bwT (kG HB.out (IsS63.ge HI0.out)) hb);replace HI0:=Az.mk (IsS63.below (kI HI0.out) hb);clear hb Bv;have Hc:0≤(Ai:Int):=od;have Hd:Ai<(Af.length:Int):=od;obtain⟨Ld,Cv,Ch,Mt,Cb,Eb,Ec⟩:=at_L1 (Kd.S_reads' Ag.out).2.2 Ai Hc Hd;obtain rfl:Dx=Ld:=(by injection Mt);obtain⟨Nn,hce407,hMe407,Gd⟩:=Kd.S_get Ag.out [] Ai Hc (by first|exact Hd|exact od|(have e_:=(Kd.S_reads' Ag.out).1;omega));obtain⟨Lt,rfl,Cw⟩:=hMe407;have Bs:=Gd 0 _ rfl;rw[Nat.add_zero,show((Kd.slice 3 (Kd.int .i64))).sz=1 from rfl,Nat.mul_one]at Bs;replace Bs:=Option.some.inj (Bs.symm.trans Cb);rw[Bs]at Cw;have Bb:=Az.mk (show Kd.R (Kd.int .i64) 3 _ _ _ _ (rd_L1 Af Ai)from Cw);clear Bs Cw;have Lu:=Az.mk Cb;clear Gd hce407;have Ed:=Az.mk Ec;have He:=Az.mk Eb;clear Ec Eb;replace Hc:=ets Hc;replace Hd:=ets Hd;have Jd:(Bh:Int)≤(((rd_L1 Af Ai).length:Int):Int):=od;obtain⟨Np,Ge,_,hsz108,_⟩:=info_parts info3;have hroom108:(rd_L1 Af Ai).length≤Ch:=He.out;have hC108:Kd.C (Kd.int .i64) _ Cv (rd_L1 Af Ai).length (rd_L1 Af Ai):=(by repeat(first|(with_reducible exact Ed.out)|(with_reducible refine Kd.C_alloc ?_ _)|(with_reducible refine Kd.C_drewN ?_ _)|(with_reducible refine Kd.C_drew ?_)|exact Ed.out));have Le:(0:Int)≤(Bh:Int):=od;have hcut108:=cut_from (P:=Try.prog) 25 3 .i64 Try.underlying25 Ge 1 hsz108 Cv (rd_L1 Af Ai).length Ch Bh Le Jd;have Db:=Kd.C_drop (m:=(Bh:Int).toNat) (c:=Ch) hC108 (by omega) hroom108;obtain⟨Mu,hA108⟩:∃A1,A1=(if Ch=(Bh:Int).toNat then Cv else(Cv:Option Addr).map (·.add ((Bh:Int).toNat*1))):=⟨_,rfl⟩;obtain⟨Mv,Gf⟩:∃c1,c1=Ch - (Bh:Int).toNat:=⟨_,rfl⟩;have hy108:Ct.length=(rd_L1 Af Ai).length - (Bh:Int).toNat:=(by rw[Hy.out,List.length_drop] <;> omega);rw[show(rd_L1 Af Ai).drop (Bh:Int).toNat=Ct from Hy.out.symm]at Db;replace Db:Kd.C (Kd.int .i64) _ Mu Ct.length Ct:=(by rw[hA108];exact Db);rw[←hy108, ←hA108, ←Gf]at hcut108;have Ia:=Az.mk Db;have Nq:=Az.mk (show Ct.length≤Mv from by rw[hy108,Gf];exact Nat.sub_le_sub_right hroom108 _);clear Db hC108 hroom108 Ge hsz108 Gf;have KY108:=Az.mk hy108;have KA108:=Az.mk hA108;clear hy108 hA108;replace Jd:=ets Jd)|((with_reducible refine gate_builtin (b:= .append) (xs:= #[.tmp 80, .tmp 86]) rfl ?_);at_builtin;refine Kd.R_append_rows (Kd.int .i64) w.heap.size rfl (.tmp 80) (.tmp 86) 25 3 (.int .i64 0) 8 rfl Try.underlying25 info3 rfl (by decide) (by omega) Ms Gz Ct _ _ _ (fun k_=>some k_≠(.slice Bl Aj.length Ay:Value).ownBlock∧some k_≠(.slice Jb (rd_L1 Af Ai).length Jc:Value).ownBlock) (fun _=>False) rfl rfl ?aO ?aR (fun _ _ h=>h) (fun _ h=>h.elim) ?aF (Below.refl _ _) ?aS ?aL ?_;(case aR=>repeat(first|exact(by repeat(first|(with_reducible exact Ia.out)|(with_reducible refine Kd.C_alloc ?_ _)|(with_reducible refine Kd.C_drewN ?_ _)|(with_reducible refine Kd.C_drew ?_)|exact Ia.out))|(with_reducible refine Kd.C_alloc ?_ _)|(with_reducible refine Kd.C_drewN ?_ _)|(with_reducible refine Kd.C_drew ?_)));(case aF=>exact(fun k_ hk=>⟨Kd.fresh' (Kd.R_lt (kR Ad.out)) k_ hk,Kd.fresh' (Kd.R_lt (kR Al.out)) k_ hk⟩));(case aO=>exact(by(with_reducible repeat(first|apply Kd.R_alloc|apply Kd.R_drewN|apply Kd.R_drew));exact Kd.R_mono Ea.out (fun _ hk=>⟨hk.1.2,hk.2⟩)));(case aS=>exact(keep_size (w:=w) (g:=g) (row:=none) (kK HK.out)));(case aL=>have:=LMc84.out;omega);intro Pb Mw ho hb hg hat;rw[←Kz.out]at ho;have n0_:=Az.mk (Kd.R_after (ok:=(fun _=>True)) (kR Ad.out) hg hat);have n1_:=Az.mk (Kd.S_after (ok:=(fun k_=>some k_≠(.slice Bl Aj.length Ay:Value).ownBlock)) (kS Ag.out) hg hat);have n2_:=Az.mk (IsS63.grown (kI HI0.out) hg (IsS63.own_ne HI0.out Ea.out (by decide)));have n3_:=Az.mk (Kd.R_after (ok:=(fun k_=>some k_≠(.slice Bl Aj.length Ay:Value).ownBlock∧some k_≠(.slice (some Dx) Af.length Hz:Value).ownBlock)) (kR Al.out) hg hat);have n4_:=Az.mk (Kd.R_after (ok:=(fun k_=>some k_≠(.slice Bl Aj.length Ay:Value).ownBlock∧some k_≠(.slice (some Dx) Af.length Hz:Value).ownBlock)) (by(with_reducible repeat(first|apply Kd.R_alloc|apply Kd.R_drewN|apply Kd.R_drew));exact Kd.R_mono Bb.out (fun _ hk=>⟨⟨hk.1.1,hk.2⟩,hk.1.2⟩)) hg hat);have n5_:=Az.mk (below_weaken (kG HB.out (IsS63.ge HI0.out)) HL.out hb);have n6_:=Az.mk (KeepBut.trans (kK HK.out) (KeepBut.of_grown hg g) (Kd.R_base2 Ea.out));have n7_:=Az.mk (ho);clear Ad;clear Ag;clear HI0;clear Al;clear Bb;clear HB;clear HK;clear Ea;have Ad:=n0_;have Ag:=n1_;have HI0:=n2_;have Al:=n3_;have Bb:=n4_;have HB:=n5_;have HK:=n6_;have Ax:=n7_;clear n0_ n1_ n2_ n3_ n4_ n5_ n6_ n7_;clear ho hb hg hat))
      replace Ad:=Az.mk (Kd.R_drew Ad.out);replace Ag:=Az.mk (Kd.S_drew Ag.out);replace Al:=Az.mk (Kd.R_drew Al.out);replace Bb:=Az.mk (Kd.R_drew Bb.out);replace Ax:=Az.mk (Kd.R_drew Ax.out);replace HI0:=Az.mk (IsS63.drew HI0.out);replace HK:=Az.mk (keep_drew HK.out);replace HB:=Az.mk (bwD HB.out)
      have Hf:0≤(Ai:Int):=od
      have Hg:Ai<(Af.length:Int):=od
      obtain⟨Lf,Ci,Cj,Mx,Bt,Ee,Ef⟩:=at_L1 (Kd.S_reads' Ag.out).2.2 Ai Hf Hg
      obtain rfl:Dx=Lf:=(by injection Mx)
      obtain⟨Nr,hce415,hMe415,Gg⟩:=Kd.S_get Ag.out [] Ai Hf (by first|exact Hg|exact od|(have e_:=(Kd.S_reads' Ag.out).1;omega))
      obtain⟨Lv,rfl,Cx⟩:=hMe415
      have Bu:=Gg 0 _ rfl
      rw[Nat.add_zero,show((Kd.slice 3 (Kd.int .i64))).sz=1 from rfl,Nat.mul_one]at Bu
      replace Bu:=Option.some.inj (Bu.symm.trans Bt)
      rw[Bu]at Cx
      have Eg:=Az.mk (show Kd.R (Kd.int .i64) 3 _ _ _ _ (rd_L1 Af Ai)from Cx)
      clear Bu Cx
      have Eh:=Az.mk Bt
      clear Gg hce415
      have Hh:=Az.mk Ef
      have Hi:=Az.mk Ee
      clear Ef Ee
      replace Hf:=ets Hf
      replace Hg:=ets Hg
      have Je:0≤(Ae:Int):=od
      have Jf:Ae<(Aj.length:Int):=od
      obtain⟨Gh,My,Ei⟩:=Kd.at_int (Kd.R_reads' Ad.out).2.2 Ae Je Jf
      cases My
      replace Je:=ets Je
      replace Jf:=ets Jf
      obtain⟨Ej,Ns,Ib,Ic,gl111,Nt,HG111⟩:=Kd.S_form Ag.out (by have h_:(Ai:Int)<((Af.length:Int):Int):=od;have h2_:0≤(Ai:Int):=(od);omega)
      (first|cases Ib|(injection Ib with ea_ en_ ec_;(first|subst ea_|(injection ea_ with ea_;subst ea_));subst ec_;clear en_))
      have Id:=Az.mk Ic
      have Lg:=Az.mk HG111
      clear Ic gl111 HG111
      (first|simp only[add_plain]at Bz|skip)
      (first|simp only[add_plain]at Cb|skip)
      (first|simp only[add_plain]at Bt|skip)
      obtain⟨oki111,Nu,Jg,Lh,Gi,_,hoki111,hH111⟩:=Kd.S_elem Ag.out [] (Ai:Int) (od) (by have h_:(Ai:Int)<((Af.length:Int):Int):=od;first|exact h_|(have e_:=(Kd.S_reads' Ag.out).1;omega)|simpa using h_)
      obtain⟨Lw,rfl,Ek⟩:=Lh
      have Dc:=Gi 0 _ rfl
      have hX111:=Eh.out
      (try simp only[add_plain]at hX111)
      (try simp only[Nat.add_zero]at Dc)
      (try rw[show((Kd.slice 3 (Kd.int .i64))).sz=1 from rfl,Nat.mul_one]at Dc)
      replace Dc:=Option.some.inj (Dc.symm.trans hX111)
      subst Dc
      clear hX111 Gi Jg
      have UU111:=Az.mk (show Kd.R (Kd.int .i64) 3 _ w.heap.size oki111 (.slice Ci (rd_L1 Af Ai).length Cj) (rd_L1 Af Ai)from Ek)
      have HH111:=Az.mk hH111
      have HN111:=Az.mk (Kd.S_reads' Ag.out).1
      clear hH111 Ek
      have OK111:=Az.mk hoki111
      clear hoki111
      obtain⟨i0C,hi0C,_,_,_⟩:=info_parts info3
      have hcutC:=cut_to (P:=Try.prog) 25 3 .i64 Try.underlying25 hi0C Ci (rd_L1 Af Ai).length Cj Bh (od) (od) Hi.out
      have hyC:yT.length=(Bh:Int).toNat:=by rw[NyT.out,List.length_take];have:=HAT.out;omega
      rw[←hyC]at hcutC
      have KYC:=Az.mk hyC
      clear hyC hi0C
      obtain⟨AoR,coR,eoR⟩:=Kd.R_slice Ax.out
      subst eoR
      refine start_ (n:=18) (S:=fun w'=>w'.cell? ⟨Ej,(Ai).toNat,none⟩=some (.slice Ci (rd_L1 Af Ai).length Cj)∧w'.cell? (Gh.add (Ae).toNat)=some (.int .i64 (rd Aj Ae))) (ds:=[13,15,17]) #[F,F,F,F,F,F,F,F,F,F,F,F,F,F,F,F,F,F] z13_0 rfl rfl ⟨Bt,Ei⟩ (fun hHeld=>?_);refine with_tabW fG.tab25 fG.bits25 (fun HT_ HW_=>?_)
      generalize Mw.drew=Hj at Ad Ag Al Bb Ax HI0 HK HB Lg HH111 Eg Hh Eh UU111 Bz Cb Bt Ei hHeld ⊢
      have UTC:=Az.mk (show Kd.R (Kd.int .i64) 3 Hj w.heap.size oki111 (.slice Ci yT.length Cj) yT from by rw[KYC.out,NyT.out];exact Kd.R_take UU111.out (by have:=HAT.out;omega))
      refine pu (i:=0) (N:=some 88) #[T,F,F,F,F,F,F,F,F,F,F,F,F,F,F,F,F,F] (any_of HT_.out z13_0) ?_
      refine pu (i:=1) (N:=some 89) #[T,T,F,F,F,F,F,F,F,F,F,F,F,F,F,F,F,F] (any_of HT_.out z13_0) ?_
      refine pu (i:=2) (N:=some 90) #[T,T,T,F,F,F,F,F,F,F,F,F,F,F,F,F,F,F] (any_of HT_.out z13_0) ?_
      refine pu (i:=3) (N:=some 91) #[T,T,T,T,F,F,F,F,F,F,F,F,F,F,F,F,F,F] (any_of HT_.out z13_0) ?_
      refine pu (i:=4) (N:=some 92) #[T,T,T,T,T,F,F,F,F,F,F,F,F,F,F,F,F,F] (any_of HT_.out z13_0) ?_
      refine pu (i:=6) (N:=some 94) #[T,T,T,T,T,F,T,F,F,F,F,F,F,F,F,F,F,F] (any_of HT_.out z13_0) ?_
      refine pu (i:=8) (N:=some 96) #[T,T,T,T,T,F,T,F,T,F,F,F,F,F,F,F,F,F] (any_of HT_.out z13_0) ?_
      refine pu (i:=9) (N:=some 97) #[T,T,T,T,T,F,T,F,T,T,F,F,F,F,F,F,F,F] (any_of HT_.out z13_0) ?_
      refine pu (i:=10) (N:=some 98) #[T,T,T,T,T,F,T,F,T,T,T,F,F,F,F,F,F,F] (any_of HT_.out z13_0) ?_
      refine pu (i:=14) (N:=some 102) #[T,T,T,T,T,F,T,F,T,T,T,F,F,F,T,F,F,F] (any_of HT_.out z13_0) ?_
      refine take_ (i:=5) (N:=some 93) (v:=?_) (a':=?_) #[T,T,T,T,T,T,T,F,T,T,T,F,F,F,T,F,F,F] rfl rfl (take_ofW HT_.out HW_.out z13_0) (fun _ _ _ h=>h) (Or.inl ⟨by rfl,?_⟩) hHeld ?_ ?_
      rotate_left
      ·rintro w' ⟨s0,s1⟩
       go_simp
       with_reducible rfl
      rotate_left
      ·exact acq
      refine pu (i:=7) (N:=some 95) #[T,T,T,T,T,T,T,T,T,T,T,F,F,F,T,F,F,F] (any_of HT_.out z13_0) ?_
      refine take_ (i:=11) (N:=some 99) (v:=?_) (a':=?_) #[T,T,T,T,T,T,T,T,T,T,T,T,F,F,T,F,F,F] rfl rfl (take_ofW HT_.out HW_.out z13_0) (fun _ _ _ h=>h) (Or.inl ⟨by rfl,?_⟩) hHeld ?_ ?_
      rotate_left
      ·rintro w' ⟨s0,s1⟩
       go_simp
       with_reducible rfl
      rotate_left
      ·exact acq
      refine one_ (i:=12) (N:=some 100) #[T,T,T,T,T,T,T,T,T,T,T,T,T,F,T,F,F,F] rfl rfl (one_of HT_.out z13_0) (by decide) (fun K hK=>?_)
      refine value_ (w1:=?_) (v:=?_) (by rfl) rfl ?_ ?_
      rotate_left 2
      ·go_simp
       constructor
       ·rfl
       rfl
      refine hK.out _ _ ⟨(World.cell?_alloc_lt _ _ _ (World.block_lt_of_cell? _ _ (hHeld.1))).trans (hHeld.1),(World.cell?_alloc_lt _ _ _ (World.block_lt_of_cell? _ _ (hHeld.2))).trans (hHeld.2)⟩ (fun hHeld=>?_)
      clear hK K
      refine norm_ (a':=?_) ?_ ?_
      rotate_left
      ·show Act.put _ (some 100) _=_
       exact acq
      refine last_ (i:=13) (N:=some 101) #[T,T,T,T,T,T,T,T,T,T,T,T,T,T,T,F,F,F] rfl rfl (one_of HT_.out z13_0) (by decide) (fun K hK=>?_)
      refine Kd.R_append_step (Kd.int .i64) w.heap.size (by rfl) (.tmp 95) (.tmp 100) 25 3 (.int .i64 0) 8 rfl Try.underlying25 info3 rfl (by decide) (by omega) (.slice Ci yT.length Cj) yT (rd Aj Ae) [.int .i64 (rd Aj Ae)] (fun k_=>oki111 k_∨((fun k_=>some k_≠(.slice (some Gh) Aj.length Ay:Value).ownBlock∧some k_≠(.slice AoR Di.length coR:Value).ownBlock)) k_∧Hj.heap.size≤k_) (fun _=>False) rfl rfl ?aP (fun _ hk=>hk.elim) ?aF ?aO (Below.refl _ _) ?aS ?aL ?_
      (case aP=>exact rfl)
      (case aF=>exact(fun k_ hk=> .inr ⟨⟨Kd.fresh' (Kd.R_lt (kR Ad.out)) k_ hk,Kd.fresh' (Kd.R_lt (kR Ax.out)) k_ hk⟩,hk⟩))
      (case aO=>exact(by(with_reducible repeat(first|apply Kd.R_alloc|apply Kd.R_drewN|apply Kd.R_drew));exact Kd.R_mono UTC.out (fun _ hk=> .inl hk)))
      (case aS=>exact(keep_size (w:=w) (g:=g) (row:=none) (kK HK.out)))
      (case aL=>exact LM1.out)
      intro Mz Na ho hb hg hat
      rw[←La.out]at ho
      have n0_:=Az.mk (Kd.R_grown2 (kR Ad.out) rfl hg (fun k_ e_=>(OK111.out k_ (UTC.out.1 k_ e_)).1.1))
      have n1_:=Az.mk (IsS63.grown (kI HI0.out) hg (IsS63.own_ne HI0.out UTC.out (by decide)))
      have n2_:=Az.mk (Kd.R_grown2 (kR Ax.out) rfl hg (fun k_ e_=>(OK111.out k_ (UTC.out.1 k_ e_)).1.2))
      have n3_:=Az.mk (below_weaken (kG HB.out (IsS63.ge HI0.out)) HL.out hb)
      have n4_:=Az.mk (KeepBut.trans (kK HK.out) (KeepBut.of_grown hg g) (Kd.R_base2 UTC.out))
      have n5_:=Az.mk (Kd.H_grown (Kd.H_widen (by repeat(first|exact HH111.out|refine Kd.H_alloc ?_ _|refine Kd.H_drewN ?_ _|refine Kd.H_drew ?_))) hg (fun k_ e_=> .inl (UTC.out.1 k_ e_)))
      have n6_:=Az.mk (ho)
      have HSZ:Az (Hj.heap.size≤Na.heap.size):=⟨hg.size⟩
      clear Ad
      clear HI0
      clear Ax
      clear HB
      clear HK
      clear HH111
      clear Ag
      clear UU111
      clear UTC
      clear Al
      clear Bb
      clear Eg
      have Ad:=n0_
      have HI0:=n1_
      have Ax:=n2_
      have HB:=n3_
      have HK:=n4_
      have HH111:=n5_
      have Ck:=n6_
      clear n0_ n1_ n2_ n3_ n4_ n5_ n6_
      clear ho hb hg hat
      refine hK.out _ _ ?_
      clear hK K
      refine norm_ (a':=?_) ?_ ?_
      rotate_left
      ·show Act.put _ (some 101) _=_
       exact acq
      refine last_ (i:=15) (N:=some 103) #[T,T,T,T,T,T,T,T,T,T,T,T,T,T,T,T,F,F] rfl rfl (one_of HT_.out z13_0) (by decide) (fun K hK=>?_)
      refine Kd.R_append_rows_step (Kd.int .i64) w.heap.size (by rfl) (.tmp 101) (.tmp 102) 25 3 (.int .i64 0) 8 rfl Try.underlying25 info3 rfl (by decide) (by omega) Mz Ja Di _ _ _ (fun k_=>oki111 k_∨((fun k_=>some k_≠(.slice (some Gh) Aj.length Ay:Value).ownBlock∧some k_≠(.slice AoR Di.length coR:Value).ownBlock)) k_∧Hj.heap.size≤k_) (fun _=>False) rfl rfl ?aO ?aR (fun _ _ h=>h) (fun _ h=>h.elim) ?aF (Below.refl _ _) ?aS ?aL ?_
      (case aR=>exact(Kd.R_reads' Ax.out).2.2)
      (case aF=>exact(fun k_ hk=> .inr ⟨⟨Kd.fresh' (Kd.R_lt (kR Ad.out)) k_ hk,Kd.fresh' (Kd.R_lt (kR Ax.out)) k_ hk⟩,Nat.le_trans HSZ.out hk⟩))
      (case aO=>exact(kR Ck.out))
      (case aS=>exact(keep_size (w:=w) (g:=g) (row:=none) (kK HK.out)))
      (case aL=>exact LM2.out)
      intro vF wF ho hb hg hat
      rw[←NyF.out]at ho
      have n0_:=Az.mk (Kd.R_grown2 (kR Ad.out) rfl hg (fun k_ e_=>(Ck.out.1 k_ e_).elim (fun h_=>(OK111.out k_ h_).1.1) (fun h_=>h_.1.1)))
      have n1_:=Az.mk (IsS63.grown (kI HI0.out) hg (IsS63.own_ne HI0.out Ck.out (by decide)))
      have n2_:=Az.mk (Kd.R_grown2 (kR Ax.out) rfl hg (fun k_ e_=>(Ck.out.1 k_ e_).elim (fun h_=>(OK111.out k_ h_).1.2) (fun h_=>h_.1.2)))
      have n3_:=Az.mk (below_weaken (kG HB.out (IsS63.ge HI0.out)) HL.out hb)
      have n4_:=Az.mk (KeepBut.trans (kK HK.out) (KeepBut.of_grown hg g) (Kd.R_base2 Ck.out))
      have n5_:=Az.mk (Kd.H_grown HH111.out hg (fun k_ e_=>Ck.out.1 k_ e_))
      have n6_:=Az.mk (ho)
      clear Ad
      clear HI0
      clear Ax
      clear HB
      clear HK
      clear HH111
      clear Ck
      have Ad:=n0_
      have HI0:=n1_
      have Ax:=n2_
      have HB:=n3_
      have HK:=n4_
      have HH111:=n5_
      have HOF:=n6_
      clear n0_ n1_ n2_ n3_ n4_ n5_ n6_
      clear ho hb hg hat
      obtain⟨AoF,coF,eoF⟩:=Kd.R_slice HOF.out
      subst eoF
      have pST:0≤(Ai:Int):=od
      have qST:(Ai:Int)<((Af.length:Int):Int):=od
      replace pST:=ets pST
      replace qST:=ets qST
      obtain⟨_,_,hraw,_,_,hccF,_⟩:=Kd.H_raw HH111.out (od) (by have h_:(Ai:Int)<((Af.length:Int):Int):=od;first|exact h_|(have e_:=(HN111.out);omega)|simpa using h_)
      obtain⟨_,hfrF⟩:=Kd.H_at HH111.out (od) (by have h_:(Ai:Int)<((Af.length:Int):Int):=od;first|exact h_|(have e_:=(HN111.out);omega)|simpa using h_)
      have hxF_0:=hccF 0 _ rfl
      have hfF_0:=hfrF 0
      (try simp only[Nat.add_zero]at hxF_0 hfF_0)
      (try rw[show((Kd.slice 3 (Kd.int .i64))).sz=1 from rfl,Nat.mul_one]at hxF_0)
      (try rw[show((Kd.slice 3 (Kd.int .i64))).sz=1 from rfl,Nat.mul_one]at hfF_0)
      have HPF:=Kd.S_seg0 HH111.out (od) (by have h_:(Ai:Int)<((Af.length:Int):Int):=od;first|exact h_|(have e_:=(HN111.out);omega)|simpa using h_) (seg:=[.slice AoF yF.length coF]) (j:=0) (show 1≤1 from by decide) (x':=yF) (Kd.M_row HOF.out) (fun _ hk=>hk)
      (try simp only[show((Kd.slice 3 (Kd.int .i64))).sz=1 from rfl,Nat.mul_one,Nat.add_zero]at HPF)
      clear hccF hfrF
      have HN0_go111:=Az.mk (show g≠Ej from by have h_:=IsS63.own_ne HI0.out hraw (by decide);intro e_;exact h_ (by rw[e_];rfl))
      have HSF:=HPF.1
      rw[←Lb.out]at HSF
      have Li:=Az.mk HSF
      obtain⟨_,hggF⟩:=Kd.R_typed hraw Ej rfl
      have GG113_:=Az.mk hggF
      clear HPF HSF hggF
      refine hK.out _ _ ?_
      clear hK K
      refine norm_ (a':=?_) ?_ ?_
      rotate_left
      ·show Act.put _ (some 103) _=_
       exact acq
      refine pu (i:=16) (N:=some 104) #[T,T,T,T,T,T,T,T,T,T,T,T,T,T,T,T,T,F] (any_of HT_.out z13_0) ?_
      refine last_ (i:=17) (N:=none) #[T,T,T,T,T,T,T,T,T,T,T,T,T,T,T,T,T,T] rfl rfl (one_of HT_.out z13_0) (by decide) (fun K hK=>?_)
      refine skip_ (w1:=?_) (by rfl) rfl ?_ ?_
      rotate_left
      ·go_simp
       rfl
      refine hK.out _ _ ?_
      clear hK K
      refine done_ (done_of HT_.out z13_0) ?_
      go_wp2
      go_roundg k5
      case measure=>have:=HK1.out;have:=HK2.out;have:=HK3.out;have:=HK4.out;omega
      case rel=>exact⟨(Ky),(wrap64 (Ae+1)),(Iy),(Iz),rq2,H',⟨by have:=HK1.out;have:=HK2.out;have:=HK3.out;have:=HK4.out;omega⟩,⟨by(with_reducible repeat(first|apply Kd.R_alloc|apply Kd.R_drewN|apply Kd.R_drew));exact Kd.R_mono (Kd.R_far (p:=⟨Ej,(Ai:Int).toNat,none⟩) (Kd.R_types Ad.out GG113_.out (by decide)) (fun _ hk=>hk.2) (.slice AoF yF.length coF)) (fun _ hk=>trivial)⟩,⟨by(with_reducible repeat(first|apply Kd.S_alloc|apply Kd.S_drewN|apply Kd.S_drew));exact Kd.S_mono Li.out (fun _ hk=>hk.1)⟩,⟨by repeat(first|(with_reducible first|exact HI0.out|apply IsS63.alloc|apply IsS63.drewN|apply IsS63.drew|apply IsS63.set_1|apply IsS63.set_2|refine IsS63.far ?_ HN0_go111.out _)|exact HI0.out)⟩,⟨by repeat(first|(with_reducible first|exact HK.out|apply KeepBut.set_|apply keep_drewN|apply keep_drew|apply keep_alloc|refine keep_far ?_ Id.out _)|exact HK.out)⟩,⟨by repeat(first|(with_reducible first|exact HB.out|apply bwA|apply pbN|apply bwD|refine bwS ?_ (Nat.le_trans HL.out Id.out)|refine bwS ?_ (IsS63.ge HI0.out))|exact HB.out)⟩⟩
end
end Go.Proofs.Ytbpnjlemjapnnaa.P
