-- The walks, cut and laid together by this session's tools (prune.py, sq2.py, min.py: shorter names, no needless spaces). Not trusted: Lean checks it.
import Derived.Test.YtbpnjlemjapnnaaKWZip
import Derived.Test.YtbpnjlemjapnnaaKPx32
namespace Go.Proofs.Ytbpnjlemjapnnaa.P
open Go.RowKit Go.Proofs.YtbpnjlemjapnnaaW.PrintWords Go.Proofs.YtbpnjlemjapnnaaW.PrintLast Go.Proofs.YtbpnjlemjapnnaaW.PrintMore
attribute [local go_sem] max2_int min2_int max_two min_two max_three min_three max_four min_four   -- for this text's walks alone
set_option linter.unusedVariables false
set_option linter.unusedSimpArgs false
set_option maxHeartbeats 8000000
set_option maxRecDepth 100000
theorem z39_0 {p:Prop} (h:p:=by first|exact HO.out|exact Kd.R_drewN HO.out _):p:=h
abbrev stt_k:Kd (List Int × Nat):=Kd.tag (fun k:Nat=>k) (Kd.slice 3 (Kd.int .i64))
theorem stt_some {α:Type}{d:Kd α}{e:Nat}{w:World}{base:Nat}{ok:Nat→Prop}{A:Option Addr}{n c:Nat}{out:List α} (HO:d.R e w base ok (.slice A n c) out) (h1:0<out.length):∃g:Nat,A=some ⟨g,0,none⟩:=by
 obtain⟨g,cap,eg,_⟩:=Kd.R_form HO h1
 injection eg with ea en ec
 exact⟨g,ea⟩
/-- A row of one's own, read: its header, and it. -/
theorem stt_at {w:World}{base:Nat}{ok:Nat→Prop}{g n c:Nat}{out:List (List Int × Nat)} (HO:stt_k.R 25 w base ok (.slice (some ⟨g,0,none⟩) n c) out){Z:Int} (h0:0≤Z) (h1:Z<(out.length:Int)):
  ∃A1 c1,w.cell? ⟨g,Z.toNat,none⟩=some (.slice A1 (rd_L1 (out.map Prod.fst) Z).length c1)∧(Z<(n:Int))∧Kd.R (Kd.int .i64) 3 w base (fun _=>True) (.slice A1 (rd_L1 (out.map Prod.fst) Z).length c1) (rd_L1 (out.map Prod.fst) Z):=by
 have hn:=(Kd.R_reads' HO).1
 obtain⟨cs,hcl,hM,hcc,_⟩:=Kd.R_elem HO (([]:List Int),0) Z h0 (by omega)
 obtain⟨v,rfl,hv⟩:=hM
 have e:rd_L1 (out.map Prod.fst) Z=(out.getD Z.toNat (([]:List Int),0)).1:=by
  unfold rd_L1
  rw[List.getD_eq_getElem?_getD,List.getD_eq_getElem?_getD,List.getElem?_map]
  cases out[Z.toNat]? <;> rfl
 rw[e]
 obtain⟨A1,c1,rfl⟩:=Kd.R_slice hv
 have hc:=hcc 0 _ rfl
 have e2:Z.toNat*stt_k.sz+0=Z.toNat:=by show Z.toNat*1+0=_;omega
 rw[e2]at hc
 exact⟨A1,c1,hc,by omega,Kd.R_mono hv (fun _ _=>trivial)⟩
theorem stt_first {w:World}{base:Nat}{ok:Nat→Prop}{A:Option Addr}{n c:Nat}{x:List Int} (HO:Kd.R (Kd.int .i64) 3 w base ok (.slice A n c) x) (h1:0<x.length):∃g:Nat,A=some ⟨g,0,none⟩∧w.cell? ⟨g,0,none⟩=some (.int .i64 (rd x 0)):=by
 obtain⟨g,rfl⟩:=stt_some HO h1
 have hn:=(Kd.R_reads' HO).1
 exact⟨g,rfl,(Kd.R_celln 0 HO 0 (by omega) (by omega)).1⟩
/-- Labels that are all different: the rows lie apart. -/
theorem stt_S {w:World}{base:Nat}{v:Value}{out:List (List Int × Nat)} (HO:stt_k.R 25 w base (fun _=>True) v out) (hd:(out.map Prod.snd).Nodup):Kd.S (Kd.slice 3 (Kd.int .i64)) 25 w base (fun _=>True) v (out.map Prod.fst):=by
 obtain⟨h0,inner,ho,hr⟩:=HO
 refine⟨fun k=>(out.map Prod.snd).idxOf k,h0,inner,by rw[List.length_zipIdx,List.length_map];exact ho,by rw[List.length_zipIdx,List.length_map];exact hr.1,fun j p hj=>?_⟩
 rw[List.getElem?_zipIdx,Nat.zero_add,List.getElem?_map]at hj
 obtain⟨x,hx,rfl⟩:=Option.map_eq_some_iff.1 hj
 obtain⟨y,hy,rfl⟩:=Option.map_eq_some_iff.1 hx
 obtain⟨hlt,ey⟩:=List.getElem?_eq_some_iff.1 hy
 have hM:(Kd.slice 3 (Kd.int .i64)).M w base (fun k=>(True∧some k≠v.ownBlock)∧k=y.2) y.1 ((inner.drop (j*1)).take 1):=hr.2 j y hy
 refine(Kd.slice 3 (Kd.int .i64)).M_mono (fun k hk=>⟨hk.1,?_⟩) hM
 rw[hk.2, ←ey]
 have:=hd.idxOf_getElem j (by rw[List.length_map];exact hlt)
 rw[List.getElem_map]at this
 exact this
theorem stt_labels {α:Type}{out:List (α × Nat)}{N go:Nat}{X:α}{q:Nat} (hd:(out.map Prod.snd).Nodup) (hN:∀p∈out,p.2<N) (hg:N≤go):((out.take q ++ ((X,go) :: out.drop q)).map Prod.snd).Nodup∧∀p∈out.take q ++ ((X,go) :: out.drop q),p.2<go+1:=by
 have hp:List.Perm (out.take q ++ ((X,go) :: out.drop q)) ((X,go) :: out):=by
  refine List.perm_middle.trans ?_
  rw[List.take_append_drop]
 refine⟨?_,fun p hp'=>?_⟩
 ·refine(hp.map Prod.snd).nodup_iff.2 ?_
  rw[List.map_cons]
  refine List.nodup_cons.2 ⟨fun h=>?_,hd⟩
  obtain⟨p,hp1,hp2⟩:=List.mem_map.1 h
  have:=hN p hp1
  omega
 rcases List.mem_cons.1 (hp.mem_iff.1 hp')with rfl|h
 ·show go<go+1
  omega
 have:=hN p h
 omega
theorem stt_w1 {q:Int}{n:Nat} (h0:q>0) (h1:q≤(n:Int)) (h2:n<5864062014805):wrap64 (q - 1)=q - 1:=by
 unfold wrap64
 omega
theorem stt_ht:∀q,q∈3 :: (Kd.int .i64).E→q≠25:=fun q hq=>by
 have:q=3:=by simpa[Kd.int,Kd.scalar] using hq
 subst this
 decide
theorem stt_head {w:World}{base:Nat}{ok:Nat→Prop}{g n c:Nat}{x:List Int} (HO:Kd.R (Kd.int .i64) 3 w base ok (.slice (some ⟨g,0,none⟩) n c) x) (h1:0<x.length):w.cell? ⟨g,0,none⟩=some (.int .i64 (rd x 0)):=by
 have hn:=(Kd.R_reads' HO).1
 exact(Kd.R_celln 0 HO 0 (by omega) (by omega)).1
theorem stt_map {ps:List (List Int × Nat)}{x:List Int}{go q:Nat}:(ps.take q ++ ((x,go) :: ps.drop q)).map Prod.fst=(ps.map Prod.fst).take q ++ (x :: (ps.map Prod.fst).drop q):=by
 rw[List.map_append,List.map_cons,List.map_take,List.map_drop]
theorem ts_cuts {A:Option Addr}{n c:Nat} (hn:n≤c){q:Int} (h0:0≤q) (h1:q≤(n:Int)):∃A':Option Addr,(∀W:World,(Instr.slice 24 (.slice A n c) (some (.int .i64 q)) none none).run Try.prog W= .ok (.slice A' (n - q.toNat) (c - q.toNat)) W)∧(∀W:World,(Instr.slice 24 (.slice A n c) none (some (.int .i64 q)) none).run Try.prog W= .ok (.slice A q.toNat c) W)∧(∀(α:Type) (R:α→List Value→Prop) (w:World) (ps:List α),ReadsRow R 1 w A n ps→ReadsRow R 1 w A' (n - q.toNat) (ps.drop q.toNat)):=by
 obtain⟨i0,Ad,_,hsz0,_⟩:=info_parts info25
 have hel:(Try.prog).elem 24=25:=by simp[Program.elem,Try.underlying24]
 have hu:(Try.prog).underlying 24=some (.slice ((Try.prog).elem 24)):=by rw[hel];exact Try.underlying24
 obtain⟨m,rfl⟩:=Int.eq_ofNat_of_zero_le h0
 simp only[Int.toNat_natCast]
 refine⟨if c=m then A else A.map (·.add m),fun W=>?_,fun W=>?_,fun α R w ps h=>?_⟩
 ·rw[run_slice_l W 24 A n c hu .i64 (m:Int) (Int.natCast_nonneg _) (by omega),hel]
  simp[sizeOf,typeInfo,Ad,hsz0,sliced,Result.andThen]
 ·have ha:(A.map fun x=>x.add 0)=A:=by cases A <;> simp[Addr.add]
  rw[run_slice_h W 24 A n c hu .i64 (m:Int) (Int.natCast_nonneg _) (by omega),hel]
  simp[sizeOf,typeInfo,Ad,hsz0,sliced,Result.andThen,ha]
 have hl:(ps.drop m).length=n - m:=by rw[List.length_drop,h.1]
 refine⟨hl,by have:=h.2.1;omega,fun hp=>?_⟩
 obtain⟨ad,rfl,hcell⟩:=h.2.2 (by omega)
 rw[ig (by omega)]
 refine⟨ad.add m,rfl,fun j p hj=>?_⟩
 rw[List.getElem?_drop]at hj
 obtain⟨cs,h1,h2,h3⟩:=hcell (m+j) p hj
 refine⟨cs,h1,h2,fun i u hu=>?_⟩
 rw[add_add,show m+(j*1+i)=(m+j)*1+i by omega]
 exact h3 i u hu
/-- The elements of one's own row, to be laid into another row that is made now. -/
theorem ts_rows {W W2:World}{base n c:Nat}{A:Option Addr}{ps:List (List Int × Nat)}{vl:Value} (HO:stt_k.R 25 W base (fun _=>True) (.slice A n c) ps) (hb:Below W.heap.size W W2) (hl:∀k,vl.ownBlock=some k→W.heap.size≤k):ReadsRow (stt_k.M W2 base (fun k=>some k≠(Value.slice A n c).ownBlock∧some k≠vl.ownBlock)) 1 W2 A n ps:=by
 obtain⟨A',c',e,hlc,hr⟩:=OwnRow.reads (Kd.R_bound HO).2
 injection e with ea en ec
 subst ea
 subst en
 exact hr.imp_ hb (fun p cs h=>stt_k.M_mono (fun k hk=>⟨hk.2,fun he=>by have:=hl k he.symm;have:=hk.1.2.2.1;omega⟩) (Kd.M_below h hb))
theorem ts_keep {W W2 W3:World}{v:Value} (hb:Below W.heap.size W W2) (hl:∀k,v.ownBlock=some k→W.heap.size≤k) (hg:W2.grownBy W3 v.ownBlock):Below W.heap.size W W3:=hb.grown hg hb.size hl
theorem ts_below {W W2:World} (hg:W.grownBy W2 none):Below W.heap.size W W2:=⟨hg.os,hg.tape,hg.output,hg.size,fun k hk=>hg.block k hk (by simp)⟩
theorem ts_new {W:World}{v:Value} (hat:∃b,v.ownBlock=some b∧W.heap.size≤b):∀k,v.ownBlock=some k→W.heap.size≤k:=fun k hk=>by
 obtain⟨b,hb1,hb2⟩:=hat
 rw[hb1]at hk
 injection hk with hk
 omega
theorem ts_cap {A:Option Addr}{x y c:Nat}:(Value.slice A x c).ownBlock=(Value.slice A y c).ownBlock:=by cases A <;> rfl
/-- The row's rest stays while the row is written. -/
theorem ts_rest {W:World}{base n c q:Nat}{A:Option Addr}{u:Value}{xs:List (List Int × Nat)} (h:stt_k.R 25 W base (fun k=>some k≠(Value.slice A n c).ownBlock) u xs):stt_k.R 25 W base (fun k=>True∧some k≠(Value.slice A q c).ownBlock) u xs:=Kd.R_mono h (fun k hk=>⟨trivial,by rw[ts_cap (y:=n)];exact hk⟩)
theorem ts_far {W:World}{base n c N:Nat}{A:Option Addr}{ps:List (List Int × Nat)}{go n1 c1:Nat}{x:List Int} (HO:stt_k.R 25 W base (fun _=>True) (.slice A n c) ps) (hx:Kd.R (Kd.int .i64) 3 W base (fun _=>True) (.slice (some ⟨go,0,none⟩) n1 c1) x):some go≠(Value.slice A n c).ownBlock:=fun he=>by
 obtain⟨cells,hc⟩:=Kd.R_typed HO go he.symm
 exact(Kd.R_types hx hc stt_ht).1 go (by simp[Value.ownBlock])|>.2 rfl
theorem ts_M {W:World}{base go n1 c1:Nat}{x:List Int} (hx:Kd.R (Kd.int .i64) 3 W base (fun _=>True) (.slice (some ⟨go,0,none⟩) n1 c1) x):stt_k.M W base (fun k=>k=go) (x,go) [.slice (some ⟨go,0,none⟩) n1 c1]:=
 ⟨_,rfl,Kd.R_mono (Kd.R_tight rfl hx) (fun k hk=>by
  have:k=go:=by simpa[Value.ownBlock] using hk
  exact⟨this,this⟩)⟩
theorem ts_size {W W1 W2:World}{u v:Option Nat}{base go n1 c1:Nat}{x:List Int} (hx:Kd.R (Kd.int .i64) 3 W base (fun _=>True) (.slice (some ⟨go,0,none⟩) n1 c1) x) (h1:W.grownBy W1 u) (h2:W1.grownBy W2 v):go<W2.heap.size:=by
 have a:=Kd.R_lt hx go (by simp[Value.ownBlock])
 have b:=h1.size
 have d:=h2.size
 omega
theorem ts_labels {α:Type}{ps:List (α × Nat)}{go q N:Nat}{X:α} (hL:(ps.map Prod.snd).Nodup∧∀p∈ps,p.2<go) (hN:go<N):(((ps.take q ++ [(X,go)]) ++ ps.drop q).map Prod.snd).Nodup∧∀p∈(ps.take q ++ [(X,go)]) ++ ps.drop q,p.2<N:=by
 rw[List.append_assoc,List.singleton_append]
 obtain⟨h3,h4⟩:=stt_labels (X:=X) (q:=q) hL.1 hL.2 (Nat.le_refl go)
 exact⟨h3,fun p hp=>by have:=h4 p hp;omega⟩
theorem ts_map {ps:List (List Int × Nat)}{x:List Int}{go q:Nat}:((ps.take q ++ [(x,go)]) ++ ps.drop q).map Prod.fst=(ps.map Prod.fst).take q ++ (x :: (ps.map Prod.fst).drop q):=by
 rw[List.append_assoc,List.singleton_append,stt_map]
theorem ts_reads {W:World}{base n c:Nat}{ok:Nat→Prop}{A:Option Addr}{xs:List (List Int × Nat)} (h:stt_k.R 25 W base ok (.slice A n c) xs):ReadsRow (stt_k.M W base (fun k=>ok k∧some k≠(Value.slice A n c).ownBlock)) 1 W A n xs:=by
 obtain⟨A',c',e,hlc,hr⟩:=OwnRow.reads h.2
 injection e with ea en ec
 subst ea
 subst en
 exact hr
mutual
def fD.l0:Nat→List (List Int)→List (List Int)→Int→Option (List (List Int))
 |0,_,_,_=>none
 |k+1,t,out,i=>if i<(t.length:Int) then(if 0≤i then((gT.f (rd_L1 t i) 0).bind fun row=>(if 0<row.length then fD.l1 k t out i row 1 else none))else none)else some out
def fD.l1:Nat→List (List Int)→List (List Int)→Int→List Int→Int→Option (List (List Int))
 |0,_,_,_,_,_=>none
 |k+1,t,out,i,row,j=>if j<3 then(if 0≤j then(if j<((rd_L1 t i).length:Int) then(if rd (rd_L1 t i) j<rd row 0 then((gT.f (rd_L1 t i) j).bind fun row2=>(if 0<row2.length then fD.l1 k t out i row2 (wrap64 (j+1))else none))else fD.l1 k t out i row (wrap64 (j+1)))else none)else none)else fD.l2 k t out i row (out.length:Int)
def fD.l2:Nat→List (List Int)→List (List Int)→Int→List Int→Int→Option (List (List Int))
 |0,_,_,_,_,_=>none
 |k+1,t,out,i,own,q=>if 0≤q then(if q≤(out.length:Int) then(if out.length<5864062014805 then(if q>0 then(if 0<(rd_L1 out (q - 1)).length then(if rd (rd_L1 out (q - 1)) 0>rd own 0 then fD.l2 k t out i own (q - 1)else fD.l0 k t (out.take q.toNat ++ (own :: out.drop q.toNat)) (wrap64 (i+1)))else none)else fD.l0 k t (out.take q.toNat ++ (own :: out.drop q.toNat)) (wrap64 (i+1)))else none)else none)else none
end
def fD.f (k:Nat) (t:List (List Int)):Option (List (List Int)):=(fC.f k t).bind fun b=>if b=true then fD.l0 k t [] 0 else some []
set_option maxHeartbeats 16000000 in
theorem fD.calls (k:Nat) (A0:Option Addr) (c0:Nat) (l0:List (List Int)) (r:List (List Int)) (w:World) (As:Kd.C (Kd.slice 3 (Kd.int .i64)) w A0 l0.length l0) (Au:l0.length≤c0) (h:fD.f k l0=some r):
  Calls Try.prog 17 #[.slice A0 l0.length c0] w fun e w'=>∃v0_:Value,e= .returned (v0_)∧Kd.S (Kd.slice 3 (Kd.int .i64)) 25 w' w.heap.size (fun _=>True) v0_ r∧Below w.heap.size w w':=by
 have Af:=Az.mk As
 have Av:=Az.mk Au
 clear As Au
 have HBs:=Az.mk (Below.refl w.heap.size w)
 unfold fD.f at h
 replace h:=Option.bind_eq_some_iff.mp h
 obtain⟨b,T0,h⟩:=h
 have T0:=Az.mk T0
 by_cases p1:b=true
 rotate_left
 ·rw[ig p1]at h
  replace p1:=Bool.eq_false_iff.mpr p1
  subst p1
  obtain rfl:=Option.some.inj h
  go_enter Try.func17,Try.ntmps17
  go_wp2_with (first
   |((with_reducible refine gtD (N:=9) rfl ?_);refine Kd.R_lit stt_k _ 25 ?hg (N:=9) ?hd (xs:=([]:List (List Int × Nat))) (inner:=[]) (ok:=fun _=>True) (okp:=fun _=>True) ?hr ?hp (fun _ hk=>hk) trivial (Below.refl _ _) (Nat.le_refl _) (by simp) ?_;(case hd=>rfl);(case hg=>rfl);(case hr=>first|(go_simp;done)|(go_simp;rfl));(case hp=>exact Reps.none _ _);intro v1 W1 ho hb hg hat;have HO:=Az.mk (Kd.R_lower (base':=w.heap.size) ho (by first|exact HBs.out.size|exact(pbN HBs.out _).size));have HB:=Az.mk (bwT (by first|exact HBs.out|exact pbN HBs.out _) hb);clear ho hb hg hat HBs;obtain⟨A,c,e2⟩:=Kd.R_slice HO.out;subst e2)
   |(go_at_call 45;refine(fC.calls k A0 c0 l0 false _ (by first|exact Kd.C_drewN (Kd.C_below Af.out HB.out) _|exact Kd.C_below Af.out HB.out) Av.out T0.out).mono ?_;rintro e W0 ⟨rfl,hb⟩;have Ag:=Az.mk (Kd.R_below z39_0 hb);have HB0:=Az.mk (bwT (by first|exact HB.out|exact pbN HB.out _) hb);clear hb T0 HO HB;have HO:=Ag;have HB:=HB0;clear Ag HB0))
  go_ret
  exact⟨_,rfl,stt_S (out:=[]) z39_0 List.nodup_nil,by first|exact HB.out|exact pbN HB.out _⟩
 rw[ip p1]at h
 subst p1
 have H':=Az.mk h
 clear h
 go_enter Try.func17,Try.ntmps17
 go_wp2_with (first
  |((with_reducible refine gtD (N:=9) rfl ?_);refine Kd.R_lit stt_k _ 25 ?hg (N:=9) ?hd (xs:=([]:List (List Int × Nat))) (inner:=[]) (ok:=fun _=>True) (okp:=fun _=>True) ?hr ?hp (fun _ hk=>hk) trivial (Below.refl _ _) (Nat.le_refl _) (by simp) ?_;(case hd=>rfl);(case hg=>rfl);(case hr=>first|(go_simp;done)|(go_simp;rfl));(case hp=>exact Reps.none _ _);intro v1 W1 ho hb hg hat;have HO:=Az.mk (Kd.R_lower (base':=w.heap.size) ho (by first|exact HBs.out.size|exact(pbN HBs.out _).size));have HB:=Az.mk (bwT (by first|exact HBs.out|exact pbN HBs.out _) hb);clear ho hb hg hat HBs;obtain⟨A,c,e2⟩:=Kd.R_slice HO.out;subst e2)
  |(go_at_call 45;refine(fC.calls k A0 c0 l0 true _ (by first|exact Kd.C_drewN (Kd.C_below Af.out HB.out) _|exact Kd.C_below Af.out HB.out) Av.out T0.out).mono ?_;rintro e W0 ⟨rfl,hb⟩;have Ag:=Az.mk (Kd.R_below z39_0 hb);have HB0:=Az.mk (bwT (by first|exact HB.out|exact pbN HB.out _) hb);clear hb T0 HO HB;have HO:=Ag;have HB:=HB0;clear Ag HB0))
 go_loopg [3,4] k (fun kq v3 v4 w'=>∃(ps:List (List Int × Nat)) (i_1:Int) (A:Option Addr) (c:Nat),v3= .slice A ps.length c∧v4= .int .i64 i_1∧Az (fD.l0 kq l0 (ps.map Prod.fst) i_1=some r)∧Az (kq≤k)∧Az (stt_k.R 25 w' w.heap.size (fun _=>True) (.slice A ps.length c) ps)∧Az (Below w.heap.size w w')∧Az ((ps.map Prod.snd).Nodup∧∀p∈ps,p.2<w'.heap.size))
 case atStart=>exact⟨[],0,_,_,rfl,rfl,H',⟨Nat.le_refl _⟩,⟨by first|exact HO.out|exact Kd.R_drewN HO.out _⟩,⟨by first|exact HB.out|exact pbN HB.out _⟩,⟨List.nodup_nil,fun p hp=>by cases hp⟩⟩
 clear H' HO HB
 obtain⟨ps,i_1,A,c,rfl,rfl,HA,HK1,HO,HB,HLB⟩:=hrel
 cases gk with
 |zero=>exact absurd HA.out (by simp[fD.l0])
 |succ k1=>
  have H:=HA.out
  clear HA
  simp only[fD.l0]at H
  by_cases b1:i_1<(l0.length:Int)
  rotate_left
  ·rw[ig b1]at H
   have b1b:decide (i_1<(l0.length:Int))=false:=decide_eq_false b1
   clear b1
   obtain rfl:=Option.some.inj H
   go_wp2
   go_ret
   exact⟨_,rfl,stt_S z39_0 HLB.out.1,by first|exact HB.out|exact pbN HB.out _⟩
  rw[ip b1]at H
  by_cases b0:0≤i_1
  rotate_left
  ·rw[ig b0]at H
   exact absurd H (by simp)
  rw[ip b0]at H
  obtain⟨Ba,A5,c5,e5,Ad,Ao,Ap⟩:=at_L1 Af.out i_1 b0 b1
  cases e5
  have Am:=Az.mk Ad
  replace Ad:=kc HB Ad
  obtain⟨sd,hsd⟩:∃s_:List Int,rd_L1 l0 i_1=s_:=⟨_,rfl⟩
  rw[hsd]at Ad Ao Ap H
  have Am:=Az.mk (show _ from hsd ▸ Am.out)
  have HCs:=Az.mk Ap
  have HLs:=Az.mk Ao
  have HSD:=Az.mk hsd
  have b1b:=ode b1
  replace b0:=ets b0
  replace b1:=ets b1
  clear hsd Ap Ao
  replace H:=Option.bind_eq_some_iff.mp H
  obtain⟨row0,T1,H⟩:=H
  have T1:=Az.mk T1
  by_cases c0':0<row0.length
  ·rw[ip c0']at H
   have Aq:=Az.mk c0'
   have H':=Az.mk H
   clear H c0'
   go_wp2_with (first
    |(go_at_call 46;refine(gT.calls _ c5 sd 0 row0 _ (by first|exact Kd.C_drewN (Kd.C_below HCs.out HB.out) _|exact Kd.C_below HCs.out HB.out) HLs.out T1.out).mono ?_;rintro e W3 ⟨v3,rfl,ho,hb⟩;obtain⟨Aw,cw2,ew⟩:=Kd.R_slice ho;subst ew;obtain⟨Ae,ego⟩:=stt_some ho Aq.out;subst ego;have Ah:=Az.mk (show(ps.map Prod.snd).Nodup∧∀p∈ps,p.2<Ae from⟨HLB.out.1,fun p hp=>Nat.lt_of_lt_of_le (by first|exact HLB.out.2 p hp|exact Nat.lt_of_lt_of_le (HLB.out.2 p hp) (pbN (Below.refl 0 _) _).size) (Kd.R_base ho Ae (by simp[Value.ownBlock]))⟩);have HOw3:=Az.mk (Kd.R_lower (base':=w.heap.size) ho (by first|exact HB.out.size|exact(pbN HB.out _).size));have Ai:=Az.mk (Kd.R_below z39_0 hb);have HB3:=Az.mk (bwT (by first|exact HB.out|exact pbN HB.out _) hb);clear ho hb HO HB HLB T1;have HO:=Ai;have HB:=HB3;have HLB:=Ah;have HOw:=HOw3;clear Ai HB3 Ah HOw3))
   go_loopg [5,6] k1 (fun kq v5 v6 w'=>∃(row:List Int) (go cw:Nat) (j_1:Int),v5= .slice (some ⟨go,0,none⟩) row.length cw∧v6= .int .i64 j_1∧Az (fD.l1 kq l0 (ps.map Prod.fst) i_1 row j_1=some r)∧Az (kq≤k1)∧Az (0<row.length)∧Az (stt_k.R 25 w' w.heap.size (fun _=>True) (.slice A ps.length c) ps)∧Az (Below w.heap.size w w')∧Az (Kd.R (Kd.int .i64) 3 w' w.heap.size (fun _=>True) (.slice (some ⟨go,0,none⟩) row.length cw) row)∧Az ((ps.map Prod.snd).Nodup∧∀p∈ps,p.2<go))
   case atStart=>exact⟨row0,Ae,cw2,1,rfl,rfl,H',⟨Nat.le_refl _⟩,Aq,⟨by first|exact HO.out|exact Kd.R_drewN HO.out _⟩,⟨by first|exact HB.out|exact pbN HB.out _⟩,⟨by first|exact HOw.out|exact Kd.R_drewN HOw.out _⟩,HLB⟩
   clear H' HO HB HLB HOw Aq
   try clear Ad
   obtain⟨row,go,cw,j_1,rfl,rfl,HA,HK2,HP,HO,HB,HOw,HLB⟩:=hrel
   have Ad:=(HB.out.cell (World.block_lt_of_cell? w _ Am.out)).trans Am.out
   cases gk with
   |zero=>exact absurd HA.out (by simp[fD.l1])
   |succ k2=>
    have H:=HA.out
    clear HA
    simp only[fD.l1]at H
    rw[HSD.out]at H
    by_cases c1:j_1<3
    ·rw[ip c1]at H
     by_cases c2:0≤j_1
     rotate_left
     ·rw[ig c2]at H
      exact absurd H (by simp)
     rw[ip c2]at H
     by_cases c4:j_1<(sd.length:Int)
     rotate_left
     ·rw[ig c4]at H
      exact absurd H (by simp)
     rw[ip c4]at H
     obtain⟨adj,ej,hxj⟩:=Kd.at_int HCs.out j_1 c2 c4
     cases ej
     replace hxj:=kc HB hxj
     have hxo:=stt_head HOw.out HP.out
     obtain⟨X,hX⟩:∃j_:Int,rd sd j_1=j_:=⟨_,rfl⟩
     obtain⟨Y,hY⟩:∃j_:Int,rd row 0=j_:=⟨_,rfl⟩
     rw[hX]at hxj H
     rw[hY]at hxo H
     have c1b:=ode c1
     replace c2:=ets c2
     replace c4:=ets c4
     have zo1:((0:Int)<(row.length:Int))=True:=ets (by have:=HP.out;omega)
     have zo2:(0<row.length)=True:=ets HP.out
     clear hX hY c1
     by_cases c5':X<Y
     ·rw[ip c5']at H
      replace H:=Option.bind_eq_some_iff.mp H
      obtain⟨row2,T2,H⟩:=H
      have T2:=Az.mk T2
      by_cases c6:0<row2.length
      rotate_left
      ·rw[ig c6]at H
       exact absurd H (by simp)
      rw[ip c6]at H
      have Ax:=Az.mk c6
      have c5b:=ode c5'
      have H':=Az.mk H
      clear H c5' c6
      go_wp2
      go_quiet (fail)
      go_wp2_with (first
       |(go_at_call 46;refine(gT.calls _ c5 sd j_1 row2 _ (by first|exact Kd.C_drewN (Kd.C_below HCs.out HB.out) _|exact Kd.C_below HCs.out HB.out) HLs.out T2.out).mono ?_;rintro e W3 ⟨v3,rfl,ho,hb⟩;obtain⟨Aw,cw2,ew⟩:=Kd.R_slice ho;subst ew;obtain⟨Ae,ego⟩:=stt_some ho Ax.out;subst ego;have Ah:=Az.mk (show(ps.map Prod.snd).Nodup∧∀p∈ps,p.2<Ae from⟨HLB.out.1,fun p hp=>Nat.lt_of_lt_of_le (Nat.lt_trans (HLB.out.2 p hp) (Kd.R_lt (by first|exact HOw.out|exact Kd.R_drewN HOw.out _) go (by simp[Value.ownBlock]))) (Kd.R_base ho Ae (by simp[Value.ownBlock]))⟩);have HOw3:=Az.mk (Kd.R_lower (base':=w.heap.size) ho (by first|exact HB.out.size|exact(pbN HB.out _).size));have Ai:=Az.mk (Kd.R_below z39_0 hb);have HB3:=Az.mk (bwT (by first|exact HB.out|exact pbN HB.out _) hb);clear ho hb HO HB HLB T2 HOw;have HO:=Ai;have HB:=HB3;have HLB:=Ah;have HOw:=HOw3;clear Ai HB3 Ah HOw3))
      go_roundg k2
      case measure=>have:=HK2.out;omega
      case rel=>exact⟨row2,Ae,cw2,_,rfl,rfl,H',⟨by have:=HK2.out;omega⟩,Ax,⟨by first|exact HO.out|exact Kd.R_drewN HO.out _⟩,⟨by first|exact HB.out|exact pbN HB.out _⟩,⟨by first|exact HOw.out|exact Kd.R_drewN HOw.out _⟩,HLB⟩
     rw[ig c5']at H
     have c5b:=decide_eq_false c5'
     have H':=Az.mk H
     clear H c5'
     go_wp2
     go_quiet (fail)
     go_wp2
     go_roundg k2
     case measure=>have:=HK2.out;omega
     case rel=>exact⟨row,go,cw,_,rfl,rfl,H',⟨by have:=HK2.out;omega⟩,HP,⟨by first|exact HO.out|exact Kd.R_drewN HO.out _⟩,⟨by first|exact HB.out|exact pbN HB.out _⟩,⟨by first|exact HOw.out|exact Kd.R_drewN HOw.out _⟩,HLB⟩
    rw[ig c1]at H
    have c1b:decide (j_1<3)=false:=decide_eq_false c1
    have H':=Az.mk H
    clear c1 H
    go_wp2
    go_loopg [7] k2 (fun kq v7 w'=>∃(q_1:Int),v7= .int .i64 q_1∧Az (fD.l2 kq l0 (ps.map Prod.fst) i_1 row q_1=some r)∧Az (kq≤k2)∧Az (stt_k.R 25 w' w.heap.size (fun _=>True) (.slice A ps.length c) ps)∧Az (Below w.heap.size w w')∧Az (Kd.R (Kd.int .i64) 3 w' w.heap.size (fun _=>True) (.slice (some ⟨go,0,none⟩) row.length cw) row))
    case atStart=>exact⟨_,rfl,⟨by have:=H'.out;rw[List.length_map]at this;exact this⟩,⟨Nat.le_refl _⟩,⟨by first|exact HO.out|exact Kd.R_drewN HO.out _⟩,⟨by first|exact HB.out|exact pbN HB.out _⟩,⟨by first|exact HOw.out|exact Kd.R_drewN HOw.out _⟩⟩
    clear H' HO HB HOw Ad
    obtain⟨q_1,rfl,HA,HK3,HO,HB,HOw⟩:=hrel
    cases gk with
    |zero=>exact absurd HA.out (by simp[fD.l2])
    |succ k3=>
     have H:=HA.out
     clear HA
     simp only[fD.l2,List.length_map]at H
     by_cases d0:0≤q_1
     rotate_left
     ·rw[ig d0]at H
      exact absurd H (by simp)
     rw[ip d0]at H
     by_cases d1:q_1≤(ps.length:Int)
     rotate_left
     ·rw[ig d1]at H
      exact absurd H (by simp)
     rw[ip d1]at H
     by_cases d2:ps.length<5864062014805
     rotate_left
     ·rw[ig d2]at H
      exact absurd H (by simp)
     rw[ip d2]at H
     have LM:=Az.mk d2
     have hq0:=Az.mk d0
     have hq1:=Az.mk d1
     by_cases d3:q_1>0
     rotate_left
     ·rw[ig d3]at H
      have d3b:decide (q_1>0)=false:=decide_eq_false d3
      have d3c:decide (0<q_1)=false:=decide_eq_false d3
      clear d0 d1 d2 d3
      have H':=Az.mk H
      clear H
      obtain⟨DD,hcut1,hcut2,hrd0⟩:=ts_cuts (A:=A) (Kd.R_reads' HO.out).2.1 hq0.out hq1.out
      have hrd:=Az.mk hrd0
      clear hrd0
      have hdl:ps.length - q_1.toNat=(ps.drop q_1.toNat).length:=List.length_drop.symm
      clear hdl
      go_wp2
      go_quiet (fail)
      go_wp2_with (first|((with_reducible refine gtD (N:=65) rfl ?_);refine Kd.R_lit stt_k (w0:=w) w.heap.size 25 ?hg (N:=65) ?hd (xs:=([]:List (List Int × Nat))) (inner:=[]) (ok:=fun k=>some k≠(Value.slice A ps.length c).ownBlock) (okp:=fun _=>False) ?hr ?hp (fun _ hk=>hk.elim) ?hf ?hB ?hS (by simp) ?_;(case hd=>rfl);(case hg=>rfl);(case hr=>first|(go_simp;done)|(go_simp;rfl));(case hp=>exact Reps.none _ _);(case hf=>exact fun he=>Nat.lt_irrefl _ (Kd.R_lt z39_0 _ he.symm));(case hB=>exact(by first|exact HB.out|exact pbN HB.out _));(case hS=>exact(by first|exact HB.out.size|exact(pbN HB.out _).size));intro vl W2 ho hb hg hat;have HVl:=Az.mk ho;have HNl:=Az.mk (ts_new hat);have HBW:=Az.mk (ts_below hg);have HRd:=Az.mk (ts_rows (vl:=vl) z39_0 HBW.out HNl.out);have HFl:=Az.mk (show ∀k,W2.heap.size≤k→some k≠(Value.slice A ps.length c).ownBlock from fun k hk he=>by have:=Kd.R_lt (Kd.R_below z39_0 HBW.out) k he.symm;omega);have HB2:=Az.mk hb;clear ho hb hg hat)|((with_reducible refine gate_builtin (b:= .append) (xs:= #[.tmp 65, .tmp 68]) rfl ?_);at_builtin;refine Kd.R_append_rows stt_k (Rr:=stt_k.M W2 w.heap.size (fun k=>some k≠(Value.slice A ps.length c).ownBlock∧some k≠vl.ownBlock)) (w0:=w) w.heap.size rfl (.tmp 65) (.tmp 68) 24 25 (.slice none 0 0) 24 rfl Try.underlying24 info25 rfl (by decide) (by omega) vl [] (ps.drop q_1.toNat) _ _ _ (fun k=>some k≠(Value.slice A ps.length c).ownBlock) (fun k=>some k≠(Value.slice A ps.length c).ownBlock∧some k≠vl.ownBlock) rfl rfl ?aO ?aR (fun _ _ h=>h) (fun k hk=>hk) ?aF ?aB ?aS ?aL ?_;(case aR=>exact hrd.out _ _ _ _ HRd.out);(case aB=>exact HB2.out);(case aF=>exact HFl.out);(case aO=>exact HVl.out);(case aS=>exact HB2.out.size);(case aL=>have:=LM.out;show(0+_)*24≤_;omega);intro v1 W4 ho hb hg hat;obtain⟨Ar,cr,er⟩:=Kd.R_slice ho;subst er;have HR:=Az.mk (show stt_k.R 25 W4 w.heap.size (fun k=>some k≠(Value.slice A ps.length c).ownBlock) (.slice Ar (ps.length - q_1.toNat) cr) (ps.drop q_1.toNat) from(show(([]:List (List Int × Nat)) ++ ps.drop q_1.toNat).length=ps.length - q_1.toNat by simp) ▸ ho);have HBX:=Az.mk (ts_keep HBW.out HNl.out hg);have Aj:=Az.mk (Kd.R_below z39_0 HBX.out);have HOw4:=Az.mk (Kd.R_below (by first|exact HOw.out|exact Kd.R_drewN HOw.out _) HBX.out);have HB4:=Az.mk hb;clear ho hb hat hg HVl HRd HFl HB2 HBX HBW HNl HO HOw HB;have HO:=Aj;have HOw:=HOw4;have HB:=HB4;clear Aj HOw4 HB4)|((with_reducible refine gate_builtin (b:= .append) (xs:= #[.tmp 72, .tmp 74]) rfl ?_);at_builtin;refine Kd.R_append stt_k (w0:=w) w.heap.size rfl (.tmp 72) (.tmp 74) 24 25 (.slice none 0 0) 24 rfl Try.underlying24 info25 rfl (by decide) (by omega) (.slice A q_1.toNat c) (ps.take q_1.toNat) (row,go) [.slice (some ⟨go,0,none⟩) row.length cw] (fun _=>True) (fun k=>k=go) rfl rfl ?aP ?aK (fun _ _=>trivial) ?aO ?aB ?aS ?aL ?_;(case aP=>exact ts_M (by first|exact HOw.out|exact Kd.R_drewN HOw.out _));(case aK=>exact fun k hk=>⟨trivial,by rw[hk,ts_cap (y:=ps.length)];exact ts_far (N:=0) z39_0 (by first|exact HOw.out|exact Kd.R_drewN HOw.out _)⟩);(case aO=>exact Kd.R_take z39_0 (by have:=hq0.out;have:=hq1.out;omega));(case aB=>exact(by first|exact HB.out|exact pbN HB.out _));(case aS=>exact(by first|exact HB.out.size|exact(pbN HB.out _).size));(case aL=>have:=LM.out;rw[List.length_take];omega);intro v1 W5 ho hb hg hat;have Ak:=Az.mk (Kd.R_after (ts_rest (q:=q_1.toNat) (by first|exact HR.out|exact Kd.R_drewN HR.out _)) hg hat);have HV5:=Az.mk ho;have HB5:=Az.mk hb;have HG5:=Az.mk hg;clear ho hb hg hat HR HO HB)|((with_reducible refine gate_builtin (b:= .append) (xs:= #[.tmp 75, .tmp 76]) rfl ?_);at_builtin;refine Kd.R_append_rows stt_k (w0:=w) w.heap.size rfl (.tmp 75) (.tmp 76) 24 25 (.slice none 0 0) 24 rfl Try.underlying24 info25 rfl (by decide) (by omega) v1 (ps.take q_1.toNat ++ [(row,go)]) (ps.drop q_1.toNat) _ _ _ (fun _=>True) _ rfl rfl ?aO (ts_reads Ak.out) (fun _ _ h=>h) ?aK (fun _ _=>trivial) ?aB ?aS ?aL ?_;(case aK=>exact fun k hk=>⟨trivial,hk.1.2⟩);(case aB=>exact HB5.out);(case aO=>exact HV5.out);(case aS=>exact HB5.out.size);(case aL=>have:=LM.out;have:=hq0.out;have:=hq1.out;rw[List.length_append,List.length_take,List.length_singleton];omega);intro v2 W6 ho hb hg hat;have HS6:=Az.mk (show go<W6.heap.size from by first|exact ts_size HOw.out HG5.out hg|exact ts_size (Kd.R_drewN HOw.out _) HG5.out hg);obtain⟨A6,c6,e6⟩:=Kd.R_slice ho;subst e6;have E6:=Az.mk (show((ps.take q_1.toNat ++ [(row,go)]) ++ ps.drop q_1.toNat).length=ps.length+1 from by rw[List.length_append,List.length_append,List.length_take,List.length_drop,List.length_singleton];have:=hq0.out;have:=hq1.out;omega);rw[E6.out]at ho;have Al:=Az.mk ho;have HB6:=Az.mk hb;clear ho hb hg hat Ak HV5 HB5 HG5 HOw))
      all_goals (go_roundg k3;(case measure=>have:=HK1.out;have:=HK2.out;have:=HK3.out;omega);(case rel=>exact⟨(ps.take q_1.toNat ++ [(row,go)]) ++ ps.drop q_1.toNat,_,A6,c6,(by rw[E6.out];congr 1;have:=hq0.out;have:=hq1.out;omega),rfl,⟨by rw[ts_map];exact H'.out⟩,⟨by have:=HK1.out;have:=HK2.out;have:=HK3.out;omega⟩,⟨by rw[E6.out];first|exact Al.out|exact Kd.R_drewN Al.out _⟩,⟨by first|exact HB6.out|exact pbN HB6.out _⟩,⟨ts_labels HLB.out (by first|exact HS6.out|exact Nat.lt_of_lt_of_le HS6.out (pbN (Below.refl 0 _) _).size)⟩⟩))
     rw[ip d3]at H
     obtain⟨g0,eg0⟩:=stt_some HO.out (by omega)
     subst eg0
     obtain⟨Z,hZ⟩:∃j_:Int,q_1 - 1=j_:=⟨_,rfl⟩
     obtain⟨A1,c1,hxr,znq,hR1⟩:=stt_at HO.out (show 0≤Z by omega) (by omega)
     have z0:(0≤Z)=True:=ets (by omega)
     have z1:=ets znq
     have d3b:decide (q_1>0)=true:=ode d3
     have d3c:decide (0<q_1)=true:=ode d3
     have hqw:IntKind.i64.wrap (q_1 - 1)=Z:=(i64_w _).trans ((stt_w1 d3 d1 d2).trans hZ)
     have hqw2:wrap64 (q_1 - 1)=Z:=(stt_w1 d3 d1 d2).trans hZ
     rw[hZ]at H
     clear hZ znq d0 d1 d2 d3
     by_cases e1:0<(rd_L1 (ps.map Prod.fst) Z).length
     rotate_left
     ·rw[ig e1]at H
      exact absurd H (by simp)
     rw[ip e1]at H
     obtain⟨g1,eg1,Ay⟩:=stt_first hR1 e1
     subst eg1
     have hxo:=stt_head HOw.out HP.out
     obtain⟨Y,hY⟩:∃j_:Int,rd (rd_L1 (ps.map Prod.fst) Z) 0=j_:=⟨_,rfl⟩
     obtain⟨X,hX⟩:∃j_:Int,rd row 0=j_:=⟨_,rfl⟩
     rw[hY]at Ay H
     rw[hX]at hxo H
     obtain⟨n1,hn1⟩:∃n_:Nat,(rd_L1 (ps.map Prod.fst) Z).length=n_:=⟨_,rfl⟩
     rw[hn1]at hxr e1
     have zn1:((0:Int)<(n1:Int))=True:=ets (by omega)
     have zn2:(0<n1)=True:=ets e1
     have zo1:((0:Int)<(row.length:Int))=True:=ets (by have:=HP.out;omega)
     have zo2:(0<row.length)=True:=ets HP.out
     clear hY hX hn1 hR1 e1
     by_cases d4:Y>X
     ·rw[ip d4]at H
      have d4b:decide (Y>X)=true:=ode d4
      have d4c:decide (X<Y)=true:=ode d4
      clear d4
      have H':=Az.mk H
      clear H
      go_wp2
      go_quiet (fail)
      go_wp2
      go_roundg k3
      case measure=>have:=HK3.out;omega
      case rel=>exact⟨_,rfl,H',⟨by have:=HK3.out;omega⟩,⟨by first|exact HO.out|exact Kd.R_drewN HO.out _⟩,⟨by first|exact HB.out|exact pbN HB.out _⟩,⟨by first|exact HOw.out|exact Kd.R_drewN HOw.out _⟩⟩
     rw[ig d4]at H
     have d4b:decide (Y>X)=false:=decide_eq_false d4
     have d4c:decide (X<Y)=false:=decide_eq_false d4
     clear d4
     have H':=Az.mk H
     clear H
     obtain⟨DD,hcut1,hcut2,hrd0⟩:=ts_cuts (A:=(some ⟨g0,0,none⟩)) (Kd.R_reads' HO.out).2.1 hq0.out hq1.out
     have hrd:=Az.mk hrd0
     clear hrd0
     have hdl:ps.length - q_1.toNat=(ps.drop q_1.toNat).length:=List.length_drop.symm
     clear hdl
     go_wp2
     go_quiet (fail)
     go_wp2_with (first|((with_reducible refine gtD (N:=65) rfl ?_);refine Kd.R_lit stt_k (w0:=w) w.heap.size 25 ?hg (N:=65) ?hd (xs:=([]:List (List Int × Nat))) (inner:=[]) (ok:=fun k=>some k≠(Value.slice (some ⟨g0,0,none⟩) ps.length c).ownBlock) (okp:=fun _=>False) ?hr ?hp (fun _ hk=>hk.elim) ?hf ?hB ?hS (by simp) ?_;(case hd=>rfl);(case hg=>rfl);(case hr=>first|(go_simp;done)|(go_simp;rfl));(case hp=>exact Reps.none _ _);(case hf=>exact fun he=>Nat.lt_irrefl _ (Kd.R_lt z39_0 _ he.symm));(case hB=>exact(by first|exact HB.out|exact pbN HB.out _));(case hS=>exact(by first|exact HB.out.size|exact(pbN HB.out _).size));intro vl W2 ho hb hg hat;have HVl:=Az.mk ho;have HNl:=Az.mk (ts_new hat);have HBW:=Az.mk (ts_below hg);have HRd:=Az.mk (ts_rows (vl:=vl) z39_0 HBW.out HNl.out);have HFl:=Az.mk (show ∀k,W2.heap.size≤k→some k≠(Value.slice (some ⟨g0,0,none⟩) ps.length c).ownBlock from fun k hk he=>by have:=Kd.R_lt (Kd.R_below z39_0 HBW.out) k he.symm;omega);have HB2:=Az.mk hb;clear ho hb hg hat)|((with_reducible refine gate_builtin (b:= .append) (xs:= #[.tmp 65, .tmp 68]) rfl ?_);at_builtin;refine Kd.R_append_rows stt_k (Rr:=stt_k.M W2 w.heap.size (fun k=>some k≠(Value.slice (some ⟨g0,0,none⟩) ps.length c).ownBlock∧some k≠vl.ownBlock)) (w0:=w) w.heap.size rfl (.tmp 65) (.tmp 68) 24 25 (.slice none 0 0) 24 rfl Try.underlying24 info25 rfl (by decide) (by omega) vl [] (ps.drop q_1.toNat) _ _ _ (fun k=>some k≠(Value.slice (some ⟨g0,0,none⟩) ps.length c).ownBlock) (fun k=>some k≠(Value.slice (some ⟨g0,0,none⟩) ps.length c).ownBlock∧some k≠vl.ownBlock) rfl rfl ?aO ?aR (fun _ _ h=>h) (fun k hk=>hk) ?aF ?aB ?aS ?aL ?_;(case aR=>exact hrd.out _ _ _ _ HRd.out);(case aB=>exact HB2.out);(case aF=>exact HFl.out);(case aO=>exact HVl.out);(case aS=>exact HB2.out.size);(case aL=>have:=LM.out;show(0+_)*24≤_;omega);intro v1 W4 ho hb hg hat;obtain⟨Ar,cr,er⟩:=Kd.R_slice ho;subst er;have HR:=Az.mk (show stt_k.R 25 W4 w.heap.size (fun k=>some k≠(Value.slice (some ⟨g0,0,none⟩) ps.length c).ownBlock) (.slice Ar (ps.length - q_1.toNat) cr) (ps.drop q_1.toNat) from(show(([]:List (List Int × Nat)) ++ ps.drop q_1.toNat).length=ps.length - q_1.toNat by simp) ▸ ho);have HBX:=Az.mk (ts_keep HBW.out HNl.out hg);have Aj:=Az.mk (Kd.R_below z39_0 HBX.out);have HOw4:=Az.mk (Kd.R_below (by first|exact HOw.out|exact Kd.R_drewN HOw.out _) HBX.out);have HB4:=Az.mk hb;clear ho hb hat hg HVl HRd HFl HB2 HBX HBW HNl HO HOw HB;have HO:=Aj;have HOw:=HOw4;have HB:=HB4;clear Aj HOw4 HB4)|((with_reducible refine gate_builtin (b:= .append) (xs:= #[.tmp 72, .tmp 74]) rfl ?_);at_builtin;refine Kd.R_append stt_k (w0:=w) w.heap.size rfl (.tmp 72) (.tmp 74) 24 25 (.slice none 0 0) 24 rfl Try.underlying24 info25 rfl (by decide) (by omega) (.slice (some ⟨g0,0,none⟩) q_1.toNat c) (ps.take q_1.toNat) (row,go) [.slice (some ⟨go,0,none⟩) row.length cw] (fun _=>True) (fun k=>k=go) rfl rfl ?aP ?aK (fun _ _=>trivial) ?aO ?aB ?aS ?aL ?_;(case aP=>exact ts_M (by first|exact HOw.out|exact Kd.R_drewN HOw.out _));(case aK=>exact fun k hk=>⟨trivial,by rw[hk,ts_cap (y:=ps.length)];exact ts_far (N:=0) z39_0 (by first|exact HOw.out|exact Kd.R_drewN HOw.out _)⟩);(case aO=>exact Kd.R_take z39_0 (by have:=hq0.out;have:=hq1.out;omega));(case aB=>exact(by first|exact HB.out|exact pbN HB.out _));(case aS=>exact(by first|exact HB.out.size|exact(pbN HB.out _).size));(case aL=>have:=LM.out;rw[List.length_take];omega);intro v1 W5 ho hb hg hat;have Ak:=Az.mk (Kd.R_after (ts_rest (q:=q_1.toNat) (by first|exact HR.out|exact Kd.R_drewN HR.out _)) hg hat);have HV5:=Az.mk ho;have HB5:=Az.mk hb;have HG5:=Az.mk hg;clear ho hb hg hat HR HO HB)|((with_reducible refine gate_builtin (b:= .append) (xs:= #[.tmp 75, .tmp 76]) rfl ?_);at_builtin;refine Kd.R_append_rows stt_k (w0:=w) w.heap.size rfl (.tmp 75) (.tmp 76) 24 25 (.slice none 0 0) 24 rfl Try.underlying24 info25 rfl (by decide) (by omega) v1 (ps.take q_1.toNat ++ [(row,go)]) (ps.drop q_1.toNat) _ _ _ (fun _=>True) _ rfl rfl ?aO (ts_reads Ak.out) (fun _ _ h=>h) ?aK (fun _ _=>trivial) ?aB ?aS ?aL ?_;(case aK=>exact fun k hk=>⟨trivial,hk.1.2⟩);(case aB=>exact HB5.out);(case aO=>exact HV5.out);(case aS=>exact HB5.out.size);(case aL=>have:=LM.out;have:=hq0.out;have:=hq1.out;rw[List.length_append,List.length_take,List.length_singleton];omega);intro v2 W6 ho hb hg hat;have HS6:=Az.mk (show go<W6.heap.size from by first|exact ts_size HOw.out HG5.out hg|exact ts_size (Kd.R_drewN HOw.out _) HG5.out hg);obtain⟨A6,c6,e6⟩:=Kd.R_slice ho;subst e6;have E6:=Az.mk (show((ps.take q_1.toNat ++ [(row,go)]) ++ ps.drop q_1.toNat).length=ps.length+1 from by rw[List.length_append,List.length_append,List.length_take,List.length_drop,List.length_singleton];have:=hq0.out;have:=hq1.out;omega);rw[E6.out]at ho;have Al:=Az.mk ho;have HB6:=Az.mk hb;clear ho hb hg hat Ak HV5 HB5 HG5 HOw))
     all_goals (go_roundg k3;(case measure=>have:=HK1.out;have:=HK2.out;have:=HK3.out;omega);(case rel=>exact⟨(ps.take q_1.toNat ++ [(row,go)]) ++ ps.drop q_1.toNat,_,A6,c6,(by rw[E6.out];congr 1;have:=hq0.out;have:=hq1.out;omega),rfl,⟨by rw[ts_map];exact H'.out⟩,⟨by have:=HK1.out;have:=HK2.out;have:=HK3.out;omega⟩,⟨by rw[E6.out];first|exact Al.out|exact Kd.R_drewN Al.out _⟩,⟨by first|exact HB6.out|exact pbN HB6.out _⟩,⟨ts_labels HLB.out (by first|exact HS6.out|exact Nat.lt_of_lt_of_le HS6.out (pbN (Below.refl 0 _) _).size)⟩⟩))
  rw[ig c0']at H
  exact absurd H (by simp)
theorem bw_40 {n:Nat}{v v':World} (h:Below n v v':=by repeat(first|(with_reducible first|exact HB.out|apply bwA|apply pbN|apply bwD)|exact HB.out)):Below n v v':=h
theorem ln_40 {P:Prop} (h:P:=by(try simp only[List.map_toArray,List.map_cons,List.map_nil]);first|done|rfl|(simp only[List.length_drop,List.length_take];rfl)):P:=h
def mD.f (a0:Int):Option (Int):=some (wrap64 ((wrap64 (a0+1)) - (wrap64 (2*(Int.tmod a0 2)))))
theorem mD.calls (a0:Int) (r:Int) (w:World) (h:mD.f a0=some r):
  Calls Try.prog 77 #[.int .i64 a0] w fun e w'=>e= .returned (.int .i64 r)∧Drawn0 w w':=by
 have H:(some (wrap64 ((wrap64 (a0+1)) - (wrap64 (2*(Int.tmod a0 2))))))=some r:=h
 clear h
 obtain rfl:=Option.some.inj H
 go_enter Try.func77,Try.ntmps77
 go_wp2
 go_ret
 exact⟨rq2,kd⟩
def gZ.l0:Nat→List Int→List Int→Int→Option (List Int)
 |0,_,_,_=>none
 |k+1,x0,x3,x4=>if x4<(x0.length:Int) then((mD.f x4).bind fun t693=>(if 0≤t693 then(if t693<(x0.length:Int) then(if x3.length<17592186044416 then(gZ.l0 k x0 (x3 ++ [rd x0 t693]) (wrap64 (x4+1))) else(none)) else(none)) else(none))) else(some x3)
def gZ.f (k:Nat) (l0:List Int):Option (List Int):=gZ.l0 k l0 (([]:List Int)) 0
theorem gZ.calls (k:Nat) (A0:Option Addr) (c0:Nat) (l0:List Int) (r:List Int) (w:World) (Ax:Kd.C (Kd.int .i64) w A0 l0.length l0) (Ay:l0.length≤c0) (h:gZ.f k l0=some r):
  Calls Try.prog 48 #[.slice A0 l0.length c0] w fun e w'=>∃v0_:Value,e= .returned (v0_)∧Kd.R (Kd.int .i64) 3 w' w.heap.size (fun _=>True) v0_ r∧Below w.heap.size w w':=by
 have Bb:=Az.mk Ax
 have Bi:=Az.mk Ay
 clear Ax Ay
 have HB:=Az.mk (Below.refl w.heap.size w)
 have H:(gZ.l0 k l0 (([]:List Int)) 0)=some r:=h
 clear h
 obtain⟨Al,hy⟩:∃y_:List Int,y_=(([]:List Int)):=⟨_,rfl⟩
 replace H:(gZ.l0 k l0 Al 0)=some r:=rh
 have Ah:=Az.mk hy
 clear hy
 have H':=Az.mk H
 clear H
 go_enter Try.func48,Try.ntmps48
 go_wp2_with (first|((with_reducible refine gtD (N:=5) rfl ?_);refine Kd.R_lit (Kd.int .i64) _ 3 ?hg (N:=5) ?hd (xs:=([]:List Int)) (inner:=[]) (ok:=fun _=>True) (okp:=fun _=>True) ?hr ?hp (fun _ hk=>hk) trivial (Below.refl _ _) (Nat.le_refl _) (by simp) ?_;(case hd=>rfl);(case hg=>rfl);(case hr=>first|(go_simp;done)|(go_simp;rfl));(case hp=>exact(Reps.none _ _));intro Bc w2 Am hb hg_ hnew_;clear hg_ hnew_;(first|rw[←Ah.out]at Am|(simp only[Int.reduceToNat]at Am;rw[←Ah.out]at Am));have Ao:=Az.mk (Kd.R_lower Am (bwZ bw_40));replace HB:=Az.mk (bwT bw_40 hb);clear hb Am))
 go_loopg [3,4] k (fun kq v3 v4 w'=>∃(Ag:List Int) (Ae:Int),v4= .int .i64 Ae∧Az (gZ.l0 kq l0 Ag Ae=some r)∧Az (kq≤k)∧Az (Kd.R (Kd.int .i64) 3 w' w.heap.size (fun _=>True) v3 Ag)∧Az (Below w.heap.size w w'))
 case atStart=>exact⟨(Al),(0),rq2,H',⟨Nat.le_refl _⟩,⟨kR Ao.out⟩,⟨bw_40⟩⟩
 clear H'
 obtain⟨Ag,Ae,rfl,HA,HK1,Ai,HB⟩:=hrel
 cases gk with
 |zero=>exact absurd HA.out (by simp[gZ.l0])
 |succ k1=>
  have H:=HA.out
  clear HA
  simp only[gZ.l0]at H
  by_cases c4:Ae<(l0.length:Int)
  rotate_left
  ·rw[ig c4]at H
   have Au:=decide_eq_false c4
   clear c4
   obtain rfl:=Option.some.inj H
   go_wp2
   go_ret
   exact⟨_,rq1,kR Ai.out,bw_40⟩
  rw[ip c4]at H
  have Au:=ode c4
  clear c4
  replace H:=bez H
  obtain⟨Ad,A5,H⟩:=H
  try dsimp only at H
  by_cases c6:0≤Ad
  rotate_left
  ·rw[ig c6]at H
   exact absurd H (by simp)
  rw[ip c6]at H
  have Bd:=ode c6
  clear c6
  by_cases c7:Ad<(l0.length:Int)
  rotate_left
  ·rw[ig c7]at H
   exact absurd H (by simp)
  rw[ip c7]at H
  have Bf:=ode c7
  clear c7
  by_cases c8:Ag.length<17592186044416
  rotate_left
  ·rw[ig c8]at H
   exact absurd H (by simp)
  rw[ip c8]at H
  have LMc8:=Az.mk c8
  clear c8
  obtain⟨Ap,hy⟩:∃y_:List Int,y_=(Ag ++ [rd l0 Ad]):=⟨_,rfl⟩
  replace H:(gZ.l0 k1 l0 Ap (wrap64 (Ae+1)))=some r:=rh
  have Aq:=Az.mk hy
  clear hy
  have H':=Az.mk H
  clear H
  go_wp2_with (first|((with_reducible refine gtC (f:=77) rfl ?_);refine clz Try.func77 (some 15) #[.int .i64 Ae] ?_;(with_reducible refine(mD.calls Ae Ad _ A5.out).mono ?_);rintro e w' ⟨rfl,⟨nd,rfl⟩⟩;refine⟨_,rfl,?_⟩;have Aj:0≤(Ad:Int):=od;have Ak:Ad<(l0.length:Int):=od;obtain⟨Ba,Av,Af⟩:=Kd.at_int Bb.out Ad Aj Ak;cases Av;replace Af:=kc HB Af;replace Aj:=ets Aj;replace Ak:=ets Ak)|((with_reducible refine gate_builtin (b:= .append) (xs:= #[.tmp 12, .tmp 18]) rfl ?_);at_builtin;refine Kd.R_append (Kd.int .i64) (w0:=w) w.heap.size rfl (.tmp 12) (.tmp 18) 25 3 (.int .i64 0) 8 rfl Try.underlying25 info3 rfl (by decide) (by omega) u3 Ag (rd l0 Ad) [.int .i64 (rd l0 Ad)] (fun _=>True) (fun _=>False) rfl rfl ?aP (fun _ hk=>hk.elim) ?aF ?aO ?aB ?aS ?aL ?_;(case aP=>exact rfl);(case aB=>exact bw_40);(case aF=>exact(fun _ _=>trivial));(case aO=>exact(kR Ai.out));(case aS=>exact(bwZ bw_40));(case aL=>have:=LMc8.out;omega);intro Bh w9 ho hb hg hat;rw[←Aq.out]at ho;have n0_:=Az.mk (hb);have n1_:=Az.mk (ho);clear HB;clear Ai;have HB:=n0_;have As:=n1_;clear n0_ n1_;clear ho hb hg hat))
  go_roundg k1
  case measure=>have:=HK1.out;omega
  case rel=>exact⟨(Ap),(wrap64 (Ae+1)),rq2,H',⟨by have:=HK1.out;omega⟩,⟨kR As.out⟩,⟨bw_40⟩⟩
def jW.f (k:Nat) (l0:List Int):Option (List Int):=(jA.f k l0).bind fun t698=>(if t698=true then((gZ.f k l0).bind fun t699=>(some t699)) else(some (([]:List Int))))
theorem jW.calls (k:Nat) (A0:Option Addr) (c0:Nat) (l0:List Int) (r:List Int) (w:World) (Ap:Kd.C (Kd.int .i64) w A0 l0.length l0) (Aq:l0.length≤c0) (h:jW.f k l0=some r):
  Calls Try.prog 18 #[.slice A0 l0.length c0] w fun e w'=>∃v0_:Value,e= .returned (v0_)∧Kd.R (Kd.int .i64) 3 w' w.heap.size (fun _=>True) v0_ r∧Below w.heap.size w w':=by
 have Al:=Az.mk Ap
 have Am:=Az.mk Aq
 clear Ap Aq
 have HB:=Az.mk (Below.refl w.heap.size w)
 have H:((jA.f k l0).bind fun Ah=>(if Ah=true then((gZ.f k l0).bind fun Af=>(some Af)) else(some (([]:List Int)))))=some r:=h
 clear h
 replace H:=bez H
 obtain⟨Ah,A2,H⟩:=H
 try dsimp only at H
 by_cases c3:Ah=true
 ·subst c3
  rw[ip rfl]at H
  replace H:=bez H
  obtain⟨Af,A4,H⟩:=H
  replace H:(some Af)=some r:=H
  obtain rfl:=Option.some.inj H
  go_enter Try.func18,Try.ntmps18
  go_wp2_with (first|((with_reducible refine gtC (f:=47) rfl ?_);refine clz Try.func47 (some 4) #[.slice A0 l0.length c0] ?_;(with_reducible refine(jA.calls k _ _ l0 true _ ?Ad ?Ae A2.out).mono ?_);(case Ad=>exact kC Al.out);(case Ae=>exact Am.out);rintro e w5 ⟨rfl,hb⟩;refine⟨_,rfl,?_⟩;replace HB:=Az.mk (bwT bw_40 hb);(try clear hb))|((with_reducible refine gtC (f:=48) rfl ?_);refine clz Try.func48 (some 8) #[.slice A0 l0.length c0] ?_;(with_reducible refine(gZ.calls k _ _ l0 Af _ ?Ad ?Ae A4.out).mono ?_);(case Ad=>exact kC (Kd.C_below Al.out HB.out));(case Ae=>exact Am.out);rintro e w6 ⟨Au,rfl,As,hb⟩;refine⟨_,rfl,?_⟩;have Ai:=Az.mk (Kd.R_lower As (bwZ bw_40));replace HB:=Az.mk (bwT bw_40 hb);(try clear hb);(try clear As)))
  go_ret
  exact⟨_,rq1,kR Ai.out,bw_40⟩
 replace c3:=Bool.eq_false_iff.mpr c3
 subst c3
 rw[ig ff]at H
 obtain⟨Ao,hy⟩:∃y_:List Int,y_=(([]:List Int)):=⟨_,rfl⟩
 replace H:(some Ao)=some r:=rh
 have Ag:=Az.mk hy
 clear hy
 obtain rfl:=Option.some.inj H
 go_enter Try.func18,Try.ntmps18
 go_wp2_with (first|((with_reducible refine gtC (f:=47) rfl ?_);refine clz Try.func47 (some 4) #[.slice A0 l0.length c0] ?_;(with_reducible refine(jA.calls k _ _ l0 false _ ?Ad ?Ae A2.out).mono ?_);(case Ad=>exact kC Al.out);(case Ae=>exact Am.out);rintro e w7 ⟨rfl,hb⟩;refine⟨_,rfl,?_⟩;replace HB:=Az.mk (bwT bw_40 hb);(try clear hb))|((with_reducible refine gtD (N:=6) rfl ?_);refine Kd.R_lit (Kd.int .i64) _ 3 ?hg (N:=6) ?hd (xs:=([]:List Int)) (inner:=[]) (ok:=fun _=>True) (okp:=fun _=>True) ?hr ?hp (fun _ hk=>hk) trivial (Below.refl _ _) (Nat.le_refl _) (by simp) ?_;(case hd=>rfl);(case hg=>rfl);(case hr=>first|(go_simp;done)|(go_simp;rfl));(case hp=>exact(Reps.none _ _));intro Av w8 Aj hb hg_ hnew_;clear hg_ hnew_;(first|rw[←Ag.out]at Aj|(simp only[Int.reduceToNat]at Aj;rw[←Ag.out]at Aj));have Ak:=Az.mk (Kd.R_lower Aj (bwZ bw_40));replace HB:=Az.mk (bwT bw_40 hb);clear hb Aj))
 go_ret
 exact⟨_,rq1,kR Ak.out,bw_40⟩
theorem bw_41 {n:Nat}{v v':World} (h:Below n v v':=by repeat(first|(with_reducible first|exact HB.out|apply bwA|apply pbN|apply bwD)|exact HB.out)):Below n v v':=h
mutual
def fQ.l0:Nat→List Int→List (List Int)→List Bool→Int→Option ((List (List Int)))
 |0,_,_,_,_=>none
 |k+1,x0,x3,x4,x5=>if x5<(x0.length:Int) then(if 0≤x5 then(if x5<(x4.length:Int) then(if rdOf false x4 x5=true then(fQ.l0 k x0 x3 x4 (wrap64 (x5+1))) else(fQ.l1 k x0 x3 x4 x5 (([]:List Int)) x5)) else(none)) else(none)) else(some x3)
def fQ.l1:Nat→List Int→List (List Int)→List Bool→Int→List Int→Int→Option ((List (List Int)))
 |0,_,_,_,_,_,_=>none
 |k+1,x0,x3,x4,x5,x6,x7=>if 0≤x7 then(if x7<(x4.length:Int) then(if rdOf false x4 x7=true then(if x3.length<5864062014805 then(fQ.l0 k x0 (x3 ++ [x6]) x4 (wrap64 (x5+1))) else(none)) else(if x6.length<17592186044416 then(if x7<(x0.length:Int) then(fQ.l1 k x0 x3 (x4.set (x7:Int).toNat true) x5 (x6 ++ [x7]) (rd x0 x7)) else(none)) else(none))) else(none)) else(none)
end
def fQ.f (k:Nat) (l0:List Int):Option ((List (List Int))):=if 0≤(l0.length:Int) then(if((l0.length:Int):Int).toNat≤281474976710656 then(fQ.l0 k l0 (([]:List (List Int))) (List.replicate ((l0.length:Int):Int).toNat false) 0) else(none)) else(none)
theorem fQ.calls (k:Nat) (A0:Option Addr) (c0:Nat) (l0:List Int) (r:List (List Int)) (w:World) (Di:Kd.C (Kd.int .i64) w A0 l0.length l0) (Dj:l0.length≤c0) (h:fQ.f k l0=some r):
  Calls Try.prog 49 #[.slice A0 l0.length c0] w fun e w'=>∃v0_:Value,e= .returned (v0_)∧Kd.S (Kd.slice 3 (Kd.int .i64)) 25 w' w.heap.size (fun _=>True) v0_ r∧Below w.heap.size w w':=by
 have Do:=Az.mk Di
 have Dz:=Az.mk Dj
 clear Di Dj
 have HB:=Az.mk (Below.refl w.heap.size w)
 have H:(if 0≤(l0.length:Int) then(if((l0.length:Int):Int).toNat≤281474976710656 then(fQ.l0 k l0 (([]:List (List Int))) (List.replicate ((l0.length:Int):Int).toNat false) 0) else(none)) else(none))=some r:=h
 clear h
 obtain⟨Bl,hy⟩:∃y_:List (List Int),y_=(([]:List (List Int))):=⟨_,rfl⟩
 replace H:(if 0≤(l0.length:Int) then(if((l0.length:Int):Int).toNat≤281474976710656 then(fQ.l0 k l0 Bl (List.replicate ((l0.length:Int):Int).toNat false) 0) else(none)) else(none))=some r:=rh
 have Bi:=Az.mk hy
 clear hy
 by_cases c2:0≤(l0.length:Int)
 rotate_left
 ·rw[ig c2]at H
  exact absurd H (by simp)
 rw[ip c2]at H
 have Br:=ets c2
 have Bs:=ode c2
 clear c2
 by_cases c3:((l0.length:Int):Int).toNat≤281474976710656
 rotate_left
 ·rw[ig c3]at H
  exact absurd H (by simp)
 rw[ip c3]at H
 have Bt:=ets c3
 have Bu:=ode c3
 clear c3
 obtain⟨Bv,hy⟩:∃y_:List Bool,y_=(List.replicate ((l0.length:Int):Int).toNat false):=⟨_,rfl⟩
 replace H:(fQ.l0 k l0 Bl Bv 0)=some r:=rh
 have Bj:=Az.mk hy
 clear hy
 have H':=Az.mk H
 clear H
 go_enter Try.func49,Try.ntmps49
 go_wp2_with (first|((with_reducible refine gtD (N:=8) rfl ?_);refine Kd.S_lit (Kd.slice 3 (Kd.int .i64)) _ 25 ?hg (N:=8) ?hd (xs:=([]:List (List Int))) (inner:=[]) (ok:=fun _=>True) (okp:=fun _=>True) ?hr ?hp (fun _ hk=>hk) trivial (Below.refl _ _) (Nat.le_refl _) (by simp) ?_;(case hd=>rfl);(case hg=>rfl);(case hr=>first|(go_simp;done)|(go_simp;rfl));(case hp=>exact(Reps.none _ _));intro Dp w4 Bw hb hg_ hnew_;clear hg_ hnew_;(first|rw[←Bi.out]at Bw|(simp only[Int.reduceToNat]at Bw;rw[←Bi.out]at Bw));have Bc:=Az.mk (Kd.S_lower Bw (bwZ bw_41));replace HB:=Az.mk (bwT bw_41 hb);clear hb Bw)|((with_reducible refine gtD (N:=11) rfl ?_);refine Kd.R_make Kd.bool _ 4 rfl (N:=11) rfl 72 _ _ rfl (l0.length:Int) rfl rfl Try.underlying72 (.bool false) 1 info4 rfl (by decide) (by omega) false (ok:=fun _=>True) (okp:=fun _=>True) rfl (fun _ hk=>hk) trivial (od) (Nat.le_trans (Nat.mul_le_mul_right _ (od:(l0.length:Int).toNat≤281474976710656)) (by omega)) (Below.refl _ _) (Nat.le_refl _) ?_;intro Cw w6 Bx hb hg_ hnew_;clear hg_ hnew_;(first|rw[←Bj.out]at Bx|(simp only[Int.reduceToNat]at Bx;rw[←Bj.out]at Bx));replace Bc:=Az.mk (Kd.S_below (kS Bc.out) hb);have By:=Az.mk (Kd.R_lower Bx (bwZ bw_41));replace HB:=Az.mk (bwT bw_41 hb);clear hb Bx))
 go_loopg [3,5] k (fun kq v3 v5 w'=>∃(Ag:List (List Int)) (Am:List Bool) (Ae:Int),v5= .int .i64 Ae∧Az (fQ.l0 kq l0 Ag Am Ae=some r)∧Az (kq≤k)∧Az (Kd.S (Kd.slice 3 (Kd.int .i64)) 25 w' w.heap.size (fun _=>True) v3 Ag)∧Az (Kd.R Kd.bool 4 w' w.heap.size (fun _=>True) Cw Am)∧Az (Below w.heap.size w w'))
 case atStart=>exact⟨(Bl),(Bv),(0),rq2,H',⟨Nat.le_refl _⟩,⟨kS Bc.out⟩,⟨kR By.out⟩,⟨bw_41⟩⟩
 clear H'
 try clear c2
 try clear Br
 try clear Bs
 try clear c3
 try clear Bt
 try clear Bu
 obtain⟨Ag,Am,Ae,rfl,HA,HK1,Ah,Af,HB⟩:=hrel
 cases gk with
 |zero=>exact absurd HA.out (by simp[fQ.l0])
 |succ k1=>
  have H:=HA.out
  clear HA
  simp only[fQ.l0]at H
  by_cases c8:Ae<(l0.length:Int)
  rotate_left
  ·rw[ig c8]at H
   have Bz:=decide_eq_false c8
   clear c8
   obtain rfl:=Option.some.inj H
   go_wp2
   go_ret
   exact⟨_,rq1,kS Ah.out,bw_41⟩
  rw[ip c8]at H
  have Bz:=ode c8
  clear c8
  by_cases c9:0≤Ae
  rotate_left
  ·rw[ig c9]at H
   exact absurd H (by simp)
  rw[ip c9]at H
  have Cx:=ode c9
  clear c9
  by_cases Ca:Ae<(Am.length:Int)
  rotate_left
  ·rw[ig Ca]at H
   exact absurd H (by simp)
  rw[ip Ca]at H
  have Cb:=ode Ca
  clear Ca
  obtain⟨bq11,hbq11⟩:∃b_:Bool,b_=(rdOf false Am Ae):=⟨_,rfl⟩
  replace H:(if bq11=true then(fQ.l0 k1 l0 Ag Am (wrap64 (Ae+1))) else(fQ.l1 k1 l0 Ag Am Ae (([]:List Int)) Ae))=some r:=by rw[←hbq11]at H;exact H
  have Nbq11:=Az.mk hbq11
  clear hbq11
  by_cases Cc:bq11=true
  ·subst Cc
   rw[ip rfl]at H
   have H':=Az.mk H
   clear H
   obtain⟨Dq,Dr,Cy⟩:=Kd.R_slice Af.out
   subst Cy
   have Aq:0≤(Ae:Int):=od
   have As:Ae<(Am.length:Int):=od
   obtain⟨Ay,Bm,Ao⟩:=Kd.at_bool (Kd.R_reads' Af.out).2.2 Ae Aq As
   (try rw[←Nbq11.out]at Ao)
   cases Bm
   replace Aq:=ets Aq
   replace As:=ets As
   go_wp2
   go_roundg k1
   case measure=>have:=HK1.out;omega
   case rel=>exact⟨(Ag),(Am),(wrap64 (Ae+1)),rq2,H',⟨by have:=HK1.out;omega⟩,⟨kS Ah.out⟩,⟨kR Af.out⟩,⟨bw_41⟩⟩
  replace Cc:=Bool.eq_false_iff.mpr Cc
  subst Cc
  rw[ig ff]at H
  obtain⟨Cd,hy⟩:∃y_:List Int,y_=(([]:List Int)):=⟨_,rfl⟩
  replace H:(fQ.l1 k1 l0 Ag Am Ae Cd Ae)=some r:=rh
  have Bk:=Az.mk hy
  clear hy
  have H':=Az.mk H
  clear H
  obtain⟨Ds,Bf,Cz⟩:=Kd.R_slice Af.out
  subst Cz
  have Aq:0≤(Ae:Int):=od
  have As:Ae<(Am.length:Int):=od
  obtain⟨Ay,Bm,Ao⟩:=Kd.at_bool (Kd.R_reads' Af.out).2.2 Ae Aq As
  (try rw[←Nbq11.out]at Ao)
  cases Bm
  replace Aq:=ets Aq
  replace As:=ets As
  go_wp2_with (first|((with_reducible refine gtD (N:=22) rfl ?_);refine Kd.R_lit (Kd.int .i64) _ 3 ?hg (N:=22) ?hd (xs:=([]:List Int)) (inner:=[]) (ok:=fun _=>True) (okp:=fun _=>True) ?hr ?hp (fun _ hk=>hk) trivial (Below.refl _ _) (Nat.le_refl _) (by simp) ?_;(case hd=>rfl);(case hg=>rfl);(case hr=>first|(go_simp;done)|(go_simp;rfl));(case hp=>exact(Reps.none _ _));intro Dt Ea Bb hb hg_ hnew_;clear hg_ hnew_;(first|rw[←Bk.out]at Bb|(simp only[Int.reduceToNat]at Bb;rw[←Bk.out]at Bb));replace Ah:=Az.mk (Kd.S_elder' (kS Ah.out) (Kd.R_base Bb) hb);replace Af:=Az.mk (Kd.R_below (kR Af.out) hb);have Ce:=Az.mk (Kd.R_lower Bb (bwZ bw_41));replace HB:=Az.mk (bwT bw_41 hb);clear hb Bb))
  go_loopg [6,7] k1 (fun kq v6 v7 w'=>∃(Ak:List Bool) (Al:List Int) (Ad:Int),v7= .int .i64 Ad∧Az (fQ.l1 kq l0 Ag Ak Ae Al Ad=some r)∧Az (kq≤k1)∧Az (Kd.S (Kd.slice 3 (Kd.int .i64)) 25 w' w.heap.size (fun k_=>some k_≠(v6:Value).ownBlock) u3 Ag)∧Az (Kd.R Kd.bool 4 w' w.heap.size (fun _=>True) (.slice (some Ay) Am.length Bf) Ak)∧Az (Kd.R (Kd.int .i64) 3 w' w.heap.size (fun _=>True) v6 Al)∧Az (Below w.heap.size w w'))
  case atStart=>exact⟨(Am),(Cd),(Ae),rq2,H',⟨Nat.le_refl _⟩,⟨by(with_reducible repeat(first|apply Kd.S_alloc|apply Kd.S_drewN|apply Kd.S_drew));exact Kd.S_mono Ah.out (fun _ hk=>hk.2)⟩,⟨kR Af.out⟩,⟨kR Ce.out⟩,⟨bw_41⟩⟩
  clear H'
  try clear c2
  try clear Br
  try clear Bs
  try clear c3
  try clear Bt
  try clear Bu
  try clear c8
  try clear Bz
  try clear c9
  try clear Cx
  try clear Ca
  try clear Cb
  try clear Cc
  try clear Ao
  try clear Aq
  try clear As
  obtain⟨Ak,Al,Ad,rfl,HA,HK2,Ah,Af,Ap,HB⟩:=hrel
  have Ai:=(Kd.R_reads' Af.out).1
  rw[Ai]at Af
  (try simp only[Ai])
  (try simp only[Ai]at Ah)
  (try simp only[Ai]at Ap)
  cases gk with
  |zero=>exact absurd HA.out (by simp[fQ.l1])
  |succ k2=>
   have H:=HA.out
   clear HA
   simp only[fQ.l1]at H
   by_cases Cq:0≤Ad
   rotate_left
   ·rw[ig Cq]at H
    exact absurd H (by simp)
   rw[ip Cq]at H
   have Dk:=ode Cq
   clear Cq
   by_cases Cr:Ad<(Ak.length:Int)
   rotate_left
   ·rw[ig Cr]at H
    exact absurd H (by simp)
   rw[ip Cr]at H
   have Dl:=ode Cr
   clear Cr
   obtain⟨bq19,hbq19⟩:∃b_:Bool,b_=(rdOf false Ak Ad):=⟨_,rfl⟩
   replace H:(if bq19=true then(if Ag.length<5864062014805 then(fQ.l0 k2 l0 (Ag ++ [Al]) Ak (wrap64 (Ae+1))) else(none)) else(if Al.length<17592186044416 then(if Ad<(l0.length:Int) then(fQ.l1 k2 l0 Ag (Ak.set (Ad:Int).toNat true) Ae (Al ++ [Ad]) (rd l0 Ad)) else(none)) else(none)))=some r:=by rw[←hbq19]at H;exact H
   have Nbq19:=Az.mk hbq19
   clear hbq19
   by_cases Cs:bq19=true
   ·subst Cs
    rw[ip rfl]at H
    by_cases Ct:Ag.length<5864062014805
    rotate_left
    ·rw[ig Ct]at H
     exact absurd H (by simp)
    rw[ip Ct]at H
    have LMc21:=Az.mk Ct
    clear Ct
    obtain⟨Cf,hy⟩:∃y_:List (List Int),y_=(Ag ++ [Al]):=⟨_,rfl⟩
    replace H:(fQ.l0 k2 l0 Cf Ak (wrap64 (Ae+1)))=some r:=rh
    have Cg:=Az.mk hy
    clear hy
    have H':=Az.mk H
    clear H
    have Av:0≤(Ad:Int):=od
    have Ax:Ad<(Ak.length:Int):=od
    obtain⟨Bd,Bn,Aj⟩:=Kd.at_bool (Kd.R_reads' Af.out).2.2 Ad Av Ax
    (try rw[←Nbq11.out]at Aj)
    (try rw[←Nbq19.out]at Aj)
    obtain rfl:Ay=Bd:=(by injection Bn)
    replace Av:=ets Av
    replace Ax:=ets Ax
    obtain⟨Ch,Ci,Da⟩:=Kd.R_slice Ap.out
    subst Da
    go_wp2_with (first|((with_reducible refine gate_builtin (b:= .append) (xs:= #[.tmp 40, .tmp 42]) rfl ?_);at_builtin;refine Kd.S_append (Kd.slice 3 (Kd.int .i64)) (w0:=w) w.heap.size rfl (.tmp 40) (.tmp 42) 24 25 (.slice none 0 0) 24 rfl Try.underlying24 info25 rfl (by decide) (by omega) u3 Ag Al [.slice Ch Al.length Ci] (fun _=>True) (fun k_=>some k_=(.slice Ch Al.length Ci:Value).ownBlock) rfl rfl ?aP (fun k_ hk_=>((Kd.R_mono (ok':=fun k_=>((fun _=>True)) k_∧some k_≠(u3:Value).ownBlock) (Kd.R_apart' (Ap.out) (Kd.S_typed Ah.out) (by decide)) (fun k_ hk=>⟨trivial,hk.2⟩))).1 k_ hk_.symm) ?aF ?aO ?aB ?aS ?aL ?_;(case aP=>exact Kd.M_row (Kd.R_mono (Kd.R_tight rfl (Kd.R_mono (ok':=fun k_=>((fun _=>True)) k_∧some k_≠(u3:Value).ownBlock) (Kd.R_apart' (Ap.out) (Kd.S_typed Ah.out) (by decide)) (fun k_ hk=>⟨trivial,hk.2⟩))) (fun _ h_=>h_)));(case aB=>exact bw_41);(case aF=>exact(fun _ _=>trivial));(case aO=>exact(by(with_reducible repeat(first|apply Kd.S_alloc|apply Kd.S_drewN|apply Kd.S_drew));exact Kd.S_mono Ah.out (fun k_ hk=>⟨trivial,fun e_=>hk e_⟩)));(case aS=>exact(bwZ bw_41));(case aL=>have:=LMc21.out;omega);intro Du Eb ho hb hg hat;rw[←Cg.out]at ho;have n0_:=Az.mk (Kd.R_over' (kR Af.out) (Kd.S_typed (kS Ah.out)) (by decide) hg);have n1_:=Az.mk (hb);have n2_:=Az.mk (ho);clear Af;clear HB;clear Ah;clear Ap;have Af:=n0_;have HB:=n1_;have Cj:=n2_;clear n0_ n1_ n2_;clear ho hb hg hat))
    (try simp only[←Ai])
    go_roundg k2
    case measure=>have:=HK1.out;have:=HK2.out;omega
    case rel=>exact⟨(Cf),(Ak),(wrap64 (Ae+1)),rq2,H',⟨by have:=HK1.out;have:=HK2.out;omega⟩,⟨by(try simp only[Ai]);(with_reducible repeat(first|apply Kd.S_alloc|apply Kd.S_drewN|apply Kd.S_drew));exact Cj.out⟩,⟨by(try simp only[Ai]);(with_reducible repeat(first|apply Kd.R_alloc|apply Kd.R_drewN|apply Kd.R_drew));exact Af.out⟩,⟨bw_41⟩⟩
   replace Cs:=Bool.eq_false_iff.mpr Cs
   subst Cs
   rw[ig ff]at H
   obtain⟨Bh,hy⟩:∃y_:List Bool,y_=(Ak.set (Ad:Int).toNat true):=⟨_,rfl⟩
   replace H:(if Al.length<17592186044416 then(if Ad<(l0.length:Int) then(fQ.l1 k2 l0 Ag Bh Ae (Al ++ [Ad]) (rd l0 Ad)) else(none)) else(none))=some r:=rh
   have Ck:=Az.mk hy
   clear hy
   by_cases Cu:Al.length<17592186044416
   rotate_left
   ·rw[ig Cu]at H
    exact absurd H (by simp)
   rw[ip Cu]at H
   have LMc25:=Az.mk Cu
   clear Cu
   obtain⟨Cl,hy⟩:∃y_:List Int,y_=(Al ++ [Ad]):=⟨_,rfl⟩
   replace H:(if Ad<(l0.length:Int) then(fQ.l1 k2 l0 Ag Bh Ae Cl (rd l0 Ad)) else(none))=some r:=rh
   have Cm:=Az.mk hy
   clear hy
   by_cases Cv:Ad<(l0.length:Int)
   rotate_left
   ·rw[ig Cv]at H
    exact absurd H (by simp)
   rw[ip Cv]at H
   have Dm:=ode Cv
   clear Cv
   have H':=Az.mk H
   clear H
   have Av:0≤(Ad:Int):=od
   have Ax:Ad<(Ak.length:Int):=od
   obtain⟨Bd,Bn,Aj⟩:=Kd.at_bool (Kd.R_reads' Af.out).2.2 Ad Av Ax
   (try rw[←Nbq11.out]at Aj)
   (try rw[←Nbq19.out]at Aj)
   obtain rfl:Ay=Bd:=(by injection Bn)
   replace Av:=ets Av
   replace Ax:=ets Ax
   have Db:0≤(Ad:Int):=od
   have Dc:(Ad:Int)<((Ak.length:Int):Int):=od
   obtain⟨Au,Dv,Cn,Co,gl24,Dw,HG24⟩:=Kd.R_form Af.out (by omega)
   (first|cases Cn|(injection Cn with ea_ en_ ec_;(first|subst ea_|(injection ea_ with ea_;subst ea_));subst ec_;clear en_))
   have Dd:=Az.mk Co
   have Dx:=Az.mk HG24
   clear Co gl24 HG24
   (first|simp only[add_plain]at Ao|skip)
   (first|simp only[add_plain]at Aj|skip)
   obtain⟨De,Df⟩:=Kd.R_celln false Af.out (Ad:Int) Db Dc
   replace Db:=ets Db
   replace Dc:=ets Dc
   have Bo:=Kd.R_putg Af.out (Ad:Int) true
   go_wp2_with (first|((with_reducible refine gate_store (t:=4) (p:=35) rfl ?_);refine store_event (t:=4) (p:=35) (v:=?vo_w28) (w1:=(wr.setCell ⟨Au,(Ad:Int).toNat,none⟩ (.bool true))) ?hg ?ho ?hn ?hr ?_;(case ho=>rfl);(case hg=>rfl);(case hn=>rfl);(case hr=>first|(go_simp;done)|(go_simp;rfl));intro Dg hw;have hg:wr.grownBy Dg (some Au):=(by rw[hw];exact Bo.2);have hp_:Kd.R Kd.bool 4 Dg w.heap.size (fun _=>True) (.slice (some ⟨Au,0,none⟩) Ak.length Bf) Bh:=(by rw[hw,Ck.out];exact Bo.1);clear Bo;replace Ah:=Az.mk (Kd.S_over' (v:=(.slice (some ⟨Au,0,none⟩) Ak.length Bf)) (kS Ah.out) (Kd.R_typed Af.out) (by decide) hg);replace Ap:=Az.mk (Kd.R_over' (v:=(.slice (some ⟨Au,0,none⟩) Ak.length Bf)) (kR Ap.out) (Kd.R_typed Af.out) (by decide) hg);replace Af:=Az.mk (hp_);replace HB:=Az.mk ((by rw[hw];exact bwS (HB.out) Dd.out:Below w.heap.size w Dg));clear hg hw hp_)|((with_reducible refine gate_builtin (b:= .append) (xs:= #[.tmp 36, .tmp 38]) rfl ?_);at_builtin;refine Kd.R_append (Kd.int .i64) (w0:=w) w.heap.size rfl (.tmp 36) (.tmp 38) 25 3 (.int .i64 0) 8 rfl Try.underlying25 info3 rfl (by decide) (by omega) u6 Al Ad [.int .i64 Ad] (fun _=>True) (fun _=>False) rfl rfl ?aP (fun _ hk=>hk.elim) ?aF ?aO ?aB ?aS ?aL ?_;(case aP=>exact rfl);(case aB=>exact bw_41);(case aF=>exact(fun _ _=>trivial));(case aO=>exact(kR Ap.out));(case aS=>exact(bwZ bw_41));(case aL=>have:=LMc25.out;omega);intro Dy Ec ho hb hg hat;rw[←Cm.out]at ho;have n0_:=Az.mk (Kd.S_after (ok:=(fun _=>True)) (by(with_reducible repeat(first|apply Kd.S_alloc|apply Kd.S_drewN|apply Kd.S_drew));exact Kd.S_mono Ah.out (fun _ hk=>⟨trivial,hk⟩)) hg hat);have n1_:=Az.mk (Kd.R_over' (kR Af.out) (Kd.R_typed (kR Ap.out)) (by decide) hg);have n2_:=Az.mk (hb);have n3_:=Az.mk (ho);clear Ah;clear Af;clear HB;clear Ap;have Ah:=n0_;have Af:=n1_;have HB:=n2_;have Cp:=n3_;clear n0_ n1_ n2_ n3_;clear ho hb hg hat;have Bp:0≤(Ad:Int):=od;have Bq:Ad<(l0.length:Int):=od;obtain⟨Dn,Dh,Ba⟩:=Kd.at_int Do.out Ad Bp Bq;cases Dh;replace Ba:=kc HB Ba;replace Bp:=ets Bp;replace Bq:=ets Bq))
   (try simp only[←Ai])
   (try rw[←add_plain Au Ag.toNat])
   (try rw[←add_plain Au Ae.toNat])
   (try rw[←add_plain Au Am.toNat])
   go_roundg k2
   case measure=>have:=HK1.out;have:=HK2.out;omega
   case rel=>exact⟨(Bh),(Cl),(rd l0 Ad),rq2,H',⟨by have:=HK1.out;have:=HK2.out;omega⟩,⟨by(try simp only[Ai]);(with_reducible repeat(first|apply Kd.S_alloc|apply Kd.S_drewN|apply Kd.S_drew));exact Kd.S_mono Ah.out (fun _ hk=>hk.2)⟩,⟨by(try simp only[Ai]);(with_reducible repeat(first|apply Kd.R_alloc|apply Kd.R_drewN|apply Kd.R_drew));exact Af.out⟩,⟨by(try simp only[Ai]);(with_reducible repeat(first|apply Kd.R_alloc|apply Kd.R_drewN|apply Kd.R_drew));exact Cp.out⟩,⟨bw_41⟩⟩
def jP.f (k:Nat) (l0:List Int):Option ((List (List Int))):=(jA.f k l0).bind fun t724=>(if t724=true then((fQ.f k l0).bind fun t725=>(some t725)) else(some (([]:List (List Int)))))
theorem jP.calls (k:Nat) (A0:Option Addr) (c0:Nat) (l0:List Int) (r:List (List Int)) (w:World) (Ap:Kd.C (Kd.int .i64) w A0 l0.length l0) (Aq:l0.length≤c0) (h:jP.f k l0=some r):
  Calls Try.prog 19 #[.slice A0 l0.length c0] w fun e w'=>∃v0_:Value,e= .returned (v0_)∧Kd.S (Kd.slice 3 (Kd.int .i64)) 25 w' w.heap.size (fun _=>True) v0_ r∧Below w.heap.size w w':=by
 have Al:=Az.mk Ap
 have Am:=Az.mk Aq
 clear Ap Aq
 have HB:=Az.mk (Below.refl w.heap.size w)
 have H:((jA.f k l0).bind fun Ah=>(if Ah=true then((fQ.f k l0).bind fun Af=>(some Af)) else(some (([]:List (List Int))))))=some r:=h
 clear h
 replace H:=bez H
 obtain⟨Ah,A2,H⟩:=H
 try dsimp only at H
 by_cases c3:Ah=true
 ·subst c3
  rw[ip rfl]at H
  replace H:=bez H
  obtain⟨Af,A4,H⟩:=H
  replace H:(some Af)=some r:=H
  obtain rfl:=Option.some.inj H
  go_enter Try.func19,Try.ntmps19
  go_wp2_with (first|((with_reducible refine gtC (f:=47) rfl ?_);refine clz Try.func47 (some 4) #[.slice A0 l0.length c0] ?_;(with_reducible refine(jA.calls k _ _ l0 true _ ?Ad ?Ae A2.out).mono ?_);(case Ad=>exact kC Al.out);(case Ae=>exact Am.out);rintro e w5 ⟨rfl,hb⟩;refine⟨_,rfl,?_⟩;replace HB:=Az.mk (bwT bw_41 hb);(try clear hb))|((with_reducible refine gtC (f:=49) rfl ?_);refine clz Try.func49 (some 8) #[.slice A0 l0.length c0] ?_;(with_reducible refine(fQ.calls k _ _ l0 Af _ ?Ad ?Ae A4.out).mono ?_);(case Ad=>exact kC (Kd.C_below Al.out HB.out));(case Ae=>exact Am.out);rintro e w6 ⟨Au,rfl,As,hb⟩;refine⟨_,rfl,?_⟩;have Ai:=Az.mk (Kd.S_lower As (bwZ bw_41));replace HB:=Az.mk (bwT bw_41 hb);(try clear hb);(try clear As)))
  go_ret
  exact⟨_,rq1,kS Ai.out,bw_41⟩
 replace c3:=Bool.eq_false_iff.mpr c3
 subst c3
 rw[ig ff]at H
 obtain⟨Ao,hy⟩:∃y_:List (List Int),y_=(([]:List (List Int))):=⟨_,rfl⟩
 replace H:(some Ao)=some r:=rh
 have Ag:=Az.mk hy
 clear hy
 obtain rfl:=Option.some.inj H
 go_enter Try.func19,Try.ntmps19
 go_wp2_with (first|((with_reducible refine gtC (f:=47) rfl ?_);refine clz Try.func47 (some 4) #[.slice A0 l0.length c0] ?_;(with_reducible refine(jA.calls k _ _ l0 false _ ?Ad ?Ae A2.out).mono ?_);(case Ad=>exact kC Al.out);(case Ae=>exact Am.out);rintro e w7 ⟨rfl,hb⟩;refine⟨_,rfl,?_⟩;replace HB:=Az.mk (bwT bw_41 hb);(try clear hb))|((with_reducible refine gtD (N:=6) rfl ?_);refine Kd.S_lit (Kd.slice 3 (Kd.int .i64)) _ 25 ?hg (N:=6) ?hd (xs:=([]:List (List Int))) (inner:=[]) (ok:=fun _=>True) (okp:=fun _=>True) ?hr ?hp (fun _ hk=>hk) trivial (Below.refl _ _) (Nat.le_refl _) (by simp) ?_;(case hd=>rfl);(case hg=>rfl);(case hr=>first|(go_simp;done)|(go_simp;rfl));(case hp=>exact(Reps.none _ _));intro Av w8 Aj hb hg_ hnew_;clear hg_ hnew_;(first|rw[←Ag.out]at Aj|(simp only[Int.reduceToNat]at Aj;rw[←Ag.out]at Aj));have Ak:=Az.mk (Kd.S_lower Aj (bwZ bw_41));replace HB:=Az.mk (bwT bw_41 hb);clear hb Aj))
 go_ret
 exact⟨_,rq1,kS Ak.out,bw_41⟩
-- NOT PRINTED: function 3 (laws_FnPure)
end Go.Proofs.Ytbpnjlemjapnnaa.P
