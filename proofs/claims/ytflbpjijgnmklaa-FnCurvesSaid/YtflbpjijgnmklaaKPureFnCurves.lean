/- The second part of the same: it ends with the law's plain theorem. -/
import Derived.Test.YtflbpjijgnmklaaKPureFnCurvesA
namespace Go.Proofs.Ytflbpjijgnmklaa.L
open Go.RowKit Go.Proofs.Ytflbpjijgnmklaa.P Go.Proofs.Ytflbpjijgnmklaa.Help Go.Proofs.YtflbpjijgnmklaaW.PrintWords Go.Proofs.YtflbpjijgnmklaaW.PrintLast Go.Proofs.YtflbpjijgnmklaaW.PrintMore
set_option linter.unusedVariables false
set_option linter.unusedSimpArgs false
theorem offN_zero (x:List Int):offN x 0=0:=by cases x <;> rfl
theorem offN_succ:∀(x:List Int) (i:Nat) (h:i<x.length),offN x (i+1)=offN x i+x[i].toNat
 |[],i,h=>absurd h (by simp)
 |a :: r,0,h=>by simp[offN]
 |a :: r,i+1,h=>by
  have:=offN_succ r i (by simpa using h)
  show a.toNat+offN r (i+1)=a.toNat+offN r i+(r[i]'(by simpa using h)).toNat
  omega
theorem offN_le:∀(x:List Int) (i:Nat),(∀a∈x,a≤200)→offN x i≤200*i
 |_,0,_=>by simp[offN]
 |[],i+1,_=>by simp[offN]
 |a :: r,i+1,h=>by
  have h1:=offN_le r i (fun b hb=>h b (List.mem_cons_of_mem _ hb))
  have h2:=h a List.mem_cons_self
  show a.toNat+offN r i≤200*(i+1)
  omega
theorem offN_top:∀(x:List Int) (i:Nat),i≤x.length→offN x i≤offN x x.length
 |_,0,_=>by simp[offN]
 |[],i+1,h=>absurd h (by simp)
 |a :: r,i+1,h=>by
  have h1:=offN_top r i (by simpa using h)
  show a.toNat+offN r i≤a.toNat+offN r r.length
  omega
def NN (x:List Int):Nat:=offN x x.length
/-- The number of a point of a side. -/
def pt (x:List Int) (s m:Int):Int:=(offN x (s.natAbs - 1):Int)+(if s>0 then m else crd x s - 1 - m)
/-- Fair coordinates. -/
structure Cx (t:List (List Int)) (x:List Int) (n:Int):Prop where
 ok:TriOk t n
 hx:(x.length:Int)=n
 hc:x.all co=true
 hf:∀r∈t,fairRow x r=true
theorem Cx.small {t:List (List Int)}{x:List Int}{n:Int} (C:Cx t x n):x.length≤9∧NN x≤1800:=by
 have h1:=C.hx
 have h2:=C.ok.n9
 have h3:=offN_le x x.length (fun a ha=>(all_co C.hc a ha).2)
 unfold NN
 omega
theorem crd_at {x:List Int}{s:Int} (h0:s≠0) (h1:s.natAbs≤x.length):crd x s=x[s.natAbs - 1]'om:=by
 unfold crd
 rw[show((s.natAbs:Int) - 1)=((s.natAbs - 1:Nat):Int) by omega,rd_nat]
theorem pt_bd {x:List Int} (hc:x.all co=true){s:Int} (h0:s≠0) (h1:s.natAbs≤x.length){m:Int} (m0:0≤m) (m1:m<crd x s):0≤pt x s m∧pt x s m<(NN x:Int):=by
 have hl:s.natAbs - 1<x.length:=by omega
 have e:=offN_succ x (s.natAbs - 1) hl
 have e2:=offN_top x (s.natAbs - 1+1) om
 have c:=all_co hc x[s.natAbs - 1] (List.getElem_mem hl)
 rw[crd_at h0 h1]at m1
 unfold pt NN
 rw[crd_at h0 h1]
 split <;> omega
def offL (x:List Int):List Int:=(List.range x.length).map fun (i:Nat)=>(offN x i:Int)
theorem offL_len (x:List Int):(offL x).length=x.length:=by simp[offL]
theorem offL_get (x:List Int){i:Nat} (h:i<(offL x).length):(offL x)[i]=(offN x i:Int):=by simp[offL]
theorem first_l0 {x:List Int} (hl:x.length≤9) (hc:x.all co=true):∀(d k i:Nat),i+d=x.length→d<k→fM.l0 k x ((offL x).take i) (offN x i:Int) (i:Int)=some (offL x,(NN x:Int))
 |0,k,i,hi,hk=>by
  obtain⟨k,rfl⟩:=sk k
  simp only[fM.l0]
  rw[ig om,List.take_of_length_le (by rw[offL_len];omega),show i=x.length by omega]
  rfl
 |d+1,k,i,hi,hk=>by
  obtain⟨k,rfl⟩:=sk k
  have hlt:i<x.length:=by omega
  have h2:i<(offL x).length:=by rw[offL_len];omega
  have e:=offN_succ x i hlt
  have b:=offN_le x i (fun a ha=>(all_co hc a ha).2)
  have c:=all_co hc x[i] (List.getElem_mem hlt)
  have ih:=first_l0 hl hc d k (i+1) om om
  have e3:(offN x i:Int)+x[i]=(offN x (i+1):Int):=by omega
  simp only[fM.l0]
  rw[ip om,ip om,ip (by rw[List.length_take];omega),rd_nat x i hlt,e3,w_id (a:=(offN x (i+1):Int)) om om,w_id (a:=(i:Int)+1) om om,show((i:Int)+1)=((i+1:Nat):Int) by omega, ←offL_get x h2, ←List.take_succ_eq_append_getElem h2]
  exact ih
theorem curvesPt_f {x:List Int} (hl:x.length≤9) (hc:x.all co=true){s:Int} (h0:s≠0) (h1:s.natAbs≤x.length){m:Int} (m0: -1000≤m) (m1:m≤1000):curvesPt.f (offL x) x s m=some (pt x s m):=by
 have he:s.natAbs - 1<x.length:=by omega
 have h2:s.natAbs - 1<(offL x).length:=by rw[offL_len];omega
 have b:=offN_le x (s.natAbs - 1) (fun a ha=>(all_co hc a ha).2)
 have c:=all_co hc x[s.natAbs - 1] (List.getElem_mem he)
 have ec:((s.natAbs:Int) - 1)=((s.natAbs - 1:Nat):Int):=by omega
 unfold curvesPt.f pt
 rw[size_eq om om,Option.bind_some,w_id (a:=(s.natAbs:Int) - 1) om om,ec,crd_at h0 h1]
 rw[rd_nat (offL x) _ h2,offL_get x h2,rd_nat x _ he]
 by_cases hs:s<0
 ·rw[ip hs,ip om,ip om,ip om,ig om,w_id (a:=x[s.natAbs - 1] - 1) om om,w_id (a:=x[s.natAbs - 1] - 1 - m) om om,w_id om om]
 ·rw[ig hs,ip om,ip om,ip om,w_id om om]
theorem specPt_l0 {x:List Int} (hl:x.length≤9) (hc:x.all co=true){s:Int} (h0:s≠0) (h1:s.natAbs≤x.length){m:Int} (m0: -1000≤m) (m1:m≤1000):∀(d k i:Nat),i+d=s.natAbs - 1→d<k→gR.l0 k x s m (offN x i:Int) (s.natAbs:Int) (i:Int)=some (pt x s m)
 |0,k,i,hi,hk=>by
  obtain⟨k,rfl⟩:=sk k
  have he:i<x.length:=by omega
  have b:=offN_le x i (fun a ha=>(all_co hc a ha).2)
  have c:=all_co hc x[i] (List.getElem_mem he)
  have ei:s.natAbs - 1=i:=by omega
  have ec:((s.natAbs:Int) - 1)=(i:Int):=by omega
  have ecr:crd x s=x[i]:=by
   rw[crd_at h0 h1]
   congr 1
  unfold pt
  rw[ecr,ei]
  simp only[gR.l0]
  rw[w_id (a:=(s.natAbs:Int) - 1) om om,ec,ig om,rd_nat x i he]
  by_cases hs:s>0
  ·rw[ip hs,ip hs,w_id om om]
  ·rw[ig hs,ig hs,ip om,ip om,w_id (a:=(offN x i:Int)+x[i]) om om,w_id (a:=(offN x i:Int)+x[i] - 1) om om,w_id om om]
   congr 1
   omega
 |d+1,k,i,hi,hk=>by
  obtain⟨k,rfl⟩:=sk k
  have he:i<x.length:=by omega
  have e:=offN_succ x i he
  have b:=offN_le x i (fun a ha=>(all_co hc a ha).2)
  have c:=all_co hc x[i] (List.getElem_mem he)
  have e3:(offN x i:Int)+x[i]=(offN x (i+1):Int):=by omega
  have ih:=specPt_l0 hl hc h0 h1 m0 m1 d k (i+1) om om
  conv=>lhs;simp only[gR.l0]
  rw[w_id (a:=(s.natAbs:Int) - 1) om om,ip om,ip om,ip om,rd_nat x i he,e3,w_id (a:=(offN x (i+1):Int)) om om,w_id (a:=(i:Int)+1) om om,show((i:Int)+1)=((i+1:Nat):Int) by omega]
  exact ih
theorem specPt_f {x:List Int} (hl:x.length≤9) (hc:x.all co=true){s:Int} (h0:s≠0) (h1:s.natAbs≤x.length){m:Int} (m0: -1000≤m) (m1:m≤1000) (k:Nat) (hk:20<k):gR.f k x s m=some (pt x s m):=by
 unfold gR.f
 rw[l3Abs_eq om om,Option.bind_some]
 have:=specPt_l0 hl hc h0 h1 m0 m1 (s.natAbs - 1) k 0 om om
 rw[offN_zero]at this
 exact this
def allQ (f:Nat→List (Int × Int)):Nat→Nat→List (Int × Int)
 |0,_=>[]
 |d+1,m=>f m ++ allQ f d (m+1)
def prC (t:List (List Int)) (x:List Int) (i j m:Nat):List (Int × Int):=[(pt x (sideOf t i j) (crd x (sideOf t i j) - 1 - (m:Int)),pt x (sideOf t i (j+1)) (m:Int))]
def nc (t:List (List Int)) (x:List Int) (i j:Nat):Nat:=(tw t x i j / 2).toNat
def prIJ (t:List (List Int)) (x:List Int) (i j:Nat):List (Int × Int):=allQ (prC t x i j) (nc t x i j) 0
theorem Cx.arc {t:List (List Int)}{x:List Int}{n:Int} (C:Cx t x n){i:Nat} (hi:i<t.length) (j:Nat) (hj:j<3):tw t x i j / 2=(nc t x i j:Int)∧0≤tw t x i j∧(nc t x i j:Int)≤crd x (sideOf t i j)∧(nc t x i j:Int)≤crd x (sideOf t i (j+1))∧crd x (sideOf t i j)≤200∧crd x (sideOf t i (j+1))≤200:=by
 obtain⟨a,b,c,e,_⟩:=C.ok.i64 (List.getElem_mem hi)
 have A:=crd_bd C.hc a
 have B:=crd_bd C.hc b
 have D:=crd_bd C.hc c
 have hf2:decide ((crd x a+crd x b+crd x c) % 2=0∧crd x a≤crd x b+crd x c∧crd x b≤crd x a+crd x c∧crd x c≤crd x a+crd x b)=true:=by
  have:=C.hf t[i] (List.getElem_mem hi)
  rw[e]at this
  exact this
 rw[decide_eq_true_iff]at hf2
 obtain⟨s0,s1,s2,s3,s4⟩:=sideOf_eq hi e
 unfold nc tw
 match j,hj with
 |0,_=>rw[s0,s1,s2];omega
 |1,_=>rw[s1,s2,s3];omega
 |2,_=>rw[s2,s3,s4];omega
theorem Cx.side {t:List (List Int)}{x:List Int}{n:Int} (C:Cx t x n){i:Nat} (hi:i<t.length) (j:Nat):sideOf t i j≠0∧(sideOf t i j).natAbs≤x.length:=by
 have h:=sideOf_in C.ok hi j
 have h2:=C.hx
 omega
theorem num_c {t:List (List Int)}{x:List Int}{n:Int} (C:Cx t x n){i:Nat} (hi:i<t.length) (j:Nat):gF.f (sideOf t i j)=some ((sideOf t i j).natAbs:Int)∧gP.f (sideOf t i j)=some ((sideOf t i j).natAbs:Int):=by
 have hs:=sideOf_in C.ok hi j
 have n9:=C.ok.n9
 exact⟨l3Abs_eq om om,size_eq om om⟩
theorem im_l3 {t:List (List Int)}{x:List Int}{n:Int} (C:Cx t x n){i:Nat} (hi:i<t.length){j:Nat} (hj:j<3):∀(d k m:Nat) (up:List Int) (ps:List (Int × Int)),m+d=nc t x i j→4000+d<k→UF.Stands up (NN x:Int) ps→
  ∃ys,fM.l3 k t x (offL x) up (i:Int) (j:Int) (sideOf t i j) (sideOf t i (j+1)) (nc t x i j:Int) (m:Int)=fM.l2 (k - d - 1) t x (offL x) ys (i:Int) ((j+1:Nat):Int)∧UF.Stands ys (NN x:Int) (ps ++ allQ (prC t x i j) d m)
 |0,k,m,up,ps,hm,hk,S=>by
  obtain⟨k,rfl⟩:=sk k
  refine⟨up,?_,by rw[allQ,List.append_nil];exact S⟩
  conv=>lhs;simp only[fM.l3]
  rw[ig om,w_id (a:=(j:Int)+1) om om,show((j:Int)+1)=((j+1:Nat):Int) by omega,show k+1 - 0 - 1=k by omega]
 |d+1,k,m,up,ps,hm,hk,S=>by
  obtain⟨k,rfl⟩:=sk k
  obtain⟨q1,q2,q3,q4,q5,q6⟩:=C.arc hi j hj
  obtain⟨z1,z2⟩:=C.side hi j
  obtain⟨y1,y2⟩:=C.side hi (j+1)
  obtain⟨l9,n18⟩:=C.small
  have hl:=S.len
  have pa:=pt_bd C.hc z1 z2 (m:=crd x (sideOf t i j) - 1 - (m:Int)) om om
  have pb:=pt_bd C.hc y1 y2 (m:=(m:Int)) om om
  obtain⟨ys,e1,S1⟩:=join_f S pa pb (m:=k) om
  obtain⟨zs,e2,S2⟩:=im_l3 C hi hj d k (m+1) ys _ om om S1
  refine⟨zs,?_,by rw[allQ];rw[List.append_assoc]at S2;exact S2⟩
  have er:rd x (((sideOf t i j).natAbs:Int) - 1)=crd x (sideOf t i j):=rfl
  conv=>lhs;simp only[fM.l3]
  rw[ip om,(num_c C hi j).2,Option.bind_some,w_id (a:=((sideOf t i j).natAbs:Int) - 1) om om,ip om,ip om,er,w_id (a:=crd x (sideOf t i j) - 1) om om,w_id (a:=crd x (sideOf t i j) - 1 - (m:Int)) om om,curvesPt_f l9 C.hc z1 z2 om om,Option.bind_some,curvesPt_f l9 C.hc y1 y2 om om,Option.bind_some,e1,Option.bind_some,w_id (a:=(m:Int)+1) om om,show((m:Int)+1)=((m+1:Nat):Int) by omega,show k+1 - (d+1) - 1=k - d - 1 by omega]
  exact e2
theorem im_l2 {t:List (List Int)}{x:List Int}{n:Int} (C:Cx t x n){i:Nat} (hi:i<t.length):∀(d k j:Nat) (up:List Int) (ps:List (Int × Int)),j+d=3→5000+210*d<k→UF.Stands up (NN x:Int) ps→
  ∃ys k',k≤k'+210*d+1∧fM.l2 k t x (offL x) up (i:Int) (j:Int)=fM.l1 k' t x (offL x) ys ((i+1:Nat):Int)∧UF.Stands ys (NN x:Int) (ps ++ rowG (prIJ t x) i d j)
 |0,k,j,up,ps,hj,hk,S=>by
  obtain⟨k,rfl⟩:=sk k
  have hs:=C.ok.short
  refine⟨up,k,by omega,?_,by rw[rowG,List.append_nil];exact S⟩
  conv=>lhs;simp only[fM.l2]
  rw[ig om,w_id (a:=(i:Int)+1) om om,show((i:Int)+1)=((i+1:Nat):Int) by omega]
 |d+1,k,j,up,ps,hj,hk,S=>by
  obtain⟨k,rfl⟩:=sk k
  have hj3:j<3:=by omega
  obtain⟨q1,q2,q3,q4,q5,q6⟩:=C.arc hi j hj3
  have h3:(rd_L1 t (i:Int)).length=3:=by rw[rdL_nat t i hi];exact C.ok.three hi
  have hr:=rd_at C.ok hi hj3
  have hs:=rd_side C.ok hi (j+1)
  have ha:=arcs_eq C.ok C.hx C.hc hi (C.hf _ (List.getElem_mem hi)) j hj3
  obtain⟨ys,e1,S1⟩:=im_l3 C hi hj3 (nc t x i j) k 0 up ps om om S
  obtain⟨zs,k',hk',e2,S2⟩:=im_l2 C hi d (k - nc t x i j - 1) (j+1) ys _ om om S1
  have tm:0≤Int.tmod ((j+1:Nat):Int) 3∧Int.tmod ((j+1:Nat):Int) 3<3:=by rw[Int.tmod_eq_emod_of_nonneg om];omega
  refine⟨zs,k',by omega,?_,by rw[rowG];rw[List.append_assoc]at S2;exact S2⟩
  conv=>lhs;simp only[fM.l2]
  rw[h3,w_id (a:=(j:Int)+1) om om,show((j:Int)+1)=((j+1:Nat):Int) by omega,ip om,ip om,ip om,ip tm.1,ip (show Int.tmod ((j+1:Nat):Int) 3<((3:Nat):Int)from tm.2),ha,Option.bind_some,hr,hs,q1]
  exact e1.trans e2
theorem im_l1 {t:List (List Int)}{x:List Int}{n:Int} (C:Cx t x n):∀(d k i:Nat) (up:List Int) (ps:List (Int × Int)),i+d=t.length→6000+700*d<k→UF.Stands up (NN x:Int) ps→
  ∃ys,fM.l1 k t x (offL x) up (i:Int)=some ys∧UF.Stands ys (NN x:Int) (ps ++ allG (prIJ t x) d i)
 |0,k,i,up,ps,hi,hk,S=>by
  obtain⟨k,rfl⟩:=sk k
  refine⟨up,?_,by rw[allG,List.append_nil];exact S⟩
  conv=>lhs;simp only[fM.l1]
  rw[ig om]
 |d+1,k,i,up,ps,hi,hk,S=>by
  obtain⟨k,rfl⟩:=sk k
  obtain⟨ys,k',hk',e1,S1⟩:=im_l2 C (show i<t.length by omega) 3 k 0 up ps om (Nat.lt_of_lt_of_le (by decide:5000+210*3<5700) om) S
  obtain⟨zs,e2,S2⟩:=im_l1 C d k' (i+1) ys _ om om S1
  refine⟨zs,?_,by rw[allG];rw[List.append_assoc]at S2;exact S2⟩
  conv=>lhs;simp only[fM.l1]
  rw[ip om,ip om]
  exact e1.trans e2
theorem im_f {t:List (List Int)}{x:List Int}{n:Int} (C:Cx t x n) (k:Nat) (hk:20000<k):∃ys,fM.f k t x=some ys∧UF.Stands ys (NN x:Int) (allG (prIJ t x) t.length 0):=by
 obtain⟨l9,n18⟩:=C.small
 have hs:=C.ok.short
 obtain⟨ys,e,S⟩:=im_l1 C t.length k 0 _ _ om om (UF.alone_stands (NN x))
 rw[List.nil_append]at S
 refine⟨ys,?_,S⟩
 have e0:fM.l0 k x [] 0 0=some (offL x,(NN x:Int)):=by
  have:=first_l0 l9 C.hc x.length k 0 om om
  rw[offN_zero,List.take_zero]at this
  exact this
 unfold fM.f
 rw[e0,Option.bind_some]
 dsimp only
 rw[newJoiner_f (NN x) om k om,Option.bind_some]
 exact e
theorem sp_l4 {t:List (List Int)}{x:List Int}{n:Int} (C:Cx t x n){i:Nat} (hi:i<t.length){j:Nat} (hj:j<3):∀(d k m:Nat) (up:List Int) (ps:List (Int × Int)),m+d=nc t x i j→4000+d<k→UF.Stands up (NN x:Int) ps→
  ∃ys,fE.l4 k t x up (i:Int) (j:Int) (sideOf t i j) (sideOf t i (j+1)) (m:Int)=fE.l3 (k - d - 1) t x ys (i:Int) ((j+1:Nat):Int)∧UF.Stands ys (NN x:Int) (ps ++ allQ (prC t x i j) d m)
 |0,k,m,up,ps,hm,hk,S=>by
  obtain⟨k,rfl⟩:=sk k
  obtain⟨q1,q2,q3,q4,q5,q6⟩:=C.arc hi j hj
  refine⟨up,?_,by rw[allQ,List.append_nil];exact S⟩
  conv=>lhs;simp only[fE.l4]
  rw[twice_tw C.ok C.hx C.hc hi j hj,Option.bind_some,Int.tdiv_eq_ediv_of_nonneg q2,q1,w_id (a:=(nc t x i j:Int)) om om,ig om,w_id (a:=(j:Int)+1) om om,show((j:Int)+1)=((j+1:Nat):Int) by omega,show k+1 - 0 - 1=k by omega]
 |d+1,k,m,up,ps,hm,hk,S=>by
  obtain⟨k,rfl⟩:=sk k
  obtain⟨q1,q2,q3,q4,q5,q6⟩:=C.arc hi j hj
  obtain⟨z1,z2⟩:=C.side hi j
  obtain⟨y1,y2⟩:=C.side hi (j+1)
  obtain⟨l9,n18⟩:=C.small
  have hl:=S.len
  have pa:=pt_bd C.hc z1 z2 (m:=crd x (sideOf t i j) - 1 - (m:Int)) om om
  have pb:=pt_bd C.hc y1 y2 (m:=(m:Int)) om om
  have ra:=S.ok.rt pa.1 om
  have rb:=S.ok.rt pb.1 om
  have ba:=S.ok.bd ra pa.1 om
  have S1:=(S.join pa pb ra rb).1
  obtain⟨zs,e2,S2⟩:=sp_l4 C hi hj d k (m+1) _ _ om om S1
  refine⟨zs,?_,by rw[allQ];rw[List.append_assoc]at S2;exact S2⟩
  have er:rd x (((sideOf t i j).natAbs:Int) - 1)=crd x (sideOf t i j):=rfl
  conv=>lhs;simp only[fE.l4]
  rw[twice_tw C.ok C.hx C.hc hi j hj,Option.bind_some,Int.tdiv_eq_ediv_of_nonneg q2,q1,w_id (a:=(nc t x i j:Int)) om om,ip om,(num_c C hi j).1,Option.bind_some,w_id (a:=((sideOf t i j).natAbs:Int) - 1) om om,ip om,ip om,er,w_id (a:=crd x (sideOf t i j) - 1) om om,w_id (a:=crd x (sideOf t i j) - 1 - (m:Int)) om om,specPt_f l9 C.hc z1 z2 om om k om,Option.bind_some,find3_f S.ok pa.1 om om,Option.bind_some,specPt_f l9 C.hc y1 y2 om om k om,Option.bind_some,find3_f S.ok pb.1 om om,Option.bind_some,ip ba.1,ip ba.2,w_id (a:=(m:Int)+1) om om,show((m:Int)+1)=((m+1:Nat):Int) by omega,show k+1 - (d+1) - 1=k - d - 1 by omega]
  exact e2
theorem sp_l3 {t:List (List Int)}{x:List Int}{n:Int} (C:Cx t x n){i:Nat} (hi:i<t.length):∀(d k j:Nat) (up:List Int) (ps:List (Int × Int)),j+d=3→5000+210*d<k→UF.Stands up (NN x:Int) ps→
  ∃ys k',k≤k'+210*d+1∧fE.l3 k t x up (i:Int) (j:Int)=fE.l2 k' t x ys ((i+1:Nat):Int)∧UF.Stands ys (NN x:Int) (ps ++ rowG (prIJ t x) i d j)
 |0,k,j,up,ps,hj,hk,S=>by
  obtain⟨k,rfl⟩:=sk k
  have hs:=C.ok.short
  refine⟨up,k,by omega,?_,by rw[rowG,List.append_nil];exact S⟩
  conv=>lhs;simp only[fE.l3]
  rw[ig om,w_id (a:=(i:Int)+1) om om,show((i:Int)+1)=((i+1:Nat):Int) by omega]
 |d+1,k,j,up,ps,hj,hk,S=>by
  obtain⟨k,rfl⟩:=sk k
  have hj3:j<3:=by omega
  obtain⟨q1,q2,q3,q4,q5,q6⟩:=C.arc hi j hj3
  have h3:(rd_L1 t (i:Int)).length=3:=by rw[rdL_nat t i hi];exact C.ok.three hi
  have hr:=rd_at C.ok hi hj3
  have hs:=rd_side C.ok hi (j+1)
  obtain⟨ys,e1,S1⟩:=sp_l4 C hi hj3 (nc t x i j) k 0 up ps om om S
  obtain⟨zs,k',hk',e2,S2⟩:=sp_l3 C hi d (k - nc t x i j - 1) (j+1) ys _ om om S1
  have tm:0≤Int.tmod ((j+1:Nat):Int) 3∧Int.tmod ((j+1:Nat):Int) 3<3:=by rw[Int.tmod_eq_emod_of_nonneg om];omega
  refine⟨zs,k',by omega,?_,by rw[rowG];rw[List.append_assoc]at S2;exact S2⟩
  conv=>lhs;simp only[fE.l3]
  rw[h3,w_id (a:=(j:Int)+1) om om,show((j:Int)+1)=((j+1:Nat):Int) by omega,ip om,ip om,ip om,ip om,ip om,ip tm.1,ip (show Int.tmod ((j+1:Nat):Int) 3<((3:Nat):Int)from tm.2),hr,hs]
  exact e1.trans e2
theorem sp_l2 {t:List (List Int)}{x:List Int}{n:Int} (C:Cx t x n):∀(d k i:Nat) (up:List Int) (ps:List (Int × Int)),i+d=t.length→6000+700*d<k→UF.Stands up (NN x:Int) ps→
  ∃ys,fE.l2 k t x up (i:Int)=some ys∧UF.Stands ys (NN x:Int) (ps ++ allG (prIJ t x) d i)
 |0,k,i,up,ps,hi,hk,S=>by
  obtain⟨k,rfl⟩:=sk k
  refine⟨up,?_,by rw[allG,List.append_nil];exact S⟩
  conv=>lhs;simp only[fE.l2]
  rw[ig om]
 |d+1,k,i,up,ps,hi,hk,S=>by
  obtain⟨k,rfl⟩:=sk k
  obtain⟨ys,k',hk',e1,S1⟩:=sp_l3 C (show i<t.length by omega) 3 k 0 up ps om (Nat.lt_of_lt_of_le (by decide:5000+210*3<5700) om) S
  obtain⟨zs,e2,S2⟩:=sp_l2 C d k' (i+1) ys _ om om S1
  refine⟨zs,?_,by rw[allG];rw[List.append_assoc]at S2;exact S2⟩
  conv=>lhs;simp only[fE.l2]
  rw[ip om]
  exact e1.trans e2
theorem sp_b1 {t:List (List Int)}{x:List Int} (hl:x.length≤9) (hc:x.all co=true){i:Nat} (hi:i<x.length):∀(d k q:Nat),q+d=x[i].toNat→d<k→fE.l1 k t x (UF.alone (offN x i+q)) (i:Int) (q:Int)=fE.l0 (k - d - 1) t x (UF.alone (offN x (i+1))) ((i+1:Nat):Int)
 |0,k,q,hq,hk=>by
  obtain⟨k,rfl⟩:=sk k
  have e:=offN_succ x i hi
  have c:=all_co hc x[i] (List.getElem_mem hi)
  conv=>lhs;simp only[fE.l1]
  rw[ip om,ip om,rd_nat x i hi,ig om,w_id (a:=(i:Int)+1) om om,show((i:Int)+1)=((i+1:Nat):Int) by omega,show k+1 - 0 - 1=k by omega,show offN x i+q=offN x (i+1) by omega]
 |d+1,k,q,hq,hk=>by
  obtain⟨k,rfl⟩:=sk k
  have b:=offN_le x i (fun a ha=>(all_co hc a ha).2)
  have c:=all_co hc x[i] (List.getElem_mem hi)
  have ih:=sp_b1 (t:=t) hl hc hi d k (q+1) om om
  conv=>lhs;simp only[fE.l1]
  rw[ip om,ip om,rd_nat x i hi,ip om,alone_len,ip om, ←alone_succ,w_id (a:=(q:Int)+1) om om,show((q:Int)+1)=((q+1:Nat):Int) by omega,show k+1 - (d+1) - 1=k - d - 1 by omega]
  exact ih
theorem sp_b0 {t:List (List Int)}{x:List Int} (hl:x.length≤9) (hc:x.all co=true):∀(d k i:Nat),i+d=x.length→205*d+1<k→∃k',k≤k'+205*d+1∧fE.l0 k t x (UF.alone (offN x i)) (i:Int)=fE.l2 k' t x (UF.alone (NN x)) 0
 |0,k,i,hi,hk=>by
  obtain⟨k,rfl⟩:=sk k
  refine⟨k,by omega,?_⟩
  conv=>lhs;simp only[fE.l0]
  rw[ig om,show i=x.length by omega]
  rfl
 |d+1,k,i,hi,hk=>by
  obtain⟨k,rfl⟩:=sk k
  have hlt:i<x.length:=by omega
  have c:=all_co hc x[i] (List.getElem_mem hlt)
  have e1:=sp_b1 (t:=t) hl hc hlt x[i].toNat k 0 om om
  obtain⟨k',hk',e2⟩:=sp_b0 (t:=t) hl hc d (k - x[i].toNat - 1) (i+1) om om
  refine⟨k',by omega,?_⟩
  conv=>lhs;simp only[fE.l0]
  rw[ip om]
  exact e1.trans e2
theorem sp_f {t:List (List Int)}{x:List Int}{n:Int} (C:Cx t x n) (k:Nat) (hk:20000<k):∃ys,fE.f k t x=some ys∧UF.Stands ys (NN x:Int) (allG (prIJ t x) t.length 0):=by
 obtain⟨l9,n18⟩:=C.small
 have hs:=C.ok.short
 obtain⟨k',hk',e0⟩:=sp_b0 (t:=t) l9 C.hc x.length k 0 om om
 rw[offN_zero]at e0
 obtain⟨ys,e,S⟩:=sp_l2 C t.length k' 0 _ _ om om (UF.alone_stands (NN x))
 rw[List.nil_append]at S
 refine⟨ys,?_,S⟩
 unfold fE.f
 exact e0.trans e
end Go.Proofs.Ytflbpjijgnmklaa.L

namespace Go.Proofs.Ytflbpjijgnmklaa.Cyc
open Go.Proofs.YtflbpjijgnmklaaW.PrintWords (om sk ip ig)
open Go.Proofs.Ytflbpjijgnmklaa.UF
set_option linter.unusedVariables false
set_option linter.unusedSimpArgs false

/-- From x by f through the numbers of a list to y. -/
def Walk (f:Int→Int):Int→List Int→Int→Prop
 |x,[],y=>f x=y
 |x,z :: l,y=>f x=z∧Walk f z l y
theorem Walk.append {f:Int→Int}{b y:Int}{m:List Int}:∀ {l:List Int}{x:Int},Walk f x (l ++ b :: m) y↔Walk f x l b∧Walk f b m y
 |[],x=>by simp[Walk]
 |z :: l,x=>by
  have:=Walk.append (f:=f) (b:=b) (y:=y) (m:=m) (l:=l) (x:=z)
  simp[Walk,this,and_assoc]
theorem Walk.from {f g:Int→Int}{y:Int}:∀ {l:List Int}{a c:Int},Walk f a l y→g c=f a→(∀z∈l,g z=f z)→Walk g c l y
 |[],a,c,h,e,_=>by
  simp only[Walk]at h ⊢
  rw[e,h]
 |z :: l,a,c,h,e,he=>by
  simp only[Walk]at h ⊢
  exact⟨by rw[e,h.1],Walk.from h.2 (he z (by simp)) (fun w hw=>he w (by simp[hw]))⟩
theorem Walk.congr {f g:Int→Int}{y a:Int}{l:List Int} (h:Walk f a l y) (he:∀z∈a :: l,g z=f z):Walk g a l y:=h.from (he a (by simp)) (fun z hz=>he z (by simp[hz]))

/-- The numbers of a cycle (its head, the others). -/
def el (c:Int × List Int):List Int:=c.1 :: c.2
/-- All numbers of D, each in one cycle of f. -/
structure Dec (f:Int→Int) (D:List Int) (L:List (Int × List Int)):Prop where
 all:(L.flatMap el).Perm D
 cyc:∀c∈L,Walk f c.1 c.2 c.1
theorem rotate {f:Int→Int}{h a:Int}{t:List Int} (w:Walk f h t h) (ha:a∈h :: t):∃l,Walk f a l a∧(a :: l).Perm (h :: t):=by
 rcases List.mem_cons.1 ha with rfl|hm
 ·exact⟨t,w,List.Perm.refl _⟩
 ·obtain⟨t1,t2,rfl⟩:=List.append_of_mem hm
  obtain⟨w1,w2⟩:=Walk.append.1 w
  refine⟨t2 ++ h :: t1,Walk.append.2 ⟨w2,w1⟩,?_⟩
  have e1:(a :: (t2 ++ h :: t1)).Perm ((h :: t1) ++ (a :: t2)):=by
   have:=List.perm_append_comm (l₁:=a :: t2) (l₂:=h :: t1)
   simpa using this
  simpa using e1
/-- A cycle with this number as its head, the others behind it. -/
theorem Dec.pick {f:Int→Int}{D:List Int}{L:List (Int × List Int)} (h:Dec f D L){a:Int} (ha:a∈D):∃l R,Dec f D ((a,l) :: R)∧L.length=R.length+1∧(∀c∈R,c∈L)∧∃c∈L,∀x,x∈a :: l→x∈el c:=by
 have h1:a∈L.flatMap el:=h.all.mem_iff.2 ha
 obtain⟨c,hc,hac⟩:=List.mem_flatMap.1 h1
 obtain⟨s,t,rfl⟩:=List.append_of_mem hc
 obtain⟨l,wl,pl⟩:=rotate (h.cyc c hc) hac
 refine⟨l,s ++ t,⟨?_,?_⟩,by simp;omega,fun d hd=>?_,c,hc,fun x hx=>pl.mem_iff.1 hx⟩
 ·refine List.Perm.trans ?_ h.all
  have e1:(s ++ c :: t).flatMap el=s.flatMap el ++ (el c ++ t.flatMap el):=by simp
  have e2:((a,l) :: (s ++ t)).flatMap el=(a :: l) ++ (s.flatMap el ++ t.flatMap el):=by simp[el]
  rw[e1,e2]
  refine(List.Perm.append_right _ pl).trans ?_
  exact List.perm_append_comm_assoc _ _ _
 ·intro d hd
  rcases List.mem_cons.1 hd with rfl|hd
  ·exact wl
  ·exact h.cyc d (by rcases List.mem_append.1 hd with q|q <;> simp[q])
 ·rcases List.mem_append.1 hd with q|q <;> simp[q]
/-- f behind the exchange of a and b. -/
def sw (f:Int→Int) (a b:Int):Int→Int:=fun x=>if x=a then f b else if x=b then f a else f x
theorem sw_a (f:Int→Int) (a b:Int):sw f a b a=f b:=by simp[sw]
theorem sw_b (f:Int→Int) (a b:Int):sw f a b b=f a:=by
 by_cases h:b=a
 ·subst h;simp[sw]
 ·simp[sw,h]
theorem sw_o (f:Int→Int){a b x:Int} (h:x≠a) (h2:x≠b):sw f a b x=f x:=by simp[sw,h,h2]
/-- One transposition: one cycle more where the two stood in one, one less where they did not. -/
theorem step {f:Int→Int}{D:List Int}{L:List (Int × List Int)} (hD:D.Nodup) (h:Dec f D L){a b:Int} (ha:a∈D) (hb:b∈D) (hab:a≠b):
  ∃L',Dec (sw f a b) D L'∧((L'.length=L.length+1∧∃c∈L,a∈el c∧b∈el c)∨L'.length+1=L.length):=by
 obtain⟨l,R,d,hl,_,c0,hc0,hsub⟩:=h.pick ha
 have hn:(((a,l) :: R).flatMap el).Nodup:=d.all.nodup_iff.2 hD
 have e0:((a,l) :: R).flatMap el=(a :: l) ++ R.flatMap el:=by simp[el]
 rw[e0]at hn
 obtain⟨n1,n2,n3⟩:=List.nodup_append.1 hn
 have wl:=d.cyc (a,l) (by simp)
 by_cases hbl:b∈l
 ·obtain⟨l1,l2,rfl⟩:=List.append_of_mem hbl
  obtain⟨w1,w2⟩:=Walk.append.1 wl
  have na:∀x∈l1 ++ l2,x≠a∧x≠b:=by
   intro x hx
   have q1:=List.nodup_cons.1 n1
   have q2:=List.nodup_append.1 q1.2
   have q3:=List.nodup_cons.1 q2.2.1
   refine⟨fun e=>q1.1 (by subst e;rcases List.mem_append.1 hx with q|q <;> simp[q]),fun e=>?_⟩
   subst e
   rcases List.mem_append.1 hx with q|q
   ·exact q2.2.2 x q x (by simp) rfl
   ·exact q3.1 q
  refine⟨(a,l2) :: (b,l1) :: R,⟨?_,?_⟩, .inl ⟨by simp;omega,c0,hc0,hsub a (by simp),hsub b (by simp)⟩⟩
  ·refine List.Perm.trans ?_ d.all
   have e1:((a,l2) :: (b,l1) :: R).flatMap el=(a :: l2) ++ ((b :: l1) ++ R.flatMap el):=by simp[el]
   rw[e1,e0, ←List.append_assoc]
   refine List.Perm.append_right _ ?_
   refine List.Perm.cons a ?_
   exact(List.perm_append_comm (l₁:=l2) (l₂:=b :: l1)).trans (List.perm_middle (a:=b) (l₁:=l1) (l₂:=l2)).symm
  ·intro c hc
   rcases List.mem_cons.1 hc with rfl|hc
   ·exact w2.from (sw_a f a b) (fun z hz=>sw_o f (na z (by simp[hz])).1 (na z (by simp[hz])).2)
   ·rcases List.mem_cons.1 hc with rfl|hc
    ·exact w1.from (sw_b f a b) (fun z hz=>sw_o f (na z (by simp[hz])).1 (na z (by simp[hz])).2)
    ·refine(d.cyc c (by simp[hc])).congr fun z hz=>?_
     have hz':z∈R.flatMap el:=List.mem_flatMap.2 ⟨c,hc,hz⟩
     exact sw_o f (fun e=>n3 a (by simp) z hz' e.symm) (fun e=>n3 b (by simp) z hz' e.symm)
 ·have hb1:b∈R.flatMap el:=by
   have:=d.all.mem_iff.2 hb
   rw[e0]at this
   rcases List.mem_append.1 this with q|q
   ·rcases List.mem_cons.1 q with q|q
    ·exact absurd q.symm hab
    ·exact absurd q hbl
   ·exact q
  have dR:Dec f (R.flatMap el) R:=⟨List.Perm.refl _,fun c hc=>d.cyc c (by simp[hc])⟩
  obtain⟨m,R2,d2,hl2,hR2,_⟩:=dR.pick hb1
  have e2:((b,m) :: R2).flatMap el=(b :: m) ++ R2.flatMap el:=by simp[el]
  have wm:=d2.cyc (b,m) (by simp)
  have n2':(((b,m) :: R2).flatMap el).Nodup:=d2.all.nodup_iff.2 n2
  rw[e2]at n2'
  obtain⟨k1,k2,k3⟩:=List.nodup_append.1 n2'
  have inR:∀x,x∈b :: m∨x∈R2.flatMap el→x∈R.flatMap el:=fun x hx=>d2.all.mem_iff.1 (by rw[e2];exact List.mem_append.2 hx)
  refine⟨(a,m ++ b :: l) :: R2,⟨?_,?_⟩, .inr (by simp;omega)⟩
  ·refine List.Perm.trans ?_ d.all
   rw[e0]
   have e3:((a,m ++ b :: l) :: R2).flatMap el=(a :: (m ++ b :: l)) ++ R2.flatMap el:=by simp[el]
   rw[e3]
   have p1:((a :: l) ++ R.flatMap el).Perm ((a :: l) ++ ((b :: m) ++ R2.flatMap el)):=List.Perm.append_left _ (by rw[←e2];exact d2.all.symm)
   refine List.Perm.trans ?_ p1.symm
   rw[←List.append_assoc]
   refine List.Perm.append_right _ ?_
   refine List.Perm.cons a ?_
   have:=List.perm_middle (a:=b) (l₁:=m) (l₂:=l)
   refine this.trans ?_
   have q:(l ++ b :: m).Perm (b :: (l ++ m)):=List.perm_middle
   refine List.Perm.trans ?_ q.symm
   exact List.Perm.cons b List.perm_append_comm
  ·intro c hc
   rcases List.mem_cons.1 hc with rfl|hc
   ·refine Walk.append.2 ⟨wm.from (sw_a f a b) (fun z hz=>sw_o f (fun e=>?_) (fun e=>?_)),wl.from (sw_b f a b) (fun z hz=>sw_o f (fun e=>?_) (fun e=>?_))⟩
    ·exact n3 a (by simp) z (inR z (.inl (by simp[hz]))) e.symm
    ·subst e
     exact(List.nodup_cons.1 k1).1 hz
    ·subst e
     exact(List.nodup_cons.1 n1).1 hz
    ·subst e
     exact hbl hz
   ·refine(d2.cyc c (by simp[hc])).congr fun z hz=>?_
    have hz':z∈R2.flatMap el:=List.mem_flatMap.2 ⟨c,hc,hz⟩
    exact sw_o f (fun e=>n3 a (by simp) z (inR z (.inr hz')) e.symm) (fun e=>k3 b (by simp) z hz' e.symm)
theorem uniq {x:Int}{c d:Int × List Int}:∀ {L:List (Int × List Int)},(L.flatMap el).Nodup→c∈L→d∈L→x∈el c→x∈el d→c=d
 |[],_,hc,_,_,_=>by simp at hc
 |e :: R,hn,hc,hd,xc,xd=>by
  have hn':(el e ++ R.flatMap el).Nodup:=by simpa using hn
  obtain⟨n1,n2,n3⟩:=List.nodup_append.1 hn'
  rcases List.mem_cons.1 hc with e1|h1
  ·rcases List.mem_cons.1 hd with e2|h2
   ·rw[e1,e2]
   ·subst e1;exact absurd rfl (n3 x xc x (List.mem_flatMap.2 ⟨d,h2,xd⟩))
  ·rcases List.mem_cons.1 hd with e2|h2
   ·subst e2;exact absurd rfl (n3 x xd x (List.mem_flatMap.2 ⟨c,h1,xc⟩))
   ·exact uniq n2 h1 h2 xc xd
theorem nodup_of:∀ {L:List (Int × List Int)},(L.flatMap el).Nodup→L.Nodup
 |[],_=>by simp
 |e :: R,hn=>by
  have hn':(el e ++ R.flatMap el).Nodup:=by simpa using hn
  obtain⟨n1,n2,n3⟩:=List.nodup_append.1 hn'
  refine List.nodup_cons.2 ⟨fun he=>?_,nodup_of n2⟩
  exact n3 e.1 (by simp[el]) e.1 (List.mem_flatMap.2 ⟨e,he,by simp[el]⟩) rfl
/-- Two numbers of one cycle. -/
def In (L:List (Int × List Int)) (x y:Int):Prop:=∃c∈L,x∈el c∧y∈el c
theorem walk_rel {f:Int→Int} (R:Int→Int→Prop) (tr:∀ {x y z},R x y→R y z→R x z):∀ {l:List Int}{h y:Int},Walk f h l y→(∀z∈h :: l,R z (f z))→∀z∈l,R h z
 |[],h,y,w,hr,z,hz=>by simp at hz
 |a :: l,h,y,w,hr,z,hz=>by
  simp only[Walk]at w
  have h1:R h a:=by
   have:=hr h (by simp)
   rwa [w.1]at this
  rcases List.mem_cons.1 hz with rfl|hz
  ·exact h1
  ·exact tr h1 (walk_rel R tr w.2 (fun q hq=>hr q (by simp[List.mem_cons.1 hq])) z hz)
theorem in_rel {f:Int→Int}{D:List Int}{L:List (Int × List Int)} (d:Dec f D L) (R:Int→Int→Prop) (tr:∀ {x y z},R x y→R y z→R x z) (sy:∀ {x y},R x y→R y x) (rf:∀x∈D,R x x) (hr:∀x∈D,R x (f x)){x y:Int} (h:In L x y):R x y:=by
 obtain⟨c,hc,hx,hy⟩:=h
 have sub:∀z∈el c,z∈D:=fun z hz=>d.all.mem_iff.1 (List.mem_flatMap.2 ⟨c,hc,hz⟩)
 have w:=d.cyc c hc
 have key:∀z∈el c,R c.1 z:=by
  intro z hz
  rcases List.mem_cons.1 hz with rfl|hz'
  ·exact rf _ (sub _ (by simp[el]))
  ·exact walk_rel R tr w (fun q hq=>hr q (sub q hq)) z hz'
 exact tr (sy (key x hx)) (key y hy)
/-- As many cycles as classes. -/
theorem count {f:Int→Int}{D:List Int}{L:List (Int × List Int)}{up:List Int}{n:Int}{ps:List (Int × Int)} (hD:D.Nodup) (hm:∀x,x∈D↔0≤x∧x<n) (d:Dec f D L) (s:Stands up n ps)
  (h1:∀x∈D,Cls n ps x (f x)) (h2:∀i j,(i,j)∈ps→0≤i→i<n→0≤j→j<n→In L i j):(roots up).length=L.length:=by
 have hn:(L.flatMap el).Nodup:=d.all.nodup_iff.2 hD
 have hl:=s.len
 have cov:∀x,0≤x→x<n→∃c∈L,x∈el c:=fun x a b=>List.mem_flatMap.1 (d.all.mem_iff.2 ((hm x).2 ⟨a,b⟩))
 have toIn:∀ {i j},Cls n ps i j→In L i j:=by
  intro i j h
  induction h with
  |refl a b=>obtain⟨c,hc,hx⟩:=cov _ a b;exact⟨c,hc,hx,hx⟩
  |pair h a b c d=>exact h2 _ _ h a b c d
  |symm _ ih=>obtain⟨c,hc,q1,q2⟩:=ih;exact⟨c,hc,q2,q1⟩
  |trans _ _ ih1 ih2=>
   obtain⟨c,hc,q1,q2⟩:=ih1
   obtain⟨e,he,r1,r2⟩:=ih2
   obtain rfl:=uniq hn hc he q2 r1
   exact⟨c,hc,q1,r2⟩
 have toCls:∀ {i j},In L i j→Cls n ps i j:=fun h=>in_rel d (Cls n ps) (fun a b=> .trans a b) (fun a=> .symm a) (fun x hx=> .refl ((hm x).1 hx).1 ((hm x).1 hx).2) h1 h
 have hb:∀c∈L,0≤c.1∧c.1<n:=fun c hc=>(hm _).1 (d.all.mem_iff.1 (List.mem_flatMap.2 ⟨c,hc,by simp[el]⟩))
 have hnd:(L.map fun c=>(rt up c.1).toNat).Nodup:=by
  refine map_nodup _ (nodup_of hn) fun c e hc he q=>?_
  have bc:=hb c hc
  have be:=hb e he
  have m1:=s.ok.rt_mem bc.1 om
  have m2:=s.ok.rt_mem be.1 om
  have eq:rt up c.1=rt up e.1:=by rw[←m1.2, ←m2.2,q]
  obtain⟨g,hg,g1,g2⟩:=toIn ((s.same_iff bc be).1 eq)
  have e1:=uniq hn hc hg (by simp[el]:c.1∈el c) g1
  have e2:=uniq hn he hg (by simp[el]:e.1∈el e) g2
  rw[e1,e2]
 have hp:((L.map fun c=>(rt up c.1).toNat)).Perm (roots up):=by
  refine(List.perm_ext_iff_of_nodup hnd (roots_nodup up)).2 fun x=>⟨fun hx=>?_,fun hx=>?_⟩
  ·obtain⟨c,hc,rfl⟩:=List.mem_map.1 hx
   exact(s.ok.rt_mem (hb c hc).1 (by have:=(hb c hc).2;omega)).1
  ·obtain⟨x1,x2⟩:=mem_roots.1 hx
   obtain⟨c,hc,hxc⟩:=cov (x:Int) om om
   refine List.mem_map.2 ⟨c,hc,?_⟩
   have q:=(s.same_iff (hb c hc) ⟨by omega,by omega⟩).2 (toCls ⟨c,hc,by simp[el],hxc⟩)
   rw[q,rt_of (.here x2)]
   omega
 have:=hp.length_eq
 rw[List.length_map]at this
 exact this.symm
/-- f behind all these exchanges. -/
def sws (f:Int→Int):List (Int × Int)→Int→Int
 |[]=>f
 |p :: T=>sws (sw f p.1 p.2) T
theorem sws_other {x:Int}:∀ {T:List (Int × Int)}{f:Int→Int},(∀p∈T,x≠p.1∧x≠p.2)→sws f T x=f x
 |[],f,_=>rfl
 |p :: T,f,h=>by
  show sws (sw f p.1 p.2) T x=f x
  rw[sws_other (fun q hq=>h q (by simp[hq]))]
  exact sw_o f (h p (by simp)).1 (h p (by simp)).2
theorem sws_at:∀ {T:List (Int × Int)}{f:Int→Int},(T.flatMap fun p=>[p.1,p.2]).Nodup→∀p∈T,sws f T p.1=f p.2∧sws f T p.2=f p.1
 |[],f,_,p,hp=>by simp at hp
 |q :: T,f,hn,p,hp=>by
  have hn':([q.1,q.2] ++ T.flatMap fun p=>[p.1,p.2]).Nodup:=by simpa using hn
  obtain⟨n1,n2,n3⟩:=List.nodup_append.1 hn'
  have ne:∀p∈T,∀x∈[q.1,q.2],x≠p.1∧x≠p.2:=fun p hp x hx=>⟨n3 x hx p.1 (List.mem_flatMap.2 ⟨p,hp,by simp⟩),n3 x hx p.2 (List.mem_flatMap.2 ⟨p,hp,by simp⟩)⟩
  rcases List.mem_cons.1 hp with rfl|hp
  ·show sws (sw f p.1 p.2) T p.1=_∧sws (sw f p.1 p.2) T p.2=_
   rw[sws_other (fun r hr=>ne r hr p.1 (by simp)),sws_other (fun r hr=>ne r hr p.2 (by simp)),sw_a,sw_b]
   exact⟨rfl,rfl⟩
  ·have:=sws_at (f:=sw f q.1 q.2) n2 p hp
   show sws (sw f q.1 q.2) T p.1=_∧sws (sw f q.1 q.2) T p.2=_
   rw[this.1,this.2,sw_o f (ne p hp q.1 (by simp)).2.symm (ne p hp q.2 (by simp)).2.symm,sw_o f (ne p hp q.1 (by simp)).1.symm (ne p hp q.2 (by simp)).1.symm]
   exact⟨rfl,rfl⟩
theorem roots_down {up:List Int}{a b:Int} (ha:0≤a) (h1:a<up.length):(roots up).length≤(roots (up.set a.toNat b)).length+1:=by
 have h:∀x∈roots up,x∈a.toNat :: roots (up.set a.toNat b):=by
  intro x hx
  obtain⟨x1,x2⟩:=mem_roots.1 hx
  by_cases c:(x:Int)=a
  ·rw[←c];simp
  ·refine List.mem_cons_of_mem _ (mem_roots.2 ⟨by simpa using x1,?_⟩)
   rw[P_set ha h1 om,ig c,x2]
 exact List.Nodup.length_le_of_subset (roots_nodup up) h
/-- All exchanges, one behind the other. -/
theorem run {F:Nat} (face:Int→Int){D:List Int} (hD:D.Nodup) (hf:∀x∈D,0≤face x∧face x<(F:Int)):∀(T:List (Int × Int)) (f:Int→Int) (L:List (Int × List Int)) (up:List Int) (ps:List (Int × Int)) (k:Nat),
  (∀p∈T,p.1∈D∧p.2∈D∧p.1≠p.2)→Dec f D L→Stands up (F:Int) ps→(∀x∈D,Cls (F:Int) ps (face x) (face (f x)))→L.length+F≤k+2*(roots up).length→(L.length+F+k) % 2=0→
  ∃L' up',Dec (sws f T) D L'∧Stands up' (F:Int) (ps ++ T.map fun p=>(face p.1,face p.2))∧L'.length+F≤k+T.length+2*(roots up').length∧(L'.length+F+k+T.length) % 2=0
 |[],f,L,up,ps,k,_,d,s,_,hk,hp=>⟨L,up,d,by simpa using s,by simpa using hk,by simpa using hp⟩
 |(a,b) :: T,f,L,up,ps,k,hT,d,s,hc,hk,hp=>by
  obtain⟨ha,hb,hab⟩:=hT (a,b) (by simp)
  simp only at ha hb hab
  obtain⟨L1,d1,h1⟩:=step hD d ha hb hab
  have fa:=hf a ha
  have fb:=hf b hb
  have hl:=s.len
  have ra:=s.ok.rt fa.1 om
  have rb:=s.ok.rt fb.1 om
  have ba:=s.ok.bd ra fa.1 om
  have J:=(s.join fa fb ra rb).1
  have mono:∀ {i j},Cls (F:Int) ps i j→Cls (F:Int) (ps ++ [(face a,face b)]) i j:=fun h=>h.mono (fun p hp=>by simp[hp])
  have ab:Cls (F:Int) (ps ++ [(face a,face b)]) (face a) (face b):= .pair (by simp) fa.1 fa.2 fb.1 fb.2
  have hc1:∀x∈D,Cls (F:Int) (ps ++ [(face a,face b)]) (face x) (face (sw f a b x)):=by
   intro x hx
   by_cases e1:x=a
   ·subst e1
    rw[sw_a]
    exact ab.trans (mono (hc b hb))
   ·by_cases e2:x=b
    ·subst e2
     rw[sw_b]
     exact ab.symm.trans (mono (hc a ha))
    ·rw[sw_o f e1 e2]
     exact mono (hc x hx)
  have hdown:=roots_down (b:=rt up (face b)) ba.1 ba.2
  have hsame:In L a b→(roots up).length≤(roots (up.set (rt up (face a)).toNat (rt up (face b)))).length:=by
   intro hin
   have hcl:Cls (F:Int) ps (face a) (face b):=in_rel d (fun x y=>Cls (F:Int) ps (face x) (face y)) (fun a b=> .trans a b) (fun a=> .symm a) (fun x hx=> .refl (hf x hx).1 (hf x hx).2) hc hin
   refine roots_le s J (fun i=>i) (fun i a b=>⟨a,b⟩) (fun i j _ _ _ _ h=>?_)
   have:=Cls.map (p2:=ps) (n2:=(F:Int)) (fun i=>i) (fun i a b=>⟨a,b⟩) (fun i j hm a b c e=>by
    rcases List.mem_append.1 hm with q|q
    ·exact .pair q a b c e
    ·obtain⟨rfl,rfl⟩:=Prod.mk.inj (List.mem_singleton.1 q)
     exact hcl) h
   exact this
  have key:L1.length+F≤(k+1)+2*(roots (up.set (rt up (face a)).toNat (rt up (face b)))).length∧(L1.length+F+(k+1)) % 2=0:=by
   rcases h1 with ⟨e,hin⟩|e
   ·have:=hsame hin
    omega
   ·omega
  obtain⟨L2,up2,d2,s2,q1,q2⟩:=run face hD hf T (sw f a b) L1 _ _ (k+1) (fun p hp=>hT p (by simp[hp])) d1 J hc1 key.1 key.2
  refine⟨L2,up2,d2,by simpa using s2,?_,?_⟩
  ·rw[List.length_cons];omega
  ·rw[List.length_cons]
   have e:L2.length+F+k+(T.length+1)=L2.length+F+(k+1)+T.length:=by omega
   rw[e];exact q2
/-- The next corner of a triangle; the triangle of a corner. -/
def next (x:Int):Int:=if x % 3=2 then x - 2 else x+1
theorem alone_three (F:Nat):alone (3*(F+1))=alone (3*F) ++ [3*(F:Int),3*(F:Int)+1,3*(F:Int)+2]:=by
 unfold alone
 have e:3*(F+1)=3*F+1+1+1:=by omega
 rw[e,List.range_succ,List.range_succ,List.range_succ]
 simp
def faces:Nat→List (Int × List Int)
 |0=>[]
 |F+1=>faces F ++ [(3*(F:Int),[3*(F:Int)+1,3*(F:Int)+2])]
theorem faces_len:∀F,(faces F).length=F
 |0=>rfl
 |F+1=>by simp[faces,faces_len F]
theorem faces_all:∀F,(faces F).flatMap el=alone (3*F)
 |0=>rfl
 |F+1=>by
  rw[alone_three, ←faces_all F]
  simp[faces,el]
theorem faces_cyc:∀F,∀c∈faces F,Walk next c.1 c.2 c.1
 |0,c,hc=>by simp[faces]at hc
 |F+1,c,hc=>by
  simp only[faces]at hc
  rcases List.mem_append.1 hc with q|q
  ·exact faces_cyc F c q
  ·obtain rfl:=List.mem_singleton.1 q
   simp only[Walk,next]
   refine⟨?_,?_,?_⟩
   ·rw[ig om]
   ·rw[ig om];omega
   ·rw[ip om];omega
theorem faces_dec (F:Nat):Dec next (alone (3*F)) (faces F):=⟨by rw[faces_all],faces_cyc F⟩
theorem mem_alone {n:Nat}{x:Int}:x∈alone n↔0≤x∧x<n:=by
 unfold alone
 rw[List.mem_map]
 constructor
 ·rintro ⟨a,ha,rfl⟩
  have:=List.mem_range.1 ha
  omega
 ·intro h
  exact⟨x.toNat,List.mem_range.2 om,by omega⟩
theorem alone_nodup (n:Nat):(alone n).Nodup:=map_nodup _ List.nodup_range (fun a b _ _ h=>by omega)
theorem alone_roots (n:Nat):(roots (alone n)).length=n:=by
 unfold roots
 have e:(alone n).length=n:=by simp[alone]
 rw[e,List.filter_eq_self.2]
 ·simp
 ·intro k hk
  have:=List.mem_range.1 hk
  simp[alone_P n (k:Int) om om]
/-- THE NUMBERS: F triangles, T the pairs of corners whose sides are one edge; corners around vertices are the cycles of 'next behind the exchange'. V + F ≤ E + 2 K, and V + F + E is even. -/
theorem euler {F:Nat}{T:List (Int × Int)} (hT:∀p∈T,(0≤p.1∧p.1<3*(F:Int))∧(0≤p.2∧p.2<3*(F:Int))∧p.1≠p.2){vp fs:List (Int × Int)}{uv uf:List Int} (sv:Stands uv (3*(F:Int)) vp) (sf:Stands uf (F:Int) fs)
  (v1:∀x,0≤x→x<3*(F:Int)→Cls (3*(F:Int)) vp x (sws next T x)) (v2:∀i j,(i,j)∈vp→0≤i→i<3*(F:Int)→0≤j→j<3*(F:Int)→Cls (3*(F:Int)) ((alone (3*F)).map fun x=>(x,sws next T x)) i j)
  (f1:∀i j,Cls (F:Int) fs i j↔Cls (F:Int) (T.map fun p=>(p.1 / 3,p.2 / 3)) i j):
  (roots uv).length+F≤T.length+2*(roots uf).length∧((roots uv).length+F+T.length) % 2=0:=by
 have hm:∀x,x∈alone (3*F)↔0≤x∧x<3*(F:Int):=fun x=>by rw[mem_alone];omega
 have hD:=alone_nodup (3*F)
 obtain⟨L,up,d,s,q1,q2⟩:=run (F:=F) (fun x=>x / 3) hD (fun x hx=>by have:=(hm x).1 hx;omega) T next (faces F) (alone F) [] 0
  (fun p hp=>by obtain⟨a,b,c⟩:=hT p hp;exact⟨(hm _).2 a,(hm _).2 b,c⟩) (faces_dec F) (alone_stands F)
  (fun x hx=>by
   have hx':=(hm x).1 hx
   have e:next x / 3=x / 3:=by unfold next;split <;> omega
   rw[e]
   exact .refl om om) (by rw[faces_len,alone_roots];omega) (by rw[faces_len];omega)
 have hv:(roots uv).length=L.length:=by
  refine count hD hm d sv (fun x hx=>v1 x ((hm x).1 hx).1 ((hm x).1 hx).2) fun i j h a b c e=>?_
  replace h:=v2 i j h a b c e
  -- classes of the pairs (x, f x) are the cycles
  have cov:∀x,0≤x→x<3*(F:Int)→∃c∈L,x∈el c:=fun x a b=>List.mem_flatMap.1 (d.all.mem_iff.2 ((hm x).2 ⟨a,b⟩))
  have hn:(L.flatMap el).Nodup:=d.all.nodup_iff.2 hD
  clear a b c e
  induction h with
  |refl a b=>obtain⟨c,hc,hx⟩:=cov _ a b;exact⟨c,hc,hx,hx⟩
  |pair h a b _ _=>
   obtain⟨x,_,e⟩:=List.mem_map.1 h
   obtain⟨rfl,rfl⟩:=Prod.mk.inj e
   obtain⟨c,hc,hx⟩:=cov _ a b
   refine⟨c,hc,hx,?_⟩
   have w:=d.cyc c hc
   obtain⟨l,wl,pl⟩:=rotate w hx
   refine pl.mem_iff.1 ?_
   cases l with
   |nil=>simp only[Walk]at wl;rw[wl];simp
   |cons z l=>simp only[Walk]at wl;rw[wl.1];simp
  |symm _ ih=>obtain⟨c,hc,r1,r2⟩:=ih;exact⟨c,hc,r2,r1⟩
  |trans _ _ ih1 ih2=>
   obtain⟨c,hc,r1,r2⟩:=ih1
   obtain⟨e,he,t1,t2⟩:=ih2
   obtain rfl:=uniq hn hc he r2 t1
   exact⟨c,hc,r1,t2⟩
 have hK:(roots up).length=(roots uf).length:=by
  have:=(roots_perm s sf (fun i j=>by rw[f1 i j];simp)).length_eq
  rwa [List.length_map]at this
 rw[hv]
 omega
end Go.Proofs.Ytflbpjijgnmklaa.Cyc


namespace Go.Proofs.Ytflbpjijgnmklaa.L
open Go.RowKit Go.Proofs.Ytflbpjijgnmklaa.P Go.Proofs.Ytflbpjijgnmklaa.Help Go.Proofs.YtflbpjijgnmklaaW.PrintWords
set_option linter.unusedVariables false
set_option linter.unusedSimpArgs false

/-- The corner at the beginning of a side. -/
def pos (t:List (List Int)) (s:Int):Int:=3*(sideR s t 0).1+(sideR s t 0).2
theorem pos_cor {t:List (List Int)}{n:Int} (ok:TriOk t n){i j:Nat} (hi:i<t.length) (hj:j<3):pos t (sideOf t i j)=cor i j:=by
 unfold pos cor
 rw[side_at ok hi hj]
 have:j % 3=j:=by omega
 rw[this]
theorem pos_opp {t:List (List Int)}{n:Int} (ok:TriOk t n){i j:Nat} (hi:i<t.length) (hj:j<3):pos t (-(sideOf t i j))=cor (opp t i j).1 (opp t i j).2:=by
 obtain⟨o1,o2,o3,o4⟩:=opp_at ok hi j
 rw[←o3,pos_cor ok o1 o2]
theorem pos_at {t:List (List Int)}{n:Int} (ok:TriOk t n){s:Int} (h0:s≠0) (h1: -n≤s) (h2:s≤n):∃i j:Nat,i<t.length∧j<3∧sideOf t i j=s∧pos t s=cor i j:=by
 obtain⟨i,j,hi,hj,_,e⟩:=ok.side h0 h1 h2
 exact⟨i,j,hi,hj,e,by rw[←e];exact pos_cor ok hi hj⟩
theorem cor_inj {i j k l:Nat} (hj:j<3) (hl:l<3) (e:cor i j=cor k l):i=k∧j=l:=by
 unfold cor at e
 omega
theorem pos_inj {t:List (List Int)}{n:Int} (ok:TriOk t n){s s':Int} (h0:s≠0) (h1: -n≤s) (h2:s≤n) (k0:s'≠0) (k1: -n≤s') (k2:s'≤n) (e:pos t s=pos t s'):s=s':=by
 obtain⟨i,j,hi,hj,e1,p1⟩:=pos_at ok h0 h1 h2
 obtain⟨k,l,hk,hl,e2,p2⟩:=pos_at ok k0 k1 k2
 obtain⟨rfl,rfl⟩:=cor_inj hj hl (by rw[←p1, ←p2,e])
 rw[←e1, ←e2]
/-- The sides, each with its inverse. -/
def sgn:Nat→List (Int × Int)
 |0=>[]
 |m+1=>sgn m ++ [((m:Int)+1, -((m:Int)+1))]
theorem mem_sgn {p:Int × Int}:∀ {m:Nat},p∈sgn m↔(1≤p.1∧p.1≤(m:Int))∧p.2= -p.1
 |0=>by simp[sgn];omega
 |m+1=>by
  simp only[sgn]
  rw[List.mem_append,mem_sgn (m:=m),List.mem_singleton]
  constructor
  ·rintro (⟨a,b⟩|rfl)
   ·exact⟨by omega,b⟩
   ·exact⟨by simp only;omega,rfl⟩
  ·rintro ⟨a,b⟩
   by_cases c:p.1=(m:Int)+1
   ·exact .inr (Prod.ext c (by rw[b,c]))
   ·exact .inl ⟨by omega,b⟩
theorem sgn_len:∀m,(sgn m).length=m
 |0=>rfl
 |m+1=>by simp[sgn,sgn_len m]
theorem sgn_flat:∀m,((sgn m).flatMap fun p=>[p.1,p.2]).Nodup
 |0=>by simp[sgn]
 |m+1=>by
  have e:(sgn (m+1)).flatMap (fun p=>[p.1,p.2])=(sgn m).flatMap (fun p=>[p.1,p.2]) ++ [(m:Int)+1, -((m:Int)+1)]:=by simp[sgn]
  rw[e]
  refine List.nodup_append.2 ⟨sgn_flat m,?_,?_⟩
  ·refine List.nodup_cons.2 ⟨?_,by simp⟩
   simp
   omega
  ·intro x hx y hy
   obtain⟨p,hp,hxp⟩:=List.mem_flatMap.1 hx
   obtain⟨a,b⟩:=mem_sgn.1 hp
   simp only[List.mem_cons,List.not_mem_nil,or_false]at hxp hy
   omega
/-- The exchange of the corners at the two sides of each edge. -/
def exch (t:List (List Int)) (m:Nat):List (Int × Int):=(sgn m).map fun p=>(pos t p.1,pos t p.2)
theorem exch_flat {t:List (List Int)}{m:Nat} (ok:TriOk t (m:Int)):((exch t m).flatMap fun p=>[p.1,p.2]).Nodup:=by
 have e:(exch t m).flatMap (fun p=>[p.1,p.2])=((sgn m).flatMap fun p=>[p.1,p.2]).map (pos t):=by
  unfold exch
  rw[List.flatMap_map,List.map_flatMap]
  rfl
 rw[e]
 have hb:∀x∈(sgn m).flatMap (fun p=>[p.1,p.2]),x≠0∧ -(m:Int)≤x∧x≤m:=by
  intro x hx
  obtain⟨p,hp,hxp⟩:=List.mem_flatMap.1 hx
  obtain⟨a,b⟩:=mem_sgn.1 hp
  simp only[List.mem_cons,List.not_mem_nil,or_false]at hxp
  omega
 refine UF.map_nodup _ (sgn_flat m) fun x y hx hy q=>?_
 have bx:=hb x hx
 have b_y:=hb y hy
 exact pos_inj ok bx.1 bx.2.1 bx.2.2 b_y.1 b_y.2.1 b_y.2.2 q
theorem exch_at {t:List (List Int)}{m:Nat} (ok:TriOk t (m:Int)){s:Int} (h0:s≠0) (h1: -(m:Int)≤s) (h2:s≤m) (f:Int→Int):Cyc.sws f (exch t m) (pos t s)=f (pos t (-s)):=by
 have hf:=exch_flat ok
 by_cases c:0<s
 ·have hm:(pos t s,pos t (-s))∈exch t m:=List.mem_map.2 ⟨(s, -s),mem_sgn.2 ⟨⟨by simp only;omega,h2⟩,rfl⟩,rfl⟩
  exact(Cyc.sws_at hf _ hm).1
 ·have hm:(pos t (-s),pos t s)∈exch t m:=List.mem_map.2 ⟨(-s,s),mem_sgn.2 ⟨⟨by simp only;omega,by simp only;omega⟩,by simp⟩,rfl⟩
  exact(Cyc.sws_at hf _ hm).2
theorem next_cor (i:Nat){j:Nat} (hj:j<3):Cyc.next (cor i j)=cor i (j+1):=by
 unfold Cyc.next cor
 split <;> omega
theorem exch_cor {t:List (List Int)}{m:Nat} (ok:TriOk t (m:Int)){i j:Nat} (hi:i<t.length) (hj:j<3):Cyc.sws Cyc.next (exch t m) (cor i j)=cor (opp t i j).1 ((opp t i j).2+1):=by
 have hs:=sideOf_in ok hi j
 obtain⟨o1,o2,o3,o4⟩:=opp_at ok hi j
 rw[←pos_cor ok hi hj,exch_at ok hs.1 hs.2.1 hs.2.2,pos_opp ok hi hj,next_cor _ o2]
theorem exch_opp {t:List (List Int)}{m:Nat} (ok:TriOk t (m:Int)){i j:Nat} (hi:i<t.length) (hj:j<3):Cyc.sws Cyc.next (exch t m) (cor (opp t i j).1 (opp t i j).2)=cor i (j+1):=by
 have hs:=sideOf_in ok hi j
 rw[←pos_opp ok hi hj,exch_at ok om om om,Int.neg_neg,pos_cor ok hi hj,next_cor _ hj]
/-- The triangles at the two sides of an edge. -/
def fp (t:List (List Int)) (i j:Nat):List (Int × Int):=[((i:Int),((opp t i j).1:Int))]
theorem cor_div (i:Nat) (j:Nat):cor i j / 3=(i:Int):=by
 unfold cor
 omega
theorem tri_euler {t:List (List Int)}{m:Nat} (ok:TriOk t (m:Int)){uv uf:List Int} (sv:UF.Stands uv (3*(t.length:Int)) (allG (vp t) t.length 0)) (sf:UF.Stands uf (t.length:Int) (allG (fp t) t.length 0)):
  (UF.roots uv).length+t.length≤m+2*(UF.roots uf).length∧((UF.roots uv).length+t.length+m) % 2=0:=by
 have corOf:∀c:Int,0≤c→c<3*(t.length:Int)→∃i j:Nat,i<t.length∧j<3∧c=cor i j:=by
  intro c h0 h1
  exact⟨(c / 3).toNat,(c % 3).toNat,by omega,by omega,by unfold cor;omega⟩
 have hl:(exch t m).length=m:=by unfold exch;rw[List.length_map,sgn_len]
 have hb:∀p∈sgn m,(p.1≠0∧ -(m:Int)≤p.1∧p.1≤m)∧(p.2≠0∧ -(m:Int)≤p.2∧p.2≤m)∧p.1≠p.2:=by
  intro p hp
  obtain⟨a,b⟩:=mem_sgn.1 hp
  omega
 have pb:∀s:Int,s≠0∧ -(m:Int)≤s∧s≤m→0≤pos t s∧pos t s<3*(t.length:Int):=by
  intro s hs
  obtain⟨i,j,hi,hj,_,e⟩:=pos_at ok hs.1 hs.2.1 hs.2.2
  rw[e]
  exact cor_bd hi j
 have key:=Cyc.euler (F:=t.length) (T:=exch t m) (fun p hp=>by
  obtain⟨q,hq,rfl⟩:=List.mem_map.1 hp
  obtain⟨b1,b2,b3⟩:=hb q hq
  exact⟨pb _ b1,pb _ b2,fun e=>b3 (pos_inj ok b1.1 b1.2.1 b1.2.2 b2.1 b2.2.1 b2.2.2 e)⟩) sv sf
  (fun x h0 h1=>by
   obtain⟨i,j,hi,hj,rfl⟩:=corOf x h0 h1
   rw[exch_cor ok hi hj]
   obtain⟨o1,o2,o3,o4⟩:=opp_at ok hi j
   exact .pair ((mem_allG _ _).2 ⟨i,by omega,by omega,j,hj,by simp[vp]⟩) h0 h1 (cor_bd o1 _).1 (cor_bd o1 _).2)
  (fun a b hm _ _ _ _=>by
   obtain⟨i,_,hi,j,hj,hp⟩:=(mem_allG _ _).1 hm
   have hi':i<t.length:=by omega
   obtain⟨o1,o2,o3,o4⟩:=opp_at ok hi' j
   have hp':(a,b)=(cor i j,cor (opp t i j).1 ((opp t i j).2+1))∨(a,b)=(cor i (j+1),cor (opp t i j).1 (opp t i j).2):=by simpa[vp] using hp
   have one:∀x:Int,0≤x→x<3*(t.length:Int)→0≤Cyc.sws Cyc.next (exch t m) x→Cyc.sws Cyc.next (exch t m) x<3*(t.length:Int)→UF.Cls (3*(t.length:Int)) ((UF.alone (3*t.length)).map fun x=>(x,Cyc.sws Cyc.next (exch t m) x)) x (Cyc.sws Cyc.next (exch t m) x):=fun x h0 h1 h2 h3=>
    .pair (List.mem_map.2 ⟨x,Cyc.mem_alone.2 om,rfl⟩) h0 h1 h2 h3
   rcases hp' with e|e
   ·obtain⟨rfl,rfl⟩:=Prod.mk.inj e
    have e1:=exch_cor ok hi' hj
    have:=one (cor i j) (cor_bd hi' j).1 (cor_bd hi' j).2 (by rw[e1];exact(cor_bd o1 _).1) (by rw[e1];exact(cor_bd o1 _).2)
    rwa [e1]at this
   ·obtain⟨rfl,rfl⟩:=Prod.mk.inj e
    have e1:=exch_opp ok hi' hj
    have:=one (cor (opp t i j).1 (opp t i j).2) (cor_bd o1 _).1 (cor_bd o1 _).2 (by rw[e1];exact(cor_bd hi' _).1) (by rw[e1];exact(cor_bd hi' _).2)
    rw[e1]at this
    exact this.symm)
  (fun a b=>by
   constructor
   ·intro h
    refine UF.Cls.map (p2:=(exch t m).map fun p=>(p.1 / 3,p.2 / 3)) (n2:=(t.length:Int)) (fun i=>i) (fun i a b=>⟨a,b⟩) (fun a b hm _ _ _ _=>?_) h
    obtain⟨i,_,hi,j,hj,hp⟩:=(mem_allG _ _).1 hm
    have hi':i<t.length:=by omega
    obtain⟨o1,o2,o3,o4⟩:=opp_at ok hi' j
    have hs:=sideOf_in ok hi' j
    have hp':(a,b)=((i:Int),((opp t i j).1:Int)):=by simpa[fp] using hp
    obtain⟨rfl,rfl⟩:=Prod.mk.inj hp'
    have two:∀s:Int,s≠0∧ -(m:Int)≤s∧s≤m→0<s→(pos t s / 3,pos t (-s) / 3)∈(exch t m).map fun p=>(p.1 / 3,p.2 / 3):=fun s hs h0=>
     List.mem_map.2 ⟨(pos t s,pos t (-s)),List.mem_map.2 ⟨(s, -s),mem_sgn.2 ⟨⟨by simp only;omega,hs.2.2⟩,rfl⟩,rfl⟩,rfl⟩
    have e1:pos t (sideOf t i j) / 3=(i:Int):=by rw[pos_cor ok hi' hj,cor_div]
    have e2:pos t (-(sideOf t i j)) / 3=((opp t i j).1:Int):=by rw[pos_opp ok hi' hj,cor_div]
    by_cases c:0<sideOf t i j
    ·have:=two _ hs c
     rw[e1,e2]at this
     exact .pair this om om om om
    ·have:=two (-(sideOf t i j)) om om
     rw[Int.neg_neg,e1,e2]at this
     exact(UF.Cls.pair this om om om om).symm
   ·intro h
    refine UF.Cls.map (p2:=allG (fp t) t.length 0) (n2:=(t.length:Int)) (fun i=>i) (fun i a b=>⟨a,b⟩) (fun a b hm _ _ _ _=>?_) h
    obtain⟨p,hp,e⟩:=List.mem_map.1 hm
    obtain⟨q,hq,rfl⟩:=List.mem_map.1 hp
    obtain⟨b1,b2⟩:=mem_sgn.1 hq
    obtain⟨i,j,hi,hj,e1,e2⟩:=pos_at ok (s:=q.1) om om om
    obtain⟨o1,o2,o3,o4⟩:=opp_at ok hi j
    obtain⟨rfl,rfl⟩:=Prod.mk.inj e
    simp only
    rw[b2,e2, ←e1,pos_opp ok hi hj,cor_div,cor_div]
    exact .pair ((mem_allG _ _).2 ⟨i,by omega,by omega,j,hj,by simp[fp]⟩) om om om om)
 rw[hl]at key
 exact key
theorem addL_leq:∀(x y:List Int),x.length=y.length→(addL x y).length=x.length
 |[],[],_=>rfl
 |[],_ :: _,h=>by simp at h
 |_ :: _,[],h=>by simp at h
 |a :: x,b :: y,h=>by
  have:=addL_leq x y (by simpa using h)
  simp[addL,this]
theorem addL_at:∀(x y:List Int) (i:Nat) (h1:i<x.length) (h2:i<y.length) (h3:i<(addL x y).length),(addL x y)[i]=x[i]+y[i]
 |[],_,i,h,_,_=>absurd h (by simp)
 |a :: x,[],i,_,h,_=>absurd h (by simp)
 |a :: x,b :: y,0,_,_,_=>by simp[addL]
 |a :: x,b :: y,i+1,h1,h2,h3=>by
  have:=addL_at x y i (by simpa using h1) (by simpa using h2) (by simpa[addL] using h3)
  simpa[addL] using this
theorem crd_add {x y:List Int} (h:x.length=y.length){s:Int} (h0:s≠0) (h1:s.natAbs≤x.length):crd (addL x y) s=crd x s+crd y s:=by
 have hl:=addL_leq x y h
 rw[crd_at h0 om,crd_at h0 h1,crd_at h0 om]
 exact addL_at x y _ _ _ _
/-- Does a side begin at the vertex? -/
noncomputable def bs (t:List (List Int)) (c s:Int):Int:=vind t c (pos t s)
theorem bs_bd (t:List (List Int)) (c s:Int):0≤bs t c s∧bs t c s≤1:=vind_bd t c _
theorem bs_cor {t:List (List Int)}{n:Int} (ok:TriOk t n) (c:Int){i:Nat} (hi:i<t.length) (j:Nat):bs t c (sideOf t i j)=vind t c (cor i j):=by
 unfold bs
 rw[←sideOf_mod,pos_cor ok hi om,cor_mod]
theorem same_vp {t:List (List Int)}{n:Int} (ok:TriOk t n){i j:Nat} (hi:i<t.length) (hj:j<3):SameV t (cor i j) (cor (opp t i j).1 ((opp t i j).2+1))∧SameV t (cor i (j+1)) (cor (opp t i j).1 (opp t i j).2):=by
 obtain⟨o1,o2,o3,o4⟩:=opp_at ok hi j
 have hm:∀p,p∈vp t i j→p∈allG (vp t) t.length 0:=fun p hp=>(mem_allG _ _).2 ⟨i,by omega,by omega,j,hj,hp⟩
 exact⟨.pair (hm _ (by simp[vp])) (cor_bd hi _).1 (cor_bd hi _).2 (cor_bd o1 _).1 (cor_bd o1 _).2, .pair (hm _ (by simp[vp])) (cor_bd hi _).1 (cor_bd hi _).2 (cor_bd o1 _).1 (cor_bd o1 _).2⟩
theorem bs_neg {t:List (List Int)}{n:Int} (ok:TriOk t n) (c:Int){i j:Nat} (hi:i<t.length) (hj:j<3):bs t c (-(sideOf t i j))=vind t c (cor i (j+1)):=by
 unfold bs
 rw[pos_opp ok hi hj]
 exact(vind_same (same_vp ok hi hj).2).symm
theorem ring_side {t:List (List Int)}{n:Nat} (ok:TriOk t (n:Int)) (c:Int){s:Int} (h0:s≠0) (h1: -(n:Int)≤s) (h2:s≤n):crd (aroundR t n c) s=bs t c s+bs t c (-s):=by
 obtain⟨i,j,hi,hj,_,e⟩:=ok.side h0 h1 h2
 rw[←e,around_side ok c hi j,bs_cor ok c hi j,bs_neg ok c hi hj]
/-- Fair coordinates, and the same with a curve around a vertex. -/
structure Rg (t:List (List Int)) (x:List Int) (n:Nat) (c:Int):Prop where
 C:Cx t x (n:Int)
 D:Cx t (addL x (aroundR t n c)) (n:Int)
 hc:0≤c∧c<3*(t.length:Int)
section
variable {t:List (List Int)}{x:List Int}{n:Nat}{c:Int}
theorem Rg.len (R:Rg t x n c):x.length=n∧(aroundR t n c).length=n∧(addL x (aroundR t n c)).length=n:=by
 have h1:=R.C.hx
 have h2:=R.D.hx
 have h3:=aroundR_len t n c
 omega
theorem Rg.crd' (R:Rg t x n c){s:Int} (h0:s≠0) (h1: -(n:Int)≤s) (h2:s≤n):crd (addL x (aroundR t n c)) s=crd x s+bs t c s+bs t c (-s):=by
 have hl:=R.len
 rw[crd_add om h0 om,ring_side R.C.ok c h0 h1 h2]
 omega
theorem Rg.at' (R:Rg t x n c){e:Nat} (h:e<x.length) (h':e<(addL x (aroundR t n c)).length):(addL x (aroundR t n c))[e]=x[e]+bs t c ((e:Int)+1)+bs t c (-((e:Int)+1)):=by
 have hl:=R.len
 have:=R.crd' (s:=(e:Int)+1) om om om
 have hs:(((e:Int)+1).natAbs:Int)=(e:Int)+1:=by omega
 rw[crd_nat hs h',crd_nat hs h]at this
 exact this
theorem Rg.nc' (R:Rg t x n c){i j:Nat} (hi:i<t.length) (hj:j<3):(nc t (addL x (aroundR t n c)) i j:Int)=(nc t x i j:Int)+vind t c (cor i (j+1)):=by
 have ok:=R.C.ok
 have a1:=R.C.arc hi j hj
 have a2:=R.D.arc hi j hj
 have s0:=sideOf_in ok hi j
 have s1:=sideOf_in ok hi (j+1)
 have s2:=sideOf_in ok hi (j+2)
 have hl:=R.len
 have e0:crd (addL x (aroundR t n c)) (sideOf t i j)=crd x (sideOf t i j)+(vind t c (cor i j)+vind t c (cor i (j+1))):=by rw[crd_add om s0.1 om,around_side ok c hi j]
 have e1:crd (addL x (aroundR t n c)) (sideOf t i (j+1))=crd x (sideOf t i (j+1))+(vind t c (cor i (j+1))+vind t c (cor i (j+2))):=by rw[crd_add om s1.1 om,around_side ok c hi (j+1)]
 have e2:crd (addL x (aroundR t n c)) (sideOf t i (j+2))=crd x (sideOf t i (j+2))+(vind t c (cor i (j+2))+vind t c (cor i j)):=by
  rw[crd_add om s2.1 om,around_side ok c hi (j+2), ←cor_mod i (j+2+1),show(j+2+1) % 3=j % 3 by omega,cor_mod]
 have ht:tw t (addL x (aroundR t n c)) i j=tw t x i j+2*vind t c (cor i (j+1)):=by
  unfold tw
  rw[e0,e1,e2]
  omega
 have b:=vind_bd t c (cor i (j+1))
 rw[ht]at a2
 omega
/-- Where a point goes. -/
def up1:List Int→List Int→List Int→Int→Int
 |a :: x,a' :: x',b :: be,p=>if p<a then p+b else a'+up1 x x' be (p - a)
 |_,_,_,p=>p
/-- Where a point comes from, if it is no point of the new curve. -/
def dn1:List Int→List Int→List Int→Int→Option Int
 |a :: x,a' :: x',b :: be,p=>if p<a' then(if b≤p∧p<a+b then some (p - b)else none) else(dn1 x x' be (p - a')).map (fun q=>q+a)
 |_,_,_,_=>none
theorem up1_at:∀(x x' be:List Int),x.length=x'.length→x.length=be.length→(∀a∈x,0≤a)→(∀a∈x',0≤a)→∀(e:Nat) (h:e<x.length) (hb:e<be.length) (m:Int),0≤m→m<x[e]→
  up1 x x' be ((offN x e:Int)+m)=(offN x' e:Int)+m+be[e]
 |[],_,_,_,_,_,_,e,h,_,_,_,_=>absurd h (by simp)
 |_ :: _,[],_,h1,_,_,_,_,_,_,_,_,_=>by simp at h1
 |_ :: _,_ :: _,[],_,h2,_,_,_,_,_,_,_,_=>by simp at h2
 |a :: x,a' :: x',b :: be,h1,h2,p1,p2,0,h,hb,m,m0,m1=>by
  have m1':m<a:=by simpa using m1
  have ea:((offN (a :: x) 0:Nat):Int)+m=m:=by simp[offN]
  rw[ea]
  simp only[up1]
  rw[ip m1']
  simp[offN]
 |a :: x,a' :: x',b :: be,h1,h2,p1,p2,e+1,h,hb,m,m0,m1=>by
  have q1:=p1 a (by simp)
  have q2:=p2 a' (by simp)
  have ih:=up1_at x x' be (by simpa using h1) (by simpa using h2) (fun z hz=>p1 z (by simp[hz])) (fun z hz=>p2 z (by simp[hz])) e (by simpa using h) (by simpa using hb) m m0 (by simpa using m1)
  have ea:((offN (a :: x) (e+1):Nat):Int)=a+(offN x e:Int):=by
   show((a.toNat+offN x e:Nat):Int)=_
   omega
  have eb:((offN (a' :: x') (e+1):Nat):Int)=a'+(offN x' e:Int):=by
   show((a'.toNat+offN x' e:Nat):Int)=_
   omega
  simp only[up1]
  rw[ea,eb,ig om,show a+(offN x e:Int)+m - a=(offN x e:Int)+m by omega,ih]
  simp only[List.getElem_cons_succ]
  omega
theorem dn1_at:∀(x x' be:List Int),x.length=x'.length→x.length=be.length→(∀a∈x,0≤a)→(∀a∈x',0≤a)→∀(e:Nat) (h:e<x.length) (h':e<x'.length) (hb:e<be.length) (m:Int),0≤m→m<x'[e]→
  dn1 x x' be ((offN x' e:Int)+m)=if be[e]≤m∧m<x[e]+be[e]then some ((offN x e:Int)+m - be[e])else none
 |[],_,_,_,_,_,_,e,h,_,_,_,_,_=>absurd h (by simp)
 |_ :: _,[],_,h1,_,_,_,_,_,_,_,_,_,_=>by simp at h1
 |_ :: _,_ :: _,[],_,h2,_,_,_,_,_,_,_,_,_=>by simp at h2
 |a :: x,a' :: x',b :: be,h1,h2,p1,p2,0,h,h',hb,m,m0,m1=>by
  have m1':m<a':=by simpa using m1
  have ea:((offN (a' :: x') 0:Nat):Int)+m=m:=by simp[offN]
  rw[ea]
  simp only[dn1]
  rw[ip m1']
  simp[offN]
 |a :: x,a' :: x',b :: be,h1,h2,p1,p2,e+1,h,h',hb,m,m0,m1=>by
  have q1:=p1 a (by simp)
  have q2:=p2 a' (by simp)
  have ih:=dn1_at x x' be (by simpa using h1) (by simpa using h2) (fun z hz=>p1 z (by simp[hz])) (fun z hz=>p2 z (by simp[hz])) e (by simpa using h) (by simpa using h') (by simpa using hb) m m0 (by simpa using m1)
  have ea:((offN (a :: x) (e+1):Nat):Int)=a+(offN x e:Int):=by
   show((a.toNat+offN x e:Nat):Int)=_
   omega
  have eb:((offN (a' :: x') (e+1):Nat):Int)=a'+(offN x' e:Int):=by
   show((a'.toNat+offN x' e:Nat):Int)=_
   omega
  simp only[dn1]
  rw[ea,eb,ig om,show a'+(offN x' e:Int)+m - a'=(offN x' e:Int)+m by omega,ih]
  simp only[List.getElem_cons_succ]
  by_cases k:be[e]'(by simpa using hb)≤m∧m<x[e]'(by simpa using h)+be[e]'(by simpa using hb)
  ·rw[ip k,ip k,Option.map_some]
   congr 1
   omega
  ·rw[ig k,ig k,Option.map_none]
/-- Every point stands on an edge. -/
theorem dec_pt:∀(x:List Int),(∀a∈x,0≤a)→∀(p:Int),0≤p→p<(offN x x.length:Int)→∃(e:Nat) (h:e<x.length) (m:Int),0≤m∧m<x[e]∧p=(offN x e:Int)+m
 |[],_,p,h0,h1=>by simp[offN]at h1;omega
 |a :: x,hp,p,h0,h1=>by
  have q:=hp a (by simp)
  have e1:((offN (a :: x) (a :: x).length:Nat):Int)=a+(offN x x.length:Int):=by
   show((a.toNat+offN x x.length:Nat):Int)=_
   omega
  by_cases k:p<a
  ·exact⟨0,by simp,p,h0,by simpa using k,by simp[offN]⟩
  ·obtain⟨e,h,m,m0,m1,em⟩:=dec_pt x (fun z hz=>hp z (by simp[hz])) (p - a) om om
   refine⟨e+1,by simpa using h,m,m0,by simpa using m1,?_⟩
   have ea:((offN (a :: x) (e+1):Nat):Int)=a+(offN x e:Int):=by
    show((a.toNat+offN x e:Nat):Int)=_
    omega
   rw[ea]
   omega
/-- Which edges begin at the vertex. -/
noncomputable def bsL (t:List (List Int)) (n:Nat) (c:Int):List Int:=(List.range n).map fun (q:Nat)=>bs t c ((q:Int)+1)
theorem bsL_len (t:List (List Int)) (n:Nat) (c:Int):(bsL t n c).length=n:=by simp[bsL]
theorem bsL_at {t:List (List Int)}{n:Nat}{c:Int}{e:Nat} (h:e<(bsL t n c).length):(bsL t n c)[e]=bs t c ((e:Int)+1):=by
 have h':e<n:=by rw[bsL_len]at h;exact h
 have k:(bsL t n c)[e]?= some (bs t c ((e:Int)+1)):=by
  unfold bsL
  rw[List.getElem?_map,List.getElem?_range h']
  rfl
 rw[List.getElem?_eq_getElem h]at k
 exact Option.some.inj k
noncomputable def upP (t:List (List Int)) (x:List Int) (n:Nat) (c:Int):Int→Int:=up1 x (addL x (aroundR t n c)) (bsL t n c)
noncomputable def dnP (t:List (List Int)) (x:List Int) (n:Nat) (c:Int):Int→Option Int:=dn1 x (addL x (aroundR t n c)) (bsL t n c)
theorem Rg.nn (R:Rg t x n c):(∀a∈x,0≤a)∧∀a∈addL x (aroundR t n c),0≤a:=⟨fun a ha=>(all_co R.C.hc a ha).1,fun a ha=>(all_co R.D.hc a ha).1⟩
theorem Rg.up (R:Rg t x n c){e:Nat} (h:e<x.length){m:Int} (m0:0≤m) (m1:m<x[e]):upP t x n c ((offN x e:Int)+m)=(offN (addL x (aroundR t n c)) e:Int)+m+bs t c ((e:Int)+1):=by
 have hl:=R.len
 have hb:e<(bsL t n c).length:=by rw[bsL_len];omega
 rw[←bsL_at hb]
 exact up1_at x _ _ om (by rw[bsL_len];omega) R.nn.1 R.nn.2 e h hb m m0 m1
theorem Rg.dn (R:Rg t x n c){e:Nat} (h:e<x.length) (h':e<(addL x (aroundR t n c)).length){m:Int} (m0:0≤m) (m1:m<(addL x (aroundR t n c))[e]):
  dnP t x n c ((offN (addL x (aroundR t n c)) e:Int)+m)=if bs t c ((e:Int)+1)≤m∧m<x[e]+bs t c ((e:Int)+1)then some ((offN x e:Int)+m - bs t c ((e:Int)+1))else none:=by
 have hl:=R.len
 have hb:e<(bsL t n c).length:=by rw[bsL_len];omega
 rw[←bsL_at hb]
 exact dn1_at x _ _ om (by rw[bsL_len];omega) R.nn.1 R.nn.2 e h h' hb m m0 m1
/-- A side's edge. -/
theorem Rg.edge (R:Rg t x n c){s:Int} (h0:s≠0) (h1: -(n:Int)≤s) (h2:s≤n):∃(e:Nat) (h:e<x.length) (h':e<(addL x (aroundR t n c)).length),s.natAbs - 1=e∧(s=(e:Int)+1∨s= -((e:Int)+1))∧crd x s=x[e]∧crd (addL x (aroundR t n c)) s=(addL x (aroundR t n c))[e]:=by
 have hl:=R.len
 refine⟨s.natAbs - 1,by omega,by omega,rfl,by omega,?_,?_⟩
 ·exact crd_nat om _
 ·exact crd_nat om _
theorem Rg.old (R:Rg t x n c){s:Int} (h0:s≠0) (h1: -(n:Int)≤s) (h2:s≤n){m:Int} (m0:0≤m) (m1:m<crd x s):
  upP t x n c (pt x s m)=pt (addL x (aroundR t n c)) s (m+bs t c s)∧dnP t x n c (pt (addL x (aroundR t n c)) s (m+bs t c s))=some (pt x s m):=by
 obtain⟨e,h,h',ee,es,e1,e2⟩:=R.edge h0 h1 h2
 have e3:=R.at' h h'
 have b1:=bs_bd t c ((e:Int)+1)
 have b2:=bs_bd t c (-((e:Int)+1))
 rw[e1]at m1
 rcases es with es|es
 ·have p1:pt x s m=(offN x e:Int)+m:=by unfold pt;rw[ee,ip om]
  have p2:pt (addL x (aroundR t n c)) s (m+bs t c s)=(offN (addL x (aroundR t n c)) e:Int)+(m+bs t c ((e:Int)+1)):=by unfold pt;rw[ee,ip om,es]
  rw[p1,p2,R.up h m0 m1,R.dn h h' om om,ip om]
  exact⟨by omega,by congr 1;omega⟩
 ·have p1:pt x s m=(offN x e:Int)+(x[e] - 1 - m):=by unfold pt;rw[ee,ig om,e1]
  have p2:pt (addL x (aroundR t n c)) s (m+bs t c s)=(offN (addL x (aroundR t n c)) e:Int)+((x[e] - 1 - m)+bs t c ((e:Int)+1)):=by
   unfold pt
   rw[ee,ig om,e2,e3,es]
   omega
  rw[p1,p2,R.up h om om,R.dn h h' om om,ip om]
  exact⟨by omega,by congr 1;omega⟩
/-- A point of the new curve. -/
theorem Rg.new (R:Rg t x n c){s:Int} (h0:s≠0) (h1: -(n:Int)≤s) (h2:s≤n) (hb:bs t c s=1):dnP t x n c (pt (addL x (aroundR t n c)) s 0)=none∧0<crd (addL x (aroundR t n c)) s:=by
 obtain⟨e,h,h',ee,es,e1,e2⟩:=R.edge h0 h1 h2
 have e3:=R.at' h h'
 have b1:=bs_bd t c ((e:Int)+1)
 have b2:=bs_bd t c (-((e:Int)+1))
 have hx:=R.nn.1 x[e] (List.getElem_mem h)
 rcases es with es|es
 ·rw[es]at hb
  have p2:pt (addL x (aroundR t n c)) s 0=(offN (addL x (aroundR t n c)) e:Int)+0:=by unfold pt;rw[ee,ip om]
  rw[p2,R.dn h h' om om,ig om]
  exact⟨rfl,by omega⟩
 ·rw[es]at hb
  have p2:pt (addL x (aroundR t n c)) s 0=(offN (addL x (aroundR t n c)) e:Int)+(x[e]+bs t c ((e:Int)+1)):=by
   unfold pt
   rw[ee,ig om,e2,e3]
   omega
  rw[p2,R.dn h h' om om,ig om]
  exact⟨rfl,by omega⟩
/-- Every point is an old one or one of the new curve. -/
theorem Rg.split (R:Rg t x n c){p:Int} (h0:0≤p) (h1:p<(NN (addL x (aroundR t n c)):Int)):
  (∃q,dnP t x n c p=some q∧(0≤q∧q<(NN x:Int))∧upP t x n c q=p)∨(dnP t x n c p=none∧∃s:Int,(s≠0∧ -(n:Int)≤s∧s≤n)∧bs t c s=1∧p=pt (addL x (aroundR t n c)) s 0):=by
 have hl:=R.len
 obtain⟨e,h',m,m0,m1,rfl⟩:=dec_pt _ R.nn.2 p h0 h1
 have h:e<x.length:=by omega
 have e3:=R.at' h h'
 have b1:=bs_bd t c ((e:Int)+1)
 have b2:=bs_bd t c (-((e:Int)+1))
 have d:=R.dn h h' m0 m1
 by_cases k:bs t c ((e:Int)+1)≤m∧m<x[e]+bs t c ((e:Int)+1)
 ·rw[ip k]at d
  refine .inl ⟨_,d,?_,?_⟩
  ·have s1:=offN_succ x e h
   have s2:=offN_top x (e+1) om
   unfold NN
   omega
  ·have u:=R.up h (m:=m - bs t c ((e:Int)+1)) om om
   rw[show(offN x e:Int)+m - bs t c ((e:Int)+1)=(offN x e:Int)+(m - bs t c ((e:Int)+1)) by omega,u]
   omega
 ·rw[ig k]at d
  refine .inr ⟨d,?_⟩
  by_cases k2:m<bs t c ((e:Int)+1)
  ·refine⟨(e:Int)+1,by omega,by omega,?_⟩
   unfold pt
   rw[ip om,show((e:Int)+1).natAbs - 1=e by omega]
   omega
  ·refine⟨-((e:Int)+1),by omega,by omega,?_⟩
   have hs:((-((e:Int)+1)).natAbs:Int)=(e:Int)+1:=by omega
   unfold pt
   rw[ig om,show(-((e:Int)+1)).natAbs - 1=e by omega,crd_nat hs h',e3]
   omega
/-- What classes behind say of classes before. -/
def Qr (N:Int) (ps:List (Int × Int)):Option Int→Option Int→Prop
 |some p,some q=>UF.Cls N ps p q
 |none,none=>True
 |_,_=>False
theorem mem_allQ {f:Nat→List (Int × Int)}{p:Int × Int}:∀ {d i:Nat},p∈allQ f d i↔∃q,i≤q∧q<i+d∧p∈f q
 |0,i=>by
  simp only[allQ,List.not_mem_nil,false_iff]
  rintro ⟨q,a,b,_⟩
  omega
 |d+1,i=>by
  simp only[allQ]
  rw[List.mem_append,mem_allQ (d:=d) (i:=i+1)]
  constructor
  ·rintro (h|⟨q,a,b,c⟩)
   ·exact⟨i,by omega,by omega,h⟩
   ·exact⟨q,by omega,by omega,c⟩
  ·rintro ⟨q,a,b,c⟩
   by_cases e:q=i
   ·subst e;exact .inl c
   ·exact .inr ⟨q,by omega,by omega,c⟩
theorem Cx.pair (C:Cx t x (n:Int)){i j:Nat} (hi:i<t.length) (hj:j<3){m:Nat} (hm:m<nc t x i j):UF.Cls (NN x:Int) (allG (prIJ t x) t.length 0) (pt x (sideOf t i j) (crd x (sideOf t i j) - 1 - (m:Int))) (pt x (sideOf t i (j+1)) (m:Int)):=by
 obtain⟨q1,q2,q3,q4,q5,q6⟩:=C.arc hi j hj
 obtain⟨z1,z2⟩:=C.side hi j
 obtain⟨z3,z4⟩:=C.side hi (j+1)
 have b1:=pt_bd C.hc z1 z2 (m:=crd x (sideOf t i j) - 1 - (m:Int)) om om
 have b2:=pt_bd C.hc z3 z4 (m:=(m:Int)) om om
 exact .pair ((mem_allG _ _).2 ⟨i,by omega,by omega,j,hj,mem_allQ.2 ⟨m,by omega,by omega,by simp[prC]⟩⟩) b1.1 b1.2 b2.1 b2.2
theorem Cx.ofPair {p q:Int} (h:(p,q)∈allG (prIJ t x) t.length 0):∃i j m:Nat,i<t.length∧j<3∧m<nc t x i j∧p=pt x (sideOf t i j) (crd x (sideOf t i j) - 1 - (m:Int))∧q=pt x (sideOf t i (j+1)) (m:Int):=by
 obtain⟨i,_,hi,j,hj,h2⟩:=(mem_allG _ _).1 h
 obtain⟨m,_,hm,h3⟩:=mem_allQ.1 h2
 have h4:(p,q)=(pt x (sideOf t i j) (crd x (sideOf t i j) - 1 - (m:Int)),pt x (sideOf t i (j+1)) (m:Int)):=by simpa[prC] using h3
 obtain⟨rfl,rfl⟩:=Prod.mk.inj h4
 exact⟨i,j,m,by omega,hj,by omega,rfl,rfl⟩
theorem pt_flip {x:List Int}{s m:Int} (h0:s≠0):pt x (-s) m=pt x s (crd x s - 1 - m):=by
 have e:crd x (-s)=crd x s:=by unfold crd;rw[Int.natAbs_neg]
 unfold pt
 rw[Int.natAbs_neg,e]
 split <;> split <;> omega
theorem Rg.sides (R:Rg t x n c){i:Nat} (hi:i<t.length) (j:Nat):(sideOf t i j≠0∧ -(n:Int)≤sideOf t i j∧sideOf t i j≤n):=sideOf_in R.C.ok hi j
/-- Classes behind are old classes, or all of the new curve. -/
theorem Rg.back (R:Rg t x n c){p q:Int} (h:UF.Cls (NN (addL x (aroundR t n c)):Int) (allG (prIJ t (addL x (aroundR t n c))) t.length 0) p q):Qr (NN x:Int) (allG (prIJ t x) t.length 0) (dnP t x n c p) (dnP t x n c q):=by
 have ok:=R.C.ok
 induction h with
 |refl a b=>
  rcases R.split a b with ⟨q,e,bq,_⟩|⟨e,_⟩
  ·rw[e];exact .refl bq.1 bq.2
  ·rw[e];trivial
 |pair h _ _ _ _=>
  obtain⟨i,j,m,hi,hj,hm,rfl,rfl⟩:=Cx.ofPair h
  have z1:=R.sides hi j
  have z2:=R.sides hi (j+1)
  have e1:bs t c (-(sideOf t i j))=vind t c (cor i (j+1)):=bs_neg ok c hi hj
  have e2:bs t c (sideOf t i (j+1))=vind t c (cor i (j+1)):=bs_cor ok c hi (j+1)
  have hn:=R.nc' hi hj
  have hv:=vind_bd t c (cor i (j+1))
  have k1:=R.crd' z1.1 z1.2.1 z1.2.2
  obtain⟨q1,q2,q3,q4,q5,q6⟩:=R.C.arc hi j hj
  by_cases k:(m:Int)<vind t c (cor i (j+1))
  ·have m0:(m:Int)=0:=by omega
   have n1:=(R.new (s:= -(sideOf t i j)) om om om om).1
   have n2:=(R.new z2.1 z2.2.1 z2.2.2 om).1
   rw[pt_flip z1.1]at n1
   rw[m0,n1,n2]
   trivial
  ·obtain⟨m',hm'⟩:∃m':Nat,(m:Int)=(m':Int)+vind t c (cor i (j+1)):=⟨((m:Int) - vind t c (cor i (j+1))).toNat,by omega⟩
   have o1:=(R.old z1.1 z1.2.1 z1.2.2 (m:=crd x (sideOf t i j) - 1 - (m':Int)) om om).2
   have o2:=(R.old z2.1 z2.2.1 z2.2.2 (m:=(m':Int)) om om).2
   rw[show crd x (sideOf t i j) - 1 - (m':Int)+bs t c (sideOf t i j)=crd (addL x (aroundR t n c)) (sideOf t i j) - 1 - (m:Int) by omega]at o1
   rw[show(m':Int)+bs t c (sideOf t i (j+1))=(m:Int) by omega]at o2
   rw[o1,o2]
   exact R.C.pair hi hj om
 |symm _ ih=>
  revert ih
  generalize dnP t x n c _=a
  generalize dnP t x n c _=b
  cases a <;> cases b <;> intro ih <;> first|exact ih|exact UF.Cls.symm ih
 |trans _ _ ih1 ih2=>
  revert ih1 ih2
  generalize dnP t x n c _=a
  generalize dnP t x n c _=b
  generalize dnP t x n c _=d
  cases a <;> cases b <;> cases d <;> intro ih1 ih2 <;> first|exact ih1|exact ih2|exact ih1.elim|exact ih2.elim|exact UF.Cls.trans ih1 ih2
theorem Rg.upB (R:Rg t x n c){p:Int} (h0:0≤p) (h1:p<(NN x:Int)):(0≤upP t x n c p∧upP t x n c p<(NN (addL x (aroundR t n c)):Int))∧dnP t x n c (upP t x n c p)=some p:=by
 have hl:=R.len
 obtain⟨e,h,m,m0,m1,rfl⟩:=dec_pt _ R.nn.1 p h0 h1
 have h':e<(addL x (aroundR t n c)).length:=by omega
 have e3:=R.at' h h'
 have b1:=bs_bd t c ((e:Int)+1)
 have b2:=bs_bd t c (-((e:Int)+1))
 have s1:=offN_succ (addL x (aroundR t n c)) e h'
 have s2:=offN_top (addL x (aroundR t n c)) (e+1) om
 have q:=R.nn.2 _ (List.getElem_mem h')
 have d:=R.dn h h' (m:=m+bs t c ((e:Int)+1)) om om
 rw[ip om]at d
 rw[R.up h m0 m1,show(offN (addL x (aroundR t n c)) e:Int)+m+bs t c ((e:Int)+1)=(offN (addL x (aroundR t n c)) e:Int)+(m+bs t c ((e:Int)+1)) by omega]
 refine⟨?_,?_⟩
 ·unfold NN
  omega
 ·rw[d]
  congr 1
  omega
/-- Old classes stay. -/
theorem Rg.forth (R:Rg t x n c){p q:Int} (h:UF.Cls (NN x:Int) (allG (prIJ t x) t.length 0) p q):UF.Cls (NN (addL x (aroundR t n c)):Int) (allG (prIJ t (addL x (aroundR t n c))) t.length 0) (upP t x n c p) (upP t x n c q):=by
 have ok:=R.C.ok
 refine UF.Cls.map (upP t x n c) (fun i a b=>(R.upB a b).1) (fun p q hm _ _ _ _=>?_) h
 obtain⟨i,j,m,hi,hj,hm,rfl,rfl⟩:=Cx.ofPair hm
 have z1:=R.sides hi j
 have z2:=R.sides hi (j+1)
 have e1:bs t c (-(sideOf t i j))=vind t c (cor i (j+1)):=bs_neg ok c hi hj
 have e2:bs t c (sideOf t i (j+1))=vind t c (cor i (j+1)):=bs_cor ok c hi (j+1)
 have hn:=R.nc' hi hj
 have hv:=vind_bd t c (cor i (j+1))
 have k1:=R.crd' z1.1 z1.2.1 z1.2.2
 obtain⟨q1,q2,q3,q4,q5,q6⟩:=R.C.arc hi j hj
 have o1:=(R.old z1.1 z1.2.1 z1.2.2 (m:=crd x (sideOf t i j) - 1 - (m:Int)) om om).1
 have o2:=(R.old z2.1 z2.2.1 z2.2.2 (m:=(m:Int)) om om).1
 obtain⟨m',hm'⟩:∃m':Nat,(m':Int)=(m:Int)+vind t c (cor i (j+1)):=⟨((m:Int)+vind t c (cor i (j+1))).toNat,by omega⟩
 have:=R.D.pair hi hj (m:=m') om
 rw[o1,o2,show crd x (sideOf t i j) - 1 - (m:Int)+bs t c (sideOf t i j)=crd (addL x (aroundR t n c)) (sideOf t i j) - 1 - (m':Int) by omega,show(m:Int)+bs t c (sideOf t i (j+1))=(m':Int) by omega]
 exact this
/-- The new curve's point at a corner. -/
noncomputable def ringP (t:List (List Int)) (x:List Int) (n:Nat) (c d:Int):Int:=pt (addL x (aroundR t n c)) (sideOf t (d / 3).toNat (d % 3).toNat) 0
theorem ringP_cor (t:List (List Int)) (x:List Int) (n:Nat) (c:Int) (i j:Nat):ringP t x n c (cor i j)=pt (addL x (aroundR t n c)) (sideOf t i j) 0:=by
 unfold ringP cor
 rw[show((3*(i:Int)+((j % 3:Nat):Int)) / 3).toNat=i by omega,show((3*(i:Int)+((j % 3:Nat):Int)) % 3).toNat=j % 3 by omega,sideOf_mod]
theorem Rg.link (R:Rg t x n c){i j:Nat} (hi:i<t.length) (hj:j<3) (h:vind t c (cor i (j+1))=1):
  UF.Cls (NN (addL x (aroundR t n c)):Int) (allG (prIJ t (addL x (aroundR t n c))) t.length 0) (pt (addL x (aroundR t n c)) (-(sideOf t i j)) 0) (pt (addL x (aroundR t n c)) (sideOf t i (j+1)) 0):=by
 have hn:=R.nc' hi hj
 have:=R.D.pair hi hj (m:=0) om
 rw[pt_flip (R.sides hi j).1]
 exact this
theorem vind_one {t:List (List Int)}{c d:Int}:vind t c d=1↔SameV t d c:=by
 unfold vind
 by_cases p:SameV t d c
 ·rw[ip p];simp[p]
 ·rw[ig p];simp[p]
/-- The new curve is one class. -/
theorem Rg.ring (R:Rg t x n c){a b:Int} (h:SameV t a b):SameV t a c→UF.Cls (NN (addL x (aroundR t n c)):Int) (allG (prIJ t (addL x (aroundR t n c))) t.length 0) (ringP t x n c a) (ringP t x n c b):=by
 have ok:=R.C.ok
 have corOf:∀c:Int,0≤c→c<3*(t.length:Int)→∃i j:Nat,i<t.length∧j<3∧c=cor i j:=by
  intro c h0 h1
  exact⟨(c / 3).toNat,(c % 3).toNat,by omega,by omega,by unfold cor;omega⟩
 unfold SameV at h
 induction h with
 |refl h0 h1=>
  intro ha
  obtain⟨i,j,hi,hj,rfl⟩:=corOf _ h0 h1
  have z:=R.sides hi j
  have hb:bs t c (sideOf t i j)=1:=by rw[bs_cor ok c hi j];exact vind_one.2 ha
  have hp:=(R.new z.1 z.2.1 z.2.2 hb).2
  have hs:=R.D.side hi j
  have b:=pt_bd R.D.hc hs.1 hs.2 (m:=0) om hp
  rw[ringP_cor]
  exact .refl b.1 b.2
 |@pair a b h h0 h1 h2 h3=>
  intro ha
  have hs:SameV t a b:= .pair h h0 h1 h2 h3
  obtain⟨i,_,hi,j,hj,hp⟩:=(mem_allG _ _).1 h
  have hi':i<t.length:=by omega
  obtain⟨o1,o2,o3,o4⟩:=opp_at ok hi' j
  have hp':(a,b)=(cor i j,cor (opp t i j).1 ((opp t i j).2+1))∨(a,b)=(cor i (j+1),cor (opp t i j).1 (opp t i j).2):=by simpa[vp] using hp
  rcases hp' with e|e
  ·obtain⟨rfl,rfl⟩:=Prod.mk.inj e
   have:=R.link o1 o2 (vind_one.2 (hs.symm.trans ha))
   rw[o3,Int.neg_neg]at this
   rw[ringP_cor,ringP_cor]
   exact this
  ·obtain⟨rfl,rfl⟩:=Prod.mk.inj e
   have:=R.link hi' hj (vind_one.2 ha)
   rw[ringP_cor,ringP_cor,o3]
   exact this.symm
 |symm h ih=>intro ha;exact(ih (SameV.trans h ha)).symm
 |trans h1 h2 ih1 ih2=>intro ha;exact(ih1 ha).trans (ih2 (SameV.trans (SameV.symm h1) ha))
/-- ONE CURVE MORE. -/
theorem Rg.count (R:Rg t x n c){u v:List Int} (su:UF.Stands u (NN x:Int) (allG (prIJ t x) t.length 0)) (sv:UF.Stands v (NN (addL x (aroundR t n c)):Int) (allG (prIJ t (addL x (aroundR t n c))) t.length 0)):(UF.roots v).length=(UF.roots u).length+1:=by
 have ok:=R.C.ok
 have lu:=su.len
 have lv:=sv.len
 have hm:=UF.roots_map su sv (upP t x n c) (fun i a b=>(R.upB a b).1) (fun i j a b d e h=>by
  have:=R.back h
  rw[(R.upB a b).2,(R.upB d e).2]at this
  exact this)
 obtain⟨k0,i0,hk,hi0,ec⟩:∃i j:Nat,i<t.length∧j<3∧c=cor i j:=by
  have:=R.hc
  exact⟨(c / 3).toNat,(c % 3).toNat,by omega,by omega,by unfold cor;omega⟩
 have hcc:SameV t c c:= .refl R.hc.1 R.hc.2
 have z0:=R.sides hk i0
 have hb0:bs t c (sideOf t k0 i0)=1:=by rw[bs_cor ok c hk i0, ←ec];exact vind_one.2 hcc
 have hn0:=R.new z0.1 z0.2.1 z0.2.2 hb0
 have hr0:ringP t x n c c=pt (addL x (aroundR t n c)) (sideOf t k0 i0) 0:=by
  have:=ringP_cor t x n c k0 i0
  rwa [←ec]at this
 have hb1:=pt_bd R.D.hc (R.D.side hk i0).1 (R.D.side hk i0).2 (m:=0) om hn0.2
 rw[←hr0]at hb1 hn0
 have m0:=sv.ok.rt_mem hb1.1 om
 have r0:=sv.ok.rt hb1.1 om
 have bd:∀a,a∈UF.roots u→0≤(a:Int)∧(a:Int)<(NN x:Int):=by
  intro a ha
  have:=(UF.mem_roots.1 ha).1
  omega
 have hnd:((UF.rt v (ringP t x n c c)).toNat :: (UF.roots u).map fun (r:Nat)=>(UF.rt v (upP t x n c (r:Int))).toNat).Nodup:=by
  refine List.nodup_cons.2 ⟨fun h=>?_,hm.1⟩
  obtain⟨a,ha,e⟩:=List.mem_map.1 h
  have ba:=bd a ha
  have ua:=R.upB ba.1 ba.2
  have ma:=sv.ok.rt_mem ua.1.1 om
  have eq:UF.rt v (upP t x n c (a:Int))=UF.rt v (ringP t x n c c):=by rw[←ma.2, ←m0.2,e]
  have:=R.back ((sv.same_iff ua.1 hb1).1 eq)
  rw[ua.2,hn0.1]at this
  exact this
 have hp:((UF.rt v (ringP t x n c c)).toNat :: (UF.roots u).map fun (r:Nat)=>(UF.rt v (upP t x n c (r:Int))).toNat).Perm (UF.roots v):=by
  refine(List.perm_ext_iff_of_nodup hnd (UF.roots_nodup v)).2 fun y=>⟨fun hy=>?_,fun hy=>?_⟩
  ·rcases List.mem_cons.1 hy with rfl|hy
   ·exact m0.1
   ·exact hm.2 y hy
  ·obtain⟨y1,y2⟩:=UF.mem_roots.1 hy
   have yb:0≤(y:Int)∧(y:Int)<(NN (addL x (aroundR t n c)):Int):=by omega
   rcases R.split yb.1 yb.2 with ⟨q,e,bq,eq⟩|⟨e,s,hs,hb,ep⟩
   ·refine List.mem_cons_of_mem _ ?_
    have mq:=su.ok.rt_mem bq.1 om
    have rq:=su.ok.rt bq.1 om
    have bb:=su.ok.bd rq bq.1 om
    refine List.mem_map.2 ⟨_,mq.1,?_⟩
    rw[mq.2]
    have c1:UF.Cls (NN x:Int) (allG (prIJ t x) t.length 0) q (UF.rt u q):=(su.cls _ _).2 ⟨bq,by omega,_,rq, .here rq.root⟩
    have c2:=R.forth c1
    rw[eq]at c2
    have:=(sv.same_iff yb (R.upB bb.1 om).1).2 c2
    rw[←this,UF.rt_of (.here y2)]
    omega
   ·obtain⟨i,j,hi,hj,es,eps⟩:=pos_at ok hs.1 hs.2.1 hs.2.2
    have sv1:SameV t (cor i j) c:=by
     rw[←es,bs_cor ok c hi j]at hb
     exact vind_one.1 hb
    have c1:=R.ring sv1 sv1
    rw[ringP_cor,es, ←ep]at c1
    have:=(sv.same_iff yb hb1).2 c1
    rw[←this,UF.rt_of (.here y2)]
    simp
 have:=hp.length_eq
 simp only[List.length_cons,List.length_map]at this
 omega
end
theorem fair_add {t:List (List Int)}{x:List Int}{n:Nat}{c:Int} (C:Cx t x (n:Int)) (hc':(addL x (aroundR t n c)).all co=true):Cx t (addL x (aroundR t n c)) (n:Int):=by
 have ok:=C.ok
 have hx:=C.hx
 have hl:x.length=(aroundR t n c).length:=by rw[aroundR_len];omega
 refine⟨ok,by rw[addL_leq _ _ hl];exact hx,hc',fun r hr=>?_⟩
 obtain⟨i,hi,rfl⟩:=List.mem_iff_getElem.1 hr
 obtain⟨a,b,d,e,_⟩:=ok.i64 (List.getElem_mem hi)
 have hf:=C.hf t[i] (List.getElem_mem hi)
 obtain⟨s0,s1,s2,s3,s4⟩:=sideOf_eq hi e
 have z0:=sideOf_in ok hi 0
 have z1:=sideOf_in ok hi 1
 have z2:=sideOf_in ok hi 2
 have e0:crd (addL x (aroundR t n c)) (sideOf t i 0)=crd x (sideOf t i 0)+(vind t c (cor i 0)+vind t c (cor i 1)):=by rw[crd_add hl z0.1 om,around_side ok c hi 0]
 have e1:crd (addL x (aroundR t n c)) (sideOf t i 1)=crd x (sideOf t i 1)+(vind t c (cor i 1)+vind t c (cor i 2)):=by rw[crd_add hl z1.1 om,around_side ok c hi 1]
 have e2:crd (addL x (aroundR t n c)) (sideOf t i 2)=crd x (sideOf t i 2)+(vind t c (cor i 2)+vind t c (cor i 0)):=by
  rw[crd_add hl z2.1 om,around_side ok c hi 2, ←cor_mod i (2+1),show(2+1) % 3=0 by omega]
 rw[s0]at e0
 rw[s1]at e1
 rw[s2]at e2
 have v0:=vind_bd t c (cor i 0)
 have v1:=vind_bd t c (cor i 1)
 have v2:=vind_bd t c (cor i 2)
 rw[e]at hf ⊢
 simp only[fairRow,decide_eq_true_iff]at hf ⊢
 rw[e0,e1,e2]
 omega
theorem ring_co {t:List (List Int)}{n:Nat}{c:Int}:(aroundR t n c).all co=true:=by
 rw[List.all_eq_true]
 intro a ha
 unfold aroundR at ha
 obtain⟨q,_,rfl⟩:=List.mem_map.1 ha
 have:=valE_bd t c ((q:Int)+1)
 unfold co
 rw[decide_eq_true_iff]
 omega
theorem crd_zero (n:Nat) (s:Int):crd (List.replicate n 0) s=0:=by
 unfold crd rd
 rw[List.getD_eq_getElem?_getD,List.getElem?_replicate]
 split <;> rfl
theorem zero_fair {t:List (List Int)}{n:Nat} (ok:TriOk t (n:Int)):Cx t (List.replicate n 0) (n:Int):=by
 refine⟨ok,by simp,?_,fun r hr=>?_⟩
 ·rw[List.all_eq_true]
  intro a ha
  obtain⟨_,rfl⟩:=List.mem_replicate.1 ha
  rfl
 ·obtain⟨a,b,d,rfl,_⟩:=ok.i64 hr
  simp[fairRow,crd_zero]
theorem zero_add:∀(y:List Int),addL (List.replicate y.length 0) y=y
 |[]=>rfl
 |b :: y=>by
  have:=zero_add y
  simp[List.replicate_succ,addL,this]
theorem zero_NN (n:Nat):NN (List.replicate n 0)=0:=by
 unfold NN
 have:∀m k,offN (List.replicate m 0) k=0:=by
  intro m
  induction m with
  |zero=>intro k;cases k <;> rfl
  |succ m ih=>
   intro k
   cases k with
   |zero=>rfl
   |succ k=>
    rw[List.replicate_succ]
    show(0:Int).toNat+offN (List.replicate m 0) k=0
    rw[ih k]
    rfl
 exact this _ _
theorem ring_fair {t:List (List Int)}{n:Nat} (ok:TriOk t (n:Int)) (c:Int):Cx t (aroundR t n c) (n:Int):=by
 have hl:=aroundR_len t n c
 have z:=zero_add (aroundR t n c)
 rw[hl]at z
 have:=fair_add (c:=c) (zero_fair ok) (by rw[z];exact ring_co)
 rwa [z]at this
/-- THE CURVE AROUND A VERTEX IS ONE CURVE. -/
theorem ring_one {t:List (List Int)}{n:Nat} (ok:TriOk t (n:Int)){c:Int} (hc:0≤c∧c<3*(t.length:Int)){v:List Int} (sv:UF.Stands v (NN (aroundR t n c):Int) (allG (prIJ t (aroundR t n c)) t.length 0)):(UF.roots v).length=1:=by
 have hl:=aroundR_len t n c
 have z:=zero_add (aroundR t n c)
 rw[hl]at z
 have R:Rg t (List.replicate n 0) n c:=⟨zero_fair ok,by rw[z];exact ring_fair ok c,hc⟩
 have C0:=zero_fair ok
 -- no points, no classes
 have noPairs:∀p,p ∉ allG (prIJ t (List.replicate n 0)) t.length 0:=by
  rintro ⟨p,q⟩ hp
  obtain⟨i,j,m,hi,hj,hm,_,_⟩:=Cx.ofPair hp
  have a:=C0.arc hi j hj
  have e1:=crd_zero n (sideOf t i j)
  omega
 have su:UF.Stands (UF.alone 0) (NN (List.replicate n 0):Int) (allG (prIJ t (List.replicate n 0)) t.length 0):=by
  rw[zero_NN]
  have h:=UF.alone_stands 0
  refine⟨h.ok,h.len,fun i j=>⟨fun h=>?_,fun h=>?_⟩⟩
  ·have:=h.bd
   omega
  ·omega
 rw[←z]at sv
 have:=R.count su sv
 have e:(UF.roots (UF.alone 0)).length=0:=by rfl
 omega
theorem isF_of {t:List (List Int)}{x:List Int}{n:Int} (C:Cx t x n) (hT:isT t=true) (he:edges t=n):isF t x=true:=by
 unfold isF
 rw[hT,he,decide_eq_true C.hx,C.hc]
 simp only[Bool.true_and]
 exact List.all_eq_true.2 C.hf
/-- r is what is left of x. -/
inductive DownR (t:List (List Int)) (n:Nat):List Int→List Int→Prop
 |done {x:List Int} (h:firstF t x (3*t.length) 0=none):DownR t n x x
 |step {x r:List Int}{q:Nat} (h:firstF t x (3*t.length) 0=some q) (k:DownR t n (subL x (aroundR t n (cr q))) r):DownR t n x r
theorem DownR.last {t:List (List Int)}{n:Nat}{x r:List Int} (h:DownR t n x r):firstF t r (3*t.length) 0=none:=by
 induction h with
 |done h=>exact h
 |step _ _ ih=>exact ih
theorem run_down {t:List (List Int)}{n:Nat} (ok:TriOk t (n:Int)):∀(s:Nat) (x:List Int),Inv t n x→sumP x≤s→∃r:List Int,DownR t n x r∧∀k,3001000+100*s<k→fI.l0 k t x=some (r,true):=by
 have hs:=ok.short
 have n9:=ok.n9
 have stop:∀(x:List Int),Inv t n x→firstF t x (3*t.length) 0=none→∀k,3001000<k→fI.l0 k t x=some (x,true):=by
  intro x h hF k hk
  obtain⟨k,rfl⟩:=sk k
  simp only[fI.l0]
  rw[loose_f ok h k om,Option.bind_some,hF]
  rfl
 intro s
 induction s with
 |zero=>
  intro x h h0
  cases hF:firstF t x (3*t.length) 0 with
  |some r=>
   obtain⟨f1,f2,f3⟩:=firstF_some _ _ _ hF
   have st:=h.step ok (k0:=r / 3) (i0:=r % 3) om om f3
   have:=sumP_nn _ (fun a ha=>(co_at st.1.cs ha).1)
   omega
  |none=>exact⟨x, .done hF,fun k hk=>stop x h hF k om⟩
 |succ s ih=>
  intro x h h0
  cases hF:firstF t x (3*t.length) 0 with
  |some r=>
   obtain⟨f1,f2,f3⟩:=firstF_some _ _ _ hF
   have hra:r / 3<t.length:=by omega
   have st:=h.step ok (k0:=r / 3) (i0:=r % 3) hra om f3
   have hl:x.length=(aroundR t n (cr r)).length:=by rw[aroundR_len];exact h.len
   have hxl:=h.len
   have hb:∀(i:Nat) (h1:i<x.length) (h2:i<(aroundR t n (cr r)).length), -1000≤x[i] - (aroundR t n (cr r))[i]∧x[i] - (aroundR t n (cr r))[i]≤1000:=by
    intro i h1 h2
    have a1:=co_at h.cs (List.getElem_mem h1)
    have a2:=co_at (ring_co (t:=t) (n:=n) (c:=cr r)) (List.getElem_mem h2)
    omega
   obtain⟨rr,i1,i2⟩:=ih _ st.1 om
   refine⟨rr, .step hF i1,fun k hk=>?_⟩
   obtain⟨k,rfl⟩:=sk k
   simp only[fI.l0]
   have sa:=mB ok (i:=r / 3) (j:=r % 3) hra om k om
   have e:=mN t x (aroundR t n (cr r)) hl om hb x.length 0 k om om
   have e':fI.l1 k t x (aroundR t n (cr r)) 0=fI.l0 (k - x.length - 1) t (subL x (aroundR t n (cr r))):=e
   have nn:¬((lres (some r)).1<0):=by
    show ¬(((r / 3:Nat):Int)<0)
    omega
   rw[loose_f ok h k om,Option.bind_some,hF,ig nn]
   show(gI.f k t ((r / 3:Nat):Int) ((r % 3:Nat):Int)).bind _=_
   rw[sa,Option.bind_some]
   exact e'.trans (i2 _ om)
  |none=>exact⟨x, .done hF,fun k hk=>stop x h hF k om⟩
theorem addL_subL:∀(x y:List Int),x.length=y.length→addL (subL x y) y=x
 |[],[],_=>rfl
 |[],_ :: _,h=>by simp at h
 |_ :: _,[],h=>by simp at h
 |a :: x,b :: y,h=>by
  have:=addL_subL x y (by simpa using h)
  simp[subL,addL,this]
theorem Cx.inv {t:List (List Int)}{n:Nat}{x:List Int} (C:Cx t x (n:Int)):Inv t n x:=
 ⟨by have:=C.hx;omega,C.hc,fun i hi j hj=>(C.arc hi j hj).2.1⟩
theorem fair_sub {t:List (List Int)}{x:List Int}{n:Nat}{c:Int} (C:Cx t x (n:Int)) (h:Inv t n (subL x (aroundR t n c))):Cx t (subL x (aroundR t n c)) (n:Int):=by
 have ok:=C.ok
 have hx:=C.hx
 have hl:x.length=(aroundR t n c).length:=by rw[aroundR_len];omega
 have hl2:(subL x (aroundR t n c)).length=(aroundR t n c).length:=by rw[subL_len _ _ hl,hl]
 have he:=addL_subL x (aroundR t n c) hl
 refine⟨ok,by rw[h.len],h.cs,fun r hr=>?_⟩
 obtain⟨i,hi,rfl⟩:=List.mem_iff_getElem.1 hr
 obtain⟨a,b,d,e,_⟩:=ok.i64 (List.getElem_mem hi)
 have hf:=C.hf t[i] (List.getElem_mem hi)
 obtain⟨s0,s1,s2,s3,s4⟩:=sideOf_eq hi e
 have z0:=sideOf_in ok hi 0
 have z1:=sideOf_in ok hi 1
 have z2:=sideOf_in ok hi 2
 have e0:crd x (sideOf t i 0)=crd (subL x (aroundR t n c)) (sideOf t i 0)+(vind t c (cor i 0)+vind t c (cor i 1)):=by
  have:=crd_add hl2 z0.1 om
  rwa [he,around_side ok c hi 0]at this
 have e1:crd x (sideOf t i 1)=crd (subL x (aroundR t n c)) (sideOf t i 1)+(vind t c (cor i 1)+vind t c (cor i 2)):=by
  have:=crd_add hl2 z1.1 om
  rwa [he,around_side ok c hi 1]at this
 have e2:crd x (sideOf t i 2)=crd (subL x (aroundR t n c)) (sideOf t i 2)+(vind t c (cor i 2)+vind t c (cor i 0)):=by
  have:=crd_add hl2 z2.1 om
  rwa [he,around_side ok c hi 2, ←cor_mod i (2+1),show(2+1) % 3=0 by omega]at this
 have g0:=h.ge i hi 0 om
 have g1:=h.ge i hi 1 om
 have g2:=h.ge i hi 2 om
 unfold tw at g0 g1 g2
 rw[s0,show(0+1)=1 from rfl,s1,show(0+2)=2 from rfl,s2]at g0
 rw[s1,show(1+1)=2 from rfl,s2,show(1+2)=3 from rfl,s3]at g1
 rw[s2,show(2+1)=3 from rfl,s3,show(2+2)=4 from rfl,s4]at g2
 rw[s0]at e0
 rw[s1]at e1
 rw[s2]at e2
 rw[e]at hf ⊢
 simp only[fairRow,decide_eq_true_iff]at hf ⊢
 omega
theorem DownR.all {t:List (List Int)}{n:Nat}{x r:List Int} (h:DownR t n x r):Cx t x (n:Int)→Cx t r (n:Int)∧sumP r≤sumP x∧∀u v,UF.Stands u (NN x:Int) (allG (prIJ t x) t.length 0)→UF.Stands v (NN r:Int) (allG (prIJ t r) t.length 0)→(UF.roots v).length≤(UF.roots u).length:=by
 induction h with
 |done h=>
  intro C
  refine⟨C,by omega,fun u v su sv=>?_⟩
  have:=(UF.roots_perm sv su (fun i j=>Iff.rfl)).length_eq
  rw[List.length_map]at this
  omega
 |@step x r q hF k ih=>
  intro C
  have ok:=C.ok
  have hs:=ok.short
  obtain⟨f1,f2,f3⟩:=firstF_some _ _ _ hF
  have hra:q / 3<t.length:=by omega
  have st:=C.inv.step ok (k0:=q / 3) (i0:=q % 3) hra om f3
  have hl:x.length=(aroundR t n (cr q)).length:=by rw[aroundR_len];exact C.inv.len
  have he:=addL_subL x (aroundR t n (cr q)) hl
  have Cy:Cx t (subL x (aroundR t n (cr q))) (n:Int):=fair_sub C st.1
  obtain⟨a,b,d⟩:=ih Cy
  have hp:=sumP_sub x (aroundR t n (cr q)) hl
  have hn:=sumP_nn (aroundR t n (cr q)) (fun z hz=>(co_at (ring_co (t:=t) (n:=n) (c:=cr q)) hz).1)
  refine⟨a,by omega,fun u v su sv=>?_⟩
  obtain⟨ys,_,sy⟩:=sp_f Cy 20001 om
  have R:Rg t (subL x (aroundR t n (cr q))) n (cr q):=⟨Cy,by rw[he];exact C,cor_bd hra _⟩
  have:=R.count sy (by rw[he];exact su)
  have:=d ys v sy sv
  omega
end Go.Proofs.Ytflbpjijgnmklaa.L

namespace Go.Proofs.Ytflbpjijgnmklaa.L
open Go Go.RowKit Go.Proofs.Ytflbpjijgnmklaa.P Go.Proofs.Ytflbpjijgnmklaa.Help Go.Proofs.YtflbpjijgnmklaaW.PrintWords
set_option linter.unusedVariables false
set_option linter.unusedSimpArgs false
/-- The texts of the drawn triangulations. -/
def L6:List ByteArray:=[(⟨#[97,98,99,32,65,66,67]⟩:ByteArray),(⟨#[97,98,99,32,65,67,66]⟩:ByteArray),(⟨#[97,98,99,32,65,100,101,32,66,68,102,32,67,70,69]⟩:ByteArray),(⟨#[97,98,67,32,66,100,101,32,99,68,102,32,65,69,70]⟩:ByteArray),(⟨#[97,98,99,32,65,100,101,32,66,102,68,32,67,70,69]⟩:ByteArray),(⟨#[97,98,99,32,65,100,101,32,102,66,103,32,68,69,104,32,67,72,105,32,70,73,71]⟩:ByteArray)]
theorem L6_ok:∀s∈L6,(parseT s).2=true∧s.size≤100:=by decide+kernel
/-- The drawn triangulations, and those with one letter turned. -/
def T30:List (List (List Int)):=L6.flatMap fun s=>(parseT s).1 :: [0,2,(-1),9].map fun v=>(parseT s).1.set 0 (((parseT s).1.getD 0 []).set 0 v)
/-- The text of a drawn triangulation is read as it is. -/
theorem T30_ok:∀t∈T30,isT t=true→parseT (triT t)=(t,true):=by decide+kernel
theorem none_ok:parseT (⟨#[]⟩:ByteArray)=([],false):=by decide+kernel
theorem T30_mem {s:ByteArray} (h:s∈L6):(parseT s).1∈T30:=List.mem_flatMap.2 ⟨s,h,by simp⟩
theorem T30_set {s:ByteArray} (h:s∈L6){v:Int} (hv:v∈[0,2,(-1),9]):(parseT s).1.set 0 (((parseT s).1.getD 0 []).set 0 v)∈T30:=List.mem_flatMap.2 ⟨s,h,List.mem_cons_of_mem _ (List.mem_map.2 ⟨v,hv,rfl⟩)⟩
theorem tri15_eq (k:Nat) (b:List Int) (i h:Int):jP.f k b i h=(jI.f b i h L6).bind fun bt=>(fP.f k bt.1).bind fun p=>if(p.1.length:Int)=0 then none else some (p.1,bt.2.1,bt.2.2):=rfl
theorem tri15_ok {b:List Int}{i:Int} (h:Int) (hc:Cur b i) (k:Nat) (hk:9000000<k):∃t i' h',jP.f k b i h=some (t,i',h')∧isT t=true∧t.length≤6∧Cur b i'∧∃s∈L6,t=(parseT s).1:=by
 rw[tri15_eq]
 obtain⟨s,i1,h1,e1,hs,c1⟩:=pick_ok h L6 hc (by decide)
 obtain⟨g1,g2⟩:=L6_ok s hs
 rw[e1,Option.bind_some]
 dsimp only
 rw[mH s om k hk,Option.bind_some]
 rcases parseT_cases s om with p|⟨o,p,q1,q2,_⟩
 ·rw[p]at g1
  exact absurd g1 (by simp)
 ·have:=(isT_ok om q1).short
  rw[p]
  dsimp only
  rw[ig om]
  exact⟨o,i1,h1,rfl,q1,q2,c1,s,hs,by rw[p]⟩
theorem addL_bd:∀(x y:List Int) (p q:Int),(∀a∈x,0≤a∧a≤p)→(∀a∈y,0≤a∧a≤q)→∀a∈addL x y,0≤a∧a≤p+q
 |[],y,p,q,hx,hy,a,ha=>by simp[addL]at ha
 |u :: x,[],p,q,hx,hy,a,ha=>by simp[addL]at ha
 |u :: x,v :: y,p,q,hx,hy,a,ha=>by
  have h1:=hx u (by simp)
  have h2:=hy v (by simp)
  simp only[addL,List.mem_cons]at ha
  rcases ha with rfl|ha
  ·omega
  ·exact addL_bd x y p q (fun z hz=>hx z (by simp[hz])) (fun z hz=>hy z (by simp[hz])) a ha
theorem ring_two {t:List (List Int)}{n:Nat}{c:Int}:∀a∈aroundR t n c,0≤a∧a≤2:=by
 intro a ha
 unfold aroundR at ha
 obtain⟨q,_,rfl⟩:=List.mem_map.1 ha
 have:=valE_bd t c ((q:Int)+1)
 omega
theorem co_all {x:List Int} (h:∀a∈x,0≤a∧a≤200):x.all co=true:=by
 rw[List.all_eq_true]
 intro a ha
 unfold co
 rw[decide_eq_true_iff]
 exact h a ha
theorem getD_tt {t:List (List Int)} (h:0<t.length):t.getD 0 []=t[0]:=by
 simp[List.getD_eq_getElem?_getD,List.getElem?_eq_getElem h]
/-- What a draw tells. -/
structure Good (b:List Int) (t:List (List Int)) (x:List Int) (i:Int):Prop where
 len:t.length≤6
 row:∀r∈t,r.length=3
 xs:x.length≤9
 cur:Cur b i
 mem:t∈T30
theorem draw_end {b:List Int}{t:List (List Int)}{n:Nat} (ok:TriOk t (n:Int)) (ex:∃s∈L6,t=(parseT s).1) (k:Nat) (x:List Int) (i h:Int) (x8:Int) (h8:¬x8<12) (hc:Cur b i) (hx:x.length=n) (hk:0<k):∃t' x' i' h',fO.l1 k t x x8 b i h=some (t',x',i',h')∧Good b t' x' i':=by
 obtain⟨k,rfl⟩:=sk k
 have n3:=ok.n3
 have n9:=ok.n9
 have hs:=ok.short
 obtain⟨z,hz,ez⟩:=ex
 have hm:t∈T30:=by rw[ez];exact T30_mem hz
 simp only[fO.l1]
 rw[ig h8]
 obtain⟨a,i1,h1,e1,_,_,c1⟩:=below_ok h 18 hc (by decide)
 rw[e1,Option.bind_some]
 dsimp only
 by_cases a0:a=0
 ·rw[ip a0]
  obtain⟨v,i2,h2,e2,_,c2⟩:=pickInt_ok h1 [(-1),201,1,3] c1 (by decide)
  rw[e2,Option.bind_some,ip om]
  exact⟨_,_,_,_,rfl,by omega,ok.row,by rw[List.length_set];omega,c2,hm⟩
 ·rw[ig a0]
  by_cases a1:a=1
  ·rw[ip a1,ip om]
   exact⟨_,_,_,_,rfl,by omega,ok.row,by rw[List.length_drop];omega,c1,hm⟩
  ·rw[ig a1]
   by_cases a2:a=2
   ·have r0:rd_L1 t 0=t[0]:=rdL_nat t 0 om
    have l3:t[0].length=3:=ok.three om
    obtain⟨v,i2,h2,e2,hv,c2⟩:=pickInt_ok h1 [0,2,(-1),9] c1 (by decide)
    have ht0:t.set 0 (t[0].set 0 v)∈T30:=by
     have:=T30_set hz hv
     rw[←ez]at this
     rwa [getD_tt om]at this
    rw[ip a2,ip om,e2,Option.bind_some,r0,ip om]
    refine⟨_,_,_,_,rfl,by rw[List.length_set];omega,?_,by omega,c2,ht0⟩
    intro r hr
    rcases List.mem_or_eq_of_mem_set hr with hr|rfl
    ·exact ok.row r hr
    ·rw[List.length_set];exact l3
   ·rw[ig a2]
    exact⟨_,_,_,_,rfl,by omega,ok.row,by omega,c1,hm⟩
theorem set_co {x:List Int}{p:Nat}{v:Int} (h:∀a∈x,0≤a∧a≤200) (hv:0≤v∧v<7):∀a∈x.set p v,0≤a∧a≤200:=by
 intro a ha
 rcases List.mem_or_eq_of_mem_set ha with ha|rfl
 ·exact h a ha
 ·omega
theorem draw_l1 {b:List Int}{t:List (List Int)}{n:Nat} (ok:TriOk t (n:Int)) (ex:∃s∈L6,t=(parseT s).1) (ht:t.length≤1048576):∀(d k:Nat) (x:List Int) (x8 i h:Int),x8+(d:Int)=12→0≤x8→Cur b i→x.length=n→(∀a∈x,0≤a∧a≤200)→9000000+d<k→∃t' x' i' h',fO.l1 k t x x8 b i h=some (t',x',i',h')∧Good b t' x' i'
 |0,k,x,x8,i,h,e8,p8,hc,hx,hb,hk=>draw_end ok ex k x i h x8 om hc hx om
 |d+1,k,x,x8,i,h,e8,p8,hc,hx,hb,hk=>by
  obtain⟨k,rfl⟩:=sk k
  have n3:=ok.n3
  have n9:=ok.n9
  simp only[fO.l1]
  rw[ip om,Option.bind_some,ip (by simp;omega),Option.bind_some,List.nil_append]
  obtain⟨p,i1,h1,e1,p0,p1,c1⟩:=below_ok h (x.length:Int) hc om
  rw[e1,Option.bind_some]
  dsimp only
  obtain⟨v,i2,h2,e2,v0,v1,c2⟩:=below_ok h1 7 c1 (by decide)
  rw[e2,Option.bind_some]
  dsimp only
  rw[ip p0,ip p1]
  obtain⟨q,i3,h3,e3,q0,q1,c3⟩:=below_ok h2 (x.length:Int) c2 om
  rw[e3,Option.bind_some]
  dsimp only
  obtain⟨u,i4,h4,e4,u0,u1,c4⟩:=below_ok h3 7 c3 (by decide)
  rw[e4,Option.bind_some]
  dsimp only
  rw[ip q0,ip q1,Option.bind_some,jT t ht _ k om,Option.bind_some,w_id (a:=x8+1) om om]
  by_cases f:isF t ((x.set p.toNat v).set q.toNat u)=true
  ·rw[ip f]
   exact draw_l1 ok ex ht d k _ (x8+1) i4 h4 om om c4 (by rw[List.length_set,List.length_set];exact hx) (set_co (set_co hb ⟨v0,v1⟩) ⟨u0,u1⟩) om
  ·rw[ig f]
   exact draw_l1 ok ex ht d k _ (x8+1) i4 h4 om om c4 hx hb om
theorem draw_l0 {b:List Int}{t:List (List Int)}{n:Nat} (ok:TriOk t (n:Int)) (ex:∃s∈L6,t=(parseT s).1) (ht:t.length≤1048576):∀(d k:Nat) (x:List Int) (x6 i h:Int),x6≤(d:Int)→d≤3→Cur b i→x.length=n→(∀a∈x,0≤a∧a≤2*(3 - (d:Int)))→9000100+d<k→∃t' x' i' h',fO.l0 k t x x6 b i h=some (t',x',i',h')∧Good b t' x' i':=by
 intro d
 induction d with
 |zero=>
  intro k x x6 i h e6 _ hc hx hb hk
  obtain⟨k,rfl⟩:=sk k
  simp only[fO.l0]
  rw[ig om]
  exact draw_l1 ok ex ht 12 k x 0 i h (by decide) (by decide) hc hx (fun a ha=>by have:=hb a ha;omega) om
 |succ d ih=>
  intro k x x6 i h e6 d3 hc hx hb hk
  obtain⟨k,rfl⟩:=sk k
  have n3:=ok.n3
  have n9:=ok.n9
  have hs:=ok.short
  simp only[fO.l0]
  by_cases c:x6>0
  ·rw[ip c]
   obtain⟨p,i1,h1,e1,p0,p1,c1⟩:=below_ok h (t.length:Int) hc om
   rw[e1,Option.bind_some]
   dsimp only
   obtain⟨q,i2,h2,e2,q0,q1,c2⟩:=below_ok h1 3 c1 (by decide)
   rw[e2,Option.bind_some]
   dsimp only
   obtain⟨p,rfl⟩:=Int.eq_ofNat_of_zero_le p0
   obtain⟨q,rfl⟩:=Int.eq_ofNat_of_zero_le q0
   have hy:=aroundR_len t n (cor p (q+1))
   have hb2:=addL_bd x (aroundR t n (cor p (q+1))) _ 2 hb ring_two
   have ha:addR x (aroundR t n (cor p (q+1)))=(addL x (aroundR t n (cor p (q+1))),true):=by
    unfold addR
    rw[ip ⟨by omega,co_all (fun a ha=>by have:=hb a ha;omega),ring_co,co_all (fun a ha=>by have:=hb2 a ha;omega)⟩]
   rw[mB ok (i:=p) (j:=q) om om k om,Option.bind_some,pD x _ om k om,ha,Option.bind_some,w_id (a:=x6 - 1) om om]
   dsimp only
   exact ih k _ (x6 - 1) i2 h2 om om c2 (by rw[addL_leq _ _ om];exact hx) (fun a ha=>by have:=hb2 a ha;omega) om
  ·rw[ig c]
   exact draw_l1 ok ex ht 12 k x 0 i h (by decide) (by decide) hc hx (fun a ha=>by have:=hb a ha;omega) om
theorem draw15_ok {b:List Int}{i:Int} (h:Int) (hc:Cur b i) (k:Nat) (hk:9001000<k):∃t x i' h',fO.f k b i h=some (t,x,i',h')∧Good b t x i':=by
 unfold fO.f
 obtain⟨t,i1,h1,e1,hT,hl,c1,ex⟩:=tri15_ok h hc k om
 have ok0:=isT_ok om hT
 obtain⟨n,hn⟩:∃n:Nat,edges t=(n:Int):=⟨(edges t).toNat,by have:=ok0.n3;omega⟩
 have ed:wrap64 (Int.tdiv (wrap64 (3*(t.length:Int))) 2)=(n:Int):=hn
 rw[hn]at ok0
 have n9:=ok0.n9
 clear hn
 rw[e1,Option.bind_some]
 dsimp only
 rw[ed,ip om,ip om]
 obtain⟨a,i2,h2,e2,a0,a1,c2⟩:=below_ok h1 3 c1 (by decide)
 rw[e2,Option.bind_some]
 dsimp only
 rw[w_id (a:=1+a) om om,Int.toNat_natCast]
 exact draw_l0 ok0 ex om 3 k _ _ i2 h2 om om c2 (by simp) (fun z hz=>by obtain⟨_,rfl⟩:=List.mem_replicate.1 hz;omega) om
theorem drawCL_ok (l:List Int) (hl:l.length≤1048576) (k:Nat) (hk:9001000<k):∃t x,jD.f k l=some (t,x)∧Good l t x 0:=by
 unfold jD.f
 obtain⟨h0,e0⟩:=new_ok l hl k om
 rw[e0,Option.bind_some]
 dsimp only
 obtain⟨t,x,i1,h1,e1,g⟩:=draw15_ok h0 (Cur.start hl) k hk
 rw[e1]
 exact⟨t,x,rfl,g.len,g.row,g.xs,Cur.start hl,g.mem⟩
theorem case15_ok (l:List Int) (hl:l.length≤1048576) (k:Nat) (hk:9001000<k):∃t x a b,jL.f k l=some (t,x,a,b)∧Good l t x 0:=by
 unfold jL.f
 obtain⟨h0,e0⟩:=new_ok l hl k om
 rw[e0,Option.bind_some]
 dsimp only
 obtain⟨t,x,i1,h1,e1,g⟩:=draw15_ok h0 (Cur.start hl) k hk
 rw[e1,Option.bind_some]
 dsimp only
 have:=g.len
 rw[w_id (a:=(t.length:Int)+1) om om]
 obtain⟨a,i2,h2,e2,_,_,c2⟩:=below_ok h1 ((t.length:Int)+1) g.cur om
 rw[e2,Option.bind_some]
 dsimp only
 obtain⟨o,i3,h3,e3,c3⟩:=once_ok h2 14 c2 (by decide)
 rw[e3,Option.bind_some]
 dsimp only
 rw[bit_ok,Option.bind_some]
 obtain⟨c,i4,h4,e4,_,_,c4⟩:=below_ok h3 3 c3 (by decide)
 rw[e4,Option.bind_some]
 exact⟨t,x,_,_,rfl,g.len,g.row,g.xs,Cur.start hl,g.mem⟩
theorem drawArcs_ok (l:List Int) (hl:l.length≤1048576) (k:Nat) (hk:9001000<k):∃t x a b,jR.f k l=some (t,x,a,b)∧Good l t x 0:=by
 unfold jR.f
 obtain⟨t,x,a,b,e,g⟩:=case15_ok l hl k hk
 rw[e]
 exact⟨t,x,a,b,rfl,g⟩
theorem drawVC_ok (l:List Int) (hl:l.length≤1048576) (k:Nat) (hk:9001000<k):∃t a b,jE.f k l=some (t,a,b)∧t.length≤6∧∀r∈t,r.length=3:=by
 unfold jE.f
 obtain⟨t,x,a,b,e,g⟩:=case15_ok l hl k hk
 rw[e]
 exact⟨t,a,b,rfl,g.len,g.row⟩
theorem drawAdd_ok (l:List Int) (hl:l.length≤1048576) (k:Nat) (hk:9001000<k):∃p q,jA.f k l=some (p,q)∧p.length≤9∧q.length≤9:=by
 unfold jA.f
 obtain⟨h0,e0⟩:=new_ok l hl k om
 rw[e0,Option.bind_some]
 dsimp only
 obtain⟨t,x,i1,h1,e1,g⟩:=draw15_ok h0 (Cur.start hl) k hk
 rw[e1,Option.bind_some]
 dsimp only
 obtain⟨s,y,i2,h2,e2,g2⟩:=draw15_ok h1 g.cur k hk
 rw[e2,Option.bind_some]
 dsimp only
 obtain⟨o,i3,h3,e3,c3⟩:=once_ok h2 2 g2.cur (by decide)
 have x9:=g.xs
 rw[e3,Option.bind_some]
 dsimp only
 by_cases ho:o=true
 ·rw[ip ho,Option.bind_some,ip (by simp;omega),List.nil_append]
  exact⟨x,x,rfl,x9,x9⟩
 ·rw[ig ho]
  exact⟨x,y,rfl,x9,g2.xs⟩
theorem size_mk (l:List UInt8):(⟨l.toArray⟩:ByteArray).size=l.length:=by
 show l.toArray.size=l.length
 simp
theorem triT_size {t:List (List Int)} (ht:t.length≤1000):(triT t).size≤4000:=by
 unfold triT
 split
 ·have:=JJ_len (L:=texts t) (texts_small t) t.length (by rw[texts_len];omega)
  rw[size_mk]
  omega
 ·decide
theorem turned_ok {b:List Int}{i:Int} (h:Int) (s:ByteArray) (L:List ByteArray) (hs:s.size≤100000) (hL:∀p∈L,p.size≤10) (hl:0<L.length) (hc:Cur b i):∃s' i' h',gU.f b i h s L=some (s',i',h')∧s'.size≤s.size+10∧Cur b i':=by
 unfold gU.f
 rw[w_id (a:=(s.size:Int)+1) om om]
 obtain⟨p,i1,h1,e1,p0,p1,c1⟩:=below_ok h ((s.size:Int)+1) hc om
 rw[e1,Option.bind_some]
 dsimp only
 obtain⟨q,i2,h2,e2,q0,q1,c2⟩:=below_ok h1 6 c1 (by decide)
 rw[e2,Option.bind_some]
 dsimp only
 by_cases a0:q=0
 ·rw[ip a0,ip p0,ip om]
  obtain⟨u,i3,h3,e3,hu,c3⟩:=pick_ok h2 L c2 hl
  have:=hL u hu
  have s1:(s.extract 0 p.toNat).size≤s.size:=by rw[ByteArray.size_extract];omega
  have s2:(s.extract p.toNat s.size).size+p.toNat=s.size:=by rw[ByteArray.size_extract];omega
  have s3:(s.extract 0 p.toNat).size=p.toNat:=by rw[ByteArray.size_extract];omega
  rw[e3,Option.bind_some]
  dsimp only
  rw[ip om,ip (by rw[ByteArray.size_append];omega)]
  exact⟨_,_,_,rfl,by rw[ByteArray.size_append,ByteArray.size_append];omega,c3⟩
 ·rw[ig a0]
  by_cases a1:q=1
  ·rw[ip a1,ip p0,ip om]
   exact⟨_,_,_,rfl,by rw[ByteArray.size_extract];omega,c2⟩
  ·rw[ig a1]
   exact⟨_,_,_,rfl,by omega,c2⟩
theorem drawPT_ok (l:List Int) (hl:l.length≤1048576) (k:Nat) (hk:9001000<k):∃s,jJ.f k l=some s∧s.size≤100000:=by
 unfold jJ.f
 obtain⟨h0,e0⟩:=new_ok l hl k om
 rw[e0,Option.bind_some]
 dsimp only
 obtain⟨t,i1,h1,e1,hT,hl6,c1,_⟩:=tri15_ok h0 (Cur.start hl) k om
 rw[e1,Option.bind_some]
 dsimp only
 have:=triT_size (t:=t) om
 rw[pL t om k om,Option.bind_some]
 obtain⟨s',i2,h2,e2,s2,c2⟩:=turned_ok h1 (triT t) [(⟨#[32]⟩:ByteArray),(⟨#[97]⟩:ByteArray),(⟨#[67]⟩:ByteArray),(⟨#[106]⟩:ByteArray),(⟨#[98]⟩:ByteArray)] om (by decide) (by decide) c1
 rw[e2,Option.bind_some]
 exact⟨s',rfl,by omega⟩
end Go.Proofs.Ytflbpjijgnmklaa.L

namespace Go.Proofs.Ytflbpjijgnmklaa.L
open Go.RowKit Go.Proofs.Ytflbpjijgnmklaa.P Go.Proofs.Ytflbpjijgnmklaa.Help Go.Proofs.YtflbpjijgnmklaaW.PrintWords Go.Proofs.YtflbpjijgnmklaaW.PrintLast Go.Proofs.YtflbpjijgnmklaaW.PrintMore
set_option linter.unusedVariables false
set_option linter.unusedSimpArgs false

/-- How many of the numbers below i have this root. -/
noncomputable def szI (up:List Int) (i:Nat) (r:Nat):Nat:=((List.range i).filter fun (k:Nat)=>decide (UF.rt up (k:Int)=(r:Int))).length
theorem szI_succ (up:List Int) (i r:Nat):szI up (i+1) r=szI up i r+(if UF.rt up (i:Int)=(r:Int)then 1 else 0):=by
 unfold szI
 rw[List.range_succ,List.filter_append,List.length_append]
 congr 1
 by_cases h:UF.rt up (i:Int)=(r:Int)
 ·rw[ip h];simp[h]
 ·rw[ig h];simp[h]
theorem szI_le (up:List Int) (r:Nat):∀i,szI up i r≤i
 |0=>Nat.le_refl _
 |i+1=>by
  have:=szI_le up r i
  rw[szI_succ]
  split <;> omega
noncomputable def szL (up:List Int) (i:Nat):List Int:=(List.range up.length).map fun (r:Nat)=>(szI up i r:Int)
theorem szL_len (up:List Int) (i:Nat):(szL up i).length=up.length:=by simp[szL]
theorem szL_get (up:List Int) (i:Nat){r:Nat} (h:r<(szL up i).length):(szL up i)[r]=(szI up i r:Int):=by simp[szL]
theorem szL_step {up:List Int}{i r:Nat} (hr:r<up.length) (e:UF.rt up (i:Int)=(r:Int)):(szL up i).set r ((szI up i r:Int)+1)=szL up (i+1):=by
 apply List.ext_getElem
 ·simp[szL]
 ·intro j h1 h2
  have hj:j<up.length:=by rw[szL_len]at h2;exact h2
  rw[List.getElem_set,szL_get up (i+1) h2,szI_succ]
  by_cases c:r=j
  ·subst c
   rw[ip rfl,ip e]
   omega
  ·rw[ig c,szL_get up i (by rw[szL_len];exact hj),ig (by rw[e];omega)]
   rfl
theorem szL_zero (up:List Int):szL up 0=List.replicate up.length 0:=by
 apply List.ext_getElem
 ·simp[szL]
 ·intro j h1 h2
  rw[szL_get]
  simp[szI]
theorem len_l0 {up:List Int} (hok:UF.Ok up) (hu:up.length≤1800):∀(d k i:Nat),i+d=up.length→2000+d<k→fN.l0 k [] up (szL up i) (i:Int)=fN.l1 (k - d - 1) [] (szL up up.length) 0
 |0,k,i,hi,hk=>by
  obtain⟨k,rfl⟩:=sk k
  conv=>lhs;simp only[fN.l0]
  rw[ig om,show i=up.length by omega,show k+1 - 0 - 1=k by omega]
 |d+1,k,i,hi,hk=>by
  obtain⟨k,rfl⟩:=sk k
  have hr:=hok.rt (i:=(i:Int)) om om
  have hb:=hok.bd hr om om
  obtain⟨r,er⟩:∃r:Nat,UF.rt up (i:Int)=(r:Int):=⟨(UF.rt up (i:Int)).toNat,by omega⟩
  have hrl:r<(szL up i).length:=by rw[szL_len];omega
  have hrl2:r<up.length:=by omega
  have hle:=szI_le up r i
  have ih:=len_l0 hok hu d k (i+1) om om
  have hlen:=szL_len up i
  conv=>lhs;simp only[fN.l0]
  rw[ip om,find3_f hok om om om,Option.bind_some,Option.bind_some,er,ip om,ip om,ip om,ip om,rd_nat _ r hrl,szL_get,w_id (a:=(szI up i r:Int)+1) om om,Int.toNat_natCast,szL_step hrl2 er,w_id (a:=(i:Int)+1) om om,show((i:Int)+1)=((i+1:Nat):Int) by omega,show k+1 - (d+1) - 1=k - d - 1 by omega]
  exact ih
/-- The sizes that are not 0. -/
noncomputable def posL (up:List Int):Nat→Nat→List Int
 |0,_=>[]
 |d+1,i=>if szI up up.length i>0 then(szI up up.length i:Int) :: posL up d (i+1)else posL up d (i+1)
theorem put_l0 (l:List Int) (v:Int) (hs:l.Pairwise (· ≤ ·)) (hl:l.length≤2000):∀(q k:Nat),q≤l.length→(∀h:q<l.length,v<l[q])→q<k→jB.l0 k l v (q:Int)=some (UF.ins l v)
 |0,k,hq,hv,hk=>by
  obtain⟨k,rfl⟩:=sk k
  have e:=UF.ins_at l v 0 om (fun j hj=>absurd hj om) hv
  conv=>lhs;simp only[jB.l0]
  rw[ig om,Option.bind_some,ip om,ip om,Option.bind_some,Int.toNat_natCast,ip (by simp;omega),Option.bind_some,Option.bind_some,ip (by simp),Option.bind_some,ip (by simp;omega),List.nil_append,List.append_assoc]
  rw[←e]
  rfl
 |q+1,k,hq,hv,hk=>by
  obtain⟨k,rfl⟩:=sk k
  have hlt:q<l.length:=by omega
  conv=>lhs;simp only[jB.l0]
  rw[ip om,w_id (a:=((q+1:Nat):Int) - 1) om om,show(((q+1:Nat):Int) - 1)=(q:Int) by omega,ip om,ip om,rd_nat l q hlt]
  by_cases c:l[q]>v
  ·rw[ip c]
   exact put_l0 l v hs hl q k om (fun _=>c) om
  ·have e:=UF.ins_at l v (q+1) om (fun j hj h=>by
    by_cases ej:j=q
    ·subst ej;omega
    ·have:=List.pairwise_iff_getElem.1 hs j q h hlt om
     omega) hv
   rw[ig c,Option.bind_some,ip om,ip om,Option.bind_some,Int.toNat_natCast,ip (by simp;omega),Option.bind_some,Option.bind_some,ip (by rw[List.length_take];omega),Option.bind_some,ip (by simp;omega),List.nil_append,List.append_assoc]
   rw[←e]
   rfl
theorem put_f (l:List Int) (v:Int) (hs:l.Pairwise (· ≤ ·)) (hl:l.length≤2000) (k:Nat) (hk:2000<k):jB.f k l v=some (UF.ins l v):=by
 unfold jB.f
 exact put_l0 l v hs hl l.length k (Nat.le_refl _) (fun h=>absurd h (Nat.lt_irrefl _)) om
theorem len_l1 {up:List Int} (hu:up.length≤1800):∀(d k i:Nat) (out:List Int),i+d=up.length→2100+d<k→out.Pairwise (· ≤ ·)→out.length≤i→fN.l1 k out (szL up up.length) (i:Int)=some (UF.isort (posL up d i) out)
 |0,k,i,out,hi,hk,hs,ho=>by
  obtain⟨k,rfl⟩:=sk k
  have hlen:=szL_len up up.length
  conv=>lhs;simp only[fN.l1]
  rw[ig om]
  rfl
 |d+1,k,i,out,hi,hk,hs,ho=>by
  obtain⟨k,rfl⟩:=sk k
  have hlen:=szL_len up up.length
  have hrl:i<(szL up up.length).length:=by omega
  conv=>lhs;simp only[fN.l1]
  rw[ip om,ip om,rd_nat _ i hrl,szL_get,w_id (a:=(i:Int)+1) om om,show((i:Int)+1)=((i+1:Nat):Int) by omega,posL]
  by_cases c:szI up up.length i>0
  ·have hil:=(UF.ins_perm (szI up up.length i:Int) out).length_eq
   rw[List.length_cons]at hil
   rw[ip om,ip c,put_f out _ hs om k om,Option.bind_some]
   exact len_l1 hu d k (i+1) _ om om (UF.ins_sorted _ out hs) om
  ·rw[ig om,ig c]
   exact len_l1 hu d k (i+1) out om om hs om
theorem szI_pos {up:List Int} (hok:UF.Ok up){r:Nat} (hr:r<up.length):szI up up.length r>0↔UF.P up (r:Int)=(r:Int):=by
 constructor
 ·intro h
  unfold szI at h
  obtain⟨k,hk⟩:=List.exists_mem_of_length_pos h
  obtain⟨h1,h2⟩:=List.mem_filter.1 hk
  rw[List.mem_range]at h1
  have e:UF.rt up (k:Int)=(r:Int):=by simpa using h2
  have:=(hok.rt (i:=(k:Int)) om om).root
  rw[e]at this
  exact this
 ·intro h
  have e:UF.rt up (r:Int)=(r:Int):=UF.rt_of (.here h)
  unfold szI
  exact List.length_pos_of_mem (List.mem_filter.2 ⟨List.mem_range.2 hr,decide_eq_true e⟩)
theorem posL_eq {up:List Int} (hok:UF.Ok up):∀(d i:Nat),i+d=up.length→posL up d i=((List.range' i d).filter fun (k:Nat)=>decide (UF.P up (k:Int)=(k:Int))).map fun (r:Nat)=>(szI up up.length r:Int)
 |0,i,_=>rfl
 |d+1,i,hi=>by
  have ih:=posL_eq hok d (i+1) om
  have hp:=szI_pos hok (show i<up.length by omega)
  rw[posL,List.range'_succ]
  by_cases c:szI up up.length i>0
  ·have hd:(fun (k:Nat)=>decide (UF.P up (k:Int)=(k:Int))) i=true:=decide_eq_true (hp.1 c)
   rw[ip c,List.filter_cons_of_pos (p:=fun (k:Nat)=>decide (UF.P up (k:Int)=(k:Int))) hd,List.map_cons,ih]
  ·have hd:¬((fun (k:Nat)=>decide (UF.P up (k:Int)=(k:Int))) i=true):=fun h=>c (hp.2 (of_decide_eq_true h))
   rw[ig c,List.filter_cons_of_neg (p:=fun (k:Nat)=>decide (UF.P up (k:Int)=(k:Int))) hd,ih]
theorem posL_len {up:List Int} (hok:UF.Ok up):(posL up up.length 0).length=(UF.roots up).length:=by
 rw[posL_eq hok up.length 0 om,List.length_map]
 unfold UF.roots
 rw[List.range_eq_range']
/-- The lengths, as the reference tells them. -/
theorem mF {t:List (List Int)}{x:List Int}{n:Int} (C:Cx t x n) (hF:isF t x=true) (ht:t.length≤1048576) (k:Nat) (hk:7000000<k):∃ys,UF.Stands ys (NN x:Int) (allG (prIJ t x) t.length 0)∧fN.f k t x=some (UF.isort (posL ys ys.length 0) []):=by
 obtain⟨ys,e,S⟩:=sp_f C k om
 have hl:=S.len
 have hs:=C.small
 have h0:=len_l0 S.ok om ys.length k 0 om om
 have h1:=len_l1 (up:=ys) om ys.length (k - ys.length - 1) 0 [] om om List.Pairwise.nil (by simp)
 refine⟨ys,S,?_⟩
 unfold fN.f
 rw[Option.bind_some,jT t ht x k om,Option.bind_some,ip hF,e,Option.bind_some,ip om,ip om,Int.toNat_natCast, ←szL_zero]
 exact h0.trans h1
def cntR (up:List Int) (i:Nat):Nat:=((List.range i).filter fun (k:Nat)=>decide (UF.P up (k:Int)=(k:Int))).length
theorem cntR_succ (up:List Int) (i:Nat):cntR up (i+1)=cntR up i+(if UF.P up (i:Int)=(i:Int)then 1 else 0):=by
 unfold cntR
 rw[List.range_succ,List.filter_append,List.length_append]
 congr 1
 by_cases h:UF.P up (i:Int)=(i:Int)
 ·rw[ip h];simp[h]
 ·rw[ig h];simp[h]
theorem cntR_le (up:List Int):∀i,cntR up i≤i
 |0=>Nat.le_refl _
 |i+1=>by
  have:=cntR_le up i
  rw[cntR_succ]
  split <;> omega
theorem P_rd (up:List Int) (i:Nat):UF.P up (i:Int)=rd up (i:Int):=rfl
theorem count_l0 (up:List Int) (hu:up.length≤2000):∀(d k i:Nat),i+d=up.length→d<k→joiner_count.l0 k up (cntR up i:Int) (i:Int)=some ((UF.roots up).length:Int)
 |0,k,i,hi,hk=>by
  obtain⟨k,rfl⟩:=sk k
  simp only[joiner_count.l0]
  rw[ig om,show i=up.length by omega]
  rfl
 |d+1,k,i,hi,hk=>by
  obtain⟨k,rfl⟩:=sk k
  have hc:=cntR_le up i
  have ih:=count_l0 up hu d k (i+1) om om
  rw[cntR_succ,P_rd]at ih
  simp only[joiner_count.l0]
  rw[ip om,ip om,w_id (a:=(i:Int)+1) om om,show((i:Int)+1)=((i+1:Nat):Int) by omega]
  by_cases h:rd up (i:Int)=(i:Int)
  ·rw[ip h.symm,w_id om om]
   rw[ip h]at ih
   rw[show((cntR up i:Int)+1)=((cntR up i+1:Nat):Int) by omega]
   exact ih
  ·rw[ig (fun e=>h e.symm)]
   rw[ig h,Nat.add_zero]at ih
   exact ih
theorem roots_same {u1 u2:List Int}{n:Int}{ps:List (Int × Int)} (h1:UF.Stands u1 n ps) (h2:UF.Stands u2 n ps):(UF.roots u1).length=(UF.roots u2).length:=by
 have:=(UF.roots_perm h1 h2 (fun i j=>Iff.rfl)).length_eq
 rwa [List.length_map]at this
theorem cx_of {t:List (List Int)}{x:List Int} (ht:t.length≤1048576) (h:isF t x=true):Cx t x (edges t):=by
 obtain⟨h1,h2,h3,h4⟩:=isF_ok ht h
 exact⟨h1,h2,h3,h4⟩
theorem count_both (t:List (List Int)) (ht:t.length≤1048576) (x:List Int) (k:Nat) (hk:7000000<k):∃c,gZ.f k t x=some c∧gC.f k t x=some c:=by
 unfold gZ.f gC.f
 rw[jT t ht x k om,jS t ht x k om,Option.bind_some,Option.bind_some]
 by_cases h:isF t x=true
 ·have C:=cx_of ht h
  have hs:=C.small
  obtain⟨ys,S1,e1⟩:=mF C h ht k hk
  obtain⟨zs,e2,S2⟩:=im_f C k om
  have hl:=S2.len
  have e3:=count_l0 zs om zs.length k 0 om om
  refine⟨((UF.roots zs).length:Int),?_,?_⟩
  ·rw[ip h,e1,Option.bind_some,(UF.isort_perm _ _).length_eq,List.append_nil,posL_len S1.ok,roots_same S1 S2]
  ·rw[ip h,e2,Option.bind_some]
   exact e3
 ·exact⟨-1,by rw[ig h],by rw[ig h]⟩
theorem sorted_l1 (l out:List Int) (i:Nat) (v:Int) (ev:rd l (i:Int)=v) (hs:out.Pairwise (· ≤ ·)) (hl:out.length≤2000):∀(q k:Nat),q≤out.length→(∀h:q<out.length,v<out[q])→q<k→∃k',k≤k'+q+1∧gG.l1 k l out (i:Int) (q:Int)=gG.l0 k' l (UF.ins out v) (wrap64 ((i:Int)+1))
 |0,k,hq,hv,hk=>by
  obtain⟨k,rfl⟩:=sk k
  have e:=UF.ins_at out v 0 om (fun j hj=>absurd hj om) hv
  refine⟨k,by omega,?_⟩
  conv=>lhs;simp only[gG.l1]
  rw[ip om,ip om,ip om,ig om,Int.toNat_natCast,ev,e]
 |q+1,k,hq,hv,hk=>by
  obtain⟨k,rfl⟩:=sk k
  have hlt:q<out.length:=by omega
  simp only[gG.l1]
  rw[ip om,ip om,ip om,ip om,show(((q+1:Nat):Int) - 1)=(q:Int) by omega,rd_nat out q hlt,ev]
  by_cases c:out[q]>v
  ·rw[ip c]
   obtain⟨k',hk',e⟩:=sorted_l1 l out i v ev hs hl q k om (fun _=>c) om
   exact⟨k',by omega,e⟩
  ·have e:=UF.ins_at out v (q+1) om (fun j hj h=>by
    by_cases ej:j=q
    ·subst ej;omega
    ·have:=List.pairwise_iff_getElem.1 hs j q h hlt om
     omega) hv
   rw[ig c,Int.toNat_natCast,e]
   exact⟨k,by omega,rfl⟩
theorem sorted_l0 (l:List Int) (hl:l.length≤1800):∀(d k i:Nat) (out:List Int),i+d=l.length→2000*d+1<k→out.Pairwise (· ≤ ·)→out.length≤i→gG.l0 k l out (i:Int)=some (UF.isort (l.drop i) out)
 |0,k,i,out,hi,hk,hs,ho=>by
  obtain⟨k,rfl⟩:=sk k
  conv=>lhs;simp only[gG.l0]
  rw[ig om,List.drop_eq_nil_of_le om]
  rfl
 |d+1,k,i,out,hi,hk,hs,ho=>by
  obtain⟨k,rfl⟩:=sk k
  have hlt:i<l.length:=by omega
  obtain⟨k',hk',e⟩:=sorted_l1 l out i l[i] (rd_nat l i hlt) hs om out.length k (Nat.le_refl _) (fun h=>absurd h (Nat.lt_irrefl _)) om
  have hil:=(UF.ins_perm l[i] out).length_eq
  rw[List.length_cons]at hil
  have ih:=sorted_l0 l hl d k' (i+1) (UF.ins out l[i]) om om (UF.ins_sorted _ out hs) om
  conv=>lhs;simp only[gG.l0]
  rw[ip om,ip om,e,w_id (a:=(i:Int)+1) om om,show((i:Int)+1)=((i+1:Nat):Int) by omega,ih,List.drop_eq_getElem_cons hlt]
  rfl
theorem sorted_f (l:List Int) (hl:l.length≤1800) (k:Nat) (hk:4000000<k):gG.f k l=some (UF.isort l []):=by
 have h:=sorted_l0 l hl l.length k 0 [] om om List.Pairwise.nil (by simp)
 rw[List.drop_zero]at h
 exact h
theorem ilen_l0 {up:List Int} (hok:UF.Ok up) (hu:up.length≤1800):∀(d k i:Nat),i+d=up.length→2000+d<k→fY.l0 k up (szL up i) (i:Int)=some (szL up up.length)
 |0,k,i,hi,hk=>by
  obtain⟨k,rfl⟩:=sk k
  conv=>lhs;simp only[fY.l0]
  rw[ig om,show i=up.length by omega]
 |d+1,k,i,hi,hk=>by
  obtain⟨k,rfl⟩:=sk k
  have hr:=hok.rt (i:=(i:Int)) om om
  have hb:=hok.bd hr om om
  obtain⟨r,er⟩:∃r:Nat,UF.rt up (i:Int)=(r:Int):=⟨(UF.rt up (i:Int)).toNat,by omega⟩
  have hrl:r<(szL up i).length:=by rw[szL_len];omega
  have hrl2:r<up.length:=by omega
  have hle:=szI_le up r i
  have ih:=ilen_l0 hok hu d k (i+1) om om
  have hlen:=szL_len up i
  conv=>lhs;simp only[fY.l0]
  rw[ip om,top_f hok om om om,Option.bind_some,er,ip om,ip om,rd_nat _ r hrl,szL_get,w_id (a:=(szI up i r:Int)+1) om om,Int.toNat_natCast,szL_step hrl2 er,w_id (a:=(i:Int)+1) om om,show((i:Int)+1)=((i+1:Nat):Int) by omega]
  exact ih
theorem ilen_l1 {up:List Int} (hu:up.length≤1800):∀(d k i:Nat) (out:List Int),i+d=up.length→4000001+d<k→out.length≤i→fY.l1 k (szL up up.length) out (i:Int)=some (UF.isort (out ++ posL up d i) [])
 |0,k,i,out,hi,hk,ho=>by
  obtain⟨k,rfl⟩:=sk k
  have hlen:=szL_len up up.length
  conv=>lhs;simp only[fY.l1]
  rw[ig om,posL,List.append_nil]
  exact sorted_f out om k om
 |d+1,k,i,out,hi,hk,ho=>by
  obtain⟨k,rfl⟩:=sk k
  have hlen:=szL_len up up.length
  have hrl:i<(szL up up.length).length:=by omega
  conv=>lhs;simp only[fY.l1]
  rw[ip om,ip om,rd_nat _ i hrl,szL_get,w_id (a:=(i:Int)+1) om om,show((i:Int)+1)=((i+1:Nat):Int) by omega,posL]
  by_cases c:szI up up.length i>0
  ·rw[ip om,ip om,ip c]
   have ih:=ilen_l1 hu d k (i+1) (out ++ [(szI up up.length i:Int)]) om om (by rw[List.length_append];simp;omega)
   rw[List.append_assoc]at ih
   exact ih
  ·rw[ig om,ig c]
   exact ilen_l1 hu d k (i+1) out om om om
theorem posL_perm {u1 u2:List Int}{n:Int}{ps:List (Int × Int)} (h1:UF.Stands u1 n ps) (h2:UF.Stands u2 n ps):List.Perm (posL u1 u1.length 0) (posL u2 u2.length 0):=by
 rw[posL_eq h1.ok u1.length 0 om,posL_eq h2.ok u2.length 0 om, ←List.range_eq_range', ←List.range_eq_range']
 exact UF.sizes_perm h1 h2 (fun i j=>Iff.rfl)
theorem posL_le (up:List Int):∀(d i:Nat),(posL up d i).length≤d
 |0,_=>Nat.le_refl _
 |d+1,i=>by
  have:=posL_le up d (i+1)
  rw[posL]
  split
  ·rw[List.length_cons];omega
  ·omega
theorem lens_both (t:List (List Int)) (ht:t.length≤1048576) (x:List Int) (k:Nat) (hk:7000000<k):∃o:List Int,o.length≤2000∧fN.f k t x=some o∧fY.f k t x=some o:=by
 by_cases h:isF t x=true
 ·have C:=cx_of ht h
  have hs:=C.small
  obtain⟨ys,S1,e1⟩:=mF C h ht k hk
  obtain⟨zs,e2,S2⟩:=im_f C k om
  have hl:=S2.len
  have hl1:=S1.len
  have e3:=ilen_l0 S2.ok om zs.length k 0 om om
  have e4:=ilen_l1 (up:=zs) om zs.length k 0 [] om om (by simp)
  rw[List.nil_append,UF.isort_eq (posL_perm S2 S1)]at e4
  have hp:=posL_le ys ys.length 0
  refine⟨_,?_,e1,?_⟩
  ·rw[(UF.isort_perm _ _).length_eq,List.append_nil]
   omega
  ·unfold fY.f
   rw[jS t ht x k om,Option.bind_some,ip h,e2,Option.bind_some,ip om, ←szL_zero]
   have e3':fY.l0 k zs (szL zs 0) 0=some (szL zs zs.length):=e3
   rw[e3',Option.bind_some]
   exact e4
 ·refine⟨[],by simp,?_,?_⟩
  ·unfold fN.f
   rw[Option.bind_some,jT t ht x k om,Option.bind_some,ig h]
  ·unfold fY.f
   rw[jS t ht x k om,Option.bind_some,ig h]
end Go.Proofs.Ytflbpjijgnmklaa.L

namespace Go.Proofs.Ytflbpjijgnmklaa.L
open Go.RowKit Go.Proofs.Ytflbpjijgnmklaa.P Go.Proofs.Ytflbpjijgnmklaa.Help Go.Proofs.YtflbpjijgnmklaaW.PrintWords
set_option linter.unusedVariables false
set_option linter.unusedSimpArgs false

theorem surf_l1 {t:List (List Int)}{n:Int} (ok:TriOk t n) (ht:t.length≤1048576) (hr:∀r∈t,r.length≤1048576){i:Nat} (hi:i<t.length):∀(d j k:Nat) (xs:List Int) (ps:List (Int × Int)),j+d=3→3000100+d<k→UF.Stands xs (t.length:Int) ps→
  ∃ys,fU.l1 k t xs (i:Int) (j:Int)=fU.l0 (k - d - 1) t ys ((i+1:Nat):Int)∧UF.Stands ys (t.length:Int) (ps ++ rowG (fp t) i d j):=by
 have h3:=ok.three hi
 have hs:=ok.short
 have hl:((rd_L1 t (i:Int)).length:Int)=3:=by rw[rdL_nat t i hi,h3];rfl
 intro d
 induction d with
 |zero=>
  intro j k xs ps hj hk h
  obtain⟨k,rfl⟩:=sk k
  refine⟨xs,?_,by simpa[rowG] using h⟩
  simp only[fU.l1]
  rw[hl,ig om,w_n (m:=i+1) om om]
  rfl
 |succ d ih=>
  intro j k xs ps hj hk h
  obtain⟨k,rfl⟩:=sk k
  have hn:=h.len
  have hs1:=sideOf_in ok hi j
  have n9:=ok.n9
  obtain⟨o1,o2,o3,o4⟩:=opp_at ok hi j
  obtain⟨ys,e1,S1⟩:=join_f h (a:=(i:Int)) (b:=((opp t i j).1:Int)) om om (m:=k) om
  obtain⟨us,e3,S3⟩:=ih (j+1) k ys _ om om S1
  refine⟨us,?_,?_⟩
  ·simp only[fU.l1]
   rw[hl,ip om,ip om,rd_at ok hi om,w_id (a:= -(sideOf t i j)) om om,sideAt_f _ t ht hr k om,Option.bind_some,o4]
   dsimp only
   rw[e1,Option.bind_some,show wrap64 ((j:Int)+1)=((j+1:Nat):Int)from w_n om om,e3,show k+1 - (d+1) - 1=k - d - 1 by omega]
  ·rw[rowG,show fp t i j=[((i:Int),((opp t i j).1:Int))]from rfl]
   simpa[List.append_assoc] using S3
theorem surf_l0 {t:List (List Int)}{n:Int} (ok:TriOk t n) (ht:t.length≤1048576) (hr:∀r∈t,r.length≤1048576):∀(d i k:Nat) (xs:List Int) (ps:List (Int × Int)),i+d=t.length→3000200+5*d<k→UF.Stands xs (t.length:Int) ps→
  ∃ys,fU.l0 k t xs (i:Int)=some ys∧UF.Stands ys (t.length:Int) (ps ++ allG (fp t) d i):=by
 intro d
 induction d with
 |zero=>
  intro i k xs ps hi hk h
  obtain⟨k,rfl⟩:=sk k
  refine⟨xs,?_,by simpa[allG] using h⟩
  simp only[fU.l0]
  rw[ig om]
 |succ d ih=>
  intro i k xs ps hi hk h
  obtain⟨k,rfl⟩:=sk k
  obtain⟨ys,e1,S1⟩:=surf_l1 ok ht hr (i:=i) om 3 0 k xs ps om om h
  obtain⟨zs,e2,S2⟩:=ih (i+1) (k - 3 - 1) ys _ om om S1
  refine⟨zs,?_,by rw[allG, ←List.append_assoc];exact S2⟩
  simp only[fU.l0]
  rw[ip om,ip om]
  have e1':fU.l1 k t xs (i:Int) 0=fU.l0 (k - 3 - 1) t ys ((i+1:Nat):Int):=e1
  rw[e1',e2]
/-- The number of roots below i. -/
def cntS (up:List Int) (i:Nat):Nat:=((List.range i).filter fun (k:Nat)=>decide (UF.P up (k:Int)=(k:Int))).length
theorem cntS_succ (up:List Int) (i:Nat):cntS up (i+1)=cntS up i+(if UF.P up (i:Int)=(i:Int)then 1 else 0):=by
 unfold cntS
 rw[List.range_succ,List.filter_append,List.length_append]
 congr 1
 by_cases h:UF.P up (i:Int)=(i:Int)
 ·rw[ip h];simp[h]
 ·rw[ig h];simp[h]
theorem cntS_le (up:List Int):∀i,cntS up i≤i
 |0=>Nat.le_refl _
 |i+1=>by
  have:=cntS_le up i
  rw[cntS_succ]
  split <;> omega
theorem countS_l0 (up:List Int) (hu:up.length≤2000):∀(d k i:Nat),i+d=up.length→d<k→joiner_count.l0 k up (cntS up i:Int) (i:Int)=some ((UF.roots up).length:Int)
 |0,k,i,hi,hk=>by
  obtain⟨k,rfl⟩:=sk k
  simp only[joiner_count.l0]
  rw[ig om,show i=up.length by omega]
  rfl
 |d+1,k,i,hi,hk=>by
  obtain⟨k,rfl⟩:=sk k
  have hc:=cntS_le up i
  have ih:=countS_l0 up hu d k (i+1) om om
  rw[cntS_succ,show UF.P up (i:Int)=rd up (i:Int)from rfl]at ih
  simp only[joiner_count.l0]
  rw[ip om,ip om,w_id (a:=(i:Int)+1) om om,show((i:Int)+1)=((i+1:Nat):Int) by omega]
  by_cases h:rd up (i:Int)=(i:Int)
  ·rw[ip h.symm,w_id om om]
   rw[ip h]at ih
   rw[show((cntS up i:Int)+1)=((cntS up i+1:Nat):Int) by omega]
   exact ih
  ·rw[ig (fun e=>h e.symm)]
   rw[ig h,Nat.add_zero]at ih
   exact ih
theorem countS_f (up:List Int) (hu:up.length≤2000) (k:Nat) (hk:up.length<k):joiner_count.l0 k up 0 0=some ((UF.roots up).length:Int):=countS_l0 up hu up.length k 0 om hk
/-- Rows of pairs, one behind the other. -/
def catG (f:Nat→List (Int × Int)):Nat→Nat→List (Int × Int)
 |0,_=>[]
 |d+1,i=>f i ++ catG f d (i+1)
theorem mem_catG {f:Nat→List (Int × Int)}{p:Int × Int}:∀ {d i:Nat},p∈catG f d i↔∃q,i≤q∧q<i+d∧p∈f q
 |0,i=>by
  simp only[catG,List.not_mem_nil,false_iff]
  rintro ⟨q,a,b,_⟩
  omega
 |d+1,i=>by
  simp only[catG]
  rw[List.mem_append,mem_catG (d:=d) (i:=i+1)]
  constructor
  ·rintro (h|⟨q,a,b,c⟩)
   ·exact⟨i,by omega,by omega,h⟩
   ·exact⟨q,by omega,by omega,c⟩
  ·rintro ⟨q,a,b,c⟩
   by_cases e:q=i
   ·subst e;exact .inl c
   ·exact .inr ⟨q,by omega,by omega,c⟩
/-- Two triangles with one edge at these places. -/
def fq (t:List (List Int)) (a b q:Nat):List (Int × Int):=if sideOf t a (q / 3)= -(sideOf t b (q % 3)) then[((a:Int),(b:Int))] else[]
theorem tdiv3 (m:Nat):Int.tdiv (m:Int) 3=((m / 3:Nat):Int):=by
 rw[Int.tdiv_eq_ediv_of_nonneg om]
 omega
theorem part_l3 {t:List (List Int)}{n:Int} (ok:TriOk t n){a b:Nat} (ha:a<t.length) (hb:b<t.length):∀(d q k:Nat) (xs:List Int) (ps:List (Int × Int)),q+d=9→100+d<k→UF.Stands xs (t.length:Int) ps→
  ∃ys,fD.l3 k t xs (a:Int) (b:Int) (q:Int)=fD.l2 (k - d - 1) t ys (a:Int) ((b+1:Nat):Int)∧UF.Stands ys (t.length:Int) (ps ++ catG (fq t a b) d q):=by
 have hs:=ok.short
 have la:((rd_L1 t (a:Int)).length:Int)=3:=by rw[rdL_nat t a ha,ok.three ha];rfl
 have lb:((rd_L1 t (b:Int)).length:Int)=3:=by rw[rdL_nat t b hb,ok.three hb];rfl
 intro d
 induction d with
 |zero=>
  intro q k xs ps hq hk h
  obtain⟨k,rfl⟩:=sk k
  refine⟨xs,?_,by simpa[catG] using h⟩
  simp only[fD.l3]
  rw[ig om,w_n (m:=b+1) om om]
  rfl
 |succ d ih=>
  intro q k xs ps hq hk h
  obtain⟨k,rfl⟩:=sk k
  have hn:=h.len
  have n9:=ok.n9
  have x1:(q:Int)<9:=by omega
  have x2:(0:Int)≤(a:Int):=by omega
  have x3:(a:Int)<(t.length:Int):=by omega
  have x4:(0:Int)≤((q / 3:Nat):Int):=by omega
  have x5:((q / 3:Nat):Int)<3:=by omega
  have x6:(0:Int)≤(b:Int):=by omega
  have x7:(b:Int)<(t.length:Int):=by omega
  have x8:(0:Int)≤((q % 3:Nat):Int):=by omega
  have x9:((q % 3:Nat):Int)<3:=by omega
  have b1:0≤(a:Int)∧(a:Int)<(t.length:Int):=⟨x2,x3⟩
  have b2:0≤(b:Int)∧(b:Int)<(t.length:Int):=⟨x6,x7⟩
  have l1:(a:Int)<(xs.length:Int):=by omega
  have l2:(b:Int)<(xs.length:Int):=by omega
  have hm1:xs.length≤k:=by omega
  have y1:q / 3<3:=by omega
  have y2:q % 3<3:=by omega
  have x10:k+1 - (d+1) - 1=k - d - 1:=by omega
  have x11:q+1+d=9:=by omega
  have x12:100+d<k:=by omega
  have w1:wrap64 (((q / 3:Nat):Int))=((q / 3:Nat):Int):=w_n rfl om
  have w2:wrap64 ((q:Int)+1)=((q+1:Nat):Int):=w_n om om
  have sb:=sideOf_in ok hb (q % 3)
  have w3:wrap64 (-(sideOf t b (q % 3)))= -(sideOf t b (q % 3)):=w_id om om
  have r1:rd (rd_L1 t (a:Int)) ((q / 3:Nat):Int)=sideOf t a (q / 3):=rd_at (i:=a) (j:=q / 3) ok ha y1
  have r2:rd (rd_L1 t (b:Int)) ((q % 3:Nat):Int)=sideOf t b (q % 3):=rd_at (i:=b) (j:=q % 3) ok hb y2
  simp only[fD.l3]
  rw[tdiv3,tmod3,w1,w2,la,lb,ip x1,ip x2,ip x3,ip x4,ip x5,ip x6,ip x7,ip x8,ip x9,r1,r2,w3]
  by_cases c:sideOf t a (q / 3)= -(sideOf t b (q % 3))
  ·have b1:0≤(a:Int)∧(a:Int)<(t.length:Int):=⟨x2,x3⟩
   have b2:0≤(b:Int)∧(b:Int)<(t.length:Int):=⟨x6,x7⟩
   have q1:=h.ok.rt b1.1 om
   have q2:=h.ok.rt b2.1 om
   have c1:=h.ok.bd q1 b1.1 om
   have J:=(h.join b1 b2 q1 q2).1
   obtain⟨us,e3,S3⟩:=ih (q+1) k _ _ x11 x12 J
   have z1:=find3_f h.ok b1.1 (m:=k) l1 hm1
   have z2:=find3_f h.ok b2.1 (m:=k) l2 hm1
   refine⟨us,?_,?_⟩
   ·rw[ip c,z1,Option.bind_some,z2,Option.bind_some,ip c1.1,ip c1.2,e3,x10]
   ·rw[catG,show fq t a b q=[((a:Int),(b:Int))]from ip c]
    simpa[List.append_assoc] using S3
  ·obtain⟨us,e3,S3⟩:=ih (q+1) k xs ps x11 x12 h
   refine⟨us,?_,?_⟩
   ·rw[ig c,e3,x10]
   ·rw[catG,show fq t a b q=[]from ig c]
    simpa using S3
theorem part_l2 {t:List (List Int)}{n:Int} (ok:TriOk t n){a:Nat} (ha:a<t.length):∀(d b k:Nat) (xs:List Int) (ps:List (Int × Int)),b+d=a→200+11*d<k→UF.Stands xs (t.length:Int) ps→
  ∃ys,fD.l2 k t xs (a:Int) (b:Int)=fD.l1 (k - 11*d - 1) t ys ((a+1:Nat):Int)∧UF.Stands ys (t.length:Int) (ps ++ catG (fun b=>catG (fq t a b) 9 0) d b):=by
 have hs:=ok.short
 intro d
 induction d with
 |zero=>
  intro b k xs ps hb hk h
  obtain⟨k,rfl⟩:=sk k
  refine⟨xs,?_,by simpa[catG] using h⟩
  simp only[fD.l2]
  rw[ig om,w_n (m:=a+1) om om]
  rfl
 |succ d ih=>
  intro b k xs ps hb hk h
  obtain⟨k,rfl⟩:=sk k
  obtain⟨ys,e1,S1⟩:=part_l3 ok ha (b:=b) om 9 0 k xs ps om om h
  obtain⟨zs,e2,S2⟩:=ih (b+1) (k - 9 - 1) ys _ om om S1
  refine⟨zs,?_,by rw[catG, ←List.append_assoc];exact S2⟩
  simp only[fD.l2]
  rw[ip om]
  have e1':fD.l3 k t xs (a:Int) (b:Int) 0=fD.l2 (k - 9 - 1) t ys (a:Int) ((b+1:Nat):Int):=e1
  rw[e1',e2,show k - 9 - 1 - 11*d - 1=k+1 - 11*(d+1) - 1 by omega]
/-- The pairs of triangles that the reference joins. -/
def fa (t:List (List Int)) (a:Nat):List (Int × Int):=catG (fun b=>catG (fq t a b) 9 0) a 0
theorem part_l1 {t:List (List Int)}{n:Int} (ok:TriOk t n):∀(d a k:Nat) (xs:List Int) (ps:List (Int × Int)),a+d=t.length→400+100*d<k→UF.Stands xs (t.length:Int) ps→
  ∃ys k',300<k'∧fD.l1 k t xs (a:Int)=fD.l4 k' t ys 0 0∧UF.Stands ys (t.length:Int) (ps ++ catG (fa t) d a):=by
 have hs:=ok.short
 intro d
 induction d with
 |zero=>
  intro a k xs ps ha hk h
  obtain⟨k,rfl⟩:=sk k
  refine⟨xs,k,by omega,?_,by simpa[catG] using h⟩
  simp only[fD.l1]
  rw[ig om]
 |succ d ih=>
  intro a k xs ps ha hk h
  obtain⟨k,rfl⟩:=sk k
  obtain⟨ys,e1,S1⟩:=part_l2 ok (a:=a) om a 0 k xs ps om om h
  obtain⟨zs,k',hk',e2,S2⟩:=ih (a+1) (k - 11*a - 1) ys _ om om S1
  refine⟨zs,k',hk',?_,by rw[catG, ←List.append_assoc];exact S2⟩
  simp only[fD.l1]
  rw[ip om]
  have e1':fD.l2 k t xs (a:Int) 0=fD.l1 (k - 11*a - 1) t ys ((a+1:Nat):Int):=e1
  rw[e1',e2]
theorem part_l4 (t:List (List Int)) (up:List Int) (hl:up.length=t.length) (hu:up.length≤2000):∀(d k i:Nat),i+d=up.length→d<k→fD.l4 k t up (cntS up i:Int) (i:Int)=some ((UF.roots up).length:Int)
 |0,k,i,hi,hk=>by
  obtain⟨k,rfl⟩:=sk k
  simp only[fD.l4]
  rw[ig om,show i=up.length by omega]
  rfl
 |d+1,k,i,hi,hk=>by
  obtain⟨k,rfl⟩:=sk k
  have hc:=cntS_le up i
  have ih:=part_l4 t up hl hu d k (i+1) om om
  rw[cntS_succ,show UF.P up (i:Int)=rd up (i:Int)from rfl]at ih
  simp only[fD.l4]
  rw[ip om,ip om,ip om,bit_eq,Option.bind_some,w_id (a:=(i:Int)+1) om om,show((i:Int)+1)=((i+1:Nat):Int) by omega]
  by_cases h:rd up (i:Int)=(i:Int)
  ·rw[ip (by simp[h]),w_id om om]
   rw[ip h]at ih
   rw[show((cntS up i:Int)+1)=((cntS up i+1:Nat):Int) by omega]
   exact ih
  ·rw[ig (by simp[h]),w_id om om]
   rw[ig h,Nat.add_zero]at ih
   rw[Int.add_zero]
   exact ih
theorem part_l0 (t:List (List Int)) (ht:t.length≤1000):∀(d k i:Nat),i+d=t.length→d<k→fD.l0 k t (UF.alone i) (i:Int)=fD.l1 (k - d - 1) t (UF.alone t.length) 0:=by
 intro d
 induction d with
 |zero=>
  intro k i hi hk
  obtain⟨k,rfl⟩:=sk k
  simp only[fD.l0]
  rw[ig om,show i=t.length by omega]
  rfl
 |succ d ih=>
  intro k i hi hk
  obtain⟨k,rfl⟩:=sk k
  simp only[fD.l0]
  rw[ip om,ip (by rw[alone_len];omega),show wrap64 ((i:Int)+1)=((i+1:Nat):Int)from w_n om om, ←alone_succ,ih k (i+1) om om,show k+1 - (d+1) - 1=k - d - 1 by omega]
theorem part_f {t:List (List Int)}{n:Int} (ok:TriOk t n) (k:Nat) (hk:2000<k):∃ys,fD.f k t=some ((UF.roots ys).length:Int)∧UF.Stands ys (t.length:Int) (catG (fa t) t.length 0):=by
 have hs:=ok.short
 obtain⟨ys,k',hk',e,S⟩:=part_l1 ok t.length 0 (k - t.length - 1) (UF.alone t.length) [] om om (UF.alone_stands t.length)
 have hl:=S.len
 refine⟨ys,?_,by simpa using S⟩
 have e4:=part_l4 t ys om om ys.length k' 0 om om
 unfold fD.f
 have e0:=part_l0 t om t.length k 0 om om
 exact(e0.trans e).trans e4
/-- Both join the same triangles. -/
theorem part_cls {t:List (List Int)}{n:Int} (ok:TriOk t n) (i j:Int):UF.Cls (t.length:Int) (catG (fa t) t.length 0) i j↔UF.Cls (t.length:Int) (allG (fp t) t.length 0) i j:=by
 constructor
 ·intro h
  refine UF.Cls.map (p2:=allG (fp t) t.length 0) (n2:=(t.length:Int)) (fun i=>i) (fun i a b=>⟨a,b⟩) (fun x y hm _ _ _ _=>?_) h
  obtain⟨a,_,ha,h1⟩:=mem_catG.1 hm
  obtain⟨b,_,hb,h2⟩:=mem_catG.1 h1
  obtain⟨q,_,hq,h3⟩:=mem_catG.1 h2
  have ha':a<t.length:=by omega
  have hb':b<t.length:=by omega
  unfold fq at h3
  by_cases c:sideOf t a (q / 3)= -(sideOf t b (q % 3))
  ·rw[ip c]at h3
   obtain⟨rfl,rfl⟩:=Prod.mk.inj (List.mem_singleton.1 h3)
   obtain⟨o1,o2,o3,o4⟩:=opp_at ok ha' (q / 3)
   have e:sideOf t (opp t a (q / 3)).1 (opp t a (q / 3)).2=sideOf t b (q % 3):=by rw[o3,c,Int.neg_neg]
   have:=(side_inj ok o1 o2 hb' om e).1
   exact .pair ((mem_allG _ _).2 ⟨a,by omega,by omega,q / 3,by omega,by simp[fp,this]⟩) om om om om
  ·rw[ig c]at h3
   exact absurd h3 (by simp)
 ·intro h
  refine UF.Cls.map (p2:=catG (fa t) t.length 0) (n2:=(t.length:Int)) (fun i=>i) (fun i a b=>⟨a,b⟩) (fun x y hm _ _ _ _=>?_) h
  obtain⟨a,_,ha,j,hj,hp⟩:=(mem_allG _ _).1 hm
  have ha':a<t.length:=by omega
  obtain⟨o1,o2,o3,o4⟩:=opp_at ok ha' j
  have hp':(x,y)=((a:Int),((opp t a j).1:Int)):=by simpa[fp] using hp
  obtain⟨rfl,rfl⟩:=Prod.mk.inj hp'
  have one:∀(a b j l:Nat),a<t.length→b<a→j<3→l<3→sideOf t a j= -(sideOf t b l)→((a:Int),(b:Int))∈catG (fa t) t.length 0:=by
   intro a b j l h1 h2 h3 h4 e
   refine mem_catG.2 ⟨a,by omega,by omega,mem_catG.2 ⟨b,by omega,by omega,mem_catG.2 ⟨3*j+l,by omega,by omega,?_⟩⟩⟩
   unfold fq
   rw[show(3*j+l) / 3=j by omega,show(3*j+l) % 3=l by omega,ip e]
   simp
  rcases Nat.lt_trichotomy a (opp t a j).1 with h|h|h
  ·exact(UF.Cls.pair (one _ _ _ _ o1 h o2 hj o3) om om om om).symm
  ·rw[←h]
   exact .refl om om
  ·exact .pair (one _ _ _ _ ha' h hj o2 (by rw[o3,Int.neg_neg])) om om om om
/-- The numbers 0 and 1 stand alone. -/
theorem far2 {n:Int}{ps:List (Int × Int)} (hp:∀p,p∈ps→2≤p.1∧2≤p.2){i j:Int} (h:UF.Cls n ps i j):(i<2∨j<2)→i=j:=by
 induction h with
 |refl _ _=>intro _;rfl
 |pair h _ _ _ _=>
  intro c
  have:=hp _ h
  simp only at this
  omega
 |symm _ ih=>intro c;exact(ih c.symm).symm
 |trans _ _ ih1 ih2=>
  intro c
  rcases c with c|c
  ·have e:=ih1 (.inl c)
   subst e
   exact ih2 (.inl c)
  ·have e:=ih2 (.inr c)
   subst e
   exact ih1 (.inr c)
theorem Bg_two {s:Int} (h:s≠0):2≤Bg s:=by
 unfold Bg
 split <;> omega
theorem ends_far {t:List (List Int)}{n:Int} (ok:TriOk t n):∀p,p∈allG (ep t) t.length 0→2≤p.1∧2≤p.2:=by
 intro p hp
 obtain⟨i,_,hi,j,hj,h⟩:=(mem_allG _ _).1 hp
 have hi':i<t.length:=by omega
 have e:p=(En (sideOf t i j),Bg (sideOf t i (j+1))):=by simpa[ep] using h
 subst e
 have a:=sideOf_in ok hi' j
 have b:=sideOf_in ok hi' (j+1)
 refine⟨?_,Bg_two b.1⟩
 show 2≤En (sideOf t i j)
 rw[En_neg a.1]
 exact Bg_two om
/-- As many classes of beginnings and ends as of corners, and two more (0 and 1). -/
theorem ends_count {t:List (List Int)}{n:Int} (ok:TriOk t n){ue uv:List Int} (se:UF.Stands ue (3*(t.length:Int)+2) (allG (ep t) t.length 0)) (sv:UF.Stands uv (3*(t.length:Int)) (allG (vp t) t.length 0)):
  (UF.P ue 0=0∧UF.P ue 1=1)∧(UF.roots ue).length=(UF.roots uv).length+2:=by
 have hl:=ok.len
 have le:=se.len
 have lv:=sv.len
 have n3:=ok.n3
 have low:∀x:Int,0≤x→x<2→UF.P ue x=x:=by
  intro x h0 h1
  have r:=se.ok.rt h0 om
  have b:=se.ok.bd r h0 om
  have c:UF.Cls (3*(t.length:Int)+2) (allG (ep t) t.length 0) x (UF.rt ue x):=(se.cls _ _).2 ⟨by omega,by omega,_,r, .here r.root⟩
  have e:=far2 (ends_far ok) c (.inl h1)
  have:=r.root
  rwa [←e]at this
 refine⟨⟨low 0 om om,low 1 om om⟩,?_⟩
 have corOf:∀c:Int,0≤c→c<3*(t.length:Int)→∃i j:Nat,i<t.length∧j<3∧c=cor i j:=by
  intro c h0 h1
  exact⟨(c / 3).toNat,(c % 3).toNat,by omega,by omega,by unfold cor;omega⟩
 have fmb:∀i,0≤i→i<3*(t.length:Int)→(0≤fm t i∧fm t i<3*(t.length:Int)+2)∧2≤fm t i:=by
  intro c h0 h1
  obtain⟨i,j,hi,hj,rfl⟩:=corOf c h0 h1
  rw[fm_cor]
  exact⟨Bg_bd ok hi j,Bg_two (sideOf_in ok hi j).1⟩
 have hm:=UF.roots_map sv se (fm t) (fun i a b=>(fmb i a b).1) (fun i j a b c d h=>(cls_fm ok ⟨a,b⟩ ⟨c,d⟩).2 h)
 have big:∀x,0≤x→x<3*(t.length:Int)→2≤UF.rt ue (fm t x):=by
  intro x h0 h1
  have f:=fmb x h0 h1
  have r:=se.ok.rt f.1.1 om
  have b:=se.ok.bd r f.1.1 om
  have c:UF.Cls (3*(t.length:Int)+2) (allG (ep t) t.length 0) (fm t x) (UF.rt ue (fm t x)):=(se.cls _ _).2 ⟨f.1,by omega,_,r, .here r.root⟩
  by_cases q:UF.rt ue (fm t x)<2
  ·have:=far2 (ends_far ok) c (.inr q)
   omega
  ·omega
 have bd:∀a,a∈UF.roots uv→0≤(a:Int)∧(a:Int)<3*(t.length:Int):=by
  intro a ha
  have:=(UF.mem_roots.1 ha).1
  omega
 have hnd:(0 :: 1 :: (UF.roots uv).map fun (r:Nat)=>(UF.rt ue (fm t (r:Int))).toNat).Nodup:=by
  refine List.nodup_cons.2 ⟨fun h=>?_,List.nodup_cons.2 ⟨fun h=>?_,hm.1⟩⟩
  ·rcases List.mem_cons.1 h with h|h
   ·exact absurd h (by decide)
   ·obtain⟨a,ha,e⟩:=List.mem_map.1 h
    have:=big a (bd a ha).1 (bd a ha).2
    omega
  ·obtain⟨a,ha,e⟩:=List.mem_map.1 h
   have:=big a (bd a ha).1 (bd a ha).2
   omega
 have hp:(0 :: 1 :: (UF.roots uv).map fun (r:Nat)=>(UF.rt ue (fm t (r:Int))).toNat).Perm (UF.roots ue):=by
  refine(List.perm_ext_iff_of_nodup hnd (UF.roots_nodup ue)).2 fun x=>⟨fun hx=>?_,fun hx=>?_⟩
  ·rcases List.mem_cons.1 hx with rfl|hx
   ·exact UF.mem_roots.2 ⟨by omega,low 0 om om⟩
   ·rcases List.mem_cons.1 hx with rfl|hx
    ·exact UF.mem_roots.2 ⟨by omega,low 1 om om⟩
    ·exact hm.2 x hx
  ·obtain⟨x1,x2⟩:=UF.mem_roots.1 hx
   by_cases q0:x=0
   ·simp[q0]
   ·by_cases q1:x=1
    ·simp[q1]
    ·refine List.mem_cons_of_mem _ (List.mem_cons_of_mem _ ?_)
     -- x is the beginning of a side
     obtain⟨s,h0,h1,h2,e⟩:∃s:Int,s≠0∧ -n≤s∧s≤n∧Bg s=(x:Int):=by
      by_cases c:x % 2=0
      ·refine⟨((x / 2:Nat):Int),by omega,by omega,by omega,?_⟩
       unfold Bg
       rw[ig om]
       omega
      ·refine⟨-((x / 2:Nat):Int),by omega,by omega,by omega,?_⟩
       unfold Bg
       rw[ip om]
       omega
     obtain⟨i,j,hi,hj,_,es⟩:=ok.side h0 h1 h2
     have cb:=cor_bd hi j
     have ec:fm t (cor i j)=(x:Int):=by rw[fm_cor,es,e]
     have m1:=sv.ok.rt_mem cb.1 om
     have r1:=sv.ok.rt cb.1 om
     have b1:=sv.ok.bd r1 cb.1 om
     refine List.mem_map.2 ⟨_,m1.1,?_⟩
     rw[m1.2]
     have c1:UF.Cls (3*(t.length:Int)) (allG (vp t) t.length 0) (cor i j) (UF.rt uv (cor i j)):=(sv.cls _ _).2 ⟨cb,by omega,_,r1, .here r1.root⟩
     have c2:=(cls_fm ok cb ⟨b1.1,by omega⟩).1 c1
     rw[ec]at c2
     have f2:=fmb _ b1.1 om
     have q:=(se.same_iff ⟨by omega,by omega⟩ f2.1).2 c2
     rw[←q,UF.rt_of (.here x2)]
     omega
 have:=hp.length_eq
 simp only[List.length_cons,List.length_map]at this
 omega
theorem surf_with {V F m:Nat} (hF:3*F=2*m) (hs:F≤6) (hV:V+F≤m+2) (hp:(V+F+m) % 2=0):
  jH.f (wrap64 ((wrap64 ((V:Int) - (wrap64 (Int.tdiv (wrap64 (3*(F:Int))) 2))))+(F:Int))) 0 true=some ((2+(m:Int) - (V:Int) - (F:Int)) / 2,0,0,true):=by
 have a0:3*(F:Int)=2*(m:Int):=by omega
 have hm:(m:Int)≤9:=by omega
 have a2:Int.tdiv (2*(m:Int)) 2=(m:Int):=by rw[Int.tdiv_eq_ediv_of_nonneg om];omega
 have b0:0≤2+(m:Int) - (V:Int) - (F:Int):=by omega
 have b1:2+(m:Int) - (V:Int) - (F:Int)≤20:=by omega
 have b2:(2+(m:Int) - (V:Int) - (F:Int)) % 2=0:=by omega
 have c1:wrap64 (2*(m:Int))=2*(m:Int):=w_id om om
 have c2:wrap64 (m:Int)=(m:Int):=w_id om om
 have c3:wrap64 ((V:Int) - (m:Int))=(V:Int) - (m:Int):=w_id om om
 have c4:wrap64 ((V:Int) - (m:Int)+(F:Int))=(V:Int) - (m:Int)+(F:Int):=w_id om om
 have c5:wrap64 (2 - ((V:Int) - (m:Int)+(F:Int)))=2 - ((V:Int) - (m:Int)+(F:Int)):=w_id om om
 have e5:2 - ((V:Int) - (m:Int)+(F:Int))=2+(m:Int) - (V:Int) - (F:Int):=by omega
 rw[a0,c1,a2,c2,c3,c4]
 unfold jH.f
 rw[ip rfl,c5,e5,Int.sub_zero]
 generalize 2+(m:Int) - (V:Int) - (F:Int)=R at b0 b1 b2
 clear c1 c2 c3 c4 c5 e5
 have d1:Int.tmod R 2=0:=by rw[Int.tmod_eq_emod_of_nonneg b0];exact b2
 have d2:Int.tdiv R 2=R / 2:=Int.tdiv_eq_ediv_of_nonneg b0
 have d3:0≤R / 2∧R / 2≤20:=by omega
 have d4:wrap64 R=R:=w_id om om
 have d5:wrap64 (R / 2)=R / 2:=w_id om om
 have d6:mC.f R 2=some 0:=by
  unfold mC.f
  rw[ig (by decide),d1,ig (by decide)]
 have d7:jU.f (R / 2) 0 0=some true:=by
  unfold jU.f
  rw[within_eq,within_eq,decide_eq_true d3]
  simp
 rw[d4,d6,Option.bind_some,ip rfl,d2,d5,d7,Option.bind_some,ip rfl]
theorem sp_l0 (t:List (List Int)) (up:List Int) (hu:up.length≤2000):∀(d k i:Nat),i+d=up.length→2≤i→2≤cntS up i→d<k→
  gD.l0 k t up ((cntS up i:Int) - 2) (i:Int)=some (wrap64 (Int.tdiv (wrap64 ((wrap64 (2 - (((UF.roots up).length:Int) - 2)))+(wrap64 ((t.length:Int) / 2)))) 2),0,0,((UF.roots up).length:Int) - 2,true)
 |0,k,i,hi,h2,hc2,hk=>by
  obtain⟨k,rfl⟩:=sk k
  simp only[gD.l0]
  rw[ig om,show i=up.length by omega]
  rfl
 |d+1,k,i,hi,h2,hc2,hk=>by
  obtain⟨k,rfl⟩:=sk k
  have hc:=cntS_le up i
  have hs:=cntS_succ up i
  have hge:2≤cntS up (i+1):=by rw[hs];omega
  have ih:=sp_l0 t up hu d k (i+1) om om hge om
  rw[hs,show UF.P up (i:Int)=rd up (i:Int)from rfl]at ih
  simp only[gD.l0]
  rw[ip om,ip om,bit_eq,Option.bind_some,w_id (a:=(i:Int)+1) om om,show((i:Int)+1)=((i+1:Nat):Int) by omega]
  by_cases h:rd up (i:Int)=(i:Int)
  ·rw[ip (by simp[h]),w_id om om]
   rw[ip h]at ih
   rw[show((cntS up i:Int) - 2+1)=((cntS up i+1:Nat):Int) - 2 by omega]
   exact ih
  ·rw[ig (by simp[h]),w_id om om]
   rw[ig h,Nat.add_zero]at ih
   rw[Int.add_zero]
   exact ih
/-- And, where it is a surface, Euler's number is that of the triangulation. -/
theorem surf_more (t:List (List Int)) (ht:t.length≤1048576) (hr:∀r∈t,r.length≤1048576) (k:Nat) (hk:7000000<k):∃r,fU.f k t=some r∧gD.f k t=some r∧(r.2.2.2.2=true→(0≤r.1∧r.1≤20)∧r.2.1=0∧r.2.2.1=0∧2 - 2*r.1=r.2.2.2.1 - (t.length:Int) / 2∧t.length≤6):=by
 unfold fU.f gD.f
 rw[mE t ht k om,mG t ht k om,Option.bind_some,Option.bind_some]
 obtain⟨k1,rfl⟩:∃m,k=m+1:=⟨k - 1,by omega⟩
 by_cases h:isT t=true
 ·have ok:=isT_ok ht h
  obtain⟨m,hm⟩:∃m:Nat,edges t=(m:Int):=⟨(edges t).toNat,by have:=ok.n3;omega⟩
  rw[hm]at ok
  clear hm
  have hs:=ok.short
  have hl:=ok.len
  obtain⟨fs,e1,sf⟩:=surf_l0 ok ht hr t.length 0 (k1+1) (UF.alone t.length) [] om om (UF.alone_stands t.length)
  rw[List.nil_append]at sf
  obtain⟨qs,e2,sq⟩:=part_f ok (k1+1) om
  obtain⟨vs,e3,sv⟩:=vert_f ok ht hr (k1+1) om
  obtain⟨us,e4,se⟩:=ends_f ok k1 om
  obtain⟨⟨p0,p1⟩,hc⟩:=ends_count ok se sv
  have hK:(UF.roots qs).length=(UF.roots fs).length:=by
   have:=(UF.roots_perm sq sf (part_cls ok)).length_eq
   rwa [List.length_map]at this
  have hE:=tri_euler ok sv sf
  have lf:=sf.len
  have lv:=sv.len
  have lu:=se.len
  have n1:=newJoiner_f t.length om (k1+1) om
  have e1':fU.l0 (k1+1) t (UF.alone t.length) 0=some fs:=e1
  have c1:=countS_f fs om (k1+1) om
  have c2:=countS_f vs om (k1+1) om
  rw[ip h,ip h,n1,Option.bind_some,e1',Option.bind_some,e2,Option.bind_some]
  unfold fU.h
  rw[c1,Option.bind_some,hK]
  simp only[gD.j0]
  by_cases c:(UF.roots fs).length=1
  ·have hV:(UF.roots vs).length+t.length≤m+2:=by omega
   have sw:=surf_with (V:=(UF.roots vs).length) (F:=t.length) (m:=m) om om hV hE.2
   have z2:cntS us 2=2:=by
    rw[show(2:Nat)=1+1 from rfl,cntS_succ,show(1:Nat)=0+1 from rfl,cntS_succ]
    have q0:UF.P us ((0:Nat):Int)=((0:Nat):Int):=p0
    have q1:UF.P us ((0+1:Nat):Int)=((0+1:Nat):Int):=p1
    rw[ip q0,ip q1]
    rfl
   have sp:=sp_l0 t us om (us.length - 2) k1 2 om om om om
   rw[z2]at sp
   have sp':gD.l0 k1 t us 0 2=_:=sp
   refine⟨((2+(m:Int) - ((UF.roots vs).length:Int) - (t.length:Int)) / 2,0,0,((UF.roots vs).length:Int),true),?_,?_,fun _=>⟨?_,rfl,rfl,?_,hs.1⟩⟩
   ·rw[ip om,e3,Option.bind_some,c2,Option.bind_some]
    unfold fU.g
    rw[sw,Option.bind_some,ip rfl]
   ·have b0:0≤2+(m:Int) - ((UF.roots vs).length:Int) - (t.length:Int):=by omega
    have x1:((UF.roots us).length:Int) - 2=((UF.roots vs).length:Int):=by omega
    have x2:(t.length:Int) / 2=(m:Int) - (t.length:Int):=by omega
    have x3:2 - ((UF.roots vs).length:Int)+((m:Int) - (t.length:Int))=2+(m:Int) - ((UF.roots vs).length:Int) - (t.length:Int):=by omega
    have y1:wrap64 (2 - ((UF.roots vs).length:Int))=2 - ((UF.roots vs).length:Int):=w_id om om
    have y2:wrap64 ((m:Int) - (t.length:Int))=(m:Int) - (t.length:Int):=w_id om om
    have y3:wrap64 (2+(m:Int) - ((UF.roots vs).length:Int) - (t.length:Int))=2+(m:Int) - ((UF.roots vs).length:Int) - (t.length:Int):=w_id om om
    have y4:wrap64 ((2+(m:Int) - ((UF.roots vs).length:Int) - (t.length:Int)) / 2)=(2+(m:Int) - ((UF.roots vs).length:Int) - (t.length:Int)) / 2:=w_id om om
    rw[c,ig (by decide),e4,Option.bind_some,sp',x1,x2,y1,y2,x3,y3,Int.tdiv_eq_ediv_of_nonneg b0,y4]
   ·have b0:0≤2+(m:Int) - ((UF.roots vs).length:Int) - (t.length:Int):=by omega
    clear sw
    dsimp only
    omega
   ·have hp:=hE.2
    clear sw
    dsimp only
    omega
  ·refine⟨(0,0,0,0,false),?_,?_,fun h=>absurd h (by simp)⟩
   ·rw[ig om]
   ·rw[ip]
    rw[bne_iff_ne]
    omega
 ·rw[ig h,ig h]
  refine⟨(0,0,0,0,false),rfl,?_,fun h=>absurd h (by simp)⟩
  simp only[gD.j0]
  rw[ip trivial]
/-- The arcs around a corner. -/
def arcsR (t:List (List Int)) (x:List Int) (i j:Int):Int:=if isF t x=true∧(0≤i∧i≤t.length - 1)∧(0≤j∧j≤2)then tw t x i.toNat j.toNat / 2 else -1
theorem pO (t:List (List Int)) (ht:t.length≤1048576) (x:List Int) (i j:Int) (k:Nat) (hk:6000001<k):jX.f k t x i j=some (arcsR t x i j):=by
 unfold jX.f arcsR
 rw[jT t ht x k hk,Option.bind_some]
 by_cases h:isF t x=true
 ·obtain⟨ok,hx,hc,hf⟩:=isF_ok ht h
  rw[ip h,l1In_eq,Option.bind_some,w_id om om]
  by_cases h2:0≤i∧i≤t.length - 1
  ·rw[ip (by simpa using h2),l1In_eq,Option.bind_some]
   by_cases h3:0≤j∧j≤2
   ·obtain⟨p,rfl⟩:∃p:Nat,i=p:=⟨i.toNat,by omega⟩
    obtain⟨q,rfl⟩:∃q:Nat,j=q:=⟨j.toNat,by omega⟩
    have hp:p<t.length:=by omega
    have hb:=tw_even ok hc hp (hf _ (List.getElem_mem hp)) q om
    rw[ip (by simpa using h3),twice_tw ok hx hc hp q om,Option.bind_some,ip ⟨h,h2,h3⟩,Int.toNat_natCast,Int.toNat_natCast,Int.tdiv_eq_ediv_of_nonneg om,w_id om om]
   ·rw[ig (by simpa using h3),ig (fun h=>h3 h.2.2)]
  ·rw[ig (by simpa using h2),ig (fun h=>h2 h.2.1)]
 ·rw[ig h,ig (fun h'=>h h'.1)]
theorem pM (t:List (List Int)) (ht:t.length≤1048576) (x:List Int) (i j:Int) (k:Nat) (hk:6000001<k):jW.f k t x i j=some (arcsR t x i j):=by
 unfold jW.f arcsR
 rw[jS t ht x k hk,Option.bind_some]
 by_cases h:isF t x=true
 ·obtain⟨ok,hx,hc,hf⟩:=isF_ok ht h
  rw[ip h,within_eq,Option.bind_some,w_id om om]
  by_cases h2:0≤i∧i≤t.length - 1
  ·rw[ip (by simpa using h2),within_eq,Option.bind_some]
   by_cases h3:0≤j∧j≤2
   ·obtain⟨p,rfl⟩:∃p:Nat,i=p:=⟨i.toNat,by omega⟩
    obtain⟨q,rfl⟩:∃q:Nat,j=q:=⟨j.toNat,by omega⟩
    have hp:p<t.length:=by omega
    rw[ip (by simpa using h3),arcs_eq ok hx hc hp (hf _ (List.getElem_mem hp)) q om,Option.bind_some,ip ⟨h,h2,h3⟩,Int.toNat_natCast,Int.toNat_natCast]
   ·rw[ig (by simpa using h3),ig (fun h=>h3 h.2.2)]
  ·rw[ig (by simpa using h2),ig (fun h=>h2 h.2.1)]
 ·rw[ig h,ig (fun h'=>h h'.1)]
noncomputable def vertR (t:List (List Int)) (i j:Int):List Int × Bool:=if isT t=true∧(0≤i∧i≤t.length - 1)∧(0≤j∧j≤2) then(aroundR t (edges t).toNat (cor i.toNat (j.toNat+1)),true) else([],false)
theorem mS (t:List (List Int)) (ht:t.length≤1048576) (i j:Int) (k:Nat) (hk:6000001<k):jC.f k t i j=some (vertR t i j):=by
 unfold jC.f vertR
 rw[mG t ht k om,Option.bind_some]
 by_cases h:isT t=true
 ·have ok:=isT_okn ht h
  rw[ip h,l1In_eq,Option.bind_some,w_id om om]
  by_cases h2:0≤i∧i≤t.length - 1
  ·rw[ip (by simpa using h2),l1In_eq,Option.bind_some]
   by_cases h3:0≤j∧j≤2
   ·obtain⟨p,rfl⟩:∃p:Nat,i=p:=⟨i.toNat,by omega⟩
    obtain⟨q,rfl⟩:∃q:Nat,j=q:=⟨j.toNat,by omega⟩
    rw[ip (by simpa using h3),mB ok (i:=p) (j:=q) om om k om,Option.bind_some,ip ⟨h,h2,h3⟩,Int.toNat_natCast,Int.toNat_natCast]
   ·rw[ig (by simpa using h3),ig (fun h=>h3 h.2.2)]
  ·rw[ig (by simpa using h2),ig (fun h=>h2 h.2.1)]
 ·rw[ig h,ig (fun h'=>h h'.1)]
theorem pR (t:List (List Int)) (ht:t.length≤1048576) (hr:∀r∈t,r.length≤1048576) (i j:Int) (k:Nat) (hk:6000001<k):jM.f k t i j=some (vertR t i j):=by
 unfold jM.f vertR
 rw[mE t ht k om,Option.bind_some]
 by_cases h:isT t=true
 ·have ok:=isT_okn ht h
  have hs:=ok.short
  rw[ip h,within_eq,Option.bind_some,w_id om om]
  by_cases h2:0≤i∧i≤t.length - 1
  ·rw[ip (by simpa using h2),within_eq,Option.bind_some]
   by_cases h3:0≤j∧j≤2
   ·obtain⟨p,rfl⟩:∃p:Nat,i=p:=⟨i.toNat,by omega⟩
    obtain⟨q,rfl⟩:∃q:Nat,j=q:=⟨j.toNat,by omega⟩
    have hp:p<t.length:=by omega
    rw[ip (by simpa using h3),show wrap64 ((q:Int)+1)=((q+1:Nat):Int)from w_n om om,tmod3,show wrap64 (3*(p:Int))=((3*p:Nat):Int)from w_n om om,
     show wrap64 (((3*p:Nat):Int)+((((q+1) % 3:Nat)):Int))=cor p (q+1)from by rw[w_n (m:=3*p+(q+1) % 3) om om];unfold cor;omega,
     mJ ok ht hr (cor_bd hp (q+1)) k om,Option.bind_some,ip ⟨h,h2,h3⟩,Int.toNat_natCast,Int.toNat_natCast]
   ·rw[ig (by simpa using h3),ig (fun h=>h3 h.2.2)]
  ·rw[ig (by simpa using h2),ig (fun h=>h2 h.2.1)]
 ·rw[ig h,ig (fun h'=>h h'.1)]
theorem vertR_len (t:List (List Int)) (ht:t.length≤1048576) (i j:Int):(vertR t i j).1.length≤100:=by
 unfold vertR
 split
 ·rename_i h
  have:=(isT_ok ht h.1).n9
  show(aroundR _ _ _).length≤_
  rw[aroundR_len]
  omega
 ·simp
end Go.Proofs.Ytflbpjijgnmklaa.L

namespace Go.Proofs.Ytflbpjijgnmklaa.L
open Go Go.RowKit Go.Proofs.Ytflbpjijgnmklaa.P Go.Proofs.Ytflbpjijgnmklaa.Help Go.Proofs.YtflbpjijgnmklaaW.PrintWords
set_option linter.unusedVariables false
set_option linter.unusedSimpArgs false
theorem same_l0 (xs:List Int) (hx:xs.length≤1048576):∀(d k i:Nat),i+d=xs.length→d<k→fZ.l0 k xs xs (i:Int)=some true:=by
 intro d
 induction d with
 |zero=>
  intro k i hi hk
  obtain⟨k,rfl⟩:=sk k
  simp only[fZ.l0]
  rw[ig om]
 |succ d ih=>
  intro k i hi hk
  obtain⟨k,rfl⟩:=sk k
  simp only[fZ.l0]
  rw[ip om,ip om,ip om]
  simp only[if_true]
  rw[w_id om om,show((i:Int)+1)=((i+1:Nat):Int) by omega,ih k (i+1) om om]
theorem same_f (xs:List Int) (hx:xs.length≤1048576) (k:Nat) (hk:1048576<k):fZ.f k xs xs=some true:=by
 unfold fZ.f
 rw[ip rfl]
 exact same_l0 xs hx xs.length k 0 om om
theorem sameL_l0 (xs:List (List Int)) (hx:xs.length≤1048576) (hr:∀r∈xs,r.length≤1048576):∀(d k i:Nat),i+d=xs.length→d+1048577<k→gO.l0 k xs xs (i:Int)=some true:=by
 intro d
 induction d with
 |zero=>
  intro k i hi hk
  obtain⟨k,rfl⟩:=sk k
  simp only[gO.l0]
  rw[ig om]
 |succ d ih=>
  intro k i hi hk
  obtain⟨k,rfl⟩:=sk k
  have hlt:i<xs.length:=by omega
  simp only[gO.l0]
  rw[ip om,ip om,ip om,rdL_nat xs i hlt,same_f _ (hr _ (List.getElem_mem hlt)) k om,Option.bind_some]
  rw[ip rfl,w_id om om,show((i:Int)+1)=((i+1:Nat):Int) by omega,ih k (i+1) om om]
theorem sameL_f (xs:List (List Int)) (hx:xs.length≤1048576) (hr:∀r∈xs,r.length≤1048576) (k:Nat) (hk:3000000<k):gO.f k xs xs=some true:=by
 unfold gO.f
 rw[ip rfl]
 exact sameL_l0 xs hx hr xs.length k 0 om om
theorem total_l0 (x:List Int) (hx:x.length≤1048576) (h0:∀a∈x,0≤a):∀(d k i:Nat) (acc:Int),i+d=x.length→d<k→0≤acc→acc+sumP (x.drop i)≤1000000000→gS.l0 k x acc (i:Int)=some (acc+sumP (x.drop i)):=by
 intro d
 induction d with
 |zero=>
  intro k i acc hi hk ha hs
  obtain⟨k,rfl⟩:=sk k
  simp only[gS.l0]
  rw[ig om,List.drop_of_length_le om,sumP,Int.add_zero]
 |succ d ih=>
  intro k i acc hi hk ha hs
  obtain⟨k,rfl⟩:=sk k
  have hlt:i<x.length:=by omega
  have h1:=h0 x[i] (List.getElem_mem hlt)
  have h2:=sumP_nn (x.drop (i+1)) (fun a ha=>h0 a (List.mem_of_mem_drop ha))
  rw[List.drop_eq_getElem_cons hlt,sumP]at hs ⊢
  simp only[gS.l0]
  rw[ip om,ip om,rd_nat x i hlt,w_id (a:=acc+x[i]) om om,w_id (a:=(i:Int)+1) om om,show((i:Int)+1)=((i+1:Nat):Int) by omega,ih k (i+1) (acc+x[i]) om om om om,Int.add_assoc]
theorem total_f (x:List Int) (hx:x.length≤1048576) (h0:∀a∈x,0≤a) (hs:sumP x≤1000000000) (k:Nat) (hk:1048577<k):gS.f k x=some (sumP x):=by
 unfold gS.f
 have:=total_l0 x hx h0 x.length k 0 0 om om om (by rw[List.drop_zero];omega)
 rw[List.drop_zero,Int.zero_add]at this
 exact this
theorem sumP_perm {l m:List Int} (h:l.Perm m):sumP l=sumP m:=by
 induction h with
 |nil=>rfl
 |cons x _ ih=>simp only[sumP,ih]
 |swap x y l=>simp only[sumP];omega
 |trans _ _ a b=>exact a.trans b
noncomputable def szT (up:List Int) (n:Nat):Nat→Nat→Nat
 |0,_=>0
 |d+1,i=>szI up n i+szT up n d (i+1)
theorem szT_zero (up:List Int):∀d i,szT up 0 d i=0
 |0,_=>rfl
 |d+1,i=>by
  rw[szT,szT_zero up d (i+1)]
  rfl
theorem szT_succ (up:List Int) (n:Nat){r:Nat} (e:UF.rt up (n:Int)=(r:Int)):∀d i,szT up (n+1) d i=szT up n d i+(if i≤r∧r<i+d then 1 else 0)
 |0,i=>by rw[szT,szT,ig om]
 |d+1,i=>by
  have ih:=szT_succ up n e d (i+1)
  rw[szT,szT,szI_succ,ih,e]
  by_cases c:r=i
  ·subst c
   rw[ip rfl,ig om,ip om]
   omega
  ·rw[ig om]
   by_cases c2:i+1≤r∧r<i+1+d
   ·rw[ip c2,ip om]
    omega
   ·rw[ig c2,ig om]
    omega
theorem szT_all {up:List Int} (hok:UF.Ok up):∀n,n≤up.length→szT up n up.length 0=n
 |0,_=>szT_zero up _ _
 |n+1,h=>by
  have ih:=szT_all hok n om
  have ri:=hok.rt (i:=(n:Int)) om om
  have b:=hok.bd ri om om
  obtain⟨r,hr⟩:=Int.eq_ofNat_of_zero_le b.1
  rw[szT_succ up n hr,ih,ip om]
theorem posL_sum (up:List Int):∀d i,sumP (posL up d i)=(szT up up.length d i:Int)
 |0,_=>rfl
 |d+1,i=>by
  have ih:=posL_sum up d (i+1)
  rw[posL,szT]
  split
  ·rw[sumP,ih]
   omega
  ·rw[ih]
   omega
theorem posL_nn (up:List Int):∀d i,∀a∈posL up d i,0≤a
 |0,_,a,ha=>by simp[posL]at ha
 |d+1,i,a,ha=>by
  rw[posL]at ha
  split at ha
  ·rcases List.mem_cons.1 ha with rfl|ha
   ·omega
   ·exact posL_nn up d (i+1) a ha
  ·exact posL_nn up d (i+1) a ha
theorem NN_sum (x:List Int) (h0:∀a∈x,0≤a):(NN x:Int)=sumP x:=by
 unfold NN
 induction x with
 |nil=>rfl
 |cons a x ih=>
  have:=ih (fun b hb=>h0 b (by simp[hb]))
  have h1:=h0 a (by simp)
  rw[List.length_cons,offN,sumP]
  omega
section
variable {t:List (List Int)}{x:List Int}
theorem fair_nn (h:isF t x=true) (ht:t.length≤1048576):(∀a∈x,0≤a)∧sumP x≤1800∧x.length≤9:=by
 have C:=cx_of ht h
 have h1:=C.small
 have h2:=sumP_le x (fun a ha=>(co_at C.hc ha).2)
 exact⟨fun a ha=>(co_at C.hc ha).1,by omega,h1.1⟩
theorem lens_more (ht:t.length≤1048576) (h:isF t x=true) (k:Nat) (hk:7000000<k):∃ys,UF.Stands ys (NN x:Int) (allG (prIJ t x) t.length 0)∧∃o,fN.f k t x=some o∧sumP o=sumP x∧o.length=(UF.roots ys).length∧(∀a∈o,0≤a):=by
 have C:=cx_of ht h
 have hn:=fair_nn h ht
 obtain⟨ys,S,e⟩:=mF C h ht k hk
 have hp:=UF.isort_perm (posL ys ys.length 0) []
 rw[List.append_nil]at hp
 refine⟨ys,S,_,e,?_,?_,fun a ha=>posL_nn _ _ _ a (hp.mem_iff.1 ha)⟩
 ·rw[sumP_perm hp,posL_sum,szT_all S.ok _ (Nat.le_refl _),S.len,NN_sum x hn.1]
 ·rw[hp.length_eq,posL_len S.ok]
theorem count_more (ht:t.length≤1048576) (h:isF t x=true){ys:List Int} (S:UF.Stands ys (NN x:Int) (allG (prIJ t x) t.length 0)) (k:Nat) (hk:7000000<k):gZ.f k t x=some ((UF.roots ys).length:Int)∧gC.f k t x=some ((UF.roots ys).length:Int):=by
 obtain⟨c,g1,g2⟩:=count_both t ht x k hk
 obtain⟨zs,S2,o,e,_,e2,_⟩:=lens_more ht h k hk
 have g:=g1
 unfold gZ.f at g
 rw[jT t ht x k om,Option.bind_some,ip h,e,Option.bind_some]at g
 have hc:c=((UF.roots ys).length:Int):=by
  have:=roots_same S S2
  injection g with g
  omega
 subst hc
 exact⟨g1,g2⟩
theorem count_none (ht:t.length≤1048576) (h:¬isF t x=true) (k:Nat) (hk:7000000<k):gZ.f k t x=some (-1)∧gC.f k t x=some (-1)∧fN.f k t x=some []:=by
 refine⟨?_,?_,?_⟩
 ·unfold gZ.f
  rw[jT t ht x k om,Option.bind_some,ig h]
 ·unfold gC.f
  rw[jS t ht x k om,Option.bind_some,ig h]
 ·unfold fN.f
  rw[Option.bind_some,jT t ht x k om,Option.bind_some,ig h]
theorem fair_n (ht:t.length≤1048576) (h:isF t x=true):∃n:Nat,edges t=(n:Int)∧Cx t x (n:Int)∧isT t=true:=by
 have C:=cx_of ht h
 have n3:=C.ok.n3
 obtain⟨n,hn⟩:∃n:Nat,edges t=(n:Int):=⟨(edges t).toNat,by omega⟩
 rw[hn]at C
 unfold isF at h
 rw[Bool.and_eq_true]at h
 exact⟨n,hn,C,h.1⟩
/-- What PlainCurve leaves, and again. -/
theorem plain_more (ht:t.length≤1048576) (hr:∀r∈t,r.length≤1048576) (h:isF t x=true):∃r,(∀k,8000000<k→fC.f k t x=some (r,true)∧fI.f k t x=some (r,true)∧fC.f k t r=some (r,true))∧isF t r=true∧sumP r≤sumP x∧∀u v,UF.Stands u (NN x:Int) (allG (prIJ t x) t.length 0)→UF.Stands v (NN r:Int) (allG (prIJ t r) t.length 0)→(UF.roots v).length≤(UF.roots u).length:=by
 obtain⟨n,hn,C,hT⟩:=fair_n ht h
 have ok:=C.ok
 have one:∀z,isF t z=true→Cx t z (n:Int)→∃r,DownR t n z r∧∀k,8000000<k→fC.f k t z=some (r,true)∧fI.f k t z=some (r,true):=by
  intro z hz Cz
  have fz:=fair_nn hz ht
  obtain⟨r0,b,p1,p2,_⟩:=plain_f t ht hr z om
  obtain⟨r,D,e⟩:=run_down ok 2000 z Cz.inv om
  refine⟨r,D,fun k hk=>?_⟩
  have es:fI.f k t z=some (r,true):=by
   unfold fI.f
   rw[jT t ht z k om,Option.bind_some,ip hz,Option.bind_some,ip (by simp;omega),List.nil_append]
   exact e k om
  refine⟨?_,es⟩
  rw[p2 k hk, ←p1 k hk,es]
 obtain⟨r,D,e⟩:=one x h C
 obtain⟨Cr,hs,hc⟩:=D.all C
 have hF:=isF_of Cr hT hn
 obtain⟨r2,D2,e2⟩:=one r hF Cr
 have hl:=D.last
 have:r2=r:=by
  cases D2 with
  |done _=>rfl
  |step h2 _=>rw[hl]at h2;exact absurd h2 (by simp)
 subst this
 exact⟨r2,fun k hk=>⟨(e k hk).1,(e k hk).2,(e2 k hk).1⟩,hF,hs,hc⟩
end
theorem j3_ok {t:List (List Int)}{x r:List Int} (ht:t.length≤1048576) (h:isF t x=true){ys:List Int} (S:UF.Stands ys (NN x:Int) (allG (prIJ t x) t.length 0)) (hp:∀k,8000000<k→fC.f k t r=some (r,true)) (hF:isF t r=true) (hs:sumP r≤sumP x) (hc:∀u v,UF.Stands u (NN x:Int) (allG (prIJ t x) t.length 0)→UF.Stands v (NN r:Int) (allG (prIJ t r) t.length 0)→(UF.roots v).length≤(UF.roots u).length) (k:Nat) (hk:9000000<k):laws_FnCurves.j3 k t x r ((UF.roots ys).length:Int) false=some true:=by
 obtain⟨k,rfl⟩:=sk k
 have fx:=fair_nn h ht
 have fr:=fair_nn hF ht
 obtain⟨zs,S2,_⟩:=lens_more ht hF k om
 have hcc:=hc ys zs S S2
 simp only[laws_FnCurves.j3]
 rw[ig (by simp),hp k om,Option.bind_some]
 dsimp only
 rw[ip rfl,same_f r om k om,Option.bind_some,ip rfl,jS t ht r k om,Option.bind_some,ip hF,(count_more ht hF S2 k om).2,Option.bind_some,ip om,total_f r om fr.1 om k om,Option.bind_some,total_f x om fx.1 om k om,Option.bind_some,decide_eq_true hs]
theorem ring_at {v:List (List Int)} (hv:v.length≤1048576){i j:Int} (h:(vertR v i j).2=true):∃(n:Nat) (c:Int),edges v=(n:Int)∧TriOk v (n:Int)∧isT v=true∧(0≤c∧c<3*(v.length:Int))∧(vertR v i j).1=aroundR v n c:=by
 unfold vertR at h ⊢
 by_cases c:isT v=true∧(0≤i∧i≤v.length - 1)∧(0≤j∧j≤2)
 ·have ok:=isT_okn hv c.1
  have n3:=(isT_ok hv c.1).n3
  rw[ip c]
  exact⟨(edges v).toNat,_,by omega,ok,c.1,cor_bd om _,rfl⟩
 ·rw[ig c]at h
  exact absurd h (by simp)
theorem j2_ok {t:List (List Int)}{x o plain:List Int} (ht:t.length≤6) (hr:∀r∈t,r.length≤1048576) (hx:x.length≤9) (ho:∀k,7000000<k→fN.f k t x=some o) (hpl:isF t x=true→∃b,∀k,8000000<k→fC.f k t x=some (plain,b)) (k:Nat) (hk:9000100<k):laws_FnCurves.j2 k t x o plain false=some true:=by
 obtain⟨k,rfl⟩:=sk k
 have ht':t.length≤1048576:=by omega
 simp only[laws_FnCurves.j2]
 rw[ig (by simp),jS t ht' x k om,Option.bind_some]
 by_cases h:isF t x=true
 ·obtain⟨n,hn,C,hT⟩:=fair_n ht' h
  have fx:=fair_nn h ht'
  obtain⟨ys,S,o2,e2,s2,l2,nn2⟩:=lens_more ht' h k om
  have:o2=o:=by
   have:=ho k om
   rw[e2]at this
   injection this
  subst this
  have lu:=S.len
  have small:=C.small
  have hroots:(UF.roots ys).length≤ys.length:=by
   unfold UF.roots
   exact Nat.le_trans (List.length_filter_le _ _) (by rw[List.length_range];exact Nat.le_refl _)
  have hlen:o2.length≤1048576:=by omega
  obtain⟨r,pe,hF,hs,hc⟩:=plain_more ht' hr h
  have:r=plain:=by
   obtain⟨b,e⟩:=hpl h
   have e1:=e 9000000 (by decide)
   rw[(pe 9000000 (by decide)).1]at e1
   injection e1 with e1
   injection e1
  subst this
  have three:=fun k hk=>(pe k hk).2.2
  have j3:=j3_ok ht' h S three hF hs hc k om
  have hring:jV.f k t=some (vertR t 0 0).1:=by
   unfold jV.f
   rw[mS t ht' 0 0 k om]
   rfl
  rw[ip h,(count_more ht' h S k om).2,Option.bind_some,total_f o2 hlen nn2 om k om,Option.bind_some,total_f x om fx.1 om k om,Option.bind_some,ip s2,ip om,hring,Option.bind_some,pB x _ om k om,Option.bind_some]
  by_cases fine:(addR x (vertR t 0 0).1).2=true
  ·have hv:(vertR t 0 0).2=true:=by
    have:=C.ok.short
    unfold vertR
    rw[ip ⟨hT,by omega,by omega⟩]
   obtain⟨m,c,hm,okm,_,hc0,hring2⟩:=ring_at ht' hv
   have hmn:m=n:=by omega
   subst hmn
   rw[hring2]at fine ⊢
   have hadd:addR x (aroundR t m c)=(addL x (aroundR t m c),true)∧(addL x (aroundR t m c)).all co=true:=by
    unfold addR at fine ⊢
    by_cases q:x.length=(aroundR t m c).length∧x.all co=true∧(aroundR t m c).all co=true∧(addL x (aroundR t m c)).all co=true
    ·rw[ip q]
     exact⟨rfl,q.2.2.2⟩
    ·rw[ig q]at fine
     exact absurd fine (by simp)
   have D:=fair_add C hadd.2
   have FD:=isF_of D hT hm
   obtain⟨zs,S3,_⟩:=lens_more ht' FD k om
   have hcnt:=Rg.count ⟨C,D,hc0⟩ S S3
   rw[hadd.1]
   dsimp only
   rw[ip rfl,jS t ht' _ k om,Option.bind_some,ip FD,(count_more ht' FD S3 k om).2,Option.bind_some,w_id om om,hcnt,show(((UF.roots ys).length+1:Nat):Int)=((UF.roots ys).length:Int)+1 by omega,bne_self_eq_false]
   exact j3
  ·rw[ig fine]
   exact j3
 ·have hn:=count_none ht' h k om
  have:o=[]:=by
   have:=ho k om
   rw[hn.2.2]at this
   injection this with this
   exact this.symm
  subst this
  rw[ig h,hn.2.1,Option.bind_some,ip rfl]
  rfl
theorem j1_ok {t v:List (List Int)}{x o plain:List Int} (ht:t.length≤6) (hr:∀r∈t,r.length≤1048576) (hx:x.length≤9) (ho:∀k,7000000<k→fN.f k t x=some o) (hpl:isF t x=true→∃b,∀k,8000000<k→fC.f k t x=some (plain,b)) (hv:v.length≤1048576) (i j:Int) (k:Nat) (hk:9000200<k):laws_FnCurves.j1 k t x o v (vertR v i j).1 (vertR v i j).2 plain false=some true:=by
 obtain⟨k,rfl⟩:=sk k
 have j2:=j2_ok ht hr hx ho hpl k om
 simp only[laws_FnCurves.j1]
 rw[ig (by simp)]
 by_cases one:(vertR v i j).2=true
 ·obtain⟨n,c,hn,ok,hT,hc,he⟩:=ring_at hv one
  have F:=isF_of (ring_fair ok c) hT hn
  obtain⟨zs,S,_⟩:=lens_more hv F k om
  have h1:=ring_one ok hc S
  rw[ip one,he,jS v hv _ k om,Option.bind_some,ip F,(count_more hv F S k om).2,Option.bind_some,h1]
  exact j2
 ·rw[ig one]
  exact j2
theorem euler_f {g p b:Int} (hg:0≤g∧g≤20) (hp:p=0) (hb:b=0):jN.f g p b=some (2 - 2*g):=by
 subst hp hb
 have e1:jO.f g 0 0=some true:=by
  unfold jO.f fW.f
  rw[ip om,decide_eq_true hg.2]
  simp
 unfold jN.f
 rw[e1,Option.bind_some,ip rfl,w_id (a:=2*g) om om,w_id (a:=2 - 2*g) om om]
 simp only[Int.sub_zero]
 rw[w_id (a:=2 - 2*g) om om,w_id om om]
theorem fc_f (l:List Int) (hl:l.length≤1048576):laws_FnCurves.f 10000000 l=some true:=by
 have K:(9001000:Nat)<10000000:=by decide
 obtain⟨t,x,d1,g⟩:=drawCL_ok l hl 10000000 K
 have t6:=g.len
 have x9:=g.xs
 have ht:t.length≤1048576:=by omega
 have hr:∀r∈t,r.length≤1048576:=fun r h=>by have:=g.row r h;omega
 obtain⟨s,d2,s5⟩:=drawPT_ok l hl 10000000 K
 obtain⟨ta,xa,a1,a2,d3,ga⟩:=drawArcs_ok l hl 10000000 K
 have ta6:=ga.len
 obtain⟨v,b1,b2,d4,v6,vr⟩:=drawVC_ok l hl 10000000 K
 have hv:v.length≤1048576:=by omega
 have hvr:∀r∈v,r.length≤1048576:=fun r h=>by have:=vr r h;omega
 obtain⟨p,q,d5,p9,q9⟩:=drawAdd_ok l hl 10000000 K
 obtain⟨o,o1,f1,f2⟩:=lens_both t ht x 10000000 (by decide)
 have hp:=mH s om 10000000 (by decide)
 have hp2:=mO s om 10000000 (by decide)
 have vs:=mS v hv b1 b2 10000000 (by decide)
 have vi:=pR v hv hvr b1 b2 10000000 (by decide)
 have vl:=vertR_len v hv b1 b2
 have asd:=pD p q om 10000000 (by decide)
 have ai:=pB p q om 10000000 (by decide)
 have al:=addR_len p q
 obtain⟨⟨r1,r2,r3,r4,r5⟩,su1,su2,su3⟩:=surf_more t ht hr 10000000 (by decide)
 obtain⟨pr,pb,ps,pi,pc⟩:=plain_f t ht hr x om
 have prl:pr.length≤1048576:=by
  rcases pc with ⟨_,n,ok,inv,_⟩|⟨_,rfl,_⟩
  ·have:=ok.n9
   have:=inv.len
   omega
  ·simp
 obtain⟨cc,c1,c2⟩:=count_both t ht x 10000000 (by decide)
 have ho:∀k,7000000<k→fN.f k t x=some o:=by
  intro k hk
  by_cases h:isF t x=true
  ·obtain⟨ys,S,e⟩:=mF (cx_of ht h) h ht k hk
   obtain⟨zs,S2,e2⟩:=mF (cx_of ht h) h ht 10000000 (by decide)
   rw[f1]at e2
   injection e2 with e2
   rw[e,e2,UF.isort_eq (posL_perm S S2)]
  ·rw[(count_none ht h k hk).2.2, ←(count_none ht h 10000000 (by decide)).2.2,f1]
 have hparse:fP.f 10000000 (triT t)=some (parseT (triT t))∧fR.f 10000000 (triT t)=some (parseT (triT t)):=by
  have:=triT_size (t:=t) om
  exact⟨mH _ om _ (by decide),mO _ om _ (by decide)⟩
 have j1:=fun k (hk:9000200<k)=>j1_ok (plain:=pr) t6 hr x9 ho (fun _=>⟨pb,pi⟩) hv b1 b2 k hk
 have j0:laws_FnCurves.j0 10000000 t x o v (vertR v b1 b2).1 (vertR v b1 b2).2 r4 r5 pr false r1 r2 r3=some true:=by
  rw[show(10000000:Nat)=9999999+1 from rfl]
  simp only[laws_FnCurves.j0]
  rw[ig (by simp)]
  by_cases h5:r5=true
  ·obtain⟨z1,z2,z3,z4,z5⟩:=su3 h5
   dsimp only at z1 z2 z3 z4
   rw[ip h5,euler_f z1 z2 z3,Option.bind_some,w_id (a:=(t.length:Int) / 2) om om,w_id om om,z4,bne_self_eq_false]
   exact j1 _ (by decide)
  ·rw[ig h5]
   exact j1 _ (by decide)
 have big:jY.f l=some false:=by
  unfold jY.f
  rw[decide_eq_false om]
 have e1:=same_f o om 10000000 (by decide)
 have pl:(parseT s).1.length≤1048576∧∀r∈(parseT s).1,r.length≤1048576:=by
  rcases parseT_cases s om with h2|⟨o',h2,_,h3,h4,_⟩
  ·rw[h2];exact⟨by simp,by simp⟩
  ·rw[h2];exact⟨by dsimp only;omega,fun r hr=>by have:=h4 r hr;omega⟩
 have e2:=sameL_f (parseT s).1 pl.1 pl.2 10000000 (by decide)
 have as1:=pO ta om xa a1 a2 10000000 (by decide)
 have as2:=pM ta om xa a1 a2 10000000 (by decide)
 have e3:=same_f (vertR v b1 b2).1 om 10000000 (by decide)
 have e4:=same_f (addR p q).1 om 10000000 (by decide)
 have e5:=same_f pr prl 10000000 (by decide)
 have e6:=sameL_f t ht hr 10000000 (by decide)
 have i1:=jS t ht x 10000000 (by decide)
 have i2:=jT t ht x 10000000 (by decide)
 have i3:=mE t ht 10000000 (by decide)
 have i4:=mG t ht 10000000 (by decide)
 have i5:=pS t ht 10000000 (by decide)
 have i6:=pL t ht 10000000 (by decide)
 have p1:=pi 10000000 (by decide)
 have p2:=ps 10000000 (by decide)
 unfold laws_FnCurves.f
 simp only[big,d1,d2,d3,d4,d5,f1,f2,hp,hp2,vs,vi,asd,ai,su1,su2,p1,p2,c1,c2,e1,e2,as1,as2,e3,e4,e5,i1,i2,i3,i4,i5,i6,hparse.2,Option.bind_some,if_true,bne_self_eq_false,Bool.false_eq_true,if_false,beq_self_eq_true,Bool.not_true,Bool.or_self]
 by_cases hT:isT t=true
 ·have e7:=T30_ok t g.mem hT
  rw[e7]
  simp only[hT,bne_self_eq_false,Bool.false_eq_true,if_false,if_true,e6,Option.bind_some,Bool.not_true]
  exact j0
 ·have e7:parseT (triT t)=([],false):=by
   unfold triT
   rw[ig hT]
   exact none_ok
  have hT':isT t=false:=by simpa using hT
  rw[e7]
  simp only[hT',bne_self_eq_false,Bool.false_eq_true,if_false,if_true]
  exact j0
end Go.Proofs.Ytflbpjijgnmklaa.L

namespace Go.Proofs.Ytflbpjijgnmklaa.Pure
open Go.Proofs.YtflbpjijgnmklaaW.PrintWords (om sk ip ig)
open Go.RowKit Go.Proofs.Ytflbpjijgnmklaa.P Go.Proofs.Ytflbpjijgnmklaa.Help Go.Proofs.Ytflbpjijgnmklaa.L
theorem FnCurves:laws_FnCurves.Pure:=by
 intro l _ _ _
 by_cases hl:l.length≤1048576
 ·exact⟨_,fc_f l hl⟩
 ·refine⟨1,?_⟩
  unfold laws_FnCurves.f jY.f
  rw[Option.bind_some,ip (by simp;omega)]
end Go.Proofs.Ytflbpjijgnmklaa.Pure
