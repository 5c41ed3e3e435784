/- Flips keep the curves and the surface, and can be undone; no condition. -/
import Derived.Test.YtemeiocmgbgikaaKPx37
import Derived.Test.YtemeiocmgbgikaaKHelp

namespace Go.Proofs.Ytemeiocmgbgikaa.L
open Go.RowKit Go.Proofs.Ytemeiocmgbgikaa.P Go.Proofs.Ytemeiocmgbgikaa.Help Go.Proofs.YtemeiocmgbgikaaW.PrintWords
set_option linter.unusedVariables false
set_option linter.unusedSimpArgs false

theorem w_id {a:Int} (h0: -9223372036854775808≤a) (h1:a≤9223372036854775807):wrap64 a=a:=by unfold wrap64;omega
theorem rd_nat (xs:List Int) (i:Nat) (h:i<xs.length):rd xs (i:Int)=xs[i]:=by
 unfold rd
 simp[List.getD_eq_getElem?_getD,List.getElem?_eq_getElem h]
theorem l1In_eq (a lo hi:Int):gV.f a lo hi=some (decide (lo≤a∧a≤hi)):=by
 unfold gV.f
 by_cases h:lo≤a <;> simp[h]
theorem within_eq (a lo hi:Int):gY.f a lo hi=some (decide (lo≤a∧a≤hi)):=by
 unfold gY.f
 by_cases h:lo≤a <;> simp[h]
def co (x:Int):Bool:=decide (0≤x∧x≤200)
theorem areCo_l0 (xs:List Int) (hx:xs.length≤1000000000):∀(d k i:Nat),i+d=xs.length→d<k→gD.l0 k xs (xs.length:Int) (i:Int)=some ((xs.drop i).all co):=by
 intro d
 induction d with
 |zero=>
  intro k i hi hk
  obtain⟨k,rfl⟩:=sk k
  simp only[gD.l0]
  rw[ig om,List.drop_of_length_le om]
  rfl
 |succ d ih=>
  intro k i hi hk
  obtain⟨k,rfl⟩:=sk k
  have hlt:i<xs.length:=by omega
  simp only[gD.l0]
  rw[ip om,ip om,ip om,within_eq,Option.bind_some,w_id om om,show((i:Int)+1)=((i+1:Nat):Int) by omega,ih k (i+1) om om,List.drop_eq_getElem_cons hlt,List.all_cons,rd_nat xs i hlt]
  unfold co
  by_cases h:0≤xs[i]∧xs[i]≤200 <;> simp[h]
theorem areCo (xs:List Int) (hx:xs.length≤1000000000) (k:Nat) (hk:xs.length<k):gD.f k xs=some (xs.all co):=by
 unfold gD.f
 have:=areCo_l0 xs hx xs.length k 0 om hk
 rw[List.drop_zero]at this
 exact this
theorem co_true {x:Int} (h:co x=true):0≤x∧x≤200:=of_decide_eq_true h
theorem all_co {xs:List Int} (h:xs.all co=true):∀x∈xs,0≤x∧x≤200:=fun x hx=>co_true (List.all_eq_true.1 h x hx)
/-- The sums, element by element. -/
def addL:List Int→List Int→List Int
 |x :: xs,y :: ys=>(x+y) :: addL xs ys
 |_,_=>[]
theorem pH (xs ys:List Int) (hx:xs.length≤1048576) (hl:ys.length=xs.length):∀(d k i:Nat) (o:List Int),i+d=xs.length→d<k→o.length=i→
  fH.l0 k xs ys o (i:Int)=some (if(xs.drop i).all co=true∧(ys.drop i).all co=true∧(addL (xs.drop i) (ys.drop i)).all co=true then(o ++ addL (xs.drop i) (ys.drop i),true) else([],false)):=by
 intro d
 induction d with
 |zero=>
  intro k i o hi hk ho
  obtain⟨k,rfl⟩:=sk k
  simp only[fH.l0]
  rw[ig om,List.drop_of_length_le om,List.drop_of_length_le om]
  simp[addL]
 |succ d ih=>
  intro k i o hi hk ho
  obtain⟨k,rfl⟩:=sk k
  have hlt:i<xs.length:=by omega
  have hlt2:i<ys.length:=by omega
  simp only[fH.l0]
  rw[ip om,ip om,l1In_eq,l1In_eq,Option.bind_some,Option.bind_some,rd_nat xs i hlt,rd_nat ys i hlt2,List.drop_eq_getElem_cons hlt,List.drop_eq_getElem_cons hlt2,addL,List.all_cons,List.all_cons,List.all_cons]
  by_cases h:0≤xs[i]∧xs[i]≤200
  ·have hc:co xs[i]=true:=decide_eq_true h
   rw[ip (decide_eq_true h),ip om,hc,Bool.true_and]
   by_cases h2:0≤ys[i]∧ys[i]≤200
   ·have hc2:co ys[i]=true:=decide_eq_true h2
    rw[ip (decide_eq_true h2),hc2,Bool.true_and,w_id (a:=xs[i]+ys[i]) om om]
    by_cases h3:xs[i]+ys[i]>200
    ·have hc3:co (xs[i]+ys[i])=false:=decide_eq_false om
     rw[ip h3,hc3,Bool.false_and,ig (fun h=>absurd h.2.2 (by decide))]
    ·have hc3:co (xs[i]+ys[i])=true:=decide_eq_true om
     rw[ig h3,ip om,hc3,Bool.true_and,w_id om om,show((i:Int)+1)=((i+1:Nat):Int) by omega,ih k (i+1) _ om om (by simp;omega),List.append_assoc]
     rfl
   ·have hc2:co ys[i]=false:=decide_eq_false h2
    rw[ig (by simpa using h2),hc2,Bool.false_and,ig (fun h=>absurd h.2.1 (by decide))]
  ·have hc:co xs[i]=false:=decide_eq_false h
   rw[ig (by simpa using h),hc,Bool.false_and,ig (fun h=>absurd h.1 (by decide))]
def addR (xs ys:List Int):List Int × Bool:=if xs.length=ys.length∧xs.all co=true∧ys.all co=true∧(addL xs ys).all co=true then(addL xs ys,true) else([],false)
theorem pS (xs ys:List Int) (hx:xs.length≤1048576) (k:Nat) (hk:1048576<k):fH.f k xs ys=some (addR xs ys):=by
 unfold fH.f addR
 by_cases h:xs.length=ys.length
 ·rw[ip om]
  have:=pH xs ys hx om xs.length k 0 [] om om (by simp)
  rw[List.drop_zero,List.drop_zero,List.nil_append]at this
  refine this.trans ?_
  congr 1
  simp only[h,true_and]
 ·rw[ig om,ig (fun h'=>h h'.1)]
theorem addL_leq:∀(x y:List Int),x.length=y.length→(addL x y).length=x.length
 |[],[],_=>rfl
 |[],_ :: _,h=>by simp at h
 |_ :: _,[],h=>by simp at h
 |a :: x,b :: y,h=>by
  have:=addL_leq x y (by simpa using h)
  simp[addL,this]
/-- How many numbers. -/
def tot:List (List Int)→Nat
 |[]=>0
 |r :: rs=>r.length+tot rs
theorem rdL_nat (xs:List (List Int)) (i:Nat) (h:i<xs.length):rd_L1 xs (i:Int)=xs[i]:=by
 unfold rd_L1
 simp[List.getD_eq_getElem?_getD,List.getElem?_eq_getElem h]
/-- The letters of a row, put to those that are seen. -/
def rowR (n:Int):List Int→List Int→Option (List Int)
 |seen,[]=>some seen
 |seen,x :: xs=>if x≠0∧(-n≤x∧x≤n)∧x ∉ seen then rowR n (x :: seen) xs else none
def triR (n:Int):List Int→List (List Int)→Bool
 |_,[]=>true
 |seen,r :: rs=>if r.length=3 then(match rowR n seen r with|some s=>triR n s rs|none=>false)else false
/-- The number of edges. -/
def edges (t:List (List Int)):Int:=wrap64 (Int.tdiv (wrap64 (3*(t.length:Int))) 2)
def isT (t:List (List Int)):Bool:=if(t.length:Int) % 2=0∧3≤edges t∧edges t≤9 then triR (edges t) [] t else false

theorem pG (t:List (List Int)) (n:Int) (hn:3≤n∧n≤9) (i:Nat) (hi:i<t.length) (hl:t[i].length=3):∀(d j k:Nat) (seen:List Int),j+d=3→d<k→
  fC.l1 k t n seen (i:Int) (j:Int)=(match rowR n seen (t[i].drop j) with|some s=>fC.l0 (k - d - 1) t n s (wrap64 ((i:Int)+1))|none=>some false):=by
 intro d
 induction d with
 |zero=>
  intro j k seen hj hk
  obtain⟨k,rfl⟩:=sk k
  simp only[fC.l1]
  rw[rdL_nat t i hi,ig om,List.drop_of_length_le om]
  rfl
 |succ d ih=>
  intro j k seen hj hk
  obtain⟨k,rfl⟩:=sk k
  have hlt:j<t[i].length:=by omega
  simp only[fC.l1]
  rw[rdL_nat t i hi,ip om,ip om,rd_nat _ j hlt,within_eq,Option.bind_some,w_id (a:= -n) om om,List.drop_eq_getElem_cons hlt]
  by_cases h1:t[i][j]=0
  ·rw[ip h1]
   simp[rowR,h1]
  ·rw[ig h1]
   by_cases h2: -n≤t[i][j]∧t[i][j]≤n
   ·rw[ip (by simpa using h2)]
    by_cases h3:t[i][j]∈seen
    ·rw[ip h3]
     simp[rowR,h3]
    ·rw[ig h3,w_id (a:=(j:Int)+1) om om,show((j:Int)+1)=((j+1:Nat):Int) by omega,ih (j+1) k _ om om,rowR,ip ⟨h1,h2,h3⟩,show k+1 - (d+1) - 1=k - d - 1 by omega]
   ·rw[ig (by simpa using h2),rowR,ig (fun h=>h2 h.2.1)]
theorem pF (t:List (List Int)) (ht:t.length≤1048600) (n:Int) (hn:3≤n∧n≤9):∀(d i k:Nat) (seen:List Int),i+d=t.length→5*d<k→
  fC.l0 k t n seen (i:Int)=some (triR n seen (t.drop i)):=by
 intro d
 induction d with
 |zero=>
  intro i k seen hi hk
  obtain⟨k,rfl⟩:=sk k
  simp only[fC.l0]
  rw[ig om,List.drop_of_length_le om]
  rfl
 |succ d ih=>
  intro i k seen hi hk
  obtain⟨k,rfl⟩:=sk k
  have hlt:i<t.length:=by omega
  simp only[fC.l0]
  rw[ip om,ip om,rdL_nat t i hlt,List.drop_eq_getElem_cons hlt,triR]
  by_cases h1:t[i].length=3
  ·have:=pG t n hn i hlt h1 3 0 k seen om om
   rw[ip om,ip h1,show(0:Int)=((0:Nat):Int)from rfl,this,List.drop_zero]
   cases rowR n seen t[i] with
   |none=>rfl
   |some s=>
    show fC.l0 _ t n s _=some (triR n s _)
    rw[w_id om om,show((i:Int)+1)=((i+1:Nat):Int) by omega,ih (i+1) _ s om om]
  ·rw[ig om,ig h1]
theorem impl_isT' (t:List (List Int)) (ht:t.length≤1048600) (k:Nat) (hk:6000000<k):fC.f k t=some (isT t):=by
 obtain⟨k,rfl⟩:=sk k
 unfold fC.f
 rw[within_eq,Option.bind_some]
 unfold isT edges
 by_cases h1:(t.length:Int) % 2=0
 ·rw[ip h1]
  simp only[fC.j0]
  by_cases h2:3≤wrap64 (Int.tdiv (wrap64 (3*(t.length:Int))) 2)∧wrap64 (Int.tdiv (wrap64 (3*(t.length:Int))) 2)≤9
  ·rw[ig (by simpa using h2),ip ⟨h1,h2⟩]
   have:=pF t ht _ h2 t.length 0 k [] om om
   rw[List.drop_zero]at this
   exact this
  ·rw[ip (by rw[decide_eq_false h2];rfl),ig (fun h=>h2 h.2)]
 ·rw[ig h1]
  simp only[fC.j0]
  rw[ip trivial,ig (fun h=>h1 h.1)]
/-- What is marked is what is seen. -/
def Marks (n:Int) (x4:List Bool) (seen:List Int):Prop:=(x4.length:Int)=2*n+1∧∀y, -n≤y→y≤n→rdOf false x4 (n+y)=decide (y∈seen)
theorem Marks.put {n:Int}{x4:List Bool}{seen:List Int} (h:Marks n x4 seen){x:Int} (hx: -n≤x∧x≤n):Marks n (x4.set (n+x).toNat true) (x :: seen):=by
 obtain⟨h1,h2⟩:=h
 refine⟨by rw[List.length_set];exact h1,fun y hy1 hy2=>?_⟩
 have h3:=h2 y hy1 hy2
 unfold rdOf at h3 ⊢
 rw[List.getD_eq_getElem?_getD]at h3 ⊢
 rw[List.getElem?_set]
 by_cases e:(n+x).toNat=(n+y).toNat
 ·have:x=y:=by omega
  subst this
  rw[ip rfl,ip om]
  simp
 ·have hne:y≠x:=fun e'=>e (by rw[e'])
  rw[ig e,h3]
  simp[hne]
theorem Marks.made {n:Int} (hn:0≤n):Marks n (List.replicate (2*n+1).toNat false) []:=by
 refine⟨by rw[List.length_replicate];omega,fun y _ _=>?_⟩
 unfold rdOf
 rw[List.getD_eq_getElem?_getD,List.getElem?_replicate]
 split <;> simp
theorem pM (t:List (List Int)) (n:Int) (hn:3≤n∧n≤9) (i:Nat) (hi:i<t.length) (hl:t[i].length=3):∀(d j k:Nat) (x4:List Bool) (seen:List Int),Marks n x4 seen→j+d=3→d<k→
  (rowR n seen (t[i].drop j)=none∧fB.l1 k t n x4 (i:Int) (j:Int)=some false)∨∃s x4',rowR n seen (t[i].drop j)=some s∧Marks n x4' s∧fB.l1 k t n x4 (i:Int) (j:Int)=fB.l0 (k - d - 1) t n x4' (wrap64 ((i:Int)+1)):=by
 intro d
 induction d with
 |zero=>
  intro j k x4 seen hm hj hk
  obtain⟨k,rfl⟩:=sk k
  simp only[fB.l1]
  rw[ig om,List.drop_of_length_le om]
  exact .inr ⟨seen,x4,rfl,hm,rfl⟩
 |succ d ih=>
  intro j k x4 seen hm hj hk
  obtain⟨k,rfl⟩:=sk k
  have hlt:j<t[i].length:=by omega
  simp only[fB.l1]
  rw[ip om,ip om,ip om,ip om,rdL_nat t i hi,ip om,rd_nat _ j hlt,l1In_eq,Option.bind_some,w_id (a:= -n) om om,List.drop_eq_getElem_cons hlt]
  by_cases h1:t[i][j]=0
  ·rw[ip h1]
   exact .inl ⟨by simp[rowR,h1],rfl⟩
  ·rw[ig h1]
   by_cases h2: -n≤t[i][j]∧t[i][j]≤n
   ·have hx:=hm.2 _ h2.1 h2.2
    have hlen:=hm.1
    rw[ip (by simpa using h2),w_id (a:=n+t[i][j]) om om,ip om,ip om,hx]
    by_cases h3:t[i][j]∈seen
    ·rw[ip (by simpa using h3)]
     exact .inl ⟨by simp[rowR,h3],rfl⟩
    ·rw[ig (by simpa using h3),w_id (a:=(j:Int)+1) om om,show((j:Int)+1)=((j+1:Nat):Int) by omega,rowR,ip ⟨h1,h2,h3⟩,show k+1 - (d+1) - 1=k - d - 1 by omega]
     exact ih (j+1) k _ _ (hm.put h2) om om
   ·rw[ig (by simpa using h2),rowR,ig (fun h=>h2 h.2.1)]
    exact .inl ⟨rfl,rfl⟩
theorem pL (t:List (List Int)) (ht:t.length≤1048600) (n:Int) (hn:3≤n∧n≤9):∀(d i k:Nat) (x4:List Bool) (seen:List Int),Marks n x4 seen→i+d=t.length→5*d<k→
  fB.l0 k t n x4 (i:Int)=some (triR n seen (t.drop i)):=by
 intro d
 induction d with
 |zero=>
  intro i k x4 seen hm hi hk
  obtain⟨k,rfl⟩:=sk k
  simp only[fB.l0]
  rw[ig om,List.drop_of_length_le om]
  rfl
 |succ d ih=>
  intro i k x4 seen hm hi hk
  obtain⟨k,rfl⟩:=sk k
  have hlt:i<t.length:=by omega
  simp only[fB.l0]
  rw[ip om,ip om,rdL_nat t i hlt,List.drop_eq_getElem_cons hlt,triR]
  by_cases h1:t[i].length=3
  ·rw[ip om,ip h1,show(0:Int)=((0:Nat):Int)from rfl]
   rcases pM t n hn i hlt h1 3 0 k x4 seen hm om om with ⟨h2,h3⟩|⟨s,x4',h2,h3,h4⟩
   ·rw[h3]
    rw[List.drop_zero]at h2
    rw[h2]
   ·rw[h4]
    rw[List.drop_zero]at h2
    rw[h2,w_id om om,show((i:Int)+1)=((i+1:Nat):Int) by omega]
    exact ih (i+1) _ x4' s h3 om om
  ·rw[ig om,ig h1]
theorem spec_isT' (t:List (List Int)) (ht:t.length≤1048600) (k:Nat) (hk:6000000<k):fB.f k t=some (isT t):=by
 obtain⟨k,rfl⟩:=sk k
 unfold fB.f
 rw[l1In_eq,Option.bind_some]
 unfold isT edges
 by_cases h1:(t.length:Int) % 2=0
 ·rw[ip h1]
  simp only[fB.j0]
  by_cases h2:3≤wrap64 (Int.tdiv (wrap64 (3*(t.length:Int))) 2)∧wrap64 (Int.tdiv (wrap64 (3*(t.length:Int))) 2)≤9
  ·obtain⟨n,hn⟩:∃n:Int,wrap64 (Int.tdiv (wrap64 (3*(t.length:Int))) 2)=n:=⟨_,rfl⟩
   rw[hn]at h2 ⊢
   rw[ig (by simpa using h2),ip (show(t.length:Int) % 2=0∧3≤n∧n≤9 from⟨h1,h2⟩),w_id (a:=2*n) om om,w_id (a:=2*n+1) om om,ip om,ip om]
   have:=pL t ht n h2 t.length 0 k _ [] (Marks.made om) om om
   rw[List.drop_zero]at this
   exact this
  ·rw[ip (by rw[decide_eq_false h2];rfl),ig (fun h=>h2 h.2)]
 ·rw[ig h1]
  simp only[fB.j0]
  rw[ip trivial,ig (fun h=>h1 h.1)]
theorem jX (t:List (List Int)) (ht:t.length≤1048576) (k:Nat) (hk:6000000<k):fC.f k t=some (isT t):=impl_isT' t om k hk
theorem mD (t:List (List Int)) (ht:t.length≤1048576) (k:Nat) (hk:6000000<k):fB.f k t=some (isT t):=spec_isT' t om k hk
theorem rowR_some {n:Int}:∀ {r seen s:List Int},rowR n seen r=some s→(∀x∈r,x≠0∧ -n≤x∧x≤n)∧r.Nodup∧(∀x∈r,x ∉ seen)∧∀x,x∈s↔x∈r∨x∈seen
 |[],seen,s,h=>by
  have e:seen=s:=Option.some.inj h
  subst e
  simp
 |y :: ys,seen,s,h=>by
  rw[rowR]at h
  by_cases c:y≠0∧(-n≤y∧y≤n)∧y ∉ seen
  ·rw[ip c]at h
   obtain⟨h1,h2,h3,h4⟩:=rowR_some h
   refine⟨fun x hx=>?_,List.nodup_cons.2 ⟨fun hy=>h3 y hy List.mem_cons_self,h2⟩,fun x hx hs=>?_,fun x=>?_⟩
   ·rcases List.mem_cons.1 hx with rfl|hx
    ·exact⟨c.1,c.2.1⟩
    ·exact h1 x hx
   ·rcases List.mem_cons.1 hx with rfl|hx
    ·exact c.2.2 hs
    ·exact h3 x hx (List.mem_cons_of_mem _ hs)
   ·rw[h4 x,List.mem_cons,List.mem_cons]
    constructor
    ·rintro (h|h|h)
     ·exact .inl (.inr h)
     ·exact .inl (.inl h)
     ·exact .inr h
    ·rintro ((h|h)|h)
     ·exact .inr (.inl h)
     ·exact .inl h
     ·exact .inr (.inr h)
  ·rw[ig c]at h
   exact absurd h (by simp)
theorem triR_true {n:Int}:∀ {rows:List (List Int)}{seen:List Int},triR n seen rows=true→(∀r∈rows,r.length=3)∧(∀x∈rows.flatten,x≠0∧ -n≤x∧x≤n)∧rows.flatten.Nodup∧∀x∈rows.flatten,x ∉ seen
 |[],seen,_=>by simp
 |r :: rs,seen,h=>by
  rw[triR]at h
  by_cases c:r.length=3
  ·rw[ip c]at h
   cases hr:rowR n seen r with
   |none=>rw[hr]at h;exact absurd h (by simp)
   |some s=>
    rw[hr]at h
    obtain⟨h1,h2,h3,h4⟩:=rowR_some hr
    obtain⟨g1,g2,g3,g4⟩:=triR_true (show triR n s rs=true from h)
    refine⟨fun x hx=>?_,fun x hx=>?_,?_,fun x hx hs=>?_⟩
    ·rcases List.mem_cons.1 hx with rfl|hx
     ·exact c
     ·exact g1 x hx
    ·rw[List.flatten_cons,List.mem_append]at hx
     rcases hx with hx|hx
     ·exact h1 x hx
     ·exact g2 x hx
    ·rw[List.flatten_cons]
     refine List.nodup_append.2 ⟨h2,g3,fun a ha b hb e=>?_⟩
     subst e
     exact g4 a hb ((h4 a).2 (.inl ha))
    ·rw[List.flatten_cons,List.mem_append]at hx
     rcases hx with hx|hx
     ·exact h3 x hx hs
     ·exact g4 x hx ((h4 x).2 (.inr hs))
  ·rw[ig c]at h
   exact absurd h (by simp)
/-- A triangulation with n edges. -/
structure TriOk (t:List (List Int)) (n:Int):Prop where
 n3:3≤n
 n9:n≤9
 len:3*(t.length:Int)=2*n
 row:∀r∈t,r.length=3
 inr:∀x∈t.flatten,x≠0∧ -n≤x∧x≤n
 nodup:t.flatten.Nodup
theorem edges_eq {t:List (List Int)} (ht:t.length≤1048600):edges t=3*(t.length:Int) / 2:=by
 unfold edges
 rw[w_id (a:=3*(t.length:Int)) om om,Int.tdiv_eq_ediv_of_nonneg om,w_id om om]
theorem isT_ok' {t:List (List Int)} (ht:t.length≤1048600) (h:isT t=true):TriOk t (edges t):=by
 unfold isT at h
 by_cases c:(t.length:Int) % 2=0∧3≤edges t∧edges t≤9
 ·rw[ip c]at h
  obtain⟨h1,h2,h3,_⟩:=triR_true h
  have e:=edges_eq ht
  exact⟨c.2.1,c.2.2,by omega,h1,h2,h3⟩
 ·rw[ig c]at h
  exact absurd h (by simp)
theorem isT_ok {t:List (List Int)} (ht:t.length≤1048576) (h:isT t=true):TriOk t (edges t):=isT_ok' om h
theorem TriOk.short {t:List (List Int)}{n:Int} (h:TriOk t n):t.length≤6∧2≤t.length:=by
 have:=h.n3
 have:=h.n9
 have:=h.len
 omega
theorem TriOk.at {t:List (List Int)}{n:Int} (h:TriOk t n){i j:Nat} (hi:i<t.length) (hj:j<t[i].length):t[i][j]≠0∧ -n≤t[i][j]∧t[i][j]≤n:=
 h.inr _ (List.mem_flatten.2 ⟨t[i],List.getElem_mem hi,List.getElem_mem hj⟩)
theorem TriOk.three {t:List (List Int)}{n:Int} (h:TriOk t n){i:Nat} (hi:i<t.length):t[i].length=3:=h.row _ (List.getElem_mem hi)
theorem TriOk.i64 {t:List (List Int)}{n:Int} (h:TriOk t n){r:List Int} (hr:r∈t):∃a b c,r=[a,b,c]∧(a≠0∧ -n≤a∧a≤n)∧(b≠0∧ -n≤b∧b≤n)∧(c≠0∧ -n≤c∧c≤n):=by
 have hl:=h.row r hr
 match r,hl with
 |[a,b,c],_=>
  exact⟨a,b,c,rfl,h.inr _ (List.mem_flatten.2 ⟨_,hr,by simp⟩),h.inr _ (List.mem_flatten.2 ⟨_,hr,by simp⟩),h.inr _ (List.mem_flatten.2 ⟨_,hr,by simp⟩)⟩
theorem l3Abs_eq {a:Int} (h0: -9223372036854775807≤a) (h1:a≤9223372036854775807):fZ.f a=some (a.natAbs:Int):=by
 unfold fZ.f jQ.f
 rw[w_id om om]
 by_cases h:a> -a
 ·rw[ip h];simp only[Option.bind_some];congr 1;omega
 ·rw[ig h];simp only[Option.bind_some];congr 1;omega
theorem size_eq {a:Int} (h0: -9223372036854775807≤a) (h1:a≤9223372036854775807):gS.f a=some (a.natAbs:Int):=by
 unfold gS.f
 rw[w_id om om]
 congr 1
 unfold mx
 split <;> omega
/-- A side's coordinate. -/
def crd (x:List Int) (s:Int):Int:=rd x ((s.natAbs:Int) - 1)
def fairRow (x:List Int):List Int→Bool
 |[a,b,c]=>decide ((crd x a+crd x b+crd x c) % 2=0∧crd x a≤crd x b+crd x c∧crd x b≤crd x a+crd x c∧crd x c≤crd x a+crd x b)
 |_=>false
def isF (t:List (List Int)) (x:List Int):Bool:=isT t && (decide ((x.length:Int)=edges t) && (x.all co && t.all (fairRow x)))
theorem crd_bd {x:List Int} (hx:x.all co=true) (s:Int):0≤crd x s∧crd x s≤200:=by
 unfold crd rd
 rw[List.getD_eq_getElem?_getD]
 cases h:x[((s.natAbs:Int) - 1).toNat]? with
 |none=>simp
 |some y=>
  have:=List.all_eq_true.1 hx y (List.mem_of_getElem? h)
  unfold co at this
  simpa using this
/-- Twice the arcs at a corner. -/
def twR (x:List Int) (a b c:Int):Int:=crd x a+crd x b - crd x c
theorem twice_eq {t:List (List Int)}{n:Int} (ok:TriOk t n){x:List Int} (hx:(x.length:Int)=n) (hc:x.all co=true){i:Nat} (hi:i<t.length){a b c:Int} (e:t[i]=[a,b,c]):
  gR.f t x (i:Int) 0=some (twR x a b c)∧gR.f t x (i:Int) 1=some (twR x b c a)∧gR.f t x (i:Int) 2=some (twR x c a b):=by
 have n9:=ok.n9
 have hm:∀y∈[a,b,c],y≠0∧ -n≤y∧y≤n:=by
  intro y hy
  rw[←e]at hy
  exact ok.inr y (List.mem_flatten.2 ⟨_,List.getElem_mem hi,hy⟩)
 have ha:=hm a (by simp)
 have hb:=hm b (by simp)
 have hcc:=hm c (by simp)
 have A:=crd_bd hc a
 have B:=crd_bd hc b
 have C:=crd_bd hc c
 have e0:rd [a,b,c] 0=a:=rfl
 have e1:rd [a,b,c] 1=b:=rfl
 have e2:rd [a,b,c] 2=c:=rfl
 have q:∀y:Int,y≠0∧ -n≤y∧y≤n→0≤(y.natAbs:Int) - 1∧(y.natAbs:Int) - 1<x.length∧wrap64 ((y.natAbs:Int) - 1)=(y.natAbs:Int) - 1:=fun y hy=>⟨by omega,by omega,w_id om om⟩
 obtain⟨qa1,qa2,qa3⟩:=q a ha
 obtain⟨qb1,qb2,qb3⟩:=q b hb
 obtain⟨qc1,qc2,qc3⟩:=q c hcc
 have sa:=l3Abs_eq (a:=a) om om
 have sb:=l3Abs_eq (a:=b) om om
 have sc:=l3Abs_eq (a:=c) om om
 have l3:(([a,b,c]:List Int).length:Int)=3:=rfl
 have w01:Int.tmod (wrap64 (0+1)) 3=1:=by decide+kernel
 have w02:Int.tmod (wrap64 (0+2)) 3=2:=by decide+kernel
 have w11:Int.tmod (wrap64 (1+1)) 3=2:=by decide+kernel
 have w12:Int.tmod (wrap64 (1+2)) 3=0:=by decide+kernel
 have w21:Int.tmod (wrap64 (2+1)) 3=0:=by decide+kernel
 have w22:Int.tmod (wrap64 (2+2)) 3=1:=by decide+kernel
 have i0:(0:Int)≤(i:Int):=by omega
 have i1:(i:Int)<(t.length:Int):=by omega
 refine⟨?_,?_,?_⟩
 ·unfold gR.f
  rw[ip i0,ip i1,rdL_nat t i hi,e,l3,w01,w02,ip (by decide),ip (by decide),e0,sa,Option.bind_some,qa3,ip qa1,ip qa2,ip (by decide),ip (by decide),e1,sb,Option.bind_some,qb3,ip qb1,ip qb2,ip (by decide),ip (by decide),e2,sc,Option.bind_some,qc3,ip qc1,ip qc2]
  unfold twR
  unfold crd at A B C ⊢
  rw[w_id (a:=rd x _+rd x _) om om,w_id om om]
 ·unfold gR.f
  rw[ip i0,ip i1,rdL_nat t i hi,e,l3,w11,w12,ip (by decide),ip (by decide),e1,sb,Option.bind_some,qb3,ip qb1,ip qb2,ip (by decide),ip (by decide),e2,sc,Option.bind_some,qc3,ip qc1,ip qc2,ip (by decide),ip (by decide),e0,sa,Option.bind_some,qa3,ip qa1,ip qa2]
  unfold twR
  unfold crd at A B C ⊢
  rw[w_id (a:=rd x _+rd x _) om om,w_id om om]
 ·unfold gR.f
  rw[ip i0,ip i1,rdL_nat t i hi,e,l3,w21,w22,ip (by decide),ip (by decide),e2,sc,Option.bind_some,qc3,ip qc1,ip qc2,ip (by decide),ip (by decide),e0,sa,Option.bind_some,qa3,ip qa1,ip qa2,ip (by decide),ip (by decide),e1,sb,Option.bind_some,qb3,ip qb1,ip qb2]
  unfold twR
  unfold crd at A B C ⊢
  rw[w_id (a:=rd x _+rd x _) om om,w_id om om]
theorem mZ {t:List (List Int)}{n:Int} (ok:TriOk t n){x:List Int} (hx:(x.length:Int)=n) (hc:x.all co=true){i:Nat} (hi:i<t.length) (k:Nat):
  fI.l2 (k+4) t x (i:Int) 0=if fairRow x t[i]=true then fI.l1 k t x (wrap64 ((i:Int)+1))else some false:=by
 obtain⟨a,b,c,e,_⟩:=ok.i64 (List.getElem_mem hi)
 obtain⟨h0,h1,h2⟩:=twice_eq ok hx hc hi e
 have A:=crd_bd hc a
 have B:=crd_bd hc b
 have C:=crd_bd hc c
 have hf:fairRow x t[i]=decide ((crd x a+crd x b+crd x c) % 2=0∧crd x a≤crd x b+crd x c∧crd x b≤crd x a+crd x c∧crd x c≤crd x a+crd x b):=by rw[e];rfl
 rw[hf]
 unfold twR at h0 h1 h2
 have no:∀(P:Prop) [Decidable P] (α:Type) (u v:α),¬P→(if decide P=true then u else v)=v:=fun P _ α u v h=>by simp[h]
 simp only[fI.l2]
 rw[ip (by decide),h0,Option.bind_some]
 by_cases c0:crd x a+crd x b - crd x c<0
 ·rw[ip c0,no _ _ _ _ om]
 ·rw[ig c0,Int.tmod_eq_emod_of_nonneg om]
  by_cases d0:(crd x a+crd x b - crd x c) % 2=0
  ·rw[ip d0,show wrap64 (0+1)=1 by decide+kernel]
   rw[ip (by decide),h1,Option.bind_some]
   by_cases c1:crd x b+crd x c - crd x a<0
   ·rw[ip c1,no _ _ _ _ om]
   ·rw[ig c1,Int.tmod_eq_emod_of_nonneg om,ip om,show wrap64 (1+1)=2 by decide+kernel]
    rw[ip (by decide),h2,Option.bind_some]
    by_cases c2:crd x c+crd x a - crd x b<0
    ·rw[ip c2,no _ _ _ _ om]
    ·rw[ig c2,Int.tmod_eq_emod_of_nonneg om,ip om,show wrap64 (2+1)=3 by decide+kernel]
     rw[ig (by decide),ip (by rw[decide_eq_true_iff];omega)]
  ·rw[ig d0,no _ _ _ _ om]
theorem mY {t:List (List Int)}{n:Int} (ok:TriOk t n){x:List Int} (hx:(x.length:Int)=n) (hc:x.all co=true):∀(d i k:Nat),i+d=t.length→6*d<k→fI.l1 k t x (i:Int)=some ((t.drop i).all (fairRow x)):=by
 have hs:=ok.short
 intro d
 induction d with
 |zero=>
  intro i k hi hk
  obtain⟨k,rfl⟩:=sk k
  simp only[fI.l1]
  rw[ig om,List.drop_of_length_le om]
  rfl
 |succ d ih=>
  intro i k hi hk
  obtain⟨k,rfl⟩:∃m,k=m+5:=⟨k - 5,by omega⟩
  have hlt:i<t.length:=by omega
  rw[show k+5=(k+4)+1 from rfl]
  simp only[fI.l1]
  rw[ip om,mZ ok hx hc hlt k,w_id om om,show((i:Int)+1)=((i+1:Nat):Int) by omega,ih (i+1) k om om,List.drop_eq_getElem_cons hlt,List.all_cons]
  by_cases h:fairRow x t[i]=true
  ·rw[ip h,h,Bool.true_and]
  ·rw[ig h]
   simp at h
   rw[h,Bool.false_and]
theorem mX {t:List (List Int)}{n:Int} (ok:TriOk t n){x:List Int} (hx:(x.length:Int)=n):∀(d i k:Nat),i+d=x.length→100+d<k→(x.take i).all co=true→fI.l0 k t x (i:Int)=some (x.all co && t.all (fairRow x)):=by
 have hs:=ok.short
 have n9:=ok.n9
 intro d
 induction d with
 |zero=>
  intro i k hi hk ht
  obtain⟨k,rfl⟩:=sk k
  simp only[fI.l0]
  rw[List.take_of_length_le om]at ht
  have:=mY ok hx ht t.length 0 k om om
  rw[List.drop_zero]at this
  rw[ig om,ht,Bool.true_and]
  exact this
 |succ d ih=>
  intro i k hi hk ht
  obtain⟨k,rfl⟩:=sk k
  have hlt:i<x.length:=by omega
  simp only[fI.l0]
  rw[ip om,ip om,rd_nat x i hlt,l1In_eq,Option.bind_some]
  by_cases h:0≤x[i]∧x[i]≤200
  ·rw[ip (by simpa using h),w_id om om,show((i:Int)+1)=((i+1:Nat):Int) by omega]
   refine ih (i+1) k om om ?_
   rw[List.take_succ_eq_append_getElem hlt,List.all_append,ht]
   simp[co,h]
  ·rw[ig (by simpa using h)]
   have:x.all co=false:=by
    rw[List.all_eq_false]
    exact⟨x[i],List.getElem_mem hlt,by unfold co;simpa using h⟩
   rw[this,Bool.false_and]
theorem jT (t:List (List Int)) (ht:t.length≤1048576) (x:List Int) (k:Nat) (hk:6000001<k):fI.f k t x=some (isF t x):=by
 obtain⟨k,rfl⟩:=sk k
 unfold fI.f isF
 rw[mD t ht _ om,Option.bind_some]
 simp only[fI.j0]
 rw[show wrap64 (Int.tdiv (wrap64 (3*(t.length:Int))) 2)=edges t from rfl]
 by_cases h:isT t=true
 ·have ok:=isT_ok ht h
  have n9:=ok.n9
  rw[ip h,h]
  by_cases h2:(x.length:Int)=edges t
  ·have:=mX ok h2 x.length 0 k om om (by simp)
   rw[ig (by simpa using h2),decide_eq_true h2,Bool.true_and,Bool.true_and]
   exact this
  ·rw[ip (by simpa using h2),decide_eq_false h2,Bool.false_and,Bool.and_false]
 ·rw[ig h,ip trivial]
  simp at h
  rw[h,Bool.false_and]
theorem mT {t:List (List Int)}{n:Int} (ok:TriOk t n){x:List Int} (hx:(x.length:Int)=n) (hc:x.all co=true):∀(d i k:Nat),i+d=t.length→d<k→fS.l0 k x t (t.length:Int) (i:Int)=some ((t.drop i).all (fairRow x)):=by
 have hs:=ok.short
 have n9:=ok.n9
 intro d
 induction d with
 |zero=>
  intro i k hi hk
  obtain⟨k,rfl⟩:=sk k
  simp only[fS.l0]
  rw[ig om,List.drop_of_length_le om]
  rfl
 |succ d ih=>
  intro i k hi hk
  obtain⟨k,rfl⟩:=sk k
  have hlt:i<t.length:=by omega
  obtain⟨a,b,c,e,ha,hb,hcc⟩:=ok.i64 (List.getElem_mem hlt)
  have A:=crd_bd hc a
  have B:=crd_bd hc b
  have C:=crd_bd hc c
  have q:∀y:Int,y≠0∧ -n≤y∧y≤n→0≤(y.natAbs:Int) - 1∧(y.natAbs:Int) - 1<x.length∧wrap64 ((y.natAbs:Int) - 1)=(y.natAbs:Int) - 1:=fun y hy=>⟨by omega,by omega,w_id om om⟩
  obtain⟨qa1,qa2,qa3⟩:=q a ha
  obtain⟨qb1,qb2,qb3⟩:=q b hb
  obtain⟨qc1,qc2,qc3⟩:=q c hcc
  have sa:=size_eq (a:=a) om om
  have sb:=size_eq (a:=b) om om
  have sc:=size_eq (a:=c) om om
  have l3:(([a,b,c]:List Int).length:Int)=3:=rfl
  have e0:rd [a,b,c] 0=a:=rfl
  have e1:rd [a,b,c] 1=b:=rfl
  have e2:rd [a,b,c] 2=c:=rfl
  have hf:fairRow x t[i]=decide ((crd x a+crd x b+crd x c) % 2=0∧crd x a≤crd x b+crd x c∧crd x b≤crd x a+crd x c∧crd x c≤crd x a+crd x b):=by rw[e];rfl
  simp only[fS.l0]
  rw[List.drop_eq_getElem_cons hlt,List.all_cons,hf]
  rw[ip om,ip om,ip om,rdL_nat t i hlt,e,l3,e0,e1,e2,ip (by decide),sa,Option.bind_some,qa3,ip qa1,ip qa2,ip (by decide),sb,Option.bind_some,qb3,ip qb1,ip qb2,ip (by decide),sc,Option.bind_some,qc3,ip qc1,ip qc2]
  rw[show rd x ((a.natAbs:Int) - 1)=crd x a from rfl,show rd x ((b.natAbs:Int) - 1)=crd x b from rfl,show rd x ((c.natAbs:Int) - 1)=crd x c from rfl]
  rw[w_id (a:=crd x a+crd x b) om om,w_id (a:=crd x a+crd x b+crd x c) om om,w_id (a:=crd x b+crd x c) om om,w_id (a:=crd x a+crd x c) om om,Int.tmod_eq_emod_of_nonneg om,w_id (a:=(i:Int)+1) om om,show((i:Int)+1)=((i+1:Nat):Int) by omega,ih (i+1) k om om]
  have no:∀(P:Prop) [Decidable P] (u:Bool),¬P→(decide P && u)=false:=fun P _ u h=>by simp[h]
  by_cases c0:(crd x a+crd x b+crd x c) % 2=0
  ·rw[ip c0]
   by_cases c1:crd x a>crd x b+crd x c
   ·rw[ip c1,no _ _ om]
   ·rw[ig c1]
    by_cases c2:crd x b>crd x a+crd x c
    ·rw[ip c2,no _ _ om]
    ·rw[ig c2]
     by_cases c3:crd x c>crd x a+crd x b
     ·rw[ip c3,no _ _ om]
     ·rw[ig c3,decide_eq_true om,Bool.true_and]
  ·rw[ig c0,no _ _ om]
theorem mK (t:List (List Int)) (ht:t.length≤1048576) (x:List Int) (k:Nat) (hk:6000001<k):fS.f k t x=some (isF t x):=by
 obtain⟨k,rfl⟩:=sk k
 unfold fS.f isF
 rw[jX t ht _ om,Option.bind_some]
 simp only[fS.j0]
 rw[show wrap64 (Int.tdiv (wrap64 (3*(t.length:Int))) 2)=edges t from rfl]
 by_cases h:isT t=true
 ·have ok:=isT_ok ht h
  have n9:=ok.n9
  have hs:=ok.short
  rw[ip h,h]
  by_cases h2:(x.length:Int)=edges t
  ·rw[ip h2,decide_eq_true h2,Bool.true_and,Bool.true_and,areCo x om _ om,Option.bind_some]
   by_cases h3:x.all co=true
   ·have:=mT ok h2 h3 t.length 0 k om om
    rw[List.drop_zero]at this
    rw[h3,ig (by decide),Bool.true_and]
    exact this
   ·rw[Bool.eq_false_iff.mpr h3,ip (by decide),Bool.false_and]
  ·rw[ig h2,ip trivial,decide_eq_false h2,Bool.false_and,Bool.and_false]
 ·rw[ig h,ip trivial]
  simp at h
  rw[h,Bool.false_and]
/-- The first place of a number. -/
def idx (x:Int):List Int→Int→Int
 |[],_=> -1
 |y :: ys,j=>if y=x then j else idx x ys (j+1)
def sideR (x:Int):List (List Int)→Int→Int × Int
 |[],_=>(-1, -1)
 |r :: rs,i=>if 0≤idx x r 0 then(i,idx x r 0)else sideR x rs (i+1)
theorem idx_bd (x:Int):∀(ys:List Int) (j:Int),0≤j→idx x ys j= -1∨(j≤idx x ys j∧idx x ys j<j+ys.length)
 |[],j,_=> .inl rfl
 |y :: ys,j,hj=>by
  rw[idx,List.length_cons]
  split
  ·exact .inr om
  ·rcases idx_bd x ys (j+1) om with h|h
   ·exact .inl h
   ·exact .inr om
theorem idx_hit (x:Int):∀(ys:List Int) (j:Int),0≤j→x∈ys→j≤idx x ys j∧idx x ys j<j+ys.length
 |[],j,_,h=>absurd h (by simp)
 |y :: ys,j,hj,h=>by
  rw[idx,List.length_cons]
  by_cases e:y=x
  ·rw[ip e];omega
  ·rw[ig e]
   have:=idx_hit x ys (j+1) om (by
    rcases List.mem_cons.1 h with h|h
    ·exact absurd h.symm e
    ·exact h)
   omega
theorem idx_at (x:Int):∀(ys:List Int) (j:Int),0≤j→0≤idx x ys j→ys[(idx x ys j - j).toNat]?= some x
 |[],j,_,h=>absurd h (by simp[idx])
 |y :: ys,j,hj,h=>by
  rw[idx]at h ⊢
  by_cases e:y=x
  ·rw[ip e]
   simp[e]
  ·rw[ig e]at h ⊢
   have ih:=idx_at x ys (j+1) om h
   rcases idx_bd x ys (j+1) om with h2|h2
   ·omega
   ·rw[show(idx x ys (j+1) - j).toNat=(idx x ys (j+1) - (j+1)).toNat+1 by omega,List.getElem?_cons_succ]
    exact ih
theorem indexOf_l0 (x:Int) (xs:List Int) (hx:xs.length≤1000000000000):∀(d k j:Nat),j+d=xs.length→d<k→jB.l0 k x xs (xs.length:Int) (j:Int)=some (idx x (xs.drop j) (j:Int)):=by
 intro d
 induction d with
 |zero=>
  intro k j hj hk
  obtain⟨k,rfl⟩:=sk k
  simp only[jB.l0]
  rw[ig om,List.drop_of_length_le om]
  rfl
 |succ d ih=>
  intro k j hj hk
  obtain⟨k,rfl⟩:=sk k
  have hlt:j<xs.length:=by omega
  simp only[jB.l0]
  rw[ip om,ip om,ip om,rd_nat xs j hlt,List.drop_eq_getElem_cons hlt,idx]
  by_cases e:xs[j]=x
  ·rw[ip e,ip e]
  ·rw[ig e,ig e,w_id om om,show((j:Int)+1)=((j+1:Nat):Int) by omega,ih k (j+1) om om]
theorem indexOf_f (x:Int) (xs:List Int) (hx:xs.length≤1000000000000) (k:Nat) (hk:xs.length<k):jB.f k xs x=some (idx x xs 0):=by
 unfold jB.f
 have:=indexOf_l0 x xs hx xs.length k 0 om hk
 rw[List.drop_zero]at this
 exact this
theorem sideAt_l0 (x:Int) (t:List (List Int)) (ht:t.length≤1048576) (hr:∀r∈t,r.length≤1048576):∀(d k i:Nat),i+d=t.length→d+1048577<k→gP.l0 k x t (t.length:Int) (i:Int)=some (sideR x (t.drop i) (i:Int)):=by
 intro d
 induction d with
 |zero=>
  intro k i hi hk
  obtain⟨k,rfl⟩:=sk k
  simp only[gP.l0]
  rw[ig om,List.drop_of_length_le om]
  rfl
 |succ d ih=>
  intro k i hi hk
  obtain⟨k,rfl⟩:=sk k
  have hlt:i<t.length:=by omega
  have hl:=hr _ (List.getElem_mem hlt)
  simp only[gP.l0]
  rw[ip om,ip om,ip om,rdL_nat t i hlt,indexOf_f x _ om k om,Option.bind_some,List.drop_eq_getElem_cons hlt,sideR]
  by_cases e:0≤idx x t[i] 0
  ·rw[ip e,ip e]
  ·rw[ig e,ig e,w_id om om,show((i:Int)+1)=((i+1:Nat):Int) by omega,ih k (i+1) om om]
theorem sideAt_f (x:Int) (t:List (List Int)) (ht:t.length≤1048576) (hr:∀r∈t,r.length≤1048576) (k:Nat) (hk:3000000<k):gP.f k t x=some (sideR x t 0):=by
 unfold gP.f
 have:=sideAt_l0 x t ht hr t.length k 0 om om
 rw[List.drop_zero]at this
 exact this
theorem getD_at {α:Type}{l:List α} (d:α){i:Nat} (h:i<l.length):l.getD i d=l[i]:=by
 rw[List.getD_eq_getElem?_getD,List.getElem?_eq_getElem h,Option.getD_some]
/-- The letter of a side, the sides counted on from the last to the first. -/
def sideOf (t:List (List Int)) (i:Nat) (j:Nat):Int:=(t.getD i []).getD (j % 3) 0
theorem sideOf_in {t:List (List Int)}{n:Int} (ok:TriOk t n){i:Nat} (hi:i<t.length) (j:Nat):sideOf t i j≠0∧ -n≤sideOf t i j∧sideOf t i j≤n:=by
 have h3:=ok.three hi
 have hj:j % 3<t[i].length:=by omega
 have:=ok.at hi hj
 unfold sideOf
 rw[getD_at _ hi,getD_at _ hj]
 exact this
theorem sideOf_eq {t:List (List Int)}{i:Nat} (hi:i<t.length){a b c:Int} (e:t[i]=[a,b,c]):sideOf t i 0=a∧sideOf t i 1=b∧sideOf t i 2=c∧sideOf t i 3=a∧sideOf t i 4=b:=by
 unfold sideOf
 rw[getD_at _ hi,e]
 exact⟨rfl,rfl,rfl,rfl,rfl⟩
theorem flat3:∀ {t:List (List Int)},(∀r∈t,r.length=3)→t.flatten.length=3*t.length
 |[],_=>rfl
 |r :: rs,h=>by
  rw[List.flatten_cons,List.length_append,h r List.mem_cons_self,flat3 (fun x hx=>h x (List.mem_cons_of_mem _ hx)),List.length_cons]
  omega
/-- All letters and inverses. -/
def letters (n:Nat):List Int:=(List.range n).map (fun (k:Nat)=>(k:Int)+1) ++ (List.range n).map (fun (k:Nat)=> -(k:Int) - 1)
theorem mem_letters {n:Nat}{x:Int} (h0:x≠0) (h1: -(n:Int)≤x) (h2:x≤n):x∈letters n:=by
 unfold letters
 rw[List.mem_append,List.mem_map,List.mem_map]
 by_cases h:0<x
 ·exact .inl ⟨(x - 1).toNat,List.mem_range.2 om,by omega⟩
 ·exact .inr ⟨(-x - 1).toNat,List.mem_range.2 om,by omega⟩
theorem TriOk.all {t:List (List Int)}{n:Int} (ok:TriOk t n){x:Int} (h0:x≠0) (h1: -n≤x) (h2:x≤n):x∈t.flatten:=by
 apply Classical.byContradiction
 intro hc
 have n3:=ok.n3
 obtain⟨m,rfl⟩:∃m:Nat,n=m:=⟨n.toNat,by omega⟩
 have hx:=mem_letters h0 h1 h2
 have hs:∀y,y∈t.flatten→y∈(letters m).erase x:=by
  intro y hy
  have hb:=ok.inr y hy
  exact(List.mem_erase_of_ne (fun e=>hc (by rw[←e];exact hy))).2 (mem_letters hb.1 hb.2.1 hb.2.2)
 have hl:=List.Nodup.length_le_of_subset ok.nodup hs
 rw[List.length_erase_of_mem hx,flat3 ok.row]at hl
 have:(letters m).length=2*m:=by unfold letters;simp;omega
 have:=ok.len
 omega
theorem sideR_at (x:Int):∀(rs:List (List Int)) (b:Int),0≤b→x∈rs.flatten→∃i j:Nat,i<rs.length∧∃h:i<rs.length,j<rs[i].length∧rs[i][j]?= some x∧sideR x rs b=(b+i,(j:Int))
 |[],b,_,h=>absurd h (by simp)
 |r :: rs,b,hb,h=>by
  rw[sideR]
  by_cases hr:0≤idx x r 0
  ·have h1:=idx_at x r 0 om hr
   have h2:=idx_bd x r 0 om
   rw[ip hr]
   refine⟨0,(idx x r 0).toNat,by simp,by simp,?_,?_,?_⟩
   ·show(idx x r 0).toNat<r.length
    omega
   ·show r[(idx x r 0).toNat]?= some x
    rw[Int.sub_zero]at h1
    exact h1
   ·have e:((idx x r 0).toNat:Int)=idx x r 0:=by omega
    rw[e]
    simp
  ·rw[ig hr]
   rw[List.flatten_cons,List.mem_append]at h
   rcases h with h|h
   ·have:=idx_hit x r 0 om h
    exact absurd this.1 hr
   ·obtain⟨i,j,hi,hi',hj,he,hs⟩:=sideR_at x rs (b+1) om h
    refine⟨i+1,j,by simpa using hi,by simpa using hi,?_,?_,?_⟩
    ·simpa using hj
    ·simpa using he
    ·rw[hs]
     refine Prod.ext ?_ rfl
     show b+1+(i:Int)=b+((i+1:Nat):Int)
     omega
/-- Where a letter stands. -/
theorem TriOk.side {t:List (List Int)}{n:Int} (ok:TriOk t n){x:Int} (h0:x≠0) (h1: -n≤x) (h2:x≤n):∃i j:Nat,i<t.length∧j<3∧sideR x t 0=((i:Int),(j:Int))∧sideOf t i j=x:=by
 obtain⟨i,j,hi,_,hj,he,hs⟩:=sideR_at x t 0 om (ok.all h0 h1 h2)
 have h3:=ok.three hi
 refine⟨i,j,hi,by omega,by rw[hs,Int.zero_add],?_⟩
 unfold sideOf
 rw[getD_at _ hi,List.getD_eq_getElem?_getD,Nat.mod_eq_of_lt om,he]
 rfl
theorem rd_side {t:List (List Int)}{n:Int} (ok:TriOk t n){i:Nat} (hi:i<t.length) (j:Nat):rd (rd_L1 t (i:Int)) (Int.tmod (j:Int) 3)=sideOf t i j:=by
 have h3:=ok.three hi
 rw[rdL_nat t i hi,Int.tmod_eq_emod_of_nonneg om,show((j:Int) % 3)=((j % 3:Nat):Int) by omega,rd_nat _ _ om]
 unfold sideOf
 rw[getD_at _ hi,getD_at _ om]
/-- The arcs at a corner, twice. -/
def tw (t:List (List Int)) (x:List Int) (i j:Nat):Int:=crd x (sideOf t i j)+crd x (sideOf t i (j+1)) - crd x (sideOf t i (j+2))
theorem isF_ok {t:List (List Int)}{x:List Int} (ht:t.length≤1048576) (h:isF t x=true):TriOk t (edges t)∧(x.length:Int)=edges t∧x.all co=true∧∀r∈t,fairRow x r=true:=by
 unfold isF at h
 rw[Bool.and_eq_true,Bool.and_eq_true,Bool.and_eq_true,decide_eq_true_iff]at h
 exact⟨isT_ok ht h.1,h.2.1,h.2.2.1,fun r hr=>List.all_eq_true.1 h.2.2.2 r hr⟩
theorem twice_tw {t:List (List Int)}{n:Int} (ok:TriOk t n){x:List Int} (hx:(x.length:Int)=n) (hc:x.all co=true){i:Nat} (hi:i<t.length) (j:Nat) (hj:j<3):gR.f t x (i:Int) (j:Int)=some (tw t x i j):=by
 obtain⟨a,b,c,e,_⟩:=ok.i64 (List.getElem_mem hi)
 obtain⟨h0,h1,h2⟩:=twice_eq ok hx hc hi e
 obtain⟨s0,s1,s2,s3,s4⟩:=sideOf_eq hi e
 unfold tw
 match j,hj with
 |0,_=>rw[s0,s1,s2];exact h0
 |1,_=>rw[s1,s2,s3];exact h1
 |2,_=>rw[s2,s3,s4];exact h2
end Go.Proofs.Ytemeiocmgbgikaa.L

namespace Go.Proofs.Ytemeiocmgbgikaa.UF
open Go.Proofs.YtemeiocmgbgikaaW.PrintWords (om sk ip ig)
set_option linter.unusedVariables false

/-- The number that a number points to. -/
def P (up:List Int) (i:Int):Int:=up.getD i.toNat 0
/-- The way from i ends at r. -/
inductive Root (up:List Int):Int→Int→Prop
 |here {r:Int} (h:P up r=r):Root up r r
 |step {i r:Int} (h:P up i≠i) (k:Root up (P up i) r):Root up i r
theorem Root.root {up:List Int}{i r:Int} (h:Root up i r):P up r=r:=by
 induction h with
 |here h=>exact h
 |step _ _ ih=>exact ih
theorem Root.uniq {up:List Int}{i r:Int} (h:Root up i r):∀ {s:Int},Root up i s→r=s:=by
 induction h with
 |here h=>
  intro s hs
  cases hs with
  |here _=>rfl
  |step h2 _=>exact absurd h h2
 |step h k ih=>
  intro s hs
  cases hs with
  |here h2=>exact absurd h2 h
  |step _ k2=>exact ih k2
/-- A forest: every number points to a number, every way ends. -/
def Ok (up:List Int):Prop:=∀i:Int,0≤i→i<up.length→(0≤P up i∧P up i<up.length)∧∃r,Root up i r
theorem Ok.bd {up:List Int} (h:Ok up){i r:Int} (hr:Root up i r):0≤i→i<up.length→0≤r∧r<up.length:=by
 induction hr with
 |here _=>exact fun h0 h1=>⟨h0,h1⟩
 |step _ _ ih=>exact fun h0 h1=>ih (h _ h0 h1).1.1 (h _ h0 h1).1.2
theorem P_set {up:List Int}{a b i:Int} (ha:0≤a) (ha1:a<up.length) (hi:0≤i):P (up.set a.toNat b) i=if i=a then b else P up i:=by
 unfold P
 by_cases h:i=a
 ·subst h
  rw[ip rfl,List.getD_eq_getElem?_getD,List.getElem?_set_self om]
  rfl
 ·rw[ig h,List.getD_eq_getElem?_getD,List.getD_eq_getElem?_getD,List.getElem?_set_ne om]
theorem set_other {up:List Int} (hok:Ok up){ra rb:Int} (ha:0≤ra∧ra<up.length) (hra:P up ra=ra){i r:Int} (h:Root up i r):0≤i→i<up.length→r≠ra→Root (up.set ra.toNat rb) i r:=by
 induction h with
 |here h=>
  intro h0 h1 hne
  exact .here (by rw[P_set ha.1 ha.2 h0,ig hne];exact h)
 |@step i r h k ih=>
  intro h0 h1 hne
  have hi:i≠ra:=fun e=>h (by rw[e];exact hra)
  have hp:P (up.set ra.toNat rb) i=P up i:=by rw[P_set ha.1 ha.2 h0,ig hi]
  exact .step (by rw[hp];exact h) (by rw[hp];exact ih (hok i h0 h1).1.1 (hok i h0 h1).1.2 hne)
theorem set_same {up:List Int} (hok:Ok up){ra rb:Int} (ha:0≤ra∧ra<up.length) (hb:0≤rb∧rb<up.length) (hra:P up ra=ra) (hrb:P up rb=rb){i r:Int} (h:Root up i r):0≤i→i<up.length→r=ra→Root (up.set ra.toNat rb) i rb:=by
 induction h with
 |@here r h=>
  intro h0 h1 e
  subst e
  by_cases hab:r=rb
  ·subst hab
   exact .here (by rw[P_set ha.1 ha.2 h0,ip rfl])
  ·have hp:P (up.set r.toNat rb) r=rb:=by rw[P_set ha.1 ha.2 h0,ip rfl]
   refine .step (by rw[hp];exact fun e=>hab e.symm) ?_
   rw[hp]
   exact set_other hok ha hra (.here hrb) hb.1 hb.2 (fun e=>hab e.symm)
 |@step i r h k ih=>
  intro h0 h1 e
  have hi:i≠ra:=fun e=>h (by rw[e];exact hra)
  have hp:P (up.set ra.toNat rb) i=P up i:=by rw[P_set ha.1 ha.2 h0,ig hi]
  exact .step (by rw[hp];exact h) (by rw[hp];exact ih (hok i h0 h1).1.1 (hok i h0 h1).1.2 e)
theorem Ok.set {up:List Int} (hok:Ok up){ra rb:Int} (ha:0≤ra∧ra<up.length) (hb:0≤rb∧rb<up.length) (hra:P up ra=ra) (hrb:P up rb=rb):Ok (up.set ra.toNat rb):=by
 intro i h0 h1
 rw[List.length_set]at h1
 refine⟨?_,?_⟩
 ·rw[P_set ha.1 ha.2 h0,List.length_set]
  split
  ·exact hb
  ·exact(hok i h0 h1).1
 ·obtain⟨r,hr⟩:=(hok i h0 h1).2
  by_cases e:r=ra
  ·exact⟨rb,set_same hok ha hb hra hrb hr h0 h1 e⟩
  ·exact⟨r,set_other hok ha hra hr h0 h1 e⟩
/-- Two numbers of one class. -/
def Same (up:List Int) (i j:Int):Prop:=∃r,Root up i r∧Root up j r
/-- Being of one class, as pairs make it, among the numbers below n. -/
inductive Cls (n:Int) (ps:List (Int × Int)):Int→Int→Prop
 |refl {i:Int} (h0:0≤i) (h1:i<n):Cls n ps i i
 |pair {i j:Int} (h:(i,j)∈ps) (h0:0≤i) (h1:i<n) (h2:0≤j) (h3:j<n):Cls n ps i j
 |symm {i j:Int} (h:Cls n ps i j):Cls n ps j i
 |trans {i j k:Int} (h:Cls n ps i j) (h2:Cls n ps j k):Cls n ps i k
theorem Cls.bd {n:Int}{ps:List (Int × Int)}{i j:Int} (h:Cls n ps i j):(0≤i∧i<n)∧(0≤j∧j<n):=by
 induction h with
 |refl h0 h1=>exact⟨⟨h0,h1⟩,h0,h1⟩
 |pair _ h0 h1 h2 h3=>exact⟨⟨h0,h1⟩,h2,h3⟩
 |symm _ ih=>exact⟨ih.2,ih.1⟩
 |trans _ _ ih1 ih2=>exact⟨ih1.1,ih2.2⟩
theorem Cls.mono {n:Int}{ps qs:List (Int × Int)} (hs:∀p,p∈ps→p∈qs){i j:Int} (h:Cls n ps i j):Cls n qs i j:=by
 induction h with
 |refl h0 h1=>exact .refl h0 h1
 |pair h h0 h1 h2 h3=>exact .pair (hs _ h) h0 h1 h2 h3
 |symm _ ih=>exact .symm ih
 |trans _ _ ih1 ih2=>exact .trans ih1 ih2
/-- The forest that stands for pairs. -/
structure Stands (up:List Int) (n:Int) (ps:List (Int × Int)):Prop where
 ok:Ok up
 len:(up.length:Int)=n
 cls:∀i j,Cls n ps i j↔(0≤i∧i<n)∧(0≤j∧j<n)∧Same up i j
theorem Stands.join {up:List Int}{n:Int}{ps:List (Int × Int)} (h:Stands up n ps){a b ra rb:Int} (ha:0≤a∧a<n) (hb:0≤b∧b<n) (hra:Root up a ra) (hrb:Root up b rb):
  Stands (up.set ra.toNat rb) n (ps ++ [(a,b)])∧Stands (up.set rb.toNat ra) n (ps ++ [(a,b)]):=by
 have hl:=h.len
 have gen:∀(x y rx ry:Int),0≤x∧x<n→0≤y∧y<n→Root up x rx→Root up y ry→(∀i j,Cls n (ps ++ [(a,b)]) i j↔Cls n (ps ++ [(x,y)]) i j)→Stands (up.set rx.toNat ry) n (ps ++ [(a,b)]):=by
  intro x y rx ry hx hy hrx hry heq
  have bx:=h.ok.bd hrx hx.1 om
  have by':=h.ok.bd hry hy.1 om
  have hok:=h.ok.set bx by' hrx.root hry.root
  refine⟨hok,by rw[List.length_set];exact hl,fun i j=>?_⟩
  rw[heq]
  constructor
  ·intro hc
   refine⟨hc.bd.1,hc.bd.2,?_⟩
   induction hc with
   |@refl i h0 h1=>
    obtain⟨r,hr⟩:=(hok i h0 (by rw[List.length_set];omega)).2
    exact⟨r,hr,hr⟩
   |@pair i j hp h0 h1 h2 h3=>
    rcases List.mem_append.1 hp with hp|hp
    ·obtain⟨r,r1,r2⟩:=((h.cls i j).1 (.pair hp h0 h1 h2 h3)).2.2
     by_cases e:r=rx
     ·exact⟨ry,set_same h.ok bx by' hrx.root hry.root r1 h0 om e,set_same h.ok bx by' hrx.root hry.root r2 h2 om e⟩
     ·exact⟨r,set_other h.ok bx hrx.root r1 h0 om e,set_other h.ok bx hrx.root r2 h2 om e⟩
    ·have:(i,j)=(x,y):=by simpa using hp
     obtain⟨rfl,rfl⟩:=Prod.mk.inj this
     refine⟨ry,set_same h.ok bx by' hrx.root hry.root hrx h0 om rfl,?_⟩
     by_cases e:ry=rx
     ·exact set_same h.ok bx by' hrx.root hry.root hry h2 om e
     ·exact set_other h.ok bx hrx.root hry h2 om e
   |symm _ ih=>obtain⟨r,r1,r2⟩:=ih;exact⟨r,r2,r1⟩
   |trans _ _ ih1 ih2=>
    obtain⟨r,r1,r2⟩:=ih1
    obtain⟨s,s1,s2⟩:=ih2
    obtain rfl:=r2.uniq s1
    exact⟨r,r1,s2⟩
  ·rintro ⟨hi,hj,s,s1,s2⟩
   have old:∀i,0≤i∧i<n→Root (up.set rx.toNat ry) i s→∃r,Root up i r∧(r=rx∧s=ry∨r≠rx∧s=r):=by
    intro i hi hs
    obtain⟨r,hr⟩:=(h.ok i hi.1 om).2
    refine⟨r,hr,?_⟩
    by_cases e:r=rx
    ·exact .inl ⟨e,hs.uniq (set_same h.ok bx by' hrx.root hry.root hr hi.1 om e)⟩
    ·exact .inr ⟨e,hs.uniq (set_other h.ok bx hrx.root hr hi.1 om e)⟩
   have up':∀ {i j},Cls n ps i j→Cls n (ps ++ [(x,y)]) i j:=fun hc=>hc.mono (fun p hp=>List.mem_append_left _ hp)
   have hxy:Cls n (ps ++ [(x,y)]) x y:= .pair (by simp) hx.1 hx.2 hy.1 hy.2
   obtain⟨r1,q1,c1⟩:=old i hi s1
   obtain⟨r2,q2,c2⟩:=old j hj s2
   have same:∀ {u v r},0≤u∧u<n→0≤v∧v<n→Root up u r→Root up v r→Cls n (ps ++ [(x,y)]) u v:=fun hu hv a1 a2=>up' ((h.cls _ _).2 ⟨hu,hv,_,a1,a2⟩)
   rcases c1 with ⟨e1,f1⟩|⟨e1,f1⟩
   ·subst e1
    rcases c2 with ⟨e2,f2⟩|⟨e2,f2⟩
    ·subst e2
     exact same hi hj q1 q2
    ·have:r2=ry:=by rw[←f2];exact f1
     subst this
     exact(same hi hx q1 hrx).trans (hxy.trans (same hy hj hry q2))
   ·rcases c2 with ⟨e2,f2⟩|⟨e2,f2⟩
    ·subst e2
     have:r1=ry:=by rw[←f1];exact f2
     subst this
     exact(same hi hy q1 hry).trans (hxy.symm.trans (same hx hj hrx q2))
    ·have:r1=r2:=by rw[←f1];exact f2
     subst this
     exact same hi hj q1 q2
 refine⟨gen a b ra rb ha hb hra hrb (fun _ _=>Iff.rfl),gen b a rb ra hb ha hrb hra (fun i j=>?_)⟩
 have swap:∀ {u v:Int}{i j:Int},Cls n (ps ++ [(u,v)]) i j→Cls n (ps ++ [(v,u)]) i j:=by
  intro u v i j hc
  induction hc with
  |refl h0 h1=>exact .refl h0 h1
  |@pair i j hp h0 h1 h2 h3=>
   rcases List.mem_append.1 hp with hp|hp
   ·exact .pair (List.mem_append_left _ hp) h0 h1 h2 h3
   ·have:(i,j)=(u,v):=by simpa using hp
    obtain⟨rfl,rfl⟩:=Prod.mk.inj this
    exact .symm (.pair (by simp) h2 h3 h0 h1)
  |symm _ ih=>exact .symm ih
  |trans _ _ ih1 ih2=>exact .trans ih1 ih2
 exact⟨swap,swap⟩
/-- The numbers from 0 on, each for itself. -/
def alone (n:Nat):List Int:=(List.range n).map fun (i:Nat)=>(i:Int)
theorem alone_P (n:Nat) (i:Int) (h0:0≤i) (h1:i<n):P (alone n) i=i:=by
 unfold P alone
 rw[List.getD_eq_getElem?_getD,List.getElem?_map,List.getElem?_range om]
 simp
 omega
theorem alone_stands (n:Nat):Stands (alone n) n []:=by
 have hlen:(alone n).length=n:=by simp[alone]
 have hok:Ok (alone n):=by
  intro i h0 h1
  rw[hlen]at h1 ⊢
  have:=alone_P n i h0 h1
  exact⟨by omega,i, .here this⟩
 refine⟨hok,by rw[hlen],fun i j=>?_⟩
 constructor
 ·intro hc
  refine⟨hc.bd.1,hc.bd.2,?_⟩
  have:i=j:=by
   induction hc with
   |refl _ _=>rfl
   |pair h _ _ _ _=>cases h
   |symm _ ih=>exact ih.symm
   |trans _ _ ih1 ih2=>exact ih1.trans ih2
  subst this
  exact⟨i, .here (alone_P n i hc.bd.1.1 hc.bd.1.2), .here (alone_P n i hc.bd.1.1 hc.bd.1.2)⟩
 ·rintro ⟨hi,hj,r,r1,r2⟩
  have e1:=r1.uniq (.here (alone_P n i hi.1 hi.2))
  have e2:=r2.uniq (.here (alone_P n j hj.1 hj.2))
  have:i=j:=by rw[←e1, ←e2]
  subst this
  exact .refl hi.1 hi.2
/-- The numbers below n that point to themselves. -/
def roots (up:List Int):List Nat:=(List.range up.length).filter fun k=>decide (P up (k:Int)=(k:Int))
theorem roots_nodup (up:List Int):(roots up).Nodup:=List.Pairwise.filter _ List.nodup_range
theorem mem_roots {up:List Int}{k:Nat}:k∈roots up↔k<up.length∧P up (k:Int)=(k:Int):=by
 unfold roots
 rw[List.mem_filter,List.mem_range]
 simp
/-- The root of a number's class. -/
noncomputable def rt (up:List Int) (i:Int):Int:=by
 classical
 exact if h:∃r,Root up i r then h.choose else i
theorem rt_of {up:List Int}{i r:Int} (h:Root up i r):rt up i=r:=by
 have hx:∃r,Root up i r:=⟨r,h⟩
 unfold rt
 rw[dif_pos hx]
 exact hx.choose_spec.uniq h
theorem Ok.rt {up:List Int} (h:Ok up){i:Int} (h0:0≤i) (h1:i<up.length):Root up i (UF.rt up i):=by
 obtain⟨r,hr⟩:=(h i h0 h1).2
 rw[rt_of hr]
 exact hr
theorem Ok.rt_mem {up:List Int} (h:Ok up){i:Int} (h0:0≤i) (h1:i<up.length):(UF.rt up i).toNat∈roots up∧((UF.rt up i).toNat:Int)=UF.rt up i:=by
 have hr:=h.rt h0 h1
 have hb:=h.bd hr h0 h1
 have e:((UF.rt up i).toNat:Int)=UF.rt up i:=by omega
 exact⟨mem_roots.2 ⟨by omega,by rw[e];exact hr.root⟩,e⟩
theorem map_nodup {α β:Type} (f:α→β):∀ {l:List α},l.Nodup→(∀a b,a∈l→b∈l→f a=f b→a=b)→(l.map f).Nodup
 |[],_,_=>List.nodup_nil
 |x :: t,h,hf=>by
  have h':=List.nodup_cons.1 h
  rw[List.map_cons,List.nodup_cons]
  refine⟨fun hc=>?_,map_nodup f h'.2 (fun a b ha hb=>hf a b (List.mem_cons_of_mem _ ha) (List.mem_cons_of_mem _ hb))⟩
  obtain⟨y,hy,e⟩:=List.mem_map.1 hc
  have:=hf y x (List.mem_cons_of_mem _ hy) List.mem_cons_self e
  subst this
  exact h'.1 hy
/-- Where a map of numbers parts classes, the second forest has at least as many roots. -/
theorem roots_map {u1 u2:List Int}{n1 n2:Int}{p1 p2:List (Int × Int)} (h1:Stands u1 n1 p1) (h2:Stands u2 n2 p2) (f:Int→Int) (hf:∀i,0≤i→i<n1→0≤f i∧f i<n2)
  (hc:∀i j,0≤i→i<n1→0≤j→j<n1→Cls n2 p2 (f i) (f j)→Cls n1 p1 i j):
  ((roots u1).map fun (r:Nat)=>(rt u2 (f (r:Int))).toNat).Nodup∧∀x,x∈(roots u1).map (fun (r:Nat)=>(rt u2 (f (r:Int))).toNat)→x∈roots u2:=by
 have l1:=h1.len
 have l2:=h2.len
 have bd:∀a,a∈roots u1→0≤(a:Int)∧(a:Int)<n1:=by
  intro a ha
  have:=(mem_roots.1 ha).1
  omega
 refine⟨map_nodup _ (roots_nodup u1) ?_,?_⟩
 ·intro a b ha hb e
  have ba:=bd a ha
  have bb:=bd b hb
  have fa:=hf a ba.1 ba.2
  have fb:=hf b bb.1 bb.2
  have ra:=h2.ok.rt fa.1 om
  have rb:=h2.ok.rt fb.1 om
  have ea:=(h2.ok.rt_mem fa.1 om).2
  have eb:=(h2.ok.rt_mem fb.1 om).2
  have e':rt u2 (f (a:Int))=rt u2 (f (b:Int)):=by
   rw[←ea, ←eb]
   exact congrArg _ e
  have c2:Cls n2 p2 (f a) (f b):=(h2.cls _ _).2 ⟨fa,fb,_,ra,by rw[e'];exact rb⟩
  obtain⟨_,_,s,s1,s2⟩:=(h1.cls _ _).1 (hc a b ba.1 ba.2 bb.1 bb.2 c2)
  have q1:=s1.uniq (.here (mem_roots.1 ha).2)
  have q2:=s2.uniq (.here (mem_roots.1 hb).2)
  omega
 ·intro x hx
  obtain⟨a,ha,rfl⟩:=List.mem_map.1 hx
  have ba:=bd a ha
  have fa:=hf a ba.1 ba.2
  exact(h2.ok.rt_mem fa.1 om).1
theorem roots_le {u1 u2:List Int}{n1 n2:Int}{p1 p2:List (Int × Int)} (h1:Stands u1 n1 p1) (h2:Stands u2 n2 p2) (f:Int→Int) (hf:∀i,0≤i→i<n1→0≤f i∧f i<n2)
  (hc:∀i j,0≤i→i<n1→0≤j→j<n1→Cls n2 p2 (f i) (f j)→Cls n1 p1 i j):(roots u1).length≤(roots u2).length:=by
 have h:=roots_map h1 h2 f hf hc
 have:=List.Nodup.length_le_of_subset h.1 h.2
 rwa [List.length_map]at this
theorem roots_perm {u1 u2:List Int}{n:Int}{p1 p2:List (Int × Int)} (h1:Stands u1 n p1) (h2:Stands u2 n p2) (hc:∀i j,Cls n p1 i j↔Cls n p2 i j):
  List.Perm ((roots u1).map fun (r:Nat)=>(rt u2 (r:Int)).toNat) (roots u2):=by
 have h:=roots_map h1 h2 (fun i=>i) (fun i a b=>⟨a,b⟩) (fun i j _ _ _ _ c=>(hc i j).2 c)
 have l1:=h1.len
 have l2:=h2.len
 refine(List.perm_ext_iff_of_nodup h.1 (roots_nodup u2)).2 fun x=>⟨h.2 x,fun hx=>?_⟩
 have hb:=(mem_roots.1 hx).1
 have m1:=h1.ok.rt_mem (i:=(x:Int)) om om
 have r1:=h1.ok.rt (i:=(x:Int)) om om
 have b1:=h1.ok.bd r1 om om
 refine List.mem_map.2 ⟨_,m1.1,?_⟩
 rw[m1.2]
 have c1:Cls n p1 (x:Int) (rt u1 (x:Int)):=(h1.cls _ _).2 ⟨by omega,by omega,_,r1, .here r1.root⟩
 obtain⟨_,_,s,s1,s2⟩:=(h2.cls _ _).1 ((hc _ _).1 c1)
 have q1:=s1.uniq (.here (mem_roots.1 hx).2)
 rw[rt_of s2]
 omega
/-- A number put behind the last one that is not greater. -/
def ins (l:List Int) (x:Int):List Int:=match l with
 |[]=>[x]
 |y :: t=>if y≤x then y :: ins t x else x :: y :: t
theorem ins_perm (x:Int):∀l,List.Perm (ins l x) (x :: l)
 |[]=>List.Perm.refl _
 |y :: t=>by
  unfold ins
  split
  ·exact((ins_perm x t).cons y).trans (List.Perm.swap x y t)
  ·exact List.Perm.refl _
theorem ins_sorted (x:Int):∀l:List Int,l.Pairwise (· ≤ ·)→(ins l x).Pairwise (· ≤ ·)
 |[],_=>List.pairwise_singleton _ _
 |y :: t,h=>by
  unfold ins
  have h':=List.pairwise_cons.1 h
  split
  ·rename_i hy
   refine List.pairwise_cons.2 ⟨fun z hz=>?_,ins_sorted x t h'.2⟩
   rcases List.mem_cons.1 ((ins_perm x t).mem_iff.1 hz)with e|e
   ·rw[e];exact hy
   ·exact h'.1 z e
  ·rename_i hy
   refine List.pairwise_cons.2 ⟨fun z hz=>?_,h⟩
   rcases List.mem_cons.1 hz with e|e
   ·rw[e];omega
   ·have:=h'.1 z e
    omega
def isort (l acc:List Int):List Int:=l.foldl ins acc
theorem isort_perm:∀(l acc:List Int),List.Perm (isort l acc) (l ++ acc)
 |[],_=>List.Perm.refl _
 |x :: t,acc=>by
  show List.Perm (isort t (ins acc x)) _
  refine(isort_perm t _).trans ?_
  refine((ins_perm x acc).append_left t).trans ?_
  rw[List.cons_append]
  exact List.perm_middle
/-- Where the place is found from the end. -/
theorem ins_at:∀(l:List Int) (x:Int) (at_:Nat),at_≤l.length→(∀j,j<at_→(h:j<l.length)→l[j]≤x)→(∀h:at_<l.length,x<l[at_])→l.take at_ ++ (x :: l.drop at_)=ins l x
 |[],x,at_,h,_,_=>by
  simp
  rfl
 |y :: t,x,0,_,_,h2=>by
  have:=h2 (by simp)
  show x :: y :: t=ins (y :: t) x
  unfold ins
  rw[ig (by simpa using this)]
 |y :: t,x,at_+1,h,h1,h2=>by
  have hy:=h1 0 om (by simp)
  unfold ins
  rw[ip (show y≤x from by simpa using hy)]
  rw[List.take_succ_cons,List.drop_succ_cons,List.cons_append]
  rw[ins_at t x at_ (by simpa using h) (fun j hj hl=>by have:=h1 (j+1) om (by simpa using hl);simpa using this) (fun hl=>by have:=h2 (by simpa using hl);simpa using this)]
theorem Cls.map {n1 n2:Int}{p1 p2:List (Int × Int)} (f:Int→Int) (hf:∀i,0≤i→i<n1→0≤f i∧f i<n2) (hp:∀i j,(i,j)∈p1→0≤i→i<n1→0≤j→j<n1→Cls n2 p2 (f i) (f j)){i j:Int} (h:Cls n1 p1 i j):Cls n2 p2 (f i) (f j):=by
 induction h with
 |refl h0 h1=>
  have:=hf _ h0 h1
  exact .refl this.1 this.2
 |pair h h0 h1 h2 h3=>exact hp _ _ h h0 h1 h2 h3
 |symm _ ih=>exact ih.symm
 |trans _ _ ih1 ih2=>exact ih1.trans ih2
theorem Stands.same_iff {up:List Int}{n:Int}{ps:List (Int × Int)} (h:Stands up n ps){i j:Int} (hi:0≤i∧i<n) (hj:0≤j∧j<n):rt up i=rt up j↔Cls n ps i j:=by
 have hl:=h.len
 have ri:=h.ok.rt hi.1 om
 have rj:=h.ok.rt hj.1 om
 rw[h.cls]
 constructor
 ·intro e
  exact⟨hi,hj,_,ri,by rw[e];exact rj⟩
 ·rintro ⟨_,_,s,s1,s2⟩
  rw[rt_of s1,rt_of s2]
/-- How long a way to a root can be: as long as the forest. -/
inductive Way (up:List Int):Nat→Int→Int→Prop
 |here {r:Int} (h:P up r=r):Way up 0 r r
 |step {k:Nat}{i r:Int} (h:P up i≠i) (w:Way up k (P up i) r):Way up (k+1) i r
theorem Root.way {up:List Int}{i r:Int} (h:Root up i r):∃k,Way up k i r:=by
 induction h with
 |here h=>exact⟨0, .here h⟩
 |step h _ ih=>
  obtain⟨k,hk⟩:=ih
  exact⟨k+1, .step h hk⟩
theorem Way.root {up:List Int}{k:Nat}{i r:Int} (h:Way up k i r):Root up i r:=by
 induction h with
 |here h=>exact .here h
 |step h _ ih=>exact .step h ih
theorem Way.uniq {up:List Int}{k:Nat}{i r:Int} (h:Way up k i r):∀ {m:Nat}{s:Int},Way up m i s→k=m:=by
 induction h with
 |here h=>
  intro m s hs
  cases hs with
  |here _=>rfl
  |step h2 _=>exact absurd h h2
 |step h _ ih=>
  intro m s hs
  cases hs with
  |here h2=>exact absurd h2 h
  |step _ k2=>rw[ih k2]
/-- The numbers on a way. -/
def path (up:List Int):Nat→Int→List Int
 |0,i=>[i]
 |k+1,i=>i :: path up k (P up i)
theorem path_len (up:List Int):∀k i,(path up k i).length=k+1
 |0,_=>rfl
 |k+1,i=>by rw[path,List.length_cons,path_len up k]
theorem Way.nodup {up:List Int}{k:Nat}{i r:Int} (h:Way up k i r):(path up k i).Nodup∧∀x,x∈path up k i→∃m,m≤k∧Way up m x r:=by
 induction h with
 |@here r h=>
  refine⟨by simp[path],fun x hx=>?_⟩
  have:x=r:=by simpa[path] using hx
  subst this
  exact⟨0,Nat.le_refl _, .here h⟩
 |@step k i r h w ih=>
  refine⟨?_,fun x hx=>?_⟩
  ·rw[path,List.nodup_cons]
   refine⟨fun hc=>?_,ih.1⟩
   obtain⟨m,hm,hw⟩:=ih.2 _ hc
   have:=hw.uniq (Way.step h w)
   omega
  ·rw[path]at hx
   rcases List.mem_cons.1 hx with e|e
   ·subst e
    exact⟨k+1,Nat.le_refl _, .step h w⟩
   ·obtain⟨m,hm,hw⟩:=ih.2 _ e
    exact⟨m,by omega,hw⟩
theorem Ok.path_bd {up:List Int} (hok:Ok up):∀(k:Nat) (i:Int),0≤i→i<up.length→∀x,x∈path up k i→0≤x∧x<up.length
 |0,i,h0,h1,x,hx=>by
  have:x=i:=by simpa[path] using hx
  omega
 |k+1,i,h0,h1,x,hx=>by
  rw[path]at hx
  rcases List.mem_cons.1 hx with e|e
  ·omega
  ·exact Ok.path_bd hok k _ (hok i h0 h1).1.1 (hok i h0 h1).1.2 x e
theorem Way.short {up:List Int} (hok:Ok up){k:Nat}{i r:Int} (h:Way up k i r) (h0:0≤i) (h1:i<up.length):k<up.length:=by
 have hb:=hok.path_bd k i h0 h1
 have hn:=map_nodup (fun (x:Int)=>x.toNat) h.nodup.1 (fun a b ha hb' e=>by
  have:=hb a ha
  have:=hb b hb'
  have e':a.toNat=b.toNat:=e
  omega)
 have:=List.Nodup.length_le_of_subset (l₂:=List.range up.length) hn (fun x hx=>by
  obtain⟨a,ha,rfl⟩:=List.mem_map.1 hx
  have:=hb a ha
  exact List.mem_range.2 om)
 rw[List.length_map,path_len,List.length_range]at this
 omega
/-- Every number has a way to its root that is shorter than the forest. -/
theorem Ok.way {up:List Int} (hok:Ok up){i:Int} (h0:0≤i) (h1:i<up.length):∃k,k<up.length∧Way up k i (UF.rt up i):=by
 obtain⟨k,hk⟩:=(hok.rt h0 h1).way
 exact⟨k,hk.short hok h0 h1,hk⟩
end Go.Proofs.Ytemeiocmgbgikaa.UF

namespace Go.Proofs.Ytemeiocmgbgikaa.L
open Go.RowKit Go.Proofs.Ytemeiocmgbgikaa.P Go.Proofs.Ytemeiocmgbgikaa.Help Go.Proofs.YtemeiocmgbgikaaW.PrintWords
set_option linter.unusedVariables false
set_option linter.unusedSimpArgs false

theorem find_way {up:List Int} (hok:UF.Ok up){k:Nat}{i r:Int} (h:UF.Way up k i r):∀m,k<m→0≤i→i<up.length→fX.l0 m up i=some r:=by
 induction h with
 |@here r h=>
  intro m hm h0 h1
  obtain⟨m,rfl⟩:=sk m
  simp only[fX.l0]
  rw[ip h0,ip h1,ip (show rd up r=r from h)]
 |@step k i r h w ih=>
  intro m hm h0 h1
  obtain⟨m,rfl⟩:=sk m
  have hb:=(hok i h0 h1).1
  simp only[fX.l0]
  rw[ip h0,ip h1,ig (show ¬rd up i=i from h)]
  exact ih m om hb.1 hb.2
theorem find3_f {up:List Int} (hok:UF.Ok up){i:Int} (h0:0≤i) (h1:i<up.length){m:Nat} (hm:up.length≤m):fX.f m up i=some (UF.rt up i):=by
 obtain⟨k,hk,w⟩:=hok.way h0 h1
 exact find_way hok w m om h0 h1
theorem alone_succ (n:Nat):UF.alone (n+1)=UF.alone n ++ [(n:Int)]:=by
 unfold UF.alone
 rw[List.range_succ,List.map_append]
 rfl
theorem alone_len (n:Nat):(UF.alone n).length=n:=by simp[UF.alone]
/-- The pairs of all triangles, side by side. -/
def rowG (f:Nat→Nat→List (Int × Int)) (i:Nat):Nat→Nat→List (Int × Int)
 |0,_=>[]
 |d+1,j=>f i j ++ rowG f i d (j+1)
def allG (f:Nat→Nat→List (Int × Int)):Nat→Nat→List (Int × Int)
 |0,_=>[]
 |d+1,i=>rowG f i 3 0 ++ allG f d (i+1)
theorem mem_rowG {f:Nat→Nat→List (Int × Int)}{i:Nat}{p:Int × Int}:∀(d j:Nat),p∈rowG f i d j↔∃q,j≤q∧q<j+d∧p∈f i q
 |0,j=>by
  simp only[rowG,List.not_mem_nil,false_iff]
  rintro ⟨q,h1,h2,_⟩
  omega
 |d+1,j=>by
  rw[rowG,List.mem_append,mem_rowG d (j+1)]
  constructor
  ·rintro (h|⟨q,h1,h2,h3⟩)
   ·exact⟨j,by omega,by omega,h⟩
   ·exact⟨q,by omega,by omega,h3⟩
  ·rintro ⟨q,h1,h2,h3⟩
   by_cases e:q=j
   ·subst e;exact .inl h3
   ·exact .inr ⟨q,by omega,by omega,h3⟩
theorem mem_allG {f:Nat→Nat→List (Int × Int)}{p:Int × Int}:∀(d i:Nat),p∈allG f d i↔∃r,i≤r∧r<i+d∧∃q,q<3∧p∈f r q
 |0,i=>by
  simp only[allG,List.not_mem_nil,false_iff]
  rintro ⟨q,h1,h2,_⟩
  omega
 |d+1,i=>by
  rw[allG,List.mem_append,mem_rowG,mem_allG d (i+1)]
  constructor
  ·rintro (⟨q,_,h2,h3⟩|⟨r,h1,h2,h3⟩)
   ·exact⟨i,by omega,by omega,q,by omega,h3⟩
   ·exact⟨r,by omega,by omega,h3⟩
  ·rintro ⟨r,h1,h2,q,h3,h4⟩
   by_cases e:r=i
   ·subst e;exact .inl ⟨q,by omega,by omega,h4⟩
   ·exact .inr ⟨r,by omega,by omega,q,h3,h4⟩
theorem bit_eq (b:Bool):gJ.f b=some (if b=true then 1 else 0):=by
 unfold gJ.f
 split <;> rfl
theorem rd_at {t:List (List Int)}{n:Int} (ok:TriOk t n){i:Nat} (hi:i<t.length){j:Nat} (hj:j<3):rd (rd_L1 t (i:Int)) (j:Int)=sideOf t i j:=by
 have:=rd_side ok hi j
 rwa [Int.tmod_eq_emod_of_nonneg om,show(j:Int) % 3=(j:Int) by omega]at this
theorem sideOf_mod (t:List (List Int)) (i j:Nat):sideOf t i (j % 3)=sideOf t i j:=by
 unfold sideOf
 rw[Nat.mod_mod]
theorem flat_at:∀ {t:List (List Int)},(∀r∈t,r.length=3)→∀ {i j:Nat},i<t.length→j<3→t.flatten[3*i+j]?= some (sideOf t i j)
 |[],_,i,j,hi,_=>absurd hi (by simp)
 |r :: rs,h,0,j,hi,hj=>by
  have hl:=h r List.mem_cons_self
  rw[List.flatten_cons,List.getElem?_append_left om,List.getElem?_eq_getElem om]
  unfold sideOf
  rw[List.getD_cons_zero,List.getD_eq_getElem?_getD,List.getElem?_eq_getElem (show j % 3<r.length by omega),Option.getD_some]
  congr 1
  congr 1
  omega
 |r :: rs,h,i+1,j,hi,hj=>by
  have hl:=h r List.mem_cons_self
  have ih:=flat_at (t:=rs) (fun x hx=>h x (List.mem_cons_of_mem _ hx)) (i:=i) (j:=j) (by simpa using hi) hj
  rw[List.flatten_cons,List.getElem?_append_right om,show 3*(i+1)+j - r.length=3*i+j by omega,ih]
  rfl
/-- A letter stands at one place only. -/
theorem side_inj {t:List (List Int)}{n:Int} (ok:TriOk t n){i j k l:Nat} (hi:i<t.length) (hj:j<3) (hk:k<t.length) (hl:l<3) (e:sideOf t i j=sideOf t k l):i=k∧j=l:=by
 have a:=flat_at ok.row hi hj
 have b:=flat_at ok.row hk hl
 rw[e]at a
 obtain⟨a1,a2⟩:=List.getElem?_eq_some_iff.1 a
 obtain⟨b1,b2⟩:=List.getElem?_eq_some_iff.1 b
 have hp:=List.pairwise_iff_getElem.1 ok.nodup
 rcases Nat.lt_trichotomy (3*i+j) (3*k+l)with h|h|h
 ·exact absurd (a2.trans b2.symm) (hp _ _ a1 b1 h)
 ·omega
 ·exact absurd (b2.trans a2.symm) (hp _ _ b1 a1 h)
theorem side_at {t:List (List Int)}{n:Int} (ok:TriOk t n){i j:Nat} (hi:i<t.length) (hj:j<3):sideR (sideOf t i j) t 0=((i:Int),(j:Int)):=by
 have hs:=sideOf_in ok hi j
 obtain⟨o,a,ho,ha,h1,h2⟩:=ok.side hs.1 hs.2.1 hs.2.2
 obtain⟨rfl,rfl⟩:=side_inj ok ho ha hi hj h2
 exact h1
/-- Corners, and the beginnings and ends of edges. -/
def cor (i j:Nat):Int:=3*(i:Int)+((j % 3:Nat):Int)
def Bg (s:Int):Int:=2*(s.natAbs:Int)+(if s<0 then 1 else 0)
def En (s:Int):Int:=2*(s.natAbs:Int)+(if s>0 then 1 else 0)
theorem En_neg {s:Int} (h:s≠0):En s=Bg (-s):=by
 unfold En Bg
 rw[Int.natAbs_neg]
 split <;> split <;> omega
/-- The place of the inverse of a side. -/
def opp (t:List (List Int)) (i j:Nat):Nat × Nat:=((sideR (-(sideOf t i j)) t 0).1.toNat,(sideR (-(sideOf t i j)) t 0).2.toNat)
theorem opp_at {t:List (List Int)}{n:Int} (ok:TriOk t n){i:Nat} (hi:i<t.length) (j:Nat):(opp t i j).1<t.length∧(opp t i j).2<3∧sideOf t (opp t i j).1 (opp t i j).2= -(sideOf t i j)∧sideR (-(sideOf t i j)) t 0=(((opp t i j).1:Int),((opp t i j).2:Int)):=by
 have hs:=sideOf_in ok hi j
 obtain⟨o,a,ho,ha,h1,h2⟩:=ok.side (x:= -(sideOf t i j)) om om om
 unfold opp
 rw[h1]
 exact⟨ho,ha,h2,rfl⟩
def vp (t:List (List Int)) (i j:Nat):List (Int × Int):=[(cor i j,cor (opp t i j).1 ((opp t i j).2+1)),(cor i (j+1),cor (opp t i j).1 (opp t i j).2)]
def ep (t:List (List Int)) (i j:Nat):List (Int × Int):=[(En (sideOf t i j),Bg (sideOf t i (j+1)))]
theorem cor_bd {t:List (List Int)}{i:Nat} (hi:i<t.length) (j:Nat):0≤cor i j∧cor i j<3*(t.length:Int):=by
 unfold cor
 omega
theorem Bg_bd {t:List (List Int)}{n:Int} (ok:TriOk t n){i:Nat} (hi:i<t.length) (j:Nat):0≤Bg (sideOf t i j)∧Bg (sideOf t i j)<3*(t.length:Int)+2:=by
 have hs:=sideOf_in ok hi j
 have:=ok.len
 unfold Bg
 split <;> omega
theorem En_bd {t:List (List Int)}{n:Int} (ok:TriOk t n){i:Nat} (hi:i<t.length) (j:Nat):0≤En (sideOf t i j)∧En (sideOf t i j)<3*(t.length:Int)+2:=by
 have hs:=sideOf_in ok hi j
 have:=ok.len
 unfold En
 split <;> omega
theorem tmod3 (m:Nat):Int.tmod (m:Int) 3=((m % 3:Nat):Int):=by
 rw[Int.tmod_eq_emod_of_nonneg om]
 omega
theorem w_n {a:Int}{m:Nat} (h:a=(m:Int)) (hm:m≤1000000):wrap64 a=(m:Int):=by
 rw[h]
 exact w_id om om
theorem ends_l2 {t:List (List Int)}{n:Int} (ok:TriOk t n){i:Nat} (hi:i<t.length):∀(d j k:Nat) (xs:List Int) (ps:List (Int × Int)),j+d=3→100+d<k→UF.Stands xs (3*(t.length:Int)+2) ps→
  ∃ys,fR.l2 k t xs (i:Int) (j:Int)=fR.l1 (k - d - 1) t ys ((i+1:Nat):Int)∧UF.Stands ys (3*(t.length:Int)+2) (ps ++ rowG (ep t) i d j):=by
 have h3:=ok.three hi
 have hs:=ok.short
 have hl:((rd_L1 t (i:Int)).length:Int)=3:=by rw[rdL_nat t i hi,h3];rfl
 intro d
 induction d with
 |zero=>
  intro j k xs ps hj hk h
  obtain⟨k,rfl⟩:=sk k
  refine⟨xs,?_,by simpa[rowG] using h⟩
  simp only[fR.l2]
  rw[ig om,w_n (m:=i+1) om om]
  rfl
 |succ d ih=>
  intro j k xs ps hj hk h
  obtain⟨k,rfl⟩:=sk k
  have hn:=h.len
  have a1:=sideOf_in ok hi j
  have a2:=sideOf_in ok hi (j+1)
  have n9:=ok.n9
  have b1:=En_bd ok hi j
  have b2:=Bg_bd ok hi (j+1)
  have r1:=h.ok.rt b1.1 om
  have r2:=h.ok.rt b2.1 om
  have c1:=h.ok.bd r1 b1.1 om
  have J:=(h.join b1 b2 r1 r2).1
  obtain⟨us,e3,S3⟩:=ih (j+1) k _ _ om om J
  refine⟨us,?_,?_⟩
  ·have x1:(j:Int)<3:=by omega
   have x2:(0:Int)≤(i:Int):=by omega
   have x3:(i:Int)<(t.length:Int):=by omega
   have x4:(0:Int)≤(j:Int):=by omega
   have x5:j<3:=by omega
   have x6:k+1 - (d+1) - 1=k - d - 1:=by omega
   have y1:=l3Abs_eq (a:=sideOf t i j) om om
   have y2:=l3Abs_eq (a:=sideOf t i (j+1)) om om
   have z1:=find3_f h.ok b1.1 (m:=k) om om
   have z2:=find3_f h.ok b2.1 (m:=k) om om
   have q1:0≤Int.tmod (((j+1:Nat)):Int) 3:=by rw[tmod3];omega
   have q2:Int.tmod (((j+1:Nat)):Int) 3<3:=by rw[tmod3];omega
   have w1:wrap64 ((j:Int)+1)=((j+1:Nat):Int):=w_n om om
   have v1:wrap64 (wrap64 (2*((sideOf t i j).natAbs:Int))+(if decide (sideOf t i j>0)=true then 1 else 0))=En (sideOf t i j):=by
    rw[w_id (a:=2*((sideOf t i j).natAbs:Int)) om om]
    unfold En
    by_cases c:sideOf t i j>0
    ·rw[ip (decide_eq_true c),ip c,w_id om om]
    ·rw[ig (by simpa using c),ig c,w_id om om]
   have v2:wrap64 (wrap64 (2*((sideOf t i (j+1)).natAbs:Int))+(if decide (sideOf t i (j+1)<0)=true then 1 else 0))=Bg (sideOf t i (j+1)):=by
    rw[w_id (a:=2*((sideOf t i (j+1)).natAbs:Int)) om om]
    unfold Bg
    by_cases c:sideOf t i (j+1)<0
    ·rw[ip (decide_eq_true c),ip c,w_id om om]
    ·rw[ig (by simpa using c),ig c,w_id om om]
   simp only[fR.l2]
   rw[w1,hl,ip x1,ip x2,ip x3,ip x4,ip x1,ip q1,ip q2]
   rw[rd_at ok hi x5,rd_side ok hi,y1,Option.bind_some,bit_eq,Option.bind_some,v1,z1,Option.bind_some,y2,Option.bind_some,bit_eq,Option.bind_some,v2,z2,Option.bind_some,ip c1.1,ip c1.2,e3,x6]
  ·rw[rowG,show ep t i j=[(En (sideOf t i j),Bg (sideOf t i (j+1)))]from rfl]
   simpa[List.append_assoc] using S3
theorem ends_l1 {t:List (List Int)}{n:Int} (ok:TriOk t n):∀(d i k:Nat) (xs:List Int) (ps:List (Int × Int)),i+d=t.length→200+5*d<k→UF.Stands xs (3*(t.length:Int)+2) ps→
  ∃ys,fR.l1 k t xs (i:Int)=some ys∧UF.Stands ys (3*(t.length:Int)+2) (ps ++ allG (ep t) d i):=by
 intro d
 induction d with
 |zero=>
  intro i k xs ps hi hk h
  obtain⟨k,rfl⟩:=sk k
  refine⟨xs,?_,by simpa[allG] using h⟩
  simp only[fR.l1]
  rw[ig om]
 |succ d ih=>
  intro i k xs ps hi hk h
  obtain⟨k,rfl⟩:=sk k
  obtain⟨ys,e1,S1⟩:=ends_l2 ok (i:=i) om 3 0 k xs ps om om h
  obtain⟨zs,e2,S2⟩:=ih (i+1) (k - 3 - 1) ys _ om om S1
  refine⟨zs,?_,by rw[allG, ←List.append_assoc];exact S2⟩
  simp only[fR.l1]
  rw[ip om]
  have e1':fR.l2 k t xs (i:Int) 0=fR.l1 (k - 3 - 1) t ys ((i+1:Nat):Int):=e1
  rw[e1',e2]
theorem ends_l0 (t:List (List Int)) (ht:t.length≤1000):∀(d k i:Nat),i+d=3*t.length+2→d<k→fR.l0 k t (UF.alone i) (i:Int)=fR.l1 (k - d - 1) t (UF.alone (3*t.length+2)) 0:=by
 intro d
 induction d with
 |zero=>
  intro k i hi hk
  obtain⟨k,rfl⟩:=sk k
  simp only[fR.l0]
  rw[w_id (a:=3*(t.length:Int)) om om,w_id (a:=3*(t.length:Int)+1) om om,ig om,show i=3*t.length+2 by omega]
  rfl
 |succ d ih=>
  intro k i hi hk
  obtain⟨k,rfl⟩:=sk k
  simp only[fR.l0]
  rw[w_id (a:=3*(t.length:Int)) om om,w_id (a:=3*(t.length:Int)+1) om om,ip om,ip (by rw[alone_len];omega),show wrap64 ((i:Int)+1)=((i+1:Nat):Int)from w_n om om, ←alone_succ,ih k (i+1) om om,show k+1 - (d+1) - 1=k - d - 1 by omega]
theorem ends_f {t:List (List Int)}{n:Int} (ok:TriOk t n) (k:Nat) (hk:1000<k):∃ys,fR.f k t=some ys∧UF.Stands ys (3*(t.length:Int)+2) (allG (ep t) t.length 0):=by
 have hs:=ok.short
 have h0:=UF.alone_stands (3*t.length+2)
 have e0:(((3*t.length+2:Nat)):Int)=3*(t.length:Int)+2:=by omega
 rw[e0]at h0
 obtain⟨ys,e,S⟩:=ends_l1 ok t.length 0 (k - (3*t.length+2) - 1) _ [] om om h0
 refine⟨ys,?_,by simpa using S⟩
 unfold fR.f
 have:=ends_l0 t om (3*t.length+2) k 0 om om
 exact this.trans e
/-- The corner with a beginning. -/
def gm (t:List (List Int)) (e:Int):Int:=if e<2 then 0 else(let x:Int:=if e % 2=0 then e / 2 else -(e / 2);3*(sideR x t 0).1+(sideR x t 0).2)
def fm (t:List (List Int)) (c:Int):Int:=Bg (sideOf t (c / 3).toNat (c % 3).toNat)
theorem fm_cor (t:List (List Int)) (i j:Nat):fm t (cor i j)=Bg (sideOf t i j):=by
 unfold fm cor
 rw[show((3*(i:Int)+((j % 3:Nat):Int)) / 3).toNat=i by omega,show((3*(i:Int)+((j % 3:Nat):Int)) % 3).toNat=j % 3 by omega,sideOf_mod]
theorem gm_Bg {t:List (List Int)}{n:Int} (ok:TriOk t n){i j:Nat} (hi:i<t.length) (hj:j<3):gm t (Bg (sideOf t i j))=cor i j:=by
 have hs:=sideOf_in ok hi j
 have hx:(if Bg (sideOf t i j) % 2=0 then Bg (sideOf t i j) / 2 else -(Bg (sideOf t i j) / 2))=sideOf t i j:=by
  unfold Bg
  by_cases c:sideOf t i j<0
  ·rw[ip c,ig om];omega
  ·rw[ig c,ip om];omega
 unfold gm
 rw[ig (by unfold Bg;split <;> omega),hx]
 dsimp only
 rw[side_at ok hi hj]
 unfold cor
 omega
theorem gm_Bg' {t:List (List Int)}{n:Int} (ok:TriOk t n){i:Nat} (hi:i<t.length) (j:Nat):gm t (Bg (sideOf t i j))=cor i j:=by
 have:=gm_Bg ok hi (j:=j % 3) om
 rw[sideOf_mod]at this
 rw[this]
 unfold cor
 rw[Nat.mod_mod]
theorem gm_bd {t:List (List Int)}{n:Int} (ok:TriOk t n) (e:Int) (h0:0≤e) (h1:e<3*(t.length:Int)+2):0≤gm t e∧gm t e<3*(t.length:Int):=by
 have hs:=ok.short
 have hl:=ok.len
 unfold gm
 by_cases c:e<2
 ·rw[ip c];omega
 ·rw[ig c]
  dsimp only
  obtain⟨o,a,ho,ha,h2,_⟩:=ok.side (x:=if e % 2=0 then e / 2 else -(e / 2)) (by split <;> omega) (by split <;> omega) (by split <;> omega)
  rw[h2]
  dsimp only
  omega
/-- The classes are the same ones. -/
theorem cls_fm {t:List (List Int)}{n:Int} (ok:TriOk t n){c d:Int} (hc:0≤c∧c<3*(t.length:Int)) (hd:0≤d∧d<3*(t.length:Int)):
  UF.Cls (3*(t.length:Int)) (allG (vp t) t.length 0) c d↔UF.Cls (3*(t.length:Int)+2) (allG (ep t) t.length 0) (fm t c) (fm t d):=by
 have corOf:∀c:Int,0≤c→c<3*(t.length:Int)→∃i j:Nat,i<t.length∧j<3∧c=cor i j:=by
  intro c h0 h1
  exact⟨(c / 3).toNat,(c % 3).toNat,by omega,by omega,by unfold cor;omega⟩
 have fb:∀c:Int,0≤c→c<3*(t.length:Int)→0≤fm t c∧fm t c<3*(t.length:Int)+2:=by
  intro c h0 h1
  obtain⟨i,j,hi,hj,rfl⟩:=corOf c h0 h1
  rw[fm_cor]
  exact Bg_bd ok hi j
 have epm:∀i j:Nat,i<t.length→j<3→UF.Cls (3*(t.length:Int)+2) (allG (ep t) t.length 0) (En (sideOf t i j)) (Bg (sideOf t i (j+1))):=by
  intro i j hi hj
  refine .pair ((mem_allG _ _).2 ⟨i,by omega,by omega,j,hj,by simp[ep]⟩) ?_ ?_ ?_ ?_
  ·exact(En_bd ok hi j).1
  ·exact(En_bd ok hi j).2
  ·exact(Bg_bd ok hi (j+1)).1
  ·exact(Bg_bd ok hi (j+1)).2
 have vpm:∀i j:Nat,i<t.length→j<3→∀p,p∈vp t i j→UF.Cls (3*(t.length:Int)) (allG (vp t) t.length 0) p.1 p.2:=by
  intro i j hi hj p hp
  obtain⟨o1,o2,o3,o4⟩:=opp_at ok hi j
  have hm:p∈allG (vp t) t.length 0:=(mem_allG _ _).2 ⟨i,by omega,by omega,j,hj,hp⟩
  have hp':p=(cor i j,cor (opp t i j).1 ((opp t i j).2+1))∨p=(cor i (j+1),cor (opp t i j).1 (opp t i j).2):=by simpa[vp] using hp
  rcases hp' with e|e
  ·subst e
   exact .pair hm (cor_bd hi _).1 (cor_bd hi _).2 (cor_bd o1 _).1 (cor_bd o1 _).2
  ·subst e
   exact .pair hm (cor_bd hi _).1 (cor_bd hi _).2 (cor_bd o1 _).1 (cor_bd o1 _).2
 constructor
 ·intro h
  refine h.map (fm t) (fun i a b=>fb i a b) ?_
  intro a b hm _ _ _ _
  obtain⟨i,_,hi,j,hj,hp⟩:=(mem_allG _ _).1 hm
  have hi':i<t.length:=by omega
  obtain⟨o1,o2,o3,o4⟩:=opp_at ok hi' j
  have hs:=sideOf_in ok hi' j
  have hp':(a,b)=(cor i j,cor (opp t i j).1 ((opp t i j).2+1))∨(a,b)=(cor i (j+1),cor (opp t i j).1 (opp t i j).2):=by simpa[vp] using hp
  rcases hp' with e|e
  ·obtain⟨rfl,rfl⟩:=Prod.mk.inj e
   rw[fm_cor,fm_cor]
   have:=epm _ _ o1 o2
   rw[o3,En_neg om,Int.neg_neg]at this
   exact this
  ·obtain⟨rfl,rfl⟩:=Prod.mk.inj e
   rw[fm_cor,fm_cor,o3, ←En_neg hs.1]
   exact(epm i j hi' hj).symm
 ·intro h
  have:=UF.Cls.map (p2:=allG (vp t) t.length 0) (n2:=3*(t.length:Int)) (gm t) (fun e a b=>gm_bd ok e a b) (fun a b hm _ _ _ _=>by
   obtain⟨i,_,hi,j,hj,hp⟩:=(mem_allG _ _).1 hm
   have hi':i<t.length:=by omega
   obtain⟨o1,o2,o3,o4⟩:=opp_at ok hi' j
   have hs:=sideOf_in ok hi' j
   have hp':(a,b)=(En (sideOf t i j),Bg (sideOf t i (j+1))):=by simpa[ep] using hp
   obtain⟨rfl,rfl⟩:=Prod.mk.inj hp'
   rw[En_neg hs.1, ←o3,gm_Bg' ok o1,gm_Bg' ok hi']
   exact(vpm i j hi' hj (cor i (j+1),cor (opp t i j).1 (opp t i j).2) (by simp[vp])).symm) h
  obtain⟨i,j,hi,hj,rfl⟩:=corOf c hc.1 hc.2
  obtain⟨k,l,hk,hl,rfl⟩:=corOf d hd.1 hd.2
  rwa [fm_cor,fm_cor,gm_Bg' ok hi,gm_Bg' ok hk]at this
end Go.Proofs.Ytemeiocmgbgikaa.L

namespace Go.Proofs.Ytemeiocmgbgikaa.L
open Go.RowKit Go.Proofs.Ytemeiocmgbgikaa.P Go.Proofs.Ytemeiocmgbgikaa.Help Go.Proofs.YtemeiocmgbgikaaW.PrintWords Go.Proofs.YtemeiocmgbgikaaW.PrintLast Go.Proofs.YtemeiocmgbgikaaW.PrintMore
set_option linter.unusedVariables false
set_option linter.unusedSimpArgs false

/-- The number of points on the edges ahead. -/
def offN:List Int→Nat→Nat
 |_,0=>0
 |[],_+1=>0
 |a :: r,i+1=>a.toNat+offN r i
theorem offN_zero (x:List Int):offN x 0=0:=by cases x <;> rfl
theorem offN_succ:∀(x:List Int) (i:Nat) (h:i<x.length),offN x (i+1)=offN x i+x[i].toNat
 |[],i,h=>absurd h (by simp)
 |a :: r,0,h=>by simp[offN]
 |a :: r,i+1,h=>by
  have:=offN_succ r i (by simpa using h)
  show a.toNat+offN r (i+1)=a.toNat+offN r i+(r[i]'(by simpa using h)).toNat
  omega
theorem offN_le:∀(x:List Int) (i:Nat),(∀a∈x,a≤200)→offN x i≤200*i
 |_,0,_=>by simp[offN]
 |[],i+1,_=>by simp[offN]
 |a :: r,i+1,h=>by
  have h1:=offN_le r i (fun b hb=>h b (List.mem_cons_of_mem _ hb))
  have h2:=h a List.mem_cons_self
  show a.toNat+offN r i≤200*(i+1)
  omega
theorem offN_top:∀(x:List Int) (i:Nat),i≤x.length→offN x i≤offN x x.length
 |_,0,_=>by simp[offN]
 |[],i+1,h=>absurd h (by simp)
 |a :: r,i+1,h=>by
  have h1:=offN_top r i (by simpa using h)
  show a.toNat+offN r i≤a.toNat+offN r r.length
  omega
def NN (x:List Int):Nat:=offN x x.length
/-- The number of a point of a side. -/
def pt (x:List Int) (s m:Int):Int:=(offN x (s.natAbs - 1):Int)+(if s>0 then m else crd x s - 1 - m)
/-- Fair coordinates. -/
structure Cx (t:List (List Int)) (x:List Int) (n:Int):Prop where
 ok:TriOk t n
 hx:(x.length:Int)=n
 hc:x.all co=true
 hf:∀r∈t,fairRow x r=true
theorem Cx.small {t:List (List Int)}{x:List Int}{n:Int} (C:Cx t x n):x.length≤9∧NN x≤1800:=by
 have h1:=C.hx
 have h2:=C.ok.n9
 have h3:=offN_le x x.length (fun a ha=>(all_co C.hc a ha).2)
 unfold NN
 omega
theorem crd_at {x:List Int}{s:Int} (h0:s≠0) (h1:s.natAbs≤x.length):crd x s=x[s.natAbs - 1]'om:=by
 unfold crd
 rw[show((s.natAbs:Int) - 1)=((s.natAbs - 1:Nat):Int) by omega,rd_nat]
theorem pt_bd {x:List Int} (hc:x.all co=true){s:Int} (h0:s≠0) (h1:s.natAbs≤x.length){m:Int} (m0:0≤m) (m1:m<crd x s):0≤pt x s m∧pt x s m<(NN x:Int):=by
 have hl:s.natAbs - 1<x.length:=by omega
 have e:=offN_succ x (s.natAbs - 1) hl
 have e2:=offN_top x (s.natAbs - 1+1) om
 have c:=all_co hc x[s.natAbs - 1] (List.getElem_mem hl)
 rw[crd_at h0 h1]at m1
 unfold pt NN
 rw[crd_at h0 h1]
 split <;> omega
theorem specPt_l0 {x:List Int} (hl:x.length≤9) (hc:x.all co=true){s:Int} (h0:s≠0) (h1:s.natAbs≤x.length){m:Int} (m0: -1000≤m) (m1:m≤1000):∀(d k i:Nat),i+d=s.natAbs - 1→d<k→gX.l0 k x s m (offN x i:Int) (s.natAbs:Int) (i:Int)=some (pt x s m)
 |0,k,i,hi,hk=>by
  obtain⟨k,rfl⟩:=sk k
  have he:i<x.length:=by omega
  have b:=offN_le x i (fun a ha=>(all_co hc a ha).2)
  have c:=all_co hc x[i] (List.getElem_mem he)
  have ei:s.natAbs - 1=i:=by omega
  have ec:((s.natAbs:Int) - 1)=(i:Int):=by omega
  have ecr:crd x s=x[i]:=by
   rw[crd_at h0 h1]
   congr 1
  unfold pt
  rw[ecr,ei]
  simp only[gX.l0]
  rw[w_id (a:=(s.natAbs:Int) - 1) om om,ec,ig om,rd_nat x i he]
  by_cases hs:s>0
  ·rw[ip hs,ip hs,w_id om om]
  ·rw[ig hs,ig hs,ip om,ip om,w_id (a:=(offN x i:Int)+x[i]) om om,w_id (a:=(offN x i:Int)+x[i] - 1) om om,w_id om om]
   congr 1
   omega
 |d+1,k,i,hi,hk=>by
  obtain⟨k,rfl⟩:=sk k
  have he:i<x.length:=by omega
  have e:=offN_succ x i he
  have b:=offN_le x i (fun a ha=>(all_co hc a ha).2)
  have c:=all_co hc x[i] (List.getElem_mem he)
  have e3:(offN x i:Int)+x[i]=(offN x (i+1):Int):=by omega
  have ih:=specPt_l0 hl hc h0 h1 m0 m1 d k (i+1) om om
  conv=>lhs;simp only[gX.l0]
  rw[w_id (a:=(s.natAbs:Int) - 1) om om,ip om,ip om,ip om,rd_nat x i he,e3,w_id (a:=(offN x (i+1):Int)) om om,w_id (a:=(i:Int)+1) om om,show((i:Int)+1)=((i+1:Nat):Int) by omega]
  exact ih
theorem specPt_f {x:List Int} (hl:x.length≤9) (hc:x.all co=true){s:Int} (h0:s≠0) (h1:s.natAbs≤x.length){m:Int} (m0: -1000≤m) (m1:m≤1000) (k:Nat) (hk:20<k):gX.f k x s m=some (pt x s m):=by
 unfold gX.f
 rw[l3Abs_eq om om,Option.bind_some]
 have:=specPt_l0 hl hc h0 h1 m0 m1 (s.natAbs - 1) k 0 om om
 rw[offN_zero]at this
 exact this
def allQ (f:Nat→List (Int × Int)):Nat→Nat→List (Int × Int)
 |0,_=>[]
 |d+1,m=>f m ++ allQ f d (m+1)
def prC (t:List (List Int)) (x:List Int) (i j m:Nat):List (Int × Int):=[(pt x (sideOf t i j) (crd x (sideOf t i j) - 1 - (m:Int)),pt x (sideOf t i (j+1)) (m:Int))]
def nc (t:List (List Int)) (x:List Int) (i j:Nat):Nat:=(tw t x i j / 2).toNat
def prIJ (t:List (List Int)) (x:List Int) (i j:Nat):List (Int × Int):=allQ (prC t x i j) (nc t x i j) 0
theorem Cx.arc {t:List (List Int)}{x:List Int}{n:Int} (C:Cx t x n){i:Nat} (hi:i<t.length) (j:Nat) (hj:j<3):tw t x i j / 2=(nc t x i j:Int)∧0≤tw t x i j∧(nc t x i j:Int)≤crd x (sideOf t i j)∧(nc t x i j:Int)≤crd x (sideOf t i (j+1))∧crd x (sideOf t i j)≤200∧crd x (sideOf t i (j+1))≤200:=by
 obtain⟨a,b,c,e,_⟩:=C.ok.i64 (List.getElem_mem hi)
 have A:=crd_bd C.hc a
 have B:=crd_bd C.hc b
 have D:=crd_bd C.hc c
 have hf2:decide ((crd x a+crd x b+crd x c) % 2=0∧crd x a≤crd x b+crd x c∧crd x b≤crd x a+crd x c∧crd x c≤crd x a+crd x b)=true:=by
  have:=C.hf t[i] (List.getElem_mem hi)
  rw[e]at this
  exact this
 rw[decide_eq_true_iff]at hf2
 obtain⟨s0,s1,s2,s3,s4⟩:=sideOf_eq hi e
 unfold nc tw
 match j,hj with
 |0,_=>rw[s0,s1,s2];omega
 |1,_=>rw[s1,s2,s3];omega
 |2,_=>rw[s2,s3,s4];omega
theorem Cx.side {t:List (List Int)}{x:List Int}{n:Int} (C:Cx t x n){i:Nat} (hi:i<t.length) (j:Nat):sideOf t i j≠0∧(sideOf t i j).natAbs≤x.length:=by
 have h:=sideOf_in C.ok hi j
 have h2:=C.hx
 omega
theorem num_c {t:List (List Int)}{x:List Int}{n:Int} (C:Cx t x n){i:Nat} (hi:i<t.length) (j:Nat):fZ.f (sideOf t i j)=some ((sideOf t i j).natAbs:Int)∧gS.f (sideOf t i j)=some ((sideOf t i j).natAbs:Int):=by
 have hs:=sideOf_in C.ok hi j
 have n9:=C.ok.n9
 exact⟨l3Abs_eq om om,size_eq om om⟩
theorem sp_l4 {t:List (List Int)}{x:List Int}{n:Int} (C:Cx t x n){i:Nat} (hi:i<t.length){j:Nat} (hj:j<3):∀(d k m:Nat) (up:List Int) (ps:List (Int × Int)),m+d=nc t x i j→4000+d<k→UF.Stands up (NN x:Int) ps→
  ∃ys,fE.l4 k t x up (i:Int) (j:Int) (sideOf t i j) (sideOf t i (j+1)) (m:Int)=fE.l3 (k - d - 1) t x ys (i:Int) ((j+1:Nat):Int)∧UF.Stands ys (NN x:Int) (ps ++ allQ (prC t x i j) d m)
 |0,k,m,up,ps,hm,hk,S=>by
  obtain⟨k,rfl⟩:=sk k
  obtain⟨q1,q2,q3,q4,q5,q6⟩:=C.arc hi j hj
  refine⟨up,?_,by rw[allQ,List.append_nil];exact S⟩
  conv=>lhs;simp only[fE.l4]
  rw[twice_tw C.ok C.hx C.hc hi j hj,Option.bind_some,Int.tdiv_eq_ediv_of_nonneg q2,q1,w_id (a:=(nc t x i j:Int)) om om,ig om,w_id (a:=(j:Int)+1) om om,show((j:Int)+1)=((j+1:Nat):Int) by omega,show k+1 - 0 - 1=k by omega]
 |d+1,k,m,up,ps,hm,hk,S=>by
  obtain⟨k,rfl⟩:=sk k
  obtain⟨q1,q2,q3,q4,q5,q6⟩:=C.arc hi j hj
  obtain⟨z1,z2⟩:=C.side hi j
  obtain⟨y1,y2⟩:=C.side hi (j+1)
  obtain⟨l9,n18⟩:=C.small
  have hl:=S.len
  have pa:=pt_bd C.hc z1 z2 (m:=crd x (sideOf t i j) - 1 - (m:Int)) om om
  have pb:=pt_bd C.hc y1 y2 (m:=(m:Int)) om om
  have ra:=S.ok.rt pa.1 om
  have rb:=S.ok.rt pb.1 om
  have ba:=S.ok.bd ra pa.1 om
  have S1:=(S.join pa pb ra rb).1
  obtain⟨zs,e2,S2⟩:=sp_l4 C hi hj d k (m+1) _ _ om om S1
  refine⟨zs,?_,by rw[allQ];rw[List.append_assoc]at S2;exact S2⟩
  have er:rd x (((sideOf t i j).natAbs:Int) - 1)=crd x (sideOf t i j):=rfl
  conv=>lhs;simp only[fE.l4]
  rw[twice_tw C.ok C.hx C.hc hi j hj,Option.bind_some,Int.tdiv_eq_ediv_of_nonneg q2,q1,w_id (a:=(nc t x i j:Int)) om om,ip om,(num_c C hi j).1,Option.bind_some,w_id (a:=((sideOf t i j).natAbs:Int) - 1) om om,ip om,ip om,er,w_id (a:=crd x (sideOf t i j) - 1) om om,w_id (a:=crd x (sideOf t i j) - 1 - (m:Int)) om om,specPt_f l9 C.hc z1 z2 om om k om,Option.bind_some,find3_f S.ok pa.1 om om,Option.bind_some,specPt_f l9 C.hc y1 y2 om om k om,Option.bind_some,find3_f S.ok pb.1 om om,Option.bind_some,ip ba.1,ip ba.2,w_id (a:=(m:Int)+1) om om,show((m:Int)+1)=((m+1:Nat):Int) by omega,show k+1 - (d+1) - 1=k - d - 1 by omega]
  exact e2
theorem sp_l3 {t:List (List Int)}{x:List Int}{n:Int} (C:Cx t x n){i:Nat} (hi:i<t.length):∀(d k j:Nat) (up:List Int) (ps:List (Int × Int)),j+d=3→5000+210*d<k→UF.Stands up (NN x:Int) ps→
  ∃ys k',k≤k'+210*d+1∧fE.l3 k t x up (i:Int) (j:Int)=fE.l2 k' t x ys ((i+1:Nat):Int)∧UF.Stands ys (NN x:Int) (ps ++ rowG (prIJ t x) i d j)
 |0,k,j,up,ps,hj,hk,S=>by
  obtain⟨k,rfl⟩:=sk k
  have hs:=C.ok.short
  refine⟨up,k,by omega,?_,by rw[rowG,List.append_nil];exact S⟩
  conv=>lhs;simp only[fE.l3]
  rw[ig om,w_id (a:=(i:Int)+1) om om,show((i:Int)+1)=((i+1:Nat):Int) by omega]
 |d+1,k,j,up,ps,hj,hk,S=>by
  obtain⟨k,rfl⟩:=sk k
  have hj3:j<3:=by omega
  obtain⟨q1,q2,q3,q4,q5,q6⟩:=C.arc hi j hj3
  have h3:(rd_L1 t (i:Int)).length=3:=by rw[rdL_nat t i hi];exact C.ok.three hi
  have hr:=rd_at C.ok hi hj3
  have hs:=rd_side C.ok hi (j+1)
  obtain⟨ys,e1,S1⟩:=sp_l4 C hi hj3 (nc t x i j) k 0 up ps om om S
  obtain⟨zs,k',hk',e2,S2⟩:=sp_l3 C hi d (k - nc t x i j - 1) (j+1) ys _ om om S1
  have tm:0≤Int.tmod ((j+1:Nat):Int) 3∧Int.tmod ((j+1:Nat):Int) 3<3:=by rw[Int.tmod_eq_emod_of_nonneg om];omega
  refine⟨zs,k',by omega,?_,by rw[rowG];rw[List.append_assoc]at S2;exact S2⟩
  conv=>lhs;simp only[fE.l3]
  rw[h3,w_id (a:=(j:Int)+1) om om,show((j:Int)+1)=((j+1:Nat):Int) by omega,ip om,ip om,ip om,ip om,ip om,ip tm.1,ip (show Int.tmod ((j+1:Nat):Int) 3<((3:Nat):Int)from tm.2),hr,hs]
  exact e1.trans e2
theorem sp_l2 {t:List (List Int)}{x:List Int}{n:Int} (C:Cx t x n):∀(d k i:Nat) (up:List Int) (ps:List (Int × Int)),i+d=t.length→6000+700*d<k→UF.Stands up (NN x:Int) ps→
  ∃ys,fE.l2 k t x up (i:Int)=some ys∧UF.Stands ys (NN x:Int) (ps ++ allG (prIJ t x) d i)
 |0,k,i,up,ps,hi,hk,S=>by
  obtain⟨k,rfl⟩:=sk k
  refine⟨up,?_,by rw[allG,List.append_nil];exact S⟩
  conv=>lhs;simp only[fE.l2]
  rw[ig om]
 |d+1,k,i,up,ps,hi,hk,S=>by
  obtain⟨k,rfl⟩:=sk k
  obtain⟨ys,k',hk',e1,S1⟩:=sp_l3 C (show i<t.length by omega) 3 k 0 up ps om (Nat.lt_of_lt_of_le (by decide:5000+210*3<5700) om) S
  obtain⟨zs,e2,S2⟩:=sp_l2 C d k' (i+1) ys _ om om S1
  refine⟨zs,?_,by rw[allG];rw[List.append_assoc]at S2;exact S2⟩
  conv=>lhs;simp only[fE.l2]
  rw[ip om]
  exact e1.trans e2
theorem sp_b1 {t:List (List Int)}{x:List Int} (hl:x.length≤9) (hc:x.all co=true){i:Nat} (hi:i<x.length):∀(d k q:Nat),q+d=x[i].toNat→d<k→fE.l1 k t x (UF.alone (offN x i+q)) (i:Int) (q:Int)=fE.l0 (k - d - 1) t x (UF.alone (offN x (i+1))) ((i+1:Nat):Int)
 |0,k,q,hq,hk=>by
  obtain⟨k,rfl⟩:=sk k
  have e:=offN_succ x i hi
  have c:=all_co hc x[i] (List.getElem_mem hi)
  conv=>lhs;simp only[fE.l1]
  rw[ip om,ip om,rd_nat x i hi,ig om,w_id (a:=(i:Int)+1) om om,show((i:Int)+1)=((i+1:Nat):Int) by omega,show k+1 - 0 - 1=k by omega,show offN x i+q=offN x (i+1) by omega]
 |d+1,k,q,hq,hk=>by
  obtain⟨k,rfl⟩:=sk k
  have b:=offN_le x i (fun a ha=>(all_co hc a ha).2)
  have c:=all_co hc x[i] (List.getElem_mem hi)
  have ih:=sp_b1 (t:=t) hl hc hi d k (q+1) om om
  conv=>lhs;simp only[fE.l1]
  rw[ip om,ip om,rd_nat x i hi,ip om,alone_len,ip om, ←alone_succ,w_id (a:=(q:Int)+1) om om,show((q:Int)+1)=((q+1:Nat):Int) by omega,show k+1 - (d+1) - 1=k - d - 1 by omega]
  exact ih
theorem sp_b0 {t:List (List Int)}{x:List Int} (hl:x.length≤9) (hc:x.all co=true):∀(d k i:Nat),i+d=x.length→205*d+1<k→∃k',k≤k'+205*d+1∧fE.l0 k t x (UF.alone (offN x i)) (i:Int)=fE.l2 k' t x (UF.alone (NN x)) 0
 |0,k,i,hi,hk=>by
  obtain⟨k,rfl⟩:=sk k
  refine⟨k,by omega,?_⟩
  conv=>lhs;simp only[fE.l0]
  rw[ig om,show i=x.length by omega]
  rfl
 |d+1,k,i,hi,hk=>by
  obtain⟨k,rfl⟩:=sk k
  have hlt:i<x.length:=by omega
  have c:=all_co hc x[i] (List.getElem_mem hlt)
  have e1:=sp_b1 (t:=t) hl hc hlt x[i].toNat k 0 om om
  obtain⟨k',hk',e2⟩:=sp_b0 (t:=t) hl hc d (k - x[i].toNat - 1) (i+1) om om
  refine⟨k',by omega,?_⟩
  conv=>lhs;simp only[fE.l0]
  rw[ip om]
  exact e1.trans e2
theorem sp_f {t:List (List Int)}{x:List Int}{n:Int} (C:Cx t x n) (k:Nat) (hk:20000<k):∃ys,fE.f k t x=some ys∧UF.Stands ys (NN x:Int) (allG (prIJ t x) t.length 0):=by
 obtain⟨l9,n18⟩:=C.small
 have hs:=C.ok.short
 obtain⟨k',hk',e0⟩:=sp_b0 (t:=t) l9 C.hc x.length k 0 om om
 rw[offN_zero]at e0
 obtain⟨ys,e,S⟩:=sp_l2 C t.length k' 0 _ _ om om (UF.alone_stands (NN x))
 rw[List.nil_append]at S
 refine⟨ys,?_,S⟩
 unfold fE.f
 exact e0.trans e
end Go.Proofs.Ytemeiocmgbgikaa.L

namespace Go.Proofs.Ytemeiocmgbgikaa.L
open Go.RowKit Go.Proofs.Ytemeiocmgbgikaa.P Go.Proofs.Ytemeiocmgbgikaa.Help Go.Proofs.YtemeiocmgbgikaaW.PrintWords
set_option linter.unusedVariables false
set_option linter.unusedSimpArgs false

/-- Are two corners at one vertex? -/
def SameV (t:List (List Int)) (c d:Int):Prop:=UF.Cls (3*(t.length:Int)) (allG (vp t) t.length 0) c d
noncomputable def vind (t:List (List Int)) (c d:Int):Int:=by
 classical
 exact if SameV t d c then 1 else 0
theorem vind_if {t:List (List Int)}{c d:Int}{P:Prop} [Decidable P] (h:P↔SameV t d c):vind t c d=if P then 1 else 0:=by
 unfold vind
 by_cases p:P
 ·rw[ip p,ip (h.1 p)]
 ·rw[ig p,ig (fun q=>p (h.2 q))]
theorem vind_bd (t:List (List Int)) (c d:Int):0≤vind t c d∧vind t c d≤1:=by
 unfold vind
 split <;> omega
noncomputable def valE (t:List (List Int)) (c e:Int):Int:=vind t c (cor (sideR e t 0).1.toNat (sideR e t 0).2.toNat)+vind t c (cor (sideR e t 0).1.toNat ((sideR e t 0).2.toNat+1))
theorem valE_bd (t:List (List Int)) (c e:Int):0≤valE t c e∧valE t c e≤2:=by
 have:=vind_bd t c (cor (sideR e t 0).1.toNat (sideR e t 0).2.toNat)
 have:=vind_bd t c (cor (sideR e t 0).1.toNat ((sideR e t 0).2.toNat+1))
 unfold valE
 omega
noncomputable def aroundR (t:List (List Int)) (n:Nat) (c:Int):List Int:=(List.range n).map fun (q:Nat)=>valE t c ((q:Int)+1)
theorem mO {t:List (List Int)}{n:Nat} (ok:TriOk t (n:Int)){u2:List Int} (S:UF.Stands u2 (3*(t.length:Int)+2) (allG (ep t) t.length 0)){i j:Nat} (hi:i<t.length) (hj:j<3):∀(d q k:Nat),q+d=n→100+d<k→
  gL.l0 k t u2 (UF.rt u2 (En (sideOf t i j))) ((List.range q).map fun (q:Nat)=>valE t (cor i (j+1)) ((q:Int)+1)) ((q:Int)+1)=some (aroundR t n (cor i (j+1))):=by
 have hs:=ok.short
 have hl:=ok.len
 have n9:=ok.n9
 have hn:=S.len
 have hE:wrap64 (Int.tdiv (wrap64 (3*(t.length:Int))) 2)=(n:Int):=by
  rw[show wrap64 (3*(t.length:Int))=((3*t.length:Nat):Int)from w_n om om,Int.tdiv_eq_ediv_of_nonneg om,w_n (m:=n) om om]
 have epm:∀a b:Nat,a<t.length→b<3→UF.Cls (3*(t.length:Int)+2) (allG (ep t) t.length 0) (En (sideOf t a b)) (fm t (cor a (b+1))):=by
  intro a b ha hb
  rw[fm_cor]
  exact .pair ((mem_allG _ _).2 ⟨a,by omega,by omega,b,hb,by simp[ep]⟩) (En_bd ok ha b).1 (En_bd ok ha b).2 (Bg_bd ok ha (b+1)).1 (Bg_bd ok ha (b+1)).2
 intro d
 induction d with
 |zero=>
  intro q k hq hk
  obtain⟨k,rfl⟩:=sk k
  simp only[gL.l0]
  rw[hE,ig om,show q=n by omega]
  rfl
 |succ d ih=>
  intro q k hq hk
  obtain⟨k,rfl⟩:=sk k
  obtain⟨o,a,ho,ha,s1,s2⟩:=ok.side (x:=(q:Int)+1) om om om
  have eB:Bg ((q:Int)+1)=2*((q:Int)+1):=by unfold Bg;rw[ig om];omega
  have eE:En ((q:Int)+1)=2*((q:Int)+1)+1:=by unfold En;rw[ip om];omega
  have bB:=Bg_bd ok ho a
  have bE:=En_bd ok ho a
  have bv:=En_bd ok hi j
  rw[s2,eB]at bB
  rw[s2,eE]at bE
  have f1:=find3_f S.ok bB.1 (m:=k) om om
  have f2:=find3_f S.ok bE.1 (m:=k) om om
  have c1:UF.rt u2 (2*((q:Int)+1))=UF.rt u2 (En (sideOf t i j))↔SameV t (cor o a) (cor i (j+1)):=by
   rw[S.same_iff bB bv]
   unfold SameV
   rw[cls_fm ok (cor_bd ho a) (cor_bd hi (j+1)),show fm t (cor o a)=2*((q:Int)+1)from by rw[fm_cor,s2,eB]]
   exact⟨fun h=>h.trans (epm i j hi hj),fun h=>h.trans (epm i j hi hj).symm⟩
  have c2:UF.rt u2 (2*((q:Int)+1)+1)=UF.rt u2 (En (sideOf t i j))↔SameV t (cor o (a+1)) (cor i (j+1)):=by
   rw[S.same_iff bE bv]
   unfold SameV
   rw[cls_fm ok (cor_bd ho (a+1)) (cor_bd hi (j+1))]
   have e0:=epm o a ho ha
   rw[s2,eE]at e0
   exact⟨fun h=>e0.symm.trans (h.trans (epm i j hi hj)),fun h=>e0.trans (h.trans (epm i j hi hj).symm)⟩
  have d1:=vind_if c1
  have d2:=vind_if c2
  have hv:valE t (cor i (j+1)) ((q:Int)+1)=(if UF.rt u2 (2*((q:Int)+1))=UF.rt u2 (En (sideOf t i j))then 1 else 0)+(if UF.rt u2 (2*((q:Int)+1)+1)=UF.rt u2 (En (sideOf t i j))then 1 else 0):=by
   unfold valE
   rw[s1]
   dsimp only
   rw[Int.toNat_natCast,Int.toNat_natCast,d1,d2]
  have vb:=valE_bd t (cor i (j+1)) ((q:Int)+1)
  have hw:wrap64 ((if UF.rt u2 (2*((q:Int)+1))=UF.rt u2 (En (sideOf t i j))then 1 else 0)+(if UF.rt u2 (2*((q:Int)+1)+1)=UF.rt u2 (En (sideOf t i j))then 1 else 0))=valE t (cor i (j+1)) ((q:Int)+1):=by
   rw[←hv]
   exact w_id om om
  have ihh:=ih (q+1) k om om
  have y1:((q:Int)+1)≤(n:Int):=by omega
  have y2:((List.range q).map fun (q:Nat)=>valE t (cor i (j+1)) ((q:Int)+1)).length<17592186044416:=by rw[List.length_map,List.length_range];omega
  have w1:wrap64 (2*((q:Int)+1))=2*((q:Int)+1):=w_id om om
  have w2:wrap64 (2*((q:Int)+1)+1)=2*((q:Int)+1)+1:=by clear w1 hw;exact w_id om om
  have w3:wrap64 ((q:Int)+1+1)=((q+1:Nat):Int)+1:=by clear w1 w2 hw;rw[w_id om om];omega
  simp only[gL.l0]
  rw[hE,ip y1,w1,f1,Option.bind_some,bit_eq,Option.bind_some,w2,f2,Option.bind_some,bit_eq,Option.bind_some,ip y2]
  simp only[beq_iff_eq]
  rw[hw,w3]
  rw[List.range_succ,List.map_append]at ihh
  exact ihh
theorem mJ {t:List (List Int)}{n:Nat} (ok:TriOk t (n:Int)){i j:Nat} (hi:i<t.length) (hj:j<3) (k:Nat) (hk:1000<k):gL.f k t (i:Int) (j:Int)=some (aroundR t n (cor i (j+1))):=by
 obtain⟨u2,e,S⟩:=ends_f ok k hk
 have hn:=S.len
 have h3:=ok.three hi
 have hs:=ok.short
 have n9:=ok.n9
 have hl:((rd_L1 t (i:Int)).length:Int)=3:=by rw[rdL_nat t i hi,h3];rfl
 have hs1:=sideOf_in ok hi j
 have bE:=En_bd ok hi j
 have f1:=find3_f S.ok bE.1 (m:=k) om om
 have x1:(0:Int)≤(i:Int):=by omega
 have x2:(i:Int)<(t.length:Int):=by omega
 have x3:(0:Int)≤(j:Int):=by omega
 have x4:(j:Int)<3:=by omega
 have y1:=l3Abs_eq (a:=sideOf t i j) om om
 have v1:wrap64 (wrap64 (2*((sideOf t i j).natAbs:Int))+(if decide (sideOf t i j>0)=true then 1 else 0))=En (sideOf t i j):=by
  rw[w_id (a:=2*((sideOf t i j).natAbs:Int)) om om]
  unfold En
  by_cases c:sideOf t i j>0
  ·rw[ip (decide_eq_true c),ip c,w_id om om]
  ·rw[ig (by simpa using c),ig c,w_id om om]
 have fin:=mO ok S hi hj n 0 k om om
 unfold gL.f
 rw[e,Option.bind_some,ip x1,ip x2,hl,ip x3,ip x4,rd_at ok hi hj,y1,Option.bind_some,bit_eq,Option.bind_some,v1,f1,Option.bind_some]
 exact fin
theorem aroundR_len (t:List (List Int)) (n:Nat) (c:Int):(aroundR t n c).length=n:=by simp[aroundR]
def subL:List Int→List Int→List Int
 |x :: xs,y :: ys=>(x - y) :: subL xs ys
 |_,_=>[]
def sumP:List Int→Int
 |[]=>0
 |x :: xs=>x+sumP xs
theorem subL_len:∀(x y:List Int),x.length=y.length→(subL x y).length=x.length
 |[],[],_=>rfl
 |[],_ :: _,h=>by simp at h
 |_ :: _,[],h=>by simp at h
 |x :: xs,y :: ys,h=>by
  rw[subL,List.length_cons,List.length_cons,subL_len xs ys (by simpa using h)]
theorem subL_at:∀(x y:List Int) (i:Nat),x.length=y.length→(h:i<x.length)→(h2:i<y.length)→(h3:i<(subL x y).length)→(subL x y)[i]=x[i] - y[i]
 |[],[],i,_,h,_,_=>by simp at h
 |[],_ :: _,_,h,_,_,_=>by simp at h
 |_ :: _,[],_,h,_,_,_=>by simp at h
 |x :: xs,y :: ys,0,_,_,_,_=>rfl
 |x :: xs,y :: ys,i+1,h,h1,h2,h3=>by
  have h1':i<xs.length:=by simpa using h1
  have h2':i<ys.length:=by simpa using h2
  have h4:i<(subL xs ys).length:=by rw[subL_len xs ys (by simpa using h)];exact h1'
  have ih:=subL_at xs ys i (by simpa using h) h1' h2' h4
  simp only[subL,List.getElem_cons_succ]
  exact ih
theorem sumP_sub:∀(x y:List Int),x.length=y.length→sumP (subL x y)=sumP x - sumP y
 |[],[],_=>rfl
 |[],_ :: _,h=>by simp at h
 |_ :: _,[],h=>by simp at h
 |x :: xs,y :: ys,h=>by
  rw[subL,sumP,sumP,sumP,sumP_sub xs ys (by simpa using h)]
  omega
theorem sumP_nn:∀(x:List Int),(∀a∈x,0≤a)→0≤sumP x
 |[],_=>by simp[sumP]
 |a :: xs,h=>by
  have:=h a List.mem_cons_self
  have:=sumP_nn xs (fun b hb=>h b (List.mem_cons_of_mem _ hb))
  rw[sumP]
  omega
theorem sumP_pos:∀(x:List Int),(∀a∈x,0≤a)→(∃a∈x,1≤a)→1≤sumP x
 |[],_,h=>by obtain⟨a,ha,_⟩:=h;exact absurd ha (by simp)
 |b :: xs,h,⟨a,ha,h1⟩=>by
  have h0:=h b List.mem_cons_self
  have hn:=sumP_nn xs (fun b hb=>h b (List.mem_cons_of_mem _ hb))
  rw[sumP]
  rcases List.mem_cons.1 ha with e|e
  ·subst e;omega
  ·have:=sumP_pos xs (fun b hb=>h b (List.mem_cons_of_mem _ hb)) ⟨a,e,h1⟩
   omega
theorem sumP_le:∀(x:List Int),(∀a∈x,a≤200)→sumP x≤200*x.length
 |[],_=>by simp[sumP]
 |a :: xs,h=>by
  have:=h a List.mem_cons_self
  have:=sumP_le xs (fun b hb=>h b (List.mem_cons_of_mem _ hb))
  rw[sumP,List.length_cons]
  omega
theorem co_at {x:List Int} (hc:x.all co=true){a:Int} (ha:a∈x):0≤a∧a≤200:=co_true (List.all_eq_true.1 hc a ha)
theorem crd_nat {x:List Int}{s:Int}{e:Nat} (hs:(s.natAbs:Int)=(e:Int)+1) (he:e<x.length):crd x s=x[e]:=by
 unfold crd
 rw[hs,show(e:Int)+1 - 1=(e:Int) by omega,rd_nat x e he]
theorem SameV.symm {t:List (List Int)}{c d:Int} (h:SameV t c d):SameV t d c:=UF.Cls.symm h
theorem SameV.trans {t:List (List Int)}{c d e:Int} (h:SameV t c d) (h2:SameV t d e):SameV t c e:=UF.Cls.trans h h2
theorem vind_same {t:List (List Int)}{c d e:Int} (h:SameV t d e):vind t c d=vind t c e:=by
 unfold vind
 by_cases p:SameV t d c
 ·rw[ip p,ip (h.symm.trans p)]
 ·rw[ig p,ig (fun q=>p (h.trans q))]
theorem cor_mod (i j:Nat):cor i (j % 3)=cor i j:=by
 unfold cor
 rw[Nat.mod_mod]
theorem cor_mod1 (i j:Nat):cor i (j % 3+1)=cor i (j+1):=by
 unfold cor
 rw[show(j % 3+1) % 3=(j+1) % 3 by omega]
/-- What the curve around a vertex says of a side: its two corners at the vertex. -/
theorem around_side {t:List (List Int)}{n:Nat} (ok:TriOk t (n:Int)) (c:Int){a:Nat} (ha:a<t.length) (b:Nat):crd (aroundR t n c) (sideOf t a b)=vind t c (cor a b)+vind t c (cor a (b+1)):=by
 have hs:=sideOf_in ok ha b
 obtain⟨e,he⟩:∃e:Nat,((sideOf t a b).natAbs:Int)=(e:Int)+1:=⟨(sideOf t a b).natAbs - 1,by omega⟩
 have hen:e<n:=by omega
 have hel:e<(aroundR t n c).length:=by rw[aroundR_len];exact hen
 rw[crd_nat he hel]
 have hv:(aroundR t n c)[e]=valE t c ((e:Int)+1):=by
  have h:(aroundR t n c)[e]?= some (valE t c ((e:Int)+1)):=by
   unfold aroundR
   rw[List.getElem?_map,List.getElem?_range hen]
   rfl
  rw[List.getElem?_eq_getElem hel]at h
  exact Option.some.inj h
 rw[hv]
 unfold valE
 by_cases p:0<sideOf t a b
 ·have e1:(e:Int)+1=sideOf t a (b % 3):=by rw[sideOf_mod];omega
  rw[e1,side_at ok ha om]
  dsimp only
  rw[Int.toNat_natCast,Int.toNat_natCast,cor_mod,cor_mod1]
 ·obtain⟨o1,o2,o3,o4⟩:=opp_at ok ha b
  have e1:(e:Int)+1= -(sideOf t a b):=by omega
  rw[e1,o4]
  dsimp only
  rw[Int.toNat_natCast,Int.toNat_natCast]
  have hm:∀p,p∈vp t a (b % 3)→SameV t p.1 p.2:=by
   intro p hp
   obtain⟨q1,q2,_,_⟩:=opp_at ok ha (b % 3)
   have hm:p∈allG (vp t) t.length 0:=(mem_allG _ _).2 ⟨a,by omega,by omega,b % 3,by omega,hp⟩
   have hp':p=(cor a (b % 3),cor (opp t a (b % 3)).1 ((opp t a (b % 3)).2+1))∨p=(cor a (b % 3+1),cor (opp t a (b % 3)).1 (opp t a (b % 3)).2):=by simpa[vp] using hp
   rcases hp' with e|e
   ·subst e
    exact .pair hm (cor_bd ha _).1 (cor_bd ha _).2 (cor_bd q1 _).1 (cor_bd q1 _).2
   ·subst e
    exact .pair hm (cor_bd ha _).1 (cor_bd ha _).2 (cor_bd q1 _).1 (cor_bd q1 _).2
  have eo:opp t a (b % 3)=opp t a b:=by unfold opp;rw[sideOf_mod]
  have m1:=hm _ (show(cor a (b % 3),cor (opp t a (b % 3)).1 ((opp t a (b % 3)).2+1))∈vp t a (b % 3)from by simp[vp])
  have m2:=hm _ (show(cor a (b % 3+1),cor (opp t a (b % 3)).1 (opp t a (b % 3)).2)∈vp t a (b % 3)from by simp[vp])
  dsimp only at m1 m2
  rw[eo,cor_mod]at m1
  rw[eo,cor_mod1]at m2
  rw[←vind_same m1, ←vind_same m2]
  omega
/-- All corners at the vertex of c have arcs. -/
def fineB (t:List (List Int)) (x:List Int) (c:Int) (m j:Nat):Prop:=SameV t (cor m (j+1)) c→2≤tw t x m j
def fineP (t:List (List Int)) (x:List Int) (c:Int):Prop:=∀m,m<t.length→∀j,j<3→fineB t x c m j
structure Inv (t:List (List Int)) (n:Nat) (x:List Int):Prop where
 len:x.length=n
 cs:x.all co=true
 ge:∀i,i<t.length→∀j,j<3→0≤tw t x i j
theorem tw_mod (t:List (List Int)) (x:List Int) (i j:Nat):tw t x i (j % 3)=tw t x i j:=by
 unfold tw
 rw[sideOf_mod, ←sideOf_mod t i (j % 3+1), ←sideOf_mod t i (j % 3+2), ←sideOf_mod t i (j+1), ←sideOf_mod t i (j+2),show(j % 3+1) % 3=(j+1) % 3 by omega,show(j % 3+2) % 3=(j+2) % 3 by omega]
theorem Inv.step {t:List (List Int)}{n:Nat} (ok:TriOk t (n:Int)){x:List Int} (h:Inv t n x){k0 i0:Nat} (hk:k0<t.length) (hi:i0<3) (hf:fineP t x (cor k0 (i0+1))):
  Inv t n (subL x (aroundR t n (cor k0 (i0+1))))∧sumP (subL x (aroundR t n (cor k0 (i0+1))))<sumP x:=by
 have hl:x.length=(aroundR t n (cor k0 (i0+1))).length:=by rw[aroundR_len,h.len]
 have hsl:=subL_len x _ hl
 have n9:=ok.n9
 have hcr:∀a b,a<t.length→crd (subL x (aroundR t n (cor k0 (i0+1)))) (sideOf t a b)=crd x (sideOf t a b) - (vind t (cor k0 (i0+1)) (cor a b)+vind t (cor k0 (i0+1)) (cor a (b+1))):=by
  intro a b ha
  have hs:=sideOf_in ok ha b
  obtain⟨e,he⟩:∃e:Nat,((sideOf t a b).natAbs:Int)=(e:Int)+1:=⟨(sideOf t a b).natAbs - 1,by omega⟩
  have hxl:=h.len
  have h1:e<x.length:=by omega
  have h2:e<(aroundR t n (cor k0 (i0+1))).length:=by rw[←hl];exact h1
  have h3:e<(subL x (aroundR t n (cor k0 (i0+1)))).length:=by rw[hsl];exact h1
  rw[←around_side ok _ ha b,crd_nat he h1,crd_nat he h2,crd_nat he h3]
  exact subL_at x _ e hl h1 h2 h3
 have c3:∀a b,cor a (b+3)=cor a b:=fun a b=>by unfold cor;rw[Nat.add_mod_right]
 have htw:∀a b,a<t.length→tw t (subL x (aroundR t n (cor k0 (i0+1)))) a b=tw t x a b - 2*vind t (cor k0 (i0+1)) (cor a (b+1)):=by
  intro a b ha
  unfold tw
  rw[hcr a b ha,hcr a (b+1) ha,hcr a (b+2) ha,show b+2+1=b+3 from rfl,show b+1+1=b+2 from rfl,c3]
  omega
 have hnn:∀a b,a<t.length→b<3→0≤tw t (subL x (aroundR t n (cor k0 (i0+1)))) a b:=by
  intro a b ha hb
  rw[htw a b ha]
  have:=h.ge a ha b hb
  have vb:=vind_bd t (cor k0 (i0+1)) (cor a (b+1))
  by_cases p:SameV t (cor a (b+1)) (cor k0 (i0+1))
  ·have:=hf a ha b hb p
   omega
  ·have:vind t (cor k0 (i0+1)) (cor a (b+1))=0:=by unfold vind;rw[ig p]
   omega
 have hpos:∀a∈subL x (aroundR t n (cor k0 (i0+1))),0≤a∧a≤200:=by
  intro v hv
  obtain⟨e,he,rfl⟩:=List.mem_iff_getElem.1 hv
  have hxl:=h.len
  rw[hsl]at he
  obtain⟨o,a,ho,ha,s1,s2⟩:=ok.side (x:=(e:Int)+1) om om om
  have h1:=hnn o a ho ha
  have h2:=hnn o ((a+2) % 3) ho om
  rw[tw_mod]at h2
  have hc0:crd (subL x (aroundR t n (cor k0 (i0+1)))) (sideOf t o a)=(subL x (aroundR t n (cor k0 (i0+1))))[e]:=crd_nat (by rw[s2];omega) (by rw[hsl];exact he)
  have s3:sideOf t o (a+3)=sideOf t o a:=by unfold sideOf;rw[Nat.add_mod_right]
  have s4:sideOf t o (a+4)=sideOf t o (a+1):=by rw[←sideOf_mod, ←sideOf_mod t o (a+1),show(a+4) % 3=(a+1) % 3 by omega]
  unfold tw at h1 h2
  rw[show a+2+1=a+3 from rfl,show a+2+2=a+4 from rfl,s3,s4]at h2
  have h5:e<(aroundR t n (cor k0 (i0+1))).length:=by rw[←hl];exact he
  have h6:=subL_at x _ e hl he h5 (by rw[hsl];exact he)
  have h7:=co_at h.cs (List.getElem_mem he)
  have h8:0≤(aroundR t n (cor k0 (i0+1)))[e]:=by
   have q:=around_side ok (cor k0 (i0+1)) ho a
   rw[crd_nat (e:=e) (by rw[s2];omega) h5]at q
   have:=vind_bd t (cor k0 (i0+1)) (cor o a)
   have:=vind_bd t (cor k0 (i0+1)) (cor o (a+1))
   omega
  omega
 refine⟨⟨by rw[hsl];exact h.len,List.all_eq_true.2 (fun a ha=>decide_eq_true (hpos a ha)),fun a ha b hb=>hnn a b ha hb⟩,?_⟩
 rw[sumP_sub x _ hl]
 have h1:1≤sumP (aroundR t n (cor k0 (i0+1))):=by
  refine sumP_pos _ (fun v hv=>?_) ?_
  ·unfold aroundR at hv
   obtain⟨q,_,rfl⟩:=List.mem_map.1 hv
   exact(valE_bd t _ _).1
  ·have hs:=sideOf_in ok hk i0
   obtain⟨e,he⟩:∃e:Nat,((sideOf t k0 i0).natAbs:Int)=(e:Int)+1:=⟨(sideOf t k0 i0).natAbs - 1,by omega⟩
   have hel:e<(aroundR t n (cor k0 (i0+1))).length:=by rw[aroundR_len];omega
   have q:=around_side ok (cor k0 (i0+1)) hk i0
   rw[crd_nat he hel]at q
   have v0:=vind_bd t (cor k0 (i0+1)) (cor k0 i0)
   have v1:vind t (cor k0 (i0+1)) (cor k0 (i0+1))=1:=by
    unfold vind
    rw[ip (.refl (cor_bd hk (i0+1)).1 (cor_bd hk (i0+1)).2)]
   exact⟨_,List.getElem_mem hel,by omega⟩
 omega
end Go.Proofs.Ytemeiocmgbgikaa.L

namespace Go.Proofs.Ytemeiocmgbgikaa.Cyc
open Go.Proofs.YtemeiocmgbgikaaW.PrintWords (om sk ip ig)
open Go.Proofs.Ytemeiocmgbgikaa.UF
set_option linter.unusedVariables false
set_option linter.unusedSimpArgs false

end Go.Proofs.Ytemeiocmgbgikaa.Cyc


namespace Go.Proofs.Ytemeiocmgbgikaa.L
open Go.RowKit Go.Proofs.Ytemeiocmgbgikaa.P Go.Proofs.Ytemeiocmgbgikaa.Help Go.Proofs.YtemeiocmgbgikaaW.PrintWords
set_option linter.unusedVariables false
set_option linter.unusedSimpArgs false

/-- The corner at the beginning of a side. -/
def pos (t:List (List Int)) (s:Int):Int:=3*(sideR s t 0).1+(sideR s t 0).2
theorem pos_cor {t:List (List Int)}{n:Int} (ok:TriOk t n){i j:Nat} (hi:i<t.length) (hj:j<3):pos t (sideOf t i j)=cor i j:=by
 unfold pos cor
 rw[side_at ok hi hj]
 have:j % 3=j:=by omega
 rw[this]
theorem pos_opp {t:List (List Int)}{n:Int} (ok:TriOk t n){i j:Nat} (hi:i<t.length) (hj:j<3):pos t (-(sideOf t i j))=cor (opp t i j).1 (opp t i j).2:=by
 obtain⟨o1,o2,o3,o4⟩:=opp_at ok hi j
 rw[←o3,pos_cor ok o1 o2]
theorem addL_at:∀(x y:List Int) (i:Nat) (h1:i<x.length) (h2:i<y.length) (h3:i<(addL x y).length),(addL x y)[i]=x[i]+y[i]
 |[],_,i,h,_,_=>absurd h (by simp)
 |a :: x,[],i,_,h,_=>absurd h (by simp)
 |a :: x,b :: y,0,_,_,_=>by simp[addL]
 |a :: x,b :: y,i+1,h1,h2,h3=>by
  have:=addL_at x y i (by simpa using h1) (by simpa using h2) (by simpa[addL] using h3)
  simpa[addL] using this
theorem crd_add {x y:List Int} (h:x.length=y.length){s:Int} (h0:s≠0) (h1:s.natAbs≤x.length):crd (addL x y) s=crd x s+crd y s:=by
 have hl:=addL_leq x y h
 rw[crd_at h0 om,crd_at h0 h1,crd_at h0 om]
 exact addL_at x y _ _ _ _
/-- Does a side begin at the vertex? -/
noncomputable def bs (t:List (List Int)) (c s:Int):Int:=vind t c (pos t s)
theorem bs_bd (t:List (List Int)) (c s:Int):0≤bs t c s∧bs t c s≤1:=vind_bd t c _
theorem bs_cor {t:List (List Int)}{n:Int} (ok:TriOk t n) (c:Int){i:Nat} (hi:i<t.length) (j:Nat):bs t c (sideOf t i j)=vind t c (cor i j):=by
 unfold bs
 rw[←sideOf_mod,pos_cor ok hi om,cor_mod]
theorem same_vp {t:List (List Int)}{n:Int} (ok:TriOk t n){i j:Nat} (hi:i<t.length) (hj:j<3):SameV t (cor i j) (cor (opp t i j).1 ((opp t i j).2+1))∧SameV t (cor i (j+1)) (cor (opp t i j).1 (opp t i j).2):=by
 obtain⟨o1,o2,o3,o4⟩:=opp_at ok hi j
 have hm:∀p,p∈vp t i j→p∈allG (vp t) t.length 0:=fun p hp=>(mem_allG _ _).2 ⟨i,by omega,by omega,j,hj,hp⟩
 exact⟨.pair (hm _ (by simp[vp])) (cor_bd hi _).1 (cor_bd hi _).2 (cor_bd o1 _).1 (cor_bd o1 _).2, .pair (hm _ (by simp[vp])) (cor_bd hi _).1 (cor_bd hi _).2 (cor_bd o1 _).1 (cor_bd o1 _).2⟩
theorem bs_neg {t:List (List Int)}{n:Int} (ok:TriOk t n) (c:Int){i j:Nat} (hi:i<t.length) (hj:j<3):bs t c (-(sideOf t i j))=vind t c (cor i (j+1)):=by
 unfold bs
 rw[pos_opp ok hi hj]
 exact(vind_same (same_vp ok hi hj).2).symm
theorem ring_side {t:List (List Int)}{n:Nat} (ok:TriOk t (n:Int)) (c:Int){s:Int} (h0:s≠0) (h1: -(n:Int)≤s) (h2:s≤n):crd (aroundR t n c) s=bs t c s+bs t c (-s):=by
 obtain⟨i,j,hi,hj,_,e⟩:=ok.side h0 h1 h2
 rw[←e,around_side ok c hi j,bs_cor ok c hi j,bs_neg ok c hi hj]
section
variable {t:List (List Int)}{x:List Int}{n:Nat}{c:Int}
theorem dec_pt:∀(x:List Int),(∀a∈x,0≤a)→∀(p:Int),0≤p→p<(offN x x.length:Int)→∃(e:Nat) (h:e<x.length) (m:Int),0≤m∧m<x[e]∧p=(offN x e:Int)+m
 |[],_,p,h0,h1=>by simp[offN]at h1;omega
 |a :: x,hp,p,h0,h1=>by
  have q:=hp a (by simp)
  have e1:((offN (a :: x) (a :: x).length:Nat):Int)=a+(offN x x.length:Int):=by
   show((a.toNat+offN x x.length:Nat):Int)=_
   omega
  by_cases k:p<a
  ·exact⟨0,by simp,p,h0,by simpa using k,by simp[offN]⟩
  ·obtain⟨e,h,m,m0,m1,em⟩:=dec_pt x (fun z hz=>hp z (by simp[hz])) (p - a) om om
   refine⟨e+1,by simpa using h,m,m0,by simpa using m1,?_⟩
   have ea:((offN (a :: x) (e+1):Nat):Int)=a+(offN x e:Int):=by
    show((a.toNat+offN x e:Nat):Int)=_
    omega
   rw[ea]
   omega
/-- Which edges begin at the vertex. -/
theorem mem_allQ {f:Nat→List (Int × Int)}{p:Int × Int}:∀ {d i:Nat},p∈allQ f d i↔∃q,i≤q∧q<i+d∧p∈f q
 |0,i=>by
  simp only[allQ,List.not_mem_nil,false_iff]
  rintro ⟨q,a,b,_⟩
  omega
 |d+1,i=>by
  simp only[allQ]
  rw[List.mem_append,mem_allQ (d:=d) (i:=i+1)]
  constructor
  ·rintro (h|⟨q,a,b,c⟩)
   ·exact⟨i,by omega,by omega,h⟩
   ·exact⟨q,by omega,by omega,c⟩
  ·rintro ⟨q,a,b,c⟩
   by_cases e:q=i
   ·subst e;exact .inl c
   ·exact .inr ⟨q,by omega,by omega,c⟩
theorem Cx.pair (C:Cx t x (n:Int)){i j:Nat} (hi:i<t.length) (hj:j<3){m:Nat} (hm:m<nc t x i j):UF.Cls (NN x:Int) (allG (prIJ t x) t.length 0) (pt x (sideOf t i j) (crd x (sideOf t i j) - 1 - (m:Int))) (pt x (sideOf t i (j+1)) (m:Int)):=by
 obtain⟨q1,q2,q3,q4,q5,q6⟩:=C.arc hi j hj
 obtain⟨z1,z2⟩:=C.side hi j
 obtain⟨z3,z4⟩:=C.side hi (j+1)
 have b1:=pt_bd C.hc z1 z2 (m:=crd x (sideOf t i j) - 1 - (m:Int)) om om
 have b2:=pt_bd C.hc z3 z4 (m:=(m:Int)) om om
 exact .pair ((mem_allG _ _).2 ⟨i,by omega,by omega,j,hj,mem_allQ.2 ⟨m,by omega,by omega,by simp[prC]⟩⟩) b1.1 b1.2 b2.1 b2.2
theorem Cx.ofPair {p q:Int} (h:(p,q)∈allG (prIJ t x) t.length 0):∃i j m:Nat,i<t.length∧j<3∧m<nc t x i j∧p=pt x (sideOf t i j) (crd x (sideOf t i j) - 1 - (m:Int))∧q=pt x (sideOf t i (j+1)) (m:Int):=by
 obtain⟨i,_,hi,j,hj,h2⟩:=(mem_allG _ _).1 h
 obtain⟨m,_,hm,h3⟩:=mem_allQ.1 h2
 have h4:(p,q)=(pt x (sideOf t i j) (crd x (sideOf t i j) - 1 - (m:Int)),pt x (sideOf t i (j+1)) (m:Int)):=by simpa[prC] using h3
 obtain⟨rfl,rfl⟩:=Prod.mk.inj h4
 exact⟨i,j,m,by omega,hj,by omega,rfl,rfl⟩
theorem pt_flip {x:List Int}{s m:Int} (h0:s≠0):pt x (-s) m=pt x s (crd x s - 1 - m):=by
 have e:crd x (-s)=crd x s:=by unfold crd;rw[Int.natAbs_neg]
 unfold pt
 rw[Int.natAbs_neg,e]
 split <;> split <;> omega
end
/-- A corner: three sides in a row. -/
def Cor (t:List (List Int)) (a b c:Int):Prop:=∃i j:Nat,i<t.length∧j<3∧sideOf t i j=a∧sideOf t i (j+1)=b∧sideOf t i (j+2)=c
theorem sideOf3 (t:List (List Int)) (i j:Nat):sideOf t i (j+3)=sideOf t i j:=by
 unfold sideOf
 rw[show(j+3) % 3=j % 3 by omega]
theorem Cor.rot {t:List (List Int)}{a b c:Int} (h:Cor t a b c):Cor t b c a:=by
 obtain⟨i,j,hi,hj,rfl,rfl,rfl⟩:=h
 by_cases k:j=2
 ·subst k
  exact⟨i,0,hi,by omega,(sideOf3 t i 0).symm,(sideOf3 t i 1).symm,rfl⟩
 ·exact⟨i,j+1,hi,by omega,rfl,rfl,sideOf3 t i j⟩
section
variable {t s:List (List Int)}{x y:List Int}{n:Nat}{a b c d e f:Int}
theorem Cx.cor (C:Cx t x (n:Int)) (h:Cor t a b c):(a≠0∧a.natAbs≤n∧0≤crd x a∧crd x a≤200)∧(crd x a+crd x b - crd x c) % 2=0∧0≤crd x a+crd x b - crd x c:=by
 obtain⟨i,j,hi,hj,rfl,rfl,rfl⟩:=h
 have z:=C.side hi j
 have hx:=C.hx
 have cb:=crd_bd C.hc (sideOf t i j)
 refine⟨⟨z.1,by omega,cb.1,cb.2⟩,?_,(C.arc hi j hj).2.1⟩
 obtain⟨a,b,c,e,_⟩:=C.ok.i64 (List.getElem_mem hi)
 have hf2:decide ((crd x a+crd x b+crd x c) % 2=0∧crd x a≤crd x b+crd x c∧crd x b≤crd x a+crd x c∧crd x c≤crd x a+crd x b)=true:=by
  have:=C.hf t[i] (List.getElem_mem hi)
  rw[e]at this
  exact this
 rw[decide_eq_true_iff]at hf2
 obtain⟨s0,s1,s2,s3,s4⟩:=sideOf_eq hi e
 match j,hj with
 |0,_=>rw[s0,s1,s2];omega
 |1,_=>rw[s1,s2,s3];omega
 |2,_=>rw[s2,s3,s4];omega
theorem Cx.cp (C:Cx t x (n:Int)) (h:Cor t a b c){m:Int} (m0:0≤m) (hm:2*m+2≤crd x a+crd x b - crd x c):UF.Cls (NN x:Int) (allG (prIJ t x) t.length 0) (pt x a (crd x a - 1 - m)) (pt x b m):=by
 obtain⟨i,j,hi,hj,rfl,rfl,rfl⟩:=h
 obtain⟨q1,_⟩:=C.arc hi j hj
 unfold tw at q1
 have:=C.pair hi hj (m:=m.toNat) om
 rwa [Int.toNat_of_nonneg m0]at this
theorem Cx.ofCp (C:Cx t x (n:Int)){p q:Int} (h:(p,q)∈allG (prIJ t x) t.length 0):∃a b c m:Int,Cor t a b c∧0≤m∧2*m+2≤crd x a+crd x b - crd x c∧p=pt x a (crd x a - 1 - m)∧q=pt x b m:=by
 obtain⟨i,j,m,hi,hj,hm,rfl,rfl⟩:=Cx.ofPair h
 obtain⟨q1,_⟩:=C.arc hi j hj
 unfold tw at q1
 exact⟨_,_,_,(m:Int),⟨i,j,hi,hj,rfl,rfl,rfl⟩,by omega,by omega,rfl,rfl⟩
def Rot (u v w a b c:Int):Prop:=(u=a∧v=b∧w=c)∨(u=b∧v=c∧w=a)∨(u=c∧v=a∧w=b)
/-- A flip: the sides a, b, c, d lie around the edge e of t, and around the edge f of s; the numbers of points. -/
structure Fp (t s:List (List Int)) (x y:List Int) (n:Nat) (e f a b c d:Int):Prop where
 C:Cx t x (n:Int)
 D:Cx s y (n:Int)
 ef:f=e∨f= -e
 c1:Cor t e a b
 c2:Cor t (-e) c d
 d1:Cor s f b c
 d2:Cor s (-f) d a
 tt:∀u v w,Cor t u v w→Rot u v w e a b∨Rot u v w (-e) c d∨(u.natAbs≠e.natAbs∧v.natAbs≠e.natAbs∧w.natAbs≠e.natAbs∧Cor s u v w)
 ss:∀u v w,Cor s u v w→Rot u v w f b c∨Rot u v w (-f) d a∨(u.natAbs≠e.natAbs∧v.natAbs≠e.natAbs∧w.natAbs≠e.natAbs∧Cor t u v w)
 na:a.natAbs≠e.natAbs∧b.natAbs≠e.natAbs∧c.natAbs≠e.natAbs∧d.natAbs≠e.natAbs
 oth:∀(i:Nat) (h:i<x.length) (h':i<y.length),i≠e.natAbs - 1→x[i]=y[i]
 val:(crd x e+crd y e=crd x a+crd x c∧crd x b+crd x d≤crd x a+crd x c)∨(crd x e+crd y e=crd x b+crd x d∧crd x a+crd x c≤crd x b+crd x d)
theorem crd_abs (x:List Int){s e:Int} (h:s.natAbs=e.natAbs):crd x s=crd x e:=by
 unfold crd
 rw[h]
theorem Fp.len (F:Fp t s x y n e f a b c d):x.length=n∧y.length=n:=by
 have h1:=F.C.hx
 have h2:=F.D.hx
 omega
theorem Fp.same (F:Fp t s x y n e f a b c d){u:Int} (h0:u≠0) (h1:u.natAbs≤n) (h2:u.natAbs≠e.natAbs):crd x u=crd y u:=by
 have hl:=F.len
 have he:=(F.C.cor F.c1).1
 rw[crd_at h0 om,crd_at h0 om]
 exact F.oth _ _ _ om
theorem Fp.four (F:Fp t s x y n e f a b c d):(e≠0∧e.natAbs≤n)∧(a≠0∧a.natAbs≤n∧crd y a=crd x a)∧(b≠0∧b.natAbs≤n∧crd y b=crd x b)∧(c≠0∧c.natAbs≤n∧crd y c=crd x c)∧(d≠0∧d.natAbs≤n∧crd y d=crd x d):=by
 have h0:=(F.C.cor F.c1).1
 have h1:=(F.C.cor F.c1.rot).1
 have h2:=(F.C.cor F.c1.rot.rot).1
 have h3:=(F.C.cor F.c2.rot).1
 have h4:=(F.C.cor F.c2.rot.rot).1
 obtain⟨n1,n2,n3,n4⟩:=F.na
 exact⟨⟨h0.1,h0.2.1⟩,⟨h1.1,h1.2.1,(F.same h1.1 h1.2.1 n1).symm⟩,⟨h2.1,h2.2.1,(F.same h2.1 h2.2.1 n2).symm⟩,⟨h3.1,h3.2.1,(F.same h3.1 h3.2.1 n3).symm⟩,⟨h4.1,h4.2.1,(F.same h4.1 h4.2.1 n4).symm⟩⟩
theorem abs_ef {e f:Int} (h:f=e∨f= -e):f.natAbs=e.natAbs:=by omega
theorem ef_symm {e f:Int} (h:f=e∨f= -e): -e=f∨ -e= -f:=by omega
theorem val_symm {A B C D E F:Int} (h:(E+F=A+C∧B+D≤A+C)∨(E+F=B+D∧A+C≤B+D)):(F+E=B+D∧C+A≤B+D)∨(F+E=C+A∧B+D≤C+A):=by omega
theorem Fp.nf (F:Fp t s x y n e f a b c d):f.natAbs=e.natAbs∧f≠0∧e≠0:=by
 have h:=abs_ef F.ef
 have h2:=F.four.1.1
 refine⟨h,fun h0=>?_,h2⟩
 rw[h0]at h
 omega
theorem Fp.symm (F:Fp t s x y n e f a b c d):Fp s t y x n f (-e) b c d a:=by
 obtain⟨hf,f0,e0⟩:=F.nf
 have na:=F.na
 refine⟨F.D,F.C,ef_symm F.ef,F.d1,F.d2,F.c2,by rw[Int.neg_neg];exact F.c1,fun u v w h=>?_,fun u v w h=>?_,by rw[hf];exact⟨na.2.1,na.2.2.1,na.2.2.2,na.1⟩,fun i h h' k=>(F.oth i h' h (by rw[←hf];exact k)).symm,?_⟩
 ·rw[hf];exact F.ss u v w h
 ·rw[hf,Int.neg_neg]
  rcases F.tt u v w h with h|h|h
  ·exact .inr (.inl h)
  ·exact .inl h
  ·exact .inr (.inr h)
 ·rw[crd_abs x hf,crd_abs y hf,F.four.2.2.1.2.2,F.four.2.2.2.2.2.2,F.four.2.2.2.1.2.2,F.four.2.1.2.2]
  exact val_symm F.val
theorem offN_mono (x:List Int):∀(j i:Nat),i≤j→j≤x.length→offN x i≤offN x j
 |0,i,h,_=>by rw[show i=0 by omega];exact Nat.le_refl _
 |j+1,i,h,hj=>by
  by_cases k:i=j+1
  ·rw[k];exact Nat.le_refl _
  ·have:=offN_mono x j i om om
   rw[offN_succ x j om]
   omega
theorem offN_two {x y:List Int} (hl:x.length=y.length){k:Nat} (hk:k<x.length) (hk':k<y.length) (hs:∀(i:Nat) (h:i<x.length) (h':i<y.length),i≠k→x[i]=y[i]):∀i,i≤x.length→(i≤k→offN y i=offN x i)∧(k<i→offN y i+x[k].toNat=offN x i+y[k].toNat)
 |0,_=>by
  refine⟨fun _=>by rw[offN_zero,offN_zero],fun h=>by omega⟩
 |i+1,hi=>by
  obtain⟨h1,h2⟩:=offN_two hl hk hk' hs i om
  have e1:=offN_succ x i om
  have e2:=offN_succ y i om
  refine⟨fun h=>?_,fun h=>?_⟩
  ·have:=hs i om om om
   have:=h1 om
   rw[e1,e2]
   omega
  ·by_cases q:i=k
   ·subst q
    have:=h1 (Nat.le_refl _)
    omega
   ·have:=hs i om om q
    have:=h2 om
    rw[e1,e2]
    omega
/-- Where a point goes: those of the edge go to a point of the sides b or a. -/
def mvP (x y:List Int) (e a b:Int) (p:Int):Int:=
 if p<(offN x (e.natAbs - 1):Int)then p else
 if p<(offN x (e.natAbs - 1):Int)+crd x e then
  (if 2*(if e>0 then p - (offN x (e.natAbs - 1):Int)else crd x e - 1 - (p - (offN x (e.natAbs - 1):Int)))<crd x b+crd x e - crd x a
   then pt y b (crd y b - 1 - (if e>0 then p - (offN x (e.natAbs - 1):Int)else crd x e - 1 - (p - (offN x (e.natAbs - 1):Int))))
   else pt y a (crd x e - 1 - (if e>0 then p - (offN x (e.natAbs - 1):Int)else crd x e - 1 - (p - (offN x (e.natAbs - 1):Int)))))
 else p+crd y e - crd x e
theorem mv_e (x y:List Int) (e a b:Int){m:Int} (m0:0≤m) (m1:m<crd x e):mvP x y e a b (pt x e m)=if 2*m<crd x b+crd x e - crd x a then pt y b (crd y b - 1 - m)else pt y a (crd x e - 1 - m):=by
 unfold mvP
 by_cases h:e>0
 ·have e1:pt x e m=(offN x (e.natAbs - 1):Int)+m:=by unfold pt;rw[ip h]
  rw[e1,ig om,ip om,ip h,show(offN x (e.natAbs - 1):Int)+m - (offN x (e.natAbs - 1):Int)=m by omega]
 ·have e1:pt x e m=(offN x (e.natAbs - 1):Int)+(crd x e - 1 - m):=by unfold pt;rw[ig h]
  rw[e1,ig om,ip om,ig h,show crd x e - 1 - ((offN x (e.natAbs - 1):Int)+(crd x e - 1 - m) - (offN x (e.natAbs - 1):Int))=m by omega]
theorem Fp.mv (F:Fp t s x y n e f a b c d){u:Int} (h0:u≠0) (h1:u.natAbs≤n) (h2:u.natAbs≠e.natAbs){m:Int} (m0:0≤m) (m1:m<crd x u):mvP x y e a b (pt x u m)=pt y u m:=by
 have hl:=F.len
 have he:=F.four.1
 have hs:=F.same h0 h1 h2
 have e1:=crd_at (x:=x) he.1 om
 have e2:=crd_at (x:=y) he.1 om
 have e3:=crd_at (x:=x) h0 om
 have bx:=crd_bd F.C.hc e
 have by':=crd_bd F.D.hc e
 have bu:=crd_bd F.C.hc u
 have o:=offN_two (x:=x) (y:=y) om (k:=e.natAbs - 1) om om F.oth
 have s1:=offN_succ x (e.natAbs - 1) om
 have s2:=offN_succ x (u.natAbs - 1) om
 have pp:(offN x (u.natAbs - 1):Int)≤pt x u m∧pt x u m<(offN x (u.natAbs - 1):Int)+crd x u∧pt y u m=pt x u m+(offN y (u.natAbs - 1):Int) - (offN x (u.natAbs - 1):Int):=by
  unfold pt
  rw[←hs]
  split <;> omega
 unfold mvP
 by_cases k:u.natAbs<e.natAbs
 ·have q:=(o (u.natAbs - 1) om).1 om
  have:=offN_mono x (e.natAbs - 1) (u.natAbs - 1+1) om om
  rw[ip om]
  omega
 ·have q:=(o (u.natAbs - 1) om).2 om
  have:=offN_mono x (u.natAbs - 1) (e.natAbs - 1+1) om om
  rw[ig om,ig om]
  omega
/-- Each point is one of the edge or one of another edge. -/
theorem Fp.dec (F:Fp t s x y n e f a b c d){p:Int} (h0:0≤p) (h1:p<(NN x:Int)):(∃u m:Int,u≠0∧u.natAbs≤n∧u.natAbs≠e.natAbs∧0≤m∧m<crd x u∧p=pt x u m)∨∃m:Int,0≤m∧m<crd x e∧p=pt x e m:=by
 have hl:=F.len
 have he:=F.four.1
 obtain⟨i,h,m,m0,m1,rfl⟩:=dec_pt x (fun a ha=>(all_co F.C.hc a ha).1) p h0 h1
 by_cases k:i+1=e.natAbs
 ·have e1:crd x e=x[i]:=crd_nat om h
  refine .inr ?_
  by_cases p0:e>0
  ·exact⟨m,m0,by omega,by unfold pt;rw[ip p0,show e.natAbs - 1=i by omega]⟩
  ·exact⟨crd x e - 1 - m,by omega,by omega,by unfold pt;rw[ig p0,show e.natAbs - 1=i by omega];omega⟩
 ·have e1:crd x ((i:Int)+1)=x[i]:=crd_nat om h
  exact .inl ⟨(i:Int)+1,m,by omega,by omega,by omega,m0,by omega,by unfold pt;rw[ip om,show((i:Int)+1).natAbs - 1=i by omega]⟩
/-- The numbers at the six corners. -/
theorem Fp.num (F:Fp t s x y n e f a b c d):((crd x e+crd x a - crd x b) % 2=0∧0≤crd x e+crd x a - crd x b)∧((crd x a+crd x b - crd x e) % 2=0∧0≤crd x a+crd x b - crd x e)∧((crd x b+crd x e - crd x a) % 2=0∧0≤crd x b+crd x e - crd x a)∧((crd x e+crd x c - crd x d) % 2=0∧0≤crd x e+crd x c - crd x d)∧((crd x c+crd x d - crd x e) % 2=0∧0≤crd x c+crd x d - crd x e)∧((crd x d+crd x e - crd x c) % 2=0∧0≤crd x d+crd x e - crd x c):=by
 have g3:crd x (-e)=crd x e:=by unfold crd;rw[Int.natAbs_neg]
 have q4:=(F.C.cor F.c2).2
 have q5:=(F.C.cor F.c2.rot).2
 have q6:=(F.C.cor F.c2.rot.rot).2
 rw[g3]at q4 q5 q6
 exact⟨(F.C.cor F.c1).2,(F.C.cor F.c1.rot).2,(F.C.cor F.c1.rot.rot).2,q4,q5,q6⟩
theorem Fp.mva (F:Fp t s x y n e f a b c d){m:Int} (m0:0≤m) (m1:m<crd x a):mvP x y e a b (pt x a m)=pt y a m:=F.mv F.four.2.1.1 F.four.2.1.2.1 F.na.1 m0 m1
theorem Fp.mvb (F:Fp t s x y n e f a b c d){m:Int} (m0:0≤m) (m1:m<crd x b):mvP x y e a b (pt x b m)=pt y b m:=F.mv F.four.2.2.1.1 F.four.2.2.1.2.1 F.na.2.1 m0 m1
theorem Fp.mvc (F:Fp t s x y n e f a b c d){m:Int} (m0:0≤m) (m1:m<crd x c):mvP x y e a b (pt x c m)=pt y c m:=F.mv F.four.2.2.2.1.1 F.four.2.2.2.1.2.1 F.na.2.2.1 m0 m1
theorem Fp.mvd (F:Fp t s x y n e f a b c d){m:Int} (m0:0≤m) (m1:m<crd x d):mvP x y e a b (pt x d m)=pt y d m:=F.mv F.four.2.2.2.2.1 F.four.2.2.2.2.2.1 F.na.2.2.2 m0 m1
theorem pt_in (D:Cx s y (n:Int)){u m:Int} (u0:u≠0) (u1:u.natAbs≤n) (m0:0≤m) (m1:m<crd y u):0≤pt y u m∧pt y u m<(NN y:Int):=by
 have h2:=D.hx
 exact pt_bd D.hc u0 om m0 m1
theorem Fp.ina (F:Fp t s x y n e f a b c d){m:Int} (m0:0≤m) (m1:m<crd x a):0≤pt y a m∧pt y a m<(NN y:Int):=pt_in F.D F.four.2.1.1 F.four.2.1.2.1 m0 (by rw[F.four.2.1.2.2];exact m1)
theorem Fp.inb (F:Fp t s x y n e f a b c d){m:Int} (m0:0≤m) (m1:m<crd x b):0≤pt y b m∧pt y b m<(NN y:Int):=pt_in F.D F.four.2.2.1.1 F.four.2.2.1.2.1 m0 (by rw[F.four.2.2.1.2.2];exact m1)
theorem Fp.bds (F:Fp t s x y n e f a b c d){p:Int} (h0:0≤p) (h1:p<(NN x:Int)):0≤mvP x y e a b p∧mvP x y e a b p<(NN y:Int):=by
 rcases F.dec h0 h1 with ⟨u,m,u0,u1,u2,m0,m1,rfl⟩|⟨m,m0,m1,rfl⟩
 ·rw[F.mv u0 u1 u2 m0 m1]
  exact pt_in F.D u0 u1 m0 (by rw[←F.same u0 u1 u2];exact m1)
 ·rw[mv_e x y e a b m0 m1]
  obtain⟨q1,q2,q3,_⟩:=F.num
  split
  ·rw[F.four.2.2.1.2.2]
   exact F.inb om om
  ·exact F.ina om om
/-- And back: it is in the same class. -/
theorem Fp.back (F:Fp t s x y n e f a b c d){p:Int} (h0:0≤p) (h1:p<(NN x:Int)):UF.Cls (NN x:Int) (allG (prIJ t x) t.length 0) (mvP y x f b c (mvP x y e a b p)) p:=by
 have G:=F.symm
 rcases F.dec h0 h1 with ⟨u,m,u0,u1,u2,m0,m1,rfl⟩|⟨m,m0,m1,rfl⟩
 ·rw[F.mv u0 u1 u2 m0 m1,G.mv u0 u1 (by rw[F.nf.1];exact u2) m0 (by rw[←F.same u0 u1 u2];exact m1)]
  exact .refl h0 h1
 ·rw[mv_e x y e a b m0 m1]
  have b2:=F.four.2.2.1.2.2
  have a2:=F.four.2.1.2.2
  obtain⟨q1,q2,q3,_⟩:=F.num
  split
  ·rw[G.mva om om,b2]
   exact F.C.cp F.c1.rot.rot m0 om
  ·rw[G.mvd om om]
   have:=F.C.cp F.c1 (m:=crd x e - 1 - m) om om
   rw[show crd x e - 1 - (crd x e - 1 - m)=m by omega]at this
   exact this.symm
theorem Fp.k1 (F:Fp t s x y n e f a b c d){m:Int} (m0:0≤m) (h:2*m+2≤crd y e+crd x b - crd x c):UF.Cls (NN y:Int) (allG (prIJ s y) s.length 0) (pt y f (crd y e - 1 - m)) (pt y b m):=by
 have g1:=crd_abs y F.nf.1
 have:=F.D.cp F.d1 m0 (by rw[g1,F.four.2.2.1.2.2,F.four.2.2.2.1.2.2];exact h)
 rwa [g1]at this
theorem Fp.k2 (F:Fp t s x y n e f a b c d){m:Int} (m0:0≤m) (h:2*m+2≤crd x b+crd x c - crd y e):UF.Cls (NN y:Int) (allG (prIJ s y) s.length 0) (pt y b (crd x b - 1 - m)) (pt y c m):=by
 have g1:=crd_abs y F.nf.1
 have:=F.D.cp F.d1.rot m0 (by rw[g1,F.four.2.2.1.2.2,F.four.2.2.2.1.2.2];exact h)
 rwa [F.four.2.2.1.2.2]at this
theorem Fp.k3 (F:Fp t s x y n e f a b c d){m:Int} (m0:0≤m) (h:2*m+2≤crd x c+crd y e - crd x b):UF.Cls (NN y:Int) (allG (prIJ s y) s.length 0) (pt y c (crd x c - 1 - m)) (pt y f m):=by
 have g1:=crd_abs y F.nf.1
 have:=F.D.cp F.d1.rot.rot m0 (by rw[g1,F.four.2.2.1.2.2,F.four.2.2.2.1.2.2];exact h)
 rwa [F.four.2.2.2.1.2.2]at this
theorem Fp.ng (F:Fp t s x y n e f a b c d):crd y (-f)=crd y e∧∀m,pt y (-f) m=pt y f (crd y e - 1 - m):=by
 have g1:=crd_abs y F.nf.1
 have g2:crd y (-f)=crd y f:=by unfold crd;rw[Int.natAbs_neg]
 exact⟨g2.trans g1,fun m=>by rw[pt_flip F.nf.2.1,g1]⟩
theorem Fp.k4 (F:Fp t s x y n e f a b c d){m:Int} (m0:0≤m) (h:2*m+2≤crd y e+crd x d - crd x a):UF.Cls (NN y:Int) (allG (prIJ s y) s.length 0) (pt y f m) (pt y d m):=by
 obtain⟨g,l⟩:=F.ng
 have:=F.D.cp F.d2 m0 (by rw[g,F.four.2.1.2.2,F.four.2.2.2.2.2.2];exact h)
 rwa [g,l,show crd y e - 1 - (crd y e - 1 - m)=m by omega]at this
theorem Fp.k5 (F:Fp t s x y n e f a b c d){m:Int} (m0:0≤m) (h:2*m+2≤crd x d+crd x a - crd y e):UF.Cls (NN y:Int) (allG (prIJ s y) s.length 0) (pt y d (crd x d - 1 - m)) (pt y a m):=by
 obtain⟨g,l⟩:=F.ng
 have:=F.D.cp F.d2.rot m0 (by rw[g,F.four.2.1.2.2,F.four.2.2.2.2.2.2];exact h)
 rwa [F.four.2.2.2.2.2.2]at this
theorem Fp.k6 (F:Fp t s x y n e f a b c d){m:Int} (m0:0≤m) (h:2*m+2≤crd x a+crd y e - crd x d):UF.Cls (NN y:Int) (allG (prIJ s y) s.length 0) (pt y a (crd x a - 1 - m)) (pt y f (crd y e - 1 - m)):=by
 obtain⟨g,l⟩:=F.ng
 have:=F.D.cp F.d2.rot.rot m0 (by rw[g,F.four.2.1.2.2,F.four.2.2.2.2.2.2];exact h)
 rwa [F.four.2.1.2.2,l]at this
theorem Fp.fwd (F:Fp t s x y n e f a b c d){p q:Int} (h:UF.Cls (NN x:Int) (allG (prIJ t x) t.length 0) p q):UF.Cls (NN y:Int) (allG (prIJ s y) s.length 0) (mvP x y e a b p) (mvP x y e a b q):=by
 refine UF.Cls.map (mvP x y e a b) (fun i h0 h1=>F.bds h0 h1) (fun p q hm h0 h1 h2 h3=>?_) h
 clear h h0 h1 h2 h3
 obtain⟨u,v',w,m,hc',m0,m1,ep,eq⟩:=F.C.ofCp hm
 rw[ep,eq]
 clear ep eq hm
 have g3:crd x (-e)=crd x e:=by unfold crd;rw[Int.natAbs_neg]
 have fe:∀m,pt x (-e) m=pt x e (crd x e - 1 - m):=fun m=>pt_flip F.nf.2.2
 rcases F.tt u v' w hc' with h|h|⟨u1,u2,u3,h⟩
 ·obtain⟨q1,q2,q3,q4,q5,q6⟩:=F.num
  have v:=F.val
  rcases h with ⟨e1,e2,e3⟩|⟨e1,e2,e3⟩|⟨e1,e2,e3⟩
  ·rw[e1,e2,e3]at m1
   rw[e1,e2]
   clear e1 e2 e3
   rw[mv_e x y e a b om om,ig om,show crd x e - 1 - (crd x e - 1 - m)=m by omega,F.mva m0 om]
   have:=F.ina m0 om
   exact .refl this.1 this.2
  ·rw[e1,e2,e3]at m1
   rw[e1,e2]
   clear e1 e2 e3
   rw[F.mva om om,F.mvb m0 om]
   exact(F.k6 m0 om).trans (F.k1 m0 om)
  ·rw[e1,e2,e3]at m1
   rw[e1,e2]
   clear e1 e2 e3
   rw[F.mvb om om,mv_e x y e a b m0 om,ip om,F.four.2.2.1.2.2]
   have:=F.inb (m:=crd x b - 1 - m) om om
   exact .refl this.1 this.2
 ·obtain⟨q1,q2,q3,q4,q5,q6⟩:=F.num
  have v:=F.val
  rcases h with ⟨e1,e2,e3⟩|⟨e1,e2,e3⟩|⟨e1,e2,e3⟩
  ·rw[e1,e2,e3,g3]at m1
   rw[e1,e2,g3,fe]
   clear e1 e2 e3 g3 fe
   rw[show crd x e - 1 - (crd x e - 1 - m)=m by omega,mv_e x y e a b m0 om,F.mvc m0 om]
   split
   ·rw[F.four.2.2.1.2.2]
    exact F.k2 m0 om
   ·have l1:=F.k6 (m:=crd x a - crd x e+m) om om
    have l2:=F.k3 (m:=crd x c - 1 - m) om om
    rw[show crd x a - 1 - (crd x a - crd x e+m)=crd x e - 1 - m by omega,show crd y e - 1 - (crd x a - crd x e+m)=crd x c - 1 - m by omega]at l1
    rw[show crd x c - 1 - (crd x c - 1 - m)=m by omega]at l2
    exact l1.trans l2.symm
  ·rw[e1,e2,e3,g3]at m1
   rw[e1,e2]
   clear e1 e2 e3 g3 fe
   rw[F.mvc om om,F.mvd m0 om]
   exact(F.k3 m0 om).trans (F.k4 m0 om)
  ·rw[e1,e2,e3,g3]at m1
   rw[e1,e2,fe]
   clear e1 e2 e3 g3 fe
   rw[F.mvd om om,mv_e x y e a b om om]
   split
   ·have l1:=F.k1 (m:=crd x b - crd x e+m) om om
    have l2:=F.k4 (m:=crd x d - 1 - m) om om
    rw[show crd y e - 1 - (crd x b - crd x e+m)=crd x d - 1 - m by omega]at l1
    rw[F.four.2.2.1.2.2,show crd x b - 1 - (crd x e - 1 - m)=crd x b - crd x e+m by omega]
    exact l2.symm.trans l1
   ·rw[show crd x e - 1 - (crd x e - 1 - m)=m by omega]
    exact F.k5 m0 om
 ·have w0:=(F.C.cor hc').1
  have w1:=(F.C.cor hc'.rot).1
  have w2:=(F.C.cor hc'.rot.rot).1
  have s0:=F.same w0.1 w0.2.1 u1
  have s1:=F.same w1.1 w1.2.1 u2
  have s2:=F.same w2.1 w2.2.1 u3
  have z0:=(F.C.cor hc').2.2
  have z1:=(F.C.cor hc'.rot).2.2
  have z2:=(F.C.cor hc'.rot.rot).2.2
  have r0:=fun m=>F.mv (m:=m) w0.1 w0.2.1 u1
  have r1:=fun m=>F.mv (m:=m) w1.1 w1.2.1 u2
  clear w0 w1 w2 u1 u2 u3
  rw[r0 _ om om,r1 _ m0 om,s0]
  exact F.D.cp h m0 om
theorem Fp.count (F:Fp t s x y n e f a b c d){u v:List Int} (su:UF.Stands u (NN x:Int) (allG (prIJ t x) t.length 0)) (sv:UF.Stands v (NN y:Int) (allG (prIJ s y) s.length 0)):(UF.roots u).length=(UF.roots v).length:=by
 have G:=F.symm
 refine Nat.le_antisymm (UF.roots_le su sv (mvP x y e a b) (fun i h0 h1=>F.bds h0 h1) fun i j i0 i1 j0 j1 h=>?_) (UF.roots_le sv su (mvP y x f b c) (fun i h0 h1=>G.bds h0 h1) fun i j i0 i1 j0 j1 h=>?_)
 ·exact((F.back i0 i1).symm.trans (G.fwd h)).trans (F.back j0 j1)
 ·exact((G.back i0 i1).symm.trans (G.symm.fwd h)).trans (G.back j0 j1)
end
theorem copyOf_f (r:List Int) (h:r.length≤1048576):jL.f r=some r:=by
 unfold jL.f
 rw[Option.bind_some,ip (by simp;omega),List.nil_append]
section
open Classical
/-- The corner behind the c-th side. -/
def cr (c:Nat):Int:=cor (c / 3) (c % 3+1)
noncomputable def firstF (t:List (List Int)) (x:List Int):Nat→Nat→Option Nat
 |0,_=>none
 |d+1,c=>if fineP t x (cr c)then some c else firstF t x d (c+1)
theorem firstF_some {t:List (List Int)}{x:List Int}:∀(d c r:Nat),firstF t x d c=some r→c≤r∧r<c+d∧fineP t x (cr r)
 |0,c,r,h=>by simp[firstF]at h
 |d+1,c,r,h=>by
  rw[firstF]at h
  by_cases p:fineP t x (cr c)
  ·rw[ip p]at h
   obtain rfl:=Option.some.inj h
   exact⟨Nat.le_refl _,by omega,p⟩
  ·rw[ig p]at h
   have:=firstF_some d (c+1) r h
   exact⟨by omega,by omega,this.2.2⟩
theorem loose_l3 {t:List (List Int)}{n:Nat} (ok:TriOk t (n:Int)){u2:List Int} (S:UF.Stands u2 (3*(t.length:Int)+2) (allG (ep t) t.length 0)){x:List Int} (h:Inv t n x){a b:Nat} (ha:a<t.length) (hb:b<3){m:Nat} (hm:m<t.length):∀(d j k:Nat) (fl:Bool),j+d=3→100+d<k→
  fK.l3 k t x u2 (a:Int) (b:Int) (UF.rt u2 (En (sideOf t a b))) fl (m:Int) (j:Int)=fK.l2 (k - d - 1) t x u2 (a:Int) (b:Int) (UF.rt u2 (En (sideOf t a b))) (fl && decide (∀q,j≤q→q<3→fineB t x (cor a (b+1)) m q)) ((m+1:Nat):Int):=by
 have hs:=ok.short
 have hn:=S.len
 have n9:=ok.n9
 have h3:=ok.three hm
 have hl:((rd_L1 t (m:Int)).length:Int)=3:=by rw[rdL_nat t m hm,h3];rfl
 have hx:(x.length:Int)=(n:Int):=by have:=h.len;omega
 have epm:∀a b:Nat,a<t.length→b<3→UF.Cls (3*(t.length:Int)+2) (allG (ep t) t.length 0) (En (sideOf t a b)) (fm t (cor a (b+1))):=by
  intro a b ha hb
  rw[fm_cor]
  exact .pair ((mem_allG _ _).2 ⟨a,by omega,by omega,b,hb,by simp[ep]⟩) (En_bd ok ha b).1 (En_bd ok ha b).2 (Bg_bd ok ha (b+1)).1 (Bg_bd ok ha (b+1)).2
 intro d
 induction d with
 |zero=>
  intro j k fl hj hk
  obtain⟨k,rfl⟩:=sk k
  simp only[fK.l3]
  rw[ig om,w_n (m:=m+1) om om,decide_eq_true (fun q h1 h2=>absurd h1 om),Bool.and_true]
  rfl
 |succ d ih=>
  intro j k fl hj hk
  obtain⟨k,rfl⟩:=sk k
  have ih1:=ih (j+1) k fl om om
  have ih2:=ih (j+1) k false om om
  have hk':k+1 - (d+1) - 1=k - d - 1:=by omega
  have x1:(j:Int)<3:=by omega
  have x2:(0:Int)≤(m:Int):=by omega
  have x3:(m:Int)<(t.length:Int):=by omega
  have x4:(0:Int)≤(j:Int):=by omega
  have x5:j<3:=by omega
  have hs1:=sideOf_in ok hm j
  have bE:=En_bd ok hm j
  have bv:=En_bd ok ha b
  have f1:=find3_f S.ok bE.1 (m:=k) om om
  have y1:=l3Abs_eq (a:=sideOf t m j) om om
  have sm:UF.rt u2 (En (sideOf t m j))=UF.rt u2 (En (sideOf t a b))↔SameV t (cor m (j+1)) (cor a (b+1)):=by
   rw[S.same_iff bE bv]
   unfold SameV
   rw[cls_fm ok (cor_bd hm (j+1)) (cor_bd ha (b+1))]
   exact⟨fun h=>(epm m j hm x5).symm.trans (h.trans (epm a b ha hb)),fun h=>(epm m j hm x5).trans (h.trans (epm a b ha hb).symm)⟩
  have tq:=twice_tw ok hx h.cs hm j x5
  have split:(∀q,j≤q→q<3→fineB t x (cor a (b+1)) m q)↔fineB t x (cor a (b+1)) m j∧∀q,j+1≤q→q<3→fineB t x (cor a (b+1)) m q:=by
   constructor
   ·exact fun h=>⟨h j (Nat.le_refl _) x5,fun q h1 h2=>h q om h2⟩
   ·rintro ⟨h1,h2⟩ q h3 h4
    by_cases e:q=j
    ·subst e;exact h1
    ·exact h2 q om h4
  have w1:wrap64 ((j:Int)+1)=((j+1:Nat):Int):=w_n om om
  have v1:wrap64 (wrap64 (2*((sideOf t m j).natAbs:Int))+(if decide (sideOf t m j>0)=true then 1 else 0))=En (sideOf t m j):=by
   clear w1
   rw[w_id (a:=2*((sideOf t m j).natAbs:Int)) om om]
   unfold En
   by_cases c:sideOf t m j>0
   ·rw[ip (decide_eq_true c),ip c,w_id om om]
   ·rw[ig (by simpa using c),ig c,w_id om om]
  simp only[fK.l3]
  rw[ip x1,ip x2,ip x3,ip x4,hl,ip x1,rd_at ok hm x5,y1,Option.bind_some,bit_eq,Option.bind_some,v1,f1,Option.bind_some,w1,hk']
  by_cases p:SameV t (cor m (j+1)) (cor a (b+1))
  ·rw[ip (sm.2 p),tq,Option.bind_some]
   by_cases b2:tw t x m j<2
   ·rw[ip b2,ih2,Bool.false_and,decide_eq_false (fun hq=>by have:=(split.1 hq).1 p;omega),Bool.and_false]
   ·rw[ig b2,ih1]
    have hf:fineB t x (cor a (b+1)) m j:=fun _=>by omega
    congr 2
    exact decide_eq_decide.2 ⟨fun r=>split.2 ⟨hf,r⟩,fun r=>(split.1 r).2⟩
  ·rw[ig (fun e=>p (sm.1 e)),ih1]
   have hf:fineB t x (cor a (b+1)) m j:=fun e=>absurd e p
   congr 2
   exact decide_eq_decide.2 ⟨fun r=>split.2 ⟨hf,r⟩,fun r=>(split.1 r).2⟩
theorem loose_l2 {t:List (List Int)}{n:Nat} (ok:TriOk t (n:Int)){u2:List Int} (S:UF.Stands u2 (3*(t.length:Int)+2) (allG (ep t) t.length 0)){x:List Int} (h:Inv t n x){a b:Nat} (ha:a<t.length) (hb:b<3):∀(d m k:Nat) (fl:Bool),m+d=t.length→200+5*d<k→
  fK.l2 k t x u2 (a:Int) (b:Int) (UF.rt u2 (En (sideOf t a b))) fl (m:Int)=if(fl && decide (∀q,m≤q→q<t.length→∀j,j<3→fineB t x (cor a (b+1)) q j))=true then some ((a:Int),(b:Int))else fK.l1 (k - 5*d - 1) t x u2 (a:Int) ((b+1:Nat):Int):=by
 intro d
 induction d with
 |zero=>
  intro m k fl hm hk
  obtain⟨k,rfl⟩:=sk k
  simp only[fK.l2]
  rw[ig om,decide_eq_true (fun q h1 h2=>absurd h1 om),Bool.and_true,w_n (m:=b+1) om om]
  rfl
 |succ d ih=>
  intro m k fl hm hk
  obtain⟨k,rfl⟩:=sk k
  have hm':m<t.length:=by omega
  have e1:=loose_l3 ok S h ha hb hm' 3 0 k fl om om
  have e2:=ih (m+1) (k - 3 - 1) (fl && decide (∀q,0≤q→q<3→fineB t x (cor a (b+1)) m q)) om om
  have hk':k - 3 - 1 - 5*d - 1=k+1 - 5*(d+1) - 1:=by omega
  have e1':fK.l3 k t x u2 (a:Int) (b:Int) (UF.rt u2 (En (sideOf t a b))) fl (m:Int) 0=_:=e1
  simp only[fK.l2]
  rw[ip om,e1',e2,hk',Bool.and_assoc]
  have he:(decide (∀q,0≤q→q<3→fineB t x (cor a (b+1)) m q) && decide (∀q,m+1≤q→q<t.length→∀j,j<3→fineB t x (cor a (b+1)) q j))=decide (∀q,m≤q→q<t.length→∀j,j<3→fineB t x (cor a (b+1)) q j):=by
   rw[←Bool.decide_and]
   apply decide_eq_decide.2
   constructor
   ·rintro ⟨h1,h2⟩ q h3 h4 j hj
    by_cases e:q=m
    ·subst e;exact h1 j (Nat.zero_le _) hj
    ·exact h2 q om h4 j hj
   ·exact fun hh=>⟨fun q _ hq=>hh m (Nat.le_refl _) hm' q hq,fun q h1 h2=>hh q om h2⟩
  rw[he]
def lres:Option Nat→Int × Int
 |none=>(-1, -1)
 |some c=>(((c / 3:Nat):Int),((c % 3:Nat):Int))
theorem loose_l1 {t:List (List Int)}{n:Nat} (ok:TriOk t (n:Int)){u2:List Int} (S:UF.Stands u2 (3*(t.length:Int)+2) (allG (ep t) t.length 0)){x:List Int} (h:Inv t n x):∀(d c k:Nat),c+d=3*t.length→0<d→1000+50*d<k→
  fK.l1 k t x u2 ((c / 3:Nat):Int) ((c % 3:Nat):Int)=some (lres (firstF t x d c)):=by
 have hs:=ok.short
 have hn:=S.len
 have n9:=ok.n9
 intro d
 induction d with
 |zero=>intro c k _ h0;exact absurd h0 om
 |succ d ih=>
  intro c k hc _ hk
  obtain⟨k,rfl⟩:=sk k
  have ha:c / 3<t.length:=by omega
  have hb:c % 3<3:=by omega
  have h3:=ok.three ha
  have hl:((rd_L1 t ((c / 3:Nat):Int)).length:Int)=3:=by rw[rdL_nat t _ ha,h3];rfl
  have hs1:=sideOf_in ok ha (c % 3)
  have bE:=En_bd ok ha (c % 3)
  have f1:=find3_f S.ok bE.1 (m:=k) om om
  have y1:=l3Abs_eq (a:=sideOf t (c / 3) (c % 3)) om om
  have x1:((c % 3:Nat):Int)<3:=by omega
  have x2:(0:Int)≤((c / 3:Nat):Int):=by omega
  have x3:((c / 3:Nat):Int)<(t.length:Int):=by omega
  have x4:(0:Int)≤((c % 3:Nat):Int):=by omega
  have v1:wrap64 (wrap64 (2*((sideOf t (c / 3) (c % 3)).natAbs:Int))+(if decide (sideOf t (c / 3) (c % 3)>0)=true then 1 else 0))=En (sideOf t (c / 3) (c % 3)):=by
   rw[w_id (a:=2*((sideOf t (c / 3) (c % 3)).natAbs:Int)) om om]
   unfold En
   by_cases c':sideOf t (c / 3) (c % 3)>0
   ·rw[ip (decide_eq_true c'),ip c',w_id om om]
   ·rw[ig (by simpa using c'),ig c',w_id om om]
  have e2:=loose_l2 ok S h ha hb t.length 0 k true om om
  have e2':fK.l2 k t x u2 ((c / 3:Nat):Int) ((c % 3:Nat):Int) (UF.rt u2 (En (sideOf t (c / 3) (c % 3)))) true 0=_:=e2
  have nxt:¬fineP t x (cr c)→fK.l1 (k - 5*t.length - 1) t x u2 ((c / 3:Nat):Int) ((c % 3+1:Nat):Int)=some (lres (firstF t x d (c+1))):=by
   intro _
   by_cases r:c % 3+1<3
   ·have e3:=ih (c+1) (k - 5*t.length - 1) om om om
    rw[show(c+1) / 3=c / 3 by omega,show(c+1) % 3=c % 3+1 by omega]at e3
    exact e3
   ·obtain⟨k2,hk2⟩:∃m,k - 5*t.length - 1=m+2:=⟨k - 5*t.length - 3,by omega⟩
    rw[hk2,show k2+2=(k2+1)+1 from rfl]
    conv=>lhs;unfold fK.l1
    rw[ig om,show wrap64 (((c / 3:Nat):Int)+1)=((c / 3+1:Nat):Int)from w_n om om]
    conv=>lhs;unfold fK.l0
    by_cases z:d=0
    ·subst z
     rw[ig om]
     rfl
    ·rw[ip om]
     have e3:=ih (c+1) k2 om om om
     rw[show(c+1) / 3=c / 3+1 by omega,show(c+1) % 3=0 by omega]at e3
     exact e3
  conv=>lhs;unfold fK.l1
  rw[ip x1,ip x2,ip x3,ip x4,hl,ip x1,rd_at ok ha hb,y1,Option.bind_some,bit_eq,Option.bind_some,v1,f1,Option.bind_some,e2',Bool.true_and,firstF]
  by_cases p:fineP t x (cr c)
  ·have hh:∀(q:Nat),0≤q→q<t.length→∀(j:Nat),j<3→fineB t x (cor (c / 3) (c % 3+1)) q j:=fun q _ hq=>p q hq
   rw[ip (decide_eq_true hh),ip p]
   rfl
  ·have hh:¬(∀(q:Nat),0≤q→q<t.length→∀(j:Nat),j<3→fineB t x (cor (c / 3) (c % 3+1)) q j):=fun hh=>p (fun q hq=>hh q (Nat.zero_le _) hq)
   rw[ig (by rw[decide_eq_true_iff];exact hh),ig p]
   exact nxt p
theorem loose_f {t:List (List Int)}{n:Nat} (ok:TriOk t (n:Int)){x:List Int} (h:Inv t n x) (k:Nat) (hk:3000<k):fK.f k t x=some (lres (firstF t x (3*t.length) 0)):=by
 obtain⟨u2,e,S⟩:=ends_f ok k om
 have hs:=ok.short
 obtain⟨k,rfl⟩:=sk k
 unfold fK.f
 rw[e,Option.bind_some]
 conv=>lhs;unfold fK.l0
 rw[ip om]
 exact loose_l1 ok S h (3*t.length) 0 k om om om
end
def mixL (x y:List Int) (e:Nat):List Int:=(subL x y).take e ++ x.drop e
theorem mixL_len {x y:List Int} (h:x.length=y.length){e:Nat} (he:e≤x.length):(mixL x y e).length=x.length:=by
 unfold mixL
 rw[List.length_append,List.length_take,List.length_drop,subL_len x y h]
 omega
theorem mixL_at {x y:List Int} (h:x.length=y.length){e:Nat} (he:e<x.length) (h2:e<(mixL x y e).length):(mixL x y e)[e]=x[e]:=by
 have hl:((subL x y).take e).length=e:=by rw[List.length_take,subL_len x y h];omega
 have q:(mixL x y e)[e]?= x[e]?:=by
  unfold mixL
  rw[List.getElem?_append_right om,hl,Nat.sub_self,List.getElem?_drop,Nat.add_zero]
 rw[List.getElem?_eq_getElem h2,List.getElem?_eq_getElem he]at q
 exact Option.some.inj q
theorem mixL_set {x y:List Int} (h:x.length=y.length){e:Nat} (he:e<x.length) (h2:e<y.length):(mixL x y e).set e (x[e] - y[e])=mixL x y (e+1):=by
 have hl:((subL x y).take e).length=e:=by rw[List.length_take,subL_len x y h];omega
 have hs:e<(subL x y).length:=by rw[subL_len x y h];exact he
 unfold mixL
 rw[List.set_append,ig om,hl,Nat.sub_self,List.drop_eq_getElem_cons he,List.set_cons_zero,List.take_succ_eq_append_getElem hs,List.append_assoc,subL_at x y e h he h2 hs]
 rfl
theorem mixL_end {x y:List Int} (h:x.length=y.length):mixL x y x.length=subL x y:=by
 unfold mixL
 rw[List.drop_length,List.append_nil,List.take_of_length_le (by rw[subL_len x y h];exact Nat.le_refl _)]
theorem pP (t:List (List Int)) (x y:List Int) (h:x.length=y.length) (hx:x.length≤100) (hb:∀(i:Nat) (h1:i<x.length) (h2:i<y.length), -1000≤x[i] - y[i]∧x[i] - y[i]≤1000):∀(d e k:Nat),e+d=x.length→d<k→fJ.l1 k t (mixL x y e) y (e:Int)=fJ.l0 (k - d - 1) t (subL x y):=by
 intro d
 induction d with
 |zero=>
  intro e k he hk
  obtain⟨k,rfl⟩:=sk k
  simp only[fJ.l1]
  rw[mixL_len h om,ig om,show e=x.length by omega,mixL_end h]
  rfl
 |succ d ih=>
  intro e k he hk
  obtain⟨k,rfl⟩:=sk k
  have h1:e<x.length:=by omega
  have h2:e<y.length:=by omega
  have h3:e<(mixL x y e).length:=by rw[mixL_len h om];exact h1
  have hw:=hb e h1 h2
  simp only[fJ.l1]
  rw[mixL_len h om,ip om,ip om,ip om,rd_nat _ e h3,rd_nat y e h2,mixL_at h h1 h3,w_id (a:=x[e] - y[e]) om om,Int.toNat_natCast,mixL_set h h1 h2,show wrap64 ((e:Int)+1)=((e+1:Nat):Int)from w_n om om,ih (e+1) k om om,show k+1 - (d+1) - 1=k - d - 1 by omega]
theorem ring_co {t:List (List Int)}{n:Nat}{c:Int}:(aroundR t n c).all co=true:=by
 rw[List.all_eq_true]
 intro a ha
 unfold aroundR at ha
 obtain⟨q,_,rfl⟩:=List.mem_map.1 ha
 have:=valE_bd t c ((q:Int)+1)
 unfold co
 rw[decide_eq_true_iff]
 omega
theorem isF_of {t:List (List Int)}{x:List Int}{n:Int} (C:Cx t x n) (hT:isT t=true) (he:edges t=n):isF t x=true:=by
 unfold isF
 rw[hT,he,decide_eq_true C.hx,C.hc]
 simp only[Bool.true_and]
 exact List.all_eq_true.2 C.hf
/-- r is what is left of x. -/
inductive DownR (t:List (List Int)) (n:Nat):List Int→List Int→Prop
 |done {x:List Int} (h:firstF t x (3*t.length) 0=none):DownR t n x x
 |step {x r:List Int}{q:Nat} (h:firstF t x (3*t.length) 0=some q) (k:DownR t n (subL x (aroundR t n (cr q))) r):DownR t n x r
theorem DownR.last {t:List (List Int)}{n:Nat}{x r:List Int} (h:DownR t n x r):firstF t r (3*t.length) 0=none:=by
 induction h with
 |done h=>exact h
 |step _ _ ih=>exact ih
theorem run_down {t:List (List Int)}{n:Nat} (ok:TriOk t (n:Int)):∀(s:Nat) (x:List Int),Inv t n x→sumP x≤s→∃r:List Int,DownR t n x r∧∀k,3001000+100*s<k→fJ.l0 k t x=some (r,true):=by
 have hs:=ok.short
 have n9:=ok.n9
 have stop:∀(x:List Int),Inv t n x→firstF t x (3*t.length) 0=none→∀k,3001000<k→fJ.l0 k t x=some (x,true):=by
  intro x h hF k hk
  obtain⟨k,rfl⟩:=sk k
  simp only[fJ.l0]
  rw[loose_f ok h k om,Option.bind_some,hF]
  rfl
 intro s
 induction s with
 |zero=>
  intro x h h0
  cases hF:firstF t x (3*t.length) 0 with
  |some r=>
   obtain⟨f1,f2,f3⟩:=firstF_some _ _ _ hF
   have st:=h.step ok (k0:=r / 3) (i0:=r % 3) om om f3
   have:=sumP_nn _ (fun a ha=>(co_at st.1.cs ha).1)
   omega
  |none=>exact⟨x, .done hF,fun k hk=>stop x h hF k om⟩
 |succ s ih=>
  intro x h h0
  cases hF:firstF t x (3*t.length) 0 with
  |some r=>
   obtain⟨f1,f2,f3⟩:=firstF_some _ _ _ hF
   have hra:r / 3<t.length:=by omega
   have st:=h.step ok (k0:=r / 3) (i0:=r % 3) hra om f3
   have hl:x.length=(aroundR t n (cr r)).length:=by rw[aroundR_len];exact h.len
   have hxl:=h.len
   have hb:∀(i:Nat) (h1:i<x.length) (h2:i<(aroundR t n (cr r)).length), -1000≤x[i] - (aroundR t n (cr r))[i]∧x[i] - (aroundR t n (cr r))[i]≤1000:=by
    intro i h1 h2
    have a1:=co_at h.cs (List.getElem_mem h1)
    have a2:=co_at (ring_co (t:=t) (n:=n) (c:=cr r)) (List.getElem_mem h2)
    omega
   obtain⟨rr,i1,i2⟩:=ih _ st.1 om
   refine⟨rr, .step hF i1,fun k hk=>?_⟩
   obtain⟨k,rfl⟩:=sk k
   simp only[fJ.l0]
   have sa:=mJ ok (i:=r / 3) (j:=r % 3) hra om k om
   have e:=pP t x (aroundR t n (cr r)) hl om hb x.length 0 k om om
   have e':fJ.l1 k t x (aroundR t n (cr r)) 0=fJ.l0 (k - x.length - 1) t (subL x (aroundR t n (cr r))):=e
   have nn:¬((lres (some r)).1<0):=by
    show ¬(((r / 3:Nat):Int)<0)
    omega
   rw[loose_f ok h k om,Option.bind_some,hF,ig nn]
   show(gL.f k t ((r / 3:Nat):Int) ((r % 3:Nat):Int)).bind _=_
   rw[sa,Option.bind_some]
   exact e'.trans (i2 _ om)
  |none=>exact⟨x, .done hF,fun k hk=>stop x h hF k om⟩
theorem addL_subL:∀(x y:List Int),x.length=y.length→addL (subL x y) y=x
 |[],[],_=>rfl
 |[],_ :: _,h=>by simp at h
 |_ :: _,[],h=>by simp at h
 |a :: x,b :: y,h=>by
  have:=addL_subL x y (by simpa using h)
  simp[subL,addL,this]
theorem Cx.inv {t:List (List Int)}{n:Nat}{x:List Int} (C:Cx t x (n:Int)):Inv t n x:=
 ⟨by have:=C.hx;omega,C.hc,fun i hi j hj=>(C.arc hi j hj).2.1⟩
theorem fair_sub {t:List (List Int)}{x:List Int}{n:Nat}{c:Int} (C:Cx t x (n:Int)) (h:Inv t n (subL x (aroundR t n c))):Cx t (subL x (aroundR t n c)) (n:Int):=by
 have ok:=C.ok
 have hx:=C.hx
 have hl:x.length=(aroundR t n c).length:=by rw[aroundR_len];omega
 have hl2:(subL x (aroundR t n c)).length=(aroundR t n c).length:=by rw[subL_len _ _ hl,hl]
 have he:=addL_subL x (aroundR t n c) hl
 refine⟨ok,by rw[h.len],h.cs,fun r hr=>?_⟩
 obtain⟨i,hi,rfl⟩:=List.mem_iff_getElem.1 hr
 obtain⟨a,b,d,e,_⟩:=ok.i64 (List.getElem_mem hi)
 have hf:=C.hf t[i] (List.getElem_mem hi)
 obtain⟨s0,s1,s2,s3,s4⟩:=sideOf_eq hi e
 have z0:=sideOf_in ok hi 0
 have z1:=sideOf_in ok hi 1
 have z2:=sideOf_in ok hi 2
 have e0:crd x (sideOf t i 0)=crd (subL x (aroundR t n c)) (sideOf t i 0)+(vind t c (cor i 0)+vind t c (cor i 1)):=by
  have:=crd_add hl2 z0.1 om
  rwa [he,around_side ok c hi 0]at this
 have e1:crd x (sideOf t i 1)=crd (subL x (aroundR t n c)) (sideOf t i 1)+(vind t c (cor i 1)+vind t c (cor i 2)):=by
  have:=crd_add hl2 z1.1 om
  rwa [he,around_side ok c hi 1]at this
 have e2:crd x (sideOf t i 2)=crd (subL x (aroundR t n c)) (sideOf t i 2)+(vind t c (cor i 2)+vind t c (cor i 0)):=by
  have:=crd_add hl2 z2.1 om
  rwa [he,around_side ok c hi 2, ←cor_mod i (2+1),show(2+1) % 3=0 by omega]at this
 have g0:=h.ge i hi 0 om
 have g1:=h.ge i hi 1 om
 have g2:=h.ge i hi 2 om
 unfold tw at g0 g1 g2
 rw[s0,show(0+1)=1 from rfl,s1,show(0+2)=2 from rfl,s2]at g0
 rw[s1,show(1+1)=2 from rfl,s2,show(1+2)=3 from rfl,s3]at g1
 rw[s2,show(2+1)=3 from rfl,s3,show(2+2)=4 from rfl,s4]at g2
 rw[s0]at e0
 rw[s1]at e1
 rw[s2]at e2
 rw[e]at hf ⊢
 simp only[fairRow,decide_eq_true_iff]at hf ⊢
 omega
/-- A number for each beginning of a side, the same around each vertex. -/
def Around (t:List (List Int)) (g:Int→Int):Prop:=∀u v w,Cor t u v w→g (-u)=g v
/-- r and curves around vertices are x. -/
structure Off (t:List (List Int)) (x r:List Int) (n:Nat) (g:Int→Int):Prop where
 inv:Around t g
 nn:∀u,0≤g u
 add:∀u,u≠0→u.natAbs≤n→crd x u=crd r u+g u+g (-u)
/-- No curve around a vertex can be taken away. -/
def Plain (t:List (List Int)) (r:List Int):Prop:=∀g:Int→Int,Around t g→(∀u,0≤g u)→(∀u v w,Cor t u v w→2*g v≤crd r u+crd r v - crd r w)→∀u v w,Cor t u v w→g v=0
section
variable {t s:List (List Int)}{x y r q:List Int}{n:Nat}{a b c d e f:Int}{g h:Int→Int}
theorem side_cor (ok:TriOk t (n:Int)){u:Int} (h0:u≠0) (h1:u.natAbs≤n):∃v w,Cor t w u v:=by
 obtain⟨i,j,hi,hj,_,e⟩:=ok.side (x:=u) h0 om om
 have:Cor t u (sideOf t i (j+1)) (sideOf t i (j+2)):=⟨i,j,hi,hj,e,rfl,rfl⟩
 exact⟨_,_,this.rot.rot⟩
theorem Off.tw (C:Cx t x (n:Int)) (O:Off t x r n g){u v w:Int} (h:Cor t u v w):crd x u+crd x v - crd x w=crd r u+crd r v - crd r w+2*g v:=by
 have w0:=(C.cor h).1
 have w1:=(C.cor h.rot).1
 have w2:=(C.cor h.rot.rot).1
 have e0:=O.add u w0.1 w0.2.1
 have e1:=O.add v w1.1 w1.2.1
 have e2:=O.add w w2.1 w2.2.1
 have i0:=O.inv _ _ _ h
 have i1:=O.inv _ _ _ h.rot
 have i2:=O.inv _ _ _ h.rot.rot
 omega
theorem off_le (B:Cx t x (n:Int)) (C:Cx t r (n:Int)) (D:Cx t q (n:Int)) (O:Off t x r n g) (O2:Off t x q n h) (P:Plain t r){u v w:Int} (hc:Cor t u v w):h v≤g v:=by
 have:=P (fun u=>if h u - g u>0 then h u - g u else 0) (fun u v w k=>by
  have a1:=O.inv _ _ _ k
  have a2:=O2.inv _ _ _ k
  show(if h (-u) - g (-u)>0 then h (-u) - g (-u)else 0)=(if h v - g v>0 then h v - g v else 0)
  rw[a1,a2]) (fun u=>by
  show 0≤(if h u - g u>0 then h u - g u else 0)
  split <;> omega) (fun u v w k=>by
  show 2*(if h v - g v>0 then h v - g v else 0)≤_
  have a1:=O.tw B k
  have a2:=O2.tw B k
  have a3:=(C.cor k).2.2
  have a4:=(D.cor k).2.2
  split <;> omega) u v w hc
 have e:(if h v - g v>0 then h v - g v else 0)=0:=this
 split at e <;> omega
theorem off_one (B:Cx t x (n:Int)) (C:Cx t r (n:Int)) (D:Cx t q (n:Int)) (O:Off t x r n g) (O2:Off t x q n h) (P:Plain t r) (P2:Plain t q):r=q:=by
 have l1:=C.hx
 have l2:=D.hx
 refine List.ext_getElem om fun i h1 h2=>?_
 have key:∀u,u≠0→u.natAbs≤n→g u=h u:=fun u u0 u1=>by
  obtain⟨v,w,k⟩:=side_cor C.ok u0 u1
  have:=off_le B C D O O2 P k
  have:=off_le B D C O2 O P2 k
  omega
 have k1:=key ((i:Int)+1) om om
 have k2:=key (-((i:Int)+1)) om om
 have a1:=O.add ((i:Int)+1) om om
 have a2:=O2.add ((i:Int)+1) om om
 rw[←crd_nat (x:=r) (s:=(i:Int)+1) (e:=i) om h1, ←crd_nat (x:=q) (s:=(i:Int)+1) (e:=i) om h2]
 omega
/-- The numbers behind a flip. -/
def trG (g:Int→Int) (f b d:Int) (u:Int):Int:=if u=f then g d else if u= -f then g b else g u
theorem trG_o (g:Int→Int){f b d u:Int} (h:u.natAbs≠f.natAbs):trG g f b d u=g u:=by
 unfold trG
 rw[ig om,ig om]
theorem trG_f (g:Int→Int){f b d:Int}:trG g f b d f=g d:=by
 unfold trG
 rw[ip rfl]
theorem trG_n (g:Int→Int){f b d:Int} (h:f≠0):trG g f b d (-f)=g b:=by
 unfold trG
 rw[ig om,ip rfl]
theorem Fp.tr (F:Fp t s x y n e f a b c d) (g:Int→Int) (p q:Int){u:Int} (h:u.natAbs≠e.natAbs):trG g f p q u=g u∧trG g f p q (-u)=g (-u):=by
 have:=F.nf.1
 exact⟨trG_o g (by rw[this];exact h),trG_o g (by rw[this,Int.natAbs_neg];exact h)⟩
/-- Around the four sides of t. -/
theorem Fp.eqs (F:Fp t s x y n e f a b c d) (I:Around t g):g (-e)=g a∧g (-a)=g b∧g (-b)=g e∧g e=g c∧g (-c)=g d∧g (-d)=g (-e):=by
 have i4:=I _ _ _ F.c2
 rw[Int.neg_neg]at i4
 exact⟨I _ _ _ F.c1,I _ _ _ F.c1.rot,I _ _ _ F.c1.rot.rot,i4,I _ _ _ F.c2.rot,I _ _ _ F.c2.rot.rot⟩
theorem Fp.inv (F:Fp t s x y n e f a b c d) (I:Around t g):Around s (trG g f b d):=by
 obtain⟨i1,i2,i3,i4,i5,i6⟩:=F.eqs I
 have f0:=F.nf.2.1
 intro u v w k
 rcases F.ss u v w k with h|h|⟨u1,u2,u3,h⟩
 ·rcases h with ⟨e1,e2,e3⟩|⟨e1,e2,e3⟩|⟨e1,e2,e3⟩
  ·rw[e1,e2,trG_n g f0,(F.tr g b d F.na.2.1).1]
  ·rw[e1,e2,(F.tr g b d F.na.2.1).2,(F.tr g b d F.na.2.2.1).1,i3,i4]
  ·rw[e1,e2,trG_f,(F.tr g b d F.na.2.2.1).2,i5]
 ·rcases h with ⟨e1,e2,e3⟩|⟨e1,e2,e3⟩|⟨e1,e2,e3⟩
  ·rw[e1,e2,Int.neg_neg,trG_f,(F.tr g b d F.na.2.2.2).1]
  ·rw[e1,e2,(F.tr g b d F.na.2.2.2).2,(F.tr g b d F.na.1).1,i6,i1]
  ·rw[e1,e2,trG_n g f0,(F.tr g b d F.na.1).2,i2]
 ·rw[(F.tr g b d u1).2,(F.tr g b d u2).1]
  exact I _ _ _ h
theorem trG_nn (hg:∀u,0≤g u) (f b d:Int):∀u,0≤trG g f b d u:=by
 intro u
 unfold trG
 split
 ·exact hg _
 ·split <;> exact hg _
theorem off_ar {xe ye xa xb xc xd re qe ra rb rc rd ga gb gc gd na nb nc' nd ge ne:Int} (I:ne=ga∧na=gb∧nb=ge∧ge=gc∧nc'=gd∧nd=ne) (v1:(xe+ye=xa+xc∧xb+xd≤xa+xc)∨(xe+ye=xb+xd∧xa+xc≤xb+xd)) (v2:(re+qe=ra+rc∧rb+rd≤ra+rc)∨(re+qe=rb+rd∧ra+rc≤rb+rd)) (q1:xa=ra+ga+na) (q2:xb=rb+gb+nb) (q3:xc=rc+gc+nc') (q4:xd=rd+gd+nd) (q5:xe=re+ge+ne):ye=qe+gd+gb:=by omega
theorem Fp.off (F:Fp t s x y n e f a b c d) (G:Fp t s r q n e f a b c d) (O:Off t x r n g):Off s y q n (trG g f b d):=by
 obtain⟨hf,f0,e0⟩:=F.nf
 refine⟨F.inv O.inv,trG_nn O.nn f b d,fun u u0 u1=>?_⟩
 by_cases k:u.natAbs=e.natAbs
 ·have key:=off_ar (F.eqs O.inv) F.val G.val (O.add a F.four.2.1.1 F.four.2.1.2.1) (O.add b F.four.2.2.1.1 F.four.2.2.1.2.1) (O.add c F.four.2.2.2.1.1 F.four.2.2.2.1.2.1) (O.add d F.four.2.2.2.2.1 F.four.2.2.2.2.2.1) (O.add e F.four.1.1 F.four.1.2)
  rw[crd_abs y k,crd_abs q k]
  have hh:u=f∨u= -f:=by omega
  rcases hh with h|h
  ·rw[h,trG_f,trG_n g f0]
   exact key
  ·rw[h,Int.neg_neg,trG_f,trG_n g f0,key]
   omega
 ·rw[(F.tr g b d k).1,(F.tr g b d k).2, ←F.same u0 u1 k, ←G.same u0 u1 k]
  exact O.add u u0 u1
theorem plain_ar {E F A B C D ga gb gc gd:Int} (v:(E+F=A+C∧B+D≤A+C)∨(E+F=B+D∧A+C≤B+D)) (j1:2*gb≤F+B - C) (j2:2*gc≤B+C - F) (j3:2*gd≤C+F - B) (j4:2*gd≤F+D - A) (j5:2*ga≤D+A - F) (j6:2*gb≤A+F - D):
  2*ga≤E+A - B∧2*gb≤A+B - E∧2*gc≤B+E - A∧2*gc≤E+C - D∧2*gd≤C+D - E∧2*ga≤D+E - C:=by omega
theorem Fp.plain (G:Fp t s r q n e f a b c d) (P:Plain t r):Plain s q:=by
 intro g I nn le
 have H:=G.symm
 obtain⟨hf,f0,e0⟩:=G.nf
 have g1:=crd_abs q hf
 have g2:=G.ng.1
 have g3:crd r (-e)=crd r e:=by unfold crd;rw[Int.natAbs_neg]
 obtain⟨i1,i2,i3,i4,i5,i6⟩:=H.eqs I
 have key:2*g a≤crd r e+crd r a - crd r b∧2*g b≤crd r a+crd r b - crd r e∧2*g c≤crd r b+crd r e - crd r a∧2*g c≤crd r e+crd r c - crd r d∧2*g d≤crd r c+crd r d - crd r e∧2*g a≤crd r d+crd r e - crd r c:=by
  have j1:=le _ _ _ G.d1
  have j2:=le _ _ _ G.d1.rot
  have j3:=le _ _ _ G.d1.rot.rot
  have j4:=le _ _ _ G.d2
  have j5:=le _ _ _ G.d2.rot
  have j6:=le _ _ _ G.d2.rot.rot
  rw[g1,G.four.2.2.1.2.2,G.four.2.2.2.1.2.2]at j1 j2 j3
  rw[g2,G.four.2.1.2.2,G.four.2.2.2.2.2.2]at j4 j5 j6
  rw[i4]at j3
  rw[i1]at j6
  exact plain_ar G.val j1 j2 j3 j4 j5 j6
 have z:=P (trG g (-e) c a) (H.inv I) (trG_nn nn _ _ _) (fun u v w k=>by
  have ee:trG g (-e) c a e=g c:=by
   have:=trG_n g (f:= -e) (b:=c) (d:=a) om
   rwa [Int.neg_neg]at this
  have oo:∀ {u:Int},u.natAbs≠e.natAbs→trG g (-e) c a u=g u:=fun h=>trG_o g (by rw[Int.natAbs_neg];exact h)
  rcases G.tt u v w k with h|h|⟨u1,u2,u3,h⟩
  ·rcases h with ⟨e1,e2,e3⟩|⟨e1,e2,e3⟩|⟨e1,e2,e3⟩
   ·rw[e1,e2,e3,oo G.na.1]
    exact key.1
   ·rw[e1,e2,e3,oo G.na.2.1]
    exact key.2.1
   ·rw[e1,e2,e3,ee]
    exact key.2.2.1
  ·rcases h with ⟨e1,e2,e3⟩|⟨e1,e2,e3⟩|⟨e1,e2,e3⟩
   ·rw[e1,e2,e3,g3,oo G.na.2.2.1]
    exact key.2.2.2.1
   ·rw[e1,e2,e3,g3,oo G.na.2.2.2]
    exact key.2.2.2.2.1
   ·rw[e1,e2,e3,g3,trG_f]
    exact key.2.2.2.2.2
  ·have w0:=(G.C.cor k).1
   have w1:=(G.C.cor k.rot).1
   have w2:=(G.C.cor k.rot.rot).1
   rw[oo u2,G.same w0.1 w0.2.1 u1,G.same w1.1 w1.2.1 u2,G.same w2.1 w2.2.1 u3]
   exact le _ _ _ h)
 have old:∀v,v≠0→v.natAbs≤n→v.natAbs≠e.natAbs→g v=0:=fun v v0 v1 v2=>by
  obtain⟨u,w,k⟩:=side_cor G.C.ok v0 v1
  have:=z _ _ _ k
  rwa [trG_o g (by rw[Int.natAbs_neg];exact v2)]at this
 intro u v w k
 have w1:=(G.D.cor k.rot).1
 by_cases hv:v.natAbs=e.natAbs
 ·have hh:v=f∨v= -f:=by
   clear w1 key z old
   omega
  rcases hh with h|h
  ·rw[h,i4]
   exact old d G.four.2.2.2.2.1 G.four.2.2.2.2.2.1 G.na.2.2.2
  ·rw[h,i1]
   exact old b G.four.2.2.1.1 G.four.2.2.1.2.1 G.na.2.1
 ·exact old v w1.1 w1.2.1 hv
theorem bs_inv (ok:TriOk t (n:Int)) (c:Int):Around t (bs t c):=by
 rintro u v w ⟨i,j,hi,hj,rfl,rfl,rfl⟩
 rw[bs_neg ok c hi hj,bs_cor ok c hi (j+1)]
theorem DownR.off (k:DownR t n x r):Cx t x (n:Int)→∃g,Off t x r n g:=by
 induction k with
 |done h=>exact fun C=>⟨fun _=>0,fun _ _ _ _=>rfl,fun _=>Int.le_refl _,fun u _ _=>by omega⟩
 |@step x r q hF k ih=>
  intro C
  have ok:=C.ok
  have hs:=ok.short
  obtain⟨f1,f2,f3⟩:=firstF_some _ _ _ hF
  have hra:q / 3<t.length:=by omega
  have st:=C.inv.step ok (k0:=q / 3) (i0:=q % 3) hra om f3
  have hl:x.length=(aroundR t n (cr q)).length:=by rw[aroundR_len];exact C.inv.len
  have hl2:(subL x (aroundR t n (cr q))).length=(aroundR t n (cr q)).length:=by rw[subL_len _ _ hl,hl]
  have he:=addL_subL x (aroundR t n (cr q)) hl
  obtain⟨g,O⟩:=ih (fair_sub C st.1)
  refine⟨fun u=>g u+bs t (cr q) u,fun u v w k=>?_,fun u=>?_,fun u u0 u1=>?_⟩
  ·have:=O.inv _ _ _ k
   have:=bs_inv ok (cr q) _ _ _ k
   show g (-u)+bs t (cr q) (-u)=g v+bs t (cr q) v
   omega
  ·have:=O.nn u
   have:=(bs_bd t (cr q) u).1
   show 0≤g u+bs t (cr q) u
   omega
  ·have a1:=O.add u u0 u1
   have hln:x.length=n:=C.inv.len
   have a2:=crd_add hl2 u0 om
   rw[he,ring_side ok (cr q) u0 om om]at a2
   show crd x u=crd r u+(g u+bs t (cr q) u)+(g (-u)+bs t (cr q) (-u))
   omega
theorem DownR.cx (k:DownR t n x r):Cx t x (n:Int)→Cx t r (n:Int):=by
 induction k with
 |done _=>exact id
 |@step x r q hF k ih=>
  intro C
  obtain⟨f1,f2,f3⟩:=firstF_some _ _ _ hF
  exact ih (fair_sub C (C.inv.step C.ok (k0:=q / 3) (i0:=q % 3) om om f3).1)
theorem firstF_none {t:List (List Int)}{x:List Int}:∀(d c:Nat),firstF t x d c=none→∀q,c≤q→q<c+d→¬fineP t x (cr q)
 |0,c,_,q,h0,h1=>by omega
 |d+1,c,h,q,h0,h1=>by
  unfold firstF at h
  by_cases k:fineP t x (cr c)
  ·rw[ip k]at h
   exact absurd h (by simp)
  ·rw[ig k]at h
   by_cases e:q=c
   ·rw[e];exact k
   ·exact firstF_none d (c+1) h q om om
theorem around_same (ok:TriOk t (n:Int)) (I:Around t g){p q:Int} (h:SameV t p q):g (sideOf t (p / 3).toNat (p % 3).toNat)=g (sideOf t (q / 3).toNat (q % 3).toNat):=by
 have one:∀i j:Nat,sideOf t ((cor i j) / 3).toNat ((cor i j) % 3).toNat=sideOf t i j:=fun i j=>by
  unfold cor
  rw[show((3*(i:Int)+((j % 3:Nat):Int)) / 3).toNat=i by omega,show((3*(i:Int)+((j % 3:Nat):Int)) % 3).toNat=j % 3 by omega,sideOf_mod]
 unfold SameV at h
 induction h with
 |refl _ _=>rfl
 |symm _ ih=>exact ih.symm
 |trans _ _ i1 i2=>exact i1.trans i2
 |pair h _ _ _ _=>
  obtain⟨i,_,hi,j,hj,hp⟩:=(mem_allG _ _).1 h
  have hi':i<t.length:=by omega
  obtain⟨o1,o2,o3,o4⟩:=opp_at ok hi' j
  simp only[vp,List.mem_cons,List.not_mem_nil,or_false]at hp
  rcases hp with e|e
  ·obtain⟨rfl,rfl⟩:=Prod.mk.inj e
   rw[one,one]
   have:=I _ _ _ ⟨_,_,o1,o2,rfl,rfl,rfl⟩
   rwa [o3,Int.neg_neg]at this
  ·obtain⟨rfl,rfl⟩:=Prod.mk.inj e
   rw[one,one,o3]
   exact(I _ _ _ ⟨i,j,hi',hj,rfl,rfl,rfl⟩).symm
theorem DownR.plain (ok:TriOk t (n:Int)) (k:DownR t n x r):Plain t r:=by
 intro g I nn le u v w hc
 obtain⟨i,j,hi,hj,rfl,rfl,rfl⟩:=hc
 have hl:=k.last
 have h0:=nn (sideOf t i (j+1))
 by_cases z:g (sideOf t i (j+1))=0
 ·exact z
 ·refine absurd ?_ (firstF_none _ _ hl (3*i+j) om om)
  have ec:cr (3*i+j)=cor i (j+1):=by
   unfold cr
   rw[show(3*i+j) / 3=i by omega,show(3*i+j) % 3=j by omega]
  rw[ec]
  intro m hm l hl2 hs
  have e:=around_same ok I hs
  have one:∀i j:Nat,sideOf t ((cor i j) / 3).toNat ((cor i j) % 3).toNat=sideOf t i j:=fun i j=>by
   unfold cor
   rw[show((3*(i:Int)+((j % 3:Nat):Int)) / 3).toNat=i by omega,show((3*(i:Int)+((j % 3:Nat):Int)) % 3).toNat=j % 3 by omega,sideOf_mod]
  rw[one,one]at e
  have:=le _ _ _ ⟨m,l,hm,hl2,rfl,rfl,rfl⟩
  unfold tw
  omega
/-- What PlainCurve leaves behind a flip is the flip of what it leaves. -/
theorem Fp.down (F:Fp t s x y n e f a b c d){z:List Int} (G:Fp t s r z n e f a b c d) (k:DownR t n x r) (l:DownR s n y q):z=q:=by
 obtain⟨g,O⟩:=k.off F.C
 obtain⟨h,O2⟩:=l.off F.D
 exact off_one F.D G.D (l.cx F.D) (F.off G O) O2 (G.plain (k.plain F.C.ok)) (l.plain F.D.ok)
end
theorem find_l1 (x:Int) (t:List (List Int)) (i:Nat) (hi:i<t.length) (hl:t[i].length=3):∀(d j k:Nat),j+d=3→d<k→
  fY.l1 k t x (i:Int) (j:Int)=(if 0≤idx x (t[i].drop j) (j:Int)then some ((i:Int),idx x (t[i].drop j) (j:Int))else fY.l0 (k - d - 1) t x (wrap64 ((i:Int)+1))):=by
 intro d
 induction d with
 |zero=>
  intro j k hj hk
  obtain⟨k,rfl⟩:=sk k
  simp only[fY.l1]
  rw[ig om,List.drop_of_length_le om,idx,ig om]
  rfl
 |succ d ih=>
  intro j k hj hk
  obtain⟨k,rfl⟩:=sk k
  have hlt:j<t[i].length:=by omega
  simp only[fY.l1]
  rw[ip om,ip om,ip om,ip om,rdL_nat t i hi,ip om,rd_nat _ j hlt,List.drop_eq_getElem_cons hlt,idx]
  by_cases e:t[i][j]=x
  ·rw[ip e,ip e,ip om]
  ·rw[ig e,ig e,w_id (a:=(j:Int)+1) om om,show((j:Int)+1)=((j+1:Nat):Int) by omega,ih (j+1) k om om,show k+1 - (d+1) - 1=k - d - 1 by omega]
theorem find_l0 (x:Int) (t:List (List Int)) (ht:t.length≤1048576) (hr:∀r∈t,r.length=3):∀(d k i:Nat),i+d=t.length→5*d<k→fY.l0 k t x (i:Int)=some (sideR x (t.drop i) (i:Int)):=by
 intro d
 induction d with
 |zero=>
  intro k i hi hk
  obtain⟨k,rfl⟩:=sk k
  simp only[fY.l0]
  rw[ig om,List.drop_of_length_le om]
  rfl
 |succ d ih=>
  intro k i hi hk
  obtain⟨k,rfl⟩:=sk k
  have hlt:i<t.length:=by omega
  have hl:=hr _ (List.getElem_mem hlt)
  simp only[fY.l0]
  rw[ip om]
  have:=find_l1 x t i hlt hl 3 0 k om om
  rw[List.drop_zero,show((0:Nat):Int)=0 from rfl]at this
  rw[this,List.drop_eq_getElem_cons hlt,sideR]
  by_cases e:0≤idx x t[i] 0
  ·rw[ip e,ip e]
  ·rw[ig e,ig e,w_id om om,show((i:Int)+1)=((i+1:Nat):Int) by omega,ih _ (i+1) om om]
theorem find_f (x:Int) (t:List (List Int)) (ht:t.length≤1048576) (hr:∀r∈t,r.length=3) (k:Nat) (hk:6000000<k):fY.f k t x=some (sideR x t 0):=by
 unfold fY.f
 have:=find_l0 x t ht hr t.length k 0 om om
 rw[List.drop_zero]at this
 exact this
/-- An edge's number. -/
def isE (t:List (List Int)) (e:Int):Bool:=isT t && decide (1≤e∧e≤edges t)
theorem pA (t:List (List Int)) (ht:t.length≤1048576) (e:Int) (k:Nat) (hk:6000000<k):jR.f k t e=some (isE t e):=by
 unfold jR.f isE
 rw[mD t ht k hk,Option.bind_some]
 by_cases h:isT t=true
 ·rw[ip h,l1In_eq,Option.bind_some,h]
  rfl
 ·rw[ig h]
  simp at h
  rw[h]
  rfl
/-- May an edge be flipped? -/
def canR (t:List (List Int)) (e:Int):Bool:=isE t e && ((sideR e t 0).1 != (sideR (-e) t 0).1)
theorem isE_bd {t:List (List Int)}{e:Int} (ht:t.length≤1048576) (h:isE t e=true):TriOk t (edges t)∧1≤e∧e≤edges t:=by
 unfold isE at h
 rw[Bool.and_eq_true,decide_eq_true_iff]at h
 exact⟨isT_ok ht h.1,h.2⟩
theorem mW (t:List (List Int)) (ht:t.length≤1048576) (e:Int) (k:Nat) (hk:6000000<k):jM.f k t e=some (canR t e):=by
 unfold jM.f canR
 rw[pA t ht e k hk,Option.bind_some]
 by_cases h:isE t e=true
 ·obtain⟨ok,h1,h2⟩:=isE_bd ht h
  have:=ok.n9
  rw[ip h,find_f _ t ht ok.row k hk,Option.bind_some,w_id (a:= -e) om om,find_f _ t ht ok.row k hk,Option.bind_some,h]
  rfl
 ·rw[ig h]
  simp at h
  rw[h]
  rfl
theorem mM (t:List (List Int)) (ht:t.length≤1048576) (hr:∀r∈t,r.length≤1048576) (e:Int) (k:Nat) (hk:6000001<k):gT.f k t e=some (canR t e):=by
 obtain⟨k,rfl⟩:=sk k
 unfold gT.f canR isE
 rw[jX t ht _ om,Option.bind_some,within_eq,Option.bind_some]
 simp only[gT.j0]
 by_cases h:isT t=true
 ·rw[ip h]
  by_cases h2:1≤e∧e≤edges t
  ·have ok:=isT_ok ht h
   have:=ok.n9
   rw[ig (by rw[show wrap64 (Int.tdiv (wrap64 (3*(t.length:Int))) 2)=edges t from rfl,decide_eq_true h2];decide),sideAt_f _ t ht hr k om,Option.bind_some,w_id (a:= -e) om om,sideAt_f _ t ht hr k om,Option.bind_some,h,decide_eq_true h2]
   rfl
  ·rw[ip (by rw[show wrap64 (Int.tdiv (wrap64 (3*(t.length:Int))) 2)=edges t from rfl,decide_eq_false h2];decide),decide_eq_false h2,Bool.and_false,Bool.false_and]
 ·rw[ig h,ip trivial]
  simp at h
  rw[h]
  rfl
end Go.Proofs.Ytemeiocmgbgikaa.L

namespace Go.Proofs.Ytemeiocmgbgikaa.L
open Go.RowKit Go.Proofs.Ytemeiocmgbgikaa.P Go.Proofs.Ytemeiocmgbgikaa.Help Go.Proofs.YtemeiocmgbgikaaW.PrintWords Go.Proofs.YtemeiocmgbgikaaW.PrintMore
set_option linter.unusedVariables false
set_option linter.unusedSimpArgs false

theorem turn3c (a b c:Int) (j:Nat) (hj:j<3):gU.f [a,b,c] (j:Int)=some [[a,b,c].getD (j % 3) 0,[a,b,c].getD ((j+1) % 3) 0,[a,b,c].getD ((j+2) % 3) 0]:=by
 match j,hj with
 |0,_=>rfl
 |1,_=>rfl
 |2,_=>rfl
theorem turn_sidec {t:List (List Int)}{n:Int} (ok:TriOk t n){i:Nat} (hi:i<t.length) (j:Nat) (hj:j<3):gU.f (rd_L1 t (i:Int)) (j:Int)=some [sideOf t i j,sideOf t i (j+1),sideOf t i (j+2)]:=by
 obtain⟨a,b,c,e,_⟩:=ok.i64 (List.getElem_mem hi)
 rw[rdL_nat t i hi,e,turn3c a b c j hj]
 unfold sideOf
 rw[getD_at _ hi,e]
theorem canR_okc {t:List (List Int)}{e:Int} (ht:t.length≤1048576) (h:canR t e=true):TriOk t (edges t)∧1≤e∧e≤edges t:=by
 unfold canR at h
 rw[Bool.and_eq_true]at h
 exact isE_bd ht h.1
def mxI (a b:Int):Int:=if a<b then b else a
def flipV (t:List (List Int)) (x:List Int) (e:Int):Int:=
 mxI (crd x (sideOf t (sideR e t 0).1.toNat ((sideR e t 0).2.toNat+1))+crd x (sideOf t (sideR (-e) t 0).1.toNat ((sideR (-e) t 0).2.toNat+1)))
  (crd x (sideOf t (sideR e t 0).1.toNat ((sideR e t 0).2.toNat+2))+crd x (sideOf t (sideR (-e) t 0).1.toNat ((sideR (-e) t 0).2.toNat+2))) - rd x (e - 1)
def flipC (t:List (List Int)) (x:List Int) (e:Int):List Int × Bool:=
 if canR t e=true∧isF t x=true then(if flipV t x e>200 then([],false) else(x.set (e - 1).toNat (flipV t x e),true)) else([],false)
theorem num_at {t:List (List Int)}{n:Int} (ok:TriOk t n){x:List Int} (hx:(x.length:Int)=n){i:Nat} (hi:i<t.length) (j:Nat):fZ.f (sideOf t i j)=some ((sideOf t i j).natAbs:Int)∧gS.f (sideOf t i j)=some ((sideOf t i j).natAbs:Int)∧(0≤((sideOf t i j).natAbs:Int) - 1)∧(((sideOf t i j).natAbs:Int) - 1<(x.length:Int))∧wrap64 (((sideOf t i j).natAbs:Int) - 1)=((sideOf t i j).natAbs:Int) - 1:=by
 have hs:=sideOf_in ok hi j
 have n9:=ok.n9
 exact⟨l3Abs_eq om om,size_eq om om,by omega,by omega,w_id om om⟩
theorem wj {j:Nat} (hj:j<3):wrap64 ((j:Int)+1)=((j+1:Nat):Int)∧wrap64 ((j:Int)+2)=((j+2:Nat):Int):=by
 refine⟨?_,?_⟩
 ·rw[w_id om om];omega
 ·rw[w_id om om];omega
theorem t3 (m:Nat):0≤Int.tmod (m:Int) 3∧Int.tmod (m:Int) 3<3:=by
 rw[Int.tmod_eq_emod_of_nonneg om]
 omega
theorem mxI_w {a b c d:Int} (ha:0≤a∧a≤200) (hb:0≤b∧b≤200) (hc:0≤c∧c≤200) (hd:0≤d∧d≤200){e:Int} (he:0≤e∧e≤200):wrap64 (a+b)=a+b∧wrap64 (c+d)=c+d∧wrap64 (mxI (a+b) (c+d) - e)=mxI (a+b) (c+d) - e:=by
 refine⟨w_id om om,w_id om om,w_id ?_ ?_⟩
 ·unfold mxI;split <;> omega
 ·unfold mxI;split <;> omega
theorem l1Max_eq (a b:Int):jQ.f a b=some (mxI a b):=by
 unfold jQ.f mxI
 by_cases h:a>b
 ·rw[ip h,ig om]
 ·rw[ig h]
  by_cases h2:a<b
  ·rw[ip h2]
  ·rw[ig h2]
   congr 1
   omega
theorem at_e {x:List Int} (hc:x.all co=true){e:Int} (h0:1≤e) (h1:e≤x.length):0≤rd x (e - 1)∧rd x (e - 1)≤200:=by
 have:=crd_bd hc e
 unfold crd at this
 rwa [show((e.natAbs:Int)) - 1=e - 1 by omega]at this
set_option maxHeartbeats 2000000 in
theorem mA (t:List (List Int)) (ht:t.length≤1048576) (x:List Int) (e:Int) (k:Nat) (hk:6000003<k):fG.f k t x e=some (flipC t x e):=by
 obtain⟨k,rfl⟩:=sk k
 unfold fG.f flipC
 rw[mW t ht e _ om,Option.bind_some]
 by_cases h:canR t e=true
 ·rw[ip h,jT t ht x _ om,Option.bind_some]
  by_cases hf:isF t x=true
  ·obtain⟨ok,h1,h2⟩:=canR_okc ht h
   obtain⟨_,hx,hc,_⟩:=isF_ok ht hf
   have n9:=ok.n9
   obtain⟨i,j,hi,hj,s1,s2⟩:=ok.side (x:=e) om om om
   obtain⟨o,a,ho,ha,s3,s4⟩:=ok.side (x:= -e) om om om
   have l1:=ok.three hi
   have l2:=ok.three ho
   have q1:((rd_L1 t (i:Int)).length:Int)=3:=by rw[rdL_nat t i hi,l1];rfl
   have q2:((rd_L1 t (o:Int)).length:Int)=3:=by rw[rdL_nat t o ho,l2];rfl
   have x1:(0:Int)≤(i:Int):=by omega
   have x2:(i:Int)<(t.length:Int):=by omega
   have x3:(0:Int)≤(o:Int):=by omega
   have x4:(o:Int)<(t.length:Int):=by omega
   have y1:(0:Int)≤e - 1:=by omega
   have y2:e - 1<(x.length:Int):=by omega
   have y3:([]:List Int).length+x.length<17592186044416:=by simp;omega
   have re:=at_e hc h1 om
   have we:wrap64 (e - 1)=e - 1:=w_id om om
   have wn:wrap64 (-e)= -e:=by clear we;exact w_id om om
   have f1:=find_f e t ht ok.row k (by clear we wn;omega)
   have f2:=find_f (-e) t ht ok.row k (by clear we wn;omega)
   obtain⟨w1,w2⟩:=wj hj
   obtain⟨w3,w4⟩:=wj ha
   obtain⟨a1,_,b1,c1,d1⟩:=num_at ok hx hi (j+1)
   obtain⟨a2,_,b2,c2,d2⟩:=num_at ok hx hi (j+2)
   obtain⟨a3,_,b3,c3,d3⟩:=num_at ok hx ho (a+1)
   obtain⟨a4,_,b4,c4,d4⟩:=num_at ok hx ho (a+2)
   have bd:=fun s=>crd_bd hc s
   obtain⟨m1,m2,m3⟩:=mxI_w (bd (sideOf t i (j+1))) (bd (sideOf t o (a+1))) (bd (sideOf t i (j+2))) (bd (sideOf t o (a+2))) re
   unfold crd at m1 m2 m3
   simp only[fG.j0]
   rw[hf,ig (by decide),f1,Option.bind_some,wn,f2,Option.bind_some,s1,s3]
   dsimp only
   rw[w1,w2,w3,w4,q1,q2,ip x1,ip x2,ip (t3 (j+1)).1,ip (t3 (j+1)).2,rd_side ok hi,a1,Option.bind_some,d1,ip b1,ip c1,ip x3,ip x4,ip (t3 (a+1)).1,ip (t3 (a+1)).2,rd_side ok ho,a3,Option.bind_some,d3,ip b3,ip c3]
   rw[ip (t3 (j+2)).1,ip (t3 (j+2)).2,rd_side ok hi,a2,Option.bind_some,d2,ip b2,ip c2,ip (t3 (a+2)).1,ip (t3 (a+2)).2,rd_side ok ho,a4,Option.bind_some,d4,ip b4,ip c4,Option.bind_some,ip y3,Option.bind_some,List.nil_append,m1,m2,l1Max_eq,Option.bind_some,we,ip y1,ip y2,ip y2,m3]
   rw[ip (show canR t e=true∧true=true from⟨h,rfl⟩)]
   have ev:flipV t x e=mxI (rd x (((sideOf t i (j+1)).natAbs:Int) - 1)+rd x (((sideOf t o (a+1)).natAbs:Int) - 1)) (rd x (((sideOf t i (j+2)).natAbs:Int) - 1)+rd x (((sideOf t o (a+2)).natAbs:Int) - 1)) - rd x (e - 1):=by
    unfold flipV crd
    rw[s1,s3]
    rfl
   rw[←ev]
   split <;> rfl
  ·have hf':isF t x=false:=by simpa using hf
   simp only[fG.j0]
   rw[hf',ip (show(!false)=true from rfl),ig (fun h=>absurd h.2 (by decide))]
 ·simp only[fG.j0]
  rw[ig h,ip trivial,ig (fun h'=>h h'.1)]
set_option maxHeartbeats 2000000 in
theorem jZ (t:List (List Int)) (ht:t.length≤1048576) (hr:∀r∈t,r.length≤1048576) (x:List Int) (hxl:x.length≤1048576) (e:Int) (k:Nat) (hk:6000003<k):fP.f k t x e=some (flipC t x e):=by
 unfold fP.f flipC
 rw[mM t ht hr e _ om,Option.bind_some]
 by_cases h:canR t e=true
 ·rw[ip h,mK t ht x _ om,Option.bind_some]
  by_cases hf:isF t x=true
  ·obtain⟨ok,h1,h2⟩:=canR_okc ht h
   obtain⟨_,hx,hc,_⟩:=isF_ok ht hf
   have n9:=ok.n9
   obtain⟨i,j,hi,hj,s1,s2⟩:=ok.side (x:=e) om om om
   obtain⟨o,a,ho,ha,s3,s4⟩:=ok.side (x:= -e) om om om
   have x1:(0:Int)≤(i:Int):=by omega
   have x2:(i:Int)<(t.length:Int):=by omega
   have x3:(0:Int)≤(o:Int):=by omega
   have x4:(o:Int)<(t.length:Int):=by omega
   have y1:(0:Int)≤e - 1:=by omega
   have y2:e - 1<(x.length:Int):=by omega
   have re:=at_e hc h1 om
   have we:wrap64 (e - 1)=e - 1:=w_id om om
   have wn:wrap64 (-e)= -e:=by clear we;exact w_id om om
   have f1:=sideAt_f e t ht hr k (by clear we wn;omega)
   have f2:=sideAt_f (-e) t ht hr k (by clear we wn;omega)
   obtain⟨_,a1,b1,c1,d1⟩:=num_at ok hx hi (j+1)
   obtain⟨_,a2,b2,c2,d2⟩:=num_at ok hx hi (j+2)
   obtain⟨_,a3,b3,c3,d3⟩:=num_at ok hx ho (a+1)
   obtain⟨_,a4,b4,c4,d4⟩:=num_at ok hx ho (a+2)
   have bd:=fun s=>crd_bd hc s
   obtain⟨m1,m2,m3⟩:=mxI_w (bd (sideOf t i (j+1))) (bd (sideOf t o (a+1))) (bd (sideOf t i (j+2))) (bd (sideOf t o (a+2))) re
   unfold crd at m1 m2 m3
   have l3:∀a b c:Int,2<(([a,b,c]:List Int).length:Int):=fun a b c=>by
    show(2:Int)<((3:Nat):Int)
    decide
   have r1:∀a b c:Int,rd [a,b,c] 1=b:=fun a b c=>rfl
   have r2:∀a b c:Int,rd [a,b,c] 2=c:=fun a b c=>rfl
   have fn:∀s:Int,gS.f s=some (s.natAbs:Int)→0≤(s.natAbs:Int) - 1→(s.natAbs:Int) - 1<(x.length:Int)→wrap64 ((s.natAbs:Int) - 1)=(s.natAbs:Int) - 1→flipNum.f x s=some (rd x ((s.natAbs:Int) - 1)):=by
    intro s q1 q2 q3 q4
    unfold flipNum.f
    rw[q1,Option.bind_some,q4,ip q2,ip q3]
   rw[hf,ip rfl,f1,Option.bind_some,wn,f2,Option.bind_some,s1,s3]
   dsimp only
   rw[ip x1,ip x2,ip x3,ip x4,turn_sidec ok hi j hj,Option.bind_some,turn_sidec ok ho a ha,Option.bind_some,copyOf_f x hxl,Option.bind_some]
   unfold fP.g
   rw[ip (l3 _ _ _),ip (l3 _ _ _),r1,r1,r2,r2,fn _ a1 b1 c1 d1,Option.bind_some,fn _ a3 b3 c3 d3,Option.bind_some,fn _ a2 b2 c2 d2,Option.bind_some,fn _ a4 b4 c4 d4,Option.bind_some,we,ip y1,ip y2,ip y2,m1,m2]
   rw[show ∀p q:Int,mx p q=mxI p q from fun _ _=>rfl,m3]
   rw[ip (show canR t e=true∧true=true from⟨h,rfl⟩)]
   have ev:flipV t x e=mxI (rd x (((sideOf t i (j+1)).natAbs:Int) - 1)+rd x (((sideOf t o (a+1)).natAbs:Int) - 1)) (rd x (((sideOf t i (j+2)).natAbs:Int) - 1)+rd x (((sideOf t o (a+2)).natAbs:Int) - 1)) - rd x (e - 1):=by
    unfold flipV crd
    rw[s1,s3]
    rfl
   rw[←ev]
   split <;> rfl
  ·have hf':isF t x=false:=by simpa using hf
   rw[hf',ig (by decide),ig (fun h=>absurd h.2 (by decide))]
 ·rw[ig h,ig (fun h'=>h h'.1)]
theorem flipC_len (t:List (List Int)) (ht:t.length≤1048576) (x:List Int) (e:Int):(flipC t x e).1.length≤9:=by
 unfold flipC
 by_cases h:canR t e=true∧isF t x=true
 ·rw[ip h]
  obtain⟨ok,hx,_⟩:=isF_ok ht h.2
  have:=ok.n9
  split
  ·simp
  ·show(x.set _ _).length≤9
   rw[List.length_set]
   omega
 ·rw[ig h]
  simp
end Go.Proofs.Ytemeiocmgbgikaa.L


namespace Go.Proofs.Ytemeiocmgbgikaa.L
open Go.RowKit Go.Proofs.Ytemeiocmgbgikaa.P Go.Proofs.Ytemeiocmgbgikaa.Help Go.Proofs.YtemeiocmgbgikaaW.PrintWords
set_option linter.unusedVariables false
set_option linter.unusedSimpArgs false

theorem copyRows_l0 (xs:List (List Int)) (hx:xs.length≤1048576) (hr:∀r∈xs,r.length≤1048576):∀(d k i:Nat),i+d=xs.length→d<k→gN.l0 k (xs.take i) xs (xs.length:Int) (i:Int)=some xs:=by
 intro d
 induction d with
 |zero=>
  intro k i hi hk
  obtain⟨k,rfl⟩:=sk k
  simp only[gN.l0]
  rw[ig om,List.take_of_length_le om]
 |succ d ih=>
  intro k i hi hk
  obtain⟨k,rfl⟩:=sk k
  have hlt:i<xs.length:=by omega
  simp only[gN.l0]
  rw[ip om,ip om,ip om,rdL_nat xs i hlt,copyOf_f _ (hr _ (List.getElem_mem hlt)),Option.bind_some,ip (by rw[List.length_take];omega),w_id om om,show((i:Int)+1)=((i+1:Nat):Int) by omega, ←List.take_succ_eq_append_getElem hlt,ih k (i+1) om om]
theorem copyRows_f (xs:List (List Int)) (hx:xs.length≤1048576) (hr:∀r∈xs,r.length≤1048576) (k:Nat) (hk:1048577<k):gN.f k xs=some xs:=by
 unfold gN.f
 have:=copyRows_l0 xs hx hr xs.length k 0 om om
 rw[List.take_zero]at this
 exact this
theorem l5Copy_l0 (xs:List (List Int)) (hx:xs.length≤1048576) (hr:∀r∈xs,r.length≤1048576):∀(d k i:Nat),i+d=xs.length→d<k→gQ.l0 k xs (xs.take i) (i:Int)=some xs:=by
 intro d
 induction d with
 |zero=>
  intro k i hi hk
  obtain⟨k,rfl⟩:=sk k
  simp only[gQ.l0]
  rw[ig om,List.take_of_length_le om]
 |succ d ih=>
  intro k i hi hk
  obtain⟨k,rfl⟩:=sk k
  have hlt:i<xs.length:=by omega
  have hl:=hr _ (List.getElem_mem hlt)
  simp only[gQ.l0]
  rw[ip om,Option.bind_some,ip om,rdL_nat xs i hlt,ip (by simp;omega),ip (by rw[List.length_take];omega),List.nil_append,w_id om om,show((i:Int)+1)=((i+1:Nat):Int) by omega, ←List.take_succ_eq_append_getElem hlt,ih k (i+1) om om]
theorem l5Copy_f (xs:List (List Int)) (hx:xs.length≤1048576) (hr:∀r∈xs,r.length≤1048576) (k:Nat) (hk:1048577<k):gQ.f k xs=some xs:=by
 unfold gQ.f
 have:=l5Copy_l0 xs hx hr xs.length k 0 om om
 rw[List.take_zero]at this
 exact this
theorem turn3 (a b c:Int) (j:Nat) (hj:j<3):gU.f [a,b,c] (j:Int)=some [[a,b,c].getD (j % 3) 0,[a,b,c].getD ((j+1) % 3) 0,[a,b,c].getD ((j+2) % 3) 0]:=by
 match j,hj with
 |0,_=>rfl
 |1,_=>rfl
 |2,_=>rfl
theorem turn_side {t:List (List Int)}{n:Int} (ok:TriOk t n){i:Nat} (hi:i<t.length) (j:Nat) (hj:j<3):gU.f (rd_L1 t (i:Int)) (j:Int)=some [sideOf t i j,sideOf t i (j+1),sideOf t i (j+2)]:=by
 obtain⟨a,b,c,e,_⟩:=ok.i64 (List.getElem_mem hi)
 rw[rdL_nat t i hi,e,turn3 a b c j hj]
 unfold sideOf
 rw[getD_at _ hi,e]
theorem w_nat {a:Int}{m:Nat} (h:a=(m:Int)) (hm:m≤1000):wrap64 a=(m:Int):=by
 rw[h]
 exact w_id om om
theorem w12 {j:Nat} (hj:j<3):wrap64 ((j:Int)+1)=((j+1:Nat):Int)∧wrap64 ((j:Int)+2)=((j+2:Nat):Int):=⟨w_nat rfl om,w_nat rfl om⟩
theorem len3 (a b c:Int):2<(([a,b,c]:List Int).length:Int)∧1<(([a,b,c]:List Int).length:Int):=by
 have h:(([a,b,c]:List Int).length:Int)=3:=rfl
 rw[h]
 exact⟨by decide,by decide⟩
def flipE (t:List (List Int)) (e:Int):List (List Int) × Bool:=
 if canR t e=true then
  (((t.set (sideR e t 0).1.toNat [e,sideOf t (sideR e t 0).1.toNat ((sideR e t 0).2.toNat+2),sideOf t (sideR (-e) t 0).1.toNat ((sideR (-e) t 0).2.toNat+1)]).set (sideR (-e) t 0).1.toNat
   [-e,sideOf t (sideR (-e) t 0).1.toNat ((sideR (-e) t 0).2.toNat+2),sideOf t (sideR e t 0).1.toNat ((sideR e t 0).2.toNat+1)]),true)
 else([],false)
theorem canR_ok {t:List (List Int)}{e:Int} (ht:t.length≤1048576) (h:canR t e=true):TriOk t (edges t)∧1≤e∧e≤edges t:=by
 unfold canR at h
 rw[Bool.and_eq_true]at h
 exact isE_bd ht h.1
set_option maxHeartbeats 2000000 in
theorem mH (t:List (List Int)) (ht:t.length≤1048576) (hr:∀r∈t,r.length≤1048576) (e:Int) (k:Nat) (hk:6000002<k):jK.f k t e=some (flipE t e):=by
 unfold jK.f flipE
 rw[mW t ht e k om,Option.bind_some]
 by_cases h:canR t e=true
 ·obtain⟨ok,h1,h2⟩:=canR_ok ht h
  have n9:=ok.n9
  obtain⟨i,j,hi,hj,s1,s2⟩:=ok.side (x:=e) om om om
  obtain⟨o,a,ho,ha,s3,s4⟩:=ok.side (x:= -e) om om om
  have l1:=ok.three hi
  have l2:=ok.three ho
  rw[ip h,ip h,find_f _ t ht ok.row k om,Option.bind_some,w_id (a:= -e) om om,find_f _ t ht ok.row k om,Option.bind_some,s1,s3]
  obtain⟨w1,w2⟩:=w12 hj
  obtain⟨w3,w4⟩:=w12 ha
  have t3:∀m:Nat,0≤Int.tmod (m:Int) 3∧Int.tmod (m:Int) 3<3:=fun m=>by rw[Int.tmod_eq_emod_of_nonneg om];omega
  have q1:((rd_L1 t (i:Int)).length:Int)=3:=by rw[rdL_nat t i hi,l1];rfl
  have q2:((rd_L1 t (o:Int)).length:Int)=3:=by rw[rdL_nat t o ho,l2];rfl
  dsimp only
  rw[w1,w2,w3,w4,q1,q2]
  rw[ip (show(0:Int)≤(i:Int)from by omega)]
  rw[ip (show(i:Int)<(t.length:Int)from by omega)]
  rw[ip (t3 (j+1)).1]
  rw[ip (t3 (j+1)).2]
  rw[ip (t3 (j+2)).1]
  rw[ip (t3 (j+2)).2]
  rw[ip (show(0:Int)≤(o:Int)from by omega)]
  rw[ip (show(o:Int)<(t.length:Int)from by omega)]
  rw[ip (t3 (a+1)).1]
  rw[ip (t3 (a+1)).2]
  rw[ip (t3 (a+2)).1]
  rw[ip (t3 (a+2)).2]
  rw[l5Copy_f t ht hr k om,Option.bind_some]
  rw[ip (show(i:Int)<(t.length:Int)from by omega)]
  rw[ip (show(o:Int)<(t.length:Int)from by omega)]
  rw[rd_side ok hi,rd_side ok hi,rd_side ok ho,rd_side ok ho]
  simp only[Int.toNat_natCast]
 ·rw[ig h,ig h]
set_option maxHeartbeats 2000000 in
theorem mG (t:List (List Int)) (ht:t.length≤1048576) (hr:∀r∈t,r.length≤1048576) (e:Int) (k:Nat) (hk:6000002<k):fU.f k t e=some (flipE t e):=by
 unfold fU.f flipE
 rw[mM t ht hr e k om,Option.bind_some]
 by_cases h:canR t e=true
 ·obtain⟨ok,h1,h2⟩:=canR_ok ht h
  have n9:=ok.n9
  obtain⟨i,j,hi,hj,s1,s2⟩:=ok.side (x:=e) om om om
  obtain⟨o,a,ho,ha,s3,s4⟩:=ok.side (x:= -e) om om om
  rw[ip h,ip h,sideAt_f _ t ht hr k om,Option.bind_some,w_id (a:= -e) om om,sideAt_f _ t ht hr k om,Option.bind_some,s1,s3]
  dsimp only
  rw[ip om,ip om,turn_side ok hi j hj,Option.bind_some,ip om,ip om,turn_side ok ho a ha,Option.bind_some,copyRows_f t ht hr k om,Option.bind_some]
  rw[ip (len3 _ _ _).1,ip (len3 _ _ _).2,ip (show(i:Int)<(t.length:Int)from by omega),ip (len3 _ _ _).1,ip (len3 _ _ _).2,ip (show(o:Int)<(t.length:Int)from by omega)]
  simp only[Int.toNat_natCast]
  rfl
 ·rw[ig h,ig h]
theorem tot3:∀ {t:List (List Int)},(∀r∈t,r.length=3)→tot t=3*t.length
 |[],_=>rfl
 |r :: rs,h=>by
  rw[tot,h r List.mem_cons_self,tot3 (fun x hx=>h x (List.mem_cons_of_mem _ hx)),List.length_cons]
  omega
theorem flipE_rows (t:List (List Int)) (ht:t.length≤1048576) (e:Int):(flipE t e).1.length≤6∧∀r∈(flipE t e).1,r.length=3:=by
 unfold flipE
 by_cases h:canR t e=true
 ·obtain⟨ok,_⟩:=canR_ok ht h
  have hs:=ok.short
  rw[ip h]
  refine⟨by show(List.set _ _ _).length≤_;rw[List.length_set,List.length_set];omega,fun r hr=>?_⟩
  rcases List.mem_or_eq_of_mem_set hr with hr|hr
  ·rcases List.mem_or_eq_of_mem_set hr with hr|hr
   ·exact ok.row r hr
   ·rw[hr];rfl
  ·rw[hr];rfl
 ·rw[ig h]
  simp
theorem flipE_bd (t:List (List Int)) (ht:t.length≤1048576) (e:Int):(flipE t e).1.length≤1048576∧(∀r∈(flipE t e).1,r.length≤1048576)∧tot (flipE t e).1≤2000000:=by
 obtain⟨h1,h2⟩:=flipE_rows t ht e
 have:=tot3 h2
 exact⟨by omega,fun r hr=>by have:=h2 r hr;omega,by omega⟩
theorem rowR_of {n:Int}:∀(r seen:List Int),(∀x∈r,x≠0∧ -n≤x∧x≤n)→r.Nodup→(∀x∈r,x ∉ seen)→∃s,rowR n seen r=some s∧∀x,x∈s↔x∈r∨x∈seen
 |[],seen,_,_,_=>⟨seen,rfl,fun x=>by simp⟩
 |y :: ys,seen,h1,h2,h3=>by
  obtain⟨n1,n2⟩:=List.nodup_cons.1 h2
  obtain⟨s,e,m⟩:=rowR_of ys (y :: seen) (fun x hx=>h1 x (List.mem_cons_of_mem _ hx)) n2 (fun x hx hs=>by
   rcases List.mem_cons.1 hs with rfl|hs
   ·exact n1 hx
   ·exact h3 x (List.mem_cons_of_mem _ hx) hs)
  refine⟨s,?_,fun x=>?_⟩
  ·rw[rowR,ip ⟨(h1 y List.mem_cons_self).1,(h1 y List.mem_cons_self).2,h3 y List.mem_cons_self⟩]
   exact e
  ·rw[m x,List.mem_cons,List.mem_cons]
   constructor
   ·rintro (h|h|h)
    ·exact .inl (.inr h)
    ·exact .inl (.inl h)
    ·exact .inr h
   ·rintro ((h|h)|h)
    ·exact .inr (.inl h)
    ·exact .inl h
    ·exact .inr (.inr h)
theorem triR_of {n:Int}:∀(rows:List (List Int)) (seen:List Int),(∀r∈rows,r.length=3)→(∀x∈rows.flatten,x≠0∧ -n≤x∧x≤n)→rows.flatten.Nodup→(∀x∈rows.flatten,x ∉ seen)→triR n seen rows=true
 |[],_,_,_,_,_=>rfl
 |r :: rs,seen,h1,h2,h3,h4=>by
  rw[List.flatten_cons]at h2 h3 h4
  obtain⟨n1,n2,n3⟩:=List.nodup_append.1 h3
  obtain⟨s,e,m⟩:=rowR_of r seen (fun x hx=>h2 x (List.mem_append_left _ hx)) n1 (fun x hx=>h4 x (List.mem_append_left _ hx))
  rw[triR,ip (h1 r List.mem_cons_self),e]
  exact triR_of rs s (fun x hx=>h1 x (List.mem_cons_of_mem _ hx)) (fun x hx=>h2 x (List.mem_append_right _ hx)) n2 (fun x hx hs=>by
   rcases (m x).1 hs with h|h
   ·exact n3 x h x hx rfl
   ·exact h4 x (List.mem_append_right _ hx) h)
theorem isT_of {t:List (List Int)}{n:Int} (ok:TriOk t n) (he:edges t=n):isT t=true:=by
 have h1:=ok.n3
 have h2:=ok.n9
 have h3:(t.length:Int) % 2=0:=by
  have:=ok.len
  clear he
  omega
 unfold isT
 rw[he,ip ⟨h3,h1,h2⟩]
 exact triR_of t [] ok.row ok.inr ok.nodup (by simp)
theorem count_set:∀(L:List (List Int)) (i:Nat) (h:i<L.length) (r:List Int) (z:Int),(L.set i r).flatten.count z+(L[i]).count z=L.flatten.count z+r.count z
 |[],i,h,_,_=>absurd h (by simp)
 |l :: L,0,h,r,z=>by
  simp only[List.set_cons_zero,List.flatten_cons,List.count_append,List.getElem_cons_zero]
  omega
 |l :: L,i+1,h,r,z=>by
  have:=count_set L i (by simpa using h) r z
  simp only[List.set_cons_succ,List.flatten_cons,List.count_append,List.getElem_cons_succ]
  omega
/-- One where two numbers are the same. -/
def one1 (a z:Int):Nat:=if(a== z)=true then 1 else 0
theorem count3 (a b c z:Int): [a,b,c].count z=one1 a z+one1 b z+one1 c z:=by
 rw[List.count_cons,List.count_cons,List.count_cons,List.count_nil]
 show 0+one1 c z+one1 b z+one1 a z=_
 omega
theorem count_row {t:List (List Int)}{n:Int} (ok:TriOk t n){i:Nat} (hi:i<t.length){j:Nat} (hj:j<3) (z:Int):(t[i]).count z=[sideOf t i j,sideOf t i (j+1),sideOf t i (j+2)].count z:=by
 obtain⟨a,b,c,e,_⟩:=ok.i64 (List.getElem_mem hi)
 obtain⟨s0,s1,s2,s3,s4⟩:=sideOf_eq hi e
 rw[e,count3,count3]
 match j,hj with
 |0,_=>rw[s0,s1,s2]
 |1,_=>rw[s1,s2,s3];omega
 |2,_=>rw[s2,s3,s4];omega
/-- The triangles behind a flip. -/
def flT (t:List (List Int)) (i j o l:Nat) (e:Int):List (List Int):=(t.set i [e,sideOf t i (j+2),sideOf t o (l+1)]).set o [-e,sideOf t o (l+2),sideOf t i (j+1)]
theorem cor_row (t:List (List Int)) (r:Nat){j j0:Nat} (hj:j<3) (h0:j0<3):Rot (sideOf t r j) (sideOf t r (j+1)) (sideOf t r (j+2)) (sideOf t r j0) (sideOf t r (j0+1)) (sideOf t r (j0+2)):=by
 have h3:sideOf t r 3=sideOf t r 0:=sideOf3 t r 0
 have h4:sideOf t r 4=sideOf t r 1:=sideOf3 t r 1
 unfold Rot
 match j,hj,j0,h0 with
 |0,_,0,_=>exact .inl ⟨rfl,rfl,rfl⟩
 |0,_,1,_=>exact .inr (.inr ⟨h3.symm,rfl,rfl⟩)
 |0,_,2,_=>exact .inr (.inl ⟨h3.symm,h4.symm,rfl⟩)
 |1,_,0,_=>exact .inr (.inl ⟨rfl,rfl,h3⟩)
 |1,_,1,_=>exact .inl ⟨rfl,rfl,rfl⟩
 |1,_,2,_=>exact .inr (.inr ⟨h4.symm,rfl,rfl⟩)
 |2,_,0,_=>exact .inr (.inr ⟨rfl,h3,h4⟩)
 |2,_,1,_=>exact .inr (.inl ⟨rfl,rfl,h4⟩)
 |2,_,2,_=>exact .inl ⟨rfl,rfl,rfl⟩
/-- Where an edge stands that can be flipped. -/
structure At (t:List (List Int)) (n:Nat) (i j o l:Nat) (e:Int):Prop where
 ok:TriOk t (n:Int)
 hi:i<t.length
 hj:j<3
 ho:o<t.length
 hl:l<3
 se:sideOf t i j=e
 sn:sideOf t o l= -e
 io:i≠o
section
variable {t:List (List Int)}{n i j o l:Nat}{e:Int}
theorem At.e0 (A:At t n i j o l e):e≠0∧e.natAbs≤n:=by
 have:=sideOf_in A.ok A.hi j
 rw[A.se]at this
 omega
theorem At.go (A:At t n i j o l e):(flT t i j o l e)[o]?= some [-e,sideOf t o (l+2),sideOf t i (j+1)]:=by
 have h:=A.ho
 unfold flT
 rw[List.getElem?_set_self (by rw[List.length_set];exact h)]
theorem At.gi (A:At t n i j o l e):(flT t i j o l e)[i]?= some [e,sideOf t i (j+2),sideOf t o (l+1)]:=by
 have h:=A.hi
 have h2:=A.io
 unfold flT
 rw[List.getElem?_set_ne om,List.getElem?_set_self h]
theorem At.gr (A:At t n i j o l e){r:Nat} (h1:r≠i) (h2:r≠o):(flT t i j o l e)[r]?= t[r]?:=by
 unfold flT
 rw[List.getElem?_set_ne om,List.getElem?_set_ne om]
theorem At.fo (A:At t n i j o l e) (m:Nat):sideOf (flT t i j o l e) o m=[-e,sideOf t o (l+2),sideOf t i (j+1)].getD (m % 3) 0:=by
 show((flT t i j o l e).getD o []).getD (m % 3) 0=_
 rw[List.getD_eq_getElem?_getD (l:=flT t i j o l e),A.go]
 rfl
theorem At.fi (A:At t n i j o l e) (m:Nat):sideOf (flT t i j o l e) i m=[e,sideOf t i (j+2),sideOf t o (l+1)].getD (m % 3) 0:=by
 show((flT t i j o l e).getD i []).getD (m % 3) 0=_
 rw[List.getD_eq_getElem?_getD (l:=flT t i j o l e),A.gi]
 rfl
theorem At.fr (A:At t n i j o l e){r:Nat} (h1:r≠i) (h2:r≠o) (m:Nat):sideOf (flT t i j o l e) r m=sideOf t r m:=by
 show((flT t i j o l e).getD r []).getD (m % 3) 0=(t.getD r []).getD (m % 3) 0
 rw[List.getD_eq_getElem?_getD (l:=flT t i j o l e),A.gr h1 h2, ←List.getD_eq_getElem?_getD]
theorem flT_len (t:List (List Int)) (i j o l:Nat) (e:Int):(flT t i j o l e).length=t.length:=by
 unfold flT
 rw[List.length_set,List.length_set]
theorem At.rows (A:At t n i j o l e){r:List Int} (h:r∈flT t i j o l e):r=[e,sideOf t i (j+2),sideOf t o (l+1)]∨r=[-e,sideOf t o (l+2),sideOf t i (j+1)]∨r∈t:=by
 unfold flT at h
 rcases List.mem_or_eq_of_mem_set h with h|h
 ·rcases List.mem_or_eq_of_mem_set h with h|h
  ·exact .inr (.inr h)
  ·exact .inl h
 ·exact .inr (.inl h)
theorem At.tri (A:At t n i j o l e):TriOk (flT t i j o l e) (n:Int):=by
 have ok:=A.ok
 have hi:=A.hi
 have ho:=A.ho
 have i0:=sideOf_in ok hi j
 have i1:=sideOf_in ok hi (j+1)
 have i2:=sideOf_in ok hi (j+2)
 have o0:=sideOf_in ok ho l
 have o1:=sideOf_in ok ho (l+1)
 have o2:=sideOf_in ok ho (l+2)
 rw[A.se]at i0
 rw[A.sn]at o0
 refine⟨ok.n3,ok.n9,by rw[flT_len];exact ok.len,fun r hr=>?_,fun z hz=>?_,?_⟩
 ·rcases A.rows hr with rfl|rfl|h
  ·rfl
  ·rfl
  ·exact ok.row r h
 ·obtain⟨r,hr,hz⟩:=List.mem_flatten.1 hz
  rcases A.rows hr with rfl|rfl|h
  ·simp only[List.mem_cons,List.not_mem_nil,or_false]at hz
   rcases hz with rfl|rfl|rfl
   ·exact i0
   ·exact i2
   ·exact o1
  ·simp only[List.mem_cons,List.not_mem_nil,or_false]at hz
   rcases hz with rfl|rfl|rfl
   ·exact o0
   ·exact o2
   ·exact i1
  ·exact ok.inr z (List.mem_flatten.2 ⟨r,h,hz⟩)
 ·refine List.nodup_iff_count.2 fun z=>?_
  have h0:=List.nodup_iff_count.1 ok.nodup z
  have c1:=count_set t i hi [e,sideOf t i (j+2),sideOf t o (l+1)] z
  have ho2:o<(t.set i [e,sideOf t i (j+2),sideOf t o (l+1)]).length:=by rw[List.length_set];exact ho
  have c2:=count_set (t.set i [e,sideOf t i (j+2),sideOf t o (l+1)]) o ho2 [-e,sideOf t o (l+2),sideOf t i (j+1)] z
  have e2:(t.set i [e,sideOf t i (j+2),sideOf t o (l+1)])[o]=t[o]:=List.getElem_set_ne (by exact A.io) _
  have r1:=count_row ok hi A.hj z
  have r2:=count_row ok ho A.hl z
  rw[A.se,count3]at r1
  rw[A.sn,count3]at r2
  rw[count3,r1]at c1
  rw[e2,count3,r2]at c2
  show((t.set i [e,sideOf t i (j+2),sideOf t o (l+1)]).set o [-e,sideOf t o (l+2),sideOf t i (j+1)]).flatten.count z≤1
  omega
theorem At.ends (A:At t n i j o l e){r m:Nat} (hr:r<t.length) (h1:r≠i) (h2:r≠o):(sideOf t r m).natAbs≠e.natAbs:=by
 intro h
 have hh:sideOf t r m=e∨sideOf t r m= -e:=by omega
 rw[←sideOf_mod]at hh
 rcases hh with h|h
 ·rw[←A.se]at h
  exact h1 (side_inj A.ok hr (Nat.mod_lt _ (by decide)) A.hi A.hj h).1
 ·rw[←A.sn]at h
  exact h2 (side_inj A.ok hr (Nat.mod_lt _ (by decide)) A.ho A.hl h).1
theorem At.near (A:At t n i j o l e):(sideOf t i (j+1)).natAbs≠e.natAbs∧(sideOf t i (j+2)).natAbs≠e.natAbs∧(sideOf t o (l+1)).natAbs≠e.natAbs∧(sideOf t o (l+2)).natAbs≠e.natAbs:=by
 have io:=A.io
 have hj:=A.hj
 have hl:=A.hl
 have key:∀ {r m k:Nat},r<t.length→((r=i∧k=j)∨(r=o∧k=l))→k<3→(m=k+1∨m=k+2)→(sideOf t r m).natAbs≠e.natAbs:=by
  intro r m k hr hk hk3 hm h
  have hh:sideOf t r m=e∨sideOf t r m= -e:=by omega
  rw[←sideOf_mod]at hh
  rcases hh with h|h
  ·rw[←A.se]at h
   have:=side_inj A.ok hr (Nat.mod_lt _ (by decide)) A.hi A.hj h
   omega
  ·rw[←A.sn]at h
   have:=side_inj A.ok hr (Nat.mod_lt _ (by decide)) A.ho A.hl h
   omega
 exact⟨key A.hi (.inl ⟨rfl,rfl⟩) hj (.inl rfl),key A.hi (.inl ⟨rfl,rfl⟩) hj (.inr rfl),key A.ho (.inr ⟨rfl,rfl⟩) hl (.inl rfl),key A.ho (.inr ⟨rfl,rfl⟩) hl (.inr rfl)⟩
theorem crd_ne {x:List Int}{k:Nat}{v s:Int} (h0:s≠0) (h:s.natAbs - 1≠k):crd (x.set k v) s=crd x s:=by
 unfold crd rd
 rw[List.getD_eq_getElem?_getD,List.getElem?_set_ne om, ←List.getD_eq_getElem?_getD]
theorem crd_eq {x:List Int}{v s:Int} (h0:s≠0) (h:s.natAbs≤x.length):crd (x.set (s.natAbs - 1) v) s=v:=by
 have hl:s.natAbs - 1<(x.set (s.natAbs - 1) v).length:=by rw[List.length_set];omega
 rw[crd_nat (e:=s.natAbs - 1) om hl,List.getElem_set_self]
theorem At.fp (A:At t n i j o l e){x:List Int} (C:Cx t x (n:Int)){v:Int} (hv:v=mxI (crd x (sideOf t i (j+1))+crd x (sideOf t o (l+1))) (crd x (sideOf t i (j+2))+crd x (sideOf t o (l+2))) - crd x e) (h200:v≤200):
  Fp t (flT t i j o l e) x (x.set (e.natAbs - 1) v) n e e (sideOf t i (j+1)) (sideOf t i (j+2)) (sideOf t o (l+1)) (sideOf t o (l+2)):=by
 obtain⟨e0,e1⟩:=A.e0
 obtain⟨n1,n2,n3,n4⟩:=A.near
 have hx:x.length=n:=by have:=C.hx;omega
 have c1:Cor t e (sideOf t i (j+1)) (sideOf t i (j+2)):=⟨i,j,A.hi,A.hj,A.se,rfl,rfl⟩
 have c2:Cor t (-e) (sideOf t o (l+1)) (sideOf t o (l+2)):=⟨o,l,A.ho,A.hl,A.sn,rfl,rfl⟩
 have z1:=(C.cor c1.rot).1
 have z2:=(C.cor c1.rot.rot).1
 have z3:=(C.cor c2.rot).1
 have z4:=(C.cor c2.rot.rot).1
 have g3:crd x (-e)=crd x e:=by unfold crd;rw[Int.natAbs_neg]
 have q1:=(C.cor c1).2
 have q2:=(C.cor c1.rot).2
 have q3:=(C.cor c1.rot.rot).2
 have q4:=(C.cor c2).2
 have q5:=(C.cor c2.rot).2
 have q6:=(C.cor c2.rot.rot).2
 rw[g3]at q4 q5 q6
 have ev:crd (x.set (e.natAbs - 1) v) e=v:=crd_eq e0 om
 have en:crd (x.set (e.natAbs - 1) v) (-e)=v:=Eq.trans (by unfold crd;rw[Int.natAbs_neg]) ev
 have far:∀ {u:Int},u≠0→u.natAbs≠e.natAbs→crd (x.set (e.natAbs - 1) v) u=crd x u:=fun h0 h=>crd_ne h0 om
 have val:(crd x e+v=crd x (sideOf t i (j+1))+crd x (sideOf t o (l+1))∧crd x (sideOf t i (j+2))+crd x (sideOf t o (l+2))≤crd x (sideOf t i (j+1))+crd x (sideOf t o (l+1)))∨(crd x e+v=crd x (sideOf t i (j+2))+crd x (sideOf t o (l+2))∧crd x (sideOf t i (j+1))+crd x (sideOf t o (l+1))≤crd x (sideOf t i (j+2))+crd x (sideOf t o (l+2))):=by
  unfold mxI at hv
  split at hv
  ·exact .inr ⟨by omega,by omega⟩
  ·exact .inl ⟨by omega,by omega⟩
 have ok2:=A.tri
 have D:Cx (flT t i j o l e) (x.set (e.natAbs - 1) v) (n:Int):=by
  refine⟨ok2,by rw[List.length_set,hx],List.all_eq_true.2 fun a ha=>?_,fun r hr=>?_⟩
  ·rcases List.mem_or_eq_of_mem_set ha with ha|rfl
   ·exact List.all_eq_true.1 C.hc a ha
   ·unfold co
    rw[decide_eq_true_iff]
    omega
  ·obtain⟨k,hk,er0⟩:=List.mem_iff_getElem.1 hr
   have er1:=List.getElem?_eq_getElem hk
   rw[er0]at er1
   rw[flT_len]at hk
   by_cases ko:k=o
   ·have er:r=[-e,sideOf t o (l+2),sideOf t i (j+1)]:=by
     rw[ko,A.go]at er1
     exact(Option.some.inj er1).symm
    rw[er]
    simp only[fairRow,decide_eq_true_iff]
    rw[en,far z4.1 n4,far z1.1 n1]
    clear er far ev en n1 n2 n3 n4 z1 z2 z3 z4
    omega
   ·by_cases ki:k=i
    ·have er:r=[e,sideOf t i (j+2),sideOf t o (l+1)]:=by
      rw[ki,A.gi]at er1
      exact(Option.some.inj er1).symm
     rw[er]
     simp only[fairRow,decide_eq_true_iff]
     rw[ev,far z2.1 n2,far z3.1 n3]
     clear er far ev en n1 n2 n3 n4 z1 z2 z3 z4
     omega
    ·have er:r=t[k]:=by
      rw[A.gr ki ko,List.getElem?_eq_getElem hk]at er1
      exact(Option.some.inj er1).symm
     obtain⟨a,b,c,e3,_⟩:=A.ok.i64 (List.getElem_mem hk)
     obtain⟨s0,s1,s2,_⟩:=sideOf_eq hk e3
     have hf:=C.hf t[k] (List.getElem_mem hk)
     have a0:=sideOf_in A.ok hk 0
     have a1:=sideOf_in A.ok hk 1
     have a2:=sideOf_in A.ok hk 2
     have b0:=A.ends (m:=0) hk ki ko
     have b1:=A.ends (m:=1) hk ki ko
     have b2:=A.ends (m:=2) hk ki ko
     rw[s0]at a0 b0
     rw[s1]at a1 b1
     rw[s2]at a2 b2
     rw[er,e3]
     rw[e3]at hf
     simp only[fairRow]at hf ⊢
     rw[far a0.1 b0,far a1.1 b1,far a2.1 b2]
     exact hf
 have f0:sideOf (flT t i j o l e) i 0=e:=A.fi 0
 have f1:sideOf (flT t i j o l e) i (0+1)=sideOf t i (j+2):=A.fi 1
 have f2:sideOf (flT t i j o l e) i (0+2)=sideOf t o (l+1):=A.fi 2
 have h0:sideOf (flT t i j o l e) o 0= -e:=A.fo 0
 have h1:sideOf (flT t i j o l e) o (0+1)=sideOf t o (l+2):=A.fo 1
 have h2:sideOf (flT t i j o l e) o (0+2)=sideOf t i (j+1):=A.fo 2
 refine⟨C,D, .inl rfl,c1,c2,⟨i,0,by rw[flT_len];exact A.hi,by decide,f0,f1,f2⟩,⟨o,0,by rw[flT_len];exact A.ho,by decide,h0,h1,h2⟩,?_,?_,⟨n1,n2,n3,n4⟩,?_,?_⟩
 ·rintro u w z ⟨r,m,hr,hm,rfl,rfl,rfl⟩
  by_cases k1:r=i
  ·have:=cor_row t r hm A.hj
   rw[k1,A.se]at this
   rw[k1]
   exact .inl this
  ·by_cases k2:r=o
   ·have:=cor_row t r hm A.hl
    rw[k2,A.sn]at this
    rw[k2]
    exact .inr (.inl this)
   ·exact .inr (.inr ⟨A.ends hr k1 k2,A.ends hr k1 k2,A.ends hr k1 k2,⟨r,m,by rw[flT_len];exact hr,hm,A.fr k1 k2 _,A.fr k1 k2 _,A.fr k1 k2 _⟩⟩)
 ·rintro u w z ⟨r,m,hr,hm,rfl,rfl,rfl⟩
  rw[flT_len]at hr
  by_cases k1:r=i
  ·have:=cor_row (flT t i j o l e) r hm (show 0<3 by decide)
   rw[k1,f0,f1,f2]at this
   rw[k1]
   exact .inl this
  ·by_cases k2:r=o
   ·have:=cor_row (flT t i j o l e) r hm (show 0<3 by decide)
    rw[k2,h0,h1,h2]at this
    rw[k2]
    exact .inr (.inl this)
   ·rw[A.fr k1 k2,A.fr k1 k2,A.fr k1 k2]
    exact .inr (.inr ⟨A.ends hr k1 k2,A.ends hr k1 k2,A.ends hr k1 k2,⟨r,m,hr,hm,rfl,rfl,rfl⟩⟩)
 ·intro k h h' hk
  exact(List.getElem_set_ne om _).symm
 ·rw[ev]
  exact val
end
end Go.Proofs.Ytemeiocmgbgikaa.L

namespace Go.Proofs.Ytemeiocmgbgikaa.L
open Go Go.RowKit Go.Proofs.Ytemeiocmgbgikaa.P Go.Proofs.Ytemeiocmgbgikaa.Help Go.Proofs.YtemeiocmgbgikaaW.PrintWords
set_option linter.unusedVariables false
set_option linter.unusedSimpArgs false
theorem and255 (x:Int):0≤bits .and .i64 x 255∧bits .and .i64 x 255≤255:=by
 have h:∀n:Nat,n≤255→0≤IntKind.i64.wrap (n:Int)∧IntKind.i64.wrap (n:Int)≤255:=by
  intro n hn
  simp[IntKind.wrap,IntKind.signed,IntKind.bits]
  split <;> omega
 unfold bits
 refine h _ ?_
 show(BitVec.ofInt IntKind.i64.bits x &&& BitVec.ofInt IntKind.i64.bits 255).toNat≤255
 rw[BitVec.toNat_and]
 refine Nat.le_trans Nat.and_le_right ?_
 decide
/-- A cursor over bytes. -/
def Cur (b:List Int) (i:Int):Prop:=0≤i∧i≤4000000000∧(b.length:Int)≤1048576
theorem Cur.start {b:List Int} (h:b.length≤1048576):Cur b 0:=⟨by decide,by decide,by omega⟩
theorem byte_ok {b:List Int}{i:Int} (h:Int) (hc:Cur b i):∃x i' h',jF.f b i h=some (x,i',h')∧0≤x∧x≤255∧Cur b i':=by
 obtain⟨c1,c2,c3⟩:=hc
 unfold jF.f
 by_cases h1:i<(b.length:Int)
 ·rw[ip h1,ip c1]
  refine⟨_,_,_,rfl,(and255 _).1,(and255 _).2,?_⟩
  rw[w_id om om]
  exact⟨by omega,by omega,c3⟩
 ·rw[ig h1]
  exact⟨_,_,_,rfl,(and255 _).1,(and255 _).2,c1,c2,c3⟩
theorem tmod_ok {x n:Int} (hx:0≤x) (hn:0<n):0≤Int.tmod x n∧Int.tmod x n<n:=by
 rw[Int.tmod_eq_emod_of_nonneg hx]
 exact⟨Int.emod_nonneg _ om,Int.emod_lt_of_pos _ hn⟩
theorem below_ok {b:List Int}{i:Int} (h n:Int) (hc:Cur b i) (hn:0<n):∃x i' h',fO.f b i h n=some (x,i',h')∧0≤x∧x<n∧Cur b i':=by
 unfold fO.f
 rw[ig om]
 by_cases h1:n≤256
 ·rw[ip h1]
  obtain⟨x,i',h',e,x0,x1,c'⟩:=byte_ok h hc
  rw[e,Option.bind_some,ig om]
  have:=tmod_ok x0 hn
  exact⟨_,_,_,rfl,this.1,this.2,c'⟩
 ·rw[ig h1]
  obtain⟨x,i1,h1',e1,x0,x1,c1⟩:=byte_ok h hc
  obtain⟨y,i2,h2',e2,y0,y1,c2⟩:=byte_ok h1' c1
  obtain⟨z,i3,h3',e3,z0,z1,c3⟩:=byte_ok h2' c2
  obtain⟨v,i4,h4',e4,v0,v1,c4⟩:=byte_ok h3' c3
  rw[e1,Option.bind_some]
  dsimp only
  rw[e2,Option.bind_some]
  dsimp only
  rw[e3,Option.bind_some]
  dsimp only
  rw[e4,Option.bind_some]
  dsimp only
  rw[ig om,w_id (a:=x*16777216) om om,w_id (a:=y*65536) om om,w_id (a:=z*256) om om,w_id (a:=x*16777216+y*65536) om om,w_id (a:=x*16777216+y*65536+z*256) om om,w_id om om]
  have:=tmod_ok (show 0≤x*16777216+y*65536+z*256+v by omega) hn
  exact⟨_,_,_,rfl,this.1,this.2,c4⟩
theorem once_ok {b:List Int}{i:Int} (h n:Int) (hc:Cur b i) (hn:0<n):∃x i' h',jV.f b i h n=some (x,i',h')∧Cur b i':=by
 obtain⟨x,i',h',e,_,_,c'⟩:=below_ok h n hc hn
 unfold jV.f
 rw[e]
 exact⟨_,_,_,rfl,c'⟩
theorem rd_mem {l:List Int}{x:Int} (h0:0≤x) (h1:x<(l.length:Int)):rd l x∈l:=by
 obtain⟨n,rfl⟩:=Int.eq_ofNat_of_zero_le h0
 rw[rd_nat l n om]
 exact List.getElem_mem _
theorem pickInt_ok {b:List Int}{i:Int} (h:Int) (l:List Int) (hc:Cur b i) (hl:0<l.length):∃x i' h',jI.f b i h l=some (x,i',h')∧x∈l∧Cur b i':=by
 obtain⟨x,i',h',e,x0,x1,c'⟩:=below_ok h (l.length:Int) hc om
 unfold jI.f
 rw[e,Option.bind_some,ip x0,ip x1]
 exact⟨_,_,_,rfl,rd_mem x0 x1,c'⟩
theorem rdOf_mem {α:Type}{d:α}{l:List α}{x:Int} (h0:0≤x) (h1:x<(l.length:Int)):rdOf d l x∈l:=by
 obtain⟨n,rfl⟩:=Int.eq_ofNat_of_zero_le h0
 have hn:n<l.length:=by omega
 unfold rdOf
 simp[List.getD_eq_getElem?_getD,List.getElem?_eq_getElem hn]
theorem pick_ok {b:List Int}{i:Int} (h:Int) (l:List ByteArray) (hc:Cur b i) (hl:0<l.length):∃x i' h',jS.f b i h l=some (x,i',h')∧x∈l∧Cur b i':=by
 obtain⟨x,i',h',e,x0,x1,c'⟩:=below_ok h (l.length:Int) hc om
 unfold jS.f
 rw[e,Option.bind_some,ip x0,ip x1]
 exact⟨_,_,_,rfl,rdOf_mem x0 x1,c'⟩
theorem bit_ok (x:Bool):gJ.f x=some (if x=true then 1 else 0):=by
 unfold gJ.f
 split <;> rfl
theorem new_l0 (l:List Int) (hl:l.length≤1048576):∀(d k:Nat) (h i:Int),i+d=4000→0≤i→d<k→∃h',jG.l0 k l h i=some (l,0,h')
 |0,k,h,i,hi,h0,hk=>by
  obtain⟨k,rfl⟩:=sk k
  simp only[jG.l0]
  by_cases c:i<(l.length:Int)
  ·rw[ip c,ig om];exact⟨_,rfl⟩
  ·rw[ig c];exact⟨_,rfl⟩
 |d+1,k,h,i,hi,h0,hk=>by
  obtain⟨k,rfl⟩:=sk k
  simp only[jG.l0]
  by_cases c:i<(l.length:Int)
  ·rw[ip c,ip om,ip h0,w_id (a:=i+1) om om]
   exact new_l0 l hl d k _ (i+1) om om om
  ·rw[ig c];exact⟨_,rfl⟩
theorem new_ok (l:List Int) (hl:l.length≤1048576) (k:Nat) (hk:4000<k):∃h',jG.f k l=some (l,0,h'):=by
 unfold jG.f
 exact new_l0 l hl 4000 k _ 0 om om hk
end Go.Proofs.Ytemeiocmgbgikaa.L


namespace Go.Proofs.Ytemeiocmgbgikaa.L
open Go.RowKit Go.Proofs.Ytemeiocmgbgikaa.P Go.Proofs.Ytemeiocmgbgikaa.Help Go.Proofs.YtemeiocmgbgikaaW.PrintWords
set_option linter.unusedVariables false
set_option linter.unusedSimpArgs false

/-- The parts of a text between the bytes b, from a place on. -/
def partsR (x:ByteArray) (b:Int):Nat→Nat→Nat→List ByteArray
 |0,a,_=>[x.extract a x.size]
 |d+1,a,i=>if bt x (i:Int)=b then x.extract a i :: partsR x b d (i+1) (i+1)else partsR x b d a (i+1)
theorem parts_len (x:ByteArray) (b:Int):∀(d a i:Nat),(partsR x b d a i).length≤d+1
 |0,_,_=>by simp[partsR]
 |d+1,a,i=>by
  rw[partsR]
  split
  ·have:=parts_len x b d (i+1) (i+1);rw[List.length_cons];omega
  ·have:=parts_len x b d a (i+1);omega
/-- The lengths, one more each. -/
def sizes:List ByteArray→Nat
 |[]=>0
 |p :: ps=>p.size+1+sizes ps
theorem parts_sizes (x:ByteArray) (b:Int):∀(d a i:Nat),i+d=x.size→a≤i→sizes (partsR x b d a i)=x.size - a+1
 |0,a,i,h,ha=>by
  rw[partsR,sizes,sizes,ByteArray.size_extract]
  omega
 |d+1,a,i,h,ha=>by
  rw[partsR]
  split
  ·rw[sizes,ByteArray.size_extract,parts_sizes x b d (i+1) (i+1) om om]
   omega
  ·exact parts_sizes x b d a (i+1) om om
theorem mR (x:ByteArray) (hx:x.size≤1048576) (b:Int):∀(d k a i:Nat) (out:List ByteArray),i+d=x.size→d+3<k→a≤i→out.length≤i→gH.l0 k x b out (a:Int) (i:Int)=some (out ++ partsR x b d a i):=by
 intro d
 induction d with
 |zero=>
  intro k a i out hi hk ha ho
  obtain⟨k,rfl⟩:∃m,k=m+2:=⟨k - 2,by omega⟩
  rw[show k+2=(k+1)+1 from rfl]
  simp only[gH.l0]
  rw[ip om,ip om,ip om,ip om,ip om,w_id (a:=(i:Int)+1) om om,ig om,Int.toNat_natCast,Int.toNat_natCast,partsR,show i=x.size by omega]
 |succ d ih=>
  intro k a i out hi hk ha ho
  obtain⟨k,rfl⟩:=sk k
  simp only[gH.l0]
  rw[ip om,ig om,ip om,ip om,partsR]
  by_cases h:bt x (i:Int)=b
  ·rw[ip h,ip h,ip om,ip om,ip om,w_id (a:=(i:Int)+1) om om,show((i:Int)+1)=((i+1:Nat):Int) by omega,ih k (i+1) (i+1) _ om om om (by rw[List.length_append];simp;omega),List.append_assoc,Int.toNat_natCast,Int.toNat_natCast]
   rfl
  ·rw[ig h,ig h,w_id (a:=(i:Int)+1) om om,show((i:Int)+1)=((i+1:Nat):Int) by omega,ih k a (i+1) _ om om om om]
theorem pR (x:ByteArray) (hx:x.size≤1048576) (b:Int) (k:Nat) (hk:1048580<k):gH.f k x b=some (partsR x b x.size 0 0):=by
 unfold gH.f
 have:=mR x hx b x.size k 0 0 [] om om om (by simp)
 rw[List.nil_append]at this
 exact this
/-- A byte's letter. -/
def letP (b:Int):Option Int:=if 97≤b∧b≤105 then some (b - 96)else if 65≤b∧b≤73 then some (64 - b)else none
def bytesP (x:ByteArray):Nat→Nat→Option (List Int)
 |0,_=>some []
 |d+1,j=>match letP (bt x (j:Int)) with|none=>none|some y=>match bytesP x d (j+1) with|none=>none|some r=>some (y :: r)
theorem bytesP_len (x:ByteArray):∀(d j:Nat) (r:List Int),bytesP x d j=some r→r.length=d
 |0,j,r,h=>by have:=Option.some.inj h;subst this;rfl
 |d+1,j,r,h=>by
  rw[bytesP]at h
  cases h1:letP (bt x (j:Int)) with
  |none=>rw[h1]at h;exact absurd h (by simp)
  |some y=>
   rw[h1]at h
   cases h2:bytesP x d (j+1) with
   |none=>rw[h2]at h;exact absurd h (by simp)
   |some s=>
    rw[h2]at h
    have:=Option.some.inj h
    subst this
    rw[List.length_cons,bytesP_len x d (j+1) s h2]
def parseR:List ByteArray→List (List Int)→List (List Int) × Bool
 |[],out=>if isT out=true then(out,true) else([],false)
 |p :: ps,out=>match bytesP p p.size 0 with|none=>([],false)|some r=>parseR ps (out ++ [r])
theorem bt_bd (x:ByteArray) (i:Int):0≤bt x i∧bt x i≤255:=by
 unfold bt
 split
 ·have:=(x[i.toNat]).toNat_lt
  omega
 ·omega
theorem part_at (ps:List ByteArray) (i:Nat) (h:i<ps.length):rdOf ByteArray.empty ps (i:Int)=ps[i]:=by
 unfold rdOf
 simp[List.getD_eq_getElem?_getD,List.getElem?_eq_getElem h]
theorem mQ (ps:List ByteArray) (i:Nat) (hi:i<ps.length) (hs:ps[i].size≤1048576) (out:List (List Int)) (ho:out.length≤1048600):∀(d j k:Nat) (row:List Int),j+d=ps[i].size→2*d<k→row.length≤j→
  fN.l1 k out ps (i:Int) row (j:Int)=(match bytesP ps[i] d j with|none=>some ([],false)|some r=>fN.l0 (k - 2*d - 1) (out ++ [row ++ r]) ps (wrap64 ((i:Int)+1))):=by
 intro d
 induction d with
 |zero=>
  intro j k row hj hk hr
  obtain⟨k,rfl⟩:=sk k
  simp only[fN.l1]
  rw[ip om,ip om,part_at ps i hi,ig om,ip om]
  simp[bytesP]
 |succ d ih=>
  intro j k row hj hk hr
  obtain⟨k,rfl⟩:∃m,k=m+2:=⟨k - 2,by omega⟩
  have hb:=bt_bd ps[i] (j:Int)
  rw[show k+2=(k+1)+1 from rfl]
  simp only[fN.l1]
  rw[ip om,ip om,part_at ps i hi,ip om,ip om,bytesP]
  simp only[fN.j2]
  generalize bt ps[i] (j:Int)=c at hb ⊢
  have hgo:∀y:Int,fN.l1 k out ps (i:Int) (row ++ [y]) (wrap64 ((j:Int)+1))=(match (match bytesP ps[i] d (j+1) with|none=>none|some r=>some (y :: r)) with|none=>some ([],false)|some r=>fN.l0 (k+1+1 - 2*(d+1) - 1) (out ++ [row ++ r]) ps (wrap64 ((i:Int)+1))):=by
   intro y
   rw[w_id (a:=(j:Int)+1) om om,show((j:Int)+1)=((j+1:Nat):Int) by omega,ih (j+1) k _ om om (by rw[List.length_append];simp;omega)]
   cases bytesP ps[i] d (j+1) with
   |none=>rfl
   |some r=>
    show fN.l0 _ _ _ _=fN.l0 _ _ _ _
    rw[List.append_assoc,show k+1+1 - 2*(d+1) - 1=k - 2*d - 1 by omega]
    rfl
  unfold letP
  by_cases h1:97≤c
  ·rw[ip h1]
   by_cases h2:c≤105
   ·rw[ip (by simpa using h2),ip (show row.length<17592186044416 by omega),ip (show 97≤c∧c≤105 from⟨h1,h2⟩),w_id (a:=c) om om,w_id (a:=c - 97) om om,w_id om om,hgo,show c - 97+1=c - 96 by omega]
   ·rw[ig (by simpa using h2),ig (show ¬(97≤c∧c≤105)from fun h=>h2 h.2),ip (show c ≥ 65 by omega),ig om,ig (show ¬(65≤c∧c≤73) by omega)]
  ·rw[ig h1,ig (show ¬(false=true) by decide),ig (show ¬(97≤c∧c≤105)from fun h=>h1 h.1)]
   by_cases h3:65≤c
   ·rw[ip h3]
    by_cases h4:c≤73
    ·rw[ip h4,ip (show row.length<17592186044416 by omega),ip (show 65≤c∧c≤73 from⟨h3,h4⟩),w_id (a:=c) om om,w_id (a:=c - 65) om om,w_id (a:=c - 65+1) om om,w_id om om,hgo,show -(c - 65+1)=64 - c by omega]
    ·rw[ig h4,ig (show ¬(65≤c∧c≤73)from fun h=>h4 h.2)]
   ·rw[ig h3,ig (show ¬(65≤c∧c≤73)from fun h=>h3 h.1)]
theorem mP (ps:List ByteArray) (hps:∀p∈ps,p.size≤1048576) (hn:ps.length≤1048590):∀(d i k:Nat) (out:List (List Int)),i+d=ps.length→2*sizes (ps.drop i)+6000002<k→out.length≤i→fN.l0 k out ps (i:Int)=some (parseR (ps.drop i) out):=by
 intro d
 induction d with
 |zero=>
  intro i k out hi hk ho
  obtain⟨k,rfl⟩:=sk k
  simp only[fN.l0]
  rw[ig om,spec_isT' out om k om,Option.bind_some,List.drop_of_length_le om,parseR]
  split <;> rfl
 |succ d ih=>
  intro i k out hi hk ho
  obtain⟨k,rfl⟩:=sk k
  have hlt:i<ps.length:=by omega
  have hs:=hps _ (List.getElem_mem hlt)
  rw[List.drop_eq_getElem_cons hlt,sizes]at hk
  have:=mQ ps i hlt hs out om ps[i].size 0 k [] om om (by simp)
  simp only[fN.l0]
  rw[show((0:Nat):Int)=0 from rfl]at this
  rw[ip om,this,List.drop_eq_getElem_cons hlt,parseR]
  cases bytesP ps[i] ps[i].size 0 with
  |none=>rfl
  |some r=>
   show fN.l0 _ _ _ _=some (parseR _ _)
   rw[List.nil_append,w_id om om,show((i:Int)+1)=((i+1:Nat):Int) by omega,ih (i+1) _ _ om om (by rw[List.length_append];simp;omega)]
theorem parse_true:∀(ps:List ByteArray) (out o:List (List Int)),parseR ps out=(o,true)→isT o=true∧o.length=out.length+ps.length∧tot o+o.length=tot out+out.length+sizes ps
 |[],out,o,h=>by
  rw[parseR]at h
  by_cases c:isT out=true
  ·rw[ip c]at h
   injection h with h _
   subst h
   exact⟨c,rfl,rfl⟩
  ·rw[ig c]at h
   injection h with _ h
   exact absurd h (by decide)
 |p :: ps,out,o,h=>by
  rw[parseR]at h
  cases hb:bytesP p p.size 0 with
  |none=>rw[hb]at h;injection h with _ h;exact absurd h (by decide)
  |some r=>
   rw[hb]at h
   obtain⟨h1,h2,h3⟩:=parse_true ps (out ++ [r]) o h
   have hl:=bytesP_len p _ _ r hb
   have ta:∀a:List (List Int),tot (a ++ [r])=tot a+r.length:=by
    intro a
    induction a with
    |nil=>simp[tot]
    |cons x a ih=>rw[List.cons_append,tot,tot,ih];omega
   rw[ta,List.length_append,List.length_singleton]at h3
   rw[List.length_append,List.length_singleton]at h2
   rw[List.length_cons,sizes]
   exact⟨h1,by omega,by omega⟩
theorem parse_false:∀(ps:List ByteArray) (out:List (List Int)),parseR ps out=([],false)∨∃o,parseR ps out=(o,true)
 |[],out=>by
  rw[parseR]
  split
  ·exact .inr ⟨_,rfl⟩
  ·exact .inl rfl
 |p :: ps,out=>by
  rw[parseR]
  split
  ·exact .inl rfl
  ·exact parse_false ps _
/-- The triangulation with a text. -/
def parseT (x:ByteArray):List (List Int) × Bool:=parseR (partsR x 32 x.size 0 0) []
theorem tot_three:∀(o:List (List Int)),(∀r∈o,r.length=3)→tot o=3*o.length
 |[],_=>rfl
 |r :: rs,h=>by
  rw[tot,h r List.mem_cons_self,tot_three rs (fun x hx=>h x (List.mem_cons_of_mem _ hx)),List.length_cons]
  omega
theorem parseT_cases (x:ByteArray) (hx:x.size≤1048576):parseT x=([],false)∨∃o,parseT x=(o,true)∧isT o=true∧o.length≤6∧(∀r∈o,r.length=3)∧x.size≤36:=by
 unfold parseT
 rcases parse_false (partsR x 32 x.size 0 0) []with h|⟨o,h⟩
 ·exact .inl h
 ·obtain⟨h1,h2,h3⟩:=parse_true _ _ _ h
  have hl:=parts_len x 32 x.size 0 0
  have hs:=parts_sizes x 32 x.size 0 0 om om
  rw[List.length_nil]at h2
  have ok:=isT_ok' (t:=o) om h1
  have hsh:=ok.short
  have ht:=tot_three o ok.row
  refine .inr ⟨o,h,h1,hsh.1,ok.row,?_⟩
  rw[hs]at h3
  simp only[tot,List.length_nil]at h3
  omega
theorem part_size (x:ByteArray) (b:Int):∀(d a i:Nat),∀p∈partsR x b d a i,p.size≤x.size
 |0,a,i,p,hp=>by
  rw[partsR,List.mem_singleton]at hp
  rw[hp,ByteArray.size_extract]
  omega
 |d+1,a,i,p,hp=>by
  rw[partsR]at hp
  split at hp
  ·rcases List.mem_cons.1 hp with rfl|hp
   ·rw[ByteArray.size_extract];omega
   ·exact part_size x b d _ _ p hp
  ·exact part_size x b d _ _ p hp
theorem pO (x:ByteArray) (hx:x.size≤1048576) (k:Nat) (hk:9000000<k):fN.f k x=some (parseT x):=by
 unfold fN.f parseT
 have hl:=parts_len x 32 x.size 0 0
 have hs:=parts_sizes x 32 x.size 0 0 om om
 rw[pR x hx 32 k om,Option.bind_some]
 have:=mP (partsR x 32 x.size 0 0) (fun p hp=>Nat.le_trans (part_size x 32 _ _ _ p hp) hx) om _ 0 k [] (Nat.zero_add _) (by rw[List.drop_zero,hs];omega) (by simp)
 rw[List.drop_zero]at this
 exact this
end Go.Proofs.Ytemeiocmgbgikaa.L

namespace Go.Proofs.Ytemeiocmgbgikaa.L
open Go Go.RowKit Go.Proofs.Ytemeiocmgbgikaa.P Go.Proofs.Ytemeiocmgbgikaa.Help Go.Proofs.YtemeiocmgbgikaaW.PrintWords
set_option linter.unusedVariables false
set_option linter.unusedSimpArgs false
/-- The texts of the drawn triangulations. -/
def L6:List ByteArray:=[(⟨#[97,98,99,32,65,66,67]⟩:ByteArray),(⟨#[97,98,99,32,65,67,66]⟩:ByteArray),(⟨#[97,98,99,32,65,100,101,32,66,68,102,32,67,70,69]⟩:ByteArray),(⟨#[97,98,67,32,66,100,101,32,99,68,102,32,65,69,70]⟩:ByteArray),(⟨#[97,98,99,32,65,100,101,32,66,102,68,32,67,70,69]⟩:ByteArray),(⟨#[97,98,99,32,65,100,101,32,102,66,103,32,68,69,104,32,67,72,105,32,70,73,71]⟩:ByteArray)]
theorem L6_ok:∀s∈L6,(parseT s).2=true∧s.size≤100:=by decide+kernel
/-- The drawn triangulations, and those with one letter turned. -/
def T30:List (List (List Int)):=L6.flatMap fun s=>(parseT s).1 :: [0,2,(-1),9].map fun v=>(parseT s).1.set 0 (((parseT s).1.getD 0 []).set 0 v)
theorem T30_mem {s:ByteArray} (h:s∈L6):(parseT s).1∈T30:=List.mem_flatMap.2 ⟨s,h,by simp⟩
theorem T30_set {s:ByteArray} (h:s∈L6){v:Int} (hv:v∈[0,2,(-1),9]):(parseT s).1.set 0 (((parseT s).1.getD 0 []).set 0 v)∈T30:=List.mem_flatMap.2 ⟨s,h,List.mem_cons_of_mem _ (List.mem_map.2 ⟨v,hv,rfl⟩)⟩
theorem tri15_eq (k:Nat) (b:List Int) (i h:Int):jU.f k b i h=(jS.f b i h L6).bind fun bt=>(fN.f k bt.1).bind fun p=>if(p.1.length:Int)=0 then none else some (p.1,bt.2.1,bt.2.2):=rfl
theorem tri15_ok {b:List Int}{i:Int} (h:Int) (hc:Cur b i) (k:Nat) (hk:9000000<k):∃t i' h',jU.f k b i h=some (t,i',h')∧isT t=true∧t.length≤6∧Cur b i'∧∃s∈L6,t=(parseT s).1:=by
 rw[tri15_eq]
 obtain⟨s,i1,h1,e1,hs,c1⟩:=pick_ok h L6 hc (by decide)
 obtain⟨g1,g2⟩:=L6_ok s hs
 rw[e1,Option.bind_some]
 dsimp only
 rw[pO s om k hk,Option.bind_some]
 rcases parseT_cases s om with p|⟨o,p,q1,q2,_⟩
 ·rw[p]at g1
  exact absurd g1 (by simp)
 ·have:=(isT_ok om q1).short
  rw[p]
  dsimp only
  rw[ig om]
  exact⟨o,i1,h1,rfl,q1,q2,c1,s,hs,by rw[p]⟩
theorem addL_bd:∀(x y:List Int) (p q:Int),(∀a∈x,0≤a∧a≤p)→(∀a∈y,0≤a∧a≤q)→∀a∈addL x y,0≤a∧a≤p+q
 |[],y,p,q,hx,hy,a,ha=>by simp[addL]at ha
 |u :: x,[],p,q,hx,hy,a,ha=>by simp[addL]at ha
 |u :: x,v :: y,p,q,hx,hy,a,ha=>by
  have h1:=hx u (by simp)
  have h2:=hy v (by simp)
  simp only[addL,List.mem_cons]at ha
  rcases ha with rfl|ha
  ·omega
  ·exact addL_bd x y p q (fun z hz=>hx z (by simp[hz])) (fun z hz=>hy z (by simp[hz])) a ha
theorem ring_two {t:List (List Int)}{n:Nat}{c:Int}:∀a∈aroundR t n c,0≤a∧a≤2:=by
 intro a ha
 unfold aroundR at ha
 obtain⟨q,_,rfl⟩:=List.mem_map.1 ha
 have:=valE_bd t c ((q:Int)+1)
 omega
theorem co_all {x:List Int} (h:∀a∈x,0≤a∧a≤200):x.all co=true:=by
 rw[List.all_eq_true]
 intro a ha
 unfold co
 rw[decide_eq_true_iff]
 exact h a ha
theorem getD_tt {t:List (List Int)} (h:0<t.length):t.getD 0 []=t[0]:=by
 simp[List.getD_eq_getElem?_getD,List.getElem?_eq_getElem h]
/-- What a draw tells. -/
structure Good (b:List Int) (t:List (List Int)) (x:List Int) (i:Int):Prop where
 len:t.length≤6
 row:∀r∈t,r.length=3
 xs:x.length≤9
 cur:Cur b i
 mem:t∈T30
theorem draw_end {b:List Int}{t:List (List Int)}{n:Nat} (ok:TriOk t (n:Int)) (ex:∃s∈L6,t=(parseT s).1) (k:Nat) (x:List Int) (i h:Int) (x8:Int) (h8:¬x8<12) (hc:Cur b i) (hx:x.length=n) (hk:0<k):∃t' x' i' h',fQ.l1 k t x x8 b i h=some (t',x',i',h')∧Good b t' x' i':=by
 obtain⟨k,rfl⟩:=sk k
 have n3:=ok.n3
 have n9:=ok.n9
 have hs:=ok.short
 obtain⟨z,hz,ez⟩:=ex
 have hm:t∈T30:=by rw[ez];exact T30_mem hz
 simp only[fQ.l1]
 rw[ig h8]
 obtain⟨a,i1,h1,e1,_,_,c1⟩:=below_ok h 18 hc (by decide)
 rw[e1,Option.bind_some]
 dsimp only
 by_cases a0:a=0
 ·rw[ip a0]
  obtain⟨v,i2,h2,e2,_,c2⟩:=pickInt_ok h1 [(-1),201,1,3] c1 (by decide)
  rw[e2,Option.bind_some,ip om]
  exact⟨_,_,_,_,rfl,by omega,ok.row,by rw[List.length_set];omega,c2,hm⟩
 ·rw[ig a0]
  by_cases a1:a=1
  ·rw[ip a1,ip om]
   exact⟨_,_,_,_,rfl,by omega,ok.row,by rw[List.length_drop];omega,c1,hm⟩
  ·rw[ig a1]
   by_cases a2:a=2
   ·have r0:rd_L1 t 0=t[0]:=rdL_nat t 0 om
    have l3:t[0].length=3:=ok.three om
    obtain⟨v,i2,h2,e2,hv,c2⟩:=pickInt_ok h1 [0,2,(-1),9] c1 (by decide)
    have ht0:t.set 0 (t[0].set 0 v)∈T30:=by
     have:=T30_set hz hv
     rw[←ez]at this
     rwa [getD_tt om]at this
    rw[ip a2,ip om,e2,Option.bind_some,r0,ip om]
    refine⟨_,_,_,_,rfl,by rw[List.length_set];omega,?_,by omega,c2,ht0⟩
    intro r hr
    rcases List.mem_or_eq_of_mem_set hr with hr|rfl
    ·exact ok.row r hr
    ·rw[List.length_set];exact l3
   ·rw[ig a2]
    exact⟨_,_,_,_,rfl,by omega,ok.row,by omega,c1,hm⟩
theorem set_co {x:List Int}{p:Nat}{v:Int} (h:∀a∈x,0≤a∧a≤200) (hv:0≤v∧v<7):∀a∈x.set p v,0≤a∧a≤200:=by
 intro a ha
 rcases List.mem_or_eq_of_mem_set ha with ha|rfl
 ·exact h a ha
 ·omega
theorem draw_l1 {b:List Int}{t:List (List Int)}{n:Nat} (ok:TriOk t (n:Int)) (ex:∃s∈L6,t=(parseT s).1) (ht:t.length≤1048576):∀(d k:Nat) (x:List Int) (x8 i h:Int),x8+(d:Int)=12→0≤x8→Cur b i→x.length=n→(∀a∈x,0≤a∧a≤200)→9000000+d<k→∃t' x' i' h',fQ.l1 k t x x8 b i h=some (t',x',i',h')∧Good b t' x' i'
 |0,k,x,x8,i,h,e8,p8,hc,hx,hb,hk=>draw_end ok ex k x i h x8 om hc hx om
 |d+1,k,x,x8,i,h,e8,p8,hc,hx,hb,hk=>by
  obtain⟨k,rfl⟩:=sk k
  have n3:=ok.n3
  have n9:=ok.n9
  simp only[fQ.l1]
  rw[ip om,Option.bind_some,ip (by simp;omega),Option.bind_some,List.nil_append]
  obtain⟨p,i1,h1,e1,p0,p1,c1⟩:=below_ok h (x.length:Int) hc om
  rw[e1,Option.bind_some]
  dsimp only
  obtain⟨v,i2,h2,e2,v0,v1,c2⟩:=below_ok h1 7 c1 (by decide)
  rw[e2,Option.bind_some]
  dsimp only
  rw[ip p0,ip p1]
  obtain⟨q,i3,h3,e3,q0,q1,c3⟩:=below_ok h2 (x.length:Int) c2 om
  rw[e3,Option.bind_some]
  dsimp only
  obtain⟨u,i4,h4,e4,u0,u1,c4⟩:=below_ok h3 7 c3 (by decide)
  rw[e4,Option.bind_some]
  dsimp only
  rw[ip q0,ip q1,Option.bind_some,jT t ht _ k om,Option.bind_some,w_id (a:=x8+1) om om]
  by_cases f:isF t ((x.set p.toNat v).set q.toNat u)=true
  ·rw[ip f]
   exact draw_l1 ok ex ht d k _ (x8+1) i4 h4 om om c4 (by rw[List.length_set,List.length_set];exact hx) (set_co (set_co hb ⟨v0,v1⟩) ⟨u0,u1⟩) om
  ·rw[ig f]
   exact draw_l1 ok ex ht d k _ (x8+1) i4 h4 om om c4 hx hb om
theorem draw_l0 {b:List Int}{t:List (List Int)}{n:Nat} (ok:TriOk t (n:Int)) (ex:∃s∈L6,t=(parseT s).1) (ht:t.length≤1048576):∀(d k:Nat) (x:List Int) (x6 i h:Int),x6≤(d:Int)→d≤3→Cur b i→x.length=n→(∀a∈x,0≤a∧a≤2*(3 - (d:Int)))→9000100+d<k→∃t' x' i' h',fQ.l0 k t x x6 b i h=some (t',x',i',h')∧Good b t' x' i':=by
 intro d
 induction d with
 |zero=>
  intro k x x6 i h e6 _ hc hx hb hk
  obtain⟨k,rfl⟩:=sk k
  simp only[fQ.l0]
  rw[ig om]
  exact draw_l1 ok ex ht 12 k x 0 i h (by decide) (by decide) hc hx (fun a ha=>by have:=hb a ha;omega) om
 |succ d ih=>
  intro k x x6 i h e6 d3 hc hx hb hk
  obtain⟨k,rfl⟩:=sk k
  have n3:=ok.n3
  have n9:=ok.n9
  have hs:=ok.short
  simp only[fQ.l0]
  by_cases c:x6>0
  ·rw[ip c]
   obtain⟨p,i1,h1,e1,p0,p1,c1⟩:=below_ok h (t.length:Int) hc om
   rw[e1,Option.bind_some]
   dsimp only
   obtain⟨q,i2,h2,e2,q0,q1,c2⟩:=below_ok h1 3 c1 (by decide)
   rw[e2,Option.bind_some]
   dsimp only
   obtain⟨p,rfl⟩:=Int.eq_ofNat_of_zero_le p0
   obtain⟨q,rfl⟩:=Int.eq_ofNat_of_zero_le q0
   have hy:=aroundR_len t n (cor p (q+1))
   have hb2:=addL_bd x (aroundR t n (cor p (q+1))) _ 2 hb ring_two
   have ha:addR x (aroundR t n (cor p (q+1)))=(addL x (aroundR t n (cor p (q+1))),true):=by
    unfold addR
    rw[ip ⟨by omega,co_all (fun a ha=>by have:=hb a ha;omega),ring_co,co_all (fun a ha=>by have:=hb2 a ha;omega)⟩]
   rw[mJ ok (i:=p) (j:=q) om om k om,Option.bind_some,pS x _ om k om,ha,Option.bind_some,w_id (a:=x6 - 1) om om]
   dsimp only
   exact ih k _ (x6 - 1) i2 h2 om om c2 (by rw[addL_leq _ _ om];exact hx) (fun a ha=>by have:=hb2 a ha;omega) om
  ·rw[ig c]
   exact draw_l1 ok ex ht 12 k x 0 i h (by decide) (by decide) hc hx (fun a ha=>by have:=hb a ha;omega) om
theorem draw15_ok {b:List Int}{i:Int} (h:Int) (hc:Cur b i) (k:Nat) (hk:9001000<k):∃t x i' h',fQ.f k b i h=some (t,x,i',h')∧Good b t x i':=by
 unfold fQ.f
 obtain⟨t,i1,h1,e1,hT,hl,c1,ex⟩:=tri15_ok h hc k om
 have ok0:=isT_ok om hT
 obtain⟨n,hn⟩:∃n:Nat,edges t=(n:Int):=⟨(edges t).toNat,by have:=ok0.n3;omega⟩
 have ed:wrap64 (Int.tdiv (wrap64 (3*(t.length:Int))) 2)=(n:Int):=hn
 rw[hn]at ok0
 have n9:=ok0.n9
 clear hn
 rw[e1,Option.bind_some]
 dsimp only
 rw[ed,ip om,ip om]
 obtain⟨a,i2,h2,e2,a0,a1,c2⟩:=below_ok h1 3 c1 (by decide)
 rw[e2,Option.bind_some]
 dsimp only
 rw[w_id (a:=1+a) om om,Int.toNat_natCast]
 exact draw_l0 ok0 ex om 3 k _ _ i2 h2 om om c2 (by simp) (fun z hz=>by obtain⟨_,rfl⟩:=List.mem_replicate.1 hz;omega) om
theorem case16_ok (l:List Int) (hl:l.length≤1048576) (k:Nat) (hk:9001000<k):∃t x e,jP.f k l=some (t,x,e)∧Good l t x 0:=by
 unfold jP.f
 obtain⟨h0,e0⟩:=new_ok l hl k om
 rw[e0,Option.bind_some]
 dsimp only
 obtain⟨t,x,i1,h1,e1,g⟩:=draw15_ok h0 (Cur.start hl) k hk
 rw[e1,Option.bind_some]
 dsimp only
 obtain⟨a,i2,h2,e2,_,_,c2⟩:=below_ok h1 7 g.cur (by decide)
 rw[e2,Option.bind_some]
 dsimp only
 obtain⟨o,i3,h3,e3,c3⟩:=once_ok h2 14 c2 (by decide)
 rw[e3,Option.bind_some]
 dsimp only
 rw[bit_ok,Option.bind_some]
 exact⟨t,x,_,rfl,g.len,g.row,g.xs,Cur.start hl,g.mem⟩
theorem drawFC_ok (l:List Int) (hl:l.length≤1048576) (k:Nat) (hk:9001000<k):∃t x e,jN.f k l=some (t,x,e)∧Good l t x 0:=by
 unfold jN.f
 obtain⟨t,x,e,h,g⟩:=case16_ok l hl k hk
 rw[h]
 exact⟨t,x,e,rfl,g⟩
theorem drawRE_ok (l:List Int) (hl:l.length≤1048576) (k:Nat) (hk:9001000<k):∃t e,jJ.f k l=some (t,e)∧t.length≤6∧∀r∈t,r.length=3:=by
 unfold jJ.f
 obtain⟨t,x,e,h,g⟩:=case16_ok l hl k hk
 rw[h]
 exact⟨t,e,rfl,g.len,g.row⟩
theorem turn_any {r:List Int} (h:r.length=3){n:Nat} (hn:n<6):∃q,gM.f r (n:Int)=some q:=by
 match r,h with
 |[a,b,c],_=>
  have l3:(([a,b,c]:List Int).length:Int)=3:=rfl
  match n,hn with
  |0,_=>exact⟨[a,b,c],rfl⟩
  |1,_=>exact⟨[b,c,a],rfl⟩
  |2,_=>exact⟨[c,a,b],rfl⟩
  |3,_=>exact⟨[a,b,c],by unfold gM.f;rw[l3];rfl⟩
  |4,_=>exact⟨[b,c,a],by unfold gM.f;rw[l3];rfl⟩
  |5,_=>exact⟨[c,a,b],by unfold gM.f;rw[l3];rfl⟩
theorem drawST_l0 {t:List (List Int)} (h6:t.length≤6) (h3:∀r∈t,r.length=3):∀(d k:Nat) (out:List (List Int)),d≤t.length→out.length+d≤6→10+d<k→∃b,fM.l0 k t out ((d:Int) - 1)=some (t,b)∧b.length≤6
 |0,k,out,_,ho,hk=>by
  obtain⟨k,rfl⟩:=sk k
  refine⟨out,?_,by omega⟩
  simp only[fM.l0]
  rw[ig om]
 |d+1,k,out,hd,ho,hk=>by
  obtain⟨k,rfl⟩:=sk k
  have hlt:d<t.length:=by omega
  obtain⟨q,eq⟩:=turn_any (h3 t[d] (List.getElem_mem hlt)) (n:=d) om
  obtain⟨b,e,hb⟩:=drawST_l0 h6 h3 d k (out ++ [q]) om (by rw[List.length_append];simp;omega) om
  refine⟨b,?_,hb⟩
  simp only[fM.l0]
  rw[show(((d+1:Nat):Int) - 1)=(d:Int) by omega,ip om,ip om,ip om,rdL_nat t d hlt,eq,Option.bind_some,ip om,w_id om om]
  exact e
theorem drawST_ok (l:List Int) (hl:l.length≤1048576) (k:Nat) (hk:9001000<k):∃a b,fM.f k l=some (a,b)∧a.length≤1048576∧b.length≤1048576:=by
 unfold fM.f
 obtain⟨t,x,e,h,g⟩:=case16_ok l hl k hk
 have t6:=g.len
 have ht:t.length≤1048576:=by omega
 have hr:∀r∈t,r.length≤1048576:=fun r h=>by have:=g.row r h;omega
 rw[h,Option.bind_some]
 dsimp only
 rw[mH t ht hr e k om,Option.bind_some]
 have bd:=flipE_bd t ht e
 have j0:∀b:Bool,∃p q,fM.j0 k t (flipE t e).1 b=some (p,q)∧p.length≤1048576∧q.length≤1048576:=by
  intro b
  obtain⟨k,rfl⟩:=sk k
  simp only[fM.j0]
  cases b with
  |true=>
   rw[ip rfl]
   exact⟨_,_,rfl,ht,bd.1⟩
  |false=>
   obtain⟨b,e1,hb⟩:=drawST_l0 t6 g.row t.length k [] (Nat.le_refl _) (by simp;omega) om
   rw[ig (by simp),w_id om om,e1]
   exact⟨_,_,rfl,ht,by omega⟩
 by_cases c:(flipE t e).2=true
 ·rw[ip c]
  by_cases c2:(l.length:Int)>0
  ·rw[ip c2,ip c2]
   exact j0 _
  ·rw[ig c2]
   exact j0 _
 ·rw[ig c]
  exact j0 _
end Go.Proofs.Ytemeiocmgbgikaa.L

namespace Go.Proofs.Ytemeiocmgbgikaa.L
open Go.RowKit Go.Proofs.Ytemeiocmgbgikaa.P Go.Proofs.Ytemeiocmgbgikaa.Help Go.Proofs.YtemeiocmgbgikaaW.PrintWords
set_option linter.unusedVariables false
set_option linter.unusedSimpArgs false

def sumL:List Int→Int
 |[]=>0
 |x :: xs=>x+sumL xs
theorem sumL_bd:∀(xs:List Int),xs.all co=true→0≤sumL xs∧sumL xs≤200*xs.length
 |[],_=>by simp[sumL]
 |x :: xs,h=>by
  rw[List.all_cons,Bool.and_eq_true]at h
  have:=sumL_bd xs h.2
  have:=co_true h.1
  rw[sumL,List.length_cons]
  omega
theorem pK (xs:List Int) (hx:xs.length≤1048576):∀(d k i:Nat) (n:Int),i+d=xs.length→d<k→0≤n→n≤200*i→gK.l0 k xs n (i:Int)=some (if(xs.drop i).all co=true then n+sumL (xs.drop i)else -1):=by
 intro d
 induction d with
 |zero=>
  intro k i n hi hk h0 h1
  obtain⟨k,rfl⟩:=sk k
  simp only[gK.l0]
  rw[ig om,List.drop_of_length_le om]
  simp[sumL]
 |succ d ih=>
  intro k i n hi hk h0 h1
  obtain⟨k,rfl⟩:=sk k
  have hlt:i<xs.length:=by omega
  simp only[gK.l0]
  rw[ip om,ip om,l1In_eq,Option.bind_some,rd_nat xs i hlt,List.drop_eq_getElem_cons hlt,List.all_cons,sumL]
  by_cases h:0≤xs[i]∧xs[i]≤200
  ·have hc:co xs[i]=true:=decide_eq_true h
   rw[ip (decide_eq_true h),w_id (a:=n+xs[i]) om om,w_id om om,show((i:Int)+1)=((i+1:Nat):Int) by omega,ih k (i+1) _ om om om om,hc,Bool.true_and]
   split
   ·congr 1;omega
   ·rfl
  ·have hc:co xs[i]=false:=decide_eq_false h
   rw[ig (by simpa using h),hc,Bool.false_and,ig (by decide)]
theorem pE (xs:List Int) (hx:xs.length≤1048576) (hc:xs.all co=true):∀(d k i:Nat) (n:Int),i+d=xs.length→d<k→0≤n→n≤200*i→gC.l0 k n xs (xs.length:Int) (i:Int)=some (n+sumL (xs.drop i)):=by
 intro d
 induction d with
 |zero=>
  intro k i n hi hk h0 h1
  obtain⟨k,rfl⟩:=sk k
  simp only[gC.l0]
  rw[ig om,List.drop_of_length_le om]
  simp[sumL]
 |succ d ih=>
  intro k i n hi hk h0 h1
  obtain⟨k,rfl⟩:=sk k
  have hlt:i<xs.length:=by omega
  have h:=all_co hc xs[i] (List.getElem_mem hlt)
  simp only[gC.l0]
  rw[ip om,ip om,ip om,rd_nat xs i hlt,w_id (a:=n+xs[i]) om om,w_id om om,show((i:Int)+1)=((i+1:Nat):Int) by omega,ih k (i+1) _ om om om om,List.drop_eq_getElem_cons hlt,sumL]
  congr 1
  omega
def sumR (xs:List Int):Int:=if xs.all co=true then sumL xs else -1
theorem mN (xs:List Int) (hx:xs.length≤1048576) (k:Nat) (hk:1048576<k):gK.f k xs=some (sumR xs):=by
 unfold gK.f sumR
 have:=pK xs hx xs.length k 0 0 om om om om
 rw[List.drop_zero,Int.zero_add]at this
 exact this
theorem mC (xs:List Int) (hx:xs.length≤1048576) (k:Nat) (hk:1048576<k):gC.f k xs=some (sumR xs):=by
 unfold gC.f sumR
 rw[areCo xs om k om,Option.bind_some]
 by_cases h:xs.all co=true
 ·rw[ip h,ip h]
  have:=pE xs hx h xs.length k 0 0 om om om om
  rw[List.drop_zero,Int.zero_add]at this
  exact this
 ·rw[ig h,ig h]
def goB (t:List (List Int)) (x:List Int):Nat→Int→Int→Int→Int
 |0,_,best,_=>best
 |d+1,e,best,least=>if(flipC t x e).2=true then(if sumR (flipC t x e).1<least then goB t x d (e+1) e (sumR (flipC t x e).1)else goB t x d (e+1) best least)else goB t x d (e+1) best least
theorem mV (t:List (List Int)) (ht:t.length≤1048576) (x:List Int) (hx:x.length≤1048576):∀(d k:Nat) (e best least:Int),e+d=(x.length:Int)+1→1≤e→6000100+d<k→gF.l0 k t x least best e=some (goB t x d e best least):=by
 intro d
 induction d with
 |zero=>
  intro k e best least he h1 hk
  obtain⟨k,rfl⟩:=sk k
  simp only[gF.l0]
  rw[ig om]
  rfl
 |succ d ih=>
  intro k e best least he h1 hk
  obtain⟨k,rfl⟩:=sk k
  have hl:=flipC_len t ht x e
  have s:=mN (flipC t x e).1 om k om
  simp only[gF.l0]
  rw[ip om,mA t ht x e k om,Option.bind_some,w_id (a:=e+1) om om,s,Option.bind_some,Option.bind_some,goB]
  by_cases c:(flipC t x e).2=true
  ·rw[ip c,ip c]
   by_cases c2:sumR (flipC t x e).1<least
   ·rw[ip c2,ip c2,ih k _ _ _ om om om]
   ·rw[ig c2,ig c2,ih k _ _ _ om om om]
  ·rw[ig c,ig c,ih k _ _ _ om om om]
theorem mS (t:List (List Int)) (ht:t.length≤1048576) (hr:∀r∈t,r.length≤1048576) (x:List Int) (hx:x.length≤1048576):∀(d k:Nat) (e best least:Int),e+d=(x.length:Int)+1→1≤e→6000100+d<k→gE.l0 k t x best least e=some (goB t x d e best least):=by
 intro d
 induction d with
 |zero=>
  intro k e best least he h1 hk
  obtain⟨k,rfl⟩:=sk k
  simp only[gE.l0]
  rw[ig om]
  rfl
 |succ d ih=>
  intro k e best least he h1 hk
  obtain⟨k,rfl⟩:=sk k
  have hl:=flipC_len t ht x e
  have s:=mC (flipC t x e).1 om k om
  simp only[gE.l0]
  rw[ip om,jZ t ht hr x hx e k om,Option.bind_some,w_id (a:=e+1) om om,s,Option.bind_some,Option.bind_some,goB]
  by_cases c:(flipC t x e).2=true
  ·rw[ip c,ip c]
   by_cases c2:sumR (flipC t x e).1<least
   ·rw[ip c2,ip c2,ih k _ _ _ om om om]
   ·rw[ig c2,ig c2,ih k _ _ _ om om om]
  ·rw[ig c,ig c,ih k _ _ _ om om om]
def bestR (t:List (List Int)) (x:List Int):Int:=if isF t x=true then goB t x x.length 1 0 (sumR x)else 0
theorem mL (t:List (List Int)) (ht:t.length≤1048576) (x:List Int) (hx:x.length≤1048576) (k:Nat) (hk:8000000<k):gF.f k t x=some (bestR t x):=by
 unfold gF.f bestR
 rw[jT t ht x k om,Option.bind_some]
 by_cases h:isF t x=true
 ·rw[ip h,ip h,mN x hx k om,Option.bind_some]
  exact mV t ht x hx x.length k 1 0 _ om om om
 ·rw[ig h,ig h]
theorem mE (t:List (List Int)) (ht:t.length≤1048576) (hr:∀r∈t,r.length≤1048576) (x:List Int) (hx:x.length≤1048576) (k:Nat) (hk:8000000<k):gE.f k t x=some (bestR t x):=by
 unfold gE.f bestR
 rw[mK t ht x k om,Option.bind_some]
 by_cases h:isF t x=true
 ·rw[ip h,ip h,mC x hx k om,Option.bind_some]
  exact mS t ht hr x hx x.length k 1 0 _ om om om
 ·rw[ig h,ig h]
theorem goB_lt (t:List (List Int)) (x:List Int) (S:Int):∀(d:Nat) (e best least:Int),1≤e→least≤S→0≤best→(best≠0→sumR (flipC t x best).1=least∧least<S)→0≤goB t x d e best least∧(goB t x d e best least≠0→sumR (flipC t x (goB t x d e best least)).1<S):=by
 intro d
 induction d with
 |zero=>
  intro e best least he hl hb h
  exact⟨hb,fun hn=>by show sumR (flipC t x best).1<S;rw[(h hn).1];exact(h hn).2⟩
 |succ d ih=>
  intro e best least he hl hb h
  rw[goB]
  by_cases c:(flipC t x e).2=true
  ·rw[ip c]
   by_cases c2:sumR (flipC t x e).1<least
   ·rw[ip c2]
    exact ih (e+1) e _ om om om (fun _=>⟨rfl,by omega⟩)
   ·rw[ig c2]
    exact ih (e+1) best least om hl hb h
  ·rw[ig c]
   exact ih (e+1) best least om hl hb h
theorem best_lt (t:List (List Int)) (x:List Int):0≤bestR t x∧(bestR t x≠0→sumR (flipC t x (bestR t x)).1<sumR x):=by
 unfold bestR
 by_cases h:isF t x=true
 ·rw[ip h]
  exact goB_lt t x (sumR x) x.length 1 0 _ om (Int.le_refl _) (Int.le_refl _) (fun h=>absurd rfl h)
 ·rw[ig h]
  exact⟨Int.le_refl _,fun h=>absurd rfl h⟩
theorem sumL_nn:∀(xs:List Int),xs.all co=true→0≤sumL xs:=by
 intro xs
 induction xs with
 |nil=>intro _;exact Int.le_refl _
 |cons a xs ih=>
  intro h
  rw[List.all_cons,Bool.and_eq_true]at h
  have h1:=ih h.2
  have h2:0≤a:=by
   have:=h.1
   unfold co at this
   simp at this
   omega
  show 0≤a+sumL xs
  omega
theorem sumR_nn (xs:List Int): -1≤sumR xs:=by
 unfold sumR
 by_cases h:xs.all co=true
 ·rw[ip h]
  have:=sumL_nn xs h
  omega
 ·rw[ig h]
  omega
def shR:Nat→List (List Int)→List Int→List (List Int) × List Int × Bool
 |0,t,x=>(t,x,true)
 |d+1,t,x=>if bestR t x=0 then(t,x,true)else shR d (flipE t (bestR t x)).1 (flipC t x (bestR t x)).1
theorem pQ:∀(d k:Nat) (t:List (List Int)) (x:List Int),t.length≤1048576→(∀r∈t,r.length≤1048576)→x.length≤1048576→sumR x+1<d→9000000+d<k→jC.l0 k t x (bestR t x)=some (shR d t x):=by
 intro d
 induction d with
 |zero=>
  intro k t x h1 h2 h3 hd hk
  have:=sumR_nn x
  omega
 |succ d ih=>
  intro k t x h1 h2 h3 hd hk
  obtain⟨k,rfl⟩:=sk k
  obtain⟨b0,b1⟩:=best_lt t x
  simp only[jC.l0]
  rw[shR]
  by_cases h:bestR t x=0
  ·rw[ip h,ig om]
  ·have b2:=b1 h
   obtain⟨o1,o2,o3⟩:=flipE_bd t h1 (bestR t x)
   have o4:=flipC_len t h1 x (bestR t x)
   rw[ig h,ip om,mA t h1 x _ k om,Option.bind_some,mH t h1 h2 _ k om,Option.bind_some,mL _ o1 _ om k om,Option.bind_some]
   exact ih k _ _ o1 o2 om om om
theorem pN:∀(d k:Nat) (t:List (List Int)) (x:List Int),t.length≤1048576→(∀r∈t,r.length≤1048576)→x.length≤1048576→sumR x+1<d→9000000+d<k→jE.l0 k t x=some (shR d t x):=by
 intro d
 induction d with
 |zero=>
  intro k t x h1 h2 h3 hd hk
  have:=sumR_nn x
  omega
 |succ d ih=>
  intro k t x h1 h2 h3 hd hk
  obtain⟨k,rfl⟩:=sk k
  obtain⟨b0,b1⟩:=best_lt t x
  simp only[jE.l0]
  rw[mE t h1 h2 x h3 k om,Option.bind_some,shR]
  by_cases h:bestR t x=0
  ·rw[ip h,ip h]
  ·have b2:=b1 h
   obtain⟨o1,o2,o3⟩:=flipE_bd t h1 (bestR t x)
   have o4:=flipC_len t h1 x (bestR t x)
   rw[ig h,ig h,jZ t h1 h2 x h3 _ k om,Option.bind_some,mG t h1 h2 _ k om,Option.bind_some]
   exact ih k _ _ o1 o2 om om om
theorem shR_bd:∀(d:Nat) (t:List (List Int)) (x:List Int),t.length≤1048576→(∀r∈t,r.length≤1048576)→tot t≤2000000→x.length≤1048576→(shR d t x).1.length≤1048576∧(∀r∈(shR d t x).1,r.length≤1048576)∧tot (shR d t x).1≤2000000∧(shR d t x).2.1.length≤1048576:=by
 intro d
 induction d with
 |zero=>intro t x h1 h2 h3 h4;exact⟨h1,h2,h3,h4⟩
 |succ d ih=>
  intro t x h1 h2 h3 h4
  rw[shR]
  by_cases h:bestR t x=0
  ·rw[ip h]
   exact⟨h1,h2,h3,h4⟩
  ·rw[ig h]
   obtain⟨o1,o2,o3⟩:=flipE_bd t h1 (bestR t x)
   have o4:=flipC_len t h1 x (bestR t x)
   exact ih _ _ o1 o2 o3 om
def shF (t:List (List Int)) (x:List Int):List (List Int) × List Int × Bool:=if isF t x=true then shR ((sumR x).toNat+2) t x else([],[],false)
theorem sh_d (x:List Int):sumR x+1<(((sumR x).toNat+2:Nat):Int):=by
 have:=sumR_nn x
 omega
theorem pV (t:List (List Int)) (h1:t.length≤1048576) (h2:∀r∈t,r.length≤1048576) (x:List Int) (h3:x.length≤1048576) (k:Nat) (hk:9000002+(sumR x).toNat<k):jC.f k t x=some (shF t x):=by
 unfold jC.f shF
 rw[jT t h1 x k om,Option.bind_some]
 by_cases h:isF t x=true
 ·have y3:([]:List Int).length+x.length<17592186044416:=by simp;omega
  rw[ip h,ip h,l5Copy_f t h1 h2 k om,Option.bind_some,Option.bind_some,ip y3,Option.bind_some,List.nil_append,mL t h1 x h3 k om,Option.bind_some]
  exact pQ _ k t x h1 h2 h3 (sh_d x) om
 ·rw[ig h,ig h]
theorem pU (t:List (List Int)) (h1:t.length≤1048576) (h2:∀r∈t,r.length≤1048576) (x:List Int) (h3:x.length≤1048576) (k:Nat) (hk:9000002+(sumR x).toNat<k):jE.f k t x=some (shF t x):=by
 unfold jE.f shF
 rw[mK t h1 x k om,Option.bind_some]
 by_cases h:isF t x=true
 ·rw[ip h,ip h,copyRows_f t h1 h2 k om,Option.bind_some,copyOf_f x h3,Option.bind_some]
  exact pN _ k t x h1 h2 h3 (sh_d x) om
 ·rw[ig h,ig h]
theorem shF_bd (t:List (List Int)) (x:List Int) (h1:t.length≤1048576) (h2:∀r∈t,r.length≤1048576) (h3:tot t≤2000000) (h4:x.length≤1048576):(shF t x).1.length≤1048576∧(∀r∈(shF t x).1,r.length≤1048576)∧tot (shF t x).1≤2000000∧(shF t x).2.1.length≤1048576:=by
 unfold shF
 by_cases h:isF t x=true
 ·rw[ip h]
  exact shR_bd _ t x h1 h2 h3 h4
 ·rw[ig h]
  exact⟨by simp,by simp,by decide,by simp⟩
end Go.Proofs.Ytemeiocmgbgikaa.L

namespace Go.Proofs.Ytemeiocmgbgikaa.L
open Go Go.RowKit Go.Proofs.Ytemeiocmgbgikaa.P Go.Proofs.Ytemeiocmgbgikaa.Help Go.Proofs.YtemeiocmgbgikaaW.PrintWords
set_option linter.unusedVariables false
set_option linter.unusedSimpArgs false
theorem same_l0 (xs:List Int) (hx:xs.length≤1048576):∀(d k i:Nat),i+d=xs.length→d<k→gB.l0 k xs xs (i:Int)=some true:=by
 intro d
 induction d with
 |zero=>
  intro k i hi hk
  obtain⟨k,rfl⟩:=sk k
  simp only[gB.l0]
  rw[ig om]
 |succ d ih=>
  intro k i hi hk
  obtain⟨k,rfl⟩:=sk k
  simp only[gB.l0]
  rw[ip om,ip om,ip om]
  simp only[if_true]
  rw[w_id om om,show((i:Int)+1)=((i+1:Nat):Int) by omega,ih k (i+1) om om]
theorem same_f (xs:List Int) (hx:xs.length≤1048576) (k:Nat) (hk:1048576<k):gB.f k xs xs=some true:=by
 unfold gB.f
 rw[ip rfl]
 exact same_l0 xs hx xs.length k 0 om om
theorem sameL_l0 (xs:List (List Int)) (hx:xs.length≤1048576) (hr:∀r∈xs,r.length≤1048576):∀(d k i:Nat),i+d=xs.length→d+1048577<k→gG.l0 k xs xs (i:Int)=some true:=by
 intro d
 induction d with
 |zero=>
  intro k i hi hk
  obtain⟨k,rfl⟩:=sk k
  simp only[gG.l0]
  rw[ig om]
 |succ d ih=>
  intro k i hi hk
  obtain⟨k,rfl⟩:=sk k
  have hlt:i<xs.length:=by omega
  simp only[gG.l0]
  rw[ip om,ip om,ip om,rdL_nat xs i hlt,same_f _ (hr _ (List.getElem_mem hlt)) k om,Option.bind_some]
  rw[ip rfl,w_id om om,show((i:Int)+1)=((i+1:Nat):Int) by omega,ih k (i+1) om om]
theorem sameL_f (xs:List (List Int)) (hx:xs.length≤1048576) (hr:∀r∈xs,r.length≤1048576) (k:Nat) (hk:3000000<k):gG.f k xs xs=some true:=by
 unfold gG.f
 rw[ip rfl]
 exact sameL_l0 xs hx hr xs.length k 0 om om
end Go.Proofs.Ytemeiocmgbgikaa.L

namespace Go.Proofs.Ytemeiocmgbgikaa.L
open Go.RowKit Go.Proofs.Ytemeiocmgbgikaa.P Go.Proofs.Ytemeiocmgbgikaa.Help Go.Proofs.YtemeiocmgbgikaaW.PrintWords
set_option linter.unusedVariables false
set_option linter.unusedSimpArgs false
/-- The row from its least number on. -/
def turnR (a b c:Int):List Int:=if c<(if b<a then b else a) then[c,a,b] else(if b<a then[b,c,a] else[a,b,c])
def mm (a b c:Int):Int:=if c<(if b<a then b else a)then 2 else(if b<a then 1 else 0)
theorem turnR_len (a b c:Int):(turnR a b c).length=3:=by
 unfold turnR
 by_cases h1:b<a
 ·rw[ip h1,ip h1]
  split <;> rfl
 ·rw[ig h1,ig h1]
  split <;> rfl
theorem turn_mm (a b c:Int):gU.f [a,b,c] (mm a b c)=some (turnR a b c):=by
 unfold mm turnR
 by_cases h1:b<a
 ·simp only[ip h1]
  split <;> rfl
 ·simp only[ig h1]
  split <;> rfl
theorem l2t0 (a b c:Int):gM.f [a,b,c] 0=some [a,b,c]:=rfl
theorem l2t1 (a b c:Int):gM.f [a,b,c] 1=some [b,c,a]:=rfl
theorem l2t2 (a b c:Int):gM.f [a,b,c] 2=some [c,a,b]:=rfl
theorem imT_l1 {t out:List (List Int)}{i a b c:Int} (e:rd_L1 t i=[a,b,c]) (k:Nat):fA.l1 (k+4) t out i 0 0=fA.l2 k t out i (turnR a b c) (out.length:Int):=by
 have w1:wrap64 (0+1)=1:=(w_id (by decide) (by decide)).trans rfl
 have w2:wrap64 (1+1)=2:=(w_id (by decide) (by decide)).trans rfl
 have w3:wrap64 (2+1)=3:=(w_id (by decide) (by decide)).trans rfl
 have r0:rd [a,b,c] 0=a:=rfl
 have r1:rd [a,b,c] 1=b:=rfl
 have r2:rd [a,b,c] 2=c:=rfl
 have hl:(([a,b,c]:List Int).length:Int)=3:=rfl
 have s3:∀k m,fA.l1 (k+1) t out i m 3=(gU.f [a,b,c] m).bind fun own=>(if 0<own.length then fA.l2 k t out i own (out.length:Int)else none):=by
  intro k m
  simp only[fA.l1]
  rw[e,hl,ig (by decide)]
 have s0:∀k,fA.l1 (k+1) t out i 0 0=fA.l1 k t out i 0 1:=by
  intro k
  simp only[fA.l1]
  rw[e,hl,ip (by decide),ip (by decide),ip (by decide),ip (by decide),ig om,w1]
 have s1:∀k,fA.l1 (k+1) t out i 0 1=if b<a then fA.l1 k t out i 1 2 else fA.l1 k t out i 0 2:=by
  intro k
  simp only[fA.l1]
  rw[e,hl,ip (by decide),ip (by decide),ip (by decide),ip (by decide),w2,r0,r1]
 have s20:∀k,fA.l1 (k+1) t out i 0 2=if c<a then fA.l1 k t out i 2 3 else fA.l1 k t out i 0 3:=by
  intro k
  simp only[fA.l1]
  rw[e,hl,ip (by decide),ip (by decide),ip (by decide),ip (by decide),w3,r0,r2]
 have s21:∀k,fA.l1 (k+1) t out i 1 2=if c<b then fA.l1 k t out i 2 3 else fA.l1 k t out i 1 3:=by
  intro k
  simp only[fA.l1]
  rw[e,hl,ip (by decide),ip (by decide),ip (by decide),ip (by decide),w3,r1,r2]
 have f:∀m,m=mm a b c→fA.l1 (k+1) t out i m 3=fA.l2 k t out i (turnR a b c) (out.length:Int):=by
  intro m hm
  rw[s3,hm,turn_mm,Option.bind_some,ip (by rw[turnR_len];decide)]
 rw[s0,s1]
 by_cases h1:b<a
 ·rw[ip h1,s21]
  by_cases h2:c<b
  ·rw[ip h2];exact f _ (by simp[mm,h1,h2])
  ·rw[ig h2];exact f _ (by simp[mm,h1,h2])
 ·rw[ig h1,s20]
  by_cases h2:c<a
  ·rw[ip h2];exact f _ (by simp[mm,h1,h2])
  ·rw[ig h2];exact f _ (by simp[mm,h1,h2])
theorem spT_l1 {t out:List (List Int)}{i a b c:Int} (e:rd_L1 t i=[a,b,c]) (k:Nat):fD.l1 (k+3) t out i [a,b,c] 1=fD.l2 k t out i (turnR a b c) (out.length:Int):=by
 have w2:wrap64 (1+1)=2:=(w_id (by decide) (by decide)).trans rfl
 have w3:wrap64 (2+1)=3:=(w_id (by decide) (by decide)).trans rfl
 have r0:∀x y z:Int,rd [x,y,z] 0=x:=fun _ _ _=>rfl
 have r1:rd [a,b,c] 1=b:=rfl
 have r2:rd [a,b,c] 2=c:=rfl
 have hl:∀x y z:Int,(([x,y,z]:List Int).length:Int)=3:=fun _ _ _=>rfl
 have hn:∀x y z:Int,0<([x,y,z]:List Int).length:=fun _ _ _=>by simp
 have s3:∀k row,fD.l1 (k+1) t out i row 3=fD.l2 k t out i row (out.length:Int):=by
  intro k m
  simp only[fD.l1]
  rw[ig (by decide)]
 have s1:∀k,fD.l1 (k+1) t out i [a,b,c] 1=if b<a then fD.l1 k t out i [b,c,a] 2 else fD.l1 k t out i [a,b,c] 2:=by
  intro k
  simp only[fD.l1]
  rw[e,hl,ip (by decide),ip (by decide),ip (by decide),w2,r0,r1,l2t1,Option.bind_some,ip (hn _ _ _)]
 have s2:∀k x y z,fD.l1 (k+1) t out i [x,y,z] 2=if c<x then fD.l1 k t out i [c,a,b] 3 else fD.l1 k t out i [x,y,z] 3:=by
  intro k x y z
  simp only[fD.l1]
  rw[e,hl,ip (by decide),ip (by decide),ip (by decide),w3,r0,r2,l2t2,Option.bind_some,ip (hn _ _ _)]
 have f:∀m,m=turnR a b c→fD.l1 (k+1) t out i m 3=fD.l2 k t out i (turnR a b c) (out.length:Int):=by
  intro m hm
  rw[s3,hm]
 rw[s1]
 by_cases h1:b<a
 ·rw[ip h1,s2]
  by_cases h2:c<b
  ·rw[ip h2];exact f _ (by simp[turnR,h1,h2])
  ·rw[ig h2];exact f _ (by simp[turnR,h1,h2])
 ·rw[ig h1,s2]
  by_cases h2:c<a
  ·rw[ip h2];exact f _ (by simp[turnR,h1,h2])
  ·rw[ig h2];exact f _ (by simp[turnR,h1,h2])
/-- The place before which the row is laid. -/
def insAt (out:List (List Int)) (own:List Int):Nat→Nat
 |0=>0
 |q+1=>if rd (rd_L1 out (q:Int)) 0>rd own 0 then insAt out own q else q+1
def insT (out:List (List Int)) (own:List Int):List (List Int):=out.take (insAt out own out.length) ++ (own :: out.drop (insAt out own out.length))
theorem imT_l2 (t out:List (List Int)) (i:Nat) (own:List Int) (h3:∀r∈out,r.length=3) (hl:out.length≤10):∀(q k:Nat),q≤out.length→q<k→∃k',k≤k'+q+1∧fA.l2 k t out (i:Int) own (q:Int)=fA.l0 k' t (out.take (insAt out own q) ++ (own :: out.drop (insAt out own q))) (wrap64 ((i:Int)+1))
 |0,k,hq,hk=>by
  obtain⟨k,rfl⟩:=sk k
  refine⟨k,by omega,?_⟩
  simp only[fA.l2]
  rw[ip om,ip om,ip om,ig om]
  rfl
 |q+1,k,hq,hk=>by
  obtain⟨k,rfl⟩:=sk k
  have hlt:q<out.length:=by omega
  have hr:0<(rd_L1 out (q:Int)).length:=by rw[rdL_nat out q hlt,h3 _ (List.getElem_mem hlt)];decide
  simp only[fA.l2]
  rw[ip om,ip om,ip om,ip om,show(((q+1:Nat):Int) - 1)=(q:Int) by omega,ip hr,Int.toNat_natCast]
  by_cases c:rd (rd_L1 out (q:Int)) 0>rd own 0
  ·obtain⟨k',hk',e⟩:=imT_l2 t out i own h3 hl q k om om
   rw[ip c,insAt,ip c]
   exact⟨k',by omega,e⟩
  ·rw[ig c,insAt,ig c]
   exact⟨k,by omega,rfl⟩
theorem spT_l2 (t out:List (List Int)) (i:Nat) (own:List Int) (h3:∀r∈out,r.length=3) (hl:out.length≤10):∀(q k:Nat),q≤out.length→q<k→∃k',k≤k'+q+1∧fD.l2 k t out (i:Int) own (q:Int)=fD.l0 k' t (out.take (insAt out own q) ++ (own :: out.drop (insAt out own q))) (wrap64 ((i:Int)+1))
 |0,k,hq,hk=>by
  obtain⟨k,rfl⟩:=sk k
  refine⟨k,by omega,?_⟩
  simp only[fD.l2]
  rw[ip om,ip om,ip om,ig om]
  rfl
 |q+1,k,hq,hk=>by
  obtain⟨k,rfl⟩:=sk k
  have hlt:q<out.length:=by omega
  have hr:0<(rd_L1 out (q:Int)).length:=by rw[rdL_nat out q hlt,h3 _ (List.getElem_mem hlt)];decide
  simp only[fD.l2]
  rw[ip om,ip om,ip om,ip om,show(((q+1:Nat):Int) - 1)=(q:Int) by omega,ip hr,Int.toNat_natCast]
  by_cases c:rd (rd_L1 out (q:Int)) 0>rd own 0
  ·obtain⟨k',hk',e⟩:=spT_l2 t out i own h3 hl q k om om
   rw[ip c,insAt,ip c]
   exact⟨k',by omega,e⟩
  ·rw[ig c,insAt,ig c]
   exact⟨k,by omega,rfl⟩
theorem insT_len (out:List (List Int)) (own:List Int):(insT out own).length=out.length+1:=by
 unfold insT
 rw[List.length_append,List.length_cons,List.length_take,List.length_drop]
 omega
theorem insT_mem {out:List (List Int)}{own r:List Int} (h:r∈insT out own):r=own∨r∈out:=by
 unfold insT at h
 rcases List.mem_append.1 h with h|h
 ·exact .inr (List.mem_of_mem_take h)
 ·rcases List.mem_cons.1 h with h|h
  ·exact .inl h
  ·exact .inr (List.mem_of_mem_drop h)
def trow (r:List Int):List Int:=turnR (r.getD 0 0) (r.getD 1 0) (r.getD 2 0)
def bld (l out:List (List Int)):List (List Int):=l.foldl (fun o r=>insT o (trow r)) out
theorem imT_l0 {t:List (List Int)}{n:Int} (ok:TriOk t n):∀(d k i:Nat) (out:List (List Int)),i+d=t.length→30*d+1<k→(∀r∈out,r.length=3)→out.length=i→fA.l0 k t out (i:Int)=some (bld (t.drop i) out)
 |0,k,i,out,hi,hk,h3,ho=>by
  obtain⟨k,rfl⟩:=sk k
  simp only[fA.l0]
  rw[ig om,List.drop_eq_nil_of_le om]
  rfl
 |d+1,k,i,out,hi,hk,h3,ho=>by
  obtain⟨k,rfl⟩:∃m,k=m+5:=⟨k - 5,by omega⟩
  have hlt:i<t.length:=by omega
  have hs:=ok.short
  obtain⟨a,b,c,er,_⟩:=ok.i64 (List.getElem_mem hlt)
  have e:rd_L1 t (i:Int)=[a,b,c]:=by rw[rdL_nat t i hlt,er]
  have et:trow t[i]=turnR a b c:=by rw[er];rfl
  obtain⟨k',hk',e2⟩:=imT_l2 t out i (turnR a b c) h3 om out.length k (Nat.le_refl _) om
  have ih:=imT_l0 ok d k' (i+1) (insT out (turnR a b c)) om om (fun r hr=>by
   rcases insT_mem hr with h|h
   ·rw[h,turnR_len]
   ·exact h3 r h) (by rw[insT_len];omega)
  simp only[fA.l0]
  rw[ip om,ip om,imT_l1 e k,e2,w_id (a:=(i:Int)+1) om om,show((i:Int)+1)=((i+1:Nat):Int) by omega]
  refine ih.trans ?_
  rw[List.drop_eq_getElem_cons hlt]
  show _=some (bld (t.drop (i+1)) (insT out (trow t[i])))
  rw[et]
theorem spT_l0 {t:List (List Int)}{n:Int} (ok:TriOk t n):∀(d k i:Nat) (out:List (List Int)),i+d=t.length→30*d+1<k→(∀r∈out,r.length=3)→out.length=i→fD.l0 k t out (i:Int)=some (bld (t.drop i) out)
 |0,k,i,out,hi,hk,h3,ho=>by
  obtain⟨k,rfl⟩:=sk k
  simp only[fD.l0]
  rw[ig om,List.drop_eq_nil_of_le om]
  rfl
 |d+1,k,i,out,hi,hk,h3,ho=>by
  obtain⟨k,rfl⟩:∃m,k=m+4:=⟨k - 4,by omega⟩
  have hlt:i<t.length:=by omega
  have hs:=ok.short
  obtain⟨a,b,c,er,_⟩:=ok.i64 (List.getElem_mem hlt)
  have e:rd_L1 t (i:Int)=[a,b,c]:=by rw[rdL_nat t i hlt,er]
  have et:trow t[i]=turnR a b c:=by rw[er];rfl
  obtain⟨k',hk',e2⟩:=spT_l2 t out i (turnR a b c) h3 om out.length k (Nat.le_refl _) om
  have ih:=spT_l0 ok d k' (i+1) (insT out (turnR a b c)) om om (fun r hr=>by
   rcases insT_mem hr with h|h
   ·rw[h,turnR_len]
   ·exact h3 r h) (by rw[insT_len];omega)
  simp only[fD.l0]
  rw[ip om,ip om,e,l2t0,Option.bind_some,ip (by simp),spT_l1 e k,e2,w_id (a:=(i:Int)+1) om om,show((i:Int)+1)=((i+1:Nat):Int) by omega]
  refine ih.trans ?_
  rw[List.drop_eq_getElem_cons hlt]
  show _=some (bld (t.drop (i+1)) (insT out (trow t[i])))
  rw[et]
theorem bld_len:∀(l out:List (List Int)),(bld l out).length=out.length+l.length
 |[],out=>rfl
 |r :: l,out=>by
  show(bld l (insT out (trow r))).length=_
  rw[bld_len l,insT_len,List.length_cons]
  omega
theorem bld_mem:∀(l out:List (List Int)) (r:List Int),(∀x∈out,x.length=3)→r∈bld l out→r.length=3
 |[],out,r,h,hr=>h r hr
 |x :: l,out,r,h,hr=>bld_mem l (insT out (trow x)) r (fun y hy=>by
   rcases insT_mem hy with e|e
   ·rw[e];exact turnR_len _ _ _
   ·exact h y e) hr
def turnT (t:List (List Int)):List (List Int):=if isT t=true then bld t [] else[]
theorem turnT_len {t:List (List Int)} (ht:t.length≤1048576) (h:isT t=true):(turnT t).length=t.length∧2≤t.length:=by
 have:=(isT_ok ht h).short
 unfold turnT
 rw[ip h,bld_len,List.length_nil]
 omega
theorem turnT_bd (t:List (List Int)) (ht:t.length≤1048576):(turnT t).length≤6∧∀r∈turnT t,r.length=3:=by
 unfold turnT
 by_cases h:isT t=true
 ·have:=(isT_ok ht h).short
  rw[ip h]
  exact⟨by rw[bld_len,List.length_nil];omega,fun r hr=>bld_mem t [] r (fun x hx=>by cases hx) hr⟩
 ·rw[ig h]
  exact⟨by simp,fun r hr=>by cases hr⟩
theorem jY (t:List (List Int)) (ht:t.length≤1048576) (k:Nat) (hk:6000000<k):fA.f k t=some (turnT t):=by
 unfold fA.f turnT
 rw[jX t ht k hk,Option.bind_some]
 by_cases h:isT t=true
 ·have ok:=isT_ok ht h
  have:=ok.short
  have e:=imT_l0 ok t.length k 0 [] om om (fun x hx=>by cases hx) rfl
  rw[ip h,ip h]
  exact e
 ·rw[ig h,ig h]
theorem mI (t:List (List Int)) (ht:t.length≤1048576) (k:Nat) (hk:6000000<k):fD.f k t=some (turnT t):=by
 unfold fD.f turnT
 rw[mD t ht k hk,Option.bind_some]
 by_cases h:isT t=true
 ·have ok:=isT_ok ht h
  have:=ok.short
  have e:=spT_l0 ok t.length k 0 [] om om (fun x hx=>by cases hx) rfl
  rw[ip h,ip h]
  exact e
 ·rw[ig h,ig h]
theorem totT3:∀(l:List (List Int)),(∀r∈l,r.length=3)→tot l=3*l.length
 |[],_=>rfl
 |r :: l,h=>by
  have:=totT3 l (fun x hx=>h x (List.mem_cons_of_mem _ hx))
  have h0:=h r List.mem_cons_self
  show r.length+tot l=_
  rw[List.length_cons]
  omega
theorem dec_cons {α:Type} [DecidableEq α]{a b:List α}{i:Nat} (h1:i<a.length) (h2:i<b.length) (e:a[i]=b[i]):decide (a.drop i=b.drop i)=decide (a.drop (i+1)=b.drop (i+1)):=by
 apply decide_eq_decide.2
 rw[List.drop_eq_getElem_cons h1,List.drop_eq_getElem_cons h2,e,List.cons.injEq]
 exact⟨fun h=>h.2,fun h=>⟨rfl,h⟩⟩
theorem dec_ne {α:Type} [DecidableEq α]{a b:List α}{i:Nat} (h1:i<a.length) (h2:i<b.length) (e:¬a[i]=b[i]):decide (a.drop i=b.drop i)=false:=by
 apply decide_eq_false
 rw[List.drop_eq_getElem_cons h1,List.drop_eq_getElem_cons h2,List.cons.injEq]
 exact fun h=>e h.1
theorem dec_nil {α:Type} [DecidableEq α]{a b:List α}{i:Nat} (h1:a.length≤i) (h2:b.length≤i):decide (a.drop i=b.drop i)=true:=by
 rw[List.drop_eq_nil_of_le h1,List.drop_eq_nil_of_le h2]
 simp
theorem dec_len {α:Type} [DecidableEq α]{a b:List α} (h:¬(a.length:Int)=(b.length:Int)):decide (a=b)=false:=by
 apply decide_eq_false
 intro e
 rw[e]at h
 exact h rfl
theorem sameI_l0 (a b:List Int) (hl:a.length=b.length) (hs:a.length≤100):∀(d k i:Nat),i+d=a.length→d<k→gO.l0 k a b (a.length:Int) (i:Int)=some (decide (a.drop i=b.drop i))∧gW.l0 k a b (i:Int)=some (decide (a.drop i=b.drop i))
 |0,k,i,hi,hk=>by
  obtain⟨k,rfl⟩:=sk k
  rw[dec_nil om om]
  refine⟨?_,?_⟩
  ·simp only[gO.l0]
   rw[ig om]
  ·simp only[gW.l0]
   rw[ig om]
 |d+1,k,i,hi,hk=>by
  obtain⟨k,rfl⟩:=sk k
  have h1:i<a.length:=by omega
  have h2:i<b.length:=by omega
  obtain⟨e1,e2⟩:=sameI_l0 a b hl hs d k (i+1) om om
  by_cases c:a[i]=b[i]
  ·rw[dec_cons h1 h2 c]
   refine⟨?_,?_⟩
   ·simp only[gO.l0]
    rw[ip om,ip om,ip om,ip om,rd_nat a i h1,rd_nat b i h2,ip c,w_id (a:=(i:Int)+1) om om,show((i:Int)+1)=((i+1:Nat):Int) by omega]
    exact e1
   ·simp only[gW.l0]
    rw[ip om,ip om,ip om,rd_nat a i h1,rd_nat b i h2,ip c,w_id (a:=(i:Int)+1) om om,show((i:Int)+1)=((i+1:Nat):Int) by omega]
    exact e2
  ·rw[dec_ne h1 h2 c]
   refine⟨?_,?_⟩
   ·simp only[gO.l0]
    rw[ip om,ip om,ip om,ip om,rd_nat a i h1,rd_nat b i h2,ig c]
   ·simp only[gW.l0]
    rw[ip om,ip om,ip om,rd_nat a i h1,rd_nat b i h2,ig c]
theorem sameI_f (a b:List Int) (hs:a.length≤100) (k:Nat) (hk:100<k):gO.f k a b=some (decide (a=b))∧gW.f k a b=some (decide (a=b)):=by
 unfold gO.f gW.f
 by_cases h:(a.length:Int)=(b.length:Int)
 ·have e:=sameI_l0 a b om hs a.length k 0 om om
  rw[List.drop_zero,List.drop_zero]at e
  rw[ip h,ip h]
  exact e
 ·rw[ig h,ig h,dec_len h]
  exact⟨rfl,rfl⟩
theorem sameR_l0 (a b:List (List Int)) (hl:a.length=b.length) (hs:a.length≤100) (h3:∀r∈a,r.length=3):∀(d k i:Nat),i+d=a.length→200+d<k→jA.l0 k a b (a.length:Int) (i:Int)=some (decide (a.drop i=b.drop i))∧jD.l0 k a b (i:Int)=some (decide (a.drop i=b.drop i))
 |0,k,i,hi,hk=>by
  obtain⟨k,rfl⟩:=sk k
  rw[dec_nil om om]
  refine⟨?_,?_⟩
  ·simp only[jA.l0]
   rw[ig om]
  ·simp only[jD.l0]
   rw[ig om]
 |d+1,k,i,hi,hk=>by
  obtain⟨k,rfl⟩:=sk k
  have h1:i<a.length:=by omega
  have h2:i<b.length:=by omega
  obtain⟨e1,e2⟩:=sameR_l0 a b hl hs h3 d k (i+1) om om
  obtain⟨f1,f2⟩:=sameI_f a[i] b[i] (by rw[h3 _ (List.getElem_mem h1)];decide) k om
  by_cases c:a[i]=b[i]
  ·rw[dec_cons h1 h2 c]
   refine⟨?_,?_⟩
   ·simp only[jA.l0]
    rw[ip om,ip om,ip om,ip om,rdL_nat a i h1,rdL_nat b i h2,f1,Option.bind_some,ip (decide_eq_true c),w_id (a:=(i:Int)+1) om om,show((i:Int)+1)=((i+1:Nat):Int) by omega]
    exact e1
   ·simp only[jD.l0]
    rw[ip om,ip om,ip om,rdL_nat a i h1,rdL_nat b i h2,f2,Option.bind_some,ip (decide_eq_true c),w_id (a:=(i:Int)+1) om om,show((i:Int)+1)=((i+1:Nat):Int) by omega]
    exact e2
  ·rw[dec_ne h1 h2 c]
   refine⟨?_,?_⟩
   ·simp only[jA.l0]
    rw[ip om,ip om,ip om,ip om,rdL_nat a i h1,rdL_nat b i h2,f1,Option.bind_some,ig (fun h=>c (of_decide_eq_true h))]
   ·simp only[jD.l0]
    rw[ip om,ip om,ip om,rdL_nat a i h1,rdL_nat b i h2,f2,Option.bind_some,ig (fun h=>c (of_decide_eq_true h))]
theorem sameR_f (a b:List (List Int)) (hs:a.length≤100) (h3:∀r∈a,r.length=3) (k:Nat) (hk:1000<k):jA.f k a b=some (decide (a=b))∧jD.f k a b=some (decide (a=b)):=by
 unfold jA.f jD.f
 by_cases h:(a.length:Int)=(b.length:Int)
 ·have e:=sameR_l0 a b om hs h3 a.length k 0 om om
  rw[List.drop_zero,List.drop_zero]at e
  rw[ip h,ip h]
  exact e
 ·rw[ig h,ig h,dec_len h]
  exact⟨rfl,rfl⟩
theorem same_both (s t:List (List Int)) (hs:s.length≤1048576) (ht:t.length≤1048576) (k:Nat) (hk:6000000<k):∃b,jO.f k s t=some b∧gZ.f k s t=some b:=by
 unfold jO.f gZ.f
 rw[mD s hs k hk,jX s hs k hk,Option.bind_some,Option.bind_some]
 by_cases h1:isT s=true
 ·obtain⟨b1,b2⟩:=turnT_bd s hs
  obtain⟨e1,e2⟩:=sameR_f (turnT s) (turnT t) om b2 k om
  rw[ip h1,ip h1,jX t ht k hk,mI s hs k hk,mI t ht k hk,jY s hs k hk,jY t ht k hk,Option.bind_some,Option.bind_some,Option.bind_some,Option.bind_some,Option.bind_some,e1,e2,Option.bind_some]
  by_cases h2:isT t=true
  ·rw[ip h2]
   exact⟨_,rfl,rfl⟩
  ·have hn:decide (turnT s=turnT t)=false:=by
    apply decide_eq_false
    intro e
    have l1:=turnT_len hs h1
    have l2:turnT t=[]:=by unfold turnT;rw[ig h2]
    rw[e,l2]at l1
    have:=l1.1
    simp at this
    omega
   rw[ig h2,hn]
   exact⟨_,rfl,rfl⟩
 ·rw[ig h1,ig h1]
  exact⟨_,rfl,rfl⟩
def neg (e x:Int):Int:=if(x.natAbs:Int)=e then -x else x
theorem pD (x0:List (List Int)) (hx:x0.length≤1000) (e:Int) (i:Nat):∀(d j k:Nat) (row:List Int),j+d=row.length→d<k→row.length≤1000→(∀x∈row.drop j, -9≤x∧x≤9)→
  fW.l1 k x0 row e (i:Int) (j:Int)=fW.l0 (k - d - 1) (x0.set i (row.take j ++ (row.drop j).map (neg e))) e (wrap64 ((i:Int)+1)):=by
 intro d
 induction d with
 |zero=>
  intro j k row hj hk hl hb
  obtain⟨k,rfl⟩:=sk k
  simp only[fW.l1]
  rw[ig om,List.drop_of_length_le om,List.take_of_length_le om]
  simp
 |succ d ih=>
  intro j k row hj hk hl hb
  obtain⟨k,rfl⟩:=sk k
  have hlt:j<row.length:=by omega
  rw[List.drop_eq_getElem_cons hlt]at hb
  have hx:=hb row[j] List.mem_cons_self
  simp only[fW.l1]
  rw[ip om,ip om,rd_nat row j hlt,size_eq om om,Option.bind_some,w_id (a:=(j:Int)+1) om om,show((j:Int)+1)=((j+1:Nat):Int) by omega,w_id (a:= -row[j]) om om,Int.toNat_natCast,List.drop_eq_getElem_cons hlt,List.map_cons,show k+1 - (d+1) - 1=k - d - 1 by omega]
  have hd:(row.set j (-row[j])).drop (j+1)=row.drop (j+1):=by rw[List.drop_set_of_lt om]
  by_cases h:(row[j].natAbs:Int)=e
  ·rw[ip h,ih (j+1) k _ (by rw[List.length_set];omega) om (by rw[List.length_set];omega) (by rw[hd];exact fun x hx=>hb x (List.mem_cons_of_mem _ hx)),hd,List.take_succ_eq_append_getElem (by rw[List.length_set];omega),List.getElem_set_self,List.take_set_of_le om,List.append_assoc]
   unfold neg
   rw[ip h]
   rfl
  ·rw[ig h,ih (j+1) k _ om om hl (fun x hx=>hb x (List.mem_cons_of_mem _ hx)),List.take_succ_eq_append_getElem hlt,List.append_assoc]
   unfold neg
   rw[ig h]
   rfl
theorem pC (e:Int):∀(d i k:Nat) (x0:List (List Int)),i+d=x0.length→5*d<k→x0.length≤1000→(∀r∈x0.drop i,r.length=3∧∀x∈r, -9≤x∧x≤9)→
  fW.l0 k x0 e (i:Int)=some (x0.take i ++ (x0.drop i).map (List.map (neg e)),true):=by
 intro d
 induction d with
 |zero=>
  intro i k x0 hi hk hl hb
  obtain⟨k,rfl⟩:=sk k
  simp only[fW.l0]
  rw[ig om,List.drop_of_length_le om,List.take_of_length_le om]
  simp
 |succ d ih=>
  intro i k x0 hi hk hl hb
  obtain⟨k,rfl⟩:=sk k
  have hlt:i<x0.length:=by omega
  rw[List.drop_eq_getElem_cons hlt]at hb
  have hr:=hb x0[i] List.mem_cons_self
  simp only[fW.l0]
  have h1:=pD x0 hl e i 3 0 k x0[i] om om om (by rw[List.drop_zero];exact hr.2)
  rw[List.drop_zero,List.take_zero,List.nil_append,show((0:Nat):Int)=0 from rfl]at h1
  have hd:(x0.set i (x0[i].map (neg e))).drop (i+1)=x0.drop (i+1):=by rw[List.drop_set_of_lt om]
  rw[ip om,ip om,rdL_nat x0 i hlt,h1,w_id om om,show((i:Int)+1)=((i+1:Nat):Int) by omega,ih (i+1) _ _ (by rw[List.length_set];omega) om (by rw[List.length_set];exact hl) (by rw[hd];exact fun r hm=>hb r (List.mem_cons_of_mem _ hm)),hd,List.take_succ_eq_append_getElem (by rw[List.length_set];omega),List.getElem_set_self,List.take_set_of_le om,List.append_assoc,List.drop_eq_getElem_cons hlt,List.map_cons]
  rfl
theorem pJ (t:List (List Int)) (ht:t.length≤1000) (e:Int) (i:Nat) (hi:i<t.length) (h3:t[i].length=3) (hb:∀x∈t[i], -9≤x∧x≤9):∀(d j k:Nat) (out:List (List Int)) (P:List Int),j+d=3→d<k→(ho:out.length=t.length)→P.length=j→out[i]'om=P ++ t[i].drop j→
  fL.l1 k t e out (i:Int) (j:Int)=fL.l0 (k - d - 1) t e (out.set i (P ++ (t[i].drop j).map (neg e))) (wrap64 ((i:Int)+1)):=by
 intro d
 induction d with
 |zero=>
  intro j k out P hj hk ho hP hout
  obtain⟨k,rfl⟩:=sk k
  simp only[fL.l1]
  rw[List.drop_of_length_le om]at hout ⊢
  rw[ig om,List.map_nil, ←hout,List.set_getElem_self]
  rfl
 |succ d ih=>
  intro j k out P hj hk ho hP hout
  obtain⟨k,rfl⟩:=sk k
  have hlt:j<t[i].length:=by omega
  have hx:=hb t[i][j] (List.getElem_mem hlt)
  rw[List.drop_eq_getElem_cons hlt]at hout ⊢
  have hol:(out[i]'om).length=3:=by rw[hout,List.length_append,List.length_cons,List.length_drop];omega
  simp only[fL.l1]
  rw[ip om,ip om,ip om,ip om,rdL_nat t i hi,ip om,rd_nat _ j hlt,l3Abs_eq om om,Option.bind_some,rdL_nat out i om,w_id (a:=(j:Int)+1) om om,show((j:Int)+1)=((j+1:Nat):Int) by omega,w_id (a:= -t[i][j]) om om,List.map_cons,show k+1 - (d+1) - 1=k - d - 1 by omega]
  by_cases h:(t[i][j].natAbs:Int)=e
  ·have hs:(out[i]'om).set j (-t[i][j])=P ++ [-t[i][j]] ++ t[i].drop (j+1):=by
    rw[hout,List.set_append_right _ _ om,hP,Nat.sub_self,List.set_cons_zero,List.append_assoc]
    rfl
   rw[ip h,ip om,ip om,Int.toNat_natCast,Int.toNat_natCast,ih (j+1) k _ (P ++ [-t[i][j]]) om om (by rw[List.length_set];exact ho) (by rw[List.length_append];simp;omega) (by rw[List.getElem_set_self];exact hs),List.set_set,List.append_assoc]
   unfold neg
   rw[ip h]
   rfl
  ·rw[ig h,ih (j+1) k out (P ++ [t[i][j]]) om om ho (by rw[List.length_append];simp;omega) (by rw[hout,List.append_assoc];rfl),List.append_assoc]
   unfold neg
   rw[ig h]
   rfl
theorem pI (t:List (List Int)) (ht:t.length≤1000) (e:Int) (hb:∀r∈t,r.length=3∧∀x∈r, -9≤x∧x≤9):∀(d i k:Nat) (out:List (List Int)),i+d=t.length→5*d<k→out.length=t.length→out.drop i=t.drop i→
  fL.l0 k t e out (i:Int)=some (out.take i ++ (t.drop i).map (List.map (neg e)),true):=by
 intro d
 induction d with
 |zero=>
  intro i k out hi hk ho hd
  obtain⟨k,rfl⟩:=sk k
  simp only[fL.l0]
  rw[ig om,List.drop_of_length_le om,List.take_of_length_le om]
  simp
 |succ d ih=>
  intro i k out hi hk ho hd
  obtain⟨k,rfl⟩:=sk k
  have hlt:i<t.length:=by omega
  have hr:=hb _ (List.getElem_mem hlt)
  rw[List.drop_eq_getElem_cons hlt,List.drop_eq_getElem_cons om]at hd
  injection hd with hd1 hd2
  simp only[fL.l0]
  have h1:=pJ t ht e i hlt hr.1 hr.2 3 0 k out [] om om ho rfl (by rw[List.drop_zero,List.nil_append];exact hd1)
  rw[List.drop_zero,List.nil_append,show((0:Nat):Int)=0 from rfl]at h1
  have hdd:(out.set i (t[i].map (neg e))).drop (i+1)=out.drop (i+1):=by rw[List.drop_set_of_lt om]
  rw[ip om,h1,w_id om om,show((i:Int)+1)=((i+1:Nat):Int) by omega,ih (i+1) _ _ om om (by rw[List.length_set];exact ho) (by rw[hdd];exact hd2),List.take_succ_eq_append_getElem (by rw[List.length_set];omega),List.getElem_set_self,List.take_set_of_le om,List.append_assoc,List.drop_eq_getElem_cons hlt,List.map_cons]
  rfl
/-- The triangulation with an edge and its inverse exchanged. -/
def revR (t:List (List Int)) (e:Int):List (List Int) × Bool:=if isE t e=true then(t.map (List.map (neg e)),true) else([],false)
theorem tri_rows {t:List (List Int)}{n:Int} (ok:TriOk t n):∀r∈t,r.length=3∧∀x∈r, -9≤x∧x≤9:=fun r hr=>⟨ok.row r hr,fun x hx=>by
 have:=ok.inr x (List.mem_flatten.2 ⟨r,hr,hx⟩)
 have:=ok.n9
 omega⟩
theorem pT (t:List (List Int)) (ht:t.length≤1048576) (hr:∀r∈t,r.length≤1048576) (e:Int) (k:Nat) (hk:6000000<k):fL.f k t e=some (revR t e):=by
 unfold fL.f revR
 rw[pA t ht e k hk,Option.bind_some]
 by_cases h:isE t e=true
 ·obtain⟨ok,_⟩:=isE_bd ht h
  have hs:=ok.short
  have:=pI t om e (tri_rows ok) t.length 0 k t om om rfl rfl
  rw[List.drop_zero,List.take_zero,List.nil_append]at this
  rw[ip h,ip h,l5Copy_f t ht hr k om,Option.bind_some]
  exact this
 ·rw[ig h,ig h]
theorem mU (t:List (List Int)) (ht:t.length≤1048576) (hr:∀r∈t,r.length≤1048576) (e:Int) (k:Nat) (hk:6000000<k):fW.f k t e=some (revR t e):=by
 unfold fW.f revR
 rw[jX t ht k hk,Option.bind_some]
 by_cases h:isT t=true
 ·rw[ip h,within_eq,Option.bind_some,show wrap64 (Int.tdiv (wrap64 (3*(t.length:Int))) 2)=edges t from rfl]
  by_cases h2:1≤e∧e≤edges t
  ·have he:isE t e=true:=by unfold isE;rw[h,decide_eq_true h2];rfl
   have ok:=isT_ok ht h
   have hs:=ok.short
   have:=pC e t.length 0 k t om om om (by rw[List.drop_zero];exact tri_rows ok)
   rw[List.drop_zero,List.take_zero,List.nil_append]at this
   rw[ip (decide_eq_true h2),ip he,copyRows_f t ht hr k om,Option.bind_some]
   exact this
  ·have he:¬isE t e=true:=by unfold isE;rw[decide_eq_false h2,Bool.and_false];decide
   rw[ig (by rw[decide_eq_false h2];decide),ig he]
 ·have he:¬isE t e=true:=by unfold isE;rw[Bool.eq_false_iff.mpr h,Bool.false_and];decide
  rw[ig h,ig he]
theorem revR_bd (t:List (List Int)) (ht:t.length≤1048576) (e:Int):(revR t e).1.length≤1048576∧(∀r∈(revR t e).1,r.length≤1048576)∧tot (revR t e).1≤2000000:=by
 unfold revR
 by_cases h:isE t e=true
 ·obtain⟨ok,_⟩:=isE_bd ht h
  have hs:=ok.short
  rw[ip h]
  have h3:∀r∈t.map (List.map (neg e)),r.length=3:=fun r hr=>by
   obtain⟨q,hq,rfl⟩:=List.mem_map.1 hr
   rw[List.length_map]
   exact ok.row q hq
  have ht3:∀(o:List (List Int)),(∀r∈o,r.length=3)→tot o=3*o.length:=by
   intro o
   induction o with
   |nil=>intro _;rfl
   |cons r rs ih=>intro h;rw[tot,h r List.mem_cons_self,ih (fun x hx=>h x (List.mem_cons_of_mem _ hx)),List.length_cons];omega
  have:=ht3 _ h3
  have hl:(t.map (List.map (neg e))).length=t.length:=List.length_map ..
  exact⟨by show(t.map (List.map (neg e))).length≤_;omega,fun r hr=>by have:=h3 r hr;omega,by show tot (t.map (List.map (neg e)))≤_;omega⟩
 ·rw[ig h]
  simp[tot]
end Go.Proofs.Ytemeiocmgbgikaa.L

namespace Go.Proofs.Ytemeiocmgbgikaa.L
open Go.RowKit Go.Proofs.Ytemeiocmgbgikaa.P Go.Proofs.Ytemeiocmgbgikaa.Help Go.Proofs.YtemeiocmgbgikaaW.PrintWords Go.Proofs.YtemeiocmgbgikaaW.PrintLast Go.Proofs.YtemeiocmgbgikaaW.PrintMore
set_option linter.unusedVariables false
set_option linter.unusedSimpArgs false

/-- How many of the numbers below i have this root. -/
noncomputable def szI (up:List Int) (i:Nat) (r:Nat):Nat:=((List.range i).filter fun (k:Nat)=>decide (UF.rt up (k:Int)=(r:Int))).length
theorem szI_succ (up:List Int) (i r:Nat):szI up (i+1) r=szI up i r+(if UF.rt up (i:Int)=(r:Int)then 1 else 0):=by
 unfold szI
 rw[List.range_succ,List.filter_append,List.length_append]
 congr 1
 by_cases h:UF.rt up (i:Int)=(r:Int)
 ·rw[ip h];simp[h]
 ·rw[ig h];simp[h]
theorem szI_le (up:List Int) (r:Nat):∀i,szI up i r≤i
 |0=>Nat.le_refl _
 |i+1=>by
  have:=szI_le up r i
  rw[szI_succ]
  split <;> omega
noncomputable def szL (up:List Int) (i:Nat):List Int:=(List.range up.length).map fun (r:Nat)=>(szI up i r:Int)
theorem szL_len (up:List Int) (i:Nat):(szL up i).length=up.length:=by simp[szL]
theorem szL_get (up:List Int) (i:Nat){r:Nat} (h:r<(szL up i).length):(szL up i)[r]=(szI up i r:Int):=by simp[szL]
theorem szL_step {up:List Int}{i r:Nat} (hr:r<up.length) (e:UF.rt up (i:Int)=(r:Int)):(szL up i).set r ((szI up i r:Int)+1)=szL up (i+1):=by
 apply List.ext_getElem
 ·simp[szL]
 ·intro j h1 h2
  have hj:j<up.length:=by rw[szL_len]at h2;exact h2
  rw[List.getElem_set,szL_get up (i+1) h2,szI_succ]
  by_cases c:r=j
  ·subst c
   rw[ip rfl,ip e]
   omega
  ·rw[ig c,szL_get up i (by rw[szL_len];exact hj),ig (by rw[e];omega)]
   rfl
theorem szL_zero (up:List Int):szL up 0=List.replicate up.length 0:=by
 apply List.ext_getElem
 ·simp[szL]
 ·intro j h1 h2
  rw[szL_get]
  simp[szI]
theorem len_l0 {up:List Int} (hok:UF.Ok up) (hu:up.length≤1800):∀(d k i:Nat),i+d=up.length→2000+d<k→fT.l0 k [] up (szL up i) (i:Int)=fT.l1 (k - d - 1) [] (szL up up.length) 0
 |0,k,i,hi,hk=>by
  obtain⟨k,rfl⟩:=sk k
  conv=>lhs;simp only[fT.l0]
  rw[ig om,show i=up.length by omega,show k+1 - 0 - 1=k by omega]
 |d+1,k,i,hi,hk=>by
  obtain⟨k,rfl⟩:=sk k
  have hr:=hok.rt (i:=(i:Int)) om om
  have hb:=hok.bd hr om om
  obtain⟨r,er⟩:∃r:Nat,UF.rt up (i:Int)=(r:Int):=⟨(UF.rt up (i:Int)).toNat,by omega⟩
  have hrl:r<(szL up i).length:=by rw[szL_len];omega
  have hrl2:r<up.length:=by omega
  have hle:=szI_le up r i
  have ih:=len_l0 hok hu d k (i+1) om om
  have hlen:=szL_len up i
  conv=>lhs;simp only[fT.l0]
  rw[ip om,find3_f hok om om om,Option.bind_some,Option.bind_some,er,ip om,ip om,ip om,ip om,rd_nat _ r hrl,szL_get,w_id (a:=(szI up i r:Int)+1) om om,Int.toNat_natCast,szL_step hrl2 er,w_id (a:=(i:Int)+1) om om,show((i:Int)+1)=((i+1:Nat):Int) by omega,show k+1 - (d+1) - 1=k - d - 1 by omega]
  exact ih
/-- The sizes that are not 0. -/
noncomputable def posL (up:List Int):Nat→Nat→List Int
 |0,_=>[]
 |d+1,i=>if szI up up.length i>0 then(szI up up.length i:Int) :: posL up d (i+1)else posL up d (i+1)
theorem put_l0 (l:List Int) (v:Int) (hs:l.Pairwise (· ≤ ·)) (hl:l.length≤2000):∀(q k:Nat),q≤l.length→(∀h:q<l.length,v<l[q])→q<k→jH.l0 k l v (q:Int)=some (UF.ins l v)
 |0,k,hq,hv,hk=>by
  obtain⟨k,rfl⟩:=sk k
  have e:=UF.ins_at l v 0 om (fun j hj=>absurd hj om) hv
  conv=>lhs;simp only[jH.l0]
  rw[ig om,Option.bind_some,ip om,ip om,Option.bind_some,Int.toNat_natCast,ip (by simp;omega),Option.bind_some,Option.bind_some,ip (by simp),Option.bind_some,ip (by simp;omega),List.nil_append,List.append_assoc]
  rw[←e]
  rfl
 |q+1,k,hq,hv,hk=>by
  obtain⟨k,rfl⟩:=sk k
  have hlt:q<l.length:=by omega
  conv=>lhs;simp only[jH.l0]
  rw[ip om,w_id (a:=((q+1:Nat):Int) - 1) om om,show(((q+1:Nat):Int) - 1)=(q:Int) by omega,ip om,ip om,rd_nat l q hlt]
  by_cases c:l[q]>v
  ·rw[ip c]
   exact put_l0 l v hs hl q k om (fun _=>c) om
  ·have e:=UF.ins_at l v (q+1) om (fun j hj h=>by
    by_cases ej:j=q
    ·subst ej;omega
    ·have:=List.pairwise_iff_getElem.1 hs j q h hlt om
     omega) hv
   rw[ig c,Option.bind_some,ip om,ip om,Option.bind_some,Int.toNat_natCast,ip (by simp;omega),Option.bind_some,Option.bind_some,ip (by rw[List.length_take];omega),Option.bind_some,ip (by simp;omega),List.nil_append,List.append_assoc]
   rw[←e]
   rfl
theorem put_f (l:List Int) (v:Int) (hs:l.Pairwise (· ≤ ·)) (hl:l.length≤2000) (k:Nat) (hk:2000<k):jH.f k l v=some (UF.ins l v):=by
 unfold jH.f
 exact put_l0 l v hs hl l.length k (Nat.le_refl _) (fun h=>absurd h (Nat.lt_irrefl _)) om
theorem len_l1 {up:List Int} (hu:up.length≤1800):∀(d k i:Nat) (out:List Int),i+d=up.length→2100+d<k→out.Pairwise (· ≤ ·)→out.length≤i→fT.l1 k out (szL up up.length) (i:Int)=some (UF.isort (posL up d i) out)
 |0,k,i,out,hi,hk,hs,ho=>by
  obtain⟨k,rfl⟩:=sk k
  have hlen:=szL_len up up.length
  conv=>lhs;simp only[fT.l1]
  rw[ig om]
  rfl
 |d+1,k,i,out,hi,hk,hs,ho=>by
  obtain⟨k,rfl⟩:=sk k
  have hlen:=szL_len up up.length
  have hrl:i<(szL up up.length).length:=by omega
  conv=>lhs;simp only[fT.l1]
  rw[ip om,ip om,rd_nat _ i hrl,szL_get,w_id (a:=(i:Int)+1) om om,show((i:Int)+1)=((i+1:Nat):Int) by omega,posL]
  by_cases c:szI up up.length i>0
  ·have hil:=(UF.ins_perm (szI up up.length i:Int) out).length_eq
   rw[List.length_cons]at hil
   rw[ip om,ip c,put_f out _ hs om k om,Option.bind_some]
   exact len_l1 hu d k (i+1) _ om om (UF.ins_sorted _ out hs) om
  ·rw[ig om,ig c]
   exact len_l1 hu d k (i+1) out om om hs om
theorem szI_pos {up:List Int} (hok:UF.Ok up){r:Nat} (hr:r<up.length):szI up up.length r>0↔UF.P up (r:Int)=(r:Int):=by
 constructor
 ·intro h
  unfold szI at h
  obtain⟨k,hk⟩:=List.exists_mem_of_length_pos h
  obtain⟨h1,h2⟩:=List.mem_filter.1 hk
  rw[List.mem_range]at h1
  have e:UF.rt up (k:Int)=(r:Int):=by simpa using h2
  have:=(hok.rt (i:=(k:Int)) om om).root
  rw[e]at this
  exact this
 ·intro h
  have e:UF.rt up (r:Int)=(r:Int):=UF.rt_of (.here h)
  unfold szI
  exact List.length_pos_of_mem (List.mem_filter.2 ⟨List.mem_range.2 hr,decide_eq_true e⟩)
theorem posL_eq {up:List Int} (hok:UF.Ok up):∀(d i:Nat),i+d=up.length→posL up d i=((List.range' i d).filter fun (k:Nat)=>decide (UF.P up (k:Int)=(k:Int))).map fun (r:Nat)=>(szI up up.length r:Int)
 |0,i,_=>rfl
 |d+1,i,hi=>by
  have ih:=posL_eq hok d (i+1) om
  have hp:=szI_pos hok (show i<up.length by omega)
  rw[posL,List.range'_succ]
  by_cases c:szI up up.length i>0
  ·have hd:(fun (k:Nat)=>decide (UF.P up (k:Int)=(k:Int))) i=true:=decide_eq_true (hp.1 c)
   rw[ip c,List.filter_cons_of_pos (p:=fun (k:Nat)=>decide (UF.P up (k:Int)=(k:Int))) hd,List.map_cons,ih]
  ·have hd:¬((fun (k:Nat)=>decide (UF.P up (k:Int)=(k:Int))) i=true):=fun h=>c (hp.2 (of_decide_eq_true h))
   rw[ig c,List.filter_cons_of_neg (p:=fun (k:Nat)=>decide (UF.P up (k:Int)=(k:Int))) hd,ih]
theorem posL_len {up:List Int} (hok:UF.Ok up):(posL up up.length 0).length=(UF.roots up).length:=by
 rw[posL_eq hok up.length 0 om,List.length_map]
 unfold UF.roots
 rw[List.range_eq_range']
/-- The lengths, as the reference tells them. -/
theorem pB {t:List (List Int)}{x:List Int}{n:Int} (C:Cx t x n) (hF:isF t x=true) (ht:t.length≤1048576) (k:Nat) (hk:7000000<k):∃ys,UF.Stands ys (NN x:Int) (allG (prIJ t x) t.length 0)∧fT.f k t x=some (UF.isort (posL ys ys.length 0) []):=by
 obtain⟨ys,e,S⟩:=sp_f C k om
 have hl:=S.len
 have hs:=C.small
 have h0:=len_l0 S.ok om ys.length k 0 om om
 have h1:=len_l1 (up:=ys) om ys.length (k - ys.length - 1) 0 [] om om List.Pairwise.nil (by simp)
 refine⟨ys,S,?_⟩
 unfold fT.f
 rw[Option.bind_some,jT t ht x k om,Option.bind_some,ip hF,e,Option.bind_some,ip om,ip om,Int.toNat_natCast, ←szL_zero]
 exact h0.trans h1
theorem roots_same {u1 u2:List Int}{n:Int}{ps:List (Int × Int)} (h1:UF.Stands u1 n ps) (h2:UF.Stands u2 n ps):(UF.roots u1).length=(UF.roots u2).length:=by
 have:=(UF.roots_perm h1 h2 (fun i j=>Iff.rfl)).length_eq
 rwa [List.length_map]at this
theorem cx_of {t:List (List Int)}{x:List Int} (ht:t.length≤1048576) (h:isF t x=true):Cx t x (edges t):=by
 obtain⟨h1,h2,h3,h4⟩:=isF_ok ht h
 exact⟨h1,h2,h3,h4⟩
end Go.Proofs.Ytemeiocmgbgikaa.L

namespace Go.Proofs.Ytemeiocmgbgikaa.L
open Go Go.RowKit Go.Proofs.Ytemeiocmgbgikaa.P Go.Proofs.Ytemeiocmgbgikaa.Help Go.Proofs.YtemeiocmgbgikaaW.PrintWords
set_option linter.unusedVariables false
set_option linter.unusedSimpArgs false
theorem edges_len {s t:List (List Int)} (h:s.length=t.length):edges s=edges t:=by
 unfold edges
 rw[h]
/-- Where the edge stands. -/
theorem can_at {t:List (List Int)}{e:Int} (ht:t.length≤1048576) (hc:canR t e=true):∃n i j o l:Nat,edges t=(n:Int)∧1≤e∧At t n i j o l e∧flipE t e=(flT t i j o l e,true)∧∀x,flipV t x e=mxI (crd x (sideOf t i (j+1))+crd x (sideOf t o (l+1))) (crd x (sideOf t i (j+2))+crd x (sideOf t o (l+2))) - crd x e:=by
 obtain⟨ok,h1,h2⟩:=canR_ok ht hc
 have n3:=ok.n3
 obtain⟨n,hn⟩:∃n:Nat,edges t=(n:Int):=⟨(edges t).toNat,by omega⟩
 rw[hn]at ok h2
 obtain⟨i,j,hi,hj,s1,s2⟩:=ok.side (x:=e) om om om
 obtain⟨o,l,ho,hl,s3,s4⟩:=ok.side (x:= -e) om om om
 have io:i≠o:=by
  intro h
  unfold canR at hc
  rw[Bool.and_eq_true,s1,s3,h]at hc
  simp at hc
 refine⟨n,i,j,o,l,hn,h1,⟨ok,hi,hj,ho,hl,s2,s4,io⟩,?_,fun x=>?_⟩
 ·unfold flipE flT
  rw[ip hc,s1,s3]
  rfl
 ·unfold flipV
  rw[s1,s3]
  have:crd x e=rd x (e - 1):=by
   unfold crd
   rw[show(e.natAbs:Int) - 1=e - 1 by omega]
  rw[this]
  rfl
theorem At.can {t:List (List Int)}{n i j o l:Nat}{e:Int} (A:At t n i j o l e) (hn:edges t=(n:Int)) (h1:1≤e):isT (flT t i j o l e)=true∧edges (flT t i j o l e)=(n:Int)∧canR (flT t i j o l e) e=true∧sideR e (flT t i j o l e) 0=((i:Int),0)∧sideR (-e) (flT t i j o l e) 0=((o:Int),0):=by
 have ok2:=A.tri
 have he:edges (flT t i j o l e)=(n:Int):=(edges_len (flT_len t i j o l e)).trans hn
 have hT:=isT_of ok2 he
 have f0:sideOf (flT t i j o l e) i 0=e:=A.fi 0
 have h0:sideOf (flT t i j o l e) o 0= -e:=A.fo 0
 have s1:=side_at ok2 (i:=i) (j:=0) (by rw[flT_len];exact A.hi) (by decide)
 have s2:=side_at ok2 (i:=o) (j:=0) (by rw[flT_len];exact A.ho) (by decide)
 rw[f0]at s1
 rw[h0]at s2
 have hb:=A.e0
 have io:=A.io
 have q:decide (1≤e∧e≤(n:Int))=true:=decide_eq_true om
 have q2:((i:Int) != (o:Int))=true:=by
  rw[bne_iff_ne]
  omega
 refine⟨hT,he,?_,s1,s2⟩
 unfold canR isE
 rw[hT,he,s1,s2,q,q2]
 rfl
theorem set_e {e:Int} (h1:1≤e):(e - 1).toNat=e.natAbs - 1:=by omega
theorem flipC_yes {t:List (List Int)}{x y:List Int}{e:Int} (h:flipC t x e=(y,true)):canR t e=true∧isF t x=true∧flipV t x e≤200∧y=x.set (e - 1).toNat (flipV t x e):=by
 unfold flipC at h
 by_cases c:canR t e=true∧isF t x=true
 ·rw[ip c]at h
  by_cases c2:flipV t x e>200
  ·rw[ip c2]at h
   exact absurd (congrArg Prod.snd h) (by simp)
  ·rw[ig c2]at h
   exact⟨c.1,c.2,by omega,(congrArg Prod.fst h).symm⟩
 ·rw[ig c]at h
  exact absurd (congrArg Prod.snd h) (by simp)
/-- One flip, and whatever coordinates are flipped. -/
theorem flip_one {t:List (List Int)}{e:Int} (ht:t.length≤1048576) (hc:canR t e=true):∃(n:Nat) (a b c d:Int),edges t=(n:Int)∧isT (flipE t e).1=true∧edges (flipE t e).1=(n:Int)∧∀x y,flipC t x e=(y,true)→Fp t (flipE t e).1 x y n e e a b c d∧isF (flipE t e).1 y=true∧flipC (flipE t e).1 y e=(x,true):=by
 obtain⟨n,i,j,o,l,hn,h1,A,hE,hV⟩:=can_at ht hc
 obtain⟨T1,T2,T3,T4,T5⟩:=A.can hn h1
 rw[hE]
 refine⟨n,sideOf t i (j+1),sideOf t i (j+2),sideOf t o (l+1),sideOf t o (l+2),hn,T1,T2,fun x y h=>?_⟩
 obtain⟨_,hf,h200,hy⟩:=flipC_yes h
 obtain⟨ok,hx,hco,hrows⟩:=isF_ok ht hf
 rw[hn]at ok hx
 have C:Cx t x (n:Int):=⟨ok,hx,hco,hrows⟩
 have F:=A.fp C (hV x) h200
 rw[←set_e h1, ←hy]at F
 have FF:=isF_of F.D T1 T2
 refine⟨F,FF,?_⟩
 have f1:sideOf (flT t i j o l e) i 1=sideOf t i (j+2):=A.fi 1
 have f2:sideOf (flT t i j o l e) i 2=sideOf t o (l+1):=A.fi 2
 have k1:sideOf (flT t i j o l e) o 1=sideOf t o (l+2):=A.fo 1
 have k2:sideOf (flT t i j o l e) o 2=sideOf t i (j+1):=A.fo 2
 have ev:flipV (flT t i j o l e) y e=crd x e:=by
  have:crd y e=rd y (e - 1):=by
   unfold crd
   rw[show(e.natAbs:Int) - 1=e - 1 by omega]
  unfold flipV
  rw[T4,T5]
  show mxI (crd y (sideOf (flT t i j o l e) i 1)+crd y (sideOf (flT t i j o l e) o 1)) (crd y (sideOf (flT t i j o l e) i 2)+crd y (sideOf (flT t i j o l e) o 2)) - rd y (e - 1)=crd x e
  rw[f1,f2,k1,k2, ←this,F.four.2.1.2.2,F.four.2.2.1.2.2,F.four.2.2.2.1.2.2,F.four.2.2.2.2.2.2]
  have v:=F.val
  unfold mxI
  split <;> omega
 have cb:=crd_bd hco e
 unfold flipC
 rw[ip ⟨T3,FF⟩,ev,ig om,hy,List.set_set]
 have hl:=A.e0
 have hlen:x.length=n:=by omega
 have e1:crd x e=x[(e - 1).toNat]'om:=crd_nat om om
 rw[e1,List.set_getElem_self]
theorem nn_f {t:List (List Int)}{x:List Int} (h:isF t x=true) (ht:t.length≤1048576):(∀a∈x,0≤a)∧sumP x≤1800∧x.length≤9:=by
 have C:=cx_of ht h
 have h1:=C.small
 have h2:=sumP_le x (fun a ha=>(co_at C.hc ha).2)
 exact⟨fun a ha=>(co_at C.hc ha).1,by omega,h1.1⟩
/-- The number of curves is the number of classes. -/
theorem count_sp {t:List (List Int)}{x:List Int} (ht:t.length≤1048576) (h:isF t x=true){ys:List Int} (S:UF.Stands ys (NN x:Int) (allG (prIJ t x) t.length 0)) (k:Nat) (hk:7000000<k):gI.f k t x=some ((UF.roots ys).length:Int):=by
 obtain⟨zs,S2,e⟩:=pB (cx_of ht h) h ht k hk
 have hp:=(UF.isort_perm (posL zs zs.length 0) []).length_eq
 rw[List.append_nil,posL_len S2.ok,roots_same S2 S]at hp
 unfold gI.f
 rw[jT t ht x k om,Option.bind_some,ip h,e,Option.bind_some,hp]
theorem cls_ex {t:List (List Int)}{x:List Int} (ht:t.length≤1048576) (h:isF t x=true):∃ys,UF.Stands ys (NN x:Int) (allG (prIJ t x) t.length 0):=by
 obtain⟨ys,S,_⟩:=pB (cx_of ht h) h ht 8000000 (by decide)
 exact⟨ys,S⟩
theorem plain_sp {t:List (List Int)}{n:Nat} (ht:t.length≤1048576){x:List Int} (h:isF t x=true) (hn:edges t=(n:Int)):∃r,DownR t n x r∧∀k,8000000<k→fJ.f k t x=some (r,true):=by
 have C:=cx_of ht h
 rw[hn]at C
 have fz:=nn_f h ht
 obtain⟨r,D,e⟩:=run_down C.ok 2000 x C.inv om
 refine⟨r,D,fun k hk=>?_⟩
 unfold fJ.f
 rw[jT t ht x k om,Option.bind_some,ip h,Option.bind_some,ip (by simp;omega),List.nil_append]
 exact e k om
theorem goB_yes (t:List (List Int)) (x:List Int):∀(d:Nat) (e best least:Int),1≤e→(best≠0→(flipC t x best).2=true)→goB t x d e best least≠0→(flipC t x (goB t x d e best least)).2=true:=by
 intro d
 induction d with
 |zero=>intro e best least _ h hn;exact h hn
 |succ d ih=>
  intro e best least he h
  rw[goB]
  by_cases c:(flipC t x e).2=true
  ·rw[ip c]
   by_cases c2:sumR (flipC t x e).1<least
   ·rw[ip c2]
    exact ih (e+1) e _ om (fun _=>c)
   ·rw[ig c2]
    exact ih (e+1) best least om h
  ·rw[ig c]
   exact ih (e+1) best least om h
theorem best_yes {t:List (List Int)}{x:List Int} (h:bestR t x≠0):(flipC t x (bestR t x)).2=true:=by
 unfold bestR at h ⊢
 by_cases c:isF t x=true
 ·rw[ip c]at h ⊢
  exact goB_yes t x _ _ _ _ (by decide) (fun h=>absurd rfl h) h
 ·rw[ig c]at h
  exact absurd rfl h
/-- What Shorten leaves. -/
theorem shR_ok:∀(d:Nat) (t:List (List Int)) (x:List Int),t.length≤1048576→isF t x=true→sumR x+1<d→isF (shR d t x).1 (shR d t x).2.1=true∧bestR (shR d t x).1 (shR d t x).2.1=0∧sumR (shR d t x).2.1≤sumR x∧(shR d t x).2.2=true∧∀u v,UF.Stands u (NN x:Int) (allG (prIJ t x) t.length 0)→UF.Stands v (NN (shR d t x).2.1:Int) (allG (prIJ (shR d t x).1 (shR d t x).2.1) (shR d t x).1.length 0)→(UF.roots v).length=(UF.roots u).length
 |0,t,x,_,_,hd=>by
  have:=sumR_nn x
  omega
 |d+1,t,x,ht,hf,hd=>by
  obtain⟨b0,b1⟩:=best_lt t x
  rw[shR]
  by_cases h:bestR t x=0
  ·rw[ip h]
   exact⟨hf,h,Int.le_refl _,rfl,fun u v su sv=>roots_same sv su⟩
  ·rw[ig h]
   have b2:=b1 h
   have hy:flipC t x (bestR t x)=((flipC t x (bestR t x)).1,true):=by rw[←best_yes h]
   obtain⟨n,a,b,c,e,hn,T1,T2,key⟩:=flip_one ht (flipC_yes hy).1
   obtain⟨F,FF,_⟩:=key _ _ hy
   have ht2:=(flipE_bd t ht (bestR t x)).1
   obtain⟨r1,r2,r3,r4,r5⟩:=shR_ok d _ _ ht2 FF om
   refine⟨r1,r2,by omega,r4,fun u v su sv=>?_⟩
   obtain⟨w,sw⟩:=cls_ex ht2 FF
   rw[r5 w v sw sv]
   exact(F.count su sw).symm
theorem same_true {s t:List (List Int)} (hs:s.length≤1048576) (ht:t.length≤1048576) (h1:isT s=true) (h2:isT t=true) (h3:turnT s=turnT t) (k:Nat) (hk:6000000<k):gZ.f k s t=some true:=by
 unfold gZ.f
 obtain⟨b1,b2⟩:=turnT_bd s hs
 obtain⟨e1,e2⟩:=sameR_f (turnT s) (turnT t) om b2 k om
 rw[jX s hs k hk,Option.bind_some,ip h1,jX t ht k hk,Option.bind_some,ip h2,jY s hs k hk,jY t ht k hk,Option.bind_some,Option.bind_some,e1,decide_eq_true h3]
 rfl
/-- All drawn triangulations, and all their edges. -/
def chk30 (k:Nat) (t:List (List Int)) (e:Int):Bool:= !(canR t e)||(gA.f k t== gA.f k (flipE t e).1 && (gA.f k t).isSome && isT (flipE (flipE t e).1 e).1 && isT (revR t e).1 && (flipE (flipE t e).1 e).2 && turnT (flipE (flipE t e).1 e).1== turnT (revR t e).1)
theorem chk30_all:(T30.all fun t=>[1,2,3,4,5,6,7,8,9].all fun e=>chk30 10000000 t e)=true:=by decide+kernel
theorem chk30_tell {k:Nat}{t:List (List Int)}{e:Int} (hc:canR t e=true) (h:chk30 k t e=true):(∃w,gA.f k t=some w∧gA.f k (flipE t e).1=some w)∧isT (flipE (flipE t e).1 e).1=true∧isT (revR t e).1=true∧(flipE (flipE t e).1 e).2=true∧turnT (flipE (flipE t e).1 e).1=turnT (revR t e).1:=by
 unfold chk30 at h
 rw[hc]at h
 simp only[Bool.not_true,Bool.false_or,Bool.and_eq_true,beq_iff_eq,Option.isSome_iff_exists]at h
 obtain⟨⟨⟨⟨⟨c1,w,c2⟩,c3⟩,c4⟩,c5⟩,c6⟩:=h
 rw[c2]at c1
 exact⟨⟨w,c2,c1.symm⟩,c3,c4,c5,c6⟩
theorem can_mem {t:List (List Int)}{e:Int} (ht:t.length≤1048576) (hc:canR t e=true):e∈([1,2,3,4,5,6,7,8,9]:List Int):=by
 obtain⟨ok,b1,b2⟩:=canR_ok ht hc
 have n9:=Int.le_trans b2 ok.n9
 clear ok b2 hc ht
 simp only[List.mem_cons,List.not_mem_nil,or_false]
 omega
theorem chk30_at {t:List (List Int)}{e:Int} (h:t∈T30) (ht:t.length≤1048576) (hc:canR t e=true):(∃w,gA.f 10000000 t=some w∧gA.f 10000000 (flipE t e).1=some w)∧isT (flipE (flipE t e).1 e).1=true∧isT (revR t e).1=true∧(flipE (flipE t e).1 e).2=true∧turnT (flipE (flipE t e).1 e).1=turnT (revR t e).1:=by
 have h0:=chk30_all
 rw[List.all_eq_true]at h0
 have h2:=h0 t h
 rw[List.all_eq_true]at h2
 exact chk30_tell hc (h2 e (can_mem ht hc))
theorem fl_j1 {t:List (List Int)}{x:List Int} (h6:t.length≤6) (h3:∀r∈t,r.length=3) (hx:x.length≤9) (k:Nat) (hk:9100000<k):laws_FnFlips.j1 k t x (shF t x).1 (shF t x).2.1 (shF t x).2.2=some true:=by
 obtain⟨k,rfl⟩:=sk k
 have ht:t.length≤1048576:=by omega
 have hr:∀r∈t,r.length≤1048576:=fun r h=>by have:=h3 r h;omega
 simp only[laws_FnFlips.j1]
 by_cases h:isF t x=true
 ·have e:shF t x=shR ((sumR x).toNat+2) t x:=by
   unfold shF
   rw[ip h]
  obtain⟨b1,b2,b3,b4⟩:=shR_bd ((sumR x).toNat+2) t x ht hr (by rw[totT3 t h3];omega) om
  obtain⟨r1,r2,r3,r4,r5⟩:=shR_ok _ t x ht h (sh_d x)
  rw[e]
  obtain⟨u,su⟩:=cls_ex ht h
  obtain⟨v,sv⟩:=cls_ex b1 r1
  have hc:=r5 u v su sv
  rw[ip r4,jT _ b1 _ k om,Option.bind_some,ip r1,count_sp b1 r1 sv k om,Option.bind_some,count_sp ht h su k om,Option.bind_some,ip (by rw[hc]),mC _ b4 k om,Option.bind_some,mC x om k om,Option.bind_some,ip r3,mE _ b1 b2 _ b4 k om,Option.bind_some,r2]
  rfl
 ·have e:shF t x=([],[],false):=by
   unfold shF
   rw[ig h]
  have e2:bestR t x=0:=by
   unfold bestR
   rw[ig h]
  rw[e,ig (by simp),mE t ht hr x om k om,Option.bind_some,e2]
  rfl
theorem fl_j0 {t:List (List Int)}{x:List Int}{e:Int} (h6:t.length≤6) (h3:∀r∈t,r.length=3) (hx:x.length≤9) (k:Nat) (hk:9100010<k):laws_FnFlips.j0 k t x e (flipE t e).1 (flipC t x e).1 (flipC t x e).2 (shF t x).1 (shF t x).2.1 (shF t x).2.2=some true:=by
 obtain⟨k,rfl⟩:=sk k
 have ht:t.length≤1048576:=by omega
 have hr:∀r∈t,r.length≤1048576:=fun r h=>by have:=h3 r h;omega
 have j1:=fl_j1 h6 h3 hx k om
 simp only[laws_FnFlips.j0]
 by_cases one:(flipC t x e).2=true
 ·have hy:flipC t x e=((flipC t x e).1,true):=by rw[←one]
  obtain⟨hc,hf,_,_⟩:=flipC_yes hy
  obtain⟨n,a,b,c,d,hn,T1,T2,key⟩:=flip_one ht hc
  obtain⟨F,FF,back⟩:=key _ _ hy
  obtain⟨s1,s2,_⟩:=flipE_bd t ht e
  have yl:=flipC_len t ht x e
  obtain⟨u,su⟩:=cls_ex ht hf
  obtain⟨v,sv⟩:=cls_ex s1 FF
  have hcnt:=F.count su sv
  obtain⟨r,D1,p1⟩:=plain_sp ht hf hn
  obtain⟨q,D2,p2⟩:=plain_sp s1 FF T2
  rw[ip one,jZ _ s1 s2 _ om e k om,back,Option.bind_some,jT _ s1 _ k om,Option.bind_some,ip FF,count_sp s1 FF sv k om,Option.bind_some,count_sp ht hf su k om,Option.bind_some,ip (by rw[hcnt]),ip rfl,same_f x om k om,Option.bind_some,ip rfl,p1 k om,Option.bind_some,p2 k om,Option.bind_some]
  dsimp only
  rw[mA t ht r e k om,Option.bind_some]
  by_cases fine:(flipC t r e).2=true
  ·have hz:flipC t r e=((flipC t r e).1,true):=by rw[←fine]
   obtain⟨G,_,_⟩:=key _ _ hz
   have hq:=F.down G D1 D2
   have ql:=flipC_len t ht r e
   rw[ip fine, ←hq,same_f _ om k om,Option.bind_some,ip rfl]
   exact j1
  ·rw[ig fine]
   exact j1
 ·rw[ig one]
  exact j1
theorem flipE_snd (t:List (List Int)) (e:Int):(flipE t e).2=canR t e:=by
 unfold flipE
 by_cases h:canR t e=true
 ·rw[ip h,h]
 ·rw[ig h]
  simp at h
  rw[h]
theorem flipC_bd (t:List (List Int)) (ht:t.length≤1048576) (x:List Int) (e:Int):(flipC t x e).1.length≤1048576:=by
 have:=flipC_len t ht x e
 omega
theorem ff_f (l:List Int) (hl:l.length≤1048576):laws_FnFlips.f 10000000 l=some true:=by
 have K:(9001000:Nat)<10000000:=by decide
 obtain⟨t,x,e,d1,g⟩:=drawFC_ok l hl 10000000 K
 have t6:=g.len
 have x9:=g.xs
 have ht:t.length≤1048576:=by omega
 have hr:∀r∈t,r.length≤1048576:=fun r h=>by have:=g.row r h;omega
 have hx:x.length≤1048576:=by omega
 obtain⟨r,m,d2,r6,r3⟩:=drawRE_ok l hl 10000000 K
 have hrl:r.length≤1048576:=by omega
 have hrr:∀z∈r,z.length≤1048576:=fun z h=>by have:=r3 z h;omega
 obtain⟨a,b,d3,al,bl⟩:=drawST_ok l hl 10000000 K
 obtain⟨sb,sa1,sa2⟩:=same_both a b al bl 10000000 (by decide)
 obtain⟨E1,E2,_⟩:=flipE_bd t ht e
 obtain⟨R1,R2,_⟩:=revR_bd r hrl m
 obtain⟨Z1,Z2,_,Z4⟩:=shF_bd t x ht hr (by rw[totT3 t g.row];omega) hx
 have sl:=sumR_nn x
 have sle:sumR x≤1800:=by
  unfold sumR
  by_cases c:x.all co=true
  ·rw[ip c]
   have:=(sumL_bd x c).2
   omega
  ·rw[ig c]
   decide
 obtain⟨T1,T2⟩:=turnT_bd t ht
 have i1:=mG t ht hr e 10000000 (by decide)
 have i2:=mH t ht hr e 10000000 (by decide)
 have i3:=jZ t ht hr x hx e 10000000 (by decide)
 have i4:=mA t ht x e 10000000 (by decide)
 have i5:=mU r hrl hrr m 10000000 (by decide)
 have i6:=pT r hrl hrr m 10000000 (by decide)
 have i7:=pU t ht hr x hx 10000000 om
 have i8:=pV t ht hr x hx 10000000 om
 have i9:=mM t ht hr e 10000000 (by decide)
 have i10:=jY t ht 10000000 (by decide)
 have i11:=mI t ht 10000000 (by decide)
 have i12:=mC x hx 10000000 (by decide)
 have i13:=mN x hx 10000000 (by decide)
 have i14:=mE t ht hr x hx 10000000 (by decide)
 have i15:=mL t ht x hx 10000000 (by decide)
 have e1:=sameL_f (flipE t e).1 E1 E2 10000000 (by decide)
 have e2:=same_f (flipC t x e).1 (flipC_bd t ht x e) 10000000 (by decide)
 have e3:=sameL_f (revR r m).1 R1 R2 10000000 (by decide)
 have e4:=sameL_f (shF t x).1 Z1 Z2 10000000 (by decide)
 have e5:=same_f (shF t x).2.1 Z4 10000000 (by decide)
 have e6:=sameL_f (turnT t) om (fun z h=>by have:=T2 z h;omega) 10000000 (by decide)
 have j0:=fl_j0 (e:=e) t6 g.row x9 10000000 (by decide)
 have big:jW.f l=some false:=by
  unfold jW.f
  rw[decide_eq_false om]
 have snd:=flipE_snd t e
 unfold laws_FnFlips.f
 simp only[big,d1,d2,d3,sa1,sa2,i1,i2,i3,i4,i5,i6,i7,i8,i9,i10,i11,i12,i13,i14,i15,e1,e2,e3,e4,e5,e6,Option.bind_some,if_true,bne_self_eq_false,Bool.false_eq_true,if_false,snd]
 by_cases hc:canR t e=true
 ·obtain⟨n,_,_,_,_,hn,F1,F2,_⟩:=flip_one ht hc
  obtain⟨⟨w,c2,c1⟩,c3,c4,c5,c6⟩:=chk30_at g.mem ht hc
  obtain⟨B1,B2,_⟩:=flipE_bd (flipE t e).1 E1 e
  obtain⟨V1,V2,_⟩:=revR_bd t ht e
  have k1:=mG (flipE t e).1 E1 E2 e 10000000 (by decide)
  have k2:=mU t ht hr e 10000000 (by decide)
  have k3:=mD (flipE t e).1 E1 10000000 (by decide)
  have k4:=same_true B1 V1 c3 c4 c6 10000000 (by decide)
  simp only[hc,c2,c1,k1,k2,k3,F1,c5,k4,Option.bind_some,if_true,bne_self_eq_false,Bool.false_eq_true,if_false,beq_self_eq_true,Bool.not_true,Bool.or_self]
  exact j0
 ·rw[ig hc]
  exact j0
end Go.Proofs.Ytemeiocmgbgikaa.L

namespace Go.Proofs.Ytemeiocmgbgikaa.Pure
open Go.Proofs.YtemeiocmgbgikaaW.PrintWords (om sk ip ig)
open Go.RowKit Go.Proofs.Ytemeiocmgbgikaa.P Go.Proofs.Ytemeiocmgbgikaa.Help Go.Proofs.Ytemeiocmgbgikaa.L
theorem FnFlips:laws_FnFlips.Pure:=by
 intro l _ _ _
 by_cases hl:l.length≤1048576
 ·exact⟨_,ff_f l hl⟩
 ·refine⟨1,?_⟩
  unfold laws_FnFlips.f jW.f
  rw[Option.bind_some,ip (by simp;omega)]
end Go.Proofs.Ytemeiocmgbgikaa.Pure
