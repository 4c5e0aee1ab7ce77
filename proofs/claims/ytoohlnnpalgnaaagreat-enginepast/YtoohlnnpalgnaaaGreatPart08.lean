/- H1 HullQ HullS HullT PairQ PW1 DigL R1 R2 S2 S3 NewsN PW2 TouL TouQ MeshN EnL KT EnS SD1 En1 -/
import Derived.Test.YtoohlnnpalgnaaaGreatPart07
import Derived.Test.YtoohlnnpalgnaaaGreatPart05
import Derived.Test.YtoohlnnpalgnaaaGreatPart00
import Derived.Test.YtoohlnnpalgnaaaGreatPart04
set_option linter.all false
namespace Orr
open Go Go.Proofs Tryz Orq
set_option maxRecDepth 10000
theorem gz{P:Program}[Mo P]{n:Nat}{Q:Exit->Sg->Uu->Prop}{L L':Sg}{B B':Uu}(i:Nat){it:List It}(hs:Ri it=true)(h:Qc4 [i] L B=some (L',B'))(k:AK P n Q it L' B'):AK P n Q it L B:=AK.sub (GX h) hs k
theorem ER{r:Uo}{i:Nat}{p:Un}(h:r[i]? = some p):(JH r)[i]? = some [pl p]:=G6 h
theorem E7{l:List Uo}{i:Nat}{r:Uo}(h:l[i]? = some r):(Ig l)[i]? = some [.row (JH r)]:=G6 h
theorem Qef{r:Uo}(ht:∀p∈r,Fc p)(hb:∀p∈r,Bd 1000000 p)(hl:∀p∈r,p.length≤1000000)(hn:r.length≤1000):Uk 277 [.one (.row (JH r))] [.one (.row (JH r))]:=by
 have hrl:(JH r).length=r.length:=by simp
 refine Fu func277 rfl ?_;refine Ue [.o 3 33 1] rfl ?_;refine Uj (S:=Nat) 1 (λL1 i=>(8,.v (.oi i))::(3,.v (.one (.orow 0 1 none)))::L1) (λi=>[.row false 33 1 (JH (r.take i))]) (λi=>r.length-i) (λi=>i<=r.length) 0 (Qh _) rfl rfl λi hi=>?_
 by_cases h:i<r.length
 ·obtain⟨p,hp⟩:=gxE (l:=r) (i:=i) h;have hm:=Qc hp;have hs:∀y∈[[pl p]],y.length=1:=λy hy=>by rw[Qk.1 hy];rfl
  have e:JH (r.take (i+1))=JH (r.take i)++[[pl p]]:=by rw[Z2,hp];simp
  refine go tt [.T,.x (ER hp),.k (Hq (ht p hm) (by have:=hl p hm;omega) (U4 (hb p hm) (by decide))),.s (sz:=1) hs] rfl (by simp[U0] <;> omega) ?_;exact rd (i+1) (by omega) h (by rw[e];rfl)
 ·obtain rfl:i=r.length:=by omega
  rw[Q6];exact Ug [.F] rfl
theorem Qxz{s k w:Nat}{ds:Up}{rows:List Uo}(h:Sq s ds k k rows)(_hw:w=k)(hk:k<=4):Uk 315 [.one (.row (Ig rows))] [.one (.bool true)]:=by
 have hrl:=YE rows;have hl:=h.l;refine Fu func315 rfl ?_;refine Ue [] rfl ?_;refine Uj (S:=Nat) 0 (λL1 i=>(7,.v (.oi i))::L1) (λ_=>[]) (λi=>rows.length-i) (λi=>i<=rows.length) 0 (Qh _) rfl rfl λi hi=>?_
 by_cases hlt:i<rows.length
 ·obtain⟨r,hr⟩:=gxE (l:=rows) (i:=i) hlt;have hw:=h.w r (Qc hr);have hql:(JH r).length=r.length:=by simp
  refine go tt [.T,.x (E7 hr),.f (decide_eq_false (λh=>h (by omega)))] rfl (by simp[U0] <;> omega) ?_;exact rd (i+1) (by omega) hlt rfl
 ·exact Ug [.F] rfl (by rw[decide_eq_true (by omega:((Ig rows).length:Int)<=4)]) trivial
theorem Qno{s k w:Nat}{ds:Up}{rows:List Uo}(h:Sq s ds k w rows)(hs:s<=1000000)(hk:k<=4)(hw:w<=4)(hd:∀j,ds.getD j 0<=1000)(i:Nat):Uk 337 [.oi i,.oi 0,.one (.row (Ig rows))] [.one (.row (Ig (VT rows i)))]:=by
 have hrl:=YE rows;have hl:=h.l;have hml:∀j,j<=rows.length->(Ig (XI i rows j)).length<=4:=λj hj=>by
  rw[YE,LK];split <;> omega
 refine Fu func337 rfl ?_;refine Ue [.o 7 340 1] rfl ?_;refine Uj (S:=Nat) 1 (λL1 j=>(15,.v (.oi j))::(7,.v (.one (.orow 0 1 none)))::L1) (λj=>[.row false 340 1 (Ig (XI i rows j))]) (λj=>rows.length-j) (λj=>j<=rows.length) 0 (Qh _) rfl rfl λj hj=>?_
 have hmlj:=hml j hj;by_cases hlt:j<rows.length
 ·obtain⟨r,hr⟩:=gxE (l:=rows) (i:=j) hlt;have hm:=Qc hr;have hw:=h.w r hm;have hql:(JH r).length=r.length:=by simp
  by_cases hij:j=i
  ·have e:XI i rows (j+1)=XI i rows j:=by simp only[XI];rw[if_pos hij]
   refine go tt [.T,.x (E7 hr),.T] rfl (by simp[U0] <;> omega) ?_;exact rd (j+1) (by omega) hlt (by rw[e];rfl)
  ·have e:XI i rows (j+1)=XI i rows j++[r.drop 1]:=by
    simp only[XI];rw[if_neg hij,Qi,hr];rfl
   refine Ue [.T,.x (E7 hr),.F,.o 10 33 1] rfl ?_ (by simp[U0]);refine Uj (S:=Nat) 2 (λL1 c=>(25,.v (.oi c))::(10,.v (.one (.orow 1 1 none)))::L1) (λc=>[.row false 340 1 (Ig (XI i rows j)),.row false 33 1 (JH ((r.take c).drop 1))]) (λc=>r.length-c) (λc=>c<=r.length) 0 (Qh _) rfl rfl λc hc=>?_
   by_cases hcl:c<r.length
   ·obtain⟨p,hp⟩:=gxE (l:=r) (i:=c) hcl;have hpm:=Qc hp;by_cases h0:c=0
    ·subst h0;refine Ue [.T,.x (ER hp),.f (decide_eq_false (by simp))] rfl ?_ (by simp[U0]);exact rd 1 (by omega) hcl (by rw[Z2,hp];rfl)
    ·have hs1:∀y∈[[pl p]],y.length=1:=λy hy=>by rw[Qk.1 hy];rfl
     have e2:JH ((r.take (c+1)).drop 1)=JH ((r.take c).drop 1)++[[pl p]]:=by
      rw[Z2,hp,Wh (by rw[Qq];omega)];simp
     refine go tt [.T,.x (ER hp),.T,.k (Hq (h.t r hm p hpm) (by have:=h.n r hm c p hp;have:=hd c;omega) (U4 (h.b r hm p hpm) (by omega))),.s (sz:=1) hs1] rfl (by simp[U0] <;> omega) ?_;exact rd (c+1) (by omega) hcl (by rw[e2];rfl)
   ·obtain rfl:c=r.length:=by omega
    rw[Q6];have hs1:∀y∈[[LV.row (JH (r.drop 1))]],y.length=1:=λy hy=>by rw[Qk.1 hy];rfl
    refine Ue [.F] rfl ?_;refine gz 1 rfl rfl ?_;refine go tt [.s (sz:=1) hs1] rfl (by simp[U0] <;> omega) ?_;exact rd (j+1) (by omega) hlt (by rw[e];simp[Ig];rfl)
 ·obtain rfl:j=rows.length:=by omega
  exact Ug [.F] rfl
theorem SV:∀(ds:Up) (j:Nat),ds.getD j 0<=ds.sum
 | [],j=>by simp
 |d::ds,0=>by simp
 |
  d::ds,j+1=>by
  have:=SV ds j;rw[Ku];show ds.getD j 0<=_;omega
theorem Qrv{s:Nat}(hs:s<=100000):∀(k:Nat) (ds:Up) (rows:List Uo),k<=4->ds.length=k->ds.sum<31->Sq s ds k k rows->Uk 316 [.one (.row (Ig rows))] [pr (Lj k rows)]
 |
  0,ds,rows,_,_,_,h=>by
  have e:=Qj h.l;subst e;have co:=lF (p:=[1]) (by decide) (by decide);exact Uh func316 rfl [.t rfl,.k co] rfl
 |k+1,[],_,_,hl,_,_=>by simp at hl
 |
  k+1,d::ds,rows,hk,hl,hd,h=>by
  rw[Ku]at hd;have hl':ds.length=k:=by simpa using hl
  have hrl:=YE rows;have hrn:=h.l;have hmin:=λi (hi:i<k+1)=>h.min hi
  have ih:=λi (hi:i<k+1)=>Qrv hs k ds (VT rows i) (by omega) hl' (by omega) (hmin i hi)
  have hok:=λi (hi:i<k+1)=>MO k ds (VT rows i) (by omega) hl' (by omega) (hmin i hi)
  have hb:k*(s+10)+1<=500000:=by
   have:k*(s+10)<=4*(100010):=Zc (by omega) (by omega);omega
  have hds:=jK (f:=λi=>Lj k (VT rows i)) (B:=k*(s+10)+1) (L:=ds.sum) h (by omega) (λi hi=>⟨(hok i hi).2.1,(hok i hi).2.2⟩);have cm:=Qno h (by omega) hk hk (λj=>by have:=SV (d::ds) j;rw[Ku]at this;omega);show Uk 316 [.one (.row (Ig rows))] [pr (Di (λi=>Lj k (VT rows i)) rows (k+1))];obtain⟨f,hf⟩:=nmE (λi=>Lj k (VT rows i));rw[<-hf]at hds ⊢;have hfi:∀i,f i=Lj k (VT rows i):=λi=>by rw[hf]
  refine Fu func316 rfl ?_;refine Ue [.F,.z 3] rfl ?_;refine Uj (S:=Nat) 0 (λL1 i=>(14,.v (.oi i))::(3,.v (pr (Di f rows i)))::L1) (λ_=>[]) (λi=>k+1-i) (λi=>i<=k+1) 0 (Qh _) rfl rfl λi hi=>?_
  obtain⟨d1,d2,d3⟩:=hds i hi;by_cases hlt:i<k+1
  ·obtain⟨p,r,hr,e,t,b,l⟩:=h.at hlt;have hx0:(JH (p::r))[0]? = some [pl p]:=rfl;have hpl:(p.map He).length=p.length:=by simp
   have cn:=Hq t (by omega) (U4 b (by omega));by_cases h0:p.length=0
   ·have es:Di f rows (i+1)=Di f rows i:=by simp only[Di];rw[e,if_pos h0]
    refine go tt [.T,.x (E7 hr),.x hx0,.k cn,.T] rfl (by simp[U0] <;> omega) ?_;exact rd (i+1) (by omega) hlt (by rw[es];rfl)
   ·obtain⟨k1,k2,k3⟩:=hok i hlt;have ci:=ih i hlt;have cp:=KG (p:=p) (q:=f i) t (by rw[hfi];exact k1) (by omega) (by rw[hfi];omega) b (by rw[hfi];exact k2) (by omega);have hmb:Bd (s+(k*(s+10)+1)+5) (Gj p (f i)):=Pg b (by rw[hfi];exact k2) (by omega);have hml:=Tv p (f i);have hfl:(f i).length<=ds.sum+1:=by rw[hfi];exact k3
    rw[<-hfi]at ci;by_cases h2:i % 2=0
    ·have es:Di f rows (i+1)=A0 (Di f rows i) (Gj p (f i)):=by simp only[Di];rw[e,if_neg h0,if_pos h2]
     refine go tt [.T,.x (E7 hr),.x hx0,.k cn,.F,.x hx0,.k (cm i),.k ci,.k cp,.r 34 (eI (b:=((i % 2:Nat):Int)) rfl),.T,.k (BF (p:=Di f rows i) (q:=Gj p (f i)) (by omega) (by omega) (U4 d2 (by omega)) (U4 hmb (by omega)))] rfl (by simp[U0] <;> omega) ?_;exact rd (i+1) (by omega) hlt (by rw[es];rfl)
    ·have es:Di f rows (i+1)=M4 (Di f rows i) (Gj p (f i)):=by simp only[Di];rw[e,if_neg h0,if_neg h2]
     refine go tt [.T,.x (E7 hr),.x hx0,.k cn,.F,.x hx0,.k (cm i),.k ci,.k cp,.r 34 (eI (b:=((i % 2:Nat):Int)) rfl),.F,.k (HG (p:=Di f rows i) (q:=Gj p (f i)) (by omega) (by omega) (U4 d2 (by omega)) (U4 hmb (by omega)))] rfl (by simp[U0] <;> omega) ?_;exact rd (i+1) (by omega) hlt (by rw[es];rfl)
  ·obtain rfl:i=k+1:=by omega
   exact Ug [.F] rfl
theorem Qro{s:Nat}(hs:s<=100000){k:Nat}{ds:Up}{rows:List Uo}(hk:k<=4)(hl:ds.length=k)(hd:ds.sum<31)(h:Sq s ds k k rows):Uk 278 [.one (.row (Ig rows))] [pr (Lj k rows),.oi 0] :=
 Uh func278 rfl [.k (Qxz h rfl hk),.f rfl,.k (Qrv hs k ds rows hk hl hd h)] rfl
theorem mV{k:Crv}(hk:Sc k):Uk 276 [.agg (cl k)] [.one (.row (JH [k.x,k.y,[k.d]]))]:=by
 have h0:k.d≠0:=by have:=hk.n.2.2.1;omega
 have td:Fc [k.d]:=by unfold Fc;simp[trim,h0]
 have cd:=Qef (r:=[k.x,k.y,[k.d]]) (λp hp=>by
  rcases Qm.1 hp with rfl|hp
  ·exact hk.n.1
  rcases Qm.1 hp with rfl|hp
  ·exact hk.n.2.1
  ·rw[Qk.1 hp];exact td) (λp hp=>by
  rcases Qm.1 hp with rfl|hp
  ·exact U4 hk.c.x (by decide)
  rcases Qm.1 hp with rfl|hp
  ·exact U4 hk.c.y (by decide)
  ·rw[Qk.1 hp];intro z hz;rw[Qk.1 hz];exact Qa hk.c.d (by decide)) (λp hp=>by
  rcases Qm.1 hp with rfl|hp
  ·have:=hk.c.lx;omega
  rcases Qm.1 hp with rfl|hp
  ·have:=hk.c.ly;omega
  ·rw[Qk.1 hp];show 1<=1000000;decide) (by show 3<=1000;decide)
 exact Uh func276 rfl [.k (Dt hk.n (hk.c.mono (by decide) (by decide))),.k cd] rfl
theorem tO{a b c:Crv}(ha:Sc a)(hb:Sc b)(hc:Sc c):Sq 128 [2,2,0] 3 3 (rZ a b c):=by
 have key:∀k:Crv,Sc k->(∀p∈[k.x,k.y,[k.d]],Fc p/\Bd 128 p)/\∀(j:Nat) (p:Un),[k.x,k.y,[k.d]][j]? = some p->p.length≤[2,2,0].getD j 0+1:=λk hk=>by
  have h0:k.d≠0:=by have:=hk.n.2.2.1;omega
  have td:Fc [k.d]:=by unfold Fc;simp[trim,h0]
  refine⟨λp hp=>?_,λj p hp=>?_⟩
  ·rcases Qm.1 hp with rfl|hp
   ·exact⟨hk.n.1,hk.c.x⟩
   rcases Qm.1 hp with rfl|hp
   ·exact⟨hk.n.2.1,hk.c.y⟩
   ·rw[Qk.1 hp];exact⟨td,λz hz=>by rw[Qk.1 hz];exact hk.c.d⟩
  ·match j,hp with
   | 0,hp=>injection hp with hp;subst hp;exact hk.c.lx
   | 1,hp=>injection hp with hp;subst hp;exact hk.c.ly
   | 2,hp=>injection hp with hp;subst hp;exact Ql _
   |j+3,hp=>simp at hp
 have hr:∀r∈rZ a b c,∃k:Crv,Sc k/\r=[k.x,k.y,[k.d]]:=λr hr=>by
  rcases Qm.1 hr with rfl|hr
  ·exact⟨a,ha,rfl⟩
  rcases Qm.1 hr with rfl|hr
  ·exact⟨b,hb,rfl⟩
  ·rw[Qk.1 hr];exact⟨c,hc,rfl⟩
 refine⟨rfl,λr h=>?_,λr h p hp=>?_,λr h p hp=>?_,λr h j p hp=>?_⟩
 all_goals obtain⟨k,hk,rfl⟩:=hr r h
 ·rfl
 ·exact((key k hk).1 p hp).1
 ·exact((key k hk).1 p hp).2
 ·exact(key k hk).2 j p hp
theorem YW{a b c:Crv}(ha:Sc a)(hb:Sc b)(hc:Sc c):Cp (Hg a b c):=by
 obtain⟨h1,h2,h3⟩:=MO 3 [2,2,0] (rZ a b c) (by decide) rfl (by decide) (tO ha hb hc);exact⟨h1,Qa h3 (by decide),U4 h2 (by decide)⟩
theorem wG{a b c:Crv}(ha:Sc a)(hb:Sc b)(hc:Sc c):Uk 237 [.agg (cl a),.agg (cl b),.agg (cl c)] [pr (Hg a b c)]:=by
 have cd:=Qro (by decide) (k:=3) (ds:=[2,2,0]) (by decide) rfl (by decide) (tO ha hb hc);exact Uh func237 rfl [.k (mV ha),.k (mV hb),.k (mV hc),.k cd] rfl
end Orr
namespace Orq
open Orr Go
theorem sV{p q:Un}(tp:Fc p)(tq:Fc q)(h:∀i,p.getD i 0=q.getD i 0):p=q:=by
 have hl:∀{p q:Un},Fc p->(∀i,p.getD i 0=q.getD i 0)->p.length<=q.length:=λ{p q} tp h=>by
  refine Nat.not_lt.1 λhn=>?_
  have h1:=H7 tp (by omega);rw[h,Qi,Qu (by omega)]at h1;exact h1 rfl
 have e:=Kb (hl tp h) (hl tq λi=>(h i).symm);refine List.ext_getElem e λi h1 h2=>?_
 have:=h i;rw[Qi,Qi,Qe h1,Qe h2]at this;exact this
theorem fW{p:Un}(h:p=[])(i:Nat):p.getD i 0=0:=by rw[h];simp
theorem Eo(p:Un)(c:Int)(i:Nat):(Ft p c).getD i 0=p.getD i 0*c:=by
 unfold Ft;rw[S8]
 split
 ·rfl
 ·rename_i h;rw[Qi,Qu (by omega)];simp
theorem EF(p q:Un)(i:Nat):(M4 p q).getD i 0=p.getD i 0-q.getD i 0:=by
 unfold M4;rw[S8]
 split
 ·rfl
 ·rename_i h;rw[Qi,Qi,Qu (by omega),Qu (by omega)];simp
theorem Qph{x y:Crv}(hx:ZM x)(hy:ZM y)(h1:Gl x y=[])(h2:Gk x y=[]):x=y:=by
 have e1:∀i,y.x.getD i 0*x.d=x.x.getD i 0*y.d:=λi=>by
  have:=fW h1 i;unfold Gl at this;rw[EF,Eo,Eo]at this;omega
 have e2:∀i,y.y.getD i 0*x.d=x.y.getD i 0*y.d:=λi=>by
  have:=fW h2 i;unfold Gk at this;rw[EF,Eo,Eo]at this;omega
 have key:∀{x y:Crv},ZM x->ZM y->(∀i,y.x.getD i 0*x.d=x.x.getD i 0*y.d)->(∀i,y.y.getD i 0*x.d=x.y.getD i 0*y.d)->x.d∣y.d:=λ{x y} hx hy e1 e2=>by
  have hd:=uN (d:=x.d) (l:=(x.d::(x.x++x.y)).map (· * y.d)) λz hz=>by
   obtain⟨w,hw,rfl⟩:=Za.1 hz;rcases Qm.1 hw with rfl|hw
   ·exact Int.dvd_mul_right _ _
   ·rcases Qr.1 hw with hw|hw
    ·obtain⟨i,hi,rfl⟩:=V0.1 hw;have:=e1 i;rw[show x.x.getD i 0=x.x[i] from by rw[Qi,Qe hi];rfl]at this;rw[<-this];exact Y9 _ _
    ·obtain⟨i,hi,rfl⟩:=V0.1 hw;have:=e2 i;rw[show x.y.getD i 0=x.y[i] from by rw[Qi,Qe hi];rfl]at this;rw[<-this];exact Y9 _ _
  rw[Qhq,hx.2.2.2,Wo]at hd;exact V5 hd (Int.natAbs_dvd.2 (K8 _))
 have hd:x.d=y.d:=Int.dvd_antisymm (Int.le_of_lt hx.2.2.1) (Int.le_of_lt hy.2.2.1) (key hx hy e1 e2) (key hy hx (λi=>(e1 i).symm) λi=>(e2 i).symm);have hd0:y.d≠0:=by have:=hy.2.2.1;omega
 rw[hd]at e1 e2;have ex:x.x=y.x:=sV hx.1 hy.1 λi=>(Y4 hd0 (e1 i)).symm
 have ey:x.y=y.y:=sV hx.2.1 hy.2.1 λi=>(Y4 hd0 (e2 i)).symm
 cases x;cases y;simp only at hd ex ey;rw[hd,ex,ey]
theorem Qq2(l:List Pt):(Tn l).Pairwise λx y=>x.c≠y.c:=by
 have key:∀(l out:List Pt),out.Pairwise (λx y=>x.c≠y.c)->(l.foldl B5 out).Pairwise λx y=>x.c≠y.c:=by
  intro l
  induction l with
  |nil=>intro out h;exact h
  |
   cons p l ih =>
   intro out h;refine ih _ ?_;unfold B5
   split
   ·exact h
   ·rename_i hn;refine Xv.2 ⟨h,Kl _ _,λa ha b hb e=>hn ?_⟩;rw[Qk.1 hb]at e;rw[List.any_eq_true];exact⟨a,ha,by rw[<-e];simp[Ea]⟩
 exact key l [] .nil
theorem Qlh(l:List Pt):(Tn l).Sublist l:=by
 have key:∀(l out o:List Pt),out.Sublist o->(l.foldl B5 out).Sublist (o++l):=by
  intro l
  induction l with
  |nil=>intro out o h;rw[Zv];exact h
  |
   cons p l ih =>
   intro out o h;have:(B5 out p).Sublist (o++[p]):=by
    unfold B5
    split
    ·exact h.trans (List.sublist_append_left _ _)
    ·exact h.append (List.Sublist.refl _)
   have:=ih _ _ this;rwa[Zd]at this
 exact key l [] [] (List.Sublist.refl _)
theorem Oi(f:Nat->Un)(rows:List Uo)(q:Rat)(i:Nat):U7 (Di f rows (i+1)) q=U7 (Di f rows i) q+(if i % 2=0 then 1 else -1)*(U7 ((rows.getD i []).getD 0 []) q*U7 (f i) q):=by
 simp only[Di]
 split
 ·rename_i h;have:U7 ((rows.getD i []).getD 0 []) q=0:=by rw[Qj h];rfl
  rw[this];grind
 ·split
  ·rw[LI,Gi];grind
  ·rw[Ng,Gi];grind
theorem iI(z:Int)(q:Rat):U7 [z] q=(z:Rat):=by simp[U7,Rat.add_zero]
theorem rU(p:Un)(q:Rat):U7 (Lj 1 [[p]]) q=U7 p q:=by
 show U7 (Di (λi=>Lj 0 (VT [[p]] i)) [[p]] (0+1)) q=_;rw[Oi];show(0:Rat)+1*(U7 p q*U7 [1] q)=_;rw[iI];have:((1:Int):Rat)=1:=rfl;grind
theorem LA(p r s t:Un)(q:Rat):U7 (Lj 2 [[p,r],[s,t]]) q=U7 p q*U7 t q-U7 s q*U7 r q:=by
 show U7 (Di (λi=>Lj 1 (VT [[p,r],[s,t]] i)) [[p,r],[s,t]] (0+1+1)) q=_;rw[Oi,Oi];show(0:Rat)+1*(U7 p q*U7 (Lj 1 [[t]]) q)+(-1)*(U7 s q*U7 (Lj 1 [[r]]) q)=_;rw[rU,rU];grind
theorem Qjk(a1 a2 a3 b1 b2 b3 c1 c2 c3:Un)(q:Rat):U7 (Lj 3 [[a1,a2,a3],[b1,b2,b3],[c1,c2,c3]]) q=U7 a1 q*(U7 b2 q*U7 c3 q-U7 c2 q*U7 b3 q)-U7 b1 q*(U7 a2 q*U7 c3 q-U7 c2 q*U7 a3 q)+U7 c1 q*(U7 a2 q*U7 b3 q-U7 b2 q*U7 a3 q):=by
 show U7 (Di (λi=>Lj 2 (VT [[a1,a2,a3],[b1,b2,b3],[c1,c2,c3]] i)) [[a1,a2,a3],[b1,b2,b3],[c1,c2,c3]] (0+1+1+1)) q=_;rw[Oi,Oi,Oi];show(0:Rat)+1*(U7 a1 q*U7 (Lj 2 [[b2,b3],[c2,c3]]) q)+(-1)*(U7 b1 q*U7 (Lj 2 [[a2,a3],[c2,c3]]) q)+1*(U7 c1 q*U7 (Lj 2 [[a2,a3],[b2,b3]]) q)=_;rw[LA,LA,LA];grind
theorem cE{a b c:Pt}(ha:Sc a.c)(hb:Sc b.c)(hc:Sc c.c)(q:Rat):Fe (U7 (Hg a.c b.c c.c) q)=Fe (Bf (px · q) (py · q) a b c):=by
 have Rt:∀{k:Crv},Sc k->(0:Rat)<(k.d:Rat):=λh=>by exact_mod_cast h.n.2.2.1
 have pa:=Rt ha;have pb:=Rt hb;have pc:=Rt hc;have xx:∀{p:Pt},0<(p.c.d:Rat)->U7 p.c.x q=px p q*(p.c.d:Rat)/\U7 p.c.y q=py p q*(p.c.d:Rat):=λ{p} h=>by
  unfold px py;exact⟨(Zj (by grind)).symm,(Zj (by grind)).symm⟩
 obtain⟨xa,ya⟩:=xx pa;obtain⟨xb,yb⟩:=xx pb;obtain⟨xc,yc⟩:=xx pc;have e:U7 (Hg a.c b.c c.c) q=((a.c.d:Rat)*(b.c.d:Rat)*(c.c.d:Rat))*Bf (px · q) (py · q) a b c:=by
  unfold Hg rZ Bf;rw[Qjk,iI,iI,iI,xa,xb,xc,ya,yb,yc];grind
 rw[e,Cw (Xl (Xl pa pb) pc)]
def FK(sg:Un->Int)(a b c:Pt):Bool:=decide (0<Hi sg (Hg a.c b.c c.c))
def Ph(sg:Un->Int)(row:List Pt):List Pt:=(Pz (FK sg) [] row).reverse
def L6(sg:Un->Int)(row:List Pt):List Pt:=if row.length<3 then row else(Ph sg row).dropLast++(Ph sg row.reverse).dropLast
def Pe(l:List Pt)(a:Tm):List Pt:=L6 (Fp a) (Ty a (Tn l))
def Rp(C:List Pt):List (Pt×Pt):=C.zip (C.drop 1++C.take 1)
def Lb(sg:Un->Int)(a b c:Pt):Ct:=⟨3,a.id,b.id,c.id,0,Hg a.c b.c c.c,Hi sg (Hg a.c b.c c.c)⟩
def VP(e:Pt×Pt)(c:Pt):Bool:=decide (c.id≠e.1.id) && decide (c.id≠e.2.id)
def Af(sg:Un->Int)(l:List Pt)(e:Pt×Pt):List Ct:=(l.filter (VP e)).map λc=>Lb sg e.1 e.2 c
def Ba(sg:Un->Int)(l C:List Pt):List Ct:=if C.length<2 then []else(Rp C).flatMap (Af sg l)
def AU(l:List Pt)(a:Tm):List Ct:=ZB l a++Ba (Fp a) l (Pe l a)
abbrev brH(l:List Pt)(a:Tm):Ut:=Uz (Pe l a)
def NB(l:List Pt):Uo:=l.flatMap λx=>l.flatMap λy=>l.map λz=>Hg x.c y.c z.c
theorem kA{l:List Pt}{x y z:Pt}(hx:x∈l)(hy:y∈l)(hz:z∈l):Hg x.c y.c z.c∈NB l :=
 Zo.2 ⟨x,hx,Zo.2 ⟨y,hy,Za.2 ⟨z,hz,rfl⟩⟩⟩
theorem Qme{l:List Pt}(hl:∀p∈l,Sc p.c):∀p∈NB l,Cp p:=λp hp=>by
 obtain⟨x,hx,hp⟩:=Zo.1 hp;obtain⟨y,hy,hp⟩:=Zo.1 hp;obtain⟨z,hz,rfl⟩:=Za.1 hp;exact YW (hl x hx) (hl y hy) (hl z hz)
theorem EJ{α:Type}(s:α->α->α->Bool)(c:α):∀st:List α,(Ll s c st).Sublist st
 | []=>List.Sublist.refl _
 | [_]=>List.Sublist.refl _
 |
  b::a::r=>by
  simp only[Ll]
  split
  ·exact List.Sublist.refl _
  ·exact(EJ s c (a::r)).trans (List.sublist_cons_self _ _)
theorem KN{α:Type}{s:α->α->α->Bool}:∀{l acc:List α} {x:α},x∈Pz s acc l->x∈acc\/x∈l
 | [],acc,x,h=>.inl h
 |
  c::l,acc,x,h=>by
  rcases KN (l:=l) h with h|h
  ·rcases Qm.1 h with rfl|h
   ·exact .inr (by simp)
   ·exact .inl ((EJ s c acc).subset h)
  ·exact .inr (Qg _ h)
theorem KP{α:Type}(s:α->α->α->Bool):∀(l acc:List α),(Pz s acc l).length<=acc.length+l.length
 | [],acc=>by simp[Pz]
 |
  c::l,acc=>by
  have h1:=KP s l (c::Ll s c acc);have h2:=(EJ s c acc).length_le;simp only[Pz,Q5]at h1 ⊢;omega
theorem BO{sg:Un->Int}{row:List Pt}{x:Pt}(h:x∈Ph sg row):x∈row:=by
 unfold Ph at h;rcases KN (Jl.1 h)with h|h
 ·cases h
 ·exact h
theorem QV(sg:Un->Int)(row:List Pt):(Ph sg row).length<=row.length:=by
 have:=KP (FK sg) row [];unfold Ph;rw[List.length_reverse];simpa using this
theorem cS{sg:Un->Int}{row:List Pt}{x:Pt}(h:x∈L6 sg row):x∈row:=by
 unfold L6 at h
 split at h
 ·exact h
 ·rcases Qr.1 h with h|h
  ·exact BO ((List.dropLast_sublist _).subset h)
  ·exact Jl.1 (BO ((List.dropLast_sublist _).subset h))
theorem cT(sg:Un->Int)(row:List Pt):(L6 sg row).length<=2*row.length:=by
 unfold L6
 split
 ·omega
 ·have h1:=QV sg row;have h2:=QV sg row.reverse;rw[Xp]at h2;rw[Qy,List.length_dropLast,List.length_dropLast];omega
theorem I1{l:List Pt}{a:Tm}{x:Pt}(h:x∈Pe l a):x∈l:=No (Hp.1 (cS h))
theorem YK(l:List Pt)(a:Tm):(Pe l a).length<=2*l.length:=by
 have h1:=cT (Fp a) (Ty a (Tn l));rw[Nk]at h1;have:=O5 l;unfold Pe;omega
theorem SX{C:List Pt}{e:Pt×Pt}(h:e∈Rp C):e.1∈C/\e.2∈C:=by
 unfold Rp at h;have h1:=List.of_mem_zip (show(e.1,e.2)∈_ from h);refine⟨h1.1,?_⟩;rcases Qr.1 h1.2 with h|h
 ·exact Qz h
 ·exact Qn h
theorem nR{sg:Un->Int}{l C:List Pt}{x:Ct}(h:x∈Ba sg l C):∃e∈Rp C,∃c∈l,VP e c=true/\x=Lb sg e.1 e.2 c:=by
 unfold Ba at h
 split at h
 ·cases h
 ·obtain⟨e,he,h⟩:=Zo.1 h;obtain⟨c,hc,rfl⟩:=Za.1 h;obtain⟨h1,h2⟩:=Yi.1 hc;exact⟨e,he,c,h1,h2,rfl⟩
theorem xW{l:List Pt}{a:Tm}:∀x∈AU l a,x.p∈Ef l++NB l:=λx hx=>by
 rcases Qr.1 hx with hx|hx
 ·exact X7 _ (lZ x hx)
 ·obtain⟨e,he,c,hc,_,rfl⟩:=nR hx;obtain⟨h1,h2⟩:=SX he;exact Je _ (kA (I1 h1) (I1 h2) hc)
theorem PI{l:List Pt}(hl:∀p∈l,Sc p.c):∀p∈Ef l++NB l,Cp p:=λp hp=>by
 rcases Qr.1 hp with h|h
 ·exact O7 hl p h
 ·exact Qme hl p h
theorem KL{α β:Type}(f:α->List β)(n:Nat):∀(m:List α),(∀x∈m,(f x).length≤n)->(m.flatMap f).length≤m.length*n
 | [],_=>by simp
 |
  x::m,h=>by
  have:=KL f n m λy hy=>h y (Qg _ hy)
  have:=h x (by simp);rw[J3,Qy,Q5,Xa];omega
theorem nH(sg:Un->Int)(l C:List Pt):(Ba sg l C).length<=C.length*l.length:=by
 unfold Ba
 split
 ·simp
 ·refine Qa (KL _ l.length _ λe _=>?_) (Q0 _ ?_)
  ·unfold Af;rw[List.length_map];exact List.length_filter_le _ _
  ·unfold Rp;rw[List.length_zip];exact Nat.min_le_left _ _
theorem pY{l:List Pt}(hl:∀p∈l,Sc p.c)(hn:l.length≤10):BuildOk (AU l) :=
 ⟨λ_ _ x hx=>PI hl _ (xW x hx),λa _=>by
  have h1:=nH (Fp a) l (Pe l a);have h2:=YK l a;have h3:(Pe l a).length*l.length<=20*10:=Zc (by omega) hn;show(ZB l a++Ba (Fp a) l (Pe l a)).length<=1000;have h4:(ZB l a).length<=l.length:=by unfold ZB;rw[Bw,Nk];omega
  rw[Qy];omega⟩
def A9{α:Type}(l:List α):List (α×α):=l.zip (l.drop 1)
theorem jG{α:Type}{Q:α->α->Prop}:∀{l:List α},Edg Q l↔∀e∈A9 l,Q e.1 e.2
 | []=>by simp[Edg,A9]
 | [_]=>by simp[Edg,A9]
 |
  a::b::l=>by
  have ih:=jG (Q:=Q) (l:=b::l);have e:A9 (a::b::l)=(a,b)::A9 (b::l):=rfl;rw[e];constructor
  ·rintro⟨h1,h2⟩ x hx
   rcases Qm.1 hx with rfl|hx
   ·exact h1
   ·exact ih.1 h2 x hx
  ·intro h;exact⟨h (a,b) (by simp),ih.2 λx hx=>h x (Qg _ hx)⟩
theorem CY{α:Type}(f z:α)(A:List α):A9 (f::A++[z])=(f::A).zip (A++[z]):=by
 unfold A9;rw[Xb,Wi,Xx];have:f::(A++[z])=(f::A)++[z]:=rfl;rw[this];have h:A++[z]=(A++[z])++[]:=(Zv _).symm
 conv=>lhs;rw[h]
 rw[List.zip_append (by simp)];simp
theorem uE{f z:Pt}{A B:List Pt}:Rp ((f::A++[z]).dropLast++(z::B++[f]).dropLast)=A9 (f::A++[z])++A9 (z::B++[f]):=by
 rw[Vz,Vz,CY,CY,<-List.zip_append (by simp)];unfold Rp;congr 1;simp
theorem Edg.rev{α:Type}{Q:α->α->Prop}:∀{l:List α},Edg Q l->Edg (λa b=>Q b a) l.reverse:=by
 have app:∀{Q:α->α->Prop} {l:List α} {b a:α},Edg Q (l++[b])->Q b a->Edg Q (l++[b]++[a]):=by
  intro Q l
  induction l with
  |nil=>intro b a _ h;exact⟨h,trivial⟩
  |
   cons x l ih =>
   intro b a h h2;cases l with
   |nil=>exact⟨h.1,ih h.2 h2⟩
   |cons y l=>exact⟨h.1,ih h.2 h2⟩
 intro l
 induction l with
 |nil=>intro _;trivial
 |
  cons a l ih =>
  intro h;cases l with
  |nil=>trivial
  |
   cons b l =>
   have:=ih h.2;rw[Yo]at this ⊢;rw[Yo];exact app this h.1
theorem Cnv.rev{α:Type}{R:α->α->α->Prop}:∀{l:List α},Cnv R l->Cnv (λa b c=>R c b a) l.reverse:=by
 have app:∀{R:α->α->α->Prop} {l:List α} {c b a:α},Cnv R (l++[c,b])->R c b a->Cnv R (l++[c,b,a]):=by
  intro R l
  induction l with
  |nil=>intro c b a _ h;exact⟨h,trivial⟩
  |
   cons x l ih =>
   intro c b a h h2;cases l with
   |nil=>exact⟨h.1,ih h.2 h2⟩
   |
    cons y l =>
    cases l with
    |nil=>exact⟨h.1,ih h.2 h2⟩
    |cons w l=>exact⟨h.1,ih h.2 h2⟩
 intro l
 induction l with
 |nil=>intro _;trivial
 |
  cons a l ih =>
  intro h
  match l,h with
  | [],_=>trivial
  | [_],_=>trivial
  |
   b::c::l,h =>
   have:=ih h.2;rw[Yo,Yo,Zd]at this;rw[Yo,Yo,Yo,Zd,Zd];exact app this h.1
section
variable{α:Type}{lt lt':α->α->Bool}
theorem EY{out:List α}{x:α}(h:∀y∈out,lt x y=lt' x y):∀k,Lx lt out x k=Lx lt' out x k
 | 0=>rfl
 |
  k+1=>by
  simp only[Lx];cases hy:out[k]? with
  |none=>rfl
  |some y=>simp only[h y (Qc hy),EY h k]
theorem SY{l:List α}(h:∀u∈l,∀v∈l,lt u v=lt' u v):∀(m out:List α),(∀x∈m,x∈l)->(∀x∈out,x∈l)->m.foldl (Lr lt) out=m.foldl (Lr lt') out
 | [],_,_,_=>rfl
 |
  x::m,out,h1,h2=>by
  have e:Lr lt out x=Lr lt' out x:=by
   unfold Lr;rw[EY λy hy=>h x (h1 x (by simp)) y (h2 y hy)]
  simp only[Z9];rw[e];exact SY h m _ (λy hy=>h1 y (Qg _ hy)) λy hy=>by
   rcases FV.1 hy with rfl|hy
   ·exact h1 _ (by simp)
   ·exact h2 y hy
end
theorem cP{a:Tm}{l:List Pt}{q:Rat}(hb:∀u∈l,∀v∈l,(Ts (Fp a) u v=true↔C5 q u v))(hd:l.Pairwise λx y=>x.id≠y.id):(Ty a l).Pairwise (C5 q) :=
 DF (S:=λx=>x∈l) (D:=λx y=>x.id≠y.id) (YN q) (λu v hu hv h=>(hb u hu v hv).1 h) (λu v hu hv hne h=>fE (λe=>hne e.symm) λh'=>by
  rw[(hb u hu v hv).2 h']at h;cases h) l [] .nil (λx hx=>by cases hx) (λx hx=>hx) hd (λx hx=>by cases hx)
theorem Qu6{a:Tm}(ha:Va a){u v:Pt}(hu:Sc u.c)(hv:Sc v.c){q:Rat}(h1:Hi (Fp a) (Gl u.c v.c)=Fe (U7 (Gl u.c v.c) q))(h2:Hi (Fp a) (Gk u.c v.c)=Fe (U7 (Gk u.c v.c) q))(hne:u.c≠v.c)(h:C5 q u v):lx (px · q) (py · q) u v:=by
 rcases h with h|⟨h,h3⟩
 ·exact .inl h
 rcases h3 with h3|⟨h3,_⟩
 ·exact .inr ⟨h,h3⟩
 ·exfalso;rw[TG hu hv]at h1;rw[TF hu hv]at h2;have z1:Fe (px v q-px u q)=0:=Gp.2 (by grind);have z2:Fe (py v q-py u q)=0:=Gp.2 (by grind);rw[z1]at h1;rw[z2]at h2;have e1:(Gl u.c v.c).length=0:=Decidable.byContradiction λe=>(Ej ha (M7 hu hv).dp e).2 h1
  have e2:(Gk u.c v.c).length=0:=Decidable.byContradiction λe=>(Ej ha (M6 hu hv).dp e).2 h2
  exact hne (Qph hu.n hv.n (Qj e1) (Qj e2))
structure LowC(X Y:Pt->Rat)(R L:List Pt):Prop where
 hd:L.head? = R.head?
 la:L.getLast? = R.getLast?
 srt:L.Pairwise (lx X Y)
 mem:∀p∈L,p∈R
 edg:Edg (λa b=>∀p∈R,0≤Bf X Y a b p) L
 cnv:Cnv (λa b c=>0<Bf X Y a b c) L
theorem IN{X Y:Pt->Rat}{sg:Un->Int}{R:List Pt}(hs:∀a∈R,∀b∈R,∀c∈R,(FK sg a b c=true↔0<Bf X Y a b c))(hR:R.Pairwise (lx X Y))(h0:R≠[]):LowC X Y R (Ph sg R):=by
 cases R with
 |nil=>exact absurd rfl h0
 |
  cons f R =>
  obtain⟨t,st,g1,g2,g3,g4⟩:=IB hs hR R [f] f [] rfl ⟨Kl _ _,λp hp=>by rw[Qk.1 hp];simp,trivial,trivial⟩ rfl rfl;have e:Ph sg (f::R)=(t::st).reverse:=by
   unfold Ph;rw[<-g1];rfl
  rw[e];exact⟨by rw[List.head?_reverse,g4],by rw[List.getLast?_reverse];exact g3.symm,Ky.2 g2.srt,λp hp=>g2.mem p (Jl.1 hp),g2.edg.rev,g2.cnv.rev⟩
theorem Qvw{X Y:Pt->Rat}{R:List Pt}(hR:R.Pairwise (lx X Y)):∀p∈R,∀q∈R,p=q\/lx X Y p q\/lx X Y q p:=λp hp q hq=>by
 by_cases e:p=q
 ·exact .inl e
 ·exact .inr (zX hR hp hq e)
theorem Qim{X Y:Pt->Rat}{R L L':List Pt}(hR:R.Pairwise (lx X Y))(h:LowC X Y R L)(h':LowC X Y R L'):L=L':=by
 have hh:=h.hd.trans h'.hd.symm;have hl:=h.la.trans h'.la.symm;cases L with
 |
  nil=>cases L' with
  |nil=>rfl
  |cons _ _=>simp at hh
 |
  cons f M=>cases L' with
  |nil=>simp at hh
  |
   cons f' M' =>
   simp at hh;subst hh;obtain⟨z,hz⟩:∃z,(f::M).getLast? = some z:=⟨_,Yq (by simp)⟩;rw[Qgl (Qvw hR) M M' f h.srt h'.srt h.mem h'.mem h.edg h'.edg h.cnv h'.cnv hz (hl ▸ hz)]
theorem tM{x y:Rat}(h:Fe x=Fe y):(0<=x->0<=y)/\(0<x->0<y):=by
 have h1:=Fy x;have h2:=Fy y;grind
theorem uZ{X Y X' Y':Pt->Rat}{R:List Pt}:∀{L:List Pt},(∀p∈L,p∈R)->(∀e∈A9 L,∀p∈R,Fe (Bf X Y e.1 e.2 p)=Fe (Bf X' Y' e.1 e.2 p))->Cnv (λa b c=>0<Bf X Y a b c) L->Cnv (λa b c=>0<Bf X' Y' a b c) L
 | [],_,_,_=>trivial
 | [_],_,_,_=>trivial
 | [_,_],_,_,_=>trivial
 |a::b::c::l,hm,he,h=>⟨(tM (he (a,b) (by simp[A9]) c (hm c (by simp)))).2 h.1,uZ (λp hp=>hm p (Qg _ hp)) (λe hx=>he e (Qg _ hx)) h.2⟩
theorem fO{X Y X' Y':Pt->Rat}{R L:List Pt}(h:LowC X Y R L)(hl:∀u∈R,∀v∈R,lx X Y u v->lx X' Y' u v)(he:∀e∈A9 L,∀p∈R,Fe (Bf X Y e.1 e.2 p)=Fe (Bf X' Y' e.1 e.2 p)):LowC X' Y' R L :=
 ⟨h.hd,h.la,h.srt.imp_of_mem λhu hv h'=>hl _ (h.mem _ hu) _ (h.mem _ hv) h',h.mem,jG.2 λe hx p hp=>(tM (he e hx p hp)).1 (jG.1 h.edg e hx p hp),uZ h.mem he h.cnv⟩
theorem yM(X Y:Pt->Rat)(a b c:Pt):Bf (λp=>-X p) (λp=>-Y p) a b c=Bf X Y a b c:=by unfold Bf;grind
theorem yV{X Y:Pt->Rat}{a b:Pt}:lx (λp=>-X p) (λp=>-Y p) a b↔lx X Y b a:=by unfold lx;grind
theorem Qsq{L:List Pt}{f z:Pt}(h1:L.head? = some f)(h2:L.getLast? = some z)(hne:f≠z):∃A,L=f::A++[z]:=by
 cases L with
 |nil=>cases h1
 |
  cons g M =>
  simp at h1;subst h1;cases M with
  |nil=>simp at h2;exact absurd h2 hne
  |
   cons x M =>
   rw[J1]at h2;obtain⟨A,hA⟩:=Y8.1 h2;exact⟨A,by rw[hA];rfl⟩
theorem DW{α β:Type}{f g:α->List β}:∀{m:List α},(∀x∈m,f x=g x)->m.flatMap f=m.flatMap g
 | [],_=>rfl
 |x::m,h=>by rw[J3,J3,h x (by simp),DW λy hy=>h y (Qg _ hy)]
theorem fR{sa sb:Un->Int}{l C:List Pt}(h:∀x∈Ba sa l C,Hi sb x.p=Hi sa x.p):Ba sb l C=Ba sa l C:=by
 by_cases h2:C.length<2
 ·unfold Ba;rw[if_pos h2,if_pos h2]
 ·have e:∀s,Ba s l C=(Rp C).flatMap (Af s l):=λs=>if_neg h2
  rw[e]at h ⊢;rw[e];refine DW λx hx=>Xq λc hc=>?_
  have:=h (Lb sa x.1 x.2 c) (Zo.2 ⟨x,hx,Wj hc⟩);show(⟨3,x.1.id,x.2.id,c.id,0,Hg x.1.c x.2.c c.c,Hi sb (Hg x.1.c x.2.c c.c)⟩:Ct)=⟨3,x.1.id,x.2.id,c.id,0,Hg x.1.c x.2.c c.c,Hi sa (Hg x.1.c x.2.c c.c)⟩;have this:Hi sb (Hg x.1.c x.2.c c.c)=Hi sa (Hg x.1.c x.2.c c.c):=this;rw[this]
theorem Qab{l:List Pt}(hd:l.Pairwise λx y=>x.id≠y.id){u v:Pt}(hu:u∈l)(hv:v∈l)(h:u.id=v.id):u=v:=by
 refine Classical.byContradiction λe=>?_
 rcases zX hd hu hv e with h'|h'
 ·exact h' h
 ·exact h' h.symm
structure Soon(l:List Pt)(a:Tm)(q:Rat):Prop where
 g:∀p∈Ef l++NB l,Hi (Fp a) p=Fe (U7 p q)
 b:∀u∈l,∀v∈l,(Ts (Fp a) u v=true↔C5 q u v)
 o:∀u∈l,∀v∈l,∀w∈l,Hi (Fp a) (Hg u.c v.c w.c)=Fe (Bf (px · q) (py · q) u v w)
 t:∀u∈l,∀v∈l,∀w∈l,(FK (Fp a) u v w=true↔0<Bf (px · q) (py · q) u v w)
 r:(Ty a (Tn l)).Pairwise (lx (px · q) (py · q))
theorem Qky{l:List Pt}(hl:∀p∈l,Sc p.c)(hd:l.Pairwise λx y=>x.id≠y.id){a:Tm}(ha:Va a):∃y,Fl a y=-1/\∀q,Fl a q=-1->q≤y->Soon l a q:=by
 obtain⟨y,y1,y2⟩:=XF ha (Ef l++NB l) λp hp=>(PI hl p hp).dp
 refine⟨y,y1,λq q1 q2=>?_⟩;have g:=y2 q q1 q2;have gP:=λp hp=>g p (X7 _ hp)
 have b:∀u∈l,∀v∈l,(Ts (Fp a) u v=true↔C5 q u v):=λu hu v hv=>BZ ha (hl u hu) (hl v hv) (gP _ (Sj hu hv).1) (gP _ (Sj hu hv).2)
 have o:∀u∈l,∀v∈l,∀w∈l,Hi (Fp a) (Hg u.c v.c w.c)=Fe (Bf (px · q) (py · q) u v w):=λu hu v hv w hw=>by
  rw[g _ (Je _ (kA hu hv hw)),cE (hl u hu) (hl v hv) (hl w hw)]
 refine⟨g,b,o,λu hu v hv w hw=>?_,?_⟩
 ·unfold FK;rw[o u hu v hv w hw,decide_eq_true_eq];have:=Fy (Bf (px · q) (py · q) u v w);grind
 ·have hw:∀u∈Tn l,u∈l:=λu hu=>No hu
  have h1:=cP (a:=a) (l:=Tn l) (q:=q) (λu hu v hv=>b u (hw u hu) v (hw v hv)) (List.Pairwise.sublist (Qlh l) hd);have h2:(Ty a (Tn l)).Pairwise λx y=>x.c≠y.c:=(List.Perm.pairwise_iff (λ{x y} h e=>h e.symm) (dX (lt:=Ts (Fp a)) (Tn l))).2 (Qq2 l)
  refine(h1.and h2).imp_of_mem λ{u v} hu hv h=>?_
  have hu:=hw u (Hp.1 hu);have hv:=hw v (Hp.1 hv);exact Qu6 ha (hl u hu) (hl v hv) (gP _ (Sj hu hv).1) (gP _ (Sj hu hv).2) h.2 h.1
theorem Qad{l:List Pt}(hl:∀p∈l,Sc p.c)(hd:l.Pairwise λx y=>x.id≠y.id){a:Tm}(ha:Va a):∃q,Soon l a q :=
 let⟨y,h1,h2⟩:=Qky hl hd ha
 ⟨y,h2 y h1 Qp⟩
theorem CV{l:List Pt}{a:Tm}{q:Rat}(S:Soon l a q)(h3:3<=(Ty a (Tn l)).length):∃f z A B,Ph (Fp a) (Ty a (Tn l))=f::A++[z]/\Ph (Fp a) (Ty a (Tn l)).reverse=z::B++[f]/\LowC (px · q) (py · q) (Ty a (Tn l)) (f::A++[z])/\LowC (λp=>-px p q) (λp=>-py p q) (Ty a (Tn l)).reverse (z::B++[f])/\Rp (Pe l a)=A9 (f::A++[z])++A9 (z::B++[f])/\2<=(Pe l a).length:=by
 obtain⟨R,hR⟩:=nmE (Ty a (Tn l));have hm:∀x∈R,x∈l:=λx hx=>by rw[hR]at hx;exact No (Hp.1 hx)
 have r:=S.r;rw[<-hR]at r h3 ⊢;have h0:R≠[]:=λe=>by rw[e]at h3;simp at h3
 have c1:=IN (sg:=Fp a) (λu hu v hv w hw=>S.t u (hm u hu) v (hm v hv) w (hm w hw)) r h0;have r2:R.reverse.Pairwise (lx (λp=>-px p q) (λp=>-py p q)):=Ky.2 (r.imp λh=>yV.2 h);have c2:=IN (sg:=Fp a) (R:=R.reverse) (X:=λp=>-px p q) (Y:=λp=>-py p q) (λu hu v hv w hw=>by
  rw[yM (px · q) (py · q)];exact S.t u (hm u (Jl.1 hu)) v (hm v (Jl.1 hv)) w (hm w (Jl.1 hw))) r2 (by simpa using h0)
 obtain⟨f,hf⟩:∃f,R.head? = some f:=by cases R with
  |nil=>exact absurd rfl h0
  |cons f _=>exact⟨f,rfl⟩
 obtain⟨z,hz⟩:∃z,R.getLast? = some z:=⟨_,Yq h0⟩;have hne:f≠z:=λe=>by
  subst e;cases R with
  |nil=>exact absurd rfl h0
  |
   cons g M =>
   simp at hf;subst hf;cases M with
   |nil=>simp at h3
   |
    cons x M =>
    rw[J1]at hz;exact Ls _ ((Zg.1 r).1 g (V1 hz))
 obtain⟨A,hA⟩:=Qsq (c1.hd.trans hf) (c1.la.trans hz) hne;obtain⟨B,hB⟩:=Qsq (c2.hd.trans (by rw[List.head?_reverse];exact hz)) (c2.la.trans (by rw[List.getLast?_reverse];exact hf)) (Ne.symm hne);have hc:Pe l a=(f::A++[z]).dropLast++(z::B++[f]).dropLast:=by
  unfold Pe L6;rw[<-hR,if_neg (by omega),hA,hB]
 rw[hA]at c1;rw[hB]at c2;refine⟨f,z,A,B,hA,hB,c1,c2,by rw[hc];exact uE,?_⟩;rw[hc,Vz,Vz];simp;omega
theorem Qch{l:List Pt}(hl:∀p∈l,Sc p.c)(hd:l.Pairwise λx y=>x.id≠y.id){a b:Tm}(ha:Va a)(hb:Va b)(h:∀x∈AU l a,Hi (Fp b) x.p=Hi (Fp a) x.p):Pe l b=Pe l a/\AU l b=AU l a:=by
 obtain⟨q,Sa⟩:=Qad hl hd ha;obtain⟨r,Sb⟩:=Qad hl hd hb;obtain⟨k1,k2⟩:=tU hl hd ha hb λx hx=>h x (X7 _ hx)
 have pa:=cP Sa.b hd;have pb:=cP Sb.b hd;rw[k1]at pb;have pab:=pa.and pb;have lexs:∀u∈l,∀v∈l,(C5 q u v↔C5 r u v):=λu hu v hv=>by
  by_cases e:u=v
  ·subst e;exact⟨λh=>absurd h (XD _ _),λh=>absurd h (XD _ _)⟩
  ·rcases zX pab (Hp.2 hu) (Hp.2 hv) e with h'|h'
   ·exact⟨λ_=>h'.2,λ_=>h'.1⟩
   ·exact⟨λh=>absurd (YN _ _ _ _ h h'.1) (XD _ _),λh=>absurd (YN _ _ _ _ h h'.2) (XD _ _)⟩
 have bef:∀u∈l,∀v∈l,Ts (Fp b) u v=Ts (Fp a) u v:=λu hu v hv=>by
  have h1:=Sa.b u hu v hv;have h2:=Sb.b u hu v hv;have h3:=lexs u hu v hv;cases e1:Ts (Fp a) u v <;> cases e2:Ts (Fp b) u v <;> rw[e1]at h1 <;> rw[e2]at h2 <;> simp_all
 have eR:Ty b (Tn l)=Ty a (Tn l):=SY (l:=Tn l) (λu hu v hv=>bef u (No hu) v (No hv)) (Tn l) [] (λx hx=>hx) λx hx=>by cases hx
 have hm:∀x∈Ty a (Tn l),x∈l:=λx hx=>No (Hp.1 hx)
 have rb:=Sb.r;rw[eR]at rb;have hc:Pe l b=Pe l a:=by
  by_cases h3:(Ty a (Tn l)).length<3
  ·unfold Pe L6;rw[eR,if_pos h3,if_pos h3]
  ·obtain⟨f,z,A,B,hA,hB,c1,c2,hE,hC2⟩:=CV Sa (by omega);obtain⟨f',z',A',B',hA',hB',c1',c2',hE',_⟩:=CV Sb (by rw[eR];omega);rw[eR]at hA' hB' c1' c2';have sgs:∀e∈Rp (Pe l a),∀p∈Ty a (Tn l),Fe (Bf (px · q) (py · q) e.1 e.2 p)=Fe (Bf (px · r) (py · r) e.1 e.2 p):=λe he p hp=>by
    obtain⟨m1,m2⟩:=SX he;have m1:=I1 m1;have m2:=I1 m2;have m3:=hm p hp;by_cases ho:VP e p=true
    ·have hx:Lb (Fp a) e.1 e.2 p∈AU l a:=by
      refine Je _ ?_;unfold Ba;rw[if_neg (by omega)];exact Zo.2 ⟨e,he,Wj (Yi.2 ⟨m3,ho⟩)⟩
     have hg:Hi (Fp b) (Hg e.1.c e.2.c p.c)=Hi (Fp a) (Hg e.1.c e.2.c p.c):=h _ hx;rw[<-Sa.o _ m1 _ m2 _ m3,<-Sb.o _ m1 _ m2 _ m3,hg]
    ·have hz:∀X Y:Pt->Rat,Bf X Y e.1 e.2 p=0:=λX Y=>by
      by_cases e1:p.id=e.1.id
      ·rw[Qab hd m3 m1 e1];exact(FB _ _).1
      ·by_cases e2:p.id=e.2.id
       ·rw[Qab hd m3 m2 e2];exact(FB _ _).2
       ·exact absurd (by simp[VP,e1,e2]) ho
     rw[hz,hz]
   have hlx:∀u∈Ty a (Tn l),∀v∈Ty a (Tn l),lx (px · q) (py · q) u v->lx (px · r) (py · r) u v:=λu hu v hv huv=>by
    have ra:=Sa.r;by_cases e:u=v
    ·subst e;exact absurd huv (Ls _)
    ·rcases zX (ra.and rb) hu hv e with h'|h'
     ·exact h'.2
     ·exact absurd (gX huv h'.1) (Ls _)
   have e1:=Qim rb (fO c1 hlx λe he=>sgs e (by rw[hE];exact X7 _ he)) c1';have rb2:(Ty a (Tn l)).reverse.Pairwise (lx (λp=>-px p r) (λp=>-py p r)):=Ky.2 (rb.imp λh=>yV.2 h);have e2:=Qim rb2 (fO c2 (λu hu v hv huv=>yV.2 (hlx v (Jl.1 hv) u (Jl.1 hu) (yV.1 huv))) λe he p hp=>by
    rw[yM (px · q) (py · q),yM (px · r) (py · r)];exact sgs e (by rw[hE];exact Je _ he) p (Jl.1 hp)) c2'
   unfold Pe L6;rw[eR,if_neg h3,if_neg h3,hA,hB,hA',hB',e1,e2]
 refine⟨hc,?_⟩;unfold AU;rw[hc,k2,fR λx hx=>h x (Je _ hx)]
theorem Qy3{l:List Pt}(hl:∀p∈l,Sc p.c)(hn:l.length≤10)(hd:l.Pairwise λx y=>x.id≠y.id):Stab (AU l) (brH l):=by
 refine⟨pY hl hn,⟨Ef l++NB l,PI hl,λa _ x hx=>xW x hx⟩,λa b ha hb h=>?_⟩;obtain⟨e1,e2⟩:=Qch hl hd ha hb h;exact⟨e2,by show Uz _=Uz _;rw[e1]⟩
end Orq
namespace Orq
open Orr Go
theorem KC{a b c d:Crv}(ha:Sc a)(hb:Sc b)(hc:Sc c)(hd:Sc d):Cp (Ho a b c d):=by
 have lr:∀{a b:Crv},Sc a->Sc b->(Gl a b).length<=3/\(Gk a b).length<=3:=λ{a b} ha hb=>by
  have:=Nb (Ft b.x a.d) (Ft a.x b.d);have:=Fw b.x a.d;have:=Fw a.x b.d;have:=Nb (Ft b.y a.d) (Ft a.y b.d);have:=Fw b.y a.d;have:=Fw a.y b.d;have:=ha.c.lx;have:=hb.c.lx;have:=ha.c.ly;have:=hb.c.ly;unfold Gl Gk;omega
 have ap:∀{a b:Crv},Sc a->Sc b->(S0 a b).length<=5/\Bd 517 (S0 a b):=λ{a b} ha hb=>by
  obtain⟨l1,l2⟩:=lr ha hb;have b1:Bd 257 (Gl a b):=Do (Ge hb.c.x ha.c.d) (Ge ha.c.x hb.c.d);have b2:Bd 257 (Gk a b):=Do (Ge hb.c.y ha.c.d) (Ge ha.c.y hb.c.d);have q1:=Pg (u:=2) b1 b1 (by omega);have q2:=Pg (u:=2) b2 b2 (by omega);refine⟨?_,U4 (YQ q1 q2) (by omega)⟩;have:=Oa (Gj (Gl a b) (Gl a b)) (Gj (Gk a b) (Gk a b));have:=Tv (Gl a b) (Gl a b);have:=Tv (Gk a b) (Gk a b);unfold S0;omega
 have dd:∀{a b:Crv},Sc a->Sc b->Fb ((a.d*b.d)*(a.d*b.d))<=512:=λ{a b} ha hb=>by
  have:=Fz a.d b.d;have:=Fz (a.d*b.d) (a.d*b.d);have:=ha.c.d;have:=hb.c.d;omega
 obtain⟨l1,b1⟩:=ap hc hd;obtain⟨l2,b2⟩:=ap ha hb;refine⟨Fx _ _,?_,U4 (Do (Ge b1 (dd ha hb)) (Ge b2 (dd hc hd))) (by omega)⟩;have:=Nb (Ft (S0 c d) ((a.d*b.d)*(a.d*b.d))) (Ft (S0 a b) ((c.d*d.d)*(c.d*d.d)));have:=Fw (S0 c d) ((a.d*b.d)*(a.d*b.d));have:=Fw (S0 a b) ((c.d*d.d)*(c.d*d.d));unfold Ho;omega
def sD(m:Pt×Pt)(q:Rat):Rat:=(px m.2 q-px m.1 q)*(px m.2 q-px m.1 q)+(py m.2 q-py m.1 q)*(py m.2 q-py m.1 q)
theorem Qop{a b c d:Pt}(ha:Sc a.c)(hb:Sc b.c)(hc:Sc c.c)(hd:Sc d.c)(q:Rat):Fe (U7 (Ho a.c b.c c.c d.c) q)=Fe (sD (c,d) q-sD (a,b) q):=by
 have Rt:∀{z:Int},0<z->(0:Rat)<(z:Rat):=λ{z} h=>by exact_mod_cast h
 have pa:=Rt ha.n.2.2.1;have pb:=Rt hb.n.2.2.1;have pc:=Rt hc.n.2.2.1;have pd:=Rt hd.n.2.2.1;have xx:∀{p:Pt},0<(p.c.d:Rat)->U7 p.c.x q=px p q*(p.c.d:Rat)/\U7 p.c.y q=py p q*(p.c.d:Rat):=λ{p} h=>by
  unfold px py;exact⟨(Zj (by grind)).symm,(Zj (by grind)).symm⟩
 obtain⟨xa,ya⟩:=xx pa;obtain⟨xb,yb⟩:=xx pb;obtain⟨xc,yc⟩:=xx pc;obtain⟨xd,yd⟩:=xx pd;have e:U7 (Ho a.c b.c c.c d.c) q=(((a.c.d:Rat)*b.c.d)*((a.c.d:Rat)*b.c.d))*(((c.c.d:Rat)*d.c.d)*((c.c.d:Rat)*d.c.d))*(sD (c,d) q-sD (a,b) q):=by
  unfold Ho S0 Gl Gk sD;simp only[Ng,Rk,LI,Gi,Xz];rw[xa,xb,xc,xd,ya,yb,yc,yd];grind
 rw[e,Cw];have h1:=Xl pa pb;have h2:=Xl pc pd;exact Xl (Xl h1 h1) (Xl h2 h2)
def AP(l:List Pt):Uo:=l.flatMap λa=>l.flatMap λb=>l.flatMap λc=>l.map λd=>Ho a.c b.c c.c d.c
theorem NN{l:List Pt}{a b c d:Pt}(ha:a∈l)(hb:b∈l)(hc:c∈l)(hd:d∈l):Ho a.c b.c c.c d.c∈AP l :=
 Zo.2 ⟨a,ha,Zo.2 ⟨b,hb,Zo.2 ⟨c,hc,Za.2 ⟨d,hd,rfl⟩⟩⟩⟩
theorem UQ{l:List Pt}(hl:∀p∈l,Sc p.c):∀p∈AP l,Cp p:=λp hp=>by
 obtain⟨a,ha,hp⟩:=Zo.1 hp;obtain⟨b,hb,hp⟩:=Zo.1 hp;obtain⟨c,hc,hp⟩:=Zo.1 hp;obtain⟨d,hd,rfl⟩:=Za.1 hp;exact KC (hl a ha) (hl b hb) (hl c hc) (hl d hd)
theorem aW{l:List Pt}(hl:∀p∈l,Sc p.c){a:Tm}(ha:Va a):∃y,Fl a y=-1/\∀q,Fl a q=-1->q≤y->∀s m:Pt×Pt,s.1∈l->s.2∈l->m.1∈l->m.2∈l->Hi (Fp a) (Ho s.1.c s.2.c m.1.c m.2.c)=Fe (sD m q-sD s q):=by
 obtain⟨y,y1,y2⟩:=XF ha (AP l) λp hp=>(UQ hl p hp).dp
 refine⟨y,y1,λq q1 q2 s m h1 h2 h3 h4=>?_⟩;rw[y2 q q1 q2 _ (NN h1 h2 h3 h4),Qop (hl _ h1) (hl _ h2) (hl _ h3) (hl _ h4)]
def D3(f:Pt×Pt->Rat)(P:List (Pt×Pt))(r:Pt×Pt):Prop:=∃P1 P2,P=P1++r::P2/\(∀m∈P1,f r<f m)/\∀m∈P2,f r≤f m
theorem OT{f:Pt×Pt->Rat}:∀{P:List (Pt×Pt)} {r r':Pt×Pt},D3 f P r->D3 f P r'->r=r'
 | [],r,r',⟨P1,P2,h,_⟩,_=>by simp at h
 |
  x::P,r,r',⟨P1,P2,h,h1,h2⟩,⟨Q1,Q2,h',h1',h2'⟩=>by
  cases P1 with
  |
   nil =>
   simp at h;cases Q1 with
   |nil=>simp at h';exact h.1.symm.trans h'.1
   |
    cons y Q1 =>
    simp at h';exfalso;obtain⟨rfl,rfl⟩:=h;obtain⟨rfl,rfl⟩:=h';have a1:=h1' x (by simp);have a2:=h2 r' (by simp);grind
  |
   cons y P1 =>
   simp at h;cases Q1 with
   |
    nil =>
    simp at h';exfalso;obtain⟨rfl,rfl⟩:=h;obtain⟨rfl,rfl⟩:=h';have a1:=h1 x (by simp);have a2:=h2' r (by simp);grind
   |
    cons z Q1 =>
    simp at h h';exact OT (P:=P) ⟨P1,P2,h.2,λm hm=>h1 m (by simp[hm]),h2⟩ ⟨Q1,Q2,h'.2,λm hm=>h1' m (by simp[hm]),h2'⟩
theorem Qoq{f:Pt×Pt->Rat}{P:List (Pt×Pt)}{r m:Pt×Pt}(h:D3 f P r):D3 f (P++[m]) (if f m<f r then m else r):=by
 obtain⟨P1,P2,rfl,h1,h2⟩:=h;by_cases e:f m<f r
 ·rw[if_pos e];refine⟨P1++r::P2,[],rfl,λx hx=>?_,λx hx=>by cases hx⟩;rcases Qr.1 hx with hx|hx
  ·have:=h1 x hx;grind
  ·rcases Qm.1 hx with rfl|hx
   ·exact e
   ·have:=h2 x hx;grind
 ·rw[if_neg e];refine⟨P1,P2++[m],by simp,h1,λx hx=>?_⟩;rcases Qr.1 hx with hx|hx
  ·exact h2 x hx
  ·rw[Qk.1 hx];grind
theorem aG{f:Pt×Pt->Rat}{sg:Un->Int}{l:List Pt}(hg:∀s m:Pt×Pt,s.1∈l->s.2∈l->m.1∈l->m.2∈l->Hi sg (Ho s.1.c s.2.c m.1.c m.2.c)=Fe (f m-f s)):∀(ps P:List (Pt×Pt)) (s:Pt×Pt),s.1∈l/\s.2∈l->(∀m∈ps,m.1∈l/\m.2∈l)->D3 f P s->D3 f (P++ps) (Hm sg s ps)
 | [],P,s,_,_,h=>by rw[Zv];exact h
 |
  m::ps,P,s,hs,hp,h=>by
  rw[QD];have hm:=hp m (by simp);have e:P0 sg s m=if f m<f s then m else s:=by
   unfold P0;rw[hg s m hs.1 hs.2 hm.1 hm.2];have:=Fy (f m-f s);by_cases h:f m<f s
   ·rw[if_pos h,if_pos (by grind)]
   ·rw[if_neg h,if_neg (by grind)]
  have hn:(P0 sg s m).1∈l/\(P0 sg s m).2∈l:=by
   rcases RD sg s m with e|e <;> rw[e] <;> assumption
  have:=aG hg ps (P++[m]) (P0 sg s m) hn (λx hx=>hp x (Qg _ hx)) (by rw[e];exact Qoq h);rwa[Zd]at this
theorem bM(a b:Pt)(l:List Pt):∃P,Gq (a::b::l)=(a,b)::P:=⟨_,rfl⟩
theorem iR{f:Pt×Pt->Rat}{sg:Un->Int}{a b:Pt}{l:List Pt}(hg:∀s m:Pt×Pt,s.1∈a::b::l->s.2∈a::b::l->m.1∈a::b::l->m.2∈a::b::l->Hi sg (Ho s.1.c s.2.c m.1.c m.2.c)=Fe (f m-f s)):D3 f (Gq (a::b::l)) (Hm sg (a,b) (Gq (a::b::l))):=by
 obtain⟨P,hP⟩:=bM a b l;have hm:=Sy (a::b::l).length (a::b::l);have hm:∀m∈Gq (a::b::l),m.1∈a::b::l/\m.2∈a::b::l:=hm;rw[hP]at hm ⊢;have h:=aG hg P [(a,b)] (a,b) (hm (a,b) (by simp)) (λm h=>hm m (by simp[h])) ⟨[],[],rfl,λm h=>(by cases h),λm h=>(by cases h)⟩;rw[QD];have e:P0 sg (a,b) (a,b)=(a,b):=by rcases RD sg (a,b) (a,b)with e|e <;> exact e
 rw[e];exact h
theorem Qac{l:List Pt}(hd:l.Pairwise λx y=>x.id≠y.id){u v:Pt}(hu:u∈l)(hv:v∈l)(h:u.id=v.id):u=v:=by
 by_cases e:u=v
 ·exact e
 ·rcases zX hd hu hv e with h'|h'
  ·exact absurd h h'
  ·exact absurd h.symm h'
theorem Qc1{l:List Pt}(hl:∀p∈l,Sc p.c)(hd:l.Pairwise λx y=>x.id≠y.id){a b:Tm}(ha:Va a)(hb:Va b)(h:∀x∈Lh (Fp a) l,Hi (Fp b) x.p=Hi (Fp a) x.p):ZW (Fp b) l=ZW (Fp a) l/\Lh (Fp b) l=Lh (Fp a) l:=by
 match l,hl,hd,h with
 | [],_,_,_=>exact⟨rfl,rfl⟩
 | [x],_,_,_=>exact⟨rfl,rfl⟩
 |
  u::v::l',hl,hd,h =>
  obtain⟨y,y1,y2⟩:=aW hl ha;obtain⟨z,z1,z2⟩:=aW hl hb;have ga:=y2 y y1 Qp;have gb:=z2 z z1 Qp;have fa:=iR (f:=λm=>sD m y) ga;have fb:=iR (f:=λm=>sD m z) gb;simp only[ZW,Lh]at h ⊢;have hm:∀m∈Gq (u::v::l'),m.1∈u::v::l'/\m.2∈u::v::l':=Sy _ _;generalize u::v::l'=l at *;obtain⟨r,hr⟩:=nmE (Hm (Fp a) (u,v) (Gq l));rw[<-hr]at fa h ⊢;obtain⟨P1,P2,hP,h1,h2⟩:=fa;have hrm:r∈Gq l:=by rw[hP];simp
  have hrl:=hm r hrm;have key:∀m∈Gq l,m=r\/Hi (Fp b) (Ho r.1.c r.2.c m.1.c m.2.c)=Hi (Fp a) (Ho r.1.c r.2.c m.1.c m.2.c):=λm hmm=>by
   have hml:=hm m hmm;by_cases e:ZK r m=true
   ·right;have h0:=h (Bb (Fp a) r.1 r.2 m.1 m.2) (by unfold Mx;exact List.mem_map.2 ⟨m,List.mem_filter.2 ⟨hmm,e⟩,rfl⟩);rw[LF]at h0;exact h0
   ·left;unfold ZK at e;simp at e;have e1:=Qac hd hml.1 hrl.1 e.1;have e2:=Qac hd hml.2 hrl.2 e.2;exact Prod.ext e1 e2
  have fb':D3 (λm=>sD m z) (Gq l) r:=by
   refine⟨P1,P2,hP,λm hmm=>?_,λm hmm=>?_⟩
   ·have hmp:m∈Gq l:=by rw[hP];simp[hmm]
    have hlt:=h1 m hmm;have hml:=hm m hmp;rcases key m hmp with e|e
    ·exfalso;rw[e]at hlt;dsimp only at hlt;grind
    ·rw[ga r m hrl.1 hrl.2 hml.1 hml.2,gb r m hrl.1 hrl.2 hml.1 hml.2]at e;dsimp only at hlt ⊢;rw[Hw.2 (by grind:0<sD m y-sD r y)]at e;have:=Hw.1 e;grind
   ·have hmp:m∈Gq l:=by rw[hP];simp[hmm]
    have hlt:=h2 m hmm;have hml:=hm m hmp;rcases key m hmp with e|e
    ·rw[e];exact Qp
    ·rw[ga r m hrl.1 hrl.2 hml.1 hml.2,gb r m hrl.1 hrl.2 hml.1 hml.2]at e;dsimp only at hlt ⊢;have t1:=Fy (sD m y-sD r y);have t2:=Fy (sD m z-sD r z);grind
  have er:=OT fb fb';rw[er];refine⟨rfl,?_⟩;unfold Mx;refine Xq λm hmm=>?_
  have hmp:=(Yi.1 hmm).1;rcases key m hmp with e|e
  ·exfalso;have:=(Yi.1 hmm).2;rw[e]at this;unfold ZK at this;simp at this
  ·unfold Bb;rw[e]
theorem Qy4{l:List Pt}(hl:∀p∈l,Sc p.c)(hn:l.length≤10)(hd:l.Pairwise λx y=>x.id≠y.id):Stab (λa=>Lh (Fp a) l) (λa=>Uz (ZW (Fp a) l)):=by
 have hcp:∀a,∀x∈Lh (Fp a) l,x.p∈AP l:=λa x hx=>by
  match l,hx with
  |
   u::v::l',hx =>
   simp only[Lh]at hx;obtain⟨h3,h4⟩:=Ld (Fp a) (l:=u::v::l') (Gq (u::v::l')) (u,v) ⟨by simp,by simp⟩ (Sy _ _);obtain⟨m,hm,rfl⟩:=IA hx;obtain⟨h1,h2⟩:=Sy _ _ m hm;rw[LF];exact NN h3 h4 h1 h2
 refine⟨⟨λa _ x hx=>UQ hl _ (hcp a x hx),λa _=>?_⟩,⟨AP l,UQ hl,λa _=>hcp a⟩,λa b ha hb h=>?_⟩
 ·have:=qD (Fp a) l;have:l.length*l.length<=10*10:=Zc hn hn;show(Lh (Fp a) l).length<=1000;omega
 ·obtain⟨h1,h2⟩:=Qc1 hl hd ha hb h;exact⟨h2,by show Uz _=Uz _;rw[h1]⟩
end Orq
namespace Orr
open Go Go.Proofs Tryz Orq
set_option maxRecDepth 10000
def JQ:Nat->Us->Us
 |_,[]=>[]
 | 0,x::l=>FT x::l
 |k+1,x::l=>x::JQ k l
theorem qP:∀(k:Nat) (l:Us),(JQ k l).length=l.length
 |_,[]=>by cases ‹Nat› <;> rfl
 | 0,x::l=>rfl
 |k+1,x::l=>by simp only[JQ,Q5,qP k l]
theorem qS:∀(k:Nat) (l:Us) {j:Nat} {y:LV},(JQ k l)[j]? = some y->∃x,l[j]? = some x/\(y=x\/y=FT x)
 | 0,[],_,_,h=>by simp[JQ]at h
 |_+1,[],_,_,h=>by simp[JQ]at h
 | 0,x::l,0,y,h=>by simp[JQ]at h;exact⟨x,rfl,.inr h.symm⟩
 | 0,x::l,j+1,y,h=>by simp[JQ]at h;exact⟨y,by simpa using h,.inl rfl⟩
 |k+1,x::l,0,y,h=>by simp[JQ]at h;exact⟨x,rfl,.inl h.symm⟩
 |
  k+1,x::l,j+1,y,h=>by
  simp only[JQ,Jj]at h;obtain⟨z,h1,h2⟩:=qS k l h;exact⟨z,by simpa using h1,h2⟩
theorem nlc{P:Program}[Mo P]{n:Nat}{Q:Exit->Sg->Uu->Prop}{L:Sg}{B B':Uu}(i d:Nat){T:TypeId}{xs:Us}{it:List It}(hs:Ri it=true)(hb:A1 B i=some (.blk T xs))(hB:Au B i (.blk T (JQ d xs))=some B')(k:AK P n Q it L B'):AK P n Q it L B:=by
 obtain⟨rfl,hl⟩:=Nv hB;have hbi:B[i]? = some (.blk T xs):=S6 ▸ hb;refine AK.sub (λF E M a w h=>⟨E,M,?_,h.size,h.defers,h.slots⟩) hs k;rw[WX,JJ hbi];refine h.hs.re (λj=>?_) (λj=>?_) (λj=>?_) λj hj=>?_
 ·by_cases e:j=i
  ·subst e;rw[Fi];obtain⟨g,c,m,h1,cs,h2,h3⟩:=h.blk hb;refine⟨g,c,m,h1,cs,h2,F2.of (by rw[qP];exact h3.len) λk v x hv hx=>?_⟩;obtain⟨y,hy,hyx⟩:=qS _ _ hx;rcases hyx with rfl|rfl
   ·exact h3.get' hv hy
   ·exact iP (h3.get' hv hy)
  ·rw[Gf _ _ e];exact h.hs.blk j
 ·by_cases e:j=i
  ·subst e;rw[Fi,Rx hbi];rfl
  ·rw[Gf _ _ e]
 ·by_cases e:j=i
  ·subst e;rw[Fi,Rx hbi];rfl
  ·rw[Gf _ _ e]
 ·by_cases e:j=i
  ·subst e;rw[Rx hbi]at hj;cases hj
  ·rw[Gf _ _ e];exact hj
theorem UC{l m:Ut}(h:l=m):TV.one (LV.row l)=.one (.row m):=h ▸ rfl
theorem wN{a b:Crv}(ha:ZM a)(hb:ZM b)(ca:Cb a)(cb:Cb b):Uk 244 [.agg (cl a),.agg (cl b)] [pr (S0 a b)]:=by
 obtain⟨p1,l1,b1⟩:=rW ca cb;obtain⟨p2,l2,b2⟩:=rV ca cb;have m1:=Tv (Gl a b) (Gl a b);have m2:=Tv (Gk a b) (Gk a b);have q1:=Pg (u:=5) b1 b1 (by omega);have q2:=Pg (u:=5) b2 b2 (by omega);exact Uh func244 rfl [.k (UV ha hb ca cb),.k (UJ ha hb ca cb),.k (KG p1.t p1.t (by omega) (by omega) b1 b1 (by omega)),.k (KG p2.t p2.t (by omega) (by omega) b2 b2 (by omega)),.k (BF (by omega) (by omega) (U4 q1 (by omega)) (U4 q2 (by omega)))] rfl
theorem Qba{a b c d:Crv}(ha:ZM a)(hb:ZM b)(hc:ZM c)(hd:ZM d)(ca:Cb a)(cb:Cb b)(cc:Cb c)(cd:Cb d):Uk 176 [.agg (cl a),.agg (cl b),.agg (cl c),.agg (cl d)] [pr (Ho a b c d)]:=by
 have na:=Dt ha (ca.mono (by omega) (by omega));have nb:=Dt hb (cb.mono (by omega) (by omega));have nc:=Dt hc (cc.mono (by omega) (by omega));have nd:=Dt hd (cd.mono (by omega) (by omega));have s1:=nP ca cb;have s2:=nP cc cd;have s3:=aN ca cb;have s4:=aN cc cd;have da:=ca.d;have db:=cb.d;have dc:=cc.d;have dd:=cd.d;obtain⟨t1,l1,b1⟩:=rK cc cd;obtain⟨t2,l2,b2⟩:=rK ca cb;have k1:=Fw (S0 c d) ((a.d*b.d)*(a.d*b.d));have k2:=Fw (S0 a b) ((c.d*d.d)*(c.d*d.d));have w1:=Px (U3 a.d) (U3 b.d) (by omega) (by omega);have w2:=Px (U3 c.d) (U3 d.d) (by omega) (by omega);have w3:=Px (U3 (a.d*b.d)) (U3 (a.d*b.d)) (by omega) (by omega);have w4:=Px (U3 (c.d*d.d)) (U3 (c.d*d.d)) (by omega) (by omega);have p1:=Pn (p:=S0 c d) (c:=(a.d*b.d)*(a.d*b.d)) (by omega) (U4 b1 (by omega)) (by omega);have p2:=Pn (p:=S0 a b) (c:=(c.d*d.d)*(c.d*d.d)) (by omega) (U4 b2 (by omega)) (by omega);have p3:=HG (p:=Ft (S0 c d) ((a.d*b.d)*(a.d*b.d))) (q:=Ft (S0 a b) ((c.d*d.d)*(c.d*d.d))) (by omega) (by omega) (U4 (Ge b1 s3) (by omega)) (U4 (Ge b2 s4) (by omega));exact Uh func176 rfl [.k na,.k nb,.k w1,.k nc,.k nd,.k w2,.k (wN hc hd cc cd),.k w3,.k p1,.k (wN ha hb ca cb),.k w4,.k p2,.k p3] rfl
theorem BV{a b c d:Pt}(ha:Sc a.c)(hb:Sc b.c)(hc:Sc c.c)(hd:Sc d.c):Uk 176 [.agg (cl a.c),.agg (cl b.c),.agg (cl c.c),.agg (cl d.c)] [pr (Ho a.c b.c c.c d.c)]:=Qba ha.n hb.n hc.n hd.n ha.cb hb.cb hc.cb hd.cb
set_option maxHeartbeats 1000000 in
theorem Qm0{a b c d:Pt}{t:Tm}(ha:Sc a.c)(hb:Sc b.c)(hc:Sc c.c)(hd:Sc d.c)(ht:Va t):Uk 255 [.oi 5,.agg (ta t),.one (.row [Fa a,Fa b,Fa c,Fa d])] [.agg (Lu (Bb (Fp t) a b c d)),.oi 0]:=by
 have hp:=(KC ha hb hc hd).dp;have e:Lu (Bb (Fp t) a b c d)=[.int .i64 5,.int .i64 a.id,.int .i64 b.id,.int .i64 c.id,.int .i64 d.id,pl (Ho a.c b.c c.c d.c),.int .i64 (Hi (Fp t) (Ho a.c b.c c.c d.c))]:=by rw[Bb]
 rw[e];have cg:=SQ hp ht;have cf:=BV ha hb hc hd;generalize Ho a.c b.c c.c d.c=F at *;refine Fu func255 rfl ?_;refine Ue [.k Qbs,.f rfl] rfl ?_;refine Uj (S:=Nat) 3 (λL1 i=>(22,.v (.oi i))::L1) (λi=>[.blk 105 (ta t),.blk 99 zCt,.blk 99 [.int .i64 5,.int .i64 (if 1<=i then a.id else 0),.int .i64 (if 2<=i then b.id else 0),.int .i64 (if 3<=i then c.id else 0),.int .i64 (if 4<=i then d.id else 0),.nils,.int .i64 0]]) (λi=>4-i) (λi=>i<=4) 0 (Qh _) rfl rfl λi hi=>?_
 rcases(show i=0\/i=1\/i=2\/i=3\/i=4 by omega)with rfl|rfl|rfl|rfl|rfl
 ·refine Ue [.t rfl,.x (i:=0) (xs:=Fa a) rfl,.i 0] rfl ?_ (by simp[U0]);exact rd 1 (by omega) (by omega) rfl
 ·refine Ue [.t rfl,.x (i:=1) (xs:=Fa b) rfl,.i 1] rfl ?_ (by simp[U0]);exact rd 2 (by omega) (by omega) rfl
 ·refine Ue [.t rfl,.x (i:=2) (xs:=Fa c) rfl,.i 2] rfl ?_ (by simp[U0]);exact rd 3 (by omega) (by omega) rfl
 ·refine Ue [.t rfl,.x (i:=3) (xs:=Fa d) rfl,.i 3] rfl ?_ (by simp[U0]);exact rd 4 (by omega) (by omega) rfl
 ·exact Ug [.f rfl,.f rfl,.f rfl,.f rfl,.f rfl,.x (i:=0) (xs:=Fa a) rfl,.x (i:=1) (xs:=Fa b) rfl,.x (i:=2) (xs:=Fa c) rfl,.x (i:=3) (xs:=Fa d) rfl,.k cf,.k cg] rfl
theorem Qt0{s m:Pt×Pt}{t:Tm}(h1:Sc s.1.c)(h2:Sc s.2.c)(h3:Sc m.1.c)(h4:Sc m.2.c)(ht:Va t):U5 prog 259 [.agg (Fa m.1),.agg (Fa m.2),.one (.ow 0 0),.one (.ow 1 0),.one (.ow 2 0)] [.blk 40 (Fa s.1),.blk 40 (Fa s.2),.blk 105 (ta t)] [] [.blk 40 (Fa (P0 (Fp t) s m).1),.blk 40 (Fa (P0 (Fp t) s m).2),.blk 105 (ta t)]:=by
 have cf:=BV h1 h2 h3 h4;have cg:=SQ (KC h1 h2 h3 h4).dp ht;unfold P0;refine Fu func259 rfl ?_;by_cases h:Hi (Fp t) (Ho s.1.c s.2.c m.1.c m.2.c)<0
 ·rw[if_pos h];exact Ui [] [0,1,2] [.k cf,.k cg,.t (decide_eq_true h)] rfl
 ·rw[if_neg h];exact Ui [] [0,1,2] [.k cf,.k cg,.f (decide_eq_false h)] rfl
theorem Qtw{s m:Pt×Pt}{t:Tm}{L:List Ct}(h1:Sc s.1.c)(h2:Sc s.2.c)(h3:Sc m.1.c)(h4:Sc m.2.c)(ht:Va t)(hL:L.length<=1000000):U5 prog 260 [.agg (Fa m.1),.agg (Fa m.2),.one (.ow 0 0),.one (.ow 1 0),.one (.ow 2 0),.one (.ow 3 0)] [.blk 40 (Fa s.1),.blk 40 (Fa s.2),.blk 105 (ta t),.blk 66 [.orow 4 7 none],.row false 99 7 (Fj L)] [] [.blk 40 (Fa s.1),.blk 40 (Fa s.2),.blk 105 (ta t),.blk 66 [.orow 4 7 none],.row false 99 7 (Fj (if ZK s m=true then L++[Bb (Fp t) s.1 s.2 m.1 m.2]else L))]:=by
 have cm:=Qm0 h1 h2 h3 h4 ht;have hq:∀y∈[Lu (Bb (Fp t) s.1 s.2 m.1 m.2)],y.length=7:=λy hy=>by rw[Qk.1 hy];rfl
 have hcl:=Nx L;have hsn:Fj (L++[Bb (Fp t) s.1 s.2 m.1 m.2])=Fj L++[Lu (Bb (Fp t) s.1 s.2 m.1 m.2)]:=by simp[Fj]
 refine Fu func260 rfl ?_;by_cases e1:m.1.id=s.1.id
 ·by_cases e2:m.2.id=s.2.id
  ·rw[if_neg (by simp[ZK,e1,e2])];exact Ui [] [0,1,2,3,4] [.g 15 false (by simp[e1]),.f (by simp[e2])] rfl
  ·rw[if_pos (by simp[ZK,e2]),hsn];exact Ui [] [0,1,2,3,4] [.g 15 false (by simp[e1]),.t (by simp[e2]),.k cm,.s (sz:=7) hq] rfl (by simp[U0,hcl];omega)
 ·rw[if_pos (by simp[ZK,e1]),hsn];exact Ui [] [0,1,2,3,4] [.g 15 true (by simp[e1]),.t rfl,.k cm,.s (sz:=7) hq] rfl (by simp[U0,hcl];omega)
theorem SL(M:List Pt):H5 0 M=[]:=by cases M <;> rfl
def vQ(M:List Pt)(x:Pt)(i j:Nat):List (Pt×Pt):=H5 i M++((M.drop (i+1)).take j).map (λy=>(x,y))
theorem rC(M:List Pt)(x:Pt)(i:Nat):vQ M x i 0=H5 i M:=by rw[vQ,Vu,X6,Zv]
theorem rB{M:List Pt}{i j:Nat}{x y:Pt}(hy:(M.drop (i+1))[j]? = some y):vQ M x i (j+1)=vQ M x i j++[(x,y)]:=by
 unfold vQ;rw[Z2,hy,Option.toList_some,Yh,Zd];rfl
theorem oU{M:List Pt}{i j:Nat}{x:Pt}(hx:M[i]? = some x)(hj:(M.drop (i+1)).length<=j):vQ M x i j=H5 (i+1) M:=by
 unfold vQ;rw[Qo hj,Li M i x hx]
theorem Qpt{M:List Pt}{i j:Nat}{x:Pt}(hx:M[i]? = some x):∀m∈vQ M x i j,m.1∈M/\m.2∈M:=λm hm=>by
 rcases Qr.1 hm with h|h
 ·exact Sy _ _ m h
 ·obtain⟨y,hy,rfl⟩:=Za.1 h;exact⟨Qc hx,Qz (Qn hy)⟩
theorem Qfy{l:List Pt}{t:Tm}{s0:Pt×Pt}(hl:∀p∈l,Sc p.c)(hs:s0.1∈l/\s0.2∈l)(hn:l.length≤1000)(ht:Va t):U5 prog 258 [.one (pts l),.one (.ofn 259 [] [.ow 0 0,.ow 1 0,.ow 2 0])] [.blk 40 (Fa s0.1),.blk 40 (Fa s0.2),.blk 105 (ta t)] [] [.blk 40 (Fa (Hm (Fp t) s0 (Gq l)).1),.blk 40 (Fa (Hm (Fp t) s0 (Gq l)).2),.blk 105 (ta t)]:=by
 have hcl:=G0 l;have hsc:∀ps:List (Pt×Pt),(∀m∈ps,m.1∈l/\m.2∈l)->Sc (Hm (Fp t) s0 ps).1.c/\Sc (Hm (Fp t) s0 ps).2.c:=λps h=>by
  obtain⟨h1,h2⟩:=Ld (Fp t) ps s0 hs h;exact⟨hl _ h1,hl _ h2⟩
 show U5 prog 258 [.one (.row (Uz l)),.one (.ofn 259 [] [.ow 0 0,.ow 1 0,.ow 2 0])] _ _ _;refine Fu func258 rfl ?_;refine Ue [] rfl ?_;refine lp (S:=Nat) 3 (λL1 i=>(10,.v (.oi i))::L1) (λi=>[.blk 40 (Fa (Hm (Fp t) s0 (H5 i l)).1),.blk 40 (Fa (Hm (Fp t) s0 (H5 i l)).2),.blk 105 (ta t)]) (λi=>l.length-i) (λi=>i<=l.length) 0 (Qh _) rfl (λ_ _=>rfl) (by rw[SL];rfl) λi hi=>?_
 by_cases hlt:i<l.length
 ·obtain⟨x,hx⟩:=gxE (l:=l) (i:=i) hlt;have ed1:(Uz l).drop (i+1)=Uz (l.drop (i+1)):=by simp[Uz,Vh]
  have hdl:=G0 (l.drop (i+1));have hdl2:(l.drop (i+1)).length<=1000:=by rw[Q7];omega
  rw[<-rC l x i];refine go tt [.t (by simp[hcl];omega),.x (S4 hx),.r 17 (eI (b:=((i+1:Nat):Int)) (by simp)),.i (i+1),.r 18 (UC ed1)] rfl (by simp[U0,G0,eq_true (p:=∀z,z∈Uz l->z.length=ti40.sz) (YO l)];omega) ?_;refine Uj (S:=Nat) 4 (λL1 j=>(20,.v (.oi j))::L1) (λj=>[.blk 40 (Fa (Hm (Fp t) s0 (vQ l x i j)).1),.blk 40 (Fa (Hm (Fp t) s0 (vQ l x i j)).2),.blk 105 (ta t),.blk 40 (Fa x)]) (λj=>(l.drop (i+1)).length-j) (λj=>j<=(l.drop (i+1)).length) 0 (Qh _) rfl rfl λj hj=>?_
  by_cases hltj:j<(l.drop (i+1)).length
  ·obtain⟨y,hy⟩:=gxE (l:=(l.drop (i+1))) (i:=j) hltj;obtain⟨s1,s2⟩:=hsc (vQ l x i j) (Qpt hx);have cn:=Qt0 (s:=Hm (Fp t) s0 (vQ l x i j)) (m:=(x,y)) s1 s2 (hl x (Qc hx)) (hl y (Qz (Qc hy))) ht;rw[<-yH,<-rB hy]at cn;refine go tt [.T,.x (S4 hy),.c [0,1,2] cn] rfl (by simp[U0,-List.length_drop];omega) ?_;exact rd (j+1) (by omega) hltj rfl
  ·have e:=oU hx (J8 hltj);rw[e];refine go tt [.F] rfl (by simp[U0,-List.length_drop];omega) ?_;exact rd (i+1) (by omega) hlt rfl
 ·obtain rfl:i=l.length:=by omega
  exact Ui [] [0,1,2] [.f (by simp[hcl])] rfl
theorem Qfz{l:List Pt}{t:Tm}{s:Pt×Pt}(hl:∀p∈l,Sc p.c)(hs:s.1∈l/\s.2∈l)(hn:l.length≤10)(ht:Va t):U5 prog 258 [.one (pts l),.one (.ofn 260 [] [.ow 0 0,.ow 1 0,.ow 2 0,.ow 3 0])] [.blk 40 (Fa s.1),.blk 40 (Fa s.2),.blk 105 (ta t),.blk 66 [.orow 4 7 none],.row false 99 7 []] [] [.blk 40 (Fa s.1),.blk 40 (Fa s.2),.blk 105 (ta t),.blk 66 [.orow 4 7 none],.row false 99 7 (Fj (Mx (Fp t) s (Gq l)))]:=by
 have hcl:=G0 l;have hpk:∀i,i<=l.length->(H5 i l).length<=100:=λi hi=>by
  have:=WV i l;have:i*l.length<=10*10:=Zc (by omega) hn;omega
 show U5 prog 258 [.one (.row (Uz l)),.one (.ofn 260 [] [.ow 0 0,.ow 1 0,.ow 2 0,.ow 3 0])] _ _ _;refine Fu func258 rfl ?_;refine Ue [] rfl ?_;refine lp (S:=Nat) 5 (λL1 i=>(10,.v (.oi i))::L1) (λi=>[.blk 40 (Fa s.1),.blk 40 (Fa s.2),.blk 105 (ta t),.blk 66 [.orow 4 7 none],.row false 99 7 (Fj (Mx (Fp t) s (H5 i l)))]) (λi=>l.length-i) (λi=>i<=l.length) 0 (Qh _) rfl (λ_ _=>rfl) (by rw[SL];rfl) λi hi=>?_
 by_cases hlt:i<l.length
 ·obtain⟨x,hx⟩:=gxE (l:=l) (i:=i) hlt;have ed1:(Uz l).drop (i+1)=Uz (l.drop (i+1)):=by simp[Uz,Vh]
  have hdl:=G0 (l.drop (i+1));have hdl2:(l.drop (i+1)).length<=10:=by rw[Q7];omega
  rw[<-rC l x i];refine go tt [.t (by simp[hcl];omega),.x (S4 hx),.r 17 (eI (b:=((i+1:Nat):Int)) (by simp)),.i (i+1),.r 18 (UC ed1)] rfl (by simp[U0,G0,eq_true (p:=∀z,z∈Uz l->z.length=ti40.sz) (YO l)];omega) ?_;refine Uj (S:=Nat) 6 (λL1 j=>(20,.v (.oi j))::L1) (λj=>[.blk 40 (Fa s.1),.blk 40 (Fa s.2),.blk 105 (ta t),.blk 66 [.orow 4 7 none],.row false 99 7 (Fj (Mx (Fp t) s (vQ l x i j))),.blk 40 (Fa x)]) (λj=>(l.drop (i+1)).length-j) (λj=>j<=(l.drop (i+1)).length) 0 (Qh _) rfl rfl λj hj=>?_
  by_cases hltj:j<(l.drop (i+1)).length
  ·obtain⟨y,hy⟩:=gxE (l:=(l.drop (i+1))) (i:=j) hltj;have hdn:(Mx (Fp t) s (vQ l x i j)).length<=1000000:=by
    refine Qa (IE _ _ _) ?_;unfold vQ;rw[Qy,Q8,Qq];have:=hpk i hi;omega
   have cn:=Qtw (s:=s) (m:=(x,y)) (L:=Mx (Fp t) s (vQ l x i j)) (hl _ hs.1) (hl _ hs.2) (hl x (Qc hx)) (hl y (Qz (Qc hy))) ht hdn;have en1:(if ZK s (x,y)=true then Mx (Fp t) s (vQ l x i j)++[Bb (Fp t) s.1 s.2 x y]else Mx (Fp t) s (vQ l x i j))=Mx (Fp t) s (vQ l x i (j+1)):=by
    rw[rB hy];cases h:ZK s (x,y)with
    |true=>rw[if_pos rfl,Qoe h]
    |false=>rw[if_neg (by decide),Qod h]
   dsimp only at cn;rw[en1]at cn;refine go tt [.T,.x (S4 hy),.c [0,1,2,3,4] cn] rfl (by simp[U0,-List.length_drop];omega) ?_;exact rd (j+1) (by omega) hltj rfl
  ·have e:=oU hx (J8 hltj);rw[e];refine go tt [.F] rfl (by simp[U0,-List.length_drop];omega) ?_;exact rd (i+1) (by omega) hlt rfl
 ·obtain rfl:i=l.length:=by omega
  exact Ui [] [0,1,2,3,4] [.f (by simp[hcl])] rfl
theorem IT{l:List Pt}{a:Tm}{c:Cr}{r1:Ut}(hl:∀p∈l,Sc p.c)(hn:l.length≤10)(ha:Va a):U5 prog 198 [.one (.ow 0 0),.agg (ta a)] [.blk 227 (Hl c (Uz l) r1)] [.one (.row (Fj (Lh (Fp a) l)))] [.blk 227 (Hl c (Uz l) (Uz (ZW (Fp a) l)))]:=by
 have hcl:=G0 l;refine Fu func198 rfl ?_;by_cases h2:l.length<2
 ·obtain⟨e1,e2⟩:=Qc0 (Fp a) h2;rw[e1,e2];refine Ue [.k Il] rfl ?_;refine nlc 0 13 rfl rfl rfl ?_;have hml:(l.map Fa).length=l.length:=Q8 _;exact Ui [] [0] [.T] rfl
 ·obtain⟨x,y,l',rfl⟩:=Qwl h2;obtain⟨l,hle⟩:=nmE (x::y::l');have hx0:(Uz l)[0]? = some (Fa x):=by rw[hle];rfl
  have hy0:(Uz l)[1]? = some (Fa y):=by rw[hle];rfl
  have hxl:x∈l:=by rw[hle];simp
  have hyl:y∈l:=by rw[hle];simp
  have eB:ZW (Fp a) (x::y::l')=[(Hm (Fp a) (x,y) (Gq l)).1,(Hm (Fp a) (x,y) (Gq l)).2]:=by rw[hle];rfl
  have eC:Lh (Fp a) (x::y::l')=Mx (Fp a) (Hm (Fp a) (x,y) (Gq l)) (Gq l):=by rw[hle];rfl
  rw[eB,eC];rw[<-hle]at hl hn h2 hcl ⊢;have c1:=Qfy (t:=a) (s0:=(x,y)) hl ⟨hxl,hyl⟩ (by omega) ha;obtain⟨n1,n2⟩:=Ld (Fp a) (l:=l) (Gq l) (x,y) ⟨hxl,hyl⟩ (Sy _ _);generalize Hm (Fp a) (x,y) (Gq l)=s at *;have c2:=Qfz (t:=a) (s:=s) hl ⟨n1,n2⟩ hn ha;have hml:(l.map Fa).length=l.length:=Q8 _;exact Ui [5] [0] [.k Il,.F,.x hx0,.x hy0,.c [2,3,1] c1,.oc 8 0 99 7,.c [2,3,1,4,5] c2] rfl
theorem Qti{T:Nat}{t:Rat}{Bc:Tm->List Ct}{Br:Tm->Ut}{r0:Ut}(ht:Qs 1640000 t)(hB:BuildOk Bc)
 (hb:∀a c r1,Va a->CrOk c->U5 prog 198 [.one (.ow 0 0),.agg (ta a)] [.blk T (Hl c r0 r1)] [.one (.row (Fj (Bc a)))] [.blk T (Hl c r0 (Br a))])
 {K:Nat} {c c':Cr} {r1 r1':Ut} {n:Int} (hc:CrOk c) (hev:0<=c.ev/\c.ev+K<=1000000000000000000) (h:Fl c.now t<=0) (hg:WI Bc Br t K c r1 0=some (c',r1',n)) :
 U5 prog 396 [.one (.ow 0 0),.agg (rl t),.one (.ofn 198 [.ow 0 0] [])] [.blk T (Hl c r0 r1)] [.oi n,.oi 0] [.blk T (Hl c' r0 r1')]:=by
 have qt:Qb t:=ht.mono (by decide);have c1:=De hc.n.tb qt;refine Fu func396 rfl ?_;refine Ue [.c [0] (QZ hc.n),.k c1,.f (by simpa using h)] rfl ?_;refine Uj (S:=Nat×Cr×Ut×Int) 2 (λL1 s=>(8,.v (.oi s.2.2.2))::L1) (λs=>[.blk T (Hl s.2.1 r0 s.2.2.1),.blk 42 (rl t)]) (λs=>s.1) (λs=>CrOk s.2.1/\(0<=s.2.1.ev/\s.2.1.ev+s.1<=1000000000000000000)/\(0<=s.2.2.2/\s.2.2.2+s.1<=1000000000000000000)/\WI Bc Br t s.1 s.2.1 s.2.2.1 s.2.2.2=some (c',r1',n)) (K,c,r1,0) ⟨hc,hev,⟨Int.le_refl 0,by dsimp only;omega⟩,hg⟩ rfl rfl λ⟨k,x,r,m⟩ ⟨j1,j2,j3,j4⟩=>?_
 dsimp only at j1 j2 j3 j4 ⊢;cases k with
 |zero=>cases j4
 |
  succ k =>
  simp only[WI]at j4;obtain⟨ws,w1,j4⟩:=Qd.1 j4;obtain⟨o,o1,j4⟩:=Qd.1 j4;have cn:=MX (T:=T) (r0:=r0) (r1:=r) j1 w1 o1;have ca:=VL (U3 t.num) (U3 (t.den:Int)) (Qa ht.1 (by decide)) (Qa ht.2 (by decide)) (by rw[Tq];exact ht.mono (by decide));rw[Tq]at ca;cases o with
  |
   none =>
   injection j4 with j4;injection j4 with e1 j4;injection j4 with e2 e3;subst e1;subst e2;subst e3;exact Ui [] [0] [.c [0] cn,.g 25 true rfl,.t rfl,.k ca] rfl
  |
   some a =>
   have ha:=LP j1 w1 o1;dsimp only at j4;have cc:=De ha.tb qt;by_cases h0:0<Fl a t
   ·rw[if_pos h0]at j4;injection j4 with j4;injection j4 with e1 j4;injection j4 with e2 e3;subst e1;subst e2;subst e3;exact Ui [] [0] [.c [0] cn,.g 25 false rfl,.k cc,.t (by simpa using h0),.k ca] rfl
   ·rw[if_neg h0]at j4;obtain⟨w2,l1,j4⟩:=Qd.1 j4;have j1':=El j1 w1;have cl:=S7 (b:=a) (l:=[]) ha.tb (λt ht=>by cases ht) (by decide) rfl;have cb:=hb a { x with l:=ws } r ha j1';have cy:=UY (T:=T) (r0:=r0) (r1:=Br a) j1' ha (hB.p a ha) (hB.n a ha) l1;have hf:decide (0<Fl a t)=false:=by simpa using h0
    refine Uf [.c [0] cn,.g 25 false rfl,.k cc,.f hf,.k cl,.c [0] cb,.c [0] cy] rfl ?_;exact rd (k,⟨a,w2,x.ev+1⟩,Br a,m+1) (by dsimp only;omega) ⟨lay_ok _ j1' ha (hB.p a ha) (hB.n a ha) l1,by dsimp only;omega,by dsimp only;omega,j4⟩ rfl
end Orr
namespace Orr
open Go
def Tg:Up->Nat
 | []=>0
 |x::l=>x+10000*Tg l
def Dg(l:Up):Prop:=∀x∈l,x<10000
def Gh(x:Nat):Up:=if h:x=0 then []else(x % 10000)::Gh (x / 10000)
termination_by x
decreasing_by omega
theorem Hu:Gh 0=[]:=by unfold Gh;simp
theorem YF{x:Nat}(h:x≠0):Gh x=(x % 10000)::Gh (x / 10000):=by rw[Gh];simp[h]
theorem Ra(x:Nat):Tg (Gh x)=x:=by
 induction x using Nat.strongRecOn with
 |
  _ x ih =>
  rcases Q3 x with h|h
  ·subst h;rw[Hu];rfl
  ·rw[YF (by omega)];simp only[Tg];rw[ih _ (by omega)];omega
theorem Cf(x:Nat):Dg (Gh x):=by
 induction x using Nat.strongRecOn with
 |
  _ x ih =>
  rcases Q3 x with h|h
  ·subst h;rw[Hu];intro y hy;cases hy
  ·rw[YF (by omega)];intro y hy;rcases Qm.1 hy with rfl|hy
   ·omega
   ·exact ih _ (by omega) y hy
theorem MR{x:Nat}:(Gh x).length=0↔x=0:=by
 constructor
 ·intro h;have h0:=Qj h;have:=Ra x;rw[h0]at this;exact this.symm
 ·rintro rfl;rw[Hu];rfl
theorem Ia{x:Nat}(h:x≠0):(Gh (x / 10000)).length+1=(Gh x).length:=by rw[YF h];rfl
theorem Qb2{x:Nat}(h:x<1000000000000):(Gh x).length<=3:=by
 by_cases h0:x=0
 ·subst h0;rw[Hu];exact Qh _
 ·have h1:=Ia h0;by_cases h2:x / 10000=0
  ·rw[h2,Hu]at h1;simp at h1;omega
  ·have h3:=Ia h2;by_cases h4:x / 10000 / 10000=0
   ·rw[h4,Hu]at h3;simp at h3;omega
   ·have h5:=Ia h4;have h6:x / 10000 / 10000 / 10000=0:=by omega
    rw[h6,Hu]at h5;simp at h5;omega
theorem Mm(x:Nat):(Gh x).length<=sz x:=by
 induction x using Nat.strongRecOn with
 |
  _ x ih =>
  by_cases h0:x=0
  ·subst h0;rw[Hu];exact Qh _
  ·have h1:=Ia h0;have h2:=ih (x / 10000) (by omega);have h3:sz (x / 10000)+1<=sz x:=by
    have h4:x<2^sz x:=FG x;rcases hs:sz x with _|k
    ·rw[hs]at h4;simp at h4;omega
    ·rw[hs]at h4;have:sz (x / 10000)<=k:=Nl.2 (by rw[Zr]at h4;omega);omega
   omega
theorem Pi(a b:Up):Tg (a++b)=Tg a+10000^a.length*Tg b:=by
 induction a with
 |nil=>simp[Tg]
 |
  cons x a ih =>
  simp only[Xb,Tg,ih,Q5,Zr];rw[Xj,<-Xy,Zq 10000 (10000^a.length)];omega
theorem Tt{l:Up}{i x:Nat}(h:l[i]? = some x):Tg (l.take (i+1))=Tg (l.take i)+10000^i*x:=by
 have hi:=(Qf.1 h).1;rw[show l.take (i+1)=l.take i++[x] by rw[Z2,h];rfl,Pi,Qq,Zx (by omega)];simp[Tg]
theorem CB:∀{l:Up},Dg l->Tg l<10000^l.length
 | [],_=>by simp[Tg]
 |
  x::l,h=>by
  have h1:=h x (Qx ..);have h2:=CB (l:=l) λy hy=>h y (Qg _ hy)
  simp only[Tg,Q5,Zr];omega
theorem CC:∀{l:Up},(∀x∈l,x=0)->Tg l=0
 | [],_=>rfl
 |
  x::l,h=>by
  have h1:=h x (Qx ..);have h2:=CC (l:=l) λy hy=>h y (Qg _ hy)
  simp[Tg,h1,h2]
theorem Dg.take{l:Up}(h:Dg l)(k:Nat):Dg (l.take k):=λx hx=>h x (Qn hx)
theorem Dg.snoc{l:Up}(h:Dg l){x:Nat}(hx:x<10000):Dg (l++[x]):=by
 intro y hy;rcases Qr.1 hy with hy|hy
 ·exact h y hy
 ·rw[Qk.1 hy];exact hx
theorem Dg.nil:Dg []:=λx h=>by cases h
theorem mN:∀{l:Up},Dg l->(∀x,l[l.length-1]? = some x->x≠0)->l=Gh (Tg l)
 | [],_,_=>by rw[Tg,Hu]
 |
  x::l,h,hl=>by
  have h1:=h x (Qx ..);have h2:l=Gh (Tg l):=mN (λy hy=>h y (Qg _ hy)) λy hy=>hl y (by
   rcases l with _|⟨z,t⟩
   ·simp at hy
   ·simpa using hy)
  have h3:x+10000*Tg l≠0:=by
   intro e;have hx:x=0:=by omega
   have hd:Tg l=0:=by omega
   rw[hd,Hu]at h2;subst h2;exact hl x rfl hx
  simp only[Tg];rw[YF h3,show(x+10000*Tg l) % 10000=x by omega,show(x+10000*Tg l) / 10000=Tg l by omega,<-h2]
theorem uH{l:Up}{m:Nat}(hd:Dg l)(hm:m<=l.length)(h1:∀j x,m<=j->l[j]? = some x->x=0)(h2:0<m->∃y,l[m-1]? = some y/\y≠0):l.take m=Gh (Tg l):=by
 have e:Tg l=Tg (l.take m):=by
  conv=>lhs;rw[<-Zh m l,Pi]
  rw[CC (l:=l.drop m) λx hx=>?_]
  ·omega
  ·obtain⟨j,hj⟩:=Zk.1 hx;rw[Xc]at hj;exact h1 (m+j) x (by omega) hj
 rw[e];refine mN (hd.take m) λx hx=>?_
 have hl:(l.take m).length=m:=by rw[Qq];omega
 rw[hl]at hx;rcases Q3 m with h0|h0
 ·subst h0;simp at hx
 ·obtain⟨y,hy,hy0⟩:=h2 h0;rw[Kf (by omega),hy]at hx;injection hx with hx;rw[<-hx];exact hy0
theorem II{o c i d m P V:Nat}(hP:P=10000^i)(h:o+c*P=V):o+P*((c+d*m) % 10000)+(c+d*m) / 10000*(P*10000)=V+P*d*m:=by
 have e:=Xe (c+d*m) 10000;generalize (c+d*m) / 10000=q at *;generalize (c+d*m) % 10000=r at *;have e2:P*(c+d*m)=P*(10000*q+r):=by rw[e]
 grind
theorem XQ{x y:Nat}(h:x<=y):(Gh x).length<=(Gh y).length:=by
 induction y using Nat.strongRecOn generalizing x with
 |
  _ y ih =>
  by_cases h0:x=0
  ·subst h0;rw[Hu];exact Qh _
  ·have h1:=Ia h0;have h2:=Ia (x:=y) (by omega);have:=ih (y / 10000) (by omega) (x:=x / 10000) (Nat.div_le_div_right h);omega
theorem Qb1{n x:Nat}(h:10000^n<=x):n+1<=(Gh x).length:=by
 have h1:=CB (Cf x);rw[Ra]at h1;have h2:n<(Gh x).length:=(Nat.pow_lt_pow_iff_right (by decide)).1 (Z4 h h1);omega
theorem uF{x y:Nat}(h:(Gh x).length<(Gh y).length):x<y:=by
 rcases Zb x y with h1|h1
 ·exact h1
 ·have:=XQ h1;omega
theorem Qb3{k y:Nat}(h:y<10000^k):(Gh y).length<=k:=by
 induction k generalizing y with
 |
  zero =>
  have:y=0:=by simpa using h
  subst this;rw[Hu];exact Ql _
 |
  succ k ih =>
  by_cases hy0:y=0
  ·subst hy0;rw[Hu];exact Qh _
  ·have h8:=Ia hy0;have:=ih (y:=y / 10000) (by rw[Zr]at h;omega);omega
theorem Qgt{o:Up}(h:Dg o)(hl:o.length<=(Gh (Tg o)).length):o=Gh (Tg o):=by
 refine mN h λx hx h0=>?_
 subst h0;have hne:0<o.length:=by
  rcases o with _|⟨a,o⟩
  ·simp at hx
  ·simp
 have h1:Tg o=Tg (o.take (o.length-1)):=by
  have:=Tt hx;rw[show o.length-1+1=o.length by omega,Q6]at this;omega
 have h2:=CB (h.take (o.length-1));rw[<-h1,Qq,Zx (by omega)]at h2;have:=Qb3 h2;omega
theorem XJ{l:Up}{j d:Nat}(h:l[j]? = some d):Tg (l.drop j)=d+10000*Tg (l.drop (j+1)):=by
 obtain⟨hj,he⟩:=Qf.1 h;rw[Zp hj,he];rfl
theorem HL{l:Up}{j y:Nat}(h:j<l.length):(l.set j y).drop j=y::l.drop (j+1):=by
 rw[Zp (by simpa using h)];simp only[List.getElem_set_self];rw[List.drop_set_of_lt (by omega)]
theorem Dg.set{l:Up}(h:Dg l){j y:Nat}(hy:y<10000):Dg (l.set j y):=by
 intro x hx;rcases Jq hx with hx|rfl
 ·exact h x hx
 ·exact hy
theorem Dg.zeros(n:Nat):Dg (List.replicate n 0):=by
 intro x hx;rw[Zw hx];decide
theorem uT{V kd d:Nat}(hk:0<kd):(d+10000*V) / kd=(V % kd*10000+d) / kd+10000*(V / kd)/\(d+10000*V) % kd=(V % kd*10000+d) % kd/\(d<10000->(V % kd*10000+d) / kd<10000):=by
 have e:=Xe V kd;have e2:d+10000*V=(V % kd*10000+d)+kd*(10000*(V / kd)):=by
  conv=>lhs;rw[<-e]
  grind
 refine⟨?_,?_,λhd=>?_⟩
 ·rw[e2,Wd _ _ hk]
 ·rw[e2,Ka]
 ·have:=Z5 V hk;exact(Vv hk).2 (by grind)
theorem MS(l:Up)(j:Nat)(h:j<=l.length):Tg l=Tg (l.take j)+10000^j*Tg (l.drop j):=by
 conv=>lhs;rw[<-Zh j l,Pi]
 rw[Qq,Zx h]
theorem CH{a b:Up}{j d e:Nat}(ha:Dg a)(hd:a[j]? = some d)(he:b[j]? = some e)(hs:a.drop (j+1)=b.drop (j+1))(h:d<e):Tg a<Tg b:=by
 have h1:=(Qf.1 hd).1;have h2:=(Qf.1 he).1;rw[MS a j (by omega),MS b j (by omega),XJ hd,XJ he,hs];have h3:=CB (ha.take j);rw[Qq,Zx (by omega)]at h3;generalize 10000^j=P at *;have h4:P*(d+10000*Tg (b.drop (j+1)))+P<=P*(e+10000*Tg (b.drop (j+1))):=by
  rw[<-W5];exact Zu _ (by omega)
 omega
def dl(l:Up):LV:=.row (l.map λ(x:Nat)=>[.int .i64 (x:Int)])
theorem Tx(l:Up):(l.map λ(x:Nat)=>[LV.int .i64 (x:Int)]).length=l.length:=by simp
theorem Gx{l:Up}{i x:Nat}(h:l[i]? = some x):(l.map λ(x:Nat)=>[LV.int .i64 (x:Int)])[i]? = some [.int .i64 (x:Int)]:=by rw[Q9,h];rfl
abbrev nd(x:Nat):LV:=dl (Gh x)
end Orr
namespace Orr
open Go Go.Proofs Tryz
set_option maxRecDepth 10000
abbrev Bs(l:Up):Ut:=l.map λ(x:Nat)=>[.int .i64 (x:Int)]
theorem Qug(l:Up):∀c∈Bs l,c.length=1:=λc hc=>by obtain⟨x,_,rfl⟩:=Za.1 hc;rfl
theorem HT{l:Up}(hd:Dg l):Uk 214 [.one (.row (Bs l))] [.one (nd (Tg l))]:=by
 refine Fu func214 rfl (ln 0 rfl rfl λhl=>?_);rw[Q8]at hl;refine Ue [] rfl ?_;refine lp (S:=Nat) 0 (λL1 n=>(3,.v (.oi n))::L1) (λ_=>[]) id (λn=>n<=l.length/\∀j x,n<=j->l[j]? = some x->x=0) (Bs l).length ⟨by simp,λj x h1 h2=>by
  have:=(Qf.1 h2).1;simp at h1;omega⟩ rfl (λ_ _=>rfl) rfl λn ⟨h1,h2⟩=>?_
 cases n with
 |zero=>exact Ug [.g 8 false (by simp),.f rfl,.i 0] rfl (by have:=uH hd h1 h2 (λh=>by omega);unfold nd;rw[<-this];simp[dl]) (by simp[U0])
 |
  succ n =>
  obtain⟨x,hx⟩:=gxE (l:=l) (i:=n) (by omega);by_cases h0:x=0
  ·refine Uf [.g 8 true (by simp),.r 11 (v:=.oi n) (by simp),.x (Gx hx),.t (by simp[h0]),.r 17 (v:=.oi n) (by simp)] rfl ?_;exact rd n (by simp) ⟨by omega,λj y h3 h4=>by
    rcases Vk h3 with rfl|h3
    ·rw[hx]at h4;injection h4 with h4;rw[<-h4,h0]
    ·exact h2 j y h3 h4⟩ rfl
  ·exact Ug [.g 8 true (by simp),.r 11 (v:=.oi n) (by simp),.x (Gx hx),.f (by simp[h0]),.i (n+1)] rfl (by have:=uH hd h1 h2 (λ_=>⟨x,hx,h0⟩);unfold nd;rw[<-this];simp[dl,List.map_take]) (by simp[U0] <;> omega)
theorem lO{x kd:Nat}(hxs:sz x<=100000000)(hk:0<kd/\kd<=65536):Uk 179 [.one (nd x),.oi kd] [.one (nd (x / kd)),.oi ((x % kd:Nat):Int)]:=by
 have hln:=Qa (Mm x) hxs;obtain⟨l,hl⟩:=nmE (Gh x);have hx:Tg l=x:=by rw[hl,Ra]
 have hd:Dg l:=by rw[hl];exact Cf x
 show Uk 179 [.one (.row (Bs (Gh x))),.oi kd] _;rw[<-hl]at hln ⊢;rw[<-hx];have hll:=Tx l;refine Fu func179 rfl ?_;refine Uf [.i (Bs l).length,.i (Bs l).length] rfl ?_;rw[hll,show List.replicate l.length [LV.int .i64 0]=Bs (List.replicate l.length 0) from by simp[Bs]];refine Uj (S:=Nat×Up×Nat) 1 (λL1 s=>(8,.v (.oi ((s.1:Int)-1)))::(7,.v (.oi (s.2.2:Int)))::L1) (λs=>[.row false 3 1 (Bs s.2.1)]) (λs=>s.1) (λs=>s.1<=l.length/\s.2.1.length=l.length/\Dg s.2.1/\Tg (s.2.1.drop s.1)=Tg (l.drop s.1) / kd/\s.2.2=Tg (l.drop s.1) % kd) (l.length,List.replicate l.length 0,0) ⟨Ql _,by simp,Dg.zeros _,by simp[Tg],by simp[Tg]⟩ rfl rfl λ⟨k,o,R⟩ ⟨j1,j2,j3,j4,hR⟩=>?_
 dsimp only at j1 j2 j3 j4 hR ⊢;cases k with
 |
  zero =>
  have cc:=HT j3;rw[Xx,Xx]at j4;rw[j4]at cc;exact Ug [.f (by simp),.k cc] rfl (by rw[hR,Xx]) trivial
 |
  succ k =>
  obtain⟨d,hdk⟩:=gxE (l:=l) (i:=k) (by omega);have hd0:=hd d (Qc hdk);have hdd:=XJ hdk;obtain⟨s1,s2,s3⟩:=uT (V:=Tg (l.drop (k+1))) (kd:=kd) (d:=d) hk.1;rw[<-hdd]at s1 s2;have hr:=Z5 (Tg (l.drop (k+1))) hk.1;rw[<-hR]at s1 s2 s3 hr;have e:((k+1:Nat):Int)-1=(k:Int):=by omega
  have htd:((R:Int)*10000+(d:Int)).tdiv (kd:Int)=(((R*10000+d) / kd:Nat):Int):=rfl;have hle:=Jr (R*10000+d) kd;have htb:0<=((R:Int)*10000+(d:Int)).tdiv (kd:Int)/\((R:Int)*10000+(d:Int)).tdiv (kd:Int)<=655369999:=by
   rw[htd];revert hle;generalize (R*10000+d) / kd=Q;intro hle;omega
  rw[e];refine Uf [.t (by simp),.x (Gx hdk),.r 26 (eI (b:=((R*10000+d:Nat):Int)) (by omega)),.r 31 (eI (b:=(((R*10000+d) / kd:Nat):Int)) (by rfl)),.i k,.r 35 (eI (b:=(((R*10000+d) % kd:Nat):Int)) (by rfl))] rfl ?_;exact rd (k,o.set k ((R*10000+d) / kd),(R*10000+d) % kd) (by dsimp only;omega) ⟨by dsimp only;omega,by simp[j2],j3.set (s3 hd0),by dsimp only;rw[HL (by omega)];simp only[Tg];rw[j4,s1],by dsimp only;exact s2.symm⟩ (by simp[Bs,List.map_set];rfl)
theorem Qwh(x k:Nat):sz (x / k)<=sz x:=Rf (Jr _ _)
theorem nL{x y:Nat}{o:Up}(h:Ga x=o++Ga y)(h0:y≠0):Ga x=(o++[y % 4294967296])++Ga (y / 4294967296):=by
 rw[h,Ez h0];simp
theorem Qo2(o:Up)(z:Nat):lm (o++[z])=lm o++[[.int .u32 (z:Int)]]:=by simp[lm]
theorem Qxy{x:Nat}(hx:sz x<=100000000):Uk 107 [.one (nd x)] [lr (Ga x)]:=by
 have hlx:=Ta hx;refine Fu func107 rfl ?_;refine Ue [.o 3 151 1] rfl ?_;refine Uj (S:=Nat×Up) 1 (λL1 s=>(0,.v (.one (nd s.1)))::(3,.v (.one (.orow 0 1 none)))::L1) (λs=>[.row false 151 1 (lm s.2)]) (λs=>s.1) (λs=>Ga x=s.2++Ga s.1/\s.1<=x) (x,[]) ⟨rfl,Ql _⟩ rfl rfl λ⟨y,o⟩ ⟨j1,j2⟩=>?_
 dsimp only at j1 j2 ⊢;by_cases h0:y=0
 ·subst h0;rw[G9,Zv]at j1;rw[j1];exact Ug [.f (by simp[Hu])] rfl
 ·have hs:=nL j1 h0;have hsy:sz y<=100000000:=Qa (Rf j2) hx;have c1:=lO (x:=y) (kd:=65536) hsy (by decide);have c2:=lO (x:=y / 65536) (kd:=65536) (Qa (Qwh _ _) hsy) (by decide);have hl:(Gh y).length≠0:=λh=>h0 (MR.1 h)
  have ol:o.length<=(Ga x).length:=by rw[j1];simp
  have e:y / 65536 % 65536*65536+y % 65536=y % 4294967296:=by omega
  have e2:y / 65536 / 65536=y / 4294967296:=by omega
  refine go tt [.t (by simp;omega),.k c1,.k c2,.r 26 (Ei (b:=((y % 4294967296:Nat):Int)) (by omega)),.s (sz:=1) (l:=[[.int .u32 ((y % 4294967296:Nat):Int)]]) (λc hc=>by rw[Qk.1 hc];rfl)] rfl (by simp[U0,U6];omega) ?_;rw[<-e2]at hs;exact rd (y / 65536 / 65536,o++[y % 4294967296]) (by dsimp only;omega) ⟨hs,by dsimp only;omega⟩ (by rw[Qo2];rfl)
abbrev ri(z:Int):Us:=[nd z.natAbs,sg z]
theorem Qyu(b:Bool)(m:Nat):[nd m,LV.bool (b && decide (0<m))]=ri (U9 b m):=by
 simp only[ri,sg,Rq,LM]
theorem Qvn(x:Nat):(0<(Gh x).length)↔0<x:=by
 have:=MR (x:=x);omega
theorem Nq(b:Bool)(m:Nat):Uk 108 [.one (nd m),.one (.bool b)] [.agg (ri (U9 b m))]:=by
 rw[<-Qyu];have e:=Qvn m;cases b with
 |false=>exact Uh func108 rfl [.g 7 false rfl] rfl
 |true=>exact Uh func108 rfl [.g 7 true rfl] rfl (by simp[e]) trivial
theorem Ds{z:Int}:Uk 136 [.agg (ri z)] [.one (.bool (decide (z=0)))] :=
 Uh func136 rfl [] rfl (by have h:=MR (x:=z.natAbs);simp only[Tx];congr 3;rw[decide_eq_decide];omega) trivial
theorem QX{z:Int}:Uk 137 [.agg (ri z)] [.agg (ri (-z))]:=by
 have h:=Nq (!decide (z<0)) z.natAbs;have e:U9 (!decide (z<0)) z.natAbs=-z:=by unfold U9;by_cases h:z<0 <;> simp[h] <;> omega
 rw[e]at h;exact Uh func137 rfl [.k h] rfl
theorem Qtv{z:Int}(hz:Fb z<=100000000):Uk 45 [.agg (ri z)] [.agg (He z)] :=
 Uh func45 rfl [.k (Qxy hz)] rfl
theorem eBo{a b:Bool}(h:a=b):TV.one (LV.bool a)=.one (.bool b):=h ▸ rfl
theorem Ic(l:Up)(x:Nat):Bs (l++[x])=Bs l++[[.int .i64 (x:Int)]]:=by simp[Bs]
theorem uG{x y:Nat}{o:Up}(h:Gh x=o++Gh y)(h0:y≠0):Gh x=(o++[y % 10000])++Gh (y / 10000):=by
 rw[h,YF h0];simp
theorem Qtx{b:Bool}{x:Nat}(hx:x<=4000000000000000000)(hb:b=true->0<x):Uk 46 [.oi (U9 b x)] [.agg (ri (U9 b x))]:=by
 have hl:(Gh x).length<=100:=by
  have:=Mm x;have h2:sz x<=64:=Nl.2 (by omega);omega
 have hm:=Nq b x;refine Fu func46 rfl ?_;cases b with
 |
  false =>
  show AK prog _ _ _ (VD 0 [.oi x]) [];refine Ue [.f (by simp <;> omega),.r 3 (eBo (b:=false) (by simp)),.f rfl,.o 4 3 1] rfl ?_;refine Uj (S:=Nat×Up) 2 (λL1 s=>(0,.v (.oi (s.1:Int)))::(4,.v (.one (.orow 1 1 none)))::L1) (λs=>[.blk 49 [.nils,.bool false],.row false 3 1 (Bs s.2)]) (λs=>s.1) (λs=>Gh x=s.2++Gh s.1/\s.1<=x) (x,[]) ⟨rfl,Ql _⟩ rfl rfl λ⟨y,o⟩ ⟨j1,j2⟩=>?_
  dsimp only at j1 j2 ⊢;by_cases h0:y=0
  ·subst h0;rw[Hu,Zv]at j1;rw[<-j1];exact Ug [.f (by simp),.k hm] rfl
  ·have hs:=uG j1 h0;have ol:o.length<=(Gh x).length:=by rw[j1];simp
   refine go tt [.t (by simp;omega),.r 18 (eI (b:=((y % 10000:Nat):Int)) (by rfl)),.s (sz:=1) (l:=[[.int .i64 ((y % 10000:Nat):Int)]]) (λc hc=>by rw[Qk.1 hc];rfl),.r 22 (eI (b:=((y / 10000:Nat):Int)) (by rfl))] rfl (by simp[U0,Tx];omega) ?_;exact rd (y / 10000,o++[y % 10000]) (by dsimp only;omega) ⟨hs,by dsimp only;omega⟩ (by rw[Ic];rfl)
 |
  true =>
  show AK prog _ _ _ (VD 0 [.oi (-(x:Int))]) [];refine Uf [.f (by simp <;> omega),.r 3 (eBo (b:=true) (by simpa using hb rfl)),.t rfl,.r 0 (eI (b:=(x:Int)) (by omega)),.o 4 3 1] rfl ?_;refine Uj (S:=Nat×Up) 2 (λL1 s=>(0,.v (.oi (s.1:Int)))::(4,.v (.one (.orow 1 1 none)))::L1) (λs=>[.blk 49 [.nils,.bool false],.row false 3 1 (Bs s.2)]) (λs=>s.1) (λs=>Gh x=s.2++Gh s.1/\s.1<=x) (x,[]) ⟨rfl,Ql _⟩ rfl rfl λ⟨y,o⟩ ⟨j1,j2⟩=>?_
  dsimp only at j1 j2 ⊢;by_cases h0:y=0
  ·subst h0;rw[Hu,Zv]at j1;rw[<-j1];exact Ug [.f (by simp),.k hm] rfl
  ·have hs:=uG j1 h0;have ol:o.length<=(Gh x).length:=by rw[j1];simp
   refine go tt [.t (by simp;omega),.r 18 (eI (b:=((y % 10000:Nat):Int)) (by rfl)),.s (sz:=1) (l:=[[.int .i64 ((y % 10000:Nat):Int)]]) (λc hc=>by rw[Qk.1 hc];rfl),.r 22 (eI (b:=((y / 10000:Nat):Int)) (by rfl))] rfl (by simp[U0,Tx];omega) ?_;exact rd (y / 10000,o++[y % 10000]) (by dsimp only;omega) ⟨hs,by dsimp only;omega⟩ (by rw[Ic];rfl)
theorem ZD{n:Int}(hn:-4000000000000000000<=n/\n<=4000000000000000000):Uk 46 [.oi n] [.agg (ri n)]:=by
 have e:U9 (decide (n<0)) n.natAbs=n:=by unfold U9;by_cases h:n<0 <;> simp[h] <;> omega
 have h:=Qtx (b:=decide (n<0)) (x:=n.natAbs) (by omega) (λh=>by have:=of_decide_eq_true h;omega);rwa[e]at h
abbrev fr(q:Rat):Us:=ri q.num++ri (q.den:Int)
theorem Ib:Gh 1=[1]:=by rw[YF (by decide)];rw[Hu]
theorem Aa{n:Int}:Uk 68 [.agg (ri n),.agg (ri 1)] [.agg (fr (n:Rat))]:=by
 have h0:(Bs (Gh (1:Int).natAbs))[0]? = some [LV.int .i64 1]:=by rw[show(1:Int).natAbs=1 from rfl,Ib];rfl
 have h1:decide (((Bs (Gh (1:Int).natAbs)).length:Int)=1)=true:=by rw[show(1:Int).natAbs=1 from rfl,Ib];rfl
 exact Uh func68 rfl [.k (Ds (z:=1)),.f rfl,.f rfl,.g 19 true h1,.x h0,.t rfl] rfl
theorem KF{n:Int}(hn:-4000000000000000000<=n/\n<=4000000000000000000):Uk 15 [.oi n,.oi 1] [.agg (fr (n:Rat))] :=
 Uh func15 rfl [.k (ZD hn),.k (ZD (n:=1) (by decide)),.k Aa] rfl
theorem BM{q:Rat}(hq:Qs 100000000 q):Uk 14 [.agg (fr q)] [.agg (rl q)] :=
 Uh func14 rfl [.k (Qtv hq.1),.k (Qtv hq.2)] rfl
end Orr
namespace Orr
open Go Go.Proofs Tryz Orq
set_option maxRecDepth 10000
theorem Iz{a:Tm}(ha:Va a):UR a a=some 0:=by
 obtain⟨c,c1,c2⟩:=UT ha ha;rcases c2 with⟨_,h⟩|⟨e,_⟩|⟨_,h⟩
 ·exact absurd h λh=>Ir ha.cut ha.cut h h
 ·rw[c1,e]
 ·exact absurd h λh=>Ir ha.cut ha.cut h h
theorem xM{c:Cr}{l l':List Pt}{r1:Ut}{ws:List Wt}(hc:CrOk c)(hl:∀p∈l',Sc p.c)(hn:l'.length≤1000)(h:Tj c.l c.now (Fv (ZB l' c.now))=some ws) :
 U5 prog 397 [.one (.ow 0 0),.agg [pts l'],.oi 0] [.blk 220 (Hl c (Uz l) r1)] [.oi 0] [.blk 220 (Hl ⟨c.now,ws,c.ev⟩ (Uz l') (IU l' c.now))]:=by
 have hB:=pK hl hn;have cn:=QZ (T:=220) (c:=c) (r0:=Uz l') (r1:=r1) hc.n;have cb:=IS (c:=c) (r1:=r1) hl hn hc.n;have cg:=YX (T:=220) (r0:=Uz l') (r1:=IU l' c.now) hc hc.n (Iz hc.n) (Yd 0) (hB.p _ hc.n) (hB.n _ hc.n) h;refine Fu func397 rfl ?_;exact Ui [] [0] [.f rfl,.c [0] cn,.c [0] cb,.c [0] cg] rfl
theorem Qtr{c:Cr}{l s:List Pt}(hs:s.length<=1000000):U5 prog 81 [.one (.ow 0 0)] [.blk 220 (Hl c (Uz l) (Uz s))] [.one (ids (s.map (·.id)))] [.blk 220 (Hl c (Uz l) (Uz s))]:=by
 have hcl:=G0 s;refine Fu func81 rfl ?_;refine Ue [.o 3 3 1] rfl ?_;refine Uj (S:=Nat) 2 (λL1 i=>(11,.v (.oi i))::(3,.v (.one (.orow 1 1 none)))::L1) (λi=>[.blk 220 (Hl c (Uz l) (Uz s)),.row false 3 1 (((s.take i).map (·.id)).map λ(z:Int)=>[LV.int .i64 z])]) (λi=>s.length-i) (λi=>i<=s.length) 0 (Qh _) rfl rfl λi hi=>?_
 by_cases hlt:i<s.length
 ·obtain⟨p,hp⟩:=gxE (l:=s) (i:=i) hlt;have hg:(((s.take (i+1)).map (·.id)).map λ(z:Int)=>[LV.int .i64 z])=(((s.take i).map (·.id)).map λ(z:Int)=>[LV.int .i64 z])++[[.int .i64 p.id]]:=by
   rw[Z2,hp];simp
  refine Uf [.t (by simp[hcl];omega),.x (S4 hp),.s (sz:=1) (l:=[[.int .i64 p.id]]) (λc hc=>by rw[Qk.1 hc];rfl)] rfl ?_;exact rd (i+1) (by omega) hlt (by rw[hg];rfl)
 ·obtain rfl:i=s.length:=by omega
  rw[Q6];exact Ui [1] [0] [.f (by simp[hcl])] rfl
theorem Qts{lx ly:Ut}{px py:Un}{x y:LV}{d id:Int}{c:Cr}{l:List Pt}{r1:Ut}{ws:List Wt}(hx:IsInts lx px)(hy:IsInts ly py)(hd:Gb x y d)(hk:Cs 4294967294 1073741824 (Crv.mk px py d))(hll:l.length<=900)
 (he:WG l ⟨Crv.norm (Crv.mk px py d),id⟩=0) (hc:CrOk c) (hl:∀p∈put l ⟨Crv.norm (Crv.mk px py d),id⟩,Sc p.c) (hn:(put l ⟨Crv.norm (Crv.mk px py d),id⟩).length≤1000) (h:Tj c.l c.now (Fv (ZB (put l ⟨Crv.norm (Crv.mk px py d),id⟩) c.now))=some ws) :
 U5 prog 393 [.one (.ow 0 0),.agg [.row lx,.row ly,x,y,.int .i64 id]] [.blk 220 (Hl c (Uz l) r1)] [.oi 0] [.blk 220 (Hl ⟨c.now,ws,c.ev⟩ (Uz (put l ⟨Crv.norm (Crv.mk px py d),id⟩)) (IU (put l ⟨Crv.norm (Crv.mk px py d),id⟩) c.now))]:=by
 have cp:=wR (l:=l) (id:=id) hx hy hd hk (by omega);rw[if_pos he,he]at cp;have cw:=xM (l:=l) (r1:=r1) hc hl hn h;refine Fu func393 rfl ?_;obtain⟨b,l',rfl,rfl,_⟩:=hd;exact Ui [] [0] [.k cp,.c [0] cw] rfl
theorem Qtq{t:Rat}{l:List Pt}{K:Nat}{c c':Cr}{r1 r1':Ut}{n:Int}(ht:Qs 1640000 t)(hl:∀p∈l,Sc p.c)(hn:l.length≤1000)(hc:CrOk c)(hev:0≤c.ev/\c.ev+K≤1000000000000000000)(h:Fl c.now t≤0)(hg:WI (ZB l) (IU l) t K c r1 0=some (c',r1',n)) :
 U5 prog 388 [.one (.ow 0 0),.agg (rl t)] [.blk 220 (Hl c (Uz l) r1)] [.oi n,.oi 0] [.blk 220 (Hl c' (Uz l) r1')]:=by
 have cg:=Qxq (T:=220) (r0:=Uz l) ht (pK hl hn) (λa c r1 ha _=>IS (c:=c) (r1:=r1) hl hn ha) hc hev h hg;refine Fu func388 rfl ?_;exact Ui [] [0] [.k (Ns (ht.mono (by decide))),.c [0] cg] rfl
theorem Qfb{c:Cr}{r0 r1:Ut}:U5 prog 63 [.one (.ow 0 0)] [.blk 220 (Hl c r0 r1)] [.one (.ow 1 0)] [.blk 220 (Hl c r0 r1),.blk 220 (Hl c r0 r1)]:=by
 refine Fu func63 rfl ?_;exact Ui [] [0,1] [] rfl
abbrev idl(l:Un):Ut:=l.map λ(z:Int)=>[.int .i64 z]
theorem MB{l:Un}{i:Nat}{z:Int}(h:l[i]? = some z):(idl l)[i]? = some [.int .i64 z]:=G6 h
theorem Qfd{a b:Un}(ha:a.length<=1000000)(hb:b.length<=1000000):Uk 40 [.one (ids a),.one (ids b)] [.one (.bool (decide (a=b)))]:=by
 show Uk 40 [.one (.row (idl a)),.one (.row (idl b))] _;have la:(idl a).length=a.length:=by simp
 have lb:(idl b).length=b.length:=by simp
 refine Fu func40 rfl ?_;by_cases hl:a.length=b.length
 ·refine Ue [.f (by simp;omega)] rfl ?_;refine Uj (S:=Nat) 0 (λL1 i=>(5,.v (.oi i))::L1) (λ_=>[]) (λi=>a.length-i) (λi=>i<=a.length/\a.take i=b.take i) 0 ⟨Qh _,rfl⟩ rfl rfl λi ⟨hi,he⟩=>?_
  by_cases hlt:i<a.length
  ·obtain⟨x,hx⟩:=gxE (l:=a) (i:=i) hlt;obtain⟨y,hy⟩:=gxE (l:=b) (i:=i) (by omega);by_cases e:x=y
   ·refine Uf [.t (by simp;omega),.x (MB hx),.x (MB hy),.f (by simpa using e)] rfl ?_;exact rd (i+1) (by omega) ⟨hlt,by rw[Z2,Z2,hx,hy,he,e]⟩ rfl
   ·have hne:a≠b:=λh=>by rw[h,hy]at hx;injection hx with hx;exact e hx.symm
    exact Ug [.t (by simp;omega),.x (MB hx),.x (MB hy),.t (by simpa using e)] rfl (by simp[hne]) trivial
  ·obtain rfl:i=a.length:=by omega
   have hab:a=b:=by rw[Q6]at he;rw[he,hl,Q6]
   exact Ug [.f (by simp)] rfl (by simp[hab]) trivial
 ·have hne:a≠b:=λh=>hl (by rw[h])
  exact Ug [.t (by simp;omega)] rfl (by simp[hne]) trivial
def Pd(v n:Int):Int:=if n<1 then 0 else v.emod n
theorem Qdk{v n:Int}(h:0<n):(if v.tmod n<0 then v.tmod n+n else v.tmod n)=v % n:=by
 have h3:=Ye v (show n≠0 by omega);have h4:=Jt v h;have h1:=Int.tmod_eq_emod (a:=v) (b:=n);have hn:((n.natAbs:Nat):Int)=n:=by omega
 split at h1
 ·rw[h1];simp;omega
 ·rename_i hc;rw[h1,hn];have:v % n≠0:=λe=>hc (.inr (Vf e))
  rw[if_pos (by omega)];omega
theorem Cc{v n:Int}(hv:-9223372036854775808<=v/\v<=9223372036854775807)(hn:n<=1000000000):Uk 16 [.oi v,.oi n] [.oi (Pd v n)]:=by
 unfold Pd;by_cases h:n<1
 ·rw[if_pos h];exact Uh func16 rfl [.t (by simpa using h)] rfl
 ·rw[if_neg h];have e:=Qdk (v:=v) (n:=n) (by omega);have h3:=Ye v (show n≠0 by omega);have h4:=Jt v (show 0<n by omega);show Uk 16 [.oi v,.oi n] [.oi (v % n)];by_cases h0:v.tmod n<0
  ·rw[if_pos h0]at e;have b:-n<=v.tmod n:=by omega
   exact Uh func16 rfl [.f (by simpa using h),.t (by simpa using h0)] rfl (by rw[e]) (by simp[U0];omega)
  ·rw[if_neg h0]at e;exact Uh func16 rfl [.f (by simpa using h),.f (by simpa using h0)] rfl (by rw[e]) (by simp[U0];omega)
end Orr
namespace Orr
open Go Go.Proofs Tryz Orq
theorem tP{x y:Int}(hx:-9223372036854775808<=x/\x<=9223372036854775807)(hy:-9223372036854775808<=y/\y<=9223372036854775807):Sc (O2 x y):=⟨Crv.nml _,((uK hx hy).norm (by decide)).mono (by decide) (by decide)⟩
theorem Sc.pt{p:Pt}(h:Sc p.c):Qaw 4294967294 1073741824 p:=⟨h.n,h.c.mono (by decide) (by decide)⟩
end Orr
namespace Orr
open Go Go.Proofs Tryz Orq
set_option maxRecDepth 10000
def pV(l:List Pt)(a:Tm):List Ct:=Lh (Fp a) l
abbrev brP(l:List Pt)(a:Tm):Ut:=Uz (ZW (Fp a) l)
theorem lQ{l:List Pt}{a:Tm}:∀x∈pV l a,x.p∈AP l:=λx hx=>by
 match l,hx with
 |
  u::v::l',hx =>
  unfold pV at hx;simp only[Lh]at hx;obtain⟨h3,h4⟩:=Ld (Fp a) (l:=u::v::l') (Gq (u::v::l')) (u,v) ⟨by simp,by simp⟩ (Sy _ _);obtain⟨m,hm,rfl⟩:=IA hx;obtain⟨h1,h2⟩:=Sy _ _ m hm;rw[LF];exact NN h3 h4 h1 h2
theorem Qd9{l:List Pt}(hl:∀p∈l,Sc p.c)(hn:l.length≤10):BuildOk (pV l) :=
 ⟨λ_ _ x hx=>UQ hl _ (lQ x hx),λa _=>by
  have:=qD (Fp a) l;have:l.length*l.length<=10*10:=Zc hn hn;show(Lh (Fp a) l).length<=1000;omega⟩
def Qxk(l:List Pt)(a:Tm):Cr:=⟨a,(Fv (pV l a)).map fresh,0⟩
theorem Qm3{t:Rat}{l:List Pt}{K:Nat}{c c':Cr}{r1 r1':Ut}{n:Int}(ht:Qs 1640000 t)(hl:∀p∈l,Sc p.c)(hn:l.length≤10)(hc:CrOk c)(hev:0≤c.ev/\c.ev+K≤1000000000000000000)(h:Fl c.now t≤0)(hg:WI (pV l) (brP l) t K c r1 0=some (c',r1',n)) :
 U5 prog 427 [.one (.ow 0 0),.agg (rl t)] [.blk 227 (Hl c (Uz l) r1)] [.oi n,.oi 0] [.blk 227 (Hl c' (Uz l) r1')]:=by
 have cg:=Qti (T:=227) (r0:=Uz l) ht (Qd9 hl hn) (λa c r1 ha _=>IT (c:=c) (r1:=r1) hl hn ha) hc hev h hg;refine Fu func427 rfl ?_;exact Ui [] [0] [.k (Ns (ht.mono (by decide))),.c [0] cg] rfl
theorem lH{c:Cr}{r0:Ut}{a b:Pt}:U5 prog 85 [.one (.ow 0 0)] [.blk 227 (Hl c r0 (Uz [a,b]))] [.oi a.id,.oi b.id,.one (.bool true)] [.blk 227 (Hl c r0 (Uz [a,b]))]:=by
 refine Fu func85 rfl ?_;exact Ui [] [0] [.f rfl,.x (l:=Uz [a,b]) (i:=0) (xs:=Fa a) rfl,.x (l:=Uz [a,b]) (i:=1) (xs:=Fa b) rfl] rfl
theorem wH{c:Cr}{r0:Ut}:U5 prog 85 [.one (.ow 0 0)] [.blk 227 (Hl c r0 [])] [.oi 0,.oi 0,.one (.bool false)] [.blk 227 (Hl c r0 [])]:=by
 refine Fu func85 rfl ?_;exact Ui [] [0] [.t rfl] rfl
end Orr
namespace Orr
open Go
def PP(q:Un->Int)(a b:Pt):Pt×Pt:=if B9 q a b=true then(a,b)else(b,a)
def On(q:Un->Int):Nat->List Pt->List Pt×List (Pt×Pt)
 | 0,l=>(l,[])
 |
  k+1,l=>if l.length<2 then(l,[])else
  match (On q k (l.take ((l.length+1) / 2))).1,(On q k (l.drop ((l.length+1) / 2))).1 with
  |a::_,b::_=>([(PP q a b).1],(On q k (l.take ((l.length+1) / 2))).2++(On q k (l.drop ((l.length+1) / 2))).2++[PP q a b])
  |_,_=>([],[])
theorem Dl(q:Un->Int):∀(k:Nat) (l:List Pt),l.length<=k->On q k l=On q l.length l
 | 0,l,h=>by rw[show l.length=0 by omega]
 |
  k+1,l,h=>by
  cases hl:l.length with
  |zero=>simp[On,hl]
  |
   succ m =>
   simp only[On];by_cases h2:l.length<2
   ·rw[if_pos h2,if_pos h2]
   ·rw[if_neg h2,if_neg h2];have h3:(l.take ((l.length+1) / 2)).length<=m:=by rw[Qq];omega
    have h4:(l.drop ((l.length+1) / 2)).length<=m:=by rw[Q7];omega
    rw[Dl q k (l.take ((l.length+1) / 2)) (by omega),Dl q k (l.drop ((l.length+1) / 2)) (by omega),Dl q m (l.take ((l.length+1) / 2)) h3,Dl q m (l.drop ((l.length+1) / 2)) h4]
termination_by k=>k
def Bh(q:Un->Int)(l:List Pt):List Pt×List (Pt×Pt):=On q l.length l
theorem Cn(q:Un->Int){l:List Pt}(h:l.length<2):Bh q l=(l,[]):=by
 unfold Bh;cases hl:l.length with
 |zero=>rfl
 |succ m=>simp only[On];rw[if_pos h]
theorem Oo(q:Un->Int){l:List Pt}(h:¬l.length<2){a b:Pt}(ha:(Bh q (l.take ((l.length+1) / 2))).1=[a])(hb:(Bh q (l.drop ((l.length+1) / 2))).1=[b]) :
 Bh q l=([(PP q a b).1],(Bh q (l.take ((l.length+1) / 2))).2++(Bh q (l.drop ((l.length+1) / 2))).2++[PP q a b]):=by
 unfold Bh at ha hb ⊢;obtain⟨m,hm⟩:∃m,l.length=m+1:=⟨l.length-1,by omega⟩;have h3:(l.take ((l.length+1) / 2)).length<=m:=by rw[Qq];omega
 have h4:(l.drop ((l.length+1) / 2)).length<=m:=by rw[Q7];omega
 rw[<-Dl q m _ h3]at ha ⊢;rw[<-Dl q m _ h4]at hb ⊢;rw[show On q l.length l=On q (m+1) l by rw[hm]];simp only[On];rw[if_neg h,ha,hb]
theorem Nh(q:Un->Int):∀(k:Nat) (l:List Pt),l.length≤k->0<l.length->∃a,(Bh q l).1=[a]/\a∈l/\∀m∈(Bh q l).2,m.1∈l/\m.2∈l
 | 0,l,h,h0=>by omega
 |
  k+1,l,h,h0=>by
  by_cases h2:l.length<2
  ·rw[Cn q h2]
   match l,h0,h2 with
   | [a],_,_=>exact⟨a,rfl,by simp,by simp⟩
  ·obtain⟨a,ha,hal,ham⟩:=Nh q k (l.take ((l.length+1) / 2)) (by rw[Qq];omega) (by rw[Qq];omega);obtain⟨b,hb,hbl,hbm⟩:=Nh q k (l.drop ((l.length+1) / 2)) (by rw[Q7];omega) (by rw[Q7];omega);rw[Oo q h2 ha hb];have hd:(PP q a b).1∈l/\(PP q a b).2∈l:=by
    unfold PP;split
    ·exact⟨Qn hal,Qz hbl⟩
    ·exact⟨Qz hbl,Qn hal⟩
   refine⟨_,rfl,hd.1,λm hm=>?_⟩;rcases Qr.1 hm with hm|hm
   ·rcases Qr.1 hm with hm|hm
    ·exact⟨Qn (ham m hm).1,Qn (ham m hm).2⟩
    ·exact⟨Qz (hbm m hm).1,Qz (hbm m hm).2⟩
   ·rw[Qk.1 hm];exact hd
theorem Dm(q:Un->Int):∀(k:Nat) (l:List Pt),l.length<=k->(Bh q l).2.length<=l.length-1
 | 0,l,h=>by rw[Cn q (by omega)];simp
 |
  k+1,l,h=>by
  by_cases h2:l.length<2
  ·rw[Cn q h2];simp
  ·obtain⟨a,ha,_⟩:=Nh q l.length (l.take ((l.length+1) / 2)) (by rw[Qq];omega) (by rw[Qq];omega);obtain⟨b,hb,_⟩:=Nh q l.length (l.drop ((l.length+1) / 2)) (by rw[Q7];omega) (by rw[Q7];omega);rw[Oo q h2 ha hb];have h3:=Dm q k (l.take ((l.length+1) / 2)) (by rw[Qq];omega);have h4:=Dm q k (l.drop ((l.length+1) / 2)) (by rw[Q7];omega);rw[Qq]at h3;rw[Q7]at h4;simp only[Qy,Vr];omega
abbrev Qcu(m:Pt×Pt):Us:=[pl m.1.c.x,pl m.1.c.y,sg m.1.c.d,mg m.1.c.d,.int .i64 m.1.id,pl m.2.c.x,pl m.2.c.y,sg m.2.c.d,mg m.2.c.d,.int .i64 m.2.id]
end Orr
namespace Orq
open Orr Go
def FW(q:Rat)(x y:Pt):Prop:=py y q<py x q\/py y q=py x q/\(px y q<px x q\/px y q=px x q/\x.id<y.id)
theorem Qih(q:Rat)(x:Pt):¬FW q x x:=by unfold FW;grind
theorem Qo0(q:Rat)(x y z:Pt)(h:FW q x y)(h':FW q y z):FW q x z:=by unfold FW at *;grind
theorem Qii{q:Rat}{x y:Pt}(h:x.id≠y.id)(h':¬FW q x y):FW q y x:=by unfold FW at *;grind
theorem Qa0{a:Tm}(ha:Va a){x y:Pt}(hx:Sc x.c)(hy:Sc y.c){q:Rat}(h1:Hi (Fp a) (Gk y.c x.c)=Fe (U7 (Gk y.c x.c) q))(h2:Hi (Fp a) (Gl y.c x.c)=Fe (U7 (Gl y.c x.c) q)):B9 (Fp a) x y=true↔FW q x y:=by
 rw[TF hy hx]at h1;rw[TG hy hx]at h2;have d1:=(M6 hy hx).dp;have d2:=(M7 hy hx).dp;unfold B9;simp only[Lv];have t1:=Fy (py x q-py y q);have t2:=Fy (px x q-px y q);by_cases e1:(Gk y.c x.c).length=0
 ·rw[if_neg (by omega)];rw[Qj e1,XU]at h1;have:py x q=py y q:=by grind
  by_cases e2:(Gl y.c x.c).length=0
  ·rw[if_neg (by omega)];rw[Qj e2,XU]at h2;unfold FW;simp only[decide_eq_true_eq];grind
  ·rw[if_pos (by omega)];have:=(Ej ha d2 e2).2;unfold FW;simp only[decide_eq_true_eq];grind
 ·rw[if_pos (by omega)];have:=(Ej ha d1 e1).2;unfold FW;simp only[decide_eq_true_eq];grind
theorem wJ{l:List Pt}(hl:∀p∈l,Sc p.c){a:Tm}(ha:Va a):∃y,Fl a y=-1/\∀q,Fl a q=-1->q≤y->∀u∈l,∀v∈l,(B9 (Fp a) u v=true↔FW q u v):=by
 obtain⟨y,y1,y2⟩:=XF ha (Ef l) λp hp=>(O7 hl p hp).dp
 refine⟨y,y1,λq q1 q2 u hu v hv=>?_⟩;have h:=y2 q q1 q2;exact Qa0 ha (hl u hu) (hl v hv) (h _ (Sj hv hu).2) (h _ (Sj hv hu).1)
theorem bZ{a b:Tm}{x y:Pt}(h:Hi (Fp b) (An x y)=Hi (Fp a) (An x y)):B9 (Fp b) x y=B9 (Fp a) x y:=by
 unfold An Lq at h;unfold B9;simp only[Lv];by_cases e1:0<(Gk y.c x.c).length
 ·rw[if_pos e1,if_pos e1];rw[if_pos e1]at h;rw[h]
 ·rw[if_neg e1,if_neg e1];rw[if_neg e1]at h;rw[h]
theorem Qh2{l:List Pt}{k:Nat}(h2:¬l.length<2)(hk:l.length<=k+1):(l.take ((l.length+1) / 2)).length<=k/\(l.drop ((l.length+1) / 2)).length<=k/\0<(l.take ((l.length+1) / 2)).length/\0<(l.drop ((l.length+1) / 2)).length:=by
 rw[Qq,Q7];omega
theorem RO{sa sb:Un->Int}:∀(k:Nat) (l:List Pt),l.length≤k->l.Pairwise (λx y=>x.id≠y.id)->(∀u∈l,∀v∈l,u.id≠v.id->B9 sa u v=false->B9 sa v u=true)->(∀u∈l,∀v∈l,B9 sb v u=true->B9 sb u v=false)->(∀m∈(Bh sa l).2,B9 sb m.1 m.2=B9 sa m.1 m.2)->Bh sb l=Bh sa l
 | 0,l,hk,_,_,_,_=>by rw[Cn _ (by omega),Cn _ (by omega)]
 |
  k+1,l,hk,hd,h1,h2,hm=>by
  by_cases hs:l.length<2
  ·rw[Cn _ hs,Cn _ hs]
  ·obtain⟨k1,k2,k3,k4⟩:=Qh2 hs hk;obtain⟨a,ha,hal,_⟩:=Nh sa k (l.take ((l.length+1) / 2)) k1 k3;obtain⟨b,hb,hbl,_⟩:=Nh sa k (l.drop ((l.length+1) / 2)) k2 k4;have hpl:=Oo sa hs ha hb;rw[hpl]at hm;have hd':=hd;rw[<-Zh ((l.length+1) / 2) l]at hd';obtain⟨d1,d2,d3⟩:=Xv.1 hd';have i1:=RO k _ k1 d1 (λu hu v hv=>h1 u (Qn hu) v (Qn hv)) (λu hu v hv=>h2 u (Qn hu) v (Qn hv)) λm hm'=>hm m (by simp[hm'])
   have i2:=RO k _ k2 d2 (λu hu v hv=>h1 u (Qz hu) v (Qz hv)) (λu hu v hv=>h2 u (Qz hu) v (Qz hv)) λm hm'=>hm m (by simp[hm'])
   have hal':=Qn hal;have hbl':=Qz hbl;have e:PP sb a b=PP sa a b:=by
    have hmem:=hm (PP sa a b) (by simp);unfold PP at hmem ⊢;by_cases h:B9 sa a b=true
    ·rw[if_pos h]at hmem ⊢;rw[if_pos (hmem.trans h)]
    ·rw[if_neg h]at hmem ⊢;have h:B9 sa a b=false:=by simpa using h
     have:=h2 a hal' b hbl' (hmem.trans (h1 a hal' b hbl' (d3 a hal b hbl) h));rw[if_neg (by simp[this])]
   rw[hpl,Oo sb hs (by rw[i1];exact ha) (by rw[i2];exact hb),i1,i2,e]
end Orq
namespace Orr
open Orq Go
def IW(l:List Pt)(a:Tm):List Ct:=(Bh (Fp a) l).2.map λm=>Dx (Fp a) m.1 m.2
def pN(l:List Pt)(a:Tm):Ut×Ut:=((Bh (Fp a) l).1.map Fa,(Bh (Fp a) l).2.map Qcu)
theorem JK{sg:Un->Int}{l:List Pt}:∀m∈(Bh sg l).2,m.1∈l/\m.2∈l:=λm hm=>by
 by_cases h:0<l.length
 ·obtain⟨_,_,_,h3⟩:=Nh sg l.length l (Ql _) h;exact h3 m hm
 ·rw[Cn _ (by omega)]at hm;cases hm
theorem Qs4{l:List Pt}(hl:∀p∈l,Sc p.c){a:Tm}:∀x∈IW l a,Cp x.p:=λx hx=>by
 obtain⟨m,hm,rfl⟩:=Za.1 hx;obtain⟨h1,h2⟩:=JK m hm;exact YG (M6 (hl _ h2) (hl _ h1)) (M7 (hl _ h2) (hl _ h1))
theorem pW{l:List Pt}(hl:∀p∈l,Sc p.c)(hn:l.length≤1000):BuildOk (IW l) :=
 ⟨λa _=>Qs4 hl,λa _=>by
  unfold IW;rw[List.length_map];have:=Dm (Fp a) l.length l (Ql _);omega⟩
theorem Qmi{l:List Pt}{a:Tm}:∀x∈IW l a,x.p∈Ef l:=λx hx=>by
 obtain⟨m,hm,rfl⟩:=Za.1 hx;obtain⟨h1,h2⟩:=JK m hm;show An m.1 m.2∈Ef l;unfold An Lq;split
 ·exact(Sj h2 h1).2
 ·exact(Sj h2 h1).1
theorem Qy6{l:List Pt}(hl:∀p∈l,Sc p.c)(hn:l.length≤1000)(hd:l.Pairwise λx y=>x.id≠y.id):Stab (IW l) (pN l):=by
 refine⟨pW hl hn,⟨Ef l,O7 hl,λa _ x hx=>?_⟩,λa b ha hb h=>?_⟩
 ·obtain⟨m,hm,rfl⟩:=Za.1 hx;obtain⟨h1,h2⟩:=JK m hm;show An m.1 m.2∈Ef l;unfold An Lq;split
  ·exact(Sj h2 h1).2
  ·exact(Sj h2 h1).1
 ·obtain⟨y,y1,y2⟩:=wJ hl ha;obtain⟨z,z1,z2⟩:=wJ hl hb;have ga:=y2 y y1 Qp;have gb:=z2 z z1 Qp;have e:Bh (Fp b) l=Bh (Fp a) l:=RO l.length l (Ql _) hd (λu hu v hv hne hf=>(ga v hv u hu).2 (Qii hne λh=>by
   rw[(ga u hu v hv).2 h]at hf;cases hf)) (λu hu v hv ht=>by
   cases hb':B9 (Fp b) u v
   ·rfl
   ·exact absurd (Qo0 z u v u ((gb u hu v hv).1 hb') ((gb v hv u hu).1 ht)) (Qih z u)) λm hm=>bZ (h (Dx (Fp a) m.1 m.2) (Za.2 ⟨m,hm,rfl⟩))
  refine⟨?_,by unfold pN;rw[e]⟩;unfold IW;rw[e];refine Xq λm hm=>?_
  have:=h (Dx (Fp a) m.1 m.2) (Za.2 ⟨m,hm,rfl⟩);unfold Dx;rw[show Hi (Fp b) (An m.1 m.2)=Hi (Fp a) (An m.1 m.2) from this]
end Orr
namespace Orq
open Orr Go
def ZV(a:Crv):Uo:=[Ft a.x a.d,Ft a.y a.d,A0 (Gj a.x a.x) (Gj a.y a.y),[a.d*a.d]]
def uV(a b c d:Crv):List Uo:=[ZV a,ZV b,ZV c,ZV d]
def VO(a b c d:Crv):Un:=Lj 4 (uV a b c d)
theorem FC{s:Nat}{k:Crv}(hn:ZM k)(hc:Cs s 3 k):(∀p∈ZV k,Fc p/\Bd (s+s+3) p)/\∀(j:Nat) (p:Un),(ZV k)[j]? = some p->p.length≤[2,2,4,0].getD j 0+1:=by
 have l1:=Fw k.x k.d;have l2:=Fw k.y k.d;have l3:=Tv k.x k.x;have l4:=Tv k.y k.y;have l5:=Oa (Gj k.x k.x) (Gj k.y k.y);have kx:=hc.lx;have ky:=hc.ly;have bx:Bd (s+s+2) (Gj k.x k.x):=Pg hc.x hc.x (by omega);have by_:Bd (s+s+2) (Gj k.y k.y):=Pg hc.y hc.y (by omega);have hd:=hn.2.2.1;have hd0:k.d*k.d≠0:=λe=>by rcases Yf.1 e with e|e <;> omega
 have td:Fc [k.d*k.d]:=by unfold Fc;simp[trim,hd0]
 refine⟨λp hp=>?_,λj p hp=>?_⟩
 ·simp only[ZV,Qm,Jm,or_false]at hp;rcases hp with rfl|rfl|rfl|rfl
  ·exact⟨Fx _ _,U4 (Ge hc.x hc.d) (by omega)⟩
  ·exact⟨Fx _ _,U4 (Ge hc.y hc.d) (by omega)⟩
  ·exact⟨Fx _ _,U4 (YQ bx by_) (by omega)⟩
  ·refine⟨td,λz hz=>?_⟩;rw[Qk.1 hz];have:=Fz k.d k.d;have:=hc.d;omega
 ·match j,hp with
  | 0,hp=>injection hp with hp;subst hp;show _<=3;omega
  | 1,hp=>injection hp with hp;subst hp;show _<=3;omega
  | 2,hp=>injection hp with hp;subst hp;show _<=5;omega
  | 3,hp=>injection hp with hp;subst hp;exact Ql _
  |j+4,hp=>simp[ZV]at hp
theorem tI{s:Nat}{a b c d:Crv}(na:ZM a)(nb:ZM b)(nc:ZM c)(nd:ZM d)(ca:Cs s 3 a)(cb:Cs s 3 b)(cc:Cs s 3 c)(cd:Cs s 3 d):Sq (s+s+3) [2,2,4,0] 4 4 (uV a b c d):=by
 have hr:∀r∈uV a b c d,∃k:Crv,ZM k/\Cs s 3 k/\r=ZV k:=λr hr=>by
  simp only[uV,Qm,Jm,or_false]at hr;rcases hr with rfl|rfl|rfl|rfl
  ·exact⟨a,na,ca,rfl⟩
  ·exact⟨b,nb,cb,rfl⟩
  ·exact⟨c,nc,cc,rfl⟩
  ·exact⟨d,nd,cd,rfl⟩
 refine⟨rfl,λr h=>?_,λr h p hp=>?_,λr h p hp=>?_,λr h j p hp=>?_⟩
 all_goals obtain⟨k,kn,kc,rfl⟩:=hr r h
 ·rfl
 ·exact((FC kn kc).1 p hp).1
 ·exact((FC kn kc).1 p hp).2
 ·exact(FC kn kc).2 j p hp
theorem eD{a b c d:Crv}(ha:Sc a)(hb:Sc b)(hc:Sc c)(hd:Sc d):Cp (VO a b c d):=by
 obtain⟨h1,h2,h3⟩:=MO 4 [2,2,4,0] (uV a b c d) (by decide) rfl (by decide) (tI ha.n hb.n hc.n hd.n ha.c hb.c hc.c hd.c);exact⟨h1,Qa h3 (by decide),U4 h2 (by decide)⟩
def qH(sg:Un->Int)(a b c d:Pt):Ct:=⟨4,a.id,b.id,c.id,d.id,VO a.c b.c c.c d.c,Hi sg (VO a.c b.c c.c d.c)⟩
abbrev P3:=Pt×(Pt×Pt)
abbrev P4:=Pt×P3
def Lo:Nat->List Pt->List P3
 | 0,_=>[]
 |_+1,[]=>[]
 |k+1,x::l=>(Gq l).map (λm=>(x,m))++Lo k l
def Rr(l:List Pt):List P3:=Lo l.length l
def Er:Nat->List Pt->List P4
 | 0,_=>[]
 |_+1,[]=>[]
 |k+1,x::l=>(Rr l).map (λm=>(x,m))++Er k l
def Oy(l:List Pt):List P4:=Er l.length l
theorem VK:∀(l:List Pt) (i:Nat) (x:Pt),l[i]? = some x->Lo (i+1) l=Lo i l++(Gq (l.drop (i+1))).map (λm=>(x,m))
 | [],i,x,h=>by simp at h
 |y::l,0,x,h=>by simp at h;subst h;simp[Lo]
 |
  y::l,i+1,x,h=>by
  have ih:=VK l i x (by simpa using h);show(Gq l).map _++Lo (i+1) l=((Gq l).map _++Lo i l)++_;rw[ih,Zd];rfl
theorem TZ:∀(l:List Pt) (i:Nat) (x:Pt),l[i]? = some x->Er (i+1) l=Er i l++(Rr (l.drop (i+1))).map (λm=>(x,m))
 | [],i,x,h=>by simp at h
 |y::l,0,x,h=>by simp at h;subst h;simp[Er]
 |
  y::l,i+1,x,h=>by
  have ih:=TZ l i x (by simpa using h);show(Rr l).map _++Er (i+1) l=((Rr l).map _++Er i l)++_;rw[ih,Zd];rfl
theorem AQ:∀(k:Nat) (l:List Pt),∀m∈Lo k l,m.1∈l/\m.2.1∈l/\m.2.2∈l
 | 0,l,m,h=>by simp[Lo]at h
 |k+1,[],m,h=>by simp[Lo]at h
 |
  k+1,x::l,m,h=>by
  rcases Qr.1 h with h|h
  ·obtain⟨y,hy,rfl⟩:=Za.1 h;obtain⟨h1,h2⟩:=Sy _ _ y hy;exact⟨Qx ..,Qg _ h1,Qg _ h2⟩
  ·obtain⟨h1,h2,h3⟩:=AQ k l m h;exact⟨Qg _ h1,Qg _ h2,Qg _ h3⟩
theorem rO:∀(k:Nat) (l:List Pt),∀m∈Er k l,m.1∈l/\m.2.1∈l/\m.2.2.1∈l/\m.2.2.2∈l
 | 0,l,m,h=>by simp[Er]at h
 |k+1,[],m,h=>by simp[Er]at h
 |
  k+1,x::l,m,h=>by
  rcases Qr.1 h with h|h
  ·obtain⟨y,hy,rfl⟩:=Za.1 h;obtain⟨h1,h2,h3⟩:=AQ _ _ y hy;exact⟨Qx ..,Qg _ h1,Qg _ h2,Qg _ h3⟩
  ·obtain⟨h1,h2,h3,h4⟩:=rO k l m h;exact⟨Qg _ h1,Qg _ h2,Qg _ h3,Qg _ h4⟩
theorem VZ{l:List Pt}(h:l.length<=6):(Rr l).length<=20/\(Oy l).length<=15:=by
 match l,h with
 | [],_=>exact⟨Zf rfl,Zf rfl⟩
 | [_],_=>exact⟨Zf rfl,Zf rfl⟩
 | [_,_],_=>exact⟨Zf rfl,Zf rfl⟩
 | [_,_,_],_=>exact⟨Zf rfl,Zf rfl⟩
 | [_,_,_,_],_=>exact⟨Zf rfl,Zf rfl⟩
 | [_,_,_,_,_],_=>exact⟨Zf rfl,Zf rfl⟩
 | [_,_,_,_,_,_],_=>exact⟨Zf rfl,Zf rfl⟩
 |_::_::_::_::_::_::_::_,h=>simp at h
abbrev Nw:=List (Un×LV)
def PC(sg:Un->Int)(m:P3):Ct:=Lb sg m.1 m.2.1 m.2.2
def HN(sg:Un->Int)(m:P4):Ct:=qH sg m.1 m.2.1 m.2.2.1 m.2.2.2
def nM(m:P3):Un:=[m.1.id,m.2.1.id,m.2.2.id]
def Qyg(m:P4):Un:=[m.1.id,m.2.1.id,m.2.2.1.id,m.2.2.2.id]
def Aw(V:List (Un×Int)):Nw:=V.foldl (λM e=>Ly M e.1 (.int .i64 e.2)) []
def ZT(sg:Un->Int)(ps:List P3):List (Un×Int):=ps.map λm=>(nM m,(PC sg m).want)
def VM(sg:Un->Int)(ps:List P4):List (Un×Int):=ps.map λm=>(Qyg m,(HN sg m).want)
theorem dS(sg:Un->Int)(ps:List P3)(m:P3):Aw (ZT sg (ps++[m]))=Ly (Aw (ZT sg ps)) (nM m) (.int .i64 (PC sg m).want):=by simp[Aw,ZT]
def I5(T:Nw)(s:Int)(n:Un)(F:Nw)(skip:Nat):Nw:=if ZH T (n.eraseIdx skip)*(if (3-skip) % 2=1 then -s else s)>0 then Ly F (n.eraseIdx skip) (.bool true)else F
def OF(T:Nw)(s:Int)(n:Un)(F:Nw):Nw:=I5 T s n (I5 T s n (I5 T s n (I5 T s n F 0) 1) 2) 3
def I8(T:Nw)(V:List (Un×Int)):Nw:=V.foldl (λF e=>OF T e.2 e.1 F) []
theorem nW(sg:Un->Int)(T:Nw)(ps:List P4)(m:P4):I8 T (VM sg (ps++[m]))=OF T (HN sg m).want (Qyg m) (I8 T (VM sg ps)):=by simp[I8,VM]
def jL(T F:Nw)(m:P3):Bool:=decide (ZH T (nM m)≠0) && !(BX F (nM m))
theorem Quv{T F:Nw}{ps:List P3}{m:P3}(h:jL T F m=true):(ps++[m]).filter (jL T F)=ps.filter (jL T F)++[m]:=by simp[Vj,h]
theorem Qhh{T F:Nw}{ps:List P3}{m:P3}(h:jL T F m=false):(ps++[m]).filter (jL T F)=ps.filter (jL T F):=by simp[Vj,h]
def gV(sg:Un->Int)(l:List Pt):List Ct:=(Rr (Tn l)).map (PC sg)++(Oy (Tn l)).map (HN sg)
def qF(sg:Un->Int)(l:List Pt):List P3:=(Rr (Tn l)).filter (jL (Aw (ZT sg (Rr (Tn l)))) (I8 (Aw (ZT sg (Rr (Tn l)))) (VM sg (Oy (Tn l)))))
abbrev trL(m:P3):Us:=[.int .i64 m.1.id,.int .i64 m.2.1.id,.int .i64 m.2.2.id]
def ZQ(l:List P3):Ut:=l.map trL
theorem sW(l:List P3):(ZQ l).length=l.length:=by simp[ZQ]
theorem qG(sg:Un->Int){l:List Pt}(h:l.length<=6):(qF sg l).length<=20:=by
 have hw:=O5 l;exact Qa (Y0 _ _) (VZ (l:=Tn l) (by omega)).1
theorem Qcp(sg:Un->Int){l:List Pt}(h:l.length<=6):(gV sg l).length<=35:=by
 have hw:=O5 l;obtain⟨h1,h2⟩:=VZ (l:=Tn l) (by omega);unfold gV;rw[Qy,Q8,Q8];omega
def kG(l:List Pt)(a:Tm):List Ct:=gV (Fp a) l
abbrev pM(l:List Pt)(a:Tm):Ut:=ZQ (qF (Fp a) l)
def Qax(l:List Pt):Uo:=(Rr (Tn l)).map (λm=>Hg m.1.c m.2.1.c m.2.2.c)++(Oy (Tn l)).map λm=>VO m.1.c m.2.1.c m.2.2.1.c m.2.2.2.c
theorem xJ{l:List Pt}(hl:∀p∈l,Sc p.c):∀p∈Qax l,Cp p:=λp hp=>by
 have hw:=λ(x:Pt) (h:x∈Tn l)=>hl x (No h)
 rcases Qr.1 hp with hp|hp
 ·obtain⟨m,hm,rfl⟩:=Za.1 hp;obtain⟨h1,h2,h3⟩:=AQ _ _ m hm;exact YW (hw _ h1) (hw _ h2) (hw _ h3)
 ·obtain⟨m,hm,rfl⟩:=Za.1 hp;obtain⟨h1,h2,h3,h4⟩:=rO _ _ m hm;exact eD (hw _ h1) (hw _ h2) (hw _ h3) (hw _ h4)
theorem xK{l:List Pt}{a:Tm}:∀x∈kG l a,x.p∈Qax l:=λx hx=>by
 rcases Qr.1 hx with hx|hx
 ·obtain⟨m,hm,rfl⟩:=Za.1 hx;exact X7 _ (Za.2 ⟨m,hm,rfl⟩)
 ·obtain⟨m,hm,rfl⟩:=Za.1 hx;exact Je _ (Za.2 ⟨m,hm,rfl⟩)
theorem Qd3{l:List Pt}(h:l.length<=6):(Qax l).length<=1000000:=by
 have hw:=O5 l;obtain⟨h1,h2⟩:=VZ (l:=Tn l) (by omega);unfold Qax;rw[Qy,Q8,Q8];omega
theorem pJ{l:List Pt}(hl:∀p∈l,Sc p.c)(hn:l.length≤6):BuildOk (kG l) :=
 ⟨λ_ _ x hx=>xJ hl _ (xK x hx),λa _=>Qa (Qcp _ hn) (by decide)⟩
theorem Qy2{l:List Pt}(hl:∀p∈l,Sc p.c)(hn:l.length≤6):Stab (kG l) (pM l):=by
 refine⟨pJ hl hn,⟨Qax l,xJ hl,λa _=>xK⟩,λa b _ _ h=>?_⟩;have e1:∀m∈Rr (Tn l),PC (Fp b) m=PC (Fp a) m:=λm hm=>by
  have:=h (PC (Fp a) m) (X7 _ (Za.2 ⟨m,hm,rfl⟩));have e:Hi (Fp b) (Hg m.1.c m.2.1.c m.2.2.c)=Hi (Fp a) (Hg m.1.c m.2.1.c m.2.2.c):=this;unfold PC Lb;rw[e]
 have e2:∀m∈Oy (Tn l),HN (Fp b) m=HN (Fp a) m:=λm hm=>by
  have:=h (HN (Fp a) m) (Je _ (Za.2 ⟨m,hm,rfl⟩));have e:Hi (Fp b) (VO m.1.c m.2.1.c m.2.2.1.c m.2.2.2.c)=Hi (Fp a) (VO m.1.c m.2.1.c m.2.2.1.c m.2.2.2.c):=this;unfold HN qH;rw[e]
 have t1:ZT (Fp b) (Rr (Tn l))=ZT (Fp a) (Rr (Tn l)):=Xq λm hm=>by rw[e1 m hm]
 have t2:VM (Fp b) (Oy (Tn l))=VM (Fp a) (Oy (Tn l)):=Xq λm hm=>by rw[e2 m hm]
 constructor
 ·unfold kG gV;rw[Xq e1,Xq e2]
 ·unfold pM qF;rw[t1,t2]
def Qxi(l:List Pt)(a:Tm):Cr:=⟨a,(Fv (kG l a)).map fresh,0⟩
def kN(M:Nw):Prop:=∀k,(Ai M k).getD (.int .i64 0)=.int .i64 (ZH M k)/\-1<=ZH M k/\ZH M k<=1
def VC(M:Nw):Prop:=∀k,(Ai M k).getD (.bool false)=.bool (BX M k)
theorem OO(M:Nw)(k:Un)(x:LV)(k':Un):Ai (Ly M k x) k'=if k'=k then some x else Ai M k':=by
 induction M with
 |nil=>simp[Ly,Ai]
 |
  cons e M ih =>
  simp only[Ly];by_cases h:k=e.1
  ·rw[if_pos h];simp only[Ai];by_cases h2:k'=k
   ·rw[if_pos h2,if_pos h2]
   ·rw[if_neg h2,if_neg h2,if_neg (λe2=>h2 (e2.trans h.symm))]
  ·rw[if_neg h];simp only[Ai];by_cases h2:k'=e.1
   ·rw[if_pos h2,if_pos h2,if_neg (λe2=>h (e2.symm.trans h2))]
   ·rw[if_neg h2,if_neg h2,ih]
theorem Qh9:kN []:=λ_=>⟨rfl,show(-1:Int)<=0 by decide,show(0:Int)<=1 by decide⟩
theorem Qa1:VC []:=λ_=>rfl
theorem Qia{M:Nw}(h:kN M){k:Un}{n:Int}(hn:-1<=n/\n<=1):kN (Ly M k (.int .i64 n)):=by
 intro k';have h1:=h k';unfold ZH at h1 ⊢;rw[OO];by_cases e:k'=k
 ·rw[if_pos e];exact⟨rfl,hn.1,hn.2⟩
 ·rw[if_neg e];exact h1
theorem Qa2{M:Nw}(h:VC M){k:Un}{b:Bool}:VC (Ly M k (.bool b)):=by
 intro k';have h1:=h k';unfold BX at h1 ⊢;rw[OO];by_cases e:k'=k
 ·rw[if_pos e];rfl
 ·rw[if_neg e];exact h1
theorem A4{T F:Nw}{s:Int}{n:Un}{k:Nat}(h:VC F):VC (I5 T s n F k):=by
 unfold I5;generalize (if (3-k) % 2=1 then -s else s)=s'
 split
 ·exact Qa2 h
 ·exact h
theorem pS{T F:Nw}{s:Int}{n:Un}(h:VC F):VC (OF T s n F):=A4 (A4 (A4 (A4 h)))
theorem Qcr{x s:Int}(hx:-1<=x/\x<=1)(hs:-1<=s/\s<=1):-9223372036854775808<=x*s/\x*s<=9223372036854775807:=by
 have h:x=-1\/x=0\/x=1:=by omega
 rcases h with rfl|rfl|rfl <;> omega
structure MOk(M:List Pt):Prop where
 sc:∀p∈M,Sc p.c
 ln:M.length<=6
 so:Np M
theorem MOk.df{M:List Pt}(h:MOk M):M.Pairwise λx y=>x.id≠y.id:=h.so.imp λh e=>by omega
structure Knd(β:Type) where
 bc:List Pt->Tm->List Ct
 br:List Pt->Tm->β
 al:List Pt->List (List Int)
structure KndOk{β:Type}(k:Knd β):Prop where
 st:∀M,MOk M->Stab (k.bc M) (k.br M)
 cp:∀M,MOk M->∀p∈k.al M,Cp p
 al:∀M a,∀x∈k.bc M a,x.p∈k.al M
 ln:∀M,MOk M->(k.al M).length<=1000000
abbrev kS:Knd Ut:=⟨ZB,IU,Ef⟩
abbrev kT:Knd (Ut×Ut):=⟨IW,pN,Ef⟩
abbrev kH:Knd Ut:=⟨AU,brH,λl=>Ef l++NB l⟩
abbrev kP:Knd Ut:=⟨pV,brP,AP⟩
abbrev kD:Knd Ut:=⟨kG,pM,Qax⟩
theorem NC{l:List Pt}(h:l.length<=6):(Ef l).length<=72:=by
 rw[kO];exact Qa (Zc h (Zc h (Ql 2))) (by decide)
theorem UI{α β:Type}{f:α->List β}{n:Nat}(l:List α)(h:∀x∈l,(f x).length=n):(l.flatMap f).length=l.length*n:=by
 induction l with
 |nil=>simp
 |
  cons x l ih =>
  rw[J3,Qy,h x (by simp),ih λy hy=>h y (Qg _ hy),Q5,X3];omega
theorem Qmf(l:List Pt):(NB l).length=l.length*(l.length*l.length):=by
 unfold NB;exact UI l λx _=>UI l λy _=>by simp
theorem Qmd(l:List Pt):(AP l).length=l.length*(l.length*(l.length*l.length)):=by
 unfold AP;exact UI l λx _=>UI l λy _=>UI l λz _=>by simp
theorem okS:KndOk kS:=⟨λM h=>Qy5 h.sc (by have:=h.ln;omega) h.df,λM h=>O7 h.sc,λM a=>lZ,λM h=>Qa (NC h.ln) (by decide)⟩
theorem okT:KndOk kT:=⟨λM h=>Qy6 h.sc (by have:=h.ln;omega) h.df,λM h=>O7 h.sc,λM a=>Qmi,λM h=>Qa (NC h.ln) (by decide)⟩
theorem okH:KndOk kH:=⟨λM h=>Qy3 h.sc (by have:=h.ln;omega) h.df,λM h=>PI h.sc,λM a=>xW,λM h=>by
 have h1:=NC h.ln;have h2:=Qmf M;have h3:M.length*(M.length*M.length)<=6*(6*6):=Zc h.ln (Zc h.ln h.ln);show(Ef M++NB M).length<=_;rw[Qy];omega⟩
theorem okP:KndOk kP:=⟨λM h=>Qy4 h.sc (by have:=h.ln;omega) h.df,λM h=>UQ h.sc,λM a=>lQ,λM h=>by
 have h3:M.length*(M.length*(M.length*M.length))<=6*(6*(6*6)):=Zc h.ln (Zc h.ln (Zc h.ln h.ln));show(AP M).length<=_;rw[Qmd];omega⟩
theorem okD:KndOk kD:=⟨λM h=>Qy2 h.sc h.ln,λM h=>xJ h.sc,λM a=>xK,λM h=>Qd3 h.ln⟩
open Classical in
noncomputable def cnt(bc:Tm->List Ct)(q t:Rat):Nat:=if h:∃E,Evs bc t (tq q) E then(Classical.choose h).length else 0
theorem mT{β:Type}{Bc:Tm->List Ct}{Br:Tm->β}(S:Stab Bc Br){q t:Rat}(hq:Va (tq q)){E:List Tm}(h:Evs Bc t (tq q) E):cnt Bc q t=E.length:=by
 have hx:∃E,Evs Bc t (tq q) E:=⟨E,h⟩;unfold cnt;rw[dif_pos hx];exact Quu S hq (Classical.choose_spec hx) h
structure At{β:Type}(k:Knd β)(M:List Pt)(q:Rat)(c:Cr):Prop where
 now:c.now=tq q
 st:KSt (k.bc M) (k.br M) c (k.br M (tq q))
section
variable{β:Type}{k:Knd β}(ok:KndOk k){M M':List Pt}{q t:Rat}{c:Cr}
include ok
theorem At.again(h:At k M q c)(hM:MOk M'):∃ws,Tj c.l c.now (Fv (k.bc M' c.now))=some ws/\At k M' q ⟨tq q,ws,c.ev⟩:=by
 obtain⟨⟨o,kk⟩,hcs,hr⟩:=h.st;have S:=ok.st M' hM;obtain⟨ws,l1,l2⟩:=nN o.n o.l (Fv (k.bc M' c.now));have o':=Orr.lay_ok c.ev o o.n (S.ok.p _ o.n) (S.ok.n _ o.n) l1;have hl:=aE o.n o.n (λh=>Ir o.n.cut o.n.cut h h) o.l kk l1;rw[h.now]at o' hl l2;exact⟨ws,l1,rfl,⟨⟨o',hl⟩,l2,rfl⟩⟩
theorem At.adv(h:At k M q c)(hM:MOk M)(ht:Qs 1640000 t)(hqt:q<=t) :
 ∃(K:Nat) (c':Cr),K<=67000001/\WI (k.bc M) (k.br M) t K c (k.br M (tq q)) 0=some (c',k.br M (tq t),((cnt (k.bc M) q t:Nat):Int))/\At k M t c'/\c'.ev=c.ev+((cnt (k.bc M) q t:Nat):Int)/\cnt (k.bc M) q t<=67000000/\cnt (k.bc M) q t<=((k.al M).flatMap AT).length:=by
 have S:=ok.st M hM;have hP:=ok.cp M hM;have hm:=vN hP;have hmu:=Qsf ((k.al M).flatMap AT) c.now;have hl:=ok.ln M hM;have hv:=h.st.inv.ok.n;have hc:Fl c.now t<=0:=by rw[h.now,PU];rcases Sk q t with⟨e,e'⟩|⟨e,e'⟩|⟨e,e'⟩ <;> first|omega|(exfalso;grind)
 obtain⟨c',r',E,g1,g2,g3,g4,g5,g6⟩:=Qhz S ht hP (λa _=>ok.al M a) (mu ((k.al M).flatMap AT) c.now) c _ 0 (Ql _) h.st λh'=>by
  have:=(ZE hv.cut).2 h';omega
 have hr:r'=k.br M (tq t):=by rw[g3.r,g2]
 rw[hr]at g1 g3;rw[Int.zero_add]at g1;rw[h.now]at g6;have he:=mT S (by rw[<-h.now];exact hv) g6;rw[he];exact⟨_,c',by omega,g1,⟨g2,g3⟩,g4,by omega,by omega⟩
theorem nZ(hM:MOk M)(hq:Qs 1640000 q)(ht:Qs 1640000 t)(hqt:q<=t):∃E,Evs (k.bc M) t (tq q) E/\E.length=cnt (k.bc M) q t:=by
 have S:=ok.st M hM;have hv:=TN hq;have hc:¬Mb (tq t) (tq q):=λh'=>by
  have:=(ZE hv.cut).2 h';rw[PU]at this;rcases Sk q t with⟨e,e'⟩|⟨e,e'⟩|⟨e,e'⟩ <;> first|omega|grind
 obtain⟨c',r',E,g1,g2,g3,g4,g5,g6⟩:=Qhz S ht (ok.cp M hM) (λa _=>ok.al M a) (mu ((k.al M).flatMap AT) (tq q)) ⟨tq q,(Fv (k.bc M (tq q))).map fresh,0⟩ (k.br M (tq q)) 0 (Ql _) (pH S hv) hc;exact⟨E,g6,(mT S hv g6).symm⟩
theorem Qn4{s:Rat}(hM:MOk M)(hq:Qs 1640000 q)(hs:Qs 1640000 s)(ht:Qs 1640000 t)(hqs:q<=s)(hst:s<=t):cnt (k.bc M) q t=cnt (k.bc M) q s+cnt (k.bc M) s t:=by
 obtain⟨E1,h1,e1⟩:=nZ ok hM hq hs hqs;obtain⟨E2,h2,e2⟩:=nZ ok hM hs ht hst;obtain⟨E,h,e⟩:=nZ ok hM hq ht (Zl hqs hst);have hv:=TN hq;have:=Qoo (ok.st M hM) hst (TN hs) h1 hv (λh'=>by
  have:=(ZE hv.cut).2 h';rw[PU]at this;rcases Sk q s with⟨e,e'⟩|⟨e,e'⟩|⟨e,e'⟩ <;> first|omega|grind) h2 h
 omega
theorem ZA(hM:MOk M)(hq:Qs 1640000 q):cnt (k.bc M) q q=0:=by
 have:=Qn4 ok hM hq hq hq Qp Qp;omega
end
theorem At.begin{β:Type}{k:Knd β}(ok:KndOk k){M:List Pt}{q:Rat}(hM:MOk M)(hq:Qs 1640000 q):At k M q ⟨tq q,(Fv (k.bc M (tq q))).map fresh,0⟩:=⟨rfl,pH (ok.st M hM) (TN hq)⟩
end Orq
namespace Orr
open Go Go.Proofs Tryz Orq
set_option maxRecDepth 10000
abbrev Tr(c:Cr)(r0:Ut)(r1:Ut×Ut):Us:=.bool true::pl c.now.p::sg c.now.lo.num::mg c.now.lo.num::sg (c.now.lo.den:Int)::mg (c.now.lo.den:Int)::sg c.now.hi.num::mg c.now.hi.num::sg (c.now.hi.den:Int)::mg (c.now.hi.den:Int)::.row (C6 c.l)::.int .i64 c.ev::[.row r0,.row r1.1,.row r1.2]
abbrev Quc(r0:LV)(r1:LV×LV):Us:=[.bool false,.nils,.bool false,.nils,.bool false,.nils,.bool false,.nils,.bool false,.nils,.nils,.int .i64 0,r0,r1.1,r1.2]
theorem mZ{T:Nat}{c:Cr}{r0:Ut}{r1:Ut×Ut}(hc:Va c.now):U5 prog 400 [.one (.ow 0 0)] [.blk T (Tr c r0 r1)] [.agg (ta c.now)] [.blk T (Tr c r0 r1)]:=by
 have cl:=S7 (b:=c.now) (l:=[]) hc.tb (λt ht=>by cases ht) (by decide) rfl;refine Fu func400 rfl ?_;exact Ui [] [0] [.f rfl,.k cl] rfl
theorem Qnb{T:Nat}{c:Cr}{r0:Ut}{r1:Ut×Ut}{x:Ct}{at_:Tm}{w:Wt}(hc:CrOk c)(hx:Cp x.p)(ha:Va at_)(h:Ci c.l x at_=some w):U5 prog 289 [.one (.ow 0 0),.agg (Lu x),.agg (ta at_)] [.blk T (Tr c r0 r1)] [.agg (wl w)] [.blk T (Tr c r0 r1)]:=by
 have hk:=hc.k;have hw:=Sw c.l;refine Fu func289 rfl ?_;refine Ue [] rfl ?_;refine Uj (S:=Nat) 4 (λL1 i=>(14,.v (.oi i))::L1) (λ_=>[.blk T (Tr c r0 r1),.blk 99 (Lu x),.blk 105 (ta at_),.blk 352 [.int .i64 0,.int .i64 0,.int .i64 0,.int .i64 0,.int .i64 0,.nils,.int .i64 0,.bool false,.bool false,.nils,.bool false,.nils,.bool false,.nils,.bool false,.nils,.bool false,.nils]]) (λi=>c.l.length-i) (λi=>i<=c.l.length/\Ci (c.l.drop i) x at_=some w) 0 ⟨Qh _,h⟩ rfl rfl λi ⟨hi,hf⟩=>?_
 by_cases hlt:i<c.l.length
 ·obtain⟨v,hv⟩:=gxE (l:=c.l) (i:=i) hlt;have hdr:c.l.drop i=v::c.l.drop (i+1):=by
   rw[Zp hlt];congr 1;have:=Qe hlt;rw[hv]at this;injection this with this;exact this.symm
  have hvo:=hc.l v (Qc hv);rw[hdr]at hf;simp only[Ci]at hf;have hl:decide ((i:Int)<((C6 c.l).length:Int))=true:=by simp[hw];omega
  by_cases A:tR v.c x=true
  ·have A':(!decide ([v.c.kind,v.c.i0,v.c.i1,v.c.i2,v.c.i3]=[x.kind,x.i0,x.i1,x.i2,x.i3]))=false:=by
    unfold tR at A;rw[A];rfl
   by_cases B:v.known=true
   ·have B':(!v.known)=false:=by rw[B];rfl
    have cs:=MJ (p:=v.c.p) (q:=x.p) (Dp.pb hvo.p.dp).ln (Dp.pb hx.dp).ln (Dp.pb hvo.p.dp).bd (Dp.pb hx.dp).bd;rw[hvo.p.t,hx.t]at cs;by_cases C:v.c.p=x.p
    ·have C':(!decide (v.c.p=x.p))=false:=by simp[C]
     rw[if_pos ⟨A,B,C⟩]at hf;obtain⟨vc,vk,vf⟩:=v;cases vf with
     |
      none =>
      injection hf with hf;subst hf;exact Ui [] [0] [.t hl,.x (Hy hv),.g 24 false A',.g 29 false B',.k cs,.f C',.g 41 true rfl,.t rfl] rfl
     |
      some t =>
      obtain⟨r,r1',hf⟩:=Qd.1 hf;have cc:=KW (hvo.f t rfl).tb ha.tb r1';by_cases D:0<r
      ·rw[if_pos D]at hf;injection hf with hf;subst hf;exact Ui [] [0] [.t hl,.x (Hy hv),.g 24 false A',.g 29 false B',.k cs,.f C',.g 41 false rfl,.k cc,.t (by simpa using D)] rfl
      ·rw[if_neg D]at hf;refine Uf [.t hl,.x (Hy hv),.g 24 false A',.g 29 false B',.k cs,.f C',.g 41 false rfl,.k cc,.f (by simpa using D)] rfl ?_;exact rd (i+1) (by omega) ⟨hlt,hf⟩ rfl
    ·rw[if_neg λh=>C h.2.2]at hf;refine Uf [.t hl,.x (Hy hv),.g 24 false A',.g 29 false B',.k cs,.t (by simp[C])] rfl ?_;exact rd (i+1) (by omega) ⟨hlt,hf⟩ rfl
   ·rw[if_neg λh=>B h.2.1]at hf;refine Uf [.t hl,.x (Hy hv),.g 24 false A',.g 29 true (by simpa using B),.t rfl] rfl ?_;exact rd (i+1) (by omega) ⟨hlt,hf⟩ rfl
  ·rw[if_neg λh=>A h.1]at hf;refine Uf [.t hl,.x (Hy hv),.g 24 true (by rw[show decide ([v.c.kind,v.c.i0,v.c.i1,v.c.i2,v.c.i3]=[x.kind,x.i0,x.i1,x.i2,x.i3])=false from Wv.2 A];rfl),.g 29 true rfl,.t rfl] rfl ?_;exact rd (i+1) (by omega) ⟨hlt,hf⟩ rfl
 ·obtain rfl:i=c.l.length:=by omega
  rw[Yt]at hf;simp only[Ci]at hf;injection hf with hf;subst hf;exact Ui [] [0] [.f (by simp[hw])] rfl
theorem lT{T:Nat}{c:Cr}{r0:Ut}{r1:Ut×Ut}{at_:Tm}{l:List Ct}{ws:List Wt}(hc:CrOk c)(ha:Va at_)(hl:∀x∈l,Cp x.p)(hn:l.length≤1000)(h:Tj c.l at_ (Fv l)=some ws):U5 prog 250 [.one (.ow 0 0),.agg (ta at_),.one (.bool true),.one (.row (Fj l))] [.blk T (Tr c r0 r1)] [] [.blk T (Tr ⟨at_,ws,c.ev⟩ r0 r1)]:=by
 have cs:=xN (l:=l) (λx hx=>Dp.pb (hl x hx).dp) (by omega);have cl:=S7 (b:=at_) (l:=[]) ha.tb (λt ht=>by cases ht) (by decide) rfl;obtain⟨h1,h2⟩:=XM h;have hs:(Fv l).length=l.length:=Dn l;refine Fu func250 rfl ?_;refine Ue [.o 8 352 18,.k cs] rfl ?_;refine Uj (S:=Nat) 3 (λL1 i=>(15,.v (.oi i))::(8,.v (.one (.orow 2 18 none)))::L1) (λi=>[.blk T (Tr c r0 r1),.blk 105 (ta at_),.row false 352 18 (C6 (ws.take i))]) (λi=>ws.length-i) (λi=>i<=ws.length) 0 (Qh _) rfl rfl λi hi=>?_
 by_cases hlt:i<ws.length
 ·obtain⟨x,hx⟩:=gxE (l:=(Fv l)) (i:=i) (by omega);obtain⟨w,hw,hw'⟩:=h2 i x hx;have hm:∀y∈[wl w],y.length=18:=λy hy=>by rw[Qk.1 hy];rfl
  have hlt':decide ((i:Int)<((Fj (Fv l)).length:Int))=true:=by simp[Fj];omega
  have ck:=Qnb (T:=T) (r0:=r0) (r1:=r1) hc (hl x (VJ (Qc hx))) ha hw;have hg:=E9 hw';obtain⟨wc,wk,wf⟩:=w;cases wf <;> (refine go tt [.t hlt',.x (KD hx),.t rfl,.c [0] ck,.s (sz:=18) hm] rfl (by simp[U0,Sw];omega) ?_;exact rd (i+1) (by omega) hlt (by rw[hg];rfl))
 ·obtain rfl:i=ws.length:=by omega
  rw[Q6];have hge:decide ((ws.length:Int)<((Fj (Fv l)).length:Int))=false:=by simp[Fj];omega
  exact Ui [] [0] [.f hge,.p 2,.k cl] rfl
theorem Qnc{T:Nat}{r0:Ut}{r1:Ut×Ut}{at_:Tm}{l:List Ct}(ha:Va at_)(hl:∀x∈l,Cp x.p)(hn:l.length≤1000):U5 prog 250 [.one (.ow 0 0),.agg (ta at_),.one (.bool false),.one (.row (Fj l))] [.blk T (Quc (.row r0) (.row r1.1,.row r1.2))] [] [.blk T (Tr ⟨at_,(Fv l).map fresh,0⟩ r0 r1)]:=by
 have cs:=xN (l:=l) (λx hx=>Dp.pb (hl x hx).dp) (by omega);have cl:=S7 (b:=at_) (l:=[]) ha.tb (λt ht=>by cases ht) (by decide) rfl;have hs:(Fv l).length=l.length:=Dn l;refine Fu func250 rfl ?_;refine Ue [.o 8 352 18,.k cs] rfl ?_;refine Uj (S:=Nat) 3 (λL1 i=>(15,.v (.oi i))::(8,.v (.one (.orow 2 18 none)))::L1) (λi=>[.blk T (Quc (.row r0) (.row r1.1,.row r1.2)),.blk 105 (ta at_),.row false 352 18 (C6 (((Fv l).map fresh).take i))]) (λi=>l.length-i) (λi=>i<=l.length) 0 (Qh _) rfl rfl λi hi=>?_
 by_cases hlt:i<l.length
 ·obtain⟨x,hx⟩:=gxE (l:=(Fv l)) (i:=i) (by omega);have hm:∀y∈[wl (fresh x)],y.length=18:=λy hy=>by rw[Qk.1 hy];rfl
  have hlt':decide ((i:Int)<((Fj (Fv l)).length:Int))=true:=by simp[Fj];omega
  have hg:=E9 (l:=(Fv l).map fresh) (i:=i) (w:=fresh x) (by rw[Q9,hx];rfl);refine go tt [.t hlt',.x (KD hx),.z 20,.f rfl,.s (sz:=18) hm] rfl (by simp[U0,Sw];omega) ?_;exact rd (i+1) (by omega) hlt (by rw[hg];rfl)
 ·obtain rfl:i=l.length:=by omega
  rw[Qo (by simp;omega)];have hge:decide ((l.length:Int)<((Fj (Fv l)).length:Int))=false:=by simp[Fj];omega
  exact Ui [] [0] [.f hge,.p 2,.k cl] rfl
theorem Qbi{T:Nat}{r0:Ut}{r1:Ut×Ut}{at_:Tm}{l:List Ct}(ha:Va at_)(hl:∀x∈l,Cp x.p)(hn:l.length≤1000):U5 prog 194 [.one (.ow 0 0),.agg (ta at_),.one (.row (Fj l))] [.blk T (Quc (.row r0) (.row r1.1,.row r1.2))] [] [.blk T (Tr ⟨at_,(Fv l).map fresh,0⟩ r0 r1)]:=by
 have cl:=Qnc (T:=T) (r0:=r0) (r1:=r1) ha hl hn;refine Fu func194 rfl ?_;exact Ui [] [0] [.g 12 false rfl,.c [0] cl] rfl
theorem Qbj{T:Nat}{c:Cr}{r0:Ut}{r1:Ut×Ut}{at_:Tm}{l:List Ct}{ws:List Wt}{k:Int}(hc:CrOk c)(ha:Va at_)(hk:UR at_ c.now=some k)(h0:0≤k)(hl:∀x∈l,Cp x.p)(hn:l.length≤1000)(h:Tj c.l at_ (Fv l)=some ws):U5 prog 194 [.one (.ow 0 0),.agg (ta at_),.one (.row (Fj l))] [.blk T (Tr c r0 r1)] [] [.blk T (Tr ⟨at_,ws,c.ev⟩ r0 r1)]:=by
 have cl:=lT (T:=T) (r0:=r0) (r1:=r1) hc ha hl hn h;have cc:=KW ha.tb hc.n.tb hk;refine Fu func194 rfl ?_;exact Ui [] [0] [.g 12 true rfl,.k cc,.r 20 (eB (show decide (0<=k)=true by simpa using h0)),.c [0] cl] rfl
theorem Qnd{T:Nat}{c:Cr}{r0:Ut}{r1:Ut×Ut}{ws:List Wt}(hc:CrOk c)(h:Ob c.now c.l=some ws):U5 prog 395 [.one (.ow 0 0)] [.blk T (Tr c r0 r1)] [] [.blk T (Tr { c with l:=ws } r0 r1)]:=by
 have hk:=hc.k;have hw:=Sw c.l;obtain⟨h1,h2⟩:=YB h;refine Fu func395 rfl ?_;refine Ue [.o 2 352 18,.c [0] (mZ hc.n)] rfl ?_;refine Uj (S:=Nat) 3 (λL1 i=>(13,.v (.oi i))::(2,.v (.one (.orow 1 18 none)))::L1) (λi=>[.blk T (Tr c r0 r1),.row false 352 18 (C6 (ws.take i)),.blk 105 (ta c.now)]) (λi=>c.l.length-i) (λi=>i<=c.l.length) 0 (Qh _) rfl rfl λi hi=>?_
 by_cases hlt:i<c.l.length
 ·obtain⟨w,hx⟩:=gxE (l:=c.l) (i:=i) hlt;obtain⟨v,hv,h3⟩:=h2 i w hx;have hm:∀y∈[wl v],y.length=18:=λy hy=>by rw[Qk.1 hy];rfl
  have hg:=E9 hv;have hl:decide ((i:Int)<((C6 c.l).length:Int))=true:=by simp[hw];omega
  rcases h3 with⟨k1,rfl⟩|⟨k1,r,k2,rfl⟩
  ·obtain⟨vc,vk,vf⟩:=v;cases vf <;> (refine go tt [.t hl,.x (Hy hx),.f (by rw[show vk=true from k1];rfl),.s (sz:=18) hm] rfl (by simp[U0,Sw];omega) ?_;exact rd (i+1) (by omega) hlt (by rw[hg];rfl))
  ·have cg:=wU (hc.l w (Qc hx)).p hc.n k2;obtain⟨wc,wk,wf⟩:=w;cases r <;> cases wf <;> (refine go tt [.t hl,.x (Hy hx),.t (by rw[show wk=false from k1];rfl),.k cg,.s (sz:=18) hm] rfl (by simp[U0,Sw];omega) ?_;exact rd (i+1) (by omega) hlt (by rw[hg];rfl))
 ·obtain rfl:i=c.l.length:=by omega
  rw[<-h1,Q6];exact Ui [1] [0] [.f (by simp[hw,h1])] rfl
theorem Qne{T:Nat}{c:Cr}{r0:Ut}{r1:Ut×Ut}{ws:List Wt}{r:Option Tm}(hc:CrOk c)(h:Ob c.now c.l=some ws)(hr:IZ ws=some r):U5 prog 392 [.one (.ow 0 0)] [.blk T (Tr c r0 r1)] [.agg (ota r),.one (.bool r.isSome)] [.blk T (Tr { c with l:=ws } r0 r1)]:=by
 have hcl:=Qnd (T:=T) (r0:=r0) (r1:=r1) hc h;have hc':=El hc h;have hk:=hc'.k;have hw:=Sw ws;have hvb:∀t∈ws.filterMap (·.fails),Tb t:=λt ht=>by
  obtain⟨w,w1,w2⟩:=Ji.1 ht;exact((hc'.l w w1).f t w2).tb
 refine Fu func392 rfl ?_;refine Ue [.c [0] hcl,.o 4 105 9] rfl ?_;refine Uj (S:=Nat) 3 (λL1 i=>(14,.v (.oi i))::(4,.v (.one (.orow 2 9 none)))::L1) (λi=>[.blk T (Tr { c with l:=ws } r0 r1),.blk 105 zTm,.row false 105 9 (tal ((ws.take i).filterMap (·.fails)))]) (λi=>ws.length-i) (λi=>i<=ws.length) 0 (Qh _) rfl rfl λi hi=>?_
 by_cases hlt:i<ws.length
 ·obtain⟨w,hx⟩:=gxE (l:=ws) (i:=i) hlt;have hl:decide ((i:Int)<((C6 ws).length:Int))=true:=by simp[hw];omega
  have hfl:((ws.take i).filterMap (·.fails)).length<=i:=Qa (Vb _ _) (by rw[Qq];omega);have hg:(ws.take (i+1)).filterMap (·.fails)=(ws.take i).filterMap (·.fails)++(match w.fails with|none=>[]|some t=>[t]):=by
   rw[Z2,hx,List.filterMap_append];show _++List.filterMap (·.fails) [w]=_;cases hwf:w.fails <;> simp[hwf]
  obtain⟨wc,wk,wf⟩:=w;have hk:ws.length<=1000:=hk;cases wf with
  |
   none =>
   refine Uf [.t hl,.x (Hy hx),.f rfl] rfl ?_;exact rd (i+1) (by omega) hlt (by rw[hg];simp;rfl)
  |
   some t =>
   refine Uf [.t hl,.x (Hy hx),.t rfl,.s (l:=[ta t]) (sz:=9) (λc hc=>by rw[Qk.1 hc];rfl)] rfl ?_;exact rd (i+1) (by omega) hlt (by rw[hg];simp[tal];rfl)
 ·obtain rfl:i=ws.length:=by omega
  rw[Q6];have hf:decide ((ws.length:Int)<((C6 ws).length:Int))=false:=by simp[hw]
  have hln:(ws.filterMap (·.fails)).length<=1000:=Qa (Vb _ _) hk;unfold IZ at hr;cases hfm:ws.filterMap (·.fails)with
  |
   nil =>
   rw[hfm]at hr;injection hr with hr;subst hr;exact Ui [] [0] [.f hf,.p 2,.k wF] rfl
  |
   cons b l =>
   rw[hfm]at hr hvb hln;obtain⟨m,m1,rfl⟩:=Yx.1 hr;have cl:=S7 (hvb b (Qx ..)) (λt ht=>hvb t (Qg _ ht)) (by simp at hln;omega) m1;exact Ui [] [0] [.f hf,.p 2,.k cl] rfl
theorem Qxx{T:Nat}{t:Rat}{Bc:Tm->List Ct}{Br:Tm->Ut×Ut}{r0:Ut}(ht:Qs 1640000 t)(hB:BuildOk Bc)
 (hb:∀a c r1,Va a->CrOk c->U5 prog 196 [.one (.ow 0 0),.agg (ta a)] [.blk T (Tr c r0 r1)] [.one (.row (Fj (Bc a)))] [.blk T (Tr c r0 (Br a))])
 {K:Nat} {c c':Cr} {r1 r1':Ut×Ut} {n:Int} (hc:CrOk c) (hev:0<=c.ev/\c.ev+K<=1000000000000000000) (h:Fl c.now t<=0) (hg:WI Bc Br t K c r1 0=some (c',r1',n)) :
 U5 prog 396 [.one (.ow 0 0),.agg (rl t),.one (.ofn 196 [.ow 0 0] [])] [.blk T (Tr c r0 r1)] [.oi n,.oi 0] [.blk T (Tr c' r0 r1')]:=by
 have qt:Qb t:=ht.mono (by decide);have c1:=De hc.n.tb qt;refine Fu func396 rfl ?_;refine Ue [.c [0] (mZ hc.n),.k c1,.f (by simpa using h)] rfl ?_;refine Uj (S:=Nat×Cr×(Ut×Ut)×Int) 2 (λL1 s=>(8,.v (.oi s.2.2.2))::L1) (λs=>[.blk T (Tr s.2.1 r0 s.2.2.1),.blk 42 (rl t)]) (λs=>s.1) (λs=>CrOk s.2.1/\(0<=s.2.1.ev/\s.2.1.ev+s.1<=1000000000000000000)/\(0<=s.2.2.2/\s.2.2.2+s.1<=1000000000000000000)/\WI Bc Br t s.1 s.2.1 s.2.2.1 s.2.2.2=some (c',r1',n)) (K,c,r1,0) ⟨hc,hev,⟨Int.le_refl 0,by dsimp only;omega⟩,hg⟩ rfl rfl λ⟨k,x,r,m⟩ ⟨j1,j2,j3,j4⟩=>?_
 dsimp only at j1 j2 j3 j4 ⊢;cases k with
 |zero=>cases j4
 |
  succ k =>
  simp only[WI]at j4;obtain⟨ws,w1,j4⟩:=Qd.1 j4;obtain⟨o,o1,j4⟩:=Qd.1 j4;have cn:=Qne (T:=T) (r0:=r0) (r1:=r) j1 w1 o1;have ca:=VL (U3 t.num) (U3 (t.den:Int)) (Qa ht.1 (by decide)) (Qa ht.2 (by decide)) (by rw[Tq];exact ht.mono (by decide));rw[Tq]at ca;cases o with
  |
   none =>
   injection j4 with j4;injection j4 with e1 j4;injection j4 with e2 e3;subst e1;subst e2;subst e3;exact Ui [] [0] [.c [0] cn,.g 25 true rfl,.t rfl,.k ca] rfl
  |
   some a =>
   have ha:=LP j1 w1 o1;dsimp only at j4;have cc:=De ha.tb qt;by_cases h0:0<Fl a t
   ·rw[if_pos h0]at j4;injection j4 with j4;injection j4 with e1 j4;injection j4 with e2 e3;subst e1;subst e2;subst e3;exact Ui [] [0] [.c [0] cn,.g 25 false rfl,.k cc,.t (by simpa using h0),.k ca] rfl
   ·rw[if_neg h0]at j4;obtain⟨w2,l1,j4⟩:=Qd.1 j4;have j1':=El j1 w1;have cl:=S7 (b:=a) (l:=[]) ha.tb (λt ht=>by cases ht) (by decide) rfl;have cb:=hb a { x with l:=ws } r ha j1';have cy:=lT (T:=T) (r0:=r0) (r1:=Br a) j1' ha (hB.p a ha) (hB.n a ha) l1;have hf:decide (0<Fl a t)=false:=by simpa using h0
    refine Uf [.c [0] cn,.g 25 false rfl,.k cc,.f hf,.k cl,.c [0] cb,.c [0] cy] rfl ?_;exact rd (k,⟨a,w2,x.ev+1⟩,Br a,m+1) (by dsimp only;omega) ⟨lay_ok _ j1' ha (hB.p a ha) (hB.n a ha) l1,by dsimp only;omega,by dsimp only;omega,j4⟩ rfl
theorem Qbk{T:Nat}{c:Cr}{r0:Ut}{r1:Ut×Ut}:U5 prog 391 [.one (.ow 0 0)] [.blk T (Tr c r0 r1)] [.oi c.ev] [.blk T (Tr c r0 r1)]:=by
 refine Fu func391 rfl ?_;exact Ui [] [0] [] rfl
end Orr
namespace Orr
open Go Go.Proofs Tryz Orq
def PT(k:Crv):Int:=max (max 0 ((k.x.length:Int)-1)) ((k.y.length:Int)-1)
structure Es where
 np:Int
 nd:Int
 M:List Pt
 q:Rat
 s:Cr
 t:Cr
 h:Cr
 p:Cr
 d:Cr
structure Em where
 np:Int
 nd:Int
 M:List Pt
 q:Rat
 s:Int
 t:Int
 h:Int
 p:Int
 d:Int
def Es.m(E:Es):Em:=⟨E.np,E.nd,E.M,E.q,E.s.ev,E.t.ev,E.h.ev,E.p.ev,E.d.ev⟩
structure MEn(np nd:Int)(M:List Pt):Prop where
 m:MOk M
 len:(M.length:Int)<=np
 deg:∀p∈M,PT p.c≤nd
 id:∀p∈M,0≤p.id/\p.id≤1048576
structure EOk(b:Int)(E:Es):Prop where
 np:1<=E.np/\E.np<=6
 nd:0<=E.nd/\E.nd<=2
 m:MEn E.np E.nd E.M
 q:Qs 128 E.q
 s:At kS E.M E.q E.s
 t:At kT E.M E.q E.t
 h:At kH E.M E.q E.h
 p:At kP E.M E.q E.p
 d:At kD E.M E.q E.d
 es:0<=E.s.ev/\E.s.ev<=b
 et:0<=E.t.ev/\E.t.ev<=b
 eh:0<=E.h.ev/\E.h.ev<=b
 ep:0<=E.p.ev/\E.p.ev<=b
 ed:0<=E.d.ev/\E.d.ev<=b
theorem EOk.mono{b c:Int}{E:Es}(h:EOk b E)(hb:b<=c):EOk c E:={ h with es:=⟨h.es.1,by have:=h.es.2;omega⟩,et:=⟨h.et.1,by have:=h.et.2;omega⟩,eh:=⟨h.eh.1,by have:=h.eh.2;omega⟩,ep:=⟨h.ep.1,by have:=h.ep.2;omega⟩,ed:=⟨h.ed.1,by have:=h.ed.2;omega⟩ }
abbrev mO(k:Nat)(q:Rat):Us:=[.ow (k+1) 0,sg q.num,mg q.num,sg (q.den:Int),mg (q.den:Int),.ow (k+2) 0,.ow (k+3) 0,.ow (k+4) 0,.ow (k+5) 0,.ow (k+6) 0]
abbrev taR(np nd:Int)(M:List Pt):Us:=[.int .i64 np,.int .i64 nd,pts M]
abbrev bS(c:Cr)(M:List Pt)(q:Rat):OB:=.blk 220 (Hl c (Uz M) (IU M (tq q)))
abbrev bT(c:Cr)(M:List Pt)(q:Rat):OB:=.blk 223 (Tr c (Uz M) (pN M (tq q)))
abbrev bH(c:Cr)(M:List Pt)(q:Rat):OB:=.blk 225 (Hl c (Uz M) (brH M (tq q)))
abbrev bP(c:Cr)(M:List Pt)(q:Rat):OB:=.blk 227 (Hl c (Uz M) (brP M (tq q)))
abbrev bD(c:Cr)(M:List Pt)(q:Rat):OB:=.blk 229 (Hl c (Uz M) (pM M (tq q)))
abbrev enB(k:Nat)(E:Es):Uu:=[.blk 80 (mO k E.q),.blk 159 (taR E.np E.nd E.M),bS E.s E.M E.q,bT E.t E.M E.q,bH E.h E.M E.q,bP E.p E.M E.q,bD E.d E.M E.q]
end Orr
namespace Orr
open Go Go.Proofs Tryz Orq
set_option maxRecDepth 10000
theorem YL{l:List Pt}{id:Int}(h:has l id=true):Rt l id<l.length:=by
 rcases Zb (Rt l id) l.length with h1|h1
 ·exact h1
 ·simp[has,Qu h1]at h
theorem UU{lx ly:Ut}{px py:Un}{x y:LV}{d id:Int}{l:List Pt}(hx:IsInts lx px)(hy:IsInts ly py)(hd:Gb x y d)(hk:Cs 4294967294 1073741824 (Crv.mk px py d))(hl:l.length<=1000000)(h:has l id=true) :
 Uk 399 [.agg [pts l],.agg [.row lx,.row ly,x,y,.int .i64 id]] [.agg [pts (l.set (Rt l id) (Pt.mk (Crv.norm (Crv.mk px py d)) id))],.oi 0]:=by
 have ca:=Qfo (l:=l) id (by omega);have cf:=lD hx hy hd hk id;obtain⟨b,r,rfl,rfl,_⟩:=hd;obtain⟨q,hq⟩:=nmE (Pt.mk (Crv.norm (Crv.mk px py d)) id);rw[<-hq]at cf ⊢;have hpl:=YL h;rw[h]at ca;have e:pts (l.set (Rt l id) q)=.row ((l.map Fa).set (Rt l id) (Fa q)):=by unfold pts;rw[List.map_set]
 rw[e];exact Uh func399 rfl [.k ca,.f rfl,.s (Sr l),.k cf,.i (Rt l id)] rfl rfl (by simp[U0];omega)
theorem UK{l:List Pt}{id:Int}(hl:l.length<=1000000)(h:has l id=true) :
 Uk 398 [.agg [pts l],.oi id] [.agg [pts (l.take (Rt l id)++l.drop (Rt l id+1))],.oi 0]:=by
 have ca:=Qfo (l:=l) id (by omega);have hpl:=YL h;rw[h]at ca;have s1:∀c∈(l.map Fa).take (Rt l id),c.length=5:=λc hc=>Sr l c (Qn hc)
 have s3:∀c∈(l.map Fa).drop (Rt l id+1),c.length=5:=λc hc=>Sr l c (Qz hc)
 have e:pts (l.take (Rt l id)++l.drop (Rt l id+1))=.row ((l.map Fa).take (Rt l id)++(l.map Fa).drop (Rt l id+1)):=by unfold pts;rw[List.map_append,List.map_take,List.map_drop]
 rw[e];refine Uh func398 rfl [.k ca,.f rfl,.i (Rt l id),.s s1,.i (Rt l id+1),.s s3] rfl ?_ ?_
 ·simp
 ·have h1:(List.map Fa l).length=l.length:=by simp
  have h2:∀z∈List.map Fa l,z.length=ti40.sz:=Sr l;simp only[U0,Qq,Q7,h1]
  and_intros <;> first|exact h2|omega
theorem kR(l:Up):(lm l).length=l.length:=by simp[lm]
theorem ZR{z:Int}:(Ga z.natAbs).length<=4↔Fb z<=128:=by
 constructor
 ·intro h;have h1:=Bq (Ga z.natAbs) (Dk z.natAbs).1;rw[G7]at h1;refine T0.2 (Z6 h1 (Qa (Zs (by decide) h) (by decide)))
 ·intro h;have:=Ta (x:=z.natAbs) (k:=128) h;omega
def QI(k:Crv):Bool:=(k.x++k.y++[k.d]).all λz=>decide (Fb z<=128)
theorem EB{k:Crv}:QI k=true↔(∀z∈k.x,Fb z≤128)/\(∀z∈k.y,Fb z≤128)/\Fb k.d≤128:=by
 unfold QI;simp only[List.all_append,Zn,Ju,decide_eq_true_iff,Qk,forall_eq];constructor
 ·rintro⟨⟨h1,h2⟩,h3⟩;exact⟨h1,h2,h3⟩
 ·rintro⟨h1,h2,h3⟩;exact⟨⟨h1,h2⟩,h3⟩
theorem WM{k:Crv}{z:Int}(hz:z∈k.x++k.y++[k.d])(h:¬Fb z<=128):QI k=false:=by
 unfold QI;rw[<-Bool.not_eq_true,Ju];intro h';exact h (of_decide_eq_true (h' z hz))
abbrev tB(np nd:Int)(l:List Pt):OB:=.blk 159 (taR np nd l)
theorem eQ{np nd:Int}{l:List Pt}(id:Int)(hl:l.length<1073741824):U5 prog 183 [.one (.ow 0 0),.oi id] [tB np nd l] [.oi (Rt l id:Int),.one (.bool (has l id))] [tB np nd l]:=by
 refine Fu func183 rfl ?_;refine Ue [] rfl ?_;refine ct 2 (S:=Unit) (λ_=>[(1,.v (.oi id)),(0,.v (.one (.ow 0 0))),(6,.v (.oi (Rt l id:Int)))]) (λ_=>[tB np nd l]) (λ_=>True) rfl ?_ ?_
 ·refine Uj (S:=Nat) 1 (λL1 k=>(6,.v (.oi k))::L1) (λ_=>[tB np nd l]) (λk=>l.length-k) (λk=>k<=l.length/\∀j p,j<k->l[j]? = some p->p.id<id) 0 ⟨Qh _,λj p h=>by omega⟩ rfl rfl λk ⟨hk,hlt⟩=>?_
  by_cases h:k<l.length
  ·obtain⟨p,hp⟩:=gxE (l:=l) (i:=k) h;by_cases hid:p.id<id
   ·refine Uf [.t (by simp;omega),.x (Tf hp),.t (by simpa using hid)] rfl ?_;exact rd (k+1) (by omega) ⟨h,λj q hj hq=>by
     rcases Zb j k with h2|h2
     ·exact hlt j q h2 hq
     ·have:j=k:=by omega
      subst this;rw[hp]at hq;injection hq with hq;rw[<-hq];exact hid⟩ rfl
   ·have e:=EV hlt (.inr ⟨p,hp,hid⟩);refine Ue [.t (by simp;omega),.x (Tf hp),.f (by simpa using hid)] rfl ?_;rw[e];exact rc () trivial rfl
  ·obtain rfl:k=l.length:=by omega
   have e:=EV hlt (.inl rfl);refine Ue [.f (by simp),.f rfl] rfl ?_;rw[e];exact rc () trivial rfl
 ·intro _ _;by_cases h:Rt l id<l.length
  ·obtain⟨p,hp⟩:=gxE (l:=l) (i:=Rt l id) h;have e:has l id=decide (p.id=id):=by simp[has,hp]
   rw[e];exact Ui [] [0] [.g 36 true (by simp;omega),.x (Tf hp)] rfl
  ·have e:has l id=false:=by simp[has,Qu (J8 h)]
   rw[e];exact Ui [] [0] [.g 36 false (by simp;omega)] rfl
theorem HM{lx ly:Ut}{px py:Un}{x y:LV}{d:Int}(hx:IsInts lx px)(hy:IsInts ly py)(hd:Gb x y d)(hk:Cs 4294967294 1073741824 (Crv.mk px py d))(id:Int):Uk 86 [.agg [.row lx,.row ly,x,y,.int .i64 id]] [.agg (Fa ⟨Crv.norm (Crv.mk px py d),id⟩)]:=by
 have cd:=Ml hd (Qa hk.d (by omega));by_cases h0:d=0
 ·subst h0;have ck:Cs 4294967294 1073741824 (Crv.mk px py 1):=⟨hk.x,hk.y,show Fb 1<=4294967294 by decide,hk.lx,hk.ly⟩;have cm:=UW hx hy (U3 1) ck (by decide);have e:Crv.norm (Crv.mk px py 1)=Crv.norm (Crv.mk px py 0):=by simp only[Crv.norm,Crv.g,Crv.d'];rfl
  rw[e]at cm;obtain⟨b,l,rfl,rfl,_⟩:=hd;exact Uh func86 rfl [.k cd,.k Df,.t (by simp),.k (BU (z:=1) (by decide)),.k cm] rfl
 ·have cm:=UW hx hy hd hk h0;obtain⟨b,l,rfl,rfl,_⟩:=hd;exact Uh func86 rfl [.k cd,.k Df,.f (by simpa using h0),.k cm] rfl
theorem mU{p:Pt}(hn:ZM p.c)(hk:Cs 4294967294 1073741824 p.c):Uk 86 [.agg (Fa p)] [.agg (Fa p)]:=by
 have h:=HM (Gm p.c.x) (Gm p.c.y) (U3 p.c.d) hk p.id;rw[show Crv.mk p.c.x p.c.y p.c.d=p.c from rfl,Crv.norm_of hn]at h;exact h
theorem Qf9{k:Crv}(hk:Cs 4294967294 1073741824 k):Uk 245 [.agg (cl k)] [.one (.bool (QI k))]:=by
 have hlx:=hk.lx;have hly:=hk.ly;refine Fu func245 rfl ?_;refine Ue [] rfl ?_;refine Uj (S:=Nat) 1 (λL1 i=>(15,.v (.oi i))::L1) (λ_=>[.blk 38 (cl k)]) (λi=>3-i) (λi=>i≤3/\(0<i->∀z∈k.x,Fb z≤128)/\(1<i->∀z∈k.y,Fb z≤128)/\(2<i->Fb k.d≤128)) 0 ⟨by decide,by omega,by omega,by omega⟩ rfl rfl λi ⟨hi,g0,g1,g2⟩=>?_
 rcases(show i=0\/i=1\/i=2\/i=3 by omega)with rfl|rfl|rfl|rfl
 ·have hl:((k.x).map He).length=(k.x).length:=by simp
  refine Ue [.t rfl,.i 0] rfl ?_ (by simp[U0]);refine Uj (S:=Nat) 1 (λL1 j=>(20,.v (.oi j))::L1) (λ_=>[.blk 38 (cl k)]) (λj=>(k.x).length-j) (λj=>j<=(k.x).length/\∀n z,n<j->(k.x)[n]? = some z->Fb z<=128) 0 ⟨Qh _,λn z h=>by omega⟩ rfl rfl λj ⟨hj,hs⟩=>?_
  by_cases h:j<(k.x).length
  ·obtain⟨z,hz⟩:=gxE (l:=(k.x)) (i:=j) h;by_cases hb:Fb z<=128
   ·have hb4:=ZR.2 hb;refine Uf [.t (by simp;omega),.x (G6 (f:=He) hz),.f (by simp[kR];omega)] rfl ?_;exact rd (j+1) (by omega) ⟨h,λn y hn hy=>by
     rcases Zb n j with h2|h2
     ·exact hs n y h2 hy
     ·have:n=j:=by omega
      subst this;rw[hz]at hy;injection hy with hy;rw[<-hy];exact hb⟩ rfl
   ·have hb4:=mt ZR.1 hb;rw[WM (Qr.2 (.inl (Qr.2 (.inl (Qc hz))))) hb];exact Ug [.t (by simp;omega),.x (G6 (f:=He) hz),.t (by simp[kR];omega)] rfl
  ·have hall:∀z∈k.x,Fb z≤128:=λz hz=>by
    obtain⟨n,hn⟩:=Xu hz;exact hs n z (by have:=(Qf.1 hn).1;omega) hn
   refine Ue [.f (by simp;omega)] rfl ?_ (by simp[U0]);exact rd 1 (by omega) ⟨by omega,λ_=>hall,by omega,by omega⟩ rfl
 ·have hl:((k.y).map He).length=(k.y).length:=by simp
  refine Ue [.t rfl,.i 1] rfl ?_ (by simp[U0]);refine Uj (S:=Nat) 1 (λL1 j=>(20,.v (.oi j))::L1) (λ_=>[.blk 38 (cl k)]) (λj=>(k.y).length-j) (λj=>j<=(k.y).length/\∀n z,n<j->(k.y)[n]? = some z->Fb z<=128) 0 ⟨Qh _,λn z h=>by omega⟩ rfl rfl λj ⟨hj,hs⟩=>?_
  by_cases h:j<(k.y).length
  ·obtain⟨z,hz⟩:=gxE (l:=(k.y)) (i:=j) h;by_cases hb:Fb z<=128
   ·have hb4:=ZR.2 hb;refine Uf [.t (by simp;omega),.x (G6 (f:=He) hz),.f (by simp[kR];omega)] rfl ?_;exact rd (j+1) (by omega) ⟨h,λn y hn hy=>by
     rcases Zb n j with h2|h2
     ·exact hs n y h2 hy
     ·have:n=j:=by omega
      subst this;rw[hz]at hy;injection hy with hy;rw[<-hy];exact hb⟩ rfl
   ·have hb4:=mt ZR.1 hb;rw[WM (Qr.2 (.inl (Qr.2 (.inr (Qc hz))))) hb];exact Ug [.t (by simp;omega),.x (G6 (f:=He) hz),.t (by simp[kR];omega)] rfl
  ·have hall:∀z∈k.y,Fb z≤128:=λz hz=>by
    obtain⟨n,hn⟩:=Xu hz;exact hs n z (by have:=(Qf.1 hn).1;omega) hn
   refine Ue [.f (by simp;omega)] rfl ?_ (by simp[U0]);exact rd 2 (by omega) ⟨by omega,λ_=>g0 (by omega),λ_=>hall,by omega⟩ rfl
 ·have hl:(([k.d]).map He).length=([k.d]).length:=by simp
  have h1:([k.d]).length=1:=rfl;refine Ue [.t rfl,.i 2] rfl ?_ (by simp[U0]);refine Uj (S:=Nat) 1 (λL1 j=>(20,.v (.oi j))::L1) (λ_=>[.blk 38 (cl k)]) (λj=>([k.d]).length-j) (λj=>j<=([k.d]).length/\∀n z,n<j->([k.d])[n]? = some z->Fb z<=128) 0 ⟨Qh _,λn z h=>by omega⟩ rfl rfl λj ⟨hj,hs⟩=>?_
  by_cases h:j<([k.d]).length
  ·obtain⟨z,hz⟩:=gxE (l:=([k.d])) (i:=j) h;by_cases hb:Fb z<=128
   ·have hb4:=ZR.2 hb;refine Uf [.t (by simp;omega),.x (G6 (f:=He) hz),.f (by simp[kR];omega)] rfl ?_;exact rd (j+1) (by omega) ⟨h,λn y hn hy=>by
     rcases Zb n j with h2|h2
     ·exact hs n y h2 hy
     ·have:n=j:=by omega
      subst this;rw[hz]at hy;injection hy with hy;rw[<-hy];exact hb⟩ rfl
   ·have hb4:=mt ZR.1 hb;rw[WM (Qr.2 (.inr (Qc hz))) hb];exact Ug [.t (by simp;omega),.x (G6 (f:=He) hz),.t (by simp[kR];omega)] rfl
  ·have hall:∀z∈[k.d],Fb z≤128:=λz hz=>by
    obtain⟨n,hn⟩:=Xu hz;exact hs n z (by have:=(Qf.1 hn).1;omega) hn
   refine Ue [.f (by simp;omega)] rfl ?_ (by simp[U0]);exact rd 3 (by omega) ⟨by omega,λ_=>g0 (by omega),λ_=>g1 (by omega),λ_=>hall k.d (by simp)⟩ rfl
 ·rw[EB.2 ⟨g0 (by omega),g1 (by omega),g2 (by omega)⟩];exact Ug [.f rfl] rfl
def XE(p:Pt):Bool:=decide (0<=p.id) && (decide (p.id<=1048576) && QI p.c)
theorem Qgf{p:Pt}(hk:Cs 4294967294 1073741824 p.c):Uk 184 [.agg (Fa p)] [.one (.bool (XE p))]:=by
 have cs:=Qf9 hk;by_cases h0:0<=p.id
 ·by_cases h1:p.id<=1048576
  ·have e:XE p=QI p.c:=by simp[XE,h0,h1]
   rw[e];exact Uh func184 rfl [.t (by simpa using h0),.t (by simpa using h1),.k cs] rfl
  ·have e:XE p=false:=by simp[XE,h1]
   rw[e];exact Uh func184 rfl [.t (by simpa using h0),.f (by simpa using h1)] rfl
 ·have e:XE p=false:=by simp[XE,h0]
  rw[e];exact Uh func184 rfl [.f (by simpa using h0),.f rfl] rfl
theorem Qfn{k:Crv}(hn:ZM k)(hk:Cs 4294967294 1073741824 k):Uk 185 [.agg (cl k)] [.oi (PT k)] :=
 Uh func185 rfl [.k (BB hn hk),.k (P7 k.x),.k (P7 k.y)] rfl
def Nn(np nd:Int)(M:List Pt)(p:Pt):Int:=if XE p=false then 1 else if has M p.id=true then 6 else if nd<PT p.c then 7 else if np<=(M.length:Int)then 9 else 0
theorem Qt7{lx ly:Ut}{px py:Un}{x y:LV}{d id np nd:Int}{l:List Pt}(hx:IsInts lx px)(hy:IsInts ly py)(hd:Gb x y d)(hk:Cs 4294967294 1073741824 (Crv.mk px py d))(hl:l.length<=1000000) :
 U5 prog 132 [.one (.ow 0 0),.agg [.row lx,.row ly,x,y,.int .i64 id]] [tB np nd l] [.oi (Nn np nd l (Pt.mk (Crv.norm (Crv.mk px py d)) id))] [tB np nd (if Nn np nd l (Pt.mk (Crv.norm (Crv.mk px py d)) id)=0 then put l (Pt.mk (Crv.norm (Crv.mk px py d)) id)else l)]:=by
 have cf:=HM hx hy hd hk id;have hkn:=hk.norm (by omega);have hnm:=Crv.nml (Crv.mk px py d);obtain⟨b,r,rfl,rfl,_⟩:=hd;obtain⟨q,hq⟩:=nmE (Pt.mk (Crv.norm (Crv.mk px py d)) id);have hqi:q.id=id:=by rw[hq]
 have hqc:q.c=Crv.norm (Crv.mk px py d):=by rw[hq]
 rw[<-hq]at cf ⊢;rw[<-hqc]at hkn hnm;have ca:U5 prog 183 [.one (.ow 0 0),.oi q.id] [tB np nd l] [.oi (Rt l id:Int),.one (.bool (has l id))] [tB np nd l]:=by rw[hqi];exact eQ id (by omega)
 have cm:=Qgf (p:=q) hkn;have cd:=Qfn hnm hkn;have hpl:=yO l id;have hll:(l.map Fa).length=l.length:=by simp
 by_cases h0:XE q=false
 ·have e:Nn np nd l q=1:=by simp[Nn,h0]
  rw[e,if_neg (by decide)];refine Fu func132 rfl ?_;exact Ui [] [0] [.k cf,.c [0] ca,.k cm,.t (by simp[h0])] rfl
 by_cases h1:has l id=true
 ·have e:Nn np nd l q=6:=by simp[Nn,h0,hqi,h1]
  rw[e,if_neg (by decide)];refine Fu func132 rfl ?_;exact Ui [] [0] [.k cf,.c [0] ca,.k cm,.f (by simpa using h0),.t h1] rfl
 by_cases h2:nd<PT q.c
 ·have e:Nn np nd l q=7:=by simp[Nn,h0,hqi,h1,h2]
  rw[e,if_neg (by decide)];refine Fu func132 rfl ?_;exact Ui [] [0] [.k cf,.c [0] ca,.k cm,.f (by simpa using h0),.f (by simpa using h1),.k cd,.t (by simpa using h2)] rfl
 by_cases h3:np<=(l.length:Int)
 ·have e:Nn np nd l q=9:=by simp[Nn,h0,hqi,h1,h2,h3]
  rw[e,if_neg (by decide)];refine Fu func132 rfl ?_;exact Ui [] [0] [.k cf,.c [0] ca,.k cm,.f (by simpa using h0),.f (by simpa using h1),.k cd,.f (by simpa using h2),.t (by simp;omega)] rfl
 have e:Nn np nd l q=0:=by simp[Nn,h0,hqi,h1,h2,h3]
 rw[e,if_pos rfl];have s1:∀c∈(l.map Fa).take (Rt l id),c.length=5:=λc hc=>Sr l c (Qn hc)
 have s3:∀c∈(l.map Fa).drop (Rt l id),c.length=5:=λc hc=>Sr l c (Qz hc)
 have ep:pts (put l q)=.row ((l.map Fa).take (Rt l id)++[Fa q]++(l.map Fa).drop (Rt l id)):=by
  simp[put,hqi,pts,Jw,Vh]
 have eB:tB np nd (put l q)=.blk 159 [.int .i64 np,.int .i64 nd,.row ((l.map Fa).take (Rt l id)++[Fa q]++(l.map Fa).drop (Rt l id))]:=by
  show OB.blk 159 [.int .i64 np,.int .i64 nd,pts (put l q)]=_;rw[ep]
 rw[eB];refine Fu func132 rfl ?_;exact Ui [2] [0] [.k cf,.c [0] ca,.k cm,.f (by simpa using h0),.f (by simpa using h1),.k cd,.f (by simpa using h2),.f (by simp;omega),.i (Rt l id),.s s1,.i (Rt l id),.s s3] rfl (by
  simp only[U0,Qy,Q5,Jg,Qq,Q7,hll]
  and_intros <;> first|exact Sr l|omega)
def M5(nd:Int)(M:List Pt)(p:Pt):Int:=if XE p=false then 1 else if has M p.id=false then 5 else if nd<PT p.c then 7 else 0
theorem Qnz{lx ly:Ut}{px py:Un}{x y:LV}{d id np nd:Int}{l:List Pt}(hx:IsInts lx px)(hy:IsInts ly py)(hd:Gb x y d)(hk:Cs 4294967294 1073741824 (Crv.mk px py d))(hl:l.length<=1000000) :
 U5 prog 114 [.one (.ow 0 0),.agg [.row lx,.row ly,x,y,.int .i64 id]] [tB np nd l] [.oi (M5 nd l (Pt.mk (Crv.norm (Crv.mk px py d)) id))] [tB np nd (if M5 nd l (Pt.mk (Crv.norm (Crv.mk px py d)) id)=0 then l.set (Rt l id) (Pt.mk (Crv.norm (Crv.mk px py d)) id)else l)]:=by
 have cf:=HM hx hy hd hk id;have hkn:=hk.norm (by omega);have hnm:=Crv.nml (Crv.mk px py d);obtain⟨b,r,rfl,rfl,_⟩:=hd;obtain⟨q,hq⟩:=nmE (Pt.mk (Crv.norm (Crv.mk px py d)) id);have hqi:q.id=id:=by rw[hq]
 have hqc:q.c=Crv.norm (Crv.mk px py d):=by rw[hq]
 rw[<-hq]at cf ⊢;rw[<-hqc]at hkn hnm;have ca:U5 prog 183 [.one (.ow 0 0),.oi q.id] [tB np nd l] [.oi (Rt l id:Int),.one (.bool (has l id))] [tB np nd l]:=by rw[hqi];exact eQ id (by omega)
 have cm:=Qgf (p:=q) hkn;have cd:=Qfn hnm hkn;have hpl:=yO l id;have hll:(l.map Fa).length=l.length:=by simp
 by_cases h0:XE q=false
 ·have e:M5 nd l q=1:=by simp[M5,h0]
  rw[e,if_neg (by decide)];refine Fu func114 rfl ?_;exact Ui [] [0] [.k cf,.c [0] ca,.k cm,.t (by simp[h0])] rfl
 by_cases h1:has l id=false
 ·have e:M5 nd l q=5:=by simp[M5,h0,hqi,h1]
  rw[e,if_neg (by decide)];refine Fu func114 rfl ?_;exact Ui [] [0] [.k cf,.c [0] ca,.k cm,.f (by simpa using h0),.t (by simp[h1])] rfl
 by_cases h2:nd<PT q.c
 ·have e:M5 nd l q=7:=by simp[M5,h0,hqi,h1,h2]
  rw[e,if_neg (by decide)];refine Fu func114 rfl ?_;exact Ui [] [0] [.k cf,.c [0] ca,.k cm,.f (by simpa using h0),.f (by simpa using h1),.k cd,.t (by simpa using h2)] rfl
 have e:M5 nd l q=0:=by simp[M5,h0,hqi,h1,h2]
 rw[e,if_pos rfl];have hh:has l id=true:=by simpa using h1
 have hps:=YL hh;have eB:tB np nd (l.set (Rt l id) q)=.blk 159 [.int .i64 np,.int .i64 nd,.row ((l.map Fa).set (Rt l id) (Fa q))]:=by
  show OB.blk 159 [.int .i64 np,.int .i64 nd,pts (l.set (Rt l id) q)]=_;unfold pts;rw[List.map_set]
 rw[eB];refine Fu func114 rfl ?_;exact Ui [2] [0] [.k cf,.c [0] ca,.k cm,.f (by simpa using h0),.f (by simpa using h1),.k cd,.f (by simpa using h2),.s (Sr l),.i (Rt l id)] rfl (by
  simp only[U0,hll]
  and_intros <;> first|exact Sr l|omega)
theorem Qny{id np nd:Int}{l:List Pt}(hl:l.length<=1000000)(h:has l id=true) :
 U5 prog 133 [.one (.ow 0 0),.oi id] [tB np nd l] [.oi 0] [tB np nd (l.take (Rt l id)++l.drop (Rt l id+1))]:=by
 have ca:=eQ (np:=np) (nd:=nd) (l:=l) id (by omega);have hpl:=YL h;rw[h]at ca;have hll:(l.map Fa).length=l.length:=by simp
 have s1:∀c∈(l.map Fa).take (Rt l id),c.length=5:=λc hc=>Sr l c (Qn hc)
 have s3:∀c∈(l.map Fa).drop (Rt l id+1),c.length=5:=λc hc=>Sr l c (Qz hc)
 have eB:tB np nd (l.take (Rt l id)++l.drop (Rt l id+1))=.blk 159 [.int .i64 np,.int .i64 nd,.row ((l.map Fa).take (Rt l id)++(l.map Fa).drop (Rt l id+1))]:=by
  show OB.blk 159 [.int .i64 np,.int .i64 nd,pts (l.take (Rt l id)++l.drop (Rt l id+1))]=_;unfold pts;rw[List.map_append,List.map_take,List.map_drop]
 rw[eB];refine Fu func133 rfl ?_;exact Ui [1] [0] [.c [0] ca,.f rfl,.i (Rt l id),.s s1,.i (Rt l id+1),.s s3] rfl (by
  simp only[U0,Qy,Q5,Jg,Qq,Q7,hll]
  and_intros <;> first|exact Sr l|omega)
theorem Qgd{id np nd:Int}{l:List Pt}(hl:l.length<=1000000)(h:has l id=false) :
 U5 prog 133 [.one (.ow 0 0),.oi id] [tB np nd l] [.oi 5] [tB np nd l]:=by
 have ca:=eQ (np:=np) (nd:=nd) (l:=l) id (by omega);rw[h]at ca;refine Fu func133 rfl ?_;exact Ui [] [0] [.c [0] ca,.t rfl] rfl
theorem Qgb{np nd:Int}{l:List Pt}(hok:∀p∈l,Qaw 4294967294 1073741824 p)(hl:l.length≤1000000):U5 prog 29 [.one (.ow 0 0)] [tB np nd l] [.one (pts l)] [tB np nd l]:=by
 have hll:(l.map Fa).length=l.length:=by simp
 refine Fu func29 rfl ?_;refine Ue [.o 3 40 5] rfl ?_;refine Uj (S:=Nat) 2 (λL1 i=>(11,.v (.oi i))::(3,.v (.one (.orow 1 5 none)))::L1) (λi=>[tB np nd l,.row false 40 5 ((l.take i).map Fa)]) (λi=>l.length-i) (λi=>i<=l.length) 0 (Qh _) rfl rfl λi hi=>?_
 by_cases h:i<l.length
 ·obtain⟨p,hp⟩:=gxE (l:=l) (i:=i) h;have hpo:=hok p (Qc hp);have cf:=mU hpo.1 hpo.2;have s2:∀c∈[Fa p],c.length=5:=λc hc=>by rw[Qk.1 hc];rfl
  have hg:(l.take (i+1)).map Fa=(l.take i).map Fa++[Fa p]:=by rw[Z2,hp];simp
  refine Uf [.t (by simp;omega),.x (Tf hp),.k cf,.s s2] rfl ?_;exact rd (i+1) (by omega) h (by rw[hg];rfl)
 ·obtain rfl:i=l.length:=by omega
  rw[Q6];exact Ui [1] [0] [.f (by simp)] rfl
theorem Qgc{np nd:Int}{l:List Pt}:U5 prog 62 [.one (.ow 0 0)] [tB np nd l] [.one (.ow 1 0)] [tB np nd l,tB np nd l]:=by
 refine Fu func62 rfl ?_;exact Ui [] [0,1] [] rfl
end Orr
