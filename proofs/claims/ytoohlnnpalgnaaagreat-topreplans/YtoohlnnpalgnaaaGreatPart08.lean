/- H1 HullQ HullS HullT PairQ PW1 DigL R1 R2 S2 S3 NewsN PW2 TouL TouQ MeshN EnL KT EnS SD1 En1 -/
import Derived.Test.YtoohlnnpalgnaaaGreatPart07
import Derived.Test.YtoohlnnpalgnaaaGreatPart05
import Derived.Test.YtoohlnnpalgnaaaGreatPart00
import Derived.Test.YtoohlnnpalgnaaaGreatPart04
set_option linter.all false
namespace Orr
open Go Go.Proofs Tryz Orq
set_option maxRecDepth 10000
theorem gz{P:Program}[Mo P]{n:Nat}{Q:Exit->Sg->Ut->Prop}{L L':Sg}{B B':Ut}(i:Nat){it:List It}(hs:Rm it=true)(h:Qdc [i] L B=some (L',B'))(k:AK P n Q it L' B'):AK P n Q it L B:=AK.sub (GU h) hs k
theorem EN{r:Un}{i:Nat}{p:Um}(h:r[i]? = some p):(JB r)[i]? = some [pl p]:=G6 h
theorem Ac{l:List Un}{i:Nat}{r:Un}(h:l[i]? = some r):(Io l)[i]? = some [.row (JB r)]:=G6 h
theorem Qeq{r:Un}(ht:∀p∈r,Fg p)(hb:∀p∈r,Bd 1000000 p)(hl:∀p∈r,p.length≤1000000)(hn:r.length≤1000):Uj 277 [.one (.row (JB r))] [.one (.row (JB r))]:=by
 have hrl:(JB r).length=r.length:=by simp
 refine Fx func277 rfl ?_;refine Ud [.o 3 33 1] rfl ?_;refine Ui (S:=Nat) 1 (λL1 i=>(8,.v (.oi i))::(3,.v (.one (.orow 0 1 none)))::L1) (λi=>[.row false 33 1 (JB (r.take i))]) (λi=>r.length-i) (λi=>i<=r.length) 0 (Qh _) rfl rfl λi hi=>?_
 by_cases h:i<r.length
 ·obtain⟨p,hp⟩:=gxE (l:=r) (i:=i) h;have hm:=Qc hp;have hs:∀y∈[[pl p]],y.length=1:=λy hy=>by rw[Qk.1 hy];rfl
  have e:JB (r.take (i+1))=JB (r.take i)++[[pl p]]:=by rw[Zv,hp];simp
  refine go tt [.T,.x (EN hp),.k (Hu (ht p hm) (by have:=hl p hm;omega) (U6 (hb p hm) (by decide))),.s (sz:=1) hs] rfl (by simp[U4] <;> omega) ?_;exact rd (i+1) (by omega) h (by rw[e];rfl)
 ·obtain rfl:i=r.length:=by omega
  rw[Q6];exact Uf [.F] rfl
theorem Qyc{s k w:Nat}{ds:Uo}{rows:List Un}(h:Sq s ds k k rows)(_hw:w=k)(hk:k<=4):Uj 315 [.one (.row (Io rows))] [.one (.bool true)]:=by
 have hrl:=VQ rows;have hl:=h.l;refine Fx func315 rfl ?_;refine Ud [] rfl ?_;refine Ui (S:=Nat) 0 (λL1 i=>(7,.v (.oi i))::L1) (λ_=>[]) (λi=>rows.length-i) (λi=>i<=rows.length) 0 (Qh _) rfl rfl λi hi=>?_
 by_cases hlt:i<rows.length
 ·obtain⟨r,hr⟩:=gxE (l:=rows) (i:=i) hlt;have hw:=h.w r (Qc hr);have hql:(JB r).length=r.length:=by simp
  refine go tt [.T,.x (Ac hr),.f (decide_eq_false (λh=>h (by omega)))] rfl (by simp[U4] <;> omega) ?_;exact rd (i+1) (by omega) hlt rfl
 ·exact Uf [.F] rfl (by rw[decide_eq_true (by omega:((Io rows).length:Int)<=4)]) trivial
theorem Qn4{s k w:Nat}{ds:Uo}{rows:List Un}(h:Sq s ds k w rows)(hs:s<=1000000)(hk:k<=4)(hw:w<=4)(hd:∀j,ds.getD j 0<=1000)(i:Nat):Uj 337 [.oi i,.oi 0,.one (.row (Io rows))] [.one (.row (Io (VM rows i)))]:=by
 have hrl:=VQ rows;have hl:=h.l;have hml:∀j,j<=rows.length->(Io (JJ i rows j)).length<=4:=λj hj=>by
  rw[VQ,LR];split <;> omega
 refine Fx func337 rfl ?_;refine Ud [.o 7 340 1] rfl ?_;refine Ui (S:=Nat) 1 (λL1 j=>(15,.v (.oi j))::(7,.v (.one (.orow 0 1 none)))::L1) (λj=>[.row false 340 1 (Io (JJ i rows j))]) (λj=>rows.length-j) (λj=>j<=rows.length) 0 (Qh _) rfl rfl λj hj=>?_
 have hmlj:=hml j hj;by_cases hlt:j<rows.length
 ·obtain⟨r,hr⟩:=gxE (l:=rows) (i:=j) hlt;have hm:=Qc hr;have hw:=h.w r hm;have hql:(JB r).length=r.length:=by simp
  by_cases hij:j=i
  ·have e:JJ i rows (j+1)=JJ i rows j:=by simp only[JJ];rw[if_pos hij]
   refine go tt [.T,.x (Ac hr),.T] rfl (by simp[U4] <;> omega) ?_;exact rd (j+1) (by omega) hlt (by rw[e];rfl)
  ·have e:JJ i rows (j+1)=JJ i rows j++[r.drop 1]:=by
    simp only[JJ];rw[if_neg hij,Qi,hr];rfl
   refine Ud [.T,.x (Ac hr),.F,.o 10 33 1] rfl ?_ (by simp[U4]);refine Ui (S:=Nat) 2 (λL1 c=>(25,.v (.oi c))::(10,.v (.one (.orow 1 1 none)))::L1) (λc=>[.row false 340 1 (Io (JJ i rows j)),.row false 33 1 (JB ((r.take c).drop 1))]) (λc=>r.length-c) (λc=>c<=r.length) 0 (Qh _) rfl rfl λc hc=>?_
   by_cases hcl:c<r.length
   ·obtain⟨p,hp⟩:=gxE (l:=r) (i:=c) hcl;have hpm:=Qc hp;by_cases h0:c=0
    ·subst h0;refine Ud [.T,.x (EN hp),.f (decide_eq_false (by simp))] rfl ?_ (by simp[U4]);exact rd 1 (by omega) hcl (by rw[Zv,hp];rfl)
    ·have hs1:∀y∈[[pl p]],y.length=1:=λy hy=>by rw[Qk.1 hy];rfl
     have e2:JB ((r.take (c+1)).drop 1)=JB ((r.take c).drop 1)++[[pl p]]:=by
      rw[Zv,hp,Wg (by rw[Qp];omega)];simp
     refine go tt [.T,.x (EN hp),.T,.k (Hu (h.t r hm p hpm) (by have:=h.n r hm c p hp;have:=hd c;omega) (U6 (h.b r hm p hpm) (by omega))),.s (sz:=1) hs1] rfl (by simp[U4] <;> omega) ?_;exact rd (c+1) (by omega) hcl (by rw[e2];rfl)
   ·obtain rfl:c=r.length:=by omega
    rw[Q6];have hs1:∀y∈[[LV.row (JB (r.drop 1))]],y.length=1:=λy hy=>by rw[Qk.1 hy];rfl
    refine Ud [.F] rfl ?_;refine gz 1 rfl rfl ?_;refine go tt [.s (sz:=1) hs1] rfl (by simp[U4] <;> omega) ?_;exact rd (j+1) (by omega) hlt (by rw[e];simp[Io];rfl)
 ·obtain rfl:j=rows.length:=by omega
  exact Uf [.F] rfl
theorem SB:∀(ds:Uo) (j:Nat),ds.getD j 0<=ds.sum
 | [],j=>by simp
 |d::ds,0=>by simp
 |
  d::ds,j+1=>by
  have:=SB ds j;rw[Ku];show ds.getD j 0<=_;omega
theorem Qr8{s:Nat}(hs:s<=100000):∀(k:Nat) (ds:Uo) (rows:List Un),k<=4->ds.length=k->ds.sum<31->Sq s ds k k rows->Uj 316 [.one (.row (Io rows))] [pr (Lr k rows)]
 |
  0,ds,rows,_,_,_,h=>by
  have e:=Qj h.l;subst e;have co:=lT (p:=[1]) (by decide) (by decide);exact Ug func316 rfl [.t rfl,.k co] rfl
 |k+1,[],_,_,hl,_,_=>by simp at hl
 |
  k+1,d::ds,rows,hk,hl,hd,h=>by
  rw[Ku]at hd;have hl':ds.length=k:=by simpa using hl
  have hrl:=VQ rows;have hrn:=h.l;have hmin:=λi (hi:i<k+1)=>h.min hi
  have ih:=λi (hi:i<k+1)=>Qr8 hs k ds (VM rows i) (by omega) hl' (by omega) (hmin i hi)
  have hok:=λi (hi:i<k+1)=>NV k ds (VM rows i) (by omega) hl' (by omega) (hmin i hi)
  have hb:k*(s+10)+1<=500000:=by
   have:k*(s+10)<=4*(100010):=Zc (by omega) (by omega);omega
  have hds:=jS (f:=λi=>Lr k (VM rows i)) (B:=k*(s+10)+1) (L:=ds.sum) h (by omega) (λi hi=>⟨(hok i hi).2.1,(hok i hi).2.2⟩);have cm:=Qn4 h (by omega) hk hk (λj=>by have:=SB (d::ds) j;rw[Ku]at this;omega);show Uj 316 [.one (.row (Io rows))] [pr (Ds (λi=>Lr k (VM rows i)) rows (k+1))];obtain⟨f,hf⟩:=nmE (λi=>Lr k (VM rows i));rw[<-hf]at hds ⊢;have hfi:∀i,f i=Lr k (VM rows i):=λi=>by rw[hf]
  refine Fx func316 rfl ?_;refine Ud [.F,.z 3] rfl ?_;refine Ui (S:=Nat) 0 (λL1 i=>(14,.v (.oi i))::(3,.v (pr (Ds f rows i)))::L1) (λ_=>[]) (λi=>k+1-i) (λi=>i<=k+1) 0 (Qh _) rfl rfl λi hi=>?_
  obtain⟨d1,d2,d3⟩:=hds i hi;by_cases hlt:i<k+1
  ·obtain⟨p,r,hr,e,t,b,l⟩:=h.at hlt;have hx0:(JB (p::r))[0]? = some [pl p]:=rfl;have hpl:(p.map G9).length=p.length:=by simp
   have cn:=Hu t (by omega) (U6 b (by omega));by_cases h0:p.length=0
   ·have es:Ds f rows (i+1)=Ds f rows i:=by simp only[Ds];rw[e,if_pos h0]
    refine go tt [.T,.x (Ac hr),.x hx0,.k cn,.T] rfl (by simp[U4] <;> omega) ?_;exact rd (i+1) (by omega) hlt (by rw[es];rfl)
   ·obtain⟨k1,k2,k3⟩:=hok i hlt;have ci:=ih i hlt;have cp:=KN (p:=p) (q:=f i) t (by rw[hfi];exact k1) (by omega) (by rw[hfi];omega) b (by rw[hfi];exact k2) (by omega);have hmb:Bd (s+(k*(s+10)+1)+5) (Gm p (f i)):=Po b (by rw[hfi];exact k2) (by omega);have hml:=Tx p (f i);have hfl:(f i).length<=ds.sum+1:=by rw[hfi];exact k3
    rw[<-hfi]at ci;by_cases h2:i % 2=0
    ·have es:Ds f rows (i+1)=A8 (Ds f rows i) (Gm p (f i)):=by simp only[Ds];rw[e,if_neg h0,if_pos h2]
     refine go tt [.T,.x (Ac hr),.x hx0,.k cn,.F,.x hx0,.k (cm i),.k ci,.k cp,.r 34 (eI (b:=((i % 2:Nat):Int)) rfl),.T,.k (BM (p:=Ds f rows i) (q:=Gm p (f i)) (by omega) (by omega) (U6 d2 (by omega)) (U6 hmb (by omega)))] rfl (by simp[U4] <;> omega) ?_;exact rd (i+1) (by omega) hlt (by rw[es];rfl)
    ·have es:Ds f rows (i+1)=Nf (Ds f rows i) (Gm p (f i)):=by simp only[Ds];rw[e,if_neg h0,if_neg h2]
     refine go tt [.T,.x (Ac hr),.x hx0,.k cn,.F,.x hx0,.k (cm i),.k ci,.k cp,.r 34 (eI (b:=((i % 2:Nat):Int)) rfl),.F,.k (HC (p:=Ds f rows i) (q:=Gm p (f i)) (by omega) (by omega) (U6 d2 (by omega)) (U6 hmb (by omega)))] rfl (by simp[U4] <;> omega) ?_;exact rd (i+1) (by omega) hlt (by rw[es];rfl)
  ·obtain rfl:i=k+1:=by omega
   exact Uf [.F] rfl
theorem Qr2{s:Nat}(hs:s<=100000){k:Nat}{ds:Uo}{rows:List Un}(hk:k<=4)(hl:ds.length=k)(hd:ds.sum<31)(h:Sq s ds k k rows):Uj 278 [.one (.row (Io rows))] [pr (Lr k rows),.oi 0] :=
 Ug func278 rfl [.k (Qyc h rfl hk),.f rfl,.k (Qr8 hs k ds rows hk hl hd h)] rfl
theorem mS{k:Crv}(hk:Sc k):Uj 276 [.agg (cl k)] [.one (.row (JB [k.x,k.y,[k.d]]))]:=by
 have h0:k.d≠0:=by have:=hk.n.2.2.1;omega
 have td:Fg [k.d]:=by unfold Fg;simp[trim,h0]
 have cd:=Qeq (r:=[k.x,k.y,[k.d]]) (λp hp=>by
  rcases Qn.1 hp with rfl|hp
  ·exact hk.n.1
  rcases Qn.1 hp with rfl|hp
  ·exact hk.n.2.1
  ·rw[Qk.1 hp];exact td) (λp hp=>by
  rcases Qn.1 hp with rfl|hp
  ·exact U6 hk.c.x (by decide)
  rcases Qn.1 hp with rfl|hp
  ·exact U6 hk.c.y (by decide)
  ·rw[Qk.1 hp];intro z hz;rw[Qk.1 hz];exact Qa hk.c.d (by decide)) (λp hp=>by
  rcases Qn.1 hp with rfl|hp
  ·have:=hk.c.lx;omega
  rcases Qn.1 hp with rfl|hp
  ·have:=hk.c.ly;omega
  ·rw[Qk.1 hp];show 1<=1000000;decide) (by show 3<=1000;decide)
 exact Ug func276 rfl [.k (D2 hk.n (hk.c.mono (by decide) (by decide))),.k cd] rfl
theorem sK{a b c:Crv}(ha:Sc a)(hb:Sc b)(hc:Sc c):Sq 128 [2,2,0] 3 3 (rU a b c):=by
 have key:∀k:Crv,Sc k->(∀p∈[k.x,k.y,[k.d]],Fg p/\Bd 128 p)/\∀(j:Nat) (p:Um),[k.x,k.y,[k.d]][j]? = some p->p.length≤[2,2,0].getD j 0+1:=λk hk=>by
  have h0:k.d≠0:=by have:=hk.n.2.2.1;omega
  have td:Fg [k.d]:=by unfold Fg;simp[trim,h0]
  refine⟨λp hp=>?_,λj p hp=>?_⟩
  ·rcases Qn.1 hp with rfl|hp
   ·exact⟨hk.n.1,hk.c.x⟩
   rcases Qn.1 hp with rfl|hp
   ·exact⟨hk.n.2.1,hk.c.y⟩
   ·rw[Qk.1 hp];exact⟨td,λz hz=>by rw[Qk.1 hz];exact hk.c.d⟩
  ·match j,hp with
   | 0,hp=>injection hp with hp;subst hp;exact hk.c.lx
   | 1,hp=>injection hp with hp;subst hp;exact hk.c.ly
   | 2,hp=>injection hp with hp;subst hp;exact Ql _
   |j+3,hp=>simp at hp
 have hr:∀r∈rU a b c,∃k:Crv,Sc k/\r=[k.x,k.y,[k.d]]:=λr hr=>by
  rcases Qn.1 hr with rfl|hr
  ·exact⟨a,ha,rfl⟩
  rcases Qn.1 hr with rfl|hr
  ·exact⟨b,hb,rfl⟩
  ·rw[Qk.1 hr];exact⟨c,hc,rfl⟩
 refine⟨rfl,λr h=>?_,λr h p hp=>?_,λr h p hp=>?_,λr h j p hp=>?_⟩
 all_goals obtain⟨k,hk,rfl⟩:=hr r h
 ·rfl
 ·exact((key k hk).1 p hp).1
 ·exact((key k hk).1 p hp).2
 ·exact(key k hk).2 j p hp
theorem YH{a b c:Crv}(ha:Sc a)(hb:Sc b)(hc:Sc c):Cp (Hi a b c):=by
 obtain⟨h1,h2,h3⟩:=NV 3 [2,2,0] (rU a b c) (by decide) rfl (by decide) (sK ha hb hc);exact⟨h1,Qa h3 (by decide),U6 h2 (by decide)⟩
theorem wP{a b c:Crv}(ha:Sc a)(hb:Sc b)(hc:Sc c):Uj 237 [.agg (cl a),.agg (cl b),.agg (cl c)] [pr (Hi a b c)]:=by
 have cd:=Qr2 (by decide) (k:=3) (ds:=[2,2,0]) (by decide) rfl (by decide) (sK ha hb hc);exact Ug func237 rfl [.k (mS ha),.k (mS hb),.k (mS hc),.k cd] rfl
end Orr
namespace Orq
open Orr Go
theorem AH{p q:Um}(tp:Fg p)(tq:Fg q)(h:∀i,p.getD i 0=q.getD i 0):p=q:=by
 have hl:∀{p q:Um},Fg p->(∀i,p.getD i 0=q.getD i 0)->p.length<=q.length:=λ{p q} tp h=>by
  refine Nat.not_lt.1 λhn=>?_
  have h1:=H6 tp (by omega);rw[h,Qi,Qw (by omega)]at h1;exact h1 rfl
 have e:=Kb (hl tp h) (hl tq λi=>(h i).symm);refine List.ext_getElem e λi h1 h2=>?_
 have:=h i;rw[Qi,Qi,Qe h1,Qe h2]at this;exact this
theorem fR{p:Um}(h:p=[])(i:Nat):p.getD i 0=0:=by rw[h];simp
theorem C0(p:Um)(c:Int)(i:Nat):(Fq p c).getD i 0=p.getD i 0*c:=by
 unfold Fq;rw[Pf]
 split
 ·rfl
 ·rename_i h;rw[Qi,Qw (by omega)];simp
theorem ES(p q:Um)(i:Nat):(Nf p q).getD i 0=p.getD i 0-q.getD i 0:=by
 unfold Nf;rw[Pf]
 split
 ·rfl
 ·rename_i h;rw[Qi,Qi,Qw (by omega),Qw (by omega)];simp
theorem Qpw{x y:Crv}(hx:ZI x)(hy:ZI y)(h1:Gp x y=[])(h2:Gn x y=[]):x=y:=by
 have e1:∀i,y.x.getD i 0*x.d=x.x.getD i 0*y.d:=λi=>by
  have:=fR h1 i;unfold Gp at this;rw[ES,C0,C0]at this;omega
 have e2:∀i,y.y.getD i 0*x.d=x.y.getD i 0*y.d:=λi=>by
  have:=fR h2 i;unfold Gn at this;rw[ES,C0,C0]at this;omega
 have key:∀{x y:Crv},ZI x->ZI y->(∀i,y.x.getD i 0*x.d=x.x.getD i 0*y.d)->(∀i,y.y.getD i 0*x.d=x.y.getD i 0*y.d)->x.d∣y.d:=λ{x y} hx hy e1 e2=>by
  have hd:=uL (d:=x.d) (l:=(x.d::(x.x++x.y)).map (· * y.d)) λz hz=>by
   obtain⟨w,hw,rfl⟩:=Za.1 hz;rcases Qn.1 hw with rfl|hw
   ·exact Int.dvd_mul_right _ _
   ·rcases Qq.1 hw with hw|hw
    ·obtain⟨i,hi,rfl⟩:=V1.1 hw;have:=e1 i;rw[show x.x.getD i 0=x.x[i] from by rw[Qi,Qe hi];rfl]at this;rw[<-this];exact Vb _ _
    ·obtain⟨i,hi,rfl⟩:=V1.1 hw;have:=e2 i;rw[show x.y.getD i 0=x.y[i] from by rw[Qi,Qe hi];rfl]at this;rw[<-this];exact Vb _ _
  rw[fG,hx.2.2.2,Wn]at hd;exact V6 hd (Int.natAbs_dvd.2 (K7 _))
 have hd:x.d=y.d:=Int.dvd_antisymm (Int.le_of_lt hx.2.2.1) (Int.le_of_lt hy.2.2.1) (key hx hy e1 e2) (key hy hx (λi=>(e1 i).symm) λi=>(e2 i).symm);have hd0:y.d≠0:=by have:=hy.2.2.1;omega
 rw[hd]at e1 e2;have ex:x.x=y.x:=AH hx.1 hy.1 λi=>(Y4 hd0 (e1 i)).symm
 have ey:x.y=y.y:=AH hx.2.1 hy.2.1 λi=>(Y4 hd0 (e2 i)).symm
 cases x;cases y;simp only at hd ex ey;rw[hd,ex,ey]
theorem Qre(l:List Pt):(Tq l).Pairwise λx y=>x.c≠y.c:=by
 have key:∀(l out:List Pt),out.Pairwise (λx y=>x.c≠y.c)->(l.foldl Cc out).Pairwise λx y=>x.c≠y.c:=by
  intro l
  induction l with
  |nil=>intro out h;exact h
  |
   cons p l ih =>
   intro out h;refine ih _ ?_;unfold Cc
   split
   ·exact h
   ·rename_i hn;refine Xw.2 ⟨h,Kl _ _,λa ha b hb e=>hn ?_⟩;rw[Qk.1 hb]at e;rw[List.any_eq_true];exact⟨a,ha,by rw[<-e];simp[Eh]⟩
 exact key l [] .nil
theorem Qlt(l:List Pt):(Tq l).Sublist l:=by
 have key:∀(l out o:List Pt),out.Sublist o->(l.foldl Cc out).Sublist (o++l):=by
  intro l
  induction l with
  |nil=>intro out o h;rw[Zw];exact h
  |
   cons p l ih =>
   intro out o h;have:(Cc out p).Sublist (o++[p]):=by
    unfold Cc
    split
    ·exact h.trans (List.sublist_append_left _ _)
    ·exact h.append (List.Sublist.refl _)
   have:=ih _ _ this;rwa[Zd]at this
 exact key l [] [] (List.Sublist.refl _)
theorem Ow(f:Nat->Um)(rows:List Un)(q:Rat)(i:Nat):Fa (Ds f rows (i+1)) q=Fa (Ds f rows i) q+(if i % 2=0 then 1 else -1)*(Fa ((rows.getD i []).getD 0 []) q*Fa (f i) q):=by
 simp only[Ds]
 split
 ·rename_i h;have:Fa ((rows.getD i []).getD 0 []) q=0:=by rw[Qj h];rfl
  rw[this];grind
 ·split
  ·rw[EX,Gl];grind
  ·rw[Np,Gl];grind
theorem oY(z:Int)(q:Rat):Fa [z] q=(z:Rat):=by simp[Fa,Rat.add_zero]
theorem rP(p:Um)(q:Rat):Fa (Lr 1 [[p]]) q=Fa p q:=by
 show Fa (Ds (λi=>Lr 0 (VM [[p]] i)) [[p]] (0+1)) q=_;rw[Ow];show(0:Rat)+1*(Fa p q*Fa [1] q)=_;rw[oY];have:((1:Int):Rat)=1:=rfl;grind
theorem EZ(p r s t:Um)(q:Rat):Fa (Lr 2 [[p,r],[s,t]]) q=Fa p q*Fa t q-Fa s q*Fa r q:=by
 show Fa (Ds (λi=>Lr 1 (VM [[p,r],[s,t]] i)) [[p,r],[s,t]] (0+1+1)) q=_;rw[Ow,Ow];show(0:Rat)+1*(Fa p q*Fa (Lr 1 [[t]]) q)+(-1)*(Fa s q*Fa (Lr 1 [[r]]) q)=_;rw[rP,rP];grind
theorem Qjs(a1 a2 a3 b1 b2 b3 c1 c2 c3:Um)(q:Rat):Fa (Lr 3 [[a1,a2,a3],[b1,b2,b3],[c1,c2,c3]]) q=Fa a1 q*(Fa b2 q*Fa c3 q-Fa c2 q*Fa b3 q)-Fa b1 q*(Fa a2 q*Fa c3 q-Fa c2 q*Fa a3 q)+Fa c1 q*(Fa a2 q*Fa b3 q-Fa b2 q*Fa a3 q):=by
 show Fa (Ds (λi=>Lr 2 (VM [[a1,a2,a3],[b1,b2,b3],[c1,c2,c3]] i)) [[a1,a2,a3],[b1,b2,b3],[c1,c2,c3]] (0+1+1+1)) q=_;rw[Ow,Ow,Ow];show(0:Rat)+1*(Fa a1 q*Fa (Lr 2 [[b2,b3],[c2,c3]]) q)+(-1)*(Fa b1 q*Fa (Lr 2 [[a2,a3],[c2,c3]]) q)+1*(Fa c1 q*Fa (Lr 2 [[a2,a3],[b2,b3]]) q)=_;rw[EZ,EZ,EZ];grind
theorem dZ{a b c:Pt}(ha:Sc a.c)(hb:Sc b.c)(hc:Sc c.c)(q:Rat):Fh (Fa (Hi a.c b.c c.c) q)=Fh (Bp (px · q) (py · q) a b c):=by
 have Rk:∀{k:Crv},Sc k->(0:Rat)<(k.d:Rat):=λh=>by exact_mod_cast h.n.2.2.1
 have pa:=Rk ha;have pb:=Rk hb;have pc:=Rk hc;have xx:∀{p:Pt},0<(p.c.d:Rat)->Fa p.c.x q=px p q*(p.c.d:Rat)/\Fa p.c.y q=py p q*(p.c.d:Rat):=λ{p} h=>by
  unfold px py;exact⟨(Zj (by grind)).symm,(Zj (by grind)).symm⟩
 obtain⟨xa,ya⟩:=xx pa;obtain⟨xb,yb⟩:=xx pb;obtain⟨xc,yc⟩:=xx pc;have e:Fa (Hi a.c b.c c.c) q=((a.c.d:Rat)*(b.c.d:Rat)*(c.c.d:Rat))*Bp (px · q) (py · q) a b c:=by
  unfold Hi rU Bp;rw[Qjs,oY,oY,oY,xa,xb,xc,ya,yb,yc];grind
 rw[e,C9 (Xs (Xs pa pb) pc)]
def FR(sg:Um->Int)(a b c:Pt):Bool:=decide (0<Hk sg (Hi a.c b.c c.c))
def Pq(sg:Um->Int)(row:List Pt):List Pt:=(P9 (FR sg) [] row).reverse
def Ee(sg:Um->Int)(row:List Pt):List Pt:=if row.length<3 then row else(Pq sg row).dropLast++(Pq sg row.reverse).dropLast
def S9(l:List Pt)(a:Tm):List Pt:=Ee (Fw a) (Sf a (Tq l))
def Rv(C:List Pt):List (Pt×Pt):=C.zip (C.drop 1++C.take 1)
def Lk(sg:Um->Int)(a b c:Pt):Ct:=⟨3,a.id,b.id,c.id,0,Hi a.c b.c c.c,Hk sg (Hi a.c b.c c.c)⟩
def VB(e:Pt×Pt)(c:Pt):Bool:=decide (c.id≠e.1.id) && decide (c.id≠e.2.id)
def Al(sg:Um->Int)(l:List Pt)(e:Pt×Pt):List Ct:=(l.filter (VB e)).map λc=>Lk sg e.1 e.2 c
def Bl(sg:Um->Int)(l C:List Pt):List Ct:=if C.length<2 then []else(Rv C).flatMap (Al sg l)
def BX(l:List Pt)(a:Tm):List Ct:=VI l a++Bl (Fw a) l (S9 l a)
abbrev brH(l:List Pt)(a:Tm):Us:=U3 (S9 l a)
def NA(l:List Pt):Un:=l.flatMap λx=>l.flatMap λy=>l.map λz=>Hi x.c y.c z.c
theorem wJ{l:List Pt}{x y z:Pt}(hx:x∈l)(hy:y∈l)(hz:z∈l):Hi x.c y.c z.c∈NA l :=
 Zo.2 ⟨x,hx,Zo.2 ⟨y,hy,Za.2 ⟨z,hz,rfl⟩⟩⟩
theorem Qmr{l:List Pt}(hl:∀p∈l,Sc p.c):∀p∈NA l,Cp p:=λp hp=>by
 obtain⟨x,hx,hp⟩:=Zo.1 hp;obtain⟨y,hy,hp⟩:=Zo.1 hp;obtain⟨z,hz,rfl⟩:=Za.1 hp;exact YH (hl x hx) (hl y hy) (hl z hz)
theorem EW{α:Type}(s:α->α->α->Bool)(c:α):∀st:List α,(Lt s c st).Sublist st
 | []=>List.Sublist.refl _
 | [_]=>List.Sublist.refl _
 |
  b::a::r=>by
  simp only[Lt]
  split
  ·exact List.Sublist.refl _
  ·exact(EW s c (a::r)).trans (List.sublist_cons_self _ _)
theorem KL{α:Type}{s:α->α->α->Bool}:∀{l acc:List α} {x:α},x∈P9 s acc l->x∈acc\/x∈l
 | [],acc,x,h=>.inl h
 |
  c::l,acc,x,h=>by
  rcases KL (l:=l) h with h|h
  ·rcases Qn.1 h with rfl|h
   ·exact .inr (by simp)
   ·exact .inl ((EW s c acc).subset h)
  ·exact .inr (Qg _ h)
theorem KD{α:Type}(s:α->α->α->Bool):∀(l acc:List α),(P9 s acc l).length<=acc.length+l.length
 | [],acc=>by simp[P9]
 |
  c::l,acc=>by
  have h1:=KD s l (c::Lt s c acc);have h2:=(EW s c acc).length_le;simp only[P9,Q5]at h1 ⊢;omega
theorem CJ{sg:Um->Int}{row:List Pt}{x:Pt}(h:x∈Pq sg row):x∈row:=by
 unfold Pq at h;rcases KL (Jm.1 h)with h|h
 ·cases h
 ·exact h
theorem QT(sg:Um->Int)(row:List Pt):(Pq sg row).length<=row.length:=by
 have:=KD (FR sg) row [];unfold Pq;rw[List.length_reverse];simpa using this
theorem cD{sg:Um->Int}{row:List Pt}{x:Pt}(h:x∈Ee sg row):x∈row:=by
 unfold Ee at h
 split at h
 ·exact h
 ·rcases Qq.1 h with h|h
  ·exact CJ ((List.dropLast_sublist _).subset h)
  ·exact Jm.1 (CJ ((List.dropLast_sublist _).subset h))
theorem cB(sg:Um->Int)(row:List Pt):(Ee sg row).length<=2*row.length:=by
 unfold Ee
 split
 ·omega
 ·have h1:=QT sg row;have h2:=QT sg row.reverse;rw[Xq]at h2;rw[Qu,List.length_dropLast,List.length_dropLast];omega
theorem I9{l:List Pt}{a:Tm}{x:Pt}(h:x∈S9 l a):x∈l:=Nx (Hr.1 (cD h))
theorem YG(l:List Pt)(a:Tm):(S9 l a).length<=2*l.length:=by
 have h1:=cB (Fw a) (Sf a (Tq l));rw[Nu]at h1;have:=QJ l;unfold S9;omega
theorem SR{C:List Pt}{e:Pt×Pt}(h:e∈Rv C):e.1∈C/\e.2∈C:=by
 unfold Rv at h;have h1:=List.of_mem_zip (show(e.1,e.2)∈_ from h);refine⟨h1.1,?_⟩;rcases Qq.1 h1.2 with h|h
 ·exact Qz h
 ·exact Qo h
theorem nN{sg:Um->Int}{l C:List Pt}{x:Ct}(h:x∈Bl sg l C):∃e∈Rv C,∃c∈l,VB e c=true/\x=Lk sg e.1 e.2 c:=by
 unfold Bl at h
 split at h
 ·cases h
 ·obtain⟨e,he,h⟩:=Zo.1 h;obtain⟨c,hc,rfl⟩:=Za.1 h;obtain⟨h1,h2⟩:=Yi.1 hc;exact⟨e,he,c,h1,h2,rfl⟩
theorem xN{l:List Pt}{a:Tm}:∀x∈BX l a,x.p∈Af l++NA l:=λx hx=>by
 rcases Qq.1 hx with hx|hx
 ·exact Ja _ (lW x hx)
 ·obtain⟨e,he,c,hc,_,rfl⟩:=nN hx;obtain⟨h1,h2⟩:=SR he;exact Jh _ (wJ (I9 h1) (I9 h2) hc)
theorem MJ{l:List Pt}(hl:∀p∈l,Sc p.c):∀p∈Af l++NA l,Cp p:=λp hp=>by
 rcases Qq.1 hp with h|h
 ·exact QV hl p h
 ·exact Qmr hl p h
theorem KI{α β:Type}(f:α->List β)(n:Nat):∀(m:List α),(∀x∈m,(f x).length≤n)->(m.flatMap f).length≤m.length*n
 | [],_=>by simp
 |
  x::m,h=>by
  have:=KI f n m λy hy=>h y (Qg _ hy)
  have:=h x (by simp);rw[J1,Qu,Q5,Xa];omega
theorem nM(sg:Um->Int)(l C:List Pt):(Bl sg l C).length<=C.length*l.length:=by
 unfold Bl
 split
 ·simp
 ·refine Qa (KI _ l.length _ λe _=>?_) (Q0 _ ?_)
  ·unfold Al;rw[List.length_map];exact List.length_filter_le _ _
  ·unfold Rv;rw[List.length_zip];exact Nat.min_le_left _ _
theorem pR{l:List Pt}(hl:∀p∈l,Sc p.c)(hn:l.length≤10):BuildOk (BX l) :=
 ⟨λ_ _ x hx=>MJ hl _ (xN x hx),λa _=>by
  have h1:=nM (Fw a) l (S9 l a);have h2:=YG l a;have h3:(S9 l a).length*l.length<=20*10:=Zc (by omega) hn;show(VI l a++Bl (Fw a) l (S9 l a)).length<=1000;have h4:(VI l a).length<=l.length:=by unfold VI;rw[B8,Nu];omega
  rw[Qu];omega⟩
def Ih{α:Type}(l:List α):List (α×α):=l.zip (l.drop 1)
theorem jB{α:Type}{Q:α->α->Prop}:∀{l:List α},Edg Q l↔∀e∈Ih l,Q e.1 e.2
 | []=>by simp[Edg,Ih]
 | [_]=>by simp[Edg,Ih]
 |
  a::b::l=>by
  have ih:=jB (Q:=Q) (l:=b::l);have e:Ih (a::b::l)=(a,b)::Ih (b::l):=rfl;rw[e];constructor
  ·rintro⟨h1,h2⟩ x hx
   rcases Qn.1 hx with rfl|hx
   ·exact h1
   ·exact ih.1 h2 x hx
  ·intro h;exact⟨h (a,b) (by simp),ih.2 λx hx=>h x (Qg _ hx)⟩
theorem CH{α:Type}(f z:α)(A:List α):Ih (f::A++[z])=(f::A).zip (A++[z]):=by
 unfold Ih;rw[Xb,Wh,Xy];have:f::(A++[z])=(f::A)++[z]:=rfl;rw[this];have h:A++[z]=(A++[z])++[]:=(Zw _).symm
 conv=>lhs;rw[h]
 rw[List.zip_append (by simp)];simp
theorem fQ{f z:Pt}{A B:List Pt}:Rv ((f::A++[z]).dropLast++(z::B++[f]).dropLast)=Ih (f::A++[z])++Ih (z::B++[f]):=by
 rw[V0,V0,CH,CH,<-List.zip_append (by simp)];unfold Rv;congr 1;simp
theorem Edg.rev{α:Type}{Q:α->α->Prop}:∀{l:List α},Edg Q l->Edg (λa b=>Q b a) l.reverse:=by
 have app:∀{Q:α->α->Prop} {l:List α} {b a:α},Edg Q (l++[b])->Q b a->Edg Q (l++[b]++[a]):=by
  intro Q l
  induction l with
  |nil=>intro b a _ h;exact⟨h,trivial⟩
  |
   cons x l ih =>
   intro b a h h2;cases l with
   |nil=>exact⟨h.1,ih h.2 h2⟩
   |cons y l=>exact⟨h.1,ih h.2 h2⟩
 intro l
 induction l with
 |nil=>intro _;trivial
 |
  cons a l ih =>
  intro h;cases l with
  |nil=>trivial
  |
   cons b l =>
   have:=ih h.2;rw[Yo]at this ⊢;rw[Yo];exact app this h.1
theorem Cnv.rev{α:Type}{R:α->α->α->Prop}:∀{l:List α},Cnv R l->Cnv (λa b c=>R c b a) l.reverse:=by
 have app:∀{R:α->α->α->Prop} {l:List α} {c b a:α},Cnv R (l++[c,b])->R c b a->Cnv R (l++[c,b,a]):=by
  intro R l
  induction l with
  |nil=>intro c b a _ h;exact⟨h,trivial⟩
  |
   cons x l ih =>
   intro c b a h h2;cases l with
   |nil=>exact⟨h.1,ih h.2 h2⟩
   |
    cons y l =>
    cases l with
    |nil=>exact⟨h.1,ih h.2 h2⟩
    |cons w l=>exact⟨h.1,ih h.2 h2⟩
 intro l
 induction l with
 |nil=>intro _;trivial
 |
  cons a l ih =>
  intro h
  match l,h with
  | [],_=>trivial
  | [_],_=>trivial
  |
   b::c::l,h =>
   have:=ih h.2;rw[Yo,Yo,Zd]at this;rw[Yo,Yo,Yo,Zd,Zd];exact app this h.1
section
variable{α:Type}{lt lt':α->α->Bool}
theorem EU{out:List α}{x:α}(h:∀y∈out,lt x y=lt' x y):∀k,Eb lt out x k=Eb lt' out x k
 | 0=>rfl
 |
  k+1=>by
  simp only[Eb];cases hy:out[k]? with
  |none=>rfl
  |some y=>simp only[h y (Qc hy),EU h k]
theorem SN{l:List α}(h:∀u∈l,∀v∈l,lt u v=lt' u v):∀(m out:List α),(∀x∈m,x∈l)->(∀x∈out,x∈l)->m.foldl (L6 lt) out=m.foldl (L6 lt') out
 | [],_,_,_=>rfl
 |
  x::m,out,h1,h2=>by
  have e:L6 lt out x=L6 lt' out x:=by
   unfold L6;rw[EU λy hy=>h x (h1 x (by simp)) y (h2 y hy)]
  simp only[Z9];rw[e];exact SN h m _ (λy hy=>h1 y (Qg _ hy)) λy hy=>by
   rcases FH.1 hy with rfl|hy
   ·exact h1 _ (by simp)
   ·exact h2 y hy
end
theorem cL{a:Tm}{l:List Pt}{q:Rat}(hb:∀u∈l,∀v∈l,(Tu (Fw a) u v=true↔De q u v))(hd:l.Pairwise λx y=>x.id≠y.id):(Sf a l).Pairwise (De q) :=
 DD (S:=λx=>x∈l) (D:=λx y=>x.id≠y.id) (YL q) (λu v hu hv h=>(hb u hu v hv).1 h) (λu v hu hv hne h=>gY (λe=>hne e.symm) λh'=>by
  rw[(hb u hu v hv).2 h']at h;cases h) l [] .nil (λx hx=>by cases hx) (λx hx=>hx) hd (λx hx=>by cases hx)
theorem Qvl{a:Tm}(ha:Va a){u v:Pt}(hu:Sc u.c)(hv:Sc v.c){q:Rat}(h1:Hk (Fw a) (Gp u.c v.c)=Fh (Fa (Gp u.c v.c) q))(h2:Hk (Fw a) (Gn u.c v.c)=Fh (Fa (Gn u.c v.c) q))(hne:u.c≠v.c)(h:De q u v):lx (px · q) (py · q) u v:=by
 rcases h with h|⟨h,h3⟩
 ·exact .inl h
 rcases h3 with h3|⟨h3,_⟩
 ·exact .inr ⟨h,h3⟩
 ·exfalso;rw[TL hu hv]at h1;rw[TD hu hv]at h2;have z1:Fh (px v q-px u q)=0:=Gs.2 (by grind);have z2:Fh (py v q-py u q)=0:=Gs.2 (by grind);rw[z1]at h1;rw[z2]at h2;have e1:(Gp u.c v.c).length=0:=Decidable.byContradiction λe=>(Er ha (Ni hu hv).dp e).2 h1
  have e2:(Gn u.c v.c).length=0:=Decidable.byContradiction λe=>(Er ha (Nh hu hv).dp e).2 h2
  exact hne (Qpw hu.n hv.n (Qj e1) (Qj e2))
structure LowC(X Y:Pt->Rat)(R L:List Pt):Prop where
 hd:L.head? = R.head?
 la:L.getLast? = R.getLast?
 srt:L.Pairwise (lx X Y)
 mem:∀p∈L,p∈R
 edg:Edg (λa b=>∀p∈R,0≤Bp X Y a b p) L
 cnv:Cnv (λa b c=>0<Bp X Y a b c) L
theorem OQ{X Y:Pt->Rat}{sg:Um->Int}{R:List Pt}(hs:∀a∈R,∀b∈R,∀c∈R,(FR sg a b c=true↔0<Bp X Y a b c))(hR:R.Pairwise (lx X Y))(h0:R≠[]):LowC X Y R (Pq sg R):=by
 cases R with
 |nil=>exact absurd rfl h0
 |
  cons f R =>
  obtain⟨t,st,g1,g2,g3,g4⟩:=OZ hs hR R [f] f [] rfl ⟨Kl _ _,λp hp=>by rw[Qk.1 hp];simp,trivial,trivial⟩ rfl rfl;have e:Pq sg (f::R)=(t::st).reverse:=by
   unfold Pq;rw[<-g1];rfl
  rw[e];exact⟨by rw[List.head?_reverse,g4],by rw[List.getLast?_reverse];exact g3.symm,Ky.2 g2.srt,λp hp=>g2.mem p (Jm.1 hp),g2.edg.rev,g2.cnv.rev⟩
theorem Qwa{X Y:Pt->Rat}{R:List Pt}(hR:R.Pairwise (lx X Y)):∀p∈R,∀q∈R,p=q\/lx X Y p q\/lx X Y q p:=λp hp q hq=>by
 by_cases e:p=q
 ·exact .inl e
 ·exact .inr (zW hR hp hq e)
theorem Qiv{X Y:Pt->Rat}{R L L':List Pt}(hR:R.Pairwise (lx X Y))(h:LowC X Y R L)(h':LowC X Y R L'):L=L':=by
 have hh:=h.hd.trans h'.hd.symm;have hl:=h.la.trans h'.la.symm;cases L with
 |
  nil=>cases L' with
  |nil=>rfl
  |cons _ _=>simp at hh
 |
  cons f M=>cases L' with
  |nil=>simp at hh
  |
   cons f' M' =>
   simp at hh;subst hh;obtain⟨z,hz⟩:∃z,(f::M).getLast? = some z:=⟨_,Yq (by simp)⟩;rw[Qgw (Qwa hR) M M' f h.srt h'.srt h.mem h'.mem h.edg h'.edg h.cnv h'.cnv hz (hl ▸ hz)]
theorem sQ{x y:Rat}(h:Fh x=Fh y):(0<=x->0<=y)/\(0<x->0<y):=by
 have h1:=Gb x;have h2:=Gb y;grind
theorem uV{X Y X' Y':Pt->Rat}{R:List Pt}:∀{L:List Pt},(∀p∈L,p∈R)->(∀e∈Ih L,∀p∈R,Fh (Bp X Y e.1 e.2 p)=Fh (Bp X' Y' e.1 e.2 p))->Cnv (λa b c=>0<Bp X Y a b c) L->Cnv (λa b c=>0<Bp X' Y' a b c) L
 | [],_,_,_=>trivial
 | [_],_,_,_=>trivial
 | [_,_],_,_,_=>trivial
 |a::b::c::l,hm,he,h=>⟨(sQ (he (a,b) (by simp[Ih]) c (hm c (by simp)))).2 h.1,uV (λp hp=>hm p (Qg _ hp)) (λe hx=>he e (Qg _ hx)) h.2⟩
theorem gV{X Y X' Y':Pt->Rat}{R L:List Pt}(h:LowC X Y R L)(hl:∀u∈R,∀v∈R,lx X Y u v->lx X' Y' u v)(he:∀e∈Ih L,∀p∈R,Fh (Bp X Y e.1 e.2 p)=Fh (Bp X' Y' e.1 e.2 p)):LowC X' Y' R L :=
 ⟨h.hd,h.la,h.srt.imp_of_mem λhu hv h'=>hl _ (h.mem _ hu) _ (h.mem _ hv) h',h.mem,jB.2 λe hx p hp=>(sQ (he e hx p hp)).1 (jB.1 h.edg e hx p hp),uV h.mem he h.cnv⟩
theorem yA(X Y:Pt->Rat)(a b c:Pt):Bp (λp=>-X p) (λp=>-Y p) a b c=Bp X Y a b c:=by unfold Bp;grind
theorem yT{X Y:Pt->Rat}{a b:Pt}:lx (λp=>-X p) (λp=>-Y p) a b↔lx X Y b a:=by unfold lx;grind
theorem Qs2{L:List Pt}{f z:Pt}(h1:L.head? = some f)(h2:L.getLast? = some z)(hne:f≠z):∃A,L=f::A++[z]:=by
 cases L with
 |nil=>cases h1
 |
  cons g M =>
  simp at h1;subst h1;cases M with
  |nil=>simp at h2;exact absurd h2 hne
  |
   cons x M =>
   rw[J0]at h2;obtain⟨A,hA⟩:=Y9.1 h2;exact⟨A,by rw[hA];rfl⟩
theorem DN{α β:Type}{f g:α->List β}:∀{m:List α},(∀x∈m,f x=g x)->m.flatMap f=m.flatMap g
 | [],_=>rfl
 |x::m,h=>by rw[J1,J1,h x (by simp),DN λy hy=>h y (Qg _ hy)]
theorem fC{sa sb:Um->Int}{l C:List Pt}(h:∀x∈Bl sa l C,Hk sb x.p=Hk sa x.p):Bl sb l C=Bl sa l C:=by
 by_cases h2:C.length<2
 ·unfold Bl;rw[if_pos h2,if_pos h2]
 ·have e:∀s,Bl s l C=(Rv C).flatMap (Al s l):=λs=>if_neg h2
  rw[e]at h ⊢;rw[e];refine DN λx hx=>Xk λc hc=>?_
  have:=h (Lk sa x.1 x.2 c) (Zo.2 ⟨x,hx,Wi hc⟩);show(⟨3,x.1.id,x.2.id,c.id,0,Hi x.1.c x.2.c c.c,Hk sb (Hi x.1.c x.2.c c.c)⟩:Ct)=⟨3,x.1.id,x.2.id,c.id,0,Hi x.1.c x.2.c c.c,Hk sa (Hi x.1.c x.2.c c.c)⟩;have this:Hk sb (Hi x.1.c x.2.c c.c)=Hk sa (Hi x.1.c x.2.c c.c):=this;rw[this]
theorem Qaf{l:List Pt}(hd:l.Pairwise λx y=>x.id≠y.id){u v:Pt}(hu:u∈l)(hv:v∈l)(h:u.id=v.id):u=v:=by
 refine Classical.byContradiction λe=>?_
 rcases zW hd hu hv e with h'|h'
 ·exact h' h
 ·exact h' h.symm
structure Soon(l:List Pt)(a:Tm)(q:Rat):Prop where
 g:∀p∈Af l++NA l,Hk (Fw a) p=Fh (Fa p q)
 b:∀u∈l,∀v∈l,(Tu (Fw a) u v=true↔De q u v)
 o:∀u∈l,∀v∈l,∀w∈l,Hk (Fw a) (Hi u.c v.c w.c)=Fh (Bp (px · q) (py · q) u v w)
 t:∀u∈l,∀v∈l,∀w∈l,(FR (Fw a) u v w=true↔0<Bp (px · q) (py · q) u v w)
 r:(Sf a (Tq l)).Pairwise (lx (px · q) (py · q))
theorem Qk8{l:List Pt}(hl:∀p∈l,Sc p.c)(hd:l.Pairwise λx y=>x.id≠y.id){a:Tm}(ha:Va a):∃y,Ft a y=-1/\∀q,Ft a q=-1->q≤y->Soon l a q:=by
 obtain⟨y,y1,y2⟩:=XP ha (Af l++NA l) λp hp=>(MJ hl p hp).dp
 refine⟨y,y1,λq q1 q2=>?_⟩;have g:=y2 q q1 q2;have gP:=λp hp=>g p (Ja _ hp)
 have b:∀u∈l,∀v∈l,(Tu (Fw a) u v=true↔De q u v):=λu hu v hv=>BW ha (hl u hu) (hl v hv) (gP _ (Sp hu hv).1) (gP _ (Sp hu hv).2)
 have o:∀u∈l,∀v∈l,∀w∈l,Hk (Fw a) (Hi u.c v.c w.c)=Fh (Bp (px · q) (py · q) u v w):=λu hu v hv w hw=>by
  rw[g _ (Jh _ (wJ hu hv hw)),dZ (hl u hu) (hl v hv) (hl w hw)]
 refine⟨g,b,o,λu hu v hv w hw=>?_,?_⟩
 ·unfold FR;rw[o u hu v hv w hw,decide_eq_true_eq];have:=Gb (Bp (px · q) (py · q) u v w);grind
 ·have hw:∀u∈Tq l,u∈l:=λu hu=>Nx hu
  have h1:=cL (a:=a) (l:=Tq l) (q:=q) (λu hu v hv=>b u (hw u hu) v (hw v hv)) (List.Pairwise.sublist (Qlt l) hd);have h2:(Sf a (Tq l)).Pairwise λx y=>x.c≠y.c:=(List.Perm.pairwise_iff (λ{x y} h e=>h e.symm) (dW (lt:=Tu (Fw a)) (Tq l))).2 (Qre l)
  refine(h1.and h2).imp_of_mem λ{u v} hu hv h=>?_
  have hu:=hw u (Hr.1 hu);have hv:=hw v (Hr.1 hv);exact Qvl ha (hl u hu) (hl v hv) (gP _ (Sp hu hv).1) (gP _ (Sp hu hv).2) h.2 h.1
theorem Qah{l:List Pt}(hl:∀p∈l,Sc p.c)(hd:l.Pairwise λx y=>x.id≠y.id){a:Tm}(ha:Va a):∃q,Soon l a q :=
 let⟨y,h1,h2⟩:=Qk8 hl hd ha
 ⟨y,h2 y h1 Qr⟩
theorem CS{l:List Pt}{a:Tm}{q:Rat}(S:Soon l a q)(h3:3<=(Sf a (Tq l)).length):∃f z A B,Pq (Fw a) (Sf a (Tq l))=f::A++[z]/\Pq (Fw a) (Sf a (Tq l)).reverse=z::B++[f]/\LowC (px · q) (py · q) (Sf a (Tq l)) (f::A++[z])/\LowC (λp=>-px p q) (λp=>-py p q) (Sf a (Tq l)).reverse (z::B++[f])/\Rv (S9 l a)=Ih (f::A++[z])++Ih (z::B++[f])/\2<=(S9 l a).length:=by
 obtain⟨R,hR⟩:=nmE (Sf a (Tq l));have hm:∀x∈R,x∈l:=λx hx=>by rw[hR]at hx;exact Nx (Hr.1 hx)
 have r:=S.r;rw[<-hR]at r h3 ⊢;have h0:R≠[]:=λe=>by rw[e]at h3;simp at h3
 have c1:=OQ (sg:=Fw a) (λu hu v hv w hw=>S.t u (hm u hu) v (hm v hv) w (hm w hw)) r h0;have r2:R.reverse.Pairwise (lx (λp=>-px p q) (λp=>-py p q)):=Ky.2 (r.imp λh=>yT.2 h);have c2:=OQ (sg:=Fw a) (R:=R.reverse) (X:=λp=>-px p q) (Y:=λp=>-py p q) (λu hu v hv w hw=>by
  rw[yA (px · q) (py · q)];exact S.t u (hm u (Jm.1 hu)) v (hm v (Jm.1 hv)) w (hm w (Jm.1 hw))) r2 (by simpa using h0)
 obtain⟨f,hf⟩:∃f,R.head? = some f:=by cases R with
  |nil=>exact absurd rfl h0
  |cons f _=>exact⟨f,rfl⟩
 obtain⟨z,hz⟩:∃z,R.getLast? = some z:=⟨_,Yq h0⟩;have hne:f≠z:=λe=>by
  subst e;cases R with
  |nil=>exact absurd rfl h0
  |
   cons g M =>
   simp at hf;subst hf;cases M with
   |nil=>simp at h3
   |
    cons x M =>
    rw[J0]at hz;exact L8 _ ((Zg.1 r).1 g (V2 hz))
 obtain⟨A,hA⟩:=Qs2 (c1.hd.trans hf) (c1.la.trans hz) hne;obtain⟨B,hB⟩:=Qs2 (c2.hd.trans (by rw[List.head?_reverse];exact hz)) (c2.la.trans (by rw[List.getLast?_reverse];exact hf)) (Ne.symm hne);have hc:S9 l a=(f::A++[z]).dropLast++(z::B++[f]).dropLast:=by
  unfold S9 Ee;rw[<-hR,if_neg (by omega),hA,hB]
 rw[hA]at c1;rw[hB]at c2;refine⟨f,z,A,B,hA,hB,c1,c2,by rw[hc];exact fQ,?_⟩;rw[hc,V0,V0];simp;omega
theorem Qcn{l:List Pt}(hl:∀p∈l,Sc p.c)(hd:l.Pairwise λx y=>x.id≠y.id){a b:Tm}(ha:Va a)(hb:Va b)(h:∀x∈BX l a,Hk (Fw b) x.p=Hk (Fw a) x.p):S9 l b=S9 l a/\BX l b=BX l a:=by
 obtain⟨q,Sa⟩:=Qah hl hd ha;obtain⟨r,Sb⟩:=Qah hl hd hb;obtain⟨k1,k2⟩:=tC hl hd ha hb λx hx=>h x (Ja _ hx)
 have pa:=cL Sa.b hd;have pb:=cL Sb.b hd;rw[k1]at pb;have pab:=pa.and pb;have lexs:∀u∈l,∀v∈l,(De q u v↔De r u v):=λu hu v hv=>by
  by_cases e:u=v
  ·subst e;exact⟨λh=>absurd h (JQ _ _),λh=>absurd h (JQ _ _)⟩
  ·rcases zW pab (Hr.2 hu) (Hr.2 hv) e with h'|h'
   ·exact⟨λ_=>h'.2,λ_=>h'.1⟩
   ·exact⟨λh=>absurd (YL _ _ _ _ h h'.1) (JQ _ _),λh=>absurd (YL _ _ _ _ h h'.2) (JQ _ _)⟩
 have bef:∀u∈l,∀v∈l,Tu (Fw b) u v=Tu (Fw a) u v:=λu hu v hv=>by
  have h1:=Sa.b u hu v hv;have h2:=Sb.b u hu v hv;have h3:=lexs u hu v hv;cases e1:Tu (Fw a) u v <;> cases e2:Tu (Fw b) u v <;> rw[e1]at h1 <;> rw[e2]at h2 <;> simp_all
 have eR:Sf b (Tq l)=Sf a (Tq l):=SN (l:=Tq l) (λu hu v hv=>bef u (Nx hu) v (Nx hv)) (Tq l) [] (λx hx=>hx) λx hx=>by cases hx
 have hm:∀x∈Sf a (Tq l),x∈l:=λx hx=>Nx (Hr.1 hx)
 have rb:=Sb.r;rw[eR]at rb;have hc:S9 l b=S9 l a:=by
  by_cases h3:(Sf a (Tq l)).length<3
  ·unfold S9 Ee;rw[eR,if_pos h3,if_pos h3]
  ·obtain⟨f,z,A,B,hA,hB,c1,c2,hE,hC2⟩:=CS Sa (by omega);obtain⟨f',z',A',B',hA',hB',c1',c2',hE',_⟩:=CS Sb (by rw[eR];omega);rw[eR]at hA' hB' c1' c2';have sgs:∀e∈Rv (S9 l a),∀p∈Sf a (Tq l),Fh (Bp (px · q) (py · q) e.1 e.2 p)=Fh (Bp (px · r) (py · r) e.1 e.2 p):=λe he p hp=>by
    obtain⟨m1,m2⟩:=SR he;have m1:=I9 m1;have m2:=I9 m2;have m3:=hm p hp;by_cases ho:VB e p=true
    ·have hx:Lk (Fw a) e.1 e.2 p∈BX l a:=by
      refine Jh _ ?_;unfold Bl;rw[if_neg (by omega)];exact Zo.2 ⟨e,he,Wi (Yi.2 ⟨m3,ho⟩)⟩
     have hg:Hk (Fw b) (Hi e.1.c e.2.c p.c)=Hk (Fw a) (Hi e.1.c e.2.c p.c):=h _ hx;rw[<-Sa.o _ m1 _ m2 _ m3,<-Sb.o _ m1 _ m2 _ m3,hg]
    ·have hz:∀X Y:Pt->Rat,Bp X Y e.1 e.2 p=0:=λX Y=>by
      by_cases e1:p.id=e.1.id
      ·rw[Qaf hd m3 m1 e1];exact(FO _ _).1
      ·by_cases e2:p.id=e.2.id
       ·rw[Qaf hd m3 m2 e2];exact(FO _ _).2
       ·exact absurd (by simp[VB,e1,e2]) ho
     rw[hz,hz]
   have hlx:∀u∈Sf a (Tq l),∀v∈Sf a (Tq l),lx (px · q) (py · q) u v->lx (px · r) (py · r) u v:=λu hu v hv huv=>by
    have ra:=Sa.r;by_cases e:u=v
    ·subst e;exact absurd huv (L8 _)
    ·rcases zW (ra.and rb) hu hv e with h'|h'
     ·exact h'.2
     ·exact absurd (gU huv h'.1) (L8 _)
   have e1:=Qiv rb (gV c1 hlx λe he=>sgs e (by rw[hE];exact Ja _ he)) c1';have rb2:(Sf a (Tq l)).reverse.Pairwise (lx (λp=>-px p r) (λp=>-py p r)):=Ky.2 (rb.imp λh=>yT.2 h);have e2:=Qiv rb2 (gV c2 (λu hu v hv huv=>yT.2 (hlx v (Jm.1 hv) u (Jm.1 hu) (yT.1 huv))) λe he p hp=>by
    rw[yA (px · q) (py · q),yA (px · r) (py · r)];exact sgs e (by rw[hE];exact Jh _ he) p (Jm.1 hp)) c2'
   unfold S9 Ee;rw[eR,if_neg h3,if_neg h3,hA,hB,hA',hB',e1,e2]
 refine⟨hc,?_⟩;unfold BX;rw[hc,k2,fC λx hx=>h x (Jh _ hx)]
theorem Qzg{l:List Pt}(hl:∀p∈l,Sc p.c)(hn:l.length≤10)(hd:l.Pairwise λx y=>x.id≠y.id):Stab (BX l) (brH l):=by
 refine⟨pR hl hn,⟨Af l++NA l,MJ hl,λa _ x hx=>xN x hx⟩,λa b ha hb h=>?_⟩;obtain⟨e1,e2⟩:=Qcn hl hd ha hb h;exact⟨e2,by show U3 _=U3 _;rw[e1]⟩
end Orq
namespace Orq
open Orr Go
theorem KA{a b c d:Crv}(ha:Sc a)(hb:Sc b)(hc:Sc c)(hd:Sc d):Cp (Hq a b c d):=by
 have lr:∀{a b:Crv},Sc a->Sc b->(Gp a b).length<=3/\(Gn a b).length<=3:=λ{a b} ha hb=>by
  have:=Nm (Fq b.x a.d) (Fq a.x b.d);have:=Fy b.x a.d;have:=Fy a.x b.d;have:=Nm (Fq b.y a.d) (Fq a.y b.d);have:=Fy b.y a.d;have:=Fy a.y b.d;have:=ha.c.lx;have:=hb.c.lx;have:=ha.c.ly;have:=hb.c.ly;unfold Gp Gn;omega
 have ap:∀{a b:Crv},Sc a->Sc b->(S8 a b).length<=5/\Bd 517 (S8 a b):=λ{a b} ha hb=>by
  obtain⟨l1,l2⟩:=lr ha hb;have b1:Bd 257 (Gp a b):=Dx (Ge hb.c.x ha.c.d) (Ge ha.c.x hb.c.d);have b2:Bd 257 (Gn a b):=Dx (Ge hb.c.y ha.c.d) (Ge ha.c.y hb.c.d);have q1:=Po (u:=2) b1 b1 (by omega);have q2:=Po (u:=2) b2 b2 (by omega);refine⟨?_,U6 (YY q1 q2) (by omega)⟩;have:=Oi (Gm (Gp a b) (Gp a b)) (Gm (Gn a b) (Gn a b));have:=Tx (Gp a b) (Gp a b);have:=Tx (Gn a b) (Gn a b);unfold S8;omega
 have dd:∀{a b:Crv},Sc a->Sc b->Ff ((a.d*b.d)*(a.d*b.d))<=512:=λ{a b} ha hb=>by
  have:=Ga a.d b.d;have:=Ga (a.d*b.d) (a.d*b.d);have:=ha.c.d;have:=hb.c.d;omega
 obtain⟨l1,b1⟩:=ap hc hd;obtain⟨l2,b2⟩:=ap ha hb;refine⟨Fz _ _,?_,U6 (Dx (Ge b1 (dd ha hb)) (Ge b2 (dd hc hd))) (by omega)⟩;have:=Nm (Fq (S8 c d) ((a.d*b.d)*(a.d*b.d))) (Fq (S8 a b) ((c.d*d.d)*(c.d*d.d)));have:=Fy (S8 c d) ((a.d*b.d)*(a.d*b.d));have:=Fy (S8 a b) ((c.d*d.d)*(c.d*d.d));unfold Hq;omega
def pX(m:Pt×Pt)(q:Rat):Rat:=(px m.2 q-px m.1 q)*(px m.2 q-px m.1 q)+(py m.2 q-py m.1 q)*(py m.2 q-py m.1 q)
theorem Qo3{a b c d:Pt}(ha:Sc a.c)(hb:Sc b.c)(hc:Sc c.c)(hd:Sc d.c)(q:Rat):Fh (Fa (Hq a.c b.c c.c d.c) q)=Fh (pX (c,d) q-pX (a,b) q):=by
 have Rk:∀{z:Int},0<z->(0:Rat)<(z:Rat):=λ{z} h=>by exact_mod_cast h
 have pa:=Rk ha.n.2.2.1;have pb:=Rk hb.n.2.2.1;have pc:=Rk hc.n.2.2.1;have pd:=Rk hd.n.2.2.1;have xx:∀{p:Pt},0<(p.c.d:Rat)->Fa p.c.x q=px p q*(p.c.d:Rat)/\Fa p.c.y q=py p q*(p.c.d:Rat):=λ{p} h=>by
  unfold px py;exact⟨(Zj (by grind)).symm,(Zj (by grind)).symm⟩
 obtain⟨xa,ya⟩:=xx pa;obtain⟨xb,yb⟩:=xx pb;obtain⟨xc,yc⟩:=xx pc;obtain⟨xd,yd⟩:=xx pd;have e:Fa (Hq a.c b.c c.c d.c) q=(((a.c.d:Rat)*b.c.d)*((a.c.d:Rat)*b.c.d))*(((c.c.d:Rat)*d.c.d)*((c.c.d:Rat)*d.c.d))*(pX (c,d) q-pX (a,b) q):=by
  unfold Hq S8 Gp Gn pX;simp only[Np,Rq,EX,Gl,X1];rw[xa,xb,xc,xd,ya,yb,yc,yd];grind
 rw[e,C9];have h1:=Xs pa pb;have h2:=Xs pc pd;exact Xs (Xs h1 h1) (Xs h2 h2)
def AD(l:List Pt):Un:=l.flatMap λa=>l.flatMap λb=>l.flatMap λc=>l.map λd=>Hq a.c b.c c.c d.c
theorem NE{l:List Pt}{a b c d:Pt}(ha:a∈l)(hb:b∈l)(hc:c∈l)(hd:d∈l):Hq a.c b.c c.c d.c∈AD l :=
 Zo.2 ⟨a,ha,Zo.2 ⟨b,hb,Zo.2 ⟨c,hc,Za.2 ⟨d,hd,rfl⟩⟩⟩⟩
theorem UJ{l:List Pt}(hl:∀p∈l,Sc p.c):∀p∈AD l,Cp p:=λp hp=>by
 obtain⟨a,ha,hp⟩:=Zo.1 hp;obtain⟨b,hb,hp⟩:=Zo.1 hp;obtain⟨c,hc,hp⟩:=Zo.1 hp;obtain⟨d,hd,rfl⟩:=Za.1 hp;exact KA (hl a ha) (hl b hb) (hl c hc) (hl d hd)
theorem aR{l:List Pt}(hl:∀p∈l,Sc p.c){a:Tm}(ha:Va a):∃y,Ft a y=-1/\∀q,Ft a q=-1->q≤y->∀s m:Pt×Pt,s.1∈l->s.2∈l->m.1∈l->m.2∈l->Hk (Fw a) (Hq s.1.c s.2.c m.1.c m.2.c)=Fh (pX m q-pX s q):=by
 obtain⟨y,y1,y2⟩:=XP ha (AD l) λp hp=>(UJ hl p hp).dp
 refine⟨y,y1,λq q1 q2 s m h1 h2 h3 h4=>?_⟩;rw[y2 q q1 q2 _ (NE h1 h2 h3 h4),Qo3 (hl _ h1) (hl _ h2) (hl _ h3) (hl _ h4)]
def La(f:Pt×Pt->Rat)(P:List (Pt×Pt))(r:Pt×Pt):Prop:=∃P1 P2,P=P1++r::P2/\(∀m∈P1,f r<f m)/\∀m∈P2,f r≤f m
theorem OD{f:Pt×Pt->Rat}:∀{P:List (Pt×Pt)} {r r':Pt×Pt},La f P r->La f P r'->r=r'
 | [],r,r',⟨P1,P2,h,_⟩,_=>by simp at h
 |
  x::P,r,r',⟨P1,P2,h,h1,h2⟩,⟨Q1,Q2,h',h1',h2'⟩=>by
  cases P1 with
  |
   nil =>
   simp at h;cases Q1 with
   |nil=>simp at h';exact h.1.symm.trans h'.1
   |
    cons y Q1 =>
    simp at h';exfalso;obtain⟨rfl,rfl⟩:=h;obtain⟨rfl,rfl⟩:=h';have a1:=h1' x (by simp);have a2:=h2 r' (by simp);grind
  |
   cons y P1 =>
   simp at h;cases Q1 with
   |
    nil =>
    simp at h';exfalso;obtain⟨rfl,rfl⟩:=h;obtain⟨rfl,rfl⟩:=h';have a1:=h1 x (by simp);have a2:=h2' r (by simp);grind
   |
    cons z Q1 =>
    simp at h h';exact OD (P:=P) ⟨P1,P2,h.2,λm hm=>h1 m (by simp[hm]),h2⟩ ⟨Q1,Q2,h'.2,λm hm=>h1' m (by simp[hm]),h2'⟩
theorem Qo4{f:Pt×Pt->Rat}{P:List (Pt×Pt)}{r m:Pt×Pt}(h:La f P r):La f (P++[m]) (if f m<f r then m else r):=by
 obtain⟨P1,P2,rfl,h1,h2⟩:=h;by_cases e:f m<f r
 ·rw[if_pos e];refine⟨P1++r::P2,[],rfl,λx hx=>?_,λx hx=>by cases hx⟩;rcases Qq.1 hx with hx|hx
  ·have:=h1 x hx;grind
  ·rcases Qn.1 hx with rfl|hx
   ·exact e
   ·have:=h2 x hx;grind
 ·rw[if_neg e];refine⟨P1,P2++[m],by simp,h1,λx hx=>?_⟩;rcases Qq.1 hx with hx|hx
  ·exact h2 x hx
  ·rw[Qk.1 hx];grind
theorem aP{f:Pt×Pt->Rat}{sg:Um->Int}{l:List Pt}(hg:∀s m:Pt×Pt,s.1∈l->s.2∈l->m.1∈l->m.2∈l->Hk sg (Hq s.1.c s.2.c m.1.c m.2.c)=Fh (f m-f s)):∀(ps P:List (Pt×Pt)) (s:Pt×Pt),s.1∈l/\s.2∈l->(∀m∈ps,m.1∈l/\m.2∈l)->La f P s->La f (P++ps) (Ho sg s ps)
 | [],P,s,_,_,h=>by rw[Zw];exact h
 |
  m::ps,P,s,hs,hp,h=>by
  rw[ZJ];have hm:=hp m (by simp);have e:Ma sg s m=if f m<f s then m else s:=by
   unfold Ma;rw[hg s m hs.1 hs.2 hm.1 hm.2];have:=Gb (f m-f s);by_cases h:f m<f s
   ·rw[if_pos h,if_pos (by grind)]
   ·rw[if_neg h,if_neg (by grind)]
  have hn:(Ma sg s m).1∈l/\(Ma sg s m).2∈l:=by
   rcases TJ sg s m with e|e <;> rw[e] <;> assumption
  have:=aP hg ps (P++[m]) (Ma sg s m) hn (λx hx=>hp x (Qg _ hx)) (by rw[e];exact Qo4 h);rwa[Zd]at this
theorem bI(a b:Pt)(l:List Pt):∃P,Gt (a::b::l)=(a,b)::P:=⟨_,rfl⟩
theorem iN{f:Pt×Pt->Rat}{sg:Um->Int}{a b:Pt}{l:List Pt}(hg:∀s m:Pt×Pt,s.1∈a::b::l->s.2∈a::b::l->m.1∈a::b::l->m.2∈a::b::l->Hk sg (Hq s.1.c s.2.c m.1.c m.2.c)=Fh (f m-f s)):La f (Gt (a::b::l)) (Ho sg (a,b) (Gt (a::b::l))):=by
 obtain⟨P,hP⟩:=bI a b l;have hm:=S7 (a::b::l).length (a::b::l);have hm:∀m∈Gt (a::b::l),m.1∈a::b::l/\m.2∈a::b::l:=hm;rw[hP]at hm ⊢;have h:=aP hg P [(a,b)] (a,b) (hm (a,b) (by simp)) (λm h=>hm m (by simp[h])) ⟨[],[],rfl,λm h=>(by cases h),λm h=>(by cases h)⟩;rw[ZJ];have e:Ma sg (a,b) (a,b)=(a,b):=by rcases TJ sg (a,b) (a,b)with e|e <;> exact e
 rw[e];exact h
theorem Qag{l:List Pt}(hd:l.Pairwise λx y=>x.id≠y.id){u v:Pt}(hu:u∈l)(hv:v∈l)(h:u.id=v.id):u=v:=by
 by_cases e:u=v
 ·exact e
 ·rcases zW hd hu hv e with h'|h'
  ·exact absurd h h'
  ·exact absurd h.symm h'
theorem Qc9{l:List Pt}(hl:∀p∈l,Sc p.c)(hd:l.Pairwise λx y=>x.id≠y.id){a b:Tm}(ha:Va a)(hb:Va b)(h:∀x∈Lp (Fw a) l,Hk (Fw b) x.p=Hk (Fw a) x.p):ZP (Fw b) l=ZP (Fw a) l/\Lp (Fw b) l=Lp (Fw a) l:=by
 match l,hl,hd,h with
 | [],_,_,_=>exact⟨rfl,rfl⟩
 | [x],_,_,_=>exact⟨rfl,rfl⟩
 |
  u::v::l',hl,hd,h =>
  obtain⟨y,y1,y2⟩:=aR hl ha;obtain⟨z,z1,z2⟩:=aR hl hb;have ga:=y2 y y1 Qr;have gb:=z2 z z1 Qr;have fa:=iN (f:=λm=>pX m y) ga;have fb:=iN (f:=λm=>pX m z) gb;simp only[ZP,Lp]at h ⊢;have hm:∀m∈Gt (u::v::l'),m.1∈u::v::l'/\m.2∈u::v::l':=S7 _ _;generalize u::v::l'=l at *;obtain⟨r,hr⟩:=nmE (Ho (Fw a) (u,v) (Gt l));rw[<-hr]at fa h ⊢;obtain⟨P1,P2,hP,h1,h2⟩:=fa;have hrm:r∈Gt l:=by rw[hP];simp
  have hrl:=hm r hrm;have key:∀m∈Gt l,m=r\/Hk (Fw b) (Hq r.1.c r.2.c m.1.c m.2.c)=Hk (Fw a) (Hq r.1.c r.2.c m.1.c m.2.c):=λm hmm=>by
   have hml:=hm m hmm;by_cases e:ZS r m=true
   ·right;have h0:=h (Bm (Fw a) r.1 r.2 m.1 m.2) (by unfold M7;exact List.mem_map.2 ⟨m,List.mem_filter.2 ⟨hmm,e⟩,rfl⟩);rw[LM]at h0;exact h0
   ·left;unfold ZS at e;simp at e;have e1:=Qag hd hml.1 hrl.1 e.1;have e2:=Qag hd hml.2 hrl.2 e.2;exact Prod.ext e1 e2
  have fb':La (λm=>pX m z) (Gt l) r:=by
   refine⟨P1,P2,hP,λm hmm=>?_,λm hmm=>?_⟩
   ·have hmp:m∈Gt l:=by rw[hP];simp[hmm]
    have hlt:=h1 m hmm;have hml:=hm m hmp;rcases key m hmp with e|e
    ·exfalso;rw[e]at hlt;dsimp only at hlt;grind
    ·rw[ga r m hrl.1 hrl.2 hml.1 hml.2,gb r m hrl.1 hrl.2 hml.1 hml.2]at e;dsimp only at hlt ⊢;rw[Hz.2 (by grind:0<pX m y-pX r y)]at e;have:=Hz.1 e;grind
   ·have hmp:m∈Gt l:=by rw[hP];simp[hmm]
    have hlt:=h2 m hmm;have hml:=hm m hmp;rcases key m hmp with e|e
    ·rw[e];exact Qr
    ·rw[ga r m hrl.1 hrl.2 hml.1 hml.2,gb r m hrl.1 hrl.2 hml.1 hml.2]at e;dsimp only at hlt ⊢;have t1:=Gb (pX m y-pX r y);have t2:=Gb (pX m z-pX r z);grind
  have er:=OD fb fb';rw[er];refine⟨rfl,?_⟩;unfold M7;refine Xk λm hmm=>?_
  have hmp:=(Yi.1 hmm).1;rcases key m hmp with e|e
  ·exfalso;have:=(Yi.1 hmm).2;rw[e]at this;unfold ZS at this;simp at this
  ·unfold Bm;rw[e]
theorem Qzh{l:List Pt}(hl:∀p∈l,Sc p.c)(hn:l.length≤10)(hd:l.Pairwise λx y=>x.id≠y.id):Stab (λa=>Lp (Fw a) l) (λa=>U3 (ZP (Fw a) l)):=by
 have hcp:∀a,∀x∈Lp (Fw a) l,x.p∈AD l:=λa x hx=>by
  match l,hx with
  |
   u::v::l',hx =>
   simp only[Lp]at hx;obtain⟨h3,h4⟩:=Lm (Fw a) (l:=u::v::l') (Gt (u::v::l')) (u,v) ⟨by simp,by simp⟩ (S7 _ _);obtain⟨m,hm,rfl⟩:=OV hx;obtain⟨h1,h2⟩:=S7 _ _ m hm;rw[LM];exact NE h3 h4 h1 h2
 refine⟨⟨λa _ x hx=>UJ hl _ (hcp a x hx),λa _=>?_⟩,⟨AD l,UJ hl,λa _=>hcp a⟩,λa b ha hb h=>?_⟩
 ·have:=qO (Fw a) l;have:l.length*l.length<=10*10:=Zc hn hn;show(Lp (Fw a) l).length<=1000;omega
 ·obtain⟨h1,h2⟩:=Qc9 hl hd ha hb h;exact⟨h2,by show U3 _=U3 _;rw[h1]⟩
end Orq
namespace Orr
open Go Go.Proofs Tryz Orq
set_option maxRecDepth 10000
def JV:Nat->Ur->Ur
 |_,[]=>[]
 | 0,x::l=>FB x::l
 |k+1,x::l=>x::JV k l
theorem qD:∀(k:Nat) (l:Ur),(JV k l).length=l.length
 |_,[]=>by cases ‹Nat› <;> rfl
 | 0,x::l=>rfl
 |k+1,x::l=>by simp only[JV,Q5,qD k l]
theorem qC:∀(k:Nat) (l:Ur) {j:Nat} {y:LV},(JV k l)[j]? = some y->∃x,l[j]? = some x/\(y=x\/y=FB x)
 | 0,[],_,_,h=>by simp[JV]at h
 |_+1,[],_,_,h=>by simp[JV]at h
 | 0,x::l,0,y,h=>by simp[JV]at h;exact⟨x,rfl,.inr h.symm⟩
 | 0,x::l,j+1,y,h=>by simp[JV]at h;exact⟨y,by simpa using h,.inl rfl⟩
 |k+1,x::l,0,y,h=>by simp[JV]at h;exact⟨x,rfl,.inl h.symm⟩
 |
  k+1,x::l,j+1,y,h=>by
  simp only[JV,Jk]at h;obtain⟨z,h1,h2⟩:=qC k l h;exact⟨z,by simpa using h1,h2⟩
theorem nlc{P:Program}[Mo P]{n:Nat}{Q:Exit->Sg->Ut->Prop}{L:Sg}{B B':Ut}(i d:Nat){T:TypeId}{xs:Ur}{it:List It}(hs:Rm it=true)(hb:Ia B i=some (.blk T xs))(hB:A1 B i (.blk T (JV d xs))=some B')(k:AK P n Q it L B'):AK P n Q it L B:=by
 obtain⟨rfl,hl⟩:=Be hB;have hbi:B[i]? = some (.blk T xs):=Pd ▸ hb;refine AK.sub (λF E M a w h=>⟨E,M,?_,h.size,h.defers,h.slots⟩) hs k;rw[WV,JU hbi];refine h.hs.re (λj=>?_) (λj=>?_) (λj=>?_) λj hj=>?_
 ·by_cases e:j=i
  ·subst e;rw[Fo];obtain⟨g,c,m,h1,cs,h2,h3⟩:=h.blk hb;refine⟨g,c,m,h1,cs,h2,F2.of (by rw[qD];exact h3.len) λk v x hv hx=>?_⟩;obtain⟨y,hy,hyx⟩:=qC _ _ hx;rcases hyx with rfl|rfl
   ·exact h3.get' hv hy
   ·exact iL (h3.get' hv hy)
  ·rw[Gh _ _ e];exact h.hs.blk j
 ·by_cases e:j=i
  ·subst e;rw[Fo,Ry hbi];rfl
  ·rw[Gh _ _ e]
 ·by_cases e:j=i
  ·subst e;rw[Fo,Ry hbi];rfl
  ·rw[Gh _ _ e]
 ·by_cases e:j=i
  ·subst e;rw[Ry hbi]at hj;cases hj
  ·rw[Gh _ _ e];exact hj
theorem UA{l m:Us}(h:l=m):TV.one (LV.row l)=.one (.row m):=h ▸ rfl
theorem wA{a b:Crv}(ha:ZI a)(hb:ZI b)(ca:Cb a)(cb:Cb b):Uj 244 [.agg (cl a),.agg (cl b)] [pr (S8 a b)]:=by
 obtain⟨p1,l1,b1⟩:=rS ca cb;obtain⟨p2,l2,b2⟩:=rR ca cb;have m1:=Tx (Gp a b) (Gp a b);have m2:=Tx (Gn a b) (Gn a b);have q1:=Po (u:=5) b1 b1 (by omega);have q2:=Po (u:=5) b2 b2 (by omega);exact Ug func244 rfl [.k (UF ha hb ca cb),.k (UK ha hb ca cb),.k (KN p1.t p1.t (by omega) (by omega) b1 b1 (by omega)),.k (KN p2.t p2.t (by omega) (by omega) b2 b2 (by omega)),.k (BM (by omega) (by omega) (U6 q1 (by omega)) (U6 q2 (by omega)))] rfl
theorem Qbe{a b c d:Crv}(ha:ZI a)(hb:ZI b)(hc:ZI c)(hd:ZI d)(ca:Cb a)(cb:Cb b)(cc:Cb c)(cd:Cb d):Uj 176 [.agg (cl a),.agg (cl b),.agg (cl c),.agg (cl d)] [pr (Hq a b c d)]:=by
 have na:=D2 ha (ca.mono (by omega) (by omega));have nb:=D2 hb (cb.mono (by omega) (by omega));have nc:=D2 hc (cc.mono (by omega) (by omega));have nd:=D2 hd (cd.mono (by omega) (by omega));have s1:=nL ca cb;have s2:=nL cc cd;have s3:=aE ca cb;have s4:=aE cc cd;have da:=ca.d;have db:=cb.d;have dc:=cc.d;have dd:=cd.d;obtain⟨t1,l1,b1⟩:=rT cc cd;obtain⟨t2,l2,b2⟩:=rT ca cb;have k1:=Fy (S8 c d) ((a.d*b.d)*(a.d*b.d));have k2:=Fy (S8 a b) ((c.d*d.d)*(c.d*d.d));have w1:=Pp (U5 a.d) (U5 b.d) (by omega) (by omega);have w2:=Pp (U5 c.d) (U5 d.d) (by omega) (by omega);have w3:=Pp (U5 (a.d*b.d)) (U5 (a.d*b.d)) (by omega) (by omega);have w4:=Pp (U5 (c.d*d.d)) (U5 (c.d*d.d)) (by omega) (by omega);have p1:=Sr (p:=S8 c d) (c:=(a.d*b.d)*(a.d*b.d)) (by omega) (U6 b1 (by omega)) (by omega);have p2:=Sr (p:=S8 a b) (c:=(c.d*d.d)*(c.d*d.d)) (by omega) (U6 b2 (by omega)) (by omega);have p3:=HC (p:=Fq (S8 c d) ((a.d*b.d)*(a.d*b.d))) (q:=Fq (S8 a b) ((c.d*d.d)*(c.d*d.d))) (by omega) (by omega) (U6 (Ge b1 s3) (by omega)) (U6 (Ge b2 s4) (by omega));exact Ug func176 rfl [.k na,.k nb,.k w1,.k nc,.k nd,.k w2,.k (wA hc hd cc cd),.k w3,.k p1,.k (wA ha hb ca cb),.k w4,.k p2,.k p3] rfl
theorem BH{a b c d:Pt}(ha:Sc a.c)(hb:Sc b.c)(hc:Sc c.c)(hd:Sc d.c):Uj 176 [.agg (cl a.c),.agg (cl b.c),.agg (cl c.c),.agg (cl d.c)] [pr (Hq a.c b.c c.c d.c)]:=Qbe ha.n hb.n hc.n hd.n ha.cb hb.cb hc.cb hd.cb
set_option maxHeartbeats 1000000 in
theorem Qnd{a b c d:Pt}{t:Tm}(ha:Sc a.c)(hb:Sc b.c)(hc:Sc c.c)(hd:Sc d.c)(ht:Va t):Uj 255 [.oi 5,.agg (ta t),.one (.row [Fe a,Fe b,Fe c,Fe d])] [.agg (Du (Bm (Fw t) a b c d)),.oi 0]:=by
 have hp:=(KA ha hb hc hd).dp;have e:Du (Bm (Fw t) a b c d)=[.int .i64 5,.int .i64 a.id,.int .i64 b.id,.int .i64 c.id,.int .i64 d.id,pl (Hq a.c b.c c.c d.c),.int .i64 (Hk (Fw t) (Hq a.c b.c c.c d.c))]:=by rw[Bm]
 rw[e];have cg:=SU hp ht;have cf:=BH ha hb hc hd;generalize Hq a.c b.c c.c d.c=F at *;refine Fx func255 rfl ?_;refine Ud [.k Qbw,.f rfl] rfl ?_;refine Ui (S:=Nat) 3 (λL1 i=>(22,.v (.oi i))::L1) (λi=>[.blk 105 (ta t),.blk 99 zCt,.blk 99 [.int .i64 5,.int .i64 (if 1<=i then a.id else 0),.int .i64 (if 2<=i then b.id else 0),.int .i64 (if 3<=i then c.id else 0),.int .i64 (if 4<=i then d.id else 0),.nils,.int .i64 0]]) (λi=>4-i) (λi=>i<=4) 0 (Qh _) rfl rfl λi hi=>?_
 rcases(show i=0\/i=1\/i=2\/i=3\/i=4 by omega)with rfl|rfl|rfl|rfl|rfl
 ·refine Ud [.t rfl,.x (i:=0) (xs:=Fe a) rfl,.i 0] rfl ?_ (by simp[U4]);exact rd 1 (by omega) (by omega) rfl
 ·refine Ud [.t rfl,.x (i:=1) (xs:=Fe b) rfl,.i 1] rfl ?_ (by simp[U4]);exact rd 2 (by omega) (by omega) rfl
 ·refine Ud [.t rfl,.x (i:=2) (xs:=Fe c) rfl,.i 2] rfl ?_ (by simp[U4]);exact rd 3 (by omega) (by omega) rfl
 ·refine Ud [.t rfl,.x (i:=3) (xs:=Fe d) rfl,.i 3] rfl ?_ (by simp[U4]);exact rd 4 (by omega) (by omega) rfl
 ·exact Uf [.f rfl,.f rfl,.f rfl,.f rfl,.f rfl,.x (i:=0) (xs:=Fe a) rfl,.x (i:=1) (xs:=Fe b) rfl,.x (i:=2) (xs:=Fe c) rfl,.x (i:=3) (xs:=Fe d) rfl,.k cf,.k cg] rfl
theorem Quc{s m:Pt×Pt}{t:Tm}(h1:Sc s.1.c)(h2:Sc s.2.c)(h3:Sc m.1.c)(h4:Sc m.2.c)(ht:Va t):U7 prog 259 [.agg (Fe m.1),.agg (Fe m.2),.one (.ow 0 0),.one (.ow 1 0),.one (.ow 2 0)] [.blk 40 (Fe s.1),.blk 40 (Fe s.2),.blk 105 (ta t)] [] [.blk 40 (Fe (Ma (Fw t) s m).1),.blk 40 (Fe (Ma (Fw t) s m).2),.blk 105 (ta t)]:=by
 have cf:=BH h1 h2 h3 h4;have cg:=SU (KA h1 h2 h3 h4).dp ht;unfold Ma;refine Fx func259 rfl ?_;by_cases h:Hk (Fw t) (Hq s.1.c s.2.c m.1.c m.2.c)<0
 ·rw[if_pos h];exact Uh [] [0,1,2] [.k cf,.k cg,.t (decide_eq_true h)] rfl
 ·rw[if_neg h];exact Uh [] [0,1,2] [.k cf,.k cg,.f (decide_eq_false h)] rfl
theorem Qt8{s m:Pt×Pt}{t:Tm}{L:List Ct}(h1:Sc s.1.c)(h2:Sc s.2.c)(h3:Sc m.1.c)(h4:Sc m.2.c)(ht:Va t)(hL:L.length<=1000000):U7 prog 260 [.agg (Fe m.1),.agg (Fe m.2),.one (.ow 0 0),.one (.ow 1 0),.one (.ow 2 0),.one (.ow 3 0)] [.blk 40 (Fe s.1),.blk 40 (Fe s.2),.blk 105 (ta t),.blk 66 [.orow 4 7 none],.row false 99 7 (U9 L)] [] [.blk 40 (Fe s.1),.blk 40 (Fe s.2),.blk 105 (ta t),.blk 66 [.orow 4 7 none],.row false 99 7 (U9 (if ZS s m=true then L++[Bm (Fw t) s.1 s.2 m.1 m.2]else L))]:=by
 have cm:=Qnd h1 h2 h3 h4 ht;have hq:∀y∈[Du (Bm (Fw t) s.1 s.2 m.1 m.2)],y.length=7:=λy hy=>by rw[Qk.1 hy];rfl
 have hcl:=Pu L;have hsn:U9 (L++[Bm (Fw t) s.1 s.2 m.1 m.2])=U9 L++[Du (Bm (Fw t) s.1 s.2 m.1 m.2)]:=by simp[U9]
 refine Fx func260 rfl ?_;by_cases e1:m.1.id=s.1.id
 ·by_cases e2:m.2.id=s.2.id
  ·rw[if_neg (by simp[ZS,e1,e2])];exact Uh [] [0,1,2,3,4] [.g 15 false (by simp[e1]),.f (by simp[e2])] rfl
  ·rw[if_pos (by simp[ZS,e2]),hsn];exact Uh [] [0,1,2,3,4] [.g 15 false (by simp[e1]),.t (by simp[e2]),.k cm,.s (sz:=7) hq] rfl (by simp[U4,hcl];omega)
 ·rw[if_pos (by simp[ZS,e1]),hsn];exact Uh [] [0,1,2,3,4] [.g 15 true (by simp[e1]),.t rfl,.k cm,.s (sz:=7) hq] rfl (by simp[U4,hcl];omega)
theorem PK(M:List Pt):H8 0 M=[]:=by cases M <;> rfl
def vW(M:List Pt)(x:Pt)(i j:Nat):List (Pt×Pt):=H8 i M++((M.drop (i+1)).take j).map (λy=>(x,y))
theorem tQ(M:List Pt)(x:Pt)(i:Nat):vW M x i 0=H8 i M:=by rw[vW,Vv,X9,Zw]
theorem rO{M:List Pt}{i j:Nat}{x y:Pt}(hy:(M.drop (i+1))[j]? = some y):vW M x i (j+1)=vW M x i j++[(x,y)]:=by
 unfold vW;rw[Zv,hy,Option.toList_some,Yh,Zd];rfl
theorem oP{M:List Pt}{i j:Nat}{x:Pt}(hx:M[i]? = some x)(hj:(M.drop (i+1)).length<=j):vW M x i j=H8 (i+1) M:=by
 unfold vW;rw[Qm hj,Lq M i x hx]
theorem Qp8{M:List Pt}{i j:Nat}{x:Pt}(hx:M[i]? = some x):∀m∈vW M x i j,m.1∈M/\m.2∈M:=λm hm=>by
 rcases Qq.1 hm with h|h
 ·exact S7 _ _ m h
 ·obtain⟨y,hy,rfl⟩:=Za.1 h;exact⟨Qc hx,Qz (Qo hy)⟩
theorem Qf9{l:List Pt}{t:Tm}{s0:Pt×Pt}(hl:∀p∈l,Sc p.c)(hs:s0.1∈l/\s0.2∈l)(hn:l.length≤1000)(ht:Va t):U7 prog 258 [.one (pts l),.one (.ofn 259 [] [.ow 0 0,.ow 1 0,.ow 2 0])] [.blk 40 (Fe s0.1),.blk 40 (Fe s0.2),.blk 105 (ta t)] [] [.blk 40 (Fe (Ho (Fw t) s0 (Gt l)).1),.blk 40 (Fe (Ho (Fw t) s0 (Gt l)).2),.blk 105 (ta t)]:=by
 have hcl:=G7 l;have hsc:∀ps:List (Pt×Pt),(∀m∈ps,m.1∈l/\m.2∈l)->Sc (Ho (Fw t) s0 ps).1.c/\Sc (Ho (Fw t) s0 ps).2.c:=λps h=>by
  obtain⟨h1,h2⟩:=Lm (Fw t) ps s0 hs h;exact⟨hl _ h1,hl _ h2⟩
 show U7 prog 258 [.one (.row (U3 l)),.one (.ofn 259 [] [.ow 0 0,.ow 1 0,.ow 2 0])] _ _ _;refine Fx func258 rfl ?_;refine Ud [] rfl ?_;refine lp (S:=Nat) 3 (λL1 i=>(10,.v (.oi i))::L1) (λi=>[.blk 40 (Fe (Ho (Fw t) s0 (H8 i l)).1),.blk 40 (Fe (Ho (Fw t) s0 (H8 i l)).2),.blk 105 (ta t)]) (λi=>l.length-i) (λi=>i<=l.length) 0 (Qh _) rfl (λ_ _=>rfl) (by rw[PK];rfl) λi hi=>?_
 by_cases hlt:i<l.length
 ·obtain⟨x,hx⟩:=gxE (l:=l) (i:=i) hlt;have ed1:(U3 l).drop (i+1)=U3 (l.drop (i+1)):=by simp[U3,Vi]
  have hdl:=G7 (l.drop (i+1));have hdl2:(l.drop (i+1)).length<=1000:=by rw[Q8];omega
  rw[<-tQ l x i];refine go tt [.t (by simp[hcl];omega),.x (Ty hx),.r 17 (eI (b:=((i+1:Nat):Int)) (by simp)),.i (i+1),.r 18 (UA ed1)] rfl (by simp[U4,G7,eq_true (p:=∀z,z∈U3 l->z.length=ti40.sz) (VJ l)];omega) ?_;refine Ui (S:=Nat) 4 (λL1 j=>(20,.v (.oi j))::L1) (λj=>[.blk 40 (Fe (Ho (Fw t) s0 (vW l x i j)).1),.blk 40 (Fe (Ho (Fw t) s0 (vW l x i j)).2),.blk 105 (ta t),.blk 40 (Fe x)]) (λj=>(l.drop (i+1)).length-j) (λj=>j<=(l.drop (i+1)).length) 0 (Qh _) rfl rfl λj hj=>?_
  by_cases hltj:j<(l.drop (i+1)).length
  ·obtain⟨y,hy⟩:=gxE (l:=(l.drop (i+1))) (i:=j) hltj;obtain⟨s1,s2⟩:=hsc (vW l x i j) (Qp8 hx);have cn:=Quc (s:=Ho (Fw t) s0 (vW l x i j)) (m:=(x,y)) s1 s2 (hl x (Qc hx)) (hl y (Qz (Qc hy))) ht;rw[<-yC,<-rO hy]at cn;refine go tt [.T,.x (Ty hy),.c [0,1,2] cn] rfl (by simp[U4,-List.length_drop];omega) ?_;exact rd (j+1) (by omega) hltj rfl
  ·have e:=oP hx (J8 hltj);rw[e];refine go tt [.F] rfl (by simp[U4,-List.length_drop];omega) ?_;exact rd (i+1) (by omega) hlt rfl
 ·obtain rfl:i=l.length:=by omega
  exact Uh [] [0,1,2] [.f (by simp[hcl])] rfl
theorem Qga{l:List Pt}{t:Tm}{s:Pt×Pt}(hl:∀p∈l,Sc p.c)(hs:s.1∈l/\s.2∈l)(hn:l.length≤10)(ht:Va t):U7 prog 258 [.one (pts l),.one (.ofn 260 [] [.ow 0 0,.ow 1 0,.ow 2 0,.ow 3 0])] [.blk 40 (Fe s.1),.blk 40 (Fe s.2),.blk 105 (ta t),.blk 66 [.orow 4 7 none],.row false 99 7 []] [] [.blk 40 (Fe s.1),.blk 40 (Fe s.2),.blk 105 (ta t),.blk 66 [.orow 4 7 none],.row false 99 7 (U9 (M7 (Fw t) s (Gt l)))]:=by
 have hcl:=G7 l;have hpk:∀i,i<=l.length->(H8 i l).length<=100:=λi hi=>by
  have:=WF i l;have:i*l.length<=10*10:=Zc (by omega) hn;omega
 show U7 prog 258 [.one (.row (U3 l)),.one (.ofn 260 [] [.ow 0 0,.ow 1 0,.ow 2 0,.ow 3 0])] _ _ _;refine Fx func258 rfl ?_;refine Ud [] rfl ?_;refine lp (S:=Nat) 5 (λL1 i=>(10,.v (.oi i))::L1) (λi=>[.blk 40 (Fe s.1),.blk 40 (Fe s.2),.blk 105 (ta t),.blk 66 [.orow 4 7 none],.row false 99 7 (U9 (M7 (Fw t) s (H8 i l)))]) (λi=>l.length-i) (λi=>i<=l.length) 0 (Qh _) rfl (λ_ _=>rfl) (by rw[PK];rfl) λi hi=>?_
 by_cases hlt:i<l.length
 ·obtain⟨x,hx⟩:=gxE (l:=l) (i:=i) hlt;have ed1:(U3 l).drop (i+1)=U3 (l.drop (i+1)):=by simp[U3,Vi]
  have hdl:=G7 (l.drop (i+1));have hdl2:(l.drop (i+1)).length<=10:=by rw[Q8];omega
  rw[<-tQ l x i];refine go tt [.t (by simp[hcl];omega),.x (Ty hx),.r 17 (eI (b:=((i+1:Nat):Int)) (by simp)),.i (i+1),.r 18 (UA ed1)] rfl (by simp[U4,G7,eq_true (p:=∀z,z∈U3 l->z.length=ti40.sz) (VJ l)];omega) ?_;refine Ui (S:=Nat) 6 (λL1 j=>(20,.v (.oi j))::L1) (λj=>[.blk 40 (Fe s.1),.blk 40 (Fe s.2),.blk 105 (ta t),.blk 66 [.orow 4 7 none],.row false 99 7 (U9 (M7 (Fw t) s (vW l x i j))),.blk 40 (Fe x)]) (λj=>(l.drop (i+1)).length-j) (λj=>j<=(l.drop (i+1)).length) 0 (Qh _) rfl rfl λj hj=>?_
  by_cases hltj:j<(l.drop (i+1)).length
  ·obtain⟨y,hy⟩:=gxE (l:=(l.drop (i+1))) (i:=j) hltj;have hdn:(M7 (Fw t) s (vW l x i j)).length<=1000000:=by
    refine Qa (OY _ _ _) ?_;unfold vW;rw[Qu,Q9,Qp];have:=hpk i hi;omega
   have cn:=Qt8 (s:=s) (m:=(x,y)) (L:=M7 (Fw t) s (vW l x i j)) (hl _ hs.1) (hl _ hs.2) (hl x (Qc hx)) (hl y (Qz (Qc hy))) ht hdn;have en1:(if ZS s (x,y)=true then M7 (Fw t) s (vW l x i j)++[Bm (Fw t) s.1 s.2 x y]else M7 (Fw t) s (vW l x i j))=M7 (Fw t) s (vW l x i (j+1)):=by
    rw[rO hy];cases h:ZS s (x,y)with
    |true=>rw[if_pos rfl,Qot h]
    |false=>rw[if_neg (by decide),Qos h]
   dsimp only at cn;rw[en1]at cn;refine go tt [.T,.x (Ty hy),.c [0,1,2,3,4] cn] rfl (by simp[U4,-List.length_drop];omega) ?_;exact rd (j+1) (by omega) hltj rfl
  ·have e:=oP hx (J8 hltj);rw[e];refine go tt [.F] rfl (by simp[U4,-List.length_drop];omega) ?_;exact rd (i+1) (by omega) hlt rfl
 ·obtain rfl:i=l.length:=by omega
  exact Uh [] [0,1,2,3,4] [.f (by simp[hcl])] rfl
theorem IB{l:List Pt}{a:Tm}{c:Cr}{r1:Us}(hl:∀p∈l,Sc p.c)(hn:l.length≤10)(ha:Va a):U7 prog 198 [.one (.ow 0 0),.agg (ta a)] [.blk 227 (Hm c (U3 l) r1)] [.one (.row (U9 (Lp (Fw a) l)))] [.blk 227 (Hm c (U3 l) (U3 (ZP (Fw a) l)))]:=by
 have hcl:=G7 l;refine Fx func198 rfl ?_;by_cases h2:l.length<2
 ·obtain⟨e1,e2⟩:=Qc8 (Fw a) h2;rw[e1,e2];refine Ud [.k Iu] rfl ?_;refine nlc 0 13 rfl rfl rfl ?_;have hml:(l.map Fe).length=l.length:=Q9 _;exact Uh [] [0] [.T] rfl
 ·obtain⟨x,y,l',rfl⟩:=Qw0 h2;obtain⟨l,hle⟩:=nmE (x::y::l');have hx0:(U3 l)[0]? = some (Fe x):=by rw[hle];rfl
  have hy0:(U3 l)[1]? = some (Fe y):=by rw[hle];rfl
  have hxl:x∈l:=by rw[hle];simp
  have hyl:y∈l:=by rw[hle];simp
  have eB:ZP (Fw a) (x::y::l')=[(Ho (Fw a) (x,y) (Gt l)).1,(Ho (Fw a) (x,y) (Gt l)).2]:=by rw[hle];rfl
  have eC:Lp (Fw a) (x::y::l')=M7 (Fw a) (Ho (Fw a) (x,y) (Gt l)) (Gt l):=by rw[hle];rfl
  rw[eB,eC];rw[<-hle]at hl hn h2 hcl ⊢;have c1:=Qf9 (t:=a) (s0:=(x,y)) hl ⟨hxl,hyl⟩ (by omega) ha;obtain⟨n1,n2⟩:=Lm (Fw a) (l:=l) (Gt l) (x,y) ⟨hxl,hyl⟩ (S7 _ _);generalize Ho (Fw a) (x,y) (Gt l)=s at *;have c2:=Qga (t:=a) (s:=s) hl ⟨n1,n2⟩ hn ha;have hml:(l.map Fe).length=l.length:=Q9 _;exact Uh [5] [0] [.k Iu,.F,.x hx0,.x hy0,.c [2,3,1] c1,.oc 8 0 99 7,.c [2,3,1,4,5] c2] rfl
theorem Qtv{T:Nat}{t:Rat}{Bc:Tm->List Ct}{Br:Tm->Us}{r0:Us}(ht:Qs 1640000 t)(hB:BuildOk Bc)
 (hb:∀a c r1,Va a->CrOk c->U7 prog 198 [.one (.ow 0 0),.agg (ta a)] [.blk T (Hm c r0 r1)] [.one (.row (U9 (Bc a)))] [.blk T (Hm c r0 (Br a))])
 {K:Nat} {c c':Cr} {r1 r1':Us} {n:Int} (hc:CrOk c) (hev:0<=c.ev/\c.ev+K<=1000000000000000000) (h:Ft c.now t<=0) (hg:HW Bc Br t K c r1 0=some (c',r1',n)) :
 U7 prog 396 [.one (.ow 0 0),.agg (rl t),.one (.ofn 198 [.ow 0 0] [])] [.blk T (Hm c r0 r1)] [.oi n,.oi 0] [.blk T (Hm c' r0 r1')]:=by
 have qt:Qb t:=ht.mono (by decide);have c1:=Dn hc.n.tb qt;refine Fx func396 rfl ?_;refine Ud [.c [0] (QF hc.n),.k c1,.f (by simpa using h)] rfl ?_;refine Ui (S:=Nat×Cr×Us×Int) 2 (λL1 s=>(8,.v (.oi s.2.2.2))::L1) (λs=>[.blk T (Hm s.2.1 r0 s.2.2.1),.blk 42 (rl t)]) (λs=>s.1) (λs=>CrOk s.2.1/\(0<=s.2.1.ev/\s.2.1.ev+s.1<=1000000000000000000)/\(0<=s.2.2.2/\s.2.2.2+s.1<=1000000000000000000)/\HW Bc Br t s.1 s.2.1 s.2.2.1 s.2.2.2=some (c',r1',n)) (K,c,r1,0) ⟨hc,hev,⟨Int.le_refl 0,by dsimp only;omega⟩,hg⟩ rfl rfl λ⟨k,x,r,m⟩ ⟨j1,j2,j3,j4⟩=>?_
 dsimp only at j1 j2 j3 j4 ⊢;cases k with
 |zero=>cases j4
 |
  succ k =>
  simp only[HW]at j4;obtain⟨ws,w1,j4⟩:=Qd.1 j4;obtain⟨o,o1,j4⟩:=Qd.1 j4;have cn:=MW (T:=T) (r0:=r0) (r1:=r) j1 w1 o1;have ca:=VO (U5 t.num) (U5 (t.den:Int)) (Qa ht.1 (by decide)) (Qa ht.2 (by decide)) (by rw[Se];exact ht.mono (by decide));rw[Se]at ca;cases o with
  |
   none =>
   injection j4 with j4;injection j4 with e1 j4;injection j4 with e2 e3;subst e1;subst e2;subst e3;exact Uh [] [0] [.c [0] cn,.g 25 true rfl,.t rfl,.k ca] rfl
  |
   some a =>
   have ha:=LD j1 w1 o1;dsimp only at j4;have cc:=Dn ha.tb qt;by_cases h0:0<Ft a t
   ·rw[if_pos h0]at j4;injection j4 with j4;injection j4 with e1 j4;injection j4 with e2 e3;subst e1;subst e2;subst e3;exact Uh [] [0] [.c [0] cn,.g 25 false rfl,.k cc,.t (by simpa using h0),.k ca] rfl
   ·rw[if_neg h0]at j4;obtain⟨w2,l1,j4⟩:=Qd.1 j4;have j1':=Eu j1 w1;have cl:=Pe (b:=a) (l:=[]) ha.tb (λt ht=>by cases ht) (by decide) rfl;have cb:=hb a { x with l:=ws } r ha j1';have cy:=UU (T:=T) (r0:=r0) (r1:=Br a) j1' ha (hB.p a ha) (hB.n a ha) l1;have hf:decide (0<Ft a t)=false:=by simpa using h0
    refine Ue [.c [0] cn,.g 25 false rfl,.k cc,.f hf,.k cl,.c [0] cb,.c [0] cy] rfl ?_;exact rd (k,⟨a,w2,x.ev+1⟩,Br a,m+1) (by dsimp only;omega) ⟨lay_ok _ j1' ha (hB.p a ha) (hB.n a ha) l1,by dsimp only;omega,by dsimp only;omega,j4⟩ rfl
end Orr
namespace Orr
open Go
def Tk:Uo->Nat
 | []=>0
 |x::l=>x+10000*Tk l
def Dg(l:Uo):Prop:=∀x∈l,x<10000
def Gk(x:Nat):Uo:=if h:x=0 then []else(x % 10000)::Gk (x / 10000)
termination_by x
decreasing_by omega
theorem Hy:Gk 0=[]:=by unfold Gk;simp
theorem YT{x:Nat}(h:x≠0):Gk x=(x % 10000)::Gk (x / 10000):=by rw[Gk];simp[h]
theorem Rf(x:Nat):Tk (Gk x)=x:=by
 induction x using Nat.strongRecOn with
 |
  _ x ih =>
  rcases Q3 x with h|h
  ·subst h;rw[Hy];rfl
  ·rw[YT (by omega)];simp only[Tk];rw[ih _ (by omega)];omega
theorem Cn(x:Nat):Dg (Gk x):=by
 induction x using Nat.strongRecOn with
 |
  _ x ih =>
  rcases Q3 x with h|h
  ·subst h;rw[Hy];intro y hy;cases hy
  ·rw[YT (by omega)];intro y hy;rcases Qn.1 hy with rfl|hy
   ·omega
   ·exact ih _ (by omega) y hy
theorem MB{x:Nat}:(Gk x).length=0↔x=0:=by
 constructor
 ·intro h;have h0:=Qj h;have:=Rf x;rw[h0]at this;exact this.symm
 ·rintro rfl;rw[Hy];rfl
theorem Ii{x:Nat}(h:x≠0):(Gk (x / 10000)).length+1=(Gk x).length:=by rw[YT h];rfl
theorem Qb6{x:Nat}(h:x<1000000000000):(Gk x).length<=3:=by
 by_cases h0:x=0
 ·subst h0;rw[Hy];exact Qh _
 ·have h1:=Ii h0;by_cases h2:x / 10000=0
  ·rw[h2,Hy]at h1;simp at h1;omega
  ·have h3:=Ii h2;by_cases h4:x / 10000 / 10000=0
   ·rw[h4,Hy]at h3;simp at h3;omega
   ·have h5:=Ii h4;have h6:x / 10000 / 10000 / 10000=0:=by omega
    rw[h6,Hy]at h5;simp at h5;omega
theorem Ms(x:Nat):(Gk x).length<=sz x:=by
 induction x using Nat.strongRecOn with
 |
  _ x ih =>
  by_cases h0:x=0
  ·subst h0;rw[Hy];exact Qh _
  ·have h1:=Ii h0;have h2:=ih (x / 10000) (by omega);have h3:sz (x / 10000)+1<=sz x:=by
    have h4:x<2^sz x:=FP x;rcases hs:sz x with _|k
    ·rw[hs]at h4;simp at h4;omega
    ·rw[hs]at h4;have:sz (x / 10000)<=k:=Nv.2 (by rw[Zr]at h4;omega);omega
   omega
theorem Pv(a b:Uo):Tk (a++b)=Tk a+10000^a.length*Tk b:=by
 induction a with
 |nil=>simp[Tk]
 |
  cons x a ih =>
  simp only[Xb,Tk,ih,Q5,Zr];rw[Xj,<-Xz,Zq 10000 (10000^a.length)];omega
theorem Tv{l:Uo}{i x:Nat}(h:l[i]? = some x):Tk (l.take (i+1))=Tk (l.take i)+10000^i*x:=by
 have hi:=(Qf.1 h).1;rw[show l.take (i+1)=l.take i++[x] by rw[Zv,h];rfl,Pv,Qp,Zy (by omega)];simp[Tk]
theorem DZ:∀{l:Uo},Dg l->Tk l<10000^l.length
 | [],_=>by simp[Tk]
 |
  x::l,h=>by
  have h1:=h x (Qy ..);have h2:=DZ (l:=l) λy hy=>h y (Qg _ hy)
  simp only[Tk,Q5,Zr];omega
theorem DX:∀{l:Uo},(∀x∈l,x=0)->Tk l=0
 | [],_=>rfl
 |
  x::l,h=>by
  have h1:=h x (Qy ..);have h2:=DX (l:=l) λy hy=>h y (Qg _ hy)
  simp[Tk,h1,h2]
theorem Dg.take{l:Uo}(h:Dg l)(k:Nat):Dg (l.take k):=λx hx=>h x (Qo hx)
theorem Dg.snoc{l:Uo}(h:Dg l){x:Nat}(hx:x<10000):Dg (l++[x]):=by
 intro y hy;rcases Qq.1 hy with hy|hy
 ·exact h y hy
 ·rw[Qk.1 hy];exact hx
theorem Dg.nil:Dg []:=λx h=>by cases h
theorem nQ:∀{l:Uo},Dg l->(∀x,l[l.length-1]? = some x->x≠0)->l=Gk (Tk l)
 | [],_,_=>by rw[Tk,Hy]
 |
  x::l,h,hl=>by
  have h1:=h x (Qy ..);have h2:l=Gk (Tk l):=nQ (λy hy=>h y (Qg _ hy)) λy hy=>hl y (by
   rcases l with _|⟨z,t⟩
   ·simp at hy
   ·simpa using hy)
  have h3:x+10000*Tk l≠0:=by
   intro e;have hx:x=0:=by omega
   have hd:Tk l=0:=by omega
   rw[hd,Hy]at h2;subst h2;exact hl x rfl hx
  simp only[Tk];rw[YT h3,show(x+10000*Tk l) % 10000=x by omega,show(x+10000*Tk l) / 10000=Tk l by omega,<-h2]
theorem uP{l:Uo}{m:Nat}(hd:Dg l)(hm:m<=l.length)(h1:∀j x,m<=j->l[j]? = some x->x=0)(h2:0<m->∃y,l[m-1]? = some y/\y≠0):l.take m=Gk (Tk l):=by
 have e:Tk l=Tk (l.take m):=by
  conv=>lhs;rw[<-Zh m l,Pv]
  rw[DX (l:=l.drop m) λx hx=>?_]
  ·omega
  ·obtain⟨j,hj⟩:=Zk.1 hx;rw[Xc]at hj;exact h1 (m+j) x (by omega) hj
 rw[e];refine nQ (hd.take m) λx hx=>?_
 have hl:(l.take m).length=m:=by rw[Qp];omega
 rw[hl]at hx;rcases Q3 m with h0|h0
 ·subst h0;simp at hx
 ·obtain⟨y,hy,hy0⟩:=h2 h0;rw[Kf (by omega),hy]at hx;injection hx with hx;rw[<-hx];exact hy0
theorem OK{o c i d m P V:Nat}(hP:P=10000^i)(h:o+c*P=V):o+P*((c+d*m) % 10000)+(c+d*m) / 10000*(P*10000)=V+P*d*m:=by
 have e:=Xe (c+d*m) 10000;generalize (c+d*m) / 10000=q at *;generalize (c+d*m) % 10000=r at *;have e2:P*(c+d*m)=P*(10000*q+r):=by rw[e]
 grind
theorem XK{x y:Nat}(h:x<=y):(Gk x).length<=(Gk y).length:=by
 induction y using Nat.strongRecOn generalizing x with
 |
  _ y ih =>
  by_cases h0:x=0
  ·subst h0;rw[Hy];exact Qh _
  ·have h1:=Ii h0;have h2:=Ii (x:=y) (by omega);have:=ih (y / 10000) (by omega) (x:=x / 10000) (Nat.div_le_div_right h);omega
theorem Qb5{n x:Nat}(h:10000^n<=x):n+1<=(Gk x).length:=by
 have h1:=DZ (Cn x);rw[Rf]at h1;have h2:n<(Gk x).length:=(Nat.pow_lt_pow_iff_right (by decide)).1 (Z3 h h1);omega
theorem uT{x y:Nat}(h:(Gk x).length<(Gk y).length):x<y:=by
 rcases Zb x y with h1|h1
 ·exact h1
 ·have:=XK h1;omega
theorem Qb7{k y:Nat}(h:y<10000^k):(Gk y).length<=k:=by
 induction k generalizing y with
 |
  zero =>
  have:y=0:=by simpa using h
  subst this;rw[Hy];exact Ql _
 |
  succ k ih =>
  by_cases hy0:y=0
  ·subst hy0;rw[Hy];exact Qh _
  ·have h8:=Ii hy0;have:=ih (y:=y / 10000) (by rw[Zr]at h;omega);omega
theorem Qg3{o:Uo}(h:Dg o)(hl:o.length<=(Gk (Tk o)).length):o=Gk (Tk o):=by
 refine nQ h λx hx h0=>?_
 subst h0;have hne:0<o.length:=by
  rcases o with _|⟨a,o⟩
  ·simp at hx
  ·simp
 have h1:Tk o=Tk (o.take (o.length-1)):=by
  have:=Tv hx;rw[show o.length-1+1=o.length by omega,Q6]at this;omega
 have h2:=DZ (h.take (o.length-1));rw[<-h1,Qp,Zy (by omega)]at h2;have:=Qb7 h2;omega
theorem XF{l:Uo}{j d:Nat}(h:l[j]? = some d):Tk (l.drop j)=d+10000*Tk (l.drop (j+1)):=by
 obtain⟨hj,he⟩:=Qf.1 h;rw[Zp hj,he];rfl
theorem RJ{l:Uo}{j y:Nat}(h:j<l.length):(l.set j y).drop j=y::l.drop (j+1):=by
 rw[Zp (by simpa using h)];simp only[List.getElem_set_self];rw[List.drop_set_of_lt (by omega)]
theorem Dg.set{l:Uo}(h:Dg l){j y:Nat}(hy:y<10000):Dg (l.set j y):=by
 intro x hx;rcases Jp hx with hx|rfl
 ·exact h x hx
 ·exact hy
theorem Dg.zeros(n:Nat):Dg (List.replicate n 0):=by
 intro x hx;rw[Zx hx];decide
theorem uN{V kd d:Nat}(hk:0<kd):(d+10000*V) / kd=(V % kd*10000+d) / kd+10000*(V / kd)/\(d+10000*V) % kd=(V % kd*10000+d) % kd/\(d<10000->(V % kd*10000+d) / kd<10000):=by
 have e:=Xe V kd;have e2:d+10000*V=(V % kd*10000+d)+kd*(10000*(V / kd)):=by
  conv=>lhs;rw[<-e]
  grind
 refine⟨?_,?_,λhd=>?_⟩
 ·rw[e2,Wc _ _ hk]
 ·rw[e2,Ka]
 ·have:=Z4 V hk;exact(Vw hk).2 (by grind)
theorem MC(l:Uo)(j:Nat)(h:j<=l.length):Tk l=Tk (l.take j)+10000^j*Tk (l.drop j):=by
 conv=>lhs;rw[<-Zh j l,Pv]
 rw[Qp,Zy h]
theorem CB{a b:Uo}{j d e:Nat}(ha:Dg a)(hd:a[j]? = some d)(he:b[j]? = some e)(hs:a.drop (j+1)=b.drop (j+1))(h:d<e):Tk a<Tk b:=by
 have h1:=(Qf.1 hd).1;have h2:=(Qf.1 he).1;rw[MC a j (by omega),MC b j (by omega),XF hd,XF he,hs];have h3:=DZ (ha.take j);rw[Qp,Zy (by omega)]at h3;generalize 10000^j=P at *;have h4:P*(d+10000*Tk (b.drop (j+1)))+P<=P*(e+10000*Tk (b.drop (j+1))):=by
  rw[<-W4];exact Zu _ (by omega)
 omega
def dl(l:Uo):LV:=.row (l.map λ(x:Nat)=>[.int .i64 (x:Int)])
theorem T0(l:Uo):(l.map λ(x:Nat)=>[LV.int .i64 (x:Int)]).length=l.length:=by simp
theorem Gz{l:Uo}{i x:Nat}(h:l[i]? = some x):(l.map λ(x:Nat)=>[LV.int .i64 (x:Int)])[i]? = some [.int .i64 (x:Int)]:=by rw[Q7,h];rfl
abbrev nd(x:Nat):LV:=dl (Gk x)
end Orr
namespace Orr
open Go Go.Proofs Tryz
set_option maxRecDepth 10000
abbrev Bz(l:Uo):Us:=l.map λ(x:Nat)=>[.int .i64 (x:Int)]
theorem Quu(l:Uo):∀c∈Bz l,c.length=1:=λc hc=>by obtain⟨x,_,rfl⟩:=Za.1 hc;rfl
theorem HA{l:Uo}(hd:Dg l):Uj 214 [.one (.row (Bz l))] [.one (nd (Tk l))]:=by
 refine Fx func214 rfl (ln 0 rfl rfl λhl=>?_);rw[Q9]at hl;refine Ud [] rfl ?_;refine lp (S:=Nat) 0 (λL1 n=>(3,.v (.oi n))::L1) (λ_=>[]) id (λn=>n<=l.length/\∀j x,n<=j->l[j]? = some x->x=0) (Bz l).length ⟨by simp,λj x h1 h2=>by
  have:=(Qf.1 h2).1;simp at h1;omega⟩ rfl (λ_ _=>rfl) rfl λn ⟨h1,h2⟩=>?_
 cases n with
 |zero=>exact Uf [.g 8 false (by simp),.f rfl,.i 0] rfl (by have:=uP hd h1 h2 (λh=>by omega);unfold nd;rw[<-this];simp[dl]) (by simp[U4])
 |
  succ n =>
  obtain⟨x,hx⟩:=gxE (l:=l) (i:=n) (by omega);by_cases h0:x=0
  ·refine Ue [.g 8 true (by simp),.r 11 (v:=.oi n) (by simp),.x (Gz hx),.t (by simp[h0]),.r 17 (v:=.oi n) (by simp)] rfl ?_;exact rd n (by simp) ⟨by omega,λj y h3 h4=>by
    rcases Vl h3 with rfl|h3
    ·rw[hx]at h4;injection h4 with h4;rw[<-h4,h0]
    ·exact h2 j y h3 h4⟩ rfl
  ·exact Uf [.g 8 true (by simp),.r 11 (v:=.oi n) (by simp),.x (Gz hx),.f (by simp[h0]),.i (n+1)] rfl (by have:=uP hd h1 h2 (λ_=>⟨x,hx,h0⟩);unfold nd;rw[<-this];simp[dl,List.map_take]) (by simp[U4] <;> omega)
theorem eK{x kd:Nat}(hxs:sz x<=100000000)(hk:0<kd/\kd<=65536):Uj 179 [.one (nd x),.oi kd] [.one (nd (x / kd)),.oi ((x % kd:Nat):Int)]:=by
 have hln:=Qa (Ms x) hxs;obtain⟨l,hl⟩:=nmE (Gk x);have hx:Tk l=x:=by rw[hl,Rf]
 have hd:Dg l:=by rw[hl];exact Cn x
 show Uj 179 [.one (.row (Bz (Gk x))),.oi kd] _;rw[<-hl]at hln ⊢;rw[<-hx];have hll:=T0 l;refine Fx func179 rfl ?_;refine Ue [.i (Bz l).length,.i (Bz l).length] rfl ?_;rw[hll,show List.replicate l.length [LV.int .i64 0]=Bz (List.replicate l.length 0) from by simp[Bz]];refine Ui (S:=Nat×Uo×Nat) 1 (λL1 s=>(8,.v (.oi ((s.1:Int)-1)))::(7,.v (.oi (s.2.2:Int)))::L1) (λs=>[.row false 3 1 (Bz s.2.1)]) (λs=>s.1) (λs=>s.1<=l.length/\s.2.1.length=l.length/\Dg s.2.1/\Tk (s.2.1.drop s.1)=Tk (l.drop s.1) / kd/\s.2.2=Tk (l.drop s.1) % kd) (l.length,List.replicate l.length 0,0) ⟨Ql _,by simp,Dg.zeros _,by simp[Tk],by simp[Tk]⟩ rfl rfl λ⟨k,o,R⟩ ⟨j1,j2,j3,j4,hR⟩=>?_
 dsimp only at j1 j2 j3 j4 hR ⊢;cases k with
 |
  zero =>
  have cc:=HA j3;rw[Xy,Xy]at j4;rw[j4]at cc;exact Uf [.f (by simp),.k cc] rfl (by rw[hR,Xy]) trivial
 |
  succ k =>
  obtain⟨d,hdk⟩:=gxE (l:=l) (i:=k) (by omega);have hd0:=hd d (Qc hdk);have hdd:=XF hdk;obtain⟨s1,s2,s3⟩:=uN (V:=Tk (l.drop (k+1))) (kd:=kd) (d:=d) hk.1;rw[<-hdd]at s1 s2;have hr:=Z4 (Tk (l.drop (k+1))) hk.1;rw[<-hR]at s1 s2 s3 hr;have e:((k+1:Nat):Int)-1=(k:Int):=by omega
  have htd:((R:Int)*10000+(d:Int)).tdiv (kd:Int)=(((R*10000+d) / kd:Nat):Int):=rfl;have hle:=Jq (R*10000+d) kd;have htb:0<=((R:Int)*10000+(d:Int)).tdiv (kd:Int)/\((R:Int)*10000+(d:Int)).tdiv (kd:Int)<=655369999:=by
   rw[htd];revert hle;generalize (R*10000+d) / kd=Q;intro hle;omega
  rw[e];refine Ue [.t (by simp),.x (Gz hdk),.r 26 (eI (b:=((R*10000+d:Nat):Int)) (by omega)),.r 31 (eI (b:=(((R*10000+d) / kd:Nat):Int)) (by rfl)),.i k,.r 35 (eI (b:=(((R*10000+d) % kd:Nat):Int)) (by rfl))] rfl ?_;exact rd (k,o.set k ((R*10000+d) / kd),(R*10000+d) % kd) (by dsimp only;omega) ⟨by dsimp only;omega,by simp[j2],j3.set (s3 hd0),by dsimp only;rw[RJ (by omega)];simp only[Tk];rw[j4,s1],by dsimp only;exact s2.symm⟩ (by simp[Bz,List.map_set];rfl)
theorem Qww(x k:Nat):sz (x / k)<=sz x:=Ri (Jq _ _)
theorem bZ{x y:Nat}{o:Uo}(h:Gd x=o++Gd y)(h0:y≠0):Gd x=(o++[y % 4294967296])++Gd (y / 4294967296):=by
 rw[h,E8 h0];simp
theorem Qpg(o:Uo)(z:Nat):lm (o++[z])=lm o++[[.int .u32 (z:Int)]]:=by simp[lm]
theorem Qyb{x:Nat}(hx:sz x<=100000000):Uj 107 [.one (nd x)] [lr (Gd x)]:=by
 have hlx:=Rp hx;refine Fx func107 rfl ?_;refine Ud [.o 3 151 1] rfl ?_;refine Ui (S:=Nat×Uo) 1 (λL1 s=>(0,.v (.one (nd s.1)))::(3,.v (.one (.orow 0 1 none)))::L1) (λs=>[.row false 151 1 (lm s.2)]) (λs=>s.1) (λs=>Gd x=s.2++Gd s.1/\s.1<=x) (x,[]) ⟨rfl,Ql _⟩ rfl rfl λ⟨y,o⟩ ⟨j1,j2⟩=>?_
 dsimp only at j1 j2 ⊢;by_cases h0:y=0
 ·subst h0;rw[Hd,Zw]at j1;rw[j1];exact Uf [.f (by simp[Hy])] rfl
 ·have hs:=bZ j1 h0;have hsy:sz y<=100000000:=Qa (Ri j2) hx;have c1:=eK (x:=y) (kd:=65536) hsy (by decide);have c2:=eK (x:=y / 65536) (kd:=65536) (Qa (Qww _ _) hsy) (by decide);have hl:(Gk y).length≠0:=λh=>h0 (MB.1 h)
  have ol:o.length<=(Gd x).length:=by rw[j1];simp
  have e:y / 65536 % 65536*65536+y % 65536=y % 4294967296:=by omega
  have e2:y / 65536 / 65536=y / 4294967296:=by omega
  refine go tt [.t (by simp;omega),.k c1,.k c2,.r 26 (Ep (b:=((y % 4294967296:Nat):Int)) (by omega)),.s (sz:=1) (l:=[[.int .u32 ((y % 4294967296:Nat):Int)]]) (λc hc=>by rw[Qk.1 hc];rfl)] rfl (by simp[U4,U8];omega) ?_;rw[<-e2]at hs;exact rd (y / 65536 / 65536,o++[y % 4294967296]) (by dsimp only;omega) ⟨hs,by dsimp only;omega⟩ (by rw[Qpg];rfl)
abbrev ri(z:Int):Ur:=[nd z.natAbs,sg z]
theorem Qy8(b:Bool)(m:Nat):[nd m,LV.bool (b && decide (0<m))]=ri (Fc b m):=by
 simp only[ri,sg,Rw,LL]
theorem Qv2(x:Nat):(0<(Gk x).length)↔0<x:=by
 have:=MB (x:=x);omega
theorem Ny(b:Bool)(m:Nat):Uj 108 [.one (nd m),.one (.bool b)] [.agg (ri (Fc b m))]:=by
 rw[<-Qy8];have e:=Qv2 m;cases b with
 |false=>exact Ug func108 rfl [.g 7 false rfl] rfl
 |true=>exact Ug func108 rfl [.g 7 true rfl] rfl (by simp[e]) trivial
theorem Dz{z:Int}:Uj 136 [.agg (ri z)] [.one (.bool (decide (z=0)))] :=
 Ug func136 rfl [] rfl (by have h:=MB (x:=z.natAbs);simp only[T0];congr 3;rw[decide_eq_decide];omega) trivial
theorem QG{z:Int}:Uj 137 [.agg (ri z)] [.agg (ri (-z))]:=by
 have h:=Ny (!decide (z<0)) z.natAbs;have e:Fc (!decide (z<0)) z.natAbs=-z:=by unfold Fc;by_cases h:z<0 <;> simp[h] <;> omega
 rw[e]at h;exact Ug func137 rfl [.k h] rfl
theorem Qnv{z:Int}(hz:Ff z<=100000000):Uj 45 [.agg (ri z)] [.agg (G9 z)] :=
 Ug func45 rfl [.k (Qyb hz)] rfl
theorem eBo{a b:Bool}(h:a=b):TV.one (LV.bool a)=.one (.bool b):=h ▸ rfl
theorem Ik(l:Uo)(x:Nat):Bz (l++[x])=Bz l++[[.int .i64 (x:Int)]]:=by simp[Bz]
theorem uS{x y:Nat}{o:Uo}(h:Gk x=o++Gk y)(h0:y≠0):Gk x=(o++[y % 10000])++Gk (y / 10000):=by
 rw[h,YT h0];simp
theorem Qt9{b:Bool}{x:Nat}(hx:x<=4000000000000000000)(hb:b=true->0<x):Uj 46 [.oi (Fc b x)] [.agg (ri (Fc b x))]:=by
 have hl:(Gk x).length<=100:=by
  have:=Ms x;have h2:sz x<=64:=Nv.2 (by omega);omega
 have hm:=Ny b x;refine Fx func46 rfl ?_;cases b with
 |
  false =>
  show AK prog _ _ _ (VA 0 [.oi x]) [];refine Ud [.f (by simp <;> omega),.r 3 (eBo (b:=false) (by simp)),.f rfl,.o 4 3 1] rfl ?_;refine Ui (S:=Nat×Uo) 2 (λL1 s=>(0,.v (.oi (s.1:Int)))::(4,.v (.one (.orow 1 1 none)))::L1) (λs=>[.blk 49 [.nils,.bool false],.row false 3 1 (Bz s.2)]) (λs=>s.1) (λs=>Gk x=s.2++Gk s.1/\s.1<=x) (x,[]) ⟨rfl,Ql _⟩ rfl rfl λ⟨y,o⟩ ⟨j1,j2⟩=>?_
  dsimp only at j1 j2 ⊢;by_cases h0:y=0
  ·subst h0;rw[Hy,Zw]at j1;rw[<-j1];exact Uf [.f (by simp),.k hm] rfl
  ·have hs:=uS j1 h0;have ol:o.length<=(Gk x).length:=by rw[j1];simp
   refine go tt [.t (by simp;omega),.r 18 (eI (b:=((y % 10000:Nat):Int)) (by rfl)),.s (sz:=1) (l:=[[.int .i64 ((y % 10000:Nat):Int)]]) (λc hc=>by rw[Qk.1 hc];rfl),.r 22 (eI (b:=((y / 10000:Nat):Int)) (by rfl))] rfl (by simp[U4,T0];omega) ?_;exact rd (y / 10000,o++[y % 10000]) (by dsimp only;omega) ⟨hs,by dsimp only;omega⟩ (by rw[Ik];rfl)
 |
  true =>
  show AK prog _ _ _ (VA 0 [.oi (-(x:Int))]) [];refine Ue [.f (by simp <;> omega),.r 3 (eBo (b:=true) (by simpa using hb rfl)),.t rfl,.r 0 (eI (b:=(x:Int)) (by omega)),.o 4 3 1] rfl ?_;refine Ui (S:=Nat×Uo) 2 (λL1 s=>(0,.v (.oi (s.1:Int)))::(4,.v (.one (.orow 1 1 none)))::L1) (λs=>[.blk 49 [.nils,.bool false],.row false 3 1 (Bz s.2)]) (λs=>s.1) (λs=>Gk x=s.2++Gk s.1/\s.1<=x) (x,[]) ⟨rfl,Ql _⟩ rfl rfl λ⟨y,o⟩ ⟨j1,j2⟩=>?_
  dsimp only at j1 j2 ⊢;by_cases h0:y=0
  ·subst h0;rw[Hy,Zw]at j1;rw[<-j1];exact Uf [.f (by simp),.k hm] rfl
  ·have hs:=uS j1 h0;have ol:o.length<=(Gk x).length:=by rw[j1];simp
   refine go tt [.t (by simp;omega),.r 18 (eI (b:=((y % 10000:Nat):Int)) (by rfl)),.s (sz:=1) (l:=[[.int .i64 ((y % 10000:Nat):Int)]]) (λc hc=>by rw[Qk.1 hc];rfl),.r 22 (eI (b:=((y / 10000:Nat):Int)) (by rfl))] rfl (by simp[U4,T0];omega) ?_;exact rd (y / 10000,o++[y % 10000]) (by dsimp only;omega) ⟨hs,by dsimp only;omega⟩ (by rw[Ik];rfl)
theorem ZH{n:Int}(hn:-4000000000000000000<=n/\n<=4000000000000000000):Uj 46 [.oi n] [.agg (ri n)]:=by
 have e:Fc (decide (n<0)) n.natAbs=n:=by unfold Fc;by_cases h:n<0 <;> simp[h] <;> omega
 have h:=Qt9 (b:=decide (n<0)) (x:=n.natAbs) (by omega) (λh=>by have:=of_decide_eq_true h;omega);rwa[e]at h
abbrev fr(q:Rat):Ur:=ri q.num++ri (q.den:Int)
theorem Ij:Gk 1=[1]:=by rw[YT (by decide)];rw[Hy]
theorem Ag{n:Int}:Uj 68 [.agg (ri n),.agg (ri 1)] [.agg (fr (n:Rat))]:=by
 have h0:(Bz (Gk (1:Int).natAbs))[0]? = some [LV.int .i64 1]:=by rw[show(1:Int).natAbs=1 from rfl,Ij];rfl
 have h1:decide (((Bz (Gk (1:Int).natAbs)).length:Int)=1)=true:=by rw[show(1:Int).natAbs=1 from rfl,Ij];rfl
 exact Ug func68 rfl [.k (Dz (z:=1)),.f rfl,.f rfl,.g 19 true h1,.x h0,.t rfl] rfl
theorem XZ{n:Int}(hn:-4000000000000000000<=n/\n<=4000000000000000000):Uj 15 [.oi n,.oi 1] [.agg (fr (n:Rat))] :=
 Ug func15 rfl [.k (ZH hn),.k (ZH (n:=1) (by decide)),.k Ag] rfl
theorem IL{q:Rat}(hq:Qs 100000000 q):Uj 14 [.agg (fr q)] [.agg (rl q)] :=
 Ug func14 rfl [.k (Qnv hq.1),.k (Qnv hq.2)] rfl
end Orr
namespace Orr
open Go Go.Proofs Tryz Orq
set_option maxRecDepth 10000
theorem I7{a:Tm}(ha:Va a):UM a a=some 0:=by
 obtain⟨c,c1,c2⟩:=UN ha ha;rcases c2 with⟨_,h⟩|⟨e,_⟩|⟨_,h⟩
 ·exact absurd h λh=>I0 ha.cut ha.cut h h
 ·rw[c1,e]
 ·exact absurd h λh=>I0 ha.cut ha.cut h h
theorem jZ{c:Cr}{l l':List Pt}{r1:Us}{ws:List Wt}(hc:CrOk c)(hl:∀p∈l',Sc p.c)(hn:l'.length≤1000)(h:Tn c.l c.now (Fp (VI l' c.now))=some ws) :
 U7 prog 397 [.one (.ow 0 0),.agg [pts l'],.oi 0] [.blk 220 (Hm c (U3 l) r1)] [.oi 0] [.blk 220 (Hm ⟨c.now,ws,c.ev⟩ (U3 l') (pA l' c.now))]:=by
 have hB:=pT hl hn;have cn:=QF (T:=220) (c:=c) (r0:=U3 l') (r1:=r1) hc.n;have cb:=IC (c:=c) (r1:=r1) hl hn hc.n;have cg:=YK (T:=220) (r0:=U3 l') (r1:=pA l' c.now) hc hc.n (I7 hc.n) (Yd 0) (hB.p _ hc.n) (hB.n _ hc.n) h;refine Fx func397 rfl ?_;exact Uh [] [0] [.f rfl,.c [0] cn,.c [0] cb,.c [0] cg] rfl
theorem Qt5{c:Cr}{l s:List Pt}(hs:s.length<=1000000):U7 prog 81 [.one (.ow 0 0)] [.blk 220 (Hm c (U3 l) (U3 s))] [.one (ids (s.map (·.id)))] [.blk 220 (Hm c (U3 l) (U3 s))]:=by
 have hcl:=G7 s;refine Fx func81 rfl ?_;refine Ud [.o 3 3 1] rfl ?_;refine Ui (S:=Nat) 2 (λL1 i=>(11,.v (.oi i))::(3,.v (.one (.orow 1 1 none)))::L1) (λi=>[.blk 220 (Hm c (U3 l) (U3 s)),.row false 3 1 (((s.take i).map (·.id)).map λ(z:Int)=>[LV.int .i64 z])]) (λi=>s.length-i) (λi=>i<=s.length) 0 (Qh _) rfl rfl λi hi=>?_
 by_cases hlt:i<s.length
 ·obtain⟨p,hp⟩:=gxE (l:=s) (i:=i) hlt;have hg:(((s.take (i+1)).map (·.id)).map λ(z:Int)=>[LV.int .i64 z])=(((s.take i).map (·.id)).map λ(z:Int)=>[LV.int .i64 z])++[[.int .i64 p.id]]:=by
   rw[Zv,hp];simp
  refine Ue [.t (by simp[hcl];omega),.x (Ty hp),.s (sz:=1) (l:=[[.int .i64 p.id]]) (λc hc=>by rw[Qk.1 hc];rfl)] rfl ?_;exact rd (i+1) (by omega) hlt (by rw[hg];rfl)
 ·obtain rfl:i=s.length:=by omega
  rw[Q6];exact Uh [1] [0] [.f (by simp[hcl])] rfl
theorem Qt6{lx ly:Us}{px py:Um}{x y:LV}{d id:Int}{c:Cr}{l:List Pt}{r1:Us}{ws:List Wt}(hx:IsInts lx px)(hy:IsInts ly py)(hd:Gg x y d)(hk:Cs 4294967294 1073741824 (Crv.mk px py d))(hll:l.length<=900)
 (he:WT l ⟨Crv.norm (Crv.mk px py d),id⟩=0) (hc:CrOk c) (hl:∀p∈put l ⟨Crv.norm (Crv.mk px py d),id⟩,Sc p.c) (hn:(put l ⟨Crv.norm (Crv.mk px py d),id⟩).length≤1000) (h:Tn c.l c.now (Fp (VI (put l ⟨Crv.norm (Crv.mk px py d),id⟩) c.now))=some ws) :
 U7 prog 393 [.one (.ow 0 0),.agg [.row lx,.row ly,x,y,.int .i64 id]] [.blk 220 (Hm c (U3 l) r1)] [.oi 0] [.blk 220 (Hm ⟨c.now,ws,c.ev⟩ (U3 (put l ⟨Crv.norm (Crv.mk px py d),id⟩)) (pA (put l ⟨Crv.norm (Crv.mk px py d),id⟩) c.now))]:=by
 have cp:=wN (l:=l) (id:=id) hx hy hd hk (by omega);rw[if_pos he,he]at cp;have cw:=jZ (l:=l) (r1:=r1) hc hl hn h;refine Fx func393 rfl ?_;obtain⟨b,l',rfl,rfl,_⟩:=hd;exact Uh [] [0] [.k cp,.c [0] cw] rfl
theorem Qt4{t:Rat}{l:List Pt}{K:Nat}{c c':Cr}{r1 r1':Us}{n:Int}(ht:Qs 1640000 t)(hl:∀p∈l,Sc p.c)(hn:l.length≤1000)(hc:CrOk c)(hev:0≤c.ev/\c.ev+K≤1000000000000000000)(h:Ft c.now t≤0)(hg:HW (VI l) (pA l) t K c r1 0=some (c',r1',n)) :
 U7 prog 388 [.one (.ow 0 0),.agg (rl t)] [.blk 220 (Hm c (U3 l) r1)] [.oi n,.oi 0] [.blk 220 (Hm c' (U3 l) r1')]:=by
 have cg:=Qx2 (T:=220) (r0:=U3 l) ht (pT hl hn) (λa c r1 ha _=>IC (c:=c) (r1:=r1) hl hn ha) hc hev h hg;refine Fx func388 rfl ?_;exact Uh [] [0] [.k (Nz (ht.mono (by decide))),.c [0] cg] rfl
theorem Qfl{c:Cr}{r0 r1:Us}:U7 prog 63 [.one (.ow 0 0)] [.blk 220 (Hm c r0 r1)] [.one (.ow 1 0)] [.blk 220 (Hm c r0 r1),.blk 220 (Hm c r0 r1)]:=by
 refine Fx func63 rfl ?_;exact Uh [] [0,1] [] rfl
abbrev idl(l:Um):Us:=l.map λ(z:Int)=>[.int .i64 z]
theorem MA{l:Um}{i:Nat}{z:Int}(h:l[i]? = some z):(idl l)[i]? = some [.int .i64 z]:=G6 h
theorem mK{a b:Um}(ha:a.length<=1000000)(hb:b.length<=1000000):Uj 40 [.one (ids a),.one (ids b)] [.one (.bool (decide (a=b)))]:=by
 show Uj 40 [.one (.row (idl a)),.one (.row (idl b))] _;have la:(idl a).length=a.length:=by simp
 have lb:(idl b).length=b.length:=by simp
 refine Fx func40 rfl ?_;by_cases hl:a.length=b.length
 ·refine Ud [.f (by simp;omega)] rfl ?_;refine Ui (S:=Nat) 0 (λL1 i=>(5,.v (.oi i))::L1) (λ_=>[]) (λi=>a.length-i) (λi=>i<=a.length/\a.take i=b.take i) 0 ⟨Qh _,rfl⟩ rfl rfl λi ⟨hi,he⟩=>?_
  by_cases hlt:i<a.length
  ·obtain⟨x,hx⟩:=gxE (l:=a) (i:=i) hlt;obtain⟨y,hy⟩:=gxE (l:=b) (i:=i) (by omega);by_cases e:x=y
   ·refine Ue [.t (by simp;omega),.x (MA hx),.x (MA hy),.f (by simpa using e)] rfl ?_;exact rd (i+1) (by omega) ⟨hlt,by rw[Zv,Zv,hx,hy,he,e]⟩ rfl
   ·have hne:a≠b:=λh=>by rw[h,hy]at hx;injection hx with hx;exact e hx.symm
    exact Uf [.t (by simp;omega),.x (MA hx),.x (MA hy),.t (by simpa using e)] rfl (by simp[hne]) trivial
  ·obtain rfl:i=a.length:=by omega
   have hab:a=b:=by rw[Q6]at he;rw[he,hl,Q6]
   exact Uf [.f (by simp)] rfl (by simp[hab]) trivial
 ·have hne:a≠b:=λh=>hl (by rw[h])
  exact Uf [.t (by simp;omega)] rfl (by simp[hne]) trivial
def Pm(v n:Int):Int:=if n<1 then 0 else v.emod n
theorem Qds{v n:Int}(h:0<n):(if v.tmod n<0 then v.tmod n+n else v.tmod n)=v % n:=by
 have h3:=Ye v (show n≠0 by omega);have h4:=Js v h;have h1:=Int.tmod_eq_emod (a:=v) (b:=n);have hn:((n.natAbs:Nat):Int)=n:=by omega
 split at h1
 ·rw[h1];simp;omega
 ·rename_i hc;rw[h1,hn];have:v % n≠0:=λe=>hc (.inr (Vg e))
  rw[if_pos (by omega)];omega
theorem Cj{v n:Int}(hv:-9223372036854775808<=v/\v<=9223372036854775807)(hn:n<=1000000000):Uj 16 [.oi v,.oi n] [.oi (Pm v n)]:=by
 unfold Pm;by_cases h:n<1
 ·rw[if_pos h];exact Ug func16 rfl [.t (by simpa using h)] rfl
 ·rw[if_neg h];have e:=Qds (v:=v) (n:=n) (by omega);have h3:=Ye v (show n≠0 by omega);have h4:=Js v (show 0<n by omega);show Uj 16 [.oi v,.oi n] [.oi (v % n)];by_cases h0:v.tmod n<0
  ·rw[if_pos h0]at e;have b:-n<=v.tmod n:=by omega
   exact Ug func16 rfl [.f (by simpa using h),.t (by simpa using h0)] rfl (by rw[e]) (by simp[U4];omega)
  ·rw[if_neg h0]at e;exact Ug func16 rfl [.f (by simpa using h),.f (by simpa using h0)] rfl (by rw[e]) (by simp[U4];omega)
end Orr
namespace Orr
open Go Go.Proofs Tryz Orq
theorem tO{x y:Int}(hx:-9223372036854775808<=x/\x<=9223372036854775807)(hy:-9223372036854775808<=y/\y<=9223372036854775807):Sc (Te x y):=⟨Crv.nml _,((uG hx hy).norm (by decide)).mono (by decide) (by decide)⟩
end Orr
namespace Orr
open Go Go.Proofs Tryz Orq
set_option maxRecDepth 10000
def pQ(l:List Pt)(a:Tm):List Ct:=Lp (Fw a) l
abbrev brP(l:List Pt)(a:Tm):Us:=U3 (ZP (Fw a) l)
theorem lK{l:List Pt}{a:Tm}:∀x∈pQ l a,x.p∈AD l:=λx hx=>by
 match l,hx with
 |
  u::v::l',hx =>
  unfold pQ at hx;simp only[Lp]at hx;obtain⟨h3,h4⟩:=Lm (Fw a) (l:=u::v::l') (Gt (u::v::l')) (u,v) ⟨by simp,by simp⟩ (S7 _ _);obtain⟨m,hm,rfl⟩:=OV hx;obtain⟨h1,h2⟩:=S7 _ _ m hm;rw[LM];exact NE h3 h4 h1 h2
theorem Qej{l:List Pt}(hl:∀p∈l,Sc p.c)(hn:l.length≤10):BuildOk (pQ l) :=
 ⟨λ_ _ x hx=>UJ hl _ (lK x hx),λa _=>by
  have:=qO (Fw a) l;have:l.length*l.length<=10*10:=Zc hn hn;show(Lp (Fw a) l).length<=1000;omega⟩
def Qxv(l:List Pt)(a:Tm):Cr:=⟨a,(Fp (pQ l a)).map fresh,0⟩
theorem Qng{t:Rat}{l:List Pt}{K:Nat}{c c':Cr}{r1 r1':Us}{n:Int}(ht:Qs 1640000 t)(hl:∀p∈l,Sc p.c)(hn:l.length≤10)(hc:CrOk c)(hev:0≤c.ev/\c.ev+K≤1000000000000000000)(h:Ft c.now t≤0)(hg:HW (pQ l) (brP l) t K c r1 0=some (c',r1',n)) :
 U7 prog 427 [.one (.ow 0 0),.agg (rl t)] [.blk 227 (Hm c (U3 l) r1)] [.oi n,.oi 0] [.blk 227 (Hm c' (U3 l) r1')]:=by
 have cg:=Qtv (T:=227) (r0:=U3 l) ht (Qej hl hn) (λa c r1 ha _=>IB (c:=c) (r1:=r1) hl hn ha) hc hev h hg;refine Fx func427 rfl ?_;exact Uh [] [0] [.k (Nz (ht.mono (by decide))),.c [0] cg] rfl
theorem lP{c:Cr}{r0:Us}{a b:Pt}:U7 prog 85 [.one (.ow 0 0)] [.blk 227 (Hm c r0 (U3 [a,b]))] [.oi a.id,.oi b.id,.one (.bool true)] [.blk 227 (Hm c r0 (U3 [a,b]))]:=by
 refine Fx func85 rfl ?_;exact Uh [] [0] [.f rfl,.x (l:=U3 [a,b]) (i:=0) (xs:=Fe a) rfl,.x (l:=U3 [a,b]) (i:=1) (xs:=Fe b) rfl] rfl
theorem wM{c:Cr}{r0:Us}:U7 prog 85 [.one (.ow 0 0)] [.blk 227 (Hm c r0 [])] [.oi 0,.oi 0,.one (.bool false)] [.blk 227 (Hm c r0 [])]:=by
 refine Fx func85 rfl ?_;exact Uh [] [0] [.t rfl] rfl
end Orr
namespace Orr
open Go
def PL(q:Um->Int)(a b:Pt):Pt×Pt:=if Ch q a b=true then(a,b)else(b,a)
def O1(q:Um->Int):Nat->List Pt->List Pt×List (Pt×Pt)
 | 0,l=>(l,[])
 |
  k+1,l=>if l.length<2 then(l,[])else
  match (O1 q k (l.take ((l.length+1) / 2))).1,(O1 q k (l.drop ((l.length+1) / 2))).1 with
  |a::_,b::_=>([(PL q a b).1],(O1 q k (l.take ((l.length+1) / 2))).2++(O1 q k (l.drop ((l.length+1) / 2))).2++[PL q a b])
  |_,_=>([],[])
theorem Dv(q:Um->Int):∀(k:Nat) (l:List Pt),l.length<=k->O1 q k l=O1 q l.length l
 | 0,l,h=>by rw[show l.length=0 by omega]
 |
  k+1,l,h=>by
  cases hl:l.length with
  |zero=>simp[O1,hl]
  |
   succ m =>
   simp only[O1];by_cases h2:l.length<2
   ·rw[if_pos h2,if_pos h2]
   ·rw[if_neg h2,if_neg h2];have h3:(l.take ((l.length+1) / 2)).length<=m:=by rw[Qp];omega
    have h4:(l.drop ((l.length+1) / 2)).length<=m:=by rw[Q8];omega
    rw[Dv q k (l.take ((l.length+1) / 2)) (by omega),Dv q k (l.drop ((l.length+1) / 2)) (by omega),Dv q m (l.take ((l.length+1) / 2)) h3,Dv q m (l.drop ((l.length+1) / 2)) h4]
termination_by k=>k
def Nc(q:Um->Int)(l:List Pt):List Pt×List (Pt×Pt):=O1 q l.length l
theorem Cy(q:Um->Int){l:List Pt}(h:l.length<2):Nc q l=(l,[]):=by
 unfold Nc;cases hl:l.length with
 |zero=>rfl
 |succ m=>simp only[O1];rw[if_pos h]
theorem O2(q:Um->Int){l:List Pt}(h:¬l.length<2){a b:Pt}(ha:(Nc q (l.take ((l.length+1) / 2))).1=[a])(hb:(Nc q (l.drop ((l.length+1) / 2))).1=[b]) :
 Nc q l=([(PL q a b).1],(Nc q (l.take ((l.length+1) / 2))).2++(Nc q (l.drop ((l.length+1) / 2))).2++[PL q a b]):=by
 unfold Nc at ha hb ⊢;obtain⟨m,hm⟩:∃m,l.length=m+1:=⟨l.length-1,by omega⟩;have h3:(l.take ((l.length+1) / 2)).length<=m:=by rw[Qp];omega
 have h4:(l.drop ((l.length+1) / 2)).length<=m:=by rw[Q8];omega
 rw[<-Dv q m _ h3]at ha ⊢;rw[<-Dv q m _ h4]at hb ⊢;rw[show O1 q l.length l=O1 q (m+1) l by rw[hm]];simp only[O1];rw[if_neg h,ha,hb]
theorem Nq(q:Um->Int):∀(k:Nat) (l:List Pt),l.length≤k->0<l.length->∃a,(Nc q l).1=[a]/\a∈l/\∀m∈(Nc q l).2,m.1∈l/\m.2∈l
 | 0,l,h,h0=>by omega
 |
  k+1,l,h,h0=>by
  by_cases h2:l.length<2
  ·rw[Cy q h2]
   match l,h0,h2 with
   | [a],_,_=>exact⟨a,rfl,by simp,by simp⟩
  ·obtain⟨a,ha,hal,ham⟩:=Nq q k (l.take ((l.length+1) / 2)) (by rw[Qp];omega) (by rw[Qp];omega);obtain⟨b,hb,hbl,hbm⟩:=Nq q k (l.drop ((l.length+1) / 2)) (by rw[Q8];omega) (by rw[Q8];omega);rw[O2 q h2 ha hb];have hd:(PL q a b).1∈l/\(PL q a b).2∈l:=by
    unfold PL;split
    ·exact⟨Qo hal,Qz hbl⟩
    ·exact⟨Qz hbl,Qo hal⟩
   refine⟨_,rfl,hd.1,λm hm=>?_⟩;rcases Qq.1 hm with hm|hm
   ·rcases Qq.1 hm with hm|hm
    ·exact⟨Qo (ham m hm).1,Qo (ham m hm).2⟩
    ·exact⟨Qz (hbm m hm).1,Qz (hbm m hm).2⟩
   ·rw[Qk.1 hm];exact hd
theorem Dw(q:Um->Int):∀(k:Nat) (l:List Pt),l.length<=k->(Nc q l).2.length<=l.length-1
 | 0,l,h=>by rw[Cy q (by omega)];simp
 |
  k+1,l,h=>by
  by_cases h2:l.length<2
  ·rw[Cy q h2];simp
  ·obtain⟨a,ha,_⟩:=Nq q l.length (l.take ((l.length+1) / 2)) (by rw[Qp];omega) (by rw[Qp];omega);obtain⟨b,hb,_⟩:=Nq q l.length (l.drop ((l.length+1) / 2)) (by rw[Q8];omega) (by rw[Q8];omega);rw[O2 q h2 ha hb];have h3:=Dw q k (l.take ((l.length+1) / 2)) (by rw[Qp];omega);have h4:=Dw q k (l.drop ((l.length+1) / 2)) (by rw[Q8];omega);rw[Qp]at h3;rw[Q8]at h4;simp only[Qu,Vs];omega
abbrev Qc2(m:Pt×Pt):Ur:=[pl m.1.c.x,pl m.1.c.y,sg m.1.c.d,mg m.1.c.d,.int .i64 m.1.id,pl m.2.c.x,pl m.2.c.y,sg m.2.c.d,mg m.2.c.d,.int .i64 m.2.id]
end Orr
namespace Orq
open Orr Go
def FT(q:Rat)(x y:Pt):Prop:=py y q<py x q\/py y q=py x q/\(px y q<px x q\/px y q=px x q/\x.id<y.id)
theorem Qiq(q:Rat)(x:Pt):¬FT q x x:=by unfold FT;grind
theorem Qpe(q:Rat)(x y z:Pt)(h:FT q x y)(h':FT q y z):FT q x z:=by unfold FT at *;grind
theorem Qir{q:Rat}{x y:Pt}(h:x.id≠y.id)(h':¬FT q x y):FT q y x:=by unfold FT at *;grind
theorem Qa4{a:Tm}(ha:Va a){x y:Pt}(hx:Sc x.c)(hy:Sc y.c){q:Rat}(h1:Hk (Fw a) (Gn y.c x.c)=Fh (Fa (Gn y.c x.c) q))(h2:Hk (Fw a) (Gp y.c x.c)=Fh (Fa (Gp y.c x.c) q)):Ch (Fw a) x y=true↔FT q x y:=by
 rw[TD hy hx]at h1;rw[TL hy hx]at h2;have d1:=(Nh hy hx).dp;have d2:=(Ni hy hx).dp;unfold Ch;simp only[Ea];have t1:=Gb (py x q-py y q);have t2:=Gb (px x q-px y q);by_cases e1:(Gn y.c x.c).length=0
 ·rw[if_neg (by omega)];rw[Qj e1,XS]at h1;have:py x q=py y q:=by grind
  by_cases e2:(Gp y.c x.c).length=0
  ·rw[if_neg (by omega)];rw[Qj e2,XS]at h2;unfold FT;simp only[decide_eq_true_eq];grind
  ·rw[if_pos (by omega)];have:=(Er ha d2 e2).2;unfold FT;simp only[decide_eq_true_eq];grind
 ·rw[if_pos (by omega)];have:=(Er ha d1 e1).2;unfold FT;simp only[decide_eq_true_eq];grind
theorem wF{l:List Pt}(hl:∀p∈l,Sc p.c){a:Tm}(ha:Va a):∃y,Ft a y=-1/\∀q,Ft a q=-1->q≤y->∀u∈l,∀v∈l,(Ch (Fw a) u v=true↔FT q u v):=by
 obtain⟨y,y1,y2⟩:=XP ha (Af l) λp hp=>(QV hl p hp).dp
 refine⟨y,y1,λq q1 q2 u hu v hv=>?_⟩;have h:=y2 q q1 q2;exact Qa4 ha (hl u hu) (hl v hv) (h _ (Sp hv hu).2) (h _ (Sp hv hu).1)
theorem bK{a b:Tm}{x y:Pt}(h:Hk (Fw b) (Au x y)=Hk (Fw a) (Au x y)):Ch (Fw b) x y=Ch (Fw a) x y:=by
 unfold Au Lz at h;unfold Ch;simp only[Ea];by_cases e1:0<(Gn y.c x.c).length
 ·rw[if_pos e1,if_pos e1];rw[if_pos e1]at h;rw[h]
 ·rw[if_neg e1,if_neg e1];rw[if_neg e1]at h;rw[h]
theorem Qib{l:List Pt}{k:Nat}(h2:¬l.length<2)(hk:l.length<=k+1):(l.take ((l.length+1) / 2)).length<=k/\(l.drop ((l.length+1) / 2)).length<=k/\0<(l.take ((l.length+1) / 2)).length/\0<(l.drop ((l.length+1) / 2)).length:=by
 rw[Qp,Q8];omega
theorem TF{sa sb:Um->Int}:∀(k:Nat) (l:List Pt),l.length≤k->l.Pairwise (λx y=>x.id≠y.id)->(∀u∈l,∀v∈l,u.id≠v.id->Ch sa u v=false->Ch sa v u=true)->(∀u∈l,∀v∈l,Ch sb v u=true->Ch sb u v=false)->(∀m∈(Nc sa l).2,Ch sb m.1 m.2=Ch sa m.1 m.2)->Nc sb l=Nc sa l
 | 0,l,hk,_,_,_,_=>by rw[Cy _ (by omega),Cy _ (by omega)]
 |
  k+1,l,hk,hd,h1,h2,hm=>by
  by_cases hs:l.length<2
  ·rw[Cy _ hs,Cy _ hs]
  ·obtain⟨k1,k2,k3,k4⟩:=Qib hs hk;obtain⟨a,ha,hal,_⟩:=Nq sa k (l.take ((l.length+1) / 2)) k1 k3;obtain⟨b,hb,hbl,_⟩:=Nq sa k (l.drop ((l.length+1) / 2)) k2 k4;have hpl:=O2 sa hs ha hb;rw[hpl]at hm;have hd':=hd;rw[<-Zh ((l.length+1) / 2) l]at hd';obtain⟨d1,d2,d3⟩:=Xw.1 hd';have i1:=TF k _ k1 d1 (λu hu v hv=>h1 u (Qo hu) v (Qo hv)) (λu hu v hv=>h2 u (Qo hu) v (Qo hv)) λm hm'=>hm m (by simp[hm'])
   have i2:=TF k _ k2 d2 (λu hu v hv=>h1 u (Qz hu) v (Qz hv)) (λu hu v hv=>h2 u (Qz hu) v (Qz hv)) λm hm'=>hm m (by simp[hm'])
   have hal':=Qo hal;have hbl':=Qz hbl;have e:PL sb a b=PL sa a b:=by
    have hmem:=hm (PL sa a b) (by simp);unfold PL at hmem ⊢;by_cases h:Ch sa a b=true
    ·rw[if_pos h]at hmem ⊢;rw[if_pos (hmem.trans h)]
    ·rw[if_neg h]at hmem ⊢;have h:Ch sa a b=false:=by simpa using h
     have:=h2 a hal' b hbl' (hmem.trans (h1 a hal' b hbl' (d3 a hal b hbl) h));rw[if_neg (by simp[this])]
   rw[hpl,O2 sb hs (by rw[i1];exact ha) (by rw[i2];exact hb),i1,i2,e]
end Orq
namespace Orr
open Orq Go
def AE(l:List Pt)(a:Tm):List Ct:=(Nc (Fw a) l).2.map λm=>D6 (Fw a) m.1 m.2
def pI(l:List Pt)(a:Tm):Us×Us:=((Nc (Fw a) l).1.map Fe,(Nc (Fw a) l).2.map Qc2)
theorem JH{sg:Um->Int}{l:List Pt}:∀m∈(Nc sg l).2,m.1∈l/\m.2∈l:=λm hm=>by
 by_cases h:0<l.length
 ·obtain⟨_,_,_,h3⟩:=Nq sg l.length l (Ql _) h;exact h3 m hm
 ·rw[Cy _ (by omega)]at hm;cases hm
theorem Qtg{l:List Pt}(hl:∀p∈l,Sc p.c){a:Tm}:∀x∈AE l a,Cp x.p:=λx hx=>by
 obtain⟨m,hm,rfl⟩:=Za.1 hx;obtain⟨h1,h2⟩:=JH m hm;exact YS (Nh (hl _ h2) (hl _ h1)) (Ni (hl _ h2) (hl _ h1))
theorem pS{l:List Pt}(hl:∀p∈l,Sc p.c)(hn:l.length≤1000):BuildOk (AE l) :=
 ⟨λa _=>Qtg hl,λa _=>by
  unfold AE;rw[List.length_map];have:=Dw (Fw a) l.length l (Ql _);omega⟩
theorem Qmv{l:List Pt}{a:Tm}:∀x∈AE l a,x.p∈Af l:=λx hx=>by
 obtain⟨m,hm,rfl⟩:=Za.1 hx;obtain⟨h1,h2⟩:=JH m hm;show Au m.1 m.2∈Af l;unfold Au Lz;split
 ·exact(Sp h2 h1).2
 ·exact(Sp h2 h1).1
theorem Qzj{l:List Pt}(hl:∀p∈l,Sc p.c)(hn:l.length≤1000)(hd:l.Pairwise λx y=>x.id≠y.id):Stab (AE l) (pI l):=by
 refine⟨pS hl hn,⟨Af l,QV hl,λa _ x hx=>?_⟩,λa b ha hb h=>?_⟩
 ·obtain⟨m,hm,rfl⟩:=Za.1 hx;obtain⟨h1,h2⟩:=JH m hm;show Au m.1 m.2∈Af l;unfold Au Lz;split
  ·exact(Sp h2 h1).2
  ·exact(Sp h2 h1).1
 ·obtain⟨y,y1,y2⟩:=wF hl ha;obtain⟨z,z1,z2⟩:=wF hl hb;have ga:=y2 y y1 Qr;have gb:=z2 z z1 Qr;have e:Nc (Fw b) l=Nc (Fw a) l:=TF l.length l (Ql _) hd (λu hu v hv hne hf=>(ga v hv u hu).2 (Qir hne λh=>by
   rw[(ga u hu v hv).2 h]at hf;cases hf)) (λu hu v hv ht=>by
   cases hb':Ch (Fw b) u v
   ·rfl
   ·exact absurd (Qpe z u v u ((gb u hu v hv).1 hb') ((gb v hv u hu).1 ht)) (Qiq z u)) λm hm=>bK (h (D6 (Fw a) m.1 m.2) (Za.2 ⟨m,hm,rfl⟩))
  refine⟨?_,by unfold pI;rw[e]⟩;unfold AE;rw[e];refine Xk λm hm=>?_
  have:=h (D6 (Fw a) m.1 m.2) (Za.2 ⟨m,hm,rfl⟩);unfold D6;rw[show Hk (Fw b) (Au m.1 m.2)=Hk (Fw a) (Au m.1 m.2) from this]
end Orr
namespace Orq
open Orr Go
def ZT(a:Crv):Un:=[Fq a.x a.d,Fq a.y a.d,A8 (Gm a.x a.x) (Gm a.y a.y),[a.d*a.d]]
def uF(a b c d:Crv):List Un:=[ZT a,ZT b,ZT c,ZT d]
def KJ(a b c d:Crv):Um:=Lr 4 (uF a b c d)
theorem GQ{s:Nat}{k:Crv}(hn:ZI k)(hc:Cs s 3 k):(∀p∈ZT k,Fg p/\Bd (s+s+3) p)/\∀(j:Nat) (p:Um),(ZT k)[j]? = some p->p.length≤[2,2,4,0].getD j 0+1:=by
 have l1:=Fy k.x k.d;have l2:=Fy k.y k.d;have l3:=Tx k.x k.x;have l4:=Tx k.y k.y;have l5:=Oi (Gm k.x k.x) (Gm k.y k.y);have kx:=hc.lx;have ky:=hc.ly;have bx:Bd (s+s+2) (Gm k.x k.x):=Po hc.x hc.x (by omega);have by_:Bd (s+s+2) (Gm k.y k.y):=Po hc.y hc.y (by omega);have hd:=hn.2.2.1;have hd0:k.d*k.d≠0:=λe=>by rcases Yf.1 e with e|e <;> omega
 have td:Fg [k.d*k.d]:=by unfold Fg;simp[trim,hd0]
 refine⟨λp hp=>?_,λj p hp=>?_⟩
 ·simp only[ZT,Qn,X2,or_false]at hp;rcases hp with rfl|rfl|rfl|rfl
  ·exact⟨Fz _ _,U6 (Ge hc.x hc.d) (by omega)⟩
  ·exact⟨Fz _ _,U6 (Ge hc.y hc.d) (by omega)⟩
  ·exact⟨Fz _ _,U6 (YY bx by_) (by omega)⟩
  ·refine⟨td,λz hz=>?_⟩;rw[Qk.1 hz];have:=Ga k.d k.d;have:=hc.d;omega
 ·match j,hp with
  | 0,hp=>injection hp with hp;subst hp;show _<=3;omega
  | 1,hp=>injection hp with hp;subst hp;show _<=3;omega
  | 2,hp=>injection hp with hp;subst hp;show _<=5;omega
  | 3,hp=>injection hp with hp;subst hp;exact Ql _
  |j+4,hp=>simp[ZT]at hp
theorem sV{s:Nat}{a b c d:Crv}(na:ZI a)(nb:ZI b)(nc:ZI c)(nd:ZI d)(ca:Cs s 3 a)(cb:Cs s 3 b)(cc:Cs s 3 c)(cd:Cs s 3 d):Sq (s+s+3) [2,2,4,0] 4 4 (uF a b c d):=by
 have hr:∀r∈uF a b c d,∃k:Crv,ZI k/\Cs s 3 k/\r=ZT k:=λr hr=>by
  simp only[uF,Qn,X2,or_false]at hr;rcases hr with rfl|rfl|rfl|rfl
  ·exact⟨a,na,ca,rfl⟩
  ·exact⟨b,nb,cb,rfl⟩
  ·exact⟨c,nc,cc,rfl⟩
  ·exact⟨d,nd,cd,rfl⟩
 refine⟨rfl,λr h=>?_,λr h p hp=>?_,λr h p hp=>?_,λr h j p hp=>?_⟩
 all_goals obtain⟨k,kn,kc,rfl⟩:=hr r h
 ·rfl
 ·exact((GQ kn kc).1 p hp).1
 ·exact((GQ kn kc).1 p hp).2
 ·exact(GQ kn kc).2 j p hp
theorem aZ{a b c d:Crv}(ha:Sc a)(hb:Sc b)(hc:Sc c)(hd:Sc d):Cp (KJ a b c d):=by
 obtain⟨h1,h2,h3⟩:=NV 4 [2,2,4,0] (uF a b c d) (by decide) rfl (by decide) (sV ha.n hb.n hc.n hd.n ha.c hb.c hc.c hd.c);exact⟨h1,Qa h3 (by decide),U6 h2 (by decide)⟩
def qM(sg:Um->Int)(a b c d:Pt):Ct:=⟨4,a.id,b.id,c.id,d.id,KJ a.c b.c c.c d.c,Hk sg (KJ a.c b.c c.c d.c)⟩
abbrev P3:=Pt×(Pt×Pt)
abbrev P4:=Pt×P3
def Lx:Nat->List Pt->List P3
 | 0,_=>[]
 |_+1,[]=>[]
 |k+1,x::l=>(Gt l).map (λm=>(x,m))++Lx k l
def Rx(l:List Pt):List P3:=Lx l.length l
def Ex:Nat->List Pt->List P4
 | 0,_=>[]
 |_+1,[]=>[]
 |k+1,x::l=>(Rx l).map (λm=>(x,m))++Ex k l
def O8(l:List Pt):List P4:=Ex l.length l
theorem VF:∀(l:List Pt) (i:Nat) (x:Pt),l[i]? = some x->Lx (i+1) l=Lx i l++(Gt (l.drop (i+1))).map (λm=>(x,m))
 | [],i,x,h=>by simp at h
 |y::l,0,x,h=>by simp at h;subst h;simp[Lx]
 |
  y::l,i+1,x,h=>by
  have ih:=VF l i x (by simpa using h);show(Gt l).map _++Lx (i+1) l=((Gt l).map _++Lx i l)++_;rw[ih,Zd];rfl
theorem TS:∀(l:List Pt) (i:Nat) (x:Pt),l[i]? = some x->Ex (i+1) l=Ex i l++(Rx (l.drop (i+1))).map (λm=>(x,m))
 | [],i,x,h=>by simp at h
 |y::l,0,x,h=>by simp at h;subst h;simp[Ex]
 |
  y::l,i+1,x,h=>by
  have ih:=TS l i x (by simpa using h);show(Rx l).map _++Ex (i+1) l=((Rx l).map _++Ex i l)++_;rw[ih,Zd];rfl
theorem AY:∀(k:Nat) (l:List Pt),∀m∈Lx k l,m.1∈l/\m.2.1∈l/\m.2.2∈l
 | 0,l,m,h=>by simp[Lx]at h
 |k+1,[],m,h=>by simp[Lx]at h
 |
  k+1,x::l,m,h=>by
  rcases Qq.1 h with h|h
  ·obtain⟨y,hy,rfl⟩:=Za.1 h;obtain⟨h1,h2⟩:=S7 _ _ y hy;exact⟨Qy ..,Qg _ h1,Qg _ h2⟩
  ·obtain⟨h1,h2,h3⟩:=AY k l m h;exact⟨Qg _ h1,Qg _ h2,Qg _ h3⟩
theorem tK:∀(k:Nat) (l:List Pt),∀m∈Ex k l,m.1∈l/\m.2.1∈l/\m.2.2.1∈l/\m.2.2.2∈l
 | 0,l,m,h=>by simp[Ex]at h
 |k+1,[],m,h=>by simp[Ex]at h
 |
  k+1,x::l,m,h=>by
  rcases Qq.1 h with h|h
  ·obtain⟨y,hy,rfl⟩:=Za.1 h;obtain⟨h1,h2,h3⟩:=AY _ _ y hy;exact⟨Qy ..,Qg _ h1,Qg _ h2,Qg _ h3⟩
  ·obtain⟨h1,h2,h3,h4⟩:=tK k l m h;exact⟨Qg _ h1,Qg _ h2,Qg _ h3,Qg _ h4⟩
theorem VV{l:List Pt}(h:l.length<=6):(Rx l).length<=20/\(O8 l).length<=15:=by
 match l,h with
 | [],_=>exact⟨Zf rfl,Zf rfl⟩
 | [_],_=>exact⟨Zf rfl,Zf rfl⟩
 | [_,_],_=>exact⟨Zf rfl,Zf rfl⟩
 | [_,_,_],_=>exact⟨Zf rfl,Zf rfl⟩
 | [_,_,_,_],_=>exact⟨Zf rfl,Zf rfl⟩
 | [_,_,_,_,_],_=>exact⟨Zf rfl,Zf rfl⟩
 | [_,_,_,_,_,_],_=>exact⟨Zf rfl,Zf rfl⟩
 |_::_::_::_::_::_::_::_,h=>simp at h
abbrev Bf:=List (Um×LV)
def PO(sg:Um->Int)(m:P3):Ct:=Lk sg m.1 m.2.1 m.2.2
def HO(sg:Um->Int)(m:P4):Ct:=qM sg m.1 m.2.1 m.2.2.1 m.2.2.2
def nE(m:P3):Um:=[m.1.id,m.2.1.id,m.2.2.id]
def Qyt(m:P4):Um:=[m.1.id,m.2.1.id,m.2.2.1.id,m.2.2.2.id]
def A4(V:List (Um×Int)):Bf:=V.foldl (λM e=>Ec M e.1 (.int .i64 e.2)) []
def ZL(sg:Um->Int)(ps:List P3):List (Um×Int):=ps.map λm=>(nE m,(PO sg m).want)
def VC(sg:Um->Int)(ps:List P4):List (Um×Int):=ps.map λm=>(Qyt m,(HO sg m).want)
theorem dB(sg:Um->Int)(ps:List P3)(m:P3):A4 (ZL sg (ps++[m]))=Ec (A4 (ZL sg ps)) (nE m) (.int .i64 (PO sg m).want):=by simp[A4,ZL]
def Od(T:Bf)(s:Int)(n:Um)(F:Bf)(skip:Nat):Bf:=if ZC T (n.eraseIdx skip)*(if (3-skip) % 2=1 then -s else s)>0 then Ec F (n.eraseIdx skip) (.bool true)else F
def OP(T:Bf)(s:Int)(n:Um)(F:Bf):Bf:=Od T s n (Od T s n (Od T s n (Od T s n F 0) 1) 2) 3
def Og(T:Bf)(V:List (Um×Int)):Bf:=V.foldl (λF e=>OP T e.2 e.1 F) []
theorem nR(sg:Um->Int)(T:Bf)(ps:List P4)(m:P4):Og T (VC sg (ps++[m]))=OP T (HO sg m).want (Qyt m) (Og T (VC sg ps)):=by simp[Og,VC]
def yJ(T F:Bf)(m:P3):Bool:=decide (ZC T (nE m)≠0) && !(BU F (nE m))
theorem Qu9{T F:Bf}{ps:List P3}{m:P3}(h:yJ T F m=true):(ps++[m]).filter (yJ T F)=ps.filter (yJ T F)++[m]:=by simp[Vk,h]
theorem Qhs{T F:Bf}{ps:List P3}{m:P3}(h:yJ T F m=false):(ps++[m]).filter (yJ T F)=ps.filter (yJ T F):=by simp[Vk,h]
def gC(sg:Um->Int)(l:List Pt):List Ct:=(Rx (Tq l)).map (PO sg)++(O8 (Tq l)).map (HO sg)
def qS(sg:Um->Int)(l:List Pt):List P3:=(Rx (Tq l)).filter (yJ (A4 (ZL sg (Rx (Tq l)))) (Og (A4 (ZL sg (Rx (Tq l)))) (VC sg (O8 (Tq l)))))
abbrev trL(m:P3):Ur:=[.int .i64 m.1.id,.int .i64 m.2.1.id,.int .i64 m.2.2.id]
def ZW(l:List P3):Us:=l.map trL
theorem sT(l:List P3):(ZW l).length=l.length:=by simp[ZW]
theorem qP(sg:Um->Int){l:List Pt}(h:l.length<=6):(qS sg l).length<=20:=by
 have hw:=QJ l;exact Qa (Y0 _ _) (VV (l:=Tq l) (by omega)).1
theorem Qcw(sg:Um->Int){l:List Pt}(h:l.length<=6):(gC sg l).length<=35:=by
 have hw:=QJ l;obtain⟨h1,h2⟩:=VV (l:=Tq l) (by omega);unfold gC;rw[Qu,Q9,Q9];omega
def xP(l:List Pt)(a:Tm):List Ct:=gC (Fw a) l
abbrev pE(l:List Pt)(a:Tm):Us:=ZW (qS (Fw a) l)
def Qa1(l:List Pt):Un:=(Rx (Tq l)).map (λm=>Hi m.1.c m.2.1.c m.2.2.c)++(O8 (Tq l)).map λm=>KJ m.1.c m.2.1.c m.2.2.1.c m.2.2.2.c
theorem xR{l:List Pt}(hl:∀p∈l,Sc p.c):∀p∈Qa1 l,Cp p:=λp hp=>by
 have hw:=λ(x:Pt) (h:x∈Tq l)=>hl x (Nx h)
 rcases Qq.1 hp with hp|hp
 ·obtain⟨m,hm,rfl⟩:=Za.1 hp;obtain⟨h1,h2,h3⟩:=AY _ _ m hm;exact YH (hw _ h1) (hw _ h2) (hw _ h3)
 ·obtain⟨m,hm,rfl⟩:=Za.1 hp;obtain⟨h1,h2,h3,h4⟩:=tK _ _ m hm;exact aZ (hw _ h1) (hw _ h2) (hw _ h3) (hw _ h4)
theorem xM{l:List Pt}{a:Tm}:∀x∈xP l a,x.p∈Qa1 l:=λx hx=>by
 rcases Qq.1 hx with hx|hx
 ·obtain⟨m,hm,rfl⟩:=Za.1 hx;exact Ja _ (Za.2 ⟨m,hm,rfl⟩)
 ·obtain⟨m,hm,rfl⟩:=Za.1 hx;exact Jh _ (Za.2 ⟨m,hm,rfl⟩)
theorem Qed{l:List Pt}(h:l.length<=6):(Qa1 l).length<=1000000:=by
 have hw:=QJ l;obtain⟨h1,h2⟩:=VV (l:=Tq l) (by omega);unfold Qa1;rw[Qu,Q9,Q9];omega
theorem pH{l:List Pt}(hl:∀p∈l,Sc p.c)(hn:l.length≤6):BuildOk (xP l) :=
 ⟨λ_ _ x hx=>xR hl _ (xM x hx),λa _=>Qa (Qcw _ hn) (by decide)⟩
theorem Qzf{l:List Pt}(hl:∀p∈l,Sc p.c)(hn:l.length≤6):Stab (xP l) (pE l):=by
 refine⟨pH hl hn,⟨Qa1 l,xR hl,λa _=>xM⟩,λa b _ _ h=>?_⟩;have e1:∀m∈Rx (Tq l),PO (Fw b) m=PO (Fw a) m:=λm hm=>by
  have:=h (PO (Fw a) m) (Ja _ (Za.2 ⟨m,hm,rfl⟩));have e:Hk (Fw b) (Hi m.1.c m.2.1.c m.2.2.c)=Hk (Fw a) (Hi m.1.c m.2.1.c m.2.2.c):=this;unfold PO Lk;rw[e]
 have e2:∀m∈O8 (Tq l),HO (Fw b) m=HO (Fw a) m:=λm hm=>by
  have:=h (HO (Fw a) m) (Jh _ (Za.2 ⟨m,hm,rfl⟩));have e:Hk (Fw b) (KJ m.1.c m.2.1.c m.2.2.1.c m.2.2.2.c)=Hk (Fw a) (KJ m.1.c m.2.1.c m.2.2.1.c m.2.2.2.c):=this;unfold HO qM;rw[e]
 have t1:ZL (Fw b) (Rx (Tq l))=ZL (Fw a) (Rx (Tq l)):=Xk λm hm=>by rw[e1 m hm]
 have t2:VC (Fw b) (O8 (Tq l))=VC (Fw a) (O8 (Tq l)):=Xk λm hm=>by rw[e2 m hm]
 constructor
 ·unfold xP gC;rw[Xk e1,Xk e2]
 ·unfold pE qS;rw[t1,t2]
def Qxt(l:List Pt)(a:Tm):Cr:=⟨a,(Fp (xP l a)).map fresh,0⟩
def kO(M:Bf):Prop:=∀k,(Ao M k).getD (.int .i64 0)=.int .i64 (ZC M k)/\-1<=ZC M k/\ZC M k<=1
def VE(M:Bf):Prop:=∀k,(Ao M k).getD (.bool false)=.bool (BU M k)
theorem qV(M:Bf)(k:Um)(x:LV)(k':Um):Ao (Ec M k x) k'=if k'=k then some x else Ao M k':=by
 induction M with
 |nil=>simp[Ec,Ao]
 |
  cons e M ih =>
  simp only[Ec];by_cases h:k=e.1
  ·rw[if_pos h];simp only[Ao];by_cases h2:k'=k
   ·rw[if_pos h2,if_pos h2]
   ·rw[if_neg h2,if_neg h2,if_neg (λe2=>h2 (e2.trans h.symm))]
  ·rw[if_neg h];simp only[Ao];by_cases h2:k'=e.1
   ·rw[if_pos h2,if_pos h2,if_neg (λe2=>h (e2.symm.trans h2))]
   ·rw[if_neg h2,if_neg h2,ih]
theorem Qii:kO []:=λ_=>⟨rfl,show(-1:Int)<=0 by decide,show(0:Int)<=1 by decide⟩
theorem Qa5:VE []:=λ_=>rfl
theorem Qij{M:Bf}(h:kO M){k:Um}{n:Int}(hn:-1<=n/\n<=1):kO (Ec M k (.int .i64 n)):=by
 intro k';have h1:=h k';unfold ZC at h1 ⊢;rw[qV];by_cases e:k'=k
 ·rw[if_pos e];exact⟨rfl,hn.1,hn.2⟩
 ·rw[if_neg e];exact h1
theorem Qa6{M:Bf}(h:VE M){k:Um}{b:Bool}:VE (Ec M k (.bool b)):=by
 intro k';have h1:=h k';unfold BU at h1 ⊢;rw[qV];by_cases e:k'=k
 ·rw[if_pos e];rfl
 ·rw[if_neg e];exact h1
theorem Ib{T F:Bf}{s:Int}{n:Um}{k:Nat}(h:VE F):VE (Od T s n F k):=by
 unfold Od;generalize (if (3-k) % 2=1 then -s else s)=s'
 split
 ·exact Qa6 h
 ·exact h
theorem pD{T F:Bf}{s:Int}{n:Um}(h:VE F):VE (OP T s n F):=Ib (Ib (Ib (Ib h)))
theorem Qcy{x s:Int}(hx:-1<=x/\x<=1)(hs:-1<=s/\s<=1):-9223372036854775808<=x*s/\x*s<=9223372036854775807:=by
 have h:x=-1\/x=0\/x=1:=by omega
 rcases h with rfl|rfl|rfl <;> omega
structure MOk(M:List Pt):Prop where
 sc:∀p∈M,Sc p.c
 ln:M.length<=6
 so:Mp M
theorem MOk.df{M:List Pt}(h:MOk M):M.Pairwise λx y=>x.id≠y.id:=h.so.imp λh e=>by omega
structure Knd(β:Type) where
 bc:List Pt->Tm->List Ct
 br:List Pt->Tm->β
 al:List Pt->List (List Int)
structure KndOk{β:Type}(k:Knd β):Prop where
 st:∀M,MOk M->Stab (k.bc M) (k.br M)
 cp:∀M,MOk M->∀p∈k.al M,Cp p
 al:∀M a,∀x∈k.bc M a,x.p∈k.al M
 ln:∀M,MOk M->(k.al M).length<=1000000
abbrev kS:Knd Us:=⟨VI,pA,Af⟩
abbrev kT:Knd (Us×Us):=⟨AE,pI,Af⟩
abbrev kH:Knd Us:=⟨BX,brH,λl=>Af l++NA l⟩
abbrev kP:Knd Us:=⟨pQ,brP,AD⟩
abbrev kD:Knd Us:=⟨xP,pE,Qa1⟩
theorem BQ{l:List Pt}(h:l.length<=6):(Af l).length<=72:=by
 rw[Qee];exact Qa (Zc h (Zc h (Ql 2))) (by decide)
theorem FY{α β:Type}{f:α->List β}{n:Nat}(l:List α)(h:∀x∈l,(f x).length=n):(l.flatMap f).length=l.length*n:=by
 induction l with
 |nil=>simp
 |
  cons x l ih =>
  rw[J1,Qu,h x (by simp),ih λy hy=>h y (Qg _ hy),Q5,X5];omega
theorem Qms(l:List Pt):(NA l).length=l.length*(l.length*l.length):=by
 unfold NA;exact FY l λx _=>FY l λy _=>by simp
theorem Qmq(l:List Pt):(AD l).length=l.length*(l.length*(l.length*l.length)):=by
 unfold AD;exact FY l λx _=>FY l λy _=>FY l λz _=>by simp
theorem okS:KndOk kS:=⟨λM h=>Qzi h.sc (by have:=h.ln;omega) h.df,λM h=>QV h.sc,λM a=>lW,λM h=>Qa (BQ h.ln) (by decide)⟩
theorem okT:KndOk kT:=⟨λM h=>Qzj h.sc (by have:=h.ln;omega) h.df,λM h=>QV h.sc,λM a=>Qmv,λM h=>Qa (BQ h.ln) (by decide)⟩
theorem okH:KndOk kH:=⟨λM h=>Qzg h.sc (by have:=h.ln;omega) h.df,λM h=>MJ h.sc,λM a=>xN,λM h=>by
 have h1:=BQ h.ln;have h2:=Qms M;have h3:M.length*(M.length*M.length)<=6*(6*6):=Zc h.ln (Zc h.ln h.ln);show(Af M++NA M).length<=_;rw[Qu];omega⟩
theorem okP:KndOk kP:=⟨λM h=>Qzh h.sc (by have:=h.ln;omega) h.df,λM h=>UJ h.sc,λM a=>lK,λM h=>by
 have h3:M.length*(M.length*(M.length*M.length))<=6*(6*(6*6)):=Zc h.ln (Zc h.ln (Zc h.ln h.ln));show(AD M).length<=_;rw[Qmq];omega⟩
theorem okD:KndOk kD:=⟨λM h=>Qzf h.sc h.ln,λM h=>xR h.sc,λM a=>xM,λM h=>Qed h.ln⟩
open Classical in
noncomputable def cnt(bc:Tm->List Ct)(q t:Rat):Nat:=if h:∃E,Evs bc t (tq q) E then(Classical.choose h).length else 0
theorem Qun{β:Type}{Bc:Tm->List Ct}{Br:Tm->β}(S:Stab Bc Br){q t:Rat}(hq:Va (tq q)){E:List Tm}(h:Evs Bc t (tq q) E):cnt Bc q t=E.length:=by
 have hx:∃E,Evs Bc t (tq q) E:=⟨E,h⟩;unfold cnt;rw[dif_pos hx];exact Qu8 S hq (Classical.choose_spec hx) h
structure At{β:Type}(k:Knd β)(M:List Pt)(q:Rat)(c:Cr):Prop where
 now:c.now=tq q
 st:KSt (k.bc M) (k.br M) c (k.br M (tq q))
section
variable{β:Type}{k:Knd β}(ok:KndOk k){M M':List Pt}{q t:Rat}{c:Cr}
include ok
theorem At.again(h:At k M q c)(hM:MOk M'):∃ws,Tn c.l c.now (Fp (k.bc M' c.now))=some ws/\At k M' q ⟨tq q,ws,c.ev⟩:=by
 obtain⟨⟨o,kk⟩,hcs,hr⟩:=h.st;have S:=ok.st M' hM;obtain⟨ws,l1,l2⟩:=nI o.n o.l (Fp (k.bc M' c.now));have o':=Orr.lay_ok c.ev o o.n (S.ok.p _ o.n) (S.ok.n _ o.n) l1;have hl:=iZ o.n o.n (λh=>I0 o.n.cut o.n.cut h h) o.l kk l1;rw[h.now]at o' hl l2;exact⟨ws,l1,rfl,⟨⟨o',hl⟩,l2,rfl⟩⟩
theorem At.adv(h:At k M q c)(hM:MOk M)(ht:Qs 1640000 t)(hqt:q<=t) :
 ∃(K:Nat) (c':Cr),K<=67000001/\HW (k.bc M) (k.br M) t K c (k.br M (tq q)) 0=some (c',k.br M (tq t),((cnt (k.bc M) q t:Nat):Int))/\At k M t c'/\c'.ev=c.ev+((cnt (k.bc M) q t:Nat):Int)/\cnt (k.bc M) q t<=67000000/\cnt (k.bc M) q t<=((k.al M).flatMap xJ).length:=by
 have S:=ok.st M hM;have hP:=ok.cp M hM;have hm:=Qan hP;have hmu:=Qy0 ((k.al M).flatMap xJ) c.now;have hl:=ok.ln M hM;have hv:=h.st.inv.ok.n;have hc:Ft c.now t<=0:=by rw[h.now,Qap];rcases Ng q t with⟨e,e'⟩|⟨e,e'⟩|⟨e,e'⟩ <;> first|omega|(exfalso;grind)
 obtain⟨c',r',E,g1,g2,g3,g4,g5,g6⟩:=Qyn S ht hP (λa _=>ok.al M a) (mu ((k.al M).flatMap xJ) c.now) c _ 0 (Ql _) h.st λh'=>by
  have:=(CG hv.cut).2 h';omega
 have hr:r'=k.br M (tq t):=by rw[g3.r,g2]
 rw[hr]at g1 g3;rw[Int.zero_add]at g1;rw[h.now]at g6;have he:=Qun S (by rw[<-h.now];exact hv) g6;rw[he];exact⟨_,c',by omega,g1,⟨g2,g3⟩,g4,by omega,by omega⟩
end
theorem At.begin{β:Type}{k:Knd β}(ok:KndOk k){M:List Pt}{q:Rat}(hM:MOk M)(hq:Qs 1640000 q):At k M q ⟨tq q,(Fp (k.bc M (tq q))).map fresh,0⟩:=⟨rfl,Qtl (ok.st M hM) (IG hq)⟩
end Orq
namespace Orr
open Go Go.Proofs Tryz Orq
set_option maxRecDepth 10000
abbrev Tf(c:Cr)(r0:Us)(r1:Us×Us):Ur:=.bool true::pl c.now.p::sg c.now.lo.num::mg c.now.lo.num::sg (c.now.lo.den:Int)::mg (c.now.lo.den:Int)::sg c.now.hi.num::mg c.now.hi.num::sg (c.now.hi.den:Int)::mg (c.now.hi.den:Int)::.row (Ce c.l)::.int .i64 c.ev::[.row r0,.row r1.1,.row r1.2]
abbrev Quq(r0:LV)(r1:LV×LV):Ur:=[.bool false,.nils,.bool false,.nils,.bool false,.nils,.bool false,.nils,.bool false,.nils,.nils,.int .i64 0,r0,r1.1,r1.2]
theorem mF{T:Nat}{c:Cr}{r0:Us}{r1:Us×Us}(hc:Va c.now):U7 prog 400 [.one (.ow 0 0)] [.blk T (Tf c r0 r1)] [.agg (ta c.now)] [.blk T (Tf c r0 r1)]:=by
 have cl:=Pe (b:=c.now) (l:=[]) hc.tb (λt ht=>by cases ht) (by decide) rfl;refine Fx func400 rfl ?_;exact Uh [] [0] [.f rfl,.k cl] rfl
theorem Qfq{T:Nat}{c:Cr}{r0:Us}{r1:Us×Us}(hc:CrOk c):U7 prog 389 [.one (.ow 0 0)] [.blk T (Tf c r0 r1)] [.one (.row (U9 (Fp (c.l.map (·.c)))))] [.blk T (Tf c r0 r1)]:=by
 have hk:=hc.k;have hw:=Tr c.l;refine Fx func389 rfl ?_;refine Ud [.o 3 99 7] rfl ?_;refine Ui (S:=Nat) 2 (λL1 i=>(11,.v (.oi i))::(3,.v (.one (.orow 1 7 none)))::L1) (λi=>[.blk T (Tf c r0 r1),.row false 99 7 (U9 ((c.l.map (·.c)).take i))]) (λi=>c.l.length-i) (λi=>i<=c.l.length) 0 (Qh _) rfl rfl λi hi=>?_
 by_cases hlt:i<c.l.length
 ·obtain⟨x,hx⟩:=gxE (l:=c.l) (i:=i) hlt;have hm:∀y∈[Du x.c],y.length=7:=λy hy=>by rw[Qk.1 hy];rfl
  have hg:(c.l.map (·.c)).take (i+1)=(c.l.map (·.c)).take i++[x.c]:=by
   rw[Zv,Q7,hx];rfl
  have hl:decide ((i:Int)<((Ce c.l).length:Int))=true:=by simp[hw];omega
  obtain⟨xc,xk,xf⟩:=x;cases xf <;> (refine go tt [.t hl,.x (Ht hx),.s (sz:=7) hm] rfl (by simp[U4,Pu];omega) ?_;exact rd (i+1) (by omega) hlt (by rw[hg];simp[U9];rfl))
 ·obtain rfl:i=c.l.length:=by omega
  have e:(c.l.map (·.c)).take c.l.length=c.l.map (·.c):=Qm (by simp);rw[e];have cs:=HL (l:=c.l.map (·.c)) (λx hx=>by
   obtain⟨w,hw,rfl⟩:=Za.1 hx;exact Dp.pb (hc.l w hw).p.dp) (by simp;omega)
  exact Uh [] [0] [.f (by simp[hw]),.k cs] rfl
theorem Qnq{T:Nat}{c:Cr}{r0:Us}{r1:Us×Us}{x:Ct}{at_:Tm}{w:Wt}(hc:CrOk c)(hx:Cp x.p)(ha:Va at_)(h:Cu c.l x at_=some w):U7 prog 289 [.one (.ow 0 0),.agg (Du x),.agg (ta at_)] [.blk T (Tf c r0 r1)] [.agg (wl w)] [.blk T (Tf c r0 r1)]:=by
 have hk:=hc.k;have hw:=Tr c.l;refine Fx func289 rfl ?_;refine Ud [] rfl ?_;refine Ui (S:=Nat) 4 (λL1 i=>(14,.v (.oi i))::L1) (λ_=>[.blk T (Tf c r0 r1),.blk 99 (Du x),.blk 105 (ta at_),.blk 352 [.int .i64 0,.int .i64 0,.int .i64 0,.int .i64 0,.int .i64 0,.nils,.int .i64 0,.bool false,.bool false,.nils,.bool false,.nils,.bool false,.nils,.bool false,.nils,.bool false,.nils]]) (λi=>c.l.length-i) (λi=>i<=c.l.length/\Cu (c.l.drop i) x at_=some w) 0 ⟨Qh _,h⟩ rfl rfl λi ⟨hi,hf⟩=>?_
 by_cases hlt:i<c.l.length
 ·obtain⟨v,hv⟩:=gxE (l:=c.l) (i:=i) hlt;have hdr:c.l.drop i=v::c.l.drop (i+1):=by
   rw[Zp hlt];congr 1;have:=Qe hlt;rw[hv]at this;injection this with this;exact this.symm
  have hvo:=hc.l v (Qc hv);rw[hdr]at hf;simp only[Cu]at hf;have hl:decide ((i:Int)<((Ce c.l).length:Int))=true:=by simp[hw];omega
  by_cases A:tI v.c x=true
  ·have A':(!decide ([v.c.kind,v.c.i0,v.c.i1,v.c.i2,v.c.i3]=[x.kind,x.i0,x.i1,x.i2,x.i3]))=false:=by
    unfold tI at A;rw[A];rfl
   by_cases B:v.known=true
   ·have B':(!v.known)=false:=by rw[B];rfl
    have cs:=MU (p:=v.c.p) (q:=x.p) (Dp.pb hvo.p.dp).ln (Dp.pb hx.dp).ln (Dp.pb hvo.p.dp).bd (Dp.pb hx.dp).bd;rw[hvo.p.t,hx.t]at cs;by_cases C:v.c.p=x.p
    ·have C':(!decide (v.c.p=x.p))=false:=by simp[C]
     rw[if_pos ⟨A,B,C⟩]at hf;obtain⟨vc,vk,vf⟩:=v;cases vf with
     |
      none =>
      injection hf with hf;subst hf;exact Uh [] [0] [.t hl,.x (Ht hv),.g 24 false A',.g 29 false B',.k cs,.f C',.g 41 true rfl,.t rfl] rfl
     |
      some t =>
      obtain⟨r,r1',hf⟩:=Qd.1 hf;have cc:=KR (hvo.f t rfl).tb ha.tb r1';by_cases D:0<r
      ·rw[if_pos D]at hf;injection hf with hf;subst hf;exact Uh [] [0] [.t hl,.x (Ht hv),.g 24 false A',.g 29 false B',.k cs,.f C',.g 41 false rfl,.k cc,.t (by simpa using D)] rfl
      ·rw[if_neg D]at hf;refine Ue [.t hl,.x (Ht hv),.g 24 false A',.g 29 false B',.k cs,.f C',.g 41 false rfl,.k cc,.f (by simpa using D)] rfl ?_;exact rd (i+1) (by omega) ⟨hlt,hf⟩ rfl
    ·rw[if_neg λh=>C h.2.2]at hf;refine Ue [.t hl,.x (Ht hv),.g 24 false A',.g 29 false B',.k cs,.t (by simp[C])] rfl ?_;exact rd (i+1) (by omega) ⟨hlt,hf⟩ rfl
   ·rw[if_neg λh=>B h.2.1]at hf;refine Ue [.t hl,.x (Ht hv),.g 24 false A',.g 29 true (by simpa using B),.t rfl] rfl ?_;exact rd (i+1) (by omega) ⟨hlt,hf⟩ rfl
  ·rw[if_neg λh=>A h.1]at hf;refine Ue [.t hl,.x (Ht hv),.g 24 true (by rw[show decide ([v.c.kind,v.c.i0,v.c.i1,v.c.i2,v.c.i3]=[x.kind,x.i0,x.i1,x.i2,x.i3])=false from Wu.2 A];rfl),.g 29 true rfl,.t rfl] rfl ?_;exact rd (i+1) (by omega) ⟨hlt,hf⟩ rfl
 ·obtain rfl:i=c.l.length:=by omega
  rw[Yt]at hf;simp only[Cu]at hf;injection hf with hf;subst hf;exact Uh [] [0] [.f (by simp[hw])] rfl
theorem lC{T:Nat}{c:Cr}{r0:Us}{r1:Us×Us}{at_:Tm}{l:List Ct}{ws:List Wt}(hc:CrOk c)(ha:Va at_)(hl:∀x∈l,Cp x.p)(hn:l.length≤1000)(h:Tn c.l at_ (Fp l)=some ws):U7 prog 250 [.one (.ow 0 0),.agg (ta at_),.one (.bool true),.one (.row (U9 l))] [.blk T (Tf c r0 r1)] [] [.blk T (Tf ⟨at_,ws,c.ev⟩ r0 r1)]:=by
 have cs:=HL (l:=l) (λx hx=>Dp.pb (hl x hx).dp) (by omega);have cl:=Pe (b:=at_) (l:=[]) ha.tb (λt ht=>by cases ht) (by decide) rfl;obtain⟨h1,h2⟩:=XE h;have hs:(Fp l).length=l.length:=M4 l;refine Fx func250 rfl ?_;refine Ud [.o 8 352 18,.k cs] rfl ?_;refine Ui (S:=Nat) 3 (λL1 i=>(15,.v (.oi i))::(8,.v (.one (.orow 2 18 none)))::L1) (λi=>[.blk T (Tf c r0 r1),.blk 105 (ta at_),.row false 352 18 (Ce (ws.take i))]) (λi=>ws.length-i) (λi=>i<=ws.length) 0 (Qh _) rfl rfl λi hi=>?_
 by_cases hlt:i<ws.length
 ·obtain⟨x,hx⟩:=gxE (l:=(Fp l)) (i:=i) (by omega);obtain⟨w,hw,hw'⟩:=h2 i x hx;have hm:∀y∈[wl w],y.length=18:=λy hy=>by rw[Qk.1 hy];rfl
  have hlt':decide ((i:Int)<((U9 (Fp l)).length:Int))=true:=by simp[U9];omega
  have ck:=Qnq (T:=T) (r0:=r0) (r1:=r1) hc (hl x (Td (Qc hx))) ha hw;have hg:=Ae hw';obtain⟨wc,wk,wf⟩:=w;cases wf <;> (refine go tt [.t hlt',.x (XY hx),.t rfl,.c [0] ck,.s (sz:=18) hm] rfl (by simp[U4,Tr];omega) ?_;exact rd (i+1) (by omega) hlt (by rw[hg];rfl))
 ·obtain rfl:i=ws.length:=by omega
  rw[Q6];have hge:decide ((ws.length:Int)<((U9 (Fp l)).length:Int))=false:=by simp[U9];omega
  exact Uh [] [0] [.f hge,.p 2,.k cl] rfl
theorem Qnr{T:Nat}{r0:Us}{r1:Us×Us}{at_:Tm}{l:List Ct}(ha:Va at_)(hl:∀x∈l,Cp x.p)(hn:l.length≤1000):U7 prog 250 [.one (.ow 0 0),.agg (ta at_),.one (.bool false),.one (.row (U9 l))] [.blk T (Quq (.row r0) (.row r1.1,.row r1.2))] [] [.blk T (Tf ⟨at_,(Fp l).map fresh,0⟩ r0 r1)]:=by
 have cs:=HL (l:=l) (λx hx=>Dp.pb (hl x hx).dp) (by omega);have cl:=Pe (b:=at_) (l:=[]) ha.tb (λt ht=>by cases ht) (by decide) rfl;have hs:(Fp l).length=l.length:=M4 l;refine Fx func250 rfl ?_;refine Ud [.o 8 352 18,.k cs] rfl ?_;refine Ui (S:=Nat) 3 (λL1 i=>(15,.v (.oi i))::(8,.v (.one (.orow 2 18 none)))::L1) (λi=>[.blk T (Quq (.row r0) (.row r1.1,.row r1.2)),.blk 105 (ta at_),.row false 352 18 (Ce (((Fp l).map fresh).take i))]) (λi=>l.length-i) (λi=>i<=l.length) 0 (Qh _) rfl rfl λi hi=>?_
 by_cases hlt:i<l.length
 ·obtain⟨x,hx⟩:=gxE (l:=(Fp l)) (i:=i) (by omega);have hm:∀y∈[wl (fresh x)],y.length=18:=λy hy=>by rw[Qk.1 hy];rfl
  have hlt':decide ((i:Int)<((U9 (Fp l)).length:Int))=true:=by simp[U9];omega
  have hg:=Ae (l:=(Fp l).map fresh) (i:=i) (w:=fresh x) (by rw[Q7,hx];rfl);refine go tt [.t hlt',.x (XY hx),.z 20,.f rfl,.s (sz:=18) hm] rfl (by simp[U4,Tr];omega) ?_;exact rd (i+1) (by omega) hlt (by rw[hg];rfl)
 ·obtain rfl:i=l.length:=by omega
  rw[Qm (by simp;omega)];have hge:decide ((l.length:Int)<((U9 (Fp l)).length:Int))=false:=by simp[U9];omega
  exact Uh [] [0] [.f hge,.p 2,.k cl] rfl
theorem Qbm{T:Nat}{r0:Us}{r1:Us×Us}{at_:Tm}{l:List Ct}(ha:Va at_)(hl:∀x∈l,Cp x.p)(hn:l.length≤1000):U7 prog 194 [.one (.ow 0 0),.agg (ta at_),.one (.row (U9 l))] [.blk T (Quq (.row r0) (.row r1.1,.row r1.2))] [] [.blk T (Tf ⟨at_,(Fp l).map fresh,0⟩ r0 r1)]:=by
 have cl:=Qnr (T:=T) (r0:=r0) (r1:=r1) ha hl hn;refine Fx func194 rfl ?_;exact Uh [] [0] [.g 12 false rfl,.c [0] cl] rfl
theorem Qbn{T:Nat}{c:Cr}{r0:Us}{r1:Us×Us}{at_:Tm}{l:List Ct}{ws:List Wt}{k:Int}(hc:CrOk c)(ha:Va at_)(hk:UM at_ c.now=some k)(h0:0≤k)(hl:∀x∈l,Cp x.p)(hn:l.length≤1000)(h:Tn c.l at_ (Fp l)=some ws):U7 prog 194 [.one (.ow 0 0),.agg (ta at_),.one (.row (U9 l))] [.blk T (Tf c r0 r1)] [] [.blk T (Tf ⟨at_,ws,c.ev⟩ r0 r1)]:=by
 have cl:=lC (T:=T) (r0:=r0) (r1:=r1) hc ha hl hn h;have cc:=KR ha.tb hc.n.tb hk;refine Fx func194 rfl ?_;exact Uh [] [0] [.g 12 true rfl,.k cc,.r 20 (eB (show decide (0<=k)=true by simpa using h0)),.c [0] cl] rfl
theorem Qns{T:Nat}{c:Cr}{r0:Us}{r1:Us×Us}{ws:List Wt}(hc:CrOk c)(h:Oj c.now c.l=some ws):U7 prog 395 [.one (.ow 0 0)] [.blk T (Tf c r0 r1)] [] [.blk T (Tf { c with l:=ws } r0 r1)]:=by
 have hk:=hc.k;have hw:=Tr c.l;obtain⟨h1,h2⟩:=YE h;refine Fx func395 rfl ?_;refine Ud [.o 2 352 18,.c [0] (mF hc.n)] rfl ?_;refine Ui (S:=Nat) 3 (λL1 i=>(13,.v (.oi i))::(2,.v (.one (.orow 1 18 none)))::L1) (λi=>[.blk T (Tf c r0 r1),.row false 352 18 (Ce (ws.take i)),.blk 105 (ta c.now)]) (λi=>c.l.length-i) (λi=>i<=c.l.length) 0 (Qh _) rfl rfl λi hi=>?_
 by_cases hlt:i<c.l.length
 ·obtain⟨w,hx⟩:=gxE (l:=c.l) (i:=i) hlt;obtain⟨v,hv,h3⟩:=h2 i w hx;have hm:∀y∈[wl v],y.length=18:=λy hy=>by rw[Qk.1 hy];rfl
  have hg:=Ae hv;have hl:decide ((i:Int)<((Ce c.l).length:Int))=true:=by simp[hw];omega
  rcases h3 with⟨k1,rfl⟩|⟨k1,r,k2,rfl⟩
  ·obtain⟨vc,vk,vf⟩:=v;cases vf <;> (refine go tt [.t hl,.x (Ht hx),.f (by rw[show vk=true from k1];rfl),.s (sz:=18) hm] rfl (by simp[U4,Tr];omega) ?_;exact rd (i+1) (by omega) hlt (by rw[hg];rfl))
  ·have cg:=wT (hc.l w (Qc hx)).p hc.n k2;obtain⟨wc,wk,wf⟩:=w;cases r <;> cases wf <;> (refine go tt [.t hl,.x (Ht hx),.t (by rw[show wk=false from k1];rfl),.k cg,.s (sz:=18) hm] rfl (by simp[U4,Tr];omega) ?_;exact rd (i+1) (by omega) hlt (by rw[hg];rfl))
 ·obtain rfl:i=c.l.length:=by omega
  rw[<-h1,Q6];exact Uh [1] [0] [.f (by simp[hw,h1])] rfl
theorem Qnt{T:Nat}{c:Cr}{r0:Us}{r1:Us×Us}{ws:List Wt}{r:Option Tm}(hc:CrOk c)(h:Oj c.now c.l=some ws)(hr:IW ws=some r):U7 prog 392 [.one (.ow 0 0)] [.blk T (Tf c r0 r1)] [.agg (ota r),.one (.bool r.isSome)] [.blk T (Tf { c with l:=ws } r0 r1)]:=by
 have hcl:=Qns (T:=T) (r0:=r0) (r1:=r1) hc h;have hc':=Eu hc h;have hk:=hc'.k;have hw:=Tr ws;have hvb:∀t∈ws.filterMap (·.fails),Tb t:=λt ht=>by
  obtain⟨w,w1,w2⟩:=Jj.1 ht;exact((hc'.l w w1).f t w2).tb
 refine Fx func392 rfl ?_;refine Ud [.c [0] hcl,.o 4 105 9] rfl ?_;refine Ui (S:=Nat) 3 (λL1 i=>(14,.v (.oi i))::(4,.v (.one (.orow 2 9 none)))::L1) (λi=>[.blk T (Tf { c with l:=ws } r0 r1),.blk 105 zTm,.row false 105 9 (tal ((ws.take i).filterMap (·.fails)))]) (λi=>ws.length-i) (λi=>i<=ws.length) 0 (Qh _) rfl rfl λi hi=>?_
 by_cases hlt:i<ws.length
 ·obtain⟨w,hx⟩:=gxE (l:=ws) (i:=i) hlt;have hl:decide ((i:Int)<((Ce ws).length:Int))=true:=by simp[hw];omega
  have hfl:((ws.take i).filterMap (·.fails)).length<=i:=Qa (Vd _ _) (by rw[Qp];omega);have hg:(ws.take (i+1)).filterMap (·.fails)=(ws.take i).filterMap (·.fails)++(match w.fails with|none=>[]|some t=>[t]):=by
   rw[Zv,hx,List.filterMap_append];show _++List.filterMap (·.fails) [w]=_;cases hwf:w.fails <;> simp[hwf]
  obtain⟨wc,wk,wf⟩:=w;have hk:ws.length<=1000:=hk;cases wf with
  |
   none =>
   refine Ue [.t hl,.x (Ht hx),.f rfl] rfl ?_;exact rd (i+1) (by omega) hlt (by rw[hg];simp;rfl)
  |
   some t =>
   refine Ue [.t hl,.x (Ht hx),.t rfl,.s (l:=[ta t]) (sz:=9) (λc hc=>by rw[Qk.1 hc];rfl)] rfl ?_;exact rd (i+1) (by omega) hlt (by rw[hg];simp[tal];rfl)
 ·obtain rfl:i=ws.length:=by omega
  rw[Q6];have hf:decide ((ws.length:Int)<((Ce ws).length:Int))=false:=by simp[hw]
  have hln:(ws.filterMap (·.fails)).length<=1000:=Qa (Vd _ _) hk;unfold IW at hr;cases hfm:ws.filterMap (·.fails)with
  |
   nil =>
   rw[hfm]at hr;injection hr with hr;subst hr;exact Uh [] [0] [.f hf,.p 2,.k wS] rfl
  |
   cons b l =>
   rw[hfm]at hr hvb hln;obtain⟨m,m1,rfl⟩:=Yx.1 hr;have cl:=Pe (hvb b (Qy ..)) (λt ht=>hvb t (Qg _ ht)) (by simp at hln;omega) m1;exact Uh [] [0] [.f hf,.p 2,.k cl] rfl
theorem Qya{T:Nat}{t:Rat}{Bc:Tm->List Ct}{Br:Tm->Us×Us}{r0:Us}(ht:Qs 1640000 t)(hB:BuildOk Bc)
 (hb:∀a c r1,Va a->CrOk c->U7 prog 196 [.one (.ow 0 0),.agg (ta a)] [.blk T (Tf c r0 r1)] [.one (.row (U9 (Bc a)))] [.blk T (Tf c r0 (Br a))])
 {K:Nat} {c c':Cr} {r1 r1':Us×Us} {n:Int} (hc:CrOk c) (hev:0<=c.ev/\c.ev+K<=1000000000000000000) (h:Ft c.now t<=0) (hg:HW Bc Br t K c r1 0=some (c',r1',n)) :
 U7 prog 396 [.one (.ow 0 0),.agg (rl t),.one (.ofn 196 [.ow 0 0] [])] [.blk T (Tf c r0 r1)] [.oi n,.oi 0] [.blk T (Tf c' r0 r1')]:=by
 have qt:Qb t:=ht.mono (by decide);have c1:=Dn hc.n.tb qt;refine Fx func396 rfl ?_;refine Ud [.c [0] (mF hc.n),.k c1,.f (by simpa using h)] rfl ?_;refine Ui (S:=Nat×Cr×(Us×Us)×Int) 2 (λL1 s=>(8,.v (.oi s.2.2.2))::L1) (λs=>[.blk T (Tf s.2.1 r0 s.2.2.1),.blk 42 (rl t)]) (λs=>s.1) (λs=>CrOk s.2.1/\(0<=s.2.1.ev/\s.2.1.ev+s.1<=1000000000000000000)/\(0<=s.2.2.2/\s.2.2.2+s.1<=1000000000000000000)/\HW Bc Br t s.1 s.2.1 s.2.2.1 s.2.2.2=some (c',r1',n)) (K,c,r1,0) ⟨hc,hev,⟨Int.le_refl 0,by dsimp only;omega⟩,hg⟩ rfl rfl λ⟨k,x,r,m⟩ ⟨j1,j2,j3,j4⟩=>?_
 dsimp only at j1 j2 j3 j4 ⊢;cases k with
 |zero=>cases j4
 |
  succ k =>
  simp only[HW]at j4;obtain⟨ws,w1,j4⟩:=Qd.1 j4;obtain⟨o,o1,j4⟩:=Qd.1 j4;have cn:=Qnt (T:=T) (r0:=r0) (r1:=r) j1 w1 o1;have ca:=VO (U5 t.num) (U5 (t.den:Int)) (Qa ht.1 (by decide)) (Qa ht.2 (by decide)) (by rw[Se];exact ht.mono (by decide));rw[Se]at ca;cases o with
  |
   none =>
   injection j4 with j4;injection j4 with e1 j4;injection j4 with e2 e3;subst e1;subst e2;subst e3;exact Uh [] [0] [.c [0] cn,.g 25 true rfl,.t rfl,.k ca] rfl
  |
   some a =>
   have ha:=LD j1 w1 o1;dsimp only at j4;have cc:=Dn ha.tb qt;by_cases h0:0<Ft a t
   ·rw[if_pos h0]at j4;injection j4 with j4;injection j4 with e1 j4;injection j4 with e2 e3;subst e1;subst e2;subst e3;exact Uh [] [0] [.c [0] cn,.g 25 false rfl,.k cc,.t (by simpa using h0),.k ca] rfl
   ·rw[if_neg h0]at j4;obtain⟨w2,l1,j4⟩:=Qd.1 j4;have j1':=Eu j1 w1;have cl:=Pe (b:=a) (l:=[]) ha.tb (λt ht=>by cases ht) (by decide) rfl;have cb:=hb a { x with l:=ws } r ha j1';have cy:=lC (T:=T) (r0:=r0) (r1:=Br a) j1' ha (hB.p a ha) (hB.n a ha) l1;have hf:decide (0<Ft a t)=false:=by simpa using h0
    refine Ue [.c [0] cn,.g 25 false rfl,.k cc,.f hf,.k cl,.c [0] cb,.c [0] cy] rfl ?_;exact rd (k,⟨a,w2,x.ev+1⟩,Br a,m+1) (by dsimp only;omega) ⟨lay_ok _ j1' ha (hB.p a ha) (hB.n a ha) l1,by dsimp only;omega,by dsimp only;omega,j4⟩ rfl
theorem Qbo{T:Nat}{c:Cr}{r0:Us}{r1:Us×Us}:U7 prog 391 [.one (.ow 0 0)] [.blk T (Tf c r0 r1)] [.oi c.ev] [.blk T (Tf c r0 r1)]:=by
 refine Fx func391 rfl ?_;exact Uh [] [0] [] rfl
end Orr
namespace Orr
open Go Go.Proofs Tryz Orq
def RY(k:Crv):Int:=max (max 0 ((k.x.length:Int)-1)) ((k.y.length:Int)-1)
structure Es where
 np:Int
 nd:Int
 M:List Pt
 q:Rat
 s:Cr
 t:Cr
 h:Cr
 p:Cr
 d:Cr
structure Em where
 np:Int
 nd:Int
 M:List Pt
 q:Rat
 s:Int
 t:Int
 h:Int
 p:Int
 d:Int
def Es.m(E:Es):Em:=⟨E.np,E.nd,E.M,E.q,E.s.ev,E.t.ev,E.h.ev,E.p.ev,E.d.ev⟩
structure MEn(np nd:Int)(M:List Pt):Prop where
 m:MOk M
 len:(M.length:Int)<=np
 deg:∀p∈M,RY p.c≤nd
 id:∀p∈M,0≤p.id/\p.id≤1048576
structure EOk(b:Int)(E:Es):Prop where
 np:1<=E.np/\E.np<=6
 nd:0<=E.nd/\E.nd<=2
 m:MEn E.np E.nd E.M
 q:Qs 128 E.q
 s:At kS E.M E.q E.s
 t:At kT E.M E.q E.t
 h:At kH E.M E.q E.h
 p:At kP E.M E.q E.p
 d:At kD E.M E.q E.d
 es:0<=E.s.ev/\E.s.ev<=b
 et:0<=E.t.ev/\E.t.ev<=b
 eh:0<=E.h.ev/\E.h.ev<=b
 ep:0<=E.p.ev/\E.p.ev<=b
 ed:0<=E.d.ev/\E.d.ev<=b
theorem EOk.mono{b c:Int}{E:Es}(h:EOk b E)(hb:b<=c):EOk c E:={ h with es:=⟨h.es.1,by have:=h.es.2;omega⟩,et:=⟨h.et.1,by have:=h.et.2;omega⟩,eh:=⟨h.eh.1,by have:=h.eh.2;omega⟩,ep:=⟨h.ep.1,by have:=h.ep.2;omega⟩,ed:=⟨h.ed.1,by have:=h.ed.2;omega⟩ }
abbrev pJ(k:Nat)(q:Rat):Ur:=[.ow (k+1) 0,sg q.num,mg q.num,sg (q.den:Int),mg (q.den:Int),.ow (k+2) 0,.ow (k+3) 0,.ow (k+4) 0,.ow (k+5) 0,.ow (k+6) 0]
abbrev taR(np nd:Int)(M:List Pt):Ur:=[.int .i64 np,.int .i64 nd,pts M]
abbrev bS(c:Cr)(M:List Pt)(q:Rat):OB:=.blk 220 (Hm c (U3 M) (pA M (tq q)))
abbrev bT(c:Cr)(M:List Pt)(q:Rat):OB:=.blk 223 (Tf c (U3 M) (pI M (tq q)))
abbrev bH(c:Cr)(M:List Pt)(q:Rat):OB:=.blk 225 (Hm c (U3 M) (brH M (tq q)))
abbrev bP(c:Cr)(M:List Pt)(q:Rat):OB:=.blk 227 (Hm c (U3 M) (brP M (tq q)))
abbrev bD(c:Cr)(M:List Pt)(q:Rat):OB:=.blk 229 (Hm c (U3 M) (pE M (tq q)))
abbrev enB(k:Nat)(E:Es):Ut:=[.blk 80 (pJ k E.q),.blk 159 (taR E.np E.nd E.M),bS E.s E.M E.q,bT E.t E.M E.q,bH E.h E.M E.q,bP E.p E.M E.q,bD E.d E.M E.q]
end Orr
namespace Orr
open Go Go.Proofs Tryz Orq
set_option maxRecDepth 10000
theorem YO{l:List Pt}{id:Int}(h:has l id=true):Rk l id<l.length:=by
 rcases Zb (Rk l id) l.length with h1|h1
 ·exact h1
 ·simp[has,Qw h1]at h
theorem UR{lx ly:Us}{px py:Um}{x y:LV}{d id:Int}{l:List Pt}(hx:IsInts lx px)(hy:IsInts ly py)(hd:Gg x y d)(hk:Cs 4294967294 1073741824 (Crv.mk px py d))(hl:l.length<=1000000)(h:has l id=true) :
 Uj 399 [.agg [pts l],.agg [.row lx,.row ly,x,y,.int .i64 id]] [.agg [pts (l.set (Rk l id) (Pt.mk (Crv.norm (Crv.mk px py d)) id))],.oi 0]:=by
 have ca:=Qfz (l:=l) id (by omega);have cf:=eQ hx hy hd hk id;obtain⟨b,r,rfl,rfl,_⟩:=hd;obtain⟨q,hq⟩:=nmE (Pt.mk (Crv.norm (Crv.mk px py d)) id);rw[<-hq]at cf ⊢;have hpl:=YO h;rw[h]at ca;have e:pts (l.set (Rk l id) q)=.row ((l.map Fe).set (Rk l id) (Fe q)):=by unfold pts;rw[List.map_set]
 rw[e];exact Ug func399 rfl [.k ca,.f rfl,.s (Sw l),.k cf,.i (Rk l id)] rfl rfl (by simp[U4];omega)
theorem UG{l:List Pt}{id:Int}(hl:l.length<=1000000)(h:has l id=true) :
 Uj 398 [.agg [pts l],.oi id] [.agg [pts (l.take (Rk l id)++l.drop (Rk l id+1))],.oi 0]:=by
 have ca:=Qfz (l:=l) id (by omega);have hpl:=YO h;rw[h]at ca;have s1:∀c∈(l.map Fe).take (Rk l id),c.length=5:=λc hc=>Sw l c (Qo hc)
 have s3:∀c∈(l.map Fe).drop (Rk l id+1),c.length=5:=λc hc=>Sw l c (Qz hc)
 have e:pts (l.take (Rk l id)++l.drop (Rk l id+1))=.row ((l.map Fe).take (Rk l id)++(l.map Fe).drop (Rk l id+1)):=by unfold pts;rw[List.map_append,List.map_take,List.map_drop]
 rw[e];refine Ug func398 rfl [.k ca,.f rfl,.i (Rk l id),.s s1,.i (Rk l id+1),.s s3] rfl ?_ ?_
 ·simp
 ·have h1:(List.map Fe l).length=l.length:=by simp
  have h2:∀z∈List.map Fe l,z.length=ti40.sz:=Sw l;simp only[U4,Qp,Q8,h1]
  and_intros <;> first|exact h2|omega
theorem kL(l:Uo):(lm l).length=l.length:=by simp[lm]
theorem ZD{z:Int}:(Gd z.natAbs).length<=4↔Ff z<=128:=by
 constructor
 ·intro h;have h1:=By (Gd z.natAbs) (Dt z.natAbs).1;rw[Ha]at h1;refine Sj.2 (Z6 h1 (Qa (Zs (by decide) h) (by decide)))
 ·intro h;have:=Rp (x:=z.natAbs) (k:=128) h;omega
def A3(k:Crv):Bool:=(k.x++k.y++[k.d]).all λz=>decide (Ff z<=128)
theorem WC{k:Crv}:A3 k=true↔(∀z∈k.x,Ff z≤128)/\(∀z∈k.y,Ff z≤128)/\Ff k.d≤128:=by
 unfold A3;simp only[List.all_append,Zn,Jt,decide_eq_true_iff,Qk,forall_eq];constructor
 ·rintro⟨⟨h1,h2⟩,h3⟩;exact⟨h1,h2,h3⟩
 ·rintro⟨h1,h2,h3⟩;exact⟨⟨h1,h2⟩,h3⟩
theorem WL{k:Crv}{z:Int}(hz:z∈k.x++k.y++[k.d])(h:¬Ff z<=128):A3 k=false:=by
 unfold A3;rw[<-Bool.not_eq_true,Jt];intro h';exact h (of_decide_eq_true (h' z hz))
abbrev tB(np nd:Int)(l:List Pt):OB:=.blk 159 (taR np nd l)
theorem eW{np nd:Int}{l:List Pt}(id:Int)(hl:l.length<1073741824):U7 prog 183 [.one (.ow 0 0),.oi id] [tB np nd l] [.oi (Rk l id:Int),.one (.bool (has l id))] [tB np nd l]:=by
 refine Fx func183 rfl ?_;refine Ud [] rfl ?_;refine ct 2 (S:=Unit) (λ_=>[(1,.v (.oi id)),(0,.v (.one (.ow 0 0))),(6,.v (.oi (Rk l id:Int)))]) (λ_=>[tB np nd l]) (λ_=>True) rfl ?_ ?_
 ·refine Ui (S:=Nat) 1 (λL1 k=>(6,.v (.oi k))::L1) (λ_=>[tB np nd l]) (λk=>l.length-k) (λk=>k<=l.length/\∀j p,j<k->l[j]? = some p->p.id<id) 0 ⟨Qh _,λj p h=>by omega⟩ rfl rfl λk ⟨hk,hlt⟩=>?_
  by_cases h:k<l.length
  ·obtain⟨p,hp⟩:=gxE (l:=l) (i:=k) h;by_cases hid:p.id<id
   ·refine Ue [.t (by simp;omega),.x (Tj hp),.t (by simpa using hid)] rfl ?_;exact rd (k+1) (by omega) ⟨h,λj q hj hq=>by
     rcases Zb j k with h2|h2
     ·exact hlt j q h2 hq
     ·have:j=k:=by omega
      subst this;rw[hp]at hq;injection hq with hq;rw[<-hq];exact hid⟩ rfl
   ·have e:=TR hlt (.inr ⟨p,hp,hid⟩);refine Ud [.t (by simp;omega),.x (Tj hp),.f (by simpa using hid)] rfl ?_;rw[e];exact rc () trivial rfl
  ·obtain rfl:k=l.length:=by omega
   have e:=TR hlt (.inl rfl);refine Ud [.f (by simp),.f rfl] rfl ?_;rw[e];exact rc () trivial rfl
 ·intro _ _;by_cases h:Rk l id<l.length
  ·obtain⟨p,hp⟩:=gxE (l:=l) (i:=Rk l id) h;have e:has l id=decide (p.id=id):=by simp[has,hp]
   rw[e];exact Uh [] [0] [.g 36 true (by simp;omega),.x (Tj hp)] rfl
  ·have e:has l id=false:=by simp[has,Qw (J8 h)]
   rw[e];exact Uh [] [0] [.g 36 false (by simp;omega)] rfl
theorem HI{lx ly:Us}{px py:Um}{x y:LV}{d:Int}(hx:IsInts lx px)(hy:IsInts ly py)(hd:Gg x y d)(hk:Cs 4294967294 1073741824 (Crv.mk px py d))(id:Int):Uj 86 [.agg [.row lx,.row ly,x,y,.int .i64 id]] [.agg (Fe ⟨Crv.norm (Crv.mk px py d),id⟩)]:=by
 have cd:=Mr hd (Qa hk.d (by omega));by_cases h0:d=0
 ·subst h0;have ck:Cs 4294967294 1073741824 (Crv.mk px py 1):=⟨hk.x,hk.y,show Ff 1<=4294967294 by decide,hk.lx,hk.ly⟩;have cm:=UH hx hy (U5 1) ck (by decide);have e:Crv.norm (Crv.mk px py 1)=Crv.norm (Crv.mk px py 0):=by simp only[Crv.norm,Crv.g,Crv.d'];rfl
  rw[e]at cm;obtain⟨b,l,rfl,rfl,_⟩:=hd;exact Ug func86 rfl [.k cd,.k Do,.t (by simp),.k (BP (z:=1) (by decide)),.k cm] rfl
 ·have cm:=UH hx hy hd hk h0;obtain⟨b,l,rfl,rfl,_⟩:=hd;exact Ug func86 rfl [.k cd,.k Do,.f (by simpa using h0),.k cm] rfl
theorem mB{p:Pt}(hn:ZI p.c)(hk:Cs 4294967294 1073741824 p.c):Uj 86 [.agg (Fe p)] [.agg (Fe p)]:=by
 have h:=HI (Gf p.c.x) (Gf p.c.y) (U5 p.c.d) hk p.id;rw[show Crv.mk p.c.x p.c.y p.c.d=p.c from rfl,Crv.norm_of hn]at h;exact h
theorem Qgk{k:Crv}(hk:Cs 4294967294 1073741824 k):Uj 245 [.agg (cl k)] [.one (.bool (A3 k))]:=by
 have hlx:=hk.lx;have hly:=hk.ly;refine Fx func245 rfl ?_;refine Ud [] rfl ?_;refine Ui (S:=Nat) 1 (λL1 i=>(15,.v (.oi i))::L1) (λ_=>[.blk 38 (cl k)]) (λi=>3-i) (λi=>i≤3/\(0<i->∀z∈k.x,Ff z≤128)/\(1<i->∀z∈k.y,Ff z≤128)/\(2<i->Ff k.d≤128)) 0 ⟨by decide,by omega,by omega,by omega⟩ rfl rfl λi ⟨hi,g0,g1,g2⟩=>?_
 rcases(show i=0\/i=1\/i=2\/i=3 by omega)with rfl|rfl|rfl|rfl
 ·have hl:((k.x).map G9).length=(k.x).length:=by simp
  refine Ud [.t rfl,.i 0] rfl ?_ (by simp[U4]);refine Ui (S:=Nat) 1 (λL1 j=>(20,.v (.oi j))::L1) (λ_=>[.blk 38 (cl k)]) (λj=>(k.x).length-j) (λj=>j<=(k.x).length/\∀n z,n<j->(k.x)[n]? = some z->Ff z<=128) 0 ⟨Qh _,λn z h=>by omega⟩ rfl rfl λj ⟨hj,hs⟩=>?_
  by_cases h:j<(k.x).length
  ·obtain⟨z,hz⟩:=gxE (l:=(k.x)) (i:=j) h;by_cases hb:Ff z<=128
   ·have hb4:=ZD.2 hb;refine Ue [.t (by simp;omega),.x (G6 (f:=G9) hz),.f (by simp[kL];omega)] rfl ?_;exact rd (j+1) (by omega) ⟨h,λn y hn hy=>by
     rcases Zb n j with h2|h2
     ·exact hs n y h2 hy
     ·have:n=j:=by omega
      subst this;rw[hz]at hy;injection hy with hy;rw[<-hy];exact hb⟩ rfl
   ·have hb4:=mt ZD.1 hb;rw[WL (Qq.2 (.inl (Qq.2 (.inl (Qc hz))))) hb];exact Uf [.t (by simp;omega),.x (G6 (f:=G9) hz),.t (by simp[kL];omega)] rfl
  ·have hall:∀z∈k.x,Ff z≤128:=λz hz=>by
    obtain⟨n,hn⟩:=Xv hz;exact hs n z (by have:=(Qf.1 hn).1;omega) hn
   refine Ud [.f (by simp;omega)] rfl ?_ (by simp[U4]);exact rd 1 (by omega) ⟨by omega,λ_=>hall,by omega,by omega⟩ rfl
 ·have hl:((k.y).map G9).length=(k.y).length:=by simp
  refine Ud [.t rfl,.i 1] rfl ?_ (by simp[U4]);refine Ui (S:=Nat) 1 (λL1 j=>(20,.v (.oi j))::L1) (λ_=>[.blk 38 (cl k)]) (λj=>(k.y).length-j) (λj=>j<=(k.y).length/\∀n z,n<j->(k.y)[n]? = some z->Ff z<=128) 0 ⟨Qh _,λn z h=>by omega⟩ rfl rfl λj ⟨hj,hs⟩=>?_
  by_cases h:j<(k.y).length
  ·obtain⟨z,hz⟩:=gxE (l:=(k.y)) (i:=j) h;by_cases hb:Ff z<=128
   ·have hb4:=ZD.2 hb;refine Ue [.t (by simp;omega),.x (G6 (f:=G9) hz),.f (by simp[kL];omega)] rfl ?_;exact rd (j+1) (by omega) ⟨h,λn y hn hy=>by
     rcases Zb n j with h2|h2
     ·exact hs n y h2 hy
     ·have:n=j:=by omega
      subst this;rw[hz]at hy;injection hy with hy;rw[<-hy];exact hb⟩ rfl
   ·have hb4:=mt ZD.1 hb;rw[WL (Qq.2 (.inl (Qq.2 (.inr (Qc hz))))) hb];exact Uf [.t (by simp;omega),.x (G6 (f:=G9) hz),.t (by simp[kL];omega)] rfl
  ·have hall:∀z∈k.y,Ff z≤128:=λz hz=>by
    obtain⟨n,hn⟩:=Xv hz;exact hs n z (by have:=(Qf.1 hn).1;omega) hn
   refine Ud [.f (by simp;omega)] rfl ?_ (by simp[U4]);exact rd 2 (by omega) ⟨by omega,λ_=>g0 (by omega),λ_=>hall,by omega⟩ rfl
 ·have hl:(([k.d]).map G9).length=([k.d]).length:=by simp
  have h1:([k.d]).length=1:=rfl;refine Ud [.t rfl,.i 2] rfl ?_ (by simp[U4]);refine Ui (S:=Nat) 1 (λL1 j=>(20,.v (.oi j))::L1) (λ_=>[.blk 38 (cl k)]) (λj=>([k.d]).length-j) (λj=>j<=([k.d]).length/\∀n z,n<j->([k.d])[n]? = some z->Ff z<=128) 0 ⟨Qh _,λn z h=>by omega⟩ rfl rfl λj ⟨hj,hs⟩=>?_
  by_cases h:j<([k.d]).length
  ·obtain⟨z,hz⟩:=gxE (l:=([k.d])) (i:=j) h;by_cases hb:Ff z<=128
   ·have hb4:=ZD.2 hb;refine Ue [.t (by simp;omega),.x (G6 (f:=G9) hz),.f (by simp[kL];omega)] rfl ?_;exact rd (j+1) (by omega) ⟨h,λn y hn hy=>by
     rcases Zb n j with h2|h2
     ·exact hs n y h2 hy
     ·have:n=j:=by omega
      subst this;rw[hz]at hy;injection hy with hy;rw[<-hy];exact hb⟩ rfl
   ·have hb4:=mt ZD.1 hb;rw[WL (Qq.2 (.inr (Qc hz))) hb];exact Uf [.t (by simp;omega),.x (G6 (f:=G9) hz),.t (by simp[kL];omega)] rfl
  ·have hall:∀z∈[k.d],Ff z≤128:=λz hz=>by
    obtain⟨n,hn⟩:=Xv hz;exact hs n z (by have:=(Qf.1 hn).1;omega) hn
   refine Ud [.f (by simp;omega)] rfl ?_ (by simp[U4]);exact rd 3 (by omega) ⟨by omega,λ_=>g0 (by omega),λ_=>g1 (by omega),λ_=>hall k.d (by simp)⟩ rfl
 ·rw[WC.2 ⟨g0 (by omega),g1 (by omega),g2 (by omega)⟩];exact Uf [.f rfl] rfl
def Ol(p:Pt):Bool:=decide (0<=p.id) && (decide (p.id<=1048576) && A3 p.c)
theorem Qgp{p:Pt}(hk:Cs 4294967294 1073741824 p.c):Uj 184 [.agg (Fe p)] [.one (.bool (Ol p))]:=by
 have cs:=Qgk hk;by_cases h0:0<=p.id
 ·by_cases h1:p.id<=1048576
  ·have e:Ol p=A3 p.c:=by simp[Ol,h0,h1]
   rw[e];exact Ug func184 rfl [.t (by simpa using h0),.t (by simpa using h1),.k cs] rfl
  ·have e:Ol p=false:=by simp[Ol,h1]
   rw[e];exact Ug func184 rfl [.t (by simpa using h0),.f (by simpa using h1)] rfl
 ·have e:Ol p=false:=by simp[Ol,h0]
  rw[e];exact Ug func184 rfl [.f (by simpa using h0),.f rfl] rfl
theorem Qfy{k:Crv}(hn:ZI k)(hk:Cs 4294967294 1073741824 k):Uj 185 [.agg (cl k)] [.oi (RY k)] :=
 Ug func185 rfl [.k (BE hn hk),.k (Md k.x),.k (Md k.y)] rfl
def Na(np nd:Int)(M:List Pt)(p:Pt):Int:=if Ol p=false then 1 else if has M p.id=true then 6 else if nd<RY p.c then 7 else if np<=(M.length:Int)then 9 else 0
theorem Quk{lx ly:Us}{px py:Um}{x y:LV}{d id np nd:Int}{l:List Pt}(hx:IsInts lx px)(hy:IsInts ly py)(hd:Gg x y d)(hk:Cs 4294967294 1073741824 (Crv.mk px py d))(hl:l.length<=1000000) :
 U7 prog 132 [.one (.ow 0 0),.agg [.row lx,.row ly,x,y,.int .i64 id]] [tB np nd l] [.oi (Na np nd l (Pt.mk (Crv.norm (Crv.mk px py d)) id))] [tB np nd (if Na np nd l (Pt.mk (Crv.norm (Crv.mk px py d)) id)=0 then put l (Pt.mk (Crv.norm (Crv.mk px py d)) id)else l)]:=by
 have cf:=HI hx hy hd hk id;have hkn:=hk.norm (by omega);have hnm:=Crv.nml (Crv.mk px py d);obtain⟨b,r,rfl,rfl,_⟩:=hd;obtain⟨q,hq⟩:=nmE (Pt.mk (Crv.norm (Crv.mk px py d)) id);have hqi:q.id=id:=by rw[hq]
 have hqc:q.c=Crv.norm (Crv.mk px py d):=by rw[hq]
 rw[<-hq]at cf ⊢;rw[<-hqc]at hkn hnm;have ca:U7 prog 183 [.one (.ow 0 0),.oi q.id] [tB np nd l] [.oi (Rk l id:Int),.one (.bool (has l id))] [tB np nd l]:=by rw[hqi];exact eW id (by omega)
 have cm:=Qgp (p:=q) hkn;have cd:=Qfy hnm hkn;have hpl:=vK l id;have hll:(l.map Fe).length=l.length:=by simp
 by_cases h0:Ol q=false
 ·have e:Na np nd l q=1:=by simp[Na,h0]
  rw[e,if_neg (by decide)];refine Fx func132 rfl ?_;exact Uh [] [0] [.k cf,.c [0] ca,.k cm,.t (by simp[h0])] rfl
 by_cases h1:has l id=true
 ·have e:Na np nd l q=6:=by simp[Na,h0,hqi,h1]
  rw[e,if_neg (by decide)];refine Fx func132 rfl ?_;exact Uh [] [0] [.k cf,.c [0] ca,.k cm,.f (by simpa using h0),.t h1] rfl
 by_cases h2:nd<RY q.c
 ·have e:Na np nd l q=7:=by simp[Na,h0,hqi,h1,h2]
  rw[e,if_neg (by decide)];refine Fx func132 rfl ?_;exact Uh [] [0] [.k cf,.c [0] ca,.k cm,.f (by simpa using h0),.f (by simpa using h1),.k cd,.t (by simpa using h2)] rfl
 by_cases h3:np<=(l.length:Int)
 ·have e:Na np nd l q=9:=by simp[Na,h0,hqi,h1,h2,h3]
  rw[e,if_neg (by decide)];refine Fx func132 rfl ?_;exact Uh [] [0] [.k cf,.c [0] ca,.k cm,.f (by simpa using h0),.f (by simpa using h1),.k cd,.f (by simpa using h2),.t (by simp;omega)] rfl
 have e:Na np nd l q=0:=by simp[Na,h0,hqi,h1,h2,h3]
 rw[e,if_pos rfl];have s1:∀c∈(l.map Fe).take (Rk l id),c.length=5:=λc hc=>Sw l c (Qo hc)
 have s3:∀c∈(l.map Fe).drop (Rk l id),c.length=5:=λc hc=>Sw l c (Qz hc)
 have ep:pts (put l q)=.row ((l.map Fe).take (Rk l id)++[Fe q]++(l.map Fe).drop (Rk l id)):=by
  simp[put,hqi,pts,Jv,Vi]
 have eB:tB np nd (put l q)=.blk 159 [.int .i64 np,.int .i64 nd,.row ((l.map Fe).take (Rk l id)++[Fe q]++(l.map Fe).drop (Rk l id))]:=by
  show OB.blk 159 [.int .i64 np,.int .i64 nd,pts (put l q)]=_;rw[ep]
 rw[eB];refine Fx func132 rfl ?_;exact Uh [2] [0] [.k cf,.c [0] ca,.k cm,.f (by simpa using h0),.f (by simpa using h1),.k cd,.f (by simpa using h2),.f (by simp;omega),.i (Rk l id),.s s1,.i (Rk l id),.s s3] rfl (by
  simp only[U4,Qu,Q5,Xl,Qp,Q8,hll]
  and_intros <;> first|exact Sw l|omega)
def Px(nd:Int)(M:List Pt)(p:Pt):Int:=if Ol p=false then 1 else if has M p.id=false then 5 else if nd<RY p.c then 7 else 0
theorem Qof{lx ly:Us}{px py:Um}{x y:LV}{d id np nd:Int}{l:List Pt}(hx:IsInts lx px)(hy:IsInts ly py)(hd:Gg x y d)(hk:Cs 4294967294 1073741824 (Crv.mk px py d))(hl:l.length<=1000000) :
 U7 prog 114 [.one (.ow 0 0),.agg [.row lx,.row ly,x,y,.int .i64 id]] [tB np nd l] [.oi (Px nd l (Pt.mk (Crv.norm (Crv.mk px py d)) id))] [tB np nd (if Px nd l (Pt.mk (Crv.norm (Crv.mk px py d)) id)=0 then l.set (Rk l id) (Pt.mk (Crv.norm (Crv.mk px py d)) id)else l)]:=by
 have cf:=HI hx hy hd hk id;have hkn:=hk.norm (by omega);have hnm:=Crv.nml (Crv.mk px py d);obtain⟨b,r,rfl,rfl,_⟩:=hd;obtain⟨q,hq⟩:=nmE (Pt.mk (Crv.norm (Crv.mk px py d)) id);have hqi:q.id=id:=by rw[hq]
 have hqc:q.c=Crv.norm (Crv.mk px py d):=by rw[hq]
 rw[<-hq]at cf ⊢;rw[<-hqc]at hkn hnm;have ca:U7 prog 183 [.one (.ow 0 0),.oi q.id] [tB np nd l] [.oi (Rk l id:Int),.one (.bool (has l id))] [tB np nd l]:=by rw[hqi];exact eW id (by omega)
 have cm:=Qgp (p:=q) hkn;have cd:=Qfy hnm hkn;have hpl:=vK l id;have hll:(l.map Fe).length=l.length:=by simp
 by_cases h0:Ol q=false
 ·have e:Px nd l q=1:=by simp[Px,h0]
  rw[e,if_neg (by decide)];refine Fx func114 rfl ?_;exact Uh [] [0] [.k cf,.c [0] ca,.k cm,.t (by simp[h0])] rfl
 by_cases h1:has l id=false
 ·have e:Px nd l q=5:=by simp[Px,h0,hqi,h1]
  rw[e,if_neg (by decide)];refine Fx func114 rfl ?_;exact Uh [] [0] [.k cf,.c [0] ca,.k cm,.f (by simpa using h0),.t (by simp[h1])] rfl
 by_cases h2:nd<RY q.c
 ·have e:Px nd l q=7:=by simp[Px,h0,hqi,h1,h2]
  rw[e,if_neg (by decide)];refine Fx func114 rfl ?_;exact Uh [] [0] [.k cf,.c [0] ca,.k cm,.f (by simpa using h0),.f (by simpa using h1),.k cd,.t (by simpa using h2)] rfl
 have e:Px nd l q=0:=by simp[Px,h0,hqi,h1,h2]
 rw[e,if_pos rfl];have hh:has l id=true:=by simpa using h1
 have hps:=YO hh;have eB:tB np nd (l.set (Rk l id) q)=.blk 159 [.int .i64 np,.int .i64 nd,.row ((l.map Fe).set (Rk l id) (Fe q))]:=by
  show OB.blk 159 [.int .i64 np,.int .i64 nd,pts (l.set (Rk l id) q)]=_;unfold pts;rw[List.map_set]
 rw[eB];refine Fx func114 rfl ?_;exact Uh [2] [0] [.k cf,.c [0] ca,.k cm,.f (by simpa using h0),.f (by simpa using h1),.k cd,.f (by simpa using h2),.s (Sw l),.i (Rk l id)] rfl (by
  simp only[U4,hll]
  and_intros <;> first|exact Sw l|omega)
theorem Qoe{id np nd:Int}{l:List Pt}(hl:l.length<=1000000)(h:has l id=true) :
 U7 prog 133 [.one (.ow 0 0),.oi id] [tB np nd l] [.oi 0] [tB np nd (l.take (Rk l id)++l.drop (Rk l id+1))]:=by
 have ca:=eW (np:=np) (nd:=nd) (l:=l) id (by omega);have hpl:=YO h;rw[h]at ca;have hll:(l.map Fe).length=l.length:=by simp
 have s1:∀c∈(l.map Fe).take (Rk l id),c.length=5:=λc hc=>Sw l c (Qo hc)
 have s3:∀c∈(l.map Fe).drop (Rk l id+1),c.length=5:=λc hc=>Sw l c (Qz hc)
 have eB:tB np nd (l.take (Rk l id)++l.drop (Rk l id+1))=.blk 159 [.int .i64 np,.int .i64 nd,.row ((l.map Fe).take (Rk l id)++(l.map Fe).drop (Rk l id+1))]:=by
  show OB.blk 159 [.int .i64 np,.int .i64 nd,pts (l.take (Rk l id)++l.drop (Rk l id+1))]=_;unfold pts;rw[List.map_append,List.map_take,List.map_drop]
 rw[eB];refine Fx func133 rfl ?_;exact Uh [1] [0] [.c [0] ca,.f rfl,.i (Rk l id),.s s1,.i (Rk l id+1),.s s3] rfl (by
  simp only[U4,Qu,Q5,Xl,Qp,Q8,hll]
  and_intros <;> first|exact Sw l|omega)
theorem Qgn{id np nd:Int}{l:List Pt}(hl:l.length<=1000000)(h:has l id=false) :
 U7 prog 133 [.one (.ow 0 0),.oi id] [tB np nd l] [.oi 5] [tB np nd l]:=by
 have ca:=eW (np:=np) (nd:=nd) (l:=l) id (by omega);rw[h]at ca;refine Fx func133 rfl ?_;exact Uh [] [0] [.c [0] ca,.t rfl] rfl
theorem mN{np nd:Int}{l:List Pt}(hok:∀p∈l,Qd8 4294967294 1073741824 p)(hl:l.length≤1000000):U7 prog 29 [.one (.ow 0 0)] [tB np nd l] [.one (pts l)] [tB np nd l]:=by
 have hll:(l.map Fe).length=l.length:=by simp
 refine Fx func29 rfl ?_;refine Ud [.o 3 40 5] rfl ?_;refine Ui (S:=Nat) 2 (λL1 i=>(11,.v (.oi i))::(3,.v (.one (.orow 1 5 none)))::L1) (λi=>[tB np nd l,.row false 40 5 ((l.take i).map Fe)]) (λi=>l.length-i) (λi=>i<=l.length) 0 (Qh _) rfl rfl λi hi=>?_
 by_cases h:i<l.length
 ·obtain⟨p,hp⟩:=gxE (l:=l) (i:=i) h;have hpo:=hok p (Qc hp);have cf:=mB hpo.1 hpo.2;have s2:∀c∈[Fe p],c.length=5:=λc hc=>by rw[Qk.1 hc];rfl
  have hg:(l.take (i+1)).map Fe=(l.take i).map Fe++[Fe p]:=by rw[Zv,hp];simp
  refine Ue [.t (by simp;omega),.x (Tj hp),.k cf,.s s2] rfl ?_;exact rd (i+1) (by omega) h (by rw[hg];rfl)
 ·obtain rfl:i=l.length:=by omega
  rw[Q6];exact Uh [1] [0] [.f (by simp)] rfl
theorem Qgm{np nd:Int}{l:List Pt}:U7 prog 62 [.one (.ow 0 0)] [tB np nd l] [.one (.ow 1 0)] [tB np nd l,tB np nd l]:=by
 refine Fx func62 rfl ?_;exact Uh [] [0,1] [] rfl
end Orr
