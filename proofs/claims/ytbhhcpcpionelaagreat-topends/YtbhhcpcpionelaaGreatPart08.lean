/- H1 HullQ HullS HullT PairQ PW1 DigL R1 R2 S2 S3 NewsN PW2 TouL TouQ MeshN EnL BndL KT EnS SD1 -/
import Derived.Test.YtbhhcpcpionelaaGreatPart07
import Derived.Test.YtbhhcpcpionelaaGreatPart05
import Derived.Test.YtbhhcpcpionelaaGreatPart00
import Derived.Test.YtbhhcpcpionelaaGreatPart04
set_option linter.all false
namespace Orr
open Go Go.Proofs Tryz Orq
set_option maxRecDepth 10000
theorem gz{P:Program}[Mo P]{n:Nat}{Q:Exit->Sg->Ux->Prop}{L L':Sg}{B B':Ux}(i:Nat){it:List It}(hs:Ro it=true)(h:Qd3 [i] L B=some (L',B'))(k:AK P n Q it L' B'):AK P n Q it L B:=AK.sub (GM h) hs k
theorem AU{r:Ur}{i:Nat}{p:Uq}(h:r[i]? = some p):(JP r)[i]? = some [pl p]:=Hm h
theorem Aa{l:List Ur}{i:Nat}{r:Ur}(h:l[i]? = some r):(Ip l)[i]? = some [.row (JP r)]:=Hm h
theorem Qfk{r:Ur}(ht:∀p∈r,Fe p)(hb:∀p∈r,Bd 1000000 p)(hl:∀p∈r,p.length≤1000000)(hn:r.length≤1000):Un 249 [.one (.row (JP r))] [.one (.row (JP r))]:=by
 have hrl:(JP r).length=r.length:=by simp
 refine Fz func249 rfl ?_;refine Uh [.o 3 34 1] rfl ?_;refine Um (S:=Nat) 1 (λL1 i=>(8,.v (.oi i))::(3,.v (.one (.orow 0 1 none)))::L1) (λi=>[.row false 34 1 (JP (r.take i))]) (λi=>r.length-i) (λi=>i<=r.length) 0 (Qh _) rfl rfl λi hi=>?_
 by_cases h:i<r.length
 ·obtain⟨p,hp⟩:=gxE (l:=r) (i:=i) h;have hm:=Qc hp;have hs:∀y∈[[pl p]],y.length=1:=λy hy=>by rw[Ql.1 hy];rfl
  have e:JP (r.take (i+1))=JP (r.take i)++[[pl p]]:=by rw[Z3,hp];simp
  refine go tt [.T,.x (AU hp),.k (Hu (ht p hm) (by have:=hl p hm;omega) (U7 (hb p hm) (by decide))),.s (sz:=1) hs] rfl (by simp[U5] <;> omega) ?_;exact rd (i+1) (by omega) h (by rw[e];rfl)
 ·obtain rfl:i=r.length:=by omega
  rw[Q7];exact Uj [.F] rfl
theorem Qy7{s k w:Nat}{ds:Us}{rows:List Ur}(h:Sq s ds k k rows)(_hw:w=k)(hk:k<=4):Un 278 [.one (.row (Ip rows))] [.one (.bool true)]:=by
 have hrl:=VX rows;have hl:=h.l;refine Fz func278 rfl ?_;refine Uh [] rfl ?_;refine Um (S:=Nat) 0 (λL1 i=>(7,.v (.oi i))::L1) (λ_=>[]) (λi=>rows.length-i) (λi=>i<=rows.length) 0 (Qh _) rfl rfl λi hi=>?_
 by_cases hlt:i<rows.length
 ·obtain⟨r,hr⟩:=gxE (l:=rows) (i:=i) hlt;have hw:=h.w r (Qc hr);have hql:(JP r).length=r.length:=by simp
  refine go tt [.T,.x (Aa hr),.f (decide_eq_false (λh=>h (by omega)))] rfl (by simp[U5] <;> omega) ?_;exact rd (i+1) (by omega) hlt rfl
 ·exact Uj [.F] rfl (by rw[decide_eq_true (by omega:((Ip rows).length:Int)<=4)]) trivial
theorem Qon{s k w:Nat}{ds:Us}{rows:List Ur}(h:Sq s ds k w rows)(hs:s<=1000000)(hk:k<=4)(hw:w<=4)(hd:∀j,ds.getD j 0<=1000)(i:Nat):Un 302 [.oi i,.oi 0,.one (.row (Ip rows))] [.one (.row (Ip (VC rows i)))]:=by
 have hrl:=VX rows;have hl:=h.l;have hml:∀j,j<=rows.length->(Ip (JQ i rows j)).length<=4:=λj hj=>by
  rw[VX,EJ];split <;> omega
 refine Fz func302 rfl ?_;refine Uh [.o 7 322 1] rfl ?_;refine Um (S:=Nat) 1 (λL1 j=>(15,.v (.oi j))::(7,.v (.one (.orow 0 1 none)))::L1) (λj=>[.row false 322 1 (Ip (JQ i rows j))]) (λj=>rows.length-j) (λj=>j<=rows.length) 0 (Qh _) rfl rfl λj hj=>?_
 have hmlj:=hml j hj;by_cases hlt:j<rows.length
 ·obtain⟨r,hr⟩:=gxE (l:=rows) (i:=j) hlt;have hm:=Qc hr;have hw:=h.w r hm;have hql:(JP r).length=r.length:=by simp
  by_cases hij:j=i
  ·have e:JQ i rows (j+1)=JQ i rows j:=by simp only[JQ];rw[if_pos hij]
   refine go tt [.T,.x (Aa hr),.T] rfl (by simp[U5] <;> omega) ?_;exact rd (j+1) (by omega) hlt (by rw[e];rfl)
  ·have e:JQ i rows (j+1)=JQ i rows j++[r.drop 1]:=by
    simp only[JQ];rw[if_neg hij,Qi,hr];rfl
   refine Uh [.T,.x (Aa hr),.F,.o 10 34 1] rfl ?_ (by simp[U5]);refine Um (S:=Nat) 2 (λL1 c=>(25,.v (.oi c))::(10,.v (.one (.orow 1 1 none)))::L1) (λc=>[.row false 322 1 (Ip (JQ i rows j)),.row false 34 1 (JP ((r.take c).drop 1))]) (λc=>r.length-c) (λc=>c<=r.length) 0 (Qh _) rfl rfl λc hc=>?_
   by_cases hcl:c<r.length
   ·obtain⟨p,hp⟩:=gxE (l:=r) (i:=c) hcl;have hpm:=Qc hp;by_cases h0:c=0
    ·subst h0;refine Uh [.T,.x (AU hp),.f (decide_eq_false (by simp))] rfl ?_ (by simp[U5]);exact rd 1 (by omega) hcl (by rw[Z3,hp];rfl)
    ·have hs1:∀y∈[[pl p]],y.length=1:=λy hy=>by rw[Ql.1 hy];rfl
     have e2:JP ((r.take (c+1)).drop 1)=JP ((r.take c).drop 1)++[[pl p]]:=by
      rw[Z3,hp,Wj (by rw[Qr];omega)];simp
     refine go tt [.T,.x (AU hp),.T,.k (Hu (h.t r hm p hpm) (by have:=h.n r hm c p hp;have:=hd c;omega) (U7 (h.b r hm p hpm) (by omega))),.s (sz:=1) hs1] rfl (by simp[U5] <;> omega) ?_;exact rd (c+1) (by omega) hcl (by rw[e2];rfl)
   ·obtain rfl:c=r.length:=by omega
    rw[Q7];have hs1:∀y∈[[LV.row (JP (r.drop 1))]],y.length=1:=λy hy=>by rw[Ql.1 hy];rfl
    refine Uh [.F] rfl ?_;refine gz 1 rfl rfl ?_;refine go tt [.s (sz:=1) hs1] rfl (by simp[U5] <;> omega) ?_;exact rd (j+1) (by omega) hlt (by rw[e];simp[Ip];rfl)
 ·obtain rfl:j=rows.length:=by omega
  exact Uj [.F] rfl
theorem PX:∀(ds:Us) (j:Nat),ds.getD j 0<=ds.sum
 | [],j=>by simp
 |d::ds,0=>by simp
 |
  d::ds,j+1=>by
  have:=PX ds j;rw[Kx];show ds.getD j 0<=_;omega
theorem Qst{s:Nat}(hs:s<=100000):∀(k:Nat) (ds:Us) (rows:List Ur),k<=4->ds.length=k->ds.sum<31->Sq s ds k k rows->Un 279 [.one (.row (Ip rows))] [pr (Lr k rows)]
 |
  0,ds,rows,_,_,_,h=>by
  have e:=Qj h.l;subst e;have co:=eO (p:=[1]) (by decide) (by decide);exact Uk func279 rfl [.t rfl,.k co] rfl
 |k+1,[],_,_,hl,_,_=>by simp at hl
 |
  k+1,d::ds,rows,hk,hl,hd,h=>by
  rw[Kx]at hd;have hl':ds.length=k:=by simpa using hl
  have hrl:=VX rows;have hrn:=h.l;have hmin:=λi (hi:i<k+1)=>h.min hi
  have ih:=λi (hi:i<k+1)=>Qst hs k ds (VC rows i) (by omega) hl' (by omega) (hmin i hi)
  have hok:=λi (hi:i<k+1)=>VQ k ds (VC rows i) (by omega) hl' (by omega) (hmin i hi)
  have hb:k*(s+10)+1<=500000:=by
   have:k*(s+10)<=4*(100010):=Q8 (by omega) (by omega);omega
  have hds:=jI (f:=λi=>Lr k (VC rows i)) (B:=k*(s+10)+1) (L:=ds.sum) h (by omega) (λi hi=>⟨(hok i hi).2.1,(hok i hi).2.2⟩);have cm:=Qon h (by omega) hk hk (λj=>by have:=PX (d::ds) j;rw[Kx]at this;omega);show Un 279 [.one (.row (Ip rows))] [pr (Do (λi=>Lr k (VC rows i)) rows (k+1))];obtain⟨f,hf⟩:=nmE (λi=>Lr k (VC rows i));rw[<-hf]at hds ⊢;have hfi:∀i,f i=Lr k (VC rows i):=λi=>by rw[hf]
  refine Fz func279 rfl ?_;refine Uh [.F,.z 3] rfl ?_;refine Um (S:=Nat) 0 (λL1 i=>(14,.v (.oi i))::(3,.v (pr (Do f rows i)))::L1) (λ_=>[]) (λi=>k+1-i) (λi=>i<=k+1) 0 (Qh _) rfl rfl λi hi=>?_
  obtain⟨d1,d2,d3⟩:=hds i hi;by_cases hlt:i<k+1
  ·obtain⟨p,r,hr,e,t,b,l⟩:=h.at hlt;have hx0:(JP (p::r))[0]? = some [pl p]:=rfl;have hpl:(p.map Hg).length=p.length:=by simp
   have cn:=Hu t (by omega) (U7 b (by omega));by_cases h0:p.length=0
   ·have es:Do f rows (i+1)=Do f rows i:=by simp only[Do];rw[e,if_pos h0]
    refine go tt [.T,.x (Aa hr),.x hx0,.k cn,.T] rfl (by simp[U5] <;> omega) ?_;exact rd (i+1) (by omega) hlt (by rw[es];rfl)
   ·obtain⟨k1,k2,k3⟩:=hok i hlt;have ci:=ih i hlt;have cp:=KC (p:=p) (q:=f i) t (by rw[hfi];exact k1) (by omega) (by rw[hfi];omega) b (by rw[hfi];exact k2) (by omega);have hmb:Bd (s+(k*(s+10)+1)+5) (Gl p (f i)):=Pp b (by rw[hfi];exact k2) (by omega);have hml:=H9 p (f i);have hfl:(f i).length<=ds.sum+1:=by rw[hfi];exact k3
    rw[<-hfi]at ci;by_cases h2:i % 2=0
    ·have es:Do f rows (i+1)=A7 (Do f rows i) (Gl p (f i)):=by simp only[Do];rw[e,if_neg h0,if_pos h2]
     refine go tt [.T,.x (Aa hr),.x hx0,.k cn,.F,.x hx0,.k (cm i),.k ci,.k cp,.r 34 (eI (b:=((i % 2:Nat):Int)) rfl),.T,.k (BO (p:=Do f rows i) (q:=Gl p (f i)) (by omega) (by omega) (U7 d2 (by omega)) (U7 hmb (by omega)))] rfl (by simp[U5] <;> omega) ?_;exact rd (i+1) (by omega) hlt (by rw[es];rfl)
    ·have es:Do f rows (i+1)=Ni (Do f rows i) (Gl p (f i)):=by simp only[Do];rw[e,if_neg h0,if_neg h2]
     refine go tt [.T,.x (Aa hr),.x hx0,.k cn,.F,.x hx0,.k (cm i),.k ci,.k cp,.r 34 (eI (b:=((i % 2:Nat):Int)) rfl),.F,.k (RV (p:=Do f rows i) (q:=Gl p (f i)) (by omega) (by omega) (U7 d2 (by omega)) (U7 hmb (by omega)))] rfl (by simp[U5] <;> omega) ?_;exact rd (i+1) (by omega) hlt (by rw[es];rfl)
  ·obtain rfl:i=k+1:=by omega
   exact Uj [.F] rfl
theorem Qsn{s:Nat}(hs:s<=100000){k:Nat}{ds:Us}{rows:List Ur}(hk:k<=4)(hl:ds.length=k)(hd:ds.sum<31)(h:Sq s ds k k rows):Un 250 [.one (.row (Ip rows))] [pr (Lr k rows),.oi 0] :=
 Uk func250 rfl [.k (Qy7 h rfl hk),.f rfl,.k (Qst hs k ds rows hk hl hd h)] rfl
theorem nK{k:Crv}(hk:Sc k):Un 248 [.agg (cl k)] [.one (.row (JP [k.x,k.y,[k.d]]))]:=by
 have h0:k.d≠0:=by have:=hk.n.2.2.1;omega
 have td:Fe [k.d]:=by unfold Fe;simp[trim,h0]
 have cd:=Qfk (r:=[k.x,k.y,[k.d]]) (λp hp=>by
  rcases Qm.1 hp with rfl|hp
  ·exact hk.n.1
  rcases Qm.1 hp with rfl|hp
  ·exact hk.n.2.1
  ·rw[Ql.1 hp];exact td) (λp hp=>by
  rcases Qm.1 hp with rfl|hp
  ·exact U7 hk.c.x (by decide)
  rcases Qm.1 hp with rfl|hp
  ·exact U7 hk.c.y (by decide)
  ·rw[Ql.1 hp];intro z hz;rw[Ql.1 hz];exact Qa hk.c.d (by decide)) (λp hp=>by
  rcases Qm.1 hp with rfl|hp
  ·have:=hk.c.lx;omega
  rcases Qm.1 hp with rfl|hp
  ·have:=hk.c.ly;omega
  ·rw[Ql.1 hp];show 1<=1000000;decide) (by show 3<=1000;decide)
 exact Uk func248 rfl [.k (Dz hk.n (hk.c.mono (by decide) (by decide))),.k cd] rfl
theorem AB{a b c:Crv}(ha:Sc a)(hb:Sc b)(hc:Sc c):Sq 128 [2,2,0] 3 3 (EF a b c):=by
 have key:∀k:Crv,Sc k->(∀p∈[k.x,k.y,[k.d]],Fe p/\Bd 128 p)/\∀(j:Nat) (p:Uq),[k.x,k.y,[k.d]][j]? = some p->p.length≤[2,2,0].getD j 0+1:=λk hk=>by
  have h0:k.d≠0:=by have:=hk.n.2.2.1;omega
  have td:Fe [k.d]:=by unfold Fe;simp[trim,h0]
  refine⟨λp hp=>?_,λj p hp=>?_⟩
  ·rcases Qm.1 hp with rfl|hp
   ·exact⟨hk.n.1,hk.c.x⟩
   rcases Qm.1 hp with rfl|hp
   ·exact⟨hk.n.2.1,hk.c.y⟩
   ·rw[Ql.1 hp];exact⟨td,λz hz=>by rw[Ql.1 hz];exact hk.c.d⟩
  ·match j,hp with
   | 0,hp=>injection hp with hp;subst hp;exact hk.c.lx
   | 1,hp=>injection hp with hp;subst hp;exact hk.c.ly
   | 2,hp=>injection hp with hp;subst hp;exact Qk _
   |j+3,hp=>simp at hp
 have hr:∀r∈EF a b c,∃k:Crv,Sc k/\r=[k.x,k.y,[k.d]]:=λr hr=>by
  rcases Qm.1 hr with rfl|hr
  ·exact⟨a,ha,rfl⟩
  rcases Qm.1 hr with rfl|hr
  ·exact⟨b,hb,rfl⟩
  ·rw[Ql.1 hr];exact⟨c,hc,rfl⟩
 refine⟨rfl,λr h=>?_,λr h p hp=>?_,λr h p hp=>?_,λr h j p hp=>?_⟩
 all_goals obtain⟨k,hk,rfl⟩:=hr r h
 ·rfl
 ·exact((key k hk).1 p hp).1
 ·exact((key k hk).1 p hp).2
 ·exact(key k hk).2 j p hp
theorem YH{a b c:Crv}(ha:Sc a)(hb:Sc b)(hc:Sc c):Cp (G7 a b c):=by
 obtain⟨h1,h2,h3⟩:=VQ 3 [2,2,0] (EF a b c) (by decide) rfl (by decide) (AB ha hb hc);exact⟨h1,Qa h3 (by decide),U7 h2 (by decide)⟩
theorem uV{a b c:Crv}(ha:Sc a)(hb:Sc b)(hc:Sc c):Un 209 [.agg (cl a),.agg (cl b),.agg (cl c)] [pr (G7 a b c)]:=by
 have cd:=Qsn (by decide) (k:=3) (ds:=[2,2,0]) (by decide) rfl (by decide) (AB ha hb hc);exact Uk func209 rfl [.k (nK ha),.k (nK hb),.k (nK hc),.k cd] rfl
end Orr
namespace Orq
open Orr Go
theorem pJ{p q:Uq}(tp:Fe p)(tq:Fe q)(h:∀i,p.getD i 0=q.getD i 0):p=q:=by
 have hl:∀{p q:Uq},Fe p->(∀i,p.getD i 0=q.getD i 0)->p.length<=q.length:=λ{p q} tp h=>by
  refine Nat.not_lt.1 λhn=>?_
  have h1:=Rf tp (by omega);rw[h,Qi,Qw (by omega)]at h1;exact h1 rfl
 have e:=Kd (hl tp h) (hl tq λi=>(h i).symm);refine List.ext_getElem e λi h1 h2=>?_
 have:=h i;rw[Qi,Qi,Qe h1,Qe h2]at this;exact this
theorem gK{p:Uq}(h:p=[])(i:Nat):p.getD i 0=0:=by rw[h];simp
theorem Ev(p:Uq)(c:Int)(i:Nat):(Fv p c).getD i 0=p.getD i 0*c:=by
 unfold Fv;rw[Pi]
 split
 ·rfl
 ·rename_i h;rw[Qi,Qw (by omega)];simp
theorem AZ(p q:Uq)(i:Nat):(Ni p q).getD i 0=p.getD i 0-q.getD i 0:=by
 unfold Ni;rw[Pi]
 split
 ·rfl
 ·rename_i h;rw[Qi,Qi,Qw (by omega),Qw (by omega)];simp
theorem Qqg{x y:Crv}(hx:YZ x)(hy:YZ y)(h1:Gd x y=[])(h2:Gb x y=[]):x=y:=by
 have e1:∀i,y.x.getD i 0*x.d=x.x.getD i 0*y.d:=λi=>by
  have:=gK h1 i;unfold Gd at this;rw[AZ,Ev,Ev]at this;omega
 have e2:∀i,y.y.getD i 0*x.d=x.y.getD i 0*y.d:=λi=>by
  have:=gK h2 i;unfold Gb at this;rw[AZ,Ev,Ev]at this;omega
 have key:∀{x y:Crv},YZ x->YZ y->(∀i,y.x.getD i 0*x.d=x.x.getD i 0*y.d)->(∀i,y.y.getD i 0*x.d=x.y.getD i 0*y.d)->x.d∣y.d:=λ{x y} hx hy e1 e2=>by
  have hd:=fR (d:=x.d) (l:=(x.d::(x.x++x.y)).map (· * y.d)) λz hz=>by
   obtain⟨w,hw,rfl⟩:=Q6.1 hz;rcases Qm.1 hw with rfl|hw
   ·exact Int.dvd_mul_right _ _
   ·rcases Qq.1 hw with hw|hw
    ·obtain⟨i,hi,rfl⟩:=V2.1 hw;have:=e1 i;rw[show x.x.getD i 0=x.x[i] from by rw[Qi,Qe hi];rfl]at this;rw[<-this];exact Vb _ _
    ·obtain⟨i,hi,rfl⟩:=V2.1 hw;have:=e2 i;rw[show x.y.getD i 0=x.y[i] from by rw[Qi,Qe hi];rfl]at this;rw[<-this];exact Vb _ _
  rw[Qix,hx.2.2.2,Ku]at hd;exact V7 hd (Int.natAbs_dvd.2 (Wa _))
 have hd:x.d=y.d:=Int.dvd_antisymm (Int.le_of_lt hx.2.2.1) (Int.le_of_lt hy.2.2.1) (key hx hy e1 e2) (key hy hx (λi=>(e1 i).symm) λi=>(e2 i).symm);have hd0:y.d≠0:=by have:=hy.2.2.1;omega
 rw[hd]at e1 e2;have ex:x.x=y.x:=pJ hx.1 hy.1 λi=>(Y4 hd0 (e1 i)).symm
 have ey:x.y=y.y:=pJ hx.2.1 hy.2.1 λi=>(Y4 hd0 (e2 i)).symm
 cases x;cases y;simp only at hd ex ey;rw[hd,ex,ey]
theorem Qrx(l:List Pt):(Rw l).Pairwise λx y=>x.c≠y.c:=by
 have key:∀(l out:List Pt),out.Pairwise (λx y=>x.c≠y.c)->(l.foldl B8 out).Pairwise λx y=>x.c≠y.c:=by
  intro l
  induction l with
  |nil=>intro out h;exact h
  |
   cons p l ih =>
   intro out h;refine ih _ ?_;unfold B8
   split
   ·exact h
   ·rename_i hn;refine X2.2 ⟨h,Kn _ _,λa ha b hb e=>hn ?_⟩;rw[Ql.1 hb]at e;rw[List.any_eq_true];exact⟨a,ha,by rw[<-e];simp[Ih]⟩
 exact key l [] .nil
theorem Qmi(l:List Pt):(Rw l).Sublist l:=by
 have key:∀(l out o:List Pt),out.Sublist o->(l.foldl B8 out).Sublist (o++l):=by
  intro l
  induction l with
  |nil=>intro out o h;rw[Zv];exact h
  |
   cons p l ih =>
   intro out o h;have:(B8 out p).Sublist (o++[p]):=by
    unfold B8
    split
    ·exact h.trans (List.sublist_append_left _ _)
    ·exact h.append (List.Sublist.refl _)
   have:=ih _ _ this;rwa[Ze]at this
 exact key l [] [] (List.Sublist.refl _)
theorem Ow(f:Nat->Uq)(rows:List Ur)(q:Rat)(i:Nat):Fa (Do f rows (i+1)) q=Fa (Do f rows i) q+(if i % 2=0 then 1 else -1)*(Fa ((rows.getD i []).getD 0 []) q*Fa (f i) q):=by
 simp only[Do]
 split
 ·rename_i h;have:Fa ((rows.getD i []).getD 0 []) q=0:=by rw[Qj h];rfl
  rw[this];grind
 ·split
  ·rw[EM,Gq];grind
  ·rw[Ss,Gq];grind
theorem Qak(z:Int)(q:Rat):Fa [z] q=(z:Rat):=by simp[Fa,Rat.add_zero]
theorem tV(p:Uq)(q:Rat):Fa (Lr 1 [[p]]) q=Fa p q:=by
 show Fa (Do (λi=>Lr 0 (VC [[p]] i)) [[p]] (0+1)) q=_;rw[Ow];show(0:Rat)+1*(Fa p q*Fa [1] q)=_;rw[Qak];have:((1:Int):Rat)=1:=rfl;grind
theorem EP(p r s t:Uq)(q:Rat):Fa (Lr 2 [[p,r],[s,t]]) q=Fa p q*Fa t q-Fa s q*Fa r q:=by
 show Fa (Do (λi=>Lr 1 (VC [[p,r],[s,t]] i)) [[p,r],[s,t]] (0+1+1)) q=_;rw[Ow,Ow];show(0:Rat)+1*(Fa p q*Fa (Lr 1 [[t]]) q)+(-1)*(Fa s q*Fa (Lr 1 [[r]]) q)=_;rw[tV,tV];grind
theorem Qkp(a1 a2 a3 b1 b2 b3 c1 c2 c3:Uq)(q:Rat):Fa (Lr 3 [[a1,a2,a3],[b1,b2,b3],[c1,c2,c3]]) q=Fa a1 q*(Fa b2 q*Fa c3 q-Fa c2 q*Fa b3 q)-Fa b1 q*(Fa a2 q*Fa c3 q-Fa c2 q*Fa a3 q)+Fa c1 q*(Fa a2 q*Fa b3 q-Fa b2 q*Fa a3 q):=by
 show Fa (Do (λi=>Lr 2 (VC [[a1,a2,a3],[b1,b2,b3],[c1,c2,c3]] i)) [[a1,a2,a3],[b1,b2,b3],[c1,c2,c3]] (0+1+1+1)) q=_;rw[Ow,Ow,Ow];show(0:Rat)+1*(Fa a1 q*Fa (Lr 2 [[b2,b3],[c2,c3]]) q)+(-1)*(Fa b1 q*Fa (Lr 2 [[a2,a3],[c2,c3]]) q)+1*(Fa c1 q*Fa (Lr 2 [[a2,a3],[b2,b3]]) q)=_;rw[EP,EP,EP];grind
theorem dL{a b c:Pt}(ha:Sc a.c)(hb:Sc b.c)(hc:Sc c.c)(q:Rat):Fh (Fa (G7 a.c b.c c.c) q)=Fh (Bl (px · q) (py · q) a b c):=by
 have Tc:∀{k:Crv},Sc k->(0:Rat)<(k.d:Rat):=λh=>by exact_mod_cast h.n.2.2.1
 have pa:=Tc ha;have pb:=Tc hb;have pc:=Tc hc;have xx:∀{p:Pt},0<(p.c.d:Rat)->Fa p.c.x q=px p q*(p.c.d:Rat)/\Fa p.c.y q=py p q*(p.c.d:Rat):=λ{p} h=>by
  unfold px py;exact⟨(Zl (by grind)).symm,(Zl (by grind)).symm⟩
 obtain⟨xa,ya⟩:=xx pa;obtain⟨xb,yb⟩:=xx pb;obtain⟨xc,yc⟩:=xx pc;have e:Fa (G7 a.c b.c c.c) q=((a.c.d:Rat)*(b.c.d:Rat)*(c.c.d:Rat))*Bl (px · q) (py · q) a b c:=by
  unfold G7 EF Bl;rw[Qkp,Qak,Qak,Qak,xa,xb,xc,ya,yb,yc];grind
 rw[e,Cy (Xv (Xv pa pb) pc)]
def FB(sg:Uq->Int)(a b c:Pt):Bool:=decide (0<Hl sg (G7 a.c b.c c.c))
def Pq(sg:Uq->Int)(row:List Pt):List Pt:=(Ma (FB sg) [] row).reverse
def Ee(sg:Uq->Int)(row:List Pt):List Pt:=if row.length<3 then row else(Pq sg row).dropLast++(Pq sg row.reverse).dropLast
def Ph(l:List Pt)(a:Tm):List Pt:=Ee (Fx a) (Sy a (Rw l))
def Rz(C:List Pt):List (Pt×Pt):=C.zip (C.drop 1++C.take 1)
def Ll(sg:Uq->Int)(a b c:Pt):Ct:=⟨3,a.id,b.id,c.id,0,G7 a.c b.c c.c,Hl sg (G7 a.c b.c c.c)⟩
def VL(e:Pt×Pt)(c:Pt):Bool:=decide (c.id≠e.1.id) && decide (c.id≠e.2.id)
def Aj(sg:Uq->Int)(l:List Pt)(e:Pt×Pt):List Ct:=(l.filter (VL e)).map λc=>Ll sg e.1 e.2 c
def Bh(sg:Uq->Int)(l C:List Pt):List Ct:=if C.length<2 then []else(Rz C).flatMap (Aj sg l)
def HB(l:List Pt)(a:Tm):List Ct:=ZM l a++Bh (Fx a) l (Ph l a)
abbrev brH(l:List Pt)(a:Tm):Uw:=U4 (Ph l a)
def HA(l:List Pt):Ur:=l.flatMap λx=>l.flatMap λy=>l.map λz=>G7 x.c y.c z.c
theorem wC{l:List Pt}{x y z:Pt}(hx:x∈l)(hy:y∈l)(hz:z∈l):G7 x.c y.c z.c∈HA l :=
 Zc.2 ⟨x,hx,Zc.2 ⟨y,hy,Q6.2 ⟨z,hz,rfl⟩⟩⟩
theorem Qnf{l:List Pt}(hl:∀p∈l,Sc p.c):∀p∈HA l,Cp p:=λp hp=>by
 obtain⟨x,hx,hp⟩:=Zc.1 hp;obtain⟨y,hy,hp⟩:=Zc.1 hp;obtain⟨z,hz,rfl⟩:=Q6.1 hp;exact YH (hl x hx) (hl y hy) (hl z hz)
theorem EL{α:Type}(s:α->α->α->Bool)(c:α):∀st:List α,(Lt s c st).Sublist st
 | []=>List.Sublist.refl _
 | [_]=>List.Sublist.refl _
 |
  b::a::r=>by
  simp only[Lt]
  split
  ·exact List.Sublist.refl _
  ·exact(EL s c (a::r)).trans (List.sublist_cons_self _ _)
theorem KA{α:Type}{s:α->α->α->Bool}:∀{l acc:List α} {x:α},x∈Ma s acc l->x∈acc\/x∈l
 | [],acc,x,h=>.inl h
 |
  c::l,acc,x,h=>by
  rcases KA (l:=l) h with h|h
  ·rcases Qm.1 h with rfl|h
   ·exact .inr (by simp)
   ·exact .inl ((EL s c acc).subset h)
  ·exact .inr (Qg _ h)
theorem KE{α:Type}(s:α->α->α->Bool):∀(l acc:List α),(Ma s acc l).length<=acc.length+l.length
 | [],acc=>by simp[Ma]
 |
  c::l,acc=>by
  have h1:=KE s l (c::Lt s c acc);have h2:=(EL s c acc).length_le;simp only[Ma,Q3]at h1 ⊢;omega
theorem CM{sg:Uq->Int}{row:List Pt}{x:Pt}(h:x∈Pq sg row):x∈row:=by
 unfold Pq at h;rcases KA (Jn.1 h)with h|h
 ·cases h
 ·exact h
theorem QR(sg:Uq->Int)(row:List Pt):(Pq sg row).length<=row.length:=by
 have:=KE (FB sg) row [];unfold Pq;rw[List.length_reverse];simpa using this
theorem dS{sg:Uq->Int}{row:List Pt}{x:Pt}(h:x∈Ee sg row):x∈row:=by
 unfold Ee at h
 split at h
 ·exact h
 ·rcases Qq.1 h with h|h
  ·exact CM ((List.dropLast_sublist _).subset h)
  ·exact Jn.1 (CM ((List.dropLast_sublist _).subset h))
theorem dT(sg:Uq->Int)(row:List Pt):(Ee sg row).length<=2*row.length:=by
 unfold Ee
 split
 ·omega
 ·have h1:=QR sg row;have h2:=QR sg row.reverse;rw[Xt]at h2;rw[Qu,List.length_dropLast,List.length_dropLast];omega
theorem Ob{l:List Pt}{a:Tm}{x:Pt}(h:x∈Ph l a):x∈l:=My (Ht.1 (dS h))
theorem RR(l:List Pt)(a:Tm):(Ph l a).length<=2*l.length:=by
 have h1:=dT (Fx a) (Sy a (Rw l));rw[Cw]at h1;have:=A4 l;unfold Ph;omega
theorem SO{C:List Pt}{e:Pt×Pt}(h:e∈Rz C):e.1∈C/\e.2∈C:=by
 unfold Rz at h;have h1:=List.of_mem_zip (show(e.1,e.2)∈_ from h);refine⟨h1.1,?_⟩;rcases Qq.1 h1.2 with h|h
 ·exact Qz h
 ·exact Qo h
theorem bG{sg:Uq->Int}{l C:List Pt}{x:Ct}(h:x∈Bh sg l C):∃e∈Rz C,∃c∈l,VL e c=true/\x=Ll sg e.1 e.2 c:=by
 unfold Bh at h
 split at h
 ·cases h
 ·obtain⟨e,he,h⟩:=Zc.1 h;obtain⟨c,hc,rfl⟩:=Q6.1 h;obtain⟨h1,h2⟩:=Yj.1 hc;exact⟨e,he,c,h1,h2,rfl⟩
theorem jY{l:List Pt}{a:Tm}:∀x∈HB l a,x.p∈Ek l++HA l:=λx hx=>by
 rcases Qq.1 hx with hx|hx
 ·exact Z8 _ (eH x hx)
 ·obtain⟨e,he,c,hc,_,rfl⟩:=bG hx;obtain⟨h1,h2⟩:=SO he;exact Z4 _ (wC (Ob h1) (Ob h2) hc)
theorem MS{l:List Pt}(hl:∀p∈l,Sc p.c):∀p∈Ek l++HA l,Cp p:=λp hp=>by
 rcases Qq.1 hp with h|h
 ·exact QY hl p h
 ·exact Qnf hl p h
theorem WJ{α β:Type}(f:α->List β)(n:Nat):∀(m:List α),(∀x∈m,(f x).length≤n)->(m.flatMap f).length≤m.length*n
 | [],_=>by simp
 |
  x::m,h=>by
  have:=WJ f n m λy hy=>h y (Qg _ hy)
  have:=h x (by simp);rw[Jp,Qu,Q3,Xc];omega
theorem bF(sg:Uq->Int)(l C:List Pt):(Bh sg l C).length<=C.length*l.length:=by
 unfold Bh
 split
 ·simp
 ·refine Qa (WJ _ l.length _ λe _=>?_) (Q0 _ ?_)
  ·unfold Aj;rw[List.length_map];exact List.length_filter_le _ _
  ·unfold Rz;rw[List.length_zip];exact Nat.min_le_left _ _
theorem mZ{l:List Pt}(hl:∀p∈l,Sc p.c)(hn:l.length≤10):BuildOk (HB l) :=
 ⟨λ_ _ x hx=>MS hl _ (jY x hx),λa _=>by
  have h1:=bF (Fx a) l (Ph l a);have h2:=RR l a;have h3:(Ph l a).length*l.length<=20*10:=Q8 (by omega) hn;show(ZM l a++Bh (Fx a) l (Ph l a)).length<=1000;have h4:(ZM l a).length<=l.length:=by unfold ZM;rw[B5,Cw];omega
  rw[Qu];omega⟩
def Ig{α:Type}(l:List α):List (α×α):=l.zip (l.drop 1)
theorem yX{α:Type}{Q:α->α->Prop}:∀{l:List α},Edg Q l↔∀e∈Ig l,Q e.1 e.2
 | []=>by simp[Edg,Ig]
 | [_]=>by simp[Edg,Ig]
 |
  a::b::l=>by
  have ih:=yX (Q:=Q) (l:=b::l);have e:Ig (a::b::l)=(a,b)::Ig (b::l):=rfl;rw[e];constructor
  ·rintro⟨h1,h2⟩ x hx
   rcases Qm.1 hx with rfl|hx
   ·exact h1
   ·exact ih.1 h2 x hx
  ·intro h;exact⟨h (a,b) (by simp),ih.2 λx hx=>h x (Qg _ hx)⟩
theorem CO{α:Type}(f z:α)(A:List α):Ig (f::A++[z])=(f::A).zip (A++[z]):=by
 unfold Ig;rw[Xd,Wl,X4];have:f::(A++[z])=(f::A)++[z]:=rfl;rw[this];have h:A++[z]=(A++[z])++[]:=(Zv _).symm
 conv=>lhs;rw[h]
 rw[List.zip_append (by simp)];simp
theorem fC{f z:Pt}{A B:List Pt}:Rz ((f::A++[z]).dropLast++(z::B++[f]).dropLast)=Ig (f::A++[z])++Ig (z::B++[f]):=by
 rw[V1,V1,CO,CO,<-List.zip_append (by simp)];unfold Rz;congr 1;simp
theorem Edg.rev{α:Type}{Q:α->α->Prop}:∀{l:List α},Edg Q l->Edg (λa b=>Q b a) l.reverse:=by
 have app:∀{Q:α->α->Prop} {l:List α} {b a:α},Edg Q (l++[b])->Q b a->Edg Q (l++[b]++[a]):=by
  intro Q l
  induction l with
  |nil=>intro b a _ h;exact⟨h,trivial⟩
  |
   cons x l ih =>
   intro b a h h2;cases l with
   |nil=>exact⟨h.1,ih h.2 h2⟩
   |cons y l=>exact⟨h.1,ih h.2 h2⟩
 intro l
 induction l with
 |nil=>intro _;trivial
 |
  cons a l ih =>
  intro h;cases l with
  |nil=>trivial
  |
   cons b l =>
   have:=ih h.2;rw[Yp]at this ⊢;rw[Yp];exact app this h.1
theorem Cnv.rev{α:Type}{R:α->α->α->Prop}:∀{l:List α},Cnv R l->Cnv (λa b c=>R c b a) l.reverse:=by
 have app:∀{R:α->α->α->Prop} {l:List α} {c b a:α},Cnv R (l++[c,b])->R c b a->Cnv R (l++[c,b,a]):=by
  intro R l
  induction l with
  |nil=>intro c b a _ h;exact⟨h,trivial⟩
  |
   cons x l ih =>
   intro c b a h h2;cases l with
   |nil=>exact⟨h.1,ih h.2 h2⟩
   |
    cons y l =>
    cases l with
    |nil=>exact⟨h.1,ih h.2 h2⟩
    |cons w l=>exact⟨h.1,ih h.2 h2⟩
 intro l
 induction l with
 |nil=>intro _;trivial
 |
  cons a l ih =>
  intro h
  match l,h with
  | [],_=>trivial
  | [_],_=>trivial
  |
   b::c::l,h =>
   have:=ih h.2;rw[Yp,Yp,Ze]at this;rw[Yp,Yp,Yp,Ze,Ze];exact app this h.1
section
variable{α:Type}{lt lt':α->α->Bool}
theorem EE{out:List α}{x:α}(h:∀y∈out,lt x y=lt' x y):∀k,Eb lt out x k=Eb lt' out x k
 | 0=>rfl
 |
  k+1=>by
  simp only[Eb];cases hy:out[k]? with
  |none=>rfl
  |some y=>simp only[h y (Qc hy),EE h k]
theorem PZ{l:List α}(h:∀u∈l,∀v∈l,lt u v=lt' u v):∀(m out:List α),(∀x∈m,x∈l)->(∀x∈out,x∈l)->m.foldl (Lz lt) out=m.foldl (Lz lt') out
 | [],_,_,_=>rfl
 |
  x::m,out,h1,h2=>by
  have e:Lz lt out x=Lz lt' out x:=by
   unfold Lz;rw[EE λy hy=>h x (h1 x (by simp)) y (h2 y hy)]
  simp only[Z7];rw[e];exact PZ h m _ (λy hy=>h1 y (Qg _ hy)) λy hy=>by
   rcases FM.1 hy with rfl|hy
   ·exact h1 _ (by simp)
   ·exact h2 y hy
end
theorem dP{a:Tm}{l:List Pt}{q:Rat}(hb:∀u∈l,∀v∈l,(Tv (Fx a) u v=true↔C9 q u v))(hd:l.Pairwise λx y=>x.id≠y.id):(Sy a l).Pairwise (C9 q) :=
 LU (S:=λx=>x∈l) (D:=λx y=>x.id≠y.id) (YL q) (λu v hu hv h=>(hb u hu v hv).1 h) (λu v hu hv hne h=>rV (λe=>hne e.symm) λh'=>by
  rw[(hb u hu v hv).2 h']at h;cases h) l [] .nil (λx hx=>by cases hx) (λx hx=>hx) hd (λx hx=>by cases hx)
theorem Qwb{a:Tm}(ha:Va a){u v:Pt}(hu:Sc u.c)(hv:Sc v.c){q:Rat}(h1:Hl (Fx a) (Gd u.c v.c)=Fh (Fa (Gd u.c v.c) q))(h2:Hl (Fx a) (Gb u.c v.c)=Fh (Fa (Gb u.c v.c) q))(hne:u.c≠v.c)(h:C9 q u v):lx (px · q) (py · q) u v:=by
 rcases h with h|⟨h,h3⟩
 ·exact .inl h
 rcases h3 with h3|⟨h3,_⟩
 ·exact .inr ⟨h,h3⟩
 ·exfalso;rw[SJ hu hv]at h1;rw[SX hu hv]at h2;have z1:Fh (px v q-px u q)=0:=Gs.2 (by grind);have z2:Fh (py v q-py u q)=0:=Gs.2 (by grind);rw[z1]at h1;rw[z2]at h2;have e1:(Gd u.c v.c).length=0:=Decidable.byContradiction λe=>(Ep ha (Ml hu hv).dp e).2 h1
  have e2:(Gb u.c v.c).length=0:=Decidable.byContradiction λe=>(Ep ha (Mk hu hv).dp e).2 h2
  exact hne (Qqg hu.n hv.n (Qj e1) (Qj e2))
structure LowC(X Y:Pt->Rat)(R L:List Pt):Prop where
 hd:L.head? = R.head?
 la:L.getLast? = R.getLast?
 srt:L.Pairwise (lx X Y)
 mem:∀p∈L,p∈R
 edg:Edg (λa b=>∀p∈R,0≤Bl X Y a b p) L
 cnv:Cnv (λa b c=>0<Bl X Y a b c) L
theorem OH{X Y:Pt->Rat}{sg:Uq->Int}{R:List Pt}(hs:∀a∈R,∀b∈R,∀c∈R,(FB sg a b c=true↔0<Bl X Y a b c))(hR:R.Pairwise (lx X Y))(h0:R≠[]):LowC X Y R (Pq sg R):=by
 cases R with
 |nil=>exact absurd rfl h0
 |
  cons f R =>
  obtain⟨t,st,g1,g2,g3,g4⟩:=OR hs hR R [f] f [] rfl ⟨Kn _ _,λp hp=>by rw[Ql.1 hp];simp,trivial,trivial⟩ rfl rfl;have e:Pq sg (f::R)=(t::st).reverse:=by
   unfold Pq;rw[<-g1];rfl
  rw[e];exact⟨by rw[List.head?_reverse,g4],by rw[List.getLast?_reverse];exact g3.symm,K6.2 g2.srt,λp hp=>g2.mem p (Jn.1 hp),g2.edg.rev,g2.cnv.rev⟩
theorem Qw1{X Y:Pt->Rat}{R:List Pt}(hR:R.Pairwise (lx X Y)):∀p∈R,∀q∈R,p=q\/lx X Y p q\/lx X Y q p:=λp hp q hq=>by
 by_cases e:p=q
 ·exact .inl e
 ·exact .inr (zL hR hp hq e)
theorem Qjt{X Y:Pt->Rat}{R L L':List Pt}(hR:R.Pairwise (lx X Y))(h:LowC X Y R L)(h':LowC X Y R L'):L=L':=by
 have hh:=h.hd.trans h'.hd.symm;have hl:=h.la.trans h'.la.symm;cases L with
 |
  nil=>cases L' with
  |nil=>rfl
  |cons _ _=>simp at hh
 |
  cons f M=>cases L' with
  |nil=>simp at hh
  |
   cons f' M' =>
   simp at hh;subst hh;obtain⟨z,hz⟩:∃z,(f::M).getLast? = some z:=⟨_,Ys (by simp)⟩;rw[Qhn (Qw1 hR) M M' f h.srt h'.srt h.mem h'.mem h.edg h'.edg h.cnv h'.cnv hz (hl ▸ hz)]
theorem sN{x y:Rat}(h:Fh x=Fh y):(0<=x->0<=y)/\(0<x->0<y):=by
 have h1:=Ge x;have h2:=Ge y;grind
theorem uD{X Y X' Y':Pt->Rat}{R:List Pt}:∀{L:List Pt},(∀p∈L,p∈R)->(∀e∈Ig L,∀p∈R,Fh (Bl X Y e.1 e.2 p)=Fh (Bl X' Y' e.1 e.2 p))->Cnv (λa b c=>0<Bl X Y a b c) L->Cnv (λa b c=>0<Bl X' Y' a b c) L
 | [],_,_,_=>trivial
 | [_],_,_,_=>trivial
 | [_,_],_,_,_=>trivial
 |a::b::c::l,hm,he,h=>⟨(sN (he (a,b) (by simp[Ig]) c (hm c (by simp)))).2 h.1,uD (λp hp=>hm p (Qg _ hp)) (λe hx=>he e (Qg _ hx)) h.2⟩
theorem rK{X Y X' Y':Pt->Rat}{R L:List Pt}(h:LowC X Y R L)(hl:∀u∈R,∀v∈R,lx X Y u v->lx X' Y' u v)(he:∀e∈Ig L,∀p∈R,Fh (Bl X Y e.1 e.2 p)=Fh (Bl X' Y' e.1 e.2 p)):LowC X' Y' R L :=
 ⟨h.hd,h.la,h.srt.imp_of_mem λhu hv h'=>hl _ (h.mem _ hu) _ (h.mem _ hv) h',h.mem,yX.2 λe hx p hp=>(sN (he e hx p hp)).1 (yX.1 h.edg e hx p hp),uD h.mem he h.cnv⟩
theorem vH(X Y:Pt->Rat)(a b c:Pt):Bl (λp=>-X p) (λp=>-Y p) a b c=Bl X Y a b c:=by unfold Bl;grind
theorem yO{X Y:Pt->Rat}{a b:Pt}:lx (λp=>-X p) (λp=>-Y p) a b↔lx X Y b a:=by unfold lx;grind
theorem Qtn{L:List Pt}{f z:Pt}(h1:L.head? = some f)(h2:L.getLast? = some z)(hne:f≠z):∃A,L=f::A++[z]:=by
 cases L with
 |nil=>cases h1
 |
  cons g M =>
  simp at h1;subst h1;cases M with
  |nil=>simp at h2;exact absurd h2 hne
  |
   cons x M =>
   rw[J1]at h2;obtain⟨A,hA⟩:=Y8.1 h2;exact⟨A,by rw[hA];rfl⟩
theorem LY{α β:Type}{f g:α->List β}:∀{m:List α},(∀x∈m,f x=g x)->m.flatMap f=m.flatMap g
 | [],_=>rfl
 |x::m,h=>by rw[Jp,Jp,h x (by simp),LY λy hy=>h y (Qg _ hy)]
theorem gC{sa sb:Uq->Int}{l C:List Pt}(h:∀x∈Bh sa l C,Hl sb x.p=Hl sa x.p):Bh sb l C=Bh sa l C:=by
 by_cases h2:C.length<2
 ·unfold Bh;rw[if_pos h2,if_pos h2]
 ·have e:∀s,Bh s l C=(Rz C).flatMap (Aj s l):=λs=>if_neg h2
  rw[e]at h ⊢;rw[e];refine LY λx hx=>Xu λc hc=>?_
  have:=h (Ll sa x.1 x.2 c) (Zc.2 ⟨x,hx,Wm hc⟩);show(⟨3,x.1.id,x.2.id,c.id,0,G7 x.1.c x.2.c c.c,Hl sb (G7 x.1.c x.2.c c.c)⟩:Ct)=⟨3,x.1.id,x.2.id,c.id,0,G7 x.1.c x.2.c c.c,Hl sa (G7 x.1.c x.2.c c.c)⟩;have this:Hl sb (G7 x.1.c x.2.c c.c)=Hl sa (G7 x.1.c x.2.c c.c):=this;rw[this]
theorem Qa6{l:List Pt}(hd:l.Pairwise λx y=>x.id≠y.id){u v:Pt}(hu:u∈l)(hv:v∈l)(h:u.id=v.id):u=v:=by
 refine Classical.byContradiction λe=>?_
 rcases zL hd hu hv e with h'|h'
 ·exact h' h
 ·exact h' h.symm
structure Soon(l:List Pt)(a:Tm)(q:Rat):Prop where
 g:∀p∈Ek l++HA l,Hl (Fx a) p=Fh (Fa p q)
 b:∀u∈l,∀v∈l,(Tv (Fx a) u v=true↔C9 q u v)
 o:∀u∈l,∀v∈l,∀w∈l,Hl (Fx a) (G7 u.c v.c w.c)=Fh (Bl (px · q) (py · q) u v w)
 t:∀u∈l,∀v∈l,∀w∈l,(FB (Fx a) u v w=true↔0<Bl (px · q) (py · q) u v w)
 r:(Sy a (Rw l)).Pairwise (lx (px · q) (py · q))
theorem Qlz{l:List Pt}(hl:∀p∈l,Sc p.c)(hd:l.Pairwise λx y=>x.id≠y.id){a:Tm}(ha:Va a):∃y,Fq a y=-1/\∀q,Fq a q=-1->q≤y->Soon l a q:=by
 obtain⟨y,y1,y2⟩:=XR ha (Ek l++HA l) λp hp=>(MS hl p hp).dp
 refine⟨y,y1,λq q1 q2=>?_⟩;have g:=y2 q q1 q2;have gP:=λp hp=>g p (Z8 _ hp)
 have b:∀u∈l,∀v∈l,(Tv (Fx a) u v=true↔C9 q u v):=λu hu v hv=>BN ha (hl u hu) (hl v hv) (gP _ (Sl hu hv).1) (gP _ (Sl hu hv).2)
 have o:∀u∈l,∀v∈l,∀w∈l,Hl (Fx a) (G7 u.c v.c w.c)=Fh (Bl (px · q) (py · q) u v w):=λu hu v hv w hw=>by
  rw[g _ (Z4 _ (wC hu hv hw)),dL (hl u hu) (hl v hv) (hl w hw)]
 refine⟨g,b,o,λu hu v hv w hw=>?_,?_⟩
 ·unfold FB;rw[o u hu v hv w hw,decide_eq_true_eq];have:=Ge (Bl (px · q) (py · q) u v w);grind
 ·have hw:∀u∈Rw l,u∈l:=λu hu=>My hu
  have h1:=dP (a:=a) (l:=Rw l) (q:=q) (λu hu v hv=>b u (hw u hu) v (hw v hv)) (List.Pairwise.sublist (Qmi l) hd);have h2:(Sy a (Rw l)).Pairwise λx y=>x.c≠y.c:=(List.Perm.pairwise_iff (λ{x y} h e=>h e.symm) (lZ (lt:=Tv (Fx a)) (Rw l))).2 (Qrx l)
  refine(h1.and h2).imp_of_mem λ{u v} hu hv h=>?_
  have hu:=hw u (Ht.1 hu);have hv:=hw v (Ht.1 hv);exact Qwb ha (hl u hu) (hl v hv) (gP _ (Sl hu hv).1) (gP _ (Sl hu hv).2) h.2 h.1
theorem Qa8{l:List Pt}(hl:∀p∈l,Sc p.c)(hd:l.Pairwise λx y=>x.id≠y.id){a:Tm}(ha:Va a):∃q,Soon l a q :=
 let⟨y,h1,h2⟩:=Qlz hl hd ha
 ⟨y,h2 y h1 Qp⟩
theorem DZ{l:List Pt}{a:Tm}{q:Rat}(S:Soon l a q)(h3:3<=(Sy a (Rw l)).length):∃f z A B,Pq (Fx a) (Sy a (Rw l))=f::A++[z]/\Pq (Fx a) (Sy a (Rw l)).reverse=z::B++[f]/\LowC (px · q) (py · q) (Sy a (Rw l)) (f::A++[z])/\LowC (λp=>-px p q) (λp=>-py p q) (Sy a (Rw l)).reverse (z::B++[f])/\Rz (Ph l a)=Ig (f::A++[z])++Ig (z::B++[f])/\2<=(Ph l a).length:=by
 obtain⟨R,hR⟩:=nmE (Sy a (Rw l));have hm:∀x∈R,x∈l:=λx hx=>by rw[hR]at hx;exact My (Ht.1 hx)
 have r:=S.r;rw[<-hR]at r h3 ⊢;have h0:R≠[]:=λe=>by rw[e]at h3;simp at h3
 have c1:=OH (sg:=Fx a) (λu hu v hv w hw=>S.t u (hm u hu) v (hm v hv) w (hm w hw)) r h0;have r2:R.reverse.Pairwise (lx (λp=>-px p q) (λp=>-py p q)):=K6.2 (r.imp λh=>yO.2 h);have c2:=OH (sg:=Fx a) (R:=R.reverse) (X:=λp=>-px p q) (Y:=λp=>-py p q) (λu hu v hv w hw=>by
  rw[vH (px · q) (py · q)];exact S.t u (hm u (Jn.1 hu)) v (hm v (Jn.1 hv)) w (hm w (Jn.1 hw))) r2 (by simpa using h0)
 obtain⟨f,hf⟩:∃f,R.head? = some f:=by cases R with
  |nil=>exact absurd rfl h0
  |cons f _=>exact⟨f,rfl⟩
 obtain⟨z,hz⟩:∃z,R.getLast? = some z:=⟨_,Ys h0⟩;have hne:f≠z:=λe=>by
  subst e;cases R with
  |nil=>exact absurd rfl h0
  |
   cons g M =>
   simp at hf;subst hf;cases M with
   |nil=>simp at h3
   |
    cons x M =>
    rw[J1]at hz;exact L6 _ ((Zh.1 r).1 g (V3 hz))
 obtain⟨A,hA⟩:=Qtn (c1.hd.trans hf) (c1.la.trans hz) hne;obtain⟨B,hB⟩:=Qtn (c2.hd.trans (by rw[List.head?_reverse];exact hz)) (c2.la.trans (by rw[List.getLast?_reverse];exact hf)) (Ne.symm hne);have hc:Ph l a=(f::A++[z]).dropLast++(z::B++[f]).dropLast:=by
  unfold Ph Ee;rw[<-hR,if_neg (by omega),hA,hB]
 rw[hA]at c1;rw[hB]at c2;refine⟨f,z,A,B,hA,hB,c1,c2,by rw[hc];exact fC,?_⟩;rw[hc,V1,V1];simp;omega
theorem Qdf{l:List Pt}(hl:∀p∈l,Sc p.c)(hd:l.Pairwise λx y=>x.id≠y.id){a b:Tm}(ha:Va a)(hb:Va b)(h:∀x∈HB l a,Hl (Fx b) x.p=Hl (Fx a) x.p):Ph l b=Ph l a/\HB l b=HB l a:=by
 obtain⟨q,Sa⟩:=Qa8 hl hd ha;obtain⟨r,Sb⟩:=Qa8 hl hd hb;obtain⟨k1,k2⟩:=sR hl hd ha hb λx hx=>h x (Z8 _ hx)
 have pa:=dP Sa.b hd;have pb:=dP Sb.b hd;rw[k1]at pb;have pab:=pa.and pb;have lexs:∀u∈l,∀v∈l,(C9 q u v↔C9 r u v):=λu hu v hv=>by
  by_cases e:u=v
  ·subst e;exact⟨λh=>absurd h (XE _ _),λh=>absurd h (XE _ _)⟩
  ·rcases zL pab (Ht.2 hu) (Ht.2 hv) e with h'|h'
   ·exact⟨λ_=>h'.2,λ_=>h'.1⟩
   ·exact⟨λh=>absurd (YL _ _ _ _ h h'.1) (XE _ _),λh=>absurd (YL _ _ _ _ h h'.2) (XE _ _)⟩
 have bef:∀u∈l,∀v∈l,Tv (Fx b) u v=Tv (Fx a) u v:=λu hu v hv=>by
  have h1:=Sa.b u hu v hv;have h2:=Sb.b u hu v hv;have h3:=lexs u hu v hv;cases e1:Tv (Fx a) u v <;> cases e2:Tv (Fx b) u v <;> rw[e1]at h1 <;> rw[e2]at h2 <;> simp_all
 have eR:Sy b (Rw l)=Sy a (Rw l):=PZ (l:=Rw l) (λu hu v hv=>bef u (My hu) v (My hv)) (Rw l) [] (λx hx=>hx) λx hx=>by cases hx
 have hm:∀x∈Sy a (Rw l),x∈l:=λx hx=>My (Ht.1 hx)
 have rb:=Sb.r;rw[eR]at rb;have hc:Ph l b=Ph l a:=by
  by_cases h3:(Sy a (Rw l)).length<3
  ·unfold Ph Ee;rw[eR,if_pos h3,if_pos h3]
  ·obtain⟨f,z,A,B,hA,hB,c1,c2,hE,hC2⟩:=DZ Sa (by omega);obtain⟨f',z',A',B',hA',hB',c1',c2',hE',_⟩:=DZ Sb (by rw[eR];omega);rw[eR]at hA' hB' c1' c2';have sgs:∀e∈Rz (Ph l a),∀p∈Sy a (Rw l),Fh (Bl (px · q) (py · q) e.1 e.2 p)=Fh (Bl (px · r) (py · r) e.1 e.2 p):=λe he p hp=>by
    obtain⟨m1,m2⟩:=SO he;have m1:=Ob m1;have m2:=Ob m2;have m3:=hm p hp;by_cases ho:VL e p=true
    ·have hx:Ll (Fx a) e.1 e.2 p∈HB l a:=by
      refine Z4 _ ?_;unfold Bh;rw[if_neg (by omega)];exact Zc.2 ⟨e,he,Wm (Yj.2 ⟨m3,ho⟩)⟩
     have hg:Hl (Fx b) (G7 e.1.c e.2.c p.c)=Hl (Fx a) (G7 e.1.c e.2.c p.c):=h _ hx;rw[<-Sa.o _ m1 _ m2 _ m3,<-Sb.o _ m1 _ m2 _ m3,hg]
    ·have hz:∀X Y:Pt->Rat,Bl X Y e.1 e.2 p=0:=λX Y=>by
      by_cases e1:p.id=e.1.id
      ·rw[Qa6 hd m3 m1 e1];exact(GK _ _).1
      ·by_cases e2:p.id=e.2.id
       ·rw[Qa6 hd m3 m2 e2];exact(GK _ _).2
       ·exact absurd (by simp[VL,e1,e2]) ho
     rw[hz,hz]
   have hlx:∀u∈Sy a (Rw l),∀v∈Sy a (Rw l),lx (px · q) (py · q) u v->lx (px · r) (py · r) u v:=λu hu v hv huv=>by
    have ra:=Sa.r;by_cases e:u=v
    ·subst e;exact absurd huv (L6 _)
    ·rcases zL (ra.and rb) hu hv e with h'|h'
     ·exact h'.2
     ·exact absurd (rF huv h'.1) (L6 _)
   have e1:=Qjt rb (rK c1 hlx λe he=>sgs e (by rw[hE];exact Z8 _ he)) c1';have rb2:(Sy a (Rw l)).reverse.Pairwise (lx (λp=>-px p r) (λp=>-py p r)):=K6.2 (rb.imp λh=>yO.2 h);have e2:=Qjt rb2 (rK c2 (λu hu v hv huv=>yO.2 (hlx v (Jn.1 hv) u (Jn.1 hu) (yO.1 huv))) λe he p hp=>by
    rw[vH (px · q) (py · q),vH (px · r) (py · r)];exact sgs e (by rw[hE];exact Z4 _ he) p (Jn.1 hp)) c2'
   unfold Ph Ee;rw[eR,if_neg h3,if_neg h3,hA,hB,hA',hB',e1,e2]
 refine⟨hc,?_⟩;unfold HB;rw[hc,k2,gC λx hx=>h x (Z4 _ hx)]
theorem Q0a{l:List Pt}(hl:∀p∈l,Sc p.c)(hn:l.length≤10)(hd:l.Pairwise λx y=>x.id≠y.id):Stab (HB l) (brH l):=by
 refine⟨mZ hl hn,⟨Ek l++HA l,MS hl,λa _ x hx=>jY x hx⟩,λa b ha hb h=>?_⟩;obtain⟨e1,e2⟩:=Qdf hl hd ha hb h;exact⟨e2,by show U4 _=U4 _;rw[e1]⟩
end Orq
namespace Orq
open Orr Go
theorem WZ{a b c d:Crv}(ha:Sc a)(hb:Sc b)(hc:Sc c)(hd:Sc d):Cp (Hh a b c d):=by
 have lr:∀{a b:Crv},Sc a->Sc b->(Gd a b).length<=3/\(Gb a b).length<=3:=λ{a b} ha hb=>by
  have:=Pm (Fv b.x a.d) (Fv a.x b.d);have:=Fp b.x a.d;have:=Fp a.x b.d;have:=Pm (Fv b.y a.d) (Fv a.y b.d);have:=Fp b.y a.d;have:=Fp a.y b.d;have:=ha.c.lx;have:=hb.c.lx;have:=ha.c.ly;have:=hb.c.ly;unfold Gd Gb;omega
 have ap:∀{a b:Crv},Sc a->Sc b->(Rq a b).length<=5/\Bd 517 (Rq a b):=λ{a b} ha hb=>by
  obtain⟨l1,l2⟩:=lr ha hb;have b1:Bd 257 (Gd a b):=Dw (Gj hb.c.x ha.c.d) (Gj ha.c.x hb.c.d);have b2:Bd 257 (Gb a b):=Dw (Gj hb.c.y ha.c.d) (Gj ha.c.y hb.c.d);have q1:=Pp (u:=2) b1 b1 (by omega);have q2:=Pp (u:=2) b2 b2 (by omega);refine⟨?_,U7 (YY q1 q2) (by omega)⟩;have:=Lj (Gl (Gd a b) (Gd a b)) (Gl (Gb a b) (Gb a b));have:=H9 (Gd a b) (Gd a b);have:=H9 (Gb a b) (Gb a b);unfold Rq;omega
 have dd:∀{a b:Crv},Sc a->Sc b->Fg ((a.d*b.d)*(a.d*b.d))<=512:=λ{a b} ha hb=>by
  have:=Gf a.d b.d;have:=Gf (a.d*b.d) (a.d*b.d);have:=ha.c.d;have:=hb.c.d;omega
 obtain⟨l1,b1⟩:=ap hc hd;obtain⟨l2,b2⟩:=ap ha hb;refine⟨Fy _ _,?_,U7 (Dw (Gj b1 (dd ha hb)) (Gj b2 (dd hc hd))) (by omega)⟩;have:=Pm (Fv (Rq c d) ((a.d*b.d)*(a.d*b.d))) (Fv (Rq a b) ((c.d*d.d)*(c.d*d.d)));have:=Fp (Rq c d) ((a.d*b.d)*(a.d*b.d));have:=Fp (Rq a b) ((c.d*d.d)*(c.d*d.d));unfold Hh;omega
def pN(m:Pt×Pt)(q:Rat):Rat:=(px m.2 q-px m.1 q)*(px m.2 q-px m.1 q)+(py m.2 q-py m.1 q)*(py m.2 q-py m.1 q)
theorem Qpn{a b c d:Pt}(ha:Sc a.c)(hb:Sc b.c)(hc:Sc c.c)(hd:Sc d.c)(q:Rat):Fh (Fa (Hh a.c b.c c.c d.c) q)=Fh (pN (c,d) q-pN (a,b) q):=by
 have Tc:∀{z:Int},0<z->(0:Rat)<(z:Rat):=λ{z} h=>by exact_mod_cast h
 have pa:=Tc ha.n.2.2.1;have pb:=Tc hb.n.2.2.1;have pc:=Tc hc.n.2.2.1;have pd:=Tc hd.n.2.2.1;have xx:∀{p:Pt},0<(p.c.d:Rat)->Fa p.c.x q=px p q*(p.c.d:Rat)/\Fa p.c.y q=py p q*(p.c.d:Rat):=λ{p} h=>by
  unfold px py;exact⟨(Zl (by grind)).symm,(Zl (by grind)).symm⟩
 obtain⟨xa,ya⟩:=xx pa;obtain⟨xb,yb⟩:=xx pb;obtain⟨xc,yc⟩:=xx pc;obtain⟨xd,yd⟩:=xx pd;have e:Fa (Hh a.c b.c c.c d.c) q=(((a.c.d:Rat)*b.c.d)*((a.c.d:Rat)*b.c.d))*(((c.c.d:Rat)*d.c.d)*((c.c.d:Rat)*d.c.d))*(pN (c,d) q-pN (a,b) q):=by
  unfold Hh Rq Gd Gb pN;simp only[Ss,Rr,EM,Gq,X6];rw[xa,xb,xc,xd,ya,yb,yc,yd];grind
 rw[e,Cy];have h1:=Xv pa pb;have h2:=Xv pc pd;exact Xv (Xv h1 h1) (Xv h2 h2)
def MX(l:List Pt):Ur:=l.flatMap λa=>l.flatMap λb=>l.flatMap λc=>l.map λd=>Hh a.c b.c c.c d.c
theorem BU{l:List Pt}{a b c d:Pt}(ha:a∈l)(hb:b∈l)(hc:c∈l)(hd:d∈l):Hh a.c b.c c.c d.c∈MX l :=
 Zc.2 ⟨a,ha,Zc.2 ⟨b,hb,Zc.2 ⟨c,hc,Q6.2 ⟨d,hd,rfl⟩⟩⟩⟩
theorem UF{l:List Pt}(hl:∀p∈l,Sc p.c):∀p∈MX l,Cp p:=λp hp=>by
 obtain⟨a,ha,hp⟩:=Zc.1 hp;obtain⟨b,hb,hp⟩:=Zc.1 hp;obtain⟨c,hc,hp⟩:=Zc.1 hp;obtain⟨d,hd,rfl⟩:=Q6.1 hp;exact WZ (hl a ha) (hl b hb) (hl c hc) (hl d hd)
theorem iT{l:List Pt}(hl:∀p∈l,Sc p.c){a:Tm}(ha:Va a):∃y,Fq a y=-1/\∀q,Fq a q=-1->q≤y->∀s m:Pt×Pt,s.1∈l->s.2∈l->m.1∈l->m.2∈l->Hl (Fx a) (Hh s.1.c s.2.c m.1.c m.2.c)=Fh (pN m q-pN s q):=by
 obtain⟨y,y1,y2⟩:=XR ha (MX l) λp hp=>(UF hl p hp).dp
 refine⟨y,y1,λq q1 q2 s m h1 h2 h3 h4=>?_⟩;rw[y2 q q1 q2 _ (BU h1 h2 h3 h4),Qpn (hl _ h1) (hl _ h2) (hl _ h3) (hl _ h4)]
def D9(f:Pt×Pt->Rat)(P:List (Pt×Pt))(r:Pt×Pt):Prop:=∃P1 P2,P=P1++r::P2/\(∀m∈P1,f r<f m)/\∀m∈P2,f r≤f m
theorem qW{f:Pt×Pt->Rat}:∀{P:List (Pt×Pt)} {r r':Pt×Pt},D9 f P r->D9 f P r'->r=r'
 | [],r,r',⟨P1,P2,h,_⟩,_=>by simp at h
 |
  x::P,r,r',⟨P1,P2,h,h1,h2⟩,⟨Q1,Q2,h',h1',h2'⟩=>by
  cases P1 with
  |
   nil =>
   simp at h;cases Q1 with
   |nil=>simp at h';exact h.1.symm.trans h'.1
   |
    cons y Q1 =>
    simp at h';exfalso;obtain⟨rfl,rfl⟩:=h;obtain⟨rfl,rfl⟩:=h';have a1:=h1' x (by simp);have a2:=h2 r' (by simp);grind
  |
   cons y P1 =>
   simp at h;cases Q1 with
   |
    nil =>
    simp at h';exfalso;obtain⟨rfl,rfl⟩:=h;obtain⟨rfl,rfl⟩:=h';have a1:=h1 x (by simp);have a2:=h2' r (by simp);grind
   |
    cons z Q1 =>
    simp at h h';exact qW (P:=P) ⟨P1,P2,h.2,λm hm=>h1 m (by simp[hm]),h2⟩ ⟨Q1,Q2,h'.2,λm hm=>h1' m (by simp[hm]),h2'⟩
theorem Qpo{f:Pt×Pt->Rat}{P:List (Pt×Pt)}{r m:Pt×Pt}(h:D9 f P r):D9 f (P++[m]) (if f m<f r then m else r):=by
 obtain⟨P1,P2,rfl,h1,h2⟩:=h;by_cases e:f m<f r
 ·rw[if_pos e];refine⟨P1++r::P2,[],rfl,λx hx=>?_,λx hx=>by cases hx⟩;rcases Qq.1 hx with hx|hx
  ·have:=h1 x hx;grind
  ·rcases Qm.1 hx with rfl|hx
   ·exact e
   ·have:=h2 x hx;grind
 ·rw[if_neg e];refine⟨P1,P2++[m],by simp,h1,λx hx=>?_⟩;rcases Qq.1 hx with hx|hx
  ·exact h2 x hx
  ·rw[Ql.1 hx];grind
theorem iM{f:Pt×Pt->Rat}{sg:Uq->Int}{l:List Pt}(hg:∀s m:Pt×Pt,s.1∈l->s.2∈l->m.1∈l->m.2∈l->Hl sg (Hh s.1.c s.2.c m.1.c m.2.c)=Fh (f m-f s)):∀(ps P:List (Pt×Pt)) (s:Pt×Pt),s.1∈l/\s.2∈l->(∀m∈ps,m.1∈l/\m.2∈l)->D9 f P s->D9 f (P++ps) (Hq sg s ps)
 | [],P,s,_,_,h=>by rw[Zv];exact h
 |
  m::ps,P,s,hs,hp,h=>by
  rw[ZX];have hm:=hp m (by simp);have e:Mb sg s m=if f m<f s then m else s:=by
   unfold Mb;rw[hg s m hs.1 hs.2 hm.1 hm.2];have:=Ge (f m-f s);by_cases h:f m<f s
   ·rw[if_pos h,if_pos (by grind)]
   ·rw[if_neg h,if_neg (by grind)]
  have hn:(Mb sg s m).1∈l/\(Mb sg s m).2∈l:=by
   rcases TP sg s m with e|e <;> rw[e] <;> assumption
  have:=iM hg ps (P++[m]) (Mb sg s m) hn (λx hx=>hp x (Qg _ hx)) (by rw[e];exact Qpo h);rwa[Ze]at this
theorem cN(a b:Pt)(l:List Pt):∃P,Gh (a::b::l)=(a,b)::P:=⟨_,rfl⟩
theorem Qab{f:Pt×Pt->Rat}{sg:Uq->Int}{a b:Pt}{l:List Pt}(hg:∀s m:Pt×Pt,s.1∈a::b::l->s.2∈a::b::l->m.1∈a::b::l->m.2∈a::b::l->Hl sg (Hh s.1.c s.2.c m.1.c m.2.c)=Fh (f m-f s)):D9 f (Gh (a::b::l)) (Hq sg (a,b) (Gh (a::b::l))):=by
 obtain⟨P,hP⟩:=cN a b l;have hm:=Ty (a::b::l).length (a::b::l);have hm:∀m∈Gh (a::b::l),m.1∈a::b::l/\m.2∈a::b::l:=hm;rw[hP]at hm ⊢;have h:=iM hg P [(a,b)] (a,b) (hm (a,b) (by simp)) (λm h=>hm m (by simp[h])) ⟨[],[],rfl,λm h=>(by cases h),λm h=>(by cases h)⟩;rw[ZX];have e:Mb sg (a,b) (a,b)=(a,b):=by rcases TP sg (a,b) (a,b)with e|e <;> exact e
 rw[e];exact h
theorem Qa7{l:List Pt}(hd:l.Pairwise λx y=>x.id≠y.id){u v:Pt}(hu:u∈l)(hv:v∈l)(h:u.id=v.id):u=v:=by
 by_cases e:u=v
 ·exact e
 ·rcases zL hd hu hv e with h'|h'
  ·exact absurd h h'
  ·exact absurd h.symm h'
theorem Qd0{l:List Pt}(hl:∀p∈l,Sc p.c)(hd:l.Pairwise λx y=>x.id≠y.id){a b:Tm}(ha:Va a)(hb:Va b)(h:∀x∈Lp (Fx a) l,Hl (Fx b) x.p=Hl (Fx a) x.p):JK (Fx b) l=JK (Fx a) l/\Lp (Fx b) l=Lp (Fx a) l:=by
 match l,hl,hd,h with
 | [],_,_,_=>exact⟨rfl,rfl⟩
 | [x],_,_,_=>exact⟨rfl,rfl⟩
 |
  u::v::l',hl,hd,h =>
  obtain⟨y,y1,y2⟩:=iT hl ha;obtain⟨z,z1,z2⟩:=iT hl hb;have ga:=y2 y y1 Qp;have gb:=z2 z z1 Qp;have fa:=Qab (f:=λm=>pN m y) ga;have fb:=Qab (f:=λm=>pN m z) gb;simp only[JK,Lp]at h ⊢;have hm:∀m∈Gh (u::v::l'),m.1∈u::v::l'/\m.2∈u::v::l':=Ty _ _;generalize u::v::l'=l at *;obtain⟨r,hr⟩:=nmE (Hq (Fx a) (u,v) (Gh l));rw[<-hr]at fa h ⊢;obtain⟨P1,P2,hP,h1,h2⟩:=fa;have hrm:r∈Gh l:=by rw[hP];simp
  have hrl:=hm r hrm;have key:∀m∈Gh l,m=r\/Hl (Fx b) (Hh r.1.c r.2.c m.1.c m.2.c)=Hl (Fx a) (Hh r.1.c r.2.c m.1.c m.2.c):=λm hmm=>by
   have hml:=hm m hmm;by_cases e:ZT r m=true
   ·right;have h0:=h (Bi (Fx a) r.1 r.2 m.1 m.2) (by unfold Nb;exact List.mem_map.2 ⟨m,List.mem_filter.2 ⟨hmm,e⟩,rfl⟩);rw[EV]at h0;exact h0
   ·left;unfold ZT at e;simp at e;have e1:=Qa7 hd hml.1 hrl.1 e.1;have e2:=Qa7 hd hml.2 hrl.2 e.2;exact Prod.ext e1 e2
  have fb':D9 (λm=>pN m z) (Gh l) r:=by
   refine⟨P1,P2,hP,λm hmm=>?_,λm hmm=>?_⟩
   ·have hmp:m∈Gh l:=by rw[hP];simp[hmm]
    have hlt:=h1 m hmm;have hml:=hm m hmp;rcases key m hmp with e|e
    ·exfalso;rw[e]at hlt;dsimp only at hlt;grind
    ·rw[ga r m hrl.1 hrl.2 hml.1 hml.2,gb r m hrl.1 hrl.2 hml.1 hml.2]at e;dsimp only at hlt ⊢;rw[Hw.2 (by grind:0<pN m y-pN r y)]at e;have:=Hw.1 e;grind
   ·have hmp:m∈Gh l:=by rw[hP];simp[hmm]
    have hlt:=h2 m hmm;have hml:=hm m hmp;rcases key m hmp with e|e
    ·rw[e];exact Qp
    ·rw[ga r m hrl.1 hrl.2 hml.1 hml.2,gb r m hrl.1 hrl.2 hml.1 hml.2]at e;dsimp only at hlt ⊢;have t1:=Ge (pN m y-pN r y);have t2:=Ge (pN m z-pN r z);grind
  have er:=qW fb fb';rw[er];refine⟨rfl,?_⟩;unfold Nb;refine Xu λm hmm=>?_
  have hmp:=(Yj.1 hmm).1;rcases key m hmp with e|e
  ·exfalso;have:=(Yj.1 hmm).2;rw[e]at this;unfold ZT at this;simp at this
  ·unfold Bi;rw[e]
theorem Q0b{l:List Pt}(hl:∀p∈l,Sc p.c)(hn:l.length≤10)(hd:l.Pairwise λx y=>x.id≠y.id):Stab (λa=>Lp (Fx a) l) (λa=>U4 (JK (Fx a) l)):=by
 have hcp:∀a,∀x∈Lp (Fx a) l,x.p∈MX l:=λa x hx=>by
  match l,hx with
  |
   u::v::l',hx =>
   simp only[Lp]at hx;obtain⟨h3,h4⟩:=Ln (Fx a) (l:=u::v::l') (Gh (u::v::l')) (u,v) ⟨by simp,by simp⟩ (Ty _ _);obtain⟨m,hm,rfl⟩:=ON hx;obtain⟨h1,h2⟩:=Ty _ _ m hm;rw[EV];exact BU h3 h4 h1 h2
 refine⟨⟨λa _ x hx=>UF hl _ (hcp a x hx),λa _=>?_⟩,⟨MX l,UF hl,λa _=>hcp a⟩,λa b ha hb h=>?_⟩
 ·have:=zG (Fx a) l;have:l.length*l.length<=10*10:=Q8 hn hn;show(Lp (Fx a) l).length<=1000;omega
 ·obtain⟨h1,h2⟩:=Qd0 hl hd ha hb h;exact⟨h2,by show U4 _=U4 _;rw[h1]⟩
end Orq
namespace Orr
open Go Go.Proofs Tryz Orq
set_option maxRecDepth 10000
def JX:Nat->Uv->Uv
 |_,[]=>[]
 | 0,x::l=>GQ x::l
 |k+1,x::l=>x::JX k l
theorem zV:∀(k:Nat) (l:Uv),(JX k l).length=l.length
 |_,[]=>by cases ‹Nat› <;> rfl
 | 0,x::l=>rfl
 |k+1,x::l=>by simp only[JX,Q3,zV k l]
theorem zY:∀(k:Nat) (l:Uv) {j:Nat} {y:LV},(JX k l)[j]? = some y->∃x,l[j]? = some x/\(y=x\/y=GQ x)
 | 0,[],_,_,h=>by simp[JX]at h
 |_+1,[],_,_,h=>by simp[JX]at h
 | 0,x::l,0,y,h=>by simp[JX]at h;exact⟨x,rfl,.inr h.symm⟩
 | 0,x::l,j+1,y,h=>by simp[JX]at h;exact⟨y,by simpa using h,.inl rfl⟩
 |k+1,x::l,0,y,h=>by simp[JX]at h;exact⟨x,rfl,.inl h.symm⟩
 |
  k+1,x::l,j+1,y,h=>by
  simp only[JX,Jl]at h;obtain⟨z,h1,h2⟩:=zY k l h;exact⟨z,by simpa using h1,h2⟩
theorem nlc{P:Program}[Mo P]{n:Nat}{Q:Exit->Sg->Ux->Prop}{L:Sg}{B B':Ux}(i d:Nat){T:TypeId}{xs:Uv}{it:List It}(hs:Ro it=true)(hb:A8 B i=some (.blk T xs))(hB:Az B i (.blk T (JX d xs))=some B')(k:AK P n Q it L B'):AK P n Q it L B:=by
 obtain⟨rfl,hl⟩:=Nz hB;have hbi:B[i]? = some (.blk T xs):=Pe ▸ hb;refine AK.sub (λF E M a w h=>⟨E,M,?_,h.size,h.defers,h.slots⟩) hs k;rw[WR,JV hbi];refine h.hs.re (λj=>?_) (λj=>?_) (λj=>?_) λj hj=>?_
 ·by_cases e:j=i
  ·subst e;rw[Fo];obtain⟨g,c,m,h1,cs,h2,h3⟩:=h.blk hb;refine⟨g,c,m,h1,cs,h2,F2.of (by rw[zV];exact h3.len) λk v x hv hx=>?_⟩;obtain⟨y,hy,hyx⟩:=zY _ _ hx;rcases hyx with rfl|rfl
   ·exact h3.get' hv hy
   ·exact Qae (h3.get' hv hy)
  ·rw[Gk _ _ e];exact h.hs.blk j
 ·by_cases e:j=i
  ·subst e;rw[Fo,Te hbi];rfl
  ·rw[Gk _ _ e]
 ·by_cases e:j=i
  ·subst e;rw[Fo,Te hbi];rfl
  ·rw[Gk _ _ e]
 ·by_cases e:j=i
  ·subst e;rw[Te hbi]at hj;cases hj
  ·rw[Gk _ _ e];exact hj
theorem FZ{l m:Uw}(h:l=m):TV.one (LV.row l)=.one (.row m):=h ▸ rfl
theorem uT{a b:Crv}(ha:YZ a)(hb:YZ b)(ca:Cb a)(cb:Cb b):Un 217 [.agg (cl a),.agg (cl b)] [pr (Rq a b)]:=by
 obtain⟨p1,l1,b1⟩:=tY ca cb;obtain⟨p2,l2,b2⟩:=tX ca cb;have m1:=H9 (Gd a b) (Gd a b);have m2:=H9 (Gb a b) (Gb a b);have q1:=Pp (u:=5) b1 b1 (by omega);have q2:=Pp (u:=5) b2 b2 (by omega);exact Uk func217 rfl [.k (US ha hb ca cb),.k (UR ha hb ca cb),.k (KC p1.t p1.t (by omega) (by omega) b1 b1 (by omega)),.k (KC p2.t p2.t (by omega) (by omega) b2 b2 (by omega)),.k (BO (by omega) (by omega) (U7 q1 (by omega)) (U7 q2 (by omega)))] rfl
theorem Qb7{a b c d:Crv}(ha:YZ a)(hb:YZ b)(hc:YZ c)(hd:YZ d)(ca:Cb a)(cb:Cb b)(cc:Cb c)(cd:Cb d):Un 173 [.agg (cl a),.agg (cl b),.agg (cl c),.agg (cl d)] [pr (Hh a b c d)]:=by
 have na:=Dz ha (ca.mono (by omega) (by omega));have nb:=Dz hb (cb.mono (by omega) (by omega));have nc:=Dz hc (cc.mono (by omega) (by omega));have nd:=Dz hd (cd.mono (by omega) (by omega));have s1:=bN ca cb;have s2:=bN cc cd;have s3:=oQ ca cb;have s4:=oQ cc cd;have da:=ca.d;have db:=cb.d;have dc:=cc.d;have dd:=cd.d;obtain⟨t1,l1,b1⟩:=tJ cc cd;obtain⟨t2,l2,b2⟩:=tJ ca cb;have k1:=Fp (Rq c d) ((a.d*b.d)*(a.d*b.d));have k2:=Fp (Rq a b) ((c.d*d.d)*(c.d*d.d));have w1:=P8 (U6 a.d) (U6 b.d) (by omega) (by omega);have w2:=P8 (U6 c.d) (U6 d.d) (by omega) (by omega);have w3:=P8 (U6 (a.d*b.d)) (U6 (a.d*b.d)) (by omega) (by omega);have w4:=P8 (U6 (c.d*d.d)) (U6 (c.d*d.d)) (by omega) (by omega);have p1:=Pw (p:=Rq c d) (c:=(a.d*b.d)*(a.d*b.d)) (by omega) (U7 b1 (by omega)) (by omega);have p2:=Pw (p:=Rq a b) (c:=(c.d*d.d)*(c.d*d.d)) (by omega) (U7 b2 (by omega)) (by omega);have p3:=RV (p:=Fv (Rq c d) ((a.d*b.d)*(a.d*b.d))) (q:=Fv (Rq a b) ((c.d*d.d)*(c.d*d.d))) (by omega) (by omega) (U7 (Gj b1 s3) (by omega)) (U7 (Gj b2 s4) (by omega));exact Uk func173 rfl [.k na,.k nb,.k w1,.k nc,.k nd,.k w2,.k (uT hc hd cc cd),.k w3,.k p1,.k (uT ha hb ca cb),.k w4,.k p2,.k p3] rfl
theorem BL{a b c d:Pt}(ha:Sc a.c)(hb:Sc b.c)(hc:Sc c.c)(hd:Sc d.c):Un 173 [.agg (cl a.c),.agg (cl b.c),.agg (cl c.c),.agg (cl d.c)] [pr (Hh a.c b.c c.c d.c)]:=Qb7 ha.n hb.n hc.n hd.n ha.cb hb.cb hc.cb hd.cb
set_option maxHeartbeats 1000000 in
theorem Qnz{a b c d:Pt}{t:Tm}(ha:Sc a.c)(hb:Sc b.c)(hc:Sc c.c)(hd:Sc d.c)(ht:Va t):Un 167 [.oi 5,.agg (ta t),.one (.row [Ff a,Ff b,Ff c,Ff d])] [.agg (L9 (Bi (Fx t) a b c d)),.oi 0]:=by
 have hp:=(WZ ha hb hc hd).dp;have e:L9 (Bi (Fx t) a b c d)=[.int .i64 5,.int .i64 a.id,.int .i64 b.id,.int .i64 c.id,.int .i64 d.id,pl (Hh a.c b.c c.c d.c),.int .i64 (Hl (Fx t) (Hh a.c b.c c.c d.c))]:=by rw[Bi]
 rw[e];have cg:=SE hp ht;have cf:=BL ha hb hc hd;generalize Hh a.c b.c c.c d.c=F at *;refine Fz func167 rfl ?_;refine Uh [.k Qcp,.f rfl] rfl ?_;refine Um (S:=Nat) 3 (λL1 i=>(22,.v (.oi i))::L1) (λi=>[.blk 189 (ta t),.blk 126 zCt,.blk 126 [.int .i64 5,.int .i64 (if 1<=i then a.id else 0),.int .i64 (if 2<=i then b.id else 0),.int .i64 (if 3<=i then c.id else 0),.int .i64 (if 4<=i then d.id else 0),.nils,.int .i64 0]]) (λi=>4-i) (λi=>i<=4) 0 (Qh _) rfl rfl λi hi=>?_
 rcases(show i=0\/i=1\/i=2\/i=3\/i=4 by omega)with rfl|rfl|rfl|rfl|rfl
 ·refine Uh [.t rfl,.x (i:=0) (xs:=Ff a) rfl,.i 0] rfl ?_ (by simp[U5]);exact rd 1 (by omega) (by omega) rfl
 ·refine Uh [.t rfl,.x (i:=1) (xs:=Ff b) rfl,.i 1] rfl ?_ (by simp[U5]);exact rd 2 (by omega) (by omega) rfl
 ·refine Uh [.t rfl,.x (i:=2) (xs:=Ff c) rfl,.i 2] rfl ?_ (by simp[U5]);exact rd 3 (by omega) (by omega) rfl
 ·refine Uh [.t rfl,.x (i:=3) (xs:=Ff d) rfl,.i 3] rfl ?_ (by simp[U5]);exact rd 4 (by omega) (by omega) rfl
 ·exact Uj [.f rfl,.f rfl,.f rfl,.f rfl,.f rfl,.x (i:=0) (xs:=Ff a) rfl,.x (i:=1) (xs:=Ff b) rfl,.x (i:=2) (xs:=Ff c) rfl,.x (i:=3) (xs:=Ff d) rfl,.k cf,.k cg] rfl
theorem Qu3{s m:Pt×Pt}{t:Tm}(h1:Sc s.1.c)(h2:Sc s.2.c)(h3:Sc m.1.c)(h4:Sc m.2.c)(ht:Va t):U8 prog 171 [.agg (Ff m.1),.agg (Ff m.2),.one (.ow 0 0),.one (.ow 1 0),.one (.ow 2 0)] [.blk 41 (Ff s.1),.blk 41 (Ff s.2),.blk 189 (ta t)] [] [.blk 41 (Ff (Mb (Fx t) s m).1),.blk 41 (Ff (Mb (Fx t) s m).2),.blk 189 (ta t)]:=by
 have cf:=BL h1 h2 h3 h4;have cg:=SE (WZ h1 h2 h3 h4).dp ht;unfold Mb;refine Fz func171 rfl ?_;by_cases h:Hl (Fx t) (Hh s.1.c s.2.c m.1.c m.2.c)<0
 ·rw[if_pos h];exact Ul [] [0,1,2] [.k cf,.k cg,.t (decide_eq_true h)] rfl
 ·rw[if_neg h];exact Ul [] [0,1,2] [.k cf,.k cg,.f (decide_eq_false h)] rfl
theorem Quz{s m:Pt×Pt}{t:Tm}{L:List Ct}(h1:Sc s.1.c)(h2:Sc s.2.c)(h3:Sc m.1.c)(h4:Sc m.2.c)(ht:Va t)(hL:L.length<=1000000):U8 prog 174 [.agg (Ff m.1),.agg (Ff m.2),.one (.ow 0 0),.one (.ow 1 0),.one (.ow 2 0),.one (.ow 3 0)] [.blk 41 (Ff s.1),.blk 41 (Ff s.2),.blk 189 (ta t),.blk 52 [.orow 4 7 none],.row false 126 7 (Ft L)] [] [.blk 41 (Ff s.1),.blk 41 (Ff s.2),.blk 189 (ta t),.blk 52 [.orow 4 7 none],.row false 126 7 (Ft (if ZT s m=true then L++[Bi (Fx t) s.1 s.2 m.1 m.2]else L))]:=by
 have cm:=Qnz h1 h2 h3 h4 ht;have hq:∀y∈[L9 (Bi (Fx t) s.1 s.2 m.1 m.2)],y.length=7:=λy hy=>by rw[Ql.1 hy];rfl
 have hcl:=Bb L;have hsn:Ft (L++[Bi (Fx t) s.1 s.2 m.1 m.2])=Ft L++[L9 (Bi (Fx t) s.1 s.2 m.1 m.2)]:=by simp[Ft]
 refine Fz func174 rfl ?_;by_cases e1:m.1.id=s.1.id
 ·by_cases e2:m.2.id=s.2.id
  ·rw[if_neg (by simp[ZT,e1,e2])];exact Ul [] [0,1,2,3,4] [.g 15 false (by simp[e1]),.f (by simp[e2])] rfl
  ·rw[if_pos (by simp[ZT,e2]),hsn];exact Ul [] [0,1,2,3,4] [.g 15 false (by simp[e1]),.t (by simp[e2]),.k cm,.s (sz:=7) hq] rfl (by simp[U5,hcl];omega)
 ·rw[if_pos (by simp[ZT,e1]),hsn];exact Ul [] [0,1,2,3,4] [.g 15 true (by simp[e1]),.t rfl,.k cm,.s (sz:=7) hq] rfl (by simp[U5,hcl];omega)
theorem PP(M:List Pt):Ra 0 M=[]:=by cases M <;> rfl
def vE(M:List Pt)(x:Pt)(i j:Nat):List (Pt×Pt):=Ra i M++((M.drop (i+1)).take j).map (λy=>(x,y))
theorem tD(M:List Pt)(x:Pt)(i:Nat):vE M x i 0=Ra i M:=by rw[vE,Y9,Jb,Zv]
theorem tC{M:List Pt}{i j:Nat}{x y:Pt}(hy:(M.drop (i+1))[j]? = some y):vE M x i (j+1)=vE M x i j++[(x,y)]:=by
 unfold vE;rw[Z3,hy,Option.toList_some,Yi,Ze];rfl
theorem Qat{M:List Pt}{i j:Nat}{x:Pt}(hx:M[i]? = some x)(hj:(M.drop (i+1)).length<=j):vE M x i j=Ra (i+1) M:=by
 unfold vE;rw[Qn hj,Lq M i x hx]
theorem Qqr{M:List Pt}{i j:Nat}{x:Pt}(hx:M[i]? = some x):∀m∈vE M x i j,m.1∈M/\m.2∈M:=λm hm=>by
 rcases Qq.1 hm with h|h
 ·exact Ty _ _ m h
 ·obtain⟨y,hy,rfl⟩:=Q6.1 h;exact⟨Qc hx,Qz (Qo hy)⟩
theorem Qg1{l:List Pt}{t:Tm}{s0:Pt×Pt}(hl:∀p∈l,Sc p.c)(hs:s0.1∈l/\s0.2∈l)(hn:l.length≤1000)(ht:Va t):U8 prog 170 [.one (pts l),.one (.ofn 171 [] [.ow 0 0,.ow 1 0,.ow 2 0])] [.blk 41 (Ff s0.1),.blk 41 (Ff s0.2),.blk 189 (ta t)] [] [.blk 41 (Ff (Hq (Fx t) s0 (Gh l)).1),.blk 41 (Ff (Hq (Fx t) s0 (Gh l)).2),.blk 189 (ta t)]:=by
 have hcl:=G8 l;have hsc:∀ps:List (Pt×Pt),(∀m∈ps,m.1∈l/\m.2∈l)->Sc (Hq (Fx t) s0 ps).1.c/\Sc (Hq (Fx t) s0 ps).2.c:=λps h=>by
  obtain⟨h1,h2⟩:=Ln (Fx t) ps s0 hs h;exact⟨hl _ h1,hl _ h2⟩
 show U8 prog 170 [.one (.row (U4 l)),.one (.ofn 171 [] [.ow 0 0,.ow 1 0,.ow 2 0])] _ _ _;refine Fz func170 rfl ?_;refine Uh [] rfl ?_;refine lp (S:=Nat) 3 (λL1 i=>(10,.v (.oi i))::L1) (λi=>[.blk 41 (Ff (Hq (Fx t) s0 (Ra i l)).1),.blk 41 (Ff (Hq (Fx t) s0 (Ra i l)).2),.blk 189 (ta t)]) (λi=>l.length-i) (λi=>i<=l.length) 0 (Qh _) rfl (λ_ _=>rfl) (by rw[PP];rfl) λi hi=>?_
 by_cases hlt:i<l.length
 ·obtain⟨x,hx⟩:=gxE (l:=l) (i:=i) hlt;have ed1:(U4 l).drop (i+1)=U4 (l.drop (i+1)):=by simp[U4,Vi]
  have hdl:=G8 (l.drop (i+1));have hdl2:(l.drop (i+1)).length<=1000:=by rw[Q9];omega
  rw[<-tD l x i];refine go tt [.t (by simp[hcl];omega),.x (S8 hx),.r 17 (eI (b:=((i+1:Nat):Int)) (by simp)),.i (i+1),.r 18 (FZ ed1)] rfl (by simp[U5,G8,eq_true (p:=∀z,z∈U4 l->z.length=ti41.sz) (VY l)];omega) ?_;refine Um (S:=Nat) 4 (λL1 j=>(20,.v (.oi j))::L1) (λj=>[.blk 41 (Ff (Hq (Fx t) s0 (vE l x i j)).1),.blk 41 (Ff (Hq (Fx t) s0 (vE l x i j)).2),.blk 189 (ta t),.blk 41 (Ff x)]) (λj=>(l.drop (i+1)).length-j) (λj=>j<=(l.drop (i+1)).length) 0 (Qh _) rfl rfl λj hj=>?_
  by_cases hltj:j<(l.drop (i+1)).length
  ·obtain⟨y,hy⟩:=gxE (l:=(l.drop (i+1))) (i:=j) hltj;obtain⟨s1,s2⟩:=hsc (vE l x i j) (Qqr hx);have cn:=Qu3 (s:=Hq (Fx t) s0 (vE l x i j)) (m:=(x,y)) s1 s2 (hl x (Qc hx)) (hl y (Qz (Qc hy))) ht;rw[<-vV,<-tC hy]at cn;refine go tt [.T,.x (S8 hy),.c [0,1,2] cn] rfl (by simp[U5,-List.length_drop];omega) ?_;exact rd (j+1) (by omega) hltj rfl
  ·have e:=Qat hx (J9 hltj);rw[e];refine go tt [.F] rfl (by simp[U5,-List.length_drop];omega) ?_;exact rd (i+1) (by omega) hlt rfl
 ·obtain rfl:i=l.length:=by omega
  exact Ul [] [0,1,2] [.f (by simp[hcl])] rfl
theorem Qg2{l:List Pt}{t:Tm}{s:Pt×Pt}(hl:∀p∈l,Sc p.c)(hs:s.1∈l/\s.2∈l)(hn:l.length≤10)(ht:Va t):U8 prog 170 [.one (pts l),.one (.ofn 174 [] [.ow 0 0,.ow 1 0,.ow 2 0,.ow 3 0])] [.blk 41 (Ff s.1),.blk 41 (Ff s.2),.blk 189 (ta t),.blk 52 [.orow 4 7 none],.row false 126 7 []] [] [.blk 41 (Ff s.1),.blk 41 (Ff s.2),.blk 189 (ta t),.blk 52 [.orow 4 7 none],.row false 126 7 (Ft (Nb (Fx t) s (Gh l)))]:=by
 have hcl:=G8 l;have hpk:∀i,i<=l.length->(Ra i l).length<=100:=λi hi=>by
  have:=WP i l;have:i*l.length<=10*10:=Q8 (by omega) hn;omega
 show U8 prog 170 [.one (.row (U4 l)),.one (.ofn 174 [] [.ow 0 0,.ow 1 0,.ow 2 0,.ow 3 0])] _ _ _;refine Fz func170 rfl ?_;refine Uh [] rfl ?_;refine lp (S:=Nat) 5 (λL1 i=>(10,.v (.oi i))::L1) (λi=>[.blk 41 (Ff s.1),.blk 41 (Ff s.2),.blk 189 (ta t),.blk 52 [.orow 4 7 none],.row false 126 7 (Ft (Nb (Fx t) s (Ra i l)))]) (λi=>l.length-i) (λi=>i<=l.length) 0 (Qh _) rfl (λ_ _=>rfl) (by rw[PP];rfl) λi hi=>?_
 by_cases hlt:i<l.length
 ·obtain⟨x,hx⟩:=gxE (l:=l) (i:=i) hlt;have ed1:(U4 l).drop (i+1)=U4 (l.drop (i+1)):=by simp[U4,Vi]
  have hdl:=G8 (l.drop (i+1));have hdl2:(l.drop (i+1)).length<=10:=by rw[Q9];omega
  rw[<-tD l x i];refine go tt [.t (by simp[hcl];omega),.x (S8 hx),.r 17 (eI (b:=((i+1:Nat):Int)) (by simp)),.i (i+1),.r 18 (FZ ed1)] rfl (by simp[U5,G8,eq_true (p:=∀z,z∈U4 l->z.length=ti41.sz) (VY l)];omega) ?_;refine Um (S:=Nat) 6 (λL1 j=>(20,.v (.oi j))::L1) (λj=>[.blk 41 (Ff s.1),.blk 41 (Ff s.2),.blk 189 (ta t),.blk 52 [.orow 4 7 none],.row false 126 7 (Ft (Nb (Fx t) s (vE l x i j))),.blk 41 (Ff x)]) (λj=>(l.drop (i+1)).length-j) (λj=>j<=(l.drop (i+1)).length) 0 (Qh _) rfl rfl λj hj=>?_
  by_cases hltj:j<(l.drop (i+1)).length
  ·obtain⟨y,hy⟩:=gxE (l:=(l.drop (i+1))) (i:=j) hltj;have hdn:(Nb (Fx t) s (vE l x i j)).length<=1000000:=by
    refine Qa (OM _ _ _) ?_;unfold vE;rw[Qu,Za,Qr];have:=hpk i hi;omega
   have cn:=Quz (s:=s) (m:=(x,y)) (L:=Nb (Fx t) s (vE l x i j)) (hl _ hs.1) (hl _ hs.2) (hl x (Qc hx)) (hl y (Qz (Qc hy))) ht hdn;have en1:(if ZT s (x,y)=true then Nb (Fx t) s (vE l x i j)++[Bi (Fx t) s.1 s.2 x y]else Nb (Fx t) s (vE l x i j))=Nb (Fx t) s (vE l x i (j+1)):=by
    rw[tC hy];cases h:ZT s (x,y)with
    |true=>rw[if_pos rfl,Qpf h]
    |false=>rw[if_neg (by decide),Qpe h]
   dsimp only at cn;rw[en1]at cn;refine go tt [.T,.x (S8 hy),.c [0,1,2,3,4] cn] rfl (by simp[U5,-List.length_drop];omega) ?_;exact rd (j+1) (by omega) hltj rfl
  ·have e:=Qat hx (J9 hltj);rw[e];refine go tt [.F] rfl (by simp[U5,-List.length_drop];omega) ?_;exact rd (i+1) (by omega) hlt rfl
 ·obtain rfl:i=l.length:=by omega
  exact Ul [] [0,1,2,3,4] [.f (by simp[hcl])] rfl
theorem OK{l:List Pt}{a:Tm}{c:Cr}{r1:Uw}(hl:∀p∈l,Sc p.c)(hn:l.length≤10)(ha:Va a):U8 prog 125 [.one (.ow 0 0),.agg (ta a)] [.blk 203 (Ho c (U4 l) r1)] [.one (.row (Ft (Lp (Fx a) l)))] [.blk 203 (Ho c (U4 l) (U4 (JK (Fx a) l)))]:=by
 have hcl:=G8 l;refine Fz func125 rfl ?_;by_cases h2:l.length<2
 ·obtain⟨e1,e2⟩:=Qdz (Fx a) h2;rw[e1,e2];refine Uh [.k Iv] rfl ?_;refine nlc 0 13 rfl rfl rfl ?_;have hml:(l.map Ff).length=l.length:=Za _;exact Ul [] [0] [.T] rfl
 ·obtain⟨x,y,l',rfl⟩:=Qxq h2;obtain⟨l,hle⟩:=nmE (x::y::l');have hx0:(U4 l)[0]? = some (Ff x):=by rw[hle];rfl
  have hy0:(U4 l)[1]? = some (Ff y):=by rw[hle];rfl
  have hxl:x∈l:=by rw[hle];simp
  have hyl:y∈l:=by rw[hle];simp
  have eB:JK (Fx a) (x::y::l')=[(Hq (Fx a) (x,y) (Gh l)).1,(Hq (Fx a) (x,y) (Gh l)).2]:=by rw[hle];rfl
  have eC:Lp (Fx a) (x::y::l')=Nb (Fx a) (Hq (Fx a) (x,y) (Gh l)) (Gh l):=by rw[hle];rfl
  rw[eB,eC];rw[<-hle]at hl hn h2 hcl ⊢;have c1:=Qg1 (t:=a) (s0:=(x,y)) hl ⟨hxl,hyl⟩ (by omega) ha;obtain⟨n1,n2⟩:=Ln (Fx a) (l:=l) (Gh l) (x,y) ⟨hxl,hyl⟩ (Ty _ _);generalize Hq (Fx a) (x,y) (Gh l)=s at *;have c2:=Qg2 (t:=a) (s:=s) hl ⟨n1,n2⟩ hn ha;have hml:(l.map Ff).length=l.length:=Za _;exact Ul [5] [0] [.k Iv,.F,.x hx0,.x hy0,.c [2,3,1] c1,.oc 8 0 126 7,.c [2,3,1,4,5] c2] rfl
theorem Qul{T:Nat}{t:Rat}{Bc:Tm->List Ct}{Br:Tm->Uw}{r0:Uw}(ht:Qs 1640000 t)(hB:BuildOk Bc)
 (hb:∀a c r1,Va a->CrOk c->U8 prog 125 [.one (.ow 0 0),.agg (ta a)] [.blk T (Ho c r0 r1)] [.one (.row (Ft (Bc a)))] [.blk T (Ho c r0 (Br a))])
 {K:Nat} {c c':Cr} {r1 r1':Uw} {n:Int} (hc:CrOk c) (hev:0<=c.ev/\c.ev+K<=1000000000000000000) (h:Fq c.now t<=0) (hg:HC Bc Br t K c r1 0=some (c',r1',n)) :
 U8 prog 372 [.one (.ow 0 0),.agg (rl t),.one (.ofn 125 [.ow 0 0] [])] [.blk T (Ho c r0 r1)] [.oi n,.oi 0] [.blk T (Ho c' r0 r1')]:=by
 have qt:Qb t:=ht.mono (by decide);have c1:=Dk hc.n.tb qt;refine Fz func372 rfl ?_;refine Uh [.c [0] (QU hc.n),.k c1,.f (by simpa using h)] rfl ?_;refine Um (S:=Nat×Cr×Uw×Int) 2 (λL1 s=>(8,.v (.oi s.2.2.2))::L1) (λs=>[.blk T (Ho s.2.1 r0 s.2.2.1),.blk 43 (rl t)]) (λs=>s.1) (λs=>CrOk s.2.1/\(0<=s.2.1.ev/\s.2.1.ev+s.1<=1000000000000000000)/\(0<=s.2.2.2/\s.2.2.2+s.1<=1000000000000000000)/\HC Bc Br t s.1 s.2.1 s.2.2.1 s.2.2.2=some (c',r1',n)) (K,c,r1,0) ⟨hc,hev,⟨Int.le_refl 0,by dsimp only;omega⟩,hg⟩ rfl rfl λ⟨k,x,r,m⟩ ⟨j1,j2,j3,j4⟩=>?_
 dsimp only at j1 j2 j3 j4 ⊢;cases k with
 |zero=>cases j4
 |
  succ k =>
  simp only[HC]at j4;obtain⟨ws,w1,j4⟩:=Qd.1 j4;obtain⟨o,o1,j4⟩:=Qd.1 j4;have cn:=MC (T:=T) (r0:=r0) (r1:=r) j1 w1 o1;have ca:=KZ (U6 t.num) (U6 (t.den:Int)) (Qa ht.1 (by decide)) (Qa ht.2 (by decide)) (by rw[Sx];exact ht.mono (by decide));rw[Sx]at ca;cases o with
  |
   none =>
   injection j4 with j4;injection j4 with e1 j4;injection j4 with e2 e3;subst e1;subst e2;subst e3;exact Ul [] [0] [.c [0] cn,.g 25 true rfl,.t rfl,.k ca] rfl
  |
   some a =>
   have ha:=EW j1 w1 o1;dsimp only at j4;have cc:=Dk ha.tb qt;by_cases h0:0<Fq a t
   ·rw[if_pos h0]at j4;injection j4 with j4;injection j4 with e1 j4;injection j4 with e2 e3;subst e1;subst e2;subst e3;exact Ul [] [0] [.c [0] cn,.g 25 false rfl,.k cc,.t (by simpa using h0),.k ca] rfl
   ·rw[if_neg h0]at j4;obtain⟨w2,l1,j4⟩:=Qd.1 j4;have j1':=Et j1 w1;have cl:=Pf (b:=a) (l:=[]) ha.tb (λt ht=>by cases ht) (by decide) rfl;have cb:=hb a { x with l:=ws } r ha j1';have cy:=UT (T:=T) (r0:=r0) (r1:=Br a) j1' ha (hB.p a ha) (hB.n a ha) l1;have hf:decide (0<Fq a t)=false:=by simpa using h0
    refine Ui [.c [0] cn,.g 25 false rfl,.k cc,.f hf,.k cl,.c [0] cb,.c [0] cy] rfl ?_;exact rd (k,⟨a,w2,x.ev+1⟩,Br a,m+1) (by dsimp only;omega) ⟨lay_ok _ j1' ha (hB.p a ha) (hB.n a ha) l1,by dsimp only;omega,by dsimp only;omega,j4⟩ rfl
end Orr
namespace Orr
open Go
def Tn:Us->Nat
 | []=>0
 |x::l=>x+10000*Tn l
def Dg(l:Us):Prop:=∀x∈l,x<10000
def Gp(x:Nat):Us:=if h:x=0 then []else(x % 10000)::Gp (x / 10000)
termination_by x
decreasing_by omega
theorem H5:Gp 0=[]:=by unfold Gp;simp
theorem YT{x:Nat}(h:x≠0):Gp x=(x % 10000)::Gp (x / 10000):=by rw[Gp];simp[h]
theorem Rj(x:Nat):Tn (Gp x)=x:=by
 induction x using Nat.strongRecOn with
 |
  _ x ih =>
  rcases Q4 x with h|h
  ·subst h;rw[H5];rfl
  ·rw[YT (by omega)];simp only[Tn];rw[ih _ (by omega)];omega
theorem Ch(x:Nat):Dg (Gp x):=by
 induction x using Nat.strongRecOn with
 |
  _ x ih =>
  rcases Q4 x with h|h
  ·subst h;rw[H5];intro y hy;cases hy
  ·rw[YT (by omega)];intro y hy;rcases Qm.1 hy with rfl|hy
   ·omega
   ·exact ih _ (by omega) y hy
theorem NY{x:Nat}:(Gp x).length=0↔x=0:=by
 constructor
 ·intro h;have h0:=Qj h;have:=Rj x;rw[h0]at this;exact this.symm
 ·rintro rfl;rw[H5];rfl
theorem Ii{x:Nat}(h:x≠0):(Gp (x / 10000)).length+1=(Gp x).length:=by rw[YT h];rfl
theorem Qc0{x:Nat}(h:x<1000000000000):(Gp x).length<=3:=by
 by_cases h0:x=0
 ·subst h0;rw[H5];exact Qh _
 ·have h1:=Ii h0;by_cases h2:x / 10000=0
  ·rw[h2,H5]at h1;simp at h1;omega
  ·have h3:=Ii h2;by_cases h4:x / 10000 / 10000=0
   ·rw[h4,H5]at h3;simp at h3;omega
   ·have h5:=Ii h4;have h6:x / 10000 / 10000 / 10000=0:=by omega
    rw[h6,H5]at h5;simp at h5;omega
theorem M5(x:Nat):(Gp x).length<=sz x:=by
 induction x using Nat.strongRecOn with
 |
  _ x ih =>
  by_cases h0:x=0
  ·subst h0;rw[H5];exact Qh _
  ·have h1:=Ii h0;have h2:=ih (x / 10000) (by omega);have h3:sz (x / 10000)+1<=sz x:=by
    have h4:x<2^sz x:=FA x;rcases hs:sz x with _|k
    ·rw[hs]at h4;simp at h4;omega
    ·rw[hs]at h4;have:sz (x / 10000)<=k:=Nt.2 (by rw[Zs]at h4;omega);omega
   omega
theorem Pu(a b:Us):Tn (a++b)=Tn a+10000^a.length*Tn b:=by
 induction a with
 |nil=>simp[Tn]
 |
  cons x a ih =>
  simp only[Xd,Tn,ih,Q3,Zs];rw[Xk,<-X5,Zr 10000 (10000^a.length)];omega
theorem Tw{l:Us}{i x:Nat}(h:l[i]? = some x):Tn (l.take (i+1))=Tn (l.take i)+10000^i*x:=by
 have hi:=(Qf.1 h).1;rw[show l.take (i+1)=l.take i++[x] by rw[Z3,h];rfl,Pu,Qr,Zx (by omega)];simp[Tn]
theorem DN:∀{l:Us},Dg l->Tn l<10000^l.length
 | [],_=>by simp[Tn]
 |
  x::l,h=>by
  have h1:=h x (Qy ..);have h2:=DN (l:=l) λy hy=>h y (Qg _ hy)
  simp only[Tn,Q3,Zs];omega
theorem DC:∀{l:Us},(∀x∈l,x=0)->Tn l=0
 | [],_=>rfl
 |
  x::l,h=>by
  have h1:=h x (Qy ..);have h2:=DC (l:=l) λy hy=>h y (Qg _ hy)
  simp[Tn,h1,h2]
theorem Dg.take{l:Us}(h:Dg l)(k:Nat):Dg (l.take k):=λx hx=>h x (Qo hx)
theorem Dg.snoc{l:Us}(h:Dg l){x:Nat}(hx:x<10000):Dg (l++[x]):=by
 intro y hy;rcases Qq.1 hy with hy|hy
 ·exact h y hy
 ·rw[Ql.1 hy];exact hx
theorem Dg.nil:Dg []:=λx h=>by cases h
theorem nM:∀{l:Us},Dg l->(∀x,l[l.length-1]? = some x->x≠0)->l=Gp (Tn l)
 | [],_,_=>by rw[Tn,H5]
 |
  x::l,h,hl=>by
  have h1:=h x (Qy ..);have h2:l=Gp (Tn l):=nM (λy hy=>h y (Qg _ hy)) λy hy=>hl y (by
   rcases l with _|⟨z,t⟩
   ·simp at hy
   ·simpa using hy)
  have h3:x+10000*Tn l≠0:=by
   intro e;have hx:x=0:=by omega
   have hd:Tn l=0:=by omega
   rw[hd,H5]at h2;subst h2;exact hl x rfl hx
  simp only[Tn];rw[YT h3,show(x+10000*Tn l) % 10000=x by omega,show(x+10000*Tn l) / 10000=Tn l by omega,<-h2]
theorem fJ{l:Us}{m:Nat}(hd:Dg l)(hm:m<=l.length)(h1:∀j x,m<=j->l[j]? = some x->x=0)(h2:0<m->∃y,l[m-1]? = some y/\y≠0):l.take m=Gp (Tn l):=by
 have e:Tn l=Tn (l.take m):=by
  conv=>lhs;rw[<-Zi m l,Pu]
  rw[DC (l:=l.drop m) λx hx=>?_]
  ·omega
  ·obtain⟨j,hj⟩:=Zm.1 hx;rw[Xe]at hj;exact h1 (m+j) x (by omega) hj
 rw[e];refine nM (hd.take m) λx hx=>?_
 have hl:(l.take m).length=m:=by rw[Qr];omega
 rw[hl]at hx;rcases Q4 m with h0|h0
 ·subst h0;simp at hx
 ·obtain⟨y,hy,hy0⟩:=h2 h0;rw[Kh (by omega),hy]at hx;injection hx with hx;rw[<-hx];exact hy0
theorem OC{o c i d m P V:Nat}(hP:P=10000^i)(h:o+c*P=V):o+P*((c+d*m) % 10000)+(c+d*m) / 10000*(P*10000)=V+P*d*m:=by
 have e:=Xg (c+d*m) 10000;generalize (c+d*m) / 10000=q at *;generalize (c+d*m) % 10000=r at *;have e2:P*(c+d*m)=P*(10000*q+r):=by rw[e]
 grind
theorem XY{x y:Nat}(h:x<=y):(Gp x).length<=(Gp y).length:=by
 induction y using Nat.strongRecOn generalizing x with
 |
  _ y ih =>
  by_cases h0:x=0
  ·subst h0;rw[H5];exact Qh _
  ·have h1:=Ii h0;have h2:=Ii (x:=y) (by omega);have:=ih (y / 10000) (by omega) (x:=x / 10000) (Nat.div_le_div_right h);omega
theorem Qcz{n x:Nat}(h:10000^n<=x):n+1<=(Gp x).length:=by
 have h1:=DN (Ch x);rw[Rj]at h1;have h2:n<(Gp x).length:=(Nat.pow_lt_pow_iff_right (by decide)).1 (Z2 h h1);omega
theorem fZ{x y:Nat}(h:(Gp x).length<(Gp y).length):x<y:=by
 rcases Zd x y with h1|h1
 ·exact h1
 ·have:=XY h1;omega
theorem Qc1{k y:Nat}(h:y<10000^k):(Gp y).length<=k:=by
 induction k generalizing y with
 |
  zero =>
  have:y=0:=by simpa using h
  subst this;rw[H5];exact Qk _
 |
  succ k ih =>
  by_cases hy0:y=0
  ·subst hy0;rw[H5];exact Qh _
  ·have h8:=Ii hy0;have:=ih (y:=y / 10000) (by rw[Zs]at h;omega);omega
theorem Qhx{o:Us}(h:Dg o)(hl:o.length<=(Gp (Tn o)).length):o=Gp (Tn o):=by
 refine nM h λx hx h0=>?_
 subst h0;have hne:0<o.length:=by
  rcases o with _|⟨a,o⟩
  ·simp at hx
  ·simp
 have h1:Tn o=Tn (o.take (o.length-1)):=by
  have:=Tw hx;rw[show o.length-1+1=o.length by omega,Q7]at this;omega
 have h2:=DN (h.take (o.length-1));rw[<-h1,Qr,Zx (by omega)]at h2;have:=Qc1 h2;omega
theorem XW{l:Us}{j d:Nat}(h:l[j]? = some d):Tn (l.drop j)=d+10000*Tn (l.drop (j+1)):=by
 obtain⟨hj,he⟩:=Qf.1 h;rw[Zq hj,he];rfl
theorem RN{l:Us}{j y:Nat}(h:j<l.length):(l.set j y).drop j=y::l.drop (j+1):=by
 rw[Zq (by simpa using h)];simp only[List.getElem_set_self];rw[List.drop_set_of_lt (by omega)]
theorem Dg.set{l:Us}(h:Dg l){j y:Nat}(hy:y<10000):Dg (l.set j y):=by
 intro x hx;rcases Jq hx with hx|rfl
 ·exact h x hx
 ·exact hy
theorem Dg.zeros(n:Nat):Dg (List.replicate n 0):=by
 intro x hx;rw[Zw hx];decide
theorem fU{V kd d:Nat}(hk:0<kd):(d+10000*V) / kd=(V % kd*10000+d) / kd+10000*(V / kd)/\(d+10000*V) % kd=(V % kd*10000+d) % kd/\(d<10000->(V % kd*10000+d) / kd<10000):=by
 have e:=Xg V kd;have e2:d+10000*V=(V % kd*10000+d)+kd*(10000*(V / kd)):=by
  conv=>lhs;rw[<-e]
  grind
 refine⟨?_,?_,λhd=>?_⟩
 ·rw[e2,Wg _ _ hk]
 ·rw[e2,Kc]
 ·have:=Z5 V hk;exact(Vx hk).2 (by grind)
theorem NV(l:Us)(j:Nat)(h:j<=l.length):Tn l=Tn (l.take j)+10000^j*Tn (l.drop j):=by
 conv=>lhs;rw[<-Zi j l,Pu]
 rw[Qr,Zx h]
theorem DW{a b:Us}{j d e:Nat}(ha:Dg a)(hd:a[j]? = some d)(he:b[j]? = some e)(hs:a.drop (j+1)=b.drop (j+1))(h:d<e):Tn a<Tn b:=by
 have h1:=(Qf.1 hd).1;have h2:=(Qf.1 he).1;rw[NV a j (by omega),NV b j (by omega),XW hd,XW he,hs];have h3:=DN (ha.take j);rw[Qr,Zx (by omega)]at h3;generalize 10000^j=P at *;have h4:P*(d+10000*Tn (b.drop (j+1)))+P<=P*(e+10000*Tn (b.drop (j+1))):=by
  rw[<-W8];exact Zp _ (by omega)
 omega
def dl(l:Us):LV:=.row (l.map λ(x:Nat)=>[.int .i64 (x:Int)])
theorem T0(l:Us):(l.map λ(x:Nat)=>[LV.int .i64 (x:Int)]).length=l.length:=by simp
theorem G0{l:Us}{i x:Nat}(h:l[i]? = some x):(l.map λ(x:Nat)=>[LV.int .i64 (x:Int)])[i]? = some [.int .i64 (x:Int)]:=by rw[Zb,h];rfl
abbrev nd(x:Nat):LV:=dl (Gp x)
end Orr
namespace Orr
open Go Go.Proofs Tryz
set_option maxRecDepth 10000
abbrev Bv(l:Us):Uw:=l.map λ(x:Nat)=>[.int .i64 (x:Int)]
theorem Qvm(l:Us):∀c∈Bv l,c.length=1:=λc hc=>by obtain⟨x,_,rfl⟩:=Q6.1 hc;rfl
theorem RF{l:Us}(hd:Dg l):Un 159 [.one (.row (Bv l))] [.one (nd (Tn l))]:=by
 refine Fz func159 rfl (ln 0 rfl rfl λhl=>?_);rw[Za]at hl;refine Uh [] rfl ?_;refine lp (S:=Nat) 0 (λL1 n=>(3,.v (.oi n))::L1) (λ_=>[]) id (λn=>n<=l.length/\∀j x,n<=j->l[j]? = some x->x=0) (Bv l).length ⟨by simp,λj x h1 h2=>by
  have:=(Qf.1 h2).1;simp at h1;omega⟩ rfl (λ_ _=>rfl) rfl λn ⟨h1,h2⟩=>?_
 cases n with
 |zero=>exact Uj [.g 8 false (by simp),.f rfl,.i 0] rfl (by have:=fJ hd h1 h2 (λh=>by omega);unfold nd;rw[<-this];simp[dl]) (by simp[U5])
 |
  succ n =>
  obtain⟨x,hx⟩:=gxE (l:=l) (i:=n) (by omega);by_cases h0:x=0
  ·refine Ui [.g 8 true (by simp),.r 11 (v:=.oi n) (by simp),.x (G0 hx),.t (by simp[h0]),.r 17 (v:=.oi n) (by simp)] rfl ?_;exact rd n (by simp) ⟨by omega,λj y h3 h4=>by
    rcases Vl h3 with rfl|h3
    ·rw[hx]at h4;injection h4 with h4;rw[<-h4,h0]
    ·exact h2 j y h3 h4⟩ rfl
  ·exact Uj [.g 8 true (by simp),.r 11 (v:=.oi n) (by simp),.x (G0 hx),.f (by simp[h0]),.i (n+1)] rfl (by have:=fJ hd h1 h2 (λ_=>⟨x,hx,h0⟩);unfold nd;rw[<-this];simp[dl,List.map_take]) (by simp[U5] <;> omega)
theorem aT{x kd:Nat}(hxs:sz x<=100000000)(hk:0<kd/\kd<=65536):Un 157 [.one (nd x),.oi kd] [.one (nd (x / kd)),.oi ((x % kd:Nat):Int)]:=by
 have hln:=Qa (M5 x) hxs;obtain⟨l,hl⟩:=nmE (Gp x);have hx:Tn l=x:=by rw[hl,Rj]
 have hd:Dg l:=by rw[hl];exact Ch x
 show Un 157 [.one (.row (Bv (Gp x))),.oi kd] _;rw[<-hl]at hln ⊢;rw[<-hx];have hll:=T0 l;refine Fz func157 rfl ?_;refine Ui [.i (Bv l).length,.i (Bv l).length] rfl ?_;rw[hll,show List.replicate l.length [LV.int .i64 0]=Bv (List.replicate l.length 0) from by simp[Bv]];refine Um (S:=Nat×Us×Nat) 1 (λL1 s=>(8,.v (.oi ((s.1:Int)-1)))::(7,.v (.oi (s.2.2:Int)))::L1) (λs=>[.row false 3 1 (Bv s.2.1)]) (λs=>s.1) (λs=>s.1<=l.length/\s.2.1.length=l.length/\Dg s.2.1/\Tn (s.2.1.drop s.1)=Tn (l.drop s.1) / kd/\s.2.2=Tn (l.drop s.1) % kd) (l.length,List.replicate l.length 0,0) ⟨Qk _,by simp,Dg.zeros _,by simp[Tn],by simp[Tn]⟩ rfl rfl λ⟨k,o,R⟩ ⟨j1,j2,j3,j4,hR⟩=>?_
 dsimp only at j1 j2 j3 j4 hR ⊢;cases k with
 |
  zero =>
  have cc:=RF j3;rw[X4,X4]at j4;rw[j4]at cc;exact Uj [.f (by simp),.k cc] rfl (by rw[hR,X4]) trivial
 |
  succ k =>
  obtain⟨d,hdk⟩:=gxE (l:=l) (i:=k) (by omega);have hd0:=hd d (Qc hdk);have hdd:=XW hdk;obtain⟨s1,s2,s3⟩:=fU (V:=Tn (l.drop (k+1))) (kd:=kd) (d:=d) hk.1;rw[<-hdd]at s1 s2;have hr:=Z5 (Tn (l.drop (k+1))) hk.1;rw[<-hR]at s1 s2 s3 hr;have e:((k+1:Nat):Int)-1=(k:Int):=by omega
  have htd:((R:Int)*10000+(d:Int)).tdiv (kd:Int)=(((R*10000+d) / kd:Nat):Int):=rfl;have hle:=Jr (R*10000+d) kd;have htb:0<=((R:Int)*10000+(d:Int)).tdiv (kd:Int)/\((R:Int)*10000+(d:Int)).tdiv (kd:Int)<=655369999:=by
   rw[htd];revert hle;generalize (R*10000+d) / kd=Q;intro hle;omega
  rw[e];refine Ui [.t (by simp),.x (G0 hdk),.r 26 (eI (b:=((R*10000+d:Nat):Int)) (by omega)),.r 31 (eI (b:=(((R*10000+d) / kd:Nat):Int)) (by rfl)),.i k,.r 35 (eI (b:=(((R*10000+d) % kd:Nat):Int)) (by rfl))] rfl ?_;exact rd (k,o.set k ((R*10000+d) / kd),(R*10000+d) % kd) (by dsimp only;omega) ⟨by dsimp only;omega,by simp[j2],j3.set (s3 hd0),by dsimp only;rw[RN (by omega)];simp only[Tn];rw[j4,s1],by dsimp only;exact s2.symm⟩ (by simp[Bv,List.map_set];rfl)
theorem Qxn(x k:Nat):sz (x / k)<=sz x:=Rl (Jr _ _)
theorem bO{x y:Nat}{o:Us}(h:Gg x=o++Gg y)(h0:y≠0):Gg x=(o++[y % 4294967296])++Gg (y / 4294967296):=by
 rw[h,E6 h0];simp
theorem Qp0(o:Us)(z:Nat):lm (o++[z])=lm o++[[.int .u32 (z:Int)]]:=by simp[lm]
theorem Qy6{x:Nat}(hx:sz x<=100000000):Un 103 [.one (nd x)] [lr (Gg x)]:=by
 have hlx:=Ti hx;refine Fz func103 rfl ?_;refine Uh [.o 3 111 1] rfl ?_;refine Um (S:=Nat×Us) 1 (λL1 s=>(0,.v (.one (nd s.1)))::(3,.v (.one (.orow 0 1 none)))::L1) (λs=>[.row false 111 1 (lm s.2)]) (λs=>s.1) (λs=>Gg x=s.2++Gg s.1/\s.1<=x) (x,[]) ⟨rfl,Qk _⟩ rfl rfl λ⟨y,o⟩ ⟨j1,j2⟩=>?_
 dsimp only at j1 j2 ⊢;by_cases h0:y=0
 ·subst h0;rw[Hd,Zv]at j1;rw[j1];exact Uj [.f (by simp[H5])] rfl
 ·have hs:=bO j1 h0;have hsy:sz y<=100000000:=Qa (Rl j2) hx;have c1:=aT (x:=y) (kd:=65536) hsy (by decide);have c2:=aT (x:=y / 65536) (kd:=65536) (Qa (Qxn _ _) hsy) (by decide);have hl:(Gp y).length≠0:=λh=>h0 (NY.1 h)
  have ol:o.length<=(Gg x).length:=by rw[j1];simp
  have e:y / 65536 % 65536*65536+y % 65536=y % 4294967296:=by omega
  have e2:y / 65536 / 65536=y / 4294967296:=by omega
  refine go tt [.t (by simp;omega),.k c1,.k c2,.r 26 (Eo (b:=((y % 4294967296:Nat):Int)) (by omega)),.s (sz:=1) (l:=[[.int .u32 ((y % 4294967296:Nat):Int)]]) (λc hc=>by rw[Ql.1 hc];rfl)] rfl (by simp[U5,U9];omega) ?_;rw[<-e2]at hs;exact rd (y / 65536 / 65536,o++[y % 4294967296]) (by dsimp only;omega) ⟨hs,by dsimp only;omega⟩ (by rw[Qp0];rfl)
abbrev ri(z:Int):Uv:=[nd z.natAbs,sg z]
theorem Qz1(b:Bool)(m:Nat):[nd m,LV.bool (b && decide (0<m))]=ri (Fc b m):=by
 simp only[ri,sg,Ta,EU]
theorem Qwt(x:Nat):(0<(Gp x).length)↔0<x:=by
 have:=NY (x:=x);omega
theorem Nv(b:Bool)(m:Nat):Un 108 [.one (nd m),.one (.bool b)] [.agg (ri (Fc b m))]:=by
 rw[<-Qz1];have e:=Qwt m;cases b with
 |false=>exact Uk func108 rfl [.g 7 false rfl] rfl
 |true=>exact Uk func108 rfl [.g 7 true rfl] rfl (by simp[e]) trivial
theorem Dy{z:Int}:Un 104 [.agg (ri z)] [.one (.bool (decide (z=0)))] :=
 Uk func104 rfl [] rfl (by have h:=NY (x:=z.natAbs);simp only[T0];congr 3;rw[decide_eq_decide];omega) trivial
theorem QF{z:Int}:Un 105 [.agg (ri z)] [.agg (ri (-z))]:=by
 have h:=Nv (!decide (z<0)) z.natAbs;have e:Fc (!decide (z<0)) z.natAbs=-z:=by unfold Fc;by_cases h:z<0 <;> simp[h] <;> omega
 rw[e]at h;exact Uk func105 rfl [.k h] rfl
theorem Quy{z:Int}(hz:Fg z<=100000000):Un 61 [.agg (ri z)] [.agg (Hg z)] :=
 Uk func61 rfl [.k (Qy6 hz)] rfl
theorem eBo{a b:Bool}(h:a=b):TV.one (LV.bool a)=.one (.bool b):=h ▸ rfl
theorem Ik(l:Us)(x:Nat):Bv (l++[x])=Bv l++[[.int .i64 (x:Int)]]:=by simp[Bv]
theorem fX{x y:Nat}{o:Us}(h:Gp x=o++Gp y)(h0:y≠0):Gp x=(o++[y % 10000])++Gp (y / 10000):=by
 rw[h,YT h0];simp
theorem Qu0{b:Bool}{x:Nat}(hx:x<=4000000000000000000)(hb:b=true->0<x):Un 63 [.oi (Fc b x)] [.agg (ri (Fc b x))]:=by
 have hl:(Gp x).length<=100:=by
  have:=M5 x;have h2:sz x<=64:=Nt.2 (by omega);omega
 have hm:=Nv b x;refine Fz func63 rfl ?_;cases b with
 |
  false =>
  show AK prog _ _ _ (KQ 0 [.oi x]) [];refine Uh [.f (by simp <;> omega),.r 3 (eBo (b:=false) (by simp)),.f rfl,.o 4 3 1] rfl ?_;refine Um (S:=Nat×Us) 2 (λL1 s=>(0,.v (.oi (s.1:Int)))::(4,.v (.one (.orow 1 1 none)))::L1) (λs=>[.blk 59 [.nils,.bool false],.row false 3 1 (Bv s.2)]) (λs=>s.1) (λs=>Gp x=s.2++Gp s.1/\s.1<=x) (x,[]) ⟨rfl,Qk _⟩ rfl rfl λ⟨y,o⟩ ⟨j1,j2⟩=>?_
  dsimp only at j1 j2 ⊢;by_cases h0:y=0
  ·subst h0;rw[H5,Zv]at j1;rw[<-j1];exact Uj [.f (by simp),.k hm] rfl
  ·have hs:=fX j1 h0;have ol:o.length<=(Gp x).length:=by rw[j1];simp
   refine go tt [.t (by simp;omega),.r 18 (eI (b:=((y % 10000:Nat):Int)) (by rfl)),.s (sz:=1) (l:=[[.int .i64 ((y % 10000:Nat):Int)]]) (λc hc=>by rw[Ql.1 hc];rfl),.r 22 (eI (b:=((y / 10000:Nat):Int)) (by rfl))] rfl (by simp[U5,T0];omega) ?_;exact rd (y / 10000,o++[y % 10000]) (by dsimp only;omega) ⟨hs,by dsimp only;omega⟩ (by rw[Ik];rfl)
 |
  true =>
  show AK prog _ _ _ (KQ 0 [.oi (-(x:Int))]) [];refine Ui [.f (by simp <;> omega),.r 3 (eBo (b:=true) (by simpa using hb rfl)),.t rfl,.r 0 (eI (b:=(x:Int)) (by omega)),.o 4 3 1] rfl ?_;refine Um (S:=Nat×Us) 2 (λL1 s=>(0,.v (.oi (s.1:Int)))::(4,.v (.one (.orow 1 1 none)))::L1) (λs=>[.blk 59 [.nils,.bool false],.row false 3 1 (Bv s.2)]) (λs=>s.1) (λs=>Gp x=s.2++Gp s.1/\s.1<=x) (x,[]) ⟨rfl,Qk _⟩ rfl rfl λ⟨y,o⟩ ⟨j1,j2⟩=>?_
  dsimp only at j1 j2 ⊢;by_cases h0:y=0
  ·subst h0;rw[H5,Zv]at j1;rw[<-j1];exact Uj [.f (by simp),.k hm] rfl
  ·have hs:=fX j1 h0;have ol:o.length<=(Gp x).length:=by rw[j1];simp
   refine go tt [.t (by simp;omega),.r 18 (eI (b:=((y % 10000:Nat):Int)) (by rfl)),.s (sz:=1) (l:=[[.int .i64 ((y % 10000:Nat):Int)]]) (λc hc=>by rw[Ql.1 hc];rfl),.r 22 (eI (b:=((y / 10000:Nat):Int)) (by rfl))] rfl (by simp[U5,T0];omega) ?_;exact rd (y / 10000,o++[y % 10000]) (by dsimp only;omega) ⟨hs,by dsimp only;omega⟩ (by rw[Ik];rfl)
theorem ZO{n:Int}(hn:-4000000000000000000<=n/\n<=4000000000000000000):Un 63 [.oi n] [.agg (ri n)]:=by
 have e:Fc (decide (n<0)) n.natAbs=n:=by unfold Fc;by_cases h:n<0 <;> simp[h] <;> omega
 have h:=Qu0 (b:=decide (n<0)) (x:=n.natAbs) (by omega) (λh=>by have:=of_decide_eq_true h;omega);rwa[e]at h
abbrev fr(q:Rat):Uv:=ri q.num++ri (q.den:Int)
theorem Ij:Gp 1=[1]:=by rw[YT (by decide)];rw[H5]
theorem Ad{n:Int}:Un 62 [.agg (ri n),.agg (ri 1)] [.agg (fr (n:Rat))]:=by
 have h0:(Bv (Gp (1:Int).natAbs))[0]? = some [LV.int .i64 1]:=by rw[show(1:Int).natAbs=1 from rfl,Ij];rfl
 have h1:decide (((Bv (Gp (1:Int).natAbs)).length:Int)=1)=true:=by rw[show(1:Int).natAbs=1 from rfl,Ij];rfl
 exact Uk func62 rfl [.k (Dy (z:=1)),.f rfl,.f rfl,.g 19 true h1,.x h0,.t rfl] rfl
theorem KB{n:Int}(hn:-4000000000000000000<=n/\n<=4000000000000000000):Un 20 [.oi n,.oi 1] [.agg (fr (n:Rat))] :=
 Uk func20 rfl [.k (ZO hn),.k (ZO (n:=1) (by decide)),.k Ad] rfl
theorem uF{q:Rat}(hq:Qs 100000000 q):Un 19 [.agg (fr q)] [.agg (rl q)] :=
 Uk func19 rfl [.k (Quy hq.1),.k (Quy hq.2)] rfl
end Orr
namespace Orr
open Go Go.Proofs Tryz Orq
set_option maxRecDepth 10000
theorem I9{a:Tm}(ha:Va a):UD a a=some 0:=by
 obtain⟨c,c1,c2⟩:=UL ha ha;rcases c2 with⟨_,h⟩|⟨e,_⟩|⟨_,h⟩
 ·exact absurd h λh=>I1 ha.cut ha.cut h h
 ·rw[c1,e]
 ·exact absurd h λh=>I1 ha.cut ha.cut h h
theorem jF{c:Cr}{l l':List Pt}{r1:Uw}{ws:List Wt}(hc:CrOk c)(hl:∀p∈l',Sc p.c)(hn:l'.length≤1000)(h:Tp c.l c.now (Ga (ZM l' c.now))=some ws) :
 U8 prog 373 [.one (.ow 0 0),.agg [pts l'],.oi 0] [.blk 196 (Ho c (U4 l) r1)] [.oi 0] [.blk 196 (Ho ⟨c.now,ws,c.ev⟩ (U4 l') (mT l' c.now))]:=by
 have hB:=mX hl hn;have cn:=QU (T:=196) (c:=c) (r0:=U4 l') (r1:=r1) hc.n;have cb:=OW (c:=c) (r1:=r1) hl hn hc.n;have cg:=YK (T:=196) (r0:=U4 l') (r1:=mT l' c.now) hc hc.n (I9 hc.n) (J5 0) (hB.p _ hc.n) (hB.n _ hc.n) h;refine Fz func373 rfl ?_;exact Ul [] [0] [.f rfl,.c [0] cn,.c [0] cb,.c [0] cg] rfl
theorem Quv{c:Cr}{l s:List Pt}(hs:s.length<=1000000):U8 prog 88 [.one (.ow 0 0)] [.blk 196 (Ho c (U4 l) (U4 s))] [.one (ids (s.map (·.id)))] [.blk 196 (Ho c (U4 l) (U4 s))]:=by
 have hcl:=G8 s;refine Fz func88 rfl ?_;refine Uh [.o 3 3 1] rfl ?_;refine Um (S:=Nat) 2 (λL1 i=>(11,.v (.oi i))::(3,.v (.one (.orow 1 1 none)))::L1) (λi=>[.blk 196 (Ho c (U4 l) (U4 s)),.row false 3 1 (((s.take i).map (·.id)).map λ(z:Int)=>[LV.int .i64 z])]) (λi=>s.length-i) (λi=>i<=s.length) 0 (Qh _) rfl rfl λi hi=>?_
 by_cases hlt:i<s.length
 ·obtain⟨p,hp⟩:=gxE (l:=s) (i:=i) hlt;have hg:(((s.take (i+1)).map (·.id)).map λ(z:Int)=>[LV.int .i64 z])=(((s.take i).map (·.id)).map λ(z:Int)=>[LV.int .i64 z])++[[.int .i64 p.id]]:=by
   rw[Z3,hp];simp
  refine Ui [.t (by simp[hcl];omega),.x (S8 hp),.s (sz:=1) (l:=[[.int .i64 p.id]]) (λc hc=>by rw[Ql.1 hc];rfl)] rfl ?_;exact rd (i+1) (by omega) hlt (by rw[hg];rfl)
 ·obtain rfl:i=s.length:=by omega
  rw[Q7];exact Ul [1] [0] [.f (by simp[hcl])] rfl
theorem Quw{lx ly:Uw}{px py:Uq}{x y:LV}{d id:Int}{c:Cr}{l:List Pt}{r1:Uw}{ws:List Wt}(hx:IsInts lx px)(hy:IsInts ly py)(hd:Gi x y d)(hk:Cs 4294967294 1073741824 (Crv.mk px py d))(hll:l.length<=900)
 (he:WL l ⟨Crv.norm (Crv.mk px py d),id⟩=0) (hc:CrOk c) (hl:∀p∈put l ⟨Crv.norm (Crv.mk px py d),id⟩,Sc p.c) (hn:(put l ⟨Crv.norm (Crv.mk px py d),id⟩).length≤1000) (h:Tp c.l c.now (Ga (ZM (put l ⟨Crv.norm (Crv.mk px py d),id⟩) c.now))=some ws) :
 U8 prog 369 [.one (.ow 0 0),.agg [.row lx,.row ly,x,y,.int .i64 id]] [.blk 196 (Ho c (U4 l) r1)] [.oi 0] [.blk 196 (Ho ⟨c.now,ws,c.ev⟩ (U4 (put l ⟨Crv.norm (Crv.mk px py d),id⟩)) (mT (put l ⟨Crv.norm (Crv.mk px py d),id⟩) c.now))]:=by
 have cp:=uW (l:=l) (id:=id) hx hy hd hk (by omega);rw[if_pos he,he]at cp;have cw:=jF (l:=l) (r1:=r1) hc hl hn h;refine Fz func369 rfl ?_;obtain⟨b,l',rfl,rfl,_⟩:=hd;exact Ul [] [0] [.k cp,.c [0] cw] rfl
theorem Quu{t:Rat}{l:List Pt}{K:Nat}{c c':Cr}{r1 r1':Uw}{n:Int}(ht:Qs 1640000 t)(hl:∀p∈l,Sc p.c)(hn:l.length≤1000)(hc:CrOk c)(hev:0≤c.ev/\c.ev+K≤1000000000000000000)(h:Fq c.now t≤0)(hg:HC (ZM l) (mT l) t K c r1 0=some (c',r1',n)) :
 U8 prog 365 [.one (.ow 0 0),.agg (rl t)] [.blk 196 (Ho c (U4 l) r1)] [.oi n,.oi 0] [.blk 196 (Ho c' (U4 l) r1')]:=by
 have cg:=Qyx (T:=196) (r0:=U4 l) ht (mX hl hn) (λa c r1 ha _=>OW (c:=c) (r1:=r1) hl hn ha) hc hev h hg;refine Fz func365 rfl ?_;exact Ul [] [0] [.k (Nw (ht.mono (by decide))),.c [0] cg] rfl
theorem Qgg{c:Cr}{r0 r1:Uw}:U8 prog 51 [.one (.ow 0 0)] [.blk 196 (Ho c r0 r1)] [.one (.ow 1 0)] [.blk 196 (Ho c r0 r1),.blk 196 (Ho c r0 r1)]:=by
 refine Fz func51 rfl ?_;exact Ul [] [0,1] [] rfl
abbrev idl(l:Uq):Uw:=l.map λ(z:Int)=>[.int .i64 z]
theorem NG{l:Uq}{i:Nat}{z:Int}(h:l[i]? = some z):(idl l)[i]? = some [.int .i64 z]:=Hm h
theorem mI{a b:Uq}(ha:a.length<=1000000)(hb:b.length<=1000000):Un 49 [.one (ids a),.one (ids b)] [.one (.bool (decide (a=b)))]:=by
 show Un 49 [.one (.row (idl a)),.one (.row (idl b))] _;have la:(idl a).length=a.length:=by simp
 have lb:(idl b).length=b.length:=by simp
 refine Fz func49 rfl ?_;by_cases hl:a.length=b.length
 ·refine Uh [.f (by simp;omega)] rfl ?_;refine Um (S:=Nat) 0 (λL1 i=>(5,.v (.oi i))::L1) (λ_=>[]) (λi=>a.length-i) (λi=>i<=a.length/\a.take i=b.take i) 0 ⟨Qh _,rfl⟩ rfl rfl λi ⟨hi,he⟩=>?_
  by_cases hlt:i<a.length
  ·obtain⟨x,hx⟩:=gxE (l:=a) (i:=i) hlt;obtain⟨y,hy⟩:=gxE (l:=b) (i:=i) (by omega);by_cases e:x=y
   ·refine Ui [.t (by simp;omega),.x (NG hx),.x (NG hy),.f (by simpa using e)] rfl ?_;exact rd (i+1) (by omega) ⟨hlt,by rw[Z3,Z3,hx,hy,he,e]⟩ rfl
   ·have hne:a≠b:=λh=>by rw[h,hy]at hx;injection hx with hx;exact e hx.symm
    exact Uj [.t (by simp;omega),.x (NG hx),.x (NG hy),.t (by simpa using e)] rfl (by simp[hne]) trivial
  ·obtain rfl:i=a.length:=by omega
   have hab:a=b:=by rw[Q7]at he;rw[he,hl,Q7]
   exact Uj [.f (by simp)] rfl (by simp[hab]) trivial
 ·have hne:a≠b:=λh=>hl (by rw[h])
  exact Uj [.t (by simp;omega)] rfl (by simp[hne]) trivial
def Tl(v n:Int):Int:=if n<1 then 0 else v.emod n
theorem Qek{v n:Int}(h:0<n):(if v.tmod n<0 then v.tmod n+n else v.tmod n)=v % n:=by
 have h3:=Yf v (show n≠0 by omega);have h4:=Jt v h;have h1:=Int.tmod_eq_emod (a:=v) (b:=n);have hn:((n.natAbs:Nat):Int)=n:=by omega
 split at h1
 ·rw[h1];simp;omega
 ·rename_i hc;rw[h1,hn];have:v % n≠0:=λe=>hc (.inr (Vg e))
  rw[if_pos (by omega)];omega
theorem Lb{v n:Int}(hv:-9223372036854775808<=v/\v<=9223372036854775807)(hn:n<=1000000000):Un 13 [.oi v,.oi n] [.oi (Tl v n)]:=by
 unfold Tl;by_cases h:n<1
 ·rw[if_pos h];exact Uk func13 rfl [.t (by simpa using h)] rfl
 ·rw[if_neg h];have e:=Qek (v:=v) (n:=n) (by omega);have h3:=Yf v (show n≠0 by omega);have h4:=Jt v (show 0<n by omega);show Un 13 [.oi v,.oi n] [.oi (v % n)];by_cases h0:v.tmod n<0
  ·rw[if_pos h0]at e;have b:-n<=v.tmod n:=by omega
   exact Uk func13 rfl [.f (by simpa using h),.t (by simpa using h0)] rfl (by rw[e]) (by simp[U5];omega)
  ·rw[if_neg h0]at e;exact Uk func13 rfl [.f (by simpa using h),.f (by simpa using h0)] rfl (by rw[e]) (by simp[U5];omega)
end Orr
namespace Orr
open Go Go.Proofs Tryz Orq
theorem sM{x y:Int}(hx:-9223372036854775808<=x/\x<=9223372036854775807)(hy:-9223372036854775808<=y/\y<=9223372036854775807):Sc (Tj x y):=⟨Crv.nml _,((uI hx hy).norm (by decide)).mono (by decide) (by decide)⟩
theorem Sc.pt{p:Pt}(h:Sc p.c):Qtx 4294967294 1073741824 p:=⟨h.n,h.c.mono (by decide) (by decide)⟩
end Orr
namespace Orr
open Go Go.Proofs Tryz Orq
set_option maxRecDepth 10000
def IH(l:List Pt)(a:Tm):List Ct:=Lp (Fx a) l
abbrev brP(l:List Pt)(a:Tm):Uw:=U4 (JK (Fx a) l)
theorem eG{l:List Pt}{a:Tm}:∀x∈IH l a,x.p∈MX l:=λx hx=>by
 match l,hx with
 |
  u::v::l',hx =>
  unfold IH at hx;simp only[Lp]at hx;obtain⟨h3,h4⟩:=Ln (Fx a) (l:=u::v::l') (Gh (u::v::l')) (u,v) ⟨by simp,by simp⟩ (Ty _ _);obtain⟨m,hm,rfl⟩:=ON hx;obtain⟨h1,h2⟩:=Ty _ _ m hm;rw[EV];exact BU h3 h4 h1 h2
theorem Qfb{l:List Pt}(hl:∀p∈l,Sc p.c)(hn:l.length≤10):BuildOk (IH l) :=
 ⟨λ_ _ x hx=>UF hl _ (eG x hx),λa _=>by
  have:=zG (Fx a) l;have:l.length*l.length<=10*10:=Q8 hn hn;show(Lp (Fx a) l).length<=1000;omega⟩
def Qyl(l:List Pt)(a:Tm):Cr:=⟨a,(Ga (IH l a)).map fresh,0⟩
theorem Qn2{t:Rat}{l:List Pt}{K:Nat}{c c':Cr}{r1 r1':Uw}{n:Int}(ht:Qs 1640000 t)(hl:∀p∈l,Sc p.c)(hn:l.length≤10)(hc:CrOk c)(hev:0≤c.ev/\c.ev+K≤1000000000000000000)(h:Fq c.now t≤0)(hg:HC (IH l) (brP l) t K c r1 0=some (c',r1',n)) :
 U8 prog 403 [.one (.ow 0 0),.agg (rl t)] [.blk 203 (Ho c (U4 l) r1)] [.oi n,.oi 0] [.blk 203 (Ho c' (U4 l) r1')]:=by
 have cg:=Qul (T:=203) (r0:=U4 l) ht (Qfb hl hn) (λa c r1 ha _=>OK (c:=c) (r1:=r1) hl hn ha) hc hev h hg;refine Fz func403 rfl ?_;exact Ul [] [0] [.k (Nw (ht.mono (by decide))),.c [0] cg] rfl
theorem aZ{c:Cr}{r0:Uw}{a b:Pt}:U8 prog 92 [.one (.ow 0 0)] [.blk 203 (Ho c r0 (U4 [a,b]))] [.oi a.id,.oi b.id,.one (.bool true)] [.blk 203 (Ho c r0 (U4 [a,b]))]:=by
 refine Fz func92 rfl ?_;exact Ul [] [0] [.f rfl,.x (l:=U4 [a,b]) (i:=0) (xs:=Ff a) rfl,.x (l:=U4 [a,b]) (i:=1) (xs:=Ff b) rfl] rfl
theorem uK{c:Cr}{r0:Uw}:U8 prog 92 [.one (.ow 0 0)] [.blk 203 (Ho c r0 [])] [.oi 0,.oi 0,.one (.bool false)] [.blk 203 (Ho c r0 [])]:=by
 refine Fz func92 rfl ?_;exact Ul [] [0] [.t rfl] rfl
end Orr
namespace Orr
open Go
def MV(q:Uq->Int)(a b:Pt):Pt×Pt:=if Ce q a b=true then(a,b)else(b,a)
def O1(q:Uq->Int):Nat->List Pt->List Pt×List (Pt×Pt)
 | 0,l=>(l,[])
 |
  k+1,l=>if l.length<2 then(l,[])else
  match (O1 q k (l.take ((l.length+1) / 2))).1,(O1 q k (l.drop ((l.length+1) / 2))).1 with
  |a::_,b::_=>([(MV q a b).1],(O1 q k (l.take ((l.length+1) / 2))).2++(O1 q k (l.drop ((l.length+1) / 2))).2++[MV q a b])
  |_,_=>([],[])
theorem Ds(q:Uq->Int):∀(k:Nat) (l:List Pt),l.length<=k->O1 q k l=O1 q l.length l
 | 0,l,h=>by rw[show l.length=0 by omega]
 |
  k+1,l,h=>by
  cases hl:l.length with
  |zero=>simp[O1,hl]
  |
   succ m =>
   simp only[O1];by_cases h2:l.length<2
   ·rw[if_pos h2,if_pos h2]
   ·rw[if_neg h2,if_neg h2];have h3:(l.take ((l.length+1) / 2)).length<=m:=by rw[Qr];omega
    have h4:(l.drop ((l.length+1) / 2)).length<=m:=by rw[Q9];omega
    rw[Ds q k (l.take ((l.length+1) / 2)) (by omega),Ds q k (l.drop ((l.length+1) / 2)) (by omega),Ds q m (l.take ((l.length+1) / 2)) h3,Ds q m (l.drop ((l.length+1) / 2)) h4]
termination_by k=>k
def No(q:Uq->Int)(l:List Pt):List Pt×List (Pt×Pt):=O1 q l.length l
theorem Cq(q:Uq->Int){l:List Pt}(h:l.length<2):No q l=(l,[]):=by
 unfold No;cases hl:l.length with
 |zero=>rfl
 |succ m=>simp only[O1];rw[if_pos h]
theorem O2(q:Uq->Int){l:List Pt}(h:¬l.length<2){a b:Pt}(ha:(No q (l.take ((l.length+1) / 2))).1=[a])(hb:(No q (l.drop ((l.length+1) / 2))).1=[b]) :
 No q l=([(MV q a b).1],(No q (l.take ((l.length+1) / 2))).2++(No q (l.drop ((l.length+1) / 2))).2++[MV q a b]):=by
 unfold No at ha hb ⊢;obtain⟨m,hm⟩:∃m,l.length=m+1:=⟨l.length-1,by omega⟩;have h3:(l.take ((l.length+1) / 2)).length<=m:=by rw[Qr];omega
 have h4:(l.drop ((l.length+1) / 2)).length<=m:=by rw[Q9];omega
 rw[<-Ds q m _ h3]at ha ⊢;rw[<-Ds q m _ h4]at hb ⊢;rw[show O1 q l.length l=O1 q (m+1) l by rw[hm]];simp only[O1];rw[if_neg h,ha,hb]
theorem Np(q:Uq->Int):∀(k:Nat) (l:List Pt),l.length≤k->0<l.length->∃a,(No q l).1=[a]/\a∈l/\∀m∈(No q l).2,m.1∈l/\m.2∈l
 | 0,l,h,h0=>by omega
 |
  k+1,l,h,h0=>by
  by_cases h2:l.length<2
  ·rw[Cq q h2]
   match l,h0,h2 with
   | [a],_,_=>exact⟨a,rfl,by simp,by simp⟩
  ·obtain⟨a,ha,hal,ham⟩:=Np q k (l.take ((l.length+1) / 2)) (by rw[Qr];omega) (by rw[Qr];omega);obtain⟨b,hb,hbl,hbm⟩:=Np q k (l.drop ((l.length+1) / 2)) (by rw[Q9];omega) (by rw[Q9];omega);rw[O2 q h2 ha hb];have hd:(MV q a b).1∈l/\(MV q a b).2∈l:=by
    unfold MV;split
    ·exact⟨Qo hal,Qz hbl⟩
    ·exact⟨Qz hbl,Qo hal⟩
   refine⟨_,rfl,hd.1,λm hm=>?_⟩;rcases Qq.1 hm with hm|hm
   ·rcases Qq.1 hm with hm|hm
    ·exact⟨Qo (ham m hm).1,Qo (ham m hm).2⟩
    ·exact⟨Qz (hbm m hm).1,Qz (hbm m hm).2⟩
   ·rw[Ql.1 hm];exact hd
theorem Dt(q:Uq->Int):∀(k:Nat) (l:List Pt),l.length<=k->(No q l).2.length<=l.length-1
 | 0,l,h=>by rw[Cq q (by omega)];simp
 |
  k+1,l,h=>by
  by_cases h2:l.length<2
  ·rw[Cq q h2];simp
  ·obtain⟨a,ha,_⟩:=Np q l.length (l.take ((l.length+1) / 2)) (by rw[Qr];omega) (by rw[Qr];omega);obtain⟨b,hb,_⟩:=Np q l.length (l.drop ((l.length+1) / 2)) (by rw[Q9];omega) (by rw[Q9];omega);rw[O2 q h2 ha hb];have h3:=Dt q k (l.take ((l.length+1) / 2)) (by rw[Qr];omega);have h4:=Dt q k (l.drop ((l.length+1) / 2)) (by rw[Q9];omega);rw[Qr]at h3;rw[Q9]at h4;simp only[Qu,Vv];omega
abbrev Qdu(m:Pt×Pt):Uv:=[pl m.1.c.x,pl m.1.c.y,sg m.1.c.d,mg m.1.c.d,.int .i64 m.1.id,pl m.2.c.x,pl m.2.c.y,sg m.2.c.d,mg m.2.c.d,.int .i64 m.2.id]
end Orr
namespace Orq
open Orr Go
def FC(q:Rat)(x y:Pt):Prop:=py y q<py x q\/py y q=py x q/\(px y q<px x q\/px y q=px x q/\x.id<y.id)
theorem Qjo(q:Rat)(x:Pt):¬FC q x x:=by unfold FC;grind
theorem Qpy(q:Rat)(x y z:Pt)(h:FC q x y)(h':FC q y z):FC q x z:=by unfold FC at *;grind
theorem Qjp{q:Rat}{x y:Pt}(h:x.id≠y.id)(h':¬FC q x y):FC q y x:=by unfold FC at *;grind
theorem Qbw{a:Tm}(ha:Va a){x y:Pt}(hx:Sc x.c)(hy:Sc y.c){q:Rat}(h1:Hl (Fx a) (Gb y.c x.c)=Fh (Fa (Gb y.c x.c) q))(h2:Hl (Fx a) (Gd y.c x.c)=Fh (Fa (Gd y.c x.c) q)):Ce (Fx a) x y=true↔FC q x y:=by
 rw[SX hy hx]at h1;rw[SJ hy hx]at h2;have d1:=(Mk hy hx).dp;have d2:=(Ml hy hx).dp;unfold Ce;simp only[Ea];have t1:=Ge (py x q-py y q);have t2:=Ge (px x q-px y q);by_cases e1:(Gb y.c x.c).length=0
 ·rw[if_neg (by omega)];rw[Qj e1,XH]at h1;have:py x q=py y q:=by grind
  by_cases e2:(Gd y.c x.c).length=0
  ·rw[if_neg (by omega)];rw[Qj e2,XH]at h2;unfold FC;simp only[decide_eq_true_eq];grind
  ·rw[if_pos (by omega)];have:=(Ep ha d2 e2).2;unfold FC;simp only[decide_eq_true_eq];grind
 ·rw[if_pos (by omega)];have:=(Ep ha d1 e1).2;unfold FC;simp only[decide_eq_true_eq];grind
theorem uQ{l:List Pt}(hl:∀p∈l,Sc p.c){a:Tm}(ha:Va a):∃y,Fq a y=-1/\∀q,Fq a q=-1->q≤y->∀u∈l,∀v∈l,(Ce (Fx a) u v=true↔FC q u v):=by
 obtain⟨y,y1,y2⟩:=XR ha (Ek l) λp hp=>(QY hl p hp).dp
 refine⟨y,y1,λq q1 q2 u hu v hv=>?_⟩;have h:=y2 q q1 q2;exact Qbw ha (hl u hu) (hl v hv) (h _ (Sl hv hu).2) (h _ (Sl hv hu).1)
theorem cY{a b:Tm}{x y:Pt}(h:Hl (Fx b) (Ar x y)=Hl (Fx a) (Ar x y)):Ce (Fx b) x y=Ce (Fx a) x y:=by
 unfold Ar Ly at h;unfold Ce;simp only[Ea];by_cases e1:0<(Gb y.c x.c).length
 ·rw[if_pos e1,if_pos e1];rw[if_pos e1]at h;rw[h]
 ·rw[if_neg e1,if_neg e1];rw[if_neg e1]at h;rw[h]
theorem Qi9{l:List Pt}{k:Nat}(h2:¬l.length<2)(hk:l.length<=k+1):(l.take ((l.length+1) / 2)).length<=k/\(l.drop ((l.length+1) / 2)).length<=k/\0<(l.take ((l.length+1) / 2)).length/\0<(l.drop ((l.length+1) / 2)).length:=by
 rw[Qr,Q9];omega
theorem TC{sa sb:Uq->Int}:∀(k:Nat) (l:List Pt),l.length≤k->l.Pairwise (λx y=>x.id≠y.id)->(∀u∈l,∀v∈l,u.id≠v.id->Ce sa u v=false->Ce sa v u=true)->(∀u∈l,∀v∈l,Ce sb v u=true->Ce sb u v=false)->(∀m∈(No sa l).2,Ce sb m.1 m.2=Ce sa m.1 m.2)->No sb l=No sa l
 | 0,l,hk,_,_,_,_=>by rw[Cq _ (by omega),Cq _ (by omega)]
 |
  k+1,l,hk,hd,h1,h2,hm=>by
  by_cases hs:l.length<2
  ·rw[Cq _ hs,Cq _ hs]
  ·obtain⟨k1,k2,k3,k4⟩:=Qi9 hs hk;obtain⟨a,ha,hal,_⟩:=Np sa k (l.take ((l.length+1) / 2)) k1 k3;obtain⟨b,hb,hbl,_⟩:=Np sa k (l.drop ((l.length+1) / 2)) k2 k4;have hpl:=O2 sa hs ha hb;rw[hpl]at hm;have hd':=hd;rw[<-Zi ((l.length+1) / 2) l]at hd';obtain⟨d1,d2,d3⟩:=X2.1 hd';have i1:=TC k _ k1 d1 (λu hu v hv=>h1 u (Qo hu) v (Qo hv)) (λu hu v hv=>h2 u (Qo hu) v (Qo hv)) λm hm'=>hm m (by simp[hm'])
   have i2:=TC k _ k2 d2 (λu hu v hv=>h1 u (Qz hu) v (Qz hv)) (λu hu v hv=>h2 u (Qz hu) v (Qz hv)) λm hm'=>hm m (by simp[hm'])
   have hal':=Qo hal;have hbl':=Qz hbl;have e:MV sb a b=MV sa a b:=by
    have hmem:=hm (MV sa a b) (by simp);unfold MV at hmem ⊢;by_cases h:Ce sa a b=true
    ·rw[if_pos h]at hmem ⊢;rw[if_pos (hmem.trans h)]
    ·rw[if_neg h]at hmem ⊢;have h:Ce sa a b=false:=by simpa using h
     have:=h2 a hal' b hbl' (hmem.trans (h1 a hal' b hbl' (d3 a hal b hbl) h));rw[if_neg (by simp[this])]
   rw[hpl,O2 sb hs (by rw[i1];exact ha) (by rw[i2];exact hb),i1,i2,e]
end Orq
namespace Orr
open Orq Go
def SD(l:List Pt)(a:Tm):List Ct:=(No (Fx a) l).2.map λm=>D5 (Fx a) m.1 m.2
def mS(l:List Pt)(a:Tm):Uw×Uw:=((No (Fx a) l).1.map Ff,(No (Fx a) l).2.map Qdu)
theorem JF{sg:Uq->Int}{l:List Pt}:∀m∈(No sg l).2,m.1∈l/\m.2∈l:=λm hm=>by
 by_cases h:0<l.length
 ·obtain⟨_,_,_,h3⟩:=Np sg l.length l (Qk _) h;exact h3 m hm
 ·rw[Cq _ (by omega)]at hm;cases hm
theorem Qt3{l:List Pt}(hl:∀p∈l,Sc p.c){a:Tm}:∀x∈SD l a,Cp x.p:=λx hx=>by
 obtain⟨m,hm,rfl⟩:=Q6.1 hx;obtain⟨h1,h2⟩:=JF m hm;exact YS (Mk (hl _ h2) (hl _ h1)) (Ml (hl _ h2) (hl _ h1))
theorem mJ{l:List Pt}(hl:∀p∈l,Sc p.c)(hn:l.length≤1000):BuildOk (SD l) :=
 ⟨λa _=>Qt3 hl,λa _=>by
  unfold SD;rw[List.length_map];have:=Dt (Fx a) l.length l (Qk _);omega⟩
theorem Qni{l:List Pt}{a:Tm}:∀x∈SD l a,x.p∈Ek l:=λx hx=>by
 obtain⟨m,hm,rfl⟩:=Q6.1 hx;obtain⟨h1,h2⟩:=JF m hm;show Ar m.1 m.2∈Ek l;unfold Ar Ly;split
 ·exact(Sl h2 h1).2
 ·exact(Sl h2 h1).1
theorem Q0d{l:List Pt}(hl:∀p∈l,Sc p.c)(hn:l.length≤1000)(hd:l.Pairwise λx y=>x.id≠y.id):Stab (SD l) (mS l):=by
 refine⟨mJ hl hn,⟨Ek l,QY hl,λa _ x hx=>?_⟩,λa b ha hb h=>?_⟩
 ·obtain⟨m,hm,rfl⟩:=Q6.1 hx;obtain⟨h1,h2⟩:=JF m hm;show Ar m.1 m.2∈Ek l;unfold Ar Ly;split
  ·exact(Sl h2 h1).2
  ·exact(Sl h2 h1).1
 ·obtain⟨y,y1,y2⟩:=uQ hl ha;obtain⟨z,z1,z2⟩:=uQ hl hb;have ga:=y2 y y1 Qp;have gb:=z2 z z1 Qp;have e:No (Fx b) l=No (Fx a) l:=TC l.length l (Qk _) hd (λu hu v hv hne hf=>(ga v hv u hu).2 (Qjp hne λh=>by
   rw[(ga u hu v hv).2 h]at hf;cases hf)) (λu hu v hv ht=>by
   cases hb':Ce (Fx b) u v
   ·rfl
   ·exact absurd (Qpy z u v u ((gb u hu v hv).1 hb') ((gb v hv u hu).1 ht)) (Qjo z u)) λm hm=>cY (h (D5 (Fx a) m.1 m.2) (Q6.2 ⟨m,hm,rfl⟩))
  refine⟨?_,by unfold mS;rw[e]⟩;unfold SD;rw[e];refine Xu λm hm=>?_
  have:=h (D5 (Fx a) m.1 m.2) (Q6.2 ⟨m,hm,rfl⟩);unfold D5;rw[show Hl (Fx b) (Ar m.1 m.2)=Hl (Fx a) (Ar m.1 m.2) from this]
end Orr
namespace Orq
open Orr Go
def Io(a:Crv):Ur:=[Fv a.x a.d,Fv a.y a.d,A7 (Gl a.x a.x) (Gl a.y a.y),[a.d*a.d]]
def DX(a b c d:Crv):List Ur:=[Io a,Io b,Io c,Io d]
def ZS(a b c d:Crv):Uq:=Lr 4 (DX a b c d)
theorem GW{s:Nat}{k:Crv}(hn:YZ k)(hc:Cs s 3 k):(∀p∈Io k,Fe p/\Bd (s+s+3) p)/\∀(j:Nat) (p:Uq),(Io k)[j]? = some p->p.length≤[2,2,4,0].getD j 0+1:=by
 have l1:=Fp k.x k.d;have l2:=Fp k.y k.d;have l3:=H9 k.x k.x;have l4:=H9 k.y k.y;have l5:=Lj (Gl k.x k.x) (Gl k.y k.y);have kx:=hc.lx;have ky:=hc.ly;have bx:Bd (s+s+2) (Gl k.x k.x):=Pp hc.x hc.x (by omega);have by_:Bd (s+s+2) (Gl k.y k.y):=Pp hc.y hc.y (by omega);have hd:=hn.2.2.1;have hd0:k.d*k.d≠0:=λe=>by rcases Yg.1 e with e|e <;> omega
 have td:Fe [k.d*k.d]:=by unfold Fe;simp[trim,hd0]
 refine⟨λp hp=>?_,λj p hp=>?_⟩
 ·simp only[Io,Qm,Xl,or_false]at hp;rcases hp with rfl|rfl|rfl|rfl
  ·exact⟨Fy _ _,U7 (Gj hc.x hc.d) (by omega)⟩
  ·exact⟨Fy _ _,U7 (Gj hc.y hc.d) (by omega)⟩
  ·exact⟨Fy _ _,U7 (YY bx by_) (by omega)⟩
  ·refine⟨td,λz hz=>?_⟩;rw[Ql.1 hz];have:=Gf k.d k.d;have:=hc.d;omega
 ·match j,hp with
  | 0,hp=>injection hp with hp;subst hp;show _<=3;omega
  | 1,hp=>injection hp with hp;subst hp;show _<=3;omega
  | 2,hp=>injection hp with hp;subst hp;show _<=5;omega
  | 3,hp=>injection hp with hp;subst hp;exact Qk _
  |j+4,hp=>simp[Io]at hp
theorem AN{s:Nat}{a b c d:Crv}(na:YZ a)(nb:YZ b)(nc:YZ c)(nd:YZ d)(ca:Cs s 3 a)(cb:Cs s 3 b)(cc:Cs s 3 c)(cd:Cs s 3 d):Sq (s+s+3) [2,2,4,0] 4 4 (DX a b c d):=by
 have hr:∀r∈DX a b c d,∃k:Crv,YZ k/\Cs s 3 k/\r=Io k:=λr hr=>by
  simp only[DX,Qm,Xl,or_false]at hr;rcases hr with rfl|rfl|rfl|rfl
  ·exact⟨a,na,ca,rfl⟩
  ·exact⟨b,nb,cb,rfl⟩
  ·exact⟨c,nc,cc,rfl⟩
  ·exact⟨d,nd,cd,rfl⟩
 refine⟨rfl,λr h=>?_,λr h p hp=>?_,λr h p hp=>?_,λr h j p hp=>?_⟩
 all_goals obtain⟨k,kn,kc,rfl⟩:=hr r h
 ·rfl
 ·exact((GW kn kc).1 p hp).1
 ·exact((GW kn kc).1 p hp).2
 ·exact(GW kn kc).2 j p hp
theorem iZ{a b c d:Crv}(ha:Sc a)(hb:Sc b)(hc:Sc c)(hd:Sc d):Cp (ZS a b c d):=by
 obtain⟨h1,h2,h3⟩:=VQ 4 [2,2,4,0] (DX a b c d) (by decide) rfl (by decide) (AN ha.n hb.n hc.n hd.n ha.c hb.c hc.c hd.c);exact⟨h1,Qa h3 (by decide),U7 h2 (by decide)⟩
def zZ(sg:Uq->Int)(a b c d:Pt):Ct:=⟨4,a.id,b.id,c.id,d.id,ZS a.c b.c c.c d.c,Hl sg (ZS a.c b.c c.c d.c)⟩
abbrev P3:=Pt×(Pt×Pt)
abbrev P4:=Pt×P3
def C0:Nat->List Pt->List P3
 | 0,_=>[]
 |_+1,[]=>[]
 |k+1,x::l=>(Gh l).map (λm=>(x,m))++C0 k l
def Hx(l:List Pt):List P3:=C0 l.length l
def Du:Nat->List Pt->List P4
 | 0,_=>[]
 |_+1,[]=>[]
 |k+1,x::l=>(Hx l).map (λm=>(x,m))++Du k l
def Ax(l:List Pt):List P4:=Du l.length l
theorem VR:∀(l:List Pt) (i:Nat) (x:Pt),l[i]? = some x->C0 (i+1) l=C0 i l++(Gh (l.drop (i+1))).map (λm=>(x,m))
 | [],i,x,h=>by simp at h
 |y::l,0,x,h=>by simp at h;subst h;simp[C0]
 |
  y::l,i+1,x,h=>by
  have ih:=VR l i x (by simpa using h);show(Gh l).map _++C0 (i+1) l=((Gh l).map _++C0 i l)++_;rw[ih,Ze];rfl
theorem TL:∀(l:List Pt) (i:Nat) (x:Pt),l[i]? = some x->Du (i+1) l=Du i l++(Hx (l.drop (i+1))).map (λm=>(x,m))
 | [],i,x,h=>by simp at h
 |y::l,0,x,h=>by simp at h;subst h;simp[Du]
 |
  y::l,i+1,x,h=>by
  have ih:=TL l i x (by simpa using h);show(Hx l).map _++Du (i+1) l=((Hx l).map _++Du i l)++_;rw[ih,Ze];rfl
theorem HW:∀(k:Nat) (l:List Pt),∀m∈C0 k l,m.1∈l/\m.2.1∈l/\m.2.2∈l
 | 0,l,m,h=>by simp[C0]at h
 |k+1,[],m,h=>by simp[C0]at h
 |
  k+1,x::l,m,h=>by
  rcases Qq.1 h with h|h
  ·obtain⟨y,hy,rfl⟩:=Q6.1 h;obtain⟨h1,h2⟩:=Ty _ _ y hy;exact⟨Qy ..,Qg _ h1,Qg _ h2⟩
  ·obtain⟨h1,h2,h3⟩:=HW k l m h;exact⟨Qg _ h1,Qg _ h2,Qg _ h3⟩
theorem AG:∀(k:Nat) (l:List Pt),∀m∈Du k l,m.1∈l/\m.2.1∈l/\m.2.2.1∈l/\m.2.2.2∈l
 | 0,l,m,h=>by simp[Du]at h
 |k+1,[],m,h=>by simp[Du]at h
 |
  k+1,x::l,m,h=>by
  rcases Qq.1 h with h|h
  ·obtain⟨y,hy,rfl⟩:=Q6.1 h;obtain⟨h1,h2,h3⟩:=HW _ _ y hy;exact⟨Qy ..,Qg _ h1,Qg _ h2,Qg _ h3⟩
  ·obtain⟨h1,h2,h3,h4⟩:=AG k l m h;exact⟨Qg _ h1,Qg _ h2,Qg _ h3,Qg _ h4⟩
theorem VK{l:List Pt}(h:l.length<=6):(Hx l).length<=20/\(Ax l).length<=15:=by
 match l,h with
 | [],_=>exact⟨Zg rfl,Zg rfl⟩
 | [_],_=>exact⟨Zg rfl,Zg rfl⟩
 | [_,_],_=>exact⟨Zg rfl,Zg rfl⟩
 | [_,_,_],_=>exact⟨Zg rfl,Zg rfl⟩
 | [_,_,_,_],_=>exact⟨Zg rfl,Zg rfl⟩
 | [_,_,_,_,_],_=>exact⟨Zg rfl,Zg rfl⟩
 | [_,_,_,_,_,_],_=>exact⟨Zg rfl,Zg rfl⟩
 |_::_::_::_::_::_::_::_,h=>simp at h
abbrev Ba:=List (Uq×LV)
def MF(sg:Uq->Int)(m:P3):Ct:=Ll sg m.1 m.2.1 m.2.2
def RG(sg:Uq->Int)(m:P4):Ct:=zZ sg m.1 m.2.1 m.2.2.1 m.2.2.2
def bC(m:P3):Uq:=[m.1.id,m.2.1.id,m.2.2.id]
def Qzm(m:P4):Uq:=[m.1.id,m.2.1.id,m.2.2.1.id,m.2.2.2.id]
def A2(V:List (Uq×Int)):Ba:=V.foldl (λM e=>Ec M e.1 (.int .i64 e.2)) []
def ZL(sg:Uq->Int)(ps:List P3):List (Uq×Int):=ps.map λm=>(bC m,(MF sg m).want)
def VE(sg:Uq->Int)(ps:List P4):List (Uq×Int):=ps.map λm=>(Qzm m,(RG sg m).want)
theorem lM(sg:Uq->Int)(ps:List P3)(m:P3):A2 (ZL sg (ps++[m]))=Ec (A2 (ZL sg ps)) (bC m) (.int .i64 (MF sg m).want):=by simp[A2,ZL]
def Oe(T:Ba)(s:Int)(n:Uq)(F:Ba)(skip:Nat):Ba:=if ZC T (n.eraseIdx skip)*(if (3-skip) % 2=1 then -s else s)>0 then Ec F (n.eraseIdx skip) (.bool true)else F
def qJ(T:Ba)(s:Int)(n:Uq)(F:Ba):Ba:=Oe T s n (Oe T s n (Oe T s n (Oe T s n F 0) 1) 2) 3
def Oh(T:Ba)(V:List (Uq×Int)):Ba:=V.foldl (λF e=>qJ T e.2 e.1 F) []
theorem bV(sg:Uq->Int)(T:Ba)(ps:List P4)(m:P4):Oh T (VE sg (ps++[m]))=qJ T (RG sg m).want (Qzm m) (Oh T (VE sg ps)):=by simp[Oh,VE]
def yP(T F:Ba)(m:P3):Bool:=decide (ZC T (bC m)≠0) && !(BB F (bC m))
theorem Qv0{T F:Ba}{ps:List P3}{m:P3}(h:yP T F m=true):(ps++[m]).filter (yP T F)=ps.filter (yP T F)++[m]:=by simp[Vk,h]
theorem Qio{T F:Ba}{ps:List P3}{m:P3}(h:yP T F m=false):(ps++[m]).filter (yP T F)=ps.filter (yP T F):=by simp[Vk,h]
def rR(sg:Uq->Int)(l:List Pt):List Ct:=(Hx (Rw l)).map (MF sg)++(Ax (Rw l)).map (RG sg)
def rT(sg:Uq->Int)(l:List Pt):List P3:=(Hx (Rw l)).filter (yP (A2 (ZL sg (Hx (Rw l)))) (Oh (A2 (ZL sg (Hx (Rw l)))) (VE sg (Ax (Rw l)))))
abbrev trL(m:P3):Uv:=[.int .i64 m.1.id,.int .i64 m.2.1.id,.int .i64 m.2.2.id]
def UY(l:List P3):Uw:=l.map trL
theorem pV(l:List P3):(UY l).length=l.length:=by simp[UY]
theorem Qdo(sg:Uq->Int){l:List Pt}(h:l.length<=6):(rT sg l).length<=20:=by
 have hw:=A4 l;exact Qa (Y0 _ _) (VK (l:=Rw l) (by omega)).1
theorem Qdn(sg:Uq->Int){l:List Pt}(h:l.length<=6):(rR sg l).length<=35:=by
 have hw:=A4 l;obtain⟨h1,h2⟩:=VK (l:=Rw l) (by omega);unfold rR;rw[Qu,Za,Za];omega
def MN(l:List Pt)(a:Tm):List Ct:=rR (Fx a) l
abbrev mH(l:List Pt)(a:Tm):Uw:=UY (rT (Fx a) l)
def wB(l:List Pt):Ur:=(Hx (Rw l)).map (λm=>G7 m.1.c m.2.1.c m.2.2.c)++(Ax (Rw l)).map λm=>ZS m.1.c m.2.1.c m.2.2.1.c m.2.2.2.c
theorem jZ{l:List Pt}(hl:∀p∈l,Sc p.c):∀p∈wB l,Cp p:=λp hp=>by
 have hw:=λ(x:Pt) (h:x∈Rw l)=>hl x (My h)
 rcases Qq.1 hp with hp|hp
 ·obtain⟨m,hm,rfl⟩:=Q6.1 hp;obtain⟨h1,h2,h3⟩:=HW _ _ m hm;exact YH (hw _ h1) (hw _ h2) (hw _ h3)
 ·obtain⟨m,hm,rfl⟩:=Q6.1 hp;obtain⟨h1,h2,h3,h4⟩:=AG _ _ m hm;exact iZ (hw _ h1) (hw _ h2) (hw _ h3) (hw _ h4)
theorem jJ{l:List Pt}{a:Tm}:∀x∈MN l a,x.p∈wB l:=λx hx=>by
 rcases Qq.1 hx with hx|hx
 ·obtain⟨m,hm,rfl⟩:=Q6.1 hx;exact Z8 _ (Q6.2 ⟨m,hm,rfl⟩)
 ·obtain⟨m,hm,rfl⟩:=Q6.1 hx;exact Z4 _ (Q6.2 ⟨m,hm,rfl⟩)
theorem Qe5{l:List Pt}(h:l.length<=6):(wB l).length<=1000000:=by
 have hw:=A4 l;obtain⟨h1,h2⟩:=VK (l:=Rw l) (by omega);unfold wB;rw[Qu,Za,Za];omega
theorem mQ{l:List Pt}(hl:∀p∈l,Sc p.c)(hn:l.length≤6):BuildOk (MN l) :=
 ⟨λ_ _ x hx=>jZ hl _ (jJ x hx),λa _=>Qa (Qdn _ hn) (by decide)⟩
theorem Qz9{l:List Pt}(hl:∀p∈l,Sc p.c)(hn:l.length≤6):Stab (MN l) (mH l):=by
 refine⟨mQ hl hn,⟨wB l,jZ hl,λa _=>jJ⟩,λa b _ _ h=>?_⟩;have e1:∀m∈Hx (Rw l),MF (Fx b) m=MF (Fx a) m:=λm hm=>by
  have:=h (MF (Fx a) m) (Z8 _ (Q6.2 ⟨m,hm,rfl⟩));have e:Hl (Fx b) (G7 m.1.c m.2.1.c m.2.2.c)=Hl (Fx a) (G7 m.1.c m.2.1.c m.2.2.c):=this;unfold MF Ll;rw[e]
 have e2:∀m∈Ax (Rw l),RG (Fx b) m=RG (Fx a) m:=λm hm=>by
  have:=h (RG (Fx a) m) (Z4 _ (Q6.2 ⟨m,hm,rfl⟩));have e:Hl (Fx b) (ZS m.1.c m.2.1.c m.2.2.1.c m.2.2.2.c)=Hl (Fx a) (ZS m.1.c m.2.1.c m.2.2.1.c m.2.2.2.c):=this;unfold RG zZ;rw[e]
 have t1:ZL (Fx b) (Hx (Rw l))=ZL (Fx a) (Hx (Rw l)):=Xu λm hm=>by rw[e1 m hm]
 have t2:VE (Fx b) (Ax (Rw l))=VE (Fx a) (Ax (Rw l)):=Xu λm hm=>by rw[e2 m hm]
 constructor
 ·unfold MN rR;rw[Xu e1,Xu e2]
 ·unfold mH rT;rw[t1,t2]
def Qyj(l:List Pt)(a:Tm):Cr:=⟨a,(Ga (MN l a)).map fresh,0⟩
def wS(M:Ba):Prop:=∀k,(Am M k).getD (.int .i64 0)=.int .i64 (ZC M k)/\-1<=ZC M k/\ZC M k<=1
def VO(M:Ba):Prop:=∀k,(Am M k).getD (.bool false)=.bool (BB M k)
theorem qB(M:Ba)(k:Uq)(x:LV)(k':Uq):Am (Ec M k x) k'=if k'=k then some x else Am M k':=by
 induction M with
 |nil=>simp[Ec,Am]
 |
  cons e M ih =>
  simp only[Ec];by_cases h:k=e.1
  ·rw[if_pos h];simp only[Am];by_cases h2:k'=k
   ·rw[if_pos h2,if_pos h2]
   ·rw[if_neg h2,if_neg h2,if_neg (λe2=>h2 (e2.trans h.symm))]
  ·rw[if_neg h];simp only[Am];by_cases h2:k'=e.1
   ·rw[if_pos h2,if_pos h2,if_neg (λe2=>h (e2.symm.trans h2))]
   ·rw[if_neg h2,if_neg h2,ih]
theorem Qjg:wS []:=λ_=>⟨rfl,show(-1:Int)<=0 by decide,show(0:Int)<=1 by decide⟩
theorem Qby:VO []:=λ_=>rfl
theorem Qjh{M:Ba}(h:wS M){k:Uq}{n:Int}(hn:-1<=n/\n<=1):wS (Ec M k (.int .i64 n)):=by
 intro k';have h1:=h k';unfold ZC at h1 ⊢;rw[qB];by_cases e:k'=k
 ·rw[if_pos e];exact⟨rfl,hn.1,hn.2⟩
 ·rw[if_neg e];exact h1
theorem Qbz{M:Ba}(h:VO M){k:Uq}{b:Bool}:VO (Ec M k (.bool b)):=by
 intro k';have h1:=h k';unfold BB at h1 ⊢;rw[qB];by_cases e:k'=k
 ·rw[if_pos e];rfl
 ·rw[if_neg e];exact h1
theorem Ia{T F:Ba}{s:Int}{n:Uq}{k:Nat}(h:VO F):VO (Oe T s n F k):=by
 unfold Oe;generalize (if (3-k) % 2=1 then -s else s)=s'
 split
 ·exact Qbz h
 ·exact h
theorem mF{T F:Ba}{s:Int}{n:Uq}(h:VO F):VO (qJ T s n F):=Ia (Ia (Ia (Ia h)))
theorem Qdq{x s:Int}(hx:-1<=x/\x<=1)(hs:-1<=s/\s<=1):-9223372036854775808<=x*s/\x*s<=9223372036854775807:=by
 have h:x=-1\/x=0\/x=1:=by omega
 rcases h with rfl|rfl|rfl <;> omega
structure MOk(M:List Pt):Prop where
 sc:∀p∈M,Sc p.c
 ln:M.length<=6
 so:Cc M
theorem MOk.df{M:List Pt}(h:MOk M):M.Pairwise λx y=>x.id≠y.id:=h.so.imp λh e=>by omega
structure Knd(β:Type) where
 bc:List Pt->Tm->List Ct
 br:List Pt->Tm->β
 al:List Pt->List (List Int)
structure KndOk{β:Type}(k:Knd β):Prop where
 st:∀M,MOk M->Stab (k.bc M) (k.br M)
 cp:∀M,MOk M->∀p∈k.al M,Cp p
 al:∀M a,∀x∈k.bc M a,x.p∈k.al M
 ln:∀M,MOk M->(k.al M).length<=1000000
abbrev kS:Knd Uw:=⟨ZM,mT,Ek⟩
abbrev kT:Knd (Uw×Uw):=⟨SD,mS,Ek⟩
abbrev kH:Knd Uw:=⟨HB,brH,λl=>Ek l++HA l⟩
abbrev kP:Knd Uw:=⟨IH,brP,MX⟩
abbrev kD:Knd Uw:=⟨MN,mH,wB⟩
theorem BF{l:List Pt}(h:l.length<=6):(Ek l).length<=72:=by
 rw[Qe6];exact Qa (Q8 h (Q8 h (Qk 2))) (by decide)
theorem FG{α β:Type}{f:α->List β}{n:Nat}(l:List α)(h:∀x∈l,(f x).length=n):(l.flatMap f).length=l.length*n:=by
 induction l with
 |nil=>simp
 |
  cons x l ih =>
  rw[Jp,Qu,h x (by simp),ih λy hy=>h y (Qg _ hy),Q3,Xn];omega
theorem eQ(l:List Pt):(HA l).length=l.length*(l.length*l.length):=by
 unfold HA;exact FG l λx _=>FG l λy _=>by simp
theorem lO(l:List Pt):(MX l).length=l.length*(l.length*(l.length*l.length)):=by
 unfold MX;exact FG l λx _=>FG l λy _=>FG l λz _=>by simp
theorem okS:KndOk kS:=⟨λM h=>Q0c h.sc (by have:=h.ln;omega) h.df,λM h=>QY h.sc,λM a=>eH,λM h=>Qa (BF h.ln) (by decide)⟩
theorem okT:KndOk kT:=⟨λM h=>Q0d h.sc (by have:=h.ln;omega) h.df,λM h=>QY h.sc,λM a=>Qni,λM h=>Qa (BF h.ln) (by decide)⟩
theorem okH:KndOk kH:=⟨λM h=>Q0a h.sc (by have:=h.ln;omega) h.df,λM h=>MS h.sc,λM a=>jY,λM h=>by
 have h1:=BF h.ln;have h2:=eQ M;have h3:M.length*(M.length*M.length)<=6*(6*6):=Q8 h.ln (Q8 h.ln h.ln);show(Ek M++HA M).length<=_;rw[Qu];omega⟩
theorem okP:KndOk kP:=⟨λM h=>Q0b h.sc (by have:=h.ln;omega) h.df,λM h=>UF h.sc,λM a=>eG,λM h=>by
 have h3:M.length*(M.length*(M.length*M.length))<=6*(6*(6*6)):=Q8 h.ln (Q8 h.ln (Q8 h.ln h.ln));show(MX M).length<=_;rw[lO];omega⟩
theorem okD:KndOk kD:=⟨λM h=>Qz9 h.sc h.ln,λM h=>jZ h.sc,λM a=>jJ,λM h=>Qe5 h.ln⟩
open Classical in
noncomputable def cnt(bc:Tm->List Ct)(q t:Rat):Nat:=if h:∃E,Evs bc t (tq q) E then(Classical.choose h).length else 0
theorem Qhs{β:Type}{Bc:Tm->List Ct}{Br:Tm->β}(S:Stab Bc Br){q t:Rat}(hq:Va (tq q)){E:List Tm}(h:Evs Bc t (tq q) E):cnt Bc q t=E.length:=by
 have hx:∃E,Evs Bc t (tq q) E:=⟨E,h⟩;unfold cnt;rw[dif_pos hx];exact Qvz S hq (Classical.choose_spec hx) h
structure At{β:Type}(k:Knd β)(M:List Pt)(q:Rat)(c:Cr):Prop where
 now:c.now=tq q
 st:KSt (k.bc M) (k.br M) c (k.br M (tq q))
section
variable{β:Type}{k:Knd β}(ok:KndOk k){M M':List Pt}{q t:Rat}{c:Cr}
include ok
theorem At.again(h:At k M q c)(hM:MOk M'):∃ws,Tp c.l c.now (Ga (k.bc M' c.now))=some ws/\At k M' q ⟨tq q,ws,c.ev⟩:=by
 obtain⟨⟨o,kk⟩,hcs,hr⟩:=h.st;have S:=ok.st M' hM;obtain⟨ws,l1,l2⟩:=bL o.n o.l (Ga (k.bc M' c.now));have o':=Orr.lay_ok c.ev o o.n (S.ok.p _ o.n) (S.ok.n _ o.n) l1;have hl:=oK o.n o.n (λh=>I1 o.n.cut o.n.cut h h) o.l kk l1;rw[h.now]at o' hl l2;exact⟨ws,l1,rfl,⟨⟨o',hl⟩,l2,rfl⟩⟩
theorem At.adv(h:At k M q c)(hM:MOk M)(ht:Qs 1640000 t)(hqt:q<=t) :
 ∃(K:Nat) (c':Cr),K<=67000001/\HC (k.bc M) (k.br M) t K c (k.br M (tq q)) 0=some (c',k.br M (tq t),((cnt (k.bc M) q t:Nat):Int))/\At k M t c'/\c'.ev=c.ev+((cnt (k.bc M) q t:Nat):Int)/\cnt (k.bc M) q t<=67000000/\cnt (k.bc M) q t<=((k.al M).flatMap VG).length:=by
 have S:=ok.st M hM;have hP:=ok.cp M hM;have hm:=Qbf hP;have hmu:=Qtd ((k.al M).flatMap VG) c.now;have hl:=ok.ln M hM;have hv:=h.st.inv.ok.n;have hc:Fq c.now t<=0:=by rw[h.now,IZ];rcases Pg q t with⟨e,e'⟩|⟨e,e'⟩|⟨e,e'⟩ <;> first|omega|(exfalso;grind)
 obtain⟨c',r',E,g1,g2,g3,g4,g5,g6⟩:=Qs5 S ht hP (λa _=>ok.al M a) (mu ((k.al M).flatMap VG) c.now) c _ 0 (Qk _) h.st λh'=>by
  have:=(KO hv.cut).2 h';omega
 have hr:r'=k.br M (tq t):=by rw[g3.r,g2]
 rw[hr]at g1 g3;rw[Int.zero_add]at g1;rw[h.now]at g6;have he:=Qhs S (by rw[<-h.now];exact hv) g6;rw[he];exact⟨_,c',by omega,g1,⟨g2,g3⟩,g4,by omega,by omega⟩
theorem yW(hM:MOk M)(hq:Qs 1640000 q)(ht:Qs 1640000 t)(hqt:q<=t):∃E,Evs (k.bc M) t (tq q) E/\E.length=cnt (k.bc M) q t:=by
 have S:=ok.st M hM;have hv:=SG hq;have hc:¬Mh (tq t) (tq q):=λh'=>by
  have:=(KO hv.cut).2 h';rw[IZ]at this;rcases Pg q t with⟨e,e'⟩|⟨e,e'⟩|⟨e,e'⟩ <;> first|omega|grind
 obtain⟨c',r',E,g1,g2,g3,g4,g5,g6⟩:=Qs5 S ht (ok.cp M hM) (λa _=>ok.al M a) (mu ((k.al M).flatMap VG) (tq q)) ⟨tq q,(Ga (k.bc M (tq q))).map fresh,0⟩ (k.br M (tq q)) 0 (Qk _) (Qfe S hv) hc;exact⟨E,g6,(Qhs S hv g6).symm⟩
theorem YG{s:Rat}(hM:MOk M)(hq:Qs 1640000 q)(hs:Qs 1640000 s)(ht:Qs 1640000 t)(hqs:q<=s)(hst:s<=t):cnt (k.bc M) q t=cnt (k.bc M) q s+cnt (k.bc M) s t:=by
 obtain⟨E1,h1,e1⟩:=yW ok hM hq hs hqs;obtain⟨E2,h2,e2⟩:=yW ok hM hs ht hst;obtain⟨E,h,e⟩:=yW ok hM hq ht (Zk hqs hst);have hv:=SG hq;have:=Qpm (ok.st M hM) hst (SG hs) h1 hv (λh'=>by
  have:=(KO hv.cut).2 h';rw[IZ]at this;rcases Pg q s with⟨e,e'⟩|⟨e,e'⟩|⟨e,e'⟩ <;> first|omega|grind) h2 h
 omega
theorem XZ(hM:MOk M)(hq:Qs 1640000 q):cnt (k.bc M) q q=0:=by
 have:=YG ok hM hq hq hq Qp Qp;omega
end
theorem At.begin{β:Type}{k:Knd β}(ok:KndOk k){M:List Pt}{q:Rat}(hM:MOk M)(hq:Qs 1640000 q):At k M q ⟨tq q,(Ga (k.bc M (tq q))).map fresh,0⟩:=⟨rfl,Qfe (ok.st M hM) (SG hq)⟩
end Orq
namespace Orq
open Orr Go
theorem Qbc(x:Rat):∀L:Uu,L≠[]->tc x 0 L+1<=L.length
 | [],h=>absurd rfl h
 |
  f::l,_=>by
  simp only[tc,Q3]
  split
  ·by_cases h:l=[]
   ·subst h;simp[tc]
   ·have:=Qbc x l h;omega
  ·have:=lS x l (Fh (ev f x));rw[if_neg (by omega)];omega
theorem aC:∀{k:Nat} {a b:Uq} {l:Ur},Fe a->Fe b->a.length<=60->b.length<=60->wH k a b=some l->l.length<=b.length
 | 0,_,_,_,_,_,_,_,h=>by cases h
 |
  k+1,a,b,l,ta,tb,ha,hb,h=>by
  simp only[wH]at h
  split at h
  ·injection h with h;subst h;exact Qh _
  ·rename_i h0;obtain⟨_,r2,_⟩:=GL ta tb h0 ha;obtain⟨r,hr,h⟩:=Qd.1 h;obtain⟨l',h1,h⟩:=Qd.1 h;injection h with h;subst h;unfold IK at hr
   split at hr
   ·injection hr with hr;subst hr;have h2:=Oj (Ry a b);have:=aC (b:=Mq (Ry a b)) tb (Fy _ _) hb (by omega) h1;rw[Q3];omega
   ·cases hr
theorem Qcu{p q:Uq}{c:Ur}(hq:Pd p=some q)(tq:Fe q)(h9:q.length<=60)(h:Db p=some c):c.length<=q.length/\c≠[]:=by
 unfold Db at h;rw[hq]at h;simp only[Xy]at h
 split at h
 ·cases h
 ·rename_i h0;obtain⟨d,hd,h⟩:=Qd.1 h;obtain⟨l,h1,h⟩:=Qd.1 h;injection h with h;subst h;refine⟨?_,by simp⟩;have h2:d=Gv q:=by
   unfold IK at hd
   split at hd
   ·injection hd with hd;exact hd.symm
   ·cases hd
  subst h2;have h3:=Mn q;have h4:Fe (Fj (Gv q))/\(Fj (Gv q)).length<=(Gv q).length:=by
   by_cases e:(Gv q).length=0
   ·have e':Fj (Gv q)=[]:=by unfold Fj;rw[if_pos e]
    rw[e'];exact⟨rfl,Qh _⟩
   ·obtain⟨t1,t2,_⟩:=Mr (p:=Gv q) (Fy _ _) e;exact⟨t1,by omega⟩
  have:=aC tq h4.1 h9 (by omega) h1;rw[Q3];omega
theorem VH{p:Uq}(h:Cp p):(VG p).length<=p.length-1:=by
 unfold VG;cases hl:ZU p with
 |none=>exact Qh _
 |
  some l =>
  show l.length<=_;unfold ZU at hl;by_cases h0:p.length=0
  ·have e:p=[]:=Qj h0;subst e;injection hl with hl;rw[<-hl];exact Qh _
  ·obtain⟨qp,o,q1,o1,hpt⟩:=cS (n:=9) (s:=1110) (p:=p) ⟨⟨by decide,by decide⟩,h.t,h0,h.l,h.b⟩;obtain⟨p1,p2,p3,p4,p5,p6,p7⟩:=Mr h.t h0;have hpl:=h.l;obtain⟨hh,th,eh⟩:=hpt.oh;have bo:Bd 1179 o:=QN (p5 1110 h.b) (by omega) p1 hpt.ot th (by omega) eh;obtain⟨lo1,lo2⟩:=Ru p1 (by omega) eh;have hlen:=Mf hpt.ot th p1 eh lo1 lo2;have ho:o.length≠0:=by omega
   have oko:Okp 9 1180 o:=⟨vF,hpt.ot,by omega,by omega,U7 bo (by omega)⟩;obtain⟨q,c,l',r1,r2,r3,_,hRI,_,_,hlq,_⟩:=sU (Qk _) oko;obtain⟨g',q',s1,s2⟩:=QQ oko;rw[r1]at s1;injection s1 with s1;subst s1;rw[o1,Xy,if_neg ho,r3]at hl;have hl:=Option.some.inj hl;subst hl;obtain⟨c1,c2⟩:=Qcu r1 s2.pq.t (by omega) r2;have hll:=hRI.len;have h2:tc (-Gz q) 0 (c.map cz)+1<=(c.map cz).length:=Qbc _ _ (by simpa using c2);rw[Za]at h2;have h3:vv (c.map cz) (-Gz q)=tc (-Gz q) 0 (c.map cz):=rfl;omega
theorem Qws{T:List Tm}{a b:Tm}(h:∀q,Fq a q=Fq b q):mu T a=mu T b:=by
 unfold mu;congr 1;refine Wy λt _=>?_
 have:Mh a t↔Mh b t:=by unfold Mh;simp only[h]
 simp[this]
theorem Qqc{p p':Uq}(tp:Fe p)(h':∀t,Fa p' t=-Fa p t){a t:Tm}(h:S9 p a (some t)):S9 p' a (some t):=by
 obtain⟨h1,h2,h3,s,h4,h5,h6⟩:=h;have key:∀{c:Rat->Int} {s:Int},RS (cz p) c s->RS (cz p') c (-s):=λ⟨y,y1,y2⟩=>⟨y,y1,λq q1 q2=>by
  have:=y2 q q1 q2;rw[Fb]at this ⊢;rw[h',Qec,this]⟩
 refine⟨λe=>h1 (vP tp λt=>?_),h2,h3,-s,by omega,λc hc ha hm=>key (h5 c hc ha hm),?_⟩
 ·have:=h' t;rw[e]at this;have h0:Fa [] t=0:=rfl;rw[h0]at this;grind
 ·have:=key h6;exact this
theorem Qvy{Bc:Tm->List Ct}{Q:Ur}(hQ:∀p∈Q,Cp p)(hv:∀a,Va a->∀x∈Bc a,Cp x.p)(hB:∀a,Va a->∀x∈Bc a,x.p=[]\/∃p∈Q,p=x.p\/∀t,Fa p t=-Fa x.p t){t:Rat}{a:Tm}{E:List Tm}(h:Evs Bc t a E)(ha:Va a):E.length≤mu (Q.flatMap VG) a:=by
 have hT:∀t∈Q.flatMap VG,Va t:=λu hu=>by
  obtain⟨p,p1,p2⟩:=Zc.1 hu;exact Qmb (hQ p p1) u p2
 induction h with
 |nil _=>exact Qh _
 |
  @cons a e E he h1 h2 h3 h4 h5 ih =>
  obtain⟨x,hx,hn⟩:=h4;have ih:=ih he;rcases hB a ha x hx with e0|⟨p,hp,hpp⟩
  ·exact absurd e0 hn.1
  ·have hn':S9 p a (some e):=by
    rcases hpp with rfl|hpp
    ·exact hn
    ·exact Qqc (hv a ha x hx).t hpp hn
   obtain⟨r,_,r2,r3⟩:=WH (hQ p hp) ha;cases r with
   |none=>exact(Py ha hn' r2).elim
   |
    some u =>
    have hu:=r3 u rfl;have hm:u∈Q.flatMap VG:=Zc.2 ⟨p,hp,hu⟩;have e1:=Qws (T:=Q.flatMap VG) (I3 ha hn' r2);have:=Qj3 ha.cut (hT u hm).cut (λt ht=>(hT t ht).cut) r2.2.2.1 hm;rw[Q3];omega
theorem FU{Q:Ur}{n:Nat}(h:∀p∈Q,(VG p).length≤n):(Q.flatMap VG).length≤Q.length*n:=by
 induction Q with
 |nil=>simp
 |
  cons p Q ih =>
  have h1:=h p (by simp);have h2:=ih λq hq=>h q (Qg _ hq)
  rw[Jp,Qu,Q3,Xn];omega
structure DgC(D:Nat)(k:Crv):Prop where
 x:k.x.length<=D+1
 y:k.y.length<=D+1
section
variable{D:Nat}{a b c d:Crv}
theorem fK(ha:DgC D a)(hb:DgC D b):(Gd a b).length<=D+1:=by
 have h1:=Pm (Fv b.x a.d) (Fv a.x b.d);have h2:=Fp b.x a.d;have h3:=Fp a.x b.d;have h4:=ha.x;have h5:=hb.x;unfold Gd;omega
theorem fY(ha:DgC D a)(hb:DgC D b):(Gb a b).length<=D+1:=by
 have h1:=Pm (Fv b.y a.d) (Fv a.y b.d);have h2:=Fp b.y a.d;have h3:=Fp a.y b.d;have h4:=ha.y;have h5:=hb.y;unfold Gb;omega
theorem fV(ha:DgC D a)(hb:DgC D b):(Rq a b).length<=2*D+1:=by
 have h1:=fK ha hb;have h2:=fY ha hb;have h3:=H9 (Gd a b) (Gd a b);have h4:=H9 (Gb a b) (Gb a b);have h5:=Lj (Gl (Gd a b) (Gd a b)) (Gl (Gb a b) (Gb a b));unfold Rq;omega
theorem nN(ha:DgC D a)(hb:DgC D b)(hc:DgC D c)(hd:DgC D d):(Hh a b c d).length<=2*D+1:=by
 have h1:=fV ha hb;have h2:=fV hc hd;have h3:=Pm (Fv (Rq c d) ((a.d*b.d)*(a.d*b.d))) (Fv (Rq a b) ((c.d*d.d)*(c.d*d.d)));have h4:=Fp (Rq c d) ((a.d*b.d)*(a.d*b.d));have h5:=Fp (Rq a b) ((c.d*d.d)*(c.d*d.d));unfold Hh;omega
theorem OP(sa:Sc a)(sb:Sc b)(sc:Sc c)(hD:D<=2)(ha:DgC D a)(hb:DgC D b)(hc:DgC D c):(G7 a b c).length<=2*D+1:=by
 have h:=AB sa sb sc;have h':Sq 128 [D,D,0] 3 3 (EF a b c):=⟨h.l,h.w,h.t,h.b,λr hr j p hp=>by
  have:∃k:Crv,DgC D k/\r=[k.x,k.y,[k.d]]:=by
   simp only[EF,Qm,Xl,or_false]at hr;rcases hr with rfl|rfl|rfl
   ·exact⟨a,ha,rfl⟩
   ·exact⟨b,hb,rfl⟩
   ·exact⟨c,hc,rfl⟩
  obtain⟨k,hk,rfl⟩:=this
  match j,hp with
  | 0,hp=>injection hp with hp;subst hp;exact hk.x
  | 1,hp=>injection hp with hp;subst hp;exact hk.y
  | 2,hp=>injection hp with hp;subst hp;exact Qk _
  |j+3,hp=>simp at hp⟩
 have:=(VQ 3 [D,D,0] _ (by decide) rfl (by simp;omega) h').2.2;have e:[D,D,0].sum=2*D:=by simp;omega
 rw[e]at this;exact this
theorem Qpc(sa:Sc a)(sb:Sc b)(sc:Sc c)(sd:Sc d)(hD:D<=2)(ha:DgC D a)(hb:DgC D b)(hc:DgC D c)(hd:DgC D d):(ZS a b c d).length<=4*D+1:=by
 have h:=AN sa.n sb.n sc.n sd.n sa.c sb.c sc.c sd.c;have h':Sq (128+128+3) [D,D,2*D,0] 4 4 (DX a b c d):=⟨h.l,h.w,h.t,h.b,λr hr j p hp=>by
  have:∃k:Crv,DgC D k/\r=Io k:=by
   simp only[DX,Qm,Xl,or_false]at hr;rcases hr with rfl|rfl|rfl|rfl
   ·exact⟨a,ha,rfl⟩
   ·exact⟨b,hb,rfl⟩
   ·exact⟨c,hc,rfl⟩
   ·exact⟨d,hd,rfl⟩
  obtain⟨k,hk,rfl⟩:=this;have l1:=Fp k.x k.d;have l2:=Fp k.y k.d;have l3:=H9 k.x k.x;have l4:=H9 k.y k.y;have l5:=Lj (Gl k.x k.x) (Gl k.y k.y);have kx:=hk.x;have ky:=hk.y
  match j,hp with
  | 0,hp=>injection hp with hp;subst hp;show _<=D+1;omega
  | 1,hp=>injection hp with hp;subst hp;show _<=D+1;omega
  | 2,hp=>injection hp with hp;subst hp;show _<=2*D+1;omega
  | 3,hp=>injection hp with hp;subst hp;exact Qk _
  |j+4,hp=>simp[Io]at hp⟩
 have:=(VQ 4 [D,D,2*D,0] _ (by decide) rfl (by simp;omega) h').2.2;have e:[D,D,2*D,0].sum=4*D:=by simp;omega
 rw[e]at this;exact this
end
theorem GU(x:Pt)(l:List Pt):Gh (x::l)=l.map (λy=>(x,y))++Gh l:=rfl
theorem WN:∀l:List Pt,2*(Gh l).length<=l.length*l.length
 | []=>Qh _
 |
  x::l=>by
  have:=WN l;rw[GU,Qu,Za,Q3];simp only[Xn,Xk,Ku,Ye];omega
theorem zH:∀{l:List Pt} {x y:Pt},x∈l->y∈l->x=y\/(x,y)∈Gh l\/(y,x)∈Gh l
 | [],_,_,h,_=>by cases h
 |
  z::l,x,y,hx,hy=>by
  rw[GU];rcases Qm.1 hx with e|h1
  ·rcases Qm.1 hy with e'|h2
   ·exact .inl (e.trans e'.symm)
   ·exact .inr (.inl (Z8 _ (Q6.2 ⟨y,h2,by rw[e]⟩)))
  ·rcases Qm.1 hy with e'|h2
   ·exact .inr (.inr (Z8 _ (Q6.2 ⟨x,h1,by rw[e']⟩)))
   rcases zH h1 h2 with h|h|h
   ·exact .inl h
   ·exact .inr (.inl (Z4 _ h))
   ·exact .inr (.inr (Z4 _ h))
def LM(l:List Pt):Ur:=(Gh l).map (λm=>Gd m.1.c m.2.c)++(Gh l).map λm=>Gb m.1.c m.2.c
theorem xJ(a b:Crv)(t:Rat):Fa (Gd b a) t=-Fa (Gd a b) t:=by
 unfold Gd;rw[Ss,Ss];grind
theorem OQ(a b:Crv)(t:Rat):Fa (Gb b a) t=-Fa (Gb a b) t:=by
 unfold Gb;rw[Ss,Ss];grind
theorem LN{l:List Pt}{p:Uq}(tp:Fe p)(h:p∈Ek l):p=[]\/∃p'∈LM l,p'=p\/∀t,Fa p' t=-Fa p t:=by
 obtain⟨x,hx,h⟩:=Zc.1 h;obtain⟨y,hy,h⟩:=Zc.1 h;simp only[Qm,Xl,or_false]at h;rcases zH hx hy with rfl|e|e
 ·left;refine vP tp λt=>?_
  rcases h with rfl|rfl
  ·have:=xJ x.c x.c t;grind
  ·have:=OQ x.c x.c t;grind
 ·right;rcases h with rfl|rfl
  ·exact⟨_,Z8 _ (Q6.2 ⟨_,e,rfl⟩),.inl rfl⟩
  ·exact⟨_,Z4 _ (Q6.2 ⟨_,e,rfl⟩),.inl rfl⟩
 ·right;rcases h with rfl|rfl
  ·exact⟨_,Z8 _ (Q6.2 ⟨_,e,rfl⟩),.inr (xJ _ _)⟩
  ·exact⟨_,Z4 _ (Q6.2 ⟨_,e,rfl⟩),.inr (OQ _ _)⟩
theorem Qi8{l:List Pt}{p:Uq}(h:p∈LM l):∃x∈l,∃y∈l,p=Gd x.c y.c\/p=Gb x.c y.c:=by
 rcases Qq.1 h with h|h
 all_goals
  obtain⟨m,hm,rfl⟩:=Q6.1 h;obtain⟨h1,h2⟩:=Ty _ _ m hm
 ·exact⟨_,h1,_,h2,.inl rfl⟩
 ·exact⟨_,h1,_,h2,.inr rfl⟩
theorem IX:∀(k:Nat) (l:List Pt),k<=l.length->(C0 k l).length<=k*(l.length*l.length)
 | 0,l,_=>by simp[C0]
 |k+1,[],h=>by simp at h
 |
  k+1,x::l,h=>by
  have ih:=IX k l (by simpa using h);have h2:=WN l;have h3:l.length*l.length<=(l.length+1)*(l.length+1):=Q8 (by omega) (by omega);have h4:k*(l.length*l.length)<=k*((l.length+1)*(l.length+1)):=Zp _ h3;show((Gh l).map _++C0 k l).length<=_;rw[Qu,Za,Q3,Xn];omega
theorem sX:∀(k:Nat) (l:List Pt),k<=l.length->(Du k l).length<=k*(l.length*(l.length*l.length))
 | 0,l,_=>by simp[Du]
 |k+1,[],h=>by simp at h
 |
  k+1,x::l,h=>by
  have ih:=sX k l (by simpa using h);have h2:(Hx l).length<=l.length*(l.length*l.length):=IX l.length l (Qk _);have h3:l.length*(l.length*l.length)<=(l.length+1)*((l.length+1)*(l.length+1)):=Q8 (by omega) (Q8 (by omega) (by omega));have h4:k*(l.length*(l.length*l.length))<=k*((l.length+1)*((l.length+1)*(l.length+1))):=Zp _ h3;show((Hx l).map _++Du k l).length<=_;rw[Qu,Za,Q3,Xn];omega
section
variable{M:List Pt}{D:Nat}(hM:MOk M)(hd:∀p∈M,DgC D p.c)
include hM hd
theorem NF:∀p∈LM M,Cp p/\(VG p).length≤D:=λp hp=>by
 obtain⟨x,hx,y,hy,rfl|rfl⟩:=Qi8 hp
 ·have h:=Ml (hM.sc x hx) (hM.sc y hy);have:=VH h;have:=fK (hd x hx) (hd y hy);exact⟨h,by omega⟩
 ·have h:=Mk (hM.sc x hx) (hM.sc y hy);have:=VH h;have:=fY (hd x hx) (hd y hy);exact⟨h,by omega⟩
theorem LC:((LM M).flatMap VG).length<=M.length*M.length*D:=by
 have h1:=FU λp hp=>(NF hM hd p hp).2
 have h2:=WN M;have h3:(LM M).length<=M.length*M.length:=by unfold LM;rw[List.length_append,List.length_map,List.length_map];omega
 exact Qa h1 (Q0 _ h3)
theorem CE{β:Type}{k:Knd β}(ok:KndOk k){q t:Rat}(hq:Qs 1640000 q)(ht:Qs 1640000 t)(hqt:q≤t){Q:Ur}(hQ:∀p∈Q,Cp p)(hB:∀p∈k.al M,p=[]\/∃p'∈Q,p'=p\/∀t,Fa p' t=-Fa p t){n:Nat}(hn:(Q.flatMap VG).length≤n):cnt (k.bc M) q t≤n:=by
 obtain⟨E,h1,h2⟩:=yW ok hM hq ht hqt;have:=Qvy hQ (λa _ x hx=>ok.cp M hM _ (ok.al M a x hx)) (λa _ x hx=>hB _ (ok.al M a x hx)) h1 (SG hq);have:=Qtd (Q.flatMap VG) (tq q);omega
theorem Qyr{q t:Rat}(hq:Qs 1640000 q)(ht:Qs 1640000 t)(hqt:q<=t):cnt (ZM M) q t<=M.length*M.length*D :=
 CE hM hd okS hq ht hqt (λp hp=>(NF hM hd p hp).1) (λp hp=>LN (okS.cp M hM p hp).t hp) (LC hM hd)
theorem Qys{q t:Rat}(hq:Qs 1640000 q)(ht:Qs 1640000 t)(hqt:q<=t):cnt (SD M) q t<=M.length*M.length*D :=
 CE hM hd okT hq ht hqt (λp hp=>(NF hM hd p hp).1) (λp hp=>LN (okT.cp M hM p hp).t hp) (LC hM hd)
theorem Qyp(hD:D<=2){q t:Rat}(hq:Qs 1640000 q)(ht:Qs 1640000 t)(hqt:q<=t):cnt (HB M) q t<=2*(M.length*M.length*M.length*D)+M.length*M.length*D:=by
 have hO:∀p∈HA M,Cp p/\(VG p).length≤2*D:=λp hp=>by
  have hc:=okH.cp M hM p (Z4 _ hp);obtain⟨x,hx,hp⟩:=Zc.1 hp;obtain⟨y,hy,hp⟩:=Zc.1 hp;obtain⟨z,hz,rfl⟩:=Q6.1 hp;have:=VH hc;have:=OP (hM.sc x hx) (hM.sc y hy) (hM.sc z hz) hD (hd x hx) (hd y hy) (hd z hz);exact⟨hc,by omega⟩
 refine CE hM hd okH hq ht hqt (Q:=LM M++HA M) (λp hp=>?_) (λp hp=>?_) ?_
 ·rcases Qq.1 hp with hp|hp
  ·exact(NF hM hd p hp).1
  ·exact(hO p hp).1
 ·have hc:=(okH.cp M hM p hp).t;rcases Qq.1 hp with hp|hp
  ·rcases LN hc hp with e|⟨p',h1,h2⟩
   ·exact .inl e
   ·exact .inr ⟨p',Z8 _ h1,h2⟩
  ·exact .inr ⟨p,Z4 _ hp,.inl rfl⟩
 ·have h1:=LC hM hd;have h2:=FU λp hp=>(hO p hp).2
  rw[eQ]at h2;have e:M.length*(M.length*M.length)*(2*D)=2*(M.length*M.length*M.length*D):=by grind
  rw[List.flatMap_append,Qu];omega
theorem Qyq{q t:Rat}(hq:Qs 1640000 q)(ht:Qs 1640000 t)(hqt:q<=t):cnt (IH M) q t<=2*(M.length*M.length*M.length*M.length*D):=by
 refine CE hM hd okP hq ht hqt (Q:=MX M) (okP.cp M hM) (λp hp=>.inr ⟨p,hp,.inl rfl⟩) ?_;have h2:=FU (Q:=MX M) (n:=2*D) λp hp=>by
  have hc:=okP.cp M hM p hp;obtain⟨x,hx,hp⟩:=Zc.1 hp;obtain⟨y,hy,hp⟩:=Zc.1 hp;obtain⟨z,hz,hp⟩:=Zc.1 hp;obtain⟨w,hw,rfl⟩:=Q6.1 hp;have:=VH hc;have:=nN (hd x hx) (hd y hy) (hd z hz) (hd w hw);omega
 rw[lO]at h2;have e:M.length*(M.length*(M.length*M.length))*(2*D)=2*(M.length*M.length*M.length*M.length*D):=by grind
 omega
theorem Qyo(hD:D<=2){q t:Rat}(hq:Qs 1640000 q)(ht:Qs 1640000 t)(hqt:q<=t):cnt (MN M) q t<=2*(M.length*M.length*M.length*D)+4*(M.length*M.length*M.length*M.length*D):=by
 refine CE hM hd okD hq ht hqt (Q:=wB M) (okD.cp M hM) (λp hp=>.inr ⟨p,hp,.inl rfl⟩) ?_;have hc:=okD.cp M hM;have hw:=λ(x:Pt) (h:x∈Rw M)=>My h
 have h1:=FU (Q:=(Hx (Rw M)).map λm=>G7 m.1.c m.2.1.c m.2.2.c) (n:=2*D) λp hp=>by
  have hc:=hc p (Z8 _ hp);obtain⟨m,hm,rfl⟩:=Q6.1 hp;obtain⟨a1,a2,a3⟩:=HW _ _ m hm;have:=VH hc;have:=OP (hM.sc _ (hw _ a1)) (hM.sc _ (hw _ a2)) (hM.sc _ (hw _ a3)) hD (hd _ (hw _ a1)) (hd _ (hw _ a2)) (hd _ (hw _ a3));omega
 have h2:=FU (Q:=(Ax (Rw M)).map λm=>ZS m.1.c m.2.1.c m.2.2.1.c m.2.2.2.c) (n:=4*D) λp hp=>by
  have hc:=hc p (Z4 _ hp);obtain⟨m,hm,rfl⟩:=Q6.1 hp;obtain⟨a1,a2,a3,a4⟩:=AG _ _ m hm;have:=VH hc;have:=Qpc (hM.sc _ (hw _ a1)) (hM.sc _ (hw _ a2)) (hM.sc _ (hw _ a3)) (hM.sc _ (hw _ a4)) hD (hd _ (hw _ a1)) (hd _ (hw _ a2)) (hd _ (hw _ a3)) (hd _ (hw _ a4));omega
 have hl:=A4 M;have t1:(Hx (Rw M)).length<=M.length*(M.length*M.length):=Qa (IX _ _ (Qk _)) (Q8 hl (Q8 hl hl));have t2:(Ax (Rw M)).length<=M.length*(M.length*(M.length*M.length)):=Qa (sX _ _ (Qk _)) (Q8 hl (Q8 hl (Q8 hl hl)));rw[Za]at h1 h2;have h1:=Qa h1 (Q0 _ t1);have h2:=Qa h2 (Q0 _ t2);have e1:M.length*(M.length*M.length)*(2*D)=2*(M.length*M.length*M.length*D):=by grind
 have e2:M.length*(M.length*(M.length*M.length))*(4*D)=4*(M.length*M.length*M.length*M.length*D):=by grind
 unfold wB;rw[List.flatMap_append,Qu];omega
end
end Orq
namespace Orr
open Go Go.Proofs Tryz Orq
set_option maxRecDepth 10000
abbrev Tu(c:Cr)(r0:Uw)(r1:Uw×Uw):Uv:=.bool true::pl c.now.p::sg c.now.lo.num::mg c.now.lo.num::sg (c.now.lo.den:Int)::mg (c.now.lo.den:Int)::sg c.now.hi.num::mg c.now.hi.num::sg (c.now.hi.den:Int)::mg (c.now.hi.den:Int)::.row (Da c.l)::.int .i64 c.ev::[.row r0,.row r1.1,.row r1.2]
abbrev Qvi(r0:LV)(r1:LV×LV):Uv:=[.bool false,.nils,.bool false,.nils,.bool false,.nils,.bool false,.nils,.bool false,.nils,.nils,.int .i64 0,r0,r1.1,r1.2]
theorem nZ{T:Nat}{c:Cr}{r0:Uw}{r1:Uw×Uw}(hc:Va c.now):U8 prog 376 [.one (.ow 0 0)] [.blk T (Tu c r0 r1)] [.agg (ta c.now)] [.blk T (Tu c r0 r1)]:=by
 have cl:=Pf (b:=c.now) (l:=[]) hc.tb (λt ht=>by cases ht) (by decide) rfl;refine Fz func376 rfl ?_;exact Ul [] [0] [.f rfl,.k cl] rfl
theorem Qn9{T:Nat}{c:Cr}{r0:Uw}{r1:Uw×Uw}{x:Ct}{at_:Tm}{w:Wt}(hc:CrOk c)(hx:Cp x.p)(ha:Va at_)(h:Ck c.l x at_=some w):U8 prog 195 [.one (.ow 0 0),.agg (L9 x),.agg (ta at_)] [.blk T (Tu c r0 r1)] [.agg (wl w)] [.blk T (Tu c r0 r1)]:=by
 have hk:=hc.k;have hw:=S5 c.l;refine Fz func195 rfl ?_;refine Uh [] rfl ?_;refine Um (S:=Nat) 4 (λL1 i=>(14,.v (.oi i))::L1) (λ_=>[.blk T (Tu c r0 r1),.blk 126 (L9 x),.blk 189 (ta at_),.blk 291 [.int .i64 0,.int .i64 0,.int .i64 0,.int .i64 0,.int .i64 0,.nils,.int .i64 0,.bool false,.bool false,.nils,.bool false,.nils,.bool false,.nils,.bool false,.nils,.bool false,.nils]]) (λi=>c.l.length-i) (λi=>i<=c.l.length/\Ck (c.l.drop i) x at_=some w) 0 ⟨Qh _,h⟩ rfl rfl λi ⟨hi,hf⟩=>?_
 by_cases hlt:i<c.l.length
 ·obtain⟨v,hv⟩:=gxE (l:=c.l) (i:=i) hlt;have hdr:c.l.drop i=v::c.l.drop (i+1):=by
   rw[Zq hlt];congr 1;have:=Qe hlt;rw[hv]at this;injection this with this;exact this.symm
  have hvo:=hc.l v (Qc hv);rw[hdr]at hf;simp only[Ck]at hf;have hl:decide ((i:Int)<((Da c.l).length:Int))=true:=by simp[hw];omega
  by_cases A:sP v.c x=true
  ·have A':(!decide ([v.c.kind,v.c.i0,v.c.i1,v.c.i2,v.c.i3]=[x.kind,x.i0,x.i1,x.i2,x.i3]))=false:=by
    unfold sP at A;rw[A];rfl
   by_cases B:v.known=true
   ·have B':(!v.known)=false:=by rw[B];rfl
    have cs:=MD (p:=v.c.p) (q:=x.p) (Dp.pb hvo.p.dp).ln (Dp.pb hx.dp).ln (Dp.pb hvo.p.dp).bd (Dp.pb hx.dp).bd;rw[hvo.p.t,hx.t]at cs;by_cases C:v.c.p=x.p
    ·have C':(!decide (v.c.p=x.p))=false:=by simp[C]
     rw[if_pos ⟨A,B,C⟩]at hf;obtain⟨vc,vk,vf⟩:=v;cases vf with
     |
      none =>
      injection hf with hf;subst hf;exact Ul [] [0] [.t hl,.x (H7 hv),.g 24 false A',.g 29 false B',.k cs,.f C',.g 41 true rfl,.t rfl] rfl
     |
      some t =>
      obtain⟨r,r1',hf⟩:=Qd.1 hf;have cc:=KP (hvo.f t rfl).tb ha.tb r1';by_cases D:0<r
      ·rw[if_pos D]at hf;injection hf with hf;subst hf;exact Ul [] [0] [.t hl,.x (H7 hv),.g 24 false A',.g 29 false B',.k cs,.f C',.g 41 false rfl,.k cc,.t (by simpa using D)] rfl
      ·rw[if_neg D]at hf;refine Ui [.t hl,.x (H7 hv),.g 24 false A',.g 29 false B',.k cs,.f C',.g 41 false rfl,.k cc,.f (by simpa using D)] rfl ?_;exact rd (i+1) (by omega) ⟨hlt,hf⟩ rfl
    ·rw[if_neg λh=>C h.2.2]at hf;refine Ui [.t hl,.x (H7 hv),.g 24 false A',.g 29 false B',.k cs,.t (by simp[C])] rfl ?_;exact rd (i+1) (by omega) ⟨hlt,hf⟩ rfl
   ·rw[if_neg λh=>B h.2.1]at hf;refine Ui [.t hl,.x (H7 hv),.g 24 false A',.g 29 true (by simpa using B),.t rfl] rfl ?_;exact rd (i+1) (by omega) ⟨hlt,hf⟩ rfl
  ·rw[if_neg λh=>A h.1]at hf;refine Ui [.t hl,.x (H7 hv),.g 24 true (by rw[show decide ([v.c.kind,v.c.i0,v.c.i1,v.c.i2,v.c.i3]=[x.kind,x.i0,x.i1,x.i2,x.i3])=false from Ww.2 A];rfl),.g 29 true rfl,.t rfl] rfl ?_;exact rd (i+1) (by omega) ⟨hlt,hf⟩ rfl
 ·obtain rfl:i=c.l.length:=by omega
  rw[Yu]at hf;simp only[Ck]at hf;injection hf with hf;subst hf;exact Ul [] [0] [.f (by simp[hw])] rfl
theorem aY{T:Nat}{c:Cr}{r0:Uw}{r1:Uw×Uw}{at_:Tm}{l:List Ct}{ws:List Wt}(hc:CrOk c)(ha:Va at_)(hl:∀x∈l,Cp x.p)(hn:l.length≤1000)(h:Tp c.l at_ (Ga l)=some ws):U8 prog 161 [.one (.ow 0 0),.agg (ta at_),.one (.bool true),.one (.row (Ft l))] [.blk T (Tu c r0 r1)] [] [.blk T (Tu ⟨at_,ws,c.ev⟩ r0 r1)]:=by
 have cs:=jG (l:=l) (λx hx=>Dp.pb (hl x hx).dp) (by omega);have cl:=Pf (b:=at_) (l:=[]) ha.tb (λt ht=>by cases ht) (by decide) rfl;obtain⟨h1,h2⟩:=XC h;have hs:(Ga l).length=l.length:=Dv l;refine Fz func161 rfl ?_;refine Uh [.o 8 291 18,.k cs] rfl ?_;refine Um (S:=Nat) 3 (λL1 i=>(15,.v (.oi i))::(8,.v (.one (.orow 2 18 none)))::L1) (λi=>[.blk T (Tu c r0 r1),.blk 189 (ta at_),.row false 291 18 (Da (ws.take i))]) (λi=>ws.length-i) (λi=>i<=ws.length) 0 (Qh _) rfl rfl λi hi=>?_
 by_cases hlt:i<ws.length
 ·obtain⟨x,hx⟩:=gxE (l:=(Ga l)) (i:=i) (by omega);obtain⟨w,hw,hw'⟩:=h2 i x hx;have hm:∀y∈[wl w],y.length=18:=λy hy=>by rw[Ql.1 hy];rfl
  have hlt':decide ((i:Int)<((Ft (Ga l)).length:Int))=true:=by simp[Ft];omega
  have ck:=Qn9 (T:=T) (r0:=r0) (r1:=r1) hc (hl x (VU (Qc hx))) ha hw;have hg:=Ac hw';obtain⟨wc,wk,wf⟩:=w;cases wf <;> (refine go tt [.t hlt',.x (WX hx),.t rfl,.c [0] ck,.s (sz:=18) hm] rfl (by simp[U5,S5];omega) ?_;exact rd (i+1) (by omega) hlt (by rw[hg];rfl))
 ·obtain rfl:i=ws.length:=by omega
  rw[Q7];have hge:decide ((ws.length:Int)<((Ft (Ga l)).length:Int))=false:=by simp[Ft];omega
  exact Ul [] [0] [.f hge,.p 2,.k cl] rfl
theorem Qoa{T:Nat}{r0:Uw}{r1:Uw×Uw}{at_:Tm}{l:List Ct}(ha:Va at_)(hl:∀x∈l,Cp x.p)(hn:l.length≤1000):U8 prog 161 [.one (.ow 0 0),.agg (ta at_),.one (.bool false),.one (.row (Ft l))] [.blk T (Qvi (.row r0) (.row r1.1,.row r1.2))] [] [.blk T (Tu ⟨at_,(Ga l).map fresh,0⟩ r0 r1)]:=by
 have cs:=jG (l:=l) (λx hx=>Dp.pb (hl x hx).dp) (by omega);have cl:=Pf (b:=at_) (l:=[]) ha.tb (λt ht=>by cases ht) (by decide) rfl;have hs:(Ga l).length=l.length:=Dv l;refine Fz func161 rfl ?_;refine Uh [.o 8 291 18,.k cs] rfl ?_;refine Um (S:=Nat) 3 (λL1 i=>(15,.v (.oi i))::(8,.v (.one (.orow 2 18 none)))::L1) (λi=>[.blk T (Qvi (.row r0) (.row r1.1,.row r1.2)),.blk 189 (ta at_),.row false 291 18 (Da (((Ga l).map fresh).take i))]) (λi=>l.length-i) (λi=>i<=l.length) 0 (Qh _) rfl rfl λi hi=>?_
 by_cases hlt:i<l.length
 ·obtain⟨x,hx⟩:=gxE (l:=(Ga l)) (i:=i) (by omega);have hm:∀y∈[wl (fresh x)],y.length=18:=λy hy=>by rw[Ql.1 hy];rfl
  have hlt':decide ((i:Int)<((Ft (Ga l)).length:Int))=true:=by simp[Ft];omega
  have hg:=Ac (l:=(Ga l).map fresh) (i:=i) (w:=fresh x) (by rw[Zb,hx];rfl);refine go tt [.t hlt',.x (WX hx),.z 20,.f rfl,.s (sz:=18) hm] rfl (by simp[U5,S5];omega) ?_;exact rd (i+1) (by omega) hlt (by rw[hg];rfl)
 ·obtain rfl:i=l.length:=by omega
  rw[Qn (by simp;omega)];have hge:decide ((l.length:Int)<((Ft (Ga l)).length:Int))=false:=by simp[Ft];omega
  exact Ul [] [0] [.f hge,.p 2,.k cl] rfl
theorem Qcf{T:Nat}{r0:Uw}{r1:Uw×Uw}{at_:Tm}{l:List Ct}(ha:Va at_)(hl:∀x∈l,Cp x.p)(hn:l.length≤1000):U8 prog 121 [.one (.ow 0 0),.agg (ta at_),.one (.row (Ft l))] [.blk T (Qvi (.row r0) (.row r1.1,.row r1.2))] [] [.blk T (Tu ⟨at_,(Ga l).map fresh,0⟩ r0 r1)]:=by
 have cl:=Qoa (T:=T) (r0:=r0) (r1:=r1) ha hl hn;refine Fz func121 rfl ?_;exact Ul [] [0] [.g 12 false rfl,.c [0] cl] rfl
theorem Qcg{T:Nat}{c:Cr}{r0:Uw}{r1:Uw×Uw}{at_:Tm}{l:List Ct}{ws:List Wt}{k:Int}(hc:CrOk c)(ha:Va at_)(hk:UD at_ c.now=some k)(h0:0≤k)(hl:∀x∈l,Cp x.p)(hn:l.length≤1000)(h:Tp c.l at_ (Ga l)=some ws):U8 prog 121 [.one (.ow 0 0),.agg (ta at_),.one (.row (Ft l))] [.blk T (Tu c r0 r1)] [] [.blk T (Tu ⟨at_,ws,c.ev⟩ r0 r1)]:=by
 have cl:=aY (T:=T) (r0:=r0) (r1:=r1) hc ha hl hn h;have cc:=KP ha.tb hc.n.tb hk;refine Fz func121 rfl ?_;exact Ul [] [0] [.g 12 true rfl,.k cc,.r 20 (eB (show decide (0<=k)=true by simpa using h0)),.c [0] cl] rfl
theorem Qob{T:Nat}{c:Cr}{r0:Uw}{r1:Uw×Uw}{ws:List Wt}(hc:CrOk c)(h:Ol c.now c.l=some ws):U8 prog 371 [.one (.ow 0 0)] [.blk T (Tu c r0 r1)] [] [.blk T (Tu { c with l:=ws } r0 r1)]:=by
 have hk:=hc.k;have hw:=S5 c.l;obtain⟨h1,h2⟩:=YE h;refine Fz func371 rfl ?_;refine Uh [.o 2 291 18,.c [0] (nZ hc.n)] rfl ?_;refine Um (S:=Nat) 3 (λL1 i=>(13,.v (.oi i))::(2,.v (.one (.orow 1 18 none)))::L1) (λi=>[.blk T (Tu c r0 r1),.row false 291 18 (Da (ws.take i)),.blk 189 (ta c.now)]) (λi=>c.l.length-i) (λi=>i<=c.l.length) 0 (Qh _) rfl rfl λi hi=>?_
 by_cases hlt:i<c.l.length
 ·obtain⟨w,hx⟩:=gxE (l:=c.l) (i:=i) hlt;obtain⟨v,hv,h3⟩:=h2 i w hx;have hm:∀y∈[wl v],y.length=18:=λy hy=>by rw[Ql.1 hy];rfl
  have hg:=Ac hv;have hl:decide ((i:Int)<((Da c.l).length:Int))=true:=by simp[hw];omega
  rcases h3 with⟨k1,rfl⟩|⟨k1,r,k2,rfl⟩
  ·obtain⟨vc,vk,vf⟩:=v;cases vf <;> (refine go tt [.t hl,.x (H7 hx),.f (by rw[show vk=true from k1];rfl),.s (sz:=18) hm] rfl (by simp[U5,S5];omega) ?_;exact rd (i+1) (by omega) hlt (by rw[hg];rfl))
  ·have cg:=uJ (hc.l w (Qc hx)).p hc.n k2;obtain⟨wc,wk,wf⟩:=w;cases r <;> cases wf <;> (refine go tt [.t hl,.x (H7 hx),.t (by rw[show wk=false from k1];rfl),.k cg,.s (sz:=18) hm] rfl (by simp[U5,S5];omega) ?_;exact rd (i+1) (by omega) hlt (by rw[hg];rfl))
 ·obtain rfl:i=c.l.length:=by omega
  rw[<-h1,Q7];exact Ul [1] [0] [.f (by simp[hw,h1])] rfl
theorem Qoc{T:Nat}{c:Cr}{r0:Uw}{r1:Uw×Uw}{ws:List Wt}{r:Option Tm}(hc:CrOk c)(h:Ol c.now c.l=some ws)(hr:ID ws=some r):U8 prog 377 [.one (.ow 0 0)] [.blk T (Tu c r0 r1)] [.agg (ota r),.one (.bool r.isSome)] [.blk T (Tu { c with l:=ws } r0 r1)]:=by
 have hcl:=Qob (T:=T) (r0:=r0) (r1:=r1) hc h;have hc':=Et hc h;have hk:=hc'.k;have hw:=S5 ws;have hvb:∀t∈ws.filterMap (·.fails),Tb t:=λt ht=>by
  obtain⟨w,w1,w2⟩:=Jk.1 ht;exact((hc'.l w w1).f t w2).tb
 refine Fz func377 rfl ?_;refine Uh [.c [0] hcl,.o 4 189 9] rfl ?_;refine Um (S:=Nat) 3 (λL1 i=>(14,.v (.oi i))::(4,.v (.one (.orow 2 9 none)))::L1) (λi=>[.blk T (Tu { c with l:=ws } r0 r1),.blk 189 zTm,.row false 189 9 (tal ((ws.take i).filterMap (·.fails)))]) (λi=>ws.length-i) (λi=>i<=ws.length) 0 (Qh _) rfl rfl λi hi=>?_
 by_cases hlt:i<ws.length
 ·obtain⟨w,hx⟩:=gxE (l:=ws) (i:=i) hlt;have hl:decide ((i:Int)<((Da ws).length:Int))=true:=by simp[hw];omega
  have hfl:((ws.take i).filterMap (·.fails)).length<=i:=Qa (Vd _ _) (by rw[Qr];omega);have hg:(ws.take (i+1)).filterMap (·.fails)=(ws.take i).filterMap (·.fails)++(match w.fails with|none=>[]|some t=>[t]):=by
   rw[Z3,hx,List.filterMap_append];show _++List.filterMap (·.fails) [w]=_;cases hwf:w.fails <;> simp[hwf]
  obtain⟨wc,wk,wf⟩:=w;have hk:ws.length<=1000:=hk;cases wf with
  |
   none =>
   refine Ui [.t hl,.x (H7 hx),.f rfl] rfl ?_;exact rd (i+1) (by omega) hlt (by rw[hg];simp;rfl)
  |
   some t =>
   refine Ui [.t hl,.x (H7 hx),.t rfl,.s (l:=[ta t]) (sz:=9) (λc hc=>by rw[Ql.1 hc];rfl)] rfl ?_;exact rd (i+1) (by omega) hlt (by rw[hg];simp[tal];rfl)
 ·obtain rfl:i=ws.length:=by omega
  rw[Q7];have hf:decide ((ws.length:Int)<((Da ws).length:Int))=false:=by simp[hw]
  have hln:(ws.filterMap (·.fails)).length<=1000:=Qa (Vd _ _) hk;unfold ID at hr;cases hfm:ws.filterMap (·.fails)with
  |
   nil =>
   rw[hfm]at hr;injection hr with hr;subst hr;exact Ul [] [0] [.f hf,.p 2,.k uY] rfl
  |
   cons b l =>
   rw[hfm]at hr hvb hln;obtain⟨m,m1,rfl⟩:=Yx.1 hr;have cl:=Pf (hvb b (Qy ..)) (λt ht=>hvb t (Qg _ ht)) (by simp at hln;omega) m1;exact Ul [] [0] [.f hf,.p 2,.k cl] rfl
theorem Qy5{T:Nat}{t:Rat}{Bc:Tm->List Ct}{Br:Tm->Uw×Uw}{r0:Uw}(ht:Qs 1640000 t)(hB:BuildOk Bc)
 (hb:∀a c r1,Va a->CrOk c->U8 prog 123 [.one (.ow 0 0),.agg (ta a)] [.blk T (Tu c r0 r1)] [.one (.row (Ft (Bc a)))] [.blk T (Tu c r0 (Br a))])
 {K:Nat} {c c':Cr} {r1 r1':Uw×Uw} {n:Int} (hc:CrOk c) (hev:0<=c.ev/\c.ev+K<=1000000000000000000) (h:Fq c.now t<=0) (hg:HC Bc Br t K c r1 0=some (c',r1',n)) :
 U8 prog 372 [.one (.ow 0 0),.agg (rl t),.one (.ofn 123 [.ow 0 0] [])] [.blk T (Tu c r0 r1)] [.oi n,.oi 0] [.blk T (Tu c' r0 r1')]:=by
 have qt:Qb t:=ht.mono (by decide);have c1:=Dk hc.n.tb qt;refine Fz func372 rfl ?_;refine Uh [.c [0] (nZ hc.n),.k c1,.f (by simpa using h)] rfl ?_;refine Um (S:=Nat×Cr×(Uw×Uw)×Int) 2 (λL1 s=>(8,.v (.oi s.2.2.2))::L1) (λs=>[.blk T (Tu s.2.1 r0 s.2.2.1),.blk 43 (rl t)]) (λs=>s.1) (λs=>CrOk s.2.1/\(0<=s.2.1.ev/\s.2.1.ev+s.1<=1000000000000000000)/\(0<=s.2.2.2/\s.2.2.2+s.1<=1000000000000000000)/\HC Bc Br t s.1 s.2.1 s.2.2.1 s.2.2.2=some (c',r1',n)) (K,c,r1,0) ⟨hc,hev,⟨Int.le_refl 0,by dsimp only;omega⟩,hg⟩ rfl rfl λ⟨k,x,r,m⟩ ⟨j1,j2,j3,j4⟩=>?_
 dsimp only at j1 j2 j3 j4 ⊢;cases k with
 |zero=>cases j4
 |
  succ k =>
  simp only[HC]at j4;obtain⟨ws,w1,j4⟩:=Qd.1 j4;obtain⟨o,o1,j4⟩:=Qd.1 j4;have cn:=Qoc (T:=T) (r0:=r0) (r1:=r) j1 w1 o1;have ca:=KZ (U6 t.num) (U6 (t.den:Int)) (Qa ht.1 (by decide)) (Qa ht.2 (by decide)) (by rw[Sx];exact ht.mono (by decide));rw[Sx]at ca;cases o with
  |
   none =>
   injection j4 with j4;injection j4 with e1 j4;injection j4 with e2 e3;subst e1;subst e2;subst e3;exact Ul [] [0] [.c [0] cn,.g 25 true rfl,.t rfl,.k ca] rfl
  |
   some a =>
   have ha:=EW j1 w1 o1;dsimp only at j4;have cc:=Dk ha.tb qt;by_cases h0:0<Fq a t
   ·rw[if_pos h0]at j4;injection j4 with j4;injection j4 with e1 j4;injection j4 with e2 e3;subst e1;subst e2;subst e3;exact Ul [] [0] [.c [0] cn,.g 25 false rfl,.k cc,.t (by simpa using h0),.k ca] rfl
   ·rw[if_neg h0]at j4;obtain⟨w2,l1,j4⟩:=Qd.1 j4;have j1':=Et j1 w1;have cl:=Pf (b:=a) (l:=[]) ha.tb (λt ht=>by cases ht) (by decide) rfl;have cb:=hb a { x with l:=ws } r ha j1';have cy:=aY (T:=T) (r0:=r0) (r1:=Br a) j1' ha (hB.p a ha) (hB.n a ha) l1;have hf:decide (0<Fq a t)=false:=by simpa using h0
    refine Ui [.c [0] cn,.g 25 false rfl,.k cc,.f hf,.k cl,.c [0] cb,.c [0] cy] rfl ?_;exact rd (k,⟨a,w2,x.ev+1⟩,Br a,m+1) (by dsimp only;omega) ⟨lay_ok _ j1' ha (hB.p a ha) (hB.n a ha) l1,by dsimp only;omega,by dsimp only;omega,j4⟩ rfl
theorem Qch{T:Nat}{c:Cr}{r0:Uw}{r1:Uw×Uw}:U8 prog 368 [.one (.ow 0 0)] [.blk T (Tu c r0 r1)] [.oi c.ev] [.blk T (Tu c r0 r1)]:=by
 refine Fz func368 rfl ?_;exact Ul [] [0] [] rfl
end Orr
namespace Orr
open Go Go.Proofs Tryz Orq
def Ah(k:Crv):Int:=max (max 0 ((k.x.length:Int)-1)) ((k.y.length:Int)-1)
structure Es where
 np:Int
 nd:Int
 M:List Pt
 q:Rat
 s:Cr
 t:Cr
 h:Cr
 p:Cr
 d:Cr
structure Em where
 np:Int
 nd:Int
 M:List Pt
 q:Rat
 s:Int
 t:Int
 h:Int
 p:Int
 d:Int
def Es.m(E:Es):Em:=⟨E.np,E.nd,E.M,E.q,E.s.ev,E.t.ev,E.h.ev,E.p.ev,E.d.ev⟩
structure MEn(np nd:Int)(M:List Pt):Prop where
 m:MOk M
 len:(M.length:Int)<=np
 deg:∀p∈M,Ah p.c≤nd
 id:∀p∈M,0≤p.id/\p.id≤1048576
structure EOk(b:Int)(E:Es):Prop where
 np:1<=E.np/\E.np<=6
 nd:0<=E.nd/\E.nd<=2
 m:MEn E.np E.nd E.M
 q:Qs 128 E.q
 s:At kS E.M E.q E.s
 t:At kT E.M E.q E.t
 h:At kH E.M E.q E.h
 p:At kP E.M E.q E.p
 d:At kD E.M E.q E.d
 es:0<=E.s.ev/\E.s.ev<=b
 et:0<=E.t.ev/\E.t.ev<=b
 eh:0<=E.h.ev/\E.h.ev<=b
 ep:0<=E.p.ev/\E.p.ev<=b
 ed:0<=E.d.ev/\E.d.ev<=b
theorem EOk.mono{b c:Int}{E:Es}(h:EOk b E)(hb:b<=c):EOk c E:={ h with es:=⟨h.es.1,by have:=h.es.2;omega⟩,et:=⟨h.et.1,by have:=h.et.2;omega⟩,eh:=⟨h.eh.1,by have:=h.eh.2;omega⟩,ep:=⟨h.ep.1,by have:=h.ep.2;omega⟩,ed:=⟨h.ed.1,by have:=h.ed.2;omega⟩ }
abbrev nO(k:Nat)(q:Rat):Uv:=[.ow (k+1) 0,sg q.num,mg q.num,sg (q.den:Int),mg (q.den:Int),.ow (k+2) 0,.ow (k+3) 0,.ow (k+4) 0,.ow (k+5) 0,.ow (k+6) 0]
abbrev taR(np nd:Int)(M:List Pt):Uv:=[.int .i64 np,.int .i64 nd,pts M]
abbrev bS(c:Cr)(M:List Pt)(q:Rat):OB:=.blk 196 (Ho c (U4 M) (mT M (tq q)))
abbrev bT(c:Cr)(M:List Pt)(q:Rat):OB:=.blk 199 (Tu c (U4 M) (mS M (tq q)))
abbrev bH(c:Cr)(M:List Pt)(q:Rat):OB:=.blk 201 (Ho c (U4 M) (brH M (tq q)))
abbrev bP(c:Cr)(M:List Pt)(q:Rat):OB:=.blk 203 (Ho c (U4 M) (brP M (tq q)))
abbrev bD(c:Cr)(M:List Pt)(q:Rat):OB:=.blk 205 (Ho c (U4 M) (mH M (tq q)))
abbrev enB(k:Nat)(E:Es):Ux:=[.blk 88 (nO k E.q),.blk 158 (taR E.np E.nd E.M),bS E.s E.M E.q,bT E.t E.M E.q,bH E.h E.M E.q,bP E.p E.M E.q,bD E.d E.M E.q]
end Orr
namespace Orr
open Go Go.Proofs Tryz Orq
set_option maxRecDepth 10000
theorem VZ{l:List Pt}{id:Int}(h:has l id=true):Tc l id<l.length:=by
 rcases Zd (Tc l id) l.length with h1|h1
 ·exact h1
 ·simp[has,Qw h1]at h
theorem UN{lx ly:Uw}{px py:Uq}{x y:LV}{d id:Int}{l:List Pt}(hx:IsInts lx px)(hy:IsInts ly py)(hd:Gi x y d)(hk:Cs 4294967294 1073741824 (Crv.mk px py d))(hl:l.length<=1000000)(h:has l id=true) :
 Un 375 [.agg [pts l],.agg [.row lx,.row ly,x,y,.int .i64 id]] [.agg [pts (l.set (Tc l id) (Pt.mk (Crv.norm (Crv.mk px py d)) id))],.oi 0]:=by
 have ca:=Qgs (l:=l) id (by omega);have cf:=aF hx hy hd hk id;obtain⟨b,r,rfl,rfl,_⟩:=hd;obtain⟨q,hq⟩:=nmE (Pt.mk (Crv.norm (Crv.mk px py d)) id);rw[<-hq]at cf ⊢;have hpl:=VZ h;rw[h]at ca;have e:pts (l.set (Tc l id) q)=.row ((l.map Ff).set (Tc l id) (Ff q)):=by unfold pts;rw[List.map_set]
 rw[e];exact Uk func375 rfl [.k ca,.f rfl,.s (Su l),.k cf,.i (Tc l id)] rfl rfl (by simp[U5];omega)
theorem UP{l:List Pt}{id:Int}(hl:l.length<=1000000)(h:has l id=true) :
 Un 374 [.agg [pts l],.oi id] [.agg [pts (l.take (Tc l id)++l.drop (Tc l id+1))],.oi 0]:=by
 have ca:=Qgs (l:=l) id (by omega);have hpl:=VZ h;rw[h]at ca;have s1:∀c∈(l.map Ff).take (Tc l id),c.length=5:=λc hc=>Su l c (Qo hc)
 have s3:∀c∈(l.map Ff).drop (Tc l id+1),c.length=5:=λc hc=>Su l c (Qz hc)
 have e:pts (l.take (Tc l id)++l.drop (Tc l id+1))=.row ((l.map Ff).take (Tc l id)++(l.map Ff).drop (Tc l id+1)):=by unfold pts;rw[List.map_append,List.map_take,List.map_drop]
 rw[e];refine Uk func374 rfl [.k ca,.f rfl,.i (Tc l id),.s s1,.i (Tc l id+1),.s s3] rfl ?_ ?_
 ·simp
 ·have h1:(List.map Ff l).length=l.length:=by simp
  have h2:∀z∈List.map Ff l,z.length=ti41.sz:=Su l;simp only[U5,Qr,Q9,h1]
  and_intros <;> first|exact h2|omega
end Orr
