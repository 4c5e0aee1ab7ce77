/- H1 HullQ HullS HullT PairQ PW1 DigL R1 R2 S2 S3 NewsN PW2 TouL TouQ MeshN EnL KT EnS SD1 En1 -/
import Derived.Test.YtbhhcpcpionelaaGreatPart07
import Derived.Test.YtbhhcpcpionelaaGreatPart05
import Derived.Test.YtbhhcpcpionelaaGreatPart00
import Derived.Test.YtbhhcpcpionelaaGreatPart04
set_option linter.all false
namespace Orr
open Go Go.Proofs Tryz Orq
set_option maxRecDepth 10000
theorem gz{P:Program}[Mo P]{n:Nat}{Q:Exit->Sg->Ut->Prop}{L L':Sg}{B B':Ut}(i:Nat){it:List It}(hs:Rk it=true)(h:Qc7 [i] L B=some (L',B'))(k:AK P n Q it L' B'):AK P n Q it L B:=AK.sub (GV h) hs k
theorem EH{r:Un}{i:Nat}{p:Um}(h:r[i]? = some p):(JS r)[i]? = some [pl p]:=G5 h
theorem E9{l:List Un}{i:Nat}{r:Un}(h:l[i]? = some r):(Ik l)[i]? = some [.row (JS r)]:=G5 h
theorem Qej{r:Un}(ht:∀p∈r,Ff p)(hb:∀p∈r,Bd 1000000 p)(hl:∀p∈r,p.length≤1000000)(hn:r.length≤1000):Uj 249 [.one (.row (JS r))] [.one (.row (JS r))]:=by
 have hrl:(JS r).length=r.length:=by simp
 refine Fv func249 rfl ?_;refine Ud [.o 3 34 1] rfl ?_;refine Ui (S:=Nat) 1 (λL1 i=>(8,.v (.oi i))::(3,.v (.one (.orow 0 1 none)))::L1) (λi=>[.row false 34 1 (JS (r.take i))]) (λi=>r.length-i) (λi=>i<=r.length) 0 (Qh _) rfl rfl λi hi=>?_
 by_cases h:i<r.length
 ·obtain⟨p,hp⟩:=gxE (l:=r) (i:=i) h;have hm:=Qc hp;have hs:∀y∈[[pl p]],y.length=1:=λy hy=>by rw[Qk.1 hy];rfl
  have e:JS (r.take (i+1))=JS (r.take i)++[[pl p]]:=by rw[Zv,hp];simp
  refine go tt [.T,.x (EH hp),.k (Ht (ht p hm) (by have:=hl p hm;omega) (U5 (hb p hm) (by decide))),.s (sz:=1) hs] rfl (by simp[U3] <;> omega) ?_;exact rd (i+1) (by omega) h (by rw[e];rfl)
 ·obtain rfl:i=r.length:=by omega
  rw[Q6];exact Uf [.F] rfl
theorem Qxw{s k w:Nat}{ds:Uo}{rows:List Un}(h:Sq s ds k k rows)(_hw:w=k)(hk:k<=4):Uj 278 [.one (.row (Ik rows))] [.one (.bool true)]:=by
 have hrl:=YE rows;have hl:=h.l;refine Fv func278 rfl ?_;refine Ud [] rfl ?_;refine Ui (S:=Nat) 0 (λL1 i=>(7,.v (.oi i))::L1) (λ_=>[]) (λi=>rows.length-i) (λi=>i<=rows.length) 0 (Qh _) rfl rfl λi hi=>?_
 by_cases hlt:i<rows.length
 ·obtain⟨r,hr⟩:=gxE (l:=rows) (i:=i) hlt;have hw:=h.w r (Qc hr);have hql:(JS r).length=r.length:=by simp
  refine go tt [.T,.x (E9 hr),.f (decide_eq_false (λh=>h (by omega)))] rfl (by simp[U3] <;> omega) ?_;exact rd (i+1) (by omega) hlt rfl
 ·exact Uf [.F] rfl (by rw[decide_eq_true (by omega:((Ik rows).length:Int)<=4)]) trivial
theorem Qnt{s k w:Nat}{ds:Uo}{rows:List Un}(h:Sq s ds k w rows)(hs:s<=1000000)(hk:k<=4)(hw:w<=4)(hd:∀j,ds.getD j 0<=1000)(i:Nat):Uj 302 [.oi i,.oi 0,.one (.row (Ik rows))] [.one (.row (Ik (VH rows i)))]:=by
 have hrl:=YE rows;have hl:=h.l;have hml:∀j,j<=rows.length->(Ik (JQ i rows j)).length<=4:=λj hj=>by
  rw[YE,LY];split <;> omega
 refine Fv func302 rfl ?_;refine Ud [.o 7 322 1] rfl ?_;refine Ui (S:=Nat) 1 (λL1 j=>(15,.v (.oi j))::(7,.v (.one (.orow 0 1 none)))::L1) (λj=>[.row false 322 1 (Ik (JQ i rows j))]) (λj=>rows.length-j) (λj=>j<=rows.length) 0 (Qh _) rfl rfl λj hj=>?_
 have hmlj:=hml j hj;by_cases hlt:j<rows.length
 ·obtain⟨r,hr⟩:=gxE (l:=rows) (i:=j) hlt;have hm:=Qc hr;have hw:=h.w r hm;have hql:(JS r).length=r.length:=by simp
  by_cases hij:j=i
  ·have e:JQ i rows (j+1)=JQ i rows j:=by simp only[JQ];rw[if_pos hij]
   refine go tt [.T,.x (E9 hr),.T] rfl (by simp[U3] <;> omega) ?_;exact rd (j+1) (by omega) hlt (by rw[e];rfl)
  ·have e:JQ i rows (j+1)=JQ i rows j++[r.drop 1]:=by
    simp only[JQ];rw[if_neg hij,Qi,hr];rfl
   refine Ud [.T,.x (E9 hr),.F,.o 10 34 1] rfl ?_ (by simp[U3]);refine Ui (S:=Nat) 2 (λL1 c=>(25,.v (.oi c))::(10,.v (.one (.orow 1 1 none)))::L1) (λc=>[.row false 322 1 (Ik (JQ i rows j)),.row false 34 1 (JS ((r.take c).drop 1))]) (λc=>r.length-c) (λc=>c<=r.length) 0 (Qh _) rfl rfl λc hc=>?_
   by_cases hcl:c<r.length
   ·obtain⟨p,hp⟩:=gxE (l:=r) (i:=c) hcl;have hpm:=Qc hp;by_cases h0:c=0
    ·subst h0;refine Ud [.T,.x (EH hp),.f (decide_eq_false (by simp))] rfl ?_ (by simp[U3]);exact rd 1 (by omega) hcl (by rw[Zv,hp];rfl)
    ·have hs1:∀y∈[[pl p]],y.length=1:=λy hy=>by rw[Qk.1 hy];rfl
     have e2:JS ((r.take (c+1)).drop 1)=JS ((r.take c).drop 1)++[[pl p]]:=by
      rw[Zv,hp,Wg (by rw[Qq];omega)];simp
     refine go tt [.T,.x (EH hp),.T,.k (Ht (h.t r hm p hpm) (by have:=h.n r hm c p hp;have:=hd c;omega) (U5 (h.b r hm p hpm) (by omega))),.s (sz:=1) hs1] rfl (by simp[U3] <;> omega) ?_;exact rd (c+1) (by omega) hcl (by rw[e2];rfl)
   ·obtain rfl:c=r.length:=by omega
    rw[Q6];have hs1:∀y∈[[LV.row (JS (r.drop 1))]],y.length=1:=λy hy=>by rw[Qk.1 hy];rfl
    refine Ud [.F] rfl ?_;refine gz 1 rfl rfl ?_;refine go tt [.s (sz:=1) hs1] rfl (by simp[U3] <;> omega) ?_;exact rd (j+1) (by omega) hlt (by rw[e];simp[Ik];rfl)
 ·obtain rfl:j=rows.length:=by omega
  exact Uf [.F] rfl
theorem SH:∀(ds:Uo) (j:Nat),ds.getD j 0<=ds.sum
 | [],j=>by simp
 |d::ds,0=>by simp
 |
  d::ds,j+1=>by
  have:=SH ds j;rw[Ku];show ds.getD j 0<=_;omega
theorem Qrt{s:Nat}(hs:s<=100000):∀(k:Nat) (ds:Uo) (rows:List Un),k<=4->ds.length=k->ds.sum<31->Sq s ds k k rows->Uj 279 [.one (.row (Ik rows))] [pr (Lo k rows)]
 |
  0,ds,rows,_,_,_,h=>by
  have e:=Qj h.l;subst e;have co:=lW (p:=[1]) (by decide) (by decide);exact Ug func279 rfl [.t rfl,.k co] rfl
 |k+1,[],_,_,hl,_,_=>by simp at hl
 |
  k+1,d::ds,rows,hk,hl,hd,h=>by
  rw[Ku]at hd;have hl':ds.length=k:=by simpa using hl
  have hrl:=YE rows;have hrn:=h.l;have hmin:=λi (hi:i<k+1)=>h.min hi
  have ih:=λi (hi:i<k+1)=>Qrt hs k ds (VH rows i) (by omega) hl' (by omega) (hmin i hi)
  have hok:=λi (hi:i<k+1)=>NQ k ds (VH rows i) (by omega) hl' (by omega) (hmin i hi)
  have hb:k*(s+10)+1<=500000:=by
   have:k*(s+10)<=4*(100010):=Zc (by omega) (by omega);omega
  have hds:=jV (f:=λi=>Lo k (VH rows i)) (B:=k*(s+10)+1) (L:=ds.sum) h (by omega) (λi hi=>⟨(hok i hi).2.1,(hok i hi).2.2⟩);have cm:=Qnt h (by omega) hk hk (λj=>by have:=SH (d::ds) j;rw[Ku]at this;omega);show Uj 279 [.one (.row (Ik rows))] [pr (Dn (λi=>Lo k (VH rows i)) rows (k+1))];obtain⟨f,hf⟩:=nmE (λi=>Lo k (VH rows i));rw[<-hf]at hds ⊢;have hfi:∀i,f i=Lo k (VH rows i):=λi=>by rw[hf]
  refine Fv func279 rfl ?_;refine Ud [.F,.z 3] rfl ?_;refine Ui (S:=Nat) 0 (λL1 i=>(14,.v (.oi i))::(3,.v (pr (Dn f rows i)))::L1) (λ_=>[]) (λi=>k+1-i) (λi=>i<=k+1) 0 (Qh _) rfl rfl λi hi=>?_
  obtain⟨d1,d2,d3⟩:=hds i hi;by_cases hlt:i<k+1
  ·obtain⟨p,r,hr,e,t,b,l⟩:=h.at hlt;have hx0:(JS (p::r))[0]? = some [pl p]:=rfl;have hpl:(p.map G8).length=p.length:=by simp
   have cn:=Ht t (by omega) (U5 b (by omega));by_cases h0:p.length=0
   ·have es:Dn f rows (i+1)=Dn f rows i:=by simp only[Dn];rw[e,if_pos h0]
    refine go tt [.T,.x (E9 hr),.x hx0,.k cn,.T] rfl (by simp[U3] <;> omega) ?_;exact rd (i+1) (by omega) hlt (by rw[es];rfl)
   ·obtain⟨k1,k2,k3⟩:=hok i hlt;have ci:=ih i hlt;have cp:=KG (p:=p) (q:=f i) t (by rw[hfi];exact k1) (by omega) (by rw[hfi];omega) b (by rw[hfi];exact k2) (by omega);have hmb:Bd (s+(k*(s+10)+1)+5) (Gl p (f i)):=Pm b (by rw[hfi];exact k2) (by omega);have hml:=Tw p (f i);have hfl:(f i).length<=ds.sum+1:=by rw[hfi];exact k3
    rw[<-hfi]at ci;by_cases h2:i % 2=0
    ·have es:Dn f rows (i+1)=A5 (Dn f rows i) (Gl p (f i)):=by simp only[Dn];rw[e,if_neg h0,if_pos h2]
     refine go tt [.T,.x (E9 hr),.x hx0,.k cn,.F,.x hx0,.k (cm i),.k ci,.k cp,.r 34 (eI (b:=((i % 2:Nat):Int)) rfl),.T,.k (BG (p:=Dn f rows i) (q:=Gl p (f i)) (by omega) (by omega) (U5 d2 (by omega)) (U5 hmb (by omega)))] rfl (by simp[U3] <;> omega) ?_;exact rd (i+1) (by omega) hlt (by rw[es];rfl)
    ·have es:Dn f rows (i+1)=Na (Dn f rows i) (Gl p (f i)):=by simp only[Dn];rw[e,if_neg h0,if_neg h2]
     refine go tt [.T,.x (E9 hr),.x hx0,.k cn,.F,.x hx0,.k (cm i),.k ci,.k cp,.r 34 (eI (b:=((i % 2:Nat):Int)) rfl),.F,.k (HT (p:=Dn f rows i) (q:=Gl p (f i)) (by omega) (by omega) (U5 d2 (by omega)) (U5 hmb (by omega)))] rfl (by simp[U3] <;> omega) ?_;exact rd (i+1) (by omega) hlt (by rw[es];rfl)
  ·obtain rfl:i=k+1:=by omega
   exact Uf [.F] rfl
theorem Qrn{s:Nat}(hs:s<=100000){k:Nat}{ds:Uo}{rows:List Un}(hk:k<=4)(hl:ds.length=k)(hd:ds.sum<31)(h:Sq s ds k k rows):Uj 250 [.one (.row (Ik rows))] [pr (Lo k rows),.oi 0] :=
 Ug func250 rfl [.k (Qxw h rfl hk),.f rfl,.k (Qrt hs k ds rows hk hl hd h)] rfl
theorem mV{k:Crv}(hk:Sc k):Uj 248 [.agg (cl k)] [.one (.row (JS [k.x,k.y,[k.d]]))]:=by
 have h0:k.d≠0:=by have:=hk.n.2.2.1;omega
 have td:Ff [k.d]:=by unfold Ff;simp[trim,h0]
 have cd:=Qej (r:=[k.x,k.y,[k.d]]) (λp hp=>by
  rcases Qm.1 hp with rfl|hp
  ·exact hk.n.1
  rcases Qm.1 hp with rfl|hp
  ·exact hk.n.2.1
  ·rw[Qk.1 hp];exact td) (λp hp=>by
  rcases Qm.1 hp with rfl|hp
  ·exact U5 hk.c.x (by decide)
  rcases Qm.1 hp with rfl|hp
  ·exact U5 hk.c.y (by decide)
  ·rw[Qk.1 hp];intro z hz;rw[Qk.1 hz];exact Qa hk.c.d (by decide)) (λp hp=>by
  rcases Qm.1 hp with rfl|hp
  ·have:=hk.c.lx;omega
  rcases Qm.1 hp with rfl|hp
  ·have:=hk.c.ly;omega
  ·rw[Qk.1 hp];show 1<=1000000;decide) (by show 3<=1000;decide)
 exact Ug func248 rfl [.k (Dx hk.n (hk.c.mono (by decide) (by decide))),.k cd] rfl
theorem tD{a b c:Crv}(ha:Sc a)(hb:Sc b)(hc:Sc c):Sq 128 [2,2,0] 3 3 (gI a b c):=by
 have key:∀k:Crv,Sc k->(∀p∈[k.x,k.y,[k.d]],Ff p/\Bd 128 p)/\∀(j:Nat) (p:Um),[k.x,k.y,[k.d]][j]? = some p->p.length≤[2,2,0].getD j 0+1:=λk hk=>by
  have h0:k.d≠0:=by have:=hk.n.2.2.1;omega
  have td:Ff [k.d]:=by unfold Ff;simp[trim,h0]
  refine⟨λp hp=>?_,λj p hp=>?_⟩
  ·rcases Qm.1 hp with rfl|hp
   ·exact⟨hk.n.1,hk.c.x⟩
   rcases Qm.1 hp with rfl|hp
   ·exact⟨hk.n.2.1,hk.c.y⟩
   ·rw[Qk.1 hp];exact⟨td,λz hz=>by rw[Qk.1 hz];exact hk.c.d⟩
  ·match j,hp with
   | 0,hp=>injection hp with hp;subst hp;exact hk.c.lx
   | 1,hp=>injection hp with hp;subst hp;exact hk.c.ly
   | 2,hp=>injection hp with hp;subst hp;exact Ql _
   |j+3,hp=>simp at hp
 have hr:∀r∈gI a b c,∃k:Crv,Sc k/\r=[k.x,k.y,[k.d]]:=λr hr=>by
  rcases Qm.1 hr with rfl|hr
  ·exact⟨a,ha,rfl⟩
  rcases Qm.1 hr with rfl|hr
  ·exact⟨b,hb,rfl⟩
  ·rw[Qk.1 hr];exact⟨c,hc,rfl⟩
 refine⟨rfl,λr h=>?_,λr h p hp=>?_,λr h p hp=>?_,λr h j p hp=>?_⟩
 all_goals obtain⟨k,hk,rfl⟩:=hr r h
 ·rfl
 ·exact((key k hk).1 p hp).1
 ·exact((key k hk).1 p hp).2
 ·exact(key k hk).2 j p hp
theorem YU{a b c:Crv}(ha:Sc a)(hb:Sc b)(hc:Sc c):Cp (Hh a b c):=by
 obtain⟨h1,h2,h3⟩:=NQ 3 [2,2,0] (gI a b c) (by decide) rfl (by decide) (tD ha hb hc);exact⟨h1,Qa h3 (by decide),U5 h2 (by decide)⟩
theorem wV{a b c:Crv}(ha:Sc a)(hb:Sc b)(hc:Sc c):Uj 209 [.agg (cl a),.agg (cl b),.agg (cl c)] [pr (Hh a b c)]:=by
 have cd:=Qrn (by decide) (k:=3) (ds:=[2,2,0]) (by decide) rfl (by decide) (tD ha hb hc);exact Ug func209 rfl [.k (mV ha),.k (mV hb),.k (mV hc),.k cd] rfl
end Orr
namespace Orq
open Orr Go
theorem sJ{p q:Um}(tp:Ff p)(tq:Ff q)(h:∀i,p.getD i 0=q.getD i 0):p=q:=by
 have hl:∀{p q:Um},Ff p->(∀i,p.getD i 0=q.getD i 0)->p.length<=q.length:=λ{p q} tp h=>by
  refine Nat.not_lt.1 λhn=>?_
  have h1:=H8 tp (by omega);rw[h,Qi,Qw (by omega)]at h1;exact h1 rfl
 have e:=Kb (hl tp h) (hl tq λi=>(h i).symm);refine List.ext_getElem e λi h1 h2=>?_
 have:=h i;rw[Qi,Qi,Qe h1,Qe h2]at this;exact this
theorem fX{p:Um}(h:p=[])(i:Nat):p.getD i 0=0:=by rw[h];simp
theorem Et(p:Um)(c:Int)(i:Nat):(Fw p c).getD i 0=p.getD i 0*c:=by
 unfold Fw;rw[Pd]
 split
 ·rfl
 ·rename_i h;rw[Qi,Qw (by omega)];simp
theorem EU(p q:Um)(i:Nat):(Na p q).getD i 0=p.getD i 0-q.getD i 0:=by
 unfold Na;rw[Pd]
 split
 ·rfl
 ·rename_i h;rw[Qi,Qi,Qw (by omega),Qw (by omega)];simp
theorem Qph{x y:Crv}(hx:ZL x)(hy:ZL y)(h1:Gn x y=[])(h2:Gm x y=[]):x=y:=by
 have e1:∀i,y.x.getD i 0*x.d=x.x.getD i 0*y.d:=λi=>by
  have:=fX h1 i;unfold Gn at this;rw[EU,Et,Et]at this;omega
 have e2:∀i,y.y.getD i 0*x.d=x.y.getD i 0*y.d:=λi=>by
  have:=fX h2 i;unfold Gm at this;rw[EU,Et,Et]at this;omega
 have key:∀{x y:Crv},ZL x->ZL y->(∀i,y.x.getD i 0*x.d=x.x.getD i 0*y.d)->(∀i,y.y.getD i 0*x.d=x.y.getD i 0*y.d)->x.d∣y.d:=λ{x y} hx hy e1 e2=>by
  have hd:=uH (d:=x.d) (l:=(x.d::(x.x++x.y)).map (· * y.d)) λz hz=>by
   obtain⟨w,hw,rfl⟩:=Za.1 hz;rcases Qm.1 hw with rfl|hw
   ·exact Int.dvd_mul_right _ _
   ·rcases Qr.1 hw with hw|hw
    ·obtain⟨i,hi,rfl⟩:=V0.1 hw;have:=e1 i;rw[show x.x.getD i 0=x.x[i] from by rw[Qi,Qe hi];rfl]at this;rw[<-this];exact Y9 _ _
    ·obtain⟨i,hi,rfl⟩:=V0.1 hw;have:=e2 i;rw[show x.y.getD i 0=x.y[i] from by rw[Qi,Qe hi];rfl]at this;rw[<-this];exact Y9 _ _
  rw[Qhy,hx.2.2.2,Wn]at hd;exact V5 hd (Int.natAbs_dvd.2 (K7 _))
 have hd:x.d=y.d:=Int.dvd_antisymm (Int.le_of_lt hx.2.2.1) (Int.le_of_lt hy.2.2.1) (key hx hy e1 e2) (key hy hx (λi=>(e1 i).symm) λi=>(e2 i).symm);have hd0:y.d≠0:=by have:=hy.2.2.1;omega
 rw[hd]at e1 e2;have ex:x.x=y.x:=sJ hx.1 hy.1 λi=>(Y4 hd0 (e1 i)).symm
 have ey:x.y=y.y:=sJ hx.2.1 hy.2.1 λi=>(Y4 hd0 (e2 i)).symm
 cases x;cases y;simp only at hd ex ey;rw[hd,ex,ey]
theorem Qqz(l:List Pt):(Tp l).Pairwise λx y=>x.c≠y.c:=by
 have key:∀(l out:List Pt),out.Pairwise (λx y=>x.c≠y.c)->(l.foldl B9 out).Pairwise λx y=>x.c≠y.c:=by
  intro l
  induction l with
  |nil=>intro out h;exact h
  |
   cons p l ih =>
   intro out h;refine ih _ ?_;unfold B9
   split
   ·exact h
   ·rename_i hn;refine Xw.2 ⟨h,Kl _ _,λa ha b hb e=>hn ?_⟩;rw[Qk.1 hb]at e;rw[List.any_eq_true];exact⟨a,ha,by rw[<-e];simp[Ee]⟩
 exact key l [] .nil
theorem Qlk(l:List Pt):(Tp l).Sublist l:=by
 have key:∀(l out o:List Pt),out.Sublist o->(l.foldl B9 out).Sublist (o++l):=by
  intro l
  induction l with
  |nil=>intro out o h;rw[Zw];exact h
  |
   cons p l ih =>
   intro out o h;have:(B9 out p).Sublist (o++[p]):=by
    unfold B9
    split
    ·exact h.trans (List.sublist_append_left _ _)
    ·exact h.append (List.Sublist.refl _)
   have:=ih _ _ this;rwa[Zd]at this
 exact key l [] [] (List.Sublist.refl _)
theorem Oo(f:Nat->Um)(rows:List Un)(q:Rat)(i:Nat):U9 (Dn f rows (i+1)) q=U9 (Dn f rows i) q+(if i % 2=0 then 1 else -1)*(U9 ((rows.getD i []).getD 0 []) q*U9 (f i) q):=by
 simp only[Dn]
 split
 ·rename_i h;have:U9 ((rows.getD i []).getD 0 []) q=0:=by rw[Qj h];rfl
  rw[this];grind
 ·split
  ·rw[LA,Gk];grind
  ·rw[Nn,Gk];grind
theorem iI(z:Int)(q:Rat):U9 [z] q=(z:Rat):=by simp[U9,Rat.add_zero]
theorem rY(p:Um)(q:Rat):U9 (Lo 1 [[p]]) q=U9 p q:=by
 show U9 (Dn (λi=>Lo 0 (VH [[p]] i)) [[p]] (0+1)) q=_;rw[Oo];show(0:Rat)+1*(U9 p q*U9 [1] q)=_;rw[iI];have:((1:Int):Rat)=1:=rfl;grind
theorem LL(p r s t:Um)(q:Rat):U9 (Lo 2 [[p,r],[s,t]]) q=U9 p q*U9 t q-U9 s q*U9 r q:=by
 show U9 (Dn (λi=>Lo 1 (VH [[p,r],[s,t]] i)) [[p,r],[s,t]] (0+1+1)) q=_;rw[Oo,Oo];show(0:Rat)+1*(U9 p q*U9 (Lo 1 [[t]]) q)+(-1)*(U9 s q*U9 (Lo 1 [[r]]) q)=_;rw[rY,rY];grind
theorem Qjp(a1 a2 a3 b1 b2 b3 c1 c2 c3:Um)(q:Rat):U9 (Lo 3 [[a1,a2,a3],[b1,b2,b3],[c1,c2,c3]]) q=U9 a1 q*(U9 b2 q*U9 c3 q-U9 c2 q*U9 b3 q)-U9 b1 q*(U9 a2 q*U9 c3 q-U9 c2 q*U9 a3 q)+U9 c1 q*(U9 a2 q*U9 b3 q-U9 b2 q*U9 a3 q):=by
 show U9 (Dn (λi=>Lo 2 (VH [[a1,a2,a3],[b1,b2,b3],[c1,c2,c3]] i)) [[a1,a2,a3],[b1,b2,b3],[c1,c2,c3]] (0+1+1+1)) q=_;rw[Oo,Oo,Oo];show(0:Rat)+1*(U9 a1 q*U9 (Lo 2 [[b2,b3],[c2,c3]]) q)+(-1)*(U9 b1 q*U9 (Lo 2 [[a2,a3],[c2,c3]]) q)+1*(U9 c1 q*U9 (Lo 2 [[a2,a3],[b2,b3]]) q)=_;rw[LL,LL,LL];grind
theorem cN{a b c:Pt}(ha:Sc a.c)(hb:Sc b.c)(hc:Sc c.c)(q:Rat):Fg (U9 (Hh a.c b.c c.c) q)=Fg (Bm (px · q) (py · q) a b c):=by
 have Rw:∀{k:Crv},Sc k->(0:Rat)<(k.d:Rat):=λh=>by exact_mod_cast h.n.2.2.1
 have pa:=Rw ha;have pb:=Rw hb;have pc:=Rw hc;have xx:∀{p:Pt},0<(p.c.d:Rat)->U9 p.c.x q=px p q*(p.c.d:Rat)/\U9 p.c.y q=py p q*(p.c.d:Rat):=λ{p} h=>by
  unfold px py;exact⟨(Zj (by grind)).symm,(Zj (by grind)).symm⟩
 obtain⟨xa,ya⟩:=xx pa;obtain⟨xb,yb⟩:=xx pb;obtain⟨xc,yc⟩:=xx pc;have e:U9 (Hh a.c b.c c.c) q=((a.c.d:Rat)*(b.c.d:Rat)*(c.c.d:Rat))*Bm (px · q) (py · q) a b c:=by
  unfold Hh gI Bm;rw[Qjp,iI,iI,iI,xa,xb,xc,ya,yb,yc];grind
 rw[e,C5 (Xs (Xs pa pb) pc)]
def FU(sg:Um->Int)(a b c:Pt):Bool:=decide (0<Hj sg (Hh a.c b.c c.c))
def Pn(sg:Um->Int)(row:List Pt):List Pt:=(P7 (FU sg) [] row).reverse
def Eb(sg:Um->Int)(row:List Pt):List Pt:=if row.length<3 then row else(Pn sg row).dropLast++(Pn sg row.reverse).dropLast
def S7(l:List Pt)(a:Tm):List Pt:=Eb (Fu a) (Tz a (Tp l))
def Rt(C:List Pt):List (Pt×Pt):=C.zip (C.drop 1++C.take 1)
def Lh(sg:Um->Int)(a b c:Pt):Ct:=⟨3,a.id,b.id,c.id,0,Hh a.c b.c c.c,Hj sg (Hh a.c b.c c.c)⟩
def VT(e:Pt×Pt)(c:Pt):Bool:=decide (c.id≠e.1.id) && decide (c.id≠e.2.id)
def Aj(sg:Um->Int)(l:List Pt)(e:Pt×Pt):List Ct:=(l.filter (VT e)).map λc=>Lh sg e.1 e.2 c
def Bi(sg:Um->Int)(l C:List Pt):List Ct:=if C.length<2 then []else(Rt C).flatMap (Aj sg l)
def NL(l:List Pt)(a:Tm):List Ct:=VC l a++Bi (Fu a) l (S7 l a)
abbrev brH(l:List Pt)(a:Tm):Us:=U0 (S7 l a)
def NB(l:List Pt):Un:=l.flatMap λx=>l.flatMap λy=>l.map λz=>Hh x.c y.c z.c
theorem kB{l:List Pt}{x y z:Pt}(hx:x∈l)(hy:y∈l)(hz:z∈l):Hh x.c y.c z.c∈NB l :=
 Zo.2 ⟨x,hx,Zo.2 ⟨y,hy,Za.2 ⟨z,hz,rfl⟩⟩⟩
theorem Qmi{l:List Pt}(hl:∀p∈l,Sc p.c):∀p∈NB l,Cp p:=λp hp=>by
 obtain⟨x,hx,hp⟩:=Zo.1 hp;obtain⟨y,hy,hp⟩:=Zo.1 hp;obtain⟨z,hz,rfl⟩:=Za.1 hp;exact YU (hl x hx) (hl y hy) (hl z hz)
theorem EX{α:Type}(s:α->α->α->Bool)(c:α):∀st:List α,(Lq s c st).Sublist st
 | []=>List.Sublist.refl _
 | [_]=>List.Sublist.refl _
 |
  b::a::r=>by
  simp only[Lq]
  split
  ·exact List.Sublist.refl _
  ·exact(EX s c (a::r)).trans (List.sublist_cons_self _ _)
theorem KN{α:Type}{s:α->α->α->Bool}:∀{l acc:List α} {x:α},x∈P7 s acc l->x∈acc\/x∈l
 | [],acc,x,h=>.inl h
 |
  c::l,acc,x,h=>by
  rcases KN (l:=l) h with h|h
  ·rcases Qm.1 h with rfl|h
   ·exact .inr (by simp)
   ·exact .inl ((EX s c acc).subset h)
  ·exact .inr (Qg _ h)
theorem KP{α:Type}(s:α->α->α->Bool):∀(l acc:List α),(P7 s acc l).length<=acc.length+l.length
 | [],acc=>by simp[P7]
 |
  c::l,acc=>by
  have h1:=KP s l (c::Lq s c acc);have h2:=(EX s c acc).length_le;simp only[P7,Q5]at h1 ⊢;omega
theorem BI{sg:Um->Int}{row:List Pt}{x:Pt}(h:x∈Pn sg row):x∈row:=by
 unfold Pn at h;rcases KN (Jm.1 h)with h|h
 ·cases h
 ·exact h
theorem QF(sg:Um->Int)(row:List Pt):(Pn sg row).length<=row.length:=by
 have:=KP (FU sg) row [];unfold Pn;rw[List.length_reverse];simpa using this
theorem cG{sg:Um->Int}{row:List Pt}{x:Pt}(h:x∈Eb sg row):x∈row:=by
 unfold Eb at h
 split at h
 ·exact h
 ·rcases Qr.1 h with h|h
  ·exact BI ((List.dropLast_sublist _).subset h)
  ·exact Jm.1 (BI ((List.dropLast_sublist _).subset h))
theorem cF(sg:Um->Int)(row:List Pt):(Eb sg row).length<=2*row.length:=by
 unfold Eb
 split
 ·omega
 ·have h1:=QF sg row;have h2:=QF sg row.reverse;rw[Xp]at h2;rw[Qu,List.length_dropLast,List.length_dropLast];omega
theorem I6{l:List Pt}{a:Tm}{x:Pt}(h:x∈S7 l a):x∈l:=Nv (Hq.1 (cG h))
theorem YW(l:List Pt)(a:Tm):(S7 l a).length<=2*l.length:=by
 have h1:=cF (Fu a) (Tz a (Tp l));rw[Ns]at h1;have:=O9 l;unfold S7;omega
theorem SK{C:List Pt}{e:Pt×Pt}(h:e∈Rt C):e.1∈C/\e.2∈C:=by
 unfold Rt at h;have h1:=List.of_mem_zip (show(e.1,e.2)∈_ from h);refine⟨h1.1,?_⟩;rcases Qr.1 h1.2 with h|h
 ·exact Qz h
 ·exact Qo h
theorem nU{sg:Um->Int}{l C:List Pt}{x:Ct}(h:x∈Bi sg l C):∃e∈Rt C,∃c∈l,VT e c=true/\x=Lh sg e.1 e.2 c:=by
 unfold Bi at h
 split at h
 ·cases h
 ·obtain⟨e,he,h⟩:=Zo.1 h;obtain⟨c,hc,rfl⟩:=Za.1 h;obtain⟨h1,h2⟩:=Yi.1 hc;exact⟨e,he,c,h1,h2,rfl⟩
theorem xW{l:List Pt}{a:Tm}:∀x∈NL l a,x.p∈Ac l++NB l:=λx hx=>by
 rcases Qr.1 hx with hx|hx
 ·exact X9 _ (dA x hx)
 ·obtain⟨e,he,c,hc,_,rfl⟩:=nU hx;obtain⟨h1,h2⟩:=SK he;exact Jg _ (kB (I6 h1) (I6 h2) hc)
theorem PO{l:List Pt}(hl:∀p∈l,Sc p.c):∀p∈Ac l++NB l,Cp p:=λp hp=>by
 rcases Qr.1 hp with h|h
 ·exact QZ hl p h
 ·exact Qmi hl p h
theorem KD{α β:Type}(f:α->List β)(n:Nat):∀(m:List α),(∀x∈m,(f x).length≤n)->(m.flatMap f).length≤m.length*n
 | [],_=>by simp
 |
  x::m,h=>by
  have:=KD f n m λy hy=>h y (Qg _ hy)
  have:=h x (by simp);rw[J1,Qu,Q5,Xa];omega
theorem nW(sg:Um->Int)(l C:List Pt):(Bi sg l C).length<=C.length*l.length:=by
 unfold Bi
 split
 ·simp
 ·refine Qa (KD _ l.length _ λe _=>?_) (Q0 _ ?_)
  ·unfold Aj;rw[List.length_map];exact List.length_filter_le _ _
  ·unfold Rt;rw[List.length_zip];exact Nat.min_le_left _ _
theorem pJ{l:List Pt}(hl:∀p∈l,Sc p.c)(hn:l.length≤10):BuildOk (NL l) :=
 ⟨λ_ _ x hx=>PO hl _ (xW x hx),λa _=>by
  have h1:=nW (Fu a) l (S7 l a);have h2:=YW l a;have h3:(S7 l a).length*l.length<=20*10:=Zc (by omega) hn;show(VC l a++Bi (Fu a) l (S7 l a)).length<=1000;have h4:(VC l a).length<=l.length:=by unfold VC;rw[B6,Ns];omega
  rw[Qu];omega⟩
def Ie{α:Type}(l:List α):List (α×α):=l.zip (l.drop 1)
theorem jF{α:Type}{Q:α->α->Prop}:∀{l:List α},Edg Q l↔∀e∈Ie l,Q e.1 e.2
 | []=>by simp[Edg,Ie]
 | [_]=>by simp[Edg,Ie]
 |
  a::b::l=>by
  have ih:=jF (Q:=Q) (l:=b::l);have e:Ie (a::b::l)=(a,b)::Ie (b::l):=rfl;rw[e];constructor
  ·rintro⟨h1,h2⟩ x hx
   rcases Qm.1 hx with rfl|hx
   ·exact h1
   ·exact ih.1 h2 x hx
  ·intro h;exact⟨h (a,b) (by simp),ih.2 λx hx=>h x (Qg _ hx)⟩
theorem CY{α:Type}(f z:α)(A:List α):Ie (f::A++[z])=(f::A).zip (A++[z]):=by
 unfold Ie;rw[Xb,Wh,Xy];have:f::(A++[z])=(f::A)++[z]:=rfl;rw[this];have h:A++[z]=(A++[z])++[]:=(Zw _).symm
 conv=>lhs;rw[h]
 rw[List.zip_append (by simp)];simp
theorem uM{f z:Pt}{A B:List Pt}:Rt ((f::A++[z]).dropLast++(z::B++[f]).dropLast)=Ie (f::A++[z])++Ie (z::B++[f]):=by
 rw[Vz,Vz,CY,CY,<-List.zip_append (by simp)];unfold Rt;congr 1;simp
theorem Edg.rev{α:Type}{Q:α->α->Prop}:∀{l:List α},Edg Q l->Edg (λa b=>Q b a) l.reverse:=by
 have app:∀{Q:α->α->Prop} {l:List α} {b a:α},Edg Q (l++[b])->Q b a->Edg Q (l++[b]++[a]):=by
  intro Q l
  induction l with
  |nil=>intro b a _ h;exact⟨h,trivial⟩
  |
   cons x l ih =>
   intro b a h h2;cases l with
   |nil=>exact⟨h.1,ih h.2 h2⟩
   |cons y l=>exact⟨h.1,ih h.2 h2⟩
 intro l
 induction l with
 |nil=>intro _;trivial
 |
  cons a l ih =>
  intro h;cases l with
  |nil=>trivial
  |
   cons b l =>
   have:=ih h.2;rw[Yo]at this ⊢;rw[Yo];exact app this h.1
theorem Cnv.rev{α:Type}{R:α->α->α->Prop}:∀{l:List α},Cnv R l->Cnv (λa b c=>R c b a) l.reverse:=by
 have app:∀{R:α->α->α->Prop} {l:List α} {c b a:α},Cnv R (l++[c,b])->R c b a->Cnv R (l++[c,b,a]):=by
  intro R l
  induction l with
  |nil=>intro c b a _ h;exact⟨h,trivial⟩
  |
   cons x l ih =>
   intro c b a h h2;cases l with
   |nil=>exact⟨h.1,ih h.2 h2⟩
   |
    cons y l =>
    cases l with
    |nil=>exact⟨h.1,ih h.2 h2⟩
    |cons w l=>exact⟨h.1,ih h.2 h2⟩
 intro l
 induction l with
 |nil=>intro _;trivial
 |
  cons a l ih =>
  intro h
  match l,h with
  | [],_=>trivial
  | [_],_=>trivial
  |
   b::c::l,h =>
   have:=ih h.2;rw[Yo,Yo,Zd]at this;rw[Yo,Yo,Yo,Zd,Zd];exact app this h.1
section
variable{α:Type}{lt lt':α->α->Bool}
theorem EJ{out:List α}{x:α}(h:∀y∈out,lt x y=lt' x y):∀k,L8 lt out x k=L8 lt' out x k
 | 0=>rfl
 |
  k+1=>by
  simp only[L8];cases hy:out[k]? with
  |none=>rfl
  |some y=>simp only[h y (Qc hy),EJ h k]
theorem SG{l:List α}(h:∀u∈l,∀v∈l,lt u v=lt' u v):∀(m out:List α),(∀x∈m,x∈l)->(∀x∈out,x∈l)->m.foldl (Lx lt) out=m.foldl (Lx lt') out
 | [],_,_,_=>rfl
 |
  x::m,out,h1,h2=>by
  have e:Lx lt out x=Lx lt' out x:=by
   unfold Lx;rw[EJ λy hy=>h x (h1 x (by simp)) y (h2 y hy)]
  simp only[Z9];rw[e];exact SG h m _ (λy hy=>h1 y (Qg _ hy)) λy hy=>by
   rcases FK.1 hy with rfl|hy
   ·exact h1 _ (by simp)
   ·exact h2 y hy
end
theorem cH{a:Tm}{l:List Pt}{q:Rat}(hb:∀u∈l,∀v∈l,(Tt (Fu a) u v=true↔Db q u v))(hd:l.Pairwise λx y=>x.id≠y.id):(Tz a l).Pairwise (Db q) :=
 DU (S:=λx=>x∈l) (D:=λx y=>x.id≠y.id) (YN q) (λu v hu hv h=>(hb u hu v hv).1 h) (λu v hu hv hne h=>fN (λe=>hne e.symm) λh'=>by
  rw[(hb u hu v hv).2 h']at h;cases h) l [] .nil (λx hx=>by cases hx) (λx hx=>hx) hd (λx hx=>by cases hx)
theorem Qu4{a:Tm}(ha:Va a){u v:Pt}(hu:Sc u.c)(hv:Sc v.c){q:Rat}(h1:Hj (Fu a) (Gn u.c v.c)=Fg (U9 (Gn u.c v.c) q))(h2:Hj (Fu a) (Gm u.c v.c)=Fg (U9 (Gm u.c v.c) q))(hne:u.c≠v.c)(h:Db q u v):lx (px · q) (py · q) u v:=by
 rcases h with h|⟨h,h3⟩
 ·exact .inl h
 rcases h3 with h3|⟨h3,_⟩
 ·exact .inr ⟨h,h3⟩
 ·exfalso;rw[TN hu hv]at h1;rw[TM hu hv]at h2;have z1:Fg (px v q-px u q)=0:=Gq.2 (by grind);have z2:Fg (py v q-py u q)=0:=Gq.2 (by grind);rw[z1]at h1;rw[z2]at h2;have e1:(Gn u.c v.c).length=0:=Decidable.byContradiction λe=>(En ha (Ng hu hv).dp e).2 h1
  have e2:(Gm u.c v.c).length=0:=Decidable.byContradiction λe=>(En ha (Nf hu hv).dp e).2 h2
  exact hne (Qph hu.n hv.n (Qj e1) (Qj e2))
structure LowC(X Y:Pt->Rat)(R L:List Pt):Prop where
 hd:L.head? = R.head?
 la:L.getLast? = R.getLast?
 srt:L.Pairwise (lx X Y)
 mem:∀p∈L,p∈R
 edg:Edg (λa b=>∀p∈R,0≤Bm X Y a b p) L
 cnv:Cnv (λa b c=>0<Bm X Y a b c) L
theorem IP{X Y:Pt->Rat}{sg:Um->Int}{R:List Pt}(hs:∀a∈R,∀b∈R,∀c∈R,(FU sg a b c=true↔0<Bm X Y a b c))(hR:R.Pairwise (lx X Y))(h0:R≠[]):LowC X Y R (Pn sg R):=by
 cases R with
 |nil=>exact absurd rfl h0
 |
  cons f R =>
  obtain⟨t,st,g1,g2,g3,g4⟩:=IM hs hR R [f] f [] rfl ⟨Kl _ _,λp hp=>by rw[Qk.1 hp];simp,trivial,trivial⟩ rfl rfl;have e:Pn sg (f::R)=(t::st).reverse:=by
   unfold Pn;rw[<-g1];rfl
  rw[e];exact⟨by rw[List.head?_reverse,g4],by rw[List.getLast?_reverse];exact g3.symm,Ky.2 g2.srt,λp hp=>g2.mem p (Jm.1 hp),g2.edg.rev,g2.cnv.rev⟩
theorem Qvu{X Y:Pt->Rat}{R:List Pt}(hR:R.Pairwise (lx X Y)):∀p∈R,∀q∈R,p=q\/lx X Y p q\/lx X Y q p:=λp hp q hq=>by
 by_cases e:p=q
 ·exact .inl e
 ·exact .inr (qA hR hp hq e)
theorem Qit{X Y:Pt->Rat}{R L L':List Pt}(hR:R.Pairwise (lx X Y))(h:LowC X Y R L)(h':LowC X Y R L'):L=L':=by
 have hh:=h.hd.trans h'.hd.symm;have hl:=h.la.trans h'.la.symm;cases L with
 |
  nil=>cases L' with
  |nil=>rfl
  |cons _ _=>simp at hh
 |
  cons f M=>cases L' with
  |nil=>simp at hh
  |
   cons f' M' =>
   simp at hh;subst hh;obtain⟨z,hz⟩:∃z,(f::M).getLast? = some z:=⟨_,Yq (by simp)⟩;rw[Qgr (Qvu hR) M M' f h.srt h'.srt h.mem h'.mem h.edg h'.edg h.cnv h'.cnv hz (hl ▸ hz)]
theorem tG{x y:Rat}(h:Fg x=Fg y):(0<=x->0<=y)/\(0<x->0<y):=by
 have h1:=Fz x;have h2:=Fz y;grind
theorem wC{X Y X' Y':Pt->Rat}{R:List Pt}:∀{L:List Pt},(∀p∈L,p∈R)->(∀e∈Ie L,∀p∈R,Fg (Bm X Y e.1 e.2 p)=Fg (Bm X' Y' e.1 e.2 p))->Cnv (λa b c=>0<Bm X Y a b c) L->Cnv (λa b c=>0<Bm X' Y' a b c) L
 | [],_,_,_=>trivial
 | [_],_,_,_=>trivial
 | [_,_],_,_,_=>trivial
 |a::b::c::l,hm,he,h=>⟨(tG (he (a,b) (by simp[Ie]) c (hm c (by simp)))).2 h.1,wC (λp hp=>hm p (Qg _ hp)) (λe hx=>he e (Qg _ hx)) h.2⟩
theorem fB{X Y X' Y':Pt->Rat}{R L:List Pt}(h:LowC X Y R L)(hl:∀u∈R,∀v∈R,lx X Y u v->lx X' Y' u v)(he:∀e∈Ie L,∀p∈R,Fg (Bm X Y e.1 e.2 p)=Fg (Bm X' Y' e.1 e.2 p)):LowC X' Y' R L :=
 ⟨h.hd,h.la,h.srt.imp_of_mem λhu hv h'=>hl _ (h.mem _ hu) _ (h.mem _ hv) h',h.mem,jF.2 λe hx p hp=>(tG (he e hx p hp)).1 (jF.1 h.edg e hx p hp),wC h.mem he h.cnv⟩
theorem yP(X Y:Pt->Rat)(a b c:Pt):Bm (λp=>-X p) (λp=>-Y p) a b c=Bm X Y a b c:=by unfold Bm;grind
theorem yV{X Y:Pt->Rat}{a b:Pt}:lx (λp=>-X p) (λp=>-Y p) a b↔lx X Y b a:=by unfold lx;grind
theorem Qsn{L:List Pt}{f z:Pt}(h1:L.head? = some f)(h2:L.getLast? = some z)(hne:f≠z):∃A,L=f::A++[z]:=by
 cases L with
 |nil=>cases h1
 |
  cons g M =>
  simp at h1;subst h1;cases M with
  |nil=>simp at h2;exact absurd h2 hne
  |
   cons x M =>
   rw[J0]at h2;obtain⟨A,hA⟩:=Y8.1 h2;exact⟨A,by rw[hA];rfl⟩
theorem DK{α β:Type}{f g:α->List β}:∀{m:List α},(∀x∈m,f x=g x)->m.flatMap f=m.flatMap g
 | [],_=>rfl
 |x::m,h=>by rw[J1,J1,h x (by simp),DK λy hy=>h y (Qg _ hy)]
theorem fW{sa sb:Um->Int}{l C:List Pt}(h:∀x∈Bi sa l C,Hj sb x.p=Hj sa x.p):Bi sb l C=Bi sa l C:=by
 by_cases h2:C.length<2
 ·unfold Bi;rw[if_pos h2,if_pos h2]
 ·have e:∀s,Bi s l C=(Rt C).flatMap (Aj s l):=λs=>if_neg h2
  rw[e]at h ⊢;rw[e];refine DK λx hx=>Xq λc hc=>?_
  have:=h (Lh sa x.1 x.2 c) (Zo.2 ⟨x,hx,Wi hc⟩);show(⟨3,x.1.id,x.2.id,c.id,0,Hh x.1.c x.2.c c.c,Hj sb (Hh x.1.c x.2.c c.c)⟩:Ct)=⟨3,x.1.id,x.2.id,c.id,0,Hh x.1.c x.2.c c.c,Hj sa (Hh x.1.c x.2.c c.c)⟩;have this:Hj sb (Hh x.1.c x.2.c c.c)=Hj sa (Hh x.1.c x.2.c c.c):=this;rw[this]
theorem Qab{l:List Pt}(hd:l.Pairwise λx y=>x.id≠y.id){u v:Pt}(hu:u∈l)(hv:v∈l)(h:u.id=v.id):u=v:=by
 refine Classical.byContradiction λe=>?_
 rcases qA hd hu hv e with h'|h'
 ·exact h' h
 ·exact h' h.symm
structure Soon(l:List Pt)(a:Tm)(q:Rat):Prop where
 g:∀p∈Ac l++NB l,Hj (Fu a) p=Fg (U9 p q)
 b:∀u∈l,∀v∈l,(Tt (Fu a) u v=true↔Db q u v)
 o:∀u∈l,∀v∈l,∀w∈l,Hj (Fu a) (Hh u.c v.c w.c)=Fg (Bm (px · q) (py · q) u v w)
 t:∀u∈l,∀v∈l,∀w∈l,(FU (Fu a) u v w=true↔0<Bm (px · q) (py · q) u v w)
 r:(Tz a (Tp l)).Pairwise (lx (px · q) (py · q))
theorem Qk0{l:List Pt}(hl:∀p∈l,Sc p.c)(hd:l.Pairwise λx y=>x.id≠y.id){a:Tm}(ha:Va a):∃y,Fp a y=-1/\∀q,Fp a q=-1->q≤y->Soon l a q:=by
 obtain⟨y,y1,y2⟩:=XH ha (Ac l++NB l) λp hp=>(PO hl p hp).dp
 refine⟨y,y1,λq q1 q2=>?_⟩;have g:=y2 q q1 q2;have gP:=λp hp=>g p (X9 _ hp)
 have b:∀u∈l,∀v∈l,(Tt (Fu a) u v=true↔Db q u v):=λu hu v hv=>BX ha (hl u hu) (hl v hv) (gP _ (Sj hu hv).1) (gP _ (Sj hu hv).2)
 have o:∀u∈l,∀v∈l,∀w∈l,Hj (Fu a) (Hh u.c v.c w.c)=Fg (Bm (px · q) (py · q) u v w):=λu hu v hv w hw=>by
  rw[g _ (Jg _ (kB hu hv hw)),cN (hl u hu) (hl v hv) (hl w hw)]
 refine⟨g,b,o,λu hu v hv w hw=>?_,?_⟩
 ·unfold FU;rw[o u hu v hv w hw,decide_eq_true_eq];have:=Fz (Bm (px · q) (py · q) u v w);grind
 ·have hw:∀u∈Tp l,u∈l:=λu hu=>Nv hu
  have h1:=cH (a:=a) (l:=Tp l) (q:=q) (λu hu v hv=>b u (hw u hu) v (hw v hv)) (List.Pairwise.sublist (Qlk l) hd);have h2:(Tz a (Tp l)).Pairwise λx y=>x.c≠y.c:=(List.Perm.pairwise_iff (λ{x y} h e=>h e.symm) (cI (lt:=Tt (Fu a)) (Tp l))).2 (Qqz l)
  refine(h1.and h2).imp_of_mem λ{u v} hu hv h=>?_
  have hu:=hw u (Hq.1 hu);have hv:=hw v (Hq.1 hv);exact Qu4 ha (hl u hu) (hl v hv) (gP _ (Sj hu hv).1) (gP _ (Sj hu hv).2) h.2 h.1
theorem Qad{l:List Pt}(hl:∀p∈l,Sc p.c)(hd:l.Pairwise λx y=>x.id≠y.id){a:Tm}(ha:Va a):∃q,Soon l a q :=
 let⟨y,h1,h2⟩:=Qk0 hl hd ha
 ⟨y,h2 y h1 Qp⟩
theorem CV{l:List Pt}{a:Tm}{q:Rat}(S:Soon l a q)(h3:3<=(Tz a (Tp l)).length):∃f z A B,Pn (Fu a) (Tz a (Tp l))=f::A++[z]/\Pn (Fu a) (Tz a (Tp l)).reverse=z::B++[f]/\LowC (px · q) (py · q) (Tz a (Tp l)) (f::A++[z])/\LowC (λp=>-px p q) (λp=>-py p q) (Tz a (Tp l)).reverse (z::B++[f])/\Rt (S7 l a)=Ie (f::A++[z])++Ie (z::B++[f])/\2<=(S7 l a).length:=by
 obtain⟨R,hR⟩:=nmE (Tz a (Tp l));have hm:∀x∈R,x∈l:=λx hx=>by rw[hR]at hx;exact Nv (Hq.1 hx)
 have r:=S.r;rw[<-hR]at r h3 ⊢;have h0:R≠[]:=λe=>by rw[e]at h3;simp at h3
 have c1:=IP (sg:=Fu a) (λu hu v hv w hw=>S.t u (hm u hu) v (hm v hv) w (hm w hw)) r h0;have r2:R.reverse.Pairwise (lx (λp=>-px p q) (λp=>-py p q)):=Ky.2 (r.imp λh=>yV.2 h);have c2:=IP (sg:=Fu a) (R:=R.reverse) (X:=λp=>-px p q) (Y:=λp=>-py p q) (λu hu v hv w hw=>by
  rw[yP (px · q) (py · q)];exact S.t u (hm u (Jm.1 hu)) v (hm v (Jm.1 hv)) w (hm w (Jm.1 hw))) r2 (by simpa using h0)
 obtain⟨f,hf⟩:∃f,R.head? = some f:=by cases R with
  |nil=>exact absurd rfl h0
  |cons f _=>exact⟨f,rfl⟩
 obtain⟨z,hz⟩:∃z,R.getLast? = some z:=⟨_,Yq h0⟩;have hne:f≠z:=λe=>by
  subst e;cases R with
  |nil=>exact absurd rfl h0
  |
   cons g M =>
   simp at hf;subst hf;cases M with
   |nil=>simp at h3
   |
    cons x M =>
    rw[J0]at hz;exact Ly _ ((Zg.1 r).1 g (V1 hz))
 obtain⟨A,hA⟩:=Qsn (c1.hd.trans hf) (c1.la.trans hz) hne;obtain⟨B,hB⟩:=Qsn (c2.hd.trans (by rw[List.head?_reverse];exact hz)) (c2.la.trans (by rw[List.getLast?_reverse];exact hf)) (Ne.symm hne);have hc:S7 l a=(f::A++[z]).dropLast++(z::B++[f]).dropLast:=by
  unfold S7 Eb;rw[<-hR,if_neg (by omega),hA,hB]
 rw[hA]at c1;rw[hB]at c2;refine⟨f,z,A,B,hA,hB,c1,c2,by rw[hc];exact uM,?_⟩;rw[hc,Vz,Vz];simp;omega
theorem Qck{l:List Pt}(hl:∀p∈l,Sc p.c)(hd:l.Pairwise λx y=>x.id≠y.id){a b:Tm}(ha:Va a)(hb:Va b)(h:∀x∈NL l a,Hj (Fu b) x.p=Hj (Fu a) x.p):S7 l b=S7 l a/\NL l b=NL l a:=by
 obtain⟨q,Sa⟩:=Qad hl hd ha;obtain⟨r,Sb⟩:=Qad hl hd hb;obtain⟨k1,k2⟩:=tY hl hd ha hb λx hx=>h x (X9 _ hx)
 have pa:=cH Sa.b hd;have pb:=cH Sb.b hd;rw[k1]at pb;have pab:=pa.and pb;have lexs:∀u∈l,∀v∈l,(Db q u v↔Db r u v):=λu hu v hv=>by
  by_cases e:u=v
  ·subst e;exact⟨λh=>absurd h (XE _ _),λh=>absurd h (XE _ _)⟩
  ·rcases qA pab (Hq.2 hu) (Hq.2 hv) e with h'|h'
   ·exact⟨λ_=>h'.2,λ_=>h'.1⟩
   ·exact⟨λh=>absurd (YN _ _ _ _ h h'.1) (XE _ _),λh=>absurd (YN _ _ _ _ h h'.2) (XE _ _)⟩
 have bef:∀u∈l,∀v∈l,Tt (Fu b) u v=Tt (Fu a) u v:=λu hu v hv=>by
  have h1:=Sa.b u hu v hv;have h2:=Sb.b u hu v hv;have h3:=lexs u hu v hv;cases e1:Tt (Fu a) u v <;> cases e2:Tt (Fu b) u v <;> rw[e1]at h1 <;> rw[e2]at h2 <;> simp_all
 have eR:Tz b (Tp l)=Tz a (Tp l):=SG (l:=Tp l) (λu hu v hv=>bef u (Nv hu) v (Nv hv)) (Tp l) [] (λx hx=>hx) λx hx=>by cases hx
 have hm:∀x∈Tz a (Tp l),x∈l:=λx hx=>Nv (Hq.1 hx)
 have rb:=Sb.r;rw[eR]at rb;have hc:S7 l b=S7 l a:=by
  by_cases h3:(Tz a (Tp l)).length<3
  ·unfold S7 Eb;rw[eR,if_pos h3,if_pos h3]
  ·obtain⟨f,z,A,B,hA,hB,c1,c2,hE,hC2⟩:=CV Sa (by omega);obtain⟨f',z',A',B',hA',hB',c1',c2',hE',_⟩:=CV Sb (by rw[eR];omega);rw[eR]at hA' hB' c1' c2';have sgs:∀e∈Rt (S7 l a),∀p∈Tz a (Tp l),Fg (Bm (px · q) (py · q) e.1 e.2 p)=Fg (Bm (px · r) (py · r) e.1 e.2 p):=λe he p hp=>by
    obtain⟨m1,m2⟩:=SK he;have m1:=I6 m1;have m2:=I6 m2;have m3:=hm p hp;by_cases ho:VT e p=true
    ·have hx:Lh (Fu a) e.1 e.2 p∈NL l a:=by
      refine Jg _ ?_;unfold Bi;rw[if_neg (by omega)];exact Zo.2 ⟨e,he,Wi (Yi.2 ⟨m3,ho⟩)⟩
     have hg:Hj (Fu b) (Hh e.1.c e.2.c p.c)=Hj (Fu a) (Hh e.1.c e.2.c p.c):=h _ hx;rw[<-Sa.o _ m1 _ m2 _ m3,<-Sb.o _ m1 _ m2 _ m3,hg]
    ·have hz:∀X Y:Pt->Rat,Bm X Y e.1 e.2 p=0:=λX Y=>by
      by_cases e1:p.id=e.1.id
      ·rw[Qab hd m3 m1 e1];exact(FD _ _).1
      ·by_cases e2:p.id=e.2.id
       ·rw[Qab hd m3 m2 e2];exact(FD _ _).2
       ·exact absurd (by simp[VT,e1,e2]) ho
     rw[hz,hz]
   have hlx:∀u∈Tz a (Tp l),∀v∈Tz a (Tp l),lx (px · q) (py · q) u v->lx (px · r) (py · r) u v:=λu hu v hv huv=>by
    have ra:=Sa.r;by_cases e:u=v
    ·subst e;exact absurd huv (Ly _)
    ·rcases qA (ra.and rb) hu hv e with h'|h'
     ·exact h'.2
     ·exact absurd (fL huv h'.1) (Ly _)
   have e1:=Qit rb (fB c1 hlx λe he=>sgs e (by rw[hE];exact X9 _ he)) c1';have rb2:(Tz a (Tp l)).reverse.Pairwise (lx (λp=>-px p r) (λp=>-py p r)):=Ky.2 (rb.imp λh=>yV.2 h);have e2:=Qit rb2 (fB c2 (λu hu v hv huv=>yV.2 (hlx v (Jm.1 hv) u (Jm.1 hu) (yV.1 huv))) λe he p hp=>by
    rw[yP (px · q) (py · q),yP (px · r) (py · r)];exact sgs e (by rw[hE];exact Jg _ he) p (Jm.1 hp)) c2'
   unfold S7 Eb;rw[eR,if_neg h3,if_neg h3,hA,hB,hA',hB',e1,e2]
 refine⟨hc,?_⟩;unfold NL;rw[hc,k2,fW λx hx=>h x (Jg _ hx)]
theorem Qy1{l:List Pt}(hl:∀p∈l,Sc p.c)(hn:l.length≤10)(hd:l.Pairwise λx y=>x.id≠y.id):Stab (NL l) (brH l):=by
 refine⟨pJ hl hn,⟨Ac l++NB l,PO hl,λa _ x hx=>xW x hx⟩,λa b ha hb h=>?_⟩;obtain⟨e1,e2⟩:=Qck hl hd ha hb h;exact⟨e2,by show U0 _=U0 _;rw[e1]⟩
end Orq
namespace Orq
open Orr Go
theorem KC{a b c d:Crv}(ha:Sc a)(hb:Sc b)(hc:Sc c)(hd:Sc d):Cp (Hp a b c d):=by
 have lr:∀{a b:Crv},Sc a->Sc b->(Gn a b).length<=3/\(Gm a b).length<=3:=λ{a b} ha hb=>by
  have:=Nk (Fw b.x a.d) (Fw a.x b.d);have:=Fx b.x a.d;have:=Fx a.x b.d;have:=Nk (Fw b.y a.d) (Fw a.y b.d);have:=Fx b.y a.d;have:=Fx a.y b.d;have:=ha.c.lx;have:=hb.c.lx;have:=ha.c.ly;have:=hb.c.ly;unfold Gn Gm;omega
 have ap:∀{a b:Crv},Sc a->Sc b->(S0 a b).length<=5/\Bd 517 (S0 a b):=λ{a b} ha hb=>by
  obtain⟨l1,l2⟩:=lr ha hb;have b1:Bd 257 (Gn a b):=Du (Ge hb.c.x ha.c.d) (Ge ha.c.x hb.c.d);have b2:Bd 257 (Gm a b):=Du (Ge hb.c.y ha.c.d) (Ge ha.c.y hb.c.d);have q1:=Pm (u:=2) b1 b1 (by omega);have q2:=Pm (u:=2) b2 b2 (by omega);refine⟨?_,U5 (YZ q1 q2) (by omega)⟩;have:=Of (Gl (Gn a b) (Gn a b)) (Gl (Gm a b) (Gm a b));have:=Tw (Gn a b) (Gn a b);have:=Tw (Gm a b) (Gm a b);unfold S0;omega
 have dd:∀{a b:Crv},Sc a->Sc b->Fe ((a.d*b.d)*(a.d*b.d))<=512:=λ{a b} ha hb=>by
  have:=Ga a.d b.d;have:=Ga (a.d*b.d) (a.d*b.d);have:=ha.c.d;have:=hb.c.d;omega
 obtain⟨l1,b1⟩:=ap hc hd;obtain⟨l2,b2⟩:=ap ha hb;refine⟨Fy _ _,?_,U5 (Du (Ge b1 (dd ha hb)) (Ge b2 (dd hc hd))) (by omega)⟩;have:=Nk (Fw (S0 c d) ((a.d*b.d)*(a.d*b.d))) (Fw (S0 a b) ((c.d*d.d)*(c.d*d.d)));have:=Fx (S0 c d) ((a.d*b.d)*(a.d*b.d));have:=Fx (S0 a b) ((c.d*d.d)*(c.d*d.d));unfold Hp;omega
def sC(m:Pt×Pt)(q:Rat):Rat:=(px m.2 q-px m.1 q)*(px m.2 q-px m.1 q)+(py m.2 q-py m.1 q)*(py m.2 q-py m.1 q)
theorem Qop{a b c d:Pt}(ha:Sc a.c)(hb:Sc b.c)(hc:Sc c.c)(hd:Sc d.c)(q:Rat):Fg (U9 (Hp a.c b.c c.c d.c) q)=Fg (sC (c,d) q-sC (a,b) q):=by
 have Rw:∀{z:Int},0<z->(0:Rat)<(z:Rat):=λ{z} h=>by exact_mod_cast h
 have pa:=Rw ha.n.2.2.1;have pb:=Rw hb.n.2.2.1;have pc:=Rw hc.n.2.2.1;have pd:=Rw hd.n.2.2.1;have xx:∀{p:Pt},0<(p.c.d:Rat)->U9 p.c.x q=px p q*(p.c.d:Rat)/\U9 p.c.y q=py p q*(p.c.d:Rat):=λ{p} h=>by
  unfold px py;exact⟨(Zj (by grind)).symm,(Zj (by grind)).symm⟩
 obtain⟨xa,ya⟩:=xx pa;obtain⟨xb,yb⟩:=xx pb;obtain⟨xc,yc⟩:=xx pc;obtain⟨xd,yd⟩:=xx pd;have e:U9 (Hp a.c b.c c.c d.c) q=(((a.c.d:Rat)*b.c.d)*((a.c.d:Rat)*b.c.d))*(((c.c.d:Rat)*d.c.d)*((c.c.d:Rat)*d.c.d))*(sC (c,d) q-sC (a,b) q):=by
  unfold Hp S0 Gn Gm sC;simp only[Nn,Ro,LA,Gk,X1];rw[xa,xb,xc,xd,ya,yb,yc,yd];grind
 rw[e,C5];have h1:=Xs pa pb;have h2:=Xs pc pd;exact Xs (Xs h1 h1) (Xs h2 h2)
def AH(l:List Pt):Un:=l.flatMap λa=>l.flatMap λb=>l.flatMap λc=>l.map λd=>Hp a.c b.c c.c d.c
theorem NN{l:List Pt}{a b c d:Pt}(ha:a∈l)(hb:b∈l)(hc:c∈l)(hd:d∈l):Hp a.c b.c c.c d.c∈AH l :=
 Zo.2 ⟨a,ha,Zo.2 ⟨b,hb,Zo.2 ⟨c,hc,Za.2 ⟨d,hd,rfl⟩⟩⟩⟩
theorem WI{l:List Pt}(hl:∀p∈l,Sc p.c):∀p∈AH l,Cp p:=λp hp=>by
 obtain⟨a,ha,hp⟩:=Zo.1 hp;obtain⟨b,hb,hp⟩:=Zo.1 hp;obtain⟨c,hc,hp⟩:=Zo.1 hp;obtain⟨d,hd,rfl⟩:=Za.1 hp;exact KC (hl a ha) (hl b hb) (hl c hc) (hl d hd)
theorem aW{l:List Pt}(hl:∀p∈l,Sc p.c){a:Tm}(ha:Va a):∃y,Fp a y=-1/\∀q,Fp a q=-1->q≤y->∀s m:Pt×Pt,s.1∈l->s.2∈l->m.1∈l->m.2∈l->Hj (Fu a) (Hp s.1.c s.2.c m.1.c m.2.c)=Fg (sC m q-sC s q):=by
 obtain⟨y,y1,y2⟩:=XH ha (AH l) λp hp=>(WI hl p hp).dp
 refine⟨y,y1,λq q1 q2 s m h1 h2 h3 h4=>?_⟩;rw[y2 q q1 q2 _ (NN h1 h2 h3 h4),Qop (hl _ h1) (hl _ h2) (hl _ h3) (hl _ h4)]
def D7(f:Pt×Pt->Rat)(P:List (Pt×Pt))(r:Pt×Pt):Prop:=∃P1 P2,P=P1++r::P2/\(∀m∈P1,f r<f m)/\∀m∈P2,f r≤f m
theorem OF{f:Pt×Pt->Rat}:∀{P:List (Pt×Pt)} {r r':Pt×Pt},D7 f P r->D7 f P r'->r=r'
 | [],r,r',⟨P1,P2,h,_⟩,_=>by simp at h
 |
  x::P,r,r',⟨P1,P2,h,h1,h2⟩,⟨Q1,Q2,h',h1',h2'⟩=>by
  cases P1 with
  |
   nil =>
   simp at h;cases Q1 with
   |nil=>simp at h';exact h.1.symm.trans h'.1
   |
    cons y Q1 =>
    simp at h';exfalso;obtain⟨rfl,rfl⟩:=h;obtain⟨rfl,rfl⟩:=h';have a1:=h1' x (by simp);have a2:=h2 r' (by simp);grind
  |
   cons y P1 =>
   simp at h;cases Q1 with
   |
    nil =>
    simp at h';exfalso;obtain⟨rfl,rfl⟩:=h;obtain⟨rfl,rfl⟩:=h';have a1:=h1 x (by simp);have a2:=h2' r (by simp);grind
   |
    cons z Q1 =>
    simp at h h';exact OF (P:=P) ⟨P1,P2,h.2,λm hm=>h1 m (by simp[hm]),h2⟩ ⟨Q1,Q2,h'.2,λm hm=>h1' m (by simp[hm]),h2'⟩
theorem Qoq{f:Pt×Pt->Rat}{P:List (Pt×Pt)}{r m:Pt×Pt}(h:D7 f P r):D7 f (P++[m]) (if f m<f r then m else r):=by
 obtain⟨P1,P2,rfl,h1,h2⟩:=h;by_cases e:f m<f r
 ·rw[if_pos e];refine⟨P1++r::P2,[],rfl,λx hx=>?_,λx hx=>by cases hx⟩;rcases Qr.1 hx with hx|hx
  ·have:=h1 x hx;grind
  ·rcases Qm.1 hx with rfl|hx
   ·exact e
   ·have:=h2 x hx;grind
 ·rw[if_neg e];refine⟨P1,P2++[m],by simp,h1,λx hx=>?_⟩;rcases Qr.1 hx with hx|hx
  ·exact h2 x hx
  ·rw[Qk.1 hx];grind
theorem aG{f:Pt×Pt->Rat}{sg:Um->Int}{l:List Pt}(hg:∀s m:Pt×Pt,s.1∈l->s.2∈l->m.1∈l->m.2∈l->Hj sg (Hp s.1.c s.2.c m.1.c m.2.c)=Fg (f m-f s)):∀(ps P:List (Pt×Pt)) (s:Pt×Pt),s.1∈l/\s.2∈l->(∀m∈ps,m.1∈l/\m.2∈l)->D7 f P s->D7 f (P++ps) (Hn sg s ps)
 | [],P,s,_,_,h=>by rw[Zw];exact h
 |
  m::ps,P,s,hs,hp,h=>by
  rw[QI];have hm:=hp m (by simp);have e:P8 sg s m=if f m<f s then m else s:=by
   unfold P8;rw[hg s m hs.1 hs.2 hm.1 hm.2];have:=Fz (f m-f s);by_cases h:f m<f s
   ·rw[if_pos h,if_pos (by grind)]
   ·rw[if_neg h,if_neg (by grind)]
  have hn:(P8 sg s m).1∈l/\(P8 sg s m).2∈l:=by
   rcases RO sg s m with e|e <;> rw[e] <;> assumption
  have:=aG hg ps (P++[m]) (P8 sg s m) hn (λx hx=>hp x (Qg _ hx)) (by rw[e];exact Qoq h);rwa[Zd]at this
theorem bU(a b:Pt)(l:List Pt):∃P,Gs (a::b::l)=(a,b)::P:=⟨_,rfl⟩
theorem iR{f:Pt×Pt->Rat}{sg:Um->Int}{a b:Pt}{l:List Pt}(hg:∀s m:Pt×Pt,s.1∈a::b::l->s.2∈a::b::l->m.1∈a::b::l->m.2∈a::b::l->Hj sg (Hp s.1.c s.2.c m.1.c m.2.c)=Fg (f m-f s)):D7 f (Gs (a::b::l)) (Hn sg (a,b) (Gs (a::b::l))):=by
 obtain⟨P,hP⟩:=bU a b l;have hm:=Sy (a::b::l).length (a::b::l);have hm:∀m∈Gs (a::b::l),m.1∈a::b::l/\m.2∈a::b::l:=hm;rw[hP]at hm ⊢;have h:=aG hg P [(a,b)] (a,b) (hm (a,b) (by simp)) (λm h=>hm m (by simp[h])) ⟨[],[],rfl,λm h=>(by cases h),λm h=>(by cases h)⟩;rw[QI];have e:P8 sg (a,b) (a,b)=(a,b):=by rcases RO sg (a,b) (a,b)with e|e <;> exact e
 rw[e];exact h
theorem Qac{l:List Pt}(hd:l.Pairwise λx y=>x.id≠y.id){u v:Pt}(hu:u∈l)(hv:v∈l)(h:u.id=v.id):u=v:=by
 by_cases e:u=v
 ·exact e
 ·rcases qA hd hu hv e with h'|h'
  ·exact absurd h h'
  ·exact absurd h.symm h'
theorem Qc4{l:List Pt}(hl:∀p∈l,Sc p.c)(hd:l.Pairwise λx y=>x.id≠y.id){a b:Tm}(ha:Va a)(hb:Va b)(h:∀x∈Lm (Fu a) l,Hj (Fu b) x.p=Hj (Fu a) x.p):ZH (Fu b) l=ZH (Fu a) l/\Lm (Fu b) l=Lm (Fu a) l:=by
 match l,hl,hd,h with
 | [],_,_,_=>exact⟨rfl,rfl⟩
 | [x],_,_,_=>exact⟨rfl,rfl⟩
 |
  u::v::l',hl,hd,h =>
  obtain⟨y,y1,y2⟩:=aW hl ha;obtain⟨z,z1,z2⟩:=aW hl hb;have ga:=y2 y y1 Qp;have gb:=z2 z z1 Qp;have fa:=iR (f:=λm=>sC m y) ga;have fb:=iR (f:=λm=>sC m z) gb;simp only[ZH,Lm]at h ⊢;have hm:∀m∈Gs (u::v::l'),m.1∈u::v::l'/\m.2∈u::v::l':=Sy _ _;generalize u::v::l'=l at *;obtain⟨r,hr⟩:=nmE (Hn (Fu a) (u,v) (Gs l));rw[<-hr]at fa h ⊢;obtain⟨P1,P2,hP,h1,h2⟩:=fa;have hrm:r∈Gs l:=by rw[hP];simp
  have hrl:=hm r hrm;have key:∀m∈Gs l,m=r\/Hj (Fu b) (Hp r.1.c r.2.c m.1.c m.2.c)=Hj (Fu a) (Hp r.1.c r.2.c m.1.c m.2.c):=λm hmm=>by
   have hml:=hm m hmm;by_cases e:ZG r m=true
   ·right;have h0:=h (Bj (Fu a) r.1 r.2 m.1 m.2) (by unfold M4;exact List.mem_map.2 ⟨m,List.mem_filter.2 ⟨hmm,e⟩,rfl⟩);rw[LU]at h0;exact h0
   ·left;unfold ZG at e;simp at e;have e1:=Qac hd hml.1 hrl.1 e.1;have e2:=Qac hd hml.2 hrl.2 e.2;exact Prod.ext e1 e2
  have fb':D7 (λm=>sC m z) (Gs l) r:=by
   refine⟨P1,P2,hP,λm hmm=>?_,λm hmm=>?_⟩
   ·have hmp:m∈Gs l:=by rw[hP];simp[hmm]
    have hlt:=h1 m hmm;have hml:=hm m hmp;rcases key m hmp with e|e
    ·exfalso;rw[e]at hlt;dsimp only at hlt;grind
    ·rw[ga r m hrl.1 hrl.2 hml.1 hml.2,gb r m hrl.1 hrl.2 hml.1 hml.2]at e;dsimp only at hlt ⊢;rw[Hy.2 (by grind:0<sC m y-sC r y)]at e;have:=Hy.1 e;grind
   ·have hmp:m∈Gs l:=by rw[hP];simp[hmm]
    have hlt:=h2 m hmm;have hml:=hm m hmp;rcases key m hmp with e|e
    ·rw[e];exact Qp
    ·rw[ga r m hrl.1 hrl.2 hml.1 hml.2,gb r m hrl.1 hrl.2 hml.1 hml.2]at e;dsimp only at hlt ⊢;have t1:=Fz (sC m y-sC r y);have t2:=Fz (sC m z-sC r z);grind
  have er:=OF fb fb';rw[er];refine⟨rfl,?_⟩;unfold M4;refine Xq λm hmm=>?_
  have hmp:=(Yi.1 hmm).1;rcases key m hmp with e|e
  ·exfalso;have:=(Yi.1 hmm).2;rw[e]at this;unfold ZG at this;simp at this
  ·unfold Bj;rw[e]
theorem Qy2{l:List Pt}(hl:∀p∈l,Sc p.c)(hn:l.length≤10)(hd:l.Pairwise λx y=>x.id≠y.id):Stab (λa=>Lm (Fu a) l) (λa=>U0 (ZH (Fu a) l)):=by
 have hcp:∀a,∀x∈Lm (Fu a) l,x.p∈AH l:=λa x hx=>by
  match l,hx with
  |
   u::v::l',hx =>
   simp only[Lm]at hx;obtain⟨h3,h4⟩:=Lj (Fu a) (l:=u::v::l') (Gs (u::v::l')) (u,v) ⟨by simp,by simp⟩ (Sy _ _);obtain⟨m,hm,rfl⟩:=ID hx;obtain⟨h1,h2⟩:=Sy _ _ m hm;rw[LU];exact NN h3 h4 h1 h2
 refine⟨⟨λa _ x hx=>WI hl _ (hcp a x hx),λa _=>?_⟩,⟨AH l,WI hl,λa _=>hcp a⟩,λa b ha hb h=>?_⟩
 ·have:=qP (Fu a) l;have:l.length*l.length<=10*10:=Zc hn hn;show(Lm (Fu a) l).length<=1000;omega
 ·obtain⟨h1,h2⟩:=Qc4 hl hd ha hb h;exact⟨h2,by show U0 _=U0 _;rw[h1]⟩
end Orq
namespace Orr
open Go Go.Proofs Tryz Orq
set_option maxRecDepth 10000
def JX:Nat->Ur->Ur
 |_,[]=>[]
 | 0,x::l=>FP x::l
 |k+1,x::l=>x::JX k l
theorem qG:∀(k:Nat) (l:Ur),(JX k l).length=l.length
 |_,[]=>by cases ‹Nat› <;> rfl
 | 0,x::l=>rfl
 |k+1,x::l=>by simp only[JX,Q5,qG k l]
theorem qF:∀(k:Nat) (l:Ur) {j:Nat} {y:LV},(JX k l)[j]? = some y->∃x,l[j]? = some x/\(y=x\/y=FP x)
 | 0,[],_,_,h=>by simp[JX]at h
 |_+1,[],_,_,h=>by simp[JX]at h
 | 0,x::l,0,y,h=>by simp[JX]at h;exact⟨x,rfl,.inr h.symm⟩
 | 0,x::l,j+1,y,h=>by simp[JX]at h;exact⟨y,by simpa using h,.inl rfl⟩
 |k+1,x::l,0,y,h=>by simp[JX]at h;exact⟨x,rfl,.inl h.symm⟩
 |
  k+1,x::l,j+1,y,h=>by
  simp only[JX,Jk]at h;obtain⟨z,h1,h2⟩:=qF k l h;exact⟨z,by simpa using h1,h2⟩
theorem nlc{P:Program}[Mo P]{n:Nat}{Q:Exit->Sg->Ut->Prop}{L:Sg}{B B':Ut}(i d:Nat){T:TypeId}{xs:Ur}{it:List It}(hs:Rk it=true)(hb:A6 B i=some (.blk T xs))(hB:Ay B i (.blk T (JX d xs))=some B')(k:AK P n Q it L B'):AK P n Q it L B:=by
 obtain⟨rfl,hl⟩:=Ba hB;have hbi:B[i]? = some (.blk T xs):=S9 ▸ hb;refine AK.sub (λF E M a w h=>⟨E,M,?_,h.size,h.defers,h.slots⟩) hs k;rw[WZ,JV hbi];refine h.hs.re (λj=>?_) (λj=>?_) (λj=>?_) λj hj=>?_
 ·by_cases e:j=i
  ·subst e;rw[Fl];obtain⟨g,c,m,h1,cs,h2,h3⟩:=h.blk hb;refine⟨g,c,m,h1,cs,h2,F2.of (by rw[qG];exact h3.len) λk v x hv hx=>?_⟩;obtain⟨y,hy,hyx⟩:=qF _ _ hx;rcases hyx with rfl|rfl
   ·exact h3.get' hv hy
   ·exact iP (h3.get' hv hy)
  ·rw[Gf _ _ e];exact h.hs.blk j
 ·by_cases e:j=i
  ·subst e;rw[Fl,Rx hbi];rfl
  ·rw[Gf _ _ e]
 ·by_cases e:j=i
  ·subst e;rw[Fl,Rx hbi];rfl
  ·rw[Gf _ _ e]
 ·by_cases e:j=i
  ·subst e;rw[Rx hbi]at hj;cases hj
  ·rw[Gf _ _ e];exact hj
theorem UB{l m:Us}(h:l=m):TV.one (LV.row l)=.one (.row m):=h ▸ rfl
theorem wR{a b:Crv}(ha:ZL a)(hb:ZL b)(ca:Cb a)(cb:Cb b):Uj 217 [.agg (cl a),.agg (cl b)] [pr (S0 a b)]:=by
 obtain⟨p1,l1,b1⟩:=rJ ca cb;obtain⟨p2,l2,b2⟩:=rZ ca cb;have m1:=Tw (Gn a b) (Gn a b);have m2:=Tw (Gm a b) (Gm a b);have q1:=Pm (u:=5) b1 b1 (by omega);have q2:=Pm (u:=5) b2 b2 (by omega);exact Ug func217 rfl [.k (UY ha hb ca cb),.k (UZ ha hb ca cb),.k (KG p1.t p1.t (by omega) (by omega) b1 b1 (by omega)),.k (KG p2.t p2.t (by omega) (by omega) b2 b2 (by omega)),.k (BG (by omega) (by omega) (U5 q1 (by omega)) (U5 q2 (by omega)))] rfl
theorem Qbc{a b c d:Crv}(ha:ZL a)(hb:ZL b)(hc:ZL c)(hd:ZL d)(ca:Cb a)(cb:Cb b)(cc:Cb c)(cd:Cb d):Uj 173 [.agg (cl a),.agg (cl b),.agg (cl c),.agg (cl d)] [pr (Hp a b c d)]:=by
 have na:=Dx ha (ca.mono (by omega) (by omega));have nb:=Dx hb (cb.mono (by omega) (by omega));have nc:=Dx hc (cc.mono (by omega) (by omega));have nd:=Dx hd (cd.mono (by omega) (by omega));have s1:=nH ca cb;have s2:=nH cc cd;have s3:=aN ca cb;have s4:=aN cc cd;have da:=ca.d;have db:=cb.d;have dc:=cc.d;have dd:=cd.d;obtain⟨t1,l1,b1⟩:=rX cc cd;obtain⟨t2,l2,b2⟩:=rX ca cb;have k1:=Fx (S0 c d) ((a.d*b.d)*(a.d*b.d));have k2:=Fx (S0 a b) ((c.d*d.d)*(c.d*d.d));have w1:=P5 (U4 a.d) (U4 b.d) (by omega) (by omega);have w2:=P5 (U4 c.d) (U4 d.d) (by omega) (by omega);have w3:=P5 (U4 (a.d*b.d)) (U4 (a.d*b.d)) (by omega) (by omega);have w4:=P5 (U4 (c.d*d.d)) (U4 (c.d*d.d)) (by omega) (by omega);have p1:=Pu (p:=S0 c d) (c:=(a.d*b.d)*(a.d*b.d)) (by omega) (U5 b1 (by omega)) (by omega);have p2:=Pu (p:=S0 a b) (c:=(c.d*d.d)*(c.d*d.d)) (by omega) (U5 b2 (by omega)) (by omega);have p3:=HT (p:=Fw (S0 c d) ((a.d*b.d)*(a.d*b.d))) (q:=Fw (S0 a b) ((c.d*d.d)*(c.d*d.d))) (by omega) (by omega) (U5 (Ge b1 s3) (by omega)) (U5 (Ge b2 s4) (by omega));exact Ug func173 rfl [.k na,.k nb,.k w1,.k nc,.k nd,.k w2,.k (wR hc hd cc cd),.k w3,.k p1,.k (wR ha hb ca cb),.k w4,.k p2,.k p3] rfl
theorem BK{a b c d:Pt}(ha:Sc a.c)(hb:Sc b.c)(hc:Sc c.c)(hd:Sc d.c):Uj 173 [.agg (cl a.c),.agg (cl b.c),.agg (cl c.c),.agg (cl d.c)] [pr (Hp a.c b.c c.c d.c)]:=Qbc ha.n hb.n hc.n hd.n ha.cb hb.cb hc.cb hd.cb
set_option maxHeartbeats 1000000 in
theorem Qm3{a b c d:Pt}{t:Tm}(ha:Sc a.c)(hb:Sc b.c)(hc:Sc c.c)(hd:Sc d.c)(ht:Va t):Uj 167 [.oi 5,.agg (ta t),.one (.row [Fc a,Fc b,Fc c,Fc d])] [.agg (Dq (Bj (Fu t) a b c d)),.oi 0]:=by
 have hp:=(KC ha hb hc hd).dp;have e:Dq (Bj (Fu t) a b c d)=[.int .i64 5,.int .i64 a.id,.int .i64 b.id,.int .i64 c.id,.int .i64 d.id,pl (Hp a.c b.c c.c d.c),.int .i64 (Hj (Fu t) (Hp a.c b.c c.c d.c))]:=by rw[Bj]
 rw[e];have cg:=SJ hp ht;have cf:=BK ha hb hc hd;generalize Hp a.c b.c c.c d.c=F at *;refine Fv func167 rfl ?_;refine Ud [.k Qbu,.f rfl] rfl ?_;refine Ui (S:=Nat) 3 (λL1 i=>(22,.v (.oi i))::L1) (λi=>[.blk 189 (ta t),.blk 126 zCt,.blk 126 [.int .i64 5,.int .i64 (if 1<=i then a.id else 0),.int .i64 (if 2<=i then b.id else 0),.int .i64 (if 3<=i then c.id else 0),.int .i64 (if 4<=i then d.id else 0),.nils,.int .i64 0]]) (λi=>4-i) (λi=>i<=4) 0 (Qh _) rfl rfl λi hi=>?_
 rcases(show i=0\/i=1\/i=2\/i=3\/i=4 by omega)with rfl|rfl|rfl|rfl|rfl
 ·refine Ud [.t rfl,.x (i:=0) (xs:=Fc a) rfl,.i 0] rfl ?_ (by simp[U3]);exact rd 1 (by omega) (by omega) rfl
 ·refine Ud [.t rfl,.x (i:=1) (xs:=Fc b) rfl,.i 1] rfl ?_ (by simp[U3]);exact rd 2 (by omega) (by omega) rfl
 ·refine Ud [.t rfl,.x (i:=2) (xs:=Fc c) rfl,.i 2] rfl ?_ (by simp[U3]);exact rd 3 (by omega) (by omega) rfl
 ·refine Ud [.t rfl,.x (i:=3) (xs:=Fc d) rfl,.i 3] rfl ?_ (by simp[U3]);exact rd 4 (by omega) (by omega) rfl
 ·exact Uf [.f rfl,.f rfl,.f rfl,.f rfl,.f rfl,.x (i:=0) (xs:=Fc a) rfl,.x (i:=1) (xs:=Fc b) rfl,.x (i:=2) (xs:=Fc c) rfl,.x (i:=3) (xs:=Fc d) rfl,.k cf,.k cg] rfl
theorem Qty{s m:Pt×Pt}{t:Tm}(h1:Sc s.1.c)(h2:Sc s.2.c)(h3:Sc m.1.c)(h4:Sc m.2.c)(ht:Va t):U6 prog 171 [.agg (Fc m.1),.agg (Fc m.2),.one (.ow 0 0),.one (.ow 1 0),.one (.ow 2 0)] [.blk 41 (Fc s.1),.blk 41 (Fc s.2),.blk 189 (ta t)] [] [.blk 41 (Fc (P8 (Fu t) s m).1),.blk 41 (Fc (P8 (Fu t) s m).2),.blk 189 (ta t)]:=by
 have cf:=BK h1 h2 h3 h4;have cg:=SJ (KC h1 h2 h3 h4).dp ht;unfold P8;refine Fv func171 rfl ?_;by_cases h:Hj (Fu t) (Hp s.1.c s.2.c m.1.c m.2.c)<0
 ·rw[if_pos h];exact Uh [] [0,1,2] [.k cf,.k cg,.t (decide_eq_true h)] rfl
 ·rw[if_neg h];exact Uh [] [0,1,2] [.k cf,.k cg,.f (decide_eq_false h)] rfl
theorem Qtu{s m:Pt×Pt}{t:Tm}{L:List Ct}(h1:Sc s.1.c)(h2:Sc s.2.c)(h3:Sc m.1.c)(h4:Sc m.2.c)(ht:Va t)(hL:L.length<=1000000):U6 prog 174 [.agg (Fc m.1),.agg (Fc m.2),.one (.ow 0 0),.one (.ow 1 0),.one (.ow 2 0),.one (.ow 3 0)] [.blk 41 (Fc s.1),.blk 41 (Fc s.2),.blk 189 (ta t),.blk 52 [.orow 4 7 none],.row false 126 7 (U8 L)] [] [.blk 41 (Fc s.1),.blk 41 (Fc s.2),.blk 189 (ta t),.blk 52 [.orow 4 7 none],.row false 126 7 (U8 (if ZG s m=true then L++[Bj (Fu t) s.1 s.2 m.1 m.2]else L))]:=by
 have cm:=Qm3 h1 h2 h3 h4 ht;have hq:∀y∈[Dq (Bj (Fu t) s.1 s.2 m.1 m.2)],y.length=7:=λy hy=>by rw[Qk.1 hy];rfl
 have hcl:=Po L;have hsn:U8 (L++[Bj (Fu t) s.1 s.2 m.1 m.2])=U8 L++[Dq (Bj (Fu t) s.1 s.2 m.1 m.2)]:=by simp[U8]
 refine Fv func174 rfl ?_;by_cases e1:m.1.id=s.1.id
 ·by_cases e2:m.2.id=s.2.id
  ·rw[if_neg (by simp[ZG,e1,e2])];exact Uh [] [0,1,2,3,4] [.g 15 false (by simp[e1]),.f (by simp[e2])] rfl
  ·rw[if_pos (by simp[ZG,e2]),hsn];exact Uh [] [0,1,2,3,4] [.g 15 false (by simp[e1]),.t (by simp[e2]),.k cm,.s (sz:=7) hq] rfl (by simp[U3,hcl];omega)
 ·rw[if_pos (by simp[ZG,e1]),hsn];exact Uh [] [0,1,2,3,4] [.g 15 true (by simp[e1]),.t rfl,.k cm,.s (sz:=7) hq] rfl (by simp[U3,hcl];omega)
theorem SO(M:List Pt):H6 0 M=[]:=by cases M <;> rfl
def yO(M:List Pt)(x:Pt)(i j:Nat):List (Pt×Pt):=H6 i M++((M.drop (i+1)).take j).map (λy=>(x,y))
theorem rP(M:List Pt)(x:Pt)(i:Nat):yO M x i 0=H6 i M:=by rw[yO,Vu,X8,Zw]
theorem rS{M:List Pt}{i j:Nat}{x y:Pt}(hy:(M.drop (i+1))[j]? = some y):yO M x i (j+1)=yO M x i j++[(x,y)]:=by
 unfold yO;rw[Zv,hy,Option.toList_some,Yh,Zd];rfl
theorem oU{M:List Pt}{i j:Nat}{x:Pt}(hx:M[i]? = some x)(hj:(M.drop (i+1)).length<=j):yO M x i j=H6 (i+1) M:=by
 unfold yO;rw[Qn hj,Ln M i x hx]
theorem Qpt{M:List Pt}{i j:Nat}{x:Pt}(hx:M[i]? = some x):∀m∈yO M x i j,m.1∈M/\m.2∈M:=λm hm=>by
 rcases Qr.1 hm with h|h
 ·exact Sy _ _ m h
 ·obtain⟨y,hy,rfl⟩:=Za.1 h;exact⟨Qc hx,Qz (Qo hy)⟩
theorem Qf3{l:List Pt}{t:Tm}{s0:Pt×Pt}(hl:∀p∈l,Sc p.c)(hs:s0.1∈l/\s0.2∈l)(hn:l.length≤1000)(ht:Va t):U6 prog 170 [.one (pts l),.one (.ofn 171 [] [.ow 0 0,.ow 1 0,.ow 2 0])] [.blk 41 (Fc s0.1),.blk 41 (Fc s0.2),.blk 189 (ta t)] [] [.blk 41 (Fc (Hn (Fu t) s0 (Gs l)).1),.blk 41 (Fc (Hn (Fu t) s0 (Gs l)).2),.blk 189 (ta t)]:=by
 have hcl:=G6 l;have hsc:∀ps:List (Pt×Pt),(∀m∈ps,m.1∈l/\m.2∈l)->Sc (Hn (Fu t) s0 ps).1.c/\Sc (Hn (Fu t) s0 ps).2.c:=λps h=>by
  obtain⟨h1,h2⟩:=Lj (Fu t) ps s0 hs h;exact⟨hl _ h1,hl _ h2⟩
 show U6 prog 170 [.one (.row (U0 l)),.one (.ofn 171 [] [.ow 0 0,.ow 1 0,.ow 2 0])] _ _ _;refine Fv func170 rfl ?_;refine Ud [] rfl ?_;refine lp (S:=Nat) 3 (λL1 i=>(10,.v (.oi i))::L1) (λi=>[.blk 41 (Fc (Hn (Fu t) s0 (H6 i l)).1),.blk 41 (Fc (Hn (Fu t) s0 (H6 i l)).2),.blk 189 (ta t)]) (λi=>l.length-i) (λi=>i<=l.length) 0 (Qh _) rfl (λ_ _=>rfl) (by rw[SO];rfl) λi hi=>?_
 by_cases hlt:i<l.length
 ·obtain⟨x,hx⟩:=gxE (l:=l) (i:=i) hlt;have ed1:(U0 l).drop (i+1)=U0 (l.drop (i+1)):=by simp[U0,Vh]
  have hdl:=G6 (l.drop (i+1));have hdl2:(l.drop (i+1)).length<=1000:=by rw[Q7];omega
  rw[<-rP l x i];refine go tt [.t (by simp[hcl];omega),.x (S6 hx),.r 17 (eI (b:=((i+1:Nat):Int)) (by simp)),.i (i+1),.r 18 (UB ed1)] rfl (by simp[U3,G6,eq_true (p:=∀z,z∈U0 l->z.length=ti41.sz) (YI l)];omega) ?_;refine Ui (S:=Nat) 4 (λL1 j=>(20,.v (.oi j))::L1) (λj=>[.blk 41 (Fc (Hn (Fu t) s0 (yO l x i j)).1),.blk 41 (Fc (Hn (Fu t) s0 (yO l x i j)).2),.blk 189 (ta t),.blk 41 (Fc x)]) (λj=>(l.drop (i+1)).length-j) (λj=>j<=(l.drop (i+1)).length) 0 (Qh _) rfl rfl λj hj=>?_
  by_cases hltj:j<(l.drop (i+1)).length
  ·obtain⟨y,hy⟩:=gxE (l:=(l.drop (i+1))) (i:=j) hltj;obtain⟨s1,s2⟩:=hsc (yO l x i j) (Qpt hx);have cn:=Qty (s:=Hn (Fu t) s0 (yO l x i j)) (m:=(x,y)) s1 s2 (hl x (Qc hx)) (hl y (Qz (Qc hy))) ht;rw[<-yH,<-rS hy]at cn;refine go tt [.T,.x (S6 hy),.c [0,1,2] cn] rfl (by simp[U3,-List.length_drop];omega) ?_;exact rd (j+1) (by omega) hltj rfl
  ·have e:=oU hx (J8 hltj);rw[e];refine go tt [.F] rfl (by simp[U3,-List.length_drop];omega) ?_;exact rd (i+1) (by omega) hlt rfl
 ·obtain rfl:i=l.length:=by omega
  exact Uh [] [0,1,2] [.f (by simp[hcl])] rfl
theorem Qf4{l:List Pt}{t:Tm}{s:Pt×Pt}(hl:∀p∈l,Sc p.c)(hs:s.1∈l/\s.2∈l)(hn:l.length≤10)(ht:Va t):U6 prog 170 [.one (pts l),.one (.ofn 174 [] [.ow 0 0,.ow 1 0,.ow 2 0,.ow 3 0])] [.blk 41 (Fc s.1),.blk 41 (Fc s.2),.blk 189 (ta t),.blk 52 [.orow 4 7 none],.row false 126 7 []] [] [.blk 41 (Fc s.1),.blk 41 (Fc s.2),.blk 189 (ta t),.blk 52 [.orow 4 7 none],.row false 126 7 (U8 (M4 (Fu t) s (Gs l)))]:=by
 have hcl:=G6 l;have hpk:∀i,i<=l.length->(H6 i l).length<=100:=λi hi=>by
  have:=WY i l;have:i*l.length<=10*10:=Zc (by omega) hn;omega
 show U6 prog 170 [.one (.row (U0 l)),.one (.ofn 174 [] [.ow 0 0,.ow 1 0,.ow 2 0,.ow 3 0])] _ _ _;refine Fv func170 rfl ?_;refine Ud [] rfl ?_;refine lp (S:=Nat) 5 (λL1 i=>(10,.v (.oi i))::L1) (λi=>[.blk 41 (Fc s.1),.blk 41 (Fc s.2),.blk 189 (ta t),.blk 52 [.orow 4 7 none],.row false 126 7 (U8 (M4 (Fu t) s (H6 i l)))]) (λi=>l.length-i) (λi=>i<=l.length) 0 (Qh _) rfl (λ_ _=>rfl) (by rw[SO];rfl) λi hi=>?_
 by_cases hlt:i<l.length
 ·obtain⟨x,hx⟩:=gxE (l:=l) (i:=i) hlt;have ed1:(U0 l).drop (i+1)=U0 (l.drop (i+1)):=by simp[U0,Vh]
  have hdl:=G6 (l.drop (i+1));have hdl2:(l.drop (i+1)).length<=10:=by rw[Q7];omega
  rw[<-rP l x i];refine go tt [.t (by simp[hcl];omega),.x (S6 hx),.r 17 (eI (b:=((i+1:Nat):Int)) (by simp)),.i (i+1),.r 18 (UB ed1)] rfl (by simp[U3,G6,eq_true (p:=∀z,z∈U0 l->z.length=ti41.sz) (YI l)];omega) ?_;refine Ui (S:=Nat) 6 (λL1 j=>(20,.v (.oi j))::L1) (λj=>[.blk 41 (Fc s.1),.blk 41 (Fc s.2),.blk 189 (ta t),.blk 52 [.orow 4 7 none],.row false 126 7 (U8 (M4 (Fu t) s (yO l x i j))),.blk 41 (Fc x)]) (λj=>(l.drop (i+1)).length-j) (λj=>j<=(l.drop (i+1)).length) 0 (Qh _) rfl rfl λj hj=>?_
  by_cases hltj:j<(l.drop (i+1)).length
  ·obtain⟨y,hy⟩:=gxE (l:=(l.drop (i+1))) (i:=j) hltj;have hdn:(M4 (Fu t) s (yO l x i j)).length<=1000000:=by
    refine Qa (IC _ _ _) ?_;unfold yO;rw[Qu,Q8,Qq];have:=hpk i hi;omega
   have cn:=Qtu (s:=s) (m:=(x,y)) (L:=M4 (Fu t) s (yO l x i j)) (hl _ hs.1) (hl _ hs.2) (hl x (Qc hx)) (hl y (Qz (Qc hy))) ht hdn;have en1:(if ZG s (x,y)=true then M4 (Fu t) s (yO l x i j)++[Bj (Fu t) s.1 s.2 x y]else M4 (Fu t) s (yO l x i j))=M4 (Fu t) s (yO l x i (j+1)):=by
    rw[rS hy];cases h:ZG s (x,y)with
    |true=>rw[if_pos rfl,Qoi h]
    |false=>rw[if_neg (by decide),Qoh h]
   dsimp only at cn;rw[en1]at cn;refine go tt [.T,.x (S6 hy),.c [0,1,2,3,4] cn] rfl (by simp[U3,-List.length_drop];omega) ?_;exact rd (j+1) (by omega) hltj rfl
  ·have e:=oU hx (J8 hltj);rw[e];refine go tt [.F] rfl (by simp[U3,-List.length_drop];omega) ?_;exact rd (i+1) (by omega) hlt rfl
 ·obtain rfl:i=l.length:=by omega
  exact Uh [] [0,1,2,3,4] [.f (by simp[hcl])] rfl
theorem IF{l:List Pt}{a:Tm}{c:Cr}{r1:Us}(hl:∀p∈l,Sc p.c)(hn:l.length≤10)(ha:Va a):U6 prog 125 [.one (.ow 0 0),.agg (ta a)] [.blk 203 (Hl c (U0 l) r1)] [.one (.row (U8 (Lm (Fu a) l)))] [.blk 203 (Hl c (U0 l) (U0 (ZH (Fu a) l)))]:=by
 have hcl:=G6 l;refine Fv func125 rfl ?_;by_cases h2:l.length<2
 ·obtain⟨e1,e2⟩:=Qc3 (Fu a) h2;rw[e1,e2];refine Ud [.k Iq] rfl ?_;refine nlc 0 13 rfl rfl rfl ?_;have hml:(l.map Fc).length=l.length:=Q8 _;exact Uh [] [0] [.T] rfl
 ·obtain⟨x,y,l',rfl⟩:=Qwk h2;obtain⟨l,hle⟩:=nmE (x::y::l');have hx0:(U0 l)[0]? = some (Fc x):=by rw[hle];rfl
  have hy0:(U0 l)[1]? = some (Fc y):=by rw[hle];rfl
  have hxl:x∈l:=by rw[hle];simp
  have hyl:y∈l:=by rw[hle];simp
  have eB:ZH (Fu a) (x::y::l')=[(Hn (Fu a) (x,y) (Gs l)).1,(Hn (Fu a) (x,y) (Gs l)).2]:=by rw[hle];rfl
  have eC:Lm (Fu a) (x::y::l')=M4 (Fu a) (Hn (Fu a) (x,y) (Gs l)) (Gs l):=by rw[hle];rfl
  rw[eB,eC];rw[<-hle]at hl hn h2 hcl ⊢;have c1:=Qf3 (t:=a) (s0:=(x,y)) hl ⟨hxl,hyl⟩ (by omega) ha;obtain⟨n1,n2⟩:=Lj (Fu a) (l:=l) (Gs l) (x,y) ⟨hxl,hyl⟩ (Sy _ _);generalize Hn (Fu a) (x,y) (Gs l)=s at *;have c2:=Qf4 (t:=a) (s:=s) hl ⟨n1,n2⟩ hn ha;have hml:(l.map Fc).length=l.length:=Q8 _;exact Uh [5] [0] [.k Iq,.F,.x hx0,.x hy0,.c [2,3,1] c1,.oc 8 0 126 7,.c [2,3,1,4,5] c2] rfl
theorem Qtg{T:Nat}{t:Rat}{Bc:Tm->List Ct}{Br:Tm->Us}{r0:Us}(ht:Qs 1640000 t)(hB:BuildOk Bc)
 (hb:∀a c r1,Va a->CrOk c->U6 prog 125 [.one (.ow 0 0),.agg (ta a)] [.blk T (Hl c r0 r1)] [.one (.row (U8 (Bc a)))] [.blk T (Hl c r0 (Br a))])
 {K:Nat} {c c':Cr} {r1 r1':Us} {n:Int} (hc:CrOk c) (hev:0<=c.ev/\c.ev+K<=1000000000000000000) (h:Fp c.now t<=0) (hg:HJ Bc Br t K c r1 0=some (c',r1',n)) :
 U6 prog 372 [.one (.ow 0 0),.agg (rl t),.one (.ofn 125 [.ow 0 0] [])] [.blk T (Hl c r0 r1)] [.oi n,.oi 0] [.blk T (Hl c' r0 r1')]:=by
 have qt:Qb t:=ht.mono (by decide);have c1:=Dk hc.n.tb qt;refine Fv func372 rfl ?_;refine Ud [.c [0] (QV hc.n),.k c1,.f (by simpa using h)] rfl ?_;refine Ui (S:=Nat×Cr×Us×Int) 2 (λL1 s=>(8,.v (.oi s.2.2.2))::L1) (λs=>[.blk T (Hl s.2.1 r0 s.2.2.1),.blk 43 (rl t)]) (λs=>s.1) (λs=>CrOk s.2.1/\(0<=s.2.1.ev/\s.2.1.ev+s.1<=1000000000000000000)/\(0<=s.2.2.2/\s.2.2.2+s.1<=1000000000000000000)/\HJ Bc Br t s.1 s.2.1 s.2.2.1 s.2.2.2=some (c',r1',n)) (K,c,r1,0) ⟨hc,hev,⟨Int.le_refl 0,by dsimp only;omega⟩,hg⟩ rfl rfl λ⟨k,x,r,m⟩ ⟨j1,j2,j3,j4⟩=>?_
 dsimp only at j1 j2 j3 j4 ⊢;cases k with
 |zero=>cases j4
 |
  succ k =>
  simp only[HJ]at j4;obtain⟨ws,w1,j4⟩:=Qd.1 j4;obtain⟨o,o1,j4⟩:=Qd.1 j4;have cn:=MJ (T:=T) (r0:=r0) (r1:=r) j1 w1 o1;have ca:=VD (U4 t.num) (U4 (t.den:Int)) (Qa ht.1 (by decide)) (Qa ht.2 (by decide)) (by rw[Su];exact ht.mono (by decide));rw[Su]at ca;cases o with
  |
   none =>
   injection j4 with j4;injection j4 with e1 j4;injection j4 with e2 e3;subst e1;subst e2;subst e3;exact Uh [] [0] [.c [0] cn,.g 25 true rfl,.t rfl,.k ca] rfl
  |
   some a =>
   have ha:=LR j1 w1 o1;dsimp only at j4;have cc:=Dk ha.tb qt;by_cases h0:0<Fp a t
   ·rw[if_pos h0]at j4;injection j4 with j4;injection j4 with e1 j4;injection j4 with e2 e3;subst e1;subst e2;subst e3;exact Uh [] [0] [.c [0] cn,.g 25 false rfl,.k cc,.t (by simpa using h0),.k ca] rfl
   ·rw[if_neg h0]at j4;obtain⟨w2,l1,j4⟩:=Qd.1 j4;have j1':=Ep j1 w1;have cl:=Pa (b:=a) (l:=[]) ha.tb (λt ht=>by cases ht) (by decide) rfl;have cb:=hb a { x with l:=ws } r ha j1';have cy:=UJ (T:=T) (r0:=r0) (r1:=Br a) j1' ha (hB.p a ha) (hB.n a ha) l1;have hf:decide (0<Fp a t)=false:=by simpa using h0
    refine Ue [.c [0] cn,.g 25 false rfl,.k cc,.f hf,.k cl,.c [0] cb,.c [0] cy] rfl ?_;exact rd (k,⟨a,w2,x.ev+1⟩,Br a,m+1) (by dsimp only;omega) ⟨lay_ok _ j1' ha (hB.p a ha) (hB.n a ha) l1,by dsimp only;omega,by dsimp only;omega,j4⟩ rfl
end Orr
namespace Orr
open Go
def Tj:Uo->Nat
 | []=>0
 |x::l=>x+10000*Tj l
def Dg(l:Uo):Prop:=∀x∈l,x<10000
def Gj(x:Nat):Uo:=if h:x=0 then []else(x % 10000)::Gj (x / 10000)
termination_by x
decreasing_by omega
theorem Hx:Gj 0=[]:=by unfold Gj;simp
theorem YG{x:Nat}(h:x≠0):Gj x=(x % 10000)::Gj (x / 10000):=by rw[Gj];simp[h]
theorem Re(x:Nat):Tj (Gj x)=x:=by
 induction x using Nat.strongRecOn with
 |
  _ x ih =>
  rcases Q3 x with h|h
  ·subst h;rw[Hx];rfl
  ·rw[YG (by omega)];simp only[Tj];rw[ih _ (by omega)];omega
theorem Ck(x:Nat):Dg (Gj x):=by
 induction x using Nat.strongRecOn with
 |
  _ x ih =>
  rcases Q3 x with h|h
  ·subst h;rw[Hx];intro y hy;cases hy
  ·rw[YG (by omega)];intro y hy;rcases Qm.1 hy with rfl|hy
   ·omega
   ·exact ih _ (by omega) y hy
theorem MS{x:Nat}:(Gj x).length=0↔x=0:=by
 constructor
 ·intro h;have h0:=Qj h;have:=Re x;rw[h0]at this;exact this.symm
 ·rintro rfl;rw[Hx];rfl
theorem If{x:Nat}(h:x≠0):(Gj (x / 10000)).length+1=(Gj x).length:=by rw[YG h];rfl
theorem Qb4{x:Nat}(h:x<1000000000000):(Gj x).length<=3:=by
 by_cases h0:x=0
 ·subst h0;rw[Hx];exact Qh _
 ·have h1:=If h0;by_cases h2:x / 10000=0
  ·rw[h2,Hx]at h1;simp at h1;omega
  ·have h3:=If h2;by_cases h4:x / 10000 / 10000=0
   ·rw[h4,Hx]at h3;simp at h3;omega
   ·have h5:=If h4;have h6:x / 10000 / 10000 / 10000=0:=by omega
    rw[h6,Hx]at h5;simp at h5;omega
theorem Mp(x:Nat):(Gj x).length<=sz x:=by
 induction x using Nat.strongRecOn with
 |
  _ x ih =>
  by_cases h0:x=0
  ·subst h0;rw[Hx];exact Qh _
  ·have h1:=If h0;have h2:=ih (x / 10000) (by omega);have h3:sz (x / 10000)+1<=sz x:=by
    have h4:x<2^sz x:=FR x;rcases hs:sz x with _|k
    ·rw[hs]at h4;simp at h4;omega
    ·rw[hs]at h4;have:sz (x / 10000)<=k:=Nt.2 (by rw[Zr]at h4;omega);omega
   omega
theorem Pp(a b:Uo):Tj (a++b)=Tj a+10000^a.length*Tj b:=by
 induction a with
 |nil=>simp[Tj]
 |
  cons x a ih =>
  simp only[Xb,Tj,ih,Q5,Zr];rw[Xj,<-Xz,Zq 10000 (10000^a.length)];omega
theorem Tu{l:Uo}{i x:Nat}(h:l[i]? = some x):Tj (l.take (i+1))=Tj (l.take i)+10000^i*x:=by
 have hi:=(Qf.1 h).1;rw[show l.take (i+1)=l.take i++[x] by rw[Zv,h];rfl,Pp,Qq,Zy (by omega)];simp[Tj]
theorem CB:∀{l:Uo},Dg l->Tj l<10000^l.length
 | [],_=>by simp[Tj]
 |
  x::l,h=>by
  have h1:=h x (Qy ..);have h2:=CB (l:=l) λy hy=>h y (Qg _ hy)
  simp only[Tj,Q5,Zr];omega
theorem CC:∀{l:Uo},(∀x∈l,x=0)->Tj l=0
 | [],_=>rfl
 |
  x::l,h=>by
  have h1:=h x (Qy ..);have h2:=CC (l:=l) λy hy=>h y (Qg _ hy)
  simp[Tj,h1,h2]
theorem Dg.take{l:Uo}(h:Dg l)(k:Nat):Dg (l.take k):=λx hx=>h x (Qo hx)
theorem Dg.snoc{l:Uo}(h:Dg l){x:Nat}(hx:x<10000):Dg (l++[x]):=by
 intro y hy;rcases Qr.1 hy with hy|hy
 ·exact h y hy
 ·rw[Qk.1 hy];exact hx
theorem Dg.nil:Dg []:=λx h=>by cases h
theorem mN:∀{l:Uo},Dg l->(∀x,l[l.length-1]? = some x->x≠0)->l=Gj (Tj l)
 | [],_,_=>by rw[Tj,Hx]
 |
  x::l,h,hl=>by
  have h1:=h x (Qy ..);have h2:l=Gj (Tj l):=mN (λy hy=>h y (Qg _ hy)) λy hy=>hl y (by
   rcases l with _|⟨z,t⟩
   ·simp at hy
   ·simpa using hy)
  have h3:x+10000*Tj l≠0:=by
   intro e;have hx:x=0:=by omega
   have hd:Tj l=0:=by omega
   rw[hd,Hx]at h2;subst h2;exact hl x rfl hx
  simp only[Tj];rw[YG h3,show(x+10000*Tj l) % 10000=x by omega,show(x+10000*Tj l) / 10000=Tj l by omega,<-h2]
theorem uV{l:Uo}{m:Nat}(hd:Dg l)(hm:m<=l.length)(h1:∀j x,m<=j->l[j]? = some x->x=0)(h2:0<m->∃y,l[m-1]? = some y/\y≠0):l.take m=Gj (Tj l):=by
 have e:Tj l=Tj (l.take m):=by
  conv=>lhs;rw[<-Zh m l,Pp]
  rw[CC (l:=l.drop m) λx hx=>?_]
  ·omega
  ·obtain⟨j,hj⟩:=Zk.1 hx;rw[Xc]at hj;exact h1 (m+j) x (by omega) hj
 rw[e];refine mN (hd.take m) λx hx=>?_
 have hl:(l.take m).length=m:=by rw[Qq];omega
 rw[hl]at hx;rcases Q3 m with h0|h0
 ·subst h0;simp at hx
 ·obtain⟨y,hy,hy0⟩:=h2 h0;rw[Kf (by omega),hy]at hx;injection hx with hx;rw[<-hx];exact hy0
theorem IL{o c i d m P V:Nat}(hP:P=10000^i)(h:o+c*P=V):o+P*((c+d*m) % 10000)+(c+d*m) / 10000*(P*10000)=V+P*d*m:=by
 have e:=Xe (c+d*m) 10000;generalize (c+d*m) / 10000=q at *;generalize (c+d*m) % 10000=r at *;have e2:P*(c+d*m)=P*(10000*q+r):=by rw[e]
 grind
theorem XX{x y:Nat}(h:x<=y):(Gj x).length<=(Gj y).length:=by
 induction y using Nat.strongRecOn generalizing x with
 |
  _ y ih =>
  by_cases h0:x=0
  ·subst h0;rw[Hx];exact Qh _
  ·have h1:=If h0;have h2:=If (x:=y) (by omega);have:=ih (y / 10000) (by omega) (x:=x / 10000) (Nat.div_le_div_right h);omega
theorem Qb3{n x:Nat}(h:10000^n<=x):n+1<=(Gj x).length:=by
 have h1:=CB (Ck x);rw[Re]at h1;have h2:n<(Gj x).length:=(Nat.pow_lt_pow_iff_right (by decide)).1 (Z3 h h1);omega
theorem uJ{x y:Nat}(h:(Gj x).length<(Gj y).length):x<y:=by
 rcases Zb x y with h1|h1
 ·exact h1
 ·have:=XX h1;omega
theorem Qb5{k y:Nat}(h:y<10000^k):(Gj y).length<=k:=by
 induction k generalizing y with
 |
  zero =>
  have:y=0:=by simpa using h
  subst this;rw[Hx];exact Ql _
 |
  succ k ih =>
  by_cases hy0:y=0
  ·subst hy0;rw[Hx];exact Qh _
  ·have h8:=If hy0;have:=ih (y:=y / 10000) (by rw[Zr]at h;omega);omega
theorem Qgy{o:Uo}(h:Dg o)(hl:o.length<=(Gj (Tj o)).length):o=Gj (Tj o):=by
 refine mN h λx hx h0=>?_
 subst h0;have hne:0<o.length:=by
  rcases o with _|⟨a,o⟩
  ·simp at hx
  ·simp
 have h1:Tj o=Tj (o.take (o.length-1)):=by
  have:=Tu hx;rw[show o.length-1+1=o.length by omega,Q6]at this;omega
 have h2:=CB (h.take (o.length-1));rw[<-h1,Qq,Zy (by omega)]at h2;have:=Qb5 h2;omega
theorem XV{l:Uo}{j d:Nat}(h:l[j]? = some d):Tj (l.drop j)=d+10000*Tj (l.drop (j+1)):=by
 obtain⟨hj,he⟩:=Qf.1 h;rw[Zp hj,he];rfl
theorem HI{l:Uo}{j y:Nat}(h:j<l.length):(l.set j y).drop j=y::l.drop (j+1):=by
 rw[Zp (by simpa using h)];simp only[List.getElem_set_self];rw[List.drop_set_of_lt (by omega)]
theorem Dg.set{l:Uo}(h:Dg l){j y:Nat}(hy:y<10000):Dg (l.set j y):=by
 intro x hx;rcases Jp hx with hx|rfl
 ·exact h x hx
 ·exact hy
theorem Dg.zeros(n:Nat):Dg (List.replicate n 0):=by
 intro x hx;rw[Zx hx];decide
theorem uW{V kd d:Nat}(hk:0<kd):(d+10000*V) / kd=(V % kd*10000+d) / kd+10000*(V / kd)/\(d+10000*V) % kd=(V % kd*10000+d) % kd/\(d<10000->(V % kd*10000+d) / kd<10000):=by
 have e:=Xe V kd;have e2:d+10000*V=(V % kd*10000+d)+kd*(10000*(V / kd)):=by
  conv=>lhs;rw[<-e]
  grind
 refine⟨?_,?_,λhd=>?_⟩
 ·rw[e2,Wc _ _ hk]
 ·rw[e2,Ka]
 ·have:=Z4 V hk;exact(Vv hk).2 (by grind)
theorem MP(l:Uo)(j:Nat)(h:j<=l.length):Tj l=Tj (l.take j)+10000^j*Tj (l.drop j):=by
 conv=>lhs;rw[<-Zh j l,Pp]
 rw[Qq,Zy h]
theorem CH{a b:Uo}{j d e:Nat}(ha:Dg a)(hd:a[j]? = some d)(he:b[j]? = some e)(hs:a.drop (j+1)=b.drop (j+1))(h:d<e):Tj a<Tj b:=by
 have h1:=(Qf.1 hd).1;have h2:=(Qf.1 he).1;rw[MP a j (by omega),MP b j (by omega),XV hd,XV he,hs];have h3:=CB (ha.take j);rw[Qq,Zy (by omega)]at h3;generalize 10000^j=P at *;have h4:P*(d+10000*Tj (b.drop (j+1)))+P<=P*(e+10000*Tj (b.drop (j+1))):=by
  rw[<-W4];exact Zu _ (by omega)
 omega
def dl(l:Uo):LV:=.row (l.map λ(x:Nat)=>[.int .i64 (x:Int)])
theorem Ty(l:Uo):(l.map λ(x:Nat)=>[LV.int .i64 (x:Int)]).length=l.length:=by simp
theorem Gy{l:Uo}{i x:Nat}(h:l[i]? = some x):(l.map λ(x:Nat)=>[LV.int .i64 (x:Int)])[i]? = some [.int .i64 (x:Int)]:=by rw[Q9,h];rfl
abbrev nd(x:Nat):LV:=dl (Gj x)
end Orr
namespace Orr
open Go Go.Proofs Tryz
set_option maxRecDepth 10000
abbrev Bw(l:Uo):Us:=l.map λ(x:Nat)=>[.int .i64 (x:Int)]
theorem Qug(l:Uo):∀c∈Bw l,c.length=1:=λc hc=>by obtain⟨x,_,rfl⟩:=Za.1 hc;rfl
theorem HB{l:Uo}(hd:Dg l):Uj 159 [.one (.row (Bw l))] [.one (nd (Tj l))]:=by
 refine Fv func159 rfl (ln 0 rfl rfl λhl=>?_);rw[Q8]at hl;refine Ud [] rfl ?_;refine lp (S:=Nat) 0 (λL1 n=>(3,.v (.oi n))::L1) (λ_=>[]) id (λn=>n<=l.length/\∀j x,n<=j->l[j]? = some x->x=0) (Bw l).length ⟨by simp,λj x h1 h2=>by
  have:=(Qf.1 h2).1;simp at h1;omega⟩ rfl (λ_ _=>rfl) rfl λn ⟨h1,h2⟩=>?_
 cases n with
 |zero=>exact Uf [.g 8 false (by simp),.f rfl,.i 0] rfl (by have:=uV hd h1 h2 (λh=>by omega);unfold nd;rw[<-this];simp[dl]) (by simp[U3])
 |
  succ n =>
  obtain⟨x,hx⟩:=gxE (l:=l) (i:=n) (by omega);by_cases h0:x=0
  ·refine Ue [.g 8 true (by simp),.r 11 (v:=.oi n) (by simp),.x (Gy hx),.t (by simp[h0]),.r 17 (v:=.oi n) (by simp)] rfl ?_;exact rd n (by simp) ⟨by omega,λj y h3 h4=>by
    rcases Vk h3 with rfl|h3
    ·rw[hx]at h4;injection h4 with h4;rw[<-h4,h0]
    ·exact h2 j y h3 h4⟩ rfl
  ·exact Uf [.g 8 true (by simp),.r 11 (v:=.oi n) (by simp),.x (Gy hx),.f (by simp[h0]),.i (n+1)] rfl (by have:=uV hd h1 h2 (λ_=>⟨x,hx,h0⟩);unfold nd;rw[<-this];simp[dl,List.map_take]) (by simp[U3] <;> omega)
theorem lI{x kd:Nat}(hxs:sz x<=100000000)(hk:0<kd/\kd<=65536):Uj 157 [.one (nd x),.oi kd] [.one (nd (x / kd)),.oi ((x % kd:Nat):Int)]:=by
 have hln:=Qa (Mp x) hxs;obtain⟨l,hl⟩:=nmE (Gj x);have hx:Tj l=x:=by rw[hl,Re]
 have hd:Dg l:=by rw[hl];exact Ck x
 show Uj 157 [.one (.row (Bw (Gj x))),.oi kd] _;rw[<-hl]at hln ⊢;rw[<-hx];have hll:=Ty l;refine Fv func157 rfl ?_;refine Ue [.i (Bw l).length,.i (Bw l).length] rfl ?_;rw[hll,show List.replicate l.length [LV.int .i64 0]=Bw (List.replicate l.length 0) from by simp[Bw]];refine Ui (S:=Nat×Uo×Nat) 1 (λL1 s=>(8,.v (.oi ((s.1:Int)-1)))::(7,.v (.oi (s.2.2:Int)))::L1) (λs=>[.row false 3 1 (Bw s.2.1)]) (λs=>s.1) (λs=>s.1<=l.length/\s.2.1.length=l.length/\Dg s.2.1/\Tj (s.2.1.drop s.1)=Tj (l.drop s.1) / kd/\s.2.2=Tj (l.drop s.1) % kd) (l.length,List.replicate l.length 0,0) ⟨Ql _,by simp,Dg.zeros _,by simp[Tj],by simp[Tj]⟩ rfl rfl λ⟨k,o,R⟩ ⟨j1,j2,j3,j4,hR⟩=>?_
 dsimp only at j1 j2 j3 j4 hR ⊢;cases k with
 |
  zero =>
  have cc:=HB j3;rw[Xy,Xy]at j4;rw[j4]at cc;exact Uf [.f (by simp),.k cc] rfl (by rw[hR,Xy]) trivial
 |
  succ k =>
  obtain⟨d,hdk⟩:=gxE (l:=l) (i:=k) (by omega);have hd0:=hd d (Qc hdk);have hdd:=XV hdk;obtain⟨s1,s2,s3⟩:=uW (V:=Tj (l.drop (k+1))) (kd:=kd) (d:=d) hk.1;rw[<-hdd]at s1 s2;have hr:=Z4 (Tj (l.drop (k+1))) hk.1;rw[<-hR]at s1 s2 s3 hr;have e:((k+1:Nat):Int)-1=(k:Int):=by omega
  have htd:((R:Int)*10000+(d:Int)).tdiv (kd:Int)=(((R*10000+d) / kd:Nat):Int):=rfl;have hle:=Jq (R*10000+d) kd;have htb:0<=((R:Int)*10000+(d:Int)).tdiv (kd:Int)/\((R:Int)*10000+(d:Int)).tdiv (kd:Int)<=655369999:=by
   rw[htd];revert hle;generalize (R*10000+d) / kd=Q;intro hle;omega
  rw[e];refine Ue [.t (by simp),.x (Gy hdk),.r 26 (eI (b:=((R*10000+d:Nat):Int)) (by omega)),.r 31 (eI (b:=(((R*10000+d) / kd:Nat):Int)) (by rfl)),.i k,.r 35 (eI (b:=(((R*10000+d) % kd:Nat):Int)) (by rfl))] rfl ?_;exact rd (k,o.set k ((R*10000+d) / kd),(R*10000+d) % kd) (by dsimp only;omega) ⟨by dsimp only;omega,by simp[j2],j3.set (s3 hd0),by dsimp only;rw[HI (by omega)];simp only[Tj];rw[j4,s1],by dsimp only;exact s2.symm⟩ (by simp[Bw,List.map_set];rfl)
theorem Qwg(x k:Nat):sz (x / k)<=sz x:=Rh (Jq _ _)
theorem nM{x y:Nat}{o:Uo}(h:Gb x=o++Gb y)(h0:y≠0):Gb x=(o++[y % 4294967296])++Gb (y / 4294967296):=by
 rw[h,E5 h0];simp
theorem Qo2(o:Uo)(z:Nat):lm (o++[z])=lm o++[[.int .u32 (z:Int)]]:=by simp[lm]
theorem Qxv{x:Nat}(hx:sz x<=100000000):Uj 103 [.one (nd x)] [lr (Gb x)]:=by
 have hlx:=Rm hx;refine Fv func103 rfl ?_;refine Ud [.o 3 111 1] rfl ?_;refine Ui (S:=Nat×Uo) 1 (λL1 s=>(0,.v (.one (nd s.1)))::(3,.v (.one (.orow 0 1 none)))::L1) (λs=>[.row false 111 1 (lm s.2)]) (λs=>s.1) (λs=>Gb x=s.2++Gb s.1/\s.1<=x) (x,[]) ⟨rfl,Ql _⟩ rfl rfl λ⟨y,o⟩ ⟨j1,j2⟩=>?_
 dsimp only at j1 j2 ⊢;by_cases h0:y=0
 ·subst h0;rw[Hb,Zw]at j1;rw[j1];exact Uf [.f (by simp[Hx])] rfl
 ·have hs:=nM j1 h0;have hsy:sz y<=100000000:=Qa (Rh j2) hx;have c1:=lI (x:=y) (kd:=65536) hsy (by decide);have c2:=lI (x:=y / 65536) (kd:=65536) (Qa (Qwg _ _) hsy) (by decide);have hl:(Gj y).length≠0:=λh=>h0 (MS.1 h)
  have ol:o.length<=(Gb x).length:=by rw[j1];simp
  have e:y / 65536 % 65536*65536+y % 65536=y % 4294967296:=by omega
  have e2:y / 65536 / 65536=y / 4294967296:=by omega
  refine go tt [.t (by simp;omega),.k c1,.k c2,.r 26 (El (b:=((y % 4294967296:Nat):Int)) (by omega)),.s (sz:=1) (l:=[[.int .u32 ((y % 4294967296:Nat):Int)]]) (λc hc=>by rw[Qk.1 hc];rfl)] rfl (by simp[U3,U7];omega) ?_;rw[<-e2]at hs;exact rd (y / 65536 / 65536,o++[y % 4294967296]) (by dsimp only;omega) ⟨hs,by dsimp only;omega⟩ (by rw[Qo2];rfl)
abbrev ri(z:Int):Ur:=[nd z.natAbs,sg z]
theorem Qys(b:Bool)(m:Nat):[nd m,LV.bool (b && decide (0<m))]=ri (Fb b m):=by
 simp only[ri,sg,Ru,LP]
theorem Qvl(x:Nat):(0<(Gj x).length)↔0<x:=by
 have:=MS (x:=x);omega
theorem Nw(b:Bool)(m:Nat):Uj 108 [.one (nd m),.one (.bool b)] [.agg (ri (Fb b m))]:=by
 rw[<-Qys];have e:=Qvl m;cases b with
 |false=>exact Ug func108 rfl [.g 7 false rfl] rfl
 |true=>exact Ug func108 rfl [.g 7 true rfl] rfl (by simp[e]) trivial
theorem Dw{z:Int}:Uj 104 [.agg (ri z)] [.one (.bool (decide (z=0)))] :=
 Ug func104 rfl [] rfl (by have h:=MS (x:=z.natAbs);simp only[Ty];congr 3;rw[decide_eq_decide];omega) trivial
theorem QK{z:Int}:Uj 105 [.agg (ri z)] [.agg (ri (-z))]:=by
 have h:=Nw (!decide (z<0)) z.natAbs;have e:Fb (!decide (z<0)) z.natAbs=-z:=by unfold Fb;by_cases h:z<0 <;> simp[h] <;> omega
 rw[e]at h;exact Ug func105 rfl [.k h] rfl
theorem Qtt{z:Int}(hz:Fe z<=100000000):Uj 61 [.agg (ri z)] [.agg (G8 z)] :=
 Ug func61 rfl [.k (Qxv hz)] rfl
theorem eBo{a b:Bool}(h:a=b):TV.one (LV.bool a)=.one (.bool b):=h ▸ rfl
theorem Ih(l:Uo)(x:Nat):Bw (l++[x])=Bw l++[[.int .i64 (x:Int)]]:=by simp[Bw]
theorem uY{x y:Nat}{o:Uo}(h:Gj x=o++Gj y)(h0:y≠0):Gj x=(o++[y % 10000])++Gj (y / 10000):=by
 rw[h,YG h0];simp
theorem Qtv{b:Bool}{x:Nat}(hx:x<=4000000000000000000)(hb:b=true->0<x):Uj 63 [.oi (Fb b x)] [.agg (ri (Fb b x))]:=by
 have hl:(Gj x).length<=100:=by
  have:=Mp x;have h2:sz x<=64:=Nt.2 (by omega);omega
 have hm:=Nw b x;refine Fv func63 rfl ?_;cases b with
 |
  false =>
  show AK prog _ _ _ (VB 0 [.oi x]) [];refine Ud [.f (by simp <;> omega),.r 3 (eBo (b:=false) (by simp)),.f rfl,.o 4 3 1] rfl ?_;refine Ui (S:=Nat×Uo) 2 (λL1 s=>(0,.v (.oi (s.1:Int)))::(4,.v (.one (.orow 1 1 none)))::L1) (λs=>[.blk 59 [.nils,.bool false],.row false 3 1 (Bw s.2)]) (λs=>s.1) (λs=>Gj x=s.2++Gj s.1/\s.1<=x) (x,[]) ⟨rfl,Ql _⟩ rfl rfl λ⟨y,o⟩ ⟨j1,j2⟩=>?_
  dsimp only at j1 j2 ⊢;by_cases h0:y=0
  ·subst h0;rw[Hx,Zw]at j1;rw[<-j1];exact Uf [.f (by simp),.k hm] rfl
  ·have hs:=uY j1 h0;have ol:o.length<=(Gj x).length:=by rw[j1];simp
   refine go tt [.t (by simp;omega),.r 18 (eI (b:=((y % 10000:Nat):Int)) (by rfl)),.s (sz:=1) (l:=[[.int .i64 ((y % 10000:Nat):Int)]]) (λc hc=>by rw[Qk.1 hc];rfl),.r 22 (eI (b:=((y / 10000:Nat):Int)) (by rfl))] rfl (by simp[U3,Ty];omega) ?_;exact rd (y / 10000,o++[y % 10000]) (by dsimp only;omega) ⟨hs,by dsimp only;omega⟩ (by rw[Ih];rfl)
 |
  true =>
  show AK prog _ _ _ (VB 0 [.oi (-(x:Int))]) [];refine Ue [.f (by simp <;> omega),.r 3 (eBo (b:=true) (by simpa using hb rfl)),.t rfl,.r 0 (eI (b:=(x:Int)) (by omega)),.o 4 3 1] rfl ?_;refine Ui (S:=Nat×Uo) 2 (λL1 s=>(0,.v (.oi (s.1:Int)))::(4,.v (.one (.orow 1 1 none)))::L1) (λs=>[.blk 59 [.nils,.bool false],.row false 3 1 (Bw s.2)]) (λs=>s.1) (λs=>Gj x=s.2++Gj s.1/\s.1<=x) (x,[]) ⟨rfl,Ql _⟩ rfl rfl λ⟨y,o⟩ ⟨j1,j2⟩=>?_
  dsimp only at j1 j2 ⊢;by_cases h0:y=0
  ·subst h0;rw[Hx,Zw]at j1;rw[<-j1];exact Uf [.f (by simp),.k hm] rfl
  ·have hs:=uY j1 h0;have ol:o.length<=(Gj x).length:=by rw[j1];simp
   refine go tt [.t (by simp;omega),.r 18 (eI (b:=((y % 10000:Nat):Int)) (by rfl)),.s (sz:=1) (l:=[[.int .i64 ((y % 10000:Nat):Int)]]) (λc hc=>by rw[Qk.1 hc];rfl),.r 22 (eI (b:=((y / 10000:Nat):Int)) (by rfl))] rfl (by simp[U3,Ty];omega) ?_;exact rd (y / 10000,o++[y % 10000]) (by dsimp only;omega) ⟨hs,by dsimp only;omega⟩ (by rw[Ih];rfl)
theorem ZA{n:Int}(hn:-4000000000000000000<=n/\n<=4000000000000000000):Uj 63 [.oi n] [.agg (ri n)]:=by
 have e:Fb (decide (n<0)) n.natAbs=n:=by unfold Fb;by_cases h:n<0 <;> simp[h] <;> omega
 have h:=Qtv (b:=decide (n<0)) (x:=n.natAbs) (by omega) (λh=>by have:=of_decide_eq_true h;omega);rwa[e]at h
abbrev fr(q:Rat):Ur:=ri q.num++ri (q.den:Int)
theorem Ig:Gj 1=[1]:=by rw[YG (by decide)];rw[Hx]
theorem Ae{n:Int}:Uj 62 [.agg (ri n),.agg (ri 1)] [.agg (fr (n:Rat))]:=by
 have h0:(Bw (Gj (1:Int).natAbs))[0]? = some [LV.int .i64 1]:=by rw[show(1:Int).natAbs=1 from rfl,Ig];rfl
 have h1:decide (((Bw (Gj (1:Int).natAbs)).length:Int)=1)=true:=by rw[show(1:Int).natAbs=1 from rfl,Ig];rfl
 exact Ug func62 rfl [.k (Dw (z:=1)),.f rfl,.f rfl,.g 19 true h1,.x h0,.t rfl] rfl
theorem KF{n:Int}(hn:-4000000000000000000<=n/\n<=4000000000000000000):Uj 20 [.oi n,.oi 1] [.agg (fr (n:Rat))] :=
 Ug func20 rfl [.k (ZA hn),.k (ZA (n:=1) (by decide)),.k Ae] rfl
theorem wF{q:Rat}(hq:Qs 100000000 q):Uj 19 [.agg (fr q)] [.agg (rl q)] :=
 Ug func19 rfl [.k (Qtt hq.1),.k (Qtt hq.2)] rfl
end Orr
namespace Orr
open Go Go.Proofs Tryz Orq
set_option maxRecDepth 10000
theorem I4{a:Tm}(ha:Va a):UH a a=some 0:=by
 obtain⟨c,c1,c2⟩:=UR ha ha;rcases c2 with⟨_,h⟩|⟨e,_⟩|⟨_,h⟩
 ·exact absurd h λh=>Ix ha.cut ha.cut h h
 ·rw[c1,e]
 ·exact absurd h λh=>Ix ha.cut ha.cut h h
theorem xT{c:Cr}{l l':List Pt}{r1:Us}{ws:List Wt}(hc:CrOk c)(hl:∀p∈l',Sc p.c)(hn:l'.length≤1000)(h:Tl c.l c.now (Fo (VC l' c.now))=some ws) :
 U6 prog 373 [.one (.ow 0 0),.agg [pts l'],.oi 0] [.blk 196 (Hl c (U0 l) r1)] [.oi 0] [.blk 196 (Hl ⟨c.now,ws,c.ev⟩ (U0 l') (pS l' c.now))]:=by
 have hB:=pY hl hn;have cn:=QV (T:=196) (c:=c) (r0:=U0 l') (r1:=r1) hc.n;have cb:=IG (c:=c) (r1:=r1) hl hn hc.n;have cg:=YJ (T:=196) (r0:=U0 l') (r1:=pS l' c.now) hc hc.n (I4 hc.n) (Yd 0) (hB.p _ hc.n) (hB.n _ hc.n) h;refine Fv func373 rfl ?_;exact Uh [] [0] [.f rfl,.c [0] cn,.c [0] cb,.c [0] cg] rfl
theorem Qtq{c:Cr}{l s:List Pt}(hs:s.length<=1000000):U6 prog 88 [.one (.ow 0 0)] [.blk 196 (Hl c (U0 l) (U0 s))] [.one (ids (s.map (·.id)))] [.blk 196 (Hl c (U0 l) (U0 s))]:=by
 have hcl:=G6 s;refine Fv func88 rfl ?_;refine Ud [.o 3 3 1] rfl ?_;refine Ui (S:=Nat) 2 (λL1 i=>(11,.v (.oi i))::(3,.v (.one (.orow 1 1 none)))::L1) (λi=>[.blk 196 (Hl c (U0 l) (U0 s)),.row false 3 1 (((s.take i).map (·.id)).map λ(z:Int)=>[LV.int .i64 z])]) (λi=>s.length-i) (λi=>i<=s.length) 0 (Qh _) rfl rfl λi hi=>?_
 by_cases hlt:i<s.length
 ·obtain⟨p,hp⟩:=gxE (l:=s) (i:=i) hlt;have hg:(((s.take (i+1)).map (·.id)).map λ(z:Int)=>[LV.int .i64 z])=(((s.take i).map (·.id)).map λ(z:Int)=>[LV.int .i64 z])++[[.int .i64 p.id]]:=by
   rw[Zv,hp];simp
  refine Ue [.t (by simp[hcl];omega),.x (S6 hp),.s (sz:=1) (l:=[[.int .i64 p.id]]) (λc hc=>by rw[Qk.1 hc];rfl)] rfl ?_;exact rd (i+1) (by omega) hlt (by rw[hg];rfl)
 ·obtain rfl:i=s.length:=by omega
  rw[Q6];exact Uh [1] [0] [.f (by simp[hcl])] rfl
theorem Qtr{lx ly:Us}{px py:Um}{x y:LV}{d id:Int}{c:Cr}{l:List Pt}{r1:Us}{ws:List Wt}(hx:IsInts lx px)(hy:IsInts ly py)(hd:Gd x y d)(hk:Cs 4294967294 1073741824 (Crv.mk px py d))(hll:l.length<=900)
 (he:WF l ⟨Crv.norm (Crv.mk px py d),id⟩=0) (hc:CrOk c) (hl:∀p∈put l ⟨Crv.norm (Crv.mk px py d),id⟩,Sc p.c) (hn:(put l ⟨Crv.norm (Crv.mk px py d),id⟩).length≤1000) (h:Tl c.l c.now (Fo (VC (put l ⟨Crv.norm (Crv.mk px py d),id⟩) c.now))=some ws) :
 U6 prog 369 [.one (.ow 0 0),.agg [.row lx,.row ly,x,y,.int .i64 id]] [.blk 196 (Hl c (U0 l) r1)] [.oi 0] [.blk 196 (Hl ⟨c.now,ws,c.ev⟩ (U0 (put l ⟨Crv.norm (Crv.mk px py d),id⟩)) (pS (put l ⟨Crv.norm (Crv.mk px py d),id⟩) c.now))]:=by
 have cp:=wW (l:=l) (id:=id) hx hy hd hk (by omega);rw[if_pos he,he]at cp;have cw:=xT (l:=l) (r1:=r1) hc hl hn h;refine Fv func369 rfl ?_;obtain⟨b,l',rfl,rfl,_⟩:=hd;exact Uh [] [0] [.k cp,.c [0] cw] rfl
theorem Qtp{t:Rat}{l:List Pt}{K:Nat}{c c':Cr}{r1 r1':Us}{n:Int}(ht:Qs 1640000 t)(hl:∀p∈l,Sc p.c)(hn:l.length≤1000)(hc:CrOk c)(hev:0≤c.ev/\c.ev+K≤1000000000000000000)(h:Fp c.now t≤0)(hg:HJ (VC l) (pS l) t K c r1 0=some (c',r1',n)) :
 U6 prog 365 [.one (.ow 0 0),.agg (rl t)] [.blk 196 (Hl c (U0 l) r1)] [.oi n,.oi 0] [.blk 196 (Hl c' (U0 l) r1')]:=by
 have cg:=Qxm (T:=196) (r0:=U0 l) ht (pY hl hn) (λa c r1 ha _=>IG (c:=c) (r1:=r1) hl hn ha) hc hev h hg;refine Fv func365 rfl ?_;exact Uh [] [0] [.k (Nx (ht.mono (by decide))),.c [0] cg] rfl
theorem Qff{c:Cr}{r0 r1:Us}:U6 prog 51 [.one (.ow 0 0)] [.blk 196 (Hl c r0 r1)] [.one (.ow 1 0)] [.blk 196 (Hl c r0 r1),.blk 196 (Hl c r0 r1)]:=by
 refine Fv func51 rfl ?_;exact Uh [] [0,1] [] rfl
abbrev idl(l:Um):Us:=l.map λ(z:Int)=>[.int .i64 z]
theorem MC{l:Um}{i:Nat}{z:Int}(h:l[i]? = some z):(idl l)[i]? = some [.int .i64 z]:=G5 h
theorem pI{a b:Um}(ha:a.length<=1000000)(hb:b.length<=1000000):Uj 49 [.one (ids a),.one (ids b)] [.one (.bool (decide (a=b)))]:=by
 show Uj 49 [.one (.row (idl a)),.one (.row (idl b))] _;have la:(idl a).length=a.length:=by simp
 have lb:(idl b).length=b.length:=by simp
 refine Fv func49 rfl ?_;by_cases hl:a.length=b.length
 ·refine Ud [.f (by simp;omega)] rfl ?_;refine Ui (S:=Nat) 0 (λL1 i=>(5,.v (.oi i))::L1) (λ_=>[]) (λi=>a.length-i) (λi=>i<=a.length/\a.take i=b.take i) 0 ⟨Qh _,rfl⟩ rfl rfl λi ⟨hi,he⟩=>?_
  by_cases hlt:i<a.length
  ·obtain⟨x,hx⟩:=gxE (l:=a) (i:=i) hlt;obtain⟨y,hy⟩:=gxE (l:=b) (i:=i) (by omega);by_cases e:x=y
   ·refine Ue [.t (by simp;omega),.x (MC hx),.x (MC hy),.f (by simpa using e)] rfl ?_;exact rd (i+1) (by omega) ⟨hlt,by rw[Zv,Zv,hx,hy,he,e]⟩ rfl
   ·have hne:a≠b:=λh=>by rw[h,hy]at hx;injection hx with hx;exact e hx.symm
    exact Uf [.t (by simp;omega),.x (MC hx),.x (MC hy),.t (by simpa using e)] rfl (by simp[hne]) trivial
  ·obtain rfl:i=a.length:=by omega
   have hab:a=b:=by rw[Q6]at he;rw[he,hl,Q6]
   exact Uf [.f (by simp)] rfl (by simp[hab]) trivial
 ·have hne:a≠b:=λh=>hl (by rw[h])
  exact Uf [.t (by simp;omega)] rfl (by simp[hne]) trivial
def Pj(v n:Int):Int:=if n<1 then 0 else v.emod n
theorem Qdn{v n:Int}(h:0<n):(if v.tmod n<0 then v.tmod n+n else v.tmod n)=v % n:=by
 have h3:=Ye v (show n≠0 by omega);have h4:=Js v h;have h1:=Int.tmod_eq_emod (a:=v) (b:=n);have hn:((n.natAbs:Nat):Int)=n:=by omega
 split at h1
 ·rw[h1];simp;omega
 ·rename_i hc;rw[h1,hn];have:v % n≠0:=λe=>hc (.inr (Vf e))
  rw[if_pos (by omega)];omega
theorem Ad{v n:Int}(hv:-9223372036854775808<=v/\v<=9223372036854775807)(hn:n<=1000000000):Uj 13 [.oi v,.oi n] [.oi (Pj v n)]:=by
 unfold Pj;by_cases h:n<1
 ·rw[if_pos h];exact Ug func13 rfl [.t (by simpa using h)] rfl
 ·rw[if_neg h];have e:=Qdn (v:=v) (n:=n) (by omega);have h3:=Ye v (show n≠0 by omega);have h4:=Js v (show 0<n by omega);show Uj 13 [.oi v,.oi n] [.oi (v % n)];by_cases h0:v.tmod n<0
  ·rw[if_pos h0]at e;have b:-n<=v.tmod n:=by omega
   exact Ug func13 rfl [.f (by simpa using h),.t (by simpa using h0)] rfl (by rw[e]) (by simp[U3];omega)
  ·rw[if_neg h0]at e;exact Ug func13 rfl [.f (by simpa using h),.f (by simpa using h0)] rfl (by rw[e]) (by simp[U3];omega)
end Orr
namespace Orr
open Go Go.Proofs Tryz Orq
theorem tU{x y:Int}(hx:-9223372036854775808<=x/\x<=9223372036854775807)(hy:-9223372036854775808<=y/\y<=9223372036854775807):Sc (Td x y):=⟨Crv.nml _,((uQ hx hy).norm (by decide)).mono (by decide) (by decide)⟩
theorem Sc.pt{p:Pt}(h:Sc p.c):Qax 4294967294 1073741824 p:=⟨h.n,h.c.mono (by decide) (by decide)⟩
end Orr
namespace Orr
open Go Go.Proofs Tryz Orq
set_option maxRecDepth 10000
def sN(l:List Pt)(a:Tm):List Ct:=Lm (Fu a) l
abbrev brP(l:List Pt)(a:Tm):Us:=U0 (ZH (Fu a) l)
theorem dE{l:List Pt}{a:Tm}:∀x∈sN l a,x.p∈AH l:=λx hx=>by
 match l,hx with
 |
  u::v::l',hx =>
  unfold sN at hx;simp only[Lm]at hx;obtain⟨h3,h4⟩:=Lj (Fu a) (l:=u::v::l') (Gs (u::v::l')) (u,v) ⟨by simp,by simp⟩ (Sy _ _);obtain⟨m,hm,rfl⟩:=ID hx;obtain⟨h1,h2⟩:=Sy _ _ m hm;rw[LU];exact NN h3 h4 h1 h2
theorem Qec{l:List Pt}(hl:∀p∈l,Sc p.c)(hn:l.length≤10):BuildOk (sN l) :=
 ⟨λ_ _ x hx=>WI hl _ (dE x hx),λa _=>by
  have:=qP (Fu a) l;have:l.length*l.length<=10*10:=Zc hn hn;show(Lm (Fu a) l).length<=1000;omega⟩
def Qxf(l:List Pt)(a:Tm):Cr:=⟨a,(Fo (sN l a)).map fresh,0⟩
theorem Qm6{t:Rat}{l:List Pt}{K:Nat}{c c':Cr}{r1 r1':Us}{n:Int}(ht:Qs 1640000 t)(hl:∀p∈l,Sc p.c)(hn:l.length≤10)(hc:CrOk c)(hev:0≤c.ev/\c.ev+K≤1000000000000000000)(h:Fp c.now t≤0)(hg:HJ (sN l) (brP l) t K c r1 0=some (c',r1',n)) :
 U6 prog 403 [.one (.ow 0 0),.agg (rl t)] [.blk 203 (Hl c (U0 l) r1)] [.oi n,.oi 0] [.blk 203 (Hl c' (U0 l) r1')]:=by
 have cg:=Qtg (T:=203) (r0:=U0 l) ht (Qec hl hn) (λa c r1 ha _=>IF (c:=c) (r1:=r1) hl hn ha) hc hev h hg;refine Fv func403 rfl ?_;exact Uh [] [0] [.k (Nx (ht.mono (by decide))),.c [0] cg] rfl
theorem lF{c:Cr}{r0:Us}{a b:Pt}:U6 prog 92 [.one (.ow 0 0)] [.blk 203 (Hl c r0 (U0 [a,b]))] [.oi a.id,.oi b.id,.one (.bool true)] [.blk 203 (Hl c r0 (U0 [a,b]))]:=by
 refine Fv func92 rfl ?_;exact Uh [] [0] [.f rfl,.x (l:=U0 [a,b]) (i:=0) (xs:=Fc a) rfl,.x (l:=U0 [a,b]) (i:=1) (xs:=Fc b) rfl] rfl
theorem wK{c:Cr}{r0:Us}:U6 prog 92 [.one (.ow 0 0)] [.blk 203 (Hl c r0 [])] [.oi 0,.oi 0,.one (.bool false)] [.blk 203 (Hl c r0 [])]:=by
 refine Fv func92 rfl ?_;exact Uh [] [0] [.t rfl] rfl
end Orr
namespace Orr
open Go
def PM(q:Um->Int)(a b:Pt):Pt×Pt:=if Cg q a b=true then(a,b)else(b,a)
def Ow(q:Um->Int):Nat->List Pt->List Pt×List (Pt×Pt)
 | 0,l=>(l,[])
 |
  k+1,l=>if l.length<2 then(l,[])else
  match (Ow q k (l.take ((l.length+1) / 2))).1,(Ow q k (l.drop ((l.length+1) / 2))).1 with
  |a::_,b::_=>([(PM q a b).1],(Ow q k (l.take ((l.length+1) / 2))).2++(Ow q k (l.drop ((l.length+1) / 2))).2++[PM q a b])
  |_,_=>([],[])
theorem Ds(q:Um->Int):∀(k:Nat) (l:List Pt),l.length<=k->Ow q k l=Ow q l.length l
 | 0,l,h=>by rw[show l.length=0 by omega]
 |
  k+1,l,h=>by
  cases hl:l.length with
  |zero=>simp[Ow,hl]
  |
   succ m =>
   simp only[Ow];by_cases h2:l.length<2
   ·rw[if_pos h2,if_pos h2]
   ·rw[if_neg h2,if_neg h2];have h3:(l.take ((l.length+1) / 2)).length<=m:=by rw[Qq];omega
    have h4:(l.drop ((l.length+1) / 2)).length<=m:=by rw[Q7];omega
    rw[Ds q k (l.take ((l.length+1) / 2)) (by omega),Ds q k (l.drop ((l.length+1) / 2)) (by omega),Ds q m (l.take ((l.length+1) / 2)) h3,Ds q m (l.drop ((l.length+1) / 2)) h4]
termination_by k=>k
def M9(q:Um->Int)(l:List Pt):List Pt×List (Pt×Pt):=Ow q l.length l
theorem Cw(q:Um->Int){l:List Pt}(h:l.length<2):M9 q l=(l,[]):=by
 unfold M9;cases hl:l.length with
 |zero=>rfl
 |succ m=>simp only[Ow];rw[if_pos h]
theorem Ox(q:Um->Int){l:List Pt}(h:¬l.length<2){a b:Pt}(ha:(M9 q (l.take ((l.length+1) / 2))).1=[a])(hb:(M9 q (l.drop ((l.length+1) / 2))).1=[b]) :
 M9 q l=([(PM q a b).1],(M9 q (l.take ((l.length+1) / 2))).2++(M9 q (l.drop ((l.length+1) / 2))).2++[PM q a b]):=by
 unfold M9 at ha hb ⊢;obtain⟨m,hm⟩:∃m,l.length=m+1:=⟨l.length-1,by omega⟩;have h3:(l.take ((l.length+1) / 2)).length<=m:=by rw[Qq];omega
 have h4:(l.drop ((l.length+1) / 2)).length<=m:=by rw[Q7];omega
 rw[<-Ds q m _ h3]at ha ⊢;rw[<-Ds q m _ h4]at hb ⊢;rw[show Ow q l.length l=Ow q (m+1) l by rw[hm]];simp only[Ow];rw[if_neg h,ha,hb]
theorem No(q:Um->Int):∀(k:Nat) (l:List Pt),l.length≤k->0<l.length->∃a,(M9 q l).1=[a]/\a∈l/\∀m∈(M9 q l).2,m.1∈l/\m.2∈l
 | 0,l,h,h0=>by omega
 |
  k+1,l,h,h0=>by
  by_cases h2:l.length<2
  ·rw[Cw q h2]
   match l,h0,h2 with
   | [a],_,_=>exact⟨a,rfl,by simp,by simp⟩
  ·obtain⟨a,ha,hal,ham⟩:=No q k (l.take ((l.length+1) / 2)) (by rw[Qq];omega) (by rw[Qq];omega);obtain⟨b,hb,hbl,hbm⟩:=No q k (l.drop ((l.length+1) / 2)) (by rw[Q7];omega) (by rw[Q7];omega);rw[Ox q h2 ha hb];have hd:(PM q a b).1∈l/\(PM q a b).2∈l:=by
    unfold PM;split
    ·exact⟨Qo hal,Qz hbl⟩
    ·exact⟨Qz hbl,Qo hal⟩
   refine⟨_,rfl,hd.1,λm hm=>?_⟩;rcases Qr.1 hm with hm|hm
   ·rcases Qr.1 hm with hm|hm
    ·exact⟨Qo (ham m hm).1,Qo (ham m hm).2⟩
    ·exact⟨Qz (hbm m hm).1,Qz (hbm m hm).2⟩
   ·rw[Qk.1 hm];exact hd
theorem Dt(q:Um->Int):∀(k:Nat) (l:List Pt),l.length<=k->(M9 q l).2.length<=l.length-1
 | 0,l,h=>by rw[Cw q (by omega)];simp
 |
  k+1,l,h=>by
  by_cases h2:l.length<2
  ·rw[Cw q h2];simp
  ·obtain⟨a,ha,_⟩:=No q l.length (l.take ((l.length+1) / 2)) (by rw[Qq];omega) (by rw[Qq];omega);obtain⟨b,hb,_⟩:=No q l.length (l.drop ((l.length+1) / 2)) (by rw[Q7];omega) (by rw[Q7];omega);rw[Ox q h2 ha hb];have h3:=Dt q k (l.take ((l.length+1) / 2)) (by rw[Qq];omega);have h4:=Dt q k (l.drop ((l.length+1) / 2)) (by rw[Q7];omega);rw[Qq]at h3;rw[Q7]at h4;simp only[Qu,Vr];omega
abbrev Qcy(m:Pt×Pt):Ur:=[pl m.1.c.x,pl m.1.c.y,sg m.1.c.d,mg m.1.c.d,.int .i64 m.1.id,pl m.2.c.x,pl m.2.c.y,sg m.2.c.d,mg m.2.c.d,.int .i64 m.2.id]
end Orr
namespace Orq
open Orr Go
def FG(q:Rat)(x y:Pt):Prop:=py y q<py x q\/py y q=py x q/\(px y q<px x q\/px y q=px x q/\x.id<y.id)
theorem Qio(q:Rat)(x:Pt):¬FG q x x:=by unfold FG;grind
theorem Qo0(q:Rat)(x y z:Pt)(h:FG q x y)(h':FG q y z):FG q x z:=by unfold FG at *;grind
theorem Qip{q:Rat}{x y:Pt}(h:x.id≠y.id)(h':¬FG q x y):FG q y x:=by unfold FG at *;grind
theorem Qa2{a:Tm}(ha:Va a){x y:Pt}(hx:Sc x.c)(hy:Sc y.c){q:Rat}(h1:Hj (Fu a) (Gm y.c x.c)=Fg (U9 (Gm y.c x.c) q))(h2:Hj (Fu a) (Gn y.c x.c)=Fg (U9 (Gn y.c x.c) q)):Cg (Fu a) x y=true↔FG q x y:=by
 rw[TM hy hx]at h1;rw[TN hy hx]at h2;have d1:=(Nf hy hx).dp;have d2:=(Ng hy hx).dp;unfold Cg;simp only[L6];have t1:=Fz (py x q-py y q);have t2:=Fz (px x q-px y q);by_cases e1:(Gm y.c x.c).length=0
 ·rw[if_neg (by omega)];rw[Qj e1,XG]at h1;have:py x q=py y q:=by grind
  by_cases e2:(Gn y.c x.c).length=0
  ·rw[if_neg (by omega)];rw[Qj e2,XG]at h2;unfold FG;simp only[decide_eq_true_eq];grind
  ·rw[if_pos (by omega)];have:=(En ha d2 e2).2;unfold FG;simp only[decide_eq_true_eq];grind
 ·rw[if_pos (by omega)];have:=(En ha d1 e1).2;unfold FG;simp only[decide_eq_true_eq];grind
theorem wQ{l:List Pt}(hl:∀p∈l,Sc p.c){a:Tm}(ha:Va a):∃y,Fp a y=-1/\∀q,Fp a q=-1->q≤y->∀u∈l,∀v∈l,(Cg (Fu a) u v=true↔FG q u v):=by
 obtain⟨y,y1,y2⟩:=XH ha (Ac l) λp hp=>(QZ hl p hp).dp
 refine⟨y,y1,λq q1 q2 u hu v hv=>?_⟩;have h:=y2 q q1 q2;exact Qa2 ha (hl u hu) (hl v hv) (h _ (Sj hv hu).2) (h _ (Sj hv hu).1)
theorem nE{a b:Tm}{x y:Pt}(h:Hj (Fu b) (Ar x y)=Hj (Fu a) (Ar x y)):Cg (Fu b) x y=Cg (Fu a) x y:=by
 unfold Ar Lv at h;unfold Cg;simp only[L6];by_cases e1:0<(Gm y.c x.c).length
 ·rw[if_pos e1,if_pos e1];rw[if_pos e1]at h;rw[h]
 ·rw[if_neg e1,if_neg e1];rw[if_neg e1]at h;rw[h]
theorem Qh9{l:List Pt}{k:Nat}(h2:¬l.length<2)(hk:l.length<=k+1):(l.take ((l.length+1) / 2)).length<=k/\(l.drop ((l.length+1) / 2)).length<=k/\0<(l.take ((l.length+1) / 2)).length/\0<(l.drop ((l.length+1) / 2)).length:=by
 rw[Qq,Q7];omega
theorem TK{sa sb:Um->Int}:∀(k:Nat) (l:List Pt),l.length≤k->l.Pairwise (λx y=>x.id≠y.id)->(∀u∈l,∀v∈l,u.id≠v.id->Cg sa u v=false->Cg sa v u=true)->(∀u∈l,∀v∈l,Cg sb v u=true->Cg sb u v=false)->(∀m∈(M9 sa l).2,Cg sb m.1 m.2=Cg sa m.1 m.2)->M9 sb l=M9 sa l
 | 0,l,hk,_,_,_,_=>by rw[Cw _ (by omega),Cw _ (by omega)]
 |
  k+1,l,hk,hd,h1,h2,hm=>by
  by_cases hs:l.length<2
  ·rw[Cw _ hs,Cw _ hs]
  ·obtain⟨k1,k2,k3,k4⟩:=Qh9 hs hk;obtain⟨a,ha,hal,_⟩:=No sa k (l.take ((l.length+1) / 2)) k1 k3;obtain⟨b,hb,hbl,_⟩:=No sa k (l.drop ((l.length+1) / 2)) k2 k4;have hpl:=Ox sa hs ha hb;rw[hpl]at hm;have hd':=hd;rw[<-Zh ((l.length+1) / 2) l]at hd';obtain⟨d1,d2,d3⟩:=Xw.1 hd';have i1:=TK k _ k1 d1 (λu hu v hv=>h1 u (Qo hu) v (Qo hv)) (λu hu v hv=>h2 u (Qo hu) v (Qo hv)) λm hm'=>hm m (by simp[hm'])
   have i2:=TK k _ k2 d2 (λu hu v hv=>h1 u (Qz hu) v (Qz hv)) (λu hu v hv=>h2 u (Qz hu) v (Qz hv)) λm hm'=>hm m (by simp[hm'])
   have hal':=Qo hal;have hbl':=Qz hbl;have e:PM sb a b=PM sa a b:=by
    have hmem:=hm (PM sa a b) (by simp);unfold PM at hmem ⊢;by_cases h:Cg sa a b=true
    ·rw[if_pos h]at hmem ⊢;rw[if_pos (hmem.trans h)]
    ·rw[if_neg h]at hmem ⊢;have h:Cg sa a b=false:=by simpa using h
     have:=h2 a hal' b hbl' (hmem.trans (h1 a hal' b hbl' (d3 a hal b hbl) h));rw[if_neg (by simp[this])]
   rw[hpl,Ox sb hs (by rw[i1];exact ha) (by rw[i2];exact hb),i1,i2,e]
end Orq
namespace Orr
open Orq Go
def AS(l:List Pt)(a:Tm):List Ct:=(M9 (Fu a) l).2.map λm=>D3 (Fu a) m.1 m.2
def pP(l:List Pt)(a:Tm):Us×Us:=((M9 (Fu a) l).1.map Fc,(M9 (Fu a) l).2.map Qcy)
theorem JU{sg:Um->Int}{l:List Pt}:∀m∈(M9 sg l).2,m.1∈l/\m.2∈l:=λm hm=>by
 by_cases h:0<l.length
 ·obtain⟨_,_,_,h3⟩:=No sg l.length l (Ql _) h;exact h3 m hm
 ·rw[Cw _ (by omega)]at hm;cases hm
theorem Qs1{l:List Pt}(hl:∀p∈l,Sc p.c){a:Tm}:∀x∈AS l a,Cp x.p:=λx hx=>by
 obtain⟨m,hm,rfl⟩:=Za.1 hx;obtain⟨h1,h2⟩:=JU m hm;exact YH (Nf (hl _ h2) (hl _ h1)) (Ng (hl _ h2) (hl _ h1))
theorem pV{l:List Pt}(hl:∀p∈l,Sc p.c)(hn:l.length≤1000):BuildOk (AS l) :=
 ⟨λa _=>Qs1 hl,λa _=>by
  unfold AS;rw[List.length_map];have:=Dt (Fu a) l.length l (Ql _);omega⟩
theorem Qmm{l:List Pt}{a:Tm}:∀x∈AS l a,x.p∈Ac l:=λx hx=>by
 obtain⟨m,hm,rfl⟩:=Za.1 hx;obtain⟨h1,h2⟩:=JU m hm;show Ar m.1 m.2∈Ac l;unfold Ar Lv;split
 ·exact(Sj h2 h1).2
 ·exact(Sj h2 h1).1
theorem Qy4{l:List Pt}(hl:∀p∈l,Sc p.c)(hn:l.length≤1000)(hd:l.Pairwise λx y=>x.id≠y.id):Stab (AS l) (pP l):=by
 refine⟨pV hl hn,⟨Ac l,QZ hl,λa _ x hx=>?_⟩,λa b ha hb h=>?_⟩
 ·obtain⟨m,hm,rfl⟩:=Za.1 hx;obtain⟨h1,h2⟩:=JU m hm;show Ar m.1 m.2∈Ac l;unfold Ar Lv;split
  ·exact(Sj h2 h1).2
  ·exact(Sj h2 h1).1
 ·obtain⟨y,y1,y2⟩:=wQ hl ha;obtain⟨z,z1,z2⟩:=wQ hl hb;have ga:=y2 y y1 Qp;have gb:=z2 z z1 Qp;have e:M9 (Fu b) l=M9 (Fu a) l:=TK l.length l (Ql _) hd (λu hu v hv hne hf=>(ga v hv u hu).2 (Qip hne λh=>by
   rw[(ga u hu v hv).2 h]at hf;cases hf)) (λu hu v hv ht=>by
   cases hb':Cg (Fu b) u v
   ·rfl
   ·exact absurd (Qo0 z u v u ((gb u hu v hv).1 hb') ((gb v hv u hu).1 ht)) (Qio z u)) λm hm=>nE (h (D3 (Fu a) m.1 m.2) (Za.2 ⟨m,hm,rfl⟩))
  refine⟨?_,by unfold pP;rw[e]⟩;unfold AS;rw[e];refine Xq λm hm=>?_
  have:=h (D3 (Fu a) m.1 m.2) (Za.2 ⟨m,hm,rfl⟩);unfold D3;rw[show Hj (Fu b) (Ar m.1 m.2)=Hj (Fu a) (Ar m.1 m.2) from this]
end Orr
namespace Orq
open Orr Go
def ZF(a:Crv):Un:=[Fw a.x a.d,Fw a.y a.d,A5 (Gl a.x a.x) (Gl a.y a.y),[a.d*a.d]]
def wO(a b c d:Crv):List Un:=[ZF a,ZF b,ZF c,ZF d]
def VI(a b c d:Crv):Um:=Lo 4 (wO a b c d)
theorem FA{s:Nat}{k:Crv}(hn:ZL k)(hc:Cs s 3 k):(∀p∈ZF k,Ff p/\Bd (s+s+3) p)/\∀(j:Nat) (p:Um),(ZF k)[j]? = some p->p.length≤[2,2,4,0].getD j 0+1:=by
 have l1:=Fx k.x k.d;have l2:=Fx k.y k.d;have l3:=Tw k.x k.x;have l4:=Tw k.y k.y;have l5:=Of (Gl k.x k.x) (Gl k.y k.y);have kx:=hc.lx;have ky:=hc.ly;have bx:Bd (s+s+2) (Gl k.x k.x):=Pm hc.x hc.x (by omega);have by_:Bd (s+s+2) (Gl k.y k.y):=Pm hc.y hc.y (by omega);have hd:=hn.2.2.1;have hd0:k.d*k.d≠0:=λe=>by rcases Yf.1 e with e|e <;> omega
 have td:Ff [k.d*k.d]:=by unfold Ff;simp[trim,hd0]
 refine⟨λp hp=>?_,λj p hp=>?_⟩
 ·simp only[ZF,Qm,X2,or_false]at hp;rcases hp with rfl|rfl|rfl|rfl
  ·exact⟨Fy _ _,U5 (Ge hc.x hc.d) (by omega)⟩
  ·exact⟨Fy _ _,U5 (Ge hc.y hc.d) (by omega)⟩
  ·exact⟨Fy _ _,U5 (YZ bx by_) (by omega)⟩
  ·refine⟨td,λz hz=>?_⟩;rw[Qk.1 hz];have:=Ga k.d k.d;have:=hc.d;omega
 ·match j,hp with
  | 0,hp=>injection hp with hp;subst hp;show _<=3;omega
  | 1,hp=>injection hp with hp;subst hp;show _<=3;omega
  | 2,hp=>injection hp with hp;subst hp;show _<=5;omega
  | 3,hp=>injection hp with hp;subst hp;exact Ql _
  |j+4,hp=>simp[ZF]at hp
theorem tC{s:Nat}{a b c d:Crv}(na:ZL a)(nb:ZL b)(nc:ZL c)(nd:ZL d)(ca:Cs s 3 a)(cb:Cs s 3 b)(cc:Cs s 3 c)(cd:Cs s 3 d):Sq (s+s+3) [2,2,4,0] 4 4 (wO a b c d):=by
 have hr:∀r∈wO a b c d,∃k:Crv,ZL k/\Cs s 3 k/\r=ZF k:=λr hr=>by
  simp only[wO,Qm,X2,or_false]at hr;rcases hr with rfl|rfl|rfl|rfl
  ·exact⟨a,na,ca,rfl⟩
  ·exact⟨b,nb,cb,rfl⟩
  ·exact⟨c,nc,cc,rfl⟩
  ·exact⟨d,nd,cd,rfl⟩
 refine⟨rfl,λr h=>?_,λr h p hp=>?_,λr h p hp=>?_,λr h j p hp=>?_⟩
 all_goals obtain⟨k,kn,kc,rfl⟩:=hr r h
 ·rfl
 ·exact((FA kn kc).1 p hp).1
 ·exact((FA kn kc).1 p hp).2
 ·exact(FA kn kc).2 j p hp
theorem eN{a b c d:Crv}(ha:Sc a)(hb:Sc b)(hc:Sc c)(hd:Sc d):Cp (VI a b c d):=by
 obtain⟨h1,h2,h3⟩:=NQ 4 [2,2,4,0] (wO a b c d) (by decide) rfl (by decide) (tC ha.n hb.n hc.n hd.n ha.c hb.c hc.c hd.c);exact⟨h1,Qa h3 (by decide),U5 h2 (by decide)⟩
def qK(sg:Um->Int)(a b c d:Pt):Ct:=⟨4,a.id,b.id,c.id,d.id,VI a.c b.c c.c d.c,Hj sg (VI a.c b.c c.c d.c)⟩
abbrev P3:=Pt×(Pt×Pt)
abbrev P4:=Pt×P3
def Lt:Nat->List Pt->List P3
 | 0,_=>[]
 |_+1,[]=>[]
 |k+1,x::l=>(Gs l).map (λm=>(x,m))++Lt k l
def Rv(l:List Pt):List P3:=Lt l.length l
def Ev:Nat->List Pt->List P4
 | 0,_=>[]
 |_+1,[]=>[]
 |k+1,x::l=>(Rv l).map (λm=>(x,m))++Ev k l
def O4(l:List Pt):List P4:=Ev l.length l
theorem VY:∀(l:List Pt) (i:Nat) (x:Pt),l[i]? = some x->Lt (i+1) l=Lt i l++(Gs (l.drop (i+1))).map (λm=>(x,m))
 | [],i,x,h=>by simp at h
 |y::l,0,x,h=>by simp at h;subst h;simp[Lt]
 |
  y::l,i+1,x,h=>by
  have ih:=VY l i x (by simpa using h);show(Gs l).map _++Lt (i+1) l=((Gs l).map _++Lt i l)++_;rw[ih,Zd];rfl
theorem TU:∀(l:List Pt) (i:Nat) (x:Pt),l[i]? = some x->Ev (i+1) l=Ev i l++(Rv (l.drop (i+1))).map (λm=>(x,m))
 | [],i,x,h=>by simp at h
 |y::l,0,x,h=>by simp at h;subst h;simp[Ev]
 |
  y::l,i+1,x,h=>by
  have ih:=TU l i x (by simpa using h);show(Rv l).map _++Ev (i+1) l=((Rv l).map _++Ev i l)++_;rw[ih,Zd];rfl
theorem EO:∀(k:Nat) (l:List Pt),∀m∈Lt k l,m.1∈l/\m.2.1∈l/\m.2.2∈l
 | 0,l,m,h=>by simp[Lt]at h
 |k+1,[],m,h=>by simp[Lt]at h
 |
  k+1,x::l,m,h=>by
  rcases Qr.1 h with h|h
  ·obtain⟨y,hy,rfl⟩:=Za.1 h;obtain⟨h1,h2⟩:=Sy _ _ y hy;exact⟨Qy ..,Qg _ h1,Qg _ h2⟩
  ·obtain⟨h1,h2,h3⟩:=EO k l m h;exact⟨Qg _ h1,Qg _ h2,Qg _ h3⟩
theorem rL:∀(k:Nat) (l:List Pt),∀m∈Ev k l,m.1∈l/\m.2.1∈l/\m.2.2.1∈l/\m.2.2.2∈l
 | 0,l,m,h=>by simp[Ev]at h
 |k+1,[],m,h=>by simp[Ev]at h
 |
  k+1,x::l,m,h=>by
  rcases Qr.1 h with h|h
  ·obtain⟨y,hy,rfl⟩:=Za.1 h;obtain⟨h1,h2,h3⟩:=EO _ _ y hy;exact⟨Qy ..,Qg _ h1,Qg _ h2,Qg _ h3⟩
  ·obtain⟨h1,h2,h3,h4⟩:=rL k l m h;exact⟨Qg _ h1,Qg _ h2,Qg _ h3,Qg _ h4⟩
theorem VQ{l:List Pt}(h:l.length<=6):(Rv l).length<=20/\(O4 l).length<=15:=by
 match l,h with
 | [],_=>exact⟨Zf rfl,Zf rfl⟩
 | [_],_=>exact⟨Zf rfl,Zf rfl⟩
 | [_,_],_=>exact⟨Zf rfl,Zf rfl⟩
 | [_,_,_],_=>exact⟨Zf rfl,Zf rfl⟩
 | [_,_,_,_],_=>exact⟨Zf rfl,Zf rfl⟩
 | [_,_,_,_,_],_=>exact⟨Zf rfl,Zf rfl⟩
 | [_,_,_,_,_,_],_=>exact⟨Zf rfl,Zf rfl⟩
 |_::_::_::_::_::_::_::_,h=>simp at h
abbrev Bb:=List (Um×LV)
def PD(sg:Um->Int)(m:P3):Ct:=Lh sg m.1 m.2.1 m.2.2
def HL(sg:Um->Int)(m:P4):Ct:=qK sg m.1 m.2.1 m.2.2.1 m.2.2.2
def nR(m:P3):Um:=[m.1.id,m.2.1.id,m.2.2.id]
def Qyd(m:P4):Um:=[m.1.id,m.2.1.id,m.2.2.1.id,m.2.2.2.id]
def A1(V:List (Um×Int)):Bb:=V.foldl (λM e=>L9 M e.1 (.int .i64 e.2)) []
def ZN(sg:Um->Int)(ps:List P3):List (Um×Int):=ps.map λm=>(nR m,(PD sg m).want)
def VS(sg:Um->Int)(ps:List P4):List (Um×Int):=ps.map λm=>(Qyd m,(HL sg m).want)
theorem dF(sg:Um->Int)(ps:List P3)(m:P3):A1 (ZN sg (ps++[m]))=L9 (A1 (ZN sg ps)) (nR m) (.int .i64 (PD sg m).want):=by simp[A1,ZN]
def Oa(T:Bb)(s:Int)(n:Um)(F:Bb)(skip:Nat):Bb:=if ZP T (n.eraseIdx skip)*(if (3-skip) % 2=1 then -s else s)>0 then L9 F (n.eraseIdx skip) (.bool true)else F
def OV(T:Bb)(s:Int)(n:Um)(F:Bb):Bb:=Oa T s n (Oa T s n (Oa T s n (Oa T s n F 0) 1) 2) 3
def Od(T:Bb)(V:List (Um×Int)):Bb:=V.foldl (λF e=>OV T e.2 e.1 F) []
theorem nJ(sg:Um->Int)(T:Bb)(ps:List P4)(m:P4):Od T (VS sg (ps++[m]))=OV T (HL sg m).want (Qyd m) (Od T (VS sg ps)):=by simp[Od,VS]
def jL(T F:Bb)(m:P3):Bool:=decide (ZP T (nR m)≠0) && !(BJ F (nR m))
theorem Qut{T F:Bb}{ps:List P3}{m:P3}(h:jL T F m=true):(ps++[m]).filter (jL T F)=ps.filter (jL T F)++[m]:=by simp[Vj,h]
theorem Qhp{T F:Bb}{ps:List P3}{m:P3}(h:jL T F m=false):(ps++[m]).filter (jL T F)=ps.filter (jL T F):=by simp[Vj,h]
def gQ(sg:Um->Int)(l:List Pt):List Ct:=(Rv (Tp l)).map (PD sg)++(O4 (Tp l)).map (HL sg)
def qY(sg:Um->Int)(l:List Pt):List P3:=(Rv (Tp l)).filter (jL (A1 (ZN sg (Rv (Tp l)))) (Od (A1 (ZN sg (Rv (Tp l)))) (VS sg (O4 (Tp l)))))
abbrev trL(m:P3):Ur:=[.int .i64 m.1.id,.int .i64 m.2.1.id,.int .i64 m.2.2.id]
def ZJ(l:List P3):Us:=l.map trL
theorem sV(l:List P3):(ZJ l).length=l.length:=by simp[ZJ]
theorem qV(sg:Um->Int){l:List Pt}(h:l.length<=6):(qY sg l).length<=20:=by
 have hw:=O9 l;exact Qa (Y0 _ _) (VQ (l:=Tp l) (by omega)).1
theorem Qcs(sg:Um->Int){l:List Pt}(h:l.length<=6):(gQ sg l).length<=35:=by
 have hw:=O9 l;obtain⟨h1,h2⟩:=VQ (l:=Tp l) (by omega);unfold gQ;rw[Qu,Q8,Q8];omega
def xY(l:List Pt)(a:Tm):List Ct:=gQ (Fu a) l
abbrev pT(l:List Pt)(a:Tm):Us:=ZJ (qY (Fu a) l)
def Qay(l:List Pt):Un:=(Rv (Tp l)).map (λm=>Hh m.1.c m.2.1.c m.2.2.c)++(O4 (Tp l)).map λm=>VI m.1.c m.2.1.c m.2.2.1.c m.2.2.2.c
theorem xX{l:List Pt}(hl:∀p∈l,Sc p.c):∀p∈Qay l,Cp p:=λp hp=>by
 have hw:=λ(x:Pt) (h:x∈Tp l)=>hl x (Nv h)
 rcases Qr.1 hp with hp|hp
 ·obtain⟨m,hm,rfl⟩:=Za.1 hp;obtain⟨h1,h2,h3⟩:=EO _ _ m hm;exact YU (hw _ h1) (hw _ h2) (hw _ h3)
 ·obtain⟨m,hm,rfl⟩:=Za.1 hp;obtain⟨h1,h2,h3,h4⟩:=rL _ _ m hm;exact eN (hw _ h1) (hw _ h2) (hw _ h3) (hw _ h4)
theorem xK{l:List Pt}{a:Tm}:∀x∈xY l a,x.p∈Qay l:=λx hx=>by
 rcases Qr.1 hx with hx|hx
 ·obtain⟨m,hm,rfl⟩:=Za.1 hx;exact X9 _ (Za.2 ⟨m,hm,rfl⟩)
 ·obtain⟨m,hm,rfl⟩:=Za.1 hx;exact Jg _ (Za.2 ⟨m,hm,rfl⟩)
theorem Qd6{l:List Pt}(h:l.length<=6):(Qay l).length<=1000000:=by
 have hw:=O9 l;obtain⟨h1,h2⟩:=VQ (l:=Tp l) (by omega);unfold Qay;rw[Qu,Q8,Q8];omega
theorem pX{l:List Pt}(hl:∀p∈l,Sc p.c)(hn:l.length≤6):BuildOk (xY l) :=
 ⟨λ_ _ x hx=>xX hl _ (xK x hx),λa _=>Qa (Qcs _ hn) (by decide)⟩
theorem Qy0{l:List Pt}(hl:∀p∈l,Sc p.c)(hn:l.length≤6):Stab (xY l) (pT l):=by
 refine⟨pX hl hn,⟨Qay l,xX hl,λa _=>xK⟩,λa b _ _ h=>?_⟩;have e1:∀m∈Rv (Tp l),PD (Fu b) m=PD (Fu a) m:=λm hm=>by
  have:=h (PD (Fu a) m) (X9 _ (Za.2 ⟨m,hm,rfl⟩));have e:Hj (Fu b) (Hh m.1.c m.2.1.c m.2.2.c)=Hj (Fu a) (Hh m.1.c m.2.1.c m.2.2.c):=this;unfold PD Lh;rw[e]
 have e2:∀m∈O4 (Tp l),HL (Fu b) m=HL (Fu a) m:=λm hm=>by
  have:=h (HL (Fu a) m) (Jg _ (Za.2 ⟨m,hm,rfl⟩));have e:Hj (Fu b) (VI m.1.c m.2.1.c m.2.2.1.c m.2.2.2.c)=Hj (Fu a) (VI m.1.c m.2.1.c m.2.2.1.c m.2.2.2.c):=this;unfold HL qK;rw[e]
 have t1:ZN (Fu b) (Rv (Tp l))=ZN (Fu a) (Rv (Tp l)):=Xq λm hm=>by rw[e1 m hm]
 have t2:VS (Fu b) (O4 (Tp l))=VS (Fu a) (O4 (Tp l)):=Xq λm hm=>by rw[e2 m hm]
 constructor
 ·unfold xY gQ;rw[Xq e1,Xq e2]
 ·unfold pT qY;rw[t1,t2]
def Qxd(l:List Pt)(a:Tm):Cr:=⟨a,(Fo (xY l a)).map fresh,0⟩
def kG(M:Bb):Prop:=∀k,(Am M k).getD (.int .i64 0)=.int .i64 (ZP M k)/\-1<=ZP M k/\ZP M k<=1
def VN(M:Bb):Prop:=∀k,(Am M k).getD (.bool false)=.bool (BJ M k)
theorem OL(M:Bb)(k:Um)(x:LV)(k':Um):Am (L9 M k x) k'=if k'=k then some x else Am M k':=by
 induction M with
 |nil=>simp[L9,Am]
 |
  cons e M ih =>
  simp only[L9];by_cases h:k=e.1
  ·rw[if_pos h];simp only[Am];by_cases h2:k'=k
   ·rw[if_pos h2,if_pos h2]
   ·rw[if_neg h2,if_neg h2,if_neg (λe2=>h2 (e2.trans h.symm))]
  ·rw[if_neg h];simp only[Am];by_cases h2:k'=e.1
   ·rw[if_pos h2,if_pos h2,if_neg (λe2=>h (e2.symm.trans h2))]
   ·rw[if_neg h2,if_neg h2,ih]
theorem Qig:kG []:=λ_=>⟨rfl,show(-1:Int)<=0 by decide,show(0:Int)<=1 by decide⟩
theorem Qa3:VN []:=λ_=>rfl
theorem Qih{M:Bb}(h:kG M){k:Um}{n:Int}(hn:-1<=n/\n<=1):kG (L9 M k (.int .i64 n)):=by
 intro k';have h1:=h k';unfold ZP at h1 ⊢;rw[OL];by_cases e:k'=k
 ·rw[if_pos e];exact⟨rfl,hn.1,hn.2⟩
 ·rw[if_neg e];exact h1
theorem Qa4{M:Bb}(h:VN M){k:Um}{b:Bool}:VN (L9 M k (.bool b)):=by
 intro k';have h1:=h k';unfold BJ at h1 ⊢;rw[OL];by_cases e:k'=k
 ·rw[if_pos e];rfl
 ·rw[if_neg e];exact h1
theorem A7{T F:Bb}{s:Int}{n:Um}{k:Nat}(h:VN F):VN (Oa T s n F k):=by
 unfold Oa;generalize (if (3-k) % 2=1 then -s else s)=s'
 split
 ·exact Qa4 h
 ·exact h
theorem pH{T F:Bb}{s:Int}{n:Um}(h:VN F):VN (OV T s n F):=A7 (A7 (A7 (A7 h)))
theorem Qcu{x s:Int}(hx:-1<=x/\x<=1)(hs:-1<=s/\s<=1):-9223372036854775808<=x*s/\x*s<=9223372036854775807:=by
 have h:x=-1\/x=0\/x=1:=by omega
 rcases h with rfl|rfl|rfl <;> omega
structure MOk(M:List Pt):Prop where
 sc:∀p∈M,Sc p.c
 ln:M.length<=6
 so:Ce M
theorem MOk.df{M:List Pt}(h:MOk M):M.Pairwise λx y=>x.id≠y.id:=h.so.imp λh e=>by omega
structure Knd(β:Type) where
 bc:List Pt->Tm->List Ct
 br:List Pt->Tm->β
 al:List Pt->List (List Int)
structure KndOk{β:Type}(k:Knd β):Prop where
 st:∀M,MOk M->Stab (k.bc M) (k.br M)
 cp:∀M,MOk M->∀p∈k.al M,Cp p
 al:∀M a,∀x∈k.bc M a,x.p∈k.al M
 ln:∀M,MOk M->(k.al M).length<=1000000
abbrev kS:Knd Us:=⟨VC,pS,Ac⟩
abbrev kT:Knd (Us×Us):=⟨AS,pP,Ac⟩
abbrev kH:Knd Us:=⟨NL,brH,λl=>Ac l++NB l⟩
abbrev kP:Knd Us:=⟨sN,brP,AH⟩
abbrev kD:Knd Us:=⟨xY,pT,Qay⟩
theorem NC{l:List Pt}(h:l.length<=6):(Ac l).length<=72:=by
 rw[Qd7];exact Qa (Zc h (Zc h (Ql 2))) (by decide)
theorem UO{α β:Type}{f:α->List β}{n:Nat}(l:List α)(h:∀x∈l,(f x).length=n):(l.flatMap f).length=l.length*n:=by
 induction l with
 |nil=>simp
 |
  cons x l ih =>
  rw[J1,Qu,h x (by simp),ih λy hy=>h y (Qg _ hy),Q5,X5];omega
theorem Qmj(l:List Pt):(NB l).length=l.length*(l.length*l.length):=by
 unfold NB;exact UO l λx _=>UO l λy _=>by simp
theorem Qmh(l:List Pt):(AH l).length=l.length*(l.length*(l.length*l.length)):=by
 unfold AH;exact UO l λx _=>UO l λy _=>UO l λz _=>by simp
theorem okS:KndOk kS:=⟨λM h=>Qy3 h.sc (by have:=h.ln;omega) h.df,λM h=>QZ h.sc,λM a=>dA,λM h=>Qa (NC h.ln) (by decide)⟩
theorem okT:KndOk kT:=⟨λM h=>Qy4 h.sc (by have:=h.ln;omega) h.df,λM h=>QZ h.sc,λM a=>Qmm,λM h=>Qa (NC h.ln) (by decide)⟩
theorem okH:KndOk kH:=⟨λM h=>Qy1 h.sc (by have:=h.ln;omega) h.df,λM h=>PO h.sc,λM a=>xW,λM h=>by
 have h1:=NC h.ln;have h2:=Qmj M;have h3:M.length*(M.length*M.length)<=6*(6*6):=Zc h.ln (Zc h.ln h.ln);show(Ac M++NB M).length<=_;rw[Qu];omega⟩
theorem okP:KndOk kP:=⟨λM h=>Qy2 h.sc (by have:=h.ln;omega) h.df,λM h=>WI h.sc,λM a=>dE,λM h=>by
 have h3:M.length*(M.length*(M.length*M.length))<=6*(6*(6*6)):=Zc h.ln (Zc h.ln (Zc h.ln h.ln));show(AH M).length<=_;rw[Qmh];omega⟩
theorem okD:KndOk kD:=⟨λM h=>Qy0 h.sc h.ln,λM h=>xX h.sc,λM a=>xK,λM h=>Qd6 h.ln⟩
open Classical in
noncomputable def cnt(bc:Tm->List Ct)(q t:Rat):Nat:=if h:∃E,Evs bc t (tq q) E then(Classical.choose h).length else 0
theorem Qt9{β:Type}{Bc:Tm->List Ct}{Br:Tm->β}(S:Stab Bc Br){q t:Rat}(hq:Va (tq q)){E:List Tm}(h:Evs Bc t (tq q) E):cnt Bc q t=E.length:=by
 have hx:∃E,Evs Bc t (tq q) E:=⟨E,h⟩;unfold cnt;rw[dif_pos hx];exact Qus S hq (Classical.choose_spec hx) h
structure At{β:Type}(k:Knd β)(M:List Pt)(q:Rat)(c:Cr):Prop where
 now:c.now=tq q
 st:KSt (k.bc M) (k.br M) c (k.br M (tq q))
section
variable{β:Type}{k:Knd β}(ok:KndOk k){M M':List Pt}{q t:Rat}{c:Cr}
include ok
theorem At.again(h:At k M q c)(hM:MOk M'):∃ws,Tl c.l c.now (Fo (k.bc M' c.now))=some ws/\At k M' q ⟨tq q,ws,c.ev⟩:=by
 obtain⟨⟨o,kk⟩,hcs,hr⟩:=h.st;have S:=ok.st M' hM;obtain⟨ws,l1,l2⟩:=nT o.n o.l (Fo (k.bc M' c.now));have o':=Orr.lay_ok c.ev o o.n (S.ok.p _ o.n) (S.ok.n _ o.n) l1;have hl:=aE o.n o.n (λh=>Ix o.n.cut o.n.cut h h) o.l kk l1;rw[h.now]at o' hl l2;exact⟨ws,l1,rfl,⟨⟨o',hl⟩,l2,rfl⟩⟩
theorem At.adv(h:At k M q c)(hM:MOk M)(ht:Qs 1640000 t)(hqt:q<=t) :
 ∃(K:Nat) (c':Cr),K<=67000001/\HJ (k.bc M) (k.br M) t K c (k.br M (tq q)) 0=some (c',k.br M (tq t),((cnt (k.bc M) q t:Nat):Int))/\At k M t c'/\c'.ev=c.ev+((cnt (k.bc M) q t:Nat):Int)/\cnt (k.bc M) q t<=67000000/\cnt (k.bc M) q t<=((k.al M).flatMap zD).length:=by
 have S:=ok.st M hM;have hP:=ok.cp M hM;have hm:=Qaj hP;have hmu:=Qyk ((k.al M).flatMap zD) c.now;have hl:=ok.ln M hM;have hv:=h.st.inv.ok.n;have hc:Fp c.now t<=0:=by rw[h.now,Qal];rcases Nc q t with⟨e,e'⟩|⟨e,e'⟩|⟨e,e'⟩ <;> first|omega|(exfalso;grind)
 obtain⟨c',r',E,g1,g2,g3,g4,g5,g6⟩:=Qx7 S ht hP (λa _=>ok.al M a) (mu ((k.al M).flatMap zD) c.now) c _ 0 (Ql _) h.st λh'=>by
  have:=(CJ hv.cut).2 h';omega
 have hr:r'=k.br M (tq t):=by rw[g3.r,g2]
 rw[hr]at g1 g3;rw[Int.zero_add]at g1;rw[h.now]at g6;have he:=Qt9 S (by rw[<-h.now];exact hv) g6;rw[he];exact⟨_,c',by omega,g1,⟨g2,g3⟩,g4,by omega,by omega⟩
end
theorem At.begin{β:Type}{k:Knd β}(ok:KndOk k){M:List Pt}{q:Rat}(hM:MOk M)(hq:Qs 1640000 q):At k M q ⟨tq q,(Fo (k.bc M (tq q))).map fresh,0⟩:=⟨rfl,Qs6 (ok.st M hM) (IZ hq)⟩
end Orq
namespace Orr
open Go Go.Proofs Tryz Orq
set_option maxRecDepth 10000
abbrev Te(c:Cr)(r0:Us)(r1:Us×Us):Ur:=.bool true::pl c.now.p::sg c.now.lo.num::mg c.now.lo.num::sg (c.now.lo.den:Int)::mg (c.now.lo.den:Int)::sg c.now.hi.num::mg c.now.hi.num::sg (c.now.hi.den:Int)::mg (c.now.hi.den:Int)::.row (Cc c.l)::.int .i64 c.ev::[.row r0,.row r1.1,.row r1.2]
abbrev Quc(r0:LV)(r1:LV×LV):Ur:=[.bool false,.nils,.bool false,.nils,.bool false,.nils,.bool false,.nils,.bool false,.nils,.nils,.int .i64 0,r0,r1.1,r1.2]
theorem mZ{T:Nat}{c:Cr}{r0:Us}{r1:Us×Us}(hc:Va c.now):U6 prog 376 [.one (.ow 0 0)] [.blk T (Te c r0 r1)] [.agg (ta c.now)] [.blk T (Te c r0 r1)]:=by
 have cl:=Pa (b:=c.now) (l:=[]) hc.tb (λt ht=>by cases ht) (by decide) rfl;refine Fv func376 rfl ?_;exact Uh [] [0] [.f rfl,.k cl] rfl
theorem Qfk{T:Nat}{c:Cr}{r0:Us}{r1:Us×Us}(hc:CrOk c):U6 prog 366 [.one (.ow 0 0)] [.blk T (Te c r0 r1)] [.one (.row (U8 (Fo (c.l.map (·.c)))))] [.blk T (Te c r0 r1)]:=by
 have hk:=hc.k;have hw:=Tq c.l;refine Fv func366 rfl ?_;refine Ud [.o 3 126 7] rfl ?_;refine Ui (S:=Nat) 2 (λL1 i=>(11,.v (.oi i))::(3,.v (.one (.orow 1 7 none)))::L1) (λi=>[.blk T (Te c r0 r1),.row false 126 7 (U8 ((c.l.map (·.c)).take i))]) (λi=>c.l.length-i) (λi=>i<=c.l.length) 0 (Qh _) rfl rfl λi hi=>?_
 by_cases hlt:i<c.l.length
 ·obtain⟨x,hx⟩:=gxE (l:=c.l) (i:=i) hlt;have hm:∀y∈[Dq x.c],y.length=7:=λy hy=>by rw[Qk.1 hy];rfl
  have hg:(c.l.map (·.c)).take (i+1)=(c.l.map (·.c)).take i++[x.c]:=by
   rw[Zv,Q9,hx];rfl
  have hl:decide ((i:Int)<((Cc c.l).length:Int))=true:=by simp[hw];omega
  obtain⟨xc,xk,xf⟩:=x;cases xf <;> (refine go tt [.t hl,.x (Hr hx),.s (sz:=7) hm] rfl (by simp[U3,Po];omega) ?_;exact rd (i+1) (by omega) hlt (by rw[hg];simp[U8];rfl))
 ·obtain rfl:i=c.l.length:=by omega
  have e:(c.l.map (·.c)).take c.l.length=c.l.map (·.c):=Qn (by simp);rw[e];have cs:=HM (l:=c.l.map (·.c)) (λx hx=>by
   obtain⟨w,hw,rfl⟩:=Za.1 hx;exact Dp.pb (hc.l w hw).p.dp) (by simp;omega)
  exact Uh [] [0] [.f (by simp[hw]),.k cs] rfl
theorem Qng{T:Nat}{c:Cr}{r0:Us}{r1:Us×Us}{x:Ct}{at_:Tm}{w:Wt}(hc:CrOk c)(hx:Cp x.p)(ha:Va at_)(h:Co c.l x at_=some w):U6 prog 195 [.one (.ow 0 0),.agg (Dq x),.agg (ta at_)] [.blk T (Te c r0 r1)] [.agg (wl w)] [.blk T (Te c r0 r1)]:=by
 have hk:=hc.k;have hw:=Tq c.l;refine Fv func195 rfl ?_;refine Ud [] rfl ?_;refine Ui (S:=Nat) 4 (λL1 i=>(14,.v (.oi i))::L1) (λ_=>[.blk T (Te c r0 r1),.blk 126 (Dq x),.blk 189 (ta at_),.blk 291 [.int .i64 0,.int .i64 0,.int .i64 0,.int .i64 0,.int .i64 0,.nils,.int .i64 0,.bool false,.bool false,.nils,.bool false,.nils,.bool false,.nils,.bool false,.nils,.bool false,.nils]]) (λi=>c.l.length-i) (λi=>i<=c.l.length/\Co (c.l.drop i) x at_=some w) 0 ⟨Qh _,h⟩ rfl rfl λi ⟨hi,hf⟩=>?_
 by_cases hlt:i<c.l.length
 ·obtain⟨v,hv⟩:=gxE (l:=c.l) (i:=i) hlt;have hdr:c.l.drop i=v::c.l.drop (i+1):=by
   rw[Zp hlt];congr 1;have:=Qe hlt;rw[hv]at this;injection this with this;exact this.symm
  have hvo:=hc.l v (Qc hv);rw[hdr]at hf;simp only[Co]at hf;have hl:decide ((i:Int)<((Cc c.l).length:Int))=true:=by simp[hw];omega
  by_cases A:tW v.c x=true
  ·have A':(!decide ([v.c.kind,v.c.i0,v.c.i1,v.c.i2,v.c.i3]=[x.kind,x.i0,x.i1,x.i2,x.i3]))=false:=by
    unfold tW at A;rw[A];rfl
   by_cases B:v.known=true
   ·have B':(!v.known)=false:=by rw[B];rfl
    have cs:=MY (p:=v.c.p) (q:=x.p) (Dp.pb hvo.p.dp).ln (Dp.pb hx.dp).ln (Dp.pb hvo.p.dp).bd (Dp.pb hx.dp).bd;rw[hvo.p.t,hx.t]at cs;by_cases C:v.c.p=x.p
    ·have C':(!decide (v.c.p=x.p))=false:=by simp[C]
     rw[if_pos ⟨A,B,C⟩]at hf;obtain⟨vc,vk,vf⟩:=v;cases vf with
     |
      none =>
      injection hf with hf;subst hf;exact Uh [] [0] [.t hl,.x (Hr hv),.g 24 false A',.g 29 false B',.k cs,.f C',.g 41 true rfl,.t rfl] rfl
     |
      some t =>
      obtain⟨r,r1',hf⟩:=Qd.1 hf;have cc:=KW (hvo.f t rfl).tb ha.tb r1';by_cases D:0<r
      ·rw[if_pos D]at hf;injection hf with hf;subst hf;exact Uh [] [0] [.t hl,.x (Hr hv),.g 24 false A',.g 29 false B',.k cs,.f C',.g 41 false rfl,.k cc,.t (by simpa using D)] rfl
      ·rw[if_neg D]at hf;refine Ue [.t hl,.x (Hr hv),.g 24 false A',.g 29 false B',.k cs,.f C',.g 41 false rfl,.k cc,.f (by simpa using D)] rfl ?_;exact rd (i+1) (by omega) ⟨hlt,hf⟩ rfl
    ·rw[if_neg λh=>C h.2.2]at hf;refine Ue [.t hl,.x (Hr hv),.g 24 false A',.g 29 false B',.k cs,.t (by simp[C])] rfl ?_;exact rd (i+1) (by omega) ⟨hlt,hf⟩ rfl
   ·rw[if_neg λh=>B h.2.1]at hf;refine Ue [.t hl,.x (Hr hv),.g 24 false A',.g 29 true (by simpa using B),.t rfl] rfl ?_;exact rd (i+1) (by omega) ⟨hlt,hf⟩ rfl
  ·rw[if_neg λh=>A h.1]at hf;refine Ue [.t hl,.x (Hr hv),.g 24 true (by rw[show decide ([v.c.kind,v.c.i0,v.c.i1,v.c.i2,v.c.i3]=[x.kind,x.i0,x.i1,x.i2,x.i3])=false from Wu.2 A];rfl),.g 29 true rfl,.t rfl] rfl ?_;exact rd (i+1) (by omega) ⟨hlt,hf⟩ rfl
 ·obtain rfl:i=c.l.length:=by omega
  rw[Yt]at hf;simp only[Co]at hf;injection hf with hf;subst hf;exact Uh [] [0] [.f (by simp[hw])] rfl
theorem lR{T:Nat}{c:Cr}{r0:Us}{r1:Us×Us}{at_:Tm}{l:List Ct}{ws:List Wt}(hc:CrOk c)(ha:Va at_)(hl:∀x∈l,Cp x.p)(hn:l.length≤1000)(h:Tl c.l at_ (Fo l)=some ws):U6 prog 161 [.one (.ow 0 0),.agg (ta at_),.one (.bool true),.one (.row (U8 l))] [.blk T (Te c r0 r1)] [] [.blk T (Te ⟨at_,ws,c.ev⟩ r0 r1)]:=by
 have cs:=HM (l:=l) (λx hx=>Dp.pb (hl x hx).dp) (by omega);have cl:=Pa (b:=at_) (l:=[]) ha.tb (λt ht=>by cases ht) (by decide) rfl;obtain⟨h1,h2⟩:=XB h;have hs:(Fo l).length=l.length:=My l;refine Fv func161 rfl ?_;refine Ud [.o 8 291 18,.k cs] rfl ?_;refine Ui (S:=Nat) 3 (λL1 i=>(15,.v (.oi i))::(8,.v (.one (.orow 2 18 none)))::L1) (λi=>[.blk T (Te c r0 r1),.blk 189 (ta at_),.row false 291 18 (Cc (ws.take i))]) (λi=>ws.length-i) (λi=>i<=ws.length) 0 (Qh _) rfl rfl λi hi=>?_
 by_cases hlt:i<ws.length
 ·obtain⟨x,hx⟩:=gxE (l:=(Fo l)) (i:=i) (by omega);obtain⟨w,hw,hw'⟩:=h2 i x hx;have hm:∀y∈[wl w],y.length=18:=λy hy=>by rw[Qk.1 hy];rfl
  have hlt':decide ((i:Int)<((U8 (Fo l)).length:Int))=true:=by simp[U8];omega
  have ck:=Qng (T:=T) (r0:=r0) (r1:=r1) hc (hl x (Tc (Qc hx))) ha hw;have hg:=Ab hw';obtain⟨wc,wk,wf⟩:=w;cases wf <;> (refine go tt [.t hlt',.x (XQ hx),.t rfl,.c [0] ck,.s (sz:=18) hm] rfl (by simp[U3,Tq];omega) ?_;exact rd (i+1) (by omega) hlt (by rw[hg];rfl))
 ·obtain rfl:i=ws.length:=by omega
  rw[Q6];have hge:decide ((ws.length:Int)<((U8 (Fo l)).length:Int))=false:=by simp[U8];omega
  exact Uh [] [0] [.f hge,.p 2,.k cl] rfl
theorem Qnh{T:Nat}{r0:Us}{r1:Us×Us}{at_:Tm}{l:List Ct}(ha:Va at_)(hl:∀x∈l,Cp x.p)(hn:l.length≤1000):U6 prog 161 [.one (.ow 0 0),.agg (ta at_),.one (.bool false),.one (.row (U8 l))] [.blk T (Quc (.row r0) (.row r1.1,.row r1.2))] [] [.blk T (Te ⟨at_,(Fo l).map fresh,0⟩ r0 r1)]:=by
 have cs:=HM (l:=l) (λx hx=>Dp.pb (hl x hx).dp) (by omega);have cl:=Pa (b:=at_) (l:=[]) ha.tb (λt ht=>by cases ht) (by decide) rfl;have hs:(Fo l).length=l.length:=My l;refine Fv func161 rfl ?_;refine Ud [.o 8 291 18,.k cs] rfl ?_;refine Ui (S:=Nat) 3 (λL1 i=>(15,.v (.oi i))::(8,.v (.one (.orow 2 18 none)))::L1) (λi=>[.blk T (Quc (.row r0) (.row r1.1,.row r1.2)),.blk 189 (ta at_),.row false 291 18 (Cc (((Fo l).map fresh).take i))]) (λi=>l.length-i) (λi=>i<=l.length) 0 (Qh _) rfl rfl λi hi=>?_
 by_cases hlt:i<l.length
 ·obtain⟨x,hx⟩:=gxE (l:=(Fo l)) (i:=i) (by omega);have hm:∀y∈[wl (fresh x)],y.length=18:=λy hy=>by rw[Qk.1 hy];rfl
  have hlt':decide ((i:Int)<((U8 (Fo l)).length:Int))=true:=by simp[U8];omega
  have hg:=Ab (l:=(Fo l).map fresh) (i:=i) (w:=fresh x) (by rw[Q9,hx];rfl);refine go tt [.t hlt',.x (XQ hx),.z 20,.f rfl,.s (sz:=18) hm] rfl (by simp[U3,Tq];omega) ?_;exact rd (i+1) (by omega) hlt (by rw[hg];rfl)
 ·obtain rfl:i=l.length:=by omega
  rw[Qn (by simp;omega)];have hge:decide ((l.length:Int)<((U8 (Fo l)).length:Int))=false:=by simp[U8];omega
  exact Uh [] [0] [.f hge,.p 2,.k cl] rfl
theorem Qbk{T:Nat}{r0:Us}{r1:Us×Us}{at_:Tm}{l:List Ct}(ha:Va at_)(hl:∀x∈l,Cp x.p)(hn:l.length≤1000):U6 prog 121 [.one (.ow 0 0),.agg (ta at_),.one (.row (U8 l))] [.blk T (Quc (.row r0) (.row r1.1,.row r1.2))] [] [.blk T (Te ⟨at_,(Fo l).map fresh,0⟩ r0 r1)]:=by
 have cl:=Qnh (T:=T) (r0:=r0) (r1:=r1) ha hl hn;refine Fv func121 rfl ?_;exact Uh [] [0] [.g 12 false rfl,.c [0] cl] rfl
theorem Qbl{T:Nat}{c:Cr}{r0:Us}{r1:Us×Us}{at_:Tm}{l:List Ct}{ws:List Wt}{k:Int}(hc:CrOk c)(ha:Va at_)(hk:UH at_ c.now=some k)(h0:0≤k)(hl:∀x∈l,Cp x.p)(hn:l.length≤1000)(h:Tl c.l at_ (Fo l)=some ws):U6 prog 121 [.one (.ow 0 0),.agg (ta at_),.one (.row (U8 l))] [.blk T (Te c r0 r1)] [] [.blk T (Te ⟨at_,ws,c.ev⟩ r0 r1)]:=by
 have cl:=lR (T:=T) (r0:=r0) (r1:=r1) hc ha hl hn h;have cc:=KW ha.tb hc.n.tb hk;refine Fv func121 rfl ?_;exact Uh [] [0] [.g 12 true rfl,.k cc,.r 20 (eB (show decide (0<=k)=true by simpa using h0)),.c [0] cl] rfl
theorem Qni{T:Nat}{c:Cr}{r0:Us}{r1:Us×Us}{ws:List Wt}(hc:CrOk c)(h:Og c.now c.l=some ws):U6 prog 371 [.one (.ow 0 0)] [.blk T (Te c r0 r1)] [] [.blk T (Te { c with l:=ws } r0 r1)]:=by
 have hk:=hc.k;have hw:=Tq c.l;obtain⟨h1,h2⟩:=YB h;refine Fv func371 rfl ?_;refine Ud [.o 2 291 18,.c [0] (mZ hc.n)] rfl ?_;refine Ui (S:=Nat) 3 (λL1 i=>(13,.v (.oi i))::(2,.v (.one (.orow 1 18 none)))::L1) (λi=>[.blk T (Te c r0 r1),.row false 291 18 (Cc (ws.take i)),.blk 189 (ta c.now)]) (λi=>c.l.length-i) (λi=>i<=c.l.length) 0 (Qh _) rfl rfl λi hi=>?_
 by_cases hlt:i<c.l.length
 ·obtain⟨w,hx⟩:=gxE (l:=c.l) (i:=i) hlt;obtain⟨v,hv,h3⟩:=h2 i w hx;have hm:∀y∈[wl v],y.length=18:=λy hy=>by rw[Qk.1 hy];rfl
  have hg:=Ab hv;have hl:decide ((i:Int)<((Cc c.l).length:Int))=true:=by simp[hw];omega
  rcases h3 with⟨k1,rfl⟩|⟨k1,r,k2,rfl⟩
  ·obtain⟨vc,vk,vf⟩:=v;cases vf <;> (refine go tt [.t hl,.x (Hr hx),.f (by rw[show vk=true from k1];rfl),.s (sz:=18) hm] rfl (by simp[U3,Tq];omega) ?_;exact rd (i+1) (by omega) hlt (by rw[hg];rfl))
  ·have cg:=wJ (hc.l w (Qc hx)).p hc.n k2;obtain⟨wc,wk,wf⟩:=w;cases r <;> cases wf <;> (refine go tt [.t hl,.x (Hr hx),.t (by rw[show wk=false from k1];rfl),.k cg,.s (sz:=18) hm] rfl (by simp[U3,Tq];omega) ?_;exact rd (i+1) (by omega) hlt (by rw[hg];rfl))
 ·obtain rfl:i=c.l.length:=by omega
  rw[<-h1,Q6];exact Uh [1] [0] [.f (by simp[hw,h1])] rfl
theorem Qnj{T:Nat}{c:Cr}{r0:Us}{r1:Us×Us}{ws:List Wt}{r:Option Tm}(hc:CrOk c)(h:Og c.now c.l=some ws)(hr:AI ws=some r):U6 prog 377 [.one (.ow 0 0)] [.blk T (Te c r0 r1)] [.agg (ota r),.one (.bool r.isSome)] [.blk T (Te { c with l:=ws } r0 r1)]:=by
 have hcl:=Qni (T:=T) (r0:=r0) (r1:=r1) hc h;have hc':=Ep hc h;have hk:=hc'.k;have hw:=Tq ws;have hvb:∀t∈ws.filterMap (·.fails),Tb t:=λt ht=>by
  obtain⟨w,w1,w2⟩:=Jj.1 ht;exact((hc'.l w w1).f t w2).tb
 refine Fv func377 rfl ?_;refine Ud [.c [0] hcl,.o 4 189 9] rfl ?_;refine Ui (S:=Nat) 3 (λL1 i=>(14,.v (.oi i))::(4,.v (.one (.orow 2 9 none)))::L1) (λi=>[.blk T (Te { c with l:=ws } r0 r1),.blk 189 zTm,.row false 189 9 (tal ((ws.take i).filterMap (·.fails)))]) (λi=>ws.length-i) (λi=>i<=ws.length) 0 (Qh _) rfl rfl λi hi=>?_
 by_cases hlt:i<ws.length
 ·obtain⟨w,hx⟩:=gxE (l:=ws) (i:=i) hlt;have hl:decide ((i:Int)<((Cc ws).length:Int))=true:=by simp[hw];omega
  have hfl:((ws.take i).filterMap (·.fails)).length<=i:=Qa (Vb _ _) (by rw[Qq];omega);have hg:(ws.take (i+1)).filterMap (·.fails)=(ws.take i).filterMap (·.fails)++(match w.fails with|none=>[]|some t=>[t]):=by
   rw[Zv,hx,List.filterMap_append];show _++List.filterMap (·.fails) [w]=_;cases hwf:w.fails <;> simp[hwf]
  obtain⟨wc,wk,wf⟩:=w;have hk:ws.length<=1000:=hk;cases wf with
  |
   none =>
   refine Ue [.t hl,.x (Hr hx),.f rfl] rfl ?_;exact rd (i+1) (by omega) hlt (by rw[hg];simp;rfl)
  |
   some t =>
   refine Ue [.t hl,.x (Hr hx),.t rfl,.s (l:=[ta t]) (sz:=9) (λc hc=>by rw[Qk.1 hc];rfl)] rfl ?_;exact rd (i+1) (by omega) hlt (by rw[hg];simp[tal];rfl)
 ·obtain rfl:i=ws.length:=by omega
  rw[Q6];have hf:decide ((ws.length:Int)<((Cc ws).length:Int))=false:=by simp[hw]
  have hln:(ws.filterMap (·.fails)).length<=1000:=Qa (Vb _ _) hk;unfold AI at hr;cases hfm:ws.filterMap (·.fails)with
  |
   nil =>
   rw[hfm]at hr;injection hr with hr;subst hr;exact Uh [] [0] [.f hf,.p 2,.k wY] rfl
  |
   cons b l =>
   rw[hfm]at hr hvb hln;obtain⟨m,m1,rfl⟩:=Yx.1 hr;have cl:=Pa (hvb b (Qy ..)) (λt ht=>hvb t (Qg _ ht)) (by simp at hln;omega) m1;exact Uh [] [0] [.f hf,.p 2,.k cl] rfl
theorem Qxu{T:Nat}{t:Rat}{Bc:Tm->List Ct}{Br:Tm->Us×Us}{r0:Us}(ht:Qs 1640000 t)(hB:BuildOk Bc)
 (hb:∀a c r1,Va a->CrOk c->U6 prog 123 [.one (.ow 0 0),.agg (ta a)] [.blk T (Te c r0 r1)] [.one (.row (U8 (Bc a)))] [.blk T (Te c r0 (Br a))])
 {K:Nat} {c c':Cr} {r1 r1':Us×Us} {n:Int} (hc:CrOk c) (hev:0<=c.ev/\c.ev+K<=1000000000000000000) (h:Fp c.now t<=0) (hg:HJ Bc Br t K c r1 0=some (c',r1',n)) :
 U6 prog 372 [.one (.ow 0 0),.agg (rl t),.one (.ofn 123 [.ow 0 0] [])] [.blk T (Te c r0 r1)] [.oi n,.oi 0] [.blk T (Te c' r0 r1')]:=by
 have qt:Qb t:=ht.mono (by decide);have c1:=Dk hc.n.tb qt;refine Fv func372 rfl ?_;refine Ud [.c [0] (mZ hc.n),.k c1,.f (by simpa using h)] rfl ?_;refine Ui (S:=Nat×Cr×(Us×Us)×Int) 2 (λL1 s=>(8,.v (.oi s.2.2.2))::L1) (λs=>[.blk T (Te s.2.1 r0 s.2.2.1),.blk 43 (rl t)]) (λs=>s.1) (λs=>CrOk s.2.1/\(0<=s.2.1.ev/\s.2.1.ev+s.1<=1000000000000000000)/\(0<=s.2.2.2/\s.2.2.2+s.1<=1000000000000000000)/\HJ Bc Br t s.1 s.2.1 s.2.2.1 s.2.2.2=some (c',r1',n)) (K,c,r1,0) ⟨hc,hev,⟨Int.le_refl 0,by dsimp only;omega⟩,hg⟩ rfl rfl λ⟨k,x,r,m⟩ ⟨j1,j2,j3,j4⟩=>?_
 dsimp only at j1 j2 j3 j4 ⊢;cases k with
 |zero=>cases j4
 |
  succ k =>
  simp only[HJ]at j4;obtain⟨ws,w1,j4⟩:=Qd.1 j4;obtain⟨o,o1,j4⟩:=Qd.1 j4;have cn:=Qnj (T:=T) (r0:=r0) (r1:=r) j1 w1 o1;have ca:=VD (U4 t.num) (U4 (t.den:Int)) (Qa ht.1 (by decide)) (Qa ht.2 (by decide)) (by rw[Su];exact ht.mono (by decide));rw[Su]at ca;cases o with
  |
   none =>
   injection j4 with j4;injection j4 with e1 j4;injection j4 with e2 e3;subst e1;subst e2;subst e3;exact Uh [] [0] [.c [0] cn,.g 25 true rfl,.t rfl,.k ca] rfl
  |
   some a =>
   have ha:=LR j1 w1 o1;dsimp only at j4;have cc:=Dk ha.tb qt;by_cases h0:0<Fp a t
   ·rw[if_pos h0]at j4;injection j4 with j4;injection j4 with e1 j4;injection j4 with e2 e3;subst e1;subst e2;subst e3;exact Uh [] [0] [.c [0] cn,.g 25 false rfl,.k cc,.t (by simpa using h0),.k ca] rfl
   ·rw[if_neg h0]at j4;obtain⟨w2,l1,j4⟩:=Qd.1 j4;have j1':=Ep j1 w1;have cl:=Pa (b:=a) (l:=[]) ha.tb (λt ht=>by cases ht) (by decide) rfl;have cb:=hb a { x with l:=ws } r ha j1';have cy:=lR (T:=T) (r0:=r0) (r1:=Br a) j1' ha (hB.p a ha) (hB.n a ha) l1;have hf:decide (0<Fp a t)=false:=by simpa using h0
    refine Ue [.c [0] cn,.g 25 false rfl,.k cc,.f hf,.k cl,.c [0] cb,.c [0] cy] rfl ?_;exact rd (k,⟨a,w2,x.ev+1⟩,Br a,m+1) (by dsimp only;omega) ⟨lay_ok _ j1' ha (hB.p a ha) (hB.n a ha) l1,by dsimp only;omega,by dsimp only;omega,j4⟩ rfl
theorem Qbm{T:Nat}{c:Cr}{r0:Us}{r1:Us×Us}:U6 prog 368 [.one (.ow 0 0)] [.blk T (Te c r0 r1)] [.oi c.ev] [.blk T (Te c r0 r1)]:=by
 refine Fv func368 rfl ?_;exact Uh [] [0] [] rfl
end Orr
namespace Orr
open Go Go.Proofs Tryz Orq
def PS(k:Crv):Int:=max (max 0 ((k.x.length:Int)-1)) ((k.y.length:Int)-1)
structure Es where
 np:Int
 nd:Int
 M:List Pt
 q:Rat
 s:Cr
 t:Cr
 h:Cr
 p:Cr
 d:Cr
structure Em where
 np:Int
 nd:Int
 M:List Pt
 q:Rat
 s:Int
 t:Int
 h:Int
 p:Int
 d:Int
def Es.m(E:Es):Em:=⟨E.np,E.nd,E.M,E.q,E.s.ev,E.t.ev,E.h.ev,E.p.ev,E.d.ev⟩
structure MEn(np nd:Int)(M:List Pt):Prop where
 m:MOk M
 len:(M.length:Int)<=np
 deg:∀p∈M,PS p.c≤nd
 id:∀p∈M,0≤p.id/\p.id≤1048576
structure EOk(b:Int)(E:Es):Prop where
 np:1<=E.np/\E.np<=6
 nd:0<=E.nd/\E.nd<=2
 m:MEn E.np E.nd E.M
 q:Qs 128 E.q
 s:At kS E.M E.q E.s
 t:At kT E.M E.q E.t
 h:At kH E.M E.q E.h
 p:At kP E.M E.q E.p
 d:At kD E.M E.q E.d
 es:0<=E.s.ev/\E.s.ev<=b
 et:0<=E.t.ev/\E.t.ev<=b
 eh:0<=E.h.ev/\E.h.ev<=b
 ep:0<=E.p.ev/\E.p.ev<=b
 ed:0<=E.d.ev/\E.d.ev<=b
theorem EOk.mono{b c:Int}{E:Es}(h:EOk b E)(hb:b<=c):EOk c E:={ h with es:=⟨h.es.1,by have:=h.es.2;omega⟩,et:=⟨h.et.1,by have:=h.et.2;omega⟩,eh:=⟨h.eh.1,by have:=h.eh.2;omega⟩,ep:=⟨h.ep.1,by have:=h.ep.2;omega⟩,ed:=⟨h.ed.1,by have:=h.ed.2;omega⟩ }
abbrev uN(k:Nat)(q:Rat):Ur:=[.ow (k+1) 0,sg q.num,mg q.num,sg (q.den:Int),mg (q.den:Int),.ow (k+2) 0,.ow (k+3) 0,.ow (k+4) 0,.ow (k+5) 0,.ow (k+6) 0]
abbrev taR(np nd:Int)(M:List Pt):Ur:=[.int .i64 np,.int .i64 nd,pts M]
abbrev bS(c:Cr)(M:List Pt)(q:Rat):OB:=.blk 196 (Hl c (U0 M) (pS M (tq q)))
abbrev bT(c:Cr)(M:List Pt)(q:Rat):OB:=.blk 199 (Te c (U0 M) (pP M (tq q)))
abbrev bH(c:Cr)(M:List Pt)(q:Rat):OB:=.blk 201 (Hl c (U0 M) (brH M (tq q)))
abbrev bP(c:Cr)(M:List Pt)(q:Rat):OB:=.blk 203 (Hl c (U0 M) (brP M (tq q)))
abbrev bD(c:Cr)(M:List Pt)(q:Rat):OB:=.blk 205 (Hl c (U0 M) (pT M (tq q)))
abbrev enB(k:Nat)(E:Es):Ut:=[.blk 88 (uN k E.q),.blk 158 (taR E.np E.nd E.M),bS E.s E.M E.q,bT E.t E.M E.q,bH E.h E.M E.q,bP E.p E.M E.q,bD E.d E.M E.q]
end Orr
namespace Orr
open Go Go.Proofs Tryz Orq
set_option maxRecDepth 10000
theorem YL{l:List Pt}{id:Int}(h:has l id=true):Rw l id<l.length:=by
 rcases Zb (Rw l id) l.length with h1|h1
 ·exact h1
 ·simp[has,Qw h1]at h
theorem UW{lx ly:Us}{px py:Um}{x y:LV}{d id:Int}{l:List Pt}(hx:IsInts lx px)(hy:IsInts ly py)(hd:Gd x y d)(hk:Cs 4294967294 1073741824 (Crv.mk px py d))(hl:l.length<=1000000)(h:has l id=true) :
 Uj 375 [.agg [pts l],.agg [.row lx,.row ly,x,y,.int .i64 id]] [.agg [pts (l.set (Rw l id) (Pt.mk (Crv.norm (Crv.mk px py d)) id))],.oi 0]:=by
 have ca:=Qft (l:=l) id (by omega);have cf:=lC hx hy hd hk id;obtain⟨b,r,rfl,rfl,_⟩:=hd;obtain⟨q,hq⟩:=nmE (Pt.mk (Crv.norm (Crv.mk px py d)) id);rw[<-hq]at cf ⊢;have hpl:=YL h;rw[h]at ca;have e:pts (l.set (Rw l id) q)=.row ((l.map Fc).set (Rw l id) (Fc q)):=by unfold pts;rw[List.map_set]
 rw[e];exact Ug func375 rfl [.k ca,.f rfl,.s (Sp l),.k cf,.i (Rw l id)] rfl rfl (by simp[U3];omega)
theorem UV{l:List Pt}{id:Int}(hl:l.length<=1000000)(h:has l id=true) :
 Uj 374 [.agg [pts l],.oi id] [.agg [pts (l.take (Rw l id)++l.drop (Rw l id+1))],.oi 0]:=by
 have ca:=Qft (l:=l) id (by omega);have hpl:=YL h;rw[h]at ca;have s1:∀c∈(l.map Fc).take (Rw l id),c.length=5:=λc hc=>Sp l c (Qo hc)
 have s3:∀c∈(l.map Fc).drop (Rw l id+1),c.length=5:=λc hc=>Sp l c (Qz hc)
 have e:pts (l.take (Rw l id)++l.drop (Rw l id+1))=.row ((l.map Fc).take (Rw l id)++(l.map Fc).drop (Rw l id+1)):=by unfold pts;rw[List.map_append,List.map_take,List.map_drop]
 rw[e];refine Ug func374 rfl [.k ca,.f rfl,.i (Rw l id),.s s1,.i (Rw l id+1),.s s3] rfl ?_ ?_
 ·simp
 ·have h1:(List.map Fc l).length=l.length:=by simp
  have h2:∀z∈List.map Fc l,z.length=ti41.sz:=Sp l;simp only[U3,Qq,Q7,h1]
  and_intros <;> first|exact h2|omega
theorem kU(l:Uo):(lm l).length=l.length:=by simp[lm]
theorem ZM{z:Int}:(Gb z.natAbs).length<=4↔Fe z<=128:=by
 constructor
 ·intro h;have h1:=Bv (Gb z.natAbs) (Do z.natAbs).1;rw[G9]at h1;refine Sw.2 (Z6 h1 (Qa (Zs (by decide) h) (by decide)))
 ·intro h;have:=Rm (x:=z.natAbs) (k:=128) h;omega
def ZZ(k:Crv):Bool:=(k.x++k.y++[k.d]).all λz=>decide (Fe z<=128)
theorem EN{k:Crv}:ZZ k=true↔(∀z∈k.x,Fe z≤128)/\(∀z∈k.y,Fe z≤128)/\Fe k.d≤128:=by
 unfold ZZ;simp only[List.all_append,Zn,Jt,decide_eq_true_iff,Qk,forall_eq];constructor
 ·rintro⟨⟨h1,h2⟩,h3⟩;exact⟨h1,h2,h3⟩
 ·rintro⟨h1,h2,h3⟩;exact⟨⟨h1,h2⟩,h3⟩
theorem WP{k:Crv}{z:Int}(hz:z∈k.x++k.y++[k.d])(h:¬Fe z<=128):ZZ k=false:=by
 unfold ZZ;rw[<-Bool.not_eq_true,Jt];intro h';exact h (of_decide_eq_true (h' z hz))
abbrev tB(np nd:Int)(l:List Pt):OB:=.blk 158 (taR np nd l)
theorem lO{np nd:Int}{l:List Pt}(id:Int)(hl:l.length<1073741824):U6 prog 80 [.one (.ow 0 0),.oi id] [tB np nd l] [.oi (Rw l id:Int),.one (.bool (has l id))] [tB np nd l]:=by
 refine Fv func80 rfl ?_;refine Ud [] rfl ?_;refine ct 2 (S:=Unit) (λ_=>[(1,.v (.oi id)),(0,.v (.one (.ow 0 0))),(6,.v (.oi (Rw l id:Int)))]) (λ_=>[tB np nd l]) (λ_=>True) rfl ?_ ?_
 ·refine Ui (S:=Nat) 1 (λL1 k=>(6,.v (.oi k))::L1) (λ_=>[tB np nd l]) (λk=>l.length-k) (λk=>k<=l.length/\∀j p,j<k->l[j]? = some p->p.id<id) 0 ⟨Qh _,λj p h=>by omega⟩ rfl rfl λk ⟨hk,hlt⟩=>?_
  by_cases h:k<l.length
  ·obtain⟨p,hp⟩:=gxE (l:=l) (i:=k) h;by_cases hid:p.id<id
   ·refine Ue [.t (by simp;omega),.x (Ti hp),.t (by simpa using hid)] rfl ?_;exact rd (k+1) (by omega) ⟨h,λj q hj hq=>by
     rcases Zb j k with h2|h2
     ·exact hlt j q h2 hq
     ·have:j=k:=by omega
      subst this;rw[hp]at hq;injection hq with hq;rw[<-hq];exact hid⟩ rfl
   ·have e:=EY hlt (.inr ⟨p,hp,hid⟩);refine Ud [.t (by simp;omega),.x (Ti hp),.f (by simpa using hid)] rfl ?_;rw[e];exact rc () trivial rfl
  ·obtain rfl:k=l.length:=by omega
   have e:=EY hlt (.inl rfl);refine Ud [.f (by simp),.f rfl] rfl ?_;rw[e];exact rc () trivial rfl
 ·intro _ _;by_cases h:Rw l id<l.length
  ·obtain⟨p,hp⟩:=gxE (l:=l) (i:=Rw l id) h;have e:has l id=decide (p.id=id):=by simp[has,hp]
   rw[e];exact Uh [] [0] [.g 36 true (by simp;omega),.x (Ti hp)] rfl
  ·have e:has l id=false:=by simp[has,Qw (J8 h)]
   rw[e];exact Uh [] [0] [.g 36 false (by simp;omega)] rfl
theorem HC{lx ly:Us}{px py:Um}{x y:LV}{d:Int}(hx:IsInts lx px)(hy:IsInts ly py)(hd:Gd x y d)(hk:Cs 4294967294 1073741824 (Crv.mk px py d))(id:Int):Uj 81 [.agg [.row lx,.row ly,x,y,.int .i64 id]] [.agg (Fc ⟨Crv.norm (Crv.mk px py d),id⟩)]:=by
 have cd:=Mn hd (Qa hk.d (by omega));by_cases h0:d=0
 ·subst h0;have ck:Cs 4294967294 1073741824 (Crv.mk px py 1):=⟨hk.x,hk.y,show Fe 1<=4294967294 by decide,hk.lx,hk.ly⟩;have cm:=UK hx hy (U4 1) ck (by decide);have e:Crv.norm (Crv.mk px py 1)=Crv.norm (Crv.mk px py 0):=by simp only[Crv.norm,Crv.g,Crv.d'];rfl
  rw[e]at cm;obtain⟨b,l,rfl,rfl,_⟩:=hd;exact Ug func81 rfl [.k cd,.k Dl,.t (by simp),.k (BF (z:=1) (by decide)),.k cm] rfl
 ·have cm:=UK hx hy hd hk h0;obtain⟨b,l,rfl,rfl,_⟩:=hd;exact Ug func81 rfl [.k cd,.k Dl,.f (by simpa using h0),.k cm] rfl
theorem mU{p:Pt}(hn:ZL p.c)(hk:Cs 4294967294 1073741824 p.c):Uj 81 [.agg (Fc p)] [.agg (Fc p)]:=by
 have h:=HC (Gg p.c.x) (Gg p.c.y) (U4 p.c.d) hk p.id;rw[show Crv.mk p.c.x p.c.y p.c.d=p.c from rfl,Crv.norm_of hn]at h;exact h
theorem Qge{k:Crv}(hk:Cs 4294967294 1073741824 k):Uj 176 [.agg (cl k)] [.one (.bool (ZZ k))]:=by
 have hlx:=hk.lx;have hly:=hk.ly;refine Fv func176 rfl ?_;refine Ud [] rfl ?_;refine Ui (S:=Nat) 1 (λL1 i=>(15,.v (.oi i))::L1) (λ_=>[.blk 39 (cl k)]) (λi=>3-i) (λi=>i≤3/\(0<i->∀z∈k.x,Fe z≤128)/\(1<i->∀z∈k.y,Fe z≤128)/\(2<i->Fe k.d≤128)) 0 ⟨by decide,by omega,by omega,by omega⟩ rfl rfl λi ⟨hi,g0,g1,g2⟩=>?_
 rcases(show i=0\/i=1\/i=2\/i=3 by omega)with rfl|rfl|rfl|rfl
 ·have hl:((k.x).map G8).length=(k.x).length:=by simp
  refine Ud [.t rfl,.i 0] rfl ?_ (by simp[U3]);refine Ui (S:=Nat) 1 (λL1 j=>(20,.v (.oi j))::L1) (λ_=>[.blk 39 (cl k)]) (λj=>(k.x).length-j) (λj=>j<=(k.x).length/\∀n z,n<j->(k.x)[n]? = some z->Fe z<=128) 0 ⟨Qh _,λn z h=>by omega⟩ rfl rfl λj ⟨hj,hs⟩=>?_
  by_cases h:j<(k.x).length
  ·obtain⟨z,hz⟩:=gxE (l:=(k.x)) (i:=j) h;by_cases hb:Fe z<=128
   ·have hb4:=ZM.2 hb;refine Ue [.t (by simp;omega),.x (G5 (f:=G8) hz),.f (by simp[kU];omega)] rfl ?_;exact rd (j+1) (by omega) ⟨h,λn y hn hy=>by
     rcases Zb n j with h2|h2
     ·exact hs n y h2 hy
     ·have:n=j:=by omega
      subst this;rw[hz]at hy;injection hy with hy;rw[<-hy];exact hb⟩ rfl
   ·have hb4:=mt ZM.1 hb;rw[WP (Qr.2 (.inl (Qr.2 (.inl (Qc hz))))) hb];exact Uf [.t (by simp;omega),.x (G5 (f:=G8) hz),.t (by simp[kU];omega)] rfl
  ·have hall:∀z∈k.x,Fe z≤128:=λz hz=>by
    obtain⟨n,hn⟩:=Xv hz;exact hs n z (by have:=(Qf.1 hn).1;omega) hn
   refine Ud [.f (by simp;omega)] rfl ?_ (by simp[U3]);exact rd 1 (by omega) ⟨by omega,λ_=>hall,by omega,by omega⟩ rfl
 ·have hl:((k.y).map G8).length=(k.y).length:=by simp
  refine Ud [.t rfl,.i 1] rfl ?_ (by simp[U3]);refine Ui (S:=Nat) 1 (λL1 j=>(20,.v (.oi j))::L1) (λ_=>[.blk 39 (cl k)]) (λj=>(k.y).length-j) (λj=>j<=(k.y).length/\∀n z,n<j->(k.y)[n]? = some z->Fe z<=128) 0 ⟨Qh _,λn z h=>by omega⟩ rfl rfl λj ⟨hj,hs⟩=>?_
  by_cases h:j<(k.y).length
  ·obtain⟨z,hz⟩:=gxE (l:=(k.y)) (i:=j) h;by_cases hb:Fe z<=128
   ·have hb4:=ZM.2 hb;refine Ue [.t (by simp;omega),.x (G5 (f:=G8) hz),.f (by simp[kU];omega)] rfl ?_;exact rd (j+1) (by omega) ⟨h,λn y hn hy=>by
     rcases Zb n j with h2|h2
     ·exact hs n y h2 hy
     ·have:n=j:=by omega
      subst this;rw[hz]at hy;injection hy with hy;rw[<-hy];exact hb⟩ rfl
   ·have hb4:=mt ZM.1 hb;rw[WP (Qr.2 (.inl (Qr.2 (.inr (Qc hz))))) hb];exact Uf [.t (by simp;omega),.x (G5 (f:=G8) hz),.t (by simp[kU];omega)] rfl
  ·have hall:∀z∈k.y,Fe z≤128:=λz hz=>by
    obtain⟨n,hn⟩:=Xv hz;exact hs n z (by have:=(Qf.1 hn).1;omega) hn
   refine Ud [.f (by simp;omega)] rfl ?_ (by simp[U3]);exact rd 2 (by omega) ⟨by omega,λ_=>g0 (by omega),λ_=>hall,by omega⟩ rfl
 ·have hl:(([k.d]).map G8).length=([k.d]).length:=by simp
  have h1:([k.d]).length=1:=rfl;refine Ud [.t rfl,.i 2] rfl ?_ (by simp[U3]);refine Ui (S:=Nat) 1 (λL1 j=>(20,.v (.oi j))::L1) (λ_=>[.blk 39 (cl k)]) (λj=>([k.d]).length-j) (λj=>j<=([k.d]).length/\∀n z,n<j->([k.d])[n]? = some z->Fe z<=128) 0 ⟨Qh _,λn z h=>by omega⟩ rfl rfl λj ⟨hj,hs⟩=>?_
  by_cases h:j<([k.d]).length
  ·obtain⟨z,hz⟩:=gxE (l:=([k.d])) (i:=j) h;by_cases hb:Fe z<=128
   ·have hb4:=ZM.2 hb;refine Ue [.t (by simp;omega),.x (G5 (f:=G8) hz),.f (by simp[kU];omega)] rfl ?_;exact rd (j+1) (by omega) ⟨h,λn y hn hy=>by
     rcases Zb n j with h2|h2
     ·exact hs n y h2 hy
     ·have:n=j:=by omega
      subst this;rw[hz]at hy;injection hy with hy;rw[<-hy];exact hb⟩ rfl
   ·have hb4:=mt ZM.1 hb;rw[WP (Qr.2 (.inr (Qc hz))) hb];exact Uf [.t (by simp;omega),.x (G5 (f:=G8) hz),.t (by simp[kU];omega)] rfl
  ·have hall:∀z∈[k.d],Fe z≤128:=λz hz=>by
    obtain⟨n,hn⟩:=Xv hz;exact hs n z (by have:=(Qf.1 hn).1;omega) hn
   refine Ud [.f (by simp;omega)] rfl ?_ (by simp[U3]);exact rd 3 (by omega) ⟨by omega,λ_=>g0 (by omega),λ_=>g1 (by omega),λ_=>hall k.d (by simp)⟩ rfl
 ·rw[EN.2 ⟨g0 (by omega),g1 (by omega),g2 (by omega)⟩];exact Uf [.f rfl] rfl
def XI(p:Pt):Bool:=decide (0<=p.id) && (decide (p.id<=1048576) && ZZ p.c)
theorem Qgk{p:Pt}(hk:Cs 4294967294 1073741824 p.c):Uj 127 [.agg (Fc p)] [.one (.bool (XI p))]:=by
 have cs:=Qge hk;by_cases h0:0<=p.id
 ·by_cases h1:p.id<=1048576
  ·have e:XI p=ZZ p.c:=by simp[XI,h0,h1]
   rw[e];exact Ug func127 rfl [.t (by simpa using h0),.t (by simpa using h1),.k cs] rfl
  ·have e:XI p=false:=by simp[XI,h1]
   rw[e];exact Ug func127 rfl [.t (by simpa using h0),.f (by simpa using h1)] rfl
 ·have e:XI p=false:=by simp[XI,h0]
  rw[e];exact Ug func127 rfl [.f (by simpa using h0),.f rfl] rfl
theorem Qfs{k:Crv}(hn:ZL k)(hk:Cs 4294967294 1073741824 k):Uj 94 [.agg (cl k)] [.oi (PS k)] :=
 Ug func94 rfl [.k (BN hn hk),.k (Mb k.x),.k (Mb k.y)] rfl
def M7(np nd:Int)(M:List Pt)(p:Pt):Int:=if XI p=false then 1 else if has M p.id=true then 6 else if nd<PS p.c then 7 else if np<=(M.length:Int)then 9 else 0
theorem Qt6{lx ly:Us}{px py:Um}{x y:LV}{d id np nd:Int}{l:List Pt}(hx:IsInts lx px)(hy:IsInts ly py)(hd:Gd x y d)(hk:Cs 4294967294 1073741824 (Crv.mk px py d))(hl:l.length<=1000000) :
 U6 prog 76 [.one (.ow 0 0),.agg [.row lx,.row ly,x,y,.int .i64 id]] [tB np nd l] [.oi (M7 np nd l (Pt.mk (Crv.norm (Crv.mk px py d)) id))] [tB np nd (if M7 np nd l (Pt.mk (Crv.norm (Crv.mk px py d)) id)=0 then put l (Pt.mk (Crv.norm (Crv.mk px py d)) id)else l)]:=by
 have cf:=HC hx hy hd hk id;have hkn:=hk.norm (by omega);have hnm:=Crv.nml (Crv.mk px py d);obtain⟨b,r,rfl,rfl,_⟩:=hd;obtain⟨q,hq⟩:=nmE (Pt.mk (Crv.norm (Crv.mk px py d)) id);have hqi:q.id=id:=by rw[hq]
 have hqc:q.c=Crv.norm (Crv.mk px py d):=by rw[hq]
 rw[<-hq]at cf ⊢;rw[<-hqc]at hkn hnm;have ca:U6 prog 80 [.one (.ow 0 0),.oi q.id] [tB np nd l] [.oi (Rw l id:Int),.one (.bool (has l id))] [tB np nd l]:=by rw[hqi];exact lO id (by omega)
 have cm:=Qgk (p:=q) hkn;have cd:=Qfs hnm hkn;have hpl:=yI l id;have hll:(l.map Fc).length=l.length:=by simp
 by_cases h0:XI q=false
 ·have e:M7 np nd l q=1:=by simp[M7,h0]
  rw[e,if_neg (by decide)];refine Fv func76 rfl ?_;exact Uh [] [0] [.k cf,.c [0] ca,.k cm,.t (by simp[h0])] rfl
 by_cases h1:has l id=true
 ·have e:M7 np nd l q=6:=by simp[M7,h0,hqi,h1]
  rw[e,if_neg (by decide)];refine Fv func76 rfl ?_;exact Uh [] [0] [.k cf,.c [0] ca,.k cm,.f (by simpa using h0),.t h1] rfl
 by_cases h2:nd<PS q.c
 ·have e:M7 np nd l q=7:=by simp[M7,h0,hqi,h1,h2]
  rw[e,if_neg (by decide)];refine Fv func76 rfl ?_;exact Uh [] [0] [.k cf,.c [0] ca,.k cm,.f (by simpa using h0),.f (by simpa using h1),.k cd,.t (by simpa using h2)] rfl
 by_cases h3:np<=(l.length:Int)
 ·have e:M7 np nd l q=9:=by simp[M7,h0,hqi,h1,h2,h3]
  rw[e,if_neg (by decide)];refine Fv func76 rfl ?_;exact Uh [] [0] [.k cf,.c [0] ca,.k cm,.f (by simpa using h0),.f (by simpa using h1),.k cd,.f (by simpa using h2),.t (by simp;omega)] rfl
 have e:M7 np nd l q=0:=by simp[M7,h0,hqi,h1,h2,h3]
 rw[e,if_pos rfl];have s1:∀c∈(l.map Fc).take (Rw l id),c.length=5:=λc hc=>Sp l c (Qo hc)
 have s3:∀c∈(l.map Fc).drop (Rw l id),c.length=5:=λc hc=>Sp l c (Qz hc)
 have ep:pts (put l q)=.row ((l.map Fc).take (Rw l id)++[Fc q]++(l.map Fc).drop (Rw l id)):=by
  simp[put,hqi,pts,Jv,Vh]
 have eB:tB np nd (put l q)=.blk 158 [.int .i64 np,.int .i64 nd,.row ((l.map Fc).take (Rw l id)++[Fc q]++(l.map Fc).drop (Rw l id))]:=by
  show OB.blk 158 [.int .i64 np,.int .i64 nd,pts (put l q)]=_;rw[ep]
 rw[eB];refine Fv func76 rfl ?_;exact Uh [2] [0] [.k cf,.c [0] ca,.k cm,.f (by simpa using h0),.f (by simpa using h1),.k cd,.f (by simpa using h2),.f (by simp;omega),.i (Rw l id),.s s1,.i (Rw l id),.s s3] rfl (by
  simp only[U3,Qu,Q5,Xk,Qq,Q7,hll]
  and_intros <;> first|exact Sp l|omega)
def Nb(nd:Int)(M:List Pt)(p:Pt):Int:=if XI p=false then 1 else if has M p.id=false then 5 else if nd<PS p.c then 7 else 0
theorem Qn4{lx ly:Us}{px py:Um}{x y:LV}{d id np nd:Int}{l:List Pt}(hx:IsInts lx px)(hy:IsInts ly py)(hd:Gd x y d)(hk:Cs 4294967294 1073741824 (Crv.mk px py d))(hl:l.length<=1000000) :
 U6 prog 86 [.one (.ow 0 0),.agg [.row lx,.row ly,x,y,.int .i64 id]] [tB np nd l] [.oi (Nb nd l (Pt.mk (Crv.norm (Crv.mk px py d)) id))] [tB np nd (if Nb nd l (Pt.mk (Crv.norm (Crv.mk px py d)) id)=0 then l.set (Rw l id) (Pt.mk (Crv.norm (Crv.mk px py d)) id)else l)]:=by
 have cf:=HC hx hy hd hk id;have hkn:=hk.norm (by omega);have hnm:=Crv.nml (Crv.mk px py d);obtain⟨b,r,rfl,rfl,_⟩:=hd;obtain⟨q,hq⟩:=nmE (Pt.mk (Crv.norm (Crv.mk px py d)) id);have hqi:q.id=id:=by rw[hq]
 have hqc:q.c=Crv.norm (Crv.mk px py d):=by rw[hq]
 rw[<-hq]at cf ⊢;rw[<-hqc]at hkn hnm;have ca:U6 prog 80 [.one (.ow 0 0),.oi q.id] [tB np nd l] [.oi (Rw l id:Int),.one (.bool (has l id))] [tB np nd l]:=by rw[hqi];exact lO id (by omega)
 have cm:=Qgk (p:=q) hkn;have cd:=Qfs hnm hkn;have hpl:=yI l id;have hll:(l.map Fc).length=l.length:=by simp
 by_cases h0:XI q=false
 ·have e:Nb nd l q=1:=by simp[Nb,h0]
  rw[e,if_neg (by decide)];refine Fv func86 rfl ?_;exact Uh [] [0] [.k cf,.c [0] ca,.k cm,.t (by simp[h0])] rfl
 by_cases h1:has l id=false
 ·have e:Nb nd l q=5:=by simp[Nb,h0,hqi,h1]
  rw[e,if_neg (by decide)];refine Fv func86 rfl ?_;exact Uh [] [0] [.k cf,.c [0] ca,.k cm,.f (by simpa using h0),.t (by simp[h1])] rfl
 by_cases h2:nd<PS q.c
 ·have e:Nb nd l q=7:=by simp[Nb,h0,hqi,h1,h2]
  rw[e,if_neg (by decide)];refine Fv func86 rfl ?_;exact Uh [] [0] [.k cf,.c [0] ca,.k cm,.f (by simpa using h0),.f (by simpa using h1),.k cd,.t (by simpa using h2)] rfl
 have e:Nb nd l q=0:=by simp[Nb,h0,hqi,h1,h2]
 rw[e,if_pos rfl];have hh:has l id=true:=by simpa using h1
 have hps:=YL hh;have eB:tB np nd (l.set (Rw l id) q)=.blk 158 [.int .i64 np,.int .i64 nd,.row ((l.map Fc).set (Rw l id) (Fc q))]:=by
  show OB.blk 158 [.int .i64 np,.int .i64 nd,pts (l.set (Rw l id) q)]=_;unfold pts;rw[List.map_set]
 rw[eB];refine Fv func86 rfl ?_;exact Uh [2] [0] [.k cf,.c [0] ca,.k cm,.f (by simpa using h0),.f (by simpa using h1),.k cd,.f (by simpa using h2),.s (Sp l),.i (Rw l id)] rfl (by
  simp only[U3,hll]
  and_intros <;> first|exact Sp l|omega)
theorem Qn3{id np nd:Int}{l:List Pt}(hl:l.length<=1000000)(h:has l id=true) :
 U6 prog 87 [.one (.ow 0 0),.oi id] [tB np nd l] [.oi 0] [tB np nd (l.take (Rw l id)++l.drop (Rw l id+1))]:=by
 have ca:=lO (np:=np) (nd:=nd) (l:=l) id (by omega);have hpl:=YL h;rw[h]at ca;have hll:(l.map Fc).length=l.length:=by simp
 have s1:∀c∈(l.map Fc).take (Rw l id),c.length=5:=λc hc=>Sp l c (Qo hc)
 have s3:∀c∈(l.map Fc).drop (Rw l id+1),c.length=5:=λc hc=>Sp l c (Qz hc)
 have eB:tB np nd (l.take (Rw l id)++l.drop (Rw l id+1))=.blk 158 [.int .i64 np,.int .i64 nd,.row ((l.map Fc).take (Rw l id)++(l.map Fc).drop (Rw l id+1))]:=by
  show OB.blk 158 [.int .i64 np,.int .i64 nd,pts (l.take (Rw l id)++l.drop (Rw l id+1))]=_;unfold pts;rw[List.map_append,List.map_take,List.map_drop]
 rw[eB];refine Fv func87 rfl ?_;exact Uh [1] [0] [.c [0] ca,.f rfl,.i (Rw l id),.s s1,.i (Rw l id+1),.s s3] rfl (by
  simp only[U3,Qu,Q5,Xk,Qq,Q7,hll]
  and_intros <;> first|exact Sp l|omega)
theorem Qgi{id np nd:Int}{l:List Pt}(hl:l.length<=1000000)(h:has l id=false) :
 U6 prog 87 [.one (.ow 0 0),.oi id] [tB np nd l] [.oi 5] [tB np nd l]:=by
 have ca:=lO (np:=np) (nd:=nd) (l:=l) id (by omega);rw[h]at ca;refine Fv func87 rfl ?_;exact Uh [] [0] [.c [0] ca,.t rfl] rfl
theorem Qgg{np nd:Int}{l:List Pt}(hok:∀p∈l,Qax 4294967294 1073741824 p)(hl:l.length≤1000000):U6 prog 41 [.one (.ow 0 0)] [tB np nd l] [.one (pts l)] [tB np nd l]:=by
 have hll:(l.map Fc).length=l.length:=by simp
 refine Fv func41 rfl ?_;refine Ud [.o 3 41 5] rfl ?_;refine Ui (S:=Nat) 2 (λL1 i=>(11,.v (.oi i))::(3,.v (.one (.orow 1 5 none)))::L1) (λi=>[tB np nd l,.row false 41 5 ((l.take i).map Fc)]) (λi=>l.length-i) (λi=>i<=l.length) 0 (Qh _) rfl rfl λi hi=>?_
 by_cases h:i<l.length
 ·obtain⟨p,hp⟩:=gxE (l:=l) (i:=i) h;have hpo:=hok p (Qc hp);have cf:=mU hpo.1 hpo.2;have s2:∀c∈[Fc p],c.length=5:=λc hc=>by rw[Qk.1 hc];rfl
  have hg:(l.take (i+1)).map Fc=(l.take i).map Fc++[Fc p]:=by rw[Zv,hp];simp
  refine Ue [.t (by simp;omega),.x (Ti hp),.k cf,.s s2] rfl ?_;exact rd (i+1) (by omega) h (by rw[hg];rfl)
 ·obtain rfl:i=l.length:=by omega
  rw[Q6];exact Uh [1] [0] [.f (by simp)] rfl
theorem Qgh{np nd:Int}{l:List Pt}:U6 prog 50 [.one (.ow 0 0)] [tB np nd l] [.one (.ow 1 0)] [tB np nd l,tB np nd l]:=by
 refine Fv func50 rfl ?_;exact Uh [] [0,1] [] rfl
end Orr
