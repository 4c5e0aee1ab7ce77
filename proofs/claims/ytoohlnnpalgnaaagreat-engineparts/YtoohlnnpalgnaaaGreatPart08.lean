/- H1 HullQ HullS HullT PairQ PW1 DigL R1 R2 S2 S3 NewsN PW2 TouL TouQ MeshN EnL PartL KT EnS SD1 -/
import Derived.Test.YtoohlnnpalgnaaaGreatPart07
import Derived.Test.YtoohlnnpalgnaaaGreatPart05
import Derived.Test.YtoohlnnpalgnaaaGreatPart00
import Derived.Test.YtoohlnnpalgnaaaGreatPart04
set_option linter.all false
namespace Orr
open Go Go.Proofs Tryz Orq
set_option maxRecDepth 10000
theorem gz{P:Program}[Mo P]{n:Nat}{Q:Exit->Sg->Uv->Prop}{L L':Sg}{B B':Uv}(i:Nat){it:List It}(hs:Rm it=true)(h:Qc9 [i] L B=some (L',B'))(k:AK P n Q it L' B'):AK P n Q it L B:=AK.sub (FO h) hs k
theorem EU{r:Up}{i:Nat}{p:Uo}(h:r[i]? = some p):(JG r)[i]? = some [pl p]:=Gx h
theorem E7{l:List Up}{i:Nat}{r:Up}(h:l[i]? = some r):(Ik l)[i]? = some [.row (JG r)]:=Gx h
theorem Qem{r:Up}(ht:∀p∈r,Fe p)(hb:∀p∈r,Bd 1000000 p)(hl:∀p∈r,p.length≤1000000)(hn:r.length≤1000):Ul 277 [.one (.row (JG r))] [.one (.row (JG r))]:=by
 have hrl:(JG r).length=r.length:=by simp
 refine Fv func277 rfl ?_;refine Uf [.o 3 33 1] rfl ?_;refine Uk (S:=Nat) 1 (λL1 i=>(8,.v (.oi i))::(3,.v (.one (.orow 0 1 none)))::L1) (λi=>[.row false 33 1 (JG (r.take i))]) (λi=>r.length-i) (λi=>i<=r.length) 0 (Qh _) rfl rfl λi hi=>?_
 by_cases h:i<r.length
 ·obtain⟨p,hp⟩:=gxE (l:=r) (i:=i) h;have hm:=Qa hp;have hs:∀y∈[[pl p]],y.length=1:=λy hy=>by rw[Qk.1 hy];rfl
  have e:JG (r.take (i+1))=JG (r.take i)++[[pl p]]:=by rw[Z1,hp];simp
  refine go tt [.T,.x (EU hp),.k (Hr (ht p hm) (by have:=hl p hm;omega) (U5 (hb p hm) (by decide))),.s (sz:=1) hs] rfl (by simp[U3] <;> omega) ?_;exact rd (i+1) (by omega) h (by rw[e];rfl)
 ·obtain rfl:i=r.length:=by omega
  rw[Q7];exact Uh [.F] rfl
theorem Qx5{s k w:Nat}{ds:Uq}{rows:List Up}(h:Sq s ds k k rows)(_hw:w=k)(hk:k<=4):Ul 315 [.one (.row (Ik rows))] [.one (.bool true)]:=by
 have hrl:=YL rows;have hl:=h.l;refine Fv func315 rfl ?_;refine Uf [] rfl ?_;refine Uk (S:=Nat) 0 (λL1 i=>(7,.v (.oi i))::L1) (λ_=>[]) (λi=>rows.length-i) (λi=>i<=rows.length) 0 (Qh _) rfl rfl λi hi=>?_
 by_cases hlt:i<rows.length
 ·obtain⟨r,hr⟩:=gxE (l:=rows) (i:=i) hlt;have hw:=h.w r (Qa hr);have hql:(JG r).length=r.length:=by simp
  refine go tt [.T,.x (E7 hr),.f (decide_eq_false (λh=>h (by omega)))] rfl (by simp[U3] <;> omega) ?_;exact rd (i+1) (by omega) hlt rfl
 ·exact Uh [.F] rfl (by rw[decide_eq_true (by omega:((Ik rows).length:Int)<=4)]) trivial
theorem Qnr{s k w:Nat}{ds:Uq}{rows:List Up}(h:Sq s ds k w rows)(hs:s<=1000000)(hk:k<=4)(hw:w<=4)(hd:∀j,ds.getD j 0<=1000)(i:Nat):Ul 337 [.oi i,.oi 0,.one (.row (Ik rows))] [.one (.row (Ik (VH rows i)))]:=by
 have hrl:=YL rows;have hl:=h.l;have hml:∀j,j<=rows.length->(Ik (XA i rows j)).length<=4:=λj hj=>by
  rw[YL,LQ];split <;> omega
 refine Fv func337 rfl ?_;refine Uf [.o 7 340 1] rfl ?_;refine Uk (S:=Nat) 1 (λL1 j=>(15,.v (.oi j))::(7,.v (.one (.orow 0 1 none)))::L1) (λj=>[.row false 340 1 (Ik (XA i rows j))]) (λj=>rows.length-j) (λj=>j<=rows.length) 0 (Qh _) rfl rfl λj hj=>?_
 have hmlj:=hml j hj;by_cases hlt:j<rows.length
 ·obtain⟨r,hr⟩:=gxE (l:=rows) (i:=j) hlt;have hm:=Qa hr;have hw:=h.w r hm;have hql:(JG r).length=r.length:=by simp
  by_cases hij:j=i
  ·have e:XA i rows (j+1)=XA i rows j:=by simp only[XA];rw[if_pos hij]
   refine go tt [.T,.x (E7 hr),.T] rfl (by simp[U3] <;> omega) ?_;exact rd (j+1) (by omega) hlt (by rw[e];rfl)
  ·have e:XA i rows (j+1)=XA i rows j++[r.drop 1]:=by
    simp only[XA];rw[if_neg hij,Qi,hr];rfl
   refine Uf [.T,.x (E7 hr),.F,.o 10 33 1] rfl ?_ (by simp[U3]);refine Uk (S:=Nat) 2 (λL1 c=>(25,.v (.oi c))::(10,.v (.one (.orow 1 1 none)))::L1) (λc=>[.row false 340 1 (Ik (XA i rows j)),.row false 33 1 (JG ((r.take c).drop 1))]) (λc=>r.length-c) (λc=>c<=r.length) 0 (Qh _) rfl rfl λc hc=>?_
   by_cases hcl:c<r.length
   ·obtain⟨p,hp⟩:=gxE (l:=r) (i:=c) hcl;have hpm:=Qa hp;by_cases h0:c=0
    ·subst h0;refine Uf [.T,.x (EU hp),.f (decide_eq_false (by simp))] rfl ?_ (by simp[U3]);exact rd 1 (by omega) hcl (by rw[Z1,hp];rfl)
    ·have hs1:∀y∈[[pl p]],y.length=1:=λy hy=>by rw[Qk.1 hy];rfl
     have e2:JG ((r.take (c+1)).drop 1)=JG ((r.take c).drop 1)++[[pl p]]:=by
      rw[Z1,hp,Wg (by rw[Qr];omega)];simp
     refine go tt [.T,.x (EU hp),.T,.k (Hr (h.t r hm p hpm) (by have:=h.n r hm c p hp;have:=hd c;omega) (U5 (h.b r hm p hpm) (by omega))),.s (sz:=1) hs1] rfl (by simp[U3] <;> omega) ?_;exact rd (c+1) (by omega) hcl (by rw[e2];rfl)
   ·obtain rfl:c=r.length:=by omega
    rw[Q7];have hs1:∀y∈[[LV.row (JG (r.drop 1))]],y.length=1:=λy hy=>by rw[Qk.1 hy];rfl
    refine Uf [.F] rfl ?_;refine gz 1 rfl rfl ?_;refine go tt [.s (sz:=1) hs1] rfl (by simp[U3] <;> omega) ?_;exact rd (j+1) (by omega) hlt (by rw[e];simp[Ik];rfl)
 ·obtain rfl:j=rows.length:=by omega
  exact Uh [.F] rfl
theorem SJ:∀(ds:Uq) (j:Nat),ds.getD j 0<=ds.sum
 | [],j=>by simp
 |d::ds,0=>by simp
 |
  d::ds,j+1=>by
  have:=SJ ds j;rw[Ku];show ds.getD j 0<=_;omega
theorem Qrx{s:Nat}(hs:s<=100000):∀(k:Nat) (ds:Uq) (rows:List Up),k<=4->ds.length=k->ds.sum<31->Sq s ds k k rows->Ul 316 [.one (.row (Ik rows))] [pr (Lo k rows)]
 |
  0,ds,rows,_,_,_,h=>by
  have e:=Qj h.l;subst e;have co:=lG (p:=[1]) (by decide) (by decide);exact Ui func316 rfl [.t rfl,.k co] rfl
 |k+1,[],_,_,hl,_,_=>by simp at hl
 |
  k+1,d::ds,rows,hk,hl,hd,h=>by
  rw[Ku]at hd;have hl':ds.length=k:=by simpa using hl
  have hrl:=YL rows;have hrn:=h.l;have hmin:=λi (hi:i<k+1)=>h.min hi
  have ih:=λi (hi:i<k+1)=>Qrx hs k ds (VH rows i) (by omega) hl' (by omega) (hmin i hi)
  have hok:=λi (hi:i<k+1)=>MA k ds (VH rows i) (by omega) hl' (by omega) (hmin i hi)
  have hb:k*(s+10)+1<=500000:=by
   have:k*(s+10)<=4*(100010):=Zd (by omega) (by omega);omega
  have hds:=jV (f:=λi=>Lo k (VH rows i)) (B:=k*(s+10)+1) (L:=ds.sum) h (by omega) (λi hi=>⟨(hok i hi).2.1,(hok i hi).2.2⟩);have cm:=Qnr h (by omega) hk hk (λj=>by have:=SJ (d::ds) j;rw[Ku]at this;omega);show Ul 316 [.one (.row (Ik rows))] [pr (Dm (λi=>Lo k (VH rows i)) rows (k+1))];obtain⟨f,hf⟩:=nmE (λi=>Lo k (VH rows i));rw[<-hf]at hds ⊢;have hfi:∀i,f i=Lo k (VH rows i):=λi=>by rw[hf]
  refine Fv func316 rfl ?_;refine Uf [.F,.z 3] rfl ?_;refine Uk (S:=Nat) 0 (λL1 i=>(14,.v (.oi i))::(3,.v (pr (Dm f rows i)))::L1) (λ_=>[]) (λi=>k+1-i) (λi=>i<=k+1) 0 (Qh _) rfl rfl λi hi=>?_
  obtain⟨d1,d2,d3⟩:=hds i hi;by_cases hlt:i<k+1
  ·obtain⟨p,r,hr,e,t,b,l⟩:=h.at hlt;have hx0:(JG (p::r))[0]? = some [pl p]:=rfl;have hpl:(p.map Hg).length=p.length:=by simp
   have cn:=Hr t (by omega) (U5 b (by omega));by_cases h0:p.length=0
   ·have es:Dm f rows (i+1)=Dm f rows i:=by simp only[Dm];rw[e,if_pos h0]
    refine go tt [.T,.x (E7 hr),.x hx0,.k cn,.T] rfl (by simp[U3] <;> omega) ?_;exact rd (i+1) (by omega) hlt (by rw[es];rfl)
   ·obtain⟨k1,k2,k3⟩:=hok i hlt;have ci:=ih i hlt;have cp:=KU (p:=p) (q:=f i) t (by rw[hfi];exact k1) (by omega) (by rw[hfi];omega) b (by rw[hfi];exact k2) (by omega);have hmb:Bd (s+(k*(s+10)+1)+5) (Gl p (f i)):=Pi b (by rw[hfi];exact k2) (by omega);have hml:=Tx p (f i);have hfl:(f i).length<=ds.sum+1:=by rw[hfi];exact k3
    rw[<-hfi]at ci;by_cases h2:i % 2=0
    ·have es:Dm f rows (i+1)=A5 (Dm f rows i) (Gl p (f i)):=by simp only[Dm];rw[e,if_neg h0,if_pos h2]
     refine go tt [.T,.x (E7 hr),.x hx0,.k cn,.F,.x hx0,.k (cm i),.k ci,.k cp,.r 34 (eI (b:=((i % 2:Nat):Int)) rfl),.T,.k (BW (p:=Dm f rows i) (q:=Gl p (f i)) (by omega) (by omega) (U5 d2 (by omega)) (U5 hmb (by omega)))] rfl (by simp[U3] <;> omega) ?_;exact rd (i+1) (by omega) hlt (by rw[es];rfl)
    ·have es:Dm f rows (i+1)=Na (Dm f rows i) (Gl p (f i)):=by simp only[Dm];rw[e,if_neg h0,if_neg h2]
     refine go tt [.T,.x (E7 hr),.x hx0,.k cn,.F,.x hx0,.k (cm i),.k ci,.k cp,.r 34 (eI (b:=((i % 2:Nat):Int)) rfl),.F,.k (HW (p:=Dm f rows i) (q:=Gl p (f i)) (by omega) (by omega) (U5 d2 (by omega)) (U5 hmb (by omega)))] rfl (by simp[U3] <;> omega) ?_;exact rd (i+1) (by omega) hlt (by rw[es];rfl)
  ·obtain rfl:i=k+1:=by omega
   exact Uh [.F] rfl
theorem Qrr{s:Nat}(hs:s<=100000){k:Nat}{ds:Uq}{rows:List Up}(hk:k<=4)(hl:ds.length=k)(hd:ds.sum<31)(h:Sq s ds k k rows):Ul 278 [.one (.row (Ik rows))] [pr (Lo k rows),.oi 0] :=
 Ui func278 rfl [.k (Qx5 h rfl hk),.f rfl,.k (Qrx hs k ds rows hk hl hd h)] rfl
theorem mY{k:Crv}(hk:Sc k):Ul 276 [.agg (cl k)] [.one (.row (JG [k.x,k.y,[k.d]]))]:=by
 have h0:k.d≠0:=by have:=hk.n.2.2.1;omega
 have td:Fe [k.d]:=by unfold Fe;simp[trim,h0]
 have cd:=Qem (r:=[k.x,k.y,[k.d]]) (λp hp=>by
  rcases Ql.1 hp with rfl|hp
  ·exact hk.n.1
  rcases Ql.1 hp with rfl|hp
  ·exact hk.n.2.1
  ·rw[Qk.1 hp];exact td) (λp hp=>by
  rcases Ql.1 hp with rfl|hp
  ·exact U5 hk.c.x (by decide)
  rcases Ql.1 hp with rfl|hp
  ·exact U5 hk.c.y (by decide)
  ·rw[Qk.1 hp];intro z hz;rw[Qk.1 hz];exact Qc hk.c.d (by decide)) (λp hp=>by
  rcases Ql.1 hp with rfl|hp
  ·have:=hk.c.lx;omega
  rcases Ql.1 hp with rfl|hp
  ·have:=hk.c.ly;omega
  ·rw[Qk.1 hp];show 1<=1000000;decide) (by show 3<=1000;decide)
 exact Ui func276 rfl [.k (Dw hk.n (hk.c.mono (by decide) (by decide))),.k cd] rfl
theorem tI{a b c:Crv}(ha:Sc a)(hb:Sc b)(hc:Sc c):Sq 128 [2,2,0] 3 3 (hZ a b c):=by
 have key:∀k:Crv,Sc k->(∀p∈[k.x,k.y,[k.d]],Fe p/\Bd 128 p)/\∀(j:Nat) (p:Uo),[k.x,k.y,[k.d]][j]? = some p->p.length≤[2,2,0].getD j 0+1:=λk hk=>by
  have h0:k.d≠0:=by have:=hk.n.2.2.1;omega
  have td:Fe [k.d]:=by unfold Fe;simp[trim,h0]
  refine⟨λp hp=>?_,λj p hp=>?_⟩
  ·rcases Ql.1 hp with rfl|hp
   ·exact⟨hk.n.1,hk.c.x⟩
   rcases Ql.1 hp with rfl|hp
   ·exact⟨hk.n.2.1,hk.c.y⟩
   ·rw[Qk.1 hp];exact⟨td,λz hz=>by rw[Qk.1 hz];exact hk.c.d⟩
  ·match j,hp with
   | 0,hp=>injection hp with hp;subst hp;exact hk.c.lx
   | 1,hp=>injection hp with hp;subst hp;exact hk.c.ly
   | 2,hp=>injection hp with hp;subst hp;exact Qm _
   |j+3,hp=>simp at hp
 have hr:∀r∈hZ a b c,∃k:Crv,Sc k/\r=[k.x,k.y,[k.d]]:=λr hr=>by
  rcases Ql.1 hr with rfl|hr
  ·exact⟨a,ha,rfl⟩
  rcases Ql.1 hr with rfl|hr
  ·exact⟨b,hb,rfl⟩
  ·rw[Qk.1 hr];exact⟨c,hc,rfl⟩
 refine⟨rfl,λr h=>?_,λr h p hp=>?_,λr h p hp=>?_,λr h j p hp=>?_⟩
 all_goals obtain⟨k,hk,rfl⟩:=hr r h
 ·rfl
 ·exact((key k hk).1 p hp).1
 ·exact((key k hk).1 p hp).2
 ·exact(key k hk).2 j p hp
theorem YV{a b c:Crv}(ha:Sc a)(hb:Sc b)(hc:Sc c):Cp (Hi a b c):=by
 obtain⟨h1,h2,h3⟩:=MA 3 [2,2,0] (hZ a b c) (by decide) rfl (by decide) (tI ha hb hc);exact⟨h1,Qc h3 (by decide),U5 h2 (by decide)⟩
theorem wK{a b c:Crv}(ha:Sc a)(hb:Sc b)(hc:Sc c):Ul 237 [.agg (cl a),.agg (cl b),.agg (cl c)] [pr (Hi a b c)]:=by
 have cd:=Qrr (by decide) (k:=3) (ds:=[2,2,0]) (by decide) rfl (by decide) (tI ha hb hc);exact Ui func237 rfl [.k (mY ha),.k (mY hb),.k (mY hc),.k cd] rfl
end Orr
namespace Orq
open Orr Go
theorem sK{p q:Uo}(tp:Fe p)(tq:Fe q)(h:∀i,p.getD i 0=q.getD i 0):p=q:=by
 have hl:∀{p q:Uo},Fe p->(∀i,p.getD i 0=q.getD i 0)->p.length<=q.length:=λ{p q} tp h=>by
  refine Nat.not_lt.1 λhn=>?_
  have h1:=H9 tp (by omega);rw[h,Qi,Qu (by omega)]at h1;exact h1 rfl
 have e:=Kb (hl tp h) (hl tq λi=>(h i).symm);refine List.ext_getElem e λi h1 h2=>?_
 have:=h i;rw[Qi,Qi,Qf h1,Qf h2]at this;exact this
theorem fJ{p:Uo}(h:p=[])(i:Nat):p.getD i 0=0:=by rw[h];simp
theorem Ep(p:Uo)(c:Int)(i:Nat):(Fu p c).getD i 0=p.getD i 0*c:=by
 unfold Fu;rw[S9]
 split
 ·rfl
 ·rename_i h;rw[Qi,Qu (by omega)];simp
theorem EV(p q:Uo)(i:Nat):(Na p q).getD i 0=p.getD i 0-q.getD i 0:=by
 unfold Na;rw[S9]
 split
 ·rfl
 ·rename_i h;rw[Qi,Qi,Qu (by omega),Qu (by omega)];simp
theorem Qpi{x y:Crv}(hx:ZC x)(hy:ZC y)(h1:Gn x y=[])(h2:Gm x y=[]):x=y:=by
 have e1:∀i,y.x.getD i 0*x.d=x.x.getD i 0*y.d:=λi=>by
  have:=fJ h1 i;unfold Gn at this;rw[EV,Ep,Ep]at this;omega
 have e2:∀i,y.y.getD i 0*x.d=x.y.getD i 0*y.d:=λi=>by
  have:=fJ h2 i;unfold Gm at this;rw[EV,Ep,Ep]at this;omega
 have key:∀{x y:Crv},ZC x->ZC y->(∀i,y.x.getD i 0*x.d=x.x.getD i 0*y.d)->(∀i,y.y.getD i 0*x.d=x.y.getD i 0*y.d)->x.d∣y.d:=λ{x y} hx hy e1 e2=>by
  have hd:=uS (d:=x.d) (l:=(x.d::(x.x++x.y)).map (· * y.d)) λz hz=>by
   obtain⟨w,hw,rfl⟩:=Q9.1 hz;rcases Ql.1 hw with rfl|hw
   ·exact Int.dvd_mul_right _ _
   ·rcases Qp.1 hw with hw|hw
    ·obtain⟨i,hi,rfl⟩:=V0.1 hw;have:=e1 i;rw[show x.x.getD i 0=x.x[i] from by rw[Qi,Qf hi];rfl]at this;rw[<-this];exact Vb _ _
    ·obtain⟨i,hi,rfl⟩:=V0.1 hw;have:=e2 i;rw[show x.y.getD i 0=x.y[i] from by rw[Qi,Qf hi];rfl]at this;rw[<-this];exact Vb _ _
  rw[Qhw,hx.2.2.2,Wn]at hd;exact V5 hd (Int.natAbs_dvd.2 (K7 _))
 have hd:x.d=y.d:=Int.dvd_antisymm (Int.le_of_lt hx.2.2.1) (Int.le_of_lt hy.2.2.1) (key hx hy e1 e2) (key hy hx (λi=>(e1 i).symm) λi=>(e2 i).symm);have hd0:y.d≠0:=by have:=hy.2.2.1;omega
 rw[hd]at e1 e2;have ex:x.x=y.x:=sK hx.1 hy.1 λi=>(Y5 hd0 (e1 i)).symm
 have ey:x.y=y.y:=sK hx.2.1 hy.2.1 λi=>(Y5 hd0 (e2 i)).symm
 cases x;cases y;simp only at hd ex ey;rw[hd,ex,ey]
theorem Qq4(l:List Pt):(H7 l).Pairwise λx y=>x.c≠y.c:=by
 have key:∀(l out:List Pt),out.Pairwise (λx y=>x.c≠y.c)->(l.foldl Ph out).Pairwise λx y=>x.c≠y.c:=by
  intro l
  induction l with
  |nil=>intro out h;exact h
  |
   cons p l ih =>
   intro out h;refine ih _ ?_;unfold Ph
   split
   ·exact h
   ·rename_i hn;refine Z4.2 ⟨h,Kl _ _,λa ha b hb e=>hn ?_⟩;rw[Qk.1 hb]at e;rw[List.any_eq_true];exact⟨a,ha,by rw[<-e];simp[La]⟩
 exact key l [] .nil
theorem AY(l:List Pt):(H7 l).Sublist l:=by
 have key:∀(l out o:List Pt),out.Sublist o->(l.foldl Ph out).Sublist (o++l):=by
  intro l
  induction l with
  |nil=>intro out o h;rw[Zv];exact h
  |
   cons p l ih =>
   intro out o h;have:(Ph out p).Sublist (o++[p]):=by
    unfold Ph
    split
    ·exact h.trans (List.sublist_append_left _ _)
    ·exact h.append (List.Sublist.refl _)
   have:=ih _ _ this;rwa[Ze]at this
 exact key l [] [] (List.Sublist.refl _)
theorem Oo(f:Nat->Uo)(rows:List Up)(q:Rat)(i:Nat):U8 (Dm f rows (i+1)) q=U8 (Dm f rows i) q+(if i % 2=0 then 1 else -1)*(U8 ((rows.getD i []).getD 0 []) q*U8 (f i) q):=by
 simp only[Dm]
 split
 ·rename_i h;have:U8 ((rows.getD i []).getD 0 []) q=0:=by rw[Qj h];rfl
  rw[this];grind
 ·split
  ·rw[LC,Gk];grind
  ·rw[No,Gk];grind
theorem oY(z:Int)(q:Rat):U8 [z] q=(z:Rat):=by simp[U8,Rat.add_zero]
theorem rK(p:Uo)(q:Rat):U8 (Lo 1 [[p]]) q=U8 p q:=by
 show U8 (Dm (λi=>Lo 0 (VH [[p]] i)) [[p]] (0+1)) q=_;rw[Oo];show(0:Rat)+1*(U8 p q*U8 [1] q)=_;rw[oY];have:((1:Int):Rat)=1:=rfl;grind
theorem LN(p r s t:Uo)(q:Rat):U8 (Lo 2 [[p,r],[s,t]]) q=U8 p q*U8 t q-U8 s q*U8 r q:=by
 show U8 (Dm (λi=>Lo 1 (VH [[p,r],[s,t]] i)) [[p,r],[s,t]] (0+1+1)) q=_;rw[Oo,Oo];show(0:Rat)+1*(U8 p q*U8 (Lo 1 [[t]]) q)+(-1)*(U8 s q*U8 (Lo 1 [[r]]) q)=_;rw[rK,rK];grind
theorem Qjq(a1 a2 a3 b1 b2 b3 c1 c2 c3:Uo)(q:Rat):U8 (Lo 3 [[a1,a2,a3],[b1,b2,b3],[c1,c2,c3]]) q=U8 a1 q*(U8 b2 q*U8 c3 q-U8 c2 q*U8 b3 q)-U8 b1 q*(U8 a2 q*U8 c3 q-U8 c2 q*U8 a3 q)+U8 c1 q*(U8 a2 q*U8 b3 q-U8 b2 q*U8 a3 q):=by
 show U8 (Dm (λi=>Lo 2 (VH [[a1,a2,a3],[b1,b2,b3],[c1,c2,c3]] i)) [[a1,a2,a3],[b1,b2,b3],[c1,c2,c3]] (0+1+1+1)) q=_;rw[Oo,Oo,Oo];show(0:Rat)+1*(U8 a1 q*U8 (Lo 2 [[b2,b3],[c2,c3]]) q)+(-1)*(U8 b1 q*U8 (Lo 2 [[a2,a3],[c2,c3]]) q)+1*(U8 c1 q*U8 (Lo 2 [[a2,a3],[b2,b3]]) q)=_;rw[LN,LN,LN];grind
theorem cB{a b c:Pt}(ha:Sc a.c)(hb:Sc b.c)(hc:Sc c.c)(q:Rat):Ff (U8 (Hi a.c b.c c.c) q)=Ff (Mm (px · q) (py · q) a b c):=by
 have Rx:∀{k:Crv},Sc k->(0:Rat)<(k.d:Rat):=λh=>by exact_mod_cast h.n.2.2.1
 have pa:=Rx ha;have pb:=Rx hb;have pc:=Rx hc;have xx:∀{p:Pt},0<(p.c.d:Rat)->U8 p.c.x q=px p q*(p.c.d:Rat)/\U8 p.c.y q=py p q*(p.c.d:Rat):=λ{p} h=>by
  unfold px py;exact⟨(Zj (by grind)).symm,(Zj (by grind)).symm⟩
 obtain⟨xa,ya⟩:=xx pa;obtain⟨xb,yb⟩:=xx pb;obtain⟨xc,yc⟩:=xx pc;have e:U8 (Hi a.c b.c c.c) q=((a.c.d:Rat)*(b.c.d:Rat)*(c.c.d:Rat))*Mm (px · q) (py · q) a b c:=by
  unfold Hi hZ Mm;rw[Qjq,oY,oY,oY,xa,xb,xc,ya,yb,yc];grind
 rw[e,Cy (Xu (Xu pa pb) pc)]
def FX(sg:Uo->Int)(a b c:Pt):Bool:=decide (0<Hl sg (Hi a.c b.c c.c))
def Pj(sg:Uo->Int)(row:List Pt):List Pt:=(P6 (FX sg) [] row).reverse
def Nb(sg:Uo->Int)(row:List Pt):List Pt:=if row.length<3 then row else(Pj sg row).dropLast++(Pj sg row.reverse).dropLast
def Rk(l:List Pt)(a:Tm):List Pt:=Nb (Fq a) (Rr a (H7 l))
def Rv(C:List Pt):List (Pt×Pt):=C.zip (C.drop 1++C.take 1)
def Lh(sg:Uo->Int)(a b c:Pt):Ct:=⟨3,a.id,b.id,c.id,0,Hi a.c b.c c.c,Hl sg (Hi a.c b.c c.c)⟩
def VT(e:Pt×Pt)(c:Pt):Bool:=decide (c.id≠e.1.id) && decide (c.id≠e.2.id)
def Ag(sg:Uo->Int)(l:List Pt)(e:Pt×Pt):List Ct:=(l.filter (VT e)).map λc=>Lh sg e.1 e.2 c
def Bi(sg:Uo->Int)(l C:List Pt):List Ct:=if C.length<2 then []else(Rv C).flatMap (Ag sg l)
def AM(l:List Pt)(a:Tm):List Ct:=JA l a++Bi (Fq a) l (Rk l a)
abbrev brH(l:List Pt)(a:Tm):Uu:=U0 (Rk l a)
def NP(l:List Pt):Up:=l.flatMap λx=>l.flatMap λy=>l.map λz=>Hi x.c y.c z.c
theorem kC{l:List Pt}{x y z:Pt}(hx:x∈l)(hy:y∈l)(hz:z∈l):Hi x.c y.c z.c∈NP l :=
 Zo.2 ⟨x,hx,Zo.2 ⟨y,hy,Q9.2 ⟨z,hz,rfl⟩⟩⟩
theorem Qmg{l:List Pt}(hl:∀p∈l,Sc p.c):∀p∈NP l,Cp p:=λp hp=>by
 obtain⟨x,hx,hp⟩:=Zo.1 hp;obtain⟨y,hy,hp⟩:=Zo.1 hp;obtain⟨z,hz,rfl⟩:=Q9.1 hp;exact YV (hl x hx) (hl y hy) (hl z hz)
theorem LO{α:Type}(s:α->α->α->Bool)(c:α):∀st:List α,(Lq s c st).Sublist st
 | []=>List.Sublist.refl _
 | [_]=>List.Sublist.refl _
 |
  b::a::r=>by
  simp only[Lq]
  split
  ·exact List.Sublist.refl _
  ·exact(LO s c (a::r)).trans (List.sublist_cons_self _ _)
theorem KR{α:Type}{s:α->α->α->Bool}:∀{l acc:List α} {x:α},x∈P6 s acc l->x∈acc\/x∈l
 | [],acc,x,h=>.inl h
 |
  c::l,acc,x,h=>by
  rcases KR (l:=l) h with h|h
  ·rcases Ql.1 h with rfl|h
   ·exact .inr (by simp)
   ·exact .inl ((LO s c acc).subset h)
  ·exact .inr (Qg _ h)
theorem KH{α:Type}(s:α->α->α->Bool):∀(l acc:List α),(P6 s acc l).length<=acc.length+l.length
 | [],acc=>by simp[P6]
 |
  c::l,acc=>by
  have h1:=KH s l (c::Lq s c acc);have h2:=(LO s c acc).length_le;simp only[P6,Q5]at h1 ⊢;omega
theorem BL{sg:Uo->Int}{row:List Pt}{x:Pt}(h:x∈Pj sg row):x∈row:=by
 unfold Pj at h;rcases KR (Jm.1 h)with h|h
 ·cases h
 ·exact h
theorem QF(sg:Uo->Int)(row:List Pt):(Pj sg row).length<=row.length:=by
 have:=KH (FX sg) row [];unfold Pj;rw[List.length_reverse];simpa using this
theorem EF{sg:Uo->Int}{row:List Pt}{x:Pt}(h:x∈Nb sg row):x∈row:=by
 unfold Nb at h
 split at h
 ·exact h
 ·rcases Qp.1 h with h|h
  ·exact BL ((List.dropLast_sublist _).subset h)
  ·exact Jm.1 (BL ((List.dropLast_sublist _).subset h))
theorem cR(sg:Uo->Int)(row:List Pt):(Nb sg row).length<=2*row.length:=by
 unfold Nb
 split
 ·omega
 ·have h1:=QF sg row;have h2:=QF sg row.reverse;rw[Xs]at h2;rw[Qx,List.length_dropLast,List.length_dropLast];omega
theorem I6{l:List Pt}{a:Tm}{x:Pt}(h:x∈Rk l a):x∈l:=Tp (Gv.1 (EF h))
theorem HN(l:List Pt)(a:Tm):(Rk l a).length<=2*l.length:=by
 have h1:=cR (Fq a) (Rr a (H7 l));rw[Pu]at h1;have:=Az l;unfold Rk;omega
theorem SQ{C:List Pt}{e:Pt×Pt}(h:e∈Rv C):e.1∈C/\e.2∈C:=by
 unfold Rv at h;have h1:=List.of_mem_zip (show(e.1,e.2)∈_ from h);refine⟨h1.1,?_⟩;rcases Qp.1 h1.2 with h|h
 ·exact Qz h
 ·exact Qn h
theorem nG{sg:Uo->Int}{l C:List Pt}{x:Ct}(h:x∈Bi sg l C):∃e∈Rv C,∃c∈l,VT e c=true/\x=Lh sg e.1 e.2 c:=by
 unfold Bi at h
 split at h
 ·cases h
 ·obtain⟨e,he,h⟩:=Zo.1 h;obtain⟨c,hc,rfl⟩:=Q9.1 h;obtain⟨h1,h2⟩:=J4.1 hc;exact⟨e,he,c,h1,h2,rfl⟩
theorem xU{l:List Pt}{a:Tm}:∀x∈AM l a,x.p∈Ef l++NP l:=λx hx=>by
 rcases Qp.1 hx with hx|hx
 ·exact Xn _ (dI x hx)
 ·obtain⟨e,he,c,hc,_,rfl⟩:=nG hx;obtain⟨h1,h2⟩:=SQ he;exact Je _ (kC (I6 h1) (I6 h2) hc)
theorem PL{l:List Pt}(hl:∀p∈l,Sc p.c):∀p∈Ef l++NP l,Cp p:=λp hp=>by
 rcases Qp.1 hp with h|h
 ·exact QZ hl p h
 ·exact Qmg hl p h
theorem KC{α β:Type}(f:α->List β)(n:Nat):∀(m:List α),(∀x∈m,(f x).length≤n)->(m.flatMap f).length≤m.length*n
 | [],_=>by simp
 |
  x::m,h=>by
  have:=KC f n m λy hy=>h y (Qg _ hy)
  have:=h x (by simp);rw[J3,Qx,Q5,Xb];omega
theorem nF(sg:Uo->Int)(l C:List Pt):(Bi sg l C).length<=C.length*l.length:=by
 unfold Bi
 split
 ·simp
 ·refine Qc (KC _ l.length _ λe _=>?_) (Q0 _ ?_)
  ·unfold Ag;rw[List.length_map];exact List.length_filter_le _ _
  ·unfold Rv;rw[List.length_zip];exact Nat.min_le_left _ _
theorem pY{l:List Pt}(hl:∀p∈l,Sc p.c)(hn:l.length≤10):BuildOk (AM l) :=
 ⟨λ_ _ x hx=>PL hl _ (xU x hx),λa _=>by
  have h1:=nF (Fq a) l (Rk l a);have h2:=HN l a;have h3:(Rk l a).length*l.length<=20*10:=Zd (by omega) hn;show(JA l a++Bi (Fq a) l (Rk l a)).length<=1000;have h4:(JA l a).length<=l.length:=by unfold JA;rw[B5,Pu];omega
  rw[Qx];omega⟩
def Ic{α:Type}(l:List α):List (α×α):=l.zip (l.drop 1)
theorem jU{α:Type}{Q:α->α->Prop}:∀{l:List α},Edg Q l↔∀e∈Ic l,Q e.1 e.2
 | []=>by simp[Edg,Ic]
 | [_]=>by simp[Edg,Ic]
 |
  a::b::l=>by
  have ih:=jU (Q:=Q) (l:=b::l);have e:Ic (a::b::l)=(a,b)::Ic (b::l):=rfl;rw[e];constructor
  ·rintro⟨h1,h2⟩ x hx
   rcases Ql.1 hx with rfl|hx
   ·exact h1
   ·exact ih.1 h2 x hx
  ·intro h;exact⟨h (a,b) (by simp),ih.2 λx hx=>h x (Qg _ hx)⟩
theorem CQ{α:Type}(f z:α)(A:List α):Ic (f::A++[z])=(f::A).zip (A++[z]):=by
 unfold Ic;rw[Xc,Wh,Xy];have:f::(A++[z])=(f::A)++[z]:=rfl;rw[this];have h:A++[z]=(A++[z])++[]:=(Zv _).symm
 conv=>lhs;rw[h]
 rw[List.zip_append (by simp)];simp
theorem uB{f z:Pt}{A B:List Pt}:Rv ((f::A++[z]).dropLast++(z::B++[f]).dropLast)=Ic (f::A++[z])++Ic (z::B++[f]):=by
 rw[Jl,Jl,CQ,CQ,<-List.zip_append (by simp)];unfold Rv;congr 1;simp
theorem Edg.rev{α:Type}{Q:α->α->Prop}:∀{l:List α},Edg Q l->Edg (λa b=>Q b a) l.reverse:=by
 have app:∀{Q:α->α->Prop} {l:List α} {b a:α},Edg Q (l++[b])->Q b a->Edg Q (l++[b]++[a]):=by
  intro Q l
  induction l with
  |nil=>intro b a _ h;exact⟨h,trivial⟩
  |
   cons x l ih =>
   intro b a h h2;cases l with
   |nil=>exact⟨h.1,ih h.2 h2⟩
   |cons y l=>exact⟨h.1,ih h.2 h2⟩
 intro l
 induction l with
 |nil=>intro _;trivial
 |
  cons a l ih =>
  intro h;cases l with
  |nil=>trivial
  |
   cons b l =>
   have:=ih h.2;rw[Yp]at this ⊢;rw[Yp];exact app this h.1
theorem Cnv.rev{α:Type}{R:α->α->α->Prop}:∀{l:List α},Cnv R l->Cnv (λa b c=>R c b a) l.reverse:=by
 have app:∀{R:α->α->α->Prop} {l:List α} {c b a:α},Cnv R (l++[c,b])->R c b a->Cnv R (l++[c,b,a]):=by
  intro R l
  induction l with
  |nil=>intro c b a _ h;exact⟨h,trivial⟩
  |
   cons x l ih =>
   intro c b a h h2;cases l with
   |nil=>exact⟨h.1,ih h.2 h2⟩
   |
    cons y l =>
    cases l with
    |nil=>exact⟨h.1,ih h.2 h2⟩
    |cons w l=>exact⟨h.1,ih h.2 h2⟩
 intro l
 induction l with
 |nil=>intro _;trivial
 |
  cons a l ih =>
  intro h
  match l,h with
  | [],_=>trivial
  | [_],_=>trivial
  |
   b::c::l,h =>
   have:=ih h.2;rw[Yp,Yp,Ze]at this;rw[Yp,Yp,Yp,Ze,Ze];exact app this h.1
section
variable{α:Type}{lt lt':α->α->Bool}
theorem EQ{out:List α}{x:α}(h:∀y∈out,lt x y=lt' x y):∀k,Lz lt out x k=Lz lt' out x k
 | 0=>rfl
 |
  k+1=>by
  simp only[Lz];cases hy:out[k]? with
  |none=>rfl
  |some y=>simp only[h y (Qa hy),EQ h k]
theorem SX{l:List α}(h:∀u∈l,∀v∈l,lt u v=lt' u v):∀(m out:List α),(∀x∈m,x∈l)->(∀x∈out,x∈l)->m.foldl (Lv lt) out=m.foldl (Lv lt') out
 | [],_,_,_=>rfl
 |
  x::m,out,h1,h2=>by
  have e:Lv lt out x=Lv lt' out x:=by
   unfold Lv;rw[EQ λy hy=>h x (h1 x (by simp)) y (h2 y hy)]
  simp only[Z5];rw[e];exact SX h m _ (λy hy=>h1 y (Qg _ hy)) λy hy=>by
   rcases FZ.1 hy with rfl|hy
   ·exact h1 _ (by simp)
   ·exact h2 y hy
end
theorem EG{a:Tm}{l:List Pt}{q:Rat}(hb:∀u∈l,∀v∈l,(Tu (Fq a) u v=true↔B9 q u v))(hd:l.Pairwise λx y=>x.id≠y.id):(Rr a l).Pairwise (B9 q) :=
 DY (S:=λx=>x∈l) (D:=λx y=>x.id≠y.id) (QA q) (λu v hu hv h=>(hb u hu v hv).1 h) (λu v hu hv hne h=>fB (λe=>hne e.symm) λh'=>by
  rw[(hb u hu v hv).2 h']at h;cases h) l [] .nil (λx hx=>by cases hx) (λx hx=>hx) hd (λx hx=>by cases hx)
theorem Qvc{a:Tm}(ha:Va a){u v:Pt}(hu:Sc u.c)(hv:Sc v.c){q:Rat}(h1:Hl (Fq a) (Gn u.c v.c)=Ff (U8 (Gn u.c v.c) q))(h2:Hl (Fq a) (Gm u.c v.c)=Ff (U8 (Gm u.c v.c) q))(hne:u.c≠v.c)(h:B9 q u v):lx (px · q) (py · q) u v:=by
 rcases h with h|⟨h,h3⟩
 ·exact .inl h
 rcases h3 with h3|⟨h3,_⟩
 ·exact .inr ⟨h,h3⟩
 ·exfalso;rw[TG hu hv]at h1;rw[TF hu hv]at h2;have z1:Ff (px v q-px u q)=0:=Gs.2 (by grind);have z2:Ff (py v q-py u q)=0:=Gs.2 (by grind);rw[z1]at h1;rw[z2]at h2;have e1:(Gn u.c v.c).length=0:=Decidable.byContradiction λe=>(Ej ha (Nh hu hv).dp e).2 h1
  have e2:(Gm u.c v.c).length=0:=Decidable.byContradiction λe=>(Ej ha (Ng hu hv).dp e).2 h2
  exact hne (Qpi hu.n hv.n (Qj e1) (Qj e2))
structure LowC(X Y:Pt->Rat)(R L:List Pt):Prop where
 hd:L.head? = R.head?
 la:L.getLast? = R.getLast?
 srt:L.Pairwise (lx X Y)
 mem:∀p∈L,p∈R
 edg:Edg (λa b=>∀p∈R,0≤Mm X Y a b p) L
 cnv:Cnv (λa b c=>0<Mm X Y a b c) L
theorem IB{X Y:Pt->Rat}{sg:Uo->Int}{R:List Pt}(hs:∀a∈R,∀b∈R,∀c∈R,(FX sg a b c=true↔0<Mm X Y a b c))(hR:R.Pairwise (lx X Y))(h0:R≠[]):LowC X Y R (Pj sg R):=by
 cases R with
 |nil=>exact absurd rfl h0
 |
  cons f R =>
  obtain⟨t,st,g1,g2,g3,g4⟩:=IC hs hR R [f] f [] rfl ⟨Kl _ _,λp hp=>by rw[Qk.1 hp];simp,trivial,trivial⟩ rfl rfl;have e:Pj sg (f::R)=(t::st).reverse:=by
   unfold Pj;rw[<-g1];rfl
  rw[e];exact⟨by rw[List.head?_reverse,g4],by rw[List.getLast?_reverse];exact g3.symm,Ky.2 g2.srt,λp hp=>g2.mem p (Jm.1 hp),g2.edg.rev,g2.cnv.rev⟩
theorem Qv2{X Y:Pt->Rat}{R:List Pt}(hR:R.Pairwise (lx X Y)):∀p∈R,∀q∈R,p=q\/lx X Y p q\/lx X Y q p:=λp hp q hq=>by
 by_cases e:p=q
 ·exact .inl e
 ·exact .inr (zQ hR hp hq e)
theorem Qis{X Y:Pt->Rat}{R L L':List Pt}(hR:R.Pairwise (lx X Y))(h:LowC X Y R L)(h':LowC X Y R L'):L=L':=by
 have hh:=h.hd.trans h'.hd.symm;have hl:=h.la.trans h'.la.symm;cases L with
 |
  nil=>cases L' with
  |nil=>rfl
  |cons _ _=>simp at hh
 |
  cons f M=>cases L' with
  |nil=>simp at hh
  |
   cons f' M' =>
   simp at hh;subst hh;obtain⟨z,hz⟩:∃z,(f::M).getLast? = some z:=⟨_,Ys (by simp)⟩;rw[Qgq (Qv2 hR) M M' f h.srt h'.srt h.mem h'.mem h.edg h'.edg h.cnv h'.cnv hz (hl ▸ hz)]
theorem tR{x y:Rat}(h:Ff x=Ff y):(0<=x->0<=y)/\(0<x->0<y):=by
 have h1:=Fz x;have h2:=Fz y;grind
theorem wI{X Y X' Y':Pt->Rat}{R:List Pt}:∀{L:List Pt},(∀p∈L,p∈R)->(∀e∈Ic L,∀p∈R,Ff (Mm X Y e.1 e.2 p)=Ff (Mm X' Y' e.1 e.2 p))->Cnv (λa b c=>0<Mm X Y a b c) L->Cnv (λa b c=>0<Mm X' Y' a b c) L
 | [],_,_,_=>trivial
 | [_],_,_,_=>trivial
 | [_,_],_,_,_=>trivial
 |a::b::c::l,hm,he,h=>⟨(tR (he (a,b) (by simp[Ic]) c (hm c (by simp)))).2 h.1,wI (λp hp=>hm p (Qg _ hp)) (λe hx=>he e (Qg _ hx)) h.2⟩
theorem fC{X Y X' Y':Pt->Rat}{R L:List Pt}(h:LowC X Y R L)(hl:∀u∈R,∀v∈R,lx X Y u v->lx X' Y' u v)(he:∀e∈Ic L,∀p∈R,Ff (Mm X Y e.1 e.2 p)=Ff (Mm X' Y' e.1 e.2 p)):LowC X' Y' R L :=
 ⟨h.hd,h.la,h.srt.imp_of_mem λhu hv h'=>hl _ (h.mem _ hu) _ (h.mem _ hv) h',h.mem,jU.2 λe hx p hp=>(tR (he e hx p hp)).1 (jU.1 h.edg e hx p hp),wI h.mem he h.cnv⟩
theorem yP(X Y:Pt->Rat)(a b c:Pt):Mm (λp=>-X p) (λp=>-Y p) a b c=Mm X Y a b c:=by unfold Mm;grind
theorem yV{X Y:Pt->Rat}{a b:Pt}:lx (λp=>-X p) (λp=>-Y p) a b↔lx X Y b a:=by unfold lx;grind
theorem Qst{L:List Pt}{f z:Pt}(h1:L.head? = some f)(h2:L.getLast? = some z)(hne:f≠z):∃A,L=f::A++[z]:=by
 cases L with
 |nil=>cases h1
 |
  cons g M =>
  simp at h1;subst h1;cases M with
  |nil=>simp at h2;exact absurd h2 hne
  |
   cons x M =>
   rw[J1]at h2;obtain⟨A,hA⟩:=Y9.1 h2;exact⟨A,by rw[hA];rfl⟩
theorem DX{α β:Type}{f g:α->List β}:∀{m:List α},(∀x∈m,f x=g x)->m.flatMap f=m.flatMap g
 | [],_=>rfl
 |x::m,h=>by rw[J3,J3,h x (by simp),DX λy hy=>h y (Qg _ hy)]
theorem fU{sa sb:Uo->Int}{l C:List Pt}(h:∀x∈Bi sa l C,Hl sb x.p=Hl sa x.p):Bi sb l C=Bi sa l C:=by
 by_cases h2:C.length<2
 ·unfold Bi;rw[if_pos h2,if_pos h2]
 ·have e:∀s,Bi s l C=(Rv C).flatMap (Ag s l):=λs=>if_neg h2
  rw[e]at h ⊢;rw[e];refine DX λx hx=>Xt λc hc=>?_
  have:=h (Lh sa x.1 x.2 c) (Zo.2 ⟨x,hx,Wi hc⟩);show(⟨3,x.1.id,x.2.id,c.id,0,Hi x.1.c x.2.c c.c,Hl sb (Hi x.1.c x.2.c c.c)⟩:Ct)=⟨3,x.1.id,x.2.id,c.id,0,Hi x.1.c x.2.c c.c,Hl sa (Hi x.1.c x.2.c c.c)⟩;have this:Hl sb (Hi x.1.c x.2.c c.c)=Hl sa (Hi x.1.c x.2.c c.c):=this;rw[this]
theorem Qag{l:List Pt}(hd:l.Pairwise λx y=>x.id≠y.id){u v:Pt}(hu:u∈l)(hv:v∈l)(h:u.id=v.id):u=v:=by
 refine Classical.byContradiction λe=>?_
 rcases zQ hd hu hv e with h'|h'
 ·exact h' h
 ·exact h' h.symm
structure Soon(l:List Pt)(a:Tm)(q:Rat):Prop where
 g:∀p∈Ef l++NP l,Hl (Fq a) p=Ff (U8 p q)
 b:∀u∈l,∀v∈l,(Tu (Fq a) u v=true↔B9 q u v)
 o:∀u∈l,∀v∈l,∀w∈l,Hl (Fq a) (Hi u.c v.c w.c)=Ff (Mm (px · q) (py · q) u v w)
 t:∀u∈l,∀v∈l,∀w∈l,(FX (Fq a) u v w=true↔0<Mm (px · q) (py · q) u v w)
 r:(Rr a (H7 l)).Pairwise (lx (px · q) (py · q))
theorem Qk1{l:List Pt}(hl:∀p∈l,Sc p.c)(hd:l.Pairwise λx y=>x.id≠y.id){a:Tm}(ha:Va a):∃y,Fo a y=-1/\∀q,Fo a q=-1->q≤y->Soon l a q:=by
 obtain⟨y,y1,y2⟩:=XF ha (Ef l++NP l) λp hp=>(PL hl p hp).dp
 refine⟨y,y1,λq q1 q2=>?_⟩;have g:=y2 q q1 q2;have gP:=λp hp=>g p (Xn _ hp)
 have b:∀u∈l,∀v∈l,(Tu (Fq a) u v=true↔B9 q u v):=λu hu v hv=>NA ha (hl u hu) (hl v hv) (gP _ (Sl hu hv).1) (gP _ (Sl hu hv).2)
 have o:∀u∈l,∀v∈l,∀w∈l,Hl (Fq a) (Hi u.c v.c w.c)=Ff (Mm (px · q) (py · q) u v w):=λu hu v hv w hw=>by
  rw[g _ (Je _ (kC hu hv hw)),cB (hl u hu) (hl v hv) (hl w hw)]
 refine⟨g,b,o,λu hu v hv w hw=>?_,?_⟩
 ·unfold FX;rw[o u hu v hv w hw,decide_eq_true_eq];have:=Fz (Mm (px · q) (py · q) u v w);grind
 ·have hw:∀u∈H7 l,u∈l:=λu hu=>Tp hu
  have h1:=EG (a:=a) (l:=H7 l) (q:=q) (λu hu v hv=>b u (hw u hu) v (hw v hv)) (List.Pairwise.sublist (AY l) hd);have h2:(Rr a (H7 l)).Pairwise λx y=>x.c≠y.c:=(List.Perm.pairwise_iff (λ{x y} h e=>h e.symm) (cO (lt:=Tu (Fq a)) (H7 l))).2 (Qq4 l)
  refine(h1.and h2).imp_of_mem λ{u v} hu hv h=>?_
  have hu:=hw u (Gv.1 hu);have hv:=hw v (Gv.1 hv);exact Qvc ha (hl u hu) (hl v hv) (gP _ (Sl hu hv).1) (gP _ (Sl hu hv).2) h.2 h.1
theorem NU{l:List Pt}(hl:∀p∈l,Sc p.c)(hd:l.Pairwise λx y=>x.id≠y.id){a:Tm}(ha:Va a):∃q,Soon l a q :=
 let⟨y,h1,h2⟩:=Qk1 hl hd ha
 ⟨y,h2 y h1 Qq⟩
theorem QR{l:List Pt}{a:Tm}{q:Rat}(S:Soon l a q)(h3:3<=(Rr a (H7 l)).length):∃f z A B,Pj (Fq a) (Rr a (H7 l))=f::A++[z]/\Pj (Fq a) (Rr a (H7 l)).reverse=z::B++[f]/\LowC (px · q) (py · q) (Rr a (H7 l)) (f::A++[z])/\LowC (λp=>-px p q) (λp=>-py p q) (Rr a (H7 l)).reverse (z::B++[f])/\Rv (Rk l a)=Ic (f::A++[z])++Ic (z::B++[f])/\2<=(Rk l a).length:=by
 obtain⟨R,hR⟩:=nmE (Rr a (H7 l));have hm:∀x∈R,x∈l:=λx hx=>by rw[hR]at hx;exact Tp (Gv.1 hx)
 have r:=S.r;rw[<-hR]at r h3 ⊢;have h0:R≠[]:=λe=>by rw[e]at h3;simp at h3
 have c1:=IB (sg:=Fq a) (λu hu v hv w hw=>S.t u (hm u hu) v (hm v hv) w (hm w hw)) r h0;have r2:R.reverse.Pairwise (lx (λp=>-px p q) (λp=>-py p q)):=Ky.2 (r.imp λh=>yV.2 h);have c2:=IB (sg:=Fq a) (R:=R.reverse) (X:=λp=>-px p q) (Y:=λp=>-py p q) (λu hu v hv w hw=>by
  rw[yP (px · q) (py · q)];exact S.t u (hm u (Jm.1 hu)) v (hm v (Jm.1 hv)) w (hm w (Jm.1 hw))) r2 (by simpa using h0)
 obtain⟨f,hf⟩:∃f,R.head? = some f:=by cases R with
  |nil=>exact absurd rfl h0
  |cons f _=>exact⟨f,rfl⟩
 obtain⟨z,hz⟩:∃z,R.getLast? = some z:=⟨_,Ys h0⟩;have hne:f≠z:=λe=>by
  subst e;cases R with
  |nil=>exact absurd rfl h0
  |
   cons g M =>
   simp at hf;subst hf;cases M with
   |nil=>simp at h3
   |
    cons x M =>
    rw[J1]at hz;exact Mf _ ((Q6.1 r).1 g (V1 hz))
 obtain⟨A,hA⟩:=Qst (c1.hd.trans hf) (c1.la.trans hz) hne;obtain⟨B,hB⟩:=Qst (c2.hd.trans (by rw[List.head?_reverse];exact hz)) (c2.la.trans (by rw[List.getLast?_reverse];exact hf)) (Ne.symm hne);have hc:Rk l a=(f::A++[z]).dropLast++(z::B++[f]).dropLast:=by
  unfold Rk Nb;rw[<-hR,if_neg (by omega),hA,hB]
 rw[hA]at c1;rw[hB]at c2;refine⟨f,z,A,B,hA,hB,c1,c2,by rw[hc];exact uB,?_⟩;rw[hc,Jl,Jl];simp;omega
theorem Qcl{l:List Pt}(hl:∀p∈l,Sc p.c)(hd:l.Pairwise λx y=>x.id≠y.id){a b:Tm}(ha:Va a)(hb:Va b)(h:∀x∈AM l a,Hl (Fq b) x.p=Hl (Fq a) x.p):Rk l b=Rk l a/\AM l b=AM l a:=by
 obtain⟨q,Sa⟩:=NU hl hd ha;obtain⟨r,Sb⟩:=NU hl hd hb;obtain⟨k1,k2⟩:=tK hl hd ha hb λx hx=>h x (Xn _ hx)
 have pa:=EG Sa.b hd;have pb:=EG Sb.b hd;rw[k1]at pb;have pab:=pa.and pb;have lexs:∀u∈l,∀v∈l,(B9 q u v↔B9 r u v):=λu hu v hv=>by
  by_cases e:u=v
  ·subst e;exact⟨λh=>absurd h (Of _ _),λh=>absurd h (Of _ _)⟩
  ·rcases zQ pab (Gv.2 hu) (Gv.2 hv) e with h'|h'
   ·exact⟨λ_=>h'.2,λ_=>h'.1⟩
   ·exact⟨λh=>absurd (QA _ _ _ _ h h'.1) (Of _ _),λh=>absurd (QA _ _ _ _ h h'.2) (Of _ _)⟩
 have bef:∀u∈l,∀v∈l,Tu (Fq b) u v=Tu (Fq a) u v:=λu hu v hv=>by
  have h1:=Sa.b u hu v hv;have h2:=Sb.b u hu v hv;have h3:=lexs u hu v hv;cases e1:Tu (Fq a) u v <;> cases e2:Tu (Fq b) u v <;> rw[e1]at h1 <;> rw[e2]at h2 <;> simp_all
 have eR:Rr b (H7 l)=Rr a (H7 l):=SX (l:=H7 l) (λu hu v hv=>bef u (Tp hu) v (Tp hv)) (H7 l) [] (λx hx=>hx) λx hx=>by cases hx
 have hm:∀x∈Rr a (H7 l),x∈l:=λx hx=>Tp (Gv.1 hx)
 have rb:=Sb.r;rw[eR]at rb;have hc:Rk l b=Rk l a:=by
  by_cases h3:(Rr a (H7 l)).length<3
  ·unfold Rk Nb;rw[eR,if_pos h3,if_pos h3]
  ·obtain⟨f,z,A,B,hA,hB,c1,c2,hE,hC2⟩:=QR Sa (by omega);obtain⟨f',z',A',B',hA',hB',c1',c2',hE',_⟩:=QR Sb (by rw[eR];omega);rw[eR]at hA' hB' c1' c2';have sgs:∀e∈Rv (Rk l a),∀p∈Rr a (H7 l),Ff (Mm (px · q) (py · q) e.1 e.2 p)=Ff (Mm (px · r) (py · r) e.1 e.2 p):=λe he p hp=>by
    obtain⟨m1,m2⟩:=SQ he;have m1:=I6 m1;have m2:=I6 m2;have m3:=hm p hp;by_cases ho:VT e p=true
    ·have hx:Lh (Fq a) e.1 e.2 p∈AM l a:=by
      refine Je _ ?_;unfold Bi;rw[if_neg (by omega)];exact Zo.2 ⟨e,he,Wi (J4.2 ⟨m3,ho⟩)⟩
     have hg:Hl (Fq b) (Hi e.1.c e.2.c p.c)=Hl (Fq a) (Hi e.1.c e.2.c p.c):=h _ hx;rw[<-Sa.o _ m1 _ m2 _ m3,<-Sb.o _ m1 _ m2 _ m3,hg]
    ·have hz:∀X Y:Pt->Rat,Mm X Y e.1 e.2 p=0:=λX Y=>by
      by_cases e1:p.id=e.1.id
      ·rw[Qag hd m3 m1 e1];exact(FP _ _).1
      ·by_cases e2:p.id=e.2.id
       ·rw[Qag hd m3 m2 e2];exact(FP _ _).2
       ·exact absurd (by simp[VT,e1,e2]) ho
     rw[hz,hz]
   have hlx:∀u∈Rr a (H7 l),∀v∈Rr a (H7 l),lx (px · q) (py · q) u v->lx (px · r) (py · r) u v:=λu hu v hv huv=>by
    have ra:=Sa.r;by_cases e:u=v
    ·subst e;exact absurd huv (Mf _)
    ·rcases zQ (ra.and rb) hu hv e with h'|h'
     ·exact h'.2
     ·exact absurd (fE huv h'.1) (Mf _)
   have e1:=Qis rb (fC c1 hlx λe he=>sgs e (by rw[hE];exact Xn _ he)) c1';have rb2:(Rr a (H7 l)).reverse.Pairwise (lx (λp=>-px p r) (λp=>-py p r)):=Ky.2 (rb.imp λh=>yV.2 h);have e2:=Qis rb2 (fC c2 (λu hu v hv huv=>yV.2 (hlx v (Jm.1 hv) u (Jm.1 hu) (yV.1 huv))) λe he p hp=>by
    rw[yP (px · q) (py · q),yP (px · r) (py · r)];exact sgs e (by rw[hE];exact Je _ he) p (Jm.1 hp)) c2'
   unfold Rk Nb;rw[eR,if_neg h3,if_neg h3,hA,hB,hA',hB',e1,e2]
 refine⟨hc,?_⟩;unfold AM;rw[hc,k2,fU λx hx=>h x (Je _ hx)]
theorem Qzc{l:List Pt}(hl:∀p∈l,Sc p.c)(hn:l.length≤10)(hd:l.Pairwise λx y=>x.id≠y.id):Stab (AM l) (brH l):=by
 refine⟨pY hl hn,⟨Ef l++NP l,PL hl,λa _ x hx=>xU x hx⟩,λa b ha hb h=>?_⟩;obtain⟨e1,e2⟩:=Qcl hl hd ha hb h;exact⟨e2,by show U0 _=U0 _;rw[e1]⟩
end Orq
namespace Orq
open Orr Go
theorem KN{a b c d:Crv}(ha:Sc a)(hb:Sc b)(hc:Sc c)(hd:Sc d):Cp (Hq a b c d):=by
 have lr:∀{a b:Crv},Sc a->Sc b->(Gn a b).length<=3/\(Gm a b).length<=3:=λ{a b} ha hb=>by
  have:=Nl (Fu b.x a.d) (Fu a.x b.d);have:=Fx b.x a.d;have:=Fx a.x b.d;have:=Nl (Fu b.y a.d) (Fu a.y b.d);have:=Fx b.y a.d;have:=Fx a.y b.d;have:=ha.c.lx;have:=hb.c.lx;have:=ha.c.ly;have:=hb.c.ly;unfold Gn Gm;omega
 have ap:∀{a b:Crv},Sc a->Sc b->(S5 a b).length<=5/\Bd 517 (S5 a b):=λ{a b} ha hb=>by
  obtain⟨l1,l2⟩:=lr ha hb;have b1:Bd 257 (Gn a b):=Dt (Ge hb.c.x ha.c.d) (Ge ha.c.x hb.c.d);have b2:Bd 257 (Gm a b):=Dt (Ge hb.c.y ha.c.d) (Ge ha.c.y hb.c.d);have q1:=Pi (u:=2) b1 b1 (by omega);have q2:=Pi (u:=2) b2 b2 (by omega);refine⟨?_,U5 (JO q1 q2) (by omega)⟩;have:=Oe (Gl (Gn a b) (Gn a b)) (Gl (Gm a b) (Gm a b));have:=Tx (Gn a b) (Gn a b);have:=Tx (Gm a b) (Gm a b);unfold S5;omega
 have dd:∀{a b:Crv},Sc a->Sc b->Fc ((a.d*b.d)*(a.d*b.d))<=512:=λ{a b} ha hb=>by
  have:=Ga a.d b.d;have:=Ga (a.d*b.d) (a.d*b.d);have:=ha.c.d;have:=hb.c.d;omega
 obtain⟨l1,b1⟩:=ap hc hd;obtain⟨l2,b2⟩:=ap ha hb;refine⟨Fy _ _,?_,U5 (Dt (Ge b1 (dd ha hb)) (Ge b2 (dd hc hd))) (by omega)⟩;have:=Nl (Fu (S5 c d) ((a.d*b.d)*(a.d*b.d))) (Fu (S5 a b) ((c.d*d.d)*(c.d*d.d)));have:=Fx (S5 c d) ((a.d*b.d)*(a.d*b.d));have:=Fx (S5 a b) ((c.d*d.d)*(c.d*d.d));unfold Hq;omega
def sD(m:Pt×Pt)(q:Rat):Rat:=(px m.2 q-px m.1 q)*(px m.2 q-px m.1 q)+(py m.2 q-py m.1 q)*(py m.2 q-py m.1 q)
theorem Qop{a b c d:Pt}(ha:Sc a.c)(hb:Sc b.c)(hc:Sc c.c)(hd:Sc d.c)(q:Rat):Ff (U8 (Hq a.c b.c c.c d.c) q)=Ff (sD (c,d) q-sD (a,b) q):=by
 have Rx:∀{z:Int},0<z->(0:Rat)<(z:Rat):=λ{z} h=>by exact_mod_cast h
 have pa:=Rx ha.n.2.2.1;have pb:=Rx hb.n.2.2.1;have pc:=Rx hc.n.2.2.1;have pd:=Rx hd.n.2.2.1;have xx:∀{p:Pt},0<(p.c.d:Rat)->U8 p.c.x q=px p q*(p.c.d:Rat)/\U8 p.c.y q=py p q*(p.c.d:Rat):=λ{p} h=>by
  unfold px py;exact⟨(Zj (by grind)).symm,(Zj (by grind)).symm⟩
 obtain⟨xa,ya⟩:=xx pa;obtain⟨xb,yb⟩:=xx pb;obtain⟨xc,yc⟩:=xx pc;obtain⟨xd,yd⟩:=xx pd;have e:U8 (Hq a.c b.c c.c d.c) q=(((a.c.d:Rat)*b.c.d)*((a.c.d:Rat)*b.c.d))*(((c.c.d:Rat)*d.c.d)*((c.c.d:Rat)*d.c.d))*(sD (c,d) q-sD (a,b) q):=by
  unfold Hq S5 Gn Gm sD;simp only[No,Rp,LC,Gk,X1];rw[xa,xb,xc,xd,ya,yb,yc,yd];grind
 rw[e,Cy];have h1:=Xu pa pb;have h2:=Xu pc pd;exact Xu (Xu h1 h1) (Xu h2 h2)
def AS(l:List Pt):Up:=l.flatMap λa=>l.flatMap λb=>l.flatMap λc=>l.map λd=>Hq a.c b.c c.c d.c
theorem NS{l:List Pt}{a b c d:Pt}(ha:a∈l)(hb:b∈l)(hc:c∈l)(hd:d∈l):Hq a.c b.c c.c d.c∈AS l :=
 Zo.2 ⟨a,ha,Zo.2 ⟨b,hb,Zo.2 ⟨c,hc,Q9.2 ⟨d,hd,rfl⟩⟩⟩⟩
theorem WI{l:List Pt}(hl:∀p∈l,Sc p.c):∀p∈AS l,Cp p:=λp hp=>by
 obtain⟨a,ha,hp⟩:=Zo.1 hp;obtain⟨b,hb,hp⟩:=Zo.1 hp;obtain⟨c,hc,hp⟩:=Zo.1 hp;obtain⟨d,hd,rfl⟩:=Q9.1 hp;exact KN (hl a ha) (hl b hb) (hl c hc) (hl d hd)
theorem aR{l:List Pt}(hl:∀p∈l,Sc p.c){a:Tm}(ha:Va a):∃y,Fo a y=-1/\∀q,Fo a q=-1->q≤y->∀s m:Pt×Pt,s.1∈l->s.2∈l->m.1∈l->m.2∈l->Hl (Fq a) (Hq s.1.c s.2.c m.1.c m.2.c)=Ff (sD m q-sD s q):=by
 obtain⟨y,y1,y2⟩:=XF ha (AS l) λp hp=>(WI hl p hp).dp
 refine⟨y,y1,λq q1 q2 s m h1 h2 h3 h4=>?_⟩;rw[y2 q q1 q2 _ (NS h1 h2 h3 h4),Qop (hl _ h1) (hl _ h2) (hl _ h3) (hl _ h4)]
def D6(f:Pt×Pt->Rat)(P:List (Pt×Pt))(r:Pt×Pt):Prop:=∃P1 P2,P=P1++r::P2/\(∀m∈P1,f r<f m)/\∀m∈P2,f r≤f m
theorem OT{f:Pt×Pt->Rat}:∀{P:List (Pt×Pt)} {r r':Pt×Pt},D6 f P r->D6 f P r'->r=r'
 | [],r,r',⟨P1,P2,h,_⟩,_=>by simp at h
 |
  x::P,r,r',⟨P1,P2,h,h1,h2⟩,⟨Q1,Q2,h',h1',h2'⟩=>by
  cases P1 with
  |
   nil =>
   simp at h;cases Q1 with
   |nil=>simp at h';exact h.1.symm.trans h'.1
   |
    cons y Q1 =>
    simp at h';exfalso;obtain⟨rfl,rfl⟩:=h;obtain⟨rfl,rfl⟩:=h';have a1:=h1' x (by simp);have a2:=h2 r' (by simp);grind
  |
   cons y P1 =>
   simp at h;cases Q1 with
   |
    nil =>
    simp at h';exfalso;obtain⟨rfl,rfl⟩:=h;obtain⟨rfl,rfl⟩:=h';have a1:=h1 x (by simp);have a2:=h2' r (by simp);grind
   |
    cons z Q1 =>
    simp at h h';exact OT (P:=P) ⟨P1,P2,h.2,λm hm=>h1 m (by simp[hm]),h2⟩ ⟨Q1,Q2,h'.2,λm hm=>h1' m (by simp[hm]),h2'⟩
theorem Qoq{f:Pt×Pt->Rat}{P:List (Pt×Pt)}{r m:Pt×Pt}(h:D6 f P r):D6 f (P++[m]) (if f m<f r then m else r):=by
 obtain⟨P1,P2,rfl,h1,h2⟩:=h;by_cases e:f m<f r
 ·rw[if_pos e];refine⟨P1++r::P2,[],rfl,λx hx=>?_,λx hx=>by cases hx⟩;rcases Qp.1 hx with hx|hx
  ·have:=h1 x hx;grind
  ·rcases Ql.1 hx with rfl|hx
   ·exact e
   ·have:=h2 x hx;grind
 ·rw[if_neg e];refine⟨P1,P2++[m],by simp,h1,λx hx=>?_⟩;rcases Qp.1 hx with hx|hx
  ·exact h2 x hx
  ·rw[Qk.1 hx];grind
theorem aP{f:Pt×Pt->Rat}{sg:Uo->Int}{l:List Pt}(hg:∀s m:Pt×Pt,s.1∈l->s.2∈l->m.1∈l->m.2∈l->Hl sg (Hq s.1.c s.2.c m.1.c m.2.c)=Ff (f m-f s)):∀(ps P:List (Pt×Pt)) (s:Pt×Pt),s.1∈l/\s.2∈l->(∀m∈ps,m.1∈l/\m.2∈l)->D6 f P s->D6 f (P++ps) (G9 sg s ps)
 | [],P,s,_,_,h=>by rw[Zv];exact h
 |
  m::ps,P,s,hs,hp,h=>by
  rw[En];have hm:=hp m (by simp);have e:Pm sg s m=if f m<f s then m else s:=by
   unfold Pm;rw[hg s m hs.1 hs.2 hm.1 hm.2];have:=Fz (f m-f s);by_cases h:f m<f s
   ·rw[if_pos h,if_pos (by grind)]
   ·rw[if_neg h,if_neg (by grind)]
  have hn:(Pm sg s m).1∈l/\(Pm sg s m).2∈l:=by
   rcases YB sg s m with e|e <;> rw[e] <;> assumption
  have:=aP hg ps (P++[m]) (Pm sg s m) hn (λx hx=>hp x (Qg _ hx)) (by rw[e];exact Qoq h);rwa[Ze]at this
theorem bR(a b:Pt)(l:List Pt):∃P,Gi (a::b::l)=(a,b)::P:=⟨_,rfl⟩
theorem iN{f:Pt×Pt->Rat}{sg:Uo->Int}{a b:Pt}{l:List Pt}(hg:∀s m:Pt×Pt,s.1∈a::b::l->s.2∈a::b::l->m.1∈a::b::l->m.2∈a::b::l->Hl sg (Hq s.1.c s.2.c m.1.c m.2.c)=Ff (f m-f s)):D6 f (Gi (a::b::l)) (G9 sg (a,b) (Gi (a::b::l))):=by
 obtain⟨P,hP⟩:=bR a b l;have hm:=Tg (a::b::l).length (a::b::l);have hm:∀m∈Gi (a::b::l),m.1∈a::b::l/\m.2∈a::b::l:=hm;rw[hP]at hm ⊢;have h:=aP hg P [(a,b)] (a,b) (hm (a,b) (by simp)) (λm h=>hm m (by simp[h])) ⟨[],[],rfl,λm h=>(by cases h),λm h=>(by cases h)⟩;rw[En];have e:Pm sg (a,b) (a,b)=(a,b):=by rcases YB sg (a,b) (a,b)with e|e <;> exact e
 rw[e];exact h
theorem Qah{l:List Pt}(hd:l.Pairwise λx y=>x.id≠y.id){u v:Pt}(hu:u∈l)(hv:v∈l)(h:u.id=v.id):u=v:=by
 by_cases e:u=v
 ·exact e
 ·rcases zQ hd hu hv e with h'|h'
  ·exact absurd h h'
  ·exact absurd h.symm h'
theorem Qc6{l:List Pt}(hl:∀p∈l,Sc p.c)(hd:l.Pairwise λx y=>x.id≠y.id){a b:Tm}(ha:Va a)(hb:Va b)(h:∀x∈Lm (Fq a) l,Hl (Fq b) x.p=Hl (Fq a) x.p):Ij (Fq b) l=Ij (Fq a) l/\Lm (Fq b) l=Lm (Fq a) l:=by
 match l,hl,hd,h with
 | [],_,_,_=>exact⟨rfl,rfl⟩
 | [x],_,_,_=>exact⟨rfl,rfl⟩
 |
  u::v::l',hl,hd,h =>
  obtain⟨y,y1,y2⟩:=aR hl ha;obtain⟨z,z1,z2⟩:=aR hl hb;have ga:=y2 y y1 Qq;have gb:=z2 z z1 Qq;have fa:=iN (f:=λm=>sD m y) ga;have fb:=iN (f:=λm=>sD m z) gb;simp only[Ij,Lm]at h ⊢;have hm:∀m∈Gi (u::v::l'),m.1∈u::v::l'/\m.2∈u::v::l':=Tg _ _;generalize u::v::l'=l at *;obtain⟨r,hr⟩:=nmE (G9 (Fq a) (u,v) (Gi l));rw[<-hr]at fa h ⊢;obtain⟨P1,P2,hP,h1,h2⟩:=fa;have hrm:r∈Gi l:=by rw[hP];simp
  have hrl:=hm r hrm;have key:∀m∈Gi l,m=r\/Hl (Fq b) (Hq r.1.c r.2.c m.1.c m.2.c)=Hl (Fq a) (Hq r.1.c r.2.c m.1.c m.2.c):=λm hmm=>by
   have hml:=hm m hmm;by_cases e:ZG r m=true
   ·right;have h0:=h (Bj (Fq a) r.1 r.2 m.1 m.2) (by unfold M4;exact List.mem_map.2 ⟨m,List.mem_filter.2 ⟨hmm,e⟩,rfl⟩);rw[LX]at h0;exact h0
   ·left;unfold ZG at e;simp at e;have e1:=Qah hd hml.1 hrl.1 e.1;have e2:=Qah hd hml.2 hrl.2 e.2;exact Prod.ext e1 e2
  have fb':D6 (λm=>sD m z) (Gi l) r:=by
   refine⟨P1,P2,hP,λm hmm=>?_,λm hmm=>?_⟩
   ·have hmp:m∈Gi l:=by rw[hP];simp[hmm]
    have hlt:=h1 m hmm;have hml:=hm m hmp;rcases key m hmp with e|e
    ·exfalso;rw[e]at hlt;dsimp only at hlt;grind
    ·rw[ga r m hrl.1 hrl.2 hml.1 hml.2,gb r m hrl.1 hrl.2 hml.1 hml.2]at e;dsimp only at hlt ⊢;rw[Hy.2 (by grind:0<sD m y-sD r y)]at e;have:=Hy.1 e;grind
   ·have hmp:m∈Gi l:=by rw[hP];simp[hmm]
    have hlt:=h2 m hmm;have hml:=hm m hmp;rcases key m hmp with e|e
    ·rw[e];exact Qq
    ·rw[ga r m hrl.1 hrl.2 hml.1 hml.2,gb r m hrl.1 hrl.2 hml.1 hml.2]at e;dsimp only at hlt ⊢;have t1:=Fz (sD m y-sD r y);have t2:=Fz (sD m z-sD r z);grind
  have er:=OT fb fb';rw[er];refine⟨rfl,?_⟩;unfold M4;refine Xt λm hmm=>?_
  have hmp:=(J4.1 hmm).1;rcases key m hmp with e|e
  ·exfalso;have:=(J4.1 hmm).2;rw[e]at this;unfold ZG at this;simp at this
  ·unfold Bj;rw[e]
theorem Qzd{l:List Pt}(hl:∀p∈l,Sc p.c)(hn:l.length≤10)(hd:l.Pairwise λx y=>x.id≠y.id):Stab (λa=>Lm (Fq a) l) (λa=>U0 (Ij (Fq a) l)):=by
 have hcp:∀a,∀x∈Lm (Fq a) l,x.p∈AS l:=λa x hx=>by
  match l,hx with
  |
   u::v::l',hx =>
   simp only[Lm]at hx;obtain⟨h3,h4⟩:=Lj (Fq a) (l:=u::v::l') (Gi (u::v::l')) (u,v) ⟨by simp,by simp⟩ (Tg _ _);obtain⟨m,hm,rfl⟩:=II hx;obtain⟨h1,h2⟩:=Tg _ _ m hm;rw[LX];exact NS h3 h4 h1 h2
 refine⟨⟨λa _ x hx=>WI hl _ (hcp a x hx),λa _=>?_⟩,⟨AS l,WI hl,λa _=>hcp a⟩,λa b ha hb h=>?_⟩
 ·have:=qB (Fq a) l;have:l.length*l.length<=10*10:=Zd hn hn;show(Lm (Fq a) l).length<=1000;omega
 ·obtain⟨h1,h2⟩:=Qc6 hl hd ha hb h;exact⟨h2,by show U0 _=U0 _;rw[h1]⟩
end Orq
namespace Orr
open Go Go.Proofs Tryz Orq
set_option maxRecDepth 10000
def XO:Nat->Ut->Ut
 |_,[]=>[]
 | 0,x::l=>FG x::l
 |k+1,x::l=>x::XO k l
theorem qT:∀(k:Nat) (l:Ut),(XO k l).length=l.length
 |_,[]=>by cases ‹Nat› <;> rfl
 | 0,x::l=>rfl
 |k+1,x::l=>by simp only[XO,Q5,qT k l]
theorem qR:∀(k:Nat) (l:Ut) {j:Nat} {y:LV},(XO k l)[j]? = some y->∃x,l[j]? = some x/\(y=x\/y=FG x)
 | 0,[],_,_,h=>by simp[XO]at h
 |_+1,[],_,_,h=>by simp[XO]at h
 | 0,x::l,0,y,h=>by simp[XO]at h;exact⟨x,rfl,.inr h.symm⟩
 | 0,x::l,j+1,y,h=>by simp[XO]at h;exact⟨y,by simpa using h,.inl rfl⟩
 |k+1,x::l,0,y,h=>by simp[XO]at h;exact⟨x,rfl,.inl h.symm⟩
 |
  k+1,x::l,j+1,y,h=>by
  simp only[XO,Jj]at h;obtain⟨z,h1,h2⟩:=qR k l h;exact⟨z,by simpa using h1,h2⟩
theorem nlc{P:Program}[Mo P]{n:Nat}{Q:Exit->Sg->Uv->Prop}{L:Sg}{B B':Uv}(i d:Nat){T:TypeId}{xs:Ut}{it:List It}(hs:Rm it=true)(hb:A6 B i=some (.blk T xs))(hB:Av B i (.blk T (XO d xs))=some B')(k:AK P n Q it L B'):AK P n Q it L B:=by
 obtain⟨rfl,hl⟩:=Ba hB;have hbi:B[i]? = some (.blk T xs):=S7 ▸ hb;refine AK.sub (λF E M a w h=>⟨E,M,?_,h.size,h.defers,h.slots⟩) hs k;rw[WQ,JX hbi];refine h.hs.re (λj=>?_) (λj=>?_) (λj=>?_) λj hj=>?_
 ·by_cases e:j=i
  ·subst e;rw[Fj];obtain⟨g,c,m,h1,cs,h2,h3⟩:=h.blk hb;refine⟨g,c,m,h1,cs,h2,F2.of (by rw[qT];exact h3.len) λk v x hv hx=>?_⟩;obtain⟨y,hy,hyx⟩:=qR _ _ hx;rcases hyx with rfl|rfl
   ·exact h3.get' hv hy
   ·exact iL (h3.get' hv hy)
  ·rw[Gf _ _ e];exact h.hs.blk j
 ·by_cases e:j=i
  ·subst e;rw[Fj,Rz hbi];rfl
  ·rw[Gf _ _ e]
 ·by_cases e:j=i
  ·subst e;rw[Fj,Rz hbi];rfl
  ·rw[Gf _ _ e]
 ·by_cases e:j=i
  ·subst e;rw[Rz hbi]at hj;cases hj
  ·rw[Gf _ _ e];exact hj
theorem UM{l m:Uu}(h:l=m):TV.one (LV.row l)=.one (.row m):=h ▸ rfl
theorem wS{a b:Crv}(ha:ZC a)(hb:ZC b)(ca:Cb a)(cb:Cb b):Ul 244 [.agg (cl a),.agg (cl b)] [pr (S5 a b)]:=by
 obtain⟨p1,l1,b1⟩:=rV ca cb;obtain⟨p2,l2,b2⟩:=rJ ca cb;have m1:=Tx (Gn a b) (Gn a b);have m2:=Tx (Gm a b) (Gm a b);have q1:=Pi (u:=5) b1 b1 (by omega);have q2:=Pi (u:=5) b2 b2 (by omega);exact Ui func244 rfl [.k (UJ ha hb ca cb),.k (UZ ha hb ca cb),.k (KU p1.t p1.t (by omega) (by omega) b1 b1 (by omega)),.k (KU p2.t p2.t (by omega) (by omega) b2 b2 (by omega)),.k (BW (by omega) (by omega) (U5 q1 (by omega)) (U5 q2 (by omega)))] rfl
theorem Qbd{a b c d:Crv}(ha:ZC a)(hb:ZC b)(hc:ZC c)(hd:ZC d)(ca:Cb a)(cb:Cb b)(cc:Cb c)(cd:Cb d):Ul 176 [.agg (cl a),.agg (cl b),.agg (cl c),.agg (cl d)] [pr (Hq a b c d)]:=by
 have na:=Dw ha (ca.mono (by omega) (by omega));have nb:=Dw hb (cb.mono (by omega) (by omega));have nc:=Dw hc (cc.mono (by omega) (by omega));have nd:=Dw hd (cd.mono (by omega) (by omega));have s1:=nS ca cb;have s2:=nS cc cd;have s3:=aE ca cb;have s4:=aE cc cd;have da:=ca.d;have db:=cb.d;have dc:=cc.d;have dd:=cd.d;obtain⟨t1,l1,b1⟩:=rY cc cd;obtain⟨t2,l2,b2⟩:=rY ca cb;have k1:=Fx (S5 c d) ((a.d*b.d)*(a.d*b.d));have k2:=Fx (S5 a b) ((c.d*d.d)*(c.d*d.d));have w1:=P0 (U4 a.d) (U4 b.d) (by omega) (by omega);have w2:=P0 (U4 c.d) (U4 d.d) (by omega) (by omega);have w3:=P0 (U4 (a.d*b.d)) (U4 (a.d*b.d)) (by omega) (by omega);have w4:=P0 (U4 (c.d*d.d)) (U4 (c.d*d.d)) (by omega) (by omega);have p1:=Pp (p:=S5 c d) (c:=(a.d*b.d)*(a.d*b.d)) (by omega) (U5 b1 (by omega)) (by omega);have p2:=Pp (p:=S5 a b) (c:=(c.d*d.d)*(c.d*d.d)) (by omega) (U5 b2 (by omega)) (by omega);have p3:=HW (p:=Fu (S5 c d) ((a.d*b.d)*(a.d*b.d))) (q:=Fu (S5 a b) ((c.d*d.d)*(c.d*d.d))) (by omega) (by omega) (U5 (Ge b1 s3) (by omega)) (U5 (Ge b2 s4) (by omega));exact Ui func176 rfl [.k na,.k nb,.k w1,.k nc,.k nd,.k w2,.k (wS hc hd cc cd),.k w3,.k p1,.k (wS ha hb ca cb),.k w4,.k p2,.k p3] rfl
theorem BJ{a b c d:Pt}(ha:Sc a.c)(hb:Sc b.c)(hc:Sc c.c)(hd:Sc d.c):Ul 176 [.agg (cl a.c),.agg (cl b.c),.agg (cl c.c),.agg (cl d.c)] [pr (Hq a.c b.c c.c d.c)]:=Qbd ha.n hb.n hc.n hd.n ha.cb hb.cb hc.cb hd.cb
set_option maxHeartbeats 1000000 in
theorem Qm2{a b c d:Pt}{t:Tm}(ha:Sc a.c)(hb:Sc b.c)(hc:Sc c.c)(hd:Sc d.c)(ht:Va t):Ul 255 [.oi 5,.agg (ta t),.one (.row [Fb a,Fb b,Fb c,Fb d])] [.agg (Lx (Bj (Fq t) a b c d)),.oi 0]:=by
 have hp:=(KN ha hb hc hd).dp;have e:Lx (Bj (Fq t) a b c d)=[.int .i64 5,.int .i64 a.id,.int .i64 b.id,.int .i64 c.id,.int .i64 d.id,pl (Hq a.c b.c c.c d.c),.int .i64 (Hl (Fq t) (Hq a.c b.c c.c d.c))]:=by rw[Bj]
 rw[e];have cg:=TA hp ht;have cf:=BJ ha hb hc hd;generalize Hq a.c b.c c.c d.c=F at *;refine Fv func255 rfl ?_;refine Uf [.k Qbv,.f rfl] rfl ?_;refine Uk (S:=Nat) 3 (λL1 i=>(22,.v (.oi i))::L1) (λi=>[.blk 105 (ta t),.blk 99 zCt,.blk 99 [.int .i64 5,.int .i64 (if 1<=i then a.id else 0),.int .i64 (if 2<=i then b.id else 0),.int .i64 (if 3<=i then c.id else 0),.int .i64 (if 4<=i then d.id else 0),.nils,.int .i64 0]]) (λi=>4-i) (λi=>i<=4) 0 (Qh _) rfl rfl λi hi=>?_
 rcases(show i=0\/i=1\/i=2\/i=3\/i=4 by omega)with rfl|rfl|rfl|rfl|rfl
 ·refine Uf [.t rfl,.x (i:=0) (xs:=Fb a) rfl,.i 0] rfl ?_ (by simp[U3]);exact rd 1 (by omega) (by omega) rfl
 ·refine Uf [.t rfl,.x (i:=1) (xs:=Fb b) rfl,.i 1] rfl ?_ (by simp[U3]);exact rd 2 (by omega) (by omega) rfl
 ·refine Uf [.t rfl,.x (i:=2) (xs:=Fb c) rfl,.i 2] rfl ?_ (by simp[U3]);exact rd 3 (by omega) (by omega) rfl
 ·refine Uf [.t rfl,.x (i:=3) (xs:=Fb d) rfl,.i 3] rfl ?_ (by simp[U3]);exact rd 4 (by omega) (by omega) rfl
 ·exact Uh [.f rfl,.f rfl,.f rfl,.f rfl,.f rfl,.x (i:=0) (xs:=Fb a) rfl,.x (i:=1) (xs:=Fb b) rfl,.x (i:=2) (xs:=Fb c) rfl,.x (i:=3) (xs:=Fb d) rfl,.k cf,.k cg] rfl
theorem Qt4{s m:Pt×Pt}{t:Tm}(h1:Sc s.1.c)(h2:Sc s.2.c)(h3:Sc m.1.c)(h4:Sc m.2.c)(ht:Va t):U6 prog 259 [.agg (Fb m.1),.agg (Fb m.2),.one (.ow 0 0),.one (.ow 1 0),.one (.ow 2 0)] [.blk 40 (Fb s.1),.blk 40 (Fb s.2),.blk 105 (ta t)] [] [.blk 40 (Fb (Pm (Fq t) s m).1),.blk 40 (Fb (Pm (Fq t) s m).2),.blk 105 (ta t)]:=by
 have cf:=BJ h1 h2 h3 h4;have cg:=TA (KN h1 h2 h3 h4).dp ht;unfold Pm;refine Fv func259 rfl ?_;by_cases h:Hl (Fq t) (Hq s.1.c s.2.c m.1.c m.2.c)<0
 ·rw[if_pos h];exact Uj [] [0,1,2] [.k cf,.k cg,.t (decide_eq_true h)] rfl
 ·rw[if_neg h];exact Uj [] [0,1,2] [.k cf,.k cg,.f (decide_eq_false h)] rfl
theorem Qtz{s m:Pt×Pt}{t:Tm}{L:List Ct}(h1:Sc s.1.c)(h2:Sc s.2.c)(h3:Sc m.1.c)(h4:Sc m.2.c)(ht:Va t)(hL:L.length<=1000000):U6 prog 260 [.agg (Fb m.1),.agg (Fb m.2),.one (.ow 0 0),.one (.ow 1 0),.one (.ow 2 0),.one (.ow 3 0)] [.blk 40 (Fb s.1),.blk 40 (Fb s.2),.blk 105 (ta t),.blk 66 [.orow 4 7 none],.row false 99 7 (Fl L)] [] [.blk 40 (Fb s.1),.blk 40 (Fb s.2),.blk 105 (ta t),.blk 66 [.orow 4 7 none],.row false 99 7 (Fl (if ZG s m=true then L++[Bj (Fq t) s.1 s.2 m.1 m.2]else L))]:=by
 have cm:=Qm2 h1 h2 h3 h4 ht;have hq:∀y∈[Lx (Bj (Fq t) s.1 s.2 m.1 m.2)],y.length=7:=λy hy=>by rw[Qk.1 hy];rfl
 have hcl:=Be L;have hsn:Fl (L++[Bj (Fq t) s.1 s.2 m.1 m.2])=Fl L++[Lx (Bj (Fq t) s.1 s.2 m.1 m.2)]:=by simp[Fl]
 refine Fv func260 rfl ?_;by_cases e1:m.1.id=s.1.id
 ·by_cases e2:m.2.id=s.2.id
  ·rw[if_neg (by simp[ZG,e1,e2])];exact Uj [] [0,1,2,3,4] [.g 15 false (by simp[e1]),.f (by simp[e2])] rfl
  ·rw[if_pos (by simp[ZG,e2]),hsn];exact Uj [] [0,1,2,3,4] [.g 15 false (by simp[e1]),.t (by simp[e2]),.k cm,.s (sz:=7) hq] rfl (by simp[U3,hcl];omega)
 ·rw[if_pos (by simp[ZG,e1]),hsn];exact Uj [] [0,1,2,3,4] [.g 15 true (by simp[e1]),.t rfl,.k cm,.s (sz:=7) hq] rfl (by simp[U3,hcl];omega)
theorem SD(M:List Pt):Ht 0 M=[]:=by cases M <;> rfl
def yO(M:List Pt)(x:Pt)(i j:Nat):List (Pt×Pt):=Ht i M++((M.drop (i+1)).take j).map (λy=>(x,y))
theorem rN(M:List Pt)(x:Pt)(i:Nat):yO M x i 0=Ht i M:=by rw[yO,Vv,X7,Zv]
theorem rM{M:List Pt}{i j:Nat}{x y:Pt}(hy:(M.drop (i+1))[j]? = some y):yO M x i (j+1)=yO M x i j++[(x,y)]:=by
 unfold yO;rw[Z1,hy,Option.toList_some,Yj,Ze];rfl
theorem oP{M:List Pt}{i j:Nat}{x:Pt}(hx:M[i]? = some x)(hj:(M.drop (i+1)).length<=j):yO M x i j=Ht (i+1) M:=by
 unfold yO;rw[Qo hj,Ln M i x hx]
theorem Qpv{M:List Pt}{i j:Nat}{x:Pt}(hx:M[i]? = some x):∀m∈yO M x i j,m.1∈M/\m.2∈M:=λm hm=>by
 rcases Qp.1 hm with h|h
 ·exact Tg _ _ m h
 ·obtain⟨y,hy,rfl⟩:=Q9.1 h;exact⟨Qa hx,Qz (Qn hy)⟩
theorem Qf4{l:List Pt}{t:Tm}{s0:Pt×Pt}(hl:∀p∈l,Sc p.c)(hs:s0.1∈l/\s0.2∈l)(hn:l.length≤1000)(ht:Va t):U6 prog 258 [.one (pts l),.one (.ofn 259 [] [.ow 0 0,.ow 1 0,.ow 2 0])] [.blk 40 (Fb s0.1),.blk 40 (Fb s0.2),.blk 105 (ta t)] [] [.blk 40 (Fb (G9 (Fq t) s0 (Gi l)).1),.blk 40 (Fb (G9 (Fq t) s0 (Gi l)).2),.blk 105 (ta t)]:=by
 have hcl:=G7 l;have hsc:∀ps:List (Pt×Pt),(∀m∈ps,m.1∈l/\m.2∈l)->Sc (G9 (Fq t) s0 ps).1.c/\Sc (G9 (Fq t) s0 ps).2.c:=λps h=>by
  obtain⟨h1,h2⟩:=Lj (Fq t) ps s0 hs h;exact⟨hl _ h1,hl _ h2⟩
 show U6 prog 258 [.one (.row (U0 l)),.one (.ofn 259 [] [.ow 0 0,.ow 1 0,.ow 2 0])] _ _ _;refine Fv func258 rfl ?_;refine Uf [] rfl ?_;refine lp (S:=Nat) 3 (λL1 i=>(10,.v (.oi i))::L1) (λi=>[.blk 40 (Fb (G9 (Fq t) s0 (Ht i l)).1),.blk 40 (Fb (G9 (Fq t) s0 (Ht i l)).2),.blk 105 (ta t)]) (λi=>l.length-i) (λi=>i<=l.length) 0 (Qh _) rfl (λ_ _=>rfl) (by rw[SD];rfl) λi hi=>?_
 by_cases hlt:i<l.length
 ·obtain⟨x,hx⟩:=gxE (l:=l) (i:=i) hlt;have ed1:(U0 l).drop (i+1)=U0 (l.drop (i+1)):=by simp[U0,Vi]
  have hdl:=G7 (l.drop (i+1));have hdl2:(l.drop (i+1)).length<=1000:=by rw[Q8];omega
  rw[<-rN l x i];refine go tt [.t (by simp[hcl];omega),.x (Ts hx),.r 17 (eI (b:=((i+1:Nat):Int)) (by simp)),.i (i+1),.r 18 (UM ed1)] rfl (by simp[U3,G7,eq_true (p:=∀z,z∈U0 l->z.length=ti40.sz) (YA l)];omega) ?_;refine Uk (S:=Nat) 4 (λL1 j=>(20,.v (.oi j))::L1) (λj=>[.blk 40 (Fb (G9 (Fq t) s0 (yO l x i j)).1),.blk 40 (Fb (G9 (Fq t) s0 (yO l x i j)).2),.blk 105 (ta t),.blk 40 (Fb x)]) (λj=>(l.drop (i+1)).length-j) (λj=>j<=(l.drop (i+1)).length) 0 (Qh _) rfl rfl λj hj=>?_
  by_cases hltj:j<(l.drop (i+1)).length
  ·obtain⟨y,hy⟩:=gxE (l:=(l.drop (i+1))) (i:=j) hltj;obtain⟨s1,s2⟩:=hsc (yO l x i j) (Qpv hx);have cn:=Qt4 (s:=G9 (Fq t) s0 (yO l x i j)) (m:=(x,y)) s1 s2 (hl x (Qa hx)) (hl y (Qz (Qa hy))) ht;rw[<-yH,<-rM hy]at cn;refine go tt [.T,.x (Ts hy),.c [0,1,2] cn] rfl (by simp[U3,-List.length_drop];omega) ?_;exact rd (j+1) (by omega) hltj rfl
  ·have e:=oP hx (Yb hltj);rw[e];refine go tt [.F] rfl (by simp[U3,-List.length_drop];omega) ?_;exact rd (i+1) (by omega) hlt rfl
 ·obtain rfl:i=l.length:=by omega
  exact Uj [] [0,1,2] [.f (by simp[hcl])] rfl
theorem Qf5{l:List Pt}{t:Tm}{s:Pt×Pt}(hl:∀p∈l,Sc p.c)(hs:s.1∈l/\s.2∈l)(hn:l.length≤10)(ht:Va t):U6 prog 258 [.one (pts l),.one (.ofn 260 [] [.ow 0 0,.ow 1 0,.ow 2 0,.ow 3 0])] [.blk 40 (Fb s.1),.blk 40 (Fb s.2),.blk 105 (ta t),.blk 66 [.orow 4 7 none],.row false 99 7 []] [] [.blk 40 (Fb s.1),.blk 40 (Fb s.2),.blk 105 (ta t),.blk 66 [.orow 4 7 none],.row false 99 7 (Fl (M4 (Fq t) s (Gi l)))]:=by
 have hcl:=G7 l;have hpk:∀i,i<=l.length->(Ht i l).length<=100:=λi hi=>by
  have:=WJ i l;have:i*l.length<=10*10:=Zd (by omega) hn;omega
 show U6 prog 258 [.one (.row (U0 l)),.one (.ofn 260 [] [.ow 0 0,.ow 1 0,.ow 2 0,.ow 3 0])] _ _ _;refine Fv func258 rfl ?_;refine Uf [] rfl ?_;refine lp (S:=Nat) 5 (λL1 i=>(10,.v (.oi i))::L1) (λi=>[.blk 40 (Fb s.1),.blk 40 (Fb s.2),.blk 105 (ta t),.blk 66 [.orow 4 7 none],.row false 99 7 (Fl (M4 (Fq t) s (Ht i l)))]) (λi=>l.length-i) (λi=>i<=l.length) 0 (Qh _) rfl (λ_ _=>rfl) (by rw[SD];rfl) λi hi=>?_
 by_cases hlt:i<l.length
 ·obtain⟨x,hx⟩:=gxE (l:=l) (i:=i) hlt;have ed1:(U0 l).drop (i+1)=U0 (l.drop (i+1)):=by simp[U0,Vi]
  have hdl:=G7 (l.drop (i+1));have hdl2:(l.drop (i+1)).length<=10:=by rw[Q8];omega
  rw[<-rN l x i];refine go tt [.t (by simp[hcl];omega),.x (Ts hx),.r 17 (eI (b:=((i+1:Nat):Int)) (by simp)),.i (i+1),.r 18 (UM ed1)] rfl (by simp[U3,G7,eq_true (p:=∀z,z∈U0 l->z.length=ti40.sz) (YA l)];omega) ?_;refine Uk (S:=Nat) 6 (λL1 j=>(20,.v (.oi j))::L1) (λj=>[.blk 40 (Fb s.1),.blk 40 (Fb s.2),.blk 105 (ta t),.blk 66 [.orow 4 7 none],.row false 99 7 (Fl (M4 (Fq t) s (yO l x i j))),.blk 40 (Fb x)]) (λj=>(l.drop (i+1)).length-j) (λj=>j<=(l.drop (i+1)).length) 0 (Qh _) rfl rfl λj hj=>?_
  by_cases hltj:j<(l.drop (i+1)).length
  ·obtain⟨y,hy⟩:=gxE (l:=(l.drop (i+1))) (i:=j) hltj;have hdn:(M4 (Fq t) s (yO l x i j)).length<=1000000:=by
    refine Qc (IA _ _ _) ?_;unfold yO;rw[Qx,Zb,Qr];have:=hpk i hi;omega
   have cn:=Qtz (s:=s) (m:=(x,y)) (L:=M4 (Fq t) s (yO l x i j)) (hl _ hs.1) (hl _ hs.2) (hl x (Qa hx)) (hl y (Qz (Qa hy))) ht hdn;have en1:(if ZG s (x,y)=true then M4 (Fq t) s (yO l x i j)++[Bj (Fq t) s.1 s.2 x y]else M4 (Fq t) s (yO l x i j))=M4 (Fq t) s (yO l x i (j+1)):=by
    rw[rM hy];cases h:ZG s (x,y)with
    |true=>rw[if_pos rfl,Qog h]
    |false=>rw[if_neg (by decide),Qof h]
   dsimp only at cn;rw[en1]at cn;refine go tt [.T,.x (Ts hy),.c [0,1,2,3,4] cn] rfl (by simp[U3,-List.length_drop];omega) ?_;exact rd (j+1) (by omega) hltj rfl
  ·have e:=oP hx (Yb hltj);rw[e];refine go tt [.F] rfl (by simp[U3,-List.length_drop];omega) ?_;exact rd (i+1) (by omega) hlt rfl
 ·obtain rfl:i=l.length:=by omega
  exact Uj [] [0,1,2,3,4] [.f (by simp[hcl])] rfl
theorem IS{l:List Pt}{a:Tm}{c:Cr}{r1:Uu}(hl:∀p∈l,Sc p.c)(hn:l.length≤10)(ha:Va a):U6 prog 198 [.one (.ow 0 0),.agg (ta a)] [.blk 227 (Hn c (U0 l) r1)] [.one (.row (Fl (Lm (Fq a) l)))] [.blk 227 (Hn c (U0 l) (U0 (Ij (Fq a) l)))]:=by
 have hcl:=G7 l;refine Fv func198 rfl ?_;by_cases h2:l.length<2
 ·obtain⟨e1,e2⟩:=Qc5 (Fq a) h2;rw[e1,e2];refine Uf [.k Iq] rfl ?_;refine nlc 0 13 rfl rfl rfl ?_;have hml:(l.map Fb).length=l.length:=Zb _;exact Uj [] [0] [.T] rfl
 ·obtain⟨x,y,l',rfl⟩:=Qws h2;obtain⟨l,hle⟩:=nmE (x::y::l');have hx0:(U0 l)[0]? = some (Fb x):=by rw[hle];rfl
  have hy0:(U0 l)[1]? = some (Fb y):=by rw[hle];rfl
  have hxl:x∈l:=by rw[hle];simp
  have hyl:y∈l:=by rw[hle];simp
  have eB:Ij (Fq a) (x::y::l')=[(G9 (Fq a) (x,y) (Gi l)).1,(G9 (Fq a) (x,y) (Gi l)).2]:=by rw[hle];rfl
  have eC:Lm (Fq a) (x::y::l')=M4 (Fq a) (G9 (Fq a) (x,y) (Gi l)) (Gi l):=by rw[hle];rfl
  rw[eB,eC];rw[<-hle]at hl hn h2 hcl ⊢;have c1:=Qf4 (t:=a) (s0:=(x,y)) hl ⟨hxl,hyl⟩ (by omega) ha;obtain⟨n1,n2⟩:=Lj (Fq a) (l:=l) (Gi l) (x,y) ⟨hxl,hyl⟩ (Tg _ _);generalize G9 (Fq a) (x,y) (Gi l)=s at *;have c2:=Qf5 (t:=a) (s:=s) hl ⟨n1,n2⟩ hn ha;have hml:(l.map Fb).length=l.length:=Zb _;exact Uj [5] [0] [.k Iq,.F,.x hx0,.x hy0,.c [2,3,1] c1,.oc 8 0 99 7,.c [2,3,1,4,5] c2] rfl
theorem Qtl{T:Nat}{t:Rat}{Bc:Tm->List Ct}{Br:Tm->Uu}{r0:Uu}(ht:Qs 1640000 t)(hB:BuildOk Bc)
 (hb:∀a c r1,Va a->CrOk c->U6 prog 198 [.one (.ow 0 0),.agg (ta a)] [.blk T (Hn c r0 r1)] [.one (.row (Fl (Bc a)))] [.blk T (Hn c r0 (Br a))])
 {K:Nat} {c c':Cr} {r1 r1':Uu} {n:Int} (hc:CrOk c) (hev:0<=c.ev/\c.ev+K<=1000000000000000000) (h:Fo c.now t<=0) (hg:WE Bc Br t K c r1 0=some (c',r1',n)) :
 U6 prog 396 [.one (.ow 0 0),.agg (rl t),.one (.ofn 198 [.ow 0 0] [])] [.blk T (Hn c r0 r1)] [.oi n,.oi 0] [.blk T (Hn c' r0 r1')]:=by
 have qt:Qb t:=ht.mono (by decide);have c1:=Dh hc.n.tb qt;refine Fv func396 rfl ?_;refine Uf [.c [0] (QV hc.n),.k c1,.f (by simpa using h)] rfl ?_;refine Uk (S:=Nat×Cr×Uu×Int) 2 (λL1 s=>(8,.v (.oi s.2.2.2))::L1) (λs=>[.blk T (Hn s.2.1 r0 s.2.2.1),.blk 42 (rl t)]) (λs=>s.1) (λs=>CrOk s.2.1/\(0<=s.2.1.ev/\s.2.1.ev+s.1<=1000000000000000000)/\(0<=s.2.2.2/\s.2.2.2+s.1<=1000000000000000000)/\WE Bc Br t s.1 s.2.1 s.2.2.1 s.2.2.2=some (c',r1',n)) (K,c,r1,0) ⟨hc,hev,⟨Int.le_refl 0,by dsimp only;omega⟩,hg⟩ rfl rfl λ⟨k,x,r,m⟩ ⟨j1,j2,j3,j4⟩=>?_
 dsimp only at j1 j2 j3 j4 ⊢;cases k with
 |zero=>cases j4
 |
  succ k =>
  simp only[WE]at j4;obtain⟨ws,w1,j4⟩:=Qd.1 j4;obtain⟨o,o1,j4⟩:=Qd.1 j4;have cn:=MQ (T:=T) (r0:=r0) (r1:=r) j1 w1 o1;have ca:=VC (U4 t.num) (U4 (t.den:Int)) (Qc ht.1 (by decide)) (Qc ht.2 (by decide)) (by rw[Sw];exact ht.mono (by decide));rw[Sw]at ca;cases o with
  |
   none =>
   injection j4 with j4;injection j4 with e1 j4;injection j4 with e2 e3;subst e1;subst e2;subst e3;exact Uj [] [0] [.c [0] cn,.g 25 true rfl,.t rfl,.k ca] rfl
  |
   some a =>
   have ha:=LF j1 w1 o1;dsimp only at j4;have cc:=Dh ha.tb qt;by_cases h0:0<Fo a t
   ·rw[if_pos h0]at j4;injection j4 with j4;injection j4 with e1 j4;injection j4 with e2 e3;subst e1;subst e2;subst e3;exact Uj [] [0] [.c [0] cn,.g 25 false rfl,.k cc,.t (by simpa using h0),.k ca] rfl
   ·rw[if_neg h0]at j4;obtain⟨w2,l1,j4⟩:=Qd.1 j4;have j1':=El j1 w1;have cl:=S8 (b:=a) (l:=[]) ha.tb (λt ht=>by cases ht) (by decide) rfl;have cb:=hb a { x with l:=ws } r ha j1';have cy:=UX (T:=T) (r0:=r0) (r1:=Br a) j1' ha (hB.p a ha) (hB.n a ha) l1;have hf:decide (0<Fo a t)=false:=by simpa using h0
    refine Ug [.c [0] cn,.g 25 false rfl,.k cc,.f hf,.k cl,.c [0] cb,.c [0] cy] rfl ?_;exact rd (k,⟨a,w2,x.ev+1⟩,Br a,m+1) (by dsimp only;omega) ⟨lay_ok _ j1' ha (hB.p a ha) (hB.n a ha) l1,by dsimp only;omega,by dsimp only;omega,j4⟩ rfl
end Orr
namespace Orr
open Go
def Tj:Uq->Nat
 | []=>0
 |x::l=>x+10000*Tj l
def Dg(l:Uq):Prop:=∀x∈l,x<10000
def Gj(x:Nat):Uq:=if h:x=0 then []else(x % 10000)::Gj (x / 10000)
termination_by x
decreasing_by omega
theorem Hx:Gj 0=[]:=by unfold Gj;simp
theorem YW{x:Nat}(h:x≠0):Gj x=(x % 10000)::Gj (x / 10000):=by rw[Gj];simp[h]
theorem Rf(x:Nat):Tj (Gj x)=x:=by
 induction x using Nat.strongRecOn with
 |
  _ x ih =>
  rcases Q3 x with h|h
  ·subst h;rw[Hx];rfl
  ·rw[YW (by omega)];simp only[Tj];rw[ih _ (by omega)];omega
theorem Ch(x:Nat):Dg (Gj x):=by
 induction x using Nat.strongRecOn with
 |
  _ x ih =>
  rcases Q3 x with h|h
  ·subst h;rw[Hx];intro y hy;cases hy
  ·rw[YW (by omega)];intro y hy;rcases Ql.1 hy with rfl|hy
   ·omega
   ·exact ih _ (by omega) y hy
theorem MG{x:Nat}:(Gj x).length=0↔x=0:=by
 constructor
 ·intro h;have h0:=Qj h;have:=Rf x;rw[h0]at this;exact this.symm
 ·rintro rfl;rw[Hx];rfl
theorem Ie{x:Nat}(h:x≠0):(Gj (x / 10000)).length+1=(Gj x).length:=by rw[YW h];rfl
theorem Qb5{x:Nat}(h:x<1000000000000):(Gj x).length<=3:=by
 by_cases h0:x=0
 ·subst h0;rw[Hx];exact Qh _
 ·have h1:=Ie h0;by_cases h2:x / 10000=0
  ·rw[h2,Hx]at h1;simp at h1;omega
  ·have h3:=Ie h2;by_cases h4:x / 10000 / 10000=0
   ·rw[h4,Hx]at h3;simp at h3;omega
   ·have h5:=Ie h4;have h6:x / 10000 / 10000 / 10000=0:=by omega
    rw[h6,Hx]at h5;simp at h5;omega
theorem Mq(x:Nat):(Gj x).length<=sz x:=by
 induction x using Nat.strongRecOn with
 |
  _ x ih =>
  by_cases h0:x=0
  ·subst h0;rw[Hx];exact Qh _
  ·have h1:=Ie h0;have h2:=ih (x / 10000) (by omega);have h3:sz (x / 10000)+1<=sz x:=by
    have h4:x<2^sz x:=FK x;rcases hs:sz x with _|k
    ·rw[hs]at h4;simp at h4;omega
    ·rw[hs]at h4;have:sz (x / 10000)<=k:=Ns.2 (by rw[Zr]at h4;omega);omega
   omega
theorem Pk(a b:Uq):Tj (a++b)=Tj a+10000^a.length*Tj b:=by
 induction a with
 |nil=>simp[Tj]
 |
  cons x a ih =>
  simp only[Xc,Tj,ih,Q5,Zr];rw[Xk,<-Xz,Zq 10000 (10000^a.length)];omega
theorem Tv{l:Uq}{i x:Nat}(h:l[i]? = some x):Tj (l.take (i+1))=Tj (l.take i)+10000^i*x:=by
 have hi:=(Qe.1 h).1;rw[show l.take (i+1)=l.take i++[x] by rw[Z1,h];rfl,Pk,Qr,Zx (by omega)];simp[Tj]
theorem CH:∀{l:Uq},Dg l->Tj l<10000^l.length
 | [],_=>by simp[Tj]
 |
  x::l,h=>by
  have h1:=h x (Qy ..);have h2:=CH (l:=l) λy hy=>h y (Qg _ hy)
  simp only[Tj,Q5,Zr];omega
theorem CS:∀{l:Uq},(∀x∈l,x=0)->Tj l=0
 | [],_=>rfl
 |
  x::l,h=>by
  have h1:=h x (Qy ..);have h2:=CS (l:=l) λy hy=>h y (Qg _ hy)
  simp[Tj,h1,h2]
theorem Dg.take{l:Uq}(h:Dg l)(k:Nat):Dg (l.take k):=λx hx=>h x (Qn hx)
theorem Dg.snoc{l:Uq}(h:Dg l){x:Nat}(hx:x<10000):Dg (l++[x]):=by
 intro y hy;rcases Qp.1 hy with hy|hy
 ·exact h y hy
 ·rw[Qk.1 hy];exact hx
theorem Dg.nil:Dg []:=λx h=>by cases h
theorem mN:∀{l:Uq},Dg l->(∀x,l[l.length-1]? = some x->x≠0)->l=Gj (Tj l)
 | [],_,_=>by rw[Tj,Hx]
 |
  x::l,h,hl=>by
  have h1:=h x (Qy ..);have h2:l=Gj (Tj l):=mN (λy hy=>h y (Qg _ hy)) λy hy=>hl y (by
   rcases l with _|⟨z,t⟩
   ·simp at hy
   ·simpa using hy)
  have h3:x+10000*Tj l≠0:=by
   intro e;have hx:x=0:=by omega
   have hd:Tj l=0:=by omega
   rw[hd,Hx]at h2;subst h2;exact hl x rfl hx
  simp only[Tj];rw[YW h3,show(x+10000*Tj l) % 10000=x by omega,show(x+10000*Tj l) / 10000=Tj l by omega,<-h2]
theorem uU{l:Uq}{m:Nat}(hd:Dg l)(hm:m<=l.length)(h1:∀j x,m<=j->l[j]? = some x->x=0)(h2:0<m->∃y,l[m-1]? = some y/\y≠0):l.take m=Gj (Tj l):=by
 have e:Tj l=Tj (l.take m):=by
  conv=>lhs;rw[<-Zh m l,Pk]
  rw[CS (l:=l.drop m) λx hx=>?_]
  ·omega
  ·obtain⟨j,hj⟩:=Zk.1 hx;rw[Xd]at hj;exact h1 (m+j) x (by omega) hj
 rw[e];refine mN (hd.take m) λx hx=>?_
 have hl:(l.take m).length=m:=by rw[Qr];omega
 rw[hl]at hx;rcases Q3 m with h0|h0
 ·subst h0;simp at hx
 ·obtain⟨y,hy,hy0⟩:=h2 h0;rw[Kf (by omega),hy]at hx;injection hx with hx;rw[<-hx];exact hy0
theorem OQ{o c i d m P V:Nat}(hP:P=10000^i)(h:o+c*P=V):o+P*((c+d*m) % 10000)+(c+d*m) / 10000*(P*10000)=V+P*d*m:=by
 have e:=Xf (c+d*m) 10000;generalize (c+d*m) / 10000=q at *;generalize (c+d*m) % 10000=r at *;have e2:P*(c+d*m)=P*(10000*q+r):=by rw[e]
 grind
theorem XQ{x y:Nat}(h:x<=y):(Gj x).length<=(Gj y).length:=by
 induction y using Nat.strongRecOn generalizing x with
 |
  _ y ih =>
  by_cases h0:x=0
  ·subst h0;rw[Hx];exact Qh _
  ·have h1:=Ie h0;have h2:=Ie (x:=y) (by omega);have:=ih (y / 10000) (by omega) (x:=x / 10000) (Nat.div_le_div_right h);omega
theorem Qb4{n x:Nat}(h:10000^n<=x):n+1<=(Gj x).length:=by
 have h1:=CH (Ch x);rw[Rf]at h1;have h2:n<(Gj x).length:=(Nat.pow_lt_pow_iff_right (by decide)).1 (Z3 h h1);omega
theorem uK{x y:Nat}(h:(Gj x).length<(Gj y).length):x<y:=by
 rcases Zc x y with h1|h1
 ·exact h1
 ·have:=XQ h1;omega
theorem Qb6{k y:Nat}(h:y<10000^k):(Gj y).length<=k:=by
 induction k generalizing y with
 |
  zero =>
  have:y=0:=by simpa using h
  subst this;rw[Hx];exact Qm _
 |
  succ k ih =>
  by_cases hy0:y=0
  ·subst hy0;rw[Hx];exact Qh _
  ·have h8:=Ie hy0;have:=ih (y:=y / 10000) (by rw[Zr]at h;omega);omega
theorem Qg0{o:Uq}(h:Dg o)(hl:o.length<=(Gj (Tj o)).length):o=Gj (Tj o):=by
 refine mN h λx hx h0=>?_
 subst h0;have hne:0<o.length:=by
  rcases o with _|⟨a,o⟩
  ·simp at hx
  ·simp
 have h1:Tj o=Tj (o.take (o.length-1)):=by
  have:=Tv hx;rw[show o.length-1+1=o.length by omega,Q7]at this;omega
 have h2:=CH (h.take (o.length-1));rw[<-h1,Qr,Zx (by omega)]at h2;have:=Qb6 h2;omega
theorem XJ{l:Uq}{j d:Nat}(h:l[j]? = some d):Tj (l.drop j)=d+10000*Tj (l.drop (j+1)):=by
 obtain⟨hj,he⟩:=Qe.1 h;rw[Zp hj,he];rfl
theorem HL{l:Uq}{j y:Nat}(h:j<l.length):(l.set j y).drop j=y::l.drop (j+1):=by
 rw[Zp (by simpa using h)];simp only[List.getElem_set_self];rw[List.drop_set_of_lt (by omega)]
theorem Dg.set{l:Uq}(h:Dg l){j y:Nat}(hy:y<10000):Dg (l.set j y):=by
 intro x hx;rcases Jq hx with hx|rfl
 ·exact h x hx
 ·exact hy
theorem Dg.zeros(n:Nat):Dg (List.replicate n 0):=by
 intro x hx;rw[Zw hx];decide
theorem uG{V kd d:Nat}(hk:0<kd):(d+10000*V) / kd=(V % kd*10000+d) / kd+10000*(V / kd)/\(d+10000*V) % kd=(V % kd*10000+d) % kd/\(d<10000->(V % kd*10000+d) / kd<10000):=by
 have e:=Xf V kd;have e2:d+10000*V=(V % kd*10000+d)+kd*(10000*(V / kd)):=by
  conv=>lhs;rw[<-e]
  grind
 refine⟨?_,?_,λhd=>?_⟩
 ·rw[e2,Wc _ _ hk]
 ·rw[e2,Ka]
 ·have:=Z6 V hk;exact(Vw hk).2 (by grind)
theorem MH(l:Uq)(j:Nat)(h:j<=l.length):Tj l=Tj (l.take j)+10000^j*Tj (l.drop j):=by
 conv=>lhs;rw[<-Zh j l,Pk]
 rw[Qr,Zx h]
theorem CY{a b:Uq}{j d e:Nat}(ha:Dg a)(hd:a[j]? = some d)(he:b[j]? = some e)(hs:a.drop (j+1)=b.drop (j+1))(h:d<e):Tj a<Tj b:=by
 have h1:=(Qe.1 hd).1;have h2:=(Qe.1 he).1;rw[MH a j (by omega),MH b j (by omega),XJ hd,XJ he,hs];have h3:=CH (ha.take j);rw[Qr,Zx (by omega)]at h3;generalize 10000^j=P at *;have h4:P*(d+10000*Tj (b.drop (j+1)))+P<=P*(e+10000*Tj (b.drop (j+1))):=by
  rw[<-W5];exact Zu _ (by omega)
 omega
def dl(l:Uq):LV:=.row (l.map λ(x:Nat)=>[.int .i64 (x:Int)])
theorem Tz(l:Uq):(l.map λ(x:Nat)=>[LV.int .i64 (x:Int)]).length=l.length:=by simp
theorem G0{l:Uq}{i x:Nat}(h:l[i]? = some x):(l.map λ(x:Nat)=>[LV.int .i64 (x:Int)])[i]? = some [.int .i64 (x:Int)]:=by rw[Za,h];rfl
abbrev nd(x:Nat):LV:=dl (Gj x)
end Orr
namespace Orr
open Go Go.Proofs Tryz
set_option maxRecDepth 10000
abbrev Bv(l:Uq):Uu:=l.map λ(x:Nat)=>[.int .i64 (x:Int)]
theorem Qum(l:Uq):∀c∈Bv l,c.length=1:=λc hc=>by obtain⟨x,_,rfl⟩:=Q9.1 hc;rfl
theorem HF{l:Uq}(hd:Dg l):Ul 214 [.one (.row (Bv l))] [.one (nd (Tj l))]:=by
 refine Fv func214 rfl (ln 0 rfl rfl λhl=>?_);rw[Zb]at hl;refine Uf [] rfl ?_;refine lp (S:=Nat) 0 (λL1 n=>(3,.v (.oi n))::L1) (λ_=>[]) id (λn=>n<=l.length/\∀j x,n<=j->l[j]? = some x->x=0) (Bv l).length ⟨by simp,λj x h1 h2=>by
  have:=(Qe.1 h2).1;simp at h1;omega⟩ rfl (λ_ _=>rfl) rfl λn ⟨h1,h2⟩=>?_
 cases n with
 |zero=>exact Uh [.g 8 false (by simp),.f rfl,.i 0] rfl (by have:=uU hd h1 h2 (λh=>by omega);unfold nd;rw[<-this];simp[dl]) (by simp[U3])
 |
  succ n =>
  obtain⟨x,hx⟩:=gxE (l:=l) (i:=n) (by omega);by_cases h0:x=0
  ·refine Ug [.g 8 true (by simp),.r 11 (v:=.oi n) (by simp),.x (G0 hx),.t (by simp[h0]),.r 17 (v:=.oi n) (by simp)] rfl ?_;exact rd n (by simp) ⟨by omega,λj y h3 h4=>by
    rcases Vl h3 with rfl|h3
    ·rw[hx]at h4;injection h4 with h4;rw[<-h4,h0]
    ·exact h2 j y h3 h4⟩ rfl
  ·exact Uh [.g 8 true (by simp),.r 11 (v:=.oi n) (by simp),.x (G0 hx),.f (by simp[h0]),.i (n+1)] rfl (by have:=uU hd h1 h2 (λ_=>⟨x,hx,h0⟩);unfold nd;rw[<-this];simp[dl,List.map_take]) (by simp[U3] <;> omega)
theorem eJ{x kd:Nat}(hxs:sz x<=100000000)(hk:0<kd/\kd<=65536):Ul 179 [.one (nd x),.oi kd] [.one (nd (x / kd)),.oi ((x % kd:Nat):Int)]:=by
 have hln:=Qc (Mq x) hxs;obtain⟨l,hl⟩:=nmE (Gj x);have hx:Tj l=x:=by rw[hl,Rf]
 have hd:Dg l:=by rw[hl];exact Ch x
 show Ul 179 [.one (.row (Bv (Gj x))),.oi kd] _;rw[<-hl]at hln ⊢;rw[<-hx];have hll:=Tz l;refine Fv func179 rfl ?_;refine Ug [.i (Bv l).length,.i (Bv l).length] rfl ?_;rw[hll,show List.replicate l.length [LV.int .i64 0]=Bv (List.replicate l.length 0) from by simp[Bv]];refine Uk (S:=Nat×Uq×Nat) 1 (λL1 s=>(8,.v (.oi ((s.1:Int)-1)))::(7,.v (.oi (s.2.2:Int)))::L1) (λs=>[.row false 3 1 (Bv s.2.1)]) (λs=>s.1) (λs=>s.1<=l.length/\s.2.1.length=l.length/\Dg s.2.1/\Tj (s.2.1.drop s.1)=Tj (l.drop s.1) / kd/\s.2.2=Tj (l.drop s.1) % kd) (l.length,List.replicate l.length 0,0) ⟨Qm _,by simp,Dg.zeros _,by simp[Tj],by simp[Tj]⟩ rfl rfl λ⟨k,o,R⟩ ⟨j1,j2,j3,j4,hR⟩=>?_
 dsimp only at j1 j2 j3 j4 hR ⊢;cases k with
 |
  zero =>
  have cc:=HF j3;rw[Xy,Xy]at j4;rw[j4]at cc;exact Uh [.f (by simp),.k cc] rfl (by rw[hR,Xy]) trivial
 |
  succ k =>
  obtain⟨d,hdk⟩:=gxE (l:=l) (i:=k) (by omega);have hd0:=hd d (Qa hdk);have hdd:=XJ hdk;obtain⟨s1,s2,s3⟩:=uG (V:=Tj (l.drop (k+1))) (kd:=kd) (d:=d) hk.1;rw[<-hdd]at s1 s2;have hr:=Z6 (Tj (l.drop (k+1))) hk.1;rw[<-hR]at s1 s2 s3 hr;have e:((k+1:Nat):Int)-1=(k:Int):=by omega
  have htd:((R:Int)*10000+(d:Int)).tdiv (kd:Int)=(((R*10000+d) / kd:Nat):Int):=rfl;have hle:=Jr (R*10000+d) kd;have htb:0<=((R:Int)*10000+(d:Int)).tdiv (kd:Int)/\((R:Int)*10000+(d:Int)).tdiv (kd:Int)<=655369999:=by
   rw[htd];revert hle;generalize (R*10000+d) / kd=Q;intro hle;omega
  rw[e];refine Ug [.t (by simp),.x (G0 hdk),.r 26 (eI (b:=((R*10000+d:Nat):Int)) (by omega)),.r 31 (eI (b:=(((R*10000+d) / kd:Nat):Int)) (by rfl)),.i k,.r 35 (eI (b:=(((R*10000+d) % kd:Nat):Int)) (by rfl))] rfl ?_;exact rd (k,o.set k ((R*10000+d) / kd),(R*10000+d) % kd) (by dsimp only;omega) ⟨by dsimp only;omega,by simp[j2],j3.set (s3 hd0),by dsimp only;rw[HL (by omega)];simp only[Tj];rw[j4,s1],by dsimp only;exact s2.symm⟩ (by simp[Bv,List.map_set];rfl)
theorem Qwo(x k:Nat):sz (x / k)<=sz x:=Ri (Jr _ _)
theorem nD{x y:Nat}{o:Uq}(h:Gb x=o++Gb y)(h0:y≠0):Gb x=(o++[y % 4294967296])++Gb (y / 4294967296):=by
 rw[h,Ez h0];simp
theorem Qo2(o:Uq)(z:Nat):lm (o++[z])=lm o++[[.int .u32 (z:Int)]]:=by simp[lm]
theorem Qx4{x:Nat}(hx:sz x<=100000000):Ul 107 [.one (nd x)] [lr (Gb x)]:=by
 have hlx:=Td hx;refine Fv func107 rfl ?_;refine Uf [.o 3 151 1] rfl ?_;refine Uk (S:=Nat×Uq) 1 (λL1 s=>(0,.v (.one (nd s.1)))::(3,.v (.one (.orow 0 1 none)))::L1) (λs=>[.row false 151 1 (lm s.2)]) (λs=>s.1) (λs=>Gb x=s.2++Gb s.1/\s.1<=x) (x,[]) ⟨rfl,Qm _⟩ rfl rfl λ⟨y,o⟩ ⟨j1,j2⟩=>?_
 dsimp only at j1 j2 ⊢;by_cases h0:y=0
 ·subst h0;rw[Hd,Zv]at j1;rw[j1];exact Uh [.f (by simp[Hx])] rfl
 ·have hs:=nD j1 h0;have hsy:sz y<=100000000:=Qc (Ri j2) hx;have c1:=eJ (x:=y) (kd:=65536) hsy (by decide);have c2:=eJ (x:=y / 65536) (kd:=65536) (Qc (Qwo _ _) hsy) (by decide);have hl:(Gj y).length≠0:=λh=>h0 (MG.1 h)
  have ol:o.length<=(Gb x).length:=by rw[j1];simp
  have e:y / 65536 % 65536*65536+y % 65536=y % 4294967296:=by omega
  have e2:y / 65536 / 65536=y / 4294967296:=by omega
  refine go tt [.t (by simp;omega),.k c1,.k c2,.r 26 (Ei (b:=((y % 4294967296:Nat):Int)) (by omega)),.s (sz:=1) (l:=[[.int .u32 ((y % 4294967296:Nat):Int)]]) (λc hc=>by rw[Qk.1 hc];rfl)] rfl (by simp[U3,U7];omega) ?_;rw[<-e2]at hs;exact rd (y / 65536 / 65536,o++[y % 4294967296]) (by dsimp only;omega) ⟨hs,by dsimp only;omega⟩ (by rw[Qo2];rfl)
abbrev ri(z:Int):Ut:=[nd z.natAbs,sg z]
theorem Qy3(b:Bool)(m:Nat):[nd m,LV.bool (b && decide (0<m))]=ri (Fa b m):=by
 simp only[ri,sg,Rw,LG]
theorem Qvt(x:Nat):(0<(Gj x).length)↔0<x:=by
 have:=MG (x:=x);omega
theorem Nw(b:Bool)(m:Nat):Ul 108 [.one (nd m),.one (.bool b)] [.agg (ri (Fa b m))]:=by
 rw[<-Qy3];have e:=Qvt m;cases b with
 |false=>exact Ui func108 rfl [.g 7 false rfl] rfl
 |true=>exact Ui func108 rfl [.g 7 true rfl] rfl (by simp[e]) trivial
theorem Dv{z:Int}:Ul 136 [.agg (ri z)] [.one (.bool (decide (z=0)))] :=
 Ui func136 rfl [] rfl (by have h:=MG (x:=z.natAbs);simp only[Tz];congr 3;rw[decide_eq_decide];omega) trivial
theorem QK{z:Int}:Ul 137 [.agg (ri z)] [.agg (ri (-z))]:=by
 have h:=Nw (!decide (z<0)) z.natAbs;have e:Fa (!decide (z<0)) z.natAbs=-z:=by unfold Fa;by_cases h:z<0 <;> simp[h] <;> omega
 rw[e]at h;exact Ui func137 rfl [.k h] rfl
theorem Qty{z:Int}(hz:Fc z<=100000000):Ul 45 [.agg (ri z)] [.agg (Hg z)] :=
 Ui func45 rfl [.k (Qx4 hz)] rfl
theorem eBo{a b:Bool}(h:a=b):TV.one (LV.bool a)=.one (.bool b):=h ▸ rfl
theorem Ig(l:Uq)(x:Nat):Bv (l++[x])=Bv l++[[.int .i64 (x:Int)]]:=by simp[Bv]
theorem uW{x y:Nat}{o:Uq}(h:Gj x=o++Gj y)(h0:y≠0):Gj x=(o++[y % 10000])++Gj (y / 10000):=by
 rw[h,YW h0];simp
theorem Qt0{b:Bool}{x:Nat}(hx:x<=4000000000000000000)(hb:b=true->0<x):Ul 46 [.oi (Fa b x)] [.agg (ri (Fa b x))]:=by
 have hl:(Gj x).length<=100:=by
  have:=Mq x;have h2:sz x<=64:=Ns.2 (by omega);omega
 have hm:=Nw b x;refine Fv func46 rfl ?_;cases b with
 |
  false =>
  show AK prog _ _ _ (VB 0 [.oi x]) [];refine Uf [.f (by simp <;> omega),.r 3 (eBo (b:=false) (by simp)),.f rfl,.o 4 3 1] rfl ?_;refine Uk (S:=Nat×Uq) 2 (λL1 s=>(0,.v (.oi (s.1:Int)))::(4,.v (.one (.orow 1 1 none)))::L1) (λs=>[.blk 49 [.nils,.bool false],.row false 3 1 (Bv s.2)]) (λs=>s.1) (λs=>Gj x=s.2++Gj s.1/\s.1<=x) (x,[]) ⟨rfl,Qm _⟩ rfl rfl λ⟨y,o⟩ ⟨j1,j2⟩=>?_
  dsimp only at j1 j2 ⊢;by_cases h0:y=0
  ·subst h0;rw[Hx,Zv]at j1;rw[<-j1];exact Uh [.f (by simp),.k hm] rfl
  ·have hs:=uW j1 h0;have ol:o.length<=(Gj x).length:=by rw[j1];simp
   refine go tt [.t (by simp;omega),.r 18 (eI (b:=((y % 10000:Nat):Int)) (by rfl)),.s (sz:=1) (l:=[[.int .i64 ((y % 10000:Nat):Int)]]) (λc hc=>by rw[Qk.1 hc];rfl),.r 22 (eI (b:=((y / 10000:Nat):Int)) (by rfl))] rfl (by simp[U3,Tz];omega) ?_;exact rd (y / 10000,o++[y % 10000]) (by dsimp only;omega) ⟨hs,by dsimp only;omega⟩ (by rw[Ig];rfl)
 |
  true =>
  show AK prog _ _ _ (VB 0 [.oi (-(x:Int))]) [];refine Ug [.f (by simp <;> omega),.r 3 (eBo (b:=true) (by simpa using hb rfl)),.t rfl,.r 0 (eI (b:=(x:Int)) (by omega)),.o 4 3 1] rfl ?_;refine Uk (S:=Nat×Uq) 2 (λL1 s=>(0,.v (.oi (s.1:Int)))::(4,.v (.one (.orow 1 1 none)))::L1) (λs=>[.blk 49 [.nils,.bool false],.row false 3 1 (Bv s.2)]) (λs=>s.1) (λs=>Gj x=s.2++Gj s.1/\s.1<=x) (x,[]) ⟨rfl,Qm _⟩ rfl rfl λ⟨y,o⟩ ⟨j1,j2⟩=>?_
  dsimp only at j1 j2 ⊢;by_cases h0:y=0
  ·subst h0;rw[Hx,Zv]at j1;rw[<-j1];exact Uh [.f (by simp),.k hm] rfl
  ·have hs:=uW j1 h0;have ol:o.length<=(Gj x).length:=by rw[j1];simp
   refine go tt [.t (by simp;omega),.r 18 (eI (b:=((y % 10000:Nat):Int)) (by rfl)),.s (sz:=1) (l:=[[.int .i64 ((y % 10000:Nat):Int)]]) (λc hc=>by rw[Qk.1 hc];rfl),.r 22 (eI (b:=((y / 10000:Nat):Int)) (by rfl))] rfl (by simp[U3,Tz];omega) ?_;exact rd (y / 10000,o++[y % 10000]) (by dsimp only;omega) ⟨hs,by dsimp only;omega⟩ (by rw[Ig];rfl)
theorem ZE{n:Int}(hn:-4000000000000000000<=n/\n<=4000000000000000000):Ul 46 [.oi n] [.agg (ri n)]:=by
 have e:Fa (decide (n<0)) n.natAbs=n:=by unfold Fa;by_cases h:n<0 <;> simp[h] <;> omega
 have h:=Qt0 (b:=decide (n<0)) (x:=n.natAbs) (by omega) (λh=>by have:=of_decide_eq_true h;omega);rwa[e]at h
abbrev fr(q:Rat):Ut:=ri q.num++ri (q.den:Int)
theorem If:Gj 1=[1]:=by rw[YW (by decide)];rw[Hx]
theorem Ab{n:Int}:Ul 68 [.agg (ri n),.agg (ri 1)] [.agg (fr (n:Rat))]:=by
 have h0:(Bv (Gj (1:Int).natAbs))[0]? = some [LV.int .i64 1]:=by rw[show(1:Int).natAbs=1 from rfl,If];rfl
 have h1:decide (((Bv (Gj (1:Int).natAbs)).length:Int)=1)=true:=by rw[show(1:Int).natAbs=1 from rfl,If];rfl
 exact Ui func68 rfl [.k (Dv (z:=1)),.f rfl,.f rfl,.g 19 true h1,.x h0,.t rfl] rfl
theorem KW{n:Int}(hn:-4000000000000000000<=n/\n<=4000000000000000000):Ul 15 [.oi n,.oi 1] [.agg (fr (n:Rat))] :=
 Ui func15 rfl [.k (ZE hn),.k (ZE (n:=1) (by decide)),.k Ab] rfl
theorem wG{q:Rat}(hq:Qs 100000000 q):Ul 14 [.agg (fr q)] [.agg (rl q)] :=
 Ui func14 rfl [.k (Qty hq.1),.k (Qty hq.2)] rfl
end Orr
namespace Orr
open Go Go.Proofs Tryz Orq
set_option maxRecDepth 10000
theorem I4{a:Tm}(ha:Va a):UF a a=some 0:=by
 obtain⟨c,c1,c2⟩:=UG ha ha;rcases c2 with⟨_,h⟩|⟨e,_⟩|⟨_,h⟩
 ·exact absurd h λh=>Iw ha.cut ha.cut h h
 ·rw[c1,e]
 ·exact absurd h λh=>Iw ha.cut ha.cut h h
theorem xP{c:Cr}{l l':List Pt}{r1:Uu}{ws:List Wt}(hc:CrOk c)(hl:∀p∈l',Sc p.c)(hn:l'.length≤1000)(h:Tl c.l c.now (Fw (JA l' c.now))=some ws) :
 U6 prog 397 [.one (.ow 0 0),.agg [pts l'],.oi 0] [.blk 220 (Hn c (U0 l) r1)] [.oi 0] [.blk 220 (Hn ⟨c.now,ws,c.ev⟩ (U0 l') (IF l' c.now))]:=by
 have hB:=pV hl hn;have cn:=QV (T:=220) (c:=c) (r0:=U0 l') (r1:=r1) hc.n;have cb:=IP (c:=c) (r1:=r1) hl hn hc.n;have cg:=YZ (T:=220) (r0:=U0 l') (r1:=IF l' c.now) hc hc.n (I4 hc.n) (J7 0) (hB.p _ hc.n) (hB.n _ hc.n) h;refine Fv func397 rfl ?_;exact Uj [] [0] [.f rfl,.c [0] cn,.c [0] cb,.c [0] cg] rfl
theorem Qtv{c:Cr}{l s:List Pt}(hs:s.length<=1000000):U6 prog 81 [.one (.ow 0 0)] [.blk 220 (Hn c (U0 l) (U0 s))] [.one (ids (s.map (·.id)))] [.blk 220 (Hn c (U0 l) (U0 s))]:=by
 have hcl:=G7 s;refine Fv func81 rfl ?_;refine Uf [.o 3 3 1] rfl ?_;refine Uk (S:=Nat) 2 (λL1 i=>(11,.v (.oi i))::(3,.v (.one (.orow 1 1 none)))::L1) (λi=>[.blk 220 (Hn c (U0 l) (U0 s)),.row false 3 1 (((s.take i).map (·.id)).map λ(z:Int)=>[LV.int .i64 z])]) (λi=>s.length-i) (λi=>i<=s.length) 0 (Qh _) rfl rfl λi hi=>?_
 by_cases hlt:i<s.length
 ·obtain⟨p,hp⟩:=gxE (l:=s) (i:=i) hlt;have hg:(((s.take (i+1)).map (·.id)).map λ(z:Int)=>[LV.int .i64 z])=(((s.take i).map (·.id)).map λ(z:Int)=>[LV.int .i64 z])++[[.int .i64 p.id]]:=by
   rw[Z1,hp];simp
  refine Ug [.t (by simp[hcl];omega),.x (Ts hp),.s (sz:=1) (l:=[[.int .i64 p.id]]) (λc hc=>by rw[Qk.1 hc];rfl)] rfl ?_;exact rd (i+1) (by omega) hlt (by rw[hg];rfl)
 ·obtain rfl:i=s.length:=by omega
  rw[Q7];exact Uj [1] [0] [.f (by simp[hcl])] rfl
theorem Qtw{lx ly:Uu}{px py:Uo}{x y:LV}{d id:Int}{c:Cr}{l:List Pt}{r1:Uu}{ws:List Wt}(hx:IsInts lx px)(hy:IsInts ly py)(hd:Gd x y d)(hk:Cs 4294967294 1073741824 (Crv.mk px py d))(hll:l.length<=900)
 (he:WU l ⟨Crv.norm (Crv.mk px py d),id⟩=0) (hc:CrOk c) (hl:∀p∈put l ⟨Crv.norm (Crv.mk px py d),id⟩,Sc p.c) (hn:(put l ⟨Crv.norm (Crv.mk px py d),id⟩).length≤1000) (h:Tl c.l c.now (Fw (JA (put l ⟨Crv.norm (Crv.mk px py d),id⟩) c.now))=some ws) :
 U6 prog 393 [.one (.ow 0 0),.agg [.row lx,.row ly,x,y,.int .i64 id]] [.blk 220 (Hn c (U0 l) r1)] [.oi 0] [.blk 220 (Hn ⟨c.now,ws,c.ev⟩ (U0 (put l ⟨Crv.norm (Crv.mk px py d),id⟩)) (IF (put l ⟨Crv.norm (Crv.mk px py d),id⟩) c.now))]:=by
 have cp:=wU (l:=l) (id:=id) hx hy hd hk (by omega);rw[if_pos he,he]at cp;have cw:=xP (l:=l) (r1:=r1) hc hl hn h;refine Fv func393 rfl ?_;obtain⟨b,l',rfl,rfl,_⟩:=hd;exact Uj [] [0] [.k cp,.c [0] cw] rfl
theorem Qtu{t:Rat}{l:List Pt}{K:Nat}{c c':Cr}{r1 r1':Uu}{n:Int}(ht:Qs 1640000 t)(hl:∀p∈l,Sc p.c)(hn:l.length≤1000)(hc:CrOk c)(hev:0≤c.ev/\c.ev+K≤1000000000000000000)(h:Fo c.now t≤0)(hg:WE (JA l) (IF l) t K c r1 0=some (c',r1',n)) :
 U6 prog 388 [.one (.ow 0 0),.agg (rl t)] [.blk 220 (Hn c (U0 l) r1)] [.oi n,.oi 0] [.blk 220 (Hn c' (U0 l) r1')]:=by
 have cg:=Qxv (T:=220) (r0:=U0 l) ht (pV hl hn) (λa c r1 ha _=>IP (c:=c) (r1:=r1) hl hn ha) hc hev h hg;refine Fv func388 rfl ?_;exact Uj [] [0] [.k (Nx (ht.mono (by decide))),.c [0] cg] rfl
theorem Qfi{c:Cr}{r0 r1:Uu}:U6 prog 63 [.one (.ow 0 0)] [.blk 220 (Hn c r0 r1)] [.one (.ow 1 0)] [.blk 220 (Hn c r0 r1),.blk 220 (Hn c r0 r1)]:=by
 refine Fv func63 rfl ?_;exact Uj [] [0,1] [] rfl
abbrev jC(l:Uo):Uu:=l.map λ(z:Int)=>[.int .i64 z]
theorem MM{l:Uo}{i:Nat}{z:Int}(h:l[i]? = some z):(jC l)[i]? = some [.int .i64 z]:=Gx h
theorem Qfk{a b:Uo}(ha:a.length<=1000000)(hb:b.length<=1000000):Ul 40 [.one (ids a),.one (ids b)] [.one (.bool (decide (a=b)))]:=by
 show Ul 40 [.one (.row (jC a)),.one (.row (jC b))] _;have la:(jC a).length=a.length:=by simp
 have lb:(jC b).length=b.length:=by simp
 refine Fv func40 rfl ?_;by_cases hl:a.length=b.length
 ·refine Uf [.f (by simp;omega)] rfl ?_;refine Uk (S:=Nat) 0 (λL1 i=>(5,.v (.oi i))::L1) (λ_=>[]) (λi=>a.length-i) (λi=>i<=a.length/\a.take i=b.take i) 0 ⟨Qh _,rfl⟩ rfl rfl λi ⟨hi,he⟩=>?_
  by_cases hlt:i<a.length
  ·obtain⟨x,hx⟩:=gxE (l:=a) (i:=i) hlt;obtain⟨y,hy⟩:=gxE (l:=b) (i:=i) (by omega);by_cases e:x=y
   ·refine Ug [.t (by simp;omega),.x (MM hx),.x (MM hy),.f (by simpa using e)] rfl ?_;exact rd (i+1) (by omega) ⟨hlt,by rw[Z1,Z1,hx,hy,he,e]⟩ rfl
   ·have hne:a≠b:=λh=>by rw[h,hy]at hx;injection hx with hx;exact e hx.symm
    exact Uh [.t (by simp;omega),.x (MM hx),.x (MM hy),.t (by simpa using e)] rfl (by simp[hne]) trivial
  ·obtain rfl:i=a.length:=by omega
   have hab:a=b:=by rw[Q7]at he;rw[he,hl,Q7]
   exact Uh [.f (by simp)] rfl (by simp[hab]) trivial
 ·have hne:a≠b:=λh=>hl (by rw[h])
  exact Uh [.t (by simp;omega)] rfl (by simp[hne]) trivial
def Nf(v n:Int):Int:=if n<1 then 0 else v.emod n
theorem Qdp{v n:Int}(h:0<n):(if v.tmod n<0 then v.tmod n+n else v.tmod n)=v % n:=by
 have h3:=Yg v (show n≠0 by omega);have h4:=Jt v h;have h1:=Int.tmod_eq_emod (a:=v) (b:=n);have hn:((n.natAbs:Nat):Int)=n:=by omega
 split at h1
 ·rw[h1];simp;omega
 ·rename_i hc;rw[h1,hn];have:v % n≠0:=λe=>hc (.inr (Vg e))
  rw[if_pos (by omega)];omega
theorem Aa{v n:Int}(hv:-9223372036854775808<=v/\v<=9223372036854775807)(hn:n<=1000000000):Ul 16 [.oi v,.oi n] [.oi (Nf v n)]:=by
 unfold Nf;by_cases h:n<1
 ·rw[if_pos h];exact Ui func16 rfl [.t (by simpa using h)] rfl
 ·rw[if_neg h];have e:=Qdp (v:=v) (n:=n) (by omega);have h3:=Yg v (show n≠0 by omega);have h4:=Jt v (show 0<n by omega);show Ul 16 [.oi v,.oi n] [.oi (v % n)];by_cases h0:v.tmod n<0
  ·rw[if_pos h0]at e;have b:-n<=v.tmod n:=by omega
   exact Ui func16 rfl [.f (by simpa using h),.t (by simpa using h0)] rfl (by rw[e]) (by simp[U3];omega)
  ·rw[if_neg h0]at e;exact Ui func16 rfl [.f (by simpa using h),.f (by simpa using h0)] rfl (by rw[e]) (by simp[U3];omega)
end Orr
namespace Orr
open Go Go.Proofs Tryz Orq
theorem tH{x y:Int}(hx:-9223372036854775808<=x/\x<=9223372036854775807)(hy:-9223372036854775808<=y/\y<=9223372036854775807):Sc (O7 x y):=⟨Crv.nml _,((uJ hx hy).norm (by decide)).mono (by decide) (by decide)⟩
theorem Sc.pt{p:Pt}(h:Sc p.c):Qd4 4294967294 1073741824 p:=⟨h.n,h.c.mono (by decide) (by decide)⟩
end Orr
namespace Orr
open Go Go.Proofs Tryz Orq
set_option maxRecDepth 10000
def dE(l:List Pt)(a:Tm):List Ct:=Lm (Fq a) l
abbrev brP(l:List Pt)(a:Tm):Uu:=U0 (Ij (Fq a) l)
theorem dA{l:List Pt}{a:Tm}:∀x∈dE l a,x.p∈AS l:=λx hx=>by
 match l,hx with
 |
  u::v::l',hx =>
  unfold dE at hx;simp only[Lm]at hx;obtain⟨h3,h4⟩:=Lj (Fq a) (l:=u::v::l') (Gi (u::v::l')) (u,v) ⟨by simp,by simp⟩ (Tg _ _);obtain⟨m,hm,rfl⟩:=II hx;obtain⟨h1,h2⟩:=Tg _ _ m hm;rw[LX];exact NS h3 h4 h1 h2
theorem Qee{l:List Pt}(hl:∀p∈l,Sc p.c)(hn:l.length≤10):BuildOk (dE l) :=
 ⟨λ_ _ x hx=>WI hl _ (dA x hx),λa _=>by
  have:=qB (Fq a) l;have:l.length*l.length<=10*10:=Zd hn hn;show(Lm (Fq a) l).length<=1000;omega⟩
def Qxp(l:List Pt)(a:Tm):Cr:=⟨a,(Fw (dE l a)).map fresh,0⟩
theorem Qm5{t:Rat}{l:List Pt}{K:Nat}{c c':Cr}{r1 r1':Uu}{n:Int}(ht:Qs 1640000 t)(hl:∀p∈l,Sc p.c)(hn:l.length≤10)(hc:CrOk c)(hev:0≤c.ev/\c.ev+K≤1000000000000000000)(h:Fo c.now t≤0)(hg:WE (dE l) (brP l) t K c r1 0=some (c',r1',n)) :
 U6 prog 427 [.one (.ow 0 0),.agg (rl t)] [.blk 227 (Hn c (U0 l) r1)] [.oi n,.oi 0] [.blk 227 (Hn c' (U0 l) r1')]:=by
 have cg:=Qtl (T:=227) (r0:=U0 l) ht (Qee hl hn) (λa c r1 ha _=>IS (c:=c) (r1:=r1) hl hn ha) hc hev h hg;refine Fv func427 rfl ?_;exact Uj [] [0] [.k (Nx (ht.mono (by decide))),.c [0] cg] rfl
theorem lP{c:Cr}{r0:Uu}{a b:Pt}:U6 prog 85 [.one (.ow 0 0)] [.blk 227 (Hn c r0 (U0 [a,b]))] [.oi a.id,.oi b.id,.one (.bool true)] [.blk 227 (Hn c r0 (U0 [a,b]))]:=by
 refine Fv func85 rfl ?_;exact Uj [] [0] [.f rfl,.x (l:=U0 [a,b]) (i:=0) (xs:=Fb a) rfl,.x (l:=U0 [a,b]) (i:=1) (xs:=Fb b) rfl] rfl
theorem wW{c:Cr}{r0:Uu}:U6 prog 85 [.one (.ow 0 0)] [.blk 227 (Hn c r0 [])] [.oi 0,.oi 0,.one (.bool false)] [.blk 227 (Hn c r0 [])]:=by
 refine Fv func85 rfl ?_;exact Uj [] [0] [.t rfl] rfl
end Orr
namespace Orr
open Go
def PT(q:Uo->Int)(a b:Pt):Pt×Pt:=if Cd q a b=true then(a,b)else(b,a)
def Ow(q:Uo->Int):Nat->List Pt->List Pt×List (Pt×Pt)
 | 0,l=>(l,[])
 |
  k+1,l=>if l.length<2 then(l,[])else
  match (Ow q k (l.take ((l.length+1) / 2))).1,(Ow q k (l.drop ((l.length+1) / 2))).1 with
  |a::_,b::_=>([(PT q a b).1],(Ow q k (l.take ((l.length+1) / 2))).2++(Ow q k (l.drop ((l.length+1) / 2))).2++[PT q a b])
  |_,_=>([],[])
theorem Do(q:Uo->Int):∀(k:Nat) (l:List Pt),l.length<=k->Ow q k l=Ow q l.length l
 | 0,l,h=>by rw[show l.length=0 by omega]
 |
  k+1,l,h=>by
  cases hl:l.length with
  |zero=>simp[Ow,hl]
  |
   succ m =>
   simp only[Ow];by_cases h2:l.length<2
   ·rw[if_pos h2,if_pos h2]
   ·rw[if_neg h2,if_neg h2];have h3:(l.take ((l.length+1) / 2)).length<=m:=by rw[Qr];omega
    have h4:(l.drop ((l.length+1) / 2)).length<=m:=by rw[Q8];omega
    rw[Do q k (l.take ((l.length+1) / 2)) (by omega),Do q k (l.drop ((l.length+1) / 2)) (by omega),Do q m (l.take ((l.length+1) / 2)) h3,Do q m (l.drop ((l.length+1) / 2)) h4]
termination_by k=>k
def M9(q:Uo->Int)(l:List Pt):List Pt×List (Pt×Pt):=Ow q l.length l
theorem Cq(q:Uo->Int){l:List Pt}(h:l.length<2):M9 q l=(l,[]):=by
 unfold M9;cases hl:l.length with
 |zero=>rfl
 |succ m=>simp only[Ow];rw[if_pos h]
theorem Ox(q:Uo->Int){l:List Pt}(h:¬l.length<2){a b:Pt}(ha:(M9 q (l.take ((l.length+1) / 2))).1=[a])(hb:(M9 q (l.drop ((l.length+1) / 2))).1=[b]) :
 M9 q l=([(PT q a b).1],(M9 q (l.take ((l.length+1) / 2))).2++(M9 q (l.drop ((l.length+1) / 2))).2++[PT q a b]):=by
 unfold M9 at ha hb ⊢;obtain⟨m,hm⟩:∃m,l.length=m+1:=⟨l.length-1,by omega⟩;have h3:(l.take ((l.length+1) / 2)).length<=m:=by rw[Qr];omega
 have h4:(l.drop ((l.length+1) / 2)).length<=m:=by rw[Q8];omega
 rw[<-Do q m _ h3]at ha ⊢;rw[<-Do q m _ h4]at hb ⊢;rw[show Ow q l.length l=Ow q (m+1) l by rw[hm]];simp only[Ow];rw[if_neg h,ha,hb]
theorem Mg(q:Uo->Int):∀(k:Nat) (l:List Pt),l.length≤k->0<l.length->∃a,(M9 q l).1=[a]/\a∈l/\∀m∈(M9 q l).2,m.1∈l/\m.2∈l
 | 0,l,h,h0=>by omega
 |
  k+1,l,h,h0=>by
  by_cases h2:l.length<2
  ·rw[Cq q h2]
   match l,h0,h2 with
   | [a],_,_=>exact⟨a,rfl,by simp,by simp⟩
  ·obtain⟨a,ha,hal,ham⟩:=Mg q k (l.take ((l.length+1) / 2)) (by rw[Qr];omega) (by rw[Qr];omega);obtain⟨b,hb,hbl,hbm⟩:=Mg q k (l.drop ((l.length+1) / 2)) (by rw[Q8];omega) (by rw[Q8];omega);rw[Ox q h2 ha hb];have hd:(PT q a b).1∈l/\(PT q a b).2∈l:=by
    unfold PT;split
    ·exact⟨Qn hal,Qz hbl⟩
    ·exact⟨Qz hbl,Qn hal⟩
   refine⟨_,rfl,hd.1,λm hm=>?_⟩;rcases Qp.1 hm with hm|hm
   ·rcases Qp.1 hm with hm|hm
    ·exact⟨Qn (ham m hm).1,Qn (ham m hm).2⟩
    ·exact⟨Qz (hbm m hm).1,Qz (hbm m hm).2⟩
   ·rw[Qk.1 hm];exact hd
theorem Dq(q:Uo->Int):∀(k:Nat) (l:List Pt),l.length<=k->(M9 q l).2.length<=l.length-1
 | 0,l,h=>by rw[Cq q (by omega)];simp
 |
  k+1,l,h=>by
  by_cases h2:l.length<2
  ·rw[Cq q h2];simp
  ·obtain⟨a,ha,_⟩:=Mg q l.length (l.take ((l.length+1) / 2)) (by rw[Qr];omega) (by rw[Qr];omega);obtain⟨b,hb,_⟩:=Mg q l.length (l.drop ((l.length+1) / 2)) (by rw[Q8];omega) (by rw[Q8];omega);rw[Ox q h2 ha hb];have h3:=Dq q k (l.take ((l.length+1) / 2)) (by rw[Qr];omega);have h4:=Dq q k (l.drop ((l.length+1) / 2)) (by rw[Q8];omega);rw[Qr]at h3;rw[Q8]at h4;simp only[Qx,Vs];omega
abbrev Qcz(m:Pt×Pt):Ut:=[pl m.1.c.x,pl m.1.c.y,sg m.1.c.d,mg m.1.c.d,.int .i64 m.1.id,pl m.2.c.x,pl m.2.c.y,sg m.2.c.d,mg m.2.c.d,.int .i64 m.2.id]
end Orr
namespace Orq
open Orr Go
def FY(q:Rat)(x y:Pt):Prop:=py y q<py x q\/py y q=py x q/\(px y q<px x q\/px y q=px x q/\x.id<y.id)
theorem Qin(q:Rat)(x:Pt):¬FY q x x:=by unfold FY;grind
theorem Qo0(q:Rat)(x y z:Pt)(h:FY q x y)(h':FY q y z):FY q x z:=by unfold FY at *;grind
theorem Qio{q:Rat}{x y:Pt}(h:x.id≠y.id)(h':¬FY q x y):FY q y x:=by unfold FY at *;grind
theorem Qa3{a:Tm}(ha:Va a){x y:Pt}(hx:Sc x.c)(hy:Sc y.c){q:Rat}(h1:Hl (Fq a) (Gm y.c x.c)=Ff (U8 (Gm y.c x.c) q))(h2:Hl (Fq a) (Gn y.c x.c)=Ff (U8 (Gn y.c x.c) q)):Cd (Fq a) x y=true↔FY q x y:=by
 rw[TF hy hx]at h1;rw[TG hy hx]at h2;have d1:=(Ng hy hx).dp;have d2:=(Nh hy hx).dp;unfold Cd;simp only[Ly];have t1:=Fz (py x q-py y q);have t2:=Fz (px x q-px y q);by_cases e1:(Gm y.c x.c).length=0
 ·rw[if_neg (by omega)];rw[Qj e1,XU]at h1;have:py x q=py y q:=by grind
  by_cases e2:(Gn y.c x.c).length=0
  ·rw[if_neg (by omega)];rw[Qj e2,XU]at h2;unfold FY;simp only[decide_eq_true_eq];grind
  ·rw[if_pos (by omega)];have:=(Ej ha d2 e2).2;unfold FY;simp only[decide_eq_true_eq];grind
 ·rw[if_pos (by omega)];have:=(Ej ha d1 e1).2;unfold FY;simp only[decide_eq_true_eq];grind
theorem wZ{l:List Pt}(hl:∀p∈l,Sc p.c){a:Tm}(ha:Va a):∃y,Fo a y=-1/\∀q,Fo a q=-1->q≤y->∀u∈l,∀v∈l,(Cd (Fq a) u v=true↔FY q u v):=by
 obtain⟨y,y1,y2⟩:=XF ha (Ef l) λp hp=>(QZ hl p hp).dp
 refine⟨y,y1,λq q1 q2 u hu v hv=>?_⟩;have h:=y2 q q1 q2;exact Qa3 ha (hl u hu) (hl v hv) (h _ (Sl hv hu).2) (h _ (Sl hv hu).1)
theorem bQ{a b:Tm}{x y:Pt}(h:Hl (Fq b) (Ao x y)=Hl (Fq a) (Ao x y)):Cd (Fq b) x y=Cd (Fq a) x y:=by
 unfold Ao Lu at h;unfold Cd;simp only[Ly];by_cases e1:0<(Gm y.c x.c).length
 ·rw[if_pos e1,if_pos e1];rw[if_pos e1]at h;rw[h]
 ·rw[if_neg e1,if_neg e1];rw[if_neg e1]at h;rw[h]
theorem Qh7{l:List Pt}{k:Nat}(h2:¬l.length<2)(hk:l.length<=k+1):(l.take ((l.length+1) / 2)).length<=k/\(l.drop ((l.length+1) / 2)).length<=k/\0<(l.take ((l.length+1) / 2)).length/\0<(l.drop ((l.length+1) / 2)).length:=by
 rw[Qr,Q8];omega
theorem TQ{sa sb:Uo->Int}:∀(k:Nat) (l:List Pt),l.length≤k->l.Pairwise (λx y=>x.id≠y.id)->(∀u∈l,∀v∈l,u.id≠v.id->Cd sa u v=false->Cd sa v u=true)->(∀u∈l,∀v∈l,Cd sb v u=true->Cd sb u v=false)->(∀m∈(M9 sa l).2,Cd sb m.1 m.2=Cd sa m.1 m.2)->M9 sb l=M9 sa l
 | 0,l,hk,_,_,_,_=>by rw[Cq _ (by omega),Cq _ (by omega)]
 |
  k+1,l,hk,hd,h1,h2,hm=>by
  by_cases hs:l.length<2
  ·rw[Cq _ hs,Cq _ hs]
  ·obtain⟨k1,k2,k3,k4⟩:=Qh7 hs hk;obtain⟨a,ha,hal,_⟩:=Mg sa k (l.take ((l.length+1) / 2)) k1 k3;obtain⟨b,hb,hbl,_⟩:=Mg sa k (l.drop ((l.length+1) / 2)) k2 k4;have hpl:=Ox sa hs ha hb;rw[hpl]at hm;have hd':=hd;rw[<-Zh ((l.length+1) / 2) l]at hd';obtain⟨d1,d2,d3⟩:=Z4.1 hd';have i1:=TQ k _ k1 d1 (λu hu v hv=>h1 u (Qn hu) v (Qn hv)) (λu hu v hv=>h2 u (Qn hu) v (Qn hv)) λm hm'=>hm m (by simp[hm'])
   have i2:=TQ k _ k2 d2 (λu hu v hv=>h1 u (Qz hu) v (Qz hv)) (λu hu v hv=>h2 u (Qz hu) v (Qz hv)) λm hm'=>hm m (by simp[hm'])
   have hal':=Qn hal;have hbl':=Qz hbl;have e:PT sb a b=PT sa a b:=by
    have hmem:=hm (PT sa a b) (by simp);unfold PT at hmem ⊢;by_cases h:Cd sa a b=true
    ·rw[if_pos h]at hmem ⊢;rw[if_pos (hmem.trans h)]
    ·rw[if_neg h]at hmem ⊢;have h:Cd sa a b=false:=by simpa using h
     have:=h2 a hal' b hbl' (hmem.trans (h1 a hal' b hbl' (d3 a hal b hbl) h));rw[if_neg (by simp[this])]
   rw[hpl,Ox sb hs (by rw[i1];exact ha) (by rw[i2];exact hb),i1,i2,e]
end Orq
namespace Orr
open Orq Go
def xF(l:List Pt)(a:Tm):List Ct:=(M9 (Fq a) l).2.map λm=>D2 (Fq a) m.1 m.2
def pP(l:List Pt)(a:Tm):Uu×Uu:=((M9 (Fq a) l).1.map Fb,(M9 (Fq a) l).2.map Qcz)
theorem JV{sg:Uo->Int}{l:List Pt}:∀m∈(M9 sg l).2,m.1∈l/\m.2∈l:=λm hm=>by
 by_cases h:0<l.length
 ·obtain⟨_,_,_,h3⟩:=Mg sg l.length l (Qm _) h;exact h3 m hm
 ·rw[Cq _ (by omega)]at hm;cases hm
theorem Qs7{l:List Pt}(hl:∀p∈l,Sc p.c){a:Tm}:∀x∈xF l a,Cp x.p:=λx hx=>by
 obtain⟨m,hm,rfl⟩:=Q9.1 hx;obtain⟨h1,h2⟩:=JV m hm;exact YU (Ng (hl _ h2) (hl _ h1)) (Nh (hl _ h2) (hl _ h1))
theorem pK{l:List Pt}(hl:∀p∈l,Sc p.c)(hn:l.length≤1000):BuildOk (xF l) :=
 ⟨λa _=>Qs7 hl,λa _=>by
  unfold xF;rw[List.length_map];have:=Dq (Fq a) l.length l (Qm _);omega⟩
theorem Qml{l:List Pt}{a:Tm}:∀x∈xF l a,x.p∈Ef l:=λx hx=>by
 obtain⟨m,hm,rfl⟩:=Q9.1 hx;obtain⟨h1,h2⟩:=JV m hm;show Ao m.1 m.2∈Ef l;unfold Ao Lu;split
 ·exact(Sl h2 h1).2
 ·exact(Sl h2 h1).1
theorem Qzf{l:List Pt}(hl:∀p∈l,Sc p.c)(hn:l.length≤1000)(hd:l.Pairwise λx y=>x.id≠y.id):Stab (xF l) (pP l):=by
 refine⟨pK hl hn,⟨Ef l,QZ hl,λa _ x hx=>?_⟩,λa b ha hb h=>?_⟩
 ·obtain⟨m,hm,rfl⟩:=Q9.1 hx;obtain⟨h1,h2⟩:=JV m hm;show Ao m.1 m.2∈Ef l;unfold Ao Lu;split
  ·exact(Sl h2 h1).2
  ·exact(Sl h2 h1).1
 ·obtain⟨y,y1,y2⟩:=wZ hl ha;obtain⟨z,z1,z2⟩:=wZ hl hb;have ga:=y2 y y1 Qq;have gb:=z2 z z1 Qq;have e:M9 (Fq b) l=M9 (Fq a) l:=TQ l.length l (Qm _) hd (λu hu v hv hne hf=>(ga v hv u hu).2 (Qio hne λh=>by
   rw[(ga u hu v hv).2 h]at hf;cases hf)) (λu hu v hv ht=>by
   cases hb':Cd (Fq b) u v
   ·rfl
   ·exact absurd (Qo0 z u v u ((gb u hu v hv).1 hb') ((gb v hv u hu).1 ht)) (Qin z u)) λm hm=>bQ (h (D2 (Fq a) m.1 m.2) (Q9.2 ⟨m,hm,rfl⟩))
  refine⟨?_,by unfold pP;rw[e]⟩;unfold xF;rw[e];refine Xt λm hm=>?_
  have:=h (D2 (Fq a) m.1 m.2) (Q9.2 ⟨m,hm,rfl⟩);unfold D2;rw[show Hl (Fq b) (Ao m.1 m.2)=Hl (Fq a) (Ao m.1 m.2) from this]
end Orr
namespace Orq
open Orr Go
def ZF(a:Crv):Up:=[Fu a.x a.d,Fu a.y a.d,A5 (Gl a.x a.x) (Gl a.y a.y),[a.d*a.d]]
def uX(a b c d:Crv):List Up:=[ZF a,ZF b,ZF c,ZF d]
def VA(a b c d:Crv):Uo:=Lo 4 (uX a b c d)
theorem FM{s:Nat}{k:Crv}(hn:ZC k)(hc:Cs s 3 k):(∀p∈ZF k,Fe p/\Bd (s+s+3) p)/\∀(j:Nat) (p:Uo),(ZF k)[j]? = some p->p.length≤[2,2,4,0].getD j 0+1:=by
 have l1:=Fx k.x k.d;have l2:=Fx k.y k.d;have l3:=Tx k.x k.x;have l4:=Tx k.y k.y;have l5:=Oe (Gl k.x k.x) (Gl k.y k.y);have kx:=hc.lx;have ky:=hc.ly;have bx:Bd (s+s+2) (Gl k.x k.x):=Pi hc.x hc.x (by omega);have by_:Bd (s+s+2) (Gl k.y k.y):=Pi hc.y hc.y (by omega);have hd:=hn.2.2.1;have hd0:k.d*k.d≠0:=λe=>by rcases Yh.1 e with e|e <;> omega
 have td:Fe [k.d*k.d]:=by unfold Fe;simp[trim,hd0]
 refine⟨λp hp=>?_,λj p hp=>?_⟩
 ·simp only[ZF,Ql,Jn,or_false]at hp;rcases hp with rfl|rfl|rfl|rfl
  ·exact⟨Fy _ _,U5 (Ge hc.x hc.d) (by omega)⟩
  ·exact⟨Fy _ _,U5 (Ge hc.y hc.d) (by omega)⟩
  ·exact⟨Fy _ _,U5 (JO bx by_) (by omega)⟩
  ·refine⟨td,λz hz=>?_⟩;rw[Qk.1 hz];have:=Ga k.d k.d;have:=hc.d;omega
 ·match j,hp with
  | 0,hp=>injection hp with hp;subst hp;show _<=3;omega
  | 1,hp=>injection hp with hp;subst hp;show _<=3;omega
  | 2,hp=>injection hp with hp;subst hp;show _<=5;omega
  | 3,hp=>injection hp with hp;subst hp;exact Qm _
  |j+4,hp=>simp[ZF]at hp
theorem tL{s:Nat}{a b c d:Crv}(na:ZC a)(nb:ZC b)(nc:ZC c)(nd:ZC d)(ca:Cs s 3 a)(cb:Cs s 3 b)(cc:Cs s 3 c)(cd:Cs s 3 d):Sq (s+s+3) [2,2,4,0] 4 4 (uX a b c d):=by
 have hr:∀r∈uX a b c d,∃k:Crv,ZC k/\Cs s 3 k/\r=ZF k:=λr hr=>by
  simp only[uX,Ql,Jn,or_false]at hr;rcases hr with rfl|rfl|rfl|rfl
  ·exact⟨a,na,ca,rfl⟩
  ·exact⟨b,nb,cb,rfl⟩
  ·exact⟨c,nc,cc,rfl⟩
  ·exact⟨d,nd,cd,rfl⟩
 refine⟨rfl,λr h=>?_,λr h p hp=>?_,λr h p hp=>?_,λr h j p hp=>?_⟩
 all_goals obtain⟨k,kn,kc,rfl⟩:=hr r h
 ·rfl
 ·exact((FM kn kc).1 p hp).1
 ·exact((FM kn kc).1 p hp).2
 ·exact(FM kn kc).2 j p hp
theorem aQ{a b c d:Crv}(ha:Sc a)(hb:Sc b)(hc:Sc c)(hd:Sc d):Cp (VA a b c d):=by
 obtain⟨h1,h2,h3⟩:=MA 4 [2,2,4,0] (uX a b c d) (by decide) rfl (by decide) (tL ha.n hb.n hc.n hd.n ha.c hb.c hc.c hd.c);exact⟨h1,Qc h3 (by decide),U5 h2 (by decide)⟩
def qF(sg:Uo->Int)(a b c d:Pt):Ct:=⟨4,a.id,b.id,c.id,d.id,VA a.c b.c c.c d.c,Hl sg (VA a.c b.c c.c d.c)⟩
abbrev P3:=Pt×(Pt×Pt)
abbrev P4:=Pt×P3
def C0:Nat->List Pt->List P3
 | 0,_=>[]
 |_+1,[]=>[]
 |k+1,x::l=>(Gi l).map (λm=>(x,m))++C0 k l
def Rj(l:List Pt):List P3:=C0 l.length l
def Et:Nat->List Pt->List P4
 | 0,_=>[]
 |_+1,[]=>[]
 |k+1,x::l=>(Rj l).map (λm=>(x,m))++Et k l
def O4(l:List Pt):List P4:=Et l.length l
theorem VY:∀(l:List Pt) (i:Nat) (x:Pt),l[i]? = some x->C0 (i+1) l=C0 i l++(Gi (l.drop (i+1))).map (λm=>(x,m))
 | [],i,x,h=>by simp at h
 |y::l,0,x,h=>by simp at h;subst h;simp[C0]
 |
  y::l,i+1,x,h=>by
  have ih:=VY l i x (by simpa using h);show(Gi l).map _++C0 (i+1) l=((Gi l).map _++C0 i l)++_;rw[ih,Ze];rfl
theorem TX:∀(l:List Pt) (i:Nat) (x:Pt),l[i]? = some x->Et (i+1) l=Et i l++(Rj (l.drop (i+1))).map (λm=>(x,m))
 | [],i,x,h=>by simp at h
 |y::l,0,x,h=>by simp at h;subst h;simp[Et]
 |
  y::l,i+1,x,h=>by
  have ih:=TX l i x (by simpa using h);show(Rj l).map _++Et (i+1) l=((Rj l).map _++Et i l)++_;rw[ih,Ze];rfl
theorem GT:∀(k:Nat) (l:List Pt),∀m∈C0 k l,m.1∈l/\m.2.1∈l/\m.2.2∈l
 | 0,l,m,h=>by simp[C0]at h
 |k+1,[],m,h=>by simp[C0]at h
 |
  k+1,x::l,m,h=>by
  rcases Qp.1 h with h|h
  ·obtain⟨y,hy,rfl⟩:=Q9.1 h;obtain⟨h1,h2⟩:=Tg _ _ y hy;exact⟨Qy ..,Qg _ h1,Qg _ h2⟩
  ·obtain⟨h1,h2,h3⟩:=GT k l m h;exact⟨Qg _ h1,Qg _ h2,Qg _ h3⟩
theorem rA:∀(k:Nat) (l:List Pt),∀m∈Et k l,m.1∈l/\m.2.1∈l/\m.2.2.1∈l/\m.2.2.2∈l
 | 0,l,m,h=>by simp[Et]at h
 |k+1,[],m,h=>by simp[Et]at h
 |
  k+1,x::l,m,h=>by
  rcases Qp.1 h with h|h
  ·obtain⟨y,hy,rfl⟩:=Q9.1 h;obtain⟨h1,h2,h3⟩:=GT _ _ y hy;exact⟨Qy ..,Qg _ h1,Qg _ h2,Qg _ h3⟩
  ·obtain⟨h1,h2,h3,h4⟩:=rA k l m h;exact⟨Qg _ h1,Qg _ h2,Qg _ h3,Qg _ h4⟩
theorem YO{l:List Pt}(h:l.length<=6):(Rj l).length<=20/\(O4 l).length<=15:=by
 match l,h with
 | [],_=>exact⟨Zg rfl,Zg rfl⟩
 | [_],_=>exact⟨Zg rfl,Zg rfl⟩
 | [_,_],_=>exact⟨Zg rfl,Zg rfl⟩
 | [_,_,_],_=>exact⟨Zg rfl,Zg rfl⟩
 | [_,_,_,_],_=>exact⟨Zg rfl,Zg rfl⟩
 | [_,_,_,_,_],_=>exact⟨Zg rfl,Zg rfl⟩
 | [_,_,_,_,_,_],_=>exact⟨Zg rfl,Zg rfl⟩
 |_::_::_::_::_::_::_::_,h=>simp at h
abbrev Bb:=List (Uo×LV)
def PM(sg:Uo->Int)(m:P3):Ct:=Lh sg m.1 m.2.1 m.2.2
def HH(sg:Uo->Int)(m:P4):Ct:=qF sg m.1 m.2.1 m.2.2.1 m.2.2.2
def nP(m:P3):Uo:=[m.1.id,m.2.1.id,m.2.2.id]
def Qyl(m:P4):Uo:=[m.1.id,m.2.1.id,m.2.2.1.id,m.2.2.2.id]
def Ax(V:List (Uo×Int)):Bb:=V.foldl (λM e=>L6 M e.1 (.int .i64 e.2)) []
def ZM(sg:Uo->Int)(ps:List P3):List (Uo×Int):=ps.map λm=>(nP m,(PM sg m).want)
def VS(sg:Uo->Int)(ps:List P4):List (Uo×Int):=ps.map λm=>(Qyl m,(HH sg m).want)
theorem dG(sg:Uo->Int)(ps:List P3)(m:P3):Ax (ZM sg (ps++[m]))=L6 (Ax (ZM sg ps)) (nP m) (.int .i64 (PM sg m).want):=by simp[Ax,ZM]
def I9(T:Bb)(s:Int)(n:Uo)(F:Bb)(skip:Nat):Bb:=if ZS T (n.eraseIdx skip)*(if (3-skip) % 2=1 then -s else s)>0 then L6 F (n.eraseIdx skip) (.bool true)else F
def OF(T:Bb)(s:Int)(n:Uo)(F:Bb):Bb:=I9 T s n (I9 T s n (I9 T s n (I9 T s n F 0) 1) 2) 3
def Oc(T:Bb)(V:List (Uo×Int)):Bb:=V.foldl (λF e=>OF T e.2 e.1 F) []
theorem nV(sg:Uo->Int)(T:Bb)(ps:List P4)(m:P4):Oc T (VS sg (ps++[m]))=OF T (HH sg m).want (Qyl m) (Oc T (VS sg ps)):=by simp[Oc,VS]
def jL(T F:Bb)(m:P3):Bool:=decide (ZS T (nP m)≠0) && !(BQ F (nP m))
theorem Qu1{T F:Bb}{ps:List P3}{m:P3}(h:jL T F m=true):(ps++[m]).filter (jL T F)=ps.filter (jL T F)++[m]:=by simp[Vk,h]
theorem Qhn{T F:Bb}{ps:List P3}{m:P3}(h:jL T F m=false):(ps++[m]).filter (jL T F)=ps.filter (jL T F):=by simp[Vk,h]
def gZ(sg:Uo->Int)(l:List Pt):List Ct:=(Rj (H7 l)).map (PM sg)++(O4 (H7 l)).map (HH sg)
def SS(sg:Uo->Int)(l:List Pt):List P3:=(Rj (H7 l)).filter (jL (Ax (ZM sg (Rj (H7 l)))) (Oc (Ax (ZM sg (Rj (H7 l)))) (VS sg (O4 (H7 l)))))
abbrev trL(m:P3):Ut:=[.int .i64 m.1.id,.int .i64 m.2.1.id,.int .i64 m.2.2.id]
def I0(l:List P3):Uu:=l.map trL
theorem EO(l:List P3):(I0 l).length=l.length:=by simp[I0]
theorem qU(sg:Uo->Int){l:List Pt}(h:l.length<=6):(SS sg l).length<=20:=by
 have hw:=Az l;exact Qc (Y3 _ _) (YO (l:=H7 l) (by omega)).1
theorem Qct(sg:Uo->Int){l:List Pt}(h:l.length<=6):(gZ sg l).length<=35:=by
 have hw:=Az l;obtain⟨h1,h2⟩:=YO (l:=H7 l) (by omega);unfold gZ;rw[Qx,Zb,Zb];omega
theorem Qcu{sg:Uo->Int}{l:List Pt}{m:P3}(h:m∈SS sg l):m∈Rj (H7 l):=(J4.1 h).1
def wQ(l:List Pt)(a:Tm):List Ct:=gZ (Fq a) l
abbrev pS(l:List Pt)(a:Tm):Uu:=I0 (SS (Fq a) l)
def Qaz(l:List Pt):Up:=(Rj (H7 l)).map (λm=>Hi m.1.c m.2.1.c m.2.2.c)++(O4 (H7 l)).map λm=>VA m.1.c m.2.1.c m.2.2.1.c m.2.2.2.c
theorem xY{l:List Pt}(hl:∀p∈l,Sc p.c):∀p∈Qaz l,Cp p:=λp hp=>by
 have hw:=λ(x:Pt) (h:x∈H7 l)=>hl x (Tp h)
 rcases Qp.1 hp with hp|hp
 ·obtain⟨m,hm,rfl⟩:=Q9.1 hp;obtain⟨h1,h2,h3⟩:=GT _ _ m hm;exact YV (hw _ h1) (hw _ h2) (hw _ h3)
 ·obtain⟨m,hm,rfl⟩:=Q9.1 hp;obtain⟨h1,h2,h3,h4⟩:=rA _ _ m hm;exact aQ (hw _ h1) (hw _ h2) (hw _ h3) (hw _ h4)
theorem xW{l:List Pt}{a:Tm}:∀x∈wQ l a,x.p∈Qaz l:=λx hx=>by
 rcases Qp.1 hx with hx|hx
 ·obtain⟨m,hm,rfl⟩:=Q9.1 hx;exact Xn _ (Q9.2 ⟨m,hm,rfl⟩)
 ·obtain⟨m,hm,rfl⟩:=Q9.1 hx;exact Je _ (Q9.2 ⟨m,hm,rfl⟩)
theorem Qd9{l:List Pt}(h:l.length<=6):(Qaz l).length<=1000000:=by
 have hw:=Az l;obtain⟨h1,h2⟩:=YO (l:=H7 l) (by omega);unfold Qaz;rw[Qx,Zb,Zb];omega
theorem pJ{l:List Pt}(hl:∀p∈l,Sc p.c)(hn:l.length≤6):BuildOk (wQ l) :=
 ⟨λ_ _ x hx=>xY hl _ (xW x hx),λa _=>Qc (Qct _ hn) (by decide)⟩
theorem Qzb{l:List Pt}(hl:∀p∈l,Sc p.c)(hn:l.length≤6):Stab (wQ l) (pS l):=by
 refine⟨pJ hl hn,⟨Qaz l,xY hl,λa _=>xW⟩,λa b _ _ h=>?_⟩;have e1:∀m∈Rj (H7 l),PM (Fq b) m=PM (Fq a) m:=λm hm=>by
  have:=h (PM (Fq a) m) (Xn _ (Q9.2 ⟨m,hm,rfl⟩));have e:Hl (Fq b) (Hi m.1.c m.2.1.c m.2.2.c)=Hl (Fq a) (Hi m.1.c m.2.1.c m.2.2.c):=this;unfold PM Lh;rw[e]
 have e2:∀m∈O4 (H7 l),HH (Fq b) m=HH (Fq a) m:=λm hm=>by
  have:=h (HH (Fq a) m) (Je _ (Q9.2 ⟨m,hm,rfl⟩));have e:Hl (Fq b) (VA m.1.c m.2.1.c m.2.2.1.c m.2.2.2.c)=Hl (Fq a) (VA m.1.c m.2.1.c m.2.2.1.c m.2.2.2.c):=this;unfold HH qF;rw[e]
 have t1:ZM (Fq b) (Rj (H7 l))=ZM (Fq a) (Rj (H7 l)):=Xt λm hm=>by rw[e1 m hm]
 have t2:VS (Fq b) (O4 (H7 l))=VS (Fq a) (O4 (H7 l)):=Xt λm hm=>by rw[e2 m hm]
 constructor
 ·unfold wQ gZ;rw[Xt e1,Xt e2]
 ·unfold pS SS;rw[t1,t2]
def Qxn(l:List Pt)(a:Tm):Cr:=⟨a,(Fw (wQ l a)).map fresh,0⟩
def kR(M:Bb):Prop:=∀k,(Aj M k).getD (.int .i64 0)=.int .i64 (ZS M k)/\-1<=ZS M k/\ZS M k<=1
def VN(M:Bb):Prop:=∀k,(Aj M k).getD (.bool false)=.bool (BQ M k)
theorem OO(M:Bb)(k:Uo)(x:LV)(k':Uo):Aj (L6 M k x) k'=if k'=k then some x else Aj M k':=by
 induction M with
 |nil=>simp[L6,Aj]
 |
  cons e M ih =>
  simp only[L6];by_cases h:k=e.1
  ·rw[if_pos h];simp only[Aj];by_cases h2:k'=k
   ·rw[if_pos h2,if_pos h2]
   ·rw[if_neg h2,if_neg h2,if_neg (λe2=>h2 (e2.trans h.symm))]
  ·rw[if_neg h];simp only[Aj];by_cases h2:k'=e.1
   ·rw[if_pos h2,if_pos h2,if_neg (λe2=>h (e2.symm.trans h2))]
   ·rw[if_neg h2,if_neg h2,ih]
theorem Qif:kR []:=λ_=>⟨rfl,show(-1:Int)<=0 by decide,show(0:Int)<=1 by decide⟩
theorem Qa4:VN []:=λ_=>rfl
theorem Qig{M:Bb}(h:kR M){k:Uo}{n:Int}(hn:-1<=n/\n<=1):kR (L6 M k (.int .i64 n)):=by
 intro k';have h1:=h k';unfold ZS at h1 ⊢;rw[OO];by_cases e:k'=k
 ·rw[if_pos e];exact⟨rfl,hn.1,hn.2⟩
 ·rw[if_neg e];exact h1
theorem Qa5{M:Bb}(h:VN M){k:Uo}{b:Bool}:VN (L6 M k (.bool b)):=by
 intro k';have h1:=h k';unfold BQ at h1 ⊢;rw[OO];by_cases e:k'=k
 ·rw[if_pos e];rfl
 ·rw[if_neg e];exact h1
theorem A7{T F:Bb}{s:Int}{n:Uo}{k:Nat}(h:VN F):VN (I9 T s n F k):=by
 unfold I9;generalize (if (3-k) % 2=1 then -s else s)=s'
 split
 ·exact Qa5 h
 ·exact h
theorem pR{T F:Bb}{s:Int}{n:Uo}(h:VN F):VN (OF T s n F):=A7 (A7 (A7 (A7 h)))
theorem Qcw{x s:Int}(hx:-1<=x/\x<=1)(hs:-1<=s/\s<=1):-9223372036854775808<=x*s/\x*s<=9223372036854775807:=by
 have h:x=-1\/x=0\/x=1:=by omega
 rcases h with rfl|rfl|rfl <;> omega
structure MOk(M:List Pt):Prop where
 sc:∀p∈M,Sc p.c
 ln:M.length<=6
 so:Sj M
theorem MOk.df{M:List Pt}(h:MOk M):M.Pairwise λx y=>x.id≠y.id:=h.so.imp λh e=>by omega
structure Knd(β:Type) where
 bc:List Pt->Tm->List Ct
 br:List Pt->Tm->β
 al:List Pt->List (List Int)
structure KndOk{β:Type}(k:Knd β):Prop where
 st:∀M,MOk M->Stab (k.bc M) (k.br M)
 cp:∀M,MOk M->∀p∈k.al M,Cp p
 al:∀M a,∀x∈k.bc M a,x.p∈k.al M
 ln:∀M,MOk M->(k.al M).length<=1000000
abbrev kS:Knd Uu:=⟨JA,IF,Ef⟩
abbrev kT:Knd (Uu×Uu):=⟨xF,pP,Ef⟩
abbrev kH:Knd Uu:=⟨AM,brH,λl=>Ef l++NP l⟩
abbrev kP:Knd Uu:=⟨dE,brP,AS⟩
abbrev kD:Knd Uu:=⟨wQ,pS,Qaz⟩
theorem NN{l:List Pt}(h:l.length<=6):(Ef l).length<=72:=by
 rw[kL];exact Qc (Zd h (Zd h (Qm 2))) (by decide)
theorem UL{α β:Type}{f:α->List β}{n:Nat}(l:List α)(h:∀x∈l,(f x).length=n):(l.flatMap f).length=l.length*n:=by
 induction l with
 |nil=>simp
 |
  cons x l ih =>
  rw[J3,Qx,h x (by simp),ih λy hy=>h y (Qg _ hy),Q5,X4];omega
theorem Qmh(l:List Pt):(NP l).length=l.length*(l.length*l.length):=by
 unfold NP;exact UL l λx _=>UL l λy _=>by simp
theorem Qmf(l:List Pt):(AS l).length=l.length*(l.length*(l.length*l.length)):=by
 unfold AS;exact UL l λx _=>UL l λy _=>UL l λz _=>by simp
theorem okS:KndOk kS:=⟨λM h=>Qze h.sc (by have:=h.ln;omega) h.df,λM h=>QZ h.sc,λM a=>dI,λM h=>Qc (NN h.ln) (by decide)⟩
theorem okT:KndOk kT:=⟨λM h=>Qzf h.sc (by have:=h.ln;omega) h.df,λM h=>QZ h.sc,λM a=>Qml,λM h=>Qc (NN h.ln) (by decide)⟩
theorem okH:KndOk kH:=⟨λM h=>Qzc h.sc (by have:=h.ln;omega) h.df,λM h=>PL h.sc,λM a=>xU,λM h=>by
 have h1:=NN h.ln;have h2:=Qmh M;have h3:M.length*(M.length*M.length)<=6*(6*6):=Zd h.ln (Zd h.ln h.ln);show(Ef M++NP M).length<=_;rw[Qx];omega⟩
theorem okP:KndOk kP:=⟨λM h=>Qzd h.sc (by have:=h.ln;omega) h.df,λM h=>WI h.sc,λM a=>dA,λM h=>by
 have h3:M.length*(M.length*(M.length*M.length))<=6*(6*(6*6)):=Zd h.ln (Zd h.ln (Zd h.ln h.ln));show(AS M).length<=_;rw[Qmf];omega⟩
theorem okD:KndOk kD:=⟨λM h=>Qzb h.sc h.ln,λM h=>xY h.sc,λM a=>xW,λM h=>Qd9 h.ln⟩
open Classical in
noncomputable def cnt(bc:Tm->List Ct)(q t:Rat):Nat:=if h:∃E,Evs bc t (tq q) E then(Classical.choose h).length else 0
theorem Qgv{β:Type}{Bc:Tm->List Ct}{Br:Tm->β}(S:Stab Bc Br){q t:Rat}(hq:Va (tq q)){E:List Tm}(h:Evs Bc t (tq q) E):cnt Bc q t=E.length:=by
 have hx:∃E,Evs Bc t (tq q) E:=⟨E,h⟩;unfold cnt;rw[dif_pos hx];exact Qu0 S hq (Classical.choose_spec hx) h
structure At{β:Type}(k:Knd β)(M:List Pt)(q:Rat)(c:Cr):Prop where
 now:c.now=tq q
 st:KSt (k.bc M) (k.br M) c (k.br M (tq q))
section
variable{β:Type}{k:Knd β}(ok:KndOk k){M M':List Pt}{q t:Rat}{c:Cr}
include ok
theorem At.again(h:At k M q c)(hM:MOk M'):∃ws,Tl c.l c.now (Fw (k.bc M' c.now))=some ws/\At k M' q ⟨tq q,ws,c.ev⟩:=by
 obtain⟨⟨o,kk⟩,hcs,hr⟩:=h.st;have S:=ok.st M' hM;obtain⟨ws,l1,l2⟩:=nM o.n o.l (Fw (k.bc M' c.now));have o':=Orr.lay_ok c.ev o o.n (S.ok.p _ o.n) (S.ok.n _ o.n) l1;have hl:=iZ o.n o.n (λh=>Iw o.n.cut o.n.cut h h) o.l kk l1;rw[h.now]at o' hl l2;exact⟨ws,l1,rfl,⟨⟨o',hl⟩,l2,rfl⟩⟩
theorem At.adv(h:At k M q c)(hM:MOk M)(ht:Qs 1640000 t)(hqt:q<=t) :
 ∃(K:Nat) (c':Cr),K<=67000001/\WE (k.bc M) (k.br M) t K c (k.br M (tq q)) 0=some (c',k.br M (tq t),((cnt (k.bc M) q t:Nat):Int))/\At k M t c'/\c'.ev=c.ev+((cnt (k.bc M) q t:Nat):Int)/\cnt (k.bc M) q t<=67000000/\cnt (k.bc M) q t<=((k.al M).flatMap IV).length:=by
 have S:=ok.st M hM;have hP:=ok.cp M hM;have hm:=vM hP;have hmu:=Qsi ((k.al M).flatMap IV) c.now;have hl:=ok.ln M hM;have hv:=h.st.inv.ok.n;have hc:Fo c.now t<=0:=by rw[h.now,sY];rcases Cf q t with⟨e,e'⟩|⟨e,e'⟩|⟨e,e'⟩ <;> first|omega|(exfalso;grind)
 obtain⟨c',r',E,g1,g2,g3,g4,g5,g6⟩:=Qsa S ht hP (λa _=>ok.al M a) (mu ((k.al M).flatMap IV) c.now) c _ 0 (Qm _) h.st λh'=>by
  have:=(HT hv.cut).2 h';omega
 have hr:r'=k.br M (tq t):=by rw[g3.r,g2]
 rw[hr]at g1 g3;rw[Int.zero_add]at g1;rw[h.now]at g6;have he:=Qgv S (by rw[<-h.now];exact hv) g6;rw[he];exact⟨_,c',by omega,g1,⟨g2,g3⟩,g4,by omega,by omega⟩
end
theorem At.begin{β:Type}{k:Knd β}(ok:KndOk k){M:List Pt}{q:Rat}(hM:MOk M)(hq:Qs 1640000 q):At k M q ⟨tq q,(Fw (k.bc M (tq q))).map fresh,0⟩:=⟨rfl,Qeh (ok.st M hM) (AQ hq)⟩
end Orq
namespace Orq
open Orr Go
theorem gK{α:Type}:∀(L:List α) {R:List α},L.Pairwise (λx y=>x≠y)->(∀x∈L,x∈R)->L.length≤R.length
 | [],_,_,_=>Qh _
 |
  x::L,R,h,hs=>by
  obtain⟨h1,h2⟩:=Q6.1 h;obtain⟨A,B,rfl⟩:=Wq (hs x (by simp));have:=gK L (R:=A++B) h2 λy hy=>by
   have:=hs y (Qg _ hy);simp only[Qp,Ql]at this ⊢;rcases this with h|h|h
   ·exact .inl h
   ·exact absurd h.symm (h1 y hy)
   ·exact .inr h
  simp only[Qx,Q5]at this ⊢;omega
theorem jF{α:Type}{Q:α->α->Prop}{x y:α}{l':List α}:∀(l:List α),Edg Q (l++x::y::l')->Q x y
 | [],h=>h.1
 |_::l,h=>jF l (Edg.tail h)
theorem eO{α:Type}{R:α->α->α->Prop}{x y z:α}{l':List α}:∀(l:List α),Cnv R (l++x::y::z::l')->R x y z
 | [],h=>h.1
 |_::l,h=>eO l (Cnv.tail h)
theorem ID{X Y:Pt->Rat}{R:List Pt}{f z p:Pt}{A:List Pt}(c:LowC X Y R (f::A++[z]))(hp:p∈A):0<Mm X Y f p z:=by
 obtain⟨A1,A2,rfl⟩:=Wq hp;obtain⟨L1,x,hx⟩:∃L1 x,f::A1=L1++[x]:=⟨(f::A1).dropLast,(f::A1).getLast (by simp),(List.dropLast_concat_getLast (by simp)).symm⟩;obtain⟨y,L2,hy⟩:∃y L2,A2++[z]=y::L2:=by
  cases A2 with
  |nil=>exact⟨z,[],rfl⟩
  |cons y A2=>exact⟨y,A2++[z],rfl⟩
 have e:f::(A1++p::A2)++[z]=L1++x::p::y::L2:=by
  have e1:f::(A1++p::A2)++[z]=(f::A1)++p::(A2++[z]):=by simp
  rw[e1,hx,hy];simp
 have hf:f∈R:=c.mem f (by simp);have hz:z∈R:=c.mem z (by simp);have srt:=c.srt;have edg:=c.edg;have cnv:=c.cnv;have srt0:=srt;rw[e]at srt edg cnv;have t0:=eO L1 cnv;have t1:=jF L1 edg f hf;have t2:0<=Mm X Y p y z:=by
  have:L1++x::p::y::L2=(L1++[x])++p::y::L2:=by simp
  rw[this]at edg;exact jF _ edg z hz
 obtain⟨_,s2,_⟩:=Z4.1 srt;obtain⟨sx,s2⟩:=Q6.1 s2;obtain⟨sp,_⟩:=Q6.1 s2;have lxp:=sx p (by simp);have lpy:=sp y (by simp);have lfp:lx X Y f p:=(Q6.1 (Z4.1 srt0).1).1 p (by simp);have lpz:lx X Y p z:=by
  have:=(Z4.1 srt0).2.2 p (by simp) z (by simp);exact this
 have vf:=M8 lfp;have vx:=M8 lxp;have vy:=M8 lpy;have vz:=M8 lpz;have a1:0<=(X p-X f)*(Y p-Y x)-(X p-X x)*(Y p-Y f):=by unfold Mm at t1;grind
 have a2:0<(X p-X x)*(Y y-Y p)-(X y-X p)*(Y p-Y x):=by unfold Mm at t0;grind
 have a3:0<=(X y-X p)*(Y z-Y p)-(X z-X p)*(Y y-Y p):=by unfold Mm at t2;grind
 have b1:=(ang vf vx vy a1 (Qt a2)).2 (.inr a2);have b2:=(ang vf vy vz (Qt b1) a3).2 (.inl b1);unfold Mm;grind
theorem Qgw{M:List Pt}{a:Tm}{q:Rat}(S:Soon M a q):(Rk M a).Pairwise λx y=>x≠y:=by
 by_cases h3:3<=(Rr a (H7 M)).length
 ·obtain⟨f,z,A,B,hA,hB,c1,c2,_⟩:=QR S h3;have e:Rk M a=f::A++(z::B):=by
   unfold Rk Nb;rw[if_neg (by omega),hA,hB,Jl,Jl]
  rw[e];have p1:=c1.srt;have p2:=c2.srt;obtain⟨p3,_,p4⟩:=Z4.1 p1;obtain⟨p5,_,p6⟩:=Z4.1 p2;refine Z4.2 ⟨List.Pairwise.imp (λ{u v} (h:lx (px · q) (py · q) u v) (e:u=v)=>by subst e;exact Mf _ h) p3,List.Pairwise.imp (λ{u v} (h:lx (λp=>-px p q) (λp=>-py p q) u v) (e:u=v)=>by subst e;exact Mf _ h) p5,λx hx y hy e=>?_⟩;subst e;rcases Ql.1 hx with rfl|hxA
  ·exact Mf _ (p6 x hy x (by simp))
  ·rcases Ql.1 hy with rfl|hyB
   ·exact Mf _ (p4 x hx x (by simp))
   ·have h1:=ID c1 hxA;have h2:=ID c2 hyB;unfold Mm at h1 h2;grind
 ·have e:Rk M a=Rr a (H7 M):=by unfold Rk Nb;rw[if_pos (by omega)]
  rw[e];exact S.r.imp λh e=>by subst e;exact Mf _ h
section
variable{M:List Pt}(hM:MOk M){a:Tm}(ha:Va a)
include hM ha
theorem Qia:(Rk M a).length<=M.length:=by
 obtain⟨q,S⟩:=NU hM.sc hM.df ha;have hl:(Rr a (H7 M)).length<=M.length:=by rw[Pu];exact Az M
 exact Qc (gK _ (R:=Rr a (H7 M)) (Qgw S) λx hx=>EF hx) hl
end
theorem AX:∀(l out:List Pt),Sj l->(∀o∈out,∀x∈l,o.id<x.id)->(∀w∈out,w∈l.foldl Ph out)/\∀p∈l,∃w∈l.foldl Ph out,w.c=p.c/\w.id≤p.id
 | [],out,_,_=>⟨λ_ h=>h,λ_ h=>by cases h⟩
 |
  x::l,out,hs,ho=>by
  obtain⟨s1,s2⟩:=Q6.1 hs;have hE:∀{u v:Crv},La u v=true↔u=v:=λ{u v}=>by cases u;cases v;simp[La]
  by_cases hc:(out.any λq=>La x.c q.c)=true
  ·have e:Ph out x=out:=by unfold Ph;rw[if_pos hc]
   rw[Z5,e];obtain⟨i1,i2⟩:=AX l out s2 λo ho' y hy=>ho o ho' y (Qg _ hy)
   refine⟨i1,λp hp=>?_⟩;rcases Ql.1 hp with rfl|hp
   ·obtain⟨w,hw,he⟩:=List.any_eq_true.1 hc;exact⟨w,i1 w hw,(hE.1 he).symm,Int.le_of_lt (ho w hw p (by simp))⟩
   ·exact i2 p hp
  ·have e:Ph out x=out++[x]:=by unfold Ph;rw[if_neg hc]
   rw[Z5,e];obtain⟨i1,i2⟩:=AX l (out++[x]) s2 λo ho' y hy=>by
    rcases Qp.1 ho' with h|h
    ·exact ho o h y (Qg _ hy)
    ·rw[Qk.1 h];exact s1 y hy
   refine⟨λw hw=>i1 w (Xn _ hw),λp hp=>?_⟩;rcases Ql.1 hp with rfl|hp
   ·exact⟨p,i1 p (by simp),rfl,J7 _⟩
   ·exact i2 p hp
section
variable{M:List Pt}(hM:MOk M){a:Tm}(ha:Va a)
include hM ha
theorem nH{x:Pt}{T:List Pt}(hr:Rr a M=x::T):∃U,Rk M a=x::U:=by
 obtain⟨q,S⟩:=NU hM.sc hM.df ha;have w1:=EG (a:=a) (l:=M) (q:=q) S.b hM.df;have w2:=EG (a:=a) (l:=H7 M) (q:=q) (λu hu v hv=>S.b u (Tp hu) v (Tp hv)) (hM.df.sublist (AY M));have hxM:x∈M:=by rw[<-Gv (t:=a),hr];simp
 rw[hr]at w1;have hx1:=(Q6.1 w1).1;have hxT:∀y∈M,y=x\/B9 q x y:=λy hy=>by
  rw[<-Gv (t:=a),hr]at hy;rcases Ql.1 hy with e|e
  ·exact .inl e
  ·exact .inr (hx1 y e)
 have hxw:x∈H7 M:=by
  obtain⟨w,hw,e1,e2⟩:=(AX M [] hM.so (λ_ h=>by cases h)).2 x hxM;rcases hxT w (Tp hw)with e|e
  ·rw[<-e];exact hw
  ·exfalso;have p1:px w q=px x q:=by unfold px;rw[e1]
   have p2:py w q=py x q:=by unfold py;rw[e1]
   unfold B9 at e;rw[p1,p2]at e;grind
 cases hR:Rr a (H7 M)with
 |nil=>have:=Gv (t:=a).2 hxw;rw[hR]at this;cases this
 |
  cons y T' =>
  rw[hR]at w2;have hy1:=(Q6.1 w2).1;have hyx:y=x:=by
   have h1:=Gv (t:=a).2 hxw;rw[hR]at h1;rcases Ql.1 h1 with e|e
   ·exact e.symm
   ·have h2:=hy1 x e;have hyM:y∈M:=Tp (Gv (t:=a).1 (by rw[hR];simp));rcases hxT y hyM with e|e
    ·exact e
    ·exact absurd (QA q _ _ _ h2 e) (Of q _)
  subst hyx;by_cases h3:3<=(Rr a (H7 M)).length
  ·obtain⟨f,z,A,B,hA,hB,c1,c2,_⟩:=QR S h3;have e:Rk M a=f::A++(z::B):=by
    unfold Rk Nb;rw[if_neg (by omega),hA,hB,Jl,Jl]
   have hh:=c1.hd;rw[hR]at hh;have:f=y:=by simpa using hh
   rw[e,this];exact⟨_,rfl⟩
  ·have e:Rk M a=Rr a (H7 M):=by unfold Rk Nb;rw[if_pos (by omega)]
   rw[e,hR];exact⟨_,rfl⟩
end
theorem RL:∀(k:Nat) {l:List Pt},Sj l->∀m∈Ht k l,m.1.id<m.2.id
 | 0,l,_,m,h=>by simp[Ht]at h
 |k+1,[],_,m,h=>by simp[Ht]at h
 |
  k+1,x::l,hs,m,h=>by
  obtain⟨s1,s2⟩:=Q6.1 hs;rcases Qp.1 h with h|h
  ·obtain⟨y,hy,rfl⟩:=Q9.1 h;exact s1 y hy
  ·exact RL k s2 m h
theorem LY(sg:Uo->Int):∀(ps:List (Pt×Pt)) (s:Pt×Pt),G9 sg s ps=s\/G9 sg s ps∈ps
 | [],s=>.inl rfl
 |
  m::ps,s=>by
  rw[En];rcases LY sg ps (Pm sg s m)with h|h
  ·rw[h];rcases YB sg s m with e|e
   ·rw[e];exact .inr (by simp)
   ·rw[e];exact .inl rfl
  ·exact .inr (Qg _ h)
theorem Qpq(sg:Uo->Int){M:List Pt}(hs:Sj M):(M.length<2/\Ij sg M=[])\/(2<=M.length/\∃x y,Ij sg M=[x,y]/\x∈M/\y∈M/\x.id<y.id):=by
 match M,hs with
 | [],_=>exact .inl ⟨by decide,rfl⟩
 | [_],_=>exact .inl ⟨Nat.lt_of_sub_eq_succ rfl,rfl⟩
 |
  a::b::l,hs =>
  right;refine⟨by simp,_,_,rfl,?_⟩;have hab:(a,b)∈Gi (a::b::l):=Xn _ (Q9.2 ⟨b,by simp,rfl⟩);have hm:G9 sg (a,b) (Gi (a::b::l))∈Gi (a::b::l):=by
   rcases LY sg (Gi (a::b::l)) (a,b)with h|h
   ·rw[h];exact hab
   ·exact h
  obtain⟨m1,m2⟩:=Tg _ _ _ hm;exact⟨m1,m2,RL _ hs _ hm⟩
theorem Qao:∀(k:Nat) {l:List Pt},Sj l->∀m∈C0 k l,m.1.id<m.2.1.id/\m.2.1.id<m.2.2.id
 | 0,l,_,m,h=>by simp[C0]at h
 |k+1,[],_,m,h=>by simp[C0]at h
 |
  k+1,x::l,hs,m,h=>by
  obtain⟨s1,s2⟩:=Q6.1 hs;rcases Qp.1 h with h|h
  ·obtain⟨y,hy,rfl⟩:=Q9.1 h;exact⟨s1 _ (Tg _ _ _ hy).1,RL _ s2 _ hy⟩
  ·exact Qao k s2 m h
theorem Qo5{sg:Uo->Int}{M:List Pt}(hs:Sj M):∀m∈SS sg M,(m.1.id<m.2.1.id/\m.2.1.id<m.2.2.id)/\m.1∈M/\m.2.2∈M:=λm hm=>by
 have h:=Qcu hm;obtain⟨h1,_,h3⟩:=GT _ _ m h;exact⟨Qao _ (hs.sublist (AY M)) m h,Tp h1,Tp h3⟩
theorem Qwz(sg:Uo->Int)(M:List Pt):(M=[]/\(M9 sg M).1=[])\/(0<M.length/\∃w,(M9 sg M).1=[w]/\w∈M):=by
 cases M with
 |nil=>exact .inl ⟨rfl,rfl⟩
 |
  cons x l =>
  obtain⟨w,h1,h2,_⟩:=Mg sg (x::l).length (x::l) (Qm _) (by simp);exact .inr ⟨by simp,w,h1,h2⟩
end Orq
namespace Orr
open Go Go.Proofs Tryz Orq
set_option maxRecDepth 10000
abbrev Tt(c:Cr)(r0:Uu)(r1:Uu×Uu):Ut:=.bool true::pl c.now.p::sg c.now.lo.num::mg c.now.lo.num::sg (c.now.lo.den:Int)::mg (c.now.lo.den:Int)::sg c.now.hi.num::mg c.now.hi.num::sg (c.now.hi.den:Int)::mg (c.now.hi.den:Int)::.row (C9 c.l)::.int .i64 c.ev::[.row r0,.row r1.1,.row r1.2]
abbrev Qui(r0:LV)(r1:LV×LV):Ut:=[.bool false,.nils,.bool false,.nils,.bool false,.nils,.bool false,.nils,.bool false,.nils,.nils,.int .i64 0,r0,r1.1,r1.2]
theorem mQ{T:Nat}{c:Cr}{r0:Uu}{r1:Uu×Uu}(hc:Va c.now):U6 prog 400 [.one (.ow 0 0)] [.blk T (Tt c r0 r1)] [.agg (ta c.now)] [.blk T (Tt c r0 r1)]:=by
 have cl:=S8 (b:=c.now) (l:=[]) hc.tb (λt ht=>by cases ht) (by decide) rfl;refine Fv func400 rfl ?_;exact Uj [] [0] [.f rfl,.k cl] rfl
theorem Qnd{T:Nat}{c:Cr}{r0:Uu}{r1:Uu×Uu}{x:Ct}{at_:Tm}{w:Wt}(hc:CrOk c)(hx:Cp x.p)(ha:Va at_)(h:Ck c.l x at_=some w):U6 prog 289 [.one (.ow 0 0),.agg (Lx x),.agg (ta at_)] [.blk T (Tt c r0 r1)] [.agg (wl w)] [.blk T (Tt c r0 r1)]:=by
 have hk:=hc.k;have hw:=Sy c.l;refine Fv func289 rfl ?_;refine Uf [] rfl ?_;refine Uk (S:=Nat) 4 (λL1 i=>(14,.v (.oi i))::L1) (λ_=>[.blk T (Tt c r0 r1),.blk 99 (Lx x),.blk 105 (ta at_),.blk 352 [.int .i64 0,.int .i64 0,.int .i64 0,.int .i64 0,.int .i64 0,.nils,.int .i64 0,.bool false,.bool false,.nils,.bool false,.nils,.bool false,.nils,.bool false,.nils,.bool false,.nils]]) (λi=>c.l.length-i) (λi=>i<=c.l.length/\Ck (c.l.drop i) x at_=some w) 0 ⟨Qh _,h⟩ rfl rfl λi ⟨hi,hf⟩=>?_
 by_cases hlt:i<c.l.length
 ·obtain⟨v,hv⟩:=gxE (l:=c.l) (i:=i) hlt;have hdr:c.l.drop i=v::c.l.drop (i+1):=by
   rw[Zp hlt];congr 1;have:=Qf hlt;rw[hv]at this;injection this with this;exact this.symm
  have hvo:=hc.l v (Qa hv);rw[hdr]at hf;simp only[Ck]at hf;have hl:decide ((i:Int)<((C9 c.l).length:Int))=true:=by simp[hw];omega
  by_cases A:tG v.c x=true
  ·have A':(!decide ([v.c.kind,v.c.i0,v.c.i1,v.c.i2,v.c.i3]=[x.kind,x.i0,x.i1,x.i2,x.i3]))=false:=by
    unfold tG at A;rw[A];rfl
   by_cases B:v.known=true
   ·have B':(!v.known)=false:=by rw[B];rfl
    have cs:=MZ (p:=v.c.p) (q:=x.p) (Dp.pb hvo.p.dp).ln (Dp.pb hx.dp).ln (Dp.pb hvo.p.dp).bd (Dp.pb hx.dp).bd;rw[hvo.p.t,hx.t]at cs;by_cases C:v.c.p=x.p
    ·have C':(!decide (v.c.p=x.p))=false:=by simp[C]
     rw[if_pos ⟨A,B,C⟩]at hf;obtain⟨vc,vk,vf⟩:=v;cases vf with
     |
      none =>
      injection hf with hf;subst hf;exact Uj [] [0] [.t hl,.x (H5 hv),.g 24 false A',.g 29 false B',.k cs,.f C',.g 41 true rfl,.t rfl] rfl
     |
      some t =>
      obtain⟨r,r1',hf⟩:=Qd.1 hf;have cc:=KY (hvo.f t rfl).tb ha.tb r1';by_cases D:0<r
      ·rw[if_pos D]at hf;injection hf with hf;subst hf;exact Uj [] [0] [.t hl,.x (H5 hv),.g 24 false A',.g 29 false B',.k cs,.f C',.g 41 false rfl,.k cc,.t (by simpa using D)] rfl
      ·rw[if_neg D]at hf;refine Ug [.t hl,.x (H5 hv),.g 24 false A',.g 29 false B',.k cs,.f C',.g 41 false rfl,.k cc,.f (by simpa using D)] rfl ?_;exact rd (i+1) (by omega) ⟨hlt,hf⟩ rfl
    ·rw[if_neg λh=>C h.2.2]at hf;refine Ug [.t hl,.x (H5 hv),.g 24 false A',.g 29 false B',.k cs,.t (by simp[C])] rfl ?_;exact rd (i+1) (by omega) ⟨hlt,hf⟩ rfl
   ·rw[if_neg λh=>B h.2.1]at hf;refine Ug [.t hl,.x (H5 hv),.g 24 false A',.g 29 true (by simpa using B),.t rfl] rfl ?_;exact rd (i+1) (by omega) ⟨hlt,hf⟩ rfl
  ·rw[if_neg λh=>A h.1]at hf;refine Ug [.t hl,.x (H5 hv),.g 24 true (by rw[show decide ([v.c.kind,v.c.i0,v.c.i1,v.c.i2,v.c.i3]=[x.kind,x.i0,x.i1,x.i2,x.i3])=false from Wv.2 A];rfl),.g 29 true rfl,.t rfl] rfl ?_;exact rd (i+1) (by omega) ⟨hlt,hf⟩ rfl
 ·obtain rfl:i=c.l.length:=by omega
  rw[Yu]at hf;simp only[Ck]at hf;injection hf with hf;subst hf;exact Uj [] [0] [.f (by simp[hw])] rfl
theorem lN{T:Nat}{c:Cr}{r0:Uu}{r1:Uu×Uu}{at_:Tm}{l:List Ct}{ws:List Wt}(hc:CrOk c)(ha:Va at_)(hl:∀x∈l,Cp x.p)(hn:l.length≤1000)(h:Tl c.l at_ (Fw l)=some ws):U6 prog 250 [.one (.ow 0 0),.agg (ta at_),.one (.bool true),.one (.row (Fl l))] [.blk T (Tt c r0 r1)] [] [.blk T (Tt ⟨at_,ws,c.ev⟩ r0 r1)]:=by
 have cs:=xM (l:=l) (λx hx=>Dp.pb (hl x hx).dp) (by omega);have cl:=S8 (b:=at_) (l:=[]) ha.tb (λt ht=>by cases ht) (by decide) rfl;obtain⟨h1,h2⟩:=XM h;have hs:(Fw l).length=l.length:=Ds l;refine Fv func250 rfl ?_;refine Uf [.o 8 352 18,.k cs] rfl ?_;refine Uk (S:=Nat) 3 (λL1 i=>(15,.v (.oi i))::(8,.v (.one (.orow 2 18 none)))::L1) (λi=>[.blk T (Tt c r0 r1),.blk 105 (ta at_),.row false 352 18 (C9 (ws.take i))]) (λi=>ws.length-i) (λi=>i<=ws.length) 0 (Qh _) rfl rfl λi hi=>?_
 by_cases hlt:i<ws.length
 ·obtain⟨x,hx⟩:=gxE (l:=(Fw l)) (i:=i) (by omega);obtain⟨w,hw,hw'⟩:=h2 i x hx;have hm:∀y∈[wl w],y.length=18:=λy hy=>by rw[Qk.1 hy];rfl
  have hlt':decide ((i:Int)<((Fl (Fw l)).length:Int))=true:=by simp[Fl];omega
  have ck:=Qnd (T:=T) (r0:=r0) (r1:=r1) hc (hl x (VZ (Qa hx))) ha hw;have hg:=E9 hw';obtain⟨wc,wk,wf⟩:=w;cases wf <;> (refine go tt [.t hlt',.x (KB hx),.t rfl,.c [0] ck,.s (sz:=18) hm] rfl (by simp[U3,Sy];omega) ?_;exact rd (i+1) (by omega) hlt (by rw[hg];rfl))
 ·obtain rfl:i=ws.length:=by omega
  rw[Q7];have hge:decide ((ws.length:Int)<((Fl (Fw l)).length:Int))=false:=by simp[Fl];omega
  exact Uj [] [0] [.f hge,.p 2,.k cl] rfl
theorem Qne{T:Nat}{r0:Uu}{r1:Uu×Uu}{at_:Tm}{l:List Ct}(ha:Va at_)(hl:∀x∈l,Cp x.p)(hn:l.length≤1000):U6 prog 250 [.one (.ow 0 0),.agg (ta at_),.one (.bool false),.one (.row (Fl l))] [.blk T (Qui (.row r0) (.row r1.1,.row r1.2))] [] [.blk T (Tt ⟨at_,(Fw l).map fresh,0⟩ r0 r1)]:=by
 have cs:=xM (l:=l) (λx hx=>Dp.pb (hl x hx).dp) (by omega);have cl:=S8 (b:=at_) (l:=[]) ha.tb (λt ht=>by cases ht) (by decide) rfl;have hs:(Fw l).length=l.length:=Ds l;refine Fv func250 rfl ?_;refine Uf [.o 8 352 18,.k cs] rfl ?_;refine Uk (S:=Nat) 3 (λL1 i=>(15,.v (.oi i))::(8,.v (.one (.orow 2 18 none)))::L1) (λi=>[.blk T (Qui (.row r0) (.row r1.1,.row r1.2)),.blk 105 (ta at_),.row false 352 18 (C9 (((Fw l).map fresh).take i))]) (λi=>l.length-i) (λi=>i<=l.length) 0 (Qh _) rfl rfl λi hi=>?_
 by_cases hlt:i<l.length
 ·obtain⟨x,hx⟩:=gxE (l:=(Fw l)) (i:=i) (by omega);have hm:∀y∈[wl (fresh x)],y.length=18:=λy hy=>by rw[Qk.1 hy];rfl
  have hlt':decide ((i:Int)<((Fl (Fw l)).length:Int))=true:=by simp[Fl];omega
  have hg:=E9 (l:=(Fw l).map fresh) (i:=i) (w:=fresh x) (by rw[Za,hx];rfl);refine go tt [.t hlt',.x (KB hx),.z 20,.f rfl,.s (sz:=18) hm] rfl (by simp[U3,Sy];omega) ?_;exact rd (i+1) (by omega) hlt (by rw[hg];rfl)
 ·obtain rfl:i=l.length:=by omega
  rw[Qo (by simp;omega)];have hge:decide ((l.length:Int)<((Fl (Fw l)).length:Int))=false:=by simp[Fl];omega
  exact Uj [] [0] [.f hge,.p 2,.k cl] rfl
theorem Qbl{T:Nat}{r0:Uu}{r1:Uu×Uu}{at_:Tm}{l:List Ct}(ha:Va at_)(hl:∀x∈l,Cp x.p)(hn:l.length≤1000):U6 prog 194 [.one (.ow 0 0),.agg (ta at_),.one (.row (Fl l))] [.blk T (Qui (.row r0) (.row r1.1,.row r1.2))] [] [.blk T (Tt ⟨at_,(Fw l).map fresh,0⟩ r0 r1)]:=by
 have cl:=Qne (T:=T) (r0:=r0) (r1:=r1) ha hl hn;refine Fv func194 rfl ?_;exact Uj [] [0] [.g 12 false rfl,.c [0] cl] rfl
theorem Qbm{T:Nat}{c:Cr}{r0:Uu}{r1:Uu×Uu}{at_:Tm}{l:List Ct}{ws:List Wt}{k:Int}(hc:CrOk c)(ha:Va at_)(hk:UF at_ c.now=some k)(h0:0≤k)(hl:∀x∈l,Cp x.p)(hn:l.length≤1000)(h:Tl c.l at_ (Fw l)=some ws):U6 prog 194 [.one (.ow 0 0),.agg (ta at_),.one (.row (Fl l))] [.blk T (Tt c r0 r1)] [] [.blk T (Tt ⟨at_,ws,c.ev⟩ r0 r1)]:=by
 have cl:=lN (T:=T) (r0:=r0) (r1:=r1) hc ha hl hn h;have cc:=KY ha.tb hc.n.tb hk;refine Fv func194 rfl ?_;exact Uj [] [0] [.g 12 true rfl,.k cc,.r 20 (eB (show decide (0<=k)=true by simpa using h0)),.c [0] cl] rfl
theorem Qnf{T:Nat}{c:Cr}{r0:Uu}{r1:Uu×Uu}{ws:List Wt}(hc:CrOk c)(h:Og c.now c.l=some ws):U6 prog 395 [.one (.ow 0 0)] [.blk T (Tt c r0 r1)] [] [.blk T (Tt { c with l:=ws } r0 r1)]:=by
 have hk:=hc.k;have hw:=Sy c.l;obtain⟨h1,h2⟩:=YM h;refine Fv func395 rfl ?_;refine Uf [.o 2 352 18,.c [0] (mQ hc.n)] rfl ?_;refine Uk (S:=Nat) 3 (λL1 i=>(13,.v (.oi i))::(2,.v (.one (.orow 1 18 none)))::L1) (λi=>[.blk T (Tt c r0 r1),.row false 352 18 (C9 (ws.take i)),.blk 105 (ta c.now)]) (λi=>c.l.length-i) (λi=>i<=c.l.length) 0 (Qh _) rfl rfl λi hi=>?_
 by_cases hlt:i<c.l.length
 ·obtain⟨w,hx⟩:=gxE (l:=c.l) (i:=i) hlt;obtain⟨v,hv,h3⟩:=h2 i w hx;have hm:∀y∈[wl v],y.length=18:=λy hy=>by rw[Qk.1 hy];rfl
  have hg:=E9 hv;have hl:decide ((i:Int)<((C9 c.l).length:Int))=true:=by simp[hw];omega
  rcases h3 with⟨k1,rfl⟩|⟨k1,r,k2,rfl⟩
  ·obtain⟨vc,vk,vf⟩:=v;cases vf <;> (refine go tt [.t hl,.x (H5 hx),.f (by rw[show vk=true from k1];rfl),.s (sz:=18) hm] rfl (by simp[U3,Sy];omega) ?_;exact rd (i+1) (by omega) hlt (by rw[hg];rfl))
  ·have cg:=wY (hc.l w (Qa hx)).p hc.n k2;obtain⟨wc,wk,wf⟩:=w;cases r <;> cases wf <;> (refine go tt [.t hl,.x (H5 hx),.t (by rw[show wk=false from k1];rfl),.k cg,.s (sz:=18) hm] rfl (by simp[U3,Sy];omega) ?_;exact rd (i+1) (by omega) hlt (by rw[hg];rfl))
 ·obtain rfl:i=c.l.length:=by omega
  rw[<-h1,Q7];exact Uj [1] [0] [.f (by simp[hw,h1])] rfl
theorem Qng{T:Nat}{c:Cr}{r0:Uu}{r1:Uu×Uu}{ws:List Wt}{r:Option Tm}(hc:CrOk c)(h:Og c.now c.l=some ws)(hr:IX ws=some r):U6 prog 392 [.one (.ow 0 0)] [.blk T (Tt c r0 r1)] [.agg (ota r),.one (.bool r.isSome)] [.blk T (Tt { c with l:=ws } r0 r1)]:=by
 have hcl:=Qnf (T:=T) (r0:=r0) (r1:=r1) hc h;have hc':=El hc h;have hk:=hc'.k;have hw:=Sy ws;have hvb:∀t∈ws.filterMap (·.fails),Tb t:=λt ht=>by
  obtain⟨w,w1,w2⟩:=Ji.1 ht;exact((hc'.l w w1).f t w2).tb
 refine Fv func392 rfl ?_;refine Uf [.c [0] hcl,.o 4 105 9] rfl ?_;refine Uk (S:=Nat) 3 (λL1 i=>(14,.v (.oi i))::(4,.v (.one (.orow 2 9 none)))::L1) (λi=>[.blk T (Tt { c with l:=ws } r0 r1),.blk 105 zTm,.row false 105 9 (tal ((ws.take i).filterMap (·.fails)))]) (λi=>ws.length-i) (λi=>i<=ws.length) 0 (Qh _) rfl rfl λi hi=>?_
 by_cases hlt:i<ws.length
 ·obtain⟨w,hx⟩:=gxE (l:=ws) (i:=i) hlt;have hl:decide ((i:Int)<((C9 ws).length:Int))=true:=by simp[hw];omega
  have hfl:((ws.take i).filterMap (·.fails)).length<=i:=Qc (Vd _ _) (by rw[Qr];omega);have hg:(ws.take (i+1)).filterMap (·.fails)=(ws.take i).filterMap (·.fails)++(match w.fails with|none=>[]|some t=>[t]):=by
   rw[Z1,hx,List.filterMap_append];show _++List.filterMap (·.fails) [w]=_;cases hwf:w.fails <;> simp[hwf]
  obtain⟨wc,wk,wf⟩:=w;have hk:ws.length<=1000:=hk;cases wf with
  |
   none =>
   refine Ug [.t hl,.x (H5 hx),.f rfl] rfl ?_;exact rd (i+1) (by omega) hlt (by rw[hg];simp;rfl)
  |
   some t =>
   refine Ug [.t hl,.x (H5 hx),.t rfl,.s (l:=[ta t]) (sz:=9) (λc hc=>by rw[Qk.1 hc];rfl)] rfl ?_;exact rd (i+1) (by omega) hlt (by rw[hg];simp[tal];rfl)
 ·obtain rfl:i=ws.length:=by omega
  rw[Q7];have hf:decide ((ws.length:Int)<((C9 ws).length:Int))=false:=by simp[hw]
  have hln:(ws.filterMap (·.fails)).length<=1000:=Qc (Vd _ _) hk;unfold IX at hr;cases hfm:ws.filterMap (·.fails)with
  |
   nil =>
   rw[hfm]at hr;injection hr with hr;subst hr;exact Uj [] [0] [.f hf,.p 2,.k wV] rfl
  |
   cons b l =>
   rw[hfm]at hr hvb hln;obtain⟨m,m1,rfl⟩:=Yy.1 hr;have cl:=S8 (hvb b (Qy ..)) (λt ht=>hvb t (Qg _ ht)) (by simp at hln;omega) m1;exact Uj [] [0] [.f hf,.p 2,.k cl] rfl
theorem Qx3{T:Nat}{t:Rat}{Bc:Tm->List Ct}{Br:Tm->Uu×Uu}{r0:Uu}(ht:Qs 1640000 t)(hB:BuildOk Bc)
 (hb:∀a c r1,Va a->CrOk c->U6 prog 196 [.one (.ow 0 0),.agg (ta a)] [.blk T (Tt c r0 r1)] [.one (.row (Fl (Bc a)))] [.blk T (Tt c r0 (Br a))])
 {K:Nat} {c c':Cr} {r1 r1':Uu×Uu} {n:Int} (hc:CrOk c) (hev:0<=c.ev/\c.ev+K<=1000000000000000000) (h:Fo c.now t<=0) (hg:WE Bc Br t K c r1 0=some (c',r1',n)) :
 U6 prog 396 [.one (.ow 0 0),.agg (rl t),.one (.ofn 196 [.ow 0 0] [])] [.blk T (Tt c r0 r1)] [.oi n,.oi 0] [.blk T (Tt c' r0 r1')]:=by
 have qt:Qb t:=ht.mono (by decide);have c1:=Dh hc.n.tb qt;refine Fv func396 rfl ?_;refine Uf [.c [0] (mQ hc.n),.k c1,.f (by simpa using h)] rfl ?_;refine Uk (S:=Nat×Cr×(Uu×Uu)×Int) 2 (λL1 s=>(8,.v (.oi s.2.2.2))::L1) (λs=>[.blk T (Tt s.2.1 r0 s.2.2.1),.blk 42 (rl t)]) (λs=>s.1) (λs=>CrOk s.2.1/\(0<=s.2.1.ev/\s.2.1.ev+s.1<=1000000000000000000)/\(0<=s.2.2.2/\s.2.2.2+s.1<=1000000000000000000)/\WE Bc Br t s.1 s.2.1 s.2.2.1 s.2.2.2=some (c',r1',n)) (K,c,r1,0) ⟨hc,hev,⟨Int.le_refl 0,by dsimp only;omega⟩,hg⟩ rfl rfl λ⟨k,x,r,m⟩ ⟨j1,j2,j3,j4⟩=>?_
 dsimp only at j1 j2 j3 j4 ⊢;cases k with
 |zero=>cases j4
 |
  succ k =>
  simp only[WE]at j4;obtain⟨ws,w1,j4⟩:=Qd.1 j4;obtain⟨o,o1,j4⟩:=Qd.1 j4;have cn:=Qng (T:=T) (r0:=r0) (r1:=r) j1 w1 o1;have ca:=VC (U4 t.num) (U4 (t.den:Int)) (Qc ht.1 (by decide)) (Qc ht.2 (by decide)) (by rw[Sw];exact ht.mono (by decide));rw[Sw]at ca;cases o with
  |
   none =>
   injection j4 with j4;injection j4 with e1 j4;injection j4 with e2 e3;subst e1;subst e2;subst e3;exact Uj [] [0] [.c [0] cn,.g 25 true rfl,.t rfl,.k ca] rfl
  |
   some a =>
   have ha:=LF j1 w1 o1;dsimp only at j4;have cc:=Dh ha.tb qt;by_cases h0:0<Fo a t
   ·rw[if_pos h0]at j4;injection j4 with j4;injection j4 with e1 j4;injection j4 with e2 e3;subst e1;subst e2;subst e3;exact Uj [] [0] [.c [0] cn,.g 25 false rfl,.k cc,.t (by simpa using h0),.k ca] rfl
   ·rw[if_neg h0]at j4;obtain⟨w2,l1,j4⟩:=Qd.1 j4;have j1':=El j1 w1;have cl:=S8 (b:=a) (l:=[]) ha.tb (λt ht=>by cases ht) (by decide) rfl;have cb:=hb a { x with l:=ws } r ha j1';have cy:=lN (T:=T) (r0:=r0) (r1:=Br a) j1' ha (hB.p a ha) (hB.n a ha) l1;have hf:decide (0<Fo a t)=false:=by simpa using h0
    refine Ug [.c [0] cn,.g 25 false rfl,.k cc,.f hf,.k cl,.c [0] cb,.c [0] cy] rfl ?_;exact rd (k,⟨a,w2,x.ev+1⟩,Br a,m+1) (by dsimp only;omega) ⟨lay_ok _ j1' ha (hB.p a ha) (hB.n a ha) l1,by dsimp only;omega,by dsimp only;omega,j4⟩ rfl
theorem Qbn{T:Nat}{c:Cr}{r0:Uu}{r1:Uu×Uu}:U6 prog 391 [.one (.ow 0 0)] [.blk T (Tt c r0 r1)] [.oi c.ev] [.blk T (Tt c r0 r1)]:=by
 refine Fv func391 rfl ?_;exact Uj [] [0] [] rfl
end Orr
namespace Orr
open Go Go.Proofs Tryz Orq
def PH(k:Crv):Int:=max (max 0 ((k.x.length:Int)-1)) ((k.y.length:Int)-1)
structure Es where
 np:Int
 nd:Int
 M:List Pt
 q:Rat
 s:Cr
 t:Cr
 h:Cr
 p:Cr
 d:Cr
structure Em where
 np:Int
 nd:Int
 M:List Pt
 q:Rat
 s:Int
 t:Int
 h:Int
 p:Int
 d:Int
def Es.m(E:Es):Em:=⟨E.np,E.nd,E.M,E.q,E.s.ev,E.t.ev,E.h.ev,E.p.ev,E.d.ev⟩
structure MEn(np nd:Int)(M:List Pt):Prop where
 m:MOk M
 len:(M.length:Int)<=np
 deg:∀p∈M,PH p.c≤nd
 id:∀p∈M,0≤p.id/\p.id≤1048576
structure EOk(b:Int)(E:Es):Prop where
 np:1<=E.np/\E.np<=6
 nd:0<=E.nd/\E.nd<=2
 m:MEn E.np E.nd E.M
 q:Qs 128 E.q
 s:At kS E.M E.q E.s
 t:At kT E.M E.q E.t
 h:At kH E.M E.q E.h
 p:At kP E.M E.q E.p
 d:At kD E.M E.q E.d
 es:0<=E.s.ev/\E.s.ev<=b
 et:0<=E.t.ev/\E.t.ev<=b
 eh:0<=E.h.ev/\E.h.ev<=b
 ep:0<=E.p.ev/\E.p.ev<=b
 ed:0<=E.d.ev/\E.d.ev<=b
theorem EOk.mono{b c:Int}{E:Es}(h:EOk b E)(hb:b<=c):EOk c E:={ h with es:=⟨h.es.1,by have:=h.es.2;omega⟩,et:=⟨h.et.1,by have:=h.et.2;omega⟩,eh:=⟨h.eh.1,by have:=h.eh.2;omega⟩,ep:=⟨h.ep.1,by have:=h.ep.2;omega⟩,ed:=⟨h.ed.1,by have:=h.ed.2;omega⟩ }
abbrev mI(k:Nat)(q:Rat):Ut:=[.ow (k+1) 0,sg q.num,mg q.num,sg (q.den:Int),mg (q.den:Int),.ow (k+2) 0,.ow (k+3) 0,.ow (k+4) 0,.ow (k+5) 0,.ow (k+6) 0]
abbrev taR(np nd:Int)(M:List Pt):Ut:=[.int .i64 np,.int .i64 nd,pts M]
abbrev bS(c:Cr)(M:List Pt)(q:Rat):OB:=.blk 220 (Hn c (U0 M) (IF M (tq q)))
abbrev bT(c:Cr)(M:List Pt)(q:Rat):OB:=.blk 223 (Tt c (U0 M) (pP M (tq q)))
abbrev bH(c:Cr)(M:List Pt)(q:Rat):OB:=.blk 225 (Hn c (U0 M) (brH M (tq q)))
abbrev bP(c:Cr)(M:List Pt)(q:Rat):OB:=.blk 227 (Hn c (U0 M) (brP M (tq q)))
abbrev bD(c:Cr)(M:List Pt)(q:Rat):OB:=.blk 229 (Hn c (U0 M) (pS M (tq q)))
abbrev enB(k:Nat)(E:Es):Uv:=[.blk 80 (mI k E.q),.blk 159 (taR E.np E.nd E.M),bS E.s E.M E.q,bT E.t E.M E.q,bH E.h E.M E.q,bP E.p E.M E.q,bD E.d E.M E.q]
end Orr
namespace Orr
open Go Go.Proofs Tryz Orq
set_option maxRecDepth 10000
theorem YD{l:List Pt}{id:Int}(h:has l id=true):Rx l id<l.length:=by
 rcases Zc (Rx l id) l.length with h1|h1
 ·exact h1
 ·simp[has,Qu h1]at h
theorem UK{lx ly:Uu}{px py:Uo}{x y:LV}{d id:Int}{l:List Pt}(hx:IsInts lx px)(hy:IsInts ly py)(hd:Gd x y d)(hk:Cs 4294967294 1073741824 (Crv.mk px py d))(hl:l.length<=1000000)(h:has l id=true) :
 Ul 399 [.agg [pts l],.agg [.row lx,.row ly,x,y,.int .i64 id]] [.agg [pts (l.set (Rx l id) (Pt.mk (Crv.norm (Crv.mk px py d)) id))],.oi 0]:=by
 have ca:=Qfv (l:=l) id (by omega);have cf:=lI hx hy hd hk id;obtain⟨b,r,rfl,rfl,_⟩:=hd;obtain⟨q,hq⟩:=nmE (Pt.mk (Crv.norm (Crv.mk px py d)) id);rw[<-hq]at cf ⊢;have hpl:=YD h;rw[h]at ca;have e:pts (l.set (Rx l id) q)=.row ((l.map Fb).set (Rx l id) (Fb q)):=by unfold pts;rw[List.map_set]
 rw[e];exact Ui func399 rfl [.k ca,.f rfl,.s (Ss l),.k cf,.i (Rx l id)] rfl rfl (by simp[U3];omega)
theorem UY{l:List Pt}{id:Int}(hl:l.length<=1000000)(h:has l id=true) :
 Ul 398 [.agg [pts l],.oi id] [.agg [pts (l.take (Rx l id)++l.drop (Rx l id+1))],.oi 0]:=by
 have ca:=Qfv (l:=l) id (by omega);have hpl:=YD h;rw[h]at ca;have s1:∀c∈(l.map Fb).take (Rx l id),c.length=5:=λc hc=>Ss l c (Qn hc)
 have s3:∀c∈(l.map Fb).drop (Rx l id+1),c.length=5:=λc hc=>Ss l c (Qz hc)
 have e:pts (l.take (Rx l id)++l.drop (Rx l id+1))=.row ((l.map Fb).take (Rx l id)++(l.map Fb).drop (Rx l id+1)):=by unfold pts;rw[List.map_append,List.map_take,List.map_drop]
 rw[e];refine Ui func398 rfl [.k ca,.f rfl,.i (Rx l id),.s s1,.i (Rx l id+1),.s s3] rfl ?_ ?_
 ·simp
 ·have h1:(List.map Fb l).length=l.length:=by simp
  have h2:∀z∈List.map Fb l,z.length=ti40.sz:=Ss l;simp only[U3,Qr,Q8,h1]
  and_intros <;> first|exact h2|omega
end Orr
