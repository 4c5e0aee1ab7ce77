/- H1 HullQ HullS HullT PairQ PW1 DigL R1 R2 S2 S3 NewsN PW2 TouL TouQ MeshN EnL KT EnS SD1 En1 -/
import Derived.Test.YtiegdkolbckfdaaGreatPart07
import Derived.Test.YtiegdkolbckfdaaGreatPart05
import Derived.Test.YtiegdkolbckfdaaGreatPart00
import Derived.Test.YtiegdkolbckfdaaGreatPart04
set_option linter.all false
namespace Orr
open Go Go.Proofs Tryz Orq
set_option maxRecDepth 10000
theorem gz {P:Program} [Mo P] {n:Nat} {Q:Exit->Sg->Uq->Prop} {L L':Sg} {B B':Uq} (i:Nat) {it:List It} (hs:Rf it=true) (h:Qb0 [i] L B=some (L',B')) (k:AK P n Q it L' B'):AK P n Q it L B:=AK.sub (FG h) hs k
theorem LL {r:Uk} {i:Nat} {p:Uj} (h:r[i]? = some p):(JX r)[i]? = some [pl p]:=Gt h
theorem Et {l:List Uk} {i:Nat} {r:Uk} (h:l[i]? = some r):(Ia l)[i]? = some [.row (JX r)]:=Gt h
theorem Qdg {r:Uk} (ht:∀ p∈r,U9 p) (hb:∀ p∈r,Bd 1000000 p) (hl:∀ p∈r,p.length≤1000000) (hn:r.length≤1000):Ug 239 [.one (.row (JX r))] [.one (.row (JX r))]:=by
 have hrl:(JX r).length=r.length:=by simp
 refine Fw func239 rfl ?_;refine Ua [.o 3 33 1] rfl ?_;refine Uf (S:=Nat) 1 (λL1 i=>(8,.v (.oi i))::(3,.v (.one (.orow 0 1 none)))::L1) (λi=>[.row false 33 1 (JX (r.take i))]) (λi=>r.length-i) (λi=>i<=r.length) 0 (Qh _) rfl rfl λi hi=>?_
 by_cases h:i<r.length
 ·obtain ⟨p,hp⟩:=gxE (l:=r) (i:=i) h;have hm:=Qa hp;have hs:∀ y∈[[pl p]],y.length=1:=λy hy=>by rw [Qk.1 hy]; rfl
  have e:JX (r.take (i+1))=JX (r.take i)++[[pl p]]:=by rw [Zv,hp]; simp
  refine go tt [.T,.x (LL hp),.k (Hr (ht p hm) (by have:=hl p hm; omega) (U0 (hb p hm) (by decide))),.s (sz:=1) hs] rfl (by simp [Uz] <;> omega) ?_;exact rd (i+1) (by omega) h (by rw [e]; rfl)
 ·obtain rfl:i=r.length:=by omega
  rw [Q5];exact Uc [.F] rfl
theorem Qwq {s k w:Nat} {ds:Ul} {rows:List Uk} (h:Sq s ds k k rows) (_hw:w=k) (hk:k<=4):Ug 270 [.one (.row (Ia rows))] [.one (.bool true)]:=by
 have hrl:=YR rows;have hl:=h.l;refine Fw func270 rfl ?_;refine Ua [] rfl ?_;refine Uf (S:=Nat) 0 (λL1 i=>(7,.v (.oi i))::L1) (λ_=>[]) (λi=>rows.length-i) (λi=>i<=rows.length) 0 (Qh _) rfl rfl λi hi=>?_
 by_cases hlt:i<rows.length
 ·obtain ⟨r,hr⟩:=gxE (l:=rows) (i:=i) hlt;have hw:=h.w r (Qa hr);have hql:(JX r).length=r.length:=by simp
  refine go tt [.T,.x (Et hr),.f (decide_eq_false (λh=>h (by omega)))] rfl (by simp [Uz] <;> omega) ?_;exact rd (i+1) (by omega) hlt rfl
 ·exact Uc [.F] rfl (by rw [decide_eq_true (by omega:((Ia rows).length:Int)<=4)]) trivial
theorem Qmm {s k w:Nat} {ds:Ul} {rows:List Uk} (h:Sq s ds k w rows) (hs:s<=1000000) (hk:k<=4) (hw:w<=4) (hd:∀ j,ds.getD j 0<=1000) (i:Nat):Ug 294 [.oi i,.oi 0,.one (.row (Ia rows))] [.one (.row (Ia (VZ rows i)))]:=by
 have hrl:=YR rows;have hl:=h.l;have hml:∀ j,j<=rows.length->(Ia (XS i rows j)).length<=4:=λj hj=>by
  rw [YR,DW]; split <;> omega
 refine Fw func294 rfl ?_;refine Ua [.o 7 310 1] rfl ?_;refine Uf (S:=Nat) 1 (λL1 j=>(15,.v (.oi j))::(7,.v (.one (.orow 0 1 none)))::L1) (λj=>[.row false 310 1 (Ia (XS i rows j))]) (λj=>rows.length-j) (λj=>j<=rows.length) 0 (Qh _) rfl rfl λj hj=>?_
 have hmlj:=hml j hj;by_cases hlt:j<rows.length
 ·obtain ⟨r,hr⟩:=gxE (l:=rows) (i:=j) hlt;have hm:=Qa hr;have hw:=h.w r hm;have hql:(JX r).length=r.length:=by simp
  by_cases hij:j=i
  ·have e:XS i rows (j+1)=XS i rows j:=by simp only [XS]; rw [if_pos hij]
   refine go tt [.T,.x (Et hr),.T] rfl (by simp [Uz] <;> omega) ?_;exact rd (j+1) (by omega) hlt (by rw [e]; rfl)
  ·have e:XS i rows (j+1)=XS i rows j++[r.drop 1]:=by
    simp only [XS]; rw [if_neg hij,Qi,hr]; rfl
   refine Ua [.T,.x (Et hr),.F,.o 10 33 1] rfl ?_ (by simp [Uz]);refine Uf (S:=Nat) 2 (λL1 c=>(25,.v (.oi c))::(10,.v (.one (.orow 1 1 none)))::L1) (λc=>[.row false 310 1 (Ia (XS i rows j)),.row false 33 1 (JX ((r.take c).drop 1))]) (λc=>r.length-c) (λc=>c<=r.length) 0 (Qh _) rfl rfl λc hc=>?_
   by_cases hcl:c<r.length
   ·obtain ⟨p,hp⟩:=gxE (l:=r) (i:=c) hcl;have hpm:=Qa hp;by_cases h0:c=0
    ·subst h0;refine Ua [.T,.x (LL hp),.f (decide_eq_false (by simp))] rfl ?_ (by simp [Uz]);exact rd 1 (by omega) hcl (by rw [Zv,hp]; rfl)
    ·have hs1:∀ y∈[[pl p]],y.length=1:=λy hy=>by rw [Qk.1 hy]; rfl
     have e2:JX ((r.take (c+1)).drop 1)=JX ((r.take c).drop 1)++[[pl p]]:=by
      rw [Zv,hp,We (by rw [Qt]; omega)]; simp
     refine go tt [.T,.x (LL hp),.T,.k (Hr (h.t r hm p hpm) (by have:=h.n r hm c p hp; have:=hd c; omega) (U0 (h.b r hm p hpm) (by omega))),.s (sz:=1) hs1] rfl (by simp [Uz] <;> omega) ?_;exact rd (c+1) (by omega) hcl (by rw [e2]; rfl)
   ·obtain rfl:c=r.length:=by omega
    rw [Q5];have hs1:∀ y∈[[LV.row (JX (r.drop 1))]],y.length=1:=λy hy=>by rw [Qk.1 hy]; rfl
    refine Ua [.F] rfl ?_;refine gz 1 rfl rfl ?_;refine go tt [.s (sz:=1) hs1] rfl (by simp [Uz] <;> omega) ?_;exact rd (j+1) (by omega) hlt (by rw [e]; simp [Ia]; rfl)
 ·obtain rfl:j=rows.length:=by omega
  exact Uc [.F] rfl
theorem TE:∀ (ds:Ul) (j:Nat),ds.getD j 0<=ds.sum
 | [],j=>by simp
 | d::ds,0=>by simp
 |
  d::ds,j+1=>by
  have:=TE ds j;rw [Kt];show ds.getD j 0<=_;omega
theorem Qqn {s:Nat} (hs:s<=100000):∀ (k:Nat) (ds:Ul) (rows:List Uk),k<=4->ds.length=k->ds.sum<31->Sq s ds k k rows->Ug 271 [.one (.row (Ia rows))] [pr (D9 k rows)]
 |
  0,ds,rows,_,_,_,h=>by
  have e:=Qj h.l;subst e;have co:=cO (p:=[1]) (by decide) (by decide);exact Ud func271 rfl [.t rfl,.k co] rfl
 | k+1,[],_,_,hl,_,_=>by simp at hl
 |
  k+1,d::ds,rows,hk,hl,hd,h=>by
  rw [Kt] at hd;have hl':ds.length=k:=by simpa using hl
  have hrl:=YR rows;have hrn:=h.l;have hmin:=λi (hi:i<k+1)=>h.min hi
  have ih:=λi (hi:i<k+1)=>Qqn hs k ds (VZ rows i) (by omega) hl' (by omega) (hmin i hi)
  have hok:=λi (hi:i<k+1)=>MR k ds (VZ rows i) (by omega) hl' (by omega) (hmin i hi)
  have hb:k*(s+10)+1<=500000:=by
   have:k*(s+10)<=4*(100010):=Zi (by omega) (by omega);omega
  have hds:=xF (f:=λi=>D9 k (VZ rows i)) (B:=k*(s+10)+1) (L:=ds.sum) h (by omega) (λi hi=>⟨(hok i hi).2.1,(hok i hi).2.2⟩);have cm:=Qmm h (by omega) hk hk (λj=>by have:=TE (d::ds) j; rw [Kt] at this; omega);show Ug 271 [.one (.row (Ia rows))] [pr (C7 (λi=>D9 k (VZ rows i)) rows (k+1))];obtain ⟨f,hf⟩:=nmE (λi=>D9 k (VZ rows i));rw [<-hf] at hds ⊢;have hfi:∀ i,f i=D9 k (VZ rows i):=λi=>by rw [hf]
  refine Fw func271 rfl ?_;refine Ua [.F,.z 3] rfl ?_;refine Uf (S:=Nat) 0 (λL1 i=>(14,.v (.oi i))::(3,.v (pr (C7 f rows i)))::L1) (λ_=>[]) (λi=>k+1-i) (λi=>i<=k+1) 0 (Qh _) rfl rfl λi hi=>?_
  obtain ⟨d1,d2,d3⟩:=hds i hi;by_cases hlt:i<k+1
  ·obtain ⟨p,r,hr,e,t,b,l⟩:=h.at hlt;have hx0:(JX (p::r))[0]? = some [pl p]:=rfl;have hpl:(p.map Hh).length=p.length:=by simp
   have cn:=Hr t (by omega) (U0 b (by omega));by_cases h0:p.length=0
   ·have es:C7 f rows (i+1)=C7 f rows i:=by simp only [C7]; rw [e,if_pos h0]
    refine go tt [.T,.x (Et hr),.x hx0,.k cn,.T] rfl (by simp [Uz] <;> omega) ?_;exact rd (i+1) (by omega) hlt (by rw [es]; rfl)
   ·obtain ⟨k1,k2,k3⟩:=hok i hlt;have ci:=ih i hlt;have cp:=GL (p:=p) (q:=f i) t (by rw [hfi]; exact k1) (by omega) (by rw [hfi]; omega) b (by rw [hfi]; exact k2) (by omega);have hmb:Bd (s+(k*(s+10)+1)+5) (Gk p (f i)):=Mf b (by rw [hfi]; exact k2) (by omega);have hml:=Sy p (f i);have hfl:(f i).length<=ds.sum+1:=by rw [hfi]; exact k3
    rw [<-hfi] at ci;by_cases h2:i % 2=0
    ·have es:C7 f rows (i+1)=ZU (C7 f rows i) (Gk p (f i)):=by simp only [C7]; rw [e,if_neg h0,if_pos h2]
     refine go tt [.T,.x (Et hr),.x hx0,.k cn,.F,.x hx0,.k (cm i),.k ci,.k cp,.r 34 (eI (b:=((i % 2:Nat):Int)) rfl),.T,.k (zD (p:=C7 f rows i) (q:=Gk p (f i)) (by omega) (by omega) (U0 d2 (by omega)) (U0 hmb (by omega)))] rfl (by simp [Uz] <;> omega) ?_;exact rd (i+1) (by omega) hlt (by rw [es]; rfl)
    ·have es:C7 f rows (i+1)=Mx (C7 f rows i) (Gk p (f i)):=by simp only [C7]; rw [e,if_neg h0,if_neg h2]
     refine go tt [.T,.x (Et hr),.x hx0,.k cn,.F,.x hx0,.k (cm i),.k ci,.k cp,.r 34 (eI (b:=((i % 2:Nat):Int)) rfl),.F,.k (GE (p:=C7 f rows i) (q:=Gk p (f i)) (by omega) (by omega) (U0 d2 (by omega)) (U0 hmb (by omega)))] rfl (by simp [Uz] <;> omega) ?_;exact rd (i+1) (by omega) hlt (by rw [es]; rfl)
  ·obtain rfl:i=k+1:=by omega
   exact Uc [.F] rfl
theorem Qqh {s:Nat} (hs:s<=100000) {k:Nat} {ds:Ul} {rows:List Uk} (hk:k<=4) (hl:ds.length=k) (hd:ds.sum<31) (h:Sq s ds k k rows):Ug 240 [.one (.row (Ia rows))] [pr (D9 k rows),.oi 0] :=
 Ud func240 rfl [.k (Qwq h rfl hk),.f rfl,.k (Qqn hs k ds rows hk hl hd h)] rfl
theorem sE {k:Crv} (hk:Sc k):Ug 238 [.agg (cl k)] [.one (.row (JX [k.x,k.y,[k.d]]))]:=by
 have h0:k.d≠0:=by have:=hk.n.2.2.1; omega
 have td:U9 [k.d]:=by unfold U9; simp [trim,h0]
 have cd:=Qdg (r:=[k.x,k.y,[k.d]]) (λp hp=>by
  rcases Qm.1 hp with rfl | hp
  ·exact hk.n.1
  rcases Qm.1 hp with rfl | hp
  ·exact hk.n.2.1
  ·rw [Qk.1 hp]; exact td) (λp hp=>by
  rcases Qm.1 hp with rfl | hp
  ·exact U0 hk.c.x (by decide)
  rcases Qm.1 hp with rfl | hp
  ·exact U0 hk.c.y (by decide)
  ·rw [Qk.1 hp];intro z hz; rw [Qk.1 hz]; exact Qc hk.c.d (by decide)) (λp hp=>by
  rcases Qm.1 hp with rfl | hp
  ·have:=hk.c.lx; omega
  rcases Qm.1 hp with rfl | hp
  ·have:=hk.c.ly; omega
  ·rw [Qk.1 hp]; show 1<=1000000; decide) (by show 3<=1000; decide)
 exact Ud func238 rfl [.k (Dh hk.n (hk.c.mono (by decide) (by decide))),.k cd] rfl
theorem rM {a b c:Crv} (ha:Sc a) (hb:Sc b) (hc:Sc c):Sq 128 [2,2,0] 3 3 (fM a b c):=by
 have key:∀ k:Crv,Sc k->(∀ p∈[k.x,k.y,[k.d]],U9 p/\Bd 128 p)/\∀ (j:Nat) (p:Uj),[k.x,k.y,[k.d]][j]? = some p->p.length≤[2,2,0].getD j 0+1:=λk hk=>by
  have h0:k.d≠0:=by have:=hk.n.2.2.1; omega
  have td:U9 [k.d]:=by unfold U9; simp [trim,h0]
  refine ⟨λp hp=>?_,λj p hp=>?_⟩
  ·rcases Qm.1 hp with rfl | hp
   ·exact ⟨hk.n.1,hk.c.x⟩
   rcases Qm.1 hp with rfl | hp
   ·exact ⟨hk.n.2.1,hk.c.y⟩
   ·rw [Qk.1 hp];exact ⟨td,λz hz=>by rw [Qk.1 hz]; exact hk.c.d⟩
  ·match j,hp with
   | 0,hp=>injection hp with hp; subst hp; exact hk.c.lx
   | 1,hp=>injection hp with hp; subst hp; exact hk.c.ly
   | 2,hp=>injection hp with hp; subst hp; exact Ql _
   | j+3,hp=>simp at hp
 have hr:∀ r∈fM a b c,∃ k:Crv,Sc k/\r=[k.x,k.y,[k.d]]:=λr hr=>by
  rcases Qm.1 hr with rfl | hr
  ·exact ⟨a,ha,rfl⟩
  rcases Qm.1 hr with rfl | hr
  ·exact ⟨b,hb,rfl⟩
  ·rw [Qk.1 hr]; exact ⟨c,hc,rfl⟩
 refine ⟨rfl,λr h=>?_,λr h p hp=>?_,λr h p hp=>?_,λr h j p hp=>?_⟩
 all_goals obtain ⟨k,hk,rfl⟩:=hr r h
 ·rfl
 ·exact ((key k hk).1 p hp).1
 ·exact ((key k hk).1 p hp).2
 ·exact (key k hk).2 j p hp
theorem JO {a b c:Crv} (ha:Sc a) (hb:Sc b) (hc:Sc c):Cp (He a b c):=by
 obtain ⟨h1,h2,h3⟩:=MR 3 [2,2,0] (fM a b c) (by decide) rfl (by decide) (rM ha hb hc);exact ⟨h1,Qc h3 (by decide),U0 h2 (by decide)⟩
theorem kJ {a b c:Crv} (ha:Sc a) (hb:Sc b) (hc:Sc c):Ug 198 [.agg (cl a),.agg (cl b),.agg (cl c)] [pr (He a b c)]:=by
 have cd:=Qqh (by decide) (k:=3) (ds:=[2,2,0]) (by decide) rfl (by decide) (rM ha hb hc);exact Ud func198 rfl [.k (sE ha),.k (sE hb),.k (sE hc),.k cd] rfl
end Orr
namespace Orq
open Orr Go
theorem rE {p q:Uj} (tp:U9 p) (tq:U9 q) (h:∀ i,p.getD i 0=q.getD i 0):p=q:=by
 have hl:∀ {p q:Uj},U9 p->(∀ i,p.getD i 0=q.getD i 0)->p.length<=q.length:=λ{p q} tp h=>by
  refine Nat.not_lt.1 λhn=>?_
  have h1:=H5 tp (by omega);rw [h,Qi,Qw (by omega)] at h1;exact h1 rfl
 have e:=Ka (hl tp h) (hl tq λi=>(h i).symm);refine List.ext_getElem e λi h1 h2=>?_
 have:=h i;rw [Qi,Qi,Qe h1,Qe h2] at this;exact this
theorem uU {p:Uj} (h:p=[]) (i:Nat):p.getD i 0=0:=by rw [h]; simp
theorem Ee (p:Uj) (c:Int) (i:Nat):(Ft p c).getD i 0=p.getD i 0*c:=by
 unfold Ft;rw [Sx]
 split
 ·rfl
 ·rename_i h;rw [Qi,Qw (by omega)]; simp
theorem LN (p q:Uj) (i:Nat):(Mx p q).getD i 0=p.getD i 0-q.getD i 0:=by
 unfold Mx;rw [Sx]
 split
 ·rfl
 ·rename_i h;rw [Qi,Qi,Qw (by omega),Qw (by omega)]; simp
theorem Qn8 {x y:Crv} (hx:JP x) (hy:JP y) (h1:Gg x y=[]) (h2:Gf x y=[]):x=y:=by
 have e1:∀ i,y.x.getD i 0*x.d=x.x.getD i 0*y.d:=λi=>by
  have:=uU h1 i;unfold Gg at this;rw [LN,Ee,Ee] at this;omega
 have e2:∀ i,y.y.getD i 0*x.d=x.y.getD i 0*y.d:=λi=>by
  have:=uU h2 i;unfold Gf at this;rw [LN,Ee,Ee] at this;omega
 have key:∀ {x y:Crv},JP x->JP y->(∀ i,y.x.getD i 0*x.d=x.x.getD i 0*y.d)->(∀ i,y.y.getD i 0*x.d=x.y.getD i 0*y.d)->x.d∣y.d:=λ{x y} hx hy e1 e2=>by
  have hd:=wM (d:=x.d) (l:=(x.d::(x.x++x.y)).map (· * y.d)) λz hz=>by
   obtain ⟨w,hw,rfl⟩:=Q9.1 hz;rcases Qm.1 hw with rfl | hw
   ·exact Int.dvd_mul_right _ _
   ·rcases Qq.1 hw with hw | hw
    ·obtain ⟨i,hi,rfl⟩:=Vz.1 hw;have:=e1 i;rw [show x.x.getD i 0=x.x[i] from by rw [Qi,Qe hi]; rfl] at this;rw [<-this]; exact Y7 _ _
    ·obtain ⟨i,hi,rfl⟩:=Vz.1 hw;have:=e2 i;rw [show x.y.getD i 0=x.y[i] from by rw [Qi,Qe hi]; rfl] at this;rw [<-this]; exact Y7 _ _
  rw [Qgh,hx.2.2.2,Wl] at hd;exact V4 hd (Int.natAbs_dvd.2 (K7 _))
 have hd:x.d=y.d:=Int.dvd_antisymm (Int.le_of_lt hx.2.2.1) (Int.le_of_lt hy.2.2.1) (key hx hy e1 e2) (key hy hx (λi=>(e1 i).symm) λi=>(e2 i).symm);have hd0:y.d≠0:=by have:=hy.2.2.1; omega
 rw [hd] at e1 e2;have ex:x.x=y.x:=rE hx.1 hy.1 λi=>(Y0 hd0 (e1 i)).symm
 have ey:x.y=y.y:=rE hx.2.1 hy.2.1 λi=>(Y0 hd0 (e2 i)).symm
 cases x; cases y;simp only at hd ex ey;rw [hd,ex,ey]
theorem Qpu (l:List Pt):(Te l).Pairwise λx y=>x.c≠y.c:=by
 have key:∀ (l out:List Pt),out.Pairwise (λx y=>x.c≠y.c)->(l.foldl Bq out).Pairwise λx y=>x.c≠y.c:=by
  intro l
  induction l with
  | nil=>intro out h; exact h
  |
   cons p l ih =>
   intro out h;refine ih _ ?_;unfold Bq
   split
   ·exact h
   ·rename_i hn;refine Jj.2 ⟨h,Kk _ _,λa ha b hb e=>hn ?_⟩;rw [Qk.1 hb] at e;rw [List.any_eq_true];exact ⟨a,ha,by rw [<-e]; simp [Lt]⟩
 exact key l [] .nil
theorem Qj8 (l:List Pt):(Te l).Sublist l:=by
 have key:∀ (l out o:List Pt),out.Sublist o->(l.foldl Bq out).Sublist (o++l):=by
  intro l
  induction l with
  | nil=>intro out o h; rw [Zw]; exact h
  |
   cons p l ih =>
   intro out o h;have:(Bq out p).Sublist (o++[p]):=by
    unfold Bq
    split
    ·exact h.trans (List.sublist_append_left _ _)
    ·exact h.append (List.Sublist.refl _)
   have:=ih _ _ this;rwa [Zb] at this
 exact key l [] [] (List.Sublist.refl _)
theorem Oc (f:Nat->Uj) (rows:List Uk) (q:Rat) (i:Nat):U7 (C7 f rows (i+1)) q=U7 (C7 f rows i) q+(if i % 2=0 then 1 else -1)*(U7 ((rows.getD i []).getD 0 []) q*U7 (f i) q):=by
 simp only [C7]
 split
 ·rename_i h;have:U7 ((rows.getD i []).getD 0 []) q=0:=by rw [Qj h]; rfl
  rw [this]; grind
 ·split
  ·rw [LX,Gb]; grind
  ·rw [Na,Gb]; grind
theorem aR (z:Int) (q:Rat):U7 [z] q=(z:Rat):=by simp [U7,Rat.add_zero]
theorem fO (p:Uj) (q:Rat):U7 (D9 1 [[p]]) q=U7 p q:=by
 show U7 (C7 (λi=>D9 0 (VZ [[p]] i)) [[p]] (0+1)) q=_;rw [Oc];show (0:Rat)+1*(U7 p q*U7 [1] q)=_;rw [aR];have:((1:Int):Rat)=1:=rfl;grind
theorem LZ (p r s t:Uj) (q:Rat):U7 (D9 2 [[p,r],[s,t]]) q=U7 p q*U7 t q-U7 s q*U7 r q:=by
 show U7 (C7 (λi=>D9 1 (VZ [[p,r],[s,t]] i)) [[p,r],[s,t]] (0+1+1)) q=_;rw [Oc,Oc];show (0:Rat)+1*(U7 p q*U7 (D9 1 [[t]]) q)+(-1)*(U7 s q*U7 (D9 1 [[r]]) q)=_;rw [fO,fO]; grind
theorem Qia (a1 a2 a3 b1 b2 b3 c1 c2 c3:Uj) (q:Rat):U7 (D9 3 [[a1,a2,a3],[b1,b2,b3],[c1,c2,c3]]) q=U7 a1 q*(U7 b2 q*U7 c3 q-U7 c2 q*U7 b3 q)-U7 b1 q*(U7 a2 q*U7 c3 q-U7 c2 q*U7 a3 q)+U7 c1 q*(U7 a2 q*U7 b3 q-U7 b2 q*U7 a3 q):=by
 show U7 (C7 (λi=>D9 2 (VZ [[a1,a2,a3],[b1,b2,b3],[c1,c2,c3]] i)) [[a1,a2,a3],[b1,b2,b3],[c1,c2,c3]] (0+1+1+1)) q=_;rw [Oc,Oc,Oc];show (0:Rat)+1*(U7 a1 q*U7 (D9 2 [[b2,b3],[c2,c3]]) q)+(-1)*(U7 b1 q*U7 (D9 2 [[a2,a3],[c2,c3]]) q)+1*(U7 c1 q*U7 (D9 2 [[a2,a3],[b2,b3]]) q)=_;rw [LZ,LZ,LZ]; grind
theorem bK {a b c:Pt} (ha:Sc a.c) (hb:Sc b.c) (hc:Sc c.c) (q:Rat):Fc (U7 (He a.c b.c c.c) q)=Fc (Nw (px · q) (py · q) a b c):=by
 have Im:∀ {k:Crv},Sc k->(0:Rat)<(k.d:Rat):=λh=>by exact_mod_cast h.n.2.2.1
 have pa:=Im ha;have pb:=Im hb;have pc:=Im hc;have xx:∀ {p:Pt},0<(p.c.d:Rat)->U7 p.c.x q=px p q*(p.c.d:Rat)/\U7 p.c.y q=py p q*(p.c.d:Rat):=λ{p} h=>by
  unfold px py;exact ⟨(Zf (by grind)).symm,(Zf (by grind)).symm⟩
 obtain ⟨xa,ya⟩:=xx pa;obtain ⟨xb,yb⟩:=xx pb;obtain ⟨xc,yc⟩:=xx pc;have e:U7 (He a.c b.c c.c) q=((a.c.d:Rat)*(b.c.d:Rat)*(c.c.d:Rat))*Nw (px · q) (py · q) a b c:=by
  unfold He fM Nw;rw [Qia,aR,aR,aR,xa,xb,xc,ya,yb,yc];grind
 rw [e,Ck (Xp (Xp pa pb) pc)]
def UM (sg:Uj->Int) (a b c:Pt):Bool:=decide (0<Hg sg (He a.c b.c c.c))
def S9 (sg:Uj->Int) (row:List Pt):List Pt:=(Pq (UM sg) [] row).reverse
def Lq (sg:Uj->Int) (row:List Pt):List Pt:=if row.length<3 then row else (S9 sg row).dropLast++(S9 sg row.reverse).dropLast
def S7 (l:List Pt) (a:Tm):List Pt:=Lq (Fq a) (Tq a (Te l))
def Rk (C:List Pt):List (Pt×Pt):=C.zip (C.drop 1++C.take 1)
def D3 (sg:Uj->Int) (a b c:Pt):Ct:=⟨3,a.id,b.id,c.id,0,He a.c b.c c.c,Hg sg (He a.c b.c c.c)⟩
def VJ (e:Pt×Pt) (c:Pt):Bool:=decide (c.id≠e.1.id) && decide (c.id≠e.2.id)
def E7 (sg:Uj->Int) (l:List Pt) (e:Pt×Pt):List Ct:=(l.filter (VJ e)).map λc=>D3 sg e.1 e.2 c
def Nt (sg:Uj->Int) (l C:List Pt):List Ct:=if C.length<2 then [] else (Rk C).flatMap (E7 sg l)
def TS (l:List Pt) (a:Tm):List Ct:=O2 l a++Nt (Fq a) l (S7 l a)
abbrev brH (l:List Pt) (a:Tm):Up:=Uy (S7 l a)
def NU (l:List Pt):Uk:=l.flatMap λx=>l.flatMap λy=>l.map λz=>He x.c y.c z.c
theorem vM {l:List Pt} {x y z:Pt} (hx:x∈l) (hy:y∈l) (hz:z∈l):He x.c y.c z.c∈NU l :=
 Zo.2 ⟨x,hx,Zo.2 ⟨y,hy,Q9.2 ⟨z,hz,rfl⟩⟩⟩
theorem Qk7 {l:List Pt} (hl:∀ p∈l,Sc p.c):∀ p∈NU l,Cp p:=λp hp=>by
 obtain ⟨x,hx,hp⟩:=Zo.1 hp;obtain ⟨y,hy,hp⟩:=Zo.1 hp;obtain ⟨z,hz,rfl⟩:=Q9.1 hp;exact JO (hl x hx) (hl y hy) (hl z hz)
theorem LF {α:Type} (s:α->α->α->Bool) (c:α):∀ st:List α,(Lb s c st).Sublist st
 | []=>List.Sublist.refl _
 | [_]=>List.Sublist.refl _
 |
  b::a::r=>by
  simp only [Lb]
  split
  ·exact List.Sublist.refl _
  ·exact (LF s c (a::r)).trans (List.sublist_cons_self _ _)
theorem KZ {α:Type} {s:α->α->α->Bool}:∀ {l acc:List α} {x:α},x∈Pq s acc l->x∈acc\/x∈l
 | [],acc,x,h=>.inl h
 |
  c::l,acc,x,h=>by
  rcases KZ (l:=l) h with h | h
  ·rcases Qm.1 h with rfl | h
   ·exact .inr (by simp)
   ·exact .inl ((LF s c acc).subset h)
  ·exact .inr (Qg _ h)
theorem KQ {α:Type} (s:α->α->α->Bool):∀ (l acc:List α),(Pq s acc l).length<=acc.length+l.length
 | [],acc=>by simp [Pq]
 |
  c::l,acc=>by
  have h1:=KQ s l (c::Lb s c acc);have h2:=(LF s c acc).length_le;simp only [Pq,Q7] at h1 ⊢;omega
theorem BU {sg:Uj->Int} {row:List Pt} {x:Pt} (h:x∈S9 sg row):x∈row:=by
 unfold S9 at h;rcases KZ (Jh.1 h) with h | h
 ·cases h
 ·exact h
theorem QZ (sg:Uj->Int) (row:List Pt):(S9 sg row).length<=row.length:=by
 have:=KQ (UM sg) row [];unfold S9; rw [List.length_reverse]; simpa using this
theorem nO {sg:Uj->Int} {row:List Pt} {x:Pt} (h:x∈Lq sg row):x∈row:=by
 unfold Lq at h
 split at h
 ·exact h
 ·rcases Qq.1 h with h | h
  ·exact BU ((List.dropLast_sublist _).subset h)
  ·exact Jh.1 (BU ((List.dropLast_sublist _).subset h))
theorem nI (sg:Uj->Int) (row:List Pt):(Lq sg row).length<=2*row.length:=by
 unfold Lq
 split
 ·omega
 ·have h1:=QZ sg row;have h2:=QZ sg row.reverse;rw [Xn] at h2;rw [Qy,List.length_dropLast,List.length_dropLast]; omega
theorem Iw {l:List Pt} {a:Tm} {x:Pt} (h:x∈S7 l a):x∈l:=Nj (Hm.1 (nO h))
theorem JI (l:List Pt) (a:Tm):(S7 l a).length<=2*l.length:=by
 have h1:=nI (Fq a) (Tq a (Te l));rw [Ng] at h1;have:=Oy l;unfold S7; omega
theorem TC {C:List Pt} {e:Pt×Pt} (h:e∈Rk C):e.1∈C/\e.2∈C:=by
 unfold Rk at h;have h1:=List.of_mem_zip (show (e.1,e.2)∈_ from h);refine ⟨h1.1,?_⟩;rcases Qq.1 h1.2 with h | h
 ·exact Q3 h
 ·exact Qo h
theorem mX {sg:Uj->Int} {l C:List Pt} {x:Ct} (h:x∈Nt sg l C):∃ e∈Rk C,∃ c∈l,VJ e c=true/\x=D3 sg e.1 e.2 c:=by
 unfold Nt at h
 split at h
 ·cases h
 ·obtain ⟨e,he,h⟩:=Zo.1 h;obtain ⟨c,hc,rfl⟩:=Q9.1 h;obtain ⟨h1,h2⟩:=Yd.1 hc;exact ⟨e,he,c,h1,h2,rfl⟩
theorem zS {l:List Pt} {a:Tm}:∀ x∈TS l a,x.p∈Lz l++NU l:=λx hx=>by
 rcases Qq.1 hx with hx | hx
 ·exact X6 _ (cB x hx)
 ·obtain ⟨e,he,c,hc,_,rfl⟩:=mX hx;obtain ⟨h1,h2⟩:=TC he;exact Jc _ (vM (Iw h1) (Iw h2) hc)
theorem PG {l:List Pt} (hl:∀ p∈l,Sc p.c):∀ p∈Lz l++NU l,Cp p:=λp hp=>by
 rcases Qq.1 hp with h | h
 ·exact O1 hl p h
 ·exact Qk7 hl p h
theorem KY {α β:Type} (f:α->List β) (n:Nat):∀ (m:List α),(∀ x∈m,(f x).length≤n)->(m.flatMap f).length≤m.length*n
 | [],_=>by simp
 |
  x::m,h=>by
  have:=KY f n m λy hy=>h y (Qg _ hy)
  have:=h x (by simp);rw [Jx,Qy,Q7,Xa]; omega
theorem mZ (sg:Uj->Int) (l C:List Pt):(Nt sg l C).length<=C.length*l.length:=by
 unfold Nt
 split
 ·simp
 ·refine Qc (KY _ l.length _ λe _=>?_) (Qz _ ?_)
  ·unfold E7; rw [List.length_map]; exact List.length_filter_le _ _
  ·unfold Rk; rw [List.length_zip]; exact Nat.min_le_left _ _
theorem sZ {l:List Pt} (hl:∀ p∈l,Sc p.c) (hn:l.length≤10):BuildOk (TS l) :=
 ⟨λ_ _ x hx=>PG hl _ (zS x hx),λa _=>by
  have h1:=mZ (Fq a) l (S7 l a);have h2:=JI l a;have h3:(S7 l a).length*l.length<=20*10:=Zi (by omega) hn;show (O2 l a++Nt (Fq a) l (S7 l a)).length<=1000;have h4:(O2 l a).length<=l.length:=by unfold O2; rw [Bl,Ng]; omega
  rw [Qy]; omega⟩
def A4 {α:Type} (l:List α):List (α×α):=l.zip (l.drop 1)
theorem xR {α:Type} {Q:α->α->Prop}:∀ {l:List α},Edg Q l↔∀ e∈A4 l,Q e.1 e.2
 | []=>by simp [Edg,A4]
 | [_]=>by simp [Edg,A4]
 |
  a::b::l=>by
  have ih:=xR (Q:=Q) (l:=b::l);have e:A4 (a::b::l)=(a,b)::A4 (b::l):=rfl;rw [e];constructor
  ·rintro ⟨h1,h2⟩ x hx
   rcases Qm.1 hx with rfl | hx
   ·exact h1
   ·exact ih.1 h2 x hx
  ·intro h;exact ⟨h (a,b) (by simp),ih.2 λx hx=>h x (Qg _ hx)⟩
theorem BS {α:Type} (f z:α) (A:List α):A4 (f::A++[z])=(f::A).zip (A++[z]):=by
 unfold A4;rw [Xb,List.drop_succ_cons,X2];have:f::(A++[z])=(f::A)++[z]:=rfl;rw [this];have h:A++[z]=(A++[z])++[]:=(Zw _).symm
 conv=>lhs; rw [h]
 rw [List.zip_append (by simp)];simp
theorem wA {f z:Pt} {A B:List Pt}:Rk ((f::A++[z]).dropLast++(z::B++[f]).dropLast)=A4 (f::A++[z])++A4 (z::B++[f]):=by
 rw [Vy,Vy,BS,BS,<-List.zip_append (by simp)];unfold Rk;congr 1;simp
theorem Edg.rev {α:Type} {Q:α->α->Prop}:∀ {l:List α},Edg Q l->Edg (λa b=>Q b a) l.reverse:=by
 have app:∀ {Q:α->α->Prop} {l:List α} {b a:α},Edg Q (l++[b])->Q b a->Edg Q (l++[b]++[a]):=by
  intro Q l
  induction l with
  | nil=>intro b a _ h; exact ⟨h,trivial⟩
  |
   cons x l ih =>
   intro b a h h2;cases l with
   | nil=>exact ⟨h.1,ih h.2 h2⟩
   | cons y l=>exact ⟨h.1,ih h.2 h2⟩
 intro l
 induction l with
 | nil=>intro _; trivial
 |
  cons a l ih =>
  intro h;cases l with
  | nil=>trivial
  |
   cons b l =>
   have:=ih h.2;rw [Yj] at this ⊢;rw [Yj];exact app this h.1
theorem Cnv.rev {α:Type} {R:α->α->α->Prop}:∀ {l:List α},Cnv R l->Cnv (λa b c=>R c b a) l.reverse:=by
 have app:∀ {R:α->α->α->Prop} {l:List α} {c b a:α},Cnv R (l++[c,b])->R c b a->Cnv R (l++[c,b,a]):=by
  intro R l
  induction l with
  | nil=>intro c b a _ h; exact ⟨h,trivial⟩
  |
   cons x l ih =>
   intro c b a h h2;cases l with
   | nil=>exact ⟨h.1,ih h.2 h2⟩
   |
    cons y l =>
    cases l with
    | nil=>exact ⟨h.1,ih h.2 h2⟩
    | cons w l=>exact ⟨h.1,ih h.2 h2⟩
 intro l
 induction l with
 | nil=>intro _; trivial
 |
  cons a l ih =>
  intro h
  match l,h with
  | [],_=>trivial
  | [_],_=>trivial
  |
   b::c::l,h =>
   have:=ih h.2;rw [Yj,Yj,Zb] at this;rw [Yj,Yj,Yj,Zb,Zb];exact app this h.1
section
variable {α:Type} {lt lt':α->α->Bool}
theorem LG {out:List α} {x:α} (h:∀ y∈out,lt x y=lt' x y):∀ k,Lo lt out x k=Lo lt' out x k
 | 0=>rfl
 |
  k+1=>by
  simp only [Lo];cases hy:out[k]? with
  | none=>rfl
  | some y=>simp only [h y (Qa hy),LG h k]
theorem TL {l:List α} (h:∀ u∈l,∀ v∈l,lt u v=lt' u v):∀ (m out:List α),(∀ x∈m,x∈l)->(∀ x∈out,x∈l)->m.foldl (Lk lt) out=m.foldl (Lk lt') out
 | [],_,_,_=>rfl
 |
  x::m,out,h1,h2=>by
  have e:Lk lt out x=Lk lt' out x:=by
   unfold Lk; rw [LG λy hy=>h x (h1 x (by simp)) y (h2 y hy)]
  simp only [Z9];rw [e];exact TL h m _ (λy hy=>h1 y (Qg _ hy)) λy hy=>by
   rcases UP.1 hy with rfl | hy
   ·exact h1 _ (by simp)
   ·exact h2 y hy
end
theorem bQ {a:Tm} {l:List Pt} {q:Rat} (hb:∀ u∈l,∀ v∈l,(Tk (Fq a) u v=true↔Cv q u v)) (hd:l.Pairwise λx y=>x.id≠y.id):(Tq a l).Pairwise (Cv q) :=
 CM (S:=λx=>x∈l) (D:=λx y=>x.id≠y.id) (YU q) (λu v hu hv h=>(hb u hu v hv).1 h) (λu v hu hv hne h=>uE (λe=>hne e.symm) λh'=>by
  rw [(hb u hu v hv).2 h'] at h; cases h) l [] .nil (λx hx=>by cases hx) (λx hx=>hx) hd (λx hx=>by cases hx)
theorem Qty {a:Tm} (ha:Va a) {u v:Pt} (hu:Sc u.c) (hv:Sc v.c) {q:Rat} (h1:Hg (Fq a) (Gg u.c v.c)=Fc (U7 (Gg u.c v.c) q)) (h2:Hg (Fq a) (Gf u.c v.c)=Fc (U7 (Gf u.c v.c) q)) (hne:u.c≠v.c) (h:Cv q u v):lx (px · q) (py · q) u v:=by
 rcases h with h | ⟨h,h3⟩
 ·exact .inl h
 rcases h3 with h3 | ⟨h3,_⟩
 ·exact .inr ⟨h,h3⟩
 ·exfalso;rw [TQ hu hv] at h1;rw [RO hu hv] at h2;have z1:Fc (px v q-px u q)=0:=Gj.2 (by grind);have z2:Fc (py v q-py u q)=0:=Gj.2 (by grind);rw [z1] at h1;rw [z2] at h2;have e1:(Gg u.c v.c).length=0:=Decidable.byContradiction λe=>(Ea ha (M3 hu hv).dp e).2 h1
  have e2:(Gf u.c v.c).length=0:=Decidable.byContradiction λe=>(Ea ha (Mz hu hv).dp e).2 h2
  exact hne (Qn8 hu.n hv.n (Qj e1) (Qj e2))
structure LowC (X Y:Pt->Rat) (R L:List Pt):Prop where
 hd:L.head? = R.head?
 la:L.getLast? = R.getLast?
 srt:L.Pairwise (lx X Y)
 mem:∀ p∈L,p∈R
 edg:Edg (λa b=>∀ p∈R,0≤Nw X Y a b p) L
 cnv:Cnv (λa b c=>0<Nw X Y a b c) L
theorem AA {X Y:Pt->Rat} {sg:Uj->Int} {R:List Pt} (hs:∀ a∈R,∀ b∈R,∀ c∈R,(UM sg a b c=true↔0<Nw X Y a b c)) (hR:R.Pairwise (lx X Y)) (h0:R≠[]):LowC X Y R (S9 sg R):=by
 cases R with
 | nil=>exact absurd rfl h0
 |
  cons f R =>
  obtain ⟨t,st,g1,g2,g3,g4⟩:=AI hs hR R [f] f [] rfl ⟨Kk _ _,λp hp=>by rw [Qk.1 hp]; simp,trivial,trivial⟩ rfl rfl;have e:S9 sg (f::R)=(t::st).reverse:=by
   unfold S9;rw [<-g1]; rfl
  rw [e];exact ⟨by rw [List.head?_reverse,g4],by rw [List.getLast?_reverse]; exact g3.symm,Kx.2 g2.srt,λp hp=>g2.mem p (Jh.1 hp),g2.edg.rev,g2.cnv.rev⟩
theorem Qup {X Y:Pt->Rat} {R:List Pt} (hR:R.Pairwise (lx X Y)):∀ p∈R,∀ q∈R,p=q\/lx X Y p q\/lx X Y q p:=λp hp q hq=>by
 by_cases e:p=q
 ·exact .inl e
 ·exact .inr (qF hR hp hq e)
theorem Qhc {X Y:Pt->Rat} {R L L':List Pt} (hR:R.Pairwise (lx X Y)) (h:LowC X Y R L) (h':LowC X Y R L'):L=L':=by
 have hh:=h.hd.trans h'.hd.symm;have hl:=h.la.trans h'.la.symm;cases L with
 |
  nil=>cases L' with
  | nil=>rfl
  | cons _ _=>simp at hh
 |
  cons f M=>cases L' with
  | nil=>simp at hh
  |
   cons f' M' =>
   simp at hh;subst hh;obtain ⟨z,hz⟩:∃ z,(f::M).getLast? = some z:=⟨_,Yl (by simp)⟩;rw [Qfc (Qup hR) M M' f h.srt h'.srt h.mem h'.mem h.edg h'.edg h.cnv h'.cnv hz (hl ▸ hz)]
theorem rH {x y:Rat} (h:Fc x=Fc y):(0<=x->0<=y)/\(0<x->0<y):=by
 have h1:=Fu x;have h2:=Fu y;grind
theorem kA {X Y X' Y':Pt->Rat} {R:List Pt}:∀ {L:List Pt},(∀ p∈L,p∈R)->(∀ e∈A4 L,∀ p∈R,Fc (Nw X Y e.1 e.2 p)=Fc (Nw X' Y' e.1 e.2 p))->Cnv (λa b c=>0<Nw X Y a b c) L->Cnv (λa b c=>0<Nw X' Y' a b c) L
 | [],_,_,_=>trivial
 | [_],_,_,_=>trivial
 | [_,_],_,_,_=>trivial
 | a::b::c::l,hm,he,h=>⟨(rH (he (a,b) (by simp [A4]) c (hm c (by simp)))).2 h.1,kA (λp hp=>hm p (Qg _ hp)) (λe hx=>he e (Qg _ hx)) h.2⟩
theorem uA {X Y X' Y':Pt->Rat} {R L:List Pt} (h:LowC X Y R L) (hl:∀ u∈R,∀ v∈R,lx X Y u v->lx X' Y' u v) (he:∀ e∈A4 L,∀ p∈R,Fc (Nw X Y e.1 e.2 p)=Fc (Nw X' Y' e.1 e.2 p)):LowC X' Y' R L :=
 ⟨h.hd,h.la,h.srt.imp_of_mem λhu hv h'=>hl _ (h.mem _ hu) _ (h.mem _ hv) h',h.mem,xR.2 λe hx p hp=>(rH (he e hx p hp)).1 (xR.1 h.edg e hx p hp),kA h.mem he h.cnv⟩
theorem jL (X Y:Pt->Rat) (a b c:Pt):Nw (λp=>-X p) (λp=>-Y p) a b c=Nw X Y a b c:=by unfold Nw; grind
theorem jG {X Y:Pt->Rat} {a b:Pt}:lx (λp=>-X p) (λp=>-Y p) a b↔lx X Y b a:=by unfold lx; grind
theorem Qrg {L:List Pt} {f z:Pt} (h1:L.head? = some f) (h2:L.getLast? = some z) (hne:f≠z):∃ A,L=f::A++[z]:=by
 cases L with
 | nil=>cases h1
 |
  cons g M =>
  simp at h1;subst h1;cases M with
  | nil=>simp at h2; exact absurd h2 hne
  |
   cons x M =>
   rw [Jw] at h2;obtain ⟨A,hA⟩:=Y6.1 h2;exact ⟨A,by rw [hA]; rfl⟩
theorem CS {α β:Type} {f g:α->List β}:∀ {m:List α},(∀ x∈m,f x=g x)->m.flatMap f=m.flatMap g
 | [],_=>rfl
 | x::m,h=>by rw [Jx,Jx,h x (by simp),CS λy hy=>h y (Qg _ hy)]
theorem uT {sa sb:Uj->Int} {l C:List Pt} (h:∀ x∈Nt sa l C,Hg sb x.p=Hg sa x.p):Nt sb l C=Nt sa l C:=by
 by_cases h2:C.length<2
 ·unfold Nt; rw [if_pos h2,if_pos h2]
 ·have e:∀ s,Nt s l C=(Rk C).flatMap (E7 s l):=λs=>if_neg h2
  rw [e] at h ⊢;rw [e];refine CS λx hx=>Xo λc hc=>?_
  have:=h (D3 sa x.1 x.2 c) (Zo.2 ⟨x,hx,Wg hc⟩);show (⟨3,x.1.id,x.2.id,c.id,0,He x.1.c x.2.c c.c,Hg sb (He x.1.c x.2.c c.c)⟩:Ct)=⟨3,x.1.id,x.2.id,c.id,0,He x.1.c x.2.c c.c,Hg sa (He x.1.c x.2.c c.c)⟩;have this:Hg sb (He x.1.c x.2.c c.c)=Hg sa (He x.1.c x.2.c c.c):=this;rw [this]
theorem iW {l:List Pt} (hd:l.Pairwise λx y=>x.id≠y.id) {u v:Pt} (hu:u∈l) (hv:v∈l) (h:u.id=v.id):u=v:=by
 refine Classical.byContradiction λe=>?_
 rcases qF hd hu hv e with h' | h'
 ·exact h' h
 ·exact h' h.symm
structure Soon (l:List Pt) (a:Tm) (q:Rat):Prop where
 g:∀ p∈Lz l++NU l,Hg (Fq a) p=Fc (U7 p q)
 b:∀ u∈l,∀ v∈l,(Tk (Fq a) u v=true↔Cv q u v)
 o:∀ u∈l,∀ v∈l,∀ w∈l,Hg (Fq a) (He u.c v.c w.c)=Fc (Nw (px · q) (py · q) u v w)
 t:∀ u∈l,∀ v∈l,∀ w∈l,(UM (Fq a) u v w=true↔0<Nw (px · q) (py · q) u v w)
 r:(Tq a (Te l)).Pairwise (lx (px · q) (py · q))
theorem Qjp {l:List Pt} (hl:∀ p∈l,Sc p.c) (hd:l.Pairwise λx y=>x.id≠y.id) {a:Tm} (ha:Va a):∃ y,Fj a y=-1/\∀ q,Fj a q=-1->q≤y->Soon l a q:=by
 obtain ⟨y,y1,y2⟩:=XZ ha (Lz l++NU l) λp hp=>(PG hl p hp).dp
 refine ⟨y,y1,λq q1 q2=>?_⟩;have g:=y2 q q1 q2;have gP:=λp hp=>g p (X6 _ hp)
 have b:∀ u∈l,∀ v∈l,(Tk (Fq a) u v=true↔Cv q u v):=λu hu v hv=>NP ha (hl u hu) (hl v hv) (gP _ (Tv hu hv).1) (gP _ (Tv hu hv).2)
 have o:∀ u∈l,∀ v∈l,∀ w∈l,Hg (Fq a) (He u.c v.c w.c)=Fc (Nw (px · q) (py · q) u v w):=λu hu v hv w hw=>by
  rw [g _ (Jc _ (vM hu hv hw)),bK (hl u hu) (hl v hv) (hl w hw)]
 refine ⟨g,b,o,λu hu v hv w hw=>?_,?_⟩
 ·unfold UM;rw [o u hu v hv w hw,decide_eq_true_eq];have:=Fu (Nw (px · q) (py · q) u v w);grind
 ·have hw:∀ u∈Te l,u∈l:=λu hu=>Nj hu
  have h1:=bQ (a:=a) (l:=Te l) (q:=q) (λu hu v hv=>b u (hw u hu) v (hw v hv)) (List.Pairwise.sublist (Qj8 l) hd);have h2:(Tq a (Te l)).Pairwise λx y=>x.c≠y.c:=(List.Perm.pairwise_iff (λ{x y} h e=>h e.symm) (bM (lt:=Tk (Fq a)) (Te l))).2 (Qpu l)
  refine (h1.and h2).imp_of_mem λ{u v} hu hv h=>?_
  have hu:=hw u (Hm.1 hu);have hv:=hw v (Hm.1 hv);exact Qty ha (hl u hu) (hl v hv) (gP _ (Tv hu hv).1) (gP _ (Tv hu hv).2) h.2 h.1
theorem iF {l:List Pt} (hl:∀ p∈l,Sc p.c) (hd:l.Pairwise λx y=>x.id≠y.id) {a:Tm} (ha:Va a):∃ q,Soon l a q :=
 let ⟨y,h1,h2⟩:=Qjp hl hd ha
 ⟨y,h2 y h1 Qp⟩
theorem BP {l:List Pt} {a:Tm} {q:Rat} (S:Soon l a q) (h3:3<=(Tq a (Te l)).length):∃ f z A B,S9 (Fq a) (Tq a (Te l))=f::A++[z]/\S9 (Fq a) (Tq a (Te l)).reverse=z::B++[f]/\LowC (px · q) (py · q) (Tq a (Te l)) (f::A++[z])/\LowC (λp=>-px p q) (λp=>-py p q) (Tq a (Te l)).reverse (z::B++[f])/\Rk (S7 l a)=A4 (f::A++[z])++A4 (z::B++[f])/\2<=(S7 l a).length:=by
 obtain ⟨R,hR⟩:=nmE (Tq a (Te l));have hm:∀ x∈R,x∈l:=λx hx=>by rw [hR] at hx; exact Nj (Hm.1 hx)
 have r:=S.r;rw [<-hR] at r h3 ⊢;have h0:R≠[]:=λe=>by rw [e] at h3; simp at h3
 have c1:=AA (sg:=Fq a) (λu hu v hv w hw=>S.t u (hm u hu) v (hm v hv) w (hm w hw)) r h0;have r2:R.reverse.Pairwise (lx (λp=>-px p q) (λp=>-py p q)):=Kx.2 (r.imp λh=>jG.2 h);have c2:=AA (sg:=Fq a) (R:=R.reverse) (X:=λp=>-px p q) (Y:=λp=>-py p q) (λu hu v hv w hw=>by
  rw [jL (px · q) (py · q)];exact S.t u (hm u (Jh.1 hu)) v (hm v (Jh.1 hv)) w (hm w (Jh.1 hw))) r2 (by simpa using h0)
 obtain ⟨f,hf⟩:∃ f,R.head? = some f:=by cases R with
  | nil=>exact absurd rfl h0
  | cons f _=>exact ⟨f,rfl⟩
 obtain ⟨z,hz⟩:∃ z,R.getLast? = some z:=⟨_,Yl h0⟩;have hne:f≠z:=λe=>by
  subst e;cases R with
  | nil=>exact absurd rfl h0
  |
   cons g M =>
   simp at hf; subst hf;cases M with
   | nil=>simp at h3
   |
    cons x M =>
    rw [Jw] at hz;exact Ll _ ((Ze.1 r).1 g (V0 hz))
 obtain ⟨A,hA⟩:=Qrg (c1.hd.trans hf) (c1.la.trans hz) hne;obtain ⟨B,hB⟩:=Qrg (c2.hd.trans (by rw [List.head?_reverse]; exact hz)) (c2.la.trans (by rw [List.getLast?_reverse]; exact hf)) (Ne.symm hne);have hc:S7 l a=(f::A++[z]).dropLast++(z::B++[f]).dropLast:=by
  unfold S7 Lq;rw [<-hR,if_neg (by omega),hA,hB]
 rw [hA] at c1;rw [hB] at c2;refine ⟨f,z,A,B,hA,hB,c1,c2,by rw [hc]; exact wA,?_⟩;rw [hc,Vy,Vy];simp; omega
theorem Qbc {l:List Pt} (hl:∀ p∈l,Sc p.c) (hd:l.Pairwise λx y=>x.id≠y.id) {a b:Tm} (ha:Va a) (hb:Va b) (h:∀ x∈TS l a,Hg (Fq b) x.p=Hg (Fq a) x.p):S7 l b=S7 l a/\TS l b=TS l a:=by
 obtain ⟨q,Sa⟩:=iF hl hd ha;obtain ⟨r,Sb⟩:=iF hl hd hb;obtain ⟨k1,k2⟩:=rK hl hd ha hb λx hx=>h x (X6 _ hx)
 have pa:=bQ Sa.b hd;have pb:=bQ Sb.b hd;rw [k1] at pb;have pab:=pa.and pb;have lexs:∀ u∈l,∀ v∈l,(Cv q u v↔Cv r u v):=λu hu v hv=>by
  by_cases e:u=v
  ·subst e; exact ⟨λh=>absurd h (XR _ _),λh=>absurd h (XR _ _)⟩
  ·rcases qF pab (Hm.2 hu) (Hm.2 hv) e with h' | h'
   ·exact ⟨λ_=>h'.2,λ_=>h'.1⟩
   ·exact ⟨λh=>absurd (YU _ _ _ _ h h'.1) (XR _ _),λh=>absurd (YU _ _ _ _ h h'.2) (XR _ _)⟩
 have bef:∀ u∈l,∀ v∈l,Tk (Fq b) u v=Tk (Fq a) u v:=λu hu v hv=>by
  have h1:=Sa.b u hu v hv;have h2:=Sb.b u hu v hv;have h3:=lexs u hu v hv;cases e1:Tk (Fq a) u v <;> cases e2:Tk (Fq b) u v <;> rw [e1] at h1 <;> rw [e2] at h2 <;> simp_all
 have eR:Tq b (Te l)=Tq a (Te l):=TL (l:=Te l) (λu hu v hv=>bef u (Nj hu) v (Nj hv)) (Te l) [] (λx hx=>hx) λx hx=>by cases hx
 have hm:∀ x∈Tq a (Te l),x∈l:=λx hx=>Nj (Hm.1 hx)
 have rb:=Sb.r;rw [eR] at rb;have hc:S7 l b=S7 l a:=by
  by_cases h3:(Tq a (Te l)).length<3
  ·unfold S7 Lq;rw [eR,if_pos h3,if_pos h3]
  ·obtain ⟨f,z,A,B,hA,hB,c1,c2,hE,hC2⟩:=BP Sa (by omega);obtain ⟨f',z',A',B',hA',hB',c1',c2',hE',_⟩:=BP Sb (by rw [eR]; omega);rw [eR] at hA' hB' c1' c2';have sgs:∀ e∈Rk (S7 l a),∀ p∈Tq a (Te l),Fc (Nw (px · q) (py · q) e.1 e.2 p)=Fc (Nw (px · r) (py · r) e.1 e.2 p):=λe he p hp=>by
    obtain ⟨m1,m2⟩:=TC he;have m1:=Iw m1;have m2:=Iw m2;have m3:=hm p hp;by_cases ho:VJ e p=true
    ·have hx:D3 (Fq a) e.1 e.2 p∈TS l a:=by
      refine Jc _ ?_;unfold Nt;rw [if_neg (by omega)];exact Zo.2 ⟨e,he,Wg (Yd.2 ⟨m3,ho⟩)⟩
     have hg:Hg (Fq b) (He e.1.c e.2.c p.c)=Hg (Fq a) (He e.1.c e.2.c p.c):=h _ hx;rw [<-Sa.o _ m1 _ m2 _ m3,<-Sb.o _ m1 _ m2 _ m3,hg]
    ·have hz:∀ X Y:Pt->Rat,Nw X Y e.1 e.2 p=0:=λX Y=>by
      by_cases e1:p.id=e.1.id
      ·rw [iW hd m3 m1 e1]; exact (FQ _ _).1
      ·by_cases e2:p.id=e.2.id
       ·rw [iW hd m3 m2 e2]; exact (FQ _ _).2
       ·exact absurd (by simp [VJ,e1,e2]) ho
     rw [hz,hz]
   have hlx:∀ u∈Tq a (Te l),∀ v∈Tq a (Te l),lx (px · q) (py · q) u v->lx (px · r) (py · r) u v:=λu hu v hv huv=>by
    have ra:=Sa.r;by_cases e:u=v
    ·subst e; exact absurd huv (Ll _)
    ·rcases qF (ra.and rb) hu hv e with h' | h'
     ·exact h'.2
     ·exact absurd (fQ huv h'.1) (Ll _)
   have e1:=Qhc rb (uA c1 hlx λe he=>sgs e (by rw [hE]; exact X6 _ he)) c1';have rb2:(Tq a (Te l)).reverse.Pairwise (lx (λp=>-px p r) (λp=>-py p r)):=Kx.2 (rb.imp λh=>jG.2 h);have e2:=Qhc rb2 (uA c2 (λu hu v hv huv=>jG.2 (hlx v (Jh.1 hv) u (Jh.1 hu) (jG.1 huv))) λe he p hp=>by
    rw [jL (px · q) (py · q),jL (px · r) (py · r)];exact sgs e (by rw [hE]; exact Jc _ he) p (Jh.1 hp)) c2'
   unfold S7 Lq;rw [eR,if_neg h3,if_neg h3,hA,hB,hA',hB',e1,e2]
 refine ⟨hc,?_⟩;unfold TS;rw [hc,k2,uT λx hx=>h x (Jc _ hx)]
theorem Qxw {l:List Pt} (hl:∀ p∈l,Sc p.c) (hn:l.length≤10) (hd:l.Pairwise λx y=>x.id≠y.id):Stab (TS l) (brH l):=by
 refine ⟨sZ hl hn,⟨Lz l++NU l,PG hl,λa _ x hx=>zS x hx⟩,λa b ha hb h=>?_⟩;obtain ⟨e1,e2⟩:=Qbc hl hd ha hb h;exact ⟨e2,by show Uy _=Uy _; rw [e1]⟩
end Orq
namespace Orq
open Orr Go
theorem KJ {a b c d:Crv} (ha:Sc a) (hb:Sc b) (hc:Sc c) (hd:Sc d):Cp (Hl a b c d):=by
 have lr:∀ {a b:Crv},Sc a->Sc b->(Gg a b).length<=3/\(Gf a b).length<=3:=λ{a b} ha hb=>by
  have:=M7 (Ft b.x a.d) (Ft a.x b.d); have:=Fx b.x a.d; have:=Fx a.x b.d;have:=M7 (Ft b.y a.d) (Ft a.y b.d); have:=Fx b.y a.d; have:=Fx a.y b.d;have:=ha.c.lx; have:=hb.c.lx; have:=ha.c.ly; have:=hb.c.ly;unfold Gg Gf; omega
 have ap:∀ {a b:Crv},Sc a->Sc b->(Sl a b).length<=5/\Bd 517 (Sl a b):=λ{a b} ha hb=>by
  obtain ⟨l1,l2⟩:=lr ha hb;have b1:Bd 257 (Gg a b):=Dd (Gd hb.c.x ha.c.d) (Gd ha.c.x hb.c.d);have b2:Bd 257 (Gf a b):=Dd (Gd hb.c.y ha.c.d) (Gd ha.c.y hb.c.d);have q1:=Mf (u:=2) b1 b1 (by omega);have q2:=Mf (u:=2) b2 b2 (by omega);refine ⟨?_,U0 (WS q1 q2) (by omega)⟩;have:=XF (Gk (Gg a b) (Gg a b)) (Gk (Gf a b) (Gf a b));have:=Sy (Gg a b) (Gg a b); have:=Sy (Gf a b) (Gf a b);unfold Sl; omega
 have dd:∀ {a b:Crv},Sc a->Sc b->Fe ((a.d*b.d)*(a.d*b.d))<=512:=λ{a b} ha hb=>by
  have:=Gh a.d b.d; have:=Gh (a.d*b.d) (a.d*b.d); have:=ha.c.d; have:=hb.c.d; omega
 obtain ⟨l1,b1⟩:=ap hc hd;obtain ⟨l2,b2⟩:=ap ha hb;refine ⟨Fv _ _,?_,U0 (Dd (Gd b1 (dd ha hb)) (Gd b2 (dd hc hd))) (by omega)⟩;have:=M7 (Ft (Sl c d) ((a.d*b.d)*(a.d*b.d))) (Ft (Sl a b) ((c.d*d.d)*(c.d*d.d)));have:=Fx (Sl c d) ((a.d*b.d)*(a.d*b.d)); have:=Fx (Sl a b) ((c.d*d.d)*(c.d*d.d));unfold Hl; omega
def tP (m:Pt×Pt) (q:Rat):Rat:=(px m.2 q-px m.1 q)*(px m.2 q-px m.1 q)+(py m.2 q-py m.1 q)*(py m.2 q-py m.1 q)
theorem Qng {a b c d:Pt} (ha:Sc a.c) (hb:Sc b.c) (hc:Sc c.c) (hd:Sc d.c) (q:Rat):Fc (U7 (Hl a.c b.c c.c d.c) q)=Fc (tP (c,d) q-tP (a,b) q):=by
 have Im:∀ {z:Int},0<z->(0:Rat)<(z:Rat):=λ{z} h=>by exact_mod_cast h
 have pa:=Im ha.n.2.2.1;have pb:=Im hb.n.2.2.1;have pc:=Im hc.n.2.2.1;have pd:=Im hd.n.2.2.1;have xx:∀ {p:Pt},0<(p.c.d:Rat)->U7 p.c.x q=px p q*(p.c.d:Rat)/\U7 p.c.y q=py p q*(p.c.d:Rat):=λ{p} h=>by
  unfold px py;exact ⟨(Zf (by grind)).symm,(Zf (by grind)).symm⟩
 obtain ⟨xa,ya⟩:=xx pa;obtain ⟨xb,yb⟩:=xx pb;obtain ⟨xc,yc⟩:=xx pc;obtain ⟨xd,yd⟩:=xx pd;have e:U7 (Hl a.c b.c c.c d.c) q=(((a.c.d:Rat)*b.c.d)*((a.c.d:Rat)*b.c.d))*(((c.c.d:Rat)*d.c.d)*((c.c.d:Rat)*d.c.d))*(tP (c,d) q-tP (a,b) q):=by
  unfold Hl Sl Gg Gf tP;simp only [Na,Ri,LX,Gb,Xw];rw [xa,xb,xc,xd,ya,yb,yc,yd];grind
 rw [e,Ck];have h1:=Xp pa pb;have h2:=Xp pc pd;exact Xp (Xp h1 h1) (Xp h2 h2)
def EB (l:List Pt):Uk:=l.flatMap λa=>l.flatMap λb=>l.flatMap λc=>l.map λd=>Hl a.c b.c c.c d.c
theorem NW {l:List Pt} {a b c d:Pt} (ha:a∈l) (hb:b∈l) (hc:c∈l) (hd:d∈l):Hl a.c b.c c.c d.c∈EB l :=
 Zo.2 ⟨a,ha,Zo.2 ⟨b,hb,Zo.2 ⟨c,hc,Q9.2 ⟨d,hd,rfl⟩⟩⟩⟩
theorem WR {l:List Pt} (hl:∀ p∈l,Sc p.c):∀ p∈EB l,Cp p:=λp hp=>by
 obtain ⟨a,ha,hp⟩:=Zo.1 hp;obtain ⟨b,hb,hp⟩:=Zo.1 hp;obtain ⟨c,hc,hp⟩:=Zo.1 hp;obtain ⟨d,hd,rfl⟩:=Q9.1 hp;exact KJ (hl a ha) (hl b hb) (hl c hc) (hl d hd)
theorem lH {l:List Pt} (hl:∀ p∈l,Sc p.c) {a:Tm} (ha:Va a):∃ y,Fj a y=-1/\∀ q,Fj a q=-1->q≤y->∀ s m:Pt×Pt,s.1∈l->s.2∈l->m.1∈l->m.2∈l->Hg (Fq a) (Hl s.1.c s.2.c m.1.c m.2.c)=Fc (tP m q-tP s q):=by
 obtain ⟨y,y1,y2⟩:=XZ ha (EB l) λp hp=>(WR hl p hp).dp
 refine ⟨y,y1,λq q1 q2 s m h1 h2 h3 h4=>?_⟩;rw [y2 q q1 q2 _ (NW h1 h2 h3 h4),Qng (hl _ h1) (hl _ h2) (hl _ h3) (hl _ h4)]
def Ds (f:Pt×Pt->Rat) (P:List (Pt×Pt)) (r:Pt×Pt):Prop:=∃ P1 P2,P=P1++r::P2/\(∀ m∈P1,f r<f m)/\∀ m∈P2,f r≤f m
theorem IB {f:Pt×Pt->Rat}:∀ {P:List (Pt×Pt)} {r r':Pt×Pt},Ds f P r->Ds f P r'->r=r'
 | [],r,r',⟨P1,P2,h,_⟩,_=>by simp at h
 |
  x::P,r,r',⟨P1,P2,h,h1,h2⟩,⟨Q1,Q2,h',h1',h2'⟩=>by
  cases P1 with
  |
   nil =>
   simp at h;cases Q1 with
   | nil=>simp at h'; exact h.1.symm.trans h'.1
   |
    cons y Q1 =>
    simp at h';exfalso;obtain ⟨rfl,rfl⟩:=h;obtain ⟨rfl,rfl⟩:=h';have a1:=h1' x (by simp);have a2:=h2 r' (by simp);grind
  |
   cons y P1 =>
   simp at h;cases Q1 with
   |
    nil =>
    simp at h';exfalso;obtain ⟨rfl,rfl⟩:=h;obtain ⟨rfl,rfl⟩:=h';have a1:=h1 x (by simp);have a2:=h2' r (by simp);grind
   |
    cons z Q1 =>
    simp at h h';exact IB (P:=P) ⟨P1,P2,h.2,λm hm=>h1 m (by simp [hm]),h2⟩ ⟨Q1,Q2,h'.2,λm hm=>h1' m (by simp [hm]),h2'⟩
theorem Qnh {f:Pt×Pt->Rat} {P:List (Pt×Pt)} {r m:Pt×Pt} (h:Ds f P r):Ds f (P++[m]) (if f m<f r then m else r):=by
 obtain ⟨P1,P2,rfl,h1,h2⟩:=h;by_cases e:f m<f r
 ·rw [if_pos e];refine ⟨P1++r::P2,[],rfl,λx hx=>?_,λx hx=>by cases hx⟩;rcases Qq.1 hx with hx | hx
  ·have:=h1 x hx; grind
  ·rcases Qm.1 hx with rfl | hx
   ·exact e
   ·have:=h2 x hx; grind
 ·rw [if_neg e];refine ⟨P1,P2++[m],by simp,h1,λx hx=>?_⟩;rcases Qq.1 hx with hx | hx
  ·exact h2 x hx
  ·rw [Qk.1 hx]; grind
theorem lS {f:Pt×Pt->Rat} {sg:Uj->Int} {l:List Pt} (hg:∀ s m:Pt×Pt,s.1∈l->s.2∈l->m.1∈l->m.2∈l->Hg sg (Hl s.1.c s.2.c m.1.c m.2.c)=Fc (f m-f s)):∀ (ps P:List (Pt×Pt)) (s:Pt×Pt),s.1∈l/\s.2∈l->(∀ m∈ps,m.1∈l/\m.2∈l)->Ds f P s->Ds f (P++ps) (Hj sg s ps)
 | [],P,s,_,_,h=>by rw [Zw]; exact h
 |
  m::ps,P,s,hs,hp,h=>by
  rw [QM];have hm:=hp m (by simp);have e:Pu sg s m=if f m<f s then m else s:=by
   unfold Pu;rw [hg s m hs.1 hs.2 hm.1 hm.2];have:=Fu (f m-f s);by_cases h:f m<f s
   ·rw [if_pos h,if_pos (by grind)]
   ·rw [if_neg h,if_neg (by grind)]
  have hn:(Pu sg s m).1∈l/\(Pu sg s m).2∈l:=by
   rcases RV sg s m with e | e <;> rw [e] <;> assumption
  have:=lS hg ps (P++[m]) (Pu sg s m) hn (λx hx=>hp x (Qg _ hx)) (by rw [e]; exact Qnh h);rwa [Zb] at this
theorem nZ (a b:Pt) (l:List Pt):∃ P,Gl (a::b::l)=(a,b)::P:=⟨_,rfl⟩
theorem aJ {f:Pt×Pt->Rat} {sg:Uj->Int} {a b:Pt} {l:List Pt} (hg:∀ s m:Pt×Pt,s.1∈a::b::l->s.2∈a::b::l->m.1∈a::b::l->m.2∈a::b::l->Hg sg (Hl s.1.c s.2.c m.1.c m.2.c)=Fc (f m-f s)):Ds f (Gl (a::b::l)) (Hj sg (a,b) (Gl (a::b::l))):=by
 obtain ⟨P,hP⟩:=nZ a b l;have hm:=Sk (a::b::l).length (a::b::l);have hm:∀ m∈Gl (a::b::l),m.1∈a::b::l/\m.2∈a::b::l:=hm;rw [hP] at hm ⊢;have h:=lS hg P [(a,b)] (a,b) (hm (a,b) (by simp)) (λm h=>hm m (by simp [h])) ⟨[],[],rfl,λm h=>(by cases h),λm h=>(by cases h)⟩;rw [QM];have e:Pu sg (a,b) (a,b)=(a,b):=by rcases RV sg (a,b) (a,b) with e | e <;> exact e
 rw [e]; exact h
theorem iU {l:List Pt} (hd:l.Pairwise λx y=>x.id≠y.id) {u v:Pt} (hu:u∈l) (hv:v∈l) (h:u.id=v.id):u=v:=by
 by_cases e:u=v
 ·exact e
 ·rcases qF hd hu hv e with h' | h'
  ·exact absurd h h'
  ·exact absurd h.symm h'
theorem Qbx {l:List Pt} (hl:∀ p∈l,Sc p.c) (hd:l.Pairwise λx y=>x.id≠y.id) {a b:Tm} (ha:Va a) (hb:Va b) (h:∀ x∈D7 (Fq a) l,Hg (Fq b) x.p=Hg (Fq a) x.p):ZJ (Fq b) l=ZJ (Fq a) l/\D7 (Fq b) l=D7 (Fq a) l:=by
 match l,hl,hd,h with
 | [],_,_,_=>exact ⟨rfl,rfl⟩
 | [x],_,_,_=>exact ⟨rfl,rfl⟩
 |
  u::v::l',hl,hd,h =>
  obtain ⟨y,y1,y2⟩:=lH hl ha;obtain ⟨z,z1,z2⟩:=lH hl hb;have ga:=y2 y y1 Qp;have gb:=z2 z z1 Qp;have fa:=aJ (f:=λm=>tP m y) ga;have fb:=aJ (f:=λm=>tP m z) gb;simp only [ZJ,D7] at h ⊢;have hm:∀ m∈Gl (u::v::l'),m.1∈u::v::l'/\m.2∈u::v::l':=Sk _ _;generalize u::v::l'=l at *;obtain ⟨r,hr⟩:=nmE (Hj (Fq a) (u,v) (Gl l));rw [<-hr] at fa h ⊢;obtain ⟨P1,P2,hP,h1,h2⟩:=fa;have hrm:r∈Gl l:=by rw [hP]; simp
  have hrl:=hm r hrm;have key:∀ m∈Gl l,m=r\/Hg (Fq b) (Hl r.1.c r.2.c m.1.c m.2.c)=Hg (Fq a) (Hl r.1.c r.2.c m.1.c m.2.c):=λm hmm=>by
   have hml:=hm m hmm;by_cases e:ZX r m=true
   ·right;have h0:=h (Nu (Fq a) r.1 r.2 m.1 m.2) (by unfold Mr; exact List.mem_map.2 ⟨m,List.mem_filter.2 ⟨hmm,e⟩,rfl⟩);rw [DF] at h0; exact h0
   ·left;unfold ZX at e;simp at e;have e1:=iU hd hml.1 hrl.1 e.1;have e2:=iU hd hml.2 hrl.2 e.2;exact Prod.ext e1 e2
  have fb':Ds (λm=>tP m z) (Gl l) r:=by
   refine ⟨P1,P2,hP,λm hmm=>?_,λm hmm=>?_⟩
   ·have hmp:m∈Gl l:=by rw [hP]; simp [hmm]
    have hlt:=h1 m hmm;have hml:=hm m hmp;rcases key m hmp with e | e
    ·exfalso; rw [e] at hlt; dsimp only at hlt; grind
    ·rw [ga r m hrl.1 hrl.2 hml.1 hml.2,gb r m hrl.1 hrl.2 hml.1 hml.2] at e;dsimp only at hlt ⊢;rw [Ht.2 (by grind:0<tP m y-tP r y)] at e;have:=Ht.1 e; grind
   ·have hmp:m∈Gl l:=by rw [hP]; simp [hmm]
    have hlt:=h2 m hmm;have hml:=hm m hmp;rcases key m hmp with e | e
    ·rw [e]; exact Qp
    ·rw [ga r m hrl.1 hrl.2 hml.1 hml.2,gb r m hrl.1 hrl.2 hml.1 hml.2] at e;dsimp only at hlt ⊢;have t1:=Fu (tP m y-tP r y);have t2:=Fu (tP m z-tP r z);grind
  have er:=IB fb fb';rw [er];refine ⟨rfl,?_⟩;unfold Mr;refine Xo λm hmm=>?_
  have hmp:=(Yd.1 hmm).1;rcases key m hmp with e | e
  ·exfalso;have:=(Yd.1 hmm).2;rw [e] at this; unfold ZX at this; simp at this
  ·unfold Nu; rw [e]
theorem Qxx {l:List Pt} (hl:∀ p∈l,Sc p.c) (hn:l.length≤10) (hd:l.Pairwise λx y=>x.id≠y.id):Stab (λa=>D7 (Fq a) l) (λa=>Uy (ZJ (Fq a) l)):=by
 have hcp:∀ a,∀ x∈D7 (Fq a) l,x.p∈EB l:=λa x hx=>by
  match l,hx with
  |
   u::v::l',hx =>
   simp only [D7] at hx;obtain ⟨h3,h4⟩:=D5 (Fq a) (l:=u::v::l') (Gl (u::v::l')) (u,v) ⟨by simp,by simp⟩ (Sk _ _);obtain ⟨m,hm,rfl⟩:=IJ hx;obtain ⟨h1,h2⟩:=Sk _ _ m hm;rw [DF];exact NW h3 h4 h1 h2
 refine ⟨⟨λa _ x hx=>WR hl _ (hcp a x hx),λa _=>?_⟩,⟨EB l,WR hl,λa _=>hcp a⟩,λa b ha hb h=>?_⟩
 ·have:=qZ (Fq a) l;have:l.length*l.length<=10*10:=Zi hn hn;show (D7 (Fq a) l).length<=1000;omega
 ·obtain ⟨h1,h2⟩:=Qbx hl hd ha hb h;exact ⟨h2,by show Uy _=Uy _; rw [h1]⟩
end Orq
namespace Orr
open Go Go.Proofs Tryz Orq
set_option maxRecDepth 10000
def XM:Nat->Uo->Uo
 | _,[]=>[]
 | 0,x::l=>UL x::l
 | k+1,x::l=>x::XM k l
theorem OE:∀ (k:Nat) (l:Uo),(XM k l).length=l.length
 | _,[]=>by cases ‹Nat› <;> rfl
 | 0,x::l=>rfl
 | k+1,x::l=>by simp only [XM,Q7,OE k l]
theorem OL:∀ (k:Nat) (l:Uo) {j:Nat} {y:LV},(XM k l)[j]? = some y->∃ x,l[j]? = some x/\(y=x\/y=UL x)
 | 0,[],_,_,h=>by simp [XM] at h
 | _+1,[],_,_,h=>by simp [XM] at h
 | 0,x::l,0,y,h=>by simp [XM] at h; exact ⟨x,rfl,.inr h.symm⟩
 | 0,x::l,j+1,y,h=>by simp [XM] at h; exact ⟨y,by simpa using h,.inl rfl⟩
 | k+1,x::l,0,y,h=>by simp [XM] at h; exact ⟨x,rfl,.inl h.symm⟩
 |
  k+1,x::l,j+1,y,h=>by
  simp only [XM,Jf] at h;obtain ⟨z,h1,h2⟩:=OL k l h;exact ⟨z,by simpa using h1,h2⟩
theorem nlc {P:Program} [Mo P] {n:Nat} {Q:Exit->Sg->Uq->Prop} {L:Sg} {B B':Uq} (i d:Nat) {T:TypeId} {xs:Uo} {it:List It} (hs:Rf it=true) (hb:Aw B i=some (.blk T xs)) (hB:Ap B i (.blk T (XM d xs))=some B') (k:AK P n Q it L B'):AK P n Q it L B:=by
 obtain ⟨rfl,hl⟩:=Nn hB;have hbi:B[i]? = some (.blk T xs):=Sv ▸ hb;refine AK.sub (λF E M a w h=>⟨E,M,?_,h.size,h.defers,h.slots⟩) hs k;rw [KP,XC hbi];refine h.hs.re (λj=>?_) (λj=>?_) (λj=>?_) λj hj=>?_
 ·by_cases e:j=i
  ·subst e;rw [Fi];obtain ⟨g,c,m,h1,cs,h2,h3⟩:=h.blk hb;refine ⟨g,c,m,h1,cs,h2,F2.of (by rw [OE]; exact h3.len) λk v x hv hx=>?_⟩;obtain ⟨y,hy,hyx⟩:=OL _ _ hx;rcases hyx with rfl | rfl
   ·exact h3.get' hv hy
   ·exact aK (h3.get' hv hy)
  ·rw [Fz _ _ e]; exact h.hs.blk j
 ·by_cases e:j=i
  ·subst e; rw [Fi,Ro hbi]; rfl
  ·rw [Fz _ _ e]
 ·by_cases e:j=i
  ·subst e; rw [Fi,Ro hbi]; rfl
  ·rw [Fz _ _ e]
 ·by_cases e:j=i
  ·subst e; rw [Ro hbi] at hj; cases hj
  ·rw [Fz _ _ e]; exact hj
theorem UY {l m:Up} (h:l=m):TV.one (LV.row l)=.one (.row m):=h ▸ rfl
theorem kG {a b:Crv} (ha:JP a) (hb:JP b) (ca:Cb a) (cb:Cb b):Ug 206 [.agg (cl a),.agg (cl b)] [pr (Sl a b)]:=by
 obtain ⟨p1,l1,b1⟩:=fE ca cb;obtain ⟨p2,l2,b2⟩:=fD ca cb;have m1:=Sy (Gg a b) (Gg a b);have m2:=Sy (Gf a b) (Gf a b);have q1:=Mf (u:=5) b1 b1 (by omega);have q2:=Mf (u:=5) b2 b2 (by omega);exact Ud func206 rfl [.k (WC ha hb ca cb),.k (WM ha hb ca cb),.k (GL p1.t p1.t (by omega) (by omega) b1 b1 (by omega)),.k (GL p2.t p2.t (by omega) (by omega) b2 b2 (by omega)),.k (zD (by omega) (by omega) (U0 q1 (by omega)) (U0 q2 (by omega)))] rfl
theorem oI {a b c d:Crv} (ha:JP a) (hb:JP b) (hc:JP c) (hd:JP d) (ca:Cb a) (cb:Cb b) (cc:Cb c) (cd:Cb d):Ug 169 [.agg (cl a),.agg (cl b),.agg (cl c),.agg (cl d)] [pr (Hl a b c d)]:=by
 have na:=Dh ha (ca.mono (by omega) (by omega));have nb:=Dh hb (cb.mono (by omega) (by omega));have nc:=Dh hc (cc.mono (by omega) (by omega));have nd:=Dh hd (cd.mono (by omega) (by omega));have s1:=mV ca cb;have s2:=mV cc cd;have s3:=lI ca cb;have s4:=lI cc cd;have da:=ca.d;have db:=cb.d;have dc:=cc.d;have dd:=cd.d;obtain ⟨t1,l1,b1⟩:=fL cc cd;obtain ⟨t2,l2,b2⟩:=fL ca cb;have k1:=Fx (Sl c d) ((a.d*b.d)*(a.d*b.d));have k2:=Fx (Sl a b) ((c.d*d.d)*(c.d*d.d));have w1:=Np (U3 a.d) (U3 b.d) (by omega) (by omega);have w2:=Np (U3 c.d) (U3 d.d) (by omega) (by omega);have w3:=Np (U3 (a.d*b.d)) (U3 (a.d*b.d)) (by omega) (by omega);have w4:=Np (U3 (c.d*d.d)) (U3 (c.d*d.d)) (by omega) (by omega);have p1:=My (p:=Sl c d) (c:=(a.d*b.d)*(a.d*b.d)) (by omega) (U0 b1 (by omega)) (by omega);have p2:=My (p:=Sl a b) (c:=(c.d*d.d)*(c.d*d.d)) (by omega) (U0 b2 (by omega)) (by omega);have p3:=GE (p:=Ft (Sl c d) ((a.d*b.d)*(a.d*b.d))) (q:=Ft (Sl a b) ((c.d*d.d)*(c.d*d.d))) (by omega) (by omega) (U0 (Gd b1 s3) (by omega)) (U0 (Gd b2 s4) (by omega));exact Ud func169 rfl [.k na,.k nb,.k w1,.k nc,.k nd,.k w2,.k (kG hc hd cc cd),.k w3,.k p1,.k (kG ha hb ca cb),.k w4,.k p2,.k p3] rfl
theorem NC {a b c d:Pt} (ha:Sc a.c) (hb:Sc b.c) (hc:Sc c.c) (hd:Sc d.c):Ug 169 [.agg (cl a.c),.agg (cl b.c),.agg (cl c.c),.agg (cl d.c)] [pr (Hl a.c b.c c.c d.c)]:=oI ha.n hb.n hc.n hd.n ha.cb hb.cb hc.cb hd.cb
set_option maxHeartbeats 1000000 in
theorem Qlv {a b c d:Pt} {t:Tm} (ha:Sc a.c) (hb:Sc b.c) (hc:Sc c.c) (hd:Sc d.c) (ht:Va t):Ug 163 [.oi 5,.agg (ta t),.one (.row [Fa a,Fa b,Fa c,Fa d])] [.agg (Da (Nu (Fq t) a b c d)),.oi 0]:=by
 have hp:=(KJ ha hb hc hd).dp;have e:Da (Nu (Fq t) a b c d)=[.int .i64 5,.int .i64 a.id,.int .i64 b.id,.int .i64 c.id,.int .i64 d.id,pl (Hl a.c b.c c.c d.c),.int .i64 (Hg (Fq t) (Hl a.c b.c c.c d.c))]:=by rw [Nu]
 rw [e];have cg:=TM hp ht;have cf:=NC ha hb hc hd;generalize Hl a.c b.c c.c d.c=F at *;refine Fw func163 rfl ?_;refine Ua [.k Qao,.f rfl] rfl ?_;refine Uf (S:=Nat) 3 (λL1 i=>(22,.v (.oi i))::L1) (λi=>[.blk 177 (ta t),.blk 120 zCt,.blk 120 [.int .i64 5,.int .i64 (if 1<=i then a.id else 0),.int .i64 (if 2<=i then b.id else 0),.int .i64 (if 3<=i then c.id else 0),.int .i64 (if 4<=i then d.id else 0),.nils,.int .i64 0]]) (λi=>4-i) (λi=>i<=4) 0 (Qh _) rfl rfl λi hi=>?_
 rcases (show i=0\/i=1\/i=2\/i=3\/i=4 by omega) with rfl | rfl | rfl | rfl | rfl
 ·refine Ua [.t rfl,.x (i:=0) (xs:=Fa a) rfl,.i 0] rfl ?_ (by simp [Uz]);exact rd 1 (by omega) (by omega) rfl
 ·refine Ua [.t rfl,.x (i:=1) (xs:=Fa b) rfl,.i 1] rfl ?_ (by simp [Uz]);exact rd 2 (by omega) (by omega) rfl
 ·refine Ua [.t rfl,.x (i:=2) (xs:=Fa c) rfl,.i 2] rfl ?_ (by simp [Uz]);exact rd 3 (by omega) (by omega) rfl
 ·refine Ua [.t rfl,.x (i:=3) (xs:=Fa d) rfl,.i 3] rfl ?_ (by simp [Uz]);exact rd 4 (by omega) (by omega) rfl
 ·exact Uc [.f rfl,.f rfl,.f rfl,.f rfl,.f rfl,.x (i:=0) (xs:=Fa a) rfl,.x (i:=1) (xs:=Fa b) rfl,.x (i:=2) (xs:=Fa c) rfl,.x (i:=3) (xs:=Fa d) rfl,.k cf,.k cg] rfl
theorem Qst {s m:Pt×Pt} {t:Tm} (h1:Sc s.1.c) (h2:Sc s.2.c) (h3:Sc m.1.c) (h4:Sc m.2.c) (ht:Va t):U5 prog 167 [.agg (Fa m.1),.agg (Fa m.2),.one (.ow 0 0),.one (.ow 1 0),.one (.ow 2 0)] [.blk 40 (Fa s.1),.blk 40 (Fa s.2),.blk 177 (ta t)] [] [.blk 40 (Fa (Pu (Fq t) s m).1),.blk 40 (Fa (Pu (Fq t) s m).2),.blk 177 (ta t)]:=by
 have cf:=NC h1 h2 h3 h4;have cg:=TM (KJ h1 h2 h3 h4).dp ht;unfold Pu;refine Fw func167 rfl ?_;by_cases h:Hg (Fq t) (Hl s.1.c s.2.c m.1.c m.2.c)<0
 ·rw [if_pos h];exact Ue [] [0,1,2] [.k cf,.k cg,.t (decide_eq_true h)] rfl
 ·rw [if_neg h];exact Ue [] [0,1,2] [.k cf,.k cg,.f (decide_eq_false h)] rfl
theorem Qso {s m:Pt×Pt} {t:Tm} {L:List Ct} (h1:Sc s.1.c) (h2:Sc s.2.c) (h3:Sc m.1.c) (h4:Sc m.2.c) (ht:Va t) (hL:L.length<=1000000):U5 prog 170 [.agg (Fa m.1),.agg (Fa m.2),.one (.ow 0 0),.one (.ow 1 0),.one (.ow 2 0),.one (.ow 3 0)] [.blk 40 (Fa s.1),.blk 40 (Fa s.2),.blk 177 (ta t),.blk 49 [.orow 4 7 none],.row false 120 7 (U6 L)] [] [.blk 40 (Fa s.1),.blk 40 (Fa s.2),.blk 177 (ta t),.blk 49 [.orow 4 7 none],.row false 120 7 (U6 (if ZX s m=true then L++[Nu (Fq t) s.1 s.2 m.1 m.2] else L))]:=by
 have cm:=Qlv h1 h2 h3 h4 ht;have hq:∀ y∈[Da (Nu (Fq t) s.1 s.2 m.1 m.2)],y.length=7:=λy hy=>by rw [Qk.1 hy]; rfl
 have hcl:=Pa L;have hsn:U6 (L++[Nu (Fq t) s.1 s.2 m.1 m.2])=U6 L++[Da (Nu (Fq t) s.1 s.2 m.1 m.2)]:=by simp [U6]
 refine Fw func170 rfl ?_;by_cases e1:m.1.id=s.1.id
 ·by_cases e2:m.2.id=s.2.id
  ·rw [if_neg (by simp [ZX,e1,e2])];exact Ue [] [0,1,2,3,4] [.g 15 false (by simp [e1]),.f (by simp [e2])] rfl
  ·rw [if_pos (by simp [ZX,e2]),hsn];exact Ue [] [0,1,2,3,4] [.g 15 false (by simp [e1]),.t (by simp [e2]),.k cm,.s (sz:=7) hq] rfl (by simp [Uz,hcl]; omega)
 ·rw [if_pos (by simp [ZX,e1]),hsn];exact Ue [] [0,1,2,3,4] [.g 15 true (by simp [e1]),.t rfl,.k cm,.s (sz:=7) hq] rfl (by simp [Uz,hcl]; omega)
theorem SU (M:List Pt):Hz 0 M=[]:=by cases M <;> rfl
def yY (M:List Pt) (x:Pt) (i j:Nat):List (Pt×Pt):=Hz i M++((M.drop (i+1)).take j).map (λy=>(x,y))
theorem gR (M:List Pt) (x:Pt) (i:Nat):yY M x i 0=Hz i M:=by rw [yY,Vu,X5,Zw]
theorem gG {M:List Pt} {i j:Nat} {x y:Pt} (hy:(M.drop (i+1))[j]? = some y):yY M x i (j+1)=yY M x i j++[(x,y)]:=by
 unfold yY;rw [Zv,hy,Option.toList_some,Yc,Zb]; rfl
theorem aL {M:List Pt} {i j:Nat} {x:Pt} (hx:M[i]? = some x) (hj:(M.drop (i+1)).length<=j):yY M x i j=Hz (i+1) M:=by
 unfold yY;rw [Qn hj,D8 M i x hx]
theorem Qok {M:List Pt} {i j:Nat} {x:Pt} (hx:M[i]? = some x):∀ m∈yY M x i j,m.1∈M/\m.2∈M:=λm hm=>by
 rcases Qq.1 hm with h | h
 ·exact Sk _ _ m h
 ·obtain ⟨y,hy,rfl⟩:=Q9.1 h;exact ⟨Qa hx,Q3 (Qo hy)⟩
theorem Qer {l:List Pt} {t:Tm} {s0:Pt×Pt} (hl:∀ p∈l,Sc p.c) (hs:s0.1∈l/\s0.2∈l) (hn:l.length≤1000) (ht:Va t):U5 prog 166 [.one (pts l),.one (.ofn 167 [] [.ow 0 0,.ow 1 0,.ow 2 0])] [.blk 40 (Fa s0.1),.blk 40 (Fa s0.2),.blk 177 (ta t)] [] [.blk 40 (Fa (Hj (Fq t) s0 (Gl l)).1),.blk 40 (Fa (Hj (Fq t) s0 (Gl l)).2),.blk 177 (ta t)]:=by
 have hcl:=Gz l;have hsc:∀ ps:List (Pt×Pt),(∀ m∈ps,m.1∈l/\m.2∈l)->Sc (Hj (Fq t) s0 ps).1.c/\Sc (Hj (Fq t) s0 ps).2.c:=λps h=>by
  obtain ⟨h1,h2⟩:=D5 (Fq t) ps s0 hs h;exact ⟨hl _ h1,hl _ h2⟩
 show U5 prog 166 [.one (.row (Uy l)),.one (.ofn 167 [] [.ow 0 0,.ow 1 0,.ow 2 0])] _ _ _;refine Fw func166 rfl ?_;refine Ua [] rfl ?_;refine lp (S:=Nat) 3 (λL1 i=>(10,.v (.oi i))::L1) (λi=>[.blk 40 (Fa (Hj (Fq t) s0 (Hz i l)).1),.blk 40 (Fa (Hj (Fq t) s0 (Hz i l)).2),.blk 177 (ta t)]) (λi=>l.length-i) (λi=>i<=l.length) 0 (Qh _) rfl (λ_ _=>rfl) (by rw [SU]; rfl) λi hi=>?_
 by_cases hlt:i<l.length
 ·obtain ⟨x,hx⟩:=gxE (l:=l) (i:=i) hlt;have ed1:(Uy l).drop (i+1)=Uy (l.drop (i+1)):=by simp [Uy,Vg]
  have hdl:=Gz (l.drop (i+1));have hdl2:(l.drop (i+1)).length<=1000:=by rw [Zl]; omega
  rw [<-gR l x i];refine go tt [.t (by simp [hcl]; omega),.x (So hx),.r 17 (eI (b:=((i+1:Nat):Int)) (by simp)),.i (i+1),.r 18 (UY ed1)] rfl (by simp [Uz,Gz,eq_true (p:=∀ z,z∈Uy l->z.length=ti40.sz) (YS l)]; omega) ?_;refine Uf (S:=Nat) 4 (λL1 j=>(20,.v (.oi j))::L1) (λj=>[.blk 40 (Fa (Hj (Fq t) s0 (yY l x i j)).1),.blk 40 (Fa (Hj (Fq t) s0 (yY l x i j)).2),.blk 177 (ta t),.blk 40 (Fa x)]) (λj=>(l.drop (i+1)).length-j) (λj=>j<=(l.drop (i+1)).length) 0 (Qh _) rfl rfl λj hj=>?_
  by_cases hltj:j<(l.drop (i+1)).length
  ·obtain ⟨y,hy⟩:=gxE (l:=(l.drop (i+1))) (i:=j) hltj;obtain ⟨s1,s2⟩:=hsc (yY l x i j) (Qok hx);have cn:=Qst (s:=Hj (Fq t) s0 (yY l x i j)) (m:=(x,y)) s1 s2 (hl x (Qa hx)) (hl y (Q3 (Qa hy))) ht;rw [<-jM,<-gG hy] at cn;refine go tt [.T,.x (So hy),.c [0,1,2] cn] rfl (by simp [Uz,-List.length_drop]; omega) ?_;exact rd (j+1) (by omega) hltj rfl
  ·have e:=aL hx (J4 hltj);rw [e];refine go tt [.F] rfl (by simp [Uz,-List.length_drop]; omega) ?_;exact rd (i+1) (by omega) hlt rfl
 ·obtain rfl:i=l.length:=by omega
  exact Ue [] [0,1,2] [.f (by simp [hcl])] rfl
theorem Qes {l:List Pt} {t:Tm} {s:Pt×Pt} (hl:∀ p∈l,Sc p.c) (hs:s.1∈l/\s.2∈l) (hn:l.length≤10) (ht:Va t):U5 prog 166 [.one (pts l),.one (.ofn 170 [] [.ow 0 0,.ow 1 0,.ow 2 0,.ow 3 0])] [.blk 40 (Fa s.1),.blk 40 (Fa s.2),.blk 177 (ta t),.blk 49 [.orow 4 7 none],.row false 120 7 []] [] [.blk 40 (Fa s.1),.blk 40 (Fa s.2),.blk 177 (ta t),.blk 49 [.orow 4 7 none],.row false 120 7 (U6 (Mr (Fq t) s (Gl l)))]:=by
 have hcl:=Gz l;have hpk:∀ i,i<=l.length->(Hz i l).length<=100:=λi hi=>by
  have:=KC i l;have:i*l.length<=10*10:=Zi (by omega) hn;omega
 show U5 prog 166 [.one (.row (Uy l)),.one (.ofn 170 [] [.ow 0 0,.ow 1 0,.ow 2 0,.ow 3 0])] _ _ _;refine Fw func166 rfl ?_;refine Ua [] rfl ?_;refine lp (S:=Nat) 5 (λL1 i=>(10,.v (.oi i))::L1) (λi=>[.blk 40 (Fa s.1),.blk 40 (Fa s.2),.blk 177 (ta t),.blk 49 [.orow 4 7 none],.row false 120 7 (U6 (Mr (Fq t) s (Hz i l)))]) (λi=>l.length-i) (λi=>i<=l.length) 0 (Qh _) rfl (λ_ _=>rfl) (by rw [SU]; rfl) λi hi=>?_
 by_cases hlt:i<l.length
 ·obtain ⟨x,hx⟩:=gxE (l:=l) (i:=i) hlt;have ed1:(Uy l).drop (i+1)=Uy (l.drop (i+1)):=by simp [Uy,Vg]
  have hdl:=Gz (l.drop (i+1));have hdl2:(l.drop (i+1)).length<=10:=by rw [Zl]; omega
  rw [<-gR l x i];refine go tt [.t (by simp [hcl]; omega),.x (So hx),.r 17 (eI (b:=((i+1:Nat):Int)) (by simp)),.i (i+1),.r 18 (UY ed1)] rfl (by simp [Uz,Gz,eq_true (p:=∀ z,z∈Uy l->z.length=ti40.sz) (YS l)]; omega) ?_;refine Uf (S:=Nat) 6 (λL1 j=>(20,.v (.oi j))::L1) (λj=>[.blk 40 (Fa s.1),.blk 40 (Fa s.2),.blk 177 (ta t),.blk 49 [.orow 4 7 none],.row false 120 7 (U6 (Mr (Fq t) s (yY l x i j))),.blk 40 (Fa x)]) (λj=>(l.drop (i+1)).length-j) (λj=>j<=(l.drop (i+1)).length) 0 (Qh _) rfl rfl λj hj=>?_
  by_cases hltj:j<(l.drop (i+1)).length
  ·obtain ⟨y,hy⟩:=gxE (l:=(l.drop (i+1))) (i:=j) hltj;have hdn:(Mr (Fq t) s (yY l x i j)).length<=1000000:=by
    refine Qc (IX _ _ _) ?_;unfold yY;rw [Qy,Q8,Qt];have:=hpk i hi; omega
   have cn:=Qso (s:=s) (m:=(x,y)) (L:=Mr (Fq t) s (yY l x i j)) (hl _ hs.1) (hl _ hs.2) (hl x (Qa hx)) (hl y (Q3 (Qa hy))) ht hdn;have en1:(if ZX s (x,y)=true then Mr (Fq t) s (yY l x i j)++[Nu (Fq t) s.1 s.2 x y] else Mr (Fq t) s (yY l x i j))=Mr (Fq t) s (yY l x i (j+1)):=by
    rw [gG hy];cases h:ZX s (x,y) with
    | true=>rw [if_pos rfl,Qm6 h]
    | false=>rw [if_neg (by decide),Qm5 h]
   dsimp only at cn;rw [en1] at cn;refine go tt [.T,.x (So hy),.c [0,1,2,3,4] cn] rfl (by simp [Uz,-List.length_drop]; omega) ?_;exact rd (j+1) (by omega) hltj rfl
  ·have e:=aL hx (J4 hltj);rw [e];refine go tt [.F] rfl (by simp [Uz,-List.length_drop]; omega) ?_;exact rd (i+1) (by omega) hlt rfl
 ·obtain rfl:i=l.length:=by omega
  exact Ue [] [0,1,2,3,4] [.f (by simp [hcl])] rfl
theorem AM {l:List Pt} {a:Tm} {c:Cr} {r1:Up} (hl:∀ p∈l,Sc p.c) (hn:l.length≤10) (ha:Va a):U5 prog 131 [.one (.ow 0 0),.agg (ta a)] [.blk 191 (Hq c (Uy l) r1)] [.one (.row (U6 (D7 (Fq a) l)))] [.blk 191 (Hq c (Uy l) (Uy (ZJ (Fq a) l)))]:=by
 have hcl:=Gz l;refine Fw func131 rfl ?_;by_cases h2:l.length<2
 ·obtain ⟨e1,e2⟩:=Qbw (Fq a) h2;rw [e1,e2];refine Ua [.k If] rfl ?_;refine nlc 0 13 rfl rfl rfl ?_;have hml:(l.map Fa).length=l.length:=Q8 _;exact Ue [] [0] [.T] rfl
 ·obtain ⟨x,y,l',rfl⟩:=Qve h2;obtain ⟨l,hle⟩:=nmE (x::y::l');have hx0:(Uy l)[0]? = some (Fa x):=by rw [hle]; rfl
  have hy0:(Uy l)[1]? = some (Fa y):=by rw [hle]; rfl
  have hxl:x∈l:=by rw [hle]; simp
  have hyl:y∈l:=by rw [hle]; simp
  have eB:ZJ (Fq a) (x::y::l')=[(Hj (Fq a) (x,y) (Gl l)).1,(Hj (Fq a) (x,y) (Gl l)).2]:=by rw [hle]; rfl
  have eC:D7 (Fq a) (x::y::l')=Mr (Fq a) (Hj (Fq a) (x,y) (Gl l)) (Gl l):=by rw [hle]; rfl
  rw [eB,eC];rw [<-hle] at hl hn h2 hcl ⊢;have c1:=Qer (t:=a) (s0:=(x,y)) hl ⟨hxl,hyl⟩ (by omega) ha;obtain ⟨n1,n2⟩:=D5 (Fq a) (l:=l) (Gl l) (x,y) ⟨hxl,hyl⟩ (Sk _ _);generalize Hj (Fq a) (x,y) (Gl l)=s at *;have c2:=Qes (t:=a) (s:=s) hl ⟨n1,n2⟩ hn ha;have hml:(l.map Fa).length=l.length:=Q8 _;exact Ue [5] [0] [.k If,.F,.x hx0,.x hy0,.c [2,3,1] c1,.oc 8 0 120 7,.c [2,3,1,4,5] c2] rfl
theorem Qr9 {T:Nat} {t:Rat} {Bc:Tm->List Ct} {Br:Tm->Up} {r0:Up} (ht:Qs 1640000 t) (hB:BuildOk Bc)
 (hb:∀ a c r1,Va a->CrOk c->U5 prog 131 [.one (.ow 0 0),.agg (ta a)] [.blk T (Hq c r0 r1)] [.one (.row (U6 (Bc a)))] [.blk T (Hq c r0 (Br a))])
 {K:Nat} {c c':Cr} {r1 r1':Up} {n:Int} (hc:CrOk c) (hev:0<=c.ev/\c.ev+K<=1000000000000000000) (h:Fj c.now t<=0) (hg:KU Bc Br t K c r1 0=some (c',r1',n)) :
 U5 prog 365 [.one (.ow 0 0),.agg (rl t),.one (.ofn 131 [.ow 0 0] [])] [.blk T (Hq c r0 r1)] [.oi n,.oi 0] [.blk T (Hq c' r0 r1')]:=by
 have qt:Qb t:=ht.mono (by decide);have c1:=C6 hc.n.tb qt;refine Fw func365 rfl ?_;refine Ua [.c [0] (O6 hc.n),.k c1,.f (by simpa using h)] rfl ?_;refine Uf (S:=Nat×Cr×Up×Int) 2 (λL1 s=>(8,.v (.oi s.2.2.2))::L1) (λs=>[.blk T (Hq s.2.1 r0 s.2.2.1),.blk 42 (rl t)]) (λs=>s.1) (λs=>CrOk s.2.1/\(0<=s.2.1.ev/\s.2.1.ev+s.1<=1000000000000000000)/\(0<=s.2.2.2/\s.2.2.2+s.1<=1000000000000000000)/\KU Bc Br t s.1 s.2.1 s.2.2.1 s.2.2.2=some (c',r1',n)) (K,c,r1,0) ⟨hc,hev,⟨Int.le_refl 0,by dsimp only; omega⟩,hg⟩ rfl rfl λ⟨k,x,r,m⟩ ⟨j1,j2,j3,j4⟩=>?_
 dsimp only at j1 j2 j3 j4 ⊢;cases k with
 | zero=>cases j4
 |
  succ k =>
  simp only [KU] at j4;obtain ⟨ws,w1,j4⟩:=Qd.1 j4;obtain ⟨o,o1,j4⟩:=Qd.1 j4;have cn:=PP (T:=T) (r0:=r0) (r1:=r) j1 w1 o1;have ca:=VF (U3 t.num) (U3 (t.den:Int)) (Qc ht.1 (by decide)) (Qc ht.2 (by decide)) (by rw [Ss]; exact ht.mono (by decide));rw [Ss] at ca;cases o with
  |
   none =>
   injection j4 with j4; injection j4 with e1 j4; injection j4 with e2 e3;subst e1; subst e2; subst e3;exact Ue [] [0] [.c [0] cn,.g 25 true rfl,.t rfl,.k ca] rfl
  |
   some a =>
   have ha:=DC j1 w1 o1;dsimp only at j4;have cc:=C6 ha.tb qt;by_cases h0:0<Fj a t
   ·rw [if_pos h0] at j4;injection j4 with j4; injection j4 with e1 j4; injection j4 with e2 e3;subst e1; subst e2; subst e3;exact Ue [] [0] [.c [0] cn,.g 25 false rfl,.k cc,.t (by simpa using h0),.k ca] rfl
   ·rw [if_neg h0] at j4;obtain ⟨w2,l1,j4⟩:=Qd.1 j4;have j1':=Ec j1 w1;have cl:=Sw (b:=a) (l:=[]) ha.tb (λt ht=>by cases ht) (by decide) rfl;have cb:=hb a { x with l:=ws } r ha j1';have cy:=WB (T:=T) (r0:=r0) (r1:=Br a) j1' ha (hB.p a ha) (hB.n a ha) l1;have hf:decide (0<Fj a t)=false:=by simpa using h0
    refine Ub [.c [0] cn,.g 25 false rfl,.k cc,.f hf,.k cl,.c [0] cb,.c [0] cy] rfl ?_;exact rd (k,⟨a,w2,x.ev+1⟩,Br a,m+1) (by dsimp only; omega) ⟨lay_ok _ j1' ha (hB.p a ha) (hB.n a ha) l1,by dsimp only; omega,by dsimp only; omega,j4⟩ rfl
end Orr
namespace Orr
open Go
def Rz:Ul->Nat
 | []=>0
 | x::l=>x+10000*Rz l
def Dg (l:Ul):Prop:=∀ x∈l,x<10000
def Ge (x:Nat):Ul:=if h:x=0 then [] else (x % 10000)::Ge (x / 10000)
termination_by x
decreasing_by omega
theorem Hy:Ge 0=[]:=by unfold Ge; simp
theorem YZ {x:Nat} (h:x≠0):Ge x=(x % 10000)::Ge (x / 10000):=by rw [Ge]; simp [h]
theorem H8 (x:Nat):Rz (Ge x)=x:=by
 induction x using Nat.strongRecOn with
 |
  _ x ih =>
  rcases Q0 x with h | h
  ·subst h; rw [Hy]; rfl
  ·rw [YZ (by omega)];simp only [Rz];rw [ih _ (by omega)]; omega
theorem B7 (x:Nat):Dg (Ge x):=by
 induction x using Nat.strongRecOn with
 |
  _ x ih =>
  rcases Q0 x with h | h
  ·subst h; rw [Hy]; intro y hy; cases hy
  ·rw [YZ (by omega)];intro y hy;rcases Qm.1 hy with rfl | hy
   ·omega
   ·exact ih _ (by omega) y hy
theorem MZ {x:Nat}:(Ge x).length=0↔x=0:=by
 constructor
 ·intro h;have h0:=Qj h;have:=H8 x;rw [h0] at this;exact this.symm
 ·rintro rfl; rw [Hy]; rfl
theorem A5 {x:Nat} (h:x≠0):(Ge (x / 10000)).length+1=(Ge x).length:=by rw [YZ h]; rfl
theorem Qay {x:Nat} (h:x<1000000000000):(Ge x).length<=3:=by
 by_cases h0:x=0
 ·subst h0; rw [Hy]; exact Qh _
 ·have h1:=A5 h0;by_cases h2:x / 10000=0
  ·rw [h2,Hy] at h1; simp at h1; omega
  ·have h3:=A5 h2;by_cases h4:x / 10000 / 10000=0
   ·rw [h4,Hy] at h3; simp at h3; omega
   ·have h5:=A5 h4;have h6:x / 10000 / 10000 / 10000=0:=by omega
    rw [h6,Hy] at h5; simp at h5; omega
theorem Mg (x:Nat):(Ge x).length<=sz x:=by
 induction x using Nat.strongRecOn with
 |
  _ x ih =>
  by_cases h0:x=0
  ·subst h0; rw [Hy]; exact Qh _
  ·have h1:=A5 h0;have h2:=ih (x / 10000) (by omega);have h3:sz (x / 10000)+1<=sz x:=by
    have h4:x<2^sz x:=UC x;rcases hs:sz x with _ | k
    ·rw [hs] at h4; simp at h4; omega
    ·rw [hs] at h4;have:sz (x / 10000)<=k:=Bm.2 (by rw [Zq] at h4; omega);omega
   omega
theorem Pd (a b:Ul):Rz (a++b)=Rz a+10000^a.length*Rz b:=by
 induction a with
 | nil=>simp [Rz]
 |
  cons x a ih =>
  simp only [Xb,Rz,ih,Q7,Zq];rw [Xi,<-Xv,Zp 10000 (10000^a.length)]; omega
theorem Tn {l:Ul} {i x:Nat} (h:l[i]? = some x):Rz (l.take (i+1))=Rz (l.take i)+10000^i*x:=by
 have hi:=(Qf.1 h).1;rw [show l.take (i+1)=l.take i++[x] by rw [Zv,h]; rfl,Pd,Qt,Zy (by omega)];simp [Rz]
theorem BO:∀ {l:Ul},Dg l->Rz l<10000^l.length
 | [],_=>by simp [Rz]
 |
  x::l,h=>by
  have h1:=h x (Qx ..);have h2:=BO (l:=l) λy hy=>h y (Qg _ hy)
  simp only [Rz,Q7,Zq]; omega
theorem CQ:∀ {l:Ul},(∀ x∈l,x=0)->Rz l=0
 | [],_=>rfl
 |
  x::l,h=>by
  have h1:=h x (Qx ..);have h2:=CQ (l:=l) λy hy=>h y (Qg _ hy)
  simp [Rz,h1,h2]
theorem Dg.take {l:Ul} (h:Dg l) (k:Nat):Dg (l.take k):=λx hx=>h x (Qo hx)
theorem Dg.snoc {l:Ul} (h:Dg l) {x:Nat} (hx:x<10000):Dg (l++[x]):=by
 intro y hy;rcases Qq.1 hy with hy | hy
 ·exact h y hy
 ·rw [Qk.1 hy]; exact hx
theorem Dg.nil:Dg []:=λx h=>by cases h
theorem pU:∀ {l:Ul},Dg l->(∀ x,l[l.length-1]? = some x->x≠0)->l=Ge (Rz l)
 | [],_,_=>by rw [Rz,Hy]
 |
  x::l,h,hl=>by
  have h1:=h x (Qx ..);have h2:l=Ge (Rz l):=pU (λy hy=>h y (Qg _ hy)) λy hy=>hl y (by
   rcases l with _ | ⟨z,t⟩
   ·simp at hy
   ·simpa using hy)
  have h3:x+10000*Rz l≠0:=by
   intro e;have hx:x=0:=by omega
   have hd:Rz l=0:=by omega
   rw [hd,Hy] at h2;subst h2;exact hl x rfl hx
  simp only [Rz];rw [YZ h3,show (x+10000*Rz l) % 10000=x by omega,show (x+10000*Rz l) / 10000=Rz l by omega,<-h2]
theorem wF {l:Ul} {m:Nat} (hd:Dg l) (hm:m<=l.length) (h1:∀ j x,m<=j->l[j]? = some x->x=0) (h2:0<m->∃ y,l[m-1]? = some y/\y≠0):l.take m=Ge (Rz l):=by
 have e:Rz l=Rz (l.take m):=by
  conv=>lhs; rw [<-Zk m l,Pd]
  rw [CQ (l:=l.drop m) λx hx=>?_]
  ·omega
  ·obtain ⟨j,hj⟩:=Zj.1 hx;rw [Xc] at hj;exact h1 (m+j) x (by omega) hj
 rw [e];refine pU (hd.take m) λx hx=>?_
 have hl:(l.take m).length=m:=by rw [Qt]; omega
 rw [hl] at hx;rcases Q0 m with h0 | h0
 ·subst h0; simp at hx
 ·obtain ⟨y,hy,hy0⟩:=h2 h0;rw [Kd (by omega),hy] at hx;injection hx with hx; rw [<-hx]; exact hy0
theorem IY {o c i d m P V:Nat} (hP:P=10000^i) (h:o+c*P=V):o+P*((c+d*m) % 10000)+(c+d*m) / 10000*(P*10000)=V+P*d*m:=by
 have e:=Xd (c+d*m) 10000;generalize (c+d*m) / 10000=q at *;generalize (c+d*m) % 10000=r at *;have e2:P*(c+d*m)=P*(10000*q+r):=by rw [e]
 grind
theorem ZB {x y:Nat} (h:x<=y):(Ge x).length<=(Ge y).length:=by
 induction y using Nat.strongRecOn generalizing x with
 |
  _ y ih =>
  by_cases h0:x=0
  ·subst h0; rw [Hy]; exact Qh _
  ·have h1:=A5 h0;have h2:=A5 (x:=y) (by omega);have:=ih (y / 10000) (by omega) (x:=x / 10000) (Nat.div_le_div_right h);omega
theorem Qax {n x:Nat} (h:10000^n<=x):n+1<=(Ge x).length:=by
 have h1:=BO (B7 x);rw [H8] at h1;have h2:n<(Ge x).length:=(Nat.pow_lt_pow_iff_right (by decide)).1 (Z3 h h1);omega
theorem wW {x y:Nat} (h:(Ge x).length<(Ge y).length):x<y:=by
 rcases Za x y with h1 | h1
 ·exact h1
 ·have:=ZB h1; omega
theorem Qaz {k y:Nat} (h:y<10000^k):(Ge y).length<=k:=by
 induction k generalizing y with
 |
  zero =>
  have:y=0:=by simpa using h
  subst this; rw [Hy]; exact Ql _
 |
  succ k ih =>
  by_cases hy0:y=0
  ·subst hy0; rw [Hy]; exact Qh _
  ·have h8:=A5 hy0;have:=ih (y:=y / 10000) (by rw [Zq] at h; omega);omega
theorem Qfj {o:Ul} (h:Dg o) (hl:o.length<=(Ge (Rz o)).length):o=Ge (Rz o):=by
 refine pU h λx hx h0=>?_
 subst h0;have hne:0<o.length:=by
  rcases o with _ | ⟨a,o⟩
  ·simp at hx
  ·simp
 have h1:Rz o=Rz (o.take (o.length-1)):=by
  have:=Tn hx;rw [show o.length-1+1=o.length by omega,Q5] at this;omega
 have h2:=BO (h.take (o.length-1));rw [<-h1,Qt,Zy (by omega)] at h2;have:=Qaz h2;omega
theorem ZL {l:Ul} {j d:Nat} (h:l[j]? = some d):Rz (l.drop j)=d+10000*Rz (l.drop (j+1)):=by
 obtain ⟨hj,he⟩:=Qf.1 h;rw [Zu hj,he]; rfl
theorem HV {l:Ul} {j y:Nat} (h:j<l.length):(l.set j y).drop j=y::l.drop (j+1):=by
 rw [Zu (by simpa using h)];simp only [List.getElem_set_self];rw [List.drop_set_of_lt (by omega)]
theorem Dg.set {l:Ul} (h:Dg l) {j y:Nat} (hy:y<10000):Dg (l.set j y):=by
 intro x hx;rcases J8 hx with hx | rfl
 ·exact h x hx
 ·exact hy
theorem Dg.zeros (n:Nat):Dg (List.replicate n 0):=by
 intro x hx; rw [Zx hx]; decide
theorem wR {V kd d:Nat} (hk:0<kd):(d+10000*V) / kd=(V % kd*10000+d) / kd+10000*(V / kd)/\(d+10000*V) % kd=(V % kd*10000+d) % kd/\(d<10000->(V % kd*10000+d) / kd<10000):=by
 have e:=Xd V kd;have e2:d+10000*V=(V % kd*10000+d)+kd*(10000*(V / kd)):=by
  conv=>lhs; rw [<-e]
  grind
 refine ⟨?_,?_,λhd=>?_⟩
 ·rw [e2,Wd _ _ hk]
 ·rw [e2,V9]
 ·have:=Z5 V hk;exact (Vv hk).2 (by grind)
theorem MX (l:Ul) (j:Nat) (h:j<=l.length):Rz l=Rz (l.take j)+10000^j*Rz (l.drop j):=by
 conv=>lhs; rw [<-Zk j l,Pd]
 rw [Qt,Zy h]
theorem BD {a b:Ul} {j d e:Nat} (ha:Dg a) (hd:a[j]? = some d) (he:b[j]? = some e) (hs:a.drop (j+1)=b.drop (j+1)) (h:d<e):Rz a<Rz b:=by
 have h1:=(Qf.1 hd).1;have h2:=(Qf.1 he).1;rw [MX a j (by omega),MX b j (by omega),ZL hd,ZL he,hs];have h3:=BO (ha.take j);rw [Qt,Zy (by omega)] at h3;generalize 10000^j=P at *;have h4:P*(d+10000*Rz (b.drop (j+1)))+P<=P*(e+10000*Rz (b.drop (j+1))):=by
  rw [<-Nat.mul_succ]; exact Zt _ (by omega)
 omega
def dl (l:Ul):LV:=.row (l.map λ(x:Nat)=>[.int .i64 (x:Int)])
theorem Tp (l:Ul):(l.map λ(x:Nat)=>[LV.int .i64 (x:Int)]).length=l.length:=by simp
theorem Gx {l:Ul} {i x:Nat} (h:l[i]? = some x):(l.map λ(x:Nat)=>[LV.int .i64 (x:Int)])[i]? = some [.int .i64 (x:Int)]:=by rw [Q6,h]; rfl
abbrev nd (x:Nat):LV:=dl (Ge x)
end Orr
namespace Orr
open Go Go.Proofs Tryz
set_option maxRecDepth 10000
abbrev Bt (l:Ul):Up:=l.map λ(x:Nat)=>[.int .i64 (x:Int)]
theorem Qta (l:Ul):∀ c∈Bt l,c.length=1:=λc hc=>by obtain ⟨x,_,rfl⟩:=Q9.1 hc; rfl
theorem GO {l:Ul} (hd:Dg l):Ug 153 [.one (.row (Bt l))] [.one (nd (Rz l))]:=by
 refine Fw func153 rfl (ln 0 rfl rfl λhl=>?_);rw [Q8] at hl;refine Ua [] rfl ?_;refine lp (S:=Nat) 0 (λL1 n=>(3,.v (.oi n))::L1) (λ_=>[]) id (λn=>n<=l.length/\∀ j x,n<=j->l[j]? = some x->x=0) (Bt l).length ⟨by simp,λj x h1 h2=>by
  have:=(Qf.1 h2).1; simp at h1; omega⟩ rfl (λ_ _=>rfl) rfl λn ⟨h1,h2⟩=>?_
 cases n with
 | zero=>exact Uc [.g 8 false (by simp),.f rfl,.i 0] rfl (by have:=wF hd h1 h2 (λh=>by omega); unfold nd; rw [<-this]; simp [dl]) (by simp [Uz])
 |
  succ n =>
  obtain ⟨x,hx⟩:=gxE (l:=l) (i:=n) (by omega);by_cases h0:x=0
  ·refine Ub [.g 8 true (by simp),.r 11 (v:=.oi n) (by simp),.x (Gx hx),.t (by simp [h0]),.r 17 (v:=.oi n) (by simp)] rfl ?_;exact rd n (by simp) ⟨by omega,λj y h3 h4=>by
    rcases Vk h3 with rfl | h3
    ·rw [hx] at h4; injection h4 with h4; rw [<-h4,h0]
    ·exact h2 j y h3 h4⟩ rfl
  ·exact Uc [.g 8 true (by simp),.r 11 (v:=.oi n) (by simp),.x (Gx hx),.f (by simp [h0]),.i (n+1)] rfl (by have:=wF hd h1 h2 (λ_=>⟨x,hx,h0⟩); unfold nd; rw [<-this]; simp [dl,List.map_take]) (by simp [Uz] <;> omega)
theorem dT {x kd:Nat} (hxs:sz x<=100000000) (hk:0<kd/\kd<=65536):Ug 115 [.one (nd x),.oi kd] [.one (nd (x / kd)),.oi ((x % kd:Nat):Int)]:=by
 have hln:=Qc (Mg x) hxs;obtain ⟨l,hl⟩:=nmE (Ge x);have hx:Rz l=x:=by rw [hl,H8]
 have hd:Dg l:=by rw [hl]; exact B7 x
 show Ug 115 [.one (.row (Bt (Ge x))),.oi kd] _;rw [<-hl] at hln ⊢;rw [<-hx];have hll:=Tp l;refine Fw func115 rfl ?_;refine Ub [.i (Bt l).length,.i (Bt l).length] rfl ?_;rw [hll,show List.replicate l.length [LV.int .i64 0]=Bt (List.replicate l.length 0) from by simp [Bt]];refine Uf (S:=Nat×Ul×Nat) 1 (λL1 s=>(8,.v (.oi ((s.1:Int)-1)))::(7,.v (.oi (s.2.2:Int)))::L1) (λs=>[.row false 3 1 (Bt s.2.1)]) (λs=>s.1) (λs=>s.1<=l.length/\s.2.1.length=l.length/\Dg s.2.1/\Rz (s.2.1.drop s.1)=Rz (l.drop s.1) / kd/\s.2.2=Rz (l.drop s.1) % kd) (l.length,List.replicate l.length 0,0) ⟨Ql _,by simp,Dg.zeros _,by simp [Rz],by simp [Rz]⟩ rfl rfl λ⟨k,o,R⟩ ⟨j1,j2,j3,j4,hR⟩=>?_
 dsimp only at j1 j2 j3 j4 hR ⊢;cases k with
 |
  zero =>
  have cc:=GO j3;rw [X2,X2] at j4;rw [j4] at cc;exact Uc [.f (by simp),.k cc] rfl (by rw [hR,X2]) trivial
 |
  succ k =>
  obtain ⟨d,hdk⟩:=gxE (l:=l) (i:=k) (by omega);have hd0:=hd d (Qa hdk);have hdd:=ZL hdk;obtain ⟨s1,s2,s3⟩:=wR (V:=Rz (l.drop (k+1))) (kd:=kd) (d:=d) hk.1;rw [<-hdd] at s1 s2;have hr:=Z5 (Rz (l.drop (k+1))) hk.1;rw [<-hR] at s1 s2 s3 hr;have e:((k+1:Nat):Int)-1=(k:Int):=by omega
  have htd:((R:Int)*10000+(d:Int)).tdiv (kd:Int)=(((R*10000+d) / kd:Nat):Int):=rfl;have hle:=Jy (R*10000+d) kd;have htb:0<=((R:Int)*10000+(d:Int)).tdiv (kd:Int)/\((R:Int)*10000+(d:Int)).tdiv (kd:Int)<=655369999:=by
   rw [htd]; revert hle; generalize (R*10000+d) / kd=Q; intro hle; omega
  rw [e];refine Ub [.t (by simp),.x (Gx hdk),.r 26 (eI (b:=((R*10000+d:Nat):Int)) (by omega)),.r 31 (eI (b:=(((R*10000+d) / kd:Nat):Int)) (by rfl)),.i k,.r 35 (eI (b:=(((R*10000+d) % kd:Nat):Int)) (by rfl))] rfl ?_;exact rd (k,o.set k ((R*10000+d) / kd),(R*10000+d) % kd) (by dsimp only; omega) ⟨by dsimp only; omega,by simp [j2],j3.set (s3 hd0),by dsimp only; rw [HV (by omega)]; simp only [Rz]; rw [j4,s1],by dsimp only; exact s2.symm⟩ (by simp [Bt,List.map_set]; rfl)
theorem Qva (x k:Nat):sz (x / k)<=sz x:=Su (Jy _ _)
theorem mG {x y:Nat} {o:Ul} (h:Fy x=o++Fy y) (h0:y≠0):Fy x=(o++[y % 4294967296])++Fy (y / 4294967296):=by
 rw [h,En h0]; simp
theorem Qnt (o:Ul) (z:Nat):lm (o++[z])=lm o++[[.int .u32 (z:Int)]]:=by simp [lm]
theorem Qwo {x:Nat} (hx:sz x<=100000000):Ug 72 [.one (nd x)] [lr (Fy x)]:=by
 have hlx:=Rt hx;refine Fw func72 rfl ?_;refine Ua [.o 3 124 1] rfl ?_;refine Uf (S:=Nat×Ul) 1 (λL1 s=>(0,.v (.one (nd s.1)))::(3,.v (.one (.orow 0 1 none)))::L1) (λs=>[.row false 124 1 (lm s.2)]) (λs=>s.1) (λs=>Fy x=s.2++Fy s.1/\s.1<=x) (x,[]) ⟨rfl,Ql _⟩ rfl rfl λ⟨y,o⟩ ⟨j1,j2⟩=>?_
 dsimp only at j1 j2 ⊢;by_cases h0:y=0
 ·subst h0;rw [G7,Zw] at j1;rw [j1];exact Uc [.f (by simp [Hy])] rfl
 ·have hs:=mG j1 h0;have hsy:sz y<=100000000:=Qc (Su j2) hx;have c1:=dT (x:=y) (kd:=65536) hsy (by decide);have c2:=dT (x:=y / 65536) (kd:=65536) (Qc (Qva _ _) hsy) (by decide);have hl:(Ge y).length≠0:=λh=>h0 (MZ.1 h)
  have ol:o.length<=(Fy x).length:=by rw [j1]; simp
  have e:y / 65536 % 65536*65536+y % 65536=y % 4294967296:=by omega
  have e2:y / 65536 / 65536=y / 4294967296:=by omega
  refine go tt [.t (by simp; omega),.k c1,.k c2,.r 26 (E6 (b:=((y % 4294967296:Nat):Int)) (by omega)),.s (sz:=1) (l:=[[.int .u32 ((y % 4294967296:Nat):Int)]]) (λc hc=>by rw [Qk.1 hc]; rfl)] rfl (by simp [Uz,U4]; omega) ?_;rw [<-e2] at hs;exact rd (y / 65536 / 65536,o++[y % 4294967296]) (by dsimp only; omega) ⟨hs,by dsimp only; omega⟩ (by rw [Qnt]; rfl)
abbrev ri (z:Int):Uo:=[nd z.natAbs,sg z]
theorem Qxn (b:Bool) (m:Nat):[nd m,LV.bool (b && decide (0<m))]=ri (Fb b m):=by
 simp only [ri,sg,Rl,DD]
theorem Qug (x:Nat):(0<(Ge x).length)↔0<x:=by
 have:=MZ (x:=x); omega
theorem O8 (b:Bool) (m:Nat):Ug 73 [.one (nd m),.one (.bool b)] [.agg (ri (Fb b m))]:=by
 rw [<-Qxn];have e:=Qug m;cases b with
 | false=>exact Ud func73 rfl [.g 7 false rfl] rfl
 | true=>exact Ud func73 rfl [.g 7 true rfl] rfl (by simp [e]) trivial
theorem Df {z:Int}:Ug 102 [.agg (ri z)] [.one (.bool (decide (z=0)))] :=
 Ud func102 rfl [] rfl (by have h:=MZ (x:=z.natAbs); simp only [Tp]; congr 3; rw [decide_eq_decide]; omega) trivial
theorem O7 {z:Int}:Ug 103 [.agg (ri z)] [.agg (ri (-z))]:=by
 have h:=O8 (!decide (z<0)) z.natAbs;have e:Fb (!decide (z<0)) z.natAbs=-z:=by unfold Fb; by_cases h:z<0 <;> simp [h] <;> omega
 rw [e] at h;exact Ud func103 rfl [.k h] rfl
theorem Qsm {z:Int} (hz:Fe z<=100000000):Ug 32 [.agg (ri z)] [.agg (Hh z)] :=
 Ud func32 rfl [.k (Qwo hz)] rfl
theorem eBo {a b:Bool} (h:a=b):TV.one (LV.bool a)=.one (.bool b):=h ▸ rfl
theorem A7 (l:Ul) (x:Nat):Bt (l++[x])=Bt l++[[.int .i64 (x:Int)]]:=by simp [Bt]
theorem wU {x y:Nat} {o:Ul} (h:Ge x=o++Ge y) (h0:y≠0):Ge x=(o++[y % 10000])++Ge (y / 10000):=by
 rw [h,YZ h0]; simp
theorem Qsp {b:Bool} {x:Nat} (hx:x<=4000000000000000000) (hb:b=true->0<x):Ug 33 [.oi (Fb b x)] [.agg (ri (Fb b x))]:=by
 have hl:(Ge x).length<=100:=by
  have:=Mg x;have h2:sz x<=64:=Bm.2 (by omega);omega
 have hm:=O8 b x;refine Fw func33 rfl ?_;cases b with
 |
  false =>
  show AK prog _ _ _ (VU 0 [.oi x]) [];refine Ua [.f (by simp <;> omega),.r 3 (eBo (b:=false) (by simp)),.f rfl,.o 4 3 1] rfl ?_;refine Uf (S:=Nat×Ul) 2 (λL1 s=>(0,.v (.oi (s.1:Int)))::(4,.v (.one (.orow 1 1 none)))::L1) (λs=>[.blk 58 [.nils,.bool false],.row false 3 1 (Bt s.2)]) (λs=>s.1) (λs=>Ge x=s.2++Ge s.1/\s.1<=x) (x,[]) ⟨rfl,Ql _⟩ rfl rfl λ⟨y,o⟩ ⟨j1,j2⟩=>?_
  dsimp only at j1 j2 ⊢;by_cases h0:y=0
  ·subst h0;rw [Hy,Zw] at j1;rw [<-j1];exact Uc [.f (by simp),.k hm] rfl
  ·have hs:=wU j1 h0;have ol:o.length<=(Ge x).length:=by rw [j1]; simp
   refine go tt [.t (by simp; omega),.r 18 (eI (b:=((y % 10000:Nat):Int)) (by rfl)),.s (sz:=1) (l:=[[.int .i64 ((y % 10000:Nat):Int)]]) (λc hc=>by rw [Qk.1 hc]; rfl),.r 22 (eI (b:=((y / 10000:Nat):Int)) (by rfl))] rfl (by simp [Uz,Tp]; omega) ?_;exact rd (y / 10000,o++[y % 10000]) (by dsimp only; omega) ⟨hs,by dsimp only; omega⟩ (by rw [A7]; rfl)
 |
  true =>
  show AK prog _ _ _ (VU 0 [.oi (-(x:Int))]) [];refine Ub [.f (by simp <;> omega),.r 3 (eBo (b:=true) (by simpa using hb rfl)),.t rfl,.r 0 (eI (b:=(x:Int)) (by omega)),.o 4 3 1] rfl ?_;refine Uf (S:=Nat×Ul) 2 (λL1 s=>(0,.v (.oi (s.1:Int)))::(4,.v (.one (.orow 1 1 none)))::L1) (λs=>[.blk 58 [.nils,.bool false],.row false 3 1 (Bt s.2)]) (λs=>s.1) (λs=>Ge x=s.2++Ge s.1/\s.1<=x) (x,[]) ⟨rfl,Ql _⟩ rfl rfl λ⟨y,o⟩ ⟨j1,j2⟩=>?_
  dsimp only at j1 j2 ⊢;by_cases h0:y=0
  ·subst h0;rw [Hy,Zw] at j1;rw [<-j1];exact Uc [.f (by simp),.k hm] rfl
  ·have hs:=wU j1 h0;have ol:o.length<=(Ge x).length:=by rw [j1]; simp
   refine go tt [.t (by simp; omega),.r 18 (eI (b:=((y % 10000:Nat):Int)) (by rfl)),.s (sz:=1) (l:=[[.int .i64 ((y % 10000:Nat):Int)]]) (λc hc=>by rw [Qk.1 hc]; rfl),.r 22 (eI (b:=((y / 10000:Nat):Int)) (by rfl))] rfl (by simp [Uz,Tp]; omega) ?_;exact rd (y / 10000,o++[y % 10000]) (by dsimp only; omega) ⟨hs,by dsimp only; omega⟩ (by rw [A7]; rfl)
theorem VH {n:Int} (hn:-4000000000000000000<=n/\n<=4000000000000000000):Ug 33 [.oi n] [.agg (ri n)]:=by
 have e:Fb (decide (n<0)) n.natAbs=n:=by unfold Fb; by_cases h:n<0 <;> simp [h] <;> omega
 have h:=Qsp (b:=decide (n<0)) (x:=n.natAbs) (by omega) (λh=>by have:=of_decide_eq_true h; omega);rwa [e] at h
abbrev fr (q:Rat):Uo:=ri q.num++ri (q.den:Int)
theorem A6:Ge 1=[1]:=by rw [YZ (by decide)]; rw [Hy]
theorem Ew {n:Int}:Ug 60 [.agg (ri n),.agg (ri 1)] [.agg (fr (n:Rat))]:=by
 have h0:(Bt (Ge (1:Int).natAbs))[0]? = some [LV.int .i64 1]:=by rw [show (1:Int).natAbs=1 from rfl,A6]; rfl
 have h1:decide (((Bt (Ge (1:Int).natAbs)).length:Int)=1)=true:=by rw [show (1:Int).natAbs=1 from rfl,A6]; rfl
 exact Ud func60 rfl [.k (Df (z:=1)),.f rfl,.f rfl,.g 19 true h1,.x h0,.t rfl] rfl
theorem ZT {n:Int} (hn:-4000000000000000000<=n/\n<=4000000000000000000):Ug 18 [.oi n,.oi 1] [.agg (fr (n:Rat))] :=
 Ud func18 rfl [.k (VH hn),.k (VH (n:=1) (by decide)),.k Ew] rfl
theorem Qec {q:Rat} (hq:Qs 100000000 q):Ug 17 [.agg (fr q)] [.agg (rl q)] :=
 Ud func17 rfl [.k (Qsm hq.1),.k (Qsm hq.2)] rfl
end Orr
namespace Orr
open Go Go.Proofs Tryz Orq
set_option maxRecDepth 10000
theorem Iu {a:Tm} (ha:Va a):WI a a=some 0:=by
 obtain ⟨c,c1,c2⟩:=WO ha ha;rcases c2 with ⟨_,h⟩ | ⟨e,_⟩ | ⟨_,h⟩
 ·exact absurd h λh=>Ik ha.cut ha.cut h h
 ·rw [c1,e]
 ·exact absurd h λh=>Ik ha.cut ha.cut h h
theorem Ql3 {c:Cr} {l l':List Pt} {r1:Up} {ws:List Wt} (hc:CrOk c) (hl:∀ p∈l',Sc p.c) (hn:l'.length≤1000) (h:P6 c.l c.now (Fp (O2 l' c.now))=some ws) :
 U5 prog 366 [.one (.ow 0 0),.agg [pts l'],.oi 0] [.blk 184 (Hq c (Uy l) r1)] [.oi 0] [.blk 184 (Hq ⟨c.now,ws,c.ev⟩ (Uy l') (tH l' c.now))]:=by
 have hB:=sX hl hn;have cn:=O6 (T:=184) (c:=c) (r0:=Uy l') (r1:=r1) hc.n;have cb:=AN (c:=c) (r1:=r1) hl hn hc.n;have cg:=JD (T:=184) (r0:=Uy l') (r1:=tH l' c.now) hc hc.n (Iu hc.n) (J9 0) (hB.p _ hc.n) (hB.n _ hc.n) h;refine Fw func366 rfl ?_;exact Ue [] [0] [.f rfl,.c [0] cn,.c [0] cb,.c [0] cg] rfl
theorem Qsj {c:Cr} {l s:List Pt} (hs:s.length<=1000000):U5 prog 65 [.one (.ow 0 0)] [.blk 184 (Hq c (Uy l) (Uy s))] [.one (ids (s.map (·.id)))] [.blk 184 (Hq c (Uy l) (Uy s))]:=by
 have hcl:=Gz s;refine Fw func65 rfl ?_;refine Ua [.o 3 3 1] rfl ?_;refine Uf (S:=Nat) 2 (λL1 i=>(11,.v (.oi i))::(3,.v (.one (.orow 1 1 none)))::L1) (λi=>[.blk 184 (Hq c (Uy l) (Uy s)),.row false 3 1 (((s.take i).map (·.id)).map λ(z:Int)=>[LV.int .i64 z])]) (λi=>s.length-i) (λi=>i<=s.length) 0 (Qh _) rfl rfl λi hi=>?_
 by_cases hlt:i<s.length
 ·obtain ⟨p,hp⟩:=gxE (l:=s) (i:=i) hlt;have hg:(((s.take (i+1)).map (·.id)).map λ(z:Int)=>[LV.int .i64 z])=(((s.take i).map (·.id)).map λ(z:Int)=>[LV.int .i64 z])++[[.int .i64 p.id]]:=by
   rw [Zv,hp]; simp
  refine Ub [.t (by simp [hcl]; omega),.x (So hp),.s (sz:=1) (l:=[[.int .i64 p.id]]) (λc hc=>by rw [Qk.1 hc]; rfl)] rfl ?_;exact rd (i+1) (by omega) hlt (by rw [hg]; rfl)
 ·obtain rfl:i=s.length:=by omega
  rw [Q5];exact Ue [1] [0] [.f (by simp [hcl])] rfl
theorem Qsk {lx ly:Up} {px py:Uj} {x y:LV} {d id:Int} {c:Cr} {l:List Pt} {r1:Up} {ws:List Wt} (hx:IsInts lx px) (hy:IsInts ly py) (hd:Gv x y d) (hk:Cs 4294967294 1073741824 (Crv.mk px py d)) (hll:l.length<=900)
 (he:KA l ⟨Crv.norm (Crv.mk px py d),id⟩=0) (hc:CrOk c) (hl:∀ p∈put l ⟨Crv.norm (Crv.mk px py d),id⟩,Sc p.c) (hn:(put l ⟨Crv.norm (Crv.mk px py d),id⟩).length≤1000) (h:P6 c.l c.now (Fp (O2 (put l ⟨Crv.norm (Crv.mk px py d),id⟩) c.now))=some ws) :
 U5 prog 362 [.one (.ow 0 0),.agg [.row lx,.row ly,x,y,.int .i64 id]] [.blk 184 (Hq c (Uy l) r1)] [.oi 0] [.blk 184 (Hq ⟨c.now,ws,c.ev⟩ (Uy (put l ⟨Crv.norm (Crv.mk px py d),id⟩)) (tH (put l ⟨Crv.norm (Crv.mk px py d),id⟩) c.now))]:=by
 have cp:=kV (l:=l) (id:=id) hx hy hd hk (by omega);rw [if_pos he,he] at cp;have cw:=Ql3 (l:=l) (r1:=r1) hc hl hn h;refine Fw func362 rfl ?_;obtain ⟨b,l',rfl,rfl,_⟩:=hd;exact Ue [] [0] [.k cp,.c [0] cw] rfl
theorem Qsi {t:Rat} {l:List Pt} {K:Nat} {c c':Cr} {r1 r1':Up} {n:Int} (ht:Qs 1640000 t) (hl:∀ p∈l,Sc p.c) (hn:l.length≤1000) (hc:CrOk c) (hev:0≤c.ev/\c.ev+K≤1000000000000000000) (h:Fj c.now t≤0) (hg:KU (O2 l) (tH l) t K c r1 0=some (c',r1',n)) :
 U5 prog 358 [.one (.ow 0 0),.agg (rl t)] [.blk 184 (Hq c (Uy l) r1)] [.oi n,.oi 0] [.blk 184 (Hq c' (Uy l) r1')]:=by
 have cg:=Qwf (T:=184) (r0:=Uy l) ht (sX hl hn) (λa c r1 ha _=>AN (c:=c) (r1:=r1) hl hn ha) hc hev h hg;refine Fw func358 rfl ?_;exact Ue [] [0] [.k (Nk (ht.mono (by decide))),.c [0] cg] rfl
theorem Qd4 {c:Cr} {r0 r1:Up}:U5 prog 41 [.one (.ow 0 0)] [.blk 184 (Hq c r0 r1)] [.one (.ow 1 0)] [.blk 184 (Hq c r0 r1),.blk 184 (Hq c r0 r1)]:=by
 refine Fw func41 rfl ?_;exact Ue [] [0,1] [] rfl
abbrev idl (l:Uj):Up:=l.map λ(z:Int)=>[.int .i64 z]
theorem MK {l:Uj} {i:Nat} {z:Int} (h:l[i]? = some z):(idl l)[i]? = some [.int .i64 z]:=Gt h
theorem Qd6 {a b:Uj} (ha:a.length<=1000000) (hb:b.length<=1000000):Ug 27 [.one (ids a),.one (ids b)] [.one (.bool (decide (a=b)))]:=by
 show Ug 27 [.one (.row (idl a)),.one (.row (idl b))] _;have la:(idl a).length=a.length:=by simp
 have lb:(idl b).length=b.length:=by simp
 refine Fw func27 rfl ?_;by_cases hl:a.length=b.length
 ·refine Ua [.f (by simp; omega)] rfl ?_;refine Uf (S:=Nat) 0 (λL1 i=>(5,.v (.oi i))::L1) (λ_=>[]) (λi=>a.length-i) (λi=>i<=a.length/\a.take i=b.take i) 0 ⟨Qh _,rfl⟩ rfl rfl λi ⟨hi,he⟩=>?_
  by_cases hlt:i<a.length
  ·obtain ⟨x,hx⟩:=gxE (l:=a) (i:=i) hlt;obtain ⟨y,hy⟩:=gxE (l:=b) (i:=i) (by omega);by_cases e:x=y
   ·refine Ub [.t (by simp; omega),.x (MK hx),.x (MK hy),.f (by simpa using e)] rfl ?_;exact rd (i+1) (by omega) ⟨hlt,by rw [Zv,Zv,hx,hy,he,e]⟩ rfl
   ·have hne:a≠b:=λh=>by rw [h,hy] at hx; injection hx with hx; exact e hx.symm
    exact Uc [.t (by simp; omega),.x (MK hx),.x (MK hy),.t (by simpa using e)] rfl (by simp [hne]) trivial
  ·obtain rfl:i=a.length:=by omega
   have hab:a=b:=by rw [Q5] at he; rw [he,hl,Q5]
   exact Uc [.f (by simp)] rfl (by simp [hab]) trivial
 ·have hne:a≠b:=λh=>hl (by rw [h])
  exact Uc [.t (by simp; omega)] rfl (by simp [hne]) trivial
def Pm (v n:Int):Int:=if n<1 then 0 else v.emod n
theorem Qch {v n:Int} (h:0<n):(if v.tmod n<0 then v.tmod n+n else v.tmod n)=v % n:=by
 have h3:=Vh v (show n≠0 by omega);have h4:=Yu v h;have h1:=Int.tmod_eq_emod (a:=v) (b:=n);have hn:((n.natAbs:Nat):Int)=n:=by omega
 split at h1
 ·rw [h1]; simp; omega
 ·rename_i hc;rw [h1,hn];have:v % n≠0:=λe=>hc (.inr (Ve e))
  rw [if_pos (by omega)]; omega
theorem Du {v n:Int} (hv:-9223372036854775808<=v/\v<=9223372036854775807) (hn:n<=1000000000):Ug 19 [.oi v,.oi n] [.oi (Pm v n)]:=by
 unfold Pm;by_cases h:n<1
 ·rw [if_pos h];exact Ud func19 rfl [.t (by simpa using h)] rfl
 ·rw [if_neg h];have e:=Qch (v:=v) (n:=n) (by omega);have h3:=Vh v (show n≠0 by omega);have h4:=Yu v (show 0<n by omega);show Ug 19 [.oi v,.oi n] [.oi (v % n)];by_cases h0:v.tmod n<0
  ·rw [if_pos h0] at e;have b:-n<=v.tmod n:=by omega
   exact Ud func19 rfl [.f (by simpa using h),.t (by simpa using h0)] rfl (by rw [e]) (by simp [Uz]; omega)
  ·rw [if_neg h0] at e;exact Ud func19 rfl [.f (by simpa using h),.f (by simpa using h0)] rfl (by rw [e]) (by simp [Uz]; omega)
end Orr
namespace Orr
open Go Go.Proofs Tryz Orq
theorem rG {x y:Int} (hx:-9223372036854775808<=x/\x<=9223372036854775807) (hy:-9223372036854775808<=y/\y<=9223372036854775807):Sc (Ou x y):=⟨Crv.nml _,((wJ hx hy).norm (by decide)).mono (by decide) (by decide)⟩
theorem Sc.pt {p:Pt} (h:Sc p.c):oY 4294967294 1073741824 p:=⟨h.n,h.c.mono (by decide) (by decide)⟩
end Orr
namespace Orr
open Go Go.Proofs Tryz Orq
set_option maxRecDepth 10000
def zP (l:List Pt) (a:Tm):List Ct:=D7 (Fq a) l
abbrev brP (l:List Pt) (a:Tm):Up:=Uy (ZJ (Fq a) l)
theorem cN {l:List Pt} {a:Tm}:∀ x∈zP l a,x.p∈EB l:=λx hx=>by
 match l,hx with
 |
  u::v::l',hx =>
  unfold zP at hx;simp only [D7] at hx;obtain ⟨h3,h4⟩:=D5 (Fq a) (l:=u::v::l') (Gl (u::v::l')) (u,v) ⟨by simp,by simp⟩ (Sk _ _);obtain ⟨m,hm,rfl⟩:=IJ hx;obtain ⟨h1,h2⟩:=Sk _ _ m hm;rw [DF];exact NW h3 h4 h1 h2
theorem Qc8 {l:List Pt} (hl:∀ p∈l,Sc p.c) (hn:l.length≤10):BuildOk (zP l) :=
 ⟨λ_ _ x hx=>WR hl _ (cN x hx),λa _=>by
  have:=qZ (Fq a) l;have:l.length*l.length<=10*10:=Zi hn hn;show (D7 (Fq a) l).length<=1000;omega⟩
def Qv9 (l:List Pt) (a:Tm):Cr:=⟨a,(Fp (zP l a)).map fresh,0⟩
theorem Qly {t:Rat} {l:List Pt} {K:Nat} {c c':Cr} {r1 r1':Up} {n:Int} (ht:Qs 1640000 t) (hl:∀ p∈l,Sc p.c) (hn:l.length≤10) (hc:CrOk c) (hev:0≤c.ev/\c.ev+K≤1000000000000000000) (h:Fj c.now t≤0) (hg:KU (zP l) (brP l) t K c r1 0=some (c',r1',n)) :
 U5 prog 397 [.one (.ow 0 0),.agg (rl t)] [.blk 191 (Hq c (Uy l) r1)] [.oi n,.oi 0] [.blk 191 (Hq c' (Uy l) r1')]:=by
 have cg:=Qr9 (T:=191) (r0:=Uy l) ht (Qc8 hl hn) (λa c r1 ha _=>AM (c:=c) (r1:=r1) hl hn ha) hc hev h hg;refine Fw func397 rfl ?_;exact Ue [] [0] [.k (Nk (ht.mono (by decide))),.c [0] cg] rfl
theorem dZ {c:Cr} {r0:Up} {a b:Pt}:U5 prog 69 [.one (.ow 0 0)] [.blk 191 (Hq c r0 (Uy [a,b]))] [.oi a.id,.oi b.id,.one (.bool true)] [.blk 191 (Hq c r0 (Uy [a,b]))]:=by
 refine Fw func69 rfl ?_;exact Ue [] [0] [.f rfl,.x (l:=Uy [a,b]) (i:=0) (xs:=Fa a) rfl,.x (l:=Uy [a,b]) (i:=1) (xs:=Fa b) rfl] rfl
theorem kY {c:Cr} {r0:Up}:U5 prog 69 [.one (.ow 0 0)] [.blk 191 (Hq c r0 [])] [.oi 0,.oi 0,.one (.bool false)] [.blk 191 (Hq c r0 [])]:=by
 refine Fw func69 rfl ?_;exact Ue [] [0] [.t rfl] rfl
end Orr
namespace Orr
open Go
def PQ (q:Uj->Int) (a b:Pt):Pt×Pt:=if By q a b=true then (a,b) else (b,a)
def Og (q:Uj->Int):Nat->List Pt->List Pt×List (Pt×Pt)
 | 0,l=>(l,[])
 |
  k+1,l=>if l.length<2 then (l,[]) else
  match (Og q k (l.take ((l.length+1) / 2))).1,(Og q k (l.drop ((l.length+1) / 2))).1 with
  | a::_,b::_=>([(PQ q a b).1],(Og q k (l.take ((l.length+1) / 2))).2++(Og q k (l.drop ((l.length+1) / 2))).2++[PQ q a b])
  | _,_=>([],[])
theorem Db (q:Uj->Int):∀ (k:Nat) (l:List Pt),l.length<=k->Og q k l=Og q l.length l
 | 0,l,h=>by rw [show l.length=0 by omega]
 |
  k+1,l,h=>by
  cases hl:l.length with
  | zero=>simp [Og,hl]
  |
   succ m =>
   simp only [Og];by_cases h2:l.length<2
   ·rw [if_pos h2,if_pos h2]
   ·rw [if_neg h2,if_neg h2];have h3:(l.take ((l.length+1) / 2)).length<=m:=by rw [Qt]; omega
    have h4:(l.drop ((l.length+1) / 2)).length<=m:=by rw [Zl]; omega
    rw [Db q k (l.take ((l.length+1) / 2)) (by omega),Db q k (l.drop ((l.length+1) / 2)) (by omega),Db q m (l.take ((l.length+1) / 2)) h3,Db q m (l.drop ((l.length+1) / 2)) h4]
termination_by k=>k
def Nx (q:Uj->Int) (l:List Pt):List Pt×List (Pt×Pt):=Og q l.length l
theorem Cf (q:Uj->Int) {l:List Pt} (h:l.length<2):Nx q l=(l,[]):=by
 unfold Nx;cases hl:l.length with
 | zero=>rfl
 | succ m=>simp only [Og]; rw [if_pos h]
theorem Oh (q:Uj->Int) {l:List Pt} (h:¬l.length<2) {a b:Pt} (ha:(Nx q (l.take ((l.length+1) / 2))).1=[a]) (hb:(Nx q (l.drop ((l.length+1) / 2))).1=[b]) :
 Nx q l=([(PQ q a b).1],(Nx q (l.take ((l.length+1) / 2))).2++(Nx q (l.drop ((l.length+1) / 2))).2++[PQ q a b]):=by
 unfold Nx at ha hb ⊢;obtain ⟨m,hm⟩:∃ m,l.length=m+1:=⟨l.length-1,by omega⟩;have h3:(l.take ((l.length+1) / 2)).length<=m:=by rw [Qt]; omega
 have h4:(l.drop ((l.length+1) / 2)).length<=m:=by rw [Zl]; omega
 rw [<-Db q m _ h3] at ha ⊢;rw [<-Db q m _ h4] at hb ⊢;rw [show Og q l.length l=Og q (m+1) l by rw [hm]];simp only [Og];rw [if_neg h,ha,hb]
theorem Nb (q:Uj->Int):∀ (k:Nat) (l:List Pt),l.length≤k->0<l.length->∃ a,(Nx q l).1=[a]/\a∈l/\∀ m∈(Nx q l).2,m.1∈l/\m.2∈l
 | 0,l,h,h0=>by omega
 |
  k+1,l,h,h0=>by
  by_cases h2:l.length<2
  ·rw [Cf q h2]
   match l,h0,h2 with
   | [a],_,_=>exact ⟨a,rfl,by simp,by simp⟩
  ·obtain ⟨a,ha,hal,ham⟩:=Nb q k (l.take ((l.length+1) / 2)) (by rw [Qt]; omega) (by rw [Qt]; omega);obtain ⟨b,hb,hbl,hbm⟩:=Nb q k (l.drop ((l.length+1) / 2)) (by rw [Zl]; omega) (by rw [Zl]; omega);rw [Oh q h2 ha hb];have hd:(PQ q a b).1∈l/\(PQ q a b).2∈l:=by
    unfold PQ; split
    ·exact ⟨Qo hal,Q3 hbl⟩
    ·exact ⟨Q3 hbl,Qo hal⟩
   refine ⟨_,rfl,hd.1,λm hm=>?_⟩;rcases Qq.1 hm with hm | hm
   ·rcases Qq.1 hm with hm | hm
    ·exact ⟨Qo (ham m hm).1,Qo (ham m hm).2⟩
    ·exact ⟨Q3 (hbm m hm).1,Q3 (hbm m hm).2⟩
   ·rw [Qk.1 hm]; exact hd
theorem Dc (q:Uj->Int):∀ (k:Nat) (l:List Pt),l.length<=k->(Nx q l).2.length<=l.length-1
 | 0,l,h=>by rw [Cf q (by omega)]; simp
 |
  k+1,l,h=>by
  by_cases h2:l.length<2
  ·rw [Cf q h2]; simp
  ·obtain ⟨a,ha,_⟩:=Nb q l.length (l.take ((l.length+1) / 2)) (by rw [Qt]; omega) (by rw [Qt]; omega);obtain ⟨b,hb,_⟩:=Nb q l.length (l.drop ((l.length+1) / 2)) (by rw [Zl]; omega) (by rw [Zl]; omega);rw [Oh q h2 ha hb];have h3:=Dc q k (l.take ((l.length+1) / 2)) (by rw [Qt]; omega);have h4:=Dc q k (l.drop ((l.length+1) / 2)) (by rw [Zl]; omega);rw [Qt] at h3;rw [Zl] at h4;simp only [Qy,Vr];omega
abbrev Qbq (m:Pt×Pt):Uo:=[pl m.1.c.x,pl m.1.c.y,sg m.1.c.d,mg m.1.c.d,.int .i64 m.1.id,pl m.2.c.x,pl m.2.c.y,sg m.2.c.d,mg m.2.c.d,.int .i64 m.2.id]
end Orr
namespace Orq
open Orr Go
def UN (q:Rat) (x y:Pt):Prop:=py y q<py x q\/py y q=py x q/\(px y q<px x q\/px y q=px x q/\x.id<y.id)
theorem Qg8 (q:Rat) (x:Pt):¬UN q x x:=by unfold UN; grind
theorem Qnr (q:Rat) (x y z:Pt) (h:UN q x y) (h':UN q y z):UN q x z:=by unfold UN at *; grind
theorem Qg9 {q:Rat} {x y:Pt} (h:x.id≠y.id) (h':¬UN q x y):UN q y x:=by unfold UN at *; grind
theorem oH {a:Tm} (ha:Va a) {x y:Pt} (hx:Sc x.c) (hy:Sc y.c) {q:Rat} (h1:Hg (Fq a) (Gf y.c x.c)=Fc (U7 (Gf y.c x.c) q)) (h2:Hg (Fq a) (Gg y.c x.c)=Fc (U7 (Gg y.c x.c) q)):By (Fq a) x y=true↔UN q x y:=by
 rw [RO hy hx] at h1;rw [TQ hy hx] at h2;have d1:=(Mz hy hx).dp;have d2:=(M3 hy hx).dp;unfold By;simp only [Ln];have t1:=Fu (py x q-py y q);have t2:=Fu (px x q-px y q);by_cases e1:(Gf y.c x.c).length=0
 ·rw [if_neg (by omega)];rw [Qj e1,XQ] at h1;have:py x q=py y q:=by grind
  by_cases e2:(Gg y.c x.c).length=0
  ·rw [if_neg (by omega)];rw [Qj e2,XQ] at h2;unfold UN;simp only [decide_eq_true_eq];grind
  ·rw [if_pos (by omega)];have:=(Ea ha d2 e2).2;unfold UN;simp only [decide_eq_true_eq];grind
 ·rw [if_pos (by omega)];have:=(Ea ha d1 e1).2;unfold UN;simp only [decide_eq_true_eq];grind
theorem vE {l:List Pt} (hl:∀ p∈l,Sc p.c) {a:Tm} (ha:Va a):∃ y,Fj a y=-1/\∀ q,Fj a q=-1->q≤y->∀ u∈l,∀ v∈l,(By (Fq a) u v=true↔UN q u v):=by
 obtain ⟨y,y1,y2⟩:=XZ ha (Lz l) λp hp=>(O1 hl p hp).dp
 refine ⟨y,y1,λq q1 q2 u hu v hv=>?_⟩;have h:=y2 q q1 q2;exact oH ha (hl u hu) (hl v hv) (h _ (Tv hv hu).2) (h _ (Tv hv hu).1)
theorem mM {a b:Tm} {x y:Pt} (h:Hg (Fq b) (Ah x y)=Hg (Fq a) (Ah x y)):By (Fq b) x y=By (Fq a) x y:=by
 unfold Ah Lj at h;unfold By;simp only [Ln];by_cases e1:0<(Gf y.c x.c).length
 ·rw [if_pos e1,if_pos e1]; rw [if_pos e1] at h; rw [h]
 ·rw [if_neg e1,if_neg e1]; rw [if_neg e1] at h; rw [h]
theorem Qgr {l:List Pt} {k:Nat} (h2:¬l.length<2) (hk:l.length<=k+1):(l.take ((l.length+1) / 2)).length<=k/\(l.drop ((l.length+1) / 2)).length<=k/\0<(l.take ((l.length+1) / 2)).length/\0<(l.drop ((l.length+1) / 2)).length:=by
 rw [Qt,Zl]; omega
theorem RH {sa sb:Uj->Int}:∀ (k:Nat) (l:List Pt),l.length≤k->l.Pairwise (λx y=>x.id≠y.id)->(∀ u∈l,∀ v∈l,u.id≠v.id->By sa u v=false->By sa v u=true)->(∀ u∈l,∀ v∈l,By sb v u=true->By sb u v=false)->(∀ m∈(Nx sa l).2,By sb m.1 m.2=By sa m.1 m.2)->Nx sb l=Nx sa l
 | 0,l,hk,_,_,_,_=>by rw [Cf _ (by omega),Cf _ (by omega)]
 |
  k+1,l,hk,hd,h1,h2,hm=>by
  by_cases hs:l.length<2
  ·rw [Cf _ hs,Cf _ hs]
  ·obtain ⟨k1,k2,k3,k4⟩:=Qgr hs hk;obtain ⟨a,ha,hal,_⟩:=Nb sa k (l.take ((l.length+1) / 2)) k1 k3;obtain ⟨b,hb,hbl,_⟩:=Nb sa k (l.drop ((l.length+1) / 2)) k2 k4;have hpl:=Oh sa hs ha hb;rw [hpl] at hm;have hd':=hd;rw [<-Zk ((l.length+1) / 2) l] at hd';obtain ⟨d1,d2,d3⟩:=Jj.1 hd';have i1:=RH k _ k1 d1 (λu hu v hv=>h1 u (Qo hu) v (Qo hv)) (λu hu v hv=>h2 u (Qo hu) v (Qo hv)) λm hm'=>hm m (by simp [hm'])
   have i2:=RH k _ k2 d2 (λu hu v hv=>h1 u (Q3 hu) v (Q3 hv)) (λu hu v hv=>h2 u (Q3 hu) v (Q3 hv)) λm hm'=>hm m (by simp [hm'])
   have hal':=Qo hal;have hbl':=Q3 hbl;have e:PQ sb a b=PQ sa a b:=by
    have hmem:=hm (PQ sa a b) (by simp);unfold PQ at hmem ⊢;by_cases h:By sa a b=true
    ·rw [if_pos h] at hmem ⊢;rw [if_pos (hmem.trans h)]
    ·rw [if_neg h] at hmem ⊢;have h:By sa a b=false:=by simpa using h
     have:=h2 a hal' b hbl' (hmem.trans (h1 a hal' b hbl' (d3 a hal b hbl) h));rw [if_neg (by simp [this])]
   rw [hpl,Oh sb hs (by rw [i1]; exact ha) (by rw [i2]; exact hb),i1,i2,e]
end Orq
namespace Orr
open Orq Go
def PT (l:List Pt) (a:Tm):List Ct:=(Nx (Fq a) l).2.map λm=>Dm (Fq a) m.1 m.2
def brT (l:List Pt) (a:Tm):Up×Up:=((Nx (Fq a) l).1.map Fa,(Nx (Fq a) l).2.map Qbq)
theorem XE {sg:Uj->Int} {l:List Pt}:∀ m∈(Nx sg l).2,m.1∈l/\m.2∈l:=λm hm=>by
 by_cases h:0<l.length
 ·obtain ⟨_,_,_,h3⟩:=Nb sg l.length l (Ql _) h;exact h3 m hm
 ·rw [Cf _ (by omega)] at hm; cases hm
theorem Qru {l:List Pt} (hl:∀ p∈l,Sc p.c) {a:Tm}:∀ x∈PT l a,Cp x.p:=λx hx=>by
 obtain ⟨m,hm,rfl⟩:=Q9.1 hx;obtain ⟨h1,h2⟩:=XE m hm;exact YX (Mz (hl _ h2) (hl _ h1)) (M3 (hl _ h2) (hl _ h1))
theorem sJ {l:List Pt} (hl:∀ p∈l,Sc p.c) (hn:l.length≤1000):BuildOk (PT l) :=
 ⟨λa _=>Qru hl,λa _=>by
  unfold PT; rw [List.length_map];have:=Dc (Fq a) l.length l (Ql _); omega⟩
theorem Qlb {l:List Pt} {a:Tm}:∀ x∈PT l a,x.p∈Lz l:=λx hx=>by
 obtain ⟨m,hm,rfl⟩:=Q9.1 hx;obtain ⟨h1,h2⟩:=XE m hm;show Ah m.1 m.2∈Lz l;unfold Ah Lj; split
 ·exact (Tv h2 h1).2
 ·exact (Tv h2 h1).1
theorem Qxz {l:List Pt} (hl:∀ p∈l,Sc p.c) (hn:l.length≤1000) (hd:l.Pairwise λx y=>x.id≠y.id):Stab (PT l) (brT l):=by
 refine ⟨sJ hl hn,⟨Lz l,O1 hl,λa _ x hx=>?_⟩,λa b ha hb h=>?_⟩
 ·obtain ⟨m,hm,rfl⟩:=Q9.1 hx;obtain ⟨h1,h2⟩:=XE m hm;show Ah m.1 m.2∈Lz l;unfold Ah Lj; split
  ·exact (Tv h2 h1).2
  ·exact (Tv h2 h1).1
 ·obtain ⟨y,y1,y2⟩:=vE hl ha;obtain ⟨z,z1,z2⟩:=vE hl hb;have ga:=y2 y y1 Qp;have gb:=z2 z z1 Qp;have e:Nx (Fq b) l=Nx (Fq a) l:=RH l.length l (Ql _) hd (λu hu v hv hne hf=>(ga v hv u hu).2 (Qg9 hne λh=>by
   rw [(ga u hu v hv).2 h] at hf; cases hf)) (λu hu v hv ht=>by
   cases hb':By (Fq b) u v
   ·rfl
   ·exact absurd (Qnr z u v u ((gb u hu v hv).1 hb') ((gb v hv u hu).1 ht)) (Qg8 z u)) λm hm=>mM (h (Dm (Fq a) m.1 m.2) (Q9.2 ⟨m,hm,rfl⟩))
  refine ⟨?_,by unfold brT; rw [e]⟩;unfold PT;rw [e];refine Xo λm hm=>?_
  have:=h (Dm (Fq a) m.1 m.2) (Q9.2 ⟨m,hm,rfl⟩);unfold Dm;rw [show Hg (Fq b) (Ah m.1 m.2)=Hg (Fq a) (Ah m.1 m.2) from this]
end Orr
namespace Orq
open Orr Go
def ZZ (a:Crv):Uk:=[Ft a.x a.d,Ft a.y a.d,ZU (Gk a.x a.x) (Gk a.y a.y),[a.d*a.d]]
def wX (a b c d:Crv):List Uk:=[ZZ a,ZZ b,ZZ c,ZZ d]
def VS (a b c d:Crv):Uj:=D9 4 (wX a b c d)
theorem FZ {s:Nat} {k:Crv} (hn:JP k) (hc:Cs s 3 k):(∀ p∈ZZ k,U9 p/\Bd (s+s+3) p)/\∀ (j:Nat) (p:Uj),(ZZ k)[j]? = some p->p.length≤[2,2,4,0].getD j 0+1:=by
 have l1:=Fx k.x k.d;have l2:=Fx k.y k.d;have l3:=Sy k.x k.x;have l4:=Sy k.y k.y;have l5:=XF (Gk k.x k.x) (Gk k.y k.y);have kx:=hc.lx;have ky:=hc.ly;have bx:Bd (s+s+2) (Gk k.x k.x):=Mf hc.x hc.x (by omega);have by_:Bd (s+s+2) (Gk k.y k.y):=Mf hc.y hc.y (by omega);have hd:=hn.2.2.1;have hd0:k.d*k.d≠0:=λe=>by rcases Ya.1 e with e | e <;> omega
 have td:U9 [k.d*k.d]:=by unfold U9; simp [trim,hd0]
 refine ⟨λp hp=>?_,λj p hp=>?_⟩
 ·simp only [ZZ,Qm,Ji,or_false] at hp;rcases hp with rfl | rfl | rfl | rfl
  ·exact ⟨Fv _ _,U0 (Gd hc.x hc.d) (by omega)⟩
  ·exact ⟨Fv _ _,U0 (Gd hc.y hc.d) (by omega)⟩
  ·exact ⟨Fv _ _,U0 (WS bx by_) (by omega)⟩
  ·refine ⟨td,λz hz=>?_⟩;rw [Qk.1 hz];have:=Gh k.d k.d; have:=hc.d; omega
 ·match j,hp with
  | 0,hp=>injection hp with hp; subst hp; show _<=3; omega
  | 1,hp=>injection hp with hp; subst hp; show _<=3; omega
  | 2,hp=>injection hp with hp; subst hp; show _<=5; omega
  | 3,hp=>injection hp with hp; subst hp; exact Ql _
  | j+4,hp=>simp [ZZ] at hp
theorem rP {s:Nat} {a b c d:Crv} (na:JP a) (nb:JP b) (nc:JP c) (nd:JP d) (ca:Cs s 3 a) (cb:Cs s 3 b) (cc:Cs s 3 c) (cd:Cs s 3 d):Sq (s+s+3) [2,2,4,0] 4 4 (wX a b c d):=by
 have hr:∀ r∈wX a b c d,∃ k:Crv,JP k/\Cs s 3 k/\r=ZZ k:=λr hr=>by
  simp only [wX,Qm,Ji,or_false] at hr;rcases hr with rfl | rfl | rfl | rfl
  ·exact ⟨a,na,ca,rfl⟩
  ·exact ⟨b,nb,cb,rfl⟩
  ·exact ⟨c,nc,cc,rfl⟩
  ·exact ⟨d,nd,cd,rfl⟩
 refine ⟨rfl,λr h=>?_,λr h p hp=>?_,λr h p hp=>?_,λr h j p hp=>?_⟩
 all_goals obtain ⟨k,kn,kc,rfl⟩:=hr r h
 ·rfl
 ·exact ((FZ kn kc).1 p hp).1
 ·exact ((FZ kn kc).1 p hp).2
 ·exact (FZ kn kc).2 j p hp
theorem dO {a b c d:Crv} (ha:Sc a) (hb:Sc b) (hc:Sc c) (hd:Sc d):Cp (VS a b c d):=by
 obtain ⟨h1,h2,h3⟩:=MR 4 [2,2,4,0] (wX a b c d) (by decide) rfl (by decide) (rP ha.n hb.n hc.n hd.n ha.c hb.c hc.c hd.c);exact ⟨h1,Qc h3 (by decide),U0 h2 (by decide)⟩
def ON (sg:Uj->Int) (a b c d:Pt):Ct:=⟨4,a.id,b.id,c.id,d.id,VS a.c b.c c.c d.c,Hg sg (VS a.c b.c c.c d.c)⟩
abbrev P3:=Pt×(Pt×Pt)
abbrev P4:=Pt×P3
def Lf:Nat->List Pt->List P3
 | 0,_=>[]
 | _+1,[]=>[]
 | k+1,x::l=>(Gl l).map (λm=>(x,m))++Lf k l
def Rm (l:List Pt):List P3:=Lf l.length l
def Eg:Nat->List Pt->List P4
 | 0,_=>[]
 | _+1,[]=>[]
 | k+1,x::l=>(Rm l).map (λm=>(x,m))++Eg k l
def Oo (l:List Pt):List P4:=Eg l.length l
theorem YD:∀ (l:List Pt) (i:Nat) (x:Pt),l[i]? = some x->Lf (i+1) l=Lf i l++(Gl (l.drop (i+1))).map (λm=>(x,m))
 | [],i,x,h=>by simp at h
 | y::l,0,x,h=>by simp at h; subst h; simp [Lf]
 |
  y::l,i+1,x,h=>by
  have ih:=YD l i x (by simpa using h);show (Gl l).map _++Lf (i+1) l=((Gl l).map _++Lf i l)++_;rw [ih,Zb]; rfl
theorem RP:∀ (l:List Pt) (i:Nat) (x:Pt),l[i]? = some x->Eg (i+1) l=Eg i l++(Rm (l.drop (i+1))).map (λm=>(x,m))
 | [],i,x,h=>by simp at h
 | y::l,0,x,h=>by simp at h; subst h; simp [Eg]
 |
  y::l,i+1,x,h=>by
  have ih:=RP l i x (by simpa using h);show (Rm l).map _++Eg (i+1) l=((Rm l).map _++Eg i l)++_;rw [ih,Zb]; rfl
theorem EF:∀ (k:Nat) (l:List Pt),∀ m∈Lf k l,m.1∈l/\m.2.1∈l/\m.2.2∈l
 | 0,l,m,h=>by simp [Lf] at h
 | k+1,[],m,h=>by simp [Lf] at h
 |
  k+1,x::l,m,h=>by
  rcases Qq.1 h with h | h
  ·obtain ⟨y,hy,rfl⟩:=Q9.1 h;obtain ⟨h1,h2⟩:=Sk _ _ y hy;exact ⟨Qx ..,Qg _ h1,Qg _ h2⟩
  ·obtain ⟨h1,h2,h3⟩:=EF k l m h;exact ⟨Qg _ h1,Qg _ h2,Qg _ h3⟩
theorem hQ:∀ (k:Nat) (l:List Pt),∀ m∈Eg k l,m.1∈l/\m.2.1∈l/\m.2.2.1∈l/\m.2.2.2∈l
 | 0,l,m,h=>by simp [Eg] at h
 | k+1,[],m,h=>by simp [Eg] at h
 |
  k+1,x::l,m,h=>by
  rcases Qq.1 h with h | h
  ·obtain ⟨y,hy,rfl⟩:=Q9.1 h;obtain ⟨h1,h2,h3⟩:=EF _ _ y hy;exact ⟨Qx ..,Qg _ h1,Qg _ h2,Qg _ h3⟩
  ·obtain ⟨h1,h2,h3,h4⟩:=hQ k l m h;exact ⟨Qg _ h1,Qg _ h2,Qg _ h3,Qg _ h4⟩
theorem YM {l:List Pt} (h:l.length<=6):(Rm l).length<=20/\(Oo l).length<=15:=by
 match l,h with
 | [],_=>exact ⟨Zd rfl,Zd rfl⟩
 | [_],_=>exact ⟨Zd rfl,Zd rfl⟩
 | [_,_],_=>exact ⟨Zd rfl,Zd rfl⟩
 | [_,_,_],_=>exact ⟨Zd rfl,Zd rfl⟩
 | [_,_,_,_],_=>exact ⟨Zd rfl,Zd rfl⟩
 | [_,_,_,_,_],_=>exact ⟨Zd rfl,Zd rfl⟩
 | [_,_,_,_,_,_],_=>exact ⟨Zd rfl,Zd rfl⟩
 | _::_::_::_::_::_::_::_,h=>simp at h
abbrev No:=List (Uj×LV)
def PY (sg:Uj->Int) (m:P3):Ct:=D3 sg m.1 m.2.1 m.2.2
def HQ (sg:Uj->Int) (m:P4):Ct:=ON sg m.1 m.2.1 m.2.2.1 m.2.2.2
def mK (m:P3):Uj:=[m.1.id,m.2.1.id,m.2.2.id]
def Qw9 (m:P4):Uj:=[m.1.id,m.2.1.id,m.2.2.1.id,m.2.2.2.id]
def Ar (V:List (Uj×Int)):No:=V.foldl (λM e=>Lp M e.1 (.int .i64 e.2)) []
def ZF (sg:Uj->Int) (ps:List P3):List (Uj×Int):=ps.map λm=>(mK m,(PY sg m).want)
def VY (sg:Uj->Int) (ps:List P4):List (Uj×Int):=ps.map λm=>(Qw9 m,(HQ sg m).want)
theorem cY (sg:Uj->Int) (ps:List P3) (m:P3):Ar (ZF sg (ps++[m]))=Lp (Ar (ZF sg ps)) (mK m) (.int .i64 (PY sg m).want):=by simp [Ar,ZF]
def I0 (T:No) (s:Int) (n:Uj) (F:No) (skip:Nat):No:=if ZW T (n.eraseIdx skip)*(if (3-skip) % 2=1 then -s else s)>0 then Lp F (n.eraseIdx skip) (.bool true) else F
def IS (T:No) (s:Int) (n:Uj) (F:No):No:=I0 T s n (I0 T s n (I0 T s n (I0 T s n F 0) 1) 2) 3
def I3 (T:No) (V:List (Uj×Int)):No:=V.foldl (λF e=>IS T e.2 e.1 F) []
theorem pA (sg:Uj->Int) (T:No) (ps:List P4) (m:P4):I3 T (VY sg (ps++[m]))=IS T (HQ sg m).want (Qw9 m) (I3 T (VY sg ps)):=by simp [I3,VY]
def jQ (T F:No) (m:P3):Bool:=decide (ZW T (mK m)≠0) && !(NN F (mK m))
theorem Qtn {T F:No} {ps:List P3} {m:P3} (h:jQ T F m=true):(ps++[m]).filter (jQ T F)=ps.filter (jQ T F)++[m]:=by simp [Vj,h]
theorem Qf8 {T F:No} {ps:List P3} {m:P3} (h:jQ T F m=false):(ps++[m]).filter (jQ T F)=ps.filter (jQ T F):=by simp [Vj,h]
def fJ (sg:Uj->Int) (l:List Pt):List Ct:=(Rm (Te l)).map (PY sg)++(Oo (Te l)).map (HQ sg)
def OP (sg:Uj->Int) (l:List Pt):List P3:=(Rm (Te l)).filter (jQ (Ar (ZF sg (Rm (Te l)))) (I3 (Ar (ZF sg (Rm (Te l)))) (VY sg (Oo (Te l)))))
abbrev trL (m:P3):Uo:=[.int .i64 m.1.id,.int .i64 m.2.1.id,.int .i64 m.2.2.id]
def QE (l:List P3):Up:=l.map trL
theorem rI (l:List P3):(QE l).length=l.length:=by simp [QE]
theorem OM (sg:Uj->Int) {l:List Pt} (h:l.length<=6):(OP sg l).length<=20:=by
 have hw:=Oy l;exact Qc (Yy _ _) (YM (l:=Te l) (by omega)).1
theorem Qbl (sg:Uj->Int) {l:List Pt} (h:l.length<=6):(fJ sg l).length<=35:=by
 have hw:=Oy l;obtain ⟨h1,h2⟩:=YM (l:=Te l) (by omega);unfold fJ;rw [Qy,Q8,Q8]; omega
def ES (l:List Pt) (a:Tm):List Ct:=fJ (Fq a) l
abbrev brD (l:List Pt) (a:Tm):Up:=QE (OP (Fq a) l)
def oW (l:List Pt):Uk:=(Rm (Te l)).map (λm=>He m.1.c m.2.1.c m.2.2.c)++(Oo (Te l)).map λm=>VS m.1.c m.2.1.c m.2.2.1.c m.2.2.2.c
theorem zF {l:List Pt} (hl:∀ p∈l,Sc p.c):∀ p∈oW l,Cp p:=λp hp=>by
 have hw:=λ(x:Pt) (h:x∈Te l)=>hl x (Nj h)
 rcases Qq.1 hp with hp | hp
 ·obtain ⟨m,hm,rfl⟩:=Q9.1 hp;obtain ⟨h1,h2,h3⟩:=EF _ _ m hm;exact JO (hw _ h1) (hw _ h2) (hw _ h3)
 ·obtain ⟨m,hm,rfl⟩:=Q9.1 hp;obtain ⟨h1,h2,h3,h4⟩:=hQ _ _ m hm;exact dO (hw _ h1) (hw _ h2) (hw _ h3) (hw _ h4)
theorem zH {l:List Pt} {a:Tm}:∀ x∈ES l a,x.p∈oW l:=λx hx=>by
 rcases Qq.1 hx with hx | hx
 ·obtain ⟨m,hm,rfl⟩:=Q9.1 hx;exact X6 _ (Q9.2 ⟨m,hm,rfl⟩)
 ·obtain ⟨m,hm,rfl⟩:=Q9.1 hx;exact Jc _ (Q9.2 ⟨m,hm,rfl⟩)
theorem Qc3 {l:List Pt} (h:l.length<=6):(oW l).length<=1000000:=by
 have hw:=Oy l;obtain ⟨h1,h2⟩:=YM (l:=Te l) (by omega);unfold oW;rw [Qy,Q8,Q8]; omega
theorem sQ {l:List Pt} (hl:∀ p∈l,Sc p.c) (hn:l.length≤6):BuildOk (ES l) :=
 ⟨λ_ _ x hx=>zF hl _ (zH x hx),λa _=>Qc (Qbl _ hn) (by decide)⟩
theorem Qxv {l:List Pt} (hl:∀ p∈l,Sc p.c) (hn:l.length≤6):Stab (ES l) (brD l):=by
 refine ⟨sQ hl hn,⟨oW l,zF hl,λa _=>zH⟩,λa b _ _ h=>?_⟩;have e1:∀ m∈Rm (Te l),PY (Fq b) m=PY (Fq a) m:=λm hm=>by
  have:=h (PY (Fq a) m) (X6 _ (Q9.2 ⟨m,hm,rfl⟩));have e:Hg (Fq b) (He m.1.c m.2.1.c m.2.2.c)=Hg (Fq a) (He m.1.c m.2.1.c m.2.2.c):=this;unfold PY D3; rw [e]
 have e2:∀ m∈Oo (Te l),HQ (Fq b) m=HQ (Fq a) m:=λm hm=>by
  have:=h (HQ (Fq a) m) (Jc _ (Q9.2 ⟨m,hm,rfl⟩));have e:Hg (Fq b) (VS m.1.c m.2.1.c m.2.2.1.c m.2.2.2.c)=Hg (Fq a) (VS m.1.c m.2.1.c m.2.2.1.c m.2.2.2.c):=this;unfold HQ ON; rw [e]
 have t1:ZF (Fq b) (Rm (Te l))=ZF (Fq a) (Rm (Te l)):=Xo λm hm=>by rw [e1 m hm]
 have t2:VY (Fq b) (Oo (Te l))=VY (Fq a) (Oo (Te l)):=Xo λm hm=>by rw [e2 m hm]
 constructor
 ·unfold ES fJ;rw [Xo e1,Xo e2]
 ·unfold brD OP;rw [t1,t2]
def Qv7 (l:List Pt) (a:Tm):Cr:=⟨a,(Fp (ES l a)).map fresh,0⟩
def vR (M:No):Prop:=∀ k,(Aa M k).getD (.int .i64 0)=.int .i64 (ZW M k)/\-1<=ZW M k/\ZW M k<=1
def VW (M:No):Prop:=∀ k,(Aa M k).getD (.bool false)=.bool (NN M k)
theorem OY (M:No) (k:Uj) (x:LV) (k':Uj):Aa (Lp M k x) k'=if k'=k then some x else Aa M k':=by
 induction M with
 | nil=>simp [Lp,Aa]
 |
  cons e M ih =>
  simp only [Lp];by_cases h:k=e.1
  ·rw [if_pos h];simp only [Aa];by_cases h2:k'=k
   ·rw [if_pos h2,if_pos h2]
   ·rw [if_neg h2,if_neg h2,if_neg (λe2=>h2 (e2.trans h.symm))]
  ·rw [if_neg h];simp only [Aa];by_cases h2:k'=e.1
   ·rw [if_pos h2,if_pos h2,if_neg (λe2=>h (e2.symm.trans h2))]
   ·rw [if_neg h2,if_neg h2,ih]
theorem Qg0:vR []:=λ_=>⟨rfl,show (-1:Int)<=0 by decide,show (0:Int)<=1 by decide⟩
theorem oR:VW []:=λ_=>rfl
theorem Qg1 {M:No} (h:vR M) {k:Uj} {n:Int} (hn:-1<=n/\n<=1):vR (Lp M k (.int .i64 n)):=by
 intro k';have h1:=h k';unfold ZW at h1 ⊢;rw [OY];by_cases e:k'=k
 ·rw [if_pos e]; exact ⟨rfl,hn.1,hn.2⟩
 ·rw [if_neg e]; exact h1
theorem oS {M:No} (h:VW M) {k:Uj} {b:Bool}:VW (Lp M k (.bool b)):=by
 intro k';have h1:=h k';unfold NN at h1 ⊢;rw [OY];by_cases e:k'=k
 ·rw [if_pos e]; rfl
 ·rw [if_neg e]; exact h1
theorem Ax {T F:No} {s:Int} {n:Uj} {k:Nat} (h:VW F):VW (I0 T s n F k):=by
 unfold I0;generalize (if (3-k) % 2=1 then -s else s)=s'
 split
 ·exact oS h
 ·exact h
theorem sF {T F:No} {s:Int} {n:Uj} (h:VW F):VW (IS T s n F):=Ax (Ax (Ax (Ax h)))
theorem Qbn {x s:Int} (hx:-1<=x/\x<=1) (hs:-1<=s/\s<=1):-9223372036854775808<=x*s/\x*s<=9223372036854775807:=by
 have h:x=-1\/x=0\/x=1:=by omega
 rcases h with rfl | rfl | rfl <;> omega
structure MOk (M:List Pt):Prop where
 sc:∀ p∈M,Sc p.c
 ln:M.length<=6
 so:WH M
theorem MOk.df {M:List Pt} (h:MOk M):M.Pairwise λx y=>x.id≠y.id:=h.so.imp λh e=>by omega
structure Knd (β:Type) where
 bc:List Pt->Tm->List Ct
 br:List Pt->Tm->β
 al:List Pt->List (List Int)
structure KndOk {β:Type} (k:Knd β):Prop where
 st:∀ M,MOk M->Stab (k.bc M) (k.br M)
 cp:∀ M,MOk M->∀ p∈k.al M,Cp p
 al:∀ M a,∀ x∈k.bc M a,x.p∈k.al M
 ln:∀ M,MOk M->(k.al M).length<=1000000
abbrev kS:Knd Up:=⟨O2,tH,Lz⟩
abbrev kT:Knd (Up×Up):=⟨PT,brT,Lz⟩
abbrev kH:Knd Up:=⟨TS,brH,λl=>Lz l++NU l⟩
abbrev kP:Knd Up:=⟨zP,brP,EB⟩
abbrev kD:Knd Up:=⟨ES,brD,oW⟩
theorem NF {l:List Pt} (h:l.length<=6):(Lz l).length<=72:=by
 rw [vN];exact Qc (Zi h (Zi h (Ql 2))) (by decide)
theorem UF {α β:Type} {f:α->List β} {n:Nat} (l:List α) (h:∀ x∈l,(f x).length=n):(l.flatMap f).length=l.length*n:=by
 induction l with
 | nil=>simp
 |
  cons x l ih =>
  rw [Jx,Qy,h x (by simp),ih λy hy=>h y (Qg _ hy),Q7,Xz]; omega
theorem Qk8 (l:List Pt):(NU l).length=l.length*(l.length*l.length):=by
 unfold NU;exact UF l λx _=>UF l λy _=>by simp
theorem Qk6 (l:List Pt):(EB l).length=l.length*(l.length*(l.length*l.length)):=by
 unfold EB;exact UF l λx _=>UF l λy _=>UF l λz _=>by simp
theorem okS:KndOk kS:=⟨λM h=>Qxy h.sc (by have:=h.ln; omega) h.df,λM h=>O1 h.sc,λM a=>cB,λM h=>Qc (NF h.ln) (by decide)⟩
theorem okT:KndOk kT:=⟨λM h=>Qxz h.sc (by have:=h.ln; omega) h.df,λM h=>O1 h.sc,λM a=>Qlb,λM h=>Qc (NF h.ln) (by decide)⟩
theorem okH:KndOk kH:=⟨λM h=>Qxw h.sc (by have:=h.ln; omega) h.df,λM h=>PG h.sc,λM a=>zS,λM h=>by
 have h1:=NF h.ln;have h2:=Qk8 M;have h3:M.length*(M.length*M.length)<=6*(6*6):=Zi h.ln (Zi h.ln h.ln);show (Lz M++NU M).length<=_;rw [Qy]; omega⟩
theorem okP:KndOk kP:=⟨λM h=>Qxx h.sc (by have:=h.ln; omega) h.df,λM h=>WR h.sc,λM a=>cN,λM h=>by
 have h3:M.length*(M.length*(M.length*M.length))<=6*(6*(6*6)):=Zi h.ln (Zi h.ln (Zi h.ln h.ln));show (EB M).length<=_;rw [Qk6]; omega⟩
theorem okD:KndOk kD:=⟨λM h=>Qxv h.sc h.ln,λM h=>zF h.sc,λM a=>zH,λM h=>Qc3 h.ln⟩
open Classical in
noncomputable def cnt (bc:Tm->List Ct) (q t:Rat):Nat:=if h:∃ E,Evs bc t (tq q) E then (Classical.choose h).length else 0
theorem pY {β:Type} {Bc:Tm->List Ct} {Br:Tm->β} (S:Stab Bc Br) {q t:Rat} (hq:Va (tq q)) {E:List Tm} (h:Evs Bc t (tq q) E):cnt Bc q t=E.length:=by
 have hx:∃ E,Evs Bc t (tq q) E:=⟨E,h⟩;unfold cnt;rw [dif_pos hx];exact Qtm S hq (Classical.choose_spec hx) h
structure At {β:Type} (k:Knd β) (M:List Pt) (q:Rat) (c:Cr):Prop where
 now:c.now=tq q
 st:KSt (k.bc M) (k.br M) c (k.br M (tq q))
section
variable {β:Type} {k:Knd β} (ok:KndOk k) {M M':List Pt} {q t:Rat} {c:Cr}
include ok
theorem At.again (h:At k M q c) (hM:MOk M'):∃ ws,P6 c.l c.now (Fp (k.bc M' c.now))=some ws/\At k M' q ⟨tq q,ws,c.ev⟩:=by
 obtain ⟨⟨o,kk⟩,hcs,hr⟩:=h.st;have S:=ok.st M' hM;obtain ⟨ws,l1,l2⟩:=mW o.n o.l (Fp (k.bc M' c.now));have o':=Orr.lay_ok c.ev o o.n (S.ok.p _ o.n) (S.ok.n _ o.n) l1;have hl:=eK o.n o.n (λh=>Ik o.n.cut o.n.cut h h) o.l kk l1;rw [h.now] at o' hl l2;exact ⟨ws,l1,rfl,⟨⟨o',hl⟩,l2,rfl⟩⟩
theorem At.adv (h:At k M q c) (hM:MOk M) (ht:Qs 1640000 t) (hqt:q<=t) :
 ∃ (K:Nat) (c':Cr),K<=67000001/\KU (k.bc M) (k.br M) t K c (k.br M (tq q)) 0=some (c',k.br M (tq t),((cnt (k.bc M) q t:Nat):Int))/\At k M t c'/\c'.ev=c.ev+((cnt (k.bc M) q t:Nat):Int)/\cnt (k.bc M) q t<=67000000/\cnt (k.bc M) q t<=((k.al M).flatMap NQ).length:=by
 have S:=ok.st M hM;have hP:=ok.cp M hM;have hm:=NX hP;have hmu:=Qhn ((k.al M).flatMap NQ) c.now;have hl:=ok.ln M hM;have hv:=h.st.inv.ok.n;have hc:Fj c.now t<=0:=by rw [h.now,SL]; rcases Tw q t with ⟨e,e'⟩ | ⟨e,e'⟩ | ⟨e,e'⟩ <;> first | omega | (exfalso; grind)
 obtain ⟨c',r',E,g1,g2,g3,g4,g5,g6⟩:=lM S ht hP (λa _=>ok.al M a) (mu ((k.al M).flatMap NQ) c.now) c _ 0 (Ql _) h.st λh'=>by
  have:=(QY hv.cut).2 h'; omega
 have hr:r'=k.br M (tq t):=by rw [g3.r,g2]
 rw [hr] at g1 g3;rw [Int.zero_add] at g1;rw [h.now] at g6;have he:=pY S (by rw [<-h.now]; exact hv) g6;rw [he];exact ⟨_,c',by omega,g1,⟨g2,g3⟩,g4,by omega,by omega⟩
theorem pN (hM:MOk M) (hq:Qs 1640000 q) (ht:Qs 1640000 t) (hqt:q<=t):∃ E,Evs (k.bc M) t (tq q) E/\E.length=cnt (k.bc M) q t:=by
 have S:=ok.st M hM;have hv:=GZ hq;have hc:¬P0 (tq t) (tq q):=λh'=>by
  have:=(QY hv.cut).2 h';rw [SL] at this;rcases Tw q t with ⟨e,e'⟩ | ⟨e,e'⟩ | ⟨e,e'⟩ <;> first | omega | grind
 obtain ⟨c',r',E,g1,g2,g3,g4,g5,g6⟩:=lM S ht (ok.cp M hM) (λa _=>ok.al M a) (mu ((k.al M).flatMap NQ) (tq q)) ⟨tq q,(Fp (k.bc M (tq q))).map fresh,0⟩ (k.br M (tq q)) 0 (Ql _) (sK S hv) hc;exact ⟨E,g6,(pY S hv g6).symm⟩
theorem JA {s:Rat} (hM:MOk M) (hq:Qs 1640000 q) (hs:Qs 1640000 s) (ht:Qs 1640000 t) (hqs:q<=s) (hst:s<=t):cnt (k.bc M) q t=cnt (k.bc M) q s+cnt (k.bc M) s t:=by
 obtain ⟨E1,h1,e1⟩:=pN ok hM hq hs hqs;obtain ⟨E2,h2,e2⟩:=pN ok hM hs ht hst;obtain ⟨E,h,e⟩:=pN ok hM hq ht (Zh hqs hst);have hv:=GZ hq;have:=Qnf (ok.st M hM) hst (GZ hs) h1 hv (λh'=>by
  have:=(QY hv.cut).2 h';rw [SL] at this;rcases Tw q s with ⟨e,e'⟩ | ⟨e,e'⟩ | ⟨e,e'⟩ <;> first | omega | grind) h2 h
 omega
theorem ZP (hM:MOk M) (hq:Qs 1640000 q):cnt (k.bc M) q q=0:=by
 have:=JA ok hM hq hq hq Qp Qp;omega
end
theorem At.begin {β:Type} {k:Knd β} (ok:KndOk k) {M:List Pt} {q:Rat} (hM:MOk M) (hq:Qs 1640000 q):At k M q ⟨tq q,(Fp (k.bc M (tq q))).map fresh,0⟩:=⟨rfl,sK (ok.st M hM) (GZ hq)⟩
end Orq
namespace Orr
open Go Go.Proofs Tryz Orq
set_option maxRecDepth 10000
abbrev Tl (c:Cr) (r0:Up) (r1:Up×Up):Uo:=.bool true::pl c.now.p::sg c.now.lo.num::mg c.now.lo.num::sg (c.now.lo.den:Int)::mg (c.now.lo.den:Int)::sg c.now.hi.num::mg c.now.hi.num::sg (c.now.hi.den:Int)::mg (c.now.hi.den:Int)::.row (Bu c.l)::.int .i64 c.ev::[.row r0,.row r1.1,.row r1.2]
abbrev Qs6 (r0:LV) (r1:LV×LV):Uo:=[.bool false,.nils,.bool false,.nils,.bool false,.nils,.bool false,.nils,.bool false,.nils,.nils,.int .i64 0,r0,r1.1,r1.2]
theorem sC {T:Nat} {c:Cr} {r0:Up} {r1:Up×Up} (hc:Va c.now):U5 prog 369 [.one (.ow 0 0)] [.blk T (Tl c r0 r1)] [.agg (ta c.now)] [.blk T (Tl c r0 r1)]:=by
 have cl:=Sw (b:=c.now) (l:=[]) hc.tb (λt ht=>by cases ht) (by decide) rfl;refine Fw func369 rfl ?_;exact Ue [] [0] [.f rfl,.k cl] rfl
theorem Qea {T:Nat} {c:Cr} {r0:Up} {r1:Up×Up} (hc:CrOk c):U5 prog 359 [.one (.ow 0 0)] [.blk T (Tl c r0 r1)] [.one (.row (U6 (Fp (c.l.map (·.c)))))] [.blk T (Tl c r0 r1)]:=by
 have hk:=hc.k;have hw:=Tf c.l;refine Fw func359 rfl ?_;refine Ua [.o 3 120 7] rfl ?_;refine Uf (S:=Nat) 2 (λL1 i=>(11,.v (.oi i))::(3,.v (.one (.orow 1 7 none)))::L1) (λi=>[.blk T (Tl c r0 r1),.row false 120 7 (U6 ((c.l.map (·.c)).take i))]) (λi=>c.l.length-i) (λi=>i<=c.l.length) 0 (Qh _) rfl rfl λi hi=>?_
 by_cases hlt:i<c.l.length
 ·obtain ⟨x,hx⟩:=gxE (l:=c.l) (i:=i) hlt;have hm:∀ y∈[Da x.c],y.length=7:=λy hy=>by rw [Qk.1 hy]; rfl
  have hg:(c.l.map (·.c)).take (i+1)=(c.l.map (·.c)).take i++[x.c]:=by
   rw [Zv,Q6,hx]; rfl
  have hl:decide ((i:Int)<((Bu c.l).length:Int))=true:=by simp [hw]; omega
  obtain ⟨xc,xk,xf⟩:=x;cases xf <;> (refine go tt [.t hl,.x (Hn hx),.s (sz:=7) hm] rfl (by simp [Uz,Pa]; omega) ?_; exact rd (i+1) (by omega) hlt (by rw [hg]; simp [U6]; rfl))
 ·obtain rfl:i=c.l.length:=by omega
  have e:(c.l.map (·.c)).take c.l.length=c.l.map (·.c):=Qn (by simp);rw [e];have cs:=GA (l:=c.l.map (·.c)) (λx hx=>by
   obtain ⟨w,hw,rfl⟩:=Q9.1 hx;exact Dp.pb (hc.l w hw).p.dp) (by simp; omega)
  exact Ue [] [0] [.f (by simp [hw]),.k cs] rfl
theorem Ql9 {T:Nat} {c:Cr} {r0:Up} {r1:Up×Up} {x:Ct} {at_:Tm} {w:Wt} (hc:CrOk c) (hx:Cp x.p) (ha:Va at_) (h:Ca c.l x at_=some w):U5 prog 184 [.one (.ow 0 0),.agg (Da x),.agg (ta at_)] [.blk T (Tl c r0 r1)] [.agg (wl w)] [.blk T (Tl c r0 r1)]:=by
 have hk:=hc.k;have hw:=Tf c.l;refine Fw func184 rfl ?_;refine Ua [] rfl ?_;refine Uf (S:=Nat) 4 (λL1 i=>(14,.v (.oi i))::L1) (λ_=>[.blk T (Tl c r0 r1),.blk 120 (Da x),.blk 177 (ta at_),.blk 280 [.int .i64 0,.int .i64 0,.int .i64 0,.int .i64 0,.int .i64 0,.nils,.int .i64 0,.bool false,.bool false,.nils,.bool false,.nils,.bool false,.nils,.bool false,.nils,.bool false,.nils]]) (λi=>c.l.length-i) (λi=>i<=c.l.length/\Ca (c.l.drop i) x at_=some w) 0 ⟨Qh _,h⟩ rfl rfl λi ⟨hi,hf⟩=>?_
 by_cases hlt:i<c.l.length
 ·obtain ⟨v,hv⟩:=gxE (l:=c.l) (i:=i) hlt;have hdr:c.l.drop i=v::c.l.drop (i+1):=by
   rw [Zu hlt]; congr 1;have:=Qe hlt; rw [hv] at this; injection this with this; exact this.symm
  have hvo:=hc.l v (Qa hv);rw [hdr] at hf;simp only [Ca] at hf;have hl:decide ((i:Int)<((Bu c.l).length:Int))=true:=by simp [hw]; omega
  by_cases A:rF v.c x=true
  ·have A':(!decide ([v.c.kind,v.c.i0,v.c.i1,v.c.i2,v.c.i3]=[x.kind,x.i0,x.i1,x.i2,x.i3]))=false:=by
    unfold rF at A; rw [A]; rfl
   by_cases B:v.known=true
   ·have B':(!v.known)=false:=by rw [B]; rfl
    have cs:=PM (p:=v.c.p) (q:=x.p) (Dp.pb hvo.p.dp).ln (Dp.pb hx.dp).ln (Dp.pb hvo.p.dp).bd (Dp.pb hx.dp).bd;rw [hvo.p.t,hx.t] at cs;by_cases C:v.c.p=x.p
    ·have C':(!decide (v.c.p=x.p))=false:=by simp [C]
     rw [if_pos ⟨A,B,C⟩] at hf;obtain ⟨vc,vk,vf⟩:=v;cases vf with
     |
      none =>
      injection hf with hf; subst hf;exact Ue [] [0] [.t hl,.x (Hn hv),.g 24 false A',.g 29 false B',.k cs,.f C',.g 41 true rfl,.t rfl] rfl
     |
      some t =>
      obtain ⟨r,r1',hf⟩:=Qd.1 hf;have cc:=VE (hvo.f t rfl).tb ha.tb r1';by_cases D:0<r
      ·rw [if_pos D] at hf;injection hf with hf; subst hf;exact Ue [] [0] [.t hl,.x (Hn hv),.g 24 false A',.g 29 false B',.k cs,.f C',.g 41 false rfl,.k cc,.t (by simpa using D)] rfl
      ·rw [if_neg D] at hf;refine Ub [.t hl,.x (Hn hv),.g 24 false A',.g 29 false B',.k cs,.f C',.g 41 false rfl,.k cc,.f (by simpa using D)] rfl ?_;exact rd (i+1) (by omega) ⟨hlt,hf⟩ rfl
    ·rw [if_neg λh=>C h.2.2] at hf;refine Ub [.t hl,.x (Hn hv),.g 24 false A',.g 29 false B',.k cs,.t (by simp [C])] rfl ?_;exact rd (i+1) (by omega) ⟨hlt,hf⟩ rfl
   ·rw [if_neg λh=>B h.2.1] at hf;refine Ub [.t hl,.x (Hn hv),.g 24 false A',.g 29 true (by simpa using B),.t rfl] rfl ?_;exact rd (i+1) (by omega) ⟨hlt,hf⟩ rfl
  ·rw [if_neg λh=>A h.1] at hf;refine Ub [.t hl,.x (Hn hv),.g 24 true (by rw [show decide ([v.c.kind,v.c.i0,v.c.i1,v.c.i2,v.c.i3]=[x.kind,x.i0,x.i1,x.i2,x.i3])=false from Ws.2 A]; rfl),.g 29 true rfl,.t rfl] rfl ?_;exact rd (i+1) (by omega) ⟨hlt,hf⟩ rfl
 ·obtain rfl:i=c.l.length:=by omega
  rw [Y8] at hf;simp only [Ca] at hf;injection hf with hf; subst hf;exact Ue [] [0] [.f (by simp [hw])] rfl
theorem dJ {T:Nat} {c:Cr} {r0:Up} {r1:Up×Up} {at_:Tm} {l:List Ct} {ws:List Wt} (hc:CrOk c) (ha:Va at_) (hl:∀ x∈l,Cp x.p) (hn:l.length≤1000) (h:P6 c.l at_ (Fp l)=some ws):U5 prog 157 [.one (.ow 0 0),.agg (ta at_),.one (.bool true),.one (.row (U6 l))] [.blk T (Tl c r0 r1)] [] [.blk T (Tl ⟨at_,ws,c.ev⟩ r0 r1)]:=by
 have cs:=GA (l:=l) (λx hx=>Dp.pb (hl x hx).dp) (by omega);have cl:=Sw (b:=at_) (l:=[]) ha.tb (λt ht=>by cases ht) (by decide) rfl;obtain ⟨h1,h2⟩:=XW h;have hs:(Fp l).length=l.length:=Mn l;refine Fw func157 rfl ?_;refine Ua [.o 8 280 18,.k cs] rfl ?_;refine Uf (S:=Nat) 3 (λL1 i=>(15,.v (.oi i))::(8,.v (.one (.orow 2 18 none)))::L1) (λi=>[.blk T (Tl c r0 r1),.blk 177 (ta at_),.row false 280 18 (Bu (ws.take i))]) (λi=>ws.length-i) (λi=>i<=ws.length) 0 (Qh _) rfl rfl λi hi=>?_
 by_cases hlt:i<ws.length
 ·obtain ⟨x,hx⟩:=gxE (l:=(Fp l)) (i:=i) (by omega);obtain ⟨w,hw,hw'⟩:=h2 i x hx;have hm:∀ y∈[wl w],y.length=18:=λy hy=>by rw [Qk.1 hy]; rfl
  have hlt':decide ((i:Int)<((U6 (Fp l)).length:Int))=true:=by simp [U6]; omega
  have ck:=Ql9 (T:=T) (r0:=r0) (r1:=r1) hc (hl x (Rv (Qa hx))) ha hw;have hg:=Ev hw';obtain ⟨wc,wk,wf⟩:=w;cases wf <;> (refine go tt [.t hlt',.x (ZN hx),.t rfl,.c [0] ck,.s (sz:=18) hm] rfl (by simp [Uz,Tf]; omega) ?_; exact rd (i+1) (by omega) hlt (by rw [hg]; rfl))
 ·obtain rfl:i=ws.length:=by omega
  rw [Q5];have hge:decide ((ws.length:Int)<((U6 (Fp l)).length:Int))=false:=by simp [U6]; omega
  exact Ue [] [0] [.f hge,.p 2,.k cl] rfl
theorem Qma {T:Nat} {r0:Up} {r1:Up×Up} {at_:Tm} {l:List Ct} (ha:Va at_) (hl:∀ x∈l,Cp x.p) (hn:l.length≤1000):U5 prog 157 [.one (.ow 0 0),.agg (ta at_),.one (.bool false),.one (.row (U6 l))] [.blk T (Qs6 (.row r0) (.row r1.1,.row r1.2))] [] [.blk T (Tl ⟨at_,(Fp l).map fresh,0⟩ r0 r1)]:=by
 have cs:=GA (l:=l) (λx hx=>Dp.pb (hl x hx).dp) (by omega);have cl:=Sw (b:=at_) (l:=[]) ha.tb (λt ht=>by cases ht) (by decide) rfl;have hs:(Fp l).length=l.length:=Mn l;refine Fw func157 rfl ?_;refine Ua [.o 8 280 18,.k cs] rfl ?_;refine Uf (S:=Nat) 3 (λL1 i=>(15,.v (.oi i))::(8,.v (.one (.orow 2 18 none)))::L1) (λi=>[.blk T (Qs6 (.row r0) (.row r1.1,.row r1.2)),.blk 177 (ta at_),.row false 280 18 (Bu (((Fp l).map fresh).take i))]) (λi=>l.length-i) (λi=>i<=l.length) 0 (Qh _) rfl rfl λi hi=>?_
 by_cases hlt:i<l.length
 ·obtain ⟨x,hx⟩:=gxE (l:=(Fp l)) (i:=i) (by omega);have hm:∀ y∈[wl (fresh x)],y.length=18:=λy hy=>by rw [Qk.1 hy]; rfl
  have hlt':decide ((i:Int)<((U6 (Fp l)).length:Int))=true:=by simp [U6]; omega
  have hg:=Ev (l:=(Fp l).map fresh) (i:=i) (w:=fresh x) (by rw [Q6,hx]; rfl);refine go tt [.t hlt',.x (ZN hx),.z 20,.f rfl,.s (sz:=18) hm] rfl (by simp [Uz,Tf]; omega) ?_;exact rd (i+1) (by omega) hlt (by rw [hg]; rfl)
 ·obtain rfl:i=l.length:=by omega
  rw [Qn (by simp; omega)];have hge:decide ((l.length:Int)<((U6 (Fp l)).length:Int))=false:=by simp [U6]; omega
  exact Ue [] [0] [.f hge,.p 2,.k cl] rfl
theorem Qaf {T:Nat} {r0:Up} {r1:Up×Up} {at_:Tm} {l:List Ct} (ha:Va at_) (hl:∀ x∈l,Cp x.p) (hn:l.length≤1000):U5 prog 127 [.one (.ow 0 0),.agg (ta at_),.one (.row (U6 l))] [.blk T (Qs6 (.row r0) (.row r1.1,.row r1.2))] [] [.blk T (Tl ⟨at_,(Fp l).map fresh,0⟩ r0 r1)]:=by
 have cl:=Qma (T:=T) (r0:=r0) (r1:=r1) ha hl hn;refine Fw func127 rfl ?_;exact Ue [] [0] [.g 12 false rfl,.c [0] cl] rfl
theorem Qag {T:Nat} {c:Cr} {r0:Up} {r1:Up×Up} {at_:Tm} {l:List Ct} {ws:List Wt} {k:Int} (hc:CrOk c) (ha:Va at_) (hk:WI at_ c.now=some k) (h0:0≤k) (hl:∀ x∈l,Cp x.p) (hn:l.length≤1000) (h:P6 c.l at_ (Fp l)=some ws):U5 prog 127 [.one (.ow 0 0),.agg (ta at_),.one (.row (U6 l))] [.blk T (Tl c r0 r1)] [] [.blk T (Tl ⟨at_,ws,c.ev⟩ r0 r1)]:=by
 have cl:=dJ (T:=T) (r0:=r0) (r1:=r1) hc ha hl hn h;have cc:=VE ha.tb hc.n.tb hk;refine Fw func127 rfl ?_;exact Ue [] [0] [.g 12 true rfl,.k cc,.r 20 (eB (show decide (0<=k)=true by simpa using h0)),.c [0] cl] rfl
theorem Qmb {T:Nat} {c:Cr} {r0:Up} {r1:Up×Up} {ws:List Wt} (hc:CrOk c) (h:I5 c.now c.l=some ws):U5 prog 364 [.one (.ow 0 0)] [.blk T (Tl c r0 r1)] [] [.blk T (Tl { c with l:=ws } r0 r1)]:=by
 have hk:=hc.k;have hw:=Tf c.l;obtain ⟨h1,h2⟩:=YF h;refine Fw func364 rfl ?_;refine Ua [.o 2 280 18,.c [0] (sC hc.n)] rfl ?_;refine Uf (S:=Nat) 3 (λL1 i=>(13,.v (.oi i))::(2,.v (.one (.orow 1 18 none)))::L1) (λi=>[.blk T (Tl c r0 r1),.row false 280 18 (Bu (ws.take i)),.blk 177 (ta c.now)]) (λi=>c.l.length-i) (λi=>i<=c.l.length) 0 (Qh _) rfl rfl λi hi=>?_
 by_cases hlt:i<c.l.length
 ·obtain ⟨w,hx⟩:=gxE (l:=c.l) (i:=i) hlt;obtain ⟨v,hv,h3⟩:=h2 i w hx;have hm:∀ y∈[wl v],y.length=18:=λy hy=>by rw [Qk.1 hy]; rfl
  have hg:=Ev hv;have hl:decide ((i:Int)<((Bu c.l).length:Int))=true:=by simp [hw]; omega
  rcases h3 with ⟨k1,rfl⟩ | ⟨k1,r,k2,rfl⟩
  ·obtain ⟨vc,vk,vf⟩:=v;cases vf <;> (refine go tt [.t hl,.x (Hn hx),.f (by rw [show vk=true from k1]; rfl),.s (sz:=18) hm] rfl (by simp [Uz,Tf]; omega) ?_; exact rd (i+1) (by omega) hlt (by rw [hg]; rfl))
  ·have cg:=kZ (hc.l w (Qa hx)).p hc.n k2;obtain ⟨wc,wk,wf⟩:=w;cases r <;> cases wf <;> (refine go tt [.t hl,.x (Hn hx),.t (by rw [show wk=false from k1]; rfl),.k cg,.s (sz:=18) hm] rfl (by simp [Uz,Tf]; omega) ?_; exact rd (i+1) (by omega) hlt (by rw [hg]; rfl))
 ·obtain rfl:i=c.l.length:=by omega
  rw [<-h1,Q5];exact Ue [1] [0] [.f (by simp [hw,h1])] rfl
theorem Qmc {T:Nat} {c:Cr} {r0:Up} {r1:Up×Up} {ws:List Wt} {r:Option Tm} (hc:CrOk c) (h:I5 c.now c.l=some ws) (hr:AY ws=some r):U5 prog 370 [.one (.ow 0 0)] [.blk T (Tl c r0 r1)] [.agg (ota r),.one (.bool r.isSome)] [.blk T (Tl { c with l:=ws } r0 r1)]:=by
 have hcl:=Qmb (T:=T) (r0:=r0) (r1:=r1) hc h;have hc':=Ec hc h;have hk:=hc'.k;have hw:=Tf ws;have hvb:∀ t∈ws.filterMap (·.fails),Tb t:=λt ht=>by
  obtain ⟨w,w1,w2⟩:=Je.1 ht;exact ((hc'.l w w1).f t w2).tb
 refine Fw func370 rfl ?_;refine Ua [.c [0] hcl,.o 4 177 9] rfl ?_;refine Uf (S:=Nat) 3 (λL1 i=>(14,.v (.oi i))::(4,.v (.one (.orow 2 9 none)))::L1) (λi=>[.blk T (Tl { c with l:=ws } r0 r1),.blk 177 zTm,.row false 177 9 (tal ((ws.take i).filterMap (·.fails)))]) (λi=>ws.length-i) (λi=>i<=ws.length) 0 (Qh _) rfl rfl λi hi=>?_
 by_cases hlt:i<ws.length
 ·obtain ⟨w,hx⟩:=gxE (l:=ws) (i:=i) hlt;have hl:decide ((i:Int)<((Bu ws).length:Int))=true:=by simp [hw]; omega
  have hfl:((ws.take i).filterMap (·.fails)).length<=i:=Qc (Y9 _ _) (by rw [Qt]; omega);have hg:(ws.take (i+1)).filterMap (·.fails)=(ws.take i).filterMap (·.fails)++(match w.fails with | none=>[] | some t=>[t]):=by
   rw [Zv,hx,List.filterMap_append];show _++List.filterMap (·.fails) [w]=_;cases hwf:w.fails <;> simp [hwf]
  obtain ⟨wc,wk,wf⟩:=w;have hk:ws.length<=1000:=hk;cases wf with
  |
   none =>
   refine Ub [.t hl,.x (Hn hx),.f rfl] rfl ?_;exact rd (i+1) (by omega) hlt (by rw [hg]; simp; rfl)
  |
   some t =>
   refine Ub [.t hl,.x (Hn hx),.t rfl,.s (l:=[ta t]) (sz:=9) (λc hc=>by rw [Qk.1 hc]; rfl)] rfl ?_;exact rd (i+1) (by omega) hlt (by rw [hg]; simp [tal]; rfl)
 ·obtain rfl:i=ws.length:=by omega
  rw [Q5];have hf:decide ((ws.length:Int)<((Bu ws).length:Int))=false:=by simp [hw]
  have hln:(ws.filterMap (·.fails)).length<=1000:=Qc (Y9 _ _) hk;unfold AY at hr;cases hfm:ws.filterMap (·.fails) with
  |
   nil =>
   rw [hfm] at hr;injection hr with hr; subst hr;exact Ue [] [0] [.f hf,.p 2,.k kX] rfl
  |
   cons b l =>
   rw [hfm] at hr hvb hln;obtain ⟨m,m1,rfl⟩:=Yt.1 hr;have cl:=Sw (hvb b (Qx ..)) (λt ht=>hvb t (Qg _ ht)) (by simp at hln; omega) m1;exact Ue [] [0] [.f hf,.p 2,.k cl] rfl
theorem Qwn {T:Nat} {t:Rat} {Bc:Tm->List Ct} {Br:Tm->Up×Up} {r0:Up} (ht:Qs 1640000 t) (hB:BuildOk Bc)
 (hb:∀ a c r1,Va a->CrOk c->U5 prog 129 [.one (.ow 0 0),.agg (ta a)] [.blk T (Tl c r0 r1)] [.one (.row (U6 (Bc a)))] [.blk T (Tl c r0 (Br a))])
 {K:Nat} {c c':Cr} {r1 r1':Up×Up} {n:Int} (hc:CrOk c) (hev:0<=c.ev/\c.ev+K<=1000000000000000000) (h:Fj c.now t<=0) (hg:KU Bc Br t K c r1 0=some (c',r1',n)) :
 U5 prog 365 [.one (.ow 0 0),.agg (rl t),.one (.ofn 129 [.ow 0 0] [])] [.blk T (Tl c r0 r1)] [.oi n,.oi 0] [.blk T (Tl c' r0 r1')]:=by
 have qt:Qb t:=ht.mono (by decide);have c1:=C6 hc.n.tb qt;refine Fw func365 rfl ?_;refine Ua [.c [0] (sC hc.n),.k c1,.f (by simpa using h)] rfl ?_;refine Uf (S:=Nat×Cr×(Up×Up)×Int) 2 (λL1 s=>(8,.v (.oi s.2.2.2))::L1) (λs=>[.blk T (Tl s.2.1 r0 s.2.2.1),.blk 42 (rl t)]) (λs=>s.1) (λs=>CrOk s.2.1/\(0<=s.2.1.ev/\s.2.1.ev+s.1<=1000000000000000000)/\(0<=s.2.2.2/\s.2.2.2+s.1<=1000000000000000000)/\KU Bc Br t s.1 s.2.1 s.2.2.1 s.2.2.2=some (c',r1',n)) (K,c,r1,0) ⟨hc,hev,⟨Int.le_refl 0,by dsimp only; omega⟩,hg⟩ rfl rfl λ⟨k,x,r,m⟩ ⟨j1,j2,j3,j4⟩=>?_
 dsimp only at j1 j2 j3 j4 ⊢;cases k with
 | zero=>cases j4
 |
  succ k =>
  simp only [KU] at j4;obtain ⟨ws,w1,j4⟩:=Qd.1 j4;obtain ⟨o,o1,j4⟩:=Qd.1 j4;have cn:=Qmc (T:=T) (r0:=r0) (r1:=r) j1 w1 o1;have ca:=VF (U3 t.num) (U3 (t.den:Int)) (Qc ht.1 (by decide)) (Qc ht.2 (by decide)) (by rw [Ss]; exact ht.mono (by decide));rw [Ss] at ca;cases o with
  |
   none =>
   injection j4 with j4; injection j4 with e1 j4; injection j4 with e2 e3;subst e1; subst e2; subst e3;exact Ue [] [0] [.c [0] cn,.g 25 true rfl,.t rfl,.k ca] rfl
  |
   some a =>
   have ha:=DC j1 w1 o1;dsimp only at j4;have cc:=C6 ha.tb qt;by_cases h0:0<Fj a t
   ·rw [if_pos h0] at j4;injection j4 with j4; injection j4 with e1 j4; injection j4 with e2 e3;subst e1; subst e2; subst e3;exact Ue [] [0] [.c [0] cn,.g 25 false rfl,.k cc,.t (by simpa using h0),.k ca] rfl
   ·rw [if_neg h0] at j4;obtain ⟨w2,l1,j4⟩:=Qd.1 j4;have j1':=Ec j1 w1;have cl:=Sw (b:=a) (l:=[]) ha.tb (λt ht=>by cases ht) (by decide) rfl;have cb:=hb a { x with l:=ws } r ha j1';have cy:=dJ (T:=T) (r0:=r0) (r1:=Br a) j1' ha (hB.p a ha) (hB.n a ha) l1;have hf:decide (0<Fj a t)=false:=by simpa using h0
    refine Ub [.c [0] cn,.g 25 false rfl,.k cc,.f hf,.k cl,.c [0] cb,.c [0] cy] rfl ?_;exact rd (k,⟨a,w2,x.ev+1⟩,Br a,m+1) (by dsimp only; omega) ⟨lay_ok _ j1' ha (hB.p a ha) (hB.n a ha) l1,by dsimp only; omega,by dsimp only; omega,j4⟩ rfl
theorem Qah {T:Nat} {c:Cr} {r0:Up} {r1:Up×Up}:U5 prog 361 [.one (.ow 0 0)] [.blk T (Tl c r0 r1)] [.oi c.ev] [.blk T (Tl c r0 r1)]:=by
 refine Fw func361 rfl ?_;exact Ue [] [0] [] rfl
end Orr
namespace Orr
open Go Go.Proofs Tryz Orq
def wG (k:Crv):Int:=max (max 0 ((k.x.length:Int)-1)) ((k.y.length:Int)-1)
structure Es where
 np:Int
 nd:Int
 M:List Pt
 q:Rat
 s:Cr
 t:Cr
 h:Cr
 p:Cr
 d:Cr
structure Em where
 np:Int
 nd:Int
 M:List Pt
 q:Rat
 s:Int
 t:Int
 h:Int
 p:Int
 d:Int
def Es.m (E:Es):Em:=⟨E.np,E.nd,E.M,E.q,E.s.ev,E.t.ev,E.h.ev,E.p.ev,E.d.ev⟩
structure MEn (np nd:Int) (M:List Pt):Prop where
 m:MOk M
 len:(M.length:Int)<=np
 deg:∀ p∈M,wG p.c≤nd
 id:∀ p∈M,0≤p.id/\p.id≤1048576
structure EOk (b:Int) (E:Es):Prop where
 np:1<=E.np/\E.np<=6
 nd:0<=E.nd/\E.nd<=2
 m:MEn E.np E.nd E.M
 q:Qs 128 E.q
 s:At kS E.M E.q E.s
 t:At kT E.M E.q E.t
 h:At kH E.M E.q E.h
 p:At kP E.M E.q E.p
 d:At kD E.M E.q E.d
 es:0<=E.s.ev/\E.s.ev<=b
 et:0<=E.t.ev/\E.t.ev<=b
 eh:0<=E.h.ev/\E.h.ev<=b
 ep:0<=E.p.ev/\E.p.ev<=b
 ed:0<=E.d.ev/\E.d.ev<=b
theorem EOk.mono {b c:Int} {E:Es} (h:EOk b E) (hb:b<=c):EOk c E:={ h with es:=⟨h.es.1,by have:=h.es.2; omega⟩,et:=⟨h.et.1,by have:=h.et.2; omega⟩,eh:=⟨h.eh.1,by have:=h.eh.2; omega⟩,ep:=⟨h.ep.1,by have:=h.ep.2; omega⟩,ed:=⟨h.ed.1,by have:=h.ed.2; omega⟩ }
abbrev lK (k:Nat) (q:Rat):Uo:=[.ow (k+1) 0,sg q.num,mg q.num,sg (q.den:Int),mg (q.den:Int),.ow (k+2) 0,.ow (k+3) 0,.ow (k+4) 0,.ow (k+5) 0,.ow (k+6) 0]
abbrev taR (np nd:Int) (M:List Pt):Uo:=[.int .i64 np,.int .i64 nd,pts M]
abbrev bS (c:Cr) (M:List Pt) (q:Rat):OB:=.blk 184 (Hq c (Uy M) (tH M (tq q)))
abbrev bT (c:Cr) (M:List Pt) (q:Rat):OB:=.blk 187 (Tl c (Uy M) (brT M (tq q)))
abbrev bH (c:Cr) (M:List Pt) (q:Rat):OB:=.blk 189 (Hq c (Uy M) (brH M (tq q)))
abbrev bP (c:Cr) (M:List Pt) (q:Rat):OB:=.blk 191 (Hq c (Uy M) (brP M (tq q)))
abbrev bD (c:Cr) (M:List Pt) (q:Rat):OB:=.blk 193 (Hq c (Uy M) (brD M (tq q)))
abbrev enB (k:Nat) (E:Es):Uq:=[.blk 89 (lK k E.q),.blk 140 (taR E.np E.nd E.M),bS E.s E.M E.q,bT E.t E.M E.q,bH E.h E.M E.q,bP E.p E.M E.q,bD E.d E.M E.q]
end Orr
namespace Orr
open Go Go.Proofs Tryz Orq
set_option maxRecDepth 10000
theorem lml (l:Ul):(lm l).length=l.length:=by simp [lm]
theorem RZ {z:Int}:(Fy z.natAbs).length<=4↔Fe z<=128:=by
 constructor
 ·intro h;have h1:=Cq (Fy z.natAbs) (C9 z.natAbs).1;rw [G5] at h1;refine Si.2 (Z6 h1 (Qc (Zr (by decide) h) (by decide)))
 ·intro h;have:=Rt (x:=z.natAbs) (k:=128) h;omega
def QD (k:Crv):Bool:=(k.x++k.y++[k.d]).all λz=>decide (Fe z<=128)
theorem EZ {k:Crv}:QD k=true↔(∀ z∈k.x,Fe z≤128)/\(∀ z∈k.y,Fe z≤128)/\Fe k.d≤128:=by
 unfold QD;simp only [List.all_append,Zn,Jq,decide_eq_true_iff,Qk,forall_eq];constructor
 ·rintro ⟨⟨h1,h2⟩,h3⟩; exact ⟨h1,h2,h3⟩
 ·rintro ⟨h1,h2,h3⟩; exact ⟨⟨h1,h2⟩,h3⟩
theorem WX {k:Crv} {z:Int} (hz:z∈k.x++k.y++[k.d]) (h:¬Fe z<=128):QD k=false:=by
 unfold QD;rw [<-Bool.not_eq_true,Jq];intro h';exact h (of_decide_eq_true (h' z hz))
abbrev tB (np nd:Int) (l:List Pt):OB:=.blk 140 (taR np nd l)
theorem Qwt {np nd:Int} {l:List Pt} (id:Int) (hl:l.length<1073741824):U5 prog 119 [.one (.ow 0 0),.oi id] [tB np nd l] [.oi (Im l id:Int),.one (.bool (has l id))] [tB np nd l]:=by
 refine Fw func119 rfl ?_;refine Ua [] rfl ?_;refine ct 2 (S:=Unit) (λ_=>[(1,.v (.oi id)),(0,.v (.one (.ow 0 0))),(6,.v (.oi (Im l id:Int)))]) (λ_=>[tB np nd l]) (λ_=>True) rfl ?_ ?_
 ·refine Uf (S:=Nat) 1 (λL1 k=>(6,.v (.oi k))::L1) (λ_=>[tB np nd l]) (λk=>l.length-k) (λk=>k<=l.length/\∀ j p,j<k->l[j]? = some p->p.id<id) 0 ⟨Qh _,λj p h=>by omega⟩ rfl rfl λk ⟨hk,hlt⟩=>?_
  by_cases h:k<l.length
  ·obtain ⟨p,hp⟩:=gxE (l:=l) (i:=k) h;by_cases hid:p.id<id
   ·refine Ub [.t (by simp; omega),.x (Ry hp),.t (by simpa using hid)] rfl ?_;exact rd (k+1) (by omega) ⟨h,λj q hj hq=>by
     rcases Za j k with h2 | h2
     ·exact hlt j q h2 hq
     ·have:j=k:=by omega
      subst this; rw [hp] at hq; injection hq with hq; rw [<-hq]; exact hid⟩ rfl
   ·have e:=LH hlt (.inr ⟨p,hp,hid⟩);refine Ua [.t (by simp; omega),.x (Ry hp),.f (by simpa using hid)] rfl ?_;rw [e];exact rc () trivial rfl
  ·obtain rfl:k=l.length:=by omega
   have e:=LH hlt (.inl rfl);refine Ua [.f (by simp),.f rfl] rfl ?_;rw [e];exact rc () trivial rfl
 ·intro _ _;by_cases h:Im l id<l.length
  ·obtain ⟨p,hp⟩:=gxE (l:=l) (i:=Im l id) h;have e:has l id=decide (p.id=id):=by simp [has,hp]
   rw [e];exact Ue [] [0] [.g 36 true (by simp; omega),.x (Ry hp)] rfl
  ·have e:has l id=false:=by simp [has,Qw (J4 h)]
   rw [e];exact Ue [] [0] [.g 36 false (by simp; omega)] rfl
theorem AD {lx ly:Up} {px py:Uj} {x y:LV} {d:Int} (hx:IsInts lx px) (hy:IsInts ly py) (hd:Gv x y d) (hk:Cs 4294967294 1073741824 (Crv.mk px py d)) (id:Int):Ug 71 [.agg [.row lx,.row ly,x,y,.int .i64 id]] [.agg (Fa ⟨Crv.norm (Crv.mk px py d),id⟩)]:=by
 have cd:=Bz hd (Qc hk.d (by omega));by_cases h0:d=0
 ·subst h0;have ck:Cs 4294967294 1073741824 (Crv.mk px py 1):=⟨hk.x,hk.y,show Fe 1<=4294967294 by decide,hk.lx,hk.ly⟩;have cm:=WL hx hy (U3 1) ck (by decide);have e:Crv.norm (Crv.mk px py 1)=Crv.norm (Crv.mk px py 0):=by simp only [Crv.norm,Crv.g,Crv.d']; rfl
  rw [e] at cm;obtain ⟨b,l,rfl,rfl,_⟩:=hd;exact Ud func71 rfl [.k cd,.k Li,.t (by simp),.k (zC (z:=1) (by decide)),.k cm] rfl
 ·have cm:=WL hx hy hd hk h0;obtain ⟨b,l,rfl,rfl,_⟩:=hd;exact Ud func71 rfl [.k cd,.k Li,.f (by simpa using h0),.k cm] rfl
theorem pQ {p:Pt} (hn:JP p.c) (hk:Cs 4294967294 1073741824 p.c):Ug 71 [.agg (Fa p)] [.agg (Fa p)]:=by
 have h:=AD (Gs p.c.x) (Gs p.c.y) (U3 p.c.d) hk p.id;rw [show Crv.mk p.c.x p.c.y p.c.d=p.c from rfl,Crv.norm_of hn] at h; exact h
theorem Qe1 {k:Crv} (hk:Cs 4294967294 1073741824 k):Ug 155 [.agg (cl k)] [.one (.bool (QD k))]:=by
 have hlx:=hk.lx;have hly:=hk.ly;refine Fw func155 rfl ?_;refine Ua [] rfl ?_;refine Uf (S:=Nat) 1 (λL1 i=>(15,.v (.oi i))::L1) (λ_=>[.blk 38 (cl k)]) (λi=>3-i) (λi=>i≤3/\(0<i->∀ z∈k.x,Fe z≤128)/\(1<i->∀ z∈k.y,Fe z≤128)/\(2<i->Fe k.d≤128)) 0 ⟨by decide,by omega,by omega,by omega⟩ rfl rfl λi ⟨hi,g0,g1,g2⟩=>?_
 rcases (show i=0\/i=1\/i=2\/i=3 by omega) with rfl | rfl | rfl | rfl
 ·have hl:((k.x).map Hh).length=(k.x).length:=by simp
  refine Ua [.t rfl,.i 0] rfl ?_ (by simp [Uz]);refine Uf (S:=Nat) 1 (λL1 j=>(20,.v (.oi j))::L1) (λ_=>[.blk 38 (cl k)]) (λj=>(k.x).length-j) (λj=>j<=(k.x).length/\∀ n z,n<j->(k.x)[n]? = some z->Fe z<=128) 0 ⟨Qh _,λn z h=>by omega⟩ rfl rfl λj ⟨hj,hs⟩=>?_
  by_cases h:j<(k.x).length
  ·obtain ⟨z,hz⟩:=gxE (l:=(k.x)) (i:=j) h;by_cases hb:Fe z<=128
   ·have hb4:=RZ.2 hb;refine Ub [.t (by simp; omega),.x (Gt (f:=Hh) hz),.f (by simp [lml]; omega)] rfl ?_;exact rd (j+1) (by omega) ⟨h,λn y hn hy=>by
     rcases Za n j with h2 | h2
     ·exact hs n y h2 hy
     ·have:n=j:=by omega
      subst this; rw [hz] at hy; injection hy with hy; rw [<-hy]; exact hb⟩ rfl
   ·have hb4:=mt RZ.1 hb;rw [WX (Qq.2 (.inl (Qq.2 (.inl (Qa hz))))) hb];exact Uc [.t (by simp; omega),.x (Gt (f:=Hh) hz),.t (by simp [lml]; omega)] rfl
  ·have hall:∀ z∈k.x,Fe z≤128:=λz hz=>by
    obtain ⟨n,hn⟩:=Xt hz;exact hs n z (by have:=(Qf.1 hn).1; omega) hn
   refine Ua [.f (by simp; omega)] rfl ?_ (by simp [Uz]);exact rd 1 (by omega) ⟨by omega,λ_=>hall,by omega,by omega⟩ rfl
 ·have hl:((k.y).map Hh).length=(k.y).length:=by simp
  refine Ua [.t rfl,.i 1] rfl ?_ (by simp [Uz]);refine Uf (S:=Nat) 1 (λL1 j=>(20,.v (.oi j))::L1) (λ_=>[.blk 38 (cl k)]) (λj=>(k.y).length-j) (λj=>j<=(k.y).length/\∀ n z,n<j->(k.y)[n]? = some z->Fe z<=128) 0 ⟨Qh _,λn z h=>by omega⟩ rfl rfl λj ⟨hj,hs⟩=>?_
  by_cases h:j<(k.y).length
  ·obtain ⟨z,hz⟩:=gxE (l:=(k.y)) (i:=j) h;by_cases hb:Fe z<=128
   ·have hb4:=RZ.2 hb;refine Ub [.t (by simp; omega),.x (Gt (f:=Hh) hz),.f (by simp [lml]; omega)] rfl ?_;exact rd (j+1) (by omega) ⟨h,λn y hn hy=>by
     rcases Za n j with h2 | h2
     ·exact hs n y h2 hy
     ·have:n=j:=by omega
      subst this; rw [hz] at hy; injection hy with hy; rw [<-hy]; exact hb⟩ rfl
   ·have hb4:=mt RZ.1 hb;rw [WX (Qq.2 (.inl (Qq.2 (.inr (Qa hz))))) hb];exact Uc [.t (by simp; omega),.x (Gt (f:=Hh) hz),.t (by simp [lml]; omega)] rfl
  ·have hall:∀ z∈k.y,Fe z≤128:=λz hz=>by
    obtain ⟨n,hn⟩:=Xt hz;exact hs n z (by have:=(Qf.1 hn).1; omega) hn
   refine Ua [.f (by simp; omega)] rfl ?_ (by simp [Uz]);exact rd 2 (by omega) ⟨by omega,λ_=>g0 (by omega),λ_=>hall,by omega⟩ rfl
 ·have hl:(([k.d]).map Hh).length=([k.d]).length:=by simp
  have h1:([k.d]).length=1:=rfl;refine Ua [.t rfl,.i 2] rfl ?_ (by simp [Uz]);refine Uf (S:=Nat) 1 (λL1 j=>(20,.v (.oi j))::L1) (λ_=>[.blk 38 (cl k)]) (λj=>([k.d]).length-j) (λj=>j<=([k.d]).length/\∀ n z,n<j->([k.d])[n]? = some z->Fe z<=128) 0 ⟨Qh _,λn z h=>by omega⟩ rfl rfl λj ⟨hj,hs⟩=>?_
  by_cases h:j<([k.d]).length
  ·obtain ⟨z,hz⟩:=gxE (l:=([k.d])) (i:=j) h;by_cases hb:Fe z<=128
   ·have hb4:=RZ.2 hb;refine Ub [.t (by simp; omega),.x (Gt (f:=Hh) hz),.f (by simp [lml]; omega)] rfl ?_;exact rd (j+1) (by omega) ⟨h,λn y hn hy=>by
     rcases Za n j with h2 | h2
     ·exact hs n y h2 hy
     ·have:n=j:=by omega
      subst this; rw [hz] at hy; injection hy with hy; rw [<-hy]; exact hb⟩ rfl
   ·have hb4:=mt RZ.1 hb;rw [WX (Qq.2 (.inr (Qa hz))) hb];exact Uc [.t (by simp; omega),.x (Gt (f:=Hh) hz),.t (by simp [lml]; omega)] rfl
  ·have hall:∀ z∈[k.d],Fe z≤128:=λz hz=>by
    obtain ⟨n,hn⟩:=Xt hz;exact hs n z (by have:=(Qf.1 hn).1; omega) hn
   refine Ua [.f (by simp; omega)] rfl ?_ (by simp [Uz]);exact rd 3 (by omega) ⟨by omega,λ_=>g0 (by omega),λ_=>g1 (by omega),λ_=>hall k.d (by simp)⟩ rfl
 ·rw [EZ.2 ⟨g0 (by omega),g1 (by omega),g2 (by omega)⟩];exact Uc [.f rfl] rfl
def RY (p:Pt):Bool:=decide (0<=p.id) && (decide (p.id<=1048576) && QD p.c)
theorem Qs2 {p:Pt} (hk:Cs 4294967294 1073741824 p.c):Ug 120 [.agg (Fa p)] [.one (.bool (RY p))]:=by
 have cs:=Qe1 hk;by_cases h0:0<=p.id
 ·by_cases h1:p.id<=1048576
  ·have e:RY p=QD p.c:=by simp [RY,h0,h1]
   rw [e];exact Ud func120 rfl [.t (by simpa using h0),.t (by simpa using h1),.k cs] rfl
  ·have e:RY p=false:=by simp [RY,h1]
   rw [e];exact Ud func120 rfl [.t (by simpa using h0),.f (by simpa using h1)] rfl
 ·have e:RY p=false:=by simp [RY,h0]
  rw [e];exact Ud func120 rfl [.f (by simpa using h0),.f rfl] rfl
theorem Qsn {k:Crv} (hn:JP k) (hk:Cs 4294967294 1073741824 k):Ug 121 [.agg (cl k)] [.oi (wG k)] :=
 Ud func121 rfl [.k (BZ hn hk),.k (Mq k.x),.k (Mq k.y)] rfl
def Ni (np nd:Int) (M:List Pt) (p:Pt):Int:=if RY p=false then 1 else if has M p.id=true then 6 else if nd<wG p.c then 7 else if np<=(M.length:Int) then 9 else 0
theorem Qs1 {lx ly:Up} {px py:Uj} {x y:LV} {d id np nd:Int} {l:List Pt} (hx:IsInts lx px) (hy:IsInts ly py) (hd:Gv x y d) (hk:Cs 4294967294 1073741824 (Crv.mk px py d)) (hl:l.length<=1000000) :
 U5 prog 92 [.one (.ow 0 0),.agg [.row lx,.row ly,x,y,.int .i64 id]] [tB np nd l] [.oi (Ni np nd l (Pt.mk (Crv.norm (Crv.mk px py d)) id))] [tB np nd (if Ni np nd l (Pt.mk (Crv.norm (Crv.mk px py d)) id)=0 then put l (Pt.mk (Crv.norm (Crv.mk px py d)) id) else l)]:=by
 have cf:=AD hx hy hd hk id;have hkn:=hk.norm (by omega);have hnm:=Crv.nml (Crv.mk px py d);obtain ⟨b,r,rfl,rfl,_⟩:=hd;obtain ⟨q,hq⟩:=nmE (Pt.mk (Crv.norm (Crv.mk px py d)) id);have hqi:q.id=id:=by rw [hq]
 have hqc:q.c=Crv.norm (Crv.mk px py d):=by rw [hq]
 rw [<-hq] at cf ⊢;rw [<-hqc] at hkn hnm;have ca:U5 prog 119 [.one (.ow 0 0),.oi q.id] [tB np nd l] [.oi (Im l id:Int),.one (.bool (has l id))] [tB np nd l]:=by rw [hqi]; exact Qwt id (by omega)
 have cm:=Qs2 (p:=q) hkn;have cd:=Qsn hnm hkn;have hpl:=nW l id;have hll:(l.map Fa).length=l.length:=by simp
 by_cases h0:RY q=false
 ·have e:Ni np nd l q=1:=by simp [Ni,h0]
  rw [e,if_neg (by decide)];refine Fw func92 rfl ?_;exact Ue [] [0] [.k cf,.c [0] ca,.k cm,.t (by simp [h0])] rfl
 by_cases h1:has l id=true
 ·have e:Ni np nd l q=6:=by simp [Ni,h0,hqi,h1]
  rw [e,if_neg (by decide)];refine Fw func92 rfl ?_;exact Ue [] [0] [.k cf,.c [0] ca,.k cm,.f (by simpa using h0),.t h1] rfl
 by_cases h2:nd<wG q.c
 ·have e:Ni np nd l q=7:=by simp [Ni,h0,hqi,h1,h2]
  rw [e,if_neg (by decide)];refine Fw func92 rfl ?_;exact Ue [] [0] [.k cf,.c [0] ca,.k cm,.f (by simpa using h0),.f (by simpa using h1),.k cd,.t (by simpa using h2)] rfl
 by_cases h3:np<=(l.length:Int)
 ·have e:Ni np nd l q=9:=by simp [Ni,h0,hqi,h1,h2,h3]
  rw [e,if_neg (by decide)];refine Fw func92 rfl ?_;exact Ue [] [0] [.k cf,.c [0] ca,.k cm,.f (by simpa using h0),.f (by simpa using h1),.k cd,.f (by simpa using h2),.t (by simp; omega)] rfl
 have e:Ni np nd l q=0:=by simp [Ni,h0,hqi,h1,h2,h3]
 rw [e,if_pos rfl];have s1:∀ c∈(l.map Fa).take (Im l id),c.length=5:=λc hc=>JQ l c (Qo hc)
 have s3:∀ c∈(l.map Fa).drop (Im l id),c.length=5:=λc hc=>JQ l c (Q3 hc)
 have ep:pts (put l q)=.row ((l.map Fa).take (Im l id)++[Fa q]++(l.map Fa).drop (Im l id)):=by
  simp [put,hqi,pts,Js,Vg]
 have eB:tB np nd (put l q)=.blk 140 [.int .i64 np,.int .i64 nd,.row ((l.map Fa).take (Im l id)++[Fa q]++(l.map Fa).drop (Im l id))]:=by
  show OB.blk 140 [.int .i64 np,.int .i64 nd,pts (put l q)]=_;rw [ep]
 rw [eB];refine Fw func92 rfl ?_;exact Ue [2] [0] [.k cf,.c [0] ca,.k cm,.f (by simpa using h0),.f (by simpa using h1),.k cd,.f (by simpa using h2),.f (by simp; omega),.i (Im l id),.s s1,.i (Im l id),.s s3] rfl (by
  simp only [Uz,Qy,Q7,X4,Qt,Zl,hll]
  and_intros <;> first | exact JQ l | omega)
theorem Qe3 {np nd:Int} {l:List Pt} (hok:∀ p∈l,oY 4294967294 1073741824 p) (hl:l.length≤1000000):U5 prog 31 [.one (.ow 0 0)] [tB np nd l] [.one (pts l)] [tB np nd l]:=by
 have hll:(l.map Fa).length=l.length:=by simp
 refine Fw func31 rfl ?_;refine Ua [.o 3 40 5] rfl ?_;refine Uf (S:=Nat) 2 (λL1 i=>(11,.v (.oi i))::(3,.v (.one (.orow 1 5 none)))::L1) (λi=>[tB np nd l,.row false 40 5 ((l.take i).map Fa)]) (λi=>l.length-i) (λi=>i<=l.length) 0 (Qh _) rfl rfl λi hi=>?_
 by_cases h:i<l.length
 ·obtain ⟨p,hp⟩:=gxE (l:=l) (i:=i) h;have hpo:=hok p (Qa hp);have cf:=pQ hpo.1 hpo.2;have s2:∀ c∈[Fa p],c.length=5:=λc hc=>by rw [Qk.1 hc]; rfl
  have hg:(l.take (i+1)).map Fa=(l.take i).map Fa++[Fa p]:=by rw [Zv,hp]; simp
  refine Ub [.t (by simp; omega),.x (Ry hp),.k cf,.s s2] rfl ?_;exact rd (i+1) (by omega) h (by rw [hg]; rfl)
 ·obtain rfl:i=l.length:=by omega
  rw [Q5];exact Ue [1] [0] [.f (by simp)] rfl
theorem Qe4 {np nd:Int} {l:List Pt}:U5 prog 40 [.one (.ow 0 0)] [tB np nd l] [.one (.ow 1 0)] [tB np nd l,tB np nd l]:=by
 refine Fw func40 rfl ?_;exact Ue [] [0,1] [] rfl
end Orr
