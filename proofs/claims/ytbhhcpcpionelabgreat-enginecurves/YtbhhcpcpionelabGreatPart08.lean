/- H1 HullQ HullS HullT PairQ PW1 DigL R1 R2 S2 S3 NewsN PW2 TouL TouQ MeshN EnL KT EnS SD1 En1 -/
import Derived.Test.YtbhhcpcpionelabGreatPart07
import Derived.Test.YtbhhcpcpionelabGreatPart05
import Derived.Test.YtbhhcpcpionelabGreatPart00
import Derived.Test.YtbhhcpcpionelabGreatPart04
set_option linter.all false
namespace Orr
open Go Go.Proofs Tryz Orq
set_option maxRecDepth 10000
theorem gz {P:Program} [Mo P] {n:Nat} {Q:Exit->Sg->Ur->Prop} {L L':Sg} {B B':Ur} (i:Nat) {it:List It} (hs:H9 it=true) (h:Qb4 [i] L B=some (L',B')) (k:AK P n Q it L' B'):AK P n Q it L B:=AK.sub (FW h) hs k
theorem LK {r:Ul} {i:Nat} {p:Uk} (h:r[i]? = some p):(JQ r)[i]? = some [pl p]:=Gn h
theorem Er {l:List Ul} {i:Nat} {r:Ul} (h:l[i]? = some r):(A9 l)[i]? = some [.row (JQ r)]:=Gn h
theorem Qdj {r:Ul} (ht:∀ p∈r,U7 p) (hb:∀ p∈r,Bd 1000000 p) (hl:∀ p∈r,p.length≤1000000) (hn:r.length≤1000):Uh 239 [.one (.row (JQ r))] [.one (.row (JQ r))]:=by
 have hrl:(JQ r).length=r.length:=by simp
 refine Ft func239 rfl ?_;refine Ub [.o 3 31 1] rfl ?_;refine Ug (S:=Nat) 1 (λL1 i=>(8,.v (.oi i))::(3,.v (.one (.orow 0 1 none)))::L1) (λi=>[.row false 31 1 (JQ (r.take i))]) (λi=>r.length-i) (λi=>i<=r.length) 0 (Qh _) rfl rfl λi hi=>?_
 by_cases h:i<r.length
 ·obtain ⟨p,hp⟩:=gxE (l:=r) (i:=i) h;have hm:=Qa hp;have hs:∀ y∈[[pl p]],y.length=1:=λy hy=>by rw [Qk.1 hy]; rfl
  have e:JQ (r.take (i+1))=JQ (r.take i)++[[pl p]]:=by rw [Zw,hp]; simp
  refine go tt [.T,.x (LK hp),.k (Hn (ht p hm) (by have:=hl p hm; omega) (Ux (hb p hm) (by decide))),.s (sz:=1) hs] rfl (by simp [Uw] <;> omega) ?_;exact rd (i+1) (by omega) h (by rw [e]; rfl)
 ·obtain rfl:i=r.length:=by omega
  rw [Q5];exact Ud [.F] rfl
theorem Qwp {s k w:Nat} {ds:Um} {rows:List Ul} (h:Sq s ds k k rows) (_hw:w=k) (hk:k<=4):Uh 269 [.one (.row (A9 rows))] [.one (.bool true)]:=by
 have hrl:=YK rows;have hl:=h.l;refine Ft func269 rfl ?_;refine Ub [] rfl ?_;refine Ug (S:=Nat) 0 (λL1 i=>(7,.v (.oi i))::L1) (λ_=>[]) (λi=>rows.length-i) (λi=>i<=rows.length) 0 (Qh _) rfl rfl λi hi=>?_
 by_cases hlt:i<rows.length
 ·obtain ⟨r,hr⟩:=gxE (l:=rows) (i:=i) hlt;have hw:=h.w r (Qa hr);have hql:(JQ r).length=r.length:=by simp
  refine go tt [.T,.x (Er hr),.f (decide_eq_false (λh=>h (by omega)))] rfl (by simp [Uw] <;> omega) ?_;exact rd (i+1) (by omega) hlt rfl
 ·exact Ud [.F] rfl (by rw [decide_eq_true (by omega:((A9 rows).length:Int)<=4)]) trivial
theorem Qmk {s k w:Nat} {ds:Um} {rows:List Ul} (h:Sq s ds k w rows) (hs:s<=1000000) (hk:k<=4) (hw:w<=4) (hd:∀ j,ds.getD j 0<=1000) (i:Nat):Uh 293 [.oi i,.oi 0,.one (.row (A9 rows))] [.one (.row (A9 (YE rows i)))]:=by
 have hrl:=YK rows;have hl:=h.l;have hml:∀ j,j<=rows.length->(A9 (XT i rows j)).length<=4:=λj hj=>by
  rw [YK,CC]; split <;> omega
 refine Ft func293 rfl ?_;refine Ub [.o 7 306 1] rfl ?_;refine Ug (S:=Nat) 1 (λL1 j=>(15,.v (.oi j))::(7,.v (.one (.orow 0 1 none)))::L1) (λj=>[.row false 306 1 (A9 (XT i rows j))]) (λj=>rows.length-j) (λj=>j<=rows.length) 0 (Qh _) rfl rfl λj hj=>?_
 have hmlj:=hml j hj;by_cases hlt:j<rows.length
 ·obtain ⟨r,hr⟩:=gxE (l:=rows) (i:=j) hlt;have hm:=Qa hr;have hw:=h.w r hm;have hql:(JQ r).length=r.length:=by simp
  by_cases hij:j=i
  ·have e:XT i rows (j+1)=XT i rows j:=by simp only [XT]; rw [if_pos hij]
   refine go tt [.T,.x (Er hr),.T] rfl (by simp [Uw] <;> omega) ?_;exact rd (j+1) (by omega) hlt (by rw [e]; rfl)
  ·have e:XT i rows (j+1)=XT i rows j++[r.drop 1]:=by
    simp only [XT]; rw [if_neg hij,Qi,hr]; rfl
   refine Ub [.T,.x (Er hr),.F,.o 10 31 1] rfl ?_ (by simp [Uw]);refine Ug (S:=Nat) 2 (λL1 c=>(25,.v (.oi c))::(10,.v (.one (.orow 1 1 none)))::L1) (λc=>[.row false 306 1 (A9 (XT i rows j)),.row false 31 1 (JQ ((r.take c).drop 1))]) (λc=>r.length-c) (λc=>c<=r.length) 0 (Qh _) rfl rfl λc hc=>?_
   by_cases hcl:c<r.length
   ·obtain ⟨p,hp⟩:=gxE (l:=r) (i:=c) hcl;have hpm:=Qa hp;by_cases h0:c=0
    ·subst h0;refine Ub [.T,.x (LK hp),.f (decide_eq_false (by simp))] rfl ?_ (by simp [Uw]);exact rd 1 (by omega) hcl (by rw [Zw,hp]; rfl)
    ·have hs1:∀ y∈[[pl p]],y.length=1:=λy hy=>by rw [Qk.1 hy]; rfl
     have e2:JQ ((r.take (c+1)).drop 1)=JQ ((r.take c).drop 1)++[[pl p]]:=by
      rw [Zw,hp,Wg (by rw [Qq]; omega)]; simp
     refine go tt [.T,.x (LK hp),.T,.k (Hn (h.t r hm p hpm) (by have:=h.n r hm c p hp; have:=hd c; omega) (Ux (h.b r hm p hpm) (by omega))),.s (sz:=1) hs1] rfl (by simp [Uw] <;> omega) ?_;exact rd (c+1) (by omega) hcl (by rw [e2]; rfl)
   ·obtain rfl:c=r.length:=by omega
    rw [Q5];have hs1:∀ y∈[[LV.row (JQ (r.drop 1))]],y.length=1:=λy hy=>by rw [Qk.1 hy]; rfl
    refine Ub [.F] rfl ?_;refine gz 1 rfl rfl ?_;refine go tt [.s (sz:=1) hs1] rfl (by simp [Uw] <;> omega) ?_;exact rd (j+1) (by omega) hlt (by rw [e]; simp [A9]; rfl)
 ·obtain rfl:j=rows.length:=by omega
  exact Ud [.F] rfl
theorem TM:∀ (ds:Um) (j:Nat),ds.getD j 0<=ds.sum
 | [],j=>by simp
 | d::ds,0=>by simp
 |
  d::ds,j+1=>by
  have:=TM ds j;rw [Kt];show ds.getD j 0<=_;omega
theorem Qql {s:Nat} (hs:s<=100000):∀ (k:Nat) (ds:Um) (rows:List Ul),k<=4->ds.length=k->ds.sum<31->Sq s ds k k rows->Uh 270 [.one (.row (A9 rows))] [pr (D7 k rows)]
 |
  0,ds,rows,_,_,_,h=>by
  have e:=Qj h.l;subst e;have co:=dK (p:=[1]) (by decide) (by decide);exact Ue func270 rfl [.t rfl,.k co] rfl
 | k+1,[],_,_,hl,_,_=>by simp at hl
 |
  k+1,d::ds,rows,hk,hl,hd,h=>by
  rw [Kt] at hd;have hl':ds.length=k:=by simpa using hl
  have hrl:=YK rows;have hrn:=h.l;have hmin:=λi (hi:i<k+1)=>h.min hi
  have ih:=λi (hi:i<k+1)=>Qql hs k ds (YE rows i) (by omega) hl' (by omega) (hmin i hi)
  have hok:=λi (hi:i<k+1)=>MW k ds (YE rows i) (by omega) hl' (by omega) (hmin i hi)
  have hb:k*(s+10)+1<=500000:=by
   have:k*(s+10)<=4*(100010):=Zh (by omega) (by omega);omega
  have hds:=xZ (f:=λi=>D7 k (YE rows i)) (B:=k*(s+10)+1) (L:=ds.sum) h (by omega) (λi hi=>⟨(hok i hi).2.1,(hok i hi).2.2⟩);have cm:=Qmk h (by omega) hk hk (λj=>by have:=TM (d::ds) j; rw [Kt] at this; omega);show Uh 270 [.one (.row (A9 rows))] [pr (C0 (λi=>D7 k (YE rows i)) rows (k+1))];obtain ⟨f,hf⟩:=nmE (λi=>D7 k (YE rows i));rw [<-hf] at hds ⊢;have hfi:∀ i,f i=D7 k (YE rows i):=λi=>by rw [hf]
  refine Ft func270 rfl ?_;refine Ub [.F,.z 3] rfl ?_;refine Ug (S:=Nat) 0 (λL1 i=>(14,.v (.oi i))::(3,.v (pr (C0 f rows i)))::L1) (λ_=>[]) (λi=>k+1-i) (λi=>i<=k+1) 0 (Qh _) rfl rfl λi hi=>?_
  obtain ⟨d1,d2,d3⟩:=hds i hi;by_cases hlt:i<k+1
  ·obtain ⟨p,r,hr,e,t,b,l⟩:=h.at hlt;have hx0:(JQ (p::r))[0]? = some [pl p]:=rfl;have hpl:(p.map He).length=p.length:=by simp
   have cn:=Hn t (by omega) (Ux b (by omega));by_cases h0:p.length=0
   ·have es:C0 f rows (i+1)=C0 f rows i:=by simp only [C0]; rw [e,if_pos h0]
    refine go tt [.T,.x (Er hr),.x hx0,.k cn,.T] rfl (by simp [Uw] <;> omega) ?_;exact rd (i+1) (by omega) hlt (by rw [es]; rfl)
   ·obtain ⟨k1,k2,k3⟩:=hok i hlt;have ci:=ih i hlt;have cp:=GP (p:=p) (q:=f i) t (by rw [hfi]; exact k1) (by omega) (by rw [hfi]; omega) b (by rw [hfi]; exact k2) (by omega);have hmb:Bd (s+(k*(s+10)+1)+5) (Gh p (f i)):=P9 b (by rw [hfi]; exact k2) (by omega);have hml:=Sw p (f i);have hfl:(f i).length<=ds.sum+1:=by rw [hfi]; exact k3
    rw [<-hfi] at ci;by_cases h2:i % 2=0
    ·have es:C0 f rows (i+1)=ZU (C0 f rows i) (Gh p (f i)):=by simp only [C0]; rw [e,if_neg h0,if_pos h2]
     refine go tt [.T,.x (Er hr),.x hx0,.k cn,.F,.x hx0,.k (cm i),.k ci,.k cp,.r 34 (eI (b:=((i % 2:Nat):Int)) rfl),.T,.k (zG (p:=C0 f rows i) (q:=Gh p (f i)) (by omega) (by omega) (Ux d2 (by omega)) (Ux hmb (by omega)))] rfl (by simp [Uw] <;> omega) ?_;exact rd (i+1) (by omega) hlt (by rw [es]; rfl)
    ·have es:C0 f rows (i+1)=Mq (C0 f rows i) (Gh p (f i)):=by simp only [C0]; rw [e,if_neg h0,if_neg h2]
     refine go tt [.T,.x (Er hr),.x hx0,.k cn,.F,.x hx0,.k (cm i),.k ci,.k cp,.r 34 (eI (b:=((i % 2:Nat):Int)) rfl),.F,.k (GM (p:=C0 f rows i) (q:=Gh p (f i)) (by omega) (by omega) (Ux d2 (by omega)) (Ux hmb (by omega)))] rfl (by simp [Uw] <;> omega) ?_;exact rd (i+1) (by omega) hlt (by rw [es]; rfl)
  ·obtain rfl:i=k+1:=by omega
   exact Ud [.F] rfl
theorem Qqd {s:Nat} (hs:s<=100000) {k:Nat} {ds:Um} {rows:List Ul} (hk:k<=4) (hl:ds.length=k) (hd:ds.sum<31) (h:Sq s ds k k rows):Uh 240 [.one (.row (A9 rows))] [pr (D7 k rows),.oi 0] :=
 Ue func240 rfl [.k (Qwp h rfl hk),.f rfl,.k (Qql hs k ds rows hk hl hd h)] rfl
theorem pY {k:Crv} (hk:Sc k):Uh 238 [.agg (cl k)] [.one (.row (JQ [k.x,k.y,[k.d]]))]:=by
 have h0:k.d≠0:=by have:=hk.n.2.2.1; omega
 have td:U7 [k.d]:=by unfold U7; simp [trim,h0]
 have cd:=Qdj (r:=[k.x,k.y,[k.d]]) (λp hp=>by
  rcases Ql.1 hp with rfl | hp
  ·exact hk.n.1
  rcases Ql.1 hp with rfl | hp
  ·exact hk.n.2.1
  ·rw [Qk.1 hp]; exact td) (λp hp=>by
  rcases Ql.1 hp with rfl | hp
  ·exact Ux hk.c.x (by decide)
  rcases Ql.1 hp with rfl | hp
  ·exact Ux hk.c.y (by decide)
  ·rw [Qk.1 hp];intro z hz; rw [Qk.1 hz]; exact Qc hk.c.d (by decide)) (λp hp=>by
  rcases Ql.1 hp with rfl | hp
  ·have:=hk.c.lx; omega
  rcases Ql.1 hp with rfl | hp
  ·have:=hk.c.ly; omega
  ·rw [Qk.1 hp]; show 1<=1000000; decide) (by show 3<=1000; decide)
 exact Ue func238 rfl [.k (Dd hk.n (hk.c.mono (by decide) (by decide))),.k cd] rfl
theorem rD {a b c:Crv} (ha:Sc a) (hb:Sc b) (hc:Sc c):Sq 128 [2,2,0] 3 3 (fC a b c):=by
 have key:∀ k:Crv,Sc k->(∀ p∈[k.x,k.y,[k.d]],U7 p/\Bd 128 p)/\∀ (j:Nat) (p:Uk),[k.x,k.y,[k.d]][j]? = some p->p.length≤[2,2,0].getD j 0+1:=λk hk=>by
  have h0:k.d≠0:=by have:=hk.n.2.2.1; omega
  have td:U7 [k.d]:=by unfold U7; simp [trim,h0]
  refine ⟨λp hp=>?_,λj p hp=>?_⟩
  ·rcases Ql.1 hp with rfl | hp
   ·exact ⟨hk.n.1,hk.c.x⟩
   rcases Ql.1 hp with rfl | hp
   ·exact ⟨hk.n.2.1,hk.c.y⟩
   ·rw [Qk.1 hp];exact ⟨td,λz hz=>by rw [Qk.1 hz]; exact hk.c.d⟩
  ·match j,hp with
   | 0,hp=>injection hp with hp; subst hp; exact hk.c.lx
   | 1,hp=>injection hp with hp; subst hp; exact hk.c.ly
   | 2,hp=>injection hp with hp; subst hp; exact Qm _
   | j+3,hp=>simp at hp
 have hr:∀ r∈fC a b c,∃ k:Crv,Sc k/\r=[k.x,k.y,[k.d]]:=λr hr=>by
  rcases Ql.1 hr with rfl | hr
  ·exact ⟨a,ha,rfl⟩
  rcases Ql.1 hr with rfl | hr
  ·exact ⟨b,hb,rfl⟩
  ·rw [Qk.1 hr]; exact ⟨c,hc,rfl⟩
 refine ⟨rfl,λr h=>?_,λr h p hp=>?_,λr h p hp=>?_,λr h j p hp=>?_⟩
 all_goals obtain ⟨k,hk,rfl⟩:=hr r h
 ·rfl
 ·exact ((key k hk).1 p hp).1
 ·exact ((key k hk).1 p hp).2
 ·exact (key k hk).2 j p hp
theorem JC {a b c:Crv} (ha:Sc a) (hb:Sc b) (hc:Sc c):Cp (Ha a b c):=by
 obtain ⟨h1,h2,h3⟩:=MW 3 [2,2,0] (fC a b c) (by decide) rfl (by decide) (rD ha hb hc);exact ⟨h1,Qc h3 (by decide),Ux h2 (by decide)⟩
theorem kJ {a b c:Crv} (ha:Sc a) (hb:Sc b) (hc:Sc c):Uh 198 [.agg (cl a),.agg (cl b),.agg (cl c)] [pr (Ha a b c)]:=by
 have cd:=Qqd (by decide) (k:=3) (ds:=[2,2,0]) (by decide) rfl (by decide) (rD ha hb hc);exact Ue func198 rfl [.k (pY ha),.k (pY hb),.k (pY hc),.k cd] rfl
end Orr
namespace Orq
open Orr Go
theorem tX {p q:Uk} (tp:U7 p) (tq:U7 q) (h:∀ i,p.getD i 0=q.getD i 0):p=q:=by
 have hl:∀ {p q:Uk},U7 p->(∀ i,p.getD i 0=q.getD i 0)->p.length<=q.length:=λ{p q} tp h=>by
  refine Nat.not_lt.1 λhn=>?_
  have h1:=Hx tp (by omega);rw [h,Qi,Qw (by omega)] at h1;exact h1 rfl
 have e:=Ka (hl tp h) (hl tq λi=>(h i).symm);refine List.ext_getElem e λi h1 h2=>?_
 have:=h i;rw [Qi,Qi,Qe h1,Qe h2] at this;exact this
theorem uG {p:Uk} (h:p=[]) (i:Nat):p.getD i 0=0:=by rw [h]; simp
theorem Ec (p:Uk) (c:Int) (i:Nat):(Fo p c).getD i 0=p.getD i 0*c:=by
 unfold Fo;rw [Sv]
 split
 ·rfl
 ·rename_i h;rw [Qi,Qw (by omega)]; simp
theorem LX (p q:Uk) (i:Nat):(Mq p q).getD i 0=p.getD i 0-q.getD i 0:=by
 unfold Mq;rw [Sv]
 split
 ·rfl
 ·rename_i h;rw [Qi,Qi,Qw (by omega),Qw (by omega)]; simp
theorem Qn6 {x y:Crv} (hx:ZR x) (hy:ZR y) (h1:Gd x y=[]) (h2:Gb x y=[]):x=y:=by
 have e1:∀ i,y.x.getD i 0*x.d=x.x.getD i 0*y.d:=λi=>by
  have:=uG h1 i;unfold Gd at this;rw [LX,Ec,Ec] at this;omega
 have e2:∀ i,y.y.getD i 0*x.d=x.y.getD i 0*y.d:=λi=>by
  have:=uG h2 i;unfold Gb at this;rw [LX,Ec,Ec] at this;omega
 have key:∀ {x y:Crv},ZR x->ZR y->(∀ i,y.x.getD i 0*x.d=x.x.getD i 0*y.d)->(∀ i,y.y.getD i 0*x.d=x.y.getD i 0*y.d)->x.d∣y.d:=λ{x y} hx hy e1 e2=>by
  have hd:=wB (d:=x.d) (l:=(x.d::(x.x++x.y)).map (· * y.d)) λz hz=>by
   obtain ⟨w,hw,rfl⟩:=Za.1 hz;rcases Ql.1 hw with rfl | hw
   ·exact Int.dvd_mul_right _ _
   ·rcases Qr.1 hw with hw | hw
    ·obtain ⟨i,hi,rfl⟩:=V0.1 hw;have:=e1 i;rw [show x.x.getD i 0=x.x[i] from by rw [Qi,Qe hi]; rfl] at this;rw [<-this]; exact Y8 _ _
    ·obtain ⟨i,hi,rfl⟩:=V0.1 hw;have:=e2 i;rw [show x.y.getD i 0=x.y[i] from by rw [Qi,Qe hi]; rfl] at this;rw [<-this]; exact Y8 _ _
  rw [Qgk,hx.2.2.2,Wm] at hd;exact V5 hd (Int.natAbs_dvd.2 (K7 _))
 have hd:x.d=y.d:=Int.dvd_antisymm (Int.le_of_lt hx.2.2.1) (Int.le_of_lt hy.2.2.1) (key hx hy e1 e2) (key hy hx (λi=>(e1 i).symm) λi=>(e2 i).symm);have hd0:y.d≠0:=by have:=hy.2.2.1; omega
 rw [hd] at e1 e2;have ex:x.x=y.x:=tX hx.1 hy.1 λi=>(Y3 hd0 (e1 i)).symm
 have ey:x.y=y.y:=tX hx.2.1 hy.2.1 λi=>(Y3 hd0 (e2 i)).symm
 cases x; cases y;simp only at hd ex ey;rw [hd,ex,ey]
theorem Qpr (l:List Pt):(Ta l).Pairwise λx y=>x.c≠y.c:=by
 have key:∀ (l out:List Pt),out.Pairwise (λx y=>x.c≠y.c)->(l.foldl Bl out).Pairwise λx y=>x.c≠y.c:=by
  intro l
  induction l with
  | nil=>intro out h; exact h
  |
   cons p l ih =>
   intro out h;refine ih _ ?_;unfold Bl
   split
   ·exact h
   ·rename_i hn;refine Xv.2 ⟨h,Kk _ _,λa ha b hb e=>hn ?_⟩;rw [Qk.1 hb] at e;rw [List.any_eq_true];exact ⟨a,ha,by rw [<-e]; simp [Lr]⟩
 exact key l [] .nil
theorem Qka (l:List Pt):(Ta l).Sublist l:=by
 have key:∀ (l out o:List Pt),out.Sublist o->(l.foldl Bl out).Sublist (o++l):=by
  intro l
  induction l with
  | nil=>intro out o h; rw [Zx]; exact h
  |
   cons p l ih =>
   intro out o h;have:(Bl out p).Sublist (o++[p]):=by
    unfold Bl
    split
    ·exact h.trans (List.sublist_append_left _ _)
    ·exact h.append (List.Sublist.refl _)
   have:=ih _ _ this;rwa [Zc] at this
 exact key l [] [] (List.Sublist.refl _)
theorem Oe (f:Nat->Uk) (rows:List Ul) (q:Rat) (i:Nat):U4 (C0 f rows (i+1)) q=U4 (C0 f rows i) q+(if i % 2=0 then 1 else -1)*(U4 ((rows.getD i []).getD 0 []) q*U4 (f i) q):=by
 simp only [C0]
 split
 ·rename_i h;have:U4 ((rows.getD i []).getD 0 []) q=0:=by rw [Qj h]; rfl
  rw [this]; grind
 ·split
  ·rw [DG,Fy]; grind
  ·rw [M6,Fy]; grind
theorem aC (z:Int) (q:Rat):U4 [z] q=(z:Rat):=by simp [U4,Rat.add_zero]
theorem gX (p:Uk) (q:Rat):U4 (D7 1 [[p]]) q=U4 p q:=by
 show U4 (C0 (λi=>D7 0 (YE [[p]] i)) [[p]] (0+1)) q=_;rw [Oe];show (0:Rat)+1*(U4 p q*U4 [1] q)=_;rw [aC];have:((1:Int):Rat)=1:=rfl;grind
theorem DF (p r s t:Uk) (q:Rat):U4 (D7 2 [[p,r],[s,t]]) q=U4 p q*U4 t q-U4 s q*U4 r q:=by
 show U4 (C0 (λi=>D7 1 (YE [[p,r],[s,t]] i)) [[p,r],[s,t]] (0+1+1)) q=_;rw [Oe,Oe];show (0:Rat)+1*(U4 p q*U4 (D7 1 [[t]]) q)+(-1)*(U4 s q*U4 (D7 1 [[r]]) q)=_;rw [gX,gX]; grind
theorem Qib (a1 a2 a3 b1 b2 b3 c1 c2 c3:Uk) (q:Rat):U4 (D7 3 [[a1,a2,a3],[b1,b2,b3],[c1,c2,c3]]) q=U4 a1 q*(U4 b2 q*U4 c3 q-U4 c2 q*U4 b3 q)-U4 b1 q*(U4 a2 q*U4 c3 q-U4 c2 q*U4 a3 q)+U4 c1 q*(U4 a2 q*U4 b3 q-U4 b2 q*U4 a3 q):=by
 show U4 (C0 (λi=>D7 2 (YE [[a1,a2,a3],[b1,b2,b3],[c1,c2,c3]] i)) [[a1,a2,a3],[b1,b2,b3],[c1,c2,c3]] (0+1+1+1)) q=_;rw [Oe,Oe,Oe];show (0:Rat)+1*(U4 a1 q*U4 (D7 2 [[b2,b3],[c2,c3]]) q)+(-1)*(U4 b1 q*U4 (D7 2 [[a2,a3],[c2,c3]]) q)+1*(U4 c1 q*U4 (D7 2 [[a2,a3],[b2,b3]]) q)=_;rw [DF,DF,DF]; grind
theorem bC {a b c:Pt} (ha:Sc a.c) (hb:Sc b.c) (hc:Sc c.c) (q:Rat):U9 (U4 (Ha a.c b.c c.c) q)=U9 (Nq (px · q) (py · q) a b c):=by
 have Tr:∀ {k:Crv},Sc k->(0:Rat)<(k.d:Rat):=λh=>by exact_mod_cast h.n.2.2.1
 have pa:=Tr ha;have pb:=Tr hb;have pc:=Tr hc;have xx:∀ {p:Pt},0<(p.c.d:Rat)->U4 p.c.x q=px p q*(p.c.d:Rat)/\U4 p.c.y q=py p q*(p.c.d:Rat):=λ{p} h=>by
  unfold px py;exact ⟨(Zi (by grind)).symm,(Zi (by grind)).symm⟩
 obtain ⟨xa,ya⟩:=xx pa;obtain ⟨xb,yb⟩:=xx pb;obtain ⟨xc,yc⟩:=xx pc;have e:U4 (Ha a.c b.c c.c) q=((a.c.d:Rat)*(b.c.d:Rat)*(c.c.d:Rat))*Nq (px · q) (py · q) a b c:=by
  unfold Ha fC Nq;rw [Qib,aC,aC,aC,xa,xb,xc,ya,yb,yc];grind
 rw [e,Ch (Xq (Xq pa pb) pc)]
def US (sg:Uk->Int) (a b c:Pt):Bool:=decide (0<Hd sg (Ha a.c b.c c.c))
def S7 (sg:Uk->Int) (row:List Pt):List Pt:=(Pn (US sg) [] row).reverse
def Lo (sg:Uk->Int) (row:List Pt):List Pt:=if row.length<3 then row else (S7 sg row).dropLast++(S7 sg row.reverse).dropLast
def S0 (l:List Pt) (a:Tm):List Pt:=Lo (Fl a) (Tn a (Ta l))
def Rh (C:List Pt):List (Pt×Pt):=C.zip (C.drop 1++C.take 1)
def Dy (sg:Uk->Int) (a b c:Pt):Ct:=⟨3,a.id,b.id,c.id,0,Ha a.c b.c c.c,Hd sg (Ha a.c b.c c.c)⟩
def YI (e:Pt×Pt) (c:Pt):Bool:=decide (c.id≠e.1.id) && decide (c.id≠e.2.id)
def E7 (sg:Uk->Int) (l:List Pt) (e:Pt×Pt):List Ct:=(l.filter (YI e)).map λc=>Dy sg e.1 e.2 c
def Nn (sg:Uk->Int) (l C:List Pt):List Ct:=if C.length<2 then [] else (Rh C).flatMap (E7 sg l)
def EK (l:List Pt) (a:Tm):List Ct:=ZS l a++Nn (Fl a) l (S0 l a)
abbrev brH (l:List Pt) (a:Tm):Uq:=Uv (S0 l a)
def MA (l:List Pt):Ul:=l.flatMap λx=>l.flatMap λy=>l.map λz=>Ha x.c y.c z.c
theorem vP {l:List Pt} {x y z:Pt} (hx:x∈l) (hy:y∈l) (hz:z∈l):Ha x.c y.c z.c∈MA l :=
 Zo.2 ⟨x,hx,Zo.2 ⟨y,hy,Za.2 ⟨z,hz,rfl⟩⟩⟩
theorem Qk8 {l:List Pt} (hl:∀ p∈l,Sc p.c):∀ p∈MA l,Cp p:=λp hp=>by
 obtain ⟨x,hx,hp⟩:=Zo.1 hp;obtain ⟨y,hy,hp⟩:=Zo.1 hp;obtain ⟨z,hz,rfl⟩:=Za.1 hp;exact JC (hl x hx) (hl y hy) (hl z hz)
theorem DL {α:Type} (s:α->α->α->Bool) (c:α):∀ st:List α,(D9 s c st).Sublist st
 | []=>List.Sublist.refl _
 | [_]=>List.Sublist.refl _
 |
  b::a::r=>by
  simp only [D9]
  split
  ·exact List.Sublist.refl _
  ·exact (DL s c (a::r)).trans (List.sublist_cons_self _ _)
theorem VA {α:Type} {s:α->α->α->Bool}:∀ {l acc:List α} {x:α},x∈Pn s acc l->x∈acc\/x∈l
 | [],acc,x,h=>.inl h
 |
  c::l,acc,x,h=>by
  rcases VA (l:=l) h with h | h
  ·rcases Ql.1 h with rfl | h
   ·exact .inr (by simp)
   ·exact .inl ((DL s c acc).subset h)
  ·exact .inr (Qg _ h)
theorem VE {α:Type} (s:α->α->α->Bool):∀ (l acc:List α),(Pn s acc l).length<=acc.length+l.length
 | [],acc=>by simp [Pn]
 |
  c::l,acc=>by
  have h1:=VE s l (c::D9 s c acc);have h2:=(DL s c acc).length_le;simp only [Pn,Q6] at h1 ⊢;omega
theorem NL {sg:Uk->Int} {row:List Pt} {x:Pt} (h:x∈S7 sg row):x∈row:=by
 unfold S7 at h;rcases VA (Jk.1 h) with h | h
 ·cases h
 ·exact h
theorem QZ (sg:Uk->Int) (row:List Pt):(S7 sg row).length<=row.length:=by
 have:=VE (US sg) row [];unfold S7; rw [List.length_reverse]; simpa using this
theorem bK {sg:Uk->Int} {row:List Pt} {x:Pt} (h:x∈Lo sg row):x∈row:=by
 unfold Lo at h
 split at h
 ·exact h
 ·rcases Qr.1 h with h | h
  ·exact NL ((List.dropLast_sublist _).subset h)
  ·exact Jk.1 (NL ((List.dropLast_sublist _).subset h))
theorem bV (sg:Uk->Int) (row:List Pt):(Lo sg row).length<=2*row.length:=by
 unfold Lo
 split
 ·omega
 ·have h1:=QZ sg row;have h2:=QZ sg row.reverse;rw [Xo] at h2;rw [Qu,List.length_dropLast,List.length_dropLast]; omega
theorem Iy {l:List Pt} {a:Tm} {x:Pt} (h:x∈S0 l a):x∈l:=Nc (Hj.1 (bK h))
theorem JB (l:List Pt) (a:Tm):(S0 l a).length<=2*l.length:=by
 have h1:=bV (Fl a) (Tn a (Ta l));rw [Na] at h1;have:=Oz l;unfold S0; omega
theorem TR {C:List Pt} {e:Pt×Pt} (h:e∈Rh C):e.1∈C/\e.2∈C:=by
 unfold Rh at h;have h1:=List.of_mem_zip (show (e.1,e.2)∈_ from h);refine ⟨h1.1,?_⟩;rcases Qr.1 h1.2 with h | h
 ·exact Qz h
 ·exact Qo h
theorem mU {sg:Uk->Int} {l C:List Pt} {x:Ct} (h:x∈Nn sg l C):∃ e∈Rh C,∃ c∈l,YI e c=true/\x=Dy sg e.1 e.2 c:=by
 unfold Nn at h
 split at h
 ·cases h
 ·obtain ⟨e,he,h⟩:=Zo.1 h;obtain ⟨c,hc,rfl⟩:=Za.1 h;obtain ⟨h1,h2⟩:=Yf.1 hc;exact ⟨e,he,c,h1,h2,rfl⟩
theorem zK {l:List Pt} {a:Tm}:∀ x∈EK l a,x.p∈Lx l++MA l:=λx hx=>by
 rcases Qr.1 hx with hx | hx
 ·exact X8 _ (dQ x hx)
 ·obtain ⟨e,he,c,hc,_,rfl⟩:=mU hx;obtain ⟨h1,h2⟩:=TR he;exact Jf _ (vP (Iy h1) (Iy h2) hc)
theorem PY {l:List Pt} (hl:∀ p∈l,Sc p.c):∀ p∈Lx l++MA l,Cp p:=λp hp=>by
 rcases Qr.1 hp with h | h
 ·exact O2 hl p h
 ·exact Qk8 hl p h
theorem KQ {α β:Type} (f:α->List β) (n:Nat):∀ (m:List α),(∀ x∈m,(f x).length≤n)->(m.flatMap f).length≤m.length*n
 | [],_=>by simp
 |
  x::m,h=>by
  have:=KQ f n m λy hy=>h y (Qg _ hy)
  have:=h x (by simp);rw [Jy,Qu,Q6,Z9]; omega
theorem mW (sg:Uk->Int) (l C:List Pt):(Nn sg l C).length<=C.length*l.length:=by
 unfold Nn
 split
 ·simp
 ·refine Qc (KQ _ l.length _ λe _=>?_) (Q0 _ ?_)
  ·unfold E7; rw [List.length_map]; exact List.length_filter_le _ _
  ·unfold Rh; rw [List.length_zip]; exact Nat.min_le_left _ _
theorem sV {l:List Pt} (hl:∀ p∈l,Sc p.c) (hn:l.length≤10):BuildOk (EK l) :=
 ⟨λ_ _ x hx=>PY hl _ (zK x hx),λa _=>by
  have h1:=mW (Fl a) l (S0 l a);have h2:=JB l a;have h3:(S0 l a).length*l.length<=20*10:=Zh (by omega) hn;show (ZS l a++Nn (Fl a) l (S0 l a)).length<=1000;have h4:(ZS l a).length<=l.length:=by unfold ZS; rw [Bf,Na]; omega
  rw [Qu]; omega⟩
def A1 {α:Type} (l:List α):List (α×α):=l.zip (l.drop 1)
theorem xY {α:Type} {Q:α->α->Prop}:∀ {l:List α},Edg Q l↔∀ e∈A1 l,Q e.1 e.2
 | []=>by simp [Edg,A1]
 | [_]=>by simp [Edg,A1]
 |
  a::b::l=>by
  have ih:=xY (Q:=Q) (l:=b::l);have e:A1 (a::b::l)=(a,b)::A1 (b::l):=rfl;rw [e];constructor
  ·rintro ⟨h1,h2⟩ x hx
   rcases Ql.1 hx with rfl | hx
   ·exact h1
   ·exact ih.1 h2 x hx
  ·intro h;exact ⟨h (a,b) (by simp),ih.2 λx hx=>h x (Qg _ hx)⟩
theorem BX {α:Type} (f z:α) (A:List α):A1 (f::A++[z])=(f::A).zip (A++[z]):=by
 unfold A1;rw [Xa,List.drop_succ_cons,X5];have:f::(A++[z])=(f::A)++[z]:=rfl;rw [this];have h:A++[z]=(A++[z])++[]:=(Zx _).symm
 conv=>lhs; rw [h]
 rw [List.zip_append (by simp)];simp
theorem wO {f z:Pt} {A B:List Pt}:Rh ((f::A++[z]).dropLast++(z::B++[f]).dropLast)=A1 (f::A++[z])++A1 (z::B++[f]):=by
 rw [Vz,Vz,BX,BX,<-List.zip_append (by simp)];unfold Rh;congr 1;simp
theorem Edg.rev {α:Type} {Q:α->α->Prop}:∀ {l:List α},Edg Q l->Edg (λa b=>Q b a) l.reverse:=by
 have app:∀ {Q:α->α->Prop} {l:List α} {b a:α},Edg Q (l++[b])->Q b a->Edg Q (l++[b]++[a]):=by
  intro Q l
  induction l with
  | nil=>intro b a _ h; exact ⟨h,trivial⟩
  |
   cons x l ih =>
   intro b a h h2;cases l with
   | nil=>exact ⟨h.1,ih h.2 h2⟩
   | cons y l=>exact ⟨h.1,ih h.2 h2⟩
 intro l
 induction l with
 | nil=>intro _; trivial
 |
  cons a l ih =>
  intro h;cases l with
  | nil=>trivial
  |
   cons b l =>
   have:=ih h.2;rw [Yl] at this ⊢;rw [Yl];exact app this h.1
theorem Cnv.rev {α:Type} {R:α->α->α->Prop}:∀ {l:List α},Cnv R l->Cnv (λa b c=>R c b a) l.reverse:=by
 have app:∀ {R:α->α->α->Prop} {l:List α} {c b a:α},Cnv R (l++[c,b])->R c b a->Cnv R (l++[c,b,a]):=by
  intro R l
  induction l with
  | nil=>intro c b a _ h; exact ⟨h,trivial⟩
  |
   cons x l ih =>
   intro c b a h h2;cases l with
   | nil=>exact ⟨h.1,ih h.2 h2⟩
   |
    cons y l =>
    cases l with
    | nil=>exact ⟨h.1,ih h.2 h2⟩
    | cons w l=>exact ⟨h.1,ih h.2 h2⟩
 intro l
 induction l with
 | nil=>intro _; trivial
 |
  cons a l ih =>
  intro h
  match l,h with
  | [],_=>trivial
  | [_],_=>trivial
  |
   b::c::l,h =>
   have:=ih h.2;rw [Yl,Yl,Zc] at this;rw [Yl,Yl,Yl,Zc,Zc];exact app this h.1
section
variable {α:Type} {lt lt':α->α->Bool}
theorem DI {out:List α} {x:α} (h:∀ y∈out,lt x y=lt' x y):∀ k,Lm lt out x k=Lm lt' out x k
 | 0=>rfl
 |
  k+1=>by
  simp only [Lm];cases hy:out[k]? with
  | none=>rfl
  | some y=>simp only [h y (Qa hy),DI h k]
theorem TP {l:List α} (h:∀ u∈l,∀ v∈l,lt u v=lt' u v):∀ (m out:List α),(∀ x∈m,x∈l)->(∀ x∈out,x∈l)->m.foldl (Li lt) out=m.foldl (Li lt') out
 | [],_,_,_=>rfl
 |
  x::m,out,h1,h2=>by
  have e:Li lt out x=Li lt' out x:=by
   unfold Li; rw [DI λy hy=>h x (h1 x (by simp)) y (h2 y hy)]
  simp only [Z8];rw [e];exact TP h m _ (λy hy=>h1 y (Qg _ hy)) λy hy=>by
   rcases UT.1 hy with rfl | hy
   ·exact h1 _ (by simp)
   ·exact h2 y hy
end
theorem bW {a:Tm} {l:List Pt} {q:Rat} (hb:∀ u∈l,∀ v∈l,(Tg (Fl a) u v=true↔Co q u v)) (hd:l.Pairwise λx y=>x.id≠y.id):(Tn a l).Pairwise (Co q) :=
 CQ (S:=λx=>x∈l) (D:=λx y=>x.id≠y.id) (YX q) (λu v hu hv h=>(hb u hu v hv).1 h) (λu v hu hv hne h=>uO (λe=>hne e.symm) λh'=>by
  rw [(hb u hu v hv).2 h'] at h; cases h) l [] .nil (λx hx=>by cases hx) (λx hx=>hx) hd (λx hx=>by cases hx)
theorem Qty {a:Tm} (ha:Va a) {u v:Pt} (hu:Sc u.c) (hv:Sc v.c) {q:Rat} (h1:Hd (Fl a) (Gd u.c v.c)=U9 (U4 (Gd u.c v.c) q)) (h2:Hd (Fl a) (Gb u.c v.c)=U9 (U4 (Gb u.c v.c) q)) (hne:u.c≠v.c) (h:Co q u v):lx (px · q) (py · q) u v:=by
 rcases h with h | ⟨h,h3⟩
 ·exact .inl h
 rcases h3 with h3 | ⟨h3,_⟩
 ·exact .inr ⟨h,h3⟩
 ·exfalso;rw [RL hu hv] at h1;rw [RD hu hv] at h2;have z1:U9 (px v q-px u q)=0:=Gg.2 (by grind);have z2:U9 (py v q-py u q)=0:=Gg.2 (by grind);rw [z1] at h1;rw [z2] at h2;have e1:(Gd u.c v.c).length=0:=Decidable.byContradiction λe=>(L8 ha (Mw hu hv).dp e).2 h1
  have e2:(Gb u.c v.c).length=0:=Decidable.byContradiction λe=>(L8 ha (Mv hu hv).dp e).2 h2
  exact hne (Qn6 hu.n hv.n (Qj e1) (Qj e2))
structure LowC (X Y:Pt->Rat) (R L:List Pt):Prop where
 hd:L.head? = R.head?
 la:L.getLast? = R.getLast?
 srt:L.Pairwise (lx X Y)
 mem:∀ p∈L,p∈R
 edg:Edg (λa b=>∀ p∈R,0≤Nq X Y a b p) L
 cnv:Cnv (λa b c=>0<Nq X Y a b c) L
theorem AD {X Y:Pt->Rat} {sg:Uk->Int} {R:List Pt} (hs:∀ a∈R,∀ b∈R,∀ c∈R,(US sg a b c=true↔0<Nq X Y a b c)) (hR:R.Pairwise (lx X Y)) (h0:R≠[]):LowC X Y R (S7 sg R):=by
 cases R with
 | nil=>exact absurd rfl h0
 |
  cons f R =>
  obtain ⟨t,st,g1,g2,g3,g4⟩:=AL hs hR R [f] f [] rfl ⟨Kk _ _,λp hp=>by rw [Qk.1 hp]; simp,trivial,trivial⟩ rfl rfl;have e:S7 sg (f::R)=(t::st).reverse:=by
   unfold S7;rw [<-g1]; rfl
  rw [e];exact ⟨by rw [List.head?_reverse,g4],by rw [List.getLast?_reverse]; exact g3.symm,Kx.2 g2.srt,λp hp=>g2.mem p (Jk.1 hp),g2.edg.rev,g2.cnv.rev⟩
theorem Quq {X Y:Pt->Rat} {R:List Pt} (hR:R.Pairwise (lx X Y)):∀ p∈R,∀ q∈R,p=q\/lx X Y p q\/lx X Y q p:=λp hp q hq=>by
 by_cases e:p=q
 ·exact .inl e
 ·exact .inr (qJ hR hp hq e)
theorem Qhf {X Y:Pt->Rat} {R L L':List Pt} (hR:R.Pairwise (lx X Y)) (h:LowC X Y R L) (h':LowC X Y R L'):L=L':=by
 have hh:=h.hd.trans h'.hd.symm;have hl:=h.la.trans h'.la.symm;cases L with
 |
  nil=>cases L' with
  | nil=>rfl
  | cons _ _=>simp at hh
 |
  cons f M=>cases L' with
  | nil=>simp at hh
  |
   cons f' M' =>
   simp at hh;subst hh;obtain ⟨z,hz⟩:∃ z,(f::M).getLast? = some z:=⟨_,Yn (by simp)⟩;rw [Qfe (Quq hR) M M' f h.srt h'.srt h.mem h'.mem h.edg h'.edg h.cnv h'.cnv hz (hl ▸ hz)]
theorem rS {x y:Rat} (h:U9 x=U9 y):(0<=x->0<=y)/\(0<x->0<y):=by
 have h1:=Fp x;have h2:=Fp y;grind
theorem wZ {X Y X' Y':Pt->Rat} {R:List Pt}:∀ {L:List Pt},(∀ p∈L,p∈R)->(∀ e∈A1 L,∀ p∈R,U9 (Nq X Y e.1 e.2 p)=U9 (Nq X' Y' e.1 e.2 p))->Cnv (λa b c=>0<Nq X Y a b c) L->Cnv (λa b c=>0<Nq X' Y' a b c) L
 | [],_,_,_=>trivial
 | [_],_,_,_=>trivial
 | [_,_],_,_,_=>trivial
 | a::b::c::l,hm,he,h=>⟨(rS (he (a,b) (by simp [A1]) c (hm c (by simp)))).2 h.1,wZ (λp hp=>hm p (Qg _ hp)) (λe hx=>he e (Qg _ hx)) h.2⟩
theorem fQ {X Y X' Y':Pt->Rat} {R L:List Pt} (h:LowC X Y R L) (hl:∀ u∈R,∀ v∈R,lx X Y u v->lx X' Y' u v) (he:∀ e∈A1 L,∀ p∈R,U9 (Nq X Y e.1 e.2 p)=U9 (Nq X' Y' e.1 e.2 p)):LowC X' Y' R L :=
 ⟨h.hd,h.la,h.srt.imp_of_mem λhu hv h'=>hl _ (h.mem _ hu) _ (h.mem _ hv) h',h.mem,xY.2 λe hx p hp=>(rS (he e hx p hp)).1 (xY.1 h.edg e hx p hp),wZ h.mem he h.cnv⟩
theorem jT (X Y:Pt->Rat) (a b c:Pt):Nq (λp=>-X p) (λp=>-Y p) a b c=Nq X Y a b c:=by unfold Nq; grind
theorem jJ {X Y:Pt->Rat} {a b:Pt}:lx (λp=>-X p) (λp=>-Y p) a b↔lx X Y b a:=by unfold lx; grind
theorem Qrf {L:List Pt} {f z:Pt} (h1:L.head? = some f) (h2:L.getLast? = some z) (hne:f≠z):∃ A,L=f::A++[z]:=by
 cases L with
 | nil=>cases h1
 |
  cons g M =>
  simp at h1;subst h1;cases M with
  | nil=>simp at h2; exact absurd h2 hne
  |
   cons x M =>
   rw [Jx] at h2;obtain ⟨A,hA⟩:=Y6.1 h2;exact ⟨A,by rw [hA]; rfl⟩
theorem BI {α β:Type} {f g:α->List β}:∀ {m:List α},(∀ x∈m,f x=g x)->m.flatMap f=m.flatMap g
 | [],_=>rfl
 | x::m,h=>by rw [Jy,Jy,h x (by simp),BI λy hy=>h y (Qg _ hy)]
theorem uM {sa sb:Uk->Int} {l C:List Pt} (h:∀ x∈Nn sa l C,Hd sb x.p=Hd sa x.p):Nn sb l C=Nn sa l C:=by
 by_cases h2:C.length<2
 ·unfold Nn; rw [if_pos h2,if_pos h2]
 ·have e:∀ s,Nn s l C=(Rh C).flatMap (E7 s l):=λs=>if_neg h2
  rw [e] at h ⊢;rw [e];refine BI λx hx=>Xp λc hc=>?_
  have:=h (Dy sa x.1 x.2 c) (Zo.2 ⟨x,hx,Wh hc⟩);show (⟨3,x.1.id,x.2.id,c.id,0,Ha x.1.c x.2.c c.c,Hd sb (Ha x.1.c x.2.c c.c)⟩:Ct)=⟨3,x.1.id,x.2.id,c.id,0,Ha x.1.c x.2.c c.c,Hd sa (Ha x.1.c x.2.c c.c)⟩;have this:Hd sb (Ha x.1.c x.2.c c.c)=Hd sa (Ha x.1.c x.2.c c.c):=this;rw [this]
theorem iT {l:List Pt} (hd:l.Pairwise λx y=>x.id≠y.id) {u v:Pt} (hu:u∈l) (hv:v∈l) (h:u.id=v.id):u=v:=by
 refine Classical.byContradiction λe=>?_
 rcases qJ hd hu hv e with h' | h'
 ·exact h' h
 ·exact h' h.symm
structure Soon (l:List Pt) (a:Tm) (q:Rat):Prop where
 g:∀ p∈Lx l++MA l,Hd (Fl a) p=U9 (U4 p q)
 b:∀ u∈l,∀ v∈l,(Tg (Fl a) u v=true↔Co q u v)
 o:∀ u∈l,∀ v∈l,∀ w∈l,Hd (Fl a) (Ha u.c v.c w.c)=U9 (Nq (px · q) (py · q) u v w)
 t:∀ u∈l,∀ v∈l,∀ w∈l,(US (Fl a) u v w=true↔0<Nq (px · q) (py · q) u v w)
 r:(Tn a (Ta l)).Pairwise (lx (px · q) (py · q))
theorem Qjn {l:List Pt} (hl:∀ p∈l,Sc p.c) (hd:l.Pairwise λx y=>x.id≠y.id) {a:Tm} (ha:Va a):∃ y,Fh a y=-1/\∀ q,Fh a q=-1->q≤y->Soon l a q:=by
 obtain ⟨y,y1,y2⟩:=XZ ha (Lx l++MA l) λp hp=>(PY hl p hp).dp
 refine ⟨y,y1,λq q1 q2=>?_⟩;have g:=y2 q q1 q2;have gP:=λp hp=>g p (X8 _ hp)
 have b:∀ u∈l,∀ v∈l,(Tg (Fl a) u v=true↔Co q u v):=λu hu v hv=>NV ha (hl u hu) (hl v hv) (gP _ (Tt hu hv).1) (gP _ (Tt hu hv).2)
 have o:∀ u∈l,∀ v∈l,∀ w∈l,Hd (Fl a) (Ha u.c v.c w.c)=U9 (Nq (px · q) (py · q) u v w):=λu hu v hv w hw=>by
  rw [g _ (Jf _ (vP hu hv hw)),bC (hl u hu) (hl v hv) (hl w hw)]
 refine ⟨g,b,o,λu hu v hv w hw=>?_,?_⟩
 ·unfold US;rw [o u hu v hv w hw,decide_eq_true_eq];have:=Fp (Nq (px · q) (py · q) u v w);grind
 ·have hw:∀ u∈Ta l,u∈l:=λu hu=>Nc hu
  have h1:=bW (a:=a) (l:=Ta l) (q:=q) (λu hu v hv=>b u (hw u hu) v (hw v hv)) (List.Pairwise.sublist (Qka l) hd);have h2:(Tn a (Ta l)).Pairwise λx y=>x.c≠y.c:=(List.Perm.pairwise_iff (λ{x y} h e=>h e.symm) (cZ (lt:=Tg (Fl a)) (Ta l))).2 (Qpr l)
  refine (h1.and h2).imp_of_mem λ{u v} hu hv h=>?_
  have hu:=hw u (Hj.1 hu);have hv:=hw v (Hj.1 hv);exact Qty ha (hl u hu) (hl v hv) (gP _ (Tt hu hv).1) (gP _ (Tt hu hv).2) h.2 h.1
theorem iP {l:List Pt} (hl:∀ p∈l,Sc p.c) (hd:l.Pairwise λx y=>x.id≠y.id) {a:Tm} (ha:Va a):∃ q,Soon l a q :=
 let ⟨y,h1,h2⟩:=Qjn hl hd ha
 ⟨y,h2 y h1 Qp⟩
theorem BJ {l:List Pt} {a:Tm} {q:Rat} (S:Soon l a q) (h3:3<=(Tn a (Ta l)).length):∃ f z A B,S7 (Fl a) (Tn a (Ta l))=f::A++[z]/\S7 (Fl a) (Tn a (Ta l)).reverse=z::B++[f]/\LowC (px · q) (py · q) (Tn a (Ta l)) (f::A++[z])/\LowC (λp=>-px p q) (λp=>-py p q) (Tn a (Ta l)).reverse (z::B++[f])/\Rh (S0 l a)=A1 (f::A++[z])++A1 (z::B++[f])/\2<=(S0 l a).length:=by
 obtain ⟨R,hR⟩:=nmE (Tn a (Ta l));have hm:∀ x∈R,x∈l:=λx hx=>by rw [hR] at hx; exact Nc (Hj.1 hx)
 have r:=S.r;rw [<-hR] at r h3 ⊢;have h0:R≠[]:=λe=>by rw [e] at h3; simp at h3
 have c1:=AD (sg:=Fl a) (λu hu v hv w hw=>S.t u (hm u hu) v (hm v hv) w (hm w hw)) r h0;have r2:R.reverse.Pairwise (lx (λp=>-px p q) (λp=>-py p q)):=Kx.2 (r.imp λh=>jJ.2 h);have c2:=AD (sg:=Fl a) (R:=R.reverse) (X:=λp=>-px p q) (Y:=λp=>-py p q) (λu hu v hv w hw=>by
  rw [jT (px · q) (py · q)];exact S.t u (hm u (Jk.1 hu)) v (hm v (Jk.1 hv)) w (hm w (Jk.1 hw))) r2 (by simpa using h0)
 obtain ⟨f,hf⟩:∃ f,R.head? = some f:=by cases R with
  | nil=>exact absurd rfl h0
  | cons f _=>exact ⟨f,rfl⟩
 obtain ⟨z,hz⟩:∃ z,R.getLast? = some z:=⟨_,Yn h0⟩;have hne:f≠z:=λe=>by
  subst e;cases R with
  | nil=>exact absurd rfl h0
  |
   cons g M =>
   simp at hf; subst hf;cases M with
   | nil=>simp at h3
   |
    cons x M =>
    rw [Jx] at hz;exact Lj _ ((Q9.1 r).1 g (V1 hz))
 obtain ⟨A,hA⟩:=Qrf (c1.hd.trans hf) (c1.la.trans hz) hne;obtain ⟨B,hB⟩:=Qrf (c2.hd.trans (by rw [List.head?_reverse]; exact hz)) (c2.la.trans (by rw [List.getLast?_reverse]; exact hf)) (Ne.symm hne);have hc:S0 l a=(f::A++[z]).dropLast++(z::B++[f]).dropLast:=by
  unfold S0 Lo;rw [<-hR,if_neg (by omega),hA,hB]
 rw [hA] at c1;rw [hB] at c2;refine ⟨f,z,A,B,hA,hB,c1,c2,by rw [hc]; exact wO,?_⟩;rw [hc,Vz,Vz];simp; omega
theorem Qbi {l:List Pt} (hl:∀ p∈l,Sc p.c) (hd:l.Pairwise λx y=>x.id≠y.id) {a b:Tm} (ha:Va a) (hb:Va b) (h:∀ x∈EK l a,Hd (Fl b) x.p=Hd (Fl a) x.p):S0 l b=S0 l a/\EK l b=EK l a:=by
 obtain ⟨q,Sa⟩:=iP hl hd ha;obtain ⟨r,Sb⟩:=iP hl hd hb;obtain ⟨k1,k2⟩:=rF hl hd ha hb λx hx=>h x (X8 _ hx)
 have pa:=bW Sa.b hd;have pb:=bW Sb.b hd;rw [k1] at pb;have pab:=pa.and pb;have lexs:∀ u∈l,∀ v∈l,(Co q u v↔Co r u v):=λu hu v hv=>by
  by_cases e:u=v
  ·subst e; exact ⟨λh=>absurd h (XH _ _),λh=>absurd h (XH _ _)⟩
  ·rcases qJ pab (Hj.2 hu) (Hj.2 hv) e with h' | h'
   ·exact ⟨λ_=>h'.2,λ_=>h'.1⟩
   ·exact ⟨λh=>absurd (YX _ _ _ _ h h'.1) (XH _ _),λh=>absurd (YX _ _ _ _ h h'.2) (XH _ _)⟩
 have bef:∀ u∈l,∀ v∈l,Tg (Fl b) u v=Tg (Fl a) u v:=λu hu v hv=>by
  have h1:=Sa.b u hu v hv;have h2:=Sb.b u hu v hv;have h3:=lexs u hu v hv;cases e1:Tg (Fl a) u v <;> cases e2:Tg (Fl b) u v <;> rw [e1] at h1 <;> rw [e2] at h2 <;> simp_all
 have eR:Tn b (Ta l)=Tn a (Ta l):=TP (l:=Ta l) (λu hu v hv=>bef u (Nc hu) v (Nc hv)) (Ta l) [] (λx hx=>hx) λx hx=>by cases hx
 have hm:∀ x∈Tn a (Ta l),x∈l:=λx hx=>Nc (Hj.1 hx)
 have rb:=Sb.r;rw [eR] at rb;have hc:S0 l b=S0 l a:=by
  by_cases h3:(Tn a (Ta l)).length<3
  ·unfold S0 Lo;rw [eR,if_pos h3,if_pos h3]
  ·obtain ⟨f,z,A,B,hA,hB,c1,c2,hE,hC2⟩:=BJ Sa (by omega);obtain ⟨f',z',A',B',hA',hB',c1',c2',hE',_⟩:=BJ Sb (by rw [eR]; omega);rw [eR] at hA' hB' c1' c2';have sgs:∀ e∈Rh (S0 l a),∀ p∈Tn a (Ta l),U9 (Nq (px · q) (py · q) e.1 e.2 p)=U9 (Nq (px · r) (py · r) e.1 e.2 p):=λe he p hp=>by
    obtain ⟨m1,m2⟩:=TR he;have m1:=Iy m1;have m2:=Iy m2;have m3:=hm p hp;by_cases ho:YI e p=true
    ·have hx:Dy (Fl a) e.1 e.2 p∈EK l a:=by
      refine Jf _ ?_;unfold Nn;rw [if_neg (by omega)];exact Zo.2 ⟨e,he,Wh (Yf.2 ⟨m3,ho⟩)⟩
     have hg:Hd (Fl b) (Ha e.1.c e.2.c p.c)=Hd (Fl a) (Ha e.1.c e.2.c p.c):=h _ hx;rw [<-Sa.o _ m1 _ m2 _ m3,<-Sb.o _ m1 _ m2 _ m3,hg]
    ·have hz:∀ X Y:Pt->Rat,Nq X Y e.1 e.2 p=0:=λX Y=>by
      by_cases e1:p.id=e.1.id
      ·rw [iT hd m3 m1 e1]; exact (UI _ _).1
      ·by_cases e2:p.id=e.2.id
       ·rw [iT hd m3 m2 e2]; exact (UI _ _).2
       ·exact absurd (by simp [YI,e1,e2]) ho
     rw [hz,hz]
   have hlx:∀ u∈Tn a (Ta l),∀ v∈Tn a (Ta l),lx (px · q) (py · q) u v->lx (px · r) (py · r) u v:=λu hu v hv huv=>by
    have ra:=Sa.r;by_cases e:u=v
    ·subst e; exact absurd huv (Lj _)
    ·rcases qJ (ra.and rb) hu hv e with h' | h'
     ·exact h'.2
     ·exact absurd (fJ huv h'.1) (Lj _)
   have e1:=Qhf rb (fQ c1 hlx λe he=>sgs e (by rw [hE]; exact X8 _ he)) c1';have rb2:(Tn a (Ta l)).reverse.Pairwise (lx (λp=>-px p r) (λp=>-py p r)):=Kx.2 (rb.imp λh=>jJ.2 h);have e2:=Qhf rb2 (fQ c2 (λu hu v hv huv=>jJ.2 (hlx v (Jk.1 hv) u (Jk.1 hu) (jJ.1 huv))) λe he p hp=>by
    rw [jT (px · q) (py · q),jT (px · r) (py · r)];exact sgs e (by rw [hE]; exact Jf _ he) p (Jk.1 hp)) c2'
   unfold S0 Lo;rw [eR,if_neg h3,if_neg h3,hA,hB,hA',hB',e1,e2]
 refine ⟨hc,?_⟩;unfold EK;rw [hc,k2,uM λx hx=>h x (Jf _ hx)]
theorem Qxv {l:List Pt} (hl:∀ p∈l,Sc p.c) (hn:l.length≤10) (hd:l.Pairwise λx y=>x.id≠y.id):Stab (EK l) (brH l):=by
 refine ⟨sV hl hn,⟨Lx l++MA l,PY hl,λa _ x hx=>zK x hx⟩,λa b ha hb h=>?_⟩;obtain ⟨e1,e2⟩:=Qbi hl hd ha hb h;exact ⟨e2,by show Uv _=Uv _; rw [e1]⟩
end Orq
namespace Orq
open Orr Go
theorem VO {a b c d:Crv} (ha:Sc a) (hb:Sc b) (hc:Sc c) (hd:Sc d):Cp (Hi a b c d):=by
 have lr:∀ {a b:Crv},Sc a->Sc b->(Gd a b).length<=3/\(Gb a b).length<=3:=λ{a b} ha hb=>by
  have:=M3 (Fo b.x a.d) (Fo a.x b.d); have:=Fu b.x a.d; have:=Fu a.x b.d;have:=M3 (Fo b.y a.d) (Fo a.y b.d); have:=Fu b.y a.d; have:=Fu a.y b.d;have:=ha.c.lx; have:=hb.c.lx; have:=ha.c.ly; have:=hb.c.ly;unfold Gd Gb; omega
 have ap:∀ {a b:Crv},Sc a->Sc b->(Sf a b).length<=5/\Bd 517 (Sf a b):=λ{a b} ha hb=>by
  obtain ⟨l1,l2⟩:=lr ha hb;have b1:Bd 257 (Gd a b):=Da (Fz hb.c.x ha.c.d) (Fz ha.c.x hb.c.d);have b2:Bd 257 (Gb a b):=Da (Fz hb.c.y ha.c.d) (Fz ha.c.y hb.c.d);have q1:=P9 (u:=2) b1 b1 (by omega);have q2:=P9 (u:=2) b2 b2 (by omega);refine ⟨?_,Ux (WG q1 q2) (by omega)⟩;have:=XU (Gh (Gd a b) (Gd a b)) (Gh (Gb a b) (Gb a b));have:=Sw (Gd a b) (Gd a b); have:=Sw (Gb a b) (Gb a b);unfold Sf; omega
 have dd:∀ {a b:Crv},Sc a->Sc b->Fa ((a.d*b.d)*(a.d*b.d))<=512:=λ{a b} ha hb=>by
  have:=Ge a.d b.d; have:=Ge (a.d*b.d) (a.d*b.d); have:=ha.c.d; have:=hb.c.d; omega
 obtain ⟨l1,b1⟩:=ap hc hd;obtain ⟨l2,b2⟩:=ap ha hb;refine ⟨Fq _ _,?_,Ux (Da (Fz b1 (dd ha hb)) (Fz b2 (dd hc hd))) (by omega)⟩;have:=M3 (Fo (Sf c d) ((a.d*b.d)*(a.d*b.d))) (Fo (Sf a b) ((c.d*d.d)*(c.d*d.d)));have:=Fu (Sf c d) ((a.d*b.d)*(a.d*b.d)); have:=Fu (Sf a b) ((c.d*d.d)*(c.d*d.d));unfold Hi; omega
def tL (m:Pt×Pt) (q:Rat):Rat:=(px m.2 q-px m.1 q)*(px m.2 q-px m.1 q)+(py m.2 q-py m.1 q)*(py m.2 q-py m.1 q)
theorem Qnc {a b c d:Pt} (ha:Sc a.c) (hb:Sc b.c) (hc:Sc c.c) (hd:Sc d.c) (q:Rat):U9 (U4 (Hi a.c b.c c.c d.c) q)=U9 (tL (c,d) q-tL (a,b) q):=by
 have Tr:∀ {z:Int},0<z->(0:Rat)<(z:Rat):=λ{z} h=>by exact_mod_cast h
 have pa:=Tr ha.n.2.2.1;have pb:=Tr hb.n.2.2.1;have pc:=Tr hc.n.2.2.1;have pd:=Tr hd.n.2.2.1;have xx:∀ {p:Pt},0<(p.c.d:Rat)->U4 p.c.x q=px p q*(p.c.d:Rat)/\U4 p.c.y q=py p q*(p.c.d:Rat):=λ{p} h=>by
  unfold px py;exact ⟨(Zi (by grind)).symm,(Zi (by grind)).symm⟩
 obtain ⟨xa,ya⟩:=xx pa;obtain ⟨xb,yb⟩:=xx pb;obtain ⟨xc,yc⟩:=xx pc;obtain ⟨xd,yd⟩:=xx pd;have e:U4 (Hi a.c b.c c.c d.c) q=(((a.c.d:Rat)*b.c.d)*((a.c.d:Rat)*b.c.d))*(((c.c.d:Rat)*d.c.d)*((c.c.d:Rat)*d.c.d))*(tL (c,d) q-tL (a,b) q):=by
  unfold Hi Sf Gd Gb tL;simp only [M6,Re,DG,Fy,Xm];rw [xa,xb,xc,xd,ya,yb,yc,yd];grind
 rw [e,Ch];have h1:=Xq pa pb;have h2:=Xq pc pd;exact Xq (Xq h1 h1) (Xq h2 h2)
def EG (l:List Pt):Ul:=l.flatMap λa=>l.flatMap λb=>l.flatMap λc=>l.map λd=>Hi a.c b.c c.c d.c
theorem ME {l:List Pt} {a b c d:Pt} (ha:a∈l) (hb:b∈l) (hc:c∈l) (hd:d∈l):Hi a.c b.c c.c d.c∈EG l :=
 Zo.2 ⟨a,ha,Zo.2 ⟨b,hb,Zo.2 ⟨c,hc,Za.2 ⟨d,hd,rfl⟩⟩⟩⟩
theorem WU {l:List Pt} (hl:∀ p∈l,Sc p.c):∀ p∈EG l,Cp p:=λp hp=>by
 obtain ⟨a,ha,hp⟩:=Zo.1 hp;obtain ⟨b,hb,hp⟩:=Zo.1 hp;obtain ⟨c,hc,hp⟩:=Zo.1 hp;obtain ⟨d,hd,rfl⟩:=Za.1 hp;exact VO (hl a ha) (hl b hb) (hl c hc) (hl d hd)
theorem lC {l:List Pt} (hl:∀ p∈l,Sc p.c) {a:Tm} (ha:Va a):∃ y,Fh a y=-1/\∀ q,Fh a q=-1->q≤y->∀ s m:Pt×Pt,s.1∈l->s.2∈l->m.1∈l->m.2∈l->Hd (Fl a) (Hi s.1.c s.2.c m.1.c m.2.c)=U9 (tL m q-tL s q):=by
 obtain ⟨y,y1,y2⟩:=XZ ha (EG l) λp hp=>(WU hl p hp).dp
 refine ⟨y,y1,λq q1 q2 s m h1 h2 h3 h4=>?_⟩;rw [y2 q q1 q2 _ (ME h1 h2 h3 h4),Qnc (hl _ h1) (hl _ h2) (hl _ h3) (hl _ h4)]
def Dn (f:Pt×Pt->Rat) (P:List (Pt×Pt)) (r:Pt×Pt):Prop:=∃ P1 P2,P=P1++r::P2/\(∀ m∈P1,f r<f m)/\∀ m∈P2,f r≤f m
theorem IS {f:Pt×Pt->Rat}:∀ {P:List (Pt×Pt)} {r r':Pt×Pt},Dn f P r->Dn f P r'->r=r'
 | [],r,r',⟨P1,P2,h,_⟩,_=>by simp at h
 |
  x::P,r,r',⟨P1,P2,h,h1,h2⟩,⟨Q1,Q2,h',h1',h2'⟩=>by
  cases P1 with
  |
   nil =>
   simp at h;cases Q1 with
   | nil=>simp at h'; exact h.1.symm.trans h'.1
   |
    cons y Q1 =>
    simp at h';exfalso;obtain ⟨rfl,rfl⟩:=h;obtain ⟨rfl,rfl⟩:=h';have a1:=h1' x (by simp);have a2:=h2 r' (by simp);grind
  |
   cons y P1 =>
   simp at h;cases Q1 with
   |
    nil =>
    simp at h';exfalso;obtain ⟨rfl,rfl⟩:=h;obtain ⟨rfl,rfl⟩:=h';have a1:=h1 x (by simp);have a2:=h2' r (by simp);grind
   |
    cons z Q1 =>
    simp at h h';exact IS (P:=P) ⟨P1,P2,h.2,λm hm=>h1 m (by simp [hm]),h2⟩ ⟨Q1,Q2,h'.2,λm hm=>h1' m (by simp [hm]),h2'⟩
theorem Qnd {f:Pt×Pt->Rat} {P:List (Pt×Pt)} {r m:Pt×Pt} (h:Dn f P r):Dn f (P++[m]) (if f m<f r then m else r):=by
 obtain ⟨P1,P2,rfl,h1,h2⟩:=h;by_cases e:f m<f r
 ·rw [if_pos e];refine ⟨P1++r::P2,[],rfl,λx hx=>?_,λx hx=>by cases hx⟩;rcases Qr.1 hx with hx | hx
  ·have:=h1 x hx; grind
  ·rcases Ql.1 hx with rfl | hx
   ·exact e
   ·have:=h2 x hx; grind
 ·rw [if_neg e];refine ⟨P1,P2++[m],by simp,h1,λx hx=>?_⟩;rcases Qr.1 hx with hx | hx
  ·exact h2 x hx
  ·rw [Qk.1 hx]; grind
theorem lE {f:Pt×Pt->Rat} {sg:Uk->Int} {l:List Pt} (hg:∀ s m:Pt×Pt,s.1∈l->s.2∈l->m.1∈l->m.2∈l->Hd sg (Hi s.1.c s.2.c m.1.c m.2.c)=U9 (f m-f s)):∀ (ps P:List (Pt×Pt)) (s:Pt×Pt),s.1∈l/\s.2∈l->(∀ m∈ps,m.1∈l/\m.2∈l)->Dn f P s->Dn f (P++ps) (Hg sg s ps)
 | [],P,s,_,_,h=>by rw [Zx]; exact h
 |
  m::ps,P,s,hs,hp,h=>by
  rw [QM];have hm:=hp m (by simp);have e:Po sg s m=if f m<f s then m else s:=by
   unfold Po;rw [hg s m hs.1 hs.2 hm.1 hm.2];have:=Fp (f m-f s);by_cases h:f m<f s
   ·rw [if_pos h,if_pos (by grind)]
   ·rw [if_neg h,if_neg (by grind)]
  have hn:(Po sg s m).1∈l/\(Po sg s m).2∈l:=by
   rcases HI sg s m with e | e <;> rw [e] <;> assumption
  have:=lE hg ps (P++[m]) (Po sg s m) hn (λx hx=>hp x (Qg _ hx)) (by rw [e]; exact Qnd h);rwa [Zc] at this
theorem nU (a b:Pt) (l:List Pt):∃ P,Gj (a::b::l)=(a,b)::P:=⟨_,rfl⟩
theorem aG {f:Pt×Pt->Rat} {sg:Uk->Int} {a b:Pt} {l:List Pt} (hg:∀ s m:Pt×Pt,s.1∈a::b::l->s.2∈a::b::l->m.1∈a::b::l->m.2∈a::b::l->Hd sg (Hi s.1.c s.2.c m.1.c m.2.c)=U9 (f m-f s)):Dn f (Gj (a::b::l)) (Hg sg (a,b) (Gj (a::b::l))):=by
 obtain ⟨P,hP⟩:=nU a b l;have hm:=Se (a::b::l).length (a::b::l);have hm:∀ m∈Gj (a::b::l),m.1∈a::b::l/\m.2∈a::b::l:=hm;rw [hP] at hm ⊢;have h:=lE hg P [(a,b)] (a,b) (hm (a,b) (by simp)) (λm h=>hm m (by simp [h])) ⟨[],[],rfl,λm h=>(by cases h),λm h=>(by cases h)⟩;rw [QM];have e:Po sg (a,b) (a,b)=(a,b):=by rcases HI sg (a,b) (a,b) with e | e <;> exact e
 rw [e]; exact h
theorem iS {l:List Pt} (hd:l.Pairwise λx y=>x.id≠y.id) {u v:Pt} (hu:u∈l) (hv:v∈l) (h:u.id=v.id):u=v:=by
 by_cases e:u=v
 ·exact e
 ·rcases qJ hd hu hv e with h' | h'
  ·exact absurd h h'
  ·exact absurd h.symm h'
theorem Qb1 {l:List Pt} (hl:∀ p∈l,Sc p.c) (hd:l.Pairwise λx y=>x.id≠y.id) {a b:Tm} (ha:Va a) (hb:Va b) (h:∀ x∈D5 (Fl a) l,Hd (Fl b) x.p=Hd (Fl a) x.p):ZX (Fl b) l=ZX (Fl a) l/\D5 (Fl b) l=D5 (Fl a) l:=by
 match l,hl,hd,h with
 | [],_,_,_=>exact ⟨rfl,rfl⟩
 | [x],_,_,_=>exact ⟨rfl,rfl⟩
 |
  u::v::l',hl,hd,h =>
  obtain ⟨y,y1,y2⟩:=lC hl ha;obtain ⟨z,z1,z2⟩:=lC hl hb;have ga:=y2 y y1 Qp;have gb:=z2 z z1 Qp;have fa:=aG (f:=λm=>tL m y) ga;have fb:=aG (f:=λm=>tL m z) gb;simp only [ZX,D5] at h ⊢;have hm:∀ m∈Gj (u::v::l'),m.1∈u::v::l'/\m.2∈u::v::l':=Se _ _;generalize u::v::l'=l at *;obtain ⟨r,hr⟩:=nmE (Hg (Fl a) (u,v) (Gj l));rw [<-hr] at fa h ⊢;obtain ⟨P1,P2,hP,h1,h2⟩:=fa;have hrm:r∈Gj l:=by rw [hP]; simp
  have hrl:=hm r hrm;have key:∀ m∈Gj l,m=r\/Hd (Fl b) (Hi r.1.c r.2.c m.1.c m.2.c)=Hd (Fl a) (Hi r.1.c r.2.c m.1.c m.2.c):=λm hmm=>by
   have hml:=hm m hmm;by_cases e:ZZ r m=true
   ·right;have h0:=h (No (Fl a) r.1 r.2 m.1 m.2) (by unfold Ml; exact List.mem_map.2 ⟨m,List.mem_filter.2 ⟨hmm,e⟩,rfl⟩);rw [CE] at h0; exact h0
   ·left;unfold ZZ at e;simp at e;have e1:=iS hd hml.1 hrl.1 e.1;have e2:=iS hd hml.2 hrl.2 e.2;exact Prod.ext e1 e2
  have fb':Dn (λm=>tL m z) (Gj l) r:=by
   refine ⟨P1,P2,hP,λm hmm=>?_,λm hmm=>?_⟩
   ·have hmp:m∈Gj l:=by rw [hP]; simp [hmm]
    have hlt:=h1 m hmm;have hml:=hm m hmp;rcases key m hmp with e | e
    ·exfalso; rw [e] at hlt; dsimp only at hlt; grind
    ·rw [ga r m hrl.1 hrl.2 hml.1 hml.2,gb r m hrl.1 hrl.2 hml.1 hml.2] at e;dsimp only at hlt ⊢;rw [Ho.2 (by grind:0<tL m y-tL r y)] at e;have:=Ho.1 e; grind
   ·have hmp:m∈Gj l:=by rw [hP]; simp [hmm]
    have hlt:=h2 m hmm;have hml:=hm m hmp;rcases key m hmp with e | e
    ·rw [e]; exact Qp
    ·rw [ga r m hrl.1 hrl.2 hml.1 hml.2,gb r m hrl.1 hrl.2 hml.1 hml.2] at e;dsimp only at hlt ⊢;have t1:=Fp (tL m y-tL r y);have t2:=Fp (tL m z-tL r z);grind
  have er:=IS fb fb';rw [er];refine ⟨rfl,?_⟩;unfold Ml;refine Xp λm hmm=>?_
  have hmp:=(Yf.1 hmm).1;rcases key m hmp with e | e
  ·exfalso;have:=(Yf.1 hmm).2;rw [e] at this; unfold ZZ at this; simp at this
  ·unfold No; rw [e]
theorem Qxw {l:List Pt} (hl:∀ p∈l,Sc p.c) (hn:l.length≤10) (hd:l.Pairwise λx y=>x.id≠y.id):Stab (λa=>D5 (Fl a) l) (λa=>Uv (ZX (Fl a) l)):=by
 have hcp:∀ a,∀ x∈D5 (Fl a) l,x.p∈EG l:=λa x hx=>by
  match l,hx with
  |
   u::v::l',hx =>
   simp only [D5] at hx;obtain ⟨h3,h4⟩:=D2 (Fl a) (l:=u::v::l') (Gj (u::v::l')) (u,v) ⟨by simp,by simp⟩ (Se _ _);obtain ⟨m,hm,rfl⟩:=AO hx;obtain ⟨h1,h2⟩:=Se _ _ m hm;rw [CE];exact ME h3 h4 h1 h2
 refine ⟨⟨λa _ x hx=>WU hl _ (hcp a x hx),λa _=>?_⟩,⟨EG l,WU hl,λa _=>hcp a⟩,λa b ha hb h=>?_⟩
 ·have:=OL (Fl a) l;have:l.length*l.length<=10*10:=Zh hn hn;show (D5 (Fl a) l).length<=1000;omega
 ·obtain ⟨h1,h2⟩:=Qb1 hl hd ha hb h;exact ⟨h2,by show Uv _=Uv _; rw [h1]⟩
end Orq
namespace Orr
open Go Go.Proofs Tryz Orq
set_option maxRecDepth 10000
def XP:Nat->Up->Up
 | _,[]=>[]
 | 0,x::l=>UC x::l
 | k+1,x::l=>x::XP k l
theorem OM:∀ (k:Nat) (l:Up),(XP k l).length=l.length
 | _,[]=>by cases ‹Nat› <;> rfl
 | 0,x::l=>rfl
 | k+1,x::l=>by simp only [XP,Q6,OM k l]
theorem OP:∀ (k:Nat) (l:Up) {j:Nat} {y:LV},(XP k l)[j]? = some y->∃ x,l[j]? = some x/\(y=x\/y=UC x)
 | 0,[],_,_,h=>by simp [XP] at h
 | _+1,[],_,_,h=>by simp [XP] at h
 | 0,x::l,0,y,h=>by simp [XP] at h; exact ⟨x,rfl,.inr h.symm⟩
 | 0,x::l,j+1,y,h=>by simp [XP] at h; exact ⟨y,by simpa using h,.inl rfl⟩
 | k+1,x::l,0,y,h=>by simp [XP] at h; exact ⟨x,rfl,.inl h.symm⟩
 |
  k+1,x::l,j+1,y,h=>by
  simp only [XP,Ji] at h;obtain ⟨z,h1,h2⟩:=OP k l h;exact ⟨z,by simpa using h1,h2⟩
theorem nlc {P:Program} [Mo P] {n:Nat} {Q:Exit->Sg->Ur->Prop} {L:Sg} {B B':Ur} (i d:Nat) {T:TypeId} {xs:Up} {it:List It} (hs:H9 it=true) (hb:Av B i=some (.blk T xs)) (hB:Ao B i (.blk T (XP d xs))=some B') (k:AK P n Q it L B'):AK P n Q it L B:=by
 obtain ⟨rfl,hl⟩:=Ni hB;have hbi:B[i]? = some (.blk T xs):=Ss ▸ hb;refine AK.sub (λF E M a w h=>⟨E,M,?_,h.size,h.defers,h.slots⟩) hs k;rw [KU,XB hbi];refine h.hs.re (λj=>?_) (λj=>?_) (λj=>?_) λj hj=>?_
 ·by_cases e:j=i
  ·subst e;rw [Ff];obtain ⟨g,c,m,h1,cs,h2,h3⟩:=h.blk hb;refine ⟨g,c,m,h1,cs,h2,F2.of (by rw [OM]; exact h3.len) λk v x hv hx=>?_⟩;obtain ⟨y,hy,hyx⟩:=OP _ _ hx;rcases hyx with rfl | rfl
   ·exact h3.get' hv hy
   ·exact aT (h3.get' hv hy)
  ·rw [Fw _ _ e]; exact h.hs.blk j
 ·by_cases e:j=i
  ·subst e; rw [Ff,Rk hbi]; rfl
  ·rw [Fw _ _ e]
 ·by_cases e:j=i
  ·subst e; rw [Ff,Rk hbi]; rfl
  ·rw [Fw _ _ e]
 ·by_cases e:j=i
  ·subst e; rw [Rk hbi] at hj; cases hj
  ·rw [Fw _ _ e]; exact hj
theorem UX {l m:Uq} (h:l=m):TV.one (LV.row l)=.one (.row m):=h ▸ rfl
theorem kN {a b:Crv} (ha:ZR a) (hb:ZR b) (ca:Cb a) (cb:Cb b):Uh 206 [.agg (cl a),.agg (cl b)] [pr (Sf a b)]:=by
 obtain ⟨p1,l1,b1⟩:=gZ ca cb;obtain ⟨p2,l2,b2⟩:=fO ca cb;have m1:=Sw (Gd a b) (Gd a b);have m2:=Sw (Gb a b) (Gb a b);have q1:=P9 (u:=5) b1 b1 (by omega);have q2:=P9 (u:=5) b2 b2 (by omega);exact Ue func206 rfl [.k (WP ha hb ca cb),.k (WR ha hb ca cb),.k (GP p1.t p1.t (by omega) (by omega) b1 b1 (by omega)),.k (GP p2.t p2.t (by omega) (by omega) b2 b2 (by omega)),.k (zG (by omega) (by omega) (Ux q1 (by omega)) (Ux q2 (by omega)))] rfl
theorem Qag {a b c d:Crv} (ha:ZR a) (hb:ZR b) (hc:ZR c) (hd:ZR d) (ca:Cb a) (cb:Cb b) (cc:Cb c) (cd:Cb d):Uh 169 [.agg (cl a),.agg (cl b),.agg (cl c),.agg (cl d)] [pr (Hi a b c d)]:=by
 have na:=Dd ha (ca.mono (by omega) (by omega));have nb:=Dd hb (cb.mono (by omega) (by omega));have nc:=Dd hc (cc.mono (by omega) (by omega));have nd:=Dd hd (cd.mono (by omega) (by omega));have s1:=mH ca cb;have s2:=mH cc cd;have s3:=eW ca cb;have s4:=eW cc cd;have da:=ca.d;have db:=cb.d;have dc:=cc.d;have dd:=cd.d;obtain ⟨t1,l1,b1⟩:=gQ cc cd;obtain ⟨t2,l2,b2⟩:=gQ ca cb;have k1:=Fu (Sf c d) ((a.d*b.d)*(a.d*b.d));have k2:=Fu (Sf a b) ((c.d*d.d)*(c.d*d.d));have w1:=Nk (Uy a.d) (Uy b.d) (by omega) (by omega);have w2:=Nk (Uy c.d) (Uy d.d) (by omega) (by omega);have w3:=Nk (Uy (a.d*b.d)) (Uy (a.d*b.d)) (by omega) (by omega);have w4:=Nk (Uy (c.d*d.d)) (Uy (c.d*d.d)) (by omega) (by omega);have p1:=Mr (p:=Sf c d) (c:=(a.d*b.d)*(a.d*b.d)) (by omega) (Ux b1 (by omega)) (by omega);have p2:=Mr (p:=Sf a b) (c:=(c.d*d.d)*(c.d*d.d)) (by omega) (Ux b2 (by omega)) (by omega);have p3:=GM (p:=Fo (Sf c d) ((a.d*b.d)*(a.d*b.d))) (q:=Fo (Sf a b) ((c.d*d.d)*(c.d*d.d))) (by omega) (by omega) (Ux (Fz b1 s3) (by omega)) (Ux (Fz b2 s4) (by omega));exact Ue func169 rfl [.k na,.k nb,.k w1,.k nc,.k nd,.k w2,.k (kN hc hd cc cd),.k w3,.k p1,.k (kN ha hb ca cb),.k w4,.k p2,.k p3] rfl
theorem NU {a b c d:Pt} (ha:Sc a.c) (hb:Sc b.c) (hc:Sc c.c) (hd:Sc d.c):Uh 169 [.agg (cl a.c),.agg (cl b.c),.agg (cl c.c),.agg (cl d.c)] [pr (Hi a.c b.c c.c d.c)]:=Qag ha.n hb.n hc.n hd.n ha.cb hb.cb hc.cb hd.cb
set_option maxHeartbeats 1000000 in
theorem Qlv {a b c d:Pt} {t:Tm} (ha:Sc a.c) (hb:Sc b.c) (hc:Sc c.c) (hd:Sc d.c) (ht:Va t):Uh 163 [.oi 5,.agg (ta t),.one (.row [U6 a,U6 b,U6 c,U6 d])] [.agg (C6 (No (Fl t) a b c d)),.oi 0]:=by
 have hp:=(VO ha hb hc hd).dp;have e:C6 (No (Fl t) a b c d)=[.int .i64 5,.int .i64 a.id,.int .i64 b.id,.int .i64 c.id,.int .i64 d.id,pl (Hi a.c b.c c.c d.c),.int .i64 (Hd (Fl t) (Hi a.c b.c c.c d.c))]:=by rw [No]
 rw [e];have cg:=TU hp ht;have cf:=NU ha hb hc hd;generalize Hi a.c b.c c.c d.c=F at *;refine Ft func163 rfl ?_;refine Ub [.k Qas,.f rfl] rfl ?_;refine Ug (S:=Nat) 3 (λL1 i=>(22,.v (.oi i))::L1) (λi=>[.blk 189 (ta t),.blk 136 zCt,.blk 136 [.int .i64 5,.int .i64 (if 1<=i then a.id else 0),.int .i64 (if 2<=i then b.id else 0),.int .i64 (if 3<=i then c.id else 0),.int .i64 (if 4<=i then d.id else 0),.nils,.int .i64 0]]) (λi=>4-i) (λi=>i<=4) 0 (Qh _) rfl rfl λi hi=>?_
 rcases (show i=0\/i=1\/i=2\/i=3\/i=4 by omega) with rfl | rfl | rfl | rfl | rfl
 ·refine Ub [.t rfl,.x (i:=0) (xs:=U6 a) rfl,.i 0] rfl ?_ (by simp [Uw]);exact rd 1 (by omega) (by omega) rfl
 ·refine Ub [.t rfl,.x (i:=1) (xs:=U6 b) rfl,.i 1] rfl ?_ (by simp [Uw]);exact rd 2 (by omega) (by omega) rfl
 ·refine Ub [.t rfl,.x (i:=2) (xs:=U6 c) rfl,.i 2] rfl ?_ (by simp [Uw]);exact rd 3 (by omega) (by omega) rfl
 ·refine Ub [.t rfl,.x (i:=3) (xs:=U6 d) rfl,.i 3] rfl ?_ (by simp [Uw]);exact rd 4 (by omega) (by omega) rfl
 ·exact Ud [.f rfl,.f rfl,.f rfl,.f rfl,.f rfl,.x (i:=0) (xs:=U6 a) rfl,.x (i:=1) (xs:=U6 b) rfl,.x (i:=2) (xs:=U6 c) rfl,.x (i:=3) (xs:=U6 d) rfl,.k cf,.k cg] rfl
theorem Qsr {s m:Pt×Pt} {t:Tm} (h1:Sc s.1.c) (h2:Sc s.2.c) (h3:Sc m.1.c) (h4:Sc m.2.c) (ht:Va t):U0 prog 167 [.agg (U6 m.1),.agg (U6 m.2),.one (.ow 0 0),.one (.ow 1 0),.one (.ow 2 0)] [.blk 38 (U6 s.1),.blk 38 (U6 s.2),.blk 189 (ta t)] [] [.blk 38 (U6 (Po (Fl t) s m).1),.blk 38 (U6 (Po (Fl t) s m).2),.blk 189 (ta t)]:=by
 have cf:=NU h1 h2 h3 h4;have cg:=TU (VO h1 h2 h3 h4).dp ht;unfold Po;refine Ft func167 rfl ?_;by_cases h:Hd (Fl t) (Hi s.1.c s.2.c m.1.c m.2.c)<0
 ·rw [if_pos h];exact Uf [] [0,1,2] [.k cf,.k cg,.t (decide_eq_true h)] rfl
 ·rw [if_neg h];exact Uf [] [0,1,2] [.k cf,.k cg,.f (decide_eq_false h)] rfl
theorem Qsm {s m:Pt×Pt} {t:Tm} {L:List Ct} (h1:Sc s.1.c) (h2:Sc s.2.c) (h3:Sc m.1.c) (h4:Sc m.2.c) (ht:Va t) (hL:L.length<=1000000):U0 prog 170 [.agg (U6 m.1),.agg (U6 m.2),.one (.ow 0 0),.one (.ow 1 0),.one (.ow 2 0),.one (.ow 3 0)] [.blk 38 (U6 s.1),.blk 38 (U6 s.2),.blk 189 (ta t),.blk 79 [.orow 4 7 none],.row false 136 7 (U3 L)] [] [.blk 38 (U6 s.1),.blk 38 (U6 s.2),.blk 189 (ta t),.blk 79 [.orow 4 7 none],.row false 136 7 (U3 (if ZZ s m=true then L++[No (Fl t) s.1 s.2 m.1 m.2] else L))]:=by
 have cm:=Qlv h1 h2 h3 h4 ht;have hq:∀ y∈[C6 (No (Fl t) s.1 s.2 m.1 m.2)],y.length=7:=λy hy=>by rw [Qk.1 hy]; rfl
 have hcl:=S8 L;have hsn:U3 (L++[No (Fl t) s.1 s.2 m.1 m.2])=U3 L++[C6 (No (Fl t) s.1 s.2 m.1 m.2)]:=by simp [U3]
 refine Ft func170 rfl ?_;by_cases e1:m.1.id=s.1.id
 ·by_cases e2:m.2.id=s.2.id
  ·rw [if_neg (by simp [ZZ,e1,e2])];exact Uf [] [0,1,2,3,4] [.g 15 false (by simp [e1]),.f (by simp [e2])] rfl
  ·rw [if_pos (by simp [ZZ,e2]),hsn];exact Uf [] [0,1,2,3,4] [.g 15 false (by simp [e1]),.t (by simp [e2]),.k cm,.s (sz:=7) hq] rfl (by simp [Uw,hcl]; omega)
 ·rw [if_pos (by simp [ZZ,e1]),hsn];exact Uf [] [0,1,2,3,4] [.g 15 true (by simp [e1]),.t rfl,.k cm,.s (sz:=7) hq] rfl (by simp [Uw,hcl]; omega)
theorem SX (M:List Pt):Hw 0 M=[]:=by cases M <;> rfl
def jA (M:List Pt) (x:Pt) (i j:Nat):List (Pt×Pt):=Hw i M++((M.drop (i+1)).take j).map (λy=>(x,y))
theorem gI (M:List Pt) (x:Pt) (i:Nat):jA M x i 0=Hw i M:=by rw [jA,Vv,X7,Zx]
theorem gA {M:List Pt} {i j:Nat} {x y:Pt} (hy:(M.drop (i+1))[j]? = some y):jA M x i (j+1)=jA M x i j++[(x,y)]:=by
 unfold jA;rw [Zw,hy,Option.toList_some,Ye,Zc]; rfl
theorem iJ {M:List Pt} {i j:Nat} {x:Pt} (hx:M[i]? = some x) (hj:(M.drop (i+1)).length<=j):jA M x i j=Hw (i+1) M:=by
 unfold jA;rw [Qn hj,D6 M i x hx]
theorem Qoh {M:List Pt} {i j:Nat} {x:Pt} (hx:M[i]? = some x):∀ m∈jA M x i j,m.1∈M/\m.2∈M:=λm hm=>by
 rcases Qr.1 hm with h | h
 ·exact Se _ _ m h
 ·obtain ⟨y,hy,rfl⟩:=Za.1 h;exact ⟨Qa hx,Qz (Qo hy)⟩
theorem Qes {l:List Pt} {t:Tm} {s0:Pt×Pt} (hl:∀ p∈l,Sc p.c) (hs:s0.1∈l/\s0.2∈l) (hn:l.length≤1000) (ht:Va t):U0 prog 166 [.one (pts l),.one (.ofn 167 [] [.ow 0 0,.ow 1 0,.ow 2 0])] [.blk 38 (U6 s0.1),.blk 38 (U6 s0.2),.blk 189 (ta t)] [] [.blk 38 (U6 (Hg (Fl t) s0 (Gj l)).1),.blk 38 (U6 (Hg (Fl t) s0 (Gj l)).2),.blk 189 (ta t)]:=by
 have hcl:=Gu l;have hsc:∀ ps:List (Pt×Pt),(∀ m∈ps,m.1∈l/\m.2∈l)->Sc (Hg (Fl t) s0 ps).1.c/\Sc (Hg (Fl t) s0 ps).2.c:=λps h=>by
  obtain ⟨h1,h2⟩:=D2 (Fl t) ps s0 hs h;exact ⟨hl _ h1,hl _ h2⟩
 show U0 prog 166 [.one (.row (Uv l)),.one (.ofn 167 [] [.ow 0 0,.ow 1 0,.ow 2 0])] _ _ _;refine Ft func166 rfl ?_;refine Ub [] rfl ?_;refine lp (S:=Nat) 3 (λL1 i=>(10,.v (.oi i))::L1) (λi=>[.blk 38 (U6 (Hg (Fl t) s0 (Hw i l)).1),.blk 38 (U6 (Hg (Fl t) s0 (Hw i l)).2),.blk 189 (ta t)]) (λi=>l.length-i) (λi=>i<=l.length) 0 (Qh _) rfl (λ_ _=>rfl) (by rw [SX]; rfl) λi hi=>?_
 by_cases hlt:i<l.length
 ·obtain ⟨x,hx⟩:=gxE (l:=l) (i:=i) hlt;have ed1:(Uv l).drop (i+1)=Uv (l.drop (i+1)):=by simp [Uv,Vh]
  have hdl:=Gu (l.drop (i+1));have hdl2:(l.drop (i+1)).length<=1000:=by rw [Q8]; omega
  rw [<-gI l x i];refine go tt [.t (by simp [hcl]; omega),.x (Si hx),.r 17 (eI (b:=((i+1:Nat):Int)) (by simp)),.i (i+1),.r 18 (UX ed1)] rfl (by simp [Uw,Gu,eq_true (p:=∀ z,z∈Uv l->z.length=ti38.sz) (YU l)]; omega) ?_;refine Ug (S:=Nat) 4 (λL1 j=>(20,.v (.oi j))::L1) (λj=>[.blk 38 (U6 (Hg (Fl t) s0 (jA l x i j)).1),.blk 38 (U6 (Hg (Fl t) s0 (jA l x i j)).2),.blk 189 (ta t),.blk 38 (U6 x)]) (λj=>(l.drop (i+1)).length-j) (λj=>j<=(l.drop (i+1)).length) 0 (Qh _) rfl rfl λj hj=>?_
  by_cases hltj:j<(l.drop (i+1)).length
  ·obtain ⟨y,hy⟩:=gxE (l:=(l.drop (i+1))) (i:=j) hltj;obtain ⟨s1,s2⟩:=hsc (jA l x i j) (Qoh hx);have cn:=Qsr (s:=Hg (Fl t) s0 (jA l x i j)) (m:=(x,y)) s1 s2 (hl x (Qa hx)) (hl y (Qz (Qa hy))) ht;rw [<-jF,<-gA hy] at cn;refine go tt [.T,.x (Si hy),.c [0,1,2] cn] rfl (by simp [Uw,-List.length_drop]; omega) ?_;exact rd (j+1) (by omega) hltj rfl
  ·have e:=iJ hx (J6 hltj);rw [e];refine go tt [.F] rfl (by simp [Uw,-List.length_drop]; omega) ?_;exact rd (i+1) (by omega) hlt rfl
 ·obtain rfl:i=l.length:=by omega
  exact Uf [] [0,1,2] [.f (by simp [hcl])] rfl
theorem Qet {l:List Pt} {t:Tm} {s:Pt×Pt} (hl:∀ p∈l,Sc p.c) (hs:s.1∈l/\s.2∈l) (hn:l.length≤10) (ht:Va t):U0 prog 166 [.one (pts l),.one (.ofn 170 [] [.ow 0 0,.ow 1 0,.ow 2 0,.ow 3 0])] [.blk 38 (U6 s.1),.blk 38 (U6 s.2),.blk 189 (ta t),.blk 79 [.orow 4 7 none],.row false 136 7 []] [] [.blk 38 (U6 s.1),.blk 38 (U6 s.2),.blk 189 (ta t),.blk 79 [.orow 4 7 none],.row false 136 7 (U3 (Ml (Fl t) s (Gj l)))]:=by
 have hcl:=Gu l;have hpk:∀ i,i<=l.length->(Hw i l).length<=100:=λi hi=>by
  have:=KH i l;have:i*l.length<=10*10:=Zh (by omega) hn;omega
 show U0 prog 166 [.one (.row (Uv l)),.one (.ofn 170 [] [.ow 0 0,.ow 1 0,.ow 2 0,.ow 3 0])] _ _ _;refine Ft func166 rfl ?_;refine Ub [] rfl ?_;refine lp (S:=Nat) 5 (λL1 i=>(10,.v (.oi i))::L1) (λi=>[.blk 38 (U6 s.1),.blk 38 (U6 s.2),.blk 189 (ta t),.blk 79 [.orow 4 7 none],.row false 136 7 (U3 (Ml (Fl t) s (Hw i l)))]) (λi=>l.length-i) (λi=>i<=l.length) 0 (Qh _) rfl (λ_ _=>rfl) (by rw [SX]; rfl) λi hi=>?_
 by_cases hlt:i<l.length
 ·obtain ⟨x,hx⟩:=gxE (l:=l) (i:=i) hlt;have ed1:(Uv l).drop (i+1)=Uv (l.drop (i+1)):=by simp [Uv,Vh]
  have hdl:=Gu (l.drop (i+1));have hdl2:(l.drop (i+1)).length<=10:=by rw [Q8]; omega
  rw [<-gI l x i];refine go tt [.t (by simp [hcl]; omega),.x (Si hx),.r 17 (eI (b:=((i+1:Nat):Int)) (by simp)),.i (i+1),.r 18 (UX ed1)] rfl (by simp [Uw,Gu,eq_true (p:=∀ z,z∈Uv l->z.length=ti38.sz) (YU l)]; omega) ?_;refine Ug (S:=Nat) 6 (λL1 j=>(20,.v (.oi j))::L1) (λj=>[.blk 38 (U6 s.1),.blk 38 (U6 s.2),.blk 189 (ta t),.blk 79 [.orow 4 7 none],.row false 136 7 (U3 (Ml (Fl t) s (jA l x i j))),.blk 38 (U6 x)]) (λj=>(l.drop (i+1)).length-j) (λj=>j<=(l.drop (i+1)).length) 0 (Qh _) rfl rfl λj hj=>?_
  by_cases hltj:j<(l.drop (i+1)).length
  ·obtain ⟨y,hy⟩:=gxE (l:=(l.drop (i+1))) (i:=j) hltj;have hdn:(Ml (Fl t) s (jA l x i j)).length<=1000000:=by
    refine Qc (AI _ _ _) ?_;unfold jA;rw [Qu,Q7,Qq];have:=hpk i hi; omega
   have cn:=Qsm (s:=s) (m:=(x,y)) (L:=Ml (Fl t) s (jA l x i j)) (hl _ hs.1) (hl _ hs.2) (hl x (Qa hx)) (hl y (Qz (Qa hy))) ht hdn;have en1:(if ZZ s (x,y)=true then Ml (Fl t) s (jA l x i j)++[No (Fl t) s.1 s.2 x y] else Ml (Fl t) s (jA l x i j))=Ml (Fl t) s (jA l x i (j+1)):=by
    rw [gA hy];cases h:ZZ s (x,y) with
    | true=>rw [if_pos rfl,Qm5 h]
    | false=>rw [if_neg (by decide),Qm4 h]
   dsimp only at cn;rw [en1] at cn;refine go tt [.T,.x (Si hy),.c [0,1,2,3,4] cn] rfl (by simp [Uw,-List.length_drop]; omega) ?_;exact rd (j+1) (by omega) hltj rfl
  ·have e:=iJ hx (J6 hltj);rw [e];refine go tt [.F] rfl (by simp [Uw,-List.length_drop]; omega) ?_;exact rd (i+1) (by omega) hlt rfl
 ·obtain rfl:i=l.length:=by omega
  exact Uf [] [0,1,2,3,4] [.f (by simp [hcl])] rfl
theorem AT {l:List Pt} {a:Tm} {c:Cr} {r1:Uq} (hl:∀ p∈l,Sc p.c) (hn:l.length≤10) (ha:Va a):U0 prog 130 [.one (.ow 0 0),.agg (ta a)] [.blk 203 (Ht c (Uv l) r1)] [.one (.row (U3 (D5 (Fl a) l)))] [.blk 203 (Ht c (Uv l) (Uv (ZX (Fl a) l)))]:=by
 have hcl:=Gu l;refine Ft func130 rfl ?_;by_cases h2:l.length<2
 ·obtain ⟨e1,e2⟩:=Qb0 (Fl a) h2;rw [e1,e2];refine Ub [.k Ig] rfl ?_;refine nlc 0 13 rfl rfl rfl ?_;have hml:(l.map U6).length=l.length:=Q7 _;exact Uf [] [0] [.T] rfl
 ·obtain ⟨x,y,l',rfl⟩:=Qvf h2;obtain ⟨l,hle⟩:=nmE (x::y::l');have hx0:(Uv l)[0]? = some (U6 x):=by rw [hle]; rfl
  have hy0:(Uv l)[1]? = some (U6 y):=by rw [hle]; rfl
  have hxl:x∈l:=by rw [hle]; simp
  have hyl:y∈l:=by rw [hle]; simp
  have eB:ZX (Fl a) (x::y::l')=[(Hg (Fl a) (x,y) (Gj l)).1,(Hg (Fl a) (x,y) (Gj l)).2]:=by rw [hle]; rfl
  have eC:D5 (Fl a) (x::y::l')=Ml (Fl a) (Hg (Fl a) (x,y) (Gj l)) (Gj l):=by rw [hle]; rfl
  rw [eB,eC];rw [<-hle] at hl hn h2 hcl ⊢;have c1:=Qes (t:=a) (s0:=(x,y)) hl ⟨hxl,hyl⟩ (by omega) ha;obtain ⟨n1,n2⟩:=D2 (Fl a) (l:=l) (Gj l) (x,y) ⟨hxl,hyl⟩ (Se _ _);generalize Hg (Fl a) (x,y) (Gj l)=s at *;have c2:=Qet (t:=a) (s:=s) hl ⟨n1,n2⟩ hn ha;have hml:(l.map U6).length=l.length:=Q7 _;exact Uf [5] [0] [.k Ig,.F,.x hx0,.x hy0,.c [2,3,1] c1,.oc 8 0 136 7,.c [2,3,1,4,5] c2] rfl
theorem Qr7 {T:Nat} {t:Rat} {Bc:Tm->List Ct} {Br:Tm->Uq} {r0:Uq} (ht:Qs 1640000 t) (hB:BuildOk Bc)
 (hb:∀ a c r1,Va a->CrOk c->U0 prog 130 [.one (.ow 0 0),.agg (ta a)] [.blk T (Ht c r0 r1)] [.one (.row (U3 (Bc a)))] [.blk T (Ht c r0 (Br a))])
 {K:Nat} {c c':Cr} {r1 r1':Uq} {n:Int} (hc:CrOk c) (hev:0<=c.ev/\c.ev+K<=1000000000000000000) (h:Fh c.now t<=0) (hg:WV Bc Br t K c r1 0=some (c',r1',n)) :
 U0 prog 366 [.one (.ow 0 0),.agg (rl t),.one (.ofn 130 [.ow 0 0] [])] [.blk T (Ht c r0 r1)] [.oi n,.oi 0] [.blk T (Ht c' r0 r1')]:=by
 have qt:Qb t:=ht.mono (by decide);have c1:=Cz hc.n.tb qt;refine Ft func366 rfl ?_;refine Ub [.c [0] (O6 hc.n),.k c1,.f (by simpa using h)] rfl ?_;refine Ug (S:=Nat×Cr×Uq×Int) 2 (λL1 s=>(8,.v (.oi s.2.2.2))::L1) (λs=>[.blk T (Ht s.2.1 r0 s.2.2.1),.blk 40 (rl t)]) (λs=>s.1) (λs=>CrOk s.2.1/\(0<=s.2.1.ev/\s.2.1.ev+s.1<=1000000000000000000)/\(0<=s.2.2.2/\s.2.2.2+s.1<=1000000000000000000)/\WV Bc Br t s.1 s.2.1 s.2.2.1 s.2.2.2=some (c',r1',n)) (K,c,r1,0) ⟨hc,hev,⟨Int.le_refl 0,by dsimp only; omega⟩,hg⟩ rfl rfl λ⟨k,x,r,m⟩ ⟨j1,j2,j3,j4⟩=>?_
 dsimp only at j1 j2 j3 j4 ⊢;cases k with
 | zero=>cases j4
 |
  succ k =>
  simp only [WV] at j4;obtain ⟨ws,w1,j4⟩:=Qd.1 j4;obtain ⟨o,o1,j4⟩:=Qd.1 j4;have cn:=PG (T:=T) (r0:=r0) (r1:=r) j1 w1 o1;have ca:=VY (Uy t.num) (Uy (t.den:Int)) (Qc ht.1 (by decide)) (Qc ht.2 (by decide)) (by rw [Pe]; exact ht.mono (by decide));rw [Pe] at ca;cases o with
  |
   none =>
   injection j4 with j4; injection j4 with e1 j4; injection j4 with e2 e3;subst e1; subst e2; subst e3;exact Uf [] [0] [.c [0] cn,.g 25 true rfl,.t rfl,.k ca] rfl
  |
   some a =>
   have ha:=DJ j1 w1 o1;dsimp only at j4;have cc:=Cz ha.tb qt;by_cases h0:0<Fh a t
   ·rw [if_pos h0] at j4;injection j4 with j4; injection j4 with e1 j4; injection j4 with e2 e3;subst e1; subst e2; subst e3;exact Uf [] [0] [.c [0] cn,.g 25 false rfl,.k cc,.t (by simpa using h0),.k ca] rfl
   ·rw [if_neg h0] at j4;obtain ⟨w2,l1,j4⟩:=Qd.1 j4;have j1':=Ea j1 w1;have cl:=Su (b:=a) (l:=[]) ha.tb (λt ht=>by cases ht) (by decide) rfl;have cb:=hb a { x with l:=ws } r ha j1';have cy:=WS (T:=T) (r0:=r0) (r1:=Br a) j1' ha (hB.p a ha) (hB.n a ha) l1;have hf:decide (0<Fh a t)=false:=by simpa using h0
    refine Uc [.c [0] cn,.g 25 false rfl,.k cc,.f hf,.k cl,.c [0] cb,.c [0] cy] rfl ?_;exact rd (k,⟨a,w2,x.ev+1⟩,Br a,m+1) (by dsimp only; omega) ⟨lay_ok _ j1' ha (hB.p a ha) (hB.n a ha) l1,by dsimp only; omega,by dsimp only; omega,j4⟩ rfl
end Orr
namespace Orr
open Go
def Rw:Um->Nat
 | []=>0
 | x::l=>x+10000*Rw l
def Dg (l:Um):Prop:=∀ x∈l,x<10000
def Ga (x:Nat):Um:=if h:x=0 then [] else (x % 10000)::Ga (x / 10000)
termination_by x
decreasing_by omega
theorem Hu:Ga 0=[]:=by unfold Ga; simp
theorem JL {x:Nat} (h:x≠0):Ga x=(x % 10000)::Ga (x / 10000):=by rw [Ga]; simp [h]
theorem H5 (x:Nat):Rw (Ga x)=x:=by
 induction x using Nat.strongRecOn with
 |
  _ x ih =>
  rcases Q3 x with h | h
  ·subst h; rw [Hu]; rfl
  ·rw [JL (by omega)];simp only [Rw];rw [ih _ (by omega)]; omega
theorem Bz (x:Nat):Dg (Ga x):=by
 induction x using Nat.strongRecOn with
 |
  _ x ih =>
  rcases Q3 x with h | h
  ·subst h; rw [Hu]; intro y hy; cases hy
  ·rw [JL (by omega)];intro y hy;rcases Ql.1 hy with rfl | hy
   ·omega
   ·exact ih _ (by omega) y hy
theorem PL {x:Nat}:(Ga x).length=0↔x=0:=by
 constructor
 ·intro h;have h0:=Qj h;have:=H5 x;rw [h0] at this;exact this.symm
 ·rintro rfl; rw [Hu]; rfl
theorem A4 {x:Nat} (h:x≠0):(Ga (x / 10000)).length+1=(Ga x).length:=by rw [JL h]; rfl
theorem Qa3 {x:Nat} (h:x<1000000000000):(Ga x).length<=3:=by
 by_cases h0:x=0
 ·subst h0; rw [Hu]; exact Qh _
 ·have h1:=A4 h0;by_cases h2:x / 10000=0
  ·rw [h2,Hu] at h1; simp at h1; omega
  ·have h3:=A4 h2;by_cases h4:x / 10000 / 10000=0
   ·rw [h4,Hu] at h3; simp at h3; omega
   ·have h5:=A4 h4;have h6:x / 10000 / 10000 / 10000=0:=by omega
    rw [h6,Hu] at h5; simp at h5; omega
theorem Ma (x:Nat):(Ga x).length<=sz x:=by
 induction x using Nat.strongRecOn with
 |
  _ x ih =>
  by_cases h0:x=0
  ·subst h0; rw [Hu]; exact Qh _
  ·have h1:=A4 h0;have h2:=ih (x / 10000) (by omega);have h3:sz (x / 10000)+1<=sz x:=by
    have h4:x<2^sz x:=UN x;rcases hs:sz x with _ | k
    ·rw [hs] at h4; simp at h4; omega
    ·rw [hs] at h4;have:sz (x / 10000)<=k:=Bh.2 (by rw [Zq] at h4; omega);omega
   omega
theorem S9 (a b:Um):Rw (a++b)=Rw a+10000^a.length*Rw b:=by
 induction a with
 | nil=>simp [Rw]
 |
  cons x a ih =>
  simp only [Xa,Rw,ih,Q6,Zq];rw [Xi,<-Xy,Zp 10000 (10000^a.length)]; omega
theorem Ti {l:Um} {i x:Nat} (h:l[i]? = some x):Rw (l.take (i+1))=Rw (l.take i)+10000^i*x:=by
 have hi:=(Qf.1 h).1;rw [show l.take (i+1)=l.take i++[x] by rw [Zw,h]; rfl,S9,Qq,Zz (by omega)];simp [Rw]
theorem BS:∀ {l:Um},Dg l->Rw l<10000^l.length
 | [],_=>by simp [Rw]
 |
  x::l,h=>by
  have h1:=h x (Qy ..);have h2:=BS (l:=l) λy hy=>h y (Qg _ hy)
  simp only [Rw,Q6,Zq]; omega
theorem BP:∀ {l:Um},(∀ x∈l,x=0)->Rw l=0
 | [],_=>rfl
 |
  x::l,h=>by
  have h1:=h x (Qy ..);have h2:=BP (l:=l) λy hy=>h y (Qg _ hy)
  simp [Rw,h1,h2]
theorem Dg.take {l:Um} (h:Dg l) (k:Nat):Dg (l.take k):=λx hx=>h x (Qo hx)
theorem Dg.snoc {l:Um} (h:Dg l) {x:Nat} (hx:x<10000):Dg (l++[x]):=by
 intro y hy;rcases Qr.1 hy with hy | hy
 ·exact h y hy
 ·rw [Qk.1 hy]; exact hx
theorem Dg.nil:Dg []:=λx h=>by cases h
theorem pS:∀ {l:Um},Dg l->(∀ x,l[l.length-1]? = some x->x≠0)->l=Ga (Rw l)
 | [],_,_=>by rw [Rw,Hu]
 |
  x::l,h,hl=>by
  have h1:=h x (Qy ..);have h2:l=Ga (Rw l):=pS (λy hy=>h y (Qg _ hy)) λy hy=>hl y (by
   rcases l with _ | ⟨z,t⟩
   ·simp at hy
   ·simpa using hy)
  have h3:x+10000*Rw l≠0:=by
   intro e;have hx:x=0:=by omega
   have hd:Rw l=0:=by omega
   rw [hd,Hu] at h2;subst h2;exact hl x rfl hx
  simp only [Rw];rw [JL h3,show (x+10000*Rw l) % 10000=x by omega,show (x+10000*Rw l) / 10000=Rw l by omega,<-h2]
theorem wR {l:Um} {m:Nat} (hd:Dg l) (hm:m<=l.length) (h1:∀ j x,m<=j->l[j]? = some x->x=0) (h2:0<m->∃ y,l[m-1]? = some y/\y≠0):l.take m=Ga (Rw l):=by
 have e:Rw l=Rw (l.take m):=by
  conv=>lhs; rw [<-Zf m l,S9]
  rw [BP (l:=l.drop m) λx hx=>?_]
  ·omega
  ·obtain ⟨j,hj⟩:=Zj.1 hx;rw [Xb] at hj;exact h1 (m+j) x (by omega) hj
 rw [e];refine pS (hd.take m) λx hx=>?_
 have hl:(l.take m).length=m:=by rw [Qq]; omega
 rw [hl] at hx;rcases Q3 m with h0 | h0
 ·subst h0; simp at hx
 ·obtain ⟨y,hy,hy0⟩:=h2 h0;rw [Kd (by omega),hy] at hx;injection hx with hx; rw [<-hx]; exact hy0
theorem IQ {o c i d m P V:Nat} (hP:P=10000^i) (h:o+c*P=V):o+P*((c+d*m) % 10000)+(c+d*m) / 10000*(P*10000)=V+P*d*m:=by
 have e:=Xc (c+d*m) 10000;generalize (c+d*m) / 10000=q at *;generalize (c+d*m) % 10000=r at *;have e2:P*(c+d*m)=P*(10000*q+r):=by rw [e]
 grind
theorem ZB {x y:Nat} (h:x<=y):(Ga x).length<=(Ga y).length:=by
 induction y using Nat.strongRecOn generalizing x with
 |
  _ y ih =>
  by_cases h0:x=0
  ·subst h0; rw [Hu]; exact Qh _
  ·have h1:=A4 h0;have h2:=A4 (x:=y) (by omega);have:=ih (y / 10000) (by omega) (x:=x / 10000) (Nat.div_le_div_right h);omega
theorem Qa2 {n x:Nat} (h:10000^n<=x):n+1<=(Ga x).length:=by
 have h1:=BS (Bz x);rw [H5] at h1;have h2:n<(Ga x).length:=(Nat.pow_lt_pow_iff_right (by decide)).1 (Z3 h h1);omega
theorem wG {x y:Nat} (h:(Ga x).length<(Ga y).length):x<y:=by
 rcases Zb x y with h1 | h1
 ·exact h1
 ·have:=ZB h1; omega
theorem Qa4 {k y:Nat} (h:y<10000^k):(Ga y).length<=k:=by
 induction k generalizing y with
 |
  zero =>
  have:y=0:=by simpa using h
  subst this; rw [Hu]; exact Qm _
 |
  succ k ih =>
  by_cases hy0:y=0
  ·subst hy0; rw [Hu]; exact Qh _
  ·have h8:=A4 hy0;have:=ih (y:=y / 10000) (by rw [Zq] at h; omega);omega
theorem Qfm {o:Um} (h:Dg o) (hl:o.length<=(Ga (Rw o)).length):o=Ga (Rw o):=by
 refine pS h λx hx h0=>?_
 subst h0;have hne:0<o.length:=by
  rcases o with _ | ⟨a,o⟩
  ·simp at hx
  ·simp
 have h1:Rw o=Rw (o.take (o.length-1)):=by
  have:=Ti hx;rw [show o.length-1+1=o.length by omega,Q5] at this;omega
 have h2:=BS (h.take (o.length-1));rw [<-h1,Qq,Zz (by omega)] at h2;have:=Qa4 h2;omega
theorem ZL {l:Um} {j d:Nat} (h:l[j]? = some d):Rw (l.drop j)=d+10000*Rw (l.drop (j+1)):=by
 obtain ⟨hj,he⟩:=Qf.1 h;rw [Zv hj,he]; rfl
theorem HQ {l:Um} {j y:Nat} (h:j<l.length):(l.set j y).drop j=y::l.drop (j+1):=by
 rw [Zv (by simpa using h)];simp only [List.getElem_set_self];rw [List.drop_set_of_lt (by omega)]
theorem Dg.set {l:Um} (h:Dg l) {j y:Nat} (hy:y<10000):Dg (l.set j y):=by
 intro x hx;rcases Ya hx with hx | rfl
 ·exact h x hx
 ·exact hy
theorem Dg.zeros (n:Nat):Dg (List.replicate n 0):=by
 intro x hx; rw [Zy hx]; decide
theorem wS {V kd d:Nat} (hk:0<kd):(d+10000*V) / kd=(V % kd*10000+d) / kd+10000*(V / kd)/\(d+10000*V) % kd=(V % kd*10000+d) % kd/\(d<10000->(V % kd*10000+d) / kd<10000):=by
 have e:=Xc V kd;have e2:d+10000*V=(V % kd*10000+d)+kd*(10000*(V / kd)):=by
  conv=>lhs; rw [<-e]
  grind
 refine ⟨?_,?_,λhd=>?_⟩
 ·rw [e2,Wd _ _ hk]
 ·rw [e2,V9]
 ·have:=Z5 V hk;exact (Vw hk).2 (by grind)
theorem PE (l:Um) (j:Nat) (h:j<=l.length):Rw l=Rw (l.take j)+10000^j*Rw (l.drop j):=by
 conv=>lhs; rw [<-Zf j l,S9]
 rw [Qq,Zz h]
theorem BU {a b:Um} {j d e:Nat} (ha:Dg a) (hd:a[j]? = some d) (he:b[j]? = some e) (hs:a.drop (j+1)=b.drop (j+1)) (h:d<e):Rw a<Rw b:=by
 have h1:=(Qf.1 hd).1;have h2:=(Qf.1 he).1;rw [PE a j (by omega),PE b j (by omega),ZL hd,ZL he,hs];have h3:=BS (ha.take j);rw [Qq,Zz (by omega)] at h3;generalize 10000^j=P at *;have h4:P*(d+10000*Rw (b.drop (j+1)))+P<=P*(e+10000*Rw (b.drop (j+1))):=by
  rw [<-Nat.mul_succ]; exact Zt _ (by omega)
 omega
def dl (l:Um):LV:=.row (l.map λ(x:Nat)=>[.int .i64 (x:Int)])
theorem Tk (l:Um):(l.map λ(x:Nat)=>[LV.int .i64 (x:Int)]).length=l.length:=by simp
theorem Gs {l:Um} {i x:Nat} (h:l[i]? = some x):(l.map λ(x:Nat)=>[LV.int .i64 (x:Int)])[i]? = some [.int .i64 (x:Int)]:=by rw [Zd,h]; rfl
abbrev nd (x:Nat):LV:=dl (Ga x)
end Orr
namespace Orr
open Go Go.Proofs Tryz
set_option maxRecDepth 10000
abbrev Bn (l:Um):Uq:=l.map λ(x:Nat)=>[.int .i64 (x:Int)]
theorem Qs8 (l:Um):∀ c∈Bn l,c.length=1:=λc hc=>by obtain ⟨x,_,rfl⟩:=Za.1 hc; rfl
theorem GL {l:Um} (hd:Dg l):Uh 154 [.one (.row (Bn l))] [.one (nd (Rw l))]:=by
 refine Ft func154 rfl (ln 0 rfl rfl λhl=>?_);rw [Q7] at hl;refine Ub [] rfl ?_;refine lp (S:=Nat) 0 (λL1 n=>(3,.v (.oi n))::L1) (λ_=>[]) id (λn=>n<=l.length/\∀ j x,n<=j->l[j]? = some x->x=0) (Bn l).length ⟨by simp,λj x h1 h2=>by
  have:=(Qf.1 h2).1; simp at h1; omega⟩ rfl (λ_ _=>rfl) rfl λn ⟨h1,h2⟩=>?_
 cases n with
 | zero=>exact Ud [.g 8 false (by simp),.f rfl,.i 0] rfl (by have:=wR hd h1 h2 (λh=>by omega); unfold nd; rw [<-this]; simp [dl]) (by simp [Uw])
 |
  succ n =>
  obtain ⟨x,hx⟩:=gxE (l:=l) (i:=n) (by omega);by_cases h0:x=0
  ·refine Uc [.g 8 true (by simp),.r 11 (v:=.oi n) (by simp),.x (Gs hx),.t (by simp [h0]),.r 17 (v:=.oi n) (by simp)] rfl ?_;exact rd n (by simp) ⟨by omega,λj y h3 h4=>by
    rcases Vl h3 with rfl | h3
    ·rw [hx] at h4; injection h4 with h4; rw [<-h4,h0]
    ·exact h2 j y h3 h4⟩ rfl
  ·exact Ud [.g 8 true (by simp),.r 11 (v:=.oi n) (by simp),.x (Gs hx),.f (by simp [h0]),.i (n+1)] rfl (by have:=wR hd h1 h2 (λ_=>⟨x,hx,h0⟩); unfold nd; rw [<-this]; simp [dl,List.map_take]) (by simp [Uw] <;> omega)
theorem dL {x kd:Nat} (hxs:sz x<=100000000) (hk:0<kd/\kd<=65536):Uh 118 [.one (nd x),.oi kd] [.one (nd (x / kd)),.oi ((x % kd:Nat):Int)]:=by
 have hln:=Qc (Ma x) hxs;obtain ⟨l,hl⟩:=nmE (Ga x);have hx:Rw l=x:=by rw [hl,H5]
 have hd:Dg l:=by rw [hl]; exact Bz x
 show Uh 118 [.one (.row (Bn (Ga x))),.oi kd] _;rw [<-hl] at hln ⊢;rw [<-hx];have hll:=Tk l;refine Ft func118 rfl ?_;refine Uc [.i (Bn l).length,.i (Bn l).length] rfl ?_;rw [hll,show List.replicate l.length [LV.int .i64 0]=Bn (List.replicate l.length 0) from by simp [Bn]];refine Ug (S:=Nat×Um×Nat) 1 (λL1 s=>(8,.v (.oi ((s.1:Int)-1)))::(7,.v (.oi (s.2.2:Int)))::L1) (λs=>[.row false 3 1 (Bn s.2.1)]) (λs=>s.1) (λs=>s.1<=l.length/\s.2.1.length=l.length/\Dg s.2.1/\Rw (s.2.1.drop s.1)=Rw (l.drop s.1) / kd/\s.2.2=Rw (l.drop s.1) % kd) (l.length,List.replicate l.length 0,0) ⟨Qm _,by simp,Dg.zeros _,by simp [Rw],by simp [Rw]⟩ rfl rfl λ⟨k,o,R⟩ ⟨j1,j2,j3,j4,hR⟩=>?_
 dsimp only at j1 j2 j3 j4 hR ⊢;cases k with
 |
  zero =>
  have cc:=GL j3;rw [X5,X5] at j4;rw [j4] at cc;exact Ud [.f (by simp),.k cc] rfl (by rw [hR,X5]) trivial
 |
  succ k =>
  obtain ⟨d,hdk⟩:=gxE (l:=l) (i:=k) (by omega);have hd0:=hd d (Qa hdk);have hdd:=ZL hdk;obtain ⟨s1,s2,s3⟩:=wS (V:=Rw (l.drop (k+1))) (kd:=kd) (d:=d) hk.1;rw [<-hdd] at s1 s2;have hr:=Z5 (Rw (l.drop (k+1))) hk.1;rw [<-hR] at s1 s2 s3 hr;have e:((k+1:Nat):Int)-1=(k:Int):=by omega
  have htd:((R:Int)*10000+(d:Int)).tdiv (kd:Int)=(((R*10000+d) / kd:Nat):Int):=rfl;have hle:=Jz (R*10000+d) kd;have htb:0<=((R:Int)*10000+(d:Int)).tdiv (kd:Int)/\((R:Int)*10000+(d:Int)).tdiv (kd:Int)<=655369999:=by
   rw [htd]; revert hle; generalize (R*10000+d) / kd=Q; intro hle; omega
  rw [e];refine Uc [.t (by simp),.x (Gs hdk),.r 26 (eI (b:=((R*10000+d:Nat):Int)) (by omega)),.r 31 (eI (b:=(((R*10000+d) / kd:Nat):Int)) (by rfl)),.i k,.r 35 (eI (b:=(((R*10000+d) % kd:Nat):Int)) (by rfl))] rfl ?_;exact rd (k,o.set k ((R*10000+d) / kd),(R*10000+d) % kd) (by dsimp only; omega) ⟨by dsimp only; omega,by simp [j2],j3.set (s3 hd0),by dsimp only; rw [HQ (by omega)]; simp only [Rw]; rw [j4,s1],by dsimp only; exact s2.symm⟩ (by simp [Bn,List.map_set]; rfl)
theorem Qvb (x k:Nat):sz (x / k)<=sz x:=Sr (Jz _ _)
theorem mN {x y:Nat} {o:Um} (h:Fv x=o++Fv y) (h0:y≠0):Fv x=(o++[y % 4294967296])++Fv (y / 4294967296):=by
 rw [h,El h0]; simp
theorem Qnr (o:Um) (z:Nat):lm (o++[z])=lm o++[[.int .u32 (z:Int)]]:=by simp [lm]
theorem Qwo {x:Nat} (hx:sz x<=100000000):Uh 76 [.one (nd x)] [lr (Fv x)]:=by
 have hlx:=Rp hx;refine Ft func76 rfl ?_;refine Ub [.o 3 113 1] rfl ?_;refine Ug (S:=Nat×Um) 1 (λL1 s=>(0,.v (.one (nd s.1)))::(3,.v (.one (.orow 0 1 none)))::L1) (λs=>[.row false 113 1 (lm s.2)]) (λs=>s.1) (λs=>Fv x=s.2++Fv s.1/\s.1<=x) (x,[]) ⟨rfl,Qm _⟩ rfl rfl λ⟨y,o⟩ ⟨j1,j2⟩=>?_
 dsimp only at j1 j2 ⊢;by_cases h0:y=0
 ·subst h0;rw [G0,Zx] at j1;rw [j1];exact Ud [.f (by simp [Hu])] rfl
 ·have hs:=mN j1 h0;have hsy:sz y<=100000000:=Qc (Sr j2) hx;have c1:=dL (x:=y) (kd:=65536) hsy (by decide);have c2:=dL (x:=y / 65536) (kd:=65536) (Qc (Qvb _ _) hsy) (by decide);have hl:(Ga y).length≠0:=λh=>h0 (PL.1 h)
  have ol:o.length<=(Fv x).length:=by rw [j1]; simp
  have e:y / 65536 % 65536*65536+y % 65536=y % 4294967296:=by omega
  have e2:y / 65536 / 65536=y / 4294967296:=by omega
  refine go tt [.t (by simp; omega),.k c1,.k c2,.r 26 (E6 (b:=((y % 4294967296:Nat):Int)) (by omega)),.s (sz:=1) (l:=[[.int .u32 ((y % 4294967296:Nat):Int)]]) (λc hc=>by rw [Qk.1 hc]; rfl)] rfl (by simp [Uw,Uz]; omega) ?_;rw [<-e2] at hs;exact rd (y / 65536 / 65536,o++[y % 4294967296]) (by dsimp only; omega) ⟨hs,by dsimp only; omega⟩ (by rw [Qnr]; rfl)
abbrev ri (z:Int):Up:=[nd z.natAbs,sg z]
theorem Qxl (b:Bool) (m:Nat):[nd m,LV.bool (b && decide (0<m))]=ri (U8 b m):=by
 simp only [ri,sg,Ri,DY]
theorem Qug (x:Nat):(0<(Ga x).length)↔0<x:=by
 have:=PL (x:=x); omega
theorem O8 (b:Bool) (m:Nat):Uh 77 [.one (nd m),.one (.bool b)] [.agg (ri (U8 b m))]:=by
 rw [<-Qxl];have e:=Qug m;cases b with
 | false=>exact Ue func77 rfl [.g 7 false rfl] rfl
 | true=>exact Ue func77 rfl [.g 7 true rfl] rfl (by simp [e]) trivial
theorem Dc {z:Int}:Uh 102 [.agg (ri z)] [.one (.bool (decide (z=0)))] :=
 Ue func102 rfl [] rfl (by have h:=PL (x:=z.natAbs); simp only [Tk]; congr 3; rw [decide_eq_decide]; omega) trivial
theorem O7 {z:Int}:Uh 103 [.agg (ri z)] [.agg (ri (-z))]:=by
 have h:=O8 (!decide (z<0)) z.natAbs;have e:U8 (!decide (z<0)) z.natAbs=-z:=by unfold U8; by_cases h:z<0 <;> simp [h] <;> omega
 rw [e] at h;exact Ue func103 rfl [.k h] rfl
theorem Qsk {z:Int} (hz:Fa z<=100000000):Uh 34 [.agg (ri z)] [.agg (He z)] :=
 Ue func34 rfl [.k (Qwo hz)] rfl
theorem eBo {a b:Bool} (h:a=b):TV.one (LV.bool a)=.one (.bool b):=h ▸ rfl
theorem A6 (l:Um) (x:Nat):Bn (l++[x])=Bn l++[[.int .i64 (x:Int)]]:=by simp [Bn]
theorem wH {x y:Nat} {o:Um} (h:Ga x=o++Ga y) (h0:y≠0):Ga x=(o++[y % 10000])++Ga (y / 10000):=by
 rw [h,JL h0]; simp
theorem Qsn {b:Bool} {x:Nat} (hx:x<=4000000000000000000) (hb:b=true->0<x):Uh 35 [.oi (U8 b x)] [.agg (ri (U8 b x))]:=by
 have hl:(Ga x).length<=100:=by
  have:=Ma x;have h2:sz x<=64:=Bh.2 (by omega);omega
 have hm:=O8 b x;refine Ft func35 rfl ?_;cases b with
 |
  false =>
  show AK prog _ _ _ (VJ 0 [.oi x]) [];refine Ub [.f (by simp <;> omega),.r 3 (eBo (b:=false) (by simp)),.f rfl,.o 4 3 1] rfl ?_;refine Ug (S:=Nat×Um) 2 (λL1 s=>(0,.v (.oi (s.1:Int)))::(4,.v (.one (.orow 1 1 none)))::L1) (λs=>[.blk 52 [.nils,.bool false],.row false 3 1 (Bn s.2)]) (λs=>s.1) (λs=>Ga x=s.2++Ga s.1/\s.1<=x) (x,[]) ⟨rfl,Qm _⟩ rfl rfl λ⟨y,o⟩ ⟨j1,j2⟩=>?_
  dsimp only at j1 j2 ⊢;by_cases h0:y=0
  ·subst h0;rw [Hu,Zx] at j1;rw [<-j1];exact Ud [.f (by simp),.k hm] rfl
  ·have hs:=wH j1 h0;have ol:o.length<=(Ga x).length:=by rw [j1]; simp
   refine go tt [.t (by simp; omega),.r 18 (eI (b:=((y % 10000:Nat):Int)) (by rfl)),.s (sz:=1) (l:=[[.int .i64 ((y % 10000:Nat):Int)]]) (λc hc=>by rw [Qk.1 hc]; rfl),.r 22 (eI (b:=((y / 10000:Nat):Int)) (by rfl))] rfl (by simp [Uw,Tk]; omega) ?_;exact rd (y / 10000,o++[y % 10000]) (by dsimp only; omega) ⟨hs,by dsimp only; omega⟩ (by rw [A6]; rfl)
 |
  true =>
  show AK prog _ _ _ (VJ 0 [.oi (-(x:Int))]) [];refine Uc [.f (by simp <;> omega),.r 3 (eBo (b:=true) (by simpa using hb rfl)),.t rfl,.r 0 (eI (b:=(x:Int)) (by omega)),.o 4 3 1] rfl ?_;refine Ug (S:=Nat×Um) 2 (λL1 s=>(0,.v (.oi (s.1:Int)))::(4,.v (.one (.orow 1 1 none)))::L1) (λs=>[.blk 52 [.nils,.bool false],.row false 3 1 (Bn s.2)]) (λs=>s.1) (λs=>Ga x=s.2++Ga s.1/\s.1<=x) (x,[]) ⟨rfl,Qm _⟩ rfl rfl λ⟨y,o⟩ ⟨j1,j2⟩=>?_
  dsimp only at j1 j2 ⊢;by_cases h0:y=0
  ·subst h0;rw [Hu,Zx] at j1;rw [<-j1];exact Ud [.f (by simp),.k hm] rfl
  ·have hs:=wH j1 h0;have ol:o.length<=(Ga x).length:=by rw [j1]; simp
   refine go tt [.t (by simp; omega),.r 18 (eI (b:=((y % 10000:Nat):Int)) (by rfl)),.s (sz:=1) (l:=[[.int .i64 ((y % 10000:Nat):Int)]]) (λc hc=>by rw [Qk.1 hc]; rfl),.r 22 (eI (b:=((y / 10000:Nat):Int)) (by rfl))] rfl (by simp [Uw,Tk]; omega) ?_;exact rd (y / 10000,o++[y % 10000]) (by dsimp only; omega) ⟨hs,by dsimp only; omega⟩ (by rw [A6]; rfl)
theorem VK {n:Int} (hn:-4000000000000000000<=n/\n<=4000000000000000000):Uh 35 [.oi n] [.agg (ri n)]:=by
 have e:U8 (decide (n<0)) n.natAbs=n:=by unfold U8; by_cases h:n<0 <;> simp [h] <;> omega
 have h:=Qsn (b:=decide (n<0)) (x:=n.natAbs) (by omega) (λh=>by have:=of_decide_eq_true h; omega);rwa [e] at h
abbrev fr (q:Rat):Up:=ri q.num++ri (q.den:Int)
theorem A5:Ga 1=[1]:=by rw [JL (by decide)]; rw [Hu]
theorem Ew {n:Int}:Uh 52 [.agg (ri n),.agg (ri 1)] [.agg (fr (n:Rat))]:=by
 have h0:(Bn (Ga (1:Int).natAbs))[0]? = some [LV.int .i64 1]:=by rw [show (1:Int).natAbs=1 from rfl,A5]; rfl
 have h1:decide (((Bn (Ga (1:Int).natAbs)).length:Int)=1)=true:=by rw [show (1:Int).natAbs=1 from rfl,A5]; rfl
 exact Ue func52 rfl [.k (Dc (z:=1)),.f rfl,.f rfl,.g 19 true h1,.x h0,.t rfl] rfl
theorem VC {n:Int} (hn:-4000000000000000000<=n/\n<=4000000000000000000):Uh 15 [.oi n,.oi 1] [.agg (fr (n:Rat))] :=
 Ue func15 rfl [.k (VK hn),.k (VK (n:=1) (by decide)),.k Ew] rfl
theorem Qee {q:Rat} (hq:Qs 100000000 q):Uh 14 [.agg (fr q)] [.agg (rl q)] :=
 Ue func14 rfl [.k (Qsk hq.1),.k (Qsk hq.2)] rfl
end Orr
namespace Orr
open Go Go.Proofs Tryz Orq
set_option maxRecDepth 10000
theorem Iw {a:Tm} (ha:Va a):WL a a=some 0:=by
 obtain ⟨c,c1,c2⟩:=WE ha ha;rcases c2 with ⟨_,h⟩ | ⟨e,_⟩ | ⟨_,h⟩
 ·exact absurd h λh=>Il ha.cut ha.cut h h
 ·rw [c1,e]
 ·exact absurd h λh=>Il ha.cut ha.cut h h
theorem dG {c:Cr} {l l':List Pt} {r1:Uq} {ws:List Wt} (hc:CrOk c) (hl:∀ p∈l',Sc p.c) (hn:l'.length≤1000) (h:Sj c.l c.now (Fg (ZS l' c.now))=some ws) :
 U0 prog 367 [.one (.ow 0 0),.agg [pts l'],.oi 0] [.blk 196 (Ht c (Uv l) r1)] [.oi 0] [.blk 196 (Ht ⟨c.now,ws,c.ev⟩ (Uv l') (vU l' c.now))]:=by
 have hB:=sW hl hn;have cn:=O6 (T:=196) (c:=c) (r0:=Uv l') (r1:=r1) hc.n;have cb:=AS (c:=c) (r1:=r1) hl hn hc.n;have cg:=JS (T:=196) (r0:=Uv l') (r1:=vU l' c.now) hc hc.n (Iw hc.n) (Yb 0) (hB.p _ hc.n) (hB.n _ hc.n) h;refine Ft func367 rfl ?_;exact Uf [] [0] [.f rfl,.c [0] cn,.c [0] cb,.c [0] cg] rfl
theorem Qsh {c:Cr} {l s:List Pt} (hs:s.length<=1000000):U0 prog 63 [.one (.ow 0 0)] [.blk 196 (Ht c (Uv l) (Uv s))] [.one (ids (s.map (·.id)))] [.blk 196 (Ht c (Uv l) (Uv s))]:=by
 have hcl:=Gu s;refine Ft func63 rfl ?_;refine Ub [.o 3 3 1] rfl ?_;refine Ug (S:=Nat) 2 (λL1 i=>(11,.v (.oi i))::(3,.v (.one (.orow 1 1 none)))::L1) (λi=>[.blk 196 (Ht c (Uv l) (Uv s)),.row false 3 1 (((s.take i).map (·.id)).map λ(z:Int)=>[LV.int .i64 z])]) (λi=>s.length-i) (λi=>i<=s.length) 0 (Qh _) rfl rfl λi hi=>?_
 by_cases hlt:i<s.length
 ·obtain ⟨p,hp⟩:=gxE (l:=s) (i:=i) hlt;have hg:(((s.take (i+1)).map (·.id)).map λ(z:Int)=>[LV.int .i64 z])=(((s.take i).map (·.id)).map λ(z:Int)=>[LV.int .i64 z])++[[.int .i64 p.id]]:=by
   rw [Zw,hp]; simp
  refine Uc [.t (by simp [hcl]; omega),.x (Si hp),.s (sz:=1) (l:=[[.int .i64 p.id]]) (λc hc=>by rw [Qk.1 hc]; rfl)] rfl ?_;exact rd (i+1) (by omega) hlt (by rw [hg]; rfl)
 ·obtain rfl:i=s.length:=by omega
  rw [Q5];exact Uf [1] [0] [.f (by simp [hcl])] rfl
theorem Qsi {lx ly:Uq} {px py:Uk} {x y:LV} {d id:Int} {c:Cr} {l:List Pt} {r1:Uq} {ws:List Wt} (hx:IsInts lx px) (hy:IsInts ly py) (hd:Gv x y d) (hk:Cs 4294967294 1073741824 (Crv.mk px py d)) (hll:l.length<=900)
 (he:KB l ⟨Crv.norm (Crv.mk px py d),id⟩=0) (hc:CrOk c) (hl:∀ p∈put l ⟨Crv.norm (Crv.mk px py d),id⟩,Sc p.c) (hn:(put l ⟨Crv.norm (Crv.mk px py d),id⟩).length≤1000) (h:Sj c.l c.now (Fg (ZS (put l ⟨Crv.norm (Crv.mk px py d),id⟩) c.now))=some ws) :
 U0 prog 363 [.one (.ow 0 0),.agg [.row lx,.row ly,x,y,.int .i64 id]] [.blk 196 (Ht c (Uv l) r1)] [.oi 0] [.blk 196 (Ht ⟨c.now,ws,c.ev⟩ (Uv (put l ⟨Crv.norm (Crv.mk px py d),id⟩)) (vU (put l ⟨Crv.norm (Crv.mk px py d),id⟩) c.now))]:=by
 have cp:=kK (l:=l) (id:=id) hx hy hd hk (by omega);rw [if_pos he,he] at cp;have cw:=dG (l:=l) (r1:=r1) hc hl hn h;refine Ft func363 rfl ?_;obtain ⟨b,l',rfl,rfl,_⟩:=hd;exact Uf [] [0] [.k cp,.c [0] cw] rfl
theorem Qsg {t:Rat} {l:List Pt} {K:Nat} {c c':Cr} {r1 r1':Uq} {n:Int} (ht:Qs 1640000 t) (hl:∀ p∈l,Sc p.c) (hn:l.length≤1000) (hc:CrOk c) (hev:0≤c.ev/\c.ev+K≤1000000000000000000) (h:Fh c.now t≤0) (hg:WV (ZS l) (vU l) t K c r1 0=some (c',r1',n)) :
 U0 prog 359 [.one (.ow 0 0),.agg (rl t)] [.blk 196 (Ht c (Uv l) r1)] [.oi n,.oi 0] [.blk 196 (Ht c' (Uv l) r1')]:=by
 have cg:=Qwg (T:=196) (r0:=Uv l) ht (sW hl hn) (λa c r1 ha _=>AS (c:=c) (r1:=r1) hl hn ha) hc hev h hg;refine Ft func359 rfl ?_;exact Uf [] [0] [.k (Bw (ht.mono (by decide))),.c [0] cg] rfl
abbrev idl (l:Uk):Uq:=l.map λ(z:Int)=>[.int .i64 z]
theorem MZ {l:Uk} {i:Nat} {z:Int} (h:l[i]? = some z):(idl l)[i]? = some [.int .i64 z]:=Gn h
theorem Qd7 {a b:Uk} (ha:a.length<=1000000) (hb:b.length<=1000000):Uh 22 [.one (ids a),.one (ids b)] [.one (.bool (decide (a=b)))]:=by
 show Uh 22 [.one (.row (idl a)),.one (.row (idl b))] _;have la:(idl a).length=a.length:=by simp
 have lb:(idl b).length=b.length:=by simp
 refine Ft func22 rfl ?_;by_cases hl:a.length=b.length
 ·refine Ub [.f (by simp; omega)] rfl ?_;refine Ug (S:=Nat) 0 (λL1 i=>(5,.v (.oi i))::L1) (λ_=>[]) (λi=>a.length-i) (λi=>i<=a.length/\a.take i=b.take i) 0 ⟨Qh _,rfl⟩ rfl rfl λi ⟨hi,he⟩=>?_
  by_cases hlt:i<a.length
  ·obtain ⟨x,hx⟩:=gxE (l:=a) (i:=i) hlt;obtain ⟨y,hy⟩:=gxE (l:=b) (i:=i) (by omega);by_cases e:x=y
   ·refine Uc [.t (by simp; omega),.x (MZ hx),.x (MZ hy),.f (by simpa using e)] rfl ?_;exact rd (i+1) (by omega) ⟨hlt,by rw [Zw,Zw,hx,hy,he,e]⟩ rfl
   ·have hne:a≠b:=λh=>by rw [h,hy] at hx; injection hx with hx; exact e hx.symm
    exact Ud [.t (by simp; omega),.x (MZ hx),.x (MZ hy),.t (by simpa using e)] rfl (by simp [hne]) trivial
  ·obtain rfl:i=a.length:=by omega
   have hab:a=b:=by rw [Q5] at he; rw [he,hl,Q5]
   exact Ud [.f (by simp)] rfl (by simp [hab]) trivial
 ·have hne:a≠b:=λh=>hl (by rw [h])
  exact Ud [.t (by simp; omega)] rfl (by simp [hne]) trivial
def Nz (v n:Int):Int:=if n<1 then 0 else v.emod n
theorem Qck {v n:Int} (h:0<n):(if v.tmod n<0 then v.tmod n+n else v.tmod n)=v % n:=by
 have h3:=Vi v (show n≠0 by omega);have h4:=Yw v h;have h1:=Int.tmod_eq_emod (a:=v) (b:=n);have hn:((n.natAbs:Nat):Int)=n:=by omega
 split at h1
 ·rw [h1]; simp; omega
 ·rename_i hc;rw [h1,hn];have:v % n≠0:=λe=>hc (.inr (Vf e))
  rw [if_pos (by omega)]; omega
theorem Dq {v n:Int} (hv:-9223372036854775808<=v/\v<=9223372036854775807) (hn:n<=1000000000):Uh 9 [.oi v,.oi n] [.oi (Nz v n)]:=by
 unfold Nz;by_cases h:n<1
 ·rw [if_pos h];exact Ue func9 rfl [.t (by simpa using h)] rfl
 ·rw [if_neg h];have e:=Qck (v:=v) (n:=n) (by omega);have h3:=Vi v (show n≠0 by omega);have h4:=Yw v (show 0<n by omega);show Uh 9 [.oi v,.oi n] [.oi (v % n)];by_cases h0:v.tmod n<0
  ·rw [if_pos h0] at e;have b:-n<=v.tmod n:=by omega
   exact Ue func9 rfl [.f (by simpa using h),.t (by simpa using h0)] rfl (by rw [e]) (by simp [Uw]; omega)
  ·rw [if_neg h0] at e;exact Ue func9 rfl [.f (by simpa using h),.f (by simpa using h0)] rfl (by rw [e]) (by simp [Uw]; omega)
end Orr
namespace Orr
open Go Go.Proofs Tryz Orq
theorem LR {x y:Int} (hx:-9223372036854775808<=x/\x<=9223372036854775807) (hy:-9223372036854775808<=y/\y<=9223372036854775807):Sc (If x y):=⟨Crv.nml _,((wK hx hy).norm (by decide)).mono (by decide) (by decide)⟩
theorem Sc.pt {p:Pt} (h:Sc p.c):oR 4294967294 1073741824 p:=⟨h.n,h.c.mono (by decide) (by decide)⟩
end Orr
namespace Orr
open Go Go.Proofs Tryz Orq
set_option maxRecDepth 10000
def sK (l:List Pt) (a:Tm):List Ct:=D5 (Fl a) l
abbrev brP (l:List Pt) (a:Tm):Uq:=Uv (ZX (Fl a) l)
theorem cO {l:List Pt} {a:Tm}:∀ x∈sK l a,x.p∈EG l:=λx hx=>by
 match l,hx with
 |
  u::v::l',hx =>
  unfold sK at hx;simp only [D5] at hx;obtain ⟨h3,h4⟩:=D2 (Fl a) (l:=u::v::l') (Gj (u::v::l')) (u,v) ⟨by simp,by simp⟩ (Se _ _);obtain ⟨m,hm,rfl⟩:=AO hx;obtain ⟨h1,h2⟩:=Se _ _ m hm;rw [CE];exact ME h3 h4 h1 h2
theorem Qda {l:List Pt} (hl:∀ p∈l,Sc p.c) (hn:l.length≤10):BuildOk (sK l) :=
 ⟨λ_ _ x hx=>WU hl _ (cO x hx),λa _=>by
  have:=OL (Fl a) l;have:l.length*l.length<=10*10:=Zh hn hn;show (D5 (Fl a) l).length<=1000;omega⟩
def Qwa (l:List Pt) (a:Tm):Cr:=⟨a,(Fg (sK l a)).map fresh,0⟩
theorem Qly {t:Rat} {l:List Pt} {K:Nat} {c c':Cr} {r1 r1':Uq} {n:Int} (ht:Qs 1640000 t) (hl:∀ p∈l,Sc p.c) (hn:l.length≤10) (hc:CrOk c) (hev:0≤c.ev/\c.ev+K≤1000000000000000000) (h:Fh c.now t≤0) (hg:WV (sK l) (brP l) t K c r1 0=some (c',r1',n)) :
 U0 prog 398 [.one (.ow 0 0),.agg (rl t)] [.blk 203 (Ht c (Uv l) r1)] [.oi n,.oi 0] [.blk 203 (Ht c' (Uv l) r1')]:=by
 have cg:=Qr7 (T:=203) (r0:=Uv l) ht (Qda hl hn) (λa c r1 ha _=>AT (c:=c) (r1:=r1) hl hn ha) hc hev h hg;refine Ft func398 rfl ?_;exact Uf [] [0] [.k (Bw (ht.mono (by decide))),.c [0] cg] rfl
theorem dU {c:Cr} {r0:Uq} {a b:Pt}:U0 prog 67 [.one (.ow 0 0)] [.blk 203 (Ht c r0 (Uv [a,b]))] [.oi a.id,.oi b.id,.one (.bool true)] [.blk 203 (Ht c r0 (Uv [a,b]))]:=by
 refine Ft func67 rfl ?_;exact Uf [] [0] [.f rfl,.x (l:=Uv [a,b]) (i:=0) (xs:=U6 a) rfl,.x (l:=Uv [a,b]) (i:=1) (xs:=U6 b) rfl] rfl
theorem kY {c:Cr} {r0:Uq}:U0 prog 67 [.one (.ow 0 0)] [.blk 203 (Ht c r0 [])] [.oi 0,.oi 0,.one (.bool false)] [.blk 203 (Ht c r0 [])]:=by
 refine Ft func67 rfl ?_;exact Uf [] [0] [.t rfl] rfl
end Orr
namespace Orr
open Go
def SD (q:Uk->Int) (a b:Pt):Pt×Pt:=if Bt q a b=true then (a,b) else (b,a)
def Oi (q:Uk->Int):Nat->List Pt->List Pt×List (Pt×Pt)
 | 0,l=>(l,[])
 |
  k+1,l=>if l.length<2 then (l,[]) else
  match (Oi q k (l.take ((l.length+1) / 2))).1,(Oi q k (l.drop ((l.length+1) / 2))).1 with
  | a::_,b::_=>([(SD q a b).1],(Oi q k (l.take ((l.length+1) / 2))).2++(Oi q k (l.drop ((l.length+1) / 2))).2++[SD q a b])
  | _,_=>([],[])
theorem C7 (q:Uk->Int):∀ (k:Nat) (l:List Pt),l.length<=k->Oi q k l=Oi q l.length l
 | 0,l,h=>by rw [show l.length=0 by omega]
 |
  k+1,l,h=>by
  cases hl:l.length with
  | zero=>simp [Oi,hl]
  |
   succ m =>
   simp only [Oi];by_cases h2:l.length<2
   ·rw [if_pos h2,if_pos h2]
   ·rw [if_neg h2,if_neg h2];have h3:(l.take ((l.length+1) / 2)).length<=m:=by rw [Qq]; omega
    have h4:(l.drop ((l.length+1) / 2)).length<=m:=by rw [Q8]; omega
    rw [C7 q k (l.take ((l.length+1) / 2)) (by omega),C7 q k (l.drop ((l.length+1) / 2)) (by omega),C7 q m (l.take ((l.length+1) / 2)) h3,C7 q m (l.drop ((l.length+1) / 2)) h4]
termination_by k=>k
def Ns (q:Uk->Int) (l:List Pt):List Pt×List (Pt×Pt):=Oi q l.length l
theorem Cc (q:Uk->Int) {l:List Pt} (h:l.length<2):Ns q l=(l,[]):=by
 unfold Ns;cases hl:l.length with
 | zero=>rfl
 | succ m=>simp only [Oi]; rw [if_pos h]
theorem Oj (q:Uk->Int) {l:List Pt} (h:¬l.length<2) {a b:Pt} (ha:(Ns q (l.take ((l.length+1) / 2))).1=[a]) (hb:(Ns q (l.drop ((l.length+1) / 2))).1=[b]) :
 Ns q l=([(SD q a b).1],(Ns q (l.take ((l.length+1) / 2))).2++(Ns q (l.drop ((l.length+1) / 2))).2++[SD q a b]):=by
 unfold Ns at ha hb ⊢;obtain ⟨m,hm⟩:∃ m,l.length=m+1:=⟨l.length-1,by omega⟩;have h3:(l.take ((l.length+1) / 2)).length<=m:=by rw [Qq]; omega
 have h4:(l.drop ((l.length+1) / 2)).length<=m:=by rw [Q8]; omega
 rw [<-C7 q m _ h3] at ha ⊢;rw [<-C7 q m _ h4] at hb ⊢;rw [show Oi q l.length l=Oi q (m+1) l by rw [hm]];simp only [Oi];rw [if_neg h,ha,hb]
theorem M7 (q:Uk->Int):∀ (k:Nat) (l:List Pt),l.length≤k->0<l.length->∃ a,(Ns q l).1=[a]/\a∈l/\∀ m∈(Ns q l).2,m.1∈l/\m.2∈l
 | 0,l,h,h0=>by omega
 |
  k+1,l,h,h0=>by
  by_cases h2:l.length<2
  ·rw [Cc q h2]
   match l,h0,h2 with
   | [a],_,_=>exact ⟨a,rfl,by simp,by simp⟩
  ·obtain ⟨a,ha,hal,ham⟩:=M7 q k (l.take ((l.length+1) / 2)) (by rw [Qq]; omega) (by rw [Qq]; omega);obtain ⟨b,hb,hbl,hbm⟩:=M7 q k (l.drop ((l.length+1) / 2)) (by rw [Q8]; omega) (by rw [Q8]; omega);rw [Oj q h2 ha hb];have hd:(SD q a b).1∈l/\(SD q a b).2∈l:=by
    unfold SD; split
    ·exact ⟨Qo hal,Qz hbl⟩
    ·exact ⟨Qz hbl,Qo hal⟩
   refine ⟨_,rfl,hd.1,λm hm=>?_⟩;rcases Qr.1 hm with hm | hm
   ·rcases Qr.1 hm with hm | hm
    ·exact ⟨Qo (ham m hm).1,Qo (ham m hm).2⟩
    ·exact ⟨Qz (hbm m hm).1,Qz (hbm m hm).2⟩
   ·rw [Qk.1 hm]; exact hd
theorem C9 (q:Uk->Int):∀ (k:Nat) (l:List Pt),l.length<=k->(Ns q l).2.length<=l.length-1
 | 0,l,h=>by rw [Cc q (by omega)]; simp
 |
  k+1,l,h=>by
  by_cases h2:l.length<2
  ·rw [Cc q h2]; simp
  ·obtain ⟨a,ha,_⟩:=M7 q l.length (l.take ((l.length+1) / 2)) (by rw [Qq]; omega) (by rw [Qq]; omega);obtain ⟨b,hb,_⟩:=M7 q l.length (l.drop ((l.length+1) / 2)) (by rw [Q8]; omega) (by rw [Q8]; omega);rw [Oj q h2 ha hb];have h3:=C9 q k (l.take ((l.length+1) / 2)) (by rw [Qq]; omega);have h4:=C9 q k (l.drop ((l.length+1) / 2)) (by rw [Q8]; omega);rw [Qq] at h3;rw [Q8] at h4;simp only [Qu,Vs];omega
abbrev Qbw (m:Pt×Pt):Up:=[pl m.1.c.x,pl m.1.c.y,sg m.1.c.d,mg m.1.c.d,.int .i64 m.1.id,pl m.2.c.x,pl m.2.c.y,sg m.2.c.d,mg m.2.c.d,.int .i64 m.2.id]
end Orr
namespace Orq
open Orr Go
def UP (q:Rat) (x y:Pt):Prop:=py y q<py x q\/py y q=py x q/\(px y q<px x q\/px y q=px x q/\x.id<y.id)
theorem Qhb (q:Rat) (x:Pt):¬UP q x x:=by unfold UP; grind
theorem Qnp (q:Rat) (x y z:Pt) (h:UP q x y) (h':UP q y z):UP q x z:=by unfold UP at *; grind
theorem Qhc {q:Rat} {x y:Pt} (h:x.id≠y.id) (h':¬UP q x y):UP q y x:=by unfold UP at *; grind
theorem oD {a:Tm} (ha:Va a) {x y:Pt} (hx:Sc x.c) (hy:Sc y.c) {q:Rat} (h1:Hd (Fl a) (Gb y.c x.c)=U9 (U4 (Gb y.c x.c) q)) (h2:Hd (Fl a) (Gd y.c x.c)=U9 (U4 (Gd y.c x.c) q)):Bt (Fl a) x y=true↔UP q x y:=by
 rw [RD hy hx] at h1;rw [RL hy hx] at h2;have d1:=(Mv hy hx).dp;have d2:=(Mw hy hx).dp;unfold Bt;simp only [Ll];have t1:=Fp (py x q-py y q);have t2:=Fp (px x q-px y q);by_cases e1:(Gb y.c x.c).length=0
 ·rw [if_neg (by omega)];rw [Qj e1,XQ] at h1;have:py x q=py y q:=by grind
  by_cases e2:(Gd y.c x.c).length=0
  ·rw [if_neg (by omega)];rw [Qj e2,XQ] at h2;unfold UP;simp only [decide_eq_true_eq];grind
  ·rw [if_pos (by omega)];have:=(L8 ha d2 e2).2;unfold UP;simp only [decide_eq_true_eq];grind
 ·rw [if_pos (by omega)];have:=(L8 ha d1 e1).2;unfold UP;simp only [decide_eq_true_eq];grind
theorem vL {l:List Pt} (hl:∀ p∈l,Sc p.c) {a:Tm} (ha:Va a):∃ y,Fh a y=-1/\∀ q,Fh a q=-1->q≤y->∀ u∈l,∀ v∈l,(Bt (Fl a) u v=true↔UP q u v):=by
 obtain ⟨y,y1,y2⟩:=XZ ha (Lx l) λp hp=>(O2 hl p hp).dp
 refine ⟨y,y1,λq q1 q2 u hu v hv=>?_⟩;have h:=y2 q q1 q2;exact oD ha (hl u hu) (hl v hv) (h _ (Tt hv hu).2) (h _ (Tt hv hu).1)
theorem mA {a b:Tm} {x y:Pt} (h:Hd (Fl b) (Ai x y)=Hd (Fl a) (Ai x y)):Bt (Fl b) x y=Bt (Fl a) x y:=by
 unfold Ai Lh at h;unfold Bt;simp only [Ll];by_cases e1:0<(Gb y.c x.c).length
 ·rw [if_pos e1,if_pos e1]; rw [if_pos e1] at h; rw [h]
 ·rw [if_neg e1,if_neg e1]; rw [if_neg e1] at h; rw [h]
theorem Qgw {l:List Pt} {k:Nat} (h2:¬l.length<2) (hk:l.length<=k+1):(l.take ((l.length+1) / 2)).length<=k/\(l.drop ((l.length+1) / 2)).length<=k/\0<(l.take ((l.length+1) / 2)).length/\0<(l.drop ((l.length+1) / 2)).length:=by
 rw [Qq,Q8]; omega
theorem RY {sa sb:Uk->Int}:∀ (k:Nat) (l:List Pt),l.length≤k->l.Pairwise (λx y=>x.id≠y.id)->(∀ u∈l,∀ v∈l,u.id≠v.id->Bt sa u v=false->Bt sa v u=true)->(∀ u∈l,∀ v∈l,Bt sb v u=true->Bt sb u v=false)->(∀ m∈(Ns sa l).2,Bt sb m.1 m.2=Bt sa m.1 m.2)->Ns sb l=Ns sa l
 | 0,l,hk,_,_,_,_=>by rw [Cc _ (by omega),Cc _ (by omega)]
 |
  k+1,l,hk,hd,h1,h2,hm=>by
  by_cases hs:l.length<2
  ·rw [Cc _ hs,Cc _ hs]
  ·obtain ⟨k1,k2,k3,k4⟩:=Qgw hs hk;obtain ⟨a,ha,hal,_⟩:=M7 sa k (l.take ((l.length+1) / 2)) k1 k3;obtain ⟨b,hb,hbl,_⟩:=M7 sa k (l.drop ((l.length+1) / 2)) k2 k4;have hpl:=Oj sa hs ha hb;rw [hpl] at hm;have hd':=hd;rw [<-Zf ((l.length+1) / 2) l] at hd';obtain ⟨d1,d2,d3⟩:=Xv.1 hd';have i1:=RY k _ k1 d1 (λu hu v hv=>h1 u (Qo hu) v (Qo hv)) (λu hu v hv=>h2 u (Qo hu) v (Qo hv)) λm hm'=>hm m (by simp [hm'])
   have i2:=RY k _ k2 d2 (λu hu v hv=>h1 u (Qz hu) v (Qz hv)) (λu hu v hv=>h2 u (Qz hu) v (Qz hv)) λm hm'=>hm m (by simp [hm'])
   have hal':=Qo hal;have hbl':=Qz hbl;have e:SD sb a b=SD sa a b:=by
    have hmem:=hm (SD sa a b) (by simp);unfold SD at hmem ⊢;by_cases h:Bt sa a b=true
    ·rw [if_pos h] at hmem ⊢;rw [if_pos (hmem.trans h)]
    ·rw [if_neg h] at hmem ⊢;have h:Bt sa a b=false:=by simpa using h
     have:=h2 a hal' b hbl' (hmem.trans (h1 a hal' b hbl' (d3 a hal b hbl) h));rw [if_neg (by simp [this])]
   rw [hpl,Oj sb hs (by rw [i1]; exact ha) (by rw [i2]; exact hb),i1,i2,e]
end Orq
namespace Orr
open Orq Go
def AY (l:List Pt) (a:Tm):List Ct:=(Ns (Fl a) l).2.map λm=>Di (Fl a) m.1 m.2
def brT (l:List Pt) (a:Tm):Uq×Uq:=((Ns (Fl a) l).1.map U6,(Ns (Fl a) l).2.map Qbw)
theorem XL {sg:Uk->Int} {l:List Pt}:∀ m∈(Ns sg l).2,m.1∈l/\m.2∈l:=λm hm=>by
 by_cases h:0<l.length
 ·obtain ⟨_,_,_,h3⟩:=M7 sg l.length l (Qm _) h;exact h3 m hm
 ·rw [Cc _ (by omega)] at hm; cases hm
theorem Qrt {l:List Pt} (hl:∀ p∈l,Sc p.c) {a:Tm}:∀ x∈AY l a,Cp x.p:=λx hx=>by
 obtain ⟨m,hm,rfl⟩:=Za.1 hx;obtain ⟨h1,h2⟩:=XL m hm;exact JE (Mv (hl _ h2) (hl _ h1)) (Mw (hl _ h2) (hl _ h1))
theorem sU {l:List Pt} (hl:∀ p∈l,Sc p.c) (hn:l.length≤1000):BuildOk (AY l) :=
 ⟨λa _=>Qrt hl,λa _=>by
  unfold AY; rw [List.length_map];have:=C9 (Fl a) l.length l (Qm _); omega⟩
theorem Qlc {l:List Pt} {a:Tm}:∀ x∈AY l a,x.p∈Lx l:=λx hx=>by
 obtain ⟨m,hm,rfl⟩:=Za.1 hx;obtain ⟨h1,h2⟩:=XL m hm;show Ai m.1 m.2∈Lx l;unfold Ai Lh; split
 ·exact (Tt h2 h1).2
 ·exact (Tt h2 h1).1
theorem Qxy {l:List Pt} (hl:∀ p∈l,Sc p.c) (hn:l.length≤1000) (hd:l.Pairwise λx y=>x.id≠y.id):Stab (AY l) (brT l):=by
 refine ⟨sU hl hn,⟨Lx l,O2 hl,λa _ x hx=>?_⟩,λa b ha hb h=>?_⟩
 ·obtain ⟨m,hm,rfl⟩:=Za.1 hx;obtain ⟨h1,h2⟩:=XL m hm;show Ai m.1 m.2∈Lx l;unfold Ai Lh; split
  ·exact (Tt h2 h1).2
  ·exact (Tt h2 h1).1
 ·obtain ⟨y,y1,y2⟩:=vL hl ha;obtain ⟨z,z1,z2⟩:=vL hl hb;have ga:=y2 y y1 Qp;have gb:=z2 z z1 Qp;have e:Ns (Fl b) l=Ns (Fl a) l:=RY l.length l (Qm _) hd (λu hu v hv hne hf=>(ga v hv u hu).2 (Qhc hne λh=>by
   rw [(ga u hu v hv).2 h] at hf; cases hf)) (λu hu v hv ht=>by
   cases hb':Bt (Fl b) u v
   ·rfl
   ·exact absurd (Qnp z u v u ((gb u hu v hv).1 hb') ((gb v hv u hu).1 ht)) (Qhb z u)) λm hm=>mA (h (Di (Fl a) m.1 m.2) (Za.2 ⟨m,hm,rfl⟩))
  refine ⟨?_,by unfold brT; rw [e]⟩;unfold AY;rw [e];refine Xp λm hm=>?_
  have:=h (Di (Fl a) m.1 m.2) (Za.2 ⟨m,hm,rfl⟩);unfold Di;rw [show Hd (Fl b) (Ai m.1 m.2)=Hd (Fl a) (Ai m.1 m.2) from this]
end Orr
namespace Orq
open Orr Go
def ZQ (a:Crv):Ul:=[Fo a.x a.d,Fo a.y a.d,ZU (Gh a.x a.x) (Gh a.y a.y),[a.d*a.d]]
def wV (a b c d:Crv):List Ul:=[ZQ a,ZQ b,ZQ c,ZQ d]
def VF (a b c d:Crv):Uk:=D7 4 (wV a b c d)
theorem UO {s:Nat} {k:Crv} (hn:ZR k) (hc:Cs s 3 k):(∀ p∈ZQ k,U7 p/\Bd (s+s+3) p)/\∀ (j:Nat) (p:Uk),(ZQ k)[j]? = some p->p.length≤[2,2,4,0].getD j 0+1:=by
 have l1:=Fu k.x k.d;have l2:=Fu k.y k.d;have l3:=Sw k.x k.x;have l4:=Sw k.y k.y;have l5:=XU (Gh k.x k.x) (Gh k.y k.y);have kx:=hc.lx;have ky:=hc.ly;have bx:Bd (s+s+2) (Gh k.x k.x):=P9 hc.x hc.x (by omega);have by_:Bd (s+s+2) (Gh k.y k.y):=P9 hc.y hc.y (by omega);have hd:=hn.2.2.1;have hd0:k.d*k.d≠0:=λe=>by rcases Yc.1 e with e | e <;> omega
 have td:U7 [k.d*k.d]:=by unfold U7; simp [trim,hd0]
 refine ⟨λp hp=>?_,λj p hp=>?_⟩
 ·simp only [ZQ,Ql,Jl,or_false] at hp;rcases hp with rfl | rfl | rfl | rfl
  ·exact ⟨Fq _ _,Ux (Fz hc.x hc.d) (by omega)⟩
  ·exact ⟨Fq _ _,Ux (Fz hc.y hc.d) (by omega)⟩
  ·exact ⟨Fq _ _,Ux (WG bx by_) (by omega)⟩
  ·refine ⟨td,λz hz=>?_⟩;rw [Qk.1 hz];have:=Ge k.d k.d; have:=hc.d; omega
 ·match j,hp with
  | 0,hp=>injection hp with hp; subst hp; show _<=3; omega
  | 1,hp=>injection hp with hp; subst hp; show _<=3; omega
  | 2,hp=>injection hp with hp; subst hp; show _<=5; omega
  | 3,hp=>injection hp with hp; subst hp; exact Qm _
  | j+4,hp=>simp [ZQ] at hp
theorem rC {s:Nat} {a b c d:Crv} (na:ZR a) (nb:ZR b) (nc:ZR c) (nd:ZR d) (ca:Cs s 3 a) (cb:Cs s 3 b) (cc:Cs s 3 c) (cd:Cs s 3 d):Sq (s+s+3) [2,2,4,0] 4 4 (wV a b c d):=by
 have hr:∀ r∈wV a b c d,∃ k:Crv,ZR k/\Cs s 3 k/\r=ZQ k:=λr hr=>by
  simp only [wV,Ql,Jl,or_false] at hr;rcases hr with rfl | rfl | rfl | rfl
  ·exact ⟨a,na,ca,rfl⟩
  ·exact ⟨b,nb,cb,rfl⟩
  ·exact ⟨c,nc,cc,rfl⟩
  ·exact ⟨d,nd,cd,rfl⟩
 refine ⟨rfl,λr h=>?_,λr h p hp=>?_,λr h p hp=>?_,λr h j p hp=>?_⟩
 all_goals obtain ⟨k,kn,kc,rfl⟩:=hr r h
 ·rfl
 ·exact ((UO kn kc).1 p hp).1
 ·exact ((UO kn kc).1 p hp).2
 ·exact (UO kn kc).2 j p hp
theorem lW {a b c d:Crv} (ha:Sc a) (hb:Sc b) (hc:Sc c) (hd:Sc d):Cp (VF a b c d):=by
 obtain ⟨h1,h2,h3⟩:=MW 4 [2,2,4,0] (wV a b c d) (by decide) rfl (by decide) (rC ha.n hb.n hc.n hd.n ha.c hb.c hc.c hd.c);exact ⟨h1,Qc h3 (by decide),Ux h2 (by decide)⟩
def OR (sg:Uk->Int) (a b c d:Pt):Ct:=⟨4,a.id,b.id,c.id,d.id,VF a.c b.c c.c d.c,Hd sg (VF a.c b.c c.c d.c)⟩
abbrev P3:=Pt×(Pt×Pt)
abbrev P4:=Pt×P3
def Lc:Nat->List Pt->List P3
 | 0,_=>[]
 | _+1,[]=>[]
 | k+1,x::l=>(Gj l).map (λm=>(x,m))++Lc k l
def Rj (l:List Pt):List P3:=Lc l.length l
def Ee:Nat->List Pt->List P4
 | 0,_=>[]
 | _+1,[]=>[]
 | k+1,x::l=>(Rj l).map (λm=>(x,m))++Ee k l
def Ot (l:List Pt):List P4:=Ee l.length l
theorem YS:∀ (l:List Pt) (i:Nat) (x:Pt),l[i]? = some x->Lc (i+1) l=Lc i l++(Gj (l.drop (i+1))).map (λm=>(x,m))
 | [],i,x,h=>by simp at h
 | y::l,0,x,h=>by simp at h; subst h; simp [Lc]
 |
  y::l,i+1,x,h=>by
  have ih:=YS l i x (by simpa using h);show (Gj l).map _++Lc (i+1) l=((Gj l).map _++Lc i l)++_;rw [ih,Zc]; rfl
theorem RF:∀ (l:List Pt) (i:Nat) (x:Pt),l[i]? = some x->Ee (i+1) l=Ee i l++(Rj (l.drop (i+1))).map (λm=>(x,m))
 | [],i,x,h=>by simp at h
 | y::l,0,x,h=>by simp at h; subst h; simp [Ee]
 |
  y::l,i+1,x,h=>by
  have ih:=RF l i x (by simpa using h);show (Rj l).map _++Ee (i+1) l=((Rj l).map _++Ee i l)++_;rw [ih,Zc]; rfl
theorem EZ:∀ (k:Nat) (l:List Pt),∀ m∈Lc k l,m.1∈l/\m.2.1∈l/\m.2.2∈l
 | 0,l,m,h=>by simp [Lc] at h
 | k+1,[],m,h=>by simp [Lc] at h
 |
  k+1,x::l,m,h=>by
  rcases Qr.1 h with h | h
  ·obtain ⟨y,hy,rfl⟩:=Za.1 h;obtain ⟨h1,h2⟩:=Se _ _ y hy;exact ⟨Qy ..,Qg _ h1,Qg _ h2⟩
  ·obtain ⟨h1,h2,h3⟩:=EZ k l m h;exact ⟨Qg _ h1,Qg _ h2,Qg _ h3⟩
theorem rZ:∀ (k:Nat) (l:List Pt),∀ m∈Ee k l,m.1∈l/\m.2.1∈l/\m.2.2.1∈l/\m.2.2.2∈l
 | 0,l,m,h=>by simp [Ee] at h
 | k+1,[],m,h=>by simp [Ee] at h
 |
  k+1,x::l,m,h=>by
  rcases Qr.1 h with h | h
  ·obtain ⟨y,hy,rfl⟩:=Za.1 h;obtain ⟨h1,h2,h3⟩:=EZ _ _ y hy;exact ⟨Qy ..,Qg _ h1,Qg _ h2,Qg _ h3⟩
  ·obtain ⟨h1,h2,h3,h4⟩:=rZ k l m h;exact ⟨Qg _ h1,Qg _ h2,Qg _ h3,Qg _ h4⟩
theorem YG {l:List Pt} (h:l.length<=6):(Rj l).length<=20/\(Ot l).length<=15:=by
 match l,h with
 | [],_=>exact ⟨Zg rfl,Zg rfl⟩
 | [_],_=>exact ⟨Zg rfl,Zg rfl⟩
 | [_,_],_=>exact ⟨Zg rfl,Zg rfl⟩
 | [_,_,_],_=>exact ⟨Zg rfl,Zg rfl⟩
 | [_,_,_,_],_=>exact ⟨Zg rfl,Zg rfl⟩
 | [_,_,_,_,_],_=>exact ⟨Zg rfl,Zg rfl⟩
 | [_,_,_,_,_,_],_=>exact ⟨Zg rfl,Zg rfl⟩
 | _::_::_::_::_::_::_::_,h=>simp at h
abbrev Nj:=List (Uk×LV)
def SO (sg:Uk->Int) (m:P3):Ct:=Dy sg m.1 m.2.1 m.2.2
def GE (sg:Uk->Int) (m:P4):Ct:=OR sg m.1 m.2.1 m.2.2.1 m.2.2.2
def mT (m:P3):Uk:=[m.1.id,m.2.1.id,m.2.2.id]
def Qw7 (m:P4):Uk:=[m.1.id,m.2.1.id,m.2.2.1.id,m.2.2.2.id]
def Aq (V:List (Uk×Int)):Nj:=V.foldl (λM e=>Ln M e.1 (.int .i64 e.2)) []
def ZF (sg:Uk->Int) (ps:List P3):List (Uk×Int):=ps.map λm=>(mT m,(SO sg m).want)
def YO (sg:Uk->Int) (ps:List P4):List (Uk×Int):=ps.map λm=>(Qw7 m,(GE sg m).want)
theorem cR (sg:Uk->Int) (ps:List P3) (m:P3):Aq (ZF sg (ps++[m]))=Ln (Aq (ZF sg ps)) (mT m) (.int .i64 (SO sg m).want):=by simp [Aq,ZF]
def I2 (T:Nj) (s:Int) (n:Uk) (F:Nj) (skip:Nat):Nj:=if ZK T (n.eraseIdx skip)*(if (3-skip) % 2=1 then -s else s)>0 then Ln F (n.eraseIdx skip) (.bool true) else F
def IG (T:Nj) (s:Int) (n:Uk) (F:Nj):Nj:=I2 T s n (I2 T s n (I2 T s n (I2 T s n F 0) 1) 2) 3
def I5 (T:Nj) (V:List (Uk×Int)):Nj:=V.foldl (λF e=>IG T e.2 e.1 F) []
theorem mJ (sg:Uk->Int) (T:Nj) (ps:List P4) (m:P4):I5 T (YO sg (ps++[m]))=IG T (GE sg m).want (Qw7 m) (I5 T (YO sg ps)):=by simp [I5,YO]
def xN (T F:Nj) (m:P3):Bool:=decide (ZK T (mT m)≠0) && !(NK F (mT m))
theorem Qtm {T F:Nj} {ps:List P3} {m:P3} (h:xN T F m=true):(ps++[m]).filter (xN T F)=ps.filter (xN T F)++[m]:=by simp [Vk,h]
theorem Qgb {T F:Nj} {ps:List P3} {m:P3} (h:xN T F m=false):(ps++[m]).filter (xN T F)=ps.filter (xN T F):=by simp [Vk,h]
def fK (sg:Uk->Int) (l:List Pt):List Ct:=(Rj (Ta l)).map (SO sg)++(Ot (Ta l)).map (GE sg)
def OG (sg:Uk->Int) (l:List Pt):List P3:=(Rj (Ta l)).filter (xN (Aq (ZF sg (Rj (Ta l)))) (I5 (Aq (ZF sg (Rj (Ta l)))) (YO sg (Ot (Ta l)))))
abbrev trL (m:P3):Up:=[.int .i64 m.1.id,.int .i64 m.2.1.id,.int .i64 m.2.2.id]
def QL (l:List P3):Uq:=l.map trL
theorem tY (l:List P3):(QL l).length=l.length:=by simp [QL]
theorem OH (sg:Uk->Int) {l:List Pt} (h:l.length<=6):(OG sg l).length<=20:=by
 have hw:=Oz l;exact Qc (Yz _ _) (YG (l:=Ta l) (by omega)).1
theorem Qbr (sg:Uk->Int) {l:List Pt} (h:l.length<=6):(fK sg l).length<=35:=by
 have hw:=Oz l;obtain ⟨h1,h2⟩:=YG (l:=Ta l) (by omega);unfold fK;rw [Qu,Q7,Q7]; omega
def vW (l:List Pt) (a:Tm):List Ct:=fK (Fl a) l
abbrev oO (l:List Pt) (a:Tm):Uq:=QL (OG (Fl a) l)
def oP (l:List Pt):Ul:=(Rj (Ta l)).map (λm=>Ha m.1.c m.2.1.c m.2.2.c)++(Ot (Ta l)).map λm=>VF m.1.c m.2.1.c m.2.2.1.c m.2.2.2.c
theorem zJ {l:List Pt} (hl:∀ p∈l,Sc p.c):∀ p∈oP l,Cp p:=λp hp=>by
 have hw:=λ(x:Pt) (h:x∈Ta l)=>hl x (Nc h)
 rcases Qr.1 hp with hp | hp
 ·obtain ⟨m,hm,rfl⟩:=Za.1 hp;obtain ⟨h1,h2,h3⟩:=EZ _ _ m hm;exact JC (hw _ h1) (hw _ h2) (hw _ h3)
 ·obtain ⟨m,hm,rfl⟩:=Za.1 hp;obtain ⟨h1,h2,h3,h4⟩:=rZ _ _ m hm;exact lW (hw _ h1) (hw _ h2) (hw _ h3) (hw _ h4)
theorem zV {l:List Pt} {a:Tm}:∀ x∈vW l a,x.p∈oP l:=λx hx=>by
 rcases Qr.1 hx with hx | hx
 ·obtain ⟨m,hm,rfl⟩:=Za.1 hx;exact X8 _ (Za.2 ⟨m,hm,rfl⟩)
 ·obtain ⟨m,hm,rfl⟩:=Za.1 hx;exact Jf _ (Za.2 ⟨m,hm,rfl⟩)
theorem Qc5 {l:List Pt} (h:l.length<=6):(oP l).length<=1000000:=by
 have hw:=Oz l;obtain ⟨h1,h2⟩:=YG (l:=Ta l) (by omega);unfold oP;rw [Qu,Q7,Q7]; omega
theorem sY {l:List Pt} (hl:∀ p∈l,Sc p.c) (hn:l.length≤6):BuildOk (vW l) :=
 ⟨λ_ _ x hx=>zJ hl _ (zV x hx),λa _=>Qc (Qbr _ hn) (by decide)⟩
theorem Qxu {l:List Pt} (hl:∀ p∈l,Sc p.c) (hn:l.length≤6):Stab (vW l) (oO l):=by
 refine ⟨sY hl hn,⟨oP l,zJ hl,λa _=>zV⟩,λa b _ _ h=>?_⟩;have e1:∀ m∈Rj (Ta l),SO (Fl b) m=SO (Fl a) m:=λm hm=>by
  have:=h (SO (Fl a) m) (X8 _ (Za.2 ⟨m,hm,rfl⟩));have e:Hd (Fl b) (Ha m.1.c m.2.1.c m.2.2.c)=Hd (Fl a) (Ha m.1.c m.2.1.c m.2.2.c):=this;unfold SO Dy; rw [e]
 have e2:∀ m∈Ot (Ta l),GE (Fl b) m=GE (Fl a) m:=λm hm=>by
  have:=h (GE (Fl a) m) (Jf _ (Za.2 ⟨m,hm,rfl⟩));have e:Hd (Fl b) (VF m.1.c m.2.1.c m.2.2.1.c m.2.2.2.c)=Hd (Fl a) (VF m.1.c m.2.1.c m.2.2.1.c m.2.2.2.c):=this;unfold GE OR; rw [e]
 have t1:ZF (Fl b) (Rj (Ta l))=ZF (Fl a) (Rj (Ta l)):=Xp λm hm=>by rw [e1 m hm]
 have t2:YO (Fl b) (Ot (Ta l))=YO (Fl a) (Ot (Ta l)):=Xp λm hm=>by rw [e2 m hm]
 constructor
 ·unfold vW fK;rw [Xp e1,Xp e2]
 ·unfold oO OG;rw [t1,t2]
def Qv8 (l:List Pt) (a:Tm):Cr:=⟨a,(Fg (vW l a)).map fresh,0⟩
def vG (M:Nj):Prop:=∀ k,(Aa M k).getD (.int .i64 0)=.int .i64 (ZK M k)/\-1<=ZK M k/\ZK M k<=1
def VX (M:Nj):Prop:=∀ k,(Aa M k).getD (.bool false)=.bool (NK M k)
theorem OQ (M:Nj) (k:Uk) (x:LV) (k':Uk):Aa (Ln M k x) k'=if k'=k then some x else Aa M k':=by
 induction M with
 | nil=>simp [Ln,Aa]
 |
  cons e M ih =>
  simp only [Ln];by_cases h:k=e.1
  ·rw [if_pos h];simp only [Aa];by_cases h2:k'=k
   ·rw [if_pos h2,if_pos h2]
   ·rw [if_neg h2,if_neg h2,if_neg (λe2=>h2 (e2.trans h.symm))]
  ·rw [if_neg h];simp only [Aa];by_cases h2:k'=e.1
   ·rw [if_pos h2,if_pos h2,if_neg (λe2=>h (e2.symm.trans h2))]
   ·rw [if_neg h2,if_neg h2,ih]
theorem Qg3:vG []:=λ_=>⟨rfl,show (-1:Int)<=0 by decide,show (0:Int)<=1 by decide⟩
theorem oL:VX []:=λ_=>rfl
theorem Qg4 {M:Nj} (h:vG M) {k:Uk} {n:Int} (hn:-1<=n/\n<=1):vG (Ln M k (.int .i64 n)):=by
 intro k';have h1:=h k';unfold ZK at h1 ⊢;rw [OQ];by_cases e:k'=k
 ·rw [if_pos e]; exact ⟨rfl,hn.1,hn.2⟩
 ·rw [if_neg e]; exact h1
theorem oI {M:Nj} (h:VX M) {k:Uk} {b:Bool}:VX (Ln M k (.bool b)):=by
 intro k';have h1:=h k';unfold NK at h1 ⊢;rw [OQ];by_cases e:k'=k
 ·rw [if_pos e]; rfl
 ·rw [if_neg e]; exact h1
theorem Aw {T F:Nj} {s:Int} {n:Uk} {k:Nat} (h:VX F):VX (I2 T s n F k):=by
 unfold I2;generalize (if (3-k) % 2=1 then -s else s)=s'
 split
 ·exact oI h
 ·exact h
theorem sT {T F:Nj} {s:Int} {n:Uk} (h:VX F):VX (IG T s n F):=Aw (Aw (Aw (Aw h)))
theorem Qbt {x s:Int} (hx:-1<=x/\x<=1) (hs:-1<=s/\s<=1):-9223372036854775808<=x*s/\x*s<=9223372036854775807:=by
 have h:x=-1\/x=0\/x=1:=by omega
 rcases h with rfl | rfl | rfl <;> omega
structure MOk (M:List Pt):Prop where
 sc:∀ p∈M,Sc p.c
 ln:M.length<=6
 so:So M
theorem MOk.df {M:List Pt} (h:MOk M):M.Pairwise λx y=>x.id≠y.id:=h.so.imp λh e=>by omega
structure Knd (β:Type) where
 bc:List Pt->Tm->List Ct
 br:List Pt->Tm->β
 al:List Pt->List (List Int)
structure KndOk {β:Type} (k:Knd β):Prop where
 st:∀ M,MOk M->Stab (k.bc M) (k.br M)
 cp:∀ M,MOk M->∀ p∈k.al M,Cp p
 al:∀ M a,∀ x∈k.bc M a,x.p∈k.al M
 ln:∀ M,MOk M->(k.al M).length<=1000000
abbrev kS:Knd Uq:=⟨ZS,vU,Lx⟩
abbrev kT:Knd (Uq×Uq):=⟨AY,brT,Lx⟩
abbrev kH:Knd Uq:=⟨EK,brH,λl=>Lx l++MA l⟩
abbrev kP:Knd Uq:=⟨sK,brP,EG⟩
abbrev kD:Knd Uq:=⟨vW,oO,oP⟩
theorem MI {l:List Pt} (h:l.length<=6):(Lx l).length<=72:=by
 rw [vM];exact Qc (Zh h (Zh h (Qm 2))) (by decide)
theorem UW {α β:Type} {f:α->List β} {n:Nat} (l:List α) (h:∀ x∈l,(f x).length=n):(l.flatMap f).length=l.length*n:=by
 induction l with
 | nil=>simp
 |
  cons x l ih =>
  rw [Jy,Qu,h x (by simp),ih λy hy=>h y (Qg _ hy),Q6,X2]; omega
theorem Qk9 (l:List Pt):(MA l).length=l.length*(l.length*l.length):=by
 unfold MA;exact UW l λx _=>UW l λy _=>by simp
theorem Qk7 (l:List Pt):(EG l).length=l.length*(l.length*(l.length*l.length)):=by
 unfold EG;exact UW l λx _=>UW l λy _=>UW l λz _=>by simp
theorem okS:KndOk kS:=⟨λM h=>Qxx h.sc (by have:=h.ln; omega) h.df,λM h=>O2 h.sc,λM a=>dQ,λM h=>Qc (MI h.ln) (by decide)⟩
theorem okT:KndOk kT:=⟨λM h=>Qxy h.sc (by have:=h.ln; omega) h.df,λM h=>O2 h.sc,λM a=>Qlc,λM h=>Qc (MI h.ln) (by decide)⟩
theorem okH:KndOk kH:=⟨λM h=>Qxv h.sc (by have:=h.ln; omega) h.df,λM h=>PY h.sc,λM a=>zK,λM h=>by
 have h1:=MI h.ln;have h2:=Qk9 M;have h3:M.length*(M.length*M.length)<=6*(6*6):=Zh h.ln (Zh h.ln h.ln);show (Lx M++MA M).length<=_;rw [Qu]; omega⟩
theorem okP:KndOk kP:=⟨λM h=>Qxw h.sc (by have:=h.ln; omega) h.df,λM h=>WU h.sc,λM a=>cO,λM h=>by
 have h3:M.length*(M.length*(M.length*M.length))<=6*(6*(6*6)):=Zh h.ln (Zh h.ln (Zh h.ln h.ln));show (EG M).length<=_;rw [Qk7]; omega⟩
theorem okD:KndOk kD:=⟨λM h=>Qxu h.sc h.ln,λM h=>zJ h.sc,λM a=>zV,λM h=>Qc5 h.ln⟩
open Classical in
noncomputable def cnt (bc:Tm->List Ct) (q t:Rat):Nat:=if h:∃ E,Evs bc t (tq q) E then (Classical.choose h).length else 0
theorem Qfj {β:Type} {Bc:Tm->List Ct} {Br:Tm->β} (S:Stab Bc Br) {q t:Rat} (hq:Va (tq q)) {E:List Tm} (h:Evs Bc t (tq q) E):cnt Bc q t=E.length:=by
 have hx:∃ E,Evs Bc t (tq q) E:=⟨E,h⟩;unfold cnt;rw [dif_pos hx];exact Qtl S hq (Classical.choose_spec hx) h
structure At {β:Type} (k:Knd β) (M:List Pt) (q:Rat) (c:Cr):Prop where
 now:c.now=tq q
 st:KSt (k.bc M) (k.br M) c (k.br M (tq q))
section
variable {β:Type} {k:Knd β} (ok:KndOk k) {M M':List Pt} {q t:Rat} {c:Cr}
include ok
theorem At.again (h:At k M q c) (hM:MOk M'):∃ ws,Sj c.l c.now (Fg (k.bc M' c.now))=some ws/\At k M' q ⟨tq q,ws,c.ev⟩:=by
 obtain ⟨⟨o,kk⟩,hcs,hr⟩:=h.st;have S:=ok.st M' hM;obtain ⟨ws,l1,l2⟩:=mS o.n o.l (Fg (k.bc M' c.now));have o':=Orr.lay_ok c.ev o o.n (S.ok.p _ o.n) (S.ok.n _ o.n) l1;have hl:=eN o.n o.n (λh=>Il o.n.cut o.n.cut h h) o.l kk l1;rw [h.now] at o' hl l2;exact ⟨ws,l1,rfl,⟨⟨o',hl⟩,l2,rfl⟩⟩
theorem At.adv (h:At k M q c) (hM:MOk M) (ht:Qs 1640000 t) (hqt:q<=t) :
 ∃ (K:Nat) (c':Cr),K<=67000001/\WV (k.bc M) (k.br M) t K c (k.br M (tq q)) 0=some (c',k.br M (tq t),((cnt (k.bc M) q t:Nat):Int))/\At k M t c'/\c'.ev=c.ev+((cnt (k.bc M) q t:Nat):Int)/\cnt (k.bc M) q t<=67000000/\cnt (k.bc M) q t<=((k.al M).flatMap AQ).length:=by
 have S:=ok.st M hM;have hP:=ok.cp M hM;have hm:=yM hP;have hmu:=Qq5 ((k.al M).flatMap AQ) c.now;have hl:=ok.ln M hM;have hv:=h.st.inv.ok.n;have hc:Fh c.now t<=0:=by rw [h.now,tQ]; rcases Ms q t with ⟨e,e'⟩ | ⟨e,e'⟩ | ⟨e,e'⟩ <;> first | omega | (exfalso; grind)
 obtain ⟨c',r',E,g1,g2,g3,g4,g5,g6⟩:=Qqy S ht hP (λa _=>ok.al M a) (mu ((k.al M).flatMap AQ) c.now) c _ 0 (Qm _) h.st λh'=>by
  have:=(GA hv.cut).2 h'; omega
 have hr:r'=k.br M (tq t):=by rw [g3.r,g2]
 rw [hr] at g1 g3;rw [Int.zero_add] at g1;rw [h.now] at g6;have he:=Qfj S (by rw [<-h.now]; exact hv) g6;rw [he];exact ⟨_,c',by omega,g1,⟨g2,g3⟩,g4,by omega,by omega⟩
end
theorem At.begin {β:Type} {k:Knd β} (ok:KndOk k) {M:List Pt} {q:Rat} (hM:MOk M) (hq:Qs 1640000 q):At k M q ⟨tq q,(Fg (k.bc M (tq q))).map fresh,0⟩:=⟨rfl,Qdd (ok.st M hM) (EJ hq)⟩
end Orq
namespace Orr
open Go Go.Proofs Tryz Orq
set_option maxRecDepth 10000
abbrev Tl (c:Cr) (r0:Uq) (r1:Uq×Uq):Up:=.bool true::pl c.now.p::sg c.now.lo.num::mg c.now.lo.num::sg (c.now.lo.den:Int)::mg (c.now.lo.den:Int)::sg c.now.hi.num::mg c.now.hi.num::sg (c.now.hi.den:Int)::mg (c.now.hi.den:Int)::.row (Bp c.l)::.int .i64 c.ev::[.row r0,.row r1.1,.row r1.2]
abbrev Qs4 (r0:LV) (r1:LV×LV):Up:=[.bool false,.nils,.bool false,.nils,.bool false,.nils,.bool false,.nils,.bool false,.nils,.nils,.int .i64 0,r0,r1.1,r1.2]
theorem pZ {T:Nat} {c:Cr} {r0:Uq} {r1:Uq×Uq} (hc:Va c.now):U0 prog 370 [.one (.ow 0 0)] [.blk T (Tl c r0 r1)] [.agg (ta c.now)] [.blk T (Tl c r0 r1)]:=by
 have cl:=Su (b:=c.now) (l:=[]) hc.tb (λt ht=>by cases ht) (by decide) rfl;refine Ft func370 rfl ?_;exact Uf [] [0] [.f rfl,.k cl] rfl
theorem Qeb {T:Nat} {c:Cr} {r0:Uq} {r1:Uq×Uq} (hc:CrOk c):U0 prog 360 [.one (.ow 0 0)] [.blk T (Tl c r0 r1)] [.one (.row (U3 (Fg (c.l.map (·.c)))))] [.blk T (Tl c r0 r1)]:=by
 have hk:=hc.k;have hw:=Tc c.l;refine Ft func360 rfl ?_;refine Ub [.o 3 136 7] rfl ?_;refine Ug (S:=Nat) 2 (λL1 i=>(11,.v (.oi i))::(3,.v (.one (.orow 1 7 none)))::L1) (λi=>[.blk T (Tl c r0 r1),.row false 136 7 (U3 ((c.l.map (·.c)).take i))]) (λi=>c.l.length-i) (λi=>i<=c.l.length) 0 (Qh _) rfl rfl λi hi=>?_
 by_cases hlt:i<c.l.length
 ·obtain ⟨x,hx⟩:=gxE (l:=c.l) (i:=i) hlt;have hm:∀ y∈[C6 x.c],y.length=7:=λy hy=>by rw [Qk.1 hy]; rfl
  have hg:(c.l.map (·.c)).take (i+1)=(c.l.map (·.c)).take i++[x.c]:=by
   rw [Zw,Zd,hx]; rfl
  have hl:decide ((i:Int)<((Bp c.l).length:Int))=true:=by simp [hw]; omega
  obtain ⟨xc,xk,xf⟩:=x;cases xf <;> (refine go tt [.t hl,.x (Hk hx),.s (sz:=7) hm] rfl (by simp [Uw,S8]; omega) ?_; exact rd (i+1) (by omega) hlt (by rw [hg]; simp [U3]; rfl))
 ·obtain rfl:i=c.l.length:=by omega
  have e:(c.l.map (·.c)).take c.l.length=c.l.map (·.c):=Qn (by simp);rw [e];have cs:=GN (l:=c.l.map (·.c)) (λx hx=>by
   obtain ⟨w,hw,rfl⟩:=Za.1 hx;exact Dp.pb (hc.l w hw).p.dp) (by simp; omega)
  exact Uf [] [0] [.f (by simp [hw]),.k cs] rfl
theorem Ql7 {T:Nat} {c:Cr} {r0:Uq} {r1:Uq×Uq} {x:Ct} {at_:Tm} {w:Wt} (hc:CrOk c) (hx:Cp x.p) (ha:Va at_) (h:B7 c.l x at_=some w):U0 prog 184 [.one (.ow 0 0),.agg (C6 x),.agg (ta at_)] [.blk T (Tl c r0 r1)] [.agg (wl w)] [.blk T (Tl c r0 r1)]:=by
 have hk:=hc.k;have hw:=Tc c.l;refine Ft func184 rfl ?_;refine Ub [] rfl ?_;refine Ug (S:=Nat) 4 (λL1 i=>(14,.v (.oi i))::L1) (λ_=>[.blk T (Tl c r0 r1),.blk 136 (C6 x),.blk 189 (ta at_),.blk 276 [.int .i64 0,.int .i64 0,.int .i64 0,.int .i64 0,.int .i64 0,.nils,.int .i64 0,.bool false,.bool false,.nils,.bool false,.nils,.bool false,.nils,.bool false,.nils,.bool false,.nils]]) (λi=>c.l.length-i) (λi=>i<=c.l.length/\B7 (c.l.drop i) x at_=some w) 0 ⟨Qh _,h⟩ rfl rfl λi ⟨hi,hf⟩=>?_
 by_cases hlt:i<c.l.length
 ·obtain ⟨v,hv⟩:=gxE (l:=c.l) (i:=i) hlt;have hdr:c.l.drop i=v::c.l.drop (i+1):=by
   rw [Zv hlt]; congr 1;have:=Qe hlt; rw [hv] at this; injection this with this; exact this.symm
  have hvo:=hc.l v (Qa hv);rw [hdr] at hf;simp only [B7] at hf;have hl:decide ((i:Int)<((Bp c.l).length:Int))=true:=by simp [hw]; omega
  by_cases A:rT v.c x=true
  ·have A':(!decide ([v.c.kind,v.c.i0,v.c.i1,v.c.i2,v.c.i3]=[x.kind,x.i0,x.i1,x.i2,x.i3]))=false:=by
    unfold rT at A; rw [A]; rfl
   by_cases B:v.known=true
   ·have B':(!v.known)=false:=by rw [B]; rfl
    have cs:=PH (p:=v.c.p) (q:=x.p) (Dp.pb hvo.p.dp).ln (Dp.pb hx.dp).ln (Dp.pb hvo.p.dp).bd (Dp.pb hx.dp).bd;rw [hvo.p.t,hx.t] at cs;by_cases C:v.c.p=x.p
    ·have C':(!decide (v.c.p=x.p))=false:=by simp [C]
     rw [if_pos ⟨A,B,C⟩] at hf;obtain ⟨vc,vk,vf⟩:=v;cases vf with
     |
      none =>
      injection hf with hf; subst hf;exact Uf [] [0] [.t hl,.x (Hk hv),.g 24 false A',.g 29 false B',.k cs,.f C',.g 41 true rfl,.t rfl] rfl
     |
      some t =>
      obtain ⟨r,r1',hf⟩:=Qd.1 hf;have cc:=VN (hvo.f t rfl).tb ha.tb r1';by_cases D:0<r
      ·rw [if_pos D] at hf;injection hf with hf; subst hf;exact Uf [] [0] [.t hl,.x (Hk hv),.g 24 false A',.g 29 false B',.k cs,.f C',.g 41 false rfl,.k cc,.t (by simpa using D)] rfl
      ·rw [if_neg D] at hf;refine Uc [.t hl,.x (Hk hv),.g 24 false A',.g 29 false B',.k cs,.f C',.g 41 false rfl,.k cc,.f (by simpa using D)] rfl ?_;exact rd (i+1) (by omega) ⟨hlt,hf⟩ rfl
    ·rw [if_neg λh=>C h.2.2] at hf;refine Uc [.t hl,.x (Hk hv),.g 24 false A',.g 29 false B',.k cs,.t (by simp [C])] rfl ?_;exact rd (i+1) (by omega) ⟨hlt,hf⟩ rfl
   ·rw [if_neg λh=>B h.2.1] at hf;refine Uc [.t hl,.x (Hk hv),.g 24 false A',.g 29 true (by simpa using B),.t rfl] rfl ?_;exact rd (i+1) (by omega) ⟨hlt,hf⟩ rfl
  ·rw [if_neg λh=>A h.1] at hf;refine Uc [.t hl,.x (Hk hv),.g 24 true (by rw [show decide ([v.c.kind,v.c.i0,v.c.i1,v.c.i2,v.c.i3]=[x.kind,x.i0,x.i1,x.i2,x.i3])=false from Wu.2 A]; rfl),.g 29 true rfl,.t rfl] rfl ?_;exact rd (i+1) (by omega) ⟨hlt,hf⟩ rfl
 ·obtain rfl:i=c.l.length:=by omega
  rw [Y9] at hf;simp only [B7] at hf;injection hf with hf; subst hf;exact Uf [] [0] [.f (by simp [hw])] rfl
theorem dR {T:Nat} {c:Cr} {r0:Uq} {r1:Uq×Uq} {at_:Tm} {l:List Ct} {ws:List Wt} (hc:CrOk c) (ha:Va at_) (hl:∀ x∈l,Cp x.p) (hn:l.length≤1000) (h:Sj c.l at_ (Fg l)=some ws):U0 prog 157 [.one (.ow 0 0),.agg (ta at_),.one (.bool true),.one (.row (U3 l))] [.blk T (Tl c r0 r1)] [] [.blk T (Tl ⟨at_,ws,c.ev⟩ r0 r1)]:=by
 have cs:=GN (l:=l) (λx hx=>Dp.pb (hl x hx).dp) (by omega);have cl:=Su (b:=at_) (l:=[]) ha.tb (λt ht=>by cases ht) (by decide) rfl;obtain ⟨h1,h2⟩:=XK h;have hs:(Fg l).length=l.length:=Mh l;refine Ft func157 rfl ?_;refine Ub [.o 8 276 18,.k cs] rfl ?_;refine Ug (S:=Nat) 3 (λL1 i=>(15,.v (.oi i))::(8,.v (.one (.orow 2 18 none)))::L1) (λi=>[.blk T (Tl c r0 r1),.blk 189 (ta at_),.row false 276 18 (Bp (ws.take i))]) (λi=>ws.length-i) (λi=>i<=ws.length) 0 (Qh _) rfl rfl λi hi=>?_
 by_cases hlt:i<ws.length
 ·obtain ⟨x,hx⟩:=gxE (l:=(Fg l)) (i:=i) (by omega);obtain ⟨w,hw,hw'⟩:=h2 i x hx;have hm:∀ y∈[wl w],y.length=18:=λy hy=>by rw [Qk.1 hy]; rfl
  have hlt':decide ((i:Int)<((U3 (Fg l)).length:Int))=true:=by simp [U3]; omega
  have ck:=Ql7 (T:=T) (r0:=r0) (r1:=r1) hc (hl x (Rr (Qa hx))) ha hw;have hg:=Ev hw';obtain ⟨wc,wk,wf⟩:=w;cases wf <;> (refine go tt [.t hlt',.x (ZN hx),.t rfl,.c [0] ck,.s (sz:=18) hm] rfl (by simp [Uw,Tc]; omega) ?_; exact rd (i+1) (by omega) hlt (by rw [hg]; rfl))
 ·obtain rfl:i=ws.length:=by omega
  rw [Q5];have hge:decide ((ws.length:Int)<((U3 (Fg l)).length:Int))=false:=by simp [U3]; omega
  exact Uf [] [0] [.f hge,.p 2,.k cl] rfl
theorem Ql8 {T:Nat} {r0:Uq} {r1:Uq×Uq} {at_:Tm} {l:List Ct} (ha:Va at_) (hl:∀ x∈l,Cp x.p) (hn:l.length≤1000):U0 prog 157 [.one (.ow 0 0),.agg (ta at_),.one (.bool false),.one (.row (U3 l))] [.blk T (Qs4 (.row r0) (.row r1.1,.row r1.2))] [] [.blk T (Tl ⟨at_,(Fg l).map fresh,0⟩ r0 r1)]:=by
 have cs:=GN (l:=l) (λx hx=>Dp.pb (hl x hx).dp) (by omega);have cl:=Su (b:=at_) (l:=[]) ha.tb (λt ht=>by cases ht) (by decide) rfl;have hs:(Fg l).length=l.length:=Mh l;refine Ft func157 rfl ?_;refine Ub [.o 8 276 18,.k cs] rfl ?_;refine Ug (S:=Nat) 3 (λL1 i=>(15,.v (.oi i))::(8,.v (.one (.orow 2 18 none)))::L1) (λi=>[.blk T (Qs4 (.row r0) (.row r1.1,.row r1.2)),.blk 189 (ta at_),.row false 276 18 (Bp (((Fg l).map fresh).take i))]) (λi=>l.length-i) (λi=>i<=l.length) 0 (Qh _) rfl rfl λi hi=>?_
 by_cases hlt:i<l.length
 ·obtain ⟨x,hx⟩:=gxE (l:=(Fg l)) (i:=i) (by omega);have hm:∀ y∈[wl (fresh x)],y.length=18:=λy hy=>by rw [Qk.1 hy]; rfl
  have hlt':decide ((i:Int)<((U3 (Fg l)).length:Int))=true:=by simp [U3]; omega
  have hg:=Ev (l:=(Fg l).map fresh) (i:=i) (w:=fresh x) (by rw [Zd,hx]; rfl);refine go tt [.t hlt',.x (ZN hx),.z 20,.f rfl,.s (sz:=18) hm] rfl (by simp [Uw,Tc]; omega) ?_;exact rd (i+1) (by omega) hlt (by rw [hg]; rfl)
 ·obtain rfl:i=l.length:=by omega
  rw [Qn (by simp; omega)];have hge:decide ((l.length:Int)<((U3 (Fg l)).length:Int))=false:=by simp [U3]; omega
  exact Uf [] [0] [.f hge,.p 2,.k cl] rfl
theorem Qak {T:Nat} {r0:Uq} {r1:Uq×Uq} {at_:Tm} {l:List Ct} (ha:Va at_) (hl:∀ x∈l,Cp x.p) (hn:l.length≤1000):U0 prog 126 [.one (.ow 0 0),.agg (ta at_),.one (.row (U3 l))] [.blk T (Qs4 (.row r0) (.row r1.1,.row r1.2))] [] [.blk T (Tl ⟨at_,(Fg l).map fresh,0⟩ r0 r1)]:=by
 have cl:=Ql8 (T:=T) (r0:=r0) (r1:=r1) ha hl hn;refine Ft func126 rfl ?_;exact Uf [] [0] [.g 12 false rfl,.c [0] cl] rfl
theorem Qal {T:Nat} {c:Cr} {r0:Uq} {r1:Uq×Uq} {at_:Tm} {l:List Ct} {ws:List Wt} {k:Int} (hc:CrOk c) (ha:Va at_) (hk:WL at_ c.now=some k) (h0:0≤k) (hl:∀ x∈l,Cp x.p) (hn:l.length≤1000) (h:Sj c.l at_ (Fg l)=some ws):U0 prog 126 [.one (.ow 0 0),.agg (ta at_),.one (.row (U3 l))] [.blk T (Tl c r0 r1)] [] [.blk T (Tl ⟨at_,ws,c.ev⟩ r0 r1)]:=by
 have cl:=dR (T:=T) (r0:=r0) (r1:=r1) hc ha hl hn h;have cc:=VN ha.tb hc.n.tb hk;refine Ft func126 rfl ?_;exact Uf [] [0] [.g 12 true rfl,.k cc,.r 20 (eB (show decide (0<=k)=true by simpa using h0)),.c [0] cl] rfl
theorem Ql9 {T:Nat} {c:Cr} {r0:Uq} {r1:Uq×Uq} {ws:List Wt} (hc:CrOk c) (h:I7 c.now c.l=some ws):U0 prog 365 [.one (.ow 0 0)] [.blk T (Tl c r0 r1)] [] [.blk T (Tl { c with l:=ws } r0 r1)]:=by
 have hk:=hc.k;have hw:=Tc c.l;obtain ⟨h1,h2⟩:=YJ h;refine Ft func365 rfl ?_;refine Ub [.o 2 276 18,.c [0] (pZ hc.n)] rfl ?_;refine Ug (S:=Nat) 3 (λL1 i=>(13,.v (.oi i))::(2,.v (.one (.orow 1 18 none)))::L1) (λi=>[.blk T (Tl c r0 r1),.row false 276 18 (Bp (ws.take i)),.blk 189 (ta c.now)]) (λi=>c.l.length-i) (λi=>i<=c.l.length) 0 (Qh _) rfl rfl λi hi=>?_
 by_cases hlt:i<c.l.length
 ·obtain ⟨w,hx⟩:=gxE (l:=c.l) (i:=i) hlt;obtain ⟨v,hv,h3⟩:=h2 i w hx;have hm:∀ y∈[wl v],y.length=18:=λy hy=>by rw [Qk.1 hy]; rfl
  have hg:=Ev hv;have hl:decide ((i:Int)<((Bp c.l).length:Int))=true:=by simp [hw]; omega
  rcases h3 with ⟨k1,rfl⟩ | ⟨k1,r,k2,rfl⟩
  ·obtain ⟨vc,vk,vf⟩:=v;cases vf <;> (refine go tt [.t hl,.x (Hk hx),.f (by rw [show vk=true from k1]; rfl),.s (sz:=18) hm] rfl (by simp [Uw,Tc]; omega) ?_; exact rd (i+1) (by omega) hlt (by rw [hg]; rfl))
  ·have cg:=kQ (hc.l w (Qa hx)).p hc.n k2;obtain ⟨wc,wk,wf⟩:=w;cases r <;> cases wf <;> (refine go tt [.t hl,.x (Hk hx),.t (by rw [show wk=false from k1]; rfl),.k cg,.s (sz:=18) hm] rfl (by simp [Uw,Tc]; omega) ?_; exact rd (i+1) (by omega) hlt (by rw [hg]; rfl))
 ·obtain rfl:i=c.l.length:=by omega
  rw [<-h1,Q5];exact Uf [1] [0] [.f (by simp [hw,h1])] rfl
theorem Qma {T:Nat} {c:Cr} {r0:Uq} {r1:Uq×Uq} {ws:List Wt} {r:Option Tm} (hc:CrOk c) (h:I7 c.now c.l=some ws) (hr:EA ws=some r):U0 prog 371 [.one (.ow 0 0)] [.blk T (Tl c r0 r1)] [.agg (ota r),.one (.bool r.isSome)] [.blk T (Tl { c with l:=ws } r0 r1)]:=by
 have hcl:=Ql9 (T:=T) (r0:=r0) (r1:=r1) hc h;have hc':=Ea hc h;have hk:=hc'.k;have hw:=Tc ws;have hvb:∀ t∈ws.filterMap (·.fails),Tb t:=λt ht=>by
  obtain ⟨w,w1,w2⟩:=Jh.1 ht;exact ((hc'.l w w1).f t w2).tb
 refine Ft func371 rfl ?_;refine Ub [.c [0] hcl,.o 4 189 9] rfl ?_;refine Ug (S:=Nat) 3 (λL1 i=>(14,.v (.oi i))::(4,.v (.one (.orow 2 9 none)))::L1) (λi=>[.blk T (Tl { c with l:=ws } r0 r1),.blk 189 zTm,.row false 189 9 (tal ((ws.take i).filterMap (·.fails)))]) (λi=>ws.length-i) (λi=>i<=ws.length) 0 (Qh _) rfl rfl λi hi=>?_
 by_cases hlt:i<ws.length
 ·obtain ⟨w,hx⟩:=gxE (l:=ws) (i:=i) hlt;have hl:decide ((i:Int)<((Bp ws).length:Int))=true:=by simp [hw]; omega
  have hfl:((ws.take i).filterMap (·.fails)).length<=i:=Qc (Vb _ _) (by rw [Qq]; omega);have hg:(ws.take (i+1)).filterMap (·.fails)=(ws.take i).filterMap (·.fails)++(match w.fails with | none=>[] | some t=>[t]):=by
   rw [Zw,hx,List.filterMap_append];show _++List.filterMap (·.fails) [w]=_;cases hwf:w.fails <;> simp [hwf]
  obtain ⟨wc,wk,wf⟩:=w;have hk:ws.length<=1000:=hk;cases wf with
  |
   none =>
   refine Uc [.t hl,.x (Hk hx),.f rfl] rfl ?_;exact rd (i+1) (by omega) hlt (by rw [hg]; simp; rfl)
  |
   some t =>
   refine Uc [.t hl,.x (Hk hx),.t rfl,.s (l:=[ta t]) (sz:=9) (λc hc=>by rw [Qk.1 hc]; rfl)] rfl ?_;exact rd (i+1) (by omega) hlt (by rw [hg]; simp [tal]; rfl)
 ·obtain rfl:i=ws.length:=by omega
  rw [Q5];have hf:decide ((ws.length:Int)<((Bp ws).length:Int))=false:=by simp [hw]
  have hln:(ws.filterMap (·.fails)).length<=1000:=Qc (Vb _ _) hk;unfold EA at hr;cases hfm:ws.filterMap (·.fails) with
  |
   nil =>
   rw [hfm] at hr;injection hr with hr; subst hr;exact Uf [] [0] [.f hf,.p 2,.k kX] rfl
  |
   cons b l =>
   rw [hfm] at hr hvb hln;obtain ⟨m,m1,rfl⟩:=Yv.1 hr;have cl:=Su (hvb b (Qy ..)) (λt ht=>hvb t (Qg _ ht)) (by simp at hln; omega) m1;exact Uf [] [0] [.f hf,.p 2,.k cl] rfl
theorem Qwn {T:Nat} {t:Rat} {Bc:Tm->List Ct} {Br:Tm->Uq×Uq} {r0:Uq} (ht:Qs 1640000 t) (hB:BuildOk Bc)
 (hb:∀ a c r1,Va a->CrOk c->U0 prog 128 [.one (.ow 0 0),.agg (ta a)] [.blk T (Tl c r0 r1)] [.one (.row (U3 (Bc a)))] [.blk T (Tl c r0 (Br a))])
 {K:Nat} {c c':Cr} {r1 r1':Uq×Uq} {n:Int} (hc:CrOk c) (hev:0<=c.ev/\c.ev+K<=1000000000000000000) (h:Fh c.now t<=0) (hg:WV Bc Br t K c r1 0=some (c',r1',n)) :
 U0 prog 366 [.one (.ow 0 0),.agg (rl t),.one (.ofn 128 [.ow 0 0] [])] [.blk T (Tl c r0 r1)] [.oi n,.oi 0] [.blk T (Tl c' r0 r1')]:=by
 have qt:Qb t:=ht.mono (by decide);have c1:=Cz hc.n.tb qt;refine Ft func366 rfl ?_;refine Ub [.c [0] (pZ hc.n),.k c1,.f (by simpa using h)] rfl ?_;refine Ug (S:=Nat×Cr×(Uq×Uq)×Int) 2 (λL1 s=>(8,.v (.oi s.2.2.2))::L1) (λs=>[.blk T (Tl s.2.1 r0 s.2.2.1),.blk 40 (rl t)]) (λs=>s.1) (λs=>CrOk s.2.1/\(0<=s.2.1.ev/\s.2.1.ev+s.1<=1000000000000000000)/\(0<=s.2.2.2/\s.2.2.2+s.1<=1000000000000000000)/\WV Bc Br t s.1 s.2.1 s.2.2.1 s.2.2.2=some (c',r1',n)) (K,c,r1,0) ⟨hc,hev,⟨Int.le_refl 0,by dsimp only; omega⟩,hg⟩ rfl rfl λ⟨k,x,r,m⟩ ⟨j1,j2,j3,j4⟩=>?_
 dsimp only at j1 j2 j3 j4 ⊢;cases k with
 | zero=>cases j4
 |
  succ k =>
  simp only [WV] at j4;obtain ⟨ws,w1,j4⟩:=Qd.1 j4;obtain ⟨o,o1,j4⟩:=Qd.1 j4;have cn:=Qma (T:=T) (r0:=r0) (r1:=r) j1 w1 o1;have ca:=VY (Uy t.num) (Uy (t.den:Int)) (Qc ht.1 (by decide)) (Qc ht.2 (by decide)) (by rw [Pe]; exact ht.mono (by decide));rw [Pe] at ca;cases o with
  |
   none =>
   injection j4 with j4; injection j4 with e1 j4; injection j4 with e2 e3;subst e1; subst e2; subst e3;exact Uf [] [0] [.c [0] cn,.g 25 true rfl,.t rfl,.k ca] rfl
  |
   some a =>
   have ha:=DJ j1 w1 o1;dsimp only at j4;have cc:=Cz ha.tb qt;by_cases h0:0<Fh a t
   ·rw [if_pos h0] at j4;injection j4 with j4; injection j4 with e1 j4; injection j4 with e2 e3;subst e1; subst e2; subst e3;exact Uf [] [0] [.c [0] cn,.g 25 false rfl,.k cc,.t (by simpa using h0),.k ca] rfl
   ·rw [if_neg h0] at j4;obtain ⟨w2,l1,j4⟩:=Qd.1 j4;have j1':=Ea j1 w1;have cl:=Su (b:=a) (l:=[]) ha.tb (λt ht=>by cases ht) (by decide) rfl;have cb:=hb a { x with l:=ws } r ha j1';have cy:=dR (T:=T) (r0:=r0) (r1:=Br a) j1' ha (hB.p a ha) (hB.n a ha) l1;have hf:decide (0<Fh a t)=false:=by simpa using h0
    refine Uc [.c [0] cn,.g 25 false rfl,.k cc,.f hf,.k cl,.c [0] cb,.c [0] cy] rfl ?_;exact rd (k,⟨a,w2,x.ev+1⟩,Br a,m+1) (by dsimp only; omega) ⟨lay_ok _ j1' ha (hB.p a ha) (hB.n a ha) l1,by dsimp only; omega,by dsimp only; omega,j4⟩ rfl
theorem Qam {T:Nat} {c:Cr} {r0:Uq} {r1:Uq×Uq}:U0 prog 362 [.one (.ow 0 0)] [.blk T (Tl c r0 r1)] [.oi c.ev] [.blk T (Tl c r0 r1)]:=by
 refine Ft func362 rfl ?_;exact Uf [] [0] [] rfl
end Orr
namespace Orr
open Go Go.Proofs Tryz Orq
def SB (k:Crv):Int:=max (max 0 ((k.x.length:Int)-1)) ((k.y.length:Int)-1)
structure Es where
 np:Int
 nd:Int
 M:List Pt
 q:Rat
 s:Cr
 t:Cr
 h:Cr
 p:Cr
 d:Cr
structure Em where
 np:Int
 nd:Int
 M:List Pt
 q:Rat
 s:Int
 t:Int
 h:Int
 p:Int
 d:Int
def Es.m (E:Es):Em:=⟨E.np,E.nd,E.M,E.q,E.s.ev,E.t.ev,E.h.ev,E.p.ev,E.d.ev⟩
structure MEn (np nd:Int) (M:List Pt):Prop where
 m:MOk M
 len:(M.length:Int)<=np
 deg:∀ p∈M,SB p.c≤nd
 id:∀ p∈M,0≤p.id/\p.id≤1048576
structure EOk (b:Int) (E:Es):Prop where
 np:1<=E.np/\E.np<=6
 nd:0<=E.nd/\E.nd<=2
 m:MEn E.np E.nd E.M
 q:Qs 128 E.q
 s:At kS E.M E.q E.s
 t:At kT E.M E.q E.t
 h:At kH E.M E.q E.h
 p:At kP E.M E.q E.p
 d:At kD E.M E.q E.d
 es:0<=E.s.ev/\E.s.ev<=b
 et:0<=E.t.ev/\E.t.ev<=b
 eh:0<=E.h.ev/\E.h.ev<=b
 ep:0<=E.p.ev/\E.p.ev<=b
 ed:0<=E.d.ev/\E.d.ev<=b
theorem EOk.mono {b c:Int} {E:Es} (h:EOk b E) (hb:b<=c):EOk c E:={ h with es:=⟨h.es.1,by have:=h.es.2; omega⟩,et:=⟨h.et.1,by have:=h.et.2; omega⟩,eh:=⟨h.eh.1,by have:=h.eh.2; omega⟩,ep:=⟨h.ep.1,by have:=h.ep.2; omega⟩,ed:=⟨h.ed.1,by have:=h.ed.2; omega⟩ }
abbrev pE (k:Nat) (q:Rat):Up:=[.ow (k+1) 0,sg q.num,mg q.num,sg (q.den:Int),mg (q.den:Int),.ow (k+2) 0,.ow (k+3) 0,.ow (k+4) 0,.ow (k+5) 0,.ow (k+6) 0]
abbrev taR (np nd:Int) (M:List Pt):Up:=[.int .i64 np,.int .i64 nd,pts M]
abbrev bS (c:Cr) (M:List Pt) (q:Rat):OB:=.blk 196 (Ht c (Uv M) (vU M (tq q)))
abbrev bT (c:Cr) (M:List Pt) (q:Rat):OB:=.blk 199 (Tl c (Uv M) (brT M (tq q)))
abbrev bH (c:Cr) (M:List Pt) (q:Rat):OB:=.blk 201 (Ht c (Uv M) (brH M (tq q)))
abbrev bP (c:Cr) (M:List Pt) (q:Rat):OB:=.blk 203 (Ht c (Uv M) (brP M (tq q)))
abbrev bD (c:Cr) (M:List Pt) (q:Rat):OB:=.blk 205 (Ht c (Uv M) (oO M (tq q)))
abbrev enB (k:Nat) (E:Es):Ur:=[.blk 90 (pE k E.q),.blk 139 (taR E.np E.nd E.M),bS E.s E.M E.q,bT E.t E.M E.q,bH E.h E.M E.q,bP E.p E.M E.q,bD E.d E.M E.q]
end Orr
namespace Orr
open Go Go.Proofs Tryz Orq
set_option maxRecDepth 10000
theorem jE {l:List Pt} {id:Int} (h:has l id=true):Tr l id<l.length:=by
 rcases Zb (Tr l id) l.length with h1 | h1
 ·exact h1
 ·simp [has,Qw h1] at h
theorem WM {l:List Pt} {id:Int} (hl:l.length<=1000000) (h:has l id=true) :
 Uh 368 [.agg [pts l],.oi id] [.agg [pts (l.take (Tr l id)++l.drop (Tr l id+1))],.oi 0]:=by
 have ca:=Qqj (l:=l) id (by omega);have hpl:=jE h;rw [h] at ca;have s1:∀ c∈(l.map U6).take (Tr l id),c.length=5:=λc hc=>P5 l c (Qo hc)
 have s3:∀ c∈(l.map U6).drop (Tr l id+1),c.length=5:=λc hc=>P5 l c (Qz hc)
 have e:pts (l.take (Tr l id)++l.drop (Tr l id+1))=.row ((l.map U6).take (Tr l id)++(l.map U6).drop (Tr l id+1)):=by unfold pts; rw [List.map_append,List.map_take,List.map_drop]
 rw [e];refine Ue func368 rfl [.k ca,.f rfl,.i (Tr l id),.s s1,.i (Tr l id+1),.s s3] rfl ?_ ?_
 ·simp
 ·have h1:(List.map U6 l).length=l.length:=by simp
  have h2:∀ z∈List.map U6 l,z.length=ti38.sz:=P5 l;simp only [Uw,Qq,Q8,h1]
  and_intros <;> first | exact h2 | omega
theorem lml (l:Um):(lm l).length=l.length:=by simp [lm]
theorem HL {z:Int}:(Fv z.natAbs).length<=4↔Fa z<=128:=by
 constructor
 ·intro h;have h1:=Cm (Fv z.natAbs) (C5 z.natAbs).1;rw [Gy] at h1;refine Tz.2 (Z6 h1 (Qc (Zr (by decide) h) (by decide)))
 ·intro h;have:=Rp (x:=z.natAbs) (k:=128) h;omega
def QC (k:Crv):Bool:=(k.x++k.y++[k.d]).all λz=>decide (Fa z<=128)
theorem LN {k:Crv}:QC k=true↔(∀ z∈k.x,Fa z≤128)/\(∀ z∈k.y,Fa z≤128)/\Fa k.d≤128:=by
 unfold QC;simp only [List.all_append,Zn,Jr,decide_eq_true_iff,Qk,forall_eq];constructor
 ·rintro ⟨⟨h1,h2⟩,h3⟩; exact ⟨h1,h2,h3⟩
 ·rintro ⟨h1,h2,h3⟩; exact ⟨⟨h1,h2⟩,h3⟩
theorem KI {k:Crv} {z:Int} (hz:z∈k.x++k.y++[k.d]) (h:¬Fa z<=128):QC k=false:=by
 unfold QC;rw [<-Bool.not_eq_true,Jr];intro h';exact h (of_decide_eq_true (h' z hz))
abbrev tB (np nd:Int) (l:List Pt):OB:=.blk 139 (taR np nd l)
theorem Qe6 {np nd:Int} {l:List Pt} (id:Int) (hl:l.length<1073741824):U0 prog 109 [.one (.ow 0 0),.oi id] [tB np nd l] [.oi (Tr l id:Int),.one (.bool (has l id))] [tB np nd l]:=by
 refine Ft func109 rfl ?_;refine Ub [] rfl ?_;refine ct 2 (S:=Unit) (λ_=>[(1,.v (.oi id)),(0,.v (.one (.ow 0 0))),(6,.v (.oi (Tr l id:Int)))]) (λ_=>[tB np nd l]) (λ_=>True) rfl ?_ ?_
 ·refine Ug (S:=Nat) 1 (λL1 k=>(6,.v (.oi k))::L1) (λ_=>[tB np nd l]) (λk=>l.length-k) (λk=>k<=l.length/\∀ j p,j<k->l[j]? = some p->p.id<id) 0 ⟨Qh _,λj p h=>by omega⟩ rfl rfl λk ⟨hk,hlt⟩=>?_
  by_cases h:k<l.length
  ·obtain ⟨p,hp⟩:=gxE (l:=l) (i:=k) h;by_cases hid:p.id<id
   ·refine Uc [.t (by simp; omega),.x (Rv hp),.t (by simpa using hid)] rfl ?_;exact rd (k+1) (by omega) ⟨h,λj q hj hq=>by
     rcases Zb j k with h2 | h2
     ·exact hlt j q h2 hq
     ·have:j=k:=by omega
      subst this; rw [hp] at hq; injection hq with hq; rw [<-hq]; exact hid⟩ rfl
   ·have e:=RU hlt (.inr ⟨p,hp,hid⟩);refine Ub [.t (by simp; omega),.x (Rv hp),.f (by simpa using hid)] rfl ?_;rw [e];exact rc () trivial rfl
  ·obtain rfl:k=l.length:=by omega
   have e:=RU hlt (.inl rfl);refine Ub [.f (by simp),.f rfl] rfl ?_;rw [e];exact rc () trivial rfl
 ·intro _ _;by_cases h:Tr l id<l.length
  ·obtain ⟨p,hp⟩:=gxE (l:=l) (i:=Tr l id) h;have e:has l id=decide (p.id=id):=by simp [has,hp]
   rw [e];exact Uf [] [0] [.g 36 true (by simp; omega),.x (Rv hp)] rfl
  ·have e:has l id=false:=by simp [has,Qw (J6 h)]
   rw [e];exact Uf [] [0] [.g 36 false (by simp; omega)] rfl
theorem AM {lx ly:Uq} {px py:Uk} {x y:LV} {d:Int} (hx:IsInts lx px) (hy:IsInts ly py) (hd:Gv x y d) (hk:Cs 4294967294 1073741824 (Crv.mk px py d)) (id:Int):Uh 75 [.agg [.row lx,.row ly,x,y,.int .i64 id]] [.agg (U6 ⟨Crv.norm (Crv.mk px py d),id⟩)]:=by
 have cd:=Bu hd (Qc hk.d (by omega));by_cases h0:d=0
 ·subst h0;have ck:Cs 4294967294 1073741824 (Crv.mk px py 1):=⟨hk.x,hk.y,show Fa 1<=4294967294 by decide,hk.lx,hk.ly⟩;have cm:=WN hx hy (Uy 1) ck (by decide);have e:Crv.norm (Crv.mk px py 1)=Crv.norm (Crv.mk px py 0):=by simp only [Crv.norm,Crv.g,Crv.d']; rfl
  rw [e] at cm;obtain ⟨b,l,rfl,rfl,_⟩:=hd;exact Ue func75 rfl [.k cd,.k Lf,.t (by simp),.k (zF (z:=1) (by decide)),.k cm] rfl
 ·have cm:=WN hx hy hd hk h0;obtain ⟨b,l,rfl,rfl,_⟩:=hd;exact Ue func75 rfl [.k cd,.k Lf,.f (by simpa using h0),.k cm] rfl
theorem pW {p:Pt} (hn:ZR p.c) (hk:Cs 4294967294 1073741824 p.c):Uh 75 [.agg (U6 p)] [.agg (U6 p)]:=by
 have h:=AM (Gi p.c.x) (Gi p.c.y) (Uy p.c.d) hk p.id;rw [show Crv.mk p.c.x p.c.y p.c.d=p.c from rfl,Crv.norm_of hn] at h; exact h
theorem Qe2 {k:Crv} (hk:Cs 4294967294 1073741824 k):Uh 152 [.agg (cl k)] [.one (.bool (QC k))]:=by
 have hlx:=hk.lx;have hly:=hk.ly;refine Ft func152 rfl ?_;refine Ub [] rfl ?_;refine Ug (S:=Nat) 1 (λL1 i=>(15,.v (.oi i))::L1) (λ_=>[.blk 36 (cl k)]) (λi=>3-i) (λi=>i≤3/\(0<i->∀ z∈k.x,Fa z≤128)/\(1<i->∀ z∈k.y,Fa z≤128)/\(2<i->Fa k.d≤128)) 0 ⟨by decide,by omega,by omega,by omega⟩ rfl rfl λi ⟨hi,g0,g1,g2⟩=>?_
 rcases (show i=0\/i=1\/i=2\/i=3 by omega) with rfl | rfl | rfl | rfl
 ·have hl:((k.x).map He).length=(k.x).length:=by simp
  refine Ub [.t rfl,.i 0] rfl ?_ (by simp [Uw]);refine Ug (S:=Nat) 1 (λL1 j=>(20,.v (.oi j))::L1) (λ_=>[.blk 36 (cl k)]) (λj=>(k.x).length-j) (λj=>j<=(k.x).length/\∀ n z,n<j->(k.x)[n]? = some z->Fa z<=128) 0 ⟨Qh _,λn z h=>by omega⟩ rfl rfl λj ⟨hj,hs⟩=>?_
  by_cases h:j<(k.x).length
  ·obtain ⟨z,hz⟩:=gxE (l:=(k.x)) (i:=j) h;by_cases hb:Fa z<=128
   ·have hb4:=HL.2 hb;refine Uc [.t (by simp; omega),.x (Gn (f:=He) hz),.f (by simp [lml]; omega)] rfl ?_;exact rd (j+1) (by omega) ⟨h,λn y hn hy=>by
     rcases Zb n j with h2 | h2
     ·exact hs n y h2 hy
     ·have:n=j:=by omega
      subst this; rw [hz] at hy; injection hy with hy; rw [<-hy]; exact hb⟩ rfl
   ·have hb4:=mt HL.1 hb;rw [KI (Qr.2 (.inl (Qr.2 (.inl (Qa hz))))) hb];exact Ud [.t (by simp; omega),.x (Gn (f:=He) hz),.t (by simp [lml]; omega)] rfl
  ·have hall:∀ z∈k.x,Fa z≤128:=λz hz=>by
    obtain ⟨n,hn⟩:=Xu hz;exact hs n z (by have:=(Qf.1 hn).1; omega) hn
   refine Ub [.f (by simp; omega)] rfl ?_ (by simp [Uw]);exact rd 1 (by omega) ⟨by omega,λ_=>hall,by omega,by omega⟩ rfl
 ·have hl:((k.y).map He).length=(k.y).length:=by simp
  refine Ub [.t rfl,.i 1] rfl ?_ (by simp [Uw]);refine Ug (S:=Nat) 1 (λL1 j=>(20,.v (.oi j))::L1) (λ_=>[.blk 36 (cl k)]) (λj=>(k.y).length-j) (λj=>j<=(k.y).length/\∀ n z,n<j->(k.y)[n]? = some z->Fa z<=128) 0 ⟨Qh _,λn z h=>by omega⟩ rfl rfl λj ⟨hj,hs⟩=>?_
  by_cases h:j<(k.y).length
  ·obtain ⟨z,hz⟩:=gxE (l:=(k.y)) (i:=j) h;by_cases hb:Fa z<=128
   ·have hb4:=HL.2 hb;refine Uc [.t (by simp; omega),.x (Gn (f:=He) hz),.f (by simp [lml]; omega)] rfl ?_;exact rd (j+1) (by omega) ⟨h,λn y hn hy=>by
     rcases Zb n j with h2 | h2
     ·exact hs n y h2 hy
     ·have:n=j:=by omega
      subst this; rw [hz] at hy; injection hy with hy; rw [<-hy]; exact hb⟩ rfl
   ·have hb4:=mt HL.1 hb;rw [KI (Qr.2 (.inl (Qr.2 (.inr (Qa hz))))) hb];exact Ud [.t (by simp; omega),.x (Gn (f:=He) hz),.t (by simp [lml]; omega)] rfl
  ·have hall:∀ z∈k.y,Fa z≤128:=λz hz=>by
    obtain ⟨n,hn⟩:=Xu hz;exact hs n z (by have:=(Qf.1 hn).1; omega) hn
   refine Ub [.f (by simp; omega)] rfl ?_ (by simp [Uw]);exact rd 2 (by omega) ⟨by omega,λ_=>g0 (by omega),λ_=>hall,by omega⟩ rfl
 ·have hl:(([k.d]).map He).length=([k.d]).length:=by simp
  have h1:([k.d]).length=1:=rfl;refine Ub [.t rfl,.i 2] rfl ?_ (by simp [Uw]);refine Ug (S:=Nat) 1 (λL1 j=>(20,.v (.oi j))::L1) (λ_=>[.blk 36 (cl k)]) (λj=>([k.d]).length-j) (λj=>j<=([k.d]).length/\∀ n z,n<j->([k.d])[n]? = some z->Fa z<=128) 0 ⟨Qh _,λn z h=>by omega⟩ rfl rfl λj ⟨hj,hs⟩=>?_
  by_cases h:j<([k.d]).length
  ·obtain ⟨z,hz⟩:=gxE (l:=([k.d])) (i:=j) h;by_cases hb:Fa z<=128
   ·have hb4:=HL.2 hb;refine Uc [.t (by simp; omega),.x (Gn (f:=He) hz),.f (by simp [lml]; omega)] rfl ?_;exact rd (j+1) (by omega) ⟨h,λn y hn hy=>by
     rcases Zb n j with h2 | h2
     ·exact hs n y h2 hy
     ·have:n=j:=by omega
      subst this; rw [hz] at hy; injection hy with hy; rw [<-hy]; exact hb⟩ rfl
   ·have hb4:=mt HL.1 hb;rw [KI (Qr.2 (.inr (Qa hz))) hb];exact Ud [.t (by simp; omega),.x (Gn (f:=He) hz),.t (by simp [lml]; omega)] rfl
  ·have hall:∀ z∈[k.d],Fa z≤128:=λz hz=>by
    obtain ⟨n,hn⟩:=Xu hz;exact hs n z (by have:=(Qf.1 hn).1; omega) hn
   refine Ub [.f (by simp; omega)] rfl ?_ (by simp [Uw]);exact rd 3 (by omega) ⟨by omega,λ_=>g0 (by omega),λ_=>g1 (by omega),λ_=>hall k.d (by simp)⟩ rfl
 ·rw [LN.2 ⟨g0 (by omega),g1 (by omega),g2 (by omega)⟩];exact Ud [.f rfl] rfl
def ZW (p:Pt):Bool:=decide (0<=p.id) && (decide (p.id<=1048576) && QC p.c)
theorem Qs0 {p:Pt} (hk:Cs 4294967294 1073741824 p.c):Uh 110 [.agg (U6 p)] [.one (.bool (ZW p))]:=by
 have cs:=Qe2 hk;by_cases h0:0<=p.id
 ·by_cases h1:p.id<=1048576
  ·have e:ZW p=QC p.c:=by simp [ZW,h0,h1]
   rw [e];exact Ue func110 rfl [.t (by simpa using h0),.t (by simpa using h1),.k cs] rfl
  ·have e:ZW p=false:=by simp [ZW,h1]
   rw [e];exact Ue func110 rfl [.t (by simpa using h0),.f (by simpa using h1)] rfl
 ·have e:ZW p=false:=by simp [ZW,h0]
  rw [e];exact Ue func110 rfl [.f (by simpa using h0),.f rfl] rfl
theorem Qsl {k:Crv} (hn:ZR k) (hk:Cs 4294967294 1073741824 k):Uh 98 [.agg (cl k)] [.oi (SB k)] :=
 Ue func98 rfl [.k (NT hn hk),.k (Mk k.x),.k (Mk k.y)] rfl
def Sl (np nd:Int) (M:List Pt) (p:Pt):Int:=if ZW p=false then 1 else if has M p.id=true then 6 else if nd<SB p.c then 7 else if np<=(M.length:Int) then 9 else 0
theorem Qsz {lx ly:Uq} {px py:Uk} {x y:LV} {d id np nd:Int} {l:List Pt} (hx:IsInts lx px) (hy:IsInts ly py) (hd:Gv x y d) (hk:Cs 4294967294 1073741824 (Crv.mk px py d)) (hl:l.length<=1000000) :
 U0 prog 70 [.one (.ow 0 0),.agg [.row lx,.row ly,x,y,.int .i64 id]] [tB np nd l] [.oi (Sl np nd l (Pt.mk (Crv.norm (Crv.mk px py d)) id))] [tB np nd (if Sl np nd l (Pt.mk (Crv.norm (Crv.mk px py d)) id)=0 then put l (Pt.mk (Crv.norm (Crv.mk px py d)) id) else l)]:=by
 have cf:=AM hx hy hd hk id;have hkn:=hk.norm (by omega);have hnm:=Crv.nml (Crv.mk px py d);obtain ⟨b,r,rfl,rfl,_⟩:=hd;obtain ⟨q,hq⟩:=nmE (Pt.mk (Crv.norm (Crv.mk px py d)) id);have hqi:q.id=id:=by rw [hq]
 have hqc:q.c=Crv.norm (Crv.mk px py d):=by rw [hq]
 rw [<-hq] at cf ⊢;rw [<-hqc] at hkn hnm;have ca:U0 prog 109 [.one (.ow 0 0),.oi q.id] [tB np nd l] [.oi (Tr l id:Int),.one (.bool (has l id))] [tB np nd l]:=by rw [hqi]; exact Qe6 id (by omega)
 have cm:=Qs0 (p:=q) hkn;have cd:=Qsl hnm hkn;have hpl:=nS l id;have hll:(l.map U6).length=l.length:=by simp
 by_cases h0:ZW q=false
 ·have e:Sl np nd l q=1:=by simp [Sl,h0]
  rw [e,if_neg (by decide)];refine Ft func70 rfl ?_;exact Uf [] [0] [.k cf,.c [0] ca,.k cm,.t (by simp [h0])] rfl
 by_cases h1:has l id=true
 ·have e:Sl np nd l q=6:=by simp [Sl,h0,hqi,h1]
  rw [e,if_neg (by decide)];refine Ft func70 rfl ?_;exact Uf [] [0] [.k cf,.c [0] ca,.k cm,.f (by simpa using h0),.t h1] rfl
 by_cases h2:nd<SB q.c
 ·have e:Sl np nd l q=7:=by simp [Sl,h0,hqi,h1,h2]
  rw [e,if_neg (by decide)];refine Ft func70 rfl ?_;exact Uf [] [0] [.k cf,.c [0] ca,.k cm,.f (by simpa using h0),.f (by simpa using h1),.k cd,.t (by simpa using h2)] rfl
 by_cases h3:np<=(l.length:Int)
 ·have e:Sl np nd l q=9:=by simp [Sl,h0,hqi,h1,h2,h3]
  rw [e,if_neg (by decide)];refine Ft func70 rfl ?_;exact Uf [] [0] [.k cf,.c [0] ca,.k cm,.f (by simpa using h0),.f (by simpa using h1),.k cd,.f (by simpa using h2),.t (by simp; omega)] rfl
 have e:Sl np nd l q=0:=by simp [Sl,h0,hqi,h1,h2,h3]
 rw [e,if_pos rfl];have s1:∀ c∈(l.map U6).take (Tr l id),c.length=5:=λc hc=>P5 l c (Qo hc)
 have s3:∀ c∈(l.map U6).drop (Tr l id),c.length=5:=λc hc=>P5 l c (Qz hc)
 have ep:pts (put l q)=.row ((l.map U6).take (Tr l id)++[U6 q]++(l.map U6).drop (Tr l id)):=by
  simp [put,hqi,pts,Jt,Vh]
 have eB:tB np nd (put l q)=.blk 139 [.int .i64 np,.int .i64 nd,.row ((l.map U6).take (Tr l id)++[U6 q]++(l.map U6).drop (Tr l id))]:=by
  show OB.blk 139 [.int .i64 np,.int .i64 nd,pts (put l q)]=_;rw [ep]
 rw [eB];refine Ft func70 rfl ?_;exact Uf [2] [0] [.k cf,.c [0] ca,.k cm,.f (by simpa using h0),.f (by simpa using h1),.k cd,.f (by simpa using h2),.f (by simp; omega),.i (Tr l id),.s s1,.i (Tr l id),.s s3] rfl (by
  simp only [Uw,Qu,Q6,Xx,Qq,Q8,hll]
  and_intros <;> first | exact P5 l | omega)
theorem Qmr {id np nd:Int} {l:List Pt} (hl:l.length<=1000000) (h:has l id=true) :
 U0 prog 73 [.one (.ow 0 0),.oi id] [tB np nd l] [.oi 0] [tB np nd (l.take (Tr l id)++l.drop (Tr l id+1))]:=by
 have ca:=Qe6 (np:=np) (nd:=nd) (l:=l) id (by omega);have hpl:=jE h;rw [h] at ca;have hll:(l.map U6).length=l.length:=by simp
 have s1:∀ c∈(l.map U6).take (Tr l id),c.length=5:=λc hc=>P5 l c (Qo hc)
 have s3:∀ c∈(l.map U6).drop (Tr l id+1),c.length=5:=λc hc=>P5 l c (Qz hc)
 have eB:tB np nd (l.take (Tr l id)++l.drop (Tr l id+1))=.blk 139 [.int .i64 np,.int .i64 nd,.row ((l.map U6).take (Tr l id)++(l.map U6).drop (Tr l id+1))]:=by
  show OB.blk 139 [.int .i64 np,.int .i64 nd,pts (l.take (Tr l id)++l.drop (Tr l id+1))]=_;unfold pts; rw [List.map_append,List.map_take,List.map_drop]
 rw [eB];refine Ft func73 rfl ?_;exact Uf [1] [0] [.c [0] ca,.f rfl,.i (Tr l id),.s s1,.i (Tr l id+1),.s s3] rfl (by
  simp only [Uw,Qu,Q6,Xx,Qq,Q8,hll]
  and_intros <;> first | exact P5 l | omega)
theorem Qe5 {id np nd:Int} {l:List Pt} (hl:l.length<=1000000) (h:has l id=false) :
 U0 prog 73 [.one (.ow 0 0),.oi id] [tB np nd l] [.oi 5] [tB np nd l]:=by
 have ca:=Qe6 (np:=np) (nd:=nd) (l:=l) id (by omega);rw [h] at ca;refine Ft func73 rfl ?_;exact Uf [] [0] [.c [0] ca,.t rfl] rfl
theorem Qe4 {np nd:Int} {l:List Pt} (hok:∀ p∈l,oR 4294967294 1073741824 p) (hl:l.length≤1000000):U0 prog 33 [.one (.ow 0 0)] [tB np nd l] [.one (pts l)] [tB np nd l]:=by
 have hll:(l.map U6).length=l.length:=by simp
 refine Ft func33 rfl ?_;refine Ub [.o 3 38 5] rfl ?_;refine Ug (S:=Nat) 2 (λL1 i=>(11,.v (.oi i))::(3,.v (.one (.orow 1 5 none)))::L1) (λi=>[tB np nd l,.row false 38 5 ((l.take i).map U6)]) (λi=>l.length-i) (λi=>i<=l.length) 0 (Qh _) rfl rfl λi hi=>?_
 by_cases h:i<l.length
 ·obtain ⟨p,hp⟩:=gxE (l:=l) (i:=i) h;have hpo:=hok p (Qa hp);have cf:=pW hpo.1 hpo.2;have s2:∀ c∈[U6 p],c.length=5:=λc hc=>by rw [Qk.1 hc]; rfl
  have hg:(l.take (i+1)).map U6=(l.take i).map U6++[U6 p]:=by rw [Zw,hp]; simp
  refine Uc [.t (by simp; omega),.x (Rv hp),.k cf,.s s2] rfl ?_;exact rd (i+1) (by omega) h (by rw [hg]; rfl)
 ·obtain rfl:i=l.length:=by omega
  rw [Q5];exact Uf [1] [0] [.f (by simp)] rfl
end Orr
