/- H1 HullQ HullS HullT PairQ PW1 DigL R1 R2 S2 S3 NewsN PW2 TouL TouQ MeshN EnL KT EnS SD1 En1 -/
import Derived.Test.YtoohlnnpalgnaaaGreatPart07
import Derived.Test.YtoohlnnpalgnaaaGreatPart05
import Derived.Test.YtoohlnnpalgnaaaGreatPart00
import Derived.Test.YtoohlnnpalgnaaaGreatPart04
set_option linter.all false
namespace Orr
open Go Go.Proofs Tryz Orq
set_option maxRecDepth 10000
theorem gz {P:Program} [Mo P] {n:Nat} {Q:Exit->Sg->Ur->Prop} {L L':Sg} {B B':Ur} (i:Nat) {it:List It} (hs:Rf it=true) (h:Qb1 [i] L B=some (L',B')) (k:AK P n Q it L' B'):AK P n Q it L B:=AK.sub (FH h) hs k
theorem LR {r:Ul} {i:Nat} {p:Uk} (h:r[i]? = some p):(JQ r)[i]? = some [pl p]:=Gt h
theorem Et {l:List Ul} {i:Nat} {r:Ul} (h:l[i]? = some r):(A8 l)[i]? = some [.row (JQ r)]:=Gt h
theorem Qdm {r:Ul} (ht:∀ p∈r,U9 p) (hb:∀ p∈r,Bd 1000000 p) (hl:∀ p∈r,p.length≤1000000) (hn:r.length≤1000):Uh 277 [.one (.row (JQ r))] [.one (.row (JQ r))]:=by
 have hrl:(JQ r).length=r.length:=by simp
 refine Fw func277 rfl ?_;refine Ub [.o 3 33 1] rfl ?_;refine Ug (S:=Nat) 1 (λL1 i=>(8,.v (.oi i))::(3,.v (.one (.orow 0 1 none)))::L1) (λi=>[.row false 33 1 (JQ (r.take i))]) (λi=>r.length-i) (λi=>i<=r.length) 0 (Qh _) rfl rfl λi hi=>?_
 by_cases h:i<r.length
 ·obtain ⟨p,hp⟩:=gxE (l:=r) (i:=i) h;have hm:=Qa hp;have hs:∀ y∈[[pl p]],y.length=1:=λy hy=>by rw [Qk.1 hy]; rfl
  have e:JQ (r.take (i+1))=JQ (r.take i)++[[pl p]]:=by rw [Zv,hp]; simp
  refine go tt [.T,.x (LR hp),.k (Ht (ht p hm) (by have:=hl p hm; omega) (U0 (hb p hm) (by decide))),.s (sz:=1) hs] rfl (by simp [Uz] <;> omega) ?_;exact rd (i+1) (by omega) h (by rw [e]; rfl)
 ·obtain rfl:i=r.length:=by omega
  rw [Q5];exact Ud [.F] rfl
theorem Qwv {s k w:Nat} {ds:Um} {rows:List Ul} (h:Sq s ds k k rows) (_hw:w=k) (hk:k<=4):Uh 315 [.one (.row (A8 rows))] [.one (.bool true)]:=by
 have hrl:=YG rows;have hl:=h.l;refine Fw func315 rfl ?_;refine Ub [] rfl ?_;refine Ug (S:=Nat) 0 (λL1 i=>(7,.v (.oi i))::L1) (λ_=>[]) (λi=>rows.length-i) (λi=>i<=rows.length) 0 (Qh _) rfl rfl λi hi=>?_
 by_cases hlt:i<rows.length
 ·obtain ⟨r,hr⟩:=gxE (l:=rows) (i:=i) hlt;have hw:=h.w r (Qa hr);have hql:(JQ r).length=r.length:=by simp
  refine go tt [.T,.x (Et hr),.f (decide_eq_false (λh=>h (by omega)))] rfl (by simp [Uz] <;> omega) ?_;exact rd (i+1) (by omega) hlt rfl
 ·exact Ud [.F] rfl (by rw [decide_eq_true (by omega:((A8 rows).length:Int)<=4)]) trivial
theorem Qmq {s k w:Nat} {ds:Um} {rows:List Ul} (h:Sq s ds k w rows) (hs:s<=1000000) (hk:k<=4) (hw:w<=4) (hd:∀ j,ds.getD j 0<=1000) (i:Nat):Uh 337 [.oi i,.oi 0,.one (.row (A8 rows))] [.one (.row (A8 (YO rows i)))]:=by
 have hrl:=YG rows;have hl:=h.l;have hml:∀ j,j<=rows.length->(A8 (XR i rows j)).length<=4:=λj hj=>by
  rw [YG,DX]; split <;> omega
 refine Fw func337 rfl ?_;refine Ub [.o 7 340 1] rfl ?_;refine Ug (S:=Nat) 1 (λL1 j=>(15,.v (.oi j))::(7,.v (.one (.orow 0 1 none)))::L1) (λj=>[.row false 340 1 (A8 (XR i rows j))]) (λj=>rows.length-j) (λj=>j<=rows.length) 0 (Qh _) rfl rfl λj hj=>?_
 have hmlj:=hml j hj;by_cases hlt:j<rows.length
 ·obtain ⟨r,hr⟩:=gxE (l:=rows) (i:=j) hlt;have hm:=Qa hr;have hw:=h.w r hm;have hql:(JQ r).length=r.length:=by simp
  by_cases hij:j=i
  ·have e:XR i rows (j+1)=XR i rows j:=by simp only [XR]; rw [if_pos hij]
   refine go tt [.T,.x (Et hr),.T] rfl (by simp [Uz] <;> omega) ?_;exact rd (j+1) (by omega) hlt (by rw [e]; rfl)
  ·have e:XR i rows (j+1)=XR i rows j++[r.drop 1]:=by
    simp only [XR]; rw [if_neg hij,Qi,hr]; rfl
   refine Ub [.T,.x (Et hr),.F,.o 10 33 1] rfl ?_ (by simp [Uz]);refine Ug (S:=Nat) 2 (λL1 c=>(25,.v (.oi c))::(10,.v (.one (.orow 1 1 none)))::L1) (λc=>[.row false 340 1 (A8 (XR i rows j)),.row false 33 1 (JQ ((r.take c).drop 1))]) (λc=>r.length-c) (λc=>c<=r.length) 0 (Qh _) rfl rfl λc hc=>?_
   by_cases hcl:c<r.length
   ·obtain ⟨p,hp⟩:=gxE (l:=r) (i:=c) hcl;have hpm:=Qa hp;by_cases h0:c=0
    ·subst h0;refine Ub [.T,.x (LR hp),.f (decide_eq_false (by simp))] rfl ?_ (by simp [Uz]);exact rd 1 (by omega) hcl (by rw [Zv,hp]; rfl)
    ·have hs1:∀ y∈[[pl p]],y.length=1:=λy hy=>by rw [Qk.1 hy]; rfl
     have e2:JQ ((r.take (c+1)).drop 1)=JQ ((r.take c).drop 1)++[[pl p]]:=by
      rw [Zv,hp,Wg (by rw [Qt]; omega)]; simp
     refine go tt [.T,.x (LR hp),.T,.k (Ht (h.t r hm p hpm) (by have:=h.n r hm c p hp; have:=hd c; omega) (U0 (h.b r hm p hpm) (by omega))),.s (sz:=1) hs1] rfl (by simp [Uz] <;> omega) ?_;exact rd (c+1) (by omega) hcl (by rw [e2]; rfl)
   ·obtain rfl:c=r.length:=by omega
    rw [Q5];have hs1:∀ y∈[[LV.row (JQ (r.drop 1))]],y.length=1:=λy hy=>by rw [Qk.1 hy]; rfl
    refine Ub [.F] rfl ?_;refine gz 1 rfl rfl ?_;refine go tt [.s (sz:=1) hs1] rfl (by simp [Uz] <;> omega) ?_;exact rd (j+1) (by omega) hlt (by rw [e]; simp [A8]; rfl)
 ·obtain rfl:j=rows.length:=by omega
  exact Ud [.F] rfl
theorem TA:∀ (ds:Um) (j:Nat),ds.getD j 0<=ds.sum
 | [],j=>by simp
 | d::ds,0=>by simp
 |
  d::ds,j+1=>by
  have:=TA ds j;rw [Ku];show ds.getD j 0<=_;omega
theorem Qqo {s:Nat} (hs:s<=100000):∀ (k:Nat) (ds:Um) (rows:List Ul),k<=4->ds.length=k->ds.sum<31->Sq s ds k k rows->Uh 316 [.one (.row (A8 rows))] [pr (La k rows)]
 |
  0,ds,rows,_,_,_,h=>by
  have e:=Qj h.l;subst e;have co:=cA (p:=[1]) (by decide) (by decide);exact Ue func316 rfl [.t rfl,.k co] rfl
 | k+1,[],_,_,hl,_,_=>by simp at hl
 |
  k+1,d::ds,rows,hk,hl,hd,h=>by
  rw [Ku] at hd;have hl':ds.length=k:=by simpa using hl
  have hrl:=YG rows;have hrn:=h.l;have hmin:=λi (hi:i<k+1)=>h.min hi
  have ih:=λi (hi:i<k+1)=>Qqo hs k ds (YO rows i) (by omega) hl' (by omega) (hmin i hi)
  have hok:=λi (hi:i<k+1)=>MH k ds (YO rows i) (by omega) hl' (by omega) (hmin i hi)
  have hb:k*(s+10)+1<=500000:=by
   have:k*(s+10)<=4*(100010):=Zf (by omega) (by omega);omega
  have hds:=xW (f:=λi=>La k (YO rows i)) (B:=k*(s+10)+1) (L:=ds.sum) h (by omega) (λi hi=>⟨(hok i hi).2.1,(hok i hi).2.2⟩);have cm:=Qmq h (by omega) hk hk (λj=>by have:=TA (d::ds) j; rw [Ku] at this; omega);show Uh 316 [.one (.row (A8 rows))] [pr (C9 (λi=>La k (YO rows i)) rows (k+1))];obtain ⟨f,hf⟩:=nmE (λi=>La k (YO rows i));rw [<-hf] at hds ⊢;have hfi:∀ i,f i=La k (YO rows i):=λi=>by rw [hf]
  refine Fw func316 rfl ?_;refine Ub [.F,.z 3] rfl ?_;refine Ug (S:=Nat) 0 (λL1 i=>(14,.v (.oi i))::(3,.v (pr (C9 f rows i)))::L1) (λ_=>[]) (λi=>k+1-i) (λi=>i<=k+1) 0 (Qh _) rfl rfl λi hi=>?_
  obtain ⟨d1,d2,d3⟩:=hds i hi;by_cases hlt:i<k+1
  ·obtain ⟨p,r,hr,e,t,b,l⟩:=h.at hlt;have hx0:(JQ (p::r))[0]? = some [pl p]:=rfl;have hpl:(p.map Hh).length=p.length:=by simp
   have cn:=Ht t (by omega) (U0 b (by omega));by_cases h0:p.length=0
   ·have es:C9 f rows (i+1)=C9 f rows i:=by simp only [C9]; rw [e,if_pos h0]
    refine go tt [.T,.x (Et hr),.x hx0,.k cn,.T] rfl (by simp [Uz] <;> omega) ?_;exact rd (i+1) (by omega) hlt (by rw [es]; rfl)
   ·obtain ⟨k1,k2,k3⟩:=hok i hlt;have ci:=ih i hlt;have cp:=GE (p:=p) (q:=f i) t (by rw [hfi]; exact k1) (by omega) (by rw [hfi]; omega) b (by rw [hfi]; exact k2) (by omega);have hmb:Bd (s+(k*(s+10)+1)+5) (Gk p (f i)):=Md b (by rw [hfi]; exact k2) (by omega);have hml:=S0 p (f i);have hfl:(f i).length<=ds.sum+1:=by rw [hfi]; exact k3
    rw [<-hfi] at ci;by_cases h2:i % 2=0
    ·have es:C9 f rows (i+1)=ZK (C9 f rows i) (Gk p (f i)):=by simp only [C9]; rw [e,if_neg h0,if_pos h2]
     refine go tt [.T,.x (Et hr),.x hx0,.k cn,.F,.x hx0,.k (cm i),.k ci,.k cp,.r 34 (eI (b:=((i % 2:Nat):Int)) rfl),.T,.k (zM (p:=C9 f rows i) (q:=Gk p (f i)) (by omega) (by omega) (U0 d2 (by omega)) (U0 hmb (by omega)))] rfl (by simp [Uz] <;> omega) ?_;exact rd (i+1) (by omega) hlt (by rw [es]; rfl)
    ·have es:C9 f rows (i+1)=Mx (C9 f rows i) (Gk p (f i)):=by simp only [C9]; rw [e,if_neg h0,if_neg h2]
     refine go tt [.T,.x (Et hr),.x hx0,.k cn,.F,.x hx0,.k (cm i),.k ci,.k cp,.r 34 (eI (b:=((i % 2:Nat):Int)) rfl),.F,.k (GA (p:=C9 f rows i) (q:=Gk p (f i)) (by omega) (by omega) (U0 d2 (by omega)) (U0 hmb (by omega)))] rfl (by simp [Uz] <;> omega) ?_;exact rd (i+1) (by omega) hlt (by rw [es]; rfl)
  ·obtain rfl:i=k+1:=by omega
   exact Ud [.F] rfl
theorem Qqh {s:Nat} (hs:s<=100000) {k:Nat} {ds:Um} {rows:List Ul} (hk:k<=4) (hl:ds.length=k) (hd:ds.sum<31) (h:Sq s ds k k rows):Uh 278 [.one (.row (A8 rows))] [pr (La k rows),.oi 0] :=
 Ue func278 rfl [.k (Qwv h rfl hk),.f rfl,.k (Qqo hs k ds rows hk hl hd h)] rfl
theorem sC {k:Crv} (hk:Sc k):Uh 276 [.agg (cl k)] [.one (.row (JQ [k.x,k.y,[k.d]]))]:=by
 have h0:k.d≠0:=by have:=hk.n.2.2.1; omega
 have td:U9 [k.d]:=by unfold U9; simp [trim,h0]
 have cd:=Qdm (r:=[k.x,k.y,[k.d]]) (λp hp=>by
  rcases Qm.1 hp with rfl | hp
  ·exact hk.n.1
  rcases Qm.1 hp with rfl | hp
  ·exact hk.n.2.1
  ·rw [Qk.1 hp]; exact td) (λp hp=>by
  rcases Qm.1 hp with rfl | hp
  ·exact U0 hk.c.x (by decide)
  rcases Qm.1 hp with rfl | hp
  ·exact U0 hk.c.y (by decide)
  ·rw [Qk.1 hp];intro z hz; rw [Qk.1 hz]; exact Qc hk.c.d (by decide)) (λp hp=>by
  rcases Qm.1 hp with rfl | hp
  ·have:=hk.c.lx; omega
  rcases Qm.1 hp with rfl | hp
  ·have:=hk.c.ly; omega
  ·rw [Qk.1 hp]; show 1<=1000000; decide) (by show 3<=1000; decide)
 exact Ue func276 rfl [.k (Di hk.n (hk.c.mono (by decide) (by decide))),.k cd] rfl
theorem rS {a b c:Crv} (ha:Sc a) (hb:Sc b) (hc:Sc c):Sq 128 [2,2,0] 3 3 (fH a b c):=by
 have key:∀ k:Crv,Sc k->(∀ p∈[k.x,k.y,[k.d]],U9 p/\Bd 128 p)/\∀ (j:Nat) (p:Uk),[k.x,k.y,[k.d]][j]? = some p->p.length≤[2,2,0].getD j 0+1:=λk hk=>by
  have h0:k.d≠0:=by have:=hk.n.2.2.1; omega
  have td:U9 [k.d]:=by unfold U9; simp [trim,h0]
  refine ⟨λp hp=>?_,λj p hp=>?_⟩
  ·rcases Qm.1 hp with rfl | hp
   ·exact ⟨hk.n.1,hk.c.x⟩
   rcases Qm.1 hp with rfl | hp
   ·exact ⟨hk.n.2.1,hk.c.y⟩
   ·rw [Qk.1 hp];exact ⟨td,λz hz=>by rw [Qk.1 hz]; exact hk.c.d⟩
  ·match j,hp with
   | 0,hp=>injection hp with hp; subst hp; exact hk.c.lx
   | 1,hp=>injection hp with hp; subst hp; exact hk.c.ly
   | 2,hp=>injection hp with hp; subst hp; exact Ql _
   | j+3,hp=>simp at hp
 have hr:∀ r∈fH a b c,∃ k:Crv,Sc k/\r=[k.x,k.y,[k.d]]:=λr hr=>by
  rcases Qm.1 hr with rfl | hr
  ·exact ⟨a,ha,rfl⟩
  rcases Qm.1 hr with rfl | hr
  ·exact ⟨b,hb,rfl⟩
  ·rw [Qk.1 hr]; exact ⟨c,hc,rfl⟩
 refine ⟨rfl,λr h=>?_,λr h p hp=>?_,λr h p hp=>?_,λr h j p hp=>?_⟩
 all_goals obtain ⟨k,hk,rfl⟩:=hr r h
 ·rfl
 ·exact ((key k hk).1 p hp).1
 ·exact ((key k hk).1 p hp).2
 ·exact (key k hk).2 j p hp
theorem JE {a b c:Crv} (ha:Sc a) (hb:Sc b) (hc:Sc c):Cp (He a b c):=by
 obtain ⟨h1,h2,h3⟩:=MH 3 [2,2,0] (fH a b c) (by decide) rfl (by decide) (rS ha hb hc);exact ⟨h1,Qc h3 (by decide),U0 h2 (by decide)⟩
theorem vO {a b c:Crv} (ha:Sc a) (hb:Sc b) (hc:Sc c):Uh 237 [.agg (cl a),.agg (cl b),.agg (cl c)] [pr (He a b c)]:=by
 have cd:=Qqh (by decide) (k:=3) (ds:=[2,2,0]) (by decide) rfl (by decide) (rS ha hb hc);exact Ue func237 rfl [.k (sC ha),.k (sC hb),.k (sC hc),.k cd] rfl
end Orr
namespace Orq
open Orr Go
theorem rD {p q:Uk} (tp:U9 p) (tq:U9 q) (h:∀ i,p.getD i 0=q.getD i 0):p=q:=by
 have hl:∀ {p q:Uk},U9 p->(∀ i,p.getD i 0=q.getD i 0)->p.length<=q.length:=λ{p q} tp h=>by
  refine Nat.not_lt.1 λhn=>?_
  have h1:=H5 tp (by omega);rw [h,Qi,Qw (by omega)] at h1;exact h1 rfl
 have e:=Kc (hl tp h) (hl tq λi=>(h i).symm);refine List.ext_getElem e λi h1 h2=>?_
 have:=h i;rw [Qi,Qi,Qe h1,Qe h2] at this;exact this
theorem uJ {p:Uk} (h:p=[]) (i:Nat):p.getD i 0=0:=by rw [h]; simp
theorem Ee (p:Uk) (c:Int) (i:Nat):(Ft p c).getD i 0=p.getD i 0*c:=by
 unfold Ft;rw [Sy]
 split
 ·rfl
 ·rename_i h;rw [Qi,Qw (by omega)]; simp
theorem LF (p q:Uk) (i:Nat):(Mx p q).getD i 0=p.getD i 0-q.getD i 0:=by
 unfold Mx;rw [Sy]
 split
 ·rfl
 ·rename_i h;rw [Qi,Qi,Qw (by omega),Qw (by omega)]; simp
theorem Qoc {x y:Crv} (hx:JH x) (hy:JH y) (h1:Gh x y=[]) (h2:Gg x y=[]):x=y:=by
 have e1:∀ i,y.x.getD i 0*x.d=x.x.getD i 0*y.d:=λi=>by
  have:=uJ h1 i;unfold Gh at this;rw [LF,Ee,Ee] at this;omega
 have e2:∀ i,y.y.getD i 0*x.d=x.y.getD i 0*y.d:=λi=>by
  have:=uJ h2 i;unfold Gg at this;rw [LF,Ee,Ee] at this;omega
 have key:∀ {x y:Crv},JH x->JH y->(∀ i,y.x.getD i 0*x.d=x.x.getD i 0*y.d)->(∀ i,y.y.getD i 0*x.d=x.y.getD i 0*y.d)->x.d∣y.d:=λ{x y} hx hy e1 e2=>by
  have hd:=wH (d:=x.d) (l:=(x.d::(x.x++x.y)).map (· * y.d)) λz hz=>by
   obtain ⟨w,hw,rfl⟩:=Q8.1 hz;rcases Qm.1 hw with rfl | hw
   ·exact Int.dvd_mul_right _ _
   ·rcases Qq.1 hw with hw | hw
    ·obtain ⟨i,hi,rfl⟩:=V0.1 hw;have:=e1 i;rw [show x.x.getD i 0=x.x[i] from by rw [Qi,Qe hi]; rfl] at this;rw [<-this]; exact Y8 _ _
    ·obtain ⟨i,hi,rfl⟩:=V0.1 hw;have:=e2 i;rw [show x.y.getD i 0=x.y[i] from by rw [Qi,Qe hi]; rfl] at this;rw [<-this]; exact Y8 _ _
  rw [Qgn,hx.2.2.2,Wn] at hd;exact V6 hd (Int.natAbs_dvd.2 (K8 _))
 have hd:x.d=y.d:=Int.dvd_antisymm (Int.le_of_lt hx.2.2.1) (Int.le_of_lt hy.2.2.1) (key hx hy e1 e2) (key hy hx (λi=>(e1 i).symm) λi=>(e2 i).symm);have hd0:y.d≠0:=by have:=hy.2.2.1; omega
 rw [hd] at e1 e2;have ex:x.x=y.x:=rD hx.1 hy.1 λi=>(Yz hd0 (e1 i)).symm
 have ey:x.y=y.y:=rD hx.2.1 hy.2.1 λi=>(Yz hd0 (e2 i)).symm
 cases x; cases y;simp only at hd ex ey;rw [hd,ex,ey]
theorem Qps (l:List Pt):(Tg l).Pairwise λx y=>x.c≠y.c:=by
 have key:∀ (l out:List Pt),out.Pairwise (λx y=>x.c≠y.c)->(l.foldl Bs out).Pairwise λx y=>x.c≠y.c:=by
  intro l
  induction l with
  | nil=>intro out h; exact h
  |
   cons p l ih =>
   intro out h;refine ih _ ?_;unfold Bs
   split
   ·exact h
   ·rename_i hn;refine Jl.2 ⟨h,Kl _ _,λa ha b hb e=>hn ?_⟩;rw [Qk.1 hb] at e;rw [List.any_eq_true];exact ⟨a,ha,by rw [<-e]; simp [Lu]⟩
 exact key l [] .nil
theorem Qj9 (l:List Pt):(Tg l).Sublist l:=by
 have key:∀ (l out o:List Pt),out.Sublist o->(l.foldl Bs out).Sublist (o++l):=by
  intro l
  induction l with
  | nil=>intro out o h; rw [Zw]; exact h
  |
   cons p l ih =>
   intro out o h;have:(Bs out p).Sublist (o++[p]):=by
    unfold Bs
    split
    ·exact h.trans (List.sublist_append_left _ _)
    ·exact h.append (List.Sublist.refl _)
   have:=ih _ _ this;rwa [Za] at this
 exact key l [] [] (List.Sublist.refl _)
theorem Oe (f:Nat->Uk) (rows:List Ul) (q:Rat) (i:Nat):U7 (C9 f rows (i+1)) q=U7 (C9 f rows i) q+(if i % 2=0 then 1 else -1)*(U7 ((rows.getD i []).getD 0 []) q*U7 (f i) q):=by
 simp only [C9]
 split
 ·rename_i h;have:U7 ((rows.getD i []).getD 0 []) q=0:=by rw [Qj h]; rfl
  rw [this]; grind
 ·split
  ·rw [DD,Ge]; grind
  ·rw [Nb,Ge]; grind
theorem aH (z:Int) (q:Rat):U7 [z] q=(z:Rat):=by simp [U7,Rat.add_zero]
theorem fC (p:Uk) (q:Rat):U7 (La 1 [[p]]) q=U7 p q:=by
 show U7 (C9 (λi=>La 0 (YO [[p]] i)) [[p]] (0+1)) q=_;rw [Oe];show (0:Rat)+1*(U7 p q*U7 [1] q)=_;rw [aH];have:((1:Int):Rat)=1:=rfl;grind
theorem DC (p r s t:Uk) (q:Rat):U7 (La 2 [[p,r],[s,t]]) q=U7 p q*U7 t q-U7 s q*U7 r q:=by
 show U7 (C9 (λi=>La 1 (YO [[p,r],[s,t]] i)) [[p,r],[s,t]] (0+1+1)) q=_;rw [Oe,Oe];show (0:Rat)+1*(U7 p q*U7 (La 1 [[t]]) q)+(-1)*(U7 s q*U7 (La 1 [[r]]) q)=_;rw [fC,fC]; grind
theorem Qic (a1 a2 a3 b1 b2 b3 c1 c2 c3:Uk) (q:Rat):U7 (La 3 [[a1,a2,a3],[b1,b2,b3],[c1,c2,c3]]) q=U7 a1 q*(U7 b2 q*U7 c3 q-U7 c2 q*U7 b3 q)-U7 b1 q*(U7 a2 q*U7 c3 q-U7 c2 q*U7 a3 q)+U7 c1 q*(U7 a2 q*U7 b3 q-U7 b2 q*U7 a3 q):=by
 show U7 (C9 (λi=>La 2 (YO [[a1,a2,a3],[b1,b2,b3],[c1,c2,c3]] i)) [[a1,a2,a3],[b1,b2,b3],[c1,c2,c3]] (0+1+1+1)) q=_;rw [Oe,Oe,Oe];show (0:Rat)+1*(U7 a1 q*U7 (La 2 [[b2,b3],[c2,c3]]) q)+(-1)*(U7 b1 q*U7 (La 2 [[a2,a3],[c2,c3]]) q)+1*(U7 c1 q*U7 (La 2 [[a2,a3],[b2,b3]]) q)=_;rw [DC,DC,DC]; grind
theorem bY {a b c:Pt} (ha:Sc a.c) (hb:Sc b.c) (hc:Sc c.c) (q:Rat):Fc (U7 (He a.c b.c c.c) q)=Fc (Nx (px · q) (py · q) a b c):=by
 have Im:∀ {k:Crv},Sc k->(0:Rat)<(k.d:Rat):=λh=>by exact_mod_cast h.n.2.2.1
 have pa:=Im ha;have pb:=Im hb;have pc:=Im hc;have xx:∀ {p:Pt},0<(p.c.d:Rat)->U7 p.c.x q=px p q*(p.c.d:Rat)/\U7 p.c.y q=py p q*(p.c.d:Rat):=λ{p} h=>by
  unfold px py;exact ⟨(Zg (by grind)).symm,(Zg (by grind)).symm⟩
 obtain ⟨xa,ya⟩:=xx pa;obtain ⟨xb,yb⟩:=xx pb;obtain ⟨xc,yc⟩:=xx pc;have e:U7 (He a.c b.c c.c) q=((a.c.d:Rat)*(b.c.d:Rat)*(c.c.d:Rat))*Nx (px · q) (py · q) a b c:=by
  unfold He fH Nx;rw [Qic,aH,aH,aH,xa,xb,xc,ya,yb,yc];grind
 rw [e,Cm (Xp (Xp pa pb) pc)]
def UN (sg:Uk->Int) (a b c:Pt):Bool:=decide (0<Hg sg (He a.c b.c c.c))
def S9 (sg:Uk->Int) (row:List Pt):List Pt:=(Pp (UN sg) [] row).reverse
def Lr (sg:Uk->Int) (row:List Pt):List Pt:=if row.length<3 then row else (S9 sg row).dropLast++(S9 sg row.reverse).dropLast
def Sr (l:List Pt) (a:Tm):List Pt:=Lr (Fp a) (Ts a (Tg l))
def Rm (C:List Pt):List (Pt×Pt):=C.zip (C.drop 1++C.take 1)
def D4 (sg:Uk->Int) (a b c:Pt):Ct:=⟨3,a.id,b.id,c.id,0,He a.c b.c c.c,Hg sg (He a.c b.c c.c)⟩
def VZ (e:Pt×Pt) (c:Pt):Bool:=decide (c.id≠e.1.id) && decide (c.id≠e.2.id)
def E6 (sg:Uk->Int) (l:List Pt) (e:Pt×Pt):List Ct:=(l.filter (VZ e)).map λc=>D4 sg e.1 e.2 c
def Nu (sg:Uk->Int) (l C:List Pt):List Ct:=if C.length<2 then [] else (Rm C).flatMap (E6 sg l)
def TP (l:List Pt) (a:Tm):List Ct:=ZH l a++Nu (Fp a) l (Sr l a)
abbrev brH (l:List Pt) (a:Tm):Uq:=Uy (Sr l a)
def NV (l:List Pt):Ul:=l.flatMap λx=>l.flatMap λy=>l.map λz=>He x.c y.c z.c
theorem vS {l:List Pt} {x y z:Pt} (hx:x∈l) (hy:y∈l) (hz:z∈l):He x.c y.c z.c∈NV l :=
 Zo.2 ⟨x,hx,Zo.2 ⟨y,hy,Q8.2 ⟨z,hz,rfl⟩⟩⟩
theorem Qla {l:List Pt} (hl:∀ p∈l,Sc p.c):∀ p∈NV l,Cp p:=λp hp=>by
 obtain ⟨x,hx,hp⟩:=Zo.1 hp;obtain ⟨y,hy,hp⟩:=Zo.1 hp;obtain ⟨z,hz,rfl⟩:=Q8.1 hp;exact JE (hl x hx) (hl y hy) (hl z hz)
theorem LZ {α:Type} (s:α->α->α->Bool) (c:α):∀ st:List α,(Lc s c st).Sublist st
 | []=>List.Sublist.refl _
 | [_]=>List.Sublist.refl _
 |
  b::a::r=>by
  simp only [Lc]
  split
  ·exact List.Sublist.refl _
  ·exact (LZ s c (a::r)).trans (List.sublist_cons_self _ _)
theorem VO {α:Type} {s:α->α->α->Bool}:∀ {l acc:List α} {x:α},x∈Pp s acc l->x∈acc\/x∈l
 | [],acc,x,h=>.inl h
 |
  c::l,acc,x,h=>by
  rcases VO (l:=l) h with h | h
  ·rcases Qm.1 h with rfl | h
   ·exact .inr (by simp)
   ·exact .inl ((LZ s c acc).subset h)
  ·exact .inr (Qg _ h)
theorem VI {α:Type} (s:α->α->α->Bool):∀ (l acc:List α),(Pp s acc l).length<=acc.length+l.length
 | [],acc=>by simp [Pp]
 |
  c::l,acc=>by
  have h1:=VI s l (c::Lc s c acc);have h2:=(LZ s c acc).length_le;simp only [Pp,Q7] at h1 ⊢;omega
theorem BY {sg:Uk->Int} {row:List Pt} {x:Pt} (h:x∈S9 sg row):x∈row:=by
 unfold S9 at h;rcases VO (Jk.1 h) with h | h
 ·cases h
 ·exact h
theorem QQ (sg:Uk->Int) (row:List Pt):(S9 sg row).length<=row.length:=by
 have:=VI (UN sg) row [];unfold S9; rw [List.length_reverse]; simpa using this
theorem nE {sg:Uk->Int} {row:List Pt} {x:Pt} (h:x∈Lr sg row):x∈row:=by
 unfold Lr at h
 split at h
 ·exact h
 ·rcases Qq.1 h with h | h
  ·exact BY ((List.dropLast_sublist _).subset h)
  ·exact Jk.1 (BY ((List.dropLast_sublist _).subset h))
theorem nL (sg:Uk->Int) (row:List Pt):(Lr sg row).length<=2*row.length:=by
 unfold Lr
 split
 ·omega
 ·have h1:=QQ sg row;have h2:=QQ sg row.reverse;rw [Xn] at h2;rw [Qy,List.length_dropLast,List.length_dropLast]; omega
theorem Iy {l:List Pt} {a:Tm} {x:Pt} (h:x∈Sr l a):x∈l:=Nk (Hm.1 (nE h))
theorem JL (l:List Pt) (a:Tm):(Sr l a).length<=2*l.length:=by
 have h1:=nL (Fp a) (Ts a (Tg l));rw [Nh] at h1;have:=Oz l;unfold Sr; omega
theorem TD {C:List Pt} {e:Pt×Pt} (h:e∈Rm C):e.1∈C/\e.2∈C:=by
 unfold Rm at h;have h1:=List.of_mem_zip (show (e.1,e.2)∈_ from h);refine ⟨h1.1,?_⟩;rcases Qq.1 h1.2 with h | h
 ·exact Q3 h
 ·exact Qo h
theorem pO {sg:Uk->Int} {l C:List Pt} {x:Ct} (h:x∈Nu sg l C):∃ e∈Rm C,∃ c∈l,VZ e c=true/\x=D4 sg e.1 e.2 c:=by
 unfold Nu at h
 split at h
 ·cases h
 ·obtain ⟨e,he,h⟩:=Zo.1 h;obtain ⟨c,hc,rfl⟩:=Q8.1 h;obtain ⟨h1,h2⟩:=Ye.1 hc;exact ⟨e,he,c,h1,h2,rfl⟩
theorem zU {l:List Pt} {a:Tm}:∀ x∈TP l a,x.p∈Ew l++NV l:=λx hx=>by
 rcases Qq.1 hx with hx | hx
 ·exact X8 _ (cM x hx)
 ·obtain ⟨e,he,c,hc,_,rfl⟩:=pO hx;obtain ⟨h1,h2⟩:=TD he;exact Jf _ (vS (Iy h1) (Iy h2) hc)
theorem PH {l:List Pt} (hl:∀ p∈l,Sc p.c):∀ p∈Ew l++NV l,Cp p:=λp hp=>by
 rcases Qq.1 hp with h | h
 ·exact O2 hl p h
 ·exact Qla hl p h
theorem KJ {α β:Type} (f:α->List β) (n:Nat):∀ (m:List α),(∀ x∈m,(f x).length≤n)->(m.flatMap f).length≤m.length*n
 | [],_=>by simp
 |
  x::m,h=>by
  have:=KJ f n m λy hy=>h y (Qg _ hy)
  have:=h x (by simp);rw [Jz,Qy,Q7,Z9]; omega
theorem pI (sg:Uk->Int) (l C:List Pt):(Nu sg l C).length<=C.length*l.length:=by
 unfold Nu
 split
 ·simp
 ·refine Qc (KJ _ l.length _ λe _=>?_) (Qz _ ?_)
  ·unfold E6; rw [List.length_map]; exact List.length_filter_le _ _
  ·unfold Rm; rw [List.length_zip]; exact Nat.min_le_left _ _
theorem tI {l:List Pt} (hl:∀ p∈l,Sc p.c) (hn:l.length≤10):BuildOk (TP l) :=
 ⟨λ_ _ x hx=>PH hl _ (zU x hx),λa _=>by
  have h1:=pI (Fp a) l (Sr l a);have h2:=JL l a;have h3:(Sr l a).length*l.length<=20*10:=Zf (by omega) hn;show (ZH l a++Nu (Fp a) l (Sr l a)).length<=1000;have h4:(ZH l a).length<=l.length:=by unfold ZH; rw [Bn,Nh]; omega
  rw [Qy]; omega⟩
def A2 {α:Type} (l:List α):List (α×α):=l.zip (l.drop 1)
theorem xG {α:Type} {Q:α->α->Prop}:∀ {l:List α},Edg Q l↔∀ e∈A2 l,Q e.1 e.2
 | []=>by simp [Edg,A2]
 | [_]=>by simp [Edg,A2]
 |
  a::b::l=>by
  have ih:=xG (Q:=Q) (l:=b::l);have e:A2 (a::b::l)=(a,b)::A2 (b::l):=rfl;rw [e];constructor
  ·rintro ⟨h1,h2⟩ x hx
   rcases Qm.1 hx with rfl | hx
   ·exact h1
   ·exact ih.1 h2 x hx
  ·intro h;exact ⟨h (a,b) (by simp),ih.2 λx hx=>h x (Qg _ hx)⟩
theorem BF {α:Type} (f z:α) (A:List α):A2 (f::A++[z])=(f::A).zip (A++[z]):=by
 unfold A2;rw [Xa,Wh,Xv];have:f::(A++[z])=(f::A)++[z]:=rfl;rw [this];have h:A++[z]=(A++[z])++[]:=(Zw _).symm
 conv=>lhs; rw [h]
 rw [List.zip_append (by simp)];simp
theorem wM {f z:Pt} {A B:List Pt}:Rm ((f::A++[z]).dropLast++(z::B++[f]).dropLast)=A2 (f::A++[z])++A2 (z::B++[f]):=by
 rw [Vz,Vz,BF,BF,<-List.zip_append (by simp)];unfold Rm;congr 1;simp
theorem Edg.rev {α:Type} {Q:α->α->Prop}:∀ {l:List α},Edg Q l->Edg (λa b=>Q b a) l.reverse:=by
 have app:∀ {Q:α->α->Prop} {l:List α} {b a:α},Edg Q (l++[b])->Q b a->Edg Q (l++[b]++[a]):=by
  intro Q l
  induction l with
  | nil=>intro b a _ h; exact ⟨h,trivial⟩
  |
   cons x l ih =>
   intro b a h h2;cases l with
   | nil=>exact ⟨h.1,ih h.2 h2⟩
   | cons y l=>exact ⟨h.1,ih h.2 h2⟩
 intro l
 induction l with
 | nil=>intro _; trivial
 |
  cons a l ih =>
  intro h;cases l with
  | nil=>trivial
  |
   cons b l =>
   have:=ih h.2;rw [Yk] at this ⊢;rw [Yk];exact app this h.1
theorem Cnv.rev {α:Type} {R:α->α->α->Prop}:∀ {l:List α},Cnv R l->Cnv (λa b c=>R c b a) l.reverse:=by
 have app:∀ {R:α->α->α->Prop} {l:List α} {c b a:α},Cnv R (l++[c,b])->R c b a->Cnv R (l++[c,b,a]):=by
  intro R l
  induction l with
  | nil=>intro c b a _ h; exact ⟨h,trivial⟩
  |
   cons x l ih =>
   intro c b a h h2;cases l with
   | nil=>exact ⟨h.1,ih h.2 h2⟩
   |
    cons y l =>
    cases l with
    | nil=>exact ⟨h.1,ih h.2 h2⟩
    | cons w l=>exact ⟨h.1,ih h.2 h2⟩
 intro l
 induction l with
 | nil=>intro _; trivial
 |
  cons a l ih =>
  intro h
  match l,h with
  | [],_=>trivial
  | [_],_=>trivial
  |
   b::c::l,h =>
   have:=ih h.2;rw [Yk,Yk,Za] at this;rw [Yk,Yk,Yk,Za,Za];exact app this h.1
section
variable {α:Type} {lt lt':α->α->Bool}
theorem LX {out:List α} {x:α} (h:∀ y∈out,lt x y=lt' x y):∀ k,Lp lt out x k=Lp lt' out x k
 | 0=>rfl
 |
  k+1=>by
  simp only [Lp];cases hy:out[k]? with
  | none=>rfl
  | some y=>simp only [h y (Qa hy),LX h k]
theorem TE {l:List α} (h:∀ u∈l,∀ v∈l,lt u v=lt' u v):∀ (m out:List α),(∀ x∈m,x∈l)->(∀ x∈out,x∈l)->m.foldl (Ll lt) out=m.foldl (Ll lt') out
 | [],_,_,_=>rfl
 |
  x::m,out,h1,h2=>by
  have e:Ll lt out x=Ll lt' out x:=by
   unfold Ll; rw [LX λy hy=>h x (h1 x (by simp)) y (h2 y hy)]
  simp only [Z8];rw [e];exact TE h m _ (λy hy=>h1 y (Qg _ hy)) λy hy=>by
   rcases UM.1 hy with rfl | hy
   ·exact h1 _ (by simp)
   ·exact h2 y hy
end
theorem nI {a:Tm} {l:List Pt} {q:Rat} (hb:∀ u∈l,∀ v∈l,(Tn (Fp a) u v=true↔Cv q u v)) (hd:l.Pairwise λx y=>x.id≠y.id):(Ts a l).Pairwise (Cv q) :=
 CW (S:=λx=>x∈l) (D:=λx y=>x.id≠y.id) (YK q) (λu v hu hv h=>(hb u hu v hv).1 h) (λu v hu hv hne h=>uN (λe=>hne e.symm) λh'=>by
  rw [(hb u hu v hv).2 h'] at h; cases h) l [] .nil (λx hx=>by cases hx) (λx hx=>hx) hd (λx hx=>by cases hx)
theorem Qt4 {a:Tm} (ha:Va a) {u v:Pt} (hu:Sc u.c) (hv:Sc v.c) {q:Rat} (h1:Hg (Fp a) (Gh u.c v.c)=Fc (U7 (Gh u.c v.c) q)) (h2:Hg (Fp a) (Gg u.c v.c)=Fc (U7 (Gg u.c v.c) q)) (hne:u.c≠v.c) (h:Cv q u v):lx (px · q) (py · q) u v:=by
 rcases h with h | ⟨h,h3⟩
 ·exact .inl h
 rcases h3 with h3 | ⟨h3,_⟩
 ·exact .inr ⟨h,h3⟩
 ·exfalso;rw [TQ hu hv] at h1;rw [RO hu hv] at h2;have z1:Fc (px v q-px u q)=0:=Gj.2 (by grind);have z2:Fc (py v q-py u q)=0:=Gj.2 (by grind);rw [z1] at h1;rw [z2] at h2;have e1:(Gh u.c v.c).length=0:=Decidable.byContradiction λe=>(Ea ha (M4 hu hv).dp e).2 h1
  have e2:(Gg u.c v.c).length=0:=Decidable.byContradiction λe=>(Ea ha (M3 hu hv).dp e).2 h2
  exact hne (Qoc hu.n hv.n (Qj e1) (Qj e2))
structure LowC (X Y:Pt->Rat) (R L:List Pt):Prop where
 hd:L.head? = R.head?
 la:L.getLast? = R.getLast?
 srt:L.Pairwise (lx X Y)
 mem:∀ p∈L,p∈R
 edg:Edg (λa b=>∀ p∈R,0≤Nx X Y a b p) L
 cnv:Cnv (λa b c=>0<Nx X Y a b c) L
theorem AL {X Y:Pt->Rat} {sg:Uk->Int} {R:List Pt} (hs:∀ a∈R,∀ b∈R,∀ c∈R,(UN sg a b c=true↔0<Nx X Y a b c)) (hR:R.Pairwise (lx X Y)) (h0:R≠[]):LowC X Y R (S9 sg R):=by
 cases R with
 | nil=>exact absurd rfl h0
 |
  cons f R =>
  obtain ⟨t,st,g1,g2,g3,g4⟩:=AE hs hR R [f] f [] rfl ⟨Kl _ _,λp hp=>by rw [Qk.1 hp]; simp,trivial,trivial⟩ rfl rfl;have e:S9 sg (f::R)=(t::st).reverse:=by
   unfold S9;rw [<-g1]; rfl
  rw [e];exact ⟨by rw [List.head?_reverse,g4],by rw [List.getLast?_reverse]; exact g3.symm,Ky.2 g2.srt,λp hp=>g2.mem p (Jk.1 hp),g2.edg.rev,g2.cnv.rev⟩
theorem Quw {X Y:Pt->Rat} {R:List Pt} (hR:R.Pairwise (lx X Y)):∀ p∈R,∀ q∈R,p=q\/lx X Y p q\/lx X Y q p:=λp hp q hq=>by
 by_cases e:p=q
 ·exact .inl e
 ·exact .inr (qV hR hp hq e)
theorem Qhi {X Y:Pt->Rat} {R L L':List Pt} (hR:R.Pairwise (lx X Y)) (h:LowC X Y R L) (h':LowC X Y R L'):L=L':=by
 have hh:=h.hd.trans h'.hd.symm;have hl:=h.la.trans h'.la.symm;cases L with
 |
  nil=>cases L' with
  | nil=>rfl
  | cons _ _=>simp at hh
 |
  cons f M=>cases L' with
  | nil=>simp at hh
  |
   cons f' M' =>
   simp at hh;subst hh;obtain ⟨z,hz⟩:∃ z,(f::M).getLast? = some z:=⟨_,Ym (by simp)⟩;rw [Qfj (Quw hR) M M' f h.srt h'.srt h.mem h'.mem h.edg h'.edg h.cnv h'.cnv hz (hl ▸ hz)]
theorem rU {x y:Rat} (h:Fc x=Fc y):(0<=x->0<=y)/\(0<x->0<y):=by
 have h1:=Fu x;have h2:=Fu y;grind
theorem kN {X Y X' Y':Pt->Rat} {R:List Pt}:∀ {L:List Pt},(∀ p∈L,p∈R)->(∀ e∈A2 L,∀ p∈R,Fc (Nx X Y e.1 e.2 p)=Fc (Nx X' Y' e.1 e.2 p))->Cnv (λa b c=>0<Nx X Y a b c) L->Cnv (λa b c=>0<Nx X' Y' a b c) L
 | [],_,_,_=>trivial
 | [_],_,_,_=>trivial
 | [_,_],_,_,_=>trivial
 | a::b::c::l,hm,he,h=>⟨(rU (he (a,b) (by simp [A2]) c (hm c (by simp)))).2 h.1,kN (λp hp=>hm p (Qg _ hp)) (λe hx=>he e (Qg _ hx)) h.2⟩
theorem uB {X Y X' Y':Pt->Rat} {R L:List Pt} (h:LowC X Y R L) (hl:∀ u∈R,∀ v∈R,lx X Y u v->lx X' Y' u v) (he:∀ e∈A2 L,∀ p∈R,Fc (Nx X Y e.1 e.2 p)=Fc (Nx X' Y' e.1 e.2 p)):LowC X' Y' R L :=
 ⟨h.hd,h.la,h.srt.imp_of_mem λhu hv h'=>hl _ (h.mem _ hu) _ (h.mem _ hv) h',h.mem,xG.2 λe hx p hp=>(rU (he e hx p hp)).1 (xG.1 h.edg e hx p hp),kN h.mem he h.cnv⟩
theorem jB (X Y:Pt->Rat) (a b c:Pt):Nx (λp=>-X p) (λp=>-Y p) a b c=Nx X Y a b c:=by unfold Nx; grind
theorem jW {X Y:Pt->Rat} {a b:Pt}:lx (λp=>-X p) (λp=>-Y p) a b↔lx X Y b a:=by unfold lx; grind
theorem Qri {L:List Pt} {f z:Pt} (h1:L.head? = some f) (h2:L.getLast? = some z) (hne:f≠z):∃ A,L=f::A++[z]:=by
 cases L with
 | nil=>cases h1
 |
  cons g M =>
  simp at h1;subst h1;cases M with
  | nil=>simp at h2; exact absurd h2 hne
  |
   cons x M =>
   rw [Jy] at h2;obtain ⟨A,hA⟩:=Y6.1 h2;exact ⟨A,by rw [hA]; rfl⟩
theorem CY {α β:Type} {f g:α->List β}:∀ {m:List α},(∀ x∈m,f x=g x)->m.flatMap f=m.flatMap g
 | [],_=>rfl
 | x::m,h=>by rw [Jz,Jz,h x (by simp),CY λy hy=>h y (Qg _ hy)]
theorem uU {sa sb:Uk->Int} {l C:List Pt} (h:∀ x∈Nu sa l C,Hg sb x.p=Hg sa x.p):Nu sb l C=Nu sa l C:=by
 by_cases h2:C.length<2
 ·unfold Nu; rw [if_pos h2,if_pos h2]
 ·have e:∀ s,Nu s l C=(Rm C).flatMap (E6 s l):=λs=>if_neg h2
  rw [e] at h ⊢;rw [e];refine CY λx hx=>Xo λc hc=>?_
  have:=h (D4 sa x.1 x.2 c) (Zo.2 ⟨x,hx,Wi hc⟩);show (⟨3,x.1.id,x.2.id,c.id,0,He x.1.c x.2.c c.c,Hg sb (He x.1.c x.2.c c.c)⟩:Ct)=⟨3,x.1.id,x.2.id,c.id,0,He x.1.c x.2.c c.c,Hg sa (He x.1.c x.2.c c.c)⟩;have this:Hg sb (He x.1.c x.2.c c.c)=Hg sa (He x.1.c x.2.c c.c):=this;rw [this]
theorem iU {l:List Pt} (hd:l.Pairwise λx y=>x.id≠y.id) {u v:Pt} (hu:u∈l) (hv:v∈l) (h:u.id=v.id):u=v:=by
 refine Classical.byContradiction λe=>?_
 rcases qV hd hu hv e with h' | h'
 ·exact h' h
 ·exact h' h.symm
structure Soon (l:List Pt) (a:Tm) (q:Rat):Prop where
 g:∀ p∈Ew l++NV l,Hg (Fp a) p=Fc (U7 p q)
 b:∀ u∈l,∀ v∈l,(Tn (Fp a) u v=true↔Cv q u v)
 o:∀ u∈l,∀ v∈l,∀ w∈l,Hg (Fp a) (He u.c v.c w.c)=Fc (Nx (px · q) (py · q) u v w)
 t:∀ u∈l,∀ v∈l,∀ w∈l,(UN (Fp a) u v w=true↔0<Nx (px · q) (py · q) u v w)
 r:(Ts a (Tg l)).Pairwise (lx (px · q) (py · q))
theorem Qjq {l:List Pt} (hl:∀ p∈l,Sc p.c) (hd:l.Pairwise λx y=>x.id≠y.id) {a:Tm} (ha:Va a):∃ y,Fj a y=-1/\∀ q,Fj a q=-1->q≤y->Soon l a q:=by
 obtain ⟨y,y1,y2⟩:=XQ ha (Ew l++NV l) λp hp=>(PH hl p hp).dp
 refine ⟨y,y1,λq q1 q2=>?_⟩;have g:=y2 q q1 q2;have gP:=λp hp=>g p (X8 _ hp)
 have b:∀ u∈l,∀ v∈l,(Tn (Fp a) u v=true↔Cv q u v):=λu hu v hv=>NR ha (hl u hu) (hl v hv) (gP _ (Tx hu hv).1) (gP _ (Tx hu hv).2)
 have o:∀ u∈l,∀ v∈l,∀ w∈l,Hg (Fp a) (He u.c v.c w.c)=Fc (Nx (px · q) (py · q) u v w):=λu hu v hv w hw=>by
  rw [g _ (Jf _ (vS hu hv hw)),bY (hl u hu) (hl v hv) (hl w hw)]
 refine ⟨g,b,o,λu hu v hv w hw=>?_,?_⟩
 ·unfold UN;rw [o u hu v hv w hw,decide_eq_true_eq];have:=Fu (Nx (px · q) (py · q) u v w);grind
 ·have hw:∀ u∈Tg l,u∈l:=λu hu=>Nk hu
  have h1:=nI (a:=a) (l:=Tg l) (q:=q) (λu hu v hv=>b u (hw u hu) v (hw v hv)) (List.Pairwise.sublist (Qj9 l) hd);have h2:(Ts a (Tg l)).Pairwise λx y=>x.c≠y.c:=(List.Perm.pairwise_iff (λ{x y} h e=>h e.symm) (bG (lt:=Tn (Fp a)) (Tg l))).2 (Qps l)
  refine (h1.and h2).imp_of_mem λ{u v} hu hv h=>?_
  have hu:=hw u (Hm.1 hu);have hv:=hw v (Hm.1 hv);exact Qt4 ha (hl u hu) (hl v hv) (gP _ (Tx hu hv).1) (gP _ (Tx hu hv).2) h.2 h.1
theorem iG {l:List Pt} (hl:∀ p∈l,Sc p.c) (hd:l.Pairwise λx y=>x.id≠y.id) {a:Tm} (ha:Va a):∃ q,Soon l a q :=
 let ⟨y,h1,h2⟩:=Qjq hl hd ha
 ⟨y,h2 y h1 Qp⟩
theorem BG {l:List Pt} {a:Tm} {q:Rat} (S:Soon l a q) (h3:3<=(Ts a (Tg l)).length):∃ f z A B,S9 (Fp a) (Ts a (Tg l))=f::A++[z]/\S9 (Fp a) (Ts a (Tg l)).reverse=z::B++[f]/\LowC (px · q) (py · q) (Ts a (Tg l)) (f::A++[z])/\LowC (λp=>-px p q) (λp=>-py p q) (Ts a (Tg l)).reverse (z::B++[f])/\Rm (Sr l a)=A2 (f::A++[z])++A2 (z::B++[f])/\2<=(Sr l a).length:=by
 obtain ⟨R,hR⟩:=nmE (Ts a (Tg l));have hm:∀ x∈R,x∈l:=λx hx=>by rw [hR] at hx; exact Nk (Hm.1 hx)
 have r:=S.r;rw [<-hR] at r h3 ⊢;have h0:R≠[]:=λe=>by rw [e] at h3; simp at h3
 have c1:=AL (sg:=Fp a) (λu hu v hv w hw=>S.t u (hm u hu) v (hm v hv) w (hm w hw)) r h0;have r2:R.reverse.Pairwise (lx (λp=>-px p q) (λp=>-py p q)):=Ky.2 (r.imp λh=>jW.2 h);have c2:=AL (sg:=Fp a) (R:=R.reverse) (X:=λp=>-px p q) (Y:=λp=>-py p q) (λu hu v hv w hw=>by
  rw [jB (px · q) (py · q)];exact S.t u (hm u (Jk.1 hu)) v (hm v (Jk.1 hv)) w (hm w (Jk.1 hw))) r2 (by simpa using h0)
 obtain ⟨f,hf⟩:∃ f,R.head? = some f:=by cases R with
  | nil=>exact absurd rfl h0
  | cons f _=>exact ⟨f,rfl⟩
 obtain ⟨z,hz⟩:∃ z,R.getLast? = some z:=⟨_,Ym h0⟩;have hne:f≠z:=λe=>by
  subst e;cases R with
  | nil=>exact absurd rfl h0
  |
   cons g M =>
   simp at hf; subst hf;cases M with
   | nil=>simp at h3
   |
    cons x M =>
    rw [Jy] at hz;exact Lm _ ((Ze.1 r).1 g (V1 hz))
 obtain ⟨A,hA⟩:=Qri (c1.hd.trans hf) (c1.la.trans hz) hne;obtain ⟨B,hB⟩:=Qri (c2.hd.trans (by rw [List.head?_reverse]; exact hz)) (c2.la.trans (by rw [List.getLast?_reverse]; exact hf)) (Ne.symm hne);have hc:Sr l a=(f::A++[z]).dropLast++(z::B++[f]).dropLast:=by
  unfold Sr Lr;rw [<-hR,if_neg (by omega),hA,hB]
 rw [hA] at c1;rw [hB] at c2;refine ⟨f,z,A,B,hA,hB,c1,c2,by rw [hc]; exact wM,?_⟩;rw [hc,Vz,Vz];simp; omega
theorem Qbd {l:List Pt} (hl:∀ p∈l,Sc p.c) (hd:l.Pairwise λx y=>x.id≠y.id) {a b:Tm} (ha:Va a) (hb:Va b) (h:∀ x∈TP l a,Hg (Fp b) x.p=Hg (Fp a) x.p):Sr l b=Sr l a/\TP l b=TP l a:=by
 obtain ⟨q,Sa⟩:=iG hl hd ha;obtain ⟨r,Sb⟩:=iG hl hd hb;obtain ⟨k1,k2⟩:=rJ hl hd ha hb λx hx=>h x (X8 _ hx)
 have pa:=nI Sa.b hd;have pb:=nI Sb.b hd;rw [k1] at pb;have pab:=pa.and pb;have lexs:∀ u∈l,∀ v∈l,(Cv q u v↔Cv r u v):=λu hu v hv=>by
  by_cases e:u=v
  ·subst e; exact ⟨λh=>absurd h (XG _ _),λh=>absurd h (XG _ _)⟩
  ·rcases qV pab (Hm.2 hu) (Hm.2 hv) e with h' | h'
   ·exact ⟨λ_=>h'.2,λ_=>h'.1⟩
   ·exact ⟨λh=>absurd (YK _ _ _ _ h h'.1) (XG _ _),λh=>absurd (YK _ _ _ _ h h'.2) (XG _ _)⟩
 have bef:∀ u∈l,∀ v∈l,Tn (Fp b) u v=Tn (Fp a) u v:=λu hu v hv=>by
  have h1:=Sa.b u hu v hv;have h2:=Sb.b u hu v hv;have h3:=lexs u hu v hv;cases e1:Tn (Fp a) u v <;> cases e2:Tn (Fp b) u v <;> rw [e1] at h1 <;> rw [e2] at h2 <;> simp_all
 have eR:Ts b (Tg l)=Ts a (Tg l):=TE (l:=Tg l) (λu hu v hv=>bef u (Nk hu) v (Nk hv)) (Tg l) [] (λx hx=>hx) λx hx=>by cases hx
 have hm:∀ x∈Ts a (Tg l),x∈l:=λx hx=>Nk (Hm.1 hx)
 have rb:=Sb.r;rw [eR] at rb;have hc:Sr l b=Sr l a:=by
  by_cases h3:(Ts a (Tg l)).length<3
  ·unfold Sr Lr;rw [eR,if_pos h3,if_pos h3]
  ·obtain ⟨f,z,A,B,hA,hB,c1,c2,hE,hC2⟩:=BG Sa (by omega);obtain ⟨f',z',A',B',hA',hB',c1',c2',hE',_⟩:=BG Sb (by rw [eR]; omega);rw [eR] at hA' hB' c1' c2';have sgs:∀ e∈Rm (Sr l a),∀ p∈Ts a (Tg l),Fc (Nx (px · q) (py · q) e.1 e.2 p)=Fc (Nx (px · r) (py · r) e.1 e.2 p):=λe he p hp=>by
    obtain ⟨m1,m2⟩:=TD he;have m1:=Iy m1;have m2:=Iy m2;have m3:=hm p hp;by_cases ho:VZ e p=true
    ·have hx:D4 (Fp a) e.1 e.2 p∈TP l a:=by
      refine Jf _ ?_;unfold Nu;rw [if_neg (by omega)];exact Zo.2 ⟨e,he,Wi (Ye.2 ⟨m3,ho⟩)⟩
     have hg:Hg (Fp b) (He e.1.c e.2.c p.c)=Hg (Fp a) (He e.1.c e.2.c p.c):=h _ hx;rw [<-Sa.o _ m1 _ m2 _ m3,<-Sb.o _ m1 _ m2 _ m3,hg]
    ·have hz:∀ X Y:Pt->Rat,Nx X Y e.1 e.2 p=0:=λX Y=>by
      by_cases e1:p.id=e.1.id
      ·rw [iU hd m3 m1 e1]; exact (FZ _ _).1
      ·by_cases e2:p.id=e.2.id
       ·rw [iU hd m3 m2 e2]; exact (FZ _ _).2
       ·exact absurd (by simp [VZ,e1,e2]) ho
     rw [hz,hz]
   have hlx:∀ u∈Ts a (Tg l),∀ v∈Ts a (Tg l),lx (px · q) (py · q) u v->lx (px · r) (py · r) u v:=λu hu v hv huv=>by
    have ra:=Sa.r;by_cases e:u=v
    ·subst e; exact absurd huv (Lm _)
    ·rcases qV (ra.and rb) hu hv e with h' | h'
     ·exact h'.2
     ·exact absurd (uL huv h'.1) (Lm _)
   have e1:=Qhi rb (uB c1 hlx λe he=>sgs e (by rw [hE]; exact X8 _ he)) c1';have rb2:(Ts a (Tg l)).reverse.Pairwise (lx (λp=>-px p r) (λp=>-py p r)):=Ky.2 (rb.imp λh=>jW.2 h);have e2:=Qhi rb2 (uB c2 (λu hu v hv huv=>jW.2 (hlx v (Jk.1 hv) u (Jk.1 hu) (jW.1 huv))) λe he p hp=>by
    rw [jB (px · q) (py · q),jB (px · r) (py · r)];exact sgs e (by rw [hE]; exact Jf _ he) p (Jk.1 hp)) c2'
   unfold Sr Lr;rw [eR,if_neg h3,if_neg h3,hA,hB,hA',hB',e1,e2]
 refine ⟨hc,?_⟩;unfold TP;rw [hc,k2,uU λx hx=>h x (Jf _ hx)]
theorem Qx0 {l:List Pt} (hl:∀ p∈l,Sc p.c) (hn:l.length≤10) (hd:l.Pairwise λx y=>x.id≠y.id):Stab (TP l) (brH l):=by
 refine ⟨tI hl hn,⟨Ew l++NV l,PH hl,λa _ x hx=>zU x hx⟩,λa b ha hb h=>?_⟩;obtain ⟨e1,e2⟩:=Qbd hl hd ha hb h;exact ⟨e2,by show Uy _=Uy _; rw [e1]⟩
end Orq
namespace Orq
open Orr Go
theorem KZ {a b c d:Crv} (ha:Sc a) (hb:Sc b) (hc:Sc c) (hd:Sc d):Cp (Hl a b c d):=by
 have lr:∀ {a b:Crv},Sc a->Sc b->(Gh a b).length<=3/\(Gg a b).length<=3:=λ{a b} ha hb=>by
  have:=M8 (Ft b.x a.d) (Ft a.x b.d); have:=Fx b.x a.d; have:=Fx a.x b.d;have:=M8 (Ft b.y a.d) (Ft a.y b.d); have:=Fx b.y a.d; have:=Fx a.y b.d;have:=ha.c.lx; have:=hb.c.lx; have:=ha.c.ly; have:=hb.c.ly;unfold Gh Gg; omega
 have ap:∀ {a b:Crv},Sc a->Sc b->(So a b).length<=5/\Bd 517 (So a b):=λ{a b} ha hb=>by
  obtain ⟨l1,l2⟩:=lr ha hb;have b1:Bd 257 (Gh a b):=De (Gf hb.c.x ha.c.d) (Gf ha.c.x hb.c.d);have b2:Bd 257 (Gg a b):=De (Gf hb.c.y ha.c.d) (Gf ha.c.y hb.c.d);have q1:=Md (u:=2) b1 b1 (by omega);have q2:=Md (u:=2) b2 b2 (by omega);refine ⟨?_,U0 (WR q1 q2) (by omega)⟩;have:=XW (Gk (Gh a b) (Gh a b)) (Gk (Gg a b) (Gg a b));have:=S0 (Gh a b) (Gh a b); have:=S0 (Gg a b) (Gg a b);unfold So; omega
 have dd:∀ {a b:Crv},Sc a->Sc b->Fe ((a.d*b.d)*(a.d*b.d))<=512:=λ{a b} ha hb=>by
  have:=Ga a.d b.d; have:=Ga (a.d*b.d) (a.d*b.d); have:=ha.c.d; have:=hb.c.d; omega
 obtain ⟨l1,b1⟩:=ap hc hd;obtain ⟨l2,b2⟩:=ap ha hb;refine ⟨Fv _ _,?_,U0 (De (Gf b1 (dd ha hb)) (Gf b2 (dd hc hd))) (by omega)⟩;have:=M8 (Ft (So c d) ((a.d*b.d)*(a.d*b.d))) (Ft (So a b) ((c.d*d.d)*(c.d*d.d)));have:=Fx (So c d) ((a.d*b.d)*(a.d*b.d)); have:=Fx (So a b) ((c.d*d.d)*(c.d*d.d));unfold Hl; omega
def tG (m:Pt×Pt) (q:Rat):Rat:=(px m.2 q-px m.1 q)*(px m.2 q-px m.1 q)+(py m.2 q-py m.1 q)*(py m.2 q-py m.1 q)
theorem Qnk {a b c d:Pt} (ha:Sc a.c) (hb:Sc b.c) (hc:Sc c.c) (hd:Sc d.c) (q:Rat):Fc (U7 (Hl a.c b.c c.c d.c) q)=Fc (tG (c,d) q-tG (a,b) q):=by
 have Im:∀ {z:Int},0<z->(0:Rat)<(z:Rat):=λ{z} h=>by exact_mod_cast h
 have pa:=Im ha.n.2.2.1;have pb:=Im hb.n.2.2.1;have pc:=Im hc.n.2.2.1;have pd:=Im hd.n.2.2.1;have xx:∀ {p:Pt},0<(p.c.d:Rat)->U7 p.c.x q=px p q*(p.c.d:Rat)/\U7 p.c.y q=py p q*(p.c.d:Rat):=λ{p} h=>by
  unfold px py;exact ⟨(Zg (by grind)).symm,(Zg (by grind)).symm⟩
 obtain ⟨xa,ya⟩:=xx pa;obtain ⟨xb,yb⟩:=xx pb;obtain ⟨xc,yc⟩:=xx pc;obtain ⟨xd,yd⟩:=xx pd;have e:U7 (Hl a.c b.c c.c d.c) q=(((a.c.d:Rat)*b.c.d)*((a.c.d:Rat)*b.c.d))*(((c.c.d:Rat)*d.c.d)*((c.c.d:Rat)*d.c.d))*(tG (c,d) q-tG (a,b) q):=by
  unfold Hl So Gh Gg tG;simp only [Nb,Rj,DD,Ge,Xx];rw [xa,xb,xc,xd,ya,yb,yc,yd];grind
 rw [e,Cm];have h1:=Xp pa pb;have h2:=Xp pc pd;exact Xp (Xp h1 h1) (Xp h2 h2)
def ES (l:List Pt):Ul:=l.flatMap λa=>l.flatMap λb=>l.flatMap λc=>l.map λd=>Hl a.c b.c c.c d.c
theorem NY {l:List Pt} {a b c d:Pt} (ha:a∈l) (hb:b∈l) (hc:c∈l) (hd:d∈l):Hl a.c b.c c.c d.c∈ES l :=
 Zo.2 ⟨a,ha,Zo.2 ⟨b,hb,Zo.2 ⟨c,hc,Q8.2 ⟨d,hd,rfl⟩⟩⟩⟩
theorem WG {l:List Pt} (hl:∀ p∈l,Sc p.c):∀ p∈ES l,Cp p:=λp hp=>by
 obtain ⟨a,ha,hp⟩:=Zo.1 hp;obtain ⟨b,hb,hp⟩:=Zo.1 hp;obtain ⟨c,hc,hp⟩:=Zo.1 hp;obtain ⟨d,hd,rfl⟩:=Q8.1 hp;exact KZ (hl a ha) (hl b hb) (hl c hc) (hl d hd)
theorem lH {l:List Pt} (hl:∀ p∈l,Sc p.c) {a:Tm} (ha:Va a):∃ y,Fj a y=-1/\∀ q,Fj a q=-1->q≤y->∀ s m:Pt×Pt,s.1∈l->s.2∈l->m.1∈l->m.2∈l->Hg (Fp a) (Hl s.1.c s.2.c m.1.c m.2.c)=Fc (tG m q-tG s q):=by
 obtain ⟨y,y1,y2⟩:=XQ ha (ES l) λp hp=>(WG hl p hp).dp
 refine ⟨y,y1,λq q1 q2 s m h1 h2 h3 h4=>?_⟩;rw [y2 q q1 q2 _ (NY h1 h2 h3 h4),Qnk (hl _ h1) (hl _ h2) (hl _ h3) (hl _ h4)]
def Du (f:Pt×Pt->Rat) (P:List (Pt×Pt)) (r:Pt×Pt):Prop:=∃ P1 P2,P=P1++r::P2/\(∀ m∈P1,f r<f m)/\∀ m∈P2,f r≤f m
theorem IM {f:Pt×Pt->Rat}:∀ {P:List (Pt×Pt)} {r r':Pt×Pt},Du f P r->Du f P r'->r=r'
 | [],r,r',⟨P1,P2,h,_⟩,_=>by simp at h
 |
  x::P,r,r',⟨P1,P2,h,h1,h2⟩,⟨Q1,Q2,h',h1',h2'⟩=>by
  cases P1 with
  |
   nil =>
   simp at h;cases Q1 with
   | nil=>simp at h'; exact h.1.symm.trans h'.1
   |
    cons y Q1 =>
    simp at h';exfalso;obtain ⟨rfl,rfl⟩:=h;obtain ⟨rfl,rfl⟩:=h';have a1:=h1' x (by simp);have a2:=h2 r' (by simp);grind
  |
   cons y P1 =>
   simp at h;cases Q1 with
   |
    nil =>
    simp at h';exfalso;obtain ⟨rfl,rfl⟩:=h;obtain ⟨rfl,rfl⟩:=h';have a1:=h1 x (by simp);have a2:=h2' r (by simp);grind
   |
    cons z Q1 =>
    simp at h h';exact IM (P:=P) ⟨P1,P2,h.2,λm hm=>h1 m (by simp [hm]),h2⟩ ⟨Q1,Q2,h'.2,λm hm=>h1' m (by simp [hm]),h2'⟩
theorem Qnl {f:Pt×Pt->Rat} {P:List (Pt×Pt)} {r m:Pt×Pt} (h:Du f P r):Du f (P++[m]) (if f m<f r then m else r):=by
 obtain ⟨P1,P2,rfl,h1,h2⟩:=h;by_cases e:f m<f r
 ·rw [if_pos e];refine ⟨P1++r::P2,[],rfl,λx hx=>?_,λx hx=>by cases hx⟩;rcases Qq.1 hx with hx | hx
  ·have:=h1 x hx; grind
  ·rcases Qm.1 hx with rfl | hx
   ·exact e
   ·have:=h2 x hx; grind
 ·rw [if_neg e];refine ⟨P1,P2++[m],by simp,h1,λx hx=>?_⟩;rcases Qq.1 hx with hx | hx
  ·exact h2 x hx
  ·rw [Qk.1 hx]; grind
theorem lS {f:Pt×Pt->Rat} {sg:Uk->Int} {l:List Pt} (hg:∀ s m:Pt×Pt,s.1∈l->s.2∈l->m.1∈l->m.2∈l->Hg sg (Hl s.1.c s.2.c m.1.c m.2.c)=Fc (f m-f s)):∀ (ps P:List (Pt×Pt)) (s:Pt×Pt),s.1∈l/\s.2∈l->(∀ m∈ps,m.1∈l/\m.2∈l)->Du f P s->Du f (P++ps) (Hj sg s ps)
 | [],P,s,_,_,h=>by rw [Zw]; exact h
 |
  m::ps,P,s,hs,hp,h=>by
  rw [QS];have hm:=hp m (by simp);have e:Pq sg s m=if f m<f s then m else s:=by
   unfold Pq;rw [hg s m hs.1 hs.2 hm.1 hm.2];have:=Fu (f m-f s);by_cases h:f m<f s
   ·rw [if_pos h,if_pos (by grind)]
   ·rw [if_neg h,if_neg (by grind)]
  have hn:(Pq sg s m).1∈l/\(Pq sg s m).2∈l:=by
   rcases RV sg s m with e | e <;> rw [e] <;> assumption
  have:=lS hg ps (P++[m]) (Pq sg s m) hn (λx hx=>hp x (Qg _ hx)) (by rw [e]; exact Qnl h);rwa [Za] at this
theorem mI (a b:Pt) (l:List Pt):∃ P,Gm (a::b::l)=(a,b)::P:=⟨_,rfl⟩
theorem aX {f:Pt×Pt->Rat} {sg:Uk->Int} {a b:Pt} {l:List Pt} (hg:∀ s m:Pt×Pt,s.1∈a::b::l->s.2∈a::b::l->m.1∈a::b::l->m.2∈a::b::l->Hg sg (Hl s.1.c s.2.c m.1.c m.2.c)=Fc (f m-f s)):Du f (Gm (a::b::l)) (Hj sg (a,b) (Gm (a::b::l))):=by
 obtain ⟨P,hP⟩:=mI a b l;have hm:=Sl (a::b::l).length (a::b::l);have hm:∀ m∈Gm (a::b::l),m.1∈a::b::l/\m.2∈a::b::l:=hm;rw [hP] at hm ⊢;have h:=lS hg P [(a,b)] (a,b) (hm (a,b) (by simp)) (λm h=>hm m (by simp [h])) ⟨[],[],rfl,λm h=>(by cases h),λm h=>(by cases h)⟩;rw [QS];have e:Pq sg (a,b) (a,b)=(a,b):=by rcases RV sg (a,b) (a,b) with e | e <;> exact e
 rw [e]; exact h
theorem iF {l:List Pt} (hd:l.Pairwise λx y=>x.id≠y.id) {u v:Pt} (hu:u∈l) (hv:v∈l) (h:u.id=v.id):u=v:=by
 by_cases e:u=v
 ·exact e
 ·rcases qV hd hu hv e with h' | h'
  ·exact absurd h h'
  ·exact absurd h.symm h'
theorem Qby {l:List Pt} (hl:∀ p∈l,Sc p.c) (hd:l.Pairwise λx y=>x.id≠y.id) {a b:Tm} (ha:Va a) (hb:Va b) (h:∀ x∈D8 (Fp a) l,Hg (Fp b) x.p=Hg (Fp a) x.p):ZZ (Fp b) l=ZZ (Fp a) l/\D8 (Fp b) l=D8 (Fp a) l:=by
 match l,hl,hd,h with
 | [],_,_,_=>exact ⟨rfl,rfl⟩
 | [x],_,_,_=>exact ⟨rfl,rfl⟩
 |
  u::v::l',hl,hd,h =>
  obtain ⟨y,y1,y2⟩:=lH hl ha;obtain ⟨z,z1,z2⟩:=lH hl hb;have ga:=y2 y y1 Qp;have gb:=z2 z z1 Qp;have fa:=aX (f:=λm=>tG m y) ga;have fb:=aX (f:=λm=>tG m z) gb;simp only [ZZ,D8] at h ⊢;have hm:∀ m∈Gm (u::v::l'),m.1∈u::v::l'/\m.2∈u::v::l':=Sl _ _;generalize u::v::l'=l at *;obtain ⟨r,hr⟩:=nmE (Hj (Fp a) (u,v) (Gm l));rw [<-hr] at fa h ⊢;obtain ⟨P1,P2,hP,h1,h2⟩:=fa;have hrm:r∈Gm l:=by rw [hP]; simp
  have hrl:=hm r hrm;have key:∀ m∈Gm l,m=r\/Hg (Fp b) (Hl r.1.c r.2.c m.1.c m.2.c)=Hg (Fp a) (Hl r.1.c r.2.c m.1.c m.2.c):=λm hmm=>by
   have hml:=hm m hmm;by_cases e:ZQ r m=true
   ·right;have h0:=h (Nv (Fp a) r.1 r.2 m.1 m.2) (by unfold Mp; exact List.mem_map.2 ⟨m,List.mem_filter.2 ⟨hmm,e⟩,rfl⟩);rw [DY] at h0; exact h0
   ·left;unfold ZQ at e;simp at e;have e1:=iF hd hml.1 hrl.1 e.1;have e2:=iF hd hml.2 hrl.2 e.2;exact Prod.ext e1 e2
  have fb':Du (λm=>tG m z) (Gm l) r:=by
   refine ⟨P1,P2,hP,λm hmm=>?_,λm hmm=>?_⟩
   ·have hmp:m∈Gm l:=by rw [hP]; simp [hmm]
    have hlt:=h1 m hmm;have hml:=hm m hmp;rcases key m hmp with e | e
    ·exfalso; rw [e] at hlt; dsimp only at hlt; grind
    ·rw [ga r m hrl.1 hrl.2 hml.1 hml.2,gb r m hrl.1 hrl.2 hml.1 hml.2] at e;dsimp only at hlt ⊢;rw [Hu.2 (by grind:0<tG m y-tG r y)] at e;have:=Hu.1 e; grind
   ·have hmp:m∈Gm l:=by rw [hP]; simp [hmm]
    have hlt:=h2 m hmm;have hml:=hm m hmp;rcases key m hmp with e | e
    ·rw [e]; exact Qp
    ·rw [ga r m hrl.1 hrl.2 hml.1 hml.2,gb r m hrl.1 hrl.2 hml.1 hml.2] at e;dsimp only at hlt ⊢;have t1:=Fu (tG m y-tG r y);have t2:=Fu (tG m z-tG r z);grind
  have er:=IM fb fb';rw [er];refine ⟨rfl,?_⟩;unfold Mp;refine Xo λm hmm=>?_
  have hmp:=(Ye.1 hmm).1;rcases key m hmp with e | e
  ·exfalso;have:=(Ye.1 hmm).2;rw [e] at this; unfold ZQ at this; simp at this
  ·unfold Nv; rw [e]
theorem Qx1 {l:List Pt} (hl:∀ p∈l,Sc p.c) (hn:l.length≤10) (hd:l.Pairwise λx y=>x.id≠y.id):Stab (λa=>D8 (Fp a) l) (λa=>Uy (ZZ (Fp a) l)):=by
 have hcp:∀ a,∀ x∈D8 (Fp a) l,x.p∈ES l:=λa x hx=>by
  match l,hx with
  |
   u::v::l',hx =>
   simp only [D8] at hx;obtain ⟨h3,h4⟩:=D6 (Fp a) (l:=u::v::l') (Gm (u::v::l')) (u,v) ⟨by simp,by simp⟩ (Sl _ _);obtain ⟨m,hm,rfl⟩:=IQ hx;obtain ⟨h1,h2⟩:=Sl _ _ m hm;rw [DY];exact NY h3 h4 h1 h2
 refine ⟨⟨λa _ x hx=>WG hl _ (hcp a x hx),λa _=>?_⟩,⟨ES l,WG hl,λa _=>hcp a⟩,λa b ha hb h=>?_⟩
 ·have:=OA (Fp a) l;have:l.length*l.length<=10*10:=Zf hn hn;show (D8 (Fp a) l).length<=1000;omega
 ·obtain ⟨h1,h2⟩:=Qby hl hd ha hb h;exact ⟨h2,by show Uy _=Uy _; rw [h1]⟩
end Orq
namespace Orr
open Go Go.Proofs Tryz Orq
set_option maxRecDepth 10000
def XS:Nat->Up->Up
 | _,[]=>[]
 | 0,x::l=>UE x::l
 | k+1,x::l=>x::XS k l
theorem OC:∀ (k:Nat) (l:Up),(XS k l).length=l.length
 | _,[]=>by cases ‹Nat› <;> rfl
 | 0,x::l=>rfl
 | k+1,x::l=>by simp only [XS,Q7,OC k l]
theorem ON:∀ (k:Nat) (l:Up) {j:Nat} {y:LV},(XS k l)[j]? = some y->∃ x,l[j]? = some x/\(y=x\/y=UE x)
 | 0,[],_,_,h=>by simp [XS] at h
 | _+1,[],_,_,h=>by simp [XS] at h
 | 0,x::l,0,y,h=>by simp [XS] at h; exact ⟨x,rfl,.inr h.symm⟩
 | 0,x::l,j+1,y,h=>by simp [XS] at h; exact ⟨y,by simpa using h,.inl rfl⟩
 | k+1,x::l,0,y,h=>by simp [XS] at h; exact ⟨x,rfl,.inl h.symm⟩
 |
  k+1,x::l,j+1,y,h=>by
  simp only [XS,Ji] at h;obtain ⟨z,h1,h2⟩:=ON k l h;exact ⟨z,by simpa using h1,h2⟩
theorem nlc {P:Program} [Mo P] {n:Nat} {Q:Exit->Sg->Ur->Prop} {L:Sg} {B B':Ur} (i d:Nat) {T:TypeId} {xs:Up} {it:List It} (hs:Rf it=true) (hb:Au B i=some (.blk T xs)) (hB:An B i (.blk T (XS d xs))=some B') (k:AK P n Q it L B'):AK P n Q it L B:=by
 obtain ⟨rfl,hl⟩:=No hB;have hbi:B[i]? = some (.blk T xs):=Sw ▸ hb;refine AK.sub (λF E M a w h=>⟨E,M,?_,h.size,h.defers,h.slots⟩) hs k;rw [KH,XN hbi];refine h.hs.re (λj=>?_) (λj=>?_) (λj=>?_) λj hj=>?_
 ·by_cases e:j=i
  ·subst e;rw [Fi];obtain ⟨g,c,m,h1,cs,h2,h3⟩:=h.blk hb;refine ⟨g,c,m,h1,cs,h2,F2.of (by rw [OC]; exact h3.len) λk v x hv hx=>?_⟩;obtain ⟨y,hy,hyx⟩:=ON _ _ hx;rcases hyx with rfl | rfl
   ·exact h3.get' hv hy
   ·exact aV (h3.get' hv hy)
  ·rw [Fz _ _ e]; exact h.hs.blk j
 ·by_cases e:j=i
  ·subst e; rw [Fi,Rq hbi]; rfl
  ·rw [Fz _ _ e]
 ·by_cases e:j=i
  ·subst e; rw [Fi,Rq hbi]; rfl
  ·rw [Fz _ _ e]
 ·by_cases e:j=i
  ·subst e; rw [Rq hbi] at hj; cases hj
  ·rw [Fz _ _ e]; exact hj
theorem UY {l m:Uq} (h:l=m):TV.one (LV.row l)=.one (.row m):=h ▸ rfl
theorem kV {a b:Crv} (ha:JH a) (hb:JH b) (ca:Cb a) (cb:Cb b):Uh 244 [.agg (cl a),.agg (cl b)] [pr (So a b)]:=by
 obtain ⟨p1,l1,b1⟩:=fB ca cb;obtain ⟨p2,l2,b2⟩:=fM ca cb;have m1:=S0 (Gh a b) (Gh a b);have m2:=S0 (Gg a b) (Gg a b);have q1:=Md (u:=5) b1 b1 (by omega);have q2:=Md (u:=5) b2 b2 (by omega);exact Ue func244 rfl [.k (WN ha hb ca cb),.k (WS ha hb ca cb),.k (GE p1.t p1.t (by omega) (by omega) b1 b1 (by omega)),.k (GE p2.t p2.t (by omega) (by omega) b2 b2 (by omega)),.k (zM (by omega) (by omega) (U0 q1 (by omega)) (U0 q2 (by omega)))] rfl
theorem oO {a b c d:Crv} (ha:JH a) (hb:JH b) (hc:JH c) (hd:JH d) (ca:Cb a) (cb:Cb b) (cc:Cb c) (cd:Cb d):Uh 176 [.agg (cl a),.agg (cl b),.agg (cl c),.agg (cl d)] [pr (Hl a b c d)]:=by
 have na:=Di ha (ca.mono (by omega) (by omega));have nb:=Di hb (cb.mono (by omega) (by omega));have nc:=Di hc (cc.mono (by omega) (by omega));have nd:=Di hd (cd.mono (by omega) (by omega));have s1:=mX ca cb;have s2:=mX cc cd;have s3:=lE ca cb;have s4:=lE cc cd;have da:=ca.d;have db:=cb.d;have dc:=cc.d;have dd:=cd.d;obtain ⟨t1,l1,b1⟩:=fN cc cd;obtain ⟨t2,l2,b2⟩:=fN ca cb;have k1:=Fx (So c d) ((a.d*b.d)*(a.d*b.d));have k2:=Fx (So a b) ((c.d*d.d)*(c.d*d.d));have w1:=Nq (U3 a.d) (U3 b.d) (by omega) (by omega);have w2:=Nq (U3 c.d) (U3 d.d) (by omega) (by omega);have w3:=Nq (U3 (a.d*b.d)) (U3 (a.d*b.d)) (by omega) (by omega);have w4:=Nq (U3 (c.d*d.d)) (U3 (c.d*d.d)) (by omega) (by omega);have p1:=Mz (p:=So c d) (c:=(a.d*b.d)*(a.d*b.d)) (by omega) (U0 b1 (by omega)) (by omega);have p2:=Mz (p:=So a b) (c:=(c.d*d.d)*(c.d*d.d)) (by omega) (U0 b2 (by omega)) (by omega);have p3:=GA (p:=Ft (So c d) ((a.d*b.d)*(a.d*b.d))) (q:=Ft (So a b) ((c.d*d.d)*(c.d*d.d))) (by omega) (by omega) (U0 (Gf b1 s3) (by omega)) (U0 (Gf b2 s4) (by omega));exact Ue func176 rfl [.k na,.k nb,.k w1,.k nc,.k nd,.k w2,.k (kV hc hd cc cd),.k w3,.k p1,.k (kV ha hb ca cb),.k w4,.k p2,.k p3] rfl
theorem NP {a b c d:Pt} (ha:Sc a.c) (hb:Sc b.c) (hc:Sc c.c) (hd:Sc d.c):Uh 176 [.agg (cl a.c),.agg (cl b.c),.agg (cl c.c),.agg (cl d.c)] [pr (Hl a.c b.c c.c d.c)]:=oO ha.n hb.n hc.n hd.n ha.cb hb.cb hc.cb hd.cb
set_option maxHeartbeats 1000000 in
theorem Qlz {a b c d:Pt} {t:Tm} (ha:Sc a.c) (hb:Sc b.c) (hc:Sc c.c) (hd:Sc d.c) (ht:Va t):Uh 255 [.oi 5,.agg (ta t),.one (.row [Fa a,Fa b,Fa c,Fa d])] [.agg (Db (Nv (Fp t) a b c d)),.oi 0]:=by
 have hp:=(KZ ha hb hc hd).dp;have e:Db (Nv (Fp t) a b c d)=[.int .i64 5,.int .i64 a.id,.int .i64 b.id,.int .i64 c.id,.int .i64 d.id,pl (Hl a.c b.c c.c d.c),.int .i64 (Hg (Fp t) (Hl a.c b.c c.c d.c))]:=by rw [Nv]
 rw [e];have cg:=TN hp ht;have cf:=NP ha hb hc hd;generalize Hl a.c b.c c.c d.c=F at *;refine Fw func255 rfl ?_;refine Ub [.k Qap,.f rfl] rfl ?_;refine Ug (S:=Nat) 3 (λL1 i=>(22,.v (.oi i))::L1) (λi=>[.blk 105 (ta t),.blk 99 zCt,.blk 99 [.int .i64 5,.int .i64 (if 1<=i then a.id else 0),.int .i64 (if 2<=i then b.id else 0),.int .i64 (if 3<=i then c.id else 0),.int .i64 (if 4<=i then d.id else 0),.nils,.int .i64 0]]) (λi=>4-i) (λi=>i<=4) 0 (Qh _) rfl rfl λi hi=>?_
 rcases (show i=0\/i=1\/i=2\/i=3\/i=4 by omega) with rfl | rfl | rfl | rfl | rfl
 ·refine Ub [.t rfl,.x (i:=0) (xs:=Fa a) rfl,.i 0] rfl ?_ (by simp [Uz]);exact rd 1 (by omega) (by omega) rfl
 ·refine Ub [.t rfl,.x (i:=1) (xs:=Fa b) rfl,.i 1] rfl ?_ (by simp [Uz]);exact rd 2 (by omega) (by omega) rfl
 ·refine Ub [.t rfl,.x (i:=2) (xs:=Fa c) rfl,.i 2] rfl ?_ (by simp [Uz]);exact rd 3 (by omega) (by omega) rfl
 ·refine Ub [.t rfl,.x (i:=3) (xs:=Fa d) rfl,.i 3] rfl ?_ (by simp [Uz]);exact rd 4 (by omega) (by omega) rfl
 ·exact Ud [.f rfl,.f rfl,.f rfl,.f rfl,.f rfl,.x (i:=0) (xs:=Fa a) rfl,.x (i:=1) (xs:=Fa b) rfl,.x (i:=2) (xs:=Fa c) rfl,.x (i:=3) (xs:=Fa d) rfl,.k cf,.k cg] rfl
theorem Qsw {s m:Pt×Pt} {t:Tm} (h1:Sc s.1.c) (h2:Sc s.2.c) (h3:Sc m.1.c) (h4:Sc m.2.c) (ht:Va t):U5 prog 259 [.agg (Fa m.1),.agg (Fa m.2),.one (.ow 0 0),.one (.ow 1 0),.one (.ow 2 0)] [.blk 40 (Fa s.1),.blk 40 (Fa s.2),.blk 105 (ta t)] [] [.blk 40 (Fa (Pq (Fp t) s m).1),.blk 40 (Fa (Pq (Fp t) s m).2),.blk 105 (ta t)]:=by
 have cf:=NP h1 h2 h3 h4;have cg:=TN (KZ h1 h2 h3 h4).dp ht;unfold Pq;refine Fw func259 rfl ?_;by_cases h:Hg (Fp t) (Hl s.1.c s.2.c m.1.c m.2.c)<0
 ·rw [if_pos h];exact Uf [] [0,1,2] [.k cf,.k cg,.t (decide_eq_true h)] rfl
 ·rw [if_neg h];exact Uf [] [0,1,2] [.k cf,.k cg,.f (decide_eq_false h)] rfl
theorem Qsr {s m:Pt×Pt} {t:Tm} {L:List Ct} (h1:Sc s.1.c) (h2:Sc s.2.c) (h3:Sc m.1.c) (h4:Sc m.2.c) (ht:Va t) (hL:L.length<=1000000):U5 prog 260 [.agg (Fa m.1),.agg (Fa m.2),.one (.ow 0 0),.one (.ow 1 0),.one (.ow 2 0),.one (.ow 3 0)] [.blk 40 (Fa s.1),.blk 40 (Fa s.2),.blk 105 (ta t),.blk 66 [.orow 4 7 none],.row false 99 7 (U6 L)] [] [.blk 40 (Fa s.1),.blk 40 (Fa s.2),.blk 105 (ta t),.blk 66 [.orow 4 7 none],.row false 99 7 (U6 (if ZQ s m=true then L++[Nv (Fp t) s.1 s.2 m.1 m.2] else L))]:=by
 have cm:=Qlz h1 h2 h3 h4 ht;have hq:∀ y∈[Db (Nv (Fp t) s.1 s.2 m.1 m.2)],y.length=7:=λy hy=>by rw [Qk.1 hy]; rfl
 have hcl:=Pa L;have hsn:U6 (L++[Nv (Fp t) s.1 s.2 m.1 m.2])=U6 L++[Db (Nv (Fp t) s.1 s.2 m.1 m.2)]:=by simp [U6]
 refine Fw func260 rfl ?_;by_cases e1:m.1.id=s.1.id
 ·by_cases e2:m.2.id=s.2.id
  ·rw [if_neg (by simp [ZQ,e1,e2])];exact Uf [] [0,1,2,3,4] [.g 15 false (by simp [e1]),.f (by simp [e2])] rfl
  ·rw [if_pos (by simp [ZQ,e2]),hsn];exact Uf [] [0,1,2,3,4] [.g 15 false (by simp [e1]),.t (by simp [e2]),.k cm,.s (sz:=7) hq] rfl (by simp [Uz,hcl]; omega)
 ·rw [if_pos (by simp [ZQ,e1]),hsn];exact Uf [] [0,1,2,3,4] [.g 15 true (by simp [e1]),.t rfl,.k cm,.s (sz:=7) hq] rfl (by simp [Uz,hcl]; omega)
theorem SG (M:List Pt):Hz 0 M=[]:=by cases M <;> rfl
def yZ (M:List Pt) (x:Pt) (i j:Nat):List (Pt×Pt):=Hz i M++((M.drop (i+1)).take j).map (λy=>(x,y))
theorem gK (M:List Pt) (x:Pt) (i:Nat):yZ M x i 0=Hz i M:=by rw [yZ,Vv,X7,Zw]
theorem gV {M:List Pt} {i j:Nat} {x y:Pt} (hy:(M.drop (i+1))[j]? = some y):yZ M x i (j+1)=yZ M x i j++[(x,y)]:=by
 unfold yZ;rw [Zv,hy,Option.toList_some,Yd,Za]; rfl
theorem aD {M:List Pt} {i j:Nat} {x:Pt} (hx:M[i]? = some x) (hj:(M.drop (i+1)).length<=j):yZ M x i j=Hz (i+1) M:=by
 unfold yZ;rw [Qn hj,D9 M i x hx]
theorem Qon {M:List Pt} {i j:Nat} {x:Pt} (hx:M[i]? = some x):∀ m∈yZ M x i j,m.1∈M/\m.2∈M:=λm hm=>by
 rcases Qq.1 hm with h | h
 ·exact Sl _ _ m h
 ·obtain ⟨y,hy,rfl⟩:=Q8.1 h;exact ⟨Qa hx,Q3 (Qo hy)⟩
theorem Qey {l:List Pt} {t:Tm} {s0:Pt×Pt} (hl:∀ p∈l,Sc p.c) (hs:s0.1∈l/\s0.2∈l) (hn:l.length≤1000) (ht:Va t):U5 prog 258 [.one (pts l),.one (.ofn 259 [] [.ow 0 0,.ow 1 0,.ow 2 0])] [.blk 40 (Fa s0.1),.blk 40 (Fa s0.2),.blk 105 (ta t)] [] [.blk 40 (Fa (Hj (Fp t) s0 (Gm l)).1),.blk 40 (Fa (Hj (Fp t) s0 (Gm l)).2),.blk 105 (ta t)]:=by
 have hcl:=G0 l;have hsc:∀ ps:List (Pt×Pt),(∀ m∈ps,m.1∈l/\m.2∈l)->Sc (Hj (Fp t) s0 ps).1.c/\Sc (Hj (Fp t) s0 ps).2.c:=λps h=>by
  obtain ⟨h1,h2⟩:=D6 (Fp t) ps s0 hs h;exact ⟨hl _ h1,hl _ h2⟩
 show U5 prog 258 [.one (.row (Uy l)),.one (.ofn 259 [] [.ow 0 0,.ow 1 0,.ow 2 0])] _ _ _;refine Fw func258 rfl ?_;refine Ub [] rfl ?_;refine lp (S:=Nat) 3 (λL1 i=>(10,.v (.oi i))::L1) (λi=>[.blk 40 (Fa (Hj (Fp t) s0 (Hz i l)).1),.blk 40 (Fa (Hj (Fp t) s0 (Hz i l)).2),.blk 105 (ta t)]) (λi=>l.length-i) (λi=>i<=l.length) 0 (Qh _) rfl (λ_ _=>rfl) (by rw [SG]; rfl) λi hi=>?_
 by_cases hlt:i<l.length
 ·obtain ⟨x,hx⟩:=gxE (l:=l) (i:=i) hlt;have ed1:(Uy l).drop (i+1)=Uy (l.drop (i+1)):=by simp [Uy,Vh]
  have hdl:=G0 (l.drop (i+1));have hdl2:(l.drop (i+1)).length<=1000:=by rw [Zj]; omega
  rw [<-gK l x i];refine go tt [.t (by simp [hcl]; omega),.x (Sp hx),.r 17 (eI (b:=((i+1:Nat):Int)) (by simp)),.i (i+1),.r 18 (UY ed1)] rfl (by simp [Uz,G0,eq_true (p:=∀ z,z∈Uy l->z.length=ti40.sz) (YR l)]; omega) ?_;refine Ug (S:=Nat) 4 (λL1 j=>(20,.v (.oi j))::L1) (λj=>[.blk 40 (Fa (Hj (Fp t) s0 (yZ l x i j)).1),.blk 40 (Fa (Hj (Fp t) s0 (yZ l x i j)).2),.blk 105 (ta t),.blk 40 (Fa x)]) (λj=>(l.drop (i+1)).length-j) (λj=>j<=(l.drop (i+1)).length) 0 (Qh _) rfl rfl λj hj=>?_
  by_cases hltj:j<(l.drop (i+1)).length
  ·obtain ⟨y,hy⟩:=gxE (l:=(l.drop (i+1))) (i:=j) hltj;obtain ⟨s1,s2⟩:=hsc (yZ l x i j) (Qon hx);have cn:=Qsw (s:=Hj (Fp t) s0 (yZ l x i j)) (m:=(x,y)) s1 s2 (hl x (Qa hx)) (hl y (Q3 (Qa hy))) ht;rw [<-jT,<-gV hy] at cn;refine go tt [.T,.x (Sp hy),.c [0,1,2] cn] rfl (by simp [Uz,-List.length_drop]; omega) ?_;exact rd (j+1) (by omega) hltj rfl
  ·have e:=aD hx (J5 hltj);rw [e];refine go tt [.F] rfl (by simp [Uz,-List.length_drop]; omega) ?_;exact rd (i+1) (by omega) hlt rfl
 ·obtain rfl:i=l.length:=by omega
  exact Uf [] [0,1,2] [.f (by simp [hcl])] rfl
theorem Qez {l:List Pt} {t:Tm} {s:Pt×Pt} (hl:∀ p∈l,Sc p.c) (hs:s.1∈l/\s.2∈l) (hn:l.length≤10) (ht:Va t):U5 prog 258 [.one (pts l),.one (.ofn 260 [] [.ow 0 0,.ow 1 0,.ow 2 0,.ow 3 0])] [.blk 40 (Fa s.1),.blk 40 (Fa s.2),.blk 105 (ta t),.blk 66 [.orow 4 7 none],.row false 99 7 []] [] [.blk 40 (Fa s.1),.blk 40 (Fa s.2),.blk 105 (ta t),.blk 66 [.orow 4 7 none],.row false 99 7 (U6 (Mp (Fp t) s (Gm l)))]:=by
 have hcl:=G0 l;have hpk:∀ i,i<=l.length->(Hz i l).length<=100:=λi hi=>by
  have:=KN i l;have:i*l.length<=10*10:=Zf (by omega) hn;omega
 show U5 prog 258 [.one (.row (Uy l)),.one (.ofn 260 [] [.ow 0 0,.ow 1 0,.ow 2 0,.ow 3 0])] _ _ _;refine Fw func258 rfl ?_;refine Ub [] rfl ?_;refine lp (S:=Nat) 5 (λL1 i=>(10,.v (.oi i))::L1) (λi=>[.blk 40 (Fa s.1),.blk 40 (Fa s.2),.blk 105 (ta t),.blk 66 [.orow 4 7 none],.row false 99 7 (U6 (Mp (Fp t) s (Hz i l)))]) (λi=>l.length-i) (λi=>i<=l.length) 0 (Qh _) rfl (λ_ _=>rfl) (by rw [SG]; rfl) λi hi=>?_
 by_cases hlt:i<l.length
 ·obtain ⟨x,hx⟩:=gxE (l:=l) (i:=i) hlt;have ed1:(Uy l).drop (i+1)=Uy (l.drop (i+1)):=by simp [Uy,Vh]
  have hdl:=G0 (l.drop (i+1));have hdl2:(l.drop (i+1)).length<=10:=by rw [Zj]; omega
  rw [<-gK l x i];refine go tt [.t (by simp [hcl]; omega),.x (Sp hx),.r 17 (eI (b:=((i+1:Nat):Int)) (by simp)),.i (i+1),.r 18 (UY ed1)] rfl (by simp [Uz,G0,eq_true (p:=∀ z,z∈Uy l->z.length=ti40.sz) (YR l)]; omega) ?_;refine Ug (S:=Nat) 6 (λL1 j=>(20,.v (.oi j))::L1) (λj=>[.blk 40 (Fa s.1),.blk 40 (Fa s.2),.blk 105 (ta t),.blk 66 [.orow 4 7 none],.row false 99 7 (U6 (Mp (Fp t) s (yZ l x i j))),.blk 40 (Fa x)]) (λj=>(l.drop (i+1)).length-j) (λj=>j<=(l.drop (i+1)).length) 0 (Qh _) rfl rfl λj hj=>?_
  by_cases hltj:j<(l.drop (i+1)).length
  ·obtain ⟨y,hy⟩:=gxE (l:=(l.drop (i+1))) (i:=j) hltj;have hdn:(Mp (Fp t) s (yZ l x i j)).length<=1000000:=by
    refine Qc (AO _ _ _) ?_;unfold yZ;rw [Qy,Q6,Qt];have:=hpk i hi; omega
   have cn:=Qsr (s:=s) (m:=(x,y)) (L:=Mp (Fp t) s (yZ l x i j)) (hl _ hs.1) (hl _ hs.2) (hl x (Qa hx)) (hl y (Q3 (Qa hy))) ht hdn;have en1:(if ZQ s (x,y)=true then Mp (Fp t) s (yZ l x i j)++[Nv (Fp t) s.1 s.2 x y] else Mp (Fp t) s (yZ l x i j))=Mp (Fp t) s (yZ l x i (j+1)):=by
    rw [gV hy];cases h:ZQ s (x,y) with
    | true=>rw [if_pos rfl,Qna h]
    | false=>rw [if_neg (by decide),Qm9 h]
   dsimp only at cn;rw [en1] at cn;refine go tt [.T,.x (Sp hy),.c [0,1,2,3,4] cn] rfl (by simp [Uz,-List.length_drop]; omega) ?_;exact rd (j+1) (by omega) hltj rfl
  ·have e:=aD hx (J5 hltj);rw [e];refine go tt [.F] rfl (by simp [Uz,-List.length_drop]; omega) ?_;exact rd (i+1) (by omega) hlt rfl
 ·obtain rfl:i=l.length:=by omega
  exact Uf [] [0,1,2,3,4] [.f (by simp [hcl])] rfl
theorem AS {l:List Pt} {a:Tm} {c:Cr} {r1:Uq} (hl:∀ p∈l,Sc p.c) (hn:l.length≤10) (ha:Va a):U5 prog 198 [.one (.ow 0 0),.agg (ta a)] [.blk 227 (Hr c (Uy l) r1)] [.one (.row (U6 (D8 (Fp a) l)))] [.blk 227 (Hr c (Uy l) (Uy (ZZ (Fp a) l)))]:=by
 have hcl:=G0 l;refine Fw func198 rfl ?_;by_cases h2:l.length<2
 ·obtain ⟨e1,e2⟩:=Qbx (Fp a) h2;rw [e1,e2];refine Ub [.k If] rfl ?_;refine nlc 0 13 rfl rfl rfl ?_;have hml:(l.map Fa).length=l.length:=Q6 _;exact Uf [] [0] [.T] rfl
 ·obtain ⟨x,y,l',rfl⟩:=Qvk h2;obtain ⟨l,hle⟩:=nmE (x::y::l');have hx0:(Uy l)[0]? = some (Fa x):=by rw [hle]; rfl
  have hy0:(Uy l)[1]? = some (Fa y):=by rw [hle]; rfl
  have hxl:x∈l:=by rw [hle]; simp
  have hyl:y∈l:=by rw [hle]; simp
  have eB:ZZ (Fp a) (x::y::l')=[(Hj (Fp a) (x,y) (Gm l)).1,(Hj (Fp a) (x,y) (Gm l)).2]:=by rw [hle]; rfl
  have eC:D8 (Fp a) (x::y::l')=Mp (Fp a) (Hj (Fp a) (x,y) (Gm l)) (Gm l):=by rw [hle]; rfl
  rw [eB,eC];rw [<-hle] at hl hn h2 hcl ⊢;have c1:=Qey (t:=a) (s0:=(x,y)) hl ⟨hxl,hyl⟩ (by omega) ha;obtain ⟨n1,n2⟩:=D6 (Fp a) (l:=l) (Gm l) (x,y) ⟨hxl,hyl⟩ (Sl _ _);generalize Hj (Fp a) (x,y) (Gm l)=s at *;have c2:=Qez (t:=a) (s:=s) hl ⟨n1,n2⟩ hn ha;have hml:(l.map Fa).length=l.length:=Q6 _;exact Uf [5] [0] [.k If,.F,.x hx0,.x hy0,.c [2,3,1] c1,.oc 8 0 99 7,.c [2,3,1,4,5] c2] rfl
theorem Qsc {T:Nat} {t:Rat} {Bc:Tm->List Ct} {Br:Tm->Uq} {r0:Uq} (ht:Qs 1640000 t) (hB:BuildOk Bc)
 (hb:∀ a c r1,Va a->CrOk c->U5 prog 198 [.one (.ow 0 0),.agg (ta a)] [.blk T (Hr c r0 r1)] [.one (.row (U6 (Bc a)))] [.blk T (Hr c r0 (Br a))])
 {K:Nat} {c c':Cr} {r1 r1':Uq} {n:Int} (hc:CrOk c) (hev:0<=c.ev/\c.ev+K<=1000000000000000000) (h:Fj c.now t<=0) (hg:UR Bc Br t K c r1 0=some (c',r1',n)) :
 U5 prog 396 [.one (.ow 0 0),.agg (rl t),.one (.ofn 198 [.ow 0 0] [])] [.blk T (Hr c r0 r1)] [.oi n,.oi 0] [.blk T (Hr c' r0 r1')]:=by
 have qt:Qb t:=ht.mono (by decide);have c1:=C6 hc.n.tb qt;refine Fw func396 rfl ?_;refine Ub [.c [0] (O6 hc.n),.k c1,.f (by simpa using h)] rfl ?_;refine Ug (S:=Nat×Cr×Uq×Int) 2 (λL1 s=>(8,.v (.oi s.2.2.2))::L1) (λs=>[.blk T (Hr s.2.1 r0 s.2.2.1),.blk 42 (rl t)]) (λs=>s.1) (λs=>CrOk s.2.1/\(0<=s.2.1.ev/\s.2.1.ev+s.1<=1000000000000000000)/\(0<=s.2.2.2/\s.2.2.2+s.1<=1000000000000000000)/\UR Bc Br t s.1 s.2.1 s.2.2.1 s.2.2.2=some (c',r1',n)) (K,c,r1,0) ⟨hc,hev,⟨Int.le_refl 0,by dsimp only; omega⟩,hg⟩ rfl rfl λ⟨k,x,r,m⟩ ⟨j1,j2,j3,j4⟩=>?_
 dsimp only at j1 j2 j3 j4 ⊢;cases k with
 | zero=>cases j4
 |
  succ k =>
  simp only [UR] at j4;obtain ⟨ws,w1,j4⟩:=Qd.1 j4;obtain ⟨o,o1,j4⟩:=Qd.1 j4;have cn:=PM (T:=T) (r0:=r0) (r1:=r) j1 w1 o1;have ca:=VW (U3 t.num) (U3 (t.den:Int)) (Qc ht.1 (by decide)) (Qc ht.2 (by decide)) (by rw [Sv]; exact ht.mono (by decide));rw [Sv] at ca;cases o with
  |
   none =>
   injection j4 with j4; injection j4 with e1 j4; injection j4 with e2 e3;subst e1; subst e2; subst e3;exact Uf [] [0] [.c [0] cn,.g 25 true rfl,.t rfl,.k ca] rfl
  |
   some a =>
   have ha:=DW j1 w1 o1;dsimp only at j4;have cc:=C6 ha.tb qt;by_cases h0:0<Fj a t
   ·rw [if_pos h0] at j4;injection j4 with j4; injection j4 with e1 j4; injection j4 with e2 e3;subst e1; subst e2; subst e3;exact Uf [] [0] [.c [0] cn,.g 25 false rfl,.k cc,.t (by simpa using h0),.k ca] rfl
   ·rw [if_neg h0] at j4;obtain ⟨w2,l1,j4⟩:=Qd.1 j4;have j1':=Ec j1 w1;have cl:=Sx (b:=a) (l:=[]) ha.tb (λt ht=>by cases ht) (by decide) rfl;have cb:=hb a { x with l:=ws } r ha j1';have cy:=WM (T:=T) (r0:=r0) (r1:=Br a) j1' ha (hB.p a ha) (hB.n a ha) l1;have hf:decide (0<Fj a t)=false:=by simpa using h0
    refine Uc [.c [0] cn,.g 25 false rfl,.k cc,.f hf,.k cl,.c [0] cb,.c [0] cy] rfl ?_;exact rd (k,⟨a,w2,x.ev+1⟩,Br a,m+1) (by dsimp only; omega) ⟨lay_ok _ j1' ha (hB.p a ha) (hB.n a ha) l1,by dsimp only; omega,by dsimp only; omega,j4⟩ rfl
end Orr
namespace Orr
open Go
def Tc:Um->Nat
 | []=>0
 | x::l=>x+10000*Tc l
def Dg (l:Um):Prop:=∀ x∈l,x<10000
def Gd (x:Nat):Um:=if h:x=0 then [] else (x % 10000)::Gd (x / 10000)
termination_by x
decreasing_by omega
theorem Ho:Gd 0=[]:=by unfold Gd; simp
theorem JI {x:Nat} (h:x≠0):Gd x=(x % 10000)::Gd (x / 10000):=by rw [Gd]; simp [h]
theorem H8 (x:Nat):Tc (Gd x)=x:=by
 induction x using Nat.strongRecOn with
 |
  _ x ih =>
  rcases Q0 x with h | h
  ·subst h; rw [Ho]; rfl
  ·rw [JI (by omega)];simp only [Tc];rw [ih _ (by omega)]; omega
theorem B8 (x:Nat):Dg (Gd x):=by
 induction x using Nat.strongRecOn with
 |
  _ x ih =>
  rcases Q0 x with h | h
  ·subst h; rw [Ho]; intro y hy; cases hy
  ·rw [JI (by omega)];intro y hy;rcases Qm.1 hy with rfl | hy
   ·omega
   ·exact ih _ (by omega) y hy
theorem UX {x:Nat}:(Gd x).length=0↔x=0:=by
 constructor
 ·intro h;have h0:=Qj h;have:=H8 x;rw [h0] at this;exact this.symm
 ·rintro rfl; rw [Ho]; rfl
theorem A3 {x:Nat} (h:x≠0):(Gd (x / 10000)).length+1=(Gd x).length:=by rw [JI h]; rfl
theorem Qaz {x:Nat} (h:x<1000000000000):(Gd x).length<=3:=by
 by_cases h0:x=0
 ·subst h0; rw [Ho]; exact Qh _
 ·have h1:=A3 h0;by_cases h2:x / 10000=0
  ·rw [h2,Ho] at h1; simp at h1; omega
  ·have h3:=A3 h2;by_cases h4:x / 10000 / 10000=0
   ·rw [h4,Ho] at h3; simp at h3; omega
   ·have h5:=A3 h4;have h6:x / 10000 / 10000 / 10000=0:=by omega
    rw [h6,Ho] at h5; simp at h5; omega
theorem Me (x:Nat):(Gd x).length<=sz x:=by
 induction x using Nat.strongRecOn with
 |
  _ x ih =>
  by_cases h0:x=0
  ·subst h0; rw [Ho]; exact Qh _
  ·have h1:=A3 h0;have h2:=ih (x / 10000) (by omega);have h3:sz (x / 10000)+1<=sz x:=by
    have h4:x<2^sz x:=UD x;rcases hs:sz x with _ | k
    ·rw [hs] at h4; simp at h4; omega
    ·rw [hs] at h4;have:sz (x / 10000)<=k:=Ni.2 (by rw [Zq] at h4; omega);omega
   omega
theorem Pd (a b:Um):Tc (a++b)=Tc a+10000^a.length*Tc b:=by
 induction a with
 | nil=>simp [Tc]
 |
  cons x a ih =>
  simp only [Xa,Tc,ih,Q7,Zq];rw [Xi,<-Xw,Zp 10000 (10000^a.length)]; omega
theorem Tp {l:Um} {i x:Nat} (h:l[i]? = some x):Tc (l.take (i+1))=Tc (l.take i)+10000^i*x:=by
 have hi:=(Qf.1 h).1;rw [show l.take (i+1)=l.take i++[x] by rw [Zv,h]; rfl,Pd,Qt,Zy (by omega)];simp [Tc]
theorem BD:∀ {l:Um},Dg l->Tc l<10000^l.length
 | [],_=>by simp [Tc]
 |
  x::l,h=>by
  have h1:=h x (Qx ..);have h2:=BD (l:=l) λy hy=>h y (Qg _ hy)
  simp only [Tc,Q7,Zq]; omega
theorem BL:∀ {l:Um},(∀ x∈l,x=0)->Tc l=0
 | [],_=>rfl
 |
  x::l,h=>by
  have h1:=h x (Qx ..);have h2:=BL (l:=l) λy hy=>h y (Qg _ hy)
  simp [Tc,h1,h2]
theorem Dg.take {l:Um} (h:Dg l) (k:Nat):Dg (l.take k):=λx hx=>h x (Qo hx)
theorem Dg.snoc {l:Um} (h:Dg l) {x:Nat} (hx:x<10000):Dg (l++[x]):=by
 intro y hy;rcases Qq.1 hy with hy | hy
 ·exact h y hy
 ·rw [Qk.1 hy]; exact hx
theorem Dg.nil:Dg []:=λx h=>by cases h
theorem pV:∀ {l:Um},Dg l->(∀ x,l[l.length-1]? = some x->x≠0)->l=Gd (Tc l)
 | [],_,_=>by rw [Tc,Ho]
 |
  x::l,h,hl=>by
  have h1:=h x (Qx ..);have h2:l=Gd (Tc l):=pV (λy hy=>h y (Qg _ hy)) λy hy=>hl y (by
   rcases l with _ | ⟨z,t⟩
   ·simp at hy
   ·simpa using hy)
  have h3:x+10000*Tc l≠0:=by
   intro e;have hx:x=0:=by omega
   have hd:Tc l=0:=by omega
   rw [hd,Ho] at h2;subst h2;exact hl x rfl hx
  simp only [Tc];rw [JI h3,show (x+10000*Tc l) % 10000=x by omega,show (x+10000*Tc l) / 10000=Tc l by omega,<-h2]
theorem wY {l:Um} {m:Nat} (hd:Dg l) (hm:m<=l.length) (h1:∀ j x,m<=j->l[j]? = some x->x=0) (h2:0<m->∃ y,l[m-1]? = some y/\y≠0):l.take m=Gd (Tc l):=by
 have e:Tc l=Tc (l.take m):=by
  conv=>lhs; rw [<-Zi m l,Pd]
  rw [BL (l:=l.drop m) λx hx=>?_]
  ·omega
  ·obtain ⟨j,hj⟩:=Zh.1 hx;rw [Xb] at hj;exact h1 (m+j) x (by omega) hj
 rw [e];refine pV (hd.take m) λx hx=>?_
 have hl:(l.take m).length=m:=by rw [Qt]; omega
 rw [hl] at hx;rcases Q0 m with h0 | h0
 ·subst h0; simp at hx
 ·obtain ⟨y,hy,hy0⟩:=h2 h0;rw [Kf (by omega),hy] at hx;injection hx with hx; rw [<-hx]; exact hy0
theorem IZ {o c i d m P V:Nat} (hP:P=10000^i) (h:o+c*P=V):o+P*((c+d*m) % 10000)+(c+d*m) / 10000*(P*10000)=V+P*d*m:=by
 have e:=Xc (c+d*m) 10000;generalize (c+d*m) / 10000=q at *;generalize (c+d*m) % 10000=r at *;have e2:P*(c+d*m)=P*(10000*q+r):=by rw [e]
 grind
theorem ZN {x y:Nat} (h:x<=y):(Gd x).length<=(Gd y).length:=by
 induction y using Nat.strongRecOn generalizing x with
 |
  _ y ih =>
  by_cases h0:x=0
  ·subst h0; rw [Ho]; exact Qh _
  ·have h1:=A3 h0;have h2:=A3 (x:=y) (by omega);have:=ih (y / 10000) (by omega) (x:=x / 10000) (Nat.div_le_div_right h);omega
theorem Qay {n x:Nat} (h:10000^n<=x):n+1<=(Gd x).length:=by
 have h1:=BD (B8 x);rw [H8] at h1;have h2:n<(Gd x).length:=(Nat.pow_lt_pow_iff_right (by decide)).1 (Z4 h h1);omega
theorem wX {x y:Nat} (h:(Gd x).length<(Gd y).length):x<y:=by
 rcases Q9 x y with h1 | h1
 ·exact h1
 ·have:=ZN h1; omega
theorem Qa0 {k y:Nat} (h:y<10000^k):(Gd y).length<=k:=by
 induction k generalizing y with
 |
  zero =>
  have:y=0:=by simpa using h
  subst this; rw [Ho]; exact Ql _
 |
  succ k ih =>
  by_cases hy0:y=0
  ·subst hy0; rw [Ho]; exact Qh _
  ·have h8:=A3 hy0;have:=ih (y:=y / 10000) (by rw [Zq] at h; omega);omega
theorem Qfr {o:Um} (h:Dg o) (hl:o.length<=(Gd (Tc o)).length):o=Gd (Tc o):=by
 refine pV h λx hx h0=>?_
 subst h0;have hne:0<o.length:=by
  rcases o with _ | ⟨a,o⟩
  ·simp at hx
  ·simp
 have h1:Tc o=Tc (o.take (o.length-1)):=by
  have:=Tp hx;rw [show o.length-1+1=o.length by omega,Q5] at this;omega
 have h2:=BD (h.take (o.length-1));rw [<-h1,Qt,Zy (by omega)] at h2;have:=Qa0 h2;omega
theorem ZD {l:Um} {j d:Nat} (h:l[j]? = some d):Tc (l.drop j)=d+10000*Tc (l.drop (j+1)):=by
 obtain ⟨hj,he⟩:=Qf.1 h;rw [Zr hj,he]; rfl
theorem HK {l:Um} {j y:Nat} (h:j<l.length):(l.set j y).drop j=y::l.drop (j+1):=by
 rw [Zr (by simpa using h)];simp only [List.getElem_set_self];rw [List.drop_set_of_lt (by omega)]
theorem Dg.set {l:Um} (h:Dg l) {j y:Nat} (hy:y<10000):Dg (l.set j y):=by
 intro x hx;rcases J9 hx with hx | rfl
 ·exact h x hx
 ·exact hy
theorem Dg.zeros (n:Nat):Dg (List.replicate n 0):=by
 intro x hx; rw [Zx hx]; decide
theorem wW {V kd d:Nat} (hk:0<kd):(d+10000*V) / kd=(V % kd*10000+d) / kd+10000*(V / kd)/\(d+10000*V) % kd=(V % kd*10000+d) % kd/\(d<10000->(V % kd*10000+d) / kd<10000):=by
 have e:=Xc V kd;have e2:d+10000*V=(V % kd*10000+d)+kd*(10000*(V / kd)):=by
  conv=>lhs; rw [<-e]
  grind
 refine ⟨?_,?_,λhd=>?_⟩
 ·rw [e2,We _ _ hk]
 ·rw [e2,Kb]
 ·have:=Z5 V hk;exact (Vw hk).2 (by grind)
theorem MZ (l:Um) (j:Nat) (h:j<=l.length):Tc l=Tc (l.take j)+10000^j*Tc (l.drop j):=by
 conv=>lhs; rw [<-Zi j l,Pd]
 rw [Qt,Zy h]
theorem BP {a b:Um} {j d e:Nat} (ha:Dg a) (hd:a[j]? = some d) (he:b[j]? = some e) (hs:a.drop (j+1)=b.drop (j+1)) (h:d<e):Tc a<Tc b:=by
 have h1:=(Qf.1 hd).1;have h2:=(Qf.1 he).1;rw [MZ a j (by omega),MZ b j (by omega),ZD hd,ZD he,hs];have h3:=BD (ha.take j);rw [Qt,Zy (by omega)] at h3;generalize 10000^j=P at *;have h4:P*(d+10000*Tc (b.drop (j+1)))+P<=P*(e+10000*Tc (b.drop (j+1))):=by
  rw [<-Nat.mul_succ]; exact Zu _ (by omega)
 omega
def dl (l:Um):LV:=.row (l.map λ(x:Nat)=>[.int .i64 (x:Int)])
theorem Rl (l:Um):(l.map λ(x:Nat)=>[LV.int .i64 (x:Int)]).length=l.length:=by simp
theorem Gx {l:Um} {i x:Nat} (h:l[i]? = some x):(l.map λ(x:Nat)=>[LV.int .i64 (x:Int)])[i]? = some [.int .i64 (x:Int)]:=by rw [Zb,h]; rfl
abbrev nd (x:Nat):LV:=dl (Gd x)
end Orr
namespace Orr
open Go Go.Proofs Tryz
set_option maxRecDepth 10000
abbrev Bi (l:Um):Uq:=l.map λ(x:Nat)=>[.int .i64 (x:Int)]
theorem Qte (l:Um):∀ c∈Bi l,c.length=1:=λc hc=>by obtain ⟨x,_,rfl⟩:=Q8.1 hc; rfl
theorem HQ {l:Um} (hd:Dg l):Uh 214 [.one (.row (Bi l))] [.one (nd (Tc l))]:=by
 refine Fw func214 rfl (ln 0 rfl rfl λhl=>?_);rw [Q6] at hl;refine Ub [] rfl ?_;refine lp (S:=Nat) 0 (λL1 n=>(3,.v (.oi n))::L1) (λ_=>[]) id (λn=>n<=l.length/\∀ j x,n<=j->l[j]? = some x->x=0) (Bi l).length ⟨by simp,λj x h1 h2=>by
  have:=(Qf.1 h2).1; simp at h1; omega⟩ rfl (λ_ _=>rfl) rfl λn ⟨h1,h2⟩=>?_
 cases n with
 | zero=>exact Ud [.g 8 false (by simp),.f rfl,.i 0] rfl (by have:=wY hd h1 h2 (λh=>by omega); unfold nd; rw [<-this]; simp [dl]) (by simp [Uz])
 |
  succ n =>
  obtain ⟨x,hx⟩:=gxE (l:=l) (i:=n) (by omega);by_cases h0:x=0
  ·refine Uc [.g 8 true (by simp),.r 11 (v:=.oi n) (by simp),.x (Gx hx),.t (by simp [h0]),.r 17 (v:=.oi n) (by simp)] rfl ?_;exact rd n (by simp) ⟨by omega,λj y h3 h4=>by
    rcases Vl h3 with rfl | h3
    ·rw [hx] at h4; injection h4 with h4; rw [<-h4,h0]
    ·exact h2 j y h3 h4⟩ rfl
  ·exact Ud [.g 8 true (by simp),.r 11 (v:=.oi n) (by simp),.x (Gx hx),.f (by simp [h0]),.i (n+1)] rfl (by have:=wY hd h1 h2 (λ_=>⟨x,hx,h0⟩); unfold nd; rw [<-this]; simp [dl,List.map_take]) (by simp [Uz] <;> omega)
theorem dR {x kd:Nat} (hxs:sz x<=100000000) (hk:0<kd/\kd<=65536):Uh 179 [.one (nd x),.oi kd] [.one (nd (x / kd)),.oi ((x % kd:Nat):Int)]:=by
 have hln:=Qc (Me x) hxs;obtain ⟨l,hl⟩:=nmE (Gd x);have hx:Tc l=x:=by rw [hl,H8]
 have hd:Dg l:=by rw [hl]; exact B8 x
 show Uh 179 [.one (.row (Bi (Gd x))),.oi kd] _;rw [<-hl] at hln ⊢;rw [<-hx];have hll:=Rl l;refine Fw func179 rfl ?_;refine Uc [.i (Bi l).length,.i (Bi l).length] rfl ?_;rw [hll,show List.replicate l.length [LV.int .i64 0]=Bi (List.replicate l.length 0) from by simp [Bi]];refine Ug (S:=Nat×Um×Nat) 1 (λL1 s=>(8,.v (.oi ((s.1:Int)-1)))::(7,.v (.oi (s.2.2:Int)))::L1) (λs=>[.row false 3 1 (Bi s.2.1)]) (λs=>s.1) (λs=>s.1<=l.length/\s.2.1.length=l.length/\Dg s.2.1/\Tc (s.2.1.drop s.1)=Tc (l.drop s.1) / kd/\s.2.2=Tc (l.drop s.1) % kd) (l.length,List.replicate l.length 0,0) ⟨Ql _,by simp,Dg.zeros _,by simp [Tc],by simp [Tc]⟩ rfl rfl λ⟨k,o,R⟩ ⟨j1,j2,j3,j4,hR⟩=>?_
 dsimp only at j1 j2 j3 j4 hR ⊢;cases k with
 |
  zero =>
  have cc:=HQ j3;rw [Xv,Xv] at j4;rw [j4] at cc;exact Ud [.f (by simp),.k cc] rfl (by rw [hR,Xv]) trivial
 |
  succ k =>
  obtain ⟨d,hdk⟩:=gxE (l:=l) (i:=k) (by omega);have hd0:=hd d (Qa hdk);have hdd:=ZD hdk;obtain ⟨s1,s2,s3⟩:=wW (V:=Tc (l.drop (k+1))) (kd:=kd) (d:=d) hk.1;rw [<-hdd] at s1 s2;have hr:=Z5 (Tc (l.drop (k+1))) hk.1;rw [<-hR] at s1 s2 s3 hr;have e:((k+1:Nat):Int)-1=(k:Int):=by omega
  have htd:((R:Int)*10000+(d:Int)).tdiv (kd:Int)=(((R*10000+d) / kd:Nat):Int):=rfl;have hle:=J0 (R*10000+d) kd;have htb:0<=((R:Int)*10000+(d:Int)).tdiv (kd:Int)/\((R:Int)*10000+(d:Int)).tdiv (kd:Int)<=655369999:=by
   rw [htd]; revert hle; generalize (R*10000+d) / kd=Q; intro hle; omega
  rw [e];refine Uc [.t (by simp),.x (Gx hdk),.r 26 (eI (b:=((R*10000+d:Nat):Int)) (by omega)),.r 31 (eI (b:=(((R*10000+d) / kd:Nat):Int)) (by rfl)),.i k,.r 35 (eI (b:=(((R*10000+d) % kd:Nat):Int)) (by rfl))] rfl ?_;exact rd (k,o.set k ((R*10000+d) / kd),(R*10000+d) % kd) (by dsimp only; omega) ⟨by dsimp only; omega,by simp [j2],j3.set (s3 hd0),by dsimp only; rw [HK (by omega)]; simp only [Tc]; rw [j4,s1],by dsimp only; exact s2.symm⟩ (by simp [Bi,List.map_set]; rfl)
theorem Qvg (x k:Nat):sz (x / k)<=sz x:=Tr (J0 _ _)
theorem mW {x y:Nat} {o:Um} (h:Fy x=o++Fy y) (h0:y≠0):Fy x=(o++[y % 4294967296])++Fy (y / 4294967296):=by
 rw [h,En h0]; simp
theorem Qnx (o:Um) (z:Nat):lm (o++[z])=lm o++[[.int .u32 (z:Int)]]:=by simp [lm]
theorem Qwt {x:Nat} (hx:sz x<=100000000):Uh 107 [.one (nd x)] [lr (Fy x)]:=by
 have hlx:=Ri hx;refine Fw func107 rfl ?_;refine Ub [.o 3 151 1] rfl ?_;refine Ug (S:=Nat×Um) 1 (λL1 s=>(0,.v (.one (nd s.1)))::(3,.v (.one (.orow 0 1 none)))::L1) (λs=>[.row false 151 1 (lm s.2)]) (λs=>s.1) (λs=>Fy x=s.2++Fy s.1/\s.1<=x) (x,[]) ⟨rfl,Ql _⟩ rfl rfl λ⟨y,o⟩ ⟨j1,j2⟩=>?_
 dsimp only at j1 j2 ⊢;by_cases h0:y=0
 ·subst h0;rw [G9,Zw] at j1;rw [j1];exact Ud [.f (by simp [Ho])] rfl
 ·have hs:=mW j1 h0;have hsy:sz y<=100000000:=Qc (Tr j2) hx;have c1:=dR (x:=y) (kd:=65536) hsy (by decide);have c2:=dR (x:=y / 65536) (kd:=65536) (Qc (Qvg _ _) hsy) (by decide);have hl:(Gd y).length≠0:=λh=>h0 (UX.1 h)
  have ol:o.length<=(Fy x).length:=by rw [j1]; simp
  have e:y / 65536 % 65536*65536+y % 65536=y % 4294967296:=by omega
  have e2:y / 65536 / 65536=y / 4294967296:=by omega
  refine go tt [.t (by simp; omega),.k c1,.k c2,.r 26 (L9 (b:=((y % 4294967296:Nat):Int)) (by omega)),.s (sz:=1) (l:=[[.int .u32 ((y % 4294967296:Nat):Int)]]) (λc hc=>by rw [Qk.1 hc]; rfl)] rfl (by simp [Uz,U4]; omega) ?_;rw [<-e2] at hs;exact rd (y / 65536 / 65536,o++[y % 4294967296]) (by dsimp only; omega) ⟨hs,by dsimp only; omega⟩ (by rw [Qnx]; rfl)
abbrev ri (z:Int):Up:=[nd z.natAbs,sg z]
theorem Qxr (b:Bool) (m:Nat):[nd m,LV.bool (b && decide (0<m))]=ri (Fb b m):=by
 simp only [ri,sg,Ro,DU]
theorem Qun (x:Nat):(0<(Gd x).length)↔0<x:=by
 have:=UX (x:=x); omega
theorem Ax (b:Bool) (m:Nat):Uh 108 [.one (nd m),.one (.bool b)] [.agg (ri (Fb b m))]:=by
 rw [<-Qxr];have e:=Qun m;cases b with
 | false=>exact Ue func108 rfl [.g 7 false rfl] rfl
 | true=>exact Ue func108 rfl [.g 7 true rfl] rfl (by simp [e]) trivial
theorem Dh {z:Int}:Uh 136 [.agg (ri z)] [.one (.bool (decide (z=0)))] :=
 Ue func136 rfl [] rfl (by have h:=UX (x:=z.natAbs); simp only [Rl]; congr 3; rw [decide_eq_decide]; omega) trivial
theorem O7 {z:Int}:Uh 137 [.agg (ri z)] [.agg (ri (-z))]:=by
 have h:=Ax (!decide (z<0)) z.natAbs;have e:Fb (!decide (z<0)) z.natAbs=-z:=by unfold Fb; by_cases h:z<0 <;> simp [h] <;> omega
 rw [e] at h;exact Ue func137 rfl [.k h] rfl
theorem Qsp {z:Int} (hz:Fe z<=100000000):Uh 45 [.agg (ri z)] [.agg (Hh z)] :=
 Ue func45 rfl [.k (Qwt hz)] rfl
theorem eBo {a b:Bool} (h:a=b):TV.one (LV.bool a)=.one (.bool b):=h ▸ rfl
theorem A5 (l:Um) (x:Nat):Bi (l++[x])=Bi l++[[.int .i64 (x:Int)]]:=by simp [Bi]
theorem wJ {x y:Nat} {o:Um} (h:Gd x=o++Gd y) (h0:y≠0):Gd x=(o++[y % 10000])++Gd (y / 10000):=by
 rw [h,JI h0]; simp
theorem Qst {b:Bool} {x:Nat} (hx:x<=4000000000000000000) (hb:b=true->0<x):Uh 46 [.oi (Fb b x)] [.agg (ri (Fb b x))]:=by
 have hl:(Gd x).length<=100:=by
  have:=Me x;have h2:sz x<=64:=Ni.2 (by omega);omega
 have hm:=Ax b x;refine Fw func46 rfl ?_;cases b with
 |
  false =>
  show AK prog _ _ _ (VK 0 [.oi x]) [];refine Ub [.f (by simp <;> omega),.r 3 (eBo (b:=false) (by simp)),.f rfl,.o 4 3 1] rfl ?_;refine Ug (S:=Nat×Um) 2 (λL1 s=>(0,.v (.oi (s.1:Int)))::(4,.v (.one (.orow 1 1 none)))::L1) (λs=>[.blk 49 [.nils,.bool false],.row false 3 1 (Bi s.2)]) (λs=>s.1) (λs=>Gd x=s.2++Gd s.1/\s.1<=x) (x,[]) ⟨rfl,Ql _⟩ rfl rfl λ⟨y,o⟩ ⟨j1,j2⟩=>?_
  dsimp only at j1 j2 ⊢;by_cases h0:y=0
  ·subst h0;rw [Ho,Zw] at j1;rw [<-j1];exact Ud [.f (by simp),.k hm] rfl
  ·have hs:=wJ j1 h0;have ol:o.length<=(Gd x).length:=by rw [j1]; simp
   refine go tt [.t (by simp; omega),.r 18 (eI (b:=((y % 10000:Nat):Int)) (by rfl)),.s (sz:=1) (l:=[[.int .i64 ((y % 10000:Nat):Int)]]) (λc hc=>by rw [Qk.1 hc]; rfl),.r 22 (eI (b:=((y / 10000:Nat):Int)) (by rfl))] rfl (by simp [Uz,Rl]; omega) ?_;exact rd (y / 10000,o++[y % 10000]) (by dsimp only; omega) ⟨hs,by dsimp only; omega⟩ (by rw [A5]; rfl)
 |
  true =>
  show AK prog _ _ _ (VK 0 [.oi (-(x:Int))]) [];refine Uc [.f (by simp <;> omega),.r 3 (eBo (b:=true) (by simpa using hb rfl)),.t rfl,.r 0 (eI (b:=(x:Int)) (by omega)),.o 4 3 1] rfl ?_;refine Ug (S:=Nat×Um) 2 (λL1 s=>(0,.v (.oi (s.1:Int)))::(4,.v (.one (.orow 1 1 none)))::L1) (λs=>[.blk 49 [.nils,.bool false],.row false 3 1 (Bi s.2)]) (λs=>s.1) (λs=>Gd x=s.2++Gd s.1/\s.1<=x) (x,[]) ⟨rfl,Ql _⟩ rfl rfl λ⟨y,o⟩ ⟨j1,j2⟩=>?_
  dsimp only at j1 j2 ⊢;by_cases h0:y=0
  ·subst h0;rw [Ho,Zw] at j1;rw [<-j1];exact Ud [.f (by simp),.k hm] rfl
  ·have hs:=wJ j1 h0;have ol:o.length<=(Gd x).length:=by rw [j1]; simp
   refine go tt [.t (by simp; omega),.r 18 (eI (b:=((y % 10000:Nat):Int)) (by rfl)),.s (sz:=1) (l:=[[.int .i64 ((y % 10000:Nat):Int)]]) (λc hc=>by rw [Qk.1 hc]; rfl),.r 22 (eI (b:=((y / 10000:Nat):Int)) (by rfl))] rfl (by simp [Uz,Rl]; omega) ?_;exact rd (y / 10000,o++[y % 10000]) (by dsimp only; omega) ⟨hs,by dsimp only; omega⟩ (by rw [A5]; rfl)
theorem VF {n:Int} (hn:-4000000000000000000<=n/\n<=4000000000000000000):Uh 46 [.oi n] [.agg (ri n)]:=by
 have e:Fb (decide (n<0)) n.natAbs=n:=by unfold Fb; by_cases h:n<0 <;> simp [h] <;> omega
 have h:=Qst (b:=decide (n<0)) (x:=n.natAbs) (by omega) (λh=>by have:=of_decide_eq_true h; omega);rwa [e] at h
abbrev fr (q:Rat):Up:=ri q.num++ri (q.den:Int)
theorem A4:Gd 1=[1]:=by rw [JI (by decide)]; rw [Ho]
theorem Ex {n:Int}:Uh 68 [.agg (ri n),.agg (ri 1)] [.agg (fr (n:Rat))]:=by
 have h0:(Bi (Gd (1:Int).natAbs))[0]? = some [LV.int .i64 1]:=by rw [show (1:Int).natAbs=1 from rfl,A4]; rfl
 have h1:decide (((Bi (Gd (1:Int).natAbs)).length:Int)=1)=true:=by rw [show (1:Int).natAbs=1 from rfl,A4]; rfl
 exact Ue func68 rfl [.k (Dh (z:=1)),.f rfl,.f rfl,.g 19 true h1,.x h0,.t rfl] rfl
theorem VL {n:Int} (hn:-4000000000000000000<=n/\n<=4000000000000000000):Uh 15 [.oi n,.oi 1] [.agg (fr (n:Rat))] :=
 Ue func15 rfl [.k (VF hn),.k (VF (n:=1) (by decide)),.k Ex] rfl
theorem Qei {q:Rat} (hq:Qs 100000000 q):Uh 14 [.agg (fr q)] [.agg (rl q)] :=
 Ue func14 rfl [.k (Qsp hq.1),.k (Qsp hq.2)] rfl
end Orr
namespace Orr
open Go Go.Proofs Tryz Orq
set_option maxRecDepth 10000
theorem Iw {a:Tm} (ha:Va a):WI a a=some 0:=by
 obtain ⟨c,c1,c2⟩:=WO ha ha;rcases c2 with ⟨_,h⟩ | ⟨e,_⟩ | ⟨_,h⟩
 ·exact absurd h λh=>Ik ha.cut ha.cut h h
 ·rw [c1,e]
 ·exact absurd h λh=>Ik ha.cut ha.cut h h
theorem Ql7 {c:Cr} {l l':List Pt} {r1:Uq} {ws:List Wt} (hc:CrOk c) (hl:∀ p∈l',Sc p.c) (hn:l'.length≤1000) (h:P0 c.l c.now (Fq (ZH l' c.now))=some ws) :
 U5 prog 397 [.one (.ow 0 0),.agg [pts l'],.oi 0] [.blk 220 (Hr c (Uy l) r1)] [.oi 0] [.blk 220 (Hr ⟨c.now,ws,c.ev⟩ (Uy l') (brS l' c.now))]:=by
 have hB:=tO hl hn;have cn:=O6 (T:=220) (c:=c) (r0:=Uy l') (r1:=r1) hc.n;have cb:=AP (c:=c) (r1:=r1) hl hn hc.n;have cg:=JM (T:=220) (r0:=Uy l') (r1:=brS l' c.now) hc hc.n (Iw hc.n) (Ya 0) (hB.p _ hc.n) (hB.n _ hc.n) h;refine Fw func397 rfl ?_;exact Uf [] [0] [.f rfl,.c [0] cn,.c [0] cb,.c [0] cg] rfl
theorem Qsm {c:Cr} {l s:List Pt} (hs:s.length<=1000000):U5 prog 81 [.one (.ow 0 0)] [.blk 220 (Hr c (Uy l) (Uy s))] [.one (ids (s.map (·.id)))] [.blk 220 (Hr c (Uy l) (Uy s))]:=by
 have hcl:=G0 s;refine Fw func81 rfl ?_;refine Ub [.o 3 3 1] rfl ?_;refine Ug (S:=Nat) 2 (λL1 i=>(11,.v (.oi i))::(3,.v (.one (.orow 1 1 none)))::L1) (λi=>[.blk 220 (Hr c (Uy l) (Uy s)),.row false 3 1 (((s.take i).map (·.id)).map λ(z:Int)=>[LV.int .i64 z])]) (λi=>s.length-i) (λi=>i<=s.length) 0 (Qh _) rfl rfl λi hi=>?_
 by_cases hlt:i<s.length
 ·obtain ⟨p,hp⟩:=gxE (l:=s) (i:=i) hlt;have hg:(((s.take (i+1)).map (·.id)).map λ(z:Int)=>[LV.int .i64 z])=(((s.take i).map (·.id)).map λ(z:Int)=>[LV.int .i64 z])++[[.int .i64 p.id]]:=by
   rw [Zv,hp]; simp
  refine Uc [.t (by simp [hcl]; omega),.x (Sp hp),.s (sz:=1) (l:=[[.int .i64 p.id]]) (λc hc=>by rw [Qk.1 hc]; rfl)] rfl ?_;exact rd (i+1) (by omega) hlt (by rw [hg]; rfl)
 ·obtain rfl:i=s.length:=by omega
  rw [Q5];exact Uf [1] [0] [.f (by simp [hcl])] rfl
theorem Qsn {lx ly:Uq} {px py:Uk} {x y:LV} {d id:Int} {c:Cr} {l:List Pt} {r1:Uq} {ws:List Wt} (hx:IsInts lx px) (hy:IsInts ly py) (hd:Gs x y d) (hk:Cs 4294967294 1073741824 (Crv.mk px py d)) (hll:l.length<=900)
 (he:KL l ⟨Crv.norm (Crv.mk px py d),id⟩=0) (hc:CrOk c) (hl:∀ p∈put l ⟨Crv.norm (Crv.mk px py d),id⟩,Sc p.c) (hn:(put l ⟨Crv.norm (Crv.mk px py d),id⟩).length≤1000) (h:P0 c.l c.now (Fq (ZH (put l ⟨Crv.norm (Crv.mk px py d),id⟩) c.now))=some ws) :
 U5 prog 393 [.one (.ow 0 0),.agg [.row lx,.row ly,x,y,.int .i64 id]] [.blk 220 (Hr c (Uy l) r1)] [.oi 0] [.blk 220 (Hr ⟨c.now,ws,c.ev⟩ (Uy (put l ⟨Crv.norm (Crv.mk px py d),id⟩)) (brS (put l ⟨Crv.norm (Crv.mk px py d),id⟩) c.now))]:=by
 have cp:=kZ (l:=l) (id:=id) hx hy hd hk (by omega);rw [if_pos he,he] at cp;have cw:=Ql7 (l:=l) (r1:=r1) hc hl hn h;refine Fw func393 rfl ?_;obtain ⟨b,l',rfl,rfl,_⟩:=hd;exact Uf [] [0] [.k cp,.c [0] cw] rfl
theorem Qsl {t:Rat} {l:List Pt} {K:Nat} {c c':Cr} {r1 r1':Uq} {n:Int} (ht:Qs 1640000 t) (hl:∀ p∈l,Sc p.c) (hn:l.length≤1000) (hc:CrOk c) (hev:0≤c.ev/\c.ev+K≤1000000000000000000) (h:Fj c.now t≤0) (hg:UR (ZH l) (brS l) t K c r1 0=some (c',r1',n)) :
 U5 prog 388 [.one (.ow 0 0),.agg (rl t)] [.blk 220 (Hr c (Uy l) r1)] [.oi n,.oi 0] [.blk 220 (Hr c' (Uy l) r1')]:=by
 have cg:=Qwl (T:=220) (r0:=Uy l) ht (tO hl hn) (λa c r1 ha _=>AP (c:=c) (r1:=r1) hl hn ha) hc hev h hg;refine Fw func388 rfl ?_;exact Uf [] [0] [.k (Nl (ht.mono (by decide))),.c [0] cg] rfl
theorem Qeb {c:Cr} {r0 r1:Uq}:U5 prog 63 [.one (.ow 0 0)] [.blk 220 (Hr c r0 r1)] [.one (.ow 1 0)] [.blk 220 (Hr c r0 r1),.blk 220 (Hr c r0 r1)]:=by
 refine Fw func63 rfl ?_;exact Uf [] [0,1] [] rfl
abbrev idl (l:Uk):Uq:=l.map λ(z:Int)=>[.int .i64 z]
theorem MV {l:Uk} {i:Nat} {z:Int} (h:l[i]? = some z):(idl l)[i]? = some [.int .i64 z]:=Gt h
theorem sT {a b:Uk} (ha:a.length<=1000000) (hb:b.length<=1000000):Uh 40 [.one (ids a),.one (ids b)] [.one (.bool (decide (a=b)))]:=by
 show Uh 40 [.one (.row (idl a)),.one (.row (idl b))] _;have la:(idl a).length=a.length:=by simp
 have lb:(idl b).length=b.length:=by simp
 refine Fw func40 rfl ?_;by_cases hl:a.length=b.length
 ·refine Ub [.f (by simp; omega)] rfl ?_;refine Ug (S:=Nat) 0 (λL1 i=>(5,.v (.oi i))::L1) (λ_=>[]) (λi=>a.length-i) (λi=>i<=a.length/\a.take i=b.take i) 0 ⟨Qh _,rfl⟩ rfl rfl λi ⟨hi,he⟩=>?_
  by_cases hlt:i<a.length
  ·obtain ⟨x,hx⟩:=gxE (l:=a) (i:=i) hlt;obtain ⟨y,hy⟩:=gxE (l:=b) (i:=i) (by omega);by_cases e:x=y
   ·refine Uc [.t (by simp; omega),.x (MV hx),.x (MV hy),.f (by simpa using e)] rfl ?_;exact rd (i+1) (by omega) ⟨hlt,by rw [Zv,Zv,hx,hy,he,e]⟩ rfl
   ·have hne:a≠b:=λh=>by rw [h,hy] at hx; injection hx with hx; exact e hx.symm
    exact Ud [.t (by simp; omega),.x (MV hx),.x (MV hy),.t (by simpa using e)] rfl (by simp [hne]) trivial
  ·obtain rfl:i=a.length:=by omega
   have hab:a=b:=by rw [Q5] at he; rw [he,hl,Q5]
   exact Ud [.f (by simp)] rfl (by simp [hab]) trivial
 ·have hne:a≠b:=λh=>hl (by rw [h])
  exact Ud [.t (by simp; omega)] rfl (by simp [hne]) trivial
def My (v n:Int):Int:=if n<1 then 0 else v.emod n
theorem Qch {v n:Int} (h:0<n):(if v.tmod n<0 then v.tmod n+n else v.tmod n)=v % n:=by
 have h3:=Vi v (show n≠0 by omega);have h4:=Yu v h;have h1:=Int.tmod_eq_emod (a:=v) (b:=n);have hn:((n.natAbs:Nat):Int)=n:=by omega
 split at h1
 ·rw [h1]; simp; omega
 ·rename_i hc;rw [h1,hn];have:v % n≠0:=λe=>hc (.inr (Vf e))
  rw [if_pos (by omega)]; omega
theorem Dw {v n:Int} (hv:-9223372036854775808<=v/\v<=9223372036854775807) (hn:n<=1000000000):Uh 16 [.oi v,.oi n] [.oi (My v n)]:=by
 unfold My;by_cases h:n<1
 ·rw [if_pos h];exact Ue func16 rfl [.t (by simpa using h)] rfl
 ·rw [if_neg h];have e:=Qch (v:=v) (n:=n) (by omega);have h3:=Vi v (show n≠0 by omega);have h4:=Yu v (show 0<n by omega);show Uh 16 [.oi v,.oi n] [.oi (v % n)];by_cases h0:v.tmod n<0
  ·rw [if_pos h0] at e;have b:-n<=v.tmod n:=by omega
   exact Ue func16 rfl [.f (by simpa using h),.t (by simpa using h0)] rfl (by rw [e]) (by simp [Uz]; omega)
  ·rw [if_neg h0] at e;exact Ue func16 rfl [.f (by simpa using h),.f (by simpa using h0)] rfl (by rw [e]) (by simp [Uz]; omega)
end Orr
namespace Orr
open Go Go.Proofs Tryz Orq
theorem rW {x y:Int} (hx:-9223372036854775808<=x/\x<=9223372036854775807) (hy:-9223372036854775808<=y/\y<=9223372036854775807):Sc (Rx x y):=⟨Crv.nml _,((kA hx hy).norm (by decide)).mono (by decide) (by decide)⟩
theorem Sc.pt {p:Pt} (h:Sc p.c):oV 4294967294 1073741824 p:=⟨h.n,h.c.mono (by decide) (by decide)⟩
end Orr
namespace Orr
open Go Go.Proofs Tryz Orq
set_option maxRecDepth 10000
def zF (l:List Pt) (a:Tm):List Ct:=D8 (Fp a) l
abbrev brP (l:List Pt) (a:Tm):Uq:=Uy (ZZ (Fp a) l)
theorem cP {l:List Pt} {a:Tm}:∀ x∈zF l a,x.p∈ES l:=λx hx=>by
 match l,hx with
 |
  u::v::l',hx =>
  unfold zF at hx;simp only [D8] at hx;obtain ⟨h3,h4⟩:=D6 (Fp a) (l:=u::v::l') (Gm (u::v::l')) (u,v) ⟨by simp,by simp⟩ (Sl _ _);obtain ⟨m,hm,rfl⟩:=IQ hx;obtain ⟨h1,h2⟩:=Sl _ _ m hm;rw [DY];exact NY h3 h4 h1 h2
theorem Qdb {l:List Pt} (hl:∀ p∈l,Sc p.c) (hn:l.length≤10):BuildOk (zF l) :=
 ⟨λ_ _ x hx=>WG hl _ (cP x hx),λa _=>by
  have:=OA (Fp a) l;have:l.length*l.length<=10*10:=Zf hn hn;show (D8 (Fp a) l).length<=1000;omega⟩
def Qwe (l:List Pt) (a:Tm):Cr:=⟨a,(Fq (zF l a)).map fresh,0⟩
theorem Ql2 {t:Rat} {l:List Pt} {K:Nat} {c c':Cr} {r1 r1':Uq} {n:Int} (ht:Qs 1640000 t) (hl:∀ p∈l,Sc p.c) (hn:l.length≤10) (hc:CrOk c) (hev:0≤c.ev/\c.ev+K≤1000000000000000000) (h:Fj c.now t≤0) (hg:UR (zF l) (brP l) t K c r1 0=some (c',r1',n)) :
 U5 prog 427 [.one (.ow 0 0),.agg (rl t)] [.blk 227 (Hr c (Uy l) r1)] [.oi n,.oi 0] [.blk 227 (Hr c' (Uy l) r1')]:=by
 have cg:=Qsc (T:=227) (r0:=Uy l) ht (Qdb hl hn) (λa c r1 ha _=>AS (c:=c) (r1:=r1) hl hn ha) hc hev h hg;refine Fw func427 rfl ?_;exact Uf [] [0] [.k (Nl (ht.mono (by decide))),.c [0] cg] rfl
theorem cO {c:Cr} {r0:Uq} {a b:Pt}:U5 prog 85 [.one (.ow 0 0)] [.blk 227 (Hr c r0 (Uy [a,b]))] [.oi a.id,.oi b.id,.one (.bool true)] [.blk 227 (Hr c r0 (Uy [a,b]))]:=by
 refine Fw func85 rfl ?_;exact Uf [] [0] [.f rfl,.x (l:=Uy [a,b]) (i:=0) (xs:=Fa a) rfl,.x (l:=Uy [a,b]) (i:=1) (xs:=Fa b) rfl] rfl
theorem kQ {c:Cr} {r0:Uq}:U5 prog 85 [.one (.ow 0 0)] [.blk 227 (Hr c r0 [])] [.oi 0,.oi 0,.one (.bool false)] [.blk 227 (Hr c r0 [])]:=by
 refine Fw func85 rfl ?_;exact Uf [] [0] [.t rfl] rfl
end Orr
namespace Orr
open Go
def PQ (q:Uk->Int) (a b:Pt):Pt×Pt:=if By q a b=true then (a,b) else (b,a)
def Oi (q:Uk->Int):Nat->List Pt->List Pt×List (Pt×Pt)
 | 0,l=>(l,[])
 |
  k+1,l=>if l.length<2 then (l,[]) else
  match (Oi q k (l.take ((l.length+1) / 2))).1,(Oi q k (l.drop ((l.length+1) / 2))).1 with
  | a::_,b::_=>([(PQ q a b).1],(Oi q k (l.take ((l.length+1) / 2))).2++(Oi q k (l.drop ((l.length+1) / 2))).2++[PQ q a b])
  | _,_=>([],[])
theorem Dc (q:Uk->Int):∀ (k:Nat) (l:List Pt),l.length<=k->Oi q k l=Oi q l.length l
 | 0,l,h=>by rw [show l.length=0 by omega]
 |
  k+1,l,h=>by
  cases hl:l.length with
  | zero=>simp [Oi,hl]
  |
   succ m =>
   simp only [Oi];by_cases h2:l.length<2
   ·rw [if_pos h2,if_pos h2]
   ·rw [if_neg h2,if_neg h2];have h3:(l.take ((l.length+1) / 2)).length<=m:=by rw [Qt]; omega
    have h4:(l.drop ((l.length+1) / 2)).length<=m:=by rw [Zj]; omega
    rw [Dc q k (l.take ((l.length+1) / 2)) (by omega),Dc q k (l.drop ((l.length+1) / 2)) (by omega),Dc q m (l.take ((l.length+1) / 2)) h3,Dc q m (l.drop ((l.length+1) / 2)) h4]
termination_by k=>k
def Mw (q:Uk->Int) (l:List Pt):List Pt×List (Pt×Pt):=Oi q l.length l
theorem Cg (q:Uk->Int) {l:List Pt} (h:l.length<2):Mw q l=(l,[]):=by
 unfold Mw;cases hl:l.length with
 | zero=>rfl
 | succ m=>simp only [Oi]; rw [if_pos h]
theorem Oj (q:Uk->Int) {l:List Pt} (h:¬l.length<2) {a b:Pt} (ha:(Mw q (l.take ((l.length+1) / 2))).1=[a]) (hb:(Mw q (l.drop ((l.length+1) / 2))).1=[b]) :
 Mw q l=([(PQ q a b).1],(Mw q (l.take ((l.length+1) / 2))).2++(Mw q (l.drop ((l.length+1) / 2))).2++[PQ q a b]):=by
 unfold Mw at ha hb ⊢;obtain ⟨m,hm⟩:∃ m,l.length=m+1:=⟨l.length-1,by omega⟩;have h3:(l.take ((l.length+1) / 2)).length<=m:=by rw [Qt]; omega
 have h4:(l.drop ((l.length+1) / 2)).length<=m:=by rw [Zj]; omega
 rw [<-Dc q m _ h3] at ha ⊢;rw [<-Dc q m _ h4] at hb ⊢;rw [show Oi q l.length l=Oi q (m+1) l by rw [hm]];simp only [Oi];rw [if_neg h,ha,hb]
theorem Nc (q:Uk->Int):∀ (k:Nat) (l:List Pt),l.length≤k->0<l.length->∃ a,(Mw q l).1=[a]/\a∈l/\∀ m∈(Mw q l).2,m.1∈l/\m.2∈l
 | 0,l,h,h0=>by omega
 |
  k+1,l,h,h0=>by
  by_cases h2:l.length<2
  ·rw [Cg q h2]
   match l,h0,h2 with
   | [a],_,_=>exact ⟨a,rfl,by simp,by simp⟩
  ·obtain ⟨a,ha,hal,ham⟩:=Nc q k (l.take ((l.length+1) / 2)) (by rw [Qt]; omega) (by rw [Qt]; omega);obtain ⟨b,hb,hbl,hbm⟩:=Nc q k (l.drop ((l.length+1) / 2)) (by rw [Zj]; omega) (by rw [Zj]; omega);rw [Oj q h2 ha hb];have hd:(PQ q a b).1∈l/\(PQ q a b).2∈l:=by
    unfold PQ; split
    ·exact ⟨Qo hal,Q3 hbl⟩
    ·exact ⟨Q3 hbl,Qo hal⟩
   refine ⟨_,rfl,hd.1,λm hm=>?_⟩;rcases Qq.1 hm with hm | hm
   ·rcases Qq.1 hm with hm | hm
    ·exact ⟨Qo (ham m hm).1,Qo (ham m hm).2⟩
    ·exact ⟨Q3 (hbm m hm).1,Q3 (hbm m hm).2⟩
   ·rw [Qk.1 hm]; exact hd
theorem Dd (q:Uk->Int):∀ (k:Nat) (l:List Pt),l.length<=k->(Mw q l).2.length<=l.length-1
 | 0,l,h=>by rw [Cg q (by omega)]; simp
 |
  k+1,l,h=>by
  by_cases h2:l.length<2
  ·rw [Cg q h2]; simp
  ·obtain ⟨a,ha,_⟩:=Nc q l.length (l.take ((l.length+1) / 2)) (by rw [Qt]; omega) (by rw [Qt]; omega);obtain ⟨b,hb,_⟩:=Nc q l.length (l.drop ((l.length+1) / 2)) (by rw [Zj]; omega) (by rw [Zj]; omega);rw [Oj q h2 ha hb];have h3:=Dd q k (l.take ((l.length+1) / 2)) (by rw [Qt]; omega);have h4:=Dd q k (l.drop ((l.length+1) / 2)) (by rw [Zj]; omega);rw [Qt] at h3;rw [Zj] at h4;simp only [Qy,Vs];omega
abbrev Qbt (m:Pt×Pt):Up:=[pl m.1.c.x,pl m.1.c.y,sg m.1.c.d,mg m.1.c.d,.int .i64 m.1.id,pl m.2.c.x,pl m.2.c.y,sg m.2.c.d,mg m.2.c.d,.int .i64 m.2.id]
end Orr
namespace Orq
open Orr Go
def UB (q:Rat) (x y:Pt):Prop:=py y q<py x q\/py y q=py x q/\(px y q<px x q\/px y q=px x q/\x.id<y.id)
theorem Qhe (q:Rat) (x:Pt):¬UB q x x:=by unfold UB; grind
theorem Qnv (q:Rat) (x y z:Pt) (h:UB q x y) (h':UB q y z):UB q x z:=by unfold UB at *; grind
theorem Qhf {q:Rat} {x y:Pt} (h:x.id≠y.id) (h':¬UB q x y):UB q y x:=by unfold UB at *; grind
theorem oR {a:Tm} (ha:Va a) {x y:Pt} (hx:Sc x.c) (hy:Sc y.c) {q:Rat} (h1:Hg (Fp a) (Gg y.c x.c)=Fc (U7 (Gg y.c x.c) q)) (h2:Hg (Fp a) (Gh y.c x.c)=Fc (U7 (Gh y.c x.c) q)):By (Fp a) x y=true↔UB q x y:=by
 rw [RO hy hx] at h1;rw [TQ hy hx] at h2;have d1:=(M3 hy hx).dp;have d2:=(M4 hy hx).dp;unfold By;simp only [Lo];have t1:=Fu (py x q-py y q);have t2:=Fu (px x q-px y q);by_cases e1:(Gg y.c x.c).length=0
 ·rw [if_neg (by omega)];rw [Qj e1,ZO] at h1;have:py x q=py y q:=by grind
  by_cases e2:(Gh y.c x.c).length=0
  ·rw [if_neg (by omega)];rw [Qj e2,ZO] at h2;unfold UB;simp only [decide_eq_true_eq];grind
  ·rw [if_pos (by omega)];have:=(Ea ha d2 e2).2;unfold UB;simp only [decide_eq_true_eq];grind
 ·rw [if_pos (by omega)];have:=(Ea ha d1 e1).2;unfold UB;simp only [decide_eq_true_eq];grind
theorem vC {l:List Pt} (hl:∀ p∈l,Sc p.c) {a:Tm} (ha:Va a):∃ y,Fj a y=-1/\∀ q,Fj a q=-1->q≤y->∀ u∈l,∀ v∈l,(By (Fp a) u v=true↔UB q u v):=by
 obtain ⟨y,y1,y2⟩:=XQ ha (Ew l) λp hp=>(O2 hl p hp).dp
 refine ⟨y,y1,λq q1 q2 u hu v hv=>?_⟩;have h:=y2 q q1 q2;exact oR ha (hl u hu) (hl v hv) (h _ (Tx hv hu).2) (h _ (Tx hv hu).1)
theorem mT {a b:Tm} {x y:Pt} (h:Hg (Fp b) (Ah x y)=Hg (Fp a) (Ah x y)):By (Fp b) x y=By (Fp a) x y:=by
 unfold Ah Lk at h;unfold By;simp only [Lo];by_cases e1:0<(Gg y.c x.c).length
 ·rw [if_pos e1,if_pos e1]; rw [if_pos e1] at h; rw [h]
 ·rw [if_neg e1,if_neg e1]; rw [if_neg e1] at h; rw [h]
theorem Qgy {l:List Pt} {k:Nat} (h2:¬l.length<2) (hk:l.length<=k+1):(l.take ((l.length+1) / 2)).length<=k/\(l.drop ((l.length+1) / 2)).length<=k/\0<(l.take ((l.length+1) / 2)).length/\0<(l.drop ((l.length+1) / 2)).length:=by
 rw [Qt,Zj]; omega
theorem RH {sa sb:Uk->Int}:∀ (k:Nat) (l:List Pt),l.length≤k->l.Pairwise (λx y=>x.id≠y.id)->(∀ u∈l,∀ v∈l,u.id≠v.id->By sa u v=false->By sa v u=true)->(∀ u∈l,∀ v∈l,By sb v u=true->By sb u v=false)->(∀ m∈(Mw sa l).2,By sb m.1 m.2=By sa m.1 m.2)->Mw sb l=Mw sa l
 | 0,l,hk,_,_,_,_=>by rw [Cg _ (by omega),Cg _ (by omega)]
 |
  k+1,l,hk,hd,h1,h2,hm=>by
  by_cases hs:l.length<2
  ·rw [Cg _ hs,Cg _ hs]
  ·obtain ⟨k1,k2,k3,k4⟩:=Qgy hs hk;obtain ⟨a,ha,hal,_⟩:=Nc sa k (l.take ((l.length+1) / 2)) k1 k3;obtain ⟨b,hb,hbl,_⟩:=Nc sa k (l.drop ((l.length+1) / 2)) k2 k4;have hpl:=Oj sa hs ha hb;rw [hpl] at hm;have hd':=hd;rw [<-Zi ((l.length+1) / 2) l] at hd';obtain ⟨d1,d2,d3⟩:=Jl.1 hd';have i1:=RH k _ k1 d1 (λu hu v hv=>h1 u (Qo hu) v (Qo hv)) (λu hu v hv=>h2 u (Qo hu) v (Qo hv)) λm hm'=>hm m (by simp [hm'])
   have i2:=RH k _ k2 d2 (λu hu v hv=>h1 u (Q3 hu) v (Q3 hv)) (λu hu v hv=>h2 u (Q3 hu) v (Q3 hv)) λm hm'=>hm m (by simp [hm'])
   have hal':=Qo hal;have hbl':=Q3 hbl;have e:PQ sb a b=PQ sa a b:=by
    have hmem:=hm (PQ sa a b) (by simp);unfold PQ at hmem ⊢;by_cases h:By sa a b=true
    ·rw [if_pos h] at hmem ⊢;rw [if_pos (hmem.trans h)]
    ·rw [if_neg h] at hmem ⊢;have h:By sa a b=false:=by simpa using h
     have:=h2 a hal' b hbl' (hmem.trans (h1 a hal' b hbl' (d3 a hal b hbl) h));rw [if_neg (by simp [this])]
   rw [hpl,Oj sb hs (by rw [i1]; exact ha) (by rw [i2]; exact hb),i1,i2,e]
end Orq
namespace Orr
open Orq Go
def PS (l:List Pt) (a:Tm):List Ct:=(Mw (Fp a) l).2.map λm=>Do (Fp a) m.1 m.2
def brT (l:List Pt) (a:Tm):Uq×Uq:=((Mw (Fp a) l).1.map Fa,(Mw (Fp a) l).2.map Qbt)
theorem XD {sg:Uk->Int} {l:List Pt}:∀ m∈(Mw sg l).2,m.1∈l/\m.2∈l:=λm hm=>by
 by_cases h:0<l.length
 ·obtain ⟨_,_,_,h3⟩:=Nc sg l.length l (Ql _) h;exact h3 m hm
 ·rw [Cg _ (by omega)] at hm; cases hm
theorem Qrx {l:List Pt} (hl:∀ p∈l,Sc p.c) {a:Tm}:∀ x∈PS l a,Cp x.p:=λx hx=>by
 obtain ⟨m,hm,rfl⟩:=Q8.1 hx;obtain ⟨h1,h2⟩:=XD m hm;exact JO (M3 (hl _ h2) (hl _ h1)) (M4 (hl _ h2) (hl _ h1))
theorem sQ {l:List Pt} (hl:∀ p∈l,Sc p.c) (hn:l.length≤1000):BuildOk (PS l) :=
 ⟨λa _=>Qrx hl,λa _=>by
  unfold PS; rw [List.length_map];have:=Dd (Fp a) l.length l (Ql _); omega⟩
theorem Qle {l:List Pt} {a:Tm}:∀ x∈PS l a,x.p∈Ew l:=λx hx=>by
 obtain ⟨m,hm,rfl⟩:=Q8.1 hx;obtain ⟨h1,h2⟩:=XD m hm;show Ah m.1 m.2∈Ew l;unfold Ah Lk; split
 ·exact (Tx h2 h1).2
 ·exact (Tx h2 h1).1
theorem Qx3 {l:List Pt} (hl:∀ p∈l,Sc p.c) (hn:l.length≤1000) (hd:l.Pairwise λx y=>x.id≠y.id):Stab (PS l) (brT l):=by
 refine ⟨sQ hl hn,⟨Ew l,O2 hl,λa _ x hx=>?_⟩,λa b ha hb h=>?_⟩
 ·obtain ⟨m,hm,rfl⟩:=Q8.1 hx;obtain ⟨h1,h2⟩:=XD m hm;show Ah m.1 m.2∈Ew l;unfold Ah Lk; split
  ·exact (Tx h2 h1).2
  ·exact (Tx h2 h1).1
 ·obtain ⟨y,y1,y2⟩:=vC hl ha;obtain ⟨z,z1,z2⟩:=vC hl hb;have ga:=y2 y y1 Qp;have gb:=z2 z z1 Qp;have e:Mw (Fp b) l=Mw (Fp a) l:=RH l.length l (Ql _) hd (λu hu v hv hne hf=>(ga v hv u hu).2 (Qhf hne λh=>by
   rw [(ga u hu v hv).2 h] at hf; cases hf)) (λu hu v hv ht=>by
   cases hb':By (Fp b) u v
   ·rfl
   ·exact absurd (Qnv z u v u ((gb u hu v hv).1 hb') ((gb v hv u hu).1 ht)) (Qhe z u)) λm hm=>mT (h (Do (Fp a) m.1 m.2) (Q8.2 ⟨m,hm,rfl⟩))
  refine ⟨?_,by unfold brT; rw [e]⟩;unfold PS;rw [e];refine Xo λm hm=>?_
  have:=h (Do (Fp a) m.1 m.2) (Q8.2 ⟨m,hm,rfl⟩);unfold Do;rw [show Hg (Fp b) (Ah m.1 m.2)=Hg (Fp a) (Ah m.1 m.2) from this]
end Orr
namespace Orq
open Orr Go
def QO (a:Crv):Ul:=[Ft a.x a.d,Ft a.y a.d,ZK (Gk a.x a.x) (Gk a.y a.y),[a.d*a.d]]
def kE (a b c d:Crv):List Ul:=[QO a,QO b,QO c,QO d]
def VR (a b c d:Crv):Uk:=La 4 (kE a b c d)
theorem FX {s:Nat} {k:Crv} (hn:JH k) (hc:Cs s 3 k):(∀ p∈QO k,U9 p/\Bd (s+s+3) p)/\∀ (j:Nat) (p:Uk),(QO k)[j]? = some p->p.length≤[2,2,4,0].getD j 0+1:=by
 have l1:=Fx k.x k.d;have l2:=Fx k.y k.d;have l3:=S0 k.x k.x;have l4:=S0 k.y k.y;have l5:=XW (Gk k.x k.x) (Gk k.y k.y);have kx:=hc.lx;have ky:=hc.ly;have bx:Bd (s+s+2) (Gk k.x k.x):=Md hc.x hc.x (by omega);have by_:Bd (s+s+2) (Gk k.y k.y):=Md hc.y hc.y (by omega);have hd:=hn.2.2.1;have hd0:k.d*k.d≠0:=λe=>by rcases Yb.1 e with e | e <;> omega
 have td:U9 [k.d*k.d]:=by unfold U9; simp [trim,hd0]
 refine ⟨λp hp=>?_,λj p hp=>?_⟩
 ·simp only [QO,Qm,Xy,or_false] at hp;rcases hp with rfl | rfl | rfl | rfl
  ·exact ⟨Fv _ _,U0 (Gf hc.x hc.d) (by omega)⟩
  ·exact ⟨Fv _ _,U0 (Gf hc.y hc.d) (by omega)⟩
  ·exact ⟨Fv _ _,U0 (WR bx by_) (by omega)⟩
  ·refine ⟨td,λz hz=>?_⟩;rw [Qk.1 hz];have:=Ga k.d k.d; have:=hc.d; omega
 ·match j,hp with
  | 0,hp=>injection hp with hp; subst hp; show _<=3; omega
  | 1,hp=>injection hp with hp; subst hp; show _<=3; omega
  | 2,hp=>injection hp with hp; subst hp; show _<=5; omega
  | 3,hp=>injection hp with hp; subst hp; exact Ql _
  | j+4,hp=>simp [QO] at hp
theorem rT {s:Nat} {a b c d:Crv} (na:JH a) (nb:JH b) (nc:JH c) (nd:JH d) (ca:Cs s 3 a) (cb:Cs s 3 b) (cc:Cs s 3 c) (cd:Cs s 3 d):Sq (s+s+3) [2,2,4,0] 4 4 (kE a b c d):=by
 have hr:∀ r∈kE a b c d,∃ k:Crv,JH k/\Cs s 3 k/\r=QO k:=λr hr=>by
  simp only [kE,Qm,Xy,or_false] at hr;rcases hr with rfl | rfl | rfl | rfl
  ·exact ⟨a,na,ca,rfl⟩
  ·exact ⟨b,nb,cb,rfl⟩
  ·exact ⟨c,nc,cc,rfl⟩
  ·exact ⟨d,nd,cd,rfl⟩
 refine ⟨rfl,λr h=>?_,λr h p hp=>?_,λr h p hp=>?_,λr h j p hp=>?_⟩
 all_goals obtain ⟨k,kn,kc,rfl⟩:=hr r h
 ·rfl
 ·exact ((FX kn kc).1 p hp).1
 ·exact ((FX kn kc).1 p hp).2
 ·exact (FX kn kc).2 j p hp
theorem dI {a b c d:Crv} (ha:Sc a) (hb:Sc b) (hc:Sc c) (hd:Sc d):Cp (VR a b c d):=by
 obtain ⟨h1,h2,h3⟩:=MH 4 [2,2,4,0] (kE a b c d) (by decide) rfl (by decide) (rT ha.n hb.n hc.n hd.n ha.c hb.c hc.c hd.c);exact ⟨h1,Qc h3 (by decide),U0 h2 (by decide)⟩
def OS (sg:Uk->Int) (a b c d:Pt):Ct:=⟨4,a.id,b.id,c.id,d.id,VR a.c b.c c.c d.c,Hg sg (VR a.c b.c c.c d.c)⟩
abbrev P3:=Pt×(Pt×Pt)
abbrev P4:=Pt×P3
def Lh:Nat->List Pt->List P3
 | 0,_=>[]
 | _+1,[]=>[]
 | k+1,x::l=>(Gm l).map (λm=>(x,m))++Lh k l
def Rp (l:List Pt):List P3:=Lh l.length l
def Eg:Nat->List Pt->List P4
 | 0,_=>[]
 | _+1,[]=>[]
 | k+1,x::l=>(Rp l).map (λm=>(x,m))++Eg k l
def Ot (l:List Pt):List P4:=Eg l.length l
theorem YB:∀ (l:List Pt) (i:Nat) (x:Pt),l[i]? = some x->Lh (i+1) l=Lh i l++(Gm (l.drop (i+1))).map (λm=>(x,m))
 | [],i,x,h=>by simp at h
 | y::l,0,x,h=>by simp at h; subst h; simp [Lh]
 |
  y::l,i+1,x,h=>by
  have ih:=YB l i x (by simpa using h);show (Gm l).map _++Lh (i+1) l=((Gm l).map _++Lh i l)++_;rw [ih,Za]; rfl
theorem RP:∀ (l:List Pt) (i:Nat) (x:Pt),l[i]? = some x->Eg (i+1) l=Eg i l++(Rp (l.drop (i+1))).map (λm=>(x,m))
 | [],i,x,h=>by simp at h
 | y::l,0,x,h=>by simp at h; subst h; simp [Eg]
 |
  y::l,i+1,x,h=>by
  have ih:=RP l i x (by simpa using h);show (Rp l).map _++Eg (i+1) l=((Rp l).map _++Eg i l)++_;rw [ih,Za]; rfl
theorem EV:∀ (k:Nat) (l:List Pt),∀ m∈Lh k l,m.1∈l/\m.2.1∈l/\m.2.2∈l
 | 0,l,m,h=>by simp [Lh] at h
 | k+1,[],m,h=>by simp [Lh] at h
 |
  k+1,x::l,m,h=>by
  rcases Qq.1 h with h | h
  ·obtain ⟨y,hy,rfl⟩:=Q8.1 h;obtain ⟨h1,h2⟩:=Sl _ _ y hy;exact ⟨Qx ..,Qg _ h1,Qg _ h2⟩
  ·obtain ⟨h1,h2,h3⟩:=EV k l m h;exact ⟨Qg _ h1,Qg _ h2,Qg _ h3⟩
theorem gC:∀ (k:Nat) (l:List Pt),∀ m∈Eg k l,m.1∈l/\m.2.1∈l/\m.2.2.1∈l/\m.2.2.2∈l
 | 0,l,m,h=>by simp [Eg] at h
 | k+1,[],m,h=>by simp [Eg] at h
 |
  k+1,x::l,m,h=>by
  rcases Qq.1 h with h | h
  ·obtain ⟨y,hy,rfl⟩:=Q8.1 h;obtain ⟨h1,h2,h3⟩:=EV _ _ y hy;exact ⟨Qx ..,Qg _ h1,Qg _ h2,Qg _ h3⟩
  ·obtain ⟨h1,h2,h3,h4⟩:=gC k l m h;exact ⟨Qg _ h1,Qg _ h2,Qg _ h3,Qg _ h4⟩
theorem YS {l:List Pt} (h:l.length<=6):(Rp l).length<=20/\(Ot l).length<=15:=by
 match l,h with
 | [],_=>exact ⟨Zd rfl,Zd rfl⟩
 | [_],_=>exact ⟨Zd rfl,Zd rfl⟩
 | [_,_],_=>exact ⟨Zd rfl,Zd rfl⟩
 | [_,_,_],_=>exact ⟨Zd rfl,Zd rfl⟩
 | [_,_,_,_],_=>exact ⟨Zd rfl,Zd rfl⟩
 | [_,_,_,_,_],_=>exact ⟨Zd rfl,Zd rfl⟩
 | [_,_,_,_,_,_],_=>exact ⟨Zd rfl,Zd rfl⟩
 | _::_::_::_::_::_::_::_,h=>simp at h
abbrev Np:=List (Uk×LV)
def PY (sg:Uk->Int) (m:P3):Ct:=D4 sg m.1 m.2.1 m.2.2
def HZ (sg:Uk->Int) (m:P4):Ct:=OS sg m.1 m.2.1 m.2.2.1 m.2.2.2
def mJ (m:P3):Uk:=[m.1.id,m.2.1.id,m.2.2.id]
def Qxd (m:P4):Uk:=[m.1.id,m.2.1.id,m.2.2.1.id,m.2.2.2.id]
def Ap (V:List (Uk×Int)):Np:=V.foldl (λM e=>Lq M e.1 (.int .i64 e.2)) []
def ZW (sg:Uk->Int) (ps:List P3):List (Uk×Int):=ps.map λm=>(mJ m,(PY sg m).want)
def VX (sg:Uk->Int) (ps:List P4):List (Uk×Int):=ps.map λm=>(Qxd m,(HZ sg m).want)
theorem cX (sg:Uk->Int) (ps:List P3) (m:P3):Ap (ZW sg (ps++[m]))=Lq (Ap (ZW sg ps)) (mJ m) (.int .i64 (PY sg m).want):=by simp [Ap,ZW]
def I2 (T:Np) (s:Int) (n:Uk) (F:Np) (skip:Nat):Np:=if ZV T (n.eraseIdx skip)*(if (3-skip) % 2=1 then -s else s)>0 then Lq F (n.eraseIdx skip) (.bool true) else F
def IR (T:Np) (s:Int) (n:Uk) (F:Np):Np:=I2 T s n (I2 T s n (I2 T s n (I2 T s n F 0) 1) 2) 3
def I5 (T:Np) (V:List (Uk×Int)):Np:=V.foldl (λF e=>IR T e.2 e.1 F) []
theorem pD (sg:Uk->Int) (T:Np) (ps:List P4) (m:P4):I5 T (VX sg (ps++[m]))=IR T (HZ sg m).want (Qxd m) (I5 T (VX sg ps)):=by simp [I5,VX]
def xA (T F:Np) (m:P3):Bool:=decide (ZV T (mJ m)≠0) && !(NT F (mJ m))
theorem Qtt {T F:Np} {ps:List P3} {m:P3} (h:xA T F m=true):(ps++[m]).filter (xA T F)=ps.filter (xA T F)++[m]:=by simp [Vk,h]
theorem Qge {T F:Np} {ps:List P3} {m:P3} (h:xA T F m=false):(ps++[m]).filter (xA T F)=ps.filter (xA T F):=by simp [Vk,h]
def uI (sg:Uk->Int) (l:List Pt):List Ct:=(Rp (Tg l)).map (PY sg)++(Ot (Tg l)).map (HZ sg)
def OR (sg:Uk->Int) (l:List Pt):List P3:=(Rp (Tg l)).filter (xA (Ap (ZW sg (Rp (Tg l)))) (I5 (Ap (ZW sg (Rp (Tg l)))) (VX sg (Ot (Tg l)))))
abbrev trL (m:P3):Up:=[.int .i64 m.1.id,.int .i64 m.2.1.id,.int .i64 m.2.2.id]
def QD (l:List P3):Uq:=l.map trL
theorem rE (l:List P3):(QD l).length=l.length:=by simp [QD]
theorem OT (sg:Uk->Int) {l:List Pt} (h:l.length<=6):(OR sg l).length<=20:=by
 have hw:=Oz l;exact Qc (Yx _ _) (YS (l:=Tg l) (by omega)).1
theorem Qbn (sg:Uk->Int) {l:List Pt} (h:l.length<=6):(uI sg l).length<=35:=by
 have hw:=Oz l;obtain ⟨h1,h2⟩:=YS (l:=Tg l) (by omega);unfold uI;rw [Qy,Q6,Q6]; omega
def EF (l:List Pt) (a:Tm):List Ct:=uI (Fp a) l
abbrev brD (l:List Pt) (a:Tm):Uq:=QD (OR (Fp a) l)
def oU (l:List Pt):Ul:=(Rp (Tg l)).map (λm=>He m.1.c m.2.1.c m.2.2.c)++(Ot (Tg l)).map λm=>VR m.1.c m.2.1.c m.2.2.1.c m.2.2.2.c
theorem zV {l:List Pt} (hl:∀ p∈l,Sc p.c):∀ p∈oU l,Cp p:=λp hp=>by
 have hw:=λ(x:Pt) (h:x∈Tg l)=>hl x (Nk h)
 rcases Qq.1 hp with hp | hp
 ·obtain ⟨m,hm,rfl⟩:=Q8.1 hp;obtain ⟨h1,h2,h3⟩:=EV _ _ m hm;exact JE (hw _ h1) (hw _ h2) (hw _ h3)
 ·obtain ⟨m,hm,rfl⟩:=Q8.1 hp;obtain ⟨h1,h2,h3,h4⟩:=gC _ _ m hm;exact dI (hw _ h1) (hw _ h2) (hw _ h3) (hw _ h4)
theorem zW {l:List Pt} {a:Tm}:∀ x∈EF l a,x.p∈oU l:=λx hx=>by
 rcases Qq.1 hx with hx | hx
 ·obtain ⟨m,hm,rfl⟩:=Q8.1 hx;exact X8 _ (Q8.2 ⟨m,hm,rfl⟩)
 ·obtain ⟨m,hm,rfl⟩:=Q8.1 hx;exact Jf _ (Q8.2 ⟨m,hm,rfl⟩)
theorem Qc5 {l:List Pt} (h:l.length<=6):(oU l).length<=1000000:=by
 have hw:=Oz l;obtain ⟨h1,h2⟩:=YS (l:=Tg l) (by omega);unfold oU;rw [Qy,Q6,Q6]; omega
theorem tL {l:List Pt} (hl:∀ p∈l,Sc p.c) (hn:l.length≤6):BuildOk (EF l) :=
 ⟨λ_ _ x hx=>zV hl _ (zW x hx),λa _=>Qc (Qbn _ hn) (by decide)⟩
theorem Qxz {l:List Pt} (hl:∀ p∈l,Sc p.c) (hn:l.length≤6):Stab (EF l) (brD l):=by
 refine ⟨tL hl hn,⟨oU l,zV hl,λa _=>zW⟩,λa b _ _ h=>?_⟩;have e1:∀ m∈Rp (Tg l),PY (Fp b) m=PY (Fp a) m:=λm hm=>by
  have:=h (PY (Fp a) m) (X8 _ (Q8.2 ⟨m,hm,rfl⟩));have e:Hg (Fp b) (He m.1.c m.2.1.c m.2.2.c)=Hg (Fp a) (He m.1.c m.2.1.c m.2.2.c):=this;unfold PY D4; rw [e]
 have e2:∀ m∈Ot (Tg l),HZ (Fp b) m=HZ (Fp a) m:=λm hm=>by
  have:=h (HZ (Fp a) m) (Jf _ (Q8.2 ⟨m,hm,rfl⟩));have e:Hg (Fp b) (VR m.1.c m.2.1.c m.2.2.1.c m.2.2.2.c)=Hg (Fp a) (VR m.1.c m.2.1.c m.2.2.1.c m.2.2.2.c):=this;unfold HZ OS; rw [e]
 have t1:ZW (Fp b) (Rp (Tg l))=ZW (Fp a) (Rp (Tg l)):=Xo λm hm=>by rw [e1 m hm]
 have t2:VX (Fp b) (Ot (Tg l))=VX (Fp a) (Ot (Tg l)):=Xo λm hm=>by rw [e2 m hm]
 constructor
 ·unfold EF uI;rw [Xo e1,Xo e2]
 ·unfold brD OR;rw [t1,t2]
def Qwc (l:List Pt) (a:Tm):Cr:=⟨a,(Fq (EF l a)).map fresh,0⟩
def vG (M:Np):Prop:=∀ k,(E9 M k).getD (.int .i64 0)=.int .i64 (ZV M k)/\-1<=ZV M k/\ZV M k<=1
def VV (M:Np):Prop:=∀ k,(E9 M k).getD (.bool false)=.bool (NT M k)
theorem OX (M:Np) (k:Uk) (x:LV) (k':Uk):E9 (Lq M k x) k'=if k'=k then some x else E9 M k':=by
 induction M with
 | nil=>simp [Lq,E9]
 |
  cons e M ih =>
  simp only [Lq];by_cases h:k=e.1
  ·rw [if_pos h];simp only [E9];by_cases h2:k'=k
   ·rw [if_pos h2,if_pos h2]
   ·rw [if_neg h2,if_neg h2,if_neg (λe2=>h2 (e2.trans h.symm))]
  ·rw [if_neg h];simp only [E9];by_cases h2:k'=e.1
   ·rw [if_pos h2,if_pos h2,if_neg (λe2=>h (e2.symm.trans h2))]
   ·rw [if_neg h2,if_neg h2,ih]
theorem Qg6:vG []:=λ_=>⟨rfl,show (-1:Int)<=0 by decide,show (0:Int)<=1 by decide⟩
theorem oS:VV []:=λ_=>rfl
theorem Qg7 {M:Np} (h:vG M) {k:Uk} {n:Int} (hn:-1<=n/\n<=1):vG (Lq M k (.int .i64 n)):=by
 intro k';have h1:=h k';unfold ZV at h1 ⊢;rw [OX];by_cases e:k'=k
 ·rw [if_pos e]; exact ⟨rfl,hn.1,hn.2⟩
 ·rw [if_neg e]; exact h1
theorem oP {M:Np} (h:VV M) {k:Uk} {b:Bool}:VV (Lq M k (.bool b)):=by
 intro k';have h1:=h k';unfold NT at h1 ⊢;rw [OX];by_cases e:k'=k
 ·rw [if_pos e]; rfl
 ·rw [if_neg e]; exact h1
theorem Av {T F:Np} {s:Int} {n:Uk} {k:Nat} (h:VV F):VV (I2 T s n F k):=by
 unfold I2;generalize (if (3-k) % 2=1 then -s else s)=s'
 split
 ·exact oP h
 ·exact h
theorem sV {T F:Np} {s:Int} {n:Uk} (h:VV F):VV (IR T s n F):=Av (Av (Av (Av h)))
theorem Qbp {x s:Int} (hx:-1<=x/\x<=1) (hs:-1<=s/\s<=1):-9223372036854775808<=x*s/\x*s<=9223372036854775807:=by
 have h:x=-1\/x=0\/x=1:=by omega
 rcases h with rfl | rfl | rfl <;> omega
structure MOk (M:List Pt):Prop where
 sc:∀ p∈M,Sc p.c
 ln:M.length<=6
 so:PG M
theorem MOk.df {M:List Pt} (h:MOk M):M.Pairwise λx y=>x.id≠y.id:=h.so.imp λh e=>by omega
structure Knd (β:Type) where
 bc:List Pt->Tm->List Ct
 br:List Pt->Tm->β
 al:List Pt->List (List Int)
structure KndOk {β:Type} (k:Knd β):Prop where
 st:∀ M,MOk M->Stab (k.bc M) (k.br M)
 cp:∀ M,MOk M->∀ p∈k.al M,Cp p
 al:∀ M a,∀ x∈k.bc M a,x.p∈k.al M
 ln:∀ M,MOk M->(k.al M).length<=1000000
abbrev kS:Knd Uq:=⟨ZH,brS,Ew⟩
abbrev kT:Knd (Uq×Uq):=⟨PS,brT,Ew⟩
abbrev kH:Knd Uq:=⟨TP,brH,λl=>Ew l++NV l⟩
abbrev kP:Knd Uq:=⟨zF,brP,ES⟩
abbrev kD:Knd Uq:=⟨EF,brD,oU⟩
theorem NK {l:List Pt} (h:l.length<=6):(Ew l).length<=72:=by
 rw [Qc6];exact Qc (Zf h (Zf h (Ql 2))) (by decide)
theorem UF {α β:Type} {f:α->List β} {n:Nat} (l:List α) (h:∀ x∈l,(f x).length=n):(l.flatMap f).length=l.length*n:=by
 induction l with
 | nil=>simp
 |
  cons x l ih =>
  rw [Jz,Qy,h x (by simp),ih λy hy=>h y (Qg _ hy),Q7,X2]; omega
theorem Qlb (l:List Pt):(NV l).length=l.length*(l.length*l.length):=by
 unfold NV;exact UF l λx _=>UF l λy _=>by simp
theorem Qk9 (l:List Pt):(ES l).length=l.length*(l.length*(l.length*l.length)):=by
 unfold ES;exact UF l λx _=>UF l λy _=>UF l λz _=>by simp
theorem okS:KndOk kS:=⟨λM h=>Qx2 h.sc (by have:=h.ln; omega) h.df,λM h=>O2 h.sc,λM a=>cM,λM h=>Qc (NK h.ln) (by decide)⟩
theorem okT:KndOk kT:=⟨λM h=>Qx3 h.sc (by have:=h.ln; omega) h.df,λM h=>O2 h.sc,λM a=>Qle,λM h=>Qc (NK h.ln) (by decide)⟩
theorem okH:KndOk kH:=⟨λM h=>Qx0 h.sc (by have:=h.ln; omega) h.df,λM h=>PH h.sc,λM a=>zU,λM h=>by
 have h1:=NK h.ln;have h2:=Qlb M;have h3:M.length*(M.length*M.length)<=6*(6*6):=Zf h.ln (Zf h.ln h.ln);show (Ew M++NV M).length<=_;rw [Qy]; omega⟩
theorem okP:KndOk kP:=⟨λM h=>Qx1 h.sc (by have:=h.ln; omega) h.df,λM h=>WG h.sc,λM a=>cP,λM h=>by
 have h3:M.length*(M.length*(M.length*M.length))<=6*(6*(6*6)):=Zf h.ln (Zf h.ln (Zf h.ln h.ln));show (ES M).length<=_;rw [Qk9]; omega⟩
theorem okD:KndOk kD:=⟨λM h=>Qxz h.sc h.ln,λM h=>zV h.sc,λM a=>zW,λM h=>Qc5 h.ln⟩
open Classical in
noncomputable def cnt (bc:Tm->List Ct) (q t:Rat):Nat:=if h:∃ E,Evs bc t (tq q) E then (Classical.choose h).length else 0
theorem Qfo {β:Type} {Bc:Tm->List Ct} {Br:Tm->β} (S:Stab Bc Br) {q t:Rat} (hq:Va (tq q)) {E:List Tm} (h:Evs Bc t (tq q) E):cnt Bc q t=E.length:=by
 have hx:∃ E,Evs Bc t (tq q) E:=⟨E,h⟩;unfold cnt;rw [dif_pos hx];exact Qts S hq (Classical.choose_spec hx) h
structure At {β:Type} (k:Knd β) (M:List Pt) (q:Rat) (c:Cr):Prop where
 now:c.now=tq q
 st:KSt (k.bc M) (k.br M) c (k.br M (tq q))
section
variable {β:Type} {k:Knd β} (ok:KndOk k) {M M':List Pt} {q t:Rat} {c:Cr}
include ok
theorem At.again (h:At k M q c) (hM:MOk M'):∃ ws,P0 c.l c.now (Fq (k.bc M' c.now))=some ws/\At k M' q ⟨tq q,ws,c.ev⟩:=by
 obtain ⟨⟨o,kk⟩,hcs,hr⟩:=h.st;have S:=ok.st M' hM;obtain ⟨ws,l1,l2⟩:=mY o.n o.l (Fq (k.bc M' c.now));have o':=Orr.lay_ok c.ev o o.n (S.ok.p _ o.n) (S.ok.n _ o.n) l1;have hl:=eY o.n o.n (λh=>Ik o.n.cut o.n.cut h h) o.l kk l1;rw [h.now] at o' hl l2;exact ⟨ws,l1,rfl,⟨⟨o',hl⟩,l2,rfl⟩⟩
theorem At.adv (h:At k M q c) (hM:MOk M) (ht:Qs 1640000 t) (hqt:q<=t) :
 ∃ (K:Nat) (c':Cr),K<=67000001/\UR (k.bc M) (k.br M) t K c (k.br M (tq q)) 0=some (c',k.br M (tq t),((cnt (k.bc M) q t:Nat):Int))/\At k M t c'/\c'.ev=c.ev+((cnt (k.bc M) q t:Nat):Int)/\cnt (k.bc M) q t<=67000000/\cnt (k.bc M) q t<=((k.al M).flatMap EJ).length:=by
 have S:=ok.st M hM;have hP:=ok.cp M hM;have hm:=yB hP;have hmu:=Qq8 ((k.al M).flatMap EJ) c.now;have hl:=ok.ln M hM;have hv:=h.st.inv.ok.n;have hc:Fj c.now t<=0:=by rw [h.now,EY]; rcases Ty q t with ⟨e,e'⟩ | ⟨e,e'⟩ | ⟨e,e'⟩ <;> first | omega | (exfalso; grind)
 obtain ⟨c',r',E,g1,g2,g3,g4,g5,g6⟩:=Qgw S ht hP (λa _=>ok.al M a) (mu ((k.al M).flatMap EJ) c.now) c _ 0 (Ql _) h.st λh'=>by
  have:=(ZT hv.cut).2 h'; omega
 have hr:r'=k.br M (tq t):=by rw [g3.r,g2]
 rw [hr] at g1 g3;rw [Int.zero_add] at g1;rw [h.now] at g6;have he:=Qfo S (by rw [<-h.now]; exact hv) g6;rw [he];exact ⟨_,c',by omega,g1,⟨g2,g3⟩,g4,by omega,by omega⟩
theorem pS (hM:MOk M) (hq:Qs 1640000 q) (ht:Qs 1640000 t) (hqt:q<=t):∃ E,Evs (k.bc M) t (tq q) E/\E.length=cnt (k.bc M) q t:=by
 have S:=ok.st M hM;have hv:=TK hq;have hc:¬Mb (tq t) (tq q):=λh'=>by
  have:=(ZT hv.cut).2 h';rw [EY] at this;rcases Ty q t with ⟨e,e'⟩ | ⟨e,e'⟩ | ⟨e,e'⟩ <;> first | omega | grind
 obtain ⟨c',r',E,g1,g2,g3,g4,g5,g6⟩:=Qgw S ht (ok.cp M hM) (λa _=>ok.al M a) (mu ((k.al M).flatMap EJ) (tq q)) ⟨tq q,(Fq (k.bc M (tq q))).map fresh,0⟩ (k.br M (tq q)) 0 (Ql _) (Qde S hv) hc;exact ⟨E,g6,(Qfo S hv g6).symm⟩
theorem JD {s:Rat} (hM:MOk M) (hq:Qs 1640000 q) (hs:Qs 1640000 s) (ht:Qs 1640000 t) (hqs:q<=s) (hst:s<=t):cnt (k.bc M) q t=cnt (k.bc M) q s+cnt (k.bc M) s t:=by
 obtain ⟨E1,h1,e1⟩:=pS ok hM hq hs hqs;obtain ⟨E2,h2,e2⟩:=pS ok hM hs ht hst;obtain ⟨E,h,e⟩:=pS ok hM hq ht (Zk hqs hst);have hv:=TK hq;have:=Qnj (ok.st M hM) hst (TK hs) h1 hv (λh'=>by
  have:=(ZT hv.cut).2 h';rw [EY] at this;rcases Ty q s with ⟨e,e'⟩ | ⟨e,e'⟩ | ⟨e,e'⟩ <;> first | omega | grind) h2 h
 omega
theorem ZS (hM:MOk M) (hq:Qs 1640000 q):cnt (k.bc M) q q=0:=by
 have:=JD ok hM hq hq hq Qp Qp;omega
end
theorem At.begin {β:Type} {k:Knd β} (ok:KndOk k) {M:List Pt} {q:Rat} (hM:MOk M) (hq:Qs 1640000 q):At k M q ⟨tq q,(Fq (k.bc M (tq q))).map fresh,0⟩:=⟨rfl,Qde (ok.st M hM) (TK hq)⟩
end Orq
namespace Orr
open Go Go.Proofs Tryz Orq
set_option maxRecDepth 10000
abbrev To (c:Cr) (r0:Uq) (r1:Uq×Uq):Up:=.bool true::pl c.now.p::sg c.now.lo.num::mg c.now.lo.num::sg (c.now.lo.den:Int)::mg (c.now.lo.den:Int)::sg c.now.hi.num::mg c.now.hi.num::sg (c.now.hi.den:Int)::mg (c.now.hi.den:Int)::.row (Bu c.l)::.int .i64 c.ev::[.row r0,.row r1.1,.row r1.2]
abbrev Qta (r0:LV) (r1:LV×LV):Up:=[.bool false,.nils,.bool false,.nils,.bool false,.nils,.bool false,.nils,.bool false,.nils,.nils,.int .i64 0,r0,r1.1,r1.2]
theorem sM {T:Nat} {c:Cr} {r0:Uq} {r1:Uq×Uq} (hc:Va c.now):U5 prog 400 [.one (.ow 0 0)] [.blk T (To c r0 r1)] [.agg (ta c.now)] [.blk T (To c r0 r1)]:=by
 have cl:=Sx (b:=c.now) (l:=[]) hc.tb (λt ht=>by cases ht) (by decide) rfl;refine Fw func400 rfl ?_;exact Uf [] [0] [.f rfl,.k cl] rfl
theorem Qeg {T:Nat} {c:Cr} {r0:Uq} {r1:Uq×Uq} (hc:CrOk c):U5 prog 389 [.one (.ow 0 0)] [.blk T (To c r0 r1)] [.one (.row (U6 (Fq (c.l.map (·.c)))))] [.blk T (To c r0 r1)]:=by
 have hk:=hc.k;have hw:=Ti c.l;refine Fw func389 rfl ?_;refine Ub [.o 3 99 7] rfl ?_;refine Ug (S:=Nat) 2 (λL1 i=>(11,.v (.oi i))::(3,.v (.one (.orow 1 7 none)))::L1) (λi=>[.blk T (To c r0 r1),.row false 99 7 (U6 ((c.l.map (·.c)).take i))]) (λi=>c.l.length-i) (λi=>i<=c.l.length) 0 (Qh _) rfl rfl λi hi=>?_
 by_cases hlt:i<c.l.length
 ·obtain ⟨x,hx⟩:=gxE (l:=c.l) (i:=i) hlt;have hm:∀ y∈[Db x.c],y.length=7:=λy hy=>by rw [Qk.1 hy]; rfl
  have hg:(c.l.map (·.c)).take (i+1)=(c.l.map (·.c)).take i++[x.c]:=by
   rw [Zv,Zb,hx]; rfl
  have hl:decide ((i:Int)<((Bu c.l).length:Int))=true:=by simp [hw]; omega
  obtain ⟨xc,xk,xf⟩:=x;cases xf <;> (refine go tt [.t hl,.x (Hn hx),.s (sz:=7) hm] rfl (by simp [Uz,Pa]; omega) ?_; exact rd (i+1) (by omega) hlt (by rw [hg]; simp [U6]; rfl))
 ·obtain rfl:i=c.l.length:=by omega
  have e:(c.l.map (·.c)).take c.l.length=c.l.map (·.c):=Qn (by simp);rw [e];have cs:=GI (l:=c.l.map (·.c)) (λx hx=>by
   obtain ⟨w,hw,rfl⟩:=Q8.1 hx;exact Dp.pb (hc.l w hw).p.dp) (by simp; omega)
  exact Uf [] [0] [.f (by simp [hw]),.k cs] rfl
theorem Qmb {T:Nat} {c:Cr} {r0:Uq} {r1:Uq×Uq} {x:Ct} {at_:Tm} {w:Wt} (hc:CrOk c) (hx:Cp x.p) (ha:Va at_) (h:Cc c.l x at_=some w):U5 prog 289 [.one (.ow 0 0),.agg (Db x),.agg (ta at_)] [.blk T (To c r0 r1)] [.agg (wl w)] [.blk T (To c r0 r1)]:=by
 have hk:=hc.k;have hw:=Ti c.l;refine Fw func289 rfl ?_;refine Ub [] rfl ?_;refine Ug (S:=Nat) 4 (λL1 i=>(14,.v (.oi i))::L1) (λ_=>[.blk T (To c r0 r1),.blk 99 (Db x),.blk 105 (ta at_),.blk 352 [.int .i64 0,.int .i64 0,.int .i64 0,.int .i64 0,.int .i64 0,.nils,.int .i64 0,.bool false,.bool false,.nils,.bool false,.nils,.bool false,.nils,.bool false,.nils,.bool false,.nils]]) (λi=>c.l.length-i) (λi=>i<=c.l.length/\Cc (c.l.drop i) x at_=some w) 0 ⟨Qh _,h⟩ rfl rfl λi ⟨hi,hf⟩=>?_
 by_cases hlt:i<c.l.length
 ·obtain ⟨v,hv⟩:=gxE (l:=c.l) (i:=i) hlt;have hdr:c.l.drop i=v::c.l.drop (i+1):=by
   rw [Zr hlt]; congr 1;have:=Qe hlt; rw [hv] at this; injection this with this; exact this.symm
  have hvo:=hc.l v (Qa hv);rw [hdr] at hf;simp only [Cc] at hf;have hl:decide ((i:Int)<((Bu c.l).length:Int))=true:=by simp [hw]; omega
  by_cases A:rK v.c x=true
  ·have A':(!decide ([v.c.kind,v.c.i0,v.c.i1,v.c.i2,v.c.i3]=[x.kind,x.i0,x.i1,x.i2,x.i3]))=false:=by
    unfold rK at A; rw [A]; rfl
   by_cases B:v.known=true
   ·have B':(!v.known)=false:=by rw [B]; rfl
    have cs:=PN (p:=v.c.p) (q:=x.p) (Dp.pb hvo.p.dp).ln (Dp.pb hx.dp).ln (Dp.pb hvo.p.dp).bd (Dp.pb hx.dp).bd;rw [hvo.p.t,hx.t] at cs;by_cases C:v.c.p=x.p
    ·have C':(!decide (v.c.p=x.p))=false:=by simp [C]
     rw [if_pos ⟨A,B,C⟩] at hf;obtain ⟨vc,vk,vf⟩:=v;cases vf with
     |
      none =>
      injection hf with hf; subst hf;exact Uf [] [0] [.t hl,.x (Hn hv),.g 24 false A',.g 29 false B',.k cs,.f C',.g 41 true rfl,.t rfl] rfl
     |
      some t =>
      obtain ⟨r,r1',hf⟩:=Qd.1 hf;have cc:=VC (hvo.f t rfl).tb ha.tb r1';by_cases D:0<r
      ·rw [if_pos D] at hf;injection hf with hf; subst hf;exact Uf [] [0] [.t hl,.x (Hn hv),.g 24 false A',.g 29 false B',.k cs,.f C',.g 41 false rfl,.k cc,.t (by simpa using D)] rfl
      ·rw [if_neg D] at hf;refine Uc [.t hl,.x (Hn hv),.g 24 false A',.g 29 false B',.k cs,.f C',.g 41 false rfl,.k cc,.f (by simpa using D)] rfl ?_;exact rd (i+1) (by omega) ⟨hlt,hf⟩ rfl
    ·rw [if_neg λh=>C h.2.2] at hf;refine Uc [.t hl,.x (Hn hv),.g 24 false A',.g 29 false B',.k cs,.t (by simp [C])] rfl ?_;exact rd (i+1) (by omega) ⟨hlt,hf⟩ rfl
   ·rw [if_neg λh=>B h.2.1] at hf;refine Uc [.t hl,.x (Hn hv),.g 24 false A',.g 29 true (by simpa using B),.t rfl] rfl ?_;exact rd (i+1) (by omega) ⟨hlt,hf⟩ rfl
  ·rw [if_neg λh=>A h.1] at hf;refine Uc [.t hl,.x (Hn hv),.g 24 true (by rw [show decide ([v.c.kind,v.c.i0,v.c.i1,v.c.i2,v.c.i3]=[x.kind,x.i0,x.i1,x.i2,x.i3])=false from Wu.2 A]; rfl),.g 29 true rfl,.t rfl] rfl ?_;exact rd (i+1) (by omega) ⟨hlt,hf⟩ rfl
 ·obtain rfl:i=c.l.length:=by omega
  rw [Y9] at hf;simp only [Cc] at hf;injection hf with hf; subst hf;exact Uf [] [0] [.f (by simp [hw])] rfl
theorem dX {T:Nat} {c:Cr} {r0:Uq} {r1:Uq×Uq} {at_:Tm} {l:List Ct} {ws:List Wt} (hc:CrOk c) (ha:Va at_) (hl:∀ x∈l,Cp x.p) (hn:l.length≤1000) (h:P0 c.l at_ (Fq l)=some ws):U5 prog 250 [.one (.ow 0 0),.agg (ta at_),.one (.bool true),.one (.row (U6 l))] [.blk T (To c r0 r1)] [] [.blk T (To ⟨at_,ws,c.ev⟩ r0 r1)]:=by
 have cs:=GI (l:=l) (λx hx=>Dp.pb (hl x hx).dp) (by omega);have cl:=Sx (b:=at_) (l:=[]) ha.tb (λt ht=>by cases ht) (by decide) rfl;obtain ⟨h1,h2⟩:=XV h;have hs:(Fq l).length=l.length:=Ml l;refine Fw func250 rfl ?_;refine Ub [.o 8 352 18,.k cs] rfl ?_;refine Ug (S:=Nat) 3 (λL1 i=>(15,.v (.oi i))::(8,.v (.one (.orow 2 18 none)))::L1) (λi=>[.blk T (To c r0 r1),.blk 105 (ta at_),.row false 352 18 (Bu (ws.take i))]) (λi=>ws.length-i) (λi=>i<=ws.length) 0 (Qh _) rfl rfl λi hi=>?_
 by_cases hlt:i<ws.length
 ·obtain ⟨x,hx⟩:=gxE (l:=(Fq l)) (i:=i) (by omega);obtain ⟨w,hw,hw'⟩:=h2 i x hx;have hm:∀ y∈[wl w],y.length=18:=λy hy=>by rw [Qk.1 hy]; rfl
  have hlt':decide ((i:Int)<((U6 (Fq l)).length:Int))=true:=by simp [U6]; omega
  have ck:=Qmb (T:=T) (r0:=r0) (r1:=r1) hc (hl x (Rw (Qa hx))) ha hw;have hg:=Ev hw';obtain ⟨wc,wk,wf⟩:=w;cases wf <;> (refine go tt [.t hlt',.x (ZM hx),.t rfl,.c [0] ck,.s (sz:=18) hm] rfl (by simp [Uz,Ti]; omega) ?_; exact rd (i+1) (by omega) hlt (by rw [hg]; rfl))
 ·obtain rfl:i=ws.length:=by omega
  rw [Q5];have hge:decide ((ws.length:Int)<((U6 (Fq l)).length:Int))=false:=by simp [U6]; omega
  exact Uf [] [0] [.f hge,.p 2,.k cl] rfl
theorem Qmc {T:Nat} {r0:Uq} {r1:Uq×Uq} {at_:Tm} {l:List Ct} (ha:Va at_) (hl:∀ x∈l,Cp x.p) (hn:l.length≤1000):U5 prog 250 [.one (.ow 0 0),.agg (ta at_),.one (.bool false),.one (.row (U6 l))] [.blk T (Qta (.row r0) (.row r1.1,.row r1.2))] [] [.blk T (To ⟨at_,(Fq l).map fresh,0⟩ r0 r1)]:=by
 have cs:=GI (l:=l) (λx hx=>Dp.pb (hl x hx).dp) (by omega);have cl:=Sx (b:=at_) (l:=[]) ha.tb (λt ht=>by cases ht) (by decide) rfl;have hs:(Fq l).length=l.length:=Ml l;refine Fw func250 rfl ?_;refine Ub [.o 8 352 18,.k cs] rfl ?_;refine Ug (S:=Nat) 3 (λL1 i=>(15,.v (.oi i))::(8,.v (.one (.orow 2 18 none)))::L1) (λi=>[.blk T (Qta (.row r0) (.row r1.1,.row r1.2)),.blk 105 (ta at_),.row false 352 18 (Bu (((Fq l).map fresh).take i))]) (λi=>l.length-i) (λi=>i<=l.length) 0 (Qh _) rfl rfl λi hi=>?_
 by_cases hlt:i<l.length
 ·obtain ⟨x,hx⟩:=gxE (l:=(Fq l)) (i:=i) (by omega);have hm:∀ y∈[wl (fresh x)],y.length=18:=λy hy=>by rw [Qk.1 hy]; rfl
  have hlt':decide ((i:Int)<((U6 (Fq l)).length:Int))=true:=by simp [U6]; omega
  have hg:=Ev (l:=(Fq l).map fresh) (i:=i) (w:=fresh x) (by rw [Zb,hx]; rfl);refine go tt [.t hlt',.x (ZM hx),.z 20,.f rfl,.s (sz:=18) hm] rfl (by simp [Uz,Ti]; omega) ?_;exact rd (i+1) (by omega) hlt (by rw [hg]; rfl)
 ·obtain rfl:i=l.length:=by omega
  rw [Qn (by simp; omega)];have hge:decide ((l.length:Int)<((U6 (Fq l)).length:Int))=false:=by simp [U6]; omega
  exact Uf [] [0] [.f hge,.p 2,.k cl] rfl
theorem Qag {T:Nat} {r0:Uq} {r1:Uq×Uq} {at_:Tm} {l:List Ct} (ha:Va at_) (hl:∀ x∈l,Cp x.p) (hn:l.length≤1000):U5 prog 194 [.one (.ow 0 0),.agg (ta at_),.one (.row (U6 l))] [.blk T (Qta (.row r0) (.row r1.1,.row r1.2))] [] [.blk T (To ⟨at_,(Fq l).map fresh,0⟩ r0 r1)]:=by
 have cl:=Qmc (T:=T) (r0:=r0) (r1:=r1) ha hl hn;refine Fw func194 rfl ?_;exact Uf [] [0] [.g 12 false rfl,.c [0] cl] rfl
theorem Qah {T:Nat} {c:Cr} {r0:Uq} {r1:Uq×Uq} {at_:Tm} {l:List Ct} {ws:List Wt} {k:Int} (hc:CrOk c) (ha:Va at_) (hk:WI at_ c.now=some k) (h0:0≤k) (hl:∀ x∈l,Cp x.p) (hn:l.length≤1000) (h:P0 c.l at_ (Fq l)=some ws):U5 prog 194 [.one (.ow 0 0),.agg (ta at_),.one (.row (U6 l))] [.blk T (To c r0 r1)] [] [.blk T (To ⟨at_,ws,c.ev⟩ r0 r1)]:=by
 have cl:=dX (T:=T) (r0:=r0) (r1:=r1) hc ha hl hn h;have cc:=VC ha.tb hc.n.tb hk;refine Fw func194 rfl ?_;exact Uf [] [0] [.g 12 true rfl,.k cc,.r 20 (eB (show decide (0<=k)=true by simpa using h0)),.c [0] cl] rfl
theorem Qmd {T:Nat} {c:Cr} {r0:Uq} {r1:Uq×Uq} {ws:List Wt} (hc:CrOk c) (h:I7 c.now c.l=some ws):U5 prog 395 [.one (.ow 0 0)] [.blk T (To c r0 r1)] [] [.blk T (To { c with l:=ws } r0 r1)]:=by
 have hk:=hc.k;have hw:=Ti c.l;obtain ⟨h1,h2⟩:=YW h;refine Fw func395 rfl ?_;refine Ub [.o 2 352 18,.c [0] (sM hc.n)] rfl ?_;refine Ug (S:=Nat) 3 (λL1 i=>(13,.v (.oi i))::(2,.v (.one (.orow 1 18 none)))::L1) (λi=>[.blk T (To c r0 r1),.row false 352 18 (Bu (ws.take i)),.blk 105 (ta c.now)]) (λi=>c.l.length-i) (λi=>i<=c.l.length) 0 (Qh _) rfl rfl λi hi=>?_
 by_cases hlt:i<c.l.length
 ·obtain ⟨w,hx⟩:=gxE (l:=c.l) (i:=i) hlt;obtain ⟨v,hv,h3⟩:=h2 i w hx;have hm:∀ y∈[wl v],y.length=18:=λy hy=>by rw [Qk.1 hy]; rfl
  have hg:=Ev hv;have hl:decide ((i:Int)<((Bu c.l).length:Int))=true:=by simp [hw]; omega
  rcases h3 with ⟨k1,rfl⟩ | ⟨k1,r,k2,rfl⟩
  ·obtain ⟨vc,vk,vf⟩:=v;cases vf <;> (refine go tt [.t hl,.x (Hn hx),.f (by rw [show vk=true from k1]; rfl),.s (sz:=18) hm] rfl (by simp [Uz,Ti]; omega) ?_; exact rd (i+1) (by omega) hlt (by rw [hg]; rfl))
  ·have cg:=vE (hc.l w (Qa hx)).p hc.n k2;obtain ⟨wc,wk,wf⟩:=w;cases r <;> cases wf <;> (refine go tt [.t hl,.x (Hn hx),.t (by rw [show wk=false from k1]; rfl),.k cg,.s (sz:=18) hm] rfl (by simp [Uz,Ti]; omega) ?_; exact rd (i+1) (by omega) hlt (by rw [hg]; rfl))
 ·obtain rfl:i=c.l.length:=by omega
  rw [<-h1,Q5];exact Uf [1] [0] [.f (by simp [hw,h1])] rfl
theorem Qme {T:Nat} {c:Cr} {r0:Uq} {r1:Uq×Uq} {ws:List Wt} {r:Option Tm} (hc:CrOk c) (h:I7 c.now c.l=some ws) (hr:AQ ws=some r):U5 prog 392 [.one (.ow 0 0)] [.blk T (To c r0 r1)] [.agg (ota r),.one (.bool r.isSome)] [.blk T (To { c with l:=ws } r0 r1)]:=by
 have hcl:=Qmd (T:=T) (r0:=r0) (r1:=r1) hc h;have hc':=Ec hc h;have hk:=hc'.k;have hw:=Ti ws;have hvb:∀ t∈ws.filterMap (·.fails),Tb t:=λt ht=>by
  obtain ⟨w,w1,w2⟩:=Jh.1 ht;exact ((hc'.l w w1).f t w2).tb
 refine Fw func392 rfl ?_;refine Ub [.c [0] hcl,.o 4 105 9] rfl ?_;refine Ug (S:=Nat) 3 (λL1 i=>(14,.v (.oi i))::(4,.v (.one (.orow 2 9 none)))::L1) (λi=>[.blk T (To { c with l:=ws } r0 r1),.blk 105 zTm,.row false 105 9 (tal ((ws.take i).filterMap (·.fails)))]) (λi=>ws.length-i) (λi=>i<=ws.length) 0 (Qh _) rfl rfl λi hi=>?_
 by_cases hlt:i<ws.length
 ·obtain ⟨w,hx⟩:=gxE (l:=ws) (i:=i) hlt;have hl:decide ((i:Int)<((Bu ws).length:Int))=true:=by simp [hw]; omega
  have hfl:((ws.take i).filterMap (·.fails)).length<=i:=Qc (Vb _ _) (by rw [Qt]; omega);have hg:(ws.take (i+1)).filterMap (·.fails)=(ws.take i).filterMap (·.fails)++(match w.fails with | none=>[] | some t=>[t]):=by
   rw [Zv,hx,List.filterMap_append];show _++List.filterMap (·.fails) [w]=_;cases hwf:w.fails <;> simp [hwf]
  obtain ⟨wc,wk,wf⟩:=w;have hk:ws.length<=1000:=hk;cases wf with
  |
   none =>
   refine Uc [.t hl,.x (Hn hx),.f rfl] rfl ?_;exact rd (i+1) (by omega) hlt (by rw [hg]; simp; rfl)
  |
   some t =>
   refine Uc [.t hl,.x (Hn hx),.t rfl,.s (l:=[ta t]) (sz:=9) (λc hc=>by rw [Qk.1 hc]; rfl)] rfl ?_;exact rd (i+1) (by omega) hlt (by rw [hg]; simp [tal]; rfl)
 ·obtain rfl:i=ws.length:=by omega
  rw [Q5];have hf:decide ((ws.length:Int)<((Bu ws).length:Int))=false:=by simp [hw]
  have hln:(ws.filterMap (·.fails)).length<=1000:=Qc (Vb _ _) hk;unfold AQ at hr;cases hfm:ws.filterMap (·.fails) with
  |
   nil =>
   rw [hfm] at hr;injection hr with hr; subst hr;exact Uf [] [0] [.f hf,.p 2,.k vA] rfl
  |
   cons b l =>
   rw [hfm] at hr hvb hln;obtain ⟨m,m1,rfl⟩:=Yt.1 hr;have cl:=Sx (hvb b (Qx ..)) (λt ht=>hvb t (Qg _ ht)) (by simp at hln; omega) m1;exact Uf [] [0] [.f hf,.p 2,.k cl] rfl
theorem Qws {T:Nat} {t:Rat} {Bc:Tm->List Ct} {Br:Tm->Uq×Uq} {r0:Uq} (ht:Qs 1640000 t) (hB:BuildOk Bc)
 (hb:∀ a c r1,Va a->CrOk c->U5 prog 196 [.one (.ow 0 0),.agg (ta a)] [.blk T (To c r0 r1)] [.one (.row (U6 (Bc a)))] [.blk T (To c r0 (Br a))])
 {K:Nat} {c c':Cr} {r1 r1':Uq×Uq} {n:Int} (hc:CrOk c) (hev:0<=c.ev/\c.ev+K<=1000000000000000000) (h:Fj c.now t<=0) (hg:UR Bc Br t K c r1 0=some (c',r1',n)) :
 U5 prog 396 [.one (.ow 0 0),.agg (rl t),.one (.ofn 196 [.ow 0 0] [])] [.blk T (To c r0 r1)] [.oi n,.oi 0] [.blk T (To c' r0 r1')]:=by
 have qt:Qb t:=ht.mono (by decide);have c1:=C6 hc.n.tb qt;refine Fw func396 rfl ?_;refine Ub [.c [0] (sM hc.n),.k c1,.f (by simpa using h)] rfl ?_;refine Ug (S:=Nat×Cr×(Uq×Uq)×Int) 2 (λL1 s=>(8,.v (.oi s.2.2.2))::L1) (λs=>[.blk T (To s.2.1 r0 s.2.2.1),.blk 42 (rl t)]) (λs=>s.1) (λs=>CrOk s.2.1/\(0<=s.2.1.ev/\s.2.1.ev+s.1<=1000000000000000000)/\(0<=s.2.2.2/\s.2.2.2+s.1<=1000000000000000000)/\UR Bc Br t s.1 s.2.1 s.2.2.1 s.2.2.2=some (c',r1',n)) (K,c,r1,0) ⟨hc,hev,⟨Int.le_refl 0,by dsimp only; omega⟩,hg⟩ rfl rfl λ⟨k,x,r,m⟩ ⟨j1,j2,j3,j4⟩=>?_
 dsimp only at j1 j2 j3 j4 ⊢;cases k with
 | zero=>cases j4
 |
  succ k =>
  simp only [UR] at j4;obtain ⟨ws,w1,j4⟩:=Qd.1 j4;obtain ⟨o,o1,j4⟩:=Qd.1 j4;have cn:=Qme (T:=T) (r0:=r0) (r1:=r) j1 w1 o1;have ca:=VW (U3 t.num) (U3 (t.den:Int)) (Qc ht.1 (by decide)) (Qc ht.2 (by decide)) (by rw [Sv]; exact ht.mono (by decide));rw [Sv] at ca;cases o with
  |
   none =>
   injection j4 with j4; injection j4 with e1 j4; injection j4 with e2 e3;subst e1; subst e2; subst e3;exact Uf [] [0] [.c [0] cn,.g 25 true rfl,.t rfl,.k ca] rfl
  |
   some a =>
   have ha:=DW j1 w1 o1;dsimp only at j4;have cc:=C6 ha.tb qt;by_cases h0:0<Fj a t
   ·rw [if_pos h0] at j4;injection j4 with j4; injection j4 with e1 j4; injection j4 with e2 e3;subst e1; subst e2; subst e3;exact Uf [] [0] [.c [0] cn,.g 25 false rfl,.k cc,.t (by simpa using h0),.k ca] rfl
   ·rw [if_neg h0] at j4;obtain ⟨w2,l1,j4⟩:=Qd.1 j4;have j1':=Ec j1 w1;have cl:=Sx (b:=a) (l:=[]) ha.tb (λt ht=>by cases ht) (by decide) rfl;have cb:=hb a { x with l:=ws } r ha j1';have cy:=dX (T:=T) (r0:=r0) (r1:=Br a) j1' ha (hB.p a ha) (hB.n a ha) l1;have hf:decide (0<Fj a t)=false:=by simpa using h0
    refine Uc [.c [0] cn,.g 25 false rfl,.k cc,.f hf,.k cl,.c [0] cb,.c [0] cy] rfl ?_;exact rd (k,⟨a,w2,x.ev+1⟩,Br a,m+1) (by dsimp only; omega) ⟨lay_ok _ j1' ha (hB.p a ha) (hB.n a ha) l1,by dsimp only; omega,by dsimp only; omega,j4⟩ rfl
theorem Qai {T:Nat} {c:Cr} {r0:Uq} {r1:Uq×Uq}:U5 prog 391 [.one (.ow 0 0)] [.blk T (To c r0 r1)] [.oi c.ev] [.blk T (To c r0 r1)]:=by
 refine Fw func391 rfl ?_;exact Uf [] [0] [] rfl
end Orr
namespace Orr
open Go Go.Proofs Tryz Orq
def wV (k:Crv):Int:=max (max 0 ((k.x.length:Int)-1)) ((k.y.length:Int)-1)
structure Es where
 np:Int
 nd:Int
 M:List Pt
 q:Rat
 s:Cr
 t:Cr
 h:Cr
 p:Cr
 d:Cr
structure Em where
 np:Int
 nd:Int
 M:List Pt
 q:Rat
 s:Int
 t:Int
 h:Int
 p:Int
 d:Int
def Es.m (E:Es):Em:=⟨E.np,E.nd,E.M,E.q,E.s.ev,E.t.ev,E.h.ev,E.p.ev,E.d.ev⟩
structure MEn (np nd:Int) (M:List Pt):Prop where
 m:MOk M
 len:(M.length:Int)<=np
 deg:∀ p∈M,wV p.c≤nd
 id:∀ p∈M,0≤p.id/\p.id≤1048576
structure EOk (b:Int) (E:Es):Prop where
 np:1<=E.np/\E.np<=6
 nd:0<=E.nd/\E.nd<=2
 m:MEn E.np E.nd E.M
 q:Qs 128 E.q
 s:At kS E.M E.q E.s
 t:At kT E.M E.q E.t
 h:At kH E.M E.q E.h
 p:At kP E.M E.q E.p
 d:At kD E.M E.q E.d
 es:0<=E.s.ev/\E.s.ev<=b
 et:0<=E.t.ev/\E.t.ev<=b
 eh:0<=E.h.ev/\E.h.ev<=b
 ep:0<=E.p.ev/\E.p.ev<=b
 ed:0<=E.d.ev/\E.d.ev<=b
theorem EOk.mono {b c:Int} {E:Es} (h:EOk b E) (hb:b<=c):EOk c E:={ h with es:=⟨h.es.1,by have:=h.es.2; omega⟩,et:=⟨h.et.1,by have:=h.et.2; omega⟩,eh:=⟨h.eh.1,by have:=h.eh.2; omega⟩,ep:=⟨h.ep.1,by have:=h.ep.2; omega⟩,ed:=⟨h.ed.1,by have:=h.ed.2; omega⟩ }
abbrev lK (k:Nat) (q:Rat):Up:=[.ow (k+1) 0,sg q.num,mg q.num,sg (q.den:Int),mg (q.den:Int),.ow (k+2) 0,.ow (k+3) 0,.ow (k+4) 0,.ow (k+5) 0,.ow (k+6) 0]
abbrev taR (np nd:Int) (M:List Pt):Up:=[.int .i64 np,.int .i64 nd,pts M]
abbrev bS (c:Cr) (M:List Pt) (q:Rat):OB:=.blk 220 (Hr c (Uy M) (brS M (tq q)))
abbrev bT (c:Cr) (M:List Pt) (q:Rat):OB:=.blk 223 (To c (Uy M) (brT M (tq q)))
abbrev bH (c:Cr) (M:List Pt) (q:Rat):OB:=.blk 225 (Hr c (Uy M) (brH M (tq q)))
abbrev bP (c:Cr) (M:List Pt) (q:Rat):OB:=.blk 227 (Hr c (Uy M) (brP M (tq q)))
abbrev bD (c:Cr) (M:List Pt) (q:Rat):OB:=.blk 229 (Hr c (Uy M) (brD M (tq q)))
abbrev enB (k:Nat) (E:Es):Ur:=[.blk 80 (lK k E.q),.blk 159 (taR E.np E.nd E.M),bS E.s E.M E.q,bT E.t E.M E.q,bH E.h E.M E.q,bP E.p E.M E.q,bD E.d E.M E.q]
end Orr
namespace Orr
open Go Go.Proofs Tryz Orq
set_option maxRecDepth 10000
theorem lml (l:Um):(lm l).length=l.length:=by simp [lm]
theorem RZ {z:Int}:(Fy z.natAbs).length<=4↔Fe z<=128:=by
 constructor
 ·intro h;have h1:=Bh (Fy z.natAbs) (Da z.natAbs).1;rw [G7] at h1;refine Sj.2 (Z6 h1 (Qc (Zs (by decide) h) (by decide)))
 ·intro h;have:=Ri (x:=z.natAbs) (k:=128) h;omega
def QB (k:Crv):Bool:=(k.x++k.y++[k.d]).all λz=>decide (Fe z<=128)
theorem LD {k:Crv}:QB k=true↔(∀ z∈k.x,Fe z≤128)/\(∀ z∈k.y,Fe z≤128)/\Fe k.d≤128:=by
 unfold QB;simp only [List.all_append,Zn,Jt,decide_eq_true_iff,Qk,forall_eq];constructor
 ·rintro ⟨⟨h1,h2⟩,h3⟩; exact ⟨h1,h2,h3⟩
 ·rintro ⟨h1,h2,h3⟩; exact ⟨⟨h1,h2⟩,h3⟩
theorem WZ {k:Crv} {z:Int} (hz:z∈k.x++k.y++[k.d]) (h:¬Fe z<=128):QB k=false:=by
 unfold QB;rw [<-Bool.not_eq_true,Jt];intro h';exact h (of_decide_eq_true (h' z hz))
abbrev tB (np nd:Int) (l:List Pt):OB:=.blk 159 (taR np nd l)
theorem Qwx {np nd:Int} {l:List Pt} (id:Int) (hl:l.length<1073741824):U5 prog 183 [.one (.ow 0 0),.oi id] [tB np nd l] [.oi (Im l id:Int),.one (.bool (has l id))] [tB np nd l]:=by
 refine Fw func183 rfl ?_;refine Ub [] rfl ?_;refine ct 2 (S:=Unit) (λ_=>[(1,.v (.oi id)),(0,.v (.one (.ow 0 0))),(6,.v (.oi (Im l id:Int)))]) (λ_=>[tB np nd l]) (λ_=>True) rfl ?_ ?_
 ·refine Ug (S:=Nat) 1 (λL1 k=>(6,.v (.oi k))::L1) (λ_=>[tB np nd l]) (λk=>l.length-k) (λk=>k<=l.length/\∀ j p,j<k->l[j]? = some p->p.id<id) 0 ⟨Qh _,λj p h=>by omega⟩ rfl rfl λk ⟨hk,hlt⟩=>?_
  by_cases h:k<l.length
  ·obtain ⟨p,hp⟩:=gxE (l:=l) (i:=k) h;by_cases hid:p.id<id
   ·refine Uc [.t (by simp; omega),.x (Ta hp),.t (by simpa using hid)] rfl ?_;exact rd (k+1) (by omega) ⟨h,λj q hj hq=>by
     rcases Q9 j k with h2 | h2
     ·exact hlt j q h2 hq
     ·have:j=k:=by omega
      subst this; rw [hp] at hq; injection hq with hq; rw [<-hq]; exact hid⟩ rfl
   ·have e:=LJ hlt (.inr ⟨p,hp,hid⟩);refine Ub [.t (by simp; omega),.x (Ta hp),.f (by simpa using hid)] rfl ?_;rw [e];exact rc () trivial rfl
  ·obtain rfl:k=l.length:=by omega
   have e:=LJ hlt (.inl rfl);refine Ub [.f (by simp),.f rfl] rfl ?_;rw [e];exact rc () trivial rfl
 ·intro _ _;by_cases h:Im l id<l.length
  ·obtain ⟨p,hp⟩:=gxE (l:=l) (i:=Im l id) h;have e:has l id=decide (p.id=id):=by simp [has,hp]
   rw [e];exact Uf [] [0] [.g 36 true (by simp; omega),.x (Ta hp)] rfl
  ·have e:has l id=false:=by simp [has,Qw (J5 h)]
   rw [e];exact Uf [] [0] [.g 36 false (by simp; omega)] rfl
theorem AN {lx ly:Uq} {px py:Uk} {x y:LV} {d:Int} (hx:IsInts lx px) (hy:IsInts ly py) (hd:Gs x y d) (hk:Cs 4294967294 1073741824 (Crv.mk px py d)) (id:Int):Uh 86 [.agg [.row lx,.row ly,x,y,.int .i64 id]] [.agg (Fa ⟨Crv.norm (Crv.mk px py d),id⟩)]:=by
 have cd:=Bz hd (Qc hk.d (by omega));by_cases h0:d=0
 ·subst h0;have ck:Cs 4294967294 1073741824 (Crv.mk px py 1):=⟨hk.x,hk.y,show Fe 1<=4294967294 by decide,hk.lx,hk.ly⟩;have cm:=WB hx hy (U3 1) ck (by decide);have e:Crv.norm (Crv.mk px py 1)=Crv.norm (Crv.mk px py 0):=by simp only [Crv.norm,Crv.g,Crv.d']; rfl
  rw [e] at cm;obtain ⟨b,l,rfl,rfl,_⟩:=hd;exact Ue func86 rfl [.k cd,.k Lj,.t (by simp),.k (zP (z:=1) (by decide)),.k cm] rfl
 ·have cm:=WB hx hy hd hk h0;obtain ⟨b,l,rfl,rfl,_⟩:=hd;exact Ue func86 rfl [.k cd,.k Lj,.f (by simpa using h0),.k cm] rfl
theorem sE {p:Pt} (hn:JH p.c) (hk:Cs 4294967294 1073741824 p.c):Uh 86 [.agg (Fa p)] [.agg (Fa p)]:=by
 have h:=AN (Gl p.c.x) (Gl p.c.y) (U3 p.c.d) hk p.id;rw [show Crv.mk p.c.x p.c.y p.c.d=p.c from rfl,Crv.norm_of hn] at h; exact h
theorem Qe8 {k:Crv} (hk:Cs 4294967294 1073741824 k):Uh 245 [.agg (cl k)] [.one (.bool (QB k))]:=by
 have hlx:=hk.lx;have hly:=hk.ly;refine Fw func245 rfl ?_;refine Ub [] rfl ?_;refine Ug (S:=Nat) 1 (λL1 i=>(15,.v (.oi i))::L1) (λ_=>[.blk 38 (cl k)]) (λi=>3-i) (λi=>i≤3/\(0<i->∀ z∈k.x,Fe z≤128)/\(1<i->∀ z∈k.y,Fe z≤128)/\(2<i->Fe k.d≤128)) 0 ⟨by decide,by omega,by omega,by omega⟩ rfl rfl λi ⟨hi,g0,g1,g2⟩=>?_
 rcases (show i=0\/i=1\/i=2\/i=3 by omega) with rfl | rfl | rfl | rfl
 ·have hl:((k.x).map Hh).length=(k.x).length:=by simp
  refine Ub [.t rfl,.i 0] rfl ?_ (by simp [Uz]);refine Ug (S:=Nat) 1 (λL1 j=>(20,.v (.oi j))::L1) (λ_=>[.blk 38 (cl k)]) (λj=>(k.x).length-j) (λj=>j<=(k.x).length/\∀ n z,n<j->(k.x)[n]? = some z->Fe z<=128) 0 ⟨Qh _,λn z h=>by omega⟩ rfl rfl λj ⟨hj,hs⟩=>?_
  by_cases h:j<(k.x).length
  ·obtain ⟨z,hz⟩:=gxE (l:=(k.x)) (i:=j) h;by_cases hb:Fe z<=128
   ·have hb4:=RZ.2 hb;refine Uc [.t (by simp; omega),.x (Gt (f:=Hh) hz),.f (by simp [lml]; omega)] rfl ?_;exact rd (j+1) (by omega) ⟨h,λn y hn hy=>by
     rcases Q9 n j with h2 | h2
     ·exact hs n y h2 hy
     ·have:n=j:=by omega
      subst this; rw [hz] at hy; injection hy with hy; rw [<-hy]; exact hb⟩ rfl
   ·have hb4:=mt RZ.1 hb;rw [WZ (Qq.2 (.inl (Qq.2 (.inl (Qa hz))))) hb];exact Ud [.t (by simp; omega),.x (Gt (f:=Hh) hz),.t (by simp [lml]; omega)] rfl
  ·have hall:∀ z∈k.x,Fe z≤128:=λz hz=>by
    obtain ⟨n,hn⟩:=Xt hz;exact hs n z (by have:=(Qf.1 hn).1; omega) hn
   refine Ub [.f (by simp; omega)] rfl ?_ (by simp [Uz]);exact rd 1 (by omega) ⟨by omega,λ_=>hall,by omega,by omega⟩ rfl
 ·have hl:((k.y).map Hh).length=(k.y).length:=by simp
  refine Ub [.t rfl,.i 1] rfl ?_ (by simp [Uz]);refine Ug (S:=Nat) 1 (λL1 j=>(20,.v (.oi j))::L1) (λ_=>[.blk 38 (cl k)]) (λj=>(k.y).length-j) (λj=>j<=(k.y).length/\∀ n z,n<j->(k.y)[n]? = some z->Fe z<=128) 0 ⟨Qh _,λn z h=>by omega⟩ rfl rfl λj ⟨hj,hs⟩=>?_
  by_cases h:j<(k.y).length
  ·obtain ⟨z,hz⟩:=gxE (l:=(k.y)) (i:=j) h;by_cases hb:Fe z<=128
   ·have hb4:=RZ.2 hb;refine Uc [.t (by simp; omega),.x (Gt (f:=Hh) hz),.f (by simp [lml]; omega)] rfl ?_;exact rd (j+1) (by omega) ⟨h,λn y hn hy=>by
     rcases Q9 n j with h2 | h2
     ·exact hs n y h2 hy
     ·have:n=j:=by omega
      subst this; rw [hz] at hy; injection hy with hy; rw [<-hy]; exact hb⟩ rfl
   ·have hb4:=mt RZ.1 hb;rw [WZ (Qq.2 (.inl (Qq.2 (.inr (Qa hz))))) hb];exact Ud [.t (by simp; omega),.x (Gt (f:=Hh) hz),.t (by simp [lml]; omega)] rfl
  ·have hall:∀ z∈k.y,Fe z≤128:=λz hz=>by
    obtain ⟨n,hn⟩:=Xt hz;exact hs n z (by have:=(Qf.1 hn).1; omega) hn
   refine Ub [.f (by simp; omega)] rfl ?_ (by simp [Uz]);exact rd 2 (by omega) ⟨by omega,λ_=>g0 (by omega),λ_=>hall,by omega⟩ rfl
 ·have hl:(([k.d]).map Hh).length=([k.d]).length:=by simp
  have h1:([k.d]).length=1:=rfl;refine Ub [.t rfl,.i 2] rfl ?_ (by simp [Uz]);refine Ug (S:=Nat) 1 (λL1 j=>(20,.v (.oi j))::L1) (λ_=>[.blk 38 (cl k)]) (λj=>([k.d]).length-j) (λj=>j<=([k.d]).length/\∀ n z,n<j->([k.d])[n]? = some z->Fe z<=128) 0 ⟨Qh _,λn z h=>by omega⟩ rfl rfl λj ⟨hj,hs⟩=>?_
  by_cases h:j<([k.d]).length
  ·obtain ⟨z,hz⟩:=gxE (l:=([k.d])) (i:=j) h;by_cases hb:Fe z<=128
   ·have hb4:=RZ.2 hb;refine Uc [.t (by simp; omega),.x (Gt (f:=Hh) hz),.f (by simp [lml]; omega)] rfl ?_;exact rd (j+1) (by omega) ⟨h,λn y hn hy=>by
     rcases Q9 n j with h2 | h2
     ·exact hs n y h2 hy
     ·have:n=j:=by omega
      subst this; rw [hz] at hy; injection hy with hy; rw [<-hy]; exact hb⟩ rfl
   ·have hb4:=mt RZ.1 hb;rw [WZ (Qq.2 (.inr (Qa hz))) hb];exact Ud [.t (by simp; omega),.x (Gt (f:=Hh) hz),.t (by simp [lml]; omega)] rfl
  ·have hall:∀ z∈[k.d],Fe z≤128:=λz hz=>by
    obtain ⟨n,hn⟩:=Xt hz;exact hs n z (by have:=(Qf.1 hn).1; omega) hn
   refine Ub [.f (by simp; omega)] rfl ?_ (by simp [Uz]);exact rd 3 (by omega) ⟨by omega,λ_=>g0 (by omega),λ_=>g1 (by omega),λ_=>hall k.d (by simp)⟩ rfl
 ·rw [LD.2 ⟨g0 (by omega),g1 (by omega),g2 (by omega)⟩];exact Ud [.f rfl] rfl
def RY (p:Pt):Bool:=decide (0<=p.id) && (decide (p.id<=1048576) && QB p.c)
theorem Qs6 {p:Pt} (hk:Cs 4294967294 1073741824 p.c):Uh 184 [.agg (Fa p)] [.one (.bool (RY p))]:=by
 have cs:=Qe8 hk;by_cases h0:0<=p.id
 ·by_cases h1:p.id<=1048576
  ·have e:RY p=QB p.c:=by simp [RY,h0,h1]
   rw [e];exact Ue func184 rfl [.t (by simpa using h0),.t (by simpa using h1),.k cs] rfl
  ·have e:RY p=false:=by simp [RY,h1]
   rw [e];exact Ue func184 rfl [.t (by simpa using h0),.f (by simpa using h1)] rfl
 ·have e:RY p=false:=by simp [RY,h0]
  rw [e];exact Ue func184 rfl [.f (by simpa using h0),.f rfl] rfl
theorem Qsq {k:Crv} (hn:JH k) (hk:Cs 4294967294 1073741824 k):Uh 185 [.agg (cl k)] [.oi (wV k)] :=
 Ue func185 rfl [.k (NL hn hk),.k (Mn k.x),.k (Mn k.y)] rfl
def Ms (np nd:Int) (M:List Pt) (p:Pt):Int:=if RY p=false then 1 else if has M p.id=true then 6 else if nd<wV p.c then 7 else if np<=(M.length:Int) then 9 else 0
theorem Qs5 {lx ly:Uq} {px py:Uk} {x y:LV} {d id np nd:Int} {l:List Pt} (hx:IsInts lx px) (hy:IsInts ly py) (hd:Gs x y d) (hk:Cs 4294967294 1073741824 (Crv.mk px py d)) (hl:l.length<=1000000) :
 U5 prog 132 [.one (.ow 0 0),.agg [.row lx,.row ly,x,y,.int .i64 id]] [tB np nd l] [.oi (Ms np nd l (Pt.mk (Crv.norm (Crv.mk px py d)) id))] [tB np nd (if Ms np nd l (Pt.mk (Crv.norm (Crv.mk px py d)) id)=0 then put l (Pt.mk (Crv.norm (Crv.mk px py d)) id) else l)]:=by
 have cf:=AN hx hy hd hk id;have hkn:=hk.norm (by omega);have hnm:=Crv.nml (Crv.mk px py d);obtain ⟨b,r,rfl,rfl,_⟩:=hd;obtain ⟨q,hq⟩:=nmE (Pt.mk (Crv.norm (Crv.mk px py d)) id);have hqi:q.id=id:=by rw [hq]
 have hqc:q.c=Crv.norm (Crv.mk px py d):=by rw [hq]
 rw [<-hq] at cf ⊢;rw [<-hqc] at hkn hnm;have ca:U5 prog 183 [.one (.ow 0 0),.oi q.id] [tB np nd l] [.oi (Im l id:Int),.one (.bool (has l id))] [tB np nd l]:=by rw [hqi]; exact Qwx id (by omega)
 have cm:=Qs6 (p:=q) hkn;have cd:=Qsq hnm hkn;have hpl:=nY l id;have hll:(l.map Fa).length=l.length:=by simp
 by_cases h0:RY q=false
 ·have e:Ms np nd l q=1:=by simp [Ms,h0]
  rw [e,if_neg (by decide)];refine Fw func132 rfl ?_;exact Uf [] [0] [.k cf,.c [0] ca,.k cm,.t (by simp [h0])] rfl
 by_cases h1:has l id=true
 ·have e:Ms np nd l q=6:=by simp [Ms,h0,hqi,h1]
  rw [e,if_neg (by decide)];refine Fw func132 rfl ?_;exact Uf [] [0] [.k cf,.c [0] ca,.k cm,.f (by simpa using h0),.t h1] rfl
 by_cases h2:nd<wV q.c
 ·have e:Ms np nd l q=7:=by simp [Ms,h0,hqi,h1,h2]
  rw [e,if_neg (by decide)];refine Fw func132 rfl ?_;exact Uf [] [0] [.k cf,.c [0] ca,.k cm,.f (by simpa using h0),.f (by simpa using h1),.k cd,.t (by simpa using h2)] rfl
 by_cases h3:np<=(l.length:Int)
 ·have e:Ms np nd l q=9:=by simp [Ms,h0,hqi,h1,h2,h3]
  rw [e,if_neg (by decide)];refine Fw func132 rfl ?_;exact Uf [] [0] [.k cf,.c [0] ca,.k cm,.f (by simpa using h0),.f (by simpa using h1),.k cd,.f (by simpa using h2),.t (by simp; omega)] rfl
 have e:Ms np nd l q=0:=by simp [Ms,h0,hqi,h1,h2,h3]
 rw [e,if_pos rfl];have s1:∀ c∈(l.map Fa).take (Im l id),c.length=5:=λc hc=>XI l c (Qo hc)
 have s3:∀ c∈(l.map Fa).drop (Im l id),c.length=5:=λc hc=>XI l c (Q3 hc)
 have ep:pts (put l q)=.row ((l.map Fa).take (Im l id)++[Fa q]++(l.map Fa).drop (Im l id)):=by
  simp [put,hqi,pts,Jv,Vh]
 have eB:tB np nd (put l q)=.blk 159 [.int .i64 np,.int .i64 nd,.row ((l.map Fa).take (Im l id)++[Fa q]++(l.map Fa).drop (Im l id))]:=by
  show OB.blk 159 [.int .i64 np,.int .i64 nd,pts (put l q)]=_;rw [ep]
 rw [eB];refine Fw func132 rfl ?_;exact Uf [2] [0] [.k cf,.c [0] ca,.k cm,.f (by simpa using h0),.f (by simpa using h1),.k cd,.f (by simpa using h2),.f (by simp; omega),.i (Im l id),.s s1,.i (Im l id),.s s3] rfl (by
  simp only [Uz,Qy,Q7,X6,Qt,Zj,hll]
  and_intros <;> first | exact XI l | omega)
theorem Qfa {np nd:Int} {l:List Pt} (hok:∀ p∈l,oV 4294967294 1073741824 p) (hl:l.length≤1000000):U5 prog 29 [.one (.ow 0 0)] [tB np nd l] [.one (pts l)] [tB np nd l]:=by
 have hll:(l.map Fa).length=l.length:=by simp
 refine Fw func29 rfl ?_;refine Ub [.o 3 40 5] rfl ?_;refine Ug (S:=Nat) 2 (λL1 i=>(11,.v (.oi i))::(3,.v (.one (.orow 1 5 none)))::L1) (λi=>[tB np nd l,.row false 40 5 ((l.take i).map Fa)]) (λi=>l.length-i) (λi=>i<=l.length) 0 (Qh _) rfl rfl λi hi=>?_
 by_cases h:i<l.length
 ·obtain ⟨p,hp⟩:=gxE (l:=l) (i:=i) h;have hpo:=hok p (Qa hp);have cf:=sE hpo.1 hpo.2;have s2:∀ c∈[Fa p],c.length=5:=λc hc=>by rw [Qk.1 hc]; rfl
  have hg:(l.take (i+1)).map Fa=(l.take i).map Fa++[Fa p]:=by rw [Zv,hp]; simp
  refine Uc [.t (by simp; omega),.x (Ta hp),.k cf,.s s2] rfl ?_;exact rd (i+1) (by omega) h (by rw [hg]; rfl)
 ·obtain rfl:i=l.length:=by omega
  rw [Q5];exact Uf [1] [0] [.f (by simp)] rfl
theorem Qfb {np nd:Int} {l:List Pt}:U5 prog 62 [.one (.ow 0 0)] [tB np nd l] [.one (.ow 1 0)] [tB np nd l,tB np nd l]:=by
 refine Fw func62 rfl ?_;exact Uf [] [0,1] [] rfl
end Orr
