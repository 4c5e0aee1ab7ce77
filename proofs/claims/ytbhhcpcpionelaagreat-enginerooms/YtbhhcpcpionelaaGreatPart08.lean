/- H1 HullQ HullS HullT PairQ PW1 DigL R1 R2 S2 S3 NewsN PW2 TouL TouQ MeshN EnL KT EnS SD1 En1 TW1 -/
import Derived.Test.YtbhhcpcpionelaaGreatPart07
import Derived.Test.YtbhhcpcpionelaaGreatPart05
import Derived.Test.YtbhhcpcpionelaaGreatPart00
import Derived.Test.YtbhhcpcpionelaaGreatPart04
set_option linter.all false
namespace Orr
open Go Go.Proofs Tryz Orq
set_option maxRecDepth 10000
theorem gz {P:Program} [Mo P] {n:Nat} {Q:Exit->Sg->Ug->Prop} {L L':Sg} {B B':Ug} (i:Nat) {it:List It} (hs:Ho it=true) (h:dM [i] L B=some (L',B')) (k:AK P n Q it L' B'):AK P n Q it L B:=AK.sub (VE h) hs k
theorem MG {r:Ua} {i:Nat} {p:W9} (h:r[i]? = some p):(QV r)[i]? = some [pl p]:=Hj h
theorem La {l:List Ua} {i:Nat} {r:Ua} (h:l[i]? = some r):(Ej l)[i]? = some [.row (QV r)]:=Hj h
theorem eH {r:Ua} (ht:∀ p∈r,Uu p) (hb:∀ p∈r,Bd 1000000 p) (hl:∀ p∈r,p.length≤1000000) (hn:r.length≤1000):W6 249 [.one (.row (QV r))] [.one (.row (QV r))]:=by
 have hrl:(QV r).length=r.length:=by simp
 refine Fl func249 rfl ?_;refine Wy [.o 3 34 1] rfl ?_;refine W5 (S:=Nat) 1 (λL1 i=>(8,.v (.oi i))::(3,.v (.one (.orow 0 1 none)))::L1) (λi=>[.row false 34 1 (QV (r.take i))]) (λi=>r.length-i) (λi=>i<=r.length) 0 (Qi _) rfl rfl λi hi=>?_
 by_cases h:i<r.length
 ·obtain ⟨p,hp⟩:=gxE (l:=r) (i:=i) h;have hm:=Qa hp;have hs:∀ y∈[[pl p]],y.length=1:=λy hy=>by rw [Ql.1 hy]; rfl
  have e:QV (r.take (i+1))=QV (r.take i)++[[pl p]]:=by rw [Z5,hp]; simp
  refine go tt [.T,.x (MG hp),.k (G0 (ht p hm) (by have:=hl p hm; omega) (Uk (hb p hm) (by decide))),.s (sz:=1) hs] rfl (by simp [Ul] <;> omega) ?_;exact rd (i+1) (by omega) h (by rw [e]; rfl)
 ·obtain rfl:i=r.length:=by omega
  rw [Q5];exact W0 [.F] rfl
theorem Qpb {s k w:Nat} {ds:Ub} {rows:List Ua} (h:Sq s ds k k rows) (_hw:w=k) (hk:k<=4):W6 278 [.one (.row (Ej rows))] [.one (.bool true)]:=by
 have hrl:=ZK rows;have hl:=h.l;refine Fl func278 rfl ?_;refine Wy [] rfl ?_;refine W5 (S:=Nat) 0 (λL1 i=>(7,.v (.oi i))::L1) (λ_=>[]) (λi=>rows.length-i) (λi=>i<=rows.length) 0 (Qi _) rfl rfl λi hi=>?_
 by_cases hlt:i<rows.length
 ·obtain ⟨r,hr⟩:=gxE (l:=rows) (i:=i) hlt;have hw:=h.w r (Qa hr);have hql:(QV r).length=r.length:=by simp
  refine go tt [.T,.x (La hr),.f (decide_eq_false (λh=>h (by omega)))] rfl (by simp [Ul] <;> omega) ?_;exact rd (i+1) (by omega) hlt rfl
 ·exact W0 [.F] rfl (by rw [decide_eq_true (by omega:((Ej rows).length:Int)<=4)]) trivial
theorem Qge {s k w:Nat} {ds:Ub} {rows:List Ua} (h:Sq s ds k w rows) (hs:s<=1000000) (hk:k<=4) (hw:w<=4) (hd:∀ j,ds.getD j 0<=1000) (i:Nat):W6 302 [.oi i,.oi 0,.one (.row (Ej rows))] [.one (.row (Ej (ZD rows i)))]:=by
 have hrl:=ZK rows;have hl:=h.l;have hml:∀ j,j<=rows.length->(Ej (O0 i rows j)).length<=4:=λj hj=>by
  rw [ZK,PU]; split <;> omega
 refine Fl func302 rfl ?_;refine Wy [.o 7 322 1] rfl ?_;refine W5 (S:=Nat) 1 (λL1 j=>(15,.v (.oi j))::(7,.v (.one (.orow 0 1 none)))::L1) (λj=>[.row false 322 1 (Ej (O0 i rows j))]) (λj=>rows.length-j) (λj=>j<=rows.length) 0 (Qi _) rfl rfl λj hj=>?_
 have hmlj:=hml j hj;by_cases hlt:j<rows.length
 ·obtain ⟨r,hr⟩:=gxE (l:=rows) (i:=j) hlt;have hm:=Qa hr;have hw:=h.w r hm;have hql:(QV r).length=r.length:=by simp
  by_cases hij:j=i
  ·have e:O0 i rows (j+1)=O0 i rows j:=by simp only [O0]; rw [if_pos hij]
   refine go tt [.T,.x (La hr),.T] rfl (by simp [Ul] <;> omega) ?_;exact rd (j+1) (by omega) hlt (by rw [e]; rfl)
  ·have e:O0 i rows (j+1)=O0 i rows j++[r.drop 1]:=by
    simp only [O0]; rw [if_neg hij,Qj,hr]; rfl
   refine Wy [.T,.x (La hr),.F,.o 10 34 1] rfl ?_ (by simp [Ul]);refine W5 (S:=Nat) 2 (λL1 c=>(25,.v (.oi c))::(10,.v (.one (.orow 1 1 none)))::L1) (λc=>[.row false 322 1 (Ej (O0 i rows j)),.row false 34 1 (QV ((r.take c).drop 1))]) (λc=>r.length-c) (λc=>c<=r.length) 0 (Qi _) rfl rfl λc hc=>?_
   by_cases hcl:c<r.length
   ·obtain ⟨p,hp⟩:=gxE (l:=r) (i:=c) hcl;have hpm:=Qa hp;by_cases h0:c=0
    ·subst h0;refine Wy [.T,.x (MG hp),.f (decide_eq_false (by simp))] rfl ?_ (by simp [Ul]);exact rd 1 (by omega) hcl (by rw [Z5,hp]; rfl)
    ·have hs1:∀ y∈[[pl p]],y.length=1:=λy hy=>by rw [Ql.1 hy]; rfl
     have e2:QV ((r.take (c+1)).drop 1)=QV ((r.take c).drop 1)++[[pl p]]:=by
      rw [Z5,hp,Kv (by rw [Qp]; omega)]; simp
     refine go tt [.T,.x (MG hp),.T,.k (G0 (h.t r hm p hpm) (by have:=h.n r hm c p hp; have:=hd c; omega) (Uk (h.b r hm p hpm) (by omega))),.s (sz:=1) hs1] rfl (by simp [Ul] <;> omega) ?_;exact rd (c+1) (by omega) hcl (by rw [e2]; rfl)
   ·obtain rfl:c=r.length:=by omega
    rw [Q5];have hs1:∀ y∈[[LV.row (QV (r.drop 1))]],y.length=1:=λy hy=>by rw [Ql.1 hy]; rfl
    refine Wy [.F] rfl ?_;refine gz 1 rfl rfl ?_;refine go tt [.s (sz:=1) hs1] rfl (by simp [Ul] <;> omega) ?_;exact rd (j+1) (by omega) hlt (by rw [e]; simp [Ej]; rfl)
 ·obtain rfl:j=rows.length:=by omega
  exact W0 [.F] rfl
theorem FU:∀ (ds:Ub) (j:Nat),ds.getD j 0<=ds.sum
 | [],j=>by simp
 | d::ds,0=>by simp
 |
  d::ds,j+1=>by
  have:=FU ds j;rw [Kc];show ds.getD j 0<=_;omega
theorem Qjz {s:Nat} (hs:s<=100000):∀ (k:Nat) (ds:Ub) (rows:List Ua),k<=4->ds.length=k->ds.sum<31->Sq s ds k k rows->W6 279 [.one (.row (Ej rows))] [pr (Co k rows)]
 |
  0,ds,rows,_,_,_,h=>by
  have e:=Qh h.l;subst e;have co:=BY (p:=[1]) (by decide) (by decide);exact W3 func279 rfl [.t rfl,.k co] rfl
 | k+1,[],_,_,hl,_,_=>by simp at hl
 |
  k+1,d::ds,rows,hk,hl,hd,h=>by
  rw [Kc] at hd;have hl':ds.length=k:=by simpa using hl
  have hrl:=ZK rows;have hrn:=h.l;have hmin:=λi (hi:i<k+1)=>h.min hi
  have ih:=λi (hi:i<k+1)=>Qjz hs k ds (ZD rows i) (by omega) hl' (by omega) (hmin i hi)
  have hok:=λi (hi:i<k+1)=>HG k ds (ZD rows i) (by omega) hl' (by omega) (hmin i hi)
  have hb:k*(s+10)+1<=500000:=by
   have:k*(s+10)<=4*(100010):=Zk (by omega) (by omega);omega
  have hds:=EC (f:=λi=>Co k (ZD rows i)) (B:=k*(s+10)+1) (L:=ds.sum) h (by omega) (λi hi=>⟨(hok i hi).2.1,(hok i hi).2.2⟩);have cm:=Qge h (by omega) hk hk (λj=>by have:=FU (d::ds) j; rw [Kc] at this; omega);show W6 279 [.one (.row (Ej rows))] [pr (Bi (λi=>Co k (ZD rows i)) rows (k+1))];obtain ⟨f,hf⟩:=nmE (λi=>Co k (ZD rows i));rw [<-hf] at hds ⊢;have hfi:∀ i,f i=Co k (ZD rows i):=λi=>by rw [hf]
  refine Fl func279 rfl ?_;refine Wy [.F,.z 3] rfl ?_;refine W5 (S:=Nat) 0 (λL1 i=>(14,.v (.oi i))::(3,.v (pr (Bi f rows i)))::L1) (λ_=>[]) (λi=>k+1-i) (λi=>i<=k+1) 0 (Qi _) rfl rfl λi hi=>?_
  obtain ⟨d1,d2,d3⟩:=hds i hi;by_cases hlt:i<k+1
  ·obtain ⟨p,r,hr,e,t,b,l⟩:=h.at hlt;have hx0:(QV (p::r))[0]? = some [pl p]:=rfl;have hpl:(p.map Gw).length=p.length:=by simp
   have cn:=G0 t (by omega) (Uk b (by omega));by_cases h0:p.length=0
   ·have es:Bi f rows (i+1)=Bi f rows i:=by simp only [Bi]; rw [e,if_pos h0]
    refine go tt [.T,.x (La hr),.x hx0,.k cn,.T] rfl (by simp [Ul] <;> omega) ?_;exact rd (i+1) (by omega) hlt (by rw [es]; rfl)
   ·obtain ⟨k1,k2,k3⟩:=hok i hlt;have ci:=ih i hlt;have cp:=WQ (p:=p) (q:=f i) t (by rw [hfi]; exact k1) (by omega) (by rw [hfi]; omega) b (by rw [hfi]; exact k2) (by omega);have hmb:Bd (s+(k*(s+10)+1)+5) (Fv p (f i)):=S4 b (by rw [hfi]; exact k2) (by omega);have hml:=Tl p (f i);have hfl:(f i).length<=ds.sum+1:=by rw [hfi]; exact k3
    rw [<-hfi] at ci;by_cases h2:i % 2=0
    ·have es:Bi f rows (i+1)=JV (Bi f rows i) (Fv p (f i)):=by simp only [Bi]; rw [e,if_neg h0,if_pos h2]
     refine go tt [.T,.x (La hr),.x hx0,.k cn,.F,.x hx0,.k (cm i),.k ci,.k cp,.r 34 (eI (b:=((i % 2:Nat):Int)) rfl),.T,.k (EQ (p:=Bi f rows i) (q:=Fv p (f i)) (by omega) (by omega) (Uk d2 (by omega)) (Uk hmb (by omega)))] rfl (by simp [Ul] <;> omega) ?_;exact rd (i+1) (by omega) hlt (by rw [es]; rfl)
    ·have es:Bi f rows (i+1)=Nt (Bi f rows i) (Fv p (f i)):=by simp only [Bi]; rw [e,if_neg h0,if_neg h2]
     refine go tt [.T,.x (La hr),.x hx0,.k cn,.F,.x hx0,.k (cm i),.k ci,.k cp,.r 34 (eI (b:=((i % 2:Nat):Int)) rfl),.F,.k (WZ (p:=Bi f rows i) (q:=Fv p (f i)) (by omega) (by omega) (Uk d2 (by omega)) (Uk hmb (by omega)))] rfl (by simp [Ul] <;> omega) ?_;exact rd (i+1) (by omega) hlt (by rw [es]; rfl)
  ·obtain rfl:i=k+1:=by omega
   exact W0 [.F] rfl
theorem Qju {s:Nat} (hs:s<=100000) {k:Nat} {ds:Ub} {rows:List Ua} (hk:k<=4) (hl:ds.length=k) (hd:ds.sum<31) (h:Sq s ds k k rows):W6 250 [.one (.row (Ej rows))] [pr (Co k rows),.oi 0] :=
 W3 func250 rfl [.k (Qpb h rfl hk),.f rfl,.k (Qjz hs k ds rows hk hl hd h)] rfl
theorem wV {k:Crv} (hk:Sc k):W6 248 [.agg (cl k)] [.one (.row (QV [k.x,k.y,[k.d]]))]:=by
 have h0:k.d≠0:=by have:=hk.n.2.2.1; omega
 have td:Uu [k.d]:=by unfold Uu; simp [trim,h0]
 have cd:=eH (r:=[k.x,k.y,[k.d]]) (λp hp=>by
  rcases Qk.1 hp with rfl | hp
  ·exact hk.n.1
  rcases Qk.1 hp with rfl | hp
  ·exact hk.n.2.1
  ·rw [Ql.1 hp]; exact td) (λp hp=>by
  rcases Qk.1 hp with rfl | hp
  ·exact Uk hk.c.x (by decide)
  rcases Qk.1 hp with rfl | hp
  ·exact Uk hk.c.y (by decide)
  ·rw [Ql.1 hp];intro z hz; rw [Ql.1 hz]; exact Qd hk.c.d (by decide)) (λp hp=>by
  rcases Qk.1 hp with rfl | hp
  ·have:=hk.c.lx; omega
  rcases Qk.1 hp with rfl | hp
  ·have:=hk.c.ly; omega
  ·rw [Ql.1 hp]; show 1<=1000000; decide) (by show 3<=1000; decide)
 exact W3 func248 rfl [.k (Bu hk.n (hk.c.mono (by decide) (by decide))),.k cd] rfl
theorem yO {a b c:Crv} (ha:Sc a) (hb:Sc b) (hc:Sc c):Sq 128 [2,2,0] 3 3 (jG a b c):=by
 have key:∀ k:Crv,Sc k->(∀ p∈[k.x,k.y,[k.d]],Uu p/\Bd 128 p)/\∀ (j:Nat) (p:W9),[k.x,k.y,[k.d]][j]? = some p->p.length≤[2,2,0].getD j 0+1:=λk hk=>by
  have h0:k.d≠0:=by have:=hk.n.2.2.1; omega
  have td:Uu [k.d]:=by unfold Uu; simp [trim,h0]
  refine ⟨λp hp=>?_,λj p hp=>?_⟩
  ·rcases Qk.1 hp with rfl | hp
   ·exact ⟨hk.n.1,hk.c.x⟩
   rcases Qk.1 hp with rfl | hp
   ·exact ⟨hk.n.2.1,hk.c.y⟩
   ·rw [Ql.1 hp];exact ⟨td,λz hz=>by rw [Ql.1 hz]; exact hk.c.d⟩
  ·match j,hp with
   | 0,hp=>injection hp with hp; subst hp; exact hk.c.lx
   | 1,hp=>injection hp with hp; subst hp; exact hk.c.ly
   | 2,hp=>injection hp with hp; subst hp; exact Qn _
   | j+3,hp=>simp at hp
 have hr:∀ r∈jG a b c,∃ k:Crv,Sc k/\r=[k.x,k.y,[k.d]]:=λr hr=>by
  rcases Qk.1 hr with rfl | hr
  ·exact ⟨a,ha,rfl⟩
  rcases Qk.1 hr with rfl | hr
  ·exact ⟨b,hb,rfl⟩
  ·rw [Ql.1 hr]; exact ⟨c,hc,rfl⟩
 refine ⟨rfl,λr h=>?_,λr h p hp=>?_,λr h p hp=>?_,λr h j p hp=>?_⟩
 all_goals obtain ⟨k,hk,rfl⟩:=hr r h
 ·rfl
 ·exact ((key k hk).1 p hp).1
 ·exact ((key k hk).1 p hp).2
 ·exact (key k hk).2 j p hp
theorem QD {a b c:Crv} (ha:Sc a) (hb:Sc b) (hc:Sc c):Cp (Gk a b c):=by
 obtain ⟨h1,h2,h3⟩:=HG 3 [2,2,0] (jG a b c) (by decide) rfl (by decide) (yO ha hb hc);exact ⟨h1,Qd h3 (by decide),Uk h2 (by decide)⟩
theorem qT {a b c:Crv} (ha:Sc a) (hb:Sc b) (hc:Sc c):W6 209 [.agg (cl a),.agg (cl b),.agg (cl c)] [pr (Gk a b c)]:=by
 have cd:=Qju (by decide) (k:=3) (ds:=[2,2,0]) (by decide) rfl (by decide) (yO ha hb hc);exact W3 func209 rfl [.k (wV ha),.k (wV hb),.k (wV hc),.k cd] rfl
end Orr
namespace Orq
open Orr Go
theorem vF {p q:W9} (tp:Uu p) (tq:Uu q) (h:∀ i,p.getD i 0=q.getD i 0):p=q:=by
 have hl:∀ {p q:W9},Uu p->(∀ i,p.getD i 0=q.getD i 0)->p.length<=q.length:=λ{p q} tp h=>by
  refine Nat.not_lt.1 λhn=>?_
  have h1:=Hu tp (by omega);rw [h,Qj,Q0 (by omega)] at h1;exact h1 rfl
 have e:=Kt (hl tp h) (hl tq λi=>(h i).symm);refine List.ext_getElem e λi h1 h2=>?_
 have:=h i;rw [Qj,Qj,Qe h1,Qe h2] at this;exact this
theorem zL {p:W9} (h:p=[]) (i:Nat):p.getD i 0=0:=by rw [h]; simp
theorem Dx (p:W9) (c:Int) (i:Nat):(Fh p c).getD i 0=p.getD i 0*c:=by
 unfold Fh;rw [Bj]
 split
 ·rfl
 ·rename_i h;rw [Qj,Q0 (by omega)]; simp
theorem MW (p q:W9) (i:Nat):(Nt p q).getD i 0=p.getD i 0-q.getD i 0:=by
 unfold Nt;rw [Bj]
 split
 ·rfl
 ·rename_i h;rw [Qj,Qj,Q0 (by omega),Q0 (by omega)]; simp
theorem Qhy {x y:Crv} (hx:I2 x) (hy:I2 y) (h1:Fg x y=[]) (h2:Ff x y=[]):x=y:=by
 have e1:∀ i,y.x.getD i 0*x.d=x.x.getD i 0*y.d:=λi=>by
  have:=zL h1 i;unfold Fg at this;rw [MW,Dx,Dx] at this;omega
 have e2:∀ i,y.y.getD i 0*x.d=x.y.getD i 0*y.d:=λi=>by
  have:=zL h2 i;unfold Ff at this;rw [MW,Dx,Dx] at this;omega
 have key:∀ {x y:Crv},I2 x->I2 y->(∀ i,y.x.getD i 0*x.d=x.x.getD i 0*y.d)->(∀ i,y.y.getD i 0*x.d=x.y.getD i 0*y.d)->x.d∣y.d:=λ{x y} hx hy e1 e2=>by
  have hd:=zU (d:=x.d) (l:=(x.d::(x.x++x.y)).map (· * y.d)) λz hz=>by
   obtain ⟨w,hw,rfl⟩:=Zf.1 hz;rcases Qk.1 hw with rfl | hw
   ·exact Int.dvd_mul_right _ _
   ·rcases Qr.1 hw with hw | hw
    ·obtain ⟨i,hi,rfl⟩:=Vn.1 hw;have:=e1 i;rw [show x.x.getD i 0=x.x[i] from by rw [Qj,Qe hi]; rfl] at this;rw [<-this]; exact Yw _ _
    ·obtain ⟨i,hi,rfl⟩:=Vn.1 hw;have:=e2 i;rw [show x.y.getD i 0=x.y[i] from by rw [Qj,Qe hi]; rfl] at this;rw [<-this]; exact Yw _ _
  rw [Qaz,hx.2.2.2,Ww] at hd;exact Ka hd (Int.natAbs_dvd.2 (Kl _))
 have hd:x.d=y.d:=Int.dvd_antisymm (Int.le_of_lt hx.2.2.1) (Int.le_of_lt hy.2.2.1) (key hx hy e1 e2) (key hy hx (λi=>(e1 i).symm) λi=>(e2 i).symm);have hd0:y.d≠0:=by have:=hy.2.2.1; omega
 rw [hd] at e1 e2;have ex:x.x=y.x:=vF hx.1 hy.1 λi=>(Ys hd0 (e1 i)).symm
 have ey:x.y=y.y:=vF hx.2.1 hy.2.1 λi=>(Ys hd0 (e2 i)).symm
 cases x; cases y;simp only at hd ex ey;rw [hd,ex,ey]
theorem Qi7 (l:List Pt):(H7 l).Pairwise λx y=>x.c≠y.c:=by
 have key:∀ (l out:List Pt),out.Pairwise (λx y=>x.c≠y.c)->(l.foldl Mv out).Pairwise λx y=>x.c≠y.c:=by
  intro l
  induction l with
  | nil=>intro out h; exact h
  |
   cons p l ih =>
   intro out h;refine ih _ ?_;unfold Mv
   split
   ·exact h
   ·rename_i hn;refine Xj.2 ⟨h,Y6 _ _,λa ha b hb e=>hn ?_⟩;rw [Ql.1 hb] at e;rw [List.any_eq_true];exact ⟨a,ha,by rw [<-e]; simp [Eg]⟩
 exact key l [] .nil
theorem Qeg (l:List Pt):(H7 l).Sublist l:=by
 have key:∀ (l out o:List Pt),out.Sublist o->(l.foldl Mv out).Sublist (o++l):=by
  intro l
  induction l with
  | nil=>intro out o h; rw [Zw]; exact h
  |
   cons p l ih =>
   intro out o h;have:(Mv out p).Sublist (o++[p]):=by
    unfold Mv
    split
    ·exact h.trans (List.sublist_append_left _ _)
    ·exact h.append (List.Sublist.refl _)
   have:=ih _ _ this;rwa [Za] at this
 exact key l [] [] (List.Sublist.refl _)
theorem An (f:Nat->W9) (rows:List Ua) (q:Rat) (i:Nat):Up (Bi f rows (i+1)) q=Up (Bi f rows i) q+(if i % 2=0 then 1 else -1)*(Up ((rows.getD i []).getD 0 []) q*Up (f i) q):=by
 simp only [Bi]
 split
 ·rename_i h;have:Up ((rows.getD i []).getD 0 []) q=0:=by rw [Qh h]; rfl
  rw [this]; grind
 ·split
  ·rw [PI,Fe]; grind
  ·rw [Pq,Fe]; grind
theorem mK (z:Int) (q:Rat):Up [z] q=(z:Rat):=by simp [Up,Rat.add_zero]
theorem jN (p:W9) (q:Rat):Up (Co 1 [[p]]) q=Up p q:=by
 show Up (Bi (λi=>Co 0 (ZD [[p]] i)) [[p]] (0+1)) q=_;rw [An];show (0:Rat)+1*(Up p q*Up [1] q)=_;rw [mK];have:((1:Int):Rat)=1:=rfl;grind
theorem PE (p r s t:W9) (q:Rat):Up (Co 2 [[p,r],[s,t]]) q=Up p q*Up t q-Up s q*Up r q:=by
 show Up (Bi (λi=>Co 1 (ZD [[p,r],[s,t]] i)) [[p,r],[s,t]] (0+1+1)) q=_;rw [An,An];show (0:Rat)+1*(Up p q*Up (Co 1 [[t]]) q)+(-1)*(Up s q*Up (Co 1 [[r]]) q)=_;rw [jN,jN]; grind
theorem Qcs (a1 a2 a3 b1 b2 b3 c1 c2 c3:W9) (q:Rat):Up (Co 3 [[a1,a2,a3],[b1,b2,b3],[c1,c2,c3]]) q=Up a1 q*(Up b2 q*Up c3 q-Up c2 q*Up b3 q)-Up b1 q*(Up a2 q*Up c3 q-Up c2 q*Up a3 q)+Up c1 q*(Up a2 q*Up b3 q-Up b2 q*Up a3 q):=by
 show Up (Bi (λi=>Co 2 (ZD [[a1,a2,a3],[b1,b2,b3],[c1,c2,c3]] i)) [[a1,a2,a3],[b1,b2,b3],[c1,c2,c3]] (0+1+1+1)) q=_;rw [An,An,An];show (0:Rat)+1*(Up a1 q*Up (Co 2 [[b2,b3],[c2,c3]]) q)+(-1)*(Up b1 q*Up (Co 2 [[a2,a3],[c2,c3]]) q)+1*(Up c1 q*Up (Co 2 [[a2,a3],[b2,b3]]) q)=_;rw [PE,PE,PE]; grind
theorem gQ {a b c:Pt} (ha:Sc a.c) (hb:Sc b.c) (hc:Sc c.c) (q:Rat):Us (Up (Gk a.c b.c c.c) q)=Us (Mf (px · q) (py · q) a b c):=by
 have Hb:∀ {k:Crv},Sc k->(0:Rat)<(k.d:Rat):=λh=>by exact_mod_cast h.n.2.2.1
 have pa:=Hb ha;have pb:=Hb hb;have pc:=Hb hc;have xx:∀ {p:Pt},0<(p.c.d:Rat)->Up p.c.x q=px p q*(p.c.d:Rat)/\Up p.c.y q=py p q*(p.c.d:Rat):=λ{p} h=>by
  unfold px py;exact ⟨(Zd (by grind)).symm,(Zd (by grind)).symm⟩
 obtain ⟨xa,ya⟩:=xx pa;obtain ⟨xb,yb⟩:=xx pb;obtain ⟨xc,yc⟩:=xx pc;have e:Up (Gk a.c b.c c.c) q=((a.c.d:Rat)*(b.c.d:Rat)*(c.c.d:Rat))*Mf (px · q) (py · q) a b c:=by
  unfold Gk jG Mf;rw [Qcs,mK,mK,mK,xa,xb,xc,ya,yb,yc];grind
 rw [e,Nm (Xo (Xo pa pb) pc)]
def VY (sg:W9->Int) (a b c:Pt):Bool:=decide (0<Gn sg (Gk a.c b.c c.c))
def Tr (sg:W9->Int) (row:List Pt):List Pt:=(Se (VY sg) [] row).reverse
def De (sg:W9->Int) (row:List Pt):List Pt:=if row.length<3 then row else (Tr sg row).dropLast++(Tr sg row.reverse).dropLast
def Tt (l:List Pt) (a:Tm):List Pt:=De (U4 a) (Rv a (H7 l))
def Hi (C:List Pt):List (Pt×Pt):=C.zip (C.drop 1++C.take 1)
def Ci (sg:W9->Int) (a b c:Pt):Ct:=⟨3,a.id,b.id,c.id,0,Gk a.c b.c c.c,Gn sg (Gk a.c b.c c.c)⟩
def ZE (e:Pt×Pt) (c:Pt):Bool:=decide (c.id≠e.1.id) && decide (c.id≠e.2.id)
def Lj (sg:W9->Int) (l:List Pt) (e:Pt×Pt):List Ct:=(l.filter (ZE e)).map λc=>Ci sg e.1 e.2 c
def Mc (sg:W9->Int) (l C:List Pt):List Ct:=if C.length<2 then [] else (Hi C).flatMap (Lj sg l)
def NE (l:List Pt) (a:Tm):List Ct:=ZC l a++Mc (U4 a) l (Tt l a)
abbrev bK (l:List Pt) (a:Tm):Uf:=Uj (Tt l a)
def RY (l:List Pt):Ua:=l.flatMap λx=>l.flatMap λy=>l.map λz=>Gk x.c y.c z.c
theorem qJ {l:List Pt} {x y z:Pt} (hx:x∈l) (hy:y∈l) (hz:z∈l):Gk x.c y.c z.c∈RY l :=
 Zj.2 ⟨x,hx,Zj.2 ⟨y,hy,Zf.2 ⟨z,hz,rfl⟩⟩⟩
theorem Qfb {l:List Pt} (hl:∀ p∈l,Sc p.c):∀ p∈RY l,Cp p:=λp hp=>by
 obtain ⟨x,hx,hp⟩:=Zj.1 hp;obtain ⟨y,hy,hp⟩:=Zj.1 hp;obtain ⟨z,hz,rfl⟩:=Zf.1 hp;exact QD (hl x hx) (hl y hy) (hl z hz)
theorem MJ {α:Type} (s:α->α->α->Bool) (c:α):∀ st:List α,(Cu s c st).Sublist st
 | []=>List.Sublist.refl _
 | [_]=>List.Sublist.refl _
 |
  b::a::r=>by
  simp only [Cu]
  split
  ·exact List.Sublist.refl _
  ·exact (MJ s c (a::r)).trans (List.sublist_cons_self _ _)
theorem XN {α:Type} {s:α->α->α->Bool}:∀ {l acc:List α} {x:α},x∈Se s acc l->x∈acc\/x∈l
 | [],acc,x,h=>.inl h
 |
  c::l,acc,x,h=>by
  rcases XN (l:=l) h with h | h
  ·rcases Qk.1 h with rfl | h
   ·exact .inr (by simp)
   ·exact .inl ((MJ s c acc).subset h)
  ·exact .inr (Qf _ h)
theorem XM {α:Type} (s:α->α->α->Bool):∀ (l acc:List α),(Se s acc l).length<=acc.length+l.length
 | [],acc=>by simp [Se]
 |
  c::l,acc=>by
  have h1:=XM s l (c::Cu s c acc);have h2:=(MJ s c acc).length_le;simp only [Se,Q7] at h1 ⊢;omega
theorem TF {sg:W9->Int} {row:List Pt} {x:Pt} (h:x∈Tr sg row):x∈row:=by
 unfold Tr at h;rcases XN (Je.1 h) with h | h
 ·cases h
 ·exact h
theorem Ic (sg:W9->Int) (row:List Pt):(Tr sg row).length<=row.length:=by
 have:=XM (VY sg) row [];unfold Tr; rw [List.length_reverse]; simpa using this
theorem fB {sg:W9->Int} {row:List Pt} {x:Pt} (h:x∈De sg row):x∈row:=by
 unfold De at h
 split at h
 ·exact h
 ·rcases Qr.1 h with h | h
  ·exact TF ((List.dropLast_sublist _).subset h)
  ·exact Je.1 (TF ((List.dropLast_sublist _).subset h))
theorem fN (sg:W9->Int) (row:List Pt):(De sg row).length<=2*row.length:=by
 unfold De
 split
 ·omega
 ·have h1:=Ic sg row;have h2:=Ic sg row.reverse;rw [Xn] at h2;rw [Qu,List.length_dropLast,List.length_dropLast]; omega
theorem Ab {l:List Pt} {a:Tm} {x:Pt} (h:x∈Tt l a):x∈l:=Py (Gu.1 (fB h))
theorem WW (l:List Pt) (a:Tm):(Tt l a).length<=2*l.length:=by
 have h1:=fN (U4 a) (Rv a (H7 l));rw [Nk] at h1;have:=A4 l;unfold Tt; omega
theorem FV {C:List Pt} {e:Pt×Pt} (h:e∈Hi C):e.1∈C/\e.2∈C:=by
 unfold Hi at h;have h1:=List.of_mem_zip (show (e.1,e.2)∈_ from h);refine ⟨h1.1,?_⟩;rcases Qr.1 h1.2 with h | h
 ·exact Qy h
 ·exact Qm h
theorem uY {sg:W9->Int} {l C:List Pt} {x:Ct} (h:x∈Mc sg l C):∃ e∈Hi C,∃ c∈l,ZE e c=true/\x=Ci sg e.1 e.2 c:=by
 unfold Mc at h
 split at h
 ·cases h
 ·obtain ⟨e,he,h⟩:=Zj.1 h;obtain ⟨c,hc,rfl⟩:=Zf.1 h;obtain ⟨h1,h2⟩:=J5.1 hc;exact ⟨e,he,c,h1,h2,rfl⟩
theorem LL {l:List Pt} {a:Tm}:∀ x∈NE l a,x.p∈Dn l++RY l:=λx hx=>by
 rcases Qr.1 hx with hx | hx
 ·exact Xz _ (rM x hx)
 ·obtain ⟨e,he,c,hc,_,rfl⟩:=uY hx;obtain ⟨h1,h2⟩:=FV he;exact X9 _ (qJ (Ab h1) (Ab h2) hc)
theorem GR {l:List Pt} (hl:∀ p∈l,Sc p.c):∀ p∈Dn l++RY l,Cp p:=λp hp=>by
 rcases Qr.1 hp with h | h
 ·exact A7 hl p h
 ·exact Qfb hl p h
theorem XL {α β:Type} (f:α->List β) (n:Nat):∀ (m:List α),(∀ x∈m,(f x).length≤n)->(m.flatMap f).length≤m.length*n
 | [],_=>by simp
 |
  x::m,h=>by
  have:=XL f n m λy hy=>h y (Qf _ hy)
  have:=h x (by simp);rw [Jp,Qu,Q7,Z6]; omega
theorem uJ (sg:W9->Int) (l C:List Pt):(Mc sg l C).length<=C.length*l.length:=by
 unfold Mc
 split
 ·simp
 ·refine Qd (XL _ l.length _ λe _=>?_) (Qz _ ?_)
  ·unfold Lj; rw [List.length_map]; exact List.length_filter_le _ _
  ·unfold Hi; rw [List.length_zip]; exact Nat.min_le_left _ _
theorem kW {l:List Pt} (hl:∀ p∈l,Sc p.c) (hn:l.length≤10):BuildOk (NE l) :=
 ⟨λ_ _ x hx=>GR hl _ (LL x hx),λa _=>by
  have h1:=uJ (U4 a) l (Tt l a);have h2:=WW l a;have h3:(Tt l a).length*l.length<=20*10:=Zk (by omega) hn;show (ZC l a++Mc (U4 a) l (Tt l a)).length<=1000;have h4:(ZC l a).length<=l.length:=by unfold ZC; rw [Mq,Nk]; omega
  rw [Qu]; omega⟩
def Ef {α:Type} (l:List α):List (α×α):=l.zip (l.drop 1)
theorem EE {α:Type} {Q:α->α->Prop}:∀ {l:List α},Edg Q l↔∀ e∈Ef l,Q e.1 e.2
 | []=>by simp [Edg,Ef]
 | [_]=>by simp [Edg,Ef]
 |
  a::b::l=>by
  have ih:=EE (Q:=Q) (l:=b::l);have e:Ef (a::b::l)=(a,b)::Ef (b::l):=rfl;rw [e];constructor
  ·rintro ⟨h1,h2⟩ x hx
   rcases Qk.1 hx with rfl | hx
   ·exact h1
   ·exact ih.1 h2 x hx
  ·intro h;exact ⟨h (a,b) (by simp),ih.2 λx hx=>h x (Qf _ hx)⟩
theorem TM {α:Type} (f z:α) (A:List α):Ef (f::A++[z])=(f::A).zip (A++[z]):=by
 unfold Ef;rw [Z7,List.drop_succ_cons,Yi];have:f::(A++[z])=(f::A)++[z]:=rfl;rw [this];have h:A++[z]=(A++[z])++[]:=(Zw _).symm
 conv=>lhs; rw [h]
 rw [List.zip_append (by simp)];simp
theorem zR {f z:Pt} {A B:List Pt}:Hi ((f::A++[z]).dropLast++(z::B++[f]).dropLast)=Ef (f::A++[z])++Ef (z::B++[f]):=by
 rw [Vl,Vl,TM,TM,<-List.zip_append (by simp)];unfold Hi;congr 1;simp
theorem Edg.rev {α:Type} {Q:α->α->Prop}:∀ {l:List α},Edg Q l->Edg (λa b=>Q b a) l.reverse:=by
 have app:∀ {Q:α->α->Prop} {l:List α} {b a:α},Edg Q (l++[b])->Q b a->Edg Q (l++[b]++[a]):=by
  intro Q l
  induction l with
  | nil=>intro b a _ h; exact ⟨h,trivial⟩
  |
   cons x l ih =>
   intro b a h h2;cases l with
   | nil=>exact ⟨h.1,ih h.2 h2⟩
   | cons y l=>exact ⟨h.1,ih h.2 h2⟩
 intro l
 induction l with
 | nil=>intro _; trivial
 |
  cons a l ih =>
  intro h;cases l with
  | nil=>trivial
  |
   cons b l =>
   have:=ih h.2;rw [Ya] at this ⊢;rw [Ya];exact app this h.1
theorem Cnv.rev {α:Type} {R:α->α->α->Prop}:∀ {l:List α},Cnv R l->Cnv (λa b c=>R c b a) l.reverse:=by
 have app:∀ {R:α->α->α->Prop} {l:List α} {c b a:α},Cnv R (l++[c,b])->R c b a->Cnv R (l++[c,b,a]):=by
  intro R l
  induction l with
  | nil=>intro c b a _ h; exact ⟨h,trivial⟩
  |
   cons x l ih =>
   intro c b a h h2;cases l with
   | nil=>exact ⟨h.1,ih h.2 h2⟩
   |
    cons y l =>
    cases l with
    | nil=>exact ⟨h.1,ih h.2 h2⟩
    | cons w l=>exact ⟨h.1,ih h.2 h2⟩
 intro l
 induction l with
 | nil=>intro _; trivial
 |
  cons a l ih =>
  intro h
  match l,h with
  | [],_=>trivial
  | [_],_=>trivial
  |
   b::c::l,h =>
   have:=ih h.2;rw [Ya,Ya,Za] at this;rw [Ya,Ya,Ya,Za,Za];exact app this h.1
section
variable {α:Type} {lt lt':α->α->Bool}
theorem MY {out:List α} {x:α} (h:∀ y∈out,lt x y=lt' x y):∀ k,Dc lt out x k=Dc lt' out x k
 | 0=>rfl
 |
  k+1=>by
  simp only [Dc];cases hy:out[k]? with
  | none=>rfl
  | some y=>simp only [h y (Qa hy),MY h k]
theorem FW {l:List α} (h:∀ u∈l,∀ v∈l,lt u v=lt' u v):∀ (m out:List α),(∀ x∈m,x∈l)->(∀ x∈out,x∈l)->m.foldl (C5 lt) out=m.foldl (C5 lt') out
 | [],_,_,_=>rfl
 |
  x::m,out,h1,h2=>by
  have e:C5 lt out x=C5 lt' out x:=by
   unfold C5; rw [MY λy hy=>h x (h1 x (by simp)) y (h2 y hy)]
  simp only [Z4];rw [e];exact FW h m _ (λy hy=>h1 y (Qf _ hy)) λy hy=>by
   rcases VZ.1 hy with rfl | hy
   ·exact h1 _ (by simp)
   ·exact h2 y hy
end
theorem fC {a:Tm} {l:List Pt} {q:Rat} (hb:∀ u∈l,∀ v∈l,(Rh (U4 a) u v=true↔Ns q u v)) (hd:l.Pairwise λx y=>x.id≠y.id):(Rv a l).Pairwise (Ns q) :=
 SH (S:=λx=>x∈l) (D:=λx y=>x.id≠y.id) (ZZ q) (λu v hu hv h=>(hb u hu v hv).1 h) (λu v hu hv hne h=>xR (λe=>hne e.symm) λh'=>by
  rw [(hb u hu v hv).2 h'] at h; cases h) l [] .nil (λx hx=>by cases hx) (λx hx=>hx) hd (λx hx=>by cases hx)
theorem Qmv {a:Tm} (ha:Va a) {u v:Pt} (hu:Sc u.c) (hv:Sc v.c) {q:Rat} (h1:Gn (U4 a) (Fg u.c v.c)=Us (Up (Fg u.c v.c) q)) (h2:Gn (U4 a) (Ff u.c v.c)=Us (Up (Ff u.c v.c) q)) (hne:u.c≠v.c) (h:Ns q u v):lx (px · q) (py · q) u v:=by
 rcases h with h | ⟨h,h3⟩
 ·exact .inl h
 rcases h3 with h3 | ⟨h3,_⟩
 ·exact .inr ⟨h,h3⟩
 ·exfalso;rw [UN hu hv] at h1;rw [UM hu hv] at h2;have z1:Us (px v q-px u q)=0:=Fj.2 (by grind);have z2:Us (py v q-py u q)=0:=Fj.2 (by grind);rw [z1] at h1;rw [z2] at h2;have e1:(Fg u.c v.c).length=0:=Decidable.byContradiction λe=>(Dt ha (Pl hu hv).dp e).2 h1
  have e2:(Ff u.c v.c).length=0:=Decidable.byContradiction λe=>(Dt ha (Pk hu hv).dp e).2 h2
  exact hne (Qhy hu.n hv.n (Qh e1) (Qh e2))
structure LowC (X Y:Pt->Rat) (R L:List Pt):Prop where
 hd:L.head? = R.head?
 la:L.getLast? = R.getLast?
 srt:L.Pairwise (lx X Y)
 mem:∀ p∈L,p∈R
 edg:Edg (λa b=>∀ p∈R,0≤Mf X Y a b p) L
 cnv:Cnv (λa b c=>0<Mf X Y a b c) L
theorem BF {X Y:Pt->Rat} {sg:W9->Int} {R:List Pt} (hs:∀ a∈R,∀ b∈R,∀ c∈R,(VY sg a b c=true↔0<Mf X Y a b c)) (hR:R.Pairwise (lx X Y)) (h0:R≠[]):LowC X Y R (Tr sg R):=by
 cases R with
 | nil=>exact absurd rfl h0
 |
  cons f R =>
  obtain ⟨t,st,g1,g2,g3,g4⟩:=BG hs hR R [f] f [] rfl ⟨Y6 _ _,λp hp=>by rw [Ql.1 hp]; simp,trivial,trivial⟩ rfl rfl;have e:Tr sg (f::R)=(t::st).reverse:=by
   unfold Tr;rw [<-g1]; rfl
  rw [e];exact ⟨by rw [List.head?_reverse,g4],by rw [List.getLast?_reverse]; exact g3.symm,Kh.2 g2.srt,λp hp=>g2.mem p (Je.1 hp),g2.edg.rev,g2.cnv.rev⟩
theorem Qnk {X Y:Pt->Rat} {R:List Pt} (hR:R.Pairwise (lx X Y)):∀ p∈R,∀ q∈R,p=q\/lx X Y p q\/lx X Y q p:=λp hp q hq=>by
 by_cases e:p=q
 ·exact .inl e
 ·exact .inr (DC hR hp hq e)
theorem Qbu {X Y:Pt->Rat} {R L L':List Pt} (hR:R.Pairwise (lx X Y)) (h:LowC X Y R L) (h':LowC X Y R L'):L=L':=by
 have hh:=h.hd.trans h'.hd.symm;have hl:=h.la.trans h'.la.symm;cases L with
 |
  nil=>cases L' with
  | nil=>rfl
  | cons _ _=>simp at hh
 |
  cons f M=>cases L' with
  | nil=>simp at hh
  |
   cons f' M' =>
   simp at hh;subst hh;obtain ⟨z,hz⟩:∃ z,(f::M).getLast? = some z:=⟨_,Yd (by simp)⟩;rw [oZ (Qnk hR) M M' f h.srt h'.srt h.mem h'.mem h.edg h'.edg h.cnv h'.cnv hz (hl ▸ hz)]
theorem yC {x y:Rat} (h:Us x=Us y):(0<=x->0<=y)/\(0<x->0<y):=by
 have h1:=U7 x;have h2:=U7 y;grind
theorem qI {X Y X' Y':Pt->Rat} {R:List Pt}:∀ {L:List Pt},(∀ p∈L,p∈R)->(∀ e∈Ef L,∀ p∈R,Us (Mf X Y e.1 e.2 p)=Us (Mf X' Y' e.1 e.2 p))->Cnv (λa b c=>0<Mf X Y a b c) L->Cnv (λa b c=>0<Mf X' Y' a b c) L
 | [],_,_,_=>trivial
 | [_],_,_,_=>trivial
 | [_,_],_,_,_=>trivial
 | a::b::c::l,hm,he,h=>⟨(yC (he (a,b) (by simp [Ef]) c (hm c (by simp)))).2 h.1,qI (λp hp=>hm p (Qf _ hp)) (λe hx=>he e (Qf _ hx)) h.2⟩
theorem xT {X Y X' Y':Pt->Rat} {R L:List Pt} (h:LowC X Y R L) (hl:∀ u∈R,∀ v∈R,lx X Y u v->lx X' Y' u v) (he:∀ e∈Ef L,∀ p∈R,Us (Mf X Y e.1 e.2 p)=Us (Mf X' Y' e.1 e.2 p)):LowC X' Y' R L :=
 ⟨h.hd,h.la,h.srt.imp_of_mem λhu hv h'=>hl _ (h.mem _ hu) _ (h.mem _ hv) h',h.mem,EE.2 λe hx p hp=>(yC (he e hx p hp)).1 (EE.1 h.edg e hx p hp),qI h.mem he h.cnv⟩
theorem IZ (X Y:Pt->Rat) (a b c:Pt):Mf (λp=>-X p) (λp=>-Y p) a b c=Mf X Y a b c:=by unfold Mf; grind
theorem AB {X Y:Pt->Rat} {a b:Pt}:lx (λp=>-X p) (λp=>-Y p) a b↔lx X Y b a:=by unfold lx; grind
theorem Qku {L:List Pt} {f z:Pt} (h1:L.head? = some f) (h2:L.getLast? = some z) (hne:f≠z):∃ A,L=f::A++[z]:=by
 cases L with
 | nil=>cases h1
 |
  cons g M =>
  simp at h1;subst h1;cases M with
  | nil=>simp at h2; exact absurd h2 hne
  |
   cons x M =>
   rw [Jo] at h2;obtain ⟨A,hA⟩:=Yv.1 h2;exact ⟨A,by rw [hA]; rfl⟩
theorem SU {α β:Type} {f g:α->List β}:∀ {m:List α},(∀ x∈m,f x=g x)->m.flatMap f=m.flatMap g
 | [],_=>rfl
 | x::m,h=>by rw [Jp,Jp,h x (by simp),SU λy hy=>h y (Qf _ hy)]
theorem xX {sa sb:W9->Int} {l C:List Pt} (h:∀ x∈Mc sa l C,Gn sb x.p=Gn sa x.p):Mc sb l C=Mc sa l C:=by
 by_cases h2:C.length<2
 ·unfold Mc; rw [if_pos h2,if_pos h2]
 ·have e:∀ s,Mc s l C=(Hi C).flatMap (Lj s l):=λs=>if_neg h2
  rw [e] at h ⊢;rw [e];refine SU λx hx=>Xx λc hc=>?_
  have:=h (Ci sa x.1 x.2 c) (Zj.2 ⟨x,hx,Kw hc⟩);show (⟨3,x.1.id,x.2.id,c.id,0,Gk x.1.c x.2.c c.c,Gn sb (Gk x.1.c x.2.c c.c)⟩:Ct)=⟨3,x.1.id,x.2.id,c.id,0,Gk x.1.c x.2.c c.c,Gn sa (Gk x.1.c x.2.c c.c)⟩;have this:Gn sb (Gk x.1.c x.2.c c.c)=Gn sa (Gk x.1.c x.2.c c.c):=this;rw [this]
theorem nJ {l:List Pt} (hd:l.Pairwise λx y=>x.id≠y.id) {u v:Pt} (hu:u∈l) (hv:v∈l) (h:u.id=v.id):u=v:=by
 refine Classical.byContradiction λe=>?_
 rcases DC hd hu hv e with h' | h'
 ·exact h' h
 ·exact h' h.symm
structure Soon (l:List Pt) (a:Tm) (q:Rat):Prop where
 g:∀ p∈Dn l++RY l,Gn (U4 a) p=Us (Up p q)
 b:∀ u∈l,∀ v∈l,(Rh (U4 a) u v=true↔Ns q u v)
 o:∀ u∈l,∀ v∈l,∀ w∈l,Gn (U4 a) (Gk u.c v.c w.c)=Us (Mf (px · q) (py · q) u v w)
 t:∀ u∈l,∀ v∈l,∀ w∈l,(VY (U4 a) u v w=true↔0<Mf (px · q) (py · q) u v w)
 r:(Rv a (H7 l)).Pairwise (lx (px · q) (py · q))
theorem Qdz {l:List Pt} (hl:∀ p∈l,Sc p.c) (hd:l.Pairwise λx y=>x.id≠y.id) {a:Tm} (ha:Va a):∃ y,Uz a y=-1/\∀ q,Uz a q=-1->q≤y->Soon l a q:=by
 obtain ⟨y,y1,y2⟩:=Ol ha (Dn l++RY l) λp hp=>(GR hl p hp).dp
 refine ⟨y,y1,λq q1 q2=>?_⟩;have g:=y2 q q1 q2;have gP:=λp hp=>g p (Xz _ hp)
 have b:∀ u∈l,∀ v∈l,(Rh (U4 a) u v=true↔Ns q u v):=λu hu v hv=>RR ha (hl u hu) (hl v hv) (gP _ (Rp hu hv).1) (gP _ (Rp hu hv).2)
 have o:∀ u∈l,∀ v∈l,∀ w∈l,Gn (U4 a) (Gk u.c v.c w.c)=Us (Mf (px · q) (py · q) u v w):=λu hu v hv w hw=>by
  rw [g _ (X9 _ (qJ hu hv hw)),gQ (hl u hu) (hl v hv) (hl w hw)]
 refine ⟨g,b,o,λu hu v hv w hw=>?_,?_⟩
 ·unfold VY;rw [o u hu v hv w hw,decide_eq_true_eq];have:=U7 (Mf (px · q) (py · q) u v w);grind
 ·have hw:∀ u∈H7 l,u∈l:=λu hu=>Py hu
  have h1:=fC (a:=a) (l:=H7 l) (q:=q) (λu hu v hv=>b u (hw u hu) v (hw v hv)) (List.Pairwise.sublist (Qeg l) hd);have h2:(Rv a (H7 l)).Pairwise λx y=>x.c≠y.c:=(List.Perm.pairwise_iff (λ{x y} h e=>h e.symm) (gV (lt:=Rh (U4 a)) (H7 l))).2 (Qi7 l)
  refine (h1.and h2).imp_of_mem λ{u v} hu hv h=>?_
  have hu:=hw u (Gu.1 hu);have hv:=hw v (Gu.1 hv);exact Qmv ha (hl u hu) (hl v hv) (gP _ (Rp hu hv).1) (gP _ (Rp hu hv).2) h.2 h.1
theorem nV {l:List Pt} (hl:∀ p∈l,Sc p.c) (hd:l.Pairwise λx y=>x.id≠y.id) {a:Tm} (ha:Va a):∃ q,Soon l a q :=
 let ⟨y,h1,h2⟩:=Qdz hl hd ha
 ⟨y,h2 y h1 Qo⟩
theorem TN {l:List Pt} {a:Tm} {q:Rat} (S:Soon l a q) (h3:3<=(Rv a (H7 l)).length):∃ f z A B,Tr (U4 a) (Rv a (H7 l))=f::A++[z]/\Tr (U4 a) (Rv a (H7 l)).reverse=z::B++[f]/\LowC (px · q) (py · q) (Rv a (H7 l)) (f::A++[z])/\LowC (λp=>-px p q) (λp=>-py p q) (Rv a (H7 l)).reverse (z::B++[f])/\Hi (Tt l a)=Ef (f::A++[z])++Ef (z::B++[f])/\2<=(Tt l a).length:=by
 obtain ⟨R,hR⟩:=nmE (Rv a (H7 l));have hm:∀ x∈R,x∈l:=λx hx=>by rw [hR] at hx; exact Py (Gu.1 hx)
 have r:=S.r;rw [<-hR] at r h3 ⊢;have h0:R≠[]:=λe=>by rw [e] at h3; simp at h3
 have c1:=BF (sg:=U4 a) (λu hu v hv w hw=>S.t u (hm u hu) v (hm v hv) w (hm w hw)) r h0;have r2:R.reverse.Pairwise (lx (λp=>-px p q) (λp=>-py p q)):=Kh.2 (r.imp λh=>AB.2 h);have c2:=BF (sg:=U4 a) (R:=R.reverse) (X:=λp=>-px p q) (Y:=λp=>-py p q) (λu hu v hv w hw=>by
  rw [IZ (px · q) (py · q)];exact S.t u (hm u (Je.1 hu)) v (hm v (Je.1 hv)) w (hm w (Je.1 hw))) r2 (by simpa using h0)
 obtain ⟨f,hf⟩:∃ f,R.head? = some f:=by cases R with
  | nil=>exact absurd rfl h0
  | cons f _=>exact ⟨f,rfl⟩
 obtain ⟨z,hz⟩:∃ z,R.getLast? = some z:=⟨_,Yd h0⟩;have hne:f≠z:=λe=>by
  subst e;cases R with
  | nil=>exact absurd rfl h0
  |
   cons g M =>
   simp at hf; subst hf;cases M with
   | nil=>simp at h3
   |
    cons x M =>
    rw [Jo] at hz;exact C6 _ ((Q8.1 r).1 g (Vo hz))
 obtain ⟨A,hA⟩:=Qku (c1.hd.trans hf) (c1.la.trans hz) hne;obtain ⟨B,hB⟩:=Qku (c2.hd.trans (by rw [List.head?_reverse]; exact hz)) (c2.la.trans (by rw [List.getLast?_reverse]; exact hf)) (Ne.symm hne);have hc:Tt l a=(f::A++[z]).dropLast++(z::B++[f]).dropLast:=by
  unfold Tt De;rw [<-hR,if_neg (by omega),hA,hB]
 rw [hA] at c1;rw [hB] at c2;refine ⟨f,z,A,B,hA,hB,c1,c2,by rw [hc]; exact zR,?_⟩;rw [hc,Vl,Vl];simp; omega
theorem cD {l:List Pt} (hl:∀ p∈l,Sc p.c) (hd:l.Pairwise λx y=>x.id≠y.id) {a b:Tm} (ha:Va a) (hb:Va b) (h:∀ x∈NE l a,Gn (U4 b) x.p=Gn (U4 a) x.p):Tt l b=Tt l a/\NE l b=NE l a:=by
 obtain ⟨q,Sa⟩:=nV hl hd ha;obtain ⟨r,Sb⟩:=nV hl hd hb;obtain ⟨k1,k2⟩:=yM hl hd ha hb λx hx=>h x (Xz _ hx)
 have pa:=fC Sa.b hd;have pb:=fC Sb.b hd;rw [k1] at pb;have pab:=pa.and pb;have lexs:∀ u∈l,∀ v∈l,(Ns q u v↔Ns r u v):=λu hu v hv=>by
  by_cases e:u=v
  ·subst e; exact ⟨λh=>absurd h (Ox _ _),λh=>absurd h (Ox _ _)⟩
  ·rcases DC pab (Gu.2 hu) (Gu.2 hv) e with h' | h'
   ·exact ⟨λ_=>h'.2,λ_=>h'.1⟩
   ·exact ⟨λh=>absurd (ZZ _ _ _ _ h h'.1) (Ox _ _),λh=>absurd (ZZ _ _ _ _ h h'.2) (Ox _ _)⟩
 have bef:∀ u∈l,∀ v∈l,Rh (U4 b) u v=Rh (U4 a) u v:=λu hu v hv=>by
  have h1:=Sa.b u hu v hv;have h2:=Sb.b u hu v hv;have h3:=lexs u hu v hv;cases e1:Rh (U4 a) u v <;> cases e2:Rh (U4 b) u v <;> rw [e1] at h1 <;> rw [e2] at h2 <;> simp_all
 have eR:Rv b (H7 l)=Rv a (H7 l):=FW (l:=H7 l) (λu hu v hv=>bef u (Py hu) v (Py hv)) (H7 l) [] (λx hx=>hx) λx hx=>by cases hx
 have hm:∀ x∈Rv a (H7 l),x∈l:=λx hx=>Py (Gu.1 hx)
 have rb:=Sb.r;rw [eR] at rb;have hc:Tt l b=Tt l a:=by
  by_cases h3:(Rv a (H7 l)).length<3
  ·unfold Tt De;rw [eR,if_pos h3,if_pos h3]
  ·obtain ⟨f,z,A,B,hA,hB,c1,c2,hE,hC2⟩:=TN Sa (by omega);obtain ⟨f',z',A',B',hA',hB',c1',c2',hE',_⟩:=TN Sb (by rw [eR]; omega);rw [eR] at hA' hB' c1' c2';have sgs:∀ e∈Hi (Tt l a),∀ p∈Rv a (H7 l),Us (Mf (px · q) (py · q) e.1 e.2 p)=Us (Mf (px · r) (py · r) e.1 e.2 p):=λe he p hp=>by
    obtain ⟨m1,m2⟩:=FV he;have m1:=Ab m1;have m2:=Ab m2;have m3:=hm p hp;by_cases ho:ZE e p=true
    ·have hx:Ci (U4 a) e.1 e.2 p∈NE l a:=by
      refine X9 _ ?_;unfold Mc;rw [if_neg (by omega)];exact Zj.2 ⟨e,he,Kw (J5.2 ⟨m3,ho⟩)⟩
     have hg:Gn (U4 b) (Gk e.1.c e.2.c p.c)=Gn (U4 a) (Gk e.1.c e.2.c p.c):=h _ hx;rw [<-Sa.o _ m1 _ m2 _ m3,<-Sb.o _ m1 _ m2 _ m3,hg]
    ·have hz:∀ X Y:Pt->Rat,Mf X Y e.1 e.2 p=0:=λX Y=>by
      by_cases e1:p.id=e.1.id
      ·rw [nJ hd m3 m1 e1]; exact (VS _ _).1
      ·by_cases e2:p.id=e.2.id
       ·rw [nJ hd m3 m2 e2]; exact (VS _ _).2
       ·exact absurd (by simp [ZE,e1,e2]) ho
     rw [hz,hz]
   have hlx:∀ u∈Rv a (H7 l),∀ v∈Rv a (H7 l),lx (px · q) (py · q) u v->lx (px · r) (py · r) u v:=λu hu v hv huv=>by
    have ra:=Sa.r;by_cases e:u=v
    ·subst e; exact absurd huv (C6 _)
    ·rcases DC (ra.and rb) hu hv e with h' | h'
     ·exact h'.2
     ·exact absurd (xN huv h'.1) (C6 _)
   have e1:=Qbu rb (xT c1 hlx λe he=>sgs e (by rw [hE]; exact Xz _ he)) c1';have rb2:(Rv a (H7 l)).reverse.Pairwise (lx (λp=>-px p r) (λp=>-py p r)):=Kh.2 (rb.imp λh=>AB.2 h);have e2:=Qbu rb2 (xT c2 (λu hu v hv huv=>AB.2 (hlx v (Je.1 hv) u (Je.1 hu) (AB.1 huv))) λe he p hp=>by
    rw [IZ (px · q) (py · q),IZ (px · r) (py · r)];exact sgs e (by rw [hE]; exact X9 _ he) p (Je.1 hp)) c2'
   unfold Tt De;rw [eR,if_neg h3,if_neg h3,hA,hB,hA',hB',e1,e2]
 refine ⟨hc,?_⟩;unfold NE;rw [hc,k2,xX λx hx=>h x (X9 _ hx)]
theorem Qqf {l:List Pt} (hl:∀ p∈l,Sc p.c) (hn:l.length≤10) (hd:l.Pairwise λx y=>x.id≠y.id):Stab (NE l) (bK l):=by
 refine ⟨kW hl hn,⟨Dn l++RY l,GR hl,λa _ x hx=>LL x hx⟩,λa b ha hb h=>?_⟩;obtain ⟨e1,e2⟩:=cD hl hd ha hb h;exact ⟨e2,by show Uj _=Uj _; rw [e1]⟩
end Orq
namespace Orq
open Orr Go
theorem XC {a b c d:Crv} (ha:Sc a) (hb:Sc b) (hc:Sc c) (hd:Sc d):Cp (Gt a b c d):=by
 have lr:∀ {a b:Crv},Sc a->Sc b->(Fg a b).length<=3/\(Ff a b).length<=3:=λ{a b} ha hb=>by
  have:=Po (Fh b.x a.d) (Fh a.x b.d); have:=U8 b.x a.d; have:=U8 a.x b.d;have:=Po (Fh b.y a.d) (Fh a.y b.d); have:=U8 b.y a.d; have:=U8 a.y b.d;have:=ha.c.lx; have:=hb.c.lx; have:=ha.c.ly; have:=hb.c.ly;unfold Fg Ff; omega
 have ap:∀ {a b:Crv},Sc a->Sc b->(Ta a b).length<=5/\Bd 517 (Ta a b):=λ{a b} ha hb=>by
  obtain ⟨l1,l2⟩:=lr ha hb;have b1:Bd 257 (Fg a b):=Bs (Fi hb.c.x ha.c.d) (Fi ha.c.x hb.c.d);have b2:Bd 257 (Ff a b):=Bs (Fi hb.c.y ha.c.d) (Fi ha.c.y hb.c.d);have q1:=S4 (u:=2) b1 b1 (by omega);have q2:=S4 (u:=2) b2 b2 (by omega);refine ⟨?_,Uk (YV q1 q2) (by omega)⟩;have:=Ou (Fv (Fg a b) (Fg a b)) (Fv (Ff a b) (Ff a b));have:=Tl (Fg a b) (Fg a b); have:=Tl (Ff a b) (Ff a b);unfold Ta; omega
 have dd:∀ {a b:Crv},Sc a->Sc b->U0 ((a.d*b.d)*(a.d*b.d))<=512:=λ{a b} ha hb=>by
  have:=Gv a.d b.d; have:=Gv (a.d*b.d) (a.d*b.d); have:=ha.c.d; have:=hb.c.d; omega
 obtain ⟨l1,b1⟩:=ap hc hd;obtain ⟨l2,b2⟩:=ap ha hb;refine ⟨Fc _ _,?_,Uk (Bs (Fi b1 (dd ha hb)) (Fi b2 (dd hc hd))) (by omega)⟩;have:=Po (Fh (Ta c d) ((a.d*b.d)*(a.d*b.d))) (Fh (Ta a b) ((c.d*d.d)*(c.d*d.d)));have:=U8 (Ta c d) ((a.d*b.d)*(a.d*b.d)); have:=U8 (Ta a b) ((c.d*d.d)*(c.d*d.d));unfold Gt; omega
def vO (m:Pt×Pt) (q:Rat):Rat:=(px m.2 q-px m.1 q)*(px m.2 q-px m.1 q)+(py m.2 q-py m.1 q)*(py m.2 q-py m.1 q)
theorem Qg5 {a b c d:Pt} (ha:Sc a.c) (hb:Sc b.c) (hc:Sc c.c) (hd:Sc d.c) (q:Rat):Us (Up (Gt a.c b.c c.c d.c) q)=Us (vO (c,d) q-vO (a,b) q):=by
 have Hb:∀ {z:Int},0<z->(0:Rat)<(z:Rat):=λ{z} h=>by exact_mod_cast h
 have pa:=Hb ha.n.2.2.1;have pb:=Hb hb.n.2.2.1;have pc:=Hb hc.n.2.2.1;have pd:=Hb hd.n.2.2.1;have xx:∀ {p:Pt},0<(p.c.d:Rat)->Up p.c.x q=px p q*(p.c.d:Rat)/\Up p.c.y q=py p q*(p.c.d:Rat):=λ{p} h=>by
  unfold px py;exact ⟨(Zd (by grind)).symm,(Zd (by grind)).symm⟩
 obtain ⟨xa,ya⟩:=xx pa;obtain ⟨xb,yb⟩:=xx pb;obtain ⟨xc,yc⟩:=xx pc;obtain ⟨xd,yd⟩:=xx pd;have e:Up (Gt a.c b.c c.c d.c) q=(((a.c.d:Rat)*b.c.d)*((a.c.d:Rat)*b.c.d))*(((c.c.d:Rat)*d.c.d)*((c.c.d:Rat)*d.c.d))*(vO (c,d) q-vO (a,b) q):=by
  unfold Gt Ta Fg Ff vO;simp only [Pq,Hg,PI,Fe,Js];rw [xa,xb,xc,xd,ya,yb,yc,yd];grind
 rw [e,Nm];have h1:=Xo pa pb;have h2:=Xo pc pd;exact Xo (Xo h1 h1) (Xo h2 h2)
def NJ (l:List Pt):Ua:=l.flatMap λa=>l.flatMap λb=>l.flatMap λc=>l.map λd=>Gt a.c b.c c.c d.c
theorem RJ {l:List Pt} {a b c d:Pt} (ha:a∈l) (hb:b∈l) (hc:c∈l) (hd:d∈l):Gt a.c b.c c.c d.c∈NJ l :=
 Zj.2 ⟨a,ha,Zj.2 ⟨b,hb,Zj.2 ⟨c,hc,Zf.2 ⟨d,hd,rfl⟩⟩⟩⟩
theorem YX {l:List Pt} (hl:∀ p∈l,Sc p.c):∀ p∈NJ l,Cp p:=λp hp=>by
 obtain ⟨a,ha,hp⟩:=Zj.1 hp;obtain ⟨b,hb,hp⟩:=Zj.1 hp;obtain ⟨c,hc,hp⟩:=Zj.1 hp;obtain ⟨d,hd,rfl⟩:=Zf.1 hp;exact XC (hl a ha) (hl b hb) (hl c hc) (hl d hd)
theorem sP {l:List Pt} (hl:∀ p∈l,Sc p.c) {a:Tm} (ha:Va a):∃ y,Uz a y=-1/\∀ q,Uz a q=-1->q≤y->∀ s m:Pt×Pt,s.1∈l->s.2∈l->m.1∈l->m.2∈l->Gn (U4 a) (Gt s.1.c s.2.c m.1.c m.2.c)=Us (vO m q-vO s q):=by
 obtain ⟨y,y1,y2⟩:=Ol ha (NJ l) λp hp=>(YX hl p hp).dp
 refine ⟨y,y1,λq q1 q2 s m h1 h2 h3 h4=>?_⟩;rw [y2 q q1 q2 _ (RJ h1 h2 h3 h4),Qg5 (hl _ h1) (hl _ h2) (hl _ h3) (hl _ h4)]
def B8 (f:Pt×Pt->Rat) (P:List (Pt×Pt)) (r:Pt×Pt):Prop:=∃ P1 P2,P=P1++r::P2/\(∀ m∈P1,f r<f m)/\∀ m∈P2,f r≤f m
theorem CQ {f:Pt×Pt->Rat}:∀ {P:List (Pt×Pt)} {r r':Pt×Pt},B8 f P r->B8 f P r'->r=r'
 | [],r,r',⟨P1,P2,h,_⟩,_=>by simp at h
 |
  x::P,r,r',⟨P1,P2,h,h1,h2⟩,⟨Q1,Q2,h',h1',h2'⟩=>by
  cases P1 with
  |
   nil =>
   simp at h;cases Q1 with
   | nil=>simp at h'; exact h.1.symm.trans h'.1
   |
    cons y Q1 =>
    simp at h';exfalso;obtain ⟨rfl,rfl⟩:=h;obtain ⟨rfl,rfl⟩:=h';have a1:=h1' x (by simp);have a2:=h2 r' (by simp);grind
  |
   cons y P1 =>
   simp at h;cases Q1 with
   |
    nil =>
    simp at h';exfalso;obtain ⟨rfl,rfl⟩:=h;obtain ⟨rfl,rfl⟩:=h';have a1:=h1 x (by simp);have a2:=h2' r (by simp);grind
   |
    cons z Q1 =>
    simp at h h';exact CQ (P:=P) ⟨P1,P2,h.2,λm hm=>h1 m (by simp [hm]),h2⟩ ⟨Q1,Q2,h'.2,λm hm=>h1' m (by simp [hm]),h2'⟩
theorem Qg6 {f:Pt×Pt->Rat} {P:List (Pt×Pt)} {r m:Pt×Pt} (h:B8 f P r):B8 f (P++[m]) (if f m<f r then m else r):=by
 obtain ⟨P1,P2,rfl,h1,h2⟩:=h;by_cases e:f m<f r
 ·rw [if_pos e];refine ⟨P1++r::P2,[],rfl,λx hx=>?_,λx hx=>by cases hx⟩;rcases Qr.1 hx with hx | hx
  ·have:=h1 x hx; grind
  ·rcases Qk.1 hx with rfl | hx
   ·exact e
   ·have:=h2 x hx; grind
 ·rw [if_neg e];refine ⟨P1,P2++[m],by simp,h1,λx hx=>?_⟩;rcases Qr.1 hx with hx | hx
  ·exact h2 x hx
  ·rw [Ql.1 hx]; grind
theorem sB {f:Pt×Pt->Rat} {sg:W9->Int} {l:List Pt} (hg:∀ s m:Pt×Pt,s.1∈l->s.2∈l->m.1∈l->m.2∈l->Gn sg (Gt s.1.c s.2.c m.1.c m.2.c)=Us (f m-f s)):∀ (ps P:List (Pt×Pt)) (s:Pt×Pt),s.1∈l/\s.2∈l->(∀ m∈ps,m.1∈l/\m.2∈l)->B8 f P s->B8 f (P++ps) (Gq sg s ps)
 | [],P,s,_,_,h=>by rw [Zw]; exact h
 |
  m::ps,P,s,hs,hp,h=>by
  rw [Ir];have hm:=hp m (by simp);have e:Sf sg s m=if f m<f s then m else s:=by
   unfold Sf;rw [hg s m hs.1 hs.2 hm.1 hm.2];have:=U7 (f m-f s);by_cases h:f m<f s
   ·rw [if_pos h,if_pos (by grind)]
   ·rw [if_neg h,if_neg (by grind)]
  have hn:(Sf sg s m).1∈l/\(Sf sg s m).2∈l:=by
   rcases UZ sg s m with e | e <;> rw [e] <;> assumption
  have:=sB hg ps (P++[m]) (Sf sg s m) hn (λx hx=>hp x (Qf _ hx)) (by rw [e]; exact Qg6 h);rwa [Za] at this
theorem uO (a b:Pt) (l:List Pt):∃ P,Fo (a::b::l)=(a,b)::P:=⟨_,rfl⟩
theorem pA {f:Pt×Pt->Rat} {sg:W9->Int} {a b:Pt} {l:List Pt} (hg:∀ s m:Pt×Pt,s.1∈a::b::l->s.2∈a::b::l->m.1∈a::b::l->m.2∈a::b::l->Gn sg (Gt s.1.c s.2.c m.1.c m.2.c)=Us (f m-f s)):B8 f (Fo (a::b::l)) (Gq sg (a,b) (Fo (a::b::l))):=by
 obtain ⟨P,hP⟩:=uO a b l;have hm:=Rz (a::b::l).length (a::b::l);have hm:∀ m∈Fo (a::b::l),m.1∈a::b::l/\m.2∈a::b::l:=hm;rw [hP] at hm ⊢;have h:=sB hg P [(a,b)] (a,b) (hm (a,b) (by simp)) (λm h=>hm m (by simp [h])) ⟨[],[],rfl,λm h=>(by cases h),λm h=>(by cases h)⟩;rw [Ir];have e:Sf sg (a,b) (a,b)=(a,b):=by rcases UZ sg (a,b) (a,b) with e | e <;> exact e
 rw [e]; exact h
theorem nY {l:List Pt} (hd:l.Pairwise λx y=>x.id≠y.id) {u v:Pt} (hu:u∈l) (hv:v∈l) (h:u.id=v.id):u=v:=by
 by_cases e:u=v
 ·exact e
 ·rcases DC hd hu hv e with h' | h'
  ·exact absurd h h'
  ·exact absurd h.symm h'
theorem dR {l:List Pt} (hl:∀ p∈l,Sc p.c) (hd:l.Pairwise λx y=>x.id≠y.id) {a b:Tm} (ha:Va a) (hb:Va b) (h:∀ x∈Cm (U4 a) l,Gn (U4 b) x.p=Gn (U4 a) x.p):O7 (U4 b) l=O7 (U4 a) l/\Cm (U4 b) l=Cm (U4 a) l:=by
 match l,hl,hd,h with
 | [],_,_,_=>exact ⟨rfl,rfl⟩
 | [x],_,_,_=>exact ⟨rfl,rfl⟩
 |
  u::v::l',hl,hd,h =>
  obtain ⟨y,y1,y2⟩:=sP hl ha;obtain ⟨z,z1,z2⟩:=sP hl hb;have ga:=y2 y y1 Qo;have gb:=z2 z z1 Qo;have fa:=pA (f:=λm=>vO m y) ga;have fb:=pA (f:=λm=>vO m z) gb;simp only [O7,Cm] at h ⊢;have hm:∀ m∈Fo (u::v::l'),m.1∈u::v::l'/\m.2∈u::v::l':=Rz _ _;generalize u::v::l'=l at *;obtain ⟨r,hr⟩:=nmE (Gq (U4 a) (u,v) (Fo l));rw [<-hr] at fa h ⊢;obtain ⟨P1,P2,hP,h1,h2⟩:=fa;have hrm:r∈Fo l:=by rw [hP]; simp
  have hrl:=hm r hrm;have key:∀ m∈Fo l,m=r\/Gn (U4 b) (Gt r.1.c r.2.c m.1.c m.2.c)=Gn (U4 a) (Gt r.1.c r.2.c m.1.c m.2.c):=λm hmm=>by
   have hml:=hm m hmm;by_cases e:I0 r m=true
   ·right;have h0:=h (Md (U4 a) r.1 r.2 m.1 m.2) (by unfold Pg; exact List.mem_map.2 ⟨m,List.mem_filter.2 ⟨hmm,e⟩,rfl⟩);rw [PH] at h0; exact h0
   ·left;unfold I0 at e;simp at e;have e1:=nY hd hml.1 hrl.1 e.1;have e2:=nY hd hml.2 hrl.2 e.2;exact Prod.ext e1 e2
  have fb':B8 (λm=>vO m z) (Fo l) r:=by
   refine ⟨P1,P2,hP,λm hmm=>?_,λm hmm=>?_⟩
   ·have hmp:m∈Fo l:=by rw [hP]; simp [hmm]
    have hlt:=h1 m hmm;have hml:=hm m hmp;rcases key m hmp with e | e
    ·exfalso; rw [e] at hlt; dsimp only at hlt; grind
    ·rw [ga r m hrl.1 hrl.2 hml.1 hml.2,gb r m hrl.1 hrl.2 hml.1 hml.2] at e;dsimp only at hlt ⊢;rw [G5.2 (by grind:0<vO m y-vO r y)] at e;have:=G5.1 e; grind
   ·have hmp:m∈Fo l:=by rw [hP]; simp [hmm]
    have hlt:=h2 m hmm;have hml:=hm m hmp;rcases key m hmp with e | e
    ·rw [e]; exact Qo
    ·rw [ga r m hrl.1 hrl.2 hml.1 hml.2,gb r m hrl.1 hrl.2 hml.1 hml.2] at e;dsimp only at hlt ⊢;have t1:=U7 (vO m y-vO r y);have t2:=U7 (vO m z-vO r z);grind
  have er:=CQ fb fb';rw [er];refine ⟨rfl,?_⟩;unfold Pg;refine Xx λm hmm=>?_
  have hmp:=(J5.1 hmm).1;rcases key m hmp with e | e
  ·exfalso;have:=(J5.1 hmm).2;rw [e] at this; unfold I0 at this; simp at this
  ·unfold Md; rw [e]
theorem Qqg {l:List Pt} (hl:∀ p∈l,Sc p.c) (hn:l.length≤10) (hd:l.Pairwise λx y=>x.id≠y.id):Stab (λa=>Cm (U4 a) l) (λa=>Uj (O7 (U4 a) l)):=by
 have hcp:∀ a,∀ x∈Cm (U4 a) l,x.p∈NJ l:=λa x hx=>by
  match l,hx with
  |
   u::v::l',hx =>
   simp only [Cm] at hx;obtain ⟨h3,h4⟩:=Cj (U4 a) (l:=u::v::l') (Fo (u::v::l')) (u,v) ⟨by simp,by simp⟩ (Rz _ _);obtain ⟨m,hm,rfl⟩:=BP hx;obtain ⟨h1,h2⟩:=Rz _ _ m hm;rw [PH];exact RJ h3 h4 h1 h2
 refine ⟨⟨λa _ x hx=>YX hl _ (hcp a x hx),λa _=>?_⟩,⟨NJ l,YX hl,λa _=>hcp a⟩,λa b ha hb h=>?_⟩
 ·have:=DV (U4 a) l;have:l.length*l.length<=10*10:=Zk hn hn;show (Cm (U4 a) l).length<=1000;omega
 ·obtain ⟨h1,h2⟩:=dR hl hd ha hb h;exact ⟨h2,by show Uj _=Uj _; rw [h1]⟩
end Orq
namespace Orr
open Go Go.Proofs Tryz Orq
set_option maxRecDepth 10000
def O3:Nat->Ue->Ue
 | _,[]=>[]
 | 0,x::l=>UX x::l
 | k+1,x::l=>x::O3 k l
theorem DZ:∀ (k:Nat) (l:Ue),(O3 k l).length=l.length
 | _,[]=>by cases ‹Nat› <;> rfl
 | 0,x::l=>rfl
 | k+1,x::l=>by simp only [O3,Q7,DZ k l]
theorem CO:∀ (k:Nat) (l:Ue) {j:Nat} {y:LV},(O3 k l)[j]? = some y->∃ x,l[j]? = some x/\(y=x\/y=UX x)
 | 0,[],_,_,h=>by simp [O3] at h
 | _+1,[],_,_,h=>by simp [O3] at h
 | 0,x::l,0,y,h=>by simp [O3] at h; exact ⟨x,rfl,.inr h.symm⟩
 | 0,x::l,j+1,y,h=>by simp [O3] at h; exact ⟨y,by simpa using h,.inl rfl⟩
 | k+1,x::l,0,y,h=>by simp [O3] at h; exact ⟨x,rfl,.inl h.symm⟩
 |
  k+1,x::l,j+1,y,h=>by
  simp only [O3,Jc] at h;obtain ⟨z,h1,h2⟩:=CO k l h;exact ⟨z,by simpa using h1,h2⟩
theorem nlc {P:Program} [Mo P] {n:Nat} {Q:Exit->Sg->Ug->Prop} {L:Sg} {B B':Ug} (i d:Nat) {T:TypeId} {xs:Ue} {it:List It} (hs:Ho it=true) (hb:L9 B i=some (.blk T xs)) (hB:Lx B i (.blk T (O3 d xs))=some B') (k:AK P n Q it L B'):AK P n Q it L B:=by
 obtain ⟨rfl,hl⟩:=P6 hB;have hbi:B[i]? = some (.blk T xs):=Tj ▸ hb;refine AK.sub (λF E M a w h=>⟨E,M,?_,h.size,h.defers,h.slots⟩) hs k;rw [JX,O6 hbi];refine h.hs.re (λj=>?_) (λj=>?_) (λj=>?_) λj hj=>?_
 ·by_cases e:j=i
  ·subst e;rw [Ux];obtain ⟨g,c,m,h1,cs,h2,h3⟩:=h.blk hb;refine ⟨g,c,m,h1,cs,h2,F2.of (by rw [DZ]; exact h3.len) λk v x hv hx=>?_⟩;obtain ⟨y,hy,hyx⟩:=CO _ _ hx;rcases hyx with rfl | rfl
   ·exact h3.get' hv hy
   ·exact mQ (h3.get' hv hy)
  ·rw [Fa _ _ e]; exact h.hs.blk j
 ·by_cases e:j=i
  ·subst e; rw [Ux,Hm hbi]; rfl
  ·rw [Fa _ _ e]
 ·by_cases e:j=i
  ·subst e; rw [Ux,Hm hbi]; rfl
  ·rw [Fa _ _ e]
 ·by_cases e:j=i
  ·subst e; rw [Hm hbi] at hj; cases hj
  ·rw [Fa _ _ e]; exact hj
theorem YN {l m:Uf} (h:l=m):TV.one (LV.row l)=.one (.row m):=h ▸ rfl
theorem qC {a b:Crv} (ha:I2 a) (hb:I2 b) (ca:Cb a) (cb:Cb b):W6 217 [.agg (cl a),.agg (cl b)] [pr (Ta a b)]:=by
 obtain ⟨p1,l1,b1⟩:=jM ca cb;obtain ⟨p2,l2,b2⟩:=jS ca cb;have m1:=Tl (Fg a b) (Fg a b);have m2:=Tl (Ff a b) (Ff a b);have q1:=S4 (u:=5) b1 b1 (by omega);have q2:=S4 (u:=5) b2 b2 (by omega);exact W3 func217 rfl [.k (YF ha hb ca cb),.k (YW ha hb ca cb),.k (WQ p1.t p1.t (by omega) (by omega) b1 b1 (by omega)),.k (WQ p2.t p2.t (by omega) (by omega) b2 b2 (by omega)),.k (EQ (by omega) (by omega) (Uk q1 (by omega)) (Uk q2 (by omega)))] rfl
theorem bM {a b c d:Crv} (ha:I2 a) (hb:I2 b) (hc:I2 c) (hd:I2 d) (ca:Cb a) (cb:Cb b) (cc:Cb c) (cd:Cb d):W6 173 [.agg (cl a),.agg (cl b),.agg (cl c),.agg (cl d)] [pr (Gt a b c d)]:=by
 have na:=Bu ha (ca.mono (by omega) (by omega));have nb:=Bu hb (cb.mono (by omega) (by omega));have nc:=Bu hc (cc.mono (by omega) (by omega));have nd:=Bu hd (cd.mono (by omega) (by omega));have s1:=uK ca cb;have s2:=uK cc cd;have s3:=pX ca cb;have s4:=pX cc cd;have da:=ca.d;have db:=cb.d;have dc:=cc.d;have dd:=cd.d;obtain ⟨t1,l1,b1⟩:=jP cc cd;obtain ⟨t2,l2,b2⟩:=jP ca cb;have k1:=U8 (Ta c d) ((a.d*b.d)*(a.d*b.d));have k2:=U8 (Ta a b) ((c.d*d.d)*(c.d*d.d));have w1:=P8 (Um a.d) (Um b.d) (by omega) (by omega);have w2:=P8 (Um c.d) (Um d.d) (by omega) (by omega);have w3:=P8 (Um (a.d*b.d)) (Um (a.d*b.d)) (by omega) (by omega);have w4:=P8 (Um (c.d*d.d)) (Um (c.d*d.d)) (by omega) (by omega);have p1:=Pj (p:=Ta c d) (c:=(a.d*b.d)*(a.d*b.d)) (by omega) (Uk b1 (by omega)) (by omega);have p2:=Pj (p:=Ta a b) (c:=(c.d*d.d)*(c.d*d.d)) (by omega) (Uk b2 (by omega)) (by omega);have p3:=WZ (p:=Fh (Ta c d) ((a.d*b.d)*(a.d*b.d))) (q:=Fh (Ta a b) ((c.d*d.d)*(c.d*d.d))) (by omega) (by omega) (Uk (Fi b1 s3) (by omega)) (Uk (Fi b2 s4) (by omega));exact W3 func173 rfl [.k na,.k nb,.k w1,.k nc,.k nd,.k w2,.k (qC hc hd cc cd),.k w3,.k p1,.k (qC ha hb ca cb),.k w4,.k p2,.k p3] rfl
theorem RD {a b c d:Pt} (ha:Sc a.c) (hb:Sc b.c) (hc:Sc c.c) (hd:Sc d.c):W6 173 [.agg (cl a.c),.agg (cl b.c),.agg (cl c.c),.agg (cl d.c)] [pr (Gt a.c b.c c.c d.c)]:=bM ha.n hb.n hc.n hd.n ha.cb hb.cb hc.cb hd.cb
set_option maxHeartbeats 1000000 in
theorem Qft {a b c d:Pt} {t:Tm} (ha:Sc a.c) (hb:Sc b.c) (hc:Sc c.c) (hd:Sc d.c) (ht:Va t):W6 167 [.oi 5,.agg (ta t),.one (.row [Ur a,Ur b,Ur c,Ur d])] [.agg (C9 (Md (U4 t) a b c d)),.oi 0]:=by
 have hp:=(XC ha hb hc hd).dp;have e:C9 (Md (U4 t) a b c d)=[.int .i64 5,.int .i64 a.id,.int .i64 b.id,.int .i64 c.id,.int .i64 d.id,pl (Gt a.c b.c c.c d.c),.int .i64 (Gn (U4 t) (Gt a.c b.c c.c d.c))]:=by rw [Md]
 rw [e];have cg:=FX hp ht;have cf:=RD ha hb hc hd;generalize Gt a.c b.c c.c d.c=F at *;refine Fl func167 rfl ?_;refine Wy [.k cV,.f rfl] rfl ?_;refine W5 (S:=Nat) 3 (λL1 i=>(22,.v (.oi i))::L1) (λi=>[.blk 189 (ta t),.blk 126 lF,.blk 126 [.int .i64 5,.int .i64 (if 1<=i then a.id else 0),.int .i64 (if 2<=i then b.id else 0),.int .i64 (if 3<=i then c.id else 0),.int .i64 (if 4<=i then d.id else 0),.nils,.int .i64 0]]) (λi=>4-i) (λi=>i<=4) 0 (Qi _) rfl rfl λi hi=>?_
 rcases (show i=0\/i=1\/i=2\/i=3\/i=4 by omega) with rfl | rfl | rfl | rfl | rfl
 ·refine Wy [.t rfl,.x (i:=0) (xs:=Ur a) rfl,.i 0] rfl ?_ (by simp [Ul]);exact rd 1 (by omega) (by omega) rfl
 ·refine Wy [.t rfl,.x (i:=1) (xs:=Ur b) rfl,.i 1] rfl ?_ (by simp [Ul]);exact rd 2 (by omega) (by omega) rfl
 ·refine Wy [.t rfl,.x (i:=2) (xs:=Ur c) rfl,.i 2] rfl ?_ (by simp [Ul]);exact rd 3 (by omega) (by omega) rfl
 ·refine Wy [.t rfl,.x (i:=3) (xs:=Ur d) rfl,.i 3] rfl ?_ (by simp [Ul]);exact rd 4 (by omega) (by omega) rfl
 ·exact W0 [.f rfl,.f rfl,.f rfl,.f rfl,.f rfl,.x (i:=0) (xs:=Ur a) rfl,.x (i:=1) (xs:=Ur b) rfl,.x (i:=2) (xs:=Ur c) rfl,.x (i:=3) (xs:=Ur d) rfl,.k cf,.k cg] rfl
theorem Qly {s m:Pt×Pt} {t:Tm} (h1:Sc s.1.c) (h2:Sc s.2.c) (h3:Sc m.1.c) (h4:Sc m.2.c) (ht:Va t):Uo prog 171 [.agg (Ur m.1),.agg (Ur m.2),.one (.ow 0 0),.one (.ow 1 0),.one (.ow 2 0)] [.blk 41 (Ur s.1),.blk 41 (Ur s.2),.blk 189 (ta t)] [] [.blk 41 (Ur (Sf (U4 t) s m).1),.blk 41 (Ur (Sf (U4 t) s m).2),.blk 189 (ta t)]:=by
 have cf:=RD h1 h2 h3 h4;have cg:=FX (XC h1 h2 h3 h4).dp ht;unfold Sf;refine Fl func171 rfl ?_;by_cases h:Gn (U4 t) (Gt s.1.c s.2.c m.1.c m.2.c)<0
 ·rw [if_pos h];exact W4 [] [0,1,2] [.k cf,.k cg,.t (decide_eq_true h)] rfl
 ·rw [if_neg h];exact W4 [] [0,1,2] [.k cf,.k cg,.f (decide_eq_false h)] rfl
theorem Qlu {s m:Pt×Pt} {t:Tm} {L:List Ct} (h1:Sc s.1.c) (h2:Sc s.2.c) (h3:Sc m.1.c) (h4:Sc m.2.c) (ht:Va t) (hL:L.length<=1000000):Uo prog 174 [.agg (Ur m.1),.agg (Ur m.2),.one (.ow 0 0),.one (.ow 1 0),.one (.ow 2 0),.one (.ow 3 0)] [.blk 41 (Ur s.1),.blk 41 (Ur s.2),.blk 189 (ta t),.blk 52 [.orow 4 7 none],.row false 126 7 (Uy L)] [] [.blk 41 (Ur s.1),.blk 41 (Ur s.2),.blk 189 (ta t),.blk 52 [.orow 4 7 none],.row false 126 7 (Uy (if I0 s m=true then L++[Md (U4 t) s.1 s.2 m.1 m.2] else L))]:=by
 have cm:=Qft h1 h2 h3 h4 ht;have hq:∀ y∈[C9 (Md (U4 t) s.1 s.2 m.1 m.2)],y.length=7:=λy hy=>by rw [Ql.1 hy]; rfl
 have hcl:=P9 L;have hsn:Uy (L++[Md (U4 t) s.1 s.2 m.1 m.2])=Uy L++[C9 (Md (U4 t) s.1 s.2 m.1 m.2)]:=by simp [Uy]
 refine Fl func174 rfl ?_;by_cases e1:m.1.id=s.1.id
 ·by_cases e2:m.2.id=s.2.id
  ·rw [if_neg (by simp [I0,e1,e2])];exact W4 [] [0,1,2,3,4] [.g 15 false (by simp [e1]),.f (by simp [e2])] rfl
  ·rw [if_pos (by simp [I0,e2]),hsn];exact W4 [] [0,1,2,3,4] [.g 15 false (by simp [e1]),.t (by simp [e2]),.k cm,.s (sz:=7) hq] rfl (by simp [Ul,hcl]; omega)
 ·rw [if_pos (by simp [I0,e1]),hsn];exact W4 [] [0,1,2,3,4] [.g 15 true (by simp [e1]),.t rfl,.k cm,.s (sz:=7) hq] rfl (by simp [Ul,hcl]; omega)
theorem FP (M:List Pt):G8 0 M=[]:=by cases M <;> rfl
def IH (M:List Pt) (x:Pt) (i j:Nat):List (Pt×Pt):=G8 i M++((M.drop (i+1)).take j).map (λy=>(x,y))
theorem yX (M:List Pt) (x:Pt) (i:Nat):IH M x i 0=G8 i M:=by rw [IH,Vg,X8,Zw]
theorem yZ {M:List Pt} {i j:Nat} {x y:Pt} (hy:(M.drop (i+1))[j]? = some y):IH M x i (j+1)=IH M x i j++[(x,y)]:=by
 unfold IH;rw [Z5,hy,Option.toList_some,J4,Za]; rfl
theorem mN {M:List Pt} {i j:Nat} {x:Pt} (hx:M[i]? = some x) (hj:(M.drop (i+1)).length<=j):IH M x i j=G8 (i+1) M:=by
 unfold IH;rw [Qw hj,Cn M i x hx]
theorem Qh8 {M:List Pt} {i j:Nat} {x:Pt} (hx:M[i]? = some x):∀ m∈IH M x i j,m.1∈M/\m.2∈M:=λm hm=>by
 rcases Qr.1 hm with h | h
 ·exact Rz _ _ m h
 ·obtain ⟨y,hy,rfl⟩:=Zf.1 h;exact ⟨Qa hx,Qy (Qm hy)⟩
theorem iG {l:List Pt} {t:Tm} {s0:Pt×Pt} (hl:∀ p∈l,Sc p.c) (hs:s0.1∈l/\s0.2∈l) (hn:l.length≤1000) (ht:Va t):Uo prog 170 [.one (pts l),.one (.ofn 171 [] [.ow 0 0,.ow 1 0,.ow 2 0])] [.blk 41 (Ur s0.1),.blk 41 (Ur s0.2),.blk 189 (ta t)] [] [.blk 41 (Ur (Gq (U4 t) s0 (Fo l)).1),.blk 41 (Ur (Gq (U4 t) s0 (Fo l)).2),.blk 189 (ta t)]:=by
 have hcl:=Ga l;have hsc:∀ ps:List (Pt×Pt),(∀ m∈ps,m.1∈l/\m.2∈l)->Sc (Gq (U4 t) s0 ps).1.c/\Sc (Gq (U4 t) s0 ps).2.c:=λps h=>by
  obtain ⟨h1,h2⟩:=Cj (U4 t) ps s0 hs h;exact ⟨hl _ h1,hl _ h2⟩
 show Uo prog 170 [.one (.row (Uj l)),.one (.ofn 171 [] [.ow 0 0,.ow 1 0,.ow 2 0])] _ _ _;refine Fl func170 rfl ?_;refine Wy [] rfl ?_;refine lp (S:=Nat) 3 (λL1 i=>(10,.v (.oi i))::L1) (λi=>[.blk 41 (Ur (Gq (U4 t) s0 (G8 i l)).1),.blk 41 (Ur (Gq (U4 t) s0 (G8 i l)).2),.blk 189 (ta t)]) (λi=>l.length-i) (λi=>i<=l.length) 0 (Qi _) rfl (λ_ _=>rfl) (by rw [FP]; rfl) λi hi=>?_
 by_cases hlt:i<l.length
 ·obtain ⟨x,hx⟩:=gxE (l:=l) (i:=i) hlt;have ed1:(Uj l).drop (i+1)=Uj (l.drop (i+1)):=by simp [Uj,Y7]
  have hdl:=Ga (l.drop (i+1));have hdl2:(l.drop (i+1)).length<=1000:=by rw [Q4]; omega
  rw [<-yX l x i];refine go tt [.t (by simp [hcl]; omega),.x (Td hx),.r 17 (eI (b:=((i+1:Nat):Int)) (by simp)),.i (i+1),.r 18 (YN ed1)] rfl (by simp [Ul,Ga,eq_true (p:=∀ z,z∈Uj l->z.length=ti41.sz) (ZU l)]; omega) ?_;refine W5 (S:=Nat) 4 (λL1 j=>(20,.v (.oi j))::L1) (λj=>[.blk 41 (Ur (Gq (U4 t) s0 (IH l x i j)).1),.blk 41 (Ur (Gq (U4 t) s0 (IH l x i j)).2),.blk 189 (ta t),.blk 41 (Ur x)]) (λj=>(l.drop (i+1)).length-j) (λj=>j<=(l.drop (i+1)).length) 0 (Qi _) rfl rfl λj hj=>?_
  by_cases hltj:j<(l.drop (i+1)).length
  ·obtain ⟨y,hy⟩:=gxE (l:=(l.drop (i+1))) (i:=j) hltj;obtain ⟨s1,s2⟩:=hsc (IH l x i j) (Qh8 hx);have cn:=Qly (s:=Gq (U4 t) s0 (IH l x i j)) (m:=(x,y)) s1 s2 (hl x (Qa hx)) (hl y (Qy (Qa hy))) ht;rw [<-AA,<-yZ hy] at cn;refine go tt [.T,.x (Td hy),.c [0,1,2] cn] rfl (by simp [Ul,-List.length_drop]; omega) ?_;exact rd (j+1) (by omega) hltj rfl
  ·have e:=mN hx (Jx hltj);rw [e];refine go tt [.F] rfl (by simp [Ul,-List.length_drop]; omega) ?_;exact rd (i+1) (by omega) hlt rfl
 ·obtain rfl:i=l.length:=by omega
  exact W4 [] [0,1,2] [.f (by simp [hcl])] rfl
theorem iH {l:List Pt} {t:Tm} {s:Pt×Pt} (hl:∀ p∈l,Sc p.c) (hs:s.1∈l/\s.2∈l) (hn:l.length≤10) (ht:Va t):Uo prog 170 [.one (pts l),.one (.ofn 174 [] [.ow 0 0,.ow 1 0,.ow 2 0,.ow 3 0])] [.blk 41 (Ur s.1),.blk 41 (Ur s.2),.blk 189 (ta t),.blk 52 [.orow 4 7 none],.row false 126 7 []] [] [.blk 41 (Ur s.1),.blk 41 (Ur s.2),.blk 189 (ta t),.blk 52 [.orow 4 7 none],.row false 126 7 (Uy (Pg (U4 t) s (Fo l)))]:=by
 have hcl:=Ga l;have hpk:∀ i,i<=l.length->(G8 i l).length<=100:=λi hi=>by
  have:=JK i l;have:i*l.length<=10*10:=Zk (by omega) hn;omega
 show Uo prog 170 [.one (.row (Uj l)),.one (.ofn 174 [] [.ow 0 0,.ow 1 0,.ow 2 0,.ow 3 0])] _ _ _;refine Fl func170 rfl ?_;refine Wy [] rfl ?_;refine lp (S:=Nat) 5 (λL1 i=>(10,.v (.oi i))::L1) (λi=>[.blk 41 (Ur s.1),.blk 41 (Ur s.2),.blk 189 (ta t),.blk 52 [.orow 4 7 none],.row false 126 7 (Uy (Pg (U4 t) s (G8 i l)))]) (λi=>l.length-i) (λi=>i<=l.length) 0 (Qi _) rfl (λ_ _=>rfl) (by rw [FP]; rfl) λi hi=>?_
 by_cases hlt:i<l.length
 ·obtain ⟨x,hx⟩:=gxE (l:=l) (i:=i) hlt;have ed1:(Uj l).drop (i+1)=Uj (l.drop (i+1)):=by simp [Uj,Y7]
  have hdl:=Ga (l.drop (i+1));have hdl2:(l.drop (i+1)).length<=10:=by rw [Q4]; omega
  rw [<-yX l x i];refine go tt [.t (by simp [hcl]; omega),.x (Td hx),.r 17 (eI (b:=((i+1:Nat):Int)) (by simp)),.i (i+1),.r 18 (YN ed1)] rfl (by simp [Ul,Ga,eq_true (p:=∀ z,z∈Uj l->z.length=ti41.sz) (ZU l)]; omega) ?_;refine W5 (S:=Nat) 6 (λL1 j=>(20,.v (.oi j))::L1) (λj=>[.blk 41 (Ur s.1),.blk 41 (Ur s.2),.blk 189 (ta t),.blk 52 [.orow 4 7 none],.row false 126 7 (Uy (Pg (U4 t) s (IH l x i j))),.blk 41 (Ur x)]) (λj=>(l.drop (i+1)).length-j) (λj=>j<=(l.drop (i+1)).length) 0 (Qi _) rfl rfl λj hj=>?_
  by_cases hltj:j<(l.drop (i+1)).length
  ·obtain ⟨y,hy⟩:=gxE (l:=(l.drop (i+1))) (i:=j) hltj;have hdn:(Pg (U4 t) s (IH l x i j)).length<=1000000:=by
    refine Qd (BS _ _ _) ?_;unfold IH;rw [Qu,Zp,Qp];have:=hpk i hi; omega
   have cn:=Qlu (s:=s) (m:=(x,y)) (L:=Pg (U4 t) s (IH l x i j)) (hl _ hs.1) (hl _ hs.2) (hl x (Qa hx)) (hl y (Qy (Qa hy))) ht hdn;have en1:(if I0 s (x,y)=true then Pg (U4 t) s (IH l x i j)++[Md (U4 t) s.1 s.2 x y] else Pg (U4 t) s (IH l x i j))=Pg (U4 t) s (IH l x i (j+1)):=by
    rw [yZ hy];cases h:I0 s (x,y) with
    | true=>rw [if_pos rfl,Qgz h]
    | false=>rw [if_neg (by decide),Qgy h]
   dsimp only at cn;rw [en1] at cn;refine go tt [.T,.x (Td hy),.c [0,1,2,3,4] cn] rfl (by simp [Ul,-List.length_drop]; omega) ?_;exact rd (j+1) (by omega) hltj rfl
  ·have e:=mN hx (Jx hltj);rw [e];refine go tt [.F] rfl (by simp [Ul,-List.length_drop]; omega) ?_;exact rd (i+1) (by omega) hlt rfl
 ·obtain rfl:i=l.length:=by omega
  exact W4 [] [0,1,2,3,4] [.f (by simp [hcl])] rfl
theorem BJ {l:List Pt} {a:Tm} {c:Cr} {r1:Uf} (hl:∀ p∈l,Sc p.c) (hn:l.length≤10) (ha:Va a):Uo prog 125 [.one (.ow 0 0),.agg (ta a)] [.blk 203 (Gy c (Uj l) r1)] [.one (.row (Uy (Cm (U4 a) l)))] [.blk 203 (Gy c (Uj l) (Uj (O7 (U4 a) l)))]:=by
 have hcl:=Ga l;refine Fl func125 rfl ?_;by_cases h2:l.length<2
 ·obtain ⟨e1,e2⟩:=dH (U4 a) h2;rw [e1,e2];refine Wy [.k Ep] rfl ?_;refine nlc 0 13 rfl rfl rfl ?_;have hml:(l.map Ur).length=l.length:=Zp _;exact W4 [] [0] [.T] rfl
 ·obtain ⟨x,y,l',rfl⟩:=Qn6 h2;obtain ⟨l,hle⟩:=nmE (x::y::l');have hx0:(Uj l)[0]? = some (Ur x):=by rw [hle]; rfl
  have hy0:(Uj l)[1]? = some (Ur y):=by rw [hle]; rfl
  have hxl:x∈l:=by rw [hle]; simp
  have hyl:y∈l:=by rw [hle]; simp
  have eB:O7 (U4 a) (x::y::l')=[(Gq (U4 a) (x,y) (Fo l)).1,(Gq (U4 a) (x,y) (Fo l)).2]:=by rw [hle]; rfl
  have eC:Cm (U4 a) (x::y::l')=Pg (U4 a) (Gq (U4 a) (x,y) (Fo l)) (Fo l):=by rw [hle]; rfl
  rw [eB,eC];rw [<-hle] at hl hn h2 hcl ⊢;have c1:=iG (t:=a) (s0:=(x,y)) hl ⟨hxl,hyl⟩ (by omega) ha;obtain ⟨n1,n2⟩:=Cj (U4 a) (l:=l) (Fo l) (x,y) ⟨hxl,hyl⟩ (Rz _ _);generalize Gq (U4 a) (x,y) (Fo l)=s at *;have c2:=iH (t:=a) (s:=s) hl ⟨n1,n2⟩ hn ha;have hml:(l.map Ur).length=l.length:=Zp _;exact W4 [5] [0] [.k Ep,.F,.x hx0,.x hy0,.c [2,3,1] c1,.oc 8 0 126 7,.c [2,3,1,4,5] c2] rfl
theorem Qlk {T:Nat} {t:Rat} {Bc:Tm->List Ct} {Br:Tm->Uf} {r0:Uf} (ht:Qs 1640000 t) (hB:BuildOk Bc)
 (hb:∀ a c r1,Va a->CrOk c->Uo prog 125 [.one (.ow 0 0),.agg (ta a)] [.blk T (Gy c r0 r1)] [.one (.row (Uy (Bc a)))] [.blk T (Gy c r0 (Br a))])
 {K:Nat} {c c':Cr} {r1 r1':Uf} {n:Int} (hc:CrOk c) (hev:0<=c.ev/\c.ev+K<=1000000000000000000) (h:Uz c.now t<=0) (hg:YQ Bc Br t K c r1 0=some (c',r1',n)) :
 Uo prog 372 [.one (.ow 0 0),.agg (rl t),.one (.ofn 125 [.ow 0 0] [])] [.blk T (Gy c r0 r1)] [.oi n,.oi 0] [.blk T (Gy c' r0 r1')]:=by
 have qt:Qb t:=ht.mono (by decide);have c1:=Be hc.n.tb qt;refine Fl func372 rfl ?_;refine Wy [.c [0] (Ib hc.n),.k c1,.f (by simpa using h)] rfl ?_;refine W5 (S:=Nat×Cr×Uf×Int) 2 (λL1 s=>(8,.v (.oi s.2.2.2))::L1) (λs=>[.blk T (Gy s.2.1 r0 s.2.2.1),.blk 43 (rl t)]) (λs=>s.1) (λs=>CrOk s.2.1/\(0<=s.2.1.ev/\s.2.1.ev+s.1<=1000000000000000000)/\(0<=s.2.2.2/\s.2.2.2+s.1<=1000000000000000000)/\YQ Bc Br t s.1 s.2.1 s.2.2.1 s.2.2.2=some (c',r1',n)) (K,c,r1,0) ⟨hc,hev,⟨Int.le_refl 0,by dsimp only; omega⟩,hg⟩ rfl rfl λ⟨k,x,r,m⟩ ⟨j1,j2,j3,j4⟩=>?_
 dsimp only at j1 j2 j3 j4 ⊢;cases k with
 | zero=>cases j4
 |
  succ k =>
  simp only [YQ] at j4;obtain ⟨ws,w1,j4⟩:=Qc.1 j4;obtain ⟨o,o1,j4⟩:=Qc.1 j4;have cn:=GM (T:=T) (r0:=r0) (r1:=r) j1 w1 o1;have ca:=XZ (Um t.num) (Um (t.den:Int)) (Qd ht.1 (by decide)) (Qd ht.2 (by decide)) (by rw [Sl]; exact ht.mono (by decide));rw [Sl] at ca;cases o with
  |
   none =>
   injection j4 with j4; injection j4 with e1 j4; injection j4 with e2 e3;subst e1; subst e2; subst e3;exact W4 [] [0] [.c [0] cn,.g 25 true rfl,.t rfl,.k ca] rfl
  |
   some a =>
   have ha:=PP j1 w1 o1;dsimp only at j4;have cc:=Be ha.tb qt;by_cases h0:0<Uz a t
   ·rw [if_pos h0] at j4;injection j4 with j4; injection j4 with e1 j4; injection j4 with e2 e3;subst e1; subst e2; subst e3;exact W4 [] [0] [.c [0] cn,.g 25 false rfl,.k cc,.t (by simpa using h0),.k ca] rfl
   ·rw [if_neg h0] at j4;obtain ⟨w2,l1,j4⟩:=Qc.1 j4;have j1':=Dv j1 w1;have cl:=Tk (b:=a) (l:=[]) ha.tb (λt ht=>by cases ht) (by decide) rfl;have cb:=hb a { x with l:=ws } r ha j1';have cy:=YU (T:=T) (r0:=r0) (r1:=Br a) j1' ha (hB.p a ha) (hB.n a ha) l1;have hf:decide (0<Uz a t)=false:=by simpa using h0
    refine Wz [.c [0] cn,.g 25 false rfl,.k cc,.f hf,.k cl,.c [0] cb,.c [0] cy] rfl ?_;exact rd (k,⟨a,w2,x.ev+1⟩,Br a,m+1) (by dsimp only; omega) ⟨lay_ok _ j1' ha (hB.p a ha) (hB.n a ha) l1,by dsimp only; omega,by dsimp only; omega,j4⟩ rfl
end Orr
namespace Orr
open Go
def A5:Ub->Nat
 | []=>0
 | x::l=>x+10000*A5 l
def Dg (l:Ub):Prop:=∀ x∈l,x<10000
def Di (x:Nat):Ub:=if h:x=0 then [] else (x % 10000)::Di (x / 10000)
termination_by x
decreasing_by omega
theorem Pm:Di 0=[]:=by unfold Di; simp
theorem QL {x:Nat} (h:x≠0):Di x=(x % 10000)::Di (x / 10000):=by rw [Di]; simp [h]
theorem sG (x:Nat):A5 (Di x)=x:=by
 induction x using Nat.strongRecOn with
 |
  _ x ih =>
  rcases Q6 x with h | h
  ·subst h; rw [Pm]; rfl
  ·rw [QL (by omega)];simp only [A5];rw [ih _ (by omega)]; omega
theorem Qmb (x:Nat):Dg (Di x):=by
 induction x using Nat.strongRecOn with
 |
  _ x ih =>
  rcases Q6 x with h | h
  ·subst h; rw [Pm]; intro y hy; cases hy
  ·rw [QL (by omega)];intro y hy;rcases Qk.1 hy with rfl | hy
   ·omega
   ·exact ih _ (by omega) y hy
theorem EP {x:Nat}:(Di x).length=0↔x=0:=by
 constructor
 ·intro h;have h0:=Qh h;have:=sG x;rw [h0] at this;exact this.symm
 ·rintro rfl; rw [Pm]; rfl
theorem Qgv {x:Nat} (h:x≠0):(Di (x / 10000)).length+1=(Di x).length:=by rw [QL h]; rfl
theorem sZ (x:Nat):(Di x).length<=sz x:=by
 induction x using Nat.strongRecOn with
 |
  _ x ih =>
  by_cases h0:x=0
  ·subst h0; rw [Pm]; exact Qi _
  ·have h1:=Qgv h0;have h2:=ih (x / 10000) (by omega);have h3:sz (x / 10000)+1<=sz x:=by
    have h4:x<2^sz x:=PW x;rcases hs:sz x with _ | k
    ·rw [hs] at h4; simp at h4; omega
    ·rw [hs] at h4;have:sz (x / 10000)<=k:=Nz.2 (by rw [Zq] at h4; omega);omega
   omega
theorem wS (a b:Ub):A5 (a++b)=A5 a+10000^a.length*A5 b:=by
 induction a with
 | nil=>simp [A5]
 |
  cons x a ih =>
  simp only [Z7,A5,ih,Q7,Zq];rw [Xg,<-Xu,Zo 10000 (10000^a.length)]; omega
theorem zF:∀ {l:Ub},(∀ x∈l,x=0)->A5 l=0
 | [],_=>rfl
 |
  x::l,h=>by
  have h1:=h x (Qx ..);have h2:=zF (l:=l) λy hy=>h y (Qf _ hy)
  simp [A5,h1,h2]
theorem Dg.take {l:Ub} (h:Dg l) (k:Nat):Dg (l.take k):=λx hx=>h x (Qm hx)
theorem Dg.snoc {l:Ub} (h:Dg l) {x:Nat} (hx:x<10000):Dg (l++[x]):=by
 intro y hy;rcases Qr.1 hy with hy | hy
 ·exact h y hy
 ·rw [Ql.1 hy]; exact hx
theorem Dg.nil:Dg []:=λx h=>by cases h
theorem oR:∀ {l:Ub},Dg l->(∀ x,l[l.length-1]? = some x->x≠0)->l=Di (A5 l)
 | [],_,_=>by rw [A5,Pm]
 |
  x::l,h,hl=>by
  have h1:=h x (Qx ..);have h2:l=Di (A5 l):=oR (λy hy=>h y (Qf _ hy)) λy hy=>hl y (by
   rcases l with _ | ⟨z,t⟩
   ·simp at hy
   ·simpa using hy)
  have h3:x+10000*A5 l≠0:=by
   intro e;have hx:x=0:=by omega
   have hd:A5 l=0:=by omega
   rw [hd,Pm] at h2;subst h2;exact hl x rfl hx
  simp only [A5];rw [QL h3,show (x+10000*A5 l) % 10000=x by omega,show (x+10000*A5 l) / 10000=A5 l by omega,<-h2]
theorem zY {l:Ub} {m:Nat} (hd:Dg l) (hm:m<=l.length) (h1:∀ j x,m<=j->l[j]? = some x->x=0) (h2:0<m->∃ y,l[m-1]? = some y/\y≠0):l.take m=Di (A5 l):=by
 have e:A5 l=A5 (l.take m):=by
  conv=>lhs; rw [<-Ze m l,wS]
  rw [zF (l:=l.drop m) λx hx=>?_]
  ·omega
  ·obtain ⟨j,hj⟩:=Zm.1 hx;rw [Z1] at hj;exact h1 (m+j) x (by omega) hj
 rw [e];refine oR (hd.take m) λx hx=>?_
 have hl:(l.take m).length=m:=by rw [Qp]; omega
 rw [hl] at hx;rcases Q6 m with h0 | h0
 ·subst h0; simp at hx
 ·obtain ⟨y,hy,hy0⟩:=h2 h0;rw [V2 (by omega),hy] at hx;injection hx with hx; rw [<-hx]; exact hy0
theorem Qac {l:Ub} {j d:Nat} (h:l[j]? = some d):A5 (l.drop j)=d+10000*A5 (l.drop (j+1)):=by
 obtain ⟨hj,he⟩:=Qg.1 h;rw [Zz hj,he]; rfl
theorem cR {l:Ub} {j y:Nat} (h:j<l.length):(l.set j y).drop j=y::l.drop (j+1):=by
 rw [Zz (by simpa using h)];simp only [List.getElem_set_self];rw [List.drop_set_of_lt (by omega)]
theorem Dg.set {l:Ub} (h:Dg l) {j y:Nat} (hy:y<10000):Dg (l.set j y):=by
 intro x hx;rcases Ji hx with hx | rfl
 ·exact h x hx
 ·exact hy
theorem Dg.zeros (n:Nat):Dg (List.replicate n 0):=by
 intro x hx; rw [Z0 hx]; decide
theorem oL {V kd d:Nat} (hk:0<kd):(d+10000*V) / kd=(V % kd*10000+d) / kd+10000*(V / kd)/\(d+10000*V) % kd=(V % kd*10000+d) % kd/\(d<10000->(V % kd*10000+d) / kd<10000):=by
 have e:=Xh V kd;have e2:d+10000*V=(V % kd*10000+d)+kd*(10000*(V / kd)):=by
  conv=>lhs; rw [<-e]
  grind
 refine ⟨?_,?_,λhd=>?_⟩
 ·rw [e2,Ks _ _ hk]
 ·rw [e2,Vy]
 ·have:=Z9 V hk;exact (Vh hk).2 (by grind)
def dl (l:Ub):LV:=.row (l.map λ(x:Nat)=>[.int .i64 (x:Int)])
theorem GO (l:Ub):(l.map λ(x:Nat)=>[LV.int .i64 (x:Int)]).length=l.length:=by simp
theorem EN {l:Ub} {i x:Nat} (h:l[i]? = some x):(l.map λ(x:Nat)=>[LV.int .i64 (x:Int)])[i]? = some [.int .i64 (x:Int)]:=by rw [Zu,h]; rfl
abbrev nd (x:Nat):LV:=dl (Di x)
end Orr
namespace Orr
open Go Go.Proofs Tryz
set_option maxRecDepth 10000
abbrev vI (l:Ub):Uf:=l.map λ(x:Nat)=>[.int .i64 (x:Int)]
theorem Qlw {l:Ub} (hd:Dg l):W6 159 [.one (.row (vI l))] [.one (nd (A5 l))]:=by
 refine Fl func159 rfl (ln 0 rfl rfl λhl=>?_);rw [Zp] at hl;refine Wy [] rfl ?_;refine lp (S:=Nat) 0 (λL1 n=>(3,.v (.oi n))::L1) (λ_=>[]) id (λn=>n<=l.length/\∀ j x,n<=j->l[j]? = some x->x=0) (vI l).length ⟨by simp,λj x h1 h2=>by
  have:=(Qg.1 h2).1; simp at h1; omega⟩ rfl (λ_ _=>rfl) rfl λn ⟨h1,h2⟩=>?_
 cases n with
 | zero=>exact W0 [.g 8 false (by simp),.f rfl,.i 0] rfl (by have:=zY hd h1 h2 (λh=>by omega); unfold nd; rw [<-this]; simp [dl]) (by simp [Ul])
 |
  succ n =>
  obtain ⟨x,hx⟩:=gxE (l:=l) (i:=n) (by omega);by_cases h0:x=0
  ·refine Wz [.g 8 true (by simp),.r 11 (v:=.oi n) (by simp),.x (EN hx),.t (by simp [h0]),.r 17 (v:=.oi n) (by simp)] rfl ?_;exact rd n (by simp) ⟨by omega,λj y h3 h4=>by
    rcases V4 h3 with rfl | h3
    ·rw [hx] at h4; injection h4 with h4; rw [<-h4,h0]
    ·exact h2 j y h3 h4⟩ rfl
  ·exact W0 [.g 8 true (by simp),.r 11 (v:=.oi n) (by simp),.x (EN hx),.f (by simp [h0]),.i (n+1)] rfl (by have:=zY hd h1 h2 (λ_=>⟨x,hx,h0⟩); unfold nd; rw [<-this]; simp [dl,List.map_take]) (by simp [Ul] <;> omega)
theorem tU {x kd:Nat} (hxs:sz x<=100000000) (hk:0<kd/\kd<=65536):W6 157 [.one (nd x),.oi kd] [.one (nd (x / kd)),.oi ((x % kd:Nat):Int)]:=by
 have hln:=Qd (sZ x) hxs;obtain ⟨l,hl⟩:=nmE (Di x);have hx:A5 l=x:=by rw [hl,sG]
 have hd:Dg l:=by rw [hl]; exact Qmb x
 show W6 157 [.one (.row (vI (Di x))),.oi kd] _;rw [<-hl] at hln ⊢;rw [<-hx];have hll:=GO l;refine Fl func157 rfl ?_;refine Wz [.i (vI l).length,.i (vI l).length] rfl ?_;rw [hll,show List.replicate l.length [LV.int .i64 0]=vI (List.replicate l.length 0) from by simp [vI]];refine W5 (S:=Nat×Ub×Nat) 1 (λL1 s=>(8,.v (.oi ((s.1:Int)-1)))::(7,.v (.oi (s.2.2:Int)))::L1) (λs=>[.row false 3 1 (vI s.2.1)]) (λs=>s.1) (λs=>s.1<=l.length/\s.2.1.length=l.length/\Dg s.2.1/\A5 (s.2.1.drop s.1)=A5 (l.drop s.1) / kd/\s.2.2=A5 (l.drop s.1) % kd) (l.length,List.replicate l.length 0,0) ⟨Qn _,by simp,Dg.zeros _,by simp [A5],by simp [A5]⟩ rfl rfl λ⟨k,o,R⟩ ⟨j1,j2,j3,j4,hR⟩=>?_
 dsimp only at j1 j2 j3 j4 hR ⊢;cases k with
 |
  zero =>
  have cc:=Qlw j3;rw [Yi,Yi] at j4;rw [j4] at cc;exact W0 [.f (by simp),.k cc] rfl (by rw [hR,Yi]) trivial
 |
  succ k =>
  obtain ⟨d,hdk⟩:=gxE (l:=l) (i:=k) (by omega);have hd0:=hd d (Qa hdk);have hdd:=Qac hdk;obtain ⟨s1,s2,s3⟩:=oL (V:=A5 (l.drop (k+1))) (kd:=kd) (d:=d) hk.1;rw [<-hdd] at s1 s2;have hr:=Z9 (A5 (l.drop (k+1))) hk.1;rw [<-hR] at s1 s2 s3 hr;have e:((k+1:Nat):Int)-1=(k:Int):=by omega
  have htd:((R:Int)*10000+(d:Int)).tdiv (kd:Int)=(((R*10000+d) / kd:Nat):Int):=rfl;have hle:=Jr (R*10000+d) kd;have htb:0<=((R:Int)*10000+(d:Int)).tdiv (kd:Int)/\((R:Int)*10000+(d:Int)).tdiv (kd:Int)<=655369999:=by
   rw [htd]; revert hle; generalize (R*10000+d) / kd=Q; intro hle; omega
  rw [e];refine Wz [.t (by simp),.x (EN hdk),.r 26 (eI (b:=((R*10000+d:Nat):Int)) (by omega)),.r 31 (eI (b:=(((R*10000+d) / kd:Nat):Int)) (by rfl)),.i k,.r 35 (eI (b:=(((R*10000+d) % kd:Nat):Int)) (by rfl))] rfl ?_;exact rd (k,o.set k ((R*10000+d) / kd),(R*10000+d) % kd) (by dsimp only; omega) ⟨by dsimp only; omega,by simp [j2],j3.set (s3 hd0),by dsimp only; rw [cR (by omega)]; simp only [A5]; rw [j4,s1],by dsimp only; exact s2.symm⟩ (by simp [vI,List.map_set]; rfl)
theorem Qn2 (x k:Nat):sz (x / k)<=sz x:=Pd (Jr _ _)
theorem uG {x y:Nat} {o:Ub} (h:U9 x=o++U9 y) (h0:y≠0):U9 x=(o++[y % 4294967296])++U9 (y / 4294967296):=by
 rw [h,D6 h0]; simp
theorem Qhj (o:Ub) (z:Nat):lm (o++[z])=lm o++[[.int .u32 (z:Int)]]:=by simp [lm]
theorem Qo9 {x:Nat} (hx:sz x<=100000000):W6 103 [.one (nd x)] [lr (U9 x)]:=by
 have hlx:=Re hx;refine Fl func103 rfl ?_;refine Wy [.o 3 111 1] rfl ?_;refine W5 (S:=Nat×Ub) 1 (λL1 s=>(0,.v (.one (nd s.1)))::(3,.v (.one (.orow 0 1 none)))::L1) (λs=>[.row false 111 1 (lm s.2)]) (λs=>s.1) (λs=>U9 x=s.2++U9 s.1/\s.1<=x) (x,[]) ⟨rfl,Qn _⟩ rfl rfl λ⟨y,o⟩ ⟨j1,j2⟩=>?_
 dsimp only at j1 j2 ⊢;by_cases h0:y=0
 ·subst h0;rw [Gf,Zw] at j1;rw [j1];exact W0 [.f (by simp [Pm])] rfl
 ·have hs:=uG j1 h0;have hsy:sz y<=100000000:=Qd (Pd j2) hx;have c1:=tU (x:=y) (kd:=65536) hsy (by decide);have c2:=tU (x:=y / 65536) (kd:=65536) (Qd (Qn2 _ _) hsy) (by decide);have hl:(Di y).length≠0:=λh=>h0 (EP.1 h)
  have ol:o.length<=(U9 x).length:=by rw [j1]; simp
  have e:y / 65536 % 65536*65536+y % 65536=y % 4294967296:=by omega
  have e2:y / 65536 / 65536=y / 4294967296:=by omega
  refine go tt [.t (by simp; omega),.k c1,.k c2,.r 26 (Li (b:=((y % 4294967296:Nat):Int)) (by omega)),.s (sz:=1) (l:=[[.int .u32 ((y % 4294967296:Nat):Int)]]) (λc hc=>by rw [Ql.1 hc]; rfl)] rfl (by simp [Ul,Un]; omega) ?_;rw [<-e2] at hs;exact rd (y / 65536 / 65536,o++[y % 4294967296]) (by dsimp only; omega) ⟨hs,by dsimp only; omega⟩ (by rw [Qhj]; rfl)
abbrev ri (z:Int):Ue:=[nd z.natAbs,sg z]
theorem Qp7 (b:Bool) (m:Nat):[nd m,LV.bool (b && decide (0<m))]=ri (U5 b m):=by
 simp only [ri,sg,Hk,PM]
theorem Qnc (x:Nat):(0<(Di x).length)↔0<x:=by
 have:=EP (x:=x); omega
theorem Qgd (b:Bool) (m:Nat):W6 108 [.one (nd m),.one (.bool b)] [.agg (ri (U5 b m))]:=by
 rw [<-Qp7];have e:=Qnc m;cases b with
 | false=>exact W3 func108 rfl [.g 7 false rfl] rfl
 | true=>exact W3 func108 rfl [.g 7 true rfl] rfl (by simp [e]) trivial
theorem Qgb {z:Int}:W6 104 [.agg (ri z)] [.one (.bool (decide (z=0)))] :=
 W3 func104 rfl [] rfl (by have h:=EP (x:=z.natAbs); simp only [GO]; congr 3; rw [decide_eq_decide]; omega) trivial
theorem Qo8 {z:Int} (hz:U0 z<=100000000):W6 61 [.agg (ri z)] [.agg (Gw z)] :=
 W3 func61 rfl [.k (Qo9 hz)] rfl
theorem eBo {a b:Bool} (h:a=b):TV.one (LV.bool a)=.one (.bool b):=h ▸ rfl
theorem sW (l:Ub) (x:Nat):vI (l++[x])=vI l++[[.int .i64 (x:Int)]]:=by simp [vI]
theorem zJ {x y:Nat} {o:Ub} (h:Di x=o++Di y) (h0:y≠0):Di x=(o++[y % 10000])++Di (y / 10000):=by
 rw [h,QL h0]; simp
theorem Qlv {b:Bool} {x:Nat} (hx:x<=4000000000000000000) (hb:b=true->0<x):W6 63 [.oi (U5 b x)] [.agg (ri (U5 b x))]:=by
 have hl:(Di x).length<=100:=by
  have:=sZ x;have h2:sz x<=64:=Nz.2 (by omega);omega
 have hm:=Qgd b x;refine Fl func63 rfl ?_;cases b with
 |
  false =>
  show AK prog _ _ _ (XQ 0 [.oi x]) [];refine Wy [.f (by simp <;> omega),.r 3 (eBo (b:=false) (by simp)),.f rfl,.o 4 3 1] rfl ?_;refine W5 (S:=Nat×Ub) 2 (λL1 s=>(0,.v (.oi (s.1:Int)))::(4,.v (.one (.orow 1 1 none)))::L1) (λs=>[.blk 59 [.nils,.bool false],.row false 3 1 (vI s.2)]) (λs=>s.1) (λs=>Di x=s.2++Di s.1/\s.1<=x) (x,[]) ⟨rfl,Qn _⟩ rfl rfl λ⟨y,o⟩ ⟨j1,j2⟩=>?_
  dsimp only at j1 j2 ⊢;by_cases h0:y=0
  ·subst h0;rw [Pm,Zw] at j1;rw [<-j1];exact W0 [.f (by simp),.k hm] rfl
  ·have hs:=zJ j1 h0;have ol:o.length<=(Di x).length:=by rw [j1]; simp
   refine go tt [.t (by simp; omega),.r 18 (eI (b:=((y % 10000:Nat):Int)) (by rfl)),.s (sz:=1) (l:=[[.int .i64 ((y % 10000:Nat):Int)]]) (λc hc=>by rw [Ql.1 hc]; rfl),.r 22 (eI (b:=((y / 10000:Nat):Int)) (by rfl))] rfl (by simp [Ul,GO]; omega) ?_;exact rd (y / 10000,o++[y % 10000]) (by dsimp only; omega) ⟨hs,by dsimp only; omega⟩ (by rw [sW]; rfl)
 |
  true =>
  show AK prog _ _ _ (XQ 0 [.oi (-(x:Int))]) [];refine Wz [.f (by simp <;> omega),.r 3 (eBo (b:=true) (by simpa using hb rfl)),.t rfl,.r 0 (eI (b:=(x:Int)) (by omega)),.o 4 3 1] rfl ?_;refine W5 (S:=Nat×Ub) 2 (λL1 s=>(0,.v (.oi (s.1:Int)))::(4,.v (.one (.orow 1 1 none)))::L1) (λs=>[.blk 59 [.nils,.bool false],.row false 3 1 (vI s.2)]) (λs=>s.1) (λs=>Di x=s.2++Di s.1/\s.1<=x) (x,[]) ⟨rfl,Qn _⟩ rfl rfl λ⟨y,o⟩ ⟨j1,j2⟩=>?_
  dsimp only at j1 j2 ⊢;by_cases h0:y=0
  ·subst h0;rw [Pm,Zw] at j1;rw [<-j1];exact W0 [.f (by simp),.k hm] rfl
  ·have hs:=zJ j1 h0;have ol:o.length<=(Di x).length:=by rw [j1]; simp
   refine go tt [.t (by simp; omega),.r 18 (eI (b:=((y % 10000:Nat):Int)) (by rfl)),.s (sz:=1) (l:=[[.int .i64 ((y % 10000:Nat):Int)]]) (λc hc=>by rw [Ql.1 hc]; rfl),.r 22 (eI (b:=((y / 10000:Nat):Int)) (by rfl))] rfl (by simp [Ul,GO]; omega) ?_;exact rd (y / 10000,o++[y % 10000]) (by dsimp only; omega) ⟨hs,by dsimp only; omega⟩ (by rw [sW]; rfl)
theorem Qjy {n:Int} (hn:-4000000000000000000<=n/\n<=4000000000000000000):W6 63 [.oi n] [.agg (ri n)]:=by
 have e:U5 (decide (n<0)) n.natAbs=n:=by unfold U5; by_cases h:n<0 <;> simp [h] <;> omega
 have h:=Qlv (b:=decide (n<0)) (x:=n.natAbs) (by omega) (λh=>by have:=of_decide_eq_true h; omega);rwa [e] at h
abbrev fr (q:Rat):Ue:=ri q.num++ri (q.den:Int)
theorem sX:Di 1=[1]:=by rw [QL (by decide)]; rw [Pm]
theorem iY {n:Int}:W6 62 [.agg (ri n),.agg (ri 1)] [.agg (fr (n:Rat))]:=by
 have h0:(vI (Di (1:Int).natAbs))[0]? = some [LV.int .i64 1]:=by rw [show (1:Int).natAbs=1 from rfl,sX]; rfl
 have h1:decide (((vI (Di (1:Int).natAbs)).length:Int)=1)=true:=by rw [show (1:Int).natAbs=1 from rfl,sX]; rfl
 exact W3 func62 rfl [.k (Qgb (z:=1)),.f rfl,.f rfl,.g 19 true h1,.x h0,.t rfl] rfl
theorem Qlp {n:Int} (hn:-4000000000000000000<=n/\n<=4000000000000000000):W6 20 [.oi n,.oi 1] [.agg (fr (n:Rat))] :=
 W3 func20 rfl [.k (Qjy hn),.k (Qjy (n:=1) (by decide)),.k iY] rfl
theorem Qpa {q:Rat} (hq:Qs 100000000 q):W6 19 [.agg (fr q)] [.agg (rl q)] :=
 W3 func19 rfl [.k (Qo8 hq.1),.k (Qo8 hq.2)] rfl
end Orr
namespace Orr
open Go Go.Proofs Tryz Orq
set_option maxRecDepth 10000
theorem Aa {a:Tm} (ha:Va a):YT a a=some 0:=by
 obtain ⟨c,c1,c2⟩:=YS ha ha;rcases c2 with ⟨_,h⟩ | ⟨e,_⟩ | ⟨_,h⟩
 ·exact absurd h λh=>Eu ha.cut ha.cut h h
 ·rw [c1,e]
 ·exact absurd h λh=>Eu ha.cut ha.cut h h
theorem EX {c:Cr} {l l':List Pt} {r1:Uf} {ws:List Wt} (hc:CrOk c) (hl:∀ p∈l',Sc p.c) (hn:l'.length≤1000) (h:H5 c.l c.now (U6 (ZC l' c.now))=some ws) :
 Uo prog 373 [.one (.ow 0 0),.agg [pts l'],.oi 0] [.blk 196 (Gy c (Uj l) r1)] [.oi 0] [.blk 196 (Gy ⟨c.now,ws,c.ev⟩ (Uj l') (NA l' c.now))]:=by
 have hB:=kU hl hn;have cn:=Ib (T:=196) (c:=c) (r0:=Uj l') (r1:=r1) hc.n;have cb:=BV (c:=c) (r1:=r1) hl hn hc.n;have cg:=QN (T:=196) (r0:=Uj l') (r1:=NA l' c.now) hc hc.n (Aa hc.n) (Ju 0) (hB.p _ hc.n) (hB.n _ hc.n) h;refine Fl func373 rfl ?_;exact W4 [] [0] [.f rfl,.c [0] cn,.c [0] cb,.c [0] cg] rfl
theorem Qlr {c:Cr} {l s:List Pt} (hs:s.length<=1000000):Uo prog 88 [.one (.ow 0 0)] [.blk 196 (Gy c (Uj l) (Uj s))] [.one (ids (s.map (·.id)))] [.blk 196 (Gy c (Uj l) (Uj s))]:=by
 have hcl:=Ga s;refine Fl func88 rfl ?_;refine Wy [.o 3 3 1] rfl ?_;refine W5 (S:=Nat) 2 (λL1 i=>(11,.v (.oi i))::(3,.v (.one (.orow 1 1 none)))::L1) (λi=>[.blk 196 (Gy c (Uj l) (Uj s)),.row false 3 1 (((s.take i).map (·.id)).map λ(z:Int)=>[LV.int .i64 z])]) (λi=>s.length-i) (λi=>i<=s.length) 0 (Qi _) rfl rfl λi hi=>?_
 by_cases hlt:i<s.length
 ·obtain ⟨p,hp⟩:=gxE (l:=s) (i:=i) hlt;have hg:(((s.take (i+1)).map (·.id)).map λ(z:Int)=>[LV.int .i64 z])=(((s.take i).map (·.id)).map λ(z:Int)=>[LV.int .i64 z])++[[.int .i64 p.id]]:=by
   rw [Z5,hp]; simp
  refine Wz [.t (by simp [hcl]; omega),.x (Td hp),.s (sz:=1) (l:=[[.int .i64 p.id]]) (λc hc=>by rw [Ql.1 hc]; rfl)] rfl ?_;exact rd (i+1) (by omega) hlt (by rw [hg]; rfl)
 ·obtain rfl:i=s.length:=by omega
  rw [Q5];exact W4 [1] [0] [.f (by simp [hcl])] rfl
theorem Qls {lx ly:Uf} {px py:W9} {x y:LV} {d id:Int} {c:Cr} {l:List Pt} {r1:Uf} {ws:List Wt} (hx:IsInts lx px) (hy:IsInts ly py) (hd:Fu x y d) (hk:Cs 4294967294 1073741824 (Crv.mk px py d)) (hll:l.length<=900)
 (he:JH l ⟨Crv.norm (Crv.mk px py d),id⟩=0) (hc:CrOk c) (hl:∀ p∈put l ⟨Crv.norm (Crv.mk px py d),id⟩,Sc p.c) (hn:(put l ⟨Crv.norm (Crv.mk px py d),id⟩).length≤1000) (h:H5 c.l c.now (U6 (ZC (put l ⟨Crv.norm (Crv.mk px py d),id⟩) c.now))=some ws) :
 Uo prog 369 [.one (.ow 0 0),.agg [.row lx,.row ly,x,y,.int .i64 id]] [.blk 196 (Gy c (Uj l) r1)] [.oi 0] [.blk 196 (Gy ⟨c.now,ws,c.ev⟩ (Uj (put l ⟨Crv.norm (Crv.mk px py d),id⟩)) (NA (put l ⟨Crv.norm (Crv.mk px py d),id⟩) c.now))]:=by
 have cp:=qP (l:=l) (id:=id) hx hy hd hk (by omega);rw [if_pos he,he] at cp;have cw:=EX (l:=l) (r1:=r1) hc hl hn h;refine Fl func369 rfl ?_;obtain ⟨b,l',rfl,rfl,_⟩:=hd;exact W4 [] [0] [.k cp,.c [0] cw] rfl
theorem Qlq {t:Rat} {l:List Pt} {K:Nat} {c c':Cr} {r1 r1':Uf} {n:Int} (ht:Qs 1640000 t) (hl:∀ p∈l,Sc p.c) (hn:l.length≤1000) (hc:CrOk c) (hev:0≤c.ev/\c.ev+K≤1000000000000000000) (h:Uz c.now t≤0) (hg:YQ (ZC l) (NA l) t K c r1 0=some (c',r1',n)) :
 Uo prog 365 [.one (.ow 0 0),.agg (rl t)] [.blk 196 (Gy c (Uj l) r1)] [.oi n,.oi 0] [.blk 196 (Gy c' (Uj l) r1')]:=by
 have cg:=Qo0 (T:=196) (r0:=Uj l) ht (kU hl hn) (λa c r1 ha _=>BV (c:=c) (r1:=r1) hl hn ha) hc hev h hg;refine Fl func365 rfl ?_;exact W4 [] [0] [.k (M5 (ht.mono (by decide))),.c [0] cg] rfl
abbrev idl (l:W9):Uf:=l.map λ(z:Int)=>[.int .i64 z]
theorem HY {l:W9} {i:Nat} {z:Int} (h:l[i]? = some z):(idl l)[i]? = some [.int .i64 z]:=Hj h
theorem aP {a b:W9} (ha:a.length<=1000000) (hb:b.length<=1000000):W6 49 [.one (ids a),.one (ids b)] [.one (.bool (decide (a=b)))]:=by
 show W6 49 [.one (.row (idl a)),.one (.row (idl b))] _;have la:(idl a).length=a.length:=by simp
 have lb:(idl b).length=b.length:=by simp
 refine Fl func49 rfl ?_;by_cases hl:a.length=b.length
 ·refine Wy [.f (by simp; omega)] rfl ?_;refine W5 (S:=Nat) 0 (λL1 i=>(5,.v (.oi i))::L1) (λ_=>[]) (λi=>a.length-i) (λi=>i<=a.length/\a.take i=b.take i) 0 ⟨Qi _,rfl⟩ rfl rfl λi ⟨hi,he⟩=>?_
  by_cases hlt:i<a.length
  ·obtain ⟨x,hx⟩:=gxE (l:=a) (i:=i) hlt;obtain ⟨y,hy⟩:=gxE (l:=b) (i:=i) (by omega);by_cases e:x=y
   ·refine Wz [.t (by simp; omega),.x (HY hx),.x (HY hy),.f (by simpa using e)] rfl ?_;exact rd (i+1) (by omega) ⟨hlt,by rw [Z5,Z5,hx,hy,he,e]⟩ rfl
   ·have hne:a≠b:=λh=>by rw [h,hy] at hx; injection hx with hx; exact e hx.symm
    exact W0 [.t (by simp; omega),.x (HY hx),.x (HY hy),.t (by simpa using e)] rfl (by simp [hne]) trivial
  ·obtain rfl:i=a.length:=by omega
   have hab:a=b:=by rw [Q5] at he; rw [he,hl,Q5]
   exact W0 [.f (by simp)] rfl (by simp [hab]) trivial
 ·have hne:a≠b:=λh=>hl (by rw [h])
  exact W0 [.t (by simp; omega)] rfl (by simp [hne]) trivial
def NL (v n:Int):Int:=if n<1 then 0 else v.emod n
theorem lQ {v n:Int} (h:0<n):(if v.tmod n<0 then v.tmod n+n else v.tmod n)=v % n:=by
 have h3:=Km v (show n≠0 by omega);have h4:=V0 v h;have h1:=Int.tmod_eq_emod (a:=v) (b:=n);have hn:((n.natAbs:Nat):Int)=n:=by omega
 split at h1
 ·rw [h1]; simp; omega
 ·rename_i hc;rw [h1,hn];have:v % n≠0:=λe=>hc (.inr (V5 e))
  rw [if_pos (by omega)]; omega
theorem TJ {v n:Int} (hv:-9223372036854775808<=v/\v<=9223372036854775807) (hn:n<=1000000000):W6 13 [.oi v,.oi n] [.oi (NL v n)]:=by
 unfold NL;by_cases h:n<1
 ·rw [if_pos h];exact W3 func13 rfl [.t (by simpa using h)] rfl
 ·rw [if_neg h];have e:=lQ (v:=v) (n:=n) (by omega);have h3:=Km v (show n≠0 by omega);have h4:=V0 v (show 0<n by omega);show W6 13 [.oi v,.oi n] [.oi (v % n)];by_cases h0:v.tmod n<0
  ·rw [if_pos h0] at e;have b:-n<=v.tmod n:=by omega
   exact W3 func13 rfl [.f (by simpa using h),.t (by simpa using h0)] rfl (by rw [e]) (by simp [Ul]; omega)
  ·rw [if_neg h0] at e;exact W3 func13 rfl [.f (by simpa using h),.f (by simpa using h0)] rfl (by rw [e]) (by simp [Ul]; omega)
end Orr
namespace Orr
open Go Go.Proofs Tryz Orq
theorem QU {x y:Int} (hx:-9223372036854775808<=x/\x<=9223372036854775807) (hy:-9223372036854775808<=y/\y<=9223372036854775807):Sc (Tg x y):=⟨Crv.nml _,((TB hx hy).norm (by decide)).mono (by decide) (by decide)⟩
theorem Sc.pt {p:Pt} (h:Sc p.c):Qk3 4294967294 1073741824 p:=⟨h.n,h.c.mono (by decide) (by decide)⟩
theorem sL {l:List Pt} {x:Int} (hs:Hr l) (hx:∀ p∈l,p.id<x):has l x=false:=by
 cases h:has l x
 ·rfl
 ·obtain ⟨p,hp,e⟩:=(sD hs).1 h;have:=hx p hp; omega
end Orr
namespace Orr
open Go Go.Proofs Tryz Orq
set_option maxRecDepth 10000
def bX (l:List Pt) (a:Tm):List Ct:=Cm (U4 a) l
abbrev eY (l:List Pt) (a:Tm):Uf:=Uj (O7 (U4 a) l)
theorem rP {l:List Pt} {a:Tm}:∀ x∈bX l a,x.p∈NJ l:=λx hx=>by
 match l,hx with
 |
  u::v::l',hx =>
  unfold bX at hx;simp only [Cm] at hx;obtain ⟨h3,h4⟩:=Cj (U4 a) (l:=u::v::l') (Fo (u::v::l')) (u,v) ⟨by simp,by simp⟩ (Rz _ _);obtain ⟨m,hm,rfl⟩:=BP hx;obtain ⟨h1,h2⟩:=Rz _ _ m hm;rw [PH];exact RJ h3 h4 h1 h2
theorem lO {l:List Pt} (hl:∀ p∈l,Sc p.c) (hn:l.length≤10):BuildOk (bX l) :=
 ⟨λ_ _ x hx=>YX hl _ (rP x hx),λa _=>by
  have:=DV (U4 a) l;have:l.length*l.length<=10*10:=Zk hn hn;show (Cm (U4 a) l).length<=1000;omega⟩
def Qov (l:List Pt) (a:Tm):Cr:=⟨a,(U6 (bX l a)).map fresh,0⟩
theorem Qfv {t:Rat} {l:List Pt} {K:Nat} {c c':Cr} {r1 r1':Uf} {n:Int} (ht:Qs 1640000 t) (hl:∀ p∈l,Sc p.c) (hn:l.length≤10) (hc:CrOk c) (hev:0≤c.ev/\c.ev+K≤1000000000000000000) (h:Uz c.now t≤0) (hg:YQ (bX l) (eY l) t K c r1 0=some (c',r1',n)) :
 Uo prog 403 [.one (.ow 0 0),.agg (rl t)] [.blk 203 (Gy c (Uj l) r1)] [.oi n,.oi 0] [.blk 203 (Gy c' (Uj l) r1')]:=by
 have cg:=Qlk (T:=203) (r0:=Uj l) ht (lO hl hn) (λa c r1 ha _=>BJ (c:=c) (r1:=r1) hl hn ha) hc hev h hg;refine Fl func403 rfl ?_;exact W4 [] [0] [.k (M5 (ht.mono (by decide))),.c [0] cg] rfl
theorem rI {c:Cr} {r0:Uf} {a b:Pt}:Uo prog 92 [.one (.ow 0 0)] [.blk 203 (Gy c r0 (Uj [a,b]))] [.oi a.id,.oi b.id,.one (.bool true)] [.blk 203 (Gy c r0 (Uj [a,b]))]:=by
 refine Fl func92 rfl ?_;exact W4 [] [0] [.f rfl,.x (l:=Uj [a,b]) (i:=0) (xs:=Ur a) rfl,.x (l:=Uj [a,b]) (i:=1) (xs:=Ur b) rfl] rfl
theorem qS {c:Cr} {r0:Uf}:Uo prog 92 [.one (.ow 0 0)] [.blk 203 (Gy c r0 [])] [.oi 0,.oi 0,.one (.bool false)] [.blk 203 (Gy c r0 [])]:=by
 refine Fl func92 rfl ?_;exact W4 [] [0] [.t rfl] rfl
end Orr
namespace Orr
open Go
def GV (q:W9->Int) (a b:Pt):Pt×Pt:=if M3 q a b=true then (a,b) else (b,a)
def Ar (q:W9->Int):Nat->List Pt->List Pt×List (Pt×Pt)
 | 0,l=>(l,[])
 |
  k+1,l=>if l.length<2 then (l,[]) else
  match (Ar q k (l.take ((l.length+1) / 2))).1,(Ar q k (l.drop ((l.length+1) / 2))).1 with
  | a::_,b::_=>([(GV q a b).1],(Ar q k (l.take ((l.length+1) / 2))).2++(Ar q k (l.drop ((l.length+1) / 2))).2++[GV q a b])
  | _,_=>([],[])
theorem Bm (q:W9->Int):∀ (k:Nat) (l:List Pt),l.length<=k->Ar q k l=Ar q l.length l
 | 0,l,h=>by rw [show l.length=0 by omega]
 |
  k+1,l,h=>by
  cases hl:l.length with
  | zero=>simp [Ar,hl]
  |
   succ m =>
   simp only [Ar];by_cases h2:l.length<2
   ·rw [if_pos h2,if_pos h2]
   ·rw [if_neg h2,if_neg h2];have h3:(l.take ((l.length+1) / 2)).length<=m:=by rw [Qp]; omega
    have h4:(l.drop ((l.length+1) / 2)).length<=m:=by rw [Q4]; omega
    rw [Bm q k (l.take ((l.length+1) / 2)) (by omega),Bm q k (l.drop ((l.length+1) / 2)) (by omega),Bm q m (l.take ((l.length+1) / 2)) h3,Bm q m (l.drop ((l.length+1) / 2)) h4]
termination_by k=>k
def Mx (q:W9->Int) (l:List Pt):List Pt×List (Pt×Pt):=Ar q l.length l
theorem Ng (q:W9->Int) {l:List Pt} (h:l.length<2):Mx q l=(l,[]):=by
 unfold Mx;cases hl:l.length with
 | zero=>rfl
 | succ m=>simp only [Ar]; rw [if_pos h]
theorem As (q:W9->Int) {l:List Pt} (h:¬l.length<2) {a b:Pt} (ha:(Mx q (l.take ((l.length+1) / 2))).1=[a]) (hb:(Mx q (l.drop ((l.length+1) / 2))).1=[b]) :
 Mx q l=([(GV q a b).1],(Mx q (l.take ((l.length+1) / 2))).2++(Mx q (l.drop ((l.length+1) / 2))).2++[GV q a b]):=by
 unfold Mx at ha hb ⊢;obtain ⟨m,hm⟩:∃ m,l.length=m+1:=⟨l.length-1,by omega⟩;have h3:(l.take ((l.length+1) / 2)).length<=m:=by rw [Qp]; omega
 have h4:(l.drop ((l.length+1) / 2)).length<=m:=by rw [Q4]; omega
 rw [<-Bm q m _ h3] at ha ⊢;rw [<-Bm q m _ h4] at hb ⊢;rw [show Ar q l.length l=Ar q (m+1) l by rw [hm]];simp only [Ar];rw [if_neg h,ha,hb]
theorem Pu (q:W9->Int):∀ (k:Nat) (l:List Pt),l.length≤k->0<l.length->∃ a,(Mx q l).1=[a]/\a∈l/\∀ m∈(Mx q l).2,m.1∈l/\m.2∈l
 | 0,l,h,h0=>by omega
 |
  k+1,l,h,h0=>by
  by_cases h2:l.length<2
  ·rw [Ng q h2]
   match l,h0,h2 with
   | [a],_,_=>exact ⟨a,rfl,by simp,by simp⟩
  ·obtain ⟨a,ha,hal,ham⟩:=Pu q k (l.take ((l.length+1) / 2)) (by rw [Qp]; omega) (by rw [Qp]; omega);obtain ⟨b,hb,hbl,hbm⟩:=Pu q k (l.drop ((l.length+1) / 2)) (by rw [Q4]; omega) (by rw [Q4]; omega);rw [As q h2 ha hb];have hd:(GV q a b).1∈l/\(GV q a b).2∈l:=by
    unfold GV; split
    ·exact ⟨Qm hal,Qy hbl⟩
    ·exact ⟨Qy hbl,Qm hal⟩
   refine ⟨_,rfl,hd.1,λm hm=>?_⟩;rcases Qr.1 hm with hm | hm
   ·rcases Qr.1 hm with hm | hm
    ·exact ⟨Qm (ham m hm).1,Qm (ham m hm).2⟩
    ·exact ⟨Qy (hbm m hm).1,Qy (hbm m hm).2⟩
   ·rw [Ql.1 hm]; exact hd
theorem Bn (q:W9->Int):∀ (k:Nat) (l:List Pt),l.length<=k->(Mx q l).2.length<=l.length-1
 | 0,l,h=>by rw [Ng q (by omega)]; simp
 |
  k+1,l,h=>by
  by_cases h2:l.length<2
  ·rw [Ng q h2]; simp
  ·obtain ⟨a,ha,_⟩:=Pu q l.length (l.take ((l.length+1) / 2)) (by rw [Qp]; omega) (by rw [Qp]; omega);obtain ⟨b,hb,_⟩:=Pu q l.length (l.drop ((l.length+1) / 2)) (by rw [Q4]; omega) (by rw [Q4]; omega);rw [As q h2 ha hb];have h3:=Bn q k (l.take ((l.length+1) / 2)) (by rw [Qp]; omega);have h4:=Bn q k (l.drop ((l.length+1) / 2)) (by rw [Q4]; omega);rw [Qp] at h3;rw [Q4] at h4;simp only [Qu,Kg];omega
abbrev dF (m:Pt×Pt):Ue:=[pl m.1.c.x,pl m.1.c.y,sg m.1.c.d,mg m.1.c.d,.int .i64 m.1.id,pl m.2.c.x,pl m.2.c.y,sg m.2.c.d,mg m.2.c.d,.int .i64 m.2.id]
end Orr
namespace Orq
open Orr Go
def VV (q:Rat) (x y:Pt):Prop:=py y q<py x q\/py y q=py x q/\(px y q<px x q\/px y q=px x q/\x.id<y.id)
theorem Qbq (q:Rat) (x:Pt):¬VV q x x:=by unfold VV; grind
theorem Qhi (q:Rat) (x y z:Pt) (h:VV q x y) (h':VV q y z):VV q x z:=by unfold VV at *; grind
theorem Qbr {q:Rat} {x y:Pt} (h:x.id≠y.id) (h':¬VV q x y):VV q y x:=by unfold VV at *; grind
theorem bJ {a:Tm} (ha:Va a) {x y:Pt} (hx:Sc x.c) (hy:Sc y.c) {q:Rat} (h1:Gn (U4 a) (Ff y.c x.c)=Us (Up (Ff y.c x.c) q)) (h2:Gn (U4 a) (Fg y.c x.c)=Us (Up (Fg y.c x.c) q)):M3 (U4 a) x y=true↔VV q x y:=by
 rw [UM hy hx] at h1;rw [UN hy hx] at h2;have d1:=(Pk hy hx).dp;have d2:=(Pl hy hx).dp;unfold M3;simp only [Da];have t1:=U7 (py x q-py y q);have t2:=U7 (px x q-px y q);by_cases e1:(Ff y.c x.c).length=0
 ·rw [if_neg (by omega)];rw [Qh e1,Oj] at h1;have:py x q=py y q:=by grind
  by_cases e2:(Fg y.c x.c).length=0
  ·rw [if_neg (by omega)];rw [Qh e2,Oj] at h2;unfold VV;simp only [decide_eq_true_eq];grind
  ·rw [if_pos (by omega)];have:=(Dt ha d2 e2).2;unfold VV;simp only [decide_eq_true_eq];grind
 ·rw [if_pos (by omega)];have:=(Dt ha d1 e1).2;unfold VV;simp only [decide_eq_true_eq];grind
theorem qU {l:List Pt} (hl:∀ p∈l,Sc p.c) {a:Tm} (ha:Va a):∃ y,Uz a y=-1/\∀ q,Uz a q=-1->q≤y->∀ u∈l,∀ v∈l,(M3 (U4 a) u v=true↔VV q u v):=by
 obtain ⟨y,y1,y2⟩:=Ol ha (Dn l) λp hp=>(A7 hl p hp).dp
 refine ⟨y,y1,λq q1 q2 u hu v hv=>?_⟩;have h:=y2 q q1 q2;exact bJ ha (hl u hu) (hl v hv) (h _ (Rp hv hu).2) (h _ (Rp hv hu).1)
theorem uP {a b:Tm} {x y:Pt} (h:Gn (U4 b) (Lr x y)=Gn (U4 a) (Lr x y)):M3 (U4 b) x y=M3 (U4 a) x y:=by
 unfold Lr C0 at h;unfold M3;simp only [Da];by_cases e1:0<(Ff y.c x.c).length
 ·rw [if_pos e1,if_pos e1]; rw [if_pos e1] at h; rw [h]
 ·rw [if_neg e1,if_neg e1]; rw [if_neg e1] at h; rw [h]
theorem Qba {l:List Pt} {k:Nat} (h2:¬l.length<2) (hk:l.length<=k+1):(l.take ((l.length+1) / 2)).length<=k/\(l.drop ((l.length+1) / 2)).length<=k/\0<(l.take ((l.length+1) / 2)).length/\0<(l.drop ((l.length+1) / 2)).length:=by
 rw [Qp,Q4]; omega
theorem UW {sa sb:W9->Int}:∀ (k:Nat) (l:List Pt),l.length≤k->l.Pairwise (λx y=>x.id≠y.id)->(∀ u∈l,∀ v∈l,u.id≠v.id->M3 sa u v=false->M3 sa v u=true)->(∀ u∈l,∀ v∈l,M3 sb v u=true->M3 sb u v=false)->(∀ m∈(Mx sa l).2,M3 sb m.1 m.2=M3 sa m.1 m.2)->Mx sb l=Mx sa l
 | 0,l,hk,_,_,_,_=>by rw [Ng _ (by omega),Ng _ (by omega)]
 |
  k+1,l,hk,hd,h1,h2,hm=>by
  by_cases hs:l.length<2
  ·rw [Ng _ hs,Ng _ hs]
  ·obtain ⟨k1,k2,k3,k4⟩:=Qba hs hk;obtain ⟨a,ha,hal,_⟩:=Pu sa k (l.take ((l.length+1) / 2)) k1 k3;obtain ⟨b,hb,hbl,_⟩:=Pu sa k (l.drop ((l.length+1) / 2)) k2 k4;have hpl:=As sa hs ha hb;rw [hpl] at hm;have hd':=hd;rw [<-Ze ((l.length+1) / 2) l] at hd';obtain ⟨d1,d2,d3⟩:=Xj.1 hd';have i1:=UW k _ k1 d1 (λu hu v hv=>h1 u (Qm hu) v (Qm hv)) (λu hu v hv=>h2 u (Qm hu) v (Qm hv)) λm hm'=>hm m (by simp [hm'])
   have i2:=UW k _ k2 d2 (λu hu v hv=>h1 u (Qy hu) v (Qy hv)) (λu hu v hv=>h2 u (Qy hu) v (Qy hv)) λm hm'=>hm m (by simp [hm'])
   have hal':=Qm hal;have hbl':=Qy hbl;have e:GV sb a b=GV sa a b:=by
    have hmem:=hm (GV sa a b) (by simp);unfold GV at hmem ⊢;by_cases h:M3 sa a b=true
    ·rw [if_pos h] at hmem ⊢;rw [if_pos (hmem.trans h)]
    ·rw [if_neg h] at hmem ⊢;have h:M3 sa a b=false:=by simpa using h
     have:=h2 a hal' b hbl' (hmem.trans (h1 a hal' b hbl' (d3 a hal b hbl) h));rw [if_neg (by simp [this])]
   rw [hpl,As sb hs (by rw [i1]; exact ha) (by rw [i2]; exact hb),i1,i2,e]
end Orq
namespace Orr
open Orq Go
def OA (l:List Pt) (a:Tm):List Ct:=(Mx (U4 a) l).2.map λm=>Bz (U4 a) m.1 m.2
def kE (l:List Pt) (a:Tm):Uf×Uf:=((Mx (U4 a) l).1.map Ur,(Mx (U4 a) l).2.map dF)
theorem QQ {sg:W9->Int} {l:List Pt}:∀ m∈(Mx sg l).2,m.1∈l/\m.2∈l:=λm hm=>by
 by_cases h:0<l.length
 ·obtain ⟨_,_,_,h3⟩:=Pu sg l.length l (Qn _) h;exact h3 m hm
 ·rw [Ng _ (by omega)] at hm; cases hm
theorem Qk9 {l:List Pt} (hl:∀ p∈l,Sc p.c) {a:Tm}:∀ x∈OA l a,Cp x.p:=λx hx=>by
 obtain ⟨m,hm,rfl⟩:=Zf.1 hx;obtain ⟨h1,h2⟩:=QQ m hm;exact QE (Pk (hl _ h2) (hl _ h1)) (Pl (hl _ h2) (hl _ h1))
theorem kF {l:List Pt} (hl:∀ p∈l,Sc p.c) (hn:l.length≤1000):BuildOk (OA l) :=
 ⟨λa _=>Qk9 hl,λa _=>by
  unfold OA; rw [List.length_map];have:=Bn (U4 a) l.length l (Qn _); omega⟩
theorem Qff {l:List Pt} {a:Tm}:∀ x∈OA l a,x.p∈Dn l:=λx hx=>by
 obtain ⟨m,hm,rfl⟩:=Zf.1 hx;obtain ⟨h1,h2⟩:=QQ m hm;show Lr m.1 m.2∈Dn l;unfold Lr C0; split
 ·exact (Rp h2 h1).2
 ·exact (Rp h2 h1).1
theorem Qqi {l:List Pt} (hl:∀ p∈l,Sc p.c) (hn:l.length≤1000) (hd:l.Pairwise λx y=>x.id≠y.id):Stab (OA l) (kE l):=by
 refine ⟨kF hl hn,⟨Dn l,A7 hl,λa _ x hx=>?_⟩,λa b ha hb h=>?_⟩
 ·obtain ⟨m,hm,rfl⟩:=Zf.1 hx;obtain ⟨h1,h2⟩:=QQ m hm;show Lr m.1 m.2∈Dn l;unfold Lr C0; split
  ·exact (Rp h2 h1).2
  ·exact (Rp h2 h1).1
 ·obtain ⟨y,y1,y2⟩:=qU hl ha;obtain ⟨z,z1,z2⟩:=qU hl hb;have ga:=y2 y y1 Qo;have gb:=z2 z z1 Qo;have e:Mx (U4 b) l=Mx (U4 a) l:=UW l.length l (Qn _) hd (λu hu v hv hne hf=>(ga v hv u hu).2 (Qbr hne λh=>by
   rw [(ga u hu v hv).2 h] at hf; cases hf)) (λu hu v hv ht=>by
   cases hb':M3 (U4 b) u v
   ·rfl
   ·exact absurd (Qhi z u v u ((gb u hu v hv).1 hb') ((gb v hv u hu).1 ht)) (Qbq z u)) λm hm=>uP (h (Bz (U4 a) m.1 m.2) (Zf.2 ⟨m,hm,rfl⟩))
  refine ⟨?_,by unfold kE; rw [e]⟩;unfold OA;rw [e];refine Xx λm hm=>?_
  have:=h (Bz (U4 a) m.1 m.2) (Zf.2 ⟨m,hm,rfl⟩);unfold Bz;rw [show Gn (U4 b) (Lr m.1 m.2)=Gn (U4 a) (Lr m.1 m.2) from this]
end Orr
namespace Orq
open Orr Go
def Iz (a:Crv):Ua:=[Fh a.x a.d,Fh a.y a.d,JV (Fv a.x a.x) (Fv a.y a.y),[a.d*a.d]]
def zQ (a b c d:Crv):List Ua:=[Iz a,Iz b,Iz c,Iz d]
def XK (a b c d:Crv):W9:=Co 4 (zQ a b c d)
theorem VP {s:Nat} {k:Crv} (hn:I2 k) (hc:Cs s 3 k):(∀ p∈Iz k,Uu p/\Bd (s+s+3) p)/\∀ (j:Nat) (p:W9),(Iz k)[j]? = some p->p.length≤[2,2,4,0].getD j 0+1:=by
 have l1:=U8 k.x k.d;have l2:=U8 k.y k.d;have l3:=Tl k.x k.x;have l4:=Tl k.y k.y;have l5:=Ou (Fv k.x k.x) (Fv k.y k.y);have kx:=hc.lx;have ky:=hc.ly;have bx:Bd (s+s+2) (Fv k.x k.x):=S4 hc.x hc.x (by omega);have by_:Bd (s+s+2) (Fv k.y k.y):=S4 hc.y hc.y (by omega);have hd:=hn.2.2.1;have hd0:k.d*k.d≠0:=λe=>by rcases J3.1 e with e | e <;> omega
 have td:Uu [k.d*k.d]:=by unfold Uu; simp [trim,hd0]
 refine ⟨λp hp=>?_,λj p hp=>?_⟩
 ·simp only [Iz,Qk,Jw,or_false] at hp;rcases hp with rfl | rfl | rfl | rfl
  ·exact ⟨Fc _ _,Uk (Fi hc.x hc.d) (by omega)⟩
  ·exact ⟨Fc _ _,Uk (Fi hc.y hc.d) (by omega)⟩
  ·exact ⟨Fc _ _,Uk (YV bx by_) (by omega)⟩
  ·refine ⟨td,λz hz=>?_⟩;rw [Ql.1 hz];have:=Gv k.d k.d; have:=hc.d; omega
 ·match j,hp with
  | 0,hp=>injection hp with hp; subst hp; show _<=3; omega
  | 1,hp=>injection hp with hp; subst hp; show _<=3; omega
  | 2,hp=>injection hp with hp; subst hp; show _<=5; omega
  | 3,hp=>injection hp with hp; subst hp; exact Qn _
  | j+4,hp=>simp [Iz] at hp
theorem yI {s:Nat} {a b c d:Crv} (na:I2 a) (nb:I2 b) (nc:I2 c) (nd:I2 d) (ca:Cs s 3 a) (cb:Cs s 3 b) (cc:Cs s 3 c) (cd:Cs s 3 d):Sq (s+s+3) [2,2,4,0] 4 4 (zQ a b c d):=by
 have hr:∀ r∈zQ a b c d,∃ k:Crv,I2 k/\Cs s 3 k/\r=Iz k:=λr hr=>by
  simp only [zQ,Qk,Jw,or_false] at hr;rcases hr with rfl | rfl | rfl | rfl
  ·exact ⟨a,na,ca,rfl⟩
  ·exact ⟨b,nb,cb,rfl⟩
  ·exact ⟨c,nc,cc,rfl⟩
  ·exact ⟨d,nd,cd,rfl⟩
 refine ⟨rfl,λr h=>?_,λr h p hp=>?_,λr h p hp=>?_,λr h j p hp=>?_⟩
 all_goals obtain ⟨k,kn,kc,rfl⟩:=hr r h
 ·rfl
 ·exact ((VP kn kc).1 p hp).1
 ·exact ((VP kn kc).1 p hp).2
 ·exact (VP kn kc).2 j p hp
theorem sQ {a b c d:Crv} (ha:Sc a) (hb:Sc b) (hc:Sc c) (hd:Sc d):Cp (XK a b c d):=by
 obtain ⟨h1,h2,h3⟩:=HG 4 [2,2,4,0] (zQ a b c d) (by decide) rfl (by decide) (yI ha.n hb.n hc.n hd.n ha.c hb.c hc.c hd.c);exact ⟨h1,Qd h3 (by decide),Uk h2 (by decide)⟩
def CL (sg:W9->Int) (a b c d:Pt):Ct:=⟨4,a.id,b.id,c.id,d.id,XK a.c b.c c.c d.c,Gn sg (XK a.c b.c c.c d.c)⟩
abbrev P3:=Pt×(Pt×Pt)
abbrev P4:=Pt×P3
def Cx:Nat->List Pt->List P3
 | 0,_=>[]
 | _+1,[]=>[]
 | k+1,x::l=>(Fo l).map (λm=>(x,m))++Cx k l
def Hl (l:List Pt):List P3:=Cx l.length l
def Dz:Nat->List Pt->List P4
 | 0,_=>[]
 | _+1,[]=>[]
 | k+1,x::l=>(Hl l).map (λm=>(x,m))++Dz k l
def Ay (l:List Pt):List P4:=Dz l.length l
theorem ZS:∀ (l:List Pt) (i:Nat) (x:Pt),l[i]? = some x->Cx (i+1) l=Cx i l++(Fo (l.drop (i+1))).map (λm=>(x,m))
 | [],i,x,h=>by simp at h
 | y::l,0,x,h=>by simp at h; subst h; simp [Cx]
 |
  y::l,i+1,x,h=>by
  have ih:=ZS l i x (by simpa using h);show (Fo l).map _++Cx (i+1) l=((Fo l).map _++Cx i l)++_;rw [ih,Za]; rfl
theorem UF:∀ (l:List Pt) (i:Nat) (x:Pt),l[i]? = some x->Dz (i+1) l=Dz i l++(Hl (l.drop (i+1))).map (λm=>(x,m))
 | [],i,x,h=>by simp at h
 | y::l,0,x,h=>by simp at h; subst h; simp [Dz]
 |
  y::l,i+1,x,h=>by
  have ih:=UF l i x (by simpa using h);show (Hl l).map _++Dz (i+1) l=((Hl l).map _++Dz i l)++_;rw [ih,Za]; rfl
theorem ML:∀ (k:Nat) (l:List Pt),∀ m∈Cx k l,m.1∈l/\m.2.1∈l/\m.2.2∈l
 | 0,l,m,h=>by simp [Cx] at h
 | k+1,[],m,h=>by simp [Cx] at h
 |
  k+1,x::l,m,h=>by
  rcases Qr.1 h with h | h
  ·obtain ⟨y,hy,rfl⟩:=Zf.1 h;obtain ⟨h1,h2⟩:=Rz _ _ y hy;exact ⟨Qx ..,Qf _ h1,Qf _ h2⟩
  ·obtain ⟨h1,h2,h3⟩:=ML k l m h;exact ⟨Qf _ h1,Qf _ h2,Qf _ h3⟩
theorem yU:∀ (k:Nat) (l:List Pt),∀ m∈Dz k l,m.1∈l/\m.2.1∈l/\m.2.2.1∈l/\m.2.2.2∈l
 | 0,l,m,h=>by simp [Dz] at h
 | k+1,[],m,h=>by simp [Dz] at h
 |
  k+1,x::l,m,h=>by
  rcases Qr.1 h with h | h
  ·obtain ⟨y,hy,rfl⟩:=Zf.1 h;obtain ⟨h1,h2,h3⟩:=ML _ _ y hy;exact ⟨Qx ..,Qf _ h1,Qf _ h2,Qf _ h3⟩
  ·obtain ⟨h1,h2,h3,h4⟩:=yU k l m h;exact ⟨Qf _ h1,Qf _ h2,Qf _ h3,Qf _ h4⟩
theorem ZF {l:List Pt} (h:l.length<=6):(Hl l).length<=20/\(Ay l).length<=15:=by
 match l,h with
 | [],_=>exact ⟨Zb rfl,Zb rfl⟩
 | [_],_=>exact ⟨Zb rfl,Zb rfl⟩
 | [_,_],_=>exact ⟨Zb rfl,Zb rfl⟩
 | [_,_,_],_=>exact ⟨Zb rfl,Zb rfl⟩
 | [_,_,_,_],_=>exact ⟨Zb rfl,Zb rfl⟩
 | [_,_,_,_,_],_=>exact ⟨Zb rfl,Zb rfl⟩
 | [_,_,_,_,_,_],_=>exact ⟨Zb rfl,Zb rfl⟩
 | _::_::_::_::_::_::_::_,h=>simp at h
abbrev P7:=List (W9×LV)
def GU (sg:W9->Int) (m:P3):Ct:=Ci sg m.1 m.2.1 m.2.2
def WJ (sg:W9->Int) (m:P4):Ct:=CL sg m.1 m.2.1 m.2.2.1 m.2.2.2
def uW (m:P3):W9:=[m.1.id,m.2.1.id,m.2.2.id]
def Qpq (m:P4):W9:=[m.1.id,m.2.1.id,m.2.2.1.id,m.2.2.2.id]
def L6 (V:List (W9×Int)):P7:=V.foldl (λM e=>Dd M e.1 (.int .i64 e.2)) []
def I7 (sg:W9->Int) (ps:List P3):List (W9×Int):=ps.map λm=>(uW m,(GU sg m).want)
def ZA (sg:W9->Int) (ps:List P4):List (W9×Int):=ps.map λm=>(Qpq m,(WJ sg m).want)
theorem rX (sg:W9->Int) (ps:List P3) (m:P3):L6 (I7 sg (ps++[m]))=Dd (L6 (I7 sg ps)) (uW m) (.int .i64 (GU sg m).want):=by simp [L6,I7]
def Ac (T:P7) (s:Int) (n:W9) (F:P7) (skip:Nat):P7:=if I5 T (n.eraseIdx skip)*(if (3-skip) % 2=1 then -s else s)>0 then Dd F (n.eraseIdx skip) (.bool true) else F
def BE (T:P7) (s:Int) (n:W9) (F:P7):P7:=Ac T s n (Ac T s n (Ac T s n (Ac T s n F 0) 1) 2) 3
def Af (T:P7) (V:List (W9×Int)):P7:=V.foldl (λF e=>BE T e.2 e.1 F) []
theorem wI (sg:W9->Int) (T:P7) (ps:List P4) (m:P4):Af T (ZA sg (ps++[m]))=BE T (WJ sg m).want (Qpq m) (Af T (ZA sg ps)):=by simp [Af,ZA]
def AH (T F:P7) (m:P3):Bool:=decide (I5 T (uW m)≠0) && !(RP F (uW m))
theorem Qmj {T F:P7} {ps:List P3} {m:P3} (h:AH T F m=true):(ps++[m]).filter (AH T F)=ps.filter (AH T F)++[m]:=by simp [Y8,h]
theorem Qaq {T F:P7} {ps:List P3} {m:P3} (h:AH T F m=false):(ps++[m]).filter (AH T F)=ps.filter (AH T F):=by simp [Y8,h]
def xE (sg:W9->Int) (l:List Pt):List Ct:=(Hl (H7 l)).map (GU sg)++(Ay (H7 l)).map (WJ sg)
def xA (sg:W9->Int) (l:List Pt):List P3:=(Hl (H7 l)).filter (AH (L6 (I7 sg (Hl (H7 l)))) (Af (L6 (I7 sg (Hl (H7 l)))) (ZA sg (Ay (H7 l)))))
abbrev trL (m:P3):Ue:=[.int .i64 m.1.id,.int .i64 m.2.1.id,.int .i64 m.2.2.id]
def JL (l:List P3):Uf:=l.map trL
theorem vH (l:List P3):(JL l).length=l.length:=by simp [JL]
theorem dJ (sg:W9->Int) {l:List Pt} (h:l.length<=6):(xA sg l).length<=20:=by
 have hw:=A4 l;exact Qd (Yp _ _) (ZF (l:=H7 l) (by omega)).1
theorem dX (sg:W9->Int) {l:List Pt} (h:l.length<=6):(xE sg l).length<=35:=by
 have hw:=A4 l;obtain ⟨h1,h2⟩:=ZF (l:=H7 l) (by omega);unfold xE;rw [Qu,Zp,Zp]; omega
def vE (l:List Pt) (a:Tm):List Ct:=xE (U4 a) l
abbrev kL (l:List Pt) (a:Tm):Uf:=JL (xA (U4 a) l)
def bZ (l:List Pt):Ua:=(Hl (H7 l)).map (λm=>Gk m.1.c m.2.1.c m.2.2.c)++(Ay (H7 l)).map λm=>XK m.1.c m.2.1.c m.2.2.1.c m.2.2.2.c
theorem LN {l:List Pt} (hl:∀ p∈l,Sc p.c):∀ p∈bZ l,Cp p:=λp hp=>by
 have hw:=λ(x:Pt) (h:x∈H7 l)=>hl x (Py h)
 rcases Qr.1 hp with hp | hp
 ·obtain ⟨m,hm,rfl⟩:=Zf.1 hp;obtain ⟨h1,h2,h3⟩:=ML _ _ m hm;exact QD (hw _ h1) (hw _ h2) (hw _ h3)
 ·obtain ⟨m,hm,rfl⟩:=Zf.1 hp;obtain ⟨h1,h2,h3,h4⟩:=yU _ _ m hm;exact sQ (hw _ h1) (hw _ h2) (hw _ h3) (hw _ h4)
theorem LD {l:List Pt} {a:Tm}:∀ x∈vE l a,x.p∈bZ l:=λx hx=>by
 rcases Qr.1 hx with hx | hx
 ·obtain ⟨m,hm,rfl⟩:=Zf.1 hx;exact Xz _ (Zf.2 ⟨m,hm,rfl⟩)
 ·obtain ⟨m,hm,rfl⟩:=Zf.1 hx;exact X9 _ (Zf.2 ⟨m,hm,rfl⟩)
theorem lC {l:List Pt} (h:l.length<=6):(bZ l).length<=1000000:=by
 have hw:=A4 l;obtain ⟨h1,h2⟩:=ZF (l:=H7 l) (by omega);unfold bZ;rw [Qu,Zp,Zp]; omega
theorem kK {l:List Pt} (hl:∀ p∈l,Sc p.c) (hn:l.length≤6):BuildOk (vE l) :=
 ⟨λ_ _ x hx=>LN hl _ (LD x hx),λa _=>Qd (dX _ hn) (by decide)⟩
theorem Qqe {l:List Pt} (hl:∀ p∈l,Sc p.c) (hn:l.length≤6):Stab (vE l) (kL l):=by
 refine ⟨kK hl hn,⟨bZ l,LN hl,λa _=>LD⟩,λa b _ _ h=>?_⟩;have e1:∀ m∈Hl (H7 l),GU (U4 b) m=GU (U4 a) m:=λm hm=>by
  have:=h (GU (U4 a) m) (Xz _ (Zf.2 ⟨m,hm,rfl⟩));have e:Gn (U4 b) (Gk m.1.c m.2.1.c m.2.2.c)=Gn (U4 a) (Gk m.1.c m.2.1.c m.2.2.c):=this;unfold GU Ci; rw [e]
 have e2:∀ m∈Ay (H7 l),WJ (U4 b) m=WJ (U4 a) m:=λm hm=>by
  have:=h (WJ (U4 a) m) (X9 _ (Zf.2 ⟨m,hm,rfl⟩));have e:Gn (U4 b) (XK m.1.c m.2.1.c m.2.2.1.c m.2.2.2.c)=Gn (U4 a) (XK m.1.c m.2.1.c m.2.2.1.c m.2.2.2.c):=this;unfold WJ CL; rw [e]
 have t1:I7 (U4 b) (Hl (H7 l))=I7 (U4 a) (Hl (H7 l)):=Xx λm hm=>by rw [e1 m hm]
 have t2:ZA (U4 b) (Ay (H7 l))=ZA (U4 a) (Ay (H7 l)):=Xx λm hm=>by rw [e2 m hm]
 constructor
 ·unfold vE xE;rw [Xx e1,Xx e2]
 ·unfold kL xA;rw [t1,t2]
def Qot (l:List Pt) (a:Tm):Cr:=⟨a,(U6 (vE l a)).map fresh,0⟩
def OO (M:P7):Prop:=∀ k,(Ln M k).getD (.int .i64 0)=.int .i64 (I5 M k)/\-1<=I5 M k/\I5 M k<=1
def ZO (M:P7):Prop:=∀ k,(Ln M k).getD (.bool false)=.bool (RP M k)
theorem CG (M:P7) (k:W9) (x:LV) (k':W9):Ln (Dd M k x) k'=if k'=k then some x else Ln M k':=by
 induction M with
 | nil=>simp [Dd,Ln]
 |
  cons e M ih =>
  simp only [Dd];by_cases h:k=e.1
  ·rw [if_pos h];simp only [Ln];by_cases h2:k'=k
   ·rw [if_pos h2,if_pos h2]
   ·rw [if_neg h2,if_neg h2,if_neg (λe2=>h2 (e2.trans h.symm))]
  ·rw [if_neg h];simp only [Ln];by_cases h2:k'=e.1
   ·rw [if_pos h2,if_pos h2,if_neg (λe2=>h (e2.symm.trans h2))]
   ·rw [if_neg h2,if_neg h2,ih]
theorem Qbi:OO []:=λ_=>⟨rfl,show (-1:Int)<=0 by decide,show (0:Int)<=1 by decide⟩
theorem bY:ZO []:=λ_=>rfl
theorem Qbj {M:P7} (h:OO M) {k:W9} {n:Int} (hn:-1<=n/\n<=1):OO (Dd M k (.int .i64 n)):=by
 intro k';have h1:=h k';unfold I5 at h1 ⊢;rw [CG];by_cases e:k'=k
 ·rw [if_pos e]; exact ⟨rfl,hn.1,hn.2⟩
 ·rw [if_neg e]; exact h1
theorem bV {M:P7} (h:ZO M) {k:W9} {b:Bool}:ZO (Dd M k (.bool b)):=by
 intro k';have h1:=h k';unfold RP at h1 ⊢;rw [CG];by_cases e:k'=k
 ·rw [if_pos e]; rfl
 ·rw [if_neg e]; exact h1
theorem Ea {T F:P7} {s:Int} {n:W9} {k:Nat} (h:ZO F):ZO (Ac T s n F k):=by
 unfold Ac;generalize (if (3-k) % 2=1 then -s else s)=s'
 split
 ·exact bV h
 ·exact h
theorem kB {T F:P7} {s:Int} {n:W9} (h:ZO F):ZO (BE T s n F):=Ea (Ea (Ea (Ea h)))
theorem dV {x s:Int} (hx:-1<=x/\x<=1) (hs:-1<=s/\s<=1):-9223372036854775808<=x*s/\x*s<=9223372036854775807:=by
 have h:x=-1\/x=0\/x=1:=by omega
 rcases h with rfl | rfl | rfl <;> omega
structure MOk (M:List Pt):Prop where
 sc:∀ p∈M,Sc p.c
 ln:M.length<=6
 so:Hr M
theorem MOk.df {M:List Pt} (h:MOk M):M.Pairwise λx y=>x.id≠y.id:=h.so.imp λh e=>by omega
structure Knd (β:Type) where
 bc:List Pt->Tm->List Ct
 br:List Pt->Tm->β
 al:List Pt->List (List Int)
structure KndOk {β:Type} (k:Knd β):Prop where
 st:∀ M,MOk M->Stab (k.bc M) (k.br M)
 cp:∀ M,MOk M->∀ p∈k.al M,Cp p
 al:∀ M a,∀ x∈k.bc M a,x.p∈k.al M
 ln:∀ M,MOk M->(k.al M).length<=1000000
abbrev kS:Knd Uf:=⟨ZC,NA,Dn⟩
abbrev kT:Knd (Uf×Uf):=⟨OA,kE,Dn⟩
abbrev kH:Knd Uf:=⟨NE,bK,λl=>Dn l++RY l⟩
abbrev kP:Knd Uf:=⟨bX,eY,NJ⟩
abbrev kD:Knd Uf:=⟨vE,kL,bZ⟩
theorem RV {l:List Pt} (h:l.length<=6):(Dn l).length<=72:=by
 rw [qY];exact Qd (Zk h (Zk h (Qn 2))) (by decide)
theorem YL {α β:Type} {f:α->List β} {n:Nat} (l:List α) (h:∀ x∈l,(f x).length=n):(l.flatMap f).length=l.length*n:=by
 induction l with
 | nil=>simp
 |
  cons x l ih =>
  rw [Jp,Qu,h x (by simp),ih λy hy=>h y (Qf _ hy),Q7,X4]; omega
theorem Qfc (l:List Pt):(RY l).length=l.length*(l.length*l.length):=by
 unfold RY;exact YL l λx _=>YL l λy _=>by simp
theorem Qfa (l:List Pt):(NJ l).length=l.length*(l.length*(l.length*l.length)):=by
 unfold NJ;exact YL l λx _=>YL l λy _=>YL l λz _=>by simp
theorem okS:KndOk kS:=⟨λM h=>Qqh h.sc (by have:=h.ln; omega) h.df,λM h=>A7 h.sc,λM a=>rM,λM h=>Qd (RV h.ln) (by decide)⟩
theorem okT:KndOk kT:=⟨λM h=>Qqi h.sc (by have:=h.ln; omega) h.df,λM h=>A7 h.sc,λM a=>Qff,λM h=>Qd (RV h.ln) (by decide)⟩
theorem okH:KndOk kH:=⟨λM h=>Qqf h.sc (by have:=h.ln; omega) h.df,λM h=>GR h.sc,λM a=>LL,λM h=>by
 have h1:=RV h.ln;have h2:=Qfc M;have h3:M.length*(M.length*M.length)<=6*(6*6):=Zk h.ln (Zk h.ln h.ln);show (Dn M++RY M).length<=_;rw [Qu]; omega⟩
theorem okP:KndOk kP:=⟨λM h=>Qqg h.sc (by have:=h.ln; omega) h.df,λM h=>YX h.sc,λM a=>rP,λM h=>by
 have h3:M.length*(M.length*(M.length*M.length))<=6*(6*(6*6)):=Zk h.ln (Zk h.ln (Zk h.ln h.ln));show (NJ M).length<=_;rw [Qfa]; omega⟩
theorem okD:KndOk kD:=⟨λM h=>Qqe h.sc h.ln,λM h=>LN h.sc,λM a=>LD,λM h=>lC h.ln⟩
open Classical in
noncomputable def cnt (bc:Tm->List Ct) (q t:Rat):Nat:=if h:∃ E,Evs bc t (tq q) E then (Classical.choose h).length else 0
theorem oW {β:Type} {Bc:Tm->List Ct} {Br:Tm->β} (S:Stab Bc Br) {q t:Rat} (hq:Va (tq q)) {E:List Tm} (h:Evs Bc t (tq q) E):cnt Bc q t=E.length:=by
 have hx:∃ E,Evs Bc t (tq q) E:=⟨E,h⟩;unfold cnt;rw [dif_pos hx];exact Qmi S hq (Classical.choose_spec hx) h
structure At {β:Type} (k:Knd β) (M:List Pt) (q:Rat) (c:Cr):Prop where
 now:c.now=tq q
 st:KSt (k.bc M) (k.br M) c (k.br M (tq q))
section
variable {β:Type} {k:Knd β} (ok:KndOk k) {M M':List Pt} {q t:Rat} {c:Cr}
include ok
theorem At.again (h:At k M q c) (hM:MOk M'):∃ ws,H5 c.l c.now (U6 (k.bc M' c.now))=some ws/\At k M' q ⟨tq q,ws,c.ev⟩:=by
 obtain ⟨⟨o,kk⟩,hcs,hr⟩:=h.st;have S:=ok.st M' hM;obtain ⟨ws,l1,l2⟩:=uU o.n o.l (U6 (k.bc M' c.now));have o':=Orr.lay_ok c.ev o o.n (S.ok.p _ o.n) (S.ok.n _ o.n) l1;have hl:=pW o.n o.n (λh=>Eu o.n.cut o.n.cut h h) o.l kk l1;rw [h.now] at o' hl l2;exact ⟨ws,l1,rfl,⟨⟨o',hl⟩,l2,rfl⟩⟩
theorem At.adv (h:At k M q c) (hM:MOk M) (ht:Qs 1640000 t) (hqt:q<=t) :
 ∃ (K:Nat) (c':Cr),K<=67000001/\YQ (k.bc M) (k.br M) t K c (k.br M (tq q)) 0=some (c',k.br M (tq t),((cnt (k.bc M) q t:Nat):Int))/\At k M t c'/\c'.ev=c.ev+((cnt (k.bc M) q t:Nat):Int)/\cnt (k.bc M) q t<=67000000/\cnt (k.bc M) q t<=((k.al M).flatMap NB).length:=by
 have S:=ok.st M hM;have hP:=ok.cp M hM;have hm:=OV hP;have hmu:=Qkk ((k.al M).flatMap NB) c.now;have hl:=ok.ln M hM;have hv:=h.st.inv.ok.n;have hc:Uz c.now t<=0:=by rw [h.now,vW]; rcases M6 q t with ⟨e,e'⟩ | ⟨e,e'⟩ | ⟨e,e'⟩ <;> first | omega | (exfalso; grind)
 obtain ⟨c',r',E,g1,g2,g3,g4,g5,g6⟩:=Qkd S ht hP (λa _=>ok.al M a) (mu ((k.al M).flatMap NB) c.now) c _ 0 (Qn _) h.st λh'=>by
  have:=(WV hv.cut).2 h'; omega
 have hr:r'=k.br M (tq t):=by rw [g3.r,g2]
 rw [hr] at g1 g3;rw [Int.zero_add] at g1;rw [h.now] at g6;have he:=oW S (by rw [<-h.now]; exact hv) g6;rw [he];exact ⟨_,c',by omega,g1,⟨g2,g3⟩,g4,by omega,by omega⟩
end
theorem At.begin {β:Type} {k:Knd β} (ok:KndOk k) {M:List Pt} {q:Rat} (hM:MOk M) (hq:Qs 1640000 q):At k M q ⟨tq q,(U6 (k.bc M (tq q))).map fresh,0⟩:=⟨rfl,eJ (ok.st M hM) (NC hq)⟩
end Orq
namespace Orr
open Go Go.Proofs Tryz Orq
set_option maxRecDepth 10000
abbrev Rj (c:Cr) (r0:Uf) (r1:Uf×Uf):Ue:=.bool true::pl c.now.p::sg c.now.lo.num::mg c.now.lo.num::sg (c.now.lo.den:Int)::mg (c.now.lo.den:Int)::sg c.now.hi.num::mg c.now.hi.num::sg (c.now.hi.den:Int)::mg (c.now.hi.den:Int)::.row (Nu c.l)::.int .i64 c.ev::[.row r0,.row r1.1,.row r1.2]
abbrev Ql7 (r0:LV) (r1:LV×LV):Ue:=[.bool false,.nils,.bool false,.nils,.bool false,.nils,.bool false,.nils,.bool false,.nils,.nils,.int .i64 0,r0,r1.1,r1.2]
theorem wX {T:Nat} {c:Cr} {r0:Uf} {r1:Uf×Uf} (hc:Va c.now):Uo prog 376 [.one (.ow 0 0)] [.blk T (Rj c r0 r1)] [.agg (ta c.now)] [.blk T (Rj c r0 r1)]:=by
 have cl:=Tk (b:=c.now) (l:=[]) hc.tb (λt ht=>by cases ht) (by decide) rfl;refine Fl func376 rfl ?_;exact W4 [] [0] [.f rfl,.k cl] rfl
theorem Qf1 {T:Nat} {c:Cr} {r0:Uf} {r1:Uf×Uf} {x:Ct} {at_:Tm} {w:Wt} (hc:CrOk c) (hx:Cp x.p) (ha:Va at_) (h:M9 c.l x at_=some w):Uo prog 195 [.one (.ow 0 0),.agg (C9 x),.agg (ta at_)] [.blk T (Rj c r0 r1)] [.agg (wl w)] [.blk T (Rj c r0 r1)]:=by
 have hk:=hc.k;have hw:=Rx c.l;refine Fl func195 rfl ?_;refine Wy [] rfl ?_;refine W5 (S:=Nat) 4 (λL1 i=>(14,.v (.oi i))::L1) (λ_=>[.blk T (Rj c r0 r1),.blk 126 (C9 x),.blk 189 (ta at_),.blk 291 [.int .i64 0,.int .i64 0,.int .i64 0,.int .i64 0,.int .i64 0,.nils,.int .i64 0,.bool false,.bool false,.nils,.bool false,.nils,.bool false,.nils,.bool false,.nils,.bool false,.nils]]) (λi=>c.l.length-i) (λi=>i<=c.l.length/\M9 (c.l.drop i) x at_=some w) 0 ⟨Qi _,h⟩ rfl rfl λi ⟨hi,hf⟩=>?_
 by_cases hlt:i<c.l.length
 ·obtain ⟨v,hv⟩:=gxE (l:=c.l) (i:=i) hlt;have hdr:c.l.drop i=v::c.l.drop (i+1):=by
   rw [Zz hlt]; congr 1;have:=Qe hlt; rw [hv] at this; injection this with this; exact this.symm
  have hvo:=hc.l v (Qa hv);rw [hdr] at hf;simp only [M9] at hf;have hl:decide ((i:Int)<((Nu c.l).length:Int))=true:=by simp [hw]; omega
  by_cases A:yB v.c x=true
  ·have A':(!decide ([v.c.kind,v.c.i0,v.c.i1,v.c.i2,v.c.i3]=[x.kind,x.i0,x.i1,x.i2,x.i3]))=false:=by
    unfold yB at A; rw [A]; rfl
   by_cases B:v.known=true
   ·have B':(!v.known)=false:=by rw [B]; rfl
    have cs:=GN (p:=v.c.p) (q:=x.p) (Dp.pb hvo.p.dp).ln (Dp.pb hx.dp).ln (Dp.pb hvo.p.dp).bd (Dp.pb hx.dp).bd;rw [hvo.p.t,hx.t] at cs;by_cases C:v.c.p=x.p
    ·have C':(!decide (v.c.p=x.p))=false:=by simp [C]
     rw [if_pos ⟨A,B,C⟩] at hf;obtain ⟨vc,vk,vf⟩:=v;cases vf with
     |
      none =>
      injection hf with hf; subst hf;exact W4 [] [0] [.t hl,.x (G7 hv),.g 24 false A',.g 29 false B',.k cs,.f C',.g 41 true rfl,.t rfl] rfl
     |
      some t =>
      obtain ⟨r,r1',hf⟩:=Qc.1 hf;have cc:=XT (hvo.f t rfl).tb ha.tb r1';by_cases D:0<r
      ·rw [if_pos D] at hf;injection hf with hf; subst hf;exact W4 [] [0] [.t hl,.x (G7 hv),.g 24 false A',.g 29 false B',.k cs,.f C',.g 41 false rfl,.k cc,.t (by simpa using D)] rfl
      ·rw [if_neg D] at hf;refine Wz [.t hl,.x (G7 hv),.g 24 false A',.g 29 false B',.k cs,.f C',.g 41 false rfl,.k cc,.f (by simpa using D)] rfl ?_;exact rd (i+1) (by omega) ⟨hlt,hf⟩ rfl
    ·rw [if_neg λh=>C h.2.2] at hf;refine Wz [.t hl,.x (G7 hv),.g 24 false A',.g 29 false B',.k cs,.t (by simp [C])] rfl ?_;exact rd (i+1) (by omega) ⟨hlt,hf⟩ rfl
   ·rw [if_neg λh=>B h.2.1] at hf;refine Wz [.t hl,.x (G7 hv),.g 24 false A',.g 29 true (by simpa using B),.t rfl] rfl ?_;exact rd (i+1) (by omega) ⟨hlt,hf⟩ rfl
  ·rw [if_neg λh=>A h.1] at hf;refine Wz [.t hl,.x (G7 hv),.g 24 true (by rw [show decide ([v.c.kind,v.c.i0,v.c.i1,v.c.i2,v.c.i3]=[x.kind,x.i0,x.i1,x.i2,x.i3])=false from Wc.2 A]; rfl),.g 29 true rfl,.t rfl] rfl ?_;exact rd (i+1) (by omega) ⟨hlt,hf⟩ rfl
 ·obtain rfl:i=c.l.length:=by omega
  rw [Yz] at hf;simp only [M9] at hf;injection hf with hf; subst hf;exact W4 [] [0] [.f (by simp [hw])] rfl
theorem rO {T:Nat} {c:Cr} {r0:Uf} {r1:Uf×Uf} {at_:Tm} {l:List Ct} {ws:List Wt} (hc:CrOk c) (ha:Va at_) (hl:∀ x∈l,Cp x.p) (hn:l.length≤1000) (h:H5 c.l at_ (U6 l)=some ws):Uo prog 161 [.one (.ow 0 0),.agg (ta at_),.one (.bool true),.one (.row (Uy l))] [.blk T (Rj c r0 r1)] [] [.blk T (Rj ⟨at_,ws,c.ev⟩ r0 r1)]:=by
 have cs:=EJ (l:=l) (λx hx=>Dp.pb (hl x hx).dp) (by omega);have cl:=Tk (b:=at_) (l:=[]) ha.tb (λt ht=>by cases ht) (by decide) rfl;obtain ⟨h1,h2⟩:=Oq h;have hs:(U6 l).length=l.length:=Bp l;refine Fl func161 rfl ?_;refine Wy [.o 8 291 18,.k cs] rfl ?_;refine W5 (S:=Nat) 3 (λL1 i=>(15,.v (.oi i))::(8,.v (.one (.orow 2 18 none)))::L1) (λi=>[.blk T (Rj c r0 r1),.blk 189 (ta at_),.row false 291 18 (Nu (ws.take i))]) (λi=>ws.length-i) (λi=>i<=ws.length) 0 (Qi _) rfl rfl λi hi=>?_
 by_cases hlt:i<ws.length
 ·obtain ⟨x,hx⟩:=gxE (l:=(U6 l)) (i:=i) (by omega);obtain ⟨w,hw,hw'⟩:=h2 i x hx;have hm:∀ y∈[wl w],y.length=18:=λy hy=>by rw [Ql.1 hy]; rfl
  have hlt':decide ((i:Int)<((Uy (U6 l)).length:Int))=true:=by simp [Uy]; omega
  have ck:=Qf1 (T:=T) (r0:=r0) (r1:=r1) hc (hl x (ZH (Qa hx))) ha hw;have hg:=Lc hw';obtain ⟨wc,wk,wf⟩:=w;cases wf <;> (refine go tt [.t hlt',.x (XD hx),.t rfl,.c [0] ck,.s (sz:=18) hm] rfl (by simp [Ul,Rx]; omega) ?_; exact rd (i+1) (by omega) hlt (by rw [hg]; rfl))
 ·obtain rfl:i=ws.length:=by omega
  rw [Q5];have hge:decide ((ws.length:Int)<((Uy (U6 l)).length:Int))=false:=by simp [Uy]; omega
  exact W4 [] [0] [.f hge,.p 2,.k cl] rfl
theorem Qf2 {T:Nat} {r0:Uf} {r1:Uf×Uf} {at_:Tm} {l:List Ct} (ha:Va at_) (hl:∀ x∈l,Cp x.p) (hn:l.length≤1000):Uo prog 161 [.one (.ow 0 0),.agg (ta at_),.one (.bool false),.one (.row (Uy l))] [.blk T (Ql7 (.row r0) (.row r1.1,.row r1.2))] [] [.blk T (Rj ⟨at_,(U6 l).map fresh,0⟩ r0 r1)]:=by
 have cs:=EJ (l:=l) (λx hx=>Dp.pb (hl x hx).dp) (by omega);have cl:=Tk (b:=at_) (l:=[]) ha.tb (λt ht=>by cases ht) (by decide) rfl;have hs:(U6 l).length=l.length:=Bp l;refine Fl func161 rfl ?_;refine Wy [.o 8 291 18,.k cs] rfl ?_;refine W5 (S:=Nat) 3 (λL1 i=>(15,.v (.oi i))::(8,.v (.one (.orow 2 18 none)))::L1) (λi=>[.blk T (Ql7 (.row r0) (.row r1.1,.row r1.2)),.blk 189 (ta at_),.row false 291 18 (Nu (((U6 l).map fresh).take i))]) (λi=>l.length-i) (λi=>i<=l.length) 0 (Qi _) rfl rfl λi hi=>?_
 by_cases hlt:i<l.length
 ·obtain ⟨x,hx⟩:=gxE (l:=(U6 l)) (i:=i) (by omega);have hm:∀ y∈[wl (fresh x)],y.length=18:=λy hy=>by rw [Ql.1 hy]; rfl
  have hlt':decide ((i:Int)<((Uy (U6 l)).length:Int))=true:=by simp [Uy]; omega
  have hg:=Lc (l:=(U6 l).map fresh) (i:=i) (w:=fresh x) (by rw [Zu,hx]; rfl);refine go tt [.t hlt',.x (XD hx),.z 20,.f rfl,.s (sz:=18) hm] rfl (by simp [Ul,Rx]; omega) ?_;exact rd (i+1) (by omega) hlt (by rw [hg]; rfl)
 ·obtain rfl:i=l.length:=by omega
  rw [Qw (by simp; omega)];have hge:decide ((l.length:Int)<((Uy (U6 l)).length:Int))=false:=by simp [Uy]; omega
  exact W4 [] [0] [.f hge,.p 2,.k cl] rfl
theorem bE {T:Nat} {r0:Uf} {r1:Uf×Uf} {at_:Tm} {l:List Ct} (ha:Va at_) (hl:∀ x∈l,Cp x.p) (hn:l.length≤1000):Uo prog 121 [.one (.ow 0 0),.agg (ta at_),.one (.row (Uy l))] [.blk T (Ql7 (.row r0) (.row r1.1,.row r1.2))] [] [.blk T (Rj ⟨at_,(U6 l).map fresh,0⟩ r0 r1)]:=by
 have cl:=Qf2 (T:=T) (r0:=r0) (r1:=r1) ha hl hn;refine Fl func121 rfl ?_;exact W4 [] [0] [.g 12 false rfl,.c [0] cl] rfl
theorem bI {T:Nat} {c:Cr} {r0:Uf} {r1:Uf×Uf} {at_:Tm} {l:List Ct} {ws:List Wt} {k:Int} (hc:CrOk c) (ha:Va at_) (hk:YT at_ c.now=some k) (h0:0≤k) (hl:∀ x∈l,Cp x.p) (hn:l.length≤1000) (h:H5 c.l at_ (U6 l)=some ws):Uo prog 121 [.one (.ow 0 0),.agg (ta at_),.one (.row (Uy l))] [.blk T (Rj c r0 r1)] [] [.blk T (Rj ⟨at_,ws,c.ev⟩ r0 r1)]:=by
 have cl:=rO (T:=T) (r0:=r0) (r1:=r1) hc ha hl hn h;have cc:=XT ha.tb hc.n.tb hk;refine Fl func121 rfl ?_;exact W4 [] [0] [.g 12 true rfl,.k cc,.r 20 (eB (show decide (0<=k)=true by simpa using h0)),.c [0] cl] rfl
theorem Qf3 {T:Nat} {c:Cr} {r0:Uf} {r1:Uf×Uf} {ws:List Wt} (hc:CrOk c) (h:Ai c.now c.l=some ws):Uo prog 371 [.one (.ow 0 0)] [.blk T (Rj c r0 r1)] [] [.blk T (Rj { c with l:=ws } r0 r1)]:=by
 have hk:=hc.k;have hw:=Rx c.l;obtain ⟨h1,h2⟩:=ZX h;refine Fl func371 rfl ?_;refine Wy [.o 2 291 18,.c [0] (wX hc.n)] rfl ?_;refine W5 (S:=Nat) 3 (λL1 i=>(13,.v (.oi i))::(2,.v (.one (.orow 1 18 none)))::L1) (λi=>[.blk T (Rj c r0 r1),.row false 291 18 (Nu (ws.take i)),.blk 189 (ta c.now)]) (λi=>c.l.length-i) (λi=>i<=c.l.length) 0 (Qi _) rfl rfl λi hi=>?_
 by_cases hlt:i<c.l.length
 ·obtain ⟨w,hx⟩:=gxE (l:=c.l) (i:=i) hlt;obtain ⟨v,hv,h3⟩:=h2 i w hx;have hm:∀ y∈[wl v],y.length=18:=λy hy=>by rw [Ql.1 hy]; rfl
  have hg:=Lc hv;have hl:decide ((i:Int)<((Nu c.l).length:Int))=true:=by simp [hw]; omega
  rcases h3 with ⟨k1,rfl⟩ | ⟨k1,r,k2,rfl⟩
  ·obtain ⟨vc,vk,vf⟩:=v;cases vf <;> (refine go tt [.t hl,.x (G7 hx),.f (by rw [show vk=true from k1]; rfl),.s (sz:=18) hm] rfl (by simp [Ul,Rx]; omega) ?_; exact rd (i+1) (by omega) hlt (by rw [hg]; rfl))
  ·have cg:=qH (hc.l w (Qa hx)).p hc.n k2;obtain ⟨wc,wk,wf⟩:=w;cases r <;> cases wf <;> (refine go tt [.t hl,.x (G7 hx),.t (by rw [show wk=false from k1]; rfl),.k cg,.s (sz:=18) hm] rfl (by simp [Ul,Rx]; omega) ?_; exact rd (i+1) (by omega) hlt (by rw [hg]; rfl))
 ·obtain rfl:i=c.l.length:=by omega
  rw [<-h1,Q5];exact W4 [1] [0] [.f (by simp [hw,h1])] rfl
theorem Qf4 {T:Nat} {c:Cr} {r0:Uf} {r1:Uf×Uf} {ws:List Wt} {r:Option Tm} (hc:CrOk c) (h:Ai c.now c.l=some ws) (hr:NS ws=some r):Uo prog 377 [.one (.ow 0 0)] [.blk T (Rj c r0 r1)] [.agg (ota r),.one (.bool r.isSome)] [.blk T (Rj { c with l:=ws } r0 r1)]:=by
 have hcl:=Qf3 (T:=T) (r0:=r0) (r1:=r1) hc h;have hc':=Dv hc h;have hk:=hc'.k;have hw:=Rx ws;have hvb:∀ t∈ws.filterMap (·.fails),Tb t:=λt ht=>by
  obtain ⟨w,w1,w2⟩:=Jb.1 ht;exact ((hc'.l w w1).f t w2).tb
 refine Fl func377 rfl ?_;refine Wy [.c [0] hcl,.o 4 189 9] rfl ?_;refine W5 (S:=Nat) 3 (λL1 i=>(14,.v (.oi i))::(4,.v (.one (.orow 2 9 none)))::L1) (λi=>[.blk T (Rj { c with l:=ws } r0 r1),.blk 189 zTm,.row false 189 9 (tal ((ws.take i).filterMap (·.fails)))]) (λi=>ws.length-i) (λi=>i<=ws.length) 0 (Qi _) rfl rfl λi hi=>?_
 by_cases hlt:i<ws.length
 ·obtain ⟨w,hx⟩:=gxE (l:=ws) (i:=i) hlt;have hl:decide ((i:Int)<((Nu ws).length:Int))=true:=by simp [hw]; omega
  have hfl:((ws.take i).filterMap (·.fails)).length<=i:=Qd (Y0 _ _) (by rw [Qp]; omega);have hg:(ws.take (i+1)).filterMap (·.fails)=(ws.take i).filterMap (·.fails)++(match w.fails with | none=>[] | some t=>[t]):=by
   rw [Z5,hx,List.filterMap_append];show _++List.filterMap (·.fails) [w]=_;cases hwf:w.fails <;> simp [hwf]
  obtain ⟨wc,wk,wf⟩:=w;have hk:ws.length<=1000:=hk;cases wf with
  |
   none =>
   refine Wz [.t hl,.x (G7 hx),.f rfl] rfl ?_;exact rd (i+1) (by omega) hlt (by rw [hg]; simp; rfl)
  |
   some t =>
   refine Wz [.t hl,.x (G7 hx),.t rfl,.s (l:=[ta t]) (sz:=9) (λc hc=>by rw [Ql.1 hc]; rfl)] rfl ?_;exact rd (i+1) (by omega) hlt (by rw [hg]; simp [tal]; rfl)
 ·obtain rfl:i=ws.length:=by omega
  rw [Q5];have hf:decide ((ws.length:Int)<((Nu ws).length:Int))=false:=by simp [hw]
  have hln:(ws.filterMap (·.fails)).length<=1000:=Qd (Y0 _ _) hk;unfold NS at hr;cases hfm:ws.filterMap (·.fails) with
  |
   nil =>
   rw [hfm] at hr;injection hr with hr; subst hr;exact W4 [] [0] [.f hf,.p 2,.k qR] rfl
  |
   cons b l =>
   rw [hfm] at hr hvb hln;obtain ⟨m,m1,rfl⟩:=Ym.1 hr;have cl:=Tk (hvb b (Qx ..)) (λt ht=>hvb t (Qf _ ht)) (by simp at hln; omega) m1;exact W4 [] [0] [.f hf,.p 2,.k cl] rfl
theorem Qo7 {T:Nat} {t:Rat} {Bc:Tm->List Ct} {Br:Tm->Uf×Uf} {r0:Uf} (ht:Qs 1640000 t) (hB:BuildOk Bc)
 (hb:∀ a c r1,Va a->CrOk c->Uo prog 123 [.one (.ow 0 0),.agg (ta a)] [.blk T (Rj c r0 r1)] [.one (.row (Uy (Bc a)))] [.blk T (Rj c r0 (Br a))])
 {K:Nat} {c c':Cr} {r1 r1':Uf×Uf} {n:Int} (hc:CrOk c) (hev:0<=c.ev/\c.ev+K<=1000000000000000000) (h:Uz c.now t<=0) (hg:YQ Bc Br t K c r1 0=some (c',r1',n)) :
 Uo prog 372 [.one (.ow 0 0),.agg (rl t),.one (.ofn 123 [.ow 0 0] [])] [.blk T (Rj c r0 r1)] [.oi n,.oi 0] [.blk T (Rj c' r0 r1')]:=by
 have qt:Qb t:=ht.mono (by decide);have c1:=Be hc.n.tb qt;refine Fl func372 rfl ?_;refine Wy [.c [0] (wX hc.n),.k c1,.f (by simpa using h)] rfl ?_;refine W5 (S:=Nat×Cr×(Uf×Uf)×Int) 2 (λL1 s=>(8,.v (.oi s.2.2.2))::L1) (λs=>[.blk T (Rj s.2.1 r0 s.2.2.1),.blk 43 (rl t)]) (λs=>s.1) (λs=>CrOk s.2.1/\(0<=s.2.1.ev/\s.2.1.ev+s.1<=1000000000000000000)/\(0<=s.2.2.2/\s.2.2.2+s.1<=1000000000000000000)/\YQ Bc Br t s.1 s.2.1 s.2.2.1 s.2.2.2=some (c',r1',n)) (K,c,r1,0) ⟨hc,hev,⟨Int.le_refl 0,by dsimp only; omega⟩,hg⟩ rfl rfl λ⟨k,x,r,m⟩ ⟨j1,j2,j3,j4⟩=>?_
 dsimp only at j1 j2 j3 j4 ⊢;cases k with
 | zero=>cases j4
 |
  succ k =>
  simp only [YQ] at j4;obtain ⟨ws,w1,j4⟩:=Qc.1 j4;obtain ⟨o,o1,j4⟩:=Qc.1 j4;have cn:=Qf4 (T:=T) (r0:=r0) (r1:=r) j1 w1 o1;have ca:=XZ (Um t.num) (Um (t.den:Int)) (Qd ht.1 (by decide)) (Qd ht.2 (by decide)) (by rw [Sl]; exact ht.mono (by decide));rw [Sl] at ca;cases o with
  |
   none =>
   injection j4 with j4; injection j4 with e1 j4; injection j4 with e2 e3;subst e1; subst e2; subst e3;exact W4 [] [0] [.c [0] cn,.g 25 true rfl,.t rfl,.k ca] rfl
  |
   some a =>
   have ha:=PP j1 w1 o1;dsimp only at j4;have cc:=Be ha.tb qt;by_cases h0:0<Uz a t
   ·rw [if_pos h0] at j4;injection j4 with j4; injection j4 with e1 j4; injection j4 with e2 e3;subst e1; subst e2; subst e3;exact W4 [] [0] [.c [0] cn,.g 25 false rfl,.k cc,.t (by simpa using h0),.k ca] rfl
   ·rw [if_neg h0] at j4;obtain ⟨w2,l1,j4⟩:=Qc.1 j4;have j1':=Dv j1 w1;have cl:=Tk (b:=a) (l:=[]) ha.tb (λt ht=>by cases ht) (by decide) rfl;have cb:=hb a { x with l:=ws } r ha j1';have cy:=rO (T:=T) (r0:=r0) (r1:=Br a) j1' ha (hB.p a ha) (hB.n a ha) l1;have hf:decide (0<Uz a t)=false:=by simpa using h0
    refine Wz [.c [0] cn,.g 25 false rfl,.k cc,.f hf,.k cl,.c [0] cb,.c [0] cy] rfl ?_;exact rd (k,⟨a,w2,x.ev+1⟩,Br a,m+1) (by dsimp only; omega) ⟨lay_ok _ j1' ha (hB.p a ha) (hB.n a ha) l1,by dsimp only; omega,by dsimp only; omega,j4⟩ rfl
theorem bO {T:Nat} {c:Cr} {r0:Uf} {r1:Uf×Uf}:Uo prog 368 [.one (.ow 0 0)] [.blk T (Rj c r0 r1)] [.oi c.ev] [.blk T (Rj c r0 r1)]:=by
 refine Fl func368 rfl ?_;exact W4 [] [0] [] rfl
end Orr
namespace Orr
open Go Go.Proofs Tryz Orq
def Bh (k:Crv):Int:=max (max 0 ((k.x.length:Int)-1)) ((k.y.length:Int)-1)
structure Es where
 np:Int
 nd:Int
 M:List Pt
 q:Rat
 s:Cr
 t:Cr
 h:Cr
 p:Cr
 d:Cr
structure Em where
 np:Int
 nd:Int
 M:List Pt
 q:Rat
 s:Int
 t:Int
 h:Int
 p:Int
 d:Int
def Es.m (E:Es):Em:=⟨E.np,E.nd,E.M,E.q,E.s.ev,E.t.ev,E.h.ev,E.p.ev,E.d.ev⟩
structure MEn (np nd:Int) (M:List Pt):Prop where
 m:MOk M
 len:(M.length:Int)<=np
 deg:∀ p∈M,Bh p.c≤nd
 id:∀ p∈M,0≤p.id/\p.id≤1048576
structure EOk (b:Int) (E:Es):Prop where
 np:1<=E.np/\E.np<=6
 nd:0<=E.nd/\E.nd<=2
 m:MEn E.np E.nd E.M
 q:Qs 128 E.q
 s:At kS E.M E.q E.s
 t:At kT E.M E.q E.t
 h:At kH E.M E.q E.h
 p:At kP E.M E.q E.p
 d:At kD E.M E.q E.d
 es:0<=E.s.ev/\E.s.ev<=b
 et:0<=E.t.ev/\E.t.ev<=b
 eh:0<=E.h.ev/\E.h.ev<=b
 ep:0<=E.p.ev/\E.p.ev<=b
 ed:0<=E.d.ev/\E.d.ev<=b
theorem EOk.mono {b c:Int} {E:Es} (h:EOk b E) (hb:b<=c):EOk c E:={ h with es:=⟨h.es.1,by have:=h.es.2; omega⟩,et:=⟨h.et.1,by have:=h.et.2; omega⟩,eh:=⟨h.eh.1,by have:=h.eh.2; omega⟩,ep:=⟨h.ep.1,by have:=h.ep.2; omega⟩,ed:=⟨h.ed.1,by have:=h.ed.2; omega⟩ }
abbrev enR (k:Nat) (q:Rat):Ue:=[.ow (k+1) 0,sg q.num,mg q.num,sg (q.den:Int),mg (q.den:Int),.ow (k+2) 0,.ow (k+3) 0,.ow (k+4) 0,.ow (k+5) 0,.ow (k+6) 0]
abbrev taR (np nd:Int) (M:List Pt):Ue:=[.int .i64 np,.int .i64 nd,pts M]
abbrev bS (c:Cr) (M:List Pt) (q:Rat):OB:=.blk 196 (Gy c (Uj M) (NA M (tq q)))
abbrev bT (c:Cr) (M:List Pt) (q:Rat):OB:=.blk 199 (Rj c (Uj M) (kE M (tq q)))
abbrev bH (c:Cr) (M:List Pt) (q:Rat):OB:=.blk 201 (Gy c (Uj M) (bK M (tq q)))
abbrev bP (c:Cr) (M:List Pt) (q:Rat):OB:=.blk 203 (Gy c (Uj M) (eY M (tq q)))
abbrev bD (c:Cr) (M:List Pt) (q:Rat):OB:=.blk 205 (Gy c (Uj M) (kL M (tq q)))
abbrev enB (k:Nat) (E:Es):Ug:=[.blk 88 (enR k E.q),.blk 158 (taR E.np E.nd E.M),bS E.s E.M E.q,bT E.t E.M E.q,bH E.h E.M E.q,bP E.p E.M E.q,bD E.d E.M E.q]
end Orr
namespace Orr
open Go Go.Proofs Tryz Orq
set_option maxRecDepth 10000
theorem ZV {l:List Pt} {id:Int} (h:has l id=true):Hb l id<l.length:=by
 rcases Zc (Hb l id) l.length with h1 | h1
 ·exact h1
 ·simp [has,Q0 h1] at h
theorem YR {lx ly:Uf} {px py:W9} {x y:LV} {d id:Int} {l:List Pt} (hx:IsInts lx px) (hy:IsInts ly py) (hd:Fu x y d) (hk:Cs 4294967294 1073741824 (Crv.mk px py d)) (hl:l.length<=1000000) (h:has l id=true) :
 W6 375 [.agg [pts l],.agg [.row lx,.row ly,x,y,.int .i64 id]] [.agg [pts (l.set (Hb l id) (Pt.mk (Crv.norm (Crv.mk px py d)) id))],.oi 0]:=by
 have ca:=iZ (l:=l) id (by omega);have cf:=tV hx hy hd hk id;obtain ⟨b,r,rfl,rfl,_⟩:=hd;obtain ⟨q,hq⟩:=nmE (Pt.mk (Crv.norm (Crv.mk px py d)) id);rw [<-hq] at cf ⊢;have hpl:=ZV h;rw [h] at ca;have e:pts (l.set (Hb l id) q)=.row ((l.map Ur).set (Hb l id) (Ur q)):=by unfold pts; rw [List.map_set]
 rw [e];exact W3 func375 rfl [.k ca,.f rfl,.s (Rr l),.k cf,.i (Hb l id)] rfl rfl (by simp [Ul]; omega)
theorem YG {l:List Pt} {id:Int} (hl:l.length<=1000000) (h:has l id=true) :
 W6 374 [.agg [pts l],.oi id] [.agg [pts (l.take (Hb l id)++l.drop (Hb l id+1))],.oi 0]:=by
 have ca:=iZ (l:=l) id (by omega);have hpl:=ZV h;rw [h] at ca;have s1:∀ c∈(l.map Ur).take (Hb l id),c.length=5:=λc hc=>Rr l c (Qm hc)
 have s3:∀ c∈(l.map Ur).drop (Hb l id+1),c.length=5:=λc hc=>Rr l c (Qy hc)
 have e:pts (l.take (Hb l id)++l.drop (Hb l id+1))=.row ((l.map Ur).take (Hb l id)++(l.map Ur).drop (Hb l id+1)):=by unfold pts; rw [List.map_append,List.map_take,List.map_drop]
 rw [e];refine W3 func374 rfl [.k ca,.f rfl,.i (Hb l id),.s s1,.i (Hb l id+1),.s s3] rfl ?_ ?_
 ·simp
 ·have h1:(List.map Ur l).length=l.length:=by simp
  have h2:∀ z∈List.map Ur l,z.length=ti41.sz:=Rr l;simp only [Ul,Qp,Q4,h1]
  and_intros <;> first | exact h2 | omega
theorem dZ (l:Ub):(lm l).length=l.length:=by simp [lm]
theorem WO {z:Int}:(U9 z.natAbs).length<=4↔U0 z<=128:=by
 constructor
 ·intro h;have h1:=Bq (U9 z.natAbs) (Bl z.natAbs).1;rw [Gd] at h1;refine M8.2 (Xb h1 (Qd (Zr (by decide) h) (by decide)))
 ·intro h;have:=Re (x:=z.natAbs) (k:=128) h;omega
def Lz (k:Crv):Bool:=(k.x++k.y++[k.d]).all λz=>decide (U0 z<=128)
theorem JB {k:Crv}:Lz k=true↔(∀ z∈k.x,U0 z≤128)/\(∀ z∈k.y,U0 z≤128)/\U0 k.d≤128:=by
 unfold Lz;simp only [List.all_append,Zi,Yy,decide_eq_true_iff,Ql,forall_eq];constructor
 ·rintro ⟨⟨h1,h2⟩,h3⟩; exact ⟨h1,h2,h3⟩
 ·rintro ⟨h1,h2,h3⟩; exact ⟨⟨h1,h2⟩,h3⟩
theorem JC {k:Crv} {z:Int} (hz:z∈k.x++k.y++[k.d]) (h:¬U0 z<=128):Lz k=false:=by
 unfold Lz;rw [<-Bool.not_eq_true,Yy];intro h';exact h (of_decide_eq_true (h' z hz))
abbrev tB (np nd:Int) (l:List Pt):OB:=.blk 158 (taR np nd l)
theorem tG {np nd:Int} {l:List Pt} (id:Int) (hl:l.length<1073741824):Uo prog 80 [.one (.ow 0 0),.oi id] [tB np nd l] [.oi (Hb l id:Int),.one (.bool (has l id))] [tB np nd l]:=by
 refine Fl func80 rfl ?_;refine Wy [] rfl ?_;refine ct 2 (S:=Unit) (λ_=>[(1,.v (.oi id)),(0,.v (.one (.ow 0 0))),(6,.v (.oi (Hb l id:Int)))]) (λ_=>[tB np nd l]) (λ_=>True) rfl ?_ ?_
 ·refine W5 (S:=Nat) 1 (λL1 k=>(6,.v (.oi k))::L1) (λ_=>[tB np nd l]) (λk=>l.length-k) (λk=>k<=l.length/\∀ j p,j<k->l[j]? = some p->p.id<id) 0 ⟨Qi _,λj p h=>by omega⟩ rfl rfl λk ⟨hk,hlt⟩=>?_
  by_cases h:k<l.length
  ·obtain ⟨p,hp⟩:=gxE (l:=l) (i:=k) h;by_cases hid:p.id<id
   ·refine Wz [.t (by simp; omega),.x (Tc hp),.t (by simpa using hid)] rfl ?_;exact rd (k+1) (by omega) ⟨h,λj q hj hq=>by
     rcases Zc j k with h2 | h2
     ·exact hlt j q h2 hq
     ·have:j=k:=by omega
      subst this; rw [hp] at hq; injection hq with hq; rw [<-hq]; exact hid⟩ rfl
   ·have e:=JF hlt (.inr ⟨p,hp,hid⟩);refine Wy [.t (by simp; omega),.x (Tc hp),.f (by simpa using hid)] rfl ?_;rw [e];exact rc () trivial rfl
  ·obtain rfl:k=l.length:=by omega
   have e:=JF hlt (.inl rfl);refine Wy [.f (by simp),.f rfl] rfl ?_;rw [e];exact rc () trivial rfl
 ·intro _ _;by_cases h:Hb l id<l.length
  ·obtain ⟨p,hp⟩:=gxE (l:=l) (i:=Hb l id) h;have e:has l id=decide (p.id=id):=by simp [has,hp]
   rw [e];exact W4 [] [0] [.g 36 true (by simp; omega),.x (Tc hp)] rfl
  ·have e:has l id=false:=by simp [has,Q0 (Jx h)]
   rw [e];exact W4 [] [0] [.g 36 false (by simp; omega)] rfl
theorem BW {lx ly:Uf} {px py:W9} {x y:LV} {d:Int} (hx:IsInts lx px) (hy:IsInts ly py) (hd:Fu x y d) (hk:Cs 4294967294 1073741824 (Crv.mk px py d)) (id:Int):W6 81 [.agg [.row lx,.row ly,x,y,.int .i64 id]] [.agg (Ur ⟨Crv.norm (Crv.mk px py d),id⟩)]:=by
 have cd:=M4 hd (Qd hk.d (by omega));by_cases h0:d=0
 ·subst h0;have ck:Cs 4294967294 1073741824 (Crv.mk px py 1):=⟨hk.x,hk.y,show U0 1<=4294967294 by decide,hk.lx,hk.ly⟩;have cm:=YH hx hy (Um 1) ck (by decide);have e:Crv.norm (Crv.mk px py 1)=Crv.norm (Crv.mk px py 0):=by simp only [Crv.norm,Crv.g,Crv.d']; rfl
  rw [e] at cm;obtain ⟨b,l,rfl,rfl,_⟩:=hd;exact W3 func81 rfl [.k cd,.k Cz,.t (by simp),.k (LO (z:=1) (by decide)),.k cm] rfl
 ·have cm:=YH hx hy hd hk h0;obtain ⟨b,l,rfl,rfl,_⟩:=hd;exact W3 func81 rfl [.k cd,.k Cz,.f (by simpa using h0),.k cm] rfl
theorem iP {k:Crv} (hk:Cs 4294967294 1073741824 k):W6 176 [.agg (cl k)] [.one (.bool (Lz k))]:=by
 have hlx:=hk.lx;have hly:=hk.ly;refine Fl func176 rfl ?_;refine Wy [] rfl ?_;refine W5 (S:=Nat) 1 (λL1 i=>(15,.v (.oi i))::L1) (λ_=>[.blk 39 (cl k)]) (λi=>3-i) (λi=>i≤3/\(0<i->∀ z∈k.x,U0 z≤128)/\(1<i->∀ z∈k.y,U0 z≤128)/\(2<i->U0 k.d≤128)) 0 ⟨by decide,by omega,by omega,by omega⟩ rfl rfl λi ⟨hi,g0,g1,g2⟩=>?_
 rcases (show i=0\/i=1\/i=2\/i=3 by omega) with rfl | rfl | rfl | rfl
 ·have hl:((k.x).map Gw).length=(k.x).length:=by simp
  refine Wy [.t rfl,.i 0] rfl ?_ (by simp [Ul]);refine W5 (S:=Nat) 1 (λL1 j=>(20,.v (.oi j))::L1) (λ_=>[.blk 39 (cl k)]) (λj=>(k.x).length-j) (λj=>j<=(k.x).length/\∀ n z,n<j->(k.x)[n]? = some z->U0 z<=128) 0 ⟨Qi _,λn z h=>by omega⟩ rfl rfl λj ⟨hj,hs⟩=>?_
  by_cases h:j<(k.x).length
  ·obtain ⟨z,hz⟩:=gxE (l:=(k.x)) (i:=j) h;by_cases hb:U0 z<=128
   ·have hb4:=WO.2 hb;refine Wz [.t (by simp; omega),.x (Hj (f:=Gw) hz),.f (by simp [dZ]; omega)] rfl ?_;exact rd (j+1) (by omega) ⟨h,λn y hn hy=>by
     rcases Zc n j with h2 | h2
     ·exact hs n y h2 hy
     ·have:n=j:=by omega
      subst this; rw [hz] at hy; injection hy with hy; rw [<-hy]; exact hb⟩ rfl
   ·have hb4:=mt WO.1 hb;rw [JC (Qr.2 (.inl (Qr.2 (.inl (Qa hz))))) hb];exact W0 [.t (by simp; omega),.x (Hj (f:=Gw) hz),.t (by simp [dZ]; omega)] rfl
  ·have hall:∀ z∈k.x,U0 z≤128:=λz hz=>by
    obtain ⟨n,hn⟩:=Xq hz;exact hs n z (by have:=(Qg.1 hn).1; omega) hn
   refine Wy [.f (by simp; omega)] rfl ?_ (by simp [Ul]);exact rd 1 (by omega) ⟨by omega,λ_=>hall,by omega,by omega⟩ rfl
 ·have hl:((k.y).map Gw).length=(k.y).length:=by simp
  refine Wy [.t rfl,.i 1] rfl ?_ (by simp [Ul]);refine W5 (S:=Nat) 1 (λL1 j=>(20,.v (.oi j))::L1) (λ_=>[.blk 39 (cl k)]) (λj=>(k.y).length-j) (λj=>j<=(k.y).length/\∀ n z,n<j->(k.y)[n]? = some z->U0 z<=128) 0 ⟨Qi _,λn z h=>by omega⟩ rfl rfl λj ⟨hj,hs⟩=>?_
  by_cases h:j<(k.y).length
  ·obtain ⟨z,hz⟩:=gxE (l:=(k.y)) (i:=j) h;by_cases hb:U0 z<=128
   ·have hb4:=WO.2 hb;refine Wz [.t (by simp; omega),.x (Hj (f:=Gw) hz),.f (by simp [dZ]; omega)] rfl ?_;exact rd (j+1) (by omega) ⟨h,λn y hn hy=>by
     rcases Zc n j with h2 | h2
     ·exact hs n y h2 hy
     ·have:n=j:=by omega
      subst this; rw [hz] at hy; injection hy with hy; rw [<-hy]; exact hb⟩ rfl
   ·have hb4:=mt WO.1 hb;rw [JC (Qr.2 (.inl (Qr.2 (.inr (Qa hz))))) hb];exact W0 [.t (by simp; omega),.x (Hj (f:=Gw) hz),.t (by simp [dZ]; omega)] rfl
  ·have hall:∀ z∈k.y,U0 z≤128:=λz hz=>by
    obtain ⟨n,hn⟩:=Xq hz;exact hs n z (by have:=(Qg.1 hn).1; omega) hn
   refine Wy [.f (by simp; omega)] rfl ?_ (by simp [Ul]);exact rd 2 (by omega) ⟨by omega,λ_=>g0 (by omega),λ_=>hall,by omega⟩ rfl
 ·have hl:(([k.d]).map Gw).length=([k.d]).length:=by simp
  have h1:([k.d]).length=1:=rfl;refine Wy [.t rfl,.i 2] rfl ?_ (by simp [Ul]);refine W5 (S:=Nat) 1 (λL1 j=>(20,.v (.oi j))::L1) (λ_=>[.blk 39 (cl k)]) (λj=>([k.d]).length-j) (λj=>j<=([k.d]).length/\∀ n z,n<j->([k.d])[n]? = some z->U0 z<=128) 0 ⟨Qi _,λn z h=>by omega⟩ rfl rfl λj ⟨hj,hs⟩=>?_
  by_cases h:j<([k.d]).length
  ·obtain ⟨z,hz⟩:=gxE (l:=([k.d])) (i:=j) h;by_cases hb:U0 z<=128
   ·have hb4:=WO.2 hb;refine Wz [.t (by simp; omega),.x (Hj (f:=Gw) hz),.f (by simp [dZ]; omega)] rfl ?_;exact rd (j+1) (by omega) ⟨h,λn y hn hy=>by
     rcases Zc n j with h2 | h2
     ·exact hs n y h2 hy
     ·have:n=j:=by omega
      subst this; rw [hz] at hy; injection hy with hy; rw [<-hy]; exact hb⟩ rfl
   ·have hb4:=mt WO.1 hb;rw [JC (Qr.2 (.inr (Qa hz))) hb];exact W0 [.t (by simp; omega),.x (Hj (f:=Gw) hz),.t (by simp [dZ]; omega)] rfl
  ·have hall:∀ z∈[k.d],U0 z≤128:=λz hz=>by
    obtain ⟨n,hn⟩:=Xq hz;exact hs n z (by have:=(Qg.1 hn).1; omega) hn
   refine Wy [.f (by simp; omega)] rfl ?_ (by simp [Ul]);exact rd 3 (by omega) ⟨by omega,λ_=>g0 (by omega),λ_=>g1 (by omega),λ_=>hall k.d (by simp)⟩ rfl
 ·rw [JB.2 ⟨g0 (by omega),g1 (by omega),g2 (by omega)⟩];exact W0 [.f rfl] rfl
def Nb (p:Pt):Bool:=decide (0<=p.id) && (decide (p.id<=1048576) && Lz p.c)
theorem iD {p:Pt} (hk:Cs 4294967294 1073741824 p.c):W6 127 [.agg (Ur p)] [.one (.bool (Nb p))]:=by
 have cs:=iP hk;by_cases h0:0<=p.id
 ·by_cases h1:p.id<=1048576
  ·have e:Nb p=Lz p.c:=by simp [Nb,h0,h1]
   rw [e];exact W3 func127 rfl [.t (by simpa using h0),.t (by simpa using h1),.k cs] rfl
  ·have e:Nb p=false:=by simp [Nb,h1]
   rw [e];exact W3 func127 rfl [.t (by simpa using h0),.f (by simpa using h1)] rfl
 ·have e:Nb p=false:=by simp [Nb,h0]
  rw [e];exact W3 func127 rfl [.f (by simpa using h0),.f rfl] rfl
theorem iQ {k:Crv} (hn:I2 k) (hk:Cs 4294967294 1073741824 k):W6 94 [.agg (cl k)] [.oi (Bh k)] :=
 W3 func94 rfl [.k (TY hn hk),.k (Pf k.x),.k (Pf k.y)] rfl
def Ra (np nd:Int) (M:List Pt) (p:Pt):Int:=if Nb p=false then 1 else if has M p.id=true then 6 else if nd<Bh p.c then 7 else if np<=(M.length:Int) then 9 else 0
theorem Ql3 {lx ly:Uf} {px py:W9} {x y:LV} {d id np nd:Int} {l:List Pt} (hx:IsInts lx px) (hy:IsInts ly py) (hd:Fu x y d) (hk:Cs 4294967294 1073741824 (Crv.mk px py d)) (hl:l.length<=1000000) :
 Uo prog 76 [.one (.ow 0 0),.agg [.row lx,.row ly,x,y,.int .i64 id]] [tB np nd l] [.oi (Ra np nd l (Pt.mk (Crv.norm (Crv.mk px py d)) id))] [tB np nd (if Ra np nd l (Pt.mk (Crv.norm (Crv.mk px py d)) id)=0 then put l (Pt.mk (Crv.norm (Crv.mk px py d)) id) else l)]:=by
 have cf:=BW hx hy hd hk id;have hkn:=hk.norm (by omega);have hnm:=Crv.nml (Crv.mk px py d);obtain ⟨b,r,rfl,rfl,_⟩:=hd;obtain ⟨q,hq⟩:=nmE (Pt.mk (Crv.norm (Crv.mk px py d)) id);have hqi:q.id=id:=by rw [hq]
 have hqc:q.c=Crv.norm (Crv.mk px py d):=by rw [hq]
 rw [<-hq] at cf ⊢;rw [<-hqc] at hkn hnm;have ca:Uo prog 80 [.one (.ow 0 0),.oi q.id] [tB np nd l] [.oi (Hb l id:Int),.one (.bool (has l id))] [tB np nd l]:=by rw [hqi]; exact tG id (by omega)
 have cm:=iD (p:=q) hkn;have cd:=iQ hnm hkn;have hpl:=IG l id;have hll:(l.map Ur).length=l.length:=by simp
 by_cases h0:Nb q=false
 ·have e:Ra np nd l q=1:=by simp [Ra,h0]
  rw [e,if_neg (by decide)];refine Fl func76 rfl ?_;exact W4 [] [0] [.k cf,.c [0] ca,.k cm,.t (by simp [h0])] rfl
 by_cases h1:has l id=true
 ·have e:Ra np nd l q=6:=by simp [Ra,h0,hqi,h1]
  rw [e,if_neg (by decide)];refine Fl func76 rfl ?_;exact W4 [] [0] [.k cf,.c [0] ca,.k cm,.f (by simpa using h0),.t h1] rfl
 by_cases h2:nd<Bh q.c
 ·have e:Ra np nd l q=7:=by simp [Ra,h0,hqi,h1,h2]
  rw [e,if_neg (by decide)];refine Fl func76 rfl ?_;exact W4 [] [0] [.k cf,.c [0] ca,.k cm,.f (by simpa using h0),.f (by simpa using h1),.k cd,.t (by simpa using h2)] rfl
 by_cases h3:np<=(l.length:Int)
 ·have e:Ra np nd l q=9:=by simp [Ra,h0,hqi,h1,h2,h3]
  rw [e,if_neg (by decide)];refine Fl func76 rfl ?_;exact W4 [] [0] [.k cf,.c [0] ca,.k cm,.f (by simpa using h0),.f (by simpa using h1),.k cd,.f (by simpa using h2),.t (by simp; omega)] rfl
 have e:Ra np nd l q=0:=by simp [Ra,h0,hqi,h1,h2,h3]
 rw [e,if_pos rfl];have s1:∀ c∈(l.map Ur).take (Hb l id),c.length=5:=λc hc=>Rr l c (Qm hc)
 have s3:∀ c∈(l.map Ur).drop (Hb l id),c.length=5:=λc hc=>Rr l c (Qy hc)
 have ep:pts (put l q)=.row ((l.map Ur).take (Hb l id)++[Ur q]++(l.map Ur).drop (Hb l id)):=by
  simp [put,hqi,pts,Yb,Y7]
 have eB:tB np nd (put l q)=.blk 158 [.int .i64 np,.int .i64 nd,.row ((l.map Ur).take (Hb l id)++[Ur q]++(l.map Ur).drop (Hb l id))]:=by
  show OB.blk 158 [.int .i64 np,.int .i64 nd,pts (put l q)]=_;rw [ep]
 rw [eB];refine Fl func76 rfl ?_;exact W4 [2] [0] [.k cf,.c [0] ca,.k cm,.f (by simpa using h0),.f (by simpa using h1),.k cd,.f (by simpa using h2),.f (by simp; omega),.i (Hb l id),.s s1,.i (Hb l id),.s s3] rfl (by
  simp only [Ul,Qu,Q7,Jq,Qp,Q4,hll]
  and_intros <;> first | exact Rr l | omega)
def Te (nd:Int) (M:List Pt) (p:Pt):Int:=if Nb p=false then 1 else if has M p.id=false then 5 else if nd<Bh p.c then 7 else 0
theorem Qgl {lx ly:Uf} {px py:W9} {x y:LV} {d id np nd:Int} {l:List Pt} (hx:IsInts lx px) (hy:IsInts ly py) (hd:Fu x y d) (hk:Cs 4294967294 1073741824 (Crv.mk px py d)) (hl:l.length<=1000000) :
 Uo prog 86 [.one (.ow 0 0),.agg [.row lx,.row ly,x,y,.int .i64 id]] [tB np nd l] [.oi (Te nd l (Pt.mk (Crv.norm (Crv.mk px py d)) id))] [tB np nd (if Te nd l (Pt.mk (Crv.norm (Crv.mk px py d)) id)=0 then l.set (Hb l id) (Pt.mk (Crv.norm (Crv.mk px py d)) id) else l)]:=by
 have cf:=BW hx hy hd hk id;have hkn:=hk.norm (by omega);have hnm:=Crv.nml (Crv.mk px py d);obtain ⟨b,r,rfl,rfl,_⟩:=hd;obtain ⟨q,hq⟩:=nmE (Pt.mk (Crv.norm (Crv.mk px py d)) id);have hqi:q.id=id:=by rw [hq]
 have hqc:q.c=Crv.norm (Crv.mk px py d):=by rw [hq]
 rw [<-hq] at cf ⊢;rw [<-hqc] at hkn hnm;have ca:Uo prog 80 [.one (.ow 0 0),.oi q.id] [tB np nd l] [.oi (Hb l id:Int),.one (.bool (has l id))] [tB np nd l]:=by rw [hqi]; exact tG id (by omega)
 have cm:=iD (p:=q) hkn;have cd:=iQ hnm hkn;have hpl:=IG l id;have hll:(l.map Ur).length=l.length:=by simp
 by_cases h0:Nb q=false
 ·have e:Te nd l q=1:=by simp [Te,h0]
  rw [e,if_neg (by decide)];refine Fl func86 rfl ?_;exact W4 [] [0] [.k cf,.c [0] ca,.k cm,.t (by simp [h0])] rfl
 by_cases h1:has l id=false
 ·have e:Te nd l q=5:=by simp [Te,h0,hqi,h1]
  rw [e,if_neg (by decide)];refine Fl func86 rfl ?_;exact W4 [] [0] [.k cf,.c [0] ca,.k cm,.f (by simpa using h0),.t (by simp [h1])] rfl
 by_cases h2:nd<Bh q.c
 ·have e:Te nd l q=7:=by simp [Te,h0,hqi,h1,h2]
  rw [e,if_neg (by decide)];refine Fl func86 rfl ?_;exact W4 [] [0] [.k cf,.c [0] ca,.k cm,.f (by simpa using h0),.f (by simpa using h1),.k cd,.t (by simpa using h2)] rfl
 have e:Te nd l q=0:=by simp [Te,h0,hqi,h1,h2]
 rw [e,if_pos rfl];have hh:has l id=true:=by simpa using h1
 have hps:=ZV hh;have eB:tB np nd (l.set (Hb l id) q)=.blk 158 [.int .i64 np,.int .i64 nd,.row ((l.map Ur).set (Hb l id) (Ur q))]:=by
  show OB.blk 158 [.int .i64 np,.int .i64 nd,pts (l.set (Hb l id) q)]=_;unfold pts; rw [List.map_set]
 rw [eB];refine Fl func86 rfl ?_;exact W4 [2] [0] [.k cf,.c [0] ca,.k cm,.f (by simpa using h0),.f (by simpa using h1),.k cd,.f (by simpa using h2),.s (Rr l),.i (Hb l id)] rfl (by
  simp only [Ul,hll]
  and_intros <;> first | exact Rr l | omega)
theorem Qgk {id np nd:Int} {l:List Pt} (hl:l.length<=1000000) (h:has l id=true) :
 Uo prog 87 [.one (.ow 0 0),.oi id] [tB np nd l] [.oi 0] [tB np nd (l.take (Hb l id)++l.drop (Hb l id+1))]:=by
 have ca:=tG (np:=np) (nd:=nd) (l:=l) id (by omega);have hpl:=ZV h;rw [h] at ca;have hll:(l.map Ur).length=l.length:=by simp
 have s1:∀ c∈(l.map Ur).take (Hb l id),c.length=5:=λc hc=>Rr l c (Qm hc)
 have s3:∀ c∈(l.map Ur).drop (Hb l id+1),c.length=5:=λc hc=>Rr l c (Qy hc)
 have eB:tB np nd (l.take (Hb l id)++l.drop (Hb l id+1))=.blk 158 [.int .i64 np,.int .i64 nd,.row ((l.map Ur).take (Hb l id)++(l.map Ur).drop (Hb l id+1))]:=by
  show OB.blk 158 [.int .i64 np,.int .i64 nd,pts (l.take (Hb l id)++l.drop (Hb l id+1))]=_;unfold pts; rw [List.map_append,List.map_take,List.map_drop]
 rw [eB];refine Fl func87 rfl ?_;exact W4 [1] [0] [.c [0] ca,.f rfl,.i (Hb l id),.s s1,.i (Hb l id+1),.s s3] rfl (by
  simp only [Ul,Qu,Q7,Jq,Qp,Q4,hll]
  and_intros <;> first | exact Rr l | omega)
theorem iN {id np nd:Int} {l:List Pt} (hl:l.length<=1000000) (h:has l id=false) :
 Uo prog 87 [.one (.ow 0 0),.oi id] [tB np nd l] [.oi 5] [tB np nd l]:=by
 have ca:=tG (np:=np) (nd:=nd) (l:=l) id (by omega);rw [h] at ca;refine Fl func87 rfl ?_;exact W4 [] [0] [.c [0] ca,.t rfl] rfl
theorem Ql1 {np nd:Int} {l:List Pt}:Uo prog 38 [.one (.ow 0 0)] [tB np nd l] [.oi (l.length:Int)] [tB np nd l]:=by
 have hll:((l.map Ur).length:Int)=l.length:=by simp
 refine Fl func38 rfl ?_;exact W4 [] [0] [.r 7 (eI hll)] rfl
def Ah (l:List (Pt×Pt)):Uf:=l.map dF
theorem Qg1 {l m:Uf} (h:l=m):TV.one (LV.row l)=.one (.row m):=h ▸ rfl
theorem oz {P:Program} [Mo P] {n:Nat} {Q:Exit->Sg->Ug->Prop} {L L':Sg} {B B':Ug} (d off T sz:Nat) {it:List It} (hs:Ho it=true) (h:dP (P:=P) d L B [.oc d off T sz]=some (L',B',[],[])) (k:AK P n Q it L' B'):AK P n Q it L B:=AK.sub (IR h EqOk.nil) hs k
theorem Qfu {a b:Pt} {t:Tm} (ha:Sc a.c) (hb:Sc b.c) (ht:Va t):W6 167 [.oi 2,.agg (ta t),.one (.row [Ur a,Ur b])] [.agg (C9 (Bz (U4 t) a b)),.oi 0]:=by
 have h1:=Pk hb ha;have h2:=Pl hb ha;refine Fl func167 rfl ?_;refine Wy [.k cX,.f rfl] rfl ?_;refine W5 (S:=Nat) 3 (λL1 i=>(22,.v (.oi i))::L1) (λi=>[.blk 189 (ta t),.blk 126 lF,.blk 126 [.int .i64 2,.int .i64 (if 1<=i then a.id else 0),.int .i64 (if 2<=i then b.id else 0),.int .i64 0,.int .i64 0,.nils,.int .i64 0]]) (λi=>2-i) (λi=>i<=2) 0 (Qi _) rfl rfl λi hi=>?_
 rcases (show i=0\/i=1\/i=2 by omega) with rfl | rfl | rfl
 ·refine Wy [.t rfl,.x (i:=0) (xs:=Ur a) rfl,.i 0] rfl ?_ (by simp [Ul]);exact rd 1 (by omega) (by omega) rfl
 ·refine Wy [.t rfl,.x (i:=1) (xs:=Ur b) rfl,.i 1] rfl ?_ (by simp [Ul]);exact rd 2 (by omega) (by omega) rfl
 ·exact W0 [.f rfl,.f rfl,.t rfl,.x (i:=1) (xs:=Ur b) rfl,.x (i:=0) (xs:=Ur a) rfl,.k (YW hb.n ha.n hb.cb ha.cb),.x (i:=1) (xs:=Ur b) rfl,.x (i:=0) (xs:=Ur a) rfl,.k (YF hb.n ha.n hb.cb ha.cb),.k qB,.k (FX (QE h1 h2).dp ht)] rfl
theorem aB {a:Tm} (ha:Va a) {c:Cr} {r0 r1:Uf}:∀ (k:Nat) (l:List Pt) (ms:List (Pt×Pt)),l.length≤k->l.length≤1000->ms.length+l.length≤1000000->(∀ p∈l,Sc p.c)->Uo prog 166 [.one (.ow 0 0),.agg (ta a),.one (pts l)] [.blk 199 [.bool true,pl c.now.p,sg c.now.lo.num,mg c.now.lo.num,sg (c.now.lo.den:Int),mg (c.now.lo.den:Int),sg c.now.hi.num,mg c.now.hi.num,sg (c.now.hi.den:Int),mg (c.now.hi.den:Int),.row (Nu c.l),.int .i64 c.ev,.row r0,.row r1,.orow 1 10 none],.row false 264 10 (Ah ms)] [.one (.row (Uj (Mx (U4 a) l).1))] [.blk 199 [.bool true,pl c.now.p,sg c.now.lo.num,mg c.now.lo.num,sg (c.now.lo.den:Int),mg (c.now.lo.den:Int),sg c.now.hi.num,mg c.now.hi.num,sg (c.now.hi.den:Int),mg (c.now.hi.den:Int),.row (Nu c.l),.int .i64 c.ev,.row r0,.row r1,.orow 1 10 none],.row false 264 10 (Ah (ms++(Mx (U4 a) l).2))]
 := by
  intro k
  induction k with
  | zero=>?_
  | succ k ih=>?_
  all_goals
   intro l ms hk hn hms hl;have hcl:=Ga l;show Uo prog 166 [.one (.ow 0 0),.agg (ta a),.one (.row (Uj l))] _ _ _;by_cases hs:l.length<2
   ·rw [Ng _ hs,Zw];refine Fl func166 rfl ?_;exact W4 [] [0,1] [.t (by simp [hcl]; omega)] rfl
   first
    | (exfalso; omega)
    |
     skip
     obtain ⟨k1,k2,k3,k4⟩:=Qba hs hk;obtain ⟨h,hh⟩:=nmE ((l.length+1) / 2);obtain ⟨u,hu,hul,_⟩:=Pu (U4 a) k (l.take ((l.length+1) / 2)) k1 k3;obtain ⟨v,hv,hvl,_⟩:=Pu (U4 a) k (l.drop ((l.length+1) / 2)) k2 k4;have g1:=Bn (U4 a) _ (l.take ((l.length+1) / 2)) (Qn _);have g2:=Bn (U4 a) _ (l.drop ((l.length+1) / 2)) (Qn _);have hlt:(l.take ((l.length+1) / 2)).length+(l.drop ((l.length+1) / 2)).length=l.length:=by rw [Qp,Q4]; omega
     have c1:=ih (l.take ((l.length+1) / 2)) ms k1 (by omega) (by omega) λp hp=>hl p (Qm hp)
     have c2:=ih (l.drop ((l.length+1) / 2)) (ms++(Mx (U4 a) (l.take ((l.length+1) / 2))).2) k2 (by omega) (by rw [Qu]; omega) λp hp=>hl p (Qy hp)
     have hpl:=As (U4 a) hs hu hv;rw [hpl];rw [hu] at c1;rw [hv] at c2;generalize (Mx (U4 a) (l.take ((l.length+1) / 2))).2=G1 at *;generalize (Mx (U4 a) (l.drop ((l.length+1) / 2))).2=G2 at *;have hsu:=hl u (Qm hul);have hsv:=hl v (Qy hvl);have cb:=Qfk (t:=a) hsu hsv ha;have htd:((l.length:Int)+1).tdiv 2=(((l.length+1) / 2:Nat):Int):=rfl;have hg:∀ m,Ah (ms++(G1++G2++[m]))=Ah ((ms++G1)++G2)++[dF m]:=λm=>by simp [Ah]
     have hml:(Ah ((ms++G1)++G2)).length=ms.length+G1.length+G2.length:=by simp [Ah]; omega
     have hml2:(Ah (ms++(G1++G2))).length=ms.length+G1.length+G2.length:=by simp [Ah]; omega
     have h5:=eq_true (p:=∀ z,z∈Uj l->z.length=ti41.sz) (ZU l);have e1:(Uj l).take ((l.length+1) / 2)=Uj (l.take ((l.length+1) / 2)):=by simp [Uj,Yb]
     have e2:(Uj l).drop ((l.length+1) / 2)=Uj (l.drop ((l.length+1) / 2)):=by simp [Uj,Y7]
     unfold GV;refine Fl func166 rfl ?_;by_cases hb:M3 (U4 a) u v=true
     ·rw [if_pos hb,hg];exact W4 [] [0,1] [.f (by simp [hcl]; omega),.r 17 (eI (b:=(((l.length+1) / 2:Nat):Int)) (by rw [hcl]; rfl)),.i ((l.length+1) / 2),.r 22 (Qg1 e1),.c [0,1] c1,.i ((l.length+1) / 2),.r 28 (Qg1 e2),.c [0,1] c2,.x (i:=0) (l:=Uj [u]) (xs:=Ur u) rfl,.x (i:=0) (l:=Uj [v]) (xs:=Ur v) rfl,.k cb,.f (by rw [hb]; rfl),.x (i:=0) (l:=Uj [u]) (xs:=Ur u) rfl,.x (i:=0) (l:=Uj [v]) (xs:=Ur v) rfl,.s (sz:=10) (l:=[dF (u,v)]) (λc hc=>by rw [Ql.1 hc]; rfl),.i 1] rfl (by simp [Ul,Ga,hml2,h5]; omega)
     ·have hb:M3 (U4 a) u v=false:=by simpa using hb
      rw [if_neg (by simp [hb]),hg];exact W4 [] [0,1] [.f (by simp [hcl]; omega),.r 17 (eI (b:=(((l.length+1) / 2:Nat):Int)) (by rw [hcl]; rfl)),.i ((l.length+1) / 2),.r 22 (Qg1 e1),.c [0,1] c1,.i ((l.length+1) / 2),.r 28 (Qg1 e2),.c [0,1] c2,.x (i:=0) (l:=Uj [u]) (xs:=Ur u) rfl,.x (i:=0) (l:=Uj [v]) (xs:=Ur v) rfl,.k cb,.t (by rw [hb]; rfl),.x (i:=0) (l:=Uj [v]) (xs:=Ur v) rfl,.x (i:=0) (l:=Uj [u]) (xs:=Ur u) rfl,.s (sz:=10) (l:=[dF (v,u)]) (λc hc=>by rw [Ql.1 hc]; rfl),.i 1] rfl (by simp [Ul,Ga,hml2,h5]; omega)
theorem BK {l:List Pt} {a:Tm} {c:Cr} {r1:Uf×Uf} (hl:∀ p∈l,Sc p.c) (hn:l.length≤1000) (ha:Va a):Uo prog 123 [.one (.ow 0 0),.agg (ta a)] [.blk 199 (Rj c (Uj l) r1)] [.one (.row (Uy (OA l a)))] [.blk 199 (Rj c (Uj l) (kE l a))]:=by
 have cp:=aB (r0:=Uj l) (c:=c) (r1:=r1.1) ha l.length l [] (Qn _) hn (by show 0+l.length≤1000000; omega) hl;have hms:=Bn (U4 a) l.length l (Qn _);unfold OA kE;obtain ⟨M,hM⟩:=nmE ((Mx (U4 a) l).2);have hmm:∀ m∈M,Sc m.1.c/\Sc m.2.c:=λm hm=>by
  rw [hM] at hm;exact ⟨hl _ (QQ m hm).1,hl _ (QQ m hm).2⟩
 rw [<-hM] at cp hms ⊢;rw [J6] at cp;have hgl:(Ah M).length=M.length:=by simp [Ah]
 refine Fl func123 rfl ?_;refine Wy [] rfl ?_;refine oz 0 14 264 10 rfl rfl ?_;refine Wy [.k Ep,.c [0,2] cp,.o 5 126 7] rfl ?_;refine W5 (S:=Nat) 4 (λL1 i=>(29,.v (.oi i))::(5,.v (.one (.orow 3 7 none)))::L1) (λi=>[.blk 199 [.bool true,pl c.now.p,sg c.now.lo.num,mg c.now.lo.num,sg (c.now.lo.den:Int),mg (c.now.lo.den:Int),sg c.now.hi.num,mg c.now.hi.num,sg (c.now.hi.den:Int),mg (c.now.hi.den:Int),.row (Nu c.l),.int .i64 c.ev,.row (Uj l),.row (Uj (Mx (U4 a) l).1),.orow 2 10 none],.blk 189 (ta a),.row false 264 10 (Ah M),.row false 126 7 (Uy ((M.map λm=>Bz (U4 a) m.1 m.2).take i))]) (λi=>M.length-i) (λi=>i<=M.length) 0 (Qi _) rfl rfl λi hi=>?_
 by_cases hlt:i<M.length
 ·obtain ⟨m,hm⟩:=gxE (l:=M) (i:=i) hlt;obtain ⟨s1,s2⟩:=hmm m (Qa hm);have hg:(Ah M)[i]? = some (dF m):=Hj hm;have hq:∀ y∈[C9 (Bz (U4 a) m.1 m.2)],y.length=7:=λy hy=>by rw [Ql.1 hy]; rfl
  have ht:(M.map λm=>Bz (U4 a) m.1 m.2).take (i+1)=(M.map λm=>Bz (U4 a) m.1 m.2).take i++[Bz (U4 a) m.1 m.2]:=by
   rw [Z5,Zu,hm]; rfl
  refine go tt [.T,.i i,.x hg,.i 0,.i 1,.k (Qfu s1 s2 ha),.s (sz:=7) hq] rfl (by simp [Ul,hgl,P9]; omega) ?_;exact rd (i+1) (by omega) hlt (by rw [ht]; simp [Uy]; rfl)
 ·obtain rfl:i=M.length:=by omega
  rw [Qw (by simp)];exact W4 [2,3] [0] [.F] rfl
end Orr
