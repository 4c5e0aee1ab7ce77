/- T18 T19 T20 T21 T22 T23 T24 T25 G1 G2 SortL KinL K1 K2 F6 F7 F8 -/
import Derived.Test.YtledghfgedoofaaGreatPart06
import Derived.Test.YtledghfgedoofaaGreatPart00
import Derived.Test.YtledghfgedoofaaGreatPart05
set_option linter.all false
namespace Orq
open Orr Go
theorem Lp {p:List Int} (h1:p.length<=64) (h2:Bd 16777216 p):chk p=some p:=by
 unfold chk;rw [if_pos ⟨h1,J9.2 λz hz=>Nat.ble_eq_true_of_le (h2 z hz)⟩]
theorem Qnd {a b:List Int} {g:List Rat} {c:Rat} (hc:c≠0) (h:∀ t,Uw a t=c*Uw b t):O3 g (cz a)↔O3 g (cz b):=by
 constructor
 ·rintro ⟨u,hu⟩
  refine ⟨C0 (1 / c) u,λt=>?_⟩;have h1:=hu t;rw [Ux,h] at h1;rw [Ux,Fy];have h2:1 / c*c=1:=Zk hc;have:Uw b t=1 / c*(c*Uw b t):=by grind
  rw [this,h1]; grind
 ·rintro ⟨u,hu⟩
  refine ⟨C0 c u,λt=>?_⟩;have h1:=hu t;rw [Ux] at h1;rw [Ux,Fy,h,h1]; grind
structure Gc (g a b:List Int):Prop where
 t:Uz g
 da:O3 (cz g) (cz a)
 db:O3 (cz g) (cz b)
 c:∃ U V,∀ t,Uw g t=ev U t*Uw a t+ev V t*Uw b t
 n:g.length≠0
theorem Gc.scale {g a b g' a' b':List Int} {x y z:Rat} (h:Gc g a b) (hx:x≠0) (hy:y≠0) (hz:z≠0) (tg:Uz g') (eg:∀ t,Uw g t=x*Uw g' t) (ea:∀ t,Uw a' t=y*Uw a t) (eb:∀ t,Uw b' t=z*Uw b t):Gc g' a' b':=by
 have hx1:1 / x*x=1:=Zk hx;have hy1:1 / y*y=1:=Zk hy;have hz1:1 / z*z=1:=Zk hz;have hg:∀ c,O3 (cz g) c->O3 (cz g') c:=λc ⟨u,hu⟩=>⟨C0 x u,λt=>by rw [hu,Ux,Ux,eg,Fy]; grind⟩
 obtain ⟨U,V,hc⟩:=h.c;refine ⟨tg,hg _ ((Qnd hy ea).2 h.da),hg _ ((Qnd hz eb).2 h.db),⟨C0 (1 / x*(1 / y)) U,C0 (1 / x*(1 / z)) V,λt=>?_⟩,?_⟩
 ·have h1:=hc t;have h2:Uw g' t=1 / x*Uw g t:=by rw [eg]; grind
  rw [h2,h1,Fy,Fy,ea,eb];generalize ev U t=u at *;generalize ev V t=v at *;grind
 ·rw [<-Og h.t tg hx eg]; exact h.n
theorem Zkj:∀ d:Nat,1<=d->d+2<=3^d
 | 0,h=>by omega
 | 1,_=>by decide
 | d+2,_=>by have:=Zkj (d+1) (by omega); rw [Zn]; omega
theorem Qvr {k:Nat} {a b:List Int} (ta:Uz a) (tb:Uz b) (hb:b.length≠0) (hl:a.length<=60) (hbl:b.length<=60) (hr:Bd 16777216 (Ro a b)) (ih:∃ g,Qg7 k b (Ro a b)=some g/\Gc g b (Ro a b)):∃ g,Qg7 (k+1) a b=some g/\Gc g a b:=by
 obtain ⟨h1,h2,h3,u,v,up,vp,X,hX⟩:=Qi9 ta tb hb hl;obtain ⟨g,e,hg⟩:=ih;refine ⟨g,?_,?_⟩
 ·simp only [Qg7];rw [if_neg hb,Lp (by omega) hr]; exact e
 ·obtain ⟨U,V,hc⟩:=hg.c;obtain ⟨y,hy⟩:=hg.da;obtain ⟨z,hz⟩:=hg.db;have hu:1 / u*u=1:=Gs up;have hv:1 / v*v=1:=Gs vp;refine ⟨hg.t,⟨C0 (1 / u) (Tu (Gk X y) (C0 v z)),λt=>?_⟩,hg.da,⟨C0 (u / v) V,Tu U (C0 (-1 / v) (Gk V X)),λt=>?_⟩,hg.n⟩
  ·have a1:=hX t; have a2:=hy t; have a3:=hz t;rw [Ux,Ux] at a2 a3;rw [Ux,Ux,Fy,Gg,U3,Fy];have:Uw a t=1 / u*(u*Uw a t):=by grind
   rw [this,a1,a2,a3]; grind
  ·have a1:=hX t; have a2:=hc t;rw [Fy,Gg,Fy,U3,a2];have:Uw (Ro a b) t=1 / v*(v*Uw (Ro a b) t):=by grind
   rw [this,show v*Uw (Ro a b) t=u*Uw a t-ev X t*Uw b t by grind,Jq,Jq,Jq];grind
theorem Q23 {k:Nat} {a:List Int} (ta:Uz a) (ha:a.length≠0):∃ g,Qg7 (k+1) a []=some g/\Gc g a [] :=
 ⟨a,rfl,ta,dvd_refl _,⟨[],λt=>by simp only [cz,Jf,ev]; grind⟩,⟨[1],[],λt=>by rw [Rq]; simp only [ev]; grind⟩,ha⟩
theorem Qg8 {s:Nat}:∀ (k:Nat) (a b:List Int),Uz a->Uz b->b.length<k->b.length<a.length->a.length<=60->Bd s a->Bd s b->(s+8)*3^(a.length-1)<=16777216->∃ g,Qg7 k a b=some g/\Gc g a b
 | 0,_,_,_,_,h,_,_,_,_,_=>by omega
 |
  k+1,a,b,ta,tb,hk,hab,hl,ba,bb,hs=>by
  by_cases hb:b.length=0
  ·rw [Qi hb]; exact Q23 ta (by omega)
  ·obtain ⟨h1,h2,h3,_⟩:=Qi9 ta tb hb hl;have h3:=h3 s ba bb;obtain ⟨m,hm⟩:=nmE (a.length-b.length);have e1:a.length+1-b.length=m+1:=by omega
   rw [e1] at h3;have e2:s+(m+1)*(s+8)+8=(m+2)*(s+8):=by
    rw [show m+2=(m+1)+1 by omega,Z7 (m+1)]; omega
   have e3:(m+2)*(s+8)*3^(b.length-1)<=(s+8)*3^(a.length-1):=by
    rw [show a.length-1=m+(b.length-1) by omega,Xb,<-Xg,Zh (s+8)];exact Q0 _ (Q0 _ (Zkj m (by omega)))
   have e4:s+(m+1)*(s+8)<=16777216:=by
    have:(m+2)*(s+8)<=(m+2)*(s+8)*3^(b.length-1):=Jy _ (Z1 (by decide));omega
   refine Qvr ta tb hb hl (by omega) (Us h3 e4) (Qg8 (s:=s+(m+1)*(s+8)) k b (Ro a b) tb h1 (by omega) h2 (by omega) (Us bb (by omega)) h3 ?_);rw [e2]; omega
def Szz (n s:Nat):Prop:=n<=10/\2*(s+8)*3^(n-1)<=16777216
theorem Zck {n s:Nat} (hz:Szz n s) {a b:List Int} (ta:Uz a) (tb:Uz b) (la:a.length<=n) (lb:b.length<=n) (ba:Bd s a) (bb:Bd s b) (h0:a.length≠0\/b.length≠0):∃ g,Qg7 66 a b=some g/\Gc g a b:=by
 obtain ⟨hn,hz⟩:=hz;have hp:∀ l,l<=n->(s+8)*3^(l-1)<=8388608:=λl hl=>by
  have:(s+8)*3^(l-1)<=(s+8)*3^(n-1):=Zq _ (Zw (by decide) (by omega));rw [Xg] at hz; omega
 rcases Za b.length a.length with h | h
 ·exact Qg8 66 a b ta tb (by omega) h (by omega) ba bb (by have:=hp a.length la; omega)
 ·by_cases hb:b.length=0
  ·rw [Qi hb]; exact Q23 ta (by omega)
  ·obtain ⟨h1,h2,h3,_⟩:=Qi9 ta tb hb (by omega);have h3:=h3 s ba bb;have h4:(a.length+1-b.length)*(s+8)<=1*(s+8):=Q0 _ (by omega);have h5:=hp b.length lb;have h6:(s+8)*1<=(s+8)*3^(b.length-1):=Zq _ (Z1 (by decide));refine Qvr ta tb hb (by omega) (by omega) (Us h3 (by omega)) (Qg8 (s:=2*s+8) 65 b (Ro a b) tb h1 (by omega) h2 (by omega) (Us bb (by omega)) (Us h3 (by omega)) ?_);rw [show 2*s+8+8=2*(s+8) by omega,Xg]; omega
theorem Qof:U7 []=[]:=rfl
theorem Qey {a:List Int} (ta:Uz a):Uz (U7 a)/\(U7 a).length=a.length/\(∀ s,Bd s a->Bd s (U7 a))/\∃ c:Rat,c≠0/\∀ t,Uw a t=c*Uw (U7 a) t:=by
 by_cases h:a.length=0
 ·rw [Qi h];exact ⟨rfl,rfl,λs _=>O6,1,by decide,λt=>by rw [Qof]; grind⟩
 ·obtain ⟨h1,h2,h3,h4,h5,h6,h7⟩:=Be ta h;exact ⟨h1,h2,h5,_,Qaq h6,h7⟩
theorem Qdo {n s:Nat} (hz:Szz n s) {a b:List Int} (ta:Uz a) (tb:Uz b) (la:a.length<=n) (lb:b.length<=n) (ba:Bd s a) (bb:Bd s b) (h0:a.length≠0\/b.length≠0):∃ g,Qa8 a b=some g/\Gc g a b/\Prm g/\0<U9 g:=by
 obtain ⟨a1,a2,a3,x,xn,ax⟩:=Qey ta;obtain ⟨b1,b2,b3,y,yn,bx⟩:=Qey tb;obtain ⟨g,e,hg⟩:=Zck hz a1 b1 (by omega) (by omega) (a3 s ba) (b3 s bb) (by omega);obtain ⟨g1,g2,g3,g4,g5,g6,g7⟩:=Be hg.t hg.n;refine ⟨U7 g,?_,hg.scale (Qaq g6) xn yn g1 g7 ax bx,g3,g4⟩;unfold Qa8; rw [e]; rfl
theorem Q5l {a:List Int} (ta:Uz a):Qa8 [] a=some (U7 (U7 a)):=by
 unfold Qa8;rw [Qof];by_cases h:(U7 a).length=0
 ·have e:U7 a=[]:=Qi h;rw [e]; rfl
 ·have e:Ro [] (U7 a)=[]:=by
   have e1:Pi [] (U7 a)=[]:=by unfold Pi; rw [show ([]:List Int).length+1-(U7 a).length=0 by simp; omega]; rfl
   unfold Ro;rw [e1];unfold Nh
   split <;> rfl
  have:Qg7 66 [] (U7 a)=some (U7 a):=by
   show (if (U7 a).length=0 then _ else _)=_;rw [if_neg h,e]; rfl
  rw [this]; rfl
theorem Q87 {n s:Nat} (hz:Szz n s) {a b:List Int} (ta:Uz a) (tb:Uz b) (la:a.length<=n) (lb:b.length<=n) (ba:Bd s a) (bb:Bd s b) (h0:a.length≠0):∃ g,Qq8 a b=some g/\Gc g a b/\Prm g/\0<U9 g:=by
 obtain ⟨a1,a2,a3,x,xn,ax⟩:=Qey ta;obtain ⟨b1,b2,b3,y,yn,bx⟩:=Qey a1;obtain ⟨g,e,hg,h1,h2⟩:=Qdo hz b1 tb (by omega) lb (b3 s (a3 s ba)) bb (by omega);refine ⟨g,?_,hg.scale (x:=1) (y:=x*y) (z:=1) (by decide) (λh=>(Yw.1 h).elim xn yn) (by decide) hg.t (λt=>by grind) (λt=>by rw [ax,bx]; grind) (λt=>by grind),h1,h2⟩;unfold Qq8;rw [Q5l ta]; exact e
theorem Q21:∀ {p q:List Rat} {m n:Nat},HD p m->HD q n->(Gk p q).getD (m+n) 0=p.getD m 0*q.getD n 0
 | [],q,m,n,h,_=>absurd (by simp) h.1
 |
  a::p,q,0,n,h,h'=>by
  have h1:∀ k,p.getD k 0=0:=λk=>by have:=h.2 (k+1) (by omega); rwa [Q3] at this
  simp only [Gk];rw [H7,Tr,Zp,Zx];cases n with
  | zero=>rw [Zp]; grind
  | succ n=>rw [Q3,Qhr h1]; grind
 |
  a::p,q,m+1,n,h,h'=>by
  have ih:=Q21 (p:=p) (q:=q) (m:=m) ⟨by have:=h.1; rwa [Q3] at this,λk hk=>by have:=h.2 (k+1) (by omega); rwa [Q3] at this⟩ h';simp only [Gk];rw [H7,Tr,show m+1+n=(m+n)+1 by omega,Q3,h'.2 _ (by omega),ih,Q3]; grind
theorem Qt3 {a b c:List Int} (ta:Uz a) (tb:Uz b) (tc:Uz c) (h:∀ t,Uw c t=Uw a t*Uw b t) (la:0<a.length) (lb:0<b.length):U9 c=U9 a*U9 b:=by
 have h1:=Qhq ta la;have h2:=Qhq tb lb;have h3:=Q21 h1 h2;have hl:=P7 ta tb tc h la lb;rw [<-Cw (p:=cz c) (λt=>by rw [U3,Ux,Ux,Ux,h]),P5,P5,P5,show a.length-1+(b.length-1)=c.length-1 by omega] at h3;unfold U9; exact_mod_cast h3
theorem Ru {a b c:List Int} (tc:Uz c) (hc:c.length≠0) (h:∀ t,Uw c t=Uw a t*Uw b t):0<a.length/\0<b.length:=by
 constructor
 ·rcases Qz a.length with e | e
  ·exact absurd (λt=>by rw [h,Cy e]; grind) (Qhi tc (by omega))
  ·exact e
 ·rcases Qz b.length with e | e
  ·exact absurd (λt=>by rw [h,Cy e]; grind) (Qhi tc (by omega))
  ·exact e
theorem Qq7 {b:List Int} (tb:Uz b) (hb:b.length≠0):∀ (i:Nat) (a q h:List Int),Uz a->Uz h->(∀ t,Uw a t=Uw b t*Uw h t)->a.length<b.length+i->i<=q.length->(∀ j,j<i->q.getD j 0=0)->∃ q',Qq6 b i a q=some q'/\q'.length=q.length/\∀ t,Uw q' t=Uw q t+Uw h t
 |
  0,a,q,h,ta,th,e,hl,_,_=>by
  have ha:a.length=0:=by
   rcases Qz a.length with e' | e'
   ·exact e'
   ·obtain ⟨p1,p2⟩:=Ru ta (by omega) e;have:=P7 tb th ta e p1 p2; omega
  refine ⟨q,by simp only [Qq6]; rw [if_pos ha],rfl,λt=>?_⟩;have:∀ t,Uw h t=0:=λt=>by
   have:=Qw3 (p:=cz b) (q:=cz h) (r:=[]) (λh0=>Qhi tb (by omega) λt=>by rw [<-Ux]; exact h0 t) (λt=>by rw [Ux,Ux,<-e,Cy ha]; simp only [ev]; grind) t;rwa [Ux] at this
  rw [this]; grind
 |
  i+1,a,q,h,ta,th,e,hl,hq,h0=>by
  simp only [Qq6];by_cases hlt:a.length<b.length+i
  ·rw [if_pos hlt];exact Qq7 tb hb i a q h ta th e hlt (by omega) λj hj=>h0 j (by omega)
  ·rw [if_neg hlt];obtain ⟨p1,p2⟩:=Ru ta (by omega) e;have hln:=P7 tb th ta e p1 p2;have hld:=Qt3 tb th ta e p1 p2;have hlb:=D5 tb hb;rw [hld,if_pos (Int.mul_emod_right _ _),Xl _ hlb];have hli:h.length=i+1:=by omega
   have e2:∀ t,Uw (Pw a (Fw (trim (mono i (U9 h))) b)) t=Uw b t*Uw (Pw h (mono i (U9 h))) t:=λt=>by
    rw [Bb,Bb,Fo,Ig,e]; grind
   have hl2:(Pw a (Fw (trim (mono i (U9 h))) b)).length<b.length+i:=by
    have hl:=Q1k (i:=i) (x:=U9 h) (b:=b) (a:=a);unfold sta at hl;have:=Q9p (p:=Pw a (Fw (trim (mono i (U9 h))) b)) (n:=b.length+i-1) (Ft _ _) (by omega) (by
     rw [Im,Q1q,if_pos (by omega),show b.length+i-1-i=b.length-1 by omega,show b.length+i-1=a.length-1 by omega];have:U9 a=a.getD (a.length-1) 0:=rfl;rw [<-this,hld];unfold U9;rw [Wg,Int.sub_eq_zero])
    omega
   obtain ⟨q',h1,h2,h3⟩:=Qq7 tb hb i _ (q.set i (U9 h)) (Pw h (mono i (U9 h))) (Ft _ _) (Ft _ _) e2 hl2 (by simp; omega) λj hj=>by
    rw [Qg,Y0,if_neg (by omega),<-Qg];exact h0 j (by omega)
   refine ⟨q',h1,by rw [h2,Jj],λt=>?_⟩;rw [h3,Qq5 q i _ t (by omega),h0 i (by omega),Bb,Qa4]
   push_cast; grind
theorem Za5 {a b h:List Int} {s:Nat} (ta:Uz a) (tb:Uz b) (th:Uz h) (ha:a.length≠0) (la:a.length<=10) (ba:Bd s a) (hs:s+69<=16777216) (e:∀ t,Uw a t=Uw b t*Uw h t):Qa6 a b=some h:=by
 obtain ⟨p1,p2⟩:=Ru ta ha e;have hln:=P7 tb th ta e p1 p2;obtain ⟨q,h1,h2,h3⟩:=Qq7 tb (by omega) (a.length+1-b.length) a (List.replicate (a.length+1-b.length) 0) h ta th e (by omega) (by simp) λj _=>Ty _ _
 have h4:trim q=h:=Q16 (Ra _) th λt=>by rw [Ig,h3,Qoc]; grind
 unfold Qa6;rw [if_neg (by omega),h1];show chk (trim q)=_;rw [h4];exact Lp (by omega) (Us (Qam ba la ta th tb ha λt=>by rw [e]; grind) (by omega))
structure Pr1 (p:List Int):Prop where
 t:Uz p
 m:Prm p
 l:0<U9 p
theorem Pr1.n {p:List Int} (h:Pr1 p):p.length≠0:=λe=>by
 have:=h.l;rw [Qi e] at this;exact absurd this (by decide)
theorem Pr1.one {p:List Int} (h:Pr1 p) (hl:p.length<2):p=[1]:=by
 have hn:=h.n;obtain ⟨c,rfl⟩:∃ c,p=[c]:=Ky.1 (by omega);have h1:=h.m c λk=>by cases k <;> simp
 have h2:0<c:=h.l;have:=Int.le_of_dvd (by decide) h1;rw [show c=1 by omega]
theorem Zfy {p g h:List Int} (hp:Prm p) (e:∀ t,Uw p t=Uw g t*Uw h t):Prm h:=λd hd=>by
 refine hp d λk=>?_
 have:=Da (p:=p) (q:=Fw g h) (λt=>by rw [e,Fo]) k;rw [this];have e2:∀ t,Uw (Fw g h) t=(d:Rat)*Uw (Fw g (h.map (· / d))) t:=λt=>by
  have h1:Uw h t=(d:Rat)*Uw (h.map (· / d)) t:=by
   have:=Ba d 0 t (max h.length (h.map (· / d)).length) (h.map (· / d)) [] h (by omega) (by simp) (by omega) λk=>by
    rw [Qeb,Wh (hd k)]; simp
   rw [this]; simp only [Uw]; push_cast; grind
  rw [Fo,Fo,h1]; grind
 have:=Da (p:=Fw g h) (q:=Ff (Fw g (h.map (· / d))) d) (λt=>by rw [e2,Rt]; grind) k;rw [this,Pu]; exact Y8 _ _
theorem Zfx {p g h:List Int} (hp:Pr1 p) (hg:0<U9 g) (tg:Uz g) (th:Uz h) (e:∀ t,Uw p t=Uw g t*Uw h t):Pr1 h:=by
 obtain ⟨p1,p2⟩:=Ru hp.t hp.n e;have:=Qt3 tg th hp.t e p1 p2;refine ⟨th,Zfy hp.m e,?_⟩;have hl:=hp.l;rw [this] at hl;rcases Jz (U9 h) 0 with h1 | h1 | h1
 ·have:=Kj hg h1; omega
 ·rw [h1] at hl; omega
 ·exact h1
structure Sqp (p g q:List Int):Prop where
 pp:Pr1 p
 pg:Pr1 g
 pq:Pr1 q
 e:∀ t,Uw p t=Uw g t*Uw q t
 c:∃ U V,∀ t,Uw g t=ev U t*Uw p t+ev V t*dv (cz p) t
 d:∃ z,∀ t,dv (cz p) t=Uw g t*ev z t
theorem Sqp.num {p g q:List Int} (h:Sqp p g q) {d:List Rat} (h1:O3 d (cz q)) (h2:O3 d (M5 (cz q))):∃ c:Rat,c≠0/\∀ t,ev d t=c:=by
 obtain ⟨U,V,hc⟩:=h.c;have hpow:=sqf (k:=1) (a:=cz p) (g:=cz g) (q:=cz q) (d:=d) (U:=U) (V:=V) (by decide) (λt=>by rw [Ux,Ux,Ux,h.e]) (λt=>by rw [Ux,Ux,hc]; grind) h1 h2;rcases Qk3 d with h3 | ⟨m,_,h3⟩
 ·obtain ⟨u,hu⟩:=h1;exact absurd (λt=>by rw [<-Ux,hu,h3]; grind) (Qhi h.pq.t (by have:=h.pq.n; omega))
 ·obtain rfl:=Qoe h3 (Qhq h.pg.t (by have:=h.pg.n; omega)) hpow;refine ⟨d.getD 0 0,h3.1,λt=>?_⟩;cases d with
  | nil=>exact absurd (by simp) h3.1
  |
   cons c l =>
   have:=C7 (p:=l) λk=>by have:=h3.2 (k+1) (by omega); rwa [Q3] at this
   simp only [ev,this,Zp]; grind
theorem Sqp.bez {p g q:List Int} (h:Sqp p g q):∃ X Y,∀ t,ev X t*ev (cz q) t+ev Y t*dv (cz q) t=1:=by
 obtain ⟨d,U,V,h1,h2,h3⟩:=Q86 (cz q) (M5 (cz q));obtain ⟨c,hc,hd⟩:=h.num h1 h2;refine ⟨C0 (1 / c) U,C0 (1 / c) V,λt=>?_⟩;have h5:=h3 t;rw [hd,Rz] at h5;have h4:1 / c*c=1:=Zk hc;rw [Fy,Fy];have:1 / c*ev U t*ev (cz q) t+1 / c*ev V t*dv (cz q) t=1 / c*(ev U t*ev (cz q) t+ev V t*dv (cz q) t):=by grind
 rw [this,<-h5,h4]
theorem Zcb {n s:Nat} (h:Szz n s):s<=8388600:=by
 have:2*(s+8)*1<=2*(s+8)*3^(n-1):=Zq _ (Z1 (by decide));have:=h.2; omega
theorem Qv7 {s:Nat} {p:List Int} (h:Bd s p) (hl:p.length<=10):Bd (s+4) (Gj p):=Qin h (t:=4) (by omega)
theorem Q2v {n s:Nat} (hz:Szz n (s+73)) {p:List Int} (pp:Pr1 p) (l2:2<=p.length) (lp:p.length<=n) (bp:Bd (s+69) p) {p0 h0:List Int} (b0:Bd s p0) (l0:p0.length<=10) (t0:Uz p0) (th0:Uz h0) (z0:p0.length≠0) (e0:∀ t,Uw p0 t=Uw h0 t*Uw p t) :
 ∃ g q,chk (Gj p)=some (Gj p)/\Qa8 p (Gj p)=some g/\Qa6 p g=some q/\Sqp p g q/\g.length<p.length:=by
 have hn:=hz.1;have hs:=Zcb hz;have bd:=Qv7 bp (by omega);have ld:=Pn p;have td:Uz (Gj p):=Ft _ _;obtain ⟨g,e1,hg,m,l⟩:=Qdo hz pp.t td lp (by omega) (Us bp (by omega)) bd (.inl pp.n);obtain ⟨q,tq,eq⟩:=Q80 m hg.da;have hdnz:(Gj p).length≠0:=λh=>by
  have h1:=Nf p (p.length-2);rw [Qi h,show p.length-2+1=p.length-1 by omega] at h1;have h2:p.getD (p.length-1) 0≠0:=Ho pp.t (by omega);rcases Yt.1 (h1.symm.trans (by simp)) with h3 | h3
  ·exact h2 h3
  ·omega
 have pg:Pr1 g:=⟨hg.t,m,l⟩;have hql:=Za5 (s:=s+69) pp.t hg.t tq pp.n (by omega) bp (by omega) eq;refine ⟨g,q,Lp (by omega) (Us bd (by omega)),e1,hql,⟨pp,pg,Zfx pp l hg.t tq eq,eq,?_,?_⟩,?_⟩
 ·obtain ⟨U,V,hc⟩:=hg.c;exact ⟨U,V,λt=>by rw [hc,If]⟩
 ·obtain ⟨z,hz⟩:=hg.db;exact ⟨z,λt=>by rw [<-If,<-Ux,hz,Ux]⟩
 ·obtain ⟨z,tz,ez⟩:=Q80 m hg.db;obtain ⟨q1,q2⟩:=Ru td hdnz ez;have:=P7 hg.t tz td ez q1 q2;omega
theorem Zfr:Sqp [1] [1] [1]:=by
 have p1:Pr1 [1]:=⟨rfl,λd hd=>by have:=hd 0; rwa [Zp] at this,by decide⟩;have e1:∀ t,Uw [1] t=1:=λt=>by simp only [Uw]; push_cast; grind
 exact ⟨p1,p1,p1,λt=>by rw [e1]; grind,⟨[1],[],λt=>by rw [e1,Rq]; simp only [ev]; grind⟩,⟨[],λt=>by simp only [cz,Z0,Jf,dv,ev]; grind⟩⟩
structure Okp (n s:Nat) (p:List Int):Prop where
 z:Szz n (s+73)
 t:Uz p
 nz:p.length≠0
 l:p.length<=n
 b:Bd s p
theorem Okp.pr {n s:Nat} {p:List Int} (h:Okp n s p):Pr1 (U7 p)/\(U7 p).length=p.length/\Bd s (U7 p):=by
 obtain ⟨h1,h2,h3,h4,h5,_⟩:=Be h.t h.nz;exact ⟨⟨h1,h3,h4⟩,h2,h5 s h.b⟩
theorem Qb9 {n s:Nat} {p:List Int} (h:Okp n s p):∃ g q,P9 p=some q/\Sqp (U7 p) g q:=by
 obtain ⟨pp,hl,hb⟩:=h.pr;have hn:=h.z.1;have:=h.l;unfold P9;by_cases h2:(U7 p).length<2
 ·rw [if_pos h2,pp.one h2]; exact ⟨[1],[1],rfl,Zfr⟩
 ·rw [if_neg h2];obtain ⟨g,q,h3,h4,h5,h6,_⟩:=Q2v h.z pp (by omega) (by omega) (Us hb (by omega)) (p0:=U7 p) (h0:=[1]) hb (by omega) pp.t rfl pp.n λt=>by simp only [Uw]; push_cast; grind
  exact ⟨g,q,by rw [h3]; show (Qa8 (U7 p) (Gj (U7 p))).bind _=_; rw [h4]; exact h5,h6⟩
inductive LW:List Int->List (List Int)->Prop
 | nil:LW [1] []
 | cons {g h w:List Int} {ws:List (List Int)} (hs:Sqp g h w) (hl:LW h ws):LW g (w::ws)
theorem Zj9 {g:List Int} {ws:List (List Int)} (h:LW g ws):∀ t,Uw g t=ev (Ic (ws.map cz)) t:=by
 induction h with
 | nil=>intro t; simp only [Jf,Ic,Uw]; rw [Rq]; push_cast; grind
 | cons hs hl ih=>intro t; simp only [Z0,Ic]; rw [U3,Ux,hs.e,ih]; grind
theorem Q1p {g:List Int} {w v:List Int} {ws:List (List Int)} (h:LW g (w::v::ws)):∃ f,Uz f/\∀ t,Uw w t=Uw f t*Uw v t:=by
 cases h with
 |
  @cons _ h _ _ hs hl =>
  cases hl with
  |
   @cons _ h2 _ _ hs2 hl2 =>
   obtain ⟨X,Y,hb⟩:=hs2.bez;obtain ⟨z,hz⟩:=hs.d;have hd:=Zgs (a:=cz g) (g:=cz h) (q:=cz w) (z:=z) (r:=cz v) (X:=X) (Y:=Y) (n:=h.length-1) (λt=>by rw [Ux,Ux,Ux,hs.e]) (λt=>by rw [hz,Ux]) (Qhq hs.pg.t (by have:=hs.pg.n; omega)) hb
    ⟨Gk (cz h2) (cz w),λt=>by rw [U3,Ux,Ux,Ux,Ux,hs.e,hs2.e]; grind⟩
   obtain ⟨f,tf,ef⟩:=Q80 hs2.pq.m hd;exact ⟨f,tf,λt=>by rw [ef]; grind⟩
theorem Qt7 {g w:List Int} {ws:List (List Int)} (h:LW g (w::ws)):∀ v∈w::ws,Pr1 v/\O3 (cz v) (cz w):=by
 have key:∀ (ws:List (List Int)) (g w:List Int),LW g (w::ws)->∀ v∈w::ws,Pr1 v/\O3 (cz v) (cz w):=by
  intro ws
  induction ws with
  |
   nil =>
   intro g w h v hv;rw [Qk.1 hv];cases h with
   | cons hs hl=>exact ⟨hs.pq,dvd_refl _⟩
  |
   cons u ws ih =>
   intro g w h v hv;have hn:=Q1p h;cases h with
   |
    @cons _ h _ _ hs hl =>
    rcases Qo.1 hv with rfl | hv
    ·exact ⟨hs.pq,dvd_refl _⟩
    ·obtain ⟨i1,i2⟩:=ih h u hl v hv;obtain ⟨f,_,hf⟩:=hn;exact ⟨i1,dvd_trans i2 ⟨cz f,λt=>by rw [Ux,Ux,Ux,hf]; grind⟩⟩
 exact key ws g w h
theorem lay_ok {n s:Nat} (hz:Szz n (s+73)) {p0:List Int} (b0:Bd s p0) (l0:p0.length<=10) (t0:Uz p0) (z0:p0.length≠0):∀ (k:Nat) (g h0:List Int),Pr1 g->g.length<=k->g.length<=n->Uz h0->(∀ t,Uw p0 t=Uw h0 t*Uw g t)->∃ ws,Qgm k g=some ws/\LW g ws
 | 0,g,_,pg,hk,_,_,_=>absurd pg.n (by omega)
 |
  k+1,g,h0,pg,hk,hn,th0,e0=>by
  simp only [Qgm];by_cases h2:g.length<2
  ·rw [if_pos h2,pg.one h2]; exact ⟨[],rfl,.nil⟩
  ·rw [if_neg h2];have bg:Bd (s+69) g:=Qam b0 l0 t0 pg.t th0 z0 λt=>by rw [e0]; grind
   obtain ⟨h,w,h3,h4,h5,h6,h7⟩:=Q2v hz pg (by omega) hn bg b0 l0 t0 th0 z0 e0;obtain ⟨ws,i1,i2⟩:=lay_ok hz b0 l0 t0 z0 k h (Fw h0 w) h6.pg (by omega) (by omega) (G5 _ _) λt=>by rw [e0,Fo,h6.e]; grind
   refine ⟨w::ws,?_,.cons h6 i2⟩;rw [h3];show (Qa8 g (Gj g)).bind _=_;rw [h4];show (Qa6 g h).bind _=_;rw [h5];show (Qgm k h).bind _=_;rw [i1]; rfl
theorem Q8t {s:Nat} {p0:List Int} (b0:Bd s p0) (l0:p0.length≤10) (t0:Uz p0) (z0:p0.length≠0) (hs:s+69+69≤16777216):∀ (ws:List (List Int)) (g h0:List Int),LW g ws->Uz h0->(∀ t,Uw p0 t=Uw h0 t*Uw g t)->∃ fs,Qmo ws=some fs/\Lay (ws.map cz) (fs.map cz)/\∀ f∈fs,Uz f
 | [],g,_,_,_,_=>⟨[],rfl,trivial,λf hf=>by cases hf⟩
 |
  [w],g,_,hl,_,_=>by
  cases hl with
  | cons hs hl=>exact ⟨[w],rfl,λt=>rfl,λf hf=>by rw [Qk.1 hf]; exact hs.pq.t⟩
 |
  w::v::ws,g,h0,hl,th0,e0=>by
  obtain ⟨f,tf,ef⟩:=Q1p hl;cases hl with
  |
   @cons _ h _ _ hs1 hl =>
   have hpv:=(Qt7 hl v (Qx ..)).1;obtain ⟨fs,i1,i2,i3⟩:=Q8t b0 l0 t0 z0 hs (v::ws) h (Fw h0 w) hl (G5 _ _) λt=>by rw [e0,Fo,hs1.e]; grind
   have ew:∀ t,Uw p0 t=Uw w t*Uw (Fw h0 h) t:=λt=>by rw [e0,Fo,hs1.e]; grind
   have bw:Bd (s+69) w:=Qam b0 l0 t0 hs1.pq.t (G5 _ _) z0 ew;obtain ⟨p1,p2⟩:=Ru t0 z0 ew;have lw:=P7 hs1.pq.t (G5 _ _) t0 ew p1 p2;have hq:=Za5 (s:=s+69) hs1.pq.t hpv.t tf hs1.pq.n (by omega) bw hs λt=>by rw [ef]; grind
   refine ⟨f::fs,?_,⟨λt=>by rw [Ux,Ux,Ux,ef],i2⟩,λx hx=>?_⟩
   ·show (Qa6 w v).bind _=_;rw [hq];show (Qmo (v::ws)).bind _=_;rw [i1]; rfl
   ·rcases Qo.1 hx with rfl | hx
    ·exact tf
    ·exact i3 x hx
def Mm:List (List Int)->List Int
 | []=>[1]
 | [f]=>f
 | f::_::l=>Fw f (Mm l)
theorem Quk:∀ (fs:List (List Int)) (t:Rat),ev (Qie (fs.map cz)) t=Uw (Mm fs) t
 | [],t=>by simp only [Jf,Qie,Mm,Uw]; rw [Rq]; push_cast; grind
 | [f],t=>by simp only [Z0,Jf,Qie,Mm]; rw [Ux]
 | f::g::l,t=>by simp only [Z0,Qie,Mm]; rw [U3,Ux,Fo,Quk l]
theorem Ms (t:Rat):Uw [1] t=1:=by simp only [Uw]; push_cast; grind
theorem Qnl:∀ {w:List Int} {ws fs:List (List Int)},Lay ((w::ws).map cz) (fs.map cz)->(∀ f∈fs,Uz f)->(∀ v∈w::ws,Uz v)->∃ E,Uz E/\∀ t,Uw w t=Uw (Mm fs) t*Uw E t
 |
  w,[],[f],h,_,_=>⟨[1],rfl,λt=>by
  have:=h t;rw [Ux,Ux] at this;rw [this,Ms]; simp only [Mm]; grind⟩
 |
  w,[v],[f,f2],h,_,hw=>⟨v,hw v (by simp),λt=>by
  have:=h.1 t;rw [Ux,Ux,Ux] at this;rw [this]; simp only [Mm]; rw [Fo,Ms]; grind⟩
 |
  w,v::x::l,f::f2::fs,h,hf,hw=>by
  obtain ⟨E,hE,e⟩:=Qnl (w:=x) (ws:=l) (fs:=fs) h.2.2 (λg hg=>hf g (by simp [hg])) (λg hg=>hw g (by simp at hg ⊢; exact .inr (.inr hg)));refine ⟨Fw f2 E,G5 _ _,λt=>?_⟩;have a1:=h.1 t;have a2:=h.2.1 t;rw [Ux,Ux,Ux] at a1 a2;have e2:Uw (Mm (f::f2::fs)) t=Uw f t*Uw (Mm fs) t:=by simp only [Mm]; rw [Fo]
  rw [a1,a2,e,e2,Fo]; grind
 | w,[],[],h,_,_=>h.elim
 | w,[],_::_::_,h,_,_=>h.elim
 | w,[v],[],h,_,_=>h.elim
 | w,[v],[f],h,_,_=>h.2.elim
 | w,[v],_::_::_::_,h,_,_=>h.2.elim
 | w,v::x::l,[f],h,_,_=>h.2.elim
 | w,v::x::l,[],h,_,_=>h.elim
theorem Qbz {s:Nat} {p0:List Int} (b0:Bd s p0) (l0:p0.length≤10) (t0:Uz p0) (z0:p0.length≠0) (hs:s+69≤16777216):∀ (fs:List (List Int)) (i:Nat) (a E:List Int),i % 2=0->Uz a->Uz E->(∀ f∈fs,Uz f)->(∀ t,Uw p0 t=Uw a t*Uw (Mm fs) t*Uw E t)->∃ o,Qes i a fs=some o/\Uz o/\∀ t,Uw o t=Uw a t*Uw (Mm fs) t
 | [],i,a,E,hi,ta,_,_,_=>⟨a,rfl,ta,λt=>by simp only [Mm]; rw [Ms]; grind⟩
 |
  [f],i,a,E,hi,ta,tE,tf,hE=>by
  have e1:∀ t,Uw p0 t=Uw (Fw a f) t*Uw E t:=λt=>by rw [hE,Fo]; rfl
  have b1:=Qam b0 l0 t0 (G5 a f) tE z0 e1;obtain ⟨p1,p2⟩:=Ru t0 z0 e1;have hl:=P7 (G5 a f) tE t0 e1 p1 p2;refine ⟨Fw a f,?_,G5 _ _,λt=>by rw [Fo]; rfl⟩;simp only [Qes];rw [if_pos hi,Lp (by omega) (Us b1 (by omega))]; rfl
 |
  f::g::fs,i,a,E,hi,ta,tE,tf,hE=>by
  have e0:∀ t,Uw (Mm (f::g::fs)) t=Uw f t*Uw (Mm fs) t:=λt=>by simp only [Mm]; rw [Fo]
  have e1:∀ t,Uw p0 t=Uw (Fw a f) t*Uw (Fw (Mm fs) E) t:=λt=>by rw [hE,e0,Fo,Fo]; grind
  have b1:=Qam b0 l0 t0 (G5 a f) (G5 _ _) z0 e1;obtain ⟨p1,p2⟩:=Ru t0 z0 e1;have hl:=P7 (G5 a f) (G5 _ _) t0 e1 p1 p2;obtain ⟨o,o1,o2,o3⟩:=Qbz b0 l0 t0 z0 hs fs (i+2) (Fw a f) E (by omega) (G5 _ _) tE (λx hx=>tf x (by simp [hx])) λt=>by rw [hE,e0,Fo]; grind
  refine ⟨o,?_,o2,λt=>by rw [o3,e0,Fo]; grind⟩;have h1:Qes (i+1) (Fw a f) (g::fs)=Qes (i+2) (Fw a f) fs:=by
   show (if (i+1) % 2=0 then _ else _)=_;rw [if_neg (by omega)]
  show (if i % 2=0 then (chk (Fw a f)).bind λq=>Qes (i+1) q (g::fs) else _)=_;rw [if_pos hi,Lp (by omega) (Us b1 (by omega))];exact h1.trans o1
structure Parts (p q o:List Int):Prop where
 sq:∃ g,Sqp (U7 p) g q
 ws:∃ ws:List (List Int),(∀ w∈ws,Pr1 w/\O3 (cz w) (cz q))/\∀ t,Uw (U7 p) t=ev (Ic (ws.map cz)) t
 oq:O3 (cz o) (cz q)
 ot:Uz o
 oh:∃ h,Uz h/\∀ t,Uw (U7 p) t=Uw o t*Uw h t
 os:∃ S,∀ t,Uw (U7 p) t=Uw o t*(ev S t*ev S t)
theorem Zaa {n s:Nat} {p:List Int} (h:Okp n s p):∃ q o,P9 p=some q/\Qx6 p=some o/\Parts p q o:=by
 obtain ⟨pp,hl,hb⟩:=h.pr;have hn:=h.z.1;have By:=h.l;have hs:=Zcb h.z;obtain ⟨g,q,hq,sq⟩:=Qb9 h;obtain ⟨ws,w1,w2⟩:=lay_ok h.z hb (by omega) pp.t pp.n 66 (U7 p) [1] pp (by omega) (by omega) rfl λt=>by rw [Ms]; grind
 obtain ⟨fs,f1,f2,f3⟩:=Q8t hb (by omega) pp.t pp.n (by omega) ws (U7 p) [1] w2 rfl λt=>by rw [Ms]; grind
 have hw:=Zj9 w2;have hfirst:(∀ w∈ws,Pr1 w/\O3 (cz w) (cz q))/\∃ E,Uz E/\∀ t,Uw q t=Uw (Mm fs) t*Uw E t:=by
  cases ws with
  |
   nil =>
   have e:fs=[]:=by
    cases fs with
    | nil=>rfl
    | cons f l=>exact f2.elim
   subst e;exact ⟨(λw hw=>by cases hw),q,sq.pq.t,λt=>by simp only [Mm]; rw [Ms]; grind⟩
  |
   cons w ws =>
   have hwq:w=q:=by
    have w3:(if (U7 p).length<2 then some [] else (chk (Gj (U7 p))).bind λd=>(Qa8 (U7 p) d).bind λh=>(Qa6 (U7 p) h).bind λw=>(Qgm 65 h).bind λl=>some (w::l))=some (w::ws):=w1;have hlen:¬(U7 p).length<2:=λh2=>by
     rw [if_pos h2] at w3;injection w3 with w3;cases w3
    rw [if_neg hlen] at w3;unfold P9 at hq;rw [if_neg hlen] at hq;obtain ⟨d,d1,w3⟩:=Qf.1 w3;obtain ⟨h,d2,w3⟩:=Qf.1 w3;obtain ⟨w',d3,w3⟩:=Qf.1 w3;obtain ⟨l,d4,w3⟩:=Qf.1 w3;rw [d1] at hq;have hq:(Qa8 (U7 p) d).bind (λg=>Qa6 (U7 p) g)=some q:=hq;rw [d2] at hq;have hq:Qa6 (U7 p) h=some q:=hq;rw [d3] at hq;injection hq with hq;injection w3 with w3;injection w3 with w3 _;rw [<-w3,hq]
   subst hwq;have hall:=Qt7 w2;exact ⟨hall,Qnl f2 f3 λv hv=>(hall v hv).1.t⟩
 obtain ⟨ha,E,tE,hE⟩:=hfirst;obtain ⟨o,o1,o2,o3⟩:=Qbz hb (by omega) pp.t pp.n (by omega) fs 0 [1] (Fw E g) rfl rfl (G5 _ _) f3 λt=>by rw [Ms,Fo,sq.e,hE]; grind
 have o3:∀ t,Uw o t=Uw (Mm fs) t:=λt=>by rw [o3,Ms]; grind
 refine ⟨q,o,hq,?_,⟨g,sq⟩,⟨ws,ha,hw⟩,⟨cz E,λt=>by rw [Ux,Ux,Ux,hE,o3]⟩,o2,⟨Fw E g,G5 _ _,λt=>by rw [sq.e,hE,o3,Fo]; grind⟩,?_⟩
 ·unfold Qx6;rw [if_neg pp.n,w1];show (Qmo ws).bind _=_;rw [f1]; exact o1
 ·obtain ⟨S,hS⟩:=Q1h f2;exact ⟨S,λt=>by rw [hw,hS,Quk,o3]⟩
theorem Q0k {s:Nat}:∀ (k:Nat) (a b:List Int),Uz a->Uz b->b.length≠0->b.length<k->b.length<a.length->a.length<=60->Bd s a->Bd s b->(s+8)*3^(a.length-1)<=16777216->(∀ d,O3 d (cz a)->O3 d (cz b)->∃ c:Rat,c≠0/\∀ t,ev d t=c)->∃ l,chF k a b=some (b::l)/\SCl (cz a) (cz b) (l.map cz)
 | 0,_,_,_,_,_,h,_,_,_,_,_,_=>by omega
 |
  k+1,a,b,ta,tb,hb,hk,hab,hl,ba,bb,hs,hd=>by
  obtain ⟨h1,h2,h3,u,v,up,vp,X,hX⟩:=Qi9 ta tb hb hl;have h3:=h3 s ba bb;obtain ⟨m,hm⟩:=nmE (a.length-b.length);have e1:a.length+1-b.length=m+1:=by omega
  rw [e1] at h3;have e2:s+(m+1)*(s+8)+8=(m+2)*(s+8):=by
   rw [show m+2=(m+1)+1 by omega,Z7 (m+1)]; omega
  have e3:(m+2)*(s+8)*3^(b.length-1)<=(s+8)*3^(a.length-1):=by
   rw [show a.length-1=m+(b.length-1) by omega,Xb,<-Xg,Zh (s+8)];exact Q0 _ (Q0 _ (Zkj m (by omega)))
  have e4:s+(m+1)*(s+8)<=16777216:=by
   have:(m+2)*(s+8)<=(m+2)*(s+8)*3^(b.length-1):=Jy _ (Z1 (by decide));omega
  simp only [chF];rw [if_neg hb,Lp (by omega) (Us h3 e4)];show ∃ l,((chF k b (Pd (Ro a b))).bind λl=>some (b::l))=some (b::l)/\_;have lneg:(Pd (Ro a b)).length<=(Ro a b).length:=L6 _;by_cases hr:(Ro a b).length=0
  ·have e:Pd (Ro a b)=[]:=Qi (by omega);rw [e];refine ⟨[],?_,?_⟩
   ·obtain ⟨j,rfl⟩:∃ j,k=j+1:=⟨k-1,by omega⟩;rfl
   ·obtain ⟨c,hc,hcc⟩:=hd (cz b) ⟨C0 (1 / u) X,λt=>by
     have:=hX t;rw [Cy hr] at this;have hu:1 / u*u=1:=Gs up;rw [Ux,Ux,Fy];have:Uw a t=1 / u*(u*Uw a t):=by grind
     rw [this,hX,Cy hr]; grind⟩ (dvd_refl _)
    exact .base hc hcc
  ·have tn:Uz (Pd (Ro a b)):=Ft _ _;have hn0:(Pd (Ro a b)).length≠0:=λh0=>by
    have:=Og (c:=-1) h1 tn (by decide) λt=>by rw [Qeu]; grind
    omega
   obtain ⟨l,i1,i2⟩:=Q0k (s:=s+(m+1)*(s+8)) k b (Pd (Ro a b)) tb tn hn0 (by omega) (by omega) (by omega) (Us bb (by omega)) (Qbn h3) (by rw [e2]; omega) λd d1 d2=>by
    refine hd d ?_ d1;obtain ⟨y,hy⟩:=d1;obtain ⟨z,hz⟩:=d2;have hu:1 / u*u=1:=Gs up;refine ⟨C0 (1 / u) (Tu (Gk X y) (C0 (-v) z)),λt=>?_⟩;have a1:=hX t; have a2:=hy t; have a3:=hz t;rw [Ux] at a2 a3;rw [Qeu] at a3;rw [Ux,Fy,Gg,U3,Fy];have:Uw a t=1 / u*(u*Uw a t):=by grind
    rw [this,a1,a2,show Uw (Ro a b) t=-(ev d t*ev z t) by grind]; grind
   refine ⟨Pd (Ro a b)::l,by rw [i1]; rfl,?_⟩;rw [Z0];exact .step (q:=X) up vp (λt=>by rw [Ux,Ux,Ux,hX,Qeu]; clear i2 i1 hd h3 hs; grind) i2
theorem Qdn (x:Rat):∀ (l:List (List Int)) (n:Nat) (s:Int),(l.foldl (S0 λp=>Gz p x) (n,s)).1=n+tc x s (l.map cz)
 | [],n,s=>rfl
 |
  p::l,n,s=>by
  simp only [Z5,Z0,tc,S0];rw [Bf,Ux]
  split
  ·exact Qdn x l n s
  ·rw [Qdn x l]
   split <;> omega
theorem On (l:List (List Int)) (x:Rat):Bp l x=vv (l.map cz) x:=by
 have:=Qdn x l 0 0;unfold Bp Bn vv;rw [this]; omega
theorem Q72 {n s:Nat} (hz:Szz n (s+73)) {P g q:List Int} (sq:Sqp P g q) (lq:q.length<=n) (bq:Bd (s+69) q):∃ d,chk (Gj q)=some d/\∃ l,chF 66 q (U7 d)=some l/\Stm (cz q) ((q::l).map cz)/\(q.length<2->l=[]):=by
 have hn:=hz.1;have hs:=Zcb hz;have bd:=Qv7 bq (by omega);have ld:=Pn q;refine ⟨Gj q,Lp (by omega) (Us bd (by omega)),?_⟩;have hq0:=sq.pq.n;by_cases h2:q.length<2
 ·have e:U7 (Gj q)=[]:=by rw [Qi (l:=Gj q) (by omega)]; rfl
  rw [e];refine ⟨[],rfl,.inl ⟨1,by decide,λt=>?_,rfl⟩,λ_=>rfl⟩;rw [Ux,sq.pq.one h2,Ms]
 ·have hdnz:(Gj q).length≠0:=λh=>by
   have h1:=Nf q (q.length-2);rw [Qi h,show q.length-2+1=q.length-1 by omega] at h1;have h3:q.getD (q.length-1) 0≠0:=Ho sq.pq.t (by omega);rcases Yt.1 (h1.symm.trans (by simp)) with h4 | h4
   ·exact h3 h4
   ·omega
  obtain ⟨p1,p2,p3,p4,p5,p6,p7⟩:=Be (p:=Gj q) (Ft _ _) hdnz;have hdl:U9 (Gj q)=U9 q*((q.length-1:Nat):Int):=by
   have hld:(Gj q).length=q.length-1:=by
    rcases Za (Gj q).length (q.length-1) with h | h
    ·have h1:=Nf q (q.length-2);rw [Qg,Qt (by omega),show q.length-2+1=q.length-1 by omega] at h1;have h3:q.getD (q.length-1) 0≠0:=Ho sq.pq.t (by omega);rcases Yt.1 (h1.symm.trans (by simp)) with h4 | h4
     ·exact absurd h4 h3
     ·omega
    ·omega
   unfold U9;rw [hld,Nf,show q.length-1-1+1=q.length-1 by omega]
  have hfac:0<G7 (Gj q):=by
   have hlp:0<U9 (Gj q):=by rw [hdl]; exact Int.mul_pos sq.pq.l (by omega)
   have hc:=Qa3 (p:=Gj q) (Ft _ _) hdnz;unfold G7;rw [if_neg (by omega)];unfold So at hc ⊢; omega
  have hfq:((0:Int):Rat)<(G7 (Gj q):Rat):=X9.2 hfac;have hfq:(0:Rat)<(G7 (Gj q):Rat):=by simpa using hfq
  have hff:1 / (G7 (Gj q):Rat)*(G7 (Gj q):Rat)=1:=Gs hfq;have hz2:=hz.2;have hp3:(s+73+8)*3^(q.length-1)<=16777216:=by
   have:(s+73+8)*3^(q.length-1)<=(s+73+8)*3^(n-1):=Zq _ (Zw (by decide) (by omega));rw [Xg] at hz2; omega
  obtain ⟨l,h3,h4⟩:=Q0k (s:=s+73) 66 q (U7 (Gj q)) sq.pq.t p1 (by omega) (by omega) (by omega) (by omega) (Us bq (by omega)) (p5 _ bd) hp3 λd d1 d2=>sq.num d1 (by
   obtain ⟨z,hz⟩:=d2;exact ⟨C0 (G7 (Gj q)) z,λt=>by
    have:=hz t;rw [Ux] at this;rw [Rz,<-If,p7,this,Fy]; grind⟩)
  refine ⟨U7 (Gj q)::l,h3,.inr ⟨cz (U7 (Gj q)),l.map cz,1 / (G7 (Gj q):Rat),Lt (by decide) hfq,λt=>?_,h4,rfl⟩,λh=>absurd h h2⟩;rw [Ux,<-If,p7 t]; grind
theorem chain_ok {n s:Nat} {p:List Int} (h:Okp n s p):∃ q l,P9 p=some q/\Ay p=some (q::l)/\Stm (cz q) ((q::l).map cz)/\(q.length<2->l=[]):=by
 obtain ⟨pp,hl,hb⟩:=h.pr;have hn:=h.z.1;have By:=h.l;obtain ⟨g,q,hq,sq⟩:=Qb9 h;have e1:∀ t,Uw (U7 p) t=Uw q t*Uw g t:=λt=>by rw [sq.e]; grind
 obtain ⟨p1,p2⟩:=Ru pp.t pp.n e1;have hll:=P7 sq.pq.t sq.pg.t pp.t e1 p1 p2;obtain ⟨d,d1,l,d2,d3⟩:=Q72 h.z sq (by omega) (Qam hb (by omega) pp.t sq.pq.t sq.pg.t pp.n e1);refine ⟨q,l,hq,?_,d3⟩;unfold Ay;rw [hq];show (if q.length=0 then none else _)=_;rw [if_neg sq.pq.n,d1];show (chF 66 q (U7 d)).bind _=_;rw [d2]; rfl
structure Gr (D M k:Nat) (q:Rat):Prop where
 u:∃ u:Int,q*((D*2^k:Nat):Rat)=(u:Rat)
 b:U5 q<=(M:Rat)
 d:0<D
theorem nat_pos {n:Nat} (h:0<n):(0:Rat)<(n:Rat):=by
 have:((0:Nat):Rat)<(n:Rat):=Vs.2 h;simpa using this
theorem Qnx {D M k:Nat} {q:Rat} (h:Gr D M k q):Gr D M (k+1) q:=by
 obtain ⟨u,hu⟩:=h.u;refine ⟨⟨u*2,?_⟩,h.b,h.d⟩;rw [Zn,<-Xg]
 push_cast at hu ⊢
 rw [<-hu]; grind
theorem Q9c {D M k:Nat} {a b:Rat} (ha:Gr D M k a) (hb:Gr D M k b):Gr D M (k+1) ((a+b) / 2):=by
 obtain ⟨u,hu⟩:=ha.u;obtain ⟨v,hv⟩:=hb.u;have h2:(a+b) / 2*2=a+b:=Gs (by decide);refine ⟨⟨u+v,?_⟩,?_,ha.d⟩
 ·rw [Zn,<-Xg]
  push_cast at hu hv ⊢
  rw [<-hu,<-hv];generalize (a+b) / 2=c at *;generalize (D:Rat)*2^k=z at *;have:c*(z*2)=(c*2)*z:=by grind
  rw [this,h2]; grind
 ·have h3:=ha.b;have h4:=hb.b;rw [Px] at *;constructor <;> grind
theorem Zj0 {D M k:Nat} {q:Rat} (h:Gr D M k q):q.den<=D*2^k:=by
 obtain ⟨u,hu⟩:=h.u;have hp:0<D*2^k:=J7 h.d (Z1 (by decide));have e:q=Rat.divInt u ((D*2^k:Nat):Int):=by
  rw [<-Hw,<-hu];have hz:=nat_pos hp;rw [show ((((D*2^k:Nat):Int)):Rat)=((D*2^k:Nat):Rat) from rfl];rw [Jq];have:=W4 ((D*2^k:Nat):Rat) (by grind);generalize ((D*2^k:Nat):Rat)=z at *;have:q*z*z⁻¹=q*(z*z⁻¹):=by grind
  rw [this,‹z*z⁻¹=1›]; grind
 rw [e,Wv,if_neg (by omega),Z9];exact J3 _ _
theorem Qlb {a b k:Nat} {z:Int} (h:z.natAbs<=a*(b*2^k)):U6 z<=U6 (a:Int)+U6 (b:Int)+k:=by
 have h1:U6 (a:Int)<=U6 (a:Int):=Ql _;have h2:U6 (b:Int)<=U6 (b:Int):=Ql _;rw [Tz] at h1 h2 ⊢;rw [Z9] at h1 h2;rw [Xb,Xb];have h3:a*b<2^U6 (a:Int)*2^U6 (b:Int):=Nat.mul_lt_mul_of_lt_of_le h1 (Yh h2) (Z1 (by decide));have h4:=Xn h3 (show 0<2^k from Z1 (by decide));rw [<-Xg] at h; omega
theorem Q07 {D M k B:Nat} {q:Rat} (h:Gr D M k q) (hM:0<M) (hs:U6 (D:Int)+U6 (M:Int)+k<=B):Qs B q:=by
 have hd:=Zj0 h;have hden:=nat_pos q.den_pos;have h1:(q.num.natAbs:Rat)<=((M*(D*2^k):Nat):Rat):=by
  have e:(q.num:Rat)=q*(q.den:Rat):=by
   have:(q.num:Rat) / (((q.den:Int)):Rat)=q:=by rw [Hw,Z2]
   have h2:(q.num:Rat) / (q.den:Rat)*(q.den:Rat)=q.num:=Zk (by grind);rw [show (q.num:Rat) / (q.den:Rat)=q from this] at h2; exact h2.symm
  rw [<-Tw,e];have h3:=Gp (x:=q) (y:=(q.den:Rat)) (b:=((D*2^k:Nat):Rat)) h.b (by
   have:U5 (q.den:Rat)=(q.den:Rat):=by unfold U5; rw [if_neg (by grind)]
   rw [this]; exact Zg.2 hd)
  push_cast at h3 ⊢; exact h3
 have h1:=Zg.1 h1;refine ⟨?_,?_⟩
 ·have:=Qlb (z:=q.num) h1; omega
 ·have:=Qlb (z:=(q.den:Int)) (a:=M) (b:=D) (k:=k) (by
   rw [Z9];exact Qc hd (Nat.le_mul_of_pos_left _ hM))
  omega
theorem Qxw (a b:Rat):mid a b=(a+b) / 2:=by
 unfold mid;rw [<-Hw];have ha:(a.num:Rat)=a*(a.den:Rat):=by
  have:(a.num:Rat) / (((a.den:Int)):Rat)=a:=by rw [Hw,Z2]
  have h2:(a.num:Rat) / (a.den:Rat)*(a.den:Rat)=a.num:=Zk (by have:=nat_pos a.den_pos; grind);rw [show (a.num:Rat) / (a.den:Rat)=a from this] at h2; exact h2.symm
 have hb:(b.num:Rat)=b*(b.den:Rat):=by
  have:(b.num:Rat) / (((b.den:Int)):Rat)=b:=by rw [Hw,Z2]
  have h2:(b.num:Rat) / (b.den:Rat)*(b.den:Rat)=b.num:=Zk (by have:=nat_pos b.den_pos; grind);rw [show (b.num:Rat) / (b.den:Rat)=b from this] at h2; exact h2.symm
 have pa:=nat_pos a.den_pos;have pb:=nat_pos b.den_pos;rw [Ko,Xj,Xj,Xj,Xj,ha,hb];rw [show (((a.den:Int)):Rat)=(a.den:Rat) from rfl,show (((b.den:Int)):Rat)=(b.den:Rat) from rfl,show (((2:Int)):Rat)=2 from rfl];generalize (a.den:Rat)=x at *;generalize (b.den:Rat)=y at *;have hxy:=Aj (Aj pa pb) (show (0:Rat)<2 by decide);have h1:(a*x*y+b*y*x) / (x*y*2)*(x*y*2)=a*x*y+b*y*x:=Gs hxy;have h2:(a+b) / 2*2=a+b:=Gs (by decide);generalize (a*x*y+b*y*x) / (x*y*2)=c at *;generalize (a+b) / 2=d at *;have h3:(x*y*2)*(c-d)=0:=by grind
 rcases Yw.1 h3 with h4 | h4 <;> grind
theorem Qjb (a b:Rat):Ql4 a b=a-b:=by
 unfold Ql4;rw [Rat.sub_def',<-Rat.divInt_ofNat]
 push_cast; rfl
theorem Q0p {a b:Rat}:Gq a b=0↔a=b:=by
 constructor
 ·intro h;have h1:¬a<b:=λh'=>by have:=Nq.2 h'; omega
  have h2:¬b<a:=λh'=>by have:=Cq.2 h'; omega
  grind
 ·intro h; subst h; exact B8 a
theorem Cu {a b:Rat}:Gq a b<=0↔a<=b:=by
 constructor
 ·intro h;have h2:¬b<a:=λh'=>by have:=Cq.2 h'; omega
  grind
 ·intro h;have h2:¬0<Gq a b:=λh'=>by have:=Cq.1 h'; grind
  omega
theorem Qit {a b:Rat}:0<=Gq a b↔b<=a:=by
 constructor
 ·intro h;have h2:¬a<b:=λh'=>by have:=Nq.2 h'; omega
  grind
 ·intro h;have h2:¬Gq a b<0:=λh'=>by have:=Nq.1 h'; grind
  omega
theorem Tx (a b:Rat):Gq a b=1/\b<a\/Gq a b=0/\a=b\/Gq a b=-1/\a<b:=by
 have hb:=I4 a b;rcases (show Gq a b=1\/Gq a b=0\/Gq a b=-1 by omega) with h | h | h
 ·exact .inl ⟨h,Cq.1 (by omega)⟩
 ·exact .inr (.inl ⟨h,Q0p.1 h⟩)
 ·exact .inr (.inr ⟨h,Nq.1 (by omega)⟩)
theorem Qt6 (p:List Int) (x:Rat):low p x=Sy (cz p) x:=by
 unfold low Sy;rw [Bf,Bf,Ux,If]
theorem Ns {t:Tm} (h:t.lo<t.hi) (q:Rat):Fe t q=cq (cz t.p) t.lo t.hi q:=by
 have hp:t.point=false:=by
  unfold Tm.point;have:¬0<=Gq t.lo t.hi:=λh'=>by have:=Qit.1 h'; grind
  simp [this]
 unfold Fe cq;rw [hp,if_neg (by decide)];have e1:(Gq q t.lo<=0)=(q<=t.lo):=propext Cu;have e2:(0<Gq q t.hi)=(t.hi<q):=propext Cq;rw [Bf,Qt6,<-Ux];simp only [e1,e2]
theorem Ng {t:Tm}:t.point=true↔t.hi<=t.lo:=by
 unfold Tm.point;rw [decide_eq_true_iff]; exact Qit
theorem Es {t:Tm} (h:t.lo=t.hi) (q:Rat):Fe t q=Gq t.lo q:=by
 have hp:t.point=true:=Ng.2 (by rw [h]; exact Qp);unfold Fe; rw [if_pos hp]
theorem Zjl {c:Rat->Int} {x:Rat} (h:∀ q,c q=Gq x q):Cut c where
 val q:=by rw [h]; have:=I4 x q; omega
 mono q r hqr h1:=by
  rw [h] at h1 ⊢;rcases Tx x q with ⟨e,e'⟩ | ⟨e,e'⟩ | ⟨e,e'⟩
  ·exact absurd e h1
  ·rcases Tx x r with ⟨f,f'⟩ | ⟨f,f'⟩ | ⟨f,f'⟩ <;> grind
  ·rcases Tx x r with ⟨f,f'⟩ | ⟨f,f'⟩ | ⟨f,f'⟩ <;> grind
 up q h1:=by
  rw [h] at h1;have h2:=Cq.1 (show 0<Gq x q by omega);have h3:(x+q) / 2*2=x+q:=Gs (by decide);have h4:=Cq.2 (show (x+q) / 2<x by grind);have:=I4 x ((x+q) / 2);exact ⟨(x+q) / 2,by grind,by rw [h]; omega⟩
 dn q h1:=by
  rw [h] at h1;have h2:=Nq.1 (show Gq x q<0 by omega);have h3:(x+q) / 2*2=x+q:=Gs (by decide);have h4:=Nq.2 (show x<(x+q) / 2 by grind);have:=I4 x ((x+q) / 2);exact ⟨(x+q) / 2,by grind,by rw [h]; omega⟩
 lo:=⟨x-1,by
  rw [h];have h4:=Cq.2 (show x-1<x by grind);have:=I4 x (x-1); omega⟩
 hi:=⟨x+1,by
  rw [h];have h4:=Nq.2 (show x<x+1 by grind);have:=I4 x (x+1); omega⟩
structure Va (t:Tm):Prop where
 i:t.lo=t.hi/\Uw t.p t.lo=0\/∃ L,Vt (cz t.p) L t.lo t.hi
 tr:Uz t.p
 n:t.p.length<=9
 n2:2<=t.p.length
 b:Bd 1000000 t.p
 bi:t.point=false->Bd 1000 t.p
 g:∃ D M k,Gr D M k t.lo/\Gr D M k t.hi/\0<M/\U6 (D:Int)+U6 (M:Int)+k<=1000000
theorem Va.le {t:Tm} (h:Va t):t.lo<=t.hi:=by
 rcases h.i with ⟨e,_⟩ | ⟨L,V⟩
 ·rw [e]; exact Qp
 ·exact Qq V.l
theorem Va.pt {t:Tm} (h:Va t) (hp:t.point=true):t.lo=t.hi/\Uw t.p t.lo=0:=by
 rcases h.i with e | ⟨L,V⟩
 ·exact e
 ·have:=Ng.1 hp;have:=V.l;grind
theorem Va.iv {t:Tm} (h:Va t) (hp:t.point=false):∃ L,Vt (cz t.p) L t.lo t.hi:=by
 rcases h.i with ⟨e,_⟩ | h
 ·have:=Ng.2 (show t.hi<=t.lo by rw [e]; exact Qp);rw [hp] at this; cases this
 ·exact h
theorem Va.cut {t:Tm} (h:Va t):Cut (Fe t):=by
 rcases h.i with ⟨e,_⟩ | ⟨L,V⟩
 ·exact Zjl (x:=t.lo) λq=>Es e q
 ·have:Fe t=cq (cz t.p) t.lo t.hi:=funext λq=>Ns V.l q
  rw [this]; exact V.cut
theorem Zle {c:Rat->Int} (hc:Cut c) {p:List Rat} {x:Rat} (h:c x=0) (h0:ev p x=0):Aq p c:=by
 rcases Qbj hc p with h1 | ⟨s,hs,h1⟩
 ·exact h1
 ·have:=Quj hc h h1;rw [Fu.2 h0] at this; exact absurd this.symm hs
theorem Va.van {t:Tm} (h:Va t):Aq (cz t.p) (Fe t):=by
 have hc:=h.cut;rcases h.i with ⟨e,h0⟩ | ⟨L,V⟩
 ·exact Zle hc (x:=t.lo) (by rw [Es e,B8]) (by rw [Ux]; exact h0)
 ·have:Fe t=cq (cz t.p) t.lo t.hi:=funext λq=>Ns V.l q
  rw [this]; exact V.van
theorem Va.qs {t:Tm} (h:Va t):Qs 1000000 t.lo/\Qs 1000000 t.hi:=by
 obtain ⟨D,M,k,h1,h2,h3,h4⟩:=h.g;exact ⟨Q07 h1 h3 h4,Q07 h2 h3 h4⟩
theorem Va.tb {t:Tm} (h:Va t):Tb t:=⟨⟨h.tr,by have:=h.n; omega,Us h.b (by omega)⟩,h.qs.1.mono (t:=16777216) (by omega),h.qs.2.mono (t:=16777216) (by omega)⟩
structure Hv (t:Tm) (D M k:Nat) (u:Tm):Prop where
 p:u.p=t.p
 i:u.lo=u.hi/\Uw u.p u.lo=0\/∃ L,Vt (cz u.p) L u.lo u.hi
 c:∀ q,Fe u q=Fe t q
 l:Gr D M k u.lo
 h:Gr D M k u.hi
theorem Qs9 {c:Rat->Int} (hc:Cut c) {x:Rat} (h:c x=0) (q:Rat):c q=Gq x q:=by
 rcases Tx x q with ⟨e,e'⟩ | ⟨e,e'⟩ | ⟨e,e'⟩
 ·rw [e]; exact hc.mono' e' (by omega)
 ·rw [e,<-e',h]
 ·rw [e]; exact hc.mono x q e' (by omega)
theorem Qqg {t u:Tm} {D M k:Nat} (hu:Hv t D M k u) (hM:0<M) (hs:U6 (D:Int)+U6 (M:Int)+(k+1)<=16777216):∃ v,Qqf u=some v/\Hv t D M (k+1) v/\v.hi-v.lo<=(u.hi-u.lo) / 2/\u.lo<=v.lo/\v.hi<=u.hi:=by
 have h2:∀ x:Rat,x / 2*2=x:=λx=>Gs (by decide)
 unfold Qqf;rcases hu.i with ⟨e,h0⟩ | ⟨L,V⟩
 ·have hp:u.point=true:=Ng.2 (by rw [e]; exact Qp);rw [if_pos hp];refine ⟨u,rfl,⟨hu.p,hu.i,hu.c,Qnx hu.l,Qnx hu.h⟩,?_,Qp,Qp⟩;rw [e]; have:=h2 (u.hi-u.hi); grind
 ·have hp:u.point=false:=by
   have:¬u.point=true:=λh=>by have:=Ng.1 h; have:=V.l; grind
   simpa using this
  rw [hp,if_neg (by decide)];obtain ⟨m,hm⟩:=nmE ((u.lo+u.hi) / 2);have hmg:Gr D M (k+1) m:=by rw [hm]; exact Q9c hu.l hu.h
  have hmm:=h2 (u.lo+u.hi);rw [<-hm] at hmm;have hl:=V.l;have hl1:u.lo<m:=by grind
  have hl2:m<u.hi:=by grind
  have hch:chq (mid u.lo u.hi)=some m:=by
   rw [Qxw,<-hm];have:=Q07 hmg hM hs;unfold chq;rw [if_pos ⟨this.1,this.2⟩]
  have hcm:mid u.lo u.hi=m:=by rw [Qxw,<-hm]
  rw [hch];show ∃ v,some (if Fe u m=0 then (⟨u.p,m,m⟩:Tm) else if Fe u m=-1 then ⟨u.p,u.lo,m⟩ else ⟨u.p,m,u.hi⟩)=some v/\_;have hw:=h2 (u.hi-u.lo);have hcu:=Ns hl;have hcut:=V.cut;have hcut':Cut (Fe u):=by rw [show Fe u=cq (cz u.p) u.lo u.hi from funext hcu]; exact hcut
  by_cases c0:Fe u m=0
  ·rw [if_pos c0];have hz:Uw u.p m=0:=by
    have:=Qha hcut (q:=m) (by rw [<-hcu]; exact c0) V.van;rwa [Ux] at this
   refine ⟨_,rfl,⟨hu.p,.inl ⟨rfl,hz⟩,λq=>?_,hmg,hmg⟩,by show m-m<=_; grind,by show u.lo<=m; grind,by show m<=u.hi; grind⟩;rw [Es rfl,<-hu.c];exact (Qs9 hcut' c0 q).symm
  ·rw [if_neg c0];by_cases c1:Fe u m=-1
   ·rw [if_pos c1];have hv:vv L m=vv L u.hi:=V.eq_hi hl1 (Qq hl2) (by rw [<-hcu,c1]; decide);have V':Vt (cz u.p) L u.lo m:=⟨V.s,hl1,by rw [hv]; exact V.v⟩;refine ⟨_,rfl,⟨hu.p,.inr ⟨L,V'⟩,λq=>?_,Qnx hu.l,hmg⟩,by show m-u.lo<=_; grind,Qp,by show m<=u.hi; grind⟩;rw [Ns hl1,<-hu.c,hcu];exact V.uniq V'.cut (Lq Qp) (by rw [Qd2 hl1 hl2]; decide) V'.van q
   ·rw [if_neg c1];have c2:Fe u m=1:=by rcases hcut'.val m with h | h | h <;> omega
    have hv:vv L m=vv L u.lo:=V.eq_lo hl1 (Qq hl2) (by rw [<-hcu]; exact c2);have V':Vt (cz u.p) L m u.hi:=⟨V.s,hl2,by rw [hv]; exact V.v⟩;refine ⟨_,rfl,⟨hu.p,.inr ⟨L,V'⟩,λq=>?_,hmg,Qnx hu.h⟩,by show u.hi-m<=_; grind,by show u.lo<=m; grind,Qp⟩;rw [Ns hl2,<-hu.c,hcu];exact V.uniq V'.cut (Lq (by grind)) V'.hi1 V'.van q
def Pj (a b:Tm):Prop:=∃ q,Fe a q=-1/\Fe b q=1
def TEq (a b:Tm):Prop:=∀ q,Fe a q=Fe b q
theorem tri {a b:Tm} (ha:Cut (Fe a)) (hb:Cut (Fe b)):Pj a b\/TEq a b\/Pj b a:=by
 rcases Classical.em (TEq a b) with h | h
 ·exact .inr (.inl h)
 ·obtain ⟨q,hq⟩:=Classical.not_forall.1 h;obtain ⟨r,⟨h1,h2⟩ | ⟨h1,h2⟩⟩:=Qs8 ha hb hq
  ·exact .inl ⟨r,h1,h2⟩
  ·exact .inr (.inr ⟨r,h2,h1⟩)
theorem Qda {a b:Tm} (ha:Cut (Fe a)) (hb:Cut (Fe b)) (h:Pj a b) (h':Pj b a):False:=by
 obtain ⟨q,q1,q2⟩:=h;obtain ⟨r,r1,r2⟩:=h';have:=ha.lt r2 q1;have:=hb.lt q2 r1;grind
theorem Qu3 {p:List Int} (k:Nat):(p.getD k 0).natAbs<=2^Gm p:=by
 have h:U6 (p.getD k 0)<=Gm p:=by
  have key:∀ (l:List Int) (n:Nat),n≤l.foldl (λn z=>max n (U6 z)) n/\∀ z∈l,U6 z≤l.foldl (λn z=>max n (U6 z)) n:=by
   intro l
   induction l with
   | nil=>exact λn=>⟨Ql _,λz hz=>by cases hz⟩
   |
    cons y l ih =>
    intro n;obtain ⟨i1,i2⟩:=ih (max n (U6 y));refine ⟨by simp only [Z5]; omega,λz hz=>?_⟩;simp only [Z5];rcases Qo.1 hz with rfl | hz
    ·omega
    ·exact i2 z hz
  exact U8 (s:=Gm p) (λz hz=>(key p 0).2 z hz) k
 rw [Tz] at h; omega
theorem Zh1 {s:Nat}:∀ (B:List Int),(∀ z∈B,z.natAbs≤2^s)->gB B≤2^(s+(B.length-1))
 | [],_=>Qh _
 |
  c::B,h=>by
  have h1:=h c (Qx ..);have h2:=Zh1 B λz hz=>h z (Qj _ hz)
  simp only [gB,Q7,Jn];have h3:2^s<=2^(s+B.length):=Zw (by decide) (by omega);cases B with
  | nil=>simp only [gB,Vk] at *; omega
  |
   cons d B =>
   have h4:2^(s+(d::B).length)=2*2^(s+((d::B).length-1)):=by
    rw [Zh,<-Zn]; congr 1
   rw [h4]; omega
def Tk (A B:List Int):Nat:=(Gm A+Gm B+(A.length+B.length)+8)*(2*(A.length+B.length-2)-1)
theorem Q8y {A B:List Int} (tA:Uz A) (tB:Uz B) (nA:A.length<=9) (nB:B.length<=9) (lA:2<=A.length) (lB:2<=B.length) {R d:Rat} (hR:1<=R) (dp:0<d)
 (hs:∀ e:Rat,0<e->∃ q r,U5 q<=R/\U5 r<=R/\d<=U5 (q-r)/\U5 (q-r)*((2^(Tk A B+1):Nat):Rat)<=1/\U5 (Uw A q)<e/\U5 (Uw B r)<e):False:=by
 obtain ⟨a,ha⟩:∃ a,A.length=a+1:=⟨A.length-1,by omega⟩;obtain ⟨b,hb⟩:∃ b,B.length=b+1:=⟨B.length-1,by omega⟩;obtain ⟨s,hsd⟩:=nmE (Gm A+Gm B+b);obtain ⟨N,hN⟩:∃ N,b*(2*(a*b))+a*(2*(a*b)-b)=N:=⟨_,rfl⟩;have hNt:N<=2^(a+9):=by
  rw [<-hN];have hab:∀ a b:Fin 9,b.1*(2*(a.1*b.1))+a.1*(2*(a.1*b.1)-b.1)<=2^(a.1+9):=by decide
  exact hab ⟨a,by omega⟩ ⟨b,by omega⟩
 have hK:Tk A B=(s+a+10)*(2*(a+b-1)+1):=by
  unfold Tk;rw [ha,hb,hsd,show a+1+(b+1)-2=a+b by omega,show 2*(a+b)-1=2*(a+b-1)+1 by omega];congr 1; omega
 have h0A:A.getD a 0≠0:=by have:=Ho tA (by omega); rwa [ha] at this
 have h0B:B.getD b 0≠0:=by have:=Ho tB (by omega); rwa [hb] at this
 have hp:∀ m,1<=2^m:=λm=>Z1 (by decide)
 refine Zjw (N:=N) (D:=2^(Tk A B-1)) ha hb h0A h0B (by omega) (by omega) (h:=2^s) (hp s) (λk=>Qc (Qu3 k) (Zw (by decide) (by omega))) ?_ hN ?_ hR dp λe ep=>?_
 ·refine Qc (Zh1 (s:=Gm B) B λz hz=>?_) (Zw (by decide) (by omega));obtain ⟨i,hi⟩:=Zd.1 hz;have:=Qu3 (p:=B) i;rwa [Qg,hi] at this
 ·have h1:2*(N*2^s)<=2^(s+a+10):=by
   have:N*2^s<=2^(a+9)*2^s:=Q0 _ hNt;rw [<-Xb] at this;rw [show s+a+10=(a+9+s)+1 by omega,Zn]; omega
  have h2:N*2^s<=2^(s+a+9):=by
   rw [show s+a+9=(a+9)+s by omega,Xb]; exact Q0 _ hNt
  have h3:=Nat.pow_le_pow_left h1 (2*(a+b-1));have h4:=Zf h2 h3;rw [<-Uq,<-Xb] at h4;rw [<-Xg];refine Qc h4 (Zw (by decide) ?_);rw [hK,Xk,Yq]; omega
 ·obtain ⟨q,r,h1,h2,h3,h4,h5,h6⟩:=hs e ep;refine ⟨q,r,h1,h2,h3,?_,h5,h6⟩;have hK1:1<=Tk A B:=by
   rw [hK]; exact J7 (by omega) (by omega)
  have e1:2^(Tk A B+1)=4*2^(Tk A B-1):=by
   obtain ⟨m,hm⟩:∃ m,Tk A B=m+1:=⟨Tk A B-1,by omega⟩;rw [hm,Jn,Zn,Zn]; omega
  rw [e1] at h4
  push_cast at h4 ⊢
  exact h4
theorem Hv.lo' {t:Tm} {D M k:Nat} {u:Tm} (h:Hv t D M k u):Fe t u.lo=1\/Fe t u.lo=0/\u.lo=u.hi:=by
 rw [<-h.c];rcases h.i with ⟨e,_⟩ | ⟨L,V⟩
 ·exact .inr ⟨by rw [Es e,B8],e⟩
 ·exact .inl (by rw [Ns V.l]; exact Lq Qp)
theorem Hv.hi' {t:Tm} {D M k:Nat} {u:Tm} (h:Hv t D M k u):Fe t u.hi=0\/Fe t u.hi=-1:=by
 rw [<-h.c];rcases h.i with ⟨e,_⟩ | ⟨L,V⟩
 ·exact .inl (by rw [Es e,e,B8])
 ·rw [Ns V.l];have:=V.hi1;rcases V.cut.val u.hi with h | h | h <;> omega
theorem Hv.le {t:Tm} {D M k:Nat} {u:Tm} (h:Hv t D M k u):u.lo<=u.hi:=by
 rcases h.i with ⟨e,_⟩ | ⟨L,V⟩
 ·rw [e]; exact Qp
 ·exact Qq V.l
theorem Q8z {a b:Tm} (ha:Va a) (hb:Va b) {D M k D' M' k':Nat} {u v:Tm} (hu:Hv a D M k u) (hv:Hv b D' M' k' v) (h:Pj a b):1<(v.hi-u.lo)*((2^(Tk a.p b.p+1):Nat):Rat):=by
 rcases Fh ((v.hi-u.lo)*((2^(Tk a.p b.p+1):Nat):Rat)) 1 with hw | hw
 ·exfalso;have ca:=ha.cut;have cb:=hb.cut;obtain ⟨m,m1,m2⟩:=h;obtain ⟨m',hm',m3⟩:=ca.dn m m1;have hpow:(0:Rat)<=((2^(Tk a.p b.p+1):Nat):Rat):=Xh;obtain ⟨R,hR⟩:=nmE (U5 u.lo+U5 m'+U5 m+U5 v.hi+1);have n1:=Hk u.lo; have n2:=Hk m'; have n3:=Hk m; have n4:=Hk v.hi;refine Q8y (R:=R) (d:=m-m') ha.tr hb.tr ha.n hb.n ha.n2 hb.n2 (by grind) (by grind) λe ep=>?_
  obtain ⟨q,q1,q2,q3⟩:∃ q,u.lo<=q/\q<=m'/\U5 (Uw a.p q)<e:=by
   rcases hu.lo' with h1 | ⟨h1,_⟩
   ·obtain ⟨x,y,hx,hy,hq⟩:=ha.van e ep;rcases Fh x u.lo with e1 | e1
    ·exact ⟨u.lo,Qp,Qq (ca.lt h1 m3),by rw [<-Ux]; exact hq u.lo e1 (Qq (ca.lt h1 hy))⟩
    ·exact ⟨x,Qq e1,Qq (ca.lt hx m3),by rw [<-Ux]; exact hq x Qp (Qq (ca.lt hx hy))⟩
   ·refine ⟨u.lo,Qp,?_,by rw [<-Ux,Qha ca h1 ha.van,H5]; exact ep⟩;rcases Fh u.lo m' with e1 | e1
    ·exact e1
    ·have:=ca.mono m' u.lo e1 (by omega); omega
  obtain ⟨r,r1,r2,r3⟩:∃ r,r<=v.hi/\m<=r/\U5 (Uw b.p r)<e:=by
   rcases hv.hi' with h1 | h1
   ·refine ⟨v.hi,Qp,?_,by rw [<-Ux,Qha cb h1 hb.van,H5]; exact ep⟩;rcases Fh m v.hi with e1 | e1
    ·exact e1
    ·have:=cb.mono v.hi m e1 (by omega); omega
   ·obtain ⟨x,y,hx,hy,hq⟩:=hb.van e ep;rcases Fh v.hi y with e1 | e1
    ·exact ⟨v.hi,Qp,Qq (cb.lt m2 h1),by rw [<-Ux]; exact hq v.hi (Qq (cb.lt hx h1)) e1⟩
    ·exact ⟨y,Qq e1,Qq (cb.lt m2 hy),by rw [<-Ux]; exact hq y (Qq (cb.lt hx hy)) Qp⟩
  have e1:U5 (q-r)=r-q:=by unfold U5; split <;> grind
  have b1:U5 q<=R:=by
   have:=Qee (R:=R) (x:=u.lo) (y:=m') (t:=q) (by grind) (by grind) q1 q2; exact this
  have b2:U5 r<=R:=by
   have:=Qee (R:=R) (x:=m) (y:=v.hi) (t:=r) (by grind) (by grind) r2 r1; exact this
  refine ⟨q,r,b1,b2,by rw [e1]; grind,?_,q3,r3⟩;rw [e1];have:=Q8 (show r-q<=v.hi-u.lo by grind) hpow;exact Ze this hw
 ·exact hw
theorem Qsm {a b:Tm} (ha:Va a) (hb:Va b) {D M k D' M' k':Nat} {u v:Tm} (hu:Hv a D M k u) (hv:Hv b D' M' k' v) (hne:¬TEq a b) (h:C5 u v=true):Pj a b:=by
 have h1:=(of_decide_eq_true h).1;have h1:=Cu.1 h1;rcases tri ha.cut hb.cut with h2 | h2 | ⟨m,m1,m2⟩
 ·exact h2
 ·exact absurd h2 hne
 ·exfalso;have e1:m<u.hi:=by
   rcases Fh u.hi m with e | e
   ·rcases Classical.em (u.hi=m) with e' | e'
    ·have:=hu.hi'; rw [e'] at this; omega
    ·have:=ha.cut.mono u.hi m (by grind) (by have:=hu.hi'; omega); omega
   ·exact e
  have e2:v.lo<m:=by
   rcases Fh m v.lo with e | e
   ·rcases Classical.em (m=v.lo) with e' | e'
    ·have:=hv.lo'; rw [<-e'] at this; omega
    ·have:=hb.cut.mono m v.lo (by grind) (by omega);have:=hv.lo'; omega
   ·exact e
  grind
theorem Q12 {a b:Tm} (ha:Va a) (hb:Va b) {D M k D' M' k':Nat} {u v:Tm} (hu:Hv a D M k u) (hv:Hv b D' M' k' v) (hlt:Pj a b) (h:C5 u v≠true):v.lo<=u.hi:=by
 rcases Fh v.lo u.hi with e | e
 ·exact e
 ·refine absurd (decide_eq_true ⟨Cu.2 (Qq e),λh'=>?_⟩) h;have:=Q0p.1 h'.2; grind
theorem Quz (m:Nat):((2^(m+1):Nat):Rat)=2*((2^m:Nat):Rat):=by rw [Zn]; push_cast; grind
def Zim (a b:Tm) (r:Tm×Tm×Int):Prop:=r.2.2=-1/\Pj a b\/r.2.2=1/\Pj b a
theorem Q4j (A B:List Int):Tk A B=Tk B A:=by unfold Tk; rw [Nat.add_comm A.length,Nat.add_comm (Gm A)]
theorem Zlu {a b:Tm} (ha:Va a) (hb:Va b) (hne:¬TEq a b) {D M D' M':Nat} (hM:0<M) (hM':0<M'):∀ (i j:Nat) (u v:Tm) (k k':Nat) (W:Rat),2*i+1<=j->Hv a D M k u->Hv b D' M' k' v->U6 (D:Int)+U6 (M:Int)+(k+j)<=16777216->U6 (D':Int)+U6 (M':Int)+(k'+j)<=16777216->u.hi-u.lo<=W->v.hi-v.lo<=W->2*W*((2^(Tk a.p b.p+1):Nat):Rat)<=((2^i:Nat):Rat)->∃ r,apF j u v=some r/\Zim a b r:=by
 intro i;have step:∀ (j:Nat) (u v:Tm) (k k':Nat),Hv a D M k u->Hv b D' M' k' v->U6 (D:Int)+U6 (M:Int)+(k+(j+1))<=16777216->U6 (D':Int)+U6 (M':Int)+(k'+(j+1))<=16777216->(∃ r,apF (j+1) u v=some r/\Zim a b r)\/(C5 u v≠true/\C5 v u≠true/\∃ u' v' k1 k1',apF (j+1) u v=apF j u' v'/\Hv a D M k1 u'/\Hv b D' M' k1' v'/\k1<=k+1/\k1'<=k'+1/\(v.hi-v.lo<=u.hi-u.lo/\u'.hi-u'.lo<=(u.hi-u.lo) / 2/\v'=v\/u.hi-u.lo<=v.hi-v.lo/\v'.hi-v'.lo<=(v.hi-v.lo) / 2/\u'=u)):=by
  intro j u v k k' hu hv hs hs';by_cases h1:C5 u v=true
  ·exact .inl ⟨(u,v,-1),by simp only [apF]; rw [if_pos h1],.inl ⟨rfl,Qsm ha hb hu hv hne h1⟩⟩
  by_cases h2:C5 v u=true
  ·exact .inl ⟨(u,v,1),by simp only [apF]; rw [if_neg h1,if_pos h2],.inr ⟨rfl,Qsm hb ha hv hu (λh=>hne λq=>(h q).symm) h2⟩⟩
  refine .inr ⟨h1,h2,?_⟩;by_cases h3:0<=Gq (Ql4 u.hi u.lo) (Ql4 v.hi v.lo)
  ·obtain ⟨x,x1,x2,x3,_⟩:=Qqg hu hM (by omega);refine ⟨x,v,k+1,k',?_,x2,hv,by omega,by omega,.inl ⟨?_,x3,rfl⟩⟩
   ·simp only [apF]; rw [if_neg h1,if_neg h2,if_pos h3,x1]; rfl
   ·have:=Qit.1 h3; rwa [Qjb,Qjb] at this
  ·obtain ⟨x,x1,x2,x3,_⟩:=Qqg hv hM' (by omega);refine ⟨u,x,k,k'+1,?_,hu,x2,by omega,by omega,.inr ⟨?_,x3,rfl⟩⟩
   ·simp only [apF]; rw [if_neg h1,if_neg h2,if_neg h3,x1]; rfl
   ·rcases Fh (u.hi-u.lo) (v.hi-v.lo) with e | e
    ·exact e
    ·refine absurd (Qit.2 ?_) h3;rw [Qjb,Qjb]; exact Qq e
 induction i with
 |
  zero =>
  intro j u v k k' W hj hu hv hs hs' hW hW' hK;obtain ⟨j,rfl⟩:∃ m,j=m+1:=⟨j-1,by omega⟩;rcases step j u v k k' hu hv hs hs' with h | ⟨h1,h2,_⟩
  ·exact h
  ·exfalso;have hpow:(0:Rat)<=((2^(Tk a.p b.p+1):Nat):Rat):=Xh;rw [Vd] at hK;rcases tri ha.cut hb.cut with h3 | h3 | h3
   ·have h4:=Q12 ha hb hu hv h3 h1;have h5:=Q8z ha hb hu hv h3;have h6:=Q8 (show v.hi-u.lo<=2*W by clear step; grind) hpow;have h7:((1:Nat):Rat)=1:=rfl;rw [h7] at hK;clear step; grind
   ·exact hne h3
   ·have h4:=Q12 hb ha hv hu h3 h2;have h5:=Q8z hb ha hv hu h3;rw [Q4j] at h5;have h6:=Q8 (show u.hi-v.lo<=2*W by clear step; grind) hpow;have h7:((1:Nat):Rat)=1:=rfl;rw [h7] at hK;clear step; grind
 |
  succ i ih =>
  intro j u v k k' W hj hu hv hs hs' hW hW' hK;obtain ⟨j,rfl⟩:∃ m,j=m+2:=⟨j-2,by omega⟩;have hd:∀ x:Rat,x / 2*2=x:=λx=>Gs (by decide)
  rcases step (j+1) u v k k' hu hv hs hs' with h | ⟨_,_,u1,v1,k1,k1',e1,hu1,hv1,hk1,hk1',hw1⟩
  ·exact h
  ·rw [e1];rcases step j u1 v1 k1 k1' hu1 hv1 (by omega) (by omega) with h | ⟨_,_,u2,v2,k2,k2',e2,hu2,hv2,hk2,hk2',hw2⟩
   ·exact h
   ·rw [e2];have a1:=hd (u.hi-u.lo); have a2:=hd (v.hi-v.lo); have a3:=hd (u1.hi-u1.lo); have a4:=hd (v1.hi-v1.lo); have a5:=hd W;have b1:=hu.le; have b2:=hv.le; have b3:=hu1.le; have b4:=hv1.le; have b5:=hu2.le; have b6:=hv2.le;have hww:u2.hi-u2.lo<=W / 2/\v2.hi-v2.lo<=W / 2:=by
     clear step ih;rcases hw1 with ⟨c1,c2,rfl⟩ | ⟨c1,c2,rfl⟩ <;> rcases hw2 with ⟨d1,d2,rfl⟩ | ⟨d1,d2,rfl⟩ <;> constructor <;> grind
    refine ih j u2 v2 k2 k2' (W / 2) (by omega) hu2 hv2 (by omega) (by omega) hww.1 hww.2 ?_;rw [Quz i] at hK;have:2*(W / 2)*((2^(Tk a.p b.p+1):Nat):Rat)*2=2*W*((2^(Tk a.p b.p+1):Nat):Rat):=by clear step ih hw1 hw2; grind
    clear step ih hw1 hw2; grind
def CmpOk (a b:Tm) (c:Int):Prop:=c=-1/\Pj a b\/c=0/\TEq a b\/c=1/\Pj b a
theorem Va.hv0 {t:Tm} (h:Va t):∃ D M k,Hv t D M k t/\0<M/\U6 (D:Int)+U6 (M:Int)+k<=1000000:=by
 obtain ⟨D,M,k,h1,h2,h3,h4⟩:=h.g;exact ⟨D,M,k,⟨rfl,h.i,λ_=>rfl,h1,h2⟩,h3,h4⟩
theorem Qyd {a:Tm} (ha:Va a) (hp:a.point=true) (q:Rat):Fe a q=Gq a.lo q:=Es (ha.pt hp).1 q
theorem Q77 {a b:Tm} (hb:Va b) {x:Rat} (hx:∀ q,Fe a q=Gq x q):CmpOk a b (-Fe b x):=by
 have cb:=hb.cut;rcases cb.val x with h | h | h
 ·obtain ⟨q,q1,q2⟩:=cb.up x h;refine .inl ⟨by omega,q,?_,q2⟩;rw [hx]; rcases Tx x q with ⟨e,e'⟩ | ⟨e,e'⟩ | ⟨e,e'⟩ <;> grind
 ·exact .inr (.inl ⟨by omega,λq=>by rw [hx,Qs9 cb h]⟩)
 ·obtain ⟨q,q1,q2⟩:=cb.dn x h;refine .inr (.inr ⟨by omega,q,q2,?_⟩);rw [hx]; rcases Tx x q with ⟨e,e'⟩ | ⟨e,e'⟩ | ⟨e,e'⟩ <;> grind
theorem CmpOk.symm {a b:Tm} {c:Int} (h:CmpOk a b c):CmpOk b a (-c):=by
 rcases h with ⟨h1,h2⟩ | ⟨h1,h2⟩ | ⟨h1,h2⟩
 ·exact .inr (.inr ⟨by omega,h2⟩)
 ·exact .inr (.inl ⟨by omega,λq=>(h2 q).symm⟩)
 ·exact .inl ⟨by omega,h2⟩
theorem Znf:Szz 9 1000:=⟨by decide,by decide⟩
theorem Qed (g:List Int) (lo hi:Rat):Qec g lo hi=true↔Qxk (cz g) lo hi:=by
 unfold Qec Qxk;rw [decide_eq_true_iff,Bf,Qt6,Ux]
theorem Qtr {g:List Int} (tg:Uz g) (hn:g.length≠0) {lo hi:Rat} (h:Qxk (cz g) lo hi):1<g.length:=by
 rcases Za 1 g.length with e | e
 ·exact e
 ·exfalso;obtain ⟨c,rfl⟩:∃ c,g=[c]:=Ky.1 (by omega);have hc:c≠0:=by have:=Ho tg (by simp); simpa using this
  have hv:∀ t,ev (cz [c]) t=(c:Rat):=λt=>by rw [Ux]; simp only [Uw]; grind
  have hs:U4 (c:Rat)≠0:=λh=>Qaq hc (Fu.1 h)
  unfold Qxk at h;rw [hv,L9 (by rw [hv]; exact hs),hv] at h;rcases h with h | h
  ·exact hs h
  ·exact h rfl
theorem Qla {q:Rat}:U5 q<=((2^U6 q.num:Nat):Rat):=by
 have h1:U6 q.num<=U6 q.num:=Ql _;rw [Tz] at h1;have e:(q.num:Rat)=q*(q.den:Rat):=by
  have:(q.num:Rat) / (((q.den:Int)):Rat)=q:=by rw [Hw,Z2]
  have h2:(q.num:Rat) / (q.den:Rat)*(q.den:Rat)=q.num:=Zk (by have:=nat_pos q.den_pos; grind);rw [show (q.num:Rat) / (q.den:Rat)=q from this] at h2; exact h2.symm
 have hd:(1:Rat)<=(q.den:Rat):=by
  have:((1:Nat):Rat)<=(q.den:Rat):=Zg.2 q.den_pos;exact this
 have h2:U5 q<=U5 (q.num:Rat):=by
  rw [e,E7];have:U5 (q.den:Rat)=(q.den:Rat):=by unfold U5; rw [if_neg (by grind)]
  rw [this];have:=Nx (a:=U5 q) (c:=1) (Hk q) Qp (by decide) hd;grind
 rw [Tw] at h2;exact Ze h2 (Zg.2 (Yh h1))
theorem Qhc {a:Tm} {w:Nat} (h:U6 a.lo.num+U6 a.hi.num<=w):a.hi-a.lo<=((2^(w+1):Nat):Rat):=by
 have h1:=Qla (q:=a.lo);have h2:=Qla (q:=a.hi);have h3:((2^U6 a.lo.num:Nat):Rat)<=((2^w:Nat):Rat):=Zg.2 (Zw (by decide) (by omega));have h4:((2^U6 a.hi.num:Nat):Rat)<=((2^w:Nat):Rat):=Zg.2 (Zw (by decide) (by omega));rw [Quz];rw [Px] at h1 h2;grind
theorem Il {p:List Int} {s:Nat} (h:Bd s p):Gm p<=s:=by
 have:=Pv h p.length; rwa [Qy] at this
theorem Zb5 {a b:Tm} (ha:Va a) (hb:Va b) (pa:a.point=false) (pb:b.point=false):Pe a b<=9000000:=by
 have q1:=ha.qs; have q2:=hb.qs;have l1:=ha.n; have l2:=hb.n;have s1:=Il (ha.bi pa); have s2:=Il (hb.bi pb);have b1:=q1.1.1; have b2:=q1.2.1; have b3:=q2.1.1; have b4:=q2.2.1;have:4*(a.p.length+b.p.length)*(Gm a.p+Gm b.p+(a.p.length+b.p.length)+8)<=4*18*2100:=Zf (by omega) (by omega);unfold Pe; omega
theorem Q54 {a b:Tm} (ha:Va a) (hb:Va b) (pa:a.point=false) (pb:b.point=false) (hne:¬TEq a b):∃ r,apF (Pe a b) a b=some r/\Zim a b r:=by
 obtain ⟨D,M,k,h1,h2,h3⟩:=ha.hv0;obtain ⟨D',M',k',h1',h2',h3'⟩:=hb.hv0;have hst:=Zb5 ha hb pa pb;obtain ⟨w,hw⟩:=nmE (U6 a.lo.num+U6 a.hi.num+U6 b.lo.num+U6 b.hi.num);obtain ⟨K,hK⟩:=nmE (Gm a.p+Gm b.p+(a.p.length+b.p.length)+8);obtain ⟨n,hn⟩:=nmE (a.p.length+b.p.length);have l1:=ha.n2; have l2:=hb.n2;have hsteps:Pe a b=64+2*w+4*n*K:=by unfold Pe; rw [hw,hK,hn]
 have hg:Tk a.p b.p=K*(2*(n-2)-1):=by unfold Tk; rw [hK,hn]
 have hgle:Tk a.p b.p+5*K<=2*n*K:=by
  rw [hg,Zh K,<-X8];exact Q0 _ (by omega)
 have hKp:8<=K:=by omega
 refine Zlu ha hb hne h2 h2' (31+w+2*n*K) (Pe a b) a b k k' ((2^(w+1):Nat):Rat) ?_ h1 h1' (by omega) (by omega) (Qhc (by omega)) (Qhc (by omega)) ?_
 ·rw [hsteps,Xk,Xg 4,Xg 2 n]; omega
 ·have e:2*(2^(w+1))*(2^(Tk a.p b.p+1))<=2^(31+w+2*n*K):=by
   rw [Zh 2,<-Zn,<-Xb];exact Zw (by decide) (by omega)
  have:=Zg.2 e
  push_cast at this ⊢
  exact this
theorem Qis {a b:Tm} (ha:Va a) (hb:Va b):∃ c,Qj5 a b=some c/\CmpOk a b c:=by
 unfold Qj5;by_cases pa:a.point=true
 ·rw [if_pos pa];exact ⟨_,rfl,Q77 hb (Qyd ha pa)⟩
 rw [if_neg pa];by_cases pb:b.point=true
 ·rw [if_pos pb];have:=(Q77 ha (Qyd hb pb)).symm;rw [Int.neg_neg] at this;exact ⟨_,rfl,this⟩
 rw [if_neg pb];have pa:a.point=false:=by simpa using pa
 have pb:b.point=false:=by simpa using pb
 obtain ⟨L,V⟩:=ha.iv pa;obtain ⟨L',V'⟩:=hb.iv pb;have eqa:∀ q,Fe a q=cq (cz a.p) a.lo a.hi q:=Ns V.l;have eqb:∀ q,Fe b q=cq (cz b.p) b.lo b.hi q:=Ns V'.l;obtain ⟨lo,hlo⟩:=nmE (if 0<Gq b.lo a.lo then b.lo else a.lo);obtain ⟨hi,hhi⟩:=nmE (if Gq b.hi a.hi<0 then b.hi else a.hi);show ∃ c,(if Gq (if 0<Gq b.lo a.lo then b.lo else a.lo) (if Gq b.hi a.hi<0 then b.hi else a.hi)<0 then _ else _)=some c/\_;rw [<-hlo,<-hhi];have e1:(0<Gq b.lo a.lo)=(a.lo<b.lo):=propext Cq;have e2:(Gq b.hi a.hi<0)=(b.hi<a.hi):=propext Nq;have e3:(Gq lo hi<0)=(lo<hi):=propext Nq;simp only [e1] at hlo;simp only [e2] at hhi;simp only [e3];obtain ⟨g,g1,g2,g3,g4⟩:=Q87 Znf ha.tr hb.tr ha.n hb.n (ha.bi pa) (hb.bi pb) (by have:=ha.n2; omega);obtain ⟨U,W,hc⟩:=g2.c;obtain ⟨u,hu⟩:=g2.da;obtain ⟨u',hu'⟩:=g2.db;have key:=V.same V' (g:=cz g) (u:=u) (u':=u') (U:=U) (W:=W) (k:=1) (by decide) hu hu' (λt=>by rw [Ux,Ux,Ux,hc]; grind) (a:=lo) (b:=hi) (by rw [hlo]; split <;> grind) (by rw [hlo]; split <;> grind) (by rw [hlo]; split <;> simp) (by rw [hhi]; split <;> grind) (by rw [hhi]; split <;> grind) (by rw [hhi]; split <;> simp);have hTE:(∀ q,cq (cz a.p) a.lo a.hi q=cq (cz b.p) b.lo b.hi q)↔TEq a b:=by
  unfold TEq; constructor
  ·intro h q; rw [eqa,eqb]; exact h q
  ·intro h q; rw [<-eqa,<-eqb]; exact h q
 rw [hTE] at key;have fin:¬TEq a b->∃ c,((apF (Pe a b) a b).bind λr=>some r.2.2)=some c/\CmpOk a b c:=λhne=>by
  obtain ⟨r,r1,r2⟩:=Q54 ha hb pa pb hne;refine ⟨r.2.2,by rw [r1]; rfl,?_⟩;rcases r2 with h | h
  ·exact .inl h
  ·exact .inr (.inr h)
 by_cases hl:lo<hi
 ·rw [if_pos hl,g1];show ∃ c,(if 1<g.length/\Qec g lo hi=true then some 0 else (apF (Pe a b) a b).bind λr=>some r.2.2)=some c/\_;by_cases hh:Qec g lo hi=true
  ·have hq:=(Qed g lo hi).1 hh;rw [if_pos ⟨Qtr g2.t g2.n hq,hh⟩];exact ⟨0,rfl,.inr (.inl ⟨rfl,key.1 ⟨hl,hq⟩⟩)⟩
  ·rw [if_neg λh=>hh h.2];exact fin λh=>hh ((Qed g lo hi).2 (key.2 h).2)
 ·rw [if_neg hl];exact fin λh=>hl (key.2 h).1
def SgT (p:List Int) (a:Tm) (s:Int):Prop:=s=0/\Aq (cz p) (Fe a)\/s≠0/\NZ (cz p) (Fe a) s
theorem Zks {p:List Int} {c:Rat->Int} (hc:Cut c) {x:Rat} (h:c x=0):Gz p x=0/\Aq (cz p) c\/Gz p x≠0/\NZ (cz p) c (Gz p x):=by
 rw [Bf,<-Ux];rcases Qbj hc (cz p) with h1 | ⟨s,hs,h1⟩
 ·exact .inl ⟨Fu.2 (Qha hc h h1),h1⟩
 ·have:=Quj hc h h1;rw [this]; exact .inr ⟨hs,h1⟩
theorem Iw {l:List (List Int)} {lo hi:Rat} (h:lo<=hi):Ry l lo hi=(vv (l.map cz) lo:Int)-(vv (l.map cz) hi:Int):=by
 unfold Ry;rw [if_neg λh'=>by have:=Nq.1 h'; grind,On,On]
theorem Zkt {p q:List Int} {L:List (List Rat)} (hp:Uz p) (np:p.length<=9) (lp:2<=p.length) (hS:Stm (cz q) L) (hpq:O3 (cz q) (cz p)) {a:Tm} (ha:Va a) {s:Int} (hnz:NZ (cz p) (Fe a) s) {D M k:Nat} {x:Tm} (hx:Hv a D M k x) (hl:x.lo<x.hi) (hv:vv L x.lo≠vv L x.hi):1<(x.hi-x.lo)*((2^(Tk a.p p+1):Nat):Rat):=by
 rcases Fh ((x.hi-x.lo)*((2^(Tk a.p p+1):Nat):Rat)) 1 with hw | hw
 ·exfalso;have ca:=ha.cut;obtain ⟨d,dp,x1,y1,c1,c2,hn⟩:=hnz;obtain ⟨x2,x12,c3⟩:=ca.up x1 c1;obtain ⟨y2,y12,c4⟩:=ca.dn y1 c2;have hpow:(0:Rat)<=((2^(Tk a.p p+1):Nat):Rat):=Xh;obtain ⟨z,zp,z1,z2⟩:=min2 (a:=x2-x1) (b:=y1-y2) (by clear hn; grind) (by clear hn; grind);obtain ⟨R0,hR0,r1,r2⟩:=Qpd x.lo x.hi;obtain ⟨u,hu⟩:=hpq;refine Q8y (R:=R0+1) (d:=z) ha.tr hp ha.n np ha.n2 lp (by clear hn; grind) zp λe ep=>?_
  obtain ⟨q0,q1,q2,q3,q4,q5⟩:∃ q0,x.lo<=q0/\q0<=x.hi/\x2<=q0/\q0<=y2/\U5 (Uw a.p q0)<e:=by
   rcases hx.lo' with h1 | ⟨h1,h2⟩
   ·obtain ⟨x',y',hx',hy',hq⟩:=ha.van e ep;obtain ⟨m,m1,m2,m3,m4⟩:∃ m,Fe a m=1/\x.lo<=m/\x2<=m/\x'<=m:=by
     rcases Fh x.lo x2 with e1 | e1
     ·rcases Fh x2 x' with e2 | e2
      ·exact ⟨x',hx',by clear hn hq; grind,e2,Qp⟩
      ·exact ⟨x2,c3,e1,Qp,Qq e2⟩
     ·rcases Fh x.lo x' with e2 | e2
      ·exact ⟨x',hx',e2,by clear hn hq; grind,Qp⟩
      ·exact ⟨x.lo,h1,Qp,Qq e1,Qq e2⟩
    refine ⟨m,m2,?_,m3,Qq (ca.lt m1 c4),by rw [<-Ux]; exact hq m m4 (Qq (ca.lt m1 hy'))⟩;rcases hx.hi' with h3 | h3
    ·rcases Fh m x.hi with e1 | e1
     ·exact e1
     ·have:=ca.mono x.hi m e1 (by omega); omega
    ·exact Qq (ca.lt m1 h3)
   ·exact absurd h2 (by clear hn; grind)
  obtain ⟨b,hb⟩:=nmE (evB R0 u);have hb0:0<=b:=by rw [hb]; exact Qal hR0 u
  obtain ⟨f,fp,_,hf⟩:=Gu (b:=b) (d:=if e<=d then e else d) hb0 (by split <;> assumption);obtain ⟨r,r3,r4,r5⟩:=Qrz hS hl hv fp;have hrR:U5 r<=R0:=Qee r1 r2 r3 r4;have hpr:U5 (Uw p r)<(if e<=d then e else d):=by
   rw [<-Ux,hu];have:=Gp (Qq r5) (Qhk hrR u);rw [<-hb] at this;exact X4.1 λh=>absurd (Ze h this) (X4.2 hf)
  have hpe:U5 (Uw p r)<e:=by split at hpr <;> (clear hn; grind)
  have hpd:U5 (Uw p r)<d:=by split at hpr <;> (clear hn; grind)
  have hrout:r<x1\/y1<r:=by
   rcases Fh x1 r with e1 | e1
   ·rcases Fh r y1 with e2 | e2
    ·have:=(hn r e1 e2).2;rw [Ux] at this;exact absurd this (X4.2 hpd)
    ·exact .inr e2
   ·exact .inl e1
  have hqr:z<=U5 (q0-r):=by
   clear hn;rcases hrout with h | h
   ·have:U5 (q0-r)=q0-r:=by unfold U5; split <;> grind
    rw [this]; grind
   ·have:U5 (q0-r)=r-q0:=by unfold U5; split <;> grind
    rw [this]; grind
  have hq0R:U5 q0<=R0:=Qee r1 r2 q1 q2;refine ⟨q0,r,by clear hn; grind,by clear hn; grind,hqr,?_,q5,hpe⟩;have h1:U5 (q0-r)<=x.hi-x.lo:=by rw [Px]; clear hn; constructor <;> grind
  exact Ze (Q8 h1 hpow) hw
 ·exact hw
theorem Zbq {p q:List Int} {l:List (List Int)} (hp:Uz p) (np:p.length<=9) (lp:2<=p.length) (hS:Stm (cz q) (l.map cz)) (hpq:O3 (cz q) (cz p)) {a:Tm} (ha:Va a) {s:Int} (hnz:NZ (cz p) (Fe a) s) {D M:Nat} (hM:0<M):∀ (j i:Nat) (x:Tm) (k:Nat) (W:Rat),i+1<=j->Hv a D M k x->U6 (D:Int)+U6 (M:Int)+(k+j)<=16777216->x.hi-x.lo<=W->W*((2^(Tk a.p p+1):Nat):Rat)<=((2^i:Nat):Rat)->∃ u k',sgF l j x=some u/\Hv a D M k' u/\(u.point=true\/Ry l u.lo u.hi=0)
 | 0,i,x,k,W,h,_,_,_,_=>by omega
 |
  j+1,i,x,k,W,hj,hx,hs,hW,hK=>by
  simp only [sgF];by_cases h:x.point=true\/Ry l x.lo x.hi=0
  ·rw [if_pos h]; exact ⟨x,k,rfl,hx,h⟩
  ·rw [if_neg h];obtain ⟨v,v1,v2,v3,_⟩:=Qqg hx hM (by omega);rw [v1];show ∃ u k',sgF l j v=some u/\_;have hpt:¬x.hi<=x.lo:=λh'=>h (.inl (Ng.2 h'))
   have hl:x.lo<x.hi:=by grind
   have hvv:vv (l.map cz) x.lo≠vv (l.map cz) x.hi:=λh'=>h (.inr (by rw [Iw (Qq hl)]; omega))
   have hg:=Zkt hp np lp hS hpq ha hnz hx hl hvv;have hpow:(0:Rat)<=((2^(Tk a.p p+1):Nat):Rat):=Xh;have hd:∀ x:Rat,x / 2*2=x:=λx=>Gs (by decide)
   cases i with
   |
    zero =>
    exfalso;rw [Vd] at hK;have:=Q8 hW hpow;have h7:((1:Nat):Rat)=1:=rfl;rw [h7] at hK;grind
   |
    succ i =>
    refine Zbq hp np lp hS hpq ha hnz hM j i v (k+1) (W / 2) (by omega) v2 (by omega) ?_ ?_
    ·have:=hd (x.hi-x.lo); have:=hd W; grind
    ·rw [Quz i] at hK;have:=hd W;have:W / 2*((2^(Tk a.p p+1):Nat):Rat)*2=W*((2^(Tk a.p p+1):Nat):Rat):=by grind
     grind
theorem Qur {x y:Rat}:∀ {ws:List (List Rat)},(∀ w∈ws,U4 (ev w x)=U4 (ev w y))->U4 (ev (Ic ws) x)=U4 (ev (Ic ws) y)
 | [],_=>by simp only [Ic]; rw [Rq,Rq]
 |
  w::l,h=>by
  simp only [Ic];rw [U3,U3,Tv,Tv,h w (Qx ..),Qur λv hv=>h v (Qj _ hv)]
theorem Q40 {p q o:List Int} (hpt:Parts p q o) (tp:Uz p) (hp:p.length≠0) {L:List (List Rat)} (hS:Stm (cz q) L) {x y:Rat} (hxy:x<y) (hv:vv L x=vv L y):∃ s,s≠0/\∀ z,x<z->z<=y->U4 (Uw p z)=s:=by
 obtain ⟨ws,w1,w2⟩:=hpt.ws;obtain ⟨_,_,_,_,_,p6,p7⟩:=Be tp hp;have key:∀ z,x<z->z≤y->∀ w∈ws.map cz,Sm w x z:=λz h1 h2 w hw=>by
  obtain ⟨v,hv',rfl⟩:=Zr.1 hw;obtain ⟨u,hu⟩:=(w1 v hv').2;have a1:=Ek hS h1;have a2:vv L y<=vv L z:=by
   rcases Classical.em (z=y) with e | e
   ·rw [e]; exact Ql _
   ·exact Ek hS (by grind)
  exact Qct hS hu h1 (by omega)
 have hval:∀ z,Uw p z=(G7 p:Rat)*ev (Ic (ws.map cz)) z:=λz=>by rw [p7,w2]
 refine ⟨U4 (Uw p y),λh0=>?_,λz h1 h2=>?_⟩
 ·rw [hval,Tv] at h0;rcases Yt.1 h0 with h | h
  ·exact Qaq p6 (Fu.1 h)
  ·have:∀ l:List (List Rat),(∀ w∈l,U4 (ev w y)≠0)->U4 (ev (Ic l) y)≠0:=by
    intro l
    induction l with
    | nil=>intro _; simp only [Ic]; rw [Rq]; decide
    |
     cons w l ih =>
     intro h;simp only [Ic];rw [U3,Tv];exact Jh (h w (Qx ..)) (ih λv hv=>h v (Qj _ hv))
   refine this _ (λw hw=>?_) h;have hs:=key y hxy Qp w hw;rw [hs.s]; exact hs.n
 ·rw [hval,hval,Tv,Tv,Qur (y:=y) λw hw=>(key z h1 h2 w hw).s.trans (key y hxy Qp w hw).s.symm]
theorem Zjx {g p P:List Int} {c:Rat->Int} (hc:Cut c) (hg:Gc g p P):Aq (cz g) c↔Aq (cz p) c/\Aq (cz P) c:=by
 constructor
 ·intro h;obtain ⟨u,hu⟩:=hg.da;obtain ⟨v,hv⟩:=hg.db;exact ⟨Pf hc hu h,Pf hc hv h⟩
 ·rintro ⟨h1,h2⟩
  obtain ⟨U,V,hcc⟩:=hg.c;have a1:Aq (Gk U (cz p)) c:=Pf hc (p:=cz p) (q:=U) (λt=>by rw [U3]; grind) h1;have a2:Aq (Gk V (cz P)) c:=Pf hc (p:=cz P) (q:=V) (λt=>by rw [U3]; grind) h2;exact Qjh (λt=>by rw [Ux,hcc,U3,U3,Ux,Ux]) a1 a2
theorem Zbx {p:List Int} (hp:Okp 9 900 p) {a:Tm} (ha:Va a):∃ s,Qoy p a=some s/\SgT p a s:=by
 unfold Qoy;rw [if_neg hp.nz];have ca:=ha.cut;by_cases pa:a.point=true
 ·rw [if_pos pa];exact ⟨_,rfl,Zks ca (x:=a.lo) (by rw [Qyd ha pa,B8])⟩
 rw [if_neg pa];have pa:a.point=false:=by simpa using pa
 obtain ⟨L,V⟩:=ha.iv pa;have eqa:∀ q,Fe a q=cq (cz a.p) a.lo a.hi q:=Ns V.l;obtain ⟨g,g1,g2,g3,g4⟩:=Q87 Znf hp.t ha.tr hp.l ha.n (Us hp.b (by omega)) (ha.bi pa) hp.nz;obtain ⟨u',hu'⟩:=g2.db;have hhas:=V.has hu' (a:=a.lo) (b:=a.hi) Qp V.l Qp;have hvan:=Zjx ca g2;rw [show cq (cz a.p) a.lo a.hi=Fe a from (funext eqa).symm] at hhas;rw [g1];show ∃ s,(if 1<g.length/\Qec g a.lo a.hi=true then some 0 else _)=some s/\_;by_cases hh:Qec g a.lo a.hi=true
 ·have hq:=(Qed g _ _).1 hh;rw [if_pos ⟨Qtr g2.t g2.n hq,hh⟩];exact ⟨0,rfl,.inl ⟨rfl,(hvan.1 (hhas.1 hq).1).1⟩⟩
 ·rw [if_neg λh=>hh h.2];have hnv:¬Aq (cz p) (Fe a):=λh=>hh ((Qed g _ _).2 (hhas.2 ⟨hvan.2 ⟨h,ha.van⟩,by rw [eqa]; exact Lq Qp,by rw [eqa]; exact V.hi1⟩))
  rcases Qbj ca (cz p) with h | ⟨s,hs0,hnz⟩
  ·exact absurd h hnv
  obtain ⟨q,o,q1,q2,hpt⟩:=Zaa hp;obtain ⟨q',l,r1,r2,hS,hl0⟩:=chain_ok hp;rw [q1] at r1;injection r1 with r1;subst r1;rw [r2];show ∃ s,((sgF (q::l) (64+2*(U6 a.lo.num+U6 a.hi.num)+4*(a.p.length+p.length)*(Gm a.p+Gm p+(a.p.length+p.length)+8)) a).bind λx=>some (Gz p x.hi))=some s/\_;obtain ⟨w,hw⟩:=nmE (U6 a.lo.num+U6 a.hi.num);obtain ⟨K,hK⟩:=nmE (Gm a.p+Gm p+(a.p.length+p.length)+8);obtain ⟨n,hn⟩:=nmE (a.p.length+p.length);rw [<-hw,<-hK,<-hn];obtain ⟨gg,sq⟩:=hpt.sq;obtain ⟨_,_,_,_,_,pf0,pfe⟩:=Be hp.t hp.nz;have hpq:O3 (cz q) (cz p):=⟨C0 (G7 p) (cz gg),λt=>by rw [Ux,Ux,Fy,Ux,pfe,sq.e]; grind⟩;obtain ⟨D,M,k,h1,h2,h3⟩:=ha.hv0;have b1:=ha.qs.1.1; have b2:=ha.qs.2.1;have l1:=ha.n; have l2:=hp.l; have l3:=ha.n2;have s1:=Il (ha.bi pa); have s2:=Il hp.b;have hst:4*n*K<=4*18*1926:=Zf (by omega) (by omega);have hend:∃ u k',sgF (q::l) (64+2*w+4*n*K) a=some u/\Hv a D M k' u/\(u.point=true\/Ry (q::l) u.lo u.hi=0):=by
   by_cases By:p.length<2
   ·have hq1:(U7 p)=[1]:=hp.pr.1.one (by have:=hp.pr.2.1; omega);have hql:q.length<2:=by
     have e:=sq.e;rw [hq1] at e;obtain ⟨p1,p2⟩:=Ru (c:=[1]) rfl (by simp) e;have:=P7 sq.pg.t sq.pq.t (c:=[1]) rfl e p1 p2;simp at this; omega
    have hbt:Ry (q::l) a.lo a.hi=0:=by
     rw [Iw (Qq V.l),hl0 hql,sq.pq.one hql];have hv1:∀ x:Rat,ev (cz [1]) x=1:=λx=>by rw [Ux,Ms]
     simp only [Z0,Jf,vv,tc,hv1]; omega
    refine ⟨a,k,?_,h1,.inr hbt⟩;obtain ⟨m,hm⟩:∃ m,64+2*w+4*n*K=m+1:=⟨63+2*w+4*n*K,by omega⟩;rw [hm];simp only [sgF];rw [if_pos (.inr hbt)]
   ·have hg:Tk a.p p=K*(2*(n-2)-1):=by unfold Tk; rw [hK,hn]
    have hgle:Tk a.p p+5*K<=2*n*K:=by
     rw [hg,Zh K,<-X8];exact Q0 _ (by omega)
    have hKp:8<=K:=by omega
    have hnK:2*n*K<=4*n*K:=Q0 _ (by omega);obtain ⟨u,k',u1,u2,u3⟩:=Zbq hp.t hp.l (by omega) hS hpq ha hnz h2 (64+2*w+4*n*K) (2+w+2*n*K) a k ((2^(w+1):Nat):Rat) (by omega) h1 (by omega) (Qhc (by omega)) (by
     have e:(2^(w+1))*(2^(Tk a.p p+1))<=2^(2+w+2*n*K):=by
      rw [<-Xb];exact Zw (by decide) (by omega)
     have:=Zg.2 e
     push_cast at this ⊢
     exact this)
    exact ⟨u,k',u1,u2,u3⟩
  obtain ⟨u,k',u1,u2,u3⟩:=hend;rw [u1];refine ⟨_,rfl,.inr ?_⟩;have hfin:Gz p u.hi=s:=by
   rcases u2.hi' with hz | hz
   ·have:=Quj ca hz hnz;rw [Bf,<-Ux]; exact this
   ·rcases u2.i with ⟨e,_⟩ | ⟨L',V'⟩
    ·have:=u2.c u.hi;rw [Es e,e,B8] at this; omega
    ·have hup:u.point=false:=by
      have:¬u.point=true:=λh=>by have:=Ng.1 h; have:=V'.l; grind
      simpa using this
     rcases u3 with h | h
     ·rw [hup] at h; cases h
     ·rw [Iw (Qq V'.l)] at h;obtain ⟨s',hs',hps⟩:=Q40 hpt hp.t hp.nz hS V'.l (by omega);obtain ⟨d,dp,x,y,hx,hy,hq⟩:=hnz;have hlo1:Fe a u.lo=1:=by
       rcases u2.lo' with h | ⟨_,h⟩
       ·exact h
       ·have:=V'.l; clear hps hq; grind
      obtain ⟨m,m1,m2,m3⟩:=Qj9 ca hlo1 hx;have e1:=(hq m (Qq m3) (Qq (ca.lt m1 hy))).1;have e2:=hps m m2 (Qq (ca.lt m1 hz));have e3:=hps u.hi V'.l Qp;rw [Bf,e3,<-e2,<-Ux,e1]
  rw [hfin]; exact ⟨hs0,hnz⟩
structure Dp (p:List Int):Prop where
 t:Uz p
 l:p.length<=9
 b:Bd (860+4*(9-p.length)) p
theorem Q11:Szz 9 973:=⟨by decide,by decide⟩
theorem Dp.ok {p:List Int} (h:Dp p) (h0:p.length≠0):Okp 9 900 p:=⟨Q11,h.t,h0,h.l,Us h.b (by omega)⟩
theorem Dp.der {p:List Int} (h:Dp p):Dp (Gj p):=by
 have hl:=Pn p;have hl2:=h.l;refine ⟨Ft _ _,by omega,?_⟩;by_cases h0:p.length=0
 ·rw [Qi (l:=Gj p) (by omega)]; exact O6
 ·exact Us (Qv7 h.b (by omega)) (by omega)
def G0 (a:Tm) (p:List Int):Int:=(Qoy p a).getD 0
theorem Zbo {p:List Int} (h:Dp p) {a:Tm} (ha:Va a):Qoy p a=some (G0 a p)/\SgT p a (G0 a p):=by
 by_cases h0:p.length=0
 ·have e:p=[]:=Qi h0;subst e;refine ⟨rfl,.inl ⟨rfl,λd dp=>?_⟩⟩;obtain ⟨x,y,h1,h2,_⟩:=ha.cut.near (e:=1) (by decide);exact ⟨x,y,h1,h2,λq _ _=>by simp only [cz,Jf,ev,H5]; exact dp⟩
 ·obtain ⟨s,h1,h2⟩:=Zbx (h.ok h0) ha;have e:G0 a p=s:=by unfold G0; rw [h1]; rfl
  rw [e]; exact ⟨h1,h2⟩
theorem Zkq {c:Rat->Int} {p q:List Rat} {s:Int} (h:∀ t,ev p t=ev q t) (hp:RS p c s):RS q c s:=by
 obtain ⟨y,h1,h2⟩:=hp;exact ⟨y,h1,λz h3 h4=>by rw [<-h]; exact h2 z h3 h4⟩
theorem Qnw {a:Tm} (ha:Va a):∀ (k:Nat) (p:List Int),Dp p->p.length<=k->p.length≠0->RS (cz p) (Fe a) (Su (G0 a) k p)/\Su (G0 a) k p≠0
 | 0,p,_,h1,h2=>by omega
 |
  k+1,p,h,h1,h2=>by
  simp only [Su];rw [if_neg h2];obtain ⟨_,hs⟩:=Zbo h ha;rcases hs with ⟨e,hv⟩ | ⟨e,hn⟩
  ·rw [if_pos e];have hdn:(Gj p).length≠0:=λh0=>by
    by_cases h3:p.length=1
    ·obtain ⟨c,rfl⟩:∃ c,p=[c]:=Ky.1 h3;have hc:c≠0:=by have:=Ho h.t (by simp); simpa using this
     obtain ⟨q,hq,_⟩:=Qug ha.cut (hv (U5 (c:Rat)) (Bi (Qaq hc)));rw [Ux] at hq;have:Uw [c] q=(c:Rat):=by simp only [Uw]; grind
     rw [this] at hq; grind
    ·have h4:=Nf p (p.length-2);rw [Qi h0,show p.length-2+1=p.length-1 by omega] at h4;have h5:p.getD (p.length-1) 0≠0:=Ho h.t (by omega);rcases Yt.1 (h4.symm.trans (by simp)) with h6 | h6
     ·exact h5 h6
     ·omega
   have hl:=Pn p;obtain ⟨i1,i2⟩:=Qnw ha k (Gj p) h.der (by omega) hdn;exact ⟨Qrl ha.cut hv (Zkq (λt=>by rw [Ux,If,Rz]) i1) i2,i2⟩
  ·rw [if_neg e]; exact ⟨Qop ha.cut hn,e⟩
theorem Ob {a:Tm} (ha:Va a) {p:List Int} (h:Dp p) (h0:p.length≠0):RS (cz p) (Fe a) (Tf (G0 a) p)/\Tf (G0 a) p≠0:=Qnw ha _ p h (Ql _) h0
theorem Qk0 {a:Tm}:Tf (G0 a) []=0:=rfl
theorem Zfh {l:List Int}:∀ z∈l,z.natAbs≤most l:=by
 have key:∀ (l:List Int) (m:Nat),m≤l.foldl (λm z=>if m<z.natAbs then z.natAbs else m) m/\∀ z∈l,z.natAbs≤l.foldl (λm z=>if m<z.natAbs then z.natAbs else m) m:=by
  intro l
  induction l with
  | nil=>exact λm=>⟨Ql _,λz hz=>by cases hz⟩
  |
   cons y l ih =>
   intro m;obtain ⟨e,he⟩:=nmE (if m<y.natAbs then y.natAbs else m);have h1:m<=e/\y.natAbs<=e:=by rw [he]; split <;> omega
   obtain ⟨i1,i2⟩:=ih e;simp only [Z5];rw [<-he];refine ⟨by omega,λz hz=>?_⟩;rcases Qo.1 hz with rfl | hz
   ·omega
   ·exact i2 z hz
 exact (key l 0).2
theorem Qjq {p:List Int} (h:U9 p≠0):Gy p*((U9 p).natAbs:Rat)=((U9 p).natAbs:Rat)+((most (p.take (p.length-1)):Nat):Rat):=by
 unfold Gy;rw [<-Hw];have hp:0<(U9 p).natAbs:=by omega
 have:=nat_pos hp;rw [show ((((U9 p).natAbs:Int)):Rat)=((U9 p).natAbs:Rat) from rfl,Gs this];rw [Ko]; rfl
theorem Q03 {m:Nat} {x:Rat} (hx:1≤U5 x):∀ (p:List Int) (lp:p.length≠0),(∀ z∈p.take (p.length-1),z.natAbs≤m)->U9 p≠0->(m:Rat)≤(U5 x-1)*((U9 p).natAbs:Rat)->((U9 p).natAbs:Rat)≤Uw p x*(((Int.sign (U9 p))*(if x<0/\p.length % 2=0 then -1 else 1):Int):Rat)
 | [],lp,_,_,_=>absurd rfl lp
 |
  [c],_,_,hc,_=>by
  have hl:U9 [c]=c:=rfl;rw [hl] at hc ⊢;rw [if_neg (by simp),Ww];have h1:Uw [c] x=(c:Rat):=by simp only [Uw]; grind
  rw [h1];have h2:c*Int.sign c=(c.natAbs:Int):=Int.mul_sign_self c;have:=congrArg (λz:Int=>(z:Rat)) h2;rw [Xj] at this;rw [this]; exact Qp
 |
  c::d::p,_,hm,hc,hb=>by
  have hl:U9 (c::d::p)=U9 (d::p):=by unfold U9; simp [List.getD_cons_succ]
  have ih:=Q03 hx (d::p) (by simp) (λz hz=>hm z (by
   have e:(c::d::p).take ((c::d::p).length-1)=c::(d::p).take ((d::p).length-1):=by simp
   rw [e]; exact Qj _ hz)) (by rw [<-hl]; exact hc) (by rw [<-hl]; exact hb)
  rw [hl] at hc hb ⊢;have hcm:=hm c (by simp);obtain ⟨s,hs⟩:∃ s:Int,s=Int.sign (U9 (d::p)):=⟨_,rfl⟩;have hsv:s=1\/s=-1:=by
   rw [hs];rcases Kq hc with h | h
   ·exact .inr (Xu h)
   ·exact .inl (X5 h)
  rw [<-hs] at ih ⊢;obtain ⟨ld,hld⟩:∃ ld:Rat,ld=((U9 (d::p)).natAbs:Rat):=⟨_,rfl⟩;rw [<-hld] at ih hb ⊢;have hcq:U5 (c:Rat)<=(m:Rat):=by rw [Tw]; exact Zg.2 hcm
  rw [Px] at hcq;have e1:Uw (c::d::p) x=(c:Rat)+x*Uw (d::p) x:=rfl;rw [e1];have hlen:(c::d::p).length % 2=0↔¬(d::p).length % 2=0:=by simp only [Q7]; omega
  generalize Uw (d::p) x=y at *;generalize (m:Rat)=mm at *;generalize (c:Rat)=cc at *;have hx0:=hx;by_cases hneg:x<0
  ·have hq:U5 x=-x:=by unfold U5; rw [if_pos hneg]
   rw [hq] at hx0 hb;by_cases hpar:(d::p).length % 2=0
   ·rw [if_pos ⟨hneg,hpar⟩] at ih;rw [if_neg λh=>(hlen.1 h.2) hpar];rcases hsv with rfl | rfl
    ·have ih:ld<=y*(-1):=by simpa using ih
     have:=Zz ih (show 0<=-x by grind);have e:(((1:Int)*1:Int):Rat)=1:=rfl;rw [e]; grind
    ·have ih:ld<=y*1:=by simpa using ih
     have:=Zz ih (show 0<=-x by grind);have e:(((-1:Int)*1:Int):Rat)=-1:=rfl;rw [e]; grind
   ·rw [if_neg λh=>hpar h.2] at ih;rw [if_pos ⟨hneg,hlen.2 hpar⟩];rcases hsv with rfl | rfl
    ·have ih:ld<=y*1:=by simpa using ih
     have:=Zz ih (show 0<=-x by grind);have e:(((1:Int)*-1:Int):Rat)=-1:=rfl;rw [e]; grind
    ·have ih:ld<=y*(-1):=by simpa using ih
     have:=Zz ih (show 0<=-x by grind);have e:(((-1:Int)*-1:Int):Rat)=1:=rfl;rw [e]; grind
  ·have hq:U5 x=x:=by unfold U5; rw [if_neg hneg]
   rw [hq] at hx0 hb;rw [if_neg λh=>hneg h.1] at ih ⊢;rcases hsv with rfl | rfl
   ·have ih:ld<=y*1:=by simpa using ih
    have:=Zz ih (show 0<=x by grind);have e:(((1:Int)*1:Int):Rat)=1:=rfl;rw [e]; grind
   ·have ih:ld<=y*(-1):=by simpa using ih
    have:=Zz ih (show 0<=x by grind);have e:(((-1:Int)*1:Int):Rat)=-1:=rfl;rw [e]; grind
theorem Qwa {p:List Int} (tp:Uz p) (lp:p.length≠0) {x:Rat} (hx:Gy p<=U5 x):1<=U5 (Uw p x)/\(0<=x->Gz p x=Qd7 p)/\(x<0->Gz p x=Oz p):=by
 have hl:=D5 tp lp;have hpos:0<(U9 p).natAbs:=by omega
 have h1:(1:Rat)<=((U9 p).natAbs:Rat):=by
  have:((1:Nat):Rat)<=((U9 p).natAbs:Rat):=Zg.2 hpos;exact this
 have hm0:(0:Rat)<=((most (p.take (p.length-1)):Nat):Rat):=Xh;have hb:=Qjq hl;have hx1:=Q8 hx (show (0:Rat)<=((U9 p).natAbs:Rat) by grind);have hx2:1<=U5 x:=by
  rcases Fh 1 (U5 x) with h | h
  ·exact h
  ·exfalso;have:=V6 h (show (0:Rat)<((U9 p).natAbs:Rat) by grind);grind
 have key:=Q03 (m:=most (p.take (p.length-1))) hx2 p lp (λz hz=>Zfh z hz) hl (by grind);obtain ⟨s,hs⟩:∃ s:Int,s=Int.sign (U9 p)*(if x<0/\p.length % 2=0 then -1 else 1):=⟨_,rfl⟩;rw [<-hs] at key;have hsv:s=1\/s=-1:=by
  rw [hs];rcases Kq hl with h | h
  ·rw [Xu h]; split <;> simp
  ·rw [X5 h]; split <;> simp
 have hsg:Gz p x=s/\1<=U5 (Uw p x):=by
  rw [Bf];rcases hsv with e | e
  ·rw [e] at key ⊢;have key:((U9 p).natAbs:Rat)<=Uw p x:=by simpa using key
   exact ⟨H6.2 (by grind),by unfold U5; rw [if_neg (by grind)]; grind⟩
  ·rw [e] at key ⊢;have key:((U9 p).natAbs:Rat)<=Uw p x*(-1):=by simpa using key
   exact ⟨Sj.2 (by grind),by unfold U5; rw [if_pos (by grind)]; grind⟩
 refine ⟨hsg.2,λh=>?_,λh=>?_⟩
 ·rw [hsg.1,hs,if_neg λh'=>by have:=h'.1; grind]; unfold Qd7; omega
 ·rw [hsg.1,hs]; unfold Oz;by_cases he:p.length % 2=0
  ·rw [if_pos ⟨h,he⟩,if_pos he]; omega
  ·rw [if_neg λh'=>he h'.2,if_neg he]; omega
theorem Qbh {f g:List Int->Int}:∀ {l:List (List Int)} (s:Nat×Int),(∀ p∈l,f p=g p)->l.foldl (S0 f) s=l.foldl (S0 g) s
 | [],s,_=>rfl
 |
  p::l,s,h=>by
  simp only [Z5];have e:S0 f s p=S0 g s p:=by unfold S0; rw [h p (List.mem_cons_self ..)]
  rw [e]; exact Qbh _ λq hq=>h q (Qj _ hq)
theorem Q0z:∀ (l:List (List Int)),(∀ p∈l,Uz p/\p.length≠0)->∃ X:Rat,0<X/\∀ x,X≤x->(∀ p∈l,Gz p x=Qd7 p)/\∀ p∈l,Gz p (-x)=Oz p
 | [],_=>⟨1,by decide,λx _=>⟨(λp hp=>by cases hp),(λp hp=>by cases hp)⟩⟩
 |
  p::l,h=>by
  obtain ⟨X,hX,hl⟩:=Q0z l λq hq=>h q (Qj _ hq)
  obtain ⟨tp,lp⟩:=h p (Qx ..);refine ⟨X+U5 (Gy p),by have:=Hk (Gy p); grind,λx hx=>?_⟩;have hb0:=Hk (Gy p);have hb1:Gy p<=U5 (Gy p):=by unfold U5; split <;> grind
  obtain ⟨l1,l2⟩:=hl x (by grind);have e1:U5 x=x:=by unfold U5; rw [if_neg (by grind)]
  have e2:U5 (-x)=x:=by rw [D8,e1]
  refine ⟨λq hq=>?_,λq hq=>?_⟩
  ·rcases Qo.1 hq with rfl | hq
   ·exact (Qwa tp lp (x:=x) (by rw [e1]; grind)).2.1 (by grind)
   ·exact l1 q hq
  ·rcases Qo.1 hq with rfl | hq
   ·exact (Qwa tp lp (x:=-x) (by rw [e2]; grind)).2.2 (by grind)
   ·exact l2 q hq
theorem Qza {q:List Int} {L:List (List Rat)} (hS:Stm (cz q) L) (tq:Uz q) (lq:q.length≠0) {x y:Rat} (hxy:x<y) (h:Gy q<=x\/y<=-Gy q) (hb:0<Gy q):vv L x=vv L y:=by
 rcases Classical.em (vv L x=vv L y) with e | e
 ·exact e
 ·exfalso;obtain ⟨r,r1,r2,r3⟩:=Qrz hS hxy e (d:=1) (by decide);have:=(Qwa tq lq (x:=r) (by rcases h with h | h <;> (unfold U5; split <;> grind))).1;rw [Ux] at r3; grind
theorem Qfv {p:List Int} (h:U9 p≠0):1<=Gy p:=by
 have hb:=Qjq h;have hp:=nat_pos (show 0<(U9 p).natAbs by omega);have hm0:(0:Rat)<=((most (p.take (p.length-1)):Nat):Rat):=Xh;rcases Fh 1 (Gy p) with h' | h'
 ·exact h'
 ·have:=V6 h' hp; grind
theorem Q5b {q:List Int} {l:List (List Int)} (hS:Stm (cz q) ((q::l).map cz)) (hl:∀ p∈q::l,Uz p/\p.length≠0):Qba (q::l)=(vv ((q::l).map cz) (-Gy q):Int)-(vv ((q::l).map cz) (Gy q):Int):=by
 obtain ⟨tq,lq⟩:=hl q (Qx ..);have hb:=Qfv (D5 tq lq);obtain ⟨X,hX,hx⟩:=Q0z (q::l) hl;obtain ⟨h1,h2⟩:=hx (X+Gy q) (by grind);have e1:Bn Qd7 (q::l)=vv ((q::l).map cz) (X+Gy q):=by
  rw [<-On]; unfold Bp Bn;rw [Qbh (f:=Qd7) (g:=λp=>Gz p (X+Gy q)) (0,0) λp hp=>(h1 p hp).symm]
 have e2:Bn Oz (q::l)=vv ((q::l).map cz) (-(X+Gy q)):=by
  rw [<-On]; unfold Bp Bn;rw [Qbh (f:=Oz) (g:=λp=>Gz p (-(X+Gy q))) (0,0) λp hp=>(h2 p hp).symm]
 unfold Qba;rw [e1,e2,Qza hS tq lq (x:=-(X+Gy q)) (y:=-Gy q) (by grind) (.inr Qp) (by grind),<-Qza hS tq lq (x:=Gy q) (y:=X+Gy q) (by grind) (.inl Qp) (by grind)]
theorem Zka {f:List Rat} {L:List (List Rat)} (hS:Stm f L) {x y:Rat} (hxy:x<y) (hv:vv L y+2<=vv L x):∃ m,x<m/\m<y/\vv L m<vv L x/\vv L y<vv L m/\ev f m≠0:=by
 obtain ⟨R,hR,hx,hy⟩:=Qpd x y;obtain ⟨e,ep,he⟩:=Zcn hS R hR;have key:∀ n:Nat,∀ x,U5 x<=R->x<y->vv L y+2<=vv L x->y-x<=(n:Rat)*e->∃ m,x<m/\m<y/\vv L m<vv L x/\vv L y<vv L m:=by
  intro n
  induction n with
  | zero=>intro x _ hxy _ hn; rw [show ((0:Nat):Rat)=0 from rfl] at hn; exfalso; clear he; grind
  |
   succ n ih =>
   intro x hx hxy hv hn;have hn':(((n+1:Nat):Rat))=(n:Rat)+1:=by push_cast; rfl
   rw [hn'] at hn;rcases Fh (y-x) e with h1 | h1
   ·have:=he x y hx hy hxy h1; omega
   ·have hm:U5 (x+e)<=R:=Qee hx hy (by clear he ih; grind) (by clear he ih; grind);have h2:=he x (x+e) hx hm (by clear he ih; grind) (by clear he ih; grind);have h3:=Ek hS (show x<x+e by clear he ih; grind);by_cases h4:vv L x=vv L (x+e)
    ·obtain ⟨m,m1,m2,m3,m4⟩:=ih (x+e) hm (by clear he ih; grind) (by omega) (by clear he ih; grind);exact ⟨m,by clear he ih; grind,m2,by omega,m4⟩
    ·exact ⟨x+e,by clear he ih; grind,by clear he ih; grind,by omega,by omega⟩
 obtain ⟨n,hn⟩:=O5 (z:=y-x) ep;obtain ⟨m,m1,m2,m3,m4⟩:=key n x hx hxy hv hn;rcases Classical.em (ev f m=0) with h0 | h0
 ·-- a little farther on
  obtain ⟨e2,e2p,hl⟩:=loc hR hS (w:=f) (u:=[1]) (λt=>by rw [Rq]; grind);obtain ⟨d,dp,d1,d2⟩:=min2 (a:=e2) (b:=(y-m) / 2) e2p (Lt (by clear he key hl; grind) (by decide));have h2:(y-m) / 2*2=y-m:=Gs (by decide);have hmR:U5 m<=R:=Qee hx hy (Qq m1) (Qq m2);have hmR2:U5 (m+d)<=R:=Qee hx hy (by clear he key hl; grind) (by clear he key hl; grind);rcases hl m (m+d) hmR hmR2 (by clear he key hl; grind) (by clear he key hl; grind) with ⟨p1,p2,_⟩ | ⟨_,p1,_,p3,_⟩
  ·refine ⟨m+d,by clear he key hl; grind,by clear he key hl; grind,by omega,by omega,λh'=>?_⟩;have:=p2.s;rw [Fu.2 h'] at this; exact p2.n this.symm
  ·rw [Fu.2 h0] at p3; exact absurd p3.symm p1
 ·exact ⟨m,m1,m2,m3,m4,h0⟩
theorem Zg1 {q:List Int} {L:List (List Rat)} (hS:Stm (cz q) L) (tq:Uz q) (nq:q.length<=9) (lq:2<=q.length) {lo hi:Rat} (hl:lo<hi) (hv:vv L hi+2<=vv L lo):1<(hi-lo)*((2^(Tk q q+1):Nat):Rat):=by
 rcases Fh ((hi-lo)*((2^(Tk q q+1):Nat):Rat)) 1 with hw | hw
 ·exfalso;have hpow:(0:Rat)<=((2^(Tk q q+1):Nat):Rat):=Xh;obtain ⟨m,m1,m2,m3,m4,m0⟩:=Zka hS hl hv;obtain ⟨R,hR,r1,r2⟩:=Qpd lo hi;have hd:=Bi m0;obtain ⟨d,dp,_,db⟩:=Gu (b:=dqB R (cz q)) (d:=U5 (ev (cz q) m) / 2) (Me hR _) (Lt hd (by decide));have hd2:U5 (ev (cz q) m) / 2*2=U5 (ev (cz q) m):=Gs (by decide);have hmR:U5 m<=R:=Qee r1 r2 (Qq m1) (Qq m2);have hnear:∀ r,U5 r<=R->U5 (ev (cz q) r)<U5 (ev (cz q) m) / 2->d<U5 (r-m):=λr hr hs=>by
   rcases Fh (U5 (r-m)) d with h | h
   ·exfalso;have h1:=Po (p:=cz q) hmR hr hR h db;have h2:=Tt (ev (cz q) m-ev (cz q) r) (ev (cz q) r);rw [show ev (cz q) m-ev (cz q) r+ev (cz q) r=ev (cz q) m by grind,Q2h] at h2;grind
   ·exact h
  refine Q8y (R:=R+1) (d:=d+d) tq tq nq nq lq lq (by grind) (by grind) λe ep=>?_
  obtain ⟨e',ep',e1,e2⟩:=min2 (a:=e) (b:=U5 (ev (cz q) m) / 2) ep (Lt hd (by decide));obtain ⟨x,x1,x2,x3⟩:=Qrz hS m1 (by omega) ep';obtain ⟨y,y1,y2,y3⟩:=Qrz hS m2 (by omega) ep';have hxR:U5 x<=R:=Qee r1 r2 x1 (by grind);have hyR:U5 y<=R:=Qee r1 r2 (by grind) y2;have nx:=hnear x hxR (by grind);have ny:=hnear y hyR (by grind);have ex:U5 (x-m)=m-x:=by unfold U5; split <;> grind
  have ey:U5 (y-m)=y-m:=by unfold U5; split <;> grind
  rw [ex] at nx;rw [ey] at ny;have exy:U5 (x-y)=y-x:=by unfold U5; split <;> grind
  refine ⟨x,y,by grind,by grind,by rw [exy]; grind,?_,by rw [<-Ux]; grind,by rw [<-Ux]; grind⟩;rw [exy];exact Ze (Q8 (show y-x<=hi-lo by grind) hpow) hw
 ·exact hw
theorem Q71:∀ {k:Nat} {a b:List Int} {l:List (List Int)},chF k a b=some l->∀ p∈l,p.length≠0
 | 0,_,_,_,h=>by cases h
 |
  k+1,a,b,l,h=>by
  simp only [chF] at h
  split at h
  ·injection h with h; subst h; exact λp hp=>by cases hp
  ·rename_i h0;obtain ⟨r,_,h⟩:=Qf.1 h;obtain ⟨l',h1,h⟩:=Qf.1 h;injection h with h; subst h;intro p hp;rcases Qo.1 hp with rfl | hp
   ·exact h0
   ·exact Q71 h1 p hp
theorem Okp.pb {n s:Nat} {p:List Int} (h:Okp n s p) (hs:s<=16777216):Pb p:=⟨h.t,by have:=h.l; have:=h.z.1; omega,Us h.b hs⟩
theorem Q3z {p:List Int} {q:List Int} {l:List (List Int)} (hp:Pb p) (h:Ay p=some (q::l)) (hq:q.length≠0):∀ r∈q::l,Uz r/\r.length≠0:=by
 have h1:=(Orr.chain_ok hp h).2;unfold Ay at h;obtain ⟨a,_,h⟩:=Qf.1 h
 split at h
 ·cases h
 ·obtain ⟨d,_,h⟩:=Qf.1 h;obtain ⟨l',h3,h⟩:=Qf.1 h;injection h with h;injection h with e1 e2;subst e1; subst e2;intro r hr;refine ⟨(h1 r hr).t,?_⟩;rcases Qo.1 hr with rfl | hr
  ·exact hq
  ·exact Q71 h3 r hr
inductive RI (q:List Int) (L:List (List Rat)):Rat->List Tm->Rat->Prop
 | nil {lo hi:Rat} (h:lo<=hi) (hv:vv L lo=vv L hi):RI q L lo [] hi
 | cons {lo hi:Rat} {t:Tm} {l:List Tm} (h:lo<=t.lo) (hv:vv L lo=vv L t.lo) (ht:Vt (cz q) L t.lo t.hi) (hp:t.p=q) (hl:RI q L t.hi l hi):RI q L lo (t::l) hi
theorem RI.app {q:List Int} {L:List (List Rat)} {lo m hi:Rat} {l l':List Tm} (h:RI q L lo l m) (h':RI q L m l' hi):RI q L lo (l++l') hi:=by
 induction h with
 |
  nil h hv =>
  cases h' with
  | nil h2 hv2=>exact .nil (by grind) (by omega)
  | cons h2 hv2 ht hp hl=>exact .cons (by grind) (by omega) ht hp hl
 | cons h hv ht hp _ ih=>exact .cons h hv ht hp (ih h')
theorem Q74 {D M k:Nat} {m:Rat} (h:Gr D M k m) (hM:0<M) (hs:U6 (D:Int)+U6 (M:Int)+k<=16777216):chq m=some m:=by
 have:=Q07 h hM hs;unfold chq;rw [if_pos ⟨this.1,this.2⟩]
theorem Qi6 {q:List Int} {c:List (List Int)} (hS:Stm (cz q) (c.map cz)) (tq:Uz q) (nq:q.length<=9) (hc1:q.length<2->c=[q]) {D M:Nat} (hM:0<M):∀ (k j:Nat) (lo hi:Rat),lo<hi->Gr D M j lo->Gr D M j hi->U6 (D:Int)+U6 (M:Int)+(j+k)<=16777216->(hi-lo)*((2^(Tk q q+1):Nat):Rat)<=((2^k:Nat):Rat) ->
 ∃ l,Ed q c (k+1) lo hi ((vv (c.map cz) lo:Int)-(vv (c.map cz) hi:Int))=some l/\RI q (c.map cz) lo l hi/\∀ t∈l,∃ k',k'≤j+k/\Gr D M k' t.lo/\Gr D M k' t.hi:=by
 intro k
 induction k with
 |
  zero =>
  intro j lo hi hl g1 g2 hs hK;have hle:=Ek hS hl;have h2:vv (c.map cz) lo<vv (c.map cz) hi+2:=by
   rcases Za (vv (c.map cz) lo) (vv (c.map cz) hi+2) with h | h
   ·exact h
   ·exfalso;have lq:2<=q.length:=by
     rcases Za q.length 2 with e | e
     ·have hvv:∀ x,vv (c.map cz) x=vv (c.map cz) 0:=λx=>by
       rcases hS with ⟨c0,hc0,hcc,hl'⟩ | ⟨g',l',k',hk,hg,hsc,hl'⟩
       ·rw [hl']; simp only [vv,tc,hcc]
       ·rw [hc1 e] at hl'; cases hl'
      rw [hvv lo,hvv hi] at h; omega
     ·exact e
    have:=Zg1 hS tq nq lq hl h;rw [Vd] at hK;have h7:((1:Nat):Rat)=1:=rfl;rw [h7] at hK; grind
  simp only [Ed];by_cases e0:vv (c.map cz) lo=vv (c.map cz) hi
  ·rw [if_pos (by omega)];exact ⟨[],rfl,.nil (Qq hl) e0,λt ht=>by cases ht⟩
  ·rw [if_neg (by omega),if_pos (by omega)];refine ⟨[⟨q,lo,hi⟩],rfl,.cons Qp rfl ⟨hS,hl,by show vv _ lo=vv _ hi+1; omega⟩ rfl (.nil Qp rfl),λt ht=>?_⟩;rw [Qk.1 ht]; exact ⟨j,by omega,g1,g2⟩
 |
  succ k ih =>
  intro j lo hi hl g1 g2 hs hK;have hle:=Ek hS hl;show ∃ l,(if (vv (c.map cz) lo:Int)-(vv (c.map cz) hi:Int)=0 then some [] else if (vv (c.map cz) lo:Int)-(vv (c.map cz) hi:Int)=1 then some [⟨q,lo,hi⟩] else (chq (mid lo hi)).bind λm=>(Ed q c (k+1) lo m (Ry c lo m)).bind λl=>(Ed q c (k+1) m hi ((vv (c.map cz) lo:Int)-(vv (c.map cz) hi:Int)-Ry c lo m)).bind λr=>some (l++r))=some l/\_;by_cases e0:vv (c.map cz) lo=vv (c.map cz) hi
  ·rw [if_pos (by omega)];exact ⟨[],rfl,.nil (Qq hl) e0,λt ht=>by cases ht⟩
  by_cases e1:vv (c.map cz) lo=vv (c.map cz) hi+1
  ·rw [if_neg (by omega),if_pos (by omega)];refine ⟨[⟨q,lo,hi⟩],rfl,.cons Qp rfl ⟨hS,hl,e1⟩ rfl (.nil Qp rfl),λt ht=>?_⟩;rw [Qk.1 ht]; exact ⟨j,by omega,g1,g2⟩
  ·rw [if_neg (by omega),if_neg (by omega)];obtain ⟨m,hm⟩:=nmE ((lo+hi) / 2);have h2:(lo+hi) / 2*2=lo+hi:=Gs (by decide);rw [<-hm] at h2;have gm:Gr D M (j+1) m:=by rw [hm]; exact Q9c g1 g2
   have l1:lo<m:=by grind
   have l2:m<hi:=by grind
   rw [Qxw,<-hm,Q74 gm hM (by omega)];show ∃ l,((Ed q c (k+1) lo m (Ry c lo m)).bind λl=>(Ed q c (k+1) m hi ((vv (c.map cz) lo:Int)-(vv (c.map cz) hi:Int)-Ry c lo m)).bind λr=>some (l++r))=some l/\_;rw [Iw (Qq l1),show (vv (c.map cz) lo:Int)-(vv (c.map cz) hi:Int)-((vv (c.map cz) lo:Int)-(vv (c.map cz) m:Int))=(vv (c.map cz) m:Int)-(vv (c.map cz) hi:Int) by omega];rw [Quz k] at hK;have hp:∀ x y:Rat,(y-x)*2=hi-lo->(y-x)*((2^(Tk q q+1):Nat):Rat)<=((2^k:Nat):Rat):=λx y h=>by
    have:(y-x)*((2^(Tk q q+1):Nat):Rat)*2=(hi-lo)*((2^(Tk q q+1):Nat):Rat):=by rw [<-h]; grind
    grind
   obtain ⟨la,a1,a2,a3⟩:=ih (j+1) lo m l1 (Qnx g1) gm (by omega) (hp lo m (by grind));obtain ⟨lb,b1,b2,b3⟩:=ih (j+1) m hi l2 gm (Qnx g2) (by omega) (hp m hi (by grind));rw [a1];show ∃ l,((Ed q c (k+1) m hi ((vv (c.map cz) m:Int)-(vv (c.map cz) hi:Int))).bind λr=>some (la++r))=some l/\_;rw [b1];refine ⟨la++lb,rfl,a2.app b2,λt ht=>?_⟩;rcases Qu.1 ht with ht | ht
   ·obtain ⟨k',h1,h2,h3⟩:=a3 t ht; exact ⟨k',by omega,h2,h3⟩
   ·obtain ⟨k',h1,h2,h3⟩:=b3 t ht; exact ⟨k',by omega,h2,h3⟩
theorem Zj1 {D M k:Nat} {q:Rat} (h:Gr D M k q):Gr D M k (-q):=by
 obtain ⟨u,hu⟩:=h.u;exact ⟨⟨-u,by rw [Vp,<-hu]; grind⟩,by rw [D8]; exact h.b,h.d⟩
theorem Qtz {m s:Nat} (h:m<2^s):U6 ((m+1:Nat):Int)<=s+1:=by
 rw [Tz,Z9,Zn]; omega
theorem Q4o {z:Int} {s:Nat} (h:U6 z<=s):U6 ((z.natAbs+1:Nat):Int)<=s+1:=Qtz (Tz.1 h)
theorem Zgr {x:Rat} {m s g N:Nat} (hx:x<=2*((m+1:Nat):Rat)) (hm:m+1<=2^s) (hN:s+1+g<=N):x*((2^g:Nat):Rat)<=((2^N:Nat):Rat):=by
 have h3:=Zg.2 hm;have e:=Quz s;have h4:(0:Rat)<=((2^s:Nat):Rat):=Xh;have h1:x<=((2^(s+1):Nat):Rat):=by rw [e]; grind
 have h5:(0:Rat)<=((2^g:Nat):Rat):=Xh;refine Ze (Q8 h1 h5) ?_;have h6:2^(s+1)*2^g<=2^N:=by
  rw [<-Xb]; exact Zw (by decide) hN
 have:=Zg.2 h6;rw [Rat.natCast_mul] at this;exact this
theorem Zdg {s:Nat} {l:List Int} (h:Bd s l):most l<2^s:=by
 have key:∀ (l:List Int) (m:Nat),m<2^s->Bd s l->l.foldl (λm z=>if m<z.natAbs then z.natAbs else m) m<2^s:=by
  intro l
  induction l with
  | nil=>exact λm h _=>h
  |
   cons y l ih =>
   intro m hm hb;simp only [Z5];refine ih _ ?_ λz hz=>hb z (Qj _ hz)
   have:=hb y (Qx ..);rw [Tz] at this
   split <;> assumption
 exact key l 0 (Z1 (by decide)) h
theorem Zbd {p:List Int} (h:Okp 9 900 p):∃ q c l,P9 p=some q/\Ay p=some c/\Qon p=some l/\Stm (cz q) (c.map cz)/\RI q (c.map cz) (-Gy q) l (Gy q)/\(∀ t∈l,Va t)/\(∀ x y,x<y->Gy q≤x\/y≤-Gy q->vv (c.map cz) x=vv (c.map cz) y):=by
 obtain ⟨pp,By,hpb⟩:=h.pr;obtain ⟨g,q',hq',sq⟩:=Qb9 h;obtain ⟨q,l,q1,q2,hS,hl0⟩:=chain_ok h;rw [hq'] at q1;injection q1 with q1;subst q1;have e1:∀ t,Uw (U7 p) t=Uw q' t*Uw g t:=λt=>by rw [sq.e]; grind
 obtain ⟨p1,p2⟩:=Ru pp.t pp.n e1;have hll:=P7 sq.pq.t sq.pg.t pp.t e1 p1 p2;have hl9:=h.l;have bq:Bd 969 q':=Qam hpb (by omega) pp.t sq.pq.t sq.pg.t pp.n e1;have hall:=Q3z (h.pb (by omega)) q2 sq.pq.n;have hld:U9 q'≠0:=by have:=sq.pq.l; omega
 have hb1:=Qfv hld;obtain ⟨D,hD⟩:=nmE ((U9 q').natAbs);obtain ⟨m,hm⟩:=nmE (most (q'.take (q'.length-1)));have hm2:m<2^969:=by rw [hm]; exact Zdg (s:=969) λz hz=>bq z (Qm hz)
 have hD0:0<D:=by omega
 have hDs:U6 (D:Int)<=969:=by
  have:=Mj bq;rw [Tz] at this ⊢;rw [Z9,hD]; exact this
 have hbe:=Qjq hld;rw [<-hD,<-hm] at hbe;have hDq:=nat_pos hD0;have hbm:Gy q'<=((m+1:Nat):Rat):=by
  have hD1:(1:Rat)<=(D:Rat):=by
   have:((1:Nat):Rat)<=(D:Rat):=Zg.2 hD0;exact this
  have hm0:(0:Rat)<=(m:Rat):=Xh;have h3:=Nx (a:=(m:Rat)) (c:=1) hm0 Qp (by decide) hD1;rcases Fh (Gy q') ((m+1:Nat):Rat) with h' | h'
  ·exact h'
  ·exfalso;have:=V6 h' hDq
   push_cast at this; grind
 have gb:Gr D (m+1) 0 (Gy q'):=by
  refine ⟨⟨(D+m:Nat),?_⟩,?_,hD0⟩
  ·rw [Vd,Yq,hbe];rw [show ((((D+m:Nat):Int)):Rat)=((D+m:Nat):Rat) from rfl]; push_cast; rfl
  ·have:U5 (Gy q')=Gy q':=by unfold U5; rw [if_neg (by grind)]
   rw [this]; exact hbm
 have hMs:U6 ((m+1:Nat):Int)<=970:=Qtz (s:=969) hm2;have hK:(Gy q' - -Gy q')*((2^(Tk q' q'+1):Nat):Rat)<=((2^99999:Nat):Rat):=by
  have hps:=Il bq;have hg:Tk q' q'<=1964*31:=by
   unfold Tk;exact Zf (by omega) (by omega)
  exact Zgr (s:=969) (g:=Tk q' q'+1) (N:=99999) (by grind) hm2 (by omega)
 have hN:U6 (D:Int)+U6 ((m+1:Nat):Int)+(0+99999)<=16777216:=by omega
 obtain ⟨ls,r1,r2,r3⟩:=Qi6 hS sq.pq.t (by omega) (λh=>by rw [hl0 h]) (Nat.succ_pos m) 99999 0 (-Gy q') (Gy q') (by grind) (Zj1 gb) gb hN hK;have hchq:chq (Gy q')=some (Gy q'):=Q74 gb (Nat.succ_pos m) (by omega);refine ⟨q',q'::l,ls,hq',q2,?_,hS,r2,λt ht=>?_,λx y hxy hb=>Qza hS sq.pq.t sq.pq.n hxy hb (by grind)⟩
 ·unfold Qon;rw [q2,hq'];show (chq (Gy q')).bind _=_;rw [hchq];show Ed q' (q'::l) 100000 (-Gy q') (Gy q') (Qba (q'::l))=_;rw [Q5b hS hall];exact r1
 ·obtain ⟨k',k1,k2,k3⟩:=r3 t ht;have hmem:∀ {lo hi:Rat} {ls:List Tm},RI q' ((q'::l).map cz) lo ls hi->t∈ls->Vt (cz q') ((q'::l).map cz) t.lo t.hi/\t.p=q':=λh=>by
   induction h with
   | nil=>intro ht; cases ht
   |
    cons h hv ht' hp hl ih =>
    intro ht;rcases Qo.1 ht with rfl | ht
    ·exact ⟨ht',hp⟩
    ·exact ih ht
  obtain ⟨v1,v2⟩:=hmem r2 ht;have lq2:2<=q'.length:=by
   rcases Za q'.length 2 with e | e
   ·exfalso;have hvv:∀ x,vv ((q'::l).map cz) x=0:=λx=>by
     rw [hl0 e,sq.pq.one e];have hv1:∀ x:Rat,ev (cz [1]) x=1:=λx=>by rw [Ux,Ms]
     simp only [Z0,Jf,vv,tc,hv1];have:U4 1=1:=by decide
     rw [this]; decide
    have:=v1.v;rw [hvv,hvv] at this; omega
   ·exact e
  refine ⟨.inr ⟨_,by rw [v2]; exact v1⟩,by rw [v2]; exact sq.pq.t,by rw [v2]; omega,by rw [v2]; exact lq2,by rw [v2]; exact Us bq (by omega),λ_=>by rw [v2]; exact Us bq (by omega),D,m+1,k',k2,k3,Nat.succ_pos m,by omega⟩
theorem Dz {q:List Int} {L:List (List Rat)} (hS:Stm (cz q) L) {c:Rat->Int} (hc:Cut c) {lo:Rat} (hH:∀ z,c z=-1->z<=lo->vv L z=vv L lo) {y0:Rat} (hy:c y0=-1) (hv:∀ z,lo<z->z<=y0->vv L z=vv L lo):∃ s,s≠0/\∀ z,c z=-1->z<=y0->U4 (ev (cz q) z)=s:=by
 have hall:∀ z,c z=-1->z<=y0->vv L z=vv L lo:=λz h1 h2=>by
  rcases Fh z lo with e | e
  ·exact hH z h1 e
  ·exact hv z e h2
 have hne:∀ z,c z=-1->z<=y0->U4 (ev (cz q) z)≠0:=λz h1 h2=>by
  obtain ⟨w,w1,w2⟩:=hc.dn z h1;have:=Qr6 hS w1 (by rw [hall w w2 (by grind),hall z h1 h2]);rw [this.s]; exact this.n
 refine ⟨U4 (ev (cz q) y0),hne y0 hy Qp,λz h1 h2=>?_⟩;rcases Classical.em (z=y0) with e | e
 ·rw [e]
 ·have:=Qr6 hS (x:=z) (y:=y0) (by grind) (by rw [hall z h1 h2,hall y0 hy Qp]);rw [this.s,L9 (hne z h1 h2)]
structure Fst (o:List Int) (a t:Tm):Prop where
 lt:Pj a t
 s:∃ s,s≠0/\(∀ z,Fe a z=-1->Fe t z=1->U4 (ev (cz o) z)=s)/\RS (cz o) (Fe t) (-s)
def Non (o:List Int) (a:Tm):Prop:=∃ s,s≠0/\∀ z,Fe a z=-1->U4 (ev (cz o) z)=s
theorem Q4x {q:List Int} {L:List (List Rat)} (hS:Stm (cz q) L) {a:Tm} (ha:Va a) {lo hi:Rat} {l:List Tm} (hR:RI q L lo l hi):(∀ t∈l,Va t)->(∀ z,hi<z->vv L z=vv L hi)->(∀ z,Fe a z=-1->z≤lo->vv L z=vv L lo)->∃ r,Qco a l=some r/\match r with
 | none=>Non q a
 | some t=>t∈l/\Fst q a t:=by
 have ca:=ha.cut
 induction hR with
 |
  @nil lo hi h hv =>
  intro _ hhi hH;refine ⟨none,rfl,?_⟩;obtain ⟨y1,hy1⟩:=ca.hi;have hall:∀ z,lo<z->vv L z=vv L lo:=λz hz=>by
   rcases Fh z hi with e | e
   ·have h1:=Ek hS hz;have h2:vv L hi<=vv L z:=by
     rcases Classical.em (z=hi) with e' | e'
     ·rw [e']; exact Ql _
     ·exact Ek hS (by grind)
    omega
   ·rw [hhi z e,hv]
  obtain ⟨s,s0,hs⟩:=Dz hS ca hH hy1 λz h1 _=>hall z h1
  refine ⟨s,s0,λz hz=>?_⟩;rcases Fh z y1 with e | e
  ·exact hs z hz e
  ·obtain ⟨s',s0',hs'⟩:=Dz hS ca hH hz λz h1 _=>hall z h1
   rw [hs' z hz Qp,<-hs' y1 hy1 (Qq e),hs y1 hy1 Qp]
 |
  @cons lo hi t l h hv ht hp hl ih =>
  intro hV hhi hH;have hvt:=hV t (Qx ..);have ct:=hvt.cut;have ht':=ht;rw [<-hp] at ht';have ect:∀ z,Fe t z=cq (cz t.p) t.lo t.hi z:=Ns ht.l;obtain ⟨c,c1,c2⟩:=Qis hvt ha;show ∃ r,((Qj5 t a).bind λc=>if 0<c then some (some t) else Qco a l)=some r/\_;rw [c1];show ∃ r,(if 0<c then some (some t) else Qco a l)=some r/\_;have hlo1:Fe t t.lo=1:=by rw [ect]; exact Lq Qp
  have hlow:∀ z,lo<z->Fe t z=1->vv L z=vv L lo:=λz h1 h2=>by
   rcases Fh z t.lo with e | e
   ·have a1:=Ek hS h1;have a2:vv L t.lo<=vv L z:=by
     rcases Classical.em (z=t.lo) with e' | e'
     ·rw [e']; exact Ql _
     ·exact Ek hS (by grind)
    omega
   ·rw [ect] at h2;have hz:z<=t.hi:=by
     rcases Fh z t.hi with e' | e'
     ·exact e'
     ·rw [Qd2 ht.l e'] at h2; omega
    rw [ht'.eq_lo e hz h2,hv]
  by_cases hc:0<c
  ·rw [if_pos hc];refine ⟨some t,rfl,Qx ..,?_⟩;have hlt:Pj a t:=by
    rcases c2 with ⟨e,_⟩ | ⟨e,_⟩ | ⟨_,h⟩
    ·omega
    ·omega
    ·exact h
   refine ⟨hlt,?_⟩;obtain ⟨m,m1,m2⟩:=hlt;obtain ⟨s,s0,hs⟩:=Dz hS ca hH m1 λz h1 h2=>hlow z h1 (by
    rcases Classical.em (z=m) with e | e
    ·rw [e]; exact m2
    ·exact ct.mono' (q:=z) (r:=m) (by grind) (by omega))
   have hall:∀ z,Fe a z=-1->Fe t z=1->U4 (ev (cz q) z)=s:=λz h1 h2=>by
    rcases Fh z m with e | e
    ·exact hs z h1 e
    ·obtain ⟨s',s0',hs'⟩:=Dz hS ca hH h1 λw w1 w2=>hlow w w1 (by
      rcases Classical.em (w=z) with e | e
      ·rw [e]; exact h2
      ·exact ct.mono' (q:=w) (r:=z) (by grind) (by omega))
     rw [hs' z h1 Qp,<-hs' m m1 (Qq e),hs m m1 Qp]
   refine ⟨s,s0,hall,?_⟩;obtain ⟨w,w1,w2,w3⟩:=Qj9 ct m2 hlo1;have hwa:Fe a w=-1:=ca.mono m w w2 (by omega);have hsw:=hall w hwa w1;have hwh:w<t.hi:=by
    rw [ect] at w1;rcases Fh t.hi w with e | e
    ·have:=ht'.hi1;rcases Classical.em (t.hi=w) with e' | e'
     ·rw [<-e'] at w1; exact absurd w1 this
     ·rw [Qd2 ht.l (by grind)] at w1; omega
    ·exact e
   have hww:vv L w=vv L t.lo:=ht'.eq_lo w3 (Qq hwh) (by rw [<-ect]; exact w1);have hvv:=ht.v;have hone:=Qr5 hS hwh (by omega);have hlw:Sy (cz q) w=s:=by rw [L9 (by rw [hsw]; exact s0),hsw]
   rw [hlw] at hone;have hd:∀ z,w<z->z<=t.hi->Fe t z=-1->U4 (ev (cz q) z)=-s:=λz z1 z2 z3=>by
    rw [ect] at z3;have e1:=ht'.eq_hi (by grind) z2 (by omega);have e2:=Qr5 hS z1 (by omega);rw [hlw] at e2;have hz0:U4 (ev (cz q) z)≠0:=by
     rw [Ae (by grind) z2,hp] at z3;intro h0;rw [if_pos h0] at z3; omega
    rw [L9 hz0] at e2; exact e2.2
   rcases ct.val t.hi with e | e | e
   ·rw [ect] at e; exact absurd e ht'.hi1
   ·obtain ⟨d,dp,hd'⟩:=Zmr (p:=cz q) (x:=t.hi) (by rw [hone.2]; omega);refine ⟨t.hi+d,ct.mono t.hi _ (by grind) (by omega),λz h1 h2=>?_⟩;have hz:t.hi<z:=by
     rcases Fh z t.hi with e' | e'
     ·rcases Classical.em (z=t.hi) with e'' | e''
      ·rw [e''] at h1; omega
      ·have:=ct.mono z t.hi (by grind) (by omega); omega
     ·exact e'
    rw [hd' z hz (by grind),hone.2]
   ·exact ⟨t.hi,e,λz h1 h2=>hd z (ct.lt w1 h1) h2 h1⟩
  ·rw [if_neg hc];have hle:¬Pj a t:=λh=>by
    rcases c2 with ⟨e,h'⟩ | ⟨e,h'⟩ | ⟨e,_⟩
    ·exact Qda ct ca h' h
    ·obtain ⟨z,z1,z2⟩:=h;have:=h' z; omega
    ·omega
   obtain ⟨r,r1,r2⟩:=ih (λx hx=>hV x (Qj _ hx)) hhi λz z1 z2=>by
    have hz:Fe t z≠1:=λh=>hle ⟨z,z1,h⟩
    have hzl:t.lo<z:=by
     rcases Fh z t.lo with e | e
     ·refine absurd ?_ hz;rw [ect]; exact Lq e
     ·exact e
    exact ht'.eq_hi hzl z2 (by rw [<-ect]; exact hz)
   refine ⟨r,r1,?_⟩;cases r with
   | none=>exact r2
   | some x=>exact ⟨Qj _ r2.1,r2.2⟩
theorem Zid {c:Rat->Int} (hc:Cut c):∀ (n:Nat) (f:List Rat),HD f n->∃ s,s≠0/\RS f c s
 |
  n,f,h=>by
  rcases Qbj hc f with hv | ⟨s,hs,hn⟩
  ·cases n with
   |
    zero =>
    exfalso;obtain ⟨q,hq,_⟩:=Qug hc (hv (U5 (f.getD 0 0)) (Bi h.1));cases f with
    | nil=>exact h.1 (by simp)
    |
     cons a l =>
     have:=C7 (p:=l) λk=>by have:=h.2 (k+1) (by omega); rwa [Q3] at this
     simp only [ev,this,Zp] at hq; grind
   |
    succ n =>
    have hd:HD (M5 f) n:=by
     have key:∀ (f:List Rat) (k:Nat),(M5 f).getD k 0=((k+1:Nat):Rat)*f.getD (k+1) 0:=by
      intro f
      induction f with
      | nil=>intro k; simp only [M5,Kz]; grind
      |
       cons a f ih =>
       intro k;simp only [M5];rw [H7,Q3];cases k with
       | zero=>rw [Zp]; push_cast; grind
       | succ k=>rw [Q3,ih]; push_cast; grind
     refine ⟨λh0=>?_,λk hk=>by rw [key,h.2 (k+1) (by omega)]; grind⟩;rw [key] at h0;rcases Yw.1 h0 with h1 | h1
     ·have:=nat_pos (show 0<n+1 by omega); grind
     ·exact h.1 h1
    obtain ⟨s,hs,h1⟩:=Zid hc n (M5 f) hd;exact ⟨s,hs,Qrl hc hv h1 hs⟩
  ·exact ⟨s,hs,Qop hc hn⟩
theorem Zbg {c:Rat->Int} (hc:Cut c) {f p q:List Rat} {s s':Int} (hf:∀ t,ev f t=ev p t*ev q t) (h:RS p c s) (h':RS q c s'):RS f c (s*s'):=by
 obtain ⟨y,h1,h2⟩:=h;obtain ⟨y',h3,h4⟩:=h';refine ⟨if y<=y' then y else y',by split <;> assumption,λz z1 z2=>?_⟩;rw [hf,Tv,h2 z z1 (by clear h2 h4; grind),h4 z z1 (by clear h2 h4; grind)]
theorem Zbh {c:Rat->Int} (hc:Cut c) {f o S:List Rat} {k:Rat} (hk:k≠0) (hf:∀ t,ev f t=k*(ev o t*(ev S t*ev S t))) (hnz:¬∀ t,ev f t=0) {s:Int} (h:RS o c s):RS f c (U4 k*s):=by
 obtain ⟨n,_,hn⟩:∃ n,n<S.length/\HD S n:=by
  rcases Qk3 S with h1 | h1
  ·exact absurd (λt=>by rw [hf,h1]; grind) hnz
  ·exact h1
 obtain ⟨s',hs',h'⟩:=Zid hc n S hn;have h1:=Zbg hc (f:=Gk S S) (λt=>U3 t _ _) h' h';have h2:=Zbg hc (f:=Gk o (Gk S S)) (λt=>U3 t _ _) h h1;have hsq:s'*s'=1:=by
  obtain ⟨y,y1,y2⟩:=h';have:=y2 y y1 Qp;rcases Fp (ev S y) with ⟨e,_⟩ | ⟨e,_⟩ | ⟨e,_⟩
  ·rw [<-this,e]; rfl
  ·omega
  ·rw [<-this,e]; rfl
 rw [hsq,Ww] at h2;obtain ⟨y,y1,y2⟩:=h2;exact ⟨y,y1,λz z1 z2=>by
  have:=y2 z z1 z2;rw [U3,U3] at this;rw [hf,Tv,this]⟩
structure Cp (p:List Int):Prop where
 t:Uz p
 l:p.length<=9
 b:Bd 800 p
theorem Cp.dp {p:List Int} (h:Cp p):Dp p:=⟨h.t,h.l,Us h.b (by omega)⟩
theorem Cp.ok {p:List Int} (h:Cp p) (h0:p.length≠0):Okp 9 900 p:=h.dp.ok h0
def Leq (a:Tm) (c:Rat->Int):Prop:=∀ q,c q=-1->Fe a q=-1
def Sw (p:List Int) (a:Tm):Option Tm->Prop
 | none=>p=[]\/∃ s,s≠0/\∀ c,Cut c->Leq a c->RS (cz p) c s
 | some t=>p≠[]/\Va t/\Pj a t/\∃ s,s≠0/\(∀ c,Cut c->Leq a c->(∃ m,c m=-1/\Fe t m=1)->RS (cz p) c s)/\RS (cz p) (Fe t) (-s)
theorem RI.len {q:List Int} {L:List (List Rat)} {lo hi:Rat} {l:List Tm} (h:RI q L lo l hi):l.length+vv L hi<=vv L lo:=by
 induction h with
 | nil h hv=>simp; omega
 | cons h hv ht hp hl ih=>have:=ht.v; simp only [Q7]; omega
theorem Zce (x:Rat):∀ (L:List (List Rat)) (s:Int),tc x s L<=L.length
 | [],_=>Ql _
 |
  f::l,s=>by
  have h1:=Zce x l;simp only [tc,Q7]
  repeat' split
  all_goals (first | (have:=h1 s; omega) | (have:=h1 (U4 (ev f x)); omega))
theorem Zlf (L:List (List Rat)) (x:Rat):vv L x<=L.length:=Zce x L 0
theorem Qbi {p:List Int} (h:Cp p):∃ l,Qdm p=some l/\l.length≤67/\(∀ t∈l,Va t)/\∀ a,Va a->∃ r,Qco a l=some r/\Sw p a r/\∀ t,r=some t->t∈l:=by
 unfold Qdm;by_cases h0:p.length=0
 ·have e:p=[]:=Qi h0;subst e;exact ⟨[],rfl,by decide,(λt ht=>by cases ht),λa _=>⟨none,rfl,.inl rfl,λt ht=>by cases ht⟩⟩
 ·obtain ⟨qp,o,q1,o1,hpt⟩:=Zaa (n:=9) (s:=800) (p:=p) ⟨⟨by decide,by decide⟩,h.t,h0,h.l,h.b⟩;obtain ⟨g,sq⟩:=hpt.sq;obtain ⟨S,hS⟩:=hpt.os;obtain ⟨p1,p2,p3,p4,p5,p6,p7⟩:=Be h.t h0;have By:=h.l;obtain ⟨hh,th,eh⟩:=hpt.oh;have bo:Bd 869 o:=Qam (p5 800 h.b) (by omega) p1 hpt.ot th (by omega) eh;obtain ⟨lo1,lo2⟩:=Ru p1 (by omega) eh;have hlen:=P7 hpt.ot th p1 eh lo1 lo2;have oko:Okp 9 900 o:=⟨Q11,hpt.ot,by omega,by omega,Us bo (by omega)⟩;obtain ⟨q,c,l,r1,r2,r3,hSt,hRI,hVa,hout⟩:=Zbd oko;obtain ⟨g',q',s1,s2⟩:=Qb9 oko;rw [r1] at s1;injection s1 with s1;subst s1;obtain ⟨_,_,_,_,_,o6,o7⟩:=Be hpt.ot (by omega);have hg1:g'=[1]:=by
   refine s2.pg.one ?_;obtain ⟨E,hE⟩:=hpt.oq;have hE:∀ t,Uw qp t=Uw o t*ev E t:=λt=>by have:=hE t; rwa [Ux,Ux] at this
   obtain ⟨z,hz⟩:=s2.d;have hd1:∀ t,Uw o t=Uw g' t*(G7 o*Uw q t):=λt=>by rw [o7,s2.e]; grind
   have hdo:∀ t,dv (cz o) t=Uw g' t*(G7 o*ev z t):=λt=>by
    have:=Q8k (p:=cz o) (q:=C0 (G7 o) (cz (U7 o))) (λt=>by rw [Ux,Fy,Ux,o7]) t;rw [this,Qf7,hz]; grind
   obtain ⟨k,hk,hkk⟩:=sq.num (d:=cz g') ⟨Gk (C0 (G7 o) (cz q)) E,λt=>by rw [Ux,Ux,hE,hd1,U3,Fy,Ux]; grind⟩ ⟨Tu (Gk (C0 (G7 o) z) E) (Gk (C0 (G7 o) (cz q)) (M5 E)),λt=>by
    have:=I7 (f:=cz qp) (w:=cz o) (u:=E) (λt=>by rw [Ux,Ux,hE]) t;rw [Rz,this,hdo,Ux,Ux,hd1,Gg,U3,U3,Fy,Fy,Rz,Ux]; grind⟩
   rcases Za g'.length 2 with e | e
   ·exact e
   ·exfalso;have h1:=(Qhq s2.pg.t (by omega)).1;have h2:=Cw (p:=cz g') (q:=[k]) (λt=>by rw [hkk]; simp only [ev]; grind) (g'.length-1);rw [h2,Qg,Qt (by simp; omega)] at h1;exact h1 rfl
  have hpq:∀ t,ev (cz p) t=((G7 p:Rat)*(G7 o:Rat))*(ev (cz q) t*(ev S t*ev S t)):=λt=>by
   rw [Ux,Ux,p7,hS,o7,s2.e,hg1,Ms]; grind
  have hk0:(G7 p:Rat)*(G7 o:Rat)≠0:=λh=>(Yw.1 h).elim (Qaq p6) (Qaq o6)
  have hpz:¬∀ t,ev (cz p) t=0:=λh'=>Qhi h.t (by omega) λt=>by rw [<-Ux]; exact h' t
  obtain ⟨k,hk⟩:=nmE (U4 ((G7 p:Rat)*(G7 o:Rat)));have hkn:k≠0:=λh=>hk0 (Fu.1 (by rw [<-hk]; exact h))
  have ho:o.length≠0:=by omega
  rw [o1];show ∃ l,(if o.length=0 then some [] else Qon o)=some l/\l.length<=67/\_;rw [if_neg ho];have hb1:=Qfv (D5 s2.pq.t s2.pq.n);have hll:=hRI.len;have hlv:=Zlf (c.map cz) (-Gy q);have hcl:=(Orr.chain_ok (p:=o) ⟨hpt.ot,by omega,Us bo (by omega)⟩ r2).1;rw [Q6] at hlv;refine ⟨l,r3,by omega,hVa,λa ha=>?_⟩;obtain ⟨r,n1,n2⟩:=Q4x hSt ha hRI hVa (λz hz=>(hout _ _ hz (.inl Qp)).symm) λz _ hz=>by
   rcases Classical.em (z=-Gy q) with e | e
   ·rw [e]
   ·exact hout z _ (by grind) (.inr Qp)
  refine ⟨r,n1,?_,λt ht=>by subst ht; exact n2.1⟩;cases r with
  |
   none =>
   obtain ⟨s,hs,hz⟩:=n2;refine .inr ⟨k*s,Jh hkn hs,λc hc hac=>?_⟩;obtain ⟨y,hy⟩:=hc.hi;have h1:RS (cz q) c s:=⟨y,hy,λz z1 _=>hz z (hac z z1)⟩;rw [hk]; exact Zbh hc hk0 hpq hpz h1
  |
   some t =>
   obtain ⟨hm,hlt,s,hs,hz,hrs⟩:=n2;refine ⟨λe=>h0 (by rw [e]; rfl),hVa t hm,hlt,k*s,Jh hkn hs,λc hc hac ⟨m,m1,m2⟩=>?_,?_⟩
   ·have h1:RS (cz q) c s:=⟨m,m1,λz z1 z2=>hz z (hac z z1) (by
     rcases Classical.em (z=m) with e | e
     ·rw [e]; exact m2
     ·exact (hVa t hm).cut.mono' (q:=z) (r:=m) (by grind) (by omega))⟩
    rw [hk]; exact Zbh hc hk0 hpq hpz h1
   ·have:=Zbh (hVa t hm).cut hk0 hpq hpz hrs;rw [<-hk] at this;rw [show -(k*s)=k*-s by rw [Kw]]; exact this
theorem Q94 {p:List Int} (h:Cp p) {a:Tm} (ha:Va a):∃ r,Qhw p a=some r/\Sw p a r:=by
 obtain ⟨l,l1,_,_,l3⟩:=Qbi h;obtain ⟨r,r1,r2,_⟩:=l3 a ha;refine ⟨r,?_,r2⟩;unfold Qhw;rw [l1]; exact r1
theorem Qgn:∀ (l:List Tm) (b:Tm),(∀ t∈b::l,Va t)->∃ m,Oe b l=some m/\m∈b::l/\∀ t∈b::l,¬Pj t m
 |
  [],b,h=>⟨b,rfl,Qx ..,λt ht h'=>by
  rw [Qk.1 ht] at h';have hb:=(h b (Qx ..)).cut;exact Qda hb hb h' h'⟩
 |
  a::l,b,h=>by
  have ha:=h a (by simp);have hb:=h b (by simp);obtain ⟨c,c1,c2⟩:=Qis ha hb;obtain ⟨m,m1,m2,m3⟩:=Qgn l (if c<0 then a else b) λt ht=>by
   rcases Qo.1 ht with rfl | ht
   ·split <;> assumption
   ·exact h t (by simp [ht])
  refine ⟨m,by simp only [Oe]; rw [c1]; exact m1,?_,λt ht=>?_⟩
  ·rcases Qo.1 m2 with e | e
   ·rw [e]; split <;> simp
   ·simp [e]
  ·have hm:Va m:=by
    rcases Qo.1 m2 with e | e
    ·rw [e]; split <;> assumption
    ·exact h m (by simp [e])
   have hfst:=m3 _ (Qx ..);have tr:∀ x y:Tm,Va x->Va y->¬Pj x y->¬Pj y m->¬Pj x m:=λx y hx hy h1 h2 h3=>by
    rcases tri hy.cut hm.cut with h4 | h4 | h4
    ·exact h2 h4
    ·obtain ⟨q,q1,q2⟩:=h3;exact h1 ⟨q,q1,by rw [h4]; exact q2⟩
    ·obtain ⟨q,q1,q2⟩:=h3;obtain ⟨r,r1,r2⟩:=h4;have:=hm.cut.lt q2 r1;exact h1 ⟨q,q1,hy.cut.mono' this (by omega)⟩
   rcases Qo.1 ht with rfl | ht
   ·by_cases hc:c<0
    ·rw [if_pos hc] at hfst;refine tr _ a hb ha ?_ hfst;rcases c2 with ⟨_,h'⟩ | ⟨e,_⟩ | ⟨e,_⟩
     ·exact λh''=>Qda ha.cut hb.cut h' h''
     ·omega
     ·omega
    ·rw [if_neg hc] at hfst; exact hfst
   ·rcases Qo.1 ht with rfl | ht
    ·by_cases hc:c<0
     ·rw [if_pos hc] at hfst; exact hfst
     ·rw [if_neg hc] at hfst;refine tr _ b ha hb ?_ hfst;rcases c2 with ⟨e,_⟩ | ⟨_,h'⟩ | ⟨_,h'⟩
      ·omega
      ·rintro ⟨q,q1,q2⟩
       have:=h' q; omega
      ·exact λh''=>Qda ha.cut hb.cut h'' h'
    ·exact m3 t (by simp [ht])
end Orq
namespace Orr
open Go Go.Proofs Orq
set_option maxRecDepth 10000
theorem Dp.pb {p:List Int} (h:Dp p):Pb p:=⟨h.t,by have:=h.l; omega,Us h.b (by have:=h.l; omega)⟩
theorem Zl9 {p:List Int} {a:Tm} (hp:Dp p) (ha:Va a):Ut Tryz.prog 169 [pr p,.agg (ta a)] [.one (.int .i64 (G0 a p))]:=Zdi (Dp.pb hp) ha.tb (Zbo hp ha).1
theorem Zlz {p:List Int} {a:Tm} (hp:Dp p) (ha:Va a):Ut Tryz.prog 168 [pr p,.one (.sh (ta a))] [.one (.int .i64 (G0 a p))]:=w tt Tryz.func168 rfl [.c [] (Zl9 hp ha)] rfl rfl trivial
theorem Zd1 {p:List Int} {fid:Nat} {l1:List LV} {sgn:List Int->Int} (hp:Dp p) (h:∀ p,Dp p->Ut Tryz.prog fid [pr p,.one (.sh l1)] [.one (.int .i64 (sgn p))]):Ut Tryz.prog 167 [pr p,.one (.fn fid [] [.sh l1])] [.one (.int .i64 (Su sgn p.length p))]:=by
 have hpb:=Dp.pb hp;refine Gv Tryz.func167 rfl ?_;refine go tt [.c [] (Hm hpb.t hpb.ln hpb.bd)] rfl trivial ?_;refine lp (S:=List Int) 0 (λL1 s=>(0,.v (pr s))::L1) (λ_=>[]) (λs=>s.length) (λs=>Dp s/\Su sgn s.length s=Su sgn p.length p) p ⟨hp,rfl⟩ rfl (λ_ _=>rfl) rfl λr ⟨j1,j4⟩=>?_
 rw [<-j4];have jb:=Dp.pb j1;by_cases h0:r.length=0
 ·have e:=Qhp sgn h0;rw [e];exact en tt [.f (by simp; exact Qi h0)] rfl rfl trivial
 ·have hs:=h r j1;by_cases hz:sgn r=0
  ·have hlp:=Pn r;refine go tt [.t (by simp; omega),.c [] hs,.f (by simpa using hz),.c [] (As jb.ln jb.bd)] rfl trivial ?_;exact rd (Gj r) (by omega) ⟨j1.der,by rw [<-Qho sgn (by omega) hz]⟩ rfl
  ·rw [Qhn sgn (by omega) hz];exact en tt [.t (by simp; omega),.c [] hs,.t (by simpa using hz)] rfl rfl trivial
abbrev gmA (a:Tm) (p:List Int):Int:=Tf (G0 a) p
theorem Qz5 {p:List Int} {a:Tm} (hp:Dp p) (ha:Va a):Ut Tryz.prog 122 [pr p,.agg (ta a)] [.one (.int .i64 (gmA a p))] :=
 w tt Tryz.func122 rfl [.c [] (Zd1 (sgn:=G0 a) hp λ_ h=>Zlz h ha)] rfl rfl trivial
theorem Q7i {t:Tm} {a b:Pt} {ps:List (List Int)} (hps:∀ p∈ps,Dp p) (ht:Va t) (hl:ps.length<1000):Ut Tryz.prog 155 [.agg (ta t),.agg (Hb a),.agg (Hb b),.one (.row (Sf ps))] [.one (.bool (Oj (G0 t) a b ps))]:=by
 refine Gv Tryz.func155 rfl ?_;have By:(Sf ps).length=ps.length:=by simp [Sf]
 refine go tt [] rfl trivial ?_;refine lp (S:=Nat) 3 (λL1 i=>(13,.v (.one (.int .i64 (i:Int))))::L1) (λ_=>[.blk 64 (ta t),.blk 33 (Hb a),.blk 33 (Hb b)]) (λi=>ps.length-i) (λi=>i<=ps.length/\Oj (G0 t) a b (ps.drop i)=Oj (G0 t) a b ps) 0 ⟨Qh _,rfl⟩ rfl (λ_ _=>rfl) rfl λi ⟨hi,he⟩=>?_
 rw [<-he];by_cases hlt:i<ps.length
 ·obtain ⟨p,hp⟩:=gxE (l:=ps) (i:=i) hlt;have hd:ps.drop i=p::ps.drop (i+1):=by
   rw [Zi hlt];rw [Qe hlt] at hp; injection hp with hp; rw [hp]
  have hpb:=hps p (Qa hp);rw [hd] at he ⊢;by_cases h0:0<p.length
  ·exact en tt [.t (by simp [By]; omega),.x (H8 hp),.t (by simp; omega),.c [] (Qz5 hpb ht)] rfl (by simp only [Oj]; rw [if_pos h0]) trivial
  ·refine go tt [.t (by simp [By]; omega),.x (H8 hp),.f (by simp; exact Qi (by omega))] rfl (by simp [Ur]; omega) ?_;exact rd (i+1) (by omega) ⟨hlt,by simp only [Oj]; rw [if_neg h0]⟩ rfl
 ·have hd:ps.drop i=[]:=Yp (by omega);rw [hd];exact en tt [.f (by simp [By]; omega)] rfl rfl trivial
structure Sc (k:Crv):Prop where
 n:Nml k
 c:Cs 90 3 k
theorem Sc.cb {k:Crv} (h:Sc k):Cb k:=h.c.mono (by omega) (by omega)
theorem Qad {a b:Crv} (ha:Sc a) (hb:Sc b):Cp (Hf a b):=by
 refine ⟨Ft _ _,?_,Us (Iv (Gl hb.c.x ha.c.d) (Gl ha.c.x hb.c.d)) (by omega)⟩;have:=L8 (Ff b.x a.d) (Ff a.x b.d);have:=Fz b.x a.d; have:=Fz a.x b.d; have:=ha.c.lx; have:=hb.c.lx;unfold Hf; omega
theorem Qac {a b:Crv} (ha:Sc a) (hb:Sc b):Cp (Hp a b):=by
 refine ⟨Ft _ _,?_,Us (Iv (Gl hb.c.y ha.c.d) (Gl ha.c.y hb.c.d)) (by omega)⟩;have:=L8 (Ff b.y a.d) (Ff a.y b.d);have:=Fz b.y a.d; have:=Fz a.y b.d; have:=ha.c.ly; have:=hb.c.ly;unfold Hp; omega
theorem Q6b {a b:Pt} {t:Tm} (ha:Sc a.c) (hb:Sc b.c) (ht:Va t):Ut Tryz.prog 113 [.agg (Hb a),.agg (Hb b),.agg (ta t)] [.one (.bool (Td (G0 t) a b))] :=
 w tt Tryz.func113 rfl [.c [] (Qzx ha.n hb.n ha.cb hb.cb),.c [] (Qzp ha.n hb.n ha.cb hb.cb),.c [] (Q7i (t:=t) (a:=a) (b:=b) (ps:=[Hf a.c b.c,Hp a.c b.c]) (λp hp=>by
  simp at hp;rcases hp with rfl | rfl
  ·exact (Qad ha hb).dp
  ·exact (Qac ha hb).dp) ht (show 2<1000 by decide))] rfl rfl trivial
theorem Zn2 (q:Rat) {P:Prop} (h:(tq q).point=false):P:=by
 have e:(tq q).point=true:=Ng.2 Qp;rw [e] at h; cases h
theorem Zg2 {q:Rat} (hq:Qs 400000 q):Va (tq q):=by
 have hd:=q.den_nz;refine ⟨.inl ⟨rfl,?_⟩,Q22 q,by show 2<=9; omega,by show 2<=2; omega,Zlx (hq.mono (by omega)),Zn2 q,q.den,q.num.natAbs+1,0,?_,?_,by omega,?_⟩
 ·have e:(q.num:Rat)=q*(q.den:Rat):=by
   have:(q.num:Rat) / (((q.den:Int)):Rat)=q:=by rw [Hw,Z2]
   have h2:(q.num:Rat) / (q.den:Rat)*(q.den:Rat)=q.num:=Zk (by have:=Orq.nat_pos q.den_pos; grind);rw [show (q.num:Rat) / (q.den:Rat)=q from this] at h2; exact h2.symm
  show Uw [-q.num,(q.den:Int)] q=0;simp only [Uw];rw [Vp,e,show (((q.den:Int)):Rat)=(q.den:Rat) from rfl]; grind
 all_goals first | (have h1:U6 (q.den:Int)<=400000:=hq.2; have h2:U6 ((q.num.natAbs+1:Nat):Int)<=400001:=Q4o hq.1; omega) | skip
 all_goals
  refine ⟨⟨q.num,?_⟩,?_,q.den_pos⟩
  ·rw [Vd,Yq];have:(q.num:Rat) / (((q.den:Int)):Rat)=q:=by rw [Hw,Z2]
   have h2:(q.num:Rat) / (q.den:Rat)*(q.den:Rat)=q.num:=Zk (by have:=Orq.nat_pos q.den_pos; grind);rw [show (q.num:Rat) / (q.den:Rat)=q from this] at h2; exact h2
  ·have h1:U5 q<=U5 (q.num:Rat):=by
    have e:(q.num:Rat)=q*(q.den:Rat):=by
     have:(q.num:Rat) / (((q.den:Int)):Rat)=q:=by rw [Hw,Z2]
     have h2:(q.num:Rat) / (q.den:Rat)*(q.den:Rat)=q.num:=Zk (by have:=Orq.nat_pos q.den_pos; grind);rw [show (q.num:Rat) / (q.den:Rat)=q from this] at h2; exact h2.symm
    rw [e,E7];have hd1:(1:Rat)<=(q.den:Rat):=by
     have:((1:Nat):Rat)<=(q.den:Rat):=Zg.2 q.den_pos;exact this
    have e2:U5 (q.den:Rat)=(q.den:Rat):=by unfold U5; rw [if_neg (by grind)]
    rw [e2];have:=Nx (a:=U5 q) (c:=1) (Hk q) Qp (by decide) hd1;grind
   rw [Tw] at h1;refine Ze h1 (Zg.2 (by omega))
theorem Q4a {p q:List Int} (hp:Cp p) (hq:Cp q):Cp (Qaj p q):=by unfold Qaj; split <;> assumption
theorem Zdr {a b:Pt} {t:Tm} (ha:Sc a.c) (hb:Sc b.c) (ht:Va t):Ut Tryz.prog 76 [.one (.int .i64 1),.agg (ta t),.one (.row [Hb a,Hb b])] [.agg (Qcj (Nw (G0 t) a b)),.one (.int .i64 0)]:=by
 have h1:=Qad ha hb;have h2:=Qac ha hb;refine Gv Tryz.func76 rfl ?_;refine go tt [.c [] Q3s,.f rfl] rfl trivial ?_;refine lp (S:=Nat) 3 (λL1 i=>(22,.v (.one (.int .i64 (i:Int))))::L1) (λi=>[.blk 64 (ta t),.blk 122 zCt,.blk 122 [.int .i64 1,.int .i64 (if 1<=i then a.id else 0),.int .i64 (if 2<=i then b.id else 0),.int .i64 0,.int .i64 0,.nils,.int .i64 0]]) (λi=>2-i) (λi=>i<=2) 0 (Qh _) rfl (λ_ _=>rfl) rfl λi hi=>?_
 rcases (show i=0\/i=1\/i=2 by omega) with rfl | rfl | rfl
 ·refine go tt [.t rfl,.x (i:=0) (xs:=Hb a) rfl,.i 0] rfl (by simp [Ur]) ?_;exact rd 1 (by omega) (by omega) rfl
 ·refine go tt [.t rfl,.x (i:=1) (xs:=Hb b) rfl,.i 1] rfl (by simp [Ur]) ?_;exact rd 2 (by omega) (by omega) rfl
 ·exact en tt [.f rfl,.t rfl,.x (i:=0) (xs:=Hb a) rfl,.x (i:=1) (xs:=Hb b) rfl,.c [] (Qzx ha.n hb.n ha.cb hb.cb),.x (i:=0) (xs:=Hb a) rfl,.x (i:=1) (xs:=Hb b) rfl,.c [] (Qzp ha.n hb.n ha.cb hb.cb),.c [] Q69,.c [] (Qz5 (Q4a h1 h2).dp ht)] rfl rfl trivial
end Orr
namespace Orr
variable {α:Type}
def Tn (lt:α->α->Bool) (out:List α) (x:α):Nat->Nat
 | 0=>0
 |
  k+1=>match out[k]? with
  | some y=>if lt x y=true then Tn lt out x k else k+1
  | none=>k+1
theorem Qq9 (lt:α->α->Bool) (out:List α) (x:α):∀ k,Tn lt out x k<=k
 | 0=>Ql _
 |
  k+1=>by
  simp only [Tn]
  split
  ·split
   ·exact Nat.le_succ_of_le (Qq9 lt out x k)
   ·exact Ql _
  ·exact Ql _
theorem Qb1 {lt:α->α->Bool} {out:List α} {x y:α} {k:Nat} (hx:out[k]? = some y) (h:lt x y=true):Tn lt out x (k+1)=Tn lt out x k:=by
 simp only [Tn,hx,h,if_true]
theorem Ii {lt:α->α->Bool} {out:List α} {x y:α} {k:Nat} (hx:out[k]? = some y) (h:lt x y=false):Tn lt out x (k+1)=k+1:=by
 simp [Tn,hx,h]
def P6 (lt:α->α->Bool) (out:List α) (x:α):List α:=out.take (Tn lt out x out.length)++x::out.drop (Tn lt out x out.length)
theorem Q9i (lt:α->α->Bool) (out:List α) (x:α):(P6 lt out x).length=out.length+1:=by
 have:=Qq9 lt out x out.length;simp [P6]; omega
theorem Qeg {lt:α->α->Bool} {out:List α} {x y:α}:y∈P6 lt out x↔y=x\/y∈out:=by
 have h:y∈out↔y∈out.take (Tn lt out x out.length)\/y∈out.drop (Tn lt out x out.length):=by
  rw [<-Qu,Zb]
 simp only [P6,Qu,Qo,h];constructor
 ·rintro (h | h | h)
  ·exact .inr (.inl h)
  ·exact .inl h
  ·exact .inr (.inr h)
 ·rintro (h | h | h)
  ·exact .inr (.inl h)
  ·exact .inl h
  ·exact .inr (.inr h)
def Fx (lt:α->α->Bool) (l:List α):List α:=l.foldl (P6 lt) []
theorem Qy1 (lt:α->α->Bool) (l:List α) (x:α):Fx lt (l++[x])=P6 lt (Fx lt l) x:=by simp [Fx,Vw]
theorem Eh {lt:α->α->Bool} {l:List α} {i:Nat} {x:α} (h:l[i]? = some x):Fx lt (l.take (i+1))=P6 lt (Fx lt (l.take i)) x:=by
 rw [Zs,h]; exact Qy1 _ _ _
theorem Qkw (lt:α->α->Bool):∀ (l acc:List α),(l.foldl (P6 lt) acc).length=acc.length+l.length
 | [],acc=>by simp
 | c::l,acc=>by simp only [Z5]; rw [Qkw lt l (P6 lt acc c),Q9i]; simp; omega
theorem H9 (lt:α->α->Bool) (l:List α):(Fx lt l).length=l.length:=by unfold Fx; rw [Qkw]; simp
theorem Qc5 (lt:α->α->Bool):∀ (l acc:List α) {y:α},y∈l.foldl (P6 lt) acc↔y∈l\/y∈acc
 | [],acc,y=>by simp
 |
  c::l,acc,y=>by
  simp only [Z5];rw [Qc5 lt l,Qeg,Qo];constructor
  ·rintro (h | h | h)
   ·exact .inl (.inr h)
   ·exact .inl (.inl h)
   ·exact .inr h
  ·rintro ((h | h) | h)
   ·exact .inr (.inl h)
   ·exact .inl h
   ·exact .inr (.inr h)
theorem S7 {lt:α->α->Bool} {l:List α} {y:α}:y∈Fx lt l↔y∈l:=by
 unfold Fx; rw [Qc5]; simp
end Orr
namespace Orr
open Go Orq
structure Wt where
 c:Ct
 known:Bool
 fails:Option Tm
def f0:Option Tm->LV | none=>.row [] | some t=>pl t.p
def f1:Option Tm->LV | none=>.bool false | some t=>sg t.lo.num
def f2:Option Tm->LV | none=>.row [] | some t=>mg t.lo.num
def f3:Option Tm->LV | none=>.bool false | some t=>sg (t.lo.den:Int)
def f4:Option Tm->LV | none=>.row [] | some t=>mg (t.lo.den:Int)
def f5:Option Tm->LV | none=>.bool false | some t=>sg t.hi.num
def f6:Option Tm->LV | none=>.row [] | some t=>mg t.hi.num
def f7:Option Tm->LV | none=>.bool false | some t=>sg (t.hi.den:Int)
def f8:Option Tm->LV | none=>.row [] | some t=>mg (t.hi.den:Int)
abbrev fl (o:Option Tm):List LV:=[f0 o,f1 o,f2 o,f3 o,f4 o,f5 o,f6 o,f7 o,f8 o]
abbrev wl (w:Wt):List LV:=[.int .i64 w.c.kind,.int .i64 w.c.i0,.int .i64 w.c.i1,.int .i64 w.c.i2,.int .i64 w.c.i3,pl w.c.p,.int .i64 w.c.want,.bool w.known,.bool w.fails.isSome,f0 w.fails,f1 w.fails,f2 w.fails,f3 w.fails,f4 w.fails,f5 w.fails,f6 w.fails,f7 w.fails,f8 w.fails]
def Qdp (l:List Wt):List (List LV):=l.map λw=>wl w
theorem Pz {l:List Wt} {i:Nat} {w:Wt} (h:l[i]? = some w):(Qdp l)[i]? = some (wl w):=Gx h
theorem Dh (l:List Wt):(Qdp l).length=l.length:=by simp [Qdp]
structure Cr where
 now:Tm
 l:List Wt
 ev:Int
abbrev B9 (c:Cr) (r0 r1:List (List LV)):List LV:=.bool true::pl c.now.p::sg c.now.lo.num::mg c.now.lo.num::sg (c.now.lo.den:Int)::mg (c.now.lo.den:Int)::sg c.now.hi.num::mg c.now.hi.num::sg (c.now.hi.den:Int)::mg (c.now.hi.den:Int)::.row (Qdp c.l)::.int .i64 c.ev::[.row r0,.row r1]
structure WtOk (w:Wt):Prop where
 p:Cp w.c.p
 f:∀ t,w.fails=some t->Va t
structure CrOk (c:Cr):Prop where
 n:Va c.now
 l:∀ w∈c.l,WtOk w
 k:c.l.length<=1000
def Zbn (a b:Ct):Bool:=decide ([a.kind,a.i0,a.i1,a.i2,a.i3]=[b.kind,b.i0,b.i1,b.i2,b.i3])
def fresh (x:Ct):Wt:=⟨x,false,none⟩
def Lz:List Wt->Ct->Tm->Option Wt
 | [],x,_=>some (fresh x)
 |
  w::l,x,at_=>if Zbn w.c x=true/\w.known=true/\w.c.p=x.p then
   match w.fails with
   | none=>some ⟨x,true,none⟩
   | some t=>(Qj5 t at_).bind λc=>if 0<c then some ⟨x,true,some t⟩ else Lz l x at_
  else Lz l x at_
def Qei (old:List Wt) (at_:Tm):List Ct->Option (List Wt)
 | []=>some []
 | x::l=>(Lz old x at_).bind λw=>(Qei old at_ l).bind λr=>some (w::r)
end Orr
namespace Orr
open Go Go.Proofs Orq
set_option maxRecDepth 10000
theorem Qwj {T:Nat} {c:Cr} {r0 r1:List (List LV)} (hc:Va c.now):Hh Tryz.prog 78 [.one (.ow 0 0)] [.blk T (B9 c r0 r1)] [.agg (ta c.now)] [.blk T (B9 c r0 r1)]:=by
 have cl:=O7 (b:=c.now) (l:=[]) hc.tb (λt ht=>by cases ht) (by decide) rfl;refine Gv Tryz.func78 rfl ?_;exact ed tt [] [0] [.f rfl,.c [] cl] rfl trivial
theorem Qsp {T:Nat} {c:Cr} {r0 r1:List (List LV)} (hc:CrOk c):Hh Tryz.prog 25 [.one (.ow 0 0)] [.blk T (B9 c r0 r1)] [.one (.row (Fj (Hi (c.l.map (·.c)))))] [.blk T (B9 c r0 r1)]:=by
 have hk:=hc.k;have hw:=Dh c.l;refine Gv Tryz.func25 rfl ?_;refine go tt [.o 3 122 7] rfl trivial ?_;refine lp (S:=Nat) 2 (λL1 i=>(11,.v (.one (.int .i64 (i:Int))))::(3,.v (.one (.orow 1 7 none)))::L1) (λi=>[.blk T (B9 c r0 r1),.row false 122 7 (Fj ((c.l.map (·.c)).take i))]) (λi=>c.l.length-i) (λi=>i<=c.l.length) 0 (Qh _) rfl (λ_ _=>rfl) rfl λi hi=>?_
 by_cases hlt:i<c.l.length
 ·obtain ⟨x,hx⟩:=gxE (l:=c.l) (i:=i) hlt;have hm:∀ y∈[Qcj x.c],y.length=7:=λy hy=>by rw [Qk.1 hy]; rfl
  have hg:(c.l.map (·.c)).take (i+1)=(c.l.map (·.c)).take i++[x.c]:=by
   rw [Zs,Q9,hx]; rfl
  have hl:decide ((i:Int)<((Qdp c.l).length:Int))=true:=by simp [hw]; omega
  obtain ⟨xc,xk,xf⟩:=x;cases xf <;> (refine go tt [.t hl,.x (Pz hx),.s (sz:=7) hm] rfl (by simp [Ur,Ca]; omega) ?_; exact rd (i+1) (by omega) hlt (by rw [hg]; simp [Fj]; rfl))
 ·obtain rfl:i=c.l.length:=by omega
  have e:(c.l.map (·.c)).take c.l.length=c.l.map (·.c):=Qn (by simp);rw [e];have cs:=Qwn (l:=c.l.map (·.c)) (λx hx=>by
   obtain ⟨w,hw,rfl⟩:=Zr.1 hx;exact Dp.pb (hc.l w hw).p.dp) (by simp; omega)
  exact ed tt [] [0] [.f (by simp [hw]),.c [] cs] rfl trivial
theorem Zi3 {T:Nat} {c:Cr} {r0 r1:List (List LV)} {x:Ct} {at_:Tm} {w:Wt} (hc:CrOk c) (hx:Cp x.p) (ha:Va at_) (h:Lz c.l x at_=some w):Hh Tryz.prog 105 [.one (.ow 0 0),.agg (Qcj x),.agg (ta at_)] [.blk T (B9 c r0 r1)] [.agg (wl w)] [.blk T (B9 c r0 r1)]:=by
 have hk:=hc.k;have hw:=Dh c.l;refine Gv Tryz.func105 rfl ?_;refine go tt [] rfl trivial ?_;refine lp (S:=Nat) 4 (λL1 i=>(14,.v (.one (.int .i64 (i:Int))))::L1) (λ_=>[.blk T (B9 c r0 r1),.blk 122 (Qcj x),.blk 64 (ta at_),.blk 125 [.int .i64 0,.int .i64 0,.int .i64 0,.int .i64 0,.int .i64 0,.nils,.int .i64 0,.bool false,.bool false,.nils,.bool false,.nils,.bool false,.nils,.bool false,.nils,.bool false,.nils]]) (λi=>c.l.length-i) (λi=>i<=c.l.length/\Lz (c.l.drop i) x at_=some w) 0 ⟨Qh _,h⟩ rfl (λ_ _=>rfl) rfl λi ⟨hi,hf⟩=>?_
 by_cases hlt:i<c.l.length
 ·obtain ⟨v,hv⟩:=gxE (l:=c.l) (i:=i) hlt;have hdr:c.l.drop i=v::c.l.drop (i+1):=by
   rw [Zi hlt]; congr 1;have:=Qe hlt; rw [hv] at this; injection this with this; exact this.symm
  have hvo:=hc.l v (Qa hv);rw [hdr] at hf;simp only [Lz] at hf;have hl:decide ((i:Int)<((Qdp c.l).length:Int))=true:=by simp [hw]; omega
  by_cases A:Zbn v.c x=true
  ·have A':(!decide ([v.c.kind,v.c.i0,v.c.i1,v.c.i2,v.c.i3]=[x.kind,x.i0,x.i1,x.i2,x.i3]))=false:=by
    unfold Zbn at A; rw [A]; rfl
   by_cases B:v.known=true
   ·have B':(!v.known)=false:=by rw [B]; rfl
    have cs:=Qpm (p:=v.c.p) (q:=x.p) (Dp.pb hvo.p.dp).ln (Dp.pb hx.dp).ln (Dp.pb hvo.p.dp).bd (Dp.pb hx.dp).bd;rw [hvo.p.t,hx.t] at cs;by_cases C:v.c.p=x.p
    ·have C':(!decide (v.c.p=x.p))=false:=by simp [C]
     rw [if_pos ⟨A,B,C⟩] at hf;obtain ⟨vc,vk,vf⟩:=v;cases vf with
     |
      none =>
      injection hf with hf; subst hf;exact ed tt [] [0] [.t hl,.x (Pz hv),.g 24 false A',.g 29 false B',.c [] cs,.f C',.g 41 true rfl,.t rfl] rfl trivial
     |
      some t =>
      obtain ⟨r,r1',hf⟩:=Qf.1 hf;have cc:=Qpi (hvo.f t rfl).tb ha.tb r1';by_cases D:0<r
      ·rw [if_pos D] at hf;injection hf with hf; subst hf;exact ed tt [] [0] [.t hl,.x (Pz hv),.g 24 false A',.g 29 false B',.c [] cs,.f C',.g 41 false rfl,.c [] cc,.t (by simpa using D)] rfl trivial
      ·rw [if_neg D] at hf;refine go tt [.t hl,.x (Pz hv),.g 24 false A',.g 29 false B',.c [] cs,.f C',.g 41 false rfl,.c [] cc,.f (by simpa using D)] rfl (by simp [Ur]; omega) ?_;exact rd (i+1) (by omega) ⟨hlt,hf⟩ rfl
    ·rw [if_neg λh=>C h.2.2] at hf;refine go tt [.t hl,.x (Pz hv),.g 24 false A',.g 29 false B',.c [] cs,.t (by simp [C])] rfl (by simp [Ur]; omega) ?_;exact rd (i+1) (by omega) ⟨hlt,hf⟩ rfl
   ·rw [if_neg λh=>B h.2.1] at hf;refine go tt [.t hl,.x (Pz hv),.g 24 false A',.g 29 true (by simpa using B),.t rfl] rfl (by simp [Ur]; omega) ?_;exact rd (i+1) (by omega) ⟨hlt,hf⟩ rfl
  ·rw [if_neg λh=>A h.1] at hf;refine go tt [.t hl,.x (Pz hv),.g 24 true (by rw [show decide ([v.c.kind,v.c.i0,v.c.i1,v.c.i2,v.c.i3]=[x.kind,x.i0,x.i1,x.i2,x.i3])=false from Bool.eq_false_iff.2 A]; rfl),.g 29 true rfl,.t rfl] rfl (by simp [Ur]; omega) ?_;exact rd (i+1) (by omega) ⟨hlt,hf⟩ rfl
 ·obtain rfl:i=c.l.length:=by omega
  rw [Yo] at hf;simp only [Lz] at hf;injection hf with hf; subst hf;exact ed tt [] [0] [.f (by simp [hw])] rfl trivial
theorem Qej {old:List Wt} {at_:Tm}:∀ {l:List Ct} {ws:List Wt},Qei old at_ l=some ws->ws.length=l.length/\∀ (i:Nat) (x:Ct),l[i]? = some x->∃ w,Lz old x at_=some w/\ws[i]? = some w
 | [],ws,h=>by injection h with h; subst h; exact ⟨rfl,λi x hx=>by simp at hx⟩
 |
  y::l,ws,h=>by
  simp only [Qei] at h;obtain ⟨w,hw,h⟩:=Qf.1 h;obtain ⟨r,hr,h⟩:=Qf.1 h;injection h with h; subst h;obtain ⟨a,b⟩:=Qej hr;refine ⟨by simp [a],λi x hx=>?_⟩;cases i with
  | zero=>injection hx with hx; subst hx; exact ⟨w,hw,rfl⟩
  | succ i=>exact b i x (by simpa using hx)
theorem Qhd {l:List Wt} {i:Nat} {w:Wt} (h:l[i]? = some w):Qdp (l.take (i+1))=Qdp (l.take i)++[wl w]:=by
 rw [Zs,h]; simp [Qdp]
theorem Zdo {T:Nat} {c:Cr} {r0 r1:List (List LV)} {at_:Tm} {l:List Ct} {ws:List Wt} (hc:CrOk c) (ha:Va at_) (hl:∀ x∈l,Cp x.p) (hn:l.length≤1000) (h:Qei c.l at_ (Hi l)=some ws):Hh Tryz.prog 69 [.one (.ow 0 0),.agg (ta at_),.one (.bool true),.one (.row (Fj l))] [.blk T (B9 c r0 r1)] [] [.blk T (B9 ⟨at_,ws,c.ev⟩ r0 r1)]:=by
 have cs:=Qwn (l:=l) (λx hx=>Dp.pb (hl x hx).dp) (by omega);have cl:=O7 (b:=at_) (l:=[]) ha.tb (λt ht=>by cases ht) (by decide) rfl;obtain ⟨h1,h2⟩:=Qej h;have hs:(Hi l).length=l.length:=Ll l;refine Gv Tryz.func69 rfl ?_;refine go tt [.o 8 125 18,.c [] cs] rfl trivial ?_;refine lp (S:=Nat) 3 (λL1 i=>(15,.v (.one (.int .i64 (i:Int))))::(8,.v (.one (.orow 2 18 none)))::L1) (λi=>[.blk T (B9 c r0 r1),.blk 64 (ta at_),.row false 125 18 (Qdp (ws.take i))]) (λi=>ws.length-i) (λi=>i<=ws.length) 0 (Qh _) rfl (λ_ _=>rfl) rfl λi hi=>?_
 by_cases hlt:i<ws.length
 ·obtain ⟨x,hx⟩:=gxE (l:=(Hi l)) (i:=i) (by omega);obtain ⟨w,hw,hw'⟩:=h2 i x hx;have hm:∀ y∈[wl w],y.length=18:=λy hy=>by rw [Qk.1 hy]; rfl
  have hlt':decide ((i:Int)<((Fj (Hi l)).length:Int))=true:=by simp [Fj]; omega
  have ck:=Zi3 (T:=T) (r0:=r0) (r1:=r1) hc (hl x (Qb8 (Qa hx))) ha hw;have hg:=Qhd hw';obtain ⟨wc,wk,wf⟩:=w;cases wf <;> (refine go tt [.t hlt',.x (Qf3 hx),.t rfl,.c [0] ck,.s (sz:=18) hm] rfl (by simp [Ur,Dh]; omega) ?_; exact rd (i+1) (by omega) hlt (by rw [hg]; rfl))
 ·obtain rfl:i=ws.length:=by omega
  rw [Qy];have hge:decide ((ws.length:Int)<((Fj (Hi l)).length:Int))=false:=by simp [Fj]; omega
  exact ed tt [] [0] [.f hge,.p 2,.c [] cl] rfl trivial
abbrev crz (r0 r1:LV):List LV:=[.bool false,.nils,.bool false,.nils,.bool false,.nils,.bool false,.nils,.bool false,.nils,.nils,.int .i64 0,r0,r1]
theorem Zdn {T:Nat} {r0 r1:List (List LV)} {at_:Tm} {l:List Ct} (ha:Va at_) (hl:∀ x∈l,Cp x.p) (hn:l.length≤1000):Hh Tryz.prog 69 [.one (.ow 0 0),.agg (ta at_),.one (.bool false),.one (.row (Fj l))] [.blk T (crz (.row r0) (.row r1))] [] [.blk T (B9 ⟨at_,(Hi l).map fresh,0⟩ r0 r1)]:=by
 have cs:=Qwn (l:=l) (λx hx=>Dp.pb (hl x hx).dp) (by omega);have cl:=O7 (b:=at_) (l:=[]) ha.tb (λt ht=>by cases ht) (by decide) rfl;have hs:(Hi l).length=l.length:=Ll l;refine Gv Tryz.func69 rfl ?_;refine go tt [.o 8 125 18,.c [] cs] rfl trivial ?_;refine lp (S:=Nat) 3 (λL1 i=>(15,.v (.one (.int .i64 (i:Int))))::(8,.v (.one (.orow 2 18 none)))::L1) (λi=>[.blk T (crz (.row r0) (.row r1)),.blk 64 (ta at_),.row false 125 18 (Qdp (((Hi l).map fresh).take i))]) (λi=>l.length-i) (λi=>i<=l.length) 0 (Qh _) rfl (λ_ _=>rfl) rfl λi hi=>?_
 by_cases hlt:i<l.length
 ·obtain ⟨x,hx⟩:=gxE (l:=(Hi l)) (i:=i) (by omega);have hm:∀ y∈[wl (fresh x)],y.length=18:=λy hy=>by rw [Qk.1 hy]; rfl
  have hlt':decide ((i:Int)<((Fj (Hi l)).length:Int))=true:=by simp [Fj]; omega
  have hg:=Qhd (l:=(Hi l).map fresh) (i:=i) (w:=fresh x) (by rw [Q9,hx]; rfl);refine go tt [.t hlt',.x (Qf3 hx),.z 20,.f rfl,.s (sz:=18) hm] rfl (by simp [Ur,Dh]; omega) ?_;exact rd (i+1) (by omega) hlt (by rw [hg]; rfl)
 ·obtain rfl:i=l.length:=by omega
  rw [Qn (by simp; omega)];have hge:decide ((l.length:Int)<((Fj (Hi l)).length:Int))=false:=by simp [Fj]; omega
  exact ed tt [] [0] [.f hge,.p 2,.c [] cl] rfl trivial
theorem Q3o {T:Nat} {r0 r1:List (List LV)} {at_:Tm} {l:List Ct} (ha:Va at_) (hl:∀ x∈l,Cp x.p) (hn:l.length≤1000):Hh Tryz.prog 39 [.one (.ow 0 0),.agg (ta at_),.one (.row (Fj l))] [.blk T (crz (.row r0) (.row r1))] [] [.blk T (B9 ⟨at_,(Hi l).map fresh,0⟩ r0 r1)]:=by
 have cl:=Zdn (T:=T) (r0:=r0) (r1:=r1) ha hl hn;refine Gv Tryz.func39 rfl ?_;exact ed tt [] [0] [.g 12 false rfl,.c [0] cl] rfl trivial
theorem eB {a b:Bool} (h:a=b):TV.one (LV.bool a)=.one (.bool b):=h ▸ rfl
theorem Qiy:∀ {k:Nat} {g:List Int} {l:List (List Int)},Pb g->Qgm k g=some l->l.length≤k/\∀ p∈l,Pb p
 | 0,_,_,_,h=>by cases h
 |
  k+1,g,l,hg,h=>by
  simp only [Qgm] at h
  split at h
  ·injection h with h; subst h; exact ⟨by simp,λp hp=>by cases hp⟩
  ·obtain ⟨d,hd,h⟩:=Qf.1 h;obtain ⟨rfl,hdp⟩:=Qlo hd;obtain ⟨x,hx,h⟩:=Qf.1 h;obtain ⟨q,hq,h⟩:=Qf.1 h;obtain ⟨r,hr,h⟩:=Qf.1 h;injection h with h; subst h;obtain ⟨i1,i2⟩:=Qiy (Qgx hg hdp hx) hr;refine ⟨by simp; exact i1,λp hp=>?_⟩;rcases Qo.1 hp with rfl | hp
   ·exact Qx2 hq
   ·exact i2 p hp
theorem Q7e {a:List Int} {l:List (List Int)} (ha:Pb a) (h:Qgm 66 (U7 a)=some l):Ut Tryz.prog 277 [pr a] [.one (.row (Sf l))]:=by
 have hp:=Ri ha;refine Gv Tryz.func277 rfl ?_;refine go tt [.o 3 24 1,.c [] (Eo ha)] rfl trivial ?_;refine lp (S:=Nat×List (List Int)×List Int) 1 (λL1 s=>(4,.v (pr s.2.2))::(3,.v (.one (.orow 0 1 none)))::L1) (λs=>[.row false 24 1 (Sf s.2.1)]) (λs=>s.1) (λs=>Pb s.2.2/\s.2.1.length+s.1<=66/\∃ m,Qgm s.1 s.2.2=some m/\s.2.1++m=l) (66,[],U7 a) ⟨hp,Ql _,l,h,rfl⟩ rfl (λ_ _=>rfl) rfl λ⟨k,out,g⟩ ⟨j1,j2,m,j3,j4⟩=>?_
 dsimp only at j1 j2 j3 j4 ⊢;cases k with
 | zero=>cases j3
 |
  succ k =>
  simp only [Qgm] at j3
  split at j3
  ·rename_i h0;injection j3 with j3; subst j3;rw [Zo] at j4;subst j4;exact en tt [.c [] (M9 _),.f (by simp; omega)] rfl rfl trivial
  ·rename_i h0;obtain ⟨d,hd,j3⟩:=Qf.1 j3;obtain ⟨rfl,hdp⟩:=Qlo hd;obtain ⟨x,hx,j3⟩:=Qf.1 j3;obtain ⟨q,hq,j3⟩:=Qf.1 j3;obtain ⟨r,hr,j3⟩:=Qf.1 j3;injection j3 with j3; subst j3;have hxp:=Qgx j1 hdp hx;refine go tt [.c [] (M9 _),.t (by simp; omega),.c [] (As j1.ln j1.bd),.c [] (Q0h j1 hdp hx),.c [] (Q7m j1 hxp hq),.s (sz:=1) (l:=[[pl q]]) (λc hc=>by rw [Qk.1 hc]; rfl)] rfl (by simp [Ur,Li]; omega) ?_;exact rd (k,out++[q],x) (by dsimp only; omega) ⟨hxp,by simp; omega,r,hr,by rw [<-j4]; simp⟩ (by rw [Qls]; rfl)
theorem Qkp:∀ {l r:List (List Int)},Qmo l=some r->r.length=l.length/\∀ i w,l[i]? = some w->(match l[i+1]? with | some v=>∃ f,Qa6 w v=some f/\r[i]? = some f | none=>r[i]? = some w)
 | [],r,h=>by injection h with h; subst h; exact ⟨rfl,λi w hw=>by simp at hw⟩
 |
  [w],r,h=>by
  injection h with h; subst h;refine ⟨rfl,λi x hx=>?_⟩;cases i with
  | zero=>simpa using hx
  | succ i=>simp at hx
 |
  w::v::l,r,h=>by
  simp only [Qmo] at h;obtain ⟨f,hf,h⟩:=Qf.1 h;obtain ⟨s,hs,h⟩:=Qf.1 h;injection h with h; subst h;obtain ⟨i1,i2⟩:=Qkp hs;refine ⟨by simp [i1],λi x hx=>?_⟩;cases i with
  |
   zero =>
   injection hx with hx; subst hx;exact ⟨f,hf,rfl⟩
  |
   succ i =>
   have:=i2 i x (by simpa using hx);simpa using this
theorem Qqb:∀ {l r:List (List Int)},(∀ p∈l,Pb p)->Qmo l=some r->∀ p∈r,Pb p
 | [],r,_,h=>by injection h with h; subst h; exact λp hp=>by cases hp
 | [w],r,hl,h=>by injection h with h; subst h; exact hl
 |
  w::v::l,r,hl,h=>by
  simp only [Qmo] at h;obtain ⟨f,hf,h⟩:=Qf.1 h;obtain ⟨s,hs,h⟩:=Qf.1 h;injection h with h; subst h;intro p hp;rcases Qo.1 hp with rfl | hp
  ·exact Qx2 hf
  ·exact Qqb (λp hp=>hl p (Qj _ hp)) hs p hp
theorem Q3j {a:List Int} {l r:List (List Int)} (ha:Pb a) (h:Qgm 66 (U7 a)=some l) (hr:Qmo l=some r):Ut Tryz.prog 264 [pr a] [.one (.row (Sf r))]:=by
 obtain ⟨i1,i2⟩:=Qiy (Ri ha) h;obtain ⟨j1,j2⟩:=Qkp hr;have hw:=Li l;refine Gv Tryz.func264 rfl ?_;refine go tt [.c [] (Q7e ha h),.i (Sf l).length,.i (Sf l).length] rfl (by simp [Ur,hw]; omega) ?_;rw [hw,Lv λi=>[pl (r.getD i [])]];refine lp (S:=Nat) 1 (λL1 k=>(14,.v (.one (.int .i64 (k:Int))))::L1) (λk=>[.row false 24 1 (fil (λi=>[pl (r.getD i [])]) [.nils] l.length k)]) (λk=>l.length-k) (λk=>k<=l.length) 0 (Qh _) rfl (λ_ _=>rfl) rfl λk hk=>?_
 by_cases hlt:k<l.length
 ·obtain ⟨w,hx⟩:=gxE (l:=l) (i:=k) hlt;have e:=I9 (λi=>[pl (r.getD i [])]) [.nils] hlt;have hg:=j2 k w hx;by_cases h2:k+1<l.length
  ·obtain ⟨v,hv⟩:=gxE (l:=l) (i:=k+1) h2;rw [hv] at hg;obtain ⟨f,f1,f2⟩:=hg;have e2:r.getD k []=f:=by rw [Qg,f2]; rfl
   rw [e2] at e;refine go tt [.t (by simp [hw]; omega),.x (H8 hx),.i k,.t (by simp [hw]; omega),.x (i:=k+1) (H8 hv),.c [] (Q7m (i2 w (Qa hx)) (i2 v (Qa hv)) f1),.i k] rfl (by simp [Ur,E4,hw]; omega) ?_;rw [List.set_set,e];exact rd (k+1) (by omega) hlt rfl
  ·have hv:l[k+1]? = none:=Qt (by omega);rw [hv] at hg;have e2:r.getD k []=w:=by rw [Qg,hg]; rfl
   rw [e2] at e;refine go tt [.t (by simp [hw]; omega),.x (H8 hx),.i k,.f (by simp [hw]; omega)] rfl (by simp [Ur,E4,hw]; omega) ?_;rw [e];exact rd (k+1) (by omega) hlt rfl
 ·obtain rfl:k=l.length:=by omega
  have e:fil (λi=>[pl (r.getD i [])]) [.nils] l.length l.length=Sf r:=by
   rw [I8,<-j1];refine Xf λi=>?_
   simp only [Sf,Q9];by_cases hi:i<r.length
   ·rw [Xs hi]; simp [Qg,Qe hi]
   ·rw [Qt (by simpa using hi),Qt (by simpa using hi)]; rfl
  rw [e];exact en tt [.f (by simp [hw])] rfl rfl trivial
theorem Qx9 {p:List Int} (tp:Uz p):U7 (U7 p)=U7 p:=by
 by_cases h:p.length=0
 ·have e:U7 p=[]:=by unfold U7; rw [if_pos h]
  rw [e]; rfl
 ·obtain ⟨h1,h2,h3,h4,_⟩:=Be tp h;have hc:So (U7 p)=1:=by
   have h5:So (U7 p)∣1:=h3 _ λk=>by
    by_cases hk:k<(U7 p).length
    ·rw [Qg,Qe hk]; exact Lh _ (Xv hk)
    ·rw [Qg,Qt (by omega)]; exact Int.dvd_zero _
   have h6:0<=So (U7 p):=by unfold So; omega
   exact Int.eq_one_of_dvd_one h6 h5
  have hf:∀ q:List Int,0<U9 q->G7 q=So q:=λq hq=>by unfold G7; rw [if_neg (by omega)]
  have hf:=(hf _ h4).trans hc;have e0:∀ q:List Int,q.length≠0->U7 q=Bz q (G7 q):=λq hq=>by unfold U7; rw [if_neg hq]
  have e:=e0 (U7 p) (by omega);rw [hf] at e;rw [e];unfold Bz;have e2:(U7 p).map (· / (1:Int))=U7 p:=by
   conv=>rhs; rw [<-List.map_id (U7 p)]
   exact Ve λz _=>by simp
  rw [e2];exact h1
theorem Q2z (i:Nat):(i:Int).tmod 2=((i % 2:Nat):Int):=rfl
theorem Zi8 {a:List Int} (ha:Pb a) (h:(U7 a).length=0):Ut Tryz.prog 242 [pr a] [pr []] :=
 w tt Tryz.func242 rfl [.c [] (Eo ha),.t (by simp [Qi h])] rfl rfl trivial
theorem Qbz:∀ {l:List (List Int)} {i:Nat} {p o:List Int},Pb p->(∀ f∈l,Pb f)->Qes i p l=some o->Pb o
 | [],i,p,o,hp,_,h=>by simp only [Qes] at h; injection h with h; subst h; exact hp
 |
  f::l,i,p,o,hp,hl,h=>by
  simp only [Qes] at h
  split at h
  ·obtain ⟨q,hq,h⟩:=Qf.1 h;obtain ⟨rfl,hq'⟩:=I3 (G5 _ _) hq;exact Qbz hq' (λf hf=>hl f (Qj _ hf)) h
  ·exact Qbz hp (λf hf=>hl f (Qj _ hf)) h
theorem Zag:Pb [1]:=⟨rfl,by decide,λz hz=>by rw [Qk.1 hz]; decide⟩
theorem Zl5 {a o:List Int} (ha:Pb a) (h:Qx6 a=some o):Ut Tryz.prog 242 [pr a] [pr o]:=by
 unfold Qx6 at h
 split at h
 ·rename_i h0;injection h with h; subst h;exact Zi8 ha h0
 rename_i h0;obtain ⟨l,hl,h⟩:=Qf.1 h;obtain ⟨fs,hf,h⟩:=Qf.1 h;have hpa:=Ri ha;have hl':Qgm 66 (U7 (U7 a))=some l:=by rw [Qx9 ha.t]; exact hl
 obtain ⟨i1,i2⟩:=Qiy (Ri ha) hl;have i3:=Qqb i2 hf;obtain ⟨j1,_⟩:=Qkp hf;have hw:=Li fs;have co:=Qzu (p:=[1]) (by decide) (λz hz=>by rw [Qk.1 hz]; decide);rw [show trim [1]=[1] from rfl] at co;refine Gv Tryz.func242 rfl ?_;refine go tt [.c [] (Eo ha),.f (by simpa using h0),.c [] co,.c [] (Q3j hpa hl' hf)] rfl (by simp [Ur]) ?_;refine lp (S:=Nat×List Int) 0 (λL1 s=>(16,.v (.one (.int .i64 (s.1:Int))))::(3,.v (pr s.2))::L1) (λ_=>[]) (λs=>fs.length-s.1) (λs=>s.1<=fs.length/\Pb s.2/\Qes s.1 s.2 (fs.drop s.1)=some o) (0,[1]) ⟨Qh _,Zag,h⟩ rfl (λ_ _=>rfl) rfl λ⟨i,p⟩ ⟨k1,k2,k3⟩=>?_
 dsimp only at k1 k2 k3 ⊢;by_cases hlt:i<fs.length
 ·obtain ⟨f,hx⟩:=gxE (l:=fs) (i:=i) hlt;have hdr:fs.drop i=f::fs.drop (i+1):=by
   rw [Zi hlt]; congr 1;have:=Qe hlt; rw [hx] at this; injection this with this; exact this.symm
  rw [hdr] at k3;simp only [Qes] at k3;have pf:=i3 f (Qa hx);by_cases h2:i % 2=0
  ·rw [if_pos h2] at k3;obtain ⟨q,hq,k3⟩:=Qf.1 k3;obtain ⟨rfl,hq'⟩:=I3 (G5 _ _) hq;refine go tt [.t (by simp [hw]; omega),.x (H8 hx),.t (by rw [Q2z,h2]; rfl),.c [] (Q6r k2.t pf.t (Zv k2.l (by decide)) (Zv pf.l (by decide)) k2.b pf.b (by decide))] rfl (by simp [Ur]; omega) ?_;exact rd (i+1,Fw p f) (by dsimp only; omega) ⟨hlt,hq',k3⟩ rfl
  ·rw [if_neg h2] at k3;refine go tt [.t (by simp [hw]; omega),.x (H8 hx),.f (by rw [Q2z,show i % 2=1 by omega]; rfl)] rfl (by simp [Ur]; omega) ?_;exact rd (i+1,p) (by dsimp only; omega) ⟨hlt,k2,k3⟩ rfl
 ·obtain rfl:i=fs.length:=by omega
  rw [Yo] at k3;simp only [Qes] at k3;injection k3 with k3; subst k3;exact en tt [.f (by simp [hw])] rfl rfl trivial
theorem Od (z:Int):U6 (z.natAbs:Int)=U6 z:=by unfold U6; simp
theorem Q65 {x y:LV} {z:Int} (hi:Rk x y z) (hs:U6 z<=4294967295):Ut Tryz.prog 273 [.agg [x,y]] [.agg (Gw (z.natAbs:Int))]:=by
 obtain ⟨b,l,rfl,rfl,hl,rfl⟩:=hi;have e:(U0 false (val l))=((U0 b (val l)).natAbs:Int):=by rw [Rh]; rfl
 rw [<-e];exact w tt Tryz.func273 rfl [.c [] (Qcw hl (Qc (S5 hs) (by decide))),.c [] (S8 _ _)] rfl rfl trivial
theorem Zd9 {n d:Int} (h0:d≠0) (hn:U6 n<=4294967295) (hd:U6 d<=4294967295):Ut Tryz.prog 274 [.agg (Gw n),.agg (Gw d)] [.agg (rl (Rat.divInt n d)),.one (.int .i64 0)] :=
 w tt Tryz.func274 rfl [.c [] (D3 (Uu d) hd),.c [] Ad,.f (by simpa using h0),.c [] (D3 (Uu n) hn),.c [] (O8 h0 hn hd)] rfl rfl trivial
theorem Q4s (l:List Int) (z:Int):most (l++[z])=if most l<z.natAbs then z.natAbs else most l:=by unfold most; rw [List.foldl_append]; rfl
theorem Q1v {s:Nat}:∀ {l:List Int},Bd s l->U6 (most l:Int)<=s:=λ{l}=>by
 suffices h:∀ (l:List Int) (m:Nat),Bd s l->U6 (m:Int)<=s->U6 ((l.foldl (λm z=>if m<z.natAbs then z.natAbs else m) m:Nat):Int)<=s from λhb=>h l 0 hb (by simp [U6,sz])
 intro l
 induction l with
 | nil=>exact λm _ h=>h
 |
  cons z l ih =>
  intro m hb hm;refine ih _ (λy hy=>hb y (Qj _ hy)) ?_;show U6 ((if m<z.natAbs then z.natAbs else m:Nat):Int)<=s
  split
  ·rw [Od]; exact hb z (Qx ..)
  ·exact hm
def ozi:Option Nat->List LV
 | none=>[.bool false,.nils]
 | some m=>Gw (m:Int)
def ozr:Option Nat->List LV
 | none=>[.bool false,.row []]
 | some m=>Gw (m:Int)
theorem Zdj {p:List Int} (hp:Pb p) (h0:p.length≠0):Ut Tryz.prog 260 [pr p] [.agg (rl (Gy p)),.one (.int .i64 0)]:=by
 have hl:=hp.l;have hll:(p.take (p.length-1)).length=p.length-1:=by simp
 have hbt:Bd 16777216 (p.take (p.length-1)):=λz hz=>hp.b z (Qm hz)
 refine Gv Tryz.func260 rfl ?_;refine go tt [.c [] (Hm hp.t hp.ln hp.bd),.f (by simpa using h0),.r 18 (eI (b:=((p.length-1:Nat):Int)) (by simp; omega)),.i (p.length-1)] rfl (by simp [Ur]; omega) ?_;rw [<-Jp];refine lp (S:=Nat×Option Nat) 2 (λL1 s=>(21,.v (.one (.int .i64 (s.1:Int))))::L1) (λs=>[.blk 40 [.bool false,.nils,.bool false,.nils],.blk 27 (ozi s.2)]) (λs=>p.length-1-s.1) (λs=>s.1<=p.length-1/\most ((p.take (p.length-1)).take s.1)=s.2.getD 0) (0,none) ⟨Qh _,rfl⟩ rfl (λ_ _=>rfl) rfl λ⟨i,o⟩ ⟨j1,j2⟩=>?_
 dsimp only at j1 j2 ⊢;by_cases hlt:i<p.length-1
 ·obtain ⟨z,hz⟩:=gxE (l:=(p.take (p.length-1))) (i:=i) (by omega);have bz:U6 z<=16777216:=hbt z (Qa hz);have hst:most ((p.take (p.length-1)).take (i+1))=if o.getD 0<z.natAbs then z.natAbs else o.getD 0:=by
   rw [Zs,hz]; show most (_++[z])=_; rw [Q4s,j2]
  have ca:=Q65 (Uu z) (Qc bz (by decide));have hl1:decide ((i:Int)<(((p.take (p.length-1)).map Gw).length:Int))=true:=by simp; omega
  have bm:U6 ((o.getD 0:Nat):Int)<=16777216:=by rw [<-j2]; exact Q1v λy hy=>hbt y (Qm hy)
  have hcm:Nn (z.natAbs:Int) ((o.getD 0:Nat):Int)>0↔o.getD 0<z.natAbs:=by unfold Nn; split <;> (try split) <;> omega
  have cc:Ut Tryz.prog 130 [.agg (Gw (z.natAbs:Int)),.agg (ozr o)] [.one (.int .i64 (Nn (z.natAbs:Int) ((o.getD 0:Nat):Int)))]:=by
   cases o with
   | none=>exact Qfy (Uu _) Ce (by rw [Od]; omega) (by decide)
   | some m=>exact Qfy (Uu _) (Uu _) (by rw [Od]; omega) (Qc bm (by decide))
  by_cases hc:o.getD 0<z.natAbs
  ·rw [if_pos hc] at hst;have hd:decide (Nn (z.natAbs:Int) ((o.getD 0:Nat):Int)>0)=true:=by simpa using hcm.2 hc
   cases o <;> (refine go tt [.t hl1,.x (Gx (f:=Gw) hz),.c [] ca,.c [] cc,.t hd] rfl (by simp [Ur]; omega) ?_; exact rd (i+1,some z.natAbs) (by dsimp only; omega) ⟨hlt,hst⟩ rfl)
  ·rw [if_neg hc] at hst;have hd:decide (Nn (z.natAbs:Int) ((o.getD 0:Nat):Int)>0)=false:=by
    have:=mt hcm.1 hc; simpa using this
   cases o with
   | none=>refine go tt [.t hl1,.x (Gx (f:=Gw) hz),.c [] ca,.c [] cc,.f hd] rfl (by simp [Ur]; omega) ?_; exact rd (i+1,none) (by dsimp only; omega) ⟨hlt,hst⟩ rfl
   | some m=>refine go tt [.t hl1,.x (Gx (f:=Gw) hz),.c [] ca,.c [] cc,.f hd] rfl (by simp [Ur]; omega) ?_; exact rd (i+1,some m) (by dsimp only; omega) ⟨hlt,hst⟩ rfl
 ·obtain rfl:i=p.length-1:=by omega
  rw [Qn (by omega)] at j2;have bl:U6 (U9 p)<=16777216:=hp.b _ (Qld h0);have ln:((U9 p).natAbs:Int)≠0:=by have:=D5 hp.t h0; omega
  have cl:=Co hp.t hp.ln hp.bd;have ca:=Q65 (Uu (U9 p)) (Qc bl (by decide));have bm:U6 ((o.getD 0:Nat):Int)<=16777216:=by rw [<-j2]; exact Q1v hbt
  have cd:Ut Tryz.prog 209 [.agg (Gw ((U9 p).natAbs:Int)),.agg (ozr o)] [.agg (Gw (((U9 p).natAbs:Int)+(most (p.take (p.length-1)):Int)))]:=by
   rw [j2];cases o with
   | none=>exact Qcy (Uu _) Ce (by rw [Od]; omega) (by decide)
   | some m=>exact Qcy (Uu _) (Uu _) (by rw [Od]; omega) (Qc bm (by decide))
  have cm:=Zd9 (n:=((U9 p).natAbs:Int)+(most (p.take (p.length-1)):Int)) ln (Qc (Qbu _ _) (by rw [Od,j2]; omega)) (by rw [Od]; omega);have hf:decide (((p.length-1:Nat):Int)<(((p.take (p.length-1)).map Gw).length:Int))=false:=by simp
  cases o <;> exact en tt [.f hf,.c [] cl,.c [] ca,.c [] cd,.c [] cm] rfl rfl trivial
theorem Zhl {z:Int}:Ut Tryz.prog 293 [.agg (Gw z)] [.one (.int .i64 (Int.sign z))]:=by
 by_cases h0:z=0
 ·subst h0;exact w tt Tryz.func293 rfl [.t (by simp [Uv,Gn])] rfl rfl trivial
 ·have hl:(Fg z.natAbs).length≠0:=λh=>h0 (Q4q.1 h)
  have hl':decide (((lm (Fg z.natAbs)).length:Int)=0)=false:=by simpa [Uv] using hl
  by_cases h1:z<0
  ·rw [Xu h1];exact w tt Tryz.func293 rfl [.f hl',.t (by simpa using h1)] rfl rfl trivial
  ·rw [X5 (by omega)];exact w tt Tryz.func293 rfl [.f hl',.f (by simpa using h1)] rfl rfl trivial
theorem Q6e {p:List Int} (hp:Pb p):Ut Tryz.prog 285 [pr p] [.one (.int .i64 (Oz p)),.one (.int .i64 (Qd7 p))]:=by
 have hb:-1<=(U9 p).sign/\(U9 p).sign<=1:=by rcases Eg (U9 p) with h | h | h <;> omega
 by_cases h:p.length % 2=0
 ·have e:Oz p=-(U9 p).sign:=by unfold Oz; rw [if_pos h]
  rw [e];exact w tt Tryz.func285 rfl [.c [] (Hm hp.t hp.ln hp.bd),.c [] (Co hp.t hp.ln hp.bd),.c [] Zhl,.t (by rw [Q2z]; simp [h])] rfl rfl (by simp [Ur,U9] at hb ⊢; omega)
 ·have e:Oz p=(U9 p).sign:=by unfold Oz; rw [if_neg h]
  rw [e];exact w tt Tryz.func285 rfl [.c [] (Hm hp.t hp.ln hp.bd),.c [] (Co hp.t hp.ln hp.bd),.c [] Zhl,.f (by rw [Q2z]; simp; omega)] rfl rfl (by simp [Ur])
theorem Q7g {p:List Int} (hp:Pb p):Ut Tryz.prog 284 [pr p] [.one (.int .i64 (Oz p))]:=w tt Tryz.func284 rfl [.c [] (Q6e hp)] rfl rfl trivial
theorem Zd6 {p:List Int} (hp:Pb p):Ut Tryz.prog 286 [pr p] [.one (.int .i64 (Qd7 p))]:=w tt Tryz.func286 rfl [.c [] (Q6e hp)] rfl rfl trivial
theorem Zjf {q:Rat} (hq:Qs 4294967295 q):Ut Tryz.prog 262 [.agg (rl q)] [.agg (rl (-q))]:=by
 exact w tt Tryz.func262 rfl [.c [] (Qjz hq),.c [] (Qjr (Uu _) hq.1)] rfl rfl trivial
theorem Qsw {l:List (List Int)} {fid:Nat} {sg:List Int->Int} (hl:l.length≤1000) (hs:∀ p,-1≤sg p/\sg p≤1) (h:∀ p∈l,Ut Tryz.prog fid [pr p] [.one (.int .i64 (sg p))]):Ut Tryz.prog 258 [.one (.sh [.row (Sf l)]),.one (.fn fid [] [])] [.one (.int .i64 (Bn sg l:Nat))]:=by
 have By:=Li l;refine Gv Tryz.func258 rfl ?_;refine go tt [] rfl trivial ?_;refine lp (S:=Nat) 0 (λL1 i=>(15,.v (.one (.int .i64 (i:Int))))::(5,.v (.one (.int .i64 ((tst sg l i).1:Int))))::(6,.v (.one (.int .i64 (tst sg l i).2)))::L1) (λ_=>[]) (λi=>l.length-i) (λi=>i<=l.length) 0 (Qh _) rfl (λ_ _=>rfl) rfl λi hi=>?_
 by_cases hlt:i<l.length
 ·obtain ⟨p,hp⟩:=gxE (l:=l) (i:=i) hlt;have hst:tst sg l (i+1)=S0 sg (tst sg l i) p:=Rr _ _ _ hp;obtain ⟨b1,b2,b3⟩:=Qry hs l i;have b4:=hs p;by_cases h0:sg p=0
  ·refine go tt [.t (by simp [By]; omega),.x (H8 hp),.c [] (h p (Qa hp)),.t (by simpa using h0)] rfl (by simp [Ur]; omega) ?_;exact rd (i+1) (by omega) hlt (by rw [hst,show S0 sg (tst sg l i) p=tst sg l i from by unfold S0; rw [if_pos h0]]; rfl)
  ·by_cases h1:(tst sg l i).2=-(sg p)
   ·refine go tt [.t (by simp [By]; omega),.x (H8 hp),.c [] (h p (Qa hp)),.f (by simpa using h0),.t (by simpa using h1)] rfl (by simp [Ur]; omega) ?_;exact rd (i+1) (by omega) hlt (by rw [hst,show S0 sg (tst sg l i) p=((tst sg l i).1+1,sg p) from by unfold S0; rw [if_neg h0,if_pos h1]]; rfl)
   ·refine go tt [.t (by simp [By]; omega),.x (H8 hp),.c [] (h p (Qa hp)),.f (by simpa using h0),.f (by simpa using h1)] rfl (by simp [Ur]; omega) ?_;exact rd (i+1) (by omega) hlt (by rw [hst,show S0 sg (tst sg l i) p=((tst sg l i).1,sg p) from by unfold S0; rw [if_neg h0,if_neg h1]]; rfl)
 ·obtain rfl:i=l.length:=by omega
  refine en tt [.f (by simp [By])] rfl ?_ trivial;unfold tst Bn; rw [List.take_length]
theorem Qf8 (p:List Int):(-1<=Oz p/\Oz p<=1)/\-1<=Qd7 p/\Qd7 p<=1:=by
 have hb:-1<=(U9 p).sign/\(U9 p).sign<=1:=by rcases Eg (U9 p) with h | h | h <;> omega
 unfold Oz Qd7
 split <;> omega
theorem Zdk {l:List (List Int)} (hl:l.length≤1000) (hp:∀ p∈l,Pb p):Ut Tryz.prog 263 [.one (.sh [.row (Sf l)])] [.one (.int .i64 (Qba l))]:=by
 have c1:Ut Tryz.prog 275 [.one (.sh [.row (Sf l)])] [.one (.int .i64 (Bn Oz l:Nat))] :=
  w tt Tryz.func275 rfl [.c [] (Qsw hl (λp=>(Qf8 p).1) λp h=>Q7g (hp p h))] rfl rfl trivial
 have c2:Ut Tryz.prog 276 [.one (.sh [.row (Sf l)])] [.one (.int .i64 (Bn Qd7 l:Nat))] :=
  w tt Tryz.func276 rfl [.c [] (Qsw hl (λp=>(Qf8 p).2) λp h=>Zd6 (hp p h))] rfl rfl trivial
 have b1:Bn Oz l<=l.length:=Df (λp=>(Qf8 p).1) l;have b2:Bn Qd7 l<=l.length:=Df (λp=>(Qf8 p).2) l;exact w tt Tryz.func263 rfl [.c [] c1,.c [] c2] rfl rfl (by simp [Ur]; omega)
theorem Qv9 {l:List (List Int)} {lo hi:Rat} (hl:l.length<=1000):-1000<=Ry l lo hi/\Ry l lo hi<=1000:=by
 have b1:Bp l lo<=l.length:=Df (λp=>Ik p lo) l;have b2:Bp l hi<=l.length:=Df (λp=>Ik p hi) l;unfold Ry; split <;> omega
end Orr
