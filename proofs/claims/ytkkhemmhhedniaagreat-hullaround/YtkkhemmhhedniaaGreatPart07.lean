/- T18 T19 T20 T21 T22 T23 T24 T25 G1 G2 SortL KinL K1 K2 F6 F7 F8 F9 G3 G4 K3 K4 S1 S2 S3 R5 -/
import Derived.Test.YtkkhemmhhedniaaGreatPart06
import Derived.Test.YtkkhemmhhedniaaGreatPart00
import Derived.Test.YtkkhemmhhedniaaGreatPart05
set_option linter.all false
namespace Orq
open Orr Go
theorem D7 {p:List Int} (h1:p.length<=64) (h2:Bd 16777216 p):chk p=some p:=by
 unfold chk;rw [if_pos ⟨h1,Yp.2 λz hz=>Nat.ble_eq_true_of_le (h2 z hz)⟩]
theorem Ql6 {a b:List Int} {g:List Rat} {c:Rat} (hc:c≠0) (h:∀ t,Uy a t=c*Uy b t):Ob g (cz a)↔Ob g (cz b):=by
 constructor
 ·rintro ⟨u,hu⟩
  refine ⟨Ce (1 / c) u,λt=>?_⟩;have h1:=hu t;rw [Uz,h] at h1;rw [Uz,Fy];have h2:1 / c*c=1:=Zj hc;have:Uy b t=1 / c*(c*Uy b t):=by grind
  rw [this,h1]; grind
 ·rintro ⟨u,hu⟩
  refine ⟨Ce c u,λt=>?_⟩;have h1:=hu t;rw [Uz] at h1;rw [Uz,Fy,h,h1]; grind
structure Gc (g a b:List Int):Prop where
 t:U3 g
 da:Ob (cz g) (cz a)
 db:Ob (cz g) (cz b)
 c:∃ U V,∀ t,Uy g t=ev U t*Uy a t+ev V t*Uy b t
 n:g.length≠0
theorem Gc.scale {g a b g' a' b':List Int} {x y z:Rat} (h:Gc g a b) (hx:x≠0) (hy:y≠0) (hz:z≠0) (tg:U3 g') (eg:∀ t,Uy g t=x*Uy g' t) (ea:∀ t,Uy a' t=y*Uy a t) (eb:∀ t,Uy b' t=z*Uy b t):Gc g' a' b':=by
 have hx1:1 / x*x=1:=Zj hx;have hy1:1 / y*y=1:=Zj hy;have hz1:1 / z*z=1:=Zj hz;have hg:∀ c,Ob (cz g) c->Ob (cz g') c:=λc ⟨u,hu⟩=>⟨Ce x u,λt=>by rw [hu,Uz,Uz,eg,Fy]; grind⟩
 obtain ⟨U,V,hc⟩:=h.c;refine ⟨tg,hg _ ((Ql6 hy ea).2 h.da),hg _ ((Ql6 hz eb).2 h.db),⟨Ce (1 / x*(1 / y)) U,Ce (1 / x*(1 / z)) V,λt=>?_⟩,?_⟩
 ·have h1:=hc t;have h2:Uy g' t=1 / x*Uy g t:=by rw [eg]; grind
  rw [h2,h1,Fy,Fy,ea,eb];generalize ev U t=u at *;generalize ev V t=v at *;grind
 ·rw [<-Iq h.t tg hx eg]; exact h.n
theorem Ziu:∀ d:Nat,1<=d->d+2<=3^d
 | 0,h=>by omega
 | 1,_=>by decide
 | d+2,_=>by have:=Ziu (d+1) (by omega); rw [Zo]; omega
theorem Qug {k:Nat} {a b:List Int} (ta:U3 a) (tb:U3 b) (hb:b.length≠0) (hl:a.length<=60) (hbl:b.length<=60) (hr:Bd 16777216 (Ra a b)) (ih:∃ g,Qf8 k b (Ra a b)=some g/\Gc g b (Ra a b)):∃ g,Qf8 (k+1) a b=some g/\Gc g a b:=by
 obtain ⟨h1,h2,h3,u,v,up,vp,X,hX⟩:=Qib ta tb hb hl;obtain ⟨g,e,hg⟩:=ih;refine ⟨g,?_,?_⟩
 ·simp only [Qf8];rw [if_neg hb,D7 (by omega) hr]; exact e
 ·obtain ⟨U,V,hc⟩:=hg.c;obtain ⟨y,hy⟩:=hg.da;obtain ⟨z,hz⟩:=hg.db;have hu:1 / u*u=1:=Gh up;have hv:1 / v*v=1:=Gh vp;refine ⟨hg.t,⟨Ce (1 / u) (Tr (Gn X y) (Ce v z)),λt=>?_⟩,hg.da,⟨Ce (u / v) V,Tr U (Ce (-1 / v) (Gn V X)),λt=>?_⟩,hg.n⟩
  ·have a1:=hX t; have a2:=hy t; have a3:=hz t;rw [Uz,Uz] at a2 a3;rw [Uz,Uz,Fy,Gj,U5,Fy];have:Uy a t=1 / u*(u*Uy a t):=by grind
   rw [this,a1,a2,a3]; grind
  ·have a1:=hX t; have a2:=hc t;rw [Fy,Gj,Fy,U5,a2];have:Uy (Ra a b) t=1 / v*(v*Uy (Ra a b) t):=by grind
   rw [this,show v*Uy (Ra a b) t=u*Uy a t-ev X t*Uy b t by grind,Jx,Jx,Jx];grind
theorem Q1h {k:Nat} {a:List Int} (ta:U3 a) (ha:a.length≠0):∃ g,Qf8 (k+1) a []=some g/\Gc g a [] :=
 ⟨a,rfl,ta,dvd_refl _,⟨[],λt=>by simp only [cz,Jl,ev]; grind⟩,⟨[1],[],λt=>by rw [Rf]; simp only [ev]; grind⟩,ha⟩
theorem Qf9 {s:Nat}:∀ (k:Nat) (a b:List Int),U3 a->U3 b->b.length<k->b.length<a.length->a.length<=60->Bd s a->Bd s b->(s+8)*3^(a.length-1)<=16777216->∃ g,Qf8 k a b=some g/\Gc g a b
 | 0,_,_,_,_,h,_,_,_,_,_=>by omega
 |
  k+1,a,b,ta,tb,hk,hab,hl,ba,bb,hs=>by
  by_cases hb:b.length=0
  ·rw [Qh hb]; exact Q1h ta (by omega)
  ·obtain ⟨h1,h2,h3,_⟩:=Qib ta tb hb hl;have h3:=h3 s ba bb;obtain ⟨m,hm⟩:=nmE (a.length-b.length);have e1:a.length+1-b.length=m+1:=by omega
   rw [e1] at h3;have e2:s+(m+1)*(s+8)+8=(m+2)*(s+8):=by
    rw [show m+2=(m+1)+1 by omega,Xh (m+1)]; omega
   have e3:(m+2)*(s+8)*3^(b.length-1)<=(s+8)*3^(a.length-1):=by
    rw [show a.length-1=m+(b.length-1) by omega,Xl,<-Xq,Zh (s+8)];exact Qz _ (Qz _ (Ziu m (by omega)))
   have e4:s+(m+1)*(s+8)<=16777216:=by
    have:(m+2)*(s+8)<=(m+2)*(s+8)*3^(b.length-1):=J3 _ (Z9 (by decide));omega
   refine Qug ta tb hb hl (by omega) (Uv h3 e4) (Qf9 (s:=s+(m+1)*(s+8)) k b (Ra a b) tb h1 (by omega) h2 (by omega) (Uv bb (by omega)) h3 ?_);rw [e2]; omega
def Szz (n s:Nat):Prop:=n<=10/\2*(s+8)*3^(n-1)<=16777216
theorem Zap {n s:Nat} (hz:Szz n s) {a b:List Int} (ta:U3 a) (tb:U3 b) (la:a.length<=n) (lb:b.length<=n) (ba:Bd s a) (bb:Bd s b) (h0:a.length≠0\/b.length≠0):∃ g,Qf8 66 a b=some g/\Gc g a b:=by
 obtain ⟨hn,hz⟩:=hz;have hp:∀ l,l<=n->(s+8)*3^(l-1)<=8388608:=λl hl=>by
  have:(s+8)*3^(l-1)<=(s+8)*3^(n-1):=Zm _ (Zs (by decide) (by omega));rw [Xq] at hz; omega
 rcases Q6 b.length a.length with h | h
 ·exact Qf9 66 a b ta tb (by omega) h (by omega) ba bb (by have:=hp a.length la; omega)
 ·by_cases hb:b.length=0
  ·rw [Qh hb]; exact Q1h ta (by omega)
  ·obtain ⟨h1,h2,h3,_⟩:=Qib ta tb hb (by omega);have h3:=h3 s ba bb;have h4:(a.length+1-b.length)*(s+8)<=1*(s+8):=Qz _ (by omega);have h5:=hp b.length lb;have h6:(s+8)*1<=(s+8)*3^(b.length-1):=Zm _ (Z9 (by decide));refine Qug ta tb hb (by omega) (by omega) (Uv h3 (by omega)) (Qf9 (s:=2*s+8) 65 b (Ra a b) tb h1 (by omega) h2 (by omega) (Uv bb (by omega)) (Uv h3 (by omega)) ?_);rw [show 2*s+8+8=2*(s+8) by omega,Xq]; omega
theorem Qnf:Fg []=[]:=rfl
theorem Qd5 {a:List Int} (ta:U3 a):U3 (Fg a)/\(Fg a).length=a.length/\(∀ s,Bd s a->Bd s (Fg a))/\∃ c:Rat,c≠0/\∀ t,Uy a t=c*Uy (Fg a) t:=by
 by_cases h:a.length=0
 ·rw [Qh h];exact ⟨rfl,rfl,λs _=>Of,1,by decide,λt=>by rw [Qnf]; grind⟩
 ·obtain ⟨h1,h2,h3,h4,h5,h6,h7⟩:=Cw ta h;exact ⟨h1,h2,h5,_,O1 h6,h7⟩
theorem Qcx {n s:Nat} (hz:Szz n s) {a b:List Int} (ta:U3 a) (tb:U3 b) (la:a.length<=n) (lb:b.length<=n) (ba:Bd s a) (bb:Bd s b) (h0:a.length≠0\/b.length≠0):∃ g,Qah a b=some g/\Gc g a b/\Prm g/\0<Ff g:=by
 obtain ⟨a1,a2,a3,x,xn,ax⟩:=Qd5 ta;obtain ⟨b1,b2,b3,y,yn,bx⟩:=Qd5 tb;obtain ⟨g,e,hg⟩:=Zap hz a1 b1 (by omega) (by omega) (a3 s ba) (b3 s bb) (by omega);obtain ⟨g1,g2,g3,g4,g5,g6,g7⟩:=Cw hg.t hg.n;refine ⟨Fg g,?_,hg.scale (O1 g6) xn yn g1 g7 ax bx,g3,g4⟩;unfold Qah; rw [e]; rfl
theorem Q31 {a:List Int} (ta:U3 a):Qah [] a=some (Fg (Fg a)):=by
 unfold Qah;rw [Qnf];by_cases h:(Fg a).length=0
 ·have e:Fg a=[]:=Qh h;rw [e]; rfl
 ·have e:Ra [] (Fg a)=[]:=by
   have e1:Pd [] (Fg a)=[]:=by unfold Pd; rw [show ([]:List Int).length+1-(Fg a).length=0 by simp; omega]; rfl
   unfold Ra;rw [e1];unfold M8
   split <;> rfl
  have:Qf8 66 [] (Fg a)=some (Fg a):=by
   show (if (Fg a).length=0 then _ else _)=_;rw [if_neg h,e]; rfl
  rw [this]; rfl
theorem Q7g {n s:Nat} (hz:Szz n s) {a b:List Int} (ta:U3 a) (tb:U3 b) (la:a.length<=n) (lb:b.length<=n) (ba:Bd s a) (bb:Bd s b) (h0:a.length≠0):∃ g,Qpz a b=some g/\Gc g a b/\Prm g/\0<Ff g:=by
 obtain ⟨a1,a2,a3,x,xn,ax⟩:=Qd5 ta;obtain ⟨b1,b2,b3,y,yn,bx⟩:=Qd5 a1;obtain ⟨g,e,hg,h1,h2⟩:=Qcx hz b1 tb (by omega) lb (b3 s (a3 s ba)) bb (by omega);refine ⟨g,?_,hg.scale (x:=1) (y:=x*y) (z:=1) (by decide) (λh=>(Je.1 h).elim xn yn) (by decide) hg.t (λt=>by grind) (λt=>by rw [ax,bx]; grind) (λt=>by grind),h1,h2⟩;unfold Qpz;rw [Q31 ta]; exact e
theorem Q1f:∀ {p q:List Rat} {m n:Nat},HD p m->HD q n->(Gn p q).getD (m+n) 0=p.getD m 0*q.getD n 0
 | [],q,m,n,h,_=>absurd (by simp) h.1
 |
  a::p,q,0,n,h,h'=>by
  have h1:∀ k,p.getD k 0=0:=λk=>by have:=h.2 (k+1) (by omega); rwa [Q3] at this
  simp only [Gn];rw [Hz,To,Zq,Zu];cases n with
  | zero=>rw [Zq]; grind
  | succ n=>rw [Q3,Qgt h1]; grind
 |
  a::p,q,m+1,n,h,h'=>by
  have ih:=Q1f (p:=p) (q:=q) (m:=m) ⟨by have:=h.1; rwa [Q3] at this,λk hk=>by have:=h.2 (k+1) (by omega); rwa [Q3] at this⟩ h';simp only [Gn];rw [Hz,To,show m+1+n=(m+n)+1 by omega,Q3,h'.2 _ (by omega),ih,Q3]; grind
theorem Qsx {a b c:List Int} (ta:U3 a) (tb:U3 b) (tc:U3 c) (h:∀ t,Uy c t=Uy a t*Uy b t) (la:0<a.length) (lb:0<b.length):Ff c=Ff a*Ff b:=by
 have h1:=Qgs ta la;have h2:=Qgs tb lb;have h3:=Q1f h1 h2;have hl:=Pz ta tb tc h la lb;rw [<-B9 (p:=cz c) (λt=>by rw [U5,Uz,Uz,Uz,h]),Py,Py,Py,show a.length-1+(b.length-1)=c.length-1 by omega] at h3;unfold Ff; exact_mod_cast h3
theorem Ri {a b c:List Int} (tc:U3 c) (hc:c.length≠0) (h:∀ t,Uy c t=Uy a t*Uy b t):0<a.length/\0<b.length:=by
 constructor
 ·rcases Qy a.length with e | e
  ·exact absurd (λt=>by rw [h,Cc e]; grind) (Qgj tc (by omega))
  ·exact e
 ·rcases Qy b.length with e | e
  ·exact absurd (λt=>by rw [h,Cc e]; grind) (Qgj tc (by omega))
  ·exact e
theorem Qpy {b:List Int} (tb:U3 b) (hb:b.length≠0):∀ (i:Nat) (a q h:List Int),U3 a->U3 h->(∀ t,Uy a t=Uy b t*Uy h t)->a.length<b.length+i->i<=q.length->(∀ j,j<i->q.getD j 0=0)->∃ q',Qpx b i a q=some q'/\q'.length=q.length/\∀ t,Uy q' t=Uy q t+Uy h t
 |
  0,a,q,h,ta,th,e,hl,_,_=>by
  have ha:a.length=0:=by
   rcases Qy a.length with e' | e'
   ·exact e'
   ·obtain ⟨p1,p2⟩:=Ri ta (by omega) e;have:=Pz tb th ta e p1 p2; omega
  refine ⟨q,by simp only [Qpx]; rw [if_pos ha],rfl,λt=>?_⟩;have:∀ t,Uy h t=0:=λt=>by
   have:=Qvq (p:=cz b) (q:=cz h) (r:=[]) (λh0=>Qgj tb (by omega) λt=>by rw [<-Uz]; exact h0 t) (λt=>by rw [Uz,Uz,<-e,Cc ha]; simp only [ev]; grind) t;rwa [Uz] at this
  rw [this]; grind
 |
  i+1,a,q,h,ta,th,e,hl,hq,h0=>by
  simp only [Qpx];by_cases hlt:a.length<b.length+i
  ·rw [if_pos hlt];exact Qpy tb hb i a q h ta th e hlt (by omega) λj hj=>h0 j (by omega)
  ·rw [if_neg hlt];obtain ⟨p1,p2⟩:=Ri ta (by omega) e;have hln:=Pz tb th ta e p1 p2;have hld:=Qsx tb th ta e p1 p2;have hlb:=Ea tb hb;rw [hld,if_pos (Int.mul_emod_right _ _),Xw _ hlb];have hli:h.length=i+1:=by omega
   have e2:∀ t,Uy (Po a (Fu (trim (mono i (Ff h))) b)) t=Uy b t*Uy (Po h (mono i (Ff h))) t:=λt=>by
    rw [Nt,Nt,Fh,An,e]; grind
   have hl2:(Po a (Fu (trim (mono i (Ff h))) b)).length<b.length+i:=by
    have hl:=Qz5 (i:=i) (x:=Ff h) (b:=b) (a:=a);unfold sta at hl;have:=Q7v (p:=Po a (Fu (trim (mono i (Ff h))) b)) (n:=b.length+i-1) (Fl _ _) (by omega) (by
     rw [As,Q0b,if_pos (by omega),show b.length+i-1-i=b.length-1 by omega,show b.length+i-1=a.length-1 by omega];have:Ff a=a.getD (a.length-1) 0:=rfl;rw [<-this,hld];unfold Ff;rw [Wg,Int.sub_eq_zero])
    omega
   obtain ⟨q',h1,h2,h3⟩:=Qpy tb hb i _ (q.set i (Ff h)) (Po h (mono i (Ff h))) (Fl _ _) (Fl _ _) e2 hl2 (by simp; omega) λj hj=>by
    rw [Qf,Y5,if_neg (by omega),<-Qf];exact h0 j (by omega)
   refine ⟨q',h1,by rw [h2,Jt],λt=>?_⟩;rw [h3,Qpw q i _ t (by omega),h0 i (by omega),Nt,Qad]
   push_cast; grind
theorem Q9d {a b h:List Int} {s:Nat} (ta:U3 a) (tb:U3 b) (th:U3 h) (ha:a.length≠0) (la:a.length<=10) (ba:Bd s a) (hs:s+69<=16777216) (e:∀ t,Uy a t=Uy b t*Uy h t):Qbt a b=some h:=by
 obtain ⟨p1,p2⟩:=Ri ta ha e;have hln:=Pz tb th ta e p1 p2;obtain ⟨q,h1,h2,h3⟩:=Qpy tb (by omega) (a.length+1-b.length) a (List.replicate (a.length+1-b.length) 0) h ta th e (by omega) (by simp) λj _=>Tw _ _
 have h4:trim q=h:=Qpv (H6 _) th λt=>by rw [An,h3,Qna]; grind
 unfold Qbt;rw [if_neg (by omega),h1];show chk (trim q)=_;rw [h4];exact D7 (by omega) (Uv (Ou ba la ta th tb ha λt=>by rw [e]; grind) (by omega))
structure Pr1 (p:List Int):Prop where
 t:U3 p
 m:Prm p
 l:0<Ff p
theorem Pr1.n {p:List Int} (h:Pr1 p):p.length≠0:=λe=>by
 have:=h.l;rw [Qh e] at this;exact absurd this (by decide)
theorem Pr1.one {p:List Int} (h:Pr1 p) (hl:p.length<2):p=[1]:=by
 have hn:=h.n;obtain ⟨c,rfl⟩:∃ c,p=[c]:=Kw.1 (by omega);have h1:=h.m c λk=>by cases k <;> simp
 have h2:0<c:=h.l;have:=Int.le_of_dvd (by decide) h1;rw [show c=1 by omega]
theorem Zd5 {p g h:List Int} (hp:Prm p) (e:∀ t,Uy p t=Uy g t*Uy h t):Prm h:=λd hd=>by
 refine hp d λk=>?_
 have:=Cq (p:=p) (q:=Fu g h) (λt=>by rw [e,Fh]) k;rw [this];have e2:∀ t,Uy (Fu g h) t=(d:Rat)*Uy (Fu g (h.map (· / d))) t:=λt=>by
  have h1:Uy h t=(d:Rat)*Uy (h.map (· / d)) t:=by
   have:=Ns d 0 t (max h.length (h.map (· / d)).length) (h.map (· / d)) [] h (by omega) (by simp) (by omega) λk=>by
    rw [Qdl,Wh (hd k)]; simp
   rw [this]; simp only [Uy]; push_cast; grind
  rw [Fh,Fh,h1]; grind
 have:=Cq (p:=Fu g h) (q:=Fi (Fu g (h.map (· / d))) d) (λt=>by rw [e2,Rh]; grind) k;rw [this,Pm]; exact Vd _ _
theorem Zd4 {p g h:List Int} (hp:Pr1 p) (hg:0<Ff g) (tg:U3 g) (th:U3 h) (e:∀ t,Uy p t=Uy g t*Uy h t):Pr1 h:=by
 obtain ⟨p1,p2⟩:=Ri hp.t hp.n e;have:=Qsx tg th hp.t e p1 p2;refine ⟨th,Zd5 hp.m e,?_⟩;have hl:=hp.l;rw [this] at hl;rcases J4 (Ff h) 0 with h1 | h1 | h1
 ·have:=Kg hg h1; omega
 ·rw [h1] at hl; omega
 ·exact h1
structure Sqp (p g q:List Int):Prop where
 pp:Pr1 p
 pg:Pr1 g
 pq:Pr1 q
 e:∀ t,Uy p t=Uy g t*Uy q t
 c:∃ U V,∀ t,Uy g t=ev U t*Uy p t+ev V t*dv (cz p) t
 d:∃ z,∀ t,dv (cz p) t=Uy g t*ev z t
theorem Sqp.num {p g q:List Int} (h:Sqp p g q) {d:List Rat} (h1:Ob d (cz q)) (h2:Ob d (Mw (cz q))):∃ c:Rat,c≠0/\∀ t,ev d t=c:=by
 obtain ⟨U,V,hc⟩:=h.c;have hpow:=sqf (k:=1) (a:=cz p) (g:=cz g) (q:=cz q) (d:=d) (U:=U) (V:=V) (by decide) (λt=>by rw [Uz,Uz,Uz,h.e]) (λt=>by rw [Uz,Uz,hc]; grind) h1 h2;rcases Qjw d with h3 | ⟨m,_,h3⟩
 ·obtain ⟨u,hu⟩:=h1;exact absurd (λt=>by rw [<-Uz,hu,h3]; grind) (Qgj h.pq.t (by have:=h.pq.n; omega))
 ·obtain rfl:=Qne h3 (Qgs h.pg.t (by have:=h.pg.n; omega)) hpow;refine ⟨d.getD 0 0,h3.1,λt=>?_⟩;cases d with
  | nil=>exact absurd (by simp) h3.1
  |
   cons c l =>
   have:=Cm (p:=l) λk=>by have:=h3.2 (k+1) (by omega); rwa [Q3] at this
   simp only [ev,this,Zq]; grind
theorem Sqp.bez {p g q:List Int} (h:Sqp p g q):∃ X Y,∀ t,ev X t*ev (cz q) t+ev Y t*dv (cz q) t=1:=by
 obtain ⟨d,U,V,h1,h2,h3⟩:=Q7f (cz q) (Mw (cz q));obtain ⟨c,hc,hd⟩:=h.num h1 h2;refine ⟨Ce (1 / c) U,Ce (1 / c) V,λt=>?_⟩;have h5:=h3 t;rw [hd,Rq] at h5;have h4:1 / c*c=1:=Zj hc;rw [Fy,Fy];have:1 / c*ev U t*ev (cz q) t+1 / c*ev V t*dv (cz q) t=1 / c*(ev U t*ev (cz q) t+ev V t*dv (cz q) t):=by grind
 rw [this,<-h5,h4]
theorem Zai {n s:Nat} (h:Szz n s):s<=8388600:=by
 have:2*(s+8)*1<=2*(s+8)*3^(n-1):=Zm _ (Z9 (by decide));have:=h.2; omega
theorem Quz {s:Nat} {p:List Int} (h:Bd s p) (hl:p.length<=10):Bd (s+4) (Gf p):=Qhp h (t:=4) (by omega)
theorem Q1c {n s:Nat} (hz:Szz n (s+73)) {p:List Int} (pp:Pr1 p) (l2:2<=p.length) (lp:p.length<=n) (bp:Bd (s+69) p) {p0 h0:List Int} (b0:Bd s p0) (l0:p0.length<=10) (t0:U3 p0) (th0:U3 h0) (z0:p0.length≠0) (e0:∀ t,Uy p0 t=Uy h0 t*Uy p t) :
 ∃ g q,chk (Gf p)=some (Gf p)/\Qah p (Gf p)=some g/\Qbt p g=some q/\Sqp p g q/\g.length<p.length:=by
 have hn:=hz.1;have hs:=Zai hz;have bd:=Quz bp (by omega);have ld:=Pi p;have td:U3 (Gf p):=Fl _ _;obtain ⟨g,e1,hg,m,l⟩:=Qcx hz pp.t td lp (by omega) (Uv bp (by omega)) bd (.inl pp.n);obtain ⟨q,tq,eq⟩:=Q69 m hg.da;have hdnz:(Gf p).length≠0:=λh=>by
  have h1:=M7 p (p.length-2);rw [Qh h,show p.length-2+1=p.length-1 by omega] at h1;have h2:p.getD (p.length-1) 0≠0:=Hk pp.t (by omega);rcases Yw.1 (h1.symm.trans (by simp)) with h3 | h3
  ·exact h2 h3
  ·omega
 have pg:Pr1 g:=⟨hg.t,m,l⟩;have hql:=Q9d (s:=s+69) pp.t hg.t tq pp.n (by omega) bp (by omega) eq;refine ⟨g,q,D7 (by omega) (Uv bd (by omega)),e1,hql,⟨pp,pg,Zd4 pp l hg.t tq eq,eq,?_,?_⟩,?_⟩
 ·obtain ⟨U,V,hc⟩:=hg.c;exact ⟨U,V,λt=>by rw [hc,Am]⟩
 ·obtain ⟨z,hz⟩:=hg.db;exact ⟨z,λt=>by rw [<-Am,<-Uz,hz,Uz]⟩
 ·obtain ⟨z,tz,ez⟩:=Q69 m hg.db;obtain ⟨q1,q2⟩:=Ri td hdnz ez;have:=Pz hg.t tz td ez q1 q2;omega
theorem Zdv:Sqp [1] [1] [1]:=by
 have p1:Pr1 [1]:=⟨rfl,λd hd=>by have:=hd 0; rwa [Zq] at this,by decide⟩;have e1:∀ t,Uy [1] t=1:=λt=>by simp only [Uy]; push_cast; grind
 exact ⟨p1,p1,p1,λt=>by rw [e1]; grind,⟨[1],[],λt=>by rw [e1,Rf]; simp only [ev]; grind⟩,⟨[],λt=>by simp only [cz,Z8,Jl,dv,ev]; grind⟩⟩
structure Okp (n s:Nat) (p:List Int):Prop where
 z:Szz n (s+73)
 t:U3 p
 nz:p.length≠0
 l:p.length<=n
 b:Bd s p
theorem Okp.pr {n s:Nat} {p:List Int} (h:Okp n s p):Pr1 (Fg p)/\(Fg p).length=p.length/\Bd s (Fg p):=by
 obtain ⟨h1,h2,h3,h4,h5,_⟩:=Cw h.t h.nz;exact ⟨⟨h1,h3,h4⟩,h2,h5 s h.b⟩
theorem Qbi {n s:Nat} {p:List Int} (h:Okp n s p):∃ g q,P5 p=some q/\Sqp (Fg p) g q:=by
 obtain ⟨pp,hl,hb⟩:=h.pr;have hn:=h.z.1;have:=h.l;unfold P5;by_cases h2:(Fg p).length<2
 ·rw [if_pos h2,pp.one h2]; exact ⟨[1],[1],rfl,Zdv⟩
 ·rw [if_neg h2];obtain ⟨g,q,h3,h4,h5,h6,_⟩:=Q1c h.z pp (by omega) (by omega) (Uv hb (by omega)) (p0:=Fg p) (h0:=[1]) hb (by omega) pp.t rfl pp.n λt=>by simp only [Uy]; push_cast; grind
  exact ⟨g,q,by rw [h3]; show (Qah (Fg p) (Gf (Fg p))).bind _=_; rw [h4]; exact h5,h6⟩
inductive LW:List Int->List (List Int)->Prop
 | nil:LW [1] []
 | cons {g h w:List Int} {ws:List (List Int)} (hs:Sqp g h w) (hl:LW h ws):LW g (w::ws)
theorem Zii {g:List Int} {ws:List (List Int)} (h:LW g ws):∀ t,Uy g t=ev (Aj (ws.map cz)) t:=by
 induction h with
 | nil=>intro t; simp only [Jl,Aj,Uy]; rw [Rf]; push_cast; grind
 | cons hs hl ih=>intro t; simp only [Z8,Aj]; rw [U5,Uz,hs.e,ih]; grind
theorem Q0a {g:List Int} {w v:List Int} {ws:List (List Int)} (h:LW g (w::v::ws)):∃ f,U3 f/\∀ t,Uy w t=Uy f t*Uy v t:=by
 cases h with
 |
  @cons _ h _ _ hs hl =>
  cases hl with
  |
   @cons _ h2 _ _ hs2 hl2 =>
   obtain ⟨X,Y,hb⟩:=hs2.bez;obtain ⟨z,hz⟩:=hs.d;have hd:=Ze0 (a:=cz g) (g:=cz h) (q:=cz w) (z:=z) (r:=cz v) (X:=X) (Y:=Y) (n:=h.length-1) (λt=>by rw [Uz,Uz,Uz,hs.e]) (λt=>by rw [hz,Uz]) (Qgs hs.pg.t (by have:=hs.pg.n; omega)) hb
    ⟨Gn (cz h2) (cz w),λt=>by rw [U5,Uz,Uz,Uz,Uz,hs.e,hs2.e]; grind⟩
   obtain ⟨f,tf,ef⟩:=Q69 hs2.pq.m hd;exact ⟨f,tf,λt=>by rw [ef]; grind⟩
theorem Qsz {g w:List Int} {ws:List (List Int)} (h:LW g (w::ws)):∀ v∈w::ws,Pr1 v/\Ob (cz v) (cz w):=by
 have key:∀ (ws:List (List Int)) (g w:List Int),LW g (w::ws)->∀ v∈w::ws,Pr1 v/\Ob (cz v) (cz w):=by
  intro ws
  induction ws with
  |
   nil =>
   intro g w h v hv;rw [Qj.1 hv];cases h with
   | cons hs hl=>exact ⟨hs.pq,dvd_refl _⟩
  |
   cons u ws ih =>
   intro g w h v hv;have hn:=Q0a h;cases h with
   |
    @cons _ h _ _ hs hl =>
    rcases Qq.1 hv with rfl | hv
    ·exact ⟨hs.pq,dvd_refl _⟩
    ·obtain ⟨i1,i2⟩:=ih h u hl v hv;obtain ⟨f,_,hf⟩:=hn;exact ⟨i1,dvd_trans i2 ⟨cz f,λt=>by rw [Uz,Uz,Uz,hf]; grind⟩⟩
 exact key ws g w h
theorem Qwf {n s:Nat} (hz:Szz n (s+73)) {p0:List Int} (b0:Bd s p0) (l0:p0.length<=10) (t0:U3 p0) (z0:p0.length≠0):∀ (k:Nat) (g h0:List Int),Pr1 g->g.length<=k->g.length<=n->U3 h0->(∀ t,Uy p0 t=Uy h0 t*Uy g t)->∃ ws,Q24 k g=some ws/\LW g ws
 | 0,g,_,pg,hk,_,_,_=>absurd pg.n (by omega)
 |
  k+1,g,h0,pg,hk,hn,th0,e0=>by
  simp only [Q24];by_cases h2:g.length<2
  ·rw [if_pos h2,pg.one h2]; exact ⟨[],rfl,.nil⟩
  ·rw [if_neg h2];have bg:Bd (s+69) g:=Ou b0 l0 t0 pg.t th0 z0 λt=>by rw [e0]; grind
   obtain ⟨h,w,h3,h4,h5,h6,h7⟩:=Q1c hz pg (by omega) hn bg b0 l0 t0 th0 z0 e0;obtain ⟨ws,i1,i2⟩:=Qwf hz b0 l0 t0 z0 k h (Fu h0 w) h6.pg (by omega) (by omega) (G8 _ _) λt=>by rw [e0,Fh,h6.e]; grind
   refine ⟨w::ws,?_,.cons h6 i2⟩;rw [h3];show (Qah g (Gf g)).bind _=_;rw [h4];show (Qbt g h).bind _=_;rw [h5];show (Q24 k h).bind _=_;rw [i1]; rfl
theorem Q61 {s:Nat} {p0:List Int} (b0:Bd s p0) (l0:p0.length≤10) (t0:U3 p0) (z0:p0.length≠0) (hs:s+69+69≤16777216):∀ (ws:List (List Int)) (g h0:List Int),LW g ws->U3 h0->(∀ t,Uy p0 t=Uy h0 t*Uy g t)->∃ fs,Q60 ws=some fs/\Lay (ws.map cz) (fs.map cz)/\∀ f∈fs,U3 f
 | [],g,_,_,_,_=>⟨[],rfl,trivial,λf hf=>by cases hf⟩
 |
  [w],g,_,hl,_,_=>by
  cases hl with
  | cons hs hl=>exact ⟨[w],rfl,λt=>rfl,λf hf=>by rw [Qj.1 hf]; exact hs.pq.t⟩
 |
  w::v::ws,g,h0,hl,th0,e0=>by
  obtain ⟨f,tf,ef⟩:=Q0a hl;cases hl with
  |
   @cons _ h _ _ hs1 hl =>
   have hpv:=(Qsz hl v (Qx ..)).1;obtain ⟨fs,i1,i2,i3⟩:=Q61 b0 l0 t0 z0 hs (v::ws) h (Fu h0 w) hl (G8 _ _) λt=>by rw [e0,Fh,hs1.e]; grind
   have ew:∀ t,Uy p0 t=Uy w t*Uy (Fu h0 h) t:=λt=>by rw [e0,Fh,hs1.e]; grind
   have bw:Bd (s+69) w:=Ou b0 l0 t0 hs1.pq.t (G8 _ _) z0 ew;obtain ⟨p1,p2⟩:=Ri t0 z0 ew;have lw:=Pz hs1.pq.t (G8 _ _) t0 ew p1 p2;have hq:=Q9d (s:=s+69) hs1.pq.t hpv.t tf hs1.pq.n (by omega) bw hs λt=>by rw [ef]; grind
   refine ⟨f::fs,?_,⟨λt=>by rw [Uz,Uz,Uz,ef],i2⟩,λx hx=>?_⟩
   ·show (Qbt w v).bind _=_;rw [hq];show (Q60 (v::ws)).bind _=_;rw [i1]; rfl
   ·rcases Qq.1 hx with rfl | hx
    ·exact tf
    ·exact i3 x hx
def Mh:List (List Int)->List Int
 | []=>[1]
 | [f]=>f
 | f::_::l=>Fu f (Mh l)
theorem Qta:∀ (fs:List (List Int)) (t:Rat),ev (Qhg (fs.map cz)) t=Uy (Mh fs) t
 | [],t=>by simp only [Jl,Qhg,Mh,Uy]; rw [Rf]; push_cast; grind
 | [f],t=>by simp only [Z8,Jl,Qhg,Mh]; rw [Uz]
 | f::g::l,t=>by simp only [Z8,Qhg,Mh]; rw [U5,Uz,Fh,Qta l]
theorem P3 (t:Rat):Uy [1] t=1:=by simp only [Uy]; push_cast; grind
theorem Qmd:∀ {w:List Int} {ws fs:List (List Int)},Lay ((w::ws).map cz) (fs.map cz)->(∀ f∈fs,U3 f)->(∀ v∈w::ws,U3 v)->∃ E,U3 E/\∀ t,Uy w t=Uy (Mh fs) t*Uy E t
 |
  w,[],[f],h,_,_=>⟨[1],rfl,λt=>by
  have:=h t;rw [Uz,Uz] at this;rw [this,P3]; simp only [Mh]; grind⟩
 |
  w,[v],[f,f2],h,_,hw=>⟨v,hw v (by simp),λt=>by
  have:=h.1 t;rw [Uz,Uz,Uz] at this;rw [this]; simp only [Mh]; rw [Fh,P3]; grind⟩
 |
  w,v::x::l,f::f2::fs,h,hf,hw=>by
  obtain ⟨E,hE,e⟩:=Qmd (w:=x) (ws:=l) (fs:=fs) h.2.2 (λg hg=>hf g (by simp [hg])) (λg hg=>hw g (by simp at hg ⊢; exact .inr (.inr hg)));refine ⟨Fu f2 E,G8 _ _,λt=>?_⟩;have a1:=h.1 t;have a2:=h.2.1 t;rw [Uz,Uz,Uz] at a1 a2;have e2:Uy (Mh (f::f2::fs)) t=Uy f t*Uy (Mh fs) t:=by simp only [Mh]; rw [Fh]
  rw [a1,a2,e,e2,Fh]; grind
 | w,[],[],h,_,_=>h.elim
 | w,[],_::_::_,h,_,_=>h.elim
 | w,[v],[],h,_,_=>h.elim
 | w,[v],[f],h,_,_=>h.2.elim
 | w,[v],_::_::_::_,h,_,_=>h.2.elim
 | w,v::x::l,[f],h,_,_=>h.2.elim
 | w,v::x::l,[],h,_,_=>h.elim
theorem Qd0 {s:Nat} {p0:List Int} (b0:Bd s p0) (l0:p0.length≤10) (t0:U3 p0) (z0:p0.length≠0) (hs:s+69≤16777216):∀ (fs:List (List Int)) (i:Nat) (a E:List Int),i % 2=0->U3 a->U3 E->(∀ f∈fs,U3 f)->(∀ t,Uy p0 t=Uy a t*Uy (Mh fs) t*Uy E t)->∃ o,Qkg i a fs=some o/\U3 o/\∀ t,Uy o t=Uy a t*Uy (Mh fs) t
 | [],i,a,E,hi,ta,_,_,_=>⟨a,rfl,ta,λt=>by simp only [Mh]; rw [P3]; grind⟩
 |
  [f],i,a,E,hi,ta,tE,tf,hE=>by
  have e1:∀ t,Uy p0 t=Uy (Fu a f) t*Uy E t:=λt=>by rw [hE,Fh]; rfl
  have b1:=Ou b0 l0 t0 (G8 a f) tE z0 e1;obtain ⟨p1,p2⟩:=Ri t0 z0 e1;have hl:=Pz (G8 a f) tE t0 e1 p1 p2;refine ⟨Fu a f,?_,G8 _ _,λt=>by rw [Fh]; rfl⟩;simp only [Qkg];rw [if_pos hi,D7 (by omega) (Uv b1 (by omega))]; rfl
 |
  f::g::fs,i,a,E,hi,ta,tE,tf,hE=>by
  have e0:∀ t,Uy (Mh (f::g::fs)) t=Uy f t*Uy (Mh fs) t:=λt=>by simp only [Mh]; rw [Fh]
  have e1:∀ t,Uy p0 t=Uy (Fu a f) t*Uy (Fu (Mh fs) E) t:=λt=>by rw [hE,e0,Fh,Fh]; grind
  have b1:=Ou b0 l0 t0 (G8 a f) (G8 _ _) z0 e1;obtain ⟨p1,p2⟩:=Ri t0 z0 e1;have hl:=Pz (G8 a f) (G8 _ _) t0 e1 p1 p2;obtain ⟨o,o1,o2,o3⟩:=Qd0 b0 l0 t0 z0 hs fs (i+2) (Fu a f) E (by omega) (G8 _ _) tE (λx hx=>tf x (by simp [hx])) λt=>by rw [hE,e0,Fh]; grind
  refine ⟨o,?_,o2,λt=>by rw [o3,e0,Fh]; grind⟩;have h1:Qkg (i+1) (Fu a f) (g::fs)=Qkg (i+2) (Fu a f) fs:=by
   show (if (i+1) % 2=0 then _ else _)=_;rw [if_neg (by omega)]
  show (if i % 2=0 then (chk (Fu a f)).bind λq=>Qkg (i+1) q (g::fs) else _)=_;rw [if_pos hi,D7 (by omega) (Uv b1 (by omega))];exact h1.trans o1
structure Parts (p q o:List Int):Prop where
 sq:∃ g,Sqp (Fg p) g q
 ws:∃ ws:List (List Int),(∀ w∈ws,Pr1 w/\Ob (cz w) (cz q))/\∀ t,Uy (Fg p) t=ev (Aj (ws.map cz)) t
 oq:Ob (cz o) (cz q)
 ot:U3 o
 oh:∃ h,U3 h/\∀ t,Uy (Fg p) t=Uy o t*Uy h t
 os:∃ S,∀ t,Uy (Fg p) t=Uy o t*(ev S t*ev S t)
theorem Q8g {n s:Nat} {p:List Int} (h:Okp n s p):∃ q o,P5 p=some q/\Zit p=some o/\Parts p q o:=by
 obtain ⟨pp,hl,hb⟩:=h.pr;have hn:=h.z.1;have Dv:=h.l;have hs:=Zai h.z;obtain ⟨g,q,hq,sq⟩:=Qbi h;obtain ⟨ws,w1,w2⟩:=Qwf h.z hb (by omega) pp.t pp.n 66 (Fg p) [1] pp (by omega) (by omega) rfl λt=>by rw [P3]; grind
 obtain ⟨fs,f1,f2,f3⟩:=Q61 hb (by omega) pp.t pp.n (by omega) ws (Fg p) [1] w2 rfl λt=>by rw [P3]; grind
 have hw:=Zii w2;have hfirst:(∀ w∈ws,Pr1 w/\Ob (cz w) (cz q))/\∃ E,U3 E/\∀ t,Uy q t=Uy (Mh fs) t*Uy E t:=by
  cases ws with
  |
   nil =>
   have e:fs=[]:=by
    cases fs with
    | nil=>rfl
    | cons f l=>exact f2.elim
   subst e;exact ⟨(λw hw=>by cases hw),q,sq.pq.t,λt=>by simp only [Mh]; rw [P3]; grind⟩
  |
   cons w ws =>
   have hwq:w=q:=by
    have w3:(if (Fg p).length<2 then some [] else (chk (Gf (Fg p))).bind λd=>(Qah (Fg p) d).bind λh=>(Qbt (Fg p) h).bind λw=>(Q24 65 h).bind λl=>some (w::l))=some (w::ws):=w1;have hlen:¬(Fg p).length<2:=λh2=>by
     rw [if_pos h2] at w3;injection w3 with w3;cases w3
    rw [if_neg hlen] at w3;unfold P5 at hq;rw [if_neg hlen] at hq;obtain ⟨d,d1,w3⟩:=Qm.1 w3;obtain ⟨h,d2,w3⟩:=Qm.1 w3;obtain ⟨w',d3,w3⟩:=Qm.1 w3;obtain ⟨l,d4,w3⟩:=Qm.1 w3;rw [d1] at hq;have hq:(Qah (Fg p) d).bind (λg=>Qbt (Fg p) g)=some q:=hq;rw [d2] at hq;have hq:Qbt (Fg p) h=some q:=hq;rw [d3] at hq;injection hq with hq;injection w3 with w3;injection w3 with w3 _;rw [<-w3,hq]
   subst hwq;have hall:=Qsz w2;exact ⟨hall,Qmd f2 f3 λv hv=>(hall v hv).1.t⟩
 obtain ⟨ha,E,tE,hE⟩:=hfirst;obtain ⟨o,o1,o2,o3⟩:=Qd0 hb (by omega) pp.t pp.n (by omega) fs 0 [1] (Fu E g) rfl rfl (G8 _ _) f3 λt=>by rw [P3,Fh,sq.e,hE]; grind
 have o3:∀ t,Uy o t=Uy (Mh fs) t:=λt=>by rw [o3,P3]; grind
 refine ⟨q,o,hq,?_,⟨g,sq⟩,⟨ws,ha,hw⟩,⟨cz E,λt=>by rw [Uz,Uz,Uz,hE,o3]⟩,o2,⟨Fu E g,G8 _ _,λt=>by rw [sq.e,hE,o3,Fh]; grind⟩,?_⟩
 ·unfold Zit;rw [if_neg pp.n,w1];show (Q60 ws).bind _=_;rw [f1]; exact o1
 ·obtain ⟨S,hS⟩:=Qz3 f2;exact ⟨S,λt=>by rw [hw,hS,Qta,o3]⟩
theorem Qy5 {s:Nat}:∀ (k:Nat) (a b:List Int),U3 a->U3 b->b.length≠0->b.length<k->b.length<a.length->a.length<=60->Bd s a->Bd s b->(s+8)*3^(a.length-1)<=16777216->(∀ d,Ob d (cz a)->Ob d (cz b)->∃ c:Rat,c≠0/\∀ t,ev d t=c)->∃ l,chF k a b=some (b::l)/\SCl (cz a) (cz b) (l.map cz)
 | 0,_,_,_,_,_,h,_,_,_,_,_,_=>by omega
 |
  k+1,a,b,ta,tb,hb,hk,hab,hl,ba,bb,hs,hd=>by
  obtain ⟨h1,h2,h3,u,v,up,vp,X,hX⟩:=Qib ta tb hb hl;have h3:=h3 s ba bb;obtain ⟨m,hm⟩:=nmE (a.length-b.length);have e1:a.length+1-b.length=m+1:=by omega
  rw [e1] at h3;have e2:s+(m+1)*(s+8)+8=(m+2)*(s+8):=by
   rw [show m+2=(m+1)+1 by omega,Xh (m+1)]; omega
  have e3:(m+2)*(s+8)*3^(b.length-1)<=(s+8)*3^(a.length-1):=by
   rw [show a.length-1=m+(b.length-1) by omega,Xl,<-Xq,Zh (s+8)];exact Qz _ (Qz _ (Ziu m (by omega)))
  have e4:s+(m+1)*(s+8)<=16777216:=by
   have:(m+2)*(s+8)<=(m+2)*(s+8)*3^(b.length-1):=J3 _ (Z9 (by decide));omega
  simp only [chF];rw [if_neg hb,D7 (by omega) (Uv h3 e4)];show ∃ l,((chF k b (S5 (Ra a b))).bind λl=>some (b::l))=some (b::l)/\_;have lneg:(S5 (Ra a b)).length<=(Ra a b).length:=Lf _;by_cases hr:(Ra a b).length=0
  ·have e:S5 (Ra a b)=[]:=Qh (by omega);rw [e];refine ⟨[],?_,?_⟩
   ·obtain ⟨j,rfl⟩:∃ j,k=j+1:=⟨k-1,by omega⟩;rfl
   ·obtain ⟨c,hc,hcc⟩:=hd (cz b) ⟨Ce (1 / u) X,λt=>by
     have:=hX t;rw [Cc hr] at this;have hu:1 / u*u=1:=Gh up;rw [Uz,Uz,Fy];have:Uy a t=1 / u*(u*Uy a t):=by grind
     rw [this,hX,Cc hr]; grind⟩ (dvd_refl _)
    exact .base hc hcc
  ·have tn:U3 (S5 (Ra a b)):=Fl _ _;have hn0:(S5 (Ra a b)).length≠0:=λh0=>by
    have:=Iq (c:=-1) h1 tn (by decide) λt=>by rw [Qae]; grind
    omega
   obtain ⟨l,i1,i2⟩:=Qy5 (s:=s+(m+1)*(s+8)) k b (S5 (Ra a b)) tb tn hn0 (by omega) (by omega) (by omega) (Uv bb (by omega)) (Qav h3) (by rw [e2]; omega) λd d1 d2=>by
    refine hd d ?_ d1;obtain ⟨y,hy⟩:=d1;obtain ⟨z,hz⟩:=d2;have hu:1 / u*u=1:=Gh up;refine ⟨Ce (1 / u) (Tr (Gn X y) (Ce (-v) z)),λt=>?_⟩;have a1:=hX t; have a2:=hy t; have a3:=hz t;rw [Uz] at a2 a3;rw [Qae] at a3;rw [Uz,Fy,Gj,U5,Fy];have:Uy a t=1 / u*(u*Uy a t):=by grind
    rw [this,a1,a2,show Uy (Ra a b) t=-(ev d t*ev z t) by grind]; grind
   refine ⟨S5 (Ra a b)::l,by rw [i1]; rfl,?_⟩;rw [Z8];exact .step (q:=X) up vp (λt=>by rw [Uz,Uz,Uz,hX,Qae]; clear i2 i1 hd h3 hs; grind) i2
theorem Qcw (x:Rat):∀ (l:List (List Int)) (n:Nat) (s:Int),(l.foldl (Bm λp=>Gm p x) (n,s)).1=n+tc x s (l.map cz)
 | [],n,s=>rfl
 |
  p::l,n,s=>by
  simp only [Xg,Z8,tc,Bm];rw [Sp,Uz]
  split
  ·exact Qcw x l n s
  ·rw [Qcw x l]
   split <;> omega
theorem Iz (l:List (List Int)) (x:Rat):Dq l x=vv (l.map cz) x:=by
 have:=Qcw x l 0 0;unfold Dq Qap vv;rw [this]; omega
theorem Q58 {n s:Nat} (hz:Szz n (s+73)) {P g q:List Int} (sq:Sqp P g q) (lq:q.length<=n) (bq:Bd (s+69) q):∃ d,chk (Gf q)=some d/\∃ l,chF 66 q (Fg d)=some l/\Stm (cz q) ((q::l).map cz)/\(q.length<2->l=[]):=by
 have hn:=hz.1;have hs:=Zai hz;have bd:=Quz bq (by omega);have ld:=Pi q;refine ⟨Gf q,D7 (by omega) (Uv bd (by omega)),?_⟩;have hq0:=sq.pq.n;by_cases h2:q.length<2
 ·have e:Fg (Gf q)=[]:=by rw [Qh (l:=Gf q) (by omega)]; rfl
  rw [e];refine ⟨[],rfl,.inl ⟨1,by decide,λt=>?_,rfl⟩,λ_=>rfl⟩;rw [Uz,sq.pq.one h2,P3]
 ·have hdnz:(Gf q).length≠0:=λh=>by
   have h1:=M7 q (q.length-2);rw [Qh h,show q.length-2+1=q.length-1 by omega] at h1;have h3:q.getD (q.length-1) 0≠0:=Hk sq.pq.t (by omega);rcases Yw.1 (h1.symm.trans (by simp)) with h4 | h4
   ·exact h3 h4
   ·omega
  obtain ⟨p1,p2,p3,p4,p5,p6,p7⟩:=Cw (p:=Gf q) (Fl _ _) hdnz;have hdl:Ff (Gf q)=Ff q*((q.length-1:Nat):Int):=by
   have hld:(Gf q).length=q.length-1:=by
    rcases Q6 (Gf q).length (q.length-1) with h | h
    ·have h1:=M7 q (q.length-2);rw [Qf,Qu (by omega),show q.length-2+1=q.length-1 by omega] at h1;have h3:q.getD (q.length-1) 0≠0:=Hk sq.pq.t (by omega);rcases Yw.1 (h1.symm.trans (by simp)) with h4 | h4
     ·exact absurd h4 h3
     ·omega
    ·omega
   unfold Ff;rw [hld,M7,show q.length-1-1+1=q.length-1 by omega]
  have hfac:0<Hb (Gf q):=by
   have hlp:0<Ff (Gf q):=by rw [hdl]; exact Int.mul_pos sq.pq.l (by omega)
   have hc:=Qac (p:=Gf q) (Fl _ _) hdnz;unfold Hb;rw [if_neg (by omega)];unfold Mi at hc ⊢; omega
  have hfq:((0:Int):Rat)<(Hb (Gf q):Rat):=Jq.2 hfac;have hfq:(0:Rat)<(Hb (Gf q):Rat):=by simpa using hfq
  have hff:1 / (Hb (Gf q):Rat)*(Hb (Gf q):Rat)=1:=Gh hfq;have hz2:=hz.2;have hp3:(s+73+8)*3^(q.length-1)<=16777216:=by
   have:(s+73+8)*3^(q.length-1)<=(s+73+8)*3^(n-1):=Zm _ (Zs (by decide) (by omega));rw [Xq] at hz2; omega
  obtain ⟨l,h3,h4⟩:=Qy5 (s:=s+73) 66 q (Fg (Gf q)) sq.pq.t p1 (by omega) (by omega) (by omega) (by omega) (Uv bq (by omega)) (p5 _ bd) hp3 λd d1 d2=>sq.num d1 (by
   obtain ⟨z,hz⟩:=d2;exact ⟨Ce (Hb (Gf q)) z,λt=>by
    have:=hz t;rw [Uz] at this;rw [Rq,<-Am,p7,this,Fy]; grind⟩)
  refine ⟨Fg (Gf q)::l,h3,.inr ⟨cz (Fg (Gf q)),l.map cz,1 / (Hb (Gf q):Rat),La (by decide) hfq,λt=>?_,h4,rfl⟩,λh=>absurd h h2⟩;rw [Uz,<-Am,p7 t]; grind
theorem chain_ok {n s:Nat} {p:List Int} (h:Okp n s p):∃ q l,P5 p=some q/\C6 p=some (q::l)/\Stm (cz q) ((q::l).map cz)/\(q.length<2->l=[]):=by
 obtain ⟨pp,hl,hb⟩:=h.pr;have hn:=h.z.1;have Dv:=h.l;obtain ⟨g,q,hq,sq⟩:=Qbi h;have e1:∀ t,Uy (Fg p) t=Uy q t*Uy g t:=λt=>by rw [sq.e]; grind
 obtain ⟨p1,p2⟩:=Ri pp.t pp.n e1;have hll:=Pz sq.pq.t sq.pg.t pp.t e1 p1 p2;obtain ⟨d,d1,l,d2,d3⟩:=Q58 h.z sq (by omega) (Ou hb (by omega) pp.t sq.pq.t sq.pg.t pp.n e1);refine ⟨q,l,hq,?_,d3⟩;unfold C6;rw [hq];show (if q.length=0 then none else _)=_;rw [if_neg sq.pq.n,d1];show (chF 66 q (Fg d)).bind _=_;rw [d2]; rfl
structure Gr (D M k:Nat) (q:Rat):Prop where
 u:∃ u:Int,q*((D*2^k:Nat):Rat)=(u:Rat)
 b:U7 q<=(M:Rat)
 d:0<D
theorem nat_pos {n:Nat} (h:0<n):(0:Rat)<(n:Rat):=by
 have:((0:Nat):Rat)<(n:Rat):=Vu.2 h;simpa using this
theorem Qgr {D M k:Nat} {q:Rat} (h:Gr D M k q):Gr D M (k+1) q:=by
 obtain ⟨u,hu⟩:=h.u;refine ⟨⟨u*2,?_⟩,h.b,h.d⟩;rw [Zo,<-Xq]
 push_cast at hu ⊢
 rw [<-hu]; grind
theorem Qv9 {D M k:Nat} {a b:Rat} (ha:Gr D M k a) (hb:Gr D M k b):Gr D M (k+1) ((a+b) / 2):=by
 obtain ⟨u,hu⟩:=ha.u;obtain ⟨v,hv⟩:=hb.u;have h2:(a+b) / 2*2=a+b:=Gh (by decide);refine ⟨⟨u+v,?_⟩,?_,ha.d⟩
 ·rw [Zo,<-Xq]
  push_cast at hu hv ⊢
  rw [<-hu,<-hv];generalize (a+b) / 2=c at *;generalize (D:Rat)*2^k=z at *;have:c*(z*2)=(c*2)*z:=by grind
  rw [this,h2]; grind
 ·have h3:=ha.b;have h4:=hb.b;rw [Ty] at *;constructor <;> grind
theorem Zh7 {D M k:Nat} {q:Rat} (h:Gr D M k q):q.den<=D*2^k:=by
 obtain ⟨u,hu⟩:=h.u;have hp:0<D*2^k:=J9 h.d (Z9 (by decide));have e:q=Rat.divInt u ((D*2^k:Nat):Int):=by
  rw [<-Hh,<-hu];have hz:=nat_pos hp;rw [show ((((D*2^k:Nat):Int)):Rat)=((D*2^k:Nat):Rat) from rfl];rw [Jx];have:=W5 ((D*2^k:Nat):Rat) (by grind);generalize ((D*2^k:Nat):Rat)=z at *;have:q*z*z⁻¹=q*(z*z⁻¹):=by grind
  rw [this,‹z*z⁻¹=1›]; grind
 rw [e,Wv,if_neg (by omega),Xd];exact J5 _ _
theorem Qj4 {a b k:Nat} {z:Int} (h:z.natAbs<=a*(b*2^k)):U9 z<=U9 (a:Int)+U9 (b:Int)+k:=by
 have h1:U9 (a:Int)<=U9 (a:Int):=Qi _;have h2:U9 (b:Int)<=U9 (b:Int):=Qi _;rw [Te] at h1 h2 ⊢;rw [Xd] at h1 h2;rw [Xl,Xl];have h3:a*b<2^U9 (a:Int)*2^U9 (b:Int):=Nat.mul_lt_mul_of_lt_of_le h1 (Jw h2) (Z9 (by decide));have h4:=Xy h3 (show 0<2^k from Z9 (by decide));rw [<-Xq] at h; omega
theorem Qmo {D M k B:Nat} {q:Rat} (h:Gr D M k q) (hM:0<M) (hs:U9 (D:Int)+U9 (M:Int)+k<=B):Qs B q:=by
 have hd:=Zh7 h;have hden:=nat_pos q.den_pos;have h1:(q.num.natAbs:Rat)<=((M*(D*2^k):Nat):Rat):=by
  have e:(q.num:Rat)=q*(q.den:Rat):=by
   have:(q.num:Rat) / (((q.den:Int)):Rat)=q:=by rw [Hh,Zz]
   have h2:(q.num:Rat) / (q.den:Rat)*(q.den:Rat)=q.num:=Zj (by grind);rw [show (q.num:Rat) / (q.den:Rat)=q from this] at h2; exact h2.symm
  rw [<-Tt,e];have h3:=Gu (x:=q) (y:=(q.den:Rat)) (b:=((D*2^k:Nat):Rat)) h.b (by
   have:U7 (q.den:Rat)=(q.den:Rat):=by unfold U7; rw [if_neg (by grind)]
   rw [this]; exact Za.2 hd)
  push_cast at h3 ⊢; exact h3
 have h1:=Za.1 h1;refine ⟨?_,?_⟩
 ·have:=Qj4 (z:=q.num) h1; omega
 ·have:=Qj4 (z:=(q.den:Int)) (a:=M) (b:=D) (k:=k) (by
   rw [Xd];exact Qd hd (Nat.le_mul_of_pos_left _ hM))
  omega
theorem Qfu (a b:Rat):mid a b=(a+b) / 2:=by
 unfold mid;rw [<-Hh];have ha:(a.num:Rat)=a*(a.den:Rat):=by
  have:(a.num:Rat) / (((a.den:Int)):Rat)=a:=by rw [Hh,Zz]
  have h2:(a.num:Rat) / (a.den:Rat)*(a.den:Rat)=a.num:=Zj (by have:=nat_pos a.den_pos; grind);rw [show (a.num:Rat) / (a.den:Rat)=a from this] at h2; exact h2.symm
 have hb:(b.num:Rat)=b*(b.den:Rat):=by
  have:(b.num:Rat) / (((b.den:Int)):Rat)=b:=by rw [Hh,Zz]
  have h2:(b.num:Rat) / (b.den:Rat)*(b.den:Rat)=b.num:=Zj (by have:=nat_pos b.den_pos; grind);rw [show (b.num:Rat) / (b.den:Rat)=b from this] at h2; exact h2.symm
 have pa:=nat_pos a.den_pos;have pb:=nat_pos b.den_pos;rw [Kk,X1,X1,X1,X1,ha,hb];rw [show (((a.den:Int)):Rat)=(a.den:Rat) from rfl,show (((b.den:Int)):Rat)=(b.den:Rat) from rfl,show (((2:Int)):Rat)=2 from rfl];generalize (a.den:Rat)=x at *;generalize (b.den:Rat)=y at *;have hxy:=Em (Em pa pb) (show (0:Rat)<2 by decide);have h1:(a*x*y+b*y*x) / (x*y*2)*(x*y*2)=a*x*y+b*y*x:=Gh hxy;have h2:(a+b) / 2*2=a+b:=Gh (by decide);generalize (a*x*y+b*y*x) / (x*y*2)=c at *;generalize (a+b) / 2=d at *;have h3:(x*y*2)*(c-d)=0:=by grind
 rcases Je.1 h3 with h4 | h4 <;> grind
theorem Qid (a b:Rat):Qkz a b=a-b:=by
 unfold Qkz;rw [Rat.sub_def',<-Rat.divInt_ofNat]
 push_cast; rfl
theorem Qoq {a b:Rat}:Gt a b=0↔a=b:=by
 constructor
 ·intro h;have h1:¬a<b:=λh'=>by have:=B7.2 h'; omega
  have h2:¬b<a:=λh'=>by have:=Nh.2 h'; omega
  grind
 ·intro h; subst h; exact Bq a
theorem Qdb {a b:Rat}:Gt a b<=0↔a<=b:=by
 constructor
 ·intro h;have h2:¬b<a:=λh'=>by have:=Nh.2 h'; omega
  grind
 ·intro h;have h2:¬0<Gt a b:=λh'=>by have:=Nh.1 h'; grind
  omega
theorem Qhv {a b:Rat}:0<=Gt a b↔b<=a:=by
 constructor
 ·intro h;have h2:¬a<b:=λh'=>by have:=B7.2 h'; omega
  grind
 ·intro h;have h2:¬Gt a b<0:=λh'=>by have:=B7.1 h'; grind
  omega
theorem Ey (a b:Rat):Gt a b=1/\b<a\/Gt a b=0/\a=b\/Gt a b=-1/\a<b:=by
 have hb:=Ib a b;rcases (show Gt a b=1\/Gt a b=0\/Gt a b=-1 by omega) with h | h | h
 ·exact .inl ⟨h,Nh.1 (by omega)⟩
 ·exact .inr (.inl ⟨h,Qoq.1 h⟩)
 ·exact .inr (.inr ⟨h,B7.1 (by omega)⟩)
theorem Qsy (p:List Int) (x:Rat):low p x=Sa (cz p) x:=by
 unfold low Sa;rw [Sp,Sp,Uz,Am]
theorem Tv {t:Tm} (h:t.lo<t.hi) (q:Rat):Fw t q=cq (cz t.p) t.lo t.hi q:=by
 have hp:t.point=false:=by
  unfold Tm.point;have:¬0<=Gt t.lo t.hi:=λh'=>by have:=Qhv.1 h'; grind
  simp [this]
 unfold Fw cq;rw [hp,if_neg (by decide)];have e1:(Gt q t.lo<=0)=(q<=t.lo):=propext Qdb;have e2:(0<Gt q t.hi)=(t.hi<q):=propext Nh;rw [Sp,Qsy,<-Uz];simp only [e1,e2]
theorem P4 {t:Tm}:t.point=true↔t.hi<=t.lo:=by
 unfold Tm.point;rw [decide_eq_true_iff]; exact Qhv
theorem Ic {t:Tm} (h:t.lo=t.hi) (q:Rat):Fw t q=Gt t.lo q:=by
 have hp:t.point=true:=P4.2 (by rw [h]; exact Qo);unfold Fw; rw [if_pos hp]
theorem Zhr {c:Rat->Int} {x:Rat} (h:∀ q,c q=Gt x q):Cut c where
 val q:=by rw [h]; have:=Ib x q; omega
 mono q r hqr h1:=by
  rw [h] at h1 ⊢;rcases Ey x q with ⟨e,e'⟩ | ⟨e,e'⟩ | ⟨e,e'⟩
  ·exact absurd e h1
  ·rcases Ey x r with ⟨f,f'⟩ | ⟨f,f'⟩ | ⟨f,f'⟩ <;> grind
  ·rcases Ey x r with ⟨f,f'⟩ | ⟨f,f'⟩ | ⟨f,f'⟩ <;> grind
 up q h1:=by
  rw [h] at h1;have h2:=Nh.1 (show 0<Gt x q by omega);have h3:(x+q) / 2*2=x+q:=Gh (by decide);have h4:=Nh.2 (show (x+q) / 2<x by grind);have:=Ib x ((x+q) / 2);exact ⟨(x+q) / 2,by grind,by rw [h]; omega⟩
 dn q h1:=by
  rw [h] at h1;have h2:=B7.1 (show Gt x q<0 by omega);have h3:(x+q) / 2*2=x+q:=Gh (by decide);have h4:=B7.2 (show x<(x+q) / 2 by grind);have:=Ib x ((x+q) / 2);exact ⟨(x+q) / 2,by grind,by rw [h]; omega⟩
 lo:=⟨x-1,by
  rw [h];have h4:=Nh.2 (show x-1<x by grind);have:=Ib x (x-1); omega⟩
 hi:=⟨x+1,by
  rw [h];have h4:=B7.2 (show x<x+1 by grind);have:=Ib x (x+1); omega⟩
structure Va (t:Tm):Prop where
 i:t.lo=t.hi/\Uy t.p t.lo=0\/∃ L,Vt (cz t.p) L t.lo t.hi
 tr:U3 t.p
 n:t.p.length<=9
 n2:2<=t.p.length
 b:Bd 1000000 t.p
 bi:t.point=false->Bd 1000 t.p
 sc:t.point=false->∃ (l:List (List Int)) (P g:List Int),chF 66 t.p (Fg (Gf t.p))=some l/\Sqp P g t.p/\Vt (cz t.p) ((t.p::l).map cz) t.lo t.hi
 g:∃ D M k,Gr D M k t.lo/\Gr D M k t.hi/\0<M/\U9 (D:Int)+U9 (M:Int)+k<=1000000
theorem Va.le {t:Tm} (h:Va t):t.lo<=t.hi:=by
 rcases h.i with ⟨e,_⟩ | ⟨L,V⟩
 ·rw [e]; exact Qo
 ·exact Qp V.l
theorem Va.pt {t:Tm} (h:Va t) (hp:t.point=true):t.lo=t.hi/\Uy t.p t.lo=0:=by
 rcases h.i with e | ⟨L,V⟩
 ·exact e
 ·have:=P4.1 hp;have:=V.l;grind
theorem Va.iv {t:Tm} (h:Va t) (hp:t.point=false):∃ L,Vt (cz t.p) L t.lo t.hi:=by
 rcases h.i with ⟨e,_⟩ | h
 ·have:=P4.2 (show t.hi<=t.lo by rw [e]; exact Qo);rw [hp] at this; cases this
 ·exact h
theorem Va.cut {t:Tm} (h:Va t):Cut (Fw t):=by
 rcases h.i with ⟨e,_⟩ | ⟨L,V⟩
 ·exact Zhr (x:=t.lo) λq=>Ic e q
 ·have:Fw t=cq (cz t.p) t.lo t.hi:=funext λq=>Tv V.l q
  rw [this]; exact V.cut
theorem Zjm {c:Rat->Int} (hc:Cut c) {p:List Rat} {x:Rat} (h:c x=0) (h0:ev p x=0):Et p c:=by
 rcases Qar hc p with h1 | ⟨s,hs,h1⟩
 ·exact h1
 ·have:=Qs9 hc h h1;rw [Fq.2 h0] at this; exact absurd this.symm hs
theorem Va.van {t:Tm} (h:Va t):Et (cz t.p) (Fw t):=by
 have hc:=h.cut;rcases h.i with ⟨e,h0⟩ | ⟨L,V⟩
 ·exact Zjm hc (x:=t.lo) (by rw [Ic e,Bq]) (by rw [Uz]; exact h0)
 ·have:Fw t=cq (cz t.p) t.lo t.hi:=funext λq=>Tv V.l q
  rw [this]; exact V.van
theorem Va.qs {t:Tm} (h:Va t):Qs 1000000 t.lo/\Qs 1000000 t.hi:=by
 obtain ⟨D,M,k,h1,h2,h3,h4⟩:=h.g;exact ⟨Qmo h1 h3 h4,Qmo h2 h3 h4⟩
theorem Va.tb {t:Tm} (h:Va t):Tb t:=⟨⟨h.tr,by have:=h.n; omega,Uv h.b (by omega)⟩,h.qs.1.mono (t:=16777216) (by omega),h.qs.2.mono (t:=16777216) (by omega)⟩
structure Hv (t:Tm) (D M k:Nat) (u:Tm):Prop where
 p:u.p=t.p
 i:u.lo=u.hi/\Uy u.p u.lo=0\/∃ L,Vt (cz u.p) L u.lo u.hi
 c:∀ q,Fw u q=Fw t q
 l:Gr D M k u.lo
 h:Gr D M k u.hi
theorem Qr2 {c:Rat->Int} (hc:Cut c) {x:Rat} (h:c x=0) (q:Rat):c q=Gt x q:=by
 rcases Ey x q with ⟨e,e'⟩ | ⟨e,e'⟩ | ⟨e,e'⟩
 ·rw [e]; exact hc.mono' e' (by omega)
 ·rw [e,<-e',h]
 ·rw [e]; exact hc.mono x q e' (by omega)
theorem Qo9 {t u:Tm} {D M k:Nat} (hu:Hv t D M k u) (hM:0<M) (hs:U9 (D:Int)+U9 (M:Int)+(k+1)<=16777216):∃ v,Qo8 u=some v/\Hv t D M (k+1) v/\v.hi-v.lo<=(u.hi-u.lo) / 2/\u.lo<=v.lo/\v.hi<=u.hi:=by
 have h2:∀ x:Rat,x / 2*2=x:=λx=>Gh (by decide)
 unfold Qo8;rcases hu.i with ⟨e,h0⟩ | ⟨L,V⟩
 ·have hp:u.point=true:=P4.2 (by rw [e]; exact Qo);rw [if_pos hp];refine ⟨u,rfl,⟨hu.p,hu.i,hu.c,Qgr hu.l,Qgr hu.h⟩,?_,Qo,Qo⟩;rw [e]; have:=h2 (u.hi-u.hi); grind
 ·have hp:u.point=false:=by
   have:¬u.point=true:=λh=>by have:=P4.1 h; have:=V.l; grind
   simpa using this
  rw [hp,if_neg (by decide)];obtain ⟨m,hm⟩:=nmE ((u.lo+u.hi) / 2);have hmg:Gr D M (k+1) m:=by rw [hm]; exact Qv9 hu.l hu.h
  have hmm:=h2 (u.lo+u.hi);rw [<-hm] at hmm;have hl:=V.l;have hl1:u.lo<m:=by grind
  have hl2:m<u.hi:=by grind
  have hch:chq (mid u.lo u.hi)=some m:=by
   rw [Qfu,<-hm];have:=Qmo hmg hM hs;unfold chq;rw [if_pos ⟨this.1,this.2⟩]
  have hcm:mid u.lo u.hi=m:=by rw [Qfu,<-hm]
  rw [hch];show ∃ v,some (if Fw u m=0 then (⟨u.p,m,m⟩:Tm) else if Fw u m=-1 then ⟨u.p,u.lo,m⟩ else ⟨u.p,m,u.hi⟩)=some v/\_;have hw:=h2 (u.hi-u.lo);have hcu:=Tv hl;have hcut:=V.cut;have hcut':Cut (Fw u):=by rw [show Fw u=cq (cz u.p) u.lo u.hi from funext hcu]; exact hcut
  by_cases c0:Fw u m=0
  ·rw [if_pos c0];have hz:Uy u.p m=0:=by
    have:=Qgb hcut (q:=m) (by rw [<-hcu]; exact c0) V.van;rwa [Uz] at this
   refine ⟨_,rfl,⟨hu.p,.inl ⟨rfl,hz⟩,λq=>?_,hmg,hmg⟩,by show m-m<=_; grind,by show u.lo<=m; grind,by show m<=u.hi; grind⟩;rw [Ic rfl,<-hu.c];exact (Qr2 hcut' c0 q).symm
  ·rw [if_neg c0];by_cases c1:Fw u m=-1
   ·rw [if_pos c1];have hv:vv L m=vv L u.hi:=V.eq_hi hl1 (Qp hl2) (by rw [<-hcu,c1]; decide);have V':Vt (cz u.p) L u.lo m:=⟨V.s,hl1,by rw [hv]; exact V.v⟩;refine ⟨_,rfl,⟨hu.p,.inr ⟨L,V'⟩,λq=>?_,Qgr hu.l,hmg⟩,by show m-u.lo<=_; grind,Qo,by show m<=u.hi; grind⟩;rw [Tv hl1,<-hu.c,hcu];exact V.uniq V'.cut (Bi Qo) (by rw [I3 hl1 hl2]; decide) V'.van q
   ·rw [if_neg c1];have c2:Fw u m=1:=by rcases hcut'.val m with h | h | h <;> omega
    have hv:vv L m=vv L u.lo:=V.eq_lo hl1 (Qp hl2) (by rw [<-hcu]; exact c2);have V':Vt (cz u.p) L m u.hi:=⟨V.s,hl2,by rw [hv]; exact V.v⟩;refine ⟨_,rfl,⟨hu.p,.inr ⟨L,V'⟩,λq=>?_,hmg,Qgr hu.h⟩,by show u.hi-m<=_; grind,by show u.lo<=m; grind,Qo⟩;rw [Tv hl2,<-hu.c,hcu];exact V.uniq V'.cut (Bi (by grind)) V'.hi1 V'.van q
def TLt (a b:Tm):Prop:=∃ q,Fw a q=-1/\Fw b q=1
def TEq (a b:Tm):Prop:=∀ q,Fw a q=Fw b q
theorem tri {a b:Tm} (ha:Cut (Fw a)) (hb:Cut (Fw b)):TLt a b\/TEq a b\/TLt b a:=by
 rcases Classical.em (TEq a b) with h | h
 ·exact .inr (.inl h)
 ·obtain ⟨q,hq⟩:=Classical.not_forall.1 h;obtain ⟨r,⟨h1,h2⟩ | ⟨h1,h2⟩⟩:=Qr1 ha hb hq
  ·exact .inl ⟨r,h1,h2⟩
  ·exact .inr (.inr ⟨r,h2,h1⟩)
theorem Qpk {a b:Tm} (ha:Cut (Fw a)) (hb:Cut (Fw b)) (h:TLt a b) (h':TLt b a):False:=by
 obtain ⟨q,q1,q2⟩:=h;obtain ⟨r,r1,r2⟩:=h';have:=ha.lt r2 q1;have:=hb.lt q2 r1;grind
theorem Qtr {p:List Int} (k:Nat):(p.getD k 0).natAbs<=2^Gs p:=by
 have h:U9 (p.getD k 0)<=Gs p:=by
  have key:∀ (l:List Int) (n:Nat),n≤l.foldl (λn z=>max n (U9 z)) n/\∀ z∈l,U9 z≤l.foldl (λn z=>max n (U9 z)) n:=by
   intro l
   induction l with
   | nil=>exact λn=>⟨Qi _,λz hz=>by cases hz⟩
   |
    cons y l ih =>
    intro n;obtain ⟨i1,i2⟩:=ih (max n (U9 y));refine ⟨by simp only [Xg]; omega,λz hz=>?_⟩;simp only [Xg];rcases Qq.1 hz with rfl | hz
    ·omega
    ·exact i2 z hz
  exact Fb (s:=Gs p) (λz hz=>(key p 0).2 z hz) k
 rw [Te] at h; omega
theorem Zf3 {s:Nat}:∀ (B:List Int),(∀ z∈B,z.natAbs≤2^s)->gB B≤2^(s+(B.length-1))
 | [],_=>Qg _
 |
  c::B,h=>by
  have h1:=h c (Qx ..);have h2:=Zf3 B λz hz=>h z (Qk _ hz)
  simp only [gB,Q7,Jv];have h3:2^s<=2^(s+B.length):=Zs (by decide) (by omega);cases B with
  | nil=>simp only [gB,Yx] at *; omega
  |
   cons d B =>
   have h4:2^(s+(d::B).length)=2*2^(s+((d::B).length-1)):=by
    rw [Zh,<-Zo]; congr 1
   rw [h4]; omega
def Td (A B:List Int):Nat:=(Gs A+Gs B+(A.length+B.length)+8)*(2*(A.length+B.length-2)-1)
theorem Q67 {A B:List Int} (tA:U3 A) (tB:U3 B) (nA:A.length<=9) (nB:B.length<=9) (lA:2<=A.length) (lB:2<=B.length) {R d:Rat} (hR:1<=R) (dp:0<d)
 (hs:∀ e:Rat,0<e->∃ q r,U7 q<=R/\U7 r<=R/\d<=U7 (q-r)/\U7 (q-r)*((2^(Td A B+1):Nat):Rat)<=1/\U7 (Uy A q)<e/\U7 (Uy B r)<e):False:=by
 obtain ⟨a,ha⟩:∃ a,A.length=a+1:=⟨A.length-1,by omega⟩;obtain ⟨b,hb⟩:∃ b,B.length=b+1:=⟨B.length-1,by omega⟩;obtain ⟨s,hsd⟩:=nmE (Gs A+Gs B+b);obtain ⟨N,hN⟩:∃ N,b*(2*(a*b))+a*(2*(a*b)-b)=N:=⟨_,rfl⟩;have hNt:N<=2^(a+9):=by
  rw [<-hN];have hab:∀ a b:Fin 9,b.1*(2*(a.1*b.1))+a.1*(2*(a.1*b.1)-b.1)<=2^(a.1+9):=by decide
  exact hab ⟨a,by omega⟩ ⟨b,by omega⟩
 have hK:Td A B=(s+a+10)*(2*(a+b-1)+1):=by
  unfold Td;rw [ha,hb,hsd,show a+1+(b+1)-2=a+b by omega,show 2*(a+b)-1=2*(a+b-1)+1 by omega];congr 1; omega
 have h0A:A.getD a 0≠0:=by have:=Hk tA (by omega); rwa [ha] at this
 have h0B:B.getD b 0≠0:=by have:=Hk tB (by omega); rwa [hb] at this
 have hp:∀ m,1<=2^m:=λm=>Z9 (by decide)
 refine Zh3 (N:=N) (D:=2^(Td A B-1)) ha hb h0A h0B (by omega) (by omega) (h:=2^s) (hp s) (λk=>Qd (Qtr k) (Zs (by decide) (by omega))) ?_ hN ?_ hR dp λe ep=>?_
 ·refine Qd (Zf3 (s:=Gs B) B λz hz=>?_) (Zs (by decide) (by omega));obtain ⟨i,hi⟩:=Zg.1 hz;have:=Qtr (p:=B) i;rwa [Qf,hi] at this
 ·have h1:2*(N*2^s)<=2^(s+a+10):=by
   have:N*2^s<=2^(a+9)*2^s:=Qz _ hNt;rw [<-Xl] at this;rw [show s+a+10=(a+9+s)+1 by omega,Zo]; omega
  have h2:N*2^s<=2^(s+a+9):=by
   rw [show s+a+9=(a+9)+s by omega,Xl]; exact Qz _ hNt
  have h3:=Nat.pow_le_pow_left h1 (2*(a+b-1));have h4:=Zr h2 h3;rw [<-Ut,<-Xl] at h4;rw [<-Xq];refine Qd h4 (Zs (by decide) ?_);rw [hK,Xv,Ys]; omega
 ·obtain ⟨q,r,h1,h2,h3,h4,h5,h6⟩:=hs e ep;refine ⟨q,r,h1,h2,h3,?_,h5,h6⟩;have hK1:1<=Td A B:=by
   rw [hK]; exact J9 (by omega) (by omega)
  have e1:2^(Td A B+1)=4*2^(Td A B-1):=by
   obtain ⟨m,hm⟩:∃ m,Td A B=m+1:=⟨Td A B-1,by omega⟩;rw [hm,Jv,Zo,Zo]; omega
  rw [e1] at h4
  push_cast at h4 ⊢
  exact h4
theorem Hv.lo' {t:Tm} {D M k:Nat} {u:Tm} (h:Hv t D M k u):Fw t u.lo=1\/Fw t u.lo=0/\u.lo=u.hi:=by
 rw [<-h.c];rcases h.i with ⟨e,_⟩ | ⟨L,V⟩
 ·exact .inr ⟨by rw [Ic e,Bq],e⟩
 ·exact .inl (by rw [Tv V.l]; exact Bi Qo)
theorem Hv.hi' {t:Tm} {D M k:Nat} {u:Tm} (h:Hv t D M k u):Fw t u.hi=0\/Fw t u.hi=-1:=by
 rw [<-h.c];rcases h.i with ⟨e,_⟩ | ⟨L,V⟩
 ·exact .inl (by rw [Ic e,e,Bq])
 ·rw [Tv V.l];have:=V.hi1;rcases V.cut.val u.hi with h | h | h <;> omega
theorem Hv.le {t:Tm} {D M k:Nat} {u:Tm} (h:Hv t D M k u):u.lo<=u.hi:=by
 rcases h.i with ⟨e,_⟩ | ⟨L,V⟩
 ·rw [e]; exact Qo
 ·exact Qp V.l
theorem Q68 {a b:Tm} (ha:Va a) (hb:Va b) {D M k D' M' k':Nat} {u v:Tm} (hu:Hv a D M k u) (hv:Hv b D' M' k' v) (h:TLt a b):1<(v.hi-u.lo)*((2^(Td a.p b.p+1):Nat):Rat):=by
 rcases Fj ((v.hi-u.lo)*((2^(Td a.p b.p+1):Nat):Rat)) 1 with hw | hw
 ·exfalso;have ca:=ha.cut;have cb:=hb.cut;obtain ⟨m,m1,m2⟩:=h;obtain ⟨m',hm',m3⟩:=ca.dn m m1;have hpow:(0:Rat)<=((2^(Td a.p b.p+1):Nat):Rat):=Xo;obtain ⟨R,hR⟩:=nmE (U7 u.lo+U7 m'+U7 m+U7 v.hi+1);have n1:=Hd u.lo; have n2:=Hd m'; have n3:=Hd m; have n4:=Hd v.hi;refine Q67 (R:=R) (d:=m-m') ha.tr hb.tr ha.n hb.n ha.n2 hb.n2 (by grind) (by grind) λe ep=>?_
  obtain ⟨q,q1,q2,q3⟩:∃ q,u.lo<=q/\q<=m'/\U7 (Uy a.p q)<e:=by
   rcases hu.lo' with h1 | ⟨h1,_⟩
   ·obtain ⟨x,y,hx,hy,hq⟩:=ha.van e ep;rcases Fj x u.lo with e1 | e1
    ·exact ⟨u.lo,Qo,Qp (ca.lt h1 m3),by rw [<-Uz]; exact hq u.lo e1 (Qp (ca.lt h1 hy))⟩
    ·exact ⟨x,Qp e1,Qp (ca.lt hx m3),by rw [<-Uz]; exact hq x Qo (Qp (ca.lt hx hy))⟩
   ·refine ⟨u.lo,Qo,?_,by rw [<-Uz,Qgb ca h1 ha.van,Hx]; exact ep⟩;rcases Fj u.lo m' with e1 | e1
    ·exact e1
    ·have:=ca.mono m' u.lo e1 (by omega); omega
  obtain ⟨r,r1,r2,r3⟩:∃ r,r<=v.hi/\m<=r/\U7 (Uy b.p r)<e:=by
   rcases hv.hi' with h1 | h1
   ·refine ⟨v.hi,Qo,?_,by rw [<-Uz,Qgb cb h1 hb.van,Hx]; exact ep⟩;rcases Fj m v.hi with e1 | e1
    ·exact e1
    ·have:=cb.mono v.hi m e1 (by omega); omega
   ·obtain ⟨x,y,hx,hy,hq⟩:=hb.van e ep;rcases Fj v.hi y with e1 | e1
    ·exact ⟨v.hi,Qo,Qp (cb.lt m2 h1),by rw [<-Uz]; exact hq v.hi (Qp (cb.lt hx h1)) e1⟩
    ·exact ⟨y,Qp e1,Qp (cb.lt m2 hy),by rw [<-Uz]; exact hq y (Qp (cb.lt hx hy)) Qo⟩
  have e1:U7 (q-r)=r-q:=by unfold U7; split <;> grind
  have b1:U7 q<=R:=by
   have:=Qdp (R:=R) (x:=u.lo) (y:=m') (t:=q) (by grind) (by grind) q1 q2; exact this
  have b2:U7 r<=R:=by
   have:=Qdp (R:=R) (x:=m) (y:=v.hi) (t:=r) (by grind) (by grind) r2 r1; exact this
  refine ⟨q,r,b1,b2,by rw [e1]; grind,?_,q3,r3⟩;rw [e1];have:=Q4 (show r-q<=v.hi-u.lo by grind) hpow;exact Q9 this hw
 ·exact hw
theorem Qri {a b:Tm} (ha:Va a) (hb:Va b) {D M k D' M' k':Nat} {u v:Tm} (hu:Hv a D M k u) (hv:Hv b D' M' k' v) (hne:¬TEq a b) (h:Ch u v=true):TLt a b:=by
 have h1:=(of_decide_eq_true h).1;have h1:=Qdb.1 h1;rcases tri ha.cut hb.cut with h2 | h2 | ⟨m,m1,m2⟩
 ·exact h2
 ·exact absurd h2 hne
 ·exfalso;have e1:m<u.hi:=by
   rcases Fj u.hi m with e | e
   ·rcases Classical.em (u.hi=m) with e' | e'
    ·have:=hu.hi'; rw [e'] at this; omega
    ·have:=ha.cut.mono u.hi m (by grind) (by have:=hu.hi'; omega); omega
   ·exact e
  have e2:v.lo<m:=by
   rcases Fj m v.lo with e | e
   ·rcases Classical.em (m=v.lo) with e' | e'
    ·have:=hv.lo'; rw [<-e'] at this; omega
    ·have:=hb.cut.mono m v.lo (by grind) (by omega);have:=hv.lo'; omega
   ·exact e
  grind
theorem Q0m {a b:Tm} (ha:Va a) (hb:Va b) {D M k D' M' k':Nat} {u v:Tm} (hu:Hv a D M k u) (hv:Hv b D' M' k' v) (hlt:TLt a b) (h:Ch u v≠true):v.lo<=u.hi:=by
 rcases Fj v.lo u.hi with e | e
 ·exact e
 ·refine absurd (decide_eq_true ⟨Qdb.2 (Qp e),λh'=>?_⟩) h;have:=Qoq.1 h'.2; grind
theorem Qnd (m:Nat):((2^(m+1):Nat):Rat)=2*((2^m:Nat):Rat):=by rw [Zo]; push_cast; grind
def Zgp (a b:Tm) (r:Tm×Tm×Int):Prop:=r.2.2=-1/\TLt a b\/r.2.2=1/\TLt b a
theorem Q2x (A B:List Int):Td A B=Td B A:=by unfold Td; rw [Nat.add_comm A.length,Nat.add_comm (Gs A)]
theorem Zj4 {a b:Tm} (ha:Va a) (hb:Va b) (hne:¬TEq a b) {D M D' M':Nat} (hM:0<M) (hM':0<M'):∀ (i j:Nat) (u v:Tm) (k k':Nat) (W:Rat),2*i+1<=j->Hv a D M k u->Hv b D' M' k' v->U9 (D:Int)+U9 (M:Int)+(k+j)<=16777216->U9 (D':Int)+U9 (M':Int)+(k'+j)<=16777216->u.hi-u.lo<=W->v.hi-v.lo<=W->2*W*((2^(Td a.p b.p+1):Nat):Rat)<=((2^i:Nat):Rat)->∃ r,apF j u v=some r/\Zgp a b r:=by
 intro i;have step:∀ (j:Nat) (u v:Tm) (k k':Nat),Hv a D M k u->Hv b D' M' k' v->U9 (D:Int)+U9 (M:Int)+(k+(j+1))<=16777216->U9 (D':Int)+U9 (M':Int)+(k'+(j+1))<=16777216->(∃ r,apF (j+1) u v=some r/\Zgp a b r)\/(Ch u v≠true/\Ch v u≠true/\∃ u' v' k1 k1',apF (j+1) u v=apF j u' v'/\Hv a D M k1 u'/\Hv b D' M' k1' v'/\k1<=k+1/\k1'<=k'+1/\(v.hi-v.lo<=u.hi-u.lo/\u'.hi-u'.lo<=(u.hi-u.lo) / 2/\v'=v\/u.hi-u.lo<=v.hi-v.lo/\v'.hi-v'.lo<=(v.hi-v.lo) / 2/\u'=u)):=by
  intro j u v k k' hu hv hs hs';by_cases h1:Ch u v=true
  ·exact .inl ⟨(u,v,-1),by simp only [apF]; rw [if_pos h1],.inl ⟨rfl,Qri ha hb hu hv hne h1⟩⟩
  by_cases h2:Ch v u=true
  ·exact .inl ⟨(u,v,1),by simp only [apF]; rw [if_neg h1,if_pos h2],.inr ⟨rfl,Qri hb ha hv hu (λh=>hne λq=>(h q).symm) h2⟩⟩
  refine .inr ⟨h1,h2,?_⟩;by_cases h3:0<=Gt (Qkz u.hi u.lo) (Qkz v.hi v.lo)
  ·obtain ⟨x,x1,x2,x3,_⟩:=Qo9 hu hM (by omega);refine ⟨x,v,k+1,k',?_,x2,hv,by omega,by omega,.inl ⟨?_,x3,rfl⟩⟩
   ·simp only [apF]; rw [if_neg h1,if_neg h2,if_pos h3,x1]; rfl
   ·have:=Qhv.1 h3; rwa [Qid,Qid] at this
  ·obtain ⟨x,x1,x2,x3,_⟩:=Qo9 hv hM' (by omega);refine ⟨u,x,k,k'+1,?_,hu,x2,by omega,by omega,.inr ⟨?_,x3,rfl⟩⟩
   ·simp only [apF]; rw [if_neg h1,if_neg h2,if_neg h3,x1]; rfl
   ·rcases Fj (u.hi-u.lo) (v.hi-v.lo) with e | e
    ·exact e
    ·refine absurd (Qhv.2 ?_) h3;rw [Qid,Qid]; exact Qp e
 induction i with
 |
  zero =>
  intro j u v k k' W hj hu hv hs hs' hW hW' hK;obtain ⟨j,rfl⟩:∃ m,j=m+1:=⟨j-1,by omega⟩;rcases step j u v k k' hu hv hs hs' with h | ⟨h1,h2,_⟩
  ·exact h
  ·exfalso;have hpow:(0:Rat)<=((2^(Td a.p b.p+1):Nat):Rat):=Xo;rw [Vh] at hK;rcases tri ha.cut hb.cut with h3 | h3 | h3
   ·have h4:=Q0m ha hb hu hv h3 h1;have h5:=Q68 ha hb hu hv h3;have h6:=Q4 (show v.hi-u.lo<=2*W by clear step; grind) hpow;have h7:((1:Nat):Rat)=1:=rfl;rw [h7] at hK;clear step; grind
   ·exact hne h3
   ·have h4:=Q0m hb ha hv hu h3 h2;have h5:=Q68 hb ha hv hu h3;rw [Q2x] at h5;have h6:=Q4 (show u.hi-v.lo<=2*W by clear step; grind) hpow;have h7:((1:Nat):Rat)=1:=rfl;rw [h7] at hK;clear step; grind
 |
  succ i ih =>
  intro j u v k k' W hj hu hv hs hs' hW hW' hK;obtain ⟨j,rfl⟩:∃ m,j=m+2:=⟨j-2,by omega⟩;have hd:∀ x:Rat,x / 2*2=x:=λx=>Gh (by decide)
  rcases step (j+1) u v k k' hu hv hs hs' with h | ⟨_,_,u1,v1,k1,k1',e1,hu1,hv1,hk1,hk1',hw1⟩
  ·exact h
  ·rw [e1];rcases step j u1 v1 k1 k1' hu1 hv1 (by omega) (by omega) with h | ⟨_,_,u2,v2,k2,k2',e2,hu2,hv2,hk2,hk2',hw2⟩
   ·exact h
   ·rw [e2];have a1:=hd (u.hi-u.lo); have a2:=hd (v.hi-v.lo); have a3:=hd (u1.hi-u1.lo); have a4:=hd (v1.hi-v1.lo); have a5:=hd W;have b1:=hu.le; have b2:=hv.le; have b3:=hu1.le; have b4:=hv1.le; have b5:=hu2.le; have b6:=hv2.le;have hww:u2.hi-u2.lo<=W / 2/\v2.hi-v2.lo<=W / 2:=by
     clear step ih;rcases hw1 with ⟨c1,c2,rfl⟩ | ⟨c1,c2,rfl⟩ <;> rcases hw2 with ⟨d1,d2,rfl⟩ | ⟨d1,d2,rfl⟩ <;> constructor <;> grind
    refine ih j u2 v2 k2 k2' (W / 2) (by omega) hu2 hv2 (by omega) (by omega) hww.1 hww.2 ?_;rw [Qnd i] at hK;have:2*(W / 2)*((2^(Td a.p b.p+1):Nat):Rat)*2=2*W*((2^(Td a.p b.p+1):Nat):Rat):=by clear step ih hw1 hw2; grind
    clear step ih hw1 hw2; grind
def CmpOk (a b:Tm) (c:Int):Prop:=c=-1/\TLt a b\/c=0/\TEq a b\/c=1/\TLt b a
theorem Va.hv0 {t:Tm} (h:Va t):∃ D M k,Hv t D M k t/\0<M/\U9 (D:Int)+U9 (M:Int)+k<=1000000:=by
 obtain ⟨D,M,k,h1,h2,h3,h4⟩:=h.g;exact ⟨D,M,k,⟨rfl,h.i,λ_=>rfl,h1,h2⟩,h3,h4⟩
theorem Qw4 {a:Tm} (ha:Va a) (hp:a.point=true) (q:Rat):Fw a q=Gt a.lo q:=Ic (ha.pt hp).1 q
theorem Q6c {a b:Tm} (hb:Va b) {x:Rat} (hx:∀ q,Fw a q=Gt x q):CmpOk a b (-Fw b x):=by
 have cb:=hb.cut;rcases cb.val x with h | h | h
 ·obtain ⟨q,q1,q2⟩:=cb.up x h;refine .inl ⟨by omega,q,?_,q2⟩;rw [hx]; rcases Ey x q with ⟨e,e'⟩ | ⟨e,e'⟩ | ⟨e,e'⟩ <;> grind
 ·exact .inr (.inl ⟨by omega,λq=>by rw [hx,Qr2 cb h]⟩)
 ·obtain ⟨q,q1,q2⟩:=cb.dn x h;refine .inr (.inr ⟨by omega,q,q2,?_⟩);rw [hx]; rcases Ey x q with ⟨e,e'⟩ | ⟨e,e'⟩ | ⟨e,e'⟩ <;> grind
theorem CmpOk.symm {a b:Tm} {c:Int} (h:CmpOk a b c):CmpOk b a (-c):=by
 rcases h with ⟨h1,h2⟩ | ⟨h1,h2⟩ | ⟨h1,h2⟩
 ·exact .inr (.inr ⟨by omega,h2⟩)
 ·exact .inr (.inl ⟨by omega,λq=>(h2 q).symm⟩)
 ·exact .inl ⟨by omega,h2⟩
theorem Zlp:Szz 9 1000:=⟨by decide,by decide⟩
theorem Qdn (g:List Int) (lo hi:Rat):Qdm g lo hi=true↔Qwa (cz g) lo hi:=by
 unfold Qdm Qwa;rw [decide_eq_true_iff,Sp,Qsy,Uz]
theorem Qsk {g:List Int} (tg:U3 g) (hn:g.length≠0) {lo hi:Rat} (h:Qwa (cz g) lo hi):1<g.length:=by
 rcases Q6 1 g.length with e | e
 ·exact e
 ·exfalso;obtain ⟨c,rfl⟩:∃ c,g=[c]:=Kw.1 (by omega);have hc:c≠0:=by have:=Hk tg (by simp); simpa using this
  have hv:∀ t,ev (cz [c]) t=(c:Rat):=λt=>by rw [Uz]; simp only [Uy]; grind
  have hs:U6 (c:Rat)≠0:=λh=>O1 hc (Fq.1 h)
  unfold Qwa at h;rw [hv,Li (by rw [hv]; exact hs),hv] at h;rcases h with h | h
  ·exact hs h
  ·exact h rfl
theorem Qcg {q:Rat}:U7 q<=((2^U9 q.num:Nat):Rat):=by
 have h1:U9 q.num<=U9 q.num:=Qi _;rw [Te] at h1;have e:(q.num:Rat)=q*(q.den:Rat):=by
  have:(q.num:Rat) / (((q.den:Int)):Rat)=q:=by rw [Hh,Zz]
  have h2:(q.num:Rat) / (q.den:Rat)*(q.den:Rat)=q.num:=Zj (by have:=nat_pos q.den_pos; grind);rw [show (q.num:Rat) / (q.den:Rat)=q from this] at h2; exact h2.symm
 have hd:(1:Rat)<=(q.den:Rat):=by
  have:((1:Nat):Rat)<=(q.den:Rat):=Za.2 q.den_pos;exact this
 have h2:U7 q<=U7 (q.num:Rat):=by
  rw [e,Dm];have:U7 (q.den:Rat)=(q.den:Rat):=by unfold U7; rw [if_neg (by grind)]
  rw [this];have:=Pk (a:=U7 q) (c:=1) (Hd q) Qo (by decide) hd;grind
 rw [Tt] at h2;exact Q9 h2 (Za.2 (Jw h1))
theorem Qgd {a:Tm} {w:Nat} (h:U9 a.lo.num+U9 a.hi.num<=w):a.hi-a.lo<=((2^(w+1):Nat):Rat):=by
 have h1:=Qcg (q:=a.lo);have h2:=Qcg (q:=a.hi);have h3:((2^U9 a.lo.num:Nat):Rat)<=((2^w:Nat):Rat):=Za.2 (Zs (by decide) (by omega));have h4:((2^U9 a.hi.num:Nat):Rat)<=((2^w:Nat):Rat):=Za.2 (Zs (by decide) (by omega));rw [Qnd];rw [Ty] at h1 h2;grind
theorem Ar {p:List Int} {s:Nat} (h:Bd s p):Gs p<=s:=by
 have:=Pn h p.length; rwa [Q0] at this
theorem Zac {a b:Tm} (ha:Va a) (hb:Va b) (pa:a.point=false) (pb:b.point=false):S6 a b<=9000000:=by
 have q1:=ha.qs; have q2:=hb.qs;have l1:=ha.n; have l2:=hb.n;have s1:=Ar (ha.bi pa); have s2:=Ar (hb.bi pb);have b1:=q1.1.1; have b2:=q1.2.1; have b3:=q2.1.1; have b4:=q2.2.1;have:4*(a.p.length+b.p.length)*(Gs a.p+Gs b.p+(a.p.length+b.p.length)+8)<=4*18*2100:=Zr (by omega) (by omega);unfold S6; omega
theorem Q4i {a b:Tm} (ha:Va a) (hb:Va b) (pa:a.point=false) (pb:b.point=false) (hne:¬TEq a b):∃ r,apF (S6 a b) a b=some r/\Zgp a b r:=by
 obtain ⟨D,M,k,h1,h2,h3⟩:=ha.hv0;obtain ⟨D',M',k',h1',h2',h3'⟩:=hb.hv0;have hst:=Zac ha hb pa pb;obtain ⟨w,hw⟩:=nmE (U9 a.lo.num+U9 a.hi.num+U9 b.lo.num+U9 b.hi.num);obtain ⟨K,hK⟩:=nmE (Gs a.p+Gs b.p+(a.p.length+b.p.length)+8);obtain ⟨n,hn⟩:=nmE (a.p.length+b.p.length);have l1:=ha.n2; have l2:=hb.n2;have hsteps:S6 a b=64+2*w+4*n*K:=by unfold S6; rw [hw,hK,hn]
 have hg:Td a.p b.p=K*(2*(n-2)-1):=by unfold Td; rw [hK,hn]
 have hgle:Td a.p b.p+5*K<=2*n*K:=by
  rw [hg,Zh K,<-Jp];exact Qz _ (by omega)
 have hKp:8<=K:=by omega
 refine Zj4 ha hb hne h2 h2' (31+w+2*n*K) (S6 a b) a b k k' ((2^(w+1):Nat):Rat) ?_ h1 h1' (by omega) (by omega) (Qgd (by omega)) (Qgd (by omega)) ?_
 ·rw [hsteps,Xv,Xq 4,Xq 2 n]; omega
 ·have e:2*(2^(w+1))*(2^(Td a.p b.p+1))<=2^(31+w+2*n*K):=by
   rw [Zh 2,<-Zo,<-Xl];exact Zs (by decide) (by omega)
  have:=Za.2 e
  push_cast at this ⊢
  exact this
theorem Qza {a b:Tm} (ha:Va a) (hb:Va b):∃ c,Qlg a b=some c/\CmpOk a b c:=by
 unfold Qlg;by_cases pa:a.point=true
 ·rw [if_pos pa];exact ⟨_,rfl,Q6c hb (Qw4 ha pa)⟩
 rw [if_neg pa];by_cases pb:b.point=true
 ·rw [if_pos pb];have:=(Q6c ha (Qw4 hb pb)).symm;rw [Int.neg_neg] at this;exact ⟨_,rfl,this⟩
 rw [if_neg pb];have pa:a.point=false:=by simpa using pa
 have pb:b.point=false:=by simpa using pb
 obtain ⟨L,V⟩:=ha.iv pa;obtain ⟨L',V'⟩:=hb.iv pb;have eqa:∀ q,Fw a q=cq (cz a.p) a.lo a.hi q:=Tv V.l;have eqb:∀ q,Fw b q=cq (cz b.p) b.lo b.hi q:=Tv V'.l;obtain ⟨lo,hlo⟩:=nmE (if 0<Gt b.lo a.lo then b.lo else a.lo);obtain ⟨hi,hhi⟩:=nmE (if Gt b.hi a.hi<0 then b.hi else a.hi);show ∃ c,(if Gt (if 0<Gt b.lo a.lo then b.lo else a.lo) (if Gt b.hi a.hi<0 then b.hi else a.hi)<0 then _ else _)=some c/\_;rw [<-hlo,<-hhi];have e1:(0<Gt b.lo a.lo)=(a.lo<b.lo):=propext Nh;have e2:(Gt b.hi a.hi<0)=(b.hi<a.hi):=propext B7;have e3:(Gt lo hi<0)=(lo<hi):=propext B7;simp only [e1] at hlo;simp only [e2] at hhi;simp only [e3];obtain ⟨g,g1,g2,g3,g4⟩:=Q7g Zlp ha.tr hb.tr ha.n hb.n (ha.bi pa) (hb.bi pb) (by have:=ha.n2; omega);obtain ⟨U,W,hc⟩:=g2.c;obtain ⟨u,hu⟩:=g2.da;obtain ⟨u',hu'⟩:=g2.db;have key:=V.same V' (g:=cz g) (u:=u) (u':=u') (U:=U) (W:=W) (k:=1) (by decide) hu hu' (λt=>by rw [Uz,Uz,Uz,hc]; grind) (a:=lo) (b:=hi) (by rw [hlo]; split <;> grind) (by rw [hlo]; split <;> grind) (by rw [hlo]; split <;> simp) (by rw [hhi]; split <;> grind) (by rw [hhi]; split <;> grind) (by rw [hhi]; split <;> simp);have hTE:(∀ q,cq (cz a.p) a.lo a.hi q=cq (cz b.p) b.lo b.hi q)↔TEq a b:=by
  unfold TEq; constructor
  ·intro h q; rw [eqa,eqb]; exact h q
  ·intro h q; rw [<-eqa,<-eqb]; exact h q
 rw [hTE] at key;have fin:¬TEq a b->∃ c,((apF (S6 a b) a b).bind λr=>some r.2.2)=some c/\CmpOk a b c:=λhne=>by
  obtain ⟨r,r1,r2⟩:=Q4i ha hb pa pb hne;refine ⟨r.2.2,by rw [r1]; rfl,?_⟩;rcases r2 with h | h
  ·exact .inl h
  ·exact .inr (.inr h)
 by_cases hl:lo<hi
 ·rw [if_pos hl,g1];show ∃ c,(if 1<g.length/\Qdm g lo hi=true then some 0 else (apF (S6 a b) a b).bind λr=>some r.2.2)=some c/\_;by_cases hh:Qdm g lo hi=true
  ·have hq:=(Qdn g lo hi).1 hh;rw [if_pos ⟨Qsk g2.t g2.n hq,hh⟩];exact ⟨0,rfl,.inr (.inl ⟨rfl,key.1 ⟨hl,hq⟩⟩)⟩
  ·rw [if_neg λh=>hh h.2];exact fin λh=>hh ((Qdn g lo hi).2 (key.2 h).2)
 ·rw [if_neg hl];exact fin λh=>hl (key.2 h).1
def SgT (p:List Int) (a:Tm) (s:Int):Prop:=s=0/\Et (cz p) (Fw a)\/s≠0/\NZ (cz p) (Fw a) s
theorem Zi3 {p:List Int} {c:Rat->Int} (hc:Cut c) {x:Rat} (h:c x=0):Gm p x=0/\Et (cz p) c\/Gm p x≠0/\NZ (cz p) c (Gm p x):=by
 rw [Sp,<-Uz];rcases Qar hc (cz p) with h1 | ⟨s,hs,h1⟩
 ·exact .inl ⟨Fq.2 (Qgb hc h h1),h1⟩
 ·have:=Qs9 hc h h1;rw [this]; exact .inr ⟨hs,h1⟩
theorem D5 {l:List (List Int)} {lo hi:Rat} (h:lo<=hi):Tl l lo hi=(vv (l.map cz) lo:Int)-(vv (l.map cz) hi:Int):=by
 unfold Tl;rw [if_neg λh'=>by have:=B7.1 h'; grind,Iz,Iz]
theorem Zi4 {p q:List Int} {L:List (List Rat)} (hp:U3 p) (np:p.length<=9) (lp:2<=p.length) (hS:Stm (cz q) L) (hpq:Ob (cz q) (cz p)) {a:Tm} (ha:Va a) {s:Int} (hnz:NZ (cz p) (Fw a) s) {D M k:Nat} {x:Tm} (hx:Hv a D M k x) (hl:x.lo<x.hi) (hv:vv L x.lo≠vv L x.hi):1<(x.hi-x.lo)*((2^(Td a.p p+1):Nat):Rat):=by
 rcases Fj ((x.hi-x.lo)*((2^(Td a.p p+1):Nat):Rat)) 1 with hw | hw
 ·exfalso;have ca:=ha.cut;obtain ⟨d,dp,x1,y1,c1,c2,hn⟩:=hnz;obtain ⟨x2,x12,c3⟩:=ca.up x1 c1;obtain ⟨y2,y12,c4⟩:=ca.dn y1 c2;have hpow:(0:Rat)<=((2^(Td a.p p+1):Nat):Rat):=Xo;obtain ⟨z,zp,z1,z2⟩:=min2 (a:=x2-x1) (b:=y1-y2) (by clear hn; grind) (by clear hn; grind);obtain ⟨R0,hR0,r1,r2⟩:=Qn8 x.lo x.hi;obtain ⟨u,hu⟩:=hpq;refine Q67 (R:=R0+1) (d:=z) ha.tr hp ha.n np ha.n2 lp (by clear hn; grind) zp λe ep=>?_
  obtain ⟨q0,q1,q2,q3,q4,q5⟩:∃ q0,x.lo<=q0/\q0<=x.hi/\x2<=q0/\q0<=y2/\U7 (Uy a.p q0)<e:=by
   rcases hx.lo' with h1 | ⟨h1,h2⟩
   ·obtain ⟨x',y',hx',hy',hq⟩:=ha.van e ep;obtain ⟨m,m1,m2,m3,m4⟩:∃ m,Fw a m=1/\x.lo<=m/\x2<=m/\x'<=m:=by
     rcases Fj x.lo x2 with e1 | e1
     ·rcases Fj x2 x' with e2 | e2
      ·exact ⟨x',hx',by clear hn hq; grind,e2,Qo⟩
      ·exact ⟨x2,c3,e1,Qo,Qp e2⟩
     ·rcases Fj x.lo x' with e2 | e2
      ·exact ⟨x',hx',e2,by clear hn hq; grind,Qo⟩
      ·exact ⟨x.lo,h1,Qo,Qp e1,Qp e2⟩
    refine ⟨m,m2,?_,m3,Qp (ca.lt m1 c4),by rw [<-Uz]; exact hq m m4 (Qp (ca.lt m1 hy'))⟩;rcases hx.hi' with h3 | h3
    ·rcases Fj m x.hi with e1 | e1
     ·exact e1
     ·have:=ca.mono x.hi m e1 (by omega); omega
    ·exact Qp (ca.lt m1 h3)
   ·exact absurd h2 (by clear hn; grind)
  obtain ⟨b,hb⟩:=nmE (evB R0 u);have hb0:0<=b:=by rw [hb]; exact Ij hR0 u
  obtain ⟨f,fp,_,hf⟩:=Gw (b:=b) (d:=if e<=d then e else d) hb0 (by split <;> assumption);obtain ⟨r,r3,r4,r5⟩:=Qqq hS hl hv fp;have hrR:U7 r<=R0:=Qdp r1 r2 r3 r4;have hpr:U7 (Uy p r)<(if e<=d then e else d):=by
   rw [<-Uz,hu];have:=Gu (Qp r5) (Qgm hrR u);rw [<-hb] at this;exact Ji.1 λh=>absurd (Q9 h this) (Ji.2 hf)
  have hpe:U7 (Uy p r)<e:=by split at hpr <;> (clear hn; grind)
  have hpd:U7 (Uy p r)<d:=by split at hpr <;> (clear hn; grind)
  have hrout:r<x1\/y1<r:=by
   rcases Fj x1 r with e1 | e1
   ·rcases Fj r y1 with e2 | e2
    ·have:=(hn r e1 e2).2;rw [Uz] at this;exact absurd this (Ji.2 hpd)
    ·exact .inr e2
   ·exact .inl e1
  have hqr:z<=U7 (q0-r):=by
   clear hn;rcases hrout with h | h
   ·have:U7 (q0-r)=q0-r:=by unfold U7; split <;> grind
    rw [this]; grind
   ·have:U7 (q0-r)=r-q0:=by unfold U7; split <;> grind
    rw [this]; grind
  have hq0R:U7 q0<=R0:=Qdp r1 r2 q1 q2;refine ⟨q0,r,by clear hn; grind,by clear hn; grind,hqr,?_,q5,hpe⟩;have h1:U7 (q0-r)<=x.hi-x.lo:=by rw [Ty]; clear hn; constructor <;> grind
  exact Q9 (Q4 h1 hpow) hw
 ·exact hw
theorem Q9y {p q:List Int} {l:List (List Int)} (hp:U3 p) (np:p.length<=9) (lp:2<=p.length) (hS:Stm (cz q) (l.map cz)) (hpq:Ob (cz q) (cz p)) {a:Tm} (ha:Va a) {s:Int} (hnz:NZ (cz p) (Fw a) s) {D M:Nat} (hM:0<M):∀ (j i:Nat) (x:Tm) (k:Nat) (W:Rat),i+1<=j->Hv a D M k x->U9 (D:Int)+U9 (M:Int)+(k+j)<=16777216->x.hi-x.lo<=W->W*((2^(Td a.p p+1):Nat):Rat)<=((2^i:Nat):Rat)->∃ u k',sgF l j x=some u/\Hv a D M k' u/\(u.point=true\/Tl l u.lo u.hi=0)
 | 0,i,x,k,W,h,_,_,_,_=>by omega
 |
  j+1,i,x,k,W,hj,hx,hs,hW,hK=>by
  simp only [sgF];by_cases h:x.point=true\/Tl l x.lo x.hi=0
  ·rw [if_pos h]; exact ⟨x,k,rfl,hx,h⟩
  ·rw [if_neg h];obtain ⟨v,v1,v2,v3,_⟩:=Qo9 hx hM (by omega);rw [v1];show ∃ u k',sgF l j v=some u/\_;have hpt:¬x.hi<=x.lo:=λh'=>h (.inl (P4.2 h'))
   have hl:x.lo<x.hi:=by grind
   have hvv:vv (l.map cz) x.lo≠vv (l.map cz) x.hi:=λh'=>h (.inr (by rw [D5 (Qp hl)]; omega))
   have hg:=Zi4 hp np lp hS hpq ha hnz hx hl hvv;have hpow:(0:Rat)<=((2^(Td a.p p+1):Nat):Rat):=Xo;have hd:∀ x:Rat,x / 2*2=x:=λx=>Gh (by decide)
   cases i with
   |
    zero =>
    exfalso;rw [Vh] at hK;have:=Q4 hW hpow;have h7:((1:Nat):Rat)=1:=rfl;rw [h7] at hK;grind
   |
    succ i =>
    refine Q9y hp np lp hS hpq ha hnz hM j i v (k+1) (W / 2) (by omega) v2 (by omega) ?_ ?_
    ·have:=hd (x.hi-x.lo); have:=hd W; grind
    ·rw [Qnd i] at hK;have:=hd W;have:W / 2*((2^(Td a.p p+1):Nat):Rat)*2=W*((2^(Td a.p p+1):Nat):Rat):=by grind
     grind
theorem Qtg {x y:Rat}:∀ {ws:List (List Rat)},(∀ w∈ws,U6 (ev w x)=U6 (ev w y))->U6 (ev (Aj ws) x)=U6 (ev (Aj ws) y)
 | [],_=>by simp only [Aj]; rw [Rf,Rf]
 |
  w::l,h=>by
  simp only [Aj];rw [U5,U5,Ts,Ts,h w (Qx ..),Qtg λv hv=>h v (Qk _ hv)]
theorem Q3e {p q o:List Int} (hpt:Parts p q o) (tp:U3 p) (hp:p.length≠0) {L:List (List Rat)} (hS:Stm (cz q) L) {x y:Rat} (hxy:x<y) (hv:vv L x=vv L y):∃ s,s≠0/\∀ z,x<z->z<=y->U6 (Uy p z)=s:=by
 obtain ⟨ws,w1,w2⟩:=hpt.ws;obtain ⟨_,_,_,_,_,p6,p7⟩:=Cw tp hp;have key:∀ z,x<z->z≤y->∀ w∈ws.map cz,Sm w x z:=λz h1 h2 w hw=>by
  obtain ⟨v,hv',rfl⟩:=Zx.1 hw;obtain ⟨u,hu⟩:=(w1 v hv').2;have a1:=Lq hS h1;have a2:vv L y<=vv L z:=by
   rcases Classical.em (z=y) with e | e
   ·rw [e]; exact Qi _
   ·exact Lq hS (by grind)
  exact Qb3 hS hu h1 (by omega)
 have hval:∀ z,Uy p z=(Hb p:Rat)*ev (Aj (ws.map cz)) z:=λz=>by rw [p7,w2]
 refine ⟨U6 (Uy p y),λh0=>?_,λz h1 h2=>?_⟩
 ·rw [hval,Ts] at h0;rcases Yw.1 h0 with h | h
  ·exact O1 p6 (Fq.1 h)
  ·have:∀ l:List (List Rat),(∀ w∈l,U6 (ev w y)≠0)->U6 (ev (Aj l) y)≠0:=by
    intro l
    induction l with
    | nil=>intro _; simp only [Aj]; rw [Rf]; decide
    |
     cons w l ih =>
     intro h;simp only [Aj];rw [U5,Ts];exact Jr (h w (Qx ..)) (ih λv hv=>h v (Qk _ hv))
   refine this _ (λw hw=>?_) h;have hs:=key y hxy Qo w hw;rw [hs.s]; exact hs.n
 ·rw [hval,hval,Ts,Ts,Qtg (y:=y) λw hw=>(key z h1 h2 w hw).s.trans (key y hxy Qo w hw).s.symm]
theorem Zh4 {g p P:List Int} {c:Rat->Int} (hc:Cut c) (hg:Gc g p P):Et (cz g) c↔Et (cz p) c/\Et (cz P) c:=by
 constructor
 ·intro h;obtain ⟨u,hu⟩:=hg.da;obtain ⟨v,hv⟩:=hg.db;exact ⟨S8 hc hu h,S8 hc hv h⟩
 ·rintro ⟨h1,h2⟩
  obtain ⟨U,V,hcc⟩:=hg.c;have a1:Et (Gn U (cz p)) c:=S8 hc (p:=cz p) (q:=U) (λt=>by rw [U5]; grind) h1;have a2:Et (Gn V (cz P)) c:=S8 hc (p:=cz P) (q:=V) (λt=>by rw [U5]; grind) h2;exact Qij (λt=>by rw [Uz,hcc,U5,U5,Uz,Uz]) a1 a2
theorem Q95 {p:List Int} (hp:Okp 9 900 p) {a:Tm} (ha:Va a):∃ s,Qk4 p a=some s/\SgT p a s:=by
 unfold Qk4;rw [if_neg hp.nz];have ca:=ha.cut;by_cases pa:a.point=true
 ·rw [if_pos pa];exact ⟨_,rfl,Zi3 ca (x:=a.lo) (by rw [Qw4 ha pa,Bq])⟩
 rw [if_neg pa];have pa:a.point=false:=by simpa using pa
 obtain ⟨L,V⟩:=ha.iv pa;have eqa:∀ q,Fw a q=cq (cz a.p) a.lo a.hi q:=Tv V.l;obtain ⟨g,g1,g2,g3,g4⟩:=Q7g Zlp hp.t ha.tr hp.l ha.n (Uv hp.b (by omega)) (ha.bi pa) hp.nz;obtain ⟨u',hu'⟩:=g2.db;have hhas:=V.has hu' (a:=a.lo) (b:=a.hi) Qo V.l Qo;have hvan:=Zh4 ca g2;rw [show cq (cz a.p) a.lo a.hi=Fw a from (funext eqa).symm] at hhas;rw [g1];show ∃ s,(if 1<g.length/\Qdm g a.lo a.hi=true then some 0 else _)=some s/\_;by_cases hh:Qdm g a.lo a.hi=true
 ·have hq:=(Qdn g _ _).1 hh;rw [if_pos ⟨Qsk g2.t g2.n hq,hh⟩];exact ⟨0,rfl,.inl ⟨rfl,(hvan.1 (hhas.1 hq).1).1⟩⟩
 ·rw [if_neg λh=>hh h.2];have hnv:¬Et (cz p) (Fw a):=λh=>hh ((Qdn g _ _).2 (hhas.2 ⟨hvan.2 ⟨h,ha.van⟩,by rw [eqa]; exact Bi Qo,by rw [eqa]; exact V.hi1⟩))
  rcases Qar ca (cz p) with h | ⟨s,hs0,hnz⟩
  ·exact absurd h hnv
  obtain ⟨q,o,q1,q2,hpt⟩:=Q8g hp;obtain ⟨q',l,r1,r2,hS,hl0⟩:=chain_ok hp;rw [q1] at r1;injection r1 with r1;subst r1;rw [r2];show ∃ s,((sgF (q::l) (64+2*(U9 a.lo.num+U9 a.hi.num)+4*(a.p.length+p.length)*(Gs a.p+Gs p+(a.p.length+p.length)+8)) a).bind λx=>some (Gm p x.hi))=some s/\_;obtain ⟨w,hw⟩:=nmE (U9 a.lo.num+U9 a.hi.num);obtain ⟨K,hK⟩:=nmE (Gs a.p+Gs p+(a.p.length+p.length)+8);obtain ⟨n,hn⟩:=nmE (a.p.length+p.length);rw [<-hw,<-hK,<-hn];obtain ⟨gg,sq⟩:=hpt.sq;obtain ⟨_,_,_,_,_,pf0,pfe⟩:=Cw hp.t hp.nz;have hpq:Ob (cz q) (cz p):=⟨Ce (Hb p) (cz gg),λt=>by rw [Uz,Uz,Fy,Uz,pfe,sq.e]; grind⟩;obtain ⟨D,M,k,h1,h2,h3⟩:=ha.hv0;have b1:=ha.qs.1.1; have b2:=ha.qs.2.1;have l1:=ha.n; have l2:=hp.l; have l3:=ha.n2;have s1:=Ar (ha.bi pa); have s2:=Ar hp.b;have hst:4*n*K<=4*18*1926:=Zr (by omega) (by omega);have hend:∃ u k',sgF (q::l) (64+2*w+4*n*K) a=some u/\Hv a D M k' u/\(u.point=true\/Tl (q::l) u.lo u.hi=0):=by
   by_cases Dv:p.length<2
   ·have hq1:(Fg p)=[1]:=hp.pr.1.one (by have:=hp.pr.2.1; omega);have hql:q.length<2:=by
     have e:=sq.e;rw [hq1] at e;obtain ⟨p1,p2⟩:=Ri (c:=[1]) rfl (by simp) e;have:=Pz sq.pg.t sq.pq.t (c:=[1]) rfl e p1 p2;simp at this; omega
    have hbt:Tl (q::l) a.lo a.hi=0:=by
     rw [D5 (Qp V.l),hl0 hql,sq.pq.one hql];have hv1:∀ x:Rat,ev (cz [1]) x=1:=λx=>by rw [Uz,P3]
     simp only [Z8,Jl,vv,tc,hv1]; omega
    refine ⟨a,k,?_,h1,.inr hbt⟩;obtain ⟨m,hm⟩:∃ m,64+2*w+4*n*K=m+1:=⟨63+2*w+4*n*K,by omega⟩;rw [hm];simp only [sgF];rw [if_pos (.inr hbt)]
   ·have hg:Td a.p p=K*(2*(n-2)-1):=by unfold Td; rw [hK,hn]
    have hgle:Td a.p p+5*K<=2*n*K:=by
     rw [hg,Zh K,<-Jp];exact Qz _ (by omega)
    have hKp:8<=K:=by omega
    have hnK:2*n*K<=4*n*K:=Qz _ (by omega);obtain ⟨u,k',u1,u2,u3⟩:=Q9y hp.t hp.l (by omega) hS hpq ha hnz h2 (64+2*w+4*n*K) (2+w+2*n*K) a k ((2^(w+1):Nat):Rat) (by omega) h1 (by omega) (Qgd (by omega)) (by
     have e:(2^(w+1))*(2^(Td a.p p+1))<=2^(2+w+2*n*K):=by
      rw [<-Xl];exact Zs (by decide) (by omega)
     have:=Za.2 e
     push_cast at this ⊢
     exact this)
    exact ⟨u,k',u1,u2,u3⟩
  obtain ⟨u,k',u1,u2,u3⟩:=hend;rw [u1];refine ⟨_,rfl,.inr ?_⟩;have hfin:Gm p u.hi=s:=by
   rcases u2.hi' with hz | hz
   ·have:=Qs9 ca hz hnz;rw [Sp,<-Uz]; exact this
   ·rcases u2.i with ⟨e,_⟩ | ⟨L',V'⟩
    ·have:=u2.c u.hi;rw [Ic e,e,Bq] at this; omega
    ·have hup:u.point=false:=by
      have:¬u.point=true:=λh=>by have:=P4.1 h; have:=V'.l; grind
      simpa using this
     rcases u3 with h | h
     ·rw [hup] at h; cases h
     ·rw [D5 (Qp V'.l)] at h;obtain ⟨s',hs',hps⟩:=Q3e hpt hp.t hp.nz hS V'.l (by omega);obtain ⟨d,dp,x,y,hx,hy,hq⟩:=hnz;have hlo1:Fw a u.lo=1:=by
       rcases u2.lo' with h | ⟨_,h⟩
       ·exact h
       ·have:=V'.l; clear hps hq; grind
      obtain ⟨m,m1,m2,m3⟩:=Qi3 ca hlo1 hx;have e1:=(hq m (Qp m3) (Qp (ca.lt m1 hy))).1;have e2:=hps m m2 (Qp (ca.lt m1 hz));have e3:=hps u.hi V'.l Qo;rw [Sp,e3,<-e2,<-Uz,e1]
  rw [hfin]; exact ⟨hs0,hnz⟩
structure Dp (p:List Int):Prop where
 t:U3 p
 l:p.length<=9
 b:Bd (860+4*(9-p.length)) p
theorem Q0l:Szz 9 973:=⟨by decide,by decide⟩
theorem Dp.ok {p:List Int} (h:Dp p) (h0:p.length≠0):Okp 9 900 p:=⟨Q0l,h.t,h0,h.l,Uv h.b (by omega)⟩
theorem Dp.der {p:List Int} (h:Dp p):Dp (Gf p):=by
 have hl:=Pi p;have hl2:=h.l;refine ⟨Fl _ _,by omega,?_⟩;by_cases h0:p.length=0
 ·rw [Qh (l:=Gf p) (by omega)]; exact Of
 ·exact Uv (Quz h.b (by omega)) (by omega)
def Rp (a:Tm) (p:List Int):Int:=(Qk4 p a).getD 0
theorem Q9w {p:List Int} (h:Dp p) {a:Tm} (ha:Va a):Qk4 p a=some (Rp a p)/\SgT p a (Rp a p):=by
 by_cases h0:p.length=0
 ·have e:p=[]:=Qh h0;subst e;refine ⟨rfl,.inl ⟨rfl,λd dp=>?_⟩⟩;obtain ⟨x,y,h1,h2,_⟩:=ha.cut.near (e:=1) (by decide);exact ⟨x,y,h1,h2,λq _ _=>by simp only [cz,Jl,ev,Hx]; exact dp⟩
 ·obtain ⟨s,h1,h2⟩:=Q95 (h.ok h0) ha;have e:Rp a p=s:=by unfold Rp; rw [h1]; rfl
  rw [e]; exact ⟨h1,h2⟩
theorem Zi0 {c:Rat->Int} {p q:List Rat} {s:Int} (h:∀ t,ev p t=ev q t) (hp:RS p c s):RS q c s:=by
 obtain ⟨y,h1,h2⟩:=hp;exact ⟨y,h1,λz h3 h4=>by rw [<-h]; exact h2 z h3 h4⟩
theorem Qmn {a:Tm} (ha:Va a):∀ (k:Nat) (p:List Int),Dp p->p.length<=k->p.length≠0->RS (cz p) (Fw a) (Sj (Rp a) k p)/\Sj (Rp a) k p≠0
 | 0,p,_,h1,h2=>by omega
 |
  k+1,p,h,h1,h2=>by
  simp only [Sj];rw [if_neg h2];obtain ⟨_,hs⟩:=Q9w h ha;rcases hs with ⟨e,hv⟩ | ⟨e,hn⟩
  ·rw [if_pos e];have hdn:(Gf p).length≠0:=λh0=>by
    by_cases h3:p.length=1
    ·obtain ⟨c,rfl⟩:∃ c,p=[c]:=Kw.1 h3;have hc:c≠0:=by have:=Hk h.t (by simp); simpa using this
     obtain ⟨q,hq,_⟩:=Qs7 ha.cut (hv (U7 (c:Rat)) (Nv (O1 hc)));rw [Uz] at hq;have:Uy [c] q=(c:Rat):=by simp only [Uy]; grind
     rw [this] at hq; grind
    ·have h4:=M7 p (p.length-2);rw [Qh h0,show p.length-2+1=p.length-1 by omega] at h4;have h5:p.getD (p.length-1) 0≠0:=Hk h.t (by omega);rcases Yw.1 (h4.symm.trans (by simp)) with h6 | h6
     ·exact h5 h6
     ·omega
   have hl:=Pi p;obtain ⟨i1,i2⟩:=Qmn ha k (Gf p) h.der (by omega) hdn;exact ⟨Qqe ha.cut hv (Zi0 (λt=>by rw [Uz,Am,Rq]) i1) i2,i2⟩
  ·rw [if_neg e]; exact ⟨Qnn ha.cut hn,e⟩
theorem Dh {a:Tm} (ha:Va a) {p:List Int} (h:Dp p) (h0:p.length≠0):RS (cz p) (Fw a) (Nc (Rp a) p)/\Nc (Rp a) p≠0:=Qmn ha _ p h (Qi _) h0
theorem Qju {a:Tm}:Nc (Rp a) []=0:=rfl
theorem Zdl {l:List Int}:∀ z∈l,z.natAbs≤most l:=by
 have key:∀ (l:List Int) (m:Nat),m≤l.foldl (λm z=>if m<z.natAbs then z.natAbs else m) m/\∀ z∈l,z.natAbs≤l.foldl (λm z=>if m<z.natAbs then z.natAbs else m) m:=by
  intro l
  induction l with
  | nil=>exact λm=>⟨Qi _,λz hz=>by cases hz⟩
  |
   cons y l ih =>
   intro m;obtain ⟨e,he⟩:=nmE (if m<y.natAbs then y.natAbs else m);have h1:m<=e/\y.natAbs<=e:=by rw [he]; split <;> omega
   obtain ⟨i1,i2⟩:=ih e;simp only [Xg];rw [<-he];refine ⟨by omega,λz hz=>?_⟩;rcases Qq.1 hz with rfl | hz
   ·omega
   ·exact i2 z hz
 exact (key l 0).2
theorem Qiq {p:List Int} (h:Ff p≠0):Gv p*((Ff p).natAbs:Rat)=((Ff p).natAbs:Rat)+((most (p.take (p.length-1)):Nat):Rat):=by
 unfold Gv;rw [<-Hh];have hp:0<(Ff p).natAbs:=by omega
 have:=nat_pos hp;rw [show ((((Ff p).natAbs:Int)):Rat)=((Ff p).natAbs:Rat) from rfl,Gh this];rw [Kk]; rfl
theorem Qzp {m:Nat} {x:Rat} (hx:1≤U7 x):∀ (p:List Int) (lp:p.length≠0),(∀ z∈p.take (p.length-1),z.natAbs≤m)->Ff p≠0->(m:Rat)≤(U7 x-1)*((Ff p).natAbs:Rat)->((Ff p).natAbs:Rat)≤Uy p x*(((Int.sign (Ff p))*(if x<0/\p.length % 2=0 then -1 else 1):Int):Rat)
 | [],lp,_,_,_=>absurd rfl lp
 |
  [c],_,_,hc,_=>by
  have hl:Ff [c]=c:=rfl;rw [hl] at hc ⊢;rw [if_neg (by simp),Ww];have h1:Uy [c] x=(c:Rat):=by simp only [Uy]; grind
  rw [h1];have h2:c*Int.sign c=(c.natAbs:Int):=Int.mul_sign_self c;have:=congrArg (λz:Int=>(z:Rat)) h2;rw [X1] at this;rw [this]; exact Qo
 |
  c::d::p,_,hm,hc,hb=>by
  have hl:Ff (c::d::p)=Ff (d::p):=by unfold Ff; simp [List.getD_cons_succ]
  have ih:=Qzp hx (d::p) (by simp) (λz hz=>hm z (by
   have e:(c::d::p).take ((c::d::p).length-1)=c::(d::p).take ((d::p).length-1):=by simp
   rw [e]; exact Qk _ hz)) (by rw [<-hl]; exact hc) (by rw [<-hl]; exact hb)
  rw [hl] at hc hb ⊢;have hcm:=hm c (by simp);obtain ⟨s,hs⟩:∃ s:Int,s=Int.sign (Ff (d::p)):=⟨_,rfl⟩;have hsv:s=1\/s=-1:=by
   rw [hs];rcases Kl hc with h | h
   ·exact .inr (Jb h)
   ·exact .inl (Jo h)
  rw [<-hs] at ih ⊢;obtain ⟨ld,hld⟩:∃ ld:Rat,ld=((Ff (d::p)).natAbs:Rat):=⟨_,rfl⟩;rw [<-hld] at ih hb ⊢;have hcq:U7 (c:Rat)<=(m:Rat):=by rw [Tt]; exact Za.2 hcm
  rw [Ty] at hcq;have e1:Uy (c::d::p) x=(c:Rat)+x*Uy (d::p) x:=rfl;rw [e1];have hlen:(c::d::p).length % 2=0↔¬(d::p).length % 2=0:=by simp only [Q7]; omega
  generalize Uy (d::p) x=y at *;generalize (m:Rat)=mm at *;generalize (c:Rat)=cc at *;have hx0:=hx;by_cases hneg:x<0
  ·have hq:U7 x=-x:=by unfold U7; rw [if_pos hneg]
   rw [hq] at hx0 hb;by_cases hpar:(d::p).length % 2=0
   ·rw [if_pos ⟨hneg,hpar⟩] at ih;rw [if_neg λh=>(hlen.1 h.2) hpar];rcases hsv with rfl | rfl
    ·have ih:ld<=y*(-1):=by simpa using ih
     have:=Zp ih (show 0<=-x by grind);have e:(((1:Int)*1:Int):Rat)=1:=rfl;rw [e]; grind
    ·have ih:ld<=y*1:=by simpa using ih
     have:=Zp ih (show 0<=-x by grind);have e:(((-1:Int)*1:Int):Rat)=-1:=rfl;rw [e]; grind
   ·rw [if_neg λh=>hpar h.2] at ih;rw [if_pos ⟨hneg,hlen.2 hpar⟩];rcases hsv with rfl | rfl
    ·have ih:ld<=y*1:=by simpa using ih
     have:=Zp ih (show 0<=-x by grind);have e:(((1:Int)*-1:Int):Rat)=-1:=rfl;rw [e]; grind
    ·have ih:ld<=y*(-1):=by simpa using ih
     have:=Zp ih (show 0<=-x by grind);have e:(((-1:Int)*-1:Int):Rat)=1:=rfl;rw [e]; grind
  ·have hq:U7 x=x:=by unfold U7; rw [if_neg hneg]
   rw [hq] at hx0 hb;rw [if_neg λh=>hneg h.1] at ih ⊢;rcases hsv with rfl | rfl
   ·have ih:ld<=y*1:=by simpa using ih
    have:=Zp ih (show 0<=x by grind);have e:(((1:Int)*1:Int):Rat)=1:=rfl;rw [e]; grind
   ·have ih:ld<=y*(-1):=by simpa using ih
    have:=Zp ih (show 0<=x by grind);have e:(((-1:Int)*1:Int):Rat)=-1:=rfl;rw [e]; grind
theorem Qu2 {p:List Int} (tp:U3 p) (lp:p.length≠0) {x:Rat} (hx:Gv p<=U7 x):1<=U7 (Uy p x)/\(0<=x->Gm p x=Q2q p)/\(x<0->Gm p x=Q2p p):=by
 have hl:=Ea tp lp;have hpos:0<(Ff p).natAbs:=by omega
 have h1:(1:Rat)<=((Ff p).natAbs:Rat):=by
  have:((1:Nat):Rat)<=((Ff p).natAbs:Rat):=Za.2 hpos;exact this
 have hm0:(0:Rat)<=((most (p.take (p.length-1)):Nat):Rat):=Xo;have hb:=Qiq hl;have hx1:=Q4 hx (show (0:Rat)<=((Ff p).natAbs:Rat) by grind);have hx2:1<=U7 x:=by
  rcases Fj 1 (U7 x) with h | h
  ·exact h
  ·exfalso;have:=V5 h (show (0:Rat)<((Ff p).natAbs:Rat) by grind);grind
 have key:=Qzp (m:=most (p.take (p.length-1))) hx2 p lp (λz hz=>Zdl z hz) hl (by grind);obtain ⟨s,hs⟩:∃ s:Int,s=Int.sign (Ff p)*(if x<0/\p.length % 2=0 then -1 else 1):=⟨_,rfl⟩;rw [<-hs] at key;have hsv:s=1\/s=-1:=by
  rw [hs];rcases Kl hl with h | h
  ·rw [Jb h]; split <;> simp
  ·rw [Jo h]; split <;> simp
 have hsg:Gm p x=s/\1<=U7 (Uy p x):=by
  rw [Sp];rcases hsv with e | e
  ·rw [e] at key ⊢;have key:((Ff p).natAbs:Rat)<=Uy p x:=by simpa using key
   exact ⟨Hy.2 (by grind),by unfold U7; rw [if_neg (by grind)]; grind⟩
  ·rw [e] at key ⊢;have key:((Ff p).natAbs:Rat)<=Uy p x*(-1):=by simpa using key
   exact ⟨Tz.2 (by grind),by unfold U7; rw [if_pos (by grind)]; grind⟩
 refine ⟨hsg.2,λh=>?_,λh=>?_⟩
 ·rw [hsg.1,hs,if_neg λh'=>by have:=h'.1; grind]; unfold Q2q; omega
 ·rw [hsg.1,hs]; unfold Q2p;by_cases he:p.length % 2=0
  ·rw [if_pos ⟨h,he⟩,if_pos he]; omega
  ·rw [if_neg λh'=>he h'.2,if_neg he]; omega
theorem Qaq {f g:List Int->Int}:∀ {l:List (List Int)} (s:Nat×Int),(∀ p∈l,f p=g p)->l.foldl (Bm f) s=l.foldl (Bm g) s
 | [],s,_=>rfl
 |
  p::l,s,h=>by
  simp only [Xg];have e:Bm f s p=Bm g s p:=by unfold Bm; rw [h p (List.mem_cons_self ..)]
  rw [e]; exact Qaq _ λq hq=>h q (Qk _ hq)
theorem Qzl:∀ (l:List (List Int)),(∀ p∈l,U3 p/\p.length≠0)->∃ X:Rat,0<X/\∀ x,X≤x->(∀ p∈l,Gm p x=Q2q p)/\∀ p∈l,Gm p (-x)=Q2p p
 | [],_=>⟨1,by decide,λx _=>⟨(λp hp=>by cases hp),(λp hp=>by cases hp)⟩⟩
 |
  p::l,h=>by
  obtain ⟨X,hX,hl⟩:=Qzl l λq hq=>h q (Qk _ hq)
  obtain ⟨tp,lp⟩:=h p (Qx ..);refine ⟨X+U7 (Gv p),by have:=Hd (Gv p); grind,λx hx=>?_⟩;have hb0:=Hd (Gv p);have hb1:Gv p<=U7 (Gv p):=by unfold U7; split <;> grind
  obtain ⟨l1,l2⟩:=hl x (by grind);have e1:U7 x=x:=by unfold U7; rw [if_neg (by grind)]
  have e2:U7 (-x)=x:=by rw [Dn,e1]
  refine ⟨λq hq=>?_,λq hq=>?_⟩
  ·rcases Qq.1 hq with rfl | hq
   ·exact (Qu2 tp lp (x:=x) (by rw [e1]; grind)).2.1 (by grind)
   ·exact l1 q hq
  ·rcases Qq.1 hq with rfl | hq
   ·exact (Qu2 tp lp (x:=-x) (by rw [e2]; grind)).2.2 (by grind)
   ·exact l2 q hq
theorem Qxz {q:List Int} {L:List (List Rat)} (hS:Stm (cz q) L) (tq:U3 q) (lq:q.length≠0) {x y:Rat} (hxy:x<y) (h:Gv q<=x\/y<=-Gv q) (hb:0<Gv q):vv L x=vv L y:=by
 rcases Classical.em (vv L x=vv L y) with e | e
 ·exact e
 ·exfalso;obtain ⟨r,r1,r2,r3⟩:=Qqq hS hxy e (d:=1) (by decide);have:=(Qu2 tq lq (x:=r) (by rcases h with h | h <;> (unfold U7; split <;> grind))).1;rw [Uz] at r3; grind
theorem Qe3 {p:List Int} (h:Ff p≠0):1<=Gv p:=by
 have hb:=Qiq h;have hp:=nat_pos (show 0<(Ff p).natAbs by omega);have hm0:(0:Rat)<=((most (p.take (p.length-1)):Nat):Rat):=Xo;rcases Fj 1 (Gv p) with h' | h'
 ·exact h'
 ·have:=V5 h' hp; grind
theorem Q3q {q:List Int} {l:List (List Int)} (hS:Stm (cz q) ((q::l).map cz)) (hl:∀ p∈q::l,U3 p/\p.length≠0):Qqc (q::l)=(vv ((q::l).map cz) (-Gv q):Int)-(vv ((q::l).map cz) (Gv q):Int):=by
 obtain ⟨tq,lq⟩:=hl q (Qx ..);have hb:=Qe3 (Ea tq lq);obtain ⟨X,hX,hx⟩:=Qzl (q::l) hl;obtain ⟨h1,h2⟩:=hx (X+Gv q) (by grind);have e1:Qap Q2q (q::l)=vv ((q::l).map cz) (X+Gv q):=by
  rw [<-Iz]; unfold Dq Qap;rw [Qaq (f:=Q2q) (g:=λp=>Gm p (X+Gv q)) (0,0) λp hp=>(h1 p hp).symm]
 have e2:Qap Q2p (q::l)=vv ((q::l).map cz) (-(X+Gv q)):=by
  rw [<-Iz]; unfold Dq Qap;rw [Qaq (f:=Q2p) (g:=λp=>Gm p (-(X+Gv q))) (0,0) λp hp=>(h2 p hp).symm]
 unfold Qqc;rw [e1,e2,Qxz hS tq lq (x:=-(X+Gv q)) (y:=-Gv q) (by grind) (.inr Qo) (by grind),<-Qxz hS tq lq (x:=Gv q) (y:=X+Gv q) (by grind) (.inl Qo) (by grind)]
theorem Zij {f:List Rat} {L:List (List Rat)} (hS:Stm f L) {x y:Rat} (hxy:x<y) (hv:vv L y+2<=vv L x):∃ m,x<m/\m<y/\vv L m<vv L x/\vv L y<vv L m/\ev f m≠0:=by
 obtain ⟨R,hR,hx,hy⟩:=Qn8 x y;obtain ⟨e,ep,he⟩:=Zas hS R hR;have key:∀ n:Nat,∀ x,U7 x<=R->x<y->vv L y+2<=vv L x->y-x<=(n:Rat)*e->∃ m,x<m/\m<y/\vv L m<vv L x/\vv L y<vv L m:=by
  intro n
  induction n with
  | zero=>intro x _ hxy _ hn; rw [show ((0:Nat):Rat)=0 from rfl] at hn; exfalso; clear he; grind
  |
   succ n ih =>
   intro x hx hxy hv hn;have hn':(((n+1:Nat):Rat))=(n:Rat)+1:=by push_cast; rfl
   rw [hn'] at hn;rcases Fj (y-x) e with h1 | h1
   ·have:=he x y hx hy hxy h1; omega
   ·have hm:U7 (x+e)<=R:=Qdp hx hy (by clear he ih; grind) (by clear he ih; grind);have h2:=he x (x+e) hx hm (by clear he ih; grind) (by clear he ih; grind);have h3:=Lq hS (show x<x+e by clear he ih; grind);by_cases h4:vv L x=vv L (x+e)
    ·obtain ⟨m,m1,m2,m3,m4⟩:=ih (x+e) hm (by clear he ih; grind) (by omega) (by clear he ih; grind);exact ⟨m,by clear he ih; grind,m2,by omega,m4⟩
    ·exact ⟨x+e,by clear he ih; grind,by clear he ih; grind,by omega,by omega⟩
 obtain ⟨n,hn⟩:=Oe (z:=y-x) ep;obtain ⟨m,m1,m2,m3,m4⟩:=key n x hx hxy hv hn;rcases Classical.em (ev f m=0) with h0 | h0
 ·-- a little farther on
  obtain ⟨e2,e2p,hl⟩:=loc hR hS (w:=f) (u:=[1]) (λt=>by rw [Rf]; grind);obtain ⟨d,dp,d1,d2⟩:=min2 (a:=e2) (b:=(y-m) / 2) e2p (La (by clear he key hl; grind) (by decide));have h2:(y-m) / 2*2=y-m:=Gh (by decide);have hmR:U7 m<=R:=Qdp hx hy (Qp m1) (Qp m2);have hmR2:U7 (m+d)<=R:=Qdp hx hy (by clear he key hl; grind) (by clear he key hl; grind);rcases hl m (m+d) hmR hmR2 (by clear he key hl; grind) (by clear he key hl; grind) with ⟨p1,p2,_⟩ | ⟨_,p1,_,p3,_⟩
  ·refine ⟨m+d,by clear he key hl; grind,by clear he key hl; grind,by omega,by omega,λh'=>?_⟩;have:=p2.s;rw [Fq.2 h'] at this; exact p2.n this.symm
  ·rw [Fq.2 h0] at p3; exact absurd p3.symm p1
 ·exact ⟨m,m1,m2,m3,m4,h0⟩
theorem Ze8 {q:List Int} {L:List (List Rat)} (hS:Stm (cz q) L) (tq:U3 q) (nq:q.length<=9) (lq:2<=q.length) {lo hi:Rat} (hl:lo<hi) (hv:vv L hi+2<=vv L lo):1<(hi-lo)*((2^(Td q q+1):Nat):Rat):=by
 rcases Fj ((hi-lo)*((2^(Td q q+1):Nat):Rat)) 1 with hw | hw
 ·exfalso;have hpow:(0:Rat)<=((2^(Td q q+1):Nat):Rat):=Xo;obtain ⟨m,m1,m2,m3,m4,m0⟩:=Zij hS hl hv;obtain ⟨R,hR,r1,r2⟩:=Qn8 lo hi;have hd:=Nv m0;obtain ⟨d,dp,_,db⟩:=Gw (b:=dqB R (cz q)) (d:=U7 (ev (cz q) m) / 2) (Ph hR _) (La hd (by decide));have hd2:U7 (ev (cz q) m) / 2*2=U7 (ev (cz q) m):=Gh (by decide);have hmR:U7 m<=R:=Qdp r1 r2 (Qp m1) (Qp m2);have hnear:∀ r,U7 r<=R->U7 (ev (cz q) r)<U7 (ev (cz q) m) / 2->d<U7 (r-m):=λr hr hs=>by
   rcases Fj (U7 (r-m)) d with h | h
   ·exfalso;have h1:=Pj (p:=cz q) hmR hr hR h db;have h2:=Tq (ev (cz q) m-ev (cz q) r) (ev (cz q) r);rw [show ev (cz q) m-ev (cz q) r+ev (cz q) r=ev (cz q) m by grind,Q00] at h2;grind
   ·exact h
  refine Q67 (R:=R+1) (d:=d+d) tq tq nq nq lq lq (by grind) (by grind) λe ep=>?_
  obtain ⟨e',ep',e1,e2⟩:=min2 (a:=e) (b:=U7 (ev (cz q) m) / 2) ep (La hd (by decide));obtain ⟨x,x1,x2,x3⟩:=Qqq hS m1 (by omega) ep';obtain ⟨y,y1,y2,y3⟩:=Qqq hS m2 (by omega) ep';have hxR:U7 x<=R:=Qdp r1 r2 x1 (by grind);have hyR:U7 y<=R:=Qdp r1 r2 (by grind) y2;have nx:=hnear x hxR (by grind);have ny:=hnear y hyR (by grind);have ex:U7 (x-m)=m-x:=by unfold U7; split <;> grind
  have ey:U7 (y-m)=y-m:=by unfold U7; split <;> grind
  rw [ex] at nx;rw [ey] at ny;have exy:U7 (x-y)=y-x:=by unfold U7; split <;> grind
  refine ⟨x,y,by grind,by grind,by rw [exy]; grind,?_,by rw [<-Uz]; grind,by rw [<-Uz]; grind⟩;rw [exy];exact Q9 (Q4 (show y-x<=hi-lo by grind) hpow) hw
 ·exact hw
theorem Q57:∀ {k:Nat} {a b:List Int} {l:List (List Int)},chF k a b=some l->∀ p∈l,p.length≠0
 | 0,_,_,_,h=>by cases h
 |
  k+1,a,b,l,h=>by
  simp only [chF] at h
  split at h
  ·injection h with h; subst h; exact λp hp=>by cases hp
  ·rename_i h0;obtain ⟨r,_,h⟩:=Qm.1 h;obtain ⟨l',h1,h⟩:=Qm.1 h;injection h with h; subst h;intro p hp;rcases Qq.1 hp with rfl | hp
   ·exact h0
   ·exact Q57 h1 p hp
theorem Okp.pb {n s:Nat} {p:List Int} (h:Okp n s p) (hs:s<=16777216):Pb p:=⟨h.t,by have:=h.l; have:=h.z.1; omega,Uv h.b hs⟩
theorem Q19 {p:List Int} {q:List Int} {l:List (List Int)} (hp:Pb p) (h:C6 p=some (q::l)) (hq:q.length≠0):∀ r∈q::l,U3 r/\r.length≠0:=by
 have h1:=(Orr.chain_ok hp h).2;unfold C6 at h;obtain ⟨a,_,h⟩:=Qm.1 h
 split at h
 ·cases h
 ·obtain ⟨d,_,h⟩:=Qm.1 h;obtain ⟨l',h3,h⟩:=Qm.1 h;injection h with h;injection h with e1 e2;subst e1; subst e2;intro r hr;refine ⟨(h1 r hr).t,?_⟩;rcases Qq.1 hr with rfl | hr
  ·exact hq
  ·exact Q57 h3 r hr
inductive RI (q:List Int) (L:List (List Rat)):Rat->List Tm->Rat->Prop
 | nil {lo hi:Rat} (h:lo<=hi) (hv:vv L lo=vv L hi):RI q L lo [] hi
 | cons {lo hi:Rat} {t:Tm} {l:List Tm} (h:lo<=t.lo) (hv:vv L lo=vv L t.lo) (ht:Vt (cz q) L t.lo t.hi) (hp:t.p=q) (hl:RI q L t.hi l hi):RI q L lo (t::l) hi
theorem RI.app {q:List Int} {L:List (List Rat)} {lo m hi:Rat} {l l':List Tm} (h:RI q L lo l m) (h':RI q L m l' hi):RI q L lo (l++l') hi:=by
 induction h with
 |
  nil h hv =>
  cases h' with
  | nil h2 hv2=>exact .nil (by grind) (by omega)
  | cons h2 hv2 ht hp hl=>exact .cons (by grind) (by omega) ht hp hl
 | cons h hv ht hp _ ih=>exact .cons h hv ht hp (ih h')
theorem Q59 {D M k:Nat} {m:Rat} (h:Gr D M k m) (hM:0<M) (hs:U9 (D:Int)+U9 (M:Int)+k<=16777216):chq m=some m:=by
 have:=Qmo h hM hs;unfold chq;rw [if_pos ⟨this.1,this.2⟩]
theorem Qh8 {q:List Int} {c:List (List Int)} (hS:Stm (cz q) (c.map cz)) (tq:U3 q) (nq:q.length<=9) (hc1:q.length<2->c=[q]) {D M F:Nat} (hM:0<M):∀ (k j:Nat) (lo hi:Rat),lo<hi->Gr D M j lo->Gr D M j hi->U9 (D:Int)+U9 (M:Int)+(j+k)<=16777216->(hi-lo)*((2^(Td q q+1):Nat):Rat)<=((2^k:Nat):Rat) ->
 ∃ l,Av q c (F+k+1) lo hi ((vv (c.map cz) lo:Int)-(vv (c.map cz) hi:Int))=some l/\RI q (c.map cz) lo l hi/\∀ t∈l,∃ k',k'≤j+k/\Gr D M k' t.lo/\Gr D M k' t.hi:=by
 intro k
 induction k with
 |
  zero =>
  intro j lo hi hl g1 g2 hs hK;have hle:=Lq hS hl;have h2:vv (c.map cz) lo<vv (c.map cz) hi+2:=by
   rcases Q6 (vv (c.map cz) lo) (vv (c.map cz) hi+2) with h | h
   ·exact h
   ·exfalso;have lq:2<=q.length:=by
     rcases Q6 q.length 2 with e | e
     ·have hvv:∀ x,vv (c.map cz) x=vv (c.map cz) 0:=λx=>by
       rcases hS with ⟨c0,hc0,hcc,hl'⟩ | ⟨g',l',k',hk,hg,hsc,hl'⟩
       ·rw [hl']; simp only [vv,tc,hcc]
       ·rw [hc1 e] at hl'; cases hl'
      rw [hvv lo,hvv hi] at h; omega
     ·exact e
    have:=Ze8 hS tq nq lq hl h;rw [Vh] at hK;have h7:((1:Nat):Rat)=1:=rfl;rw [h7] at hK; grind
  simp only [Av];by_cases e0:vv (c.map cz) lo=vv (c.map cz) hi
  ·rw [if_pos (by omega)];exact ⟨[],rfl,.nil (Qp hl) e0,λt ht=>by cases ht⟩
  ·rw [if_neg (by omega),if_pos (by omega)];refine ⟨[⟨q,lo,hi⟩],rfl,.cons Qo rfl ⟨hS,hl,by show vv _ lo=vv _ hi+1; omega⟩ rfl (.nil Qo rfl),λt ht=>?_⟩;rw [Qj.1 ht]; exact ⟨j,by omega,g1,g2⟩
 |
  succ k ih =>
  intro j lo hi hl g1 g2 hs hK;have hle:=Lq hS hl;show ∃ l,(if (vv (c.map cz) lo:Int)-(vv (c.map cz) hi:Int)=0 then some [] else if (vv (c.map cz) lo:Int)-(vv (c.map cz) hi:Int)=1 then some [⟨q,lo,hi⟩] else (chq (mid lo hi)).bind λm=>(Av q c (F+k+1) lo m (Tl c lo m)).bind λl=>(Av q c (F+k+1) m hi ((vv (c.map cz) lo:Int)-(vv (c.map cz) hi:Int)-Tl c lo m)).bind λr=>some (l++r))=some l/\_;by_cases e0:vv (c.map cz) lo=vv (c.map cz) hi
  ·rw [if_pos (by omega)];exact ⟨[],rfl,.nil (Qp hl) e0,λt ht=>by cases ht⟩
  by_cases e1:vv (c.map cz) lo=vv (c.map cz) hi+1
  ·rw [if_neg (by omega),if_pos (by omega)];refine ⟨[⟨q,lo,hi⟩],rfl,.cons Qo rfl ⟨hS,hl,e1⟩ rfl (.nil Qo rfl),λt ht=>?_⟩;rw [Qj.1 ht]; exact ⟨j,by omega,g1,g2⟩
  ·rw [if_neg (by omega),if_neg (by omega)];obtain ⟨m,hm⟩:=nmE ((lo+hi) / 2);have h2:(lo+hi) / 2*2=lo+hi:=Gh (by decide);rw [<-hm] at h2;have gm:Gr D M (j+1) m:=by rw [hm]; exact Qv9 g1 g2
   have l1:lo<m:=by grind
   have l2:m<hi:=by grind
   rw [Qfu,<-hm,Q59 gm hM (by omega)];show ∃ l,((Av q c (F+k+1) lo m (Tl c lo m)).bind λl=>(Av q c (F+k+1) m hi ((vv (c.map cz) lo:Int)-(vv (c.map cz) hi:Int)-Tl c lo m)).bind λr=>some (l++r))=some l/\_;rw [D5 (Qp l1),show (vv (c.map cz) lo:Int)-(vv (c.map cz) hi:Int)-((vv (c.map cz) lo:Int)-(vv (c.map cz) m:Int))=(vv (c.map cz) m:Int)-(vv (c.map cz) hi:Int) by omega];rw [Qnd k] at hK;have hp:∀ x y:Rat,(y-x)*2=hi-lo->(y-x)*((2^(Td q q+1):Nat):Rat)<=((2^k:Nat):Rat):=λx y h=>by
    have:(y-x)*((2^(Td q q+1):Nat):Rat)*2=(hi-lo)*((2^(Td q q+1):Nat):Rat):=by rw [<-h]; grind
    grind
   obtain ⟨la,a1,a2,a3⟩:=ih (j+1) lo m l1 (Qgr g1) gm (by omega) (hp lo m (by grind));obtain ⟨lb,b1,b2,b3⟩:=ih (j+1) m hi l2 gm (Qgr g2) (by omega) (hp m hi (by grind));rw [a1];show ∃ l,((Av q c (F+k+1) m hi ((vv (c.map cz) m:Int)-(vv (c.map cz) hi:Int))).bind λr=>some (la++r))=some l/\_;rw [b1];refine ⟨la++lb,rfl,a2.app b2,λt ht=>?_⟩;rcases Qt.1 ht with ht | ht
   ·obtain ⟨k',h1,h2,h3⟩:=a3 t ht; exact ⟨k',by omega,h2,h3⟩
   ·obtain ⟨k',h1,h2,h3⟩:=b3 t ht; exact ⟨k',by omega,h2,h3⟩
theorem Zh8 {D M k:Nat} {q:Rat} (h:Gr D M k q):Gr D M k (-q):=by
 obtain ⟨u,hu⟩:=h.u;exact ⟨⟨-u,by rw [Vr,<-hu]; grind⟩,by rw [Dn]; exact h.b,h.d⟩
theorem Qsr {m s:Nat} (h:m<2^s):U9 ((m+1:Nat):Int)<=s+1:=by
 rw [Te,Xd,Zo]; omega
theorem Q22 {z:Int} {s:Nat} (h:U9 z<=s):U9 ((z.natAbs+1:Nat):Int)<=s+1:=Qsr (Te.1 h)
theorem Zez {x:Rat} {m s g N:Nat} (hx:x<=2*((m+1:Nat):Rat)) (hm:m+1<=2^s) (hN:s+1+g<=N):x*((2^g:Nat):Rat)<=((2^N:Nat):Rat):=by
 have h3:=Za.2 hm;have e:=Qnd s;have h4:(0:Rat)<=((2^s:Nat):Rat):=Xo;have h1:x<=((2^(s+1):Nat):Rat):=by rw [e]; grind
 have h5:(0:Rat)<=((2^g:Nat):Rat):=Xo;refine Q9 (Q4 h1 h5) ?_;have h6:2^(s+1)*2^g<=2^N:=by
  rw [<-Xl]; exact Zs (by decide) hN
 have:=Za.2 h6;rw [Rat.natCast_mul] at this;exact this
theorem Zbo {s:Nat} {l:List Int} (h:Bd s l):most l<2^s:=by
 have key:∀ (l:List Int) (m:Nat),m<2^s->Bd s l->l.foldl (λm z=>if m<z.natAbs then z.natAbs else m) m<2^s:=by
  intro l
  induction l with
  | nil=>exact λm h _=>h
  |
   cons y l ih =>
   intro m hm hb;simp only [Xg];refine ih _ ?_ λz hz=>hb z (Qk _ hz)
   have:=hb y (Qx ..);rw [Te] at this
   split <;> assumption
 exact key l 0 (Z9 (by decide)) h
theorem Zhl {p q:List Int} (h:chk p=some q):q=p:=by
 unfold chk at h
 split at h
 ·injection h with h; exact h.symm
 ·cases h
theorem Q9m {s:Nat} {p:List Int} (hs9:s≤900) (h:Okp 9 s p):∃ q c l,P5 p=some q/\C6 p=some c/\Qtx p=some l/\Stm (cz q) (c.map cz)/\RI q (c.map cz) (-Gv q) l (Gv q)/\(∀ t∈l,Va t)/\(∀ x y,x<y->Gv q≤x\/y≤-Gv q->vv (c.map cz) x=vv (c.map cz) y)/\q.length≤p.length/\∀ t∈l,t.p=q/\t.lo<t.hi/\Bd (s+69) q/\∃ D M k,Gr D M k t.lo/\Gr D M k t.hi/\0<M/\U9 (D:Int)≤s+69/\U9 (M:Int)≤s+70/\k≤63*s+5160:=by
 obtain ⟨pp,Dv,hpb⟩:=h.pr;obtain ⟨g,q',hq',sq⟩:=Qbi h;obtain ⟨q,l,q1,q2,hS,hl0⟩:=chain_ok h;rw [hq'] at q1;injection q1 with q1;subst q1;have e1:∀ t,Uy (Fg p) t=Uy q' t*Uy g t:=λt=>by rw [sq.e]; grind
 obtain ⟨p1,p2⟩:=Ri pp.t pp.n e1;have hch:chF 66 q' (Fg (Gf q'))=some l:=by
  have h2:=q2;unfold C6 at h2;rw [hq'] at h2;simp only [Ul] at h2
  split at h2
  ·cases h2
  ·cases hd:chk (Gf q') with
   | none=>rw [hd] at h2; cases h2
   |
    some d =>
    rw [hd] at h2;simp only [Ul] at h2;obtain rfl:d=Gf q':=Zhl hd;cases hc:chF 66 q' (Fg (Gf q')) with
    | none=>rw [hc] at h2; cases h2
    | some l'=>rw [hc] at h2; simp at h2; rw [h2]
 have hll:=Pz sq.pq.t sq.pg.t pp.t e1 p1 p2;have hl9:=h.l;have bq:Bd (s+69) q':=Ou hpb (by omega) pp.t sq.pq.t sq.pg.t pp.n e1;have hall:=Q19 (h.pb (by omega)) q2 sq.pq.n;have hld:Ff q'≠0:=by have:=sq.pq.l; omega
 have hb1:=Qe3 hld;obtain ⟨D,hD⟩:=nmE ((Ff q').natAbs);obtain ⟨m,hm⟩:=nmE (most (q'.take (q'.length-1)));have hm2:m<2^(s+69):=by rw [hm]; exact Zbo (s:=s+69) λz hz=>bq z (Ql hz)
 have hD0:0<D:=by omega
 have hDs:U9 (D:Int)<=s+69:=by
  have:=Me bq;rw [Te] at this ⊢;rw [Xd,hD]; exact this
 have hbe:=Qiq hld;rw [<-hD,<-hm] at hbe;have hDq:=nat_pos hD0;have hbm:Gv q'<=((m+1:Nat):Rat):=by
  have hD1:(1:Rat)<=(D:Rat):=by
   have:((1:Nat):Rat)<=(D:Rat):=Za.2 hD0;exact this
  have hm0:(0:Rat)<=(m:Rat):=Xo;have h3:=Pk (a:=(m:Rat)) (c:=1) hm0 Qo (by decide) hD1;rcases Fj (Gv q') ((m+1:Nat):Rat) with h' | h'
  ·exact h'
  ·exfalso;have:=V5 h' hDq
   push_cast at this; grind
 have gb:Gr D (m+1) 0 (Gv q'):=by
  refine ⟨⟨(D+m:Nat),?_⟩,?_,hD0⟩
  ·rw [Vh,Ys,hbe];rw [show ((((D+m:Nat):Int)):Rat)=((D+m:Nat):Rat) from rfl]; push_cast; rfl
  ·have:U7 (Gv q')=Gv q':=by unfold U7; rw [if_neg (by grind)]
   rw [this]; exact hbm
 have hMs:U9 ((m+1:Nat):Int)<=s+69+1:=Qsr (s:=s+69) hm2;have hK:(Gv q' - -Gv q')*((2^(Td q' q'+1):Nat):Rat)<=((2^(63*s+5160):Nat):Rat):=by
  have hps:=Ar bq;have hg:Td q' q'<=(2*s+164)*31:=by
   unfold Td;exact Zr (by omega) (by omega)
  exact Zez (s:=s+69) (g:=Td q' q'+1) (N:=63*s+5160) (by grind) hm2 (by omega)
 have hN:U9 (D:Int)+U9 ((m+1:Nat):Int)+(0+(63*s+5160))<=16777216:=by omega
 obtain ⟨ls,r1,r2,r3⟩:=Qh8 (F:=99999-(63*s+5160)) hS sq.pq.t (by omega) (λh=>by rw [hl0 h]) (Uk m) (63*s+5160) 0 (-Gv q') (Gv q') (by grind) (Zh8 gb) gb hN hK;rw [show 99999-(63*s+5160)+(63*s+5160)+1=100000 by omega] at r1;have hchq:chq (Gv q')=some (Gv q'):=Q59 gb (Uk m) (by omega);have key:∀ t∈ls,Va t/\t.p=q'/\t.lo<t.hi/\Bd (s+69) q'/\∃ D M k,Gr D M k t.lo/\Gr D M k t.hi/\0<M/\U9 (D:Int)≤s+69/\U9 (M:Int)≤s+70/\k≤63*s+5160:=λt ht=>by
  obtain ⟨k',k1,k2,k3⟩:=r3 t ht;have hmem:∀ {lo hi:Rat} {ls:List Tm},RI q' ((q'::l).map cz) lo ls hi->t∈ls->Vt (cz q') ((q'::l).map cz) t.lo t.hi/\t.p=q':=λh=>by
   induction h with
   | nil=>intro ht; cases ht
   |
    cons h hv ht' hp hl ih =>
    intro ht;rcases Qq.1 ht with rfl | ht
    ·exact ⟨ht',hp⟩
    ·exact ih ht
  obtain ⟨v1,v2⟩:=hmem r2 ht;have lq2:2<=q'.length:=by
   rcases Q6 q'.length 2 with e | e
   ·exfalso;have hvv:∀ x,vv ((q'::l).map cz) x=0:=λx=>by
     rw [hl0 e,sq.pq.one e];have hv1:∀ x:Rat,ev (cz [1]) x=1:=λx=>by rw [Uz,P3]
     simp only [Z8,Jl,vv,tc,hv1];have:U6 1=1:=by decide
     rw [this]; decide
    have:=v1.v;rw [hvv,hvv] at this; omega
   ·exact e
  exact ⟨⟨.inr ⟨_,by rw [v2]; exact v1⟩,by rw [v2]; exact sq.pq.t,by rw [v2]; omega,by rw [v2]; exact lq2,by rw [v2]; exact Uv bq (by omega),λ_=>by rw [v2]; exact Uv bq (by omega),λ_=>by rw [v2]; exact ⟨l,_,g,hch,sq,v1⟩,D,m+1,k',k2,k3,Uk m,by omega⟩,v2,v1.l,bq,D,m+1,k',k2,k3,Uk m,hDs,Qd hMs (Qi (s+70)),by rw [Zu] at k1; exact k1⟩
 refine ⟨q',q'::l,ls,hq',q2,?_,hS,r2,λt ht=>(key t ht).1,λx y hxy hb=>Qxz hS sq.pq.t sq.pq.n hxy hb (by grind),by omega,λt ht=>(key t ht).2⟩
 ·unfold Qtx;rw [q2,hq'];show (chq (Gv q')).bind _=_;rw [hchq];show Av q' (q'::l) 100000 (-Gv q') (Gv q') (Qqc (q'::l))=_;rw [Q3q hS hall];exact r1
theorem Q9l {p:List Int} (h:Okp 9 900 p):∃ q c l,P5 p=some q/\C6 p=some c/\Qtx p=some l/\Stm (cz q) (c.map cz)/\RI q (c.map cz) (-Gv q) l (Gv q)/\(∀ t∈l,Va t)/\(∀ x y,x<y->Gv q≤x\/y≤-Gv q->vv (c.map cz) x=vv (c.map cz) y):=by
 obtain ⟨q,c,l,h1,h2,h3,h4,h5,h6,h7,_⟩:=Q9m (Qi _) h;exact ⟨q,c,l,h1,h2,h3,h4,h5,h6,h7⟩
theorem Dd {q:List Int} {L:List (List Rat)} (hS:Stm (cz q) L) {c:Rat->Int} (hc:Cut c) {lo:Rat} (hH:∀ z,c z=-1->z<=lo->vv L z=vv L lo) {y0:Rat} (hy:c y0=-1) (hv:∀ z,lo<z->z<=y0->vv L z=vv L lo):∃ s,s≠0/\∀ z,c z=-1->z<=y0->U6 (ev (cz q) z)=s:=by
 have hall:∀ z,c z=-1->z<=y0->vv L z=vv L lo:=λz h1 h2=>by
  rcases Fj z lo with e | e
  ·exact hH z h1 e
  ·exact hv z e h2
 have hne:∀ z,c z=-1->z<=y0->U6 (ev (cz q) z)≠0:=λz h1 h2=>by
  obtain ⟨w,w1,w2⟩:=hc.dn z h1;have:=Qqz hS w1 (by rw [hall w w2 (by grind),hall z h1 h2]);rw [this.s]; exact this.n
 refine ⟨U6 (ev (cz q) y0),hne y0 hy Qo,λz h1 h2=>?_⟩;rcases Classical.em (z=y0) with e | e
 ·rw [e]
 ·have:=Qqz hS (x:=z) (y:=y0) (by grind) (by rw [hall z h1 h2,hall y0 hy Qo]);rw [this.s,Li (hne z h1 h2)]
structure Fst (o:List Int) (a t:Tm):Prop where
 lt:TLt a t
 s:∃ s,s≠0/\(∀ z,Fw a z=-1->Fw t z=1->U6 (ev (cz o) z)=s)/\RS (cz o) (Fw t) (-s)
def Non (o:List Int) (a:Tm):Prop:=∃ s,s≠0/\∀ z,Fw a z=-1->U6 (ev (cz o) z)=s
theorem Q3b {q:List Int} {L:List (List Rat)} (hS:Stm (cz q) L) {a:Tm} (ha:Va a) {lo hi:Rat} {l:List Tm} (hR:RI q L lo l hi):(∀ t∈l,Va t)->(∀ z,hi<z->vv L z=vv L hi)->(∀ z,Fw a z=-1->z≤lo->vv L z=vv L lo)->∃ r,Qm2 a l=some r/\match r with
 | none=>Non q a
 | some t=>t∈l/\Fst q a t:=by
 have ca:=ha.cut
 induction hR with
 |
  @nil lo hi h hv =>
  intro _ hhi hH;refine ⟨none,rfl,?_⟩;obtain ⟨y1,hy1⟩:=ca.hi;have hall:∀ z,lo<z->vv L z=vv L lo:=λz hz=>by
   rcases Fj z hi with e | e
   ·have h1:=Lq hS hz;have h2:vv L hi<=vv L z:=by
     rcases Classical.em (z=hi) with e' | e'
     ·rw [e']; exact Qi _
     ·exact Lq hS (by grind)
    omega
   ·rw [hhi z e,hv]
  obtain ⟨s,s0,hs⟩:=Dd hS ca hH hy1 λz h1 _=>hall z h1
  refine ⟨s,s0,λz hz=>?_⟩;rcases Fj z y1 with e | e
  ·exact hs z hz e
  ·obtain ⟨s',s0',hs'⟩:=Dd hS ca hH hz λz h1 _=>hall z h1
   rw [hs' z hz Qo,<-hs' y1 hy1 (Qp e),hs y1 hy1 Qo]
 |
  @cons lo hi t l h hv ht hp hl ih =>
  intro hV hhi hH;have hvt:=hV t (Qx ..);have ct:=hvt.cut;have ht':=ht;rw [<-hp] at ht';have ect:∀ z,Fw t z=cq (cz t.p) t.lo t.hi z:=Tv ht.l;obtain ⟨c,c1,c2⟩:=Qza hvt ha;show ∃ r,((Qlg t a).bind λc=>if 0<c then some (some t) else Qm2 a l)=some r/\_;rw [c1];show ∃ r,(if 0<c then some (some t) else Qm2 a l)=some r/\_;have hlo1:Fw t t.lo=1:=by rw [ect]; exact Bi Qo
  have hlow:∀ z,lo<z->Fw t z=1->vv L z=vv L lo:=λz h1 h2=>by
   rcases Fj z t.lo with e | e
   ·have a1:=Lq hS h1;have a2:vv L t.lo<=vv L z:=by
     rcases Classical.em (z=t.lo) with e' | e'
     ·rw [e']; exact Qi _
     ·exact Lq hS (by grind)
    omega
   ·rw [ect] at h2;have hz:z<=t.hi:=by
     rcases Fj z t.hi with e' | e'
     ·exact e'
     ·rw [I3 ht.l e'] at h2; omega
    rw [ht'.eq_lo e hz h2,hv]
  by_cases hc:0<c
  ·rw [if_pos hc];refine ⟨some t,rfl,Qx ..,?_⟩;have hlt:TLt a t:=by
    rcases c2 with ⟨e,_⟩ | ⟨e,_⟩ | ⟨_,h⟩
    ·omega
    ·omega
    ·exact h
   refine ⟨hlt,?_⟩;obtain ⟨m,m1,m2⟩:=hlt;obtain ⟨s,s0,hs⟩:=Dd hS ca hH m1 λz h1 h2=>hlow z h1 (by
    rcases Classical.em (z=m) with e | e
    ·rw [e]; exact m2
    ·exact ct.mono' (q:=z) (r:=m) (by grind) (by omega))
   have hall:∀ z,Fw a z=-1->Fw t z=1->U6 (ev (cz q) z)=s:=λz h1 h2=>by
    rcases Fj z m with e | e
    ·exact hs z h1 e
    ·obtain ⟨s',s0',hs'⟩:=Dd hS ca hH h1 λw w1 w2=>hlow w w1 (by
      rcases Classical.em (w=z) with e | e
      ·rw [e]; exact h2
      ·exact ct.mono' (q:=w) (r:=z) (by grind) (by omega))
     rw [hs' z h1 Qo,<-hs' m m1 (Qp e),hs m m1 Qo]
   refine ⟨s,s0,hall,?_⟩;obtain ⟨w,w1,w2,w3⟩:=Qi3 ct m2 hlo1;have hwa:Fw a w=-1:=ca.mono m w w2 (by omega);have hsw:=hall w hwa w1;have hwh:w<t.hi:=by
    rw [ect] at w1;rcases Fj t.hi w with e | e
    ·have:=ht'.hi1;rcases Classical.em (t.hi=w) with e' | e'
     ·rw [<-e'] at w1; exact absurd w1 this
     ·rw [I3 ht.l (by grind)] at w1; omega
    ·exact e
   have hww:vv L w=vv L t.lo:=ht'.eq_lo w3 (Qp hwh) (by rw [<-ect]; exact w1);have hvv:=ht.v;have hone:=Qqy hS hwh (by omega);have hlw:Sa (cz q) w=s:=by rw [Li (by rw [hsw]; exact s0),hsw]
   rw [hlw] at hone;have hd:∀ z,w<z->z<=t.hi->Fw t z=-1->U6 (ev (cz q) z)=-s:=λz z1 z2 z3=>by
    rw [ect] at z3;have e1:=ht'.eq_hi (by grind) z2 (by omega);have e2:=Qqy hS z1 (by omega);rw [hlw] at e2;have hz0:U6 (ev (cz q) z)≠0:=by
     rw [Ni (by grind) z2,hp] at z3;intro h0;rw [if_pos h0] at z3; omega
    rw [Li hz0] at e2; exact e2.2
   rcases ct.val t.hi with e | e | e
   ·rw [ect] at e; exact absurd e ht'.hi1
   ·obtain ⟨d,dp,hd'⟩:=Zk4 (p:=cz q) (x:=t.hi) (by rw [hone.2]; omega);refine ⟨t.hi+d,ct.mono t.hi _ (by grind) (by omega),λz h1 h2=>?_⟩;have hz:t.hi<z:=by
     rcases Fj z t.hi with e' | e'
     ·rcases Classical.em (z=t.hi) with e'' | e''
      ·rw [e''] at h1; omega
      ·have:=ct.mono z t.hi (by grind) (by omega); omega
     ·exact e'
    rw [hd' z hz (by grind),hone.2]
   ·exact ⟨t.hi,e,λz h1 h2=>hd z (ct.lt w1 h1) h2 h1⟩
  ·rw [if_neg hc];have hle:¬TLt a t:=λh=>by
    rcases c2 with ⟨e,h'⟩ | ⟨e,h'⟩ | ⟨e,_⟩
    ·exact Qpk ct ca h' h
    ·obtain ⟨z,z1,z2⟩:=h;have:=h' z; omega
    ·omega
   obtain ⟨r,r1,r2⟩:=ih (λx hx=>hV x (Qk _ hx)) hhi λz z1 z2=>by
    have hz:Fw t z≠1:=λh=>hle ⟨z,z1,h⟩
    have hzl:t.lo<z:=by
     rcases Fj z t.lo with e | e
     ·refine absurd ?_ hz;rw [ect]; exact Bi e
     ·exact e
    exact ht'.eq_hi hzl z2 (by rw [<-ect]; exact hz)
   refine ⟨r,r1,?_⟩;cases r with
   | none=>exact r2
   | some x=>exact ⟨Qk _ r2.1,r2.2⟩
theorem Zgf {c:Rat->Int} (hc:Cut c):∀ (n:Nat) (f:List Rat),HD f n->∃ s,s≠0/\RS f c s
 |
  n,f,h=>by
  rcases Qar hc f with hv | ⟨s,hs,hn⟩
  ·cases n with
   |
    zero =>
    exfalso;obtain ⟨q,hq,_⟩:=Qs7 hc (hv (U7 (f.getD 0 0)) (Nv h.1));cases f with
    | nil=>exact h.1 (by simp)
    |
     cons a l =>
     have:=Cm (p:=l) λk=>by have:=h.2 (k+1) (by omega); rwa [Q3] at this
     simp only [ev,this,Zq] at hq; grind
   |
    succ n =>
    have hd:HD (Mw f) n:=by
     have key:∀ (f:List Rat) (k:Nat),(Mw f).getD k 0=((k+1:Nat):Rat)*f.getD (k+1) 0:=by
      intro f
      induction f with
      | nil=>intro k; simp only [Mw,Kx]; grind
      |
       cons a f ih =>
       intro k;simp only [Mw];rw [Hz,Q3];cases k with
       | zero=>rw [Zq]; push_cast; grind
       | succ k=>rw [Q3,ih]; push_cast; grind
     refine ⟨λh0=>?_,λk hk=>by rw [key,h.2 (k+1) (by omega)]; grind⟩;rw [key] at h0;rcases Je.1 h0 with h1 | h1
     ·have:=nat_pos (show 0<n+1 by omega); grind
     ·exact h.1 h1
    obtain ⟨s,hs,h1⟩:=Zgf hc n (Mw f) hd;exact ⟨s,hs,Qqe hc hv h1 hs⟩
  ·exact ⟨s,hs,Qnn hc hn⟩
theorem Q9p {c:Rat->Int} (hc:Cut c) {f p q:List Rat} {s s':Int} (hf:∀ t,ev f t=ev p t*ev q t) (h:RS p c s) (h':RS q c s'):RS f c (s*s'):=by
 obtain ⟨y,h1,h2⟩:=h;obtain ⟨y',h3,h4⟩:=h';refine ⟨if y<=y' then y else y',by split <;> assumption,λz z1 z2=>?_⟩;rw [hf,Ts,h2 z z1 (by clear h2 h4; grind),h4 z z1 (by clear h2 h4; grind)]
theorem Q9q {c:Rat->Int} (hc:Cut c) {f o S:List Rat} {k:Rat} (hk:k≠0) (hf:∀ t,ev f t=k*(ev o t*(ev S t*ev S t))) (hnz:¬∀ t,ev f t=0) {s:Int} (h:RS o c s):RS f c (U6 k*s):=by
 obtain ⟨n,_,hn⟩:∃ n,n<S.length/\HD S n:=by
  rcases Qjw S with h1 | h1
  ·exact absurd (λt=>by rw [hf,h1]; grind) hnz
  ·exact h1
 obtain ⟨s',hs',h'⟩:=Zgf hc n S hn;have h1:=Q9p hc (f:=Gn S S) (λt=>U5 t _ _) h' h';have h2:=Q9p hc (f:=Gn o (Gn S S)) (λt=>U5 t _ _) h h1;have hsq:s'*s'=1:=by
  obtain ⟨y,y1,y2⟩:=h';have:=y2 y y1 Qo;rcases Ga (ev S y) with ⟨e,_⟩ | ⟨e,_⟩ | ⟨e,_⟩
  ·rw [<-this,e]; rfl
  ·omega
  ·rw [<-this,e]; rfl
 rw [hsq,Ww] at h2;obtain ⟨y,y1,y2⟩:=h2;exact ⟨y,y1,λz z1 z2=>by
  have:=y2 z z1 z2;rw [U5,U5] at this;rw [hf,Ts,this]⟩
structure Cp (p:List Int):Prop where
 t:U3 p
 l:p.length<=9
 b:Bd 800 p
theorem Cp.dp {p:List Int} (h:Cp p):Dp p:=⟨h.t,h.l,Uv h.b (by omega)⟩
theorem Cp.ok {p:List Int} (h:Cp p) (h0:p.length≠0):Okp 9 900 p:=h.dp.ok h0
def Leq (a:Tm) (c:Rat->Int):Prop:=∀ q,c q=-1->Fw a q=-1
def Lu (p:List Int) (a:Tm):Option Tm->Prop
 | none=>p=[]\/∃ s,s≠0/\∀ c,Cut c->Leq a c->RS (cz p) c s
 | some t=>p≠[]/\Va t/\TLt a t/\∃ s,s≠0/\(∀ c,Cut c->Leq a c->(∃ m,c m=-1/\Fw t m=1)->RS (cz p) c s)/\RS (cz p) (Fw t) (-s)
theorem RI.len {q:List Int} {L:List (List Rat)} {lo hi:Rat} {l:List Tm} (h:RI q L lo l hi):l.length+vv L hi<=vv L lo:=by
 induction h with
 | nil h hv=>simp; omega
 | cons h hv ht hp hl ih=>have:=ht.v; simp only [Q7]; omega
theorem Zal (x:Rat):∀ (L:List (List Rat)) (s:Int),tc x s L<=L.length
 | [],_=>Qi _
 |
  f::l,s=>by
  have h1:=Zal x l;simp only [tc,Q7]
  repeat' split
  all_goals (first | (have:=h1 s; omega) | (have:=h1 (U6 (ev f x)); omega))
theorem Zjn (L:List (List Rat)) (x:Rat):vv L x<=L.length:=Zal x L 0
theorem Que {p:List Int} (h:Cp p):∃ l,Qqr p=some l/\l.length≤67/\(∀ t∈l,Va t)/\∀ a,Va a->∃ r,Qm2 a l=some r/\Lu p a r/\∀ t,r=some t->t∈l:=by
 unfold Qqr;by_cases h0:p.length=0
 ·have e:p=[]:=Qh h0;subst e;exact ⟨[],rfl,by decide,(λt ht=>by cases ht),λa _=>⟨none,rfl,.inl rfl,λt ht=>by cases ht⟩⟩
 ·obtain ⟨qp,o,q1,o1,hpt⟩:=Q8g (n:=9) (s:=800) (p:=p) ⟨⟨by decide,by decide⟩,h.t,h0,h.l,h.b⟩;obtain ⟨g,sq⟩:=hpt.sq;obtain ⟨S,hS⟩:=hpt.os;obtain ⟨p1,p2,p3,p4,p5,p6,p7⟩:=Cw h.t h0;have Dv:=h.l;obtain ⟨hh,th,eh⟩:=hpt.oh;have bo:Bd 869 o:=Ou (p5 800 h.b) (by omega) p1 hpt.ot th (by omega) eh;obtain ⟨lo1,lo2⟩:=Ri p1 (by omega) eh;have hlen:=Pz hpt.ot th p1 eh lo1 lo2;have oko:Okp 9 900 o:=⟨Q0l,hpt.ot,by omega,by omega,Uv bo (by omega)⟩;obtain ⟨q,c,l,r1,r2,r3,hSt,hRI,hVa,hout⟩:=Q9l oko;obtain ⟨g',q',s1,s2⟩:=Qbi oko;rw [r1] at s1;injection s1 with s1;subst s1;obtain ⟨_,_,_,_,_,o6,o7⟩:=Cw hpt.ot (by omega);have hg1:g'=[1]:=by
   refine s2.pg.one ?_;obtain ⟨E,hE⟩:=hpt.oq;have hE:∀ t,Uy qp t=Uy o t*ev E t:=λt=>by have:=hE t; rwa [Uz,Uz] at this
   obtain ⟨z,hz⟩:=s2.d;have hd1:∀ t,Uy o t=Uy g' t*(Hb o*Uy q t):=λt=>by rw [o7,s2.e]; grind
   have hdo:∀ t,dv (cz o) t=Uy g' t*(Hb o*ev z t):=λt=>by
    have:=Q6q (p:=cz o) (q:=Ce (Hb o) (cz (Fg o))) (λt=>by rw [Uz,Fy,Uz,o7]) t;rw [this,Qfc,hz]; grind
   obtain ⟨k,hk,hkk⟩:=sq.num (d:=cz g') ⟨Gn (Ce (Hb o) (cz q)) E,λt=>by rw [Uz,Uz,hE,hd1,U5,Fy,Uz]; grind⟩ ⟨Tr (Gn (Ce (Hb o) z) E) (Gn (Ce (Hb o) (cz q)) (Mw E)),λt=>by
    have:=Ii (f:=cz qp) (w:=cz o) (u:=E) (λt=>by rw [Uz,Uz,hE]) t;rw [Rq,this,hdo,Uz,Uz,hd1,Gj,U5,U5,Fy,Fy,Rq,Uz]; grind⟩
   rcases Q6 g'.length 2 with e | e
   ·exact e
   ·exfalso;have h1:=(Qgs s2.pg.t (by omega)).1;have h2:=B9 (p:=cz g') (q:=[k]) (λt=>by rw [hkk]; simp only [ev]; grind) (g'.length-1);rw [h2,Qf,Qu (by simp; omega)] at h1;exact h1 rfl
  have hpq:∀ t,ev (cz p) t=((Hb p:Rat)*(Hb o:Rat))*(ev (cz q) t*(ev S t*ev S t)):=λt=>by
   rw [Uz,Uz,p7,hS,o7,s2.e,hg1,P3]; grind
  have hk0:(Hb p:Rat)*(Hb o:Rat)≠0:=λh=>(Je.1 h).elim (O1 p6) (O1 o6)
  have hpz:¬∀ t,ev (cz p) t=0:=λh'=>Qgj h.t (by omega) λt=>by rw [<-Uz]; exact h' t
  obtain ⟨k,hk⟩:=nmE (U6 ((Hb p:Rat)*(Hb o:Rat)));have hkn:k≠0:=λh=>hk0 (Fq.1 (by rw [<-hk]; exact h))
  have ho:o.length≠0:=by omega
  rw [o1];show ∃ l,(if o.length=0 then some [] else Qtx o)=some l/\l.length<=67/\_;rw [if_neg ho];have hb1:=Qe3 (Ea s2.pq.t s2.pq.n);have hll:=hRI.len;have hlv:=Zjn (c.map cz) (-Gv q);have hcl:=(Orr.chain_ok (p:=o) ⟨hpt.ot,by omega,Uv bo (by omega)⟩ r2).1;rw [Zc] at hlv;refine ⟨l,r3,by omega,hVa,λa ha=>?_⟩;obtain ⟨r,n1,n2⟩:=Q3b hSt ha hRI hVa (λz hz=>(hout _ _ hz (.inl Qo)).symm) λz _ hz=>by
   rcases Classical.em (z=-Gv q) with e | e
   ·rw [e]
   ·exact hout z _ (by grind) (.inr Qo)
  refine ⟨r,n1,?_,λt ht=>by subst ht; exact n2.1⟩;cases r with
  |
   none =>
   obtain ⟨s,hs,hz⟩:=n2;refine .inr ⟨k*s,Jr hkn hs,λc hc hac=>?_⟩;obtain ⟨y,hy⟩:=hc.hi;have h1:RS (cz q) c s:=⟨y,hy,λz z1 _=>hz z (hac z z1)⟩;rw [hk]; exact Q9q hc hk0 hpq hpz h1
  |
   some t =>
   obtain ⟨hm,hlt,s,hs,hz,hrs⟩:=n2;refine ⟨λe=>h0 (by rw [e]; rfl),hVa t hm,hlt,k*s,Jr hkn hs,λc hc hac ⟨m,m1,m2⟩=>?_,?_⟩
   ·have h1:RS (cz q) c s:=⟨m,m1,λz z1 z2=>hz z (hac z z1) (by
     rcases Classical.em (z=m) with e | e
     ·rw [e]; exact m2
     ·exact (hVa t hm).cut.mono' (q:=z) (r:=m) (by grind) (by omega))⟩
    rw [hk]; exact Q9q hc hk0 hpq hpz h1
   ·have:=Q9q (hVa t hm).cut hk0 hpq hpz hrs;rw [<-hk] at this;rw [show -(k*s)=k*-s by rw [Ku]]; exact this
structure Sz (s n:Nat) (t:Tm):Prop where
 n:t.p.length<=n
 b:Bd (s+138) t.p
 g:∃ D M k,Gr D M k t.lo/\Gr D M k t.hi/\0<M/\U9 (D:Int)<=s+138/\U9 (M:Int)<=s+139/\k<=63*s+9507
theorem Q8b {p:List Int} (h:Cp p) {a:Tm} (ha:Va a):∃ r,Qm3 p a=some r/\Lu p a r:=by
 obtain ⟨l,l1,_,_,l3⟩:=Que h;obtain ⟨r,r1,r2,_⟩:=l3 a ha;refine ⟨r,?_,r2⟩;unfold Qm3;rw [l1]; exact r1
theorem Qms:∀ (l:List Tm) (b:Tm),(∀ t∈b::l,Va t)->∃ m,Io b l=some m/\m∈b::l/\∀ t∈b::l,¬TLt t m
 |
  [],b,h=>⟨b,rfl,Qx ..,λt ht h'=>by
  rw [Qj.1 ht] at h';have hb:=(h b (Qx ..)).cut;exact Qpk hb hb h' h'⟩
 |
  a::l,b,h=>by
  have ha:=h a (by simp);have hb:=h b (by simp);obtain ⟨c,c1,c2⟩:=Qza ha hb;obtain ⟨m,m1,m2,m3⟩:=Qms l (if c<0 then a else b) λt ht=>by
   rcases Qq.1 ht with rfl | ht
   ·split <;> assumption
   ·exact h t (by simp [ht])
  refine ⟨m,by simp only [Io]; rw [c1]; exact m1,?_,λt ht=>?_⟩
  ·rcases Qq.1 m2 with e | e
   ·rw [e]; split <;> simp
   ·simp [e]
  ·have hm:Va m:=by
    rcases Qq.1 m2 with e | e
    ·rw [e]; split <;> assumption
    ·exact h m (by simp [e])
   have hfst:=m3 _ (Qx ..);have tr:∀ x y:Tm,Va x->Va y->¬TLt x y->¬TLt y m->¬TLt x m:=λx y hx hy h1 h2 h3=>by
    rcases tri hy.cut hm.cut with h4 | h4 | h4
    ·exact h2 h4
    ·obtain ⟨q,q1,q2⟩:=h3;exact h1 ⟨q,q1,by rw [h4]; exact q2⟩
    ·obtain ⟨q,q1,q2⟩:=h3;obtain ⟨r,r1,r2⟩:=h4;have:=hm.cut.lt q2 r1;exact h1 ⟨q,q1,hy.cut.mono' this (by omega)⟩
   rcases Qq.1 ht with rfl | ht
   ·by_cases hc:c<0
    ·rw [if_pos hc] at hfst;refine tr _ a hb ha ?_ hfst;rcases c2 with ⟨_,h'⟩ | ⟨e,_⟩ | ⟨e,_⟩
     ·exact λh''=>Qpk ha.cut hb.cut h' h''
     ·omega
     ·omega
    ·rw [if_neg hc] at hfst; exact hfst
   ·rcases Qq.1 ht with rfl | ht
    ·by_cases hc:c<0
     ·rw [if_pos hc] at hfst; exact hfst
     ·rw [if_neg hc] at hfst;refine tr _ b ha hb ?_ hfst;rcases c2 with ⟨e,_⟩ | ⟨_,h'⟩ | ⟨_,h'⟩
      ·omega
      ·rintro ⟨q,q1,q2⟩
       have:=h' q; omega
      ·exact λh''=>Qpk ha.cut hb.cut h'' h'
    ·exact m3 t (by simp [ht])
end Orq
namespace Orr
open Go Go.Proofs Orq
set_option maxRecDepth 10000
theorem Dp.pb {p:List Int} (h:Dp p):Pb p:=⟨h.t,by have:=h.l; omega,Uv h.b (by have:=h.l; omega)⟩
theorem Zkk {p:List Int} {a:Tm} (hp:Dp p) (ha:Va a):Uw Tryz.prog 228 [pr p,.agg (ta a)] [.one (.int .i64 (Rp a p))]:=Zbq (Dp.pb hp) ha.tb (Q9w hp ha).1
theorem Zkb {p:List Int} {a:Tm} (hp:Dp p) (ha:Va a):Uw Tryz.prog 227 [pr p,.one (.sh (ta a))] [.one (.int .i64 (Rp a p))]:=w tt Tryz.func227 rfl [.c [] (Zkk hp ha)] rfl rfl trivial
theorem Zb1 {p:List Int} {fid:Nat} {l1:List LV} {sgn:List Int->Int} (hp:Dp p) (h:∀ p,Dp p->Uw Tryz.prog fid [pr p,.one (.sh l1)] [.one (.int .i64 (sgn p))]):Uw Tryz.prog 226 [pr p,.one (.fn fid [] [.sh l1])] [.one (.int .i64 (Sj sgn p.length p))]:=by
 have hpb:=Dp.pb hp;refine Hn Tryz.func226 rfl ?_;refine go tt [.c [] (Rk hpb.t hpb.ln hpb.bd)] rfl trivial ?_;refine lp (S:=List Int) 0 (λL1 s=>(0,.v (pr s))::L1) (λ_=>[]) (λs=>s.length) (λs=>Dp s/\Sj sgn s.length s=Sj sgn p.length p) p ⟨hp,rfl⟩ rfl (λ_ _=>rfl) rfl λr ⟨j1,j4⟩=>?_
 rw [<-j4];have jb:=Dp.pb j1;by_cases h0:r.length=0
 ·have e:=Qgq sgn h0;rw [e];exact en tt [.f (by simp; exact Qh h0)] rfl rfl trivial
 ·have hs:=h r j1;by_cases hz:sgn r=0
  ·have hlp:=Pi r;refine go tt [.t (by simp; omega),.c [] hs,.f (by simpa using hz),.c [] (Qaw jb.ln jb.bd)] rfl trivial ?_;exact rd (Gf r) (by omega) ⟨j1.der,by rw [<-Qgp sgn (by omega) hz]⟩ rfl
  ·rw [Qgo sgn (by omega) hz];exact en tt [.t (by simp; omega),.c [] hs,.t (by simpa using hz)] rfl rfl trivial
abbrev gmA (a:Tm) (p:List Int):Int:=Nc (Rp a) p
theorem Qys {p:List Int} {a:Tm} (hp:Dp p) (ha:Va a):Uw Tryz.prog 176 [pr p,.agg (ta a)] [.one (.int .i64 (gmA a p))] :=
 w tt Tryz.func176 rfl [.c [] (Zb1 (sgn:=Rp a) hp λ_ h=>Zkb h ha)] rfl rfl trivial
theorem Q5o {t:Tm} {a b:Pt} {ps:List (List Int)} (hps:∀ p∈ps,Dp p) (ht:Va t) (hl:ps.length<1000):Uw Tryz.prog 284 [.agg (ta t),.agg (Hi a),.agg (Hi b),.one (.row (Ll ps))] [.one (.bool (Iw (Rp t) a b ps))]:=by
 refine Hn Tryz.func284 rfl ?_;have Dv:(Ll ps).length=ps.length:=by simp [Ll]
 refine go tt [] rfl trivial ?_;refine lp (S:=Nat) 3 (λL1 i=>(13,.v (.one (.int .i64 (i:Int))))::L1) (λ_=>[.blk 74 (ta t),.blk 135 (Hi a),.blk 135 (Hi b)]) (λi=>ps.length-i) (λi=>i<=ps.length/\Iw (Rp t) a b (ps.drop i)=Iw (Rp t) a b ps) 0 ⟨Qg _,rfl⟩ rfl (λ_ _=>rfl) rfl λi ⟨hi,he⟩=>?_
 rw [<-he];by_cases hlt:i<ps.length
 ·obtain ⟨p,hp⟩:=gxE (l:=ps) (i:=i) hlt;have hd:ps.drop i=p::ps.drop (i+1):=by
   rw [Zl hlt];rw [Qe hlt] at hp; injection hp with hp; rw [hp]
  have hpb:=hps p (Qa hp);rw [hd] at he ⊢;by_cases h0:0<p.length
  ·exact en tt [.t (by simp [Dv]; omega),.x (Bw hp),.t (by simp; omega),.c [] (Qys hpb ht)] rfl (by simp only [Iw]; rw [if_pos h0]) trivial
  ·refine go tt [.t (by simp [Dv]; omega),.x (Bw hp),.f (by simp; exact Qh (by omega))] rfl (by simp [Uu]; omega) ?_;exact rd (i+1) (by omega) ⟨hlt,by simp only [Iw]; rw [if_neg h0]⟩ rfl
 ·have hd:ps.drop i=[]:=Yq (by omega);rw [hd];exact en tt [.f (by simp [Dv]; omega)] rfl rfl trivial
structure Sc (k:Crv):Prop where
 n:Nml k
 c:Cs 90 3 k
theorem Sc.cb {k:Crv} (h:Sc k):Cb k:=h.c.mono (by omega) (by omega)
theorem E4 {a b:Crv} (ha:Sc a) (hb:Sc b):Cp (Hm a b):=by
 refine ⟨Fl _ _,?_,Uv (A1 (Gp hb.c.x ha.c.d) (Gp ha.c.x hb.c.d)) (by omega)⟩;have:=Lh (Fi b.x a.d) (Fi a.x b.d);have:=Fz b.x a.d; have:=Fz a.x b.d; have:=ha.c.lx; have:=hb.c.lx;unfold Hm; omega
theorem E3 {a b:Crv} (ha:Sc a) (hb:Sc b):Cp (Hr a b):=by
 refine ⟨Fl _ _,?_,Uv (A1 (Gp hb.c.y ha.c.d) (Gp ha.c.y hb.c.d)) (by omega)⟩;have:=Lh (Fi b.y a.d) (Fi a.y b.d);have:=Fz b.y a.d; have:=Fz a.y b.d; have:=ha.c.ly; have:=hb.c.ly;unfold Hr; omega
theorem Q4q {a b:Pt} {t:Tm} (ha:Sc a.c) (hb:Sc b.c) (ht:Va t):Uw Tryz.prog 240 [.agg (Hi a),.agg (Hi b),.agg (ta t)] [.one (.bool (Ms (Rp t) a b))] :=
 w tt Tryz.func240 rfl [.c [] (Qym ha.n hb.n ha.cb hb.cb),.c [] (Qyf ha.n hb.n ha.cb hb.cb),.c [] (Q5o (t:=t) (a:=a) (b:=b) (ps:=[Hm a.c b.c,Hr a.c b.c]) (λp hp=>by
  simp at hp;rcases hp with rfl | rfl
  ·exact (E4 ha hb).dp
  ·exact (E3 ha hb).dp) ht (show 2<1000 by decide))] rfl rfl trivial
theorem Zgm (q:Rat) {P:Prop} (h:(tq q).point=false):P:=by
 have e:(tq q).point=true:=P4.2 Qo;rw [e] at h; cases h
theorem Zmo {q:Rat} (hq:Qs 400000 q):Va (tq q):=by
 have hd:=q.den_nz;refine ⟨.inl ⟨rfl,?_⟩,Q1g q,by show 2<=9; omega,by show 2<=2; omega,Zj8 (hq.mono (by omega)),Zgm q,Zgm q,q.den,q.num.natAbs+1,0,?_,?_,by omega,?_⟩
 ·have e:(q.num:Rat)=q*(q.den:Rat):=by
   have:(q.num:Rat) / (((q.den:Int)):Rat)=q:=by rw [Hh,Zz]
   have h2:(q.num:Rat) / (q.den:Rat)*(q.den:Rat)=q.num:=Zj (by have:=Orq.nat_pos q.den_pos; grind);rw [show (q.num:Rat) / (q.den:Rat)=q from this] at h2; exact h2.symm
  show Uy [-q.num,(q.den:Int)] q=0;simp only [Uy];rw [Vr,e,show (((q.den:Int)):Rat)=(q.den:Rat) from rfl]; grind
 all_goals first | (have h1:U9 (q.den:Int)<=400000:=hq.2; have h2:U9 ((q.num.natAbs+1:Nat):Int)<=400001:=Q22 hq.1; omega) | skip
 all_goals
  refine ⟨⟨q.num,?_⟩,?_,q.den_pos⟩
  ·rw [Vh,Ys];have:(q.num:Rat) / (((q.den:Int)):Rat)=q:=by rw [Hh,Zz]
   have h2:(q.num:Rat) / (q.den:Rat)*(q.den:Rat)=q.num:=Zj (by have:=Orq.nat_pos q.den_pos; grind);rw [show (q.num:Rat) / (q.den:Rat)=q from this] at h2; exact h2
  ·have h1:U7 q<=U7 (q.num:Rat):=by
    have e:(q.num:Rat)=q*(q.den:Rat):=by
     have:(q.num:Rat) / (((q.den:Int)):Rat)=q:=by rw [Hh,Zz]
     have h2:(q.num:Rat) / (q.den:Rat)*(q.den:Rat)=q.num:=Zj (by have:=Orq.nat_pos q.den_pos; grind);rw [show (q.num:Rat) / (q.den:Rat)=q from this] at h2; exact h2.symm
    rw [e,Dm];have hd1:(1:Rat)<=(q.den:Rat):=by
     have:((1:Nat):Rat)<=(q.den:Rat):=Za.2 q.den_pos;exact this
    have e2:U7 (q.den:Rat)=(q.den:Rat):=by unfold U7; rw [if_neg (by grind)]
    rw [e2];have:=Pk (a:=U7 q) (c:=1) (Hd q) Qo (by decide) hd1;grind
   rw [Tt] at h1;refine Q9 h1 (Za.2 (by omega))
theorem Q2m {p q:List Int} (hp:Cp p) (hq:Cp q):Cp (Qcb p q):=by unfold Qcb; split <;> assumption
theorem Zbt {a b:Pt} {t:Tm} (ha:Sc a.c) (hb:Sc b.c) (ht:Va t):Uw Tryz.prog 179 [.one (.int .i64 1),.agg (ta t),.one (.row [Hi a,Hi b])] [.agg (Qkh (Di (Rp t) a b)),.one (.int .i64 0)]:=by
 have h1:=E4 ha hb;have h2:=E3 ha hb;refine Hn Tryz.func179 rfl ?_;refine go tt [.c [] Q13,.f rfl] rfl trivial ?_;refine lp (S:=Nat) 3 (λL1 i=>(22,.v (.one (.int .i64 (i:Int))))::L1) (λi=>[.blk 74 (ta t),.blk 90 zCt,.blk 90 [.int .i64 1,.int .i64 (if 1<=i then a.id else 0),.int .i64 (if 2<=i then b.id else 0),.int .i64 0,.int .i64 0,.nils,.int .i64 0]]) (λi=>2-i) (λi=>i<=2) 0 (Qg _) rfl (λ_ _=>rfl) rfl λi hi=>?_
 rcases (show i=0\/i=1\/i=2 by omega) with rfl | rfl | rfl
 ·refine go tt [.t rfl,.x (i:=0) (xs:=Hi a) rfl,.i 0] rfl (by simp [Uu]) ?_;exact rd 1 (by omega) (by omega) rfl
 ·refine go tt [.t rfl,.x (i:=1) (xs:=Hi b) rfl,.i 1] rfl (by simp [Uu]) ?_;exact rd 2 (by omega) (by omega) rfl
 ·exact en tt [.f rfl,.t rfl,.x (i:=0) (xs:=Hi a) rfl,.x (i:=1) (xs:=Hi b) rfl,.c [] (Qym ha.n hb.n ha.cb hb.cb),.x (i:=0) (xs:=Hi a) rfl,.x (i:=1) (xs:=Hi b) rfl,.c [] (Qyf ha.n hb.n ha.cb hb.cb),.c [] Q5h,.c [] (Qys (Q2m h1 h2).dp ht)] rfl rfl trivial
end Orr
namespace Orr
variable {α:Type}
def Tu (lt:α->α->Bool) (out:List α) (x:α):Nat->Nat
 | 0=>0
 |
  k+1=>match out[k]? with
  | some y=>if lt x y=true then Tu lt out x k else k+1
  | none=>k+1
theorem Qp0 (lt:α->α->Bool) (out:List α) (x:α):∀ k,Tu lt out x k<=k
 | 0=>Qi _
 |
  k+1=>by
  simp only [Tu]
  split
  ·split
   ·exact Nat.le_succ_of_le (Qp0 lt out x k)
   ·exact Qi _
  ·exact Qi _
theorem Qbb {lt:α->α->Bool} {out:List α} {x y:α} {k:Nat} (hx:out[k]? = some y) (h:lt x y=true):Tu lt out x (k+1)=Tu lt out x k:=by
 simp only [Tu,hx,h,if_true]
theorem Ap {lt:α->α->Bool} {out:List α} {x y:α} {k:Nat} (hx:out[k]? = some y) (h:lt x y=false):Tu lt out x (k+1)=k+1:=by
 simp [Tu,hx,h]
def Nm (lt:α->α->Bool) (out:List α) (x:α):List α:=out.take (Tu lt out x out.length)++x::out.drop (Tu lt out x out.length)
theorem Q7p (lt:α->α->Bool) (out:List α) (x:α):(Nm lt out x).length=out.length+1:=by
 have:=Qp0 lt out x out.length;simp [Nm]; omega
theorem Qjz {lt:α->α->Bool} {out:List α} {x y:α}:y∈Nm lt out x↔y=x\/y∈out:=by
 have h:y∈out↔y∈out.take (Tu lt out x out.length)\/y∈out.drop (Tu lt out x out.length):=by
  rw [<-Qt,Zd]
 simp only [Nm,Qt,Qq,h];constructor
 ·rintro (h | h | h)
  ·exact .inr (.inl h)
  ·exact .inl h
  ·exact .inr (.inr h)
 ·rintro (h | h | h)
  ·exact .inr (.inl h)
  ·exact .inl h
  ·exact .inr (.inr h)
def Fx (lt:α->α->Bool) (l:List α):List α:=l.foldl (Nm lt) []
theorem Qxq (lt:α->α->Bool) (l:List α) (x:α):Fx lt (l++[x])=Nm lt (Fx lt l) x:=by simp [Fx,Vx]
theorem Lo {lt:α->α->Bool} {l:List α} {i:Nat} {x:α} (h:l[i]? = some x):Fx lt (l.take (i+1))=Nm lt (Fx lt (l.take i)) x:=by
 rw [Zw,h]; exact Qxq _ _ _
theorem Qjq (lt:α->α->Bool):∀ (l acc:List α),(l.foldl (Nm lt) acc).length=acc.length+l.length
 | [],acc=>by simp
 | c::l,acc=>by simp only [Xg]; rw [Qjq lt l (Nm lt acc c),Q7p]; simp; omega
theorem H5 (lt:α->α->Bool) (l:List α):(Fx lt l).length=l.length:=by unfold Fx; rw [Qjq]; simp
theorem Qcd (lt:α->α->Bool):∀ (l acc:List α) {y:α},y∈l.foldl (Nm lt) acc↔y∈l\/y∈acc
 | [],acc,y=>by simp
 |
  c::l,acc,y=>by
  simp only [Xg];rw [Qcd lt l,Qjz,Qq];constructor
  ·rintro (h | h | h)
   ·exact .inl (.inr h)
   ·exact .inl (.inl h)
   ·exact .inr h
  ·rintro ((h | h) | h)
   ·exact .inr (.inl h)
   ·exact .inl h
   ·exact .inr (.inr h)
theorem Sx {lt:α->α->Bool} {l:List α} {y:α}:y∈Fx lt l↔y∈l:=by
 unfold Fx; rw [Qcd]; simp
end Orr
namespace Orr
open Go Orq
structure Wt where
 c:Ct
 known:Bool
 fails:Option Tm
def f0:Option Tm->LV | none=>.row [] | some t=>pl t.p
def f1:Option Tm->LV | none=>.bool false | some t=>sg t.lo.num
def f2:Option Tm->LV | none=>.row [] | some t=>mg t.lo.num
def f3:Option Tm->LV | none=>.bool false | some t=>sg (t.lo.den:Int)
def f4:Option Tm->LV | none=>.row [] | some t=>mg (t.lo.den:Int)
def f5:Option Tm->LV | none=>.bool false | some t=>sg t.hi.num
def f6:Option Tm->LV | none=>.row [] | some t=>mg t.hi.num
def f7:Option Tm->LV | none=>.bool false | some t=>sg (t.hi.den:Int)
def f8:Option Tm->LV | none=>.row [] | some t=>mg (t.hi.den:Int)
abbrev fl (o:Option Tm):List LV:=[f0 o,f1 o,f2 o,f3 o,f4 o,f5 o,f6 o,f7 o,f8 o]
abbrev wl (w:Wt):List LV:=[.int .i64 w.c.kind,.int .i64 w.c.i0,.int .i64 w.c.i1,.int .i64 w.c.i2,.int .i64 w.c.i3,pl w.c.p,.int .i64 w.c.want,.bool w.known,.bool w.fails.isSome,f0 w.fails,f1 w.fails,f2 w.fails,f3 w.fails,f4 w.fails,f5 w.fails,f6 w.fails,f7 w.fails,f8 w.fails]
def Qx0 (l:List Wt):List (List LV):=l.map λw=>wl w
theorem Zau (l:List Wt):(Qx0 l).length=l.length:=by simp [Qx0]
structure Cr where
 now:Tm
 l:List Wt
 ev:Int
abbrev crl (c:Cr) (r0 r1:List (List LV)):List LV:=.bool true::pl c.now.p::sg c.now.lo.num::mg c.now.lo.num::sg (c.now.lo.den:Int)::mg (c.now.lo.den:Int)::sg c.now.hi.num::mg c.now.hi.num::sg (c.now.hi.den:Int)::mg (c.now.hi.den:Int)::.row (Qx0 c.l)::.int .i64 c.ev::[.row r0,.row r1]
structure WtOk (w:Wt):Prop where
 p:Cp w.c.p
 f:∀ t,w.fails=some t->Va t
structure CrOk (c:Cr):Prop where
 n:Va c.now
 l:∀ w∈c.l,WtOk w
 k:c.l.length<=1000
def Zll (a b:Ct):Bool:=decide ([a.kind,a.i0,a.i1,a.i2,a.i3]=[b.kind,b.i0,b.i1,b.i2,b.i3])
def fresh (x:Ct):Wt:=⟨x,false,none⟩
def Qgu:List Wt->Ct->Tm->Option Wt
 | [],x,_=>some (fresh x)
 |
  w::l,x,at_=>if Zll w.c x=true/\w.known=true/\w.c.p=x.p then
   match w.fails with
   | none=>some ⟨x,true,none⟩
   | some t=>(Qlg t at_).bind λc=>if 0<c then some ⟨x,true,some t⟩ else Qgu l x at_
  else Qgu l x at_
def Qz2 (old:List Wt) (at_:Tm):List Ct->Option (List Wt)
 | []=>some []
 | x::l=>(Qgu old x at_).bind λw=>(Qz2 old at_ l).bind λr=>some (w::r)
end Orr
namespace Orr
open Go Go.Proofs Orq
set_option maxRecDepth 10000
theorem Qsv {old:List Wt} {at_:Tm}:∀ {l:List Ct} {ws:List Wt},Qz2 old at_ l=some ws->ws.length=l.length/\∀ (i:Nat) (x:Ct),l[i]? = some x->∃ w,Qgu old x at_=some w/\ws[i]? = some w
 | [],ws,h=>by injection h with h; subst h; exact ⟨rfl,λi x hx=>by simp at hx⟩
 |
  y::l,ws,h=>by
  simp only [Qz2] at h;obtain ⟨w,hw,h⟩:=Qm.1 h;obtain ⟨r,hr,h⟩:=Qm.1 h;injection h with h; subst h;obtain ⟨a,b⟩:=Qsv hr;refine ⟨by simp [a],λi x hx=>?_⟩;cases i with
  | zero=>injection hx with hx; subst hx; exact ⟨w,hw,rfl⟩
  | succ i=>exact b i x (by simpa using hx)
theorem Q36 {l:List Wt} {i:Nat} {w:Wt} (h:l[i]? = some w):Qx0 (l.take (i+1))=Qx0 (l.take i)++[wl w]:=by
 rw [Zw,h]; simp [Qx0]
abbrev crz (r0 r1:LV):List LV:=[.bool false,.nils,.bool false,.nils,.bool false,.nils,.bool false,.nils,.bool false,.nils,.nils,.int .i64 0,r0,r1]
theorem Zbs {T:Nat} {r0 r1:List (List LV)} {at_:Tm} {l:List Ct} (ha:Va at_) (hl:∀ x∈l,Cp x.p) (hn:l.length≤1000):Se Tryz.prog 171 [.one (.ow 0 0),.agg (ta at_),.one (.bool false),.one (.row (He l))] [.blk T (crz (.row r0) (.row r1))] [] [.blk T (crl ⟨at_,(Sr l).map fresh,0⟩ r0 r1)]:=by
 have cs:=Zhc (l:=l) (λx hx=>Dp.pb (hl x hx).dp) (by omega);have cl:=Q4o (b:=at_) (l:=[]) ha.tb (λt ht=>by cases ht) (by decide) rfl;have hs:(Sr l).length=l.length:=Qf6 l;refine Hn Tryz.func171 rfl ?_;refine go tt [.o 8 167 18,.c [] cs] rfl trivial ?_;refine lp (S:=Nat) 3 (λL1 i=>(15,.v (.one (.int .i64 (i:Int))))::(8,.v (.one (.orow 2 18 none)))::L1) (λi=>[.blk T (crz (.row r0) (.row r1)),.blk 74 (ta at_),.row false 167 18 (Qx0 (((Sr l).map fresh).take i))]) (λi=>l.length-i) (λi=>i<=l.length) 0 (Qg _) rfl (λ_ _=>rfl) rfl λi hi=>?_
 by_cases hlt:i<l.length
 ·obtain ⟨x,hx⟩:=gxE (l:=(Sr l)) (i:=i) (by omega);have hm:∀ y∈[wl (fresh x)],y.length=18:=λy hy=>by rw [Qj.1 hy]; rfl
  have hlt':decide ((i:Int)<((He (Sr l)).length:Int))=true:=by simp [He]; omega
  have hg:=Q36 (l:=(Sr l).map fresh) (i:=i) (w:=fresh x) (by rw [Zb,hx]; rfl);refine go tt [.t hlt',.x (Qou hx),.z 20,.f rfl,.s (sz:=18) hm] rfl (by simp [Uu,Zau]; omega) ?_;exact rd (i+1) (by omega) hlt (by rw [hg]; rfl)
 ·obtain rfl:i=l.length:=by omega
  rw [Qn (by simp; omega)];have hge:decide ((l.length:Int)<((He (Sr l)).length:Int))=false:=by simp [He]; omega
  exact ed tt [] [0] [.f hge,.p 2,.c [] cl] rfl trivial
theorem Q1z {T:Nat} {r0 r1:List (List LV)} {at_:Tm} {l:List Ct} (ha:Va at_) (hl:∀ x∈l,Cp x.p) (hn:l.length≤1000):Se Tryz.prog 130 [.one (.ow 0 0),.agg (ta at_),.one (.row (He l))] [.blk T (crz (.row r0) (.row r1))] [] [.blk T (crl ⟨at_,(Sr l).map fresh,0⟩ r0 r1)]:=by
 have cl:=Zbs (T:=T) (r0:=r0) (r1:=r1) ha hl hn;refine Hn Tryz.func130 rfl ?_;exact ed tt [] [0] [.g 12 false rfl,.c [0] cl] rfl trivial
theorem eB {a b:Bool} (h:a=b):TV.one (LV.bool a)=.one (.bool b):=h ▸ rfl
theorem Qd0:∀ {l:List (List Int)} {i:Nat} {p o:List Int},Pb p->(∀ f∈l,Pb f)->Qkg i p l=some o->Pb o
 | [],i,p,o,hp,_,h=>by simp only [Qkg] at h; injection h with h; subst h; exact hp
 |
  f::l,i,p,o,hp,hl,h=>by
  simp only [Qkg] at h
  split at h
  ·obtain ⟨q,hq,h⟩:=Qm.1 h;obtain ⟨rfl,hq'⟩:=Oi (G8 _ _) hq;exact Qd0 hq' (λf hf=>hl f (Qk _ hf)) h
  ·exact Qd0 hp (λf hf=>hl f (Qk _ hf)) h


theorem Qh8 {p:List Int} {c:List (List Int)} (hp:Pb p):∀ {k:Nat} {lo hi:Rat} {n:Int} {r:List Tm},Qb lo->Qb hi->Av p c k lo hi n=some r->∀ t∈r,Tb t
 | 0,_,_,_,_,_,_,h=>by cases h
 |
  k+1,lo,hi,n,r,hl,hh,h=>by
  simp only [Av] at h
  split at h
  ·injection h with h; subst h; exact λt ht=>by cases ht
  ·split at h
   ·injection h with h; subst h;intro t ht; rw [Qj.1 ht]; exact ⟨hp,hl,hh⟩
   ·obtain ⟨m,hm,h⟩:=Qm.1 h;obtain ⟨rfl,qm⟩:=Qvt hm;obtain ⟨x,hx,h⟩:=Qm.1 h;obtain ⟨y,hy,h⟩:=Qm.1 h;injection h with h; subst h;intro t ht;rcases Qt.1 ht with ht | ht
    ·exact Qh8 hp hl qm hx t ht
    ·exact Qh8 hp qm hh hy t ht
def U8 (l:List Pt):List (List LV):=l.map Hi
theorem Ru {l:List Pt} {i:Nat} {c:Pt} (h:l[i]? = some c):(U8 l)[i]? = some (Hi c):=Ho h
theorem Rv (l:List Pt):(U8 l).length=l.length:=by simp [U8]
theorem Qqd (l:List Pt):∀ c∈U8 l,c.length=5:=λc hc=>by
 obtain ⟨x,_,rfl⟩:=Zx.1 hc; rfl
abbrev zPt:List LV:=[.nils,.nils,.bool false,.nils,.int .i64 0]
theorem Qzv {lt:Pt->Pt->Bool} {O:List Pt} {z:List LV} {c:Pt} {k m:Nat} {l2:List (List LV)} (hk:k<=O.length) (hp:Tu lt O c O.length=k) (hm:m=O.length-k) (h2:l2.take m=((U8 O++[z]).drop k).take m) :
 ((U8 O++[z]).take (k+1)++(l2.take m++(U8 O++[z]).drop (k+1+m))).set k (Hi c)=U8 (Nm lt O c):=by
 rw [h2,<-Zi,Qsp (U8 O) z (Hi c) (by rw [Rv]; omega) (by rw [Rv]; omega)];simp [Nm,hp,U8,Yb,W6]
def Sk (t:Tm) (l:List Pt):List Pt:=Fx (Ms (Rp t)) l
theorem Zfp {l:List Pt} {t:Tm} (hl:∀ p∈l,Sc p.c) (hn:l.length≤1000000) (ht:Va t):Uw Tryz.prog 181 [.agg (ta t),.one (pts l)] [.one (pts (Sk t l))]:=by
 have hcl:=Rv l;show Uw Tryz.prog 181 [.agg (ta t),.one (.row (U8 l))] [.one (.row (U8 (Sk t l)))];obtain ⟨lt,hlt0⟩:=nmE (Ms (Rp t));unfold Sk;rw [<-hlt0];refine Hn Tryz.func181 rfl ?_;refine go tt [.o 5 135 5] rfl trivial ?_;refine lp (S:=Nat) 2 (λL1 i=>(11,.v (.one (.int .i64 (i:Int))))::(5,.v (.one (.orow 1 5 none)))::L1) (λi=>[.blk 74 (ta t),.row false 135 5 (U8 (Fx lt (l.take i)))]) (λi=>l.length-i) (λi=>i<=l.length) 0 (Qg _) rfl (λ_ _=>rfl) rfl λi hi=>?_
 by_cases hlt:i<l.length
 ·obtain ⟨c,hc⟩:=gxE (l:=l) (i:=i) hlt;have hst:Fx lt (l.take (i+1))=Nm lt (Fx lt (l.take i)) c:=Lo hc;have hcp:=hl c (Qa hc);obtain ⟨O,hO⟩:=nmE (Fx lt (l.take i));have hOl:O.length=i:=by rw [hO,H5,Qr]; omega
  have hOm:∀ x∈O,Sc x.c:=λx hx=>by rw [hO,Sx] at hx; exact hl x (Ql hx)
  rw [<-hO] at hst ⊢;refine go tt [.t (by simp [hcl]; omega),.x (Ru hc)] rfl trivial ?_;refine lp (S:=Nat) 3 (λL1 k=>(8,.v (.one (.int .i64 (k:Int))))::L1) (λk=>[.blk 74 (ta t),.row false 135 5 (U8 O),.blk 135 (Hi c)]) id (λk=>k<=O.length/\Tu lt O c k=Tu lt O c O.length) (U8 O).length ⟨by rw [Rv]; exact Qi _,by rw [Rv]⟩ rfl (λ_ _=>rfl) rfl λk ⟨hk,hp⟩=>?_
  have hz:∀ y∈[zPt],y.length=5:=λy hy=>by rw [Qj.1 hy]; rfl
  have h77:∀ y∈U8 O++[zPt],y.length=5:=λy hy=>by
   rcases Qt.1 hy with hy | hy
   ·exact Qqd O y hy
   ·exact hz y hy
  cases k with
  |
   zero =>
   have hp:Tu lt O c O.length=0:=by rw [<-hp]; rfl
   refine go tt [.g 19 false (by simp),.f rfl,.s (sz:=5) hz,.r 37 (eI (b:=((0+1:Nat):Int)) (by simp)),.i (0+1),.i (0),.s (sz:=5) (λy hy=>h77 y (Ql hy)),.i (O.length),.i (0)] rfl (by simp [Uu,Rv]; omega) ?_;exact rd (i+1) (by omega) hlt (by rw [hst,<-Qzv (z:=zPt) (l2:=(U8 O++[zPt]).take ((U8 O++[zPt]).length-0)) (k:=0) (m:=O.length) (by omega) hp (by omega) (by congr 1; exact Qn (by simp))]; rfl)
  |
   succ k =>
   obtain ⟨x,hx⟩:=gxE (l:=O) (i:=k) (by omega);have cb:=Q4q hcp (hOm x (Qa hx)) ht;rw [<-hlt0] at cb;by_cases hlc:lt c x=true
   ·refine go tt [.g 19 true (by simp),.r 23 (eI (b:=(k:Int)) (by simp)),.i k,.x (Ru hx),.c [] cb,.t hlc,.r 30 (eI (b:=(k:Int)) (by simp))] rfl (by simp [Uu,Rv]; omega) ?_;exact rd k (by simp) ⟨by omega,by rw [<-hp,Qbb hx hlc]⟩ rfl
   ·have hlc:lt c x=false:=by simpa using hlc
    have hp:Tu lt O c O.length=k+1:=by rw [<-hp,Ap hx hlc]
    refine go tt [.g 19 true (by simp),.r 23 (eI (b:=(k:Int)) (by simp)),.i k,.x (Ru hx),.c [] cb,.f hlc,.s (sz:=5) hz,.r 37 (eI (b:=((k+1+1:Nat):Int)) (by simp)),.i (k+1+1),.i (k+1),.s (sz:=5) (λy hy=>h77 y (Ze (Ql hy))),.i (O.length-(k+1)),.i (k+1)] rfl (by simp [Uu,Rv]; omega) ?_;exact rd (i+1) (by omega) hlt (by rw [hst,<-Qzv (z:=zPt) (l2:=((U8 O++[zPt]).drop (k+1)).take ((U8 O++[zPt]).length-(k+1))) (k:=k+1) (m:=O.length-(k+1)) (by omega) hp (by omega) (by congr 1; exact Qn (by simp))]; rfl)
 ·obtain rfl:i=l.length:=by omega
  rw [Q0];exact en tt [.f (by simp [hcl])] rfl rfl trivial
def Mk (sg:List Int->Int):List Pt->List Ct
 | a::b::l=>Di sg a b::Mk sg (b::l)
 | _=>[]
theorem By (sg:List Int->Int):∀ l:List Pt,(Mk sg l).length=l.length-1
 | []=>rfl
 | [_]=>rfl
 | a::b::l=>by simp only [Mk,Q7,By sg (b::l)]; omega
theorem Qf3 (sg:List Int->Int):∀ {l:List Pt} {i:Nat} {a b:Pt},l[i]? = some a->l[i+1]? = some b->(Mk sg l).take (i+1)=(Mk sg l).take i++[Di sg a b]
 | [],i,a,b,h,_=>by simp at h
 | [x],i,a,b,_,h=>by cases i <;> simp at h
 | x::y::l,0,a,b,h1,h2=>by simp at h1 h2; subst h1; subst h2; simp [Mk]
 |
  x::y::l,i+1,a,b,h1,h2=>by
  have ih:=Qf3 sg (l:=y::l) (i:=i) (a:=a) (b:=b) (by simpa using h1) (by simpa using h2);simp only [Mk,J8] at ih ⊢;rw [ih]; rfl

def Qgy (now:Tm):List Wt->Option (List Wt)
 | []=>some []
 | w::l=>(if w.known=true then some w else (Qm3 w.c.p now).bind λr=>some ⟨w.c,true,r⟩).bind λw'=>(Qgy now l).bind λr=>some (w'::r)
theorem Qmw {now:Tm}:∀ {l ws:List Wt},Qgy now l=some ws->ws.length=l.length/\∀ (i:Nat) (w:Wt),l[i]? = some w->∃ v,ws[i]? = some v/\(w.known=true/\v=w\/w.known=false/\∃ r,Qm3 w.c.p now=some r/\v=⟨w.c,true,r⟩)
 | [],ws,h=>by injection h with h; subst h; exact ⟨rfl,λi x hx=>by simp at hx⟩
 |
  y::l,ws,h=>by
  simp only [Qgy] at h;obtain ⟨v,hv,h⟩:=Qm.1 h;obtain ⟨r,hr,h⟩:=Qm.1 h;injection h with h; subst h;obtain ⟨a,b⟩:=Qmw hr;refine ⟨by simp [a],λi x hx=>?_⟩;cases i with
  |
   zero =>
   injection hx with hx; subst hx;refine ⟨v,rfl,?_⟩
   split at hv
   ·rename_i hk; injection hv with hv; exact .inl ⟨hk,hv.symm⟩
   ·rename_i hk;obtain ⟨q,hq,hv⟩:=Qm.1 hv;injection hv with hv;exact .inr ⟨by simpa using hk,q,hq,hv.symm⟩
  | succ i=>exact b i x (by simpa using hx)
def Zim (ws:List Wt):Option (Option Tm):=match ws.filterMap (·.fails) with
 | []=>some none
 | b::l=>(Io b l).map some
theorem Zdf {c:Cr} {ws:List Wt} (hc:CrOk c) (h:Qgy c.now c.l=some ws):CrOk { c with l:=ws }:=by
 obtain ⟨h1,h2⟩:=Qmw h;refine ⟨hc.n,λv hv=>?_,by show ws.length<=1000; rw [h1]; exact hc.k⟩;obtain ⟨i,hi⟩:=Yg hv;have hil:i<c.l.length:=by rw [<-h1]; exact (Qc.1 hi).1
 obtain ⟨v',h3,h4⟩:=h2 i _ (Qe hil);rw [hi] at h3; injection h3 with h3; subst h3;have hw:=hc.l _ (X7 hil);rcases h4 with ⟨_,rfl⟩ | ⟨_,r,k2,rfl⟩
 ·exact hw
 ·obtain ⟨r',r1,r2⟩:=Q8b hw.p hc.n;rw [k2] at r1; injection r1 with r1; subst r1;refine ⟨hw.p,λt ht=>?_⟩;have ht:r=some t:=ht;subst ht;exact r2.2.1
theorem Qss {at_:Tm} {x:Ct}:∀ {l:List Wt} {w:Wt},Qgu l x at_=some w->w=fresh x\/∃ v∈l,v.known=true/\v.c.p=x.p/\w=⟨x,true,v.fails⟩/\∀ t,v.fails=some t->∃ c,Qlg t at_=some c/\0<c
 | [],w,h=>by simp only [Qgu] at h; injection h with h; exact .inl h.symm
 |
  v::l,w,h=>by
  simp only [Qgu] at h;have tl:Qgu l x at_=some w->w=fresh x\/∃ v'∈v::l,v'.known=true/\v'.c.p=x.p/\w=⟨x,true,v'.fails⟩/\∀ t,v'.fails=some t->∃ c,Qlg t at_=some c/\0<c:=λh=>by
   rcases Qss h with h | ⟨v',h1,h2⟩
   ·exact .inl h
   ·exact .inr ⟨v',Qk _ h1,h2⟩
  split at h
  ·rename_i hk;cases hf:v.fails with
   |
    none =>
    rw [hf] at h;injection h with h;exact .inr ⟨v,Qx ..,hk.2.1,hk.2.2,by rw [hf]; exact h.symm,λt ht=>by rw [hf] at ht; cases ht⟩
   |
    some t =>
    rw [hf] at h;obtain ⟨c,c1,h⟩:=Qm.1 h
    split at h
    ·rename_i h0;injection h with h;exact .inr ⟨v,Qx ..,hk.2.1,hk.2.2,by rw [hf]; exact h.symm,λu hu=>by rw [hf] at hu; injection hu with hu; subst hu; exact ⟨c,c1,h0⟩⟩
    ·exact tl h
  ·exact tl h
theorem Qwf {c:Cr} {at_:Tm} {l:List Ct} {ws:List Wt} (ev:Int) (hc:CrOk c) (ha:Va at_) (hl:∀ x∈l,Cp x.p) (hn:l.length≤1000) (h:Qz2 c.l at_ (Sr l)=some ws):CrOk ⟨at_,ws,ev⟩:=by
 obtain ⟨h1,h2⟩:=Qsv h;refine ⟨ha,λw hw=>?_,by show ws.length<=1000; rw [h1,Qf6]; exact hn⟩;obtain ⟨i,hi⟩:=Yg hw;have hil:i<(Sr l).length:=by rw [<-h1]; exact (Qc.1 hi).1
 obtain ⟨v,h3,h4⟩:=h2 i _ (Qe hil);rw [hi] at h4; injection h4 with h4; subst h4;have hx:=hl _ (Q3s (X7 hil));rcases Qss h3 with e | ⟨v,v1,_,v3,e,_⟩
 ·rw [e]; exact ⟨hx,λt ht=>by cases ht⟩
 ·rw [e]; exact ⟨hx,λt ht=>(hc.l v v1).f t ht⟩
structure BuildOk (Bc:Tm->List Ct):Prop where
 p:∀ a,Va a->∀ x∈Bc a,Cp x.p
 n:∀ a,Va a->(Bc a).length<=1000
def bcS (l:List Pt) (a:Tm):List Ct:=Mk (Rp a) (Sk a l)
theorem Mj {t:Tm} {l:List Pt} {p:Pt}:p∈Sk t l↔p∈l:=by
 unfold Sk Fx; rw [Qcd]; simp
theorem Qaj (t:Tm) (l:List Pt):(Sk t l).length=l.length:=H5 _ _

abbrev idl (l:List Int):List (List LV):=l.map λ(z:Int)=>[.int .i64 z]
theorem Qdo {l:List Int} {i:Nat} {z:Int} (h:l[i]? = some z):(idl l)[i]? = some [.int .i64 z]:=Ho h
theorem Zhb {a b:List Int} (ha:a.length<=1000000) (hb:b.length<=1000000):Uw Tryz.prog 77 [.one (ids a),.one (ids b)] [.one (.bool (decide (a=b)))]:=by
 show Uw Tryz.prog 77 [.one (.row (idl a)),.one (.row (idl b))] _;have la:(idl a).length=a.length:=by simp
 have lb:(idl b).length=b.length:=by simp
 refine Hn Tryz.func77 rfl ?_;by_cases hl:a.length=b.length
 ·refine go tt [.f (by simp; omega)] rfl trivial ?_;refine lp (S:=Nat) 0 (λL1 i=>(5,.v (.one (.int .i64 (i:Int))))::L1) (λ_=>[]) (λi=>a.length-i) (λi=>i<=a.length/\a.take i=b.take i) 0 ⟨Qg _,rfl⟩ rfl (λ_ _=>rfl) rfl λi ⟨hi,he⟩=>?_
  by_cases hlt:i<a.length
  ·obtain ⟨x,hx⟩:=gxE (l:=a) (i:=i) hlt;obtain ⟨y,hy⟩:=gxE (l:=b) (i:=i) (by omega);by_cases e:x=y
   ·refine go tt [.t (by simp; omega),.x (Qdo hx),.x (Qdo hy),.f (by simpa using e)] rfl (by simp [Uu]; omega) ?_;exact rd (i+1) (by omega) ⟨hlt,by rw [Zw,Zw,hx,hy,he,e]⟩ rfl
   ·have hne:a≠b:=λh=>by rw [h,hy] at hx; injection hx with hx; exact e hx.symm
    exact en tt [.t (by simp; omega),.x (Qdo hx),.x (Qdo hy),.t (by simpa using e)] rfl (by simp [hne]) trivial
  ·obtain rfl:i=a.length:=by omega
   have hab:a=b:=by rw [Q0] at he; rw [he,hl,Q0]
   exact en tt [.f (by simp)] rfl (by simp [hab]) trivial
 ·have hne:a≠b:=λh=>hl (by rw [h])
  exact en tt [.t (by simp; omega)] rfl (by simp [hne]) trivial
def I9 (v n:Int):Int:=if n<1 then 0 else v.emod n
theorem Q30 {v n:Int} (h:0<n):(if v.tmod n<0 then v.tmod n+n else v.tmod n)=v % n:=by
 have h3:=Yv v (show n≠0 by omega);have h4:=Yc v h;have h1:=Int.tmod_eq_emod (a:=v) (b:=n);have hn:((n.natAbs:Nat):Int)=n:=by omega
 split at h1
 ·rw [h1]; simp; omega
 ·rename_i hc;rw [h1,hn];have:v % n≠0:=λe=>hc (.inr (Yn e))
  rw [if_pos (by omega)]; omega
theorem Qc4 {v n:Int} (hv:-9223372036854775808<=v/\v<=9223372036854775807) (hn:n<=1000000000):Uw Tryz.prog 53 [.one (.int .i64 v),.one (.int .i64 n)] [.one (.int .i64 (I9 v n))]:=by
 unfold I9;by_cases h:n<1
 ·rw [if_pos h];exact w tt Tryz.func53 rfl [.t (by simpa using h)] rfl rfl trivial
 ·rw [if_neg h];have e:=Q30 (v:=v) (n:=n) (by omega);have h3:=Yv v (show n≠0 by omega);have h4:=Yc v (show 0<n by omega);show Uw Tryz.prog 53 [.one (.int .i64 v),.one (.int .i64 n)] [.one (.int .i64 (v % n))];by_cases h0:v.tmod n<0
  ·rw [if_pos h0] at e;have b:-n<=v.tmod n:=by omega
   exact w tt Tryz.func53 rfl [.f (by simpa using h),.t (by simpa using h0)] rfl (by rw [e]) (by simp [Uu]; omega)
  ·rw [if_neg h0] at e;exact w tt Tryz.func53 rfl [.f (by simpa using h),.f (by simpa using h0)] rfl (by rw [e]) (by simp [Uu]; omega)
end Orr
namespace Orr
open Go Go.Proofs
set_option maxRecDepth 10000
def frow (p:List Rat):List (List LV):=p.map fr
theorem Tn (p:List Rat):(frow p).length=p.length:=by simp [frow]
theorem Lc {p:List Rat} {i:Nat} {q:Rat} (h:p[i]? = some q):(frow p)[i]? = some (fr q):=Ho h
theorem Qmk (p:List Rat) (q:Rat):frow (p++[q])=frow p++[fr q]:=by simp [frow]
theorem Qfg (p:List Rat):∀ c∈frow p,c.length=4:=λc hc=>by obtain ⟨x,_,rfl⟩:=Zx.1 hc; rfl
abbrev rp (p:List Rat):LV:=.row (frow p)
theorem Qws (q:Rat):∀ c∈[fr q],c.length=4:=λc hc=>by rw [Qj.1 hc]; rfl
theorem Q5i:Uw Tryz.prog 204 [] [.agg (fr 0)]:=w tt Tryz.func204 rfl [.c [] (Qir (n:=0) (by decide))] rfl rfl trivial
theorem Og {p:List Rat}:Uw Tryz.prog 87 [.one (rp p)] [.one (rp (Bl p))]:=by
 refine Hn Tryz.func87 rfl (ln 0 rfl rfl λhl=>?_);rw [Tn] at hl;have Dv:=Tn p;refine go tt [] rfl trivial ?_;refine lp (S:=Nat) 0 (λL1 n=>(3,.v (.one (.int .i64 (n:Int))))::L1) (λ_=>[]) id (λn=>n<=p.length/\∀ j x,n<=j->p[j]? = some x->x=0) (frow p).length ⟨by rw [Dv]; exact Qi _,λj x h1 h2=>by
  have:=(Qc.1 h2).1; rw [Dv] at h1; omega⟩ rfl (λ_ _=>rfl) rfl λn hs=>?_
 obtain ⟨h1,h2⟩:=hs;cases n with
 |
  zero =>
  have e:=Qf5 h1 (λj x h=>h2 j x h) (λh=>absurd h (by decide));exact en tt [.g 8 false (by simp),.f rfl,.i 0] rfl (by rw [e]; rfl) (by simp [Uu])
 |
  succ n =>
  obtain ⟨x,hx⟩:=gxE (l:=p) (i:=n) (by omega);have hn:=Rat.num_eq_zero (q:=x);by_cases h0:x=0
  ·refine go tt [.g 8 true (by simp),.r 11 (eI (b:=(n:Int)) (by simp)),.x (Lc hx),.c [] (Mm (z:=x.num)),.t (decide_eq_true (hn.2 h0)),.r 18 (eI (b:=(n:Int)) (by simp))] rfl (by simp [Uu]; omega) ?_;exact rd n (by simp) ⟨by omega,λj y h3 h4=>by
    rcases Vn h3 with rfl | h3
    ·rw [hx] at h4; injection h4 with h4; rw [<-h4,h0]
    ·exact h2 j y h3 h4⟩ rfl
  ·have e:=Qf5 h1 (λj x h=>h2 j x h) (λ_=>⟨x,hx,h0⟩);exact en tt [.g 8 true (by simp),.r 11 (eI (b:=(n:Int)) (by simp)),.x (Lc hx),.c [] (Mm (z:=x.num)),.f (decide_eq_false λh=>h0 (hn.1 h)),.i (n+1)] rfl (by rw [e]; simp [rp,frow,Yb]) (by simp [Uu,Dv] <;> omega)
theorem Zfs {p:List Rat} {i:Nat} (hi:i<1099511627776):Uw Tryz.prog 205 [.one (rp p),.one (.int .i64 (i:Int))] [.agg (fr (p.getD i 0))]:=by
 have Dv:=Tn p;by_cases h:i<p.length
 ·have e:p.getD i 0=p[i]:=by rw [Qf,Qe h]; rfl
  rw [e];exact w tt Tryz.func205 rfl [.g 7 false (decide_eq_false (by omega)),.f (decide_eq_false (by omega)),.x (Lc (Qe h))] rfl rfl trivial
 ·have e:p.getD i 0=0:=by rw [Qf,Qu (by omega)]; rfl
  rw [e];exact w tt Tryz.func205 rfl [.g 7 false (decide_eq_false (by omega)),.t (decide_eq_true (by omega)),.c [] Q5i] rfl rfl trivial
theorem Qvn:Uw Tryz.prog 140 [.one (ids [1])] [.one (rp (zp [1]))]:=by
 have cc:=Og (p:=zp [1]);rw [Bb,show trim [1]=[1] from rfl] at cc;refine Hn Tryz.func140 rfl ?_;refine go tt [.o 3 35 4] rfl trivial ?_;refine lp (S:=Nat) 1 (λL1 i=>(7,.v (.one (.int .i64 (i:Int))))::(3,.v (.one (.orow 0 4 none)))::L1) (λi=>[.row false 35 4 (frow ((zp [1]).take i))]) (λi=>1-i) (λi=>i<=1) 0 (by decide) rfl (λ_ _=>rfl) rfl λi hi=>?_
 rcases (show i=0\/i=1 by omega) with rfl | rfl
 ·refine go tt [.t rfl,.x (l:=idl [1]) (i:=0) (xs:=[.int .i64 1]) rfl,.c [] (Qir (n:=1) (by decide)),.s (sz:=4) (Qws _)] rfl (by simp [Uu,frow]) ?_;exact rd 1 (by omega) (by omega) rfl
 ·exact en tt [.f rfl,.c [] cc] rfl rfl trivial
theorem Qax {p:List Int} (hb:Bd 90000000 p) (hl:p.length<=1000000):Uw Tryz.prog 23 [pr p] [.one (rp (zp (trim p)))]:=by
 have Dv:(p.map Hg).length=p.length:=by simp
 have cc:=Og (p:=zp p);rw [Bb] at cc;show Uw Tryz.prog 23 [.one (.row (p.map Hg))] _;refine Hn Tryz.func23 rfl ?_;refine go tt [.o 3 35 4] rfl trivial ?_;refine lp (S:=Nat) 1 (λL1 i=>(7,.v (.one (.int .i64 (i:Int))))::(3,.v (.one (.orow 0 4 none)))::L1) (λi=>[.row false 35 4 (frow (zp (p.take i)))]) (λi=>p.length-i) (λi=>i<=p.length) 0 (Qg _) rfl (λ_ _=>rfl) rfl λi hi=>?_
 have hol:(frow (zp (p.take i))).length=i:=by rw [Tn,T0,Qr]; omega
 by_cases h:i<p.length
 ·obtain ⟨z,hz⟩:=gxE (l:=p) (i:=i) h;have hzb:=hb z (Qa hz);have hg:frow (zp (p.take (i+1)))=frow (zp (p.take i))++[fr (z:Rat)]:=by
   rw [Zw,hz]; simp [frow,zp]
  refine go tt [.t (decide_eq_true (by omega)),.x (Ho (f:=Hg) hz),.c [] (Qoc (z:=z) (by omega)),.c [] (C5 (n:=1) (by decide)),.c [] (Mc (n:=z)),.s (sz:=4) (Qws _)] rfl (by simp [Uu,hol,-List.getD_eq_getElem?_getD]; omega) ?_;exact rd (i+1) (by omega) h (by rw [hg]; rfl)
 ·have e:i=p.length:=by omega
  rw [e,Q0];exact en tt [.f (decide_eq_false (by omega)),.c [] cc] rfl rfl trivial
theorem Zfr {p:List Int} (hb:Bd 90000000 p) (hl:p.length<=1000000):Uw Tryz.prog 289 [.one (rp (zp p))] [pr p]:=by
 have Dv:(frow (zp p)).length=p.length:=by rw [Tn,T0]
 show Uw Tryz.prog 289 [.one (rp (zp p))] [.one (.row (p.map Hg))];refine Hn Tryz.func289 rfl ?_;refine go tt [.o 3 51 2] rfl trivial ?_;refine lp (S:=Nat) 1 (λL1 i=>(7,.v (.one (.int .i64 (i:Int))))::(3,.v (.one (.orow 0 2 none)))::L1) (λi=>[.row false 51 2 ((p.take i).map Hg)]) (λi=>p.length-i) (λi=>i<=p.length) 0 (Qg _) rfl (λ_ _=>rfl) rfl λi hi=>?_
 have hol:((p.take i).map Hg).length=i:=by rw [Zc,Qr]; omega
 by_cases h:i<p.length
 ·obtain ⟨z,hz⟩:=gxE (l:=p) (i:=i) h;have hzb:=hb z (Qa hz);have hq:∀ c∈[Hg z],c.length=2:=λc hc=>by rw [Qj.1 hc]; rfl
  have hg:(p.take (i+1)).map Hg=(p.take i).map Hg++[Hg z]:=by
   rw [Zw,hz]; simp
  refine go tt [.t (decide_eq_true (by omega)),.x (Lc (Za3 hz)),.c [] (Q5d (z:=z) (by omega)),.s (sz:=2) hq] rfl (by simp [Uu]; omega) ?_;exact rd (i+1) (by omega) h (by rw [hg]; rfl)
 ·have e:i=p.length:=by omega
  rw [e,Q0];exact en tt [.f (decide_eq_false (by omega))] rfl rfl trivial
theorem Qvi {p q:List Rat} (hp:Rb 20000000 p) (hq:Rb 20000000 q) (hlp:p.length<=1000000) (hlq:q.length<=1000000):Uw Tryz.prog 143 [.one (rp p),.one (rp q)] [.one (rp (Q3n p q))]:=by
 have h1:=Tn p;have h2:=Tn q;obtain ⟨M,hM⟩:=nmE (max p.length q.length);have cc:=Og (p:=I8 (λi=>p.getD i 0+q.getD i 0) M);unfold Q3n;rw [<-hM];refine Hn Tryz.func143 rfl ?_;refine go tt [.o 5 35 4] rfl trivial ?_;refine lp (S:=Nat) 1 (λL1 i=>(6,.v (.one (.int .i64 (i:Int))))::(5,.v (.one (.orow 0 4 none)))::L1) (λi=>[.row false 35 4 (frow (I8 (λi=>p.getD i 0+q.getD i 0) i))]) (λi=>M-i) (λi=>i<=M) 0 (Qg _) rfl (λ_ _=>rfl) rfl λi hi=>?_
 have hol:(frow (I8 (λi=>p.getD i 0+q.getD i 0) i)).length=i:=by rw [Tn,Qek]
 by_cases h:i<M
 ·refine go tt [.r 12 (eI (b:=(M:Int)) (by omega)),.t (decide_eq_true (by omega)),.c [] (Zfs (p:=p) (i:=i) (by omega)),.c [] (Zfs (p:=q) (i:=i) (by omega)),.c [] (Q4p (hp.getD (by decide) i) (hq.getD (by decide) i)),.s (sz:=4) (Qws _)] rfl (by simp [Uu,hol,-List.getD_eq_getElem?_getD]; omega) ?_;exact rd (i+1) (by omega) h (by rw [Qn0,Qmk]; rfl)
 ·have e:i=M:=by omega
  rw [e];exact en tt [.r 12 (eI (b:=(M:Int)) (by omega)),.f (decide_eq_false (by omega)),.c [] cc] rfl rfl trivial
theorem Ex {p:List Rat} {c:Rat} (hp:Rb 40000000 p) (hc:Qs 40000000 c) (hlp:p.length<=1000000):Uw Tryz.prog 203 [.one (rp p),.agg (fr c)] [.one (rp (Mb p c))]:=by
 have h1:=Tn p;have cc:=Og (p:=I8 (λi=>p.getD i 0*c) p.length);unfold Mb;refine Hn Tryz.func203 rfl ?_;refine go tt [.o 5 35 4] rfl trivial ?_;refine lp (S:=Nat) 2 (λL1 i=>(9,.v (.one (.int .i64 (i:Int))))::(5,.v (.one (.orow 1 4 none)))::L1) (λi=>[.blk 35 (fr c),.row false 35 4 (frow (I8 (λi=>p.getD i 0*c) i))]) (λi=>p.length-i) (λi=>i<=p.length) 0 (Qg _) rfl (λ_ _=>rfl) rfl λi hi=>?_
 have hol:(frow (I8 (λi=>p.getD i 0*c) i)).length=i:=by rw [Tn,Qek]
 by_cases h:i<p.length
 ·have hg:p[i]? = some (p.getD i 0):=by rw [Qf,Qe h]; rfl
  refine go tt [.t (decide_eq_true (by omega)),.x (Lc hg),.c [] (Q4z (hp.getD (by decide) i) hc),.s (sz:=4) (Qws _)] rfl (by simp [Uu,hol,-List.getD_eq_getElem?_getD]; omega) ?_;exact rd (i+1) (by omega) h (by rw [Qn0,Qmk]; rfl)
 ·have e:i=p.length:=by omega
  rw [e];exact en tt [.f (decide_eq_false (by omega)),.c [] cc] rfl rfl trivial
theorem Qvm {p:List Rat} (hp:Rb 40000000 p) (hlp:p.length<=1000000):Uw Tryz.prog 137 [.one (rp p)] [.one (rp (Qqb p))]:=by
 have cs:=Ex (p:=p) (c:=-1) hp ⟨by decide,by decide⟩ hlp;have co:=Qir (n:=-1) (by decide);rw [show ((-1:Int):Rat)=-1 from rfl] at co;exact w tt Tryz.func137 rfl [.c [] co,.c [] cs] rfl rfl trivial
theorem Zee {s t:Nat} {a b:Rat} (ha:Qs s a) (hb:Qs t b):Qs (s+t+1) (a*b):=by
 rw [<-Qmy];unfold Gx;rw [if_neg (Jr (Bs a) (Bs b))];have h1:=Ft a.num b.num;have h2:=Ft (a.den:Int) (b.den:Int);have:=ha.1; have:=ha.2; have:=hb.1; have:=hb.2;exact Qs.divInt (by omega) (by omega) (by omega)
theorem Q9f {s:Nat} {p:List Rat} (hp:Rb s p):Rb (s+2) (Qqb p):=by
 unfold Qqb Mb;refine Rb.trim (Ze5 λi hi=>?_);have h1:Qs (s+0) (p.getD i 0):=by
  have hi:i<p.length:=hi;rw [Qf,Qe hi];exact hp _ (X7 hi)
 have:=Zee h1 (show Qs 1 (-1:Rat) from ⟨by decide,by decide⟩);exact this.mono (by omega)
theorem Qtw (p:List Rat):(Qqb p).length<=p.length:=by
 unfold Qqb Mb;exact Qd (Qnr _) (by rw [Qek]; exact Qi _)
theorem Qvo {p q:List Rat} (hp:Rb 19000000 p) (hq:Rb 19000000 q) (hlp:p.length<=1000000) (hlq:q.length<=1000000):Uw Tryz.prog 144 [.one (rp p),.one (rp q)] [.one (rp (Qk0 p q))] :=
 w tt Tryz.func144 rfl [.c [] (Qvm (hq.mono (by decide)) hlq),.c [] (Qvi (hp.mono (by decide)) ((Q9f hq).mono (by decide)) hlp (Qd (Qtw q) hlq))] rfl rfl trivial
end Orr
