/- T18 T19 T20 T21 T22 T23 T24 T25 G1 G2 SortL KinL K1 K2 F6 F7 -/
import Derived.Test.YtkkhemmhhedniaaGreatPart06
import Derived.Test.YtkkhemmhhedniaaGreatPart00
import Derived.Test.YtkkhemmhhedniaaGreatPart05
set_option linter.all false
namespace Orq
open Orr Go
theorem Lq {p:List Int} (h1:p.length<=64) (h2:Bd 16777216 p):chk p=some p:=by
 unfold chk;rw [if_pos ⟨h1,Yt.2 λz hz=>Nat.ble_eq_true_of_le (h2 z hz)⟩]
theorem Qnq {a b:List Int} {g:List Rat} {c:Rat} (hc:c≠0) (h:∀ t,Uy a t=c*Uy b t):O3 g (cz a)↔O3 g (cz b):=by
 constructor
 ·rintro ⟨u,hu⟩
  refine ⟨Cx (1 / c) u,λt=>?_⟩;have h1:=hu t;rw [Uz,h] at h1;rw [Uz,Ga];have h2:1 / c*c=1:=Zk hc;have:Uy b t=1 / c*(c*Uy b t):=by grind
  rw [this,h1]; grind
 ·rintro ⟨u,hu⟩
  refine ⟨Cx c u,λt=>?_⟩;have h1:=hu t;rw [Uz] at h1;rw [Uz,Ga,h,h1]; grind
structure Gc (g a b:List Int):Prop where
 t:U0 g
 da:O3 (cz g) (cz a)
 db:O3 (cz g) (cz b)
 c:∃ U V,∀ t,Uy g t=ev U t*Uy a t+ev V t*Uy b t
 n:g.length≠0
theorem Gc.scale {g a b g' a' b':List Int} {x y z:Rat} (h:Gc g a b) (hx:x≠0) (hy:y≠0) (hz:z≠0) (tg:U0 g') (eg:∀ t,Uy g t=x*Uy g' t) (ea:∀ t,Uy a' t=y*Uy a t) (eb:∀ t,Uy b' t=z*Uy b t):Gc g' a' b':=by
 have hx1:1 / x*x=1:=Zk hx;have hy1:1 / y*y=1:=Zk hy;have hz1:1 / z*z=1:=Zk hz;have hg:∀ c,O3 (cz g) c->O3 (cz g') c:=λc ⟨u,hu⟩=>⟨Cx x u,λt=>by rw [hu,Uz,Uz,eg,Ga]; grind⟩
 obtain ⟨U,V,hc⟩:=h.c;refine ⟨tg,hg _ ((Qnq hy ea).2 h.da),hg _ ((Qnq hz eb).2 h.db),⟨Cx (1 / x*(1 / y)) U,Cx (1 / x*(1 / z)) V,λt=>?_⟩,?_⟩
 ·have h1:=hc t;have h2:Uy g' t=1 / x*Uy g t:=by rw [eg]; grind
  rw [h2,h1,Ga,Ga,ea,eb];generalize ev U t=u at *;generalize ev V t=v at *;grind
 ·rw [<-Oh h.t tg hx eg]; exact h.n
theorem Zk2:∀ d:Nat,1<=d->d+2<=3^d
 | 0,h=>by omega
 | 1,_=>by decide
 | d+2,_=>by have:=Zk2 (d+1) (by omega); rw [Zo]; omega
theorem Qvy {k:Nat} {a b:List Int} (ta:U0 a) (tb:U0 b) (hb:b.length≠0) (hl:a.length<=60) (hbl:b.length<=60) (hr:Bd 16777216 (Rp a b)) (ih:∃ g,Qg6 k b (Rp a b)=some g/\Gc g b (Rp a b)):∃ g,Qg6 (k+1) a b=some g/\Gc g a b:=by
 obtain ⟨h1,h2,h3,u,v,up,vp,X,hX⟩:=Qi8 ta tb hb hl;obtain ⟨g,e,hg⟩:=ih;refine ⟨g,?_,?_⟩
 ·simp only [Qg6];rw [if_neg hb,Lq (by omega) hr]; exact e
 ·obtain ⟨U,V,hc⟩:=hg.c;obtain ⟨y,hy⟩:=hg.da;obtain ⟨z,hz⟩:=hg.db;have hu:1 / u*u=1:=G0 up;have hv:1 / v*v=1:=G0 vp;refine ⟨hg.t,⟨Cx (1 / u) (Tw (Gq X y) (Cx v z)),λt=>?_⟩,hg.da,⟨Cx (u / v) V,Tw U (Cx (-1 / v) (Gq V X)),λt=>?_⟩,hg.n⟩
  ·have a1:=hX t; have a2:=hy t; have a3:=hz t;rw [Uz,Uz] at a2 a3;rw [Uz,Uz,Ga,Gk,U4,Ga];have:Uy a t=1 / u*(u*Uy a t):=by grind
   rw [this,a1,a2,a3]; grind
  ·have a1:=hX t; have a2:=hc t;rw [Ga,Gk,Ga,U4,a2];have:Uy (Rp a b) t=1 / v*(v*Uy (Rp a b) t):=by grind
   rw [this,show v*Uy (Rp a b) t=u*Uy a t-ev X t*Uy b t by grind,Js,Js,Js];grind
theorem Q3b {k:Nat} {a:List Int} (ta:U0 a) (ha:a.length≠0):∃ g,Qg6 (k+1) a []=some g/\Gc g a [] :=
 ⟨a,rfl,ta,dvd_refl _,⟨[],λt=>by simp only [cz,Ji,ev]; grind⟩,⟨[1],[],λt=>by rw [Rr]; simp only [ev]; grind⟩,ha⟩
theorem Qg7 {s:Nat}:∀ (k:Nat) (a b:List Int),U0 a->U0 b->b.length<k->b.length<a.length->a.length<=60->Bd s a->Bd s b->(s+8)*3^(a.length-1)<=16777216->∃ g,Qg6 k a b=some g/\Gc g a b
 | 0,_,_,_,_,h,_,_,_,_,_=>by omega
 |
  k+1,a,b,ta,tb,hk,hab,hl,ba,bb,hs=>by
  by_cases hb:b.length=0
  ·rw [Qi hb]; exact Q3b ta (by omega)
  ·obtain ⟨h1,h2,h3,_⟩:=Qi8 ta tb hb hl;have h3:=h3 s ba bb;obtain ⟨m,hm⟩:=nmE (a.length-b.length);have e1:a.length+1-b.length=m+1:=by omega
   rw [e1] at h3;have e2:s+(m+1)*(s+8)+8=(m+2)*(s+8):=by
    rw [show m+2=(m+1)+1 by omega,Z7 (m+1)]; omega
   have e3:(m+2)*(s+8)*3^(b.length-1)<=(s+8)*3^(a.length-1):=by
    rw [show a.length-1=m+(b.length-1) by omega,Xb,<-Xg,Zj (s+8)];exact Q0 _ (Q0 _ (Zk2 m (by omega)))
   have e4:s+(m+1)*(s+8)<=16777216:=by
    have:(m+2)*(s+8)<=(m+2)*(s+8)*3^(b.length-1):=J0 _ (Z2 (by decide));omega
   refine Qvy ta tb hb hl (by omega) (Ut h3 e4) (Qg7 (s:=s+(m+1)*(s+8)) k b (Rp a b) tb h1 (by omega) h2 (by omega) (Ut bb (by omega)) h3 ?_);rw [e2]; omega
def Szz (n s:Nat):Prop:=n<=10/\2*(s+8)*3^(n-1)<=16777216
theorem Zcs {n s:Nat} (hz:Szz n s) {a b:List Int} (ta:U0 a) (tb:U0 b) (la:a.length<=n) (lb:b.length<=n) (ba:Bd s a) (bb:Bd s b) (h0:a.length≠0\/b.length≠0):∃ g,Qg6 66 a b=some g/\Gc g a b:=by
 obtain ⟨hn,hz⟩:=hz;have hp:∀ l,l<=n->(s+8)*3^(l-1)<=8388608:=λl hl=>by
  have:(s+8)*3^(l-1)<=(s+8)*3^(n-1):=Zs _ (Zx (by decide) (by omega));rw [Xg] at hz; omega
 rcases Za b.length a.length with h | h
 ·exact Qg7 66 a b ta tb (by omega) h (by omega) ba bb (by have:=hp a.length la; omega)
 ·by_cases hb:b.length=0
  ·rw [Qi hb]; exact Q3b ta (by omega)
  ·obtain ⟨h1,h2,h3,_⟩:=Qi8 ta tb hb (by omega);have h3:=h3 s ba bb;have h4:(a.length+1-b.length)*(s+8)<=1*(s+8):=Q0 _ (by omega);have h5:=hp b.length lb;have h6:(s+8)*1<=(s+8)*3^(b.length-1):=Zs _ (Z2 (by decide));refine Qvy ta tb hb (by omega) (by omega) (Ut h3 (by omega)) (Qg7 (s:=2*s+8) 65 b (Rp a b) tb h1 (by omega) h2 (by omega) (Ut bb (by omega)) (Ut h3 (by omega)) ?_);rw [show 2*s+8+8=2*(s+8) by omega,Xg]; omega
theorem Qos:U7 []=[]:=rfl
theorem Qew {a:List Int} (ta:U0 a):U0 (U7 a)/\(U7 a).length=a.length/\(∀ s,Bd s a->Bd s (U7 a))/\∃ c:Rat,c≠0/\∀ t,Uy a t=c*Uy (U7 a) t:=by
 by_cases h:a.length=0
 ·rw [Qi h];exact ⟨rfl,rfl,λs _=>O7,1,by decide,λt=>by rw [Qos]; grind⟩
 ·obtain ⟨h1,h2,h3,h4,h5,h6,h7⟩:=Be ta h;exact ⟨h1,h2,h5,_,Qas h6,h7⟩
theorem Qdm {n s:Nat} (hz:Szz n s) {a b:List Int} (ta:U0 a) (tb:U0 b) (la:a.length<=n) (lb:b.length<=n) (ba:Bd s a) (bb:Bd s b) (h0:a.length≠0\/b.length≠0):∃ g,Qbb a b=some g/\Gc g a b/\Prm g/\0<Fa g:=by
 obtain ⟨a1,a2,a3,x,xn,ax⟩:=Qew ta;obtain ⟨b1,b2,b3,y,yn,bx⟩:=Qew tb;obtain ⟨g,e,hg⟩:=Zcs hz a1 b1 (by omega) (by omega) (a3 s ba) (b3 s bb) (by omega);obtain ⟨g1,g2,g3,g4,g5,g6,g7⟩:=Be hg.t hg.n;refine ⟨U7 g,?_,hg.scale (Qas g6) xn yn g1 g7 ax bx,g3,g4⟩;unfold Qbb; rw [e]; rfl
theorem Q5t {a:List Int} (ta:U0 a):Qbb [] a=some (U7 (U7 a)):=by
 unfold Qbb;rw [Qos];by_cases h:(U7 a).length=0
 ·have e:U7 a=[]:=Qi h;rw [e]; rfl
 ·have e:Rp [] (U7 a)=[]:=by
   have e1:Pn [] (U7 a)=[]:=by unfold Pn; rw [show ([]:List Int).length+1-(U7 a).length=0 by simp; omega]; rfl
   unfold Rp;rw [e1];unfold Ni
   split <;> rfl
  have:Qg6 66 [] (U7 a)=some (U7 a):=by
   show (if (U7 a).length=0 then _ else _)=_;rw [if_neg h,e]; rfl
  rw [this]; rfl
theorem Q9g {n s:Nat} (hz:Szz n s) {a b:List Int} (ta:U0 a) (tb:U0 b) (la:a.length<=n) (lb:b.length<=n) (ba:Bd s a) (bb:Bd s b) (h0:a.length≠0):∃ g,Qre a b=some g/\Gc g a b/\Prm g/\0<Fa g:=by
 obtain ⟨a1,a2,a3,x,xn,ax⟩:=Qew ta;obtain ⟨b1,b2,b3,y,yn,bx⟩:=Qew a1;obtain ⟨g,e,hg,h1,h2⟩:=Qdm hz b1 tb (by omega) lb (b3 s (a3 s ba)) bb (by omega);refine ⟨g,?_,hg.scale (x:=1) (y:=x*y) (z:=1) (by decide) (λh=>(Y0.1 h).elim xn yn) (by decide) hg.t (λt=>by grind) (λt=>by rw [ax,bx]; grind) (λt=>by grind),h1,h2⟩;unfold Qre;rw [Q5t ta]; exact e
theorem Q29:∀ {p q:List Rat} {m n:Nat},HD p m->HD q n->(Gq p q).getD (m+n) 0=p.getD m 0*q.getD n 0
 | [],q,m,n,h,_=>absurd (by simp) h.1
 |
  a::p,q,0,n,h,h'=>by
  have h1:∀ k,p.getD k 0=0:=λk=>by have:=h.2 (k+1) (by omega); rwa [Q4] at this
  simp only [Gq];rw [H9,Tt,Zr,Zu];cases n with
  | zero=>rw [Zr]; grind
  | succ n=>rw [Q4,Qhr h1]; grind
 |
  a::p,q,m+1,n,h,h'=>by
  have ih:=Q29 (p:=p) (q:=q) (m:=m) ⟨by have:=h.1; rwa [Q4] at this,λk hk=>by have:=h.2 (k+1) (by omega); rwa [Q4] at this⟩ h';simp only [Gq];rw [H9,Tt,show m+1+n=(m+n)+1 by omega,Q4,h'.2 _ (by omega),ih,Q4]; grind
theorem Qt8 {a b c:List Int} (ta:U0 a) (tb:U0 b) (tc:U0 c) (h:∀ t,Uy c t=Uy a t*Uy b t) (la:0<a.length) (lb:0<b.length):Fa c=Fa a*Fa b:=by
 have h1:=Qhq ta la;have h2:=Qhq tb lb;have h3:=Q29 h1 h2;have hl:=P8 ta tb tc h la lb;rw [<-Cq (p:=cz c) (λt=>by rw [U4,Uz,Uz,Uz,h]),P6,P6,P6,show a.length-1+(b.length-1)=c.length-1 by omega] at h3;unfold Fa; exact_mod_cast h3
theorem Rv {a b c:List Int} (tc:U0 c) (hc:c.length≠0) (h:∀ t,Uy c t=Uy a t*Uy b t):0<a.length/\0<b.length:=by
 constructor
 ·rcases Qz a.length with e | e
  ·exact absurd (λt=>by rw [h,Cv e]; grind) (Qhi tc (by omega))
  ·exact e
 ·rcases Qz b.length with e | e
  ·exact absurd (λt=>by rw [h,Cv e]; grind) (Qhi tc (by omega))
  ·exact e
theorem Qrd {b:List Int} (tb:U0 b) (hb:b.length≠0):∀ (i:Nat) (a q h:List Int),U0 a->U0 h->(∀ t,Uy a t=Uy b t*Uy h t)->a.length<b.length+i->i<=q.length->(∀ j,j<i->q.getD j 0=0)->∃ q',Qrc b i a q=some q'/\q'.length=q.length/\∀ t,Uy q' t=Uy q t+Uy h t
 |
  0,a,q,h,ta,th,e,hl,_,_=>by
  have ha:a.length=0:=by
   rcases Qz a.length with e' | e'
   ·exact e'
   ·obtain ⟨p1,p2⟩:=Rv ta (by omega) e;have:=P8 tb th ta e p1 p2; omega
  refine ⟨q,by simp only [Qrc]; rw [if_pos ha],rfl,λt=>?_⟩;have:∀ t,Uy h t=0:=λt=>by
   have:=Qw8 (p:=cz b) (q:=cz h) (r:=[]) (λh0=>Qhi tb (by omega) λt=>by rw [<-Uz]; exact h0 t) (λt=>by rw [Uz,Uz,<-e,Cv ha]; simp only [ev]; grind) t;rwa [Uz] at this
  rw [this]; grind
 |
  i+1,a,q,h,ta,th,e,hl,hq,h0=>by
  simp only [Qrc];by_cases hlt:a.length<b.length+i
  ·rw [if_pos hlt];exact Qrd tb hb i a q h ta th e hlt (by omega) λj hj=>h0 j (by omega)
  ·rw [if_neg hlt];obtain ⟨p1,p2⟩:=Rv ta (by omega) e;have hln:=P8 tb th ta e p1 p2;have hld:=Qt8 tb th ta e p1 p2;have hlb:=D4 tb hb;rw [hld,if_pos (Int.mul_emod_right _ _),Xl _ hlb];have hli:h.length=i+1:=by omega
   have e2:∀ t,Uy (Px a (Fx (trim (mono i (Fa h))) b)) t=Uy b t*Uy (Px h (mono i (Fa h))) t:=λt=>by
    rw [Bb,Bb,Fp,Ig,e]; grind
   have hl2:(Px a (Fx (trim (mono i (Fa h))) b)).length<b.length+i:=by
    have hl:=Q1s (i:=i) (x:=Fa h) (b:=b) (a:=a);unfold sta at hl;have:=Q9w (p:=Px a (Fx (trim (mono i (Fa h))) b)) (n:=b.length+i-1) (Fu _ _) (by omega) (by
     rw [Im,Q1y,if_pos (by omega),show b.length+i-1-i=b.length-1 by omega,show b.length+i-1=a.length-1 by omega];have:Fa a=a.getD (a.length-1) 0:=rfl;rw [<-this,hld];unfold Fa;rw [Wh,Int.sub_eq_zero])
    omega
   obtain ⟨q',h1,h2,h3⟩:=Qrd tb hb i _ (q.set i (Fa h)) (Px h (mono i (Fa h))) (Fu _ _) (Fu _ _) e2 hl2 (by simp; omega) λj hj=>by
    rw [Qg,Yk,if_neg (by omega),<-Qg];exact h0 j (by omega)
   refine ⟨q',h1,by rw [h2,Ja],λt=>?_⟩;rw [h3,Qrb q i _ t (by omega),h0 i (by omega),Bb,Qa7]
   push_cast; grind
theorem Zbe {a b h:List Int} {s:Nat} (ta:U0 a) (tb:U0 b) (th:U0 h) (ha:a.length≠0) (la:a.length<=10) (ba:Bd s a) (hs:s+69<=16777216) (e:∀ t,Uy a t=Uy b t*Uy h t):Qa9 a b=some h:=by
 obtain ⟨p1,p2⟩:=Rv ta ha e;have hln:=P8 tb th ta e p1 p2;obtain ⟨q,h1,h2,h3⟩:=Qrd tb (by omega) (a.length+1-b.length) a (List.replicate (a.length+1-b.length) 0) h ta th e (by omega) (by simp) λj _=>Tz _ _
 have h4:trim q=h:=Q2e (Rf _) th λt=>by rw [Ig,h3,Qop]; grind
 unfold Qa9;rw [if_neg (by omega),h1];show chk (trim q)=_;rw [h4];exact Lq (by omega) (Ut (Qao ba la ta th tb ha λt=>by rw [e]; grind) (by omega))
structure Pr1 (p:List Int):Prop where
 t:U0 p
 m:Prm p
 l:0<Fa p
theorem Pr1.n {p:List Int} (h:Pr1 p):p.length≠0:=λe=>by
 have:=h.l;rw [Qi e] at this;exact absurd this (by decide)
theorem Pr1.one {p:List Int} (h:Pr1 p) (hl:p.length<2):p=[1]:=by
 have hn:=h.n;obtain ⟨c,rfl⟩:∃ c,p=[c]:=Kz.1 (by omega);have h1:=h.m c λk=>by cases k <;> simp
 have h2:0<c:=h.l;have:=Int.le_of_dvd (by decide) h1;rw [show c=1 by omega]
theorem Zgb {p g h:List Int} (hp:Prm p) (e:∀ t,Uy p t=Uy g t*Uy h t):Prm h:=λd hd=>by
 refine hp d λk=>?_
 have:=C9 (p:=p) (q:=Fx g h) (λt=>by rw [e,Fp]) k;rw [this];have e2:∀ t,Uy (Fx g h) t=(d:Rat)*Uy (Fx g (h.map (· / d))) t:=λt=>by
  have h1:Uy h t=(d:Rat)*Uy (h.map (· / d)) t:=by
   have:=Ba d 0 t (max h.length (h.map (· / d)).length) (h.map (· / d)) [] h (by omega) (by simp) (by omega) λk=>by
    rw [Qea,Wi (hd k)]; simp
   rw [this]; simp only [Uy]; push_cast; grind
  rw [Fp,Fp,h1]; grind
 have:=C9 (p:=Fx g h) (q:=Fg (Fx g (h.map (· / d))) d) (λt=>by rw [e2,Ru]; grind) k;rw [this,Pv]; exact Vd _ _
theorem Zga {p g h:List Int} (hp:Pr1 p) (hg:0<Fa g) (tg:U0 g) (th:U0 h) (e:∀ t,Uy p t=Uy g t*Uy h t):Pr1 h:=by
 obtain ⟨p1,p2⟩:=Rv hp.t hp.n e;have:=Qt8 tg th hp.t e p1 p2;refine ⟨th,Zgb hp.m e,?_⟩;have hl:=hp.l;rw [this] at hl;rcases J1 (Fa h) 0 with h1 | h1 | h1
 ·have:=Y7 hg h1; omega
 ·rw [h1] at hl; omega
 ·exact h1
structure Sqp (p g q:List Int):Prop where
 pp:Pr1 p
 pg:Pr1 g
 pq:Pr1 q
 e:∀ t,Uy p t=Uy g t*Uy q t
 c:∃ U V,∀ t,Uy g t=ev U t*Uy p t+ev V t*dv (cz p) t
 d:∃ z,∀ t,dv (cz p) t=Uy g t*ev z t
theorem Sqp.num {p g q:List Int} (h:Sqp p g q) {d:List Rat} (h1:O3 d (cz q)) (h2:O3 d (M6 (cz q))):∃ c:Rat,c≠0/\∀ t,ev d t=c:=by
 obtain ⟨U,V,hc⟩:=h.c;have hpow:=sqf (k:=1) (a:=cz p) (g:=cz g) (q:=cz q) (d:=d) (U:=U) (V:=V) (by decide) (λt=>by rw [Uz,Uz,Uz,h.e]) (λt=>by rw [Uz,Uz,hc]; grind) h1 h2;rcases Qk8 d with h3 | ⟨m,_,h3⟩
 ·obtain ⟨u,hu⟩:=h1;exact absurd (λt=>by rw [<-Uz,hu,h3]; grind) (Qhi h.pq.t (by have:=h.pq.n; omega))
 ·obtain rfl:=Qor h3 (Qhq h.pg.t (by have:=h.pg.n; omega)) hpow;refine ⟨d.getD 0 0,h3.1,λt=>?_⟩;cases d with
  | nil=>exact absurd (by simp) h3.1
  |
   cons c l =>
   have:=C6 (p:=l) λk=>by have:=h3.2 (k+1) (by omega); rwa [Q4] at this
   simp only [ev,this,Zr]; grind
theorem Sqp.bez {p g q:List Int} (h:Sqp p g q):∃ X Y,∀ t,ev X t*ev (cz q) t+ev Y t*dv (cz q) t=1:=by
 obtain ⟨d,U,V,h1,h2,h3⟩:=Q9f (cz q) (M6 (cz q));obtain ⟨c,hc,hd⟩:=h.num h1 h2;refine ⟨Cx (1 / c) U,Cx (1 / c) V,λt=>?_⟩;have h5:=h3 t;rw [hd,Ta] at h5;have h4:1 / c*c=1:=Zk hc;rw [Ga,Ga];have:1 / c*ev U t*ev (cz q) t+1 / c*ev V t*dv (cz q) t=1 / c*(ev U t*ev (cz q) t+ev V t*dv (cz q) t):=by grind
 rw [this,<-h5,h4]
theorem Zcl {n s:Nat} (h:Szz n s):s<=8388600:=by
 have:2*(s+8)*1<=2*(s+8)*3^(n-1):=Zs _ (Z2 (by decide));have:=h.2; omega
theorem Qwe {s:Nat} {p:List Int} (h:Bd s p) (hl:p.length<=10):Bd (s+4) (Gg p):=Qim h (t:=4) (by omega)
theorem Q25 {n s:Nat} (hz:Szz n (s+73)) {p:List Int} (pp:Pr1 p) (l2:2<=p.length) (lp:p.length<=n) (bp:Bd (s+69) p) {p0 h0:List Int} (b0:Bd s p0) (l0:p0.length<=10) (t0:U0 p0) (th0:U0 h0) (z0:p0.length≠0) (e0:∀ t,Uy p0 t=Uy h0 t*Uy p t) :
 ∃ g q,chk (Gg p)=some (Gg p)/\Qbb p (Gg p)=some g/\Qa9 p g=some q/\Sqp p g q/\g.length<p.length:=by
 have hn:=hz.1;have hs:=Zcl hz;have bd:=Qwe bp (by omega);have ld:=Pp p;have td:U0 (Gg p):=Fu _ _;obtain ⟨g,e1,hg,m,l⟩:=Qdm hz pp.t td lp (by omega) (Ut bp (by omega)) bd (.inl pp.n);obtain ⟨q,tq,eq⟩:=Q9a m hg.da;have hdnz:(Gg p).length≠0:=λh=>by
  have h1:=Ng p (p.length-2);rw [Qi h,show p.length-2+1=p.length-1 by omega] at h1;have h2:p.getD (p.length-1) 0≠0:=Hi pp.t (by omega);rcases Yy.1 (h1.symm.trans (by simp)) with h3 | h3
  ·exact h2 h3
  ·omega
 have pg:Pr1 g:=⟨hg.t,m,l⟩;have hql:=Zbe (s:=s+69) pp.t hg.t tq pp.n (by omega) bp (by omega) eq;refine ⟨g,q,Lq (by omega) (Ut bd (by omega)),e1,hql,⟨pp,pg,Zga pp l hg.t tq eq,eq,?_,?_⟩,?_⟩
 ·obtain ⟨U,V,hc⟩:=hg.c;exact ⟨U,V,λt=>by rw [hc,If]⟩
 ·obtain ⟨z,hz⟩:=hg.db;exact ⟨z,λt=>by rw [<-If,<-Uz,hz,Uz]⟩
 ·obtain ⟨z,tz,ez⟩:=Q9a m hg.db;obtain ⟨q1,q2⟩:=Rv td hdnz ez;have:=P8 hg.t tz td ez q1 q2;omega
theorem Zf4:Sqp [1] [1] [1]:=by
 have p1:Pr1 [1]:=⟨rfl,λd hd=>by have:=hd 0; rwa [Zr] at this,by decide⟩;have e1:∀ t,Uy [1] t=1:=λt=>by simp only [Uy]; push_cast; grind
 exact ⟨p1,p1,p1,λt=>by rw [e1]; grind,⟨[1],[],λt=>by rw [e1,Rr]; simp only [ev]; grind⟩,⟨[],λt=>by simp only [cz,Z1,Ji,dv,ev]; grind⟩⟩
structure Okp (n s:Nat) (p:List Int):Prop where
 z:Szz n (s+73)
 t:U0 p
 nz:p.length≠0
 l:p.length<=n
 b:Bd s p
theorem Okp.pr {n s:Nat} {p:List Int} (h:Okp n s p):Pr1 (U7 p)/\(U7 p).length=p.length/\Bd s (U7 p):=by
 obtain ⟨h1,h2,h3,h4,h5,_⟩:=Be h.t h.nz;exact ⟨⟨h1,h3,h4⟩,h2,h5 s h.b⟩
theorem Qb8 {n s:Nat} {p:List Int} (h:Okp n s p):∃ g q,Pi p=some q/\Sqp (U7 p) g q:=by
 obtain ⟨pp,hl,hb⟩:=h.pr;have hn:=h.z.1;have:=h.l;unfold Pi;by_cases h2:(U7 p).length<2
 ·rw [if_pos h2,pp.one h2]; exact ⟨[1],[1],rfl,Zf4⟩
 ·rw [if_neg h2];obtain ⟨g,q,h3,h4,h5,h6,_⟩:=Q25 h.z pp (by omega) (by omega) (Ut hb (by omega)) (p0:=U7 p) (h0:=[1]) hb (by omega) pp.t rfl pp.n λt=>by simp only [Uy]; push_cast; grind
  exact ⟨g,q,by rw [h3]; show (Qbb (U7 p) (Gg (U7 p))).bind _=_; rw [h4]; exact h5,h6⟩
inductive LW:List Int->List (List Int)->Prop
 | nil:LW [1] []
 | cons {g h w:List Int} {ws:List (List Int)} (hs:Sqp g h w) (hl:LW h ws):LW g (w::ws)
theorem Zks {g:List Int} {ws:List (List Int)} (h:LW g ws):∀ t,Uy g t=ev (Ic (ws.map cz)) t:=by
 induction h with
 | nil=>intro t; simp only [Ji,Ic,Uy]; rw [Rr]; push_cast; grind
 | cons hs hl ih=>intro t; simp only [Z1,Ic]; rw [U4,Uz,hs.e,ih]; grind
theorem Q1x {g:List Int} {w v:List Int} {ws:List (List Int)} (h:LW g (w::v::ws)):∃ f,U0 f/\∀ t,Uy w t=Uy f t*Uy v t:=by
 cases h with
 |
  @cons _ h _ _ hs hl =>
  cases hl with
  |
   @cons _ h2 _ _ hs2 hl2 =>
   obtain ⟨X,Y,hb⟩:=hs2.bez;obtain ⟨z,hz⟩:=hs.d;have hd:=Zg6 (a:=cz g) (g:=cz h) (q:=cz w) (z:=z) (r:=cz v) (X:=X) (Y:=Y) (n:=h.length-1) (λt=>by rw [Uz,Uz,Uz,hs.e]) (λt=>by rw [hz,Uz]) (Qhq hs.pg.t (by have:=hs.pg.n; omega)) hb
    ⟨Gq (cz h2) (cz w),λt=>by rw [U4,Uz,Uz,Uz,Uz,hs.e,hs2.e]; grind⟩
   obtain ⟨f,tf,ef⟩:=Q9a hs2.pq.m hd;exact ⟨f,tf,λt=>by rw [ef]; grind⟩
theorem Quc {g w:List Int} {ws:List (List Int)} (h:LW g (w::ws)):∀ v∈w::ws,Pr1 v/\O3 (cz v) (cz w):=by
 have key:∀ (ws:List (List Int)) (g w:List Int),LW g (w::ws)->∀ v∈w::ws,Pr1 v/\O3 (cz v) (cz w):=by
  intro ws
  induction ws with
  |
   nil =>
   intro g w h v hv;rw [Qk.1 hv];cases h with
   | cons hs hl=>exact ⟨hs.pq,dvd_refl _⟩
  |
   cons u ws ih =>
   intro g w h v hv;have hn:=Q1x h;cases h with
   |
    @cons _ h _ _ hs hl =>
    rcases Qo.1 hv with rfl | hv
    ·exact ⟨hs.pq,dvd_refl _⟩
    ·obtain ⟨i1,i2⟩:=ih h u hl v hv;obtain ⟨f,_,hf⟩:=hn;exact ⟨i1,dvd_trans i2 ⟨cz f,λt=>by rw [Uz,Uz,Uz,hf]; grind⟩⟩
 exact key ws g w h
theorem lay_ok {n s:Nat} (hz:Szz n (s+73)) {p0:List Int} (b0:Bd s p0) (l0:p0.length<=10) (t0:U0 p0) (z0:p0.length≠0):∀ (k:Nat) (g h0:List Int),Pr1 g->g.length<=k->g.length<=n->U0 h0->(∀ t,Uy p0 t=Uy h0 t*Uy g t)->∃ ws,Qgk k g=some ws/\LW g ws
 | 0,g,_,pg,hk,_,_,_=>absurd pg.n (by omega)
 |
  k+1,g,h0,pg,hk,hn,th0,e0=>by
  simp only [Qgk];by_cases h2:g.length<2
  ·rw [if_pos h2,pg.one h2]; exact ⟨[],rfl,.nil⟩
  ·rw [if_neg h2];have bg:Bd (s+69) g:=Qao b0 l0 t0 pg.t th0 z0 λt=>by rw [e0]; grind
   obtain ⟨h,w,h3,h4,h5,h6,h7⟩:=Q25 hz pg (by omega) hn bg b0 l0 t0 th0 z0 e0;obtain ⟨ws,i1,i2⟩:=lay_ok hz b0 l0 t0 z0 k h (Fx h0 w) h6.pg (by omega) (by omega) (Ha _ _) λt=>by rw [e0,Fp,h6.e]; grind
   refine ⟨w::ws,?_,.cons h6 i2⟩;rw [h3];show (Qbb g (Gg g)).bind _=_;rw [h4];show (Qa9 g h).bind _=_;rw [h5];show (Qgk k h).bind _=_;rw [i1]; rfl
theorem Q83 {s:Nat} {p0:List Int} (b0:Bd s p0) (l0:p0.length≤10) (t0:U0 p0) (z0:p0.length≠0) (hs:s+69+69≤16777216):∀ (ws:List (List Int)) (g h0:List Int),LW g ws->U0 h0->(∀ t,Uy p0 t=Uy h0 t*Uy g t)->∃ fs,Qmz ws=some fs/\Lay (ws.map cz) (fs.map cz)/\∀ f∈fs,U0 f
 | [],g,_,_,_,_=>⟨[],rfl,trivial,λf hf=>by cases hf⟩
 |
  [w],g,_,hl,_,_=>by
  cases hl with
  | cons hs hl=>exact ⟨[w],rfl,λt=>rfl,λf hf=>by rw [Qk.1 hf]; exact hs.pq.t⟩
 |
  w::v::ws,g,h0,hl,th0,e0=>by
  obtain ⟨f,tf,ef⟩:=Q1x hl;cases hl with
  |
   @cons _ h _ _ hs1 hl =>
   have hpv:=(Quc hl v (Qx ..)).1;obtain ⟨fs,i1,i2,i3⟩:=Q83 b0 l0 t0 z0 hs (v::ws) h (Fx h0 w) hl (Ha _ _) λt=>by rw [e0,Fp,hs1.e]; grind
   have ew:∀ t,Uy p0 t=Uy w t*Uy (Fx h0 h) t:=λt=>by rw [e0,Fp,hs1.e]; grind
   have bw:Bd (s+69) w:=Qao b0 l0 t0 hs1.pq.t (Ha _ _) z0 ew;obtain ⟨p1,p2⟩:=Rv t0 z0 ew;have lw:=P8 hs1.pq.t (Ha _ _) t0 ew p1 p2;have hq:=Zbe (s:=s+69) hs1.pq.t hpv.t tf hs1.pq.n (by omega) bw hs λt=>by rw [ef]; grind
   refine ⟨f::fs,?_,⟨λt=>by rw [Uz,Uz,Uz,ef],i2⟩,λx hx=>?_⟩
   ·show (Qa9 w v).bind _=_;rw [hq];show (Qmz (v::ws)).bind _=_;rw [i1]; rfl
   ·rcases Qo.1 hx with rfl | hx
    ·exact tf
    ·exact i3 x hx
def Mn:List (List Int)->List Int
 | []=>[1]
 | [f]=>f
 | f::_::l=>Fx f (Mn l)
theorem Quq:∀ (fs:List (List Int)) (t:Rat),ev (Qic (fs.map cz)) t=Uy (Mn fs) t
 | [],t=>by simp only [Ji,Qic,Mn,Uy]; rw [Rr]; push_cast; grind
 | [f],t=>by simp only [Z1,Ji,Qic,Mn]; rw [Uz]
 | f::g::l,t=>by simp only [Z1,Qic,Mn]; rw [U4,Uz,Fp,Quq l]
theorem Mt (t:Rat):Uy [1] t=1:=by simp only [Uy]; push_cast; grind
theorem Qny:∀ {w:List Int} {ws fs:List (List Int)},Lay ((w::ws).map cz) (fs.map cz)->(∀ f∈fs,U0 f)->(∀ v∈w::ws,U0 v)->∃ E,U0 E/\∀ t,Uy w t=Uy (Mn fs) t*Uy E t
 |
  w,[],[f],h,_,_=>⟨[1],rfl,λt=>by
  have:=h t;rw [Uz,Uz] at this;rw [this,Mt]; simp only [Mn]; grind⟩
 |
  w,[v],[f,f2],h,_,hw=>⟨v,hw v (by simp),λt=>by
  have:=h.1 t;rw [Uz,Uz,Uz] at this;rw [this]; simp only [Mn]; rw [Fp,Mt]; grind⟩
 |
  w,v::x::l,f::f2::fs,h,hf,hw=>by
  obtain ⟨E,hE,e⟩:=Qny (w:=x) (ws:=l) (fs:=fs) h.2.2 (λg hg=>hf g (by simp [hg])) (λg hg=>hw g (by simp at hg ⊢; exact .inr (.inr hg)));refine ⟨Fx f2 E,Ha _ _,λt=>?_⟩;have a1:=h.1 t;have a2:=h.2.1 t;rw [Uz,Uz,Uz] at a1 a2;have e2:Uy (Mn (f::f2::fs)) t=Uy f t*Uy (Mn fs) t:=by simp only [Mn]; rw [Fp]
  rw [a1,a2,e,e2,Fp]; grind
 | w,[],[],h,_,_=>h.elim
 | w,[],_::_::_,h,_,_=>h.elim
 | w,[v],[],h,_,_=>h.elim
 | w,[v],[f],h,_,_=>h.2.elim
 | w,[v],_::_::_::_,h,_,_=>h.2.elim
 | w,v::x::l,[f],h,_,_=>h.2.elim
 | w,v::x::l,[],h,_,_=>h.elim
theorem Qbz {s:Nat} {p0:List Int} (b0:Bd s p0) (l0:p0.length≤10) (t0:U0 p0) (z0:p0.length≠0) (hs:s+69≤16777216):∀ (fs:List (List Int)) (i:Nat) (a E:List Int),i % 2=0->U0 a->U0 E->(∀ f∈fs,U0 f)->(∀ t,Uy p0 t=Uy a t*Uy (Mn fs) t*Uy E t)->∃ o,Qeq i a fs=some o/\U0 o/\∀ t,Uy o t=Uy a t*Uy (Mn fs) t
 | [],i,a,E,hi,ta,_,_,_=>⟨a,rfl,ta,λt=>by simp only [Mn]; rw [Mt]; grind⟩
 |
  [f],i,a,E,hi,ta,tE,tf,hE=>by
  have e1:∀ t,Uy p0 t=Uy (Fx a f) t*Uy E t:=λt=>by rw [hE,Fp]; rfl
  have b1:=Qao b0 l0 t0 (Ha a f) tE z0 e1;obtain ⟨p1,p2⟩:=Rv t0 z0 e1;have hl:=P8 (Ha a f) tE t0 e1 p1 p2;refine ⟨Fx a f,?_,Ha _ _,λt=>by rw [Fp]; rfl⟩;simp only [Qeq];rw [if_pos hi,Lq (by omega) (Ut b1 (by omega))]; rfl
 |
  f::g::fs,i,a,E,hi,ta,tE,tf,hE=>by
  have e0:∀ t,Uy (Mn (f::g::fs)) t=Uy f t*Uy (Mn fs) t:=λt=>by simp only [Mn]; rw [Fp]
  have e1:∀ t,Uy p0 t=Uy (Fx a f) t*Uy (Fx (Mn fs) E) t:=λt=>by rw [hE,e0,Fp,Fp]; grind
  have b1:=Qao b0 l0 t0 (Ha a f) (Ha _ _) z0 e1;obtain ⟨p1,p2⟩:=Rv t0 z0 e1;have hl:=P8 (Ha a f) (Ha _ _) t0 e1 p1 p2;obtain ⟨o,o1,o2,o3⟩:=Qbz b0 l0 t0 z0 hs fs (i+2) (Fx a f) E (by omega) (Ha _ _) tE (λx hx=>tf x (by simp [hx])) λt=>by rw [hE,e0,Fp]; grind
  refine ⟨o,?_,o2,λt=>by rw [o3,e0,Fp]; grind⟩;have h1:Qeq (i+1) (Fx a f) (g::fs)=Qeq (i+2) (Fx a f) fs:=by
   show (if (i+1) % 2=0 then _ else _)=_;rw [if_neg (by omega)]
  show (if i % 2=0 then (chk (Fx a f)).bind λq=>Qeq (i+1) q (g::fs) else _)=_;rw [if_pos hi,Lq (by omega) (Ut b1 (by omega))];exact h1.trans o1
structure Parts (p q o:List Int):Prop where
 sq:∃ g,Sqp (U7 p) g q
 ws:∃ ws:List (List Int),(∀ w∈ws,Pr1 w/\O3 (cz w) (cz q))/\∀ t,Uy (U7 p) t=ev (Ic (ws.map cz)) t
 oq:O3 (cz o) (cz q)
 ot:U0 o
 oh:∃ h,U0 h/\∀ t,Uy (U7 p) t=Uy o t*Uy h t
 os:∃ S,∀ t,Uy (U7 p) t=Uy o t*(ev S t*ev S t)
theorem Zai {n s:Nat} {p:List Int} (h:Okp n s p):∃ q o,Pi p=some q/\Qyd p=some o/\Parts p q o:=by
 obtain ⟨pp,hl,hb⟩:=h.pr;have hn:=h.z.1;have By:=h.l;have hs:=Zcl h.z;obtain ⟨g,q,hq,sq⟩:=Qb8 h;obtain ⟨ws,w1,w2⟩:=lay_ok h.z hb (by omega) pp.t pp.n 66 (U7 p) [1] pp (by omega) (by omega) rfl λt=>by rw [Mt]; grind
 obtain ⟨fs,f1,f2,f3⟩:=Q83 hb (by omega) pp.t pp.n (by omega) ws (U7 p) [1] w2 rfl λt=>by rw [Mt]; grind
 have hw:=Zks w2;have hfirst:(∀ w∈ws,Pr1 w/\O3 (cz w) (cz q))/\∃ E,U0 E/\∀ t,Uy q t=Uy (Mn fs) t*Uy E t:=by
  cases ws with
  |
   nil =>
   have e:fs=[]:=by
    cases fs with
    | nil=>rfl
    | cons f l=>exact f2.elim
   subst e;exact ⟨(λw hw=>by cases hw),q,sq.pq.t,λt=>by simp only [Mn]; rw [Mt]; grind⟩
  |
   cons w ws =>
   have hwq:w=q:=by
    have w3:(if (U7 p).length<2 then some [] else (chk (Gg (U7 p))).bind λd=>(Qbb (U7 p) d).bind λh=>(Qa9 (U7 p) h).bind λw=>(Qgk 65 h).bind λl=>some (w::l))=some (w::ws):=w1;have hlen:¬(U7 p).length<2:=λh2=>by
     rw [if_pos h2] at w3;injection w3 with w3;cases w3
    rw [if_neg hlen] at w3;unfold Pi at hq;rw [if_neg hlen] at hq;obtain ⟨d,d1,w3⟩:=Qf.1 w3;obtain ⟨h,d2,w3⟩:=Qf.1 w3;obtain ⟨w',d3,w3⟩:=Qf.1 w3;obtain ⟨l,d4,w3⟩:=Qf.1 w3;rw [d1] at hq;have hq:(Qbb (U7 p) d).bind (λg=>Qa9 (U7 p) g)=some q:=hq;rw [d2] at hq;have hq:Qa9 (U7 p) h=some q:=hq;rw [d3] at hq;injection hq with hq;injection w3 with w3;injection w3 with w3 _;rw [<-w3,hq]
   subst hwq;have hall:=Quc w2;exact ⟨hall,Qny f2 f3 λv hv=>(hall v hv).1.t⟩
 obtain ⟨ha,E,tE,hE⟩:=hfirst;obtain ⟨o,o1,o2,o3⟩:=Qbz hb (by omega) pp.t pp.n (by omega) fs 0 [1] (Fx E g) rfl rfl (Ha _ _) f3 λt=>by rw [Mt,Fp,sq.e,hE]; grind
 have o3:∀ t,Uy o t=Uy (Mn fs) t:=λt=>by rw [o3,Mt]; grind
 refine ⟨q,o,hq,?_,⟨g,sq⟩,⟨ws,ha,hw⟩,⟨cz E,λt=>by rw [Uz,Uz,Uz,hE,o3]⟩,o2,⟨Fx E g,Ha _ _,λt=>by rw [sq.e,hE,o3,Fp]; grind⟩,?_⟩
 ·unfold Qyd;rw [if_neg pp.n,w1];show (Qmz ws).bind _=_;rw [f1]; exact o1
 ·obtain ⟨S,hS⟩:=Q1p f2;exact ⟨S,λt=>by rw [hw,hS,Quq,o3]⟩
theorem Q0t {s:Nat}:∀ (k:Nat) (a b:List Int),U0 a->U0 b->b.length≠0->b.length<k->b.length<a.length->a.length<=60->Bd s a->Bd s b->(s+8)*3^(a.length-1)<=16777216->(∀ d,O3 d (cz a)->O3 d (cz b)->∃ c:Rat,c≠0/\∀ t,ev d t=c)->∃ l,chF k a b=some (b::l)/\SCl (cz a) (cz b) (l.map cz)
 | 0,_,_,_,_,_,h,_,_,_,_,_,_=>by omega
 |
  k+1,a,b,ta,tb,hb,hk,hab,hl,ba,bb,hs,hd=>by
  obtain ⟨h1,h2,h3,u,v,up,vp,X,hX⟩:=Qi8 ta tb hb hl;have h3:=h3 s ba bb;obtain ⟨m,hm⟩:=nmE (a.length-b.length);have e1:a.length+1-b.length=m+1:=by omega
  rw [e1] at h3;have e2:s+(m+1)*(s+8)+8=(m+2)*(s+8):=by
   rw [show m+2=(m+1)+1 by omega,Z7 (m+1)]; omega
  have e3:(m+2)*(s+8)*3^(b.length-1)<=(s+8)*3^(a.length-1):=by
   rw [show a.length-1=m+(b.length-1) by omega,Xb,<-Xg,Zj (s+8)];exact Q0 _ (Q0 _ (Zk2 m (by omega)))
  have e4:s+(m+1)*(s+8)<=16777216:=by
   have:(m+2)*(s+8)<=(m+2)*(s+8)*3^(b.length-1):=J0 _ (Z2 (by decide));omega
  simp only [chF];rw [if_neg hb,Lq (by omega) (Ut h3 e4)];show ∃ l,((chF k b (Pg (Rp a b))).bind λl=>some (b::l))=some (b::l)/\_;have lneg:(Pg (Rp a b)).length<=(Rp a b).length:=L6 _;by_cases hr:(Rp a b).length=0
  ·have e:Pg (Rp a b)=[]:=Qi (by omega);rw [e];refine ⟨[],?_,?_⟩
   ·obtain ⟨j,rfl⟩:∃ j,k=j+1:=⟨k-1,by omega⟩;rfl
   ·obtain ⟨c,hc,hcc⟩:=hd (cz b) ⟨Cx (1 / u) X,λt=>by
     have:=hX t;rw [Cv hr] at this;have hu:1 / u*u=1:=G0 up;rw [Uz,Uz,Ga];have:Uy a t=1 / u*(u*Uy a t):=by grind
     rw [this,hX,Cv hr]; grind⟩ (dvd_refl _)
    exact .base hc hcc
  ·have tn:U0 (Pg (Rp a b)):=Fu _ _;have hn0:(Pg (Rp a b)).length≠0:=λh0=>by
    have:=Oh (c:=-1) h1 tn (by decide) λt=>by rw [Qes]; grind
    omega
   obtain ⟨l,i1,i2⟩:=Q0t (s:=s+(m+1)*(s+8)) k b (Pg (Rp a b)) tb tn hn0 (by omega) (by omega) (by omega) (Ut bb (by omega)) (Qbn h3) (by rw [e2]; omega) λd d1 d2=>by
    refine hd d ?_ d1;obtain ⟨y,hy⟩:=d1;obtain ⟨z,hz⟩:=d2;have hu:1 / u*u=1:=G0 up;refine ⟨Cx (1 / u) (Tw (Gq X y) (Cx (-v) z)),λt=>?_⟩;have a1:=hX t; have a2:=hy t; have a3:=hz t;rw [Uz] at a2 a3;rw [Qes] at a3;rw [Uz,Ga,Gk,U4,Ga];have:Uy a t=1 / u*(u*Uy a t):=by grind
    rw [this,a1,a2,show Uy (Rp a b) t=-(ev d t*ev z t) by grind]; grind
   refine ⟨Pg (Rp a b)::l,by rw [i1]; rfl,?_⟩;rw [Z1];exact .step (q:=X) up vp (λt=>by rw [Uz,Uz,Uz,hX,Qes]; clear i2 i1 hd h3 hs; grind) i2
theorem Qdl (x:Rat):∀ (l:List (List Int)) (n:Nat) (s:Int),(l.foldl (S4 λp=>G8 p x) (n,s)).1=n+tc x s (l.map cz)
 | [],n,s=>rfl
 |
  p::l,n,s=>by
  simp only [Z6,Z1,tc,S4];rw [Bf,Uz]
  split
  ·exact Qdl x l n s
  ·rw [Qdl x l]
   split <;> omega
theorem On (l:List (List Int)) (x:Rat):Bp l x=vv (l.map cz) x:=by
 have:=Qdl x l 0 0;unfold Bp Bn vv;rw [this]; omega
theorem Q8d {n s:Nat} (hz:Szz n (s+73)) {P g q:List Int} (sq:Sqp P g q) (lq:q.length<=n) (bq:Bd (s+69) q):∃ d,chk (Gg q)=some d/\∃ l,chF 66 q (U7 d)=some l/\Stm (cz q) ((q::l).map cz)/\(q.length<2->l=[]):=by
 have hn:=hz.1;have hs:=Zcl hz;have bd:=Qwe bq (by omega);have ld:=Pp q;refine ⟨Gg q,Lq (by omega) (Ut bd (by omega)),?_⟩;have hq0:=sq.pq.n;by_cases h2:q.length<2
 ·have e:U7 (Gg q)=[]:=by rw [Qi (l:=Gg q) (by omega)]; rfl
  rw [e];refine ⟨[],rfl,.inl ⟨1,by decide,λt=>?_,rfl⟩,λ_=>rfl⟩;rw [Uz,sq.pq.one h2,Mt]
 ·have hdnz:(Gg q).length≠0:=λh=>by
   have h1:=Ng q (q.length-2);rw [Qi h,show q.length-2+1=q.length-1 by omega] at h1;have h3:q.getD (q.length-1) 0≠0:=Hi sq.pq.t (by omega);rcases Yy.1 (h1.symm.trans (by simp)) with h4 | h4
   ·exact h3 h4
   ·omega
  obtain ⟨p1,p2,p3,p4,p5,p6,p7⟩:=Be (p:=Gg q) (Fu _ _) hdnz;have hdl:Fa (Gg q)=Fa q*((q.length-1:Nat):Int):=by
   have hld:(Gg q).length=q.length-1:=by
    rcases Za (Gg q).length (q.length-1) with h | h
    ·have h1:=Ng q (q.length-2);rw [Qg,Qt (by omega),show q.length-2+1=q.length-1 by omega] at h1;have h3:q.getD (q.length-1) 0≠0:=Hi sq.pq.t (by omega);rcases Yy.1 (h1.symm.trans (by simp)) with h4 | h4
     ·exact absurd h4 h3
     ·omega
    ·omega
   unfold Fa;rw [hld,Ng,show q.length-1-1+1=q.length-1 by omega]
  have hfac:0<Hd (Gg q):=by
   have hlp:0<Fa (Gg q):=by rw [hdl]; exact Int.mul_pos sq.pq.l (by omega)
   have hc:=Qa6 (p:=Gg q) (Fu _ _) hdnz;unfold Hd;rw [if_neg (by omega)];unfold Sp at hc ⊢; omega
  have hfq:((0:Int):Rat)<(Hd (Gg q):Rat):=Jj.2 hfac;have hfq:(0:Rat)<(Hd (Gg q):Rat):=by simpa using hfq
  have hff:1 / (Hd (Gg q):Rat)*(Hd (Gg q):Rat)=1:=G0 hfq;have hz2:=hz.2;have hp3:(s+73+8)*3^(q.length-1)<=16777216:=by
   have:(s+73+8)*3^(q.length-1)<=(s+73+8)*3^(n-1):=Zs _ (Zx (by decide) (by omega));rw [Xg] at hz2; omega
  obtain ⟨l,h3,h4⟩:=Q0t (s:=s+73) 66 q (U7 (Gg q)) sq.pq.t p1 (by omega) (by omega) (by omega) (by omega) (Ut bq (by omega)) (p5 _ bd) hp3 λd d1 d2=>sq.num d1 (by
   obtain ⟨z,hz⟩:=d2;exact ⟨Cx (Hd (Gg q)) z,λt=>by
    have:=hz t;rw [Uz] at this;rw [Ta,<-If,p7,this,Ga]; grind⟩)
  refine ⟨U7 (Gg q)::l,h3,.inr ⟨cz (U7 (Gg q)),l.map cz,1 / (Hd (Gg q):Rat),Lt (by decide) hfq,λt=>?_,h4,rfl⟩,λh=>absurd h h2⟩;rw [Uz,<-If,p7 t]; grind
theorem chain_ok {n s:Nat} {p:List Int} (h:Okp n s p):∃ q l,Pi p=some q/\Lp p=some (q::l)/\Stm (cz q) ((q::l).map cz)/\(q.length<2->l=[]):=by
 obtain ⟨pp,hl,hb⟩:=h.pr;have hn:=h.z.1;have By:=h.l;obtain ⟨g,q,hq,sq⟩:=Qb8 h;have e1:∀ t,Uy (U7 p) t=Uy q t*Uy g t:=λt=>by rw [sq.e]; grind
 obtain ⟨p1,p2⟩:=Rv pp.t pp.n e1;have hll:=P8 sq.pq.t sq.pg.t pp.t e1 p1 p2;obtain ⟨d,d1,l,d2,d3⟩:=Q8d h.z sq (by omega) (Qao hb (by omega) pp.t sq.pq.t sq.pg.t pp.n e1);refine ⟨q,l,hq,?_,d3⟩;unfold Lp;rw [hq];show (if q.length=0 then none else _)=_;rw [if_neg sq.pq.n,d1];show (chF 66 q (U7 d)).bind _=_;rw [d2]; rfl
structure Gr (D M k:Nat) (q:Rat):Prop where
 u:∃ u:Int,q*((D*2^k:Nat):Rat)=(u:Rat)
 b:U8 q<=(M:Rat)
 d:0<D
theorem nat_pos {n:Nat} (h:0<n):(0:Rat)<(n:Rat):=by
 have:((0:Nat):Rat)<(n:Rat):=Vv.2 h;simpa using this
theorem Qoa {D M k:Nat} {q:Rat} (h:Gr D M k q):Gr D M (k+1) q:=by
 obtain ⟨u,hu⟩:=h.u;refine ⟨⟨u*2,?_⟩,h.b,h.d⟩;rw [Zo,<-Xg]
 push_cast at hu ⊢
 rw [<-hu]; grind
theorem Q9l {D M k:Nat} {a b:Rat} (ha:Gr D M k a) (hb:Gr D M k b):Gr D M (k+1) ((a+b) / 2):=by
 obtain ⟨u,hu⟩:=ha.u;obtain ⟨v,hv⟩:=hb.u;have h2:(a+b) / 2*2=a+b:=G0 (by decide);refine ⟨⟨u+v,?_⟩,?_,ha.d⟩
 ·rw [Zo,<-Xg]
  push_cast at hu hv ⊢
  rw [<-hu,<-hv];generalize (a+b) / 2=c at *;generalize (D:Rat)*2^k=z at *;have:c*(z*2)=(c*2)*z:=by grind
  rw [this,h2]; grind
 ·have h3:=ha.b;have h4:=hb.b;rw [Py] at *;constructor <;> grind
theorem Zkh {D M k:Nat} {q:Rat} (h:Gr D M k q):q.den<=D*2^k:=by
 obtain ⟨u,hu⟩:=h.u;have hp:0<D*2^k:=Ya h.d (Z2 (by decide));have e:q=Rat.divInt u ((D*2^k:Nat):Int):=by
  rw [<-Hy,<-hu];have hz:=nat_pos hp;rw [show ((((D*2^k:Nat):Int)):Rat)=((D*2^k:Nat):Rat) from rfl];rw [Js];have:=W5 ((D*2^k:Nat):Rat) (by grind);generalize ((D*2^k:Nat):Rat)=z at *;have:q*z*z⁻¹=q*(z*z⁻¹):=by grind
  rw [this,‹z*z⁻¹=1›]; grind
 rw [e,Ww,if_neg (by omega),Z9];exact J6 _ _
theorem Qlg {a b k:Nat} {z:Int} (h:z.natAbs<=a*(b*2^k)):U6 z<=U6 (a:Int)+U6 (b:Int)+k:=by
 have h1:U6 (a:Int)<=U6 (a:Int):=Qm _;have h2:U6 (b:Int)<=U6 (b:Int):=Qm _;rw [T0] at h1 h2 ⊢;rw [Z9] at h1 h2;rw [Xb,Xb];have h3:a*b<2^U6 (a:Int)*2^U6 (b:Int):=Nat.mul_lt_mul_of_lt_of_le h1 (Yj h2) (Z2 (by decide));have h4:=Xo h3 (show 0<2^k from Z2 (by decide));rw [<-Xg] at h; omega
theorem Q1f {D M k B:Nat} {q:Rat} (h:Gr D M k q) (hM:0<M) (hs:U6 (D:Int)+U6 (M:Int)+k<=B):Qs B q:=by
 have hd:=Zkh h;have hden:=nat_pos q.den_pos;have h1:(q.num.natAbs:Rat)<=((M*(D*2^k):Nat):Rat):=by
  have e:(q.num:Rat)=q*(q.den:Rat):=by
   have:(q.num:Rat) / (((q.den:Int)):Rat)=q:=by rw [Hy,Z3]
   have h2:(q.num:Rat) / (q.den:Rat)*(q.den:Rat)=q.num:=Zk (by grind);rw [show (q.num:Rat) / (q.den:Rat)=q from this] at h2; exact h2.symm
  rw [<-Ty,e];have h3:=Gz (x:=q) (y:=(q.den:Rat)) (b:=((D*2^k:Nat):Rat)) h.b (by
   have:U8 (q.den:Rat)=(q.den:Rat):=by unfold U8; rw [if_neg (by grind)]
   rw [this]; exact Zi.2 hd)
  push_cast at h3 ⊢; exact h3
 have h1:=Zi.1 h1;refine ⟨?_,?_⟩
 ·have:=Qlg (z:=q.num) h1; omega
 ·have:=Qlg (z:=(q.den:Int)) (a:=M) (b:=D) (k:=k) (by
   rw [Z9];exact Qc hd (Nat.le_mul_of_pos_left _ hM))
  omega
theorem Qx2 (a b:Rat):mid a b=(a+b) / 2:=by
 unfold mid;rw [<-Hy];have ha:(a.num:Rat)=a*(a.den:Rat):=by
  have:(a.num:Rat) / (((a.den:Int)):Rat)=a:=by rw [Hy,Z3]
  have h2:(a.num:Rat) / (a.den:Rat)*(a.den:Rat)=a.num:=Zk (by have:=nat_pos a.den_pos; grind);rw [show (a.num:Rat) / (a.den:Rat)=a from this] at h2; exact h2.symm
 have hb:(b.num:Rat)=b*(b.den:Rat):=by
  have:(b.num:Rat) / (((b.den:Int)):Rat)=b:=by rw [Hy,Z3]
  have h2:(b.num:Rat) / (b.den:Rat)*(b.den:Rat)=b.num:=Zk (by have:=nat_pos b.den_pos; grind);rw [show (b.num:Rat) / (b.den:Rat)=b from this] at h2; exact h2.symm
 have pa:=nat_pos a.den_pos;have pb:=nat_pos b.den_pos;rw [Kq,Xs,Xs,Xs,Xs,ha,hb];rw [show (((a.den:Int)):Rat)=(a.den:Rat) from rfl,show (((b.den:Int)):Rat)=(b.den:Rat) from rfl,show (((2:Int)):Rat)=2 from rfl];generalize (a.den:Rat)=x at *;generalize (b.den:Rat)=y at *;have hxy:=Ak (Ak pa pb) (show (0:Rat)<2 by decide);have h1:(a*x*y+b*y*x) / (x*y*2)*(x*y*2)=a*x*y+b*y*x:=G0 hxy;have h2:(a+b) / 2*2=a+b:=G0 (by decide);generalize (a*x*y+b*y*x) / (x*y*2)=c at *;generalize (a+b) / 2=d at *;have h3:(x*y*2)*(c-d)=0:=by grind
 rcases Y0.1 h3 with h4 | h4 <;> grind
theorem Qja (a b:Rat):Qmc a b=a-b:=by
 unfold Qmc;rw [Rat.sub_def',<-Rat.divInt_ofNat]
 push_cast; rfl
theorem Q0y {a b:Rat}:G7 a b=0↔a=b:=by
 constructor
 ·intro h;have h1:¬a<b:=λh'=>by have:=Cn.2 h'; omega
  have h2:¬b<a:=λh'=>by have:=Cm.2 h'; omega
  grind
 ·intro h; subst h; exact B8 a
theorem Qdz {a b:Rat}:G7 a b<=0↔a<=b:=by
 constructor
 ·intro h;have h2:¬b<a:=λh'=>by have:=Cm.2 h'; omega
  grind
 ·intro h;have h2:¬0<G7 a b:=λh'=>by have:=Cm.1 h'; grind
  omega
theorem Qir {a b:Rat}:0<=G7 a b↔b<=a:=by
 constructor
 ·intro h;have h2:¬a<b:=λh'=>by have:=Cn.2 h'; omega
  grind
 ·intro h;have h2:¬G7 a b<0:=λh'=>by have:=Cn.1 h'; grind
  omega
theorem C5 (a b:Rat):G7 a b=1/\b<a\/G7 a b=0/\a=b\/G7 a b=-1/\a<b:=by
 have hb:=I5 a b;rcases (show G7 a b=1\/G7 a b=0\/G7 a b=-1 by omega) with h | h | h
 ·exact .inl ⟨h,Cm.1 (by omega)⟩
 ·exact .inr (.inl ⟨h,Q0y.1 h⟩)
 ·exact .inr (.inr ⟨h,Cn.1 (by omega)⟩)
theorem Qub (p:List Int) (x:Rat):low p x=Sy (cz p) x:=by
 unfold low Sy;rw [Bf,Bf,Uz,If]
theorem Ns {t:Tm} (h:t.lo<t.hi) (q:Rat):Ff t q=cq (cz t.p) t.lo t.hi q:=by
 have hp:t.point=false:=by
  unfold Tm.point;have:¬0<=G7 t.lo t.hi:=λh'=>by have:=Qir.1 h'; grind
  simp [this]
 unfold Ff cq;rw [hp,if_neg (by decide)];have e1:(G7 q t.lo<=0)=(q<=t.lo):=propext Qdz;have e2:(0<G7 q t.hi)=(t.hi<q):=propext Cm;rw [Bf,Qub,<-Uz];simp only [e1,e2]
theorem Nh {t:Tm}:t.point=true↔t.hi<=t.lo:=by
 unfold Tm.point;rw [decide_eq_true_iff]; exact Qir
theorem Et {t:Tm} (h:t.lo=t.hi) (q:Rat):Ff t q=G7 t.lo q:=by
 have hp:t.point=true:=Nh.2 (by rw [h]; exact Qq);unfold Ff; rw [if_pos hp]
theorem Zj1 {c:Rat->Int} {x:Rat} (h:∀ q,c q=G7 x q):Cut c where
 val q:=by rw [h]; have:=I5 x q; omega
 mono q r hqr h1:=by
  rw [h] at h1 ⊢;rcases C5 x q with ⟨e,e'⟩ | ⟨e,e'⟩ | ⟨e,e'⟩
  ·exact absurd e h1
  ·rcases C5 x r with ⟨f,f'⟩ | ⟨f,f'⟩ | ⟨f,f'⟩ <;> grind
  ·rcases C5 x r with ⟨f,f'⟩ | ⟨f,f'⟩ | ⟨f,f'⟩ <;> grind
 up q h1:=by
  rw [h] at h1;have h2:=Cm.1 (show 0<G7 x q by omega);have h3:(x+q) / 2*2=x+q:=G0 (by decide);have h4:=Cm.2 (show (x+q) / 2<x by grind);have:=I5 x ((x+q) / 2);exact ⟨(x+q) / 2,by grind,by rw [h]; omega⟩
 dn q h1:=by
  rw [h] at h1;have h2:=Cn.1 (show G7 x q<0 by omega);have h3:(x+q) / 2*2=x+q:=G0 (by decide);have h4:=Cn.2 (show x<(x+q) / 2 by grind);have:=I5 x ((x+q) / 2);exact ⟨(x+q) / 2,by grind,by rw [h]; omega⟩
 lo:=⟨x-1,by
  rw [h];have h4:=Cm.2 (show x-1<x by grind);have:=I5 x (x-1); omega⟩
 hi:=⟨x+1,by
  rw [h];have h4:=Cn.2 (show x<x+1 by grind);have:=I5 x (x+1); omega⟩
structure Va (t:Tm):Prop where
 i:t.lo=t.hi/\Uy t.p t.lo=0\/∃ L,Vt (cz t.p) L t.lo t.hi
 tr:U0 t.p
 n:t.p.length<=9
 n2:2<=t.p.length
 b:Bd 1000000 t.p
 bi:t.point=false->Bd 1000 t.p
 sc:t.point=false->∃ (l:List (List Int)) (P g:List Int),chF 66 t.p (U7 (Gg t.p))=some l/\Sqp P g t.p/\Vt (cz t.p) ((t.p::l).map cz) t.lo t.hi
 g:∃ D M k,Gr D M k t.lo/\Gr D M k t.hi/\0<M/\U6 (D:Int)+U6 (M:Int)+k<=1000000
theorem Va.le {t:Tm} (h:Va t):t.lo<=t.hi:=by
 rcases h.i with ⟨e,_⟩ | ⟨L,V⟩
 ·rw [e]; exact Qq
 ·exact Qr V.l
theorem Va.pt {t:Tm} (h:Va t) (hp:t.point=true):t.lo=t.hi/\Uy t.p t.lo=0:=by
 rcases h.i with e | ⟨L,V⟩
 ·exact e
 ·have:=Nh.1 hp;have:=V.l;grind
theorem Va.iv {t:Tm} (h:Va t) (hp:t.point=false):∃ L,Vt (cz t.p) L t.lo t.hi:=by
 rcases h.i with ⟨e,_⟩ | h
 ·have:=Nh.2 (show t.hi<=t.lo by rw [e]; exact Qq);rw [hp] at this; cases this
 ·exact h
theorem Va.cut {t:Tm} (h:Va t):Cut (Ff t):=by
 rcases h.i with ⟨e,_⟩ | ⟨L,V⟩
 ·exact Zj1 (x:=t.lo) λq=>Et e q
 ·have:Ff t=cq (cz t.p) t.lo t.hi:=funext λq=>Ns V.l q
  rw [this]; exact V.cut
theorem Zly {c:Rat->Int} (hc:Cut c) {p:List Rat} {x:Rat} (h:c x=0) (h0:ev p x=0):Au p c:=by
 rcases Qbj hc p with h1 | ⟨s,hs,h1⟩
 ·exact h1
 ·have:=Qup hc h h1;rw [Fv.2 h0] at this; exact absurd this.symm hs
theorem Va.van {t:Tm} (h:Va t):Au (cz t.p) (Ff t):=by
 have hc:=h.cut;rcases h.i with ⟨e,h0⟩ | ⟨L,V⟩
 ·exact Zly hc (x:=t.lo) (by rw [Et e,B8]) (by rw [Uz]; exact h0)
 ·have:Ff t=cq (cz t.p) t.lo t.hi:=funext λq=>Ns V.l q
  rw [this]; exact V.van
theorem Va.qs {t:Tm} (h:Va t):Qs 1000000 t.lo/\Qs 1000000 t.hi:=by
 obtain ⟨D,M,k,h1,h2,h3,h4⟩:=h.g;exact ⟨Q1f h1 h3 h4,Q1f h2 h3 h4⟩
theorem Va.tb {t:Tm} (h:Va t):Tb t:=⟨⟨h.tr,by have:=h.n; omega,Ut h.b (by omega)⟩,h.qs.1.mono (t:=16777216) (by omega),h.qs.2.mono (t:=16777216) (by omega)⟩
structure Hv (t:Tm) (D M k:Nat) (u:Tm):Prop where
 p:u.p=t.p
 i:u.lo=u.hi/\Uy u.p u.lo=0\/∃ L,Vt (cz u.p) L u.lo u.hi
 c:∀ q,Ff u q=Ff t q
 l:Gr D M k u.lo
 h:Gr D M k u.hi
theorem Qtc {c:Rat->Int} (hc:Cut c) {x:Rat} (h:c x=0) (q:Rat):c q=G7 x q:=by
 rcases C5 x q with ⟨e,e'⟩ | ⟨e,e'⟩ | ⟨e,e'⟩
 ·rw [e]; exact hc.mono' e' (by omega)
 ·rw [e,<-e',h]
 ·rw [e]; exact hc.mono x q e' (by omega)
theorem Qqn {t u:Tm} {D M k:Nat} (hu:Hv t D M k u) (hM:0<M) (hs:U6 (D:Int)+U6 (M:Int)+(k+1)<=16777216):∃ v,Qqm u=some v/\Hv t D M (k+1) v/\v.hi-v.lo<=(u.hi-u.lo) / 2/\u.lo<=v.lo/\v.hi<=u.hi:=by
 have h2:∀ x:Rat,x / 2*2=x:=λx=>G0 (by decide)
 unfold Qqm;rcases hu.i with ⟨e,h0⟩ | ⟨L,V⟩
 ·have hp:u.point=true:=Nh.2 (by rw [e]; exact Qq);rw [if_pos hp];refine ⟨u,rfl,⟨hu.p,hu.i,hu.c,Qoa hu.l,Qoa hu.h⟩,?_,Qq,Qq⟩;rw [e]; have:=h2 (u.hi-u.hi); grind
 ·have hp:u.point=false:=by
   have:¬u.point=true:=λh=>by have:=Nh.1 h; have:=V.l; grind
   simpa using this
  rw [hp,if_neg (by decide)];obtain ⟨m,hm⟩:=nmE ((u.lo+u.hi) / 2);have hmg:Gr D M (k+1) m:=by rw [hm]; exact Q9l hu.l hu.h
  have hmm:=h2 (u.lo+u.hi);rw [<-hm] at hmm;have hl:=V.l;have hl1:u.lo<m:=by grind
  have hl2:m<u.hi:=by grind
  have hch:chq (mid u.lo u.hi)=some m:=by
   rw [Qx2,<-hm];have:=Q1f hmg hM hs;unfold chq;rw [if_pos ⟨this.1,this.2⟩]
  have hcm:mid u.lo u.hi=m:=by rw [Qx2,<-hm]
  rw [hch];show ∃ v,some (if Ff u m=0 then (⟨u.p,m,m⟩:Tm) else if Ff u m=-1 then ⟨u.p,u.lo,m⟩ else ⟨u.p,m,u.hi⟩)=some v/\_;have hw:=h2 (u.hi-u.lo);have hcu:=Ns hl;have hcut:=V.cut;have hcut':Cut (Ff u):=by rw [show Ff u=cq (cz u.p) u.lo u.hi from funext hcu]; exact hcut
  by_cases c0:Ff u m=0
  ·rw [if_pos c0];have hz:Uy u.p m=0:=by
    have:=Qg9 hcut (q:=m) (by rw [<-hcu]; exact c0) V.van;rwa [Uz] at this
   refine ⟨_,rfl,⟨hu.p,.inl ⟨rfl,hz⟩,λq=>?_,hmg,hmg⟩,by show m-m<=_; grind,by show u.lo<=m; grind,by show m<=u.hi; grind⟩;rw [Et rfl,<-hu.c];exact (Qtc hcut' c0 q).symm
  ·rw [if_neg c0];by_cases c1:Ff u m=-1
   ·rw [if_pos c1];have hv:vv L m=vv L u.hi:=V.eq_hi hl1 (Qr hl2) (by rw [<-hcu,c1]; decide);have V':Vt (cz u.p) L u.lo m:=⟨V.s,hl1,by rw [hv]; exact V.v⟩;refine ⟨_,rfl,⟨hu.p,.inr ⟨L,V'⟩,λq=>?_,Qoa hu.l,hmg⟩,by show m-u.lo<=_; grind,Qq,by show m<=u.hi; grind⟩;rw [Ns hl1,<-hu.c,hcu];exact V.uniq V'.cut (Lr Qq) (by rw [Qd1 hl1 hl2]; decide) V'.van q
   ·rw [if_neg c1];have c2:Ff u m=1:=by rcases hcut'.val m with h | h | h <;> omega
    have hv:vv L m=vv L u.lo:=V.eq_lo hl1 (Qr hl2) (by rw [<-hcu]; exact c2);have V':Vt (cz u.p) L m u.hi:=⟨V.s,hl2,by rw [hv]; exact V.v⟩;refine ⟨_,rfl,⟨hu.p,.inr ⟨L,V'⟩,λq=>?_,hmg,Qoa hu.h⟩,by show u.hi-m<=_; grind,by show u.lo<=m; grind,Qq⟩;rw [Ns hl2,<-hu.c,hcu];exact V.uniq V'.cut (Lr (by grind)) V'.hi1 V'.van q
def Di (a b:Tm):Prop:=∃ q,Ff a q=-1/\Ff b q=1
def TEq (a b:Tm):Prop:=∀ q,Ff a q=Ff b q
theorem tri {a b:Tm} (ha:Cut (Ff a)) (hb:Cut (Ff b)):Di a b\/TEq a b\/Di b a:=by
 rcases Classical.em (TEq a b) with h | h
 ·exact .inr (.inl h)
 ·obtain ⟨q,hq⟩:=Classical.not_forall.1 h;obtain ⟨r,⟨h1,h2⟩ | ⟨h1,h2⟩⟩:=Qtb ha hb hq
  ·exact .inl ⟨r,h1,h2⟩
  ·exact .inr (.inr ⟨r,h2,h1⟩)
theorem Qa1 {a b:Tm} (ha:Cut (Ff a)) (hb:Cut (Ff b)) (h:Di a b) (h':Di b a):False:=by
 obtain ⟨q,q1,q2⟩:=h;obtain ⟨r,r1,r2⟩:=h';have:=ha.lt r2 q1;have:=hb.lt q2 r1;grind
theorem Qva {p:List Int} (k:Nat):(p.getD k 0).natAbs<=2^Gw p:=by
 have h:U6 (p.getD k 0)<=Gw p:=by
  have key:∀ (l:List Int) (n:Nat),n≤l.foldl (λn z=>max n (U6 z)) n/\∀ z∈l,U6 z≤l.foldl (λn z=>max n (U6 z)) n:=by
   intro l
   induction l with
   | nil=>exact λn=>⟨Qm _,λz hz=>by cases hz⟩
   |
    cons y l ih =>
    intro n;obtain ⟨i1,i2⟩:=ih (max n (U6 y));refine ⟨by simp only [Z6]; omega,λz hz=>?_⟩;simp only [Z6];rcases Qo.1 hz with rfl | hz
    ·omega
    ·exact i2 z hz
  exact U9 (s:=Gw p) (λz hz=>(key p 0).2 z hz) k
 rw [T0] at h; omega
theorem Zie {s:Nat}:∀ (B:List Int),(∀ z∈B,z.natAbs≤2^s)->gB B≤2^(s+(B.length-1))
 | [],_=>Qh _
 |
  c::B,h=>by
  have h1:=h c (Qx ..);have h2:=Zie B λz hz=>h z (Qj _ hz)
  simp only [gB,Q8,Jp];have h3:2^s<=2^(s+B.length):=Zx (by decide) (by omega);cases B with
  | nil=>simp only [gB,Vm] at *; omega
  |
   cons d B =>
   have h4:2^(s+(d::B).length)=2*2^(s+((d::B).length-1)):=by
    rw [Zj,<-Zo]; congr 1
   rw [h4]; omega
def Tn (A B:List Int):Nat:=(Gw A+Gw B+(A.length+B.length)+8)*(2*(A.length+B.length-2)-1)
theorem Q88 {A B:List Int} (tA:U0 A) (tB:U0 B) (nA:A.length<=9) (nB:B.length<=9) (lA:2<=A.length) (lB:2<=B.length) {R d:Rat} (hR:1<=R) (dp:0<d)
 (hs:∀ e:Rat,0<e->∃ q r,U8 q<=R/\U8 r<=R/\d<=U8 (q-r)/\U8 (q-r)*((2^(Tn A B+1):Nat):Rat)<=1/\U8 (Uy A q)<e/\U8 (Uy B r)<e):False:=by
 obtain ⟨a,ha⟩:∃ a,A.length=a+1:=⟨A.length-1,by omega⟩;obtain ⟨b,hb⟩:∃ b,B.length=b+1:=⟨B.length-1,by omega⟩;obtain ⟨s,hsd⟩:=nmE (Gw A+Gw B+b);obtain ⟨N,hN⟩:∃ N,b*(2*(a*b))+a*(2*(a*b)-b)=N:=⟨_,rfl⟩;have hNt:N<=2^(a+9):=by
  rw [<-hN];have hab:∀ a b:Fin 9,b.1*(2*(a.1*b.1))+a.1*(2*(a.1*b.1)-b.1)<=2^(a.1+9):=by decide
  exact hab ⟨a,by omega⟩ ⟨b,by omega⟩
 have hK:Tn A B=(s+a+10)*(2*(a+b-1)+1):=by
  unfold Tn;rw [ha,hb,hsd,show a+1+(b+1)-2=a+b by omega,show 2*(a+b)-1=2*(a+b-1)+1 by omega];congr 1; omega
 have h0A:A.getD a 0≠0:=by have:=Hi tA (by omega); rwa [ha] at this
 have h0B:B.getD b 0≠0:=by have:=Hi tB (by omega); rwa [hb] at this
 have hp:∀ m,1<=2^m:=λm=>Z2 (by decide)
 refine Zkd (N:=N) (D:=2^(Tn A B-1)) ha hb h0A h0B (by omega) (by omega) (h:=2^s) (hp s) (λk=>Qc (Qva k) (Zx (by decide) (by omega))) ?_ hN ?_ hR dp λe ep=>?_
 ·refine Qc (Zie (s:=Gw B) B λz hz=>?_) (Zx (by decide) (by omega));obtain ⟨i,hi⟩:=Zd.1 hz;have:=Qva (p:=B) i;rwa [Qg,hi] at this
 ·have h1:2*(N*2^s)<=2^(s+a+10):=by
   have:N*2^s<=2^(a+9)*2^s:=Q0 _ hNt;rw [<-Xb] at this;rw [show s+a+10=(a+9+s)+1 by omega,Zo]; omega
  have h2:N*2^s<=2^(s+a+9):=by
   rw [show s+a+9=(a+9)+s by omega,Xb]; exact Q0 _ hNt
  have h3:=Nat.pow_le_pow_left h1 (2*(a+b-1));have h4:=Zh h2 h3;rw [<-Ur,<-Xb] at h4;rw [<-Xg];refine Qc h4 (Zx (by decide) ?_);rw [hK,Xk,Yw]; omega
 ·obtain ⟨q,r,h1,h2,h3,h4,h5,h6⟩:=hs e ep;refine ⟨q,r,h1,h2,h3,?_,h5,h6⟩;have hK1:1<=Tn A B:=by
   rw [hK]; exact Ya (by omega) (by omega)
  have e1:2^(Tn A B+1)=4*2^(Tn A B-1):=by
   obtain ⟨m,hm⟩:∃ m,Tn A B=m+1:=⟨Tn A B-1,by omega⟩;rw [hm,Jp,Zo,Zo]; omega
  rw [e1] at h4
  push_cast at h4 ⊢
  exact h4
theorem Hv.lo' {t:Tm} {D M k:Nat} {u:Tm} (h:Hv t D M k u):Ff t u.lo=1\/Ff t u.lo=0/\u.lo=u.hi:=by
 rw [<-h.c];rcases h.i with ⟨e,_⟩ | ⟨L,V⟩
 ·exact .inr ⟨by rw [Et e,B8],e⟩
 ·exact .inl (by rw [Ns V.l]; exact Lr Qq)
theorem Hv.hi' {t:Tm} {D M k:Nat} {u:Tm} (h:Hv t D M k u):Ff t u.hi=0\/Ff t u.hi=-1:=by
 rw [<-h.c];rcases h.i with ⟨e,_⟩ | ⟨L,V⟩
 ·exact .inl (by rw [Et e,e,B8])
 ·rw [Ns V.l];have:=V.hi1;rcases V.cut.val u.hi with h | h | h <;> omega
theorem Hv.le {t:Tm} {D M k:Nat} {u:Tm} (h:Hv t D M k u):u.lo<=u.hi:=by
 rcases h.i with ⟨e,_⟩ | ⟨L,V⟩
 ·rw [e]; exact Qq
 ·exact Qr V.l
theorem Q89 {a b:Tm} (ha:Va a) (hb:Va b) {D M k D' M' k':Nat} {u v:Tm} (hu:Hv a D M k u) (hv:Hv b D' M' k' v) (h:Di a b):1<(v.hi-u.lo)*((2^(Tn a.p b.p+1):Nat):Rat):=by
 rcases Fi ((v.hi-u.lo)*((2^(Tn a.p b.p+1):Nat):Rat)) 1 with hw | hw
 ·exfalso;have ca:=ha.cut;have cb:=hb.cut;obtain ⟨m,m1,m2⟩:=h;obtain ⟨m',hm',m3⟩:=ca.dn m m1;have hpow:(0:Rat)<=((2^(Tn a.p b.p+1):Nat):Rat):=Xh;obtain ⟨R,hR⟩:=nmE (U8 u.lo+U8 m'+U8 m+U8 v.hi+1);have n1:=Hn u.lo; have n2:=Hn m'; have n3:=Hn m; have n4:=Hn v.hi;refine Q88 (R:=R) (d:=m-m') ha.tr hb.tr ha.n hb.n ha.n2 hb.n2 (by grind) (by grind) λe ep=>?_
  obtain ⟨q,q1,q2,q3⟩:∃ q,u.lo<=q/\q<=m'/\U8 (Uy a.p q)<e:=by
   rcases hu.lo' with h1 | ⟨h1,_⟩
   ·obtain ⟨x,y,hx,hy,hq⟩:=ha.van e ep;rcases Fi x u.lo with e1 | e1
    ·exact ⟨u.lo,Qq,Qr (ca.lt h1 m3),by rw [<-Uz]; exact hq u.lo e1 (Qr (ca.lt h1 hy))⟩
    ·exact ⟨x,Qr e1,Qr (ca.lt hx m3),by rw [<-Uz]; exact hq x Qq (Qr (ca.lt hx hy))⟩
   ·refine ⟨u.lo,Qq,?_,by rw [<-Uz,Qg9 ca h1 ha.van,H7]; exact ep⟩;rcases Fi u.lo m' with e1 | e1
    ·exact e1
    ·have:=ca.mono m' u.lo e1 (by omega); omega
  obtain ⟨r,r1,r2,r3⟩:∃ r,r<=v.hi/\m<=r/\U8 (Uy b.p r)<e:=by
   rcases hv.hi' with h1 | h1
   ·refine ⟨v.hi,Qq,?_,by rw [<-Uz,Qg9 cb h1 hb.van,H7]; exact ep⟩;rcases Fi m v.hi with e1 | e1
    ·exact e1
    ·have:=cb.mono v.hi m e1 (by omega); omega
   ·obtain ⟨x,y,hx,hy,hq⟩:=hb.van e ep;rcases Fi v.hi y with e1 | e1
    ·exact ⟨v.hi,Qq,Qr (cb.lt m2 h1),by rw [<-Uz]; exact hq v.hi (Qr (cb.lt hx h1)) e1⟩
    ·exact ⟨y,Qr e1,Qr (cb.lt m2 hy),by rw [<-Uz]; exact hq y (Qr (cb.lt hx hy)) Qq⟩
  have e1:U8 (q-r)=r-q:=by unfold U8; split <;> grind
  have b1:U8 q<=R:=by
   have:=Qed (R:=R) (x:=u.lo) (y:=m') (t:=q) (by grind) (by grind) q1 q2; exact this
  have b2:U8 r<=R:=by
   have:=Qed (R:=R) (x:=m) (y:=v.hi) (t:=r) (by grind) (by grind) r2 r1; exact this
  refine ⟨q,r,b1,b2,by rw [e1]; grind,?_,q3,r3⟩;rw [e1];have:=Zc (show r-q<=v.hi-u.lo by grind) hpow;exact Zg this hw
 ·exact hw
theorem Qsr {a b:Tm} (ha:Va a) (hb:Va b) {D M k D' M' k':Nat} {u v:Tm} (hu:Hv a D M k u) (hv:Hv b D' M' k' v) (hne:¬TEq a b) (h:C0 u v=true):Di a b:=by
 have h1:=(of_decide_eq_true h).1;have h1:=Qdz.1 h1;rcases tri ha.cut hb.cut with h2 | h2 | ⟨m,m1,m2⟩
 ·exact h2
 ·exact absurd h2 hne
 ·exfalso;have e1:m<u.hi:=by
   rcases Fi u.hi m with e | e
   ·rcases Classical.em (u.hi=m) with e' | e'
    ·have:=hu.hi'; rw [e'] at this; omega
    ·have:=ha.cut.mono u.hi m (by grind) (by have:=hu.hi'; omega); omega
   ·exact e
  have e2:v.lo<m:=by
   rcases Fi m v.lo with e | e
   ·rcases Classical.em (m=v.lo) with e' | e'
    ·have:=hv.lo'; rw [<-e'] at this; omega
    ·have:=hb.cut.mono m v.lo (by grind) (by omega);have:=hv.lo'; omega
   ·exact e
  grind
theorem Q2a {a b:Tm} (ha:Va a) (hb:Va b) {D M k D' M' k':Nat} {u v:Tm} (hu:Hv a D M k u) (hv:Hv b D' M' k' v) (hlt:Di a b) (h:C0 u v≠true):v.lo<=u.hi:=by
 rcases Fi v.lo u.hi with e | e
 ·exact e
 ·refine absurd (decide_eq_true ⟨Qdz.2 (Qr e),λh'=>?_⟩) h;have:=Q0y.1 h'.2; grind
theorem Qu6 (m:Nat):((2^(m+1):Nat):Rat)=2*((2^m:Nat):Rat):=by rw [Zo]; push_cast; grind
def Zi0 (a b:Tm) (r:Tm×Tm×Int):Prop:=r.2.2=-1/\Di a b\/r.2.2=1/\Di b a
theorem Q4s (A B:List Int):Tn A B=Tn B A:=by unfold Tn; rw [Nat.add_comm A.length,Nat.add_comm (Gw A)]
theorem Zmf {a b:Tm} (ha:Va a) (hb:Va b) (hne:¬TEq a b) {D M D' M':Nat} (hM:0<M) (hM':0<M'):∀ (i j:Nat) (u v:Tm) (k k':Nat) (W:Rat),2*i+1<=j->Hv a D M k u->Hv b D' M' k' v->U6 (D:Int)+U6 (M:Int)+(k+j)<=16777216->U6 (D':Int)+U6 (M':Int)+(k'+j)<=16777216->u.hi-u.lo<=W->v.hi-v.lo<=W->2*W*((2^(Tn a.p b.p+1):Nat):Rat)<=((2^i:Nat):Rat)->∃ r,apF j u v=some r/\Zi0 a b r:=by
 intro i;have step:∀ (j:Nat) (u v:Tm) (k k':Nat),Hv a D M k u->Hv b D' M' k' v->U6 (D:Int)+U6 (M:Int)+(k+(j+1))<=16777216->U6 (D':Int)+U6 (M':Int)+(k'+(j+1))<=16777216->(∃ r,apF (j+1) u v=some r/\Zi0 a b r)\/(C0 u v≠true/\C0 v u≠true/\∃ u' v' k1 k1',apF (j+1) u v=apF j u' v'/\Hv a D M k1 u'/\Hv b D' M' k1' v'/\k1<=k+1/\k1'<=k'+1/\(v.hi-v.lo<=u.hi-u.lo/\u'.hi-u'.lo<=(u.hi-u.lo) / 2/\v'=v\/u.hi-u.lo<=v.hi-v.lo/\v'.hi-v'.lo<=(v.hi-v.lo) / 2/\u'=u)):=by
  intro j u v k k' hu hv hs hs';by_cases h1:C0 u v=true
  ·exact .inl ⟨(u,v,-1),by simp only [apF]; rw [if_pos h1],.inl ⟨rfl,Qsr ha hb hu hv hne h1⟩⟩
  by_cases h2:C0 v u=true
  ·exact .inl ⟨(u,v,1),by simp only [apF]; rw [if_neg h1,if_pos h2],.inr ⟨rfl,Qsr hb ha hv hu (λh=>hne λq=>(h q).symm) h2⟩⟩
  refine .inr ⟨h1,h2,?_⟩;by_cases h3:0<=G7 (Qmc u.hi u.lo) (Qmc v.hi v.lo)
  ·obtain ⟨x,x1,x2,x3,_⟩:=Qqn hu hM (by omega);refine ⟨x,v,k+1,k',?_,x2,hv,by omega,by omega,.inl ⟨?_,x3,rfl⟩⟩
   ·simp only [apF]; rw [if_neg h1,if_neg h2,if_pos h3,x1]; rfl
   ·have:=Qir.1 h3; rwa [Qja,Qja] at this
  ·obtain ⟨x,x1,x2,x3,_⟩:=Qqn hv hM' (by omega);refine ⟨u,x,k,k'+1,?_,hu,x2,by omega,by omega,.inr ⟨?_,x3,rfl⟩⟩
   ·simp only [apF]; rw [if_neg h1,if_neg h2,if_neg h3,x1]; rfl
   ·rcases Fi (u.hi-u.lo) (v.hi-v.lo) with e | e
    ·exact e
    ·refine absurd (Qir.2 ?_) h3;rw [Qja,Qja]; exact Qr e
 induction i with
 |
  zero =>
  intro j u v k k' W hj hu hv hs hs' hW hW' hK;obtain ⟨j,rfl⟩:∃ m,j=m+1:=⟨j-1,by omega⟩;rcases step j u v k k' hu hv hs hs' with h | ⟨h1,h2,_⟩
  ·exact h
  ·exfalso;have hpow:(0:Rat)<=((2^(Tn a.p b.p+1):Nat):Rat):=Xh;rw [Vg] at hK;rcases tri ha.cut hb.cut with h3 | h3 | h3
   ·have h4:=Q2a ha hb hu hv h3 h1;have h5:=Q89 ha hb hu hv h3;have h6:=Zc (show v.hi-u.lo<=2*W by clear step; grind) hpow;have h7:((1:Nat):Rat)=1:=rfl;rw [h7] at hK;clear step; grind
   ·exact hne h3
   ·have h4:=Q2a hb ha hv hu h3 h2;have h5:=Q89 hb ha hv hu h3;rw [Q4s] at h5;have h6:=Zc (show u.hi-v.lo<=2*W by clear step; grind) hpow;have h7:((1:Nat):Rat)=1:=rfl;rw [h7] at hK;clear step; grind
 |
  succ i ih =>
  intro j u v k k' W hj hu hv hs hs' hW hW' hK;obtain ⟨j,rfl⟩:∃ m,j=m+2:=⟨j-2,by omega⟩;have hd:∀ x:Rat,x / 2*2=x:=λx=>G0 (by decide)
  rcases step (j+1) u v k k' hu hv hs hs' with h | ⟨_,_,u1,v1,k1,k1',e1,hu1,hv1,hk1,hk1',hw1⟩
  ·exact h
  ·rw [e1];rcases step j u1 v1 k1 k1' hu1 hv1 (by omega) (by omega) with h | ⟨_,_,u2,v2,k2,k2',e2,hu2,hv2,hk2,hk2',hw2⟩
   ·exact h
   ·rw [e2];have a1:=hd (u.hi-u.lo); have a2:=hd (v.hi-v.lo); have a3:=hd (u1.hi-u1.lo); have a4:=hd (v1.hi-v1.lo); have a5:=hd W;have b1:=hu.le; have b2:=hv.le; have b3:=hu1.le; have b4:=hv1.le; have b5:=hu2.le; have b6:=hv2.le;have hww:u2.hi-u2.lo<=W / 2/\v2.hi-v2.lo<=W / 2:=by
     clear step ih;rcases hw1 with ⟨c1,c2,rfl⟩ | ⟨c1,c2,rfl⟩ <;> rcases hw2 with ⟨d1,d2,rfl⟩ | ⟨d1,d2,rfl⟩ <;> constructor <;> grind
    refine ih j u2 v2 k2 k2' (W / 2) (by omega) hu2 hv2 (by omega) (by omega) hww.1 hww.2 ?_;rw [Qu6 i] at hK;have:2*(W / 2)*((2^(Tn a.p b.p+1):Nat):Rat)*2=2*W*((2^(Tn a.p b.p+1):Nat):Rat):=by clear step ih hw1 hw2; grind
    clear step ih hw1 hw2; grind
def CmpOk (a b:Tm) (c:Int):Prop:=c=-1/\Di a b\/c=0/\TEq a b\/c=1/\Di b a
theorem Va.hv0 {t:Tm} (h:Va t):∃ D M k,Hv t D M k t/\0<M/\U6 (D:Int)+U6 (M:Int)+k<=1000000:=by
 obtain ⟨D,M,k,h1,h2,h3,h4⟩:=h.g;exact ⟨D,M,k,⟨rfl,h.i,λ_=>rfl,h1,h2⟩,h3,h4⟩
theorem Qyk {a:Tm} (ha:Va a) (hp:a.point=true) (q:Rat):Ff a q=G7 a.lo q:=Et (ha.pt hp).1 q
theorem Q8i {a b:Tm} (hb:Va b) {x:Rat} (hx:∀ q,Ff a q=G7 x q):CmpOk a b (-Ff b x):=by
 have cb:=hb.cut;rcases cb.val x with h | h | h
 ·obtain ⟨q,q1,q2⟩:=cb.up x h;refine .inl ⟨by omega,q,?_,q2⟩;rw [hx]; rcases C5 x q with ⟨e,e'⟩ | ⟨e,e'⟩ | ⟨e,e'⟩ <;> grind
 ·exact .inr (.inl ⟨by omega,λq=>by rw [hx,Qtc cb h]⟩)
 ·obtain ⟨q,q1,q2⟩:=cb.dn x h;refine .inr (.inr ⟨by omega,q,q2,?_⟩);rw [hx]; rcases C5 x q with ⟨e,e'⟩ | ⟨e,e'⟩ | ⟨e,e'⟩ <;> grind
theorem CmpOk.symm {a b:Tm} {c:Int} (h:CmpOk a b c):CmpOk b a (-c):=by
 rcases h with ⟨h1,h2⟩ | ⟨h1,h2⟩ | ⟨h1,h2⟩
 ·exact .inr (.inr ⟨by omega,h2⟩)
 ·exact .inr (.inl ⟨by omega,λq=>(h2 q).symm⟩)
 ·exact .inl ⟨by omega,h2⟩
theorem Zn0:Szz 9 1000:=⟨by decide,by decide⟩
theorem Qec (g:List Int) (lo hi:Rat):Qeb g lo hi=true↔Qxp (cz g) lo hi:=by
 unfold Qeb Qxp;rw [decide_eq_true_iff,Bf,Qub,Uz]
theorem Qtw {g:List Int} (tg:U0 g) (hn:g.length≠0) {lo hi:Rat} (h:Qxp (cz g) lo hi):1<g.length:=by
 rcases Za 1 g.length with e | e
 ·exact e
 ·exfalso;obtain ⟨c,rfl⟩:∃ c,g=[c]:=Kz.1 (by omega);have hc:c≠0:=by have:=Hi tg (by simp); simpa using this
  have hv:∀ t,ev (cz [c]) t=(c:Rat):=λt=>by rw [Uz]; simp only [Uy]; grind
  have hs:U5 (c:Rat)≠0:=λh=>Qas hc (Fv.1 h)
  unfold Qxp at h;rw [hv,L9 (by rw [hv]; exact hs),hv] at h;rcases h with h | h
  ·exact hs h
  ·exact h rfl
theorem Qlf {q:Rat}:U8 q<=((2^U6 q.num:Nat):Rat):=by
 have h1:U6 q.num<=U6 q.num:=Qm _;rw [T0] at h1;have e:(q.num:Rat)=q*(q.den:Rat):=by
  have:(q.num:Rat) / (((q.den:Int)):Rat)=q:=by rw [Hy,Z3]
  have h2:(q.num:Rat) / (q.den:Rat)*(q.den:Rat)=q.num:=Zk (by have:=nat_pos q.den_pos; grind);rw [show (q.num:Rat) / (q.den:Rat)=q from this] at h2; exact h2.symm
 have hd:(1:Rat)<=(q.den:Rat):=by
  have:((1:Nat):Rat)<=(q.den:Rat):=Zi.2 q.den_pos;exact this
 have h2:U8 q<=U8 (q.num:Rat):=by
  rw [e,E8];have:U8 (q.den:Rat)=(q.den:Rat):=by unfold U8; rw [if_neg (by grind)]
  rw [this];have:=Nx (a:=U8 q) (c:=1) (Hn q) Qq (by decide) hd;grind
 rw [Ty] at h2;exact Zg h2 (Zi.2 (Yj h1))
theorem Qhb {a:Tm} {w:Nat} (h:U6 a.lo.num+U6 a.hi.num<=w):a.hi-a.lo<=((2^(w+1):Nat):Rat):=by
 have h1:=Qlf (q:=a.lo);have h2:=Qlf (q:=a.hi);have h3:((2^U6 a.lo.num:Nat):Rat)<=((2^w:Nat):Rat):=Zi.2 (Zx (by decide) (by omega));have h4:((2^U6 a.hi.num:Nat):Rat)<=((2^w:Nat):Rat):=Zi.2 (Zx (by decide) (by omega));rw [Qu6];rw [Py] at h1 h2;grind
theorem Il {p:List Int} {s:Nat} (h:Bd s p):Gw p<=s:=by
 have:=Pw h p.length; rwa [Qy] at this
theorem Zcf {a b:Tm} (ha:Va a) (hb:Va b) (pa:a.point=false) (pb:b.point=false):Ph a b<=9000000:=by
 have q1:=ha.qs; have q2:=hb.qs;have l1:=ha.n; have l2:=hb.n;have s1:=Il (ha.bi pa); have s2:=Il (hb.bi pb);have b1:=q1.1.1; have b2:=q1.2.1; have b3:=q2.1.1; have b4:=q2.2.1;have:4*(a.p.length+b.p.length)*(Gw a.p+Gw b.p+(a.p.length+b.p.length)+8)<=4*18*2100:=Zh (by omega) (by omega);unfold Ph; omega
theorem Q6c {a b:Tm} (ha:Va a) (hb:Va b) (pa:a.point=false) (pb:b.point=false) (hne:¬TEq a b):∃ r,apF (Ph a b) a b=some r/\Zi0 a b r:=by
 obtain ⟨D,M,k,h1,h2,h3⟩:=ha.hv0;obtain ⟨D',M',k',h1',h2',h3'⟩:=hb.hv0;have hst:=Zcf ha hb pa pb;obtain ⟨w,hw⟩:=nmE (U6 a.lo.num+U6 a.hi.num+U6 b.lo.num+U6 b.hi.num);obtain ⟨K,hK⟩:=nmE (Gw a.p+Gw b.p+(a.p.length+b.p.length)+8);obtain ⟨n,hn⟩:=nmE (a.p.length+b.p.length);have l1:=ha.n2; have l2:=hb.n2;have hsteps:Ph a b=64+2*w+4*n*K:=by unfold Ph; rw [hw,hK,hn]
 have hg:Tn a.p b.p=K*(2*(n-2)-1):=by unfold Tn; rw [hK,hn]
 have hgle:Tn a.p b.p+5*K<=2*n*K:=by
  rw [hg,Zj K,<-X6];exact Q0 _ (by omega)
 have hKp:8<=K:=by omega
 refine Zmf ha hb hne h2 h2' (31+w+2*n*K) (Ph a b) a b k k' ((2^(w+1):Nat):Rat) ?_ h1 h1' (by omega) (by omega) (Qhb (by omega)) (Qhb (by omega)) ?_
 ·rw [hsteps,Xk,Xg 4,Xg 2 n]; omega
 ·have e:2*(2^(w+1))*(2^(Tn a.p b.p+1))<=2^(31+w+2*n*K):=by
   rw [Zj 2,<-Zo,<-Xb];exact Zx (by decide) (by omega)
  have:=Zi.2 e
  push_cast at this ⊢
  exact this
theorem Qdy {a b:Tm} (ha:Va a) (hb:Va b):∃ c,Qfy a b=some c/\CmpOk a b c:=by
 unfold Qfy;by_cases pa:a.point=true
 ·rw [if_pos pa];exact ⟨_,rfl,Q8i hb (Qyk ha pa)⟩
 rw [if_neg pa];by_cases pb:b.point=true
 ·rw [if_pos pb];have:=(Q8i ha (Qyk hb pb)).symm;rw [Int.neg_neg] at this;exact ⟨_,rfl,this⟩
 rw [if_neg pb];have pa:a.point=false:=by simpa using pa
 have pb:b.point=false:=by simpa using pb
 obtain ⟨L,V⟩:=ha.iv pa;obtain ⟨L',V'⟩:=hb.iv pb;have eqa:∀ q,Ff a q=cq (cz a.p) a.lo a.hi q:=Ns V.l;have eqb:∀ q,Ff b q=cq (cz b.p) b.lo b.hi q:=Ns V'.l;obtain ⟨lo,hlo⟩:=nmE (if 0<G7 b.lo a.lo then b.lo else a.lo);obtain ⟨hi,hhi⟩:=nmE (if G7 b.hi a.hi<0 then b.hi else a.hi);show ∃ c,(if G7 (if 0<G7 b.lo a.lo then b.lo else a.lo) (if G7 b.hi a.hi<0 then b.hi else a.hi)<0 then _ else _)=some c/\_;rw [<-hlo,<-hhi];have e1:(0<G7 b.lo a.lo)=(a.lo<b.lo):=propext Cm;have e2:(G7 b.hi a.hi<0)=(b.hi<a.hi):=propext Cn;have e3:(G7 lo hi<0)=(lo<hi):=propext Cn;simp only [e1] at hlo;simp only [e2] at hhi;simp only [e3];obtain ⟨g,g1,g2,g3,g4⟩:=Q9g Zn0 ha.tr hb.tr ha.n hb.n (ha.bi pa) (hb.bi pb) (by have:=ha.n2; omega);obtain ⟨U,W,hc⟩:=g2.c;obtain ⟨u,hu⟩:=g2.da;obtain ⟨u',hu'⟩:=g2.db;have key:=V.same V' (g:=cz g) (u:=u) (u':=u') (U:=U) (W:=W) (k:=1) (by decide) hu hu' (λt=>by rw [Uz,Uz,Uz,hc]; grind) (a:=lo) (b:=hi) (by rw [hlo]; split <;> grind) (by rw [hlo]; split <;> grind) (by rw [hlo]; split <;> simp) (by rw [hhi]; split <;> grind) (by rw [hhi]; split <;> grind) (by rw [hhi]; split <;> simp);have hTE:(∀ q,cq (cz a.p) a.lo a.hi q=cq (cz b.p) b.lo b.hi q)↔TEq a b:=by
  unfold TEq; constructor
  ·intro h q; rw [eqa,eqb]; exact h q
  ·intro h q; rw [<-eqa,<-eqb]; exact h q
 rw [hTE] at key;have fin:¬TEq a b->∃ c,((apF (Ph a b) a b).bind λr=>some r.2.2)=some c/\CmpOk a b c:=λhne=>by
  obtain ⟨r,r1,r2⟩:=Q6c ha hb pa pb hne;refine ⟨r.2.2,by rw [r1]; rfl,?_⟩;rcases r2 with h | h
  ·exact .inl h
  ·exact .inr (.inr h)
 by_cases hl:lo<hi
 ·rw [if_pos hl,g1];show ∃ c,(if 1<g.length/\Qeb g lo hi=true then some 0 else (apF (Ph a b) a b).bind λr=>some r.2.2)=some c/\_;by_cases hh:Qeb g lo hi=true
  ·have hq:=(Qec g lo hi).1 hh;rw [if_pos ⟨Qtw g2.t g2.n hq,hh⟩];exact ⟨0,rfl,.inr (.inl ⟨rfl,key.1 ⟨hl,hq⟩⟩)⟩
  ·rw [if_neg λh=>hh h.2];exact fin λh=>hh ((Qec g lo hi).2 (key.2 h).2)
 ·rw [if_neg hl];exact fin λh=>hl (key.2 h).1
def SgT (p:List Int) (a:Tm) (s:Int):Prop:=s=0/\Au (cz p) (Ff a)\/s≠0/\NZ (cz p) (Ff a) s
theorem Zlb {p:List Int} {c:Rat->Int} (hc:Cut c) {x:Rat} (h:c x=0):G8 p x=0/\Au (cz p) c\/G8 p x≠0/\NZ (cz p) c (G8 p x):=by
 rw [Bf,<-Uz];rcases Qbj hc (cz p) with h1 | ⟨s,hs,h1⟩
 ·exact .inl ⟨Fv.2 (Qg9 hc h h1),h1⟩
 ·have:=Qup hc h h1;rw [this]; exact .inr ⟨hs,h1⟩
theorem Ix {l:List (List Int)} {lo hi:Rat} (h:lo<=hi):Rz l lo hi=(vv (l.map cz) lo:Int)-(vv (l.map cz) hi:Int):=by
 unfold Rz;rw [if_neg λh'=>by have:=Cn.1 h'; grind,On,On]
theorem Zlc {p q:List Int} {L:List (List Rat)} (hp:U0 p) (np:p.length<=9) (lp:2<=p.length) (hS:Stm (cz q) L) (hpq:O3 (cz q) (cz p)) {a:Tm} (ha:Va a) {s:Int} (hnz:NZ (cz p) (Ff a) s) {D M k:Nat} {x:Tm} (hx:Hv a D M k x) (hl:x.lo<x.hi) (hv:vv L x.lo≠vv L x.hi):1<(x.hi-x.lo)*((2^(Tn a.p p+1):Nat):Rat):=by
 rcases Fi ((x.hi-x.lo)*((2^(Tn a.p p+1):Nat):Rat)) 1 with hw | hw
 ·exfalso;have ca:=ha.cut;obtain ⟨d,dp,x1,y1,c1,c2,hn⟩:=hnz;obtain ⟨x2,x12,c3⟩:=ca.up x1 c1;obtain ⟨y2,y12,c4⟩:=ca.dn y1 c2;have hpow:(0:Rat)<=((2^(Tn a.p p+1):Nat):Rat):=Xh;obtain ⟨z,zp,z1,z2⟩:=min2 (a:=x2-x1) (b:=y1-y2) (by clear hn; grind) (by clear hn; grind);obtain ⟨R0,hR0,r1,r2⟩:=Qpm x.lo x.hi;obtain ⟨u,hu⟩:=hpq;refine Q88 (R:=R0+1) (d:=z) ha.tr hp ha.n np ha.n2 lp (by clear hn; grind) zp λe ep=>?_
  obtain ⟨q0,q1,q2,q3,q4,q5⟩:∃ q0,x.lo<=q0/\q0<=x.hi/\x2<=q0/\q0<=y2/\U8 (Uy a.p q0)<e:=by
   rcases hx.lo' with h1 | ⟨h1,h2⟩
   ·obtain ⟨x',y',hx',hy',hq⟩:=ha.van e ep;obtain ⟨m,m1,m2,m3,m4⟩:∃ m,Ff a m=1/\x.lo<=m/\x2<=m/\x'<=m:=by
     rcases Fi x.lo x2 with e1 | e1
     ·rcases Fi x2 x' with e2 | e2
      ·exact ⟨x',hx',by clear hn hq; grind,e2,Qq⟩
      ·exact ⟨x2,c3,e1,Qq,Qr e2⟩
     ·rcases Fi x.lo x' with e2 | e2
      ·exact ⟨x',hx',e2,by clear hn hq; grind,Qq⟩
      ·exact ⟨x.lo,h1,Qq,Qr e1,Qr e2⟩
    refine ⟨m,m2,?_,m3,Qr (ca.lt m1 c4),by rw [<-Uz]; exact hq m m4 (Qr (ca.lt m1 hy'))⟩;rcases hx.hi' with h3 | h3
    ·rcases Fi m x.hi with e1 | e1
     ·exact e1
     ·have:=ca.mono x.hi m e1 (by omega); omega
    ·exact Qr (ca.lt m1 h3)
   ·exact absurd h2 (by clear hn; grind)
  obtain ⟨b,hb⟩:=nmE (evB R0 u);have hb0:0<=b:=by rw [hb]; exact Qan hR0 u
  obtain ⟨f,fp,_,hf⟩:=G5 (b:=b) (d:=if e<=d then e else d) hb0 (by split <;> assumption);obtain ⟨r,r3,r4,r5⟩:=Qr4 hS hl hv fp;have hrR:U8 r<=R0:=Qed r1 r2 r3 r4;have hpr:U8 (Uy p r)<(if e<=d then e else d):=by
   rw [<-Uz,hu];have:=Gz (Qr r5) (Qhk hrR u);rw [<-hb] at this;exact Jg.1 λh=>absurd (Zg h this) (Jg.2 hf)
  have hpe:U8 (Uy p r)<e:=by split at hpr <;> (clear hn; grind)
  have hpd:U8 (Uy p r)<d:=by split at hpr <;> (clear hn; grind)
  have hrout:r<x1\/y1<r:=by
   rcases Fi x1 r with e1 | e1
   ·rcases Fi r y1 with e2 | e2
    ·have:=(hn r e1 e2).2;rw [Uz] at this;exact absurd this (Jg.2 hpd)
    ·exact .inr e2
   ·exact .inl e1
  have hqr:z<=U8 (q0-r):=by
   clear hn;rcases hrout with h | h
   ·have:U8 (q0-r)=q0-r:=by unfold U8; split <;> grind
    rw [this]; grind
   ·have:U8 (q0-r)=r-q0:=by unfold U8; split <;> grind
    rw [this]; grind
  have hq0R:U8 q0<=R0:=Qed r1 r2 q1 q2;refine ⟨q0,r,by clear hn; grind,by clear hn; grind,hqr,?_,q5,hpe⟩;have h1:U8 (q0-r)<=x.hi-x.lo:=by rw [Py]; clear hn; constructor <;> grind
  exact Zg (Zc h1 hpow) hw
 ·exact hw
theorem Zb1 {p q:List Int} {l:List (List Int)} (hp:U0 p) (np:p.length<=9) (lp:2<=p.length) (hS:Stm (cz q) (l.map cz)) (hpq:O3 (cz q) (cz p)) {a:Tm} (ha:Va a) {s:Int} (hnz:NZ (cz p) (Ff a) s) {D M:Nat} (hM:0<M):∀ (j i:Nat) (x:Tm) (k:Nat) (W:Rat),i+1<=j->Hv a D M k x->U6 (D:Int)+U6 (M:Int)+(k+j)<=16777216->x.hi-x.lo<=W->W*((2^(Tn a.p p+1):Nat):Rat)<=((2^i:Nat):Rat)->∃ u k',sgF l j x=some u/\Hv a D M k' u/\(u.point=true\/Rz l u.lo u.hi=0)
 | 0,i,x,k,W,h,_,_,_,_=>by omega
 |
  j+1,i,x,k,W,hj,hx,hs,hW,hK=>by
  simp only [sgF];by_cases h:x.point=true\/Rz l x.lo x.hi=0
  ·rw [if_pos h]; exact ⟨x,k,rfl,hx,h⟩
  ·rw [if_neg h];obtain ⟨v,v1,v2,v3,_⟩:=Qqn hx hM (by omega);rw [v1];show ∃ u k',sgF l j v=some u/\_;have hpt:¬x.hi<=x.lo:=λh'=>h (.inl (Nh.2 h'))
   have hl:x.lo<x.hi:=by grind
   have hvv:vv (l.map cz) x.lo≠vv (l.map cz) x.hi:=λh'=>h (.inr (by rw [Ix (Qr hl)]; omega))
   have hg:=Zlc hp np lp hS hpq ha hnz hx hl hvv;have hpow:(0:Rat)<=((2^(Tn a.p p+1):Nat):Rat):=Xh;have hd:∀ x:Rat,x / 2*2=x:=λx=>G0 (by decide)
   cases i with
   |
    zero =>
    exfalso;rw [Vg] at hK;have:=Zc hW hpow;have h7:((1:Nat):Rat)=1:=rfl;rw [h7] at hK;grind
   |
    succ i =>
    refine Zb1 hp np lp hS hpq ha hnz hM j i v (k+1) (W / 2) (by omega) v2 (by omega) ?_ ?_
    ·have:=hd (x.hi-x.lo); have:=hd W; grind
    ·rw [Qu6 i] at hK;have:=hd W;have:W / 2*((2^(Tn a.p p+1):Nat):Rat)*2=W*((2^(Tn a.p p+1):Nat):Rat):=by grind
     grind
theorem Qux {x y:Rat}:∀ {ws:List (List Rat)},(∀ w∈ws,U5 (ev w x)=U5 (ev w y))->U5 (ev (Ic ws) x)=U5 (ev (Ic ws) y)
 | [],_=>by simp only [Ic]; rw [Rr,Rr]
 |
  w::l,h=>by
  simp only [Ic];rw [U4,U4,Tx,Tx,h w (Qx ..),Qux λv hv=>h v (Qj _ hv)]
theorem Q48 {p q o:List Int} (hpt:Parts p q o) (tp:U0 p) (hp:p.length≠0) {L:List (List Rat)} (hS:Stm (cz q) L) {x y:Rat} (hxy:x<y) (hv:vv L x=vv L y):∃ s,s≠0/\∀ z,x<z->z<=y->U5 (Uy p z)=s:=by
 obtain ⟨ws,w1,w2⟩:=hpt.ws;obtain ⟨_,_,_,_,_,p6,p7⟩:=Be tp hp;have key:∀ z,x<z->z≤y->∀ w∈ws.map cz,Sm w x z:=λz h1 h2 w hw=>by
  obtain ⟨v,hv',rfl⟩:=Zn.1 hw;obtain ⟨u,hu⟩:=(w1 v hv').2;have a1:=El hS h1;have a2:vv L y<=vv L z:=by
   rcases Classical.em (z=y) with e | e
   ·rw [e]; exact Qm _
   ·exact El hS (by grind)
  exact Qct hS hu h1 (by omega)
 have hval:∀ z,Uy p z=(Hd p:Rat)*ev (Ic (ws.map cz)) z:=λz=>by rw [p7,w2]
 refine ⟨U5 (Uy p y),λh0=>?_,λz h1 h2=>?_⟩
 ·rw [hval,Tx] at h0;rcases Yy.1 h0 with h | h
  ·exact Qas p6 (Fv.1 h)
  ·have:∀ l:List (List Rat),(∀ w∈l,U5 (ev w y)≠0)->U5 (ev (Ic l) y)≠0:=by
    intro l
    induction l with
    | nil=>intro _; simp only [Ic]; rw [Rr]; decide
    |
     cons w l ih =>
     intro h;simp only [Ic];rw [U4,Tx];exact X9 (h w (Qx ..)) (ih λv hv=>h v (Qj _ hv))
   refine this _ (λw hw=>?_) h;have hs:=key y hxy Qq w hw;rw [hs.s]; exact hs.n
 ·rw [hval,hval,Tx,Tx,Qux (y:=y) λw hw=>(key z h1 h2 w hw).s.trans (key y hxy Qq w hw).s.symm]
theorem Zke {g p P:List Int} {c:Rat->Int} (hc:Cut c) (hg:Gc g p P):Au (cz g) c↔Au (cz p) c/\Au (cz P) c:=by
 constructor
 ·intro h;obtain ⟨u,hu⟩:=hg.da;obtain ⟨v,hv⟩:=hg.db;exact ⟨Pj hc hu h,Pj hc hv h⟩
 ·rintro ⟨h1,h2⟩
  obtain ⟨U,V,hcc⟩:=hg.c;have a1:Au (Gq U (cz p)) c:=Pj hc (p:=cz p) (q:=U) (λt=>by rw [U4]; grind) h1;have a2:Au (Gq V (cz P)) c:=Pj hc (p:=cz P) (q:=V) (λt=>by rw [U4]; grind) h2;exact Qjg (λt=>by rw [Uz,hcc,U4,U4,Uz,Uz]) a1 a2
theorem Zb8 {p:List Int} (hp:Okp 9 900 p) {a:Tm} (ha:Va a):∃ s,Qpa p a=some s/\SgT p a s:=by
 unfold Qpa;rw [if_neg hp.nz];have ca:=ha.cut;by_cases pa:a.point=true
 ·rw [if_pos pa];exact ⟨_,rfl,Zlb ca (x:=a.lo) (by rw [Qyk ha pa,B8])⟩
 rw [if_neg pa];have pa:a.point=false:=by simpa using pa
 obtain ⟨L,V⟩:=ha.iv pa;have eqa:∀ q,Ff a q=cq (cz a.p) a.lo a.hi q:=Ns V.l;obtain ⟨g,g1,g2,g3,g4⟩:=Q9g Zn0 hp.t ha.tr hp.l ha.n (Ut hp.b (by omega)) (ha.bi pa) hp.nz;obtain ⟨u',hu'⟩:=g2.db;have hhas:=V.has hu' (a:=a.lo) (b:=a.hi) Qq V.l Qq;have hvan:=Zke ca g2;rw [show cq (cz a.p) a.lo a.hi=Ff a from (funext eqa).symm] at hhas;rw [g1];show ∃ s,(if 1<g.length/\Qeb g a.lo a.hi=true then some 0 else _)=some s/\_;by_cases hh:Qeb g a.lo a.hi=true
 ·have hq:=(Qec g _ _).1 hh;rw [if_pos ⟨Qtw g2.t g2.n hq,hh⟩];exact ⟨0,rfl,.inl ⟨rfl,(hvan.1 (hhas.1 hq).1).1⟩⟩
 ·rw [if_neg λh=>hh h.2];have hnv:¬Au (cz p) (Ff a):=λh=>hh ((Qec g _ _).2 (hhas.2 ⟨hvan.2 ⟨h,ha.van⟩,by rw [eqa]; exact Lr Qq,by rw [eqa]; exact V.hi1⟩))
  rcases Qbj ca (cz p) with h | ⟨s,hs0,hnz⟩
  ·exact absurd h hnv
  obtain ⟨q,o,q1,q2,hpt⟩:=Zai hp;obtain ⟨q',l,r1,r2,hS,hl0⟩:=chain_ok hp;rw [q1] at r1;injection r1 with r1;subst r1;rw [r2];show ∃ s,((sgF (q::l) (64+2*(U6 a.lo.num+U6 a.hi.num)+4*(a.p.length+p.length)*(Gw a.p+Gw p+(a.p.length+p.length)+8)) a).bind λx=>some (G8 p x.hi))=some s/\_;obtain ⟨w,hw⟩:=nmE (U6 a.lo.num+U6 a.hi.num);obtain ⟨K,hK⟩:=nmE (Gw a.p+Gw p+(a.p.length+p.length)+8);obtain ⟨n,hn⟩:=nmE (a.p.length+p.length);rw [<-hw,<-hK,<-hn];obtain ⟨gg,sq⟩:=hpt.sq;obtain ⟨_,_,_,_,_,pf0,pfe⟩:=Be hp.t hp.nz;have hpq:O3 (cz q) (cz p):=⟨Cx (Hd p) (cz gg),λt=>by rw [Uz,Uz,Ga,Uz,pfe,sq.e]; grind⟩;obtain ⟨D,M,k,h1,h2,h3⟩:=ha.hv0;have b1:=ha.qs.1.1; have b2:=ha.qs.2.1;have l1:=ha.n; have l2:=hp.l; have l3:=ha.n2;have s1:=Il (ha.bi pa); have s2:=Il hp.b;have hst:4*n*K<=4*18*1926:=Zh (by omega) (by omega);have hend:∃ u k',sgF (q::l) (64+2*w+4*n*K) a=some u/\Hv a D M k' u/\(u.point=true\/Rz (q::l) u.lo u.hi=0):=by
   by_cases By:p.length<2
   ·have hq1:(U7 p)=[1]:=hp.pr.1.one (by have:=hp.pr.2.1; omega);have hql:q.length<2:=by
     have e:=sq.e;rw [hq1] at e;obtain ⟨p1,p2⟩:=Rv (c:=[1]) rfl (by simp) e;have:=P8 sq.pg.t sq.pq.t (c:=[1]) rfl e p1 p2;simp at this; omega
    have hbt:Rz (q::l) a.lo a.hi=0:=by
     rw [Ix (Qr V.l),hl0 hql,sq.pq.one hql];have hv1:∀ x:Rat,ev (cz [1]) x=1:=λx=>by rw [Uz,Mt]
     simp only [Z1,Ji,vv,tc,hv1]; omega
    refine ⟨a,k,?_,h1,.inr hbt⟩;obtain ⟨m,hm⟩:∃ m,64+2*w+4*n*K=m+1:=⟨63+2*w+4*n*K,by omega⟩;rw [hm];simp only [sgF];rw [if_pos (.inr hbt)]
   ·have hg:Tn a.p p=K*(2*(n-2)-1):=by unfold Tn; rw [hK,hn]
    have hgle:Tn a.p p+5*K<=2*n*K:=by
     rw [hg,Zj K,<-X6];exact Q0 _ (by omega)
    have hKp:8<=K:=by omega
    have hnK:2*n*K<=4*n*K:=Q0 _ (by omega);obtain ⟨u,k',u1,u2,u3⟩:=Zb1 hp.t hp.l (by omega) hS hpq ha hnz h2 (64+2*w+4*n*K) (2+w+2*n*K) a k ((2^(w+1):Nat):Rat) (by omega) h1 (by omega) (Qhb (by omega)) (by
     have e:(2^(w+1))*(2^(Tn a.p p+1))<=2^(2+w+2*n*K):=by
      rw [<-Xb];exact Zx (by decide) (by omega)
     have:=Zi.2 e
     push_cast at this ⊢
     exact this)
    exact ⟨u,k',u1,u2,u3⟩
  obtain ⟨u,k',u1,u2,u3⟩:=hend;rw [u1];refine ⟨_,rfl,.inr ?_⟩;have hfin:G8 p u.hi=s:=by
   rcases u2.hi' with hz | hz
   ·have:=Qup ca hz hnz;rw [Bf,<-Uz]; exact this
   ·rcases u2.i with ⟨e,_⟩ | ⟨L',V'⟩
    ·have:=u2.c u.hi;rw [Et e,e,B8] at this; omega
    ·have hup:u.point=false:=by
      have:¬u.point=true:=λh=>by have:=Nh.1 h; have:=V'.l; grind
      simpa using this
     rcases u3 with h | h
     ·rw [hup] at h; cases h
     ·rw [Ix (Qr V'.l)] at h;obtain ⟨s',hs',hps⟩:=Q48 hpt hp.t hp.nz hS V'.l (by omega);obtain ⟨d,dp,x,y,hx,hy,hq⟩:=hnz;have hlo1:Ff a u.lo=1:=by
       rcases u2.lo' with h | ⟨_,h⟩
       ·exact h
       ·have:=V'.l; clear hps hq; grind
      obtain ⟨m,m1,m2,m3⟩:=Qke ca hlo1 hx;have e1:=(hq m (Qr m3) (Qr (ca.lt m1 hy))).1;have e2:=hps m m2 (Qr (ca.lt m1 hz));have e3:=hps u.hi V'.l Qq;rw [Bf,e3,<-e2,<-Uz,e1]
  rw [hfin]; exact ⟨hs0,hnz⟩
structure Dp (p:List Int):Prop where
 t:U0 p
 l:p.length<=9
 b:Bd (860+4*(9-p.length)) p
theorem Q19:Szz 9 973:=⟨by decide,by decide⟩
theorem Dp.ok {p:List Int} (h:Dp p) (h0:p.length≠0):Okp 9 900 p:=⟨Q19,h.t,h0,h.l,Ut h.b (by omega)⟩
theorem Dp.der {p:List Int} (h:Dp p):Dp (Gg p):=by
 have hl:=Pp p;have hl2:=h.l;refine ⟨Fu _ _,by omega,?_⟩;by_cases h0:p.length=0
 ·rw [Qi (l:=Gg p) (by omega)]; exact O7
 ·exact Ut (Qwe h.b (by omega)) (by omega)
def G9 (a:Tm) (p:List Int):Int:=(Qpa p a).getD 0
theorem Zbz {p:List Int} (h:Dp p) {a:Tm} (ha:Va a):Qpa p a=some (G9 a p)/\SgT p a (G9 a p):=by
 by_cases h0:p.length=0
 ·have e:p=[]:=Qi h0;subst e;refine ⟨rfl,.inl ⟨rfl,λd dp=>?_⟩⟩;obtain ⟨x,y,h1,h2,_⟩:=ha.cut.near (e:=1) (by decide);exact ⟨x,y,h1,h2,λq _ _=>by simp only [cz,Ji,ev,H7]; exact dp⟩
 ·obtain ⟨s,h1,h2⟩:=Zb8 (h.ok h0) ha;have e:G9 a p=s:=by unfold G9; rw [h1]; rfl
  rw [e]; exact ⟨h1,h2⟩
theorem Zk9 {c:Rat->Int} {p q:List Rat} {s:Int} (h:∀ t,ev p t=ev q t) (hp:RS p c s):RS q c s:=by
 obtain ⟨y,h1,h2⟩:=hp;exact ⟨y,h1,λz h3 h4=>by rw [<-h]; exact h2 z h3 h4⟩
theorem Qn9 {a:Tm} (ha:Va a):∀ (k:Nat) (p:List Int),Dp p->p.length<=k->p.length≠0->RS (cz p) (Ff a) (Sv (G9 a) k p)/\Sv (G9 a) k p≠0
 | 0,p,_,h1,h2=>by omega
 |
  k+1,p,h,h1,h2=>by
  simp only [Sv];rw [if_neg h2];obtain ⟨_,hs⟩:=Zbz h ha;rcases hs with ⟨e,hv⟩ | ⟨e,hn⟩
  ·rw [if_pos e];have hdn:(Gg p).length≠0:=λh0=>by
    by_cases h3:p.length=1
    ·obtain ⟨c,rfl⟩:∃ c,p=[c]:=Kz.1 h3;have hc:c≠0:=by have:=Hi h.t (by simp); simpa using this
     obtain ⟨q,hq,_⟩:=Qul ha.cut (hv (U8 (c:Rat)) (Bi (Qas hc)));rw [Uz] at hq;have:Uy [c] q=(c:Rat):=by simp only [Uy]; grind
     rw [this] at hq; grind
    ·have h4:=Ng p (p.length-2);rw [Qi h0,show p.length-2+1=p.length-1 by omega] at h4;have h5:p.getD (p.length-1) 0≠0:=Hi h.t (by omega);rcases Yy.1 (h4.symm.trans (by simp)) with h6 | h6
     ·exact h5 h6
     ·omega
   have hl:=Pp p;obtain ⟨i1,i2⟩:=Qn9 ha k (Gg p) h.der (by omega) hdn;exact ⟨Qrr ha.cut hv (Zk9 (λt=>by rw [Uz,If,Ta]) i1) i2,i2⟩
  ·rw [if_neg e]; exact ⟨Qo1 ha.cut hn,e⟩
theorem Od {a:Tm} (ha:Va a) {p:List Int} (h:Dp p) (h0:p.length≠0):RS (cz p) (Ff a) (Tg (G9 a) p)/\Tg (G9 a) p≠0:=Qn9 ha _ p h (Qm _) h0
theorem Qk4 {a:Tm}:Tg (G9 a) []=0:=rfl
theorem Zfu {l:List Int}:∀ z∈l,z.natAbs≤most l:=by
 have key:∀ (l:List Int) (m:Nat),m≤l.foldl (λm z=>if m<z.natAbs then z.natAbs else m) m/\∀ z∈l,z.natAbs≤l.foldl (λm z=>if m<z.natAbs then z.natAbs else m) m:=by
  intro l
  induction l with
  | nil=>exact λm=>⟨Qm _,λz hz=>by cases hz⟩
  |
   cons y l ih =>
   intro m;obtain ⟨e,he⟩:=nmE (if m<y.natAbs then y.natAbs else m);have h1:m<=e/\y.natAbs<=e:=by rw [he]; split <;> omega
   obtain ⟨i1,i2⟩:=ih e;simp only [Z6];rw [<-he];refine ⟨by omega,λz hz=>?_⟩;rcases Qo.1 hz with rfl | hz
   ·omega
   ·exact i2 z hz
 exact (key l 0).2
theorem Qjq {p:List Int} (h:Fa p≠0):Gp p*((Fa p).natAbs:Rat)=((Fa p).natAbs:Rat)+((most (p.take (p.length-1)):Nat):Rat):=by
 unfold Gp;rw [<-Hy];have hp:0<(Fa p).natAbs:=by omega
 have:=nat_pos hp;rw [show ((((Fa p).natAbs:Int)):Rat)=((Fa p).natAbs:Rat) from rfl,G0 this];rw [Kq]; rfl
theorem Q1b {m:Nat} {x:Rat} (hx:1≤U8 x):∀ (p:List Int) (lp:p.length≠0),(∀ z∈p.take (p.length-1),z.natAbs≤m)->Fa p≠0->(m:Rat)≤(U8 x-1)*((Fa p).natAbs:Rat)->((Fa p).natAbs:Rat)≤Uy p x*(((Int.sign (Fa p))*(if x<0/\p.length % 2=0 then -1 else 1):Int):Rat)
 | [],lp,_,_,_=>absurd rfl lp
 |
  [c],_,_,hc,_=>by
  have hl:Fa [c]=c:=rfl;rw [hl] at hc ⊢;rw [if_neg (by simp),Wx];have h1:Uy [c] x=(c:Rat):=by simp only [Uy]; grind
  rw [h1];have h2:c*Int.sign c=(c.natAbs:Int):=Int.mul_sign_self c;have:=congrArg (λz:Int=>(z:Rat)) h2;rw [Xs] at this;rw [this]; exact Qq
 |
  c::d::p,_,hm,hc,hb=>by
  have hl:Fa (c::d::p)=Fa (d::p):=by unfold Fa; simp [List.getD_cons_succ]
  have ih:=Q1b hx (d::p) (by simp) (λz hz=>hm z (by
   have e:(c::d::p).take ((c::d::p).length-1)=c::(d::p).take ((d::p).length-1):=by simp
   rw [e]; exact Qj _ hz)) (by rw [<-hl]; exact hc) (by rw [<-hl]; exact hb)
  rw [hl] at hc hb ⊢;have hcm:=hm c (by simp);obtain ⟨s,hs⟩:∃ s:Int,s=Int.sign (Fa (d::p)):=⟨_,rfl⟩;have hsv:s=1\/s=-1:=by
   rw [hs];rcases Kr hc with h | h
   ·exact .inr (Xw h)
   ·exact .inl (X4 h)
  rw [<-hs] at ih ⊢;obtain ⟨ld,hld⟩:∃ ld:Rat,ld=((Fa (d::p)).natAbs:Rat):=⟨_,rfl⟩;rw [<-hld] at ih hb ⊢;have hcq:U8 (c:Rat)<=(m:Rat):=by rw [Ty]; exact Zi.2 hcm
  rw [Py] at hcq;have e1:Uy (c::d::p) x=(c:Rat)+x*Uy (d::p) x:=rfl;rw [e1];have hlen:(c::d::p).length % 2=0↔¬(d::p).length % 2=0:=by simp only [Q8]; omega
  generalize Uy (d::p) x=y at *;generalize (m:Rat)=mm at *;generalize (c:Rat)=cc at *;have hx0:=hx;by_cases hneg:x<0
  ·have hq:U8 x=-x:=by unfold U8; rw [if_pos hneg]
   rw [hq] at hx0 hb;by_cases hpar:(d::p).length % 2=0
   ·rw [if_pos ⟨hneg,hpar⟩] at ih;rw [if_neg λh=>(hlen.1 h.2) hpar];rcases hsv with rfl | rfl
    ·have ih:ld<=y*(-1):=by simpa using ih
     have:=Zz ih (show 0<=-x by grind);have e:(((1:Int)*1:Int):Rat)=1:=rfl;rw [e]; grind
    ·have ih:ld<=y*1:=by simpa using ih
     have:=Zz ih (show 0<=-x by grind);have e:(((-1:Int)*1:Int):Rat)=-1:=rfl;rw [e]; grind
   ·rw [if_neg λh=>hpar h.2] at ih;rw [if_pos ⟨hneg,hlen.2 hpar⟩];rcases hsv with rfl | rfl
    ·have ih:ld<=y*1:=by simpa using ih
     have:=Zz ih (show 0<=-x by grind);have e:(((1:Int)*-1:Int):Rat)=-1:=rfl;rw [e]; grind
    ·have ih:ld<=y*(-1):=by simpa using ih
     have:=Zz ih (show 0<=-x by grind);have e:(((-1:Int)*-1:Int):Rat)=1:=rfl;rw [e]; grind
  ·have hq:U8 x=x:=by unfold U8; rw [if_neg hneg]
   rw [hq] at hx0 hb;rw [if_neg λh=>hneg h.1] at ih ⊢;rcases hsv with rfl | rfl
   ·have ih:ld<=y*1:=by simpa using ih
    have:=Zz ih (show 0<=x by grind);have e:(((1:Int)*1:Int):Rat)=1:=rfl;rw [e]; grind
   ·have ih:ld<=y*(-1):=by simpa using ih
    have:=Zz ih (show 0<=x by grind);have e:(((-1:Int)*1:Int):Rat)=-1:=rfl;rw [e]; grind
theorem Qwh {p:List Int} (tp:U0 p) (lp:p.length≠0) {x:Rat} (hx:Gp p<=U8 x):1<=U8 (Uy p x)/\(0<=x->G8 p x=Qd6 p)/\(x<0->G8 p x=Oz p):=by
 have hl:=D4 tp lp;have hpos:0<(Fa p).natAbs:=by omega
 have h1:(1:Rat)<=((Fa p).natAbs:Rat):=by
  have:((1:Nat):Rat)<=((Fa p).natAbs:Rat):=Zi.2 hpos;exact this
 have hm0:(0:Rat)<=((most (p.take (p.length-1)):Nat):Rat):=Xh;have hb:=Qjq hl;have hx1:=Zc hx (show (0:Rat)<=((Fa p).natAbs:Rat) by grind);have hx2:1<=U8 x:=by
  rcases Fi 1 (U8 x) with h | h
  ·exact h
  ·exfalso;have:=V7 h (show (0:Rat)<((Fa p).natAbs:Rat) by grind);grind
 have key:=Q1b (m:=most (p.take (p.length-1))) hx2 p lp (λz hz=>Zfu z hz) hl (by grind);obtain ⟨s,hs⟩:∃ s:Int,s=Int.sign (Fa p)*(if x<0/\p.length % 2=0 then -1 else 1):=⟨_,rfl⟩;rw [<-hs] at key;have hsv:s=1\/s=-1:=by
  rw [hs];rcases Kr hl with h | h
  ·rw [Xw h]; split <;> simp
  ·rw [X4 h]; split <;> simp
 have hsg:G8 p x=s/\1<=U8 (Uy p x):=by
  rw [Bf];rcases hsv with e | e
  ·rw [e] at key ⊢;have key:((Fa p).natAbs:Rat)<=Uy p x:=by simpa using key
   exact ⟨H8.2 (by grind),by unfold U8; rw [if_neg (by grind)]; grind⟩
  ·rw [e] at key ⊢;have key:((Fa p).natAbs:Rat)<=Uy p x*(-1):=by simpa using key
   exact ⟨Sk.2 (by grind),by unfold U8; rw [if_pos (by grind)]; grind⟩
 refine ⟨hsg.2,λh=>?_,λh=>?_⟩
 ·rw [hsg.1,hs,if_neg λh'=>by have:=h'.1; grind]; unfold Qd6; omega
 ·rw [hsg.1,hs]; unfold Oz;by_cases he:p.length % 2=0
  ·rw [if_pos ⟨h,he⟩,if_pos he]; omega
  ·rw [if_neg λh'=>he h'.2,if_neg he]; omega
theorem Qbh {f g:List Int->Int}:∀ {l:List (List Int)} (s:Nat×Int),(∀ p∈l,f p=g p)->l.foldl (S4 f) s=l.foldl (S4 g) s
 | [],s,_=>rfl
 |
  p::l,s,h=>by
  simp only [Z6];have e:S4 f s p=S4 g s p:=by unfold S4; rw [h p (List.mem_cons_self ..)]
  rw [e]; exact Qbh _ λq hq=>h q (Qj _ hq)
theorem Q08:∀ (l:List (List Int)),(∀ p∈l,U0 p/\p.length≠0)->∃ X:Rat,0<X/\∀ x,X≤x->(∀ p∈l,G8 p x=Qd6 p)/\∀ p∈l,G8 p (-x)=Oz p
 | [],_=>⟨1,by decide,λx _=>⟨(λp hp=>by cases hp),(λp hp=>by cases hp)⟩⟩
 |
  p::l,h=>by
  obtain ⟨X,hX,hl⟩:=Q08 l λq hq=>h q (Qj _ hq)
  obtain ⟨tp,lp⟩:=h p (Qx ..);refine ⟨X+U8 (Gp p),by have:=Hn (Gp p); grind,λx hx=>?_⟩;have hb0:=Hn (Gp p);have hb1:Gp p<=U8 (Gp p):=by unfold U8; split <;> grind
  obtain ⟨l1,l2⟩:=hl x (by grind);have e1:U8 x=x:=by unfold U8; rw [if_neg (by grind)]
  have e2:U8 (-x)=x:=by rw [D7,e1]
  refine ⟨λq hq=>?_,λq hq=>?_⟩
  ·rcases Qo.1 hq with rfl | hq
   ·exact (Qwh tp lp (x:=x) (by rw [e1]; grind)).2.1 (by grind)
   ·exact l1 q hq
  ·rcases Qo.1 hq with rfl | hq
   ·exact (Qwh tp lp (x:=-x) (by rw [e2]; grind)).2.2 (by grind)
   ·exact l2 q hq
theorem Qzg {q:List Int} {L:List (List Rat)} (hS:Stm (cz q) L) (tq:U0 q) (lq:q.length≠0) {x y:Rat} (hxy:x<y) (h:Gp q<=x\/y<=-Gp q) (hb:0<Gp q):vv L x=vv L y:=by
 rcases Classical.em (vv L x=vv L y) with e | e
 ·exact e
 ·exfalso;obtain ⟨r,r1,r2,r3⟩:=Qr4 hS hxy e (d:=1) (by decide);have:=(Qwh tq lq (x:=r) (by rcases h with h | h <;> (unfold U8; split <;> grind))).1;rw [Uz] at r3; grind
theorem Qfs {p:List Int} (h:Fa p≠0):1<=Gp p:=by
 have hb:=Qjq h;have hp:=nat_pos (show 0<(Fa p).natAbs by omega);have hm0:(0:Rat)<=((most (p.take (p.length-1)):Nat):Rat):=Xh;rcases Fi 1 (Gp p) with h' | h'
 ·exact h'
 ·have:=V7 h' hp; grind
theorem Q5j {q:List Int} {l:List (List Int)} (hS:Stm (cz q) ((q::l).map cz)) (hl:∀ p∈q::l,U0 p/\p.length≠0):Qbc (q::l)=(vv ((q::l).map cz) (-Gp q):Int)-(vv ((q::l).map cz) (Gp q):Int):=by
 obtain ⟨tq,lq⟩:=hl q (Qx ..);have hb:=Qfs (D4 tq lq);obtain ⟨X,hX,hx⟩:=Q08 (q::l) hl;obtain ⟨h1,h2⟩:=hx (X+Gp q) (by grind);have e1:Bn Qd6 (q::l)=vv ((q::l).map cz) (X+Gp q):=by
  rw [<-On]; unfold Bp Bn;rw [Qbh (f:=Qd6) (g:=λp=>G8 p (X+Gp q)) (0,0) λp hp=>(h1 p hp).symm]
 have e2:Bn Oz (q::l)=vv ((q::l).map cz) (-(X+Gp q)):=by
  rw [<-On]; unfold Bp Bn;rw [Qbh (f:=Oz) (g:=λp=>G8 p (-(X+Gp q))) (0,0) λp hp=>(h2 p hp).symm]
 unfold Qbc;rw [e1,e2,Qzg hS tq lq (x:=-(X+Gp q)) (y:=-Gp q) (by grind) (.inr Qq) (by grind),<-Qzg hS tq lq (x:=Gp q) (y:=X+Gp q) (by grind) (.inl Qq) (by grind)]
theorem Zkt {f:List Rat} {L:List (List Rat)} (hS:Stm f L) {x y:Rat} (hxy:x<y) (hv:vv L y+2<=vv L x):∃ m,x<m/\m<y/\vv L m<vv L x/\vv L y<vv L m/\ev f m≠0:=by
 obtain ⟨R,hR,hx,hy⟩:=Qpm x y;obtain ⟨e,ep,he⟩:=Zcv hS R hR;have key:∀ n:Nat,∀ x,U8 x<=R->x<y->vv L y+2<=vv L x->y-x<=(n:Rat)*e->∃ m,x<m/\m<y/\vv L m<vv L x/\vv L y<vv L m:=by
  intro n
  induction n with
  | zero=>intro x _ hxy _ hn; rw [show ((0:Nat):Rat)=0 from rfl] at hn; exfalso; clear he; grind
  |
   succ n ih =>
   intro x hx hxy hv hn;have hn':(((n+1:Nat):Rat))=(n:Rat)+1:=by push_cast; rfl
   rw [hn'] at hn;rcases Fi (y-x) e with h1 | h1
   ·have:=he x y hx hy hxy h1; omega
   ·have hm:U8 (x+e)<=R:=Qed hx hy (by clear he ih; grind) (by clear he ih; grind);have h2:=he x (x+e) hx hm (by clear he ih; grind) (by clear he ih; grind);have h3:=El hS (show x<x+e by clear he ih; grind);by_cases h4:vv L x=vv L (x+e)
    ·obtain ⟨m,m1,m2,m3,m4⟩:=ih (x+e) hm (by clear he ih; grind) (by omega) (by clear he ih; grind);exact ⟨m,by clear he ih; grind,m2,by omega,m4⟩
    ·exact ⟨x+e,by clear he ih; grind,by clear he ih; grind,by omega,by omega⟩
 obtain ⟨n,hn⟩:=O6 (z:=y-x) ep;obtain ⟨m,m1,m2,m3,m4⟩:=key n x hx hxy hv hn;rcases Classical.em (ev f m=0) with h0 | h0
 ·-- a little farther on
  obtain ⟨e2,e2p,hl⟩:=loc hR hS (w:=f) (u:=[1]) (λt=>by rw [Rr]; grind);obtain ⟨d,dp,d1,d2⟩:=min2 (a:=e2) (b:=(y-m) / 2) e2p (Lt (by clear he key hl; grind) (by decide));have h2:(y-m) / 2*2=y-m:=G0 (by decide);have hmR:U8 m<=R:=Qed hx hy (Qr m1) (Qr m2);have hmR2:U8 (m+d)<=R:=Qed hx hy (by clear he key hl; grind) (by clear he key hl; grind);rcases hl m (m+d) hmR hmR2 (by clear he key hl; grind) (by clear he key hl; grind) with ⟨p1,p2,_⟩ | ⟨_,p1,_,p3,_⟩
  ·refine ⟨m+d,by clear he key hl; grind,by clear he key hl; grind,by omega,by omega,λh'=>?_⟩;have:=p2.s;rw [Fv.2 h'] at this; exact p2.n this.symm
  ·rw [Fv.2 h0] at p3; exact absurd p3.symm p1
 ·exact ⟨m,m1,m2,m3,m4,h0⟩
theorem Zhf {q:List Int} {L:List (List Rat)} (hS:Stm (cz q) L) (tq:U0 q) (nq:q.length<=9) (lq:2<=q.length) {lo hi:Rat} (hl:lo<hi) (hv:vv L hi+2<=vv L lo):1<(hi-lo)*((2^(Tn q q+1):Nat):Rat):=by
 rcases Fi ((hi-lo)*((2^(Tn q q+1):Nat):Rat)) 1 with hw | hw
 ·exfalso;have hpow:(0:Rat)<=((2^(Tn q q+1):Nat):Rat):=Xh;obtain ⟨m,m1,m2,m3,m4,m0⟩:=Zkt hS hl hv;obtain ⟨R,hR,r1,r2⟩:=Qpm lo hi;have hd:=Bi m0;obtain ⟨d,dp,_,db⟩:=G5 (b:=dqB R (cz q)) (d:=U8 (ev (cz q) m) / 2) (Me hR _) (Lt hd (by decide));have hd2:U8 (ev (cz q) m) / 2*2=U8 (ev (cz q) m):=G0 (by decide);have hmR:U8 m<=R:=Qed r1 r2 (Qr m1) (Qr m2);have hnear:∀ r,U8 r<=R->U8 (ev (cz q) r)<U8 (ev (cz q) m) / 2->d<U8 (r-m):=λr hr hs=>by
   rcases Fi (U8 (r-m)) d with h | h
   ·exfalso;have h1:=Pq (p:=cz q) hmR hr hR h db;have h2:=Tv (ev (cz q) m-ev (cz q) r) (ev (cz q) r);rw [show ev (cz q) m-ev (cz q) r+ev (cz q) r=ev (cz q) m by grind,Q2q] at h2;grind
   ·exact h
  refine Q88 (R:=R+1) (d:=d+d) tq tq nq nq lq lq (by grind) (by grind) λe ep=>?_
  obtain ⟨e',ep',e1,e2⟩:=min2 (a:=e) (b:=U8 (ev (cz q) m) / 2) ep (Lt hd (by decide));obtain ⟨x,x1,x2,x3⟩:=Qr4 hS m1 (by omega) ep';obtain ⟨y,y1,y2,y3⟩:=Qr4 hS m2 (by omega) ep';have hxR:U8 x<=R:=Qed r1 r2 x1 (by grind);have hyR:U8 y<=R:=Qed r1 r2 (by grind) y2;have nx:=hnear x hxR (by grind);have ny:=hnear y hyR (by grind);have ex:U8 (x-m)=m-x:=by unfold U8; split <;> grind
  have ey:U8 (y-m)=y-m:=by unfold U8; split <;> grind
  rw [ex] at nx;rw [ey] at ny;have exy:U8 (x-y)=y-x:=by unfold U8; split <;> grind
  refine ⟨x,y,by grind,by grind,by rw [exy]; grind,?_,by rw [<-Uz]; grind,by rw [<-Uz]; grind⟩;rw [exy];exact Zg (Zc (show y-x<=hi-lo by grind) hpow) hw
 ·exact hw
theorem Q8c:∀ {k:Nat} {a b:List Int} {l:List (List Int)},chF k a b=some l->∀ p∈l,p.length≠0
 | 0,_,_,_,h=>by cases h
 |
  k+1,a,b,l,h=>by
  simp only [chF] at h
  split at h
  ·injection h with h; subst h; exact λp hp=>by cases hp
  ·rename_i h0;obtain ⟨r,_,h⟩:=Qf.1 h;obtain ⟨l',h1,h⟩:=Qf.1 h;injection h with h; subst h;intro p hp;rcases Qo.1 hp with rfl | hp
   ·exact h0
   ·exact Q8c h1 p hp
theorem Okp.pb {n s:Nat} {p:List Int} (h:Okp n s p) (hs:s<=16777216):Pb p:=⟨h.t,by have:=h.l; have:=h.z.1; omega,Ut h.b hs⟩
theorem Q38 {p:List Int} {q:List Int} {l:List (List Int)} (hp:Pb p) (h:Lp p=some (q::l)) (hq:q.length≠0):∀ r∈q::l,U0 r/\r.length≠0:=by
 have h1:=(Orr.chain_ok hp h).2;unfold Lp at h;obtain ⟨a,_,h⟩:=Qf.1 h
 split at h
 ·cases h
 ·obtain ⟨d,_,h⟩:=Qf.1 h;obtain ⟨l',h3,h⟩:=Qf.1 h;injection h with h;injection h with e1 e2;subst e1; subst e2;intro r hr;refine ⟨(h1 r hr).t,?_⟩;rcases Qo.1 hr with rfl | hr
  ·exact hq
  ·exact Q8c h3 r hr
inductive RI (q:List Int) (L:List (List Rat)):Rat->List Tm->Rat->Prop
 | nil {lo hi:Rat} (h:lo<=hi) (hv:vv L lo=vv L hi):RI q L lo [] hi
 | cons {lo hi:Rat} {t:Tm} {l:List Tm} (h:lo<=t.lo) (hv:vv L lo=vv L t.lo) (ht:Vt (cz q) L t.lo t.hi) (hp:t.p=q) (hl:RI q L t.hi l hi):RI q L lo (t::l) hi
theorem RI.app {q:List Int} {L:List (List Rat)} {lo m hi:Rat} {l l':List Tm} (h:RI q L lo l m) (h':RI q L m l' hi):RI q L lo (l++l') hi:=by
 induction h with
 |
  nil h hv =>
  cases h' with
  | nil h2 hv2=>exact .nil (by grind) (by omega)
  | cons h2 hv2 ht hp hl=>exact .cons (by grind) (by omega) ht hp hl
 | cons h hv ht hp _ ih=>exact .cons h hv ht hp (ih h')
theorem Q8f {D M k:Nat} {m:Rat} (h:Gr D M k m) (hM:0<M) (hs:U6 (D:Int)+U6 (M:Int)+k<=16777216):chq m=some m:=by
 have:=Q1f h hM hs;unfold chq;rw [if_pos ⟨this.1,this.2⟩]
theorem Qi5 {q:List Int} {c:List (List Int)} (hS:Stm (cz q) (c.map cz)) (tq:U0 q) (nq:q.length<=9) (hc1:q.length<2->c=[q]) {D M F:Nat} (hM:0<M):∀ (k j:Nat) (lo hi:Rat),lo<hi->Gr D M j lo->Gr D M j hi->U6 (D:Int)+U6 (M:Int)+(j+k)<=16777216->(hi-lo)*((2^(Tn q q+1):Nat):Rat)<=((2^k:Nat):Rat) ->
 ∃ l,Ee q c (F+k+1) lo hi ((vv (c.map cz) lo:Int)-(vv (c.map cz) hi:Int))=some l/\RI q (c.map cz) lo l hi/\∀ t∈l,∃ k',k'≤j+k/\Gr D M k' t.lo/\Gr D M k' t.hi:=by
 intro k
 induction k with
 |
  zero =>
  intro j lo hi hl g1 g2 hs hK;have hle:=El hS hl;have h2:vv (c.map cz) lo<vv (c.map cz) hi+2:=by
   rcases Za (vv (c.map cz) lo) (vv (c.map cz) hi+2) with h | h
   ·exact h
   ·exfalso;have lq:2<=q.length:=by
     rcases Za q.length 2 with e | e
     ·have hvv:∀ x,vv (c.map cz) x=vv (c.map cz) 0:=λx=>by
       rcases hS with ⟨c0,hc0,hcc,hl'⟩ | ⟨g',l',k',hk,hg,hsc,hl'⟩
       ·rw [hl']; simp only [vv,tc,hcc]
       ·rw [hc1 e] at hl'; cases hl'
      rw [hvv lo,hvv hi] at h; omega
     ·exact e
    have:=Zhf hS tq nq lq hl h;rw [Vg] at hK;have h7:((1:Nat):Rat)=1:=rfl;rw [h7] at hK; grind
  simp only [Ee];by_cases e0:vv (c.map cz) lo=vv (c.map cz) hi
  ·rw [if_pos (by omega)];exact ⟨[],rfl,.nil (Qr hl) e0,λt ht=>by cases ht⟩
  ·rw [if_neg (by omega),if_pos (by omega)];refine ⟨[⟨q,lo,hi⟩],rfl,.cons Qq rfl ⟨hS,hl,by show vv _ lo=vv _ hi+1; omega⟩ rfl (.nil Qq rfl),λt ht=>?_⟩;rw [Qk.1 ht]; exact ⟨j,by omega,g1,g2⟩
 |
  succ k ih =>
  intro j lo hi hl g1 g2 hs hK;have hle:=El hS hl;show ∃ l,(if (vv (c.map cz) lo:Int)-(vv (c.map cz) hi:Int)=0 then some [] else if (vv (c.map cz) lo:Int)-(vv (c.map cz) hi:Int)=1 then some [⟨q,lo,hi⟩] else (chq (mid lo hi)).bind λm=>(Ee q c (F+k+1) lo m (Rz c lo m)).bind λl=>(Ee q c (F+k+1) m hi ((vv (c.map cz) lo:Int)-(vv (c.map cz) hi:Int)-Rz c lo m)).bind λr=>some (l++r))=some l/\_;by_cases e0:vv (c.map cz) lo=vv (c.map cz) hi
  ·rw [if_pos (by omega)];exact ⟨[],rfl,.nil (Qr hl) e0,λt ht=>by cases ht⟩
  by_cases e1:vv (c.map cz) lo=vv (c.map cz) hi+1
  ·rw [if_neg (by omega),if_pos (by omega)];refine ⟨[⟨q,lo,hi⟩],rfl,.cons Qq rfl ⟨hS,hl,e1⟩ rfl (.nil Qq rfl),λt ht=>?_⟩;rw [Qk.1 ht]; exact ⟨j,by omega,g1,g2⟩
  ·rw [if_neg (by omega),if_neg (by omega)];obtain ⟨m,hm⟩:=nmE ((lo+hi) / 2);have h2:(lo+hi) / 2*2=lo+hi:=G0 (by decide);rw [<-hm] at h2;have gm:Gr D M (j+1) m:=by rw [hm]; exact Q9l g1 g2
   have l1:lo<m:=by grind
   have l2:m<hi:=by grind
   rw [Qx2,<-hm,Q8f gm hM (by omega)];show ∃ l,((Ee q c (F+k+1) lo m (Rz c lo m)).bind λl=>(Ee q c (F+k+1) m hi ((vv (c.map cz) lo:Int)-(vv (c.map cz) hi:Int)-Rz c lo m)).bind λr=>some (l++r))=some l/\_;rw [Ix (Qr l1),show (vv (c.map cz) lo:Int)-(vv (c.map cz) hi:Int)-((vv (c.map cz) lo:Int)-(vv (c.map cz) m:Int))=(vv (c.map cz) m:Int)-(vv (c.map cz) hi:Int) by omega];rw [Qu6 k] at hK;have hp:∀ x y:Rat,(y-x)*2=hi-lo->(y-x)*((2^(Tn q q+1):Nat):Rat)<=((2^k:Nat):Rat):=λx y h=>by
    have:(y-x)*((2^(Tn q q+1):Nat):Rat)*2=(hi-lo)*((2^(Tn q q+1):Nat):Rat):=by rw [<-h]; grind
    grind
   obtain ⟨la,a1,a2,a3⟩:=ih (j+1) lo m l1 (Qoa g1) gm (by omega) (hp lo m (by grind));obtain ⟨lb,b1,b2,b3⟩:=ih (j+1) m hi l2 gm (Qoa g2) (by omega) (hp m hi (by grind));rw [a1];show ∃ l,((Ee q c (F+k+1) m hi ((vv (c.map cz) m:Int)-(vv (c.map cz) hi:Int))).bind λr=>some (la++r))=some l/\_;rw [b1];refine ⟨la++lb,rfl,a2.app b2,λt ht=>?_⟩;rcases Qu.1 ht with ht | ht
   ·obtain ⟨k',h1,h2,h3⟩:=a3 t ht; exact ⟨k',by omega,h2,h3⟩
   ·obtain ⟨k',h1,h2,h3⟩:=b3 t ht; exact ⟨k',by omega,h2,h3⟩
theorem Zki {D M k:Nat} {q:Rat} (h:Gr D M k q):Gr D M k (-q):=by
 obtain ⟨u,hu⟩:=h.u;exact ⟨⟨-u,by rw [Vr,<-hu]; grind⟩,by rw [D7]; exact h.b,h.d⟩
theorem Qt4 {m s:Nat} (h:m<2^s):U6 ((m+1:Nat):Int)<=s+1:=by
 rw [T0,Z9,Zo]; omega
theorem Q4x {z:Int} {s:Nat} (h:U6 z<=s):U6 ((z.natAbs+1:Nat):Int)<=s+1:=Qt4 (T0.1 h)
theorem Zg5 {x:Rat} {m s g N:Nat} (hx:x<=2*((m+1:Nat):Rat)) (hm:m+1<=2^s) (hN:s+1+g<=N):x*((2^g:Nat):Rat)<=((2^N:Nat):Rat):=by
 have h3:=Zi.2 hm;have e:=Qu6 s;have h4:(0:Rat)<=((2^s:Nat):Rat):=Xh;have h1:x<=((2^(s+1):Nat):Rat):=by rw [e]; grind
 have h5:(0:Rat)<=((2^g:Nat):Rat):=Xh;refine Zg (Zc h1 h5) ?_;have h6:2^(s+1)*2^g<=2^N:=by
  rw [<-Xb]; exact Zx (by decide) hN
 have:=Zi.2 h6;rw [Rat.natCast_mul] at this;exact this
theorem Zdo {s:Nat} {l:List Int} (h:Bd s l):most l<2^s:=by
 have key:∀ (l:List Int) (m:Nat),m<2^s->Bd s l->l.foldl (λm z=>if m<z.natAbs then z.natAbs else m) m<2^s:=by
  intro l
  induction l with
  | nil=>exact λm h _=>h
  |
   cons y l ih =>
   intro m hm hb;simp only [Z6];refine ih _ ?_ λz hz=>hb z (Qj _ hz)
   have:=hb y (Qx ..);rw [T0] at this
   split <;> assumption
 exact key l 0 (Z2 (by decide)) h
theorem Zjv {p q:List Int} (h:chk p=some q):q=p:=by
 unfold chk at h
 split at h
 ·injection h with h; exact h.symm
 ·cases h
theorem Zbn {s:Nat} {p:List Int} (hs9:s≤900) (h:Okp 9 s p):∃ q c l,Pi p=some q/\Lp p=some c/\Qma p=some l/\Stm (cz q) (c.map cz)/\RI q (c.map cz) (-Gp q) l (Gp q)/\(∀ t∈l,Va t)/\(∀ x y,x<y->Gp q≤x\/y≤-Gp q->vv (c.map cz) x=vv (c.map cz) y)/\q.length≤p.length/\∀ t∈l,t.p=q/\t.lo<t.hi/\Bd (s+69) q/\∃ D M k,Gr D M k t.lo/\Gr D M k t.hi/\0<M/\U6 (D:Int)≤s+69/\U6 (M:Int)≤s+70/\k≤63*s+5160:=by
 obtain ⟨pp,By,hpb⟩:=h.pr;obtain ⟨g,q',hq',sq⟩:=Qb8 h;obtain ⟨q,l,q1,q2,hS,hl0⟩:=chain_ok h;rw [hq'] at q1;injection q1 with q1;subst q1;have e1:∀ t,Uy (U7 p) t=Uy q' t*Uy g t:=λt=>by rw [sq.e]; grind
 obtain ⟨p1,p2⟩:=Rv pp.t pp.n e1;have hch:chF 66 q' (U7 (Gg q'))=some l:=by
  have h2:=q2;unfold Lp at h2;rw [hq'] at h2;simp only [Jf] at h2
  split at h2
  ·cases h2
  ·cases hd:chk (Gg q') with
   | none=>rw [hd] at h2; cases h2
   |
    some d =>
    rw [hd] at h2;simp only [Jf] at h2;obtain rfl:d=Gg q':=Zjv hd;cases hc:chF 66 q' (U7 (Gg q')) with
    | none=>rw [hc] at h2; cases h2
    | some l'=>rw [hc] at h2; simp at h2; rw [h2]
 have hll:=P8 sq.pq.t sq.pg.t pp.t e1 p1 p2;have hl9:=h.l;have bq:Bd (s+69) q':=Qao hpb (by omega) pp.t sq.pq.t sq.pg.t pp.n e1;have hall:=Q38 (h.pb (by omega)) q2 sq.pq.n;have hld:Fa q'≠0:=by have:=sq.pq.l; omega
 have hb1:=Qfs hld;obtain ⟨D,hD⟩:=nmE ((Fa q').natAbs);obtain ⟨m,hm⟩:=nmE (most (q'.take (q'.length-1)));have hm2:m<2^(s+69):=by rw [hm]; exact Zdo (s:=s+69) λz hz=>bq z (Qn hz)
 have hD0:0<D:=by omega
 have hDs:U6 (D:Int)<=s+69:=by
  have:=Mj bq;rw [T0] at this ⊢;rw [Z9,hD]; exact this
 have hbe:=Qjq hld;rw [<-hD,<-hm] at hbe;have hDq:=nat_pos hD0;have hbm:Gp q'<=((m+1:Nat):Rat):=by
  have hD1:(1:Rat)<=(D:Rat):=by
   have:((1:Nat):Rat)<=(D:Rat):=Zi.2 hD0;exact this
  have hm0:(0:Rat)<=(m:Rat):=Xh;have h3:=Nx (a:=(m:Rat)) (c:=1) hm0 Qq (by decide) hD1;rcases Fi (Gp q') ((m+1:Nat):Rat) with h' | h'
  ·exact h'
  ·exfalso;have:=V7 h' hDq
   push_cast at this; grind
 have gb:Gr D (m+1) 0 (Gp q'):=by
  refine ⟨⟨(D+m:Nat),?_⟩,?_,hD0⟩
  ·rw [Vg,Yw,hbe];rw [show ((((D+m:Nat):Int)):Rat)=((D+m:Nat):Rat) from rfl]; push_cast; rfl
  ·have:U8 (Gp q')=Gp q':=by unfold U8; rw [if_neg (by grind)]
   rw [this]; exact hbm
 have hMs:U6 ((m+1:Nat):Int)<=s+69+1:=Qt4 (s:=s+69) hm2;have hK:(Gp q' - -Gp q')*((2^(Tn q' q'+1):Nat):Rat)<=((2^(63*s+5160):Nat):Rat):=by
  have hps:=Il bq;have hg:Tn q' q'<=(2*s+164)*31:=by
   unfold Tn;exact Zh (by omega) (by omega)
  exact Zg5 (s:=s+69) (g:=Tn q' q'+1) (N:=63*s+5160) (by grind) hm2 (by omega)
 have hN:U6 (D:Int)+U6 ((m+1:Nat):Int)+(0+(63*s+5160))<=16777216:=by omega
 obtain ⟨ls,r1,r2,r3⟩:=Qi5 (F:=99999-(63*s+5160)) hS sq.pq.t (by omega) (λh=>by rw [hl0 h]) (Uj m) (63*s+5160) 0 (-Gp q') (Gp q') (by grind) (Zki gb) gb hN hK;rw [show 99999-(63*s+5160)+(63*s+5160)+1=100000 by omega] at r1;have hchq:chq (Gp q')=some (Gp q'):=Q8f gb (Uj m) (by omega);have key:∀ t∈ls,Va t/\t.p=q'/\t.lo<t.hi/\Bd (s+69) q'/\∃ D M k,Gr D M k t.lo/\Gr D M k t.hi/\0<M/\U6 (D:Int)≤s+69/\U6 (M:Int)≤s+70/\k≤63*s+5160:=λt ht=>by
  obtain ⟨k',k1,k2,k3⟩:=r3 t ht;have hmem:∀ {lo hi:Rat} {ls:List Tm},RI q' ((q'::l).map cz) lo ls hi->t∈ls->Vt (cz q') ((q'::l).map cz) t.lo t.hi/\t.p=q':=λh=>by
   induction h with
   | nil=>intro ht; cases ht
   |
    cons h hv ht' hp hl ih =>
    intro ht;rcases Qo.1 ht with rfl | ht
    ·exact ⟨ht',hp⟩
    ·exact ih ht
  obtain ⟨v1,v2⟩:=hmem r2 ht;have lq2:2<=q'.length:=by
   rcases Za q'.length 2 with e | e
   ·exfalso;have hvv:∀ x,vv ((q'::l).map cz) x=0:=λx=>by
     rw [hl0 e,sq.pq.one e];have hv1:∀ x:Rat,ev (cz [1]) x=1:=λx=>by rw [Uz,Mt]
     simp only [Z1,Ji,vv,tc,hv1];have:U5 1=1:=by decide
     rw [this]; decide
    have:=v1.v;rw [hvv,hvv] at this; omega
   ·exact e
  exact ⟨⟨.inr ⟨_,by rw [v2]; exact v1⟩,by rw [v2]; exact sq.pq.t,by rw [v2]; omega,by rw [v2]; exact lq2,by rw [v2]; exact Ut bq (by omega),λ_=>by rw [v2]; exact Ut bq (by omega),λ_=>by rw [v2]; exact ⟨l,_,g,hch,sq,v1⟩,D,m+1,k',k2,k3,Uj m,by omega⟩,v2,v1.l,bq,D,m+1,k',k2,k3,Uj m,hDs,Qc hMs (Qm (s+70)),by rw [Zu] at k1; exact k1⟩
 refine ⟨q',q'::l,ls,hq',q2,?_,hS,r2,λt ht=>(key t ht).1,λx y hxy hb=>Qzg hS sq.pq.t sq.pq.n hxy hb (by grind),by omega,λt ht=>(key t ht).2⟩
 ·unfold Qma;rw [q2,hq'];show (chq (Gp q')).bind _=_;rw [hchq];show Ee q' (q'::l) 100000 (-Gp q') (Gp q') (Qbc (q'::l))=_;rw [Q5j hS hall];exact r1
theorem Zbm {p:List Int} (h:Okp 9 900 p):∃ q c l,Pi p=some q/\Lp p=some c/\Qma p=some l/\Stm (cz q) (c.map cz)/\RI q (c.map cz) (-Gp q) l (Gp q)/\(∀ t∈l,Va t)/\(∀ x y,x<y->Gp q≤x\/y≤-Gp q->vv (c.map cz) x=vv (c.map cz) y):=by
 obtain ⟨q,c,l,h1,h2,h3,h4,h5,h6,h7,_⟩:=Zbn (Qm _) h;exact ⟨q,c,l,h1,h2,h3,h4,h5,h6,h7⟩
theorem Dy {q:List Int} {L:List (List Rat)} (hS:Stm (cz q) L) {c:Rat->Int} (hc:Cut c) {lo:Rat} (hH:∀ z,c z=-1->z<=lo->vv L z=vv L lo) {y0:Rat} (hy:c y0=-1) (hv:∀ z,lo<z->z<=y0->vv L z=vv L lo):∃ s,s≠0/\∀ z,c z=-1->z<=y0->U5 (ev (cz q) z)=s:=by
 have hall:∀ z,c z=-1->z<=y0->vv L z=vv L lo:=λz h1 h2=>by
  rcases Fi z lo with e | e
  ·exact hH z h1 e
  ·exact hv z e h2
 have hne:∀ z,c z=-1->z<=y0->U5 (ev (cz q) z)≠0:=λz h1 h2=>by
  obtain ⟨w,w1,w2⟩:=hc.dn z h1;have:=Qsb hS w1 (by rw [hall w w2 (by grind),hall z h1 h2]);rw [this.s]; exact this.n
 refine ⟨U5 (ev (cz q) y0),hne y0 hy Qq,λz h1 h2=>?_⟩;rcases Classical.em (z=y0) with e | e
 ·rw [e]
 ·have:=Qsb hS (x:=z) (y:=y0) (by grind) (by rw [hall z h1 h2,hall y0 hy Qq]);rw [this.s,L9 (hne z h1 h2)]
structure Fst (o:List Int) (a t:Tm):Prop where
 lt:Di a t
 s:∃ s,s≠0/\(∀ z,Ff a z=-1->Ff t z=1->U5 (ev (cz o) z)=s)/\RS (cz o) (Ff t) (-s)
def Non (o:List Int) (a:Tm):Prop:=∃ s,s≠0/\∀ z,Ff a z=-1->U5 (ev (cz o) z)=s
theorem Q45 {q:List Int} {L:List (List Rat)} (hS:Stm (cz q) L) {a:Tm} (ha:Va a) {lo hi:Rat} {l:List Tm} (hR:RI q L lo l hi):(∀ t∈l,Va t)->(∀ z,hi<z->vv L z=vv L hi)->(∀ z,Ff a z=-1->z≤lo->vv L z=vv L lo)->∃ r,Qcn a l=some r/\match r with
 | none=>Non q a
 | some t=>t∈l/\Fst q a t:=by
 have ca:=ha.cut
 induction hR with
 |
  @nil lo hi h hv =>
  intro _ hhi hH;refine ⟨none,rfl,?_⟩;obtain ⟨y1,hy1⟩:=ca.hi;have hall:∀ z,lo<z->vv L z=vv L lo:=λz hz=>by
   rcases Fi z hi with e | e
   ·have h1:=El hS hz;have h2:vv L hi<=vv L z:=by
     rcases Classical.em (z=hi) with e' | e'
     ·rw [e']; exact Qm _
     ·exact El hS (by grind)
    omega
   ·rw [hhi z e,hv]
  obtain ⟨s,s0,hs⟩:=Dy hS ca hH hy1 λz h1 _=>hall z h1
  refine ⟨s,s0,λz hz=>?_⟩;rcases Fi z y1 with e | e
  ·exact hs z hz e
  ·obtain ⟨s',s0',hs'⟩:=Dy hS ca hH hz λz h1 _=>hall z h1
   rw [hs' z hz Qq,<-hs' y1 hy1 (Qr e),hs y1 hy1 Qq]
 |
  @cons lo hi t l h hv ht hp hl ih =>
  intro hV hhi hH;have hvt:=hV t (Qx ..);have ct:=hvt.cut;have ht':=ht;rw [<-hp] at ht';have ect:∀ z,Ff t z=cq (cz t.p) t.lo t.hi z:=Ns ht.l;obtain ⟨c,c1,c2⟩:=Qdy hvt ha;show ∃ r,((Qfy t a).bind λc=>if 0<c then some (some t) else Qcn a l)=some r/\_;rw [c1];show ∃ r,(if 0<c then some (some t) else Qcn a l)=some r/\_;have hlo1:Ff t t.lo=1:=by rw [ect]; exact Lr Qq
  have hlow:∀ z,lo<z->Ff t z=1->vv L z=vv L lo:=λz h1 h2=>by
   rcases Fi z t.lo with e | e
   ·have a1:=El hS h1;have a2:vv L t.lo<=vv L z:=by
     rcases Classical.em (z=t.lo) with e' | e'
     ·rw [e']; exact Qm _
     ·exact El hS (by grind)
    omega
   ·rw [ect] at h2;have hz:z<=t.hi:=by
     rcases Fi z t.hi with e' | e'
     ·exact e'
     ·rw [Qd1 ht.l e'] at h2; omega
    rw [ht'.eq_lo e hz h2,hv]
  by_cases hc:0<c
  ·rw [if_pos hc];refine ⟨some t,rfl,Qx ..,?_⟩;have hlt:Di a t:=by
    rcases c2 with ⟨e,_⟩ | ⟨e,_⟩ | ⟨_,h⟩
    ·omega
    ·omega
    ·exact h
   refine ⟨hlt,?_⟩;obtain ⟨m,m1,m2⟩:=hlt;obtain ⟨s,s0,hs⟩:=Dy hS ca hH m1 λz h1 h2=>hlow z h1 (by
    rcases Classical.em (z=m) with e | e
    ·rw [e]; exact m2
    ·exact ct.mono' (q:=z) (r:=m) (by grind) (by omega))
   have hall:∀ z,Ff a z=-1->Ff t z=1->U5 (ev (cz q) z)=s:=λz h1 h2=>by
    rcases Fi z m with e | e
    ·exact hs z h1 e
    ·obtain ⟨s',s0',hs'⟩:=Dy hS ca hH h1 λw w1 w2=>hlow w w1 (by
      rcases Classical.em (w=z) with e | e
      ·rw [e]; exact h2
      ·exact ct.mono' (q:=w) (r:=z) (by grind) (by omega))
     rw [hs' z h1 Qq,<-hs' m m1 (Qr e),hs m m1 Qq]
   refine ⟨s,s0,hall,?_⟩;obtain ⟨w,w1,w2,w3⟩:=Qke ct m2 hlo1;have hwa:Ff a w=-1:=ca.mono m w w2 (by omega);have hsw:=hall w hwa w1;have hwh:w<t.hi:=by
    rw [ect] at w1;rcases Fi t.hi w with e | e
    ·have:=ht'.hi1;rcases Classical.em (t.hi=w) with e' | e'
     ·rw [<-e'] at w1; exact absurd w1 this
     ·rw [Qd1 ht.l (by grind)] at w1; omega
    ·exact e
   have hww:vv L w=vv L t.lo:=ht'.eq_lo w3 (Qr hwh) (by rw [<-ect]; exact w1);have hvv:=ht.v;have hone:=Qsa hS hwh (by omega);have hlw:Sy (cz q) w=s:=by rw [L9 (by rw [hsw]; exact s0),hsw]
   rw [hlw] at hone;have hd:∀ z,w<z->z<=t.hi->Ff t z=-1->U5 (ev (cz q) z)=-s:=λz z1 z2 z3=>by
    rw [ect] at z3;have e1:=ht'.eq_hi (by grind) z2 (by omega);have e2:=Qsa hS z1 (by omega);rw [hlw] at e2;have hz0:U5 (ev (cz q) z)≠0:=by
     rw [Af (by grind) z2,hp] at z3;intro h0;rw [if_pos h0] at z3; omega
    rw [L9 hz0] at e2; exact e2.2
   rcases ct.val t.hi with e | e | e
   ·rw [ect] at e; exact absurd e ht'.hi1
   ·obtain ⟨d,dp,hd'⟩:=Znb (p:=cz q) (x:=t.hi) (by rw [hone.2]; omega);refine ⟨t.hi+d,ct.mono t.hi _ (by grind) (by omega),λz h1 h2=>?_⟩;have hz:t.hi<z:=by
     rcases Fi z t.hi with e' | e'
     ·rcases Classical.em (z=t.hi) with e'' | e''
      ·rw [e''] at h1; omega
      ·have:=ct.mono z t.hi (by grind) (by omega); omega
     ·exact e'
    rw [hd' z hz (by grind),hone.2]
   ·exact ⟨t.hi,e,λz h1 h2=>hd z (ct.lt w1 h1) h2 h1⟩
  ·rw [if_neg hc];have hle:¬Di a t:=λh=>by
    rcases c2 with ⟨e,h'⟩ | ⟨e,h'⟩ | ⟨e,_⟩
    ·exact Qa1 ct ca h' h
    ·obtain ⟨z,z1,z2⟩:=h;have:=h' z; omega
    ·omega
   obtain ⟨r,r1,r2⟩:=ih (λx hx=>hV x (Qj _ hx)) hhi λz z1 z2=>by
    have hz:Ff t z≠1:=λh=>hle ⟨z,z1,h⟩
    have hzl:t.lo<z:=by
     rcases Fi z t.lo with e | e
     ·refine absurd ?_ hz;rw [ect]; exact Lr e
     ·exact e
    exact ht'.eq_hi hzl z2 (by rw [<-ect]; exact hz)
   refine ⟨r,r1,?_⟩;cases r with
   | none=>exact r2
   | some x=>exact ⟨Qj _ r2.1,r2.2⟩
theorem Ziq {c:Rat->Int} (hc:Cut c):∀ (n:Nat) (f:List Rat),HD f n->∃ s,s≠0/\RS f c s
 |
  n,f,h=>by
  rcases Qbj hc f with hv | ⟨s,hs,hn⟩
  ·cases n with
   |
    zero =>
    exfalso;obtain ⟨q,hq,_⟩:=Qul hc (hv (U8 (f.getD 0 0)) (Bi h.1));cases f with
    | nil=>exact h.1 (by simp)
    |
     cons a l =>
     have:=C6 (p:=l) λk=>by have:=h.2 (k+1) (by omega); rwa [Q4] at this
     simp only [ev,this,Zr] at hq; grind
   |
    succ n =>
    have hd:HD (M6 f) n:=by
     have key:∀ (f:List Rat) (k:Nat),(M6 f).getD k 0=((k+1:Nat):Rat)*f.getD (k+1) 0:=by
      intro f
      induction f with
      | nil=>intro k; simp only [M6,K0]; grind
      |
       cons a f ih =>
       intro k;simp only [M6];rw [H9,Q4];cases k with
       | zero=>rw [Zr]; push_cast; grind
       | succ k=>rw [Q4,ih]; push_cast; grind
     refine ⟨λh0=>?_,λk hk=>by rw [key,h.2 (k+1) (by omega)]; grind⟩;rw [key] at h0;rcases Y0.1 h0 with h1 | h1
     ·have:=nat_pos (show 0<n+1 by omega); grind
     ·exact h.1 h1
    obtain ⟨s,hs,h1⟩:=Ziq hc n (M6 f) hd;exact ⟨s,hs,Qrr hc hv h1 hs⟩
  ·exact ⟨s,hs,Qo1 hc hn⟩
theorem Zbq {c:Rat->Int} (hc:Cut c) {f p q:List Rat} {s s':Int} (hf:∀ t,ev f t=ev p t*ev q t) (h:RS p c s) (h':RS q c s'):RS f c (s*s'):=by
 obtain ⟨y,h1,h2⟩:=h;obtain ⟨y',h3,h4⟩:=h';refine ⟨if y<=y' then y else y',by split <;> assumption,λz z1 z2=>?_⟩;rw [hf,Tx,h2 z z1 (by clear h2 h4; grind),h4 z z1 (by clear h2 h4; grind)]
theorem Zbr {c:Rat->Int} (hc:Cut c) {f o S:List Rat} {k:Rat} (hk:k≠0) (hf:∀ t,ev f t=k*(ev o t*(ev S t*ev S t))) (hnz:¬∀ t,ev f t=0) {s:Int} (h:RS o c s):RS f c (U5 k*s):=by
 obtain ⟨n,_,hn⟩:∃ n,n<S.length/\HD S n:=by
  rcases Qk8 S with h1 | h1
  ·exact absurd (λt=>by rw [hf,h1]; grind) hnz
  ·exact h1
 obtain ⟨s',hs',h'⟩:=Ziq hc n S hn;have h1:=Zbq hc (f:=Gq S S) (λt=>U4 t _ _) h' h';have h2:=Zbq hc (f:=Gq o (Gq S S)) (λt=>U4 t _ _) h h1;have hsq:s'*s'=1:=by
  obtain ⟨y,y1,y2⟩:=h';have:=y2 y y1 Qq;rcases Fq (ev S y) with ⟨e,_⟩ | ⟨e,_⟩ | ⟨e,_⟩
  ·rw [<-this,e]; rfl
  ·omega
  ·rw [<-this,e]; rfl
 rw [hsq,Wx] at h2;obtain ⟨y,y1,y2⟩:=h2;exact ⟨y,y1,λz z1 z2=>by
  have:=y2 z z1 z2;rw [U4,U4] at this;rw [hf,Tx,this]⟩
structure Cp (p:List Int):Prop where
 t:U0 p
 l:p.length<=9
 b:Bd 800 p
theorem Cp.dp {p:List Int} (h:Cp p):Dp p:=⟨h.t,h.l,Ut h.b (by omega)⟩
theorem Cp.ok {p:List Int} (h:Cp p) (h0:p.length≠0):Okp 9 900 p:=h.dp.ok h0
def Leq (a:Tm) (c:Rat->Int):Prop:=∀ q,c q=-1->Ff a q=-1
def Dt (p:List Int) (a:Tm):Option Tm->Prop
 | none=>p=[]\/∃ s,s≠0/\∀ c,Cut c->Leq a c->RS (cz p) c s
 | some t=>p≠[]/\Va t/\Di a t/\∃ s,s≠0/\(∀ c,Cut c->Leq a c->(∃ m,c m=-1/\Ff t m=1)->RS (cz p) c s)/\RS (cz p) (Ff t) (-s)
theorem RI.len {q:List Int} {L:List (List Rat)} {lo hi:Rat} {l:List Tm} (h:RI q L lo l hi):l.length+vv L hi<=vv L lo:=by
 induction h with
 | nil h hv=>simp; omega
 | cons h hv ht hp hl ih=>have:=ht.v; simp only [Q8]; omega
theorem Zco (x:Rat):∀ (L:List (List Rat)) (s:Int),tc x s L<=L.length
 | [],_=>Qm _
 |
  f::l,s=>by
  have h1:=Zco x l;simp only [tc,Q8]
  repeat' split
  all_goals (first | (have:=h1 s; omega) | (have:=h1 (U5 (ev f x)); omega))
theorem Zlz (L:List (List Rat)) (x:Rat):vv L x<=L.length:=Zco x L 0
theorem Qbi {p:List Int} (h:Cp p):∃ l,Qdk p=some l/\l.length≤67/\(∀ t∈l,Va t)/\∀ a,Va a->∃ r,Qcn a l=some r/\Dt p a r/\∀ t,r=some t->t∈l:=by
 unfold Qdk;by_cases h0:p.length=0
 ·have e:p=[]:=Qi h0;subst e;exact ⟨[],rfl,by decide,(λt ht=>by cases ht),λa _=>⟨none,rfl,.inl rfl,λt ht=>by cases ht⟩⟩
 ·obtain ⟨qp,o,q1,o1,hpt⟩:=Zai (n:=9) (s:=800) (p:=p) ⟨⟨by decide,by decide⟩,h.t,h0,h.l,h.b⟩;obtain ⟨g,sq⟩:=hpt.sq;obtain ⟨S,hS⟩:=hpt.os;obtain ⟨p1,p2,p3,p4,p5,p6,p7⟩:=Be h.t h0;have By:=h.l;obtain ⟨hh,th,eh⟩:=hpt.oh;have bo:Bd 869 o:=Qao (p5 800 h.b) (by omega) p1 hpt.ot th (by omega) eh;obtain ⟨lo1,lo2⟩:=Rv p1 (by omega) eh;have hlen:=P8 hpt.ot th p1 eh lo1 lo2;have oko:Okp 9 900 o:=⟨Q19,hpt.ot,by omega,by omega,Ut bo (by omega)⟩;obtain ⟨q,c,l,r1,r2,r3,hSt,hRI,hVa,hout⟩:=Zbm oko;obtain ⟨g',q',s1,s2⟩:=Qb8 oko;rw [r1] at s1;injection s1 with s1;subst s1;obtain ⟨_,_,_,_,_,o6,o7⟩:=Be hpt.ot (by omega);have hg1:g'=[1]:=by
   refine s2.pg.one ?_;obtain ⟨E,hE⟩:=hpt.oq;have hE:∀ t,Uy qp t=Uy o t*ev E t:=λt=>by have:=hE t; rwa [Uz,Uz] at this
   obtain ⟨z,hz⟩:=s2.d;have hd1:∀ t,Uy o t=Uy g' t*(Hd o*Uy q t):=λt=>by rw [o7,s2.e]; grind
   have hdo:∀ t,dv (cz o) t=Uy g' t*(Hd o*ev z t):=λt=>by
    have:=Q8v (p:=cz o) (q:=Cx (Hd o) (cz (U7 o))) (λt=>by rw [Uz,Ga,Uz,o7]) t;rw [this,Qf6,hz]; grind
   obtain ⟨k,hk,hkk⟩:=sq.num (d:=cz g') ⟨Gq (Cx (Hd o) (cz q)) E,λt=>by rw [Uz,Uz,hE,hd1,U4,Ga,Uz]; grind⟩ ⟨Tw (Gq (Cx (Hd o) z) E) (Gq (Cx (Hd o) (cz q)) (M6 E)),λt=>by
    have:=I9 (f:=cz qp) (w:=cz o) (u:=E) (λt=>by rw [Uz,Uz,hE]) t;rw [Ta,this,hdo,Uz,Uz,hd1,Gk,U4,U4,Ga,Ga,Ta,Uz]; grind⟩
   rcases Za g'.length 2 with e | e
   ·exact e
   ·exfalso;have h1:=(Qhq s2.pg.t (by omega)).1;have h2:=Cq (p:=cz g') (q:=[k]) (λt=>by rw [hkk]; simp only [ev]; grind) (g'.length-1);rw [h2,Qg,Qt (by simp; omega)] at h1;exact h1 rfl
  have hpq:∀ t,ev (cz p) t=((Hd p:Rat)*(Hd o:Rat))*(ev (cz q) t*(ev S t*ev S t)):=λt=>by
   rw [Uz,Uz,p7,hS,o7,s2.e,hg1,Mt]; grind
  have hk0:(Hd p:Rat)*(Hd o:Rat)≠0:=λh=>(Y0.1 h).elim (Qas p6) (Qas o6)
  have hpz:¬∀ t,ev (cz p) t=0:=λh'=>Qhi h.t (by omega) λt=>by rw [<-Uz]; exact h' t
  obtain ⟨k,hk⟩:=nmE (U5 ((Hd p:Rat)*(Hd o:Rat)));have hkn:k≠0:=λh=>hk0 (Fv.1 (by rw [<-hk]; exact h))
  have ho:o.length≠0:=by omega
  rw [o1];show ∃ l,(if o.length=0 then some [] else Qma o)=some l/\l.length<=67/\_;rw [if_neg ho];have hb1:=Qfs (D4 s2.pq.t s2.pq.n);have hll:=hRI.len;have hlv:=Zlz (c.map cz) (-Gp q);have hcl:=(Orr.chain_ok (p:=o) ⟨hpt.ot,by omega,Ut bo (by omega)⟩ r2).1;rw [Q5] at hlv;refine ⟨l,r3,by omega,hVa,λa ha=>?_⟩;obtain ⟨r,n1,n2⟩:=Q45 hSt ha hRI hVa (λz hz=>(hout _ _ hz (.inl Qq)).symm) λz _ hz=>by
   rcases Classical.em (z=-Gp q) with e | e
   ·rw [e]
   ·exact hout z _ (by grind) (.inr Qq)
  refine ⟨r,n1,?_,λt ht=>by subst ht; exact n2.1⟩;cases r with
  |
   none =>
   obtain ⟨s,hs,hz⟩:=n2;refine .inr ⟨k*s,X9 hkn hs,λc hc hac=>?_⟩;obtain ⟨y,hy⟩:=hc.hi;have h1:RS (cz q) c s:=⟨y,hy,λz z1 _=>hz z (hac z z1)⟩;rw [hk]; exact Zbr hc hk0 hpq hpz h1
  |
   some t =>
   obtain ⟨hm,hlt,s,hs,hz,hrs⟩:=n2;refine ⟨λe=>h0 (by rw [e]; rfl),hVa t hm,hlt,k*s,X9 hkn hs,λc hc hac ⟨m,m1,m2⟩=>?_,?_⟩
   ·have h1:RS (cz q) c s:=⟨m,m1,λz z1 z2=>hz z (hac z z1) (by
     rcases Classical.em (z=m) with e | e
     ·rw [e]; exact m2
     ·exact (hVa t hm).cut.mono' (q:=z) (r:=m) (by grind) (by omega))⟩
    rw [hk]; exact Zbr hc hk0 hpq hpz h1
   ·have:=Zbr (hVa t hm).cut hk0 hpq hpz hrs;rw [<-hk] at this;rw [show -(k*s)=k*-s by rw [Kx]]; exact this
structure Sz (s n:Nat) (t:Tm):Prop where
 n:t.p.length<=n
 b:Bd (s+138) t.p
 g:∃ D M k,Gr D M k t.lo/\Gr D M k t.hi/\0<M/\U6 (D:Int)<=s+138/\U6 (M:Int)<=s+139/\k<=63*s+9507
theorem Zab {p:List Int} (h:Cp p) {a:Tm} (ha:Va a):∃ r,Qhw p a=some r/\Dt p a r:=by
 obtain ⟨l,l1,_,_,l3⟩:=Qbi h;obtain ⟨r,r1,r2,_⟩:=l3 a ha;refine ⟨r,?_,r2⟩;unfold Qhw;rw [l1]; exact r1
theorem Qgl:∀ (l:List Tm) (b:Tm),(∀ t∈b::l,Va t)->∃ m,Of b l=some m/\m∈b::l/\∀ t∈b::l,¬Di t m
 |
  [],b,h=>⟨b,rfl,Qx ..,λt ht h'=>by
  rw [Qk.1 ht] at h';have hb:=(h b (Qx ..)).cut;exact Qa1 hb hb h' h'⟩
 |
  a::l,b,h=>by
  have ha:=h a (by simp);have hb:=h b (by simp);obtain ⟨c,c1,c2⟩:=Qdy ha hb;obtain ⟨m,m1,m2,m3⟩:=Qgl l (if c<0 then a else b) λt ht=>by
   rcases Qo.1 ht with rfl | ht
   ·split <;> assumption
   ·exact h t (by simp [ht])
  refine ⟨m,by simp only [Of]; rw [c1]; exact m1,?_,λt ht=>?_⟩
  ·rcases Qo.1 m2 with e | e
   ·rw [e]; split <;> simp
   ·simp [e]
  ·have hm:Va m:=by
    rcases Qo.1 m2 with e | e
    ·rw [e]; split <;> assumption
    ·exact h m (by simp [e])
   have hfst:=m3 _ (Qx ..);have tr:∀ x y:Tm,Va x->Va y->¬Di x y->¬Di y m->¬Di x m:=λx y hx hy h1 h2 h3=>by
    rcases tri hy.cut hm.cut with h4 | h4 | h4
    ·exact h2 h4
    ·obtain ⟨q,q1,q2⟩:=h3;exact h1 ⟨q,q1,by rw [h4]; exact q2⟩
    ·obtain ⟨q,q1,q2⟩:=h3;obtain ⟨r,r1,r2⟩:=h4;have:=hm.cut.lt q2 r1;exact h1 ⟨q,q1,hy.cut.mono' this (by omega)⟩
   rcases Qo.1 ht with rfl | ht
   ·by_cases hc:c<0
    ·rw [if_pos hc] at hfst;refine tr _ a hb ha ?_ hfst;rcases c2 with ⟨_,h'⟩ | ⟨e,_⟩ | ⟨e,_⟩
     ·exact λh''=>Qa1 ha.cut hb.cut h' h''
     ·omega
     ·omega
    ·rw [if_neg hc] at hfst; exact hfst
   ·rcases Qo.1 ht with rfl | ht
    ·by_cases hc:c<0
     ·rw [if_pos hc] at hfst; exact hfst
     ·rw [if_neg hc] at hfst;refine tr _ b ha hb ?_ hfst;rcases c2 with ⟨e,_⟩ | ⟨_,h'⟩ | ⟨_,h'⟩
      ·omega
      ·rintro ⟨q,q1,q2⟩
       have:=h' q; omega
      ·exact λh''=>Qa1 ha.cut hb.cut h'' h'
    ·exact m3 t (by simp [ht])
end Orq
namespace Orr
open Go Go.Proofs Orq
set_option maxRecDepth 10000
theorem Dp.pb {p:List Int} (h:Dp p):Pb p:=⟨h.t,by have:=h.l; omega,Ut h.b (by have:=h.l; omega)⟩
theorem Zmt {p:List Int} {a:Tm} (hp:Dp p) (ha:Va a):Uu Tryz.prog 228 [pr p,.agg (ta a)] [.one (.int .i64 (G9 a p))]:=Zdq (Dp.pb hp) ha.tb (Zbz hp ha).1
theorem Zmk {p:List Int} {a:Tm} (hp:Dp p) (ha:Va a):Uu Tryz.prog 227 [pr p,.one (.sh (ta a))] [.one (.int .i64 (G9 a p))]:=w tt Tryz.func227 rfl [.c [] (Zmt hp ha)] rfl rfl trivial
theorem Zec {p:List Int} {fid:Nat} {l1:List LV} {sgn:List Int->Int} (hp:Dp p) (h:∀ p,Dp p->Uu Tryz.prog fid [pr p,.one (.sh l1)] [.one (.int .i64 (sgn p))]):Uu Tryz.prog 226 [pr p,.one (.fn fid [] [.sh l1])] [.one (.int .i64 (Sv sgn p.length p))]:=by
 have hpb:=Dp.pb hp;refine Gs Tryz.func226 rfl ?_;refine go tt [.c [] (Ho hpb.t hpb.ln hpb.bd)] rfl trivial ?_;refine lp (S:=List Int) 0 (λL1 s=>(0,.v (pr s))::L1) (λ_=>[]) (λs=>s.length) (λs=>Dp s/\Sv sgn s.length s=Sv sgn p.length p) p ⟨hp,rfl⟩ rfl (λ_ _=>rfl) rfl λr ⟨j1,j4⟩=>?_
 rw [<-j4];have jb:=Dp.pb j1;by_cases h0:r.length=0
 ·have e:=Qhp sgn h0;rw [e];exact en tt [.f (by simp; exact Qi h0)] rfl rfl trivial
 ·have hs:=h r j1;by_cases hz:sgn r=0
  ·have hlp:=Pp r;refine go tt [.t (by simp; omega),.c [] hs,.f (by simpa using hz),.c [] (Aw jb.ln jb.bd)] rfl trivial ?_;exact rd (Gg r) (by omega) ⟨j1.der,by rw [<-Qho sgn (by omega) hz]⟩ rfl
  ·rw [Qhn sgn (by omega) hz];exact en tt [.t (by simp; omega),.c [] hs,.t (by simpa using hz)] rfl rfl trivial
abbrev gmA (a:Tm) (p:List Int):Int:=Tg (G9 a) p
theorem Q0e {p:List Int} {a:Tm} (hp:Dp p) (ha:Va a):Uu Tryz.prog 176 [pr p,.agg (ta a)] [.one (.int .i64 (gmA a p))] :=
 w tt Tryz.func176 rfl [.c [] (Zec (sgn:=G9 a) hp λ_ h=>Zmk h ha)] rfl rfl trivial
theorem Q7s {t:Tm} {a b:Pt} {ps:List (List Int)} (hps:∀ p∈ps,Dp p) (ht:Va t) (hl:ps.length<1000):Uu Tryz.prog 284 [.agg (ta t),.agg (Gy a),.agg (Gy b),.one (.row (Si ps))] [.one (.bool (Oj (G9 t) a b ps))]:=by
 refine Gs Tryz.func284 rfl ?_;have By:(Si ps).length=ps.length:=by simp [Si]
 refine go tt [] rfl trivial ?_;refine lp (S:=Nat) 3 (λL1 i=>(13,.v (.one (.int .i64 (i:Int))))::L1) (λ_=>[.blk 74 (ta t),.blk 135 (Gy a),.blk 135 (Gy b)]) (λi=>ps.length-i) (λi=>i<=ps.length/\Oj (G9 t) a b (ps.drop i)=Oj (G9 t) a b ps) 0 ⟨Qh _,rfl⟩ rfl (λ_ _=>rfl) rfl λi ⟨hi,he⟩=>?_
 rw [<-he];by_cases hlt:i<ps.length
 ·obtain ⟨p,hp⟩:=gxE (l:=ps) (i:=i) hlt;have hd:ps.drop i=p::ps.drop (i+1):=by
   rw [Ze hlt];rw [Qe hlt] at hp; injection hp with hp; rw [hp]
  have hpb:=hps p (Qa hp);rw [hd] at he ⊢;by_cases h0:0<p.length
  ·exact en tt [.t (by simp [By]; omega),.x (Ra hp),.t (by simp; omega),.c [] (Q0e hpb ht)] rfl (by simp only [Oj]; rw [if_pos h0]) trivial
  ·refine go tt [.t (by simp [By]; omega),.x (Ra hp),.f (by simp; exact Qi (by omega))] rfl (by simp [Us]; omega) ?_;exact rd (i+1) (by omega) ⟨hlt,by simp only [Oj]; rw [if_neg h0]⟩ rfl
 ·have hd:ps.drop i=[]:=Yv (by omega);rw [hd];exact en tt [.f (by simp [By]; omega)] rfl rfl trivial
structure Sc (k:Crv):Prop where
 n:Nml k
 c:Cs 90 3 k
theorem Sc.cb {k:Crv} (h:Sc k):Cb k:=h.c.mono (by omega) (by omega)
theorem Qaf {a b:Crv} (ha:Sc a) (hb:Sc b):Cp (Hk a b):=by
 refine ⟨Fu _ _,?_,Ut (Iw (Gu hb.c.x ha.c.d) (Gu ha.c.x hb.c.d)) (by omega)⟩;have:=L8 (Fg b.x a.d) (Fg a.x b.d);have:=Gb b.x a.d; have:=Gb a.x b.d; have:=ha.c.lx; have:=hb.c.lx;unfold Hk; omega
theorem Qae {a b:Crv} (ha:Sc a) (hb:Sc b):Cp (Hq a b):=by
 refine ⟨Fu _ _,?_,Ut (Iw (Gu hb.c.y ha.c.d) (Gu ha.c.y hb.c.d)) (by omega)⟩;have:=L8 (Fg b.y a.d) (Fg a.y b.d);have:=Gb b.y a.d; have:=Gb a.y b.d; have:=ha.c.ly; have:=hb.c.ly;unfold Hq; omega
theorem Q6i {a b:Pt} {t:Tm} (ha:Sc a.c) (hb:Sc b.c) (ht:Va t):Uu Tryz.prog 240 [.agg (Gy a),.agg (Gy b),.agg (ta t)] [.one (.bool (Te (G9 t) a b))] :=
 w tt Tryz.func240 rfl [.c [] (Qz4 ha.n hb.n ha.cb hb.cb),.c [] (Qzv ha.n hb.n ha.cb hb.cb),.c [] (Q7s (t:=t) (a:=a) (b:=b) (ps:=[Hk a.c b.c,Hq a.c b.c]) (λp hp=>by
  simp at hp;rcases hp with rfl | rfl
  ·exact (Qaf ha hb).dp
  ·exact (Qae ha hb).dp) ht (show 2<1000 by decide))] rfl rfl trivial
theorem Zix (q:Rat) {P:Prop} (h:(tq q).point=false):P:=by
 have e:(tq q).point=true:=Nh.2 Qq;rw [e] at h; cases h
theorem Zlw {q:Rat} (hq:Qs 400000 q):Va (tq q):=by
 have hd:=q.den_nz;refine ⟨.inl ⟨rfl,?_⟩,Q3a q,by show 2<=9; omega,by show 2<=2; omega,Zmi (hq.mono (by omega)),Zix q,Zix q,q.den,q.num.natAbs+1,0,?_,?_,by omega,?_⟩
 ·have e:(q.num:Rat)=q*(q.den:Rat):=by
   have:(q.num:Rat) / (((q.den:Int)):Rat)=q:=by rw [Hy,Z3]
   have h2:(q.num:Rat) / (q.den:Rat)*(q.den:Rat)=q.num:=Zk (by have:=Orq.nat_pos q.den_pos; grind);rw [show (q.num:Rat) / (q.den:Rat)=q from this] at h2; exact h2.symm
  show Uy [-q.num,(q.den:Int)] q=0;simp only [Uy];rw [Vr,e,show (((q.den:Int)):Rat)=(q.den:Rat) from rfl]; grind
 all_goals first | (have h1:U6 (q.den:Int)<=400000:=hq.2; have h2:U6 ((q.num.natAbs+1:Nat):Int)<=400001:=Q4x hq.1; omega) | skip
 all_goals
  refine ⟨⟨q.num,?_⟩,?_,q.den_pos⟩
  ·rw [Vg,Yw];have:(q.num:Rat) / (((q.den:Int)):Rat)=q:=by rw [Hy,Z3]
   have h2:(q.num:Rat) / (q.den:Rat)*(q.den:Rat)=q.num:=Zk (by have:=Orq.nat_pos q.den_pos; grind);rw [show (q.num:Rat) / (q.den:Rat)=q from this] at h2; exact h2
  ·have h1:U8 q<=U8 (q.num:Rat):=by
    have e:(q.num:Rat)=q*(q.den:Rat):=by
     have:(q.num:Rat) / (((q.den:Int)):Rat)=q:=by rw [Hy,Z3]
     have h2:(q.num:Rat) / (q.den:Rat)*(q.den:Rat)=q.num:=Zk (by have:=Orq.nat_pos q.den_pos; grind);rw [show (q.num:Rat) / (q.den:Rat)=q from this] at h2; exact h2.symm
    rw [e,E8];have hd1:(1:Rat)<=(q.den:Rat):=by
     have:((1:Nat):Rat)<=(q.den:Rat):=Zi.2 q.den_pos;exact this
    have e2:U8 (q.den:Rat)=(q.den:Rat):=by unfold U8; rw [if_neg (by grind)]
    rw [e2];have:=Nx (a:=U8 q) (c:=1) (Hn q) Qq (by decide) hd1;grind
   rw [Ty] at h1;refine Zg h1 (Zi.2 (by omega))
theorem Q4k {p q:List Int} (hp:Cp p) (hq:Cp q):Cp (Qal p q):=by unfold Qal; split <;> assumption
theorem Zdz {a b:Pt} {t:Tm} (ha:Sc a.c) (hb:Sc b.c) (ht:Va t):Uu Tryz.prog 179 [.one (.int .i64 1),.agg (ta t),.one (.row [Gy a,Gy b])] [.agg (Qci (Nw (G9 t) a b)),.one (.int .i64 0)]:=by
 have h1:=Qaf ha hb;have h2:=Qae ha hb;refine Gs Tryz.func179 rfl ?_;refine go tt [.c [] Q32,.f rfl] rfl trivial ?_;refine lp (S:=Nat) 3 (λL1 i=>(22,.v (.one (.int .i64 (i:Int))))::L1) (λi=>[.blk 74 (ta t),.blk 90 zCt,.blk 90 [.int .i64 1,.int .i64 (if 1<=i then a.id else 0),.int .i64 (if 2<=i then b.id else 0),.int .i64 0,.int .i64 0,.nils,.int .i64 0]]) (λi=>2-i) (λi=>i<=2) 0 (Qh _) rfl (λ_ _=>rfl) rfl λi hi=>?_
 rcases (show i=0\/i=1\/i=2 by omega) with rfl | rfl | rfl
 ·refine go tt [.t rfl,.x (i:=0) (xs:=Gy a) rfl,.i 0] rfl (by simp [Us]) ?_;exact rd 1 (by omega) (by omega) rfl
 ·refine go tt [.t rfl,.x (i:=1) (xs:=Gy b) rfl,.i 1] rfl (by simp [Us]) ?_;exact rd 2 (by omega) (by omega) rfl
 ·exact en tt [.f rfl,.t rfl,.x (i:=0) (xs:=Gy a) rfl,.x (i:=1) (xs:=Gy b) rfl,.c [] (Qz4 ha.n hb.n ha.cb hb.cb),.x (i:=0) (xs:=Gy a) rfl,.x (i:=1) (xs:=Gy b) rfl,.c [] (Qzv ha.n hb.n ha.cb hb.cb),.c [] Q7j,.c [] (Q0e (Q4k h1 h2).dp ht)] rfl rfl trivial
end Orr
namespace Orr
variable {α:Type}
def Tp (lt:α->α->Bool) (out:List α) (x:α):Nat->Nat
 | 0=>0
 |
  k+1=>match out[k]? with
  | some y=>if lt x y=true then Tp lt out x k else k+1
  | none=>k+1
theorem Qrf (lt:α->α->Bool) (out:List α) (x:α):∀ k,Tp lt out x k<=k
 | 0=>Qm _
 |
  k+1=>by
  simp only [Tp]
  split
  ·split
   ·exact Nat.le_succ_of_le (Qrf lt out x k)
   ·exact Qm _
  ·exact Qm _
theorem Qb1 {lt:α->α->Bool} {out:List α} {x y:α} {k:Nat} (hx:out[k]? = some y) (h:lt x y=true):Tp lt out x (k+1)=Tp lt out x k:=by
 simp only [Tp,hx,h,if_true]
theorem Ii {lt:α->α->Bool} {out:List α} {x y:α} {k:Nat} (hx:out[k]? = some y) (h:lt x y=false):Tp lt out x (k+1)=k+1:=by
 simp [Tp,hx,h]
def P7 (lt:α->α->Bool) (out:List α) (x:α):List α:=out.take (Tp lt out x out.length)++x::out.drop (Tp lt out x out.length)
theorem Q9q (lt:α->α->Bool) (out:List α) (x:α):(P7 lt out x).length=out.length+1:=by
 have:=Qrf lt out x out.length;simp [P7]; omega
theorem Qef {lt:α->α->Bool} {out:List α} {x y:α}:y∈P7 lt out x↔y=x\/y∈out:=by
 have h:y∈out↔y∈out.take (Tp lt out x out.length)\/y∈out.drop (Tp lt out x out.length):=by
  rw [<-Qu,Zb]
 simp only [P7,Qu,Qo,h];constructor
 ·rintro (h | h | h)
  ·exact .inr (.inl h)
  ·exact .inl h
  ·exact .inr (.inr h)
 ·rintro (h | h | h)
  ·exact .inr (.inl h)
  ·exact .inl h
  ·exact .inr (.inr h)
def Fy (lt:α->α->Bool) (l:List α):List α:=l.foldl (P7 lt) []
theorem Qy8 (lt:α->α->Bool) (l:List α) (x:α):Fy lt (l++[x])=P7 lt (Fy lt l) x:=by simp [Fy,Vx]
theorem Ei {lt:α->α->Bool} {l:List α} {i:Nat} {x:α} (h:l[i]? = some x):Fy lt (l.take (i+1))=P7 lt (Fy lt (l.take i)) x:=by
 rw [Zp,h]; exact Qy8 _ _ _
theorem Qk0 (lt:α->α->Bool):∀ (l acc:List α),(l.foldl (P7 lt) acc).length=acc.length+l.length
 | [],acc=>by simp
 | c::l,acc=>by simp only [Z6]; rw [Qk0 lt l (P7 lt acc c),Q9q]; simp; omega
theorem Re (lt:α->α->Bool) (l:List α):(Fy lt l).length=l.length:=by unfold Fy; rw [Qk0]; simp
theorem Qc4 (lt:α->α->Bool):∀ (l acc:List α) {y:α},y∈l.foldl (P7 lt) acc↔y∈l\/y∈acc
 | [],acc,y=>by simp
 |
  c::l,acc,y=>by
  simp only [Z6];rw [Qc4 lt l,Qef,Qo];constructor
  ·rintro (h | h | h)
   ·exact .inl (.inr h)
   ·exact .inl (.inl h)
   ·exact .inr h
  ·rintro ((h | h) | h)
   ·exact .inr (.inl h)
   ·exact .inl h
   ·exact .inr (.inr h)
theorem S8 {lt:α->α->Bool} {l:List α} {y:α}:y∈Fy lt l↔y∈l:=by
 unfold Fy; rw [Qc4]; simp
end Orr
namespace Orr
open Go Orq
structure Wt where
 c:Ct
 known:Bool
 fails:Option Tm
def f0:Option Tm->LV | none=>.row [] | some t=>pl t.p
def f1:Option Tm->LV | none=>.bool false | some t=>sg t.lo.num
def f2:Option Tm->LV | none=>.row [] | some t=>mg t.lo.num
def f3:Option Tm->LV | none=>.bool false | some t=>sg (t.lo.den:Int)
def f4:Option Tm->LV | none=>.row [] | some t=>mg (t.lo.den:Int)
def f5:Option Tm->LV | none=>.bool false | some t=>sg t.hi.num
def f6:Option Tm->LV | none=>.row [] | some t=>mg t.hi.num
def f7:Option Tm->LV | none=>.bool false | some t=>sg (t.hi.den:Int)
def f8:Option Tm->LV | none=>.row [] | some t=>mg (t.hi.den:Int)
abbrev fl (o:Option Tm):List LV:=[f0 o,f1 o,f2 o,f3 o,f4 o,f5 o,f6 o,f7 o,f8 o]
abbrev wl (w:Wt):List LV:=[.int .i64 w.c.kind,.int .i64 w.c.i0,.int .i64 w.c.i1,.int .i64 w.c.i2,.int .i64 w.c.i3,pl w.c.p,.int .i64 w.c.want,.bool w.known,.bool w.fails.isSome,f0 w.fails,f1 w.fails,f2 w.fails,f3 w.fails,f4 w.fails,f5 w.fails,f6 w.fails,f7 w.fails,f8 w.fails]
def Qdn (l:List Wt):List (List LV):=l.map λw=>wl w
theorem P0 {l:List Wt} {i:Nat} {w:Wt} (h:l[i]? = some w):(Qdn l)[i]? = some (wl w):=Gt h
theorem Dh (l:List Wt):(Qdn l).length=l.length:=by simp [Qdn]
structure Cr where
 now:Tm
 l:List Wt
 ev:Int
abbrev Pe (c:Cr) (r0 r1:List (List LV)):List LV:=.bool true::pl c.now.p::sg c.now.lo.num::mg c.now.lo.num::sg (c.now.lo.den:Int)::mg (c.now.lo.den:Int)::sg c.now.hi.num::mg c.now.hi.num::sg (c.now.hi.den:Int)::mg (c.now.hi.den:Int)::.row (Qdn c.l)::.int .i64 c.ev::[.row r0,.row r1]
structure WtOk (w:Wt):Prop where
 p:Cp w.c.p
 f:∀ t,w.fails=some t->Va t
structure CrOk (c:Cr):Prop where
 n:Va c.now
 l:∀ w∈c.l,WtOk w
 k:c.l.length<=1000
def Zbx (a b:Ct):Bool:=decide ([a.kind,a.i0,a.i1,a.i2,a.i3]=[b.kind,b.i0,b.i1,b.i2,b.i3])
def fresh (x:Ct):Wt:=⟨x,false,none⟩
def Lz:List Wt->Ct->Tm->Option Wt
 | [],x,_=>some (fresh x)
 |
  w::l,x,at_=>if Zbx w.c x=true/\w.known=true/\w.c.p=x.p then
   match w.fails with
   | none=>some ⟨x,true,none⟩
   | some t=>(Qfy t at_).bind λc=>if 0<c then some ⟨x,true,some t⟩ else Lz l x at_
  else Lz l x at_
def E6 (old:List Wt) (at_:Tm):List Ct->Option (List Wt)
 | []=>some []
 | x::l=>(Lz old x at_).bind λw=>(E6 old at_ l).bind λr=>some (w::r)
end Orr
namespace Orr
open Go Go.Proofs Orq
set_option maxRecDepth 10000
theorem Qpr {T:Nat} {c:Cr} {r0 r1:List (List LV)} (hc:Va c.now):Gn Tryz.prog 21 [.one (.ow 0 0)] [.blk T (Pe c r0 r1)] [.agg (ta c.now)] [.blk T (Pe c r0 r1)]:=by
 have cl:=O8 (b:=c.now) (l:=[]) hc.tb (λt ht=>by cases ht) (by decide) rfl;refine Gs Tryz.func21 rfl ?_;exact ed tt [] [0] [.f rfl,.c [] cl] rfl trivial
theorem Qjv {T:Nat} {c:Cr} {r0 r1:List (List LV)} (hc:CrOk c):Gn Tryz.prog 22 [.one (.ow 0 0)] [.blk T (Pe c r0 r1)] [.one (.row (Fj (Fz (c.l.map (·.c)))))] [.blk T (Pe c r0 r1)]:=by
 have hk:=hc.k;have hw:=Dh c.l;refine Gs Tryz.func22 rfl ?_;refine go tt [.o 3 90 7] rfl trivial ?_;refine lp (S:=Nat) 2 (λL1 i=>(11,.v (.one (.int .i64 (i:Int))))::(3,.v (.one (.orow 1 7 none)))::L1) (λi=>[.blk T (Pe c r0 r1),.row false 90 7 (Fj ((c.l.map (·.c)).take i))]) (λi=>c.l.length-i) (λi=>i<=c.l.length) 0 (Qh _) rfl (λ_ _=>rfl) rfl λi hi=>?_
 by_cases hlt:i<c.l.length
 ·obtain ⟨x,hx⟩:=gxE (l:=c.l) (i:=i) hlt;have hm:∀ y∈[Qci x.c],y.length=7:=λy hy=>by rw [Qk.1 hy]; rfl
  have hg:(c.l.map (·.c)).take (i+1)=(c.l.map (·.c)).take i++[x.c]:=by
   rw [Zp,Q7,hx]; rfl
  have hl:decide ((i:Int)<((Qdn c.l).length:Int))=true:=by simp [hw]; omega
  obtain ⟨xc,xk,xf⟩:=x;cases xf <;> (refine go tt [.t hl,.x (P0 hx),.s (sz:=7) hm] rfl (by simp [Us,B9]; omega) ?_; exact rd (i+1) (by omega) hlt (by rw [hg]; simp [Fj]; rfl))
 ·obtain rfl:i=c.l.length:=by omega
  have e:(c.l.map (·.c)).take c.l.length=c.l.map (·.c):=Ql (by simp);rw [e];have cs:=Qws (l:=c.l.map (·.c)) (λx hx=>by
   obtain ⟨w,hw,rfl⟩:=Zn.1 hx;exact Dp.pb (hc.l w hw).p.dp) (by simp; omega)
  exact ed tt [] [0] [.f (by simp [hw]),.c [] cs] rfl trivial
theorem Zji {T:Nat} {c:Cr} {r0 r1:List (List LV)} {x:Ct} {at_:Tm} {w:Wt} (hc:CrOk c) (hx:Cp x.p) (ha:Va at_) (h:Lz c.l x at_=some w):Gn Tryz.prog 223 [.one (.ow 0 0),.agg (Qci x),.agg (ta at_)] [.blk T (Pe c r0 r1)] [.agg (wl w)] [.blk T (Pe c r0 r1)]:=by
 have hk:=hc.k;have hw:=Dh c.l;refine Gs Tryz.func223 rfl ?_;refine go tt [] rfl trivial ?_;refine lp (S:=Nat) 4 (λL1 i=>(14,.v (.one (.int .i64 (i:Int))))::L1) (λ_=>[.blk T (Pe c r0 r1),.blk 90 (Qci x),.blk 74 (ta at_),.blk 167 [.int .i64 0,.int .i64 0,.int .i64 0,.int .i64 0,.int .i64 0,.nils,.int .i64 0,.bool false,.bool false,.nils,.bool false,.nils,.bool false,.nils,.bool false,.nils,.bool false,.nils]]) (λi=>c.l.length-i) (λi=>i<=c.l.length/\Lz (c.l.drop i) x at_=some w) 0 ⟨Qh _,h⟩ rfl (λ_ _=>rfl) rfl λi ⟨hi,hf⟩=>?_
 by_cases hlt:i<c.l.length
 ·obtain ⟨v,hv⟩:=gxE (l:=c.l) (i:=i) hlt;have hdr:c.l.drop i=v::c.l.drop (i+1):=by
   rw [Ze hlt]; congr 1;have:=Qe hlt; rw [hv] at this; injection this with this; exact this.symm
  have hvo:=hc.l v (Qa hv);rw [hdr] at hf;simp only [Lz] at hf;have hl:decide ((i:Int)<((Qdn c.l).length:Int))=true:=by simp [hw]; omega
  by_cases A:Zbx v.c x=true
  ·have A':(!decide ([v.c.kind,v.c.i0,v.c.i1,v.c.i2,v.c.i3]=[x.kind,x.i0,x.i1,x.i2,x.i3]))=false:=by
    unfold Zbx at A; rw [A]; rfl
   by_cases B:v.known=true
   ·have B':(!v.known)=false:=by rw [B]; rfl
    have cs:=Qpu (p:=v.c.p) (q:=x.p) (Dp.pb hvo.p.dp).ln (Dp.pb hx.dp).ln (Dp.pb hvo.p.dp).bd (Dp.pb hx.dp).bd;rw [hvo.p.t,hx.t] at cs;by_cases C:v.c.p=x.p
    ·have C':(!decide (v.c.p=x.p))=false:=by simp [C]
     rw [if_pos ⟨A,B,C⟩] at hf;obtain ⟨vc,vk,vf⟩:=v;cases vf with
     |
      none =>
      injection hf with hf; subst hf;exact ed tt [] [0] [.t hl,.x (P0 hv),.g 24 false A',.g 29 false B',.c [] cs,.f C',.g 41 true rfl,.t rfl] rfl trivial
     |
      some t =>
      obtain ⟨r,r1',hf⟩:=Qf.1 hf;have cc:=Qjs (hvo.f t rfl).tb ha.tb r1';by_cases D:0<r
      ·rw [if_pos D] at hf;injection hf with hf; subst hf;exact ed tt [] [0] [.t hl,.x (P0 hv),.g 24 false A',.g 29 false B',.c [] cs,.f C',.g 41 false rfl,.c [] cc,.t (by simpa using D)] rfl trivial
      ·rw [if_neg D] at hf;refine go tt [.t hl,.x (P0 hv),.g 24 false A',.g 29 false B',.c [] cs,.f C',.g 41 false rfl,.c [] cc,.f (by simpa using D)] rfl (by simp [Us]; omega) ?_;exact rd (i+1) (by omega) ⟨hlt,hf⟩ rfl
    ·rw [if_neg λh=>C h.2.2] at hf;refine go tt [.t hl,.x (P0 hv),.g 24 false A',.g 29 false B',.c [] cs,.t (by simp [C])] rfl (by simp [Us]; omega) ?_;exact rd (i+1) (by omega) ⟨hlt,hf⟩ rfl
   ·rw [if_neg λh=>B h.2.1] at hf;refine go tt [.t hl,.x (P0 hv),.g 24 false A',.g 29 true (by simpa using B),.t rfl] rfl (by simp [Us]; omega) ?_;exact rd (i+1) (by omega) ⟨hlt,hf⟩ rfl
  ·rw [if_neg λh=>A h.1] at hf;refine go tt [.t hl,.x (P0 hv),.g 24 true (by rw [show decide ([v.c.kind,v.c.i0,v.c.i1,v.c.i2,v.c.i3]=[x.kind,x.i0,x.i1,x.i2,x.i3])=false from Bool.eq_false_iff.2 A]; rfl),.g 29 true rfl,.t rfl] rfl (by simp [Us]; omega) ?_;exact rd (i+1) (by omega) ⟨hlt,hf⟩ rfl
 ·obtain rfl:i=c.l.length:=by omega
  rw [Yu] at hf;simp only [Lz] at hf;injection hf with hf; subst hf;exact ed tt [] [0] [.f (by simp [hw])] rfl trivial
theorem Qeh {old:List Wt} {at_:Tm}:∀ {l:List Ct} {ws:List Wt},E6 old at_ l=some ws->ws.length=l.length/\∀ (i:Nat) (x:Ct),l[i]? = some x->∃ w,Lz old x at_=some w/\ws[i]? = some w
 | [],ws,h=>by injection h with h; subst h; exact ⟨rfl,λi x hx=>by simp at hx⟩
 |
  y::l,ws,h=>by
  simp only [E6] at h;obtain ⟨w,hw,h⟩:=Qf.1 h;obtain ⟨r,hr,h⟩:=Qf.1 h;injection h with h; subst h;obtain ⟨a,b⟩:=Qeh hr;refine ⟨by simp [a],λi x hx=>?_⟩;cases i with
  | zero=>injection hx with hx; subst hx; exact ⟨w,hw,rfl⟩
  | succ i=>exact b i x (by simpa using hx)
theorem Qhc {l:List Wt} {i:Nat} {w:Wt} (h:l[i]? = some w):Qdn (l.take (i+1))=Qdn (l.take i)++[wl w]:=by
 rw [Zp,h]; simp [Qdn]
theorem Qzy {T:Nat} {c:Cr} {r0 r1:List (List LV)} {at_:Tm} {l:List Ct} {ws:List Wt} (hc:CrOk c) (ha:Va at_) (hl:∀ x∈l,Cp x.p) (hn:l.length≤1000) (h:E6 c.l at_ (Fz l)=some ws):Gn Tryz.prog 171 [.one (.ow 0 0),.agg (ta at_),.one (.bool true),.one (.row (Fj l))] [.blk T (Pe c r0 r1)] [] [.blk T (Pe ⟨at_,ws,c.ev⟩ r0 r1)]:=by
 have cs:=Qws (l:=l) (λx hx=>Dp.pb (hl x hx).dp) (by omega);have cl:=O8 (b:=at_) (l:=[]) ha.tb (λt ht=>by cases ht) (by decide) rfl;obtain ⟨h1,h2⟩:=Qeh h;have hs:(Fz l).length=l.length:=Ll l;refine Gs Tryz.func171 rfl ?_;refine go tt [.o 8 167 18,.c [] cs] rfl trivial ?_;refine lp (S:=Nat) 3 (λL1 i=>(15,.v (.one (.int .i64 (i:Int))))::(8,.v (.one (.orow 2 18 none)))::L1) (λi=>[.blk T (Pe c r0 r1),.blk 74 (ta at_),.row false 167 18 (Qdn (ws.take i))]) (λi=>ws.length-i) (λi=>i<=ws.length) 0 (Qh _) rfl (λ_ _=>rfl) rfl λi hi=>?_
 by_cases hlt:i<ws.length
 ·obtain ⟨x,hx⟩:=gxE (l:=(Fz l)) (i:=i) (by omega);obtain ⟨w,hw,hw'⟩:=h2 i x hx;have hm:∀ y∈[wl w],y.length=18:=λy hy=>by rw [Qk.1 hy]; rfl
  have hlt':decide ((i:Int)<((Fj (Fz l)).length:Int))=true:=by simp [Fj]; omega
  have ck:=Zji (T:=T) (r0:=r0) (r1:=r1) hc (hl x (Ir (Qa hx))) ha hw;have hg:=Qhc hw';obtain ⟨wc,wk,wf⟩:=w;cases wf <;> (refine go tt [.t hlt',.x (Qf1 hx),.t rfl,.c [0] ck,.s (sz:=18) hm] rfl (by simp [Us,Dh]; omega) ?_; exact rd (i+1) (by omega) hlt (by rw [hg]; rfl))
 ·obtain rfl:i=ws.length:=by omega
  rw [Qy];have hge:decide ((ws.length:Int)<((Fj (Fz l)).length:Int))=false:=by simp [Fj]; omega
  exact ed tt [] [0] [.f hge,.p 2,.c [] cl] rfl trivial
abbrev crz (r0 r1:LV):List LV:=[.bool false,.nils,.bool false,.nils,.bool false,.nils,.bool false,.nils,.bool false,.nils,.nils,.int .i64 0,r0,r1]
theorem Zdw {T:Nat} {r0 r1:List (List LV)} {at_:Tm} {l:List Ct} (ha:Va at_) (hl:∀ x∈l,Cp x.p) (hn:l.length≤1000):Gn Tryz.prog 171 [.one (.ow 0 0),.agg (ta at_),.one (.bool false),.one (.row (Fj l))] [.blk T (crz (.row r0) (.row r1))] [] [.blk T (Pe ⟨at_,(Fz l).map fresh,0⟩ r0 r1)]:=by
 have cs:=Qws (l:=l) (λx hx=>Dp.pb (hl x hx).dp) (by omega);have cl:=O8 (b:=at_) (l:=[]) ha.tb (λt ht=>by cases ht) (by decide) rfl;have hs:(Fz l).length=l.length:=Ll l;refine Gs Tryz.func171 rfl ?_;refine go tt [.o 8 167 18,.c [] cs] rfl trivial ?_;refine lp (S:=Nat) 3 (λL1 i=>(15,.v (.one (.int .i64 (i:Int))))::(8,.v (.one (.orow 2 18 none)))::L1) (λi=>[.blk T (crz (.row r0) (.row r1)),.blk 74 (ta at_),.row false 167 18 (Qdn (((Fz l).map fresh).take i))]) (λi=>l.length-i) (λi=>i<=l.length) 0 (Qh _) rfl (λ_ _=>rfl) rfl λi hi=>?_
 by_cases hlt:i<l.length
 ·obtain ⟨x,hx⟩:=gxE (l:=(Fz l)) (i:=i) (by omega);have hm:∀ y∈[wl (fresh x)],y.length=18:=λy hy=>by rw [Qk.1 hy]; rfl
  have hlt':decide ((i:Int)<((Fj (Fz l)).length:Int))=true:=by simp [Fj]; omega
  have hg:=Qhc (l:=(Fz l).map fresh) (i:=i) (w:=fresh x) (by rw [Q7,hx]; rfl);refine go tt [.t hlt',.x (Qf1 hx),.z 20,.f rfl,.s (sz:=18) hm] rfl (by simp [Us,Dh]; omega) ?_;exact rd (i+1) (by omega) hlt (by rw [hg]; rfl)
 ·obtain rfl:i=l.length:=by omega
  rw [Ql (by simp; omega)];have hge:decide ((l.length:Int)<((Fj (Fz l)).length:Int))=false:=by simp [Fj]; omega
  exact ed tt [] [0] [.f hge,.p 2,.c [] cl] rfl trivial
theorem Q3w {T:Nat} {r0 r1:List (List LV)} {at_:Tm} {l:List Ct} (ha:Va at_) (hl:∀ x∈l,Cp x.p) (hn:l.length≤1000):Gn Tryz.prog 130 [.one (.ow 0 0),.agg (ta at_),.one (.row (Fj l))] [.blk T (crz (.row r0) (.row r1))] [] [.blk T (Pe ⟨at_,(Fz l).map fresh,0⟩ r0 r1)]:=by
 have cl:=Zdw (T:=T) (r0:=r0) (r1:=r1) ha hl hn;refine Gs Tryz.func130 rfl ?_;exact ed tt [] [0] [.g 12 false rfl,.c [0] cl] rfl trivial
theorem eB {a b:Bool} (h:a=b):TV.one (LV.bool a)=.one (.bool b):=h ▸ rfl
theorem Q3x {T:Nat} {c:Cr} {r0 r1:List (List LV)} {at_:Tm} {l:List Ct} {ws:List Wt} {k:Int} (hc:CrOk c) (ha:Va at_) (hk:Qfy at_ c.now=some k) (h0:0≤k) (hl:∀ x∈l,Cp x.p) (hn:l.length≤1000) (h:E6 c.l at_ (Fz l)=some ws):Gn Tryz.prog 130 [.one (.ow 0 0),.agg (ta at_),.one (.row (Fj l))] [.blk T (Pe c r0 r1)] [] [.blk T (Pe ⟨at_,ws,c.ev⟩ r0 r1)]:=by
 have cl:=Qzy (T:=T) (r0:=r0) (r1:=r1) hc ha hl hn h;have cc:=Qjs ha.tb hc.n.tb hk;refine Gs Tryz.func130 rfl ?_;exact ed tt [] [0] [.g 12 true rfl,.c [] cc,.r 20 (eB (show decide (0<=k)=true by simpa using h0)),.c [0] cl] rfl trivial
theorem Qix:∀ {k:Nat} {g:List Int} {l:List (List Int)},Pb g->Qgk k g=some l->l.length≤k/\∀ p∈l,Pb p
 | 0,_,_,_,h=>by cases h
 |
  k+1,g,l,hg,h=>by
  simp only [Qgk] at h
  split at h
  ·injection h with h; subst h; exact ⟨by simp,λp hp=>by cases hp⟩
  ·obtain ⟨d,hd,h⟩:=Qf.1 h;obtain ⟨rfl,hdp⟩:=Qlu hd;obtain ⟨x,hx,h⟩:=Qf.1 h;obtain ⟨q,hq,h⟩:=Qf.1 h;obtain ⟨r,hr,h⟩:=Qf.1 h;injection h with h; subst h;obtain ⟨i1,i2⟩:=Qix (Qgv hg hdp hx) hr;refine ⟨by simp; exact i1,λp hp=>?_⟩;rcases Qo.1 hp with rfl | hp
   ·exact Qx9 hq
   ·exact i2 p hp
theorem Q7o {a:List Int} {l:List (List Int)} (ha:Pb a) (h:Qgk 66 (U7 a)=some l):Uu Tryz.prog 332 [pr a] [.one (.row (Si l))]:=by
 have hp:=Rk ha;refine Gs Tryz.func332 rfl ?_;refine go tt [.o 3 48 1,.c [] (Ep ha)] rfl trivial ?_;refine lp (S:=Nat×List (List Int)×List Int) 1 (λL1 s=>(4,.v (pr s.2.2))::(3,.v (.one (.orow 0 1 none)))::L1) (λs=>[.row false 48 1 (Si s.2.1)]) (λs=>s.1) (λs=>Pb s.2.2/\s.2.1.length+s.1<=66/\∃ m,Qgk s.1 s.2.2=some m/\s.2.1++m=l) (66,[],U7 a) ⟨hp,Qm _,l,h,rfl⟩ rfl (λ_ _=>rfl) rfl λ⟨k,out,g⟩ ⟨j1,j2,m,j3,j4⟩=>?_
 dsimp only at j1 j2 j3 j4 ⊢;cases k with
 | zero=>cases j3
 |
  succ k =>
  simp only [Qgk] at j3
  split at j3
  ·rename_i h0;injection j3 with j3; subst j3;rw [Zq] at j4;subst j4;exact en tt [.c [] (Na _),.f (by simp; omega)] rfl rfl trivial
  ·rename_i h0;obtain ⟨d,hd,j3⟩:=Qf.1 j3;obtain ⟨rfl,hdp⟩:=Qlu hd;obtain ⟨x,hx,j3⟩:=Qf.1 j3;obtain ⟨q,hq,j3⟩:=Qf.1 j3;obtain ⟨r,hr,j3⟩:=Qf.1 j3;injection j3 with j3; subst j3;have hxp:=Qgv j1 hdp hx;refine go tt [.c [] (Na _),.t (by simp; omega),.c [] (Aw j1.ln j1.bd),.c [] (Q0q j1 hdp hx),.c [] (Q7w j1 hxp hq),.s (sz:=1) (l:=[[pl q]]) (λc hc=>by rw [Qk.1 hc]; rfl)] rfl (by simp [Us,Lh]; omega) ?_;exact rd (k,out++[q],x) (by dsimp only; omega) ⟨hxp,by simp; omega,r,hr,by rw [<-j4]; simp⟩ (by rw [Qly]; rfl)
theorem Qkt:∀ {l r:List (List Int)},Qmz l=some r->r.length=l.length/\∀ i w,l[i]? = some w->(match l[i+1]? with | some v=>∃ f,Qa9 w v=some f/\r[i]? = some f | none=>r[i]? = some w)
 | [],r,h=>by injection h with h; subst h; exact ⟨rfl,λi w hw=>by simp at hw⟩
 |
  [w],r,h=>by
  injection h with h; subst h;refine ⟨rfl,λi x hx=>?_⟩;cases i with
  | zero=>simpa using hx
  | succ i=>simp at hx
 |
  w::v::l,r,h=>by
  simp only [Qmz] at h;obtain ⟨f,hf,h⟩:=Qf.1 h;obtain ⟨s,hs,h⟩:=Qf.1 h;injection h with h; subst h;obtain ⟨i1,i2⟩:=Qkt hs;refine ⟨by simp [i1],λi x hx=>?_⟩;cases i with
  |
   zero =>
   injection hx with hx; subst hx;exact ⟨f,hf,rfl⟩
  |
   succ i =>
   have:=i2 i x (by simpa using hx);simpa using this
theorem Qqi:∀ {l r:List (List Int)},(∀ p∈l,Pb p)->Qmz l=some r->∀ p∈r,Pb p
 | [],r,_,h=>by injection h with h; subst h; exact λp hp=>by cases hp
 | [w],r,hl,h=>by injection h with h; subst h; exact hl
 |
  w::v::l,r,hl,h=>by
  simp only [Qmz] at h;obtain ⟨f,hf,h⟩:=Qf.1 h;obtain ⟨s,hs,h⟩:=Qf.1 h;injection h with h; subst h;intro p hp;rcases Qo.1 hp with rfl | hp
  ·exact Qx9 hf
  ·exact Qqi (λp hp=>hl p (Qj _ hp)) hs p hp
theorem Q3r {a:List Int} {l r:List (List Int)} (ha:Pb a) (h:Qgk 66 (U7 a)=some l) (hr:Qmz l=some r):Uu Tryz.prog 302 [pr a] [.one (.row (Si r))]:=by
 obtain ⟨i1,i2⟩:=Qix (Rk ha) h;obtain ⟨j1,j2⟩:=Qkt hr;have hw:=Lh l;refine Gs Tryz.func302 rfl ?_;refine go tt [.c [] (Q7o ha h),.i (Si l).length,.i (Si l).length] rfl (by simp [Us,hw]; omega) ?_;rw [hw,Lv λi=>[pl (r.getD i [])]];refine lp (S:=Nat) 1 (λL1 k=>(14,.v (.one (.int .i64 (k:Int))))::L1) (λk=>[.row false 48 1 (fil (λi=>[pl (r.getD i [])]) [.nils] l.length k)]) (λk=>l.length-k) (λk=>k<=l.length) 0 (Qh _) rfl (λ_ _=>rfl) rfl λk hk=>?_
 by_cases hlt:k<l.length
 ·obtain ⟨w,hx⟩:=gxE (l:=l) (i:=k) hlt;have e:=Ob (λi=>[pl (r.getD i [])]) [.nils] hlt;have hg:=j2 k w hx;by_cases h2:k+1<l.length
  ·obtain ⟨v,hv⟩:=gxE (l:=l) (i:=k+1) h2;rw [hv] at hg;obtain ⟨f,f1,f2⟩:=hg;have e2:r.getD k []=f:=by rw [Qg,f2]; rfl
   rw [e2] at e;refine go tt [.t (by simp [hw]; omega),.x (Ra hx),.i k,.t (by simp [hw]; omega),.x (i:=k+1) (Ra hv),.c [] (Q7w (i2 w (Qa hx)) (i2 v (Qa hv)) f1),.i k] rfl (by simp [Us,E4,hw]; omega) ?_;rw [List.set_set,e];exact rd (k+1) (by omega) hlt rfl
  ·have hv:l[k+1]? = none:=Qt (by omega);rw [hv] at hg;have e2:r.getD k []=w:=by rw [Qg,hg]; rfl
   rw [e2] at e;refine go tt [.t (by simp [hw]; omega),.x (Ra hx),.i k,.f (by simp [hw]; omega)] rfl (by simp [Us,E4,hw]; omega) ?_;rw [e];exact rd (k+1) (by omega) hlt rfl
 ·obtain rfl:k=l.length:=by omega
  have e:fil (λi=>[pl (r.getD i [])]) [.nils] l.length l.length=Si r:=by
   rw [Oa,<-j1];refine Xe λi=>?_
   simp only [Si,Q7];by_cases hi:i<r.length
   ·rw [Xu hi]; simp [Qg,Qe hi]
   ·rw [Qt (by simpa using hi),Qt (by simpa using hi)]; rfl
  rw [e];exact en tt [.f (by simp [hw])] rfl rfl trivial
theorem Qyg {p:List Int} (tp:U0 p):U7 (U7 p)=U7 p:=by
 by_cases h:p.length=0
 ·have e:U7 p=[]:=by unfold U7; rw [if_pos h]
  rw [e]; rfl
 ·obtain ⟨h1,h2,h3,h4,_⟩:=Be tp h;have hc:Sp (U7 p)=1:=by
   have h5:Sp (U7 p)∣1:=h3 _ λk=>by
    by_cases hk:k<(U7 p).length
    ·rw [Qg,Qe hk]; exact Lf _ (Xx hk)
    ·rw [Qg,Qt (by omega)]; exact Int.dvd_zero _
   have h6:0<=Sp (U7 p):=by unfold Sp; omega
   exact Int.eq_one_of_dvd_one h6 h5
  have hf:∀ q:List Int,0<Fa q->Hd q=Sp q:=λq hq=>by unfold Hd; rw [if_neg (by omega)]
  have hf:=(hf _ h4).trans hc;have e0:∀ q:List Int,q.length≠0->U7 q=Bz q (Hd q):=λq hq=>by unfold U7; rw [if_neg hq]
  have e:=e0 (U7 p) (by omega);rw [hf] at e;rw [e];unfold Bz;have e2:(U7 p).map (· / (1:Int))=U7 p:=by
   conv=>rhs; rw [<-List.map_id (U7 p)]
   exact Ys λz _=>by simp
  rw [e2];exact h1
theorem Q27 (i:Nat):(i:Int).tmod 2=((i % 2:Nat):Int):=rfl
theorem Zjn {a:List Int} (ha:Pb a) (h:(U7 a).length=0):Uu Tryz.prog 262 [pr a] [pr []] :=
 w tt Tryz.func262 rfl [.c [] (Ep ha),.t (by simp [Qi h])] rfl rfl trivial
theorem Qbz:∀ {l:List (List Int)} {i:Nat} {p o:List Int},Pb p->(∀ f∈l,Pb f)->Qeq i p l=some o->Pb o
 | [],i,p,o,hp,_,h=>by simp only [Qeq] at h; injection h with h; subst h; exact hp
 |
  f::l,i,p,o,hp,hl,h=>by
  simp only [Qeq] at h
  split at h
  ·obtain ⟨q,hq,h⟩:=Qf.1 h;obtain ⟨rfl,hq'⟩:=I4 (Ha _ _) hq;exact Qbz hq' (λf hf=>hl f (Qj _ hf)) h
  ·exact Qbz hp (λf hf=>hl f (Qj _ hf)) h
theorem Zao:Pb [1]:=⟨rfl,by decide,λz hz=>by rw [Qk.1 hz]; decide⟩
theorem Zmq {a o:List Int} (ha:Pb a) (h:Qyd a=some o):Uu Tryz.prog 262 [pr a] [pr o]:=by
 unfold Qyd at h
 split at h
 ·rename_i h0;injection h with h; subst h;exact Zjn ha h0
 rename_i h0;obtain ⟨l,hl,h⟩:=Qf.1 h;obtain ⟨fs,hf,h⟩:=Qf.1 h;have hpa:=Rk ha;have hl':Qgk 66 (U7 (U7 a))=some l:=by rw [Qyg ha.t]; exact hl
 obtain ⟨i1,i2⟩:=Qix (Rk ha) hl;have i3:=Qqi i2 hf;obtain ⟨j1,_⟩:=Qkt hf;have hw:=Lh fs;have co:=Qz1 (p:=[1]) (by decide) (λz hz=>by rw [Qk.1 hz]; decide);rw [show trim [1]=[1] from rfl] at co;refine Gs Tryz.func262 rfl ?_;refine go tt [.c [] (Ep ha),.f (by simpa using h0),.c [] co,.c [] (Q3r hpa hl' hf)] rfl (by simp [Us]) ?_;refine lp (S:=Nat×List Int) 0 (λL1 s=>(16,.v (.one (.int .i64 (s.1:Int))))::(3,.v (pr s.2))::L1) (λ_=>[]) (λs=>fs.length-s.1) (λs=>s.1<=fs.length/\Pb s.2/\Qeq s.1 s.2 (fs.drop s.1)=some o) (0,[1]) ⟨Qh _,Zao,h⟩ rfl (λ_ _=>rfl) rfl λ⟨i,p⟩ ⟨k1,k2,k3⟩=>?_
 dsimp only at k1 k2 k3 ⊢;by_cases hlt:i<fs.length
 ·obtain ⟨f,hx⟩:=gxE (l:=fs) (i:=i) hlt;have hdr:fs.drop i=f::fs.drop (i+1):=by
   rw [Ze hlt]; congr 1;have:=Qe hlt; rw [hx] at this; injection this with this; exact this.symm
  rw [hdr] at k3;simp only [Qeq] at k3;have pf:=i3 f (Qa hx);by_cases h2:i % 2=0
  ·rw [if_pos h2] at k3;obtain ⟨q,hq,k3⟩:=Qf.1 k3;obtain ⟨rfl,hq'⟩:=I4 (Ha _ _) hq;refine go tt [.t (by simp [hw]; omega),.x (Ra hx),.t (by rw [Q27,h2]; rfl),.c [] (Q61 k2.t pf.t (Zw k2.l (by decide)) (Zw pf.l (by decide)) k2.b pf.b (by decide))] rfl (by simp [Us]; omega) ?_;exact rd (i+1,Fx p f) (by dsimp only; omega) ⟨hlt,hq',k3⟩ rfl
  ·rw [if_neg h2] at k3;refine go tt [.t (by simp [hw]; omega),.x (Ra hx),.f (by rw [Q27,show i % 2=1 by omega]; rfl)] rfl (by simp [Us]; omega) ?_;exact rd (i+1,p) (by dsimp only; omega) ⟨hlt,k2,k3⟩ rfl
 ·obtain rfl:i=fs.length:=by omega
  rw [Yu] at k3;simp only [Qeq] at k3;injection k3 with k3; subst k3;exact en tt [.f (by simp [hw])] rfl rfl trivial
theorem Oe (z:Int):U6 (z.natAbs:Int)=U6 z:=by unfold U6; simp
theorem Q7e {x y:LV} {z:Int} (hi:Hw x y z) (hs:U6 z<=4294967295):Uu Tryz.prog 328 [.agg [x,y]] [.agg (Gv (z.natAbs:Int))]:=by
 obtain ⟨b,l,rfl,rfl,hl,rfl⟩:=hi;have e:(U3 false (val l))=((U3 b (val l)).natAbs:Int):=by rw [Rj]; rfl
 rw [<-e];exact w tt Tryz.func328 rfl [.c [] (Qcw hl (Qc (S6 hs) (by decide))),.c [] (Pa _ _)] rfl rfl trivial
theorem Zej {n d:Int} (h0:d≠0) (hn:U6 n<=4294967295) (hd:U6 d<=4294967295):Uu Tryz.prog 329 [.agg (Gv n),.agg (Gv d)] [.agg (rl (Rat.divInt n d)),.one (.int .i64 0)] :=
 w tt Tryz.func329 rfl [.c [] (D2 (Uv d) hd),.c [] Ae,.f (by simpa using h0),.c [] (D2 (Uv n) hn),.c [] (Qaa h0 hn hd)] rfl rfl trivial
theorem Q40 (l:List Int) (z:Int):most (l++[z])=if most l<z.natAbs then z.natAbs else most l:=by unfold most; rw [List.foldl_append]; rfl
theorem Q13 {s:Nat}:∀ {l:List Int},Bd s l->U6 (most l:Int)<=s:=λ{l}=>by
 suffices h:∀ (l:List Int) (m:Nat),Bd s l->U6 (m:Int)<=s->U6 ((l.foldl (λm z=>if m<z.natAbs then z.natAbs else m) m:Nat):Int)<=s from λhb=>h l 0 hb (by simp [U6,sz])
 intro l
 induction l with
 | nil=>exact λm _ h=>h
 |
  cons z l ih =>
  intro m hb hm;refine ih _ (λy hy=>hb y (Qj _ hy)) ?_;show U6 ((if m<z.natAbs then z.natAbs else m:Nat):Int)<=s
  split
  ·rw [Oe]; exact hb z (Qx ..)
  ·exact hm
def ozi:Option Nat->List LV
 | none=>[.bool false,.nils]
 | some m=>Gv (m:Int)
def ozr:Option Nat->List LV
 | none=>[.bool false,.row []]
 | some m=>Gv (m:Int)
theorem Zdr {p:List Int} (hp:Pb p) (h0:p.length≠0):Uu Tryz.prog 299 [pr p] [.agg (rl (Gp p)),.one (.int .i64 0)]:=by
 have hl:=hp.l;have hll:(p.take (p.length-1)).length=p.length-1:=by simp
 have hbt:Bd 16777216 (p.take (p.length-1)):=λz hz=>hp.b z (Qn hz)
 refine Gs Tryz.func299 rfl ?_;refine go tt [.c [] (Ho hp.t hp.ln hp.bd),.f (by simpa using h0),.r 18 (eI (b:=((p.length-1:Nat):Int)) (by simp; omega)),.i (p.length-1)] rfl (by simp [Us]; omega) ?_;rw [<-Jr];refine lp (S:=Nat×Option Nat) 2 (λL1 s=>(21,.v (.one (.int .i64 (s.1:Int))))::L1) (λs=>[.blk 72 [.bool false,.nils,.bool false,.nils],.blk 51 (ozi s.2)]) (λs=>p.length-1-s.1) (λs=>s.1<=p.length-1/\most ((p.take (p.length-1)).take s.1)=s.2.getD 0) (0,none) ⟨Qh _,rfl⟩ rfl (λ_ _=>rfl) rfl λ⟨i,o⟩ ⟨j1,j2⟩=>?_
 dsimp only at j1 j2 ⊢;by_cases hlt:i<p.length-1
 ·obtain ⟨z,hz⟩:=gxE (l:=(p.take (p.length-1))) (i:=i) (by omega);have bz:U6 z<=16777216:=hbt z (Qa hz);have hst:most ((p.take (p.length-1)).take (i+1))=if o.getD 0<z.natAbs then z.natAbs else o.getD 0:=by
   rw [Zp,hz]; show most (_++[z])=_; rw [Q40,j2]
  have ca:=Q7e (Uv z) (Qc bz (by decide));have hl1:decide ((i:Int)<(((p.take (p.length-1)).map Gv).length:Int))=true:=by simp; omega
  have bm:U6 ((o.getD 0:Nat):Int)<=16777216:=by rw [<-j2]; exact Q13 λy hy=>hbt y (Qn hy)
  have hcm:No (z.natAbs:Int) ((o.getD 0:Nat):Int)>0↔o.getD 0<z.natAbs:=by unfold No; split <;> (try split) <;> omega
  have cc:Uu Tryz.prog 214 [.agg (Gv (z.natAbs:Int)),.agg (ozr o)] [.one (.int .i64 (No (z.natAbs:Int) ((o.getD 0:Nat):Int)))]:=by
   cases o with
   | none=>exact Qfv (Uv _) Cd (by rw [Oe]; omega) (by decide)
   | some m=>exact Qfv (Uv _) (Uv _) (by rw [Oe]; omega) (Qc bm (by decide))
  by_cases hc:o.getD 0<z.natAbs
  ·rw [if_pos hc] at hst;have hd:decide (No (z.natAbs:Int) ((o.getD 0:Nat):Int)>0)=true:=by simpa using hcm.2 hc
   cases o <;> (refine go tt [.t hl1,.x (Gt (f:=Gv) hz),.c [] ca,.c [] cc,.t hd] rfl (by simp [Us]; omega) ?_; exact rd (i+1,some z.natAbs) (by dsimp only; omega) ⟨hlt,hst⟩ rfl)
  ·rw [if_neg hc] at hst;have hd:decide (No (z.natAbs:Int) ((o.getD 0:Nat):Int)>0)=false:=by
    have:=mt hcm.1 hc; simpa using this
   cases o with
   | none=>refine go tt [.t hl1,.x (Gt (f:=Gv) hz),.c [] ca,.c [] cc,.f hd] rfl (by simp [Us]; omega) ?_; exact rd (i+1,none) (by dsimp only; omega) ⟨hlt,hst⟩ rfl
   | some m=>refine go tt [.t hl1,.x (Gt (f:=Gv) hz),.c [] ca,.c [] cc,.f hd] rfl (by simp [Us]; omega) ?_; exact rd (i+1,some m) (by dsimp only; omega) ⟨hlt,hst⟩ rfl
 ·obtain rfl:i=p.length-1:=by omega
  rw [Ql (by omega)] at j2;have bl:U6 (Fa p)<=16777216:=hp.b _ (Qlj h0);have ln:((Fa p).natAbs:Int)≠0:=by have:=D4 hp.t h0; omega
  have cl:=Ck hp.t hp.ln hp.bd;have ca:=Q7e (Uv (Fa p)) (Qc bl (by decide));have bm:U6 ((o.getD 0:Nat):Int)<=16777216:=by rw [<-j2]; exact Q13 hbt
  have cd:Uu Tryz.prog 286 [.agg (Gv ((Fa p).natAbs:Int)),.agg (ozr o)] [.agg (Gv (((Fa p).natAbs:Int)+(most (p.take (p.length-1)):Int)))]:=by
   rw [j2];cases o with
   | none=>exact Qcx (Uv _) Cd (by rw [Oe]; omega) (by decide)
   | some m=>exact Qcx (Uv _) (Uv _) (by rw [Oe]; omega) (Qc bm (by decide))
  have cm:=Zej (n:=((Fa p).natAbs:Int)+(most (p.take (p.length-1)):Int)) ln (Qc (Qbu _ _) (by rw [Oe,j2]; omega)) (by rw [Oe]; omega);have hf:decide (((p.length-1:Nat):Int)<(((p.take (p.length-1)).map Gv).length:Int))=false:=by simp
  cases o <;> exact en tt [.f hf,.c [] cl,.c [] ca,.c [] cd,.c [] cm] rfl rfl trivial
end Orr
