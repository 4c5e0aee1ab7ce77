/- T18 T19 T20 T21 T22 T23 T24 T25 G1 G2 SortL KinL K1 K2 F6 F7 -/
import Derived.Test.YtkkhemmhhedniaaGreatPart06
import Derived.Test.YtkkhemmhhedniaaGreatPart00
import Derived.Test.YtkkhemmhhedniaaGreatPart05
set_option linter.all false
namespace Orq
open Orr Go
theorem Ex {p:List Int} (h1:p.length<=64) (h2:Bd 16777216 p):chk p=some p:=by
 unfold chk;rw [if_pos ⟨h1,Yz.2 λz hz=>Nat.ble_eq_true_of_le (h2 z hz)⟩]
theorem Qot {a b:List Int} {g:List Rat} {c:Rat} (hc:c≠0) (h:∀ t,Fe a t=c*Fe b t):Dvd g (cz a)↔Dvd g (cz b):=by
 constructor
 ·rintro ⟨u,hu⟩
  refine ⟨Nj (1 / c) u,λt=>?_⟩;have h1:=hu t;rw [Ff,h] at h1;rw [Ff,Ge];have h2:1 / c*c=1:=Zj hc;have:Fe b t=1 / c*(c*Fe b t):=by grind
  rw [this,h1]; grind
 ·rintro ⟨u,hu⟩
  refine ⟨Nj c u,λt=>?_⟩;have h1:=hu t;rw [Ff] at h1;rw [Ff,Ge,h,h1]; grind
structure Gc (g a b:List Int):Prop where
 t:Fg g
 da:Dvd (cz g) (cz a)
 db:Dvd (cz g) (cz b)
 c:∃ U V,∀ t,Fe g t=ev U t*Fe a t+ev V t*Fe b t
 n:g.length≠0
theorem Gc.scale {g a b g' a' b':List Int} {x y z:Rat} (h:Gc g a b) (hx:x≠0) (hy:y≠0) (hz:z≠0) (tg:Fg g') (eg:∀ t,Fe g t=x*Fe g' t) (ea:∀ t,Fe a' t=y*Fe a t) (eb:∀ t,Fe b' t=z*Fe b t):Gc g' a' b':=by
 have hx1:1 / x*x=1:=Zj hx;have hy1:1 / y*y=1:=Zj hy;have hz1:1 / z*z=1:=Zj hz;have hg:∀ c,Dvd (cz g) c->Dvd (cz g') c:=λc ⟨u,hu⟩=>⟨Nj x u,λt=>by rw [hu,Ff,Ff,eg,Ge]; grind⟩
 obtain ⟨U,V,hc⟩:=h.c;refine ⟨tg,hg _ ((Qot hy ea).2 h.da),hg _ ((Qot hz eb).2 h.db),⟨Nj (1 / x*(1 / y)) U,Nj (1 / x*(1 / z)) V,λt=>?_⟩,?_⟩
 ·have h1:=hc t;have h2:Fe g' t=1 / x*Fe g t:=by rw [eg]; grind
  rw [h2,h1,Ge,Ge,ea,eb];generalize ev U t=u at *;generalize ev V t=v at *;grind
 ·rw [<-Ea h.t tg hx eg]; exact h.n
theorem Zig:∀ d:Nat,1<=d->d+2<=3^d
 | 0,h=>by omega
 | 1,_=>by decide
 | d+2,_=>by have:=Zig (d+1) (by omega); rw [Zr]; omega
theorem Qxp {k:Nat} {a b:List Int} (ta:Fg a) (tb:Fg b) (hb:b.length≠0) (hl:a.length<=60) (hbl:b.length<=60) (hr:Bd 16777216 (Hi a b)) (ih:∃ g,Qh3 k b (Hi a b)=some g/\Gc g b (Hi a b)):∃ g,Qh3 (k+1) a b=some g/\Gc g a b:=by
 obtain ⟨h1,h2,h3,u,v,up,vp,X,hX⟩:=Qfx ta tb hb hl;obtain ⟨g,e,hg⟩:=ih;refine ⟨g,?_,?_⟩
 ·simp only [Qh3];rw [if_neg hb,Ex (by omega) hr]; exact e
 ·obtain ⟨U,V,hc⟩:=hg.c;obtain ⟨y,hy⟩:=hg.da;obtain ⟨z,hz⟩:=hg.db;have hu:1 / u*u=1:=Gx up;have hv:1 / v*v=1:=Gx vp;refine ⟨hg.t,⟨Nj (1 / u) (Ty (G8 X y) (Nj v z)),λt=>?_⟩,hg.da,⟨Nj (u / v) V,Ty U (Nj (-1 / v) (G8 V X)),λt=>?_⟩,hg.n⟩
  ·have a1:=hX t; have a2:=hy t; have a3:=hz t;rw [Ff,Ff] at a2 a3;rw [Ff,Ff,Ge,Gt,Fj,Ge];have:Fe a t=1 / u*(u*Fe a t):=by grind
   rw [this,a1,a2,a3]; grind
  ·have a1:=hX t; have a2:=hc t;rw [Ge,Gt,Ge,Fj,a2];have:Fe (Hi a b) t=1 / v*(v*Fe (Hi a b) t):=by grind
   rw [this,show v*Fe (Hi a b) t=u*Fe a t-ev X t*Fe b t by grind,J8,J8,J8];grind
theorem Q44 {k:Nat} {a:List Int} (ta:Fg a) (ha:a.length≠0):∃ g,Qh3 (k+1) a []=some g/\Gc g a [] :=
 ⟨a,rfl,ta,dvd_refl _,⟨[],λt=>by simp only [cz,Jl,ev]; grind⟩,⟨[1],[],λt=>by rw [Tt]; simp only [ev]; grind⟩,ha⟩
theorem Qh4 {s:Nat}:∀ (k:Nat) (a b:List Int),Fg a->Fg b->b.length<k->b.length<a.length->a.length<=60->Bd s a->Bd s b->(s+8)*3^(a.length-1)<=16777216->∃ g,Qh3 k a b=some g/\Gc g a b
 | 0,_,_,_,_,h,_,_,_,_,_=>by omega
 |
  k+1,a,b,ta,tb,hk,hab,hl,ba,bb,hs=>by
  by_cases hb:b.length=0
  ·rw [Qh hb]; exact Q44 ta (by omega)
  ·obtain ⟨h1,h2,h3,_⟩:=Qfx ta tb hb hl;have h3:=h3 s ba bb;obtain ⟨m,hm⟩:=nmE (a.length-b.length);have e1:a.length+1-b.length=m+1:=by omega
   rw [e1] at h3;have e2:s+(m+1)*(s+8)+8=(m+2)*(s+8):=by
    rw [show m+2=(m+1)+1 by omega,Xd (m+1)]; omega
   have e3:(m+2)*(s+8)*3^(b.length-1)<=(s+8)*3^(a.length-1):=by
    rw [show a.length-1=m+(b.length-1) by omega,Xj,<-Xp,Zg (s+8)];exact Qx _ (Qx _ (Zig m (by omega)))
   have e4:s+(m+1)*(s+8)<=16777216:=by
    have:(m+2)*(s+8)<=(m+2)*(s+8)*3^(b.length-1):=Jr _ (Z9 (by decide));omega
   refine Qxp ta tb hb hl (by omega) (U8 h3 e4) (Qh4 (s:=s+(m+1)*(s+8)) k b (Hi a b) tb h1 (by omega) h2 (by omega) (U8 bb (by omega)) h3 ?_);rw [e2]; omega
def Szz (n s:Nat):Prop:=n<=10/\2*(s+8)*3^(n-1)<=16777216
theorem Zes {n s:Nat} (hz:Szz n s) {a b:List Int} (ta:Fg a) (tb:Fg b) (la:a.length<=n) (lb:b.length<=n) (ba:Bd s a) (bb:Bd s b) (h0:a.length≠0\/b.length≠0):∃ g,Qh3 66 a b=some g/\Gc g a b:=by
 obtain ⟨hn,hz⟩:=hz;have hp:∀ l,l<=n->(s+8)*3^(l-1)<=8388608:=λl hl=>by
  have:(s+8)*3^(l-1)<=(s+8)*3^(n-1):=Zk _ (Zt (by decide) (by omega));rw [Xp] at hz; omega
 rcases Q9 b.length a.length with h | h
 ·exact Qh4 66 a b ta tb (by omega) h (by omega) ba bb (by have:=hp a.length la; omega)
 ·by_cases hb:b.length=0
  ·rw [Qh hb]; exact Q44 ta (by omega)
  ·obtain ⟨h1,h2,h3,_⟩:=Qfx ta tb hb (by omega);have h3:=h3 s ba bb;have h4:(a.length+1-b.length)*(s+8)<=1*(s+8):=Qx _ (by omega);have h5:=hp b.length lb;have h6:(s+8)*1<=(s+8)*3^(b.length-1):=Zk _ (Z9 (by decide));refine Qxp ta tb hb (by omega) (by omega) (U8 h3 (by omega)) (Qh4 (s:=2*s+8) 65 b (Hi a b) tb h1 (by omega) h2 (by omega) (U8 bb (by omega)) (U8 h3 (by omega)) ?_);rw [show 2*s+8+8=2*(s+8) by omega,Xp]; omega
theorem Qpy:Fi []=[]:=rfl
theorem Od {a:List Int} (ta:Fg a):Fg (Fi a)/\(Fi a).length=a.length/\(∀ s,Bd s a->Bd s (Fi a))/\∃ c:Rat,c≠0/\∀ t,Fe a t=c*Fe (Fi a) t:=by
 by_cases h:a.length=0
 ·rw [Qh h];exact ⟨rfl,rfl,λs _=>Qa9,1,by decide,λt=>by rw [Qpy]; grind⟩
 ·obtain ⟨h1,h2,h3,h4,h5,h6,h7⟩:=S5 ta h;exact ⟨h1,h2,h5,_,Qad h6,h7⟩
theorem Qej {n s:Nat} (hz:Szz n s) {a b:List Int} (ta:Fg a) (tb:Fg b) (la:a.length<=n) (lb:b.length<=n) (ba:Bd s a) (bb:Bd s b) (h0:a.length≠0\/b.length≠0):∃ g,Qb7 a b=some g/\Gc g a b/\Prm g/\0<Fu g:=by
 obtain ⟨a1,a2,a3,x,xn,ax⟩:=Od ta;obtain ⟨b1,b2,b3,y,yn,bx⟩:=Od tb;obtain ⟨g,e,hg⟩:=Zes hz a1 b1 (by omega) (by omega) (a3 s ba) (b3 s bb) (by omega);obtain ⟨g1,g2,g3,g4,g5,g6,g7⟩:=S5 hg.t hg.n;refine ⟨Fi g,?_,hg.scale (Qad g6) xn yn g1 g7 ax bx,g3,g4⟩;unfold Qb7; rw [e]; rfl
theorem Q7j {a:List Int} (ta:Fg a):Qb7 [] a=some (Fi (Fi a)):=by
 unfold Qb7;rw [Qpy];by_cases h:(Fi a).length=0
 ·have e:Fi a=[]:=Qh h;rw [e]; rfl
 ·have e:Hi [] (Fi a)=[]:=by
   have e1:Mf [] (Fi a)=[]:=by unfold Mf; rw [show ([]:List Int).length+1-(Fi a).length=0 by simp; omega]; rfl
   unfold Hi;rw [e1];unfold Ng
   split <;> rfl
  have:Qh3 66 [] (Fi a)=some (Fi a):=by
   show (if (Fi a).length=0 then _ else _)=_;rw [if_neg h,e]; rfl
  rw [this]; rfl
theorem Zbd {n s:Nat} (hz:Szz n s) {a b:List Int} (ta:Fg a) (tb:Fg b) (la:a.length<=n) (lb:b.length<=n) (ba:Bd s a) (bb:Bd s b) (h0:a.length≠0):∃ g,Qst a b=some g/\Gc g a b/\Prm g/\0<Fu g:=by
 obtain ⟨a1,a2,a3,x,xn,ax⟩:=Od ta;obtain ⟨b1,b2,b3,y,yn,bx⟩:=Od a1;obtain ⟨g,e,hg,h1,h2⟩:=Qej hz b1 tb (by omega) lb (b3 s (a3 s ba)) bb (by omega);refine ⟨g,?_,hg.scale (x:=1) (y:=x*y) (z:=1) (by decide) (λh=>(J0.1 h).elim xn yn) (by decide) hg.t (λt=>by grind) (λt=>by rw [ax,bx]; grind) (λt=>by grind),h1,h2⟩;unfold Qst;rw [Q7j ta]; exact e
theorem Q43:∀ {p q:List Rat} {m n:Nat},HD p m->HD q n->(G8 p q).getD (m+n) 0=p.getD m 0*q.getD n 0
 | [],q,m,n,h,_=>absurd (by simp) h.1
 |
  a::p,q,0,n,h,h'=>by
  have h1:∀ k,p.getD k 0=0:=λk=>by have:=h.2 (k+1) (by omega); rwa [Q3] at this
  simp only [G8];rw [Rr,Tw,Zu,Zx];cases n with
  | zero=>rw [Zu]; grind
  | succ n=>rw [Q3,Qip h1]; grind
 |
  a::p,q,m+1,n,h,h'=>by
  have ih:=Q43 (p:=p) (q:=q) (m:=m) ⟨by have:=h.1; rwa [Q3] at this,λk hk=>by have:=h.2 (k+1) (by omega); rwa [Q3] at this⟩ h';simp only [G8];rw [Rr,Tw,show m+1+n=(m+n)+1 by omega,Q3,h'.2 _ (by omega),ih,Q3]; grind
theorem Qvr {a b c:List Int} (ta:Fg a) (tb:Fg b) (tc:Fg c) (h:∀ t,Fe c t=Fe a t*Fe b t) (la:0<a.length) (lb:0<b.length):Fu c=Fu a*Fu b:=by
 have h1:=Qdi ta la;have h2:=Qdi tb lb;have h3:=Q43 h1 h2;have hl:=Mi ta tb tc h la lb;rw [<-Ce (p:=cz c) (λt=>by rw [Fj,Ff,Ff,Ff,h]),Px,Px,Px,show a.length-1+(b.length-1)=c.length-1 by omega] at h3;unfold Fu; exact_mod_cast h3
theorem Tc {a b c:List Int} (tc:Fg c) (hc:c.length≠0) (h:∀ t,Fe c t=Fe a t*Fe b t):0<a.length/\0<b.length:=by
 constructor
 ·rcases Q0 a.length with e | e
  ·exact absurd (λt=>by rw [h,D3 e]; grind) (Qig tc (by omega))
  ·exact e
 ·rcases Q0 b.length with e | e
  ·exact absurd (λt=>by rw [h,D3 e]; grind) (Qig tc (by omega))
  ·exact e
theorem Qss {b:List Int} (tb:Fg b) (hb:b.length≠0):∀ (i:Nat) (a q h:List Int),Fg a->Fg h->(∀ t,Fe a t=Fe b t*Fe h t)->a.length<b.length+i->i<=q.length->(∀ j,j<i->q.getD j 0=0)->∃ q',Qsr b i a q=some q'/\q'.length=q.length/\∀ t,Fe q' t=Fe q t+Fe h t
 |
  0,a,q,h,ta,th,e,hl,_,_=>by
  have ha:a.length=0:=by
   rcases Q0 a.length with e' | e'
   ·exact e'
   ·obtain ⟨p1,p2⟩:=Tc ta (by omega) e;have:=Mi tb th ta e p1 p2; omega
  refine ⟨q,by simp only [Qsr]; rw [if_pos ha],rfl,λt=>?_⟩;have:∀ t,Fe h t=0:=λt=>by
   have:=Qy0 (p:=cz b) (q:=cz h) (r:=[]) (λh0=>Qig tb (by omega) λt=>by rw [<-Ff]; exact h0 t) (λt=>by rw [Ff,Ff,<-e,D3 ha]; simp only [ev]; grind) t;rwa [Ff] at this
  rw [this]; grind
 |
  i+1,a,q,h,ta,th,e,hl,hq,h0=>by
  simp only [Qsr];by_cases hlt:a.length<b.length+i
  ·rw [if_pos hlt];exact Qss tb hb i a q h ta th e hlt (by omega) λj hj=>h0 j (by omega)
  ·rw [if_neg hlt];obtain ⟨p1,p2⟩:=Tc ta (by omega) e;have hln:=Mi tb th ta e p1 p2;have hld:=Qvr tb th ta e p1 p2;have hlb:=Dz tb hb;rw [hld,if_pos (Int.mul_emod_right _ _),Xw _ hlb];have hli:h.length=i+1:=by omega
   have e2:∀ t,Fe (Pa a (Gs (trim (mono i (Fu h))) b)) t=Fe b t*Fe (Pa h (mono i (Fu h))) t:=λt=>by
    rw [Cn,Cn,Gn,Oa,e]; grind
   have hl2:(Pa a (Gs (trim (mono i (Fu h))) b)).length<b.length+i:=by
    have hl:=Q3s (i:=i) (x:=Fu h) (b:=b) (a:=a);unfold sta at hl;have:=Qr5 (p:=Pa a (Gs (trim (mono i (Fu h))) b)) (n:=b.length+i-1) (Fw _ _) (by omega) (by
     rw [Do,Qsf,if_pos (by omega),show b.length+i-1-i=b.length-1 by omega,show b.length+i-1=a.length-1 by omega];have:Fu a=a.getD (a.length-1) 0:=rfl;rw [<-this,hld];unfold Fu;rw [Kb,Int.sub_eq_zero])
    omega
   obtain ⟨q',h1,h2,h3⟩:=Qss tb hb i _ (q.set i (Fu h)) (Pa h (mono i (Fu h))) (Fw _ _) (Fw _ _) e2 hl2 (by simp; omega) λj hj=>by
    rw [Qe,Yt,if_neg (by omega),<-Qe];exact h0 j (by omega)
   refine ⟨q',h1,by rw [h2,Jb],λt=>?_⟩;rw [h3,Qsq q i _ t (by omega),h0 i (by omega),Cn,I9]
   push_cast; grind
theorem Zc8 {a b h:List Int} {s:Nat} (ta:Fg a) (tb:Fg b) (th:Fg h) (ha:a.length≠0) (la:a.length<=10) (ba:Bd s a) (hs:s+69<=16777216) (e:∀ t,Fe a t=Fe b t*Fe h t):Qb4 a b=some h:=by
 obtain ⟨p1,p2⟩:=Tc ta ha e;have hln:=Mi tb th ta e p1 p2;obtain ⟨q,h1,h2,h3⟩:=Qss tb (by omega) (a.length+1-b.length) a (List.replicate (a.length+1-b.length) 0) h ta th e (by omega) (by simp) λj _=>Tk _ _
 have h4:trim q=h:=Q4b (Rl _) th λt=>by rw [Oa,h3,Qps]; grind
 unfold Qb4;rw [if_neg (by omega),h1];show chk (trim q)=_;rw [h4];exact Ex (by omega) (U8 (O8 ba la ta th tb ha λt=>by rw [e]; grind) (by omega))
structure Pr1 (p:List Int):Prop where
 t:Fg p
 m:Prm p
 l:0<Fu p
theorem Pr1.n {p:List Int} (h:Pr1 p):p.length≠0:=λe=>by
 have:=h.l;rw [Qh e] at this;exact absurd this (by decide)
theorem Q6x {p:List Int} (tp:Fg p) (h:p.length≠0):Pr1 (Fi p):=by
 obtain ⟨h1,h2,h3,h4,_⟩:=S5 tp h;exact ⟨h1,h3,h4⟩
theorem Pr1.one {p:List Int} (h:Pr1 p) (hl:p.length<2):p=[1]:=by
 have hn:=h.n;obtain ⟨c,rfl⟩:∃ c,p=[c]:=Wl.1 (by omega);have h1:=h.m c λk=>by cases k <;> simp
 have h2:0<c:=h.l;have:=Int.le_of_dvd (by decide) h1;rw [show c=1 by omega]
theorem Zii {p g h:List Int} (hp:Prm p) (e:∀ t,Fe p t=Fe g t*Fe h t):Prm h:=λd hd=>by
 refine hp d λk=>?_
 have:=Ck (p:=p) (q:=Gs g h) (λt=>by rw [e,Gn]) k;rw [this];have e2:∀ t,Fe (Gs g h) t=(d:Rat)*Fe (Gs g (h.map (· / d))) t:=λt=>by
  have h1:Fe h t=(d:Rat)*Fe (h.map (· / d)) t:=by
   have:=Cm d 0 t (max h.length (h.map (· / d)).length) (h.map (· / d)) [] h (by omega) (by simp) (by omega) λk=>by
    rw [Qe4,Wz (hd k)]; simp
   rw [this]; simp only [Fe]; push_cast; grind
  rw [Gn,Gn,h1]; grind
 have:=Ck (p:=Gs g h) (q:=Gb (Gs g (h.map (· / d))) d) (λt=>by rw [e2,Ro]; grind) k;rw [this,Sf]; exact Vk _ _
theorem Zih {p g h:List Int} (hp:Pr1 p) (hg:0<Fu g) (tg:Fg g) (th:Fg h) (e:∀ t,Fe p t=Fe g t*Fe h t):Pr1 h:=by
 obtain ⟨p1,p2⟩:=Tc hp.t hp.n e;have:=Qvr tg th hp.t e p1 p2;refine ⟨th,Zii hp.m e,?_⟩;have hl:=hp.l;rw [this] at hl;rcases Yf (Fu h) 0 with h1 | h1 | h1
 ·have:=K6 hg h1; omega
 ·rw [h1] at hl; omega
 ·exact h1
structure Sqp (p g q:List Int):Prop where
 pp:Pr1 p
 pg:Pr1 g
 pq:Pr1 q
 e:∀ t,Fe p t=Fe g t*Fe q t
 c:∃ U V,∀ t,Fe g t=ev U t*Fe p t+ev V t*dv (cz p) t
 d:∃ z,∀ t,dv (cz p) t=Fe g t*ev z t
theorem Sqp.num {p g q:List Int} (h:Sqp p g q) {d:List Rat} (h1:Dvd d (cz q)) (h2:Dvd d (Bl (cz q))):∃ c:Rat,c≠0/\∀ t,ev d t=c:=by
 obtain ⟨U,V,hc⟩:=h.c;have hpow:=sqf (k:=1) (a:=cz p) (g:=cz g) (q:=cz q) (d:=d) (U:=U) (V:=V) (by decide) (λt=>by rw [Ff,Ff,Ff,h.e]) (λt=>by rw [Ff,Ff,hc]; grind) h1 h2;rcases Qio d with h3 | ⟨m,_,h3⟩
 ·obtain ⟨u,hu⟩:=h1;exact absurd (λt=>by rw [<-Ff,hu,h3]; grind) (Qig h.pq.t (by have:=h.pq.n; omega))
 ·obtain rfl:=Qpx h3 (Qdi h.pg.t (by have:=h.pg.n; omega)) hpow;refine ⟨d.getD 0 0,h3.1,λt=>?_⟩;cases d with
  | nil=>exact absurd (by simp) h3.1
  |
   cons c l =>
   have:=D9 (p:=l) λk=>by have:=h3.2 (k+1) (by omega); rwa [Q3] at this
   simp only [ev,this,Zu]; grind
theorem Sqp.bez {p g q:List Int} (h:Sqp p g q):∃ X Y,∀ t,ev X t*ev (cz q) t+ev Y t*dv (cz q) t=1:=by
 obtain ⟨d,U,V,h1,h2,h3⟩:=Zbc (cz q) (Bl (cz q));obtain ⟨c,hc,hd⟩:=h.num h1 h2;refine ⟨Nj (1 / c) U,Nj (1 / c) V,λt=>?_⟩;have h5:=h3 t;rw [hd,Tp] at h5;have h4:1 / c*c=1:=Zj hc;rw [Ge,Ge];have:1 / c*ev U t*ev (cz q) t+1 / c*ev V t*dv (cz q) t=1 / c*(ev U t*ev (cz q) t+ev V t*dv (cz q) t):=by grind
 rw [this,<-h5,h4]
theorem Znv {n s s':Nat} (h:Szz n s) (hs:s'<=s):Szz n s':=⟨h.1,Qc (Qx _ (by omega)) h.2⟩
theorem Zeh {n s:Nat} (h:Szz n s):s<=8388600:=by
 have:2*(s+8)*1<=2*(s+8)*3^(n-1):=Zk _ (Z9 (by decide));have:=h.2; omega
theorem Qqw {s:Nat} {p:List Int} (h:Bd s p) (hl:p.length<=10):Bd (s+4) (Gj p):=Qjn h (t:=4) (by omega)
theorem Q4z {n s:Nat} (hz:Szz n (s+73)) {p:List Int} (pp:Pr1 p) (l2:2<=p.length) (lp:p.length<=n) (bp:Bd (s+69) p) {p0 h0:List Int} (b0:Bd s p0) (l0:p0.length<=10) (t0:Fg p0) (th0:Fg h0) (z0:p0.length≠0) (e0:∀ t,Fe p0 t=Fe h0 t*Fe p t) :
 ∃ g q,chk (Gj p)=some (Gj p)/\Qb7 p (Gj p)=some g/\Qb4 p g=some q/\Sqp p g q/\g.length<p.length:=by
 have hn:=hz.1;have hs:=Zeh hz;have bd:=Qqw bp (by omega);have ld:=Ph p;have td:Fg (Gj p):=Fw _ _;obtain ⟨g,e1,hg,m,l⟩:=Qej hz pp.t td lp (by omega) (U8 bp (by omega)) bd (.inl pp.n);obtain ⟨q,tq,eq⟩:=Za6 m hg.da;have hdnz:(Gj p).length≠0:=λh=>by
  have h1:=P7 p (p.length-2);rw [Qh h,show p.length-2+1=p.length-1 by omega] at h1;have h2:p.getD (p.length-1) 0≠0:=Hr pp.t (by omega);rcases Yq.1 (h1.symm.trans (by simp)) with h3 | h3
  ·exact h2 h3
  ·omega
 have pg:Pr1 g:=⟨hg.t,m,l⟩;have hql:=Zc8 (s:=s+69) pp.t hg.t tq pp.n (by omega) bp (by omega) eq;refine ⟨g,q,Ex (by omega) (U8 bd (by omega)),e1,hql,⟨pp,pg,Zih pp l hg.t tq eq,eq,?_,?_⟩,?_⟩
 ·obtain ⟨U,V,hc⟩:=hg.c;exact ⟨U,V,λt=>by rw [hc,Ac]⟩
 ·obtain ⟨z,hz⟩:=hg.db;exact ⟨z,λt=>by rw [<-Ac,<-Ff,hz,Ff]⟩
 ·obtain ⟨z,tz,ez⟩:=Za6 m hg.db;obtain ⟨q1,q2⟩:=Tc td hdnz ez;have:=Mi hg.t tz td ez q1 q2;omega
theorem Zh9:Sqp [1] [1] [1]:=by
 have p1:Pr1 [1]:=⟨rfl,λd hd=>by have:=hd 0; rwa [Zu] at this,by decide⟩;have e1:∀ t,Fe [1] t=1:=λt=>by simp only [Fe]; push_cast; grind
 exact ⟨p1,p1,p1,λt=>by rw [e1]; grind,⟨[1],[],λt=>by rw [e1,Tt]; simp only [ev]; grind⟩,⟨[],λt=>by simp only [cz,Xb,Jl,dv,ev]; grind⟩⟩
structure Okp (n s:Nat) (p:List Int):Prop where
 z:Szz n (s+73)
 t:Fg p
 nz:p.length≠0
 l:p.length<=n
 b:Bd s p
theorem Okp.pr {n s:Nat} {p:List Int} (h:Okp n s p):Pr1 (Fi p)/\(Fi p).length=p.length/\Bd s (Fi p):=by
 obtain ⟨h1,h2,h3,h4,h5,_⟩:=S5 h.t h.nz;exact ⟨⟨h1,h3,h4⟩,h2,h5 s h.b⟩
theorem Qc6 {n s:Nat} {p:List Int} (h:Okp n s p):∃ g q,Mj p=some q/\Sqp (Fi p) g q:=by
 obtain ⟨pp,hl,hb⟩:=h.pr;have hn:=h.z.1;have:=h.l;unfold Mj;by_cases h2:(Fi p).length<2
 ·rw [if_pos h2,pp.one h2]; exact ⟨[1],[1],rfl,Zh9⟩
 ·rw [if_neg h2];obtain ⟨g,q,h3,h4,h5,h6,_⟩:=Q4z h.z pp (by omega) (by omega) (U8 hb (by omega)) (p0:=Fi p) (h0:=[1]) hb (by omega) pp.t rfl pp.n λt=>by simp only [Fe]; push_cast; grind
  exact ⟨g,q,by rw [h3]; show (Qb7 (Fi p) (Gj (Fi p))).bind _=_; rw [h4]; exact h5,h6⟩
inductive LW:List Int->List (List Int)->Prop
 | nil:LW [1] []
 | cons {g h w:List Int} {ws:List (List Int)} (hs:Sqp g h w) (hl:LW h ws):LW g (w::ws)
theorem Zmz {g:List Int} {ws:List (List Int)} (h:LW g ws):∀ t,Fe g t=ev (I6 (ws.map cz)) t:=by
 induction h with
 | nil=>intro t; simp only [Jl,I6,Fe]; rw [Tt]; push_cast; grind
 | cons hs hl ih=>intro t; simp only [Xb,I6]; rw [Fj,Ff,hs.e,ih]; grind
theorem Q3w {g:List Int} {w v:List Int} {ws:List (List Int)} (h:LW g (w::v::ws)):∃ f,Fg f/\∀ t,Fe w t=Fe f t*Fe v t:=by
 cases h with
 |
  @cons _ h _ _ hs hl =>
  cases hl with
  |
   @cons _ h2 _ _ hs2 hl2 =>
   obtain ⟨X,Y,hb⟩:=hs2.bez;obtain ⟨z,hz⟩:=hs.d;have hd:=Zje (a:=cz g) (g:=cz h) (q:=cz w) (z:=z) (r:=cz v) (X:=X) (Y:=Y) (n:=h.length-1) (λt=>by rw [Ff,Ff,Ff,hs.e]) (λt=>by rw [hz,Ff]) (Qdi hs.pg.t (by have:=hs.pg.n; omega)) hb
    ⟨G8 (cz h2) (cz w),λt=>by rw [Fj,Ff,Ff,Ff,Ff,hs.e,hs2.e]; grind⟩
   obtain ⟨f,tf,ef⟩:=Za6 hs2.pq.m hd;exact ⟨f,tf,λt=>by rw [ef]; grind⟩
theorem Qvx {g w:List Int} {ws:List (List Int)} (h:LW g (w::ws)):∀ v∈w::ws,Pr1 v/\Dvd (cz v) (cz w):=by
 have key:∀ (ws:List (List Int)) (g w:List Int),LW g (w::ws)->∀ v∈w::ws,Pr1 v/\Dvd (cz v) (cz w):=by
  intro ws
  induction ws with
  |
   nil =>
   intro g w h v hv;rw [Qk.1 hv];cases h with
   | cons hs hl=>exact ⟨hs.pq,dvd_refl _⟩
  |
   cons u ws ih =>
   intro g w h v hv;have hn:=Q3w h;cases h with
   |
    @cons _ h _ _ hs hl =>
    rcases Qm.1 hv with rfl | hv
    ·exact ⟨hs.pq,dvd_refl _⟩
    ·obtain ⟨i1,i2⟩:=ih h u hl v hv;obtain ⟨f,_,hf⟩:=hn;exact ⟨i1,dvd_trans i2 ⟨cz f,λt=>by rw [Ff,Ff,Ff,hf]; grind⟩⟩
 exact key ws g w h
theorem lay_ok {n s:Nat} (hz:Szz n (s+73)) {p0:List Int} (b0:Bd s p0) (l0:p0.length<=10) (t0:Fg p0) (z0:p0.length≠0):∀ (k:Nat) (g h0:List Int),Pr1 g->g.length<=k->g.length<=n->Fg h0->(∀ t,Fe p0 t=Fe h0 t*Fe g t)->∃ ws,Qhi k g=some ws/\LW g ws
 | 0,g,_,pg,hk,_,_,_=>absurd pg.n (by omega)
 |
  k+1,g,h0,pg,hk,hn,th0,e0=>by
  simp only [Qhi];by_cases h2:g.length<2
  ·rw [if_pos h2,pg.one h2]; exact ⟨[],rfl,.nil⟩
  ·rw [if_neg h2];have bg:Bd (s+69) g:=O8 b0 l0 t0 pg.t th0 z0 λt=>by rw [e0]; grind
   obtain ⟨h,w,h3,h4,h5,h6,h7⟩:=Q4z hz pg (by omega) hn bg b0 l0 t0 th0 z0 e0;obtain ⟨ws,i1,i2⟩:=lay_ok hz b0 l0 t0 z0 k h (Gs h0 w) h6.pg (by omega) (by omega) (Hq _ _) λt=>by rw [e0,Gn,h6.e]; grind
   refine ⟨w::ws,?_,.cons h6 i2⟩;rw [h3];show (Qb7 g (Gj g)).bind _=_;rw [h4];show (Qb4 g h).bind _=_;rw [h5];show (Qhi k h).bind _=_;rw [i1]; rfl
theorem Zay {s:Nat} {p0:List Int} (b0:Bd s p0) (l0:p0.length≤10) (t0:Fg p0) (z0:p0.length≠0) (hs:s+69+69≤16777216):∀ (ws:List (List Int)) (g h0:List Int),LW g ws->Fg h0->(∀ t,Fe p0 t=Fe h0 t*Fe g t)->∃ fs,Qny ws=some fs/\Lay (ws.map cz) (fs.map cz)/\∀ f∈fs,Fg f
 | [],g,_,_,_,_=>⟨[],rfl,trivial,λf hf=>by cases hf⟩
 |
  [w],g,_,hl,_,_=>by
  cases hl with
  | cons hs hl=>exact ⟨[w],rfl,λt=>rfl,λf hf=>by rw [Qk.1 hf]; exact hs.pq.t⟩
 |
  w::v::ws,g,h0,hl,th0,e0=>by
  obtain ⟨f,tf,ef⟩:=Q3w hl;cases hl with
  |
   @cons _ h _ _ hs1 hl =>
   have hpv:=(Qvx hl v (Qw ..)).1;obtain ⟨fs,i1,i2,i3⟩:=Zay b0 l0 t0 z0 hs (v::ws) h (Gs h0 w) hl (Hq _ _) λt=>by rw [e0,Gn,hs1.e]; grind
   have ew:∀ t,Fe p0 t=Fe w t*Fe (Gs h0 h) t:=λt=>by rw [e0,Gn,hs1.e]; grind
   have bw:Bd (s+69) w:=O8 b0 l0 t0 hs1.pq.t (Hq _ _) z0 ew;obtain ⟨p1,p2⟩:=Tc t0 z0 ew;have lw:=Mi hs1.pq.t (Hq _ _) t0 ew p1 p2;have hq:=Zc8 (s:=s+69) hs1.pq.t hpv.t tf hs1.pq.n (by omega) bw hs λt=>by rw [ef]; grind
   refine ⟨f::fs,?_,⟨λt=>by rw [Ff,Ff,Ff,ef],i2⟩,λx hx=>?_⟩
   ·show (Qb4 w v).bind _=_;rw [hq];show (Qny (v::ws)).bind _=_;rw [i1]; rfl
   ·rcases Qm.1 hx with rfl | hx
    ·exact tf
    ·exact i3 x hx
def Nq:List (List Int)->List Int
 | []=>[1]
 | [f]=>f
 | f::_::l=>Gs f (Nq l)
theorem Qwc:∀ (fs:List (List Int)) (t:Rat),ev (Qje (fs.map cz)) t=Fe (Nq fs) t
 | [],t=>by simp only [Jl,Qje,Nq,Fe]; rw [Tt]; push_cast; grind
 | [f],t=>by simp only [Xb,Jl,Qje,Nq]; rw [Ff]
 | f::g::l,t=>by simp only [Xb,Qje,Nq]; rw [Fj,Ff,Gn,Qwc l]
theorem Ny (t:Rat):Fe [1] t=1:=by simp only [Fe]; push_cast; grind
theorem Qo1:∀ {w:List Int} {ws fs:List (List Int)},Lay ((w::ws).map cz) (fs.map cz)->(∀ f∈fs,Fg f)->(∀ v∈w::ws,Fg v)->∃ E,Fg E/\∀ t,Fe w t=Fe (Nq fs) t*Fe E t
 |
  w,[],[f],h,_,_=>⟨[1],rfl,λt=>by
  have:=h t;rw [Ff,Ff] at this;rw [this,Ny]; simp only [Nq]; grind⟩
 |
  w,[v],[f,f2],h,_,hw=>⟨v,hw v (by simp),λt=>by
  have:=h.1 t;rw [Ff,Ff,Ff] at this;rw [this]; simp only [Nq]; rw [Gn,Ny]; grind⟩
 |
  w,v::x::l,f::f2::fs,h,hf,hw=>by
  obtain ⟨E,hE,e⟩:=Qo1 (w:=x) (ws:=l) (fs:=fs) h.2.2 (λg hg=>hf g (by simp [hg])) (λg hg=>hw g (by simp at hg ⊢; exact .inr (.inr hg)));refine ⟨Gs f2 E,Hq _ _,λt=>?_⟩;have a1:=h.1 t;have a2:=h.2.1 t;rw [Ff,Ff,Ff] at a1 a2;have e2:Fe (Nq (f::f2::fs)) t=Fe f t*Fe (Nq fs) t:=by simp only [Nq]; rw [Gn]
  rw [a1,a2,e,e2,Gn]; grind
 | w,[],[],h,_,_=>h.elim
 | w,[],_::_::_,h,_,_=>h.elim
 | w,[v],[],h,_,_=>h.elim
 | w,[v],[f],h,_,_=>h.2.elim
 | w,[v],_::_::_::_,h,_,_=>h.2.elim
 | w,v::x::l,[f],h,_,_=>h.2.elim
 | w,v::x::l,[],h,_,_=>h.elim
theorem Qcw {s:Nat} {p0:List Int} (b0:Bd s p0) (l0:p0.length≤10) (t0:Fg p0) (z0:p0.length≠0) (hs:s+69≤16777216):∀ (fs:List (List Int)) (i:Nat) (a E:List Int),i % 2=0->Fg a->Fg E->(∀ f∈fs,Fg f)->(∀ t,Fe p0 t=Fe a t*Fe (Nq fs) t*Fe E t)->∃ o,Qfm i a fs=some o/\Fg o/\∀ t,Fe o t=Fe a t*Fe (Nq fs) t
 | [],i,a,E,hi,ta,_,_,_=>⟨a,rfl,ta,λt=>by simp only [Nq]; rw [Ny]; grind⟩
 |
  [f],i,a,E,hi,ta,tE,tf,hE=>by
  have e1:∀ t,Fe p0 t=Fe (Gs a f) t*Fe E t:=λt=>by rw [hE,Gn]; rfl
  have b1:=O8 b0 l0 t0 (Hq a f) tE z0 e1;obtain ⟨p1,p2⟩:=Tc t0 z0 e1;have hl:=Mi (Hq a f) tE t0 e1 p1 p2;refine ⟨Gs a f,?_,Hq _ _,λt=>by rw [Gn]; rfl⟩;simp only [Qfm];rw [if_pos hi,Ex (by omega) (U8 b1 (by omega))]; rfl
 |
  f::g::fs,i,a,E,hi,ta,tE,tf,hE=>by
  have e0:∀ t,Fe (Nq (f::g::fs)) t=Fe f t*Fe (Nq fs) t:=λt=>by simp only [Nq]; rw [Gn]
  have e1:∀ t,Fe p0 t=Fe (Gs a f) t*Fe (Gs (Nq fs) E) t:=λt=>by rw [hE,e0,Gn,Gn]; grind
  have b1:=O8 b0 l0 t0 (Hq a f) (Hq _ _) z0 e1;obtain ⟨p1,p2⟩:=Tc t0 z0 e1;have hl:=Mi (Hq a f) (Hq _ _) t0 e1 p1 p2;obtain ⟨o,o1,o2,o3⟩:=Qcw b0 l0 t0 z0 hs fs (i+2) (Gs a f) E (by omega) (Hq _ _) tE (λx hx=>tf x (by simp [hx])) λt=>by rw [hE,e0,Gn]; grind
  refine ⟨o,?_,o2,λt=>by rw [o3,e0,Gn]; grind⟩;have h1:Qfm (i+1) (Gs a f) (g::fs)=Qfm (i+2) (Gs a f) fs:=by
   show (if (i+1) % 2=0 then _ else _)=_;rw [if_neg (by omega)]
  show (if i % 2=0 then (chk (Gs a f)).bind λq=>Qfm (i+1) q (g::fs) else _)=_;rw [if_pos hi,Ex (by omega) (U8 b1 (by omega))];exact h1.trans o1
structure Parts (p q o:List Int):Prop where
 sq:∃ g,Sqp (Fi p) g q
 ws:∃ ws:List (List Int),(∀ w∈ws,Pr1 w/\Dvd (cz w) (cz q))/\∀ t,Fe (Fi p) t=ev (I6 (ws.map cz)) t
 oq:Dvd (cz o) (cz q)
 ot:Fg o
 oh:∃ h,Fg h/\∀ t,Fe (Fi p) t=Fe o t*Fe h t
 os:∃ S,∀ t,Fe (Fi p) t=Fe o t*(ev S t*ev S t)
theorem Qz1 {n s:Nat} {p:List Int} (h:Okp n s p):∃ q o,Mj p=some q/\Q0a p=some o/\Parts p q o:=by
 obtain ⟨pp,hl,hb⟩:=h.pr;have hn:=h.z.1;have Nl:=h.l;have hs:=Zeh h.z;obtain ⟨g,q,hq,sq⟩:=Qc6 h;obtain ⟨ws,w1,w2⟩:=lay_ok h.z hb (by omega) pp.t pp.n 66 (Fi p) [1] pp (by omega) (by omega) rfl λt=>by rw [Ny]; grind
 obtain ⟨fs,f1,f2,f3⟩:=Zay hb (by omega) pp.t pp.n (by omega) ws (Fi p) [1] w2 rfl λt=>by rw [Ny]; grind
 have hw:=Zmz w2;have hfirst:(∀ w∈ws,Pr1 w/\Dvd (cz w) (cz q))/\∃ E,Fg E/\∀ t,Fe q t=Fe (Nq fs) t*Fe E t:=by
  cases ws with
  |
   nil =>
   have e:fs=[]:=by
    cases fs with
    | nil=>rfl
    | cons f l=>exact f2.elim
   subst e;exact ⟨(λw hw=>by cases hw),q,sq.pq.t,λt=>by simp only [Nq]; rw [Ny]; grind⟩
  |
   cons w ws =>
   have hwq:w=q:=by
    have w3:(if (Fi p).length<2 then some [] else (chk (Gj (Fi p))).bind λd=>(Qb7 (Fi p) d).bind λh=>(Qb4 (Fi p) h).bind λw=>(Qhi 65 h).bind λl=>some (w::l))=some (w::ws):=w1;have hlen:¬(Fi p).length<2:=λh2=>by
     rw [if_pos h2] at w3;injection w3 with w3;cases w3
    rw [if_neg hlen] at w3;unfold Mj at hq;rw [if_neg hlen] at hq;obtain ⟨d,d1,w3⟩:=Qg.1 w3;obtain ⟨h,d2,w3⟩:=Qg.1 w3;obtain ⟨w',d3,w3⟩:=Qg.1 w3;obtain ⟨l,d4,w3⟩:=Qg.1 w3;rw [d1] at hq;have hq:(Qb7 (Fi p) d).bind (λg=>Qb4 (Fi p) g)=some q:=hq;rw [d2] at hq;have hq:Qb4 (Fi p) h=some q:=hq;rw [d3] at hq;injection hq with hq;injection w3 with w3;injection w3 with w3 _;rw [<-w3,hq]
   subst hwq;have hall:=Qvx w2;exact ⟨hall,Qo1 f2 f3 λv hv=>(hall v hv).1.t⟩
 obtain ⟨ha,E,tE,hE⟩:=hfirst;obtain ⟨o,o1,o2,o3⟩:=Qcw hb (by omega) pp.t pp.n (by omega) fs 0 [1] (Gs E g) rfl rfl (Hq _ _) f3 λt=>by rw [Ny,Gn,sq.e,hE]; grind
 have o3:∀ t,Fe o t=Fe (Nq fs) t:=λt=>by rw [o3,Ny]; grind
 refine ⟨q,o,hq,?_,⟨g,sq⟩,⟨ws,ha,hw⟩,⟨cz E,λt=>by rw [Ff,Ff,Ff,hE,o3]⟩,o2,⟨Gs E g,Hq _ _,λt=>by rw [sq.e,hE,o3,Gn]; grind⟩,?_⟩
 ·unfold Q0a;rw [if_neg pp.n,w1];show (Qny ws).bind _=_;rw [f1]; exact o1
 ·obtain ⟨S,hS⟩:=Q3p f2;exact ⟨S,λt=>by rw [hw,hS,Qwc,o3]⟩
theorem Q2q {s:Nat}:∀ (k:Nat) (a b:List Int),Fg a->Fg b->b.length≠0->b.length<k->b.length<a.length->a.length<=60->Bd s a->Bd s b->(s+8)*3^(a.length-1)<=16777216->(∀ d,Dvd d (cz a)->Dvd d (cz b)->∃ c:Rat,c≠0/\∀ t,ev d t=c)->∃ l,chF k a b=some (b::l)/\SCl (cz a) (cz b) (l.map cz)
 | 0,_,_,_,_,_,h,_,_,_,_,_,_=>by omega
 |
  k+1,a,b,ta,tb,hb,hk,hab,hl,ba,bb,hs,hd=>by
  obtain ⟨h1,h2,h3,u,v,up,vp,X,hX⟩:=Qfx ta tb hb hl;have h3:=h3 s ba bb;obtain ⟨m,hm⟩:=nmE (a.length-b.length);have e1:a.length+1-b.length=m+1:=by omega
  rw [e1] at h3;have e2:s+(m+1)*(s+8)+8=(m+2)*(s+8):=by
   rw [show m+2=(m+1)+1 by omega,Xd (m+1)]; omega
  have e3:(m+2)*(s+8)*3^(b.length-1)<=(s+8)*3^(a.length-1):=by
   rw [show a.length-1=m+(b.length-1) by omega,Xj,<-Xp,Zg (s+8)];exact Qx _ (Qx _ (Zig m (by omega)))
  have e4:s+(m+1)*(s+8)<=16777216:=by
   have:(m+2)*(s+8)<=(m+2)*(s+8)*3^(b.length-1):=Jr _ (Z9 (by decide));omega
  simp only [chF];rw [if_neg hb,Ex (by omega) (U8 h3 e4)];show ∃ l,((chF k b (P0 (Hi a b))).bind λl=>some (b::l))=some (b::l)/\_;have lneg:(P0 (Hi a b)).length<=(Hi a b).length:=Cf _;by_cases hr:(Hi a b).length=0
  ·have e:P0 (Hi a b)=[]:=Qh (by omega);rw [e];refine ⟨[],?_,?_⟩
   ·obtain ⟨j,rfl⟩:∃ j,k=j+1:=⟨k-1,by omega⟩;rfl
   ·obtain ⟨c,hc,hcc⟩:=hd (cz b) ⟨Nj (1 / u) X,λt=>by
     have:=hX t;rw [D3 hr] at this;have hu:1 / u*u=1:=Gx up;rw [Ff,Ff,Ge];have:Fe a t=1 / u*(u*Fe a t):=by grind
     rw [this,hX,D3 hr]; grind⟩ (dvd_refl _)
    exact .base hc hcc
  ·have tn:Fg (P0 (Hi a b)):=Fw _ _;have hn0:(P0 (Hi a b)).length≠0:=λh0=>by
    have:=Ea (c:=-1) h1 tn (by decide) λt=>by rw [Qfq]; grind
    omega
   obtain ⟨l,i1,i2⟩:=Q2q (s:=s+(m+1)*(s+8)) k b (P0 (Hi a b)) tb tn hn0 (by omega) (by omega) (by omega) (U8 bb (by omega)) (On h3) (by rw [e2]; omega) λd d1 d2=>by
    refine hd d ?_ d1;obtain ⟨y,hy⟩:=d1;obtain ⟨z,hz⟩:=d2;have hu:1 / u*u=1:=Gx up;refine ⟨Nj (1 / u) (Ty (G8 X y) (Nj (-v) z)),λt=>?_⟩;have a1:=hX t; have a2:=hy t; have a3:=hz t;rw [Ff] at a2 a3;rw [Qfq] at a3;rw [Ff,Ge,Gt,Fj,Ge];have:Fe a t=1 / u*(u*Fe a t):=by grind
    rw [this,a1,a2,show Fe (Hi a b) t=-(ev d t*ev z t) by grind]; grind
   refine ⟨P0 (Hi a b)::l,by rw [i1]; rfl,?_⟩;rw [Xb];exact .step (q:=X) up vp (λt=>by rw [Ff,Ff,Ff,hX,Qfq]; clear i2 i1 hd h3 hs; grind) i2
theorem Qei (x:Rat):∀ (l:List (List Int)) (n:Nat) (s:Int),(l.foldl (Ts λp=>Gl p x) (n,s)).1=n+tc x s (l.map cz)
 | [],n,s=>rfl
 |
  p::l,n,s=>by
  simp only [Xg,Xb,tc,Ts];rw [P3,Ff]
  split
  ·exact Qei x l n s
  ·rw [Qei x l]
   split <;> omega
theorem Qap (l:List (List Int)) (x:Rat):Mk l x=vv (l.map cz) x:=by
 have:=Qei x l 0 0;unfold Mk Nt vv;rw [this]; omega
theorem Q94 {n s:Nat} (hz:Szz n (s+73)) {P g q:List Int} (sq:Sqp P g q) (lq:q.length<=n) (bq:Bd (s+69) q):∃ d,chk (Gj q)=some d/\∃ l,chF 66 q (Fi d)=some l/\Stm (cz q) ((q::l).map cz)/\(q.length<2->l=[]):=by
 have hn:=hz.1;have hs:=Zeh hz;have bd:=Qqw bq (by omega);have ld:=Ph q;refine ⟨Gj q,Ex (by omega) (U8 bd (by omega)),?_⟩;have hq0:=sq.pq.n;by_cases h2:q.length<2
 ·have e:Fi (Gj q)=[]:=by rw [Qh (l:=Gj q) (by omega)]; rfl
  rw [e];refine ⟨[],rfl,.inl ⟨1,by decide,λt=>?_,rfl⟩,λ_=>rfl⟩;rw [Ff,sq.pq.one h2,Ny]
 ·have hdnz:(Gj q).length≠0:=λh=>by
   have h1:=P7 q (q.length-2);rw [Qh h,show q.length-2+1=q.length-1 by omega] at h1;have h3:q.getD (q.length-1) 0≠0:=Hr sq.pq.t (by omega);rcases Yq.1 (h1.symm.trans (by simp)) with h4 | h4
   ·exact h3 h4
   ·omega
  obtain ⟨p1,p2,p3,p4,p5,p6,p7⟩:=S5 (p:=Gj q) (Fw _ _) hdnz;have hdl:Fu (Gj q)=Fu q*((q.length-1:Nat):Int):=by
   have hld:(Gj q).length=q.length-1:=by
    rcases Q9 (Gj q).length (q.length-1) with h | h
    ·have h1:=P7 q (q.length-2);rw [Qe,Qt (by omega),show q.length-2+1=q.length-1 by omega] at h1;have h3:q.getD (q.length-1) 0≠0:=Hr sq.pq.t (by omega);rcases Yq.1 (h1.symm.trans (by simp)) with h4 | h4
     ·exact absurd h4 h3
     ·omega
    ·omega
   unfold Fu;rw [hld,P7,show q.length-1-1+1=q.length-1 by omega]
  have hfac:0<Ha (Gj q):=by
   have hlp:0<Fu (Gj q):=by rw [hdl]; exact U4 sq.pq.l (by omega)
   have hc:=I7 (p:=Gj q) (Fw _ _) hdnz;unfold Ha;rw [if_neg (by omega)];unfold Se at hc ⊢; omega
  have hfq:((0:Int):Rat)<(Ha (Gj q):Rat):=X8.2 hfac;have hfq:(0:Rat)<(Ha (Gj q):Rat):=by simpa using hfq
  have hff:1 / (Ha (Gj q):Rat)*(Ha (Gj q):Rat)=1:=Gx hfq;have hz2:=hz.2;have hp3:(s+73+8)*3^(q.length-1)<=16777216:=by
   have:(s+73+8)*3^(q.length-1)<=(s+73+8)*3^(n-1):=Zk _ (Zt (by decide) (by omega));rw [Xp] at hz2; omega
  obtain ⟨l,h3,h4⟩:=Q2q (s:=s+73) 66 q (Fi (Gj q)) sq.pq.t p1 (by omega) (by omega) (by omega) (by omega) (U8 bq (by omega)) (p5 _ bd) hp3 λd d1 d2=>sq.num d1 (by
   obtain ⟨z,hz⟩:=d2;exact ⟨Nj (Ha (Gj q)) z,λt=>by
    have:=hz t;rw [Ff] at this;rw [Tp,<-Ac,p7,this,Ge]; grind⟩)
  refine ⟨Fi (Gj q)::l,h3,.inr ⟨cz (Fi (Gj q)),l.map cz,1 / (Ha (Gj q):Rat),Di (by decide) hfq,λt=>?_,h4,rfl⟩,λh=>absurd h h2⟩;rw [Ff,<-Ac,p7 t]; grind
theorem chain_ok {n s:Nat} {p:List Int} (h:Okp n s p):∃ q l,Mj p=some q/\chain p=some (q::l)/\Stm (cz q) ((q::l).map cz)/\(q.length<2->l=[]):=by
 obtain ⟨pp,hl,hb⟩:=h.pr;have hn:=h.z.1;have Nl:=h.l;obtain ⟨g,q,hq,sq⟩:=Qc6 h;have e1:∀ t,Fe (Fi p) t=Fe q t*Fe g t:=λt=>by rw [sq.e]; grind
 obtain ⟨p1,p2⟩:=Tc pp.t pp.n e1;have hll:=Mi sq.pq.t sq.pg.t pp.t e1 p1 p2;obtain ⟨d,d1,l,d2,d3⟩:=Q94 h.z sq (by omega) (O8 hb (by omega) pp.t sq.pq.t sq.pg.t pp.n e1);refine ⟨q,l,hq,?_,d3⟩;unfold chain;rw [hq];show (if q.length=0 then none else _)=_;rw [if_neg sq.pq.n,d1];show (chF 66 q (Fi d)).bind _=_;rw [d2]; rfl
structure Gr (D M k:Nat) (q:Rat):Prop where
 u:∃ u:Int,q*((D*2^k:Nat):Rat)=(u:Rat)
 b:Fp q<=(M:Rat)
 d:0<D
theorem nat_pos {n:Nat} (h:0<n):(0:Rat)<(n:Rat):=by
 have:((0:Nat):Rat)<(n:Rat):=V4.2 h;simpa using this
theorem Qin {D M k:Nat} {q:Rat} (h:Gr D M k q):Gr D M (k+1) q:=by
 obtain ⟨u,hu⟩:=h.u;refine ⟨⟨u*2,?_⟩,h.b,h.d⟩;rw [Zr,<-Xp]
 push_cast at hu ⊢
 rw [<-hu]; grind
theorem Qzk {D M k:Nat} {a b:Rat} (ha:Gr D M k a) (hb:Gr D M k b):Gr D M (k+1) ((a+b) / 2):=by
 obtain ⟨u,hu⟩:=ha.u;obtain ⟨v,hv⟩:=hb.u;have h2:(a+b) / 2*2=a+b:=Gx (by decide);refine ⟨⟨u+v,?_⟩,?_,ha.d⟩
 ·rw [Zr,<-Xp]
  push_cast at hu hv ⊢
  rw [<-hu,<-hv];generalize (a+b) / 2=c at *;generalize (D:Rat)*2^k=z at *;have:c*(z*2)=(c*2)*z:=by grind
  rw [this,h2]; grind
 ·have h3:=ha.b;have h4:=hb.b;rw [Sw] at *;constructor <;> grind
theorem Zmp {D M k:Nat} {q:Rat} (h:Gr D M k q):q.den<=D*2^k:=by
 obtain ⟨u,hu⟩:=h.u;have hp:0<D*2^k:=Yl h.d (Z9 (by decide));have e:q=Rat.divInt u ((D*2^k:Nat):Int):=by
  rw [<-Hx,<-hu];have hz:=nat_pos hp;rw [show ((((D*2^k:Nat):Int)):Rat)=((D*2^k:Nat):Rat) from rfl];rw [J8];have:=Ui ((D*2^k:Nat):Rat) (by grind);generalize ((D*2^k:Nat):Rat)=z at *;have:q*z*z⁻¹=q*(z*z⁻¹):=by grind
  rw [this,‹z*z⁻¹=1›]; grind
 rw [e,Ub,if_neg (by omega),Xc];exact Yh _ _
theorem Qmc {a b k:Nat} {z:Int} (h:z.natAbs<=a*(b*2^k)):Fq z<=Fq (a:Int)+Fq (b:Int)+k:=by
 have h1:Fq (a:Int)<=Fq (a:Int):=Ql _;have h2:Fq (b:Int)<=Fq (b:Int):=Ql _;rw [Sl] at h1 h2 ⊢;rw [Xc] at h1 h2;rw [Xj,Xj];have h3:a*b<2^Fq (a:Int)*2^Fq (b:Int):=Nat.mul_lt_mul_of_lt_of_le h1 (J5 h2) (Z9 (by decide));have h4:=Xy h3 (show 0<2^k from Z9 (by decide));rw [<-Xp] at h; omega
theorem Qpb {D M k B:Nat} {q:Rat} (h:Gr D M k q) (hM:0<M) (hs:Fq (D:Int)+Fq (M:Int)+k<=B):Qs B q:=by
 have hd:=Zmp h;have hden:=nat_pos q.den_pos;have h1:(q.num.natAbs:Rat)<=((M*(D*2^k):Nat):Rat):=by
  have e:(q.num:Rat)=q*(q.den:Rat):=by
   have:(q.num:Rat) / (((q.den:Int)):Rat)=q:=by rw [Hx,Zv]
   have h2:(q.num:Rat) / (q.den:Rat)*(q.den:Rat)=q.num:=Zj (by grind);rw [show (q.num:Rat) / (q.den:Rat)=q from this] at h2; exact h2.symm
  rw [<-S9,e];have h3:=Hg (x:=q) (y:=(q.den:Rat)) (b:=((D*2^k:Nat):Rat)) h.b (by
   have:Fp (q.den:Rat)=(q.den:Rat):=by unfold Fp; rw [if_neg (by grind)]
   rw [this]; exact Zc.2 hd)
  push_cast at h3 ⊢; exact h3
 have h1:=Zc.1 h1;refine ⟨?_,?_⟩
 ·have:=Qmc (z:=q.num) h1; omega
 ·have:=Qmc (z:=(q.den:Int)) (a:=M) (b:=D) (k:=k) (by
   rw [Xc];exact Qc hd (Nat.le_mul_of_pos_left _ hM))
  omega
theorem Qd7 (a b:Rat):mid a b=(a+b) / 2:=by
 unfold mid;rw [<-Hx];have ha:(a.num:Rat)=a*(a.den:Rat):=by
  have:(a.num:Rat) / (((a.den:Int)):Rat)=a:=by rw [Hx,Zv]
  have h2:(a.num:Rat) / (a.den:Rat)*(a.den:Rat)=a.num:=Zj (by have:=nat_pos a.den_pos; grind);rw [show (a.num:Rat) / (a.den:Rat)=a from this] at h2; exact h2.symm
 have hb:(b.num:Rat)=b*(b.den:Rat):=by
  have:(b.num:Rat) / (((b.den:Int)):Rat)=b:=by rw [Hx,Zv]
  have h2:(b.num:Rat) / (b.den:Rat)*(b.den:Rat)=b.num:=Zj (by have:=nat_pos b.den_pos; grind);rw [show (b.num:Rat) / (b.den:Rat)=b from this] at h2; exact h2.symm
 have pa:=nat_pos a.den_pos;have pb:=nat_pos b.den_pos;rw [Wa,Xz,Xz,Xz,Xz,ha,hb];rw [show (((a.den:Int)):Rat)=(a.den:Rat) from rfl,show (((b.den:Int)):Rat)=(b.den:Rat) from rfl,show (((2:Int)):Rat)=2 from rfl];generalize (a.den:Rat)=x at *;generalize (b.den:Rat)=y at *;have hxy:=Ih (Ih pa pb) (show (0:Rat)<2 by decide);have h1:(a*x*y+b*y*x) / (x*y*2)*(x*y*2)=a*x*y+b*y*x:=Gx hxy;have h2:(a+b) / 2*2=a+b:=Gx (by decide);generalize (a*x*y+b*y*x) / (x*y*2)=c at *;generalize (a+b) / 2=d at *;have h3:(x*y*2)*(c-d)=0:=by grind
 rcases J0.1 h3 with h4 | h4 <;> grind
theorem Qka (a b:Rat):Qm7 a b=a-b:=by
 unfold Qm7;rw [Rat.sub_def',<-Rat.divInt_ofNat]
 push_cast; rfl
theorem L8 {a b:Rat}:Gv a b=0↔a=b:=by
 constructor
 ·intro h;have h1:¬a<b:=λh'=>by have:=Dx.2 h'; omega
  have h2:¬b<a:=λh'=>by have:=M5.2 h'; omega
  grind
 ·intro h; subst h; exact Df a
theorem O1 {a b:Rat}:Gv a b<=0↔a<=b:=by
 constructor
 ·intro h;have h2:¬b<a:=λh'=>by have:=M5.2 h'; omega
  grind
 ·intro h;have h2:¬0<Gv a b:=λh'=>by have:=M5.1 h'; grind
  omega
theorem Qjs {a b:Rat}:0<=Gv a b↔b<=a:=by
 constructor
 ·intro h;have h2:¬a<b:=λh'=>by have:=Dx.2 h'; omega
  grind
 ·intro h;have h2:¬Gv a b<0:=λh'=>by have:=Dx.1 h'; grind
  omega
theorem Sy (a b:Rat):Gv a b=1/\b<a\/Gv a b=0/\a=b\/Gv a b=-1/\a<b:=by
 have hb:=Oz a b;rcases (show Gv a b=1\/Gv a b=0\/Gv a b=-1 by omega) with h | h | h
 ·exact .inl ⟨h,M5.1 (by omega)⟩
 ·exact .inr (.inl ⟨h,L8.1 h⟩)
 ·exact .inr (.inr ⟨h,Dx.1 (by omega)⟩)
theorem Qvw (p:List Int) (x:Rat):low p x=Po (cz p) x:=by
 unfold low Po;rw [P3,P3,Ff,Ac]
theorem Pf {t:Tm} (h:t.lo<t.hi) (q:Rat):Fv t q=cq (cz t.p) t.lo t.hi q:=by
 have hp:t.point=false:=by
  unfold Tm.point;have:¬0<=Gv t.lo t.hi:=λh'=>by have:=Qjs.1 h'; grind
  simp [this]
 unfold Fv cq;rw [hp,if_neg (by decide)];have e1:(Gv q t.lo<=0)=(q<=t.lo):=propext O1;have e2:(0<Gv q t.hi)=(t.hi<q):=propext M5;rw [P3,Qvw,<-Ff];simp only [e1,e2]
theorem P8 {t:Tm}:t.point=true↔t.hi<=t.lo:=by
 unfold Tm.point;rw [decide_eq_true_iff]; exact Qjs
theorem As {t:Tm} (h:t.lo=t.hi) (q:Rat):Fv t q=Gv t.lo q:=by
 have hp:t.point=true:=P8.2 (by rw [h]; exact Qq);unfold Fv; rw [if_pos hp]
theorem Zl9 {c:Rat->Int} {x:Rat} (h:∀ q,c q=Gv x q):Cut c where
 val q:=by rw [h]; have:=Oz x q; omega
 mono q r hqr h1:=by
  rw [h] at h1 ⊢;rcases Sy x q with ⟨e,e'⟩ | ⟨e,e'⟩ | ⟨e,e'⟩
  ·exact absurd e h1
  ·rcases Sy x r with ⟨f,f'⟩ | ⟨f,f'⟩ | ⟨f,f'⟩ <;> grind
  ·rcases Sy x r with ⟨f,f'⟩ | ⟨f,f'⟩ | ⟨f,f'⟩ <;> grind
 up q h1:=by
  rw [h] at h1;have h2:=M5.1 (show 0<Gv x q by omega);have h3:(x+q) / 2*2=x+q:=Gx (by decide);have h4:=M5.2 (show (x+q) / 2<x by grind);have:=Oz x ((x+q) / 2);exact ⟨(x+q) / 2,by grind,by rw [h]; omega⟩
 dn q h1:=by
  rw [h] at h1;have h2:=Dx.1 (show Gv x q<0 by omega);have h3:(x+q) / 2*2=x+q:=Gx (by decide);have h4:=Dx.2 (show x<(x+q) / 2 by grind);have:=Oz x ((x+q) / 2);exact ⟨(x+q) / 2,by grind,by rw [h]; omega⟩
 lo:=⟨x-1,by
  rw [h];have h4:=M5.2 (show x-1<x by grind);have:=Oz x (x-1); omega⟩
 hi:=⟨x+1,by
  rw [h];have h4:=Dx.2 (show x<x+1 by grind);have:=Oz x (x+1); omega⟩
structure Va (t:Tm):Prop where
 i:t.lo=t.hi/\Fe t.p t.lo=0\/∃ L,Vt (cz t.p) L t.lo t.hi
 tr:Fg t.p
 n:t.p.length<=9
 n2:2<=t.p.length
 b:Bd 1000000 t.p
 bi:t.point=false->Bd 1000 t.p
 sc:t.point=false->∃ (l:List (List Int)) (P g:List Int),chF 66 t.p (Fi (Gj t.p))=some l/\Sqp P g t.p/\Vt (cz t.p) ((t.p::l).map cz) t.lo t.hi
 g:∃ D M k,Gr D M k t.lo/\Gr D M k t.hi/\0<M/\Fq (D:Int)+Fq (M:Int)+k<=1000000
theorem Va.le {t:Tm} (h:Va t):t.lo<=t.hi:=by
 rcases h.i with ⟨e,_⟩ | ⟨L,V⟩
 ·rw [e]; exact Qq
 ·exact Qp V.l
theorem Va.pt {t:Tm} (h:Va t) (hp:t.point=true):t.lo=t.hi/\Fe t.p t.lo=0:=by
 rcases h.i with e | ⟨L,V⟩
 ·exact e
 ·have:=P8.1 hp;have:=V.l;grind
theorem Va.iv {t:Tm} (h:Va t) (hp:t.point=false):∃ L,Vt (cz t.p) L t.lo t.hi:=by
 rcases h.i with ⟨e,_⟩ | h
 ·have:=P8.2 (show t.hi<=t.lo by rw [e]; exact Qq);rw [hp] at this; cases this
 ·exact h
theorem Va.cut {t:Tm} (h:Va t):Cut (Fv t):=by
 rcases h.i with ⟨e,_⟩ | ⟨L,V⟩
 ·exact Zl9 (x:=t.lo) λq=>As e q
 ·have:Fv t=cq (cz t.p) t.lo t.hi:=funext λq=>Pf V.l q
  rw [this]; exact V.cut
theorem Zn5 {c:Rat->Int} (hc:Cut c) {p:List Rat} {x:Rat} (h:c x=0) (h0:ev p x=0):Ip p c:=by
 rcases Qcg hc p with h1 | ⟨s,hs,h1⟩
 ·exact h1
 ·have:=Qwb hc h h1;rw [Gk.2 h0] at this; exact absurd this.symm hs
theorem Va.van {t:Tm} (h:Va t):Ip (cz t.p) (Fv t):=by
 have hc:=h.cut;rcases h.i with ⟨e,h0⟩ | ⟨L,V⟩
 ·exact Zn5 hc (x:=t.lo) (by rw [As e,Df]) (by rw [Ff]; exact h0)
 ·have:Fv t=cq (cz t.p) t.lo t.hi:=funext λq=>Pf V.l q
  rw [this]; exact V.van
theorem Va.qs {t:Tm} (h:Va t):Qs 1000000 t.lo/\Qs 1000000 t.hi:=by
 obtain ⟨D,M,k,h1,h2,h3,h4⟩:=h.g;exact ⟨Qpb h1 h3 h4,Qpb h2 h3 h4⟩
theorem Va.tb {t:Tm} (h:Va t):Tb t:=⟨⟨h.tr,by have:=h.n; omega,U8 h.b (by omega)⟩,h.qs.1.mono (t:=16777216) (by omega),h.qs.2.mono (t:=16777216) (by omega)⟩
structure Hv (t:Tm) (D M k:Nat) (u:Tm):Prop where
 p:u.p=t.p
 i:u.lo=u.hi/\Fe u.p u.lo=0\/∃ L,Vt (cz u.p) L u.lo u.hi
 c:∀ q,Fv u q=Fv t q
 l:Gr D M k u.lo
 h:Gr D M k u.hi
theorem Qux {c:Rat->Int} (hc:Cut c) {x:Rat} (h:c x=0) (q:Rat):c q=Gv x q:=by
 rcases Sy x q with ⟨e,e'⟩ | ⟨e,e'⟩ | ⟨e,e'⟩
 ·rw [e]; exact hc.mono' e' (by omega)
 ·rw [e,<-e',h]
 ·rw [e]; exact hc.mono x q e' (by omega)
theorem Qr0 {t u:Tm} {D M k:Nat} (hu:Hv t D M k u) (hM:0<M) (hs:Fq (D:Int)+Fq (M:Int)+(k+1)<=16777216):∃ v,Qrz u=some v/\Hv t D M (k+1) v/\v.hi-v.lo<=(u.hi-u.lo) / 2/\u.lo<=v.lo/\v.hi<=u.hi:=by
 have h2:∀ x:Rat,x / 2*2=x:=λx=>Gx (by decide)
 unfold Qrz;rcases hu.i with ⟨e,h0⟩ | ⟨L,V⟩
 ·have hp:u.point=true:=P8.2 (by rw [e]; exact Qq);rw [if_pos hp];refine ⟨u,rfl,⟨hu.p,hu.i,hu.c,Qin hu.l,Qin hu.h⟩,?_,Qq,Qq⟩;rw [e]; have:=h2 (u.hi-u.hi); grind
 ·have hp:u.point=false:=by
   have:¬u.point=true:=λh=>by have:=P8.1 h; have:=V.l; grind
   simpa using this
  rw [hp,if_neg (by decide)];obtain ⟨m,hm⟩:=nmE ((u.lo+u.hi) / 2);have hmg:Gr D M (k+1) m:=by rw [hm]; exact Qzk hu.l hu.h
  have hmm:=h2 (u.lo+u.hi);rw [<-hm] at hmm;have hl:=V.l;have hl1:u.lo<m:=by grind
  have hl2:m<u.hi:=by grind
  have hch:chq (mid u.lo u.hi)=some m:=by
   rw [Qd7,<-hm];have:=Qpb hmg hM hs;unfold chq;rw [if_pos ⟨this.1,this.2⟩]
  have hcm:mid u.lo u.hi=m:=by rw [Qd7,<-hm]
  rw [hch];show ∃ v,some (if Fv u m=0 then (⟨u.p,m,m⟩:Tm) else if Fv u m=-1 then ⟨u.p,u.lo,m⟩ else ⟨u.p,m,u.hi⟩)=some v/\_;have hw:=h2 (u.hi-u.lo);have hcu:=Pf hl;have hcut:=V.cut;have hcut':Cut (Fv u):=by rw [show Fv u=cq (cz u.p) u.lo u.hi from funext hcu]; exact hcut
  by_cases c0:Fv u m=0
  ·rw [if_pos c0];have hz:Fe u.p m=0:=by
    have:=Qh6 hcut (q:=m) (by rw [<-hcu]; exact c0) V.van;rwa [Ff] at this
   refine ⟨_,rfl,⟨hu.p,.inl ⟨rfl,hz⟩,λq=>?_,hmg,hmg⟩,by show m-m<=_; grind,by show u.lo<=m; grind,by show m<=u.hi; grind⟩;rw [As rfl,<-hu.c];exact (Qux hcut' c0 q).symm
  ·rw [if_neg c0];by_cases c1:Fv u m=-1
   ·rw [if_pos c1];have hv:vv L m=vv L u.hi:=V.eq_hi hl1 (Qp hl2) (by rw [<-hcu,c1]; decide);have V':Vt (cz u.p) L u.lo m:=⟨V.s,hl1,by rw [hv]; exact V.v⟩;refine ⟨_,rfl,⟨hu.p,.inr ⟨L,V'⟩,λq=>?_,Qin hu.l,hmg⟩,by show m-u.lo<=_; grind,Qq,by show m<=u.hi; grind⟩;rw [Pf hl1,<-hu.c,hcu];exact V.uniq V'.cut (C6 Qq) (by rw [Qaw hl1 hl2]; decide) V'.van q
   ·rw [if_neg c1];have c2:Fv u m=1:=by rcases hcut'.val m with h | h | h <;> omega
    have hv:vv L m=vv L u.lo:=V.eq_lo hl1 (Qp hl2) (by rw [<-hcu]; exact c2);have V':Vt (cz u.p) L m u.hi:=⟨V.s,hl2,by rw [hv]; exact V.v⟩;refine ⟨_,rfl,⟨hu.p,.inr ⟨L,V'⟩,λq=>?_,hmg,Qin hu.h⟩,by show u.hi-m<=_; grind,by show u.lo<=m; grind,Qq⟩;rw [Pf hl2,<-hu.c,hcu];exact V.uniq V'.cut (C6 (by grind)) V'.hi1 V'.van q
def Nc (a b:Tm):Prop:=∃ q,Fv a q=-1/\Fv b q=1
def TEq (a b:Tm):Prop:=∀ q,Fv a q=Fv b q
theorem tri {a b:Tm} (ha:Cut (Fv a)) (hb:Cut (Fv b)):Nc a b\/TEq a b\/Nc b a:=by
 rcases Classical.em (TEq a b) with h | h
 ·exact .inr (.inl h)
 ·obtain ⟨q,hq⟩:=Classical.not_forall.1 h;obtain ⟨r,⟨h1,h2⟩ | ⟨h1,h2⟩⟩:=Quw ha hb hq
  ·exact .inl ⟨r,h1,h2⟩
  ·exact .inr (.inr ⟨r,h2,h1⟩)
theorem Qby {a b:Tm} (ha:Cut (Fv a)) (hb:Cut (Fv b)) (h:Nc a b) (h':Nc b a):False:=by
 obtain ⟨q,q1,q2⟩:=h;obtain ⟨r,r1,r2⟩:=h';have:=ha.lt r2 q1;have:=hb.lt q2 r1;grind
theorem Qwy {p:List Int} (k:Nat):(p.getD k 0).natAbs<=2^Hd p:=by
 have h:Fq (p.getD k 0)<=Hd p:=by
  have key:∀ (l:List Int) (n:Nat),n≤l.foldl (λn z=>max n (Fq z)) n/\∀ z∈l,Fq z≤l.foldl (λn z=>max n (Fq z)) n:=by
   intro l
   induction l with
   | nil=>exact λn=>⟨Ql _,λz hz=>by cases hz⟩
   |
    cons y l ih =>
    intro n;obtain ⟨i1,i2⟩:=ih (max n (Fq y));refine ⟨by simp only [Xg]; omega,λz hz=>?_⟩;simp only [Xg];rcases Qm.1 hz with rfl | hz
    ·omega
    ·exact i2 z hz
  exact Ft (s:=Hd p) (λz hz=>(key p 0).2 z hz) k
 rw [Sl] at h; omega
theorem Zkn {s:Nat}:∀ (B:List Int),(∀ z∈B,z.natAbs≤2^s)->gB B≤2^(s+(B.length-1))
 | [],_=>Qi _
 |
  c::B,h=>by
  have h1:=h c (Qw ..);have h2:=Zkn B λz hz=>h z (Qj _ hz)
  simp only [gB,Q7,J4];have h3:2^s<=2^(s+B.length):=Zt (by decide) (by omega);cases B with
  | nil=>simp only [gB,Vu] at *; omega
  |
   cons d B =>
   have h4:2^(s+(d::B).length)=2*2^(s+((d::B).length-1)):=by
    rw [Zg,<-Zr]; congr 1
   rw [h4]; omega
def Ss (A B:List Int):Nat:=(Hd A+Hd B+(A.length+B.length)+8)*(2*(A.length+B.length-2)-1)
theorem Za4 {A B:List Int} (tA:Fg A) (tB:Fg B) (nA:A.length<=9) (nB:B.length<=9) (lA:2<=A.length) (lB:2<=B.length) {R d:Rat} (hR:1<=R) (dp:0<d)
 (hs:∀ e:Rat,0<e->∃ q r,Fp q<=R/\Fp r<=R/\d<=Fp (q-r)/\Fp (q-r)*((2^(Ss A B+1):Nat):Rat)<=1/\Fp (Fe A q)<e/\Fp (Fe B r)<e):False:=by
 obtain ⟨a,ha⟩:∃ a,A.length=a+1:=⟨A.length-1,by omega⟩;obtain ⟨b,hb⟩:∃ b,B.length=b+1:=⟨B.length-1,by omega⟩;obtain ⟨s,hsd⟩:=nmE (Hd A+Hd B+b);obtain ⟨N,hN⟩:∃ N,b*(2*(a*b))+a*(2*(a*b)-b)=N:=⟨_,rfl⟩;have hNt:N<=2^(a+9):=by
  rw [<-hN];have hab:∀ a b:Fin 9,b.1*(2*(a.1*b.1))+a.1*(2*(a.1*b.1)-b.1)<=2^(a.1+9):=by decide
  exact hab ⟨a,by omega⟩ ⟨b,by omega⟩
 have hK:Ss A B=(s+a+10)*(2*(a+b-1)+1):=by
  unfold Ss;rw [ha,hb,hsd,show a+1+(b+1)-2=a+b by omega,show 2*(a+b)-1=2*(a+b-1)+1 by omega];congr 1; omega
 have h0A:A.getD a 0≠0:=by have:=Hr tA (by omega); rwa [ha] at this
 have h0B:B.getD b 0≠0:=by have:=Hr tB (by omega); rwa [hb] at this
 have hp:∀ m,1<=2^m:=λm=>Z9 (by decide)
 refine Zml (N:=N) (D:=2^(Ss A B-1)) ha hb h0A h0B (by omega) (by omega) (h:=2^s) (hp s) (λk=>Qc (Qwy k) (Zt (by decide) (by omega))) ?_ hN ?_ hR dp λe ep=>?_
 ·refine Qc (Zkn (s:=Hd B) B λz hz=>?_) (Zt (by decide) (by omega));obtain ⟨i,hi⟩:=Zf.1 hz;have:=Qwy (p:=B) i;rwa [Qe,hi] at this
 ·have h1:2*(N*2^s)<=2^(s+a+10):=by
   have:N*2^s<=2^(a+9)*2^s:=Qx _ hNt;rw [<-Xj] at this;rw [show s+a+10=(a+9+s)+1 by omega,Zr]; omega
  have h2:N*2^s<=2^(s+a+9):=by
   rw [show s+a+9=(a+9)+s by omega,Xj]; exact Qx _ hNt
  have h3:=Nat.pow_le_pow_left h1 (2*(a+b-1));have h4:=Zh h2 h3;rw [<-U7,<-Xj] at h4;rw [<-Xp];refine Qc h4 (Zt (by decide) ?_);rw [hK,Xt,Y6]; omega
 ·obtain ⟨q,r,h1,h2,h3,h4,h5,h6⟩:=hs e ep;refine ⟨q,r,h1,h2,h3,?_,h5,h6⟩;have hK1:1<=Ss A B:=by
   rw [hK]; exact Yl (by omega) (by omega)
  have e1:2^(Ss A B+1)=4*2^(Ss A B-1):=by
   obtain ⟨m,hm⟩:∃ m,Ss A B=m+1:=⟨Ss A B-1,by omega⟩;rw [hm,J4,Zr,Zr]; omega
  rw [e1] at h4
  push_cast at h4 ⊢
  exact h4
theorem Hv.lo' {t:Tm} {D M k:Nat} {u:Tm} (h:Hv t D M k u):Fv t u.lo=1\/Fv t u.lo=0/\u.lo=u.hi:=by
 rw [<-h.c];rcases h.i with ⟨e,_⟩ | ⟨L,V⟩
 ·exact .inr ⟨by rw [As e,Df],e⟩
 ·exact .inl (by rw [Pf V.l]; exact C6 Qq)
theorem Hv.hi' {t:Tm} {D M k:Nat} {u:Tm} (h:Hv t D M k u):Fv t u.hi=0\/Fv t u.hi=-1:=by
 rw [<-h.c];rcases h.i with ⟨e,_⟩ | ⟨L,V⟩
 ·exact .inl (by rw [As e,e,Df])
 ·rw [Pf V.l];have:=V.hi1;rcases V.cut.val u.hi with h | h | h <;> omega
theorem Hv.le {t:Tm} {D M k:Nat} {u:Tm} (h:Hv t D M k u):u.lo<=u.hi:=by
 rcases h.i with ⟨e,_⟩ | ⟨L,V⟩
 ·rw [e]; exact Qq
 ·exact Qp V.l
theorem Za5 {a b:Tm} (ha:Va a) (hb:Va b) {D M k D' M' k':Nat} {u v:Tm} (hu:Hv a D M k u) (hv:Hv b D' M' k' v) (h:Nc a b):1<(v.hi-u.lo)*((2^(Ss a.p b.p+1):Nat):Rat):=by
 rcases Gg ((v.hi-u.lo)*((2^(Ss a.p b.p+1):Nat):Rat)) 1 with hw | hw
 ·exfalso;have ca:=ha.cut;have cb:=hb.cut;obtain ⟨m,m1,m2⟩:=h;obtain ⟨m',hm',m3⟩:=ca.dn m m1;have hpow:(0:Rat)<=((2^(Ss a.p b.p+1):Nat):Rat):=Xo;obtain ⟨R,hR⟩:=nmE (Fp u.lo+Fp m'+Fp m+Fp v.hi+1);have n1:=H7 u.lo; have n2:=H7 m'; have n3:=H7 m; have n4:=H7 v.hi;refine Za4 (R:=R) (d:=m-m') ha.tr hb.tr ha.n hb.n ha.n2 hb.n2 (by grind) (by grind) λe ep=>?_
  obtain ⟨q,q1,q2,q3⟩:∃ q,u.lo<=q/\q<=m'/\Fp (Fe a.p q)<e:=by
   rcases hu.lo' with h1 | ⟨h1,_⟩
   ·obtain ⟨x,y,hx,hy,hq⟩:=ha.van e ep;rcases Gg x u.lo with e1 | e1
    ·exact ⟨u.lo,Qq,Qp (ca.lt h1 m3),by rw [<-Ff]; exact hq u.lo e1 (Qp (ca.lt h1 hy))⟩
    ·exact ⟨x,Qp e1,Qp (ca.lt hx m3),by rw [<-Ff]; exact hq x Qq (Qp (ca.lt hx hy))⟩
   ·refine ⟨u.lo,Qq,?_,by rw [<-Ff,Qh6 ca h1 ha.van,Rx]; exact ep⟩;rcases Gg u.lo m' with e1 | e1
    ·exact e1
    ·have:=ca.mono m' u.lo e1 (by omega); omega
  obtain ⟨r,r1,r2,r3⟩:∃ r,r<=v.hi/\m<=r/\Fp (Fe b.p r)<e:=by
   rcases hv.hi' with h1 | h1
   ·refine ⟨v.hi,Qq,?_,by rw [<-Ff,Qh6 cb h1 hb.van,Rx]; exact ep⟩;rcases Gg m v.hi with e1 | e1
    ·exact e1
    ·have:=cb.mono v.hi m e1 (by omega); omega
   ·obtain ⟨x,y,hx,hy,hq⟩:=hb.van e ep;rcases Gg v.hi y with e1 | e1
    ·exact ⟨v.hi,Qq,Qp (cb.lt m2 h1),by rw [<-Ff]; exact hq v.hi (Qp (cb.lt hx h1)) e1⟩
    ·exact ⟨y,Qp e1,Qp (cb.lt m2 hy),by rw [<-Ff]; exact hq y (Qp (cb.lt hx hy)) Qq⟩
  have e1:Fp (q-r)=r-q:=by unfold Fp; split <;> grind
  have b1:Fp q<=R:=by
   have:=Qe8 (R:=R) (x:=u.lo) (y:=m') (t:=q) (by grind) (by grind) q1 q2; exact this
  have b2:Fp r<=R:=by
   have:=Qe8 (R:=R) (x:=m) (y:=v.hi) (t:=r) (by grind) (by grind) r2 r1; exact this
  refine ⟨q,r,b1,b2,by rw [e1]; grind,?_,q3,r3⟩;rw [e1];have:=Q5 (show r-q<=v.hi-u.lo by grind) hpow;exact Za this hw
 ·exact hw
theorem Qua {a b:Tm} (ha:Va a) (hb:Va b) {D M k D' M' k':Nat} {u v:Tm} (hu:Hv a D M k u) (hv:Hv b D' M' k' v) (hne:¬TEq a b) (h:D7 u v=true):Nc a b:=by
 have h1:=(of_decide_eq_true h).1;have h1:=O1.1 h1;rcases tri ha.cut hb.cut with h2 | h2 | ⟨m,m1,m2⟩
 ·exact h2
 ·exact absurd h2 hne
 ·exfalso;have e1:m<u.hi:=by
   rcases Gg u.hi m with e | e
   ·rcases Classical.em (u.hi=m) with e' | e'
    ·have:=hu.hi'; rw [e'] at this; omega
    ·have:=ha.cut.mono u.hi m (by grind) (by have:=hu.hi'; omega); omega
   ·exact e
  have e2:v.lo<m:=by
   rcases Gg m v.lo with e | e
   ·rcases Classical.em (m=v.lo) with e' | e'
    ·have:=hv.lo'; rw [<-e'] at this; omega
    ·have:=hb.cut.mono m v.lo (by grind) (by omega);have:=hv.lo'; omega
   ·exact e
  grind
theorem Q37 {a b:Tm} (ha:Va a) (hb:Va b) {D M k D' M' k':Nat} {u v:Tm} (hu:Hv a D M k u) (hv:Hv b D' M' k' v) (hlt:Nc a b) (h:D7 u v≠true):v.lo<=u.hi:=by
 rcases Gg v.lo u.hi with e | e
 ·exact e
 ·refine absurd (decide_eq_true ⟨O1.2 (Qp e),λh'=>?_⟩) h;have:=L8.1 h'.2; grind
theorem Qpw (m:Nat):((2^(m+1):Nat):Rat)=2*((2^m:Nat):Rat):=by rw [Zr]; push_cast; grind
def Zk8 (a b:Tm) (r:Tm×Tm×Int):Prop:=r.2.2=-1/\Nc a b\/r.2.2=1/\Nc b a
theorem Q6e (A B:List Int):Ss A B=Ss B A:=by unfold Ss; rw [Nat.add_comm A.length,Nat.add_comm (Hd A)]
theorem Zom {a b:Tm} (ha:Va a) (hb:Va b) (hne:¬TEq a b) {D M D' M':Nat} (hM:0<M) (hM':0<M'):∀ (i j:Nat) (u v:Tm) (k k':Nat) (W:Rat),2*i+1<=j->Hv a D M k u->Hv b D' M' k' v->Fq (D:Int)+Fq (M:Int)+(k+j)<=16777216->Fq (D':Int)+Fq (M':Int)+(k'+j)<=16777216->u.hi-u.lo<=W->v.hi-v.lo<=W->2*W*((2^(Ss a.p b.p+1):Nat):Rat)<=((2^i:Nat):Rat)->∃ r,apF j u v=some r/\Zk8 a b r:=by
 intro i;have step:∀ (j:Nat) (u v:Tm) (k k':Nat),Hv a D M k u->Hv b D' M' k' v->Fq (D:Int)+Fq (M:Int)+(k+(j+1))<=16777216->Fq (D':Int)+Fq (M':Int)+(k'+(j+1))<=16777216->(∃ r,apF (j+1) u v=some r/\Zk8 a b r)\/(D7 u v≠true/\D7 v u≠true/\∃ u' v' k1 k1',apF (j+1) u v=apF j u' v'/\Hv a D M k1 u'/\Hv b D' M' k1' v'/\k1<=k+1/\k1'<=k'+1/\(v.hi-v.lo<=u.hi-u.lo/\u'.hi-u'.lo<=(u.hi-u.lo) / 2/\v'=v\/u.hi-u.lo<=v.hi-v.lo/\v'.hi-v'.lo<=(v.hi-v.lo) / 2/\u'=u)):=by
  intro j u v k k' hu hv hs hs';by_cases h1:D7 u v=true
  ·exact .inl ⟨(u,v,-1),by simp only [apF]; rw [if_pos h1],.inl ⟨rfl,Qua ha hb hu hv hne h1⟩⟩
  by_cases h2:D7 v u=true
  ·exact .inl ⟨(u,v,1),by simp only [apF]; rw [if_neg h1,if_pos h2],.inr ⟨rfl,Qua hb ha hv hu (λh=>hne λq=>(h q).symm) h2⟩⟩
  refine .inr ⟨h1,h2,?_⟩;by_cases h3:0<=Gv (Qm7 u.hi u.lo) (Qm7 v.hi v.lo)
  ·obtain ⟨x,x1,x2,x3,_⟩:=Qr0 hu hM (by omega);refine ⟨x,v,k+1,k',?_,x2,hv,by omega,by omega,.inl ⟨?_,x3,rfl⟩⟩
   ·simp only [apF]; rw [if_neg h1,if_neg h2,if_pos h3,x1]; rfl
   ·have:=Qjs.1 h3; rwa [Qka,Qka] at this
  ·obtain ⟨x,x1,x2,x3,_⟩:=Qr0 hv hM' (by omega);refine ⟨u,x,k,k'+1,?_,hu,x2,by omega,by omega,.inr ⟨?_,x3,rfl⟩⟩
   ·simp only [apF]; rw [if_neg h1,if_neg h2,if_neg h3,x1]; rfl
   ·rcases Gg (u.hi-u.lo) (v.hi-v.lo) with e | e
    ·exact e
    ·refine absurd (Qjs.2 ?_) h3;rw [Qka,Qka]; exact Qp e
 induction i with
 |
  zero =>
  intro j u v k k' W hj hu hv hs hs' hW hW' hK;obtain ⟨j,rfl⟩:∃ m,j=m+1:=⟨j-1,by omega⟩;rcases step j u v k k' hu hv hs hs' with h | ⟨h1,h2,_⟩
  ·exact h
  ·exfalso;have hpow:(0:Rat)<=((2^(Ss a.p b.p+1):Nat):Rat):=Xo;rw [Vm] at hK;rcases tri ha.cut hb.cut with h3 | h3 | h3
   ·have h4:=Q37 ha hb hu hv h3 h1;have h5:=Za5 ha hb hu hv h3;have h6:=Q5 (show v.hi-u.lo<=2*W by clear step; grind) hpow;have h7:((1:Nat):Rat)=1:=rfl;rw [h7] at hK;clear step; grind
   ·exact hne h3
   ·have h4:=Q37 hb ha hv hu h3 h2;have h5:=Za5 hb ha hv hu h3;rw [Q6e] at h5;have h6:=Q5 (show u.hi-v.lo<=2*W by clear step; grind) hpow;have h7:((1:Nat):Rat)=1:=rfl;rw [h7] at hK;clear step; grind
 |
  succ i ih =>
  intro j u v k k' W hj hu hv hs hs' hW hW' hK;obtain ⟨j,rfl⟩:∃ m,j=m+2:=⟨j-2,by omega⟩;have hd:∀ x:Rat,x / 2*2=x:=λx=>Gx (by decide)
  rcases step (j+1) u v k k' hu hv hs hs' with h | ⟨_,_,u1,v1,k1,k1',e1,hu1,hv1,hk1,hk1',hw1⟩
  ·exact h
  ·rw [e1];rcases step j u1 v1 k1 k1' hu1 hv1 (by omega) (by omega) with h | ⟨_,_,u2,v2,k2,k2',e2,hu2,hv2,hk2,hk2',hw2⟩
   ·exact h
   ·rw [e2];have a1:=hd (u.hi-u.lo); have a2:=hd (v.hi-v.lo); have a3:=hd (u1.hi-u1.lo); have a4:=hd (v1.hi-v1.lo); have a5:=hd W;have b1:=hu.le; have b2:=hv.le; have b3:=hu1.le; have b4:=hv1.le; have b5:=hu2.le; have b6:=hv2.le;have hww:u2.hi-u2.lo<=W / 2/\v2.hi-v2.lo<=W / 2:=by
     clear step ih;rcases hw1 with ⟨c1,c2,rfl⟩ | ⟨c1,c2,rfl⟩ <;> rcases hw2 with ⟨d1,d2,rfl⟩ | ⟨d1,d2,rfl⟩ <;> constructor <;> grind
    refine ih j u2 v2 k2 k2' (W / 2) (by omega) hu2 hv2 (by omega) (by omega) hww.1 hww.2 ?_;rw [Qpw i] at hK;have:2*(W / 2)*((2^(Ss a.p b.p+1):Nat):Rat)*2=2*W*((2^(Ss a.p b.p+1):Nat):Rat):=by clear step ih hw1 hw2; grind
    clear step ih hw1 hw2; grind
def CmpOk (a b:Tm) (c:Int):Prop:=c=-1/\Nc a b\/c=0/\TEq a b\/c=1/\Nc b a
theorem Va.hv0 {t:Tm} (h:Va t):∃ D M k,Hv t D M k t/\0<M/\Fq (D:Int)+Fq (M:Int)+k<=1000000:=by
 obtain ⟨D,M,k,h1,h2,h3,h4⟩:=h.g;exact ⟨D,M,k,⟨rfl,h.i,λ_=>rfl,h1,h2⟩,h3,h4⟩
theorem Q0i {a:Tm} (ha:Va a) (hp:a.point=true) (q:Rat):Fv a q=Gv a.lo q:=As (ha.pt hp).1 q
theorem Zaa {a b:Tm} (hb:Va b) {x:Rat} (hx:∀ q,Fv a q=Gv x q):CmpOk a b (-Fv b x):=by
 have cb:=hb.cut;rcases cb.val x with h | h | h
 ·obtain ⟨q,q1,q2⟩:=cb.up x h;refine .inl ⟨by omega,q,?_,q2⟩;rw [hx]; rcases Sy x q with ⟨e,e'⟩ | ⟨e,e'⟩ | ⟨e,e'⟩ <;> grind
 ·exact .inr (.inl ⟨by omega,λq=>by rw [hx,Qux cb h]⟩)
 ·obtain ⟨q,q1,q2⟩:=cb.dn x h;refine .inr (.inr ⟨by omega,q,q2,?_⟩);rw [hx]; rcases Sy x q with ⟨e,e'⟩ | ⟨e,e'⟩ | ⟨e,e'⟩ <;> grind
theorem CmpOk.symm {a b:Tm} {c:Int} (h:CmpOk a b c):CmpOk b a (-c):=by
 rcases h with ⟨h1,h2⟩ | ⟨h1,h2⟩ | ⟨h1,h2⟩
 ·exact .inr (.inr ⟨by omega,h2⟩)
 ·exact .inr (.inl ⟨by omega,λq=>(h2 q).symm⟩)
 ·exact .inl ⟨by omega,h2⟩
theorem Zqa:Szz 9 1000:=⟨by decide,by decide⟩
theorem Qe6 (g:List Int) (lo hi:Rat):Qe5 g lo hi=true↔Qzl (cz g) lo hi:=by
 unfold Qe5 Qzl;rw [decide_eq_true_iff,P3,Qvw,Ff]
theorem Qvf {g:List Int} (tg:Fg g) (hn:g.length≠0) {lo hi:Rat} (h:Qzl (cz g) lo hi):1<g.length:=by
 rcases Q9 1 g.length with e | e
 ·exact e
 ·exfalso;obtain ⟨c,rfl⟩:∃ c,g=[c]:=Wl.1 (by omega);have hc:c≠0:=by have:=Hr tg (by simp); simpa using this
  have hv:∀ t,ev (cz [c]) t=(c:Rat):=λt=>by rw [Ff]; simp only [Fe]; grind
  have hs:Fo (c:Rat)≠0:=λh=>Qad hc (Gk.1 h)
  unfold Qzl at h;rw [hv,E9 (by rw [hv]; exact hs),hv] at h;rcases h with h | h
  ·exact hs h
  ·exact h rfl
theorem Qd3 {q:Rat}:Fp q<=((2^Fq q.num:Nat):Rat):=by
 have h1:Fq q.num<=Fq q.num:=Ql _;rw [Sl] at h1;have e:(q.num:Rat)=q*(q.den:Rat):=by
  have:(q.num:Rat) / (((q.den:Int)):Rat)=q:=by rw [Hx,Zv]
  have h2:(q.num:Rat) / (q.den:Rat)*(q.den:Rat)=q.num:=Zj (by have:=nat_pos q.den_pos; grind);rw [show (q.num:Rat) / (q.den:Rat)=q from this] at h2; exact h2.symm
 have hd:(1:Rat)<=(q.den:Rat):=by
  have:((1:Nat):Rat)<=(q.den:Rat):=Zc.2 q.den_pos;exact this
 have h2:Fp q<=Fp (q.num:Rat):=by
  rw [e,Ed];have:Fp (q.den:Rat)=(q.den:Rat):=by unfold Fp; rw [if_neg (by grind)]
  rw [this];have:=Mw (a:=Fp q) (c:=1) (H7 q) Qq (by decide) hd;grind
 rw [S9] at h2;exact Za h2 (Zc.2 (J5 h1))
theorem Qh8 {a:Tm} {w:Nat} (h:Fq a.lo.num+Fq a.hi.num<=w):a.hi-a.lo<=((2^(w+1):Nat):Rat):=by
 have h1:=Qd3 (q:=a.lo);have h2:=Qd3 (q:=a.hi);have h3:((2^Fq a.lo.num:Nat):Rat)<=((2^w:Nat):Rat):=Zc.2 (Zt (by decide) (by omega));have h4:((2^Fq a.hi.num:Nat):Rat)<=((2^w:Nat):Rat):=Zc.2 (Zt (by decide) (by omega));rw [Qpw];rw [Sw] at h1 h2;grind
theorem Of {p:List Int} {s:Nat} (h:Bd s p):Hd p<=s:=by
 have:=Mx h p.length; rwa [Qy] at this
theorem Zea {a b:Tm} (ha:Va a) (hb:Va b) (pa:a.point=false) (pb:b.point=false):Mg a b<=9000000:=by
 have q1:=ha.qs; have q2:=hb.qs;have l1:=ha.n; have l2:=hb.n;have s1:=Of (ha.bi pa); have s2:=Of (hb.bi pb);have b1:=q1.1.1; have b2:=q1.2.1; have b3:=q2.1.1; have b4:=q2.2.1;have:4*(a.p.length+b.p.length)*(Hd a.p+Hd b.p+(a.p.length+b.p.length)+8)<=4*18*2100:=Zh (by omega) (by omega);unfold Mg; omega
theorem Q74 {a b:Tm} (ha:Va a) (hb:Va b) (pa:a.point=false) (pb:b.point=false) (hne:¬TEq a b):∃ r,apF (Mg a b) a b=some r/\Zk8 a b r:=by
 obtain ⟨D,M,k,h1,h2,h3⟩:=ha.hv0;obtain ⟨D',M',k',h1',h2',h3'⟩:=hb.hv0;have hst:=Zea ha hb pa pb;obtain ⟨w,hw⟩:=nmE (Fq a.lo.num+Fq a.hi.num+Fq b.lo.num+Fq b.hi.num);obtain ⟨K,hK⟩:=nmE (Hd a.p+Hd b.p+(a.p.length+b.p.length)+8);obtain ⟨n,hn⟩:=nmE (a.p.length+b.p.length);have l1:=ha.n2; have l2:=hb.n2;have hsteps:Mg a b=64+2*w+4*n*K:=by unfold Mg; rw [hw,hK,hn]
 have hg:Ss a.p b.p=K*(2*(n-2)-1):=by unfold Ss; rw [hK,hn]
 have hgle:Ss a.p b.p+5*K<=2*n*K:=by
  rw [hg,Zg K,<-Jg];exact Qx _ (by omega)
 have hKp:8<=K:=by omega
 refine Zom ha hb hne h2 h2' (31+w+2*n*K) (Mg a b) a b k k' ((2^(w+1):Nat):Rat) ?_ h1 h1' (by omega) (by omega) (Qh8 (by omega)) (Qh8 (by omega)) ?_
 ·rw [hsteps,Xt,Xp 4,Xp 2 n]; omega
 ·have e:2*(2^(w+1))*(2^(Ss a.p b.p+1))<=2^(31+w+2*n*K):=by
   rw [Zg 2,<-Zr,<-Xj];exact Zt (by decide) (by omega)
  have:=Zc.2 e
  push_cast at this ⊢
  exact this
theorem Qcm {a b:Tm} (ha:Va a) (hb:Va b):∃ c,Qja a b=some c/\CmpOk a b c:=by
 unfold Qja;by_cases pa:a.point=true
 ·rw [if_pos pa];exact ⟨_,rfl,Zaa hb (Q0i ha pa)⟩
 rw [if_neg pa];by_cases pb:b.point=true
 ·rw [if_pos pb];have:=(Zaa ha (Q0i hb pb)).symm;rw [Int.neg_neg] at this;exact ⟨_,rfl,this⟩
 rw [if_neg pb];have pa:a.point=false:=by simpa using pa
 have pb:b.point=false:=by simpa using pb
 obtain ⟨L,V⟩:=ha.iv pa;obtain ⟨L',V'⟩:=hb.iv pb;have eqa:∀ q,Fv a q=cq (cz a.p) a.lo a.hi q:=Pf V.l;have eqb:∀ q,Fv b q=cq (cz b.p) b.lo b.hi q:=Pf V'.l;obtain ⟨lo,hlo⟩:=nmE (if 0<Gv b.lo a.lo then b.lo else a.lo);obtain ⟨hi,hhi⟩:=nmE (if Gv b.hi a.hi<0 then b.hi else a.hi);show ∃ c,(if Gv (if 0<Gv b.lo a.lo then b.lo else a.lo) (if Gv b.hi a.hi<0 then b.hi else a.hi)<0 then _ else _)=some c/\_;rw [<-hlo,<-hhi];have e1:(0<Gv b.lo a.lo)=(a.lo<b.lo):=propext M5;have e2:(Gv b.hi a.hi<0)=(b.hi<a.hi):=propext Dx;have e3:(Gv lo hi<0)=(lo<hi):=propext Dx;simp only [e1] at hlo;simp only [e2] at hhi;simp only [e3];obtain ⟨g,g1,g2,g3,g4⟩:=Zbd Zqa ha.tr hb.tr ha.n hb.n (ha.bi pa) (hb.bi pb) (by have:=ha.n2; omega);obtain ⟨U,W,hc⟩:=g2.c;obtain ⟨u,hu⟩:=g2.da;obtain ⟨u',hu'⟩:=g2.db;have key:=V.same V' (g:=cz g) (u:=u) (u':=u') (U:=U) (W:=W) (k:=1) (by decide) hu hu' (λt=>by rw [Ff,Ff,Ff,hc]; grind) (a:=lo) (b:=hi) (by rw [hlo]; split <;> grind) (by rw [hlo]; split <;> grind) (by rw [hlo]; split <;> simp) (by rw [hhi]; split <;> grind) (by rw [hhi]; split <;> grind) (by rw [hhi]; split <;> simp);have hTE:(∀ q,cq (cz a.p) a.lo a.hi q=cq (cz b.p) b.lo b.hi q)↔TEq a b:=by
  unfold TEq; constructor
  ·intro h q; rw [eqa,eqb]; exact h q
  ·intro h q; rw [<-eqa,<-eqb]; exact h q
 rw [hTE] at key;have fin:¬TEq a b->∃ c,((apF (Mg a b) a b).bind λr=>some r.2.2)=some c/\CmpOk a b c:=λhne=>by
  obtain ⟨r,r1,r2⟩:=Q74 ha hb pa pb hne;refine ⟨r.2.2,by rw [r1]; rfl,?_⟩;rcases r2 with h | h
  ·exact .inl h
  ·exact .inr (.inr h)
 by_cases hl:lo<hi
 ·rw [if_pos hl,g1];show ∃ c,(if 1<g.length/\Qe5 g lo hi=true then some 0 else (apF (Mg a b) a b).bind λr=>some r.2.2)=some c/\_;by_cases hh:Qe5 g lo hi=true
  ·have hq:=(Qe6 g lo hi).1 hh;rw [if_pos ⟨Qvf g2.t g2.n hq,hh⟩];exact ⟨0,rfl,.inr (.inl ⟨rfl,key.1 ⟨hl,hq⟩⟩)⟩
  ·rw [if_neg λh=>hh h.2];exact fin λh=>hh ((Qe6 g lo hi).2 (key.2 h).2)
 ·rw [if_neg hl];exact fin λh=>hl (key.2 h).1
def SgT (p:List Int) (a:Tm) (s:Int):Prop:=s=0/\Ip (cz p) (Fv a)\/s≠0/\NZ (cz p) (Fv a) s
theorem Zni {p:List Int} {c:Rat->Int} (hc:Cut c) {x:Rat} (h:c x=0):Gl p x=0/\Ip (cz p) c\/Gl p x≠0/\NZ (cz p) c (Gl p x):=by
 rw [P3,<-Ff];rcases Qcg hc (cz p) with h1 | ⟨s,hs,h1⟩
 ·exact .inl ⟨Gk.2 (Qh6 hc h h1),h1⟩
 ·have:=Qwb hc h h1;rw [this]; exact .inr ⟨hs,h1⟩
theorem Eu {l:List (List Int)} {lo hi:Rat} (h:lo<=hi):Rm l lo hi=(vv (l.map cz) lo:Int)-(vv (l.map cz) hi:Int):=by
 unfold Rm;rw [if_neg λh'=>by have:=Dx.1 h'; grind,Qap,Qap]
theorem Znj {p q:List Int} {L:List (List Rat)} (hp:Fg p) (np:p.length<=9) (lp:2<=p.length) (hS:Stm (cz q) L) (hpq:Dvd (cz q) (cz p)) {a:Tm} (ha:Va a) {s:Int} (hnz:NZ (cz p) (Fv a) s) {D M k:Nat} {x:Tm} (hx:Hv a D M k x) (hl:x.lo<x.hi) (hv:vv L x.lo≠vv L x.hi):1<(x.hi-x.lo)*((2^(Ss a.p p+1):Nat):Rat):=by
 rcases Gg ((x.hi-x.lo)*((2^(Ss a.p p+1):Nat):Rat)) 1 with hw | hw
 ·exfalso;have ca:=ha.cut;obtain ⟨d,dp,x1,y1,c1,c2,hn⟩:=hnz;obtain ⟨x2,x12,c3⟩:=ca.up x1 c1;obtain ⟨y2,y12,c4⟩:=ca.dn y1 c2;have hpow:(0:Rat)<=((2^(Ss a.p p+1):Nat):Rat):=Xo;obtain ⟨z,zp,z1,z2⟩:=min2 (a:=x2-x1) (b:=y1-y2) (by clear hn; grind) (by clear hn; grind);obtain ⟨R0,hR0,r1,r2⟩:=Qqt x.lo x.hi;obtain ⟨u,hu⟩:=hpq;refine Za4 (R:=R0+1) (d:=z) ha.tr hp ha.n np ha.n2 lp (by clear hn; grind) zp λe ep=>?_
  obtain ⟨q0,q1,q2,q3,q4,q5⟩:∃ q0,x.lo<=q0/\q0<=x.hi/\x2<=q0/\q0<=y2/\Fp (Fe a.p q0)<e:=by
   rcases hx.lo' with h1 | ⟨h1,h2⟩
   ·obtain ⟨x',y',hx',hy',hq⟩:=ha.van e ep;obtain ⟨m,m1,m2,m3,m4⟩:∃ m,Fv a m=1/\x.lo<=m/\x2<=m/\x'<=m:=by
     rcases Gg x.lo x2 with e1 | e1
     ·rcases Gg x2 x' with e2 | e2
      ·exact ⟨x',hx',by clear hn hq; grind,e2,Qq⟩
      ·exact ⟨x2,c3,e1,Qq,Qp e2⟩
     ·rcases Gg x.lo x' with e2 | e2
      ·exact ⟨x',hx',e2,by clear hn hq; grind,Qq⟩
      ·exact ⟨x.lo,h1,Qq,Qp e1,Qp e2⟩
    refine ⟨m,m2,?_,m3,Qp (ca.lt m1 c4),by rw [<-Ff]; exact hq m m4 (Qp (ca.lt m1 hy'))⟩;rcases hx.hi' with h3 | h3
    ·rcases Gg m x.hi with e1 | e1
     ·exact e1
     ·have:=ca.mono x.hi m e1 (by omega); omega
    ·exact Qp (ca.lt m1 h3)
   ·exact absurd h2 (by clear hn; grind)
  obtain ⟨b,hb⟩:=nmE (evB R0 u);have hb0:0<=b:=by rw [hb]; exact O7 hR0 u
  obtain ⟨f,fp,_,hf⟩:=Hj (b:=b) (d:=if e<=d then e else d) hb0 (by split <;> assumption);obtain ⟨r,r3,r4,r5⟩:=Qtl hS hl hv fp;have hrR:Fp r<=R0:=Qe8 r1 r2 r3 r4;have hpr:Fp (Fe p r)<(if e<=d then e else d):=by
   rw [<-Ff,hu];have:=Hg (Qp r5) (Qih hrR u);rw [<-hb] at this;exact Jk.1 λh=>absurd (Za h this) (Jk.2 hf)
  have hpe:Fp (Fe p r)<e:=by split at hpr <;> (clear hn; grind)
  have hpd:Fp (Fe p r)<d:=by split at hpr <;> (clear hn; grind)
  have hrout:r<x1\/y1<r:=by
   rcases Gg x1 r with e1 | e1
   ·rcases Gg r y1 with e2 | e2
    ·have:=(hn r e1 e2).2;rw [Ff] at this;exact absurd this (Jk.2 hpd)
    ·exact .inr e2
   ·exact .inl e1
  have hqr:z<=Fp (q0-r):=by
   clear hn;rcases hrout with h | h
   ·have:Fp (q0-r)=q0-r:=by unfold Fp; split <;> grind
    rw [this]; grind
   ·have:Fp (q0-r)=r-q0:=by unfold Fp; split <;> grind
    rw [this]; grind
  have hq0R:Fp q0<=R0:=Qe8 r1 r2 q1 q2;refine ⟨q0,r,by clear hn; grind,by clear hn; grind,hqr,?_,q5,hpe⟩;have h1:Fp (q0-r)<=x.hi-x.lo:=by rw [Sw]; clear hn; constructor <;> grind
  exact Za (Q5 h1 hpow) hw
 ·exact hw
theorem Zdw {p q:List Int} {l:List (List Int)} (hp:Fg p) (np:p.length<=9) (lp:2<=p.length) (hS:Stm (cz q) (l.map cz)) (hpq:Dvd (cz q) (cz p)) {a:Tm} (ha:Va a) {s:Int} (hnz:NZ (cz p) (Fv a) s) {D M:Nat} (hM:0<M):∀ (j i:Nat) (x:Tm) (k:Nat) (W:Rat),i+1<=j->Hv a D M k x->Fq (D:Int)+Fq (M:Int)+(k+j)<=16777216->x.hi-x.lo<=W->W*((2^(Ss a.p p+1):Nat):Rat)<=((2^i:Nat):Rat)->∃ u k',sgF l j x=some u/\Hv a D M k' u/\(u.point=true\/Rm l u.lo u.hi=0)
 | 0,i,x,k,W,h,_,_,_,_=>by omega
 |
  j+1,i,x,k,W,hj,hx,hs,hW,hK=>by
  simp only [sgF];by_cases h:x.point=true\/Rm l x.lo x.hi=0
  ·rw [if_pos h]; exact ⟨x,k,rfl,hx,h⟩
  ·rw [if_neg h];obtain ⟨v,v1,v2,v3,_⟩:=Qr0 hx hM (by omega);rw [v1];show ∃ u k',sgF l j v=some u/\_;have hpt:¬x.hi<=x.lo:=λh'=>h (.inl (P8.2 h'))
   have hl:x.lo<x.hi:=by grind
   have hvv:vv (l.map cz) x.lo≠vv (l.map cz) x.hi:=λh'=>h (.inr (by rw [Eu (Qp hl)]; omega))
   have hg:=Znj hp np lp hS hpq ha hnz hx hl hvv;have hpow:(0:Rat)<=((2^(Ss a.p p+1):Nat):Rat):=Xo;have hd:∀ x:Rat,x / 2*2=x:=λx=>Gx (by decide)
   cases i with
   |
    zero =>
    exfalso;rw [Vm] at hK;have:=Q5 hW hpow;have h7:((1:Nat):Rat)=1:=rfl;rw [h7] at hK;grind
   |
    succ i =>
    refine Zdw hp np lp hS hpq ha hnz hM j i v (k+1) (W / 2) (by omega) v2 (by omega) ?_ ?_
    ·have:=hd (x.hi-x.lo); have:=hd W; grind
    ·rw [Qpw i] at hK;have:=hd W;have:W / 2*((2^(Ss a.p p+1):Nat):Rat)*2=W*((2^(Ss a.p p+1):Nat):Rat):=by grind
     grind
theorem Qwj {x y:Rat}:∀ {ws:List (List Rat)},(∀ w∈ws,Fo (ev w x)=Fo (ev w y))->Fo (ev (I6 ws) x)=Fo (ev (I6 ws) y)
 | [],_=>by simp only [I6]; rw [Tt,Tt]
 |
  w::l,h=>by
  simp only [I6];rw [Fj,Fj,S7,S7,h w (Qw ..),Qwj λv hv=>h v (Qj _ hv)]
theorem Q6w {p q o:List Int} (hpt:Parts p q o) (tp:Fg p) (hp:p.length≠0) {L:List (List Rat)} (hS:Stm (cz q) L) {x y:Rat} (hxy:x<y) (hv:vv L x=vv L y):∃ s,s≠0/\∀ z,x<z->z<=y->Fo (Fe p z)=s:=by
 obtain ⟨ws,w1,w2⟩:=hpt.ws;obtain ⟨_,_,_,_,_,p6,p7⟩:=S5 tp hp;have key:∀ z,x<z->z≤y->∀ w∈ws.map cz,Sm w x z:=λz h1 h2 w hw=>by
  obtain ⟨v,hv',rfl⟩:=Zp.1 hw;obtain ⟨u,hu⟩:=(w1 v hv').2;have a1:=Ak hS h1;have a2:vv L y<=vv L z:=by
   rcases Classical.em (z=y) with e | e
   ·rw [e]; exact Ql _
   ·exact Ak hS (by grind)
  exact Qdo hS hu h1 (by omega)
 have hval:∀ z,Fe p z=(Ha p:Rat)*ev (I6 (ws.map cz)) z:=λz=>by rw [p7,w2]
 refine ⟨Fo (Fe p y),λh0=>?_,λz h1 h2=>?_⟩
 ·rw [hval,S7] at h0;rcases Yq.1 h0 with h | h
  ·exact Qad p6 (Gk.1 h)
  ·have:∀ l:List (List Rat),(∀ w∈l,Fo (ev w y)≠0)->Fo (ev (I6 l) y)≠0:=by
    intro l
    induction l with
    | nil=>intro _; simp only [I6]; rw [Tt]; decide
    |
     cons w l ih =>
     intro h;simp only [I6];rw [Fj,S7];exact Jn (h w (Qw ..)) (ih λv hv=>h v (Qj _ hv))
   refine this _ (λw hw=>?_) h;have hs:=key y hxy Qq w hw;rw [hs.s]; exact hs.n
 ·rw [hval,hval,S7,S7,Qwj (y:=y) λw hw=>(key z h1 h2 w hw).s.trans (key y hxy Qq w hw).s.symm]
theorem Zmm {g p P:List Int} {c:Rat->Int} (hc:Cut c) (hg:Gc g p P):Ip (cz g) c↔Ip (cz p) c/\Ip (cz P) c:=by
 constructor
 ·intro h;obtain ⟨u,hu⟩:=hg.da;obtain ⟨v,hv⟩:=hg.db;exact ⟨Ml hc hu h,Ml hc hv h⟩
 ·rintro ⟨h1,h2⟩
  obtain ⟨U,V,hcc⟩:=hg.c;have a1:Ip (G8 U (cz p)) c:=Ml hc (p:=cz p) (q:=U) (λt=>by rw [Fj]; grind) h1;have a2:Ip (G8 V (cz P)) c:=Ml hc (p:=cz P) (q:=V) (λt=>by rw [Fj]; grind) h2;exact Qkg (λt=>by rw [Ff,hcc,Fj,Fj,Ff,Ff]) a1 a2
theorem Zd3 {p:List Int} (hp:Okp 9 900 p) {a:Tm} (ha:Va a):∃ s,Qnd p a=some s/\SgT p a s:=by
 unfold Qnd;rw [if_neg hp.nz];have ca:=ha.cut;by_cases pa:a.point=true
 ·rw [if_pos pa];exact ⟨_,rfl,Zni ca (x:=a.lo) (by rw [Q0i ha pa,Df])⟩
 rw [if_neg pa];have pa:a.point=false:=by simpa using pa
 obtain ⟨L,V⟩:=ha.iv pa;have eqa:∀ q,Fv a q=cq (cz a.p) a.lo a.hi q:=Pf V.l;obtain ⟨g,g1,g2,g3,g4⟩:=Zbd Zqa hp.t ha.tr hp.l ha.n (U8 hp.b (by omega)) (ha.bi pa) hp.nz;obtain ⟨u',hu'⟩:=g2.db;have hhas:=V.has hu' (a:=a.lo) (b:=a.hi) Qq V.l Qq;have hvan:=Zmm ca g2;rw [show cq (cz a.p) a.lo a.hi=Fv a from (funext eqa).symm] at hhas;rw [g1];show ∃ s,(if 1<g.length/\Qe5 g a.lo a.hi=true then some 0 else _)=some s/\_;by_cases hh:Qe5 g a.lo a.hi=true
 ·have hq:=(Qe6 g _ _).1 hh;rw [if_pos ⟨Qvf g2.t g2.n hq,hh⟩];exact ⟨0,rfl,.inl ⟨rfl,(hvan.1 (hhas.1 hq).1).1⟩⟩
 ·rw [if_neg λh=>hh h.2];have hnv:¬Ip (cz p) (Fv a):=λh=>hh ((Qe6 g _ _).2 (hhas.2 ⟨hvan.2 ⟨h,ha.van⟩,by rw [eqa]; exact C6 Qq,by rw [eqa]; exact V.hi1⟩))
  rcases Qcg ca (cz p) with h | ⟨s,hs0,hnz⟩
  ·exact absurd h hnv
  obtain ⟨q,o,q1,q2,hpt⟩:=Qz1 hp;obtain ⟨q',l,r1,r2,hS,hl0⟩:=chain_ok hp;rw [q1] at r1;injection r1 with r1;subst r1;rw [r2];show ∃ s,((sgF (q::l) (64+2*(Fq a.lo.num+Fq a.hi.num)+4*(a.p.length+p.length)*(Hd a.p+Hd p+(a.p.length+p.length)+8)) a).bind λx=>some (Gl p x.hi))=some s/\_;obtain ⟨w,hw⟩:=nmE (Fq a.lo.num+Fq a.hi.num);obtain ⟨K,hK⟩:=nmE (Hd a.p+Hd p+(a.p.length+p.length)+8);obtain ⟨n,hn⟩:=nmE (a.p.length+p.length);rw [<-hw,<-hK,<-hn];obtain ⟨gg,sq⟩:=hpt.sq;obtain ⟨_,_,_,_,_,pf0,pfe⟩:=S5 hp.t hp.nz;have hpq:Dvd (cz q) (cz p):=⟨Nj (Ha p) (cz gg),λt=>by rw [Ff,Ff,Ge,Ff,pfe,sq.e]; grind⟩;obtain ⟨D,M,k,h1,h2,h3⟩:=ha.hv0;have b1:=ha.qs.1.1; have b2:=ha.qs.2.1;have l1:=ha.n; have l2:=hp.l; have l3:=ha.n2;have s1:=Of (ha.bi pa); have s2:=Of hp.b;have hst:4*n*K<=4*18*1926:=Zh (by omega) (by omega);have hend:∃ u k',sgF (q::l) (64+2*w+4*n*K) a=some u/\Hv a D M k' u/\(u.point=true\/Rm (q::l) u.lo u.hi=0):=by
   by_cases Nl:p.length<2
   ·have hq1:(Fi p)=[1]:=hp.pr.1.one (by have:=hp.pr.2.1; omega);have hql:q.length<2:=by
     have e:=sq.e;rw [hq1] at e;obtain ⟨p1,p2⟩:=Tc (c:=[1]) rfl (by simp) e;have:=Mi sq.pg.t sq.pq.t (c:=[1]) rfl e p1 p2;simp at this; omega
    have hbt:Rm (q::l) a.lo a.hi=0:=by
     rw [Eu (Qp V.l),hl0 hql,sq.pq.one hql];have hv1:∀ x:Rat,ev (cz [1]) x=1:=λx=>by rw [Ff,Ny]
     simp only [Xb,Jl,vv,tc,hv1]; omega
    refine ⟨a,k,?_,h1,.inr hbt⟩;obtain ⟨m,hm⟩:∃ m,64+2*w+4*n*K=m+1:=⟨63+2*w+4*n*K,by omega⟩;rw [hm];simp only [sgF];rw [if_pos (.inr hbt)]
   ·have hg:Ss a.p p=K*(2*(n-2)-1):=by unfold Ss; rw [hK,hn]
    have hgle:Ss a.p p+5*K<=2*n*K:=by
     rw [hg,Zg K,<-Jg];exact Qx _ (by omega)
    have hKp:8<=K:=by omega
    have hnK:2*n*K<=4*n*K:=Qx _ (by omega);obtain ⟨u,k',u1,u2,u3⟩:=Zdw hp.t hp.l (by omega) hS hpq ha hnz h2 (64+2*w+4*n*K) (2+w+2*n*K) a k ((2^(w+1):Nat):Rat) (by omega) h1 (by omega) (Qh8 (by omega)) (by
     have e:(2^(w+1))*(2^(Ss a.p p+1))<=2^(2+w+2*n*K):=by
      rw [<-Xj];exact Zt (by decide) (by omega)
     have:=Zc.2 e
     push_cast at this ⊢
     exact this)
    exact ⟨u,k',u1,u2,u3⟩
  obtain ⟨u,k',u1,u2,u3⟩:=hend;rw [u1];refine ⟨_,rfl,.inr ?_⟩;have hfin:Gl p u.hi=s:=by
   rcases u2.hi' with hz | hz
   ·have:=Qwb ca hz hnz;rw [P3,<-Ff]; exact this
   ·rcases u2.i with ⟨e,_⟩ | ⟨L',V'⟩
    ·have:=u2.c u.hi;rw [As e,e,Df] at this; omega
    ·have hup:u.point=false:=by
      have:¬u.point=true:=λh=>by have:=P8.1 h; have:=V'.l; grind
      simpa using this
     rcases u3 with h | h
     ·rw [hup] at h; cases h
     ·rw [Eu (Qp V'.l)] at h;obtain ⟨s',hs',hps⟩:=Q6w hpt hp.t hp.nz hS V'.l (by omega);obtain ⟨d,dp,x,y,hx,hy,hq⟩:=hnz;have hlo1:Fv a u.lo=1:=by
       rcases u2.lo' with h | ⟨_,h⟩
       ·exact h
       ·have:=V'.l; clear hps hq; grind
      obtain ⟨m,m1,m2,m3⟩:=Qlb ca hlo1 hx;have e1:=(hq m (Qp m3) (Qp (ca.lt m1 hy))).1;have e2:=hps m m2 (Qp (ca.lt m1 hz));have e3:=hps u.hi V'.l Qq;rw [P3,e3,<-e2,<-Ff,e1]
  rw [hfin]; exact ⟨hs0,hnz⟩
structure Dp (p:List Int):Prop where
 t:Fg p
 l:p.length<=9
 b:Bd (860+4*(9-p.length)) p
theorem Qsm:Szz 9 973:=⟨by decide,by decide⟩
theorem Dp.ok {p:List Int} (h:Dp p) (h0:p.length≠0):Okp 9 900 p:=⟨Qsm,h.t,h0,h.l,U8 h.b (by omega)⟩
theorem Dp.der {p:List Int} (h:Dp p):Dp (Gj p):=by
 have hl:=Ph p;have hl2:=h.l;refine ⟨Fw _ _,by omega,?_⟩;by_cases h0:p.length=0
 ·rw [Qh (l:=Gj p) (by omega)]; exact Qa9
 ·exact U8 (Qqw h.b (by omega)) (by omega)
def Hk (a:Tm) (p:List Int):Int:=(Qnd p a).getD 0
theorem Zdu {p:List Int} (h:Dp p) {a:Tm} (ha:Va a):Qnd p a=some (Hk a p)/\SgT p a (Hk a p):=by
 by_cases h0:p.length=0
 ·have e:p=[]:=Qh h0;subst e;refine ⟨rfl,.inl ⟨rfl,λd dp=>?_⟩⟩;obtain ⟨x,y,h1,h2,_⟩:=ha.cut.near (e:=1) (by decide);exact ⟨x,y,h1,h2,λq _ _=>by simp only [cz,Jl,ev,Rx]; exact dp⟩
 ·obtain ⟨s,h1,h2⟩:=Zd3 (h.ok h0) ha;have e:Hk a p=s:=by unfold Hk; rw [h1]; rfl
  rw [e]; exact ⟨h1,h2⟩
theorem Znf {c:Rat->Int} {p q:List Rat} {s:Int} (h:∀ t,ev p t=ev q t) (hp:RS p c s):RS q c s:=by
 obtain ⟨y,h1,h2⟩:=hp;exact ⟨y,h1,λz h3 h4=>by rw [<-h]; exact h2 z h3 h4⟩
theorem Qpa {a:Tm} (ha:Va a):∀ (k:Nat) (p:List Int),Dp p->p.length<=k->p.length≠0->RS (cz p) (Fv a) (Py (Hk a) k p)/\Py (Hk a) k p≠0
 | 0,p,_,h1,h2=>by omega
 |
  k+1,p,h,h1,h2=>by
  simp only [Py];rw [if_neg h2];obtain ⟨_,hs⟩:=Zdu h ha;rcases hs with ⟨e,hv⟩ | ⟨e,hn⟩
  ·rw [if_pos e];have hdn:(Gj p).length≠0:=λh0=>by
    by_cases h3:p.length=1
    ·obtain ⟨c,rfl⟩:∃ c,p=[c]:=Wl.1 h3;have hc:c≠0:=by have:=Hr h.t (by simp); simpa using this
     obtain ⟨q,hq,_⟩:=Qv7 ha.cut (hv (Fp (c:Rat)) (Cu (Qad hc)));rw [Ff] at hq;have:Fe [c] q=(c:Rat):=by simp only [Fe]; grind
     rw [this] at hq; grind
    ·have h4:=P7 p (p.length-2);rw [Qh h0,show p.length-2+1=p.length-1 by omega] at h4;have h5:p.getD (p.length-1) 0≠0:=Hr h.t (by omega);rcases Yq.1 (h4.symm.trans (by simp)) with h6 | h6
     ·exact h5 h6
     ·omega
   have hl:=Ph p;obtain ⟨i1,i2⟩:=Qpa ha k (Gj p) h.der (by omega) hdn;exact ⟨Qs8 ha.cut hv (Znf (λt=>by rw [Ff,Ac,Tp]) i1) i2,i2⟩
  ·rw [if_neg e]; exact ⟨Qp8 ha.cut hn,e⟩
theorem Qac {a:Tm} (ha:Va a) {p:List Int} (h:Dp p) (h0:p.length≠0):RS (cz p) (Fv a) (Tg (Hk a) p)/\Tg (Hk a) p≠0:=Qpa ha _ p h (Ql _) h0
theorem Ql3 {a:Tm}:Tg (Hk a) []=0:=rfl
theorem Zhz {l:List Int}:∀ z∈l,z.natAbs≤most l:=by
 have key:∀ (l:List Int) (m:Nat),m≤l.foldl (λm z=>if m<z.natAbs then z.natAbs else m) m/\∀ z∈l,z.natAbs≤l.foldl (λm z=>if m<z.natAbs then z.natAbs else m) m:=by
  intro l
  induction l with
  | nil=>exact λm=>⟨Ql _,λz hz=>by cases hz⟩
  |
   cons y l ih =>
   intro m;obtain ⟨e,he⟩:=nmE (if m<y.natAbs then y.natAbs else m);have h1:m<=e/\y.natAbs<=e:=by rw [he]; split <;> omega
   obtain ⟨i1,i2⟩:=ih e;simp only [Xg];rw [<-he];refine ⟨by omega,λz hz=>?_⟩;rcases Qm.1 hz with rfl | hz
   ·omega
   ·exact i2 z hz
 exact (key l 0).2
theorem Qkp {p:List Int} (h:Fu p≠0):Hb p*((Fu p).natAbs:Rat)=((Fu p).natAbs:Rat)+((most (p.take (p.length-1)):Nat):Rat):=by
 unfold Hb;rw [<-Hx];have hp:0<(Fu p).natAbs:=by omega
 have:=nat_pos hp;rw [show ((((Fu p).natAbs:Int)):Rat)=((Fu p).natAbs:Rat) from rfl,Gx this];rw [Wa]; rfl
theorem Q3a {m:Nat} {x:Rat} (hx:1≤Fp x):∀ (p:List Int) (lp:p.length≠0),(∀ z∈p.take (p.length-1),z.natAbs≤m)->Fu p≠0->(m:Rat)≤(Fp x-1)*((Fu p).natAbs:Rat)->((Fu p).natAbs:Rat)≤Fe p x*(((Int.sign (Fu p))*(if x<0/\p.length % 2=0 then -1 else 1):Int):Rat)
 | [],lp,_,_,_=>absurd rfl lp
 |
  [c],_,_,hc,_=>by
  have hl:Fu [c]=c:=rfl;rw [hl] at hc ⊢;rw [if_neg (by simp),Uc];have h1:Fe [c] x=(c:Rat):=by simp only [Fe]; grind
  rw [h1];have h2:c*Int.sign c=(c.natAbs:Int):=Int.mul_sign_self c;have:=congrArg (λz:Int=>(z:Rat)) h2;rw [Xz] at this;rw [this]; exact Qq
 |
  c::d::p,_,hm,hc,hb=>by
  have hl:Fu (c::d::p)=Fu (d::p):=by unfold Fu; simp [List.getD_cons_succ]
  have ih:=Q3a hx (d::p) (by simp) (λz hz=>hm z (by
   have e:(c::d::p).take ((c::d::p).length-1)=c::(d::p).take ((d::p).length-1):=by simp
   rw [e]; exact Qj _ hz)) (by rw [<-hl]; exact hc) (by rw [<-hl]; exact hb)
  rw [hl] at hc hb ⊢;have hcm:=hm c (by simp);obtain ⟨s,hs⟩:∃ s:Int,s=Int.sign (Fu (d::p)):=⟨_,rfl⟩;have hsv:s=1\/s=-1:=by
   rw [hs];rcases Wb hc with h | h
   ·exact .inr (X4 h)
   ·exact .inl (Jd h)
  rw [<-hs] at ih ⊢;obtain ⟨ld,hld⟩:∃ ld:Rat,ld=((Fu (d::p)).natAbs:Rat):=⟨_,rfl⟩;rw [<-hld] at ih hb ⊢;have hcq:Fp (c:Rat)<=(m:Rat):=by rw [S9]; exact Zc.2 hcm
  rw [Sw] at hcq;have e1:Fe (c::d::p) x=(c:Rat)+x*Fe (d::p) x:=rfl;rw [e1];have hlen:(c::d::p).length % 2=0↔¬(d::p).length % 2=0:=by simp only [Q7]; omega
  generalize Fe (d::p) x=y at *;generalize (m:Rat)=mm at *;generalize (c:Rat)=cc at *;have hx0:=hx;by_cases hneg:x<0
  ·have hq:Fp x=-x:=by unfold Fp; rw [if_pos hneg]
   rw [hq] at hx0 hb;by_cases hpar:(d::p).length % 2=0
   ·rw [if_pos ⟨hneg,hpar⟩] at ih;rw [if_neg λh=>(hlen.1 h.2) hpar];rcases hsv with rfl | rfl
    ·have ih:ld<=y*(-1):=by simpa using ih
     have:=Zs ih (show 0<=-x by grind);have e:(((1:Int)*1:Int):Rat)=1:=rfl;rw [e]; grind
    ·have ih:ld<=y*1:=by simpa using ih
     have:=Zs ih (show 0<=-x by grind);have e:(((-1:Int)*1:Int):Rat)=-1:=rfl;rw [e]; grind
   ·rw [if_neg λh=>hpar h.2] at ih;rw [if_pos ⟨hneg,hlen.2 hpar⟩];rcases hsv with rfl | rfl
    ·have ih:ld<=y*1:=by simpa using ih
     have:=Zs ih (show 0<=-x by grind);have e:(((1:Int)*-1:Int):Rat)=-1:=rfl;rw [e]; grind
    ·have ih:ld<=y*(-1):=by simpa using ih
     have:=Zs ih (show 0<=-x by grind);have e:(((-1:Int)*-1:Int):Rat)=1:=rfl;rw [e]; grind
  ·have hq:Fp x=x:=by unfold Fp; rw [if_neg hneg]
   rw [hq] at hx0 hb;rw [if_neg λh=>hneg h.1] at ih ⊢;rcases hsv with rfl | rfl
   ·have ih:ld<=y*1:=by simpa using ih
    have:=Zs ih (show 0<=x by grind);have e:(((1:Int)*1:Int):Rat)=1:=rfl;rw [e]; grind
   ·have ih:ld<=y*(-1):=by simpa using ih
    have:=Zs ih (show 0<=x by grind);have e:(((-1:Int)*1:Int):Rat)=-1:=rfl;rw [e]; grind
theorem Qx6 {p:List Int} (tp:Fg p) (lp:p.length≠0) {x:Rat} (hx:Hb p<=Fp x):1<=Fp (Fe p x)/\(0<=x->Gl p x=Qe0 p)/\(x<0->Gl p x=Qa2 p):=by
 have hl:=Dz tp lp;have hpos:0<(Fu p).natAbs:=by omega
 have h1:(1:Rat)<=((Fu p).natAbs:Rat):=by
  have:((1:Nat):Rat)<=((Fu p).natAbs:Rat):=Zc.2 hpos;exact this
 have hm0:(0:Rat)<=((most (p.take (p.length-1)):Nat):Rat):=Xo;have hb:=Qkp hl;have hx1:=Q5 hx (show (0:Rat)<=((Fu p).natAbs:Rat) by grind);have hx2:1<=Fp x:=by
  rcases Gg 1 (Fp x) with h | h
  ·exact h
  ·exfalso;have:=Kk h (show (0:Rat)<((Fu p).natAbs:Rat) by grind);grind
 have key:=Q3a (m:=most (p.take (p.length-1))) hx2 p lp (λz hz=>Zhz z hz) hl (by grind);obtain ⟨s,hs⟩:∃ s:Int,s=Int.sign (Fu p)*(if x<0/\p.length % 2=0 then -1 else 1):=⟨_,rfl⟩;rw [<-hs] at key;have hsv:s=1\/s=-1:=by
  rw [hs];rcases Wb hl with h | h
  ·rw [X4 h]; split <;> simp
  ·rw [Jd h]; split <;> simp
 have hsg:Gl p x=s/\1<=Fp (Fe p x):=by
  rw [P3];rcases hsv with e | e
  ·rw [e] at key ⊢;have key:((Fu p).natAbs:Rat)<=Fe p x:=by simpa using key
   exact ⟨Ry.2 (by grind),by unfold Fp; rw [if_neg (by grind)]; grind⟩
  ·rw [e] at key ⊢;have key:((Fu p).natAbs:Rat)<=Fe p x*(-1):=by simpa using key
   exact ⟨Pm.2 (by grind),by unfold Fp; rw [if_pos (by grind)]; grind⟩
 refine ⟨hsg.2,λh=>?_,λh=>?_⟩
 ·rw [hsg.1,hs,if_neg λh'=>by have:=h'.1; grind]; unfold Qe0; omega
 ·rw [hsg.1,hs]; unfold Qa2;by_cases he:p.length % 2=0
  ·rw [if_pos ⟨h,he⟩,if_pos he]; omega
  ·rw [if_neg λh'=>he h'.2,if_neg he]; omega
theorem Qce {f g:List Int->Int}:∀ {l:List (List Int)} (s:Nat×Int),(∀ p∈l,f p=g p)->l.foldl (Ts f) s=l.foldl (Ts g) s
 | [],s,_=>rfl
 |
  p::l,s,h=>by
  simp only [Xg];have e:Ts f s p=Ts g s p:=by unfold Ts; rw [h p (List.mem_cons_self ..)]
  rw [e]; exact Qce _ λq hq=>h q (Qj _ hq)
theorem Q26:∀ (l:List (List Int)),(∀ p∈l,Fg p/\p.length≠0)->∃ X:Rat,0<X/\∀ x,X≤x->(∀ p∈l,Gl p x=Qe0 p)/\∀ p∈l,Gl p (-x)=Qa2 p
 | [],_=>⟨1,by decide,λx _=>⟨(λp hp=>by cases hp),(λp hp=>by cases hp)⟩⟩
 |
  p::l,h=>by
  obtain ⟨X,hX,hl⟩:=Q26 l λq hq=>h q (Qj _ hq)
  obtain ⟨tp,lp⟩:=h p (Qw ..);refine ⟨X+Fp (Hb p),by have:=H7 (Hb p); grind,λx hx=>?_⟩;have hb0:=H7 (Hb p);have hb1:Hb p<=Fp (Hb p):=by unfold Fp; split <;> grind
  obtain ⟨l1,l2⟩:=hl x (by grind);have e1:Fp x=x:=by unfold Fp; rw [if_neg (by grind)]
  have e2:Fp (-x)=x:=by rw [Ee,e1]
  refine ⟨λq hq=>?_,λq hq=>?_⟩
  ·rcases Qm.1 hq with rfl | hq
   ·exact (Qx6 tp lp (x:=x) (by rw [e1]; grind)).2.1 (by grind)
   ·exact l1 q hq
  ·rcases Qm.1 hq with rfl | hq
   ·exact (Qx6 tp lp (x:=-x) (by rw [e2]; grind)).2.2 (by grind)
   ·exact l2 q hq
theorem Q1g {q:List Int} {L:List (List Rat)} (hS:Stm (cz q) L) (tq:Fg q) (lq:q.length≠0) {x y:Rat} (hxy:x<y) (h:Hb q<=x\/y<=-Hb q) (hb:0<Hb q):vv L x=vv L y:=by
 rcases Classical.em (vv L x=vv L y) with e | e
 ·exact e
 ·exfalso;obtain ⟨r,r1,r2,r3⟩:=Qtl hS hxy e (d:=1) (by decide);have:=(Qx6 tq lq (x:=r) (by rcases h with h | h <;> (unfold Fp; split <;> grind))).1;rw [Ff] at r3; grind
theorem Qgp {p:List Int} (h:Fu p≠0):1<=Hb p:=by
 have hb:=Qkp h;have hp:=nat_pos (show 0<(Fu p).natAbs by omega);have hm0:(0:Rat)<=((most (p.take (p.length-1)):Nat):Rat):=Xo;rcases Gg 1 (Hb p) with h' | h'
 ·exact h'
 ·have:=Kk h' hp; grind
theorem Q67 {q:List Int} {l:List (List Int)} (hS:Stm (cz q) ((q::l).map cz)) (hl:∀ p∈q::l,Fg p/\p.length≠0):Qca (q::l)=(vv ((q::l).map cz) (-Hb q):Int)-(vv ((q::l).map cz) (Hb q):Int):=by
 obtain ⟨tq,lq⟩:=hl q (Qw ..);have hb:=Qgp (Dz tq lq);obtain ⟨X,hX,hx⟩:=Q26 (q::l) hl;obtain ⟨h1,h2⟩:=hx (X+Hb q) (by grind);have e1:Nt Qe0 (q::l)=vv ((q::l).map cz) (X+Hb q):=by
  rw [<-Qap]; unfold Mk Nt;rw [Qce (f:=Qe0) (g:=λp=>Gl p (X+Hb q)) (0,0) λp hp=>(h1 p hp).symm]
 have e2:Nt Qa2 (q::l)=vv ((q::l).map cz) (-(X+Hb q)):=by
  rw [<-Qap]; unfold Mk Nt;rw [Qce (f:=Qa2) (g:=λp=>Gl p (-(X+Hb q))) (0,0) λp hp=>(h2 p hp).symm]
 unfold Qca;rw [e1,e2,Q1g hS tq lq (x:=-(X+Hb q)) (y:=-Hb q) (by grind) (.inr Qq) (by grind),<-Q1g hS tq lq (x:=Hb q) (y:=X+Hb q) (by grind) (.inl Qq) (by grind)]
theorem Zm0 {f:List Rat} {L:List (List Rat)} (hS:Stm f L) {x y:Rat} (hxy:x<y) (hv:vv L y+2<=vv L x):∃ m,x<m/\m<y/\vv L m<vv L x/\vv L y<vv L m/\ev f m≠0:=by
 obtain ⟨R,hR,hx,hy⟩:=Qqt x y;obtain ⟨e,ep,he⟩:=Zew hS R hR;have key:∀ n:Nat,∀ x,Fp x<=R->x<y->vv L y+2<=vv L x->y-x<=(n:Rat)*e->∃ m,x<m/\m<y/\vv L m<vv L x/\vv L y<vv L m:=by
  intro n
  induction n with
  | zero=>intro x _ hxy _ hn; rw [show ((0:Nat):Rat)=0 from rfl] at hn; exfalso; clear he; grind
  |
   succ n ih =>
   intro x hx hxy hv hn;have hn':(((n+1:Nat):Rat))=(n:Rat)+1:=by push_cast; rfl
   rw [hn'] at hn;rcases Gg (y-x) e with h1 | h1
   ·have:=he x y hx hy hxy h1; omega
   ·have hm:Fp (x+e)<=R:=Qe8 hx hy (by clear he ih; grind) (by clear he ih; grind);have h2:=he x (x+e) hx hm (by clear he ih; grind) (by clear he ih; grind);have h3:=Ak hS (show x<x+e by clear he ih; grind);by_cases h4:vv L x=vv L (x+e)
    ·obtain ⟨m,m1,m2,m3,m4⟩:=ih (x+e) hm (by clear he ih; grind) (by omega) (by clear he ih; grind);exact ⟨m,by clear he ih; grind,m2,by omega,m4⟩
    ·exact ⟨x+e,by clear he ih; grind,by clear he ih; grind,by omega,by omega⟩
 obtain ⟨n,hn⟩:=Qa8 (z:=y-x) ep;obtain ⟨m,m1,m2,m3,m4⟩:=key n x hx hxy hv hn;rcases Classical.em (ev f m=0) with h0 | h0
 ·-- a little farther on
  obtain ⟨e2,e2p,hl⟩:=loc hR hS (w:=f) (u:=[1]) (λt=>by rw [Tt]; grind);obtain ⟨d,dp,d1,d2⟩:=min2 (a:=e2) (b:=(y-m) / 2) e2p (Di (by clear he key hl; grind) (by decide));have h2:(y-m) / 2*2=y-m:=Gx (by decide);have hmR:Fp m<=R:=Qe8 hx hy (Qp m1) (Qp m2);have hmR2:Fp (m+d)<=R:=Qe8 hx hy (by clear he key hl; grind) (by clear he key hl; grind);rcases hl m (m+d) hmR hmR2 (by clear he key hl; grind) (by clear he key hl; grind) with ⟨p1,p2,_⟩ | ⟨_,p1,_,p3,_⟩
  ·refine ⟨m+d,by clear he key hl; grind,by clear he key hl; grind,by omega,by omega,λh'=>?_⟩;have:=p2.s;rw [Gk.2 h'] at this; exact p2.n this.symm
  ·rw [Gk.2 h0] at p3; exact absurd p3.symm p1
 ·exact ⟨m,m1,m2,m3,m4,h0⟩
theorem Zjo {q:List Int} {L:List (List Rat)} (hS:Stm (cz q) L) (tq:Fg q) (nq:q.length<=9) (lq:2<=q.length) {lo hi:Rat} (hl:lo<hi) (hv:vv L hi+2<=vv L lo):1<(hi-lo)*((2^(Ss q q+1):Nat):Rat):=by
 rcases Gg ((hi-lo)*((2^(Ss q q+1):Nat):Rat)) 1 with hw | hw
 ·exfalso;have hpow:(0:Rat)<=((2^(Ss q q+1):Nat):Rat):=Xo;obtain ⟨m,m1,m2,m3,m4,m0⟩:=Zm0 hS hl hv;obtain ⟨R,hR,r1,r2⟩:=Qqt lo hi;have hd:=Cu m0;obtain ⟨d,dp,_,db⟩:=Hj (b:=dqB R (cz q)) (d:=Fp (ev (cz q) m) / 2) (Mr hR _) (Di hd (by decide));have hd2:Fp (ev (cz q) m) / 2*2=Fp (ev (cz q) m):=Gx (by decide);have hmR:Fp m<=R:=Qe8 r1 r2 (Qp m1) (Qp m2);have hnear:∀ r,Fp r<=R->Fp (ev (cz q) r)<Fp (ev (cz q) m) / 2->d<Fp (r-m):=λr hr hs=>by
   rcases Gg (Fp (r-m)) d with h | h
   ·exfalso;have h1:=Mt (p:=cz q) hmR hr hR h db;have h2:=S6 (ev (cz q) m-ev (cz q) r) (ev (cz q) r);rw [show ev (cz q) m-ev (cz q) r+ev (cz q) r=ev (cz q) m by grind,Q4l] at h2;grind
   ·exact h
  refine Za4 (R:=R+1) (d:=d+d) tq tq nq nq lq lq (by grind) (by grind) λe ep=>?_
  obtain ⟨e',ep',e1,e2⟩:=min2 (a:=e) (b:=Fp (ev (cz q) m) / 2) ep (Di hd (by decide));obtain ⟨x,x1,x2,x3⟩:=Qtl hS m1 (by omega) ep';obtain ⟨y,y1,y2,y3⟩:=Qtl hS m2 (by omega) ep';have hxR:Fp x<=R:=Qe8 r1 r2 x1 (by grind);have hyR:Fp y<=R:=Qe8 r1 r2 (by grind) y2;have nx:=hnear x hxR (by grind);have ny:=hnear y hyR (by grind);have ex:Fp (x-m)=m-x:=by unfold Fp; split <;> grind
  have ey:Fp (y-m)=y-m:=by unfold Fp; split <;> grind
  rw [ex] at nx;rw [ey] at ny;have exy:Fp (x-y)=y-x:=by unfold Fp; split <;> grind
  refine ⟨x,y,by grind,by grind,by rw [exy]; grind,?_,by rw [<-Ff]; grind,by rw [<-Ff]; grind⟩;rw [exy];exact Za (Q5 (show y-x<=hi-lo by grind) hpow) hw
 ·exact hw
theorem Q93:∀ {k:Nat} {a b:List Int} {l:List (List Int)},chF k a b=some l->∀ p∈l,p.length≠0
 | 0,_,_,_,h=>by cases h
 |
  k+1,a,b,l,h=>by
  simp only [chF] at h
  split at h
  ·injection h with h; subst h; exact λp hp=>by cases hp
  ·rename_i h0;obtain ⟨r,_,h⟩:=Qg.1 h;obtain ⟨l',h1,h⟩:=Qg.1 h;injection h with h; subst h;intro p hp;rcases Qm.1 hp with rfl | hp
   ·exact h0
   ·exact Q93 h1 p hp
theorem Okp.pb {n s:Nat} {p:List Int} (h:Okp n s p) (hs:s<=16777216):Pb p:=⟨h.t,by have:=h.l; have:=h.z.1; omega,U8 h.b hs⟩
theorem Q5v {p:List Int} {q:List Int} {l:List (List Int)} (hp:Pb p) (h:chain p=some (q::l)) (hq:q.length≠0):∀ r∈q::l,Fg r/\r.length≠0:=by
 have h1:=(Orr.chain_ok hp h).2;unfold chain at h;obtain ⟨a,_,h⟩:=Qg.1 h
 split at h
 ·cases h
 ·obtain ⟨d,_,h⟩:=Qg.1 h;obtain ⟨l',h3,h⟩:=Qg.1 h;injection h with h;injection h with e1 e2;subst e1; subst e2;intro r hr;refine ⟨(h1 r hr).t,?_⟩;rcases Qm.1 hr with rfl | hr
  ·exact hq
  ·exact Q93 h3 r hr
inductive RI (q:List Int) (L:List (List Rat)):Rat->List Tm->Rat->Prop
 | nil {lo hi:Rat} (h:lo<=hi) (hv:vv L lo=vv L hi):RI q L lo [] hi
 | cons {lo hi:Rat} {t:Tm} {l:List Tm} (h:lo<=t.lo) (hv:vv L lo=vv L t.lo) (ht:Vt (cz q) L t.lo t.hi) (hp:t.p=q) (hl:RI q L t.hi l hi):RI q L lo (t::l) hi
theorem RI.app {q:List Int} {L:List (List Rat)} {lo m hi:Rat} {l l':List Tm} (h:RI q L lo l m) (h':RI q L m l' hi):RI q L lo (l++l') hi:=by
 induction h with
 |
  nil h hv =>
  cases h' with
  | nil h2 hv2=>exact .nil (by grind) (by omega)
  | cons h2 hv2 ht hp hl=>exact .cons (by grind) (by omega) ht hp hl
 | cons h hv ht hp _ ih=>exact .cons h hv ht hp (ih h')
theorem Q96 {D M k:Nat} {m:Rat} (h:Gr D M k m) (hM:0<M) (hs:Fq (D:Int)+Fq (M:Int)+k<=16777216):chq m=some m:=by
 have:=Qpb h hM hs;unfold chq;rw [if_pos ⟨this.1,this.2⟩]
theorem Qj6 {q:List Int} {c:List (List Int)} (hS:Stm (cz q) (c.map cz)) (tq:Fg q) (nq:q.length<=9) (hc1:q.length<2->c=[q]) {D M F:Nat} (hM:0<M):∀ (k j:Nat) (lo hi:Rat),lo<hi->Gr D M j lo->Gr D M j hi->Fq (D:Int)+Fq (M:Int)+(j+k)<=16777216->(hi-lo)*((2^(Ss q q+1):Nat):Rat)<=((2^k:Nat):Rat) ->
 ∃ l,Ae q c (F+k+1) lo hi ((vv (c.map cz) lo:Int)-(vv (c.map cz) hi:Int))=some l/\RI q (c.map cz) lo l hi/\∀ t∈l,∃ k',k'≤j+k/\Gr D M k' t.lo/\Gr D M k' t.hi:=by
 intro k
 induction k with
 |
  zero =>
  intro j lo hi hl g1 g2 hs hK;have hle:=Ak hS hl;have h2:vv (c.map cz) lo<vv (c.map cz) hi+2:=by
   rcases Q9 (vv (c.map cz) lo) (vv (c.map cz) hi+2) with h | h
   ·exact h
   ·exfalso;have lq:2<=q.length:=by
     rcases Q9 q.length 2 with e | e
     ·have hvv:∀ x,vv (c.map cz) x=vv (c.map cz) 0:=λx=>by
       rcases hS with ⟨c0,hc0,hcc,hl'⟩ | ⟨g',l',k',hk,hg,hsc,hl'⟩
       ·rw [hl']; simp only [vv,tc,hcc]
       ·rw [hc1 e] at hl'; cases hl'
      rw [hvv lo,hvv hi] at h; omega
     ·exact e
    have:=Zjo hS tq nq lq hl h;rw [Vm] at hK;have h7:((1:Nat):Rat)=1:=rfl;rw [h7] at hK; grind
  simp only [Ae];by_cases e0:vv (c.map cz) lo=vv (c.map cz) hi
  ·rw [if_pos (by omega)];exact ⟨[],rfl,.nil (Qp hl) e0,λt ht=>by cases ht⟩
  ·rw [if_neg (by omega),if_pos (by omega)];refine ⟨[⟨q,lo,hi⟩],rfl,.cons Qq rfl ⟨hS,hl,by show vv _ lo=vv _ hi+1; omega⟩ rfl (.nil Qq rfl),λt ht=>?_⟩;rw [Qk.1 ht]; exact ⟨j,by omega,g1,g2⟩
 |
  succ k ih =>
  intro j lo hi hl g1 g2 hs hK;have hle:=Ak hS hl;show ∃ l,(if (vv (c.map cz) lo:Int)-(vv (c.map cz) hi:Int)=0 then some [] else if (vv (c.map cz) lo:Int)-(vv (c.map cz) hi:Int)=1 then some [⟨q,lo,hi⟩] else (chq (mid lo hi)).bind λm=>(Ae q c (F+k+1) lo m (Rm c lo m)).bind λl=>(Ae q c (F+k+1) m hi ((vv (c.map cz) lo:Int)-(vv (c.map cz) hi:Int)-Rm c lo m)).bind λr=>some (l++r))=some l/\_;by_cases e0:vv (c.map cz) lo=vv (c.map cz) hi
  ·rw [if_pos (by omega)];exact ⟨[],rfl,.nil (Qp hl) e0,λt ht=>by cases ht⟩
  by_cases e1:vv (c.map cz) lo=vv (c.map cz) hi+1
  ·rw [if_neg (by omega),if_pos (by omega)];refine ⟨[⟨q,lo,hi⟩],rfl,.cons Qq rfl ⟨hS,hl,e1⟩ rfl (.nil Qq rfl),λt ht=>?_⟩;rw [Qk.1 ht]; exact ⟨j,by omega,g1,g2⟩
  ·rw [if_neg (by omega),if_neg (by omega)];obtain ⟨m,hm⟩:=nmE ((lo+hi) / 2);have h2:(lo+hi) / 2*2=lo+hi:=Gx (by decide);rw [<-hm] at h2;have gm:Gr D M (j+1) m:=by rw [hm]; exact Qzk g1 g2
   have l1:lo<m:=by grind
   have l2:m<hi:=by grind
   rw [Qd7,<-hm,Q96 gm hM (by omega)];show ∃ l,((Ae q c (F+k+1) lo m (Rm c lo m)).bind λl=>(Ae q c (F+k+1) m hi ((vv (c.map cz) lo:Int)-(vv (c.map cz) hi:Int)-Rm c lo m)).bind λr=>some (l++r))=some l/\_;rw [Eu (Qp l1),show (vv (c.map cz) lo:Int)-(vv (c.map cz) hi:Int)-((vv (c.map cz) lo:Int)-(vv (c.map cz) m:Int))=(vv (c.map cz) m:Int)-(vv (c.map cz) hi:Int) by omega];rw [Qpw k] at hK;have hp:∀ x y:Rat,(y-x)*2=hi-lo->(y-x)*((2^(Ss q q+1):Nat):Rat)<=((2^k:Nat):Rat):=λx y h=>by
    have:(y-x)*((2^(Ss q q+1):Nat):Rat)*2=(hi-lo)*((2^(Ss q q+1):Nat):Rat):=by rw [<-h]; grind
    grind
   obtain ⟨la,a1,a2,a3⟩:=ih (j+1) lo m l1 (Qin g1) gm (by omega) (hp lo m (by grind));obtain ⟨lb,b1,b2,b3⟩:=ih (j+1) m hi l2 gm (Qin g2) (by omega) (hp m hi (by grind));rw [a1];show ∃ l,((Ae q c (F+k+1) m hi ((vv (c.map cz) m:Int)-(vv (c.map cz) hi:Int))).bind λr=>some (la++r))=some l/\_;rw [b1];refine ⟨la++lb,rfl,a2.app b2,λt ht=>?_⟩;rcases Qu.1 ht with ht | ht
   ·obtain ⟨k',h1,h2,h3⟩:=a3 t ht; exact ⟨k',by omega,h2,h3⟩
   ·obtain ⟨k',h1,h2,h3⟩:=b3 t ht; exact ⟨k',by omega,h2,h3⟩
theorem Zmq {D M k:Nat} {q:Rat} (h:Gr D M k q):Gr D M k (-q):=by
 obtain ⟨u,hu⟩:=h.u;exact ⟨⟨-u,by rw [V0,<-hu]; grind⟩,by rw [Ee]; exact h.b,h.d⟩
theorem Qvo {m s:Nat} (h:m<2^s):Fq ((m+1:Nat):Int)<=s+1:=by
 rw [Sl,Xc,Zr]; omega
theorem Q6j {z:Int} {s:Nat} (h:Fq z<=s):Fq ((z.natAbs+1:Nat):Int)<=s+1:=Qvo (Sl.1 h)
theorem Zjd {x:Rat} {m s g N:Nat} (hx:x<=2*((m+1:Nat):Rat)) (hm:m+1<=2^s) (hN:s+1+g<=N):x*((2^g:Nat):Rat)<=((2^N:Nat):Rat):=by
 have h3:=Zc.2 hm;have e:=Qpw s;have h4:(0:Rat)<=((2^s:Nat):Rat):=Xo;have h1:x<=((2^(s+1):Nat):Rat):=by rw [e]; grind
 have h5:(0:Rat)<=((2^g:Nat):Rat):=Xo;refine Za (Q5 h1 h5) ?_;have h6:2^(s+1)*2^g<=2^N:=by
  rw [<-Xj]; exact Zt (by decide) hN
 have:=Zc.2 h6;rw [Rat.natCast_mul] at this;exact this
theorem Zfr {s:Nat} {l:List Int} (h:Bd s l):most l<2^s:=by
 have key:∀ (l:List Int) (m:Nat),m<2^s->Bd s l->l.foldl (λm z=>if m<z.natAbs then z.natAbs else m) m<2^s:=by
  intro l
  induction l with
  | nil=>exact λm h _=>h
  |
   cons y l ih =>
   intro m hm hb;simp only [Xg];refine ih _ ?_ λz hz=>hb z (Qj _ hz)
   have:=hb y (Qw ..);rw [Sl] at this
   split <;> assumption
 exact key l 0 (Z9 (by decide)) h
theorem Zl3 {p q:List Int} (h:chk p=some q):q=p:=by
 unfold chk at h
 split at h
 ·injection h with h; exact h.symm
 ·cases h
theorem Qw6 {s:Nat} {p:List Int} (hs9:s≤900) (h:Okp 9 s p):∃ q c l,Mj p=some q/\chain p=some c/\Qm5 p=some l/\Stm (cz q) (c.map cz)/\RI q (c.map cz) (-Hb q) l (Hb q)/\(∀ t∈l,Va t)/\(∀ x y,x<y->Hb q≤x\/y≤-Hb q->vv (c.map cz) x=vv (c.map cz) y)/\q.length≤p.length/\∀ t∈l,t.p=q/\t.lo<t.hi/\Bd (s+69) q/\∃ D M k,Gr D M k t.lo/\Gr D M k t.hi/\0<M/\Fq (D:Int)≤s+69/\Fq (M:Int)≤s+70/\k≤63*s+5160:=by
 obtain ⟨pp,Nl,hpb⟩:=h.pr;obtain ⟨g,q',hq',sq⟩:=Qc6 h;obtain ⟨q,l,q1,q2,hS,hl0⟩:=chain_ok h;rw [hq'] at q1;injection q1 with q1;subst q1;have e1:∀ t,Fe (Fi p) t=Fe q' t*Fe g t:=λt=>by rw [sq.e]; grind
 obtain ⟨p1,p2⟩:=Tc pp.t pp.n e1;have hch:chF 66 q' (Fi (Gj q'))=some l:=by
  have h2:=q2;unfold chain at h2;rw [hq'] at h2;simp only [Jh] at h2
  split at h2
  ·cases h2
  ·cases hd:chk (Gj q') with
   | none=>rw [hd] at h2; cases h2
   |
    some d =>
    rw [hd] at h2;simp only [Jh] at h2;obtain rfl:d=Gj q':=Zl3 hd;cases hc:chF 66 q' (Fi (Gj q')) with
    | none=>rw [hc] at h2; cases h2
    | some l'=>rw [hc] at h2; simp at h2; rw [h2]
 have hll:=Mi sq.pq.t sq.pg.t pp.t e1 p1 p2;have hl9:=h.l;have bq:Bd (s+69) q':=O8 hpb (by omega) pp.t sq.pq.t sq.pg.t pp.n e1;have hall:=Q5v (h.pb (by omega)) q2 sq.pq.n;have hld:Fu q'≠0:=by have:=sq.pq.l; omega
 have hb1:=Qgp hld;obtain ⟨D,hD⟩:=nmE ((Fu q').natAbs);obtain ⟨m,hm⟩:=nmE (most (q'.take (q'.length-1)));have hm2:m<2^(s+69):=by rw [hm]; exact Zfr (s:=s+69) λz hz=>bq z (Qn hz)
 have hD0:0<D:=by omega
 have hDs:Fq (D:Int)<=s+69:=by
  have:=Nm bq;rw [Sl] at this ⊢;rw [Xc,hD]; exact this
 have hbe:=Qkp hld;rw [<-hD,<-hm] at hbe;have hDq:=nat_pos hD0;have hbm:Hb q'<=((m+1:Nat):Rat):=by
  have hD1:(1:Rat)<=(D:Rat):=by
   have:((1:Nat):Rat)<=(D:Rat):=Zc.2 hD0;exact this
  have hm0:(0:Rat)<=(m:Rat):=Xo;have h3:=Mw (a:=(m:Rat)) (c:=1) hm0 Qq (by decide) hD1;rcases Gg (Hb q') ((m+1:Nat):Rat) with h' | h'
  ·exact h'
  ·exfalso;have:=Kk h' hDq
   push_cast at this; grind
 have gb:Gr D (m+1) 0 (Hb q'):=by
  refine ⟨⟨(D+m:Nat),?_⟩,?_,hD0⟩
  ·rw [Vm,Y6,hbe];rw [show ((((D+m:Nat):Int)):Rat)=((D+m:Nat):Rat) from rfl]; push_cast; rfl
  ·have:Fp (Hb q')=Hb q':=by unfold Fp; rw [if_neg (by grind)]
   rw [this]; exact hbm
 have hMs:Fq ((m+1:Nat):Int)<=s+69+1:=Qvo (s:=s+69) hm2;have hK:(Hb q' - -Hb q')*((2^(Ss q' q'+1):Nat):Rat)<=((2^(63*s+5160):Nat):Rat):=by
  have hps:=Of bq;have hg:Ss q' q'<=(2*s+164)*31:=by
   unfold Ss;exact Zh (by omega) (by omega)
  exact Zjd (s:=s+69) (g:=Ss q' q'+1) (N:=63*s+5160) (by grind) hm2 (by omega)
 have hN:Fq (D:Int)+Fq ((m+1:Nat):Int)+(0+(63*s+5160))<=16777216:=by omega
 obtain ⟨ls,r1,r2,r3⟩:=Qj6 (F:=99999-(63*s+5160)) hS sq.pq.t (by omega) (λh=>by rw [hl0 h]) (Uv m) (63*s+5160) 0 (-Hb q') (Hb q') (by grind) (Zmq gb) gb hN hK;rw [show 99999-(63*s+5160)+(63*s+5160)+1=100000 by omega] at r1;have hchq:chq (Hb q')=some (Hb q'):=Q96 gb (Uv m) (by omega);have key:∀ t∈ls,Va t/\t.p=q'/\t.lo<t.hi/\Bd (s+69) q'/\∃ D M k,Gr D M k t.lo/\Gr D M k t.hi/\0<M/\Fq (D:Int)≤s+69/\Fq (M:Int)≤s+70/\k≤63*s+5160:=λt ht=>by
  obtain ⟨k',k1,k2,k3⟩:=r3 t ht;have hmem:∀ {lo hi:Rat} {ls:List Tm},RI q' ((q'::l).map cz) lo ls hi->t∈ls->Vt (cz q') ((q'::l).map cz) t.lo t.hi/\t.p=q':=λh=>by
   induction h with
   | nil=>intro ht; cases ht
   |
    cons h hv ht' hp hl ih =>
    intro ht;rcases Qm.1 ht with rfl | ht
    ·exact ⟨ht',hp⟩
    ·exact ih ht
  obtain ⟨v1,v2⟩:=hmem r2 ht;have lq2:2<=q'.length:=by
   rcases Q9 q'.length 2 with e | e
   ·exfalso;have hvv:∀ x,vv ((q'::l).map cz) x=0:=λx=>by
     rw [hl0 e,sq.pq.one e];have hv1:∀ x:Rat,ev (cz [1]) x=1:=λx=>by rw [Ff,Ny]
     simp only [Xb,Jl,vv,tc,hv1];have:Fo 1=1:=by decide
     rw [this]; decide
    have:=v1.v;rw [hvv,hvv] at this; omega
   ·exact e
  exact ⟨⟨.inr ⟨_,by rw [v2]; exact v1⟩,by rw [v2]; exact sq.pq.t,by rw [v2]; omega,by rw [v2]; exact lq2,by rw [v2]; exact U8 bq (by omega),λ_=>by rw [v2]; exact U8 bq (by omega),λ_=>by rw [v2]; exact ⟨l,_,g,hch,sq,v1⟩,D,m+1,k',k2,k3,Uv m,by omega⟩,v2,v1.l,bq,D,m+1,k',k2,k3,Uv m,hDs,Qc hMs (Ql (s+70)),by rw [Zx] at k1; exact k1⟩
 refine ⟨q',q'::l,ls,hq',q2,?_,hS,r2,λt ht=>(key t ht).1,λx y hxy hb=>Q1g hS sq.pq.t sq.pq.n hxy hb (by grind),by omega,λt ht=>(key t ht).2⟩
 ·unfold Qm5;rw [q2,hq'];show (chq (Hb q')).bind _=_;rw [hchq];show Ae q' (q'::l) 100000 (-Hb q') (Hb q') (Qca (q'::l))=_;rw [Q67 hS hall];exact r1
theorem Zdg {p:List Int} (h:Okp 9 900 p):∃ q c l,Mj p=some q/\chain p=some c/\Qm5 p=some l/\Stm (cz q) (c.map cz)/\RI q (c.map cz) (-Hb q) l (Hb q)/\(∀ t∈l,Va t)/\(∀ x y,x<y->Hb q≤x\/y≤-Hb q->vv (c.map cz) x=vv (c.map cz) y):=by
 obtain ⟨q,c,l,h1,h2,h3,h4,h5,h6,h7,_⟩:=Qw6 (Ql _) h;exact ⟨q,c,l,h1,h2,h3,h4,h5,h6,h7⟩
theorem Lx {q:List Int} {L:List (List Rat)} (hS:Stm (cz q) L) {c:Rat->Int} (hc:Cut c) {lo:Rat} (hH:∀ z,c z=-1->z<=lo->vv L z=vv L lo) {y0:Rat} (hy:c y0=-1) (hv:∀ z,lo<z->z<=y0->vv L z=vv L lo):∃ s,s≠0/\∀ z,c z=-1->z<=y0->Fo (ev (cz q) z)=s:=by
 have hall:∀ z,c z=-1->z<=y0->vv L z=vv L lo:=λz h1 h2=>by
  rcases Gg z lo with e | e
  ·exact hH z h1 e
  ·exact hv z e h2
 have hne:∀ z,c z=-1->z<=y0->Fo (ev (cz q) z)≠0:=λz h1 h2=>by
  obtain ⟨w,w1,w2⟩:=hc.dn z h1;have:=Qtt hS w1 (by rw [hall w w2 (by grind),hall z h1 h2]);rw [this.s]; exact this.n
 refine ⟨Fo (ev (cz q) y0),hne y0 hy Qq,λz h1 h2=>?_⟩;rcases Classical.em (z=y0) with e | e
 ·rw [e]
 ·have:=Qtt hS (x:=z) (y:=y0) (by grind) (by rw [hall z h1 h2,hall y0 hy Qq]);rw [this.s,E9 (hne z h1 h2)]
structure Fst (o:List Int) (a t:Tm):Prop where
 lt:Nc a t
 s:∃ s,s≠0/\(∀ z,Fv a z=-1->Fv t z=1->Fo (ev (cz o) z)=s)/\RS (cz o) (Fv t) (-s)
def Non (o:List Int) (a:Tm):Prop:=∃ s,s≠0/\∀ z,Fv a z=-1->Fo (ev (cz o) z)=s
theorem Q6u {q:List Int} {L:List (List Rat)} (hS:Stm (cz q) L) {a:Tm} (ha:Va a) {lo hi:Rat} {l:List Tm} (hR:RI q L lo l hi):(∀ t∈l,Va t)->(∀ z,hi<z->vv L z=vv L hi)->(∀ z,Fv a z=-1->z≤lo->vv L z=vv L lo)->∃ r,Qdj a l=some r/\match r with
 | none=>Non q a
 | some t=>t∈l/\Fst q a t:=by
 have ca:=ha.cut
 induction hR with
 |
  @nil lo hi h hv =>
  intro _ hhi hH;refine ⟨none,rfl,?_⟩;obtain ⟨y1,hy1⟩:=ca.hi;have hall:∀ z,lo<z->vv L z=vv L lo:=λz hz=>by
   rcases Gg z hi with e | e
   ·have h1:=Ak hS hz;have h2:vv L hi<=vv L z:=by
     rcases Classical.em (z=hi) with e' | e'
     ·rw [e']; exact Ql _
     ·exact Ak hS (by grind)
    omega
   ·rw [hhi z e,hv]
  obtain ⟨s,s0,hs⟩:=Lx hS ca hH hy1 λz h1 _=>hall z h1
  refine ⟨s,s0,λz hz=>?_⟩;rcases Gg z y1 with e | e
  ·exact hs z hz e
  ·obtain ⟨s',s0',hs'⟩:=Lx hS ca hH hz λz h1 _=>hall z h1
   rw [hs' z hz Qq,<-hs' y1 hy1 (Qp e),hs y1 hy1 Qq]
 |
  @cons lo hi t l h hv ht hp hl ih =>
  intro hV hhi hH;have hvt:=hV t (Qw ..);have ct:=hvt.cut;have ht':=ht;rw [<-hp] at ht';have ect:∀ z,Fv t z=cq (cz t.p) t.lo t.hi z:=Pf ht.l;obtain ⟨c,c1,c2⟩:=Qcm hvt ha;show ∃ r,((Qja t a).bind λc=>if 0<c then some (some t) else Qdj a l)=some r/\_;rw [c1];show ∃ r,(if 0<c then some (some t) else Qdj a l)=some r/\_;have hlo1:Fv t t.lo=1:=by rw [ect]; exact C6 Qq
  have hlow:∀ z,lo<z->Fv t z=1->vv L z=vv L lo:=λz h1 h2=>by
   rcases Gg z t.lo with e | e
   ·have a1:=Ak hS h1;have a2:vv L t.lo<=vv L z:=by
     rcases Classical.em (z=t.lo) with e' | e'
     ·rw [e']; exact Ql _
     ·exact Ak hS (by grind)
    omega
   ·rw [ect] at h2;have hz:z<=t.hi:=by
     rcases Gg z t.hi with e' | e'
     ·exact e'
     ·rw [Qaw ht.l e'] at h2; omega
    rw [ht'.eq_lo e hz h2,hv]
  by_cases hc:0<c
  ·rw [if_pos hc];refine ⟨some t,rfl,Qw ..,?_⟩;have hlt:Nc a t:=by
    rcases c2 with ⟨e,_⟩ | ⟨e,_⟩ | ⟨_,h⟩
    ·omega
    ·omega
    ·exact h
   refine ⟨hlt,?_⟩;obtain ⟨m,m1,m2⟩:=hlt;obtain ⟨s,s0,hs⟩:=Lx hS ca hH m1 λz h1 h2=>hlow z h1 (by
    rcases Classical.em (z=m) with e | e
    ·rw [e]; exact m2
    ·exact ct.mono' (q:=z) (r:=m) (by grind) (by omega))
   have hall:∀ z,Fv a z=-1->Fv t z=1->Fo (ev (cz q) z)=s:=λz h1 h2=>by
    rcases Gg z m with e | e
    ·exact hs z h1 e
    ·obtain ⟨s',s0',hs'⟩:=Lx hS ca hH h1 λw w1 w2=>hlow w w1 (by
      rcases Classical.em (w=z) with e | e
      ·rw [e]; exact h2
      ·exact ct.mono' (q:=w) (r:=z) (by grind) (by omega))
     rw [hs' z h1 Qq,<-hs' m m1 (Qp e),hs m m1 Qq]
   refine ⟨s,s0,hall,?_⟩;obtain ⟨w,w1,w2,w3⟩:=Qlb ct m2 hlo1;have hwa:Fv a w=-1:=ca.mono m w w2 (by omega);have hsw:=hall w hwa w1;have hwh:w<t.hi:=by
    rw [ect] at w1;rcases Gg t.hi w with e | e
    ·have:=ht'.hi1;rcases Classical.em (t.hi=w) with e' | e'
     ·rw [<-e'] at w1; exact absurd w1 this
     ·rw [Qaw ht.l (by grind)] at w1; omega
    ·exact e
   have hww:vv L w=vv L t.lo:=ht'.eq_lo w3 (Qp hwh) (by rw [<-ect]; exact w1);have hvv:=ht.v;have hone:=Qts hS hwh (by omega);have hlw:Po (cz q) w=s:=by rw [E9 (by rw [hsw]; exact s0),hsw]
   rw [hlw] at hone;have hd:∀ z,w<z->z<=t.hi->Fv t z=-1->Fo (ev (cz q) z)=-s:=λz z1 z2 z3=>by
    rw [ect] at z3;have e1:=ht'.eq_hi (by grind) z2 (by omega);have e2:=Qts hS z1 (by omega);rw [hlw] at e2;have hz0:Fo (ev (cz q) z)≠0:=by
     rw [Ca (by grind) z2,hp] at z3;intro h0;rw [if_pos h0] at z3; omega
    rw [E9 hz0] at e2; exact e2.2
   rcases ct.val t.hi with e | e | e
   ·rw [ect] at e; exact absurd e ht'.hi1
   ·obtain ⟨d,dp,hd'⟩:=Zpk (p:=cz q) (x:=t.hi) (by rw [hone.2]; omega);refine ⟨t.hi+d,ct.mono t.hi _ (by grind) (by omega),λz h1 h2=>?_⟩;have hz:t.hi<z:=by
     rcases Gg z t.hi with e' | e'
     ·rcases Classical.em (z=t.hi) with e'' | e''
      ·rw [e''] at h1; omega
      ·have:=ct.mono z t.hi (by grind) (by omega); omega
     ·exact e'
    rw [hd' z hz (by grind),hone.2]
   ·exact ⟨t.hi,e,λz h1 h2=>hd z (ct.lt w1 h1) h2 h1⟩
  ·rw [if_neg hc];have hle:¬Nc a t:=λh=>by
    rcases c2 with ⟨e,h'⟩ | ⟨e,h'⟩ | ⟨e,_⟩
    ·exact Qby ct ca h' h
    ·obtain ⟨z,z1,z2⟩:=h;have:=h' z; omega
    ·omega
   obtain ⟨r,r1,r2⟩:=ih (λx hx=>hV x (Qj _ hx)) hhi λz z1 z2=>by
    have hz:Fv t z≠1:=λh=>hle ⟨z,z1,h⟩
    have hzl:t.lo<z:=by
     rcases Gg z t.lo with e | e
     ·refine absurd ?_ hz;rw [ect]; exact C6 e
     ·exact e
    exact ht'.eq_hi hzl z2 (by rw [<-ect]; exact hz)
   refine ⟨r,r1,?_⟩;cases r with
   | none=>exact r2
   | some x=>exact ⟨Qj _ r2.1,r2.2⟩
theorem Zky {c:Rat->Int} (hc:Cut c):∀ (n:Nat) (f:List Rat),HD f n->∃ s,s≠0/\RS f c s
 |
  n,f,h=>by
  rcases Qcg hc f with hv | ⟨s,hs,hn⟩
  ·cases n with
   |
    zero =>
    exfalso;obtain ⟨q,hq,_⟩:=Qv7 hc (hv (Fp (f.getD 0 0)) (Cu h.1));cases f with
    | nil=>exact h.1 (by simp)
    |
     cons a l =>
     have:=D9 (p:=l) λk=>by have:=h.2 (k+1) (by omega); rwa [Q3] at this
     simp only [ev,this,Zu] at hq; grind
   |
    succ n =>
    have hd:HD (Bl f) n:=by
     have key:∀ (f:List Rat) (k:Nat),(Bl f).getD k 0=((k+1:Nat):Rat)*f.getD (k+1) 0:=by
      intro f
      induction f with
      | nil=>intro k; simp only [Bl,Wm]; grind
      |
       cons a f ih =>
       intro k;simp only [Bl];rw [Rr,Q3];cases k with
       | zero=>rw [Zu]; push_cast; grind
       | succ k=>rw [Q3,ih]; push_cast; grind
     refine ⟨λh0=>?_,λk hk=>by rw [key,h.2 (k+1) (by omega)]; grind⟩;rw [key] at h0;rcases J0.1 h0 with h1 | h1
     ·have:=nat_pos (show 0<n+1 by omega); grind
     ·exact h.1 h1
    obtain ⟨s,hs,h1⟩:=Zky hc n (Bl f) hd;exact ⟨s,hs,Qs8 hc hv h1 hs⟩
  ·exact ⟨s,hs,Qp8 hc hn⟩
theorem Zdk {c:Rat->Int} (hc:Cut c) {f p q:List Rat} {s s':Int} (hf:∀ t,ev f t=ev p t*ev q t) (h:RS p c s) (h':RS q c s'):RS f c (s*s'):=by
 obtain ⟨y,h1,h2⟩:=h;obtain ⟨y',h3,h4⟩:=h';refine ⟨if y<=y' then y else y',by split <;> assumption,λz z1 z2=>?_⟩;rw [hf,S7,h2 z z1 (by clear h2 h4; grind),h4 z z1 (by clear h2 h4; grind)]
theorem Zdl {c:Rat->Int} (hc:Cut c) {f o S:List Rat} {k:Rat} (hk:k≠0) (hf:∀ t,ev f t=k*(ev o t*(ev S t*ev S t))) (hnz:¬∀ t,ev f t=0) {s:Int} (h:RS o c s):RS f c (Fo k*s):=by
 obtain ⟨n,_,hn⟩:∃ n,n<S.length/\HD S n:=by
  rcases Qio S with h1 | h1
  ·exact absurd (λt=>by rw [hf,h1]; grind) hnz
  ·exact h1
 obtain ⟨s',hs',h'⟩:=Zky hc n S hn;have h1:=Zdk hc (f:=G8 S S) (λt=>Fj t _ _) h' h';have h2:=Zdk hc (f:=G8 o (G8 S S)) (λt=>Fj t _ _) h h1;have hsq:s'*s'=1:=by
  obtain ⟨y,y1,y2⟩:=h';have:=y2 y y1 Qq;rcases Gp (ev S y) with ⟨e,_⟩ | ⟨e,_⟩ | ⟨e,_⟩
  ·rw [<-this,e]; rfl
  ·omega
  ·rw [<-this,e]; rfl
 rw [hsq,Uc] at h2;obtain ⟨y,y1,y2⟩:=h2;exact ⟨y,y1,λz z1 z2=>by
  have:=y2 z z1 z2;rw [Fj,Fj] at this;rw [hf,S7,this]⟩
structure Cp (p:List Int):Prop where
 t:Fg p
 l:p.length<=9
 b:Bd 800 p
theorem Cp.dp {p:List Int} (h:Cp p):Dp p:=⟨h.t,h.l,U8 h.b (by omega)⟩
theorem Cp.ok {p:List Int} (h:Cp p) (h0:p.length≠0):Okp 9 900 p:=h.dp.ok h0
def Leq (a:Tm) (c:Rat->Int):Prop:=∀ q,c q=-1->Fv a q=-1
def Pg (p:List Int) (a:Tm):Option Tm->Prop
 | none=>p=[]\/∃ s,s≠0/\∀ c,Cut c->Leq a c->RS (cz p) c s
 | some t=>p≠[]/\Va t/\Nc a t/\∃ s,s≠0/\(∀ c,Cut c->Leq a c->(∃ m,c m=-1/\Fv t m=1)->RS (cz p) c s)/\RS (cz p) (Fv t) (-s)
theorem RI.len {q:List Int} {L:List (List Rat)} {lo hi:Rat} {l:List Tm} (h:RI q L lo l hi):l.length+vv L hi<=vv L lo:=by
 induction h with
 | nil h hv=>simp; omega
 | cons h hv ht hp hl ih=>have:=ht.v; simp only [Q7]; omega
theorem Zek (x:Rat):∀ (L:List (List Rat)) (s:Int),tc x s L<=L.length
 | [],_=>Ql _
 |
  f::l,s=>by
  have h1:=Zek x l;simp only [tc,Q7]
  repeat' split
  all_goals (first | (have:=h1 s; omega) | (have:=h1 (Fo (ev f x)); omega))
theorem Zn6 (L:List (List Rat)) (x:Rat):vv L x<=L.length:=Zek x L 0
theorem Qcf {p:List Int} (h:Cp p):∃ l,Il p=some l/\l.length≤67/\(∀ t∈l,Va t)/\∀ a,Va a->∃ r,Qdj a l=some r/\Pg p a r/\∀ t,r=some t->t∈l:=by
 unfold Il;by_cases h0:p.length=0
 ·have e:p=[]:=Qh h0;subst e;exact ⟨[],rfl,by decide,(λt ht=>by cases ht),λa _=>⟨none,rfl,.inl rfl,λt ht=>by cases ht⟩⟩
 ·obtain ⟨qp,o,q1,o1,hpt⟩:=Qz1 (n:=9) (s:=800) (p:=p) ⟨⟨by decide,by decide⟩,h.t,h0,h.l,h.b⟩;obtain ⟨g,sq⟩:=hpt.sq;obtain ⟨S,hS⟩:=hpt.os;obtain ⟨p1,p2,p3,p4,p5,p6,p7⟩:=S5 h.t h0;have Nl:=h.l;obtain ⟨hh,th,eh⟩:=hpt.oh;have bo:Bd 869 o:=O8 (p5 800 h.b) (by omega) p1 hpt.ot th (by omega) eh;obtain ⟨lo1,lo2⟩:=Tc p1 (by omega) eh;have hlen:=Mi hpt.ot th p1 eh lo1 lo2;have oko:Okp 9 900 o:=⟨Qsm,hpt.ot,by omega,by omega,U8 bo (by omega)⟩;obtain ⟨q,c,l,r1,r2,r3,hSt,hRI,hVa,hout⟩:=Zdg oko;obtain ⟨g',q',s1,s2⟩:=Qc6 oko;rw [r1] at s1;injection s1 with s1;subst s1;obtain ⟨_,_,_,_,_,o6,o7⟩:=S5 hpt.ot (by omega);have hg1:g'=[1]:=by
   refine s2.pg.one ?_;obtain ⟨E,hE⟩:=hpt.oq;have hE:∀ t,Fe qp t=Fe o t*ev E t:=λt=>by have:=hE t; rwa [Ff,Ff] at this
   obtain ⟨z,hz⟩:=s2.d;have hd1:∀ t,Fe o t=Fe g' t*(Ha o*Fe q t):=λt=>by rw [o7,s2.e]; grind
   have hdo:∀ t,dv (cz o) t=Fe g' t*(Ha o*ev z t):=λt=>by
    have:=Zan (p:=cz o) (q:=Nj (Ha o) (cz (Fi o))) (λt=>by rw [Ff,Ge,Ff,o7]) t;rw [this,Qg0,hz]; grind
   obtain ⟨k,hk,hkk⟩:=sq.num (d:=cz g') ⟨G8 (Nj (Ha o) (cz q)) E,λt=>by rw [Ff,Ff,hE,hd1,Fj,Ge,Ff]; grind⟩ ⟨Ty (G8 (Nj (Ha o) z) E) (G8 (Nj (Ha o) (cz q)) (Bl E)),λt=>by
    have:=O5 (f:=cz qp) (w:=cz o) (u:=E) (λt=>by rw [Ff,Ff,hE]) t;rw [Tp,this,hdo,Ff,Ff,hd1,Gt,Fj,Fj,Ge,Ge,Tp,Ff]; grind⟩
   rcases Q9 g'.length 2 with e | e
   ·exact e
   ·exfalso;have h1:=(Qdi s2.pg.t (by omega)).1;have h2:=Ce (p:=cz g') (q:=[k]) (λt=>by rw [hkk]; simp only [ev]; grind) (g'.length-1);rw [h2,Qe,Qt (by simp; omega)] at h1;exact h1 rfl
  have hpq:∀ t,ev (cz p) t=((Ha p:Rat)*(Ha o:Rat))*(ev (cz q) t*(ev S t*ev S t)):=λt=>by
   rw [Ff,Ff,p7,hS,o7,s2.e,hg1,Ny]; grind
  have hk0:(Ha p:Rat)*(Ha o:Rat)≠0:=λh=>(J0.1 h).elim (Qad p6) (Qad o6)
  have hpz:¬∀ t,ev (cz p) t=0:=λh'=>Qig h.t (by omega) λt=>by rw [<-Ff]; exact h' t
  obtain ⟨k,hk⟩:=nmE (Fo ((Ha p:Rat)*(Ha o:Rat)));have hkn:k≠0:=λh=>hk0 (Gk.1 (by rw [<-hk]; exact h))
  have ho:o.length≠0:=by omega
  rw [o1];show ∃ l,(if o.length=0 then some [] else Qm5 o)=some l/\l.length<=67/\_;rw [if_neg ho];have hb1:=Qgp (Dz s2.pq.t s2.pq.n);have hll:=hRI.len;have hlv:=Zn6 (c.map cz) (-Hb q);have hcl:=(Orr.chain_ok (p:=o) ⟨hpt.ot,by omega,U8 bo (by omega)⟩ r2).1;rw [Q8] at hlv;refine ⟨l,r3,by omega,hVa,λa ha=>?_⟩;obtain ⟨r,n1,n2⟩:=Q6u hSt ha hRI hVa (λz hz=>(hout _ _ hz (.inl Qq)).symm) λz _ hz=>by
   rcases Classical.em (z=-Hb q) with e | e
   ·rw [e]
   ·exact hout z _ (by grind) (.inr Qq)
  refine ⟨r,n1,?_,λt ht=>by subst ht; exact n2.1⟩;cases r with
  |
   none =>
   obtain ⟨s,hs,hz⟩:=n2;refine .inr ⟨k*s,Jn hkn hs,λc hc hac=>?_⟩;obtain ⟨y,hy⟩:=hc.hi;have h1:RS (cz q) c s:=⟨y,hy,λz z1 _=>hz z (hac z z1)⟩;rw [hk]; exact Zdl hc hk0 hpq hpz h1
  |
   some t =>
   obtain ⟨hm,hlt,s,hs,hz,hrs⟩:=n2;refine ⟨λe=>h0 (by rw [e]; rfl),hVa t hm,hlt,k*s,Jn hkn hs,λc hc hac ⟨m,m1,m2⟩=>?_,?_⟩
   ·have h1:RS (cz q) c s:=⟨m,m1,λz z1 z2=>hz z (hac z z1) (by
     rcases Classical.em (z=m) with e | e
     ·rw [e]; exact m2
     ·exact (hVa t hm).cut.mono' (q:=z) (r:=m) (by grind) (by omega))⟩
    rw [hk]; exact Zdl hc hk0 hpq hpz h1
   ·have:=Zdl (hVa t hm).cut hk0 hpq hpz hrs;rw [<-hk] at this;rw [show -(k*s)=k*-s by rw [Kx]]; exact this
structure Sz (s n:Nat) (t:Tm):Prop where
 n:t.p.length<=n
 b:Bd (s+138) t.p
 g:∃ D M k,Gr D M k t.lo/\Gr D M k t.hi/\0<M/\Fq (D:Int)<=s+138/\Fq (M:Int)<=s+139/\k<=63*s+9507
theorem Zer {p:List Int} (h:Cp p) {s:Nat} (hs:s≤800) (hb:Bd s p) {l:List Tm} (hl:Il p=some l):∀ t∈l,t.point=false/\Sz s p.length t:=by
 unfold Il at hl;by_cases h0:p.length=0
 ·have e:p=[]:=Qh h0;subst e;injection hl with hl;intro t ht; rw [<-hl] at ht; cases ht
 ·obtain ⟨qp,o,q1,o1,hpt⟩:=Qz1 (n:=9) (s:=800) (p:=p) ⟨⟨by decide,by decide⟩,h.t,h0,h.l,h.b⟩;obtain ⟨p1,p2,p3,p4,p5,p6,p7⟩:=S5 h.t h0;have Nl:=h.l;obtain ⟨hh,th,eh⟩:=hpt.oh;have bo:Bd (s+69) o:=O8 (p5 s hb) (by omega) p1 hpt.ot th (by omega) eh;obtain ⟨lo1,lo2⟩:=Tc p1 (by omega) eh;have hlen:=Mi hpt.ot th p1 eh lo1 lo2;have ho:o.length≠0:=by omega
  have oko:Okp 9 (s+69) o:=⟨Znv Qsm (by omega),hpt.ot,by omega,by omega,bo⟩;obtain ⟨q,c,l',r1,r2,r3,_,_,_,_,hlq,hz⟩:=Qw6 (by omega) oko;rw [o1,Jh,if_neg ho,r3] at hl;have hl:=Option.some.inj hl;subst hl;intro t ht;obtain ⟨e,hlh,bq,D,M,k,g1,g2,g3,g4,g5,g6⟩:=hz t ht;have e6:63*(s+69)+5160=63*s+9507:=by rw [Xt,Ym]
  rw [e6] at g6;refine ⟨?_,⟨by rw [e]; omega,by rw [e]; exact U8 bq (by omega),D,M,k,g1,g2,g3,by clear g6 e6; omega,by clear g6 e6; omega,g6⟩⟩;cases hp:t.point with
  | false=>rfl
  |
   true =>
   have:=P8.1 hp;grind
theorem Zb7 {p:List Int} (h:Cp p) {a:Tm} (ha:Va a):∃ r,Qiu p a=some r/\Pg p a r:=by
 obtain ⟨l,l1,_,_,l3⟩:=Qcf h;obtain ⟨r,r1,r2,_⟩:=l3 a ha;refine ⟨r,?_,r2⟩;unfold Qiu;rw [l1]; exact r1
theorem Qhj:∀ (l:List Tm) (b:Tm),(∀ t∈b::l,Va t)->∃ m,Qag b l=some m/\m∈b::l/\∀ t∈b::l,¬Nc t m
 |
  [],b,h=>⟨b,rfl,Qw ..,λt ht h'=>by
  rw [Qk.1 ht] at h';have hb:=(h b (Qw ..)).cut;exact Qby hb hb h' h'⟩
 |
  a::l,b,h=>by
  have ha:=h a (by simp);have hb:=h b (by simp);obtain ⟨c,c1,c2⟩:=Qcm ha hb;obtain ⟨m,m1,m2,m3⟩:=Qhj l (if c<0 then a else b) λt ht=>by
   rcases Qm.1 ht with rfl | ht
   ·split <;> assumption
   ·exact h t (by simp [ht])
  refine ⟨m,by simp only [Qag]; rw [c1]; exact m1,?_,λt ht=>?_⟩
  ·rcases Qm.1 m2 with e | e
   ·rw [e]; split <;> simp
   ·simp [e]
  ·have hm:Va m:=by
    rcases Qm.1 m2 with e | e
    ·rw [e]; split <;> assumption
    ·exact h m (by simp [e])
   have hfst:=m3 _ (Qw ..);have tr:∀ x y:Tm,Va x->Va y->¬Nc x y->¬Nc y m->¬Nc x m:=λx y hx hy h1 h2 h3=>by
    rcases tri hy.cut hm.cut with h4 | h4 | h4
    ·exact h2 h4
    ·obtain ⟨q,q1,q2⟩:=h3;exact h1 ⟨q,q1,by rw [h4]; exact q2⟩
    ·obtain ⟨q,q1,q2⟩:=h3;obtain ⟨r,r1,r2⟩:=h4;have:=hm.cut.lt q2 r1;exact h1 ⟨q,q1,hy.cut.mono' this (by omega)⟩
   rcases Qm.1 ht with rfl | ht
   ·by_cases hc:c<0
    ·rw [if_pos hc] at hfst;refine tr _ a hb ha ?_ hfst;rcases c2 with ⟨_,h'⟩ | ⟨e,_⟩ | ⟨e,_⟩
     ·exact λh''=>Qby ha.cut hb.cut h' h''
     ·omega
     ·omega
    ·rw [if_neg hc] at hfst; exact hfst
   ·rcases Qm.1 ht with rfl | ht
    ·by_cases hc:c<0
     ·rw [if_pos hc] at hfst; exact hfst
     ·rw [if_neg hc] at hfst;refine tr _ b ha hb ?_ hfst;rcases c2 with ⟨e,_⟩ | ⟨_,h'⟩ | ⟨_,h'⟩
      ·omega
      ·rintro ⟨q,q1,q2⟩
       have:=h' q; omega
      ·exact λh''=>Qby ha.cut hb.cut h'' h'
    ·exact m3 t (by simp [ht])
end Orq
namespace Orr
open Go Go.Proofs Orq
set_option maxRecDepth 10000
theorem Dp.pb {p:List Int} (h:Dp p):Pb p:=⟨h.t,by have:=h.l; omega,U8 h.b (by have:=h.l; omega)⟩
theorem Zoy {p:List Int} {a:Tm} (hp:Dp p) (ha:Va a):Fa Tryz.prog 228 [pr p,.agg (ta a)] [.one (.int .i64 (Hk a p))]:=Zft (Dp.pb hp) ha.tb (Zdu hp ha).1
theorem Zop {p:List Int} {a:Tm} (hp:Dp p) (ha:Va a):Fa Tryz.prog 227 [pr p,.one (.sh (ta a))] [.one (.int .i64 (Hk a p))]:=w tt Tryz.func227 rfl [.c [] (Zoy hp ha)] rfl rfl trivial
theorem Zgc {p:List Int} {fid:Nat} {l1:List LV} {sgn:List Int->Int} (hp:Dp p) (h:∀ p,Dp p->Fa Tryz.prog fid [pr p,.one (.sh l1)] [.one (.int .i64 (sgn p))]):Fa Tryz.prog 226 [pr p,.one (.fn fid [] [.sh l1])] [.one (.int .i64 (Py sgn p.length p))]:=by
 have hpb:=Dp.pb hp;refine Hl Tryz.func226 rfl ?_;refine go tt [.c [] (Ri hpb.t hpb.ln hpb.bd)] rfl trivial ?_;refine lp (S:=List Int) 0 (λL1 s=>(0,.v (pr s))::L1) (λ_=>[]) (λs=>s.length) (λs=>Dp s/\Py sgn s.length s=Py sgn p.length p) p ⟨hp,rfl⟩ rfl (λ_ _=>rfl) rfl λr ⟨j1,j4⟩=>?_
 rw [<-j4];have jb:=Dp.pb j1;by_cases h0:r.length=0
 ·have e:=Qim sgn h0;rw [e];exact en tt [.f (by simp; exact Qh h0)] rfl rfl trivial
 ·have hs:=h r j1;by_cases hz:sgn r=0
  ·have hlp:=Ph r;refine go tt [.t (by simp; omega),.c [] hs,.f (by simpa using hz),.c [] (Is jb.ln jb.bd)] rfl trivial ?_;exact rd (Gj r) (by omega) ⟨j1.der,by rw [<-Qil sgn (by omega) hz]⟩ rfl
  ·rw [Qik sgn (by omega) hz];exact en tt [.t (by simp; omega),.c [] hs,.t (by simpa using hz)] rfl rfl trivial
abbrev gmA (a:Tm) (p:List Int):Int:=Tg (Hk a) p
theorem Q2c {p:List Int} {a:Tm} (hp:Dp p) (ha:Va a):Fa Tryz.prog 176 [pr p,.agg (ta a)] [.one (.int .i64 (gmA a p))] :=
 w tt Tryz.func176 rfl [.c [] (Zgc (sgn:=Hk a) hp λ_ h=>Zop h ha)] rfl rfl trivial
theorem Q9k {t:Tm} {a b:Pt} {ps:List (List Int)} (hps:∀ p∈ps,Dp p) (ht:Va t) (hl:ps.length<1000):Fa Tryz.prog 284 [.agg (ta t),.agg (H5 a),.agg (H5 b),.one (.row (Pk ps))] [.one (.bool (Qal (Hk t) a b ps))]:=by
 refine Hl Tryz.func284 rfl ?_;have Nl:(Pk ps).length=ps.length:=by simp [Pk]
 refine go tt [] rfl trivial ?_;refine lp (S:=Nat) 3 (λL1 i=>(13,.v (.one (.int .i64 (i:Int))))::L1) (λ_=>[.blk 74 (ta t),.blk 135 (H5 a),.blk 135 (H5 b)]) (λi=>ps.length-i) (λi=>i<=ps.length/\Qal (Hk t) a b (ps.drop i)=Qal (Hk t) a b ps) 0 ⟨Qi _,rfl⟩ rfl (λ_ _=>rfl) rfl λi ⟨hi,he⟩=>?_
 rw [<-he];by_cases hlt:i<ps.length
 ·obtain ⟨p,hp⟩:=gxE (l:=ps) (i:=i) hlt;have hd:ps.drop i=p::ps.drop (i+1):=by
   rw [Zl hlt];rw [Qd hlt] at hp; injection hp with hp; rw [hp]
  have hpb:=hps p (Qa hp);rw [hd] at he ⊢;by_cases h0:0<p.length
  ·exact en tt [.t (by simp [Nl]; omega),.x (Ta hp),.t (by simp; omega),.c [] (Q2c hpb ht)] rfl (by simp only [Qal]; rw [if_pos h0]) trivial
  ·refine go tt [.t (by simp [Nl]; omega),.x (Ta hp),.f (by simp; exact Qh (by omega))] rfl (by simp [U9]; omega) ?_;exact rd (i+1) (by omega) ⟨hlt,by simp only [Qal]; rw [if_neg h0]⟩ rfl
 ·have hd:ps.drop i=[]:=Y5 (by omega);rw [hd];exact en tt [.f (by simp [Nl]; omega)] rfl rfl trivial
structure Sc (k:Crv):Prop where
 n:Nml k
 c:Cs 90 3 k
theorem Sc.cb {k:Crv} (h:Sc k):Cb k:=h.c.mono (by omega) (by omega)
theorem Qbg {a b:Crv} (ha:Sc a) (hb:Sc b):Cp (Hp a b):=by
 refine ⟨Fw _ _,?_,U8 (Lv (Gw hb.c.x ha.c.d) (Gw ha.c.x hb.c.d)) (by omega)⟩;have:=No (Gb b.x a.d) (Gb a.x b.d);have:=Gh b.x a.d; have:=Gh a.x b.d; have:=ha.c.lx; have:=hb.c.lx;unfold Hp; omega
theorem Qbf {a b:Crv} (ha:Sc a) (hb:Sc b):Cp (Re a b):=by
 refine ⟨Fw _ _,?_,U8 (Lv (Gw hb.c.y ha.c.d) (Gw ha.c.y hb.c.d)) (by omega)⟩;have:=No (Gb b.y a.d) (Gb a.y b.d);have:=Gh b.y a.d; have:=Gh a.y b.d; have:=ha.c.ly; have:=hb.c.ly;unfold Re; omega
theorem Q8b {a b:Pt} {t:Tm} (ha:Sc a.c) (hb:Sc b.c) (ht:Va t):Fa Tryz.prog 240 [.agg (H5 a),.agg (H5 b),.agg (ta t)] [.one (.bool (Sj (Hk t) a b))] :=
 w tt Tryz.func240 rfl [.c [] (Q15 ha.n hb.n ha.cb hb.cb),.c [] (Q1v ha.n hb.n ha.cb hb.cb),.c [] (Q9k (t:=t) (a:=a) (b:=b) (ps:=[Hp a.c b.c,Re a.c b.c]) (λp hp=>by
  simp at hp;rcases hp with rfl | rfl
  ·exact (Qbg ha hb).dp
  ·exact (Qbf ha hb).dp) ht (show 2<1000 by decide))] rfl rfl trivial
theorem Zk5 (q:Rat) {P:Prop} (h:(tq q).point=false):P:=by
 have e:(tq q).point=true:=P8.2 Qq;rw [e] at h; cases h
theorem Zev {q:Rat} (hq:Qs 400000 q):Va (tq q):=by
 have hd:=q.den_nz;refine ⟨.inl ⟨rfl,?_⟩,Qti q,by show 2<=9; omega,by show 2<=2; omega,Zoo (hq.mono (by omega)),Zk5 q,Zk5 q,q.den,q.num.natAbs+1,0,?_,?_,by omega,?_⟩
 ·have e:(q.num:Rat)=q*(q.den:Rat):=by
   have:(q.num:Rat) / (((q.den:Int)):Rat)=q:=by rw [Hx,Zv]
   have h2:(q.num:Rat) / (q.den:Rat)*(q.den:Rat)=q.num:=Zj (by have:=Orq.nat_pos q.den_pos; grind);rw [show (q.num:Rat) / (q.den:Rat)=q from this] at h2; exact h2.symm
  show Fe [-q.num,(q.den:Int)] q=0;simp only [Fe];rw [V0,e,show (((q.den:Int)):Rat)=(q.den:Rat) from rfl]; grind
 all_goals first | (have h1:Fq (q.den:Int)<=400000:=hq.2; have h2:Fq ((q.num.natAbs+1:Nat):Int)<=400001:=Q6j hq.1; omega) | skip
 all_goals
  refine ⟨⟨q.num,?_⟩,?_,q.den_pos⟩
  ·rw [Vm,Y6];have:(q.num:Rat) / (((q.den:Int)):Rat)=q:=by rw [Hx,Zv]
   have h2:(q.num:Rat) / (q.den:Rat)*(q.den:Rat)=q.num:=Zj (by have:=Orq.nat_pos q.den_pos; grind);rw [show (q.num:Rat) / (q.den:Rat)=q from this] at h2; exact h2
  ·have h1:Fp q<=Fp (q.num:Rat):=by
    have e:(q.num:Rat)=q*(q.den:Rat):=by
     have:(q.num:Rat) / (((q.den:Int)):Rat)=q:=by rw [Hx,Zv]
     have h2:(q.num:Rat) / (q.den:Rat)*(q.den:Rat)=q.num:=Zj (by have:=Orq.nat_pos q.den_pos; grind);rw [show (q.num:Rat) / (q.den:Rat)=q from this] at h2; exact h2.symm
    rw [e,Ed];have hd1:(1:Rat)<=(q.den:Rat):=by
     have:((1:Nat):Rat)<=(q.den:Rat):=Zc.2 q.den_pos;exact this
    have e2:Fp (q.den:Rat)=(q.den:Rat):=by unfold Fp; rw [if_neg (by grind)]
    rw [e2];have:=Mw (a:=Fp q) (c:=1) (H7 q) Qq (by decide) hd1;grind
   rw [S9] at h1;refine Za h1 (Zc.2 (by omega))
theorem Q55 {p q:List Int} (hp:Cp p) (hq:Cp q):Cp (O6 p q):=by unfold O6; split <;> assumption
theorem Zf1 {a b:Pt} {t:Tm} (ha:Sc a.c) (hb:Sc b.c) (ht:Va t):Fa Tryz.prog 179 [.one (.int .i64 1),.agg (ta t),.one (.row [H5 a,H5 b])] [.agg (Qdd (Ch (Hk t) a b)),.one (.int .i64 0)]:=by
 have h1:=Qbg ha hb;have h2:=Qbf ha hb;refine Hl Tryz.func179 rfl ?_;refine go tt [.c [] Q5p,.f rfl] rfl trivial ?_;refine lp (S:=Nat) 3 (λL1 i=>(22,.v (.one (.int .i64 (i:Int))))::L1) (λi=>[.blk 74 (ta t),.blk 90 zCt,.blk 90 [.int .i64 1,.int .i64 (if 1<=i then a.id else 0),.int .i64 (if 2<=i then b.id else 0),.int .i64 0,.int .i64 0,.nils,.int .i64 0]]) (λi=>2-i) (λi=>i<=2) 0 (Qi _) rfl (λ_ _=>rfl) rfl λi hi=>?_
 rcases (show i=0\/i=1\/i=2 by omega) with rfl | rfl | rfl
 ·refine go tt [.t rfl,.x (i:=0) (xs:=H5 a) rfl,.i 0] rfl (by simp [U9]) ?_;exact rd 1 (by omega) (by omega) rfl
 ·refine go tt [.t rfl,.x (i:=1) (xs:=H5 b) rfl,.i 1] rfl (by simp [U9]) ?_;exact rd 2 (by omega) (by omega) rfl
 ·exact en tt [.f rfl,.t rfl,.x (i:=0) (xs:=H5 a) rfl,.x (i:=1) (xs:=H5 b) rfl,.c [] (Q15 ha.n hb.n ha.cb hb.cb),.x (i:=0) (xs:=H5 a) rfl,.x (i:=1) (xs:=H5 b) rfl,.c [] (Q1v ha.n hb.n ha.cb hb.cb),.c [] Q9b,.c [] (Q2c (Q55 h1 h2).dp ht)] rfl rfl trivial
end Orr
namespace Orr
variable {α:Type}
def Sv (lt:α->α->Bool) (out:List α) (x:α):Nat->Nat
 | 0=>0
 |
  k+1=>match out[k]? with
  | some y=>if lt x y=true then Sv lt out x k else k+1
  | none=>k+1
theorem Qsu (lt:α->α->Bool) (out:List α) (x:α):∀ k,Sv lt out x k<=k
 | 0=>Ql _
 |
  k+1=>by
  simp only [Sv]
  split
  ·split
   ·exact Nat.le_succ_of_le (Qsu lt out x k)
   ·exact Ql _
  ·exact Ql _
theorem Qcy {lt:α->α->Bool} {out:List α} {x y:α} {k:Nat} (hx:out[k]? = some y) (h:lt x y=true):Sv lt out x (k+1)=Sv lt out x k:=by
 simp only [Sv,hx,h,if_true]
theorem Oc {lt:α->α->Bool} {out:List α} {x y:α} {k:Nat} (hx:out[k]? = some y) (h:lt x y=false):Sv lt out x (k+1)=k+1:=by
 simp [Sv,hx,h]
def M8 (lt:α->α->Bool) (out:List α) (x:α):List α:=out.take (Sv lt out x out.length)++x::out.drop (Sv lt out x out.length)
theorem Zbn (lt:α->α->Bool) (out:List α) (x:α):(M8 lt out x).length=out.length+1:=by
 have:=Qsu lt out x out.length;simp [M8]; omega
theorem Qfa {lt:α->α->Bool} {out:List α} {x y:α}:y∈M8 lt out x↔y=x\/y∈out:=by
 have h:y∈out↔y∈out.take (Sv lt out x out.length)\/y∈out.drop (Sv lt out x out.length):=by
  rw [<-Qu,Zd]
 simp only [M8,Qu,Qm,h];constructor
 ·rintro (h | h | h)
  ·exact .inr (.inl h)
  ·exact .inl h
  ·exact .inr (.inr h)
 ·rintro (h | h | h)
  ·exact .inr (.inl h)
  ·exact .inl h
  ·exact .inr (.inr h)
def Gy (lt:α->α->Bool) (l:List α):List α:=l.foldl (M8 lt) []
theorem Q08 (lt:α->α->Bool) (l:List α) (x:α):Gy lt (l++[x])=M8 lt (Gy lt l) x:=by simp [Gy,V8]
theorem Ah {lt:α->α->Bool} {l:List α} {i:Nat} {x:α} (h:l[i]? = some x):Gy lt (l.take (i+1))=M8 lt (Gy lt (l.take i)) x:=by
 rw [Zq,h]; exact Q08 _ _ _
theorem Qlz (lt:α->α->Bool):∀ (l acc:List α),(l.foldl (M8 lt) acc).length=acc.length+l.length
 | [],acc=>by simp
 | c::l,acc=>by simp only [Xg]; rw [Qlz lt l (M8 lt acc c),Zbn]; simp; omega
theorem Te (lt:α->α->Bool) (l:List α):(Gy lt l).length=l.length:=by unfold Gy; rw [Qlz]; simp
theorem Qd0 (lt:α->α->Bool):∀ (l acc:List α) {y:α},y∈l.foldl (M8 lt) acc↔y∈l\/y∈acc
 | [],acc,y=>by simp
 |
  c::l,acc,y=>by
  simp only [Xg];rw [Qd0 lt l,Qfa,Qm];constructor
  ·rintro (h | h | h)
   ·exact .inl (.inr h)
   ·exact .inl (.inl h)
   ·exact .inr h
  ·rintro ((h | h) | h)
   ·exact .inr (.inl h)
   ·exact .inl h
   ·exact .inr (.inr h)
theorem Ma {lt:α->α->Bool} {l:List α} {y:α}:y∈Gy lt l↔y∈l:=by
 unfold Gy; rw [Qd0]; simp
end Orr
namespace Orr
open Go Orq
structure Wt where
 c:Ct
 known:Bool
 fails:Option Tm
def f0:Option Tm->LV | none=>.row [] | some t=>pl t.p
def f1:Option Tm->LV | none=>.bool false | some t=>sg t.lo.num
def f2:Option Tm->LV | none=>.row [] | some t=>mg t.lo.num
def f3:Option Tm->LV | none=>.bool false | some t=>sg (t.lo.den:Int)
def f4:Option Tm->LV | none=>.row [] | some t=>mg (t.lo.den:Int)
def f5:Option Tm->LV | none=>.bool false | some t=>sg t.hi.num
def f6:Option Tm->LV | none=>.row [] | some t=>mg t.hi.num
def f7:Option Tm->LV | none=>.bool false | some t=>sg (t.hi.den:Int)
def f8:Option Tm->LV | none=>.row [] | some t=>mg (t.hi.den:Int)
abbrev fl (o:Option Tm):List LV:=[f0 o,f1 o,f2 o,f3 o,f4 o,f5 o,f6 o,f7 o,f8 o]
abbrev wl (w:Wt):List LV:=[.int .i64 w.c.kind,.int .i64 w.c.i0,.int .i64 w.c.i1,.int .i64 w.c.i2,.int .i64 w.c.i3,pl w.c.p,.int .i64 w.c.want,.bool w.known,.bool w.fails.isSome,f0 w.fails,f1 w.fails,f2 w.fails,f3 w.fails,f4 w.fails,f5 w.fails,f6 w.fails,f7 w.fails,f8 w.fails]
def Qdf (l:List Wt):List (List LV):=l.map λw=>wl w
theorem S8 {l:List Wt} {i:Nat} {w:Wt} (h:l[i]? = some w):(Qdf l)[i]? = some (wl w):=Ho h
theorem Cz (l:List Wt):(Qdf l).length=l.length:=by simp [Qdf]
structure Cr where
 now:Tm
 l:List Wt
 ev:Int
abbrev C7 (c:Cr) (r0 r1:List (List LV)):List LV:=.bool true::pl c.now.p::sg c.now.lo.num::mg c.now.lo.num::sg (c.now.lo.den:Int)::mg (c.now.lo.den:Int)::sg c.now.hi.num::mg c.now.hi.num::sg (c.now.hi.den:Int)::mg (c.now.hi.den:Int)::.row (Qdf c.l)::.int .i64 c.ev::[.row r0,.row r1]
structure WtOk (w:Wt):Prop where
 p:Cp w.c.p
 f:∀ t,w.fails=some t->Va t
structure CrOk (c:Cr):Prop where
 n:Va c.now
 l:∀ w∈c.l,WtOk w
 k:c.l.length<=1000
def Zdt (a b:Ct):Bool:=decide ([a.kind,a.i0,a.i1,a.i2,a.i3]=[b.kind,b.i0,b.i1,b.i2,b.i3])
def fresh (x:Ct):Wt:=⟨x,false,none⟩
def E8:List Wt->Ct->Tm->Option Wt
 | [],x,_=>some (fresh x)
 |
  w::l,x,at_=>if Zdt w.c x=true/\w.known=true/\w.c.p=x.p then
   match w.fails with
   | none=>some ⟨x,true,none⟩
   | some t=>(Qja t at_).bind λc=>if 0<c then some ⟨x,true,some t⟩ else E8 l x at_
  else E8 l x at_
def Qfc (old:List Wt) (at_:Tm):List Ct->Option (List Wt)
 | []=>some []
 | x::l=>(E8 old x at_).bind λw=>(Qfc old at_ l).bind λr=>some (w::r)
end Orr
namespace Orr
open Go Go.Proofs Orq
set_option maxRecDepth 10000
theorem Qye {T:Nat} {c:Cr} {r0 r1:List (List LV)} (hc:Va c.now):Rh Tryz.prog 21 [.one (.ow 0 0)] [.blk T (C7 c r0 r1)] [.agg (ta c.now)] [.blk T (C7 c r0 r1)]:=by
 have cl:=Ir (b:=c.now) (l:=[]) hc.tb (λt ht=>by cases ht) (by decide) rfl;refine Hl Tryz.func21 rfl ?_;exact ed tt [] [0] [.f rfl,.c [] cl] rfl trivial
theorem Q8l {T:Nat} {c:Cr} {r0 r1:List (List LV)} (hc:CrOk c):Rh Tryz.prog 22 [.one (.ow 0 0)] [.blk T (C7 c r0 r1)] [.one (.row (Gm (H8 (c.l.map (·.c)))))] [.blk T (C7 c r0 r1)]:=by
 have hk:=hc.k;have hw:=Cz c.l;refine Hl Tryz.func22 rfl ?_;refine go tt [.o 3 90 7] rfl trivial ?_;refine lp (S:=Nat) 2 (λL1 i=>(11,.v (.one (.int .i64 (i:Int))))::(3,.v (.one (.orow 1 7 none)))::L1) (λi=>[.blk T (C7 c r0 r1),.row false 90 7 (Gm ((c.l.map (·.c)).take i))]) (λi=>c.l.length-i) (λi=>i<=c.l.length) 0 (Qi _) rfl (λ_ _=>rfl) rfl λi hi=>?_
 by_cases hlt:i<c.l.length
 ·obtain ⟨x,hx⟩:=gxE (l:=c.l) (i:=i) hlt;have hm:∀ y∈[Qdd x.c],y.length=7:=λy hy=>by rw [Qk.1 hy]; rfl
  have hg:(c.l.map (·.c)).take (i+1)=(c.l.map (·.c)).take i++[x.c]:=by
   rw [Zq,Zb,hx]; rfl
  have hl:decide ((i:Int)<((Qdf c.l).length:Int))=true:=by simp [hw]; omega
  obtain ⟨xc,xk,xf⟩:=x;cases xf <;> (refine go tt [.t hl,.x (S8 hx),.s (sz:=7) hm] rfl (by simp [U9,Dh]; omega) ?_; exact rd (i+1) (by omega) hlt (by rw [hg]; simp [Gm]; rfl))
 ·obtain rfl:i=c.l.length:=by omega
  have e:(c.l.map (·.c)).take c.l.length=c.l.map (·.c):=Qo (by simp);rw [e];have cs:=Qyj (l:=c.l.map (·.c)) (λx hx=>by
   obtain ⟨w,hw,rfl⟩:=Zp.1 hx;exact Dp.pb (hc.l w hw).p.dp) (by simp; omega)
  exact ed tt [] [0] [.f (by simp [hw]),.c [] cs] rfl trivial
theorem Zlq {T:Nat} {c:Cr} {r0 r1:List (List LV)} {x:Ct} {at_:Tm} {w:Wt} (hc:CrOk c) (hx:Cp x.p) (ha:Va at_) (h:E8 c.l x at_=some w):Rh Tryz.prog 223 [.one (.ow 0 0),.agg (Qdd x),.agg (ta at_)] [.blk T (C7 c r0 r1)] [.agg (wl w)] [.blk T (C7 c r0 r1)]:=by
 have hk:=hc.k;have hw:=Cz c.l;refine Hl Tryz.func223 rfl ?_;refine go tt [] rfl trivial ?_;refine lp (S:=Nat) 4 (λL1 i=>(14,.v (.one (.int .i64 (i:Int))))::L1) (λ_=>[.blk T (C7 c r0 r1),.blk 90 (Qdd x),.blk 74 (ta at_),.blk 167 [.int .i64 0,.int .i64 0,.int .i64 0,.int .i64 0,.int .i64 0,.nils,.int .i64 0,.bool false,.bool false,.nils,.bool false,.nils,.bool false,.nils,.bool false,.nils,.bool false,.nils]]) (λi=>c.l.length-i) (λi=>i<=c.l.length/\E8 (c.l.drop i) x at_=some w) 0 ⟨Qi _,h⟩ rfl (λ_ _=>rfl) rfl λi ⟨hi,hf⟩=>?_
 by_cases hlt:i<c.l.length
 ·obtain ⟨v,hv⟩:=gxE (l:=c.l) (i:=i) hlt;have hdr:c.l.drop i=v::c.l.drop (i+1):=by
   rw [Zl hlt]; congr 1;have:=Qd hlt; rw [hv] at this; injection this with this; exact this.symm
  have hvo:=hc.l v (Qa hv);rw [hdr] at hf;simp only [E8] at hf;have hl:decide ((i:Int)<((Qdf c.l).length:Int))=true:=by simp [hw]; omega
  by_cases A:Zdt v.c x=true
  ·have A':(!decide ([v.c.kind,v.c.i0,v.c.i1,v.c.i2,v.c.i3]=[x.kind,x.i0,x.i1,x.i2,x.i3]))=false:=by
    unfold Zdt at A; rw [A]; rfl
   by_cases B:v.known=true
   ·have B':(!v.known)=false:=by rw [B]; rfl
    have cs:=Qq2 (p:=v.c.p) (q:=x.p) (Dp.pb hvo.p.dp).ln (Dp.pb hx.dp).ln (Dp.pb hvo.p.dp).bd (Dp.pb hx.dp).bd;rw [hvo.p.t,hx.t] at cs;by_cases C:v.c.p=x.p
    ·have C':(!decide (v.c.p=x.p))=false:=by simp [C]
     rw [if_pos ⟨A,B,C⟩] at hf;obtain ⟨vc,vk,vf⟩:=v;cases vf with
     |
      none =>
      injection hf with hf; subst hf;exact ed tt [] [0] [.t hl,.x (S8 hv),.g 24 false A',.g 29 false B',.c [] cs,.f C',.g 41 true rfl,.t rfl] rfl trivial
     |
      some t =>
      obtain ⟨r,r1',hf⟩:=Qg.1 hf;have cc:=Qkq (hvo.f t rfl).tb ha.tb r1';by_cases D:0<r
      ·rw [if_pos D] at hf;injection hf with hf; subst hf;exact ed tt [] [0] [.t hl,.x (S8 hv),.g 24 false A',.g 29 false B',.c [] cs,.f C',.g 41 false rfl,.c [] cc,.t (by simpa using D)] rfl trivial
      ·rw [if_neg D] at hf;refine go tt [.t hl,.x (S8 hv),.g 24 false A',.g 29 false B',.c [] cs,.f C',.g 41 false rfl,.c [] cc,.f (by simpa using D)] rfl (by simp [U9]; omega) ?_;exact rd (i+1) (by omega) ⟨hlt,hf⟩ rfl
    ·rw [if_neg λh=>C h.2.2] at hf;refine go tt [.t hl,.x (S8 hv),.g 24 false A',.g 29 false B',.c [] cs,.t (by simp [C])] rfl (by simp [U9]; omega) ?_;exact rd (i+1) (by omega) ⟨hlt,hf⟩ rfl
   ·rw [if_neg λh=>B h.2.1] at hf;refine go tt [.t hl,.x (S8 hv),.g 24 false A',.g 29 true (by simpa using B),.t rfl] rfl (by simp [U9]; omega) ?_;exact rd (i+1) (by omega) ⟨hlt,hf⟩ rfl
  ·rw [if_neg λh=>A h.1] at hf;refine go tt [.t hl,.x (S8 hv),.g 24 true (by rw [show decide ([v.c.kind,v.c.i0,v.c.i1,v.c.i2,v.c.i3]=[x.kind,x.i0,x.i1,x.i2,x.i3])=false from Bool.eq_false_iff.2 A]; rfl),.g 29 true rfl,.t rfl] rfl (by simp [U9]; omega) ?_;exact rd (i+1) (by omega) ⟨hlt,hf⟩ rfl
 ·obtain rfl:i=c.l.length:=by omega
  rw [Y0] at hf;simp only [E8] at hf;injection hf with hf; subst hf;exact ed tt [] [0] [.f (by simp [hw])] rfl trivial
theorem Qfd {old:List Wt} {at_:Tm}:∀ {l:List Ct} {ws:List Wt},Qfc old at_ l=some ws->ws.length=l.length/\∀ (i:Nat) (x:Ct),l[i]? = some x->∃ w,E8 old x at_=some w/\ws[i]? = some w
 | [],ws,h=>by injection h with h; subst h; exact ⟨rfl,λi x hx=>by simp at hx⟩
 |
  y::l,ws,h=>by
  simp only [Qfc] at h;obtain ⟨w,hw,h⟩:=Qg.1 h;obtain ⟨r,hr,h⟩:=Qg.1 h;injection h with h; subst h;obtain ⟨a,b⟩:=Qfd hr;refine ⟨by simp [a],λi x hx=>?_⟩;cases i with
  | zero=>injection hx with hx; subst hx; exact ⟨w,hw,rfl⟩
  | succ i=>exact b i x (by simpa using hx)
theorem Qh9 {l:List Wt} {i:Nat} {w:Wt} (h:l[i]? = some w):Qdf (l.take (i+1))=Qdf (l.take i)++[wl w]:=by
 rw [Zq,h]; simp [Qdf]
theorem Zfz {T:Nat} {c:Cr} {r0 r1:List (List LV)} {at_:Tm} {l:List Ct} {ws:List Wt} (hc:CrOk c) (ha:Va at_) (hl:∀ x∈l,Cp x.p) (hn:l.length≤1000) (h:Qfc c.l at_ (H8 l)=some ws):Rh Tryz.prog 171 [.one (.ow 0 0),.agg (ta at_),.one (.bool true),.one (.row (Gm l))] [.blk T (C7 c r0 r1)] [] [.blk T (C7 ⟨at_,ws,c.ev⟩ r0 r1)]:=by
 have cs:=Qyj (l:=l) (λx hx=>Dp.pb (hl x hx).dp) (by omega);have cl:=Ir (b:=at_) (l:=[]) ha.tb (λt ht=>by cases ht) (by decide) rfl;obtain ⟨h1,h2⟩:=Qfd h;have hs:(H8 l).length=l.length:=Ep l;refine Hl Tryz.func171 rfl ?_;refine go tt [.o 8 167 18,.c [] cs] rfl trivial ?_;refine lp (S:=Nat) 3 (λL1 i=>(15,.v (.one (.int .i64 (i:Int))))::(8,.v (.one (.orow 2 18 none)))::L1) (λi=>[.blk T (C7 c r0 r1),.blk 74 (ta at_),.row false 167 18 (Qdf (ws.take i))]) (λi=>ws.length-i) (λi=>i<=ws.length) 0 (Qi _) rfl (λ_ _=>rfl) rfl λi hi=>?_
 by_cases hlt:i<ws.length
 ·obtain ⟨x,hx⟩:=gxE (l:=(H8 l)) (i:=i) (by omega);obtain ⟨w,hw,hw'⟩:=h2 i x hx;have hm:∀ y∈[wl w],y.length=18:=λy hy=>by rw [Qk.1 hy]; rfl
  have hlt':decide ((i:Int)<((Gm (H8 l)).length:Int))=true:=by simp [Gm]; omega
  have ck:=Zlq (T:=T) (r0:=r0) (r1:=r1) hc (hl x (Qh1 (Qa hx))) ha hw;have hg:=Qh9 hw';obtain ⟨wc,wk,wf⟩:=w;cases wf <;> (refine go tt [.t hlt',.x (Qdx hx),.t rfl,.c [0] ck,.s (sz:=18) hm] rfl (by simp [U9,Cz]; omega) ?_; exact rd (i+1) (by omega) hlt (by rw [hg]; rfl))
 ·obtain rfl:i=ws.length:=by omega
  rw [Qy];have hge:decide ((ws.length:Int)<((Gm (H8 l)).length:Int))=false:=by simp [Gm]; omega
  exact ed tt [] [0] [.f hge,.p 2,.c [] cl] rfl trivial
abbrev crz (r0 r1:LV):List LV:=[.bool false,.nils,.bool false,.nils,.bool false,.nils,.bool false,.nils,.bool false,.nils,.nils,.int .i64 0,r0,r1]
theorem Zfy {T:Nat} {r0 r1:List (List LV)} {at_:Tm} {l:List Ct} (ha:Va at_) (hl:∀ x∈l,Cp x.p) (hn:l.length≤1000):Rh Tryz.prog 171 [.one (.ow 0 0),.agg (ta at_),.one (.bool false),.one (.row (Gm l))] [.blk T (crz (.row r0) (.row r1))] [] [.blk T (C7 ⟨at_,(H8 l).map fresh,0⟩ r0 r1)]:=by
 have cs:=Qyj (l:=l) (λx hx=>Dp.pb (hl x hx).dp) (by omega);have cl:=Ir (b:=at_) (l:=[]) ha.tb (λt ht=>by cases ht) (by decide) rfl;have hs:(H8 l).length=l.length:=Ep l;refine Hl Tryz.func171 rfl ?_;refine go tt [.o 8 167 18,.c [] cs] rfl trivial ?_;refine lp (S:=Nat) 3 (λL1 i=>(15,.v (.one (.int .i64 (i:Int))))::(8,.v (.one (.orow 2 18 none)))::L1) (λi=>[.blk T (crz (.row r0) (.row r1)),.blk 74 (ta at_),.row false 167 18 (Qdf (((H8 l).map fresh).take i))]) (λi=>l.length-i) (λi=>i<=l.length) 0 (Qi _) rfl (λ_ _=>rfl) rfl λi hi=>?_
 by_cases hlt:i<l.length
 ·obtain ⟨x,hx⟩:=gxE (l:=(H8 l)) (i:=i) (by omega);have hm:∀ y∈[wl (fresh x)],y.length=18:=λy hy=>by rw [Qk.1 hy]; rfl
  have hlt':decide ((i:Int)<((Gm (H8 l)).length:Int))=true:=by simp [Gm]; omega
  have hg:=Qh9 (l:=(H8 l).map fresh) (i:=i) (w:=fresh x) (by rw [Zb,hx]; rfl);refine go tt [.t hlt',.x (Qdx hx),.z 20,.f rfl,.s (sz:=18) hm] rfl (by simp [U9,Cz]; omega) ?_;exact rd (i+1) (by omega) hlt (by rw [hg]; rfl)
 ·obtain rfl:i=l.length:=by omega
  rw [Qo (by simp; omega)];have hge:decide ((l.length:Int)<((Gm (H8 l)).length:Int))=false:=by simp [Gm]; omega
  exact ed tt [] [0] [.f hge,.p 2,.c [] cl] rfl trivial
theorem Q5l {T:Nat} {r0 r1:List (List LV)} {at_:Tm} {l:List Ct} (ha:Va at_) (hl:∀ x∈l,Cp x.p) (hn:l.length≤1000):Rh Tryz.prog 130 [.one (.ow 0 0),.agg (ta at_),.one (.row (Gm l))] [.blk T (crz (.row r0) (.row r1))] [] [.blk T (C7 ⟨at_,(H8 l).map fresh,0⟩ r0 r1)]:=by
 have cl:=Zfy (T:=T) (r0:=r0) (r1:=r1) ha hl hn;refine Hl Tryz.func130 rfl ?_;exact ed tt [] [0] [.g 12 false rfl,.c [0] cl] rfl trivial
theorem eB {a b:Bool} (h:a=b):TV.one (LV.bool a)=.one (.bool b):=h ▸ rfl
theorem Qjy:∀ {k:Nat} {g:List Int} {l:List (List Int)},Pb g->Qhi k g=some l->l.length≤k/\∀ p∈l,Pb p
 | 0,_,_,_,h=>by cases h
 |
  k+1,g,l,hg,h=>by
  simp only [Qhi] at h
  split at h
  ·injection h with h; subst h; exact ⟨by simp,λp hp=>by cases hp⟩
  ·obtain ⟨d,hd,h⟩:=Qg.1 h;obtain ⟨rfl,hdp⟩:=Qmq hd;obtain ⟨x,hx,h⟩:=Qg.1 h;obtain ⟨q,hq,h⟩:=Qg.1 h;obtain ⟨r,hr,h⟩:=Qg.1 h;injection h with h; subst h;obtain ⟨i1,i2⟩:=Qjy (Qhr hg hdp hx) hr;refine ⟨by simp; exact i1,λp hp=>?_⟩;rcases Qm.1 hp with rfl | hp
   ·exact Qz6 hq
   ·exact i2 p hp
theorem Q9g {a:List Int} {l:List (List Int)} (ha:Pb a) (h:Qhi 66 (Fi a)=some l):Fa Tryz.prog 332 [pr a] [.one (.row (Pk l))]:=by
 have hp:=Tl ha;refine Hl Tryz.func332 rfl ?_;refine go tt [.o 3 48 1,.c [] (Ao ha)] rfl trivial ?_;refine lp (S:=Nat×List (List Int)×List Int) 1 (λL1 s=>(4,.v (pr s.2.2))::(3,.v (.one (.orow 0 1 none)))::L1) (λs=>[.row false 48 1 (Pk s.2.1)]) (λs=>s.1) (λs=>Pb s.2.2/\s.2.1.length+s.1<=66/\∃ m,Qhi s.1 s.2.2=some m/\s.2.1++m=l) (66,[],Fi a) ⟨hp,Ql _,l,h,rfl⟩ rfl (λ_ _=>rfl) rfl λ⟨k,out,g⟩ ⟨j1,j2,m,j3,j4⟩=>?_
 dsimp only at j1 j2 j3 j4 ⊢;cases k with
 | zero=>cases j3
 |
  succ k =>
  simp only [Qhi] at j3
  split at j3
  ·rename_i h0;injection j3 with j3; subst j3;rw [Zo] at j4;subst j4;exact en tt [.c [] (Bq _),.f (by simp; omega)] rfl rfl trivial
  ·rename_i h0;obtain ⟨d,hd,j3⟩:=Qg.1 j3;obtain ⟨rfl,hdp⟩:=Qmq hd;obtain ⟨x,hx,j3⟩:=Qg.1 j3;obtain ⟨q,hq,j3⟩:=Qg.1 j3;obtain ⟨r,hr,j3⟩:=Qg.1 j3;injection j3 with j3; subst j3;have hxp:=Qhr j1 hdp hx;refine go tt [.c [] (Bq _),.t (by simp; omega),.c [] (Is j1.ln j1.bd),.c [] (Q2n j1 hdp hx),.c [] (Q9o j1 hxp hq),.s (sz:=1) (l:=[[pl q]]) (λc hc=>by rw [Qk.1 hc]; rfl)] rfl (by simp [U9,El]; omega) ?_;exact rd (k,out++[q],x) (by dsimp only; omega) ⟨hxp,by simp; omega,r,hr,by rw [<-j4]; simp⟩ (by rw [Qmu]; rfl)
theorem Qls:∀ {l r:List (List Int)},Qny l=some r->r.length=l.length/\∀ i w,l[i]? = some w->(match l[i+1]? with | some v=>∃ f,Qb4 w v=some f/\r[i]? = some f | none=>r[i]? = some w)
 | [],r,h=>by injection h with h; subst h; exact ⟨rfl,λi w hw=>by simp at hw⟩
 |
  [w],r,h=>by
  injection h with h; subst h;refine ⟨rfl,λi x hx=>?_⟩;cases i with
  | zero=>simpa using hx
  | succ i=>simp at hx
 |
  w::v::l,r,h=>by
  simp only [Qny] at h;obtain ⟨f,hf,h⟩:=Qg.1 h;obtain ⟨s,hs,h⟩:=Qg.1 h;injection h with h; subst h;obtain ⟨i1,i2⟩:=Qls hs;refine ⟨by simp [i1],λi x hx=>?_⟩;cases i with
  |
   zero =>
   injection hx with hx; subst hx;exact ⟨f,hf,rfl⟩
  |
   succ i =>
   have:=i2 i x (by simpa using hx);simpa using this
theorem Qru:∀ {l r:List (List Int)},(∀ p∈l,Pb p)->Qny l=some r->∀ p∈r,Pb p
 | [],r,_,h=>by injection h with h; subst h; exact λp hp=>by cases hp
 | [w],r,hl,h=>by injection h with h; subst h; exact hl
 |
  w::v::l,r,hl,h=>by
  simp only [Qny] at h;obtain ⟨f,hf,h⟩:=Qg.1 h;obtain ⟨s,hs,h⟩:=Qg.1 h;injection h with h; subst h;intro p hp;rcases Qm.1 hp with rfl | hp
  ·exact Qz6 hf
  ·exact Qru (λp hp=>hl p (Qj _ hp)) hs p hp
theorem Q5h {a:List Int} {l r:List (List Int)} (ha:Pb a) (h:Qhi 66 (Fi a)=some l) (hr:Qny l=some r):Fa Tryz.prog 302 [pr a] [.one (.row (Pk r))]:=by
 obtain ⟨i1,i2⟩:=Qjy (Tl ha) h;obtain ⟨j1,j2⟩:=Qls hr;have hw:=El l;refine Hl Tryz.func302 rfl ?_;refine go tt [.c [] (Q9g ha h),.i (Pk l).length,.i (Pk l).length] rfl (by simp [U9,hw]; omega) ?_;rw [hw,E5 λi=>[pl (r.getD i [])]];refine lp (S:=Nat) 1 (λL1 k=>(14,.v (.one (.int .i64 (k:Int))))::L1) (λk=>[.row false 48 1 (fil (λi=>[pl (r.getD i [])]) [.nils] l.length k)]) (λk=>l.length-k) (λk=>k<=l.length) 0 (Qi _) rfl (λ_ _=>rfl) rfl λk hk=>?_
 by_cases hlt:k<l.length
 ·obtain ⟨w,hx⟩:=gxE (l:=l) (i:=k) hlt;have e:=Qaa (λi=>[pl (r.getD i [])]) [.nils] hlt;have hg:=j2 k w hx;by_cases h2:k+1<l.length
  ·obtain ⟨v,hv⟩:=gxE (l:=l) (i:=k+1) h2;rw [hv] at hg;obtain ⟨f,f1,f2⟩:=hg;have e2:r.getD k []=f:=by rw [Qe,f2]; rfl
   rw [e2] at e;refine go tt [.t (by simp [hw]; omega),.x (Ta hx),.i k,.t (by simp [hw]; omega),.x (i:=k+1) (Ta hv),.c [] (Q9o (i2 w (Qa hx)) (i2 v (Qa hv)) f1),.i k] rfl (by simp [U9,A2,hw]; omega) ?_;rw [List.set_set,e];exact rd (k+1) (by omega) hlt rfl
  ·have hv:l[k+1]? = none:=Qt (by omega);rw [hv] at hg;have e2:r.getD k []=w:=by rw [Qe,hg]; rfl
   rw [e2] at e;refine go tt [.t (by simp [hw]; omega),.x (Ta hx),.i k,.f (by simp [hw]; omega)] rfl (by simp [U9,A2,hw]; omega) ?_;rw [e];exact rd (k+1) (by omega) hlt rfl
 ·obtain rfl:k=l.length:=by omega
  have e:fil (λi=>[pl (r.getD i [])]) [.nils] l.length l.length=Pk r:=by
   rw [O9,<-j1];refine Xq λi=>?_
   simp only [Pk,Zb];by_cases hi:i<r.length
   ·rw [X2 hi]; simp [Qe,Qd hi]
   ·rw [Qt (by simpa using hi),Qt (by simpa using hi)]; rfl
  rw [e];exact en tt [.f (by simp [hw])] rfl rfl trivial
theorem Q0d {p:List Int} (tp:Fg p):Fi (Fi p)=Fi p:=by
 by_cases h:p.length=0
 ·have e:Fi p=[]:=by unfold Fi; rw [if_pos h]
  rw [e]; rfl
 ·obtain ⟨h1,h2,h3,h4,_⟩:=S5 tp h;have hc:Se (Fi p)=1:=by
   have h5:Se (Fi p)∣1:=h3 _ λk=>by
    by_cases hk:k<(Fi p).length
    ·rw [Qe,Qd hk]; exact Ek _ (Xv hk)
    ·rw [Qe,Qt (by omega)]; exact Int.dvd_zero _
   have h6:0<=Se (Fi p):=by unfold Se; omega
   exact Int.eq_one_of_dvd_one h6 h5
  have hf:∀ q:List Int,0<Fu q->Ha q=Se q:=λq hq=>by unfold Ha; rw [if_neg (by omega)]
  have hf:=(hf _ h4).trans hc;have e0:∀ q:List Int,q.length≠0->Fi q=Db q (Ha q):=λq hq=>by unfold Fi; rw [if_neg hq]
  have e:=e0 (Fi p) (by omega);rw [hf] at e;rw [e];unfold Db;have e2:(Fi p).map (· / (1:Int))=Fi p:=by
   conv=>rhs; rw [<-List.map_id (Fi p)]
   exact Vn λz _=>by simp
  rw [e2];exact h1
theorem Q41 (i:Nat):(i:Int).tmod 2=((i % 2:Nat):Int):=rfl
theorem Zlv {a:List Int} (ha:Pb a) (h:(Fi a).length=0):Fa Tryz.prog 262 [pr a] [pr []] :=
 w tt Tryz.func262 rfl [.c [] (Ao ha),.t (by simp [Qh h])] rfl rfl trivial
theorem Qcw:∀ {l:List (List Int)} {i:Nat} {p o:List Int},Pb p->(∀ f∈l,Pb f)->Qfm i p l=some o->Pb o
 | [],i,p,o,hp,_,h=>by simp only [Qfm] at h; injection h with h; subst h; exact hp
 |
  f::l,i,p,o,hp,hl,h=>by
  simp only [Qfm] at h
  split at h
  ·obtain ⟨q,hq,h⟩:=Qg.1 h;obtain ⟨rfl,hq'⟩:=Oy (Hq _ _) hq;exact Qcw hq' (λf hf=>hl f (Qj _ hf)) h
  ·exact Qcw hp (λf hf=>hl f (Qj _ hf)) h
theorem Zck:Pb [1]:=⟨rfl,by decide,λz hz=>by rw [Qk.1 hz]; decide⟩
theorem Zov {a o:List Int} (ha:Pb a) (h:Q0a a=some o):Fa Tryz.prog 262 [pr a] [pr o]:=by
 unfold Q0a at h
 split at h
 ·rename_i h0;injection h with h; subst h;exact Zlv ha h0
 rename_i h0;obtain ⟨l,hl,h⟩:=Qg.1 h;obtain ⟨fs,hf,h⟩:=Qg.1 h;have hpa:=Tl ha;have hl':Qhi 66 (Fi (Fi a))=some l:=by rw [Q0d ha.t]; exact hl
 obtain ⟨i1,i2⟩:=Qjy (Tl ha) hl;have i3:=Qru i2 hf;obtain ⟨j1,_⟩:=Qls hf;have hw:=El fs;have co:=Q12 (p:=[1]) (by decide) (λz hz=>by rw [Qk.1 hz]; decide);rw [show trim [1]=[1] from rfl] at co;refine Hl Tryz.func262 rfl ?_;refine go tt [.c [] (Ao ha),.f (by simpa using h0),.c [] co,.c [] (Q5h hpa hl' hf)] rfl (by simp [U9]) ?_;refine lp (S:=Nat×List Int) 0 (λL1 s=>(16,.v (.one (.int .i64 (s.1:Int))))::(3,.v (pr s.2))::L1) (λ_=>[]) (λs=>fs.length-s.1) (λs=>s.1<=fs.length/\Pb s.2/\Qfm s.1 s.2 (fs.drop s.1)=some o) (0,[1]) ⟨Qi _,Zck,h⟩ rfl (λ_ _=>rfl) rfl λ⟨i,p⟩ ⟨k1,k2,k3⟩=>?_
 dsimp only at k1 k2 k3 ⊢;by_cases hlt:i<fs.length
 ·obtain ⟨f,hx⟩:=gxE (l:=fs) (i:=i) hlt;have hdr:fs.drop i=f::fs.drop (i+1):=by
   rw [Zl hlt]; congr 1;have:=Qd hlt; rw [hx] at this; injection this with this; exact this.symm
  rw [hdr] at k3;simp only [Qfm] at k3;have pf:=i3 f (Qa hx);by_cases h2:i % 2=0
  ·rw [if_pos h2] at k3;obtain ⟨q,hq,k3⟩:=Qg.1 k3;obtain ⟨rfl,hq'⟩:=Oy (Hq _ _) hq;refine go tt [.t (by simp [hw]; omega),.x (Ta hx),.t (by rw [Q41,h2]; rfl),.c [] (Q8u k2.t pf.t (Zz k2.l (by decide)) (Zz pf.l (by decide)) k2.b pf.b (by decide))] rfl (by simp [U9]; omega) ?_;exact rd (i+1,Gs p f) (by dsimp only; omega) ⟨hlt,hq',k3⟩ rfl
  ·rw [if_neg h2] at k3;refine go tt [.t (by simp [hw]; omega),.x (Ta hx),.f (by rw [Q41,show i % 2=1 by omega]; rfl)] rfl (by simp [U9]; omega) ?_;exact rd (i+1,p) (by dsimp only; omega) ⟨hlt,k2,k3⟩ rfl
 ·obtain rfl:i=fs.length:=by omega
  rw [Y0] at k3;simp only [Qfm] at k3;injection k3 with k3; subst k3;exact en tt [.f (by simp [hw])] rfl rfl trivial
theorem Qae (z:Int):Fq (z.natAbs:Int)=Fq z:=by unfold Fq; simp
theorem Q87 {x y:LV} {z:Int} (hi:To x y z) (hs:Fq z<=4294967295):Fa Tryz.prog 328 [.agg [x,y]] [.agg (Hn (z.natAbs:Int))]:=by
 obtain ⟨b,l,rfl,rfl,hl,rfl⟩:=hi;have e:(Fl false (val l))=((Fl b (val l)).natAbs:Int):=by rw [Ti]; rfl
 rw [<-e];exact w tt Tryz.func328 rfl [.c [] (Qdr hl (Qc (P6 hs) (by decide))),.c [] (Mb _ _)] rfl rfl trivial
theorem Zgk {n d:Int} (h0:d≠0) (hn:Fq n<=4294967295) (hd:Fq d<=4294967295):Fa Tryz.prog 329 [.agg (Hn n),.agg (Hn d)] [.agg (rl (Rat.divInt n d)),.one (.int .i64 0)] :=
 w tt Tryz.func329 rfl [.c [] (Lz (Fb d) hd),.c [] Ib,.f (by simpa using h0),.c [] (Lz (Fb n) hn),.c [] (Qba h0 hn hd)] rfl rfl trivial
theorem Q6q (l:List Int) (z:Int):most (l++[z])=if most l<z.natAbs then z.natAbs else most l:=by unfold most; rw [List.foldl_append]; rfl
theorem Q31 {s:Nat}:∀ {l:List Int},Bd s l->Fq (most l:Int)<=s:=λ{l}=>by
 suffices h:∀ (l:List Int) (m:Nat),Bd s l->Fq (m:Int)<=s->Fq ((l.foldl (λm z=>if m<z.natAbs then z.natAbs else m) m:Nat):Int)<=s from λhb=>h l 0 hb (by simp [Fq,sz])
 intro l
 induction l with
 | nil=>exact λm _ h=>h
 |
  cons z l ih =>
  intro m hb hm;refine ih _ (λy hy=>hb y (Qj _ hy)) ?_;show Fq ((if m<z.natAbs then z.natAbs else m:Nat):Int)<=s
  split
  ·rw [Qae]; exact hb z (Qw ..)
  ·exact hm
def ozi:Option Nat->List LV
 | none=>[.bool false,.nils]
 | some m=>Hn (m:Int)
def ozr:Option Nat->List LV
 | none=>[.bool false,.row []]
 | some m=>Hn (m:Int)
theorem Zfu {p:List Int} (hp:Pb p) (h0:p.length≠0):Fa Tryz.prog 299 [pr p] [.agg (rl (Hb p)),.one (.int .i64 0)]:=by
 have hl:=hp.l;have hll:(p.take (p.length-1)).length=p.length-1:=by simp
 have hbt:Bd 16777216 (p.take (p.length-1)):=λz hz=>hp.b z (Qn hz)
 refine Hl Tryz.func299 rfl ?_;refine go tt [.c [] (Ri hp.t hp.ln hp.bd),.f (by simpa using h0),.r 18 (eI (b:=((p.length-1:Nat):Int)) (by simp; omega)),.i (p.length-1)] rfl (by simp [U9]; omega) ?_;rw [<-J7];refine lp (S:=Nat×Option Nat) 2 (λL1 s=>(21,.v (.one (.int .i64 (s.1:Int))))::L1) (λs=>[.blk 72 [.bool false,.nils,.bool false,.nils],.blk 51 (ozi s.2)]) (λs=>p.length-1-s.1) (λs=>s.1<=p.length-1/\most ((p.take (p.length-1)).take s.1)=s.2.getD 0) (0,none) ⟨Qi _,rfl⟩ rfl (λ_ _=>rfl) rfl λ⟨i,o⟩ ⟨j1,j2⟩=>?_
 dsimp only at j1 j2 ⊢;by_cases hlt:i<p.length-1
 ·obtain ⟨z,hz⟩:=gxE (l:=(p.take (p.length-1))) (i:=i) (by omega);have bz:Fq z<=16777216:=hbt z (Qa hz);have hst:most ((p.take (p.length-1)).take (i+1))=if o.getD 0<z.natAbs then z.natAbs else o.getD 0:=by
   rw [Zq,hz]; show most (_++[z])=_; rw [Q6q,j2]
  have ca:=Q87 (Fb z) (Qc bz (by decide));have hl1:decide ((i:Int)<(((p.take (p.length-1)).map Hn).length:Int))=true:=by simp; omega
  have bm:Fq ((o.getD 0:Nat):Int)<=16777216:=by rw [<-j2]; exact Q31 λy hy=>hbt y (Qn hy)
  have hcm:B7 (z.natAbs:Int) ((o.getD 0:Nat):Int)>0↔o.getD 0<z.natAbs:=by unfold B7; split <;> (try split) <;> omega
  have cc:Fa Tryz.prog 214 [.agg (Hn (z.natAbs:Int)),.agg (ozr o)] [.one (.int .i64 (B7 (z.natAbs:Int) ((o.getD 0:Nat):Int)))]:=by
   cases o with
   | none=>exact Qgs (Fb _) Dl (by rw [Qae]; omega) (by decide)
   | some m=>exact Qgs (Fb _) (Fb _) (by rw [Qae]; omega) (Qc bm (by decide))
  by_cases hc:o.getD 0<z.natAbs
  ·rw [if_pos hc] at hst;have hd:decide (B7 (z.natAbs:Int) ((o.getD 0:Nat):Int)>0)=true:=by simpa using hcm.2 hc
   cases o <;> (refine go tt [.t hl1,.x (Ho (f:=Hn) hz),.c [] ca,.c [] cc,.t hd] rfl (by simp [U9]; omega) ?_; exact rd (i+1,some z.natAbs) (by dsimp only; omega) ⟨hlt,hst⟩ rfl)
  ·rw [if_neg hc] at hst;have hd:decide (B7 (z.natAbs:Int) ((o.getD 0:Nat):Int)>0)=false:=by
    have:=mt hcm.1 hc; simpa using this
   cases o with
   | none=>refine go tt [.t hl1,.x (Ho (f:=Hn) hz),.c [] ca,.c [] cc,.f hd] rfl (by simp [U9]; omega) ?_; exact rd (i+1,none) (by dsimp only; omega) ⟨hlt,hst⟩ rfl
   | some m=>refine go tt [.t hl1,.x (Ho (f:=Hn) hz),.c [] ca,.c [] cc,.f hd] rfl (by simp [U9]; omega) ?_; exact rd (i+1,some m) (by dsimp only; omega) ⟨hlt,hst⟩ rfl
 ·obtain rfl:i=p.length-1:=by omega
  rw [Qo (by omega)] at j2;have bl:Fq (Fu p)<=16777216:=hp.b _ (Qme h0);have ln:((Fu p).natAbs:Int)≠0:=by have:=Dz hp.t h0; omega
  have cl:=Dw hp.t hp.ln hp.bd;have ca:=Q87 (Fb (Fu p)) (Qc bl (by decide));have bm:Fq ((o.getD 0:Nat):Int)<=16777216:=by rw [<-j2]; exact Q31 hbt
  have cd:Fa Tryz.prog 286 [.agg (Hn ((Fu p).natAbs:Int)),.agg (ozr o)] [.agg (Hn (((Fu p).natAbs:Int)+(most (p.take (p.length-1)):Int)))]:=by
   rw [j2];cases o with
   | none=>exact Qds (Fb _) Dl (by rw [Qae]; omega) (by decide)
   | some m=>exact Qds (Fb _) (Fb _) (by rw [Qae]; omega) (Qc bm (by decide))
  have cm:=Zgk (n:=((Fu p).natAbs:Int)+(most (p.take (p.length-1)):Int)) ln (Qc (Qaf _ _) (by rw [Qae,j2]; omega)) (by rw [Qae]; omega);have hf:decide (((p.length-1:Nat):Int)<(((p.take (p.length-1)).map Hn).length:Int))=false:=by simp
  cases o <;> exact en tt [.f hf,.c [] cl,.c [] ca,.c [] cd,.c [] cm] rfl rfl trivial
end Orr
