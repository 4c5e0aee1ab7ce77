import Derived.Test.YtenbfolapbibpaaGreatPart05
import Derived.Test.YtenbfolapbibpaaGreatPart00
set_option linter.all false
namespace Orq
def HD(p:U9)(n:Nat):Prop:=p.getD n 0≠0/\∀k,n<k->p.getD k 0=0
theorem T0:∀(p q:U9) (k:Nat),(Ma p q).getD k 0=p.getD k 0+q.getD k 0
 | [],q,k=>by simp only[Ma,Wg];grind
 |a::p,[],k=>by simp only[Ma,Wg];grind
 |a::p,b::q,0=>by simp only[Ma,Zu]
 |a::p,b::q,k+1=>by simp only[Ma,Q7];exact T0 p q k
theorem P6(c:Rat):∀(p:U9) (k:Nat),(Ey c p).getD k 0=c*p.getD k 0
 | [],k=>by simp only[Ey,Jq,Wg];grind
 |a::p,0=>by simp[Ey]
 |a::p,k+1=>by have:=P6 c p k;simp only[Ey,Xa,Q7]at *;exact this
variable{p:U9}
theorem Qk0{k:Nat}(h:∀x∈p,x=0):p.getD k 0=0:=by
 rw[Qj];cases e:p[k]? with
 |none=>rfl
 |some x=>exact h x (Qa e)
theorem Et{q:U9}(h:∀t,ev p t=ev q t)(k:Nat):p.getD k 0=q.getD k 0:=by
 have h1:=Qk0 (k:=k) (GY (p:=Ma p (Ey (-1) q)) λt _ _=>by rw[Rf,Hx,h t];grind);rw[T0,P6]at h1;grind
theorem E6:∀{p:U9},(∀k,p.getD k 0=0)->∀t,ev p t=0
 | [],_,t=>rfl
 |
  a::p,h,t=>by
  have h0:=h 0;have h1:=E6 (p:=p) (λk=>by have:=h (k+1);rwa[Q7]at this) t;rw[Zu]at h0;simp only[ev,h0,h1];grind
theorem IU:∀(p:U9),(∀t,ev p t=0)\/∃n,n<p.length/\HD p n
 | []=>.inl λ_=>rfl
 |
  a::p=>by
  rcases IU p with h|⟨n,hn,h1,h2⟩
  ·rcases Classical.em (a=0)with e|e
   ·exact .inl λt=>by simp only[ev,e,h t];grind
   ·refine .inr ⟨0,Fp,by simpa using e,λk hk=>?_⟩;obtain⟨m,rfl⟩:∃m,k=m+1:=⟨k-1,Fj⟩;rw[Q7];exact(Et (p:=p) (q:=[]) h m).trans Fp
  ·refine .inr ⟨n+1,Fo,by rw[Q7];exact h1,λk hk=>?_⟩;obtain⟨m,rfl⟩:∃m,k=m+1:=⟨k-1,Fj⟩;rw[Q7];exact h2 m Fj
variable{n:Nat}
theorem Qvl{q:U9}(h:∀t,ev p t=ev q t)(hp:HD p n):HD q n :=
 ⟨by rw[<-Et h];exact hp.1,λk hk=>by rw[<-Et h];exact hp.2 k hk⟩
theorem Qvm{m:Nat}(h:HD p n)(h':HD p m):n=m:=by
 rcases Vb n m with e|e|e
 ·exact absurd (h.2 m e) h'.1
 ·exact e
 ·exact absurd (h'.2 n e) h.1
theorem Qbg(h:HD p n):¬∀t,ev p t=0:=λh0=>h.1 ((Et (p:=p) (q:=[]) h0 n).trans Fp)
theorem NB{q:U9}(h:∀k,p.getD k 0=0)(k:Nat):(Rl p q).getD k 0=0:=by
 have:=Et (p:=Rl p q) (q:=[]) (λt=>by rw[Gp,E6 h t];simp only[ev];grind) k;rw[this];simp
theorem IF:∀{p q:U9} {m n:Nat},HD p m->HD q n->HD (Rl p q) (m+n)
 | [],q,m,n,h,_=>absurd Fp h.1
 |
  a::p,q,0,n,h,h'=>by
  have h1:∀k,p.getD k 0=0:=λk=>by have:=h.2 (k+1) Fj;rwa[Q7]at this
  have h2:∀k,(Rl (a::p) q).getD k 0=a*q.getD k 0:=λk=>by
   simp only[Rl];rw[T0,P6];cases k with
   |zero=>rw[Zu];grind
   |succ k=>rw[Q7,NB h1];grind
  have h3:=h.1;rw[Zu]at h3;refine⟨?_,λk hk=>?_⟩
  ·rw[h2,Z9];exact λh=>(X3.1 h).elim h3 h'.1
  ·rw[h2,h'.2 k Fj];grind
 |
  a::p,q,m+1,n,h,h'=>by
  have ih:=IF (p:=p) (q:=q) (m:=m) ⟨by have:=h.1;rwa[Q7]at this,λk hk=>by have:=h.2 (k+1) Fj;rwa[Q7]at this⟩ h';refine⟨?_,λk hk=>?_⟩
  ·simp only[Rl];rw[T0,P6,show m+1+n=(m+n)+1 by omega,Q7,h'.2 _ Fj];have:=ih.1;grind
  ·obtain⟨j,rfl⟩:∃j,k=j+1:=⟨k-1,Fj⟩;simp only[Rl];rw[T0,P6,Q7,h'.2 _ Fj,ih.2 j Fj];grind
def JE(g f:U9):Prop:=∃u,∀t,ev f t=ev g t*ev u t
theorem dvd_refl(f:U9):JE f f:=⟨[1],λt=>by rw[S7];grind⟩
theorem dvd_trans{f g h:U9}:JE f g->JE g h->JE f h
 |⟨u,hu⟩,⟨v,hv⟩=>⟨Rl u v,λt=>by rw[hv,hu,Gp];grind⟩
theorem pF{q:U9}(h:∀t,ev p t*ev q t=0)(hp:¬∀t,ev p t=0):∀t,ev q t=0:=by
 rcases IU p with h1|⟨m,_,h1⟩
 ·exact absurd h1 hp
 ·rcases IU q with h2|⟨n,_,h2⟩
  ·exact h2
  ·exact absurd (λt=>by rw[Gp];exact h t) (Qbg (IF h1 h2))
theorem dS{q r:U9}(hp:¬∀t,ev p t=0)(h:∀t,ev p t*ev q t=ev p t*ev r t)(t:Rat):ev q t=ev r t:=by
 have:=pF (p:=p) (q:=Ma q (Ey (-1) r)) (λt=>by rw[Rf,Hx];have:=h t;grind) hp t;rw[Rf,Hx]at this;grind
theorem Qjx{b:U9}{n:Nat}(hb:HD b n):∀(l:Nat) (a:U9),(∀k,l<=k->a.getD k 0=0)->∃q r,(∀t,ev a t=ev q t*ev b t+ev r t)/\∀k,n<=k->r.getD k 0=0
 | 0,a,ha=>⟨[],a,λt=>by simp only[ev];grind,λk _=>ha k (Qg _)⟩
 |
  l+1,a,ha=>by
  rcases Zc l n with h|h
  ·exact⟨[],a,λt=>by simp only[ev];grind,λk hk=>ha k Fj⟩
  ·-- the leading term is taken away
   obtain⟨c,hc⟩:=nmE (a.getD l 0 / b.getD n 0);have hcb:c*b.getD n 0=a.getD l 0:=by rw[hc];exact Zj hb.1
   obtain⟨m,hm⟩:∃m:U9,m=List.replicate (l-n) 0++[c]:=⟨_,rfl⟩;have hsh:∀(i:Nat) (k:Nat),(Rl (List.replicate i 0++[c]) b).getD k 0=if i<=k then c*b.getD (k-i) 0 else 0:=λi=>by
    induction i with
    |zero=>intro k;simp only[W4,Y3,Rl];rw[T0,P6];cases k <;> simp <;> grind
    |
     succ i ih =>
     intro k;simp only[Ym,Xf,Rl];rw[T0,P6];cases k with
     |zero=>rw[Zu,if_neg Fj];grind
     |
      succ k =>
      rw[Q7,ih k];by_cases h:i<=k
      ·rw[if_pos h,if_pos Fj,Nat.add_sub_add_right];grind
      ·rw[if_neg h,if_neg Fj];grind
   obtain⟨q,r,h1,h2⟩:=Qjx hb l (Ma a (Ey (-1) (Rl m b))) λk hk=>by
    rw[T0,P6,hm,hsh,if_pos Fj];rcases V5 hk with e|e
    ·rw[ha k Fj,hb.2 _ Fj];grind
    ·subst e;rw[show l-(l-n)=n by omega,hcb];grind
   refine⟨Ma q m,r,λt=>?_,h2⟩;have:=h1 t;rw[Rf,Hx,Gp]at this;rw[Rf];grind
theorem lH:∀(n:Nat) (a b:U9),(∀k,n<=k->b.getD k 0=0)->∃g U V,JE g a/\JE g b/\∀t,ev g t=ev U t*ev a t+ev V t*ev b t
 |
  0,a,b,h=>by
  have h0:=E6 λk=>h k (Qg _)
  exact⟨a,[1],[],dvd_refl a,⟨[],λt=>by rw[h0];simp only[ev];grind⟩,λt=>by rw[S7];simp only[ev];grind⟩
 |
  n+1,a,b,h=>by
  rcases Classical.em (b.getD n 0=0)with e|e
  ·exact lH n a b λk hk=>by
    rcases V5 hk with e'|e'
    ·exact h k Fj
    ·rw[<-e'];exact e
  ·obtain⟨q,r,h1,h2⟩:=Qjx (b:=b) (n:=n) ⟨e,λk hk=>h k Fj⟩ a.length a λk hk=>by rw[Qj,Qy hk];rfl
   obtain⟨g,U,V,⟨u,hu⟩,⟨v,hv⟩,hg⟩:=lH n b r h2;refine⟨g,V,Ma U (Ey (-1) (Rl V q)),⟨Ma (Rl q u) v,λt=>?_⟩,⟨u,hu⟩,λt=>?_⟩
   ·rw[h1,hv,Rf,Gp,hu];grind
   ·rw[hg,Rf,Hx,Gp,h1];grind
theorem Qkw(a b:U9):∃g U V,JE g a/\JE g b/\∀t,ev g t=ev U t*ev a t+ev V t*ev b t :=
 lH b.length a b λk hk=>by rw[Qj,Qy hk];rfl
def Cop(a b:U9):Prop:=∃U V,∀t,ev U t*ev a t+ev V t*ev b t=1
theorem kG{c d e:U9}(h:Cop c d)(h1:∃u,∀t,ev d t*ev e t=ev c t*ev u t):JE c e:=by
 obtain⟨U,V,h⟩:=h;obtain⟨u,hu⟩:=h1;refine⟨Ma (Rl U e) (Rl V u),λt=>?_⟩;rw[Rf,Gp,Gp];have a1:=h t;have a2:=hu t;have:ev e t=(ev U t*ev c t+ev V t*ev d t)*ev e t:=by rw[a1];grind
 rw[this];have:(ev U t*ev c t+ev V t*ev d t)*ev e t=ev U t*ev c t*ev e t+ev V t*(ev d t*ev e t):=Fq;rw[this,a2];grind
def OD(d:U9):Nat->U9
 | 0=>[1]
 |k+1=>Rl d (OD d k)
theorem aR(d:U9)(t:Rat):∀k:Nat,ev d t*dv (OD d k) t=(k:Rat)*(dv d t*ev (OD d k) t)
 | 0=>by simp only[OD,dv,ev];rw[show((0:Nat):Rat)=0 from rfl];grind
 |
  k+1=>by
  have ih:=aR d t k;have hn':(((k+1:Nat):Rat))=(k:Rat)+1:=by push_cast;rfl
  simp only[OD];rw[kL,Gp,hn'];grind
theorem Qm1{d:U9}{m:Nat}(h:HD d m):∀k,HD (OD d k) (k*m)
 | 0=>by rw[Y6];exact⟨by simp[OD],λk hk=>by simp only[OD];rw[Qj,Qy Fo];rfl⟩
 |k+1=>by rw[Xp,Ye (k*m) m];exact IF h (Qm1 h k)
theorem yY{d g:U9}{m:Nat}(hd:HD d m)(hg:HD g n)(h:∀k,JE (OD d k) g):m=0:=by
 obtain⟨u,hu⟩:=h (n+1);rcases IU u with h1|⟨j,_,h1⟩
 ·exact absurd (λt=>by rw[hu,h1];grind) (Qbg hg)
 ·have:=Qvm (Qvl (λt=>by rw[hu,Gp]) hg) (IF (Qm1 hd (n+1)) h1);rcases Q4 m with e|e
  ·exact e
  ·have:(n+1)*1<=(n+1)*m:=Zv _ e;omega
theorem sqf{a g q d U V:U9}{k:Rat}(hk:k≠0)(ha:∀t,ev a t=ev g t*ev q t)(hg:∀t,k*ev g t=ev U t*ev a t+ev V t*dv a t)(h1:JE d q)(h2:JE d (De q)):∀n,JE (OD d n) g
 | 0=>⟨g,λt=>by simp only[OD];rw[S7];grind⟩
 |
  n+1=>by
  obtain⟨g1,e1⟩:=sqf hk ha hg h1 h2 n;obtain⟨q1,e2⟩:=h1;obtain⟨q2,e3⟩:=h2;have d1:=λt=>XS ha t
  have d2:=λt=>XS e1 t
  have d3:=λt=>XS e2 t
  have d4:=aR d;refine⟨Ey (1 / k) (Ma (Rl U (Rl g1 q1)) (Rl V (Ma (Rl g1 q2) (Ma (Ey n (Rl g1 (Ma q2 (Ey (-1) (De q1))))) (Rl (De g1) q1))))),λt=>?_⟩;have hkk:1 / k*k=1:=Zj hk;simp only[OD,Hx,Rf,Gp,Pi];have b1:=ha t;have b2:=hg t;have b3:=e1 t;have b4:=e2 t;have b5:=e3 t;have b6:=d1 t;have b7:=d2 t;have b8:=d3 t;have b9:=d4 t n;rw[Pi]at b5;generalize ev d t=x0 at *;generalize ev (OD d n) t=x1 at *;generalize ev g t=x2 at *;generalize ev q t=x3 at *;generalize ev a t=x4 at *;generalize dv a t=x5 at *;generalize dv g t=x6 at *;generalize dv q t=x7 at *;generalize ev g1 t=x8 at *;generalize dv g1 t=x9 at *;generalize ev q1 t=y0 at *;generalize dv q1 t=y1 at *;generalize ev q2 t=y2 at *;generalize dv d t=y3 at *;generalize dv (OD d n) t=y4 at *;generalize ev U t=y5 at *;generalize ev V t=y6 at *;generalize (n:Rat)=y7 at *;have:x2=1 / k*(k*x2):=Fq;rw[this,b2];have c1:x5=x0*x1*(x8*y2+(y7*(x8*(y2+-1*y1))+x9*y0)):=by
   rw[b6,b7,b4,b3];have:y3*y0=x0*y2-x0*y1:=Fq;have:x0*y4*(x8*y0)=y7*(x1*x8*(x0*y2-x0*y1)):=by rw[b9,<-this];grind
   grind
  have c2:x4=x0*x1*(x8*y0):=by rw[b1,b3,b4];grind
  rw[c1,c2];grind
theorem Qrl{a b c:U9}(h1:Cop a b)(h2:Cop a c){d:U9}(hd:∀t,ev d t=ev b t*ev c t):Cop a d:=by
 obtain⟨U,V,h1⟩:=h1;obtain⟨X,Y,h2⟩:=h2;refine⟨Ma U (Rl (Rl V b) X),Rl V Y,λt=>?_⟩;have a1:=h1 t;have a2:=h2 t;simp only[Rf,Gp,hd];have:ev V t*ev b t*(ev X t*ev a t+ev Y t*ev c t)=ev V t*ev b t:=by rw[a2];grind
 grind
theorem Qt2{a g q z r X Y:U9}{n:Nat}(ha:∀t,ev a t=ev g t*ev q t)(hz:∀t,dv a t=ev g t*ev z t)(hg:HD g n)(hr:∀t,ev X t*ev r t+ev Y t*dv r t=1)(h:JE r a):JE r q:=by
 obtain⟨b,hb⟩:=h;obtain⟨e,U,V,⟨r1,e1⟩,⟨q3,e2⟩,e3⟩:=Qkw r q;have hr0:¬∀t,ev r t=0:=λh=>by
  have h1:=hr 0;have h2:dv r 0=0:=by have:=Qj2 (p:=r) (q:=[]) h 0;rw[this];rfl
  rw[h,h2]at h1;grind
 have he0:¬∀t,ev e t=0:=λh=>hr0 λt=>by rw[e1,h];grind
 have d1:=λt=>XS e1 t
 have c1:Cop r1 q3:=⟨U,V,λt=>by
  have:=dS (p:=e) (q:=Ma (Rl U r1) (Rl V q3)) (r:=[1]) he0 (λt=>by
   rw[Rf,Gp,Gp,S7];have a1:=e1 t;have a2:=e2 t;have a3:=e3 t;rw[a1,a2]at a3;grind) t
  rw[Rf,Gp,Gp,S7]at this;exact this⟩
 have c2:Cop r1 e:=⟨Ma (Rl X e) (Rl Y (De e)),Rl Y (De r1),λt=>by
  have a1:=hr t;have a2:=e1 t;have a3:=d1 t;simp only[Rf,Gp,Pi];rw[a2,a3]at a1;grind⟩
 have c3:Cop r1 (De r1):=⟨Ma (Rl X e) (Rl Y (De e)),Rl Y e,λt=>by
  have a1:=hr t;have a2:=e1 t;have a3:=d1 t;simp only[Rf,Gp,Pi];rw[a2,a3]at a1;grind⟩
 have c4:Cop r1 q:=Qrl c2 c1 e2;have hgz:=Qbg hg;have hp:∀k,JE (OD r1 k) g:=λk=>by
  induction k with
  |zero=>exact⟨g,λt=>by simp only[OD];rw[S7];grind⟩
  |
   succ k ih =>
   obtain⟨h,eh⟩:=ih;have hpz:¬∀t,ev (OD r1 k) t=0:=λh0=>hgz λt=>by rw[eh,h0];grind
   have key:JE r1 h:=by
    cases k with
    |
     zero =>
     refine kG c4 ⟨Rl e b,λt=>?_⟩;have a1:=ha t;have a2:=hb t;have a3:=e1 t;have a4:=eh t;simp only[OD]at a4;rw[S7]at a4;rw[Gp];grind
    |
     succ k =>
     have hn:((k+1:Nat):Rat)≠0:=by
      have:(0:Rat)<((k+1:Nat):Rat):=by
       have h1:((0:Nat):Rat)<((k+1:Nat):Rat):=V8.2 Fj;simpa using h1
      grind
     have d2:=λt=>XS (f:=a) (w:=OD r1 (k+1)) (u:=Rl h q) (λt=>by rw[ha,eh,Gp];grind) t
     have d4:=aR r1;have h3:=dS (p:=OD r1 (k+1)) (q:=Rl (De r1) (Rl h q)) (r:=Rl r1 (Ey (1 / ((k+1:Nat):Rat)) (Ma (Rl h z) (Ey (-1) (De (Rl h q)))))) hpz λt=>by
      simp only[Gp,Hx,Rf,Pi];have a1:=d2 t;have a2:=d4 t (k+1);have a3:=hz t;have a4:=eh t;rw[Gp]at a1;generalize ((k+1:Nat):Rat)=c at *;have hc:1 / c*c=1:=Zj hn;generalize ev (OD r1 (k+1)) t=x0 at *;generalize dv (OD r1 (k+1)) t=x1 at *;generalize dv (Rl h q) t=x2 at *;generalize ev r1 t=x3 at *;generalize dv r1 t=x4 at *;generalize ev h t=x5 at *;generalize ev q t=x6 at *;generalize ev z t=x7 at *;generalize dv a t=x8 at *;generalize ev g t=x9 at *;generalize 1 / c=c' at *;have s1:x0*(x4*(x5*x6))=c'*(c*(x4*x0))*(x5*x6):=by
       have:c'*(c*(x4*x0))=(c'*c)*(x4*x0):=Fq;rw[this,hc];grind
      rw[s1,<-a2];have s2:x3*(x1*(x5*x6))=x3*(x0*(x5*x7+-1*x2)):=by
       rw[a3,a4]at a1;grind
      grind
     refine kG c4 ?_;obtain⟨u,hu⟩:=kG (e:=Rl q h) c3 ⟨Ey (1 / ((k+1:Nat):Rat)) (Ma (Rl h z) (Ey (-1) (De (Rl h q)))),λt=>by
      have:=h3 t;simp only[Gp]at this ⊢;rw[<-this];grind⟩
     exact⟨u,λt=>by rw[<-hu,Gp]⟩
   obtain⟨u,hu⟩:=key;exact⟨u,λt=>by simp only[OD];rw[Gp,eh,hu];grind⟩
 rcases IU r1 with h1|⟨m,_,h1⟩
 ·exact absurd (λt=>by rw[e1,h1];grind) hr0
 ·obtain rfl:=yY h1 hg hp;have h2:∀t,ev r1 t=r1.getD 0 0:=λt=>by
   cases r1 with
   |nil=>simp[ev]
   |
    cons c l =>
    have:∀t,ev l t=0:=E6 λk=>by have:=h1.2 (k+1) Fj;rwa[Q7]at this
    simp only[ev,this,Zu];grind
  have h3:=h1.1;refine⟨Ey (1 / r1.getD 0 0) q3,λt=>?_⟩;rw[e2,e1,h2,Hx];have:1 / r1.getD 0 0*r1.getD 0 0=1:=Zj h3;have:ev e t*r1.getD 0 0*(1 / r1.getD 0 0*ev q3 t)=ev e t*ev q3 t*(1 / r1.getD 0 0*r1.getD 0 0):=Fq;rw[this,Zj h3];grind
def ZF:Fa->U9
 | []=>[1]
 |w::l=>Rl w (ZF l)
def Lay:Fa->Fa->Prop
 | [],[]=>True
 | [w],[f]=>∀t,ev w t=ev f t
 |w::v::l,f::fs=>(∀t,ev w t=ev f t*ev v t)/\Lay (v::l) fs
 |_,_=>False
def BD:Fa->U9
 | []=>[1]
 | [f]=>f
 |f::_::l=>Rl f (BD l)
theorem Qbs:∀{ws fs:Fa},Lay ws fs->∃S,∀t,ev (ZF ws) t=ev (BD fs) t*(ev S t*ev S t)
 | [],[],_=>⟨[1],λt=>by simp only[ZF,BD];rw[S7];grind⟩
 | [w],[f],h=>⟨[1],λt=>by simp only[ZF,BD];rw[Gp,S7,h t];grind⟩
 |
  [w,v],[f,f2],h=>⟨v,λt=>by
  have h1:=h.1 t;have h2:ev v t=ev f2 t:=h.2 t;simp only[ZF,BD,Gp];rw[S7,h1];grind⟩
 |
  w::v::x::l,f::f2::fs,h=>by
  obtain⟨S,hS⟩:=Qbs h.2.2;refine⟨Rl v S,λt=>?_⟩;have h1:=h.1 t;have h2:=hS t;have e1:ev (ZF (w::v::x::l)) t=ev w t*(ev v t*ev (ZF (x::l)) t):=by simp only[ZF,Gp]
  rw[e1,h2,h1];have e2:ev (BD (f::f2::fs)) t=ev f t*ev (BD fs) t:=by
   cases fs with
   |nil=>cases l <;> exact False.elim h.2.2
   |cons y l=>simp only[BD,Gp]
  rw[e2,Gp];grind
 | [w],[],h=>h.elim
 | [w],_::_::_,h=>h.elim
 | [],_::_,h=>h.elim
 | [w,v],[f],h=>h.2.elim
 | [w,v],_::_::_::_,h=>h.2.elim
 |w::v::x::l,[f],h=>h.2.elim
 |w::v::l,[],h=>h.elim
end Orq
namespace Orq
open Orr Go
theorem aQ(p:U6)(t:Rat):Gf p t=((p.getD 0 0:Int):Rat)+t*Gf p.tail t:=by
 cases p with
 |nil=>show(0:Rat)=((0:Int):Rat)+t*0;grind
 |cons a p=>rfl
theorem PM(p:U6)(k:Nat):p.tail.getD k 0=p.getD (k+1) 0:=by
 cases p <;> simp
theorem Lh(c d:Int)(t:Rat):∀(n:Nat) (p q r:U6),p.length<=n->q.length<=n->r.length<=n->(∀k,r.getD k 0=c*p.getD k 0+d*q.getD k 0)->Gf r t=(c:Rat)*Gf p t+(d:Rat)*Gf q t
 |
  0,p,q,r,hp,hq,hr,_=>by
  rw[Qi (Nat.le_zero.1 hp),Qi (Nat.le_zero.1 hq),Qi (Nat.le_zero.1 hr)];show(0:Rat)=_*0+_*0;grind
 |
  n+1,p,q,r,hp,hq,hr,h=>by
  have ih:=Lh c d t n p.tail q.tail r.tail (by rw[Uh];omega) (by rw[Uh];omega) (by rw[Uh];omega) λk=>by
   rw[PM,PM,PM];exact h (k+1)
  rw[aQ p,aQ q,aQ r,ih,h 0]
  push_cast
  grind
theorem Qch{p q:U6}(h:∀k,p.getD k 0=q.getD k 0)(t:Rat):Gf p t=Gf q t:=by
 have:=Lh 1 0 t (max p.length q.length) q q p (Uj ..) (Uj ..) (Nat.le_max_left ..) λk=>by rw[h k];omega
 rw[this]
 push_cast
 grind
theorem ZR(p:U6)(t:Rat):Gf (trim p) t=Gf p t:=Qch (WR p) t
theorem C9{p:U6}{k:Nat}(h:p.length<=k):p.getD k 0=0:=by
 rw[Qj,Qy h];rfl
theorem jE(p q:U6)(k:Nat):(Eh p q).getD k 0=p.getD k 0+q.getD k 0:=by
 unfold Eh;rw[Mj]
 split
 ·rfl
 ·rename_i h;rw[C9 (p:=p) Fj,C9 (p:=q) Fj];rfl
theorem ZB(p q:U6)(k:Nat):(B7 p q).getD k 0=p.getD k 0-q.getD k 0:=by
 unfold B7;rw[Mj]
 split
 ·rfl
 ·rename_i h;rw[C9 (p:=p) Fj,C9 (p:=q) Fj];rfl
theorem Ba(p:U6)(c:Int)(k:Nat):(Gy p c).getD k 0=p.getD k 0*c:=by
 unfold Gy;rw[Mj]
 split
 ·rfl
 ·rename_i h;rw[C9 (p:=p) Fj,Int.zero_mul]
theorem WJ(p:U6)(k:Nat):(Pp p).getD k 0=-(p.getD k 0):=by
 unfold Pp;rw[Mj]
 split
 ·rfl
 ·rename_i h;rw[C9 (p:=p) Fj];rfl
theorem Nf(p:U6)(k:Nat):(H5 p).getD k 0=p.getD (k+1) 0*((k+1:Nat):Int):=by
 unfold H5;rw[Mj]
 split
 ·rfl
 ·rename_i h;rw[C9 (p:=p) Fj,Int.zero_mul]
theorem OV(p q:U6)(t:Rat):Gf (Eh p q) t=Gf p t+Gf q t:=by
 have:=Lh 1 1 t (max (max p.length q.length) (Eh p q).length) p q (Eh p q) Fj Fj Fj λk=>by rw[jE];omega
 rw[this];push_cast;grind
theorem Cm(p q:U6)(t:Rat):Gf (B7 p q) t=Gf p t-Gf q t:=by
 have:=Lh 1 (-1) t (max (max p.length q.length) (B7 p q).length) p q (B7 p q) Fj Fj Fj λk=>by rw[ZB];omega
 rw[this];push_cast;grind
theorem Ah(p:U6)(t:Rat):Gf (Pp p) t=-Gf p t:=by
 have:=Lh (-1) 0 t (max p.length (Pp p).length) p p (Pp p) Fj Fj Fj λk=>by rw[WJ];omega
 rw[this];push_cast;grind
theorem Sf(p:U6)(c:Int)(t:Rat):Gf (Gy p c) t=Gf p t*(c:Rat):=by
 have:=Lh c 0 t (max p.length (Gy p c).length) p p (Gy p c) Fj Fj Fj λk=>by rw[Ba,Wq];omega
 rw[this];push_cast;grind
theorem uW:∀(l:U6) (j:Nat) (v:Int) (t:Rat),j<l.length->Gf (l.set j v) t=Gf l t+((v:Rat)-((l.getD j 0:Int):Rat))*t^j
 | [],_,_,_,h=>by simp at h
 |
  a::l,0,v,t,_=>by
  show(v:Rat)+t*Gf l t=(a:Rat)+t*Gf l t+((v:Rat)-(a:Rat))*t^0;rw[Xv];grind
 |
  a::l,j+1,v,t,h=>by
  have ih:=uW l j v t (by simpa using h);show(a:Rat)+t*Gf (l.set j v) t=(a:Rat)+t*Gf l t+((v:Rat)-((l.getD j 0:Int):Rat))*t^(j+1);rw[ih,Xo];grind
theorem OK:∀(l:U6) (k:Nat) (t:Rat),k<l.length->Gf (l.take (k+1)) t=Gf (l.take k) t+((l.getD k 0:Int):Rat)*t^k
 | [],_,_,h=>by simp at h
 |
  a::l,0,t,_=>by
  show(a:Rat)+t*Gf (l.take 0) t=0+(a:Rat)*t^0;rw[Xv,Kd];show(a:Rat)+t*0=_;grind
 |
  a::l,k+1,t,h=>by
  have ih:=OK l k t (by simpa using h);show(a:Rat)+t*Gf (l.take (k+1)) t=(a:Rat)+t*Gf (l.take k) t+((l.getD k 0:Int):Rat)*t^(k+1);rw[ih,Xo];grind
theorem yZ(n:Nat)(t:Rat):Gf (List.replicate n 0) t=0:=by
 induction n with
 |zero=>rfl
 |
  succ n ih =>
  show((0:Int):Rat)+t*Gf (List.replicate n 0) t=0;rw[ih];push_cast;grind
theorem nQ(t:Rat)(i:Nat):∀k,t^(i+k)=t^i*t^k
 | 0=>by rw[X5,Xv];grind
 |k+1=>by rw[<-Ve,Xo,Xo,nQ t i k];grind
theorem mQ(x:Int)(b:U6)(i:Nat)(o:U6)(t:Rat):∀k,k<=b.length->i+k<=o.length->Gf (ZK x b i o k) t=Gf o t+(x:Rat)*t^i*Gf (b.take k) t
 |
  0,_,_=>by
  show Gf o t=Gf o t+(x:Rat)*t^i*0;grind
 |
  k+1,h1,h2=>by
  have ih:=mQ x b i o t k Fj Fj;simp only[ZK];rw[uW _ _ _ _ (by rw[ZW];omega),ih,OK b k t Fj];have hp:t^(i+k)=t^i*t^k:=nQ t i k;rw[hp]
  push_cast
  grind
theorem pO(a b o:U6)(t:Rat):∀i,i<=a.length->i+b.length<=o.length+1->Gf (Oc a b o i) t=Gf o t+Gf (a.take i) t*Gf b t
 |
  0,_,_=>by
  show Gf o t=Gf o t+0*Gf b t;grind
 |
  i+1,h1,h2=>by
  have ih:=pO a b o t i Fj Fj;simp only[Oc];rw[mQ _ _ _ _ _ b.length (Qm _) (by rw[Ac];omega),ih,OK a i t Fj,Q6];grind
theorem Hp(a b:U6)(t:Rat):Gf (Hg a b) t=Gf a t*Gf b t:=by
 unfold Hg
 split
 ·rename_i h;rcases h with h|h
  ·rw[Qi h];show(0:Rat)=0*_;grind
  ·rw[Qi h];show(0:Rat)=_*0;grind
 ·rename_i h;rw[ZR,pO a b _ t a.length (Qm _) (by rw[Jx];omega),yZ,Q6];grind
theorem Tu(z d:Int):(z:Rat) / (d:Rat)=Rat.divInt z d:=by
 by_cases h:d=0
 ·subst h;simp;grind
 ·rw[Yo];exact(Rat.divInt_eq_div z d ▸ by rw[Yo])
theorem Qdf(a:U6)(n d:Int)(hd:(d:Rat)≠0):∀k,k<=a.length->(((Ar a n d k).2:Int):Rat)=(d:Rat)^k/\(((Ar a n d k).1:Int):Rat)*d=(d:Rat)^k*Gf (a.drop (a.length-k)) ((n:Rat) / d)
 |
  0,_=>by
  refine⟨by rw[Xv];rfl,?_⟩;rw[Ul,Vh];show((0:Int):Rat)*d=(d:Rat)^0*0
  push_cast;grind
 |
  k+1,hk=>by
  obtain⟨h1,h2⟩:=Qdf a n d hd k Fj;have hi:a.length-1-k<a.length:=Fj;have e1:a.drop (a.length-(k+1))=a.getD (a.length-1-k) 0::a.drop (a.length-k):=by
   rw[show a.length-(k+1)=a.length-1-k by omega,Zq hi,show a.length-1-k+1=a.length-k by omega];congr 1;rw[Qj,Qf hi];rfl
  refine⟨?_,?_⟩
  ·show(((Ar a n d k).2*d:Int):Rat)=_;rw[Ji,h1,Xo]
  ·rw[e1];show(((Ar a n d k).1*n+a.getD (a.length-1-k) 0*(Ar a n d k).2:Int):Rat)*d=_*(((a.getD (a.length-1-k) 0:Int):Rat)+(n:Rat) / d*Gf (a.drop (a.length-k)) ((n:Rat) / d));rw[Ku,Ji,Ji,h1,Xo];have h3:(n:Rat) / d*d=n:=by rw[Zj hd]
   have h4:(d:Rat)^k*d*((n:Rat) / d*Gf (a.drop (a.length-k)) ((n:Rat) / d))=((n:Rat) / d*d)*((d:Rat)^k*Gf (a.drop (a.length-k)) ((n:Rat) / d)):=Fq;have h5:(d:Rat)^k*d*(((a.getD (a.length-1-k) 0:Int):Rat)+(n:Rat) / d*Gf (a.drop (a.length-k)) ((n:Rat) / d))=(d:Rat)^k*d*((a.getD (a.length-1-k) 0:Int):Rat)+(d:Rat)^k*d*((n:Rat) / d*Gf (a.drop (a.length-k)) ((n:Rat) / d)):=Fq;rw[h5,h4,h3,<-h2];grind
theorem Qck{d:Rat}(h:0<d):∀k:Nat,0<d^k
 | 0=>by rw[Xv];decide
 |k+1=>by rw[Xo];exact Xm (Qck h k) h
theorem Ln{x y:Rat}(h:0<y):Gn (y*x)=Gn x:=by
 unfold Gn;have h1:y*x<0↔x<0:=by
  constructor
  ·intro h2;rcases Kf (a:=0) (b:=x)with h3|h3
   ·have:=Jg (Qt h) h3;grind
   ·rcases Vz.1 h3 with h4|h4
    ·exact h4
    ·rw[h4]at h2;grind
  ·intro h2;have:=Xm h (show 0 < -x by grind);grind
 have h2:0<y*x↔0<x:=by
  constructor
  ·intro h2;rcases Kf (a:=x) (b:=0)with h3|h3
   ·have:=Jg (Qt h) (show 0<=-x by grind);grind
   ·rcases Vz.1 h3 with h4|h4
    ·exact h4
    ·rw[<-h4]at h2;grind
  ·intro h2;exact Xm h h2
 simp only[h1,h2]
theorem Qjm(z:Int):E5 z 0=Gn (z:Rat):=by
 unfold E5 Gn;have h1:((z:Int):Rat)<0↔z<0:=by
  have := @Rat.intCast_lt_intCast z 0;simpa using this
 have h2:0<((z:Int):Rat)↔0<z:=by
  have := @Rat.intCast_lt_intCast 0 z;simpa using this
 simp only[h1,h2]
theorem M8(p:U6)(q:Rat):Rp p q=Gn (Gf p q):=by
 have hd0:(0:Rat)<((q.den:Int):Rat):=by
  have := @Rat.intCast_lt_intCast 0 (q.den:Int);rw[show((0:Int):Rat)=0 from rfl]at this;exact this.2 (den_pos q)
 have hd:((q.den:Int):Rat)≠0:=by intro h;rw[h]at hd0;exact absurd hd0 Fl
 obtain⟨_,h⟩:=Qdf p q.num q.den hd p.length (Qm _);rw[K0,X7,Tu,Xj]at h;unfold Rp;rw[Qjm,<-Ln hd0,Un];show Gn ((((Ar p q.num q.den p.length).1:Int):Rat)*_)=_;rw[h,Ln (Qck hd0 _)]
def cz(p:U6):U9:=p.map λz:Int=>(z:Rat)
theorem Gh(t:Rat):∀p,ev (cz p) t=Gf p t
 | []=>rfl
 |a::p=>by have:=Gh t p;simp only[cz,Xa,ev,Gf]at *;rw[this]
theorem Bn:∀(p:U6) (k:Nat),(cz p).getD k 0=((p.getD k 0:Int):Rat)
 | [],k=>by simp[cz]
 |a::p,0=>by simp[cz]
 |a::p,k+1=>by have:=Bn p k;simp only[cz,Xa,Q7]at *;exact this
variable{p:U6}
theorem Ag{q:U6}(h:∀t,Gf p t=Gf q t)(k:Nat):p.getD k 0=q.getD k 0:=by
 have:=Et (p:=cz p) (q:=cz q) (λt=>by rw[Gh,Gh,h]) k;rw[Bn,Bn]at this
 exact_mod_cast this
theorem fW{q:U6}(hp:Gk p)(hq:Gk q)(h:∀k,p.getD k 0=q.getD k 0):p=q:=by
 have key:∀{p q:U6},Gk p->Gk q->(∀k,p.getD k 0=q.getD k 0)->p.length<=q.length:=λ{p q} hp hq h=>by
  rcases Zc q.length p.length with e|e
  ·have:=Tt hp Fj;rw[h,Qj,Qy Fj]at this;exact absurd rfl this
  ·exact e
 exact AB (V4 (key hp hq h) (key hq hp λk=>(h k).symm)) λj _=>h j
theorem RO{q:U6}(hp:Gk p)(hq:Gk q)(h:∀t,Gf p t=Gf q t):p=q:=fW hp hq (Ag h)
theorem Qs4(hp:Gk p)(h:∀t,Gf p t=0):p=[]:=RO hp rfl λt=>by rw[h];rfl
theorem Ew(h:p.length=0)(t:Rat):Gf p t=0:=by rw[Qi h];rfl
theorem Qcg:∀(p r:U6) (t:Rat),(∀k,r.getD k 0=p.getD (k+1) 0*((k+1:Nat):Int))->Gf r t=dv (cz p) t
 |
  [],r,t,h=>by
  rw[Qch (q:=[]) (λk=>by rw[h];simp) t];rfl
 |
  a::p,r,t,h=>by
  have ih:=Qcg p (H5 p) t λk=>Nf p k
  have e:Gf r t=Gf p t+t*Gf (H5 p) t:=by
   have:=Lh 1 1 t (max (max p.length (0::H5 p).length) r.length) p (0::H5 p) r Fj Fj Fj λk=>by
    rw[h,Q7];cases k with
    |zero=>simp
    |succ k=>rw[Q7,Nf];push_cast;grind
   rw[this];simp only[Gf];push_cast;grind
  rw[e,ih];show _=ev (cz p) t+t*dv (cz p) t;rw[Gh]
theorem ZH(p:U6)(t:Rat):Gf (H5 p) t=dv (cz p) t:=Qcg p _ t λk=>Nf p k
theorem NN(hp:Gk p)(h:0<p.length):HD (cz p) (p.length-1):=by
 refine⟨?_,λk hk=>?_⟩
 ·rw[Bn];have:=Tt hp h;exact λe=>this (by exact_mod_cast e)
 ·rw[Bn,Qj,Qy Fj];rfl
theorem NG(hp:Gk p)(h:0<p.length):¬∀t,Gf p t=0:=λh0=>by
 rw[Qs4 hp h0]at h;exact absurd h Fp
theorem Bq{a b c:U6}(ha:Gk a)(hb:Gk b)(hc:Gk c)(h:∀t,Gf c t=Gf a t*Gf b t)(la:0<a.length)(lb:0<b.length):c.length=a.length+b.length-1:=by
 have h1:=IF (NN ha la) (NN hb lb);have h2:HD (cz c) (a.length-1+(b.length-1)):=Qvl (λt=>by rw[Gp,Gh,Gh,Gh,h]) h1;have lc:0<c.length:=by
  rcases Q4 c.length with e|e
  ·exact absurd (λt=>by rw[Gh];exact Ew e t) (Qbg h2)
  ·exact e
 have:=Qvm (NN hc lc) h2;omega
theorem mK:∀(n m:Nat),m<=n->2<=m->∃P,2<=P/\P∣m/\∀d,2<=d->d∣P->d=P
 | 0,m,h,h2=>Fj
 |
  n+1,m,h,h2=>by
  rcases Classical.em (∃d,2<=d/\d<m/\d∣m)with⟨d,d1,d2,d3⟩|h0
  ·obtain⟨P,p1,p2,p3⟩:=mK n d Fj d1;exact⟨P,p1,Nat.dvd_trans p2 d3,p3⟩
  ·refine⟨m,h2,Nat.dvd_refl m,λd d1 d2=>?_⟩;rcases V5 (Wi Fj d2)with e|e
   ·exact absurd ⟨d,d1,e,d2⟩ h0
   ·exact e
theorem kO{P:Nat}(h2:2<=P)(hP:∀d,2<=d->d∣P->d=P){x y:Int}(h:(P:Int)∣x*y):(P:Int)∣x\/(P:Int)∣y:=by
 have h:=Jm.2 h;rw[Ys,Xw]at h;have hg:=Ui P x.natAbs;rcases Zc (Nat.gcd P x.natAbs) 2 with e|e
 ·right;have h1:Nat.gcd P x.natAbs=1:=by
   have:=Nat.gcd_pos_of_pos_left x.natAbs (show 0<P by omega);omega
  have:=Nat.Coprime.dvd_of_dvd_mul_left h1 h;exact Jm.1 (by rwa[Xw])
 ·left;have:=hP _ e hg;have h3:=Nat.gcd_dvd_right P x.natAbs;rw[this]at h3;exact Jm.1 (by rwa[Xw])
def bR(P:Int)(l:U6):Prop:=∀k,P∣l.getD k 0
theorem SG{P:Nat}(h2:2<=P)(hP:∀d,2<=d->d∣P->d=P):∀(n:Nat) (b h c:U6),b.length+h.length<=n->(∀t,Gf c t=Gf b t*Gf h t)->bR P c->bR P b\/bR P h
 |_,[],h,c,_,_,_=>.inl λk=>Fp
 |_,x::b,[],c,_,_,_=>.inr λk=>Fp
 | 0,x::b,y::h,c,hn,_,_=>by simp at hn
 |
  n+1,x::b,y::h,c,hn,hc,hd=>by
  simp only[Q5]at hn;by_cases hx:(P:Int)∣x
  ·-- x h is taken away
   have e:∀t,Gf (0::Hg b (y::h)) t=Gf (B7 c (Gy (y::h) x)) t:=λt=>by
    rw[Cm,Sf,hc];simp only[Gf];rw[Hp];simp only[Gf];push_cast;grind
   have hd':bR P (Hg b (y::h)):=λk=>by
    have:=Ag e (k+1);rw[Q7,ZB,Ba]at this;rw[this];exact Int.dvd_sub (hd (k+1)) (Kl hx (Vv _ _))
   rcases SG h2 hP n b (y::h) _ (by simp only[Q5];omega) (λt=>Hp _ _ t) hd' with h1|h1
   ·refine .inl λk=>?_
    cases k with
    |zero=>rw[Zu];exact hx
    |succ k=>rw[Q7];exact h1 k
   ·exact .inr h1
  ·have h0:(P:Int)∣y:=by
    have e:c.getD 0 0=x*y:=by
     have:=Ag (p:=c) (q:=Hg (x::b) (y::h)) (λt=>by rw[hc,Hp]) 0;have e2:=Ag (p:=Hg (x::b) (y::h)) (q:=Eh (Gy (y::h) x) (0::Hg b (y::h))) (λt=>by
      rw[OV,Sf,Hp];simp only[Gf];rw[Hp];simp only[Gf];push_cast;grind) 0
     rw[this,e2,jE,Ba,Zu,Zu,Wq];omega
    have:=hd 0;rw[e]at this;rcases kO h2 hP this with h1|h1
    ·exact absurd h1 hx
    ·exact h1
   have e:∀t,Gf (0::Hg (x::b) h) t=Gf (B7 c (Gy (x::b) y)) t:=λt=>by
    rw[Cm,Sf,hc];simp only[Gf];rw[Hp];simp only[Gf];push_cast;grind
   have hd':bR P (Hg (x::b) h):=λk=>by
    have:=Ag e (k+1);rw[Q7,ZB,Ba]at this;rw[this];exact Int.dvd_sub (hd (k+1)) (Kl h0 (Vv _ _))
   rcases SG h2 hP n (x::b) h _ (by simp only[Q5];omega) (λt=>Hp _ _ t) hd' with h1|h1
   ·exact absurd (by have:=h1 0;rwa[Zu]at this) hx
   ·refine .inr λk=>?_
    cases k with
    |zero=>rw[Zu];exact h0
    |succ k=>rw[Q7];exact h1 k
def Prm(b:U6):Prop:=∀d:Int,bR d b->d∣1
theorem Qkr{a b:U6}(hb:Prm b):∀(n:Nat) (c:Int) (h:U6),c.natAbs<=n->c≠0->(∀t,(c:Rat)*Gf a t=Gf b t*Gf h t)->∃h',∀t,Gf a t=Gf b t*Gf h' t
 | 0,c,h,hn,h0,_=>absurd Fj h0
 |
  n+1,c,h,hn,h0,hc=>by
  rcases Zc c.natAbs 2 with h1|h1
  ·refine⟨Gy h c,λt=>?_⟩;have hcc:(c:Rat)*c=1:=by
    have:c*c=1:=by
     rcases(show c=1\/c=-1 by omega)with rfl|rfl <;> rfl
    have:=congrArg (λz:Int=>(z:Rat)) this
    push_cast at this;exact this
   rw[Sf];have:=hc t;have:Gf a t=(c:Rat)*((c:Rat)*Gf a t):=by
    have:(c:Rat)*((c:Rat)*Gf a t)=((c:Rat)*c)*Gf a t:=Fq;rw[this,hcc];grind
   rw[this,hc];grind
  ·obtain⟨P,p1,p2,p3⟩:=mK c.natAbs c.natAbs (Qm _) h1;obtain⟨d,hd⟩:∃d,c=(P:Int)*d:=W9.2 p2;have hall:bR P (Gy a c):=λk=>by
    rw[Ba,hd];exact Kl (Int.dvd_mul_right _ _) (Vv _ _)
   have hP0:(P:Rat)≠0:=by
    have:((0:Nat):Rat)<(P:Rat):=V8.2 Fj;grind
   rcases SG p1 p3 _ b h (Gy a c) (Qm _) (λt=>by rw[Sf,Un,hc]) hall with e|e
   ·have:=hb P e;have:=Jm.2 this;rw[Xw]at this;have:=Wi Fl this;exact absurd this (by show ¬P<=1;omega)
   ·refine Qkr hb n d (h.map (· / (P:Int))) ?_ (λe0=>h0 (by rw[hd,e0,Wu])) λt=>?_
    ·rw[hd,Ys,Xw]at hn h1;have:2*d.natAbs<=P*d.natAbs:=Q3 _ p1;omega
    ·have e1:Gf h t=(P:Rat)*Gf (h.map (· / (P:Int))) t:=by
      have:=Lh P 0 t (max h.length (h.map (· / (P:Int))).length) (h.map (· / (P:Int))) [] h Fj Fp Fj λk=>by
       have:=e k;have e2:(h.map (· / (P:Int))).getD k 0=h.getD k 0 / (P:Int):=by
        rw[Qj,Qj,Zb];cases h[k]? <;> simp
       rw[e2,Ws this];simp
      rw[this];simp only[Gf];push_cast;grind
     have:=hc t;rw[hd,e1]at this
     push_cast at this
     have h3:(P:Rat)*((d:Rat)*Gf a t)=(P:Rat)*(Gf b t*Gf (h.map (· / (P:Int))) t):=Fq;have h4:=X3.1 (show(P:Rat)*((d:Rat)*Gf a t-Gf b t*Gf (h.map (· / (P:Int))) t)=0 by grind);rcases h4 with h4|h4
     ·exact absurd h4 hP0
     ·grind
theorem xQ:∀u:U9,∃c:Int,c≠0/\∃h:U6,∀t,(c:Rat)*ev u t=Gf h t
 | []=>⟨1,Fl,[],λt=>by simp only[ev,Gf];grind⟩
 |
  a::u=>by
  obtain⟨c,hc,h,hh⟩:=xQ u;refine⟨c*(a.den:Int),Jy hc (by have:=a.den_nz;omega),(c*a.num)::Gy h (a.den:Int),λt=>?_⟩;have e:(a.den:Rat)*a=a.num:=by
   rw[Un];have:(a.num:Rat) / (((a.den:Int)):Rat)=a:=by rw[Tu,Xj]
   have hd:(a.den:Rat)≠0:=by
    have:((0:Nat):Rat)<(a.den:Rat):=V8.2 a.den_pos;grind
   have h2:(a.num:Rat) / (a.den:Rat)*(a.den:Rat)=a.num:=Zj hd;rw[show(a.num:Rat) / (a.den:Rat)=a from this]at h2;exact h2
  simp only[ev,Gf];rw[Sf,<-hh]
  push_cast
  rw[<-e];have e3:(((a.den:Int)):Rat)=(a.den:Rat):=rfl;grind
theorem Qkq{a b:U6}(hb:Prm b)(h:JE (cz b) (cz a)):∃h',Gk h'/\∀t,Gf a t=Gf b t*Gf h' t:=by
 obtain⟨u,hu⟩:=h;obtain⟨c,hc,h,hh⟩:=xQ u;obtain⟨h',e⟩:=Qkr hb c.natAbs c h (Qm _) hc λt=>by
  have:=hu t;rw[Gh,Gh]at this;rw[this,<-hh];grind
 exact⟨trim h',Sj _,λt=>by rw[ZR,e]⟩
def sd(x0:Rat):U9->U9
 | []=>[]
 |_::p=>Ma p (Ey x0 (sd x0 p))
theorem Qki(x0 x:Rat):∀p,ev (sd x0 p) x=dq p x x0
 | []=>rfl
 |a::p=>by simp only[sd,dq];rw[Rf,Hx,Qki x0 x p]
theorem aE(x0:Rat):∀(g:U9) (n:Nat),(∀j,n<j->g.getD j 0=0)->∀j,n<=j->(sd x0 g).getD j 0=0
 | [],n,_,j,_=>by simp[sd]
 |
  a::p,0,h,j,_=>by
  have hp:∀j,p.getD j 0=0:=λj=>by have:=h (j+1) Fj;rwa[Q7]at this
  simp only[sd];rw[T0,P6,hp,aE x0 p 0 (λj _=>hp j) j (Qg _)];grind
 |
  a::p,n+1,h,j,hj=>by
  have hp:∀j,n<j->p.getD j 0=0:=λj hj=>by have:=h (j+1) Fj;rwa[Q7]at this
  simp only[sd];rw[T0,P6,hp j Fj,aE x0 p n hp j Fj];grind
theorem lM{K:Rat}(hK:0≤K):∀(e:Nat) (g:U9) (pts:U6) (M:Rat),pts.length=e+1->pts.Nodup->(∀x∈pts,Gs (x:Rat)≤K)->(∀k,e<k->g.getD k 0=0)->(∀x∈pts,Gs (ev g (x:Rat))≤M)->∀k,Gs (g.getD k 0)≤(2*K+3)^e*M
 |_,_,[],_,h,_,_,_,_=>by simp at h
 |
  0,g,x0::xs,M,_,_,_,hg,hM=>λk=>by
  have h0:=hM x0 Fp;rw[Xv];cases k with
  |
   zero =>
   have e:ev g (x0:Rat)=g.getD 0 0:=by
    cases g with
    |nil=>rfl
    |
     cons a p =>
     have hp:=E6 (p:=p) λj=>by have:=hg (j+1) Fj;rwa[Q7]at this
     simp only[ev,hp,Zu];grind
   rw[<-e];grind
  |
   succ k =>
   rw[hg (k+1) Fj,Ty];have:=Tl (ev g (x0:Rat));grind
 |
  e+1,g,x0::xs,M,hl,hn,hb,hg,hM=>λk=>by
  have hx0:=hb x0 Fp;have hM0:=hM x0 Fp;have hMn:0<=M:=Zl (Tl _) hM0;rw[List.nodup_cons]at hn;have ih:=lM hK e (sd x0 g) xs (2*M) (by simpa using hl) hn.2 (λx hx=>hb x (by simp[hx])) (λj hj=>aE _ g (e+1) hg j Fj) λx hx=>by
   have h1:=hM x (by simp[hx]);have h2:=xG (x:Rat) (x0:Rat) g;rw[<-Qki]at h2;have hne:x-x0≠0:=λh=>hn.1 (by rw[show x0=x by omega];exact hx)
   have h3:=FU hne;rw[Rat.intCast_sub]at h3;have h4:Gs (ev g (x:Rat)-ev g (x0:Rat))<=2*M:=by
    have:=P9 (ev g (x:Rat)) (-ev g (x0:Rat));rw[A9,show ev g (x:Rat)+-ev g (x0:Rat)=ev g (x:Rat)-ev g (x0:Rat) by grind]at this;clear hM hb hg;grind
   rw[h2,O7]at h4;have h5:=Zh h3 (Tl (ev (sd x0 g) x));clear hM hb hg;grind
  have e1:∀t,ev g t=ev (Ma [ev g x0] (Ma (Ey (-x0) (sd x0 g)) (0::sd x0 g))) t:=λt=>by
   have:=xG t (x0:Rat) g;rw[<-Qki]at this;simp only[Rf,Hx,ev];grind
  have hp1:1<=(2*K+3)^e:=(WW (R:=2*K+3) (x:=0) Fq (by rw[Ty];grind) e).2;have hpM:=Dc (x:=(2*K+3)^e) (y:=M) Fq hMn;have hpM1:=Zh hp1 hMn;rw[Xo,Et e1 k,T0,T0,P6];have a1:=ih k;have a2:Gs (-(x0:Rat)*(sd (x0:Rat) g).getD k 0)<=K*((2*K+3)^e*(2*M)):=Rt (by rw[A9];exact hx0) a1;have fin:∀u v w:Rat,Gs u<=M->Gs v<=K*((2*K+3)^e*(2*M))->Gs w<=(2*K+3)^e*(2*M)->Gs (u+(v+w))<=(2*K+3)^e*(2*K+3)*M:=λu v w h1 h2 h3=>by
   have b1:=P9 u (v+w);have b2:=P9 v w;clear ih e1 hM hb hg a1 a2;grind
  refine fin _ _ _ ?_ a2 ?_
  ·cases k with
   |zero=>rw[Zu];exact hM0
   |succ k=>rw[Q7,Wg,Ty];exact hMn
  ·cases k with
   |zero=>rw[Zu,Ty];clear ih e1 hM hb hg a1 a2 fin;grind
   |succ k=>rw[Q7];exact ih k
theorem Qnb{g:U9}{e:Nat}(hg:∀k,e<k->g.getD k 0=0)(hz:¬∀t,ev g t=0){pts:U6}(hn:pts.Nodup)(hr:∀x∈pts,ev g (x:Rat)=0):pts.length≤e:=by
 rcases Zc e pts.length with h|h
 ·exfalso;obtain⟨K,hK,hb⟩:∃K:Rat,0≤K/\∀x∈pts,Gs (x:Rat)≤K:=by
   clear hn hr h
   induction pts with
   |nil=>exact⟨0,Fl,λx hx=>by cases hx⟩
   |
    cons y pts ih =>
    obtain⟨K,h1,h2⟩:=ih;refine⟨K+Gs (y:Rat),by have:=Tl (y:Rat);grind,λx hx=>?_⟩;have hy:=Tl (y:Rat);rcases Qk.1 hx with rfl|hx
    ·grind
    ·have:=h2 x hx;grind
  refine hz (E6 λk=>?_);have:=lM hK e g (pts.take (e+1)) 0 (by rw[Qq];omega) (hn.sublist (List.take_sublist ..)) (λx hx=>hb x (Qn hx)) hg (λx hx=>by rw[hr x (Qn hx),Ty];exact Qr) k;have h2:=Tl (g.getD k 0);exact Qtd Fq
 ·exact h
def spots:U6:=(List.range 19).map λi:Nat=>(i:Int)-9
theorem spots_nd:spots.Nodup:=Fl
theorem nU:∀x∈spots,x.natAbs≤9:=Fl
theorem AE{α:Type}(p:α->Bool):∀l:List α,(l.filter p).length+(l.filter λx => !p x).length=l.length
 | []=>rfl
 |
  x::l=>by
  have:=AE p l;cases h:p x <;> simp[h] <;> omega
def geo:Nat->Nat
 | 0=>0
 |n+1=>1+9*geo n
theorem Qa8{B:Rat}:∀(p:U6),(∀z∈p,Gs (z:Rat)≤B)->tO 9 (cz p)≤B*(geo p.length:Nat)
 | [],_=>by simp only[cz,Jq,tO,geo,Xy];rw[show((0:Nat):Rat)=0 from rfl];grind
 |
  a::p,h=>by
  have h1:=Qa8 p λz hz=>h z (Qh _ hz)
  have h2:=h a (Qw ..);simp only[cz,Xa,tO,geo,Q5]at *
  push_cast
  clear h;grind
theorem Qkz{m n:Nat}(h:m<=n):geo m<=geo n:=by
 induction h with
 |refl=>exact Qm _
 |step h ih=>simp only[geo];omega
def pz:U6->Int->Int
 | [],_=>0
 |a::p,x=>a+x*pz p x
theorem FH(x:Int):∀p,Gf p (x:Rat)=((pz p x:Int):Rat)
 | []=>rfl
 |a::p=>by simp only[Gf,pz,FH x p];push_cast;rfl
theorem Md(z:Int):Gs (z:Rat)=((z.natAbs:Nat):Rat):=by
 unfold Gs;rcases Kv z 0 with h|h
 ·have h1:(z:Rat)<((0:Int):Rat):=J5.2 h;rw[if_pos (by simpa using h1)];have:(z.natAbs:Int)=-z:=Fj;have:=congrArg (λu:Int=>(u:Rat)) this
  push_cast at this
  exact this.symm
 ·have h1:((0:Int):Rat)<=(z:Rat):=Ju.2 h;have h1:(0:Rat)<=(z:Rat):=by simpa using h1
  rw[if_neg Fq];have:(z.natAbs:Int)=z:=Fj;have:=congrArg (λu:Int=>(u:Rat)) this;exact this.symm
theorem YG{p g h:U6}{s:Nat}(hp:Bd s p)(hl:p.length<=10)(tp:Gk p)(tg:Gk g)(th:Gk h)(h0:p.length≠0)(e:∀t,Gf p t=Gf g t*Gf h t):Bd (s+69) g:=by
 have lg:0<g.length:=by
  rcases Q4 g.length with e'|e'
  ·exact absurd (λt=>by rw[e,Ew e'];grind) (NG tp Fj)
  ·exact e'
 have lh:0<h.length:=by
  rcases Q4 h.length with e'|e'
  ·exact absurd (λt=>by rw[e,Ew e'];grind) (NG tp Fj)
  ·exact e'
 have hlen:=Bq tg th tp e lg lh;obtain⟨q,hq⟩:=nmE (spots.filter λx => !decide (pz p x=0));have hr:(spots.filter λx=>decide (pz p x=0)).length<=9:=by
  refine Qnb (g:=cz p) (e:=9) (λk hk=>?_) (λh=>NG tp Fj λt=>by rw[<-Gh];exact h t) (spots_nd.sublist W0) λx hx=>?_
  ·rw[Bn,Qj,Qy Fj];rfl
  ·have:=(J8.1 hx).2;rw[Gh,FH,of_decide_eq_true this];rfl
 have hc:=AE (λx=>decide (pz p x=0)) spots;rw[<-hq]at hc;have hsl:spots.length=19:=Fl;have hB:∀z∈p,Gs (z:Rat)≤((2^s:Nat):Rat):=λz hz=>by
  rw[Md];have:=hp z hz;rw[Mm]at this;exact Zm.2 (Y4 this)
 have key:=lM (K:=9) Fl 9 (cz g) (q.take 10) (((2^s*435848050:Nat)):Rat) (by rw[Qq];omega) ((spots_nd.sublist (by rw[hq];exact W0)).sublist (List.take_sublist ..)) (λx hx=>by
  have hx:=Qn hx;rw[hq]at hx;have:=nU x (J8.1 hx).1;rw[Md]
  exact_mod_cast Zm.2 this) (λk hk=>by rw[Bn,Qj,Qy Fj];rfl) (λx hx=>by
  have hx:=Qn hx;rw[hq]at hx;obtain⟨hx1,hx2⟩:=J8.1 hx;have hne:pz p x≠0:=by simpa using hx2
  have e1:=e (x:Rat);rw[FH,FH,FH]at e1;have e2:pz p x=pz g x*pz h x:=by exact_mod_cast e1
  have hh:1<=(pz h x).natAbs:=by
   rcases Q4 (pz h x).natAbs with e'|e'
   ·exact absurd (by rw[e2,Int.natAbs_eq_zero.1 e',Wu]) hne
   ·exact e'
  have h3:(pz g x).natAbs<=(pz p x).natAbs:=by
   rw[e2,Ys];exact Vf _ hh
  rw[Gh,FH,Md];refine Zl (Zm.2 h3) ?_;rw[<-Md,<-FH,<-Gh];refine Zl (NR (R:=9) (by
   have:=nU x hx1;rw[Md]
   exact_mod_cast Zm.2 this) _) ?_
  refine Zl (Qa8 p hB) ?_;have:2^s*geo p.length<=2^s*435848050:=Zv _ (Qc (Qkz hl) Fl);have:=Zm.2 this
  push_cast at this ⊢
  exact this)
 refine LM λk=>?_
 have h1:=key k;rw[Bn,Md]at h1;have e3:(2*(9:Rat)+3)^9*((2^s*435848050:Nat):Rat)=(((794280046581*(2^s*435848050)):Nat):Rat):=by
  rw[show(2*(9:Rat)+3)^9=794280046581 by grind]
  push_cast;rfl
 rw[e3]at h1;have h2:=Zm.1 h1;rw[Mm];refine Xe h2 ?_;have:794280046581*(2^s*435848050)=2^s*(794280046581*435848050):=by
  rw[Nat.mul_left_comm]
 rw[this,Xu];exact Nat.mul_lt_mul_of_pos_left Fl (Xd Fl)
theorem tM{l:U6}{d:Int}(h:∀z∈l,d∣z):d∣((Sx l:Nat):Int):=by
 have key:∀(l:U6) (g:Nat),d.natAbs∣g->(∀z∈l,d∣z)->d.natAbs∣l.foldl (λg z=>Nat.gcd g z.natAbs) g:=by
  intro l
  induction l with
  |nil=>exact λg h _=>h
  |cons z l ih=>exact λg hg h=>ih _ (Nat.dvd_gcd hg (Jm.2 (h z (Qw ..)))) λu hu=>h u (Qh _ hu)
 have:=key l 0 (Nat.dvd_zero _) h;exact Jm.1 (by rw[Xw];exact this)
theorem HN(p:U6)(c:Int)(k:Nat):(p.map (· / c)).getD k 0=p.getD k 0 / c:=by
 rw[Qj,Qj,Zb];cases p[k]? <;> simp
theorem FR(p:U6)(c:Int)(k:Nat):(L6 p c).getD k 0=p.getD k 0 / c:=by
 unfold L6;rw[WR,HN]
variable{p:U6}{c:Int}
theorem yQ(h:∀z∈p,c∣z)(t:Rat):Gf p t=(c:Rat)*Gf (L6 p c) t:=by
 have:=Lh c 0 t (max p.length (L6 p c).length) (L6 p c) [] p Fj Fp Fj λk=>by
  rw[FR];have hd:c∣p.getD k 0:=by
   rw[Qj];cases e:p[k]? with
   |none=>exact Int.dvd_zero _
   |some z=>exact h z (Qa e)
  rw[Ws hd];simp
 rw[this];simp only[Gf];push_cast;grind
theorem YS(h:c≠0):(c:Rat)≠0:=λe=>h (by exact_mod_cast e)
theorem XE{q:U6}{c:Rat}(tp:Gk p)(tq:Gk q)(hc:c≠0)(h:∀t,Gf p t=c*Gf q t):p.length=q.length:=by
 have key:∀{p q:U6} {c:Rat},Gk p->Gk q->c≠0->(∀t,Gf p t=c*Gf q t)->p.length<=q.length:=λ{p q c} tp tq hc h=>by
  rcases Zc q.length p.length with e|e
  ·have h1:=Tt tp Fj;have:=Et (p:=cz p) (q:=Ey c (cz q)) (λt=>by rw[Gh,Hx,Gh,h]) (p.length-1);rw[Bn,P6,Bn,Qj (l:=q),Qy Fj]at this;have:((p.getD (p.length-1) 0:Int):Rat)=0:=by rw[this];simp
   exact absurd (by exact_mod_cast this) h1
  ·exact e
 refine V4 (key tp tq hc h) (key (c:=1 / c) tq tp (λe=>?_) λt=>?_)
 ·have:=Zj (a:=1) hc;rw[e]at this;grind
 ·rw[h];have:=Zj (a:=1) hc;grind
theorem Lj(tp:Gk p)(h:p.length≠0):Gk (Gq p)/\(Gq p).length=p.length/\Prm (Gq p)/\0<Gz (Gq p)/\(∀s,Bd s p->Bd s (Gq p))/\Tf p≠0/\∀t,Gf p t=(Tf p:Rat)*Gf (Gq p) t:=by
 have h0:=Qci tp h;have e:Gq p=L6 p (Tf p):=by unfold Gq;rw[if_neg h]
 have h1:=yQ (p:=p) (c:=Tf p) TQ;have hl:=XE tp (JK p (Tf p)) (YS h0) h1;have hcp:0<Ms p:=by
  have:=VF tp h;unfold Ms at this ⊢;omega
 rw[e];refine⟨JK _ _,hl.symm,λd hd=>?_,?_,λs hs=>LN hs _,h0,h1⟩
 ·have h2:∀z∈p,d*Tf p∣z:=λz hz=>by
   obtain⟨i,hi⟩:=Zk.1 hz;have h3:=hd i;rw[FR,Qj,hi]at h3;obtain⟨k,hk⟩:=h3;have h4:=TQ z hz;refine⟨k,?_⟩;have:z / Tf p*Tf p=z:=Int.ediv_mul_cancel h4;rw[<-this];rw[show z / Tf p=d*k from hk,Int.mul_right_comm]
  have h3:=tM h2;have h4:Tf p∣((Sx p:Nat):Int)/\((Sx p:Nat):Int)∣Tf p:=by
   unfold Tf Ms;split
   ·exact⟨Uu.2 (Wp _),Int.dvd_neg.2 (Wp _)⟩
   ·exact⟨Wp _,Wp _⟩
  obtain⟨k,hk⟩:=Kl h3 h4.2;refine⟨k,?_⟩;have:Tf p*(d*k)=Tf p*1:=by rw[Ut,<-Int.mul_assoc,Wq (Tf p) d,<-hk]
  exact(Int.eq_of_mul_eq_mul_left h0 this).symm
 ·have h2:Gz (L6 p (Tf p))=Gz p / Tf p:=by unfold Gz;rw[<-hl,FR]
  have h3:Tf p∣Gz p:=TQ _ (IP h);have h5:Gz p / Tf p*Tf p=Gz p:=Int.ediv_mul_cancel h3;rw[h2];have h6:=A4 tp h;rcases Wa (Gz p / Tf p) 0 with e1|e1|e1
  ·exfalso;by_cases hn:Gz p<0
   ·have:Tf p=-Ms p:=by unfold Tf;rw[if_pos hn]
    have:0<Gz p / Tf p*Tf p:=Ks e1 Fj;omega
   ·have:Tf p=Ms p:=by unfold Tf;rw[if_neg hn]
    have:Gz p / Tf p*Tf p<0:=Int.mul_neg_of_neg_of_pos e1 Fj;omega
  ·rw[e1]at h5;omega
  ·exact e1
theorem Qmq{r:U6}(tr:Gk r):∃c:Rat,0<c/\∀t,Gf r t=c*Gf (UX r) t:=by
 unfold UX;by_cases h:r.length=0
 ·rw[if_pos h];exact⟨1,Fl,λt=>by rw[Ew h,Ew rfl];grind⟩
 ·rw[if_neg h];have h1:0<Ms r:=by
   have:=VF tr h;unfold Ms at this ⊢;omega
  have h2:((0:Int):Rat)<(Ms r:Rat):=J5.2 h1;exact⟨Ms r,by simpa using h2,yQ Il⟩
theorem VH(x:Int)(t:Rat):∀i,Gf (mono i x) t=(x:Rat)*t^i
 | 0=>by simp only[mono,W4,Y3,Gf,Xv];grind
 |
  i+1=>by
  have ih:=VH x t i;simp only[mono,Ym,Xf,Gf]at *;rw[ih,Xo];push_cast;grind
theorem Qb3(x:Int)(b:U6)(i k:Nat):(Hg (trim (mono i x)) b).getD k 0=if i<=k then x*b.getD (k-i) 0 else 0:=by
 have e:∀t,Gf (Hg (trim (mono i x)) b) t=Gf (List.replicate i 0++b.map (x * ·)) t:=λt=>by
  rw[Hp,ZR,VH];have h2:∀i,Gf (List.replicate i 0++b.map (x * ·)) t=t^i*((x:Rat)*Gf b t):=λi=>by
   induction i with
   |
    zero =>
    simp only[W4,Y3,Xv];have:=Lh x 0 t (max b.length (b.map (x * ·)).length) b [] (b.map (x * ·)) Fj Fp Fj λk=>by
     rw[Qj,Qj,Zb];cases b[k]? <;> simp
    rw[this];simp only[Gf];push_cast;grind
   |succ i ih=>simp only[Ym,Xf,Gf,ih,Xo];push_cast;grind
  rw[h2];grind
 rw[Ag e k,Qj,List.getElem?_append,Jx];by_cases h:i<=k
 ·rw[if_neg Fj,if_pos h,Zb,Qj];cases b[k-i]? <;> simp
 ·rw[if_pos Fj,if_neg h,Yi,if_pos Fj];rfl
theorem Qlk{n:Nat}(tp:Gk p)(h:p.length<=n+1)(h0:p.getD n 0=0):p.length<=n:=by
 rcases Zc n p.length with e|e
 ·have:=Tt tp Fj;rw[show p.length-1=n by omega]at this;exact absurd h0 this
 ·exact e
theorem Qt5{b r:U6}{i:Nat}(tr:Gk r)(h:r.length<=b.length+i)(hb:b.length≠0){x:Int}(hx:x=if r.length=b.length+i then Gz r else 0):(str b (Gz b) i x r).length<b.length+i:=by
 have hl:=wR (c:=Gz b) (x:=x) (i:=i) (b:=b) (r:=r);have:=Qlk (p:=str b (Gz b) i x r) (n:=b.length+i-1) (Gw _ _) Fj (by
  unfold str;rw[ZB,Ba,Qb3,if_pos Fj,hx,show b.length+i-1-i=b.length-1 by omega]
  split
  ·rename_i he;unfold Gz;rw[he,Int.sub_eq_zero]
  ·rw[Qj (l:=r),Qy Fj];simp)
 omega
theorem Qzx(b r:U6)(c:Int)(i:Nat)(x:Int)(t:Rat):(c:Rat)*Gf r t=(x:Rat)*t^i*Gf b t+Gf (str b c i x r) t:=by
 unfold str;rw[Cm,Sf,Hp,ZR,VH];grind
theorem Qmu(b:U6)(c:Int):∀(i:Nat) (q r:U6),∃X:U9,∀t,((c^i:Int):Rat)*Gf r t=ev X t*Gf b t+Gf (mF b c i (q,r)).2 t
 | 0,q,r=>⟨[],λt=>by simp only[mF,ev];rw[Ug];push_cast;grind⟩
 |
  i+1,q,r=>by
  obtain⟨x,hx⟩:=nmE (if r.length=b.length+i then Gz r else 0);obtain⟨X,hX⟩:=Qmu b c i (stq c i x q) (str b c i x r);obtain⟨m,hm⟩:∃m:U9,∀t,ev m t=(x:Rat)*t^i:=⟨cz (mono i x),λt=>by rw[Gh,VH]⟩;refine⟨Ma (Ey ((c^i:Int):Rat) m) X,λt=>?_⟩;rw[VP hx,Rf,Hx,hm];have h1:=hX t;have h2:=Qzx b r c i x t;rw[Uf]
  push_cast at h1 ⊢
  have:(c:Rat)^i*c*Gf r t=(c:Rat)^i*((c:Rat)*Gf r t):=Fq;rw[this,h2];grind
theorem Qcn{b:U6}(hb:b.length≠0):∀(i:Nat) (q r:U6),Gk r->r.length<b.length+i->Gk (mF b (Gz b) i (q,r)).2/\(mF b (Gz b) i (q,r)).2.length<b.length
 | 0,q,r,tr,h=>⟨tr,h⟩
 |
  i+1,q,r,tr,h=>by
  rw[VP rfl];exact Qcn hb i _ _ (Gw _ _) (Qt5 tr Fj hb rfl)
theorem Qmt{b:U6}{c:Int}{t:Nat}(hb:Bd t b)(hc:Gl c<=t):∀(i u:Nat) (q r:U6),i<=64->Bd u r->Bd (u+i*(t+8)) (mF b c i (q,r)).2
 | 0,u,q,r,_,h=>by simpa[mF]using h
 |
  i+1,u,q,r,hi,h=>by
  rw[VP rfl];have hx:Gl (if r.length=b.length+i then Gz r else 0)<=u:=by
   split
   ·exact Cd h
   ·rw[Ce];exact Qg _
  have:=Qmt hb hc i (u+t+8) (stq c i (if r.length=b.length+i then Gz r else 0) q) (str b c i (if r.length=b.length+i then Gz r else 0) r) Fj (cJ h hb hc hx Fj);exact Fz this (by rw[Xp];omega)
theorem OS{c:Int}(h:c<0):∀k:Nat,(k % 2=1->c^k<0)/\(k % 2=0->0<c^k)
 | 0=>⟨λh=>Fj,λ_=>by rw[Ug];decide⟩
 |
  k+1=>by
  obtain⟨i1,i2⟩:=OS h k;rw[Uf];exact⟨λhk=>Kr (i2 Fj) h,λhk=>Ks (i1 Fj) h⟩
theorem DL{a b:U6}(ta:Gk a)(tb:Gk b)(hb:b.length≠0)(hl:a.length<=60):Gk (S6 a b)/\(S6 a b).length<b.length/\(∀s,Bd s a->Bd s b->Bd (s+(a.length+1-b.length)*(s+8)) (S6 a b)) /\
 ∃u v:Rat,0<u/\0<v/\∃X:U9,∀t,u*Gf a t=ev X t*Gf b t+v*Gf (S6 a b) t:=by
 obtain⟨k,hk⟩:=nmE (a.length+1-b.length);have h1:Gk (Nu a b)/\(Nu a b).length<b.length:=Qcn hb _ _ _ ta Fj;obtain⟨X,hX⟩:=Qmu b (Gz b) k [] a;have hX:∀t,(((Gz b)^k:Int):Rat)*Gf a t=ev X t*Gf b t+Gf (Nu a b) t:=by unfold Nu;rw[<-hk];exact hX
 have h2:=TY (a:=a) (b:=b) (r:=Nu a b) (n:=(Nu a b).length) (s:=(Nu a b).foldl (λm z=>m+Gl z) 0) h1.1 (Qm _) (λz hz=>by
  have key:∀(l:U6) (m:Nat),m≤l.foldl (λm z=>m+Gl z) m/\∀z∈l,Gl z≤l.foldl (λm z=>m+Gl z) m:=by
   intro l
   induction l with
   |nil=>exact λm=>⟨Qm _,λz hz=>by cases hz⟩
   |
    cons y l ih =>
    intro m;obtain⟨i1,i2⟩:=ih (m+Gl y);refine⟨by simp only[Xl];omega,λz hz=>?_⟩;simp only[Xl];rcases Qk.1 hz with rfl|hz
    ·omega
    ·exact i2 z hz
  exact(key _ 0).2 z hz)
 have h3:=OF (r:=Dq a b (Nu a b)) (n:=(Nu a b).length) h2.2.1 h2.2.2;refine⟨h3.1,by unfold S6;omega,λs ha hbs=>?_,?_⟩
 ·have h4:=Qmt (c:=Gz b) hbs (Cd hbs) k s [] a Fj ha;have h5:=TY (a:=a) (b:=b) (n:=(Nu a b).length) h1.1 (Nat.le_refl _) (show Bd (s+k*(s+8)) (Nu a b) by unfold Nu;rw[<-hk];exact h4);rw[<-hk];exact(OF h5.2.1 h5.2.2).2.2
 ·obtain⟨v,vp,hv⟩:=Qmq h2.1;have hc:=A4 tb hb;by_cases ht:k % 2=1/\Gz b<0
  ·have e1:Dq a b (Nu a b)=Pp (Nu a b):=by unfold Dq;rw[<-hk,if_pos ht]
   have hneg:(Gz b)^k<0:=(OS ht.2 k).1 ht.1;have h5:(((Gz b)^k:Int):Rat)<((0:Int):Rat):=J5.2 hneg;have h5:(((Gz b)^k:Int):Rat)<0:=by simpa using h5
   refine⟨-(((Gz b)^k:Int):Rat),v,Fq,vp,Ey (-1) X,λt=>?_⟩;have h6:=hX t;have h7:=hv t;rw[e1,Ah]at h7;show _=_+v*Gf (UX (Dq a b (Nu a b))) t;rw[e1,<-h7,Hx];grind
  ·have e1:Dq a b (Nu a b)=Nu a b:=by unfold Dq;rw[<-hk,if_neg ht]
   have hpos:0<(Gz b)^k:=by
    rcases Kw hc with h|h
    ·exact(OS h k).2 Fj
    ·exact Int.pow_pos h
   have h5:((0:Int):Rat)<(((Gz b)^k:Int):Rat):=J5.2 hpos;refine⟨(((Gz b)^k:Int):Rat),v,by simpa using h5,vp,X,λt=>?_⟩;have h7:=hv t;show _=_+v*Gf (UX (Dq a b (Nu a b))) t;rw[<-h7,e1,hX]
theorem Ix{p:U6}(h1:p.length<=64)(h2:Bd 16777216 p):zO p=some p:=by
 unfold zO;rw[if_pos ⟨h1,Jc.2 λz hz=>Nat.ble_eq_true_of_le (h2 z hz)⟩]
variable{a b:U6}
theorem xU{g:U9}{c:Rat}(hc:c≠0)(h:∀t,Gf a t=c*Gf b t):JE g (cz a)↔JE g (cz b):=by
 constructor
 ·rintro⟨u,hu⟩
  refine⟨Ey (1 / c) u,λt=>?_⟩;have h1:=hu t;rw[Gh,h]at h1;rw[Gh,Hx];have h2:1 / c*c=1:=Zj hc;have:Gf b t=1 / c*(c*Gf b t):=Fq;rw[this,h1];grind
 ·rintro⟨u,hu⟩
  refine⟨Ey c u,λt=>?_⟩;have h1:=hu t;rw[Gh]at h1;rw[Gh,Hx,h,h1];grind
structure Gc(g a b:List Int):Prop where
 t:Gk g
 da:JE (cz g) (cz a)
 db:JE (cz g) (cz b)
 c:∃U V,∀t,Gf g t=ev U t*Gf a t+ev V t*Gf b t
 n:g.length≠0
theorem Gc.scale{g g' a' b':U6}{x y z:Rat}(h:Gc g a b)(hx:x≠0)(hy:y≠0)(hz:z≠0)(tg:Gk g')(eg:∀t,Gf g t=x*Gf g' t)(ea:∀t,Gf a' t=y*Gf a t)(eb:∀t,Gf b' t=z*Gf b t):Gc g' a' b':=by
 have hx1:1 / x*x=1:=Zj hx;have hy1:1 / y*y=1:=Zj hy;have hz1:1 / z*z=1:=Zj hz;have hg:∀c,JE (cz g) c->JE (cz g') c:=λc ⟨u,hu⟩=>⟨Ey x u,λt=>by rw[hu,Gh,Gh,eg,Hx];grind⟩
 obtain⟨U,V,hc⟩:=h.c;refine⟨tg,hg _ ((xU hy ea).2 h.da),hg _ ((xU hz eb).2 h.db),⟨Ey (1 / x*(1 / y)) U,Ey (1 / x*(1 / z)) V,λt=>?_⟩,?_⟩
 ·have h1:=hc t;have h2:Gf g' t=1 / x*Gf g t:=by rw[eg];grind
  rw[h2,h1,Hx,Hx,ea,eb];generalize ev U t=u at *;generalize ev V t=v at *;grind
 ·rw[<-XE h.t tg hx eg];exact h.n
theorem Qza:∀d:Nat,1<=d->d+2<=3^d
 | 0,h=>Fj
 | 1,_=>Fl
 |d+2,_=>by have:=Qza (d+1) Fj;rw[Zs];omega
variable{k:Nat}
theorem nE(ta:Gk a)(tb:Gk b)(hb:b.length≠0)(hl:a.length<=60)(hbl:b.length<=60)(hr:Bd 16777216 (S6 a b))(ih:∃g,ME k b (S6 a b)=some g/\Gc g b (S6 a b)):∃g,ME (k+1) a b=some g/\Gc g a b:=by
 obtain⟨h1,h2,h3,u,v,up,vp,X,hX⟩:=DL ta tb hb hl;obtain⟨g,e,hg⟩:=ih;refine⟨g,?_,?_⟩
 ·simp only[ME];rw[if_neg hb,Ix Fj hr];exact e
 ·obtain⟨U,V,hc⟩:=hg.c;obtain⟨y,hy⟩:=hg.da;obtain⟨z,hz⟩:=hg.db;have hu:1 / u*u=1:=Ru up;have hv:1 / v*v=1:=Ru vp;refine⟨hg.t,⟨Ey (1 / u) (Ma (Rl X y) (Ey v z)),λt=>?_⟩,hg.da,⟨Ey (u / v) V,Ma U (Ey (-1 / v) (Rl V X)),λt=>?_⟩,hg.n⟩
  ·have a1:=hX t;have a2:=hy t;have a3:=hz t;rw[Gh,Gh]at a2 a3;rw[Gh,Gh,Hx,Rf,Gp,Hx];have:Gf a t=1 / u*(u*Gf a t):=Fq;rw[this,a1,a2,a3];grind
  ·have a1:=hX t;have a2:=hc t;rw[Hx,Rf,Hx,Gp,a2];have:Gf (S6 a b) t=1 / v*(v*Gf (S6 a b) t):=Fq;rw[this,show v*Gf (S6 a b) t=u*Gf a t-ev X t*Gf b t by grind,Yo,Yo,Yo];grind
theorem Qdb(ta:Gk a)(ha:a.length≠0):∃g,ME (k+1) a []=some g/\Gc g a [] :=
 ⟨a,rfl,ta,dvd_refl _,⟨[],λt=>by simp only[cz,Jq,ev];grind⟩,⟨[1],[],λt=>by rw[S7];simp only[ev];grind⟩,ha⟩
theorem MA{s:Nat}:∀(k:Nat) (a b:U6),Gk a->Gk b->b.length<k->b.length<a.length->a.length<=60->Bd s a->Bd s b->(s+8)*3^(a.length-1)<=16777216->∃g,ME k a b=some g/\Gc g a b
 | 0,_,_,_,_,h,_,_,_,_,_=>Fj
 |
  k+1,a,b,ta,tb,hk,hab,hl,ba,bb,hs=>by
  by_cases hb:b.length=0
  ·rw[Qi hb];exact Qdb ta Fj
  ·obtain⟨h1,h2,h3,_⟩:=DL ta tb hb hl;have h3:=h3 s ba bb;obtain⟨m,hm⟩:=nmE (a.length-b.length);have e1:a.length+1-b.length=m+1:=Fj;rw[e1]at h3;have e2:s+(m+1)*(s+8)+8=(m+2)*(s+8):=by
    rw[show m+2=(m+1)+1 by omega,Xp (m+1)];omega
   have e3:(m+2)*(s+8)*3^(b.length-1)<=(s+8)*3^(a.length-1):=by
    rw[show a.length-1=m+(b.length-1) by omega,Xu,<-Jh,Zr (s+8)];exact Q3 _ (Q3 _ (Qza m Fj))
   have e4:s+(m+1)*(s+8)<=16777216:=by
    have:(m+2)*(s+8)<=(m+2)*(s+8)*3^(b.length-1):=Vf _ (Xd Fl);omega
   refine nE ta tb hb hl Fj (Fz h3 e4) (MA (s:=s+(m+1)*(s+8)) k b (S6 a b) tb h1 Fj h2 Fj (Fz bb Fj) h3 ?_);rw[e2];omega
def Szz(n s:Nat):Prop:=n<=10/\2*(s+8)*3^(n-1)<=16777216
theorem Qof{n s:Nat}(hz:Szz n s)(ta:Gk a)(tb:Gk b)(la:a.length<=n)(lb:b.length<=n)(ba:Bd s a)(bb:Bd s b)(h0:a.length≠0\/b.length≠0):∃g,ME 66 a b=some g/\Gc g a b:=by
 obtain⟨hn,hz⟩:=hz;have hp:∀l,l<=n->(s+8)*3^(l-1)<=8388608:=λl hl=>by
  have:(s+8)*3^(l-1)<=(s+8)*3^(n-1):=Zv _ (Zt Fl Fj);rw[Jh]at hz;omega
 rcases Zc b.length a.length with h|h
 ·exact MA 66 a b ta tb Fj h Fj ba bb (by have:=hp a.length la;omega)
 ·by_cases hb:b.length=0
  ·rw[Qi hb];exact Qdb ta Fj
  ·obtain⟨h1,h2,h3,_⟩:=DL ta tb hb Fj;have h3:=h3 s ba bb;have h4:(a.length+1-b.length)*(s+8)<=1*(s+8):=Q3 _ Fj;have h5:=hp b.length lb;have h6:(s+8)*1<=(s+8)*3^(b.length-1):=Zv _ (Xd Fl);refine nE ta tb hb Fj Fj (Fz h3 Fj) (MA (s:=2*s+8) 65 b (S6 a b) tb h1 Fj h2 Fj (Fz bb Fj) (Fz h3 Fj) ?_);rw[show 2*s+8+8=2*(s+8) by omega,Jh];omega
theorem yV:Gq []=[]:=rfl
theorem TJ(ta:Gk a):Gk (Gq a)/\(Gq a).length=a.length/\(∀s,Bd s a->Bd s (Gq a))/\∃c:Rat,c≠0/\∀t,Gf a t=c*Gf (Gq a) t:=by
 by_cases h:a.length=0
 ·rw[Qi h];exact⟨rfl,rfl,λs _=>UG,1,Fl,λt=>by rw[yV];grind⟩
 ·obtain⟨h1,h2,h3,h4,h5,h6,h7⟩:=Lj ta h;exact⟨h1,h2,h5,_,YS h6,h7⟩
theorem GX{n s:Nat}(hz:Szz n s)(ta:Gk a)(tb:Gk b)(la:a.length<=n)(lb:b.length<=n)(ba:Bd s a)(bb:Bd s b)(h0:a.length≠0\/b.length≠0):∃g,VM a b=some g/\Gc g a b/\Prm g/\0<Gz g:=by
 obtain⟨a1,a2,a3,x,xn,ax⟩:=TJ ta;obtain⟨b1,b2,b3,y,yn,bx⟩:=TJ tb;obtain⟨g,e,hg⟩:=Qof hz a1 b1 Fj Fj (a3 s ba) (b3 s bb) Fj;obtain⟨g1,g2,g3,g4,g5,g6,g7⟩:=Lj hg.t hg.n;refine⟨Gq g,?_,hg.scale (YS g6) xn yn g1 g7 ax bx,g3,g4⟩;unfold VM;rw[e];rfl
theorem Qgd(ta:Gk a):VM [] a=some (Gq (Gq a)):=by
 unfold VM;rw[yV];by_cases h:(Gq a).length=0
 ·have e:Gq a=[]:=Qi h;rw[e];rfl
 ·have e:S6 [] (Gq a)=[]:=by
   have e1:Nu [] (Gq a)=[]:=by unfold Nu;rw[show([]:U6).length+1-(Gq a).length=0 by simp;omega];rfl
   unfold S6;rw[e1];unfold Dq
   split <;> rfl
  have:ME 66 [] (Gq a)=some (Gq a):=by
   show(if (Gq a).length=0 then _ else _)=_;rw[if_neg h,e];rfl
  rw[this];rfl
theorem Qkx{n s:Nat}(hz:Szz n s)(ta:Gk a)(tb:Gk b)(la:a.length<=n)(lb:b.length<=n)(ba:Bd s a)(bb:Bd s b)(h0:a.length≠0):∃g,uG a b=some g/\Gc g a b/\Prm g/\0<Gz g:=by
 obtain⟨a1,a2,a3,x,xn,ax⟩:=TJ ta;obtain⟨b1,b2,b3,y,yn,bx⟩:=TJ a1;obtain⟨g,e,hg,h1,h2⟩:=GX hz b1 tb Fj lb (b3 s (a3 s ba)) bb Fj;refine⟨g,?_,hg.scale (x:=1) (y:=x*y) (z:=1) Fl (λh=>(X3.1 h).elim xn yn) Fl hg.t (λt=>Fq) (λt=>by rw[ax,bx];grind) (λt=>Fq),h1,h2⟩;unfold uG;rw[Qgd ta];exact e
theorem Qc8:∀{p q:U9} {m n:Nat},HD p m->HD q n->(Rl p q).getD (m+n) 0=p.getD m 0*q.getD n 0
 | [],q,m,n,h,_=>absurd Fp h.1
 |
  a::p,q,0,n,h,h'=>by
  have h1:∀k,p.getD k 0=0:=λk=>by have:=h.2 (k+1) Fj;rwa[Q7]at this
  simp only[Rl];rw[T0,P6,Zu,Z9];cases n with
  |zero=>rw[Zu];grind
  |succ n=>rw[Q7,NB h1];grind
 |
  a::p,q,m+1,n,h,h'=>by
  have ih:=Qc8 (p:=p) (q:=q) (m:=m) ⟨by have:=h.1;rwa[Q7]at this,λk hk=>by have:=h.2 (k+1) Fj;rwa[Q7]at this⟩ h';simp only[Rl];rw[T0,P6,show m+1+n=(m+n)+1 by omega,Q7,h'.2 _ Fj,ih,Q7];grind
theorem sL{c:U6}(ta:Gk a)(tb:Gk b)(tc:Gk c)(h:∀t,Gf c t=Gf a t*Gf b t)(la:0<a.length)(lb:0<b.length):Gz c=Gz a*Gz b:=by
 have h1:=NN ta la;have h2:=NN tb lb;have h3:=Qc8 h1 h2;have hl:=Bq ta tb tc h la lb;rw[<-Et (p:=cz c) (λt=>by rw[Gp,Gh,Gh,Gh,h]),Bn,Bn,Bn,show a.length-1+(b.length-1)=c.length-1 by omega]at h3;unfold Gz;exact_mod_cast h3
theorem S8{c:U6}(tc:Gk c)(hc:c.length≠0)(h:∀t,Gf c t=Gf a t*Gf b t):0<a.length/\0<b.length:=by
 constructor
 ·rcases Q4 a.length with e|e
  ·exact absurd (λt=>by rw[h,Ew e];grind) (NG tc Fj)
  ·exact e
 ·rcases Q4 b.length with e|e
  ·exact absurd (λt=>by rw[h,Ew e];grind) (NG tc Fj)
  ·exact e
theorem uF{b:U6}(tb:Gk b)(hb:b.length≠0):∀(i:Nat) (a q h:U6),Gk a->Gk h->(∀t,Gf a t=Gf b t*Gf h t)->a.length<b.length+i->i<=q.length->(∀j,j<i->q.getD j 0=0)->∃q',uU b i a q=some q'/\q'.length=q.length/\∀t,Gf q' t=Gf q t+Gf h t
 |
  0,a,q,h,ta,th,e,hl,_,_=>by
  have ha:a.length=0:=by
   rcases Q4 a.length with e'|e'
   ·exact e'
   ·obtain⟨p1,p2⟩:=S8 ta Fj e;have:=Bq tb th ta e p1 p2;omega
  refine⟨q,by simp only[uU];rw[if_pos ha],rfl,λt=>?_⟩;have:∀t,Gf h t=0:=λt=>by
   have:=dS (p:=cz b) (q:=cz h) (r:=[]) (λh0=>NG tb Fj λt=>by rw[<-Gh];exact h0 t) (λt=>by rw[Gh,Gh,<-e,Ew ha];simp only[ev];grind) t;rwa[Gh]at this
  rw[this];grind
 |
  i+1,a,q,h,ta,th,e,hl,hq,h0=>by
  simp only[uU];by_cases hlt:a.length<b.length+i
  ·rw[if_pos hlt];exact uF tb hb i a q h ta th e hlt Fj λj hj=>h0 j Fj
  ·rw[if_neg hlt];obtain⟨p1,p2⟩:=S8 ta Fj e;have hln:=Bq tb th ta e p1 p2;have hld:=sL tb th ta e p1 p2;have hlb:=A4 tb hb;rw[hld,if_pos (Int.mul_emod_right _ _),Jw _ hlb];have hli:h.length=i+1:=Fj;have e2:∀t,Gf (B7 a (Hg (trim (mono i (Gz h))) b)) t=Gf b t*Gf (B7 h (mono i (Gz h))) t:=λt=>by
    rw[Cm,Cm,Hp,ZR,e];grind
   have hl2:(B7 a (Hg (trim (mono i (Gz h))) b)).length<b.length+i:=by
    have hl:=Qbv (i:=i) (x:=Gz h) (b:=b) (a:=a);unfold sta at hl;have:=Qlk (p:=B7 a (Hg (trim (mono i (Gz h))) b)) (n:=b.length+i-1) (Gw _ _) Fj (by
     rw[ZB,Qb3,if_pos Fj,show b.length+i-1-i=b.length-1 by omega,show b.length+i-1=a.length-1 by omega];have:Gz a=a.getD (a.length-1) 0:=rfl;rw[<-this,hld];unfold Gz;rw[Wq,Int.sub_eq_zero])
    omega
   obtain⟨q',h1,h2,h3⟩:=uF tb hb i _ (q.set i (Gz h)) (B7 h (mono i (Gz h))) (Gw _ _) (Gw _ _) e2 hl2 Fo λj hj=>by
    rw[Qj,Y8,if_neg Fj,<-Qj];exact h0 j Fj
   refine⟨q',h1,by rw[h2,Xs],λt=>?_⟩;rw[h3,uW q i _ t Fj,h0 i Fj,Cm,VH]
   push_cast;grind
theorem Qm2{h:U6}{s:Nat}(ta:Gk a)(tb:Gk b)(th:Gk h)(ha:a.length≠0)(la:a.length<=10)(ba:Bd s a)(hs:s+69<=16777216)(e:∀t,Gf a t=Gf b t*Gf h t):VS a b=some h:=by
 obtain⟨p1,p2⟩:=S8 ta ha e;have hln:=Bq tb th ta e p1 p2;obtain⟨q,h1,h2,h3⟩:=uF tb Fj (a.length+1-b.length) a (List.replicate (a.length+1-b.length) 0) h ta th e Fj Fp λj _=>La _ _
 have h4:trim q=h:=RO (Sj _) th λt=>by rw[ZR,h3,yZ];grind
 unfold VS;rw[if_neg Fj,h1];show zO (trim q)=_;rw[h4];exact Ix Fj (Fz (YG ba la ta th tb ha λt=>by rw[e];grind) Fj)
structure Pr1(p:List Int):Prop where
 t:Gk p
 m:Prm p
 l:0<Gz p
variable{p:U6}
theorem Pr1.n(h:Pr1 p):p.length≠0:=λe=>by
 have:=h.l;rw[Qi e]at this;exact absurd this Fl
theorem Pr1.one(h:Pr1 p)(hl:p.length<2):p=[1]:=by
 have hn:=h.n;obtain⟨c,rfl⟩:∃c,p=[c]:=Wd.1 Fj;have h1:=h.m c λk=>by cases k <;> simp
 have h2:0<c:=h.l;have:=Int.le_of_dvd Fl h1;rw[show c=1 by omega]
variable{g:U6}
theorem Qs7{h:U6}(hp:Prm p)(e:∀t,Gf p t=Gf g t*Gf h t):Prm h:=λd hd=>by
 refine hp d λk=>?_
 have:=Ag (p:=p) (q:=Hg g h) (λt=>by rw[e,Hp]) k;rw[this];have e2:∀t,Gf (Hg g h) t=(d:Rat)*Gf (Hg g (h.map (· / d))) t:=λt=>by
  have h1:Gf h t=(d:Rat)*Gf (h.map (· / d)) t:=by
   have:=Lh d 0 t (max h.length (h.map (· / d)).length) (h.map (· / d)) [] h Fj Fp Fj λk=>by
    rw[HN,Ws (hd k)];simp
   rw[this];simp only[Gf];push_cast;grind
  rw[Hp,Hp,h1];grind
 have:=Ag (p:=Hg g h) (q:=Gy (Hg g (h.map (· / d))) d) (λt=>by rw[e2,Sf];grind) k;rw[this,Ba];exact Vv _ _
theorem Qs6{h:U6}(hp:Pr1 p)(hg:0<Gz g)(tg:Gk g)(th:Gk h)(e:∀t,Gf p t=Gf g t*Gf h t):Pr1 h:=by
 obtain⟨p1,p2⟩:=S8 hp.t hp.n e;have:=sL tg th hp.t e p1 p2;refine⟨th,Qs7 hp.m e,?_⟩;have hl:=hp.l;rw[this]at hl;rcases Wa (Gz h) 0 with h1|h1|h1
 ·have:=Kr hg h1;omega
 ·rw[h1]at hl;omega
 ·exact h1
structure Sqp(p g q:List Int):Prop where
 pp:Pr1 p
 pg:Pr1 g
 pq:Pr1 q
 e:∀t,Gf p t=Gf g t*Gf q t
 c:∃U V,∀t,Gf g t=ev U t*Gf p t+ev V t*dv (cz p) t
 d:∃z,∀t,dv (cz p) t=Gf g t*ev z t
theorem Sqp.num{q:U6}(h:Sqp p g q){d:U9}(h1:JE d (cz q))(h2:JE d (De (cz q))):∃c:Rat,c≠0/\∀t,ev d t=c:=by
 obtain⟨U,V,hc⟩:=h.c;have hpow:=sqf (k:=1) (a:=cz p) (g:=cz g) (q:=cz q) (d:=d) (U:=U) (V:=V) Fl (λt=>by rw[Gh,Gh,Gh,h.e]) (λt=>by rw[Gh,Gh,hc];grind) h1 h2;rcases IU d with h3|⟨m,_,h3⟩
 ·obtain⟨u,hu⟩:=h1;exact absurd (λt=>by rw[<-Gh,hu,h3];grind) (NG h.pq.t (by have:=h.pq.n;omega))
 ·obtain rfl:=yY h3 (NN h.pg.t (by have:=h.pg.n;omega)) hpow;refine⟨d.getD 0 0,h3.1,λt=>?_⟩;cases d with
  |nil=>exact absurd Fp h3.1
  |
   cons c l =>
   have:=E6 (p:=l) λk=>by have:=h3.2 (k+1) Fj;rwa[Q7]at this
   simp only[ev,this,Zu];grind
theorem Sqp.bez{q:U6}(h:Sqp p g q):∃X Y,∀t,ev X t*ev (cz q) t+ev Y t*dv (cz q) t=1:=by
 obtain⟨d,U,V,h1,h2,h3⟩:=Qkw (cz q) (De (cz q));obtain⟨c,hc,hd⟩:=h.num h1 h2;refine⟨Ey (1 / c) U,Ey (1 / c) V,λt=>?_⟩;have h5:=h3 t;rw[hd,Pi]at h5;have h4:1 / c*c=1:=Zj hc;rw[Hx,Hx];have:1 / c*ev U t*ev (cz q) t+1 / c*ev V t*dv (cz q) t=1 / c*(ev U t*ev (cz q) t+ev V t*dv (cz q) t):=Fq;rw[this,<-h5,h4]
variable{s:Nat}
theorem Qn7{n:Nat}(h:Szz n s):s<=8388600:=by
 have:2*(s+8)*1<=2*(s+8)*3^(n-1):=Zv _ (Xd Fl);have:=h.2;omega
theorem cX(h:Bd s p)(hl:p.length<=10):Bd (s+4) (H5 p):=vN h (t:=4) Fj
theorem Qc3{n:Nat}(hz:Szz n (s+73))(pp:Pr1 p)(l2:2<=p.length)(lp:p.length<=n)(bp:Bd (s+69) p){p0 h0:U6}(b0:Bd s p0)(l0:p0.length<=10)(t0:Gk p0)(th0:Gk h0)(z0:p0.length≠0)(e0:∀t,Gf p0 t=Gf h0 t*Gf p t):
 ∃g q,zO (H5 p)=some (H5 p)/\VM p (H5 p)=some g/\VS p g=some q/\Sqp p g q/\g.length<p.length:=by
 have hn:=hz.1;have hs:=Qn7 hz;have bd:=cX bp Fj;have ld:=Cf p;have td:Gk (H5 p):=Gw _ _;obtain⟨g,e1,hg,m,l⟩:=GX hz pp.t td lp Fj (Fz bp Fj) bd (.inl pp.n);obtain⟨q,tq,eq⟩:=Qkq m hg.da;have hdnz:(H5 p).length≠0:=λh=>by
  have h1:=Nf p (p.length-2);rw[Qi h,show p.length-2+1=p.length-1 by omega]at h1;have h2:p.getD (p.length-1) 0≠0:=Tt pp.t Fj;rcases Yy.1 (h1.symm.trans Fp)with h3|h3
  ·exact h2 h3
  ·omega
 have pg:Pr1 g:=⟨hg.t,m,l⟩;have hql:=Qm2 (s:=s+69) pp.t hg.t tq pp.n Fj bp Fj eq;refine⟨g,q,Ix Fj (Fz bd Fj),e1,hql,⟨pp,pg,Qs6 pp l hg.t tq eq,eq,?_,?_⟩,?_⟩
 ·obtain⟨U,V,hc⟩:=hg.c;exact⟨U,V,λt=>by rw[hc,ZH]⟩
 ·obtain⟨z,hz⟩:=hg.db;exact⟨z,λt=>by rw[<-ZH,<-Gh,hz,Gh]⟩
 ·obtain⟨z,tz,ez⟩:=Qkq m hg.db;obtain⟨q1,q2⟩:=S8 td hdnz ez;have:=Bq hg.t tz td ez q1 q2;omega
theorem Qst:Sqp [1] [1] [1]:=by
 have p1:Pr1 [1]:=⟨rfl,λd hd=>by have:=hd 0;rwa[Zu]at this,Fl⟩;have e1:∀t,Gf [1] t=1:=λt=>by simp only[Gf];push_cast;grind
 exact⟨p1,p1,p1,λt=>by rw[e1];grind,⟨[1],[],λt=>by rw[e1,S7];simp only[ev];grind⟩,⟨[],λt=>by simp only[cz,Xa,Jq,dv,ev];grind⟩⟩
structure Okp(n s:Nat)(p:List Int):Prop where
 z:Szz n (s+73)
 t:Gk p
 nz:p.length≠0
 l:p.length<=n
 b:Bd s p
theorem Okp.pr{n:Nat}(h:Okp n s p):Pr1 (Gq p)/\(Gq p).length=p.length/\Bd s (Gq p):=by
 obtain⟨h1,h2,h3,h4,h5,_⟩:=Lj h.t h.nz;exact⟨⟨h1,h3,h4⟩,h2,h5 s h.b⟩
theorem WG{n:Nat}(h:Okp n s p):∃g q,M4 p=some q/\Sqp (Gq p) g q:=by
 obtain⟨pp,hl,hb⟩:=h.pr;have hn:=h.z.1;have:=h.l;unfold M4;by_cases h2:(Gq p).length<2
 ·rw[if_pos h2,pp.one h2];exact⟨[1],[1],rfl,Qst⟩
 ·rw[if_neg h2];obtain⟨g,q,h3,h4,h5,h6,_⟩:=Qc3 h.z pp Fj Fj (Fz hb Fj) (p0:=Gq p) (h0:=[1]) hb Fj pp.t rfl pp.n λt=>by simp only[Gf];push_cast;grind
  exact⟨g,q,by rw[h3];show(VM (Gq p) (H5 (Gq p))).bind _=_;rw[h4];exact h5,h6⟩
inductive LW:List Int->List (List Int)->Prop
 |nil:LW [1] []
 |cons {g h w:List Int} {ws:List (List Int)} (hs:Sqp g h w) (hl:LW h ws):LW g (w::ws)
variable{ws:U7}
theorem Qyv(h:LW g ws):∀t,Gf g t=ev (ZF (ws.map cz)) t:=by
 induction h with
 |nil=>intro t;simp only[Jq,ZF,Gf];rw[S7];push_cast;grind
 |cons hs hl ih=>intro t;simp only[Xa,ZF];rw[Gp,Gh,hs.e,ih];grind
theorem Qb2{w v:U6}(h:LW g (w::v::ws)):∃f,Gk f/\∀t,Gf w t=Gf f t*Gf v t:=by
 cases h with
 |
  @cons _ h _ _ hs hl =>
  cases hl with
  |
   @cons _ h2 _ _ hs2 hl2 =>
   obtain⟨X,Y,hb⟩:=hs2.bez;obtain⟨z,hz⟩:=hs.d;have hd:=Qt2 (a:=cz g) (g:=cz h) (q:=cz w) (z:=z) (r:=cz v) (X:=X) (Y:=Y) (n:=h.length-1) (λt=>by rw[Gh,Gh,Gh,hs.e]) (λt=>by rw[hz,Gh]) (NN hs.pg.t (by have:=hs.pg.n;omega)) hb
    ⟨Rl (cz h2) (cz w),λt=>by rw[Gp,Gh,Gh,Gh,Gh,hs.e,hs2.e];grind⟩
   obtain⟨f,tf,ef⟩:=Qkq hs2.pq.m hd;exact⟨f,tf,λt=>by rw[ef];grind⟩
theorem pJ{w:U6}(h:LW g (w::ws)):∀v∈w::ws,Pr1 v/\JE (cz v) (cz w):=by
 have key:∀(ws:U7) (g w:U6),LW g (w::ws)->∀v∈w::ws,Pr1 v/\JE (cz v) (cz w):=by
  intro ws
  induction ws with
  |
   nil =>
   intro g w h v hv;rw[Ql.1 hv];cases h with
   |cons hs hl=>exact⟨hs.pq,dvd_refl _⟩
  |
   cons u ws ih =>
   intro g w h v hv;have hn:=Qb2 h;cases h with
   |
    @cons _ h _ _ hs hl =>
    rcases Qk.1 hv with rfl|hv
    ·exact⟨hs.pq,dvd_refl _⟩
    ·obtain⟨i1,i2⟩:=ih h u hl v hv;obtain⟨f,_,hf⟩:=hn;exact⟨i1,dvd_trans i2 ⟨cz f,λt=>by rw[Gh,Gh,Gh,hf];grind⟩⟩
 exact key ws g w h
theorem lay_ok{n s:Nat}(hz:Szz n (s+73)){p0:U6}(b0:Bd s p0)(l0:p0.length<=10)(t0:Gk p0)(z0:p0.length≠0):∀(k:Nat) (g h0:U6),Pr1 g->g.length<=k->g.length<=n->Gk h0->(∀t,Gf p0 t=Gf h0 t*Gf g t)->∃ws,PE k g=some ws/\LW g ws
 | 0,g,_,pg,hk,_,_,_=>absurd pg.n Fj
 |
  k+1,g,h0,pg,hk,hn,th0,e0=>by
  simp only[PE];by_cases h2:g.length<2
  ·rw[if_pos h2,pg.one h2];exact⟨[],rfl,.nil⟩
  ·rw[if_neg h2];have bg:Bd (s+69) g:=YG b0 l0 t0 pg.t th0 z0 λt=>by rw[e0];grind
   obtain⟨h,w,h3,h4,h5,h6,h7⟩:=Qc3 hz pg Fj hn bg b0 l0 t0 th0 z0 e0;obtain⟨ws,i1,i2⟩:=lay_ok hz b0 l0 t0 z0 k h (Hg h0 w) h6.pg Fj Fj (Tp _ _) λt=>by rw[e0,Hp,h6.e];grind
   refine⟨w::ws,?_,.cons h6 i2⟩;rw[h3];show(VM g (H5 g)).bind _=_;rw[h4];show(VS g h).bind _=_;rw[h5];show(PE k h).bind _=_;rw[i1];rfl
theorem Qkj{s:Nat}{p0:U6}(b0:Bd s p0)(l0:p0.length≤10)(t0:Gk p0)(z0:p0.length≠0)(hs:s+69+69≤16777216):∀(ws:U7) (g h0:U6),LW g ws->Gk h0->(∀t,Gf p0 t=Gf h0 t*Gf g t)->∃fs,qI ws=some fs/\Lay (ws.map cz) (fs.map cz)/\∀f∈fs,Gk f
 | [],g,_,_,_,_=>⟨[],rfl,trivial,λf hf=>by cases hf⟩
 |
  [w],g,_,hl,_,_=>by
  cases hl with
  |cons hs hl=>exact⟨[w],rfl,λt=>rfl,λf hf=>by rw[Ql.1 hf];exact hs.pq.t⟩
 |
  w::v::ws,g,h0,hl,th0,e0=>by
  obtain⟨f,tf,ef⟩:=Qb2 hl;cases hl with
  |
   @cons _ h _ _ hs1 hl =>
   have hpv:=(pJ hl v (Qw ..)).1;obtain⟨fs,i1,i2,i3⟩:=Qkj b0 l0 t0 z0 hs (v::ws) h (Hg h0 w) hl (Tp _ _) λt=>by rw[e0,Hp,hs1.e];grind
   have ew:∀t,Gf p0 t=Gf w t*Gf (Hg h0 h) t:=λt=>by rw[e0,Hp,hs1.e];grind
   have bw:Bd (s+69) w:=YG b0 l0 t0 hs1.pq.t (Tp _ _) z0 ew;obtain⟨p1,p2⟩:=S8 t0 z0 ew;have lw:=Bq hs1.pq.t (Tp _ _) t0 ew p1 p2;have hq:=Qm2 (s:=s+69) hs1.pq.t hpv.t tf hs1.pq.n Fj bw hs λt=>by rw[ef];grind
   refine⟨f::fs,?_,⟨λt=>by rw[Gh,Gh,Gh,ef],i2⟩,λx hx=>?_⟩
   ·show(VS w v).bind _=_;rw[hq];show(qI (v::ws)).bind _=_;rw[i1];rfl
   ·rcases Qk.1 hx with rfl|hx
    ·exact tf
    ·exact i3 x hx
def Ci:U7->U6
 | []=>[1]
 | [f]=>f
 |f::_::l=>Hg f (Ci l)
theorem pT:∀(fs:U7) (t:Rat),ev (BD (fs.map cz)) t=Gf (Ci fs) t
 | [],t=>by simp only[Jq,BD,Ci,Gf];rw[S7];push_cast;grind
 | [f],t=>by simp only[Xa,Jq,BD,Ci];rw[Gh]
 |f::g::l,t=>by simp only[Xa,BD,Ci];rw[Gp,Gh,Hp,pT l]
theorem Cz(t:Rat):Gf [1] t=1:=by simp only[Gf];push_cast;grind
theorem xB:∀{w:U6} {ws fs:U7},Lay ((w::ws).map cz) (fs.map cz)->(∀f∈fs,Gk f)->(∀v∈w::ws,Gk v)->∃E,Gk E/\∀t,Gf w t=Gf (Ci fs) t*Gf E t
 |
  w,[],[f],h,_,_=>⟨[1],rfl,λt=>by
  have:=h t;rw[Gh,Gh]at this;rw[this,Cz];simp only[Ci];grind⟩
 |
  w,[v],[f,f2],h,_,hw=>⟨v,hw v Fp,λt=>by
  have:=h.1 t;rw[Gh,Gh,Gh]at this;rw[this];simp only[Ci];rw[Hp,Cz];grind⟩
 |
  w,v::x::l,f::f2::fs,h,hf,hw=>by
  obtain⟨E,hE,e⟩:=xB (w:=x) (ws:=l) (fs:=fs) h.2.2 (λg hg=>hf g (by simp[hg])) (λg hg=>hw g (by simp at hg ⊢;exact .inr (.inr hg)));refine⟨Hg f2 E,Tp _ _,λt=>?_⟩;have a1:=h.1 t;have a2:=h.2.1 t;rw[Gh,Gh,Gh]at a1 a2;have e2:Gf (Ci (f::f2::fs)) t=Gf f t*Gf (Ci fs) t:=by simp only[Ci];rw[Hp]
  rw[a1,a2,e,e2,Hp];grind
 |w,[],[],h,_,_=>h.elim
 |w,[],_::_::_,h,_,_=>h.elim
 |w,[v],[],h,_,_=>h.elim
 |w,[v],[f],h,_,_=>h.2.elim
 |w,[v],_::_::_::_,h,_,_=>h.2.elim
 |w,v::x::l,[f],h,_,_=>h.2.elim
 |w,v::x::l,[],h,_,_=>h.elim
theorem WX{s:Nat}{p0:U6}(b0:Bd s p0)(l0:p0.length≤10)(t0:Gk p0)(z0:p0.length≠0)(hs:s+69≤16777216):∀(fs:U7) (i:Nat) (a E:U6),i % 2=0->Gk a->Gk E->(∀f∈fs,Gk f)->(∀t,Gf p0 t=Gf a t*Gf (Ci fs) t*Gf E t)->∃o,RP i a fs=some o/\Gk o/\∀t,Gf o t=Gf a t*Gf (Ci fs) t
 | [],i,a,E,hi,ta,_,_,_=>⟨a,rfl,ta,λt=>by simp only[Ci];rw[Cz];grind⟩
 |
  [f],i,a,E,hi,ta,tE,tf,hE=>by
  have e1:∀t,Gf p0 t=Gf (Hg a f) t*Gf E t:=λt=>by rw[hE,Hp];rfl
  have b1:=YG b0 l0 t0 (Tp a f) tE z0 e1;obtain⟨p1,p2⟩:=S8 t0 z0 e1;have hl:=Bq (Tp a f) tE t0 e1 p1 p2;refine⟨Hg a f,?_,Tp _ _,λt=>by rw[Hp];rfl⟩;simp only[RP];rw[if_pos hi,Ix Fj (Fz b1 Fj)];rfl
 |
  f::g::fs,i,a,E,hi,ta,tE,tf,hE=>by
  have e0:∀t,Gf (Ci (f::g::fs)) t=Gf f t*Gf (Ci fs) t:=λt=>by simp only[Ci];rw[Hp]
  have e1:∀t,Gf p0 t=Gf (Hg a f) t*Gf (Hg (Ci fs) E) t:=λt=>by rw[hE,e0,Hp,Hp];grind
  have b1:=YG b0 l0 t0 (Tp a f) (Tp _ _) z0 e1;obtain⟨p1,p2⟩:=S8 t0 z0 e1;have hl:=Bq (Tp a f) (Tp _ _) t0 e1 p1 p2;obtain⟨o,o1,o2,o3⟩:=WX b0 l0 t0 z0 hs fs (i+2) (Hg a f) E Fj (Tp _ _) tE (λx hx=>tf x (by simp[hx])) λt=>by rw[hE,e0,Hp];grind
  refine⟨o,?_,o2,λt=>by rw[o3,e0,Hp];grind⟩;have h1:RP (i+1) (Hg a f) (g::fs)=RP (i+2) (Hg a f) fs:=by
   show(if (i+1) % 2=0 then _ else _)=_;rw[if_neg Fj]
  show(if i % 2=0 then(zO (Hg a f)).bind λq=>RP (i+1) q (g::fs)else _)=_;rw[if_pos hi,Ix Fj (Fz b1 Fj)];exact h1.trans o1
structure Parts(p q o:List Int):Prop where
 sq:∃g,Sqp (Gq p) g q
 ws:∃ws:List (List Int),(∀w∈ws,Pr1 w/\JE (cz w) (cz q))/\∀t,Gf (Gq p) t=ev (ZF (ws.map cz)) t
 oq:JE (cz o) (cz q)
 ot:Gk o
 oh:∃h,Gk h/\∀t,Gf (Gq p) t=Gf o t*Gf h t
 os:∃S,∀t,Gf (Gq p) t=Gf o t*(ev S t*ev S t)
theorem Ql9{n:Nat}(h:Okp n s p):∃q o,M4 p=some q/\aX p=some o/\Parts p q o:=by
 obtain⟨pp,hl,hb⟩:=h.pr;have hn:=h.z.1;have Dz:=h.l;have hs:=Qn7 h.z;obtain⟨g,q,hq,sq⟩:=WG h;obtain⟨ws,w1,w2⟩:=lay_ok h.z hb Fj pp.t pp.n 66 (Gq p) [1] pp Fj Fj rfl λt=>by rw[Cz];grind
 obtain⟨fs,f1,f2,f3⟩:=Qkj hb Fj pp.t pp.n Fj ws (Gq p) [1] w2 rfl λt=>by rw[Cz];grind
 have hw:=Qyv w2;have hfirst:(∀w∈ws,Pr1 w/\JE (cz w) (cz q))/\∃E,Gk E/\∀t,Gf q t=Gf (Ci fs) t*Gf E t:=by
  cases ws with
  |
   nil =>
   have e:fs=[]:=by
    cases fs with
    |nil=>rfl
    |cons f l=>exact f2.elim
   subst e;exact⟨(λw hw=>by cases hw),q,sq.pq.t,λt=>by simp only[Ci];rw[Cz];grind⟩
  |
   cons w ws =>
   have hwq:w=q:=by
    have w3:(if (Gq p).length<2 then some []else(zO (H5 (Gq p))).bind λd=>(VM (Gq p) d).bind λh=>(VS (Gq p) h).bind λw=>(PE 65 h).bind λl=>some (w::l))=some (w::ws):=w1;have hlen:¬(Gq p).length<2:=λh2=>by
     rw[if_pos h2]at w3;injection w3 with w3;cases w3
    rw[if_neg hlen]at w3;unfold M4 at hq;rw[if_neg hlen]at hq;obtain⟨d,d1,w3⟩:=Qe.1 w3;obtain⟨h,d2,w3⟩:=Qe.1 w3;obtain⟨w',d3,w3⟩:=Qe.1 w3;obtain⟨l,d4,w3⟩:=Qe.1 w3;rw[d1]at hq;have hq:(VM (Gq p) d).bind (λg=>VS (Gq p) g)=some q:=hq;rw[d2]at hq;have hq:VS (Gq p) h=some q:=hq;rw[d3]at hq;injection hq with hq;injection w3 with w3;injection w3 with w3 _;rw[<-w3,hq]
   subst hwq;have hall:=pJ w2;exact⟨hall,xB f2 f3 λv hv=>(hall v hv).1.t⟩
 obtain⟨ha,E,tE,hE⟩:=hfirst;obtain⟨o,o1,o2,o3⟩:=WX hb Fj pp.t pp.n Fj fs 0 [1] (Hg E g) rfl rfl (Tp _ _) f3 λt=>by rw[Cz,Hp,sq.e,hE];grind
 have o3:∀t,Gf o t=Gf (Ci fs) t:=λt=>by rw[o3,Cz];grind
 refine⟨q,o,hq,?_,⟨g,sq⟩,⟨ws,ha,hw⟩,⟨cz E,λt=>by rw[Gh,Gh,Gh,hE,o3]⟩,o2,⟨Hg E g,Tp _ _,λt=>by rw[sq.e,hE,o3,Hp];grind⟩,?_⟩
 ·unfold aX;rw[if_neg pp.n,w1];show(qI ws).bind _=_;rw[f1];exact o1
 ·obtain⟨S,hS⟩:=Qbs f2;exact⟨S,λt=>by rw[hw,hS,pT,o3]⟩
theorem Qaq{s:Nat}:∀(k:Nat) (a b:U6),Gk a->Gk b->b.length≠0->b.length<k->b.length<a.length->a.length<=60->Bd s a->Bd s b->(s+8)*3^(a.length-1)<=16777216->(∀d,JE d (cz a)->JE d (cz b)->∃c:Rat,c≠0/\∀t,ev d t=c)->∃l,bF k a b=some (b::l)/\SCl (cz a) (cz b) (l.map cz)
 | 0,_,_,_,_,_,h,_,_,_,_,_,_=>Fj
 |
  k+1,a,b,ta,tb,hb,hk,hab,hl,ba,bb,hs,hd=>by
  obtain⟨h1,h2,h3,u,v,up,vp,X,hX⟩:=DL ta tb hb hl;have h3:=h3 s ba bb;obtain⟨m,hm⟩:=nmE (a.length-b.length);have e1:a.length+1-b.length=m+1:=Fj;rw[e1]at h3;have e2:s+(m+1)*(s+8)+8=(m+2)*(s+8):=by
   rw[show m+2=(m+1)+1 by omega,Xp (m+1)];omega
  have e3:(m+2)*(s+8)*3^(b.length-1)<=(s+8)*3^(a.length-1):=by
   rw[show a.length-1=m+(b.length-1) by omega,Xu,<-Jh,Zr (s+8)];exact Q3 _ (Q3 _ (Qza m Fj))
  have e4:s+(m+1)*(s+8)<=16777216:=by
   have:(m+2)*(s+8)<=(m+2)*(s+8)*3^(b.length-1):=Vf _ (Xd Fl);omega
  simp only[bF];rw[if_neg hb,Ix Fj (Fz h3 e4)];show ∃l,((bF k b (Pp (S6 a b))).bind λl=>some (b::l))=some (b::l)/\_;have lneg:(Pp (S6 a b)).length<=(S6 a b).length:=ZZ _;by_cases hr:(S6 a b).length=0
  ·have e:Pp (S6 a b)=[]:=Qi Fj;rw[e];refine⟨[],?_,?_⟩
   ·obtain⟨j,rfl⟩:∃j,k=j+1:=⟨k-1,Fj⟩;rfl
   ·obtain⟨c,hc,hcc⟩:=hd (cz b) ⟨Ey (1 / u) X,λt=>by
     have:=hX t;rw[Ew hr]at this;have hu:1 / u*u=1:=Ru up;rw[Gh,Gh,Hx];have:Gf a t=1 / u*(u*Gf a t):=Fq;rw[this,hX,Ew hr];grind⟩ (dvd_refl _)
    exact .base hc hcc
  ·have tn:Gk (Pp (S6 a b)):=Gw _ _;have hn0:(Pp (S6 a b)).length≠0:=λh0=>by
    have:=XE (c:=-1) h1 tn Fl λt=>by rw[Ah];grind
    omega
   obtain⟨l,i1,i2⟩:=Qaq (s:=s+(m+1)*(s+8)) k b (Pp (S6 a b)) tb tn hn0 Fj Fj Fj (Fz bb Fj) (CJ h3) (by rw[e2];omega) λd d1 d2=>by
    refine hd d ?_ d1;obtain⟨y,hy⟩:=d1;obtain⟨z,hz⟩:=d2;have hu:1 / u*u=1:=Ru up;refine⟨Ey (1 / u) (Ma (Rl X y) (Ey (-v) z)),λt=>?_⟩;have a1:=hX t;have a2:=hy t;have a3:=hz t;rw[Gh]at a2 a3;rw[Ah]at a3;rw[Gh,Hx,Rf,Gp,Hx];have:Gf a t=1 / u*(u*Gf a t):=Fq;rw[this,a1,a2,show Gf (S6 a b) t=-(ev d t*ev z t) by grind];grind
   refine⟨Pp (S6 a b)::l,by rw[i1];rfl,?_⟩;rw[Xa];exact .step (q:=X) up vp (λt=>by rw[Gh,Gh,Gh,hX,Ah];clear i2 i1 hd h3 hs;grind) i2
theorem GZ(x:Rat):∀(l:U7) (n:Nat) (s:Int),(l.foldl (Na λp=>Rp p x) (n,s)).1=n+tc x s (l.map cz)
 | [],n,s=>rfl
 |
  p::l,n,s=>by
  simp only[Xl,Xa,tc,Na];rw[M8,Gh]
  split
  ·exact GZ x l n s
  ·rw[GZ x l]
   split <;> omega
theorem JW(l:U7)(x:Rat):Lq l x=vv (l.map cz) x:=by
 have:=GZ x l 0 0;unfold Lq Lp vv;rw[this];omega
theorem Qjh{n:Nat}(hz:Szz n (s+73)){P q:U6}(sq:Sqp P g q)(lq:q.length<=n)(bq:Bd (s+69) q):∃d,zO (H5 q)=some d/\∃l,bF 66 q (Gq d)=some l/\SU (cz q) ((q::l).map cz)/\(q.length<2->l=[]):=by
 have hn:=hz.1;have hs:=Qn7 hz;have bd:=cX bq Fj;have ld:=Cf q;refine⟨H5 q,Ix Fj (Fz bd Fj),?_⟩;have hq0:=sq.pq.n;by_cases h2:q.length<2
 ·have e:Gq (H5 q)=[]:=by rw[Qi (l:=H5 q) Fj];rfl
  rw[e];refine⟨[],rfl,.inl ⟨1,Fl,λt=>?_,rfl⟩,λ_=>rfl⟩;rw[Gh,sq.pq.one h2,Cz]
 ·have hdnz:(H5 q).length≠0:=λh=>by
   have h1:=Nf q (q.length-2);rw[Qi h,show q.length-2+1=q.length-1 by omega]at h1;have h3:q.getD (q.length-1) 0≠0:=Tt sq.pq.t Fj;rcases Yy.1 (h1.symm.trans Fp)with h4|h4
   ·exact h3 h4
   ·omega
  obtain⟨p1,p2,p3,p4,p5,p6,p7⟩:=Lj (p:=H5 q) (Gw _ _) hdnz;have hdl:Gz (H5 q)=Gz q*((q.length-1:Nat):Int):=by
   have hld:(H5 q).length=q.length-1:=by
    rcases Zc (H5 q).length (q.length-1)with h|h
    ·have h1:=Nf q (q.length-2);rw[Qj,Qy Fj,show q.length-2+1=q.length-1 by omega]at h1;have h3:q.getD (q.length-1) 0≠0:=Tt sq.pq.t Fj;rcases Yy.1 (h1.symm.trans Fp)with h4|h4
     ·exact absurd h4 h3
     ·omega
    ·omega
   unfold Gz;rw[hld,Nf,show q.length-1-1+1=q.length-1 by omega]
  have hfac:0<Tf (H5 q):=by
   have hlp:0<Gz (H5 q):=by rw[hdl];exact Int.mul_pos sq.pq.l Fj
   have hc:=VF (p:=H5 q) (Gw _ _) hdnz;unfold Tf;rw[if_neg Fj];unfold Ms at hc ⊢;omega
  have hfq:((0:Int):Rat)<(Tf (H5 q):Rat):=J5.2 hfac;have hfq:(0:Rat)<(Tf (H5 q):Rat):=by simpa using hfq
  have hff:1 / (Tf (H5 q):Rat)*(Tf (H5 q):Rat)=1:=Ru hfq;have hz2:=hz.2;have hp3:(s+73+8)*3^(q.length-1)<=16777216:=by
   have:(s+73+8)*3^(q.length-1)<=(s+73+8)*3^(n-1):=Zv _ (Zt Fl Fj);rw[Jh]at hz2;omega
  obtain⟨l,h3,h4⟩:=Qaq (s:=s+73) 66 q (Gq (H5 q)) sq.pq.t p1 Fj Fj Fj Fj (Fz bq Fj) (p5 _ bd) hp3 λd d1 d2=>sq.num d1 (by
   obtain⟨z,hz⟩:=d2;exact⟨Ey (Tf (H5 q)) z,λt=>by
    have:=hz t;rw[Gh]at this;rw[Pi,<-ZH,p7,this,Hx];grind⟩)
  refine⟨Gq (H5 q)::l,h3,.inr ⟨cz (Gq (H5 q)),l.map cz,1 / (Tf (H5 q):Rat),Iz Fl hfq,λt=>?_,h4,rfl⟩,λh=>absurd h h2⟩;rw[Gh,<-ZH,p7 t];grind
theorem chain_ok{n:Nat}(h:Okp n s p):∃q l,M4 p=some q/\Lu p=some (q::l)/\SU (cz q) ((q::l).map cz)/\(q.length<2->l=[]):=by
 obtain⟨pp,hl,hb⟩:=h.pr;have hn:=h.z.1;have Dz:=h.l;obtain⟨g,q,hq,sq⟩:=WG h;have e1:∀t,Gf (Gq p) t=Gf q t*Gf g t:=λt=>by rw[sq.e];grind
 obtain⟨p1,p2⟩:=S8 pp.t pp.n e1;have hll:=Bq sq.pq.t sq.pg.t pp.t e1 p1 p2;obtain⟨d,d1,l,d2,d3⟩:=Qjh h.z sq Fj (YG hb Fj pp.t sq.pq.t sq.pg.t pp.n e1);refine⟨q,l,hq,?_,d3⟩;unfold Lu;rw[hq];show(if q.length=0 then none else _)=_;rw[if_neg sq.pq.n,d1];show(bF 66 q (Gq d)).bind _=_;rw[d2];rfl
structure Gr(D M k:Nat)(q:Rat):Prop where
 u:∃u:Int,q*((D*2^k:Nat):Rat)=(u:Rat)
 b:Gs q<=(M:Rat)
 d:0<D
theorem nat_pos{n:Nat}(h:0<n):(0:Rat)<(n:Rat):=by
 have:((0:Nat):Rat)<(n:Rat):=V8.2 h;simpa using this
variable{q:Rat}
theorem jU{D M k:Nat}(h:Gr D M k q):Gr D M (k+1) q:=by
 obtain⟨u,hu⟩:=h.u;refine⟨⟨u*2,?_⟩,h.b,h.d⟩;rw[Zs,<-Jh]
 push_cast at hu ⊢
 rw[<-hu];grind
theorem Qk3{D M k:Nat}{a b:Rat}(ha:Gr D M k a)(hb:Gr D M k b):Gr D M (k+1) ((a+b) / 2):=by
 obtain⟨u,hu⟩:=ha.u;obtain⟨v,hv⟩:=hb.u;have h2:(a+b) / 2*2=a+b:=Ru Fl;refine⟨⟨u+v,?_⟩,?_,ha.d⟩
 ·rw[Zs,<-Jh]
  push_cast at hu hv ⊢
  rw[<-hu,<-hv];generalize (a+b) / 2=c at *;generalize (D:Rat)*2^k=z at *;have:c*(z*2)=(c*2)*z:=Fq;rw[this,h2];grind
 ·have h3:=ha.b;have h4:=hb.b;rw[Be]at *;constructor <;> grind
theorem Qyj{D M k:Nat}(h:Gr D M k q):q.den<=D*2^k:=by
 obtain⟨u,hu⟩:=h.u;have hp:0<D*2^k:=Yn h.d (Xd Fl);have e:q=Rat.divInt u ((D*2^k:Nat):Int):=by
  rw[<-Tu,<-hu];have hz:=nat_pos hp;rw[show((((D*2^k:Nat):Int)):Rat)=((D*2^k:Nat):Rat) from rfl];rw[Yo];have:=Ub ((D*2^k:Nat):Rat) Fq;generalize ((D*2^k:Nat):Rat)=z at *;have:q*z*z⁻¹=q*(z*z⁻¹):=Fq;rw[this,‹z*z⁻¹=1›];grind
 rw[e,W6,if_neg Fj,Xw];exact Ya _ _
theorem IT{a b k:Nat}{z:Int}(h:z.natAbs<=a*(b*2^k)):Gl z<=Gl (a:Int)+Gl (b:Int)+k:=by
 have h1:Gl (a:Int)<=Gl (a:Int):=Qm _;have h2:Gl (b:Int)<=Gl (b:Int):=Qm _;rw[Mm]at h1 h2 ⊢;rw[Xw]at h1 h2;rw[Xu,Xu];have h3:a*b<2^Gl (a:Int)*2^Gl (b:Int):=Nat.mul_lt_mul_of_lt_of_le h1 (Y4 h2) (Xd Fl);have h4:=X6 h3 (show 0<2^k from Xd Fl);rw[<-Jh]at h;omega
theorem jW{D M k B:Nat}(h:Gr D M k q)(hM:0<M)(hs:Gl (D:Int)+Gl (M:Int)+k<=B):Qs B q:=by
 have hd:=Qyj h;have hden:=nat_pos q.den_pos;have h1:(q.num.natAbs:Rat)<=((M*(D*2^k):Nat):Rat):=by
  have e:(q.num:Rat)=q*(q.den:Rat):=by
   have:(q.num:Rat) / (((q.den:Int)):Rat)=q:=by rw[Tu,Xj]
   have h2:(q.num:Rat) / (q.den:Rat)*(q.den:Rat)=q.num:=Zj Fq;rw[show(q.num:Rat) / (q.den:Rat)=q from this]at h2;exact h2.symm
  rw[<-Md,e];have h3:=Rt (x:=q) (y:=(q.den:Rat)) (b:=((D*2^k:Nat):Rat)) h.b (by
   have:Gs (q.den:Rat)=(q.den:Rat):=by unfold Gs;rw[if_neg Fq]
   rw[this];exact Zm.2 hd)
  push_cast at h3 ⊢;exact h3
 have h1:=Zm.1 h1;refine⟨?_,?_⟩
 ·have:=IT (z:=q.num) h1;omega
 ·have:=IT (z:=(q.den:Int)) (a:=M) (b:=D) (k:=k) (by
   rw[Xw];exact Qc hd (Nat.le_mul_of_pos_left _ hM))
  omega
theorem eK(a b:Rat):mid a b=(a+b) / 2:=by
 unfold mid;rw[<-Tu];have ha:(a.num:Rat)=a*(a.den:Rat):=by
  have:(a.num:Rat) / (((a.den:Int)):Rat)=a:=by rw[Tu,Xj]
  have h2:(a.num:Rat) / (a.den:Rat)*(a.den:Rat)=a.num:=Zj (by have:=nat_pos a.den_pos;grind);rw[show(a.num:Rat) / (a.den:Rat)=a from this]at h2;exact h2.symm
 have hb:(b.num:Rat)=b*(b.den:Rat):=by
  have:(b.num:Rat) / (((b.den:Int)):Rat)=b:=by rw[Tu,Xj]
  have h2:(b.num:Rat) / (b.den:Rat)*(b.den:Rat)=b.num:=Zj (by have:=nat_pos b.den_pos;grind);rw[show(b.num:Rat) / (b.den:Rat)=b from this]at h2;exact h2.symm
 have pa:=nat_pos a.den_pos;have pb:=nat_pos b.den_pos;rw[Ku,Ji,Ji,Ji,Ji,ha,hb];rw[show(((a.den:Int)):Rat)=(a.den:Rat) from rfl,show(((b.den:Int)):Rat)=(b.den:Rat) from rfl,show(((2:Int)):Rat)=2 from rfl];generalize (a.den:Rat)=x at *;generalize (b.den:Rat)=y at *;have hxy:=QF (QF pa pb) (show(0:Rat)<2 by decide);have h1:(a*x*y+b*y*x) / (x*y*2)*(x*y*2)=a*x*y+b*y*x:=Ru hxy;have h2:(a+b) / 2*2=a+b:=Ru Fl;generalize (a*x*y+b*y*x) / (x*y*2)=c at *;generalize (a+b) / 2=d at *;have h3:(x*y*2)*(c-d)=0:=Fq;rcases X3.1 h3 with h4|h4 <;> grind
theorem DO(a b:Rat):OA a b=a-b:=by
 unfold OA;rw[Rat.sub_def',<-Rat.divInt_ofNat]
 push_cast;rfl
theorem Qaw{a b:Rat}:Rx a b=0↔a=b:=by
 constructor
 ·intro h;have h1:¬a<b:=λh'=>by have:=Cy.2 h';omega
  have h2:¬b<a:=λh'=>by have:=Az.2 h';omega
  grind
 ·intro h;subst h;exact Ig a
theorem CM{a b:Rat}:Rx a b<=0↔a<=b:=by
 constructor
 ·intro h;have h2:¬b<a:=λh'=>by have:=Az.2 h';omega
  grind
 ·intro h;have h2:¬0<Rx a b:=λh'=>by have:=Az.1 h';grind
  omega
theorem CP{a b:Rat}:0<=Rx a b↔b<=a:=by
 constructor
 ·intro h;have h2:¬a<b:=λh'=>by have:=Cy.2 h';omega
  grind
 ·intro h;have h2:¬Rx a b<0:=λh'=>by have:=Cy.1 h';grind
  omega
theorem D7(a b:Rat):Rx a b=1/\b<a\/Rx a b=0/\a=b\/Rx a b=-1/\a<b:=by
 have hb:=XH a b;rcases(show Rx a b=1\/Rx a b=0\/Rx a b=-1 by omega)with h|h|h
 ·exact .inl ⟨h,Az.1 Fj⟩
 ·exact .inr (.inl ⟨h,Qaw.1 h⟩)
 ·exact .inr (.inr ⟨h,Cy.1 Fj⟩)
theorem pX(p:U6)(x:Rat):low p x=M7 (cz p) x:=by
 unfold low M7;rw[M8,M8,Gh,ZH]
variable{t:Tm}
theorem D8(h:t.lo<t.hi)(q:Rat):Gx t q=cq (cz t.p) t.lo t.hi q:=by
 have hp:t.point=false:=by
  unfold Tm.point;have:¬0<=Rx t.lo t.hi:=λh'=>by have:=CP.1 h';grind
  simp[this]
 unfold Gx cq;rw[hp,if_neg Fl];have e1:(Rx q t.lo<=0)=(q<=t.lo):=propext CM;have e2:(0<Rx q t.hi)=(t.hi<q):=propext Az;rw[M8,pX,<-Gh];simp only[e1,e2]
theorem Ng:t.point=true↔t.hi<=t.lo:=by
 unfold Tm.point;rw[decide_eq_true_iff];exact CP
theorem Ow(h:t.lo=t.hi)(q:Rat):Gx t q=Rx t.lo q:=by
 have hp:t.point=true:=Ng.2 (by rw[h];exact Qr);unfold Gx;rw[if_pos hp]
variable{c:Rat->Int}{x:Rat}
theorem Qxw(h:∀q,c q=Rx x q):Cut c where
 val q:=by rw[h];have:=XH x q;omega
 mono q r hqr h1:=by
  rw[h]at h1 ⊢;rcases D7 x q with⟨e,e'⟩|⟨e,e'⟩|⟨e,e'⟩
  ·exact absurd e h1
  ·rcases D7 x r with⟨f,f'⟩|⟨f,f'⟩|⟨f,f'⟩ <;> grind
  ·rcases D7 x r with⟨f,f'⟩|⟨f,f'⟩|⟨f,f'⟩ <;> grind
 up q h1:=by
  rw[h]at h1;have h2:=Az.1 (show 0<Rx x q by omega);have h3:(x+q) / 2*2=x+q:=Ru Fl;have h4:=Az.2 (show(x+q) / 2<x by grind);have:=XH x ((x+q) / 2);exact⟨(x+q) / 2,Fq,by rw[h];omega⟩
 dn q h1:=by
  rw[h]at h1;have h2:=Cy.1 (show Rx x q<0 by omega);have h3:(x+q) / 2*2=x+q:=Ru Fl;have h4:=Cy.2 (show x<(x+q) / 2 by grind);have:=XH x ((x+q) / 2);exact⟨(x+q) / 2,Fq,by rw[h];omega⟩
 lo:=⟨x-1,by
  rw[h];have h4:=Az.2 (show x-1<x by grind);have:=XH x (x-1);omega⟩
 hi:=⟨x+1,by
  rw[h];have h4:=Cy.2 (show x<x+1 by grind);have:=XH x (x+1);omega⟩
def lim(t:Tm):Nat:=if t.point=true then 3300000 else 1000000
theorem wT(h:t.point=false):lim t=1000000:=by simp[lim,h]
theorem Qyo(t:Tm):1000000<=lim t:=by unfold lim;split <;> omega
theorem Qyp(t:Tm):lim t<=3300000:=by unfold lim;split <;> omega
structure Va(t:Tm):Prop where
 i:t.lo=t.hi/\Gf t.p t.lo=0\/∃L,Vt (cz t.p) L t.lo t.hi
 tr:Gk t.p
 n:t.p.length<=9
 n2:2<=t.p.length
 b:Bd 3300000 t.p
 bi:t.point=false->Bd 1260 t.p
 sc:t.point=false->∃(l:List (List Int)) (P g:List Int),bF 66 t.p (Gq (H5 t.p))=some l/\Sqp P g t.p/\Vt (cz t.p) ((t.p::l).map cz) t.lo t.hi
 g:∃D M k,Gr D M k t.lo/\Gr D M k t.hi/\0<M/\Gl (D:Int)+Gl (M:Int)+k<=lim t
theorem Va.pt(h:Va t)(hp:t.point=true):t.lo=t.hi/\Gf t.p t.lo=0:=by
 rcases h.i with e|⟨L,V⟩
 ·exact e
 ·have:=Ng.1 hp;have:=V.l;grind
theorem Va.iv(h:Va t)(hp:t.point=false):∃L,Vt (cz t.p) L t.lo t.hi:=by
 rcases h.i with⟨e,_⟩|h
 ·have:=Ng.2 (show t.hi<=t.lo by rw[e];exact Qr);rw[hp]at this;cases this
 ·exact h
theorem Va.cut(h:Va t):Cut (Gx t):=by
 rcases h.i with⟨e,_⟩|⟨L,V⟩
 ·exact Qxw (x:=t.lo) λq=>Ow e q
 ·have:Gx t=cq (cz t.p) t.lo t.hi:=funext λq=>D8 V.l q
  rw[this];exact V.cut
theorem Qz9(hc:Cut c){p:U9}(h:c x=0)(h0:ev p x=0):QT p c:=by
 rcases KQ hc p with h1|⟨s,hs,h1⟩
 ·exact h1
 ·have:=pR hc h h1;rw[Hd.2 h0]at this;exact absurd this.symm hs
theorem Va.van(h:Va t):QT (cz t.p) (Gx t):=by
 have hc:=h.cut;rcases h.i with⟨e,h0⟩|⟨L,V⟩
 ·exact Qz9 hc (x:=t.lo) (by rw[Ow e,Ig]) (by rw[Gh];exact h0)
 ·have:Gx t=cq (cz t.p) t.lo t.hi:=funext λq=>D8 V.l q
  rw[this];exact V.van
theorem Va.qs(h:Va t):Qs 3300000 t.lo/\Qs 3300000 t.hi:=by
 obtain⟨D,M,k,h1,h2,h3,h4⟩:=h.g;have h4:=Qc h4 (Qyp t);exact⟨jW h1 h3 h4,jW h2 h3 h4⟩
theorem Va.qsn(h:Va t)(hp:t.point=false):Qs 1000000 t.lo/\Qs 1000000 t.hi:=by
 obtain⟨D,M,k,h1,h2,h3,h4⟩:=h.g;rw[wT hp]at h4;exact⟨jW h1 h3 h4,jW h2 h3 h4⟩
theorem Va.tb(h:Va t):Tb t:=⟨⟨h.tr,by have:=h.n;omega,Fz h.b Fj⟩,h.qs.1.mono (t:=16777216) Fj,h.qs.2.mono (t:=16777216) Fj⟩
structure Hv(t:Tm)(D M k:Nat)(u:Tm):Prop where
 p:u.p=t.p
 i:u.lo=u.hi/\Gf u.p u.lo=0\/∃L,Vt (cz u.p) L u.lo u.hi
 c:∀q,Gx u q=Gx t q
 l:Gr D M k u.lo
 h:Gr D M k u.hi
theorem tY(hc:Cut c)(h:c x=0)(q:Rat):c q=Rx x q:=by
 rcases D7 x q with⟨e,e'⟩|⟨e,e'⟩|⟨e,e'⟩
 ·rw[e];exact hc.mono' e' Fj
 ·rw[e,<-e',h]
 ·rw[e];exact hc.mono x q e' Fj
theorem wW{u:Tm}{D M k:Nat}(hu:Hv t D M k u)(hM:0<M)(hs:Gl (D:Int)+Gl (M:Int)+(k+1)<=16777216):∃v,wK u=some v/\Hv t D M (k+1) v/\v.hi-v.lo<=(u.hi-u.lo) / 2/\u.lo<=v.lo/\v.hi<=u.hi:=by
 have h2:∀x:Rat,x / 2*2=x:=λx=>Ru Fl
 unfold wK;rcases hu.i with⟨e,h0⟩|⟨L,V⟩
 ·have hp:u.point=true:=Ng.2 (by rw[e];exact Qr);rw[if_pos hp];refine⟨u,rfl,⟨hu.p,hu.i,hu.c,jU hu.l,jU hu.h⟩,?_,Qr,Qr⟩;rw[e];have:=h2 (u.hi-u.hi);grind
 ·have hp:u.point=false:=by
   have:¬u.point=true:=λh=>by have:=Ng.1 h;have:=V.l;grind
   simpa using this
  rw[hp,if_neg Fl];obtain⟨m,hm⟩:=nmE ((u.lo+u.hi) / 2);have hmg:Gr D M (k+1) m:=by rw[hm];exact Qk3 hu.l hu.h
  have hmm:=h2 (u.lo+u.hi);rw[<-hm]at hmm;have hl:=V.l;have hl1:u.lo<m:=Fq;have hl2:m<u.hi:=Fq;have hch:chq (mid u.lo u.hi)=some m:=by
   rw[eK,<-hm];have:=jW hmg hM hs;unfold chq;rw[if_pos ⟨this.1,this.2⟩]
  have hcm:mid u.lo u.hi=m:=by rw[eK,<-hm]
  rw[hch];show ∃v,some (if Gx u m=0 then(⟨u.p,m,m⟩:Tm)else if Gx u m=-1 then ⟨u.p,u.lo,m⟩else ⟨u.p,m,u.hi⟩)=some v/\_;have hw:=h2 (u.hi-u.lo);have hcu:=D8 hl;have hcut:=V.cut;have hcut':Cut (Gx u):=by rw[show Gx u=cq (cz u.p) u.lo u.hi from funext hcu];exact hcut
  by_cases c0:Gx u m=0
  ·rw[if_pos c0];have hz:Gf u.p m=0:=by
    have:=MO hcut (q:=m) (by rw[<-hcu];exact c0) V.van;rwa[Gh]at this
   refine⟨_,rfl,⟨hu.p,.inl ⟨rfl,hz⟩,λq=>?_,hmg,hmg⟩,by show m-m<=_;grind,by show u.lo<=m;grind,by show m<=u.hi;grind⟩;rw[Ow rfl,<-hu.c];exact(tY hcut' c0 q).symm
  ·rw[if_neg c0];by_cases c1:Gx u m=-1
   ·rw[if_pos c1];have hv:vv L m=vv L u.hi:=V.eq_hi hl1 (Qt hl2) (by rw[<-hcu,c1];decide);have V':Vt (cz u.p) L u.lo m:=⟨V.s,hl1,by rw[hv];exact V.v⟩;refine⟨_,rfl,⟨hu.p,.inr ⟨L,V'⟩,λq=>?_,jU hu.l,hmg⟩,by show m-u.lo<=_;grind,Qr,by show m<=u.hi;grind⟩;rw[D8 hl1,<-hu.c,hcu];exact V.uniq V'.cut (Iy Qr) (by rw[GO hl1 hl2];decide) V'.van q
   ·rw[if_neg c1];have c2:Gx u m=1:=by rcases hcut'.val m with h|h|h <;> omega
    have hv:vv L m=vv L u.lo:=V.eq_lo hl1 (Qt hl2) (by rw[<-hcu];exact c2);have V':Vt (cz u.p) L m u.hi:=⟨V.s,hl2,by rw[hv];exact V.v⟩;refine⟨_,rfl,⟨hu.p,.inr ⟨L,V'⟩,λq=>?_,hmg,jU hu.h⟩,by show u.hi-m<=_;grind,by show u.lo<=m;grind,Qr⟩;rw[D8 hl2,<-hu.c,hcu];exact V.uniq V'.cut (Iy Fq) V'.hi1 V'.van q
def C5(a b:Tm):Prop:=∃q,Gx a q=-1/\Gx b q=1
def TEq(a b:Tm):Prop:=∀q,Gx a q=Gx b q
theorem tri{a b:Tm}(ha:Cut (Gx a))(hb:Cut (Gx b)):C5 a b\/TEq a b\/C5 b a:=by
 rcases Classical.em (TEq a b)with h|h
 ·exact .inr (.inl h)
 ·obtain⟨q,hq⟩:=Classical.not_forall.1 h;obtain⟨r,⟨h1,h2⟩|⟨h1,h2⟩⟩:=tJ ha hb hq
  ·exact .inl ⟨r,h1,h2⟩
  ·exact .inr (.inr ⟨r,h2,h1⟩)
theorem QU{a b:Tm}(ha:Cut (Gx a))(hb:Cut (Gx b))(h:C5 a b)(h':C5 b a):False:=by
 obtain⟨q,q1,q2⟩:=h;obtain⟨r,r1,r2⟩:=h';have:=ha.lt r2 q1;have:=hb.lt q2 r1;grind
theorem mG{p:U6}(k:Nat):(p.getD k 0).natAbs<=2^Rq p:=by
 have h:Gl (p.getD k 0)<=Rq p:=by
  have key:∀(l:U6) (n:Nat),n≤l.foldl (λn z=>max n (Gl z)) n/\∀z∈l,Gl z≤l.foldl (λn z=>max n (Gl z)) n:=by
   intro l
   induction l with
   |nil=>exact λn=>⟨Qm _,λz hz=>by cases hz⟩
   |
    cons y l ih =>
    intro n;obtain⟨i1,i2⟩:=ih (max n (Gl y));refine⟨by simp only[Xl];omega,λz hz=>?_⟩;simp only[Xl];rcases Qk.1 hz with rfl|hz
    ·omega
    ·exact i2 z hz
  exact G0 (s:=Rq p) (λz hz=>(key p 0).2 z hz) k
 rw[Mm]at h;omega
theorem Qvi{s:Nat}:∀(B:U6),(∀z∈B,z.natAbs≤2^s)->gB B≤2^(s+(B.length-1))
 | [],_=>Qg _
 |
  c::B,h=>by
  have h1:=h c (Qw ..);have h2:=Qvi B λz hz=>h z (Qh _ hz)
  simp only[gB,Q5,Yu];have h3:2^s<=2^(s+B.length):=Zt Fl Fj;cases B with
  |nil=>simp only[gB,Xy]at *;omega
  |
   cons d B =>
   have h4:2^(s+(d::B).length)=2*2^(s+((d::B).length-1)):=by
    rw[Zr,<-Zs];congr 1
   rw[h4];omega
def Pu(A B:U6):Nat:=(Rq A+Rq B+(A.length+B.length)+8)*(2*(A.length+B.length-2)-1)
theorem Qko{A B:U6}(tA:Gk A)(tB:Gk B)(nA:A.length<=9)(nB:B.length<=9)(lA:2<=A.length)(lB:2<=B.length){R d:Rat}(hR:1<=R)(dp:0<d)
 (hs:∀e:Rat,0<e->∃q r,Gs q<=R/\Gs r<=R/\d<=Gs (q-r)/\Gs (q-r)*((2^(Pu A B+1):Nat):Rat)<=1/\Gs (Gf A q)<e/\Gs (Gf B r)<e):False:=by
 obtain⟨a,ha⟩:∃a,A.length=a+1:=⟨A.length-1,Fj⟩;obtain⟨b,hb⟩:∃b,B.length=b+1:=⟨B.length-1,Fj⟩;obtain⟨s,hsd⟩:=nmE (Rq A+Rq B+b);obtain⟨N,hN⟩:∃N,b*(2*(a*b))+a*(2*(a*b)-b)=N:=⟨_,rfl⟩;have hNt:N<=2^(a+9):=by
  rw[<-hN];have hab:∀a b:Fin 9,b.1*(2*(a.1*b.1))+a.1*(2*(a.1*b.1)-b.1)<=2^(a.1+9):=Fl;exact hab ⟨a,Fj⟩ ⟨b,Fj⟩
 have hK:Pu A B=(s+a+10)*(2*(a+b-1)+1):=by
  unfold Pu;rw[ha,hb,hsd,show a+1+(b+1)-2=a+b by omega,show 2*(a+b)-1=2*(a+b-1)+1 by omega];congr 1;omega
 have h0A:A.getD a 0≠0:=by have:=Tt tA Fj;rwa[ha]at this
 have h0B:B.getD b 0≠0:=by have:=Tt tB Fj;rwa[hb]at this
 have hp:∀m,1<=2^m:=λm=>Xd Fl
 refine Qyf (N:=N) (D:=2^(Pu A B-1)) ha hb h0A h0B Fj Fj (h:=2^s) (hp s) (λk=>Qc (mG k) (Zt Fl Fj)) ?_ hN ?_ hR dp λe ep=>?_
 ·refine Qc (Qvi (s:=Rq B) B λz hz=>?_) (Zt Fl Fj);obtain⟨i,hi⟩:=Zk.1 hz;have:=mG (p:=B) i;rwa[Qj,hi]at this
 ·have h1:2*(N*2^s)<=2^(s+a+10):=by
   have:N*2^s<=2^(a+9)*2^s:=Q3 _ hNt;rw[<-Xu]at this;rw[show s+a+10=(a+9+s)+1 by omega,Zs];omega
  have h2:N*2^s<=2^(s+a+9):=by
   rw[show s+a+9=(a+9)+s by omega,Xu];exact Q3 _ hNt
  have h3:=Nat.pow_le_pow_left h1 (2*(a+b-1));have h4:=Zg h2 h3;rw[<-We,<-Xu]at h4;rw[<-Jh];refine Qc h4 (Zt Fl ?_);rw[hK,X1,Vk];omega
 ·obtain⟨q,r,h1,h2,h3,h4,h5,h6⟩:=hs e ep;refine⟨q,r,h1,h2,h3,?_,h5,h6⟩;have hK1:1<=Pu A B:=by
   rw[hK];exact Yn Fj Fj
  have e1:2^(Pu A B+1)=4*2^(Pu A B-1):=by
   obtain⟨m,hm⟩:∃m,Pu A B=m+1:=⟨Pu A B-1,Fj⟩;rw[hm,Yu,Zs,Zs];omega
  rw[e1]at h4
  push_cast at h4 ⊢
  exact h4
variable{t u:Tm}{D M:Nat}
theorem Hv.lo'{k:Nat}(h:Hv t D M k u):Gx t u.lo=1\/Gx t u.lo=0/\u.lo=u.hi:=by
 rw[<-h.c];rcases h.i with⟨e,_⟩|⟨L,V⟩
 ·exact .inr ⟨by rw[Ow e,Ig],e⟩
 ·exact .inl (by rw[D8 V.l];exact Iy Qr)
theorem Hv.hi'{k:Nat}(h:Hv t D M k u):Gx t u.hi=0\/Gx t u.hi=-1:=by
 rw[<-h.c];rcases h.i with⟨e,_⟩|⟨L,V⟩
 ·exact .inl (by rw[Ow e,e,Ig])
 ·rw[D8 V.l];have:=V.hi1;rcases V.cut.val u.hi with h|h|h <;> omega
theorem Hv.le{k:Nat}(h:Hv t D M k u):u.lo<=u.hi:=by
 rcases h.i with⟨e,_⟩|⟨L,V⟩
 ·rw[e];exact Qr
 ·exact Qt V.l
theorem Qkp{a b:Tm}(ha:Va a)(hb:Va b){k D' M' k':Nat}{v:Tm}(hu:Hv a D M k u)(hv:Hv b D' M' k' v)(h:C5 a b):1<(v.hi-u.lo)*((2^(Pu a.p b.p+1):Nat):Rat):=by
 rcases Hl ((v.hi-u.lo)*((2^(Pu a.p b.p+1):Nat):Rat)) 1 with hw|hw
 ·exfalso;have ca:=ha.cut;have cb:=hb.cut;obtain⟨m,m1,m2⟩:=h;obtain⟨m',hm',m3⟩:=ca.dn m m1;have hpow:(0:Rat)<=((2^(Pu a.p b.p+1):Nat):Rat):=Xz;obtain⟨R,hR⟩:=nmE (Gs u.lo+Gs m'+Gs m+Gs v.hi+1);have n1:=Tl u.lo;have n2:=Tl m';have n3:=Tl m;have n4:=Tl v.hi;refine Qko (R:=R) (d:=m-m') ha.tr hb.tr ha.n hb.n ha.n2 hb.n2 Fq Fq λe ep=>?_
  obtain⟨q,q1,q2,q3⟩:∃q,u.lo<=q/\q<=m'/\Gs (Gf a.p q)<e:=by
   rcases hu.lo' with h1|⟨h1,_⟩
   ·obtain⟨x,y,hx,hy,hq⟩:=ha.van e ep;rcases Hl x u.lo with e1|e1
    ·exact⟨u.lo,Qr,Qt (ca.lt h1 m3),by rw[<-Gh];exact hq u.lo e1 (Qt (ca.lt h1 hy))⟩
    ·exact⟨x,Qt e1,Qt (ca.lt hx m3),by rw[<-Gh];exact hq x Qr (Qt (ca.lt hx hy))⟩
   ·refine⟨u.lo,Qr,?_,by rw[<-Gh,MO ca h1 ha.van,Ty];exact ep⟩;rcases Hl u.lo m' with e1|e1
    ·exact e1
    ·have:=ca.mono m' u.lo e1 Fj;omega
  obtain⟨r,r1,r2,r3⟩:∃r,r<=v.hi/\m<=r/\Gs (Gf b.p r)<e:=by
   rcases hv.hi' with h1|h1
   ·refine⟨v.hi,Qr,?_,by rw[<-Gh,MO cb h1 hb.van,Ty];exact ep⟩;rcases Hl m v.hi with e1|e1
    ·exact e1
    ·have:=cb.mono v.hi m e1 Fj;omega
   ·obtain⟨x,y,hx,hy,hq⟩:=hb.van e ep;rcases Hl v.hi y with e1|e1
    ·exact⟨v.hi,Qr,Qt (cb.lt m2 h1),by rw[<-Gh];exact hq v.hi (Qt (cb.lt hx h1)) e1⟩
    ·exact⟨y,Qt e1,Qt (cb.lt m2 hy),by rw[<-Gh];exact hq y (Qt (cb.lt hx hy)) Qr⟩
  have e1:Gs (q-r)=r-q:=by unfold Gs;split <;> grind
  have b1:Gs q<=R:=by
   have:=HL (R:=R) (x:=u.lo) (y:=m') (t:=q) Fq Fq q1 q2;exact this
  have b2:Gs r<=R:=by
   have:=HL (R:=R) (x:=m) (y:=v.hi) (t:=r) Fq Fq r2 r1;exact this
  refine⟨q,r,b1,b2,by rw[e1];grind,?_,q3,r3⟩;rw[e1];have:=Zh (show r-q<=v.hi-u.lo by grind) hpow;exact Zl this hw
 ·exact hw
theorem rK{a b:Tm}(ha:Va a)(hb:Va b){k D' M' k':Nat}{v:Tm}(hu:Hv a D M k u)(hv:Hv b D' M' k' v)(hne:¬TEq a b)(h:E3 u v=true):C5 a b:=by
 have h1:=(of_decide_eq_true h).1;have h1:=CM.1 h1;rcases tri ha.cut hb.cut with h2|h2|⟨m,m1,m2⟩
 ·exact h2
 ·exact absurd h2 hne
 ·exfalso;have e1:m<u.hi:=by
   rcases Hl u.hi m with e|e
   ·rcases Classical.em (u.hi=m)with e'|e'
    ·have:=hu.hi';rw[e']at this;omega
    ·have:=ha.cut.mono u.hi m Fq (by have:=hu.hi';omega);omega
   ·exact e
  have e2:v.lo<m:=by
   rcases Hl m v.lo with e|e
   ·rcases Classical.em (m=v.lo)with e'|e'
    ·have:=hv.lo';rw[<-e']at this;omega
    ·have:=hb.cut.mono m v.lo Fq Fj;have:=hv.lo';omega
   ·exact e
  grind
theorem Qcd{a b:Tm}(ha:Va a)(hb:Va b){k D' M' k':Nat}{v:Tm}(hu:Hv a D M k u)(hv:Hv b D' M' k' v)(hlt:C5 a b)(h:E3 u v≠true):v.lo<=u.hi:=by
 rcases Hl v.lo u.hi with e|e
 ·exact e
 ·refine absurd (decide_eq_true ⟨CM.2 (Qt e),λh'=>?_⟩) h;have:=Qaw.1 h'.2;grind
theorem mY(m:Nat):((2^(m+1):Nat):Rat)=2*((2^m:Nat):Rat):=by rw[Zs];push_cast;grind
def Qv7(a b:Tm)(r:Tm×Tm×Int):Prop:=r.2.2=-1/\C5 a b\/r.2.2=1/\C5 b a
theorem Qe6(A B:U6):Pu A B=Pu B A:=by unfold Pu;rw[Nat.add_comm A.length,Nat.add_comm (Rq A)]
theorem Q0s{a b:Tm}(ha:Va a)(hb:Va b)(hne:¬TEq a b){D' M':Nat}(hM:0<M)(hM':0<M'):∀(i j:Nat) (u v:Tm) (k k':Nat) (W:Rat),2*i+1<=j->Hv a D M k u->Hv b D' M' k' v->Gl (D:Int)+Gl (M:Int)+(k+j)<=16777216->Gl (D':Int)+Gl (M':Int)+(k'+j)<=16777216->u.hi-u.lo<=W->v.hi-v.lo<=W->2*W*((2^(Pu a.p b.p+1):Nat):Rat)<=((2^i:Nat):Rat)->∃r,qB j u v=some r/\Qv7 a b r:=by
 intro i;have step:∀(j:Nat) (u v:Tm) (k k':Nat),Hv a D M k u->Hv b D' M' k' v->Gl (D:Int)+Gl (M:Int)+(k+(j+1))<=16777216->Gl (D':Int)+Gl (M':Int)+(k'+(j+1))<=16777216->(∃r,qB (j+1) u v=some r/\Qv7 a b r)\/(E3 u v≠true/\E3 v u≠true/\∃u' v' k1 k1',qB (j+1) u v=qB j u' v'/\Hv a D M k1 u'/\Hv b D' M' k1' v'/\k1<=k+1/\k1'<=k'+1/\(v.hi-v.lo<=u.hi-u.lo/\u'.hi-u'.lo<=(u.hi-u.lo) / 2/\v'=v\/u.hi-u.lo<=v.hi-v.lo/\v'.hi-v'.lo<=(v.hi-v.lo) / 2/\u'=u)):=by
  intro j u v k k' hu hv hs hs';by_cases h1:E3 u v=true
  ·exact .inl ⟨(u,v,-1),by simp only[qB];rw[if_pos h1],.inl ⟨rfl,rK ha hb hu hv hne h1⟩⟩
  by_cases h2:E3 v u=true
  ·exact .inl ⟨(u,v,1),by simp only[qB];rw[if_neg h1,if_pos h2],.inr ⟨rfl,rK hb ha hv hu (λh=>hne λq=>(h q).symm) h2⟩⟩
  refine .inr ⟨h1,h2,?_⟩;by_cases h3:0<=Rx (OA u.hi u.lo) (OA v.hi v.lo)
  ·obtain⟨x,x1,x2,x3,_⟩:=wW hu hM Fj;refine⟨x,v,k+1,k',?_,x2,hv,Fj,Fj,.inl ⟨?_,x3,rfl⟩⟩
   ·simp only[qB];rw[if_neg h1,if_neg h2,if_pos h3,x1];rfl
   ·have:=CP.1 h3;rwa[DO,DO]at this
  ·obtain⟨x,x1,x2,x3,_⟩:=wW hv hM' Fj;refine⟨u,x,k,k'+1,?_,hu,x2,Fj,Fj,.inr ⟨?_,x3,rfl⟩⟩
   ·simp only[qB];rw[if_neg h1,if_neg h2,if_neg h3,x1];rfl
   ·rcases Hl (u.hi-u.lo) (v.hi-v.lo)with e|e
    ·exact e
    ·refine absurd (CP.2 ?_) h3;rw[DO,DO];exact Qt e
 induction i with
 |
  zero =>
  intro j u v k k' W hj hu hv hs hs' hW hW' hK;obtain⟨j,rfl⟩:∃m,j=m+1:=⟨j-1,Fj⟩;rcases step j u v k k' hu hv hs hs' with h|⟨h1,h2,_⟩
  ·exact h
  ·exfalso;have hpow:(0:Rat)<=((2^(Pu a.p b.p+1):Nat):Rat):=Xz;rw[Vx]at hK;rcases tri ha.cut hb.cut with h3|h3|h3
   ·have h4:=Qcd ha hb hu hv h3 h1;have h5:=Qkp ha hb hu hv h3;have h6:=Zh (show v.hi-u.lo<=2*W by clear step;grind) hpow;have h7:((1:Nat):Rat)=1:=rfl;rw[h7]at hK;clear step;grind
   ·exact hne h3
   ·have h4:=Qcd hb ha hv hu h3 h2;have h5:=Qkp hb ha hv hu h3;rw[Qe6]at h5;have h6:=Zh (show u.hi-v.lo<=2*W by clear step;grind) hpow;have h7:((1:Nat):Rat)=1:=rfl;rw[h7]at hK;clear step;grind
 |
  succ i ih =>
  intro j u v k k' W hj hu hv hs hs' hW hW' hK;obtain⟨j,rfl⟩:∃m,j=m+2:=⟨j-2,Fj⟩;have hd:∀x:Rat,x / 2*2=x:=λx=>Ru Fl
  rcases step (j+1) u v k k' hu hv hs hs' with h|⟨_,_,u1,v1,k1,k1',e1,hu1,hv1,hk1,hk1',hw1⟩
  ·exact h
  ·rw[e1];rcases step j u1 v1 k1 k1' hu1 hv1 Fj Fj with h|⟨_,_,u2,v2,k2,k2',e2,hu2,hv2,hk2,hk2',hw2⟩
   ·exact h
   ·rw[e2];have a1:=hd (u.hi-u.lo);have a2:=hd (v.hi-v.lo);have a3:=hd (u1.hi-u1.lo);have a4:=hd (v1.hi-v1.lo);have a5:=hd W;have b1:=hu.le;have b2:=hv.le;have b3:=hu1.le;have b4:=hv1.le;have b5:=hu2.le;have b6:=hv2.le;have hww:u2.hi-u2.lo<=W / 2/\v2.hi-v2.lo<=W / 2:=by
     clear step ih;rcases hw1 with⟨c1,c2,rfl⟩|⟨c1,c2,rfl⟩ <;> rcases hw2 with⟨d1,d2,rfl⟩|⟨d1,d2,rfl⟩ <;> constructor <;> grind
    refine ih j u2 v2 k2 k2' (W / 2) Fj hu2 hv2 Fj Fj hww.1 hww.2 ?_;rw[mY i]at hK;have:2*(W / 2)*((2^(Pu a.p b.p+1):Nat):Rat)*2=2*W*((2^(Pu a.p b.p+1):Nat):Rat):=by clear step ih hw1 hw2;grind
    clear step ih hw1 hw2;grind
def CmpOk(a b:Tm)(c:Int):Prop:=c=-1/\C5 a b\/c=0/\TEq a b\/c=1/\C5 b a
theorem Va.hv0{t:Tm}(h:Va t):∃D M k,Hv t D M k t/\0<M/\Gl (D:Int)+Gl (M:Int)+k<=lim t:=by
 obtain⟨D,M,k,h1,h2,h3,h4⟩:=h.g;exact⟨D,M,k,⟨rfl,h.i,λ_=>rfl,h1,h2⟩,h3,h4⟩
variable{a:Tm}
theorem aW(ha:Va a)(hp:a.point=true)(q:Rat):Gx a q=Rx a.lo q:=Ow (ha.pt hp).1 q
variable{x:Rat}
theorem Qjn{b:Tm}(hb:Va b)(hx:∀q,Gx a q=Rx x q):CmpOk a b (-Gx b x):=by
 have cb:=hb.cut;rcases cb.val x with h|h|h
 ·obtain⟨q,q1,q2⟩:=cb.up x h;refine .inl ⟨Fj,q,?_,q2⟩;rw[hx];rcases D7 x q with⟨e,e'⟩|⟨e,e'⟩|⟨e,e'⟩ <;> grind
 ·exact .inr (.inl ⟨Fj,λq=>by rw[hx,tY cb h]⟩)
 ·obtain⟨q,q1,q2⟩:=cb.dn x h;refine .inr (.inr ⟨Fj,q,q2,?_⟩);rw[hx];rcases D7 x q with⟨e,e'⟩|⟨e,e'⟩|⟨e,e'⟩ <;> grind
theorem CmpOk.symm{b:Tm}{c:Int}(h:CmpOk a b c):CmpOk b a (-c):=by
 rcases h with⟨h1,h2⟩|⟨h1,h2⟩|⟨h1,h2⟩
 ·exact .inr (.inr ⟨Fj,h2⟩)
 ·exact .inr (.inl ⟨Fj,λq=>(h2 q).symm⟩)
 ·exact .inl ⟨Fj,h2⟩
theorem Q2s:Szz 9 1260:=⟨Fl,Fl⟩
theorem HC(g:U6)(lo hi:Rat):HB g lo hi=true↔lS (cz g) lo hi:=by
 unfold HB lS;rw[decide_eq_true_iff,M8,pX,Gh]
theorem sR{g:U6}(tg:Gk g)(hn:g.length≠0){lo hi:Rat}(h:lS (cz g) lo hi):1<g.length:=by
 rcases Zc 1 g.length with e|e
 ·exact e
 ·exfalso;obtain⟨c,rfl⟩:∃c,g=[c]:=Wd.1 Fj;have hc:c≠0:=by have:=Tt tg Fp;simpa using this
  have hv:∀t,ev (cz [c]) t=(c:Rat):=λt=>by rw[Gh];simp only[Gf];grind
  have hs:Gn (c:Rat)≠0:=λh=>YS hc (Hd.1 h)
  unfold lS at h;rw[hv,I7 (by rw[hv];exact hs),hv]at h;rcases h with h|h
  ·exact hs h
  ·exact h rfl
theorem IR{q:Rat}:Gs q<=((2^Gl q.num:Nat):Rat):=by
 have h1:Gl q.num<=Gl q.num:=Qm _;rw[Mm]at h1;have e:(q.num:Rat)=q*(q.den:Rat):=by
  have:(q.num:Rat) / (((q.den:Int)):Rat)=q:=by rw[Tu,Xj]
  have h2:(q.num:Rat) / (q.den:Rat)*(q.den:Rat)=q.num:=Zj (by have:=nat_pos q.den_pos;grind);rw[show(q.num:Rat) / (q.den:Rat)=q from this]at h2;exact h2.symm
 have hd:(1:Rat)<=(q.den:Rat):=by
  have:((1:Nat):Rat)<=(q.den:Rat):=Zm.2 q.den_pos;exact this
 have h2:Gs q<=Gs (q.num:Rat):=by
  rw[e,O7];have:Gs (q.den:Rat)=(q.den:Rat):=by unfold Gs;rw[if_neg Fq]
  rw[this];have:=Lf (a:=Gs q) (c:=1) (Tl q) Qr Fl hd;grind
 rw[Md]at h2;exact Zl h2 (Zm.2 (Y4 h1))
theorem NQ{w:Nat}(h:Gl a.lo.num+Gl a.hi.num<=w):a.hi-a.lo<=((2^(w+1):Nat):Rat):=by
 have h1:=IR (q:=a.lo);have h2:=IR (q:=a.hi);have h3:((2^Gl a.lo.num:Nat):Rat)<=((2^w:Nat):Rat):=Zm.2 (Zt Fl Fj);have h4:((2^Gl a.hi.num:Nat):Rat)<=((2^w:Nat):Rat):=Zm.2 (Zt Fl Fj);rw[mY];rw[Be]at h1 h2;grind
variable{p:U6}
theorem ZN{s:Nat}(h:Bd s p):Rq p<=s:=by
 have:=Bb h p.length;rwa[Q6]at this
theorem Qn1{b:Tm}(ha:Va a)(hb:Va b)(pa:a.point=false)(pb:b.point=false):Nn a b<=9000000:=by
 have q1:=ha.qsn pa;have q2:=hb.qsn pb;have l1:=ha.n;have l2:=hb.n;have s1:=ZN (ha.bi pa);have s2:=ZN (hb.bi pb);have b1:=q1.1.1;have b2:=q1.2.1;have b3:=q2.1.1;have b4:=q2.2.1;have:4*(a.p.length+b.p.length)*(Rq a.p+Rq b.p+(a.p.length+b.p.length)+8)<=4*18*2600:=Zg Fj Fj;unfold Nn;omega
theorem Qgz{b:Tm}(ha:Va a)(hb:Va b)(pa:a.point=false)(pb:b.point=false)(hne:¬TEq a b):∃r,qB (Nn a b) a b=some r/\Qv7 a b r:=by
 obtain⟨D,M,k,h1,h2,h3⟩:=ha.hv0;obtain⟨D',M',k',h1',h2',h3'⟩:=hb.hv0;rw[wT pa]at h3;rw[wT pb]at h3';have hst:=Qn1 ha hb pa pb;obtain⟨w,hw⟩:=nmE (Gl a.lo.num+Gl a.hi.num+Gl b.lo.num+Gl b.hi.num);obtain⟨K,hK⟩:=nmE (Rq a.p+Rq b.p+(a.p.length+b.p.length)+8);obtain⟨n,hn⟩:=nmE (a.p.length+b.p.length);have l1:=ha.n2;have l2:=hb.n2;have hsteps:Nn a b=64+2*w+4*n*K:=by unfold Nn;rw[hw,hK,hn]
 have hg:Pu a.p b.p=K*(2*(n-2)-1):=by unfold Pu;rw[hK,hn]
 have hgle:Pu a.p b.p+5*K<=2*n*K:=by
  rw[hg,Zr K,<-Jn];exact Q3 _ Fj
 have hKp:8<=K:=Fj;refine Q0s ha hb hne h2 h2' (31+w+2*n*K) (Nn a b) a b k k' ((2^(w+1):Nat):Rat) ?_ h1 h1' Fj Fj (NQ Fj) (NQ Fj) ?_
 ·rw[hsteps,X1,Jh 4,Jh 2 n];omega
 ·have e:2*(2^(w+1))*(2^(Pu a.p b.p+1))<=2^(31+w+2*n*K):=by
   rw[Zr 2,<-Zs,<-Xu];exact Zt Fl Fj
  have:=Zm.2 e
  push_cast at this ⊢
  exact this
theorem GA{b:Tm}(ha:Va a)(hb:Va b):∃c,GE a b=some c/\CmpOk a b c:=by
 unfold GE;by_cases pa:a.point=true
 ·rw[if_pos pa];exact⟨_,rfl,Qjn hb (aW ha pa)⟩
 rw[if_neg pa];by_cases pb:b.point=true
 ·rw[if_pos pb];have:=(Qjn ha (aW hb pb)).symm;rw[Int.neg_neg]at this;exact⟨_,rfl,this⟩
 rw[if_neg pb];have pa:a.point=false:=by simpa using pa
 have pb:b.point=false:=by simpa using pb
 obtain⟨L,V⟩:=ha.iv pa;obtain⟨L',V'⟩:=hb.iv pb;have eqa:∀q,Gx a q=cq (cz a.p) a.lo a.hi q:=D8 V.l;have eqb:∀q,Gx b q=cq (cz b.p) b.lo b.hi q:=D8 V'.l;obtain⟨lo,hlo⟩:=nmE (if 0<Rx b.lo a.lo then b.lo else a.lo);obtain⟨hi,hhi⟩:=nmE (if Rx b.hi a.hi<0 then b.hi else a.hi);show ∃c,(if Rx (if 0<Rx b.lo a.lo then b.lo else a.lo) (if Rx b.hi a.hi<0 then b.hi else a.hi)<0 then _ else _)=some c/\_;rw[<-hlo,<-hhi];have e1:(0<Rx b.lo a.lo)=(a.lo<b.lo):=propext Az;have e2:(Rx b.hi a.hi<0)=(b.hi<a.hi):=propext Cy;have e3:(Rx lo hi<0)=(lo<hi):=propext Cy;simp only[e1]at hlo;simp only[e2]at hhi;simp only[e3];obtain⟨g,g1,g2,g3,g4⟩:=Qkx Q2s ha.tr hb.tr ha.n hb.n (ha.bi pa) (hb.bi pb) (by have:=ha.n2;omega);obtain⟨U,W,hc⟩:=g2.c;obtain⟨u,hu⟩:=g2.da;obtain⟨u',hu'⟩:=g2.db;have key:=V.same V' (g:=cz g) (u:=u) (u':=u') (U:=U) (W:=W) (k:=1) Fl hu hu' (λt=>by rw[Gh,Gh,Gh,hc];grind) (a:=lo) (b:=hi) (by rw[hlo];split <;> grind) (by rw[hlo];split <;> grind) (by rw[hlo];split <;> simp) (by rw[hhi];split <;> grind) (by rw[hhi];split <;> grind) (by rw[hhi];split <;> simp);have hTE:(∀q,cq (cz a.p) a.lo a.hi q=cq (cz b.p) b.lo b.hi q)↔TEq a b:=by
  unfold TEq;constructor
  ·intro h q;rw[eqa,eqb];exact h q
  ·intro h q;rw[<-eqa,<-eqb];exact h q
 rw[hTE]at key;have fin:¬TEq a b->∃c,((qB (Nn a b) a b).bind λr=>some r.2.2)=some c/\CmpOk a b c:=λhne=>by
  obtain⟨r,r1,r2⟩:=Qgz ha hb pa pb hne;refine⟨r.2.2,by rw[r1];rfl,?_⟩;rcases r2 with h|h
  ·exact .inl h
  ·exact .inr (.inr h)
 by_cases hl:lo<hi
 ·rw[if_pos hl,g1];show ∃c,(if 1<g.length/\HB g lo hi=true then some 0 else(qB (Nn a b) a b).bind λr=>some r.2.2)=some c/\_;by_cases hh:HB g lo hi=true
  ·have hq:=(HC g lo hi).1 hh;rw[if_pos ⟨sR g2.t g2.n hq,hh⟩];exact⟨0,rfl,.inr (.inl ⟨rfl,key.1 ⟨hl,hq⟩⟩)⟩
  ·rw[if_neg λh=>hh h.2];exact fin λh=>hh ((HC g lo hi).2 (key.2 h).2)
 ·rw[if_neg hl];exact fin λh=>hl (key.2 h).1
def SgT(p:U6)(a:Tm)(s:Int):Prop:=s=0/\QT (cz p) (Gx a)\/s≠0/\NZ (cz p) (Gx a) s
variable{c:Rat->Int}
theorem Qzo(hc:Cut c)(h:c x=0):Rp p x=0/\QT (cz p) c\/Rp p x≠0/\NZ (cz p) c (Rp p x):=by
 rw[M8,<-Gh];rcases KQ hc (cz p)with h1|⟨s,hs,h1⟩
 ·exact .inl ⟨Hd.2 (MO hc h h1),h1⟩
 ·have:=pR hc h h1;rw[this];exact .inr ⟨hs,h1⟩
theorem XZ{l:U7}{lo hi:Rat}(h:lo<=hi):Pg l lo hi=(vv (l.map cz) lo:Int)-(vv (l.map cz) hi:Int):=by
 unfold Pg;rw[if_neg λh'=>by have:=Cy.1 h';grind,JW,JW]
theorem Qzp{q:U6}{L:Fa}(hp:Gk p)(np:p.length<=9)(lp:2<=p.length)(hS:SU (cz q) L)(hpq:JE (cz q) (cz p))(ha:Va a){s:Int}(hnz:NZ (cz p) (Gx a) s){D M k:Nat}{x:Tm}(hx:Hv a D M k x)(hl:x.lo<x.hi)(hv:vv L x.lo≠vv L x.hi):1<(x.hi-x.lo)*((2^(Pu a.p p+1):Nat):Rat):=by
 rcases Hl ((x.hi-x.lo)*((2^(Pu a.p p+1):Nat):Rat)) 1 with hw|hw
 ·exfalso;have ca:=ha.cut;obtain⟨d,dp,x1,y1,c1,c2,hn⟩:=hnz;obtain⟨x2,x12,c3⟩:=ca.up x1 c1;obtain⟨y2,y12,c4⟩:=ca.dn y1 c2;have hpow:(0:Rat)<=((2^(Pu a.p p+1):Nat):Rat):=Xz;obtain⟨z,zp,z1,z2⟩:=min2 (a:=x2-x1) (b:=y1-y2) (by clear hn;grind) (by clear hn;grind);obtain⟨R0,hR0,r1,r2⟩:=vG x.lo x.hi;obtain⟨u,hu⟩:=hpq;refine Qko (R:=R0+1) (d:=z) ha.tr hp ha.n np ha.n2 lp (by clear hn;grind) zp λe ep=>?_
  obtain⟨q0,q1,q2,q3,q4,q5⟩:∃q0,x.lo<=q0/\q0<=x.hi/\x2<=q0/\q0<=y2/\Gs (Gf a.p q0)<e:=by
   rcases hx.lo' with h1|⟨h1,h2⟩
   ·obtain⟨x',y',hx',hy',hq⟩:=ha.van e ep;obtain⟨m,m1,m2,m3,m4⟩:∃m,Gx a m=1/\x.lo<=m/\x2<=m/\x'<=m:=by
     rcases Hl x.lo x2 with e1|e1
     ·rcases Hl x2 x' with e2|e2
      ·exact⟨x',hx',by clear hn hq;grind,e2,Qr⟩
      ·exact⟨x2,c3,e1,Qr,Qt e2⟩
     ·rcases Hl x.lo x' with e2|e2
      ·exact⟨x',hx',e2,by clear hn hq;grind,Qr⟩
      ·exact⟨x.lo,h1,Qr,Qt e1,Qt e2⟩
    refine⟨m,m2,?_,m3,Qt (ca.lt m1 c4),by rw[<-Gh];exact hq m m4 (Qt (ca.lt m1 hy'))⟩;rcases hx.hi' with h3|h3
    ·rcases Hl m x.hi with e1|e1
     ·exact e1
     ·have:=ca.mono x.hi m e1 Fj;omega
    ·exact Qt (ca.lt m1 h3)
   ·exact absurd h2 (by clear hn;grind)
  obtain⟨b,hb⟩:=nmE (tO R0 u);have hb0:0<=b:=by rw[hb];exact YF hR0 u
  obtain⟨f,fp,_,hf⟩:=Rw (b:=b) (d:=if e<=d then e else d) hb0 (by split <;> assumption);obtain⟨r,r3,r4,r5⟩:=fH hS hl hv fp;have hrR:Gs r<=R0:=HL r1 r2 r3 r4;have hpr:Gs (Gf p r)<(if e<=d then e else d):=by
   rw[<-Gh,hu];have:=Rt (Qt r5) (NR hrR u);rw[<-hb]at this;exact Yb.1 λh=>absurd (Zl h this) (Yb.2 hf)
  have hpe:Gs (Gf p r)<e:=by split at hpr <;> (clear hn;grind)
  have hpd:Gs (Gf p r)<d:=by split at hpr <;> (clear hn;grind)
  have hrout:r<x1\/y1<r:=by
   rcases Hl x1 r with e1|e1
   ·rcases Hl r y1 with e2|e2
    ·have:=(hn r e1 e2).2;rw[Gh]at this;exact absurd this (Yb.2 hpd)
    ·exact .inr e2
   ·exact .inl e1
  have hqr:z<=Gs (q0-r):=by
   clear hn;rcases hrout with h|h
   ·have:Gs (q0-r)=q0-r:=by unfold Gs;split <;> grind
    rw[this];grind
   ·have:Gs (q0-r)=r-q0:=by unfold Gs;split <;> grind
    rw[this];grind
  have hq0R:Gs q0<=R0:=HL r1 r2 q1 q2;refine⟨q0,r,by clear hn;grind,by clear hn;grind,hqr,?_,q5,hpe⟩;have h1:Gs (q0-r)<=x.hi-x.lo:=by rw[Be];clear hn;constructor <;> grind
  exact Zl (Zh h1 hpow) hw
 ·exact hw
theorem Qnn{p q:U6}{l:U7}(hp:Gk p)(np:p.length<=9)(lp:2<=p.length)(hS:SU (cz q) (l.map cz))(hpq:JE (cz q) (cz p)){a:Tm}(ha:Va a){s:Int}(hnz:NZ (cz p) (Gx a) s){D M:Nat}(hM:0<M):∀(j i:Nat) (x:Tm) (k:Nat) (W:Rat),i+1<=j->Hv a D M k x->Gl (D:Int)+Gl (M:Int)+(k+j)<=16777216->x.hi-x.lo<=W->W*((2^(Pu a.p p+1):Nat):Rat)<=((2^i:Nat):Rat)->∃u k',sgF l j x=some u/\Hv a D M k' u/\(u.point=true\/Pg l u.lo u.hi=0)
 | 0,i,x,k,W,h,_,_,_,_=>Fj
 |
  j+1,i,x,k,W,hj,hx,hs,hW,hK=>by
  simp only[sgF];by_cases h:x.point=true\/Pg l x.lo x.hi=0
  ·rw[if_pos h];exact⟨x,k,rfl,hx,h⟩
  ·rw[if_neg h];obtain⟨v,v1,v2,v3,_⟩:=wW hx hM Fj;rw[v1];show ∃u k',sgF l j v=some u/\_;have hpt:¬x.hi<=x.lo:=λh'=>h (.inl (Ng.2 h'))
   have hl:x.lo<x.hi:=Fq;have hvv:vv (l.map cz) x.lo≠vv (l.map cz) x.hi:=λh'=>h (.inr (by rw[XZ (Qt hl)];omega))
   have hg:=Qzp hp np lp hS hpq ha hnz hx hl hvv;have hpow:(0:Rat)<=((2^(Pu a.p p+1):Nat):Rat):=Xz;have hd:∀x:Rat,x / 2*2=x:=λx=>Ru Fl
   cases i with
   |
    zero =>
    exfalso;rw[Vx]at hK;have:=Zh hW hpow;have h7:((1:Nat):Rat)=1:=rfl;rw[h7]at hK;grind
   |
    succ i =>
    refine Qnn hp np lp hS hpq ha hnz hM j i v (k+1) (W / 2) Fj v2 Fj ?_ ?_
    ·have:=hd (x.hi-x.lo);have:=hd W;grind
    ·rw[mY i]at hK;have:=hd W;have:W / 2*((2^(Pu a.p p+1):Nat):Rat)*2=W*((2^(Pu a.p p+1):Nat):Rat):=Fq;grind
theorem pD{x y:Rat}:∀{ws:Fa},(∀w∈ws,Gn (ev w x)=Gn (ev w y))->Gn (ev (ZF ws) x)=Gn (ev (ZF ws) y)
 | [],_=>by simp only[ZF];rw[S7,S7]
 |
  w::l,h=>by
  simp only[ZF];rw[Gp,Gp,Mc,Mc,h w (Qw ..),pD λv hv=>h v (Qh _ hv)]
theorem Qfw{q o:U6}(hpt:Parts p q o)(tp:Gk p)(hp:p.length≠0){L:Fa}(hS:SU (cz q) L){y:Rat}(hxy:x<y)(hv:vv L x=vv L y):∃s,s≠0/\∀z,x<z->z<=y->Gn (Gf p z)=s:=by
 obtain⟨ws,w1,w2⟩:=hpt.ws;obtain⟨_,_,_,_,_,p6,p7⟩:=Lj tp hp;have key:∀z,x<z->z≤y->∀w∈ws.map cz,Sm w x z:=λz h1 h2 w hw=>by
  obtain⟨v,hv',rfl⟩:=Q8.1 hw;obtain⟨u,hu⟩:=(w1 v hv').2;have a1:=Oj hS h1;have a2:vv L y<=vv L z:=by
   rcases Classical.em (z=y)with e|e
   ·rw[e];exact Qm _
   ·exact Oj hS Fq
  exact UK hS hu h1 Fj
 have hval:∀z,Gf p z=(Tf p:Rat)*ev (ZF (ws.map cz)) z:=λz=>by rw[p7,w2]
 refine⟨Gn (Gf p y),λh0=>?_,λz h1 h2=>?_⟩
 ·rw[hval,Mc]at h0;rcases Yy.1 h0 with h|h
  ·exact YS p6 (Hd.1 h)
  ·have:∀l:Fa,(∀w∈l,Gn (ev w y)≠0)->Gn (ev (ZF l) y)≠0:=by
    intro l
    induction l with
    |nil=>intro _;simp only[ZF];rw[S7];decide
    |
     cons w l ih =>
     intro h;simp only[ZF];rw[Gp,Mc];exact Jy (h w (Qw ..)) (ih λv hv=>h v (Qh _ hv))
   refine this _ (λw hw=>?_) h;have hs:=key y hxy Qr w hw;rw[hs.s];exact hs.n
 ·rw[hval,hval,Mc,Mc,pD (y:=y) λw hw=>(key z h1 h2 w hw).s.trans (key y hxy Qr w hw).s.symm]
theorem Qyg{g P:U6}(hc:Cut c)(hg:Gc g p P):QT (cz g) c↔QT (cz p) c/\QT (cz P) c:=by
 constructor
 ·intro h;obtain⟨u,hu⟩:=hg.da;obtain⟨v,hv⟩:=hg.db;exact⟨Ns hc hu h,Ns hc hv h⟩
 ·rintro⟨h1,h2⟩
  obtain⟨U,V,hcc⟩:=hg.c;have a1:QT (Rl U (cz p)) c:=Ns hc (p:=cz p) (q:=U) (λt=>by rw[Gp];grind) h1;have a2:QT (Rl V (cz P)) c:=Ns hc (p:=cz P) (q:=V) (λt=>by rw[Gp];grind) h2;exact LY (λt=>by rw[Gh,hcc,Gp,Gp,Gh,Gh]) a1 a2
theorem Qnu(hp:Okp 9 1180 p)(ha:Va a):∃s,UV p a=some s/\SgT p a s:=by
 unfold UV;rw[if_neg hp.nz];have ca:=ha.cut;by_cases pa:a.point=true
 ·rw[if_pos pa];exact⟨_,rfl,Qzo ca (x:=a.lo) (by rw[aW ha pa,Ig])⟩
 rw[if_neg pa];have pa:a.point=false:=by simpa using pa
 obtain⟨L,V⟩:=ha.iv pa;have eqa:∀q,Gx a q=cq (cz a.p) a.lo a.hi q:=D8 V.l;obtain⟨g,g1,g2,g3,g4⟩:=Qkx Q2s hp.t ha.tr hp.l ha.n (Fz hp.b Fj) (ha.bi pa) hp.nz;obtain⟨u',hu'⟩:=g2.db;have hhas:=V.has hu' (a:=a.lo) (b:=a.hi) Qr V.l Qr;have hvan:=Qyg ca g2;rw[show cq (cz a.p) a.lo a.hi=Gx a from(funext eqa).symm]at hhas;rw[g1];show ∃s,(if 1<g.length/\HB g a.lo a.hi=true then some 0 else _)=some s/\_;by_cases hh:HB g a.lo a.hi=true
 ·have hq:=(HC g _ _).1 hh;rw[if_pos ⟨sR g2.t g2.n hq,hh⟩];exact⟨0,rfl,.inl ⟨rfl,(hvan.1 (hhas.1 hq).1).1⟩⟩
 ·rw[if_neg λh=>hh h.2];have hnv:¬QT (cz p) (Gx a):=λh=>hh ((HC g _ _).2 (hhas.2 ⟨hvan.2 ⟨h,ha.van⟩,by rw[eqa];exact Iy Qr,by rw[eqa];exact V.hi1⟩))
  rcases KQ ca (cz p)with h|⟨s,qP,hnz⟩
  ·exact absurd h hnv
  obtain⟨q,o,q1,q2,hpt⟩:=Ql9 hp;obtain⟨q',l,r1,r2,hS,hl0⟩:=chain_ok hp;rw[q1]at r1;injection r1 with r1;subst r1;rw[r2];show ∃s,((sgF (q::l) (64+2*(Gl a.lo.num+Gl a.hi.num)+4*(a.p.length+p.length)*(Rq a.p+Rq p+(a.p.length+p.length)+8)) a).bind λx=>some (Rp p x.hi))=some s/\_;obtain⟨w,hw⟩:=nmE (Gl a.lo.num+Gl a.hi.num);obtain⟨K,hK⟩:=nmE (Rq a.p+Rq p+(a.p.length+p.length)+8);obtain⟨n,hn⟩:=nmE (a.p.length+p.length);rw[<-hw,<-hK,<-hn];obtain⟨gg,sq⟩:=hpt.sq;obtain⟨_,_,_,_,_,pf0,pfe⟩:=Lj hp.t hp.nz;have hpq:JE (cz q) (cz p):=⟨Ey (Tf p) (cz gg),λt=>by rw[Gh,Gh,Hx,Gh,pfe,sq.e];grind⟩;obtain⟨D,M,k,h1,h2,h3⟩:=ha.hv0;rw[wT pa]at h3;have b1:=(ha.qsn pa).1.1;have b2:=(ha.qsn pa).2.1;have l1:=ha.n;have l2:=hp.l;have l3:=ha.n2;have s1:=ZN (ha.bi pa);have s2:=ZN hp.b;have hst:4*n*K<=4*18*2466:=Zg Fj Fj;have hend:∃u k',sgF (q::l) (64+2*w+4*n*K) a=some u/\Hv a D M k' u/\(u.point=true\/Pg (q::l) u.lo u.hi=0):=by
   by_cases Dz:p.length<2
   ·have hq1:(Gq p)=[1]:=hp.pr.1.one (by have:=hp.pr.2.1;omega);have hql:q.length<2:=by
     have e:=sq.e;rw[hq1]at e;obtain⟨p1,p2⟩:=S8 (c:=[1]) rfl Fp e;have:=Bq sq.pg.t sq.pq.t (c:=[1]) rfl e p1 p2;simp at this;omega
    have hbt:Pg (q::l) a.lo a.hi=0:=by
     rw[XZ (Qt V.l),hl0 hql,sq.pq.one hql];have hv1:∀x:Rat,ev (cz [1]) x=1:=λx=>by rw[Gh,Cz]
     simp only[Xa,Jq,vv,tc,hv1];omega
    refine⟨a,k,?_,h1,.inr hbt⟩;obtain⟨m,hm⟩:∃m,64+2*w+4*n*K=m+1:=⟨63+2*w+4*n*K,Fj⟩;rw[hm];simp only[sgF];rw[if_pos (.inr hbt)]
   ·have hg:Pu a.p p=K*(2*(n-2)-1):=by unfold Pu;rw[hK,hn]
    have hgle:Pu a.p p+5*K<=2*n*K:=by
     rw[hg,Zr K,<-Jn];exact Q3 _ Fj
    have hKp:8<=K:=Fj;have hnK:2*n*K<=4*n*K:=Q3 _ Fj;obtain⟨u,k',u1,u2,u3⟩:=Qnn hp.t hp.l Fj hS hpq ha hnz h2 (64+2*w+4*n*K) (2+w+2*n*K) a k ((2^(w+1):Nat):Rat) Fj h1 Fj (NQ Fj) (by
     have e:(2^(w+1))*(2^(Pu a.p p+1))<=2^(2+w+2*n*K):=by
      rw[<-Xu];exact Zt Fl Fj
     have:=Zm.2 e
     push_cast at this ⊢
     exact this)
    exact⟨u,k',u1,u2,u3⟩
  obtain⟨u,k',u1,u2,u3⟩:=hend;rw[u1];refine⟨_,rfl,.inr ?_⟩;have hfin:Rp p u.hi=s:=by
   rcases u2.hi' with hz|hz
   ·have:=pR ca hz hnz;rw[M8,<-Gh];exact this
   ·rcases u2.i with⟨e,_⟩|⟨L',V'⟩
    ·have:=u2.c u.hi;rw[Ow e,e,Ig]at this;omega
    ·have hup:u.point=false:=by
      have:¬u.point=true:=λh=>by have:=Ng.1 h;have:=V'.l;grind
      simpa using this
     rcases u3 with h|h
     ·rw[hup]at h;cases h
     ·rw[XZ (Qt V'.l)]at h;obtain⟨s',hs',hps⟩:=Qfw hpt hp.t hp.nz hS V'.l Fj;obtain⟨d,dp,x,y,hx,hy,hq⟩:=hnz;have hlo1:Gx a u.lo=1:=by
       rcases u2.lo' with h|⟨_,h⟩
       ·exact h
       ·have:=V'.l;clear hps hq;grind
      obtain⟨m,m1,m2,m3⟩:=AQ ca hlo1 hx;have e1:=(hq m (Qt m3) (Qt (ca.lt m1 hy))).1;have e2:=hps m m2 (Qt (ca.lt m1 hz));have e3:=hps u.hi V'.l Qr;rw[M8,e3,<-e2,<-Gh,e1]
  rw[hfin];exact⟨qP,hnz⟩
structure Dp(p:List Int):Prop where
 t:Gk p
 l:p.length<=9
 b:Bd (1130+4*(9-p.length)) p
theorem Qcc:Szz 9 1253:=⟨Fl,Fl⟩
variable{p:U6}
theorem Dp.ok(h:Dp p)(h0:p.length≠0):Okp 9 1180 p:=⟨Qcc,h.t,h0,h.l,Fz h.b Fj⟩
theorem Dp.der(h:Dp p):Dp (H5 p):=by
 have hl:=Cf p;have hl2:=h.l;refine⟨Gw _ _,Fj,?_⟩;by_cases h0:p.length=0
 ·rw[Qi (l:=H5 p) Fj];exact UG
 ·exact Fz (cX h.b Fj) Fj
def Gm(a:Tm)(p:U6):Int:=(UV p a).getD 0
variable{a:Tm}
theorem Qnl(h:Dp p)(ha:Va a):UV p a=some (Gm a p)/\SgT p a (Gm a p):=by
 by_cases h0:p.length=0
 ·have e:p=[]:=Qi h0;subst e;refine⟨rfl,.inl ⟨rfl,λd dp=>?_⟩⟩;obtain⟨x,y,h1,h2,_⟩:=ha.cut.near (e:=1) Fl;exact⟨x,y,h1,h2,λq _ _=>by simp only[cz,Jq,ev,Ty];exact dp⟩
 ·obtain⟨s,h1,h2⟩:=Qnu (h.ok h0) ha;have e:Gm a p=s:=by unfold Gm;rw[h1];rfl
  rw[e];exact⟨h1,h2⟩
theorem Qzk{c:Rat->Int}{p q:U9}{s:Int}(h:∀t,ev p t=ev q t)(hp:RS p c s):RS q c s:=by
 obtain⟨y,h1,h2⟩:=hp;exact⟨y,h1,λz h3 h4=>by rw[<-h];exact h2 z h3 h4⟩
theorem jK{a:Tm}(ha:Va a):∀(k:Nat) (p:U6),Dp p->p.length<=k->p.length≠0->RS (cz p) (Gx a) (Ss (Gm a) k p)/\Ss (Gm a) k p≠0
 | 0,p,_,h1,h2=>Fj
 |
  k+1,p,h,h1,h2=>by
  simp only[Ss];rw[if_neg h2];obtain⟨_,hs⟩:=Qnl h ha;rcases hs with⟨e,hv⟩|⟨e,hn⟩
  ·rw[if_pos e];have hdn:(H5 p).length≠0:=λh0=>by
    by_cases h3:p.length=1
    ·obtain⟨c,rfl⟩:∃c,p=[c]:=Wd.1 h3;have hc:c≠0:=by have:=Tt h.t Fp;simpa using this
     obtain⟨q,hq,_⟩:=pH ha.cut (hv (Gs (c:Rat)) (Ll (YS hc)));rw[Gh]at hq;have:Gf [c] q=(c:Rat):=by simp only[Gf];grind
     rw[this]at hq;grind
    ·have h4:=Nf p (p.length-2);rw[Qi h0,show p.length-2+1=p.length-1 by omega]at h4;have h5:p.getD (p.length-1) 0≠0:=Tt h.t Fj;rcases Yy.1 (h4.symm.trans Fp)with h6|h6
     ·exact h5 h6
     ·omega
   have hl:=Cf p;obtain⟨i1,i2⟩:=jK ha k (H5 p) h.der Fj hdn;exact⟨uA ha.cut hv (Qzk (λt=>by rw[Gh,ZH,Pi]) i1) i2,i2⟩
  ·rw[if_neg e];exact⟨yP ha.cut hn,e⟩
theorem A3(ha:Va a)(h:Dp p)(h0:p.length≠0):RS (cz p) (Gx a) (G7 (Gm a) p)/\G7 (Gm a) p≠0:=jK ha _ p h (Qm _) h0
theorem YR:G7 (Gm a) []=0:=rfl
theorem Qsj{l:U6}:∀z∈l,z.natAbs≤most l:=by
 have key:∀(l:U6) (m:Nat),m≤l.foldl (λm z=>if m<z.natAbs then z.natAbs else m) m/\∀z∈l,z.natAbs≤l.foldl (λm z=>if m<z.natAbs then z.natAbs else m) m:=by
  intro l
  induction l with
  |nil=>exact λm=>⟨Qm _,λz hz=>by cases hz⟩
  |
   cons y l ih =>
   intro m;obtain⟨e,he⟩:=nmE (if m<y.natAbs then y.natAbs else m);have h1:m<=e/\y.natAbs<=e:=by rw[he];split <;> omega
   obtain⟨i1,i2⟩:=ih e;simp only[Xl];rw[<-he];refine⟨Fj,λz hz=>?_⟩;rcases Qk.1 hz with rfl|hz
   ·omega
   ·exact i2 z hz
 exact(key l 0).2
theorem LA(h:Gz p≠0):H9 p*((Gz p).natAbs:Rat)=((Gz p).natAbs:Rat)+((most (p.take (p.length-1)):Nat):Rat):=by
 unfold H9;rw[<-Tu];have hp:0<(Gz p).natAbs:=Fj;have:=nat_pos hp;rw[show((((Gz p).natAbs:Int)):Rat)=((Gz p).natAbs:Rat) from rfl,Ru this];rw[Ku];rfl
theorem Qbc{m:Nat}{x:Rat}(hx:1≤Gs x):∀(p:U6) (lp:p.length≠0),(∀z∈p.take (p.length-1),z.natAbs≤m)->Gz p≠0->(m:Rat)≤(Gs x-1)*((Gz p).natAbs:Rat)->((Gz p).natAbs:Rat)≤Gf p x*(((Int.sign (Gz p))*(if x<0/\p.length % 2=0 then -1 else 1):Int):Rat)
 | [],lp,_,_,_=>absurd rfl lp
 |
  [c],_,_,hc,_=>by
  have hl:Gz [c]=c:=rfl;rw[hl]at hc ⊢;rw[if_neg Fp,Ut];have h1:Gf [c] x=(c:Rat):=by simp only[Gf];grind
  rw[h1];have h2:c*Int.sign c=(c.natAbs:Int):=Int.mul_sign_self c;have:=congrArg (λz:Int=>(z:Rat)) h2;rw[Ji]at this;rw[this];exact Qr
 |
  c::d::p,_,hm,hc,hb=>by
  have hl:Gz (c::d::p)=Gz (d::p):=by unfold Gz;simp[List.getD_cons_succ]
  have ih:=Qbc hx (d::p) Fp (λz hz=>hm z (by
   have e:(c::d::p).take ((c::d::p).length-1)=c::(d::p).take ((d::p).length-1):=Fp;rw[e];exact Qh _ hz)) (by rw[<-hl];exact hc) (by rw[<-hl];exact hb)
  rw[hl]at hc hb ⊢;have hcm:=hm c Fp;obtain⟨s,hs⟩:∃s:Int,s=Int.sign (Gz (d::p)):=⟨_,rfl⟩;have hsv:s=1\/s=-1:=by
   rw[hs];rcases Kw hc with h|h
   ·exact .inr (Yp h)
   ·exact .inl (Vi h)
  rw[<-hs]at ih ⊢;obtain⟨ld,hld⟩:∃ld:Rat,ld=((Gz (d::p)).natAbs:Rat):=⟨_,rfl⟩;rw[<-hld]at ih hb ⊢;have hcq:Gs (c:Rat)<=(m:Rat):=by rw[Md];exact Zm.2 hcm
  rw[Be]at hcq;have e1:Gf (c::d::p) x=(c:Rat)+x*Gf (d::p) x:=rfl;rw[e1];have hlen:(c::d::p).length % 2=0↔¬(d::p).length % 2=0:=by simp only[Q5];omega
  generalize Gf (d::p) x=y at *;generalize (m:Rat)=mm at *;generalize (c:Rat)=cc at *;have hx0:=hx;by_cases hneg:x<0
  ·have hq:Gs x=-x:=by unfold Gs;rw[if_pos hneg]
   rw[hq]at hx0 hb;by_cases hpar:(d::p).length % 2=0
   ·rw[if_pos ⟨hneg,hpar⟩]at ih;rw[if_neg λh=>(hlen.1 h.2) hpar];rcases hsv with rfl|rfl
    ·have ih:ld<=y*(-1):=by simpa using ih
     have:=Xc ih (show 0<=-x by grind);have e:(((1:Int)*1:Int):Rat)=1:=rfl;rw[e];grind
    ·have ih:ld<=y*1:=by simpa using ih
     have:=Xc ih (show 0<=-x by grind);have e:(((-1:Int)*1:Int):Rat)=-1:=rfl;rw[e];grind
   ·rw[if_neg λh=>hpar h.2]at ih;rw[if_pos ⟨hneg,hlen.2 hpar⟩];rcases hsv with rfl|rfl
    ·have ih:ld<=y*1:=by simpa using ih
     have:=Xc ih (show 0<=-x by grind);have e:(((1:Int)*-1:Int):Rat)=-1:=rfl;rw[e];grind
    ·have ih:ld<=y*(-1):=by simpa using ih
     have:=Xc ih (show 0<=-x by grind);have e:(((-1:Int)*-1:Int):Rat)=1:=rfl;rw[e];grind
  ·have hq:Gs x=x:=by unfold Gs;rw[if_neg hneg]
   rw[hq]at hx0 hb;rw[if_neg λh=>hneg h.1]at ih ⊢;rcases hsv with rfl|rfl
   ·have ih:ld<=y*1:=by simpa using ih
    have:=Xc ih (show 0<=x by grind);have e:(((1:Int)*1:Int):Rat)=1:=rfl;rw[e];grind
   ·have ih:ld<=y*(-1):=by simpa using ih
    have:=Xc ih (show 0<=x by grind);have e:(((-1:Int)*1:Int):Rat)=-1:=rfl;rw[e];grind
theorem cK(tp:Gk p)(lp:p.length≠0){x:Rat}(hx:H9 p<=Gs x):1<=Gs (Gf p x)/\(0<=x->Rp p x=HG p)/\(x<0->Rp p x=JC p):=by
 have hl:=A4 tp lp;have hpos:0<(Gz p).natAbs:=Fj;have h1:(1:Rat)<=((Gz p).natAbs:Rat):=by
  have:((1:Nat):Rat)<=((Gz p).natAbs:Rat):=Zm.2 hpos;exact this
 have hm0:(0:Rat)<=((most (p.take (p.length-1)):Nat):Rat):=Xz;have hb:=LA hl;have hx1:=Zh hx (show(0:Rat)<=((Gz p).natAbs:Rat) by grind);have hx2:1<=Gs x:=by
  rcases Hl 1 (Gs x)with h|h
  ·exact h
  ·exfalso;have:=Kg h (show(0:Rat)<((Gz p).natAbs:Rat) by grind);grind
 have key:=Qbc (m:=most (p.take (p.length-1))) hx2 p lp (λz hz=>Qsj z hz) hl Fq;obtain⟨s,hs⟩:∃s:Int,s=Int.sign (Gz p)*(if x<0/\p.length % 2=0 then -1 else 1):=⟨_,rfl⟩;rw[<-hs]at key;have hsv:s=1\/s=-1:=by
  rw[hs];rcases Kw hl with h|h
  ·rw[Yp h];split <;> simp
  ·rw[Vi h];split <;> simp
 have hsg:Rp p x=s/\1<=Gs (Gf p x):=by
  rw[M8];rcases hsv with e|e
  ·rw[e]at key ⊢;have key:((Gz p).natAbs:Rat)<=Gf p x:=by simpa using key
   exact⟨Tj.2 Fq,by unfold Gs;rw[if_neg Fq];grind⟩
  ·rw[e]at key ⊢;have key:((Gz p).natAbs:Rat)<=Gf p x*(-1):=by simpa using key
   exact⟨Mr.2 Fq,by unfold Gs;rw[if_pos Fq];grind⟩
 refine⟨hsg.2,λh=>?_,λh=>?_⟩
 ·rw[hsg.1,hs,if_neg λh'=>by have:=h'.1;grind];unfold HG;omega
 ·rw[hsg.1,hs];unfold JC;by_cases he:p.length % 2=0
  ·rw[if_pos ⟨h,he⟩,if_pos he];omega
  ·rw[if_neg λh'=>he h'.2,if_neg he];omega
theorem VI{f g:U6->Int}:∀{l:U7} (s:Nat×Int),(∀p∈l,f p=g p)->l.foldl (Na f) s=l.foldl (Na g) s
 | [],s,_=>rfl
 |
  p::l,s,h=>by
  simp only[Xl];have e:Na f s p=Na g s p:=by unfold Na;rw[h p (List.mem_cons_self ..)]
  rw[e];exact VI _ λq hq=>h q (Qh _ hq)
theorem Qa7:∀(l:U7),(∀p∈l,Gk p/\p.length≠0)->∃X:Rat,0<X/\∀x,X≤x->(∀p∈l,Rp p x=HG p)/\∀p∈l,Rp p (-x)=JC p
 | [],_=>⟨1,Fl,λx _=>⟨(λp hp=>by cases hp),(λp hp=>by cases hp)⟩⟩
 |
  p::l,h=>by
  obtain⟨X,hX,hl⟩:=Qa7 l λq hq=>h q (Qh _ hq)
  obtain⟨tp,lp⟩:=h p (Qw ..);refine⟨X+Gs (H9 p),by have:=Tl (H9 p);grind,λx hx=>?_⟩;have hb0:=Tl (H9 p);have hb1:H9 p<=Gs (H9 p):=by unfold Gs;split <;> grind
  obtain⟨l1,l2⟩:=hl x Fq;have e1:Gs x=x:=by unfold Gs;rw[if_neg Fq]
  have e2:Gs (-x)=x:=by rw[A9,e1]
  refine⟨λq hq=>?_,λq hq=>?_⟩
  ·rcases Qk.1 hq with rfl|hq
   ·exact(cK tp lp (x:=x) (by rw[e1];grind)).2.1 Fq
   ·exact l1 q hq
  ·rcases Qk.1 hq with rfl|hq
   ·exact(cK tp lp (x:=-x) (by rw[e2];grind)).2.2 Fq
   ·exact l2 q hq
variable{q:U6}{L:Fa}
theorem iN(hS:SU (cz q) L)(tq:Gk q)(lq:q.length≠0){x y:Rat}(hxy:x<y)(h:H9 q<=x\/y<=-H9 q)(hb:0<H9 q):vv L x=vv L y:=by
 rcases Classical.em (vv L x=vv L y)with e|e
 ·exact e
 ·exfalso;obtain⟨r,r1,r2,r3⟩:=fH hS hxy e (d:=1) Fl;have:=(cK tq lq (x:=r) (by rcases h with h|h <;> (unfold Gs;split <;> grind))).1;rw[Gh]at r3;grind
theorem SN(h:Gz p≠0):1<=H9 p:=by
 have hb:=LA h;have hp:=nat_pos (show 0<(Gz p).natAbs by omega);have hm0:(0:Rat)<=((most (p.take (p.length-1)):Nat):Rat):=Xz;rcases Hl 1 (H9 p)with h'|h'
 ·exact h'
 ·have:=Kg h' hp;grind
theorem Qf4{l:U7}(hS:SU (cz q) ((q::l).map cz))(hl:∀p∈q::l,Gk p/\p.length≠0):FN (q::l)=(vv ((q::l).map cz) (-H9 q):Int)-(vv ((q::l).map cz) (H9 q):Int):=by
 obtain⟨tq,lq⟩:=hl q (Qw ..);have hb:=SN (A4 tq lq);obtain⟨X,hX,hx⟩:=Qa7 (q::l) hl;obtain⟨h1,h2⟩:=hx (X+H9 q) Fq;have e1:Lp HG (q::l)=vv ((q::l).map cz) (X+H9 q):=by
  rw[<-JW];unfold Lq Lp;rw[VI (f:=HG) (g:=λp=>Rp p (X+H9 q)) (0,0) λp hp=>(h1 p hp).symm]
 have e2:Lp JC (q::l)=vv ((q::l).map cz) (-(X+H9 q)):=by
  rw[<-JW];unfold Lq Lp;rw[VI (f:=JC) (g:=λp=>Rp p (-(X+H9 q))) (0,0) λp hp=>(h2 p hp).symm]
 unfold FN;rw[e1,e2,iN hS tq lq (x:=-(X+H9 q)) (y:=-H9 q) Fq (.inr Qr) Fq,<-iN hS tq lq (x:=H9 q) (y:=X+H9 q) Fq (.inl Qr) Fq]
theorem Qyw{f:U9}(hS:SU f L){x y:Rat}(hxy:x<y)(hv:vv L y+2<=vv L x):∃m,x<m/\m<y/\vv L m<vv L x/\vv L y<vv L m/\ev f m≠0:=by
 obtain⟨R,hR,hx,hy⟩:=vG x y;obtain⟨e,ep,he⟩:=Qoi hS R hR;have key:∀n:Nat,∀x,Gs x<=R->x<y->vv L y+2<=vv L x->y-x<=(n:Rat)*e->∃m,x<m/\m<y/\vv L m<vv L x/\vv L y<vv L m:=by
  intro n
  induction n with
  |zero=>intro x _ hxy _ hn;rw[show((0:Nat):Rat)=0 from rfl]at hn;exfalso;clear he;grind
  |
   succ n ih =>
   intro x hx hxy hv hn;have hn':(((n+1:Nat):Rat))=(n:Rat)+1:=by push_cast;rfl
   rw[hn']at hn;rcases Hl (y-x) e with h1|h1
   ·have:=he x y hx hy hxy h1;omega
   ·have hm:Gs (x+e)<=R:=HL hx hy (by clear he ih;grind) (by clear he ih;grind);have h2:=he x (x+e) hx hm (by clear he ih;grind) (by clear he ih;grind);have h3:=Oj hS (show x<x+e by clear he ih;grind);by_cases h4:vv L x=vv L (x+e)
    ·obtain⟨m,m1,m2,m3,m4⟩:=ih (x+e) hm (by clear he ih;grind) Fj (by clear he ih;grind);exact⟨m,by clear he ih;grind,m2,Fj,m4⟩
    ·exact⟨x+e,by clear he ih;grind,by clear he ih;grind,Fj,Fj⟩
 obtain⟨n,hn⟩:=JA (z:=y-x) ep;obtain⟨m,m1,m2,m3,m4⟩:=key n x hx hxy hv hn;rcases Classical.em (ev f m=0)with h0|h0
 ·-- a little farther on
  obtain⟨e2,e2p,hl⟩:=loc hR hS (w:=f) (u:=[1]) (λt=>by rw[S7];grind);obtain⟨d,dp,d1,d2⟩:=min2 (a:=e2) (b:=(y-m) / 2) e2p (Iz (by clear he key hl;grind) Fl);have h2:(y-m) / 2*2=y-m:=Ru Fl;have hmR:Gs m<=R:=HL hx hy (Qt m1) (Qt m2);have hmR2:Gs (m+d)<=R:=HL hx hy (by clear he key hl;grind) (by clear he key hl;grind);rcases hl m (m+d) hmR hmR2 (by clear he key hl;grind) (by clear he key hl;grind)with⟨p1,p2,_⟩|⟨_,p1,_,p3,_⟩
  ·refine⟨m+d,by clear he key hl;grind,by clear he key hl;grind,Fj,Fj,λh'=>?_⟩;have:=p2.s;rw[Hd.2 h']at this;exact p2.n this.symm
  ·rw[Hd.2 h0]at p3;exact absurd p3.symm p1
 ·exact⟨m,m1,m2,m3,m4,h0⟩
theorem Quc(hS:SU (cz q) L)(tq:Gk q)(nq:q.length<=9)(lq:2<=q.length){lo hi:Rat}(hl:lo<hi)(hv:vv L hi+2<=vv L lo):1<(hi-lo)*((2^(Pu q q+1):Nat):Rat):=by
 rcases Hl ((hi-lo)*((2^(Pu q q+1):Nat):Rat)) 1 with hw|hw
 ·exfalso;have hpow:(0:Rat)<=((2^(Pu q q+1):Nat):Rat):=Xz;obtain⟨m,m1,m2,m3,m4,m0⟩:=Qyw hS hl hv;obtain⟨R,hR,r1,r2⟩:=vG lo hi;have hd:=Ll m0;obtain⟨d,dp,_,db⟩:=Rw (b:=qL R (cz q)) (d:=Gs (ev (cz q) m) / 2) (B5 hR _) (Iz hd Fl);have hd2:Gs (ev (cz q) m) / 2*2=Gs (ev (cz q) m):=Ru Fl;have hmR:Gs m<=R:=HL r1 r2 (Qt m1) (Qt m2);have hnear:∀r,Gs r<=R->Gs (ev (cz q) r)<Gs (ev (cz q) m) / 2->d<Gs (r-m):=λr hr hs=>by
   rcases Hl (Gs (r-m)) d with h|h
   ·exfalso;have h1:=Nx (p:=cz q) hmR hr hR h db;have h2:=P9 (ev (cz q) m-ev (cz q) r) (ev (cz q) r);rw[show ev (cz q) m-ev (cz q) r+ev (cz q) r=ev (cz q) m by grind,Qcs]at h2;grind
   ·exact h
  refine Qko (R:=R+1) (d:=d+d) tq tq nq nq lq lq Fq Fq λe ep=>?_
  obtain⟨e',ep',e1,e2⟩:=min2 (a:=e) (b:=Gs (ev (cz q) m) / 2) ep (Iz hd Fl);obtain⟨x,x1,x2,x3⟩:=fH hS m1 Fj ep';obtain⟨y,y1,y2,y3⟩:=fH hS m2 Fj ep';have hxR:Gs x<=R:=HL r1 r2 x1 Fq;have hyR:Gs y<=R:=HL r1 r2 Fq y2;have nx:=hnear x hxR Fq;have ny:=hnear y hyR Fq;have ex:Gs (x-m)=m-x:=by unfold Gs;split <;> grind
  have ey:Gs (y-m)=y-m:=by unfold Gs;split <;> grind
  rw[ex]at nx;rw[ey]at ny;have exy:Gs (x-y)=y-x:=by unfold Gs;split <;> grind
  refine⟨x,y,Fq,Fq,by rw[exy];grind,?_,by rw[<-Gh];grind,by rw[<-Gh];grind⟩;rw[exy];exact Zl (Zh (show y-x<=hi-lo by grind) hpow) hw
 ·exact hw
theorem Qjg:∀{k:Nat} {a b:U6} {l:U7},bF k a b=some l->∀p∈l,p.length≠0
 | 0,_,_,_,h=>by cases h
 |
  k+1,a,b,l,h=>by
  simp only[bF]at h
  split at h
  ·injection h with h;subst h;exact λp hp=>by cases hp
  ·rename_i h0;obtain⟨r,_,h⟩:=Qe.1 h;obtain⟨l',h1,h⟩:=Qe.1 h;injection h with h;subst h;intro p hp;rcases Qk.1 hp with rfl|hp
   ·exact h0
   ·exact Qjg h1 p hp
variable{s:Nat}{p:U6}
theorem Okp.pb{n:Nat}(h:Okp n s p)(hs:s<=16777216):Pb p:=⟨h.t,by have:=h.l;have:=h.z.1;omega,Fz h.b hs⟩
variable{q:U6}
theorem Qel{l:U7}(hp:Pb p)(h:Lu p=some (q::l))(hq:q.length≠0):∀r∈q::l,Gk r/\r.length≠0:=by
 have h1:=(Orr.chain_ok hp h).2;unfold Lu at h;obtain⟨a,_,h⟩:=Qe.1 h
 split at h
 ·cases h
 ·obtain⟨d,_,h⟩:=Qe.1 h;obtain⟨l',h3,h⟩:=Qe.1 h;injection h with h;injection h with e1 e2;subst e1;subst e2;intro r hr;refine⟨(h1 r hr).t,?_⟩;rcases Qk.1 hr with rfl|hr
  ·exact hq
  ·exact Qjg h3 r hr
inductive RI (q:List Int) (L:List (List Rat)):Rat->List Tm->Rat->Prop
 |nil {lo hi:Rat} (h:lo<=hi) (hv:vv L lo=vv L hi):RI q L lo [] hi
 |cons {lo hi:Rat} {t:Tm} {l:List Tm} (h:lo<=t.lo) (hv:vv L lo=vv L t.lo) (ht:Vt (cz q) L t.lo t.hi) (hp:t.p=q) (hl:RI q L t.hi l hi):RI q L lo (t::l) hi
theorem RI.app{L:Fa}{lo m hi:Rat}{l l':List Tm}(h:RI q L lo l m)(h':RI q L m l' hi):RI q L lo (l++l') hi:=by
 induction h with
 |
  nil h hv =>
  cases h' with
  |nil h2 hv2=>exact .nil Fq Fj
  |cons h2 hv2 ht hp hl=>exact .cons Fq Fj ht hp hl
 |cons h hv ht hp _ ih=>exact .cons h hv ht hp (ih h')
theorem Qjj{D M k:Nat}{m:Rat}(h:Gr D M k m)(hM:0<M)(hs:Gl (D:Int)+Gl (M:Int)+k<=16777216):chq m=some m:=by
 have:=jW h hM hs;unfold chq;rw[if_pos ⟨this.1,this.2⟩]
theorem DN{c:U7}(hS:SU (cz q) (c.map cz))(tq:Gk q)(nq:q.length<=9)(hc1:q.length<2->c=[q]){D M F:Nat}(hM:0<M):∀(k j:Nat) (lo hi:Rat),lo<hi->Gr D M j lo->Gr D M j hi->Gl (D:Int)+Gl (M:Int)+(j+k)<=16777216->(hi-lo)*((2^(Pu q q+1):Nat):Rat)<=((2^k:Nat):Rat) ->
 ∃l,O8 q c (F+k+1) lo hi ((vv (c.map cz) lo:Int)-(vv (c.map cz) hi:Int))=some l/\RI q (c.map cz) lo l hi/\∀t∈l,∃k',k'≤j+k/\Gr D M k' t.lo/\Gr D M k' t.hi:=by
 intro k
 induction k with
 |
  zero =>
  intro j lo hi hl g1 g2 hs hK;have hle:=Oj hS hl;have h2:vv (c.map cz) lo<vv (c.map cz) hi+2:=by
   rcases Zc (vv (c.map cz) lo) (vv (c.map cz) hi+2)with h|h
   ·exact h
   ·exfalso;have lq:2<=q.length:=by
     rcases Zc q.length 2 with e|e
     ·have hvv:∀x,vv (c.map cz) x=vv (c.map cz) 0:=λx=>by
       rcases hS with⟨c0,hc0,hcc,hl'⟩|⟨g',l',k',hk,hg,hsc,hl'⟩
       ·rw[hl'];simp only[vv,tc,hcc]
       ·rw[hc1 e]at hl';cases hl'
      rw[hvv lo,hvv hi]at h;omega
     ·exact e
    have:=Quc hS tq nq lq hl h;rw[Vx]at hK;have h7:((1:Nat):Rat)=1:=rfl;rw[h7]at hK;grind
  simp only[O8];by_cases e0:vv (c.map cz) lo=vv (c.map cz) hi
  ·rw[if_pos Fj];exact⟨[],rfl,.nil (Qt hl) e0,λt ht=>by cases ht⟩
  ·rw[if_neg Fj,if_pos Fj];refine⟨[⟨q,lo,hi⟩],rfl,.cons Qr rfl ⟨hS,hl,by show vv _ lo=vv _ hi+1;omega⟩ rfl (.nil Qr rfl),λt ht=>?_⟩;rw[Ql.1 ht];exact⟨j,Fj,g1,g2⟩
 |
  succ k ih =>
  intro j lo hi hl g1 g2 hs hK;have hle:=Oj hS hl;show ∃l,(if (vv (c.map cz) lo:Int)-(vv (c.map cz) hi:Int)=0 then some []else if (vv (c.map cz) lo:Int)-(vv (c.map cz) hi:Int)=1 then some [⟨q,lo,hi⟩]else(chq (mid lo hi)).bind λm=>(O8 q c (F+k+1) lo m (Pg c lo m)).bind λl=>(O8 q c (F+k+1) m hi ((vv (c.map cz) lo:Int)-(vv (c.map cz) hi:Int)-Pg c lo m)).bind λr=>some (l++r))=some l/\_;by_cases e0:vv (c.map cz) lo=vv (c.map cz) hi
  ·rw[if_pos Fj];exact⟨[],rfl,.nil (Qt hl) e0,λt ht=>by cases ht⟩
  by_cases e1:vv (c.map cz) lo=vv (c.map cz) hi+1
  ·rw[if_neg Fj,if_pos Fj];refine⟨[⟨q,lo,hi⟩],rfl,.cons Qr rfl ⟨hS,hl,e1⟩ rfl (.nil Qr rfl),λt ht=>?_⟩;rw[Ql.1 ht];exact⟨j,Fj,g1,g2⟩
  ·rw[if_neg Fj,if_neg Fj];obtain⟨m,hm⟩:=nmE ((lo+hi) / 2);have h2:(lo+hi) / 2*2=lo+hi:=Ru Fl;rw[<-hm]at h2;have gm:Gr D M (j+1) m:=by rw[hm];exact Qk3 g1 g2
   have l1:lo<m:=Fq;have l2:m<hi:=Fq;rw[eK,<-hm,Qjj gm hM Fj];show ∃l,((O8 q c (F+k+1) lo m (Pg c lo m)).bind λl=>(O8 q c (F+k+1) m hi ((vv (c.map cz) lo:Int)-(vv (c.map cz) hi:Int)-Pg c lo m)).bind λr=>some (l++r))=some l/\_;rw[XZ (Qt l1),show(vv (c.map cz) lo:Int)-(vv (c.map cz) hi:Int)-((vv (c.map cz) lo:Int)-(vv (c.map cz) m:Int))=(vv (c.map cz) m:Int)-(vv (c.map cz) hi:Int) by omega];rw[mY k]at hK;have hp:∀x y:Rat,(y-x)*2=hi-lo->(y-x)*((2^(Pu q q+1):Nat):Rat)<=((2^k:Nat):Rat):=λx y h=>by
    have:(y-x)*((2^(Pu q q+1):Nat):Rat)*2=(hi-lo)*((2^(Pu q q+1):Nat):Rat):=by rw[<-h];grind
    grind
   obtain⟨la,a1,a2,a3⟩:=ih (j+1) lo m l1 (jU g1) gm Fj (hp lo m Fq);obtain⟨lb,b1,b2,b3⟩:=ih (j+1) m hi l2 gm (jU g2) Fj (hp m hi Fq);rw[a1];show ∃l,((O8 q c (F+k+1) m hi ((vv (c.map cz) m:Int)-(vv (c.map cz) hi:Int))).bind λr=>some (la++r))=some l/\_;rw[b1];refine⟨la++lb,rfl,a2.app b2,λt ht=>?_⟩;rcases Qp.1 ht with ht|ht
   ·obtain⟨k',h1,h2,h3⟩:=a3 t ht;exact⟨k',Fj,h2,h3⟩
   ·obtain⟨k',h1,h2,h3⟩:=b3 t ht;exact⟨k',Fj,h2,h3⟩
theorem Qyk{D M k:Nat}{q:Rat}(h:Gr D M k q):Gr D M k (-q):=by
 obtain⟨u,hu⟩:=h.u;exact⟨⟨-u,by rw[V6,<-hu];grind⟩,by rw[A9];exact h.b,h.d⟩
theorem sB{m:Nat}(h:m<2^s):Gl ((m+1:Nat):Int)<=s+1:=by
 rw[Mm,Xw,Zs];omega
theorem Qfd{z:Int}(h:Gl z<=s):Gl ((z.natAbs+1:Nat):Int)<=s+1:=sB (Mm.1 h)
theorem Qt1{x:Rat}{m g N:Nat}(hx:x<=2*((m+1:Nat):Rat))(hm:m+1<=2^s)(hN:s+1+g<=N):x*((2^g:Nat):Rat)<=((2^N:Nat):Rat):=by
 have h3:=Zm.2 hm;have e:=mY s;have h4:(0:Rat)<=((2^s:Nat):Rat):=Xz;have h1:x<=((2^(s+1):Nat):Rat):=by rw[e];grind
 have h5:(0:Rat)<=((2^g:Nat):Rat):=Xz;refine Zl (Zh h1 h5) ?_;have h6:2^(s+1)*2^g<=2^N:=by
  rw[<-Xu];exact Zt Fl hN
 have:=Zm.2 h6;rw[Rat.natCast_mul]at this;exact this
theorem Qpt{l:U6}(h:Bd s l):most l<2^s:=by
 have key:∀(l:U6) (m:Nat),m<2^s->Bd s l->l.foldl (λm z=>if m<z.natAbs then z.natAbs else m) m<2^s:=by
  intro l
  induction l with
  |nil=>exact λm h _=>h
  |
   cons y l ih =>
   intro m hm hb;simp only[Xl];refine ih _ ?_ λz hz=>hb z (Qh _ hz)
   have:=hb y (Qw ..);rw[Mm]at this
   split <;> assumption
 exact key l 0 (Xd Fl) h
theorem Qxl(h:zO p=some q):q=p:=by
 unfold zO at h
 split at h
 ·injection h with h;exact h.symm
 ·cases h
theorem Qf5{N:Nat}(hNe:N=63*s+5160)(hs9:s≤1180)(h:Okp 9 s p):∃q c l,M4 p=some q/\Lu p=some c/\BK p=some l/\SU (cz q) (c.map cz)/\RI q (c.map cz) (-H9 q) l (H9 q)/\(∀t∈l,Va t)/\(∀x y,x<y->H9 q≤x\/y≤-H9 q->vv (c.map cz) x=vv (c.map cz) y)/\q.length≤p.length/\∀t∈l,t.p=q/\t.lo<t.hi/\Bd (s+69) q/\∃D M k,Gr D M k t.lo/\Gr D M k t.hi/\0<M/\Gl (D:Int)≤s+69/\Gl (M:Int)≤s+70/\k≤N:=by
 obtain⟨pp,Dz,hpb⟩:=h.pr;obtain⟨g,q',hq',sq⟩:=WG h;obtain⟨q,l,q1,q2,hS,hl0⟩:=chain_ok h;rw[hq']at q1;injection q1 with q1;subst q1;have e1:∀t,Gf (Gq p) t=Gf q' t*Gf g t:=λt=>by rw[sq.e];grind
 obtain⟨p1,p2⟩:=S8 pp.t pp.n e1;have hch:bF 66 q' (Gq (H5 q'))=some l:=by
  have h2:=q2;unfold Lu at h2;rw[hq']at h2;simp only[Jt]at h2
  split at h2
  ·cases h2
  ·cases hd:zO (H5 q')with
   |none=>rw[hd]at h2;cases h2
   |
    some d =>
    rw[hd]at h2;simp only[Jt]at h2;obtain rfl:d=H5 q':=Qxl hd;cases hc:bF 66 q' (Gq (H5 q'))with
    |none=>rw[hc]at h2;cases h2
    |some l'=>rw[hc]at h2;simp at h2;rw[h2]
 have hll:=Bq sq.pq.t sq.pg.t pp.t e1 p1 p2;have hl9:=h.l;have bq:Bd (s+69) q':=YG hpb Fj pp.t sq.pq.t sq.pg.t pp.n e1;have hall:=Qel (h.pb Fj) q2 sq.pq.n;have hld:Gz q'≠0:=by have:=sq.pq.l;omega
 have hb1:=SN hld;obtain⟨D,hD⟩:=nmE ((Gz q').natAbs);obtain⟨m,hm⟩:=nmE (most (q'.take (q'.length-1)));have hm2:m<2^(s+69):=by rw[hm];exact Qpt (s:=s+69) λz hz=>bq z (Qn hz)
 have hD0:0<D:=Fj;have hDs:Gl (D:Int)<=s+69:=by
  have:=Cd bq;rw[Mm]at this ⊢;rw[Xw,hD];exact this
 have hbe:=LA hld;rw[<-hD,<-hm]at hbe;have hDq:=nat_pos hD0;have hbm:H9 q'<=((m+1:Nat):Rat):=by
  have hD1:(1:Rat)<=(D:Rat):=by
   have:((1:Nat):Rat)<=(D:Rat):=Zm.2 hD0;exact this
  have hm0:(0:Rat)<=(m:Rat):=Xz;have h3:=Lf (a:=(m:Rat)) (c:=1) hm0 Qr Fl hD1;rcases Hl (H9 q') ((m+1:Nat):Rat)with h'|h'
  ·exact h'
  ·exfalso;have:=Kg h' hDq
   push_cast at this;grind
 have gb:Gr D (m+1) 0 (H9 q'):=by
  refine⟨⟨(D+m:Nat),?_⟩,?_,hD0⟩
  ·rw[Vx,Vk,hbe];rw[show((((D+m:Nat):Int)):Rat)=((D+m:Nat):Rat) from rfl];push_cast;rfl
  ·have:Gs (H9 q')=H9 q':=by unfold Gs;rw[if_neg Fq]
   rw[this];exact hbm
 have hMs:Gl ((m+1:Nat):Int)<=s+69+1:=sB (s:=s+69) hm2;have hK:(H9 q' - -H9 q')*((2^(Pu q' q'+1):Nat):Rat)<=((2^N:Nat):Rat):=by
  have hps:=ZN bq;have hg:Pu q' q'<=(2*s+164)*31:=by
   unfold Pu;exact Zg Fj Fj
  exact Qt1 (s:=s+69) (g:=Pu q' q'+1) (N:=N) Fq hm2 Fj
 have hN:Gl (D:Int)+Gl ((m+1:Nat):Int)+(0+N)≤16777216:=Fj;obtain⟨F,hFe⟩:=nmE (99999-N);obtain⟨ls,r1,r2,r3⟩:=DN (F:=F) hS sq.pq.t Fj (λh=>by rw[hl0 h]) (Um m) N 0 (-H9 q') (H9 q') Fq (Qyk gb) gb hN hK;rw[show F+N+1=100000 by omega]at r1;have hchq:chq (H9 q')=some (H9 q'):=Qjj gb (Um m) Fj;have key:∀t∈ls,Va t/\t.p=q'/\t.lo<t.hi/\Bd (s+69) q'/\∃D M k,Gr D M k t.lo/\Gr D M k t.hi/\0<M/\Gl (D:Int)≤s+69/\Gl (M:Int)≤s+70/\k≤N:=λt ht=>by
  obtain⟨k',k1,k2,k3⟩:=r3 t ht;have hmem:∀{lo hi:Rat} {ls:List Tm},RI q' ((q'::l).map cz) lo ls hi->t∈ls->Vt (cz q') ((q'::l).map cz) t.lo t.hi/\t.p=q':=λh=>by
   induction h with
   |nil=>intro ht;cases ht
   |
    cons h hv ht' hp hl ih =>
    intro ht;rcases Qk.1 ht with rfl|ht
    ·exact⟨ht',hp⟩
    ·exact ih ht
  obtain⟨v1,v2⟩:=hmem r2 ht;have lq2:2<=q'.length:=by
   rcases Zc q'.length 2 with e|e
   ·exfalso;have hvv:∀x,vv ((q'::l).map cz) x=0:=λx=>by
     rw[hl0 e,sq.pq.one e];have hv1:∀x:Rat,ev (cz [1]) x=1:=λx=>by rw[Gh,Cz]
     simp only[Xa,Jq,vv,tc,hv1];have:Gn 1=1:=Fl;rw[this];decide
    have:=v1.v;rw[hvv,hvv]at this;omega
   ·exact e
  exact⟨⟨.inr ⟨_,by rw[v2];exact v1⟩,by rw[v2];exact sq.pq.t,by rw[v2];omega,by rw[v2];exact lq2,by rw[v2];exact Fz bq Fj,λ_=>by rw[v2];exact Fz bq Fj,λ_=>by rw[v2];exact⟨l,_,g,hch,sq,v1⟩,D,m+1,k',k2,k3,Um m,Qc (show _<=1000000 by omega) (Qyo t)⟩,v2,v1.l,bq,D,m+1,k',k2,k3,Um m,hDs,Qc hMs (Qm (s+70)),by rw[Z9]at k1;exact k1⟩
 refine⟨q',q'::l,ls,hq',q2,?_,hS,r2,λt ht=>(key t ht).1,λx y hxy hb=>iN hS sq.pq.t sq.pq.n hxy hb Fq,Fj,λt ht=>(key t ht).2⟩
 ·unfold BK;rw[q2,hq'];show(chq (H9 q')).bind _=_;rw[hchq];simp only[Jt];rw[Qf4 hS hall];exact r1
theorem Qnd(hs9:s≤1180)(h:Okp 9 s p):∃q c l,M4 p=some q/\Lu p=some c/\BK p=some l/\SU (cz q) (c.map cz)/\RI q (c.map cz) (-H9 q) l (H9 q)/\(∀t∈l,Va t)/\(∀x y,x<y->H9 q≤x\/y≤-H9 q->vv (c.map cz) x=vv (c.map cz) y)/\q.length≤p.length/\∀t∈l,t.p=q/\t.lo<t.hi/\Bd (s+69) q/\∃D M k,Gr D M k t.lo/\Gr D M k t.hi/\0<M/\Gl (D:Int)≤s+69/\Gl (M:Int)≤s+70/\k≤63*s+5160:=Qf5 rfl hs9 h
theorem Qnc(h:Okp 9 1180 p):∃q c l,M4 p=some q/\Lu p=some c/\BK p=some l/\SU (cz q) (c.map cz)/\RI q (c.map cz) (-H9 q) l (H9 q)/\(∀t∈l,Va t)/\(∀x y,x<y->H9 q≤x\/y≤-H9 q->vv (c.map cz) x=vv (c.map cz) y):=by
 obtain⟨q,c,l,h1,h2,h3,h4,h5,h6,h7,_⟩:=Qnd (Qm _) h;exact⟨q,c,l,h1,h2,h3,h4,h5,h6,h7⟩
theorem Ay{L:Fa}(hS:SU (cz q) L){c:Rat->Int}(hc:Cut c){lo:Rat}(hH:∀z,c z=-1->z<=lo->vv L z=vv L lo){y0:Rat}(hy:c y0=-1)(hv:∀z,lo<z->z<=y0->vv L z=vv L lo):∃s,s≠0/\∀z,c z=-1->z<=y0->Gn (ev (cz q) z)=s:=by
 have hall:∀z,c z=-1->z<=y0->vv L z=vv L lo:=λz h1 h2=>by
  rcases Hl z lo with e|e
  ·exact hH z h1 e
  ·exact hv z e h2
 have hne:∀z,c z=-1->z<=y0->Gn (ev (cz q) z)≠0:=λz h1 h2=>by
  obtain⟨w,w1,w2⟩:=hc.dn z h1;have:=fB hS w1 (by rw[hall w w2 Fq,hall z h1 h2]);rw[this.s];exact this.n
 refine⟨Gn (ev (cz q) y0),hne y0 hy Qr,λz h1 h2=>?_⟩;rcases Classical.em (z=y0)with e|e
 ·rw[e]
 ·have:=fB hS (x:=z) (y:=y0) Fq (by rw[hall z h1 h2,hall y0 hy Qr]);rw[this.s,I7 (hne z h1 h2)]
structure Fst(o:List Int)(a t:Tm):Prop where
 lt:C5 a t
 s:∃s,s≠0/\(∀z,Gx a z=-1->Gx t z=1->Gn (ev (cz o) z)=s)/\RS (cz o) (Gx t) (-s)
def Non(o:U6)(a:Tm):Prop:=∃s,s≠0/\∀z,Gx a z=-1->Gn (ev (cz o) z)=s
theorem Qfm{q:U6}{L:Fa}(hS:SU (cz q) L){a:Tm}(ha:Va a){lo hi:Rat}{l:List Tm}(hR:RI q L lo l hi):(∀t∈l,Va t)->(∀z,hi<z->vv L z=vv L hi)->(∀z,Gx a z=-1->z≤lo->vv L z=vv L lo)->∃r,UZ a l=some r/\match r with
 |none=>Non q a
 |some t=>t∈l/\Fst q a t:=by
 have ca:=ha.cut
 induction hR with
 |
  @nil lo hi h hv =>
  intro _ hhi hH;refine⟨none,rfl,?_⟩;obtain⟨y1,hy1⟩:=ca.hi;have hall:∀z,lo<z->vv L z=vv L lo:=λz hz=>by
   rcases Hl z hi with e|e
   ·have h1:=Oj hS hz;have h2:vv L hi<=vv L z:=by
     rcases Classical.em (z=hi)with e'|e'
     ·rw[e'];exact Qm _
     ·exact Oj hS Fq
    omega
   ·rw[hhi z e,hv]
  obtain⟨s,s0,hs⟩:=Ay hS ca hH hy1 λz h1 _=>hall z h1
  refine⟨s,s0,λz hz=>?_⟩;rcases Hl z y1 with e|e
  ·exact hs z hz e
  ·obtain⟨s',s0',hs'⟩:=Ay hS ca hH hz λz h1 _=>hall z h1
   rw[hs' z hz Qr,<-hs' y1 hy1 (Qt e),hs y1 hy1 Qr]
 |
  @cons lo hi t l h hv ht hp hl ih =>
  intro hV hhi hH;have hvt:=hV t (Qw ..);have ct:=hvt.cut;have ht':=ht;rw[<-hp]at ht';have ect:∀z,Gx t z=cq (cz t.p) t.lo t.hi z:=D8 ht.l;obtain⟨c,c1,c2⟩:=GA hvt ha;show ∃r,((GE t a).bind λc=>if 0<c then some (some t)else UZ a l)=some r/\_;rw[c1];show ∃r,(if 0<c then some (some t)else UZ a l)=some r/\_;have hlo1:Gx t t.lo=1:=by rw[ect];exact Iy Qr
  have hlow:∀z,lo<z->Gx t z=1->vv L z=vv L lo:=λz h1 h2=>by
   rcases Hl z t.lo with e|e
   ·have a1:=Oj hS h1;have a2:vv L t.lo<=vv L z:=by
     rcases Classical.em (z=t.lo)with e'|e'
     ·rw[e'];exact Qm _
     ·exact Oj hS Fq
    omega
   ·rw[ect]at h2;have hz:z<=t.hi:=by
     rcases Hl z t.hi with e'|e'
     ·exact e'
     ·rw[GO ht.l e']at h2;omega
    rw[ht'.eq_lo e hz h2,hv]
  by_cases hc:0<c
  ·rw[if_pos hc];refine⟨some t,rfl,Qw ..,?_⟩;have hlt:C5 a t:=by
    rcases c2 with⟨e,_⟩|⟨e,_⟩|⟨_,h⟩
    ·omega
    ·omega
    ·exact h
   refine⟨hlt,?_⟩;obtain⟨m,m1,m2⟩:=hlt;obtain⟨s,s0,hs⟩:=Ay hS ca hH m1 λz h1 h2=>hlow z h1 (by
    rcases Classical.em (z=m)with e|e
    ·rw[e];exact m2
    ·exact ct.mono' (q:=z) (r:=m) Fq Fj)
   have hall:∀z,Gx a z=-1->Gx t z=1->Gn (ev (cz q) z)=s:=λz h1 h2=>by
    rcases Hl z m with e|e
    ·exact hs z h1 e
    ·obtain⟨s',s0',hs'⟩:=Ay hS ca hH h1 λw w1 w2=>hlow w w1 (by
      rcases Classical.em (w=z)with e|e
      ·rw[e];exact h2
      ·exact ct.mono' (q:=w) (r:=z) Fq Fj)
     rw[hs' z h1 Qr,<-hs' m m1 (Qt e),hs m m1 Qr]
   refine⟨s,s0,hall,?_⟩;obtain⟨w,w1,w2,w3⟩:=AQ ct m2 hlo1;have hwa:Gx a w=-1:=ca.mono m w w2 Fj;have hsw:=hall w hwa w1;have hwh:w<t.hi:=by
    rw[ect]at w1;rcases Hl t.hi w with e|e
    ·have:=ht'.hi1;rcases Classical.em (t.hi=w)with e'|e'
     ·rw[<-e']at w1;exact absurd w1 this
     ·rw[GO ht.l Fq]at w1;omega
    ·exact e
   have hww:vv L w=vv L t.lo:=ht'.eq_lo w3 (Qt hwh) (by rw[<-ect];exact w1);have hvv:=ht.v;have hone:=fN hS hwh Fj;have hlw:M7 (cz q) w=s:=by rw[I7 (by rw[hsw];exact s0),hsw]
   rw[hlw]at hone;have hd:∀z,w<z->z<=t.hi->Gx t z=-1->Gn (ev (cz q) z)=-s:=λz z1 z2 z3=>by
    rw[ect]at z3;have e1:=ht'.eq_hi Fq z2 Fj;have e2:=fN hS z1 Fj;rw[hlw]at e2;have hz0:Gn (ev (cz q) z)≠0:=by
     rw[QJ Fq z2,hp]at z3;intro h0;rw[if_pos h0]at z3;omega
    rw[I7 hz0]at e2;exact e2.2
   rcases ct.val t.hi with e|e|e
   ·rw[ect]at e;exact absurd e ht'.hi1
   ·obtain⟨d,dp,hd'⟩:=Q1y (p:=cz q) (x:=t.hi) (by rw[hone.2];omega);refine⟨t.hi+d,ct.mono t.hi _ Fq Fj,λz h1 h2=>?_⟩;have hz:t.hi<z:=by
     rcases Hl z t.hi with e'|e'
     ·rcases Classical.em (z=t.hi)with e''|e''
      ·rw[e'']at h1;omega
      ·have:=ct.mono z t.hi Fq Fj;omega
     ·exact e'
    rw[hd' z hz Fq,hone.2]
   ·exact⟨t.hi,e,λz h1 h2=>hd z (ct.lt w1 h1) h2 h1⟩
  ·rw[if_neg hc];have hle:¬C5 a t:=λh=>by
    rcases c2 with⟨e,h'⟩|⟨e,h'⟩|⟨e,_⟩
    ·exact QU ct ca h' h
    ·obtain⟨z,z1,z2⟩:=h;have:=h' z;omega
    ·omega
   obtain⟨r,r1,r2⟩:=ih (λx hx=>hV x (Qh _ hx)) hhi λz z1 z2=>by
    have hz:Gx t z≠1:=λh=>hle ⟨z,z1,h⟩
    have hzl:t.lo<z:=by
     rcases Hl z t.lo with e|e
     ·refine absurd ?_ hz;rw[ect];exact Iy e
     ·exact e
    exact ht'.eq_hi hzl z2 (by rw[<-ect];exact hz)
   refine⟨r,r1,?_⟩;cases r with
   |none=>exact r2
   |some x=>exact⟨Qh _ r2.1,r2.2⟩
end Orq
