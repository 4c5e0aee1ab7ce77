import Derived.Test.YtpbfkdfffbfabaaGreatPart05
import Derived.Test.YtpbfkdfffbfabaaGreatPart00
set_option linter.all false
namespace Orq
def HD(p:Fb)(n:Nat):Prop:=p.getD n 0≠0/\∀k,n<k->p.getD k 0=0
theorem Tz:∀(p q:Fb) (k:Nat),(Ty p q).getD k 0=p.getD k 0+q.getD k 0
 | [],q,k=>by simp only[Ty,Wc];grind
 |a::p,[],k=>by simp only[Ty,Wc];grind
 |a::p,b::q,0=>by simp only[Ty,Zu]
 |a::p,b::q,k+1=>by simp only[Ty,Q4];exact Tz p q k
theorem Pn(c:Rat):∀(p:Fb) (k:Nat),(Nq c p).getD k 0=c*p.getD k 0
 | [],k=>by simp only[Nq,X8,Wc];grind
 |a::p,0=>by simp[Nq]
 |a::p,k+1=>by have:=Pn c p k;simp only[Nq,Xa,Q4]at *;exact this
variable{p:Fb}
theorem Qm2{k:Nat}(h:∀x∈p,x=0):p.getD k 0=0:=by
 rw[Qe];cases e:p[k]? with
 |none=>rfl
 |some x=>exact h x (Qc e)
theorem Lr{q:Fb}(h:∀t,ev p t=ev q t)(k:Nat):p.getD k 0=q.getD k 0:=by
 have h1:=Qm2 (k:=k) (HC (p:=Ty p (Nq (-1) q)) λt _ _=>by rw[Hg,G8,h t];grind);rw[Tz,Pn]at h1;grind
theorem An:∀{p:Fb},(∀k,p.getD k 0=0)->∀t,ev p t=0
 | [],_,t=>rfl
 |
  a::p,h,t=>by
  have h0:=h 0;have h1:=An (p:=p) (λk=>by have:=h (k+1);rwa[Q4]at this) t;rw[Zu]at h0;simp only[ev,h0,h1];grind
theorem BO:∀(p:Fb),(∀t,ev p t=0)\/∃n,n<p.length/\HD p n
 | []=>.inl λ_=>rfl
 |
  a::p=>by
  rcases BO p with h|⟨n,hn,h1,h2⟩
  .rcases Classical.em (a=0)with e|e
   .exact .inl λt=>by simp only[ev,e,h t];grind
   .refine .inr ⟨0,Ft,by simpa using e,λk b=>?_⟩;obtain⟨m,rfl⟩:∃m,k=m+1:=⟨k-1,Fo⟩;rw[Q4];exact(Lr (p:=p) (q:=[]) h m).trans Ft
  .refine .inr ⟨n+1,Fq,by rw[Q4];exact h1,λk b=>?_⟩;obtain⟨m,rfl⟩:∃m,k=m+1:=⟨k-1,Fo⟩;rw[Q4];exact h2 m Fo
variable{n:Nat}
theorem Qnc{q:Fb}(h:∀t,ev p t=ev q t)(hp:HD p n):HD q n :=
 ⟨by rw[<-Lr h];exact hp.1,λk a=>by rw[<-Lr h];exact hp.2 k a⟩
theorem Qxs{m:Nat}(h:HD p n)(a:HD p m):n=m:=by
 rcases V9 n m with e|e|e
 .exact absurd (h.2 m e) a.1
 .exact e
 .exact absurd (a.2 n e) h.1
theorem Qdn(h:HD p n):¬∀t,ev p t=0:=λh0=>h.1 ((Lr (p:=p) (q:=[]) h0 n).trans Ft)
theorem CQ{q:Fb}(h:∀k,p.getD k 0=0)(k:Nat):(Hz p q).getD k 0=0:=by
 have:=Lr (p:=Hz p q) (q:=[]) (λt=>by rw[Gl,An h t];simp only[ev];grind) k;rw[this];simp
theorem MD:∀{p q:Fb} {m n:Nat},HD p m->HD q n->HD (Hz p q) (m+n)
 | [],q,m,n,h,_=>absurd Ft h.1
 |
  a::p,q,0,n,h,h'=>by
  have h1:∀k,p.getD k 0=0:=λk=>by have:=h.2 (k+1) Fo;rwa[Q4]at this
  have h2:∀k,(Hz (a::p) q).getD k 0=a*q.getD k 0:=λk=>by
   simp only[Hz];rw[Tz,Pn];cases k with
   |zero=>rw[Zu];grind
   |succ k=>rw[Q4,CQ h1];grind
  have h3:=h.1;rw[Zu]at h3;refine⟨?_,λk b=>?_⟩
  .rw[h2,Zw];exact λh=>(Yo.1 h).elim h3 h'.1
  .rw[h2,h'.2 k Fo];grind
 |
  a::p,q,m+1,n,h,h'=>by
  have c:=MD (p:=p) (q:=q) (m:=m) ⟨by have:=h.1;rwa[Q4]at this,λk b=>by have:=h.2 (k+1) Fo;rwa[Q4]at this⟩ h';refine⟨?_,λk b=>?_⟩
  .simp only[Hz];rw[Tz,Pn,show m+1+n=(m+n)+1 by omega,Q4,h'.2 _ Fo];have:=c.1;grind
  .obtain⟨j,rfl⟩:∃j,k=j+1:=⟨k-1,Fo⟩;simp only[Hz];rw[Tz,Pn,Q4,h'.2 _ Fo,c.2 j Fo];grind
def Ee(g f:Fb):Prop:=∃u,∀t,ev f t=ev g t*ev u t
theorem dvd_refl(f:Fb):Ee f f:=⟨[1],λt=>by rw[S7];grind⟩
theorem dvd_trans{f g h:Fb}:Ee f g->Ee g h->Ee f h
 |⟨u,hu⟩,⟨v,hv⟩=>⟨Hz u v,λt=>by rw[hv,hu,Gl];grind⟩
theorem bQ{q:Fb}(h:∀t,ev p t*ev q t=0)(hp:¬∀t,ev p t=0):∀t,ev q t=0:=by
 rcases BO p with h1|⟨m,_,h1⟩
 .exact absurd h1 hp
 .rcases BO q with h2|⟨n,_,h2⟩
  .exact h2
  .exact absurd (λt=>by rw[Gl];exact h t) (Qdn (MD h1 h2))
theorem IT{q r:Fb}(hp:¬∀t,ev p t=0)(h:∀t,ev p t*ev q t=ev p t*ev r t)(t:Rat):ev q t=ev r t:=by
 have:=bQ (p:=p) (q:=Ty q (Nq (-1) r)) (λt=>by rw[Hg,G8];have:=h t;grind) hp t;rw[Hg,G8]at this;grind
theorem Ql1{b:Fb}{n:Nat}(hb:HD b n):∀(l:Nat) (a:Fb),(∀k,l<=k->a.getD k 0=0)->∃q r,(∀t,ev a t=ev q t*ev b t+ev r t)/\∀k,n<=k->r.getD k 0=0
 | 0,a,ha=>⟨[],a,λt=>by simp only[ev];grind,λk _=>ha k (Qj _)⟩
 |
  l+1,a,ha=>by
  rcases Q7 l n with h|h
  .exact⟨[],a,λt=>by simp only[ev];grind,λk g=>ha k Fo⟩
  .-- the leading term is taken away
   obtain⟨c,hc⟩:=nmE (a.getD l 0 / b.getD n 0);have d:c*b.getD n 0=a.getD l 0:=by rw[hc];exact Zg hb.1
   obtain⟨m,hm⟩:∃m:Fb,m=List.replicate (l-n) 0++[c]:=⟨_,rfl⟩;have f:∀(i:Nat) (k:Nat),(Hz (List.replicate i 0++[c]) b).getD k 0=if i<=k then c*b.getD (k-i) 0 else 0:=λi=>by
    induction i with
    |zero=>intro k;simp only[Wz,Jn,Hz];rw[Tz,Pn];cases k <;> simp <;> grind
    |
     succ i ih =>
     intro k;simp only[J4,Xg,Hz];rw[Tz,Pn];cases k with
     |zero=>rw[Zu,if_neg Fo];grind
     |
      succ k =>
      rw[Q4,ih k];by_cases h:i<=k
      .rw[if_pos h,if_pos Fo,Nat.add_sub_add_right];grind
      .rw[if_neg h,if_neg Fo];grind
   obtain⟨q,r,h1,h2⟩:=Ql1 hb l (Ty a (Nq (-1) (Hz m b))) λk g=>by
    rw[Tz,Pn,hm,f,if_pos Fo];rcases V0 g with e|e
    .rw[ha k Fo,hb.2 _ Fo];grind
    .subst e;rw[show l-(l-n)=n by omega,d];grind
   refine⟨Ty q m,r,λt=>?_,h2⟩;have:=h1 t;rw[Hg,G8,Gl]at this;rw[Hg];grind
theorem iH:∀(n:Nat) (a b:Fb),(∀k,n<=k->b.getD k 0=0)->∃g U V,Ee g a/\Ee g b/\∀t,ev g t=ev U t*ev a t+ev V t*ev b t
 |
  0,a,b,h=>by
  have h0:=An λk=>h k (Qj _)
  exact⟨a,[1],[],dvd_refl a,⟨[],λt=>by rw[h0];simp only[ev];grind⟩,λt=>by rw[S7];simp only[ev];grind⟩
 |
  n+1,a,b,h=>by
  rcases Classical.em (b.getD n 0=0)with e|e
  .exact iH n a b λk c=>by
    rcases V0 c with e'|e'
    .exact h k Fo
    .rw[<-e'];exact e
  .obtain⟨q,r,h1,h2⟩:=Ql1 (b:=b) (n:=n) ⟨e,λk c=>h k Fo⟩ a.length a λk c=>by rw[Qe,Qu c];rfl
   obtain⟨g,U,V,⟨u,hu⟩,⟨v,hv⟩,hg⟩:=iH n b r h2;refine⟨g,V,Ty U (Nq (-1) (Hz V q)),⟨Ty (Hz q u) v,λt=>?_⟩,⟨u,hu⟩,λt=>?_⟩
   .rw[h1,hv,Hg,Gl,hu];grind
   .rw[hg,Hg,G8,Gl,h1];grind
theorem Qmy(a b:Fb):∃g U V,Ee g a/\Ee g b/\∀t,ev g t=ev U t*ev a t+ev V t*ev b t :=
 iH b.length a b λk c=>by rw[Qe,Qu c];rfl
def Cop(a b:Fb):Prop:=∃U V,∀t,ev U t*ev a t+ev V t*ev b t=1
theorem uC{c d e:Fb}(h:Cop c d)(h1:∃u,∀t,ev d t*ev e t=ev c t*ev u t):Ee c e:=by
 obtain⟨U,V,h⟩:=h;obtain⟨u,hu⟩:=h1;refine⟨Ty (Hz U e) (Hz V u),λt=>?_⟩;rw[Hg,Gl,Gl];have a1:=h t;have a2:=hu t;have:ev e t=(ev U t*ev c t+ev V t*ev d t)*ev e t:=by rw[a1];grind
 rw[this];have:(ev U t*ev c t+ev V t*ev d t)*ev e t=ev U t*ev c t*ev e t+ev V t*(ev d t*ev e t):=Fu;rw[this,a2];grind
def zS(d:Fb):Nat->Fb
 | 0=>[1]
 |k+1=>Hz d (zS d k)
theorem Qak(d:Fb)(t:Rat):∀k:Nat,ev d t*dv (zS d k) t=(k:Rat)*(dv d t*ev (zS d k) t)
 | 0=>by simp only[zS,dv,ev];rw[show((0:Nat):Rat)=0 from rfl];grind
 |
  k+1=>by
  have b:=Qak d t k;have a:(((k+1:Nat):Rat))=(k:Rat)+1:=by push_cast;rfl
  simp only[zS];rw[uO,Gl,a];grind
theorem Qo9{d:Fb}{m:Nat}(h:HD d m):∀k,HD (zS d k) (k*m)
 | 0=>by rw[Yv];exact⟨by simp[zS],λk a=>by simp only[zS];rw[Qe,Qu Fq];rfl⟩
 |k+1=>by rw[Xh,Yb (k*m) m];exact MD h (Qo9 h k)
theorem kV{d g:Fb}{m:Nat}(hd:HD d m)(hg:HD g n)(h:∀k,Ee (zS d k) g):m=0:=by
 obtain⟨u,hu⟩:=h (n+1);rcases BO u with h1|⟨j,_,h1⟩
 .exact absurd (λt=>by rw[hu,h1];grind) (Qdn hg)
 .have:=Qxs (Qnc (λt=>by rw[hu,Gl]) hg) (MD (Qo9 hd (n+1)) h1);rcases Q0 m with e|e
  .exact e
  .have:(n+1)*1<=(n+1)*m:=Zl _ e;omega
theorem sqf{a g q d U V:Fb}{k:Rat}(f:k≠0)(ha:∀t,ev a t=ev g t*ev q t)(hg:∀t,k*ev g t=ev U t*ev a t+ev V t*dv a t)(h1:Ee d q)(h2:Ee d (Cv q)):∀n,Ee (zS d n) g
 | 0=>⟨g,λt=>by simp only[zS];rw[S7];grind⟩
 |
  n+1=>by
  obtain⟨b,i⟩:=sqf f ha hg h1 h2 n;obtain⟨c,j⟩:=h1;obtain⟨e,o⟩:=h2;have w:=λt=>ZV ha t
  have B:=λt=>ZV i t
  have A:=λt=>ZV j t
  have v:=Qak d;refine⟨Nq (1 / k) (Ty (Hz U (Hz b c)) (Hz V (Ty (Hz b e) (Ty (Nq n (Hz b (Ty e (Nq (-1) (Cv c))))) (Hz (Cv b) c))))),λt=>?_⟩;have y:1 / k*k=1:=Zg f;simp only[zS,G8,Hg,Gl,Si];have b1:=ha t;have u:=hg t;have l:=i t;have h:=j t;have x:=o t;have m:=w t;have z:=B t;have b8:=A t;have r:=v t n;rw[Si]at x;generalize ev d t=x0 at *;generalize ev (zS d n) t=x1 at *;generalize ev g t=x2 at *;generalize ev q t=x3 at *;generalize ev a t=x4 at *;generalize dv a t=x5 at *;generalize dv g t=x6 at *;generalize dv q t=x7 at *;generalize ev b t=x8 at *;generalize dv b t=x9 at *;generalize ev c t=y0 at *;generalize dv c t=y1 at *;generalize ev e t=y2 at *;generalize dv d t=y3 at *;generalize dv (zS d n) t=y4 at *;generalize ev U t=y5 at *;generalize ev V t=y6 at *;generalize (n:Rat)=y7 at *;have:x2=1 / k*(k*x2):=Fu;rw[this,u];have p:x5=x0*x1*(x8*y2+(y7*(x8*(y2+-1*y1))+x9*y0)):=by
   rw[m,z,h,l];have:y3*y0=x0*y2-x0*y1:=Fu;have:x0*y4*(x8*y0)=y7*(x1*x8*(x0*y2-x0*y1)):=by rw[r,<-this];grind
   grind
  have s:x4=x0*x1*(x8*y0):=by rw[b1,l,h];grind
  rw[p,s];grind
theorem Qtk{a b c:Fb}(h1:Cop a b)(h2:Cop a c){d:Fb}(hd:∀t,ev d t=ev b t*ev c t):Cop a d:=by
 obtain⟨U,V,h1⟩:=h1;obtain⟨X,Y,h2⟩:=h2;refine⟨Ty U (Hz (Hz V b) X),Hz V Y,λt=>?_⟩;have a1:=h1 t;have a2:=h2 t;simp only[Hg,Gl,hd];have:ev V t*ev b t*(ev X t*ev a t+ev Y t*ev c t)=ev V t*ev b t:=by rw[a2];grind
 grind
theorem Qv7{a g q z r X Y:Fb}{n:Nat}(ha:∀t,ev a t=ev g t*ev q t)(hz:∀t,dv a t=ev g t*ev z t)(hg:HD g n)(hr:∀t,ev X t*ev r t+ev Y t*dv r t=1)(h:Ee r a):Ee r q:=by
 obtain⟨b,hb⟩:=h;obtain⟨e,U,V,⟨r1,i⟩,⟨q3,y⟩,E⟩:=Qmy r q;have j:¬∀t,ev r t=0:=λh=>by
  have h1:=hr 0;have h2:dv r 0=0:=by have:=Ql6 (p:=r) (q:=[]) h 0;rw[this];rfl
  rw[h,h2]at h1;grind
 have v:¬∀t,ev e t=0:=λh=>j λt=>by rw[i,h];grind
 have C:=λt=>ZV i t
 have F:Cop r1 q3:=⟨U,V,λt=>by
  have:=IT (p:=e) (q:=Ty (Hz U r1) (Hz V q3)) (r:=[1]) v (λt=>by
   rw[Hg,Gl,Gl,S7];have a1:=i t;have a2:=y t;have d:=E t;rw[a1,a2]at d;grind) t
  rw[Hg,Gl,Gl,S7]at this;exact this⟩
 have G:Cop r1 e:=⟨Ty (Hz X e) (Hz Y (Cv e)),Hz Y (Cv r1),λt=>by
  have a1:=hr t;have a2:=i t;have d:=C t;simp only[Hg,Gl,Si];rw[a2,d]at a1;grind⟩
 have H:Cop r1 (Cv r1):=⟨Ty (Hz X e) (Hz Y (Cv e)),Hz Y e,λt=>by
  have a1:=hr t;have a2:=i t;have d:=C t;simp only[Hg,Gl,Si];rw[a2,d]at a1;grind⟩
 have B:Cop r1 q:=Qtk G F y;have s:=Qdn hg;have hp:∀k,Ee (zS r1 k) g:=λk=>by
  induction k with
  |zero=>exact⟨g,λt=>by simp only[zS];rw[S7];grind⟩
  |
   succ k ih =>
   obtain⟨h,eh⟩:=ih;have x:¬∀t,ev (zS r1 k) t=0:=λh0=>s λt=>by rw[eh,h0];grind
   have A:Ee r1 h:=by
    cases k with
    |
     zero =>
     refine uC B ⟨Hz e b,λt=>?_⟩;have a1:=ha t;have a2:=hb t;have d:=i t;have o:=eh t;simp only[zS]at o;rw[S7]at o;rw[Gl];grind
    |
     succ k =>
     have hn:((k+1:Nat):Rat)≠0:=by
      have:(0:Rat)<((k+1:Nat):Rat):=by
       have h1:((0:Nat):Rat)<((k+1:Nat):Rat):=V5.2 Fo;simpa using h1
      grind
     have J:=λt=>ZV (f:=a) (w:=zS r1 (k+1)) (u:=Hz h q) (λt=>by rw[ha,eh,Gl];grind) t
     have I:=Qak r1;have h3:=IT (p:=zS r1 (k+1)) (q:=Hz (Cv r1) (Hz h q)) (r:=Hz r1 (Nq (1 / ((k+1:Nat):Rat)) (Ty (Hz h z) (Nq (-1) (Cv (Hz h q)))))) x λt=>by
      simp only[Gl,G8,Hg,Si];have a1:=J t;have a2:=I t (k+1);have d:=hz t;have o:=eh t;rw[Gl]at a1;generalize ((k+1:Nat):Rat)=c at *;have hc:1 / c*c=1:=Zg hn;generalize ev (zS r1 (k+1)) t=x0 at *;generalize dv (zS r1 (k+1)) t=x1 at *;generalize dv (Hz h q) t=x2 at *;generalize ev r1 t=x3 at *;generalize dv r1 t=x4 at *;generalize ev h t=x5 at *;generalize ev q t=x6 at *;generalize ev z t=x7 at *;generalize dv a t=x8 at *;generalize ev g t=x9 at *;generalize 1 / c=c' at *;have D:x0*(x4*(x5*x6))=c'*(c*(x4*x0))*(x5*x6):=by
       have:c'*(c*(x4*x0))=(c'*c)*(x4*x0):=Fu;rw[this,hc];grind
      rw[D,<-a2];have K:x3*(x1*(x5*x6))=x3*(x0*(x5*x7+-1*x2)):=by
       rw[d,o]at a1;grind
      grind
     refine uC B ?_;obtain⟨u,hu⟩:=uC (e:=Hz q h) H ⟨Nq (1 / ((k+1:Nat):Rat)) (Ty (Hz h z) (Nq (-1) (Cv (Hz h q)))),λt=>by
      have:=h3 t;simp only[Gl]at this ⊢;rw[<-this];grind⟩
     exact⟨u,λt=>by rw[<-hu,Gl]⟩
   obtain⟨u,hu⟩:=A;exact⟨u,λt=>by simp only[zS];rw[Gl,eh,hu];grind⟩
 rcases BO r1 with h1|⟨m,_,h1⟩
 .exact absurd (λt=>by rw[i,h1];grind) j
 .obtain rfl:=kV h1 hg hp;have h2:∀t,ev r1 t=r1.getD 0 0:=λt=>by
   cases r1 with
   |nil=>simp[ev]
   |
    cons c l =>
    have:∀t,ev l t=0:=An λk=>by have:=h1.2 (k+1) Fo;rwa[Q4]at this
    simp only[ev,this,Zu];grind
  have h3:=h1.1;refine⟨Nq (1 / r1.getD 0 0) q3,λt=>?_⟩;rw[y,i,h2,G8];have:1 / r1.getD 0 0*r1.getD 0 0=1:=Zg h3;have:ev e t*r1.getD 0 0*(1 / r1.getD 0 0*ev q3 t)=ev e t*ev q3 t*(1 / r1.getD 0 0*r1.getD 0 0):=Fu;rw[this,Zg h3];grind
def XM:Fc->Fb
 | []=>[1]
 |w::l=>Hz w (XM l)
def Lay:Fc->Fc->Prop
 | [],[]=>True
 | [w],[f]=>∀t,ev w t=ev f t
 |w::v::l,f::fs=>(∀t,ev w t=ev f t*ev v t)/\Lay (v::l) fs
 |_,_=>False
def DT:Fc->Fb
 | []=>[1]
 | [f]=>f
 |f::_::l=>Hz f (DT l)
theorem Qd0:∀{ws fs:Fc},Lay ws fs->∃S,∀t,ev (XM ws) t=ev (DT fs) t*(ev S t*ev S t)
 | [],[],_=>⟨[1],λt=>by simp only[XM,DT];rw[S7];grind⟩
 | [w],[f],h=>⟨[1],λt=>by simp only[XM,DT];rw[Gl,S7,h t];grind⟩
 |
  [w,v],[f,f2],h=>⟨v,λt=>by
  have h1:=h.1 t;have h2:ev v t=ev f2 t:=h.2 t;simp only[XM,DT,Gl];rw[S7,h1];grind⟩
 |
  w::v::x::l,f::f2::fs,h=>by
  obtain⟨S,c⟩:=Qd0 h.2.2;refine⟨Hz v S,λt=>?_⟩;have h1:=h.1 t;have h2:=c t;have b:ev (XM (w::v::x::l)) t=ev w t*(ev v t*ev (XM (x::l)) t):=by simp only[XM,Gl]
  rw[b,h2,h1];have a:ev (DT (f::f2::fs)) t=ev f t*ev (DT fs) t:=by
   cases fs with
   |nil=>cases l <;> exact False.elim h.2.2
   |cons y l=>simp only[DT,Gl]
  rw[a,Gl];grind
 | [w],[],h=>h.elim
 | [w],_::_::_,h=>h.elim
 | [],_::_,h=>h.elim
 | [w,v],[f],h=>h.2.elim
 | [w,v],_::_::_::_,h=>h.2.elim
 |w::v::x::l,[f],h=>h.2.elim
 |w::v::l,[],h=>h.elim
end Orq
namespace Orq
open Orr Go
theorem oD(p:U8)(t:Rat):Gf p t=((p.getD 0 0:Int):Rat)+t*Gf p.tail t:=by
 cases p with
 |nil=>show(0:Rat)=((0:Int):Rat)+t*0;grind
 |cons a p=>rfl
theorem MC(p:U8)(k:Nat):p.tail.getD k 0=p.getD (k+1) 0:=by
 cases p <;> simp
theorem Lv(c d:Int)(t:Rat):∀(n:Nat) (p q r:U8),p.length<=n->q.length<=n->r.length<=n->(∀k,r.getD k 0=c*p.getD k 0+d*q.getD k 0)->Gf r t=(c:Rat)*Gf p t+(d:Rat)*Gf q t
 |
  0,p,q,r,hp,hq,hr,_=>by
  rw[Qg (Nat.le_zero.1 hp),Qg (Nat.le_zero.1 hq),Qg (Nat.le_zero.1 hr)];show(0:Rat)=_*0+_*0;grind
 |
  n+1,p,q,r,hp,hq,hr,h=>by
  have a:=Lv c d t n p.tail q.tail r.tail (by rw[Uj];omega) (by rw[Uj];omega) (by rw[Uj];omega) λk=>by
   rw[MC,MC,MC];exact h (k+1)
  rw[oD p,oD q,oD r,a,h 0]
  push_cast
  grind
theorem Qep{p q:U8}(h:∀k,p.getD k 0=q.getD k 0)(t:Rat):Gf p t=Gf q t:=by
 have:=Lv 1 0 t (max p.length q.length) q q p (Ul ..) (Ul ..) (Nat.le_max_left ..) λk=>by rw[h k];omega
 rw[this]
 push_cast
 grind
theorem O9(p:U8)(t:Rat):Gf (trim p) t=Gf p t:=Qep (E7 p) t
theorem Rt{p:U8}{k:Nat}(h:p.length<=k):p.getD k 0=0:=by
 rw[Qe,Qu h];rfl
theorem vL(p q:U8)(k:Nat):(QW p q).getD k 0=p.getD k 0+q.getD k 0:=by
 unfold QW;rw[Pe]
 split
 .rfl
 .rename_i h;rw[Rt (p:=p) Fo,Rt (p:=q) Fo];rfl
theorem E6(p q:U8)(k:Nat):(Mh p q).getD k 0=p.getD k 0-q.getD k 0:=by
 unfold Mh;rw[Pe]
 split
 .rfl
 .rename_i h;rw[Rt (p:=p) Fo,Rt (p:=q) Fo];rfl
theorem Pz(p:U8)(c:Int)(k:Nat):(G5 p c).getD k 0=p.getD k 0*c:=by
 unfold G5;rw[Pe]
 split
 .rfl
 .rename_i h;rw[Rt (p:=p) Fo,Int.zero_mul]
theorem kQ(p:U8)(k:Nat):(Bt p).getD k 0=-(p.getD k 0):=by
 unfold Bt;rw[Pe]
 split
 .rfl
 .rename_i h;rw[Rt (p:=p) Fo];rfl
theorem M4(p:U8)(k:Nat):(Hh p).getD k 0=p.getD (k+1) 0*((k+1:Nat):Int):=by
 unfold Hh;rw[Pe]
 split
 .rfl
 .rename_i h;rw[Rt (p:=p) Fo,Int.zero_mul]
theorem qI(p q:U8)(t:Rat):Gf (QW p q) t=Gf p t+Gf q t:=by
 have:=Lv 1 1 t (max (max p.length q.length) (QW p q).length) p q (QW p q) Fo Fo Fo λk=>by rw[vL];omega
 rw[this];push_cast;grind
theorem Bs(p q:U8)(t:Rat):Gf (Mh p q) t=Gf p t-Gf q t:=by
 have:=Lv 1 (-1) t (max (max p.length q.length) (Mh p q).length) p q (Mh p q) Fo Fo Fo λk=>by rw[E6];omega
 rw[this];push_cast;grind
theorem SK(p:U8)(t:Rat):Gf (Bt p) t=-Gf p t:=by
 have:=Lv (-1) 0 t (max p.length (Bt p).length) p p (Bt p) Fo Fo Fo λk=>by rw[kQ];omega
 rw[this];push_cast;grind
theorem Tn(p:U8)(c:Int)(t:Rat):Gf (G5 p c) t=Gf p t*(c:Rat):=by
 have:=Lv c 0 t (max p.length (G5 p c).length) p p (G5 p c) Fo Fo Fo λk=>by rw[Pz,Kb];omega
 rw[this];push_cast;grind
theorem rU:∀(l:U8) (j:Nat) (v:Int) (t:Rat),j<l.length->Gf (l.set j v) t=Gf l t+((v:Rat)-((l.getD j 0:Int):Rat))*t^j
 | [],_,_,_,h=>by simp at h
 |
  a::l,0,v,t,_=>by
  show(v:Rat)+t*Gf l t=(a:Rat)+t*Gf l t+((v:Rat)-(a:Rat))*t^0;rw[Xo];grind
 |
  a::l,j+1,v,t,h=>by
  have b:=rU l j v t (by simpa using h);show(a:Rat)+t*Gf (l.set j v) t=(a:Rat)+t*Gf l t+((v:Rat)-((l.getD j 0:Int):Rat))*t^(j+1);rw[b,Xi];grind
theorem qO:∀(l:U8) (k:Nat) (t:Rat),k<l.length->Gf (l.take (k+1)) t=Gf (l.take k) t+((l.getD k 0:Int):Rat)*t^k
 | [],_,_,h=>by simp at h
 |
  a::l,0,t,_=>by
  show(a:Rat)+t*Gf (l.take 0) t=0+(a:Rat)*t^0;rw[Xo,Ke];show(a:Rat)+t*0=_;grind
 |
  a::l,k+1,t,h=>by
  have b:=qO l k t (by simpa using h);show(a:Rat)+t*Gf (l.take (k+1)) t=(a:Rat)+t*Gf (l.take k) t+((l.getD k 0:Int):Rat)*t^(k+1);rw[b,Xi];grind
theorem vO(n:Nat)(t:Rat):Gf (List.replicate n 0) t=0:=by
 induction n with
 |zero=>rfl
 |
  succ n ih =>
  show((0:Int):Rat)+t*Gf (List.replicate n 0) t=0;rw[ih];push_cast;grind
theorem dY(t:Rat)(i:Nat):∀k,t^(i+k)=t^i*t^k
 | 0=>by rw[X1,Xo];grind
 |k+1=>by rw[<-Vd,Xi,Xi,dY t i k];grind
theorem bE(x:Int)(b:U8)(i:Nat)(o:U8)(t:Rat):∀k,k<=b.length->i+k<=o.length->Gf (XT x b i o k) t=Gf o t+(x:Rat)*t^i*Gf (b.take k) t
 |
  0,_,_=>by
  show Gf o t=Gf o t+(x:Rat)*t^i*0;grind
 |
  k+1,h1,h2=>by
  have a:=bE x b i o t k Fo Fo;simp only[XT];rw[rU _ _ _ _ (by rw[XS];omega),a,qO b k t Fo];have hp:t^(i+k)=t^i*t^k:=dY t i k;rw[hp]
  push_cast
  grind
theorem bL(a b o:U8)(t:Rat):∀i,i<=a.length->i+b.length<=o.length+1->Gf (Ic a b o i) t=Gf o t+Gf (a.take i) t*Gf b t
 |
  0,_,_=>by
  show Gf o t=Gf o t+0*Gf b t;grind
 |
  i+1,h1,h2=>by
  have c:=bL a b o t i Fo Fo;simp only[Ic];rw[bE _ _ _ _ _ b.length (Ql _) (by rw[As];omega),c,qO a i t Fo,Q6];grind
theorem Gx(a b:U8)(t:Rat):Gf (Hb a b) t=Gf a t*Gf b t:=by
 unfold Hb
 split
 .rename_i h;rcases h with h|h
  .rw[Qg h];show(0:Rat)=0*_;grind
  .rw[Qg h];show(0:Rat)=_*0;grind
 .rename_i h;rw[O9,bL a b _ t a.length (Ql _) (by rw[Ji];omega),vO,Q6];grind
theorem To(z d:Int):(z:Rat) / (d:Rat)=Rat.divInt z d:=by
 by_cases h:d=0
 .subst h;simp;grind
 .rw[Yw];exact(Rat.divInt_eq_div z d ▸ by rw[Yw])
theorem Qfo(a:U8)(n d:Int)(hd:(d:Rat)≠0):∀k,k<=a.length->(((Ce a n d k).2:Int):Rat)=(d:Rat)^k/\(((Ce a n d k).1:Int):Rat)*d=(d:Rat)^k*Gf (a.drop (a.length-k)) ((n:Rat) / d)
 |
  0,_=>by
  refine⟨by rw[Xo];rfl,?_⟩;rw[Ww,Vf];show((0:Int):Rat)*d=(d:Rat)^0*0
  push_cast;grind
 |
  k+1,hk=>by
  obtain⟨h1,h2⟩:=Qfo a n d hd k Fo;have hi:a.length-1-k<a.length:=Fo;have b:a.drop (a.length-(k+1))=a.getD (a.length-1-k) 0::a.drop (a.length-k):=by
   rw[show a.length-(k+1)=a.length-1-k by omega,Zo hi,show a.length-1-k+1=a.length-k by omega];congr 1;rw[Qe,Qf hi];rfl
  refine⟨?_,?_⟩
  .show(((Ce a n d k).2*d:Int):Rat)=_;rw[Je,h1,Xi]
  .rw[b];show(((Ce a n d k).1*n+a.getD (a.length-1-k) 0*(Ce a n d k).2:Int):Rat)*d=_*(((a.getD (a.length-1-k) 0:Int):Rat)+(n:Rat) / d*Gf (a.drop (a.length-k)) ((n:Rat) / d));rw[Ku,Je,Je,h1,Xi];have h3:(n:Rat) / d*d=n:=by rw[Zg hd]
   have h4:(d:Rat)^k*d*((n:Rat) / d*Gf (a.drop (a.length-k)) ((n:Rat) / d))=((n:Rat) / d*d)*((d:Rat)^k*Gf (a.drop (a.length-k)) ((n:Rat) / d)):=Fu;have h5:(d:Rat)^k*d*(((a.getD (a.length-1-k) 0:Int):Rat)+(n:Rat) / d*Gf (a.drop (a.length-k)) ((n:Rat) / d))=(d:Rat)^k*d*((a.getD (a.length-1-k) 0:Int):Rat)+(d:Rat)^k*d*((n:Rat) / d*Gf (a.drop (a.length-k)) ((n:Rat) / d)):=Fu;rw[h5,h4,h3,<-h2];grind
theorem Qet{d:Rat}(h:0<d):∀k:Nat,0<d^k
 | 0=>by rw[Xo];decide
 |k+1=>by rw[Xi];exact Xx (Qet h k) h
theorem Eb{x y:Rat}(h:0<y):Gu (y*x)=Gu x:=by
 unfold Gu;have h1:y*x<0↔x<0:=by
  constructor
  .intro h2;rcases Vq (a:=0) (b:=x)with h3|h3
   .have:=Kg (Qq h) h3;grind
   .rcases W3.1 h3 with h4|h4
    .exact h4
    .rw[h4]at h2;grind
  .intro h2;have:=Xx h (show 0 < -x by grind);grind
 have h2:0<y*x↔0<x:=by
  constructor
  .intro h2;rcases Vq (a:=x) (b:=0)with h3|h3
   .have:=Kg (Qq h) (show 0<=-x by grind);grind
   .rcases W3.1 h3 with h4|h4
    .exact h4
    .rw[<-h4]at h2;grind
  .intro h2;exact Xx h h2
 simp only[h1,h2]
theorem Qls(z:Int):Dv z 0=Gu (z:Rat):=by
 unfold Dv Gu;have h1:((z:Int):Rat)<0↔z<0:=by
  have := @Rat.intCast_lt_intCast z 0;simpa using this
 have h2:0<((z:Int):Rat)↔0<z:=by
  have := @Rat.intCast_lt_intCast 0 z;simpa using this
 simp only[h1,h2]
theorem M7(p:U8)(q:Rat):Hp p q=Gu (Gf p q):=by
 have a:(0:Rat)<((q.den:Int):Rat):=by
  have := @Rat.intCast_lt_intCast 0 (q.den:Int);rw[show((0:Int):Rat)=0 from rfl]at this;exact this.2 (den_pos q)
 have hd:((q.den:Int):Rat)≠0:=by intro h;rw[h]at a;exact absurd a Fp
 obtain⟨_,h⟩:=Qfo p q.num q.den hd p.length (Ql _);rw[K0,Jd,To,Z9]at h;unfold Hp;rw[Qls,<-Eb a,Up];show Gu ((((Ce p q.num q.den p.length).1:Int):Rat)*_)=_;rw[h,Eb (Qet a _)]
def cz(p:U8):Fb:=p.map λz:Int=>(z:Rat)
theorem Gd(t:Rat):∀p,ev (cz p) t=Gf p t
 | []=>rfl
 |a::p=>by have:=Gd t p;simp only[cz,Xa,ev,Gf]at *;rw[this]
theorem Nh:∀(p:U8) (k:Nat),(cz p).getD k 0=((p.getD k 0:Int):Rat)
 | [],k=>by simp[cz]
 |a::p,0=>by simp[cz]
 |a::p,k+1=>by have:=Nh p k;simp only[cz,Xa,Q4]at *;exact this
variable{p:U8}
theorem Lu{q:U8}(h:∀t,Gf p t=Gf q t)(k:Nat):p.getD k 0=q.getD k 0:=by
 have:=Lr (p:=cz p) (q:=cz q) (λt=>by rw[Gd,Gd,h]) k;rw[Nh,Nh]at this
 exact_mod_cast this
theorem PU{q:U8}(hp:Gg p)(b:Gg q)(h:∀k,p.getD k 0=q.getD k 0):p=q:=by
 have a:∀{p q:U8},Gg p->Gg q->(∀k,p.getD k 0=q.getD k 0)->p.length<=q.length:=λ{p q} hp b h=>by
  rcases Q7 q.length p.length with e|e
  .have:=Tg hp Fo;rw[h,Qe,Qu Fo]at this;exact absurd rfl this
  .exact e
 exact OH (Vz (a hp b h) (a b hp λk=>(h k).symm)) λj _=>h j
theorem UT{q:U8}(hp:Gg p)(a:Gg q)(h:∀t,Gf p t=Gf q t):p=q:=PU hp a (Lu h)
theorem Qu5(hp:Gg p)(h:∀t,Gf p t=0):p=[]:=UT hp rfl λt=>by rw[h];rfl
theorem Dq(h:p.length=0)(t:Rat):Gf p t=0:=by rw[Qg h];rfl
theorem Qeo:∀(p r:U8) (t:Rat),(∀k,r.getD k 0=p.getD (k+1) 0*((k+1:Nat):Int))->Gf r t=dv (cz p) t
 |
  [],r,t,h=>by
  rw[Qep (q:=[]) (λk=>by rw[h];simp) t];rfl
 |
  a::p,r,t,h=>by
  have b:=Qeo p (Hh p) t λk=>M4 p k
  have e:Gf r t=Gf p t+t*Gf (Hh p) t:=by
   have:=Lv 1 1 t (max (max p.length (0::Hh p).length) r.length) p (0::Hh p) r Fo Fo Fo λk=>by
    rw[h,Q4];cases k with
    |zero=>simp
    |succ k=>rw[Q4,M4];push_cast;grind
   rw[this];simp only[Gf];push_cast;grind
  rw[e,b];show _=ev (cz p) t+t*dv (cz p) t;rw[Gd]
theorem C6(p:U8)(t:Rat):Gf (Hh p) t=dv (cz p) t:=Qeo p _ t λk=>M4 p k
theorem FP(hp:Gg p)(h:0<p.length):HD (cz p) (p.length-1):=by
 refine⟨?_,λk a=>?_⟩
 .rw[Nh];have:=Tg hp h;exact λe=>this (by exact_mod_cast e)
 .rw[Nh,Qe,Qu Fo];rfl
theorem YN(hp:Gg p)(h:0<p.length):¬∀t,Gf p t=0:=λh0=>by
 rw[Qu5 hp h0]at h;exact absurd h Ft
theorem Sx{a b c:U8}(ha:Gg a)(hb:Gg b)(hc:Gg c)(h:∀t,Gf c t=Gf a t*Gf b t)(la:0<a.length)(lb:0<b.length):c.length=a.length+b.length-1:=by
 have h1:=MD (FP ha la) (FP hb lb);have h2:HD (cz c) (a.length-1+(b.length-1)):=Qnc (λt=>by rw[Gl,Gd,Gd,Gd,h]) h1;have d:0<c.length:=by
  rcases Q0 c.length with e|e
  .exact absurd (λt=>by rw[Gd];exact Dq e t) (Qdn h2)
  .exact e
 have:=Qxs (FP hc d) h2;omega
theorem cV:∀(n m:Nat),m<=n->2<=m->∃P,2<=P/\P∣m/\∀d,2<=d->d∣P->d=P
 | 0,m,h,h2=>Fo
 |
  n+1,m,h,h2=>by
  rcases Classical.em (∃d,2<=d/\d<m/\d∣m)with⟨d,b,a,d3⟩|h0
  .obtain⟨P,p1,p2,c⟩:=cV n d Fo b;exact⟨P,p1,Nat.dvd_trans p2 d3,c⟩
  .refine⟨m,h2,Nat.dvd_refl m,λd b a=>?_⟩;rcases V0 (We Fo a)with e|e
   .exact absurd ⟨d,b,e,a⟩ h0
   .exact e
theorem fX{P:Nat}(h2:2<=P)(a:∀d,2<=d->d∣P->d=P){x y:Int}(h:(P:Int)∣x*y):(P:Int)∣x\/(P:Int)∣y:=by
 have h:=Xv.2 h;rw[Yf,Xc]at h;have hg:=Uk P x.natAbs;rcases Q7 (Nat.gcd P x.natAbs) 2 with e|e
 .right;have h1:Nat.gcd P x.natAbs=1:=by
   have:=Nat.gcd_pos_of_pos_left x.natAbs (show 0<P by omega);omega
  have:=Nat.Coprime.dvd_of_dvd_mul_left h1 h;exact Xv.1 (by rwa[Xc])
 .left;have:=a _ e hg;have h3:=Nat.gcd_dvd_right P x.natAbs;rw[this]at h3;exact Xv.1 (by rwa[Xc])
def lD(P:Int)(l:U8):Prop:=∀k,P∣l.getD k 0
theorem PC{P:Nat}(h2:2<=P)(f:∀d,2<=d->d∣P->d=P):∀(n:Nat) (b h c:U8),b.length+h.length<=n->(∀t,Gf c t=Gf b t*Gf h t)->lD P c->lD P b\/lD P h
 |_,[],h,c,_,_,_=>.inl λk=>Ft
 |_,x::b,[],c,_,_,_=>.inr λk=>Ft
 | 0,x::b,y::h,c,hn,_,_=>by simp at hn
 |
  n+1,x::b,y::h,c,hn,hc,hd=>by
  simp only[Q5]at hn;by_cases hx:(P:Int)∣x
  .-- x h is taken away
   have e:∀t,Gf (0::Hb b (y::h)) t=Gf (Mh c (G5 (y::h) x)) t:=λt=>by
    rw[Bs,Tn,hc];simp only[Gf];rw[Gx];simp only[Gf];push_cast;grind
   have a:lD P (Hb b (y::h)):=λk=>by
    have:=Lu e (k+1);rw[Q4,E6,Pz]at this;rw[this];exact Int.dvd_sub (hd (k+1)) (Kn hx (Vo _ _))
   rcases PC h2 f n b (y::h) _ (by simp only[Q5];omega) (λt=>Gx _ _ t) a with h1|h1
   .refine .inl λk=>?_
    cases k with
    |zero=>rw[Zu];exact hx
    |succ k=>rw[Q4];exact h1 k
   .exact .inr h1
  .have h0:(P:Int)∣y:=by
    have e:c.getD 0 0=x*y:=by
     have:=Lu (p:=c) (q:=Hb (x::b) (y::h)) (λt=>by rw[hc,Gx]) 0;have g:=Lu (p:=Hb (x::b) (y::h)) (q:=QW (G5 (y::h) x) (0::Hb b (y::h))) (λt=>by
      rw[qI,Tn,Gx];simp only[Gf];rw[Gx];simp only[Gf];push_cast;grind) 0
     rw[this,g,vL,Pz,Zu,Zu,Kb];omega
    have:=hd 0;rw[e]at this;rcases fX h2 f this with h1|h1
    .exact absurd h1 hx
    .exact h1
   have e:∀t,Gf (0::Hb (x::b) h) t=Gf (Mh c (G5 (x::b) y)) t:=λt=>by
    rw[Bs,Tn,hc];simp only[Gf];rw[Gx];simp only[Gf];push_cast;grind
   have a:lD P (Hb (x::b) h):=λk=>by
    have:=Lu e (k+1);rw[Q4,E6,Pz]at this;rw[this];exact Int.dvd_sub (hd (k+1)) (Kn h0 (Vo _ _))
   rcases PC h2 f n (x::b) h _ (by simp only[Q5];omega) (λt=>Gx _ _ t) a with h1|h1
   .exact absurd (by have:=h1 0;rwa[Zu]at this) hx
   .refine .inr λk=>?_
    cases k with
    |zero=>rw[Zu];exact h0
    |succ k=>rw[Q4];exact h1 k
def Prm(b:U8):Prop:=∀d:Int,lD d b->d∣1
theorem Qms{a b:U8}(hb:Prm b):∀(n:Nat) (c:Int) (h:U8),c.natAbs<=n->c≠0->(∀t,(c:Rat)*Gf a t=Gf b t*Gf h t)->∃p,∀t,Gf a t=Gf b t*Gf p t
 | 0,c,h,hn,h0,_=>absurd Fo h0
 |
  n+1,c,h,hn,h0,hc=>by
  rcases Q7 c.natAbs 2 with h1|h1
  .refine⟨G5 h c,λt=>?_⟩;have i:(c:Rat)*c=1:=by
    have:c*c=1:=by
     rcases(show c=1\/c=-1 by omega)with rfl|rfl <;> rfl
    have:=congrArg (λz:Int=>(z:Rat)) this
    push_cast at this;exact this
   rw[Tn];have:=hc t;have:Gf a t=(c:Rat)*((c:Rat)*Gf a t):=by
    have:(c:Rat)*((c:Rat)*Gf a t)=((c:Rat)*c)*Gf a t:=Fu;rw[this,i];grind
   rw[this,hc];grind
  .obtain⟨P,p1,p2,l⟩:=cV c.natAbs c.natAbs (Ql _) h1;obtain⟨d,hd⟩:∃d,c=(P:Int)*d:=Ua.2 p2;have f:lD P (G5 a c):=λk=>by
    rw[Pz,hd];exact Kn (V7 _ _) (Vo _ _)
   have g:(P:Rat)≠0:=by
    have:((0:Nat):Rat)<(P:Rat):=V5.2 Fo;grind
   rcases PC p1 l _ b h (G5 a c) (Ql _) (λt=>by rw[Tn,Up,hc]) f with e|e
   .have:=hb P e;have:=Xv.2 this;rw[Xc]at this;have:=We Fp this;exact absurd this (by show ¬P<=1;omega)
   .refine Qms hb n d (h.map (· / (P:Int))) ?_ (λo=>h0 (by rw[hd,o,Kx])) λt=>?_
    .rw[hd,Yf,Xc]at hn h1;have:2*d.natAbs<=P*d.natAbs:=Qz _ p1;omega
    .have j:Gf h t=(P:Rat)*Gf (h.map (· / (P:Int))) t:=by
      have:=Lv P 0 t (max h.length (h.map (· / (P:Int))).length) (h.map (· / (P:Int))) [] h Fo Ft Fo λk=>by
       have:=e k;have m:(h.map (· / (P:Int))).getD k 0=h.getD k 0 / (P:Int):=by
        rw[Qe,Qe,Q9];cases h[k]? <;> simp
       rw[m,Wp this];simp
      rw[this];simp only[Gf];push_cast;grind
     have:=hc t;rw[hd,j]at this
     push_cast at this
     have h3:(P:Rat)*((d:Rat)*Gf a t)=(P:Rat)*(Gf b t*Gf (h.map (· / (P:Int))) t):=Fu;have h4:=Yo.1 (show(P:Rat)*((d:Rat)*Gf a t-Gf b t*Gf (h.map (· / (P:Int))) t)=0 by grind);rcases h4 with h4|h4
     .exact absurd h4 g
     .grind
theorem yQ:∀u:Fb,∃c:Int,c≠0/\∃h:U8,∀t,(c:Rat)*ev u t=Gf h t
 | []=>⟨1,Fp,[],λt=>by simp only[ev,Gf];grind⟩
 |
  a::u=>by
  obtain⟨c,hc,h,b⟩:=yQ u;refine⟨c*(a.den:Int),Jw hc (by have:=a.den_nz;omega),(c*a.num)::G5 h (a.den:Int),λt=>?_⟩;have e:(a.den:Rat)*a=a.num:=by
   rw[Up];have:(a.num:Rat) / (((a.den:Int)):Rat)=a:=by rw[To,Z9]
   have hd:(a.den:Rat)≠0:=by
    have:((0:Nat):Rat)<(a.den:Rat):=V5.2 a.den_pos;grind
   have h2:(a.num:Rat) / (a.den:Rat)*(a.den:Rat)=a.num:=Zg hd;rw[show(a.num:Rat) / (a.den:Rat)=a from this]at h2;exact h2
  simp only[ev,Gf];rw[Tn,<-b]
  push_cast
  rw[<-e];have d:(((a.den:Int)):Rat)=(a.den:Rat):=rfl;grind
theorem BD{a b:U8}(hb:Prm b)(h:Ee (cz b) (cz a)):∃d,Gg d/\∀t,Gf a t=Gf b t*Gf d t:=by
 obtain⟨u,hu⟩:=h;obtain⟨c,hc,h,f⟩:=yQ u;obtain⟨d,e⟩:=Qms hb c.natAbs c h (Ql _) hc λt=>by
  have:=hu t;rw[Gd,Gd]at this;rw[this,<-f];grind
 exact⟨trim d,Tp _,λt=>by rw[O9,e]⟩
def sd(x0:Rat):Fb->Fb
 | []=>[]
 |_::p=>Ty p (Nq x0 (sd x0 p))
theorem Qmk(b x:Rat):∀p,ev (sd b p) x=dq p x b
 | []=>rfl
 |a::p=>by simp only[sd,dq];rw[Hg,G8,Qmk b x p]
theorem Qax(b:Rat):∀(g:Fb) (n:Nat),(∀j,n<j->g.getD j 0=0)->∀j,n<=j->(sd b g).getD j 0=0
 | [],n,_,j,_=>by simp[sd]
 |
  a::p,0,h,j,_=>by
  have hp:∀j,p.getD j 0=0:=λj=>by have:=h (j+1) Fo;rwa[Q4]at this
  simp only[sd];rw[Tz,Pn,hp,Qax b p 0 (λj _=>hp j) j (Qj _)];grind
 |
  a::p,n+1,h,j,c=>by
  have hp:∀j,n<j->p.getD j 0=0:=λj c=>by have:=h (j+1) Fo;rwa[Q4]at this
  simp only[sd];rw[Tz,Pn,hp j Fo,Qax b p n hp j Fo];grind
theorem iN{K:Rat}(q:0≤K):∀(e:Nat) (g:Fb) (pts:U8) (M:Rat),pts.length=e+1->pts.Nodup->(∀x∈pts,Gw (x:Rat)≤K)->(∀k,e<k->g.getD k 0=0)->(∀x∈pts,Gw (ev g (x:Rat))≤M)->∀k,Gw (g.getD k 0)≤(2*K+3)^e*M
 |_,_,[],_,h,_,_,_,_=>by simp at h
 |
  0,g,b::xs,M,_,_,_,hg,hM=>λk=>by
  have h0:=hM b Ft;rw[Xo];cases k with
  |
   zero =>
   have e:ev g (b:Rat)=g.getD 0 0:=by
    cases g with
    |nil=>rfl
    |
     cons a p =>
     have hp:=An (p:=p) λj=>by have:=hg (j+1) Fo;rwa[Q4]at this
     simp only[ev,hp,Zu];grind
   rw[<-e];grind
  |
   succ k =>
   rw[hg (k+1) Fo,Sl];have:=Tr (ev g (b:Rat));grind
 |
  e+1,g,b::xs,M,hl,hn,hb,hg,hM=>λk=>by
  have i:=hb b Ft;have d:=hM b Ft;have c:0<=M:=Zn (Tr _) d;rw[List.nodup_cons]at hn;have f:=iN q e (sd b g) xs (2*M) (by simpa using hl) hn.2 (λx hx=>hb x (by simp[hx])) (λj z=>Qax _ g (e+1) hg j Fo) λx hx=>by
   have h1:=hM x (by simp[hx]);have h2:=yU (x:Rat) (b:Rat) g;rw[<-Qmk]at h2;have n:x-b≠0:=λh=>hn.1 (by rw[show b=x by omega];exact hx)
   have h3:=GI n;rw[Rat.intCast_sub]at h3;have h4:Gw (ev g (x:Rat)-ev g (b:Rat))<=2*M:=by
    have:=Mj (ev g (x:Rat)) (-ev g (b:Rat));rw[I3,show ev g (x:Rat)+-ev g (b:Rat)=ev g (x:Rat)-ev g (b:Rat) by grind]at this;clear hM hb hg;grind
   rw[h2,I2]at h4;have h5:=Zb h3 (Tr (ev (sd b g) x));clear hM hb hg;grind
  have l:∀t,ev g t=ev (Ty [ev g b] (Ty (Nq (-b) (sd b g)) (0::sd b g))) t:=λt=>by
   have:=yU t (b:Rat) g;rw[<-Qmk]at this;simp only[Hg,G8,ev];grind
  have m:1<=(2*K+3)^e:=(UM (R:=2*K+3) (x:=0) Fu (by rw[Sl];grind) e).2;have r:=Dy (x:=(2*K+3)^e) (y:=M) Fu c;have o:=Zb m c;rw[Xi,Lr l k,Tz,Tz,Pn];have a1:=f k;have a2:Gw (-(b:Rat)*(sd (b:Rat) g).getD k 0)<=K*((2*K+3)^e*(2*M)):=Rw (by rw[I3];exact i) a1;have fin:∀u v w:Rat,Gw u<=M->Gw v<=K*((2*K+3)^e*(2*M))->Gw w<=(2*K+3)^e*(2*M)->Gw (u+(v+w))<=(2*K+3)^e*(2*K+3)*M:=λu v w h1 h2 h3=>by
   have b1:=Mj u (v+w);have s:=Mj v w;clear f l hM hb hg a1 a2;grind
  refine fin _ _ _ ?_ a2 ?_
  .cases k with
   |zero=>rw[Zu];exact d
   |succ k=>rw[Q4,Wc,Sl];exact c
  .cases k with
   |zero=>rw[Zu,Sl];clear f l hM hb hg a1 a2 fin;grind
   |succ k=>rw[Q4];exact f k
theorem Qpj{g:Fb}{e:Nat}(hg:∀k,e<k->g.getD k 0=0)(hz:¬∀t,ev g t=0){pts:U8}(hn:pts.Nodup)(hr:∀x∈pts,ev g (x:Rat)=0):pts.length≤e:=by
 rcases Q7 e pts.length with h|h
 .exfalso;obtain⟨K,a,hb⟩:∃K:Rat,0≤K/\∀x∈pts,Gw (x:Rat)≤K:=by
   clear hn hr h
   induction pts with
   |nil=>exact⟨0,Fp,λx hx=>by cases hx⟩
   |
    cons y pts ih =>
    obtain⟨K,h1,h2⟩:=ih;refine⟨K+Gw (y:Rat),by have:=Tr (y:Rat);grind,λx hx=>?_⟩;have b:=Tr (y:Rat);rcases Qm.1 hx with rfl|hx
    .grind
    .have:=h2 x hx;grind
  refine hz (An λk=>?_);have:=iN a e g (pts.take (e+1)) 0 (by rw[Qt];omega) (hn.sublist (List.take_sublist ..)) (λx hx=>hb x (Qn hx)) hg (λx hx=>by rw[hr x (Qn hx),Sl];exact Qp) k;have h2:=Tr (g.getD k 0);exact Qvg Fu
 .exact h
def spots:U8:=(List.range 19).map λi:Nat=>(i:Int)-9
theorem spots_nd:spots.Nodup:=Fp
theorem dT:∀x∈spots,x.natAbs≤9:=Fp
theorem OS{α:Type}(p:α->Bool):∀l:List α,(l.filter p).length+(l.filter λx => !p x).length=l.length
 | []=>rfl
 |
  x::l=>by
  have:=OS p l;cases h:p x <;> simp[h] <;> omega
def geo:Nat->Nat
 | 0=>0
 |n+1=>1+9*geo n
theorem Qdf{B:Rat}:∀(p:U8),(∀z∈p,Gw (z:Rat)≤B)->mB 9 (cz p)≤B*(geo p.length:Nat)
 | [],_=>by simp only[cz,X8,mB,geo,Xt];rw[show((0:Nat):Rat)=0 from rfl];grind
 |
  a::p,h=>by
  have h1:=Qdf p λz hz=>h z (Qi _ hz)
  have h2:=h a (Qy ..);simp only[cz,Xa,mB,geo,Q5]at *
  push_cast
  clear h;grind
theorem Qm0{m n:Nat}(h:m<=n):geo m<=geo n:=by
 induction h with
 |refl=>exact Ql _
 |step h a=>simp only[geo];omega
def pz:U8->Int->Int
 | [],_=>0
 |a::p,x=>a+x*pz p x
theorem HZ(x:Int):∀p,Gf p (x:Rat)=((pz p x:Int):Rat)
 | []=>rfl
 |a::p=>by simp only[Gf,pz,HZ x p];push_cast;rfl
theorem P9(z:Int):Gw (z:Rat)=((z.natAbs:Nat):Rat):=by
 unfold Gw;rcases Kv z 0 with h|h
 .have h1:(z:Rat)<((0:Int):Rat):=Jc.2 h;rw[if_pos (by simpa using h1)];have:(z.natAbs:Int)=-z:=Fo;have:=congrArg (λu:Int=>(u:Rat)) this
  push_cast at this
  exact this.symm
 .have h1:((0:Int):Rat)<=(z:Rat):=Jt.2 h;have h1:(0:Rat)<=(z:Rat):=by simpa using h1
  rw[if_neg Fu];have:(z.natAbs:Int)=z:=Fo;have:=congrArg (λu:Int=>(u:Rat)) this;exact this.symm
theorem Ex{p g h:U8}{s:Nat}(hp:Bd s p)(hl:p.length<=10)(b:Gg p)(v:Gg g)(y:Gg h)(h0:p.length≠0)(e:∀t,Gf p t=Gf g t*Gf h t):Bd (s+69) g:=by
 have B:0<g.length:=by
  rcases Q0 g.length with e'|e'
  .exact absurd (λt=>by rw[e,Dq e'];grind) (YN b Fo)
  .exact e'
 have A:0<h.length:=by
  rcases Q0 h.length with e'|e'
  .exact absurd (λt=>by rw[e,Dq e'];grind) (YN b Fo)
  .exact e'
 have m:=Sx v y b e B A;obtain⟨q,a⟩:=nmE (spots.filter λx => !decide (pz p x=0));have hr:(spots.filter λx=>decide (pz p x=0)).length<=9:=by
  refine Qpj (g:=cz p) (e:=9) (λk o=>?_) (λh=>YN b Fo λt=>by rw[<-Gd];exact h t) (spots_nd.sublist List.filter_sublist) λx hx=>?_
  .rw[Nh,Qe,Qu Fo];rfl
  .have:=(Y7.1 hx).2;rw[Gd,HZ,of_decide_eq_true this];rfl
 have hc:=OS (λx=>decide (pz p x=0)) spots;rw[<-a]at hc;have u:spots.length=19:=Fp;have w:∀z∈p,Gw (z:Rat)≤((2^s:Nat):Rat):=λz hz=>by
  rw[P9];have:=hp z hz;rw[Pi]at this;exact Zd.2 (Ys this)
 have i:=iN (K:=9) Fp 9 (cz g) (q.take 10) (((2^s*435848050:Nat)):Rat) (by rw[Qt];omega) ((spots_nd.sublist (by rw[a];exact List.filter_sublist)).sublist (List.take_sublist ..)) (λx hx=>by
  have hx:=Qn hx;rw[a]at hx;have:=dT x (Y7.1 hx).1;rw[P9]
  exact_mod_cast Zd.2 this) (λk o=>by rw[Nh,Qe,Qu Fo];rfl) (λx hx=>by
  have hx:=Qn hx;rw[a]at hx;obtain⟨c,f⟩:=Y7.1 hx;have d:pz p x≠0:=by simpa using f
  have j:=e (x:Rat);rw[HZ,HZ,HZ]at j;have l:pz p x=pz g x*pz h x:=by exact_mod_cast j
  have n:1<=(pz h x).natAbs:=by
   rcases Q0 (pz h x).natAbs with e'|e'
   .exact absurd (by rw[l,Int.natAbs_eq_zero.1 e',Kx]) d
   .exact e'
  have h3:(pz g x).natAbs<=(pz p x).natAbs:=by
   rw[l,Yf];exact Yl _ n
  rw[Gd,HZ,P9];refine Zn (Zd.2 h3) ?_;rw[<-P9,<-HZ,<-Gd];refine Zn (BB (R:=9) (by
   have:=dT x c;rw[P9]
   exact_mod_cast Zd.2 this) _) ?_
  refine Zn (Qdf p w) ?_;have:2^s*geo p.length<=2^s*435848050:=Zl _ (Qa (Qm0 hl) Fp);have:=Zd.2 this
  push_cast at this ⊢
  exact this)
 refine AQ λk=>?_
 have h1:=i k;rw[Nh,P9]at h1;have r:(2*(9:Rat)+3)^9*((2^s*435848050:Nat):Rat)=(((794280046581*(2^s*435848050)):Nat):Rat):=by
  rw[show(2*(9:Rat)+3)^9=794280046581 by grind]
  push_cast;rfl
 rw[r]at h1;have h2:=Zd.1 h1;rw[Pi];refine Xe h2 ?_;have:794280046581*(2^s*435848050)=2^s*(794280046581*435848050):=by
  rw[Nat.mul_left_comm]
 rw[this,Xj];exact Nat.mul_lt_mul_of_pos_left Fp (Zz Fp)
theorem mT{l:U8}{d:Int}(h:∀z∈l,d∣z):d∣((S8 l:Nat):Int):=by
 have a:∀(l:U8) (g:Nat),d.natAbs∣g->(∀z∈l,d∣z)->d.natAbs∣l.foldl (λg z=>Nat.gcd g z.natAbs) g:=by
  intro l
  induction l with
  |nil=>exact λg h _=>h
  |cons z l b=>exact λg hg h=>b _ (Nat.dvd_gcd hg (Xv.2 (h z (Qy ..)))) λu hu=>h u (Qi _ hu)
 have:=a l 0 (Nat.dvd_zero _) h;exact Xv.1 (by rw[Xc];exact this)
theorem TF(p:U8)(c:Int)(k:Nat):(p.map (· / c)).getD k 0=p.getD k 0 / c:=by
 rw[Qe,Qe,Q9];cases p[k]? <;> simp
theorem D2(p:U8)(c:Int)(k:Nat):(Ej p c).getD k 0=p.getD k 0 / c:=by
 unfold Ej;rw[E7,TF]
variable{p:U8}{c:Int}
theorem vA(h:∀z∈p,c∣z)(t:Rat):Gf p t=(c:Rat)*Gf (Ej p c) t:=by
 have:=Lv c 0 t (max p.length (Ej p c).length) (Ej p c) [] p Fo Ft Fo λk=>by
  rw[D2];have hd:c∣p.getD k 0:=by
   rw[Qe];cases e:p[k]? with
   |none=>exact Int.dvd_zero _
   |some z=>exact h z (Qc e)
  rw[Wp hd];simp
 rw[this];simp only[Gf];push_cast;grind
theorem ZU(h:c≠0):(c:Rat)≠0:=λe=>h (by exact_mod_cast e)
theorem Iz{q:U8}{c:Rat}(d:Gg p)(tq:Gg q)(hc:c≠0)(h:∀t,Gf p t=c*Gf q t):p.length=q.length:=by
 have b:∀{p q:U8} {c:Rat},Gg p->Gg q->c≠0->(∀t,Gf p t=c*Gf q t)->p.length<=q.length:=λ{p q c} d tq hc h=>by
  rcases Q7 q.length p.length with e|e
  .have h1:=Tg d Fo;have:=Lr (p:=cz p) (q:=Nq c (cz q)) (λt=>by rw[Gd,G8,Gd,h]) (p.length-1);rw[Nh,Pn,Nh,Qe (l:=q),Qu Fo]at this;have:((p.getD (p.length-1) 0:Int):Rat)=0:=by rw[this];simp
   exact absurd (by exact_mod_cast this) h1
  .exact e
 refine Vz (b d tq hc h) (b (c:=1 / c) tq d (λe=>?_) λt=>?_)
 .have:=Zg (a:=1) hc;rw[e]at this;grind
 .rw[h];have:=Zg (a:=1) hc;grind
theorem M6(a:Gg p)(h:p.length≠0):Gg (Gj p)/\(Gj p).length=p.length/\Prm (Gj p)/\0<Gp (Gj p)/\(∀s,Bd s p->Bd s (Gj p))/\Ro p≠0/\∀t,Gf p t=(Ro p:Rat)*Gf (Gj p) t:=by
 have h0:=Qeq a h;have e:Gj p=Ej p (Ro p):=by unfold Gj;rw[if_neg h]
 have h1:=vA (p:=p) (c:=Ro p) SU;have hl:=Iz a (YH p (Ro p)) (ZU h0) h1;have f:0<Py p:=by
  have:=XN a h;unfold Py at this ⊢;omega
 rw[e];refine⟨YH _ _,hl.symm,λd hd=>?_,?_,λs hs=>AZ hs _,h0,h1⟩
 .have h2:∀z∈p,d*Ro p∣z:=λz hz=>by
   obtain⟨i,hi⟩:=Zm.1 hz;have h3:=hd i;rw[D2,Qe,hi]at h3;obtain⟨k,b⟩:=h3;have h4:=SU z hz;refine⟨k,?_⟩;have:z / Ro p*Ro p=z:=Int.ediv_mul_cancel h4;rw[<-this];rw[show z / Ro p=d*k from b,Int.mul_right_comm]
  have h3:=mT h2;have h4:Ro p∣((S8 p:Nat):Int)/\((S8 p:Nat):Int)∣Ro p:=by
   unfold Ro Py;split
   .exact⟨Uv.2 (Wo _),Uu.2 (Wo _)⟩
   .exact⟨Wo _,Wo _⟩
  obtain⟨k,b⟩:=Kn h3 h4.2;refine⟨k,?_⟩;have:Ro p*(d*k)=Ro p*1:=by rw[W6,<-Int.mul_assoc,Kb (Ro p) d,<-b]
  exact(Int.eq_of_mul_eq_mul_left h0 this).symm
 .have h2:Gp (Ej p (Ro p))=Gp p / Ro p:=by unfold Gp;rw[<-hl,D2]
  have h3:Ro p∣Gp p:=SU _ (qK h);have h5:Gp p / Ro p*Ro p=Gp p:=Int.ediv_mul_cancel h3;rw[h2];have g:=Do a h;rcases Ym (Gp p / Ro p) 0 with e1|e1|e1
  .exfalso;by_cases hn:Gp p<0
   .have:Ro p=-Py p:=by unfold Ro;rw[if_pos hn]
    have:0<Gp p / Ro p*Ro p:=Ks e1 Fo;omega
   .have:Ro p=Py p:=by unfold Ro;rw[if_neg hn]
    have:Gp p / Ro p*Ro p<0:=Int.mul_neg_of_neg_of_pos e1 Fo;omega
  .rw[e1]at h5;omega
  .exact e1
theorem bI{r:U8}(tr:Gg r):∃c:Rat,0<c/\∀t,Gf r t=c*Gf (QQ r) t:=by
 unfold QQ;by_cases h:r.length=0
 .rw[if_pos h];exact⟨1,Fp,λt=>by rw[Dq h,Dq rfl];grind⟩
 .rw[if_neg h];have h1:0<Py r:=by
   have:=XN tr h;unfold Py at this ⊢;omega
  have h2:((0:Int):Rat)<(Py r:Rat):=Jc.2 h1;exact⟨Py r,by simpa using h2,vA Oc⟩
theorem XC(x:Int)(t:Rat):∀i,Gf (mono i x) t=(x:Rat)*t^i
 | 0=>by simp only[mono,Wz,Jn,Gf,Xo];grind
 |
  i+1=>by
  have a:=XC x t i;simp only[mono,J4,Xg,Gf]at *;rw[a,Xi];push_cast;grind
theorem gX(x:Int)(b:U8)(i k:Nat):(Hb (trim (mono i x)) b).getD k 0=if i<=k then x*b.getD (k-i) 0 else 0:=by
 have e:∀t,Gf (Hb (trim (mono i x)) b) t=Gf (List.replicate i 0++b.map (x * ·)) t:=λt=>by
  rw[Gx,O9,XC];have h2:∀i,Gf (List.replicate i 0++b.map (x * ·)) t=t^i*((x:Rat)*Gf b t):=λi=>by
   induction i with
   |
    zero =>
    simp only[Wz,Jn,Xo];have:=Lv x 0 t (max b.length (b.map (x * ·)).length) b [] (b.map (x * ·)) Fo Ft Fo λk=>by
     rw[Qe,Qe,Q9];cases b[k]? <;> simp
    rw[this];simp only[Gf];push_cast;grind
   |succ i a=>simp only[J4,Xg,Gf,a,Xi];push_cast;grind
  rw[h2];grind
 rw[Lu e k,Qe,List.getElem?_append,Ji];by_cases h:i<=k
 .rw[if_neg Fo,if_pos h,Q9,Qe];cases b[k-i]? <;> simp
 .rw[if_pos Fo,if_neg h,Yj,if_pos Fo];rfl
theorem fP{n:Nat}(a:Gg p)(h:p.length<=n+1)(h0:p.getD n 0=0):p.length<=n:=by
 rcases Q7 n p.length with e|e
 .have:=Tg a Fo;rw[show p.length-1=n by omega]at this;exact absurd h0 this
 .exact e
theorem Qwb{b r:U8}{i:Nat}(tr:Gg r)(h:r.length<=b.length+i)(hb:b.length≠0){x:Int}(hx:x=if r.length=b.length+i then Gp r else 0):(str b (Gp b) i x r).length<b.length+i:=by
 have hl:=fN (c:=Gp b) (x:=x) (i:=i) (b:=b) (r:=r);have:=fP (p:=str b (Gp b) i x r) (n:=b.length+i-1) (Gs _ _) Fo (by
  unfold str;rw[E6,Pz,gX,if_pos Fo,hx,show b.length+i-1-i=b.length-1 by omega]
  split
  .rename_i he;unfold Gp;rw[he,Int.sub_eq_zero]
  .rw[Qe (l:=r),Qu Fo];simp)
 omega
theorem Qqf(b r:U8)(c:Int)(i:Nat)(x:Int)(t:Rat):(c:Rat)*Gf r t=(x:Rat)*t^i*Gf b t+Gf (str b c i x r) t:=by
 unfold str;rw[Bs,Tn,Gx,O9,XC];grind
theorem Qo2(b:U8)(c:Int):∀(i:Nat) (q r:U8),∃X:Fb,∀t,((c^i:Int):Rat)*Gf r t=ev X t*Gf b t+Gf (cF b c i (q,r)).2 t
 | 0,q,r=>⟨[],λt=>by simp only[cF,ev];rw[Ui];push_cast;grind⟩
 |
  i+1,q,r=>by
  obtain⟨x,hx⟩:=nmE (if r.length=b.length+i then Gp r else 0);obtain⟨X,a⟩:=Qo2 b c i (stq c i x q) (str b c i x r);obtain⟨m,hm⟩:∃m:Fb,∀t,ev m t=(x:Rat)*t^i:=⟨cz (mono i x),λt=>by rw[Gd,XC]⟩;refine⟨Ty (Nq ((c^i:Int):Rat) m) X,λt=>?_⟩;rw[WJ hx,Hg,G8,hm];have h1:=a t;have h2:=Qqf b r c i x t;rw[Uh]
  push_cast at h1 ⊢
  have:(c:Rat)^i*c*Gf r t=(c:Rat)^i*((c:Rat)*Gf r t):=Fu;rw[this,h2];grind
theorem rP{b:U8}(hb:b.length≠0):∀(i:Nat) (q r:U8),Gg r->r.length<b.length+i->Gg (cF b (Gp b) i (q,r)).2/\(cF b (Gp b) i (q,r)).2.length<b.length
 | 0,q,r,tr,h=>⟨tr,h⟩
 |
  i+1,q,r,tr,h=>by
  rw[WJ rfl];exact rP hb i _ _ (Gs _ _) (Qwb tr Fo hb rfl)
theorem Qo1{b:U8}{c:Int}{t:Nat}(hb:Bd t b)(hc:Gm c<=t):∀(i u:Nat) (q r:U8),i<=64->Bd u r->Bd (u+i*(t+8)) (cF b c i (q,r)).2
 | 0,u,q,r,_,h=>by simpa[cF]using h
 |
  i+1,u,q,r,hi,h=>by
  rw[WJ rfl];have hx:Gm (if r.length=b.length+i then Gp r else 0)<=u:=by
   split
   .exact Nn h
   .rw[C0];exact Qj _
  have:=Qo1 hb hc i (u+t+8) (stq c i (if r.length=b.length+i then Gp r else 0) q) (str b c i (if r.length=b.length+i then Gp r else 0) r) Fo (eW h hb hc hx Fo);exact Fz this (by rw[Xh];omega)
theorem zK{c:Int}(h:c<0):∀k:Nat,(k % 2=1->c^k<0)/\(k % 2=0->0<c^k)
 | 0=>⟨λh=>Fo,λ_=>by rw[Ui];decide⟩
 |
  k+1=>by
  obtain⟨i1,i2⟩:=zK h k;rw[Uh];exact⟨λa=>Vl (i2 Fo) h,λa=>Ks (i1 Fo) h⟩
theorem SD{a b:U8}(ta:Gg a)(tb:Gg b)(hb:b.length≠0)(hl:a.length<=60):Gg (Rz a b)/\(Rz a b).length<b.length/\(∀s,Bd s a->Bd s b->Bd (s+(a.length+1-b.length)*(s+8)) (Rz a b)) /\
 ∃u v:Rat,0<u/\0<v/\∃X:Fb,∀t,u*Gf a t=ev X t*Gf b t+v*Gf (Rz a b) t:=by
 obtain⟨k,d⟩:=nmE (a.length+1-b.length);have h1:Gg (Bb a b)/\(Bb a b).length<b.length:=rP hb _ _ _ ta Fo;obtain⟨X,j⟩:=Qo2 b (Gp b) k [] a;have j:∀t,(((Gp b)^k:Int):Rat)*Gf a t=ev X t*Gf b t+Gf (Bb a b) t:=by unfold Bb;rw[<-d];exact j
 have h2:=SS (a:=a) (b:=b) (r:=Bb a b) (n:=(Bb a b).length) (s:=(Bb a b).foldl (λm z=>m+Gm z) 0) h1.1 (Ql _) (λz hz=>by
  have p:∀(l:U8) (m:Nat),m≤l.foldl (λm z=>m+Gm z) m/\∀z∈l,Gm z≤l.foldl (λm z=>m+Gm z) m:=by
   intro l
   induction l with
   |nil=>exact λm=>⟨Ql _,λz hz=>by cases hz⟩
   |
    cons y l ih =>
    intro m;obtain⟨i1,i2⟩:=ih (m+Gm y);refine⟨by simp only[Xn];omega,λz hz=>?_⟩;simp only[Xn];rcases Qm.1 hz with rfl|hz
    .omega
    .exact i2 z hz
  exact(p _ 0).2 z hz)
 have h3:=zX (r:=Ck a b (Bb a b)) (n:=(Bb a b).length) h2.2.1 h2.2.2;refine⟨h3.1,by unfold Rz;omega,λs ha g=>?_,?_⟩
 .have h4:=Qo1 (c:=Gp b) g (Nn g) k s [] a Fo ha;have h5:=SS (a:=a) (b:=b) (n:=(Bb a b).length) h1.1 (Nat.le_refl _) (show Bd (s+k*(s+8)) (Bb a b) by unfold Bb;rw[<-d];exact h4);rw[<-d];exact(zX h5.2.1 h5.2.2).2.2
 .obtain⟨v,q,hv⟩:=bI h2.1;have hc:=Do tb hb;by_cases ht:k % 2=1/\Gp b<0
  .have i:Ck a b (Bb a b)=Bt (Bb a b):=by unfold Ck;rw[<-d,if_pos ht]
   have f:(Gp b)^k<0:=(zK ht.2 k).1 ht.1;have h5:(((Gp b)^k:Int):Rat)<((0:Int):Rat):=Jc.2 f;have h5:(((Gp b)^k:Int):Rat)<0:=by simpa using h5
   refine⟨-(((Gp b)^k:Int):Rat),v,Fu,q,Nq (-1) X,λt=>?_⟩;have w:=j t;have o:=hv t;rw[i,SK]at o;show _=_+v*Gf (QQ (Ck a b (Bb a b))) t;rw[i,<-o,G8];grind
  .have i:Ck a b (Bb a b)=Bb a b:=by unfold Ck;rw[<-d,if_neg ht]
   have e:0<(Gp b)^k:=by
    rcases Kw hc with h|h
    .exact(zK h k).2 Fo
    .exact Int.pow_pos h
   have h5:((0:Int):Rat)<(((Gp b)^k:Int):Rat):=Jc.2 e;refine⟨(((Gp b)^k:Int):Rat),v,by simpa using h5,q,X,λt=>?_⟩;have o:=hv t;show _=_+v*Gf (QQ (Ck a b (Bb a b))) t;rw[<-o,i,j]
theorem Oo{p:U8}(h1:p.length<=64)(h2:Bd 16777216 p):xF p=some p:=by
 unfold xF;rw[if_pos ⟨h1,Ya.2 λz hz=>Nat.ble_eq_true_of_le (h2 z hz)⟩]
variable{a b:U8}
theorem I7{g:Fb}{c:Rat}(hc:c≠0)(h:∀t,Gf a t=c*Gf b t):Ee g (cz a)↔Ee g (cz b):=by
 constructor
 .rintro⟨u,hu⟩
  refine⟨Nq (1 / c) u,λt=>?_⟩;have h1:=hu t;rw[Gd,h]at h1;rw[Gd,G8];have h2:1 / c*c=1:=Zg hc;have:Gf b t=1 / c*(c*Gf b t):=Fu;rw[this,h1];grind
 .rintro⟨u,hu⟩
  refine⟨Nq c u,λt=>?_⟩;have h1:=hu t;rw[Gd]at h1;rw[Gd,G8,h,h1];grind
structure Gc(g a b:List Int):Prop where
 t:Gg g
 da:Ee (cz g) (cz a)
 db:Ee (cz g) (cz b)
 c:∃U V,∀t,Gf g t=ev U t*Gf a t+ev V t*Gf b t
 n:g.length≠0
theorem Gc.scale{g d k b':U8}{x y z:Rat}(h:Gc g a b)(hx:x≠0)(l:y≠0)(hz:z≠0)(j:Gg d)(e:∀t,Gf g t=x*Gf d t)(i:∀t,Gf k t=y*Gf a t)(f:∀t,Gf b' t=z*Gf b t):Gc d k b':=by
 have m:1 / x*x=1:=Zg hx;have p:1 / y*y=1:=Zg l;have o:1 / z*z=1:=Zg hz;have hg:∀c,Ee (cz g) c->Ee (cz d) c:=λc ⟨u,hu⟩=>⟨Nq x u,λt=>by rw[hu,Gd,Gd,e,G8];grind⟩
 obtain⟨U,V,hc⟩:=h.c;refine⟨j,hg _ ((I7 l i).2 h.da),hg _ ((I7 hz f).2 h.db),⟨Nq (1 / x*(1 / y)) U,Nq (1 / x*(1 / z)) V,λt=>?_⟩,?_⟩
 .have h1:=hc t;have h2:Gf d t=1 / x*Gf g t:=by rw[e];grind
  rw[h2,h1,G8,G8,i,f];generalize ev U t=u at *;generalize ev V t=v at *;grind
 .rw[<-Iz h.t j hx e];exact h.n
theorem Qu7:∀d:Nat,1<=d->d+2<=3^d
 | 0,h=>Fo
 | 1,_=>Fp
 |d+2,_=>by have:=Qu7 (d+1) Fo;rw[Zq];omega
variable{k:Nat}
theorem lV(ta:Gg a)(tb:Gg b)(hb:b.length≠0)(hl:a.length<=60)(hbl:b.length<=60)(hr:Bd 16777216 (Rz a b))(j:∃g,BX k b (Rz a b)=some g/\Gc g b (Rz a b)):∃g,BX (k+1) a b=some g/\Gc g a b:=by
 obtain⟨h1,h2,h3,u,v,up,i,X,f⟩:=SD ta tb hb hl;obtain⟨g,e,hg⟩:=j;refine⟨g,?_,?_⟩
 .simp only[BX];rw[if_neg hb,Oo Fo hr];exact e
 .obtain⟨U,V,hc⟩:=hg.c;obtain⟨y,h⟩:=hg.da;obtain⟨z,hz⟩:=hg.db;have hu:1 / u*u=1:=Hq up;have hv:1 / v*v=1:=Hq i;refine⟨hg.t,⟨Nq (1 / u) (Ty (Hz X y) (Nq v z)),λt=>?_⟩,hg.da,⟨Nq (u / v) V,Ty U (Nq (-1 / v) (Hz V X)),λt=>?_⟩,hg.n⟩
  .have a1:=f t;have a2:=h t;have d:=hz t;rw[Gd,Gd]at a2 d;rw[Gd,Gd,G8,Hg,Gl,G8];have:Gf a t=1 / u*(u*Gf a t):=Fu;rw[this,a1,a2,d];grind
  .have a1:=f t;have a2:=hc t;rw[G8,Hg,G8,Gl,a2];have:Gf (Rz a b) t=1 / v*(v*Gf (Rz a b) t):=Fu;rw[this,show v*Gf (Rz a b) t=u*Gf a t-ev X t*Gf b t by grind,Yw,Yw,Yw];grind
theorem Qfl(ta:Gg a)(ha:a.length≠0):∃g,BX (k+1) a []=some g/\Gc g a [] :=
 ⟨a,rfl,ta,dvd_refl _,⟨[],λt=>by simp only[cz,X8,ev];grind⟩,⟨[1],[],λt=>by rw[S7];simp only[ev];grind⟩,ha⟩
theorem BJ{s:Nat}:∀(k:Nat) (a b:U8),Gg a->Gg b->b.length<k->b.length<a.length->a.length<=60->Bd s a->Bd s b->(s+8)*3^(a.length-1)<=16777216->∃g,BX k a b=some g/\Gc g a b
 | 0,_,_,_,_,h,_,_,_,_,_=>Fo
 |
  k+1,a,b,ta,tb,hk,hab,hl,ba,bb,hs=>by
  by_cases hb:b.length=0
  .rw[Qg hb];exact Qfl ta Fo
  .obtain⟨h1,h2,h3,_⟩:=SD ta tb hb hl;have h3:=h3 s ba bb;obtain⟨m,hm⟩:=nmE (a.length-b.length);have d:a.length+1-b.length=m+1:=Fo;rw[d]at h3;have c:s+(m+1)*(s+8)+8=(m+2)*(s+8):=by
    rw[show m+2=(m+1)+1 by omega,Xh (m+1)];omega
   have f:(m+2)*(s+8)*3^(b.length-1)<=(s+8)*3^(a.length-1):=by
    rw[show a.length-1=m+(b.length-1) by omega,Xj,<-Xy,Zt (s+8)];exact Qz _ (Qz _ (Qu7 m Fo))
   have e:s+(m+1)*(s+8)<=16777216:=by
    have:(m+2)*(s+8)<=(m+2)*(s+8)*3^(b.length-1):=Yl _ (Zz Fp);omega
   refine lV ta tb hb hl Fo (Fz h3 e) (BJ (s:=s+(m+1)*(s+8)) k b (Rz a b) tb h1 Fo h2 Fo (Fz bb Fo) h3 ?_);rw[c];omega
def Szz(n s:Nat):Prop:=n<=10/\2*(s+8)*3^(n-1)<=16777216
theorem Qqo{n s:Nat}(hz:Szz n s)(ta:Gg a)(tb:Gg b)(la:a.length<=n)(lb:b.length<=n)(c:Bd s a)(bb:Bd s b)(h0:a.length≠0\/b.length≠0):∃g,BX 66 a b=some g/\Gc g a b:=by
 obtain⟨hn,hz⟩:=hz;have hp:∀l,l<=n->(s+8)*3^(l-1)<=8388608:=λl hl=>by
  have:(s+8)*3^(l-1)<=(s+8)*3^(n-1):=Zl _ (Zp Fp Fo);rw[Xy]at hz;omega
 rcases Q7 b.length a.length with h|h
 .exact BJ 66 a b ta tb Fo h Fo c bb (by have:=hp a.length la;omega)
 .by_cases hb:b.length=0
  .rw[Qg hb];exact Qfl ta Fo
  .obtain⟨h1,h2,h3,_⟩:=SD ta tb hb Fo;have h3:=h3 s c bb;have h4:(a.length+1-b.length)*(s+8)<=1*(s+8):=Qz _ Fo;have h5:=hp b.length lb;have d:(s+8)*1<=(s+8)*3^(b.length-1):=Zl _ (Zz Fp);refine lV ta tb hb Fo Fo (Fz h3 Fo) (BJ (s:=2*s+8) 65 b (Rz a b) tb h1 Fo h2 Fo (Fz bb Fo) (Fz h3 Fo) ?_);rw[show 2*s+8+8=2*(s+8) by omega,Xy];omega
theorem kK:Gj []=[]:=rfl
theorem Ly(ta:Gg a):Gg (Gj a)/\(Gj a).length=a.length/\(∀s,Bd s a->Bd s (Gj a))/\∃c:Rat,c≠0/\∀t,Gf a t=c*Gf (Gj a) t:=by
 by_cases h:a.length=0
 .rw[Qg h];exact⟨rfl,rfl,λs _=>Om,1,Fp,λt=>by rw[kK];grind⟩
 .obtain⟨h1,h2,h3,h4,h5,b,d⟩:=M6 ta h;exact⟨h1,h2,h5,_,ZU b,d⟩
theorem HN{n s:Nat}(hz:Szz n s)(ta:Gg a)(tb:Gg b)(la:a.length<=n)(lb:b.length<=n)(d:Bd s a)(bb:Bd s b)(h0:a.length≠0\/b.length≠0):∃g,XI a b=some g/\Gc g a b/\Prm g/\0<Gp g:=by
 obtain⟨a1,a2,f,x,xn,ax⟩:=Ly ta;obtain⟨b1,r,m,y,h,c⟩:=Ly tb;obtain⟨g,e,hg⟩:=Qqo hz a1 b1 Fo Fo (f s d) (m s bb) Fo;obtain⟨i,q,o,j,p,k,l⟩:=M6 hg.t hg.n;refine⟨Gj g,?_,hg.scale (ZU k) xn h i l ax c,o,j⟩;unfold XI;rw[e];rfl
theorem Qik(ta:Gg a):XI [] a=some (Gj (Gj a)):=by
 unfold XI;rw[kK];by_cases h:(Gj a).length=0
 .have e:Gj a=[]:=Qg h;rw[e];rfl
 .have e:Rz [] (Gj a)=[]:=by
   have b:Bb [] (Gj a)=[]:=by unfold Bb;rw[show([]:U8).length+1-(Gj a).length=0 by simp;omega];rfl
   unfold Rz;rw[b];unfold Ck
   split <;> rfl
  have:BX 66 [] (Gj a)=some (Gj a):=by
   show(if (Gj a).length=0 then _ else _)=_;rw[if_neg h,e];rfl
  rw[this];rfl
theorem iR{n s:Nat}(hz:Szz n s)(ta:Gg a)(tb:Gg b)(la:a.length<=n)(lb:b.length<=n)(d:Bd s a)(bb:Bd s b)(h0:a.length≠0):∃g,rH a b=some g/\Gc g a b/\Prm g/\0<Gp g:=by
 obtain⟨a1,a2,f,x,xn,ax⟩:=Ly ta;obtain⟨b1,k,j,y,i,c⟩:=Ly a1;obtain⟨g,e,hg,h1,h2⟩:=HN hz b1 tb Fo lb (j s (f s d)) bb Fo;refine⟨g,?_,hg.scale (x:=1) (y:=x*y) (z:=1) Fp (λh=>(Yo.1 h).elim xn i) Fp hg.t (λt=>Fu) (λt=>by rw[ax,c];grind) (λt=>Fu),h1,h2⟩;unfold rH;rw[Qik ta];exact e
theorem Qfi:∀{p q:Fb} {m n:Nat},HD p m->HD q n->(Hz p q).getD (m+n) 0=p.getD m 0*q.getD n 0
 | [],q,m,n,h,_=>absurd Ft h.1
 |
  a::p,q,0,n,h,h'=>by
  have h1:∀k,p.getD k 0=0:=λk=>by have:=h.2 (k+1) Fo;rwa[Q4]at this
  simp only[Hz];rw[Tz,Pn,Zu,Zw];cases n with
  |zero=>rw[Zu];grind
  |succ n=>rw[Q4,CQ h1];grind
 |
  a::p,q,m+1,n,h,h'=>by
  have b:=Qfi (p:=p) (q:=q) (m:=m) ⟨by have:=h.1;rwa[Q4]at this,λk c=>by have:=h.2 (k+1) Fo;rwa[Q4]at this⟩ h';simp only[Hz];rw[Tz,Pn,show m+1+n=(m+n)+1 by omega,Q4,h'.2 _ Fo,b,Q4];grind
theorem KW{c:U8}(ta:Gg a)(tb:Gg b)(tc:Gg c)(h:∀t,Gf c t=Gf a t*Gf b t)(la:0<a.length)(lb:0<b.length):Gp c=Gp a*Gp b:=by
 have h1:=FP ta la;have h2:=FP tb lb;have h3:=Qfi h1 h2;have hl:=Sx ta tb tc h la lb;rw[<-Lr (p:=cz c) (λt=>by rw[Gl,Gd,Gd,Gd,h]),Nh,Nh,Nh,show a.length-1+(b.length-1)=c.length-1 by omega]at h3;unfold Gp;exact_mod_cast h3
theorem Rv{c:U8}(tc:Gg c)(hc:c.length≠0)(h:∀t,Gf c t=Gf a t*Gf b t):0<a.length/\0<b.length:=by
 constructor
 .rcases Q0 a.length with e|e
  .exact absurd (λt=>by rw[h,Dq e];grind) (YN tc Fo)
  .exact e
 .rcases Q0 b.length with e|e
  .exact absurd (λt=>by rw[h,Dq e];grind) (YN tc Fo)
  .exact e
theorem rG{b:U8}(tb:Gg b)(hb:b.length≠0):∀(i:Nat) (a q h:U8),Gg a->Gg h->(∀t,Gf a t=Gf b t*Gf h t)->a.length<b.length+i->i<=q.length->(∀j,j<i->q.getD j 0=0)->∃f,rF b i a q=some f/\f.length=q.length/\∀t,Gf f t=Gf q t+Gf h t
 |
  0,a,q,h,ta,th,e,hl,_,_=>by
  have ha:a.length=0:=by
   rcases Q0 a.length with e'|e'
   .exact e'
   .obtain⟨p1,p2⟩:=Rv ta Fo e;have:=Sx tb th ta e p1 p2;omega
  refine⟨q,by simp only[rF];rw[if_pos ha],rfl,λt=>?_⟩;have:∀t,Gf h t=0:=λt=>by
   have:=IT (p:=cz b) (q:=cz h) (r:=[]) (λh0=>YN tb Fo λt=>by rw[<-Gd];exact h0 t) (λt=>by rw[Gd,Gd,<-e,Dq ha];simp only[ev];grind) t;rwa[Gd]at this
  rw[this];grind
 |
  i+1,a,q,h,ta,th,e,hl,hq,h0=>by
  simp only[rF];by_cases c:a.length<b.length+i
  .rw[if_pos c];exact rG tb hb i a q h ta th e c Fo λj s=>h0 j Fo
  .rw[if_neg c];obtain⟨p1,p2⟩:=Rv ta Fo e;have m:=Sx tb th ta e p1 p2;have d:=KW tb th ta e p1 p2;have g:=Do tb hb;rw[d,if_pos (Int.mul_emod_right _ _),Jf _ g];have l:h.length=i+1:=Fo;have o:∀t,Gf (Mh a (Hb (trim (mono i (Gp h))) b)) t=Gf b t*Gf (Mh h (mono i (Gp h))) t:=λt=>by
    rw[Bs,Bs,Gx,O9,e];grind
   have k:(Mh a (Hb (trim (mono i (Gp h))) b)).length<b.length+i:=by
    have hl:=Qd4 (i:=i) (x:=Gp h) (b:=b) (a:=a);unfold sta at hl;have:=fP (p:=Mh a (Hb (trim (mono i (Gp h))) b)) (n:=b.length+i-1) (Gs _ _) Fo (by
     rw[E6,gX,if_pos Fo,show b.length+i-1-i=b.length-1 by omega,show b.length+i-1=a.length-1 by omega];have:Gp a=a.getD (a.length-1) 0:=rfl;rw[<-this,d];unfold Gp;rw[Kb,Int.sub_eq_zero])
    omega
   obtain⟨f,h1,h2,h3⟩:=rG tb hb i _ (q.set i (Gp h)) (Mh h (mono i (Gp h))) (Gs _ _) (Gs _ _) o k Fq λj s=>by
    rw[Qe,Ju,if_neg Fo,<-Qe];exact h0 j Fo
   refine⟨f,h1,by rw[h2,Xd],λt=>?_⟩;rw[h3,rU q i _ t Fo,h0 i Fo,Bs,XC]
   push_cast;grind
theorem Qpb{h:U8}{s:Nat}(ta:Gg a)(tb:Gg b)(c:Gg h)(ha:a.length≠0)(la:a.length<=10)(d:Bd s a)(hs:s+69<=16777216)(e:∀t,Gf a t=Gf b t*Gf h t):XA a b=some h:=by
 obtain⟨p1,p2⟩:=Rv ta ha e;have f:=Sx tb c ta e p1 p2;obtain⟨q,h1,h2,h3⟩:=rG tb Fo (a.length+1-b.length) a (List.replicate (a.length+1-b.length) 0) h ta c e Fo Ft λj _=>Tw _ _
 have h4:trim q=h:=UT (Tp _) c λt=>by rw[O9,h3,vO];grind
 unfold XA;rw[if_neg Fo,h1];show xF (trim q)=_;rw[h4];exact Oo Fo (Fz (Ex d la ta c tb ha λt=>by rw[e];grind) Fo)
structure Pr1(p:List Int):Prop where
 t:Gg p
 m:Prm p
 l:0<Gp p
variable{p:U8}
theorem Pr1.n(h:Pr1 p):p.length≠0:=λe=>by
 have:=h.l;rw[Qg e]at this;exact absurd this Fp
theorem Qhz(a:Gg p)(h:p.length≠0):Pr1 (Gj p):=by
 obtain⟨h1,h2,h3,h4,_⟩:=M6 a h;exact⟨h1,h3,h4⟩
theorem Pr1.one{p:U8}(h:Pr1 p)(hl:p.length<2):p=[1]:=by
 have hn:=h.n;obtain⟨c,rfl⟩:∃c,p=[c]:=V3.1 Fo;have h1:=h.m c λk=>by cases k <;> simp
 have h2:0<c:=h.l;have:=Int.le_of_dvd Fp h1;rw[show c=1 by omega]
variable{g:U8}
theorem Qew{h:U8}(hp:Prm p)(e:∀t,Gf p t=Gf g t*Gf h t):Prm h:=λd hd=>by
 refine hp d λk=>?_
 have:=Lu (p:=p) (q:=Hb g h) (λt=>by rw[e,Gx]) k;rw[this];have a:∀t,Gf (Hb g h) t=(d:Rat)*Gf (Hb g (h.map (· / d))) t:=λt=>by
  have h1:Gf h t=(d:Rat)*Gf (h.map (· / d)) t:=by
   have:=Lv d 0 t (max h.length (h.map (· / d)).length) (h.map (· / d)) [] h Fo Ft Fo λk=>by
    rw[TF,Wp (hd k)];simp
   rw[this];simp only[Gf];push_cast;grind
  rw[Gx,Gx,h1];grind
 have:=Lu (p:=Hb g h) (q:=G5 (Hb g (h.map (· / d))) d) (λt=>by rw[a,Tn];grind) k;rw[this,Pz];exact Vo _ _
theorem Qeu{h:U8}(hp:Pr1 p)(hg:0<Gp g)(b:Gg g)(a:Gg h)(e:∀t,Gf p t=Gf g t*Gf h t):Pr1 h:=by
 obtain⟨p1,p2⟩:=Rv hp.t hp.n e;have:=KW b a hp.t e p1 p2;refine⟨a,Qew hp.m e,?_⟩;have hl:=hp.l;rw[this]at hl;rcases Ym (Gp h) 0 with h1|h1|h1
 .have:=Vl hg h1;omega
 .rw[h1]at hl;omega
 .exact h1
structure Sqp(p g q:List Int):Prop where
 pp:Pr1 p
 pg:Pr1 g
 pq:Pr1 q
 e:∀t,Gf p t=Gf g t*Gf q t
 c:∃U V,∀t,Gf g t=ev U t*Gf p t+ev V t*dv (cz p) t
 d:∃z,∀t,dv (cz p) t=Gf g t*ev z t
theorem Sqp.num{q:U8}(h:Sqp p g q){d:Fb}(h1:Ee d (cz q))(h2:Ee d (Cv (cz q))):∃c:Rat,c≠0/\∀t,ev d t=c:=by
 obtain⟨U,V,hc⟩:=h.c;have b:=sqf (k:=1) (a:=cz p) (g:=cz g) (q:=cz q) (d:=d) (U:=U) (V:=V) Fp (λt=>by rw[Gd,Gd,Gd,h.e]) (λt=>by rw[Gd,Gd,hc];grind) h1 h2;rcases BO d with h3|⟨m,_,h3⟩
 .obtain⟨u,hu⟩:=h1;exact absurd (λt=>by rw[<-Gd,hu,h3];grind) (YN h.pq.t (by have:=h.pq.n;omega))
 .obtain rfl:=kV h3 (FP h.pg.t (by have:=h.pg.n;omega)) b;refine⟨d.getD 0 0,h3.1,λt=>?_⟩;cases d with
  |nil=>exact absurd Ft h3.1
  |
   cons c l =>
   have:=An (p:=l) λk=>by have:=h3.2 (k+1) Fo;rwa[Q4]at this
   simp only[ev,this,Zu];grind
theorem Sqp.bez{q:U8}(h:Sqp p g q):∃X Y,∀t,ev X t*ev (cz q) t+ev Y t*dv (cz q) t=1:=by
 obtain⟨d,U,V,h1,h2,h3⟩:=Qmy (cz q) (Cv (cz q));obtain⟨c,hc,hd⟩:=h.num h1 h2;refine⟨Nq (1 / c) U,Nq (1 / c) V,λt=>?_⟩;have h5:=h3 t;rw[hd,Si]at h5;have h4:1 / c*c=1:=Zg hc;rw[G8,G8];have:1 / c*ev U t*ev (cz q) t+1 / c*ev V t*dv (cz q) t=1 / c*(ev U t*ev (cz q) t+ev V t*dv (cz q) t):=Fu;rw[this,<-h5,h4]
variable{s:Nat}
theorem Q10{n s':Nat}(h:Szz n s)(hs:s'<=s):Szz n s':=⟨h.1,Qa (Qz _ Fo) h.2⟩
theorem Qff{n:Nat}(h:Szz n s):s<=8388600:=by
 have:2*(s+8)*1<=2*(s+8)*3^(n-1):=Zl _ (Zz Fp);have:=h.2;omega
theorem PE(h:Bd s p)(hl:p.length<=10):Bd (s+4) (Hh p):=LX h (t:=4) Fo
theorem tJ{n:Nat}(hz:Szz n (s+73))(pp:Pr1 p)(l2:2<=p.length)(lp:p.length<=n)(f:Bd (s+69) p){p0 h0:U8}(b0:Bd s p0)(l0:p0.length<=10)(w:Gg p0)(u:Gg h0)(v:p0.length≠0)(y:∀t,Gf p0 t=Gf h0 t*Gf p t):
 ∃g q,xF (Hh p)=some (Hh p)/\XI p (Hh p)=some g/\XA p g=some q/\Sqp p g q/\g.length<p.length:=by
 have hn:=hz.1;have hs:=Qff hz;have bd:=PE f Fo;have x:=P7 p;have b:Gg (Hh p):=Gs _ _;obtain⟨g,r,hg,m,l⟩:=HN hz pp.t b lp Fo (Fz f Fo) bd (.inl pp.n);obtain⟨q,tq,e⟩:=BD m hg.da;have a:(Hh p).length≠0:=λh=>by
  have h1:=M4 p (p.length-2);rw[Qg h,show p.length-2+1=p.length-1 by omega]at h1;have h2:p.getD (p.length-1) 0≠0:=Tg pp.t Fo;rcases J5.1 (h1.symm.trans Ft)with h3|h3
  .exact h2 h3
  .omega
 have pg:Pr1 g:=⟨hg.t,m,l⟩;have d:=Qpb (s:=s+69) pp.t hg.t tq pp.n Fo f Fo e;refine⟨g,q,Oo Fo (Fz bd Fo),r,d,⟨pp,pg,Qeu pp l hg.t tq e,e,?_,?_⟩,?_⟩
 .obtain⟨U,V,hc⟩:=hg.c;exact⟨U,V,λt=>by rw[hc,C6]⟩
 .obtain⟨z,hz⟩:=hg.db;exact⟨z,λt=>by rw[<-C6,<-Gd,hz,Gd]⟩
 .obtain⟨z,j,i⟩:=BD m hg.db;obtain⟨k,o⟩:=Rv b a i;have:=Sx hg.t j b i k o;omega
theorem one_sqp:Sqp [1] [1] [1]:=by
 have p1:Pr1 [1]:=⟨rfl,λd hd=>by have:=hd 0;rwa[Zu]at this,Fp⟩;have a:∀t,Gf [1] t=1:=λt=>by simp only[Gf];push_cast;grind
 exact⟨p1,p1,p1,λt=>by rw[a];grind,⟨[1],[],λt=>by rw[a,S7];simp only[ev];grind⟩,⟨[],λt=>by simp only[cz,Xa,X8,dv,ev];grind⟩⟩
structure Okp(n s:Nat)(p:List Int):Prop where
 z:Szz n (s+73)
 t:Gg p
 nz:p.length≠0
 l:p.length<=n
 b:Bd s p
theorem Okp.pr{n:Nat}(h:Okp n s p):Pr1 (Gj p)/\(Gj p).length=p.length/\Bd s (Gj p):=by
 obtain⟨h1,h2,h3,h4,h5,_⟩:=M6 h.t h.nz;exact⟨⟨h1,h3,h4⟩,h2,h5 s h.b⟩
theorem Oh{n:Nat}(h:Okp n s p):∃g q,Ma p=some q/\Sqp (Gj p) g q:=by
 obtain⟨pp,hl,hb⟩:=h.pr;have hn:=h.z.1;have:=h.l;unfold Ma;by_cases h2:(Gj p).length<2
 .rw[if_pos h2,pp.one h2];exact⟨[1],[1],rfl,one_sqp⟩
 .rw[if_neg h2];obtain⟨g,q,h3,h4,h5,a,_⟩:=tJ h.z pp Fo Fo (Fz hb Fo) (p0:=Gj p) (h0:=[1]) hb Fo pp.t rfl pp.n λt=>by simp only[Gf];push_cast;grind
  exact⟨g,q,by rw[h3];show(XI (Gj p) (Hh (Gj p))).bind _=_;rw[h4];exact h5,a⟩
inductive LW:List Int->List (List Int)->Prop
 |nil:LW [1] []
 |cons {g h w:List Int} {ws:List (List Int)} (hs:Sqp g h w) (hl:LW h ws):LW g (w::ws)
variable{ws:U9}
theorem Q0z(h:LW g ws):∀t,Gf g t=ev (XM (ws.map cz)) t:=by
 induction h with
 |nil=>intro t;simp only[X8,XM,Gf];rw[S7];push_cast;grind
 |cons hs hl a=>intro t;simp only[Xa,XM];rw[Gl,Gd,hs.e,a];grind
theorem Qd9{w v:U8}(h:LW g (w::v::ws)):∃f,Gg f/\∀t,Gf w t=Gf f t*Gf v t:=by
 cases h with
 |
  @cons _ h _ _ hs hl =>
  cases hl with
  |
   @cons _ h2 _ _ hs2 hl2 =>
   obtain⟨X,Y,hb⟩:=hs2.bez;obtain⟨z,hz⟩:=hs.d;have hd:=Qv7 (a:=cz g) (g:=cz h) (q:=cz w) (z:=z) (r:=cz v) (X:=X) (Y:=Y) (n:=h.length-1) (λt=>by rw[Gd,Gd,Gd,hs.e]) (λt=>by rw[hz,Gd]) (FP hs.pg.t (by have:=hs.pg.n;omega)) hb
    ⟨Hz (cz h2) (cz w),λt=>by rw[Gl,Gd,Gd,Gd,Gd,hs.e,hs2.e];grind⟩
   obtain⟨f,c,b⟩:=BD hs2.pq.m hd;exact⟨f,c,λt=>by rw[b];grind⟩
theorem qU{w:U8}(h:LW g (w::ws)):∀v∈w::ws,Pr1 v/\Ee (cz v) (cz w):=by
 have a:∀(ws:U9) (g w:U8),LW g (w::ws)->∀v∈w::ws,Pr1 v/\Ee (cz v) (cz w):=by
  intro ws
  induction ws with
  |
   nil =>
   intro g w h v hv;rw[Qk.1 hv];cases h with
   |cons hs hl=>exact⟨hs.pq,dvd_refl _⟩
  |
   cons u ws ih =>
   intro g w h v hv;have hn:=Qd9 h;cases h with
   |
    @cons _ h _ _ hs hl =>
    rcases Qm.1 hv with rfl|hv
    .exact⟨hs.pq,dvd_refl _⟩
    .obtain⟨i1,i2⟩:=ih h u hl v hv;obtain⟨f,_,b⟩:=hn;exact⟨i1,dvd_trans i2 ⟨cz f,λt=>by rw[Gd,Gd,Gd,b];grind⟩⟩
 exact a ws g w h
theorem lay_ok{n s:Nat}(hz:Szz n (s+73)){p0:U8}(b0:Bd s p0)(l0:p0.length<=10)(b:Gg p0)(a:p0.length≠0):∀(k:Nat) (g h0:U8),Pr1 g->g.length<=k->g.length<=n->Gg h0->(∀t,Gf p0 t=Gf h0 t*Gf g t)->∃ws,YO k g=some ws/\LW g ws
 | 0,g,_,pg,hk,_,_,_=>absurd pg.n Fo
 |
  k+1,g,h0,pg,hk,hn,th0,e0=>by
  simp only[YO];by_cases h2:g.length<2
  .rw[if_pos h2,pg.one h2];exact⟨[],rfl,.nil⟩
  .rw[if_neg h2];have d:Bd (s+69) g:=Ex b0 l0 b pg.t th0 a λt=>by rw[e0];grind
   obtain⟨h,w,h3,h4,h5,c,f⟩:=tJ hz pg Fo hn d b0 l0 b th0 a e0;obtain⟨ws,i1,i2⟩:=lay_ok hz b0 l0 b a k h (Hb h0 w) c.pg Fo Fo (Hf _ _) λt=>by rw[e0,Gx,c.e];grind
   refine⟨w::ws,?_,.cons c i2⟩;rw[h3];show(XI g (Hh g)).bind _=_;rw[h4];show(XA g h).bind _=_;rw[h5];show(YO k h).bind _=_;rw[i1];rfl
theorem iY{s:Nat}{p0:U8}(b0:Bd s p0)(l0:p0.length≤10)(a:Gg p0)(d:p0.length≠0)(hs:s+69+69≤16777216):∀(ws:U9) (g h0:U8),LW g ws->Gg h0->(∀t,Gf p0 t=Gf h0 t*Gf g t)->∃fs,DF ws=some fs/\Lay (ws.map cz) (fs.map cz)/\∀f∈fs,Gg f
 | [],g,_,_,_,_=>⟨[],rfl,trivial,λf i=>by cases i⟩
 |
  [w],g,_,hl,_,_=>by
  cases hl with
  |cons hs hl=>exact⟨[w],rfl,λt=>rfl,λf i=>by rw[Qk.1 i];exact hs.pq.t⟩
 |
  w::v::ws,g,h0,hl,th0,e0=>by
  obtain⟨f,k,j⟩:=Qd9 hl;cases hl with
  |
   @cons _ h _ _ hs1 hl =>
   have b:=(qU hl v (Qy ..)).1;obtain⟨fs,i1,i2,i3⟩:=iY b0 l0 a d hs (v::ws) h (Hb h0 w) hl (Hf _ _) λt=>by rw[e0,Gx,hs1.e];grind
   have c:∀t,Gf p0 t=Gf w t*Gf (Hb h0 h) t:=λt=>by rw[e0,Gx,hs1.e];grind
   have m:Bd (s+69) w:=Ex b0 l0 a hs1.pq.t (Hf _ _) d c;obtain⟨p1,p2⟩:=Rv a d c;have o:=Sx hs1.pq.t (Hf _ _) a c p1 p2;have l:=Qpb (s:=s+69) hs1.pq.t b.t k hs1.pq.n Fo m hs λt=>by rw[j];grind
   refine⟨f::fs,?_,⟨λt=>by rw[Gd,Gd,Gd,j],i2⟩,λx hx=>?_⟩
   .show(XA w v).bind _=_;rw[l];show(DF (v::ws)).bind _=_;rw[i1];rfl
   .rcases Qm.1 hx with rfl|hx
    .exact k
    .exact i3 x hx
def Cj:U9->U8
 | []=>[1]
 | [f]=>f
 |f::_::l=>Hb f (Cj l)
theorem bJ:∀(fs:U9) (t:Rat),ev (DT (fs.map cz)) t=Gf (Cj fs) t
 | [],t=>by simp only[X8,DT,Cj,Gf];rw[S7];push_cast;grind
 | [f],t=>by simp only[Xa,X8,DT,Cj];rw[Gd]
 |f::g::l,t=>by simp only[Xa,DT,Cj];rw[Gl,Gd,Gx,bJ l]
theorem Rx(t:Rat):Gf [1] t=1:=by simp only[Gf];push_cast;grind
theorem MP:∀{w:U8} {ws fs:U9},Lay ((w::ws).map cz) (fs.map cz)->(∀f∈fs,Gg f)->(∀v∈w::ws,Gg v)->∃E,Gg E/\∀t,Gf w t=Gf (Cj fs) t*Gf E t
 |
  w,[],[f],h,_,_=>⟨[1],rfl,λt=>by
  have:=h t;rw[Gd,Gd]at this;rw[this,Rx];simp only[Cj];grind⟩
 |
  w,[v],[f,f2],h,_,hw=>⟨v,hw v Ft,λt=>by
  have:=h.1 t;rw[Gd,Gd,Gd]at this;rw[this];simp only[Cj];rw[Gx,Rx];grind⟩
 |
  w,v::x::l,f::f2::fs,h,hf,hw=>by
  obtain⟨E,b,e⟩:=MP (w:=x) (ws:=l) (fs:=fs) h.2.2 (λg hg=>hf g (by simp[hg])) (λg hg=>hw g (by simp at hg ⊢;exact .inr (.inr hg)));refine⟨Hb f2 E,Hf _ _,λt=>?_⟩;have a1:=h.1 t;have a2:=h.2.1 t;rw[Gd,Gd,Gd]at a1 a2;have a:Gf (Cj (f::f2::fs)) t=Gf f t*Gf (Cj fs) t:=by simp only[Cj];rw[Gx]
  rw[a1,a2,e,a,Gx];grind
 |w,[],[],h,_,_=>h.elim
 |w,[],_::_::_,h,_,_=>h.elim
 |w,[v],[],h,_,_=>h.elim
 |w,[v],[f],h,_,_=>h.2.elim
 |w,[v],_::_::_::_,h,_,_=>h.2.elim
 |w,v::x::l,[f],h,_,_=>h.2.elim
 |w,v::x::l,[],h,_,_=>h.elim
theorem YU{s:Nat}{p0:U8}(b0:Bd s p0)(l0:p0.length≤10)(c:Gg p0)(d:p0.length≠0)(hs:s+69≤16777216):∀(fs:U9) (i:Nat) (a E:U8),i % 2=0->Gg a->Gg E->(∀f∈fs,Gg f)->(∀t,Gf p0 t=Gf a t*Gf (Cj fs) t*Gf E t)->∃o,VZ i a fs=some o/\Gg o/\∀t,Gf o t=Gf a t*Gf (Cj fs) t
 | [],i,a,E,hi,ta,_,_,_=>⟨a,rfl,ta,λt=>by simp only[Cj];rw[Rx];grind⟩
 |
  [f],i,a,E,hi,ta,tE,tf,hE=>by
  have b:∀t,Gf p0 t=Gf (Hb a f) t*Gf E t:=λt=>by rw[hE,Gx];rfl
  have b1:=Ex b0 l0 c (Hf a f) tE d b;obtain⟨p1,p2⟩:=Rv c d b;have hl:=Sx (Hf a f) tE c b p1 p2;refine⟨Hb a f,?_,Hf _ _,λt=>by rw[Gx];rfl⟩;simp only[VZ];rw[if_pos hi,Oo Fo (Fz b1 Fo)];rfl
 |
  f::g::fs,i,a,E,hi,ta,tE,tf,hE=>by
  have e:∀t,Gf (Cj (f::g::fs)) t=Gf f t*Gf (Cj fs) t:=λt=>by simp only[Cj];rw[Gx]
  have b:∀t,Gf p0 t=Gf (Hb a f) t*Gf (Hb (Cj fs) E) t:=λt=>by rw[hE,e,Gx,Gx];grind
  have b1:=Ex b0 l0 c (Hf a f) (Hf _ _) d b;obtain⟨p1,p2⟩:=Rv c d b;have hl:=Sx (Hf a f) (Hf _ _) c b p1 p2;obtain⟨o,h,k,j⟩:=YU b0 l0 c d hs fs (i+2) (Hb a f) E Fo (Hf _ _) tE (λx hx=>tf x (by simp[hx])) λt=>by rw[hE,e,Gx];grind
  refine⟨o,?_,k,λt=>by rw[j,e,Gx];grind⟩;have h1:VZ (i+1) (Hb a f) (g::fs)=VZ (i+2) (Hb a f) fs:=by
   show(if (i+1) % 2=0 then _ else _)=_;rw[if_neg Fo]
  show(if i % 2=0 then(xF (Hb a f)).bind λq=>VZ (i+1) q (g::fs)else _)=_;rw[if_pos hi,Oo Fo (Fz b1 Fo)];exact h1.trans h
structure Parts(p q o:List Int):Prop where
 sq:∃g,Sqp (Gj p) g q
 ws:∃ws:List (List Int),(∀w∈ws,Pr1 w/\Ee (cz w) (cz q))/\∀t,Gf (Gj p) t=ev (XM (ws.map cz)) t
 oq:Ee (cz o) (cz q)
 ot:Gg o
 oh:∃h,Gg h/\∀t,Gf (Gj p) t=Gf o t*Gf h t
 os:∃S,∀t,Gf (Gj p) t=Gf o t*(ev S t*ev S t)
theorem rQ{n:Nat}(h:Okp n s p):∃q o,Ma p=some q/\DC p=some o/\Parts p q o:=by
 obtain⟨pp,hl,hb⟩:=h.pr;have hn:=h.z.1;have C:=h.l;have hs:=Qff h.z;obtain⟨g,q,b,sq⟩:=Oh h;obtain⟨ws,w1,r⟩:=lay_ok h.z hb Fo pp.t pp.n 66 (Gj p) [1] pp Fo Fo rfl λt=>by rw[Rx];grind
 obtain⟨fs,f1,f2,f3⟩:=iY hb Fo pp.t pp.n Fo ws (Gj p) [1] r rfl λt=>by rw[Rx];grind
 have m:=Q0z r;have c:(∀w∈ws,Pr1 w/\Ee (cz w) (cz q))/\∃E,Gg E/\∀t,Gf q t=Gf (Cj fs) t*Gf E t:=by
  cases ws with
  |
   nil =>
   have e:fs=[]:=by
    cases fs with
    |nil=>rfl
    |cons f l=>exact f2.elim
   subst e;exact⟨(λw m=>by cases m),q,sq.pq.t,λt=>by simp only[Cj];rw[Rx];grind⟩
  |
   cons w ws =>
   have u:w=q:=by
    have a:(if (Gj p).length<2 then some []else(xF (Hh (Gj p))).bind λd=>(XI (Gj p) d).bind λh=>(XA (Gj p) h).bind λw=>(YO 65 h).bind λl=>some (w::l))=some (w::ws):=w1;have j:¬(Gj p).length<2:=λh2=>by
     rw[if_pos h2]at a;injection a with a;cases a
    rw[if_neg j]at a;unfold Ma at b;rw[if_neg j]at b;obtain⟨d,y,a⟩:=Qd.1 a;obtain⟨h,D,a⟩:=Qd.1 a;obtain⟨w',B,a⟩:=Qd.1 a;obtain⟨l,H,a⟩:=Qd.1 a;rw[y]at b;have b:(XI (Gj p) d).bind (λg=>XA (Gj p) g)=some q:=b;rw[D]at b;have b:XA (Gj p) h=some q:=b;rw[B]at b;injection b with b;injection a with a;injection a with a _;rw[<-a,b]
   subst u;have i:=qU r;exact⟨i,MP f2 f3 λv hv=>(i v hv).1.t⟩
 obtain⟨ha,E,I,x⟩:=c;obtain⟨o,A,F,k⟩:=YU hb Fo pp.t pp.n Fo fs 0 [1] (Hb E g) rfl rfl (Hf _ _) f3 λt=>by rw[Rx,Gx,sq.e,x];grind
 have k:∀t,Gf o t=Gf (Cj fs) t:=λt=>by rw[k,Rx];grind
 refine⟨q,o,b,?_,⟨g,sq⟩,⟨ws,ha,m⟩,⟨cz E,λt=>by rw[Gd,Gd,Gd,x,k]⟩,F,⟨Hb E g,Hf _ _,λt=>by rw[sq.e,x,k,Gx];grind⟩,?_⟩
 .unfold DC;rw[if_neg pp.n,w1];show(DF ws).bind _=_;rw[f1];exact A
 .obtain⟨S,G⟩:=Qd0 f2;exact⟨S,λt=>by rw[m,G,bJ,k]⟩
theorem Qcu{s:Nat}:∀(k:Nat) (a b:U8),Gg a->Gg b->b.length≠0->b.length<k->b.length<a.length->a.length<=60->Bd s a->Bd s b->(s+8)*3^(a.length-1)<=16777216->(∀d,Ee d (cz a)->Ee d (cz b)->∃c:Rat,c≠0/\∀t,ev d t=c)->∃l,xU k a b=some (b::l)/\SCl (cz a) (cz b) (l.map cz)
 | 0,_,_,_,_,_,h,_,_,_,_,_,_=>Fo
 |
  k+1,a,b,ta,tb,hb,hk,hab,hl,ba,bb,hs,hd=>by
  obtain⟨h1,h2,h3,u,v,up,A,X,f⟩:=SD ta tb hb hl;have h3:=h3 s ba bb;obtain⟨m,hm⟩:=nmE (a.length-b.length);have w:a.length+1-b.length=m+1:=Fo;rw[w]at h3;have C:s+(m+1)*(s+8)+8=(m+2)*(s+8):=by
   rw[show m+2=(m+1)+1 by omega,Xh (m+1)];omega
  have E:(m+2)*(s+8)*3^(b.length-1)<=(s+8)*3^(a.length-1):=by
   rw[show a.length-1=m+(b.length-1) by omega,Xj,<-Xy,Zt (s+8)];exact Qz _ (Qz _ (Qu7 m Fo))
  have B:s+(m+1)*(s+8)<=16777216:=by
   have:(m+2)*(s+8)<=(m+2)*(s+8)*3^(b.length-1):=Yl _ (Zz Fp);omega
  simp only[xU];rw[if_neg hb,Oo Fo (Fz h3 B)];show ∃l,((xU k b (Bt (Rz a b))).bind λl=>some (b::l))=some (b::l)/\_;have r:(Bt (Rz a b)).length<=(Rz a b).length:=O2 _;by_cases hr:(Rz a b).length=0
  .have e:Bt (Rz a b)=[]:=Qg Fo;rw[e];refine⟨[],?_,?_⟩
   .obtain⟨j,rfl⟩:∃j,k=j+1:=⟨k-1,Fo⟩;rfl
   .obtain⟨c,hc,i⟩:=hd (cz b) ⟨Nq (1 / u) X,λt=>by
     have:=f t;rw[Dq hr]at this;have hu:1 / u*u=1:=Hq up;rw[Gd,Gd,G8];have:Gf a t=1 / u*(u*Gf a t):=Fu;rw[this,f,Dq hr];grind⟩ (dvd_refl _)
    exact .base hc i
  .have o:Gg (Bt (Rz a b)):=Gs _ _;have g:(Bt (Rz a b)).length≠0:=λh0=>by
    have:=Iz (c:=-1) h1 o Fp λt=>by rw[SK];grind
    omega
   obtain⟨l,i1,i2⟩:=Qcu (s:=s+(m+1)*(s+8)) k b (Bt (Rz a b)) tb o g Fo Fo Fo (Fz bb Fo) (RJ h3) (by rw[C];omega) λd p D=>by
    refine hd d ?_ p;obtain⟨y,x⟩:=p;obtain⟨z,hz⟩:=D;have hu:1 / u*u=1:=Hq up;refine⟨Nq (1 / u) (Ty (Hz X y) (Nq (-v) z)),λt=>?_⟩;have a1:=f t;have a2:=x t;have n:=hz t;rw[Gd]at a2 n;rw[SK]at n;rw[Gd,G8,Hg,Gl,G8];have:Gf a t=1 / u*(u*Gf a t):=Fu;rw[this,a1,a2,show Gf (Rz a b) t=-(ev d t*ev z t) by grind];grind
   refine⟨Bt (Rz a b)::l,by rw[i1];rfl,?_⟩;rw[Xa];exact .step (q:=X) up A (λt=>by rw[Gd,Gd,Gd,f,SK];clear i2 i1 hd h3 hs;grind) i2
theorem HM(x:Rat):∀(l:U9) (n:Nat) (s:Int),(l.foldl (Pf λp=>Hp p x) (n,s)).1=n+tc x s (l.map cz)
 | [],n,s=>rfl
 |
  p::l,n,s=>by
  simp only[Xn,Xa,tc,Pf];rw[M7,Gd]
  split
  .exact HM x l n s
  .rw[HM x l]
   split <;> omega
theorem YR(l:U9)(x:Rat):Mw l x=vv (l.map cz) x:=by
 have:=HM x l 0 0;unfold Mw De vv;rw[this];omega
theorem Qlo{n:Nat}(hz:Szz n (s+73)){P q:U8}(sq:Sqp P g q)(A:q.length<=n)(bq:Bd (s+69) q):∃d,xF (Hh q)=some d/\∃l,xU 66 q (Gj d)=some l/\HL (cz q) ((q::l).map cz)/\(q.length<2->l=[]):=by
 have hn:=hz.1;have hs:=Qff hz;have bd:=PE bq Fo;have D:=P7 q;refine⟨Hh q,Oo Fo (Fz bd Fo),?_⟩;have u:=sq.pq.n;by_cases h2:q.length<2
 .have e:Gj (Hh q)=[]:=by rw[Qg (l:=Hh q) Fo];rfl
  rw[e];refine⟨[],rfl,.inl ⟨1,Fp,λt=>?_,rfl⟩,λ_=>rfl⟩;rw[Gd,sq.pq.one h2,Rx]
 .have b:(Hh q).length≠0:=λh=>by
   have h1:=M4 q (q.length-2);rw[Qg h,show q.length-2+1=q.length-1 by omega]at h1;have h3:q.getD (q.length-1) 0≠0:=Tg sq.pq.t Fo;rcases J5.1 (h1.symm.trans Ft)with h4|h4
   .exact h3 h4
   .omega
  obtain⟨p1,p2,y,C,o,B,m⟩:=M6 (p:=Hh q) (Gs _ _) b;have k:Gp (Hh q)=Gp q*((q.length-1:Nat):Int):=by
   have i:(Hh q).length=q.length-1:=by
    rcases Q7 (Hh q).length (q.length-1)with h|h
    .have h1:=M4 q (q.length-2);rw[Qe,Qu Fo,show q.length-2+1=q.length-1 by omega]at h1;have h3:q.getD (q.length-1) 0≠0:=Tg sq.pq.t Fo;rcases J5.1 (h1.symm.trans Ft)with h4|h4
     .exact absurd h4 h3
     .omega
    .omega
   unfold Gp;rw[i,M4,show q.length-1-1+1=q.length-1 by omega]
  have c:0<Ro (Hh q):=by
   have v:0<Gp (Hh q):=by rw[k];exact W7 sq.pq.l Fo
   have hc:=XN (p:=Hh q) (Gs _ _) b;unfold Ro;rw[if_neg Fo];unfold Py at hc ⊢;omega
  have a:((0:Int):Rat)<(Ro (Hh q):Rat):=Jc.2 c;have a:(0:Rat)<(Ro (Hh q):Rat):=by simpa using a
  have w:1 / (Ro (Hh q):Rat)*(Ro (Hh q):Rat)=1:=Hq a;have f:=hz.2;have j:(s+73+8)*3^(q.length-1)<=16777216:=by
   have:(s+73+8)*3^(q.length-1)<=(s+73+8)*3^(n-1):=Zl _ (Zp Fp Fo);rw[Xy]at f;omega
  obtain⟨l,h3,h4⟩:=Qcu (s:=s+73) 66 q (Gj (Hh q)) sq.pq.t p1 Fo Fo Fo Fo (Fz bq Fo) (o _ bd) j λd r x=>sq.num r (by
   obtain⟨z,hz⟩:=x;exact⟨Nq (Ro (Hh q)) z,λt=>by
    have:=hz t;rw[Gd]at this;rw[Si,<-C6,m,this,G8];grind⟩)
  refine⟨Gj (Hh q)::l,h3,.inr ⟨cz (Gj (Hh q)),l.map cz,1 / (Ro (Hh q):Rat),Ev Fp a,λt=>?_,h4,rfl⟩,λh=>absurd h h2⟩;rw[Gd,<-C6,m t];grind
theorem chain_ok{n:Nat}(h:Okp n s p):∃q l,Ma p=some q/\chain p=some (q::l)/\HL (cz q) ((q::l).map cz)/\(q.length<2->l=[]):=by
 obtain⟨pp,hl,hb⟩:=h.pr;have hn:=h.z.1;have i:=h.l;obtain⟨g,q,b,sq⟩:=Oh h;have a:∀t,Gf (Gj p) t=Gf q t*Gf g t:=λt=>by rw[sq.e];grind
 obtain⟨p1,p2⟩:=Rv pp.t pp.n a;have f:=Sx sq.pq.t sq.pg.t pp.t a p1 p2;obtain⟨d,k,l,j,c⟩:=Qlo h.z sq Fo (Ex hb Fo pp.t sq.pq.t sq.pg.t pp.n a);refine⟨q,l,b,?_,c⟩;unfold chain;rw[b];show(if q.length=0 then none else _)=_;rw[if_neg sq.pq.n,k];show(xU 66 q (Gj d)).bind _=_;rw[j];rfl
structure Gr(D M k:Nat)(q:Rat):Prop where
 u:∃u:Int,q*((D*2^k:Nat):Rat)=(u:Rat)
 b:Gw q<=(M:Rat)
 d:0<D
theorem nat_pos{n:Nat}(h:0<n):(0:Rat)<(n:Rat):=by
 have:((0:Nat):Rat)<(n:Rat):=V5.2 h;simpa using this
variable{q:Rat}
theorem FS{D M k:Nat}(h:Gr D M k q):Gr D M (k+1) q:=by
 obtain⟨u,hu⟩:=h.u;refine⟨⟨u*2,?_⟩,h.b,h.d⟩;rw[Zq,<-Xy]
 push_cast at hu ⊢
 rw[<-hu];grind
theorem OO{D M k:Nat}{a b:Rat}(ha:Gr D M k a)(hb:Gr D M k b):Gr D M (k+1) ((a+b) / 2):=by
 obtain⟨u,hu⟩:=ha.u;obtain⟨v,hv⟩:=hb.u;have h2:(a+b) / 2*2=a+b:=Hq Fp;refine⟨⟨u+v,?_⟩,?_,ha.d⟩
 .rw[Zq,<-Xy]
  push_cast at hu hv ⊢
  rw[<-hu,<-hv];generalize (a+b) / 2=c at *;generalize (D:Rat)*2^k=z at *;have:c*(z*2)=(c*2)*z:=Fu;rw[this,h2];grind
 .have h3:=ha.b;have h4:=hb.b;rw[Nj]at *;constructor <;> grind
theorem Q0m{D M k:Nat}(h:Gr D M k q):q.den<=D*2^k:=by
 obtain⟨u,hu⟩:=h.u;have hp:0<D*2^k:=Yt h.d (Zz Fp);have e:q=Rat.divInt u ((D*2^k:Nat):Int):=by
  rw[<-To,<-hu];have hz:=nat_pos hp;rw[show((((D*2^k:Nat):Int)):Rat)=((D*2^k:Nat):Rat) from rfl];rw[Yw];have:=Uc ((D*2^k:Nat):Rat) Fu;generalize ((D*2^k:Nat):Rat)=z at *;have:q*z*z⁻¹=q*(z*z⁻¹):=Fu;rw[this,‹z*z⁻¹=1›];grind
 rw[e,W5,if_neg Fo,Xc];exact J8 _ _
theorem qY{a b k:Nat}{z:Int}(h:z.natAbs<=a*(b*2^k)):Gm z<=Gm (a:Int)+Gm (b:Int)+k:=by
 have h1:Gm (a:Int)<=Gm (a:Int):=Ql _;have h2:Gm (b:Int)<=Gm (b:Int):=Ql _;rw[Pi]at h1 h2 ⊢;rw[Xc]at h1 h2;rw[Xj,Xj];have h3:a*b<2^Gm (a:Int)*2^Gm (b:Int):=Nat.mul_lt_mul_of_lt_of_le h1 (Ys h2) (Zz Fp);have h4:=X2 h3 (show 0<2^k from Zz Fp);rw[<-Xy]at h;omega
theorem QI{D M k B:Nat}(h:Gr D M k q)(hM:0<M)(hs:Gm (D:Int)+Gm (M:Int)+k<=B):Qs B q:=by
 have hd:=Q0m h;have c:=nat_pos q.den_pos;have h1:(q.num.natAbs:Rat)<=((M*(D*2^k):Nat):Rat):=by
  have e:(q.num:Rat)=q*(q.den:Rat):=by
   have:(q.num:Rat) / (((q.den:Int)):Rat)=q:=by rw[To,Z9]
   have h2:(q.num:Rat) / (q.den:Rat)*(q.den:Rat)=q.num:=Zg Fu;rw[show(q.num:Rat) / (q.den:Rat)=q from this]at h2;exact h2.symm
  rw[<-P9,e];have h3:=Rw (x:=q) (y:=(q.den:Rat)) (b:=((D*2^k:Nat):Rat)) h.b (by
   have:Gw (q.den:Rat)=(q.den:Rat):=by unfold Gw;rw[if_neg Fu]
   rw[this];exact Zd.2 hd)
  push_cast at h3 ⊢;exact h3
 have h1:=Zd.1 h1;refine⟨?_,?_⟩
 .have:=qY (z:=q.num) h1;omega
 .have:=qY (z:=(q.den:Int)) (a:=M) (b:=D) (k:=k) (by
   rw[Xc];exact Qa hd (Wa _ hM))
  omega
theorem YV(a b:Rat):NY a b=(a+b) / 2:=by
 unfold NY;rw[<-To];have ha:(a.num:Rat)=a*(a.den:Rat):=by
  have:(a.num:Rat) / (((a.den:Int)):Rat)=a:=by rw[To,Z9]
  have h2:(a.num:Rat) / (a.den:Rat)*(a.den:Rat)=a.num:=Zg (by have:=nat_pos a.den_pos;grind);rw[show(a.num:Rat) / (a.den:Rat)=a from this]at h2;exact h2.symm
 have hb:(b.num:Rat)=b*(b.den:Rat):=by
  have:(b.num:Rat) / (((b.den:Int)):Rat)=b:=by rw[To,Z9]
  have h2:(b.num:Rat) / (b.den:Rat)*(b.den:Rat)=b.num:=Zg (by have:=nat_pos b.den_pos;grind);rw[show(b.num:Rat) / (b.den:Rat)=b from this]at h2;exact h2.symm
 have f:=nat_pos a.den_pos;have pb:=nat_pos b.den_pos;rw[Ku,Je,Je,Je,Je,ha,hb];rw[show(((a.den:Int)):Rat)=(a.den:Rat) from rfl,show(((b.den:Int)):Rat)=(b.den:Rat) from rfl,show(((2:Int)):Rat)=2 from rfl];generalize (a.den:Rat)=x at *;generalize (b.den:Rat)=y at *;have e:=ZS (ZS f pb) (show(0:Rat)<2 by decide);have h1:(a*x*y+b*y*x) / (x*y*2)*(x*y*2)=a*x*y+b*y*x:=Hq e;have h2:(a+b) / 2*2=a+b:=Hq Fp;generalize (a*x*y+b*y*x) / (x*y*2)=c at *;generalize (a+b) / 2=d at *;have h3:(x*y*2)*(c-d)=0:=Fu;rcases Yo.1 h3 with h4|h4 <;> grind
theorem ER(a b:Rat):zM a b=a-b:=by
 unfold zM;rw[Rat.sub_def',<-Rat.divInt_ofNat]
 push_cast;rfl
theorem Rh{a b:Rat}:Hu a b=0↔a=b:=by
 constructor
 .intro h;have h1:¬a<b:=λc=>by have:=Dn.2 c;omega
  have h2:¬b<a:=λc=>by have:=Dl.2 c;omega
  grind
 .intro h;subst h;exact Et a
theorem Dm{a b:Rat}:Hu a b<=0↔a<=b:=by
 constructor
 .intro h;have h2:¬b<a:=λc=>by have:=Dl.2 c;omega
  grind
 .intro h;have h2:¬0<Hu a b:=λc=>by have:=Dl.1 c;grind
  omega
theorem LM{a b:Rat}:0<=Hu a b↔b<=a:=by
 constructor
 .intro h;have h2:¬a<b:=λc=>by have:=Dn.2 c;omega
  grind
 .intro h;have h2:¬Hu a b<0:=λc=>by have:=Dn.1 c;grind
  omega
theorem Bl(a b:Rat):Hu a b=1/\b<a\/Hu a b=0/\a=b\/Hu a b=-1/\a<b:=by
 have hb:=JL a b;rcases(show Hu a b=1\/Hu a b=0\/Hu a b=-1 by omega)with h|h|h
 .exact .inl ⟨h,Dl.1 Fo⟩
 .exact .inr (.inl ⟨h,Rh.1 h⟩)
 .exact .inr (.inr ⟨h,Dn.1 Fo⟩)
theorem nP(p:U8)(x:Rat):low p x=Np (cz p) x:=by
 unfold low Np;rw[M7,M7,Gd,C6]
variable{t:Tm}
theorem Bi(h:t.lo<t.hi)(q:Rat):Gt t q=cq (cz t.p) t.lo t.hi q:=by
 have hp:t.point=false:=by
  unfold Tm.point;have:¬0<=Hu t.lo t.hi:=λc=>by have:=LM.1 c;grind
  simp[this]
 unfold Gt cq;rw[hp,if_neg Fp];have a:(Hu q t.lo<=0)=(q<=t.lo):=propext Dm;have b:(0<Hu q t.hi)=(t.hi<q):=propext Dl;rw[M7,nP,<-Gd];simp only[a,b]
theorem Nv:t.point=true↔t.hi<=t.lo:=by
 unfold Tm.point;rw[decide_eq_true_iff];exact LM
theorem Iv(h:t.lo=t.hi)(q:Rat):Gt t q=Hu t.lo q:=by
 have hp:t.point=true:=Nv.2 (by rw[h];exact Qp);unfold Gt;rw[if_pos hp]
variable{c:Rat->Int}{x:Rat}
theorem Qz1(h:∀q,c q=Hu x q):Cut c where
 val q:=by rw[h];have:=JL x q;omega
 mono q r hqr h1:=by
  rw[h]at h1 ⊢;rcases Bl x q with⟨e,e'⟩|⟨e,e'⟩|⟨e,e'⟩
  .exact absurd e h1
  .rcases Bl x r with⟨f,a⟩|⟨f,a⟩|⟨f,a⟩ <;> grind
  .rcases Bl x r with⟨f,a⟩|⟨f,a⟩|⟨f,a⟩ <;> grind
 up q h1:=by
  rw[h]at h1;have h2:=Dl.1 (show 0<Hu x q by omega);have h3:(x+q) / 2*2=x+q:=Hq Fp;have h4:=Dl.2 (show(x+q) / 2<x by grind);have:=JL x ((x+q) / 2);exact⟨(x+q) / 2,Fu,by rw[h];omega⟩
 dn q h1:=by
  rw[h]at h1;have h2:=Dn.1 (show Hu x q<0 by omega);have h3:(x+q) / 2*2=x+q:=Hq Fp;have h4:=Dn.2 (show x<(x+q) / 2 by grind);have:=JL x ((x+q) / 2);exact⟨(x+q) / 2,Fu,by rw[h];omega⟩
 lo:=⟨x-1,by
  rw[h];have h4:=Dl.2 (show x-1<x by grind);have:=JL x (x-1);omega⟩
 hi:=⟨x+1,by
  rw[h];have h4:=Dn.2 (show x<x+1 by grind);have:=JL x (x+1);omega⟩
def lim(t:Tm):Nat:=if t.point=true then 3300000 else 1000000
theorem fB(h:t.point=false):lim t=1000000:=by simp[lim,h]
theorem Q0q(t:Tm):1000000<=lim t:=by unfold lim;split <;> omega
theorem Q0r(t:Tm):lim t<=3300000:=by unfold lim;split <;> omega
structure Va(t:Tm):Prop where
 i:t.lo=t.hi/\Gf t.p t.lo=0\/∃L,Vt (cz t.p) L t.lo t.hi
 tr:Gg t.p
 n:t.p.length<=9
 n2:2<=t.p.length
 b:Bd 3300000 t.p
 bi:t.point=false->Bd 1260 t.p
 sc:t.point=false->∃(l:List (List Int)) (P g:List Int),xU 66 t.p (Gj (Hh t.p))=some l/\Sqp P g t.p/\Vt (cz t.p) ((t.p::l).map cz) t.lo t.hi
 g:∃D M k,Gr D M k t.lo/\Gr D M k t.hi/\0<M/\Gm (D:Int)+Gm (M:Int)+k<=lim t
theorem Va.pt(h:Va t)(hp:t.point=true):t.lo=t.hi/\Gf t.p t.lo=0:=by
 rcases h.i with e|⟨L,V⟩
 .exact e
 .have:=Nv.1 hp;have:=V.l;grind
theorem Va.iv(h:Va t)(hp:t.point=false):∃L,Vt (cz t.p) L t.lo t.hi:=by
 rcases h.i with⟨e,_⟩|h
 .have:=Nv.2 (show t.hi<=t.lo by rw[e];exact Qp);rw[hp]at this;cases this
 .exact h
theorem Va.cut(h:Va t):Cut (Gt t):=by
 rcases h.i with⟨e,_⟩|⟨L,V⟩
 .exact Qz1 (x:=t.lo) λq=>Iv e q
 .have:Gt t=cq (cz t.p) t.lo t.hi:=funext λq=>Bi V.l q
  rw[this];exact V.cut
theorem Q18(hc:Cut c){p:Fb}(h:c x=0)(h0:ev p x=0):Il p c:=by
 rcases WP hc p with h1|⟨s,hs,h1⟩
 .exact h1
 .have:=bX hc h h1;rw[Hy.2 h0]at this;exact absurd this.symm hs
theorem Va.van(h:Va t):Il (cz t.p) (Gt t):=by
 have hc:=h.cut;rcases h.i with⟨e,h0⟩|⟨L,V⟩
 .exact Q18 hc (x:=t.lo) (by rw[Iv e,Et]) (by rw[Gd];exact h0)
 .have:Gt t=cq (cz t.p) t.lo t.hi:=funext λq=>Bi V.l q
  rw[this];exact V.van
theorem Va.qs(h:Va t):Qs 3300000 t.lo/\Qs 3300000 t.hi:=by
 obtain⟨D,M,k,h1,h2,h3,h4⟩:=h.g;have h4:=Qa h4 (Q0r t);exact⟨QI h1 h3 h4,QI h2 h3 h4⟩
theorem Va.qsn(h:Va t)(hp:t.point=false):Qs 1000000 t.lo/\Qs 1000000 t.hi:=by
 obtain⟨D,M,k,h1,h2,h3,h4⟩:=h.g;rw[fB hp]at h4;exact⟨QI h1 h3 h4,QI h2 h3 h4⟩
theorem Va.tb(h:Va t):Tb t:=⟨⟨h.tr,by have:=h.n;omega,Fz h.b Fo⟩,h.qs.1.mono (t:=16777216) Fo,h.qs.2.mono (t:=16777216) Fo⟩
structure Hv(t:Tm)(D M k:Nat)(u:Tm):Prop where
 p:u.p=t.p
 i:u.lo=u.hi/\Gf u.p u.lo=0\/∃L,Vt (cz u.p) L u.lo u.hi
 c:∀q,Gt u q=Gt t q
 l:Gr D M k u.lo
 h:Gr D M k u.hi
theorem XJ(hc:Cut c)(h:c x=0)(q:Rat):c q=Hu x q:=by
 rcases Bl x q with⟨e,e'⟩|⟨e,e'⟩|⟨e,e'⟩
 .rw[e];exact hc.mono' e' Fo
 .rw[e,<-e',h]
 .rw[e];exact hc.mono x q e' Fo
theorem fG{u:Tm}{D M k:Nat}(hu:Hv t D M k u)(hM:0<M)(hs:Gm (D:Int)+Gm (M:Int)+(k+1)<=16777216):∃v,half u=some v/\Hv t D M (k+1) v/\v.hi-v.lo<=(u.hi-u.lo) / 2/\u.lo<=v.lo/\v.hi<=u.hi:=by
 have h2:∀x:Rat,x / 2*2=x:=λx=>Hq Fp
 unfold half;rcases hu.i with⟨e,h0⟩|⟨L,V⟩
 .have hp:u.point=true:=Nv.2 (by rw[e];exact Qp);rw[if_pos hp];refine⟨u,rfl,⟨hu.p,hu.i,hu.c,FS hu.l,FS hu.h⟩,?_,Qp,Qp⟩;rw[e];have:=h2 (u.hi-u.hi);grind
 .have hp:u.point=false:=by
   have:¬u.point=true:=λh=>by have:=Nv.1 h;have:=V.l;grind
   simpa using this
  rw[hp,if_neg Fp];obtain⟨m,hm⟩:=nmE ((u.lo+u.hi) / 2);have b:Gr D M (k+1) m:=by rw[hm];exact OO hu.l hu.h
  have r:=h2 (u.lo+u.hi);rw[<-hm]at r;have hl:=V.l;have d:u.lo<m:=Fu;have f:m<u.hi:=Fu;have o:chq (NY u.lo u.hi)=some m:=by
   rw[YV,<-hm];have:=QI b hM hs;unfold chq;rw[if_pos ⟨this.1,this.2⟩]
  have z:NY u.lo u.hi=m:=by rw[YV,<-hm]
  rw[o];show ∃v,some (if Gt u m=0 then(⟨u.p,m,m⟩:Tm)else if Gt u m=-1 then ⟨u.p,u.lo,m⟩else ⟨u.p,m,u.hi⟩)=some v/\_;have A:=h2 (u.hi-u.lo);have a:=Bi hl;have n:=V.cut;have g:Cut (Gt u):=by rw[show Gt u=cq (cz u.p) u.lo u.hi from funext a];exact n
  by_cases c0:Gt u m=0
  .rw[if_pos c0];have hz:Gf u.p m=0:=by
    have:=HB n (q:=m) (by rw[<-a];exact c0) V.van;rwa[Gd]at this
   refine⟨_,rfl,⟨hu.p,.inl ⟨rfl,hz⟩,λq=>?_,b,b⟩,by show m-m<=_;grind,by show u.lo<=m;grind,by show m<=u.hi;grind⟩;rw[Iv rfl,<-hu.c];exact(XJ g c0 q).symm
  .rw[if_neg c0];by_cases w:Gt u m=-1
   .rw[if_pos w];have hv:vv L m=vv L u.hi:=V.eq_hi d (Qq f) (by rw[<-a,w];decide);have j:Vt (cz u.p) L u.lo m:=⟨V.s,d,by rw[hv];exact V.v⟩;refine⟨_,rfl,⟨hu.p,.inr ⟨L,j⟩,λq=>?_,FS hu.l,b⟩,by show m-u.lo<=_;grind,Qp,by show m<=u.hi;grind⟩;rw[Bi d,<-hu.c,a];exact V.uniq j.cut (Cf Qp) (by rw[VP d f];decide) j.van q
   .rw[if_neg w];have y:Gt u m=1:=by rcases g.val m with h|h|h <;> omega
    have hv:vv L m=vv L u.lo:=V.eq_lo d (Qq f) (by rw[<-a];exact y);have j:Vt (cz u.p) L m u.hi:=⟨V.s,f,by rw[hv];exact V.v⟩;refine⟨_,rfl,⟨hu.p,.inr ⟨L,j⟩,λq=>?_,b,FS hu.h⟩,by show u.hi-m<=_;grind,by show u.lo<=m;grind,Qp⟩;rw[Bi f,<-hu.c,a];exact V.uniq j.cut (Cf Fu) j.hi1 j.van q
def M9(a b:Tm):Prop:=∃q,Gt a q=-1/\Gt b q=1
def sR(a b:Tm):Prop:=∀q,Gt a q=Gt b q
theorem tri{a b:Tm}(ha:Cut (Gt a))(hb:Cut (Gt b)):M9 a b\/sR a b\/M9 b a:=by
 rcases Classical.em (sR a b)with h|h
 .exact .inr (.inl h)
 .obtain⟨q,c⟩:=Classical.not_forall.1 h;obtain⟨r,⟨h1,h2⟩|⟨h1,h2⟩⟩:=mJ ha hb c
  .exact .inl ⟨r,h1,h2⟩
  .exact .inr (.inr ⟨r,h2,h1⟩)
theorem Cq{a b:Tm}(ha:Cut (Gt a))(hb:Cut (Gt b))(h:M9 a b)(e:M9 b a):False:=by
 obtain⟨q,c,d⟩:=h;obtain⟨r,r1,r2⟩:=e;have:=ha.lt r2 c;have:=hb.lt d r1;grind
theorem cG{p:U8}(k:Nat):(p.getD k 0).natAbs<=2^Rm p:=by
 have h:Gm (p.getD k 0)<=Rm p:=by
  have a:∀(l:U8) (n:Nat),n≤l.foldl (λn z=>max n (Gm z)) n/\∀z∈l,Gm z≤l.foldl (λn z=>max n (Gm z)) n:=by
   intro l
   induction l with
   |nil=>exact λn=>⟨Ql _,λz hz=>by cases hz⟩
   |
    cons y l ih =>
    intro n;obtain⟨i1,i2⟩:=ih (max n (Gm y));refine⟨by simp only[Xn];omega,λz hz=>?_⟩;simp only[Xn];rcases Qm.1 hz with rfl|hz
    .omega
    .exact i2 z hz
  exact Gz (s:=Rm p) (λz hz=>(a p 0).2 z hz) k
 rw[Pi]at h;omega
theorem Qxo{s:Nat}:∀(B:U8),(∀z∈B,z.natAbs≤2^s)->gB B≤2^(s+(B.length-1))
 | [],_=>Qj _
 |
  c::B,h=>by
  have h1:=h c (Qy ..);have h2:=Qxo B λz hz=>h z (Qi _ hz)
  simp only[gB,Q5,Yy];have h3:2^s<=2^(s+B.length):=Zp Fp Fo;cases B with
  |nil=>simp only[gB,Xt]at *;omega
  |
   cons d B =>
   have h4:2^(s+(d::B).length)=2*2^(s+((d::B).length-1)):=by
    rw[Zt,<-Zq];congr 1
   rw[h4];omega
def Sw(A B:U8):Nat:=(Rm A+Rm B+(A.length+B.length)+8)*(2*(A.length+B.length-2)-1)
theorem Qmr{A B:U8}(x:Gg A)(tB:Gg B)(C:A.length<=9)(y:B.length<=9)(E:2<=A.length)(F:2<=B.length){R d:Rat}(w:1<=R)(dp:0<d)
 (hs:∀e:Rat,0<e->∃q r,Gw q<=R/\Gw r<=R/\d<=Gw (q-r)/\Gw (q-r)*((2^(Sw A B+1):Nat):Rat)<=1/\Gw (Gf A q)<e/\Gw (Gf B r)<e):False:=by
 obtain⟨a,ha⟩:∃a,A.length=a+1:=⟨A.length-1,Fo⟩;obtain⟨b,hb⟩:∃b,B.length=b+1:=⟨B.length-1,Fo⟩;obtain⟨s,l⟩:=nmE (Rm A+Rm B+b);obtain⟨N,o⟩:∃N,b*(2*(a*b))+a*(2*(a*b)-b)=N:=⟨_,rfl⟩;have c:N<=2^(a+9):=by
  rw[<-o];have j:∀a b:Fin 9,b.1*(2*(a.1*b.1))+a.1*(2*(a.1*b.1)-b.1)<=2^(a.1+9):=Fp;exact j ⟨a,Fo⟩ ⟨b,Fo⟩
 have n:Sw A B=(s+a+10)*(2*(a+b-1)+1):=by
  unfold Sw;rw[ha,hb,l,show a+1+(b+1)-2=a+b by omega,show 2*(a+b)-1=2*(a+b-1)+1 by omega];congr 1;omega
 have f:A.getD a 0≠0:=by have:=Tg x Fo;rwa[ha]at this
 have g:B.getD b 0≠0:=by have:=Tg tB Fo;rwa[hb]at this
 have hp:∀m,1<=2^m:=λm=>Zz Fp
 refine Q0j (N:=N) (D:=2^(Sw A B-1)) ha hb f g Fo Fo (h:=2^s) (hp s) (λk=>Qa (cG k) (Zp Fp Fo)) ?_ o ?_ w dp λe ep=>?_
 .refine Qa (Qxo (s:=Rm B) B λz hz=>?_) (Zp Fp Fo);obtain⟨i,hi⟩:=Zm.1 hz;have:=cG (p:=B) i;rwa[Qe,hi]at this
 .have h1:2*(N*2^s)<=2^(s+a+10):=by
   have:N*2^s<=2^(a+9)*2^s:=Qz _ c;rw[<-Xj]at this;rw[show s+a+10=(a+9+s)+1 by omega,Zq];omega
  have h2:N*2^s<=2^(s+a+9):=by
   rw[show s+a+9=(a+9)+s by omega,Xj];exact Qz _ c
  have h3:=W0 h1 (2*(a+b-1));have h4:=Zf h2 h3;rw[<-Wb,<-Xj]at h4;rw[<-Xy];refine Qa h4 (Zp Fp ?_);rw[n,Xw,Ye];omega
 .obtain⟨q,r,h1,h2,h3,h4,h5,v⟩:=hs e ep;refine⟨q,r,h1,h2,h3,?_,h5,v⟩;have t:1<=Sw A B:=by
   rw[n];exact Yt Fo Fo
  have u:2^(Sw A B+1)=4*2^(Sw A B-1):=by
   obtain⟨m,hm⟩:∃m,Sw A B=m+1:=⟨Sw A B-1,Fo⟩;rw[hm,Yy,Zq,Zq];omega
  rw[u]at h4
  push_cast at h4 ⊢
  exact h4
variable{t u:Tm}{D M:Nat}
theorem Hv.lo'{k:Nat}(h:Hv t D M k u):Gt t u.lo=1\/Gt t u.lo=0/\u.lo=u.hi:=by
 rw[<-h.c];rcases h.i with⟨e,_⟩|⟨L,V⟩
 .exact .inr ⟨by rw[Iv e,Et],e⟩
 .exact .inl (by rw[Bi V.l];exact Cf Qp)
theorem Hv.hi'{k:Nat}(h:Hv t D M k u):Gt t u.hi=0\/Gt t u.hi=-1:=by
 rw[<-h.c];rcases h.i with⟨e,_⟩|⟨L,V⟩
 .exact .inl (by rw[Iv e,e,Et])
 .rw[Bi V.l];have:=V.hi1;rcases V.cut.val u.hi with h|h|h <;> omega
theorem Hv.le{k:Nat}(h:Hv t D M k u):u.lo<=u.hi:=by
 rcases h.i with⟨e,_⟩|⟨L,V⟩
 .rw[e];exact Qp
 .exact Qq V.l
theorem fK{a b:Tm}(ha:Va a)(hb:Va b){k G s k':Nat}{v:Tm}(hu:Hv a D M k u)(hv:Hv b G s k' v)(h:M9 a b):1<(v.hi-u.lo)*((2^(Sw a.p b.p+1):Nat):Rat):=by
 rcases Hk ((v.hi-u.lo)*((2^(Sw a.p b.p+1):Nat):Rat)) 1 with hw|hw
 .exfalso;have f:=ha.cut;have cb:=hb.cut;obtain⟨m,E,l⟩:=h;obtain⟨m',F,o⟩:=f.dn m E;have i:(0:Rat)<=((2^(Sw a.p b.p+1):Nat):Rat):=Xm;obtain⟨R,H⟩:=nmE (Gw u.lo+Gw m'+Gw m+Gw v.hi+1);have n1:=Tr u.lo;have n2:=Tr m';have n3:=Tr m;have I:=Tr v.hi;refine Qmr (R:=R) (d:=m-m') ha.tr hb.tr ha.n hb.n ha.n2 hb.n2 Fu Fu λe ep=>?_
  obtain⟨q,w,z,C⟩:∃q,u.lo<=q/\q<=m'/\Gw (Gf a.p q)<e:=by
   rcases hu.lo' with h1|⟨h1,_⟩
   .obtain⟨x,y,hx,j,g⟩:=ha.van e ep;rcases Hk x u.lo with c|c
    .exact⟨u.lo,Qp,Qq (f.lt h1 o),by rw[<-Gd];exact g u.lo c (Qq (f.lt h1 j))⟩
    .exact⟨x,Qq c,Qq (f.lt hx o),by rw[<-Gd];exact g x Qp (Qq (f.lt hx j))⟩
   .refine⟨u.lo,Qp,?_,by rw[<-Gd,HB f h1 ha.van,Sl];exact ep⟩;rcases Hk u.lo m' with c|c
    .exact c
    .have:=f.mono m' u.lo c Fo;omega
  obtain⟨r,r1,r2,A⟩:∃r,r<=v.hi/\m<=r/\Gw (Gf b.p r)<e:=by
   rcases hv.hi' with h1|h1
   .refine⟨v.hi,Qp,?_,by rw[<-Gd,HB cb h1 hb.van,Sl];exact ep⟩;rcases Hk m v.hi with c|c
    .exact c
    .have:=cb.mono v.hi m c Fo;omega
   .obtain⟨x,y,hx,j,g⟩:=hb.van e ep;rcases Hk v.hi y with c|c
    .exact⟨v.hi,Qp,Qq (cb.lt l h1),by rw[<-Gd];exact g v.hi (Qq (cb.lt hx h1)) c⟩
    .exact⟨y,Qq c,Qq (cb.lt l j),by rw[<-Gd];exact g y (Qq (cb.lt hx j)) Qp⟩
  have c:Gw (q-r)=r-q:=by unfold Gw;split <;> grind
  have b1:Gw q<=R:=by
   have:=TP (R:=R) (x:=u.lo) (y:=m') (t:=q) Fu Fu w z;exact this
  have B:Gw r<=R:=by
   have:=TP (R:=R) (x:=m) (y:=v.hi) (t:=r) Fu Fu r2 r1;exact this
  refine⟨q,r,b1,B,by rw[c];grind,?_,C,A⟩;rw[c];have:=Zb (show r-q<=v.hi-u.lo by grind) i;exact Zn this hw
 .exact hw
theorem sA{a b:Tm}(ha:Va a)(hb:Va b){k f d k':Nat}{v:Tm}(hu:Hv a D M k u)(hv:Hv b f d k' v)(c:¬sR a b)(h:Ak u v=true):M9 a b:=by
 have h1:=(of_decide_eq_true h).1;have h1:=Dm.1 h1;rcases tri ha.cut hb.cut with h2|h2|⟨m,l,i⟩
 .exact h2
 .exact absurd h2 c
 .exfalso;have g:m<u.hi:=by
   rcases Hk u.hi m with e|e
   .rcases Classical.em (u.hi=m)with e'|e'
    .have:=hu.hi';rw[e']at this;omega
    .have:=ha.cut.mono u.hi m Fu (by have:=hu.hi';omega);omega
   .exact e
  have j:v.lo<m:=by
   rcases Hk m v.lo with e|e
   .rcases Classical.em (m=v.lo)with e'|e'
    .have:=hv.lo';rw[<-e']at this;omega
    .have:=hb.cut.mono m v.lo Fu Fo;have:=hv.lo';omega
   .exact e
  grind
theorem Qei{a b:Tm}(ha:Va a)(hb:Va b){k d c k':Nat}{v:Tm}(hu:Hv a D M k u)(hv:Hv b d c k' v)(f:M9 a b)(h:Ak u v≠true):v.lo<=u.hi:=by
 rcases Hk v.lo u.hi with e|e
 .exact e
 .refine absurd (decide_eq_true ⟨Dm.2 (Qq e),λg=>?_⟩) h;have:=Rh.1 g.2;grind
theorem kY(m:Nat):((2^(m+1):Nat):Rat)=2*((2^m:Nat):Rat):=by rw[Zq];push_cast;grind
def Qyi(a b:Tm)(r:Tm×Tm×Int):Prop:=r.2.2=-1/\M9 a b\/r.2.2=1/\M9 b a
theorem yA(A B:U8):Sw A B=Sw B A:=by unfold Sw;rw[Nat.add_comm A.length,Nat.add_comm (Rm A)]
theorem Q2w{a b:Tm}(ha:Va a)(hb:Va b)(g:¬sR a b){B o:Nat}(hM:0<M)(H:0<o):∀(i j:Nat) (u v:Tm) (k k':Nat) (W:Rat),2*i+1<=j->Hv a D M k u->Hv b B o k' v->Gm (D:Int)+Gm (M:Int)+(k+j)<=16777216->Gm (B:Int)+Gm (o:Int)+(k'+j)<=16777216->u.hi-u.lo<=W->v.hi-v.lo<=W->2*W*((2^(Sw a.p b.p+1):Nat):Rat)<=((2^i:Nat):Rat)->∃r,xP j u v=some r/\Qyi a b r:=by
 intro i;have step:∀(j:Nat) (u v:Tm) (k k':Nat),Hv a D M k u->Hv b B o k' v->Gm (D:Int)+Gm (M:Int)+(k+(j+1))<=16777216->Gm (B:Int)+Gm (o:Int)+(k'+(j+1))<=16777216->(∃r,xP (j+1) u v=some r/\Qyi a b r)\/(Ak u v≠true/\Ak v u≠true/\∃u' C E c,xP (j+1) u v=xP j u' C/\Hv a D M E u'/\Hv b B o c C/\E<=k+1/\c<=k'+1/\(v.hi-v.lo<=u.hi-u.lo/\u'.hi-u'.lo<=(u.hi-u.lo) / 2/\C=v\/u.hi-u.lo<=v.hi-v.lo/\C.hi-C.lo<=(v.hi-v.lo) / 2/\u'=u)):=by
  intro j u v k k' hu hv hs d;by_cases h1:Ak u v=true
  .exact .inl ⟨(u,v,-1),by simp only[xP];rw[if_pos h1],.inl ⟨rfl,sA ha hb hu hv g h1⟩⟩
  by_cases h2:Ak v u=true
  .exact .inl ⟨(u,v,1),by simp only[xP];rw[if_neg h1,if_pos h2],.inr ⟨rfl,sA hb ha hv hu (λh=>g λq=>(h q).symm) h2⟩⟩
  refine .inr ⟨h1,h2,?_⟩;by_cases h3:0<=Hu (zM u.hi u.lo) (zM v.hi v.lo)
  .obtain⟨x,x1,x2,I,_⟩:=fG hu hM Fo;refine⟨x,v,k+1,k',?_,x2,hv,Fo,Fo,.inl ⟨?_,I,rfl⟩⟩
   .simp only[xP];rw[if_neg h1,if_neg h2,if_pos h3,x1];rfl
   .have:=LM.1 h3;rwa[ER,ER]at this
  .obtain⟨x,x1,x2,I,_⟩:=fG hv H Fo;refine⟨u,x,k,k'+1,?_,hu,x2,Fo,Fo,.inr ⟨?_,I,rfl⟩⟩
   .simp only[xP];rw[if_neg h1,if_neg h2,if_neg h3,x1];rfl
   .rcases Hk (u.hi-u.lo) (v.hi-v.lo)with e|e
    .exact e
    .refine absurd (LM.2 ?_) h3;rw[ER,ER];exact Qq e
 induction i with
 |
  zero =>
  intro j u v k k' W V hu hv hs d X L t;obtain⟨j,rfl⟩:∃m,j=m+1:=⟨j-1,Fo⟩;rcases step j u v k k' hu hv hs d with h|⟨h1,h2,_⟩
  .exact h
  .exfalso;have f:(0:Rat)<=((2^(Sw a.p b.p+1):Nat):Rat):=Xm;rw[Yu]at t;rcases tri ha.cut hb.cut with h3|h3|h3
   .have h4:=Qei ha hb hu hv h3 h1;have h5:=fK ha hb hu hv h3;have T:=Zb (show v.hi-u.lo<=2*W by clear step;grind) f;have N:((1:Nat):Rat)=1:=rfl;rw[N]at t;clear step;grind
   .exact g h3
   .have h4:=Qei hb ha hv hu h3 h2;have h5:=fK hb ha hv hu h3;rw[yA]at h5;have T:=Zb (show u.hi-v.lo<=2*W by clear step;grind) f;have N:((1:Nat):Rat)=1:=rfl;rw[N]at t;clear step;grind
 |
  succ i ih =>
  intro j u v k k' W V hu hv hs d X L t;obtain⟨j,rfl⟩:∃m,j=m+2:=⟨j-2,Fo⟩;have hd:∀x:Rat,x / 2*2=x:=λx=>Hq Fp
  rcases step (j+1) u v k k' hu hv hs d with h|⟨_,_,J,K,E,c,Z,s,z,Q,O,l⟩
  .exact h
  .rw[Z];rcases step j J K E c s z Fo Fo with h|⟨_,_,u2,F,k2,G,U,A,w,R,P,n⟩
   .exact h
   .rw[U];have a1:=hd (u.hi-u.lo);have a2:=hd (v.hi-v.lo);have a3:=hd (J.hi-J.lo);have a4:=hd (K.hi-K.lo);have a5:=hd W;have b1:=hu.le;have b2:=hv.le;have b3:=s.le;have b4:=z.le;have b5:=A.le;have b6:=w.le;have y:u2.hi-u2.lo<=W / 2/\F.hi-F.lo<=W / 2:=by
     clear step ih;rcases l with⟨Y,S,rfl⟩|⟨Y,S,rfl⟩ <;> rcases n with⟨d1,d2,rfl⟩|⟨d1,d2,rfl⟩ <;> constructor <;> grind
    refine ih j u2 F k2 G (W / 2) Fo A w Fo Fo y.1 y.2 ?_;rw[kY i]at t;have:2*(W / 2)*((2^(Sw a.p b.p+1):Nat):Rat)*2=2*W*((2^(Sw a.p b.p+1):Nat):Rat):=by clear step ih l n;grind
    clear step ih l n;grind
def CmpOk(a b:Tm)(c:Int):Prop:=c=-1/\M9 a b\/c=0/\sR a b\/c=1/\M9 b a
theorem Va.hv0{t:Tm}(h:Va t):∃D M k,Hv t D M k t/\0<M/\Gm (D:Int)+Gm (M:Int)+k<=lim t:=by
 obtain⟨D,M,k,h1,h2,h3,h4⟩:=h.g;exact⟨D,M,k,⟨rfl,h.i,λ_=>rfl,h1,h2⟩,h3,h4⟩
variable{a:Tm}
theorem Qaf(ha:Va a)(hp:a.point=true)(q:Rat):Gt a q=Hu a.lo q:=Iv (ha.pt hp).1 q
variable{x:Rat}
theorem uB{b:Tm}(hb:Va b)(hx:∀q,Gt a q=Hu x q):CmpOk a b (-Gt b x):=by
 have cb:=hb.cut;rcases cb.val x with h|h|h
 .obtain⟨q,d,c⟩:=cb.up x h;refine .inl ⟨Fo,q,?_,c⟩;rw[hx];rcases Bl x q with⟨e,e'⟩|⟨e,e'⟩|⟨e,e'⟩ <;> grind
 .exact .inr (.inl ⟨Fo,λq=>by rw[hx,XJ cb h]⟩)
 .obtain⟨q,d,c⟩:=cb.dn x h;refine .inr (.inr ⟨Fo,q,c,?_⟩);rw[hx];rcases Bl x q with⟨e,e'⟩|⟨e,e'⟩|⟨e,e'⟩ <;> grind
theorem CmpOk.symm{b:Tm}{c:Int}(h:CmpOk a b c):CmpOk b a (-c):=by
 rcases h with⟨h1,h2⟩|⟨h1,h2⟩|⟨h1,h2⟩
 .exact .inr (.inr ⟨Fo,h2⟩)
 .exact .inr (.inl ⟨Fo,λq=>(h2 q).symm⟩)
 .exact .inl ⟨Fo,h2⟩
theorem Q1z:Szz 9 1260:=⟨Fp,Fp⟩
theorem TR(g:U8)(lo hi:Rat):TG g lo hi=true↔iP (cz g) lo hi:=by
 unfold TG iP;rw[decide_eq_true_iff,M7,nP,Gd]
theorem nY{g:U8}(a:Gg g)(hn:g.length≠0){lo hi:Rat}(h:iP (cz g) lo hi):1<g.length:=by
 rcases Q7 1 g.length with e|e
 .exact e
 .exfalso;obtain⟨c,rfl⟩:∃c,g=[c]:=V3.1 Fo;have hc:c≠0:=by have:=Tg a Ft;simpa using this
  have hv:∀t,ev (cz [c]) t=(c:Rat):=λt=>by rw[Gd];simp only[Gf];grind
  have hs:Gu (c:Rat)≠0:=λh=>ZU hc (Hy.1 h)
  unfold iP at h;rw[hv,O3 (by rw[hv];exact hs),hv]at h;rcases h with h|h
  .exact hs h
  .exact h rfl
theorem qJ{q:Rat}:Gw q<=((2^Gm q.num:Nat):Rat):=by
 have h1:Gm q.num<=Gm q.num:=Ql _;rw[Pi]at h1;have e:(q.num:Rat)=q*(q.den:Rat):=by
  have:(q.num:Rat) / (((q.den:Int)):Rat)=q:=by rw[To,Z9]
  have h2:(q.num:Rat) / (q.den:Rat)*(q.den:Rat)=q.num:=Zg (by have:=nat_pos q.den_pos;grind);rw[show(q.num:Rat) / (q.den:Rat)=q from this]at h2;exact h2.symm
 have hd:(1:Rat)<=(q.den:Rat):=by
  have:((1:Nat):Rat)<=(q.den:Rat):=Zd.2 q.den_pos;exact this
 have h2:Gw q<=Gw (q.num:Rat):=by
  rw[e,I2];have:Gw (q.den:Rat)=(q.den:Rat):=by unfold Gw;rw[if_neg Fu]
  rw[this];have:=Bq (a:=Gw q) (c:=1) (Tr q) Qp Fp hd;grind
 rw[P9]at h2;exact Zn h2 (Zd.2 (Ys h1))
theorem BK{w:Nat}(h:Gm a.lo.num+Gm a.hi.num<=w):a.hi-a.lo<=((2^(w+1):Nat):Rat):=by
 have h1:=qJ (q:=a.lo);have h2:=qJ (q:=a.hi);have h3:((2^Gm a.lo.num:Nat):Rat)<=((2^w:Nat):Rat):=Zd.2 (Zp Fp Fo);have h4:((2^Gm a.hi.num:Nat):Rat)<=((2^w:Nat):Rat):=Zd.2 (Zp Fp Fo);rw[kY];rw[Nj]at h1 h2;grind
variable{p:U8}
theorem E5{s:Nat}(h:Bd s p):Rm p<=s:=by
 have:=Bu h p.length;rwa[Q6]at this
theorem Qqc{b:Tm}(ha:Va a)(hb:Va b)(c:a.point=false)(pb:b.point=false):Be a b<=9000000:=by
 have d:=ha.qsn c;have e:=hb.qsn pb;have l1:=ha.n;have l2:=hb.n;have f:=E5 (ha.bi c);have i:=E5 (hb.bi pb);have b1:=d.1.1;have h:=d.2.1;have j:=e.1.1;have g:=e.2.1;have:4*(a.p.length+b.p.length)*(Rm a.p+Rm b.p+(a.p.length+b.p.length)+8)<=4*18*2600:=Zf Fo Fo;unfold Be;omega
theorem Qi6{b:Tm}(ha:Va a)(hb:Va b)(i:a.point=false)(pb:b.point=false)(g:¬sR a b):∃r,xP (Be a b) a b=some r/\Qyi a b r:=by
 obtain⟨D,M,k,h1,h2,h3⟩:=ha.hv0;obtain⟨t,s,k',d,h,f⟩:=hb.hv0;rw[fB i]at h3;rw[fB pb]at f;have o:=Qqc ha hb i pb;obtain⟨w,m⟩:=nmE (Gm a.lo.num+Gm a.hi.num+Gm b.lo.num+Gm b.hi.num);obtain⟨K,l⟩:=nmE (Rm a.p+Rm b.p+(a.p.length+b.p.length)+8);obtain⟨n,hn⟩:=nmE (a.p.length+b.p.length);have l1:=ha.n2;have l2:=hb.n2;have c:Be a b=64+2*w+4*n*K:=by unfold Be;rw[m,l,hn]
 have hg:Sw a.p b.p=K*(2*(n-2)-1):=by unfold Sw;rw[l,hn]
 have j:Sw a.p b.p+5*K<=2*n*K:=by
  rw[hg,Zt K,<-Jj];exact Qz _ Fo
 have q:8<=K:=Fo;refine Q2w ha hb g h2 h (31+w+2*n*K) (Be a b) a b k k' ((2^(w+1):Nat):Rat) ?_ h1 d Fo Fo (BK Fo) (BK Fo) ?_
 .rw[c,Xw,Xy 4,Xy 2 n];omega
 .have e:2*(2^(w+1))*(2^(Sw a.p b.p+1))<=2^(31+w+2*n*K):=by
   rw[Zt 2,<-Zq,<-Xj];exact Zp Fp Fo
  have:=Zd.2 e
  push_cast at this ⊢
  exact this
theorem QP{b:Tm}(ha:Va a)(hb:Va b):∃c,RE a b=some c/\CmpOk a b c:=by
 unfold RE;by_cases i:a.point=true
 .rw[if_pos i];exact⟨_,rfl,uB hb (Qaf ha i)⟩
 rw[if_neg i];by_cases pb:b.point=true
 .rw[if_pos pb];have:=(uB ha (Qaf hb pb)).symm;rw[Int.neg_neg]at this;exact⟨_,rfl,this⟩
 rw[if_neg pb];have i:a.point=false:=by simpa using i
 have pb:b.point=false:=by simpa using pb
 obtain⟨L,V⟩:=ha.iv i;obtain⟨F,y⟩:=hb.iv pb;have o:∀q,Gt a q=cq (cz a.p) a.lo a.hi q:=Bi V.l;have m:∀q,Gt b q=cq (cz b.p) b.lo b.hi q:=Bi y.l;obtain⟨lo,d⟩:=nmE (if 0<Hu b.lo a.lo then b.lo else a.lo);obtain⟨hi,e⟩:=nmE (if Hu b.hi a.hi<0 then b.hi else a.hi);show ∃c,(if Hu (if 0<Hu b.lo a.lo then b.lo else a.lo) (if Hu b.hi a.hi<0 then b.hi else a.hi)<0 then _ else _)=some c/\_;rw[<-d,<-e];have A:(0<Hu b.lo a.lo)=(a.lo<b.lo):=propext Dl;have B:(Hu b.hi a.hi<0)=(b.hi<a.hi):=propext Dn;have z:(Hu lo hi<0)=(lo<hi):=propext Dn;simp only[A]at d;simp only[B]at e;simp only[z];obtain⟨g,C,j,E,D⟩:=iR Q1z ha.tr hb.tr ha.n hb.n (ha.bi i) (hb.bi pb) (by have:=ha.n2;omega);obtain⟨U,W,hc⟩:=j.c;obtain⟨u,hu⟩:=j.da;obtain⟨u',hu'⟩:=j.db;have f:=V.same y (g:=cz g) (u:=u) (u':=u') (U:=U) (W:=W) (k:=1) Fp hu hu' (λt=>by rw[Gd,Gd,Gd,hc];grind) (a:=lo) (b:=hi) (by rw[d];split <;> grind) (by rw[d];split <;> grind) (by rw[d];split <;> simp) (by rw[e];split <;> grind) (by rw[e];split <;> grind) (by rw[e];split <;> simp);have w:(∀q,cq (cz a.p) a.lo a.hi q=cq (cz b.p) b.lo b.hi q)↔sR a b:=by
  unfold sR;constructor
  .intro h q;rw[o,m];exact h q
  .intro h q;rw[<-o,<-m];exact h q
 rw[w]at f;have fin:¬sR a b->∃c,((xP (Be a b) a b).bind λr=>some r.2.2)=some c/\CmpOk a b c:=λv=>by
  obtain⟨r,r1,r2⟩:=Qi6 ha hb i pb v;refine⟨r.2.2,by rw[r1];rfl,?_⟩;rcases r2 with h|h
  .exact .inl h
  .exact .inr (.inr h)
 by_cases hl:lo<hi
 .rw[if_pos hl,C];show ∃c,(if 1<g.length/\TG g lo hi=true then some 0 else(xP (Be a b) a b).bind λr=>some r.2.2)=some c/\_;by_cases s:TG g lo hi=true
  .have x:=(TR g lo hi).1 s;rw[if_pos ⟨nY j.t j.n x,s⟩];exact⟨0,rfl,.inr (.inl ⟨rfl,f.1 ⟨hl,x⟩⟩)⟩
  .rw[if_neg λh=>s h.2];exact fin λh=>s ((TR g lo hi).2 (f.2 h).2)
 .rw[if_neg hl];exact fin λh=>hl (f.2 h).1
def SgT(p:U8)(a:Tm)(s:Int):Prop:=s=0/\Il (cz p) (Gt a)\/s≠0/\NZ (cz p) (Gt a) s
variable{c:Rat->Int}
theorem Q1n(hc:Cut c)(h:c x=0):Hp p x=0/\Il (cz p) c\/Hp p x≠0/\NZ (cz p) c (Hp p x):=by
 rw[M7,<-Gd];rcases WP hc (cz p)with h1|⟨s,hs,h1⟩
 .exact .inl ⟨Hy.2 (HB hc h h1),h1⟩
 .have:=bX hc h h1;rw[this];exact .inr ⟨hs,h1⟩
theorem Nb{l:U9}{lo hi:Rat}(h:lo<=hi):Hw l lo hi=(vv (l.map cz) lo:Int)-(vv (l.map cz) hi:Int):=by
 unfold Hw;rw[if_neg λa=>by have:=Dn.1 a;grind,YR,YR]
theorem Q1o{q:U8}{L:Fc}(hp:Gg p)(np:p.length<=9)(lp:2<=p.length)(Z:HL (cz q) L)(H:Ee (cz q) (cz p))(ha:Va a){s:Int}(I:NZ (cz p) (Gt a) s){D M k:Nat}{x:Tm}(hx:Hv a D M k x)(hl:x.lo<x.hi)(hv:vv L x.lo≠vv L x.hi):1<(x.hi-x.lo)*((2^(Sw a.p p+1):Nat):Rat):=by
 rcases Hk ((x.hi-x.lo)*((2^(Sw a.p p+1):Nat):Rat)) 1 with hw|hw
 .exfalso;have g:=ha.cut;obtain⟨d,dp,x1,t,c1,P,hn⟩:=I;obtain⟨x2,W,O⟩:=g.up x1 c1;obtain⟨J,N,V⟩:=g.dn t P;have i:(0:Rat)<=((2^(Sw a.p p+1):Nat):Rat):=Xm;obtain⟨z,zp,z1,z2⟩:=min2 (a:=x2-x1) (b:=t-J) (by clear hn;grind) (by clear hn;grind);obtain⟨R0,B,r1,r2⟩:=wM x.lo x.hi;obtain⟨u,hu⟩:=H;refine Qmr (R:=R0+1) (d:=z) ha.tr hp ha.n np ha.n2 lp (by clear hn;grind) zp λe ep=>?_
  obtain⟨q0,Q,S,q3,q4,q5⟩:∃q0,x.lo<=q0/\q0<=x.hi/\x2<=q0/\q0<=J/\Gw (Gf a.p q0)<e:=by
   rcases hx.lo' with h1|⟨h1,h2⟩
   .obtain⟨o,y',l,E,C⟩:=ha.van e ep;obtain⟨m,w,U,m3,m4⟩:∃m,Gt a m=1/\x.lo<=m/\x2<=m/\o<=m:=by
     rcases Hk x.lo x2 with e1|e1
     .rcases Hk x2 o with e2|e2
      .exact⟨o,l,by clear hn C;grind,e2,Qp⟩
      .exact⟨x2,O,e1,Qp,Qq e2⟩
     .rcases Hk x.lo o with e2|e2
      .exact⟨o,l,e2,by clear hn C;grind,Qp⟩
      .exact⟨x.lo,h1,Qp,Qq e1,Qq e2⟩
    refine⟨m,U,?_,m3,Qq (g.lt w V),by rw[<-Gd];exact C m m4 (Qq (g.lt w E))⟩;rcases hx.hi' with h3|h3
    .rcases Hk m x.hi with e1|e1
     .exact e1
     .have:=g.mono x.hi m e1 Fo;omega
    .exact Qq (g.lt w h3)
   .exact absurd h2 (by clear hn;grind)
  obtain⟨b,hb⟩:=nmE (mB R0 u);have F:0<=b:=by rw[hb];exact VL B u
  obtain⟨f,fp,_,X⟩:=Ta (b:=b) (d:=if e<=d then e else d) F (by split <;> assumption);obtain⟨r,T,Y,r5⟩:=tM Z hl hv fp;have G:Gw r<=R0:=TP r1 r2 T Y;have j:Gw (Gf p r)<(if e<=d then e else d):=by
   rw[<-Gd,hu];have:=Rw (Qq r5) (BB G u);rw[<-hb]at this;exact Jp.1 λh=>absurd (Zn h this) (Jp.2 X)
  have v:Gw (Gf p r)<e:=by split at j <;> (clear hn;grind)
  have A:Gw (Gf p r)<d:=by split at j <;> (clear hn;grind)
  have c:r<x1\/t<r:=by
   rcases Hk x1 r with e1|e1
   .rcases Hk r t with e2|e2
    .have:=(hn r e1 e2).2;rw[Gd]at this;exact absurd this (Jp.2 A)
    .exact .inr e2
   .exact .inl e1
  have y:z<=Gw (q0-r):=by
   clear hn;rcases c with h|h
   .have:Gw (q0-r)=q0-r:=by unfold Gw;split <;> grind
    rw[this];grind
   .have:Gw (q0-r)=r-q0:=by unfold Gw;split <;> grind
    rw[this];grind
  have K:Gw q0<=R0:=TP r1 r2 Q S;refine⟨q0,r,by clear hn;grind,by clear hn;grind,y,?_,q5,v⟩;have h1:Gw (q0-r)<=x.hi-x.lo:=by rw[Nj];clear hn;constructor <;> grind
  exact Zn (Zb h1 i) hw
 .exact hw
theorem Qpx{p q:U8}{l:U9}(hp:Gg p)(np:p.length<=9)(lp:2<=p.length)(g:HL (cz q) (l.map cz))(b:Ee (cz q) (cz p)){a:Tm}(ha:Va a){s:Int}(d:NZ (cz p) (Gt a) s){D M:Nat}(hM:0<M):∀(j i:Nat) (x:Tm) (k:Nat) (W:Rat),i+1<=j->Hv a D M k x->Gm (D:Int)+Gm (M:Int)+(k+j)<=16777216->x.hi-x.lo<=W->W*((2^(Sw a.p p+1):Nat):Rat)<=((2^i:Nat):Rat)->∃u k',sgF l j x=some u/\Hv a D M k' u/\(u.point=true\/Hw l u.lo u.hi=0)
 | 0,i,x,k,W,h,_,_,_,_=>Fo
 |
  j+1,i,x,k,W,hj,hx,hs,hW,hK=>by
  simp only[sgF];by_cases h:x.point=true\/Hw l x.lo x.hi=0
  .rw[if_pos h];exact⟨x,k,rfl,hx,h⟩
  .rw[if_neg h];obtain⟨v,o,m,t,_⟩:=fG hx hM Fo;rw[o];show ∃u k',sgF l j v=some u/\_;have n:¬x.hi<=x.lo:=λf=>h (.inl (Nv.2 f))
   have hl:x.lo<x.hi:=Fu;have e:vv (l.map cz) x.lo≠vv (l.map cz) x.hi:=λf=>h (.inr (by rw[Nb (Qq hl)];omega))
   have hg:=Q1o hp np lp g b ha d hx hl e;have c:(0:Rat)<=((2^(Sw a.p p+1):Nat):Rat):=Xm;have hd:∀x:Rat,x / 2*2=x:=λx=>Hq Fp
   cases i with
   |
    zero =>
    exfalso;rw[Yu]at hK;have:=Zb hW c;have r:((1:Nat):Rat)=1:=rfl;rw[r]at hK;grind
   |
    succ i =>
    refine Qpx hp np lp g b ha d hM j i v (k+1) (W / 2) Fo m Fo ?_ ?_
    .have:=hd (x.hi-x.lo);have:=hd W;grind
    .rw[kY i]at hK;have:=hd W;have:W / 2*((2^(Sw a.p p+1):Nat):Rat)*2=W*((2^(Sw a.p p+1):Nat):Rat):=Fu;grind
theorem bG{x y:Rat}:∀{ws:Fc},(∀w∈ws,Gu (ev w x)=Gu (ev w y))->Gu (ev (XM ws) x)=Gu (ev (XM ws) y)
 | [],_=>by simp only[XM];rw[S7,S7]
 |
  w::l,h=>by
  simp only[XM];rw[Gl,Gl,Mn,Mn,h w (Qy ..),bG λv hv=>h v (Qi _ hv)]
theorem Qhy{q o:U8}(f:Parts p q o)(r:Gg p)(hp:p.length≠0){L:Fc}(i:HL (cz q) L){y:Rat}(d:x<y)(hv:vv L x=vv L y):∃s,s≠0/\∀z,x<z->z<=y->Gu (Gf p z)=s:=by
 obtain⟨ws,w1,j⟩:=f.ws;obtain⟨_,_,_,_,_,m,k⟩:=M6 r hp;have b:∀z,x<z->z≤y->∀w∈ws.map cz,Sm w x z:=λz h1 h2 w c=>by
  obtain⟨v,g,rfl⟩:=Q8.1 c;obtain⟨u,hu⟩:=(w1 v g).2;have a1:=Iq i h1;have a2:vv L y<=vv L z:=by
   rcases Classical.em (z=y)with e|e
   .rw[e];exact Ql _
   .exact Iq i Fu
  exact FI i hu h1 Fo
 have a:∀z,Gf p z=(Ro p:Rat)*ev (XM (ws.map cz)) z:=λz=>by rw[k,j]
 refine⟨Gu (Gf p y),λh0=>?_,λz h1 h2=>?_⟩
 .rw[a,Mn]at h0;rcases J5.1 h0 with h|h
  .exact ZU m (Hy.1 h)
  .have:∀l:Fc,(∀w∈l,Gu (ev w y)≠0)->Gu (ev (XM l) y)≠0:=by
    intro l
    induction l with
    |nil=>intro _;simp only[XM];rw[S7];decide
    |
     cons w l ih =>
     intro h;simp only[XM];rw[Gl,Mn];exact Jw (h w (Qy ..)) (ih λv hv=>h v (Qi _ hv))
   refine this _ (λw c=>?_) h;have hs:=b y d Qp w c;rw[hs.s];exact hs.n
 .rw[a,a,Mn,Mn,bG (y:=y) λw c=>(b z h1 h2 w c).s.trans (b y d Qp w c).s.symm]
theorem Qmv{g P:U8}(hc:Cut c)(hg:Gc g p P):Il (cz g) c↔Il (cz p) c/\Il (cz P) c:=by
 constructor
 .intro h;obtain⟨u,hu⟩:=hg.da;obtain⟨v,hv⟩:=hg.db;exact⟨Nk hc hu h,Nk hc hv h⟩
 .rintro⟨h1,h2⟩
  obtain⟨U,V,a⟩:=hg.c;have a1:Il (Hz U (cz p)) c:=Nk hc (p:=cz p) (q:=U) (λt=>by rw[Gl];grind) h1;have a2:Il (Hz V (cz P)) c:=Nk hc (p:=cz P) (q:=V) (λt=>by rw[Gl];grind) h2;exact EB (λt=>by rw[Gd,a,Gl,Gl,Gd,Gd]) a1 a2
theorem Qp4(hp:Okp 9 1180 p)(ha:Va a):∃s,FD p a=some s/\SgT p a s:=by
 unfold FD;rw[if_neg hp.nz];have B:=ha.cut;by_cases f:a.point=true
 .rw[if_pos f];exact⟨_,rfl,Q1n B (x:=a.lo) (by rw[Qaf ha f,Et])⟩
 rw[if_neg f];have f:a.point=false:=by simpa using f
 obtain⟨L,V⟩:=ha.iv f;have A:∀q,Gt a q=cq (cz a.p) a.lo a.hi q:=Bi V.l;obtain⟨g,g1,O,g3,g4⟩:=iR Q1z hp.t ha.tr hp.l ha.n (Fz hp.b Fo) (ha.bi f) hp.nz;obtain⟨u',hu'⟩:=O.db;have j:=V.has hu' (a:=a.lo) (b:=a.hi) Qp V.l Qp;have v:=Qmv B O;rw[show cq (cz a.p) a.lo a.hi=Gt a from(funext A).symm]at j;rw[g1];show ∃s,(if 1<g.length/\TG g a.lo a.hi=true then some 0 else _)=some s/\_;by_cases P:TG g a.lo a.hi=true
 .have I:=(TR g _ _).1 P;rw[if_pos ⟨nY O.t O.n I,P⟩];exact⟨0,rfl,.inl ⟨rfl,(v.1 (j.1 I).1).1⟩⟩
 .rw[if_neg λh=>P h.2];have T:¬Il (cz p) (Gt a):=λh=>P ((TR g _ _).2 (j.2 ⟨v.2 ⟨h,ha.van⟩,by rw[A];exact Cf Qp,by rw[A];exact V.hi1⟩))
  rcases WP B (cz p)with h|⟨s,xH,r⟩
  .exact absurd h T
  obtain⟨q,o,q1,q2,F⟩:=rQ hp;obtain⟨q',l,r1,r2,hS,Q⟩:=chain_ok hp;rw[q1]at r1;injection r1 with r1;subst r1;rw[r2];show ∃s,((sgF (q::l) (64+2*(Gm a.lo.num+Gm a.hi.num)+4*(a.p.length+p.length)*(Rm a.p+Rm p+(a.p.length+p.length)+8)) a).bind λx=>some (Hp p x.hi))=some s/\_;obtain⟨w,hw⟩:=nmE (Gm a.lo.num+Gm a.hi.num);obtain⟨K,hK⟩:=nmE (Rm a.p+Rm p+(a.p.length+p.length)+8);obtain⟨n,hn⟩:=nmE (a.p.length+p.length);rw[<-hw,<-hK,<-hn];obtain⟨gg,sq⟩:=F.sq;obtain⟨_,_,_,_,_,pf0,R⟩:=M6 hp.t hp.nz;have Z:Ee (cz q) (cz p):=⟨Nq (Ro p) (cz gg),λt=>by rw[Gd,Gd,G8,Gd,R,sq.e];grind⟩;obtain⟨D,M,k,h1,h2,h3⟩:=ha.hv0;rw[fB f]at h3;have b1:=(ha.qsn f).1.1;have b2:=(ha.qsn f).2.1;have l1:=ha.n;have l2:=hp.l;have l3:=ha.n2;have s1:=E5 (ha.bi f);have s2:=E5 hp.b;have hst:4*n*K<=4*18*2466:=Zf Fo Fo;have G:∃u k',sgF (q::l) (64+2*w+4*n*K) a=some u/\Hv a D M k' u/\(u.point=true\/Hw (q::l) u.lo u.hi=0):=by
   by_cases hpl:p.length<2
   .have Y:(Gj p)=[1]:=hp.pr.1.one (by have:=hp.pr.2.1;omega);have C:q.length<2:=by
     have e:=sq.e;rw[Y]at e;obtain⟨p1,p2⟩:=Rv (c:=[1]) rfl Ft e;have:=Sx sq.pg.t sq.pq.t (c:=[1]) rfl e p1 p2;simp at this;omega
    have H:Hw (q::l) a.lo a.hi=0:=by
     rw[Nb (Qq V.l),Q C,sq.pq.one C];have X:∀x:Rat,ev (cz [1]) x=1:=λx=>by rw[Gd,Rx]
     simp only[Xa,X8,vv,tc,X];omega
    refine⟨a,k,?_,h1,.inr H⟩;obtain⟨m,hm⟩:∃m,64+2*w+4*n*K=m+1:=⟨63+2*w+4*n*K,Fo⟩;rw[hm];simp only[sgF];rw[if_pos (.inr H)]
   .have hg:Sw a.p p=K*(2*(n-2)-1):=by unfold Sw;rw[hK,hn]
    have hgle:Sw a.p p+5*K<=2*n*K:=by
     rw[hg,Zt K,<-Jj];exact Qz _ Fo
    have hKp:8<=K:=Fo;have hnK:2*n*K<=4*n*K:=Qz _ Fo;obtain⟨u,k',W,u2,U⟩:=Qpx hp.t hp.l Fo hS Z ha r h2 (64+2*w+4*n*K) (2+w+2*n*K) a k ((2^(w+1):Nat):Rat) Fo h1 Fo (BK Fo) (by
     have e:(2^(w+1))*(2^(Sw a.p p+1))<=2^(2+w+2*n*K):=by
      rw[<-Xj];exact Zp Fp Fo
     have:=Zd.2 e
     push_cast at this ⊢
     exact this)
    exact⟨u,k',W,u2,U⟩
  obtain⟨u,k',W,u2,U⟩:=G;rw[W];refine⟨_,rfl,.inr ?_⟩;have E:Hp p u.hi=s:=by
   rcases u2.hi' with hz|hz
   .have:=bX B hz r;rw[M7,<-Gd];exact this
   .rcases u2.i with⟨e,_⟩|⟨L',N⟩
    .have:=u2.c u.hi;rw[Iv e,e,Et]at this;omega
    .have S:u.point=false:=by
      have:¬u.point=true:=λh=>by have:=Nv.1 h;have:=N.l;grind
      simpa using this
     rcases U with h|h
     .rw[S]at h;cases h
     .rw[Nb (Qq N.l)]at h;obtain⟨s',hs',z⟩:=Qhy F hp.t hp.nz hS N.l Fo;obtain⟨d,dp,x,y,hx,hy,I⟩:=r;have J:Gt a u.lo=1:=by
       rcases u2.lo' with h|⟨_,h⟩
       .exact h
       .have:=N.l;clear z I;grind
      obtain⟨m,m1,m2,m3⟩:=IL B J hx;have e1:=(I m (Qq m3) (Qq (B.lt m1 hy))).1;have e2:=z m m2 (Qq (B.lt m1 hz));have e3:=z u.hi N.l Qp;rw[M7,e3,<-e2,<-Gd,e1]
  rw[E];exact⟨xH,r⟩
structure Dp(p:List Int):Prop where
 t:Gg p
 l:p.length<=9
 b:Bd (1130+4*(9-p.length)) p
theorem rZ:Szz 9 1253:=⟨Fp,Fp⟩
variable{p:U8}
theorem Dp.ok(h:Dp p)(h0:p.length≠0):Okp 9 1180 p:=⟨rZ,h.t,h0,h.l,Fz h.b Fo⟩
theorem Dp.der(h:Dp p):Dp (Hh p):=by
 have hl:=P7 p;have a:=h.l;refine⟨Gs _ _,Fo,?_⟩;by_cases h0:p.length=0
 .rw[Qg (l:=Hh p) Fo];exact Om
 .exact Fz (PE h.b Fo) Fo
def G6(a:Tm)(p:U8):Int:=(FD p a).getD 0
variable{a:Tm}
theorem Qpv(h:Dp p)(ha:Va a):FD p a=some (G6 a p)/\SgT p a (G6 a p):=by
 by_cases h0:p.length=0
 .have e:p=[]:=Qg h0;subst e;refine⟨rfl,.inl ⟨rfl,λd dp=>?_⟩⟩;obtain⟨x,y,h1,h2,_⟩:=ha.cut.near (e:=1) Fp;exact⟨x,y,h1,h2,λq _ _=>by simp only[cz,X8,ev,Sl];exact dp⟩
 .obtain⟨s,h1,h2⟩:=Qp4 (h.ok h0) ha;have e:G6 a p=s:=by unfold G6;rw[h1];rfl
  rw[e];exact⟨h1,h2⟩
theorem Q1j{c:Rat->Int}{p q:Fb}{s:Int}(h:∀t,ev p t=ev q t)(hp:RS p c s):RS q c s:=by
 obtain⟨y,h1,h2⟩:=hp;exact⟨y,h1,λz h3 h4=>by rw[<-h];exact h2 z h3 h4⟩
theorem vX{a:Tm}(ha:Va a):∀(k:Nat) (p:U8),Dp p->p.length<=k->p.length≠0->RS (cz p) (Gt a) (Px (G6 a) k p)/\Px (G6 a) k p≠0
 | 0,p,_,h1,h2=>Fo
 |
  k+1,p,h,h1,h2=>by
  simp only[Px];rw[if_neg h2];obtain⟨_,hs⟩:=Qpv h ha;rcases hs with⟨e,hv⟩|⟨e,hn⟩
  .rw[if_pos e];have b:(Hh p).length≠0:=λh0=>by
    by_cases h3:p.length=1
    .obtain⟨c,rfl⟩:∃c,p=[c]:=V3.1 h3;have hc:c≠0:=by have:=Tg h.t Ft;simpa using this
     obtain⟨q,d,_⟩:=vN ha.cut (hv (Gw (c:Rat)) (L8 (ZU hc)));rw[Gd]at d;have:Gf [c] q=(c:Rat):=by simp only[Gf];grind
     rw[this]at d;grind
    .have h4:=M4 p (p.length-2);rw[Qg h0,show p.length-2+1=p.length-1 by omega]at h4;have h5:p.getD (p.length-1) 0≠0:=Tg h.t Fo;rcases J5.1 (h4.symm.trans Ft)with h6|h6
     .exact h5 h6
     .omega
   have hl:=P7 p;obtain⟨i1,i2⟩:=vX ha k (Hh p) h.der Fo b;exact⟨rI ha.cut hv (Q1j (λt=>by rw[Gd,C6,Si]) i1) i2,i2⟩
  .rw[if_neg e];exact⟨kE ha.cut hn,e⟩
theorem Ix(ha:Va a)(h:Dp p)(h0:p.length≠0):RS (cz p) (Gt a) (Rp (G6 a) p)/\Rp (G6 a) p≠0:=vX ha _ p h (Ql _) h0
theorem VI:Rp (G6 a) []=0:=rfl
theorem Quj{l:U8}:∀z∈l,z.natAbs≤most l:=by
 have a:∀(l:U8) (m:Nat),m≤l.foldl (λm z=>if m<z.natAbs then z.natAbs else m) m/\∀z∈l,z.natAbs≤l.foldl (λm z=>if m<z.natAbs then z.natAbs else m) m:=by
  intro l
  induction l with
  |nil=>exact λm=>⟨Ql _,λz hz=>by cases hz⟩
  |
   cons y l ih =>
   intro m;obtain⟨e,he⟩:=nmE (if m<y.natAbs then y.natAbs else m);have h1:m<=e/\y.natAbs<=e:=by rw[he];split <;> omega
   obtain⟨i1,i2⟩:=ih e;simp only[Xn];rw[<-he];refine⟨Fo,λz hz=>?_⟩;rcases Qm.1 hz with rfl|hz
   .omega
   .exact i2 z hz
 exact(a l 0).2
theorem VW(h:Gp p≠0):Hm p*((Gp p).natAbs:Rat)=((Gp p).natAbs:Rat)+((most (p.take (p.length-1)):Nat):Rat):=by
 unfold Hm;rw[<-To];have hp:0<(Gp p).natAbs:=Fo;have:=nat_pos hp;rw[show((((Gp p).natAbs:Int)):Rat)=((Gp p).natAbs:Rat) from rfl,Hq this];rw[Ku];rfl
theorem Qdi{m:Nat}{x:Rat}(hx:1≤Gw x):∀(p:U8) (lp:p.length≠0),(∀z∈p.take (p.length-1),z.natAbs≤m)->Gp p≠0->(m:Rat)≤(Gw x-1)*((Gp p).natAbs:Rat)->((Gp p).natAbs:Rat)≤Gf p x*(((Int.sign (Gp p))*(if x<0/\p.length % 2=0 then -1 else 1):Int):Rat)
 | [],lp,_,_,_=>absurd rfl lp
 |
  [c],_,_,hc,_=>by
  have hl:Gp [c]=c:=rfl;rw[hl]at hc ⊢;rw[if_neg Ft,W6];have h1:Gf [c] x=(c:Rat):=by simp only[Gf];grind
  rw[h1];have h2:c*Int.sign c=(c.natAbs:Int):=Int.mul_sign_self c;have:=congrArg (λz:Int=>(z:Rat)) h2;rw[Je]at this;rw[this];exact Qp
 |
  c::d::p,_,hm,hc,hb=>by
  have hl:Gp (c::d::p)=Gp (d::p):=by unfold Gp;simp[List.getD_cons_succ]
  have a:=Qdi hx (d::p) Ft (λz hz=>hm z (by
   have e:(c::d::p).take ((c::d::p).length-1)=c::(d::p).take ((d::p).length-1):=Ft;rw[e];exact Qi _ hz)) (by rw[<-hl];exact hc) (by rw[<-hl];exact hb)
  rw[hl]at hc hb ⊢;have n:=hm c Ft;obtain⟨s,hs⟩:∃s:Int,s=Int.sign (Gp (d::p)):=⟨_,rfl⟩;have j:s=1\/s=-1:=by
   rw[hs];rcases Kw hc with h|h
   .exact .inr (X6 h)
   .exact .inl (Jq h)
  rw[<-hs]at a ⊢;obtain⟨g,o⟩:∃g:Rat,g=((Gp (d::p)).natAbs:Rat):=⟨_,rfl⟩;rw[<-o]at a hb ⊢;have q:Gw (c:Rat)<=(m:Rat):=by rw[P9];exact Zd.2 n
  rw[Nj]at q;have r:Gf (c::d::p) x=(c:Rat)+x*Gf (d::p) x:=rfl;rw[r];have i:(c::d::p).length % 2=0↔¬(d::p).length % 2=0:=by simp only[Q5];omega
  generalize Gf (d::p) x=y at *;generalize (m:Rat)=mm at *;generalize (c:Rat)=cc at *;have k:=hx;by_cases b:x<0
  .have l:Gw x=-x:=by unfold Gw;rw[if_pos b]
   rw[l]at k hb;by_cases f:(d::p).length % 2=0
   .rw[if_pos ⟨b,f⟩]at a;rw[if_neg λh=>(i.1 h.2) f];rcases j with rfl|rfl
    .have a:g<=y*(-1):=by simpa using a
     have:=Xb a (show 0<=-x by grind);have e:(((1:Int)*1:Int):Rat)=1:=rfl;rw[e];grind
    .have a:g<=y*1:=by simpa using a
     have:=Xb a (show 0<=-x by grind);have e:(((-1:Int)*1:Int):Rat)=-1:=rfl;rw[e];grind
   .rw[if_neg λh=>f h.2]at a;rw[if_pos ⟨b,i.2 f⟩];rcases j with rfl|rfl
    .have a:g<=y*1:=by simpa using a
     have:=Xb a (show 0<=-x by grind);have e:(((1:Int)*-1:Int):Rat)=-1:=rfl;rw[e];grind
    .have a:g<=y*(-1):=by simpa using a
     have:=Xb a (show 0<=-x by grind);have e:(((-1:Int)*-1:Int):Rat)=1:=rfl;rw[e];grind
  .have l:Gw x=x:=by unfold Gw;rw[if_neg b]
   rw[l]at k hb;rw[if_neg λh=>b h.1]at a ⊢;rcases j with rfl|rfl
   .have a:g<=y*1:=by simpa using a
    have:=Xb a (show 0<=x by grind);have e:(((1:Int)*1:Int):Rat)=1:=rfl;rw[e];grind
   .have a:g<=y*(-1):=by simpa using a
    have:=Xb a (show 0<=x by grind);have e:(((-1:Int)*1:Int):Rat)=-1:=rfl;rw[e];grind
theorem eP(k:Gg p)(lp:p.length≠0){x:Rat}(hx:Hm p<=Gw x):1<=Gw (Gf p x)/\(0<=x->Hp p x=TY p)/\(x<0->Hp p x=YA p):=by
 have hl:=Do k lp;have c:0<(Gp p).natAbs:=Fo;have h1:(1:Rat)<=((Gp p).natAbs:Rat):=by
  have:((1:Nat):Rat)<=((Gp p).natAbs:Rat):=Zd.2 c;exact this
 have j:(0:Rat)<=((most (p.take (p.length-1)):Nat):Rat):=Xm;have hb:=VW hl;have i:=Zb hx (show(0:Rat)<=((Gp p).natAbs:Rat) by grind);have g:1<=Gw x:=by
  rcases Hk 1 (Gw x)with h|h
  .exact h
  .exfalso;have:=Jz h (show(0:Rat)<((Gp p).natAbs:Rat) by grind);grind
 have a:=Qdi (m:=most (p.take (p.length-1))) g p lp (λz hz=>Quj z hz) hl Fu;obtain⟨s,hs⟩:∃s:Int,s=Int.sign (Gp p)*(if x<0/\p.length % 2=0 then -1 else 1):=⟨_,rfl⟩;rw[<-hs]at a;have d:s=1\/s=-1:=by
  rw[hs];rcases Kw hl with h|h
  .rw[X6 h];split <;> simp
  .rw[Jq h];split <;> simp
 have b:Hp p x=s/\1<=Gw (Gf p x):=by
  rw[M7];rcases d with e|e
  .rw[e]at a ⊢;have a:((Gp p).natAbs:Rat)<=Gf p x:=by simpa using a
   exact⟨Tt.2 Fu,by unfold Gw;rw[if_neg Fu];grind⟩
  .rw[e]at a ⊢;have a:((Gp p).natAbs:Rat)<=Gf p x*(-1):=by simpa using a
   exact⟨M8.2 Fu,by unfold Gw;rw[if_pos Fu];grind⟩
 refine⟨b.2,λh=>?_,λh=>?_⟩
 .rw[b.1,hs,if_neg λf=>by have:=f.1;grind];unfold TY;omega
 .rw[b.1,hs];unfold YA;by_cases he:p.length % 2=0
  .rw[if_pos ⟨h,he⟩,if_pos he];omega
  .rw[if_neg λf=>he f.2,if_neg he];omega
theorem WS{f g:U8->Int}:∀{l:U9} (s:Nat×Int),(∀p∈l,f p=g p)->l.foldl (Pf f) s=l.foldl (Pf g) s
 | [],s,_=>rfl
 |
  p::l,s,h=>by
  simp only[Xn];have e:Pf f s p=Pf g s p:=by unfold Pf;rw[h p (List.mem_cons_self ..)]
  rw[e];exact WS _ λq a=>h q (Qi _ a)
theorem Qdd:∀(l:U9),(∀p∈l,Gg p/\p.length≠0)->∃X:Rat,0<X/\∀x,X≤x->(∀p∈l,Hp p x=TY p)/\∀p∈l,Hp p (-x)=YA p
 | [],_=>⟨1,Fp,λx _=>⟨(λp hp=>by cases hp),(λp hp=>by cases hp)⟩⟩
 |
  p::l,h=>by
  obtain⟨X,g,hl⟩:=Qdd l λq a=>h q (Qi _ a)
  obtain⟨c,lp⟩:=h p (Qy ..);refine⟨X+Gw (Hm p),by have:=Tr (Hm p);grind,λx hx=>?_⟩;have d:=Tr (Hm p);have e:Hm p<=Gw (Hm p):=by unfold Gw;split <;> grind
  obtain⟨l1,l2⟩:=hl x Fu;have b:Gw x=x:=by unfold Gw;rw[if_neg Fu]
  have f:Gw (-x)=x:=by rw[I3,b]
  refine⟨λq a=>?_,λq a=>?_⟩
  .rcases Qm.1 a with rfl|a
   .exact(eP c lp (x:=x) (by rw[b];grind)).2.1 Fu
   .exact l1 q a
  .rcases Qm.1 a with rfl|a
   .exact(eP c lp (x:=-x) (by rw[f];grind)).2.2 Fu
   .exact l2 q a
variable{q:U8}{L:Fc}
theorem Qbj(f:HL (cz q) L)(tq:Gg q)(c:q.length≠0){x y:Rat}(a:x<y)(h:Hm q<=x\/y<=-Hm q)(hb:0<Hm q):vv L x=vv L y:=by
 rcases Classical.em (vv L x=vv L y)with e|e
 .exact e
 .exfalso;obtain⟨r,r1,r2,b⟩:=tM f a e (d:=1) Fp;have:=(eP tq c (x:=r) (by rcases h with h|h <;> (unfold Gw;split <;> grind))).1;rw[Gd]at b;grind
theorem ZL(h:Gp p≠0):1<=Hm p:=by
 have hb:=VW h;have hp:=nat_pos (show 0<(Gp p).natAbs by omega);have a:(0:Rat)<=((most (p.take (p.length-1)):Nat):Rat):=Xm;rcases Hk 1 (Hm p)with h'|h'
 .exact h'
 .have:=Jz h' hp;grind
theorem kL{l:U9}(b:HL (cz q) ((q::l).map cz))(hl:∀p∈q::l,Gg p/\p.length≠0):WW (q::l)=(vv ((q::l).map cz) (-Hm q):Int)-(vv ((q::l).map cz) (Hm q):Int):=by
 obtain⟨tq,a⟩:=hl q (Qy ..);have hb:=ZL (Do tq a);obtain⟨X,e,hx⟩:=Qdd (q::l) hl;obtain⟨h1,h2⟩:=hx (X+Hm q) Fu;have d:De TY (q::l)=vv ((q::l).map cz) (X+Hm q):=by
  rw[<-YR];unfold Mw De;rw[WS (f:=TY) (g:=λp=>Hp p (X+Hm q)) (0,0) λp hp=>(h1 p hp).symm]
 have c:De YA (q::l)=vv ((q::l).map cz) (-(X+Hm q)):=by
  rw[<-YR];unfold Mw De;rw[WS (f:=YA) (g:=λp=>Hp p (-(X+Hm q))) (0,0) λp hp=>(h2 p hp).symm]
 unfold WW;rw[d,c,Qbj b tq a (x:=-(X+Hm q)) (y:=-Hm q) Fu (.inr Qp) Fu,<-Qbj b tq a (x:=Hm q) (y:=X+Hm q) Fu (.inl Qp) Fu]
theorem Qn5{f:Fb}(q:HL f L){x y:Rat}(g:x<y)(hv:vv L y+2<=vv L x):∃m,x<m/\m<y/\vv L m<vv L x/\vv L y<vv L m/\ev f m≠0:=by
 obtain⟨R,A,hx,j⟩:=wM x y;obtain⟨e,ep,he⟩:=Qqs q R A;have c:∀n:Nat,∀x,Gw x<=R->x<y->vv L y+2<=vv L x->y-x<=(n:Rat)*e->∃m,x<m/\m<y/\vv L m<vv L x/\vv L y<vv L m:=by
  intro n
  induction n with
  |zero=>intro x _ g _ hn;rw[show((0:Nat):Rat)=0 from rfl]at hn;exfalso;clear he;grind
  |
   succ n ih =>
   intro x hx g hv hn;have k:(((n+1:Nat):Rat))=(n:Rat)+1:=by push_cast;rfl
   rw[k]at hn;rcases Hk (y-x) e with h1|h1
   .have:=he x y hx j g h1;omega
   .have hm:Gw (x+e)<=R:=TP hx j (by clear he ih;grind) (by clear he ih;grind);have h2:=he x (x+e) hx hm (by clear he ih;grind) (by clear he ih;grind);have h3:=Iq q (show x<x+e by clear he ih;grind);by_cases h4:vv L x=vv L (x+e)
    .obtain⟨m,p,i,B,r⟩:=ih (x+e) hm (by clear he ih;grind) Fo (by clear he ih;grind);exact⟨m,by clear he ih;grind,i,Fo,r⟩
    .exact⟨x+e,by clear he ih;grind,by clear he ih;grind,Fo,Fo⟩
 obtain⟨n,hn⟩:=VK (z:=y-x) ep;obtain⟨m,p,i,B,r⟩:=c n x hx g hv hn;rcases Classical.em (ev f m=0)with h0|h0
 .-- a little farther on
  obtain⟨C,o,hl⟩:=loc A q (w:=f) (u:=[1]) (λt=>by rw[S7];grind);obtain⟨d,dp,E,F⟩:=min2 (a:=C) (b:=(y-m) / 2) o (Ev (by clear he c hl;grind) Fp);have h2:(y-m) / 2*2=y-m:=Hq Fp;have l:Gw m<=R:=TP hx j (Qq p) (Qq i);have h:Gw (m+d)<=R:=TP hx j (by clear he c hl;grind) (by clear he c hl;grind);rcases hl m (m+d) l h (by clear he c hl;grind) (by clear he c hl;grind)with⟨p1,p2,_⟩|⟨_,p1,_,v,_⟩
  .refine⟨m+d,by clear he c hl;grind,by clear he c hl;grind,Fo,Fo,λD=>?_⟩;have:=p2.s;rw[Hy.2 D]at this;exact p2.n this.symm
  .rw[Hy.2 h0]at v;exact absurd v.symm p1
 .exact⟨m,p,i,B,r,h0⟩
theorem Qwg(n:HL (cz q) L)(tq:Gg q)(t:q.length<=9)(o:2<=q.length){lo hi:Rat}(hl:lo<hi)(hv:vv L hi+2<=vv L lo):1<(hi-lo)*((2^(Sw q q+1):Nat):Rat):=by
 rcases Hk ((hi-lo)*((2^(Sw q q+1):Nat):Rat)) 1 with hw|hw
 .exfalso;have f:(0:Rat)<=((2^(Sw q q+1):Nat):Rat):=Xm;obtain⟨m,u,s,H,I,m0⟩:=Qn5 n hl hv;obtain⟨R,v,r1,r2⟩:=wM lo hi;have hd:=L8 m0;obtain⟨d,dp,_,db⟩:=Ta (b:=xE R (cz q)) (d:=Gw (ev (cz q) m) / 2) (Co v _) (Ev hd Fp);have w:Gw (ev (cz q) m) / 2*2=Gw (ev (cz q) m):=Hq Fp;have k:Gw m<=R:=TP r1 r2 (Qq u) (Qq s);have c:∀r,Gw r<=R->Gw (ev (cz q) r)<Gw (ev (cz q) m) / 2->d<Gw (r-m):=λr hr hs=>by
   rcases Hk (Gw (r-m)) d with h|h
   .exfalso;have h1:=Bp (p:=cz q) k hr v h db;have h2:=Mj (ev (cz q) m-ev (cz q) r) (ev (cz q) r);rw[show ev (cz q) m-ev (cz q) r+ev (cz q) r=ev (cz q) m by grind,Qe2]at h2;grind
   .exact h
  refine Qmr (R:=R+1) (d:=d+d) tq tq t t o o Fu Fu λe ep=>?_
  obtain⟨e',i,D,G⟩:=min2 (a:=e) (b:=Gw (ev (cz q) m) / 2) ep (Ev hd Fp);obtain⟨x,x1,x2,C⟩:=tM n u Fo i;obtain⟨y,E,B,F⟩:=tM n s Fo i;have j:Gw x<=R:=TP r1 r2 x1 Fu;have l:Gw y<=R:=TP r1 r2 Fu B;have nx:=c x j Fu;have z:=c y l Fu;have ex:Gw (x-m)=m-x:=by unfold Gw;split <;> grind
  have A:Gw (y-m)=y-m:=by unfold Gw;split <;> grind
  rw[ex]at nx;rw[A]at z;have g:Gw (x-y)=y-x:=by unfold Gw;split <;> grind
  refine⟨x,y,Fu,Fu,by rw[g];grind,?_,by rw[<-Gd];grind,by rw[<-Gd];grind⟩;rw[g];exact Zn (Zb (show y-x<=hi-lo by grind) f) hw
 .exact hw
theorem Qln:∀{k:Nat} {a b:U8} {l:U9},xU k a b=some l->∀p∈l,p.length≠0
 | 0,_,_,_,h=>by cases h
 |
  k+1,a,b,l,h=>by
  simp only[xU]at h
  split at h
  .injection h with h;subst h;exact λp hp=>by cases hp
  .rename_i h0;obtain⟨r,_,h⟩:=Qd.1 h;obtain⟨l',h1,h⟩:=Qd.1 h;injection h with h;subst h;intro p hp;rcases Qm.1 hp with rfl|hp
   .exact h0
   .exact Qln h1 p hp
variable{s:Nat}{p:U8}
theorem Okp.pb{n:Nat}(h:Okp n s p)(hs:s<=16777216):Pb p:=⟨h.t,by have:=h.l;have:=h.z.1;omega,Fz h.b hs⟩
variable{q:U8}
theorem jI{l:U9}(hp:Pb p)(h:chain p=some (q::l))(b:q.length≠0):∀r∈q::l,Gg r/\r.length≠0:=by
 have h1:=(Orr.chain_ok hp h).2;unfold chain at h;obtain⟨a,_,h⟩:=Qd.1 h
 split at h
 .cases h
 .obtain⟨d,_,h⟩:=Qd.1 h;obtain⟨l',h3,h⟩:=Qd.1 h;injection h with h;injection h with e1 e2;subst e1;subst e2;intro r hr;refine⟨(h1 r hr).t,?_⟩;rcases Qm.1 hr with rfl|hr
  .exact b
  .exact Qln h3 r hr
inductive RI (q:List Int) (L:List (List Rat)):Rat->List Tm->Rat->Prop
 |nil {lo hi:Rat} (h:lo<=hi) (hv:vv L lo=vv L hi):RI q L lo [] hi
 |cons {lo hi:Rat} {t:Tm} {l:List Tm} (h:lo<=t.lo) (hv:vv L lo=vv L t.lo) (ht:Vt (cz q) L t.lo t.hi) (hp:t.p=q) (hl:RI q L t.hi l hi):RI q L lo (t::l) hi
theorem RI.app{L:Fc}{lo m hi:Rat}{l l':List Tm}(h:RI q L lo l m)(b:RI q L m l' hi):RI q L lo (l++l') hi:=by
 induction h with
 |
  nil h hv =>
  cases b with
  |nil h2 a=>exact .nil Fu Fo
  |cons h2 a ht hp hl=>exact .cons Fu Fo ht hp hl
 |cons h hv ht hp _ c=>exact .cons h hv ht hp (c b)
theorem Qlq{D M k:Nat}{m:Rat}(h:Gr D M k m)(hM:0<M)(hs:Gm (D:Int)+Gm (M:Int)+k<=16777216):chq m=some m:=by
 have:=QI h hM hs;unfold chq;rw[if_pos ⟨this.1,this.2⟩]
theorem EW{c:U9}(b:HL (cz q) (c.map cz))(tq:Gg q)(z:q.length<=9)(n:q.length<2->c=[q]){D M F:Nat}(hM:0<M):∀(k j:Nat) (lo hi:Rat),lo<hi->Gr D M j lo->Gr D M j hi->Gm (D:Int)+Gm (M:Int)+(j+k)<=16777216->(hi-lo)*((2^(Sw q q+1):Nat):Rat)<=((2^k:Nat):Rat) ->
 ∃l,Az q c (F+k+1) lo hi ((vv (c.map cz) lo:Int)-(vv (c.map cz) hi:Int))=some l/\RI q (c.map cz) lo l hi/\∀t∈l,∃k',k'≤j+k/\Gr D M k' t.lo/\Gr D M k' t.hi:=by
 intro k
 induction k with
 |
  zero =>
  intro j lo hi hl g d hs i;have p:=Iq b hl;have h2:vv (c.map cz) lo<vv (c.map cz) hi+2:=by
   rcases Q7 (vv (c.map cz) lo) (vv (c.map cz) hi+2)with h|h
   .exact h
   .exfalso;have v:2<=q.length:=by
     rcases Q7 q.length 2 with e|e
     .have f:∀x,vv (c.map cz) x=vv (c.map cz) 0:=λx=>by
       rcases b with⟨c0,B,o,a⟩|⟨I,l',k',J,hg,A,a⟩
       .rw[a];simp only[vv,tc,o]
       .rw[n e]at a;cases a
      rw[f lo,f hi]at h;omega
     .exact e
    have:=Qwg b tq z v hl h;rw[Yu]at i;have H:((1:Nat):Rat)=1:=rfl;rw[H]at i;grind
  simp only[Az];by_cases u:vv (c.map cz) lo=vv (c.map cz) hi
  .rw[if_pos Fo];exact⟨[],rfl,.nil (Qq hl) u,λt ht=>by cases ht⟩
  .rw[if_neg Fo,if_pos Fo];refine⟨[⟨q,lo,hi⟩],rfl,.cons Qp rfl ⟨b,hl,by show vv _ lo=vv _ hi+1;omega⟩ rfl (.nil Qp rfl),λt ht=>?_⟩;rw[Qk.1 ht];exact⟨j,Fo,g,d⟩
 |
  succ k ih =>
  intro j lo hi hl g d hs i;have p:=Iq b hl;show ∃l,(if (vv (c.map cz) lo:Int)-(vv (c.map cz) hi:Int)=0 then some []else if (vv (c.map cz) lo:Int)-(vv (c.map cz) hi:Int)=1 then some [⟨q,lo,hi⟩]else(chq (NY lo hi)).bind λm=>(Az q c (F+k+1) lo m (Hw c lo m)).bind λl=>(Az q c (F+k+1) m hi ((vv (c.map cz) lo:Int)-(vv (c.map cz) hi:Int)-Hw c lo m)).bind λr=>some (l++r))=some l/\_;by_cases u:vv (c.map cz) lo=vv (c.map cz) hi
  .rw[if_pos Fo];exact⟨[],rfl,.nil (Qq hl) u,λt ht=>by cases ht⟩
  by_cases E:vv (c.map cz) lo=vv (c.map cz) hi+1
  .rw[if_neg Fo,if_pos Fo];refine⟨[⟨q,lo,hi⟩],rfl,.cons Qp rfl ⟨b,hl,E⟩ rfl (.nil Qp rfl),λt ht=>?_⟩;rw[Qk.1 ht];exact⟨j,Fo,g,d⟩
  .rw[if_neg Fo,if_neg Fo];obtain⟨m,hm⟩:=nmE ((lo+hi) / 2);have h2:(lo+hi) / 2*2=lo+hi:=Hq Fp;rw[<-hm]at h2;have s:Gr D M (j+1) m:=by rw[hm];exact OO g d
   have l1:lo<m:=Fu;have l2:m<hi:=Fu;rw[YV,<-hm,Qlq s hM Fo];show ∃l,((Az q c (F+k+1) lo m (Hw c lo m)).bind λl=>(Az q c (F+k+1) m hi ((vv (c.map cz) lo:Int)-(vv (c.map cz) hi:Int)-Hw c lo m)).bind λr=>some (l++r))=some l/\_;rw[Nb (Qq l1),show(vv (c.map cz) lo:Int)-(vv (c.map cz) hi:Int)-((vv (c.map cz) lo:Int)-(vv (c.map cz) m:Int))=(vv (c.map cz) m:Int)-(vv (c.map cz) hi:Int) by omega];rw[kY k]at i;have hp:∀x y:Rat,(y-x)*2=hi-lo->(y-x)*((2^(Sw q q+1):Nat):Rat)<=((2^k:Nat):Rat):=λx y h=>by
    have:(y-x)*((2^(Sw q q+1):Nat):Rat)*2=(hi-lo)*((2^(Sw q q+1):Nat):Rat):=by rw[<-h];grind
    grind
   obtain⟨la,a1,a2,C⟩:=ih (j+1) lo m l1 (FS g) s Fo (hp lo m Fu);obtain⟨lb,b1,w,G⟩:=ih (j+1) m hi l2 s (FS d) Fo (hp m hi Fu);rw[a1];show ∃l,((Az q c (F+k+1) m hi ((vv (c.map cz) m:Int)-(vv (c.map cz) hi:Int))).bind λr=>some (la++r))=some l/\_;rw[b1];refine⟨la++lb,rfl,a2.app w,λt ht=>?_⟩;rcases Qr.1 ht with ht|ht
   .obtain⟨k',h1,h2,h3⟩:=C t ht;exact⟨k',Fo,h2,h3⟩
   .obtain⟨k',h1,h2,h3⟩:=G t ht;exact⟨k',Fo,h2,h3⟩
theorem Qm5{D M k:Nat}{q:Rat}(h:Gr D M k q):Gr D M k (-q):=by
 obtain⟨u,hu⟩:=h.u;exact⟨⟨-u,by rw[V1,<-hu];grind⟩,by rw[I3];exact h.b,h.d⟩
theorem TN{m:Nat}(h:m<2^s):Gm ((m+1:Nat):Int)<=s+1:=by
 rw[Pi,Xc,Zq];omega
theorem vY{z:Int}(h:Gm z<=s):Gm ((z.natAbs+1:Nat):Int)<=s+1:=TN (Pi.1 h)
theorem Qv6{x:Rat}{m g N:Nat}(hx:x<=2*((m+1:Nat):Rat))(hm:m+1<=2^s)(b:s+1+g<=N):x*((2^g:Nat):Rat)<=((2^N:Nat):Rat):=by
 have h3:=Zd.2 hm;have e:=kY s;have h4:(0:Rat)<=((2^s:Nat):Rat):=Xm;have h1:x<=((2^(s+1):Nat):Rat):=by rw[e];grind
 have h5:(0:Rat)<=((2^g:Nat):Rat):=Xm;refine Zn (Zb h1 h5) ?_;have a:2^(s+1)*2^g<=2^N:=by
  rw[<-Xj];exact Zp Fp b
 have:=Zd.2 a;rw[Rat.natCast_mul]at this;exact this
theorem Qby{l:U8}(h:Bd s l):most l<2^s:=by
 have a:∀(l:U8) (m:Nat),m<2^s->Bd s l->l.foldl (λm z=>if m<z.natAbs then z.natAbs else m) m<2^s:=by
  intro l
  induction l with
  |nil=>exact λm h _=>h
  |
   cons y l ih =>
   intro m hm hb;simp only[Xn];refine ih _ ?_ λz hz=>hb z (Qi _ hz)
   have:=hb y (Qy ..);rw[Pi]at this
   split <;> assumption
 exact a l 0 (Zz Fp) h
theorem uM(h:xF p=some q):q=p:=by
 unfold xF at h
 split at h
 .injection h with h;exact h.symm
 .cases h
theorem Qh9{N:Nat}(hNe:N=63*s+5160)(hs9:s≤1180)(h:Okp 9 s p):∃q c l,Ma p=some q/\chain p=some c/\WV p=some l/\HL (cz q) (c.map cz)/\RI q (c.map cz) (-Hm q) l (Hm q)/\(∀t∈l,Va t)/\(∀x y,x<y->Hm q≤x\/y≤-Hm q->vv (c.map cz) x=vv (c.map cz) y)/\q.length≤p.length/\∀t∈l,t.p=q/\t.lo<t.hi/\Bd (s+69) q/\∃D M k,Gr D M k t.lo/\Gr D M k t.hi/\0<M/\Gm (D:Int)≤s+69/\Gm (M:Int)≤s+70/\k≤N:=by
 obtain⟨pp,hpl,Q⟩:=h.pr;obtain⟨g,q',b,sq⟩:=Oh h;obtain⟨q,l,G,H,I,r⟩:=chain_ok h;rw[b]at G;injection G with G;subst G;have S:∀t,Gf (Gj p) t=Gf q' t*Gf g t:=λt=>by rw[sq.e];grind
 obtain⟨p1,p2⟩:=Rv pp.t pp.n S;have K:xU 66 q' (Gj (Hh q'))=some l:=by
  have h2:=H;unfold chain at h2;rw[b]at h2;simp only[Xl]at h2
  split at h2
  .cases h2
  .cases hd:xF (Hh q')with
   |none=>rw[hd]at h2;cases h2
   |
    some d =>
    rw[hd]at h2;simp only[Xl]at h2;obtain rfl:d=Hh q':=uM hd;cases hc:xU 66 q' (Gj (Hh q'))with
    |none=>rw[hc]at h2;cases h2
    |some l'=>rw[hc]at h2;simp at h2;rw[h2]
 have hll:=Sx sq.pq.t sq.pg.t pp.t S p1 p2;have hl9:=h.l;have bq:Bd (s+69) q':=Ex Q Fo pp.t sq.pq.t sq.pg.t pp.n S;have o:=jI (h.pb Fo) H sq.pq.n;have C:Gp q'≠0:=by have:=sq.pq.l;omega
 have hb1:=ZL C;obtain⟨D,Z⟩:=nmE ((Gp q').natAbs);obtain⟨m,hm⟩:=nmE (most (q'.take (q'.length-1)));have E:m<2^(s+69):=by rw[hm];exact Qby (s:=s+69) λz hz=>bq z (Qn hz)
 have i:0<D:=Fo;have T:Gm (D:Int)<=s+69:=by
  have:=Nn bq;rw[Pi]at this ⊢;rw[Xc,Z];exact this
 have j:=VW C;rw[<-Z,<-hm]at j;have W:=nat_pos i;have P:Hm q'<=((m+1:Nat):Rat):=by
  have U:(1:Rat)<=(D:Rat):=by
   have:((1:Nat):Rat)<=(D:Rat):=Zd.2 i;exact this
  have V:(0:Rat)<=(m:Rat):=Xm;have h3:=Bq (a:=(m:Rat)) (c:=1) V Qp Fp U;rcases Hk (Hm q') ((m+1:Nat):Rat)with h'|h'
  .exact h'
  .exfalso;have:=Jz h' W
   push_cast at this;grind
 have X:Gr D (m+1) 0 (Hm q'):=by
  refine⟨⟨(D+m:Nat),?_⟩,?_,i⟩
  .rw[Yu,Ye,j];rw[show((((D+m:Nat):Int)):Rat)=((D+m:Nat):Rat) from rfl];push_cast;rfl
  .have:Gw (Hm q')=Hm q':=by unfold Gw;rw[if_neg Fu]
   rw[this];exact P
 have Y:Gm ((m+1:Nat):Int)<=s+69+1:=TN (s:=s+69) E;have hK:(Hm q' - -Hm q')*((2^(Sw q' q'+1):Nat):Rat)<=((2^N:Nat):Rat):=by
  have hps:=E5 bq;have hg:Sw q' q'<=(2*s+164)*31:=by
   unfold Sw;exact Zf Fo Fo
  exact Qv6 (s:=s+69) (g:=Sw q' q'+1) (N:=N) Fu E Fo
 have hN:Gm (D:Int)+Gm ((m+1:Nat):Int)+(0+N)≤16777216:=Fo;obtain⟨F,hFe⟩:=nmE (99999-N);obtain⟨ls,r1,r2,r3⟩:=EW (F:=F) I sq.pq.t Fo (λh=>by rw[r h]) (K6 m) N 0 (-Hm q') (Hm q') Fu (Qm5 X) X hN hK;rw[show F+N+1=100000 by omega]at r1;have w:chq (Hm q')=some (Hm q'):=Qlq X (K6 m) Fo;have A:∀t∈ls,Va t/\t.p=q'/\t.lo<t.hi/\Bd (s+69) q'/\∃D M k,Gr D M k t.lo/\Gr D M k t.hi/\0<M/\Gm (D:Int)≤s+69/\Gm (M:Int)≤s+70/\k≤N:=λt ht=>by
  obtain⟨k',k1,k2,k3⟩:=r3 t ht;have u:∀{lo hi:Rat} {ls:List Tm},RI q' ((q'::l).map cz) lo ls hi->t∈ls->Vt (cz q') ((q'::l).map cz) t.lo t.hi/\t.p=q':=λh=>by
   induction h with
   |nil=>intro ht;cases ht
   |
    cons h hv ht' hp hl ih =>
    intro ht;rcases Qm.1 ht with rfl|ht
    .exact⟨ht',hp⟩
    .exact ih ht
  obtain⟨J,f⟩:=u r2 ht;have O:2<=q'.length:=by
   rcases Q7 q'.length 2 with e|e
   .exfalso;have B:∀x,vv ((q'::l).map cz) x=0:=λx=>by
     rw[r e,sq.pq.one e];have R:∀x:Rat,ev (cz [1]) x=1:=λx=>by rw[Gd,Rx]
     simp only[Xa,X8,vv,tc,R];have:Gu 1=1:=Fp;rw[this];decide
    have:=J.v;rw[B,B]at this;omega
   .exact e
  exact⟨⟨.inr ⟨_,by rw[f];exact J⟩,by rw[f];exact sq.pq.t,by rw[f];omega,by rw[f];exact O,by rw[f];exact Fz bq Fo,λ_=>by rw[f];exact Fz bq Fo,λ_=>by rw[f];exact⟨l,_,g,K,sq,J⟩,D,m+1,k',k2,k3,K6 m,Qa (show _<=1000000 by omega) (Q0q t)⟩,f,J.l,bq,D,m+1,k',k2,k3,K6 m,T,Qa Y (Ql (s+70)),by rw[Zw]at k1;exact k1⟩
 refine⟨q',q'::l,ls,b,H,?_,I,r2,λt ht=>(A t ht).1,λx y L hb=>Qbj I sq.pq.t sq.pq.n L hb Fu,Fo,λt ht=>(A t ht).2⟩
 .unfold WV;rw[H,b];show(chq (Hm q')).bind _=_;rw[w];simp only[Xl];rw[kL I o];exact r1
theorem cO(a:s≤1180)(h:Okp 9 s p):∃q c l,Ma p=some q/\chain p=some c/\WV p=some l/\HL (cz q) (c.map cz)/\RI q (c.map cz) (-Hm q) l (Hm q)/\(∀t∈l,Va t)/\(∀x y,x<y->Hm q≤x\/y≤-Hm q->vv (c.map cz) x=vv (c.map cz) y)/\q.length≤p.length/\∀t∈l,t.p=q/\t.lo<t.hi/\Bd (s+69) q/\∃D M k,Gr D M k t.lo/\Gr D M k t.hi/\0<M/\Gm (D:Int)≤s+69/\Gm (M:Int)≤s+70/\k≤63*s+5160:=Qh9 rfl a h
theorem Qpk(h:Okp 9 1180 p):∃q c l,Ma p=some q/\chain p=some c/\WV p=some l/\HL (cz q) (c.map cz)/\RI q (c.map cz) (-Hm q) l (Hm q)/\(∀t∈l,Va t)/\(∀x y,x<y->Hm q≤x\/y≤-Hm q->vv (c.map cz) x=vv (c.map cz) y):=by
 obtain⟨q,c,l,h1,h2,h3,h4,h5,a,b,_⟩:=cO (Ql _) h;exact⟨q,c,l,h1,h2,h3,h4,h5,a,b⟩
theorem Iu{L:Fc}(g:HL (cz q) L){c:Rat->Int}(hc:Cut c){lo:Rat}(i:∀z,c z=-1->z<=lo->vv L z=vv L lo){b:Rat}(f:c b=-1)(hv:∀z,lo<z->z<=b->vv L z=vv L lo):∃s,s≠0/\∀z,c z=-1->z<=b->Gu (ev (cz q) z)=s:=by
 have a:∀z,c z=-1->z<=b->vv L z=vv L lo:=λz h1 h2=>by
  rcases Hk z lo with e|e
  .exact i z h1 e
  .exact hv z e h2
 have d:∀z,c z=-1->z<=b->Gu (ev (cz q) z)≠0:=λz h1 h2=>by
  obtain⟨w,w1,h⟩:=hc.dn z h1;have:=sQ g w1 (by rw[a w h Fu,a z h1 h2]);rw[this.s];exact this.n
 refine⟨Gu (ev (cz q) b),d b f Qp,λz h1 h2=>?_⟩;rcases Classical.em (z=b)with e|e
 .rw[e]
 .have:=sQ g (x:=z) (y:=b) Fu (by rw[a z h1 h2,a b f Qp]);rw[this.s,O3 (d z h1 h2)]
structure Fst(o:List Int)(a t:Tm):Prop where
 lt:M9 a t
 s:∃s,s≠0/\(∀z,Gt a z=-1->Gt t z=1->Gu (ev (cz o) z)=s)/\RS (cz o) (Gt t) (-s)
def Non(o:U8)(a:Tm):Prop:=∃s,s≠0/\∀z,Gt a z=-1->Gu (ev (cz o) z)=s
theorem Qhr{q:U8}{L:Fc}(k:HL (cz q) L){a:Tm}(ha:Va a){lo hi:Rat}{l:List Tm}(hR:RI q L lo l hi):(∀t∈l,Va t)->(∀z,hi<z->vv L z=vv L hi)->(∀z,Gt a z=-1->z≤lo->vv L z=vv L lo)->∃r,QO a l=some r/\match r with
 |none=>Non q a
 |some t=>t∈l/\Fst q a t:=by
 have y:=ha.cut
 induction hR with
 |
  @nil lo hi h hv =>
  intro _ u C;refine⟨none,rfl,?_⟩;obtain⟨S,o⟩:=y.hi;have b:∀z,lo<z->vv L z=vv L lo:=λz hz=>by
   rcases Hk z hi with e|e
   .have h1:=Iq k hz;have h2:vv L hi<=vv L z:=by
     rcases Classical.em (z=hi)with e'|e'
     .rw[e'];exact Ql _
     .exact Iq k Fu
    omega
   .rw[u z e,hv]
  obtain⟨s,s0,hs⟩:=Iu k y C o λz h1 _=>b z h1
  refine⟨s,s0,λz hz=>?_⟩;rcases Hk z S with e|e
  .exact hs z hz e
  .obtain⟨Z,T,j⟩:=Iu k y C hz λz h1 _=>b z h1
   rw[j z hz Qp,<-j S o (Qq e),hs S o Qp]
 |
  @cons lo hi t l h hv ht hp hl ih =>
  intro Y u C;have G:=Y t (Qy ..);have ct:=G.cut;have g:=ht;rw[<-hp]at g;have f:∀z,Gt t z=cq (cz t.p) t.lo t.hi z:=Bi ht.l;obtain⟨c,c1,V⟩:=QP G ha;show ∃r,((RE t a).bind λc=>if 0<c then some (some t)else QO a l)=some r/\_;rw[c1];show ∃r,(if 0<c then some (some t)else QO a l)=some r/\_;have H:Gt t t.lo=1:=by rw[f];exact Cf Qp
  have n:∀z,lo<z->Gt t z=1->vv L z=vv L lo:=λz h1 h2=>by
   rcases Hk z t.lo with e|e
   .have a1:=Iq k h1;have a2:vv L t.lo<=vv L z:=by
     rcases Classical.em (z=t.lo)with e'|e'
     .rw[e'];exact Ql _
     .exact Iq k Fu
    omega
   .rw[f]at h2;have hz:z<=t.hi:=by
     rcases Hk z t.hi with e'|e'
     .exact e'
     .rw[VP ht.l e']at h2;omega
    rw[g.eq_lo e hz h2,hv]
  by_cases hc:0<c
  .rw[if_pos hc];refine⟨some t,rfl,Qy ..,?_⟩;have B:M9 a t:=by
    rcases V with⟨e,_⟩|⟨e,_⟩|⟨_,h⟩
    .omega
    .omega
    .exact h
   refine⟨B,?_⟩;obtain⟨m,M,W⟩:=B;obtain⟨s,s0,hs⟩:=Iu k y C M λz h1 h2=>n z h1 (by
    rcases Classical.em (z=m)with e|e
    .rw[e];exact W
    .exact ct.mono' (q:=z) (r:=m) Fu Fo)
   have b:∀z,Gt a z=-1->Gt t z=1->Gu (ev (cz q) z)=s:=λz h1 h2=>by
    rcases Hk z m with e|e
    .exact hs z h1 e
    .obtain⟨Z,T,j⟩:=Iu k y C h1 λw w1 X=>n w w1 (by
      rcases Classical.em (w=z)with e|e
      .rw[e];exact h2
      .exact ct.mono' (q:=w) (r:=z) Fu Fo)
     rw[j z h1 Qp,<-j m M (Qq e),hs m M Qp]
   refine⟨s,s0,b,?_⟩;obtain⟨w,w1,X,w3⟩:=IL ct W H;have O:Gt a w=-1:=y.mono m w X Fo;have F:=b w O w1;have A:w<t.hi:=by
    rw[f]at w1;rcases Hk t.hi w with e|e
    .have:=g.hi1;rcases Classical.em (t.hi=w)with e'|e'
     .rw[<-e']at w1;exact absurd w1 this
     .rw[VP ht.l Fu]at w1;omega
    .exact e
   have hww:vv L w=vv L t.lo:=g.eq_lo w3 (Qq A) (by rw[<-f];exact w1);have hvv:=ht.v;have i:=tO k A Fo;have D:Np (cz q) w=s:=by rw[O3 (by rw[F];exact s0),F]
   rw[D]at i;have hd:∀z,w<z->z<=t.hi->Gt t z=-1->Gu (ev (cz q) z)=-s:=λz I E Q=>by
    rw[f]at Q;have e1:=g.eq_hi Fu E Fo;have K:=tO k I Fo;rw[D]at K;have N:Gu (ev (cz q) z)≠0:=by
     rw[A7 Fu E,hp]at Q;intro h0;rw[if_pos h0]at Q;omega
    rw[O3 N]at K;exact K.2
   rcases ct.val t.hi with e|e|e
   .rw[f]at e;exact absurd e g.hi1
   .obtain⟨d,dp,J⟩:=Q3w (p:=cz q) (x:=t.hi) (by rw[i.2];omega);refine⟨t.hi+d,ct.mono t.hi _ Fu Fo,λz h1 h2=>?_⟩;have hz:t.hi<z:=by
     rcases Hk z t.hi with e'|e'
     .rcases Classical.em (z=t.hi)with e''|e''
      .rw[e'']at h1;omega
      .have:=ct.mono z t.hi Fu Fo;omega
     .exact e'
    rw[J z hz Fu,i.2]
   .exact⟨t.hi,e,λz h1 h2=>hd z (ct.lt w1 h1) h2 h1⟩
  .rw[if_neg hc];have R:¬M9 a t:=λh=>by
    rcases V with⟨e,U⟩|⟨e,U⟩|⟨e,_⟩
    .exact Cq ct y U h
    .obtain⟨z,I,E⟩:=h;have:=U z;omega
    .omega
   obtain⟨r,r1,r2⟩:=ih (λx hx=>Y x (Qi _ hx)) u λz I E=>by
    have hz:Gt t z≠1:=λh=>R ⟨z,I,h⟩
    have P:t.lo<z:=by
     rcases Hk z t.lo with e|e
     .refine absurd ?_ hz;rw[f];exact Cf e
     .exact e
    exact g.eq_hi P E (by rw[<-f];exact hz)
   refine⟨r,r1,?_⟩;cases r with
   |none=>exact r2
   |some x=>exact⟨Qi _ r2.1,r2.2⟩
end Orq
