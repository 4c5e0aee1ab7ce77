import Derived.Test.YtpbfkdfffbfabaaGreatPart10
import Derived.Test.YtpbfkdfffbfabaaGreatPart00
import Derived.Test.YtpbfkdfffbfabaaGreatPart07
import Derived.Test.YtpbfkdfffbfabaaGreatPart09
import Derived.Test.YtpbfkdfffbfabaaGreatPart08
import Derived.Deep.Slices
import Derived.ProofKit
import Derived.OpenShut
import Derived.WideKeyArgs
import Derived.SizedLaws
set_option linter.all false
namespace Orq
open Orr Go
structure AT(t:Tm)(C:List (List Int))(N:Nat)(lo hi:Rat):Prop where
 va:Va t
 ck:Cok C
 st:lo=hi/\Gt t lo=0\/t.point=false/\Vt (cz t.p) (C.map cz) lo hi/\(∀q,cq (cz t.p) lo hi q=Gt t q)/\Hp t.p hi≠0
 bd:t.point=false->Anc t.p
 g:∃D M k,Gr D M k lo/\Gr D M k hi/\0<M/\Gm (D:Int)+Gm (M:Int)+k<=N
section
variable{t:Tm}{C:U9}{N:Nat}{lo hi:Rat}
theorem AT.qs(h:AT t C N lo hi)(c:N<=2000000):Qs 2000000 lo/\Qs 2000000 hi:=by
 obtain⟨D,M,k,a,b,hM,hs⟩:=h.g;exact⟨QI a hM Fo,QI b hM Fo⟩
theorem AT.mono(h:AT t C N lo hi){a:Nat}(d:N<=a):AT t C a lo hi:=by
 obtain⟨D,M,k,b,c,hM,hs⟩:=h.g;exact⟨h.va,h.ck,h.st,h.bd,D,M,k,b,c,hM,Fo⟩
theorem AT.cmp(h:AT t C N lo hi)(q:Rat):crR C t.p lo hi q=Gt t q:=by
 rcases h.st with⟨rfl,e⟩|⟨_,V,e,_⟩
 .rw[Qzx,<-XJ h.va.cut e]
 .rw[Qzy V,e]
theorem AT.hv(h:AT t C N lo hi):∃D M k,Hv t D M k ⟨t.p,lo,hi⟩:=by
 obtain⟨D,M,k,a,b,hM,hs⟩:=h.g;refine⟨D,M,k,rfl,?_,λq=>?_,a,b⟩
 .rcases h.st with⟨rfl,e⟩|⟨_,V,_⟩
  .refine .inl ⟨rfl,?_⟩;have:=HB h.va.cut e h.va.van;rwa[Gd]at this
  .exact .inr ⟨_,V⟩
 .rcases h.st with⟨rfl,e⟩|⟨_,V,e,_⟩
  .rw[Iv rfl];exact(XJ h.va.cut e q).symm
  .rw[Bi V.l];exact e q
theorem AT.half(h:AT t C N lo hi)(d:lo≠hi):∃lo' hi',AT t C (N+1) lo' hi'/\hi'-lo'<=(hi-lo) / 2/\lo<=lo'/\hi'<=hi/\((0<Hw C lo (NY lo hi)/\lo'=ZK t.p lo (NY lo hi)/\hi'=NY lo hi)\/(¬0<Hw C lo (NY lo hi)/\lo'=ZK t.p (NY lo hi) hi/\hi'=hi)):=by
 obtain⟨D,M,k,i,f,hM,hs⟩:=h.g;rcases h.st with⟨e,_⟩|⟨pt,V,e,hn⟩
 .exact absurd e d
 have h2:∀x:Rat,x / 2*2=x:=λx=>Hq Fp
 obtain⟨m,hm⟩:=nmE (NY lo hi);rw[<-hm];have c:=h2 (lo+hi);have r:=h2 (hi-lo);rw[YV]at hm;rw[<-hm]at c;have hl:=V.l;have l1:lo<m:=Fu;have l2:m<hi:=Fu;have b:Gr D M (k+1) m:=by rw[hm];exact OO i f
 have j:Hw C lo m=(vv (C.map cz) lo:Int)-(vv (C.map cz) m:Int):=Nb (Qq l1);have n:Hu lo m≠0:=λh=>by have:=Rh.1 h;grind
 have o:Hu m hi≠0:=λh=>by have:=Rh.1 h;grind
 have hv:=V.v;rcases V.two l1 (Qq l2)with⟨a1,a2,_⟩|⟨a1,a2,_⟩
 .have a:Vt (cz t.p) (C.map cz) m hi:=⟨V.s,l2,Fo⟩;refine⟨m,hi,⟨h.va,h.ck,.inr ⟨pt,a,λq=>?_,hn⟩,h.bd,D,M,k+1,b,FS f,hM,Fo⟩,Fu,Qq l1,Qp,.inr ⟨Fo,?_,rfl⟩⟩
  .rw[<-e];exact V.uniq a.cut (Cf (Qq l1)) a.hi1 a.van q
  .unfold ZK;rw[if_neg (λh=>hn h.2)]
 .by_cases h0:Hp t.p m=0
  .have hz:Gt t m=0:=by
    rw[<-e,A7 l1 (Qq l2),if_pos (by rw[Gd,<-M7];exact h0)]
   refine⟨m,m,⟨h.va,h.ck,.inl ⟨rfl,hz⟩,h.bd,D,M,k+1,b,b,hM,Fo⟩,Fu,Qq l1,Qq l2,.inl ⟨Fo,?_,rfl⟩⟩;unfold ZK;rw[if_pos ⟨n,h0⟩]
  .have a:Vt (cz t.p) (C.map cz) lo m:=⟨V.s,l1,Fo⟩;refine⟨lo,m,⟨h.va,h.ck,.inr ⟨pt,a,λq=>?_,h0⟩,h.bd,D,M,k+1,FS i,b,hM,Fo⟩,Fu,Qp,Qq l2,.inl ⟨Fo,?_,rfl⟩⟩
   .rw[<-e];exact V.uniq a.cut (Cf Qp) (by rw[VP l1 l2];decide) a.van q
   .unfold ZK;rw[if_neg (λh=>h0 h.2)]
end
theorem Q08:∀m,1<=m->12*12^m<=5*29^m
 | 0,h=>Fo
 | 1,_=>Fp
 |
  m+2,_=>by
  have:=Q08 (m+1) Fo;rw[Zq 12,Zq 29];omega
theorem Q38:∀m,1<=m->(12*m+17)*12^m<=12*29^m
 | 0,h=>Fo
 | 1,_=>Fp
 |
  m+2,_=>by
  have h1:=Q38 (m+1) Fo;have h2:=Q08 (m+1) Fo;rw[Zq 12 (m+1),Zq 29 (m+1)];generalize 12^(m+1)=u at *;generalize 29^(m+1)=v at *;have b:(12*(m+1)+17)*u=12*(m*u)+29*u:=Fu;have a:(12*(m+2)+17)*(u*12)=144*(m*u)+492*u:=Fu;rw[b]at h1;rw[a];omega
variable{s:Nat}
theorem Qa0{t m lb la:Nat}(e:la-1=m+(lb-1))(hm:1<=m)(hs:(5*(s+1)+12*(t+1))*29^(la-1)<=12^(la-1)*100000000):(5*(t+1)+12*(s+(m+1)*(t+1)+1))*29^(lb-1)<=12^(lb-1)*100000000/\s+(m+1)*(t+1)<=9000000:=by
 have a1:=Q08 m hm;have a2:=Q38 m hm;rw[e,Xj,Xj]at hs;have hu:0<12^m:=Zz Fp;have a:12^(lb-1)<=29^(lb-1):=W0 Fp _;have f:0<12^(lb-1):=Zz Fp;generalize 12^m=u at *;generalize 29^m=v at *;generalize 29^(lb-1)=x at *;generalize 12^(lb-1)=y at *;have c:(5*(t+1)+12*(s+(m+1)*(t+1)+1))*u=(s+1)*(12*u)+(t+1)*((12*m+17)*u):=Fu;have b:(5*(s+1)+12*(t+1))*v=(s+1)*(5*v)+(t+1)*(12*v):=Fu;have h3:(5*(t+1)+12*(s+(m+1)*(t+1)+1))*u<=(5*(s+1)+12*(t+1))*v:=by
  rw[c,b];exact Nat.add_le_add (Zl _ a1) (Zl _ a2)
 have h4:(5*(t+1)+12*(s+(m+1)*(t+1)+1))*x*u<=y*100000000*u:=by
  rw[Nat.mul_right_comm];refine Qa (Qz x h3) ?_;rw[Xy];refine Qa hs (Nat.le_of_eq ?_);grind
 have h5:=Nat.le_of_mul_le_mul_right h4 hu;refine⟨h5,?_⟩;have d:(5*(t+1)+12*(s+(m+1)*(t+1)+1))*y<=100000000*y:=by
  rw[Zt 100000000];exact Qa (Zl _ a) h5
 have g:=Nat.le_of_mul_le_mul_right d f;generalize (m+1)*(t+1)=z at *;omega
theorem qZ:∀(k:Nat) (a b:U8) (s t:Nat),b.length<k->Pr1 a->(b.length=0\/Pr1 b)->Gg b->b.length<a.length->a.length<=60->Bd s a->Bd t b->(5*(s+1)+12*(t+1))*29^(a.length-1)<=12^(a.length-1)*100000000 ->
 ∃n g,GRun n a b g/\Pr1 g/\Ee (cz g) (cz a)/\Ee (cz g) (cz b)/\∀d,Ee d (cz a)->Ee d (cz b)->Ee d (cz g)
 | 0,_,_,_,_,h,_,_,_,_,_,_,_,_=>Fo
 |
  k+1,a,b,s,t,hk,pa,pb,tb,hab,hl,ba,bb,hs=>by
  rcases pb with h0|pb
  .rw[Qg h0];exact⟨0,a,.stop a,pa,dvd_refl _,⟨[],λt=>by simp only[cz,X8,ev];grind⟩,λ_ h _=>h⟩
  .have hb:=pb.n;obtain⟨B,l⟩:=Qa0 (s:=s) (t:=t) (m:=a.length-b.length) (lb:=b.length) (la:=a.length) Fo Fo hs;have ht:t+1<=(a.length-b.length+1)*(t+1):=Wa _ Fo;obtain⟨n,r,r1,r2,I,q,u,X,hu,p⟩:=EH tb hb bb (a.length-b.length+1) a s Fo pa.t hl ba l Fo;obtain⟨p1,p2⟩:=WX r2;obtain⟨_,J,D,c,x,i⟩:=Ly r2;have H:Gg (Gj r):=by
    rcases p2 with h|h
    .rw[Qg h];rfl
    .exact h.t
   obtain⟨j,g,G,v,o,A,E⟩:=qZ k b (Gj r) t (s+(a.length-b.length+1)*(t+1)) Fo pb p2 H Fo Fo bb (D _ q) B;refine⟨j+1,g,.step Fo Fo (Fz bb Fo) r1 Fo (Fz q l) r2 (by rw[H9];exact G),v,?_,o,λd ⟨y,f⟩ ⟨z,hz⟩=>E d ⟨z,hz⟩ ((I7 x i).1 ⟨Ty (Nq u y) (Nq (-1) (Hz X z)),λt=>by
    have a1:=p t;have a2:=f t;have e:=hz t;rw[Gd]at a2 e ⊢;rw[Hg,G8,G8,Gl];have:Gf r t=u*Gf a t-ev X t*Gf b t:=Fu;rw[this,a2,e];grind⟩)⟩
   obtain⟨y,f⟩:=o;obtain⟨z,hz⟩:=A;have w:1 / u*u=1:=Hq hu;refine⟨Nq (1 / u) (Ty (Hz X y) (Nq c z)),λt=>?_⟩;have a1:=p t;have a2:=f t;have e:=hz t;have F:=i t;rw[Gd]at a2 e ⊢;rw[G8,Hg,Gl,G8];have:Gf a t=1 / u*(u*Gf a t):=Fu;rw[this,a1,a2,F,e];grind
theorem Qm7{a b:U8}(v:Pr1 a)(pb:Pr1 b)(la:a.length<=9)(lb:b.length<=9)(q:Bd s a)(bb:Bd s b)(hs:s<=1260):∃n g,GRun n a b g/\Pr1 g/\Ee (cz g) (cz a)/\Ee (cz g) (cz b)/\∀d,Ee d (cz a)->Ee d (cz b)->Ee d (cz g):=by
 have hp:∀l,l<=9->∀s t,s<=1260->t<=2521->(5*(s+1)+12*(t+1))*29^(l-1)<=12^(l-1)*100000000:=λl hl s t h1 h2=>by
  refine Qa (Qz _ (show 5*(s+1)+12*(t+1)<=36569 by omega)) ?_;have:∀n,n<=8->36569*29^n<=12^n*100000000:=Fp;exact this _ Fo
 rcases Q7 b.length a.length with h|h
 .obtain⟨n,g,p,i,f,k,o⟩:=qZ 66 a b s s Fo v (.inr pb) pb.t h Fo q bb (hp _ la _ _ hs Fo);exact⟨n,g,p,i,f,k,o⟩
 .obtain⟨n,r,r1,r2,H,A,u,X,hu,x⟩:=EH pb.t pb.n bb 1 a s Fo v.t Fo q Fo Fo;obtain⟨p1,p2⟩:=WX r2;obtain⟨_,I,E,c,D,w⟩:=Ly r2;have G:Gg (Gj r):=by
   rcases p2 with h|h
   .rw[Qg h];rfl
   .exact h.t
  obtain⟨j,g,p,i,f,k,o⟩:=qZ 66 b (Gj r) s (2*s+1) Fo pb p2 G Fo Fo bb (E _ (Fz A Fo)) (hp _ lb _ _ hs Fo);have B:1 / u*u=1:=Hq hu;have hb:=pb.n;refine⟨j+1,g,.step Fo Fo (Fz bb Fo) r1 Fo (Fz A Fo) r2 (by rw[H9];exact p),i,?_,f,λd ⟨y,m⟩ ⟨z,hz⟩=>o d ⟨z,hz⟩ ((I7 D w).1 ⟨Ty (Nq u y) (Nq (-1) (Hz X z)),λt=>?_⟩)⟩
  .obtain⟨y,m⟩:=f;obtain⟨z,hz⟩:=k;refine⟨Nq (1 / u) (Ty (Hz X y) (Nq c z)),λt=>?_⟩;have a1:=x t;have a2:=m t;have e:=hz t;have F:=w t;rw[Gd]at a2 e ⊢;rw[G8,Hg,Gl,G8];have:Gf a t=1 / u*(u*Gf a t):=Fu;rw[this,a1,a2,F,e];grind
  .have a1:=x t;have a2:=m t;have e:=hz t;rw[Gd]at a2 e ⊢;rw[Hg,G8,G8,Gl];have:Gf r t=u*Gf a t-ev X t*Gf b t:=Fu;rw[this,a2,e];grind
theorem Qzu{p P:U8}(hp:Pr1 p)(a:Pr1 P)(lp:p.length<=9)(i:P.length<=9)(j:Bd 1179 p)(bP:Bd 1179 P):∃n g,GRun n (Rf p) (Rf P) g/\Pr1 g/\Ee (cz g) (cz p)/\Ee (cz g) (cz P)/\∀c,Cut c->(Il (cz g) c↔Il (cz p) c/\Il (cz P) c):=by
 obtain⟨n,g,l,f,b,h,k⟩:=Qm7 hp a lp i j bP Fp;obtain⟨g',_,G,m',l'⟩:=iR Q1z hp.t a.t lp i (Fz j Fp) (Fz bP Fp) hp.n;have e:g=g':=by
  refine iJ f ⟨G.t,m',l'⟩ ?_ (k _ G.da G.db);obtain⟨U,V,hc⟩:=G.c;obtain⟨y,m⟩:=b;obtain⟨z,hz⟩:=h;refine⟨Ty (Hz U y) (Hz V z),λt=>?_⟩;have a1:=hc t;have a2:=m t;have d:=hz t;rw[Gd]at a2 d ⊢;rw[Hg,Gl,Gl,a1,a2,d];grind
 rw[H9,H9,C9 hp,C9 a];exact⟨n,g,l,f,b,h,λc hc=>by rw[e];exact Qmv hc G⟩
theorem Qg3{P F q g:U8}(sq:Sqp P F q)(pg:Pr1 g)(d:Ee (cz g) (cz q))(l2:2<=g.length)(x:g.length<=9)(y:Bd s g)(hs:(s+4+8)*3^8<=9000000)(J:s<=1180):∃L,ChRun g g (g::L)/\HL (cz g) ((g::L).map cz):=by
 have H:(s+4+8)*3^8=(s+4+8)*6561:=rfl;have NK:Pr1 [1]:=one_sqp.pp;have p:Sqp g [1] g:=by
  obtain⟨X,Y,hb⟩:=sq.bez;obtain⟨h,K,eh⟩:=BD pg.m d;refine⟨pg,NK,pg,λt=>by rw[Rx];grind,⟨Ty (Hz X (cz h)) (Hz Y (Cv (cz h))),Hz Y (cz h),λt=>?_⟩,⟨Cv (cz g),λt=>by rw[Rx,Si];grind⟩⟩;have b:=hb t;have B:dv (cz q) t=Gf g t*dv (cz h) t+dv (cz g) t*Gf h t:=by
   have:=ZV (f:=cz q) (w:=cz g) (u:=cz h) (λt=>by rw[Gd,Gd,Gd,eh]) t;rw[this,Gd,Gd];grind
  rw[B,Gd,eh]at b;rw[Rx,Hg,Gl,Gl,Gl,Si,Gd];grind
 have ok:Okp 9 s g:=⟨Q10 rZ Fo,pg.t,pg.n,x,y⟩;obtain⟨q',l,v,A,I,_⟩:=chain_ok ok;obtain⟨r,i,G,a⟩:=Oh ok;have:i=q':=Option.some.inj (G.symm.trans v);subst this;rw[C9 pg]at a;have E:r=[1]:=by
  refine iJ a.pg NK ?_ ⟨cz r,λt=>by rw[Gd _ [1],Rx];grind⟩;obtain⟨U,V,hc⟩:=p.c;obtain⟨z,hz⟩:=a.d;refine⟨Ty (Hz U (cz i)) (Hz V z),λt=>?_⟩;rw[Gd,hc,Hg,Gl,Gl,hz,a.e,Gd,Gd];grind
 have k:i=g:=UT a.pq.t pg.t λt=>by rw[a.e,E,Rx];grind
 subst k;obtain⟨L,D,o⟩:∃L,l=L/\xU 66 i (Gj (Hh i))=some L:=by
  have h2:=A;unfold chain at h2;rw[v]at h2;simp only[Xl]at h2;rw[if_neg pg.n]at h2;obtain⟨d,hd,h2⟩:=Qd.1 h2;obtain⟨l',j,h2⟩:=Qd.1 h2;injection h2 with h2;injection h2 with _ h2;rw[uM hd]at j;exact⟨l',h2.symm,j⟩
 subst D;exact⟨l,pD p l2 x y hs o,I⟩
theorem yK{g:U8}{L:Fc}(a:HL (cz g) L):∀(n:Nat) (lo hi:Rat),lo<hi->vv L lo<=vv L hi+n->vv L hi<vv L lo->∃c,Cut c/\c lo=1/\c hi≠1/\Il (cz g) c
 | 0,lo,hi,_,h,h'=>Fo
 |
  n+1,lo,hi,hl,h,h'=>by
  by_cases h1:vv L lo=vv L hi+1
  .have V:Vt (cz g) L lo hi:=⟨a,hl,h1⟩;exact⟨_,V.cut,Cf Qp,V.hi1,V.van⟩
  .obtain⟨m,d,j,e,l,_⟩:=Qn5 a hl Fo;obtain⟨c,b,i,f,k⟩:=yK a n lo m d Fo e;refine⟨c,b,i,λh=>?_,k⟩;exact f (b.mono' j Fo)
theorem AT.zero{t:Tm}{C a:U9}{N:Nat}{lo hi:Rat}(h:AT t C N lo hi)(b:lo≠hi){g:U8}(d:Ee (cz g) (cz t.p))(i:HL (cz g) (a.map cz)):0<Hw a lo hi↔Il (cz g) (Gt t):=by
 rcases h.st with⟨e,_⟩|⟨pt,V,e,hn⟩
 .exact absurd e b
 have hl:=V.l;have o:=Iq i hl;have hc:=h.va.cut;have clo:Gt t lo=1:=by rw[<-e];exact Cf Qp
 have f:Gt t hi≠1:=by rw[<-e];exact V.hi1
 rw[Nb (Qq hl)];constructor
 .intro hb;obtain⟨c,j,n,m,k⟩:=yK i (vv (a.map cz) lo) lo hi hl Fo Fo;obtain⟨u,hu⟩:=d;have hv:Il (cz t.p) c:=Nk j hu k;have:∀q,c q=Gt t q:=λq=>by rw[V.uniq j n m hv q,e]
  have r:c=Gt t:=funext this;rw[<-r];exact k
 .intro hv;have:=oW i (w:=cz g) (u:=[1]) (λt=>by rw[S7];grind) (x:=lo) (y:=hi) (c:=Gt t);rcases Q7 (vv (a.map cz) hi) (vv (a.map cz) lo)with h1|h1
  .omega
  .exact absurd hv (this Fo hc clo f)
end Orq
namespace Orq
open Go Go.Proofs Tryz Orr
set_option maxRecDepth 10000
theorem Qwh{c:Rat->Int}(hc:Cut c)(h:Il (cz [1]) c):False:=by
 obtain⟨q,d,_⟩:=vN hc (h 1 Fp);rw[Gd,Rx]at d;exact absurd d Fp
section
variable{t:Tm}{C:U9}{N:Nat}{lo hi:Rat}
theorem AT.b30(h:AT t C N lo hi):Bd 30000000 t.p/\t.p.length<=64:=⟨Fz h.va.b Fp,by have:=h.va.n;omega⟩
theorem AT.cPt(h:AT t C N lo hi)(d:N<=2000000):U5 43 [.agg (ax t.p C lo hi)] [.one (.bool (decide (Hu lo hi=0)))]:=pF (h.qs d).1 (h.qs d).2
theorem AT.cRat(h:AT t C N lo hi)(d:N<=2000000){q:Rat}(e:Qs 2000000 q):U5 44 [.agg (ax t.p C lo hi),.agg (fr q)] [.oi (Gt t q)]:=by
 have:=Qgj h.b30.1 h.b30.2 h.ck (h.qs d).1 (h.qs d).2 e;rwa[h.cmp]at this
theorem pP(h:AT t C N lo hi)(r:N+1<=2000000):∃lo' hi',AT t C (N+1) lo' hi'/\hi'-lo'<=(hi-lo) / 2/\lo<=lo'/\hi'<=hi/\U5 47 [.agg (ax t.p C lo hi)] [.agg (ax t.p C lo' hi')]:=by
 have cp:=h.cPt Fo;by_cases he:lo=hi
 .have h2:(hi-lo) / 2*2=hi-lo:=Hq Fp;refine⟨lo,hi,h.mono Fo,Fu,Qp,Qp,?_⟩;exact U0 func47 rfl [.k cp,.t (decide_eq_true (Rh.2 he))] rfl
 .obtain⟨lo',hi',a1,a2,m,l,j⟩:=h.half he;obtain⟨ql,qh⟩:=h.qs Fo;have ch:=Qcd ql qh;have d:Qs 2000000 (NY lo hi):=by
   obtain⟨D,M,k,o,n,hM,hs⟩:=h.g;have q:Gr D M (k+1) (NY lo hi):=by rw[YV];exact OO o n
   exact QI q hM Fo
  have cb:=Du h.ck ql d;refine⟨lo',hi',a1,a2,m,l,?_⟩;rcases j with⟨b1,rfl,rfl⟩|⟨b1,rfl,rfl⟩
  .have i:=LK (p:=t.p) (C:=C) h.b30.1 h.b30.2 ql d;exact U0 func47 rfl [.k cp,.f (decide_eq_false λe=>he (Rh.1 e)),.k ch,.k cb,.t (decide_eq_true b1),.k i] rfl
  .have i:=LK (p:=t.p) (C:=C) h.b30.1 h.b30.2 d qh;exact U0 func47 rfl [.k cp,.f (decide_eq_false λe=>he (Rh.1 e)),.k ch,.k cb,.f (decide_eq_false b1),.k i] rfl
theorem AT.pr(h:AT t C N lo hi)(d:lo≠hi):Pr1 t.p/\t.point=false/\Bd 1179 t.p/\∃P g,Sqp P g t.p:=by
 rcases h.st with⟨e,_⟩|⟨pt,_⟩
 .exact absurd e d
 obtain⟨_,P,g,_,sq,_⟩:=h.va.sc pt;exact⟨sq.pq,pt,(h.bd pt).bd sq.pq.t,P,g,sq⟩
theorem Qk8(h:AT t C N lo hi)(u:N<=2000000)(d:lo≠hi){p:U8}(hp:Pr1 p)(lp:p.length<=9)(z:Bd 1179 p):∃b:Bool,(b=true↔Il (cz p) (Gt t))/\U5 45 [.one (rp (zp p)),.agg (ax t.p C lo hi)] [.one (.bool b)]:=by
 obtain⟨pt,l,s,P,O,sq⟩:=h.pr d;have cp:=h.cPt u;obtain⟨ql,qh⟩:=h.qs u;have j:=h.va.n;have hc:=h.va.cut;obtain⟨n,g,J,i,M,q,v⟩:=Qzu hp pt lp j z s;have w:=Qk3 hp.t pt.t (Fz z Fp) (Fz s Fp) Fo Fo J;have K:=FT p;have D:=FT g;have G:=hp.n;have hv:=h.va.van;by_cases hl:g.length<2
 .refine⟨false,⟨(λh=>by cases h),λI=>?_⟩,?_⟩
  .exfalso;have:=(v _ hc).2 ⟨I,hv⟩;rw[i.one hl]at this;exact Qwh hc this
  .exact U0 func45 rfl [.F,.k cp,.f (decide_eq_false λe=>d (Rh.1 e)),.k w,.T] rfl
 .obtain⟨y,E,r⟩:=BD i.m q;obtain⟨p1,p2⟩:=Rv pt.t pt.n r;have A:=Sx i.t E pt.t r p1 p2;have x:Bd 1179 g:=((h.bd l).div r).bd i.t;obtain⟨L,o,B⟩:=Qg3 sq i q Fo Fo x Fp Fp;have H:=VG i.t (Fz x Fp) Fo Fo o;have ck:Cok (g::L):=⟨o.small,VR o Fo⟩;have cb:=Du ck ql qh;refine⟨decide (0<Hw (g::L) lo hi),?_,?_⟩
  .rw[decide_eq_true_eq,h.zero d q B,v _ hc];exact⟨λh=>h.1,λh=>⟨h,hv⟩⟩
  .exact U0 func45 rfl [.F,.k cp,.f (decide_eq_false λe=>d (Rh.1 e)),.k w,.F,.k H,.k cb] rfl
end
theorem VT{a b:Tm}(ha:Cut (Gt a))(hb:Cut (Gt b)){c c':Int}(h:CmpOk a b c)(d:CmpOk a b c'):c=c':=by
 have x1:M9 a b->sR a b->False:=λ⟨q,f,g⟩ e=>by rw[e q]at f;omega
 have x2:M9 b a->sR a b->False:=λ⟨q,f,g⟩ e=>by rw[e q]at g;omega
 rcases h with⟨e,h⟩|⟨e,h⟩|⟨e,h⟩ <;> rcases d with⟨e',d⟩|⟨e',d⟩|⟨e',d⟩ <;> first|omega|exact(x1 h d).elim|exact(x1 d h).elim|exact(x2 h d).elim|exact(x2 d h).elim|exact(Cq ha hb h d).elim|exact(Cq hb ha h d).elim
section
variable{a b:Tm}{C C':U9}{N:Nat}{c:Int}
theorem RD{la ha lb hb:Rat}(h:AT a C N la ha)(d:AT b C' N lb hb)(i:N<=2000000)(hp:la=ha\/lb=hb)(hc:CmpOk a b c):U5 13 [.agg (ax a.p C la ha),.agg (ax b.p C' lb hb)] [.oi c]:=by
 have cp:=h.cPt i;have n:=d.cPt i;by_cases e:la=ha
 .have m:=d.cRat i (h.qs i).1;have g:Gt a la=0:=by
   rcases h.st with⟨_,g⟩|⟨_,V,_⟩
   .exact g
   .have:=V.l;rw[e]at this;exact absurd this (Rat.lt_irrefl)
  have ok:=uB d.va (a:=a) (x:=la) λq=>XJ h.va.cut g q
  have j:=VT h.va.cut d.va.cut ok hc;have bd:=d.va.cut.val la;rw[<-j];exact U0 func13 rfl [.k cp,.t (decide_eq_true (Rh.2 e)),.k m] rfl rfl Fw
 .have e':lb=hb:=hp.resolve_left e;have m:=h.cRat i (d.qs i).1;have g:Gt b lb=0:=by
   rcases d.st with⟨_,g⟩|⟨_,V,_⟩
   .exact g
   .have:=V.l;rw[e']at this;exact absurd this (Rat.lt_irrefl)
  have ok:=(uB h.va (a:=b) (x:=lb) λq=>XJ d.va.cut g q).symm;rw[Int.neg_neg]at ok;have j:=VT h.va.cut d.va.cut ok hc;rw[<-j];exact U0 func13 rfl [.k cp,.f (decide_eq_false λx=>e (Rh.1 x)),.k n,.t (decide_eq_true (Rh.2 e')),.k m] rfl
theorem Qyo{la ha lb hb:Rat}(h:AT a C N la ha)(d:AT b C' N lb hb)(e:¬sR a b)(h1:lb<ha)(h2:la<hb):1<((ha-la)+(hb-lb))*p2 (Sw a.p b.p+1):=by
 obtain⟨D,M,k,v⟩:=h.hv;obtain⟨i,g,k',f⟩:=d.hv;rcases tri h.va.cut d.va.cut with x|x|x
 .have:=fK h.va d.va v f x;have h3:=Zb (show hb-la<=(ha-la)+(hb-lb) by grind) (Qom (Sw a.p b.p+1));exact Std.lt_of_lt_of_le this h3
 .exact absurd x e
 .have:=fK d.va h.va f v x;rw[yA]at this;have h3:=Zb (show ha-lb<=(ha-la)+(hb-lb) by grind) (Qom (Sw a.p b.p+1));exact Std.lt_of_lt_of_le this h3
theorem AT.wide{la ha:Rat}(h:AT a C N la ha):ha-la<=p2 (N+1):=by
 obtain⟨D,M,k,d,e,hM,hs⟩:=h.g;have f:=Nj.1 (Qm6 d (s:=N) Fo);have i:=Nj.1 (Qm6 e (s:=N) Fo);have:=rV N;grind
theorem Qt4{p q:U8}(d:Bd 1179 p)(bq:Bd 1179 q)(lp:p.length<=9)(e:q.length<=9):Sw p q<=73904:=by
 have h1:=E5 d;have h2:=E5 bq;unfold Sw;exact Zf (n₁:=Rm p+Rm q+(p.length+q.length)+8) (n₂:=2384) (m₁:=2*(p.length+q.length-2)-1) (m₂:=31) Fo Fo
set_option maxHeartbeats 1000000 in
theorem uH{la ha lb hb:Rat}(h:AT a C N la ha)(d:AT b C' N lb hb)(hN:N<=900000)(hc:CmpOk a b c):U5 13 [.agg (ax a.p C la ha),.agg (ax b.p C' lb hb)] [.oi c]:=by
 have cp:=h.cPt Fo;have i:=d.cPt Fo;by_cases e:la=ha
 .exact RD h d Fo (.inl e) hc
 by_cases e':lb=hb
 .exact RD h d Fo (.inr e') hc
 obtain⟨pb1,ptb,bb,_⟩:=d.pr e';obtain⟨pa1,pta,ba,_⟩:=h.pr e;have Y:=h.va.n;have E:=d.va.n;obtain⟨z,hz,cz_⟩:=Qk8 h Fo e pb1 E bb;obtain⟨ql',qh'⟩:=d.qs Fo;have o:=h.cRat Fo ql';have B:=h.cRat Fo qh';have v1:=h.va.cut.val lb;have v2:=h.va.cut.val hb;rcases d.st with⟨x,_⟩|⟨_,V,eq_,_⟩
 .exact absurd x e'
 have same:sR a b↔(Il (cz b.p) (Gt a)/\Gt a lb=1/\Gt a hb≠1):=by
  constructor
  .intro m;have e2:Gt a=Gt b:=funext m;rw[e2];exact⟨d.va.van,by rw[<-eq_];exact Cf Qp,by rw[<-eq_];exact V.hi1⟩
  .rintro⟨x1,x2,x3⟩ q
   rw[V.uniq h.va.cut x2 x3 x1 q,eq_]
 have hK:=Qt4 ba bb Y E;by_cases m:sR a b
 .obtain⟨s1,s2,s3⟩:=same.1 m;have c0:c=0:=VT h.va.cut d.va.cut hc (.inr (.inl ⟨rfl,m⟩));have Q:=hz.2 s1;rw[Q]at cz_;rw[c0];exact U0 func13 rfl [.k cp,.f (decide_eq_false λx=>e (Rh.1 x)),.k i,.f (decide_eq_false λx=>e' (Rh.1 x)),.k cz_,.t rfl,.k o,.g 27 true U7,.k B,.T] rfl
 obtain⟨J,hJ⟩:=nmE (N+73910);have wd:((ha-la)+(hb-lb))*p2 0<=p2 (N+2):=by
  have w1:=h.wide;have w2:=d.wide;have w3:=rV (N+1);have w4:p2 0=1:=rfl;rw[w4];grind
 refine G7 func13 rfl ?_;refine Ux [.k cp,.f (decide_eq_false λx=>e (Rh.1 x)),.k i,.f (decide_eq_false λx=>e' (Rh.1 x)),.k cz_] rfl ?_;refine ct 1 (S:=Unit) (λ_=>[(3,.v (.one (.ow 1 0))),(2,.v (.one (.ow 0 0)))]) (λ_=>[.blk 54 (ax a.p C la ha),.blk 54 (ax b.p C' lb hb)]) (λ_=>True) rfl ?_ λ_ _=>?_
 .cases z with
  |false=>exact go tt [.f rfl] rfl trivial (rc () trivial rfl)
  |
   true =>
   have hv:=hz.1 rfl;by_cases x1:Gt a lb=1
   .have x2:Gt a hb=1:=Classical.byContradiction λx=>m (same.2 ⟨hv,x1,x⟩)
    exact go tt [.t rfl,.k o,.g 27 true U7,.k B,.F] rfl trivial (rc () trivial rfl)
   .exact go tt [.t rfl,.k o,.g 27 false U6,.f rfl] rfl trivial (rc () trivial rfl)
 refine Ux [] rfl ?_;refine U4 (S:=Nat×Rat×Rat×Rat×Rat) 2 (λL1 _=>L1) (λs=>[.blk 54 (ax a.p C s.2.1 s.2.2.1),.blk 54 (ax b.p C' s.2.2.2.1 s.2.2.2.2)]) (λs=>J-s.1) (λs=>AT a C (N+s.1) s.2.1 s.2.2.1/\AT b C' (N+s.1) s.2.2.2.1 s.2.2.2.2/\s.1<=J/\((s.2.2.1-s.2.1)+(s.2.2.2.2-s.2.2.2.1))*p2 s.1<=p2 (N+2)) (0,la,ha,lb,hb) ⟨h,d,Qj _,wd⟩ rfl rfl λ⟨j,L,O,xb,K⟩ ⟨i1,i2,i3,i4⟩=>?_
 dsimp only at i1 i2 i3 i4 ⊢;have cp:=i1.cPt Fo;have i:=i2.cPt Fo;by_cases r:L=O
 .exact Uz [.k cp,.g 36 true (decide_eq_true (Rh.2 r)),.t rfl,.k (RD i1 i2 Fo (.inl r) hc)] rfl
 by_cases u:xb=K
 .exact Uz [.k cp,.g 36 false (decide_eq_false λx=>r (Rh.1 x)),.k i,.t (decide_eq_true (Rh.2 u)),.k (RD i1 i2 Fo (.inr u) hc)] rfl
 obtain⟨qa1,X⟩:=i1.qs Fo;obtain⟨Z,R⟩:=i2.qs Fo;have W:=Lp (X.mono (t:=40000000) Fp) (Z.mono Fp);have k2:=Lp (R.mono (t:=40000000) Fp) (qa1.mono Fp);have l:∀{t:Tm} {D:U9} {M:Nat} {x y:Rat},AT t D M x y->x≠y->Gt t x=1/\Gt t y≠1:=λ{t D M x y} hh hne=>by
  rcases hh.st with⟨z,_⟩|⟨_,V,q,_⟩
  .exact absurd z hne
  .exact⟨by rw[<-q];exact Cf Qp,by rw[<-q];exact V.hi1⟩
 have lt_of:∀{s t:Tm} {x y:Rat},Cut (Gt s)->Cut (Gt t)->¬sR s t->Gt s x≠1->Gt t y=1->x<=y->M9 s t:=λ{s t x y} cs ct_ hne h1 h2 hxy=>by
  rcases tri cs ct_ with z|z|⟨q,z1,z2⟩
  .exact z
  .exact absurd z hne
  .exfalso;have l1:=ct_.lt h2 z1;rcases Vq (a:=q) (b:=x)with z|z
   .grind
   .rcases W3.1 z with z'|z'
    .have:=cs.mono' z' Fo;exact h1 this
    .rw[z']at h1;exact h1 z2
 obtain⟨a1,a2⟩:=l i1 r;obtain⟨b1,b2⟩:=l i2 u;by_cases I:O<=xb
 .have c1:c=-1:=VT h.va.cut d.va.cut hc (.inl ⟨rfl,lt_of h.va.cut d.va.cut m a2 b1 I⟩);rw[c1];exact Uz [.k cp,.g 36 false (decide_eq_false λx=>r (Rh.1 x)),.k i,.f (decide_eq_false λx=>u (Rh.1 x)),.k W,.t (decide_eq_true (Dm.2 I))] rfl
 by_cases P:K<=L
 .have c1:c=1:=VT h.va.cut d.va.cut hc (.inr (.inr ⟨rfl,lt_of d.va.cut h.va.cut (λx=>m λq=>(x q).symm) b2 a1 P⟩));rw[c1];exact Uz [.k cp,.g 36 false (decide_eq_false λx=>r (Rh.1 x)),.k i,.f (decide_eq_false λx=>u (Rh.1 x)),.k W,.f (decide_eq_false λx=>I (Dm.1 x)),.k k2,.t (decide_eq_true (Dm.2 P))] rfl
 have hg:=Qyo i1 i2 m (Jp.1 I) (Jp.1 P);have U:j<J:=by
  refine Um λhge=>?_
  have e1:p2 j=p2 (Sw a.p b.p+1)*p2 (j-(Sw a.p b.p+1)):=by rw[<-Q09];congr 1;omega
  have e2:p2 (N+2)<=p2 (j-(Sw a.p b.p+1)):=Qej Fo;have e3:0<p2 (j-(Sw a.p b.p+1)):=Std.lt_of_lt_of_le (show(0:Rat)<1 by decide) (Q1a _);have:=Jz hg e3;rw[e1]at i4;grind
 obtain⟨H,A,n1,n2,_,_,n3⟩:=pP i1 Fo;obtain⟨w,G,m1,m2,_,_,m3⟩:=pP i2 Fo;refine Ux [.k cp,.g 36 false (decide_eq_false λx=>r (Rh.1 x)),.k i,.f (decide_eq_false λx=>u (Rh.1 x)),.k W,.f (decide_eq_false λx=>I (Dm.1 x)),.k k2,.f (decide_eq_false λx=>P (Dm.1 x)),.k n3,.k m3] rfl ?_;refine rd (j+1,H,A,w,G) Fv ⟨n1,m1,U,?_⟩ rfl;dsimp only;have e1:=rV j;have h2:∀x:Rat,x / 2*2=x:=λx=>Hq Fp
 have z1:=h2 (O-L);have z2:=h2 (K-xb);have z3:(A-H+(G-w))*2<=(O-L)+(K-xb):=Fu;have z4:=Zb z3 (Qom j);grind
end
end Orq
namespace Orq
open Go Go.Proofs Tryz Orr
set_option maxRecDepth 10000
variable{t:Tm}
theorem Qnx(h:t.lo<t.hi):t.point=false:=by
 unfold Tm.point;refine decide_eq_false λa=>?_
 rcases Int.lt_or_eq_of_le a with h1|h1
 .have:=Dl.1 h1;grind
 .have:=Rh.1 h1.symm;grind
variable{N:Nat}
theorem Qyf{C:U9}(va:Va t)(ck:Cok C)(hl:t.lo<t.hi)(V:Vt (cz t.p) (C.map cz) t.lo t.hi)(an:Anc t.p)(g:∃D M k,Gr D M k t.lo/\Gr D M k t.hi/\0<M/\Gm (D:Int)+Gm (M:Int)+k<=N):AT t C N (ZK t.p t.lo t.hi) t.hi:=by
 obtain⟨D,M,k,f,a,d,c⟩:=g;have b:Hu t.lo t.hi≠0:=λh=>by have:=Rh.1 h;grind
 by_cases h0:Hp t.p t.hi=0
 .have e:ZK t.p t.lo t.hi=t.hi:=by unfold ZK;rw[if_pos ⟨b,h0⟩]
  rw[e];refine⟨va,ck,.inl ⟨rfl,?_⟩,λ_=>an,D,M,k,a,a,d,c⟩;rw[Bi hl];unfold cq;rw[if_neg Fu,if_neg Rat.lt_irrefl,if_pos (by rw[M7]at h0;rw[Gd];exact h0)]
 .have e:ZK t.p t.lo t.hi=t.lo:=by unfold ZK;rw[if_neg λh=>h0 h.2]
  rw[e];exact⟨va,ck,.inr ⟨Qnx hl,V,λq=>(Bi hl q).symm,h0⟩,λ_=>an,D,M,k,f,a,d,c⟩
variable{l:List Tm}
theorem _root_.Orr.TnOk.at_{p q:U8}{c:U9}(h:TnOk p q c l)(ht:t∈l):AT t c 82000 (ZK q t.lo t.hi) t.hi:=by
 obtain⟨a,b,V⟩:=h.vt t ht;rw[<-a]at V;have:=Qyf (h.va t ht) h.ck b V (by rw[a];exact h.sz.1) (h.gr t ht);rwa[a]at this
def Q6d(q:U8)(c:U9):Option Tm->Fh
 |none=>[.agg [.row [],.row [],.row [],.bool false,.row [],.bool false,.row [],.bool false,.row [],.bool false],.one (.bool false)]
 |some t=>[.agg (axr q c t),.one (.bool true)]
theorem Qck{p q:U8}{c:U9}(h:TnOk p q c l)(s:U5 42 [.one (rp (zp p))] [.one (.row (DY q c l))]){a:Tm}{C:U9}{la ha:Rat}(hA:AT a C N la ha)(y:N<=900000)(o:82000<=N){r:Option Tm}(hr:QO a l=some r):
 U5 12 [.one (rp (zp p)),.agg (ax a.p C la ha)] (Q6d q c r):=by
 have hn:=h.n;refine G7 func12 rfl ?_;refine Ux [.k s] rfl ?_;have w:(DY q c l).length=l.length:=Ze _;refine U4 (S:=Nat) 2 (λL1 i=>(12,.v (.oi i))::L1) (λ_=>[.blk 54 (ax a.p C la ha),.blk 54 [.nils,.nils,.nils,.bool false,.nils,.bool false,.nils,.bool false,.nils,.bool false]]) (λi=>l.length-i) (λi=>i<=l.length/\QO a (l.drop i)=some r) 0 ⟨Qj _,hr⟩ rfl rfl λi ⟨hi,hx⟩=>?_
 by_cases b:i<l.length
 .obtain⟨t,ht⟩:=gxE (l:=l) (i:=i) b;have hm:=Qc ht;have d:=h.at_ hm;obtain⟨u,_,_⟩:=h.vt t hm;rw[Zo b]at hx;have e:l[i]=t:=by rw[Qf b]at ht;exact Option.some.inj ht
  rw[e]at hx;unfold QO at hx;obtain⟨z,m,j⟩:=QP (h.va t hm) hA.va;rw[m,Xl]at hx;have g:=uH (d.mono o) hA y j;rw[u]at g;by_cases hz:0<z
  .rw[if_pos hz]at hx;obtain rfl:=Option.some.inj hx;exact Uz [.T,.x (Ra (f:=axr q c) ht),.k g,.t (decide_eq_true hz),.x (Ra (f:=axr q c) ht)] rfl
  .rw[if_neg hz]at hx;refine Uy [.T,.x (Ra (f:=axr q c) ht),.k g,.f (decide_eq_false hz)] rfl ?_;exact rd (i+1) Fo ⟨Fo,hx⟩ rfl
 .rw[List.drop_of_length_le Fo]at hx;unfold QO at hx;obtain rfl:=Option.some.inj hx;exact Uz [.F] rfl
structure Ri(t:Tm)(L:List (List Int)):Prop where
 va:Va t
 l:t.lo<t.hi
 V:Vt (cz t.p) ((t.p::L).map cz) t.lo t.hi
 an:Anc t.p
 fr:FRun t.p 1 (λ_=>t.p)
 ch:ChRun t.p t.p (t.p::L)
 g:∃D M k,Gr D M k t.lo/\Gr D M k t.hi/\0<M/\Gm (D:Int)+Gm (M:Int)+k<=82000
theorem Q4d{t:Tm}(va:Va t)(hl:t.lo<t.hi)(an:Anc t.p)(g:∃D M k,Gr D M k t.lo/\Gr D M k t.hi/\0<M/\Gm (D:Int)+Gm (M:Int)+k<=82000):∃L,Ri t L:=by
 obtain⟨L,P,a,h1,sq,V⟩:=va.sc (Qnx hl);obtain⟨f,c⟩:=jO sq va.n2 va.n (an.bd va.tr) Fp h1;exact⟨L,va,hl,V,an,f,c,g⟩
theorem TnOk.ri{p q:U8}{c:U9}{l:List Tm}(h:TnOk p q c l){t:Tm}(ht:t∈l):∃L,Ri t L:=by
 obtain⟨a,b,_⟩:=h.vt t ht;exact Q4d (h.va t ht) b (by rw[a];exact h.sz.1) (h.gr t ht)
section
variable{t:Tm}{L:U9}
theorem Ri.cok(h:Ri t L):Cok (t.p::L):=⟨h.ch.small,VR h.ch (by have:=h.va.n;omega)⟩
theorem Ri.qs(h:Ri t L):Qs 2000000 t.lo/\Qs 2000000 t.hi:=by
 obtain⟨D,M,k,a,b,hM,hs⟩:=h.g;exact⟨QI a hM Fo,QI b hM Fo⟩
theorem Ri.at_(h:Ri t L):AT t (t.p::L) 82000 (ZK t.p t.lo t.hi) t.hi:=Qyf h.va h.cok h.l h.V h.an h.g
theorem Ri.b8(h:Ri t L):Bd 8000000 t.p:=Fz (h.an.bd h.va.tr) Fp
theorem Ri.pr(h:Ri t L):Rf t.p=t.p:=by
 obtain⟨_,P,g,_,sq,_⟩:=h.va.sc (Qnx h.l);rw[H9,C9 sq.pq]
theorem Ri.cFA(h:Ri t L):U5 50 [.agg (ta t)] [.agg (ax t.p (t.p::L) (ZK t.p t.lo t.hi) t.hi)] :=
 Qr6 (p:=t.p) (C:=t.p::L) (lo:=t.lo) (hi:=t.hi) h.va.tr h.b8 h.va.n2 (by have:=h.va.n;omega) h.pr h.ch h.qs.1 h.qs.2
theorem Qte(h:Ri t L):U5 49 [.agg (ta t)] [.one (.bool true)]:=by
 have o:=h.va.n;have n2:=h.va.n2;obtain⟨ql,qh⟩:=h.qs;have c:=LF (p:=t.p) (Fz h.b8 Fp) Fo;rw[show trim t.p=t.p from h.va.tr]at c;have j:=FT t.p;have i:=GK h.va.tr (Fz h.b8 Fp) Fo n2 h.fr;have a:=I6 (BQ (λ_=>t.p) 1);rw[PX]at a;have b:=Lp (ql.mono (t:=40000000) Fp) (qh.mono Fp);have hm:Hu t.lo t.hi=-1:=by
  have h1:Hu t.lo t.hi<=0:=Dm.2 (Qq h.l);have h2:Hu t.lo t.hi≠0:=λe=>by have:=Rh.1 e;have:=h.l;grind
  unfold Hu Dv at *
  split at * <;> first|rfl|omega|(split at * <;> omega)
 rw[hm]at b;have m:=VG h.va.tr (Fz h.b8 Fp) Fo n2 h.ch;have d:=Du h.cok ql qh;have hb:Hw (t.p::L) t.lo t.hi=1:=by
  rw[Nb (Qq h.l)];have:=h.V.v;omega
 rw[hb]at d;exact U0 func49 rfl [.k c,.g 13 false U6,.g 21 false Fq,.k i,.f Fq,.k (VU ql),.k (VU qh),.k b,.f rfl,.f rfl,.k m,.k d] rfl rfl Fy
theorem pK{u:Tm}{q:U8}{c:U9}(h:Ri t L)(hu:AT u c 82000 (ZK q u.lo u.hi) u.hi)(b:u.p=q)(he:sR t u):U5 15 [.one (.row [ta t]),.one (.row [axr q c u])] [.one (.bool true)]:=by
 have a:=uH h.at_ hu Fp (c:=0) (.inr (.inl ⟨rfl,he⟩));rw[b]at a;refine G7 func15 rfl ?_;refine Ux [.f rfl] rfl ?_;refine U4 (S:=Nat) 0 (λL1 i=>(13,.v (.oi i))::L1) (λ_=>[]) (λi=>1-i) (λi=>i<=1) 0 Fp rfl rfl λi hi=>?_
 rcases(show i=0\/i=1 by omega)with rfl|rfl
 .refine Ux [.t rfl,.x (l:=[ta t]) (i:=0) rfl,.k (Qte h),.g 22 false rfl,.x (l:=[ta t]) (i:=0) rfl,.k h.cFA,.x (l:=[axr q c u]) (i:=0) rfl,.k a,.f rfl] rfl ?_ Fy;exact rd 1 Fo Fo rfl
 .exact Uz [.f rfl] rfl
end
end Orq
namespace Orr
open Go Go.Proofs Tryz Orq
set_option maxRecDepth 10000
theorem NC{sg:U8->Int}:∀{l:List Pt},∀x∈Mm sg l,Rp sg x.p=x.want
 | [],x,hx=>by cases hx
 | [_],x,hx=>by cases hx
 |
  a::b::l,x,hx=>by
  rcases Qm.1 hx with rfl|hx
  .rfl
  .exact NC x hx
variable{q:Rat}
theorem Qgu{M:List Pt}:∀c∈Im M q,Rp (G6 (tq q)) c.p=c.want:=λc hc=>by
 unfold Im at hc;simp only[Qr]at hc;rcases hc with (((hc|hc)|hc)|hc)|hc <;> have hc:=Tc (Tc hc)
 .exact NC c hc
 .obtain⟨m,_,rfl⟩:=Q8.1 hc;rfl
 .rcases Qr.1 hc with hx|hx
  .exact NC c hx
  .obtain⟨e,_,x,_,_,rfl⟩:=qX hx;rfl
 .match M,hc with
  |
   u::v::l',hx =>
   unfold sL at hx;simp only[Ei]at hx;obtain⟨m,_,rfl⟩:=MG hx;rw[Cu]
 .rcases Qr.1 hc with hx|hx
  .obtain⟨m,_,rfl⟩:=Q8.1 hx;rfl
  .obtain⟨m,_,rfl⟩:=Q8.1 hx;rfl
theorem Q3s(q:Rat):Gr q.den (q.num.natAbs+1) 0 q:=by
 have e:(q.num:Rat)=q*(q.den:Rat):=by
  have:(q.num:Rat) / (((q.den:Int)):Rat)=q:=by rw[To,Z9]
  have h2:(q.num:Rat) / (q.den:Rat)*(q.den:Rat)=q.num:=Zg (by have:=Orq.nat_pos q.den_pos;grind);rw[show(q.num:Rat) / (q.den:Rat)=q from this]at h2;exact h2.symm
 refine⟨⟨q.num,?_⟩,?_,q.den_pos⟩
 .rw[Yu,Ye];exact e.symm
 .have h1:Gw q<=Gw (q.num:Rat):=by
   rw[e,I2];have b:(1:Rat)<=(q.den:Rat):=by
    have:((1:Nat):Rat)<=(q.den:Rat):=Zd.2 q.den_pos;exact this
   have d:Gw (q.den:Rat)=(q.den:Rat):=by unfold Gw;rw[if_neg Fu]
   rw[d];have:=Bq (a:=Gw q) (c:=1) (Tr q) Qp Fp b;grind
  rw[P9]at h1
  push_cast;grind
theorem Q5w(a:Qs 128 q):AT (tq q) [[-q.num,(q.den:Int)],[1]] 82000 q q:=by
 refine⟨BY (a.mono Fp),Q3j (a.mono Fp),.inl ⟨rfl,by rw[wF];exact Rh.2 rfl⟩,Qqr q,q.den,q.num.natAbs+1,0,Q3s q,Q3s q,Fo,?_⟩;have h1:Gm (q.den:Int)<=128:=a.2;have h2:Gm ((q.num.natAbs+1:Nat):Int)<=129:=vY a.1;omega
theorem Q02{u a k:Tm}(hu:Orq.Cut (Gt u))(ha:Orq.Cut (Gt a))(c:Orq.Cut (Gt k))(h:¬M9 u k)(f:¬M9 k a):¬M9 u a:=λb=>by
 rcases tri c ha with z|z|z
 .exact f z
 .obtain⟨q,d,e⟩:=b;exact h ⟨q,d,by rw[z q];exact e⟩
 .exact h (Qny ha c b z)
def NxA(l:List Ct)(t:Tm):Option Tm->Prop
 |none=>∀x∈l,T0 x.p t none
 |some a=>Va a/\(∃x∈l,T0 x.p t (some a)/\a∈CO x.p)/\∀x∈l,∃o,T0 x.p t o/\∀u,o=some u->¬M9 u a
theorem Q0y:∀(l:List Tm),(∀t∈l,Va t)->∃m,lst l=some m/\∀a,m=some a->a∈l/\∀t∈l,¬M9 t a
 | [],_=>⟨none,rfl,λa h=>by cases h⟩
 |
  b::l,h=>by
  obtain⟨m,e,d,c⟩:=UF l b h;refine⟨some m,by show(O1 b l).map some=_;rw[e];rfl,λa ha=>?_⟩;obtain rfl:=Option.some.inj ha;exact⟨d,c⟩
theorem Qnw{l:List Tm}(h:lst l=some none):l=[]:=by
 cases l with
 |nil=>rfl
 |
  cons b l =>
  unfold lst at h;obtain⟨m,_,h⟩:=Js.1 h;cases h
variable{b:Int}
theorem Qha{E:Es}(h:EOk b E):∃F m,EnD 14 [.one (.ow 0 0)] E [.agg (ota m),.one (.bool m.isSome)] F/\NxA (Im E.M E.q) (tq E.q) m/\EOk b F/\F.M=E.M/\F.q=E.q:=by
 have g:∀{β:Type} {k:Knd β} {c:Cr},At k E.M E.q c->∃ws o,La c.now c.l=some ws/\KL ws=some o/\At k E.M E.q { c with l:=ws }/\NxA (Gv (Gv (k.bc E.M (tq E.q)))) (tq E.q) o:=λ{β k c} ha=>by
  obtain⟨ws,o,w1,N,L,D⟩:=Q0x ha.st;refine⟨ws,o,w1,N,⟨ha.now,L⟩,?_⟩;rw[ha.now]at D;cases o with
  |none=>exact λx hx=>D x (Tc (Tc hx))
  |
   some a =>
   obtain⟨X,v2,⟨x,x1,x2,J⟩,v4⟩:=D;exact⟨X,⟨x,Og.2 (Og.2 x1),x2,J⟩,λx hx=>v4 x (Tc (Tc hx))⟩
 obtain⟨w1,w,a1,I,Z,G⟩:=g h.s;obtain⟨N,y,a2,Q,d2,A⟩:=g h.t;obtain⟨D,r,W,b3,d3,B⟩:=g h.h;obtain⟨L,v,a4,P,S,C⟩:=g h.p;obtain⟨w5,o5,a5,U,T,H⟩:=g h.d;have j:∀x,x∈Im E.M E.q↔x∈Gv (Gv (kS.bc E.M (tq E.q)))\/x∈Gv (Gv (kT.bc E.M (tq E.q)))\/x∈Gv (Gv (kH.bc E.M (tq E.q)))\/x∈Gv (Gv (kP.bc E.M (tq E.q)))\/x∈Gv (Gv (kD.bc E.M (tq E.q))):=λx=>by
  unfold Im;simp only[Qr,or_assoc]
 have f:∀a,a∈[w,y,r,v,o5].filterMap id↔some a=w\/some a=y\/some a=r\/some a=v\/some a=o5:=λa=>by
  rw[Jm];constructor
  .rintro⟨o,Y,e⟩
   have e:o=some a:=e;subst e;simpa using Y
  .intro V;exact⟨some a,by simpa using V,rfl⟩
 have some_:∀{l:List Ct} {o:Option Tm} {a:Tm},NxA l (tq E.q) o->some a=o->NxA l (tq E.q) (some a):=λh e=>by rw[e];exact h
 have n:∀a∈[w,y,r,v,o5].filterMap id,Va a:=λa ha=>by
  rcases(f a).1 ha with e|e|e|e|e
  .exact(some_ G e).1
  .exact(some_ A e).1
  .exact(some_ B e).1
  .exact(some_ C e).1
  .exact(some_ H e).1
 obtain⟨m,K,R⟩:=Q0y _ n;refine⟨_,m,Qr5 h.s.st.inv.ok h.t.st.inv.ok h.h.st.inv.ok h.p.st.inv.ok h.d.st.inv.ok a1 a2 W a4 a5 I Q b3 P U n K,?_,{ h with s:=Z,t:=d2,h:=d3,p:=S,d:=T },rfl,rfl⟩;cases m with
 |
  none =>
  have e:=Qnw K;have en:∀a,¬a∈[w,y,r,v,o5].filterMap id:=λa ha=>by rw[e]at ha;cases ha
  have i:∀{l:List Ct} {o:Option Tm},NxA l (tq E.q) o->(∀a,some a=o->False)->∀x∈l,T0 x.p (tq E.q) none:=λ{l o} h h'=>by
   cases o with
   |none=>exact h
   |some a=>exact(h' a rfl).elim
  intro x hx;rcases(j x).1 hx with hx|hx|hx|hx|hx
  .exact i G (λa e=>en a ((f a).2 (.inl e))) x hx
  .exact i A (λa e=>en a ((f a).2 (.inr (.inl e)))) x hx
  .exact i B (λa e=>en a ((f a).2 (.inr (.inr (.inl e))))) x hx
  .exact i C (λa e=>en a ((f a).2 (.inr (.inr (.inr (.inl e)))))) x hx
  .exact i H (λa e=>en a ((f a).2 (.inr (.inr (.inr (.inr e)))))) x hx
 |
  some a =>
  obtain⟨O,m4⟩:=R a rfl;have va:=n a O;refine⟨va,?_,λx hx=>?_⟩
  .have up:∀{l:List Ct} {o:Option Tm},NxA l (tq E.q) o->some a=o->(∀x∈l,x∈Im E.M E.q)->∃x∈Im E.M E.q,T0 x.p (tq E.q) (some a)/\a∈CO x.p:=λh e hl=>by
    obtain⟨_,⟨x,x1,x2,J⟩,_⟩:=some_ h e;exact⟨x,hl x x1,x2,J⟩
   rcases(f a).1 O with e|e|e|e|e
   .exact up G e λx hx=>(j x).2 (.inl hx)
   .exact up A e λx hx=>(j x).2 (.inr (.inl hx))
   .exact up B e λx hx=>(j x).2 (.inr (.inr (.inl hx)))
   .exact up C e λx hx=>(j x).2 (.inr (.inr (.inr (.inl hx))))
   .exact up H e λx hx=>(j x).2 (.inr (.inr (.inr (.inr hx))))
  .have le:∀{l:List Ct} {o:Option Tm},NxA l (tq E.q) o->(∀u,some u=o->u∈[w,y,r,v,o5].filterMap id)->x∈l->∃z,T0 x.p (tq E.q) z/\∀u,z=some u->¬M9 u a:=λ{l o} h hm hx=>by
    cases o with
    |none=>exact⟨none,h x hx,λu hu=>by cases hu⟩
    |
     some k =>
     obtain⟨vk,_,h3⟩:=h;obtain⟨z,p1,p2⟩:=h3 x hx;refine⟨z,p1,λu hu=>?_⟩;subst hu;exact Q02 p1.2.1.cut va.cut vk.cut (p2 u rfl) (m4 k (hm k rfl))
   rcases(j x).1 hx with hx|hx|hx|hx|hx
   .exact le G (λu e=>(f u).2 (.inl e)) hx
   .exact le A (λu e=>(f u).2 (.inr (.inl e))) hx
   .exact le B (λu e=>(f u).2 (.inr (.inr (.inl e)))) hx
   .exact le C (λu e=>(f u).2 (.inr (.inr (.inr (.inl e))))) hx
   .exact le H (λu e=>(f u).2 (.inr (.inr (.inr (.inr e))))) hx
theorem Qmf{E:Es}(h:EOk b E):∃F m,EnD 14 [.one (.ow 0 0)] E [.agg (ota m),.one (.bool m.isSome)] F/\NxA (Im E.M E.q) (tq E.q) m :=
 (Qha h).elim λF ⟨m,h1,h2,_⟩=>⟨F,m,h1,h2⟩
end Orr
namespace Orr
theorem bz1:Bd 9000000 [1]:=λz hz=>by obtain rfl:=Qk.1 hz;decide
theorem bz2:Bd 9000000 [0,1]:=λz hz=>by
 simp only[Qm,Jg,or_false]at hz;rcases hz with rfl|rfl <;> decide
theorem Q5y:∀z∈([0,1]:U8),Gm z≤1:=by
 intro z hz;simp only[Qm,Jg,or_false]at hz;rcases hz with rfl|rfl <;> decide
theorem rz:RRun [1] 1 [0,1] []:=by
 refine .step Fp Fp bz2 bz1 ?_;rw[show QJ [0,1] [1]=[] by decide];exact .stop Fp
theorem dz2:DOk [0,1] [1] [0,1]:=by
 refine⟨Fp,Fp,Fp,bz1,[0,1],[],1,bz2,Fp,?_,Fp⟩;refine .step Fp Fp bz2 Fp Fp Fp ?_;exact .stop Fp
theorem dz1:DOk [1] [1] [1]:=by
 refine⟨Fp,Fp,Fp,bz1,[1],[],1,bz1,Fp,?_,Fp⟩;refine .step Fp Fp bz1 Fp Fp Fp ?_;exact .stop Fp
theorem Q1d:Qbo 0 [[-(0:Rat).num,((0:Rat).den:Int)],[1]]:=by
 show Qbo 0 [[0,1],[1]];refine⟨[0,1],?_⟩;show ChRun [0,1] [0,1] [[0,1],[1]];have a:Rf [0,1]=[0,1]:=Fp;have b:Hh [0,1]=[1]:=Fp;have c:Rf [1]=[1]:=Fp;have d:Se [1]=[1]:=Fp;refine⟨⟨1,λ_=>[0,1],⟨⟨1,[[0,1],[1]],?_,rfl,λk e=>?_⟩,Fp⟩,λi hi=>?_,Fp⟩,⟨1,?_⟩,λz hz=>Qa (Q5y z hz) Fp,Fp,Fp⟩
 .rw[a];refine .step Fp Fp (by show trim _=_;decide) bz2 (by show Bd _ (Hh [0,1]);rw[b];exact bz1) (m:=1) (g:=[1]) ?_ Fp (.stop Fp);show GRun 1 (Rf [0,1]) (Rf (Hh [0,1])) [1];rw[a,b,c];refine .step Fp Fp bz1 rz Fp (λz hz=>by cases hz) rfl ?_;rw[show Rf []=[] by decide];exact .stop _
 .obtain rfl:k=0:=Fo;exact⟨[0,1],[1],[0,1],dz2,dz1,by rw[a,c];exact dz2,a.symm⟩
 .obtain rfl:i=0:=Fo;exact⟨bz1,Fp,bz2,Fp⟩
 .rw[b,d];refine .step Fp Fp bz1 (m:=1) (r:=[]) rz rfl (λz hz=>by cases hz) Fp Fp Fp ?_;exact .stop Fp
end Orr
namespace Orr
open Go Go.Proofs Tryz Orq
set_option maxRecDepth 10000
theorem Qmd{q:Rat}{c:U9}:U5 274 [.one (.row []),.agg (aq q c)] [.one (.row [])]:=by
 refine G7 func274 rfl ?_;refine Ux [.z 5] rfl ?_;refine U4 (S:=Unit) 1 (λL1 _=>(10,.v (.oi 0))::(5,.v (.one (.row [])))::L1) (λ_=>[.blk 54 (aq q c)]) (λ_=>0) (λ_=>True) () trivial rfl rfl λ_ _=>?_
 exact Uz [.f rfl] rfl
theorem aO:U5 276 [.one (.row [])] [.one (.row [])]:=by
 refine G7 func276 rfl ?_;refine Ux [.z 3] rfl ?_;refine U4 (S:=Unit) 0 (λL1 _=>(8,.v (.oi 0))::(3,.v (.one (.row [])))::L1) (λ_=>[]) (λ_=>0) (λ_=>True) () trivial rfl rfl λ_ _=>?_
 exact Uz [.f rfl] rfl
theorem Ql9:U5 278 [.one (.row [])] [.one (.row [])]:=by
 refine G7 func278 rfl ?_;refine Ux [.z 3] rfl ?_;refine U4 (S:=Unit) 0 (λL1 _=>(8,.v (.oi 0))::(3,.v (.one (.row [])))::L1) (λ_=>[]) (λ_=>0) (λ_=>True) () trivial rfl rfl λ_ _=>?_
 exact Uz [.f rfl] rfl
theorem Qme:U5 281 [.one (.row [])] [.one (.row [])]:=by
 refine G7 func281 rfl ?_;refine Ux [.z 3,.k Ql9] rfl ?_;refine U4 (S:=Unit) 0 (λL1 _=>(11,.v (.oi 0))::(3,.v (.one (.row [])))::L1) (λ_=>[]) (λ_=>0) (λ_=>True) () trivial rfl rfl λ_ _=>?_
 exact Uz [.f rfl] rfl
section
variable{q:Rat}{c:U9}
theorem Qmc:U5 238 [.one (.row []),.agg (aq q c)] [.one (.row [])]:=by
 refine G7 func238 rfl ?_;refine Ux [.k Qmd,.z 6] rfl ?_;refine U4 (S:=Unit) 1 (λL1 _=>(7,.v (.oi 0))::(6,.v (.one (.row [])))::L1) (λ_=>[.blk 54 (aq q c)]) (λ_=>0) (λ_=>True) () trivial rfl rfl λ_ _=>?_
 exact Uz [.f rfl,.k aO] rfl rfl Fy
theorem Qz9:U5 239 [.one (.row []),.agg (aq q c)] [.one (.row [])]:=U0 func239 rfl [.t rfl,.z 4] rfl
theorem Qg9:U5 279 [.one (.row []),.agg (aq q c)] [.one (.row [])]:=U0 func279 rfl [.k Qme,.t rfl] rfl
theorem Qz6:U5 240 [.one (.row []),.agg (aq q c)] [.one (.row [])]:=by
 refine G7 func240 rfl ?_;refine Ux [.k Qmc,.k Qg9] rfl ?_;refine U4 (S:=Unit) 1 (λL1 _=>(7,.v (.oi 0))::(5,.v (.one (.row [])))::L1) (λ_=>[.blk 54 (aq q c)]) (λ_=>0) (λ_=>True) () trivial rfl rfl λ_ _=>?_
 exact Uz [.f rfl,.f rfl,.k aO] rfl
abbrev zPq:Fe:=[.row [],.row [],.row [],.row [],.bool false,.row [],.int .i64 0]
theorem Qg8:U5 280 [.one (.row []),.agg (aq q c)] [.agg zPq,.agg zPq,.one (.bool false)]:=U0 func280 rfl [.k Ql9,.t rfl] rfl
theorem Qz8:U5 241 [.one (.row []),.agg (aq q c)] [.one (.row [])]:=U0 func241 rfl [.k Qg8,.t rfl,.z 4] rfl
theorem Qz7:U5 242 [.one (.row []),.agg (aq q c)] [.one (.row [])]:=by
 refine G7 func242 rfl ?_;refine Ux [.k Qme,.z 6] rfl ?_;refine U4 (S:=Unit) 1 (λL1 _=>(15,.v (.oi 0))::(6,.v (.one (.row [])))::L1) (λ_=>[.blk 54 (aq q c)]) (λ_=>0) (λ_=>True) () trivial rfl rfl λ_ _=>?_
 exact Uz [.f rfl,.k aO] rfl
theorem TX(k:Nat)(a:k<5):U5 120 [.oi k,.one (.row []),.agg (aq q c)] [.one (.row [])]:=by
 refine(?_:U5 192 [.oi k,.one (.row []),.agg (aq q c)] [.one (.row [])]->_) ?_
 .intro h;exact U0 func120 rfl [.k h] rfl
 .rcases(show k=0\/k=1\/k=2\/k=3\/k=4 by omega)with rfl|rfl|rfl|rfl|rfl
  .exact U0 func192 rfl [.t rfl,.k Qmc] rfl
  .exact U0 func192 rfl [.f rfl,.t rfl,.k Qz9] rfl
  .exact U0 func192 rfl [.f rfl,.f rfl,.t rfl,.k Qz6] rfl
  .exact U0 func192 rfl [.f rfl,.f rfl,.f rfl,.t rfl,.k Qz8] rfl
  .exact U0 func192 rfl [.f rfl,.f rfl,.f rfl,.f rfl,.k Qz7] rfl
end
theorem OF:U5 119 [.one (.row []),.one (.row [])] [.one (.row [])]:=by
 refine G7 func119 rfl ?_;refine Ux [] rfl ?_;refine U4 (S:=Unit) 0 (λL1 _=>(9,.v (.oi 0))::L1) (λ_=>[]) (λ_=>0) (λ_=>True) () trivial rfl rfl λ_ _=>?_
 exact Uz [.f rfl] rfl
end Orr
namespace Orr
open Go Go.Proofs Tryz Orq
set_option maxRecDepth 10000
theorem sB{b:Int}(h:0<=b):0<=(0:Int)/\(0:Int)<=b:=⟨Y0 _,h⟩
def jQ(np nd:Int):Es:=⟨np,nd,[],0,Qrw [] (tq 0),Q22 [] (tq 0),Q20 [] (tq 0),Q21 [] (tq 0),Q2z [] (tq 0)⟩
theorem UR:MOk []:=⟨λp h=>(by cases h),Fp,List.Pairwise.nil⟩
theorem Qod{np nd:Int}(h1:1<=np/\np<=6)(h2:0<=nd/\nd<=2):EOk 0 (jQ np nd):=by
 have a:Qs 1640000 (0:Rat):=⟨Fp,Fp⟩;exact⟨h1,h2,⟨UR,by show((0:Nat):Int)<=np;omega,λp h=>(by cases h),λp h=>(by cases h)⟩,(show Qs 128 (0:Rat) from⟨Fp,Fp⟩),At.begin okS UR a,At.begin okT UR a,At.begin okH UR a,At.begin okP UR a,At.begin okD UR a,sB (Y0 _),sB (Y0 _),sB (Y0 _),sB (Y0 _),sB (Y0 _)⟩
theorem Qjz{np nd:Int}(h1:1<=np/\np<=6)(h2:0<=nd/\nd<=2):Ge prog 18 [.oi np,.oi nd] [] [.one (.ow 0 0),.oi 0] (enB 0 (jQ np nd)):=Qy0 h1 h2
theorem Q2b:(HE (VY DJ) (xN DJ) 3 600 (Qrw DJ (tq 0)) (xN DJ (tq 0)) 0).map (λx=>x.2.2)=some 1:=by decide +kernel
theorem Qwl:(Ml (tq 3) DJ).map (·.id)=[2,1]:=by decide +kernel
theorem Qn6:MOk DJ:=⟨Q4x,Fp,by unfold Di DJ;decide⟩
theorem Q2a:cnt (VY DJ) 0 3=1:=by
 have f:Qs 1640000 (0:Rat):=⟨Fp,Fp⟩;have ht:Qs 1640000 (3:Rat):=⟨Fp,Fp⟩;have S:=okS.st DJ Qn6;have hv:=BY f;have d:=okS.cp DJ Qn6;have hm:=tG d;have b:=Qxy ((kS.al DJ).flatMap CO) (tq 0);have hl:(Is DJ).length=8:=by rw[sM];rfl
 have hc:¬M9 (tq 3) (tq 0):=λg=>by
  have:=(MV hv.cut).2 g;rw[wF]at this;exact absurd this (by decide +kernel)
 have h:(kS.al DJ).length=8:=hl;obtain⟨c',e,E,c,k,m,l,j,i⟩:=Qxq S ht d (λa _=>okS.al DJ a) 599 ⟨tq 0,(Gv (VY DJ (tq 0))).map fresh,0⟩ (xN DJ (tq 0)) 0 (Qa b Fo) (Qjd S hv) hc;have h1:=Q2b;have c:HE (VY DJ) (xN DJ) 3 600 (Qrw DJ (tq 0)) (xN DJ (tq 0)) 0=some (c',e,0+((E.length:Nat):Int)):=c;rw[c]at h1;have h1:some (0+((E.length:Nat):Int))=some 1:=h1;injection h1 with h1;rw[Qlt S hv i];omega
theorem Qof:Crv.norm (Crv.mk [0,1] [] 0)=run1:=by
 have e:Crv.norm (Crv.mk [0,1] [] 1)=Crv.norm (Crv.mk [0,1] [] 0):=by simp only[Crv.norm,Crv.g,Crv.d'];rfl
 rw[<-e];exact Crv.norm_of qP
theorem Q3i:U5 51 [.one (.row [[.bool false,.row []],[.bool false,.row [[.int .u32 1]]]]),.one (.row [])] [.agg (cl run1)]:=by
 have a:IsInts [[.bool false,.row []],[.bool false,.row [[.int .u32 1]]]] [0,1]:=by
  refine⟨⟨_,_,rfl,false,[],rfl,rfl,(λx hx=>by cases hx),rfl⟩,⟨_,_,rfl,false,[1],rfl,rfl,(λx hx=>by rw[Qk.1 hx];decide),rfl⟩,trivial⟩
 have h:=Qxa (lx:=[[.bool false,.row []],[.bool false,.row [[.int .u32 1]]]]) (ly:=[]) (px:=[0,1]) (py:=[]) a trivial ⟨Fz cs_run1.x Fp,Om,by show Gm 0<=_;decide,by show 2<=1073741824;decide,by show 0<=1073741824;decide⟩;rw[Qof]at h;exact h
theorem Qvc:Dd 2 1 [] ⟨run1,1⟩=0:=by decide +kernel
theorem Qvd:Dd 2 1 [⟨run1,1⟩] ⟨JJ 1 0,2⟩=0:=by decide +kernel
theorem Q2d:∃E1 E2:Es,EOk 0 E2/\E2.m=⟨2,1,DJ,0,0,0,0,0,0⟩/\EnD 25 [.one (.ow 0 0),.oi 1,.agg (cl run1)] (jQ 2 1) [.oi 0] E1/\EnD 25 [.one (.ow 0 0),.oi 2,.agg (cl (JJ 1 0))] E1 [.oi 0] E2:=by
 have h0:=Qod (np:=2) (nd:=1) Fp Fp;have a:=dW (x:=1) (y:=0) Fp Fp;have g:Crv.norm (Crv.mk run1.x run1.y run1.d)=run1:=Crv.norm_of qP;have h:Crv.norm (Crv.mk (JJ 1 0).x (JJ 1 0).y (JJ 1 0).d)=JJ 1 0:=Crv.norm_of a.n;obtain⟨E1,a1,a2,e⟩:=OU h0 (id:=1) (H5 run1.x) (H5 run1.y) (Gb run1.d) (cs_run1.up Fp Fp);rw[g]at a2 e;have i1:(jQ 2 1).m.ins ⟨run1,1⟩=((⟨2,1,[⟨run1,1⟩],0,0,0,0,0,0⟩:Em),0):=by
  unfold Em.ins;rw[show Dd (jQ 2 1).m.np (jQ 2 1).m.nd (jQ 2 1).m.M ⟨run1,1⟩=0 from Qvc,if_pos rfl];rfl
 rw[i1]at a2 e;obtain⟨E2,b1,b,f⟩:=OU a1 (id:=2) (H5 (JJ 1 0).x) (H5 (JJ 1 0).y) (Gb (JJ 1 0).d) (a.c.mono Fp Fp);rw[h,a2]at b f;have i2:((⟨2,1,[⟨run1,1⟩],0,0,0,0,0,0⟩:Em),(0:Int)).1.ins ⟨JJ 1 0,2⟩=((⟨2,1,DJ,0,0,0,0,0,0⟩:Em),0):=by
  unfold Em.ins;dsimp only;rw[Qvd,if_pos rfl];rfl
 rw[i2]at b f;exact⟨E1,E2,b1,b,e,f⟩
theorem Qxw{E:Es}{A:Em}(h:E.m=A):E.np=A.np/\E.nd=A.nd/\E.M=A.M/\E.q=A.q/\E.s.ev=A.s/\E.t.ev=A.t/\E.h.ev=A.h/\E.p.ev=A.p/\E.d.ev=A.d:=by subst h;exact⟨rfl,rfl,rfl,rfl,rfl,rfl,rfl,rfl,rfl⟩
theorem Qi2{A:Em}{t:Rat}(h1:Qs 128 t)(h2:¬t<A.q):A.adv t=(({ A with q:=t,s:=A.s+(cnt (VY A.M) A.q t:Nat),t:=A.t+(cnt (xM A.M) A.q t:Nat),h:=A.h+(cnt (EI A.M) A.q t:Nat),p:=A.p+(cnt (sL A.M) A.q t:Nat),d:=A.d+(cnt (wL A.M) A.q t:Nat) }:Em),0):=by
 unfold Em.adv;rw[if_pos h1];exact if_neg h2
theorem UQ:U5 16 [] [.one (.bool true)]:=by
 obtain⟨E1,E2,h2,u,i1,i2⟩:=Q2d;have ht:Qs 128 (3:Rat):=⟨Fp,Fp⟩;obtain⟨e,h3,A,_,o⟩:=UY h2 Fp (Gb (3:Rat).num) (Gb ((3:Rat).den:Int)) Fp Fp (Mk 3);rw[u,Qi2 ht (by show ¬(3:Rat)<0;decide)]at A o;obtain⟨_,_,r,w,F,_⟩:=Qxw u;obtain⟨_,_,f1,f2,f3,_⟩:=Qxw A;dsimp only at r w F f1 f2 f3;rw[Q2a]at f3;have v:=aU (np:=E2.np) (nd:=E2.nd) (M:=E2.M) (q:=E2.q) (s:=E2.s) (t:=E2.t) (h:=E2.h) (p:=E2.p) (d:=E2.d) h2.m.m.ln;have B:=aU (np:=e.np) (nd:=e.nd) (M:=e.M) (q:=e.q) (s:=e.s) (t:=e.t) (h:=e.h) (p:=e.p) (d:=e.d) h3.m.m.ln;obtain⟨H,j⟩:=nmE (Qi5 E2.M E2.q);obtain⟨G,g⟩:=nmE (Qi5 e.M e.q);rw[<-j]at v;rw[<-g]at B;have E:∃a b c d,H=[ids [1,2],.row a,.row b,.row c,.row d]:=by
  rw[j,r,w];show ∃a b c d,[ids ((Ml (tq 0) DJ).map (·.id)),_,_,_,_]=_;rw[Q2c];exact⟨_,_,_,_,rfl⟩
 have I:∃a b c d,G=[ids [2,1],.row a,.row b,.row c,.row d]:=by
  rw[g,f1,f2];show ∃a b c d,[ids ((Ml (tq 3) DJ).map (·.id)),_,_,_,_]=_;rw[Qwl];exact⟨_,_,_,_,rfl⟩
 obtain⟨a,b,c,d,rfl⟩:=E;obtain⟨J,b',c',d',rfl⟩:=I;have cs:=Qkf (a:=[1,2]) (b:=[1,2]) Fp Fp;have l:=Qkf (a:=[2,1]) (b:=[2,1]) Fp Fp;have D:=JS (n:=3) Fp;have ct:=pU (q:=3) ⟨Fp,Fp⟩;have cst:=Qsm (x:=1) (y:=0) Fp Fp;have C:=Qjh (np:=e.np) (nd:=e.nd) (M:=e.M) (q:=e.q) (s:=e.s) (t:=e.t) (h:=e.h) (p:=e.p) (d:=e.d);rw[f3]at C;refine G7 func16 rfl ?_;exact Uz [.c Fi (Qjz Fp Fp),.f rfl,.f rfl,.z 16,.k Q3i,.c Fi i1,.f rfl,.k cst,.c Fi i2,.f rfl,.c Fi v,.k D,.k ct,.c Fi o,.t rfl,.k cs,.t rfl,.c Fi B,.k l,.t rfl,.c Fi C,.i 0] rfl rfl Fy
def vI(z:RawInt):Int:=Gn z.b (val z.l)
def RawInt.cutN(z:RawInt)(n:Nat):RawInt:=⟨z.b,z.l.take n⟩
variable{z:RawInt}
theorem RawInt.Ok.cutN_ok(h:z.Ok)(n:Nat):(z.cutN n).Ok:=⟨λu hu=>h.u u (Qn hu)⟩
theorem UW(h:z.Ok):Hi (.bool z.b) (.row (lm z.l)) (vI z):=⟨z.b,z.l,rfl,rfl,h.u,rfl⟩
variable{n:Nat}
theorem LA(h:z.Ok)(hl:z.l.length<=n):Gm (vI z)<=32*n:=by
 have h1:=D7 z.l h.u;have e:(vI z).natAbs=val z.l:=by unfold vI Gn;split <;> simp
 refine Pi.2 ?_;rw[e,Wb];exact Xk h1 (Zp Fp hl)
theorem VM(z:RawInt)(n:Nat):(z.cutN n).l.length<=n:=by show(z.l.take n).length<=n;rw[Qt];omega
theorem LU(hn:n<=1000):U5 122 [.agg (Ih z),.oi n] [.agg (Ih (z.cutN n))] :=
 U0 func122 rfl [.k (Qzk (l:=z.l) hn)] rfl
theorem Qsy{t u:RawInt}:U5 66 [.agg (Ih t++Ih u),.oi 6] [.agg (Ih (t.cutN 6)++Ih (u.cutN 6))] :=
 U0 func66 rfl [.k (LU (z:=t) (n:=6) Fp),.k (LU (z:=u) (n:=6) Fp)] rfl
theorem pH{l:List RawInt}:U5 121 [.one (.row (ZZ l)),.oi 4,.oi 1] [.one (.row (ZZ ((l.take 4).map (·.cutN 1))))]:=by
 have b:=JZ l;refine G7 func121 rfl (ln 0 rfl rfl λc=>?_);rw[b]at c;refine Ux [.o 7 35 2] rfl ?_;refine U4 (S:=Nat) 1 (λL1 i=>(8,.v (.oi i))::(7,.v (.one (.orow 0 2 none)))::L1) (λi=>[.row false 35 2 (ZZ ((l.take i).map (·.cutN 1)))]) (λi=>4-i) (λi=>i<=4/\i<=l.length) 0 ⟨Fp,Qj _⟩ rfl rfl λi ⟨hi,d⟩=>?_
 have a:(ZZ ((l.take i).map (·.cutN 1))).length=i:=by rw[JZ,Ze,Qt];omega
 by_cases h1:i<l.length
 .by_cases h2:i<4
  .obtain⟨z,hz⟩:=gxE (l:=l) (i:=i) h1;have hm:∀y∈[Ih (z.cutN 1)],y.length=2:=λy j=>by rw[Qk.1 j];rfl
   refine go tt [.g 13 true U7,.T,.x (Ra (f:=Ih) hz),.k (LU (n:=1) Fp),.s (sz:=2) hm] rfl (by simp[Gi,a,-List.map_take];omega) ?_;exact rd (i+1) Fo ⟨h2,h1⟩ (by rw[Zv,hz];simp[ZZ];rfl)
  .have e:i=4:=Fo;have h:l.take 4=l.take i:=by rw[e]
   rw[h];exact Uz [.g 13 true U7,.F] rfl
 .have e:l.take i=l.take 4:=by rw[Qo Fo,Qo Fo]
  rw[e];exact Uz [.g 13 false U6,.f rfl] rfl
theorem Qyy{z:RawPt}:U5 64 [.agg (rcw z),.oi 4,.oi 1] [.agg [.row (ZZ ((z.x.take 4).map (·.cutN 1))),.row (ZZ ((z.y.take 4).map (·.cutN 1))),.bool z.d.b,.row (lm (z.d.l.take 1))]] :=
 U0 func64 rfl [.k (pH (l:=z.x)),.k (pH (l:=z.y)),.k (LU (z:=z.d) (n:=1) Fp)] rfl
theorem GN:∀{l:List RawInt},(∀z∈l,z.Ok)->IsInts (ZZ l) (l.map vI)
 | [],_=>trivial
 |z::l,h=>⟨⟨_,_,rfl,UW (h z (Qy ..))⟩,GN λy a=>h y (Qi _ a)⟩
theorem jT{x y:LV}{z:Int}(h:Hi x y z)(hl:∀l,y=.row (lm l)->l.length<=1000):U5 36 [.agg [x,y]] [.agg (ri z)]:=by
 obtain⟨b,l,rfl,rfl,hs,rfl⟩:=h;have hl:=hl l rfl;have hv:=D7 l hs;have hsz:sz (val l)<=100000000:=by
  refine Qa ((Db (k:=32*l.length)).2 ?_) Fo;rw[Wb];exact hv
 exact U0 func36 rfl [.k (Qb2 hs Fo hsz),.k (B5 b (val l))] rfl
theorem uZ{x y e c:LV}{a b:Int}(h:Hi x y a)(f:Hi e c b)(hl:∀l,y=.row (lm l)->l.length<=1000)(d:∀l,c=.row (lm l)->l.length<=1000)(m:Gm a<=90000000)(sb:Gm b<=90000000):U5 7 [.agg [x,y,e,c]] [.agg (fr (Hn a b))]:=by
 have g:=jT h hl;have j:=jT f d;have i:=JP m sb;obtain⟨b1,l1,rfl,rfl,_⟩:=h;obtain⟨n,l2,rfl,rfl,_⟩:=f;exact U0 func7 rfl [.k g,.k j,.k i] rfl
theorem Qns{a b:Fa}(h:LV.row (lm a)=.row (lm b)):a.length=b.length:=by
 injection h with h;have:=congrArg List.length h;simpa[lm]using this
theorem Qjn{q:Rat}(a:Qs 30000 q):U5 7 [.agg (rl q)] [.agg (fr q)]:=by
 have e:Hn q.num (q.den:Int)=q:=by
  unfold Hn;rw[if_neg (by have:=q.den_pos;omega)];exact Z9 q
 have ln:∀{z:Int},Gm z<=30000->∀l,mg z=.row (lm l)->l.length<=1000:=λ{z} hz l h=>by
  have h1:=Sp (x:=z.natAbs) (k:=30000) hz;have:=Qns h;omega
 have h:=uZ (Gb q.num) (Gb (q.den:Int)) (ln a.1) (ln a.2) (Qa a.1 Fp) (Qa a.2 Fp);rw[e]at h;exact h
theorem Qoc{m b:Nat}(hb:0<b)(h:0<m % b):(-(m:Int)) % (b:Int)=-((m % b:Nat):Int)+(b:Int):=by
 have h1:=Xf m hb;have h2:=Wv m b;have e:-(m:Int)=(-((m % b:Nat):Int)+(b:Int))+(b:Int)*(-((m / b:Nat):Int)-1):=by
  have:(m:Int)=((m % b:Nat):Int)+(b:Int)*((m / b:Nat):Int):=by
   have:=congrArg (λ(n:Nat)=>(n:Int)) h2
   push_cast at this ⊢
   omega
  rw[Int.mul_sub,V2];omega
 rw[e,Int.add_mul_emod_self_left];exact Int.emod_eq_of_lt Fo Fo
theorem Qgk{a:Int}{b:Nat}(ha:Gm a<=90000000)(hb:Gm (b:Int)<=90000000)(h0:0<b):∃x,U5 76 [.agg (ri a),.agg (ri (b:Int))] [.agg (ri x),.agg (ri (a % (b:Int)))]:=by
 have cd:=aZ (x:=a.natAbs) (y:=(b:Int).natAbs) ha hb Fo;have g:(b:Int).natAbs=b:=rfl;have sb:sg (b:Int)=.bool false:=by unfold sg;rw[decide_eq_false Fo]
 rw[g]at cd;have s:=Xf a.natAbs h0;rcases Kv a 0 with hn|hn
 .have j:sg a=.bool true:=by unfold sg;rw[decide_eq_true hn]
  have i:=B5 true (a.natAbs / b);have c:=B5 true (a.natAbs % b);have h:a=-(a.natAbs:Int):=Fo;by_cases hr:a.natAbs % b=0
  .have e:a % (b:Int)=0:=by
    rw[h];exact Yh ((Uu).2 (Int.ofNat_dvd.2 (Nat.dvd_of_mod_eq_zero hr)))
   rw[e];refine⟨Gn true (a.natAbs / b),?_⟩;rw[hr]at c cd;rw[show Gn true 0=0 from rfl]at c;show U5 76 [.agg [nd a.natAbs,sg a],.agg [nd (b:Int).natAbs,sg (b:Int)]] _;rw[j,sb,g];exact U0 func76 rfl [.k cd,.k i,.k c,.t rfl] rfl
  .have e:=Qoc h0 (by omega:0<a.natAbs % b);rw[<-h]at e;have os:Gn true (a.natAbs % b)=-((a.natAbs % b:Nat):Int):=rfl;have d:decide (Gn true (a.natAbs % b)<0)=true:=by rw[os];exact decide_eq_true Fo
   have l:Gm (Gn true (a.natAbs % b))<=200000000:=by
    rw[os,Rq];exact Qa (Sk (Nat.mod_le _ _)) (Qa ha Fp)
   have o:Gm (Gn true (a.natAbs / b))<=200000000:=by
    show Gm (-((a.natAbs / b:Nat):Int))<=_;rw[Rq];exact Qa (Sk (J8 _ _)) (Qa ha Fp)
   have q:=ZO (n:=1) Fp;have r:=aH (a:=Gn true (a.natAbs / b)) (b:=1) o Fp;have p:=uF (a:=Gn true (a.natAbs % b)) (b:=(b:Int)) l (Qa hb Fp);rw[os,<-e]at p;rw[os]at c d;refine⟨Gn true (a.natAbs / b)-1,?_⟩;show U5 76 [.agg [nd a.natAbs,sg a],.agg [nd (b:Int).natAbs,sg (b:Int)]] _;have m:U5 68 [.agg (ri (-((a.natAbs % b:Nat):Int))),.agg [nd b,.bool false]] [.agg (ri (a % (b:Int)))]:=by rw[<-sb];exact p
   rw[j,sb,g];exact U0 func76 rfl [.k cd,.k i,.k c,.f (show(!decide (-((a.natAbs % b:Nat):Int)<0))=false by rw[d];rfl),.f rfl,.k q,.k r,.k m] rfl
 .have j:sg a=.bool false:=by unfold sg;rw[decide_eq_false Fo]
  have i:=B5 false (a.natAbs / b);have c:=B5 false (a.natAbs % b);have h:a=(a.natAbs:Int):=Fo;have e:a % (b:Int)=((a.natAbs % b:Nat):Int):=by rw[h];rfl
  have os:Gn false (a.natAbs % b)=((a.natAbs % b:Nat):Int):=rfl;have d:decide (((a.natAbs % b:Nat):Int)<0)=false:=decide_eq_false Fo;rw[e];rw[os]at c;refine⟨Gn false (a.natAbs / b),?_⟩;show U5 76 [.agg [nd a.natAbs,sg a],.agg [nd (b:Int).natAbs,sg (b:Int)]] _;rw[j,sb,g];exact U0 func76 rfl [.k cd,.k i,.k c,.t (show(!decide (((a.natAbs % b:Nat):Int)<0))=true by rw[d];rfl)] rfl
def CV(x:Rat):Rat:=Hn (x.num % (x.den:Int)) (x.den:Int)
theorem Qe4{x:Rat}(h:Qs 128 x):Qs 128 (CV x):=by
 have h0:=x.den_pos;have h1:=Y3 x.num (b:=(x.den:Int)) Fo;have h2:=J9 x.num (b:=(x.den:Int)) Fo;unfold CV Hn;rw[if_neg Fo];refine⟨Mz (Qa (Sk Fo) h.2),My h.2 Fp⟩
theorem Qs3{x y j d:LV}{a b:Int}(h:Hi x y a)(m:Hi j d b)(hl:∀l,y=.row (lm l)->l.length<=1000)(e:∀l,d=.row (lm l)->l.length<=1000)(s:Gm a<=90000000)(sb:Gm b<=90000000)(c:Qs 128 (Hn a b)):U5 31 [.agg [x,y,j,d]] [.agg (rl (CV (Hn a b)))]:=by
 have i:=uZ h m hl e s sb;obtain⟨q,g⟩:=nmE (Hn a b);rw[<-g]at i c ⊢;have p:=pU (q:=q) (c.mono Fp);obtain⟨z,o⟩:=Qgk (a:=q.num) (b:=q.den) (Qa c.1 Fp) (Qa c.2 Fp) q.den_pos;have h2:=J9 q.num (b:=(q.den:Int)) (by have:=q.den_pos;omega);have h1:=Y3 q.num (b:=(q.den:Int)) (by have:=q.den_pos;omega);have r:=JP (a:=q.num % (q.den:Int)) (b:=(q.den:Int)) (Qa (Sk Fo) (Qa c.2 Fp)) (Qa c.2 Fp);have n:=pU (q:=CV q) ((Qe4 c).mono Fp);have l1:=VQ.2 c.1;have l2:(He q.den).length<=4:=by simpa using VQ.2 c.2
 obtain⟨b1,r1,rfl,rfl,_⟩:=h;obtain⟨t,r2,rfl,rfl,_⟩:=m;exact U0 func31 rfl [.k i,.k p,.f (by simp[sU];omega),.f (by simp[sU];omega),.k o,.k r,.k n] rfl
theorem Qs2{x y g c:LV}{a b:Int}(h:Hi x y a)(o:Hi g c b)(hl:∀l,y=.row (lm l)->l.length<=1000)(e:∀l,c=.row (lm l)->l.length<=1000)(j:Gm a<=32000)(sb:Gm b<=32000)(m:¬Qs 128 (Hn a b)):U5 31 [.agg [x,y,g,c]] [.agg [x,y,g,c]]:=by
 have d:=uZ h o hl e (Qa j Fp) (Qa sb Fp);have hs:Qs 32000 (Hn a b):=by
  unfold Hn
  split
  .exact⟨Mz j,My Fp Fp⟩
  .exact⟨Mz j,My sb Fp⟩
 obtain⟨q,i⟩:=nmE (Hn a b);rw[<-i]at d m hs;have n:=pU (q:=q) (hs.mono Fp);obtain⟨b1,r1,rfl,rfl,_⟩:=h;obtain⟨p,r2,rfl,rfl,_⟩:=o;by_cases h1:Gm q.num<=128
 .have h2:¬Gm (q.den:Int)<=128:=λh=>m ⟨h1,h⟩
  have l1:=VQ.2 h1;have l2:¬(He q.den).length<=4:=by simpa using mt VQ.1 h2
  exact U0 func31 rfl [.k d,.k n,.f (by simp[sU];omega),.t (by simp[sU];omega)] rfl
 .have l1:=mt VQ.1 h1;exact U0 func31 rfl [.k d,.k n,.t (by simp[sU];omega),.t rfl] rfl
theorem KY(a:Int):∀i,Gm (a^i)<=Gm a*i+1
 | 0=>by rw[Ui];show Gm 1<=_;exact Qa Fp (Wu 1 _)
 |
  i+1=>by
  rw[Uh];have h1:=G9 (a^i) a;have h2:=KY a i;rw[Uo];omega
theorem Qj5{a:Int}{n:Nat}(ha:Gm a<=1000)(hn:n<=256):U5 138 [.agg (Rr a),.oi n] [.agg (Rr (a^n))]:=by
 refine G7 func138 rfl ?_;refine Ux [.k (AD (z:=1) Fp),.r 8 (v:=.oi n) Fq,.r 9 (v:=.oi n) Ft] rfl ?_;refine lp (S:=Nat) 3 (λL1 i=>(10,.v (.oi i))::L1) (λi=>[.blk 35 (Rr a),.blk 35 [.bool false,.nils],.blk 35 (Rr (a^i))]) (λi=>n-i) (λi=>i<=n) 0 (Qj _) rfl (λ_ _=>rfl) (by rw[Ui];rfl) λi hi=>?_
 by_cases h:i<n
 .have h1:=KY a i;have h2:Gm a*i<=1000*256:=Zf ha Fo;have b:=Nx (Gb (a^i)) (Gb a) Fo Fo;rw[<-Uh]at b;refine Uy [.t Fq,.k b] rfl ?_;exact rd (i+1) Fo h rfl
 .obtain rfl:i=n:=Fo;exact Uz [.f Ft] rfl
def Ss(n d:Int):U8->U8×Int
 | []=>([],1)
 |x::l=>(QW (Hb (Ss n d l).1 [n,d]) [x*(Ss n d l).2],(Ss n d l).2*d)
theorem oK(n d:Int):∀l,Gg (Ss n d l).1
 | []=>rfl
 |_::_=>Gs _ _
theorem eG{n d:Int}(hn:Gm n<=130)(hd:Gm d<=130):Bd 130 [n,d]:=λz hz=>by
 rcases Qm.1 hz with rfl|hz
 .exact hn
 .rw[Qk.1 hz];exact hd
theorem TO{n d:Int}(hn:Gm n<=130)(hd:Gm d<=130){s:Nat}:∀{l:U8},Bd s l->l.length<=8->Bd (s+140*l.length) (Ss n d l).1/\(Ss n d l).1.length<=l.length/\Gm (Ss n d l).2<=130*l.length+1
 | [],_,_=>⟨Om,Ql _,by show Gm 1<=_;exact Qa Fp (Wu 1 _)⟩
 |
  x::l,h,hl=>by
  rw[Q5]at hl ⊢;obtain⟨h1,h2,h3⟩:=TO hn hd (λz hz=>h z (Qi _ hz)) (by omega:l.length<=8);have hx:=h x (Qy ..);have b1:=Mv (u:=4) h1 (eG hn hd) Fo;have a:Bd (s+(130*l.length+1)) [x*(Ss n d l).2]:=λz hz=>by
   rw[Qk.1 hz];have:=G9 x (Ss n d l).2;omega
  refine⟨Fz (WC b1 a) Fo,?_,?_⟩
  .have h4:=XG (Hb (Ss n d l).1 [n,d]) [x*(Ss n d l).2];have h5:=P8 (Ss n d l).1 [n,d];simp only[Q5,Xt]at h4 h5;show(QW _ _).length<=_;omega
  .have:=G9 (Ss n d l).2 d;show Gm ((Ss n d l).2*d)<=_;omega
theorem Qg5{a:U8}{j:Nat}{x:Int}(h:a[j]? = some x):a.drop j=x::a.drop (j+1):=by
 obtain⟨h1,h2⟩:=Qh.1 h;rw[Zo h1,h2]
variable{s:Nat}
theorem Qjw{a:U8}{n d:Int}(ta:Gg a)(ha:Bd s a)(hs:s<=1000)(hl:a.length<=8)(hn:Gm n<=130)(hd:Gm d<=130)(h0:d≠0):U5 135 [pr a,.agg (Rr n),.agg (Rr d)] [pr (Ss n d a).1,.oi 0]:=by
 have H:=Bz (Gb n) Fo;have nd:=Bz (Gb d) Fo;have C:=Tq (p:=a) ta Fo (Fz ha Fo);have B:Gg [n,d]:=by simp[Gg,trim,h0]
 refine G7 func135 rfl ?_;refine Uy [.k nd,.k (Ep (z:=d)),.f (by simpa using h0),.k C,.z 8,.k H,.k nd,.k (AD (z:=1) Fp),.r 25 (eI (b:=(a.length:Int)-1) Ft)] rfl ?_;refine lp (S:=Nat) 3 (λL1 j=>(11,.v (.oi ((j:Int)-1)))::(8,.v (pr (Ss n d (a.drop j)).1))::L1) (λj=>[.blk 35 (Rr n),.blk 35 (Rr d),.blk 35 (Rr (Ss n d (a.drop j)).2)]) (λj=>j) (λj=>j<=a.length) a.length (Ql _) rfl (λ_ _=>rfl) (by rw[Vf];rfl) λj L=>?_
 cases j with
 |zero=>exact Uz [.f Ft] rfl
 |
  succ j =>
  obtain⟨x,hx⟩:=gxE (l:=a) (i:=j) Fo;obtain⟨b1,G,K⟩:=TO hn hd (l:=a.drop (j+1)) (λz hz=>ha z (Q3 hz)) (by rw[Za];omega);have I:(a.drop (j+1)).length<=8:=by rw[Za];omega
  have e:Ss n d (a.drop j)=(QW (Hb (Ss n d (a.drop (j+1))).1 [n,d]) [x*(Ss n d (a.drop (j+1))).2],(Ss n d (a.drop (j+1))).2*d):=by rw[Qg5 hx];rfl
  have o:(Ss n d (a.drop j)).1=QW (Hb (Ss n d (a.drop (j+1))).1 [n,d]) [x*(Ss n d (a.drop (j+1))).2]:=by rw[e]
  have y:(Ss n d (a.drop j)).2=(Ss n d (a.drop (j+1))).2*d:=by rw[e]
  have A:=oK n d (a.drop (j+1));obtain⟨P,h⟩:=nmE ((Ss n d (a.drop (j+1))).1);obtain⟨W,c⟩:=nmE ((Ss n d (a.drop (j+1))).2);rw[<-h,<-c]at o;rw[<-c]at y;rw[<-h]at b1 G A;rw[<-c]at K;have F:=ha x (Qc hx);have D:=GY A B Fo (by show 2<137438953472;decide) b1 (eG hn hd) Fo;have E:=Nx (Gb x) (Gb W) Fo Fo;have J:=Mv (u:=4) b1 (eG hn hd) Fo;have hm:=G9 x W;have g:=P8 P [n,d];simp only[Q5,Xt]at g;have m:=AL (p:=Hb P [n,d]) (q:=[x*W]) Fo (by show 1<274877906944;decide) (Fz J Fo) (λz hz=>by rw[Qk.1 hz];omega);rw[<-o]at m;have w:=Nx (Gb W) (Gb d) Fo Fo;rw[<-y]at w;rw[show((j+1:Nat):Int)-1=(j:Int) by omega,<-h,<-c];refine Uy [.t Ft,.k D,.x (Ni hx),.k E,.k m,.k w] rfl ?_;exact rd j Fo Fo rfl
def cE(px py:U8)(q:Rat):Crv:=⟨G5 (Ss (-q).num ((-q).den:Int) (trim px)).1 (((-q).den:Int)^(max ((trim px).length-1) ((trim py).length-1)-((trim px).length-1))),G5 (Ss (-q).num ((-q).den:Int) (trim py)).1 (((-q).den:Int)^(max ((trim px).length-1) ((trim py).length-1)-((trim py).length-1))),((-q).den:Int)^(max ((trim px).length-1) ((trim py).length-1))⟩
theorem Qj9{lx ly:Ff}{px py:U8}{q:Rat}(hx:IsInts lx px)(J:IsInts ly py)(w:Qs 128 q)(E:Bd s px)(by_:Bd s py)(hs:s<=1000)(y:px.length<=8)(x:py.length<=8):
 Cs 4294967294 1073741824 (cE px py q)/\U5 73 [.one (.row lx),.one (.row ly),.agg (rl q)] [.agg (cl (Crv.norm (cE px py q)))]:=by
 have C:=Lo hx Fo (Fz E Fo);have B:=Lo J Fo (Fz by_ Fo);have G:=Qlb (q:=q) (w.mono Fp);have f:Qs 128 (-q):=by
  refine⟨?_,?_⟩
  .rw[Rat.neg_num,Rq];exact w.1
  .rw[Rat.neg_den];exact w.2
 have t:Bd s (trim px):=Pv E;have v:Bd s (trim py):=Pv by_;have L:(trim px).length<=8:=Qa (Tu px) y;have O:(trim py).length<=8:=Qa (Tu py) x;have h0:((-q).den:Int)≠0:=by have:=(-q).den_pos;omega
 have e:Gm (-q).num<=130:=Qa f.1 Fp;have d:Gm ((-q).den:Int)<=130:=Qa f.2 Fp;have u:=Qjw (Tp px) t hs Fo e d h0;have j:=Qjw (Tp py) v hs Fo e d h0;obtain⟨p1,p2,_⟩:=TO e d t Fo;obtain⟨h,z,_⟩:=TO e d v Fo;unfold cE;obtain⟨D,i⟩:=nmE (((-q).den:Int));obtain⟨N,A⟩:=nmE ((-q).num);have l:rl (-q)=[sg N,mg N,sg D,mg D]:=by rw[A,i]
 rw[l]at G;rw[<-i,<-A]at u j p1 p2 h z ⊢;rw[<-i]at d;obtain⟨X,m⟩:=nmE (trim px);obtain⟨Y,o⟩:=nmE (trim py);rw[<-m]at C t L u p1 p2 ⊢;rw[<-o]at B v O j h z ⊢;obtain⟨a,ha⟩:=nmE (X.length-1);obtain⟨b,hb⟩:=nmE (Y.length-1);rw[<-ha,<-hb];obtain⟨k,F⟩:=nmE (max a b);rw[<-F];have w1:=Qj5 (a:=D) (n:=k-a) Fo Fo;have R:=Qj5 (a:=D) (n:=k-b) Fo Fo;have P:=Qj5 (a:=D) (n:=k) Fo Fo;have z1:=KY D (k-a);have T:=KY D (k-b);have W:=KY D k;have Z:Gm D*(k-a)<=130*8:=Zf d Fo;have U:Gm D*(k-b)<=130*8:=Zf d Fo;have S:Gm D*k<=130*8:=Zf d Fo;have H:=Nl (p:=(Ss N D X).1) (c:=D^(k-a)) Fo (Fz p1 Fo) Fo;have K:=Nl (p:=(Ss N D Y).1) (c:=D^(k-b)) Fo (Fz h Fo) Fo;have Q:=Hj p1 (c:=D^(k-a)) (Ql _);have M:=Hj h (c:=D^(k-b)) (Ql _);have f1:=Ha (Ss N D X).1 (D^(k-a));have f2:=Ha (Ss N D Y).1 (D^(k-b));have g:Cs 4294967294 1073741824 ⟨G5 (Ss N D X).1 (D^(k-a)),G5 (Ss N D Y).1 (D^(k-b)),D^k⟩:=⟨Fz Q Fo,Fz M Fo,by show Gm (D^k)<=_;omega,by show(G5 _ _).length<=_;omega,by show(G5 _ _).length<=_;omega⟩;refine⟨g,?_⟩;have I:=LY (H5 _) (H5 _) (Gb _) g;have V:((max a b:Nat):Int)=(k:Int):=by rw[F]
 exact U0 func73 rfl [.k C,.k B,.k G,.k u,.k j,.k (Bh X),.r 40 (eI (b:=(a:Int)) Fo),.k (Bh Y),.r 43 (eI (b:=(b:Int)) Fo),.r 46 (eI (b:=(k:Int)) Fo),.r 52 (eI (b:=((k-a:Nat):Int)) Fo),.k w1,.k H,.r 60 (eI (b:=((k-b:Nat):Int)) Fo),.k R,.k K,.k P,.k I] rfl rfl Fw
theorem Qz5{E:Es}{b:Int}(h:EOk b E){lx ly:Ff}{px py:U8}{id:Int}(hx:IsInts lx px)(o:IsInts ly py)(j:Bd s px)(by_:Bd s py)(hs:s<=1000)(g:px.length<=8)(f:py.length<=8):
 ∃E',EOk b E'/\E'.m=(E.m.rep ⟨Crv.norm (cE px py E.q),id⟩).1/\EnD 28 [.one (.ow 0 0),.oi id,.one (.row lx),.one (.row ly)] E [.one (.int .i64 (E.m.rep ⟨Crv.norm (cE px py E.q),id⟩).2)] E':=by
 obtain⟨hc,i⟩:=Qj9 hx o h.q j by_ hs g f;have e:=hc.norm Fo;have a:=Crv.nml (cE px py E.q);obtain⟨C,n⟩:=nmE (Crv.norm (cE px py E.q));rw[<-n]at i e a ⊢;obtain⟨E',h1,h2,h3⟩:=mS h (id:=id) (H5 C.x) (H5 C.y) (Gb C.d) e;have l:Crv.norm (Crv.mk C.x C.y C.d)=C:=Crv.norm_of a;rw[l]at h2 h3;refine⟨E',h1,h2,?_⟩;refine G7 func28 rfl ?_;exact U3 [] [0,1,2,3,4,5,6] [.k i,.c Fi h3] rfl
end Orr
namespace Orr
open Go
structure RawOp where
 k:Int
 n:Int
 d:Int
 p:RawPt
 t:RawInt
 u:RawInt
structure RawOp.Ok(o:RawOp):Prop where
 k:-9223372036854775808<=o.k/\o.k<=9223372036854775807
 n:-9223372036854775808<=o.n/\o.n<=9223372036854775807
 d:-9223372036854775808<=o.d/\o.d<=9223372036854775807
 p:o.p.Ok
 t:o.t.Ok
 u:o.u.Ok
abbrev rwo(o:RawOp):Fe:=[.int .i64 o.k,.int .i64 o.n,.int .i64 o.d]++rwq o.p++Ih o.t++Ih o.u
def vB(l:List RawOp):Ff:=l.map rwo
theorem Qhu(l:List RawOp):(vB l).length=l.length:=by simp[vB]
theorem Qht{l:List RawOp}{i:Nat}{o:RawOp}(h:l[i]? = some o):(vB l)[i]? = some (rwo o):=by rw[vB,Q9,h];rfl
end Orr
namespace Orr
open Go Go.Proofs Tryz Orq
set_option maxRecDepth 10000
def XR(N:Int):Int:=if N=2 then 999 else if N=3 then 99 else 20
theorem nI(N:Int):0<=XR N/\XR N<=999:=by unfold XR;split;decide;split;decide;decide
def RA(N:Int)(z:RawPt):Crv:=if 1<N then ⟨Hx (XR N) z.x++(if 3<z.x.length then [1]else []),Hx (XR N) z.y,Tv 3 z.d⟩else ⟨((z.x.take 4).map (·.cutN 1)).map vI,((z.y.take 4).map (·.cutN 1)).map vI,vI (z.d.cutN 1)⟩
variable{l:List RawInt}
theorem Qpd(h:∀a∈l,a.Ok):∀z∈(l.take 4).map (·.cutN 1),z.Ok:=λz hz=>by
 obtain⟨y,b,rfl⟩:=Q8.1 hz;exact(h y (Qn b)).cutN_ok 1
theorem Qpc(h:∀a∈l,a.Ok):Bd 40 (((l.take 4).map (·.cutN 1)).map vI):=λz hz=>by
 obtain⟨y,b,rfl⟩:=Q8.1 hz;obtain⟨x,hx,rfl⟩:=Q8.1 b;exact Qa (LA ((h x (Qn hx)).cutN_ok 1) (VM x 1)) Fp
variable{N:Int}{z:RawPt}
theorem Qtl(hz:z.Ok):Cs 40 4 (RA N z):=by
 unfold RA
 split
 .have h:=Qgy (nI N) z.x z.y z.d;refine⟨λy a=>?_,Fz h.y Fp,Qa h.d Fp,?_,Qa h.ly Fp⟩
  .rcases Qr.1 a with a|a
   .exact Qa (h.x y a) Fp
   .split at a
    .rw[Qk.1 a];decide
    .cases a
  .have:=h.lx;have h2:(Hx (XR N) z.x).length<=3:=this;show(_++_:U8).length<=4;rw[Qw]
   split <;> simp <;> omega
 .exact⟨Qpc hz.x,Qpc hz.y,Qa (LA (hz.d.cutN_ok 1) (VM z.d 1)) Fp,by show(List.map _ _).length<=4;rw[Ze,Ze,Qt];omega,by show(List.map _ _).length<=4;rw[Ze,Ze,Qt];omega⟩
def lC(o:RawOp):Int:=if Cx o.k 12<10 then Cx o.p.id 6 else o.p.id
abbrev Qzv(o:RawOp)(lx ly:Ff)(bb:Bool)(l3:Ff):Fe:=[.int .i64 o.k,.int .i64 o.n,.int .i64 o.d,.row lx,.row ly,.bool bb,.row l3,.int .i64 (lC o)]++Ih (o.t.cutN 6)++Ih (o.u.cutN 6)
abbrev Qel(ms:Fe)(N:Int):Fe:=[.ow 0 0,.sh ms,.int .i64 N]
theorem fD{most:Int}(h:3<l.length):(Hx most l).length=3:=by unfold Hx;rw[List.length_map,List.length_take];omega
abbrev Qx1:Fe:=[.bool false,.row [[.int .u32 1]]]
theorem iC{p:U8}:IsInts (p.map Rr++[Qx1]) (p++[1]):=(H5 p).append ⟨⟨_,_,rfl,false,[1],rfl,rfl,(λx hx=>by rw[Qk.1 hx];decide),rfl⟩,trivial⟩
theorem Qf9(hz:z.Ok){most:Int}(hm:0<=most/\most<=999):Ge prog 65 [.agg (rcw z),.oi most] [] [.agg [.orow 0 2 none,.row (O4 (Hx most z.y)),sg (Tv 3 z.d),mg (Tv 3 z.d)]] [.row false 35 2 (O4 (Hx most z.x))]:=by
 have u:=JZ z.x;have B:=JZ z.y;obtain⟨D,t⟩:=nmE (Tv 3 z.d);have cd:=RN hz.d (most:=3) Fp;have q:∀{i:Nat},z.x.length<=i\/3<=i->Hx most (z.x.take i)=Hx most z.x:=CX most;have p:∀{i:Nat},z.y.length<=i\/3<=i->Hx most (z.y.take i)=Hx most z.y:=CX most;rw[<-t]at cd ⊢;refine G7 func65 rfl ?_;refine Ux [.k cd] rfl ?_;refine oz2 5 0 35 2 rfl rfl ?_;refine U4 (S:=Nat) 4 (λL1 i=>(6,.v (.oi i))::L1) (λi=>[.blk 37 (rcw z),.blk 37 [.nils,.nils,.bool false,.nils],.blk 37 [.orow 3 2 none,.nils,sg D,mg D],.row false 35 2 (O4 (Hx most (z.x.take i)))]) (λi=>3-i) (λi=>i<=3/\i<=z.x.length) 0 ⟨Fp,Qj _⟩ rfl rfl λi ⟨hi,o⟩=>?_
 have b:=fC (most:=most) hi o;by_cases hr:i<z.x.length/\i<3
 .obtain⟨a,ha⟩:=gxE (l:=z.x) (i:=i) hr.1;have hs:∀y∈[Rr (Tv most a)],y.length=2:=λy m=>by rw[Qk.1 m];rfl
  refine go tt [.g 17 true U7,.T,.x (Ra (f:=Ih) ha),.k (RN (hz.x a (Qc ha)) hm),.s (sz:=2) hs] rfl (by simp[Gi,b];omega) ?_;exact rd (i+1) Fo ⟨hr.2,hr.1⟩ (by rw[NJ hr.2 ha];rfl)
 have w:decide ((i:Int)<((ZZ z.x).length:Int))=true->i<z.x.length:=λh=>by have:=of_decide_eq_true h;omega
 rw[q Fo];clear b;have e:∀{j:Nat},j<=3/\j<=z.y.length->¬(j<z.y.length/\j<3)->O4 (Hx most (z.y.take j))=O4 (Hx most z.y):=λh1 h2=>by rw[p Fo]
 by_cases A:i<z.x.length
 .refine Ux [.g 17 true U7,.F] rfl ?_;refine oz2 5 1 35 2 rfl rfl ?_;refine U4 (S:=Nat) 5 (λL1 j=>(7,.v (.oi j))::L1) (λj=>[.blk 37 (rcw z),.blk 37 [.nils,.nils,.bool false,.nils],.blk 37 [.orow 3 2 none,.orow 4 2 none,sg D,mg D],.row false 35 2 (O4 (Hx most z.x)),.row false 35 2 (O4 (Hx most (z.y.take j)))]) (λj=>3-j) (λj=>j<=3/\j<=z.y.length) 0 ⟨Fp,Qj _⟩ rfl rfl λj ⟨n,c⟩=>?_
  have b:=fC (most:=most) n c;by_cases hr:j<z.y.length/\j<3
  .obtain⟨a,ha⟩:=gxE (l:=z.y) (i:=j) hr.1;have hs:∀y∈[Rr (Tv most a)],y.length=2:=λy m=>by rw[Qk.1 m];rfl
   refine go tt [.g 40 true U7,.T,.x (Ra (f:=Ih) ha),.k (RN (hz.y a (Qc ha)) hm),.s (sz:=2) hs] rfl (by simp[Gi,b];omega) ?_;exact rd (j+1) Fo ⟨hr.2,hr.1⟩ (by rw[NJ hr.2 ha];rfl)
  rw[e ⟨n,c⟩ hr];by_cases r:j<z.y.length
  .exact U3 [4] [3] [.g 40 true U7,.F] rfl
  .exact U3 [4] [3] [.g 40 false U6,.f rfl] rfl
 .refine Ux [.g 17 false U6,.f rfl] rfl ?_;refine oz2 5 1 35 2 rfl rfl ?_;refine U4 (S:=Nat) 5 (λL1 j=>(7,.v (.oi j))::L1) (λj=>[.blk 37 (rcw z),.blk 37 [.nils,.nils,.bool false,.nils],.blk 37 [.orow 3 2 none,.orow 4 2 none,sg D,mg D],.row false 35 2 (O4 (Hx most z.x)),.row false 35 2 (O4 (Hx most (z.y.take j)))]) (λj=>3-j) (λj=>j<=3/\j<=z.y.length) 0 ⟨Fp,Qj _⟩ rfl rfl λj ⟨n,c⟩=>?_
  have b:=fC (most:=most) n c;by_cases hr:j<z.y.length/\j<3
  .obtain⟨a,ha⟩:=gxE (l:=z.y) (i:=j) hr.1;have hs:∀y∈[Rr (Tv most a)],y.length=2:=λy m=>by rw[Qk.1 m];rfl
   refine go tt [.g 40 true U7,.T,.x (Ra (f:=Ih) ha),.k (RN (hz.y a (Qc ha)) hm),.s (sz:=2) hs] rfl (by simp[Gi,b];omega) ?_;exact rd (j+1) Fo ⟨hr.2,hr.1⟩ (by rw[NJ hr.2 ha];rfl)
  rw[e ⟨n,c⟩ hr];by_cases r:j<z.y.length
  .exact U3 [4] [3] [.g 40 true U7,.F] rfl
  .exact U3 [4] [3] [.g 40 false U6,.f rfl] rfl
variable{E:Es}{o:RawOp}{ms:Fe}
set_option maxHeartbeats 4000000 in
theorem Qza(I:1<=N/\N<=4)(g:o.Ok):∃lx ly bb l3,IsInts lx (RA N o.p).x/\IsInts ly (RA N o.p).y/\Hi (.bool bb) (.row l3) (RA N o.p).d /\
 Ge prog 20 [.agg (Qel ms N),.agg (rwo o)] (enB 0 E) [.agg (Qzv o lx ly bb l3)] (enB 0 E):=by
 have j:=Qyy (z:=o.p);have e:=On (v:=o.k) (n:=12) g.k Fp;have w:=On (v:=o.p.id) (n:=6) g.p.id Fp;have h:=Qsy (t:=o.t) (u:=o.u);have cl:=Qf9 g.p (most:=XR N) (nI N);obtain⟨i,hi⟩:=nmE (lC o);have F:(ZZ o.p.x).length=o.p.x.length:=JZ _;unfold Qzv;rw[<-hi];by_cases h1:1<N
 .have m:RA N o.p=⟨Hx (XR N) o.p.x++(if 3<o.p.x.length then [1]else []),Hx (XR N) o.p.y,Tv 3 o.p.d⟩:=if_pos h1;rw[m];dsimp only;obtain⟨X,A⟩:=nmE (Hx (XR N) o.p.x);obtain⟨Y,G⟩:=nmE (Hx (XR N) o.p.y);obtain⟨D,B⟩:=nmE (Tv 3 o.p.d);have b:=fD (most:=XR N) (l:=o.p.x);rw[<-A]at b;rw[<-A,<-G,<-B]at cl ⊢;have C:∃k:Nat,(k:Int)=min N 4/\[[LV.int .i64 0],[.int .i64 0],[.int .i64 999],[.int .i64 99],[.int .i64 20]][k]? = some [.int .i64 (XR N)]:=by
   rcases(show N=2\/N=3\/N=4 by omega)with rfl|rfl|rfl
   .exact⟨2,rfl,rfl⟩
   .exact⟨3,rfl,rfl⟩
   .exact⟨4,rfl,rfl⟩
  obtain⟨k,s,q⟩:=C;by_cases h3:3<o.p.x.length
  .rw[if_pos h3];have b:=b h3;have H:(X.map Rr).length=3:=by rw[Ze];exact b
   refine⟨_,_,_,_,iC,H5 Y,Gb D,?_⟩;refine G7 func20 rfl ?_;refine go tt [.k j,.t (by simpa using h1),.r 19 (eI s.symm),.x q,.c [11] cl,.t Fq] rfl (by simp only[Gi,vU];omega) ?_;refine U4 (S:=Unit) 12 (λL1 _=>L1) (λ_=>enB 0 E++[.blk 26 (Qel ms N),.blk 43 (rwo o),.blk 43 [.int .i64 0,.int .i64 0,.int .i64 0,.nils,.nils,.bool false,.nils,.int .i64 0,.bool false,.nils,.bool false,.nils],.blk 37 [.orow 11 2 none,pl Y,sg D,mg D],.row false 35 2 (X.map Rr++[Qx1])]) (λ_=>0) (λ_=>True) () trivial rfl rfl λ_ _=>?_
   by_cases a:Cx o.k 12<10
   .rw[hi,show lC o=Cx o.p.id 6 from if_pos a];exact U3 [11] [0,1,2,3,4,5,6] [.f Fq,.k e,.t (by simpa using a),.k w,.k h] rfl
   .rw[hi,show lC o=o.p.id from if_neg a];exact U3 [11] [0,1,2,3,4,5,6] [.f Fq,.k e,.f (by simpa using a),.k h] rfl
  .rw[if_neg h3,Zx];refine⟨_,_,_,_,H5 X,H5 Y,Gb D,?_⟩;refine G7 func20 rfl ?_;by_cases a:Cx o.k 12<10
   .rw[hi,show lC o=Cx o.p.id 6 from if_pos a];exact U3 [11] [0,1,2,3,4,5,6] [.k j,.t (by simpa using h1),.r 19 (eI s.symm),.x q,.c [11] cl,.f Fq,.k e,.t (by simpa using a),.k w,.k h] rfl
   .rw[hi,show lC o=o.p.id from if_neg a];exact U3 [11] [0,1,2,3,4,5,6] [.k j,.t (by simpa using h1),.r 19 (eI s.symm),.x q,.c [11] cl,.f Fq,.k e,.f (by simpa using a),.k h] rfl
 .have m:RA N o.p=⟨((o.p.x.take 4).map (·.cutN 1)).map vI,((o.p.y.take 4).map (·.cutN 1)).map vI,vI (o.p.d.cutN 1)⟩:=if_neg h1;rw[m];refine⟨_,_,_,_,GN (Qpd g.p.x),GN (Qpd g.p.y),UW (g.p.d.cutN_ok 1),?_⟩;refine G7 func20 rfl ?_;by_cases a:Cx o.k 12<10
  .rw[hi,show lC o=Cx o.p.id 6 from if_pos a];exact U3 [] [0,1,2,3,4,5,6] [.k j,.f (by simpa using h1),.k e,.t (by simpa using a),.k w,.k h] rfl
  .rw[hi,show lC o=o.p.id from if_neg a];exact U3 [] [0,1,2,3,4,5,6] [.k j,.f (by simpa using h1),.k e,.f (by simpa using a),.k h] rfl
def ZT(o:RawOp)(q:Rat):Rat:=q+Hn (Cx o.n 5-1) (1+Cx o.d 4)
theorem YP{v n:Int}(h:0<n):0<=Cx v n/\Cx v n<n:=by
 unfold Cx;rw[if_neg Fo];exact⟨Y3 _ Fo,J9 _ h⟩
theorem cM{a b:Int}(ha:-10<=a/\a<=10)(hb:-10<=b/\b<=10):Qs 4 (Hn a b):=by
 have c:∀z:Int,-10<=z/\z<=10->Gm z<=4:=λz hz=>by
  have d:(2:Nat)^4=16:=Fp;exact Pi.2 Fo
 unfold Hn
 split
 .exact⟨Mz (c a ha),My Fp Fp⟩
 .exact⟨Mz (c a ha),My (c b hb) Fp⟩
theorem cP{q:Rat}(h:Qs 128 q):Qs 257 (ZT o q):=by
 have h1:=YP (v:=o.n) (n:=5) Fp;have h2:=YP (v:=o.d) (n:=4) Fp;have:=Qpa h ((cM (a:=Cx o.n 5-1) (b:=1+Cx o.d 4) Fo Fo).mono Fp);exact this
abbrev enP(E:Es)(ms:Fe)(N:Int)(o:RawOp)(lx ly:Ff)(bb:Bool)(l3:Ff):Fg:=[.blk 111 (lN 0 E.q),tB E.np E.nd E.M,bS E.s E.M E.q,bT E.t E.M E.q,bH E.h E.M E.q,bP E.p E.M E.q,bD E.d E.M E.q,.blk 26 (Qel ms N),.blk 43 (Qzv o lx ly bb l3)]
set_option maxHeartbeats 4000000 in
theorem Qsz{lx ly:Ff}{bb:Bool}{l3:Ff}(f:o.Ok)(e:Qs 128 E.q):Ge prog 21 [.one (.ow 7 0),.one (.ow 8 0)] (enP E ms N o lx ly bb l3) [.agg (rl (ZT o E.q))] (enP E ms N o lx ly bb l3):=by
 have j:=On (v:=o.n) (n:=5) f.n Fp;have m:=On (v:=o.d) (n:=4) f.d Fp;have b1:=YP (v:=o.n) (n:=5) Fp;have u:=YP (v:=o.d) (n:=4) Fp;have g:=Qw7 (n:=Cx o.n 5-1) (d:=1+Cx o.d 4) Fo Fo;have i:=Qjn (q:=E.q) (e.mono Fp);have r:=AH (a:=E.q) (b:=Hn (Cx o.n 5-1) (1+Cx o.d 4)) (e.mono Fp) ((cM Fo Fo).mono Fp);have ct:=pU (q:=ZT o E.q) ((cP e).mono Fp);have l:=uQ (np:=E.np) (nd:=E.nd) (M:=E.M) (s:=E.s) (t:=E.t) (h:=E.h) (p:=E.p) (d:=E.d) e;refine G7 func21 rfl ?_;exact U3 [] [0,1,2,3,4,5,6,7,8] [.lo,.c Fi l,.k i,.k j,.k m,.k g,.k r,.k ct] rfl Fw
def CE(o:RawOp):Rat:=Hn (vI (o.t.cutN 6)) (vI (o.u.cutN 6))
open Classical in
noncomputable def nearT(o:RawOp):Rat:=if Qs 128 (CE o)then CV (CE o)else CE o
noncomputable def aloneF(N:Int)(o:RawOp)(A:Em):Em×Int :=
 if Cx o.k 12<3 then A.ins ⟨Crv.norm (RA N o.p),lC o⟩
 else if Cx o.k 12=3 then A.del (lC o)
 else if Cx o.k 12=4 then A.rep ⟨Crv.norm (RA N o.p),lC o⟩
 else if Cx o.k 12=5 then A.rep ⟨Crv.norm (cE (RA N o.p).x (RA N o.p).y A.q),lC o⟩
 else if Cx o.k 12<9 then A.adv (ZT o A.q)
 else if Cx o.k 12=9 then(A,(A.adv (ZT o A.q)).2)
 else if Cx o.k 12=10 then A.adv (nearT o)
 else(A,(A.adv (nearT o)).2)
theorem Qs1(b:o.Ok):∃d x1 x2 c n m,Hi d x1 n/\Hi x2 c m/\Gm n<=4294967295/\Gm m<=4294967295/\Hn n m=nearT o/\U5 31 [.agg (Ih (o.t.cutN 6)++Ih (o.u.cutN 6))] [.agg [d,x1,x2,c]]:=by
 have i1:=UW (b.t.cutN_ok 6);have i2:=UW (b.u.cutN_ok 6);have f:=LA (b.t.cutN_ok 6) (VM o.t 6);have g:=LA (b.u.cutN_ok 6) (VM o.u 6);have ln:∀(z:RawInt) l,LV.row (lm (z.cutN 6).l)=.row (lm l)->l.length<=1000:=λz l h=>by
  have:=Qns h;have:=VM z 6;omega
 by_cases a:Qs 128 (CE o)
 .have e:nearT o=CV (CE o):=if_pos a;have hn:=Qe4 a;rw[e];exact⟨_,_,_,_,_,_,Gb (CV (CE o)).num,Gb ((CV (CE o)).den:Int),Qa hn.1 Fp,Qa hn.2 Fp,Mk _,Qs3 i1 i2 (ln o.t) (ln o.u) Fo Fo a⟩
 .have e:nearT o=CE o:=if_neg a;rw[e];exact⟨_,_,_,_,_,_,i1,i2,Fo,Fo,rfl,Qs2 i1 i2 (ln o.t) (ln o.u) Fo Fo a⟩
set_option maxHeartbeats 8000000 in
theorem Qtw{b:Int}(h:EOk b E)(hb:b<=900000000000000000)(M:1<=N/\N<=4)(t:o.Ok):
 ∃E',EOk (b+67000000) E'/\E'.m=(aloneF N o E.m).1/\EnD 5 [.agg (Qel ms N),.agg (rwo o)] E [.one (.int .i64 (aloneF N o E.m).2)] E':=by
 obtain⟨lx,ly,bb,l3,i1,i2,i3,cp⟩:=Qza (E:=E) (ms:=ms) M t;have j:=On (v:=o.k) (n:=12) t.k Fp;have O:=YP (v:=o.k) (n:=12) Fp;have g:=Qtl (N:=N) t.p;have B:Cs 4294967294 1073741824 (Crv.mk (RA N o.p).x (RA N o.p).y (RA N o.p).d):=g.mono Fp Fp;have u:=Qsz (E:=E) (N:=N) (ms:=ms) (lx:=lx) (ly:=ly) (bb:=bb) (l3:=l3) t h.q;have l:=cP (o:=o) h.q;obtain⟨Q,x1,x2,P,n,m,n1,n2,n3,G,H,w⟩:=Qs1 t;have eq_:E.m.q=E.q:=rfl;unfold aloneF;rw[eq_];obtain⟨W,A⟩:=nmE (Cx o.k 12);rw[<-A]at j O ⊢;by_cases w0:W<3
 .rw[if_pos w0];obtain⟨E',i,f,e⟩:=OU h (id:=lC o) i1 i2 i3 B;refine⟨E',i.mono Fo,f,?_⟩;refine G7 func5 rfl ?_;exact U3 [] [0,1,2,3,4,5,6] [.c Fi cp,.k j,.T,.c Fi e] rfl
 rw[if_neg w0];by_cases w1:W=3
 .rw[if_pos w1];obtain⟨E',i,f,e⟩:=Qmb h (id:=lC o);refine⟨E',i.mono Fo,f,?_⟩;refine G7 func5 rfl ?_;exact U3 [] [0,1,2,3,4,5,6] [.c Fi cp,.k j,.F,.T,.c Fi e] rfl
 rw[if_neg w1];by_cases D:W=4
 .rw[if_pos D];obtain⟨E',i,f,e⟩:=mS h (id:=lC o) i1 i2 i3 B;refine⟨E',i.mono Fo,f,?_⟩;refine G7 func5 rfl ?_;exact U3 [] [0,1,2,3,4,5,6] [.c Fi cp,.k j,.F,.F,.T,.c Fi e] rfl
 rw[if_neg D];by_cases I:W=5
 .rw[if_pos I];obtain⟨E',i,f,e⟩:=Qz5 h (id:=lC o) i1 i2 g.x g.y Fp (Qa g.lx Fp) (Qa g.ly Fp);refine⟨E',i.mono Fo,f,?_⟩;refine G7 func5 rfl ?_;exact U3 [] [0,1,2,3,4,5,6] [.c Fi cp,.k j,.F,.F,.F,.T,.c Fi e] rfl
 rw[if_neg I];by_cases K:W<9
 .rw[if_pos K];obtain⟨E',i,f,_,e⟩:=UY h hb (Gb (ZT o E.q).num) (Gb ((ZT o E.q).den:Int)) (Qa l.1 Fp) (Qa l.2 Fp) (Mk _);refine⟨E',i,f,?_⟩;refine G7 func5 rfl ?_;exact U3 [] [0,1,2,3,4,5,6] [.c Fi cp,.k j,.F,.F,.F,.F,.T,.lo,.c [0,1,2,3,4,5,6,7,8] u,.c Fi e] rfl
 rw[if_neg K];by_cases C:W=9
 .rw[if_pos C];have e:=Qdc h hb (Gb (ZT o E.q).num) (Gb ((ZT o E.q).den:Int)) (Qa l.1 Fp) (Qa l.2 Fp) (Mk _);refine⟨E,h.mono Fo,rfl,?_⟩;obtain⟨a,ha,r⟩:∃a,a=E.m.ans (ZT o E.q)/\∃a0 a1 a2 s z,a=[LV.row a0,.row a1,.row a2,.row s,.row z]:=⟨_,rfl,by unfold Em.ans;split <;> exact⟨_,_,_,_,_,rfl⟩⟩;rw[<-ha]at e;obtain⟨a0,a1,a2,s,z,rfl⟩:=r;refine G7 func5 rfl ?_;exact U3 [] [0,1,2,3,4,5,6] [.c Fi cp,.k j,.F,.F,.F,.F,.F,.T,.lo,.c [0,1,2,3,4,5,6,7,8] u,.c Fi e] rfl
 rw[if_neg C];by_cases J:W=10
 .rw[if_pos J];obtain⟨E',i,f,_,e⟩:=UY h hb n1 n2 n3 G H;refine⟨E',i,f,?_⟩;obtain⟨b1,r1,rfl,rfl,_⟩:=n1;obtain⟨L,r2,rfl,rfl,_⟩:=n2;refine G7 func5 rfl ?_;exact U3 [] [0,1,2,3,4,5,6] [.c Fi cp,.k j,.F,.F,.F,.F,.F,.F,.T,.k w,.c Fi e] rfl
 .rw[if_neg J];have e:=Qdc h hb n1 n2 n3 G H;refine⟨E,h.mono Fo,rfl,?_⟩;obtain⟨b1,r1,rfl,rfl,_⟩:=n1;obtain⟨L,r2,rfl,rfl,_⟩:=n2;obtain⟨a,ha,r⟩:∃a,a=E.m.ans (nearT o)/\∃a0 a1 a2 s z,a=[LV.row a0,.row a1,.row a2,.row s,.row z]:=⟨_,rfl,by unfold Em.ans;split <;> exact⟨_,_,_,_,_,rfl⟩⟩;rw[<-ha]at e;obtain⟨a0,a1,a2,s,z,rfl⟩:=r;refine G7 func5 rfl ?_;exact U3 [] [0,1,2,3,4,5,6] [.c Fi cp,.k j,.F,.F,.F,.F,.F,.F,.F,.k w,.c Fi e] rfl
end Orr
namespace Orr
open Go Go.Proofs Tryz Orq
set_option maxRecDepth 10000
abbrev cC:U9:=[[-(0:Rat).num,((0:Rat).den:Int)],[1]]
abbrev Q3l:Fe:=[.nils,.nils,.nils,.bool false,.nils,.bool false,.nils,.bool false,.nils,.bool false,.nils,.int .i64 0,.nils]
abbrev Q3m:Fe:=aq 0 cC++[.row [],.int .i64 0,.nils]
abbrev Qpt(k i:Nat):Fe:=match Nat.blt k i with
 |true=>Q3m
 |false=>Q3l
abbrev mdl(np nd:Int)(i:Nat):Fe:=[.int .i64 np,.int .i64 nd,.nils]++fr 0++Qpt 0 i++Qpt 1 i++Qpt 2 i++Qpt 3 i++Qpt 4 i
set_option maxHeartbeats 4000000 in
theorem Qjv{np nd:Int}:Ge prog 63 [.one (.ow 0 0)] [.blk 152 (mdl np nd 0)] [] [.blk 152 (mdl np nd 5)]:=by
 have a:Qs 2000000 (0:Rat):=⟨Fp,Fp⟩;have b:=BS a Q1d;refine G7 func63 rfl ?_;refine Ux [.k b] rfl ?_;refine U4 (S:=Nat) 2 (λL1 i=>(9,.v (.oi i))::L1) (λi=>[.blk 152 (mdl np nd i),.blk 54 (aq 0 cC)]) (λi=>5-i) (λi=>i<=5) 0 Fp rfl rfl λi hi=>?_
 rcases(show i=0\/i=1\/i=2\/i=3\/i=4\/i=5 by omega)with rfl|rfl|rfl|rfl|rfl|rfl
 .exact go tt [.t rfl,.i 0,.i 0,.i 0,.k (TX 0 Fp),.k OF,.i 0] rfl Fy (rd 1 Fo Fo rfl)
 .exact go tt [.t rfl,.i 1,.i 1,.i 1,.k (TX 1 Fp),.k OF,.i 1] rfl Fy (rd 2 Fo Fo rfl)
 .exact go tt [.t rfl,.i 2,.i 2,.i 2,.k (TX 2 Fp),.k OF,.i 2] rfl Fy (rd 3 Fo Fo rfl)
 .exact go tt [.t rfl,.i 3,.i 3,.i 3,.k (TX 3 Fp),.k OF,.i 3] rfl Fy (rd 4 Fo Fo rfl)
 .exact go tt [.t rfl,.i 4,.i 4,.i 4,.k (TX 4 Fp),.k OF,.i 4] rfl Fy (rd 5 Fo Fo rfl)
 .exact U3 [] [0] [.f rfl] rfl
theorem Qy6{np nd:Int}(h1:1<=np/\np<=6)(h2:0<=nd/\nd<=2):Ge prog 19 [.oi np,.oi nd] [] [.one (.ow 0 0),.oi 0] [.blk 152 (mdl np nd 5)]:=by
 have a:=JS (n:=0) Fp;rw[show((0:Int):Rat)=0 from rfl]at a;refine G7 func19 rfl ?_;exact U3 [] [0] [.F,.f Fq,.f Fq,.f Fq,.k a,.c [0] Qjv] rfl
theorem Qr0{a b:Int}(ha:-9223372036854775808<=a/\a<=9223372036854775807)(hb:-9223372036854775808<=b/\b<=9223372036854775807):∃(N nd:Int) (ms:Fe),(1<=N/\N<=4)/\(0<=nd/\nd<=2)/\EOk 0 (jQ N nd)/\N=1+Cx a 4/\nd=Cx b 3 /\
 Ge prog 4 [.oi a,.oi b] [] [.agg [.ow 0 0,.sh ms,.int .i64 N],.one (.bool true)] (enB 0 (jQ N nd)):=by
 have w1:=YP (v:=a) (n:=4) Fp;have m:=YP (v:=b) (n:=3) Fp;have j:=On (v:=a) (n:=4) ha Fp;have l:=On (v:=b) (n:=3) hb Fp;obtain⟨N,g⟩:=nmE (1+Cx a 4);obtain⟨nd,e⟩:=nmE (Cx b 3);have f:1<=N/\N<=4:=Fo;have d:0<=nd/\nd<=2:=Fo;have h:=Qjz (np:=N) (nd:=nd) Fo d;have i:=Qy6 (np:=N) (nd:=nd) Fo d;refine⟨N,nd,mdl N nd 5,f,d,Qod Fo d,g,e,?_⟩;refine G7 func4 rfl ?_;exact U3 [8] [1,2,3,4,5,6,7] [.k j,.r 12 (eI g.symm),.k l,.r 14 (eI e.symm),.c [1,2,3,4,5,6,7] h,.c [8] i,.t rfl,.t rfl] rfl Fw
abbrev enH(E:Es)(ms:Fe)(N:Int):Fg:=[.blk 111 (lN 0 E.q),tB E.np E.nd E.M,bS E.s E.M E.q,bT E.t E.M E.q,bH E.h E.M E.q,bP E.p E.M E.q,bD E.d E.M E.q,.blk 26 [.ow 0 0,.sh ms,.int .i64 N]]
def Qw3:Option (Tm×U9)->Ff
 |none=>[]
 |some (u,c)=>[axr u.p c u]
def Ol(l:List Ct)(t:Tm):Option (Tm×U9)->Prop
 |none=>∀x∈l,T0 x.p t none
 |some (u,c)=>AT u c 82000 (ZK u.p u.lo u.hi) u.hi/\(∃x∈l,T0 x.p t (some u))/\∀x∈l,∃o,T0 x.p t o/\∀v,o=some v->¬M9 v u
variable{α:Type}{i:Nat}
theorem WR{l:List α}{x y:α}(h:l[i]? = some x)(a:y∈l.take (i+1)):y∈l.take i\/y=x:=by
 rw[Zv,h]at a;simpa using a
theorem dL{l:List α}{y:α}(a:y∈l.take i):y∈l.take (i+1):=by
 rw[Zv];exact X9 _ a
theorem dD{l:List α}{x:α}(h:l[i]? = some x):x∈l.take (i+1):=by
 rw[Zv,h];simp
section
variable{l:List Ct}{t:Tm}{i:Nat}{x:Ct}
theorem jF{b:Option (Tm×U9)}(h:Ol (l.take i) t b)(hx:l[i]? = some x)(n:T0 x.p t none):Ol (l.take (i+1)) t b:=by
 cases b with
 |none=>exact λy a=>(WR hx a).elim (h y) λe=>by rw[e];exact n
 |
  some b =>
  obtain⟨u,c⟩:=b;obtain⟨h1,⟨y,f,d⟩,h3⟩:=h;exact⟨h1,⟨y,dL f,d⟩,λy a=>(WR hx a).elim (h3 y) λe=>by rw[e];exact⟨none,n,λv hv=>by cases hv⟩⟩
theorem AU{v:Tm}{c:U9}(h:Ol (l.take i) t none)(hx:l[i]? = some x)(n:T0 x.p t (some v))(ha:AT v c 82000 (ZK v.p v.lo v.hi) v.hi):Ol (l.take (i+1)) t (some (v,c)) :=
 ⟨ha,⟨x,dD hx,n⟩,λy a=>(WR hx a).elim (λa=>⟨none,h y a,λu hu=>by cases hu⟩) λe=>by
  rw[e];exact⟨some v,n,λu hu=>by
   obtain rfl:=Option.some.inj hu;exact λh=>Cq ha.va.cut ha.va.cut h h⟩⟩
theorem sO{u v:Tm}{g c:U9}(h:Ol (l.take i) t (some (u,g)))(hx:l[i]? = some x)(n:T0 x.p t (some v))(ha:AT v c 82000 (ZK v.p v.lo v.hi) v.hi)(hl:M9 v u):Ol (l.take (i+1)) t (some (v,c)):=by
 obtain⟨h1,_,h3⟩:=h;refine⟨ha,⟨x,dD hx,n⟩,λy d=>(WR hx d).elim (λd=>?_) λe=>?_⟩
 .obtain⟨o,f,j⟩:=h3 y d;refine⟨o,f,λw a b=>?_⟩;subst a;exact j w rfl (Qny ha.va.cut h1.va.cut b hl)
 .rw[e];exact⟨some v,n,λw a=>by
   obtain rfl:=Option.some.inj a;exact λh=>Cq ha.va.cut ha.va.cut h h⟩
theorem pQ{u v:Tm}{a:U9}(h:Ol (l.take i) t (some (u,a)))(hx:l[i]? = some x)(n:T0 x.p t (some v))(hl:¬M9 v u):Ol (l.take (i+1)) t (some (u,a)):=by
 obtain⟨h1,⟨y,f,d⟩,h3⟩:=h;exact⟨h1,⟨y,dL f,d⟩,λy c=>(WR hx c).elim (h3 y) λe=>by
  rw[e];exact⟨some v,n,λw b=>by
   obtain rfl:=Option.some.inj b;exact hl⟩⟩
theorem jG{u a:Tm}{k:U9}(vt:Va t)(h:Ol l t (some (u,k)))(p:NxA l t (some a)):sR a u:=by
 obtain⟨h1,⟨y,r,j⟩,h3⟩:=h;obtain⟨va,⟨z,s,g,_⟩,n⟩:=p;have m:=h1.va;rcases tri va.cut m.cut with e|e|e
 .exfalso;obtain⟨o,b,f⟩:=h3 z s;cases o with
  |none=>exact Mg vt g b
  |
   some w =>
   have:=KE vt g b;obtain⟨q,c,d⟩:=e;exact f w rfl ⟨q,by rw[<-this q];exact c,d⟩
 .exact e
 .exfalso;obtain⟨o,b,f⟩:=n y r;cases o with
  |none=>exact Mg vt j b
  |
   some w =>
   have:=KE vt j b;obtain⟨q,c,d⟩:=e;exact f w rfl ⟨q,by rw[<-this q];exact c,d⟩
end
set_option maxHeartbeats 8000000 in
theorem xC{a b:Int}{l:List RawOp}(ha:-9223372036854775808≤a/\a≤9223372036854775807)(hb:-9223372036854775808≤b/\b≤9223372036854775807)(hl:∀x∈l,x.Ok):U5 3 [.oi a,.oi b,.one (.row (vB l))] [.one (.bool true)]:=by
 obtain⟨N,nd,ms,hN,hnd,h0,_,_,cb⟩:=Qr0 ha hb;have hll:=Qhu l;refine G7 func3 rfl (ln 2 rfl rfl λhcl=>?_);rw[hll]at hcl;refine Ux [.c Fi cb,.f rfl] rfl ?_;refine U4 (S:=Nat×Es) 8 (λL1 s=>(9,.v (.oi (s.1:Int)))::L1) (λs=>enH s.2 ms N) (λs=>8-s.1) (λs=>s.1<=8/\s.1<=l.length/\EOk (67000000*s.1) s.2) (0,jQ N nd) ⟨by show 0<=8;decide,Qj _,h0.mono (show(0:Int)<=67000000*((0:Nat):Int) by decide)⟩ rfl rfl λ⟨i,E⟩ ⟨hi,hi2,hE⟩=>?_
 dsimp only at hi hi2 hE ⊢;by_cases hr:i<l.length/\i<8
 .obtain⟨x,hx⟩:=gxE (l:=l) (i:=i) hr.1;obtain⟨E',e1,e2,e3⟩:=Qtw (ms:=ms) hE Fo hN (hl x (Qc hx));refine Uy [.T,.T,.x (Qht hx),.c Fi e3] rfl ?_;have e:67000000*(i:Int)+67000000=67000000*((i+1:Nat):Int):=Fo;rw[e]at e1;exact rd (i+1,E') Fv ⟨hr.2,hr.1,e1⟩ rfl
 obtain⟨q,hq⟩:=nmE (E.q);have qE:=hE.q;obtain⟨C,hC⟩:=nmE (Im E.M E.q);have ccl:=uQ (np:=E.np) (nd:=E.nd) (M:=E.M) (q:=E.q) (s:=E.s) (t:=E.t) (h:=E.h) (p:=E.p) (d:=E.d) qE;have q6:Qs 2000000 E.q:=qE.mono Fp;have cfr:=VU q6;obtain⟨cc,hcc⟩:=nmE ([[-E.q.num,(E.q.den:Int)],[1]]);have crt_:=BS (q:=E.q) (c:=cc) q6 (by rw[hcc];exact Q4a q6);have X:=Qma hE;obtain⟨J,hcn⟩:=Qlm hE;have hwn:∀c∈Im E.M E.q,Rp (G6 (tq E.q)) c.p=c.want:=Qgu;obtain⟨F,m,U,o⟩:=Qmf hE;have Z:=Q5w qE;rw[<-hcc]at Z;rw[<-hC]at X J hcn hwn o;have hClen:=Nf C;have vt:Va (tq E.q):=BY (qE.mono Fp);by_cases hj:i<l.length
 .refine Ux [.T,.F,.c Fi ccl,.k cfr,.k crt_,.c Fi X,.z 12] rfl ?_;refine U4 (S:=Nat×Option (Tm×U9)) 9 (λL1 s=>(52,.v (.oi (s.1:Int)))::(12,.v (.one (.row (Qw3 s.2))))::L1) (λ_=>enH E ms N++[.blk 54 (aq E.q cc)]) (λs=>C.length-s.1) (λs=>s.1<=C.length/\Ol (C.take s.1) (tq E.q) s.2) (0,none) ⟨Qj _,λx hx=>by cases hx⟩ rfl rfl λ⟨k,B⟩ ⟨hk,n⟩=>?_
  dsimp only at hk n ⊢;by_cases j:k<C.length
  .obtain⟨x,hx⟩:=gxE (l:=C) (i:=k) j;have H:=Qc hx;have hp:=J x H;have hpl:=hp.l;have K:=LF (p:=x.p) (Fz hp.b Fp) Fo;rw[show trim x.p=x.p from hp.t]at K;have P:=pS (c:=cc) (Fz hp.b Fp) Fo q6;rw[<-nX,hwn x H]at P;obtain⟨Q,D,T,A,cT⟩:=UI hp;obtain⟨T',t1,_,_,t2⟩:=A6 hp;rw[A.t]at t1;obtain rfl:=Option.some.inj t1;obtain⟨r,r1,r2,r3⟩:=t2 _ vt;have G:=Qck A cT Z Fp Fp r1;cases r with
   |
    none =>
    refine Uy [.T,.x (P5 hx),.k K,.k P,.x (P5 hx),.f Ft,.k G,.g 77 false rfl,.f rfl] rfl ?_;exact rd (k+1,B) Fv ⟨j,jF n hx r2⟩ rfl
   |
    some v =>
    have hv:=A.at_ (r3 v rfl);obtain⟨ev_,_,_⟩:=A.vt v (r3 v rfl);rw[<-ev_]at hv G;cases B with
    |
     none =>
     refine Uy [.T,.x (P5 hx),.k K,.k P,.x (P5 hx),.f Ft,.k G,.g 77 true rfl,.g 81 true rfl,.t rfl] rfl ?_;exact rd (k+1,some (v,D)) Fv ⟨j,AU n hx r2 hv⟩ rfl
    |
     some B =>
     obtain⟨u,I⟩:=B;have hu:=n.1;obtain⟨z,_,Y⟩:=QP hv.va hu.va;have cm:=uH hv hu Fp Y;by_cases hz:z<0
     .have w:M9 v u:=by
       rcases Y with⟨_,h⟩|⟨e,_⟩|⟨e,_⟩
       .exact h
       .omega
       .omega
      refine Uy [.T,.x (P5 hx),.k K,.k P,.x (P5 hx),.f Ft,.k G,.g 77 true rfl,.g 81 false rfl,.x (l:=[axr u.p I u]) (i:=0) rfl,.k cm,.t (decide_eq_true hz)] rfl ?_;exact rd (k+1,some (v,D)) Fv ⟨j,sO n hx r2 hv w⟩ rfl
     .have w:¬M9 v u:=λh=>by
       rcases Y with⟨e,_⟩|⟨_,h'⟩|⟨_,h'⟩
       .omega
       .obtain⟨q,q1,q2⟩:=h;have:=h' q;omega
       .exact Cq hv.va.cut hu.va.cut h h'
      refine Uy [.T,.x (P5 hx),.k K,.k P,.x (P5 hx),.f Ft,.k G,.g 77 true rfl,.g 81 false rfl,.x (l:=[axr u.p I u]) (i:=0) rfl,.k cm,.f (decide_eq_false hz)] rfl ?_;exact rd (k+1,some (u,I)) Fv ⟨j,pQ n hx r2 w⟩ rfl
  .rw[show k=C.length by omega,Q6]at n;cases m with
   |
    none =>
    cases B with
    |none=>exact Uz [.F,.c Fi U,.f rfl,.t rfl,.t rfl,.k UQ] rfl rfl Fy
    |
     some B =>
     obtain⟨u,I⟩:=B;obtain⟨_,⟨y,O,R⟩,_⟩:=n;exact(Mg vt R (o y O)).elim
   |
    some a =>
    cases B with
    |
     none =>
     obtain⟨_,⟨y,O,R,_⟩,_⟩:=o;exact(Mg vt R (n y O)).elim
    |
     some B =>
     obtain⟨u,I⟩:=B;have te:=jG vt n o;obtain⟨va,⟨y,O,R,W⟩,_⟩:=o;obtain⟨Q,D,T,A,_⟩:=UI (J y O);have V:a∈T:=by
      unfold CO at W;rw[A.t]at W;exact W
     obtain⟨L,hR⟩:=Orq.TnOk.ri A V;have cR:=pK hR n.1 rfl te;exact Uz [.F,.c Fi U,.f rfl,.f rfl,.k cR,.t rfl,.k UQ] rfl rfl Fy
 .refine Ux [.F,.f rfl,.c Fi ccl,.k cfr,.k crt_,.c Fi X,.z 12] rfl ?_;refine U4 (S:=Nat×Option (Tm×U9)) 9 (λL1 s=>(52,.v (.oi (s.1:Int)))::(12,.v (.one (.row (Qw3 s.2))))::L1) (λ_=>enH E ms N++[.blk 54 (aq E.q cc)]) (λs=>C.length-s.1) (λs=>s.1<=C.length/\Ol (C.take s.1) (tq E.q) s.2) (0,none) ⟨Qj _,λx hx=>by cases hx⟩ rfl rfl λ⟨k,B⟩ ⟨hk,n⟩=>?_
  dsimp only at hk n ⊢;by_cases j:k<C.length
  .obtain⟨x,hx⟩:=gxE (l:=C) (i:=k) j;have H:=Qc hx;have hp:=J x H;have hpl:=hp.l;have K:=LF (p:=x.p) (Fz hp.b Fp) Fo;rw[show trim x.p=x.p from hp.t]at K;have P:=pS (c:=cc) (Fz hp.b Fp) Fo q6;rw[<-nX,hwn x H]at P;obtain⟨Q,D,T,A,cT⟩:=UI hp;obtain⟨T',t1,_,_,t2⟩:=A6 hp;rw[A.t]at t1;obtain rfl:=Option.some.inj t1;obtain⟨r,r1,r2,r3⟩:=t2 _ vt;have G:=Qck A cT Z Fp Fp r1;cases r with
   |
    none =>
    refine Uy [.T,.x (P5 hx),.k K,.k P,.x (P5 hx),.f Ft,.k G,.g 77 false rfl,.f rfl] rfl ?_;exact rd (k+1,B) Fv ⟨j,jF n hx r2⟩ rfl
   |
    some v =>
    have hv:=A.at_ (r3 v rfl);obtain⟨ev_,_,_⟩:=A.vt v (r3 v rfl);rw[<-ev_]at hv G;cases B with
    |
     none =>
     refine Uy [.T,.x (P5 hx),.k K,.k P,.x (P5 hx),.f Ft,.k G,.g 77 true rfl,.g 81 true rfl,.t rfl] rfl ?_;exact rd (k+1,some (v,D)) Fv ⟨j,AU n hx r2 hv⟩ rfl
    |
     some B =>
     obtain⟨u,I⟩:=B;have hu:=n.1;obtain⟨z,_,Y⟩:=QP hv.va hu.va;have cm:=uH hv hu Fp Y;by_cases hz:z<0
     .have w:M9 v u:=by
       rcases Y with⟨_,h⟩|⟨e,_⟩|⟨e,_⟩
       .exact h
       .omega
       .omega
      refine Uy [.T,.x (P5 hx),.k K,.k P,.x (P5 hx),.f Ft,.k G,.g 77 true rfl,.g 81 false rfl,.x (l:=[axr u.p I u]) (i:=0) rfl,.k cm,.t (decide_eq_true hz)] rfl ?_;exact rd (k+1,some (v,D)) Fv ⟨j,sO n hx r2 hv w⟩ rfl
     .have w:¬M9 v u:=λh=>by
       rcases Y with⟨e,_⟩|⟨_,h'⟩|⟨_,h'⟩
       .omega
       .obtain⟨q,q1,q2⟩:=h;have:=h' q;omega
       .exact Cq hv.va.cut hu.va.cut h h'
      refine Uy [.T,.x (P5 hx),.k K,.k P,.x (P5 hx),.f Ft,.k G,.g 77 true rfl,.g 81 false rfl,.x (l:=[axr u.p I u]) (i:=0) rfl,.k cm,.f (decide_eq_false hz)] rfl ?_;exact rd (k+1,some (u,I)) Fv ⟨j,pQ n hx r2 w⟩ rfl
  .rw[show k=C.length by omega,Q6]at n;cases m with
   |
    none =>
    cases B with
    |none=>exact Uz [.F,.c Fi U,.f rfl,.t rfl,.t rfl,.k UQ] rfl rfl Fy
    |
     some B =>
     obtain⟨u,I⟩:=B;obtain⟨_,⟨y,O,R⟩,_⟩:=n;exact(Mg vt R (o y O)).elim
   |
    some a =>
    cases B with
    |
     none =>
     obtain⟨_,⟨y,O,R,_⟩,_⟩:=o;exact(Mg vt R (n y O)).elim
    |
     some B =>
     obtain⟨u,I⟩:=B;have te:=jG vt n o;obtain⟨va,⟨y,O,R,W⟩,_⟩:=o;obtain⟨Q,D,T,A,_⟩:=UI (J y O);have V:a∈T:=by
      unfold CO at W;rw[A.t]at W;exact W
     obtain⟨L,hR⟩:=Orq.TnOk.ri A V;have cR:=pK hR n.1 rfl te;exact Uz [.F,.c Fi U,.f rfl,.f rfl,.k cR,.t rfl,.k UQ] rfl rfl Fy
end Orr
namespace Orr
open Go Go.Proofs Tryz
variable{H:Type}{enc:TypeId×Value->H}{w:World}{base:Nat}{spare:Nat->Bool}{held:Bool}
theorem Mf{α:Type}{l:List α}{n i:Nat}(h:l.length=n)(hi:i<n):∃x,l[i]? = some x:=⟨l[i]' Fo,Qf Fo⟩
end Orr
namespace Orr
open Go Go.Proofs Tryz Go.ChangeShapes Go.WideShapes Go.ChangeAt Go.RowKit Go.WideElems
variable{a:Addr}
theorem Qtf{w:World}{v:Value}(h:w.cell? a=some v):a.spot=none/\a.block<w.heap.size:=by
 simp only[World.cell?]at h
 split at h
 .rename_i c t fr hc
  split at h
  .cases h
  .rename_i hs;refine⟨by cases e:a.spot with|none=>rfl|some _=>simp[e]at hs,?_⟩;exact(Array.getElem?_eq_some_iff.1 hc).1
 .cases h
theorem Qro(h:a.spot=none)(n m:Nat):(a.add n).add m=⟨a.block,a.off+n+m,none⟩:=by
 obtain⟨b,o,s⟩:=a;simp only at h;subst h;simp only[Addr.add]
 split
 .rename_i h;subst h
  split
  .rename_i h;subst h;simp
  .simp
 .split
  .rename_i h;subst h;simp
  .simp
def fr0(w:World):Fr:=⟨λb=>b<w.heap.size,λ_=>False,w,λ_=>False,λ_=>none⟩
theorem xH(w:World):HS (fr0 w) (ob []) (nw []) (λ_=>none) (λ_=>False) w where
 size:=Ql _
 kept:=λb hb=>⟨hb,rfl,Iff.rfl⟩
 ids:=λi h=>h.elim
 nj:=λi h=>by rw[hZ]at h;cases h
 io:=⟨rfl,rfl⟩
 blk:=λi=>by rw[hZ];trivial
 nk:=λi g c m h _=>by rw[hZ]at h;cases h
 inj:=λi j g c m c' m' h _ _ _=>by rw[hZ]at h;cases h
 mlt:=λb h=>h.elim
 m0:=λb _ h=>h.elim
 un:=λi _=>⟨rfl,rfl⟩
 uj:=λi _ h=>h.elim
variable{bl:Nat->OB}{U M:Nat->Prop}
theorem Qvw{w w':World}{E:Li}(h:HS (fr0 w) bl U E M w'){p:MemPlace}(hp:p.block<w.heap.size):w.sameAt w' p:=by
 cases p with
 |cell b off=>simp only[World.sameAt,World.cell?];rw[(h.kept b hp).2.1];rfl
 |map b=>exact(h.kept b hp).2.1
theorem Qua{w w':World}{E:Li}(h:HS (fr0 w) bl U E M w')(may:MemPlace->Prop):w.keptBut w' may:=by
 refine⟨h.io.1,h.io.2,λi hi=>?_⟩;have e:w'.heap[i]? = w.heap[i]? := (h.kept i hi).2.1;rw[e];cases w.heap[i]? with
 |none=>rfl
 |some o=>cases o <;> simp
theorem WM{H:Type}{P:Program}{e:TypeId}:∀{l:List (DataW H)} {i:Nat} {d:DataW H},l[i]? = some d->∀n∈d.weights P e,n∈DataW.weightsAll P e l
 | [],i,d,h,_,_=>by simp at h
 |
  x::l,0,d,h,n,hn=>by
  simp at h;subst h;simp only[DataW.weightsAll,Qr];exact .inl hn
 |
  x::l,i+1,d,h,n,hn=>by
  simp only[DataW.weightsAll,Qr];exact .inr (WM (i:=i) (by simpa using h) n hn)
theorem By{H:Type}{P:Program}{t:TypeId}{fs:Array Field}{parts:List (DataW H)}(hu:P.underlying t=some (.struct fs))(hz:((DataW.agg parts).weights P t).all (· <= reachBytes)=true){i:Nat}{f:Field}{d:DataW H}(a:fs[i]? = some f)(hd:parts[i]? = some d) :
 (d.weights P f.type).all (· <= reachBytes)=true:=by
 rw[Ya]at hz ⊢;intro n hn;refine hz n ?_;simp only[DataW.weights,hu];exact DataW.weights_mem_each (j:=i) (by rw[Q9];simp[a]) hd n hn
variable{H:Type}{enc:TypeId×Value->H}{w:World}
abbrev O0:Nat->Prop:=λ_=>False
def sW(w:World)(cs:List Value)(ls:Fe):Prop:=cs.length=ls.length/\∀(j:Nat) (u:LV),ls[j]? = some u->∃v,cs[j]? = some v/\LRep w O0 v u
theorem SL{α:Type}{rw_:α->Fe}{Ok:α->Prop}{t e sz:Nat}(hu:prog.underlying t=some (.slice e))(hc:prog.cellsOf e=sz)(hsz:0<sz)(hb:1<=prog.bytesOf e)(J:∀z,(rw_ z).length=sz)
 (elem:∀d cs x,DataW.trod enc prog w 0 (λ_=>true) true d e cs=some x->(x.1.weights prog e).all (· <= reachBytes)=true->∃z,Ok z/\sW w cs (rw_ z))
 {d:Nat} {cs:List Value} {x:DataW H×List MemPlace} (h:DataW.trod enc prog w 0 (λ_=>true) true d t cs=some x) (hz:(x.1.weights prog t).all (· <= reachBytes)=true) :
 ∃(v:Value) (l:List α),cs=[v]/\(∀z∈l,Ok z)/\l.length<2^47/\LRep w O0 v (.row (l.map rw_)):=by
 rcases Go.Deep.open_slice hu h with⟨rfl,_⟩|⟨a',len,T,m,n,D,U,rfl,_,S,Q,hm,rfl,hr⟩
 .refine⟨_,[],rfl,Ft,Nat.two_pow_pos 47,?_⟩;exact LRep.row none 0 0 0 0 [] (λ_ _=>.bool true) (Ql _) Fp Ft Ft Ft Ft
 .simp only[if_true]at hm;subst hm;rw[Ya]at hz;have I:len<2^47:=by
   have h0:=hz ((len+(m-len))*prog.bytesOf e) (by simp[DataW.weights,hu]);have h1:len<=(len+(m-len))*prog.bytesOf e:=by
    have:=Zf (Wg len (m-len)) hb;omega
   have h2:(len+(m-len))*prog.bytesOf e<=reachBytes:=by simpa using h0
   exact Xe (Qa h1 h2) reachBytes_lt
  have N:∀i,i<len->((D i).weights prog e).all (· <= reachBytes)=true:=λi hi=>by
   rw[Ya];intro k R;refine hz k ?_;simp only[DataW.weights,hu];refine Qi _ (Qr.2 (.inl (WM (i:=i) ?_ k R)));rw[Q9,Jh hi];rfl
  have p:∀i,i<len->∃z a,Ok z/\sW w a (rw_ z)/\∀j,j<sz->w.cell? ((a'.add (i*sz)).add j)=a[j]? := λi hi=>by
   obtain⟨a,C,P⟩:=hr i Fo;rw[hc]at C;obtain⟨_,hl,hcell⟩:=World.cells?_some C;obtain⟨z,L,O⟩:=elem _ _ _ P (N i hi);refine⟨z,a,L,O,λj B=>?_⟩;rw[hcell j Fo]
  have f:0<len->a'.spot=none/\a'.block<w.heap.size:=λh0=>by
   obtain⟨z,a,_,⟨hl,_⟩,h3⟩:=p 0 h0;have h4:=h3 0 hsz;have:(a'.add (0*sz)).add 0=a':=by simp[Addr.add]
   rw[this,Qf (by rw[hl,J];exact hsz)]at h4;exact Qtf h4
  obtain⟨l,A,hl⟩:∃l:List α,l.length=len/\∀i z,l[i]? = some z->Ok z/\∃a,sW w a (rw_ z)/\∀j,j<sz->w.cell? ((a'.add (i*sz)).add j)=a[j]? := by
   have:∀k,k<=len->∃l:List α,l.length=k/\∀i z,l[i]? = some z->Ok z/\∃a,sW w a (rw_ z)/\∀j,j<sz->w.cell? ((a'.add (i*sz)).add j)=a[j]? := by
    intro k
    induction k with
    |zero=>intro _;exact⟨[],rfl,λi z h=>by simp at h⟩
    |
     succ k ih =>
     intro R;obtain⟨l,h1,h2⟩:=ih Fo;obtain⟨z,a,h3,h4,h5⟩:=p k Fo;refine⟨l++[z],by simp[h1],λi y g=>?_⟩;rcases Q7 i l.length with hi|hi
     .rw[Zc hi]at g;exact h2 i y g
     .rw[Zy hi]at g;have:i-l.length=0:=by
       rcases Q0 (i-l.length)with h|h
       .exact h
       .rw[Qu (by rw[Kc];exact h)]at g;cases g
      rw[this]at g;simp at g;subst g;have:i=k:=Fo;subst this;exact⟨h3,a,h4,h5⟩
   exact this len (Ql _)
  refine⟨_,l,rfl,λz hz=>?_,by rw[A];exact I,?_⟩
  .obtain⟨i,hi⟩:=Zm.1 hz;exact(hl i z hi).1
  .have E:LRep w O0 (.slice (some a') (l.map rw_).length m) (.row (l.map rw_)):=by
    have q:∀i c,(l.map rw_)[i]? = some c->∃z,l[i]? = some z/\c=rw_ z/\i<len:=λi c h=>by
     rw[Q9]at h;cases e:l[i]? with
     |none=>rw[e]at h;cases h
     |some z=>rw[e]at h;simp at h;exact⟨z,rfl,h.symm,by have:=(Qh.1 e).1;omega⟩
    have G:∀i c,(l.map rw_)[i]? = some c->∃a:List Value,sW w a c/\∀j,j<sz->w.cell? ⟨a'.block,a'.off+i*sz+j,none⟩=a[j]? := λi c h=>by
     obtain⟨z,hz,rfl,hi⟩:=q i c h;obtain⟨_,a,h1,h2⟩:=hl i z hz;refine⟨a,h1,λj B=>?_⟩;rw[<-h2 j B,Qro (f Fo).1]
    refine LRep.row (some a') m sz a'.block a'.off (l.map rw_) (λi j=>(w.cell? ⟨a'.block,a'.off+i*sz+j,none⟩).getD (.bool true)) (by rw[Ze];omega) ?_ ?_ ?_ ?_ ?_
    .have:maxLen=2^63-1:=by rfl
     omega
    .intro c K;obtain⟨z,_,rfl⟩:=Q8.1 K;exact J z
    .intro h0;rw[Ze,A]at h0;obtain⟨hs,hb⟩:=f h0;refine⟨?_,hb,by simp[O0]⟩;obtain⟨b,o,s⟩:=a';simp only at hs;rw[hs]
    .intro i c hi j B;obtain⟨z,_,rfl,_⟩:=q i c hi;obtain⟨a,⟨h1,_⟩,h2⟩:=G i _ hi;have r:j<sz:=by rw[<-J z];exact B
     rw[h2 j r,Qf (by rw[h1];exact B)];rfl
    .intro i c hi j u F;obtain⟨z,_,rfl,_⟩:=q i c hi;obtain⟨a,⟨h1,h3⟩,h2⟩:=G i _ hi;obtain⟨v,hv,M⟩:=h3 j u F;have r:j<sz:=by rw[<-J z];exact(Qh.1 F).1
     show LRep w O0 ((w.cell? ⟨a'.block,a'.off+i*sz+j,none⟩).getD (.bool true)) u;rw[h2 j r,hv];exact M
   rw[Ze,A]at E;exact E
abbrev Q4v(x:Nat):Fe:=[.int .u32 (x:Int)]
theorem Qqp:∀a cs x,DataW.trod enc prog w 0 (λ_=>true) true a 127 cs=some x->(x.1.weights prog 127).all (· <= reachBytes)=true->∃z:Nat,z<4294967296/\sW w cs (Q4v z):=by
 intro a cs x h _;obtain⟨n,rfl,_,b⟩:=DataW.trod_int underlying127 h;have hn:0<=n/\n<4294967296:=by
  have:0<=n/\n<=4294967295:=by simpa[Lit.wf,IntKind.min,IntKind.max,IntKind.signed,IntKind.bits]using b
  omega
 refine⟨n.toNat,Fo,rfl,λj u hu=>?_⟩
 match j,hu with
 |
  0,hu =>
  simp at hu;subst hu;refine⟨_,rfl,?_⟩;rw[show max n 0=n by omega];exact .int _ _
 |j+1,hu=>simp at hu
set_option maxRecDepth 20000 in
theorem KZ:∀a cs x,DataW.trod enc prog w 0 (λ_=>true) true a 35 cs=some x->(x.1.weights prog 35).all (· <= reachBytes)=true->∃z:RawInt,z.Ok/\sW w cs (Ih z):=by
 intro a cs x h hz;obtain⟨xs,n,_,rfl,hl,e,m⟩:=DataW.trod_struct underlying35 h;have hl:cs.length=2:=hl
 match cs,hl with
 |
  [v0,v1],_ =>
  obtain⟨r,g⟩:=Mf (i:=0) e Fp;obtain⟨q,c⟩:=Mf (i:=1) e Fp;have h0:=m 0 _ rfl;have h1:=m 1 _ rfl;rw[g]at h0;rw[c]at h1;obtain⟨b,o,_⟩:=DataW.trod_bool underlying4 h0;have f0:v0=.bool b:=(List.cons.inj (show [v0]=[Value.bool b] from o)).1;have f:=By underlying35 hz (i:=1) rfl (d:=q.1) (by rw[Q9,c];rfl);obtain⟨v,l,p,k,_,hrep⟩:=SL (sz:=1) (Ok:=λu:Nat=>u<4294967296) (rw_:=Q4v) underlying33 (by kernel_rfl) Fp (of_decide_eq_true (by kernel_rfl)) (λ_=>rfl) Qqp h1 f;have f1:v1=v:=(List.cons.inj (show [v1]=[v] from p)).1;subst f0 f1;refine⟨⟨b,l⟩,⟨k⟩,rfl,λj u hu=>?_⟩
  match j,hu with
  | 0,hu=>simp at hu;subst hu;exact⟨_,rfl,.bool _⟩
  | 1,hu=>simp at hu;subst hu;exact⟨_,rfl,hrep⟩
  |j+2,hu=>simp at hu
set_option maxRecDepth 20000 in
theorem oO:∀c cs x,DataW.trod enc prog w 0 (λ_=>true) true c 39 cs=some x->(x.1.weights prog 39).all (· <= reachBytes)=true->∃z:RawPt,z.Ok/\sW w cs (rwq z):=by
 intro c cs x h hz;obtain⟨xs,n,_,rfl,hl,g,y⟩:=DataW.trod_struct underlying39 h;have hl:cs.length=5:=hl
 match cs,hl with
 |
  [v0,v1,v2,v3,v4],_ =>
  obtain⟨E,o⟩:=Mf (i:=0) g Fp;obtain⟨S,q⟩:=Mf (i:=1) g Fp;have h0:=y 0 _ rfl;have h1:=y 1 _ rfl;rw[o]at h0;rw[q]at h1;obtain⟨id,J,_,s⟩:=DataW.trod_int underlying3 h1;have f4:v4=.int .i64 id:=(List.cons.inj (show [v4]=[Value.int .i64 id] from J)).1;have a:=By underlying39 hz (i:=0) rfl (d:=E.1) (by rw[Q9,o];rfl);obtain⟨R,n2,_,M,_,e,hg⟩:=DataW.trod_struct underlying37 h0;rw[M]at a;obtain⟨D,k⟩:=Mf (i:=0) e Fp;obtain⟨I,m⟩:=Mf (i:=1) e Fp;obtain⟨O,p⟩:=Mf (i:=2) e Fp;have t:=hg 0 _ rfl;have A:=hg 1 _ rfl;have v:=hg 2 _ rfl;rw[k]at t;rw[m]at A;rw[p]at v;have w0:=By underlying37 a (i:=0) rfl (d:=D.1) (by rw[Q9,k];rfl);have w1:=By underlying37 a (i:=1) rfl (d:=I.1) (by rw[Q9,m];rfl);have K:=By underlying37 a (i:=2) rfl (d:=O.1) (by rw[Q9,p];rfl);obtain⟨u0,lx,L,hx,_,N⟩:=SL (sz:=2) (Ok:=RawInt.Ok) (rw_:=Ih) underlying32 (by kernel_rfl) Fp (of_decide_eq_true (by kernel_rfl)) (λ_=>rfl) KZ t w0;obtain⟨u1,ly,F,G,_,B⟩:=SL (sz:=2) (Ok:=RawInt.Ok) (rw_:=Ih) underlying32 (by kernel_rfl) Fp (of_decide_eq_true (by kernel_rfl)) (λ_=>rfl) KZ A w1;obtain⟨d,hd,r⟩:=KZ _ _ _ v K;have f0:v0=u0:=(List.cons.inj (show [v0]=[u0] from L)).1;have f1:v1=u1:=(List.cons.inj (show [v1]=[u1] from F)).1;have b:sW w [v2,v3] (Ih d):=r;subst f0 f1 f4;obtain⟨P,f,r2⟩:=b.2 0 _ rfl;obtain⟨Q,l,C⟩:=b.2 1 _ rfl;simp at f l;subst f l;refine⟨⟨lx,ly,d,id⟩,⟨hx,G,hd,by simpa[Lit.wf,IntKind.min,IntKind.max,IntKind.signed,IntKind.bits]using s⟩,rfl,λj u hu=>?_⟩
  match j,hu with
  | 0,hu=>simp[rwq]at hu;subst hu;exact⟨_,rfl,N⟩
  | 1,hu=>simp[rwq]at hu;subst hu;exact⟨_,rfl,B⟩
  | 2,hu=>simp[rwq]at hu;subst hu;exact⟨_,rfl,r2⟩
  | 3,hu=>simp[rwq]at hu;subst hu;exact⟨_,rfl,C⟩
  | 4,hu=>simp[rwq]at hu;subst hu;exact⟨_,rfl,.int _ _⟩
  |j+5,hu=>simp[rwq]at hu
end Orr
namespace Orr
open Go Go.Proofs Tryz Go.ChangeShapes Go.WideShapes Go.ChangeAt Go.RowKit Go.WideElems
variable{H:Type}{enc:TypeId×Value->H}{w:World}
end Orr
namespace Orr
open Go Go.Proofs Tryz Go.ChangeShapes Go.WideShapes Go.ChangeAt Go.RowKit Go.WideElems
set_option maxRecDepth 10000
def jK(t:TypeId)(R:TV->Prop):Prop:=∀{H:Type} {enc:TypeId×Value->H} {W:World} {base:Nat} {v:Value} {d:DataW H} {p:List MemPlace},Value.okWide prog W .any base t v->DataW.Trod enc prog W 0 (λ_=>true) true t v d p->(d.weights prog t).all (· <= reachBytes)=true->∃u,R u/\TRep W (λ_=>False) (λ_=>none) v u
section
variable{H:Type}{enc:TypeId×Value->H}{W W':World}{base:Nat}
theorem cL:∀{ps:List (TypeId×(TV->Prop))} {args:List Value} {ds:List (DataW H)} {p:List MemPlace},DataW.TrodAll enc prog W 0 (λ_=>true) true (ps.map (·.1)) args ds p ->
 (∀(j:Nat) t v,(ps.map (·.1))[j]? = some t->args[j]? = some v->Value.okWide prog W .any base t v)->(∀(j:Nat) t d,(ps.map (·.1))[j]? = some t->ds[j]? = some d->(d.weights prog t).all (· ≤ reachBytes)=true)->(∀q∈ps,jK q.1 q.2) ->
 ∃us,F2 (λu (q:TypeId×(TV->Prop))=>q.2 u) us ps/\F2 (TRep W (λ_=>False) (λ_=>none)) args us/\ds.length=ps.length
 |
  [],args,ds,p,h,_,_,_=>by
  obtain⟨rfl,rfl,rfl⟩:=trodAll_nil h;exact⟨[],.nil,.nil,rfl⟩
 |
  q::ps,args,ds,p,h,hv,hw,hr=>by
  obtain⟨v,vs,d,f,p1,p2,rfl,rfl,rfl,h1,h2⟩:=trodAll_cons h;obtain⟨u,r1,r2⟩:=hr q (Qy ..) (hv 0 q.1 v rfl rfl) h1 (hw 0 q.1 d rfl rfl);obtain⟨us,c,g,e⟩:=cL h2 (λj t v h a=>hv (j+1) t v (by simpa using h) (by simpa using a)) (λj t d h a=>hw (j+1) t d (by simpa using h) (by simpa using a)) λq b=>hr q (Qi _ b)
  exact⟨u::us,.cons r1 c,.cons r2 g,by simp[e]⟩
theorem dM{sp':Nat->Bool}(hl:laidOutB prog=true):∀{ps:List (TypeId×(TV->Prop))} {args:List Value} {ds:List (DataW H)} {p:List MemPlace},DataW.TrodAll enc prog W 0 (λ_=>true) true (ps.map (·.1)) args ds p ->
 (∀q∈ps,prog.readableRec q.1=true/\q.1<prog.types.size)->(∀x∈p,W.sameAt W' x)->(∀x∈p,sp' x.block=true)->DataW.TrodAll enc prog W' 0 sp' true (ps.map (·.1)) args ds p
 |
  [],args,ds,p,h,_,_,_=>by
  obtain⟨rfl,rfl,rfl⟩:=trodAll_nil h;exact trodAll_mk0
 |
  q::ps,args,ds,p,h,hr,hs,hb=>by
  obtain⟨v,vs,d,b,p1,p2,rfl,rfl,rfl,h1,h2⟩:=trodAll_cons h;obtain⟨r1,r2⟩:=hr q (Qy ..);exact trodAll_cons_mk (Trod_stays hl r1 r2 h1 (λx hx=>hs x (Qr.2 (.inl hx))) λx hx=>hb x (Qr.2 (.inl hx))) (dM hl h2 (λq a=>hr q (Qi _ a)) (λx hx=>hs x (Qr.2 (.inr hx))) λx hx=>hb x (Qr.2 (.inr hx)))
end
theorem Qno{ps:List (TypeId×(TV->Prop))}{f:FuncId}{fn:Func}{s:ChangeSpec}(hp:fn.params=(ps.map (·.1)).toArray)(hr:fn.resultTypes = #[4])(hv:s.vars=[])
 (hs:∀(H:Type) (ds:List (DataW H)),ds.length=ps.length->s.fn H ds={ results:=[.lit (.bool true)],args:=ds })
 (g:laidOutB prog=true) (i:∀q∈ps,prog.readableRec q.1=true/\q.1<prog.types.size) (n:∀q∈ps,jK q.1 q.2)
 (r:∀us:Fh,F2 (λu (q:TypeId×(TV->Prop))=>q.2 u) us ps->xR prog f us [.one (.bool true)])
 {H:Type} {enc:TypeId×Value->H} {W:World} {base:Nat} {args:Array Value} {ds B:List (DataW H)} {P0:List MemPlace} {fresh handsOn:Bool}
 (c:∀(j:Nat) t v,fn.params[j]? = some t->args[j]? = some v->Value.okWide prog W .any base t v)
 (C:DataW.Whole enc prog fn.params.toList s.vars false W args.toList ds B P0)
 (hz:(DataW.weightsEach prog (fn.params.toList++s.plain.varTypes prog) (ds++B)).all (· <= reachBytes)=true) :
 Calls prog f args W λe W'=>∃v,e=.returned v/\s.post enc prog fn false fresh handsOn false W args v W':=by
 have l:=C;obtain⟨p,q,A,D,rfl,K,F⟩:=C;have hA:DataW.TrodAll enc prog W 0 (λ_=>true) true fn.params.toList args.toList ds p:=A;rw[hv]at D;obtain⟨rfl,rfl⟩:=trodVars_none D;have o:=l.lt;rw[hp]at hA c hz;have hA:DataW.TrodAll enc prog W 0 (λ_=>true) true (ps.map (·.1)) args.toList ds p:=by simpa using hA
 obtain⟨us,r1,r2,w⟩:=cL (base:=base) hA (λj t v h m=>c j t v (by simpa using h) (by simpa using m)) (λj t d h m=>by
  rw[Ya]at hz ⊢;intro k E;have J:j<(ps.map (·.1)).length:=(Qh.1 h).1;have y:j<ds.length:=(Qh.1 m).1;exact hz k (DataW.weights_mem_each (j:=j) (by rw[Zc (by simpa using J)];simpa using h) (by rw[Zc y];exact m) k E)) n
 have a:=(r us r1).2 (fr0 W) (λ_=>none) (λ_=>False) W args.toList (xH W) r2;have I:args.toList.toArray=args:=Ft;rw[I]at a;refine a.mono λe W' ⟨v,u,M,E',L,he,⟨hu,G⟩,_,hm,z⟩=>?_
 subst hu;obtain rfl:v=.bool true:=by
  have h:LRep _ _ v (.bool true):=z;cases h;rfl
 refine⟨_,he,?_⟩;refine⟨ds,[],_,[],p,[],l,?_,?_,?_,Qua hm _,λh=>by cases h⟩
 .rw[hr,Zx,hs H ds w];exact trodAll_cons_mk (shut_bool underlying4 true) trodAll_mk0
 .rw[hp,Zx,hs H ds w];have hb:∀x∈p,x.block<W.heap.size:=λx hx=>o x (by simp[hx])
  have:=dM (sp':=λb=>decide (b<W.heap.size)) g hA i (λx hx=>Qvw hm (hb x hx)) λx hx=>by simpa using hb x hx
  simpa using this
 .rw[hv,Zx,hs H ds w];rfl
abbrev Qyj(u:TV):Prop:=∃n:Int,(-9223372036854775808<=n/\n<=9223372036854775807)/\u=.oi n
theorem kB:jK 3 Qyj:=λ{H enc W base v d p} hv h _=>by
 obtain⟨n,rfl,rfl,rfl,w1⟩:=open_int underlying3 hv h;exact⟨_,⟨n,by simpa[Lit.wf,IntKind.min,IntKind.max,IntKind.signed,IntKind.bits]using w1,rfl⟩,show XRep W (λ_=>False) (λ_=>none) (.int .i64 n) (.int .i64 n) from(LRep.int .i64 n).x⟩
theorem Qh6{α:Type}{rw_:α->Fe}{Ok:α->Prop}{t e sz:Nat}(hu:prog.underlying t=some (.slice e))(hc:prog.cellsOf e=sz)(hsz:0<sz)(hb:1<=prog.bytesOf e)(g:∀z,(rw_ z).length=sz)
 (elem:∀{H:Type} {enc:TypeId×Value->H} {w:World} b cs x,DataW.trod enc prog w 0 (λ_=>true) true b e cs=some x->(x.1.weights prog e).all (· ≤ reachBytes)=true->∃z,Ok z/\sW w cs (rw_ z)):jK t λu=>∃l:List α,(∀z∈l,Ok z)/\u=.one (.row (l.map rw_)):=λ{H enc W base v d p} hv h hz=>by
 obtain⟨a,len,c,rfl⟩:=okWide_slice hu hv;obtain⟨k,h⟩:=h;obtain⟨v,l,i,f,_,hrep⟩:=SL hu hc hsz hb g (λb cs x h j=>elem b cs x h j) h hz;have f0:Value.slice a len c=v:=(List.cons.inj (show [Value.slice a len c]=[v] from i)).1;subst f0;exact⟨_,⟨l,f,rfl⟩,show XRep W (λ_=>False) (λ_=>none) _ (.row (l.map rw_)) from hrep.x⟩
end Orr
namespace Orr
open Go Go.Proofs Tryz Go.ChangeShapes Go.WideShapes Go.ChangeAt Go.RowKit Go.WideElems
set_option maxRecDepth 10000
theorem TJ{w:World}{cs a:List Value}{ls b:Fe}(h:sW w cs ls)(d:sW w a b):sW w (cs++a) (ls++b):=by
 refine⟨by simp[h.1,d.1],λj u hu=>?_⟩;by_cases c:j<ls.length
 .rw[Zc c]at hu;obtain⟨v,hv,hr⟩:=h.2 j u hu;exact⟨v,by rw[Zc (by rw[h.1];exact c)];exact hv,hr⟩
 .rw[Zy Fo]at hu;obtain⟨v,hv,hr⟩:=d.2 _ u hu;exact⟨v,by rw[Zy (by rw[h.1];omega),h.1];exact hv,hr⟩
theorem fZ{w:World}{n:Int}:sW w [.int .i64 n] [.int .i64 n]:=⟨rfl,λj u hu=>by
 match j,hu with
 | 0,hu=>simp at hu;subst hu;exact⟨_,rfl,.int _ _⟩
 |j+1,hu=>simp at hu⟩
section
variable{H:Type}{enc:TypeId×Value->H}{w:World}
set_option maxRecDepth 20000 in
theorem Quz:∀b cs x,DataW.trod enc prog w 0 (λ_=>true) true b 43 cs=some x->(x.1.weights prog 43).all (· <= reachBytes)=true->∃z:RawOp,z.Ok/\sW w cs (rwo z):=by
 intro b cs x h hz;obtain⟨xs,n,_,rfl,hl,a,l⟩:=DataW.trod_struct underlying43 h;have hl:cs.length=12:=hl
 match cs,hl with
 |
  [v0,v1,v2,v3,v4,v5,v6,v7,v8,v9,v10,v11],_ =>
  obtain⟨P,y⟩:=Mf (i:=0) a Fp;obtain⟨S,r⟩:=Mf (i:=1) a Fp;obtain⟨Q,q⟩:=Mf (i:=2) a Fp;obtain⟨I,e⟩:=Mf (i:=3) a Fp;obtain⟨O,f⟩:=Mf (i:=4) a Fp;have h0:=l 0 _ rfl;have h1:=l 1 _ rfl;have h2:=l 2 _ rfl;have h3:=l 3 _ rfl;have h4:=l 4 _ rfl;rw[y]at h0;rw[r]at h1;rw[q]at h2;rw[e]at h3;rw[f]at h4;obtain⟨k,M,_,w0⟩:=DataW.trod_int underlying3 h0;obtain⟨m,E,_,w1⟩:=DataW.trod_int underlying3 h1;obtain⟨d,L,_,K⟩:=DataW.trod_int underlying3 h2;have f0:v0=.int .i64 k:=(List.cons.inj (show [v0]=[Value.int .i64 k] from M)).1;have f1:v1=.int .i64 m:=(List.cons.inj (show [v1]=[Value.int .i64 m] from E)).1;have f2:v2=.int .i64 d:=(List.cons.inj (show [v2]=[Value.int .i64 d] from L)).1;have s:=By underlying43 hz (i:=3) rfl (d:=I.1) (by rw[Q9,e];rfl);have c:=By underlying43 hz (i:=4) rfl (d:=O.1) (by rw[Q9,f];rfl);obtain⟨p,p1,p2⟩:=oO _ _ _ h3 s;have p2:sW w [v3,v4,v5,v6,v7] (rwq p):=p2;obtain⟨R,n2,_,N,_,j,hg⟩:=DataW.trod_struct underlying41 h4;rw[N]at c;obtain⟨D,g⟩:=Mf (i:=0) j Fp;obtain⟨J,o⟩:=Mf (i:=1) j Fp;have A:=hg 0 _ rfl;have B:=hg 1 _ rfl;rw[g]at A;rw[o]at B;have G:=By underlying41 c (i:=0) rfl (d:=D.1) (by rw[Q9,g];rfl);have x1:=By underlying41 c (i:=1) rfl (d:=J.1) (by rw[Q9,o];rfl);obtain⟨t,F,v⟩:=KZ _ _ _ A G;obtain⟨u,C,u2⟩:=KZ _ _ _ B x1;have v:sW w [v8,v9] (Ih t):=v;have u2:sW w [v10,v11] (Ih u):=u2;subst f0 f1 f2;exact⟨⟨k,m,d,p,t,u⟩,⟨by simpa[Lit.wf,IntKind.min,IntKind.max,IntKind.signed,IntKind.bits]using w0,by simpa[Lit.wf,IntKind.min,IntKind.max,IntKind.signed,IntKind.bits]using w1,by simpa[Lit.wf,IntKind.min,IntKind.max,IntKind.signed,IntKind.bits]using K,p1,F,C⟩,
   TJ (TJ (TJ (TJ (TJ fZ fZ) fZ) p2) v) u2⟩
end
abbrev Q2q(u:TV):Prop:=∃l:List RawOp,(∀o∈l,o.Ok)/\u=.one (.row (vB l))
theorem Qh5:jK 22 Q2q:=Qh6 (sz:=12) (Ok:=RawOp.Ok) (rw_:=rwo) underlying22 (by kernel_rfl) Fp (of_decide_eq_true (by kernel_rfl)) (λ_=>rfl) λa cs x=>Quz a cs x
end Orr
