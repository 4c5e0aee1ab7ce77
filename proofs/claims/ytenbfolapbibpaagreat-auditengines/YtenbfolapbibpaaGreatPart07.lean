import Derived.Test.YtenbfolapbibpaaGreatPart06
import Derived.Test.YtenbfolapbibpaaGreatPart00
import Derived.Test.YtenbfolapbibpaaGreatPart05
import Derived.Test.YtenbfolapbibpaaGreatPart04
set_option linter.all false
namespace Orq
open Orr Go
theorem Qvw{c:Rat->Int}(hc:Cut c):∀(n:Nat) (f:U9),HD f n->∃s,s≠0/\RS f c s
 |
  n,f,h=>by
  rcases KQ hc f with hv|⟨s,hs,hn⟩
  ·cases n with
   |
    zero =>
    exfalso;obtain⟨q,hq,_⟩:=pH hc (hv (Gs (f.getD 0 0)) (Ll h.1));cases f with
    |nil=>exact h.1 Fp
    |
     cons a l =>
     have:=E6 (p:=l) λk=>by have:=h.2 (k+1) Fj;rwa[Q7]at this
     simp only[ev,this,Zu]at hq;grind
   |
    succ n =>
    have hd:HD (De f) n:=by
     have key:∀(f:U9) (k:Nat),(De f).getD k 0=((k+1:Nat):Rat)*f.getD (k+1) 0:=by
      intro f
      induction f with
      |nil=>intro k;simp only[De,Wg];grind
      |
       cons a f ih =>
       intro k;simp only[De];rw[T0,Q7];cases k with
       |zero=>rw[Zu];push_cast;grind
       |succ k=>rw[Q7,ih];push_cast;grind
     refine⟨λh0=>?_,λk hk=>by rw[key,h.2 (k+1) Fj];grind⟩;rw[key]at h0;rcases X3.1 h0 with h1|h1
     ·have:=nat_pos (show 0<n+1 by omega);grind
     ·exact h.1 h1
    obtain⟨s,hs,h1⟩:=Qvw hc n (De f) hd;exact⟨s,hs,uA hc hv h1 hs⟩
  ·exact⟨s,hs,yP hc hn⟩
variable{c:Rat->Int}
theorem Qnf(hc:Cut c){f p q:U9}{s s':Int}(hf:∀t,ev f t=ev p t*ev q t)(h:RS p c s)(h':RS q c s'):RS f c (s*s'):=by
 obtain⟨y,h1,h2⟩:=h;obtain⟨y',h3,h4⟩:=h';refine⟨if y<=y' then y else y',by split <;> assumption,λz z1 z2=>?_⟩;rw[hf,Mc,h2 z z1 (by clear h2 h4;grind),h4 z z1 (by clear h2 h4;grind)]
theorem Qng(hc:Cut c){f o S:U9}{k:Rat}(hk:k≠0)(hf:∀t,ev f t=k*(ev o t*(ev S t*ev S t)))(hnz:¬∀t,ev f t=0){s:Int}(h:RS o c s):RS f c (Gn k*s):=by
 obtain⟨n,_,hn⟩:∃n,n<S.length/\HD S n:=by
  rcases IU S with h1|h1
  ·exact absurd (λt=>by rw[hf,h1];grind) hnz
  ·exact h1
 obtain⟨s',hs',h'⟩:=Qvw hc n S hn;have h1:=Qnf hc (f:=Rl S S) (λt=>Gp t _ _) h' h';have h2:=Qnf hc (f:=Rl o (Rl S S)) (λt=>Gp t _ _) h h1;have hsq:s'*s'=1:=by
  obtain⟨y,y1,y2⟩:=h';have:=y2 y y1 Qr;rcases G6 (ev S y)with⟨e,_⟩|⟨e,_⟩|⟨e,_⟩
  ·rw[<-this,e];rfl
  ·omega
  ·rw[<-this,e];rfl
 rw[hsq,Ut]at h2;obtain⟨y,y1,y2⟩:=h2;exact⟨y,y1,λz z1 z2=>by
  have:=y2 z z1 z2;rw[Gp,Gp]at this;rw[hf,Mc,this]⟩
structure Cp(p:List Int):Prop where
 t:Gk p
 l:p.length<=9
 b:Bd 1110 p
variable{p:U6}
theorem Cp.dp(h:Cp p):Dp p:=⟨h.t,h.l,Fz h.b Fj⟩
def Leq(a:Tm)(c:Rat->Int):Prop:=∀q,c q=-1->Gx a q=-1
def Bv(p:U6)(a:Tm):Option Tm->Prop
 |none=>p=[]\/∃s,s≠0/\∀c,Cut c->Leq a c->RS (cz p) c s
 |some t=>p≠[]/\Va t/\C5 a t/\∃s,s≠0/\(∀c,Cut c->Leq a c->(∃m,c m=-1/\Gx t m=1)->RS (cz p) c s)/\RS (cz p) (Gx t) (-s)
theorem RI.len{q:U6}{L:Fa}{lo hi:Rat}{l:List Tm}(h:RI q L lo l hi):l.length+vv L hi<=vv L lo:=by
 induction h with
 |nil h hv=>simp;omega
 |cons h hv ht hp hl ih=>have:=ht.v;simp only[Q5];omega
theorem Qn9(x:Rat):∀(L:Fa) (s:Int),tc x s L<=L.length
 | [],_=>Qm _
 |
  f::l,s=>by
  have h1:=Qn9 x l;simp only[tc,Q5]
  repeat' split
  all_goals (first|(have:=h1 s;omega)|(have:=h1 (Gn (ev f x));omega))
theorem Q0a(L:Fa)(x:Rat):vv L x<=L.length:=Qn9 x L 0
theorem VO(h:Cp p):∃l,GQ p=some l/\l.length≤67/\(∀t∈l,Va t)/\∀a,Va a->∃r,UZ a l=some r/\Bv p a r/\∀t,r=some t->t∈l:=by
 unfold GQ;by_cases h0:p.length=0
 ·have e:p=[]:=Qi h0;subst e;exact⟨[],rfl,Fl,(λt ht=>by cases ht),λa _=>⟨none,rfl,.inl rfl,λt ht=>by cases ht⟩⟩
 ·obtain⟨qp,o,q1,o1,hpt⟩:=Ql9 (n:=9) (s:=1110) (p:=p) ⟨⟨Fl,Fl⟩,h.t,h0,h.l,h.b⟩;obtain⟨g,sq⟩:=hpt.sq;obtain⟨S,hS⟩:=hpt.os;obtain⟨p1,p2,p3,p4,p5,p6,p7⟩:=Lj h.t h0;have Dz:=h.l;obtain⟨hh,th,eh⟩:=hpt.oh;have bo:Bd 1179 o:=YG (p5 1110 h.b) Fj p1 hpt.ot th Fj eh;obtain⟨lo1,lo2⟩:=S8 p1 Fj eh;have hlen:=Bq hpt.ot th p1 eh lo1 lo2;have oko:Okp 9 1180 o:=⟨Qcc,hpt.ot,Fj,Fj,Fz bo Fj⟩;obtain⟨q,c,l,r1,r2,r3,hSt,hRI,hVa,hout⟩:=Qnc oko;obtain⟨g',q',s1,s2⟩:=WG oko;rw[r1]at s1;injection s1 with s1;subst s1;obtain⟨_,_,_,_,_,o6,o7⟩:=Lj hpt.ot Fj;have hg1:g'=[1]:=by
   refine s2.pg.one ?_;obtain⟨E,hE⟩:=hpt.oq;have hE:∀t,Gf qp t=Gf o t*ev E t:=λt=>by have:=hE t;rwa[Gh,Gh]at this
   obtain⟨z,hz⟩:=s2.d;have hd1:∀t,Gf o t=Gf g' t*(Tf o*Gf q t):=λt=>by rw[o7,s2.e];grind
   have hdo:∀t,dv (cz o) t=Gf g' t*(Tf o*ev z t):=λt=>by
    have:=Qj2 (p:=cz o) (q:=Ey (Tf o) (cz (Gq o))) (λt=>by rw[Gh,Hx,Gh,o7]) t;rw[this,PU,hz];grind
   obtain⟨k,hk,hkk⟩:=sq.num (d:=cz g') ⟨Rl (Ey (Tf o) (cz q)) E,λt=>by rw[Gh,Gh,hE,hd1,Gp,Hx,Gh];grind⟩ ⟨Ma (Rl (Ey (Tf o) z) E) (Rl (Ey (Tf o) (cz q)) (De E)),λt=>by
    have:=XS (f:=cz qp) (w:=cz o) (u:=E) (λt=>by rw[Gh,Gh,hE]) t;rw[Pi,this,hdo,Gh,Gh,hd1,Rf,Gp,Gp,Hx,Hx,Pi,Gh];grind⟩
   rcases Zc g'.length 2 with e|e
   ·exact e
   ·exfalso;have h1:=(NN s2.pg.t Fj).1;have h2:=Et (p:=cz g') (q:=[k]) (λt=>by rw[hkk];simp only[ev];grind) (g'.length-1);rw[h2,Qj,Qy Fo]at h1;exact h1 rfl
  have hpq:∀t,ev (cz p) t=((Tf p:Rat)*(Tf o:Rat))*(ev (cz q) t*(ev S t*ev S t)):=λt=>by
   rw[Gh,Gh,p7,hS,o7,s2.e,hg1,Cz];grind
  have hk0:(Tf p:Rat)*(Tf o:Rat)≠0:=λh=>(X3.1 h).elim (YS p6) (YS o6)
  have hpz:¬∀t,ev (cz p) t=0:=λh'=>NG h.t Fj λt=>by rw[<-Gh];exact h' t
  obtain⟨k,hk⟩:=nmE (Gn ((Tf p:Rat)*(Tf o:Rat)));have hkn:k≠0:=λh=>hk0 (Hd.1 (by rw[<-hk];exact h))
  have ho:o.length≠0:=Fj;rw[o1];show ∃l,(if o.length=0 then some []else BK o)=some l/\l.length<=67/\_;rw[if_neg ho];have hb1:=SN (A4 s2.pq.t s2.pq.n);have hll:=hRI.len;have hlv:=Q0a (c.map cz) (-H9 q);have hcl:=(Orr.chain_ok (p:=o) ⟨hpt.ot,Fj,Fz bo Fj⟩ r2).1;rw[Ze]at hlv;refine⟨l,r3,Fj,hVa,λa ha=>?_⟩;obtain⟨r,n1,n2⟩:=Qfm hSt ha hRI hVa (λz hz=>(hout _ _ hz (.inl Qr)).symm) λz _ hz=>by
   rcases Classical.em (z=-H9 q)with e|e
   ·rw[e]
   ·exact hout z _ Fq (.inr Qr)
  refine⟨r,n1,?_,λt ht=>by subst ht;exact n2.1⟩;cases r with
  |
   none =>
   obtain⟨s,hs,hz⟩:=n2;refine .inr ⟨k*s,Jy hkn hs,λc hc hac=>?_⟩;obtain⟨y,hy⟩:=hc.hi;have h1:RS (cz q) c s:=⟨y,hy,λz z1 _=>hz z (hac z z1)⟩;rw[hk];exact Qng hc hk0 hpq hpz h1
  |
   some t =>
   obtain⟨hm,hlt,s,hs,hz,hrs⟩:=n2;refine⟨λe=>h0 (by rw[e];rfl),hVa t hm,hlt,k*s,Jy hkn hs,λc hc hac ⟨m,m1,m2⟩=>?_,?_⟩
   ·have h1:RS (cz q) c s:=⟨m,m1,λz z1 z2=>hz z (hac z z1) (by
     rcases Classical.em (z=m)with e|e
     ·rw[e];exact m2
     ·exact(hVa t hm).cut.mono' (q:=z) (r:=m) Fq Fj)⟩
    rw[hk];exact Qng hc hk0 hpq hpz h1
   ·have:=Qng (hVa t hm).cut hk0 hpq hpz hrs;rw[<-hk]at this;rw[show -(k*s)=k*-s by rw[Kn]];exact this
structure Sz(s n:Nat)(t:Tm):Prop where
 n:t.p.length<=n
 b:Bd (s+138) t.p
 g:∃D M k,Gr D M k t.lo/\Gr D M k t.hi/\0<M/\Gl (D:Int)<=s+138/\Gl (M:Int)<=s+139/\k<=63*s+9507
theorem Ql5(h:Cp p){a:Tm}(ha:Va a):∃r,BZ p a=some r/\Bv p a r:=by
 obtain⟨l,l1,_,_,l3⟩:=VO h;obtain⟨r,r1,r2,_⟩:=l3 a ha;refine⟨r,?_,r2⟩;unfold BZ;rw[l1];exact r1
theorem PI:∀(l:List Tm) (b:Tm),(∀t∈b::l,Va t)->∃m,XD b l=some m/\m∈b::l/\∀t∈b::l,¬C5 t m
 |
  [],b,h=>⟨b,rfl,Qw ..,λt ht h'=>by
  rw[Ql.1 ht]at h';have hb:=(h b (Qw ..)).cut;exact QU hb hb h' h'⟩
 |
  a::l,b,h=>by
  have ha:=h a Fp;have hb:=h b Fp;obtain⟨c,c1,c2⟩:=GA ha hb;obtain⟨m,m1,m2,m3⟩:=PI l (if c<0 then a else b) λt ht=>by
   rcases Qk.1 ht with rfl|ht
   ·split <;> assumption
   ·exact h t (by simp[ht])
  refine⟨m,by simp only[XD];rw[c1];exact m1,?_,λt ht=>?_⟩
  ·rcases Qk.1 m2 with e|e
   ·rw[e];split <;> simp
   ·simp[e]
  ·have hm:Va m:=by
    rcases Qk.1 m2 with e|e
    ·rw[e];split <;> assumption
    ·exact h m (by simp[e])
   have hfst:=m3 _ (Qw ..);have tr:∀x y:Tm,Va x->Va y->¬C5 x y->¬C5 y m->¬C5 x m:=λx y hx hy h1 h2 h3=>by
    rcases tri hy.cut hm.cut with h4|h4|h4
    ·exact h2 h4
    ·obtain⟨q,q1,q2⟩:=h3;exact h1 ⟨q,q1,by rw[h4];exact q2⟩
    ·obtain⟨q,q1,q2⟩:=h3;obtain⟨r,r1,r2⟩:=h4;have:=hm.cut.lt q2 r1;exact h1 ⟨q,q1,hy.cut.mono' this Fj⟩
   rcases Qk.1 ht with rfl|ht
   ·by_cases hc:c<0
    ·rw[if_pos hc]at hfst;refine tr _ a hb ha ?_ hfst;rcases c2 with⟨_,h'⟩|⟨e,_⟩|⟨e,_⟩
     ·exact λh''=>QU ha.cut hb.cut h' h''
     ·omega
     ·omega
    ·rw[if_neg hc]at hfst;exact hfst
   ·rcases Qk.1 ht with rfl|ht
    ·by_cases hc:c<0
     ·rw[if_pos hc]at hfst;exact hfst
     ·rw[if_neg hc]at hfst;refine tr _ b ha hb ?_ hfst;rcases c2 with⟨e,_⟩|⟨_,h'⟩|⟨_,h'⟩
      ·omega
      ·rintro⟨q,q1,q2⟩
       have:=h' q;omega
      ·exact λh''=>QU ha.cut hb.cut h'' h'
    ·exact m3 t (by simp[ht])
end Orq
namespace Orr
open Go Go.Proofs Tryz Orq
set_option maxRecDepth 10000
variable{p:U6}
theorem Dp.pb(h:Dp p):Pb p:=⟨h.t,by have:=h.l;omega,Fz h.b (by have:=h.l;omega)⟩
variable{a:Tm}
theorem Q08(hp:Dp p)(ha:Va a):U3 147 [pr p,.agg (ta a)] [.oi (Gm a p)]:=Qpw (Dp.pb hp) ha.tb (Qnl hp ha).1
theorem Q01(hp:Dp p)(ha:Va a):U3 146 [pr p,.one (.sh (ta a))] [.oi (Gm a p)]:=Uy func146 rfl [.k (Q08 hp ha)] rfl
theorem Qqw{fid:Nat}{l1:Fb}{sgn:U6->Int}(hp:Dp p)(h:∀p,Dp p->qM prog fid [pr p,.one (.sh l1)] [.oi (sgn p)]):U3 145 [pr p,.one (.fn fid [] [.sh l1])] [.oi (Ss sgn p.length p)]:=by
 have hpb:=Dp.pb hp;refine G5 func145 rfl ?_;refine Uv [.k (Ti hpb.t hpb.ln hpb.bd)] rfl ?_;refine U0 (S:=U6) 0 (λL1 s=>(0,.v (pr s))::L1) (λ_=>[]) (λs=>s.length) (λs=>Dp s/\Ss sgn s.length s=Ss sgn p.length p) p ⟨hp,rfl⟩ rfl rfl λr ⟨j1,j4⟩=>?_
 rw[<-j4];have jb:=Dp.pb j1;by_cases h0:r.length=0
 ·have e:=sH sgn h0;rw[e];exact Ux [.f (by simp;exact Qi h0)] rfl
 ·have hs:=h r j1;by_cases hz:sgn r=0
  ·have hlp:=Cf r;refine Uv [.t Fo,.k hs,.f (by simpa using hz),.k (QS jb.ln jb.bd)] rfl ?_;exact rd (H5 r) Fj ⟨j1.der,by rw[<-sG sgn Fj hz]⟩ rfl
  ·rw[sF sgn Fj hz];exact Ux [.t Fo,.k hs,.t (by simpa using hz)] rfl
abbrev gmA(a:Tm)(p:U6):Int:=G7 (Gm a) p
theorem JH(hp:Dp p)(ha:Va a):U3 79 [pr p,.agg (ta a)] [.oi (gmA a p)] :=
 Uy func79 rfl [.k (Qqw (sgn:=Gm a) hp λ_ h=>Q01 h ha)] rfl
variable{t:Tm}
theorem rC{a b:Pt}{ps:U7}(hps:∀p∈ps,Dp p)(ht:Va t)(hl:ps.length<1000):U3 137 [.agg (ta t),.agg (Ge a),.agg (Ge b),.one (.row (Mp ps))] [.one (.bool (Ap (Gm t) a b ps))]:=by
 refine G5 func137 rfl ?_;have Dz:(Mp ps).length=ps.length:=by simp[Mp]
 refine Uv [] rfl ?_;refine U0 (S:=Nat) 3 (λL1 i=>(13,.v (.oi i))::L1) (λ_=>[.blk 75 (ta t),.blk 39 (Ge a),.blk 39 (Ge b)]) (λi=>ps.length-i) (λi=>i<=ps.length/\Ap (Gm t) a b (ps.drop i)=Ap (Gm t) a b ps) 0 ⟨Qg _,rfl⟩ rfl rfl λi ⟨hi,he⟩=>?_
 rw[<-he];by_cases hlt:i<ps.length
 ·obtain⟨p,hp⟩:=gxE (l:=ps) (i:=i) hlt;have hd:ps.drop i=p::ps.drop (i+1):=by
   rw[Zq hlt];rw[Qf hlt]at hp;injection hp with hp;rw[hp]
  have hpb:=hps p (Qa hp);rw[hd]at he ⊢;by_cases h0:0<p.length
  ·exact Ux [.t (by simp[Dz];omega),.x (Si hp),.t Fo,.k (JH hpb ht)] rfl (by simp only[Ap];rw[if_pos h0]) trivial
  ·refine Uw [.t (by simp[Dz];omega),.x (Si hp),.f (by simp;exact Qi Fj)] rfl ?_;exact rd (i+1) Fj ⟨hlt,by simp only[Ap];rw[if_neg h0]⟩ rfl
 ·have hd:ps.drop i=[]:=Vj Fj;rw[hd];exact Ux [.f (by simp[Dz];omega)] rfl
structure Sc(k:Crv):Prop where
 n:KX k
 c:Cs 128 3 k
theorem Sc.cb{k:Crv}(h:Sc k):Cb k:=h.c.mono Fj Fj
theorem Ca{a b:Crv}(ha:Sc a)(hb:Sc b):Cp (Hr a b):=by
 refine⟨Gw _ _,?_,Fz (El (Hi hb.c.x ha.c.d) (Hi ha.c.x hb.c.d)) Fj⟩;have:=Cg (Gy b.x a.d) (Gy a.x b.d);have:=G8 b.x a.d;have:=G8 a.x b.d;have:=ha.c.lx;have:=hb.c.lx;unfold Hr;omega
theorem B9{a b:Crv}(ha:Sc a)(hb:Sc b):Cp (Hq a b):=by
 refine⟨Gw _ _,?_,Fz (El (Hi hb.c.y ha.c.d) (Hi ha.c.y hb.c.d)) Fj⟩;have:=Cg (Gy b.y a.d) (Gy a.y b.d);have:=G8 b.y a.d;have:=G8 a.y b.d;have:=ha.c.ly;have:=hb.c.ly;unfold Hq;omega
theorem oW{a b:Pt}(ha:Sc a.c)(hb:Sc b.c)(ht:Va t):U3 78 [.agg (Ge a),.agg (Ge b),.agg (ta t)] [.one (.bool (M5 (Gm t) a b))] :=
 Uy func78 rfl [.k (GF hb.n ha.n hb.cb ha.cb),.k (GR hb.n ha.n hb.cb ha.cb),.k (rC (t:=t) (a:=a) (b:=b) (ps:=[Hq b.c a.c,Hr b.c a.c]) (λp hp=>by
  simp at hp;rcases hp with rfl|rfl
  ·exact(B9 hb ha).dp
  ·exact(Ca hb ha).dp) ht (show 2<1000 by decide))] rfl
theorem Iu{a b:Pt}(ha:Sc a.c)(hb:Sc b.c)(ht:Va t):U3 71 [.agg (Ge a),.agg (Ge b),.agg (ta t)] [.one (.bool (H8 (Gm t) a b))] :=
 Uy func71 rfl [.k (GR ha.n hb.n ha.cb hb.cb),.k (GF ha.n hb.n ha.cb hb.cb),.k (rC (t:=t) (a:=a) (b:=b) (ps:=[Hr a.c b.c,Hq a.c b.c]) (λp hp=>by
  simp at hp;rcases hp with rfl|rfl
  ·exact(Ca ha hb).dp
  ·exact(B9 ha hb).dp) ht (show 2<1000 by decide))] rfl
theorem Qv5(q:Rat){P:Prop}(h:(tq q).point=false):P:=by
 have e:(tq q).point=true:=Ng.2 Qr;rw[e]at h;cases h
theorem Qyq(q:Rat):lim (tq q)=3300000:=by unfold lim;rw[if_pos (Ng.2 Rat.le_refl)]
theorem BI{q:Rat}(hq:Qs 1640000 q):Va (tq q):=by
 have hd:=q.den_nz;refine⟨.inl ⟨rfl,?_⟩,Qda q,by show 2<=9;omega,by show 2<=2;omega,Q0t (hq.mono Fj),Qv5 q,Qv5 q,q.den,q.num.natAbs+1,0,?_,?_,Fj,?_⟩
 ·have e:(q.num:Rat)=q*(q.den:Rat):=by
   have:(q.num:Rat) / (((q.den:Int)):Rat)=q:=by rw[Tu,Xj]
   have h2:(q.num:Rat) / (q.den:Rat)*(q.den:Rat)=q.num:=Zj (by have:=Orq.nat_pos q.den_pos;grind);rw[show(q.num:Rat) / (q.den:Rat)=q from this]at h2;exact h2.symm
  show Gf [-q.num,(q.den:Int)] q=0;simp only[Gf];rw[V6,e,show(((q.den:Int)):Rat)=(q.den:Rat) from rfl];grind
 all_goals first|(have h1:Gl (q.den:Int)<=1640000:=hq.2;have h2:Gl ((q.num.natAbs+1:Nat):Int)<=1640001:=Qfd hq.1;rw[Qyq];omega)|skip
 all_goals
  refine⟨⟨q.num,?_⟩,?_,q.den_pos⟩
  ·rw[Vx,Vk];have:(q.num:Rat) / (((q.den:Int)):Rat)=q:=by rw[Tu,Xj]
   have h2:(q.num:Rat) / (q.den:Rat)*(q.den:Rat)=q.num:=Zj (by have:=Orq.nat_pos q.den_pos;grind);rw[show(q.num:Rat) / (q.den:Rat)=q from this]at h2;exact h2
  ·have h1:Gs q<=Gs (q.num:Rat):=by
    have e:(q.num:Rat)=q*(q.den:Rat):=by
     have:(q.num:Rat) / (((q.den:Int)):Rat)=q:=by rw[Tu,Xj]
     have h2:(q.num:Rat) / (q.den:Rat)*(q.den:Rat)=q.num:=Zj (by have:=Orq.nat_pos q.den_pos;grind);rw[show(q.num:Rat) / (q.den:Rat)=q from this]at h2;exact h2.symm
    rw[e,O7];have hd1:(1:Rat)<=(q.den:Rat):=by
     have:((1:Nat):Rat)<=(q.den:Rat):=Zm.2 q.den_pos;exact this
    have e2:Gs (q.den:Rat)=(q.den:Rat):=by unfold Gs;rw[if_neg Fq]
    rw[e2];have:=Lf (a:=Gs q) (c:=1) (Tl q) Qr Fl hd1;grind
   rw[Md]at h1;refine Zl h1 (Zm.2 Fj)
theorem KP{p q:U6}(hp:Cp p)(hq:Cp q):Cp (Ao p q):=by unfold Ao;split <;> assumption
theorem oR{a b:Pt}{t:Tm}(ha:Sc a.c)(hb:Sc b.c)(ht:Va t):U3 165 [.oi 1,.agg (ta t),.one (.row [Ge a,Ge b])] [.agg (Lt (XI (Gm t) a b)),.oi 0]:=by
 have h1:=Ca ha hb;have h2:=B9 ha hb;refine G5 func165 rfl ?_;refine Uv [.k Qed,.f rfl] rfl ?_;refine U0 (S:=Nat) 3 (λL1 i=>(22,.v (.oi i))::L1) (λi=>[.blk 75 (ta t),.blk 168 zCt,.blk 168 [.int .i64 1,.int .i64 (if 1<=i then a.id else 0),.int .i64 (if 2<=i then b.id else 0),.int .i64 0,.int .i64 0,.nils,.int .i64 0]]) (λi=>2-i) (λi=>i<=2) 0 (Qg _) rfl rfl λi hi=>?_
 rcases(show i=0\/i=1\/i=2 by omega)with rfl|rfl|rfl
 ·refine Uv [.t rfl,.x (i:=0) (xs:=Ge a) rfl,.i 0] rfl ?_ Fw;exact rd 1 Fj Fj rfl
 ·refine Uv [.t rfl,.x (i:=1) (xs:=Ge b) rfl,.i 1] rfl ?_ Fw;exact rd 2 Fj Fj rfl
 ·exact Ux [.f rfl,.t rfl,.x (i:=0) (xs:=Ge a) rfl,.x (i:=1) (xs:=Ge b) rfl,.k (GR ha.n hb.n ha.cb hb.cb),.x (i:=0) (xs:=Ge a) rfl,.x (i:=1) (xs:=Ge b) rfl,.k (GF ha.n hb.n ha.cb hb.cb),.k rM,.k (JH (KP h1 h2).dp ht)] rfl
end Orr
namespace Orr
variable{α:Type}
def Li(lt:α->α->Bool)(out:List α)(x:α):Nat->Nat
 | 0=>0
 |
  k+1=>match out[k]? with
  |some y=>if lt x y=true then Li lt out x k else k+1
  |none=>k+1
theorem uH(lt:α->α->Bool)(out:List α)(x:α):∀k,Li lt out x k<=k
 | 0=>Qm _
 |
  k+1=>by
  simp only[Li]
  split
  ·split
   ·exact Nat.le_succ_of_le (uH lt out x k)
   ·exact Qm _
  ·exact Qm _
variable{lt:α->α->Bool}{out:List α}{k:Nat}
theorem uR{x y:α}(hx:out[k]? = some y)(h:lt x y=true):Li lt out x (k+1)=Li lt out x k:=by
 simp only[Li,hx,h,if_true]
theorem OR{x y:α}(hx:out[k]? = some y)(h:lt x y=false):Li lt out x (k+1)=k+1:=by
 simp[Li,hx,h]
def E8(lt:α->α->Bool)(out:List α)(x:α):List α:=out.take (Li lt out x out.length)++x::out.drop (Li lt out x out.length)
theorem Qla(lt:α->α->Bool)(out:List α)(x:α):(E8 lt out x).length=out.length+1:=by
 have:=uH lt out x out.length;simp[E8];omega
theorem HE{x y:α}:y∈E8 lt out x↔y=x\/y∈out:=by
 have h:y∈out↔y∈out.take (Li lt out x out.length)\/y∈out.drop (Li lt out x out.length):=by
  rw[<-Qp,Zf]
 simp only[E8,Qp,Qk,h];constructor
 ·rintro (h|h|h)
  ·exact .inr (.inl h)
  ·exact .inl h
  ·exact .inr (.inr h)
 ·rintro (h|h|h)
  ·exact .inr (.inl h)
  ·exact .inl h
  ·exact .inr (.inr h)
def Nq(lt:α->α->Bool)(l:List α):List α:=l.foldl (E8 lt) []
theorem iV(lt:α->α->Bool)(l:List α)(x:α):Nq lt (l++[x])=E8 lt (Nq lt l) x:=by simp[Nq,Ka]
variable{l:List α}
theorem qX{i:Nat}{x:α}(h:l[i]? = some x):Nq lt (l.take (i+1))=E8 lt (Nq lt (l.take i)) x:=by
 rw[Xb,h];exact iV _ _ _
theorem IZ(lt:α->α->Bool):∀(l acc:List α),(l.foldl (E8 lt) acc).length=acc.length+l.length
 | [],acc=>Fp
 |c::l,acc=>by simp only[Xl];rw[IZ lt l (E8 lt acc c),Qla];simp;omega
theorem MD(lt:α->α->Bool)(l:List α):(Nq lt l).length=l.length:=by unfold Nq;rw[IZ];simp
theorem UD(lt:α->α->Bool):∀(l acc:List α) {y:α},y∈l.foldl (E8 lt) acc↔y∈l\/y∈acc
 | [],acc,y=>Fp
 |
  c::l,acc,y=>by
  simp only[Xl];rw[UD lt l,HE,Qk];constructor
  ·rintro (h|h|h)
   ·exact .inl (.inr h)
   ·exact .inl (.inl h)
   ·exact .inr h
  ·rintro ((h|h)|h)
   ·exact .inr (.inl h)
   ·exact .inl h
   ·exact .inr (.inr h)
theorem yI{y:α}:y∈Nq lt l↔y∈l:=by
 unfold Nq;rw[UD];simp
end Orr
namespace Orr
open Go Orq
structure Wt where
 c:Ct
 known:Bool
 fails:Option Tm
def f0:Option Tm->LV|none=>.row []|some t=>pl t.p
def f1:Option Tm->LV|none=>.bool false|some t=>sg t.lo.num
def f2:Option Tm->LV|none=>.row []|some t=>mg t.lo.num
def f3:Option Tm->LV|none=>.bool false|some t=>sg (t.lo.den:Int)
def f4:Option Tm->LV|none=>.row []|some t=>mg (t.lo.den:Int)
def f5:Option Tm->LV|none=>.bool false|some t=>sg t.hi.num
def f6:Option Tm->LV|none=>.row []|some t=>mg t.hi.num
def f7:Option Tm->LV|none=>.bool false|some t=>sg (t.hi.den:Int)
def f8:Option Tm->LV|none=>.row []|some t=>mg (t.hi.den:Int)
abbrev fl(o:Option Tm):Fb:=[f0 o,f1 o,f2 o,f3 o,f4 o,f5 o,f6 o,f7 o,f8 o]
abbrev wl(w:Wt):Fb:=[.int .i64 w.c.kind,.int .i64 w.c.i0,.int .i64 w.c.i1,.int .i64 w.c.i2,.int .i64 w.c.i3,pl w.c.p,.int .i64 w.c.want,.bool w.known,.bool w.fails.isSome,f0 w.fails,f1 w.fails,f2 w.fails,f3 w.fails,f4 w.fails,f5 w.fails,f6 w.fails,f7 w.fails,f8 w.fails]
def Dx(l:List Wt):Fc:=l.map λw=>wl w
theorem Tg{l:List Wt}{i:Nat}{w:Wt}(h:l[i]? = some w):(Dx l)[i]? = some (wl w):=Rm h
theorem Pf(l:List Wt):(Dx l).length=l.length:=by simp[Dx]
structure Cr where
 now:Tm
 l:List Wt
 ev:Int
abbrev Tc(c:Cr)(r0 r1:Fc):Fb:=.bool true::pl c.now.p::sg c.now.lo.num::mg c.now.lo.num::sg (c.now.lo.den:Int)::mg (c.now.lo.den:Int)::sg c.now.hi.num::mg c.now.hi.num::sg (c.now.hi.den:Int)::mg (c.now.hi.den:Int)::.row (Dx c.l)::.int .i64 c.ev::[.row r0,.row r1]
structure WtOk(w:Wt):Prop where
 p:Cp w.c.p
 f:∀t,w.fails=some t->Va t
structure CrOk(c:Cr):Prop where
 n:Va c.now
 l:∀w∈c.l,WtOk w
 k:c.l.length<=1000
def nX(a b:Ct):Bool:=decide ([a.kind,a.i0,a.i1,a.i2,a.i3]=[b.kind,b.i0,b.i1,b.i2,b.i3])
def fresh(x:Ct):Wt:=⟨x,false,none⟩
def Lb:List Wt->Ct->Tm->Option Wt
 | [],x,_=>some (fresh x)
 |
  w::l,x,at_=>if nX w.c x=true/\w.known=true/\w.c.p=x.p then
   match w.fails with
   |none=>some ⟨x,true,none⟩
   |some t=>(GE t at_).bind λc=>if 0<c then some ⟨x,true,some t⟩else Lb l x at_
  else Lb l x at_
def Pd(old:List Wt)(at_:Tm):List Ct->Option (List Wt)
 | []=>some []
 |x::l=>(Lb old x at_).bind λw=>(Pd old at_ l).bind λr=>some (w::r)
end Orr
namespace Orr
open Go Go.Proofs Tryz Orq
set_option maxRecDepth 10000
variable{T:Nat}{c:Cr}
theorem XY{r0 r1:Fc}(hc:Va c.now):Ga prog 369 [.one (.ow 0 0)] [.blk T (Tc c r0 r1)] [.agg (ta c.now)] [.blk T (Tc c r0 r1)]:=by
 have cl:=Mi (b:=c.now) (l:=[]) hc.tb (λt ht=>by cases ht) Fl rfl;refine G5 func369 rfl ?_;exact Uz [] [0] [.f rfl,.k cl] rfl
theorem GG{r0 r1:Fc}(hc:CrOk c):Ga prog 360 [.one (.ow 0 0)] [.blk T (Tc c r0 r1)] [.one (.row (Gg (Gu (c.l.map (·.c)))))] [.blk T (Tc c r0 r1)]:=by
 have hk:=hc.k;have hw:=Pf c.l;refine G5 func360 rfl ?_;refine Uv [.o 3 168 7] rfl ?_;refine U0 (S:=Nat) 2 (λL1 i=>(11,.v (.oi i))::(3,.v (.one (.orow 1 7 none)))::L1) (λi=>[.blk T (Tc c r0 r1),.row false 168 7 (Gg ((c.l.map (·.c)).take i))]) (λi=>c.l.length-i) (λi=>i<=c.l.length) 0 (Qg _) rfl rfl λi hi=>?_
 by_cases hlt:i<c.l.length
 ·obtain⟨x,hx⟩:=gxE (l:=c.l) (i:=i) hlt;have hm:∀y∈[Lt x.c],y.length=7:=λy hy=>by rw[Ql.1 hy];rfl
  have hg:(c.l.map (·.c)).take (i+1)=(c.l.map (·.c)).take i++[x.c]:=by
   rw[Xb,Zb,hx];rfl
  have hl:decide ((i:Int)<((Dx c.l).length:Int))=true:=by simp[hw];omega
  obtain⟨xc,xk,xf⟩:=x;cases xf <;> (refine go tt [.t hl,.x (Tg hx),.s (sz:=7) hm] rfl (by simp[Gd,Mx];omega) ?_;exact rd (i+1) Fj hlt (by rw[hg];simp[Gg];rfl))
 ·obtain rfl:i=c.l.length:=Fj;have e:(c.l.map (·.c)).take c.l.length=c.l.map (·.c):=Qo Fp;rw[e];have cs:=SL (l:=c.l.map (·.c)) (λx hx=>by
   obtain⟨w,hw,rfl⟩:=Q8.1 hx;exact Dp.pb (hc.l w hw).p.dp) Fo
  exact Uz [] [0] [.f (by simp[hw]),.k cs] rfl
theorem Qwt{r0 r1:Fc}{x:Ct}{at_:Tm}{w:Wt}(hc:CrOk c)(hx:Cp x.p)(ha:Va at_)(h:Lb c.l x at_=some w):Ga prog 225 [.one (.ow 0 0),.agg (Lt x),.agg (ta at_)] [.blk T (Tc c r0 r1)] [.agg (wl w)] [.blk T (Tc c r0 r1)]:=by
 have hk:=hc.k;have hw:=Pf c.l;refine G5 func225 rfl ?_;refine Uv [] rfl ?_;refine U0 (S:=Nat) 4 (λL1 i=>(14,.v (.oi i))::L1) (λ_=>[.blk T (Tc c r0 r1),.blk 168 (Lt x),.blk 75 (ta at_),.blk 302 [.int .i64 0,.int .i64 0,.int .i64 0,.int .i64 0,.int .i64 0,.nils,.int .i64 0,.bool false,.bool false,.nils,.bool false,.nils,.bool false,.nils,.bool false,.nils,.bool false,.nils]]) (λi=>c.l.length-i) (λi=>i<=c.l.length/\Lb (c.l.drop i) x at_=some w) 0 ⟨Qg _,h⟩ rfl rfl λi ⟨hi,hf⟩=>?_
 by_cases hlt:i<c.l.length
 ·obtain⟨v,hv⟩:=gxE (l:=c.l) (i:=i) hlt;have hdr:c.l.drop i=v::c.l.drop (i+1):=by
   rw[Zq hlt];congr 1;have:=Qf hlt;rw[hv]at this;injection this with this;exact this.symm
  have hvo:=hc.l v (Qa hv);rw[hdr]at hf;simp only[Lb]at hf;have hl:decide ((i:Int)<((Dx c.l).length:Int))=true:=by simp[hw];omega
  by_cases A:nX v.c x=true
  ·have A':(!decide ([v.c.kind,v.c.i0,v.c.i1,v.c.i2,v.c.i3]=[x.kind,x.i0,x.i1,x.i2,x.i3]))=false:=by
    unfold nX at A;rw[A];rfl
   by_cases B:v.known=true
   ·have B':(!v.known)=false:=by rw[B];rfl
    have cs:=CV (p:=v.c.p) (q:=x.p) (Dp.pb hvo.p.dp).ln (Dp.pb hx.dp).ln (Dp.pb hvo.p.dp).bd (Dp.pb hx.dp).bd;rw[hvo.p.t,hx.t]at cs;by_cases C:v.c.p=x.p
    ·have C':(!decide (v.c.p=x.p))=false:=by simp[C]
     rw[if_pos ⟨A,B,C⟩]at hf;obtain⟨vc,vk,vf⟩:=v;cases vf with
     |
      none =>
      injection hf with hf;subst hf;exact Uz [] [0] [.t hl,.x (Tg hv),.g 24 false A',.g 29 false B',.k cs,.f C',.g 41 true rfl,.t rfl] rfl
     |
      some t =>
      obtain⟨r,r1',hf⟩:=Qe.1 hf;have cc:=UH (hvo.f t rfl).tb ha.tb r1';by_cases D:0<r
      ·rw[if_pos D]at hf;injection hf with hf;subst hf;exact Uz [] [0] [.t hl,.x (Tg hv),.g 24 false A',.g 29 false B',.k cs,.f C',.g 41 false rfl,.k cc,.t (by simpa using D)] rfl
      ·rw[if_neg D]at hf;refine Uw [.t hl,.x (Tg hv),.g 24 false A',.g 29 false B',.k cs,.f C',.g 41 false rfl,.k cc,.f (by simpa using D)] rfl ?_;exact rd (i+1) Fj ⟨hlt,hf⟩ rfl
    ·rw[if_neg λh=>C h.2.2]at hf;refine Uw [.t hl,.x (Tg hv),.g 24 false A',.g 29 false B',.k cs,.t (by simp[C])] rfl ?_;exact rd (i+1) Fj ⟨hlt,hf⟩ rfl
   ·rw[if_neg λh=>B h.2.1]at hf;refine Uw [.t hl,.x (Tg hv),.g 24 false A',.g 29 true (by simpa using B),.t rfl] rfl ?_;exact rd (i+1) Fj ⟨hlt,hf⟩ rfl
  ·rw[if_neg λh=>A h.1]at hf;refine Uw [.t hl,.x (Tg hv),.g 24 true (by rw[show decide ([v.c.kind,v.c.i0,v.c.i1,v.c.i2,v.c.i3]=[x.kind,x.i0,x.i1,x.i2,x.i3])=false from Uc.2 A];rfl),.g 29 true rfl,.t rfl] rfl ?_;exact rd (i+1) Fj ⟨hlt,hf⟩ rfl
 ·obtain rfl:i=c.l.length:=Fj;rw[Vh]at hf;simp only[Lb]at hf;injection hf with hf;subst hf;exact Uz [] [0] [.f (by simp[hw])] rfl
theorem YC{old:List Wt}{at_:Tm}:∀{l:List Ct} {ws:List Wt},Pd old at_ l=some ws->ws.length=l.length/\∀(i:Nat) (x:Ct),l[i]? = some x->∃w,Lb old x at_=some w/\ws[i]? = some w
 | [],ws,h=>by injection h with h;subst h;exact⟨rfl,λi x hx=>by simp at hx⟩
 |
  y::l,ws,h=>by
  simp only[Pd]at h;obtain⟨w,hw,h⟩:=Qe.1 h;obtain⟨r,hr,h⟩:=Qe.1 h;injection h with h;subst h;obtain⟨a,b⟩:=YC hr;refine⟨by simp[a],λi x hx=>?_⟩;cases i with
  |zero=>injection hx with hx;subst hx;exact⟨w,hw,rfl⟩
  |succ i=>exact b i x (by simpa using hx)
theorem Ir{l:List Wt}{i:Nat}{w:Wt}(h:l[i]? = some w):Dx (l.take (i+1))=Dx (l.take i)++[wl w]:=by
 rw[Xb,h];simp[Dx]
variable{l:List Ct}{T:Nat}{at_:Tm}{ws:List Wt}
theorem GH{c:Cr}{r0 r1:Fc}(hc:CrOk c)(ha:Va at_)(hl:∀x∈l,Cp x.p)(hn:l.length≤1000)(h:Pd c.l at_ (Gu l)=some ws):Ga prog 159 [.one (.ow 0 0),.agg (ta at_),.one (.bool true),.one (.row (Gg l))] [.blk T (Tc c r0 r1)] [] [.blk T (Tc ⟨at_,ws,c.ev⟩ r0 r1)]:=by
 have cs:=SL (l:=l) (λx hx=>Dp.pb (hl x hx).dp) Fj;have cl:=Mi (b:=at_) (l:=[]) ha.tb (λt ht=>by cases ht) Fl rfl;obtain⟨h1,h2⟩:=YC h;have hs:(Gu l).length=l.length:=Bt l;refine G5 func159 rfl ?_;refine Uv [.o 8 302 18,.k cs] rfl ?_;refine U0 (S:=Nat) 3 (λL1 i=>(15,.v (.oi i))::(8,.v (.one (.orow 2 18 none)))::L1) (λi=>[.blk T (Tc c r0 r1),.blk 75 (ta at_),.row false 302 18 (Dx (ws.take i))]) (λi=>ws.length-i) (λi=>i<=ws.length) 0 (Qg _) rfl rfl λi hi=>?_
 by_cases hlt:i<ws.length
 ·obtain⟨x,hx⟩:=gxE (l:=(Gu l)) (i:=i) Fj;obtain⟨w,hw,hw'⟩:=h2 i x hx;have hm:∀y∈[wl w],y.length=18:=λy hy=>by rw[Ql.1 hy];rfl
  have hlt':decide ((i:Int)<((Gg (Gu l)).length:Int))=true:=by simp[Gg];omega
  have ck:=Qwt (T:=T) (r0:=r0) (r1:=r1) hc (hl x (Ts (Qa hx))) ha hw;have hg:=Ir hw';obtain⟨wc,wk,wf⟩:=w;cases wf <;> (refine go tt [.t hlt',.x (YJ hx),.t rfl,.c [0] ck,.s (sz:=18) hm] rfl (by simp[Gd,Pf];omega) ?_;exact rd (i+1) Fj hlt (by rw[hg];rfl))
 ·obtain rfl:i=ws.length:=Fj;rw[Q6];have hge:decide ((ws.length:Int)<((Gg (Gu l)).length:Int))=false:=by simp[Gg];omega
  exact Uz [] [0] [.f hge,.p 2,.k cl] rfl
abbrev dC(r0 r1:LV):Fb:=[.bool false,.nils,.bool false,.nils,.bool false,.nils,.bool false,.nils,.bool false,.nils,.nils,.int .i64 0,r0,r1]
theorem Qp5{r0 r1:Fc}(ha:Va at_)(hl:∀x∈l,Cp x.p)(hn:l.length≤1000):Ga prog 159 [.one (.ow 0 0),.agg (ta at_),.one (.bool false),.one (.row (Gg l))] [.blk T (dC (.row r0) (.row r1))] [] [.blk T (Tc ⟨at_,(Gu l).map fresh,0⟩ r0 r1)]:=by
 have cs:=SL (l:=l) (λx hx=>Dp.pb (hl x hx).dp) Fj;have cl:=Mi (b:=at_) (l:=[]) ha.tb (λt ht=>by cases ht) Fl rfl;have hs:(Gu l).length=l.length:=Bt l;refine G5 func159 rfl ?_;refine Uv [.o 8 302 18,.k cs] rfl ?_;refine U0 (S:=Nat) 3 (λL1 i=>(15,.v (.oi i))::(8,.v (.one (.orow 2 18 none)))::L1) (λi=>[.blk T (dC (.row r0) (.row r1)),.blk 75 (ta at_),.row false 302 18 (Dx (((Gu l).map fresh).take i))]) (λi=>l.length-i) (λi=>i<=l.length) 0 (Qg _) rfl rfl λi hi=>?_
 by_cases hlt:i<l.length
 ·obtain⟨x,hx⟩:=gxE (l:=(Gu l)) (i:=i) Fj;have hm:∀y∈[wl (fresh x)],y.length=18:=λy hy=>by rw[Ql.1 hy];rfl
  have hlt':decide ((i:Int)<((Gg (Gu l)).length:Int))=true:=by simp[Gg];omega
  have hg:=Ir (l:=(Gu l).map fresh) (i:=i) (w:=fresh x) (by rw[Zb,hx];rfl);refine go tt [.t hlt',.x (YJ hx),.z 20,.f rfl,.s (sz:=18) hm] rfl (by simp[Gd,Pf];omega) ?_;exact rd (i+1) Fj hlt (by rw[hg];rfl)
 ·obtain rfl:i=l.length:=Fj;rw[Qo Fo];have hge:decide ((l.length:Int)<((Gg (Gu l)).length:Int))=false:=by simp[Gg];omega
  exact Uz [] [0] [.f hge,.p 2,.k cl] rfl
theorem KW{r0 r1:Fc}(ha:Va at_)(hl:∀x∈l,Cp x.p)(hn:l.length≤1000):Ga prog 89 [.one (.ow 0 0),.agg (ta at_),.one (.row (Gg l))] [.blk T (dC (.row r0) (.row r1))] [] [.blk T (Tc ⟨at_,(Gu l).map fresh,0⟩ r0 r1)]:=by
 have cl:=Qp5 (T:=T) (r0:=r0) (r1:=r1) ha hl hn;refine G5 func89 rfl ?_;exact Uz [] [0] [.g 12 false rfl,.c [0] cl] rfl
theorem eB{a b:Bool}(h:a=b):TV.one (LV.bool a)=.one (.bool b):=h ▸ rfl
theorem KU{c:Cr}{r0 r1:Fc}{k:Int}(hc:CrOk c)(ha:Va at_)(hk:GE at_ c.now=some k)(h0:0≤k)(hl:∀x∈l,Cp x.p)(hn:l.length≤1000)(h:Pd c.l at_ (Gu l)=some ws):Ga prog 89 [.one (.ow 0 0),.agg (ta at_),.one (.row (Gg l))] [.blk T (Tc c r0 r1)] [] [.blk T (Tc ⟨at_,ws,c.ev⟩ r0 r1)]:=by
 have cl:=GH (T:=T) (r0:=r0) (r1:=r1) hc ha hl hn h;have cc:=UH ha.tb hc.n.tb hk;refine G5 func89 rfl ?_;exact Uz [] [0] [.g 12 true rfl,.k cc,.r 20 (eB (show decide (0<=k)=true by simpa using h0)),.c [0] cl] rfl
theorem DX:∀{k:Nat} {g:U6} {l:U7},Pb g->PE k g=some l->l.length≤k/\∀p∈l,Pb p
 | 0,_,_,_,h=>by cases h
 |
  k+1,g,l,hg,h=>by
  simp only[PE]at h
  split at h
  ·injection h with h;subst h;exact⟨Fp,λp hp=>by cases hp⟩
  ·obtain⟨d,hd,h⟩:=Qe.1 h;obtain⟨rfl,hdp⟩:=OJ hd;obtain⟨x,hx,h⟩:=Qe.1 h;obtain⟨q,hq,h⟩:=Qe.1 h;obtain⟨r,hr,h⟩:=Qe.1 h;injection h with h;subst h;obtain⟨i1,i2⟩:=DX (MW hg hdp hx) hr;refine⟨by simp;exact i1,λp hp=>?_⟩;rcases Qk.1 hp with rfl|hp
   ·exact eO hq
   ·exact i2 p hp
variable{a:U6}
theorem Qiq{l:U7}(ha:Pb a)(h:PE 66 (Gq a)=some l):U3 383 [pr a] [.one (.row (Mp l))]:=by
 have hp:=Sv ha;refine G5 func383 rfl ?_;refine Uv [.o 3 32 1,.k (Ot ha)] rfl ?_;refine U0 (S:=Nat×U7×U6) 1 (λL1 s=>(4,.v (pr s.2.2))::(3,.v (.one (.orow 0 1 none)))::L1) (λs=>[.row false 32 1 (Mp s.2.1)]) (λs=>s.1) (λs=>Pb s.2.2/\s.2.1.length+s.1<=66/\∃m,PE s.1 s.2.2=some m/\s.2.1++m=l) (66,[],Gq a) ⟨hp,Qm _,l,h,rfl⟩ rfl rfl λ⟨k,out,g⟩ ⟨j1,j2,m,j3,j4⟩=>?_
 dsimp only at j1 j2 j3 j4 ⊢;cases k with
 |zero=>cases j3
 |
  succ k =>
  simp only[PE]at j3
  split at j3
  ·rename_i h0;injection j3 with j3;subst j3;rw[Zw]at j4;subst j4;exact Ux [.k (Np _),.f Fo] rfl
  ·rename_i h0;obtain⟨d,hd,j3⟩:=Qe.1 j3;obtain⟨rfl,hdp⟩:=OJ hd;obtain⟨x,hx,j3⟩:=Qe.1 j3;obtain⟨q,hq,j3⟩:=Qe.1 j3;obtain⟨r,hr,j3⟩:=Qe.1 j3;injection j3 with j3;subst j3;have hxp:=MW j1 hdp hx;refine go tt [.k (Np _),.t Fo,.k (QS j1.ln j1.bd),.k (Qam j1 hdp hx),.k (Qi3 j1 hxp hq),.s (sz:=1) (l:=[[pl q]]) (λc hc=>by rw[Ql.1 hc];rfl)] rfl (by simp[Gd,Io];omega) ?_;exact rd (k,out++[q],x) Ft ⟨hxp,Fo,r,hr,by rw[<-j4];simp⟩ (by rw[OU];rfl)
theorem AD:∀{l r:U7},qI l=some r->r.length=l.length/\∀i w,l[i]? = some w->(match l[i+1]? with|some v=>∃f,VS w v=some f/\r[i]? = some f|none=>r[i]? = some w)
 | [],r,h=>by injection h with h;subst h;exact⟨rfl,λi w hw=>by simp at hw⟩
 |
  [w],r,h=>by
  injection h with h;subst h;refine⟨rfl,λi x hx=>?_⟩;cases i with
  |zero=>simpa using hx
  |succ i=>simp at hx
 |
  w::v::l,r,h=>by
  simp only[qI]at h;obtain⟨f,hf,h⟩:=Qe.1 h;obtain⟨s,hs,h⟩:=Qe.1 h;injection h with h;subst h;obtain⟨i1,i2⟩:=AD hs;refine⟨by simp[i1],λi x hx=>?_⟩;cases i with
  |
   zero =>
   injection hx with hx;subst hx;exact⟨f,hf,rfl⟩
  |
   succ i =>
   have:=i2 i x (by simpa using hx);simpa using this
theorem wZ:∀{l r:U7},(∀p∈l,Pb p)->qI l=some r->∀p∈r,Pb p
 | [],r,_,h=>by injection h with h;subst h;exact λp hp=>by cases hp
 | [w],r,hl,h=>by injection h with h;subst h;exact hl
 |
  w::v::l,r,hl,h=>by
  simp only[qI]at h;obtain⟨f,hf,h⟩:=Qe.1 h;obtain⟨s,hs,h⟩:=Qe.1 h;injection h with h;subst h;intro p hp;rcases Qk.1 hp with rfl|hp
  ·exact eO hf
  ·exact wZ (λp hp=>hl p (Qh _ hp)) hs p hp
theorem Qdw{l r:U7}(ha:Pb a)(h:PE 66 (Gq a)=some l)(hr:qI l=some r):U3 378 [pr a] [.one (.row (Mp r))]:=by
 obtain⟨i1,i2⟩:=DX (Sv ha) h;obtain⟨j1,j2⟩:=AD hr;have hw:=Io l;refine G5 func378 rfl ?_;refine go tt [.k (Qiq ha h),.i (Mp l).length,.i (Mp l).length] rfl (by simp[Gd,hw];omega) ?_;rw[hw,I1 λi=>[pl (r.getD i [])]];refine U0 (S:=Nat) 1 (λL1 k=>(14,.v (.oi k))::L1) (λk=>[.row false 32 1 (qS (λi=>[pl (r.getD i [])]) [.nils] l.length k)]) (λk=>l.length-k) (λk=>k<=l.length) 0 (Qg _) rfl rfl λk hk=>?_
 by_cases hlt:k<l.length
 ·obtain⟨w,hx⟩:=gxE (l:=l) (i:=k) hlt;have e:=XM (λi=>[pl (r.getD i [])]) [.nils] hlt;have hg:=j2 k w hx;by_cases h2:k+1<l.length
  ·obtain⟨v,hv⟩:=gxE (l:=l) (i:=k+1) h2;rw[hv]at hg;obtain⟨f,f1,f2⟩:=hg;have e2:r.getD k []=f:=by rw[Qj,f2];rfl
   rw[e2]at e;refine go tt [.t (by simp[hw];omega),.x (Si hx),.i k,.t (by simp[hw];omega),.x (i:=k+1) (Si hv),.k (Qi3 (i2 w (Qa hx)) (i2 v (Qa hv)) f1),.i k] rfl (by simp[Gd,O2,hw];omega) ?_;rw[List.set_set,e];exact rd (k+1) Fj hlt rfl
  ·have hv:l[k+1]? = none:=Qy Fj;rw[hv]at hg;have e2:r.getD k []=w:=by rw[Qj,hg];rfl
   rw[e2]at e;refine go tt [.t (by simp[hw];omega),.x (Si hx),.i k,.f (by simp[hw];omega)] rfl (by simp[Gd,O2,hw];omega) ?_;rw[e];exact rd (k+1) Fj hlt rfl
 ·obtain rfl:k=l.length:=Fj;have e:qS (λi=>[pl (r.getD i [])]) [.nils] l.length l.length=Mp r:=by
   rw[XP,<-j1];refine X4 λi=>?_
   simp only[Mp,Zb];by_cases hi:i<r.length
   ·rw[Jl hi];simp[Qj,Qf hi]
   ·rw[Qy (by simpa using hi),Qy (by simpa using hi)];rfl
  rw[e];exact Ux [.f (by simp[hw])] rfl
theorem aY{p:U6}(tp:Gk p):Gq (Gq p)=Gq p:=by
 by_cases h:p.length=0
 ·have e:Gq p=[]:=by unfold Gq;rw[if_pos h]
  rw[e];rfl
 ·obtain⟨h1,h2,h3,h4,_⟩:=Lj tp h;have hc:Ms (Gq p)=1:=by
   have h5:Ms (Gq p)∣1:=h3 _ λk=>by
    by_cases hk:k<(Gq p).length
    ·rw[Qj,Qf hk];exact Il _ (Jd hk)
    ·rw[Qj,Qy Fj];exact Int.dvd_zero _
   have h6:0<=Ms (Gq p):=by unfold Ms;omega
   exact Int.eq_one_of_dvd_one h6 h5
  have hf:∀q:U6,0<Gz q->Tf q=Ms q:=λq hq=>by unfold Tf;rw[if_neg Fj]
  have hf:=(hf _ h4).trans hc;have e0:∀q:U6,q.length≠0->Gq q=L6 q (Tf q):=λq hq=>by unfold Gq;rw[if_neg hq]
  have e:=e0 (Gq p) Fj;rw[hf]at e;rw[e];unfold L6;have e2:(Gq p).map (· / (1:Int))=Gq p:=by
   conv=>rhs;rw[<-List.map_id (Gq p)]
   exact Xx λz _=>Fp
  rw[e2];exact h1
theorem Qc6(i:Nat):(i:Int).tmod 2=((i % 2:Nat):Int):=rfl
theorem Qw0(ha:Pb a)(h:(Gq a).length=0):U3 374 [pr a] [pr []] :=
 Uy func374 rfl [.k (Ot ha),.t (by simp[Qi h])] rfl
theorem WX:∀{l:U7} {i:Nat} {p o:U6},Pb p->(∀f∈l,Pb f)->RP i p l=some o->Pb o
 | [],i,p,o,hp,_,h=>by simp only[RP]at h;injection h with h;subst h;exact hp
 |
  f::l,i,p,o,hp,hl,h=>by
  simp only[RP]at h
  split at h
  ·obtain⟨q,hq,h⟩:=Qe.1 h;obtain⟨rfl,hq'⟩:=XG (Tp _ _) hq;exact WX hq' (λf hf=>hl f (Qh _ hf)) h
  ·exact WX hp (λf hf=>hl f (Qh _ hf)) h
theorem Qmk:Pb [1]:=⟨rfl,Fl,λz hz=>by rw[Ql.1 hz];decide⟩
theorem Q06{o:U6}(ha:Pb a)(h:aX a=some o):U3 374 [pr a] [pr o]:=by
 unfold aX at h
 split at h
 ·rename_i h0;injection h with h;subst h;exact Qw0 ha h0
 rename_i h0;obtain⟨l,hl,h⟩:=Qe.1 h;obtain⟨fs,hf,h⟩:=Qe.1 h;have hpa:=Sv ha;have hl':PE 66 (Gq (Gq a))=some l:=by rw[aY ha.t];exact hl
 obtain⟨i1,i2⟩:=DX (Sv ha) hl;have i3:=wZ i2 hf;obtain⟨j1,_⟩:=AD hf;have hw:=Io fs;have co:=Qu3 (p:=[1]) Fl (λz hz=>by rw[Ql.1 hz];decide);rw[show trim [1]=[1] from rfl]at co;refine G5 func374 rfl ?_;refine Uv [.k (Ot ha),.f (by simpa using h0),.k co,.k (Qdw hpa hl' hf)] rfl ?_ Fw;refine U0 (S:=Nat×U6) 0 (λL1 s=>(16,.v (.oi (s.1:Int)))::(3,.v (pr s.2))::L1) (λ_=>[]) (λs=>fs.length-s.1) (λs=>s.1<=fs.length/\Pb s.2/\RP s.1 s.2 (fs.drop s.1)=some o) (0,[1]) ⟨Qg _,Qmk,h⟩ rfl rfl λ⟨i,p⟩ ⟨k1,k2,k3⟩=>?_
 dsimp only at k1 k2 k3 ⊢;by_cases hlt:i<fs.length
 ·obtain⟨f,hx⟩:=gxE (l:=fs) (i:=i) hlt;have hdr:fs.drop i=f::fs.drop (i+1):=by
   rw[Zq hlt];congr 1;have:=Qf hlt;rw[hx]at this;injection this with this;exact this.symm
  rw[hdr]at k3;simp only[RP]at k3;have pf:=i3 f (Qa hx);by_cases h2:i % 2=0
  ·rw[if_pos h2]at k3;obtain⟨q,hq,k3⟩:=Qe.1 k3;obtain⟨rfl,hq'⟩:=XG (Tp _ _) hq;refine Uw [.t (by simp[hw];omega),.x (Si hx),.t (by rw[Qc6,h2];rfl),.k (US k2.t pf.t (Xe k2.l Fl) (Xe pf.l Fl) k2.b pf.b Fl)] rfl ?_;exact rd (i+1,Hg p f) Ft ⟨hlt,hq',k3⟩ rfl
  ·rw[if_neg h2]at k3;refine Uw [.t (by simp[hw];omega),.x (Si hx),.f (by rw[Qc6,show i % 2=1 by omega];rfl)] rfl ?_;exact rd (i+1,p) Ft ⟨hlt,k2,k3⟩ rfl
 ·obtain rfl:i=fs.length:=Fj;rw[Vh]at k3;simp only[RP]at k3;injection k3 with k3;subst k3;exact Ux [.f (by simp[hw])] rfl
theorem XB(z:Int):Gl (z.natAbs:Int)=Gl z:=by unfold Gl;simp
theorem Qie{x y:LV}{z:Int}(hi:Hh x y z)(hs:Gl z<=4294967295):U3 379 [.agg [x,y]] [.agg (Rj (z.natAbs:Int))]:=by
 obtain⟨b,l,rfl,rfl,hl,rfl⟩:=hi;have e:(Gi false (val l))=((Gi b (val l)).natAbs:Int):=by rw[So];rfl
 rw[<-e];exact Uy func379 rfl [.k (UT hl (Qc (Nc hs) Fl)),.k (Nk _ _)] rfl
theorem Qq8{n d:Int}(h0:d≠0)(hn:Gl n<=4294967295)(hd:Gl d<=4294967295):U3 380 [.agg (Rj n),.agg (Rj d)] [.agg (rl (Rat.divInt n d)),.oi 0] :=
 Uy func380 rfl [.k (Bl (Fy d) hd),.k Ed,.f (by simpa using h0),.k (Bl (Fy n) hn),.k (YQ h0 hn hd)] rfl
theorem Qfk(l:U6)(z:Int):most (l++[z])=if most l<z.natAbs then z.natAbs else most l:=by unfold most;rw[List.foldl_append];rfl
theorem Qb5{s:Nat}:∀{l:U6},Bd s l->Gl (most l:Int)<=s:=λ{l}=>by
 suffices h:∀(l:U6) (m:Nat),Bd s l->Gl (m:Int)<=s->Gl ((l.foldl (λm z=>if m<z.natAbs then z.natAbs else m) m:Nat):Int)<=s from λhb=>h l 0 hb (by simp[Gl,sz])
 intro l
 induction l with
 |nil=>exact λm _ h=>h
 |
  cons z l ih =>
  intro m hb hm;refine ih _ (λy hy=>hb y (Qh _ hy)) ?_;show Gl ((if m<z.natAbs then z.natAbs else m:Nat):Int)<=s
  split
  ·rw[XB];exact hb z (Qw ..)
  ·exact hm
def ozi:Option Nat->Fb
 |none=>[.bool false,.nils]
 |some m=>Rj (m:Int)
def ozr:Option Nat->Fb
 |none=>[.bool false,.row []]
 |some m=>Rj (m:Int)
theorem Qpy{p:U6}(hp:Pb p)(h0:p.length≠0):U3 375 [pr p] [.agg (rl (H9 p)),.oi 0]:=by
 have hl:=hp.l;have hll:(p.take (p.length-1)).length=p.length-1:=Fp;have hbt:Bd 16777216 (p.take (p.length-1)):=λz hz=>hp.b z (Qn hz)
 refine G5 func375 rfl ?_;refine Uw [.k (Ti hp.t hp.ln hp.bd),.f (by simpa using h0),.r 18 (eI (b:=((p.length-1:Nat):Int)) Fo),.i (p.length-1)] rfl ?_;rw[<-Yf];refine U0 (S:=Nat×Option Nat) 2 (λL1 s=>(21,.v (.oi (s.1:Int)))::L1) (λs=>[.blk 41 [.bool false,.nils,.bool false,.nils],.blk 35 (ozi s.2)]) (λs=>p.length-1-s.1) (λs=>s.1<=p.length-1/\most ((p.take (p.length-1)).take s.1)=s.2.getD 0) (0,none) ⟨Qg _,rfl⟩ rfl rfl λ⟨i,o⟩ ⟨j1,j2⟩=>?_
 dsimp only at j1 j2 ⊢;by_cases hlt:i<p.length-1
 ·obtain⟨z,hz⟩:=gxE (l:=(p.take (p.length-1))) (i:=i) Fj;have bz:Gl z<=16777216:=hbt z (Qa hz);have hst:most ((p.take (p.length-1)).take (i+1))=if o.getD 0<z.natAbs then z.natAbs else o.getD 0:=by
   rw[Xb,hz];show most (_++[z])=_;rw[Qfk,j2]
  have ca:=Qie (Fy z) (Qc bz Fl);have hl1:decide ((i:Int)<(((p.take (p.length-1)).map Rj).length:Int))=true:=Fo;have bm:Gl ((o.getD 0:Nat):Int)<=16777216:=by rw[<-j2];exact Qb5 λy hy=>hbt y (Qn hy)
  have hcm:E5 (z.natAbs:Int) ((o.getD 0:Nat):Int)>0↔o.getD 0<z.natAbs:=by unfold E5;split <;> (try split) <;> omega
  have cc:U3 124 [.agg (Rj (z.natAbs:Int)),.agg (ozr o)] [.oi (E5 (z.natAbs:Int) ((o.getD 0:Nat):Int))]:=by
   cases o with
   |none=>exact SE (Fy _) FQ (by rw[XB];omega) Fl
   |some m=>exact SE (Fy _) (Fy _) (by rw[XB];omega) (Qc bm Fl)
  by_cases hc:o.getD 0<z.natAbs
  ·rw[if_pos hc]at hst;have hd:decide (E5 (z.natAbs:Int) ((o.getD 0:Nat):Int)>0)=true:=by simpa using hcm.2 hc
   cases o <;> (refine Uw [.t hl1,.x (Rm (f:=Rj) hz),.k ca,.k cc,.t hd] rfl ?_;exact rd (i+1,some z.natAbs) Ft ⟨hlt,hst⟩ rfl)
  ·rw[if_neg hc]at hst;have hd:decide (E5 (z.natAbs:Int) ((o.getD 0:Nat):Int)>0)=false:=by
    have:=mt hcm.1 hc;simpa using this
   cases o with
   |none=>refine Uw [.t hl1,.x (Rm (f:=Rj) hz),.k ca,.k cc,.f hd] rfl ?_;exact rd (i+1,none) Ft ⟨hlt,hst⟩ rfl
   |some m=>refine Uw [.t hl1,.x (Rm (f:=Rj) hz),.k ca,.k cc,.f hd] rfl ?_;exact rd (i+1,some m) Ft ⟨hlt,hst⟩ rfl
 ·obtain rfl:i=p.length-1:=Fj;rw[Qo Fj]at j2;have bl:Gl (Gz p)<=16777216:=hp.b _ (IP h0);have ln:((Gz p).natAbs:Int)≠0:=by have:=A4 hp.t h0;omega
  have cl:=En hp.t hp.ln hp.bd;have ca:=Qie (Fy (Gz p)) (Qc bl Fl);have bm:Gl ((o.getD 0:Nat):Int)<=16777216:=by rw[<-j2];exact Qb5 hbt
  have cd:U3 239 [.agg (Rj ((Gz p).natAbs:Int)),.agg (ozr o)] [.agg (Rj (((Gz p).natAbs:Int)+(most (p.take (p.length-1)):Int)))]:=by
   rw[j2];cases o with
   |none=>exact UP (Fy _) FQ (by rw[XB];omega) Fl
   |some m=>exact UP (Fy _) (Fy _) (by rw[XB];omega) (Qc bm Fl)
  have cm:=Qq8 (n:=((Gz p).natAbs:Int)+(most (p.take (p.length-1)):Int)) ln (Qc (XC _ _) (by rw[XB,j2];omega)) (by rw[XB];omega);have hf:decide (((p.length-1:Nat):Int)<(((p.take (p.length-1)).map Rj).length:Int))=false:=Fp;cases o <;> exact Ux [.f hf,.k cl,.k ca,.k cd,.k cm] rfl
theorem Qu4{z:Int}:U3 358 [.agg (Rj z)] [.oi (Int.sign z)]:=by
 by_cases h0:z=0
 ·subst h0;exact Uy func358 rfl [.t (by simp[Gb,Rr])] rfl
 ·have hl:(He z.natAbs).length≠0:=λh=>h0 (Qff.1 h)
  have hl':decide (((lm (He z.natAbs)).length:Int)=0)=false:=by simpa[Gb]using hl
  by_cases h1:z<0
  ·rw[Yp h1];exact Uy func358 rfl [.f hl',.t (by simpa using h1)] rfl
  ·rw[Vi Fj];exact Uy func358 rfl [.f hl',.f (by simpa using h1)] rfl
variable{p:U6}
theorem Qhd(hp:Pb p):U3 385 [pr p] [.oi (JC p),.oi (HG p)]:=by
 have hb:-1<=(Gz p).sign/\(Gz p).sign<=1:=by rcases Oi (Gz p)with h|h|h <;> omega
 by_cases h:p.length % 2=0
 ·have e:JC p=-(Gz p).sign:=by unfold JC;rw[if_pos h]
  rw[e];exact Uy func385 rfl [.k (Ti hp.t hp.ln hp.bd),.k (En hp.t hp.ln hp.bd),.k Qu4,.t (by rw[Qc6];simp[h])] rfl rfl (by simp[Gd,Gz]at hb ⊢;omega)
 ·have e:JC p=(Gz p).sign:=by unfold JC;rw[if_neg h]
  rw[e];exact Uy func385 rfl [.k (Ti hp.t hp.ln hp.bd),.k (En hp.t hp.ln hp.bd),.k Qu4,.f (by rw[Qc6];simp;omega)] rfl rfl Fw
theorem Qis(hp:Pb p):U3 384 [pr p] [.oi (JC p)]:=Uy func384 rfl [.k (Qhd hp)] rfl
theorem Qq5(hp:Pb p):U3 386 [pr p] [.oi (HG p)]:=Uy func386 rfl [.k (Qhd hp)] rfl
theorem Qi4{q:Rat}(hq:Qs 4294967295 q):U3 117 [.agg (rl q)] [.agg (rl (-q))]:=by
 exact Uy func117 rfl [.k (EM hq),.k (EQ (Fy _) hq.1)] rfl
variable{l:U7}
theorem rL{fid:Nat}{sg:U6->Int}(hl:l.length≤1000)(hs:∀p,-1≤sg p/\sg p≤1)(h:∀p∈l,qM prog fid [pr p] [.oi (sg p)]):U3 296 [.one (.sh [.row (Mp l)]),.one (.fn fid [] [])] [.oi (Lp sg l:Nat)]:=by
 have Dz:=Io l;refine G5 func296 rfl ?_;refine Uv [] rfl ?_;refine U0 (S:=Nat) 0 (λL1 i=>(15,.v (.oi i))::(5,.v (.oi ((WE sg l i).1:Int)))::(6,.v (.one (.int .i64 (WE sg l i).2)))::L1) (λ_=>[]) (λi=>l.length-i) (λi=>i<=l.length) 0 (Qg _) rfl rfl λi hi=>?_
 by_cases hlt:i<l.length
 ·obtain⟨p,hp⟩:=gxE (l:=l) (i:=i) hlt;have hst:WE sg l (i+1)=Na sg (WE sg l i) p:=Px _ _ _ hp;obtain⟨b1,b2,b3⟩:=fG hs l i;have b4:=hs p;by_cases h0:sg p=0
  ·refine Uw [.t (by simp[Dz];omega),.x (Si hp),.k (h p (Qa hp)),.t (by simpa using h0)] rfl ?_;exact rd (i+1) Fj hlt (by rw[hst,show Na sg (WE sg l i) p=WE sg l i from by unfold Na;rw[if_pos h0]];rfl)
  ·by_cases h1:(WE sg l i).2=-(sg p)
   ·refine Uw [.t (by simp[Dz];omega),.x (Si hp),.k (h p (Qa hp)),.f (by simpa using h0),.t (by simpa using h1)] rfl ?_;exact rd (i+1) Fj hlt (by rw[hst,show Na sg (WE sg l i) p=((WE sg l i).1+1,sg p) from by unfold Na;rw[if_neg h0,if_pos h1]];rfl)
   ·refine Uw [.t (by simp[Dz];omega),.x (Si hp),.k (h p (Qa hp)),.f (by simpa using h0),.f (by simpa using h1)] rfl ?_;exact rd (i+1) Fj hlt (by rw[hst,show Na sg (WE sg l i) p=((WE sg l i).1,sg p) from by unfold Na;rw[if_neg h0,if_neg h1]];rfl)
 ·obtain rfl:i=l.length:=Fj;refine Ux [.f (by simp[Dz])] rfl ?_ trivial;unfold WE Lp;rw[List.take_length]
theorem PH(p:U6):(-1<=JC p/\JC p<=1)/\-1<=HG p/\HG p<=1:=by
 have hb:-1<=(Gz p).sign/\(Gz p).sign<=1:=by rcases Oi (Gz p)with h|h|h <;> omega
 unfold JC HG
 split <;> omega
theorem Qp0(hl:l.length≤1000)(hp:∀p∈l,Pb p):U3 377 [.one (.sh [.row (Mp l)])] [.oi (FN l)]:=by
 have c1:U3 381 [.one (.sh [.row (Mp l)])] [.oi (Lp JC l:Nat)] :=
  Uy func381 rfl [.k (rL hl (λp=>(PH p).1) λp h=>Qis (hp p h))] rfl
 have c2:U3 382 [.one (.sh [.row (Mp l)])] [.oi (Lp HG l:Nat)] :=
  Uy func382 rfl [.k (rL hl (λp=>(PH p).2) λp h=>Qq5 (hp p h))] rfl
 have b1:Lp JC l<=l.length:=Am (λp=>(PH p).1) l;have b2:Lp HG l<=l.length:=Am (λp=>(PH p).2) l;exact Uy func377 rfl [.k c1,.k c2] rfl rfl Fu
theorem cV{lo hi:Rat}(hl:l.length<=1000):-1000<=Pg l lo hi/\Pg l lo hi<=1000:=by
 have b1:Lq l lo<=l.length:=Am (λp=>ZM p lo) l;have b2:Lq l hi<=l.length:=Am (λp=>ZM p hi) l;unfold Pg;split <;> omega
abbrev tal(l:List Tm):Fc:=l.map λt=>ta t
theorem DN{p:U6}{c:U7}(hp:Pb p):∀{k:Nat} {lo hi:Rat} {n:Int} {r:List Tm},Qb lo->Qb hi->O8 p c k lo hi n=some r->∀t∈r,Tb t
 | 0,_,_,_,_,_,_,h=>by cases h
 |
  k+1,lo,hi,n,r,hl,hh,h=>by
  simp only[O8]at h
  split at h
  ·injection h with h;subst h;exact λt ht=>by cases ht
  ·split at h
   ·injection h with h;subst h;intro t ht;rw[Ql.1 ht];exact⟨hp,hl,hh⟩
   ·obtain⟨m,hm,h⟩:=Qe.1 h;obtain⟨rfl,qm⟩:=ED hm;obtain⟨x,hx,h⟩:=Qe.1 h;obtain⟨y,hy,h⟩:=Qe.1 h;injection h with h;subst h;intro t ht;rcases Qp.1 ht with ht|ht
    ·exact DN hp hl qm hx t ht
    ·exact DN hp qm hh hy t ht
theorem Qz1(l:List Tm):∀c∈tal l,c.length=9:=λc hc=>by obtain⟨t,_,rfl⟩:=Q8.1 hc;rfl
theorem dR{p:U6}{c:U7}(hp:Pb p)(hcl:c.length≤1000)(hc:∀q∈c,Pb q):∀{k:Nat} {lo hi:Rat} {n:Int} {r:List Tm},Qb lo->Qb hi->k≤100000->-(1000*(100001-k:Nat))≤n/\n≤1000*(100001-k:Nat)->O8 p c k lo hi n=some r->r.length≤1000000->Ga prog 376 [pr p,.one (.sh [.row (Mp c)]),.agg (rl lo),.agg (rl hi),.oi n] [] [.one (.orow 0 9 none)] [.row false 75 9 (tal r)]
 | 0,_,_,_,_,_,_,_,_,h,_=>by cases h
 |
  k+1,lo,hi,n,r,hl,hh,hk,hn,h,hr=>by
  simp only[O8]at h
  split at h
  ·rename_i h0;injection h with h;subst h;refine G5 func376 rfl ?_;exact Uz [] [2] [.t (by simpa using h0),.o 10 75 9] rfl
  ·rename_i h0
   split at h
   ·rename_i h1;injection h with h;subst h;refine G5 func376 rfl ?_;exact Uz [] [2] [.f (by simpa using h0),.t (by simpa using h1),.k (Ti hp.t hp.ln hp.bd),.k (Cx hl.s32),.k (Cx hh.s32),.lo] rfl
   ·rename_i h1;obtain⟨m,hm,h⟩:=Qe.1 h;obtain⟨rfl,qm⟩:=ED hm;obtain⟨x,hx,h⟩:=Qe.1 h;obtain⟨y,hy,h⟩:=Qe.1 h;injection h with h;subst h;have hb:=cV (l:=c) (lo:=lo) (hi:=mid lo hi) hcl;rw[Qu]at hr;have c1:=dR hp hcl hc hl qm Fj Fj hx Fj;have c2:=dR hp hcl hc qm hh Fj Fj hy Fj;rw[show tal (x++y)=tal x++tal y from J7];refine G5 func376 rfl ?_;exact Uz [] [3] [.f (by simpa using h0),.f (by simpa using h1),.k (Qu1 hl hh),.k (zH hcl hc hl qm),.c [3] c1,.c [4] c2,.s (Qz1 y)] rfl Fu
theorem Qqf{p:U6}{r:List Tm}(hp:Pb p)(h:BK p=some r)(hr:r.length<=1000000):U3 373 [pr p] [.one (tas r),.oi 0]:=by
 unfold BK at h;obtain⟨c,h1,h⟩:=Qe.1 h;obtain⟨q,h2,h⟩:=Qe.1 h;obtain⟨b,h3,h⟩:=Qe.1 h;obtain⟨rfl,hb⟩:=ED h3;obtain⟨k1,k2⟩:=chain_ok hp h1;have hq:=MK hp h2;have q0:q.length≠0:=by
  unfold Lu at h1;obtain⟨a,a1,h1⟩:=Qe.1 h1;rw[h2]at a1;injection a1 with a1;subst a1
  split at h1
  ·cases h1
  ·assumption
 have qn:Qb (-H9 q):=⟨by rw[Rat.neg_num,Te];exact hb.1,by rw[Rat.neg_den];exact hb.2⟩;have bb1:Lp JC c<=c.length:=Am (λp=>(PH p).1) c;have bb2:Lp HG c<=c.length:=Am (λp=>(PH p).2) c;have hn:-(1000*(100001-100000:Nat):Int)<=FN c/\FN c<=1000*(100001-100000:Nat):=by unfold FN;omega
 have cr:=dR hq Fj k2 qn hb (Qm _) hn h hr;refine G5 func373 rfl ?_;exact Uz [1] [] [.k (Qh4 hp h1),.f rfl,.k (EK hp h2),.k (Qpy hq q0),.k (Qi4 hb.s32),.k (Qp0 Fj k2),.c [1] cr] rfl
def Fx(l:List Pt):Fc:=l.map Ge
variable{l:List Pt}
theorem Hf{i:Nat}{c:Pt}(h:l[i]? = some c):(Fx l)[i]? = some (Ge c):=Rm h
theorem Ha(l:List Pt):(Fx l).length=l.length:=by simp[Fx]
theorem JZ(l:List Pt):∀c∈Fx l,c.length=5:=λc hc=>by
 obtain⟨x,_,rfl⟩:=Q8.1 hc;rfl
abbrev gU:Fb:=[.nils,.nils,.bool false,.nils,.int .i64 0]
theorem CO{lt:Pt->Pt->Bool}{O:List Pt}{z:Fb}{c:Pt}{k m:Nat}{l2:Fc}(hk:k<=O.length)(hp:Li lt O c O.length=k)(hm:m=O.length-k)(h2:l2.take m=((Fx O++[z]).drop k).take m) :
 ((Fx O++[z]).take (k+1)++(l2.take m++(Fx O++[z]).drop (k+1+m))).set k (Ge c)=Fx (E8 lt O c):=by
 rw[h2,<-Za,sM (Fx O) z (Ge c) (by rw[Ha];omega) (by rw[Ha];omega)];simp[E8,hp,Fx,Yf,Vd]
def Ra(t:Tm)(l:List Pt):List Pt:=Nq (H8 (Gm t)) l
theorem rT{t:Tm}(hl:∀p∈l,Sc p.c)(hn:l.length≤1000000)(ht:Va t):U3 161 [.agg (ta t),.one (pts l)] [.one (pts (Ra t l))]:=by
 have hcl:=Ha l;show U3 161 [.agg (ta t),.one (.row (Fx l))] [.one (.row (Fx (Ra t l)))];obtain⟨lt,hlt0⟩:=nmE (H8 (Gm t));unfold Ra;rw[<-hlt0];refine G5 func161 rfl ?_;refine Uv [.o 5 39 5] rfl ?_;refine U0 (S:=Nat) 2 (λL1 i=>(11,.v (.oi i))::(5,.v (.one (.orow 1 5 none)))::L1) (λi=>[.blk 75 (ta t),.row false 39 5 (Fx (Nq lt (l.take i)))]) (λi=>l.length-i) (λi=>i<=l.length) 0 (Qg _) rfl rfl λi hi=>?_
 by_cases hlt:i<l.length
 ·obtain⟨c,hc⟩:=gxE (l:=l) (i:=i) hlt;have hst:Nq lt (l.take (i+1))=E8 lt (Nq lt (l.take i)) c:=qX hc;have hcp:=hl c (Qa hc);obtain⟨O,hO⟩:=nmE (Nq lt (l.take i));have hOl:O.length=i:=by rw[hO,MD,Qq];omega
  have hOm:∀x∈O,Sc x.c:=λx hx=>by rw[hO,yI]at hx;exact hl x (Qn hx)
  rw[<-hO]at hst ⊢;refine Uv [.t (by simp[hcl];omega),.x (Hf hc)] rfl ?_;refine U0 (S:=Nat) 3 (λL1 k=>(8,.v (.oi k))::L1) (λk=>[.blk 75 (ta t),.row false 39 5 (Fx O),.blk 39 (Ge c)]) id (λk=>k<=O.length/\Li lt O c k=Li lt O c O.length) (Fx O).length ⟨by rw[Ha];exact Qm _,by rw[Ha]⟩ rfl rfl λk ⟨hk,hp⟩=>?_
  have hz:∀y∈[gU],y.length=5:=λy hy=>by rw[Ql.1 hy];rfl
  have h77:∀y∈Fx O++[gU],y.length=5:=λy hy=>by
   rcases Qp.1 hy with hy|hy
   ·exact JZ O y hy
   ·exact hz y hy
  cases k with
  |
   zero =>
   have hp:Li lt O c O.length=0:=by rw[<-hp];rfl
   refine go tt [.g 19 false Fp,.f rfl,.s (sz:=5) hz,.r 37 (eI (b:=((0+1:Nat):Int)) Fp),.i (0+1),.i (0),.s (sz:=5) (λy hy=>h77 y (Qn hy)),.i (O.length),.i (0)] rfl (by simp[Gd,Ha];omega) ?_;exact rd (i+1) Fj hlt (by rw[hst,<-CO (z:=gU) (l2:=(Fx O++[gU]).take ((Fx O++[gU]).length-0)) (k:=0) (m:=O.length) Fj hp Fj (by congr 1;exact Qo Fp)];rfl)
  |
   succ k =>
   obtain⟨x,hx⟩:=gxE (l:=O) (i:=k) Fj;have cb:=Iu hcp (hOm x (Qa hx)) ht;rw[<-hlt0]at cb;by_cases hlc:lt c x=true
   ·refine go tt [.g 19 true Fp,.r 23 (eI (b:=(k:Int)) Fp),.i k,.x (Hf hx),.k cb,.t hlc,.r 30 (eI (b:=(k:Int)) Fp)] rfl (by simp[Gd,Ha];omega) ?_;exact rd k Fp ⟨Fj,by rw[<-hp,uR hx hlc]⟩ rfl
   ·have hlc:lt c x=false:=by simpa using hlc
    have hp:Li lt O c O.length=k+1:=by rw[<-hp,OR hx hlc]
    refine go tt [.g 19 true Fp,.r 23 (eI (b:=(k:Int)) Fp),.i k,.x (Hf hx),.k cb,.f hlc,.s (sz:=5) hz,.r 37 (eI (b:=((k+1+1:Nat):Int)) Fp),.i (k+1+1),.i (k+1),.s (sz:=5) (λy hy=>h77 y (Qx (Qn hy))),.i (O.length-(k+1)),.i (k+1)] rfl (by simp[Gd,Ha];omega) ?_;exact rd (i+1) Fj hlt (by rw[hst,<-CO (z:=gU) (l2:=((Fx O++[gU]).drop (k+1)).take ((Fx O++[gU]).length-(k+1))) (k:=k+1) (m:=O.length-(k+1)) Fj hp Fj (by congr 1;exact Qo Fp)];rfl)
 ·obtain rfl:i=l.length:=Fj;rw[Q6];exact Ux [.f (by simp[hcl])] rfl
def Mb(sg:U6->Int):List Pt->List Ct
 |a::b::l=>XI sg a b::Mb sg (b::l)
 |_=>[]
theorem Ds(sg:U6->Int):∀l:List Pt,(Mb sg l).length=l.length-1
 | []=>rfl
 | [_]=>rfl
 |a::b::l=>by simp only[Mb,Q5,Ds sg (b::l)];omega
theorem MP(sg:U6->Int):∀{l:List Pt} {i:Nat} {a b:Pt},l[i]? = some a->l[i+1]? = some b->(Mb sg l).take (i+1)=(Mb sg l).take i++[XI sg a b]
 | [],i,a,b,h,_=>by simp at h
 | [x],i,a,b,_,h=>by cases i <;> simp at h
 |x::y::l,0,a,b,h1,h2=>by simp at h1 h2;subst h1;subst h2;simp[Mb]
 |
  x::y::l,i+1,a,b,h1,h2=>by
  have ih:=MP sg (l:=y::l) (i:=i) (a:=a) (b:=b) (by simpa using h1) (by simpa using h2);simp only[Mb,Vy]at ih ⊢;rw[ih];rfl
theorem EV{t:Tm}(hl:∀p∈l,Sc p.c)(hn:l.length≤1000000)(ht:Va t):U3 163 [.agg (ta t),.one (pts l)] [.one (.row (Gg (Mb (Gm t) l)))]:=by
 have hcl:=Ha l;show U3 163 [.agg (ta t),.one (.row (Fx l))] [.one (.row (Gg (Mb (Gm t) l)))];refine G5 func163 rfl ?_;refine Uv [.o 5 168 7] rfl ?_;refine U0 (S:=Nat) 2 (λL1 i=>(6,.v (.oi ((i+1:Nat):Int)))::(5,.v (.one (.orow 1 7 none)))::L1) (λi=>[.blk 75 (ta t),.row false 168 7 (Gg ((Mb (Gm t) l).take i))]) (λi=>l.length-i) (λi=>i<=l.length-1) 0 (Qg _) rfl rfl λi hi=>?_
 by_cases hlt:i+1<l.length
 ·obtain⟨a,ha⟩:=gxE (l:=l) (i:=i) Fj;obtain⟨b,hb⟩:=gxE (l:=l) (i:=i+1) hlt;have hg:=MP (Gm t) ha hb;have hm:∀y∈[Lt (XI (Gm t) a b)],y.length=7:=λy hy=>by rw[Ql.1 hy];rfl
  refine go tt [.t (by simp[hcl];omega),.r 19 (eI (b:=(i:Int)) Fp),.x (Hf ha),.x (Hf hb),.k (oR (hl a (Qa ha)) (hl b (Qa hb)) ht),.s (sz:=7) hm,.r 14 (eI (b:=((i+1+1:Nat):Int)) Fp)] rfl (by simp[Gd,Ha,Mx,Ds];omega) ?_;exact rd (i+1) Fj Fj (by rw[hg];simp[Gg];rfl)
 ·have e:(Mb (Gm t) l).take i=Mb (Gm t) l:=Qo (by rw[Ds];omega);rw[e];exact Ux [.f (by simp[hcl];omega)] rfl
theorem Qqh:U3 202 [pr []] [.one .nilp,.oi 2]:=by
 have h:M4 []=some []:=rfl;exact Uy func202 rfl [.k (EK MV h),.t rfl] rfl
theorem Qh2:U3 373 [pr []] [.one (.row []),.oi 2] :=
 Uy func373 rfl [.k Qqh,.t rfl] rfl
theorem Qy6{a o:U6}(ha:Pb a)(h:aX a=some o):Pb o:=by
 unfold aX at h
 split at h
 ·injection h with h;subst h;exact MV
 ·obtain⟨l,hl,h⟩:=Qe.1 h;obtain⟨fs,hf,h⟩:=Qe.1 h;exact WX Qmk (wZ (DX (Sv ha) hl).2 hf) h
variable{l:List Tm}
theorem Qhf{p:U6}(hp:Pb p)(h:GQ p=some l)(hl:l.length<=1000000):U3 372 [pr p] [.one (tas l)]:=by
 unfold GQ at h;obtain⟨q,hq,h⟩:=Qe.1 h;have qp:=Qy6 hp hq;have co:=Q06 hp hq
 split at h
 ·rename_i h0;injection h with h;subst h;obtain rfl:=Qi h0;exact Uy func372 rfl [.k co,.k Qh2,.t rfl] rfl
 ·exact Uy func372 rfl [.k co,.k (Qqf qp h hl),.f rfl] rfl
def ota:Option Tm->Fb
 |none=>zTr
 |some t=>ta t
theorem Qp3{p:U6}{a:Tm}{r:Option Tm}(hp:Pb p)(ha:Tb a)(h:GQ p=some l)(hl:l.length≤1000000)(ht:∀t∈l,Tb t)(hr:UZ a l=some r):U3 371 [pr p,.agg (ta a)] [.agg (ota r),.one (.bool r.isSome)]:=by
 have hll:(l.map λt=>ta t).length=l.length:=Fp;refine G5 func371 rfl ?_;refine Uv [.k (Qhf hp h hl)] rfl ?_;refine U0 (S:=Nat) 2 (λL1 i=>(11,.v (.oi i))::L1) (λ_=>[.blk 75 (ta a),.blk 75 zTm]) (λi=>l.length-i) (λi=>i<=l.length/\UZ a (l.drop i)=some r) 0 ⟨Qg _,hr⟩ rfl rfl λi ⟨hi,hf⟩=>?_
 by_cases hlt:i<l.length
 ·obtain⟨t,hx⟩:=gxE (l:=l) (i:=i) hlt;have hdr:l.drop i=t::l.drop (i+1):=by
   rw[Zq hlt];congr 1;have:=Qf hlt;rw[hx]at this;injection this with this;exact this.symm
  rw[hdr]at hf;simp only[UZ]at hf;obtain⟨c,c1,hf⟩:=Qe.1 hf;have cc:=UH (ht t (Qa hx)) ha c1;by_cases hc:0<c
  ·rw[if_pos hc]at hf;injection hf with hf;subst hf;exact Ux [.t Fo,.x (LJ hx),.k cc,.t (by simpa using hc)] rfl
  ·rw[if_neg hc]at hf;refine Uw [.t Fo,.x (LJ hx),.k cc,.f (by simpa using hc)] rfl ?_;exact rd (i+1) Fj ⟨hlt,hf⟩ rfl
 ·obtain rfl:i=l.length:=Fj;rw[Vh]at hf;simp only[UZ]at hf;injection hf with hf;subst hf;exact Ux [.f Fp] rfl
def ZX(now:Tm):List Wt->Option (List Wt)
 | []=>some []
 |w::l=>(if w.known=true then some w else(BZ w.c.p now).bind λr=>some ⟨w.c,true,r⟩).bind λw'=>(ZX now l).bind λr=>some (w'::r)
theorem KO{now:Tm}:∀{l ws:List Wt},ZX now l=some ws->ws.length=l.length/\∀(i:Nat) (w:Wt),l[i]? = some w->∃v,ws[i]? = some v/\(w.known=true/\v=w\/w.known=false/\∃r,BZ w.c.p now=some r/\v=⟨w.c,true,r⟩)
 | [],ws,h=>by injection h with h;subst h;exact⟨rfl,λi x hx=>by simp at hx⟩
 |
  y::l,ws,h=>by
  simp only[ZX]at h;obtain⟨v,hv,h⟩:=Qe.1 h;obtain⟨r,hr,h⟩:=Qe.1 h;injection h with h;subst h;obtain⟨a,b⟩:=KO hr;refine⟨by simp[a],λi x hx=>?_⟩;cases i with
  |
   zero =>
   injection hx with hx;subst hx;refine⟨v,rfl,?_⟩
   split at hv
   ·rename_i hk;injection hv with hv;exact .inl ⟨hk,hv.symm⟩
   ·rename_i hk;obtain⟨q,hq,hv⟩:=Qe.1 hv;injection hv with hv;exact .inr ⟨by simpa using hk,q,hq,hv.symm⟩
  |succ i=>exact b i x (by simpa using hx)
variable{r:Option Tm}
theorem rU{p:U6}{a:Tm}(hp:Cp p)(ha:Va a)(h:BZ p a=some r):U3 371 [pr p,.agg (ta a)] [.agg (ota r),.one (.bool r.isSome)]:=by
 obtain⟨l,l1,l2,l3,_⟩:=VO hp;unfold BZ at h;rw[l1]at h;exact Qp3 (Dp.pb hp.dp) ha.tb l1 Fj (λt ht=>(l3 t ht).tb) h
variable{T:Nat}{c:Cr}{ws:List Wt}
theorem Qp6{r0 r1:Fc}(hc:CrOk c)(h:ZX c.now c.l=some ws):Ga prog 364 [.one (.ow 0 0)] [.blk T (Tc c r0 r1)] [] [.blk T (Tc { c with l:=ws } r0 r1)]:=by
 have hk:=hc.k;have hw:=Pf c.l;obtain⟨h1,h2⟩:=KO h;refine G5 func364 rfl ?_;refine Uv [.o 2 302 18,.c [0] (XY hc.n)] rfl ?_;refine U0 (S:=Nat) 3 (λL1 i=>(13,.v (.oi i))::(2,.v (.one (.orow 1 18 none)))::L1) (λi=>[.blk T (Tc c r0 r1),.row false 302 18 (Dx (ws.take i)),.blk 75 (ta c.now)]) (λi=>c.l.length-i) (λi=>i<=c.l.length) 0 (Qg _) rfl rfl λi hi=>?_
 by_cases hlt:i<c.l.length
 ·obtain⟨w,hx⟩:=gxE (l:=c.l) (i:=i) hlt;obtain⟨v,hv,h3⟩:=h2 i w hx;have hm:∀y∈[wl v],y.length=18:=λy hy=>by rw[Ql.1 hy];rfl
  have hg:=Ir hv;have hl:decide ((i:Int)<((Dx c.l).length:Int))=true:=by simp[hw];omega
  rcases h3 with⟨k1,rfl⟩|⟨k1,r,k2,rfl⟩
  ·obtain⟨vc,vk,vf⟩:=v;cases vf <;> (refine go tt [.t hl,.x (Tg hx),.f (by rw[show vk=true from k1];rfl),.s (sz:=18) hm] rfl (by simp[Gd,Pf];omega) ?_;exact rd (i+1) Fj hlt (by rw[hg];rfl))
  ·have cg:=rU (hc.l w (Qa hx)).p hc.n k2;obtain⟨wc,wk,wf⟩:=w;cases r <;> cases wf <;> (refine go tt [.t hl,.x (Tg hx),.t (by rw[show wk=false from k1];rfl),.k cg,.s (sz:=18) hm] rfl (by simp[Gd,Pf];omega) ?_;exact rd (i+1) Fj hlt (by rw[hg];rfl))
 ·obtain rfl:i=c.l.length:=Fj;rw[<-h1,Q6];exact Uz [1] [0] [.f (by simp[hw,h1])] rfl
def zY(ws:List Wt):Option (Option Tm):=match ws.filterMap (·.fails)with
 | []=>some none
 |b::l=>(XD b l).map some
theorem A5(hc:CrOk c)(h:ZX c.now c.l=some ws):CrOk { c with l:=ws }:=by
 obtain⟨h1,h2⟩:=KO h;refine⟨hc.n,λv hv=>?_,by show ws.length<=1000;rw[h1];exact hc.k⟩;obtain⟨i,hi⟩:=Zx hv;have hil:i<c.l.length:=by rw[<-h1];exact(Qd.1 hi).1
 obtain⟨v',h3,h4⟩:=h2 i _ (Qf hil);rw[hi]at h3;injection h3 with h3;subst h3;have hw:=hc.l _ (Jd hil);rcases h4 with⟨_,rfl⟩|⟨_,r,k2,rfl⟩
 ·exact hw
 ·obtain⟨r',r1,r2⟩:=Ql5 hw.p hc.n;rw[k2]at r1;injection r1 with r1;subst r1;refine⟨hw.p,λt ht=>?_⟩;have ht:r=some t:=ht;subst ht;exact r2.2.1
theorem CY{r0 r1:Fc}(hc:CrOk c)(h:ZX c.now c.l=some ws)(hr:zY ws=some r):Ga prog 370 [.one (.ow 0 0)] [.blk T (Tc c r0 r1)] [.agg (ota r),.one (.bool r.isSome)] [.blk T (Tc { c with l:=ws } r0 r1)]:=by
 have hcl:=Qp6 (T:=T) (r0:=r0) (r1:=r1) hc h;have hc':=A5 hc h;have hk:=hc'.k;have hw:=Pf ws;have hvb:∀t∈ws.filterMap (·.fails),Tb t:=λt ht=>by
  obtain⟨w,w1,w2⟩:=J0.1 ht;exact((hc'.l w w1).f t w2).tb
 refine G5 func370 rfl ?_;refine Uv [.c [0] hcl,.o 4 75 9] rfl ?_;refine U0 (S:=Nat) 3 (λL1 i=>(14,.v (.oi i))::(4,.v (.one (.orow 2 9 none)))::L1) (λi=>[.blk T (Tc { c with l:=ws } r0 r1),.blk 75 zTm,.row false 75 9 (tal ((ws.take i).filterMap (·.fails)))]) (λi=>ws.length-i) (λi=>i<=ws.length) 0 (Qg _) rfl rfl λi hi=>?_
 by_cases hlt:i<ws.length
 ·obtain⟨w,hx⟩:=gxE (l:=ws) (i:=i) hlt;have hl:decide ((i:Int)<((Dx ws).length:Int))=true:=by simp[hw];omega
  have hfl:((ws.take i).filterMap (·.fails)).length<=i:=Qc (Vw _ _) (by rw[Qq];omega);have hg:(ws.take (i+1)).filterMap (·.fails)=(ws.take i).filterMap (·.fails)++(match w.fails with|none=>[]|some t=>[t]):=by
   rw[Xb,hx,List.filterMap_append];show _++List.filterMap (·.fails) [w]=_;cases hwf:w.fails <;> simp[hwf]
  obtain⟨wc,wk,wf⟩:=w;have hk:ws.length<=1000:=hk;cases wf with
  |
   none =>
   refine Uw [.t hl,.x (Tg hx),.f rfl] rfl ?_;exact rd (i+1) Fj hlt (by rw[hg];simp;rfl)
  |
   some t =>
   refine Uw [.t hl,.x (Tg hx),.t rfl,.s (l:=[ta t]) (sz:=9) (λc hc=>by rw[Ql.1 hc];rfl)] rfl ?_;exact rd (i+1) Fj hlt (by rw[hg];simp[tal];rfl)
 ·obtain rfl:i=ws.length:=Fj;rw[Q6];have hf:decide ((ws.length:Int)<((Dx ws).length:Int))=false:=by simp[hw]
  have hln:(ws.filterMap (·.fails)).length<=1000:=Qc (Vw _ _) hk;unfold zY at hr;cases hfm:ws.filterMap (·.fails)with
  |
   nil =>
   rw[hfm]at hr;injection hr with hr;subst hr;exact Uz [] [0] [.f hf,.p 2,.k rG] rfl
  |
   cons b l =>
   rw[hfm]at hr hvb hln;obtain⟨m,m1,rfl⟩:=Vl.1 hr;have cl:=Mi (hvb b (Qw ..)) (λt ht=>hvb t (Qh _ ht)) (by simp at hln;omega) m1;exact Uz [] [0] [.f hf,.p 2,.k cl] rfl
theorem IS{at_:Tm}{x:Ct}:∀{l:List Wt} {w:Wt},Lb l x at_=some w->w=fresh x\/∃v∈l,v.known=true/\v.c.p=x.p/\w=⟨x,true,v.fails⟩/\∀t,v.fails=some t->∃c,GE t at_=some c/\0<c
 | [],w,h=>by simp only[Lb]at h;injection h with h;exact .inl h.symm
 |
  v::l,w,h=>by
  simp only[Lb]at h;have tl:Lb l x at_=some w->w=fresh x\/∃v'∈v::l,v'.known=true/\v'.c.p=x.p/\w=⟨x,true,v'.fails⟩/\∀t,v'.fails=some t->∃c,GE t at_=some c/\0<c:=λh=>by
   rcases IS h with h|⟨v',h1,h2⟩
   ·exact .inl h
   ·exact .inr ⟨v',Qh _ h1,h2⟩
  split at h
  ·rename_i hk;cases hf:v.fails with
   |
    none =>
    rw[hf]at h;injection h with h;exact .inr ⟨v,Qw ..,hk.2.1,hk.2.2,by rw[hf];exact h.symm,λt ht=>by rw[hf]at ht;cases ht⟩
   |
    some t =>
    rw[hf]at h;obtain⟨c,c1,h⟩:=Qe.1 h
    split at h
    ·rename_i h0;injection h with h;exact .inr ⟨v,Qw ..,hk.2.1,hk.2.2,by rw[hf];exact h.symm,λu hu=>by rw[hf]at hu;injection hu with hu;subst hu;exact⟨c,c1,h0⟩⟩
    ·exact tl h
  ·exact tl h
variable{ws:List Wt}
theorem lay_ok{c:Cr}{at_:Tm}{l:List Ct}(ev:Int)(hc:CrOk c)(ha:Va at_)(hl:∀x∈l,Cp x.p)(hn:l.length≤1000)(h:Pd c.l at_ (Gu l)=some ws):CrOk ⟨at_,ws,ev⟩:=by
 obtain⟨h1,h2⟩:=YC h;refine⟨ha,λw hw=>?_,by show ws.length<=1000;rw[h1,Bt];exact hn⟩;obtain⟨i,hi⟩:=Zx hw;have hil:i<(Gu l).length:=by rw[<-h1];exact(Qd.1 hi).1
 obtain⟨v,h3,h4⟩:=h2 i _ (Qf hil);rw[hi]at h4;injection h4 with h4;subst h4;have hx:=hl _ (Ts (Jd hil));rcases IS h3 with e|⟨v,v1,_,v3,e,_⟩
 ·rw[e];exact⟨hx,λt ht=>by cases ht⟩
 ·rw[e];exact⟨hx,λt ht=>(hc.l v v1).f t ht⟩
def SV{β:Type}(Bc:Tm->List Ct)(Br:Tm->β)(t:Rat):Nat->Cr->β->Int->Option (Cr×β×Int)
 | 0,_,_,_=>none
 |
  k+1,c,r,n=>(ZX c.now c.l).bind λws=>(zY ws).bind λo=>match o with
  |none=>some (⟨tq t,ws,c.ev⟩,r,n)
  |some a=>if 0<Gx a t then some (⟨tq t,ws,c.ev⟩,r,n)else(Pd ws a (Gu (Bc a))).bind λw2=>SV Bc Br t k ⟨a,w2,c.ev+1⟩ (Br a) (n+1)
theorem Ql8{a:Tm}(h:zY ws=some (some a))(hv:∀t∈ws.filterMap (·.fails),Va t):a∈ws.filterMap (·.fails)/\∀t∈ws.filterMap (·.fails),¬C5 t a:=by
 unfold zY at h;cases hf:ws.filterMap (·.fails)with
 |nil=>rw[hf]at h;injection h with h;cases h
 |
  cons b l =>
  rw[hf]at h hv;obtain⟨m,m1,m2⟩:=Vl.1 h;injection m2 with m2;subst m2;obtain⟨m',n1,n2,n3⟩:=PI l b hv;rw[m1]at n1;injection n1 with n1;subst n1;exact⟨n2,n3⟩
theorem OZ{c:Cr}{a:Tm}(hc:CrOk c)(h:ZX c.now c.l=some ws)(hr:zY ws=some (some a)):Va a:=by
 have hc':=A5 hc h;have hv:∀t∈ws.filterMap (·.fails),Va t:=λt ht=>by
  obtain⟨w,w1,w2⟩:=J0.1 ht;exact(hc'.l w w1).f t w2
 exact hv a (Ql8 hr hv).1
structure BuildOk(Bc:Tm->List Ct):Prop where
 p:∀a,Va a->∀x∈Bc a,Cp x.p
 n:∀a,Va a->(Bc a).length<=1000
theorem Q04{T:Nat}{t:Rat}{Bc:Tm->List Ct}{Br:Tm->Fc}{r0:Fc}(ht:Qs 1640000 t)(hB:BuildOk Bc)
 (hb:∀a c r1,Va a->CrOk c->Ga prog 90 [.one (.ow 0 0),.agg (ta a)] [.blk T (Tc c r0 r1)] [.one (.row (Gg (Bc a)))] [.blk T (Tc c r0 (Br a))])
 {K:Nat} {c c':Cr} {r1 r1':Fc} {n:Int} (hc:CrOk c) (hev:0<=c.ev/\c.ev+K<=1000000000000000000) (h:Gx c.now t<=0) (hg:SV Bc Br t K c r1 0=some (c',r1',n)) :
 Ga prog 365 [.one (.ow 0 0),.agg (rl t),.one (.ofn 90 [.ow 0 0] [])] [.blk T (Tc c r0 r1)] [.oi n,.oi 0] [.blk T (Tc c' r0 r1')]:=by
 have qt:Qb t:=ht.mono Fl;have c1:=Ec hc.n.tb qt;refine G5 func365 rfl ?_;refine Uv [.c [0] (XY hc.n),.k c1,.f (by simpa using h)] rfl ?_;refine U0 (S:=Nat×Cr×Fc×Int) 2 (λL1 s=>(8,.v (.oi s.2.2.2))::L1) (λs=>[.blk T (Tc s.2.1 r0 s.2.2.1),.blk 41 (rl t)]) (λs=>s.1) (λs=>CrOk s.2.1/\(0<=s.2.1.ev/\s.2.1.ev+s.1<=1000000000000000000)/\(0<=s.2.2.2/\s.2.2.2+s.1<=1000000000000000000)/\SV Bc Br t s.1 s.2.1 s.2.2.1 s.2.2.2=some (c',r1',n)) (K,c,r1,0) ⟨hc,hev,⟨Int.le_refl 0,Ft⟩,hg⟩ rfl rfl λ⟨k,x,r,m⟩ ⟨j1,j2,j3,j4⟩=>?_
 dsimp only at j1 j2 j3 j4 ⊢;cases k with
 |zero=>cases j4
 |
  succ k =>
  simp only[SV]at j4;obtain⟨ws,w1,j4⟩:=Qe.1 j4;obtain⟨o,o1,j4⟩:=Qe.1 j4;have cn:=CY (T:=T) (r0:=r0) (r1:=r) j1 w1 o1;have ca:=JI (Fy t.num) (Fy (t.den:Int)) (Qc ht.1 Fl) (Qc ht.2 Fl) (by rw[Po];exact ht.mono Fl);rw[Po]at ca;cases o with
  |
   none =>
   injection j4 with j4;injection j4 with e1 j4;injection j4 with e2 e3;subst e1;subst e2;subst e3;exact Uz [] [0] [.c [0] cn,.g 25 true rfl,.t rfl,.k ca] rfl
  |
   some a =>
   have ha:=OZ j1 w1 o1;dsimp only at j4;have cc:=Ec ha.tb qt;by_cases h0:0<Gx a t
   ·rw[if_pos h0]at j4;injection j4 with j4;injection j4 with e1 j4;injection j4 with e2 e3;subst e1;subst e2;subst e3;exact Uz [] [0] [.c [0] cn,.g 25 false rfl,.k cc,.t (by simpa using h0),.k ca] rfl
   ·rw[if_neg h0]at j4;obtain⟨w2,l1,j4⟩:=Qe.1 j4;have j1':=A5 j1 w1;have cl:=Mi (b:=a) (l:=[]) ha.tb (λt ht=>by cases ht) Fl rfl;have cb:=hb a { x with l:=ws } r ha j1';have cy:=GH (T:=T) (r0:=r0) (r1:=Br a) j1' ha (hB.p a ha) (hB.n a ha) l1;have hf:decide (0<Gx a t)=false:=by simpa using h0
    refine Uw [.c [0] cn,.g 25 false rfl,.k cc,.f hf,.k cl,.c [0] cb,.c [0] cy] rfl ?_;exact rd (k,⟨a,w2,x.ev+1⟩,Br a,m+1) Ft ⟨lay_ok _ j1' ha (hB.p a ha) (hB.n a ha) l1,Ft,Ft,j4⟩ rfl
end Orr
namespace Orq
open Orr Go
variable{a b:Tm}
theorem Q14{c:Tm}(hb:Cut (Gx b))(hc:Cut (Gx c))(h:C5 a b)(h':C5 b c):C5 a c:=by
 obtain⟨q,q1,q2⟩:=h;obtain⟨r,r1,r2⟩:=h';exact⟨q,q1,hc.mono' (hb.lt q2 r1) Fj⟩
theorem MQ(ha:Cut (Gx a))(hb:Cut (Gx b))(h:¬C5 b a):Leq a (Gx b):=λq hq=>by
 rcases ha.val q with e|e|e
 ·exact absurd ⟨q,hq,e⟩ h
 ·obtain⟨r,r1,r2⟩:=hb.dn q hq;exact absurd ⟨r,r2,ha.mono' r1 Fj⟩ h
 ·exact e
theorem Qbt{c:Tm}(_:Cut (Gx a))(hb:Cut (Gx b))(hc:Cut (Gx c))(h:C5 a b)(h':¬C5 c b):C5 a c:=by
 obtain⟨q,q1,q2⟩:=h;refine⟨q,q1,?_⟩;have hl:=MQ hb hc h';rcases hc.val q with e|e|e
 ·exact e
 ·obtain⟨r,r1,r2⟩:=hb.up q q2;have h1:=hc.mono q r r1 Fj;have:=hl r h1;omega
 ·have:=hl q e;omega
theorem wN(ha:Cut (Gx a))(hb:Cut (Gx b))(h:C5 a b):¬C5 b a:=λh'=>QU ha hb h h'
variable{p:U6}{o:Option Tm}
theorem ZU(ha:Cut (Gx a))(hb:Cut (Gx b))(hab:¬C5 b a)(h:Bv p a o)(ho:∀t,o=some t->C5 b t):Bv p b o:=by
 have hl:=MQ ha hb hab;cases o with
 |
  none =>
  rcases h with h|⟨s,s0,h⟩
  ·exact .inl h
  ·exact .inr ⟨s,s0,λc hc hbc=>h c hc λq hq=>hl q (hbc q hq)⟩
 |
  some t =>
  obtain⟨h1,h2,_,s,s0,h4,h5⟩:=h;exact⟨h1,h2,ho t rfl,s,s0,λc hc hbc hm=>h4 c hc (λq hq=>hl q (hbc q hq)) hm,h5⟩
theorem jV(hp:Dp p)(ha:Va a)(hb:Va b)(hab:¬C5 b a)(h:Bv p a o)(ho:∀t,o=some t->C5 b t):G7 (Gm b) p=G7 (Gm a) p:=by
 by_cases h0:p.length=0
 ·obtain rfl:=Qi h0;rfl
 obtain⟨ra,_⟩:=A3 ha hp h0;obtain⟨rb,_⟩:=A3 hb hp h0;have hl:=MQ ha.cut hb.cut hab;cases o with
 |
  none =>
  rcases h with h|⟨s,s0,h⟩
  ·exact absurd (by rw[h];rfl) h0
  ·exact(TG rb (h _ hb.cut hl)).trans (TG ra (h _ ha.cut λ_ h=>h)).symm
 |
  some t =>
  obtain⟨h1,h2,h3,s,s0,h4,h5⟩:=h;exact(TG rb (h4 _ hb.cut hl (ho t rfl))).trans (TG ra (h4 _ ha.cut (λ_ h=>h) h3)).symm
theorem Qc9(t q:Rat):Gx (tq t) q=Rx t q:=Ow (t:=tq t) rfl q
variable{t:Rat}
theorem EE(ha:Cut (Gx a)):0<Gx a t↔C5 (tq t) a:=by
 constructor
 ·intro h;have h1:Gx a t=1:=by rcases ha.val t with e|e|e <;> omega
  obtain⟨r,r1,r2⟩:=ha.up t h1;exact⟨r,by rw[Qc9];rcases D7 t r with⟨e,e'⟩|⟨e,e'⟩|⟨e,e'⟩ <;> first|exact e|(exfalso;grind),r2⟩
 ·rintro⟨q,q1,q2⟩
  rw[Qc9]at q1;have:t<q:=by rcases D7 t q with⟨e,e'⟩|⟨e,e'⟩|⟨e,e'⟩ <;> first|exact e'|omega
  have:=ha.mono' this Fj;omega
open Classical in
noncomputable def mu(T:List Tm)(a:Tm):Nat:=(T.filter λt=>decide (C5 a t)).length
theorem xM{α:Type}{p q:α->Bool}(h:∀x,p x=true->q x=true):∀l:List α,(l.filter p).length<=(l.filter q).length
 | []=>Qm _
 |
  x::l=>by
  have ih:=xM h l;by_cases hp:p x=true
  ·rw[Jo hp,Jo (h x hp)];simp;exact ih
  ·rw[Yh hp];by_cases hq:q x=true
   ·rw[Jo hq];simp;omega
   ·rw[Yh hq];exact ih
theorem xN{α:Type}{p q:α->Bool}(h:∀x,p x=true->q x=true){y:α}(hp:p y=false)(hq:q y=true):∀{l:List α},y∈l->(l.filter p).length<(l.filter q).length
 | [],hy=>by cases hy
 |
  x::l,hy=>by
  rcases Qk.1 hy with rfl|hy
  ·rw[Yh (by simp[hp]),Jo hq];have:=xM h l;simp;omega
  ·have ih:=xN h hp hq hy;by_cases hp:p x=true
   ·rw[Jo hp,Jo (h x hp)];simp;exact ih
   ·rw[Yh hp];by_cases hq:q x=true
    ·rw[Jo hq];simp;omega
    ·rw[Yh hq];exact ih
open Classical in
theorem Qvr{T:List Tm}(ha:Cut (Gx a))(hb:Cut (Gx b))(hT:∀t∈T,Cut (Gx t))(h:C5 a b)(hm:b∈T):mu T b<mu T a:=by
 have key:∀l:List Tm,(∀t∈l,Cut (Gx t))->l.filter (λt=>decide (C5 b t))=l.filter (λt=>decide (Cut (Gx t)/\C5 b t)):=λl hl=>Wb λx hx=>by simp[hl x hx]
 have key2:∀l:List Tm,(∀t∈l,Cut (Gx t))->l.filter (λt=>decide (C5 a t))=l.filter (λt=>decide (Cut (Gx t)/\C5 a t)):=λl hl=>Wb λx hx=>by simp[hl x hx]
 unfold mu;rw[key T hT,key2 T hT];refine xN (λx hx=>?_) (y:=b) ?_ ?_ hm
 ·have hx:=of_decide_eq_true hx;exact decide_eq_true ⟨hx.1,Q14 hb hx.1 h hx.2⟩
 ·exact decide_eq_false λhx=>QU hb hb hx.2 hx.2
 ·exact decide_eq_true ⟨hb,h⟩
def vJ(p:U6):List Tm:=(GQ p).getD []
structure KInv(c:Cr):Prop where
 ok:CrOk c
 k:∀w∈c.l,w.known=true->Bv w.c.p c.now w.fails/\∀t,w.fails=some t->t∈vJ w.c.p
theorem OQ(h:Cp p)(ha:Va a):∃r,BZ p a=some r/\Bv p a r/\∀t,r=some t->t∈vJ p:=by
 obtain⟨l,l1,_,_,l3⟩:=VO h;obtain⟨r,r1,r2,r3⟩:=l3 a ha;refine⟨r,?_,r2,λt ht=>by unfold vJ;rw[l1];exact r3 t ht⟩;unfold BZ;rw[l1];exact r1
theorem Qz3(h:Cp p):∀t∈vJ p,Va t:=by
 obtain⟨l,l1,_,l2,_⟩:=VO h;unfold vJ;rw[l1];exact l2
theorem Qby{now:Tm}(hn:Va now):∀{l:List Wt},(∀w∈l,WtOk w)->(∀w∈l,w.known=true->Bv w.c.p now w.fails/\∀t,w.fails=some t->t∈vJ w.c.p) ->
 ∃ws,ZX now l=some ws/\ws.map (·.c)=l.map (·.c)/\∀w∈ws,w.known=true/\Bv w.c.p now w.fails/\∀t,w.fails=some t->t∈vJ w.c.p
 | [],_,_=>⟨[],rfl,rfl,λw hw=>by cases hw⟩
 |
  w::l,h,h'=>by
  obtain⟨ws,w1,w2,w3⟩:=Qby hn (λv hv=>h v (Qh _ hv)) (λv hv=>h' v (Qh _ hv));by_cases hk:w.known=true
  ·refine⟨w::ws,by simp only[ZX,hk,if_true,w1];rfl,by simp[w2],λv hv=>?_⟩;rcases Qk.1 hv with rfl|hv
   ·exact⟨hk,h' v Fp hk⟩
   ·exact w3 v hv
  ·obtain⟨r,r1,r2,r3⟩:=OQ (h w Fp).p hn;refine⟨⟨w.c,true,r⟩::ws,by simp only[ZX];rw[if_neg hk,r1,w1];rfl,by simp[w2],λv hv=>?_⟩;rcases Qk.1 hv with rfl|hv
   ·exact⟨rfl,r2,r3⟩
   ·exact w3 v hv
theorem Qbo{at_:Tm}(ha:Va at_){x:Ct}:∀{l:List Wt},(∀w∈l,WtOk w)->∃w,Lb l x at_=some w/\w.c=x
 | [],_=>⟨fresh x,rfl,rfl⟩
 |
  v::l,h=>by
  obtain⟨w,w1,w2⟩:=Qbo ha (x:=x) λv hv=>h v (Qh _ hv)
  simp only[Lb]
  split
  ·cases hf:v.fails with
   |none=>exact⟨_,rfl,rfl⟩
   |
    some t =>
    obtain⟨c,c1,_⟩:=GA ((h v Fp).f t hf) ha;dsimp only;rw[c1];show ∃w,(if 0<c then some ⟨x,true,some t⟩else Lb l x at_)=some w/\w.c=x
    split
    ·exact⟨_,rfl,rfl⟩
    ·exact⟨w,w1,w2⟩
  ·exact⟨w,w1,w2⟩
theorem lD{at_:Tm}(ha:Va at_){ol:List Wt}(ho:∀w∈ol,WtOk w):∀l:List Ct,∃ws,Pd ol at_ l=some ws/\ws.map (·.c)=l
 | []=>⟨[],rfl,rfl⟩
 |
  x::l=>by
  obtain⟨w,w1,w2⟩:=Qbo ha (x:=x) ho;obtain⟨ws,s1,s2⟩:=lD ha ho l;exact⟨w::ws,by simp only[Pd,w1,s1];rfl,by simp[w2,s2]⟩
theorem Qe9{out:List Ct}{c x:Ct}:x∈UI out c↔x=c\/x∈out:=by
 have h:x∈out↔x∈out.take (VT out c out.length)\/x∈out.drop (VT out c out.length):=by
  rw[<-Qp,Zf]
 simp only[UI,Qp,Qk,h];constructor
 ·rintro (h|h|h)
  ·exact .inr (.inl h)
  ·exact .inl h
  ·exact .inr (.inr h)
 ·rintro (h|h|h)
  ·exact .inr (.inl h)
  ·exact .inl h
  ·exact .inr (.inr h)
theorem xA:∀(l acc:List Ct) {y:Ct},y∈l.foldl UI acc↔y∈l\/y∈acc
 | [],acc,y=>Fp
 |
  c::l,acc,y=>by
  simp only[Xl];rw[xA l,Qe9,Qk];constructor
  ·rintro (h|h|h)
   ·exact .inl (.inr h)
   ·exact .inl (.inl h)
   ·exact .inr h
  ·rintro ((h|h)|h)
   ·exact .inr (.inl h)
   ·exact .inl h
   ·exact .inr (.inr h)
variable{l:List Ct}
theorem yA{x:Ct}:x∈Gu l↔x∈l:=by unfold Gu;rw[xA];simp
theorem Qy5{ws:List Wt}(hw:∀w∈ws,WtOk w):∃o,zY ws=some o/\match o with
 |none=>∀w∈ws,w.fails=none
 |some a=>Va a/\(∃w∈ws,w.fails=some a)/\∀w∈ws,∀t,w.fails=some t->¬C5 t a:=by
 have hv:∀t∈ws.filterMap (·.fails),Va t:=λt ht=>by
  obtain⟨w,w1,w2⟩:=J0.1 ht;exact(hw w w1).f t w2
 unfold zY;cases hf:ws.filterMap (·.fails)with
 |
  nil =>
  refine⟨none,rfl,λw h=>?_⟩;cases e:w.fails with
  |none=>rfl
  |
   some t =>
   have:t∈ws.filterMap (·.fails):=J0.2 ⟨w,h,e⟩;rw[hf]at this;cases this
 |
  cons b l =>
  rw[hf]at hv;obtain⟨m,m1,m2,m3⟩:=PI l b hv;refine⟨some m,by show(XD b l).map some=_;rw[m1];rfl,hv m m2,?_,λw h t e=>?_⟩
  ·rw[<-hf]at m2;exact J0.1 m2
  ·exact m3 t (by rw[<-hf];exact J0.2 ⟨w,h,e⟩)
theorem Qxn{t:Tm}(ht:Va t)(ha:Va a){c:Int}(h:GE t a=some c)(h0:0<c):C5 a t:=by
 obtain⟨c',c1,c2⟩:=GA ht ha;rw[h]at c1;injection c1 with c1;subst c1;rcases c2 with⟨e,_⟩|⟨e,_⟩|⟨_,e⟩
 ·omega
 ·omega
 ·exact e
theorem Qbr{ol ws:List Wt}{now:Tm}(hn:Va now)(ha:Va a)(hna:¬C5 a now)(ho:∀w∈ol,WtOk w)(hk:∀w∈ol,w.known=true->Bv w.c.p now w.fails/\∀t,w.fails=some t->t∈vJ w.c.p)(h:Pd ol a l=some ws):
 ∀w∈ws,w.known=true->Bv w.c.p a w.fails/\∀t,w.fails=some t->t∈vJ w.c.p:=by
 obtain⟨h1,h2⟩:=YC h;intro w hw hkn;obtain⟨i,hi⟩:=Zx hw;have hil:i<l.length:=by rw[<-h1];exact(Qd.1 hi).1
 obtain⟨v,h3,h4⟩:=h2 i _ (Qf hil);rw[hi]at h4;injection h4 with h4;subst h4;rcases IS h3 with e|⟨v,v1,v2,v3,e,v5⟩
 ·rw[e]at hkn;cases hkn
 ·obtain⟨k1,k2⟩:=hk v v1 v2;rw[e];show Bv (l[i]).p a v.fails/\∀t,v.fails=some t->t∈vJ (l[i]).p;rw[<-v3];refine⟨ZU hn.cut ha.cut hna k1 λt ht=>?_,k2⟩;obtain⟨c,c1,c2⟩:=v5 t ht;exact Qxn ((ho v v1).f t ht) ha c1 c2
structure Stab{β:Type}(Bc:Tm->List Ct)(Br:Tm->β):Prop where
 ok:BuildOk Bc
 fin:∃Ps:List (List Int),(∀p∈Ps,Cp p)/\∀a,Va a->∀x∈Bc a,x.p∈Ps
 st:∀a b,Va a->Va b->(∀x∈Bc a,G7 (Gm b) x.p=G7 (Gm a) x.p)->Bc b=Bc a/\Br b=Br a
structure KSt{β:Type}(Bc:Tm->List Ct)(Br:Tm->β)(c:Cr)(r1:β):Prop where
 inv:KInv c
 cs:c.l.map (·.c)=Gu (Bc c.now)
 r:r1=Br c.now
inductive Evs (Bc:Tm->List Ct) (t:Rat):Tm->List Tm->Prop
 |nil {a:Tm} (h:∀x∈Bc a,∃o,Bv x.p a o/\∀u,o=some u->C5 (tq t) u):Evs Bc t a []
 |cons {a e:Tm} {E:List Tm} (he:Va e) (h1:C5 a e) (h2:¬C5 (tq t) e) (h3:∀x∈Bc a,∃o,Bv x.p a o/\∀u,o=some u->¬C5 u e) (h4:∃x∈Bc a,Bv x.p a (some e)) (h5:Evs Bc t e E):Evs Bc t a (e::E)
theorem Q1u{β:Type}{Bc:Tm->List Ct}{Br:Tm->β}(S:Stab Bc Br)(ht:Qs 1640000 t){Ps:U7}(hP:∀p∈Ps,Cp p)(hPs:∀a,Va a->∀x∈Bc a,x.p∈Ps):
 ∀(m:Nat) (c:Cr) (r1:β) (n:Int),mu (Ps.flatMap vJ) c.now<=m->KSt Bc Br c r1->¬C5 (tq t) c.now ->
 ∃c' r' E,SV Bc Br t (m+1) c r1 n=some (c',r',n+(E.length:Nat))/\c'.now=tq t/\KSt Bc Br c' r'/\c'.ev=c.ev+(E.length:Nat)/\E.length<=m/\Evs Bc t c.now E:=by
 have hT:∀t∈Ps.flatMap vJ,Cut (Gx t):=λu hu=>by
  obtain⟨p,p1,p2⟩:=Zo.1 hu;exact(Qz3 (hP p p1) u p2).cut
 have hq:=BI ht;intro m
 induction m with
 |zero=>?_
 |succ m ih=>?_
 all_goals
  intro c r1 n hm hS hnow;obtain⟨⟨ok,kk⟩,hcs,hr⟩:=hS;obtain⟨ws,w1,w2,w3⟩:=Qby ok.n ok.l kk;have ok':=A5 ok w1;rw[hcs]at w2;have hc_w:∀x∈Bc c.now,∃w∈ws,w.c=x:=λx hx=>by
   have:x∈ws.map (·.c):=by rw[w2];exact yA.2 hx
   exact Q8.1 this
  have hw_c:∀w∈ws,w.c∈Bc c.now:=λw hw=>yA.1 (by rw[<-w2];exact W3 hw)
  obtain⟨o,o1,o2⟩:=Qy5 ok'.l;have fin:(∀w∈ws,∀u,w.fails=some u->C5 (tq t) u)->KSt Bc Br ⟨tq t,ws,c.ev⟩ r1/\Evs Bc t c.now []:=λhall=>by
   have hg:∀x∈Bc c.now,G7 (Gm (tq t)) x.p=G7 (Gm c.now) x.p:=λx hx=>by
    obtain⟨w,hw,rfl⟩:=hc_w x hx;exact jV (S.ok.p _ ok.n _ hx).dp ok.n hq hnow (w3 w hw).2.1 (hall w hw)
   obtain⟨s1,s2⟩:=S.st _ _ ok.n hq hg;refine⟨⟨⟨⟨hq,ok'.l,ok'.k⟩,λw hw _=>⟨ZU ok.n.cut hq.cut hnow (w3 w hw).2.1 (hall w hw),(w3 w hw).2.2⟩⟩,?_,?_⟩,.nil λx hx=>?_⟩
   ·show ws.map (·.c)=Gu (Bc (tq t));rw[w2,s1]
   ·show r1=Br (tq t);rw[s2,hr]
   ·obtain⟨w,hw,rfl⟩:=hc_w x hx;exact⟨_,(w3 w hw).2.1,hall w hw⟩
 ·cases o with
  |
   none =>
   obtain⟨f1,f2⟩:=fin λw hw u hu=>by rw[o2 w hw]at hu;cases hu
   exact⟨_,_,[],by simp only[SV];rw[w1];simp only[Jt];rw[o1];simp,rfl,f1,Fp,Fp,f2⟩
  |
   some a =>
   obtain⟨va,⟨w,hw,hwa⟩,hmin⟩:=o2;by_cases h0:0<Gx a t
   ·obtain⟨f1,f2⟩:=fin λv hv u hu=>by
     have hu':=(ok'.l v hv).f u hu;exact Qbt hq.cut va.cut hu'.cut ((EE va.cut).1 h0) (hmin v hv u hu)
    exact⟨_,_,[],by simp only[SV];rw[w1];simp only[Jt];rw[o1];simp[h0],rfl,f1,Fp,Fp,f2⟩
   ·exfalso;obtain⟨k1,k2,k3⟩:=w3 w hw;rw[hwa]at k2;have:a∈Ps.flatMap vJ:=Zo.2 ⟨_,hPs _ ok.n _ (hw_c w hw),k3 a hwa⟩;have:=Qvr ok.n.cut va.cut hT k2.2.2.1 this;omega
 ·cases o with
  |
   none =>
   obtain⟨f1,f2⟩:=fin λw hw u hu=>by rw[o2 w hw]at hu;cases hu
   exact⟨_,_,[],by simp only[SV];rw[w1];simp only[Jt];rw[o1];simp,rfl,f1,Fp,Fp,f2⟩
  |
   some a =>
   obtain⟨va,⟨w,hw,hwa⟩,hmin⟩:=o2;by_cases h0:0<Gx a t
   ·obtain⟨f1,f2⟩:=fin λv hv u hu=>by
     have hu':=(ok'.l v hv).f u hu;exact Qbt hq.cut va.cut hu'.cut ((EE va.cut).1 h0) (hmin v hv u hu)
    exact⟨_,_,[],by simp only[SV];rw[w1];simp only[Jt];rw[o1];simp[h0],rfl,f1,Fp,Fp,f2⟩
   ·obtain⟨k1,k2,k3⟩:=w3 w hw;rw[hwa]at k2;have hna:=wN ok.n.cut va.cut k2.2.2.1;have hmem:a∈Ps.flatMap vJ:=Zo.2 ⟨_,hPs _ ok.n _ (hw_c w hw),k3 a hwa⟩;have hlt:=Qvr ok.n.cut va.cut hT k2.2.2.1 hmem;obtain⟨w2',l1,l2⟩:=lD va ok'.l (Gu (Bc a));have hl:=Qbr ok.n va hna ok'.l (λv hv _=>(w3 v hv).2) l1;have hS':KSt Bc Br ⟨a,w2',c.ev+1⟩ (Br a):=⟨⟨Orr.lay_ok _ ok' va (S.ok.p a va) (S.ok.n a va) l1,hl⟩,l2,rfl⟩;obtain⟨c',r',E,g1,g2,g3,g4,g5,g6⟩:=ih ⟨a,w2',c.ev+1⟩ (Br a) (n+1) (by show mu _ a<=m;omega) hS' (λh=>h0 ((EE va.cut).2 h));refine⟨c',r',a::E,?_,g2,g3,by rw[g4];simp;omega,Fo,.cons va k2.2.2.1 (λh=>h0 ((EE va.cut).2 h)) (λx hx=>?_) ⟨w.c,hw_c w hw,k2⟩ g6⟩
    ·conv=>lhs;unfold SV
     rw[w1];simp only[Jt];rw[o1];simp only[Jt];rw[if_neg h0,l1];simp only[Jt];rw[g1];simp;omega
    ·obtain⟨v,hv,rfl⟩:=hc_w x hx;exact⟨_,(w3 v hv).2.1,hmin v hv⟩
end Orq
namespace Orq
open Orr Go
variable{a:Tm}
theorem Qob{b:Tm}(ha:Cut (Gx a))(hb:Cut (Gx b))(h:¬C5 a b)(h':¬C5 b a):∀q,Gx a q=Gx b q:=by
 rcases tri ha hb with h1|h1|h1
 ·exact absurd h1 h
 ·exact h1
 ·exact absurd h1 h'
theorem Qc5{b b':Tm}(h:∀q,Gx b q=Gx b' q):C5 a b↔C5 a b':=by
 unfold C5;simp only[h]
theorem nP{b b':Tm}(h:∀q,Gx b q=Gx b' q):C5 b a↔C5 b' a:=by
 unfold C5;simp only[h]
theorem MJ{p:U6}(ha:Va a){t t':Tm}(h:Bv p a (some t))(h':Bv p a (some t')):∀q,Gx t q=Gx t' q:=by
 obtain⟨_,v,l,s,s0,h4,h5⟩:=h;obtain⟨_,v',l',s',s0',h4',h5'⟩:=h';have es:s=s':=TG (h4 _ ha.cut (λ_ h=>h) l) (h4' _ ha.cut (λ_ h=>h) l');refine Qob v.cut v'.cut (λhlt=>?_) λhlt=>?_
 ·have:=TG (h4' _ v.cut (MQ ha.cut v.cut (wN ha.cut v.cut l)) hlt) h5;omega
 ·have:=TG (h4 _ v'.cut (MQ ha.cut v'.cut (wN ha.cut v'.cut l')) hlt) h5';omega
theorem Ae{p:U6}(ha:Va a){t:Tm}(h:Bv p a (some t))(h':Bv p a none):False:=by
 obtain⟨h1,v,l,s,s0,h4,h5⟩:=h;rcases h' with h'|⟨s',s0',h'⟩
 ·exact h1 h'
 ·have e1:=TG (h' _ ha.cut λ_ h=>h) (h4 _ ha.cut (λ_ h=>h) l);have e2:=TG (h' _ v.cut (MQ ha.cut v.cut (wN ha.cut v.cut l))) h5;omega
structure Quiet{β:Type}(Bc:Tm->List Ct)(Br:Tm->β)(a b:Tm):Prop where
 va:Va a
 vb:Va b
 le:¬C5 b a
 n:∀x∈Bc a,∃o,Bv x.p a o/\∀u,o=some u->C5 b u
section
variable{β:Type}{Bc:Tm->List Ct}{Br:Tm->β}(S:Stab Bc Br)
include S
variable{a:Tm}
theorem Quiet.same{b:Tm}(h:Quiet Bc Br a b):Bc b=Bc a/\Br b=Br a:=by
 refine S.st a b h.va h.vb λx hx=>?_
 obtain⟨o,o1,o2⟩:=h.n x hx;exact jV (S.ok.p _ h.va _ hx).dp h.va h.vb h.le o1 o2
theorem vX{b:Tm}(ha:Va a)(hb:Va b)(h:∀q,Gx a q=Gx b q):Quiet Bc Br a b:=by
 refine⟨ha,hb,λh'=>QU hb.cut hb.cut ((Qc5 h).1 h') ((Qc5 h).1 h'),λx hx=>?_⟩;obtain⟨r,_,r2,_⟩:=OQ (S.ok.p _ ha _ hx) ha;refine⟨r,r2,λu hu=>?_⟩;subst hu;obtain⟨q,q1,q2⟩:=r2.2.2.1;exact⟨q,by rw[<-h];exact q1,q2⟩
variable{t:Rat}
theorem Qe0{E:List Tm}(hE:Evs Bc t a E):∀{b:Tm} {E':List Tm},Quiet Bc Br a b->Evs Bc t b E'->E.length=E'.length:=by
 induction hE with
 |
  @nil a h =>
  intro b E' hq hE';have hs:=(Quiet.same S hq).1;cases hE' with
  |nil _=>rfl
  |
   cons he h1 h2 h3 h4 h5 =>
   exfalso;obtain⟨x,hx,hx2⟩:=h4;rw[hs]at hx;obtain⟨o,o1,o2⟩:=h x hx;obtain⟨o',o1',o2'⟩:=hq.n x hx;cases o with
   |
    none =>
    cases o' with
    |none=>exact Ae hq.vb hx2 (ZU hq.va.cut hq.vb.cut hq.le o1' o2')
    |some u=>exact Ae hq.va o1' o1
   |
    some u =>
    cases o' with
    |none=>exact Ae hq.va o1 o1'
    |
     some u' =>
     have e1:=MJ hq.va o1 o1';have e2:=MJ hq.vb (ZU hq.va.cut hq.vb.cut hq.le o1' o2') hx2;obtain⟨q,q1,q2⟩:=o2 u rfl;exact h2 ⟨q,q1,by rw[<-e2,<-e1];exact q2⟩
 |
  @cons a e E he h1 h2 h3 h4 h5 ih =>
  intro b E' hq hE';have hs:=(Quiet.same S hq).1;have nx:∀x∈Bc a,∀u,Bv x.p a (some u)->C5 b u/\Bv x.p b (some u):=λx hx u hu=>by
   obtain⟨o',o1',o2'⟩:=hq.n x hx;cases o' with
   |none=>exact(Ae hq.va hu o1').elim
   |
    some u' =>
    have e1:=MJ hq.va o1' hu;have hb':=o2' u' rfl;have hb2:C5 b u:=by obtain⟨q,q1,q2⟩:=hb';exact⟨q,q1,by rw[<-e1];exact q2⟩
    exact⟨hb2,ZU hq.va.cut hq.vb.cut hq.le hu λv hv=>by injection hv with hv;subst hv;exact hb2⟩
  obtain⟨x0,hx0,hn0⟩:=h4;obtain⟨hb0,hnb0⟩:=nx x0 hx0 e hn0;cases hE' with
  |
   nil h' =>
   exfalso;obtain⟨o,o1,o2⟩:=h' x0 (by rw[hs];exact hx0);cases o with
   |none=>exact Ae hq.vb hnb0 o1
   |
    some u =>
    have e1:=MJ hq.vb o1 hnb0;obtain⟨q,q1,q2⟩:=o2 u rfl;exact h2 ⟨q,q1,by rw[<-e1];exact q2⟩
  |
   @cons _ e' E'' he' h1' h2' h3' h4' h5' =>
   obtain⟨x1,hx1,hn1⟩:=h4';rw[hs]at hx1;have a1:¬C5 e' e:=λhlt=>by
    obtain⟨o,o1,o2⟩:=h3 x1 hx1;cases o with
    |
     none =>
     obtain⟨o',o1',o2'⟩:=hq.n x1 hx1;cases o' with
     |none=>exact Ae hq.vb hn1 (ZU hq.va.cut hq.vb.cut hq.le o1' o2')
     |some u=>exact Ae hq.va o1' o1
    |
     some u =>
     have e2:=MJ hq.vb (nx x1 hx1 u o1).2 hn1;exact o2 u rfl ((nP e2).2 hlt)
   have a2:¬C5 e e':=λhlt=>by
    obtain⟨o,o1,o2⟩:=h3' x0 (by rw[hs];exact hx0);cases o with
    |none=>exact Ae hq.vb hnb0 o1
    |
     some u =>
     have e2:=MJ hq.vb o1 hnb0;exact o2 u rfl ((nP e2).2 hlt)
   have:=ih (vX S he he' (Qob he.cut he'.cut a2 a1)) h5';simp[this]
theorem Qx9(ha:Va a){E E':List Tm}(h:Evs Bc t a E)(h':Evs Bc t a E'):E.length=E'.length:=Qe0 S h (vX S ha ha λ_=>rfl) h'
end
theorem Qt9{p:U6}(h:Cp p):(vJ p).length<=67:=by
 obtain⟨l,l1,l2,_⟩:=VO h;unfold vJ;rw[l1];exact l2
theorem Qc7:∀{Ps:U7},(∀p∈Ps,Cp p)->(Ps.flatMap vJ).length≤67*Ps.length
 | [],_=>Qg _
 |
  p::Ps,h=>by
  have h1:=Qt9 (h p Fp);have h2:=Qc7 (Ps:=Ps) λq hq=>h q (Qh _ hq)
  rw[Yk,Qu,Q5];omega
theorem Q16(T:List Tm)(a:Tm):mu T a<=T.length:=X8 _ _
theorem Qwi{β:Type}{Bc:Tm->List Ct}{Br:Tm->β}(S:Stab Bc Br){a:Tm}(ha:Va a):KSt Bc Br ⟨a,(Gu (Bc a)).map fresh,0⟩ (Br a):=by
 refine⟨⟨⟨ha,λw hw=>?_,?_⟩,λw hw hk=>?_⟩,?_,rfl⟩
 ·obtain⟨x,hx,rfl⟩:=Q8.1 hw;exact⟨S.ok.p _ ha x (Ts hx),λt ht=>by cases ht⟩
 ·show((Gu (Bc a)).map fresh).length<=1000;rw[Ze,Bt];exact S.ok.n _ ha
 ·obtain⟨x,hx,rfl⟩:=Q8.1 hw;cases hk
 ·show((Gu (Bc a)).map fresh).map (·.c)=Gu (Bc a);rw[List.map_map];show(Gu (Bc a)).map (λx=>x)=_;rw[List.map_id']
end Orq
namespace Orr
open Go Go.Proofs Tryz Orq
set_option maxRecDepth 10000
theorem Qjq{a b:Pt}(ha:Sc a.c)(hb:Sc b.c):Cp (Od a b):=KP (Ca ha hb) (B9 ha hb)
def UF(l:List Pt)(a:Tm):List Ct:=Mb (Gm a) (Ra a l)
abbrev cN(l:List Pt)(a:Tm):Fc:=Fx (Ra a l)
theorem mE{sg:U6->Int}:∀{l:List Pt},(∀p∈l,Sc p.c)->∀x∈Mb sg l,Cp x.p
 | [],_,x,hx=>by cases hx
 | [_],_,x,hx=>by cases hx
 |
  a::b::l,h,x,hx=>by
  simp only[Mb]at hx;rcases Qk.1 hx with rfl|hx
  ·exact Qjq (h a Fp) (h b Fp)
  ·exact mE (λp hp=>h p (Qh _ hp)) x hx
variable{l:List Pt}
theorem Hk{t:Tm}{p:Pt}:p∈Ra t l↔p∈l:=by
 unfold Ra Nq;rw[UD];simp
theorem Mq(t:Tm)(l:List Pt):(Ra t l).length=l.length:=MD _ _
theorem cQ(hl:∀p∈l,Sc p.c)(hn:l.length≤1000):BuildOk (UF l) :=
 ⟨λa _ x hx=>mE (λp hp=>hl p (Hk.1 hp)) x hx,λa _=>by unfold UF;rw[Ds,Mq];omega⟩
theorem zB{a:Tm}{c:Cr}{r1:Fc}(hl:∀p∈l,Sc p.c)(hn:l.length≤1000)(ha:Va a):Ga prog 90 [.one (.ow 0 0),.agg (ta a)] [.blk 185 (Tc c (Fx l) r1)] [.one (.row (Gg (UF l a)))] [.blk 185 (Tc c (Fx l) (cN l a))]:=by
 have cr:=rT hl Fj ha;have cc:=EV (l:=Ra a l) (t:=a) (λp hp=>hl p (Hk.1 hp)) (by rw[Mq];omega) ha;refine G5 func90 rfl ?_;exact Uz [] [0] [.k QX,.k cr,.k cc] rfl
theorem Qd4{a:Tm}(hl:∀p∈l,Sc p.c)(hn:l.length≤1000)(ha:Va a):Ga prog 90 [.one (.ow 0 0),.agg (ta a)] [.blk 185 (dC (.row (Fx l)) .nils)] [.one (.row (Gg (UF l a)))] [.blk 185 (dC (.row (Fx l)) (.row (cN l a)))]:=by
 have cr:=rT hl Fj ha;have cc:=EV (l:=Ra a l) (t:=a) (λp hp=>hl p (Hk.1 hp)) (by rw[Mq];omega) ha;refine G5 func90 rfl ?_;exact Uz [] [0] [.k QX,.k cr,.k cc] rfl
def Q0y(l:List Pt)(a:Tm):Cr:=⟨a,(Gu (UF l a)).map fresh,0⟩
end Orr
namespace Orq
open Orr Go
theorem YT{a:Tm}(ha:Va a):∀(L:U7),(∀p∈L,Dp p)->∃y,Gx a y=-1/\∀q,Gx a q=-1->q≤y->∀p∈L,G7 (Gm a) p=Gn (Gf p q)
 |
  [],_=>by
  obtain⟨y,hy⟩:=ha.cut.hi;exact⟨y,hy,λq _ _ p hp=>by cases hp⟩
 |
  p::L,h=>by
  obtain⟨y,y1,y2⟩:=YT ha L (λq hq=>h q (Qh _ hq));by_cases h0:p.length=0
  ·obtain rfl:=Qi h0;refine⟨y,y1,λq q1 q2 r hr=>?_⟩;rcases Qk.1 hr with rfl|hr
   ·rw[YR];exact(Hd.2 rfl).symm
   ·exact y2 q q1 q2 r hr
  ·obtain⟨⟨z,z1,z2⟩,_⟩:=A3 ha (h p Fp) h0;refine⟨if y<=z then y else z,by split <;> assumption,λq q1 q2 r hr=>?_⟩;rcases Qk.1 hr with rfl|hr
   ·rw[<-Gh];exact(z2 q q1 Fq).symm
   ·exact y2 q q1 Fq r hr
section Srt
variable{α:Type}{lt:α->α->Bool}{R:α->α->Prop}
theorem yU(irr:∀x,¬R x x)(tr:∀x y z,R x y->R y z->R x z):∀{l m:List α},l.Pairwise R->m.Pairwise R->(∀x,x∈l↔x∈m)->l=m
 | [],[],_,_,_=>rfl
 | [],y::m,_,_,h=>by have:=(h y).2 Fp;cases this
 |x::l,[],_,_,h=>by have:=(h x).1 Fp;cases this
 |
  x::l,y::m,hl,hm,h=>by
  rw[Q0]at hl hm;have e:x=y:=by
   rcases Qk.1 ((h x).1 Fp)with e|h1
   ·exact e
   ·rcases Qk.1 ((h y).2 Fp)with e|h2
    ·exact e.symm
    ·exact absurd (tr _ _ _ (hl.1 y h2) (hm.1 x h1)) (irr x)
  subst e;rw[yU irr tr hl.2 hm.2 λz=>?_];constructor
  ·intro hz;rcases Qk.1 ((h z).1 (Qh _ hz))with e|h1
   ·subst e;exact absurd (hl.1 z hz) (irr z)
   ·exact h1
  ·intro hz;rcases Qk.1 ((h z).2 (Qh _ hz))with e|h1
   ·subst e;exact absurd (hm.1 z hz) (irr z)
   ·exact h1
theorem yX{out:List α}{x:α}:∀k,k<=out.length->(∀j y,Li lt out x k<=j->j<k->out[j]? = some y->lt x y=true)/\(0<Li lt out x k->∃y,out[Li lt out x k-1]? = some y/\lt x y=false)
 | 0,_=>⟨λj y _ h=>Fj,λh=>by simp[Li]at h⟩
 |
  k+1,hk=>by
  obtain⟨y,hy⟩:=gxE (l:=out) (i:=k) Fj;by_cases h:lt x y=true
  ·rw[uR hy h];obtain⟨h1,h2⟩:=yX (out:=out) (x:=x) k Fj;refine⟨λj z a1 a2 a3=>?_,h2⟩;by_cases e:j=k
   ·subst e;rw[hy]at a3;injection a3 with a3;subst a3;exact h
   ·exact h1 j z a1 Fj a3
  ·have h:lt x y=false:=by simpa using h
   rw[OR hy h];exact⟨λj z a1 a2 _=>Fj,λ_=>⟨y,by simpa using hy,h⟩⟩
theorem Qr9(tr:∀x y z,R x y->R y z->R x z){out:List α}{x:α}(ho:out.Pairwise R)(h1:∀y∈out,lt x y=true->R x y)(h2:∀y∈out,lt x y=false->R y x):(E8 lt out x).Pairwise R:=by
 obtain⟨s1,s2⟩:=yX (lt:=lt) (out:=out) (x:=x) out.length (Qm _);have hle:=uH lt out x out.length;unfold E8;obtain⟨k,hk⟩:=nmE (Li lt out x out.length);rw[<-hk]at s1 s2 hle ⊢;have hd:(out.take k++out.drop k).Pairwise R:=by rw[Zf];exact ho
 obtain⟨d1,d2,d3⟩:=Zp.1 hd;have hR:∀y∈out.drop k,R x y:=λy hy=>by
  obtain⟨i,hi⟩:=Zx hy;rw[Xq]at hi;have:k+i<out.length:=(Qd.1 hi).1;exact h1 y (Qx hy) (s1 (k+i) y Fj this hi)
 have hL:∀y∈out.take k,R y x:=λy hy=>by
  obtain⟨i,hi⟩:=Zx hy;have hik:i<k:=by have:=(Qd.1 hi).1;simp at this;omega
  rw[Jj hik]at hi;obtain⟨z,z1,z2⟩:=s2 Fj;have hz:=h2 z (Qa z1) z2;by_cases e:i=k-1
  ·subst e;rw[hi]at z1;injection z1 with z1;subst z1;exact hz
  ·have hp:=X2.1 ho i (k-1) Fj Fj Fj;obtain⟨_,e1⟩:=Qd.1 hi;obtain⟨_,e2⟩:=Qd.1 z1;rw[e1,e2]at hp;exact tr _ _ _ hp hz
 refine Zp.2 ⟨d1,Q0.2 ⟨hR,d2⟩,λy hy z hz=>?_⟩;rcases Qk.1 hz with rfl|hz
 ·exact hL y hy
 ·exact d3 y hy z hz
theorem foldG_pw(tr:∀x y z,R x y->R y z->R x z){S:α->Prop}(h1:∀x y,S x->S y->lt x y=true->R x y){D:α->α->Prop}(h2:∀x y,S x->S y->D y x->lt x y=false->R y x) :
 ∀(l acc:List α),acc.Pairwise R->(∀x∈acc,S x)->(∀x∈l,S x)->l.Pairwise D->(∀x∈acc,∀y∈l,D x y)->(l.foldl (E8 lt) acc).Pairwise R
 | [],acc,ha,_,_,_,_=>ha
 |
  x::l,acc,ha,hs,hl,hd,hx=>by
  rw[Q0]at hd;refine foldG_pw tr h1 h2 l (E8 lt acc x) ?_ ?_ (λy hy=>hl y (Qh _ hy)) hd.2 ?_
  ·exact Qr9 tr ha (λy hy=>h1 x y (hl x Fp) (hs y hy)) (λy hy=>h2 x y (hl x Fp) (hs y hy) (hx y hy x Fp))
  ·intro y hy;rcases HE.1 hy with rfl|hy
   ·exact hl _ Fp
   ·exact hs y hy
  ·intro y hy z hz;rcases HE.1 hy with rfl|hy
   ·exact hd.1 z hz
   ·exact hx y hy z (Qh _ hz)
theorem yW:∀{l:List α},l.Pairwise R->∀{u v:α},u∈l->v∈l->u≠v->R u v\/R v u
 | [],_,_,_,h,_,_=>by cases h
 |
  x::l,hp,u,v,hu,hv,hne=>by
  rw[Q0]at hp;rcases Qk.1 hu with e|hu
  ·rcases Qk.1 hv with e'|hv
   ·exact absurd (e.trans e'.symm) hne
   ·rw[e];exact .inl (hp.1 v hv)
  ·rcases Qk.1 hv with e'|hv
   ·rw[e'];exact .inr (hp.1 u hu)
   ·exact yW hp.2 hu hv hne
end Srt
def px(p:Pt)(q:Rat):Rat:=Gf p.c.x q / (p.c.d:Rat)
def py(p:Pt)(q:Rat):Rat:=Gf p.c.y q / (p.c.d:Rat)
def Lc(q:Rat)(x y:Pt):Prop:=px x q<px y q\/px x q=px y q/\(py x q<py y q\/py x q=py y q/\x.id<y.id)
theorem YE(q:Rat)(x:Pt):¬Lc q x x:=by unfold Lc;grind
theorem KI(q:Rat)(x y z:Pt)(h:Lc q x y)(h':Lc q y z):Lc q x z:=by unfold Lc at *;grind
variable{q:Rat}
theorem pQ{x y:Pt}(h:x.id≠y.id)(h':¬Lc q x y):Lc q y x:=by unfold Lc at *;grind
theorem yE{u v:Rat}{c d:Int}(hc:0<c)(hd:0<d):Gn (v*(c:Rat)-u*(d:Rat))=Gn (v / (d:Rat)-u / (c:Rat)):=by
 have hc':(0:Rat)<(c:Rat):=by exact_mod_cast hc
 have hd':(0:Rat)<(d:Rat):=by exact_mod_cast hd
 have e:v*(c:Rat)-u*(d:Rat)=((c:Rat)*(d:Rat))*(v / (d:Rat)-u / (c:Rat)):=by
  rw[Yo,Yo];have h1:=Ub (c:Rat) Fq;have h2:=Ub (d:Rat) Fq;grind
 rw[e,Ln (Xm hc' hd')]
theorem MC{x y:Pt}(hx:Sc x.c)(hy:Sc y.c)(q:Rat):Gn (Gf (Hr x.c y.c) q)=Gn (px y q-px x q):=by
 unfold Hr px;rw[Cm,Sf,Sf];exact yE hx.n.2.2.1 hy.n.2.2.1
theorem MB{x y:Pt}(hx:Sc x.c)(hy:Sc y.c)(q:Rat):Gn (Gf (Hq x.c y.c) q)=Gn (py y q-py x q):=by
 unfold Hq py;rw[Cm,Sf,Sf];exact yE hx.n.2.2.1 hy.n.2.2.1
variable{a:Tm}
theorem LL(ha:Va a){x y:Pt}(hx:Sc x.c)(hy:Sc y.c)(h1:G7 (Gm a) (Hr x.c y.c)=Gn (Gf (Hr x.c y.c) q))(h2:G7 (Gm a) (Hq x.c y.c)=Gn (Gf (Hq x.c y.c) q)):H8 (Gm a) x y=true↔Lc q x y:=by
 rw[MC hx hy]at h1;rw[MB hx hy]at h2;have d1:=(Ca hx hy).dp;have d2:=(B9 hx hy).dp;unfold H8;simp only[Ap];have t1:=G6 (px y q-px x q);have t2:=G6 (py y q-py x q);by_cases e1:(Hr x.c y.c).length=0
 ·rw[if_neg Fj];rw[Qi e1,YR]at h1;have:px x q=px y q:=Fq;by_cases e2:(Hq x.c y.c).length=0
  ·rw[if_neg Fj];rw[Qi e2,YR]at h2;unfold Lc;simp only[decide_eq_true_eq];grind
  ·rw[if_pos Fj];have:=(A3 ha d2 e2).2;unfold Lc;simp only[decide_eq_true_eq];grind
 ·rw[if_pos Fj];have:=(A3 ha d1 e1).2;unfold Lc;simp only[decide_eq_true_eq];grind
def Is(l:List Pt):U7:=l.flatMap λx=>l.flatMap λy=>[Hr x.c y.c,Hq x.c y.c]
variable{l:List Pt}
theorem Pz{x y:Pt}(hx:x∈l)(hy:y∈l):Hr x.c y.c∈Is l/\Hq x.c y.c∈Is l :=
 ⟨Zo.2 ⟨x,hx,Zo.2 ⟨y,hy,Fp⟩⟩,Zo.2 ⟨x,hx,Zo.2 ⟨y,hy,Fp⟩⟩⟩
theorem XQ(hl:∀p∈l,Sc p.c):∀p∈Is l,Cp p:=λp hp=>by
 obtain⟨x,hx,hp⟩:=Zo.1 hp;obtain⟨y,hy,hp⟩:=Zo.1 hp;simp at hp;rcases hp with rfl|rfl
 ·exact Ca (hl x hx) (hl y hy)
 ·exact B9 (hl x hx) (hl y hy)
theorem Qcx(hl:∀p∈l,Sc p.c)(hd:l.Pairwise λx y=>x.id≠y.id)(ha:Va a):∃y,Gx a y=-1/\∀q,Gx a q=-1->q≤y->(∀u∈l,∀v∈l,(H8 (Gm a) u v=true↔Lc q u v))/\(Ra a l).Pairwise (Lc q):=by
 obtain⟨y,y1,y2⟩:=YT ha (Is l) λp hp=>(XQ hl p hp).dp
 refine⟨y,y1,λq q1 q2=>?_⟩;have h:=y2 q q1 q2;have hb:∀u∈l,∀v∈l,(H8 (Gm a) u v=true↔Lc q u v):=λu hu v hv=>LL ha (hl u hu) (hl v hv) (h _ (Pz hu hv).1) (h _ (Pz hu hv).2)
 refine⟨hb,?_⟩;exact foldG_pw (S:=λx=>x∈l) (D:=λx y=>x.id≠y.id) (KI q) (λu v hu hv h=>(hb u hu v hv).1 h) (λu v hu hv hne h=>pQ (λe=>hne e.symm) λh'=>by
  rw[(hb u hu v hv).2 h']at h;cases h) l [] .nil (λx hx=>by cases hx) (λx hx=>hx) hd (λx hx=>by cases hx)
theorem eL{b:Tm}{x y:Pt}(h:G7 (Gm b) (Od x y)=G7 (Gm a) (Od x y)):H8 (Gm b) x y=H8 (Gm a) x y:=by
 unfold Od Ao at h;unfold H8;simp only[Ap];by_cases e1:0<(Hr x.c y.c).length
 ·rw[if_pos e1,if_pos e1];rw[if_pos e1]at h;rw[h]
 ·rw[if_neg e1,if_neg e1];rw[if_neg e1]at h;rw[h]
theorem EC{a b:Tm}{q r:Rat}:∀(l:List Pt),(∀u∈l,∀v∈l,(H8 (Gm a) u v=true↔Lc q u v))->(∀u∈l,∀v∈l,(H8 (Gm b) u v=true↔Lc r u v))->l.Pairwise (Lc q)->(∀x∈Mb (Gm a) l,G7 (Gm b) x.p=G7 (Gm a) x.p)->l.Pairwise (Lc r)/\Mb (Gm b) l=Mb (Gm a) l
 | [],_,_,_,_=>⟨.nil,rfl⟩
 | [x],_,_,_,_=>⟨K9 _ _,rfl⟩
 |
  x::y::l,ha,hb,hp,hc=>by
  rw[Q0]at hp;obtain⟨i1,i2⟩:=EC (a:=a) (b:=b) (q:=q) (r:=r) (y::l) (λu hu v hv=>ha u (Qh _ hu) v (Qh _ hv)) (λu hu v hv=>hb u (Qh _ hu) v (Qh _ hv)) hp.2 (λz hz=>hc z (by simp only[Mb];exact Qh _ hz));have h0:G7 (Gm b) (Od x y)=G7 (Gm a) (Od x y):=hc (XI (Gm a) x y) (by simp[Mb]);have h1:Lc r x y:=(hb x Fp y Fp).1 (by rw[eL h0];exact(ha x Fp y Fp).2 (hp.1 y Fp));refine⟨Q0.2 ⟨λz hz=>?_,i1⟩,?_⟩
  ·rcases Qk.1 hz with rfl|hz
   ·exact h1
   ·exact KI r x y z h1 ((Q0.1 i1).1 z hz)
  ·simp only[Mb];rw[i2];congr 1;unfold XI;rw[h0]
theorem MM{sg:U6->Int}:∀{l:List Pt},∀x∈Mb sg l,∃u∈l,∃v∈l,x.p=Od u v
 | [],x,hx=>by cases hx
 | [_],x,hx=>by cases hx
 |
  a::b::l,x,hx=>by
  simp only[Mb]at hx;rcases Qk.1 hx with rfl|hx
  ·exact⟨a,Fp,b,Fp,rfl⟩
  ·obtain⟨u,hu,v,hv,e⟩:=MM (l:=b::l) x hx;exact⟨u,Qh _ hu,v,Qh _ hv,e⟩
theorem jL{u v:Pt}(hu:u∈l)(hv:v∈l):Od u v∈Is l:=by
 unfold Od Ao;split
 ·exact(Pz hu hv).1
 ·exact(Pz hu hv).2
theorem oV:∀x∈UF l a,x.p∈Is l:=λx hx=>by
 obtain⟨u,hu,v,hv,e⟩:=MM x hx;rw[e];exact jL (Hk.1 hu) (Hk.1 hv)
theorem Qgw(l:List Pt):(Is l).length=l.length*(l.length*2):=by
 have h1:∀(x:Pt) (m:List Pt),(m.flatMap λy=>[Hr x.c y.c,Hq x.c y.c]).length=m.length*2:=λx m=>by
  induction m with
  |nil=>rfl
  |cons y m ih=>rw[Yk,Qu,ih,Q5];simp;omega
 have h2:∀m:List Pt,(m.flatMap λx=>l.flatMap λy=>[Hr x.c y.c,Hq x.c y.c]).length=m.length*(l.length*2):=λm=>by
  induction m with
  |nil=>simp
  |cons y m ih=>rw[Yk,Qu,ih,Q5,h1,Jn,W7,Ye]
 exact h2 l
theorem mO(hl:∀p∈l,Sc p.c)(hd:l.Pairwise λx y=>x.id≠y.id){b:Tm}(ha:Va a)(hb:Va b)(h:∀x∈UF l a,G7 (Gm b) x.p=G7 (Gm a) x.p):Ra b l=Ra a l/\UF l b=UF l a:=by
 obtain⟨q,q1,q2⟩:=Qcx hl hd ha;obtain⟨r,r1,r2⟩:=Qcx hl hd hb;obtain⟨a1,a2⟩:=q2 q q1 Qr;obtain⟨b1,b2⟩:=r2 r r1 Qr;obtain⟨c1,c2⟩:=EC (a:=a) (b:=b) (Ra a l) (λu hu v hv=>a1 u (Hk.1 hu) v (Hk.1 hv)) (λu hu v hv=>b1 u (Hk.1 hu) v (Hk.1 hv)) a2 h;have e:Ra b l=Ra a l:=yU (YE r) (KI r) b2 c1 λx=>by rw[Hk,Hk]
 exact⟨e,by unfold UF;rw[e,c2]⟩
theorem Q2p(hl:∀p∈l,Sc p.c)(hn:l.length≤1000)(hd:l.Pairwise λx y=>x.id≠y.id):Stab (UF l) (cN l):=by
 refine⟨cQ hl hn,⟨Is l,XQ hl,λa _ x hx=>?_⟩,λa b ha hb h=>?_⟩
 ·obtain⟨u,hu,v,hv,e⟩:=MM x hx;rw[e];exact jL (Hk.1 hu) (Hk.1 hv)
 ·obtain⟨e1,e2⟩:=mO hl hd ha hb h;exact⟨e2,by unfold cN;rw[e1]⟩
end Orq
namespace Orq
theorem ang{ux uy vx vy wx wy:Rat}(hu:0<ux\/ux=0/\0<uy)(hv:0<vx\/vx=0/\0<vy)(hw:0<wx\/wx=0/\0<wy)
 (h1:0<=ux*vy-vx*uy) (h2:0<=vx*wy-wx*vy):0<=ux*wy-wx*uy/\(0<ux*vy-vx*uy\/0<vx*wy-wx*vy->0<ux*wy-wx*uy):=by
 have ux0:0<=ux:=Fq;have wx0:0<=wx:=Fq;rcases hv with hv|⟨hv,hv2⟩
 ·have e:vx*(ux*wy-wx*uy)=ux*(vx*wy-wx*vy)+wx*(ux*vy-vx*uy):=Fq;have hux:0<ux:=by
   rcases hu with h|⟨h,h'⟩
   ·exact h
   ·have:=Xm hv h';rw[h]at h1;grind
  have p1:=Jg ux0 h2;have p2:=Jg wx0 h1;have key:∀z:Rat,vx*z=ux*(vx*wy-wx*vy)+wx*(ux*vy-vx*uy)->0<=z:=λz hz=>by
   refine Rat.not_lt.1 λhn=>?_
   have:=Xm hv (show 0 < -z by grind);grind
  refine⟨key _ e,λhs=>?_⟩;rcases hw with hw|⟨hw,hw2⟩
  ·have hpos:0<vx*(ux*wy-wx*uy):=by
    rcases hs with hs|hs
    ·have:=Xm hw hs;grind
    ·have:=Xm hux hs;grind
   have h0:=key _ e;refine Yb.1 λhn=>?_
   have:ux*wy-wx*uy=0:=Fq;rw[this]at hpos;grind
  ·have:=Xm hux hw2;rw[hw];grind
 ·rw[hv]at h1 h2;have hw0:wx=0:=by
   rcases hw with hw|hw
   ·have:=Xm hw hv2;grind
   ·exact hw.1
  have hwy:0<wy:=Fq;have p:=Jg ux0 (Qt hwy);refine⟨by rw[hw0];grind,λhs=>?_⟩;rw[hv,hw0]at hs;have hux:0<ux:=by
   rcases hs with hs|hs
   ·refine Yb.1 λhn=>?_
    have:ux=0:=Fq;rw[this]at hs;grind
   ·grind
  have:=Xm hux hwy;rw[hw0];grind
section
variable{α:Type}(X Y:α->Rat)
def lx(a b:α):Prop:=X a<X b\/X a=X b/\Y a<Y b
def H6(a b c:α):Rat:=(X b-X a)*(Y c-Y a)-(X c-X a)*(Y b-Y a)
variable{X Y}
theorem Mn(a:α):¬lx X Y a a:=by unfold lx;grind
variable{a:α}
theorem jS{b c:α}(h:lx X Y a b)(h':lx X Y b c):lx X Y a c:=by unfold lx at *;grind
theorem Nm{b:α}(h:lx X Y a b):0<X b-X a\/X b-X a=0/\0<Y b-Y a:=by unfold lx at h;grind
theorem RN(a b:α):H6 X Y a b a=0/\H6 X Y a b b=0:=by unfold H6;grind
theorem pM(a b c:α):H6 X Y a c b=- H6 X Y a b c:=by unfold H6;grind
theorem uY(a b c:α):H6 X Y a b c=(X b-X a)*(Y c-Y b)-(X c-X b)*(Y b-Y a):=by unfold H6;grind
def Edg(Q:α->α->Prop):List α->Prop
 |a::b::r=>Q a b/\Edg Q (b::r)
 |_=>True
def Cnv(R:α->α->α->Prop):List α->Prop
 |a::b::c::r=>R a b c/\Cnv R (b::c::r)
 |_=>True
variable{l:List α}
theorem Edg.tail{Q:α->α->Prop}(h:Edg Q (a::l)):Edg Q l:=by
 cases l with
 |nil=>trivial
 |cons b l=>exact h.2
theorem Cnv.tail{R:α->α->α->Prop}(h:Cnv R (a::l)):Cnv R l:=by
 match l,h with
 | [],_=>trivial
 | [_],_=>trivial
 |b::c::l,h=>exact h.2
def Ai(s:α->α->α->Bool)(c:α):List α->List α
 |b::a::r=>if s a b c=true then b::a::r else Ai s c (a::r)
 |l=>l
def Nl(s:α->α->α->Bool):List α->List α->List α
 |acc,[]=>acc
 |acc,c::l=>Nl s (c::Ai s c acc) l
structure Stk(X Y:α->Rat)(P:List α)(st:List α):Prop where
 srt:st.Pairwise λb a=>lx X Y a b
 mem:∀p∈st,p∈P
 edg:Edg (λb a=>∀p∈P,0≤H6 X Y a b p) st
 cnv:Cnv (λc b a=>0<H6 X Y a b c) st
variable{P st:List α}
theorem Stk.tail(h:Stk X Y P (a::st)):Stk X Y P st:=⟨(Q0.1 h.srt).2,λp hp=>h.mem p (Qh _ hp),h.edg.tail,h.cnv.tail⟩
theorem Qmr{P:List α}{s:α->α->α->Bool}{c:α}(hs:∀a∈P,∀b∈P,(s a b c=true↔0<H6 X Y a b c))(hc:∀p∈P,lx X Y p c) :
 ∀(st:List α) (t:α),Stk X Y P (t::st)->(∀p∈P,lx X Y t p->0≤H6 X Y t c p) ->
 ∃t' st',Ai s c (t::st)=t'::st'/\Stk X Y P (t'::st')/\(∀p∈P,lx X Y t' p->0≤H6 X Y t' c p)/\(∀a r,st'=a::r->0<H6 X Y a t' c)/\(t'::st').getLast? = (t::st).getLast?
 | [],t,h,h2=>⟨t,[],rfl,h,h2,λa r e=>(by cases e),rfl⟩
 |
  a::r,t,h,h2=>by
  have ht:=h.mem t Fp;have ha:=h.mem a Fp;by_cases e:s a t c=true
  ·refine⟨t,a::r,by simp only[Ai];rw[if_pos e],h,h2,λa' r' e'=>?_,rfl⟩;injection e' with e1 _
   rw[<-e1];exact(hs a ha t ht).1 e
  ·have hle:H6 X Y a t c<=0:=Rat.not_lt.1 λh'=>e ((hs a ha t ht).2 h')
   have hat:lx X Y a t:=(Q0.1 h.srt).1 a Fp;obtain⟨t',st',g1,g2,g3,g4,g5⟩:=Qmr hs hc r a h.tail λp hp hap=>by
    have e1:=h.edg.1 p hp;have k:=ang (Nm (hc a ha)) (Nm hat) (Nm hap) (by rw[pM]at *;unfold H6 at *;grind) (by unfold H6 at *;grind);unfold H6;grind
   exact⟨t',st',by simp only[Ai];rw[if_neg e];exact g1,g2,g3,g4,by rw[g5];rfl⟩
theorem xR{P:List α}{c:α}:∀(st:List α) (t:α),Stk X Y P (t::st)->lx X Y t c->(∀a r,st=a::r->0<H6 X Y a t c)->Edg (λb a=>0<H6 X Y a b c) (t::st)
 | [],_,_,_,_=>trivial
 | [a],t,_,_,h=>⟨h a [] rfl,trivial⟩
 |
  a::q::r,t,hS,htc,h=>by
  have h1:=h a (q::r) rfl;have h0:0<H6 X Y q a t:=hS.cnv.1;have p1:=Q0.1 hS.srt;have p2:=Q0.1 p1.2;have hat:lx X Y a t:=p1.1 a Fp;have hqa:lx X Y q a:=p2.1 q Fp;refine⟨h1,xR (q::r) a hS.tail (jS hat htc) λa' r' e=>?_⟩;injection e with e _;rw[<-e];rw[uY]at h0 h1 ⊢;have k:=(ang (Nm hqa) (Nm hat) (Nm htc) (Qt h0) (Qt h1)).2 (.inl h0);grind
theorem Qtb{t:α}{c:α}(h:Stk X Y P (t::st))(hc:∀p∈P,lx X Y p c)(hP:∀p∈P,p=t\/lx X Y p t\/lx X Y t p)(hb:∀p∈P,(t::st).getLast? = some p\/∃b,(t::st).getLast? = some b/\lx X Y b p)(h2:∀p∈P,lx X Y t p->0≤H6 X Y t c p)(h3:∀a r,st=a::r->0<H6 X Y a t c):Stk X Y (P++[c]) (c::t::st):=by
 have ht:=h.mem t Fp;have htc:=hc t ht;have hf:=xR st t h htc h3;refine⟨Q0.2 ⟨λp hp=>hc p (h.mem p hp),h.srt⟩,λp hp=>?_,⟨λp hp=>?_,?_⟩,?_⟩
 ·rcases Qk.1 hp with rfl|hp
  ·simp
  ·exact Zy _ (h.mem p hp)
 ·rcases Qp.1 hp with hp|hp
  ·rcases hP p hp with rfl|hpt|htp
   ·rw[(RN p c).1];exact Qr
   ·cases st with
    |
     nil =>
     exfalso;rcases hb p hp with e|⟨b,e,hb⟩
     ·injection e with e;subst e;exact Mn _ hpt
     ·injection e with e;subst e;exact Mn _ (jS hpt hb)
    |
     cons a r =>
     have e1:=h.edg.1 p hp;have h3:=h3 a r rfl;have hat:lx X Y a t:=(Q0.1 h.srt).1 a Fp;have k:=(ang (Nm hpt) (Nm hat) (Nm htc) (by unfold H6 at *;grind) (by unfold H6 at *;grind)).1;unfold H6;grind
   ·exact h2 p hp htp
  ·rw[Ql.1 hp,(RN t c).2];exact Qr
 ·cases st with
  |nil=>trivial
  |
   cons a r =>
   have key:∀l:List α,Edg (λb a=>∀p∈P,0≤H6 X Y a b p) l->Edg (λb a=>0<H6 X Y a b c) l->Edg (λb a=>∀p∈P++[c],0≤H6 X Y a b p) l:=by
    intro l
    induction l with
    |nil=>intros;trivial
    |
     cons x l ih =>
     cases l with
     |nil=>intros;trivial
     |
      cons y l =>
      intro k1 k2;refine⟨λp hp=>?_,ih k1.2 k2.2⟩;rcases Qp.1 hp with hp|hp
      ·exact k1.1 p hp
      ·rw[Ql.1 hp];exact Qt k2.1
   exact key _ h.edg hf
 ·cases st with
  |nil=>trivial
  |cons a r=>exact⟨h3 a r rfl,h.cnv⟩
theorem zE{s:α->α->α->Bool}{row:List α}(hs:∀a∈row,∀b∈row,∀c∈row,(s a b c=true↔0<H6 X Y a b c))(hrow:row.Pairwise (lx X Y)) :
 ∀(l P:List α) (t:α) (st:List α),row=P++l->Stk X Y P (t::st)->P.getLast? = some t->(t::st).getLast? = P.head? ->
 ∃t' st',Nl s (t::st) l=t'::st'/\Stk X Y row (t'::st')/\row.getLast? = some t'/\(t'::st').getLast? = row.head?
 |
  [],P,t,st,e,h,h1,h2=>by
  rw[Zw]at e;subst e;exact⟨t,st,rfl,h,h1,h2⟩
 |
  c::l,P,t,st,e,h,h1,h2=>by
  have hPm:∀p∈P,p∈row:=λp hp=>by rw[e];exact Zy _ hp
  have hcm:c∈row:=by rw[e];simp
  have hpw:=hrow;rw[e]at hpw;obtain⟨w1,w2,w3⟩:=Zp.1 hpw;have hc:∀p∈P,lx X Y p c:=λp hp=>w3 p hp c Fp
  have htop:∀p∈P,p=t\/lx X Y p t:=λp hp=>by
   obtain⟨P1,rfl⟩:∃P1,P=P1++[t]:=by
    have:=Vu.1 h1;exact this
   rcases Qp.1 hp with hp|hp
   ·exact .inr ((Zp.1 w1).2.2 p hp t Fp)
   ·exact .inl (Ql.1 hp)
  obtain⟨t',st',g1,g2,g3,g4,g5⟩:=Qmr (λa ha b hb=>hs a (hPm a ha) b (hPm b hb) c hcm) hc st t h λp hp htp=>by
   rcases htop p hp with rfl|h'
   ·exact absurd htp (Mn _)
   ·exact absurd (jS htp h') (Mn _)
  have tot:∀p∈P,p=t'\/lx X Y p t'\/lx X Y t' p:=λp hp=>by
   obtain⟨i,hi,rfl⟩:=Y0.1 hp;obtain⟨j,hj,e2⟩:=Y0.1 (g2.mem t' Fp);rcases Vb i j with h'|h'|h'
   ·exact .inr (.inl (by rw[<-e2];exact X2.1 w1 i j hi hj h'))
   ·subst h';exact .inl e2
   ·exact .inr (.inr (by rw[<-e2];exact X2.1 w1 j i hj hi h'))
  have hPne:P≠[]:=λh'=>by rw[h']at h1;cases h1
  have hb:∀p∈P,(t'::st').getLast? = some p\/∃b,(t'::st').getLast? = some b/\lx X Y b p:=λp hp=>by
   rw[g5,h2];cases P with
   |nil=>exact absurd rfl hPne
   |
    cons f P' =>
    rcases Qk.1 hp with rfl|hp
    ·exact .inl rfl
    ·exact .inr ⟨f,rfl,(Q0.1 w1).1 p hp⟩
  have hpush:=Qtb g2 hc tot hb g3 g4;obtain⟨t2,st2,k1,k2,k3,k4⟩:=zE hs hrow l (P++[c]) c (t'::st') (by rw[e];simp) hpush Fp (by
   rw[Yj,g5,h2];cases P with
   |nil=>exact absurd rfl hPne
   |cons f P'=>rfl)
  exact⟨t2,st2,by simp only[Nl];rw[g1];exact k1,k2,k3,k4⟩
theorem Qji(tot:∀p∈P,∀q∈P,p=q\/lx X Y p q\/lx X Y q p){z:α}:
 ∀(L L':List α) (f:α),(f::L).Pairwise (lx X Y)->(f::L').Pairwise (lx X Y)->(∀p∈f::L,p∈P)->(∀p∈f::L',p∈P) ->
 Edg (λa b=>∀p∈P,0≤H6 X Y a b p) (f::L)->Edg (λa b=>∀p∈P,0≤H6 X Y a b p) (f::L') ->
 Cnv (λa b c=>0<H6 X Y a b c) (f::L)->Cnv (λa b c=>0<H6 X Y a b c) (f::L')->(f::L).getLast? = some z->(f::L').getLast? = some z->L=L':=by
 have one:∀(L L':List α) (f b b':α),(f::b::L).Pairwise (lx X Y)->(f::b'::L').Pairwise (lx X Y)->(∀p∈f::b::L,p∈P)->b'∈P ->
  Edg (λa b=>∀p∈P,0≤H6 X Y a b p) (f::b::L)->0≤H6 X Y f b' b->Cnv (λa b c=>0<H6 X Y a b c) (f::b::L)->(f::b::L).getLast? = some z->(f::b'::L').getLast? = some z->¬lx X Y b b':=by
  intro L L' f b b' s s' m m' e e' c l l' hlt;have s1:=Q0.1 s;have hfb:lx X Y f b:=s1.1 b Fp;have hcol:H6 X Y f b b'=0:=by
   have:=e.1 b' m';rw[pM]at e';grind
  cases L with
  |
   nil =>
   simp at l;subst l;have hz:b'=b\/lx X Y b' b:=by
    have:b∈f::b'::L':=Kh l';have s2:=(Q0.1 s').2;rcases Qk.1 this with rfl|h
    ·exact absurd hfb (Mn _)
    ·rcases Qk.1 h with h|h
     ·exact .inl h.symm
     ·exact .inr ((Q0.1 s2).1 b h)
   rcases hz with rfl|hz
   ·exact Mn _ hlt
   ·exact Mn _ (jS hlt hz)
  |
   cons d M =>
   have h1:0<H6 X Y f b d:=c.1;have h2:=e.2.1 b' m';have s2:=Q0.1 s1.2;have hbd:lx X Y b d:=s2.1 d Fp;have k:=(ang (Nm hlt) (Nm hfb) (Nm hbd) (by unfold H6 at hcol;grind) (by rw[uY]at h1;exact Rat.le_of_lt h1)).2 (.inr (by rw[uY]at h1;exact h1));unfold H6 at h2;grind
 intro L
 induction L with
 |
  nil =>
  intro L' f s s' m m' e e' c c' l l';simp at l;cases L' with
  |nil=>rfl
  |
   cons b' M' =>
   exfalso;subst l;have h1:=(Q0.1 s').1 f (by
    rw[Yj]at l';exact Kh l')
   exact Mn _ h1
 |
  cons b M ih =>
  intro L' f s s' m m' e e' c c' l l';cases L' with
  |
   nil =>
   exfalso;simp at l';subst l';have h1:=(Q0.1 s).1 f (by
    rw[Yj]at l;exact Kh l)
   exact Mn _ h1
  |
   cons b' M' =>
   have hb:=m b Fp;have hb':=m' b' Fp;have heq:b=b':=by
    rcases tot b hb b' hb' with h|h|h
    ·exact h
    ·exact absurd h (one M M' f b b' s s' m hb' e (e'.1 b hb) c l l')
    ·exact absurd h (one M' M f b' b s' s m' hb e' (e.1 b' hb') c' l' l)
   subst heq;rw[Yj]at l l';rw[ih M' b (Q0.1 s).2 (Q0.1 s').2 (λp hp=>m p (Qh _ hp)) (λp hp=>m' p (Qh _ hp)) e.2 e'.2 c.tail c'.tail l l']
end
end Orq
namespace Orr
open Go
structure RawInt where
 b:Bool
 l:List Nat
structure RawPt where
 x:List RawInt
 y:List RawInt
 d:RawInt
 id:Int
abbrev Aq(z:RawInt):Fb:=[.bool z.b,Q4m z.l]
structure RawInt.Ok(z:RawInt):Prop where
 u:∀u∈z.l,u<4294967296
structure RawPt.Ok(z:RawPt):Prop where
 x:∀a∈z.x,a.Ok
 y:∀a∈z.y,a.Ok
 d:z.d.Ok
 id:-9223372036854775808<=z.id/\z.id<=9223372036854775807
def Tq(most:Int)(z:RawInt):Int:=match z.l with
 | []=>0
 |u::_=>if z.b=true then -((u:Int) % (most+1))else(u:Int) % (most+1)
theorem FV{most:Int}(h:0<=most)(z:RawInt):-most<=Tq most z/\Tq most z<=most:=by
 unfold Tq
 split
 ·omega
 ·rename_i u _ _;have h1:=Yx (u:Int) (b:=most+1) Fj;have h2:=Yd (u:Int) (b:=most+1) Fj
  split <;> omega
def Ht(most:Int)(l:List RawInt):U6:=(l.take 3).map (Tq most)
def Qsd(most:Int)(x y:List RawInt)(d:RawInt):Crv:=⟨Ht most x,Ht most y,Tq 3 d⟩
theorem NL(most:Int)(l:List RawInt):(Ht most l).length<=3:=by unfold Ht;rw[List.length_map,List.length_take];omega
variable{l:List RawInt}{i:Nat}
theorem wM{most:Int}{z:RawInt}(hi:i<3)(h:l[i]? = some z):Ht most (l.take (i+1))=Ht most (l.take i)++[Tq most z]:=by
 unfold Ht;rw[List.take_take,List.take_take,Kj Fj,Kj Fj,Xb,h];simp
theorem ND(most:Int)(h:l.length<=i\/3<=i):Ht most (l.take i)=Ht most l:=by
 unfold Ht;rw[List.take_take];rcases Nat.le_total 3 i with h3|h3
 ·rw[Z8 h3]
 ·rcases h with h|h
  ·rw[Kj h3,Qo (l:=l) (i:=i) Fj,Qo (l:=l) (i:=3) Fj]
  ·rw[Kj h3,show i=3 by omega]
theorem NE{most:Int}{z:Int}(hm:0<=most)(h:z∈Ht most l):-most<=z/\z<=most:=by
 obtain⟨a,_,rfl⟩:=Q8.1 h;exact FV hm a
theorem Qeo{most:Int}(hm:0<=most/\most<=999)(x y:List RawInt)(d:RawInt):Cs 10 3 (Qsd most x y d):=by
 have key:∀z:Int,-999<=z/\z<=999->Gl z<=10:=λz h=>Mm.2 Fj
 refine⟨λz hz=>?_,λz hz=>?_,?_,NL _ _,NL _ _⟩
 ·have:=NE hm.1 hz;exact key _ Fj
 ·have:=NE hm.1 hz;exact key _ Fj
 ·have:=FV (most:=3) Fl d;show Gl (Tq 3 d)<=10;exact key _ Fj
def Pt.nrm(p:Pt):Pt:=⟨p.c.norm,p.id⟩
end Orr
namespace Orr
def Ry(l:List Pt):Prop:=l.Pairwise λa b=>a.id<b.id
theorem Qk4(p:Pt)(l:List Pt)(id:Int):has (p::l) id=if p.id<id then has l id else decide (p.id=id):=by
 by_cases h:p.id<id
 ·rw[if_pos h];unfold has;simp only[Sp];rw[if_pos h];simp
 ·rw[if_neg h];unfold has;simp only[Sp];rw[if_neg h];simp
theorem Qmw(p:Pt)(l:List Pt)(q:Pt):put (p::l) q=if p.id<q.id then p::put l q else q::p::l:=by
 unfold put;simp only[Sp]
 split <;> simp
theorem OC:∀{l:List Pt} {q:Pt},Ry l->has l q.id=false->Ry (put l q)
 | [],q,_,_=>by simp[put,Sp,Ry]
 |
  p::l,q,h,hn=>by
  have h1:=Q0.1 h;rw[Qk4]at hn;rw[Qmw]
  split
  ·rename_i hlt;rw[if_pos hlt]at hn;refine Q0.2 ⟨λx hx=>?_,OC h1.2 hn⟩;rcases DT hx with rfl|hx
   ·exact hlt
   ·exact h1.1 x hx
  ·rename_i hge;rw[if_neg hge,decide_eq_false_iff_not]at hn;refine Q0.2 ⟨λx hx=>?_,h⟩;rcases Qk.1 hx with rfl|hx
   ·omega
   ·have:=h1.1 x hx;omega
end Orr
namespace Orr
open Go
section
variable{α:Type}{lt:α->α->Bool}
theorem Qfa(out:List α)(c:α):(E8 lt out c).Perm (c::out):=by
 unfold E8;exact(List.perm_middle).trans (by rw[Zf])
theorem IQ:∀(l acc:List α),(l.foldl (E8 lt) acc).Perm (l++acc)
 | [],acc=>List.Perm.refl _
 |
  c::l,acc=>by
  simp only[Xl];exact(IQ l _).trans (((Qfa acc c).append_left l).trans List.perm_middle)
theorem iY(l:List α):(Nq lt l).Perm l:=by
 have:=IQ (lt:=lt) l [];rwa[Zw]at this
end
def UA(a b:Pt):Bool:=decide (a.id<b.id)
def Pt.m5(p:Pt):Pt:=⟨p.c,p.id % 5⟩
def Q3z(O:List Pt)(e:Nat):List Pt:=(O.take e).map Pt.m5
def cutN(O:List Pt)(e:Nat):List Pt:=(Q3z O e).map Pt.nrm
def gG(l:List Pt):Prop:=l.Pairwise λa b=>a.id≠b.id
theorem yO:∀{l m:List Pt},Ry l->Ry m->(∀x,x∈l↔x∈m)->l=m
 | [],[],_,_,_=>rfl
 | [],b::m,_,_,h=>absurd ((h b).2 (Qw ..)) Fp
 |a::l,[],_,_,h=>absurd ((h a).1 (Qw ..)) Fp
 |
  a::l,b::m,h1,h2,h=>by
  have h1':=Q0.1 h1;have h2':=Q0.1 h2;have hab:a=b:=by
   rcases Qk.1 ((h a).1 (Qw ..))with e|e
   ·exact e
   ·rcases Qk.1 ((h b).2 (Qw ..))with e2|e2
    ·exact e2.symm
    ·have:=h2'.1 a e;have:=h1'.1 b e2;omega
  subst hab;congr 1;refine yO h1'.2 h2'.2 λx=>⟨λhx=>?_,λhx=>?_⟩
  ·rcases Qk.1 ((h x).1 (Qh _ hx))with e|e
   ·have:=h1'.1 x hx;rw[e]at this;omega
   ·exact e
  ·rcases Qk.1 ((h x).2 (Qh _ hx))with e|e
   ·have:=h2'.1 x hx;rw[e]at this;omega
   ·exact e
theorem fX{l:List Pt}(h:gG l):Ry (Nq UA l) :=
 Orq.foldG_pw (R:=λa b:Pt=>a.id<b.id) (S:=λ_=>True) (D:=λa b:Pt=>a.id≠b.id) (λx y z h1 h2=>Int.lt_trans h1 h2) (λx y _ _ h=>of_decide_eq_true h) (λx y _ _ h1 h=>by have:=of_decide_eq_false h;omega) l [] .nil (λx hx=>by cases hx) (λ_ _=>trivial) h (λx hx=>by cases hx)
end Orr
namespace Orr
open Go
theorem Qku(c:Int)(l:U6):Sx (l.map (· * c))=Sx l*c.natAbs:=by
 have key:∀(l:U6) (g:Nat),(l.map (· * c)).foldl (λg z=>Nat.gcd g z.natAbs) (g*c.natAbs)=l.foldl (λg z=>Nat.gcd g z.natAbs) g*c.natAbs:=by
  intro l
  induction l with
  |nil=>intro g;rfl
  |
   cons z l ih =>
   intro g;simp only[Xa,Xl,Ys,Nat.gcd_mul_right];exact ih _
 have:=key l 0;rwa[Y6]at this
variable{M:List Pt}
theorem Q2i(hs:Ry M){i j:Nat}{p r:Pt}(hij:i<j)(hi:M[i]? = some p)(hj:M[j]? = some r):p.id<r.id:=by
 obtain⟨h1,e1⟩:=Qd.1 hi;obtain⟨h2,e2⟩:=Qd.1 hj;rw[<-e1,<-e2];exact X2.1 hs i j h1 h2 hij
theorem Qk2{i:Nat}(hi:i<M.length):(M.take i++M.drop (i+1)).length+1=M.length:=by
 rw[Qu,Qq,Q9];omega
end Orr
namespace Orr
def Me(a b:Crv):U6:=Eh (Hg (Hr a b) (Hr a b)) (Hg (Hq a b) (Hq a b))
def Hw(a b c d:Crv):U6:=B7 (Gy (Me c d) ((a.d*b.d)*(a.d*b.d))) (Gy (Me a b) ((c.d*d.d)*(c.d*d.d)))
theorem pE{a b:Crv}(ha:Cb a)(hb:Cb b):Gk (Me a b)/\(Me a b).length<=31/\Bd 4194312 (Me a b):=by
 obtain⟨_,l1,b1⟩:=pA ha hb;obtain⟨_,l2,b2⟩:=pL ha hb;have m1:=Pm (Hr a b) (Hr a b);have m2:=Pm (Hq a b) (Hq a b);have q1:=Mv (u:=5) b1 b1 Fj;have q2:=Mv (u:=5) b2 b2 Fj;refine⟨Gw _ _,?_,Fz (KV q1 q2) Fj⟩;have:=ZQ (Hg (Hr a b) (Hr a b)) (Hg (Hq a b) (Hq a b));unfold Me;omega
theorem lC{a b:Crv}(ha:Cb a)(hb:Cb b):Gl (a.d*b.d)<=2097152:=by
 have:=Hb a.d b.d;have:=ha.d;have:=hb.d;omega
theorem Qbl{a b:Crv}(ha:Cb a)(hb:Cb b):Gl ((a.d*b.d)*(a.d*b.d))<=4194304:=by
 have:=Hb (a.d*b.d) (a.d*b.d);have:=lC ha hb;omega
def B6(sg:U6->Int)(a b c d:Pt):Ct:=⟨5,a.id,b.id,c.id,d.id,Hw a.c b.c c.c d.c,G7 sg (Hw a.c b.c c.c d.c)⟩
theorem ID(sg:U6->Int)(a b c d:Pt):(B6 sg a b c d).p=Hw a.c b.c c.c d.c:=by rw[B6]
def Rz:Nat->List Pt->List (Pt×Pt)
 | 0,_=>[]
 |_+1,[]=>[]
 |k+1,x::l=>l.map (λy=>(x,y))++Rz k l
def G9(l:List Pt):List (Pt×Pt):=Rz l.length l
theorem Do:∀(l:List Pt) (i:Nat) (x:Pt),l[i]? = some x->Rz (i+1) l=Rz i l++(l.drop (i+1)).map (λy=>(x,y))
 | [],i,x,h=>by simp at h
 |
  y::l,0,x,h=>by
  simp at h;subst h;simp[Rz]
 |
  y::l,i+1,x,h=>by
  have h:l[i]? = some x:=by simpa using h
  have ih:=Do l i x h;show l.map (λz=>(y,z))++Rz (i+1) l=(l.map (λz=>(y,z))++Rz i l)++_;rw[ih,Za];rfl
theorem Se:∀(k:Nat) (l:List Pt),∀m∈Rz k l,m.1∈l/\m.2∈l
 | 0,l,m,h=>by simp[Rz]at h
 |k+1,[],m,h=>by simp[Rz]at h
 |
  k+1,x::l,m,h=>by
  rcases Qp.1 h with h|h
  ·obtain⟨y,hy,rfl⟩:=Q8.1 h;exact⟨Qw ..,Qh _ hy⟩
  ·obtain⟨h1,h2⟩:=Se k l m h;exact⟨Qh _ h1,Qh _ h2⟩
theorem FG:∀(k:Nat) (l:List Pt),(Rz k l).length<=k*l.length
 | 0,l=>by simp[Rz]
 |k+1,[]=>by simp[Rz]
 |
  k+1,x::l=>by
  have:=FG k l;simp only[Rz,Qu,Ze,Q5];have e:(k+1)*(l.length+1)=k*l.length+k+l.length+1:=by rw[Jn,X1];omega
  omega
def Mz(sg:U6->Int)(s m:Pt×Pt):Pt×Pt:=if G7 sg (Hw s.1.c s.2.c m.1.c m.2.c)<0 then m else s
def Ri(sg:U6->Int)(s:Pt×Pt)(ps:List (Pt×Pt)):Pt×Pt:=ps.foldl (Mz sg) s
theorem WZ(sg:U6->Int)(s m:Pt×Pt):Mz sg s m=m\/Mz sg s m=s:=by
 unfold Mz
 split
 ·exact .inl rfl
 ·exact .inr rfl
theorem A6(sg:U6->Int)(s m:Pt×Pt)(ps:List (Pt×Pt)):Ri sg s (m::ps)=Ri sg (Mz sg s m) ps:=by unfold Ri;rw[List.foldl_cons]
theorem uQ(sg:U6->Int)(s:Pt×Pt)(ps:List (Pt×Pt))(m:Pt×Pt):Ri sg s (ps++[m])=Mz sg (Ri sg s ps) m:=by simp[Ri]
theorem Ad(sg:U6->Int){l:List Pt}:∀(ps:List (Pt×Pt)) (s:Pt×Pt),s.1∈l/\s.2∈l->(∀m∈ps,m.1∈l/\m.2∈l)->(Ri sg s ps).1∈l/\(Ri sg s ps).2∈l
 | [],s,hs,_=>hs
 |
  m::ps,s,hs,h=>by
  have hn:(Mz sg s m).1∈l/\(Mz sg s m).2∈l:=by
   rcases WZ sg s m with e|e
   ·rw[e];exact h m (Qw ..)
   ·rw[e];exact hs
  rw[A6];exact Ad sg ps (Mz sg s m) hn λx hx=>h x (Qh _ hx)
def JP(s m:Pt×Pt):Bool:=decide (m.1.id≠s.1.id) || decide (m.2.id≠s.2.id)
def Bw(sg:U6->Int)(s:Pt×Pt)(ps:List (Pt×Pt)):List Ct:=(ps.filter (JP s)).map λm=>B6 sg s.1 s.2 m.1 m.2
variable{ps:List (Pt×Pt)}
theorem Qru{sg:U6->Int}{s m:Pt×Pt}(h:JP s m=true):Bw sg s (ps++[m])=Bw sg s ps++[B6 sg s.1 s.2 m.1 m.2]:=by simp[Bw,Jf,h]
theorem Qrt{sg:U6->Int}{s m:Pt×Pt}(h:JP s m=false):Bw sg s (ps++[m])=Bw sg s ps:=by simp[Bw,Jf,h]
theorem PW{sg:U6->Int}{s:Pt×Pt}{c:Ct}(h:c∈Bw sg s ps):∃x∈ps,B6 sg s.1 s.2 x.1 x.2=c:=by
 unfold Bw at h;obtain⟨x,hx,e⟩:=Q8.1 h;exact⟨x,(J8.1 hx).1,e⟩
theorem xX(sg:U6->Int)(s:Pt×Pt)(ps:List (Pt×Pt)):(Bw sg s ps).length<=ps.length:=by
 unfold Bw;rw[Ze];exact X8 _ _
def Oe(sg:U6->Int):List Pt->List Pt
 |a::b::l=>[(Ri sg (a,b) (G9 (a::b::l))).1,(Ri sg (a,b) (G9 (a::b::l))).2]
 |_=>[]
def Lz(sg:U6->Int):List Pt->List Ct
 |a::b::l=>Bw sg (Ri sg (a,b) (G9 (a::b::l))) (G9 (a::b::l))
 |_=>[]
variable{l:List Pt}
theorem Qfu(sg:U6->Int)(h:l.length<2):Oe sg l=[]/\Lz sg l=[]:=by
 match l,h with
 | [],_=>exact⟨rfl,rfl⟩
 | [a],_=>exact⟨rfl,rfl⟩
theorem Qz4(h:¬l.length<2):∃a b m,l=a::b::m:=by
 match l,h with
 | [],h=>simp at h
 | [a],h=>simp at h
 |a::b::m,_=>exact⟨a,b,m,rfl⟩
theorem jA(sg:U6->Int)(l:List Pt):(Lz sg l).length<=l.length*l.length:=by
 match l with
 | []=>simp[Lz]
 | [a]=>simp[Lz]
 |a::b::m=>exact Qc (xX _ _ _) (FG _ _)
def O6(l:List U7):Fc:=l.map λr=>[.row (r.map λp=>[pl p])]
abbrev VN(r:U7):Fc:=r.map λp=>[pl p]
theorem WV(l:List U7):(O6 l).length=l.length:=by simp[O6]
def VX(i:Nat)(rows:List U7):Nat->List U7
 | 0=>[]
 |j+1=>if j=i then VX i rows j else VX i rows j++[(rows.getD j []).drop 1]
def VZ(rows:List U7)(i:Nat):List U7:=VX i rows rows.length
def Dw(f:Nat->U6)(rows:List U7):Nat->U6
 | 0=>[]
 |
  i+1=>if ((rows.getD i []).getD 0 []).length=0 then Dw f rows i else
  if i % 2=0 then Eh (Dw f rows i) (Hg ((rows.getD i []).getD 0 []) (f i))else B7 (Dw f rows i) (Hg ((rows.getD i []).getD 0 []) (f i))
def Cj:Nat->List U7->U6
 | 0,_=>[1]
 |k+1,rows=>Dw (λi=>Cj k (VZ rows i)) rows (k+1)
structure Sq(s:Nat)(ds:List Nat)(k w:Nat)(rows:List (List (List Int))):Prop where
 l:rows.length=k
 w:∀r∈rows,r.length=w
 t:∀r∈rows,∀p∈r,Gk p
 b:∀r∈rows,∀p∈r,Bd s p
 n:∀r∈rows,∀(j:Nat) (p:List Int),r[j]? = some p->p.length≤ds.getD j 0+1
theorem IC{i:Nat}{rows:List U7}:∀{j:Nat} {r:U7},j≤rows.length->r∈VX i rows j->∃q∈rows,r=q.drop 1
 | 0,r,_,h=>by simp[VX]at h
 |
  j+1,r,hj,h=>by
  simp only[VX]at h
  split at h
  ·exact IC Fj h
  ·rcases Qp.1 h with h|h
   ·exact IC Fj h
   ·rw[Ql.1 h];exact⟨rows.getD j [],Qa (i:=j) (by rw[Qj,Qf Fj];rfl),rfl⟩
theorem IB{i:Nat}{rows:List U7}:∀(j:Nat),(VX i rows j).length=if i<j then j-1 else j
 | 0=>rfl
 |
  j+1=>by
  have ih:=IB (i:=i) (rows:=rows) j;simp only[VX]
  split
  ·rename_i e;subst e;rw[ih,if_neg Fj,if_pos Fj];omega
  ·rw[Qu,ih,Kb]
   split <;> split <;> omega
theorem Sq.min{s d k w:Nat}{ds:U8}{rows:List U7}(h:Sq s (d::ds) (k+1) (w+1) rows){i:Nat}(hi:i<k+1):Sq s ds k w (VZ rows i):=by
 have hl:=h.l;have hm:∀{r:U7},r∈VZ rows i->∃q∈rows,r=q.drop 1:=λh=>IC (Qm _) h
 refine⟨by unfold VZ;rw[IB,hl,if_pos hi];omega,λr hr=>?_,λr hr p hp=>?_,λr hr p hp=>?_,λr hr j p hp=>?_⟩
 ·obtain⟨q,hq,rfl⟩:=hm hr;rw[Q9,h.w q hq];omega
 all_goals obtain⟨q,hq,rfl⟩:=hm hr
 ·exact h.t q hq p (Qx hp)
 ·exact h.b q hq p (Qx hp)
 ·rw[Xq]at hp;have:=h.n q hq (1+j) p hp;rw[Ye 1 j]at this;exact this
theorem Sq.at{s d k w:Nat}{ds:U8}{rows:List U7}(h:Sq s (d::ds) k (w+1) rows){i:Nat}(hi:i<k):∃p r,rows[i]? = some (p::r)/\(rows.getD i []).getD 0 []=p/\Gk p/\Bd s p/\p.length<=d+1:=by
 obtain⟨r,hr⟩:=gxE (l:=rows) (i:=i) (by rw[h.l];exact hi);have hm:=Qa hr;cases r with
 |nil=>have:=h.w _ hm;simp at this
 |
  cons p r =>
  have e:rows.getD i []=p::r:=by rw[Qj,hr];rfl
  refine⟨p,r,hr,by rw[e];rfl,h.t _ hm p Fp,h.b _ hm p Fp,h.n _ hm 0 p rfl⟩
theorem kB{s d k w:Nat}{ds:U8}{f:Nat->U6}{rows:List U7}{B L:Nat}(h:Sq s (d::ds) k (w+1) rows)(hn:d<31)(hf:∀i,i<k->Bd B (f i)/\(f i).length<=L+1):∀i,i<=k->Gk (Dw f rows i)/\Bd (s+B+5+i) (Dw f rows i)/\(Dw f rows i).length<=d+L+1
 | 0,_=>⟨rfl,λz hz=>(by cases hz),Qg _⟩
 |
  i+1,hi=>by
  obtain⟨h1,h2,h3⟩:=kB h hn hf i Fj;obtain⟨p,r,_,e,t,b,l⟩:=h.at (i:=i) Fj;obtain⟨f1,f2⟩:=hf i Fj;have hp1:Bd (s+B+5) (Hg p (f i)):=Mv b f1 Fj;have hp2:=Pm p (f i);simp only[Dw];rw[e]
  split
  ·exact⟨h1,Fz h2 Fj,h3⟩
  ·split
   ·exact⟨Gw _ _,Fz (KV h2 hp1) Fj,Qc (ZQ _ _) Fj⟩
   ·exact⟨Gw _ _,Fz (El h2 hp1) Fj,Qc (Cg _ _) Fj⟩
theorem DF{s:Nat}:∀(k:Nat) (ds:U8) (rows:List U7),k<=4->ds.length=k->ds.sum<31->Sq s ds k k rows->Gk (Cj k rows)/\Bd (k*(s+10)+1) (Cj k rows)/\(Cj k rows).length<=ds.sum+1
 | 0,ds,rows,_,_,_,_=>⟨rfl,λz hz=>(by simp[Cj]at hz;subst hz;rw[Y6];decide),by simp[Cj]⟩
 |k+1,[],rows,_,hl,_,_=>by simp at hl
 |
  k+1,d::ds,rows,hk,hl,hd,h=>by
  rw[Wh]at hd;have ih:=λi (hi:i<k+1)=>DF k ds (VZ rows i) Fj (by simpa using hl) Fj (h.min hi)
  obtain⟨h1,h2,h3⟩:=kB (f:=λi=>Cj k (VZ rows i)) (B:=k*(s+10)+1) (L:=ds.sum) h Fj (λi hi=>⟨(ih i hi).2.1,(ih i hi).2.2⟩) (k+1) (Qm _);have e1:(k+1)*(s+10)=k*(s+10)+(s+10):=Xp ..;rw[Wh];exact⟨h1,Fz h2 Fj,h3⟩
def pN(a b c:Crv):List U7:=[[a.x,a.y,[a.d]],[b.x,b.y,[b.d]],[c.x,c.y,[c.d]]]
def Gj(a b c:Crv):U6:=Cj 3 (pN a b c)
end Orr
namespace Orr
open Go Go.Proofs Tryz Orq
set_option maxRecDepth 10000
theorem gz{P:Program}[Mo P]{n:Nat}{Q:Exit->Sg->Fe->Prop}{L L':Sg}{B B':Fe}(i:Nat){it:List It}(hs:Tz it=true)(h:Qfx [i] L B=some (L',B'))(k:AK P n Q it L' B'):AK P n Q it L B:=AK.sub (TK h) hs k
variable{r:U7}{i:Nat}
theorem OL{p:U6}(h:r[i]? = some p):(VN r)[i]? = some [pl p]:=Rm h
theorem Ip{l:List U7}(h:l[i]? = some r):(O6 l)[i]? = some [.row (VN r)]:=Rm h
theorem Qg9(ht:∀p∈r,Gk p)(hb:∀p∈r,Bd 1000000 p)(hl:∀p∈r,p.length≤1000000)(hn:r.length≤1000):U3 193 [.one (.row (VN r))] [.one (.row (VN r))]:=by
 have hrl:(VN r).length=r.length:=Fp;refine G5 func193 rfl ?_;refine Uv [.o 3 32 1] rfl ?_;refine U0 (S:=Nat) 1 (λL1 i=>(8,.v (.oi i))::(3,.v (.one (.orow 0 1 none)))::L1) (λi=>[.row false 32 1 (VN (r.take i))]) (λi=>r.length-i) (λi=>i<=r.length) 0 (Qg _) rfl rfl λi hi=>?_
 by_cases h:i<r.length
 ·obtain⟨p,hp⟩:=gxE (l:=r) (i:=i) h;have hm:=Qa hp;have hs:∀y∈[[pl p]],y.length=1:=λy hy=>by rw[Ql.1 hy];rfl
  have e:VN (r.take (i+1))=VN (r.take i)++[[pl p]]:=by rw[Xb,hp];simp
  refine go tt [.T,.x (OL hp),.k (Ti (ht p hm) (by have:=hl p hm;omega) (Fz (hb p hm) Fl)),.s (sz:=1) hs] rfl Fv ?_;exact rd (i+1) Fj h (by rw[e];rfl)
 ·obtain rfl:i=r.length:=Fj;rw[Q6];exact Ux [.F] rfl
variable{rows:List U7}
theorem Q1d{s k w:Nat}{ds:U8}(h:Sq s ds k k rows)(_hw:w=k)(hk:k<=4):U3 244 [.one (.row (O6 rows))] [.one (.bool true)]:=by
 have hrl:=WV rows;have hl:=h.l;refine G5 func244 rfl ?_;refine Uv [] rfl ?_;refine U0 (S:=Nat) 0 (λL1 i=>(7,.v (.oi i))::L1) (λ_=>[]) (λi=>rows.length-i) (λi=>i<=rows.length) 0 (Qg _) rfl rfl λi hi=>?_
 by_cases hlt:i<rows.length
 ·obtain⟨r,hr⟩:=gxE (l:=rows) (i:=i) hlt;have hw:=h.w r (Qa hr);have hql:(VN r).length=r.length:=Fp;refine go tt [.T,.x (Ip hr),.f (decide_eq_false (λh=>h Fj))] rfl Fv ?_;exact rd (i+1) Fj hlt rfl
 ·exact Ux [.F] rfl (by rw[decide_eq_true (by omega:((O6 rows).length:Int)<=4)]) trivial
theorem Qq0{s k w:Nat}{ds:U8}(h:Sq s ds k w rows)(hs:s<=1000000)(hk:k<=4)(hw:w<=4)(hd:∀j,ds.getD j 0<=1000)(i:Nat):U3 288 [.oi i,.oi 0,.one (.row (O6 rows))] [.one (.row (O6 (VZ rows i)))]:=by
 have hrl:=WV rows;have hl:=h.l;have hml:∀j,j<=rows.length->(O6 (VX i rows j)).length<=4:=λj hj=>by
  rw[WV,IB];split <;> omega
 refine G5 func288 rfl ?_;refine Uv [.o 7 282 1] rfl ?_;refine U0 (S:=Nat) 1 (λL1 j=>(15,.v (.oi j))::(7,.v (.one (.orow 0 1 none)))::L1) (λj=>[.row false 282 1 (O6 (VX i rows j))]) (λj=>rows.length-j) (λj=>j<=rows.length) 0 (Qg _) rfl rfl λj hj=>?_
 have hmlj:=hml j hj;by_cases hlt:j<rows.length
 ·obtain⟨r,hr⟩:=gxE (l:=rows) (i:=j) hlt;have hm:=Qa hr;have hw:=h.w r hm;have hql:(VN r).length=r.length:=Fp;by_cases hij:j=i
  ·have e:VX i rows (j+1)=VX i rows j:=by simp only[VX];rw[if_pos hij]
   refine go tt [.T,.x (Ip hr),.T] rfl Fv ?_;exact rd (j+1) Fj hlt (by rw[e];rfl)
  ·have e:VX i rows (j+1)=VX i rows j++[r.drop 1]:=by
    simp only[VX];rw[if_neg hij,Qj,hr];rfl
   refine Uv [.T,.x (Ip hr),.F,.o 10 32 1] rfl ?_ Fw;refine U0 (S:=Nat) 2 (λL1 c=>(25,.v (.oi c))::(10,.v (.one (.orow 1 1 none)))::L1) (λc=>[.row false 282 1 (O6 (VX i rows j)),.row false 32 1 (VN ((r.take c).drop 1))]) (λc=>r.length-c) (λc=>c<=r.length) 0 (Qg _) rfl rfl λc hc=>?_
   by_cases hcl:c<r.length
   ·obtain⟨p,hp⟩:=gxE (l:=r) (i:=c) hcl;have hpm:=Qa hp;by_cases h0:c=0
    ·subst h0;refine Uv [.T,.x (OL hp),.f (decide_eq_false Fp)] rfl ?_ Fw;exact rd 1 Fj hcl (by rw[Xb,hp];rfl)
    ·have hs1:∀y∈[[pl p]],y.length=1:=λy hy=>by rw[Ql.1 hy];rfl
     have e2:VN ((r.take (c+1)).drop 1)=VN ((r.take c).drop 1)++[[pl p]]:=by
      rw[Xb,hp,Wz (by rw[Qq];omega)];simp
     refine go tt [.T,.x (OL hp),.T,.k (Ti (h.t r hm p hpm) (by have:=h.n r hm c p hp;have:=hd c;omega) (Fz (h.b r hm p hpm) Fj)),.s (sz:=1) hs1] rfl Fv ?_;exact rd (c+1) Fj hcl (by rw[e2];rfl)
   ·obtain rfl:c=r.length:=Fj;rw[Q6];have hs1:∀y∈[[LV.row (VN (r.drop 1))]],y.length=1:=λy hy=>by rw[Ql.1 hy];rfl
    refine Uv [.F] rfl ?_;refine gz 1 rfl rfl ?_;refine go tt [.s (sz:=1) hs1] rfl Fv ?_;exact rd (j+1) Fj hlt (by rw[e];simp[O6];rfl)
 ·obtain rfl:j=rows.length:=Fj;exact Ux [.F] rfl
theorem NP:∀(ds:U8) (j:Nat),ds.getD j 0<=ds.sum
 | [],j=>Fp
 |d::ds,0=>Fp
 |
  d::ds,j+1=>by
  have:=NP ds j;rw[Wh];show ds.getD j 0<=_;omega
theorem Qu7{s:Nat}(hs:s<=100000):∀(k:Nat) (ds:U8) (rows:List U7),k<=4->ds.length=k->ds.sum<31->Sq s ds k k rows->U3 245 [.one (.row (O6 rows))] [pr (Cj k rows)]
 |
  0,ds,rows,_,_,_,h=>by
  have e:=Qi h.l;subst e;have co:=Qu3 (p:=[1]) Fl Fl;exact Uy func245 rfl [.t rfl,.k co] rfl
 |k+1,[],_,_,hl,_,_=>by simp at hl
 |
  k+1,d::ds,rows,hk,hl,hd,h=>by
  rw[Wh]at hd;have hl':ds.length=k:=by simpa using hl
  have hrl:=WV rows;have hrn:=h.l;have hmin:=λi (hi:i<k+1)=>h.min hi
  have ih:=λi (hi:i<k+1)=>Qu7 hs k ds (VZ rows i) Fj hl' Fj (hmin i hi)
  have hok:=λi (hi:i<k+1)=>DF k ds (VZ rows i) Fj hl' Fj (hmin i hi)
  have hb:k*(s+10)+1<=500000:=by
   have:k*(s+10)<=4*(100010):=Zg Fj Fj;omega
  have hds:=kB (f:=λi=>Cj k (VZ rows i)) (B:=k*(s+10)+1) (L:=ds.sum) h Fj (λi hi=>⟨(hok i hi).2.1,(hok i hi).2.2⟩);have cm:=Qq0 h Fj hk hk (λj=>by have:=NP (d::ds) j;rw[Wh]at this;omega);show U3 245 [.one (.row (O6 rows))] [pr (Dw (λi=>Cj k (VZ rows i)) rows (k+1))];obtain⟨f,hf⟩:=nmE (λi=>Cj k (VZ rows i));rw[<-hf]at hds ⊢;have hfi:∀i,f i=Cj k (VZ rows i):=λi=>by rw[hf]
  refine G5 func245 rfl ?_;refine Uv [.F,.z 3] rfl ?_;refine U0 (S:=Nat) 0 (λL1 i=>(14,.v (.oi i))::(3,.v (pr (Dw f rows i)))::L1) (λ_=>[]) (λi=>k+1-i) (λi=>i<=k+1) 0 (Qg _) rfl rfl λi hi=>?_
  obtain⟨d1,d2,d3⟩:=hds i hi;by_cases hlt:i<k+1
  ·obtain⟨p,r,hr,e,t,b,l⟩:=h.at hlt;have hx0:(VN (p::r))[0]? = some [pl p]:=rfl;have Dz:(p.map Rj).length=p.length:=Fp;have cn:=Ti t Fj (Fz b Fj);by_cases h0:p.length=0
   ·have es:Dw f rows (i+1)=Dw f rows i:=by simp only[Dw];rw[e,if_pos h0]
    refine go tt [.T,.x (Ip hr),.x hx0,.k cn,.T] rfl Fv ?_;exact rd (i+1) Fj hlt (by rw[es];rfl)
   ·obtain⟨k1,k2,k3⟩:=hok i hlt;have ci:=ih i hlt;have cp:=US (p:=p) (q:=f i) t (by rw[hfi];exact k1) Fj (by rw[hfi];omega) b (by rw[hfi];exact k2) Fj;have hmb:Bd (s+(k*(s+10)+1)+5) (Hg p (f i)):=Mv b (by rw[hfi];exact k2) Fj;have hml:=Pm p (f i);have hfl:(f i).length<=ds.sum+1:=by rw[hfi];exact k3
    rw[<-hfi]at ci;by_cases h2:i % 2=0
    ·have es:Dw f rows (i+1)=Eh (Dw f rows i) (Hg p (f i)):=by simp only[Dw];rw[e,if_neg h0,if_pos h2]
     refine go tt [.T,.x (Ip hr),.x hx0,.k cn,.F,.x hx0,.k (cm i),.k ci,.k cp,.r 34 (eI (b:=((i % 2:Nat):Int)) rfl),.T,.k (EJ (p:=Dw f rows i) (q:=Hg p (f i)) Fj Fj (Fz d2 Fj) (Fz hmb Fj))] rfl Fv ?_;exact rd (i+1) Fj hlt (by rw[es];rfl)
    ·have es:Dw f rows (i+1)=B7 (Dw f rows i) (Hg p (f i)):=by simp only[Dw];rw[e,if_neg h0,if_neg h2]
     refine go tt [.T,.x (Ip hr),.x hx0,.k cn,.F,.x hx0,.k (cm i),.k ci,.k cp,.r 34 (eI (b:=((i % 2:Nat):Int)) rfl),.F,.k (SD (p:=Dw f rows i) (q:=Hg p (f i)) Fj Fj (Fz d2 Fj) (Fz hmb Fj))] rfl Fv ?_;exact rd (i+1) Fj hlt (by rw[es];rfl)
  ·obtain rfl:i=k+1:=Fj;exact Ux [.F] rfl
theorem Qu0{s:Nat}(hs:s<=100000){k:Nat}{ds:U8}(hk:k<=4)(hl:ds.length=k)(hd:ds.sum<31)(h:Sq s ds k k rows):U3 194 [.one (.row (O6 rows))] [pr (Cj k rows),.oi 0] :=
 Uy func194 rfl [.k (Q1d h rfl hk),.f rfl,.k (Qu7 hs k ds rows hk hl hd h)] rfl
theorem dG{k:Crv}(hk:Sc k):U3 192 [.agg (cl k)] [.one (.row (VN [k.x,k.y,[k.d]]))]:=by
 have h0:k.d≠0:=by have:=hk.n.2.2.1;omega
 have td:Gk [k.d]:=by unfold Gk;simp[trim,h0]
 have cd:=Qg9 (r:=[k.x,k.y,[k.d]]) (λp hp=>by
  rcases Qk.1 hp with rfl|hp
  ·exact hk.n.1
  rcases Qk.1 hp with rfl|hp
  ·exact hk.n.2.1
  ·rw[Ql.1 hp];exact td) (λp hp=>by
  rcases Qk.1 hp with rfl|hp
  ·exact Fz hk.c.x Fl
  rcases Qk.1 hp with rfl|hp
  ·exact Fz hk.c.y Fl
  ·rw[Ql.1 hp];intro z hz;rw[Ql.1 hz];exact Qc hk.c.d Fl) (λp hp=>by
  rcases Qk.1 hp with rfl|hp
  ·have:=hk.c.lx;omega
  rcases Qk.1 hp with rfl|hp
  ·have:=hk.c.ly;omega
  ·rw[Ql.1 hp];show 1<=1000000;decide) (by show 3<=1000;decide)
 exact Uy func192 rfl [.k (Ep hk.n (hk.c.mono Fl Fl)),.k cd] rfl
theorem nG{a b c:Crv}(ha:Sc a)(hb:Sc b)(hc:Sc c):Sq 128 [2,2,0] 3 3 (pN a b c):=by
 have key:∀k:Crv,Sc k->(∀p∈[k.x,k.y,[k.d]],Gk p/\Bd 128 p)/\∀(j:Nat) (p:U6),[k.x,k.y,[k.d]][j]? = some p->p.length≤[2,2,0].getD j 0+1:=λk hk=>by
  have h0:k.d≠0:=by have:=hk.n.2.2.1;omega
  have td:Gk [k.d]:=by unfold Gk;simp[trim,h0]
  refine⟨λp hp=>?_,λj p hp=>?_⟩
  ·rcases Qk.1 hp with rfl|hp
   ·exact⟨hk.n.1,hk.c.x⟩
   rcases Qk.1 hp with rfl|hp
   ·exact⟨hk.n.2.1,hk.c.y⟩
   ·rw[Ql.1 hp];exact⟨td,λz hz=>by rw[Ql.1 hz];exact hk.c.d⟩
  ·match j,hp with
   | 0,hp=>injection hp with hp;subst hp;exact hk.c.lx
   | 1,hp=>injection hp with hp;subst hp;exact hk.c.ly
   | 2,hp=>injection hp with hp;subst hp;exact Qm _
   |j+3,hp=>simp at hp
 have hr:∀r∈pN a b c,∃k:Crv,Sc k/\r=[k.x,k.y,[k.d]]:=λr hr=>by
  rcases Qk.1 hr with rfl|hr
  ·exact⟨a,ha,rfl⟩
  rcases Qk.1 hr with rfl|hr
  ·exact⟨b,hb,rfl⟩
  ·rw[Ql.1 hr];exact⟨c,hc,rfl⟩
 refine⟨rfl,λr h=>?_,λr h p hp=>?_,λr h p hp=>?_,λr h j p hp=>?_⟩
 all_goals obtain⟨k,hk,rfl⟩:=hr r h
 ·rfl
 ·exact((key k hk).1 p hp).1
 ·exact((key k hk).1 p hp).2
 ·exact(key k hk).2 j p hp
theorem QN{a b c:Crv}(ha:Sc a)(hb:Sc b)(hc:Sc c):Cp (Gj a b c):=by
 obtain⟨h1,h2,h3⟩:=DF 3 [2,2,0] (pN a b c) Fl rfl Fl (nG ha hb hc);exact⟨h1,Qc h3 Fl,Fz h2 Fl⟩
theorem EX{a b c:Crv}(ha:Sc a)(hb:Sc b)(hc:Sc c):U3 143 [.agg (cl a),.agg (cl b),.agg (cl c)] [pr (Gj a b c)]:=by
 have cd:=Qu0 Fl (k:=3) (ds:=[2,2,0]) Fl rfl Fl (nG ha hb hc);exact Uy func143 rfl [.k (dG ha),.k (dG hb),.k (dG hc),.k cd] rfl
end Orr
namespace Orq
open Orr Go
theorem nN{p q:U6}(tp:Gk p)(tq:Gk q)(h:∀i,p.getD i 0=q.getD i 0):p=q:=by
 have hl:∀{p q:U6},Gk p->(∀i,p.getD i 0=q.getD i 0)->p.length<=q.length:=λ{p q} tp h=>by
  refine Nat.not_lt.1 λhn=>?_
  have h1:=Tt tp Fj;rw[h,Qj,Qy Fj]at h1;exact h1 rfl
 have e:=V4 (hl tp h) (hl tq λi=>(h i).symm);refine List.ext_getElem e λi h1 h2=>?_
 have:=h i;rw[Qj,Qj,Qf h1,Qf h2]at this;exact this
theorem sU{p:U6}(h:p=[])(i:Nat):p.getD i 0=0:=by rw[h];simp
theorem A8(p:U6)(c:Int)(i:Nat):(Gy p c).getD i 0=p.getD i 0*c:=by
 unfold Gy;rw[Mj]
 split
 ·rfl
 ·rename_i h;rw[Qj,Qy Fj];simp
theorem ON(p q:U6)(i:Nat):(B7 p q).getD i 0=p.getD i 0-q.getD i 0:=by
 unfold B7;rw[Mj]
 split
 ·rfl
 ·rename_i h;rw[Qj,Qj,Qy Fj,Qy Fj];simp
theorem Qsu{x y:Crv}(hx:KX x)(hy:KX y)(h1:Hr x y=[])(h2:Hq x y=[]):x=y:=by
 have e1:∀i,y.x.getD i 0*x.d=x.x.getD i 0*y.d:=λi=>by
  have:=sU h1 i;unfold Hr at this;rw[ON,A8,A8]at this;omega
 have e2:∀i,y.y.getD i 0*x.d=x.y.getD i 0*y.d:=λi=>by
  have:=sU h2 i;unfold Hq at this;rw[ON,A8,A8]at this;omega
 have key:∀{x y:Crv},KX x->KX y->(∀i,y.x.getD i 0*x.d=x.x.getD i 0*y.d)->(∀i,y.y.getD i 0*x.d=x.y.getD i 0*y.d)->x.d∣y.d:=λ{x y} hx hy e1 e2=>by
  have hd:=tM (d:=x.d) (l:=(x.d::(x.x++x.y)).map (· * y.d)) λz hz=>by
   obtain⟨w,hw,rfl⟩:=Q8.1 hz;rcases Qk.1 hw with rfl|hw
   ·exact Int.dvd_mul_right _ _
   ·rcases Qp.1 hw with hw|hw
    ·obtain⟨i,hi,rfl⟩:=Y0.1 hw;have:=e1 i;rw[show x.x.getD i 0=x.x[i] from by rw[Qj,Qf hi];rfl]at this;rw[<-this];exact Vv _ _
    ·obtain⟨i,hi,rfl⟩:=Y0.1 hw;have:=e2 i;rw[show x.y.getD i 0=x.y[i] from by rw[Qj,Qf hi];rfl]at this;rw[<-this];exact Vv _ _
  rw[Qku,hx.2.2.2,W7]at hd;exact Kl hd (Int.natAbs_dvd.2 (Wp _))
 have hd:x.d=y.d:=Int.dvd_antisymm (Int.le_of_lt hx.2.2.1) (Int.le_of_lt hy.2.2.1) (key hx hy e1 e2) (key hy hx (λi=>(e1 i).symm) λi=>(e2 i).symm);have hd0:y.d≠0:=by have:=hy.2.2.1;omega
 rw[hd]at e1 e2;have ex:x.x=y.x:=nN hx.1 hy.1 λi=>(Vp hd0 (e1 i)).symm
 have ey:x.y=y.y:=nN hx.2.1 hy.2.1 λi=>(Vp hd0 (e2 i)).symm
 cases x;cases y;simp only at hd ex ey;rw[hd,ex,ey]
theorem Qud(l:List Pt):(Gv l).Pairwise λx y=>x.c≠y.c:=by
 have key:∀(l out:List Pt),out.Pairwise (λx y=>x.c≠y.c)->(l.foldl Pq out).Pairwise λx y=>x.c≠y.c:=by
  intro l
  induction l with
  |nil=>intro out h;exact h
  |
   cons p l ih =>
   intro out h;refine ih _ ?_;unfold Pq
   split
   ·exact h
   ·rename_i hn;refine Zp.2 ⟨h,K9 _ _,λa ha b hb e=>hn ?_⟩;rw[Ql.1 hb]at e;rw[List.any_eq_true];exact⟨a,ha,by rw[<-e];simp[Nv]⟩
 exact key l [] .nil
theorem An(l:List Pt):(Gv l).Sublist l:=by
 have key:∀(l out o:List Pt),out.Sublist o->(l.foldl Pq out).Sublist (o++l):=by
  intro l
  induction l with
  |nil=>intro out o h;rw[Zw];exact h
  |
   cons p l ih =>
   intro out o h;have:(Pq out p).Sublist (o++[p]):=by
    unfold Pq
    split
    ·exact h.trans (List.sublist_append_left _ _)
    ·exact h.append (List.Sublist.refl _)
   have:=ih _ _ this;rwa[Za]at this
 exact key l [] [] (List.Sublist.refl _)
theorem Ck(f:Nat->U6)(rows:List U7)(q:Rat)(i:Nat):Gf (Dw f rows (i+1)) q=Gf (Dw f rows i) q+(if i % 2=0 then 1 else -1)*(Gf ((rows.getD i []).getD 0 []) q*Gf (f i) q):=by
 simp only[Dw]
 split
 ·rename_i h;have:Gf ((rows.getD i []).getD 0 []) q=0:=by rw[Qi h];rfl
  rw[this];grind
 ·split
  ·rw[OV,Hp];grind
  ·rw[Cm,Hp];grind
theorem Qcf(z:Int)(q:Rat):Gf [z] q=(z:Rat):=by simp[Gf,Rat.add_zero]
theorem pI(p:U6)(q:Rat):Gf (Cj 1 [[p]]) q=Gf p q:=by
 show Gf (Dw (λi=>Cj 0 (VZ [[p]] i)) [[p]] (0+1)) q=_;rw[Ck];show(0:Rat)+1*(Gf p q*Gf [1] q)=_;rw[Qcf];have:((1:Int):Rat)=1:=rfl;grind
theorem OY(p r s t:U6)(q:Rat):Gf (Cj 2 [[p,r],[s,t]]) q=Gf p q*Gf t q-Gf s q*Gf r q:=by
 show Gf (Dw (λi=>Cj 1 (VZ [[p,r],[s,t]] i)) [[p,r],[s,t]] (0+1+1)) q=_;rw[Ck,Ck];show(0:Rat)+1*(Gf p q*Gf (Cj 1 [[t]]) q)+(-1)*(Gf s q*Gf (Cj 1 [[r]]) q)=_;rw[pI,pI];grind
theorem VG(a1 a2 a3 b1 b2 b3 c1 c2 c3:U6)(q:Rat):Gf (Cj 3 [[a1,a2,a3],[b1,b2,b3],[c1,c2,c3]]) q=Gf a1 q*(Gf b2 q*Gf c3 q-Gf c2 q*Gf b3 q)-Gf b1 q*(Gf a2 q*Gf c3 q-Gf c2 q*Gf a3 q)+Gf c1 q*(Gf a2 q*Gf b3 q-Gf b2 q*Gf a3 q):=by
 show Gf (Dw (λi=>Cj 2 (VZ [[a1,a2,a3],[b1,b2,b3],[c1,c2,c3]] i)) [[a1,a2,a3],[b1,b2,b3],[c1,c2,c3]] (0+1+1+1)) q=_;rw[Ck,Ck,Ck];show(0:Rat)+1*(Gf a1 q*Gf (Cj 2 [[b2,b3],[c2,c3]]) q)+(-1)*(Gf b1 q*Gf (Cj 2 [[a2,a3],[c2,c3]]) q)+1*(Gf c1 q*Gf (Cj 2 [[a2,a3],[b2,b3]]) q)=_;rw[OY,OY,OY];grind
theorem aA{a b c:Pt}(ha:Sc a.c)(hb:Sc b.c)(hc:Sc c.c)(q:Rat):Gn (Gf (Gj a.c b.c c.c) q)=Gn (H6 (px · q) (py · q) a b c):=by
 have Sp:∀{k:Crv},Sc k->(0:Rat)<(k.d:Rat):=λh=>by exact_mod_cast h.n.2.2.1
 have pa:=Sp ha;have pb:=Sp hb;have pc:=Sp hc;have xx:∀{p:Pt},0<(p.c.d:Rat)->Gf p.c.x q=px p q*(p.c.d:Rat)/\Gf p.c.y q=py p q*(p.c.d:Rat):=λ{p} h=>by
  unfold px py;exact⟨(Zj Fq).symm,(Zj Fq).symm⟩
 obtain⟨xa,ya⟩:=xx pa;obtain⟨xb,yb⟩:=xx pb;obtain⟨xc,yc⟩:=xx pc;have e:Gf (Gj a.c b.c c.c) q=((a.c.d:Rat)*(b.c.d:Rat)*(c.c.d:Rat))*H6 (px · q) (py · q) a b c:=by
  unfold Gj pN H6;rw[VG,Qcf,Qcf,Qcf,xa,xb,xc,ya,yb,yc];grind
 rw[e,Ln (Xm (Xm pa pb) pc)]
def RZ(sg:U6->Int)(a b c:Pt):Bool:=decide (0<G7 sg (Gj a.c b.c c.c))
def Mw(sg:U6->Int)(row:List Pt):List Pt:=(Nl (RZ sg) [] row).reverse
def Mf(sg:U6->Int)(row:List Pt):List Pt:=if row.length<3 then row else(Mw sg row).dropLast++(Mw sg row.reverse).dropLast
def Hn(l:List Pt)(a:Tm):List Pt:=Mf (Gm a) (Ra a (Gv l))
def Sl(C:List Pt):List (Pt×Pt):=C.zip (C.drop 1++C.take 1)
def Ab(sg:U6->Int)(a b c:Pt):Ct:=⟨3,a.id,b.id,c.id,0,Gj a.c b.c c.c,G7 sg (Gj a.c b.c c.c)⟩
def WC(e:Pt×Pt)(c:Pt):Bool:=decide (c.id≠e.1.id) && decide (c.id≠e.2.id)
def I0(sg:U6->Int)(l:List Pt)(e:Pt×Pt):List Ct:=(l.filter (WC e)).map λc=>Ab sg e.1 e.2 c
def Da(sg:U6->Int)(l C:List Pt):List Ct:=if C.length<2 then []else(Sl C).flatMap (I0 sg l)
def qT(l:List Pt)(a:Tm):List Ct:=UF l a++Da (Gm a) l (Hn l a)
abbrev brH(l:List Pt)(a:Tm):Fc:=Fx (Hn l a)
def LF(l:List Pt):U7:=l.flatMap λx=>l.flatMap λy=>l.map λz=>Gj x.c y.c z.c
variable{l:List Pt}{x:Pt}
theorem hZ{y z:Pt}(hx:x∈l)(hy:y∈l)(hz:z∈l):Gj x.c y.c z.c∈LF l :=
 Zo.2 ⟨x,hx,Zo.2 ⟨y,hy,Q8.2 ⟨z,hz,rfl⟩⟩⟩
theorem Qpl(hl:∀p∈l,Sc p.c):∀p∈LF l,Cp p:=λp hp=>by
 obtain⟨x,hx,hp⟩:=Zo.1 hp;obtain⟨y,hy,hp⟩:=Zo.1 hp;obtain⟨z,hz,rfl⟩:=Q8.1 hp;exact QN (hl x hx) (hl y hy) (hl z hz)
theorem OG{α:Type}(s:α->α->α->Bool)(c:α):∀st:List α,(Ai s c st).Sublist st
 | []=>List.Sublist.refl _
 | [_]=>List.Sublist.refl _
 |
  b::a::r=>by
  simp only[Ai]
  split
  ·exact List.Sublist.refl _
  ·exact(OG s c (a::r)).trans (List.sublist_cons_self _ _)
theorem UN{α:Type}{s:α->α->α->Bool}:∀{l acc:List α} {x:α},x∈Nl s acc l->x∈acc\/x∈l
 | [],acc,x,h=>.inl h
 |
  c::l,acc,x,h=>by
  rcases UN (l:=l) h with h|h
  ·rcases Qk.1 h with rfl|h
   ·exact .inr Fp
   ·exact .inl ((OG s c acc).subset h)
  ·exact .inr (Qh _ h)
theorem UM{α:Type}(s:α->α->α->Bool):∀(l acc:List α),(Nl s acc l).length<=acc.length+l.length
 | [],acc=>by simp[Nl]
 |
  c::l,acc=>by
  have h1:=UM s l (c::Ai s c acc);have h2:=(OG s c acc).length_le;simp only[Nl,Q5]at h1 ⊢;omega
variable{row:List Pt}
theorem EN{sg:U6->Int}(h:x∈Mw sg row):x∈row:=by
 unfold Mw at h;rcases UN (Xh.1 h)with h|h
 ·cases h
 ·exact h
theorem XF(sg:U6->Int)(row:List Pt):(Mw sg row).length<=row.length:=by
 have:=UM (RZ sg) row [];unfold Mw;rw[List.length_reverse];simpa using this
theorem FB{sg:U6->Int}(h:x∈Mf sg row):x∈row:=by
 unfold Mf at h
 split at h
 ·exact h
 ·rcases Qp.1 h with h|h
  ·exact EN ((List.dropLast_sublist _).subset h)
  ·exact Xh.1 (EN ((List.dropLast_sublist _).subset h))
theorem aN(sg:U6->Int)(row:List Pt):(Mf sg row).length<=2*row.length:=by
 unfold Mf
 split
 ·omega
 ·have h1:=XF sg row;have h2:=XF sg row.reverse;rw[Jb]at h2;rw[Qu,List.length_dropLast,List.length_dropLast];omega
theorem Tr{a:Tm}(h:x∈Hn l a):x∈l:=Hu (Hk.1 (FB h))
theorem PX(l:List Pt)(a:Tm):(Hn l a).length<=2*l.length:=by
 have h1:=aN (Gm a) (Ra a (Gv l));rw[Mq]at h1;have:=Bh l;unfold Hn;omega
theorem NH{C:List Pt}{e:Pt×Pt}(h:e∈Sl C):e.1∈C/\e.2∈C:=by
 unfold Sl at h;have h1:=List.of_mem_zip (show(e.1,e.2)∈_ from h);refine⟨h1.1,?_⟩;rcases Qp.1 h1.2 with h|h
 ·exact Qx h
 ·exact Qn h
theorem IG{sg:U6->Int}{C:List Pt}{x:Ct}(h:x∈Da sg l C):∃e∈Sl C,∃c∈l,WC e c=true/\x=Ab sg e.1 e.2 c:=by
 unfold Da at h
 split at h
 ·cases h
 ·obtain⟨e,he,h⟩:=Zo.1 h;obtain⟨c,hc,rfl⟩:=Q8.1 h;obtain⟨h1,h2⟩:=J8.1 hc;exact⟨e,he,c,h1,h2,rfl⟩
theorem vM{a:Tm}:∀x∈qT l a,x.p∈Is l++LF l:=λx hx=>by
 rcases Qp.1 hx with hx|hx
 ·exact Zy _ (oV x hx)
 ·obtain⟨e,he,c,hc,_,rfl⟩:=IG hx;obtain⟨h1,h2⟩:=NH he;exact X9 _ (hZ (Tr h1) (Tr h2) hc)
theorem CQ(hl:∀p∈l,Sc p.c):∀p∈Is l++LF l,Cp p:=λp hp=>by
 rcases Qp.1 hp with h|h
 ·exact XQ hl p h
 ·exact Qpl hl p h
theorem UC{α β:Type}(f:α->List β)(n:Nat):∀(m:List α),(∀x∈m,(f x).length≤n)->(m.flatMap f).length≤m.length*n
 | [],_=>Fp
 |
  x::m,h=>by
  have:=UC f n m λy hy=>h y (Qh _ hy)
  have:=h x Fp;rw[Yk,Qu,Q5,Xp];omega
theorem lP(sg:U6->Int)(l C:List Pt):(Da sg l C).length<=C.length*l.length:=by
 unfold Da
 split
 ·simp
 ·refine Qc (UC _ l.length _ λe _=>?_) (Q3 _ ?_)
  ·unfold I0;rw[List.length_map];exact List.length_filter_le _ _
  ·unfold Sl;rw[List.length_zip];exact Nat.min_le_left _ _
theorem bO(hl:∀p∈l,Sc p.c)(hn:l.length≤10):BuildOk (qT l) :=
 ⟨λ_ _ x hx=>CQ hl _ (vM x hx),λa _=>by
  have h1:=lP (Gm a) l (Hn l a);have h2:=PX l a;have h3:(Hn l a).length*l.length<=20*10:=Zg Fj hn;show(UF l a++Da (Gm a) l (Hn l a)).length<=1000;have h4:(UF l a).length<=l.length:=by unfold UF;rw[Ds,Mq];omega
  rw[Qu];omega⟩
def Lv{α:Type}(l:List α):List (α×α):=l.zip (l.drop 1)
theorem HW{α:Type}{Q:α->α->Prop}:∀{l:List α},Edg Q l↔∀e∈Lv l,Q e.1 e.2
 | []=>by simp[Edg,Lv]
 | [_]=>by simp[Edg,Lv]
 |
  a::b::l=>by
  have ih:=HW (Q:=Q) (l:=b::l);have e:Lv (a::b::l)=(a,b)::Lv (b::l):=rfl;rw[e];constructor
  ·rintro⟨h1,h2⟩ x hx
   rcases Qk.1 hx with rfl|hx
   ·exact h1
   ·exact ih.1 h2 x hx
  ·intro h;exact⟨h (a,b) Fp,ih.2 λx hx=>h x (Qh _ hx)⟩
variable{α:Type}
theorem EA(f z:α)(A:List α):Lv (f::A++[z])=(f::A).zip (A++[z]):=by
 unfold Lv;rw[Xf,Kq,X7];have:f::(A++[z])=(f::A)++[z]:=rfl;rw[this];have h:A++[z]=(A++[z])++[]:=(Zw _).symm
 conv=>lhs;rw[h]
 rw[List.zip_append Fp];simp
theorem tL{f z:Pt}{A B:List Pt}:Sl ((f::A++[z]).dropLast++(z::B++[f]).dropLast)=Lv (f::A++[z])++Lv (z::B++[f]):=by
 rw[Xg,Xg,EA,EA,<-List.zip_append Fp];unfold Sl;congr 1;simp
theorem Edg.rev{Q:α->α->Prop}:∀{l:List α},Edg Q l->Edg (λa b=>Q b a) l.reverse:=by
 have app:∀{Q:α->α->Prop} {l:List α} {b a:α},Edg Q (l++[b])->Q b a->Edg Q (l++[b]++[a]):=by
  intro Q l
  induction l with
  |nil=>intro b a _ h;exact⟨h,trivial⟩
  |
   cons x l ih =>
   intro b a h h2;cases l with
   |nil=>exact⟨h.1,ih h.2 h2⟩
   |cons y l=>exact⟨h.1,ih h.2 h2⟩
 intro l
 induction l with
 |nil=>intro _;trivial
 |
  cons a l ih =>
  intro h;cases l with
  |nil=>trivial
  |
   cons b l =>
   have:=ih h.2;rw[Y9]at this ⊢;rw[Y9];exact app this h.1
theorem Cnv.rev{R:α->α->α->Prop}:∀{l:List α},Cnv R l->Cnv (λa b c=>R c b a) l.reverse:=by
 have app:∀{R:α->α->α->Prop} {l:List α} {c b a:α},Cnv R (l++[c,b])->R c b a->Cnv R (l++[c,b,a]):=by
  intro R l
  induction l with
  |nil=>intro c b a _ h;exact⟨h,trivial⟩
  |
   cons x l ih =>
   intro c b a h h2;cases l with
   |nil=>exact⟨h.1,ih h.2 h2⟩
   |
    cons y l =>
    cases l with
    |nil=>exact⟨h.1,ih h.2 h2⟩
    |cons w l=>exact⟨h.1,ih h.2 h2⟩
 intro l
 induction l with
 |nil=>intro _;trivial
 |
  cons a l ih =>
  intro h
  match l,h with
  | [],_=>trivial
  | [_],_=>trivial
  |
   b::c::l,h =>
   have:=ih h.2;rw[Y9,Y9,Za]at this;rw[Y9,Y9,Y9,Za,Za];exact app this h.1
end Orq
