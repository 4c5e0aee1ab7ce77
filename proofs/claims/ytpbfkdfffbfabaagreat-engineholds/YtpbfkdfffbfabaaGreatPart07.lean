import Derived.Test.YtpbfkdfffbfabaaGreatPart06
import Derived.Test.YtpbfkdfffbfabaaGreatPart00
import Derived.Test.YtpbfkdfffbfabaaGreatPart05
import Derived.Test.YtpbfkdfffbfabaaGreatPart04
set_option linter.all false
namespace Orq
open Orr Go
theorem Qx4{c:Rat->Int}(hc:Cut c):∀(n:Nat) (f:Fb),HD f n->∃s,s≠0/\RS f c s
 |
  n,f,h=>by
  rcases WP hc f with hv|⟨s,hs,hn⟩
  .cases n with
   |
    zero =>
    exfalso;obtain⟨q,d,_⟩:=vN hc (hv (Gw (f.getD 0 0)) (L8 h.1));cases f with
    |nil=>exact h.1 Ft
    |
     cons a l =>
     have:=An (p:=l) λk=>by have:=h.2 (k+1) Fo;rwa[Q4]at this
     simp only[ev,this,Zu]at d;grind
   |
    succ n =>
    have hd:HD (Cv f) n:=by
     have b:∀(f:Fb) (k:Nat),(Cv f).getD k 0=((k+1:Nat):Rat)*f.getD (k+1) 0:=by
      intro f
      induction f with
      |nil=>intro k;simp only[Cv,Wc];grind
      |
       cons a f ih =>
       intro k;simp only[Cv];rw[Tz,Q4];cases k with
       |zero=>rw[Zu];push_cast;grind
       |succ k=>rw[Q4,ih];push_cast;grind
     refine⟨λh0=>?_,λk e=>by rw[b,h.2 (k+1) Fo];grind⟩;rw[b]at h0;rcases Yo.1 h0 with h1|h1
     .have:=nat_pos (show 0<n+1 by omega);grind
     .exact h.1 h1
    obtain⟨s,hs,h1⟩:=Qx4 hc n (Cv f) hd;exact⟨s,hs,rI hc hv h1 hs⟩
  .exact⟨s,hs,kE hc hn⟩
variable{c:Rat->Int}
theorem Qpm(hc:Cut c){f p q:Fb}{s b:Int}(e:∀t,ev f t=ev p t*ev q t)(h:RS p c s)(g:RS q c b):RS f c (s*b):=by
 obtain⟨y,h1,h2⟩:=h;obtain⟨a,h3,h4⟩:=g;refine⟨if y<=a then y else a,by split <;> assumption,λz d i=>?_⟩;rw[e,Mn,h2 z d (by clear h2 h4;grind),h4 z d (by clear h2 h4;grind)]
theorem Qpn(hc:Cut c){f o S:Fb}{k:Rat}(r:k≠0)(l:∀t,ev f t=k*(ev o t*(ev S t*ev S t)))(g:¬∀t,ev f t=0){s:Int}(h:RS o c s):RS f c (Gu k*s):=by
 obtain⟨n,_,hn⟩:∃n,n<S.length/\HD S n:=by
  rcases BO S with h1|h1
  .exact absurd (λt=>by rw[l,h1];grind) g
  .exact h1
 obtain⟨j,p,d⟩:=Qx4 hc n S hn;have h1:=Qpm hc (f:=Hz S S) (λt=>Gl t _ _) d d;have h2:=Qpm hc (f:=Hz o (Hz S S)) (λt=>Gl t _ _) h h1;have b:j*j=1:=by
  obtain⟨y,a,i⟩:=d;have:=i y a Qp;rcases Hd (ev S y)with⟨e,_⟩|⟨e,_⟩|⟨e,_⟩
  .rw[<-this,e];rfl
  .omega
  .rw[<-this,e];rfl
 rw[b,W6]at h2;obtain⟨y,a,i⟩:=h2;exact⟨y,a,λz q m=>by
  have:=i z q m;rw[Gl,Gl]at this;rw[l,Mn,this]⟩
structure Cp(p:List Int):Prop where
 t:Gg p
 l:p.length<=9
 b:Bd 1110 p
variable{p:U8}
theorem Cp.dp(h:Cp p):Dp p:=⟨h.t,h.l,Fz h.b Fo⟩
def Leq(a:Tm)(c:Rat->Int):Prop:=∀q,c q=-1->Gt a q=-1
def T0(p:U8)(a:Tm):Option Tm->Prop
 |none=>p=[]\/∃s,s≠0/\∀c,Cut c->Leq a c->RS (cz p) c s
 |some t=>p≠[]/\Va t/\M9 a t/\∃s,s≠0/\(∀c,Cut c->Leq a c->(∃m,c m=-1/\Gt t m=1)->RS (cz p) c s)/\RS (cz p) (Gt t) (-s)
theorem RI.len{q:U8}{L:Fc}{lo hi:Rat}{l:List Tm}(h:RI q L lo l hi):l.length+vv L hi<=vv L lo:=by
 induction h with
 |nil h hv=>simp;omega
 |cons h hv ht hp hl a=>have:=ht.v;simp only[Q5];omega
theorem Qqj(x:Rat):∀(L:Fc) (s:Int),tc x s L<=L.length
 | [],_=>Ql _
 |
  f::l,s=>by
  have h1:=Qqj x l;simp only[tc,Q5]
  repeat' split
  all_goals (first|(have:=h1 s;omega)|(have:=h1 (Gu (ev f x));omega))
theorem Q19(L:Fc)(x:Rat):vv L x<=L.length:=Qqj x L 0
theorem A6(h:Cp p):∃l,Ik p=some l/\l.length≤67/\(∀t∈l,Va t)/\∀a,Va a->∃r,QO a l=some r/\T0 p a r/\∀t,r=some t->t∈l:=by
 unfold Ik;by_cases h0:p.length=0
 .have e:p=[]:=Qg h0;subst e;exact⟨[],rfl,Fp,(λt ht=>by cases ht),λa _=>⟨none,rfl,.inl rfl,λt ht=>by cases ht⟩⟩
 .obtain⟨Z,o,q1,o1,i⟩:=rQ (n:=9) (s:=1110) (p:=p) ⟨⟨Fp,Fp⟩,h.t,h0,h.l,h.b⟩;obtain⟨g,sq⟩:=i.sq;obtain⟨S,hS⟩:=i.os;obtain⟨p1,p2,p3,p4,p5,p6,p7⟩:=M6 h.t h0;have hpl:=h.l;obtain⟨hh,th,eh⟩:=i.oh;have bo:Bd 1179 o:=Ex (p5 1110 h.b) Fo p1 i.ot th Fo eh;obtain⟨V,T⟩:=Rv p1 Fo eh;have hlen:=Sx i.ot th p1 eh V T;have I:Okp 9 1180 o:=⟨rZ,i.ot,Fo,Fo,Fz bo Fo⟩;obtain⟨q,c,l,r1,r2,r3,X,H,j,x⟩:=Qpk I;obtain⟨C,q',L,B⟩:=Oh I;rw[r1]at L;injection L with L;subst L;obtain⟨_,_,_,_,_,o6,U⟩:=M6 i.ot Fo;have R:C=[1]:=by
   refine B.pg.one ?_;obtain⟨E,M⟩:=i.oq;have M:∀t,Gf Z t=Gf o t*ev E t:=λt=>by have:=M t;rwa[Gd,Gd]at this
   obtain⟨z,hz⟩:=B.d;have G:∀t,Gf o t=Gf C t*(Ro o*Gf q t):=λt=>by rw[U,B.e];grind
   have O:∀t,dv (cz o) t=Gf C t*(Ro o*ev z t):=λt=>by
    have:=Ql6 (p:=cz o) (q:=Nq (Ro o) (cz (Gj o))) (λt=>by rw[Gd,G8,Gd,U]) t;rw[this,MH,hz];grind
   obtain⟨k,J,P⟩:=sq.num (d:=cz C) ⟨Hz (Nq (Ro o) (cz q)) E,λt=>by rw[Gd,Gd,M,G,Gl,G8,Gd];grind⟩ ⟨Ty (Hz (Nq (Ro o) z) E) (Hz (Nq (Ro o) (cz q)) (Cv E)),λt=>by
    have:=ZV (f:=cz Z) (w:=cz o) (u:=E) (λt=>by rw[Gd,Gd,M]) t;rw[Si,this,O,Gd,Gd,G,Hg,Gl,Gl,G8,G8,Si,Gd];grind⟩
   rcases Q7 C.length 2 with e|e
   .exact e
   .exfalso;have h1:=(FP B.pg.t Fo).1;have h2:=Lr (p:=cz C) (q:=[k]) (λt=>by rw[P];simp only[ev];grind) (C.length-1);rw[h2,Qe,Qu Fq]at h1;exact h1 rfl
  have D:∀t,ev (cz p) t=((Ro p:Rat)*(Ro o:Rat))*(ev (cz q) t*(ev S t*ev S t)):=λt=>by
   rw[Gd,Gd,p7,hS,U,B.e,R,Rx];grind
  have v:(Ro p:Rat)*(Ro o:Rat)≠0:=λh=>(Yo.1 h).elim (ZU p6) (ZU o6)
  have A:¬∀t,ev (cz p) t=0:=λh'=>YN h.t Fo λt=>by rw[<-Gd];exact h' t
  obtain⟨k,J⟩:=nmE (Gu ((Ro p:Rat)*(Ro o:Rat)));have K:k≠0:=λh=>v (Hy.1 (by rw[<-J];exact h))
  have ho:o.length≠0:=Fo;rw[o1];show ∃l,(if o.length=0 then some []else WV o)=some l/\l.length<=67/\_;rw[if_neg ho];have hb1:=ZL (Do B.pq.t B.pq.n);have hll:=H.len;have W:=Q19 (c.map cz) (-Hm q);have hcl:=(Orr.chain_ok (p:=o) ⟨i.ot,Fo,Fz bo Fo⟩ r2).1;rw[Ze]at W;refine⟨l,r3,Fo,j,λa ha=>?_⟩;obtain⟨r,n1,n2⟩:=Qhr X ha H j (λz hz=>(x _ _ hz (.inl Qp)).symm) λz _ hz=>by
   rcases Classical.em (z=-Hm q)with e|e
   .rw[e]
   .exact x z _ Fu (.inr Qp)
  refine⟨r,n1,?_,λt ht=>by subst ht;exact n2.1⟩;cases r with
  |
   none =>
   obtain⟨s,hs,hz⟩:=n2;refine .inr ⟨k*s,Jw K hs,λc hc F=>?_⟩;obtain⟨y,hy⟩:=hc.hi;have h1:RS (cz q) c s:=⟨y,hy,λz Y _=>hz z (F z Y)⟩;rw[J];exact Qpn hc v D A h1
  |
   some t =>
   obtain⟨hm,N,s,hs,hz,Q⟩:=n2;refine⟨λe=>h0 (by rw[e];rfl),j t hm,N,k*s,Jw K hs,λc hc F ⟨m,m1,m2⟩=>?_,?_⟩
   .have h1:RS (cz q) c s:=⟨m,m1,λz Y z2=>hz z (F z Y) (by
     rcases Classical.em (z=m)with e|e
     .rw[e];exact m2
     .exact(j t hm).cut.mono' (q:=z) (r:=m) Fu Fo)⟩
    rw[J];exact Qpn hc v D A h1
   .have:=Qpn (j t hm).cut v D A Q;rw[<-J]at this;rw[show -(k*s)=k*-s by rw[V2]];exact this
structure Sz(s n:Nat)(t:Tm):Prop where
 n:t.p.length<=n
 b:Bd (s+138) t.p
 g:∃D M k,Gr D M k t.lo/\Gr D M k t.hi/\0<M/\Gm (D:Int)<=s+138/\Gm (M:Int)<=s+139/\k<=63*s+9507
theorem Qoe(h:Cp p){a:Tm}(ha:Va a):∃r,CW p a=some r/\T0 p a r:=by
 obtain⟨l,l1,_,_,l3⟩:=A6 h;obtain⟨r,r1,r2,_⟩:=l3 a ha;refine⟨r,?_,r2⟩;unfold CW;rw[l1];exact r1
theorem UF:∀(l:List Tm) (b:Tm),(∀t∈b::l,Va t)->∃m,O1 b l=some m/\m∈b::l/\∀t∈b::l,¬M9 t m
 |
  [],b,h=>⟨b,rfl,Qy ..,λt ht f=>by
  rw[Qk.1 ht]at f;have hb:=(h b (Qy ..)).cut;exact Cq hb hb f f⟩
 |
  a::l,b,h=>by
  have ha:=h a Ft;have hb:=h b Ft;obtain⟨c,s,k⟩:=QP ha hb;obtain⟨m,u,n,p⟩:=UF l (if c<0 then a else b) λt ht=>by
   rcases Qm.1 ht with rfl|ht
   .split <;> assumption
   .exact h t (by simp[ht])
  refine⟨m,by simp only[O1];rw[s];exact u,?_,λt ht=>?_⟩
  .rcases Qm.1 n with e|e
   .rw[e];split <;> simp
   .simp[e]
  .have hm:Va m:=by
    rcases Qm.1 n with e|e
    .rw[e];split <;> assumption
    .exact h m (by simp[e])
   have d:=p _ (Qy ..);have tr:∀x y:Tm,Va x->Va y->¬M9 x y->¬M9 y m->¬M9 x m:=λx y hx o h1 h2 h3=>by
    rcases tri o.cut hm.cut with h4|h4|h4
    .exact h2 h4
    .obtain⟨q,i,j⟩:=h3;exact h1 ⟨q,i,by rw[h4];exact j⟩
    .obtain⟨q,i,j⟩:=h3;obtain⟨r,r1,r2⟩:=h4;have:=hm.cut.lt j r1;exact h1 ⟨q,i,o.cut.mono' this Fo⟩
   rcases Qm.1 ht with rfl|ht
   .by_cases hc:c<0
    .rw[if_pos hc]at d;refine tr _ a hb ha ?_ d;rcases k with⟨_,f⟩|⟨e,_⟩|⟨e,_⟩
     .exact λg=>Cq ha.cut hb.cut f g
     .omega
     .omega
    .rw[if_neg hc]at d;exact d
   .rcases Qm.1 ht with rfl|ht
    .by_cases hc:c<0
     .rw[if_pos hc]at d;exact d
     .rw[if_neg hc]at d;refine tr _ b ha hb ?_ d;rcases k with⟨e,_⟩|⟨_,f⟩|⟨_,f⟩
      .omega
      .rintro⟨q,i,j⟩
       have:=f q;omega
      .exact λg=>Cq ha.cut hb.cut g f
    .exact p t (by simp[ht])
end Orq
namespace Orr
open Go Go.Proofs Tryz Orq
set_option maxRecDepth 10000
variable{p:U8}
theorem Dp.pb(h:Dp p):Pb p:=⟨h.t,by have:=h.l;omega,Fz h.b (by have:=h.l;omega)⟩
variable{a:Tm}
theorem Q3b(hp:Dp p)(ha:Va a):U5 233 [pr p,.agg (ta a)] [.oi (G6 a p)]:=Qry (Dp.pb hp) ha.tb (Qpv hp ha).1
theorem Q24(hp:Dp p)(ha:Va a):U5 232 [pr p,.one (.sh (ta a))] [.oi (G6 a p)]:=U0 func232 rfl [.k (Q3b hp ha)] rfl
theorem Qsw{fid:Nat}{l1:Fe}{sgn:U8->Int}(hp:Dp p)(h:∀p,Dp p->xR prog fid [pr p,.one (.sh l1)] [.oi (sgn p)]):U5 231 [pr p,.one (.fn fid [] [.sh l1])] [.oi (Px sgn p.length p)]:=by
 have a:=Dp.pb hp;refine G7 func231 rfl ?_;refine Ux [.k (Tq a.t a.ln a.bd)] rfl ?_;refine U4 (S:=U8) 0 (λL1 s=>(0,.v (pr s))::L1) (λ_=>[]) (λs=>s.length) (λs=>Dp s/\Px sgn s.length s=Px sgn p.length p) p ⟨hp,rfl⟩ rfl rfl λr ⟨b,g⟩=>?_
 rw[<-g];have c:=Dp.pb b;by_cases h0:r.length=0
 .have e:=BI sgn h0;rw[e];exact Uz [.f (by simp;exact Qg h0)] rfl
 .have hs:=h r b;by_cases hz:sgn r=0
  .have d:=P7 r;refine Ux [.t Fq,.k hs,.f (by simpa using hz),.k (ZI c.ln c.bd)] rfl ?_;exact rd (Hh r) Fo ⟨b.der,by rw[<-BA sgn Fo hz]⟩ rfl
  .rw[BE sgn Fo hz];exact Uz [.t Fq,.k hs,.t (by simpa using hz)] rfl
abbrev gmA(a:Tm)(p:U8):Int:=Rp (G6 a) p
theorem BH(hp:Dp p)(ha:Va a):U5 187 [pr p,.agg (ta a)] [.oi (gmA a p)] :=
 U0 func187 rfl [.k (Qsw (sgn:=G6 a) hp λ_ h=>Q24 h ha)] rfl
variable{t:Tm}
theorem pT{a b:Pt}{ps:U9}(e:∀p∈ps,Dp p)(ht:Va t)(hl:ps.length<1000):U5 265 [.agg (ta t),.agg (Gq a),.agg (Gq b),.one (.row (M5 ps))] [.one (.bool (Ie (G6 t) a b ps))]:=by
 refine G7 func265 rfl ?_;have d:(M5 ps).length=ps.length:=by simp[M5]
 refine Ux [] rfl ?_;refine U4 (S:=Nat) 3 (λL1 i=>(13,.v (.oi i))::L1) (λ_=>[.blk 72 (ta t),.blk 39 (Gq a),.blk 39 (Gq b)]) (λi=>ps.length-i) (λi=>i<=ps.length/\Ie (G6 t) a b (ps.drop i)=Ie (G6 t) a b ps) 0 ⟨Qj _,rfl⟩ rfl rfl λi ⟨hi,he⟩=>?_
 rw[<-he];by_cases c:i<ps.length
 .obtain⟨p,hp⟩:=gxE (l:=ps) (i:=i) c;have hd:ps.drop i=p::ps.drop (i+1):=by
   rw[Zo c];rw[Qf c]at hp;injection hp with hp;rw[hp]
  have g:=e p (Qc hp);rw[hd]at he ⊢;by_cases h0:0<p.length
  .exact Uz [.t (by simp[d];omega),.x (Sr hp),.t Fq,.k (BH g ht)] rfl (by simp only[Ie];rw[if_pos h0]) trivial
  .refine Uy [.t (by simp[d];omega),.x (Sr hp),.f (by simp;exact Qg Fo)] rfl ?_;exact rd (i+1) Fo ⟨c,by simp only[Ie];rw[if_neg h0]⟩ rfl
 .have hd:ps.drop i=[]:=Yq Fo;rw[hd];exact Uz [.f (by simp[d];omega)] rfl
structure Sc(k:Crv):Prop where
 n:WN k
 c:Cs 128 3 k
theorem Sc.cb{k:Crv}(h:Sc k):Cb k:=h.c.mono Fo Fo
theorem Cz{a b:Crv}(ha:Sc a)(hb:Sc b):Cp (Ht a b):=by
 refine⟨Gs _ _,?_,Fz (E9 (Hj hb.c.x ha.c.d) (Hj ha.c.x hb.c.d)) Fo⟩;have:=No (G5 b.x a.d) (G5 a.x b.d);have:=Ha b.x a.d;have:=Ha a.x b.d;have:=ha.c.lx;have:=hb.c.lx;unfold Ht;omega
theorem Cy{a b:Crv}(ha:Sc a)(hb:Sc b):Cp (Hr a b):=by
 refine⟨Gs _ _,?_,Fz (E9 (Hj hb.c.y ha.c.d) (Hj ha.c.y hb.c.d)) Fo⟩;have:=No (G5 b.y a.d) (G5 a.y b.d);have:=Ha b.y a.d;have:=Ha a.y b.d;have:=ha.c.ly;have:=hb.c.ly;unfold Hr;omega
theorem Qrz{a b:Pt}(ha:Sc a.c)(hb:Sc b.c)(ht:Va t):U5 222 [.agg (Gq a),.agg (Gq b),.agg (ta t)] [.one (.bool (Ln (G6 t) a b))] :=
 U0 func222 rfl [.k (RV hb.n ha.n hb.cb ha.cb),.k (RG hb.n ha.n hb.cb ha.cb),.k (pT (t:=t) (a:=a) (b:=b) (ps:=[Hr b.c a.c,Ht b.c a.c]) (λp hp=>by
  simp at hp;rcases hp with rfl|rfl
  .exact(Cy hb ha).dp
  .exact(Cz hb ha).dp) ht (show 2<1000 by decide))] rfl
theorem Qjf{a b:Pt}(ha:Sc a.c)(hb:Sc b.c)(ht:Va t):U5 221 [.agg (Gq a),.agg (Gq b),.agg (ta t)] [.one (.bool (P0 (G6 t) a b))] :=
 U0 func221 rfl [.k (RG ha.n hb.n ha.cb hb.cb),.k (RV ha.n hb.n ha.cb hb.cb),.k (pT (t:=t) (a:=a) (b:=b) (ps:=[Ht a.c b.c,Hr a.c b.c]) (λp hp=>by
  simp at hp;rcases hp with rfl|rfl
  .exact(Cz ha hb).dp
  .exact(Cy ha hb).dp) ht (show 2<1000 by decide))] rfl
theorem Qqr(q:Rat){P:Prop}(h:(tq q).point=false):P:=by
 have e:(tq q).point=true:=Nv.2 Qp;rw[e]at h;cases h
theorem Q0s(q:Rat):lim (tq q)=3300000:=by unfold lim;rw[if_pos (Nv.2 Rat.le_refl)]
theorem BY{q:Rat}(d:Qs 1640000 q):Va (tq q):=by
 have hd:=q.den_nz;refine⟨.inl ⟨rfl,?_⟩,Qfk q,by show 2<=9;omega,by show 2<=2;omega,Q2x (d.mono Fo),Qqr q,Qqr q,q.den,q.num.natAbs+1,0,?_,?_,Fo,?_⟩
 .have e:(q.num:Rat)=q*(q.den:Rat):=by
   have:(q.num:Rat) / (((q.den:Int)):Rat)=q:=by rw[To,Z9]
   have h2:(q.num:Rat) / (q.den:Rat)*(q.den:Rat)=q.num:=Zg (by have:=Orq.nat_pos q.den_pos;grind);rw[show(q.num:Rat) / (q.den:Rat)=q from this]at h2;exact h2.symm
  show Gf [-q.num,(q.den:Int)] q=0;simp only[Gf];rw[V1,e,show(((q.den:Int)):Rat)=(q.den:Rat) from rfl];grind
 all_goals first|(have h1:Gm (q.den:Int)<=1640000:=d.2;have h2:Gm ((q.num.natAbs+1:Nat):Int)<=1640001:=vY d.1;rw[Q0s];omega)|skip
 all_goals
  refine⟨⟨q.num,?_⟩,?_,q.den_pos⟩
  .rw[Yu,Ye];have:(q.num:Rat) / (((q.den:Int)):Rat)=q:=by rw[To,Z9]
   have h2:(q.num:Rat) / (q.den:Rat)*(q.den:Rat)=q.num:=Zg (by have:=Orq.nat_pos q.den_pos;grind);rw[show(q.num:Rat) / (q.den:Rat)=q from this]at h2;exact h2
  .have h1:Gw q<=Gw (q.num:Rat):=by
    have e:(q.num:Rat)=q*(q.den:Rat):=by
     have:(q.num:Rat) / (((q.den:Int)):Rat)=q:=by rw[To,Z9]
     have h2:(q.num:Rat) / (q.den:Rat)*(q.den:Rat)=q.num:=Zg (by have:=Orq.nat_pos q.den_pos;grind);rw[show(q.num:Rat) / (q.den:Rat)=q from this]at h2;exact h2.symm
    rw[e,I2];have b:(1:Rat)<=(q.den:Rat):=by
     have:((1:Nat):Rat)<=(q.den:Rat):=Zd.2 q.den_pos;exact this
    have f:Gw (q.den:Rat)=(q.den:Rat):=by unfold Gw;rw[if_neg Fu]
    rw[f];have:=Bq (a:=Gw q) (c:=1) (Tr q) Qp Fp b;grind
   rw[P9]at h1;refine Zn h1 (Zd.2 Fo)
theorem UX{p q:U8}(hp:Cp p)(a:Cp q):Cp (A8 p q):=by unfold A8;split <;> assumption
theorem Qb4{a b:Pt}{t:Tm}(ha:Sc a.c)(hb:Sc b.c)(ht:Va t):U5 182 [.oi 1,.agg (ta t),.one (.row [Gq a,Gq b])] [.agg (Ey (YK (G6 t) a b)),.oi 0]:=by
 have h1:=Cz ha hb;have h2:=Cy ha hb;refine G7 func182 rfl ?_;refine Ux [.k Qgl,.f rfl] rfl ?_;refine U4 (S:=Nat) 3 (λL1 i=>(22,.v (.oi i))::L1) (λi=>[.blk 72 (ta t),.blk 66 zCt,.blk 66 [.int .i64 1,.int .i64 (if 1<=i then a.id else 0),.int .i64 (if 2<=i then b.id else 0),.int .i64 0,.int .i64 0,.nils,.int .i64 0]]) (λi=>2-i) (λi=>i<=2) 0 (Qj _) rfl rfl λi hi=>?_
 rcases(show i=0\/i=1\/i=2 by omega)with rfl|rfl|rfl
 .refine Ux [.t rfl,.x (i:=0) (xs:=Gq a) rfl,.i 0] rfl ?_ Fy;exact rd 1 Fo Fo rfl
 .refine Ux [.t rfl,.x (i:=1) (xs:=Gq b) rfl,.i 1] rfl ?_ Fy;exact rd 2 Fo Fo rfl
 .exact Uz [.f rfl,.t rfl,.x (i:=0) (xs:=Gq a) rfl,.x (i:=1) (xs:=Gq b) rfl,.k (RG ha.n hb.n ha.cb hb.cb),.x (i:=0) (xs:=Gq a) rfl,.x (i:=1) (xs:=Gq b) rfl,.k (RV ha.n hb.n ha.cb hb.cb),.k pG,.k (BH (UX h1 h2).dp ht)] rfl
end Orr
namespace Orr
variable{α:Type}
def If(lt:α->α->Bool)(out:List α)(x:α):Nat->Nat
 | 0=>0
 |
  k+1=>match out[k]? with
  |some y=>if lt x y=true then If lt out x k else k+1
  |none=>k+1
theorem rR(lt:α->α->Bool)(out:List α)(x:α):∀k,If lt out x k<=k
 | 0=>Ql _
 |
  k+1=>by
  simp only[If]
  split
  .split
   .exact Nat.le_succ_of_le (rR lt out x k)
   .exact Ql _
  .exact Ql _
variable{lt:α->α->Bool}{out:List α}{k:Nat}
theorem Qes{x y:α}(hx:out[k]? = some y)(h:lt x y=true):If lt out x (k+1)=If lt out x k:=by
 simp only[If,hx,h,if_true]
theorem cX{x y:α}(hx:out[k]? = some y)(h:lt x y=false):If lt out x (k+1)=k+1:=by
 simp[If,hx,h]
def A9(lt:α->α->Bool)(out:List α)(x:α):List α:=out.take (If lt out x out.length)++x::out.drop (If lt out x out.length)
theorem Qng(lt:α->α->Bool)(out:List α)(x:α):(A9 lt out x).length=out.length+1:=by
 have:=rR lt out x out.length;simp[A9];omega
theorem TM{x y:α}:y∈A9 lt out x↔y=x\/y∈out:=by
 have h:y∈out↔y∈out.take (If lt out x out.length)\/y∈out.drop (If lt out x out.length):=by
  rw[<-Qr,Zi]
 simp only[A9,Qr,Qm,h];constructor
 .rintro (h|h|h)
  .exact .inr (.inl h)
  .exact .inl h
  .exact .inr (.inr h)
 .rintro (h|h|h)
  .exact .inr (.inl h)
  .exact .inl h
  .exact .inr (.inr h)
def Ip(lt:α->α->Bool)(l:List α):List α:=l.foldl (A9 lt) []
theorem Qa6(lt:α->α->Bool)(l:List α)(x:α):Ip lt (l++[x])=A9 lt (Ip lt l) x:=by simp[Ip,V8]
variable{l:List α}
theorem Qa7{i:Nat}{x:α}(h:l[i]? = some x):Ip lt (l.take (i+1))=A9 lt (Ip lt (l.take i)) x:=by
 rw[Zv,h];exact Qa6 _ _ _
theorem OL(lt:α->α->Bool):∀(l a:List α),(l.foldl (A9 lt) a).length=a.length+l.length
 | [],a=>Ft
 |c::l,a=>by simp only[Xn];rw[OL lt l (A9 lt a c),Qng];simp;omega
theorem wV(lt:α->α->Bool)(l:List α):(Ip lt l).length=l.length:=by unfold Ip;rw[OL];simp
theorem GT(lt:α->α->Bool):∀(l a:List α) {y:α},y∈l.foldl (A9 lt) a↔y∈l\/y∈a
 | [],a,y=>Ft
 |
  c::l,a,y=>by
  simp only[Xn];rw[GT lt l,TM,Qm];constructor
  .rintro (h|h|h)
   .exact .inl (.inr h)
   .exact .inl (.inl h)
   .exact .inr h
  .rintro ((h|h)|h)
   .exact .inr (.inl h)
   .exact .inl h
   .exact .inr (.inr h)
theorem Qic{y:α}:y∈Ip lt l↔y∈l:=by
 unfold Ip;rw[GT];simp
end Orr
namespace Orr
open Go Orq
structure Wt where
 c:Ct
 known:Bool
 fails:Option Tm
def f0:Option Tm->LV|none=>.row []|some t=>pl t.p
def f1:Option Tm->LV|none=>.bool false|some t=>sg t.lo.num
def f2:Option Tm->LV|none=>.row []|some t=>mg t.lo.num
def f3:Option Tm->LV|none=>.bool false|some t=>sg (t.lo.den:Int)
def f4:Option Tm->LV|none=>.row []|some t=>mg (t.lo.den:Int)
def f5:Option Tm->LV|none=>.bool false|some t=>sg t.hi.num
def f6:Option Tm->LV|none=>.row []|some t=>mg t.hi.num
def f7:Option Tm->LV|none=>.bool false|some t=>sg (t.hi.den:Int)
def f8:Option Tm->LV|none=>.row []|some t=>mg (t.hi.den:Int)
abbrev fl(o:Option Tm):Fe:=[f0 o,f1 o,f2 o,f3 o,f4 o,f5 o,f6 o,f7 o,f8 o]
abbrev wl(w:Wt):Fe:=[.int .i64 w.c.kind,.int .i64 w.c.i0,.int .i64 w.c.i1,.int .i64 w.c.i2,.int .i64 w.c.i3,pl w.c.p,.int .i64 w.c.want,.bool w.known,.bool w.fails.isSome,f0 w.fails,f1 w.fails,f2 w.fails,f3 w.fails,f4 w.fails,f5 w.fails,f6 w.fails,f7 w.fails,f8 w.fails]
def Lk(l:List Wt):Ff:=l.map λw=>wl w
theorem Tl{l:List Wt}{i:Nat}{w:Wt}(h:l[i]? = some w):(Lk l)[i]? = some (wl w):=Ra h
theorem Pu(l:List Wt):(Lk l).length=l.length:=by simp[Lk]
structure Cr where
 now:Tm
 l:List Wt
 ev:Int
abbrev Te(c:Cr)(r0 r1:Ff):Fe:=.bool true::pl c.now.p::sg c.now.lo.num::mg c.now.lo.num::sg (c.now.lo.den:Int)::mg (c.now.lo.den:Int)::sg c.now.hi.num::mg c.now.hi.num::sg (c.now.hi.den:Int)::mg (c.now.hi.den:Int)::.row (Lk c.l)::.int .i64 c.ev::[.row r0,.row r1]
structure WtOk(w:Wt):Prop where
 p:Cp w.c.p
 f:∀t,w.fails=some t->Va t
structure CrOk(c:Cr):Prop where
 n:Va c.now
 l:∀w∈c.l,WtOk w
 k:c.l.length<=1000
def dK(a b:Ct):Bool:=decide ([a.kind,a.i0,a.i1,a.i2,a.i3]=[b.kind,b.i0,b.i1,b.i2,b.i3])
def fresh(x:Ct):Wt:=⟨x,false,none⟩
def Ls:List Wt->Ct->Tm->Option Wt
 | [],x,_=>some (fresh x)
 |
  w::l,x,at_=>if dK w.c x=true/\w.known=true/\w.c.p=x.p then
   match w.fails with
   |none=>some ⟨x,true,none⟩
   |some t=>(RE t at_).bind λc=>if 0<c then some ⟨x,true,some t⟩else Ls l x at_
  else Ls l x at_
def Po(old:List Wt)(at_:Tm):List Ct->Option (List Wt)
 | []=>some []
 |x::l=>(Ls old x at_).bind λw=>(Po old at_ l).bind λr=>some (w::r)
end Orr
namespace Orr
open Go Go.Proofs Tryz Orq
set_option maxRecDepth 10000
variable{T:Nat}{c:Cr}
theorem JR{r0 r1:Ff}(hc:Va c.now):Ge prog 358 [.one (.ow 0 0)] [.blk T (Te c r0 r1)] [.agg (ta c.now)] [.blk T (Te c r0 r1)]:=by
 have cl:=Me (b:=c.now) (l:=[]) hc.tb (λt ht=>by cases ht) Fp rfl;refine G7 func358 rfl ?_;exact U3 [] [0] [.f rfl,.k cl] rfl
theorem RU{r0 r1:Ff}(hc:CrOk c):Ge prog 347 [.one (.ow 0 0)] [.blk T (Te c r0 r1)] [.one (.row (Gk (Gv (c.l.map (·.c)))))] [.blk T (Te c r0 r1)]:=by
 have h:=hc.k;have b:=Pu c.l;refine G7 func347 rfl ?_;refine Ux [.o 3 66 7] rfl ?_;refine U4 (S:=Nat) 2 (λL1 i=>(11,.v (.oi i))::(3,.v (.one (.orow 1 7 none)))::L1) (λi=>[.blk T (Te c r0 r1),.row false 66 7 (Gk ((c.l.map (·.c)).take i))]) (λi=>c.l.length-i) (λi=>i<=c.l.length) 0 (Qj _) rfl rfl λi hi=>?_
 by_cases a:i<c.l.length
 .obtain⟨x,hx⟩:=gxE (l:=c.l) (i:=i) a;have hm:∀y∈[Ey x.c],y.length=7:=λy g=>by rw[Qk.1 g];rfl
  have hg:(c.l.map (·.c)).take (i+1)=(c.l.map (·.c)).take i++[x.c]:=by
   rw[Zv,Q9,hx];rfl
  have hl:decide ((i:Int)<((Lk c.l).length:Int))=true:=by simp[b];omega
  obtain⟨j,m,d⟩:=x;cases d <;> (refine go tt [.t hl,.x (Tl hx),.s (sz:=7) hm] rfl (by simp[Gi,Nf];omega) ?_;exact rd (i+1) Fo a (by rw[hg];simp[Gk];rfl))
 .obtain rfl:i=c.l.length:=Fo;have e:(c.l.map (·.c)).take c.l.length=c.l.map (·.c):=Qo Ft;rw[e];have cs:=MZ (l:=c.l.map (·.c)) (λx hx=>by
   obtain⟨w,b,rfl⟩:=Q8.1 hx;exact Dp.pb (hc.l w b).p.dp) Fq
  exact U3 [] [0] [.f (by simp[b]),.k cs] rfl
theorem Qy4{r0 r1:Ff}{x:Ct}{at_:Tm}{w:Wt}(hc:CrOk c)(hx:Cp x.p)(ha:Va at_)(h:Ls c.l x at_=some w):Ge prog 220 [.one (.ow 0 0),.agg (Ey x),.agg (ta at_)] [.blk T (Te c r0 r1)] [.agg (wl w)] [.blk T (Te c r0 r1)]:=by
 have z:=hc.k;have s:=Pu c.l;refine G7 func220 rfl ?_;refine Ux [] rfl ?_;refine U4 (S:=Nat) 4 (λL1 i=>(14,.v (.oi i))::L1) (λ_=>[.blk T (Te c r0 r1),.blk 66 (Ey x),.blk 72 (ta at_),.blk 309 [.int .i64 0,.int .i64 0,.int .i64 0,.int .i64 0,.int .i64 0,.nils,.int .i64 0,.bool false,.bool false,.nils,.bool false,.nils,.bool false,.nils,.bool false,.nils,.bool false,.nils]]) (λi=>c.l.length-i) (λi=>i<=c.l.length/\Ls (c.l.drop i) x at_=some w) 0 ⟨Qj _,h⟩ rfl rfl λi ⟨hi,a⟩=>?_
 by_cases b:i<c.l.length
 .obtain⟨v,hv⟩:=gxE (l:=c.l) (i:=i) b;have n:c.l.drop i=v::c.l.drop (i+1):=by
   rw[Zo b];congr 1;have:=Qf b;rw[hv]at this;injection this with this;exact this.symm
  have d:=hc.l v (Qc hv);rw[n]at a;simp only[Ls]at a;have hl:decide ((i:Int)<((Lk c.l).length:Int))=true:=by simp[s];omega
  by_cases A:dK v.c x=true
  .have e:(!decide ([v.c.kind,v.c.i0,v.c.i1,v.c.i2,v.c.i3]=[x.kind,x.i0,x.i1,x.i2,x.i3]))=false:=by
    unfold dK at A;rw[A];rfl
   by_cases B:v.known=true
   .have j:(!v.known)=false:=by rw[B];rfl
    have cs:=LJ (p:=v.c.p) (q:=x.p) (Dp.pb d.p.dp).ln (Dp.pb hx.dp).ln (Dp.pb d.p.dp).bd (Dp.pb hx.dp).bd;rw[d.p.t,hx.t]at cs;by_cases C:v.c.p=x.p
    .have o:(!decide (v.c.p=x.p))=false:=by simp[C]
     rw[if_pos ⟨A,B,C⟩]at a;obtain⟨F,E,y⟩:=v;cases y with
     |
      none =>
      injection a with a;subst a;exact U3 [] [0] [.t hl,.x (Tl hv),.g 24 false e,.g 29 false j,.k cs,.f o,.g 41 true rfl,.t rfl] rfl
     |
      some t =>
      obtain⟨r,m,a⟩:=Qd.1 a;have u:=GZ (d.f t rfl).tb ha.tb m;by_cases D:0<r
      .rw[if_pos D]at a;injection a with a;subst a;exact U3 [] [0] [.t hl,.x (Tl hv),.g 24 false e,.g 29 false j,.k cs,.f o,.g 41 false rfl,.k u,.t (by simpa using D)] rfl
      .rw[if_neg D]at a;refine Uy [.t hl,.x (Tl hv),.g 24 false e,.g 29 false j,.k cs,.f o,.g 41 false rfl,.k u,.f (by simpa using D)] rfl ?_;exact rd (i+1) Fo ⟨b,a⟩ rfl
    .rw[if_neg λh=>C h.2.2]at a;refine Uy [.t hl,.x (Tl hv),.g 24 false e,.g 29 false j,.k cs,.t (by simp[C])] rfl ?_;exact rd (i+1) Fo ⟨b,a⟩ rfl
   .rw[if_neg λh=>B h.2.1]at a;refine Uy [.t hl,.x (Tl hv),.g 24 false e,.g 29 true (by simpa using B),.t rfl] rfl ?_;exact rd (i+1) Fo ⟨b,a⟩ rfl
  .rw[if_neg λh=>A h.1]at a;refine Uy [.t hl,.x (Tl hv),.g 24 true (by rw[show decide ([v.c.kind,v.c.i0,v.c.i1,v.c.i2,v.c.i3]=[x.kind,x.i0,x.i1,x.i2,x.i3])=false from Ud.2 A];rfl),.g 29 true rfl,.t rfl] rfl ?_;exact rd (i+1) Fo ⟨b,a⟩ rfl
 .obtain rfl:i=c.l.length:=Fo;rw[Vf]at a;simp only[Ls]at a;injection a with a;subst a;exact U3 [] [0] [.f (by simp[s])] rfl
theorem KV{c:List Wt}{at_:Tm}:∀{l:List Ct} {ws:List Wt},Po c at_ l=some ws->ws.length=l.length/\∀(i:Nat) (x:Ct),l[i]? = some x->∃w,Ls c x at_=some w/\ws[i]? = some w
 | [],ws,h=>by injection h with h;subst h;exact⟨rfl,λi x hx=>by simp at hx⟩
 |
  y::l,ws,h=>by
  simp only[Po]at h;obtain⟨w,d,h⟩:=Qd.1 h;obtain⟨r,hr,h⟩:=Qd.1 h;injection h with h;subst h;obtain⟨a,b⟩:=KV hr;refine⟨by simp[a],λi x hx=>?_⟩;cases i with
  |zero=>injection hx with hx;subst hx;exact⟨w,d,rfl⟩
  |succ i=>exact b i x (by simpa using hx)
theorem Oj{l:List Wt}{i:Nat}{w:Wt}(h:l[i]? = some w):Lk (l.take (i+1))=Lk (l.take i)++[wl w]:=by
 rw[Zv,h];simp[Lk]
variable{l:List Ct}{T:Nat}{at_:Tm}{ws:List Wt}
theorem RF{c:Cr}{r0 r1:Ff}(hc:CrOk c)(ha:Va at_)(hl:∀x∈l,Cp x.p)(hn:l.length≤1000)(h:Po c.l at_ (Gv l)=some ws):Ge prog 177 [.one (.ow 0 0),.agg (ta at_),.one (.bool true),.one (.row (Gk l))] [.blk T (Te c r0 r1)] [] [.blk T (Te ⟨at_,ws,c.ev⟩ r0 r1)]:=by
 have cs:=MZ (l:=l) (λx hx=>Dp.pb (hl x hx).dp) Fo;have cl:=Me (b:=at_) (l:=[]) ha.tb (λt ht=>by cases ht) Fp rfl;obtain⟨h1,h2⟩:=KV h;have hs:(Gv l).length=l.length:=Cc l;refine G7 func177 rfl ?_;refine Ux [.o 8 309 18,.k cs] rfl ?_;refine U4 (S:=Nat) 3 (λL1 i=>(15,.v (.oi i))::(8,.v (.one (.orow 2 18 none)))::L1) (λi=>[.blk T (Te c r0 r1),.blk 72 (ta at_),.row false 309 18 (Lk (ws.take i))]) (λi=>ws.length-i) (λi=>i<=ws.length) 0 (Qj _) rfl rfl λi hi=>?_
 by_cases e:i<ws.length
 .obtain⟨x,hx⟩:=gxE (l:=(Gv l)) (i:=i) Fo;obtain⟨w,m,g⟩:=h2 i x hx;have hm:∀y∈[wl w],y.length=18:=λy j=>by rw[Qk.1 j];rfl
  have a:decide ((i:Int)<((Gk (Gv l)).length:Int))=true:=by simp[Gk];omega
  have ck:=Qy4 (T:=T) (r0:=r0) (r1:=r1) hc (hl x (Tc (Qc hx))) ha m;have hg:=Oj g;obtain⟨q,r,n⟩:=w;cases n <;> (refine go tt [.t a,.x (P5 hx),.t rfl,.c [0] ck,.s (sz:=18) hm] rfl (by simp[Gi,Pu];omega) ?_;exact rd (i+1) Fo e (by rw[hg];rfl))
 .obtain rfl:i=ws.length:=Fo;rw[Q6];have d:decide ((ws.length:Int)<((Gk (Gv l)).length:Int))=false:=by simp[Gk];omega
  exact U3 [] [0] [.f d,.p 2,.k cl] rfl
abbrev aB(r0 r1:LV):Fe:=[.bool false,.nils,.bool false,.nils,.bool false,.nils,.bool false,.nils,.bool false,.nils,.nils,.int .i64 0,r0,r1]
theorem Qr9{r0 r1:Ff}(ha:Va at_)(hl:∀x∈l,Cp x.p)(hn:l.length≤1000):Ge prog 177 [.one (.ow 0 0),.agg (ta at_),.one (.bool false),.one (.row (Gk l))] [.blk T (aB (.row r0) (.row r1))] [] [.blk T (Te ⟨at_,(Gv l).map fresh,0⟩ r0 r1)]:=by
 have cs:=MZ (l:=l) (λx hx=>Dp.pb (hl x hx).dp) Fo;have cl:=Me (b:=at_) (l:=[]) ha.tb (λt ht=>by cases ht) Fp rfl;have hs:(Gv l).length=l.length:=Cc l;refine G7 func177 rfl ?_;refine Ux [.o 8 309 18,.k cs] rfl ?_;refine U4 (S:=Nat) 3 (λL1 i=>(15,.v (.oi i))::(8,.v (.one (.orow 2 18 none)))::L1) (λi=>[.blk T (aB (.row r0) (.row r1)),.blk 72 (ta at_),.row false 309 18 (Lk (((Gv l).map fresh).take i))]) (λi=>l.length-i) (λi=>i<=l.length) 0 (Qj _) rfl rfl λi hi=>?_
 by_cases d:i<l.length
 .obtain⟨x,hx⟩:=gxE (l:=(Gv l)) (i:=i) Fo;have hm:∀y∈[wl (fresh x)],y.length=18:=λy e=>by rw[Qk.1 e];rfl
  have a:decide ((i:Int)<((Gk (Gv l)).length:Int))=true:=by simp[Gk];omega
  have hg:=Oj (l:=(Gv l).map fresh) (i:=i) (w:=fresh x) (by rw[Q9,hx];rfl);refine go tt [.t a,.x (P5 hx),.z 20,.f rfl,.s (sz:=18) hm] rfl (by simp[Gi,Pu];omega) ?_;exact rd (i+1) Fo d (by rw[hg];rfl)
 .obtain rfl:i=l.length:=Fo;rw[Qo Fq];have c:decide ((l.length:Int)<((Gk (Gv l)).length:Int))=false:=by simp[Gk];omega
  exact U3 [] [0] [.f c,.p 2,.k cl] rfl
theorem WL{r0 r1:Ff}(ha:Va at_)(hl:∀x∈l,Cp x.p)(hn:l.length≤1000):Ge prog 113 [.one (.ow 0 0),.agg (ta at_),.one (.row (Gk l))] [.blk T (aB (.row r0) (.row r1))] [] [.blk T (Te ⟨at_,(Gv l).map fresh,0⟩ r0 r1)]:=by
 have cl:=Qr9 (T:=T) (r0:=r0) (r1:=r1) ha hl hn;refine G7 func113 rfl ?_;exact U3 [] [0] [.g 12 false rfl,.c [0] cl] rfl
theorem eB{a b:Bool}(h:a=b):TV.one (LV.bool a)=.one (.bool b):=h ▸ rfl
theorem WE{c:Cr}{r0 r1:Ff}{k:Int}(hc:CrOk c)(ha:Va at_)(a:RE at_ c.now=some k)(h0:0≤k)(hl:∀x∈l,Cp x.p)(hn:l.length≤1000)(h:Po c.l at_ (Gv l)=some ws):Ge prog 113 [.one (.ow 0 0),.agg (ta at_),.one (.row (Gk l))] [.blk T (Te c r0 r1)] [] [.blk T (Te ⟨at_,ws,c.ev⟩ r0 r1)]:=by
 have cl:=RF (T:=T) (r0:=r0) (r1:=r1) hc ha hl hn h;have b:=GZ ha.tb hc.n.tb a;refine G7 func113 rfl ?_;exact U3 [] [0] [.g 12 true rfl,.k b,.r 20 (eB (show decide (0<=k)=true by simpa using h0)),.c [0] cl] rfl
theorem LO:∀{k:Nat} {g:U8} {l:U9},Pb g->YO k g=some l->l.length≤k/\∀p∈l,Pb p
 | 0,_,_,_,h=>by cases h
 |
  k+1,g,l,hg,h=>by
  simp only[YO]at h
  split at h
  .injection h with h;subst h;exact⟨Ft,λp hp=>by cases hp⟩
  .obtain⟨d,hd,h⟩:=Qd.1 h;obtain⟨rfl,a⟩:=qL hd;obtain⟨x,hx,h⟩:=Qd.1 h;obtain⟨q,b,h⟩:=Qd.1 h;obtain⟨r,hr,h⟩:=Qd.1 h;injection h with h;subst h;obtain⟨i1,i2⟩:=LO (NF hg a hx) hr;refine⟨by simp;exact i1,λp hp=>?_⟩;rcases Qm.1 hp with rfl|hp
   .exact oN b
   .exact i2 p hp
variable{a:U8}
theorem Qku{l:U9}(ha:Pb a)(h:YO 66 (Gj a)=some l):U5 371 [pr a] [.one (.row (M5 l))]:=by
 have hp:=Pd ha;refine G7 func371 rfl ?_;refine Ux [.o 3 32 1,.k (QR ha)] rfl ?_;refine U4 (S:=Nat×U9×U8) 1 (λL1 s=>(4,.v (pr s.2.2))::(3,.v (.one (.orow 0 1 none)))::L1) (λs=>[.row false 32 1 (M5 s.2.1)]) (λs=>s.1) (λs=>Pb s.2.2/\s.2.1.length+s.1<=66/\∃m,YO s.1 s.2.2=some m/\s.2.1++m=l) (66,[],Gj a) ⟨hp,Ql _,l,h,rfl⟩ rfl rfl λ⟨k,out,g⟩ ⟨j1,j2,m,b,j4⟩=>?_
 dsimp only at j1 j2 b j4 ⊢;cases k with
 |zero=>cases b
 |
  succ k =>
  simp only[YO]at b
  split at b
  .rename_i h0;injection b with b;subst b;rw[Zx]at j4;subst j4;exact Uz [.k (Bh _),.f Fq] rfl
  .rename_i h0;obtain⟨d,hd,b⟩:=Qd.1 b;obtain⟨rfl,e⟩:=qL hd;obtain⟨x,hx,b⟩:=Qd.1 b;obtain⟨q,j,b⟩:=Qd.1 b;obtain⟨r,hr,b⟩:=Qd.1 b;injection b with b;subst b;have i:=NF j1 e hx;refine go tt [.k (Bh _),.t Fq,.k (ZI j1.ln j1.bd),.k (Qcq j1 e hx),.k (Qla j1 i j),.s (sz:=1) (l:=[[pl q]]) (λc hc=>by rw[Qk.1 hc];rfl)] rfl (by simp[Gi,Od];omega) ?_;exact rd (k,out++[q],x) Fv ⟨i,Fq,r,hr,by rw[<-j4];simp⟩ (by rw[zZ];rfl)
theorem OR:∀{l r:U9},DF l=some r->r.length=l.length/\∀i w,l[i]? = some w->(match l[i+1]? with|some v=>∃f,XA w v=some f/\r[i]? = some f|none=>r[i]? = some w)
 | [],r,h=>by injection h with h;subst h;exact⟨rfl,λi w a=>by simp at a⟩
 |
  [w],r,h=>by
  injection h with h;subst h;refine⟨rfl,λi x hx=>?_⟩;cases i with
  |zero=>simpa using hx
  |succ i=>simp at hx
 |
  w::v::l,r,h=>by
  simp only[DF]at h;obtain⟨f,b,h⟩:=Qd.1 h;obtain⟨s,hs,h⟩:=Qd.1 h;injection h with h;subst h;obtain⟨i1,i2⟩:=OR hs;refine⟨by simp[i1],λi x hx=>?_⟩;cases i with
  |
   zero =>
   injection hx with hx;subst hx;exact⟨f,b,rfl⟩
  |
   succ i =>
   have:=i2 i x (by simpa using hx);simpa using this
theorem fY:∀{l r:U9},(∀p∈l,Pb p)->DF l=some r->∀p∈r,Pb p
 | [],r,_,h=>by injection h with h;subst h;exact λp hp=>by cases hp
 | [w],r,hl,h=>by injection h with h;subst h;exact hl
 |
  w::v::l,r,hl,h=>by
  simp only[DF]at h;obtain⟨f,a,h⟩:=Qd.1 h;obtain⟨s,hs,h⟩:=Qd.1 h;injection h with h;subst h;intro p hp;rcases Qm.1 hp with rfl|hp
  .exact oN a
  .exact fY (λp hp=>hl p (Qi _ hp)) hs p hp
theorem Qf5{l r:U9}(ha:Pb a)(h:YO 66 (Gj a)=some l)(hr:DF l=some r):U5 366 [pr a] [.one (.row (M5 r))]:=by
 obtain⟨i1,i2⟩:=LO (Pd ha) h;obtain⟨g,j⟩:=OR hr;have c:=Od l;refine G7 func366 rfl ?_;refine go tt [.k (Qku ha h),.i (M5 l).length,.i (M5 l).length] rfl (by simp[Gi,c];omega) ?_;rw[c,Ow λi=>[pl (r.getD i [])]];refine U4 (S:=Nat) 1 (λL1 k=>(14,.v (.oi k))::L1) (λk=>[.row false 32 1 (xG (λi=>[pl (r.getD i [])]) [.nils] l.length k)]) (λk=>l.length-k) (λk=>k<=l.length) 0 (Qj _) rfl rfl λk m=>?_
 by_cases b:k<l.length
 .obtain⟨w,hx⟩:=gxE (l:=l) (i:=k) b;have e:=JO (λi=>[pl (r.getD i [])]) [.nils] b;have hg:=j k w hx;by_cases h2:k+1<l.length
  .obtain⟨v,hv⟩:=gxE (l:=l) (i:=k+1) h2;rw[hv]at hg;obtain⟨f,f1,f2⟩:=hg;have d:r.getD k []=f:=by rw[Qe,f2];rfl
   rw[d]at e;refine go tt [.t (by simp[c];omega),.x (Sr hx),.i k,.t (by simp[c];omega),.x (i:=k+1) (Sr hv),.k (Qla (i2 w (Qc hx)) (i2 v (Qc hv)) f1),.i k] rfl (by simp[Gi,QA,c];omega) ?_;rw[List.set_set,e];exact rd (k+1) Fo b rfl
  .have hv:l[k+1]? = none:=Qu Fo;rw[hv]at hg;have d:r.getD k []=w:=by rw[Qe,hg];rfl
   rw[d]at e;refine go tt [.t (by simp[c];omega),.x (Sr hx),.i k,.f (by simp[c];omega)] rfl (by simp[Gi,QA,c];omega) ?_;rw[e];exact rd (k+1) Fo b rfl
 .obtain rfl:k=l.length:=Fo;have e:xG (λi=>[pl (r.getD i [])]) [.nils] l.length l.length=M5 r:=by
   rw[JI,<-g];refine Xu λi=>?_
   simp only[M5,Q9];by_cases hi:i<r.length
   .rw[Jh hi];simp[Qe,Qf hi]
   .rw[Qu (by simpa using hi),Qu (by simpa using hi)];rfl
  rw[e];exact Uz [.f (by simp[c])] rfl
theorem Qaa{p:U8}(g:Gg p):Gj (Gj p)=Gj p:=by
 by_cases h:p.length=0
 .have e:Gj p=[]:=by unfold Gj;rw[if_pos h]
  rw[e];rfl
 .obtain⟨h1,h2,h3,h4,_⟩:=M6 g h;have hc:Py (Gj p)=1:=by
   have h5:Py (Gj p)∣1:=h3 _ λk=>by
    by_cases c:k<(Gj p).length
    .rw[Qe,Qf c];exact Oc _ (Xs c)
    .rw[Qe,Qu Fo];exact Int.dvd_zero _
   have i:0<=Py (Gj p):=by unfold Py;omega
   exact Int.eq_one_of_dvd_one i h5
  have a:∀q:U8,0<Gp q->Ro q=Py q:=λq b=>by unfold Ro;rw[if_neg Fo]
  have a:=(a _ h4).trans hc;have f:∀q:U8,q.length≠0->Gj q=Ej q (Ro q):=λq b=>by unfold Gj;rw[if_neg b]
  have e:=f (Gj p) Fo;rw[a]at e;rw[e];unfold Ej;have d:(Gj p).map (· / (1:Int))=Gj p:=by
   conv=>rhs;rw[<-List.map_id (Gj p)]
   exact X5 λz _=>Ft
  rw[d];exact h1
theorem Qfh(i:Nat):(i:Int).tmod 2=((i % 2:Nat):Int):=rfl
theorem Qy9(ha:Pb a)(h:(Gj a).length=0):U5 362 [pr a] [pr []] :=
 U0 func362 rfl [.k (QR ha),.t (by simp[Qg h])] rfl
theorem YU:∀{l:U9} {i:Nat} {p o:U8},Pb p->(∀f∈l,Pb f)->VZ i p l=some o->Pb o
 | [],i,p,o,hp,_,h=>by simp only[VZ]at h;injection h with h;subst h;exact hp
 |
  f::l,i,p,o,hp,hl,h=>by
  simp only[VZ]at h
  split at h
  .obtain⟨q,c,h⟩:=Qd.1 h;obtain⟨rfl,b⟩:=JD (Hf _ _) c;exact YU b (λf a=>hl f (Qi _ a)) h
  .exact YU hp (λf a=>hl f (Qi _ a)) h
theorem Qot:Pb [1]:=⟨rfl,Fp,λz hz=>by rw[Qk.1 hz];decide⟩
theorem Q29{o:U8}(ha:Pb a)(h:DC a=some o):U5 362 [pr a] [pr o]:=by
 unfold DC at h
 split at h
 .rename_i h0;injection h with h;subst h;exact Qy9 ha h0
 rename_i h0;obtain⟨l,hl,h⟩:=Qd.1 h;obtain⟨fs,u,h⟩:=Qd.1 h;have r:=Pd ha;have m:YO 66 (Gj (Gj a))=some l:=by rw[Qaa ha.t];exact hl
 obtain⟨i1,i2⟩:=LO (Pd ha) hl;have i3:=fY i2 u;obtain⟨B,_⟩:=OR u;have n:=Od fs;have y:=Qb6 (p:=[1]) Fp (λz hz=>by rw[Qk.1 hz];decide);rw[show trim [1]=[1] from rfl]at y;refine G7 func362 rfl ?_;refine Ux [.k (QR ha),.f (by simpa using h0),.k y,.k (Qf5 r m u)] rfl ?_ Fy;refine U4 (S:=Nat×U8) 0 (λL1 s=>(16,.v (.oi (s.1:Int)))::(3,.v (pr s.2))::L1) (λ_=>[]) (λs=>fs.length-s.1) (λs=>s.1<=fs.length/\Pb s.2/\VZ s.1 s.2 (fs.drop s.1)=some o) (0,[1]) ⟨Qj _,Qot,h⟩ rfl rfl λ⟨i,p⟩ ⟨k1,e,c⟩=>?_
 dsimp only at k1 e c ⊢;by_cases d:i<fs.length
 .obtain⟨f,hx⟩:=gxE (l:=fs) (i:=i) d;have g:fs.drop i=f::fs.drop (i+1):=by
   rw[Zo d];congr 1;have:=Qf d;rw[hx]at this;injection this with this;exact this.symm
  rw[g]at c;simp only[VZ]at c;have w:=i3 f (Qc hx);by_cases h2:i % 2=0
  .rw[if_pos h2]at c;obtain⟨q,A,c⟩:=Qd.1 c;obtain⟨rfl,j⟩:=JD (Hf _ _) A;refine Uy [.t (by simp[n];omega),.x (Sr hx),.t (by rw[Qfh,h2];rfl),.k (GY e.t w.t (Xe e.l Fp) (Xe w.l Fp) e.b w.b Fp)] rfl ?_;exact rd (i+1,Hb p f) Fv ⟨d,j,c⟩ rfl
  .rw[if_neg h2]at c;refine Uy [.t (by simp[n];omega),.x (Sr hx),.f (by rw[Qfh,show i % 2=1 by omega];rfl)] rfl ?_;exact rd (i+1,p) Fv ⟨d,e,c⟩ rfl
 .obtain rfl:i=fs.length:=Fo;rw[Vf]at c;simp only[VZ]at c;injection c with c;subst c;exact Uz [.f (by simp[n])] rfl
theorem Iy(z:Int):Gm (z.natAbs:Int)=Gm z:=by unfold Gm;simp
theorem Qko{x y:LV}{z:Int}(hi:Hi x y z)(hs:Gm z<=4294967295):U5 367 [.agg [x,y]] [.agg (Rr (z.natAbs:Int))]:=by
 obtain⟨b,l,rfl,rfl,hl,rfl⟩:=hi;have e:(Gn false (val l))=((Gn b (val l)).natAbs:Int):=by rw[Sy];rfl
 rw[<-e];exact U0 func367 rfl [.k (GX hl (Qa (Nu hs) Fp)),.k (Ny _ _)] rfl
theorem Qs8{n d:Int}(h0:d≠0)(hn:Gm n<=4294967295)(hd:Gm d<=4294967295):U5 368 [.agg (Rr n),.agg (Rr d)] [.agg (rl (Rat.divInt n d)),.oi 0] :=
 U0 func368 rfl [.k (Bz (Gb d) hd),.k Ep,.f (by simpa using h0),.k (Bz (Gb n) hn),.k (VF h0 hn hd)] rfl
theorem vG(l:U8)(z:Int):most (l++[z])=if most l<z.natAbs then z.natAbs else most l:=by unfold most;rw[List.foldl_append];rfl
theorem gJ{s:Nat}:∀{l:U8},Bd s l->Gm (most l:Int)<=s:=λ{l}=>by
 suffices h:∀(l:U8) (m:Nat),Bd s l->Gm (m:Int)<=s->Gm ((l.foldl (λm z=>if m<z.natAbs then z.natAbs else m) m:Nat):Int)<=s from λhb=>h l 0 hb (by simp[Gm,sz])
 intro l
 induction l with
 |nil=>exact λm _ h=>h
 |
  cons z l ih =>
  intro m hb hm;refine ih _ (λy a=>hb y (Qi _ a)) ?_;show Gm ((if m<z.natAbs then z.natAbs else m:Nat):Int)<=s
  split
  .rw[Iy];exact hb z (Qy ..)
  .exact hm
def ozi:Option Nat->Fe
 |none=>[.bool false,.nils]
 |some m=>Rr (m:Int)
def ozr:Option Nat->Fe
 |none=>[.bool false,.row []]
 |some m=>Rr (m:Int)
theorem Qr1{p:U8}(hp:Pb p)(h0:p.length≠0):U5 363 [pr p] [.agg (rl (Hm p)),.oi 0]:=by
 have hl:=hp.l;have C:(p.take (p.length-1)).length=p.length-1:=Ft;have c:Bd 16777216 (p.take (p.length-1)):=λz hz=>hp.b z (Qn hz)
 refine G7 func363 rfl ?_;refine Uy [.k (Tq hp.t hp.ln hp.bd),.f (by simpa using h0),.r 18 (eI (b:=((p.length-1:Nat):Int)) Fq),.i (p.length-1)] rfl ?_;rw[<-Yd];refine U4 (S:=Nat×Option Nat) 2 (λL1 s=>(21,.v (.oi (s.1:Int)))::L1) (λs=>[.blk 41 [.bool false,.nils,.bool false,.nils],.blk 35 (ozi s.2)]) (λs=>p.length-1-s.1) (λs=>s.1<=p.length-1/\most ((p.take (p.length-1)).take s.1)=s.2.getD 0) (0,none) ⟨Qj _,rfl⟩ rfl rfl λ⟨i,o⟩ ⟨j1,j2⟩=>?_
 dsimp only at j1 j2 ⊢;by_cases d:i<p.length-1
 .obtain⟨z,hz⟩:=gxE (l:=(p.take (p.length-1))) (i:=i) Fo;have w:Gm z<=16777216:=c z (Qc hz);have a:most ((p.take (p.length-1)).take (i+1))=if o.getD 0<z.natAbs then z.natAbs else o.getD 0:=by
   rw[Zv,hz];show most (_++[z])=_;rw[vG,j2]
  have h:=Qko (Gb z) (Qa w Fp);have e:decide ((i:Int)<(((p.take (p.length-1)).map Rr).length:Int))=true:=Fq;have q:Gm ((o.getD 0:Nat):Int)<=16777216:=by rw[<-j2];exact gJ λy u=>c y (Qn u)
  have g:Dv (z.natAbs:Int) ((o.getD 0:Nat):Int)>0↔o.getD 0<z.natAbs:=by unfold Dv;split <;> (try split) <;> omega
  have j:U5 140 [.agg (Rr (z.natAbs:Int)),.agg (ozr o)] [.oi (Dv (z.natAbs:Int) ((o.getD 0:Nat):Int))]:=by
   cases o with
   |none=>exact MX (Gb _) YQ (by rw[Iy];omega) Fp
   |some m=>exact MX (Gb _) (Gb _) (by rw[Iy];omega) (Qa q Fp)
  by_cases hc:o.getD 0<z.natAbs
  .rw[if_pos hc]at a;have hd:decide (Dv (z.natAbs:Int) ((o.getD 0:Nat):Int)>0)=true:=by simpa using g.2 hc
   cases o <;> (refine Uy [.t e,.x (Ra (f:=Rr) hz),.k h,.k j,.t hd] rfl ?_;exact rd (i+1,some z.natAbs) Fv ⟨d,a⟩ rfl)
  .rw[if_neg hc]at a;have hd:decide (Dv (z.natAbs:Int) ((o.getD 0:Nat):Int)>0)=false:=by
    have:=mt g.1 hc;simpa using this
   cases o with
   |none=>refine Uy [.t e,.x (Ra (f:=Rr) hz),.k h,.k j,.f hd] rfl ?_;exact rd (i+1,none) Fv ⟨d,a⟩ rfl
   |some m=>refine Uy [.t e,.x (Ra (f:=Rr) hz),.k h,.k j,.f hd] rfl ?_;exact rd (i+1,some m) Fv ⟨d,a⟩ rfl
 .obtain rfl:i=p.length-1:=Fo;rw[Qo Fo]at j2;have bl:Gm (Gp p)<=16777216:=hp.b _ (qK h0);have ln:((Gp p).natAbs:Int)≠0:=by have:=Do hp.t h0;omega
  have cl:=Aa hp.t hp.ln hp.bd;have h:=Qko (Gb (Gp p)) (Qa bl Fp);have q:Gm ((o.getD 0:Nat):Int)<=16777216:=by rw[<-j2];exact gJ c
  have cd:U5 244 [.agg (Rr ((Gp p).natAbs:Int)),.agg (ozr o)] [.agg (Rr (((Gp p).natAbs:Int)+(most (p.take (p.length-1)):Int)))]:=by
   rw[j2];cases o with
   |none=>exact GV (Gb _) YQ (by rw[Iy];omega) Fp
   |some m=>exact GV (Gb _) (Gb _) (by rw[Iy];omega) (Qa q Fp)
  have B:=Qs8 (n:=((Gp p).natAbs:Int)+(most (p.take (p.length-1)):Int)) ln (Qa (YZ _ _) (by rw[Iy,j2];omega)) (by rw[Iy];omega);have A:decide (((p.length-1:Nat):Int)<(((p.take (p.length-1)).map Rr).length:Int))=false:=Ft;cases o <;> exact Uz [.f A,.k cl,.k h,.k cd,.k B] rfl
theorem Qw8{z:Int}:U5 345 [.agg (Rr z)] [.oi (Int.sign z)]:=by
 by_cases h0:z=0
 .subst h0;exact U0 func345 rfl [.t (by simp[Gh,Ru])] rfl
 .have hl:(He z.natAbs).length≠0:=λh=>h0 (Qhn.1 h)
  have a:decide (((lm (He z.natAbs)).length:Int)=0)=false:=by simpa[Gh]using hl
  by_cases h1:z<0
  .rw[X6 h1];exact U0 func345 rfl [.f a,.t (by simpa using h1)] rfl
  .rw[Jq Fo];exact U0 func345 rfl [.f a,.f (by simpa using h1)] rfl
variable{p:U8}
theorem Qjm(hp:Pb p):U5 373 [pr p] [.oi (YA p),.oi (TY p)]:=by
 have hb:-1<=(Gp p).sign/\(Gp p).sign<=1:=by rcases QV (Gp p)with h|h|h <;> omega
 by_cases h:p.length % 2=0
 .have e:YA p=-(Gp p).sign:=by unfold YA;rw[if_pos h]
  rw[e];exact U0 func373 rfl [.k (Tq hp.t hp.ln hp.bd),.k (Aa hp.t hp.ln hp.bd),.k Qw8,.t (by rw[Qfh];simp[h])] rfl rfl (by simp[Gi,Gp]at hb ⊢;omega)
 .have e:YA p=(Gp p).sign:=by unfold YA;rw[if_neg h]
  rw[e];exact U0 func373 rfl [.k (Tq hp.t hp.ln hp.bd),.k (Aa hp.t hp.ln hp.bd),.k Qw8,.f (by rw[Qfh];simp;omega)] rfl rfl Fy
theorem Qkw(hp:Pb p):U5 372 [pr p] [.oi (YA p)]:=U0 func372 rfl [.k (Qjm hp)] rfl
theorem Qs5(hp:Pb p):U5 374 [pr p] [.oi (TY p)]:=U0 func374 rfl [.k (Qjm hp)] rfl
theorem Qlb{q:Rat}(a:Qs 4294967295 q):U5 134 [.agg (rl q)] [.agg (rl (-q))]:=by
 exact U0 func134 rfl [.k (IR a),.k (AB (Gb _) a.1)] rfl
variable{l:U9}
theorem pB{fid:Nat}{sg:U8->Int}(hl:l.length≤1000)(hs:∀p,-1≤sg p/\sg p≤1)(h:∀p∈l,xR prog fid [pr p] [.oi (sg p)]):U5 305 [.one (.sh [.row (M5 l)]),.one (.fn fid [] [])] [.oi (De sg l:Nat)]:=by
 have b:=Od l;refine G7 func305 rfl ?_;refine Ux [] rfl ?_;refine U4 (S:=Nat) 0 (λL1 i=>(15,.v (.oi i))::(5,.v (.oi ((Oi sg l i).1:Int)))::(6,.v (.one (.int .i64 (Oi sg l i).2)))::L1) (λ_=>[]) (λi=>l.length-i) (λi=>i<=l.length) 0 (Qj _) rfl rfl λi hi=>?_
 by_cases a:i<l.length
 .obtain⟨p,hp⟩:=gxE (l:=l) (i:=i) a;have c:Oi sg l (i+1)=Pf sg (Oi sg l i) p:=Ph _ _ _ hp;obtain⟨b1,e,g⟩:=xJ hs l i;have d:=hs p;by_cases h0:sg p=0
  .refine Uy [.t (by simp[b];omega),.x (Sr hp),.k (h p (Qc hp)),.t (by simpa using h0)] rfl ?_;exact rd (i+1) Fo a (by rw[c,show Pf sg (Oi sg l i) p=Oi sg l i from by unfold Pf;rw[if_pos h0]];rfl)
  .by_cases h1:(Oi sg l i).2=-(sg p)
   .refine Uy [.t (by simp[b];omega),.x (Sr hp),.k (h p (Qc hp)),.f (by simpa using h0),.t (by simpa using h1)] rfl ?_;exact rd (i+1) Fo a (by rw[c,show Pf sg (Oi sg l i) p=((Oi sg l i).1+1,sg p) from by unfold Pf;rw[if_neg h0,if_pos h1]];rfl)
   .refine Uy [.t (by simp[b];omega),.x (Sr hp),.k (h p (Qc hp)),.f (by simpa using h0),.f (by simpa using h1)] rfl ?_;exact rd (i+1) Fo a (by rw[c,show Pf sg (Oi sg l i) p=((Oi sg l i).1,sg p) from by unfold Pf;rw[if_neg h0,if_neg h1]];rfl)
 .obtain rfl:i=l.length:=Fo;refine Uz [.f (by simp[b])] rfl ?_ trivial;unfold Oi De;rw[List.take_length]
theorem MR(p:U8):(-1<=YA p/\YA p<=1)/\-1<=TY p/\TY p<=1:=by
 have hb:-1<=(Gp p).sign/\(Gp p).sign<=1:=by rcases QV (Gp p)with h|h|h <;> omega
 unfold YA TY
 split <;> omega
theorem Qr3(hl:l.length≤1000)(hp:∀p∈l,Pb p):U5 365 [.one (.sh [.row (M5 l)])] [.oi (WW l)]:=by
 have b:U5 369 [.one (.sh [.row (M5 l)])] [.oi (De YA l:Nat)] :=
  U0 func369 rfl [.k (pB hl (λp=>(MR p).1) λp h=>Qkw (hp p h))] rfl
 have a:U5 370 [.one (.sh [.row (M5 l)])] [.oi (De TY l:Nat)] :=
  U0 func370 rfl [.k (pB hl (λp=>(MR p).2) λp h=>Qs5 (hp p h))] rfl
 have b1:De YA l<=l.length:=Df (λp=>(MR p).1) l;have c:De TY l<=l.length:=Df (λp=>(MR p).2) l;exact U0 func365 rfl [.k b,.k a] rfl rfl Fw
theorem eS{lo hi:Rat}(hl:l.length<=1000):-1000<=Hw l lo hi/\Hw l lo hi<=1000:=by
 have b1:Mw l lo<=l.length:=Df (λp=>Lz p lo) l;have a:Mw l hi<=l.length:=Df (λp=>Lz p hi) l;unfold Hw;split <;> omega
abbrev tal(l:List Tm):Ff:=l.map λt=>ta t
theorem EW{p:U8}{c:U9}(hp:Pb p):∀{k:Nat} {lo hi:Rat} {n:Int} {r:List Tm},Qb lo->Qb hi->Az p c k lo hi n=some r->∀t∈r,Tb t
 | 0,_,_,_,_,_,_,h=>by cases h
 |
  k+1,lo,hi,n,r,hl,hh,h=>by
  simp only[Az]at h
  split at h
  .injection h with h;subst h;exact λt ht=>by cases ht
  .split at h
   .injection h with h;subst h;intro t ht;rw[Qk.1 ht];exact⟨hp,hl,hh⟩
   .obtain⟨m,hm,h⟩:=Qd.1 h;obtain⟨rfl,a⟩:=IN hm;obtain⟨x,hx,h⟩:=Qd.1 h;obtain⟨y,b,h⟩:=Qd.1 h;injection h with h;subst h;intro t ht;rcases Qr.1 ht with ht|ht
    .exact EW hp hl a hx t ht
    .exact EW hp a hh b t ht
theorem Q11(l:List Tm):∀c∈tal l,c.length=9:=λc hc=>by obtain⟨t,_,rfl⟩:=Q8.1 hc;rfl
theorem aS{p:U8}{c:U9}(hp:Pb p)(a:c.length≤1000)(hc:∀q∈c,Pb q):∀{k:Nat} {lo hi:Rat} {n:Int} {r:List Tm},Qb lo->Qb hi->k≤100000->-(1000*(100001-k:Nat))≤n/\n≤1000*(100001-k:Nat)->Az p c k lo hi n=some r->r.length≤1000000->Ge prog 364 [pr p,.one (.sh [.row (M5 c)]),.agg (rl lo),.agg (rl hi),.oi n] [] [.one (.orow 0 9 none)] [.row false 72 9 (tal r)]
 | 0,_,_,_,_,_,_,_,_,h,_=>by cases h
 |
  k+1,lo,hi,n,r,hl,hh,hk,hn,h,hr=>by
  simp only[Az]at h
  split at h
  .rename_i h0;injection h with h;subst h;refine G7 func364 rfl ?_;exact U3 [] [2] [.t (by simpa using h0),.o 10 72 9] rfl
  .rename_i h0
   split at h
   .rename_i h1;injection h with h;subst h;refine G7 func364 rfl ?_;exact U3 [] [2] [.f (by simpa using h0),.t (by simpa using h1),.k (Tq hp.t hp.ln hp.bd),.k (Dk hl.s32),.k (Dk hh.s32),.lo] rfl
   .rename_i h1;obtain⟨m,hm,h⟩:=Qd.1 h;obtain⟨rfl,b⟩:=IN hm;obtain⟨x,hx,h⟩:=Qd.1 h;obtain⟨y,g,h⟩:=Qd.1 h;injection h with h;subst h;have hb:=eS (l:=c) (lo:=lo) (hi:=NY lo hi) a;rw[Qw]at hr;have d:=aS hp a hc hl b Fo Fo hx Fo;have e:=aS hp a hc b hh Fo Fo g Fo;rw[show tal (x++y)=tal x++tal y from Jx];refine G7 func364 rfl ?_;exact U3 [] [3] [.f (by simpa using h0),.f (by simpa using h1),.k (Qw6 hl hh),.k (jH a hc hl b),.c [3] d,.c [4] e,.s (Q11 y)] rfl Fw
theorem Qsi{p:U8}{r:List Tm}(hp:Pb p)(h:WV p=some r)(hr:r.length<=1000000):U5 361 [pr p] [.one (tas r),.oi 0]:=by
 unfold WV at h;obtain⟨c,h1,h⟩:=Qd.1 h;obtain⟨q,h2,h⟩:=Qd.1 h;obtain⟨b,h3,h⟩:=Qd.1 h;obtain⟨rfl,hb⟩:=IN h3;obtain⟨n,e⟩:=chain_ok hp h1;have d:=NU hp h2;have m:q.length≠0:=by
  unfold chain at h1;obtain⟨a,a1,h1⟩:=Qd.1 h1;rw[h2]at a1;injection a1 with a1;subst a1
  split at h1
  .cases h1
  .assumption
 have g:Qb (-Hm q):=⟨by rw[Rat.neg_num,Rq];exact hb.1,by rw[Rat.neg_den];exact hb.2⟩;have j:De YA c<=c.length:=Df (λp=>(MR p).1) c;have l:De TY c<=c.length:=Df (λp=>(MR p).2) c;have hn:-(1000*(100001-100000:Nat):Int)<=WW c/\WW c<=1000*(100001-100000:Nat):=by unfold WW;omega
 have i:=aS d Fo e g hb (Ql _) hn h hr;refine G7 func361 rfl ?_;exact U3 [1] [] [.k (Qke hp h1),.f rfl,.k (AI hp h2),.k (Qr1 d m),.k (Qlb hb.s32),.k (Qr3 Fo e),.c [1] i] rfl
def Ga(l:List Pt):Ff:=l.map Gq
variable{l:List Pt}
theorem Ms{i:Nat}{c:Pt}(h:l[i]? = some c):(Ga l)[i]? = some (Gq c):=Ra h
theorem Rl(l:List Pt):(Ga l).length=l.length:=by simp[Ga]
theorem UB(l:List Pt):∀c∈Ga l,c.length=5:=λc hc=>by
 obtain⟨x,_,rfl⟩:=Q8.1 hc;rfl
abbrev zPt:Fe:=[.nils,.nils,.bool false,.nils,.int .i64 0]
theorem Qdq{lt:Pt->Pt->Bool}{O:List Pt}{z:Fe}{c:Pt}{k m:Nat}{l2:Ff}(a:k<=O.length)(hp:If lt O c O.length=k)(hm:m=O.length-k)(h2:l2.take m=((Ga O++[z]).drop k).take m) :
 ((Ga O++[z]).take (k+1)++(l2.take m++(Ga O++[z]).drop (k+1+m))).set k (Gq c)=Ga (A9 lt O c):=by
 rw[h2,<-Zh,nU (Ga O) z (Gq c) (by rw[Rl];omega) (by rw[Rl];omega)];simp[A9,hp,Ga,Yd,Vv]
def Ml(t:Tm)(l:List Pt):List Pt:=Ip (P0 (G6 t)) l
theorem pW{t:Tm}(hl:∀p∈l,Sc p.c)(hn:l.length≤1000000)(ht:Va t):U5 178 [.agg (ta t),.one (pts l)] [.one (pts (Ml t l))]:=by
 have q:=Rl l;show U5 178 [.agg (ta t),.one (.row (Ga l))] [.one (.row (Ga (Ml t l)))];obtain⟨lt,e⟩:=nmE (P0 (G6 t));unfold Ml;rw[<-e];refine G7 func178 rfl ?_;refine Ux [.o 5 39 5] rfl ?_;refine U4 (S:=Nat) 2 (λL1 i=>(11,.v (.oi i))::(5,.v (.one (.orow 1 5 none)))::L1) (λi=>[.blk 72 (ta t),.row false 39 5 (Ga (Ip lt (l.take i)))]) (λi=>l.length-i) (λi=>i<=l.length) 0 (Qj _) rfl rfl λi hi=>?_
 by_cases h:i<l.length
 .obtain⟨c,hc⟩:=gxE (l:=l) (i:=i) h;have j:Ip lt (l.take (i+1))=A9 lt (Ip lt (l.take i)) c:=Qa7 hc;have w:=hl c (Qc hc);obtain⟨O,A⟩:=nmE (Ip lt (l.take i));have B:O.length=i:=by rw[A,wV,Qt];omega
  have u:∀x∈O,Sc x.c:=λx hx=>by rw[A,Qic]at hx;exact hl x (Qn hx)
  rw[<-A]at j ⊢;refine Ux [.t (by simp[q];omega),.x (Ms hc)] rfl ?_;refine U4 (S:=Nat) 3 (λL1 k=>(8,.v (.oi k))::L1) (λk=>[.blk 72 (ta t),.row false 39 5 (Ga O),.blk 39 (Gq c)]) id (λk=>k<=O.length/\If lt O c k=If lt O c O.length) (Ga O).length ⟨by rw[Rl];exact Ql _,by rw[Rl]⟩ rfl rfl λk ⟨C,hp⟩=>?_
  have hz:∀y∈[zPt],y.length=5:=λy d=>by rw[Qk.1 d];rfl
  have n:∀y∈Ga O++[zPt],y.length=5:=λy d=>by
   rcases Qr.1 d with d|d
   .exact UB O y d
   .exact hz y d
  cases k with
  |
   zero =>
   have hp:If lt O c O.length=0:=by rw[<-hp];rfl
   refine go tt [.g 19 false Ft,.f rfl,.s (sz:=5) hz,.r 37 (eI (b:=((0+1:Nat):Int)) Ft),.i (0+1),.i (0),.s (sz:=5) (λy d=>n y (Qn d)),.i (O.length),.i (0)] rfl (by simp[Gi,Rl];omega) ?_;exact rd (i+1) Fo h (by rw[j,<-Qdq (z:=zPt) (l2:=(Ga O++[zPt]).take ((Ga O++[zPt]).length-0)) (k:=0) (m:=O.length) Fo hp Fo (by congr 1;exact Qo Ft)];rfl)
  |
   succ k =>
   obtain⟨x,hx⟩:=gxE (l:=O) (i:=k) Fo;have cb:=Qjf w (u x (Qc hx)) ht;rw[<-e]at cb;by_cases a:lt c x=true
   .refine go tt [.g 19 true Ft,.r 23 (eI (b:=(k:Int)) Ft),.i k,.x (Ms hx),.k cb,.t a,.r 30 (eI (b:=(k:Int)) Ft)] rfl (by simp[Gi,Rl];omega) ?_;exact rd k Ft ⟨Fo,by rw[<-hp,Qes hx a]⟩ rfl
   .have a:lt c x=false:=by simpa using a
    have hp:If lt O c O.length=k+1:=by rw[<-hp,cX hx a]
    refine go tt [.g 19 true Ft,.r 23 (eI (b:=(k:Int)) Ft),.i k,.x (Ms hx),.k cb,.f a,.s (sz:=5) hz,.r 37 (eI (b:=((k+1+1:Nat):Int)) Ft),.i (k+1+1),.i (k+1),.s (sz:=5) (λy d=>n y (Q3 (Qn d))),.i (O.length-(k+1)),.i (k+1)] rfl (by simp[Gi,Rl];omega) ?_;exact rd (i+1) Fo h (by rw[j,<-Qdq (z:=zPt) (l2:=((Ga O++[zPt]).drop (k+1)).take ((Ga O++[zPt]).length-(k+1))) (k:=k+1) (m:=O.length-(k+1)) Fo hp Fo (by congr 1;exact Qo Ft)];rfl)
 .obtain rfl:i=l.length:=Fo;rw[Q6];exact Uz [.f (by simp[q])] rfl
def Mm(sg:U8->Int):List Pt->List Ct
 |a::b::l=>YK sg a b::Mm sg (b::l)
 |_=>[]
theorem Lc(sg:U8->Int):∀l:List Pt,(Mm sg l).length=l.length-1
 | []=>rfl
 | [_]=>rfl
 |a::b::l=>by simp only[Mm,Q5,Lc sg (b::l)];omega
theorem NN(sg:U8->Int):∀{l:List Pt} {i:Nat} {a b:Pt},l[i]? = some a->l[i+1]? = some b->(Mm sg l).take (i+1)=(Mm sg l).take i++[YK sg a b]
 | [],i,a,b,h,_=>by simp at h
 | [x],i,a,b,_,h=>by cases i <;> simp at h
 |x::y::l,0,a,b,h1,h2=>by simp at h1 h2;subst h1;subst h2;simp[Mm]
 |
  x::y::l,i+1,a,b,h1,h2=>by
  have c:=NN sg (l:=y::l) (i:=i) (a:=a) (b:=b) (by simpa using h1) (by simpa using h2);simp only[Mm,Vr]at c ⊢;rw[c];rfl
theorem AA{t:Tm}(hl:∀p∈l,Sc p.c)(hn:l.length≤1000000)(ht:Va t):U5 180 [.agg (ta t),.one (pts l)] [.one (.row (Gk (Mm (G6 t) l)))]:=by
 have d:=Rl l;show U5 180 [.agg (ta t),.one (.row (Ga l))] [.one (.row (Gk (Mm (G6 t) l)))];refine G7 func180 rfl ?_;refine Ux [.o 5 66 7] rfl ?_;refine U4 (S:=Nat) 2 (λL1 i=>(6,.v (.oi ((i+1:Nat):Int)))::(5,.v (.one (.orow 1 7 none)))::L1) (λi=>[.blk 72 (ta t),.row false 66 7 (Gk ((Mm (G6 t) l).take i))]) (λi=>l.length-i) (λi=>i<=l.length-1) 0 (Qj _) rfl rfl λi hi=>?_
 by_cases g:i+1<l.length
 .obtain⟨a,ha⟩:=gxE (l:=l) (i:=i) Fo;obtain⟨b,hb⟩:=gxE (l:=l) (i:=i+1) g;have hg:=NN (G6 t) ha hb;have hm:∀y∈[Ey (YK (G6 t) a b)],y.length=7:=λy h=>by rw[Qk.1 h];rfl
  refine go tt [.t (by simp[d];omega),.r 19 (eI (b:=(i:Int)) Ft),.x (Ms ha),.x (Ms hb),.k (Qb4 (hl a (Qc ha)) (hl b (Qc hb)) ht),.s (sz:=7) hm,.r 14 (eI (b:=((i+1+1:Nat):Int)) Ft)] rfl (by simp[Gi,Rl,Nf,Lc];omega) ?_;exact rd (i+1) Fo Fo (by rw[hg];simp[Gk];rfl)
 .have e:(Mm (G6 t) l).take i=Mm (G6 t) l:=Qo (by rw[Lc];omega);rw[e];exact Uz [.f (by simp[d];omega)] rfl
theorem Qsk:U5 270 [pr []] [.one .nilp,.oi 2]:=by
 have h:Ma []=some []:=rfl;exact U0 func270 rfl [.k (AI NW h),.t rfl] rfl
theorem Qkc:U5 361 [pr []] [.one (.row []),.oi 2] :=
 U0 func361 rfl [.k Qsk,.t rfl] rfl
theorem Q03{a o:U8}(ha:Pb a)(h:DC a=some o):Pb o:=by
 unfold DC at h
 split at h
 .injection h with h;subst h;exact NW
 .obtain⟨l,hl,h⟩:=Qd.1 h;obtain⟨fs,b,h⟩:=Qd.1 h;exact YU Qot (fY (LO (Pd ha) hl).2 b) h
variable{l:List Tm}
theorem Qjo{p:U8}(hp:Pb p)(h:Ik p=some l)(hl:l.length<=1000000):U5 360 [pr p] [.one (tas l)]:=by
 unfold Ik at h;obtain⟨q,a,h⟩:=Qd.1 h;have c:=Q03 hp a;have b:=Q29 hp a
 split at h
 .rename_i h0;injection h with h;subst h;obtain rfl:=Qg h0;exact U0 func360 rfl [.k b,.k Qkc,.t rfl] rfl
 .exact U0 func360 rfl [.k b,.k (Qsi c h hl),.f rfl] rfl
def ota:Option Tm->Fe
 |none=>zTr
 |some t=>ta t
theorem Qr7{p:U8}{a:Tm}{r:Option Tm}(hp:Pb p)(ha:Tb a)(h:Ik p=some l)(hl:l.length≤1000000)(ht:∀t∈l,Tb t)(hr:QO a l=some r):U5 359 [pr p,.agg (ta a)] [.agg (ota r),.one (.bool r.isSome)]:=by
 have m:(l.map λt=>ta t).length=l.length:=Ft;refine G7 func359 rfl ?_;refine Ux [.k (Qjo hp h hl)] rfl ?_;refine U4 (S:=Nat) 2 (λL1 i=>(11,.v (.oi i))::L1) (λ_=>[.blk 72 (ta a),.blk 72 zTm]) (λi=>l.length-i) (λi=>i<=l.length/\QO a (l.drop i)=some r) 0 ⟨Qj _,hr⟩ rfl rfl λi ⟨hi,b⟩=>?_
 by_cases d:i<l.length
 .obtain⟨t,hx⟩:=gxE (l:=l) (i:=i) d;have e:l.drop i=t::l.drop (i+1):=by
   rw[Zo d];congr 1;have:=Qf d;rw[hx]at this;injection this with this;exact this.symm
  rw[e]at b;simp only[QO]at b;obtain⟨c,j,b⟩:=Qd.1 b;have g:=GZ (ht t (Qc hx)) ha j;by_cases hc:0<c
  .rw[if_pos hc]at b;injection b with b;subst b;exact Uz [.t Fq,.x (EN hx),.k g,.t (by simpa using hc)] rfl
  .rw[if_neg hc]at b;refine Uy [.t Fq,.x (EN hx),.k g,.f (by simpa using hc)] rfl ?_;exact rd (i+1) Fo ⟨d,b⟩ rfl
 .obtain rfl:i=l.length:=Fo;rw[Vf]at b;simp only[QO]at b;injection b with b;subst b;exact Uz [.f Ft] rfl
def La(now:Tm):List Wt->Option (List Wt)
 | []=>some []
 |w::l=>(if w.known=true then some w else(CW w.c.p now).bind λr=>some ⟨w.c,true,r⟩).bind λw'=>(La now l).bind λr=>some (w'::r)
theorem UH{now:Tm}:∀{l ws:List Wt},La now l=some ws->ws.length=l.length/\∀(i:Nat) (w:Wt),l[i]? = some w->∃v,ws[i]? = some v/\(w.known=true/\v=w\/w.known=false/\∃r,CW w.c.p now=some r/\v=⟨w.c,true,r⟩)
 | [],ws,h=>by injection h with h;subst h;exact⟨rfl,λi x hx=>by simp at hx⟩
 |
  y::l,ws,h=>by
  simp only[La]at h;obtain⟨v,hv,h⟩:=Qd.1 h;obtain⟨r,hr,h⟩:=Qd.1 h;injection h with h;subst h;obtain⟨a,b⟩:=UH hr;refine⟨by simp[a],λi x hx=>?_⟩;cases i with
  |
   zero =>
   injection hx with hx;subst hx;refine⟨v,rfl,?_⟩
   split at hv
   .rename_i d;injection hv with hv;exact .inl ⟨d,hv.symm⟩
   .rename_i d;obtain⟨q,e,hv⟩:=Qd.1 hv;injection hv with hv;exact .inr ⟨by simpa using d,q,e,hv.symm⟩
  |succ i=>exact b i x (by simpa using hx)
variable{r:Option Tm}
theorem pX{p:U8}{a:Tm}(hp:Cp p)(ha:Va a)(h:CW p a=some r):U5 359 [pr p,.agg (ta a)] [.agg (ota r),.one (.bool r.isSome)]:=by
 obtain⟨l,l1,l2,l3,_⟩:=A6 hp;unfold CW at h;rw[l1]at h;exact Qr7 (Dp.pb hp.dp) ha.tb l1 Fo (λt ht=>(l3 t ht).tb) h
variable{T:Nat}{c:Cr}{ws:List Wt}
theorem Qsa{r0 r1:Ff}(hc:CrOk c)(h:La c.now c.l=some ws):Ge prog 353 [.one (.ow 0 0)] [.blk T (Te c r0 r1)] [] [.blk T (Te { c with l:=ws } r0 r1)]:=by
 have B:=hc.k;have d:=Pu c.l;obtain⟨h1,h2⟩:=UH h;refine G7 func353 rfl ?_;refine Ux [.o 2 309 18,.c [0] (JR hc.n)] rfl ?_;refine U4 (S:=Nat) 3 (λL1 i=>(13,.v (.oi i))::(2,.v (.one (.orow 1 18 none)))::L1) (λi=>[.blk T (Te c r0 r1),.row false 309 18 (Lk (ws.take i)),.blk 72 (ta c.now)]) (λi=>c.l.length-i) (λi=>i<=c.l.length) 0 (Qj _) rfl rfl λi hi=>?_
 by_cases a:i<c.l.length
 .obtain⟨w,hx⟩:=gxE (l:=c.l) (i:=i) a;obtain⟨v,hv,h3⟩:=h2 i w hx;have hm:∀y∈[wl v],y.length=18:=λy j=>by rw[Qk.1 j];rfl
  have hg:=Oj hv;have hl:decide ((i:Int)<((Lk c.l).length:Int))=true:=by simp[d];omega
  rcases h3 with⟨b,rfl⟩|⟨b,r,g,rfl⟩
  .obtain⟨C,q,m⟩:=v;cases m <;> (refine go tt [.t hl,.x (Tl hx),.f (by rw[show q=true from b];rfl),.s (sz:=18) hm] rfl (by simp[Gi,Pu];omega) ?_;exact rd (i+1) Fo a (by rw[hg];rfl))
  .have z:=pX (hc.l w (Qc hx)).p hc.n g;obtain⟨A,e,u⟩:=w;cases r <;> cases u <;> (refine go tt [.t hl,.x (Tl hx),.t (by rw[show e=false from b];rfl),.k z,.s (sz:=18) hm] rfl (by simp[Gi,Pu];omega) ?_;exact rd (i+1) Fo a (by rw[hg];rfl))
 .obtain rfl:i=c.l.length:=Fo;rw[<-h1,Q6];exact U3 [1] [0] [.f (by simp[d,h1])] rfl
def KL(ws:List Wt):Option (Option Tm):=match ws.filterMap (·.fails)with
 | []=>some none
 |b::l=>(O1 b l).map some
theorem Af(hc:CrOk c)(h:La c.now c.l=some ws):CrOk { c with l:=ws }:=by
 obtain⟨h1,h2⟩:=UH h;refine⟨hc.n,λv hv=>?_,by show ws.length<=1000;rw[h1];exact hc.k⟩;obtain⟨i,hi⟩:=Xz hv;have a:i<c.l.length:=by rw[<-h1];exact(Qh.1 hi).1
 obtain⟨f,h3,h4⟩:=h2 i _ (Qf a);rw[hi]at h3;injection h3 with h3;subst h3;have b:=hc.l _ (Xs a);rcases h4 with⟨_,rfl⟩|⟨_,r,d,rfl⟩
 .exact b
 .obtain⟨e,r1,r2⟩:=Qoe b.p hc.n;rw[d]at r1;injection r1 with r1;subst r1;refine⟨b.p,λt ht=>?_⟩;have ht:r=some t:=ht;subst ht;exact r2.2.1
theorem QH{r0 r1:Ff}(hc:CrOk c)(h:La c.now c.l=some ws)(hr:KL ws=some r):Ge prog 350 [.one (.ow 0 0)] [.blk T (Te c r0 r1)] [.agg (ota r),.one (.bool r.isSome)] [.blk T (Te { c with l:=ws } r0 r1)]:=by
 have u:=Qsa (T:=T) (r0:=r0) (r1:=r1) hc h;have j:=Af hc h;have n:=j.k;have y:=Pu ws;have d:∀t∈ws.filterMap (·.fails),Tb t:=λt ht=>by
  obtain⟨w,w1,A⟩:=Jm.1 ht;exact((j.l w w1).f t A).tb
 refine G7 func350 rfl ?_;refine Ux [.c [0] u,.o 4 72 9] rfl ?_;refine U4 (S:=Nat) 3 (λL1 i=>(14,.v (.oi i))::(4,.v (.one (.orow 2 9 none)))::L1) (λi=>[.blk T (Te { c with l:=ws } r0 r1),.blk 72 zTm,.row false 72 9 (tal ((ws.take i).filterMap (·.fails)))]) (λi=>ws.length-i) (λi=>i<=ws.length) 0 (Qj _) rfl rfl λi hi=>?_
 by_cases a:i<ws.length
 .obtain⟨w,hx⟩:=gxE (l:=ws) (i:=i) a;have hl:decide ((i:Int)<((Lk ws).length:Int))=true:=by simp[y];omega
  have D:((ws.take i).filterMap (·.fails)).length<=i:=Qa (Y6 _ _) (by rw[Qt];omega);have hg:(ws.take (i+1)).filterMap (·.fails)=(ws.take i).filterMap (·.fails)++(match w.fails with|none=>[]|some t=>[t]):=by
   rw[Zv,hx,Wi];show _++List.filterMap (·.fails) [w]=_;cases q:w.fails <;> simp[q]
  obtain⟨E,F,B⟩:=w;have n:ws.length<=1000:=n;cases B with
  |
   none =>
   refine Uy [.t hl,.x (Tl hx),.f rfl] rfl ?_;exact rd (i+1) Fo a (by rw[hg];simp;rfl)
  |
   some t =>
   refine Uy [.t hl,.x (Tl hx),.t rfl,.s (l:=[ta t]) (sz:=9) (λc hc=>by rw[Qk.1 hc];rfl)] rfl ?_;exact rd (i+1) Fo a (by rw[hg];simp[tal];rfl)
 .obtain rfl:i=ws.length:=Fo;rw[Q6];have z:decide ((ws.length:Int)<((Lk ws).length:Int))=false:=by simp[y]
  have g:(ws.filterMap (·.fails)).length<=1000:=Qa (Y6 _ _) n;unfold KL at hr;cases e:ws.filterMap (·.fails)with
  |
   nil =>
   rw[e]at hr;injection hr with hr;subst hr;exact U3 [] [0] [.f z,.p 2,.k AN] rfl
  |
   cons b l =>
   rw[e]at hr d g;obtain⟨m,C,rfl⟩:=Js.1 hr;have cl:=Me (d b (Qy ..)) (λt ht=>d t (Qi _ ht)) (by simp at g;omega) C;exact U3 [] [0] [.f z,.p 2,.k cl] rfl
theorem qV{at_:Tm}{x:Ct}:∀{l:List Wt} {w:Wt},Ls l x at_=some w->w=fresh x\/∃v∈l,v.known=true/\v.c.p=x.p/\w=⟨x,true,v.fails⟩/\∀t,v.fails=some t->∃c,RE t at_=some c/\0<c
 | [],w,h=>by simp only[Ls]at h;injection h with h;exact .inl h.symm
 |
  v::l,w,h=>by
  simp only[Ls]at h;have tl:Ls l x at_=some w->w=fresh x\/∃b∈v::l,b.known=true/\b.c.p=x.p/\w=⟨x,true,b.fails⟩/\∀t,b.fails=some t->∃c,RE t at_=some c/\0<c:=λh=>by
   rcases qV h with h|⟨b,h1,h2⟩
   .exact .inl h
   .exact .inr ⟨b,Qi _ h1,h2⟩
  split at h
  .rename_i d;cases a:v.fails with
   |
    none =>
    rw[a]at h;injection h with h;exact .inr ⟨v,Qy ..,d.2.1,d.2.2,by rw[a];exact h.symm,λt ht=>by rw[a]at ht;cases ht⟩
   |
    some t =>
    rw[a]at h;obtain⟨c,e,h⟩:=Qd.1 h
    split at h
    .rename_i h0;injection h with h;exact .inr ⟨v,Qy ..,d.2.1,d.2.2,by rw[a];exact h.symm,λu hu=>by rw[a]at hu;injection hu with hu;subst hu;exact⟨c,e,h0⟩⟩
    .exact tl h
  .exact tl h
variable{c:Cr}{ws:List Wt}
theorem lay_ok{at_:Tm}{l:List Ct}(ev:Int)(hc:CrOk c)(ha:Va at_)(hl:∀x∈l,Cp x.p)(hn:l.length≤1000)(h:Po c.l at_ (Gv l)=some ws):CrOk ⟨at_,ws,ev⟩:=by
 obtain⟨h1,h2⟩:=KV h;refine⟨ha,λw b=>?_,by show ws.length<=1000;rw[h1,Cc];exact hn⟩;obtain⟨i,hi⟩:=Xz b;have a:i<(Gv l).length:=by rw[<-h1];exact(Qh.1 hi).1
 obtain⟨v,h3,h4⟩:=h2 i _ (Qf a);rw[hi]at h4;injection h4 with h4;subst h4;have hx:=hl _ (Tc (Xs a));rcases qV h3 with e|⟨v,d,_,g,e,_⟩
 .rw[e];exact⟨hx,λt ht=>by cases ht⟩
 .rw[e];exact⟨hx,λt ht=>(hc.l v d).f t ht⟩
def HE{β:Type}(Bc:Tm->List Ct)(Br:Tm->β)(t:Rat):Nat->Cr->β->Int->Option (Cr×β×Int)
 | 0,_,_,_=>none
 |
  k+1,c,r,n=>(La c.now c.l).bind λws=>(KL ws).bind λo=>match o with
  |none=>some (⟨tq t,ws,c.ev⟩,r,n)
  |some a=>if 0<Gt a t then some (⟨tq t,ws,c.ev⟩,r,n)else(Po ws a (Gv (Bc a))).bind λw2=>HE Bc Br t k ⟨a,w2,c.ev+1⟩ (Br a) (n+1)
theorem Qoh{a:Tm}(h:KL ws=some (some a))(hv:∀t∈ws.filterMap (·.fails),Va t):a∈ws.filterMap (·.fails)/\∀t∈ws.filterMap (·.fails),¬M9 t a:=by
 unfold KL at h;cases d:ws.filterMap (·.fails)with
 |nil=>rw[d]at h;injection h with h;cases h
 |
  cons b l =>
  rw[d]at h hv;obtain⟨m,e,c⟩:=Js.1 h;injection c with c;subst c;obtain⟨m',n1,n2,n3⟩:=UF l b hv;rw[e]at n1;injection n1 with n1;subst n1;exact⟨n2,n3⟩
theorem qM{a:Tm}(hc:CrOk c)(h:La c.now c.l=some ws)(hr:KL ws=some (some a)):Va a:=by
 have b:=Af hc h;have hv:∀t∈ws.filterMap (·.fails),Va t:=λt ht=>by
  obtain⟨w,w1,d⟩:=Jm.1 ht;exact(b.l w w1).f t d
 exact hv a (Qoh hr hv).1
structure BuildOk(Bc:Tm->List Ct):Prop where
 p:∀a,Va a->∀x∈Bc a,Cp x.p
 n:∀a,Va a->(Bc a).length<=1000
variable{T:Nat}
theorem Q27{t:Rat}{Bc:Tm->List Ct}{Br:Tm->Ff}{r0:Ff}(ht:Qs 1640000 t)(j:BuildOk Bc)
 (hb:∀a c r1,Va a->CrOk c->Ge prog 114 [.one (.ow 0 0),.agg (ta a)] [.blk T (Te c r0 r1)] [.one (.row (Gk (Bc a)))] [.blk T (Te c r0 (Br a))])
 {K:Nat} {c c':Cr} {r1 e:Ff} {n:Int} (hc:CrOk c) (u:0<=c.ev/\c.ev+K<=1000000000000000000) (h:Gt c.now t<=0) (hg:HE Bc Br t K c r1 0=some (c',e,n)) :
 Ge prog 354 [.one (.ow 0 0),.agg (rl t),.one (.ofn 114 [.ow 0 0] [])] [.blk T (Te c r0 r1)] [.oi n,.oi 0] [.blk T (Te c' r0 e)]:=by
 have y:Qb t:=ht.mono Fp;have B:=Eo hc.n.tb y;refine G7 func354 rfl ?_;refine Ux [.c [0] (JR hc.n),.k B,.f (by simpa using h)] rfl ?_;refine U4 (S:=Nat×Cr×Ff×Int) 2 (λL1 s=>(8,.v (.oi s.2.2.2))::L1) (λs=>[.blk T (Te s.2.1 r0 s.2.2.1),.blk 41 (rl t)]) (λs=>s.1) (λs=>CrOk s.2.1/\(0<=s.2.1.ev/\s.2.1.ev+s.1<=1000000000000000000)/\(0<=s.2.2.2/\s.2.2.2+s.1<=1000000000000000000)/\HE Bc Br t s.1 s.2.1 s.2.2.1 s.2.2.2=some (c',e,n)) (K,c,r1,0) ⟨hc,u,⟨Int.le_refl 0,Fv⟩,hg⟩ rfl rfl λ⟨k,x,r,m⟩ ⟨j1,j2,j3,d⟩=>?_
 dsimp only at j1 j2 j3 d ⊢;cases k with
 |zero=>cases d
 |
  succ k =>
  simp only[HE]at d;obtain⟨ws,w1,d⟩:=Qd.1 d;obtain⟨o,z,d⟩:=Qd.1 d;have q:=QH (T:=T) (r0:=r0) (r1:=r) j1 w1 z;have w:=FH (Gb t.num) (Gb (t.den:Int)) (Qa ht.1 Fp) (Qa ht.2 Fp) (by rw[Mk];exact ht.mono Fp);rw[Mk]at w;cases o with
  |
   none =>
   injection d with d;injection d with e1 d;injection d with e2 e3;subst e1;subst e2;subst e3;exact U3 [] [0] [.c [0] q,.g 25 true rfl,.t rfl,.k w] rfl
  |
   some a =>
   have ha:=qM j1 w1 z;dsimp only at d;have A:=Eo ha.tb y;by_cases h0:0<Gt a t
   .rw[if_pos h0]at d;injection d with d;injection d with e1 d;injection d with e2 e3;subst e1;subst e2;subst e3;exact U3 [] [0] [.c [0] q,.g 25 false rfl,.k A,.t (by simpa using h0),.k w] rfl
   .rw[if_neg h0]at d;obtain⟨C,l1,d⟩:=Qd.1 d;have i:=Af j1 w1;have cl:=Me (b:=a) (l:=[]) ha.tb (λt ht=>by cases ht) Fp rfl;have cb:=hb a { x with l:=ws } r ha i;have E:=RF (T:=T) (r0:=r0) (r1:=Br a) i ha (j.p a ha) (j.n a ha) l1;have D:decide (0<Gt a t)=false:=by simpa using h0
    refine Uy [.c [0] q,.g 25 false rfl,.k A,.f D,.k cl,.c [0] cb,.c [0] E] rfl ?_;exact rd (k,⟨a,C,x.ev+1⟩,Br a,m+1) Fv ⟨lay_ok _ i ha (j.p a ha) (j.n a ha) l1,Fv,Fv,d⟩ rfl
theorem WA{r0 r1:Ff}:Ge prog 349 [.one (.ow 0 0)] [.blk T (Te c r0 r1)] [.oi c.ev] [.blk T (Te c r0 r1)]:=by
 refine G7 func349 rfl ?_;exact U3 [] [0] [] rfl
end Orr
namespace Orq
open Orr Go
variable{a b:Tm}
theorem Qny{c:Tm}(hb:Cut (Gt b))(hc:Cut (Gt c))(h:M9 a b)(f:M9 b c):M9 a c:=by
 obtain⟨q,d,e⟩:=h;obtain⟨r,r1,r2⟩:=f;exact⟨q,d,hc.mono' (hb.lt e r1) Fo⟩
theorem NQ(ha:Cut (Gt a))(hb:Cut (Gt b))(h:¬M9 b a):Leq a (Gt b):=λq c=>by
 rcases ha.val q with e|e|e
 .exact absurd ⟨q,c,e⟩ h
 .obtain⟨r,r1,r2⟩:=hb.dn q c;exact absurd ⟨r,r2,ha.mono' r1 Fo⟩ h
 .exact e
theorem Qd2{c:Tm}(_:Cut (Gt a))(hb:Cut (Gt b))(hc:Cut (Gt c))(h:M9 a b)(d:¬M9 c b):M9 a c:=by
 obtain⟨q,f,g⟩:=h;refine⟨q,f,?_⟩;have hl:=NQ hb hc d;rcases hc.val q with e|e|e
 .exact e
 .obtain⟨r,r1,r2⟩:=hb.up q g;have h1:=hc.mono q r r1 Fo;have:=hl r h1;omega
 .have:=hl q e;omega
theorem fO(ha:Cut (Gt a))(hb:Cut (Gt b))(h:M9 a b):¬M9 b a:=λc=>Cq ha hb h c
variable{p:U8}{o:Option Tm}
theorem XP(ha:Cut (Gt a))(hb:Cut (Gt b))(f:¬M9 b a)(h:T0 p a o)(g:∀t,o=some t->M9 b t):T0 p b o:=by
 have hl:=NQ ha hb f;cases o with
 |
  none =>
  rcases h with h|⟨s,s0,h⟩
  .exact .inl h
  .exact .inr ⟨s,s0,λc hc d=>h c hc λq e=>hl q (d q e)⟩
 |
  some t =>
  obtain⟨h1,h2,_,s,s0,h4,h5⟩:=h;exact⟨h1,h2,g t rfl,s,s0,λc hc d hm=>h4 c hc (λq e=>hl q (d q e)) hm,h5⟩
theorem vQ(hp:Dp p)(ha:Va a)(hb:Va b)(c:¬M9 b a)(h:T0 p a o)(f:∀t,o=some t->M9 b t):Rp (G6 b) p=Rp (G6 a) p:=by
 by_cases h0:p.length=0
 .obtain rfl:=Qg h0;rfl
 obtain⟨d,_⟩:=Ix ha hp h0;obtain⟨e,_⟩:=Ix hb hp h0;have hl:=NQ ha.cut hb.cut c;cases o with
 |
  none =>
  rcases h with h|⟨s,s0,h⟩
  .exact absurd (by rw[h];rfl) h0
  .exact(SE e (h _ hb.cut hl)).trans (SE d (h _ ha.cut λ_ h=>h)).symm
 |
  some t =>
  obtain⟨h1,h2,h3,s,s0,h4,h5⟩:=h;exact(SE e (h4 _ hb.cut hl (f t rfl))).trans (SE d (h4 _ ha.cut (λ_ h=>h) h3)).symm
theorem wF(t q:Rat):Gt (tq t) q=Hu t q:=Iv (t:=tq t) rfl q
variable{t:Rat}
theorem MV(ha:Cut (Gt a)):0<Gt a t↔M9 (tq t) a:=by
 constructor
 .intro h;have h1:Gt a t=1:=by rcases ha.val t with e|e|e <;> omega
  obtain⟨r,r1,r2⟩:=ha.up t h1;exact⟨r,by rw[wF];rcases Bl t r with⟨e,e'⟩|⟨e,e'⟩|⟨e,e'⟩ <;> first|exact e|(exfalso;grind),r2⟩
 .rintro⟨q,b,c⟩
  rw[wF]at b;have:t<q:=by rcases Bl t q with⟨e,e'⟩|⟨e,e'⟩|⟨e,e'⟩ <;> first|exact e'|omega
  have:=ha.mono' this Fo;omega
open Classical in
noncomputable def mu(T:List Tm)(a:Tm):Nat:=(T.filter λt=>decide (M9 a t)).length
theorem yT{α:Type}{p q:α->Bool}(h:∀x,p x=true->q x=true):∀l:List α,(l.filter p).length<=(l.filter q).length
 | []=>Ql _
 |
  x::l=>by
  have b:=yT h l;by_cases hp:p x=true
  .rw[Jk hp,Jk (h x hp)];simp;exact b
  .rw[Yi hp];by_cases a:q x=true
   .rw[Jk a];simp;omega
   .rw[Yi a];exact b
theorem yS{α:Type}{p q:α->Bool}(h:∀x,p x=true->q x=true){y:α}(hp:p y=false)(a:q y=true):∀{l:List α},y∈l->(l.filter p).length<(l.filter q).length
 | [],hy=>by cases hy
 |
  x::l,hy=>by
  rcases Qm.1 hy with rfl|hy
  .rw[Yi (by simp[hp]),Jk a];have:=yT h l;simp;omega
  .have b:=yS h hp a hy;by_cases hp:p x=true
   .rw[Jk hp,Jk (h x hp)];simp;exact b
   .rw[Yi hp];by_cases a:q x=true
    .rw[Jk a];simp;omega
    .rw[Yi a];exact b
open Classical in
theorem Qxz{T:List Tm}(ha:Cut (Gt a))(hb:Cut (Gt b))(e:∀t∈T,Cut (Gt t))(h:M9 a b)(hm:b∈T):mu T b<mu T a:=by
 have d:∀l:List Tm,(∀t∈l,Cut (Gt t))->l.filter (λt=>decide (M9 b t))=l.filter (λt=>decide (Cut (Gt t)/\M9 b t)):=λl hl=>List.filter_congr λx hx=>by simp[hl x hx]
 have c:∀l:List Tm,(∀t∈l,Cut (Gt t))->l.filter (λt=>decide (M9 a t))=l.filter (λt=>decide (Cut (Gt t)/\M9 a t)):=λl hl=>List.filter_congr λx hx=>by simp[hl x hx]
 unfold mu;rw[d T e,c T e];refine yS (λx hx=>?_) (y:=b) ?_ ?_ hm
 .have hx:=of_decide_eq_true hx;exact decide_eq_true ⟨hx.1,Qny hb hx.1 h hx.2⟩
 .exact decide_eq_false λhx=>Cq hb hb hx.2 hx.2
 .exact decide_eq_true ⟨hb,h⟩
def CO(p:U8):List Tm:=(Ik p).getD []
structure KInv(c:Cr):Prop where
 ok:CrOk c
 k:∀w∈c.l,w.known=true->T0 w.c.p c.now w.fails/\∀t,w.fails=some t->t∈CO w.c.p
theorem qS(h:Cp p)(ha:Va a):∃r,CW p a=some r/\T0 p a r/\∀t,r=some t->t∈CO p:=by
 obtain⟨l,l1,_,_,l3⟩:=A6 h;obtain⟨r,r1,r2,b⟩:=l3 a ha;refine⟨r,?_,r2,λt ht=>by unfold CO;rw[l1];exact b t ht⟩;unfold CW;rw[l1];exact r1
theorem Q12(h:Cp p):∀t∈CO p,Va t:=by
 obtain⟨l,l1,_,l2,_⟩:=A6 h;unfold CO;rw[l1];exact l2
theorem fE{now:Tm}(hn:Va now):∀{l:List Wt},(∀w∈l,WtOk w)->(∀w∈l,w.known=true->T0 w.c.p now w.fails/\∀t,w.fails=some t->t∈CO w.c.p) ->
 ∃ws,La now l=some ws/\ws.map (·.c)=l.map (·.c)/\∀w∈ws,w.known=true/\T0 w.c.p now w.fails/\∀t,w.fails=some t->t∈CO w.c.p
 | [],_,_=>⟨[],rfl,rfl,λw e=>by cases e⟩
 |
  w::l,h,h'=>by
  obtain⟨ws,w1,b,d⟩:=fE hn (λv hv=>h v (Qi _ hv)) (λv hv=>h' v (Qi _ hv));by_cases a:w.known=true
  .refine⟨w::ws,by simp only[La,a,if_true,w1];rfl,by simp[b],λv hv=>?_⟩;rcases Qm.1 hv with rfl|hv
   .exact⟨a,h' v Ft a⟩
   .exact d v hv
  .obtain⟨r,r1,r2,f⟩:=qS (h w Ft).p hn;refine⟨⟨w.c,true,r⟩::ws,by simp only[La];rw[if_neg a,r1,w1];rfl,by simp[b],λv hv=>?_⟩;rcases Qm.1 hv with rfl|hv
   .exact⟨rfl,r2,f⟩
   .exact d v hv
theorem Qdv{at_:Tm}(ha:Va at_){x:Ct}:∀{l:List Wt},(∀w∈l,WtOk w)->∃w,Ls l x at_=some w/\w.c=x
 | [],_=>⟨fresh x,rfl,rfl⟩
 |
  v::l,h=>by
  obtain⟨w,w1,a⟩:=Qdv ha (x:=x) λv hv=>h v (Qi _ hv)
  simp only[Ls]
  split
  .cases b:v.fails with
   |none=>exact⟨_,rfl,rfl⟩
   |
    some t =>
    obtain⟨c,d,_⟩:=QP ((h v Ft).f t b) ha;dsimp only;rw[d];show ∃w,(if 0<c then some ⟨x,true,some t⟩else Ls l x at_)=some w/\w.c=x
    split
    .exact⟨_,rfl,rfl⟩
    .exact⟨w,w1,a⟩
  .exact⟨w,w1,a⟩
theorem iE{at_:Tm}(ha:Va at_){ol:List Wt}(a:∀w∈ol,WtOk w):∀l:List Ct,∃ws,Po ol at_ l=some ws/\ws.map (·.c)=l
 | []=>⟨[],rfl,rfl⟩
 |
  x::l=>by
  obtain⟨w,w1,b⟩:=Qdv ha (x:=x) a;obtain⟨ws,d,e⟩:=iE ha a l;exact⟨w::ws,by simp only[Po,w1,d];rfl,by simp[b,e]⟩
theorem Qhi{out:List Ct}{c x:Ct}:x∈GM out c↔x=c\/x∈out:=by
 have h:x∈out↔x∈out.take (WZ out c out.length)\/x∈out.drop (WZ out c out.length):=by
  rw[<-Qr,Zi]
 simp only[GM,Qr,Qm,h];constructor
 .rintro (h|h|h)
  .exact .inr (.inl h)
  .exact .inl h
  .exact .inr (.inr h)
 .rintro (h|h|h)
  .exact .inr (.inl h)
  .exact .inl h
  .exact .inr (.inr h)
theorem yN:∀(l a:List Ct) {y:Ct},y∈l.foldl GM a↔y∈l\/y∈a
 | [],a,y=>Ft
 |
  c::l,a,y=>by
  simp only[Xn];rw[yN l,Qhi,Qm];constructor
  .rintro (h|h|h)
   .exact .inl (.inr h)
   .exact .inl (.inl h)
   .exact .inr h
  .rintro ((h|h)|h)
   .exact .inr (.inl h)
   .exact .inl h
   .exact .inr (.inr h)
variable{l:List Ct}
theorem Og{x:Ct}:x∈Gv l↔x∈l:=by unfold Gv;rw[yN];simp
theorem Qoi{ws:List Wt}(g:∀w∈ws,WtOk w):∃o,KL ws=some o/\match o with
 |none=>∀w∈ws,w.fails=none
 |some a=>Va a/\(∃w∈ws,w.fails=some a)/\∀w∈ws,∀t,w.fails=some t->¬M9 t a:=by
 have hv:∀t∈ws.filterMap (·.fails),Va t:=λt ht=>by
  obtain⟨w,w1,i⟩:=Jm.1 ht;exact(g w w1).f t i
 unfold KL;cases c:ws.filterMap (·.fails)with
 |
  nil =>
  refine⟨none,rfl,λw h=>?_⟩;cases e:w.fails with
  |none=>rfl
  |
   some t =>
   have:t∈ws.filterMap (·.fails):=Jm.2 ⟨w,h,e⟩;rw[c]at this;cases this
 |
  cons b l =>
  rw[c]at hv;obtain⟨m,k,d,j⟩:=UF l b hv;refine⟨some m,by show(O1 b l).map some=_;rw[k];rfl,hv m d,?_,λw h t e=>?_⟩
  .rw[<-c]at d;exact Jm.1 d
  .exact j t (by rw[<-c];exact Jm.2 ⟨w,h,e⟩)
theorem Qzs{t:Tm}(ht:Va t)(ha:Va a){c:Int}(h:RE t a=some c)(h0:0<c):M9 a t:=by
 obtain⟨c',b,d⟩:=QP ht ha;rw[h]at b;injection b with b;subst b;rcases d with⟨e,_⟩|⟨e,_⟩|⟨_,e⟩
 .omega
 .omega
 .exact e
theorem Qdz{ol ws:List Wt}{now:Tm}(hn:Va now)(ha:Va a)(d:¬M9 a now)(u:∀w∈ol,WtOk w)(o:∀w∈ol,w.known=true->T0 w.c.p now w.fails/\∀t,w.fails=some t->t∈CO w.c.p)(h:Po ol a l=some ws):
 ∀w∈ws,w.known=true->T0 w.c.p a w.fails/\∀t,w.fails=some t->t∈CO w.c.p:=by
 obtain⟨h1,h2⟩:=KV h;intro w k b;obtain⟨i,hi⟩:=Xz k;have g:i<l.length:=by rw[<-h1];exact(Qh.1 hi).1
 obtain⟨v,h3,h4⟩:=h2 i _ (Qf g);rw[hi]at h4;injection h4 with h4;subst h4;rcases qV h3 with e|⟨v,j,m,n,e,r⟩
 .rw[e]at b;cases b
 .obtain⟨y,x⟩:=o v j m;rw[e];show T0 (l[i]).p a v.fails/\∀t,v.fails=some t->t∈CO (l[i]).p;rw[<-n];refine⟨XP hn.cut ha.cut d y λt ht=>?_,x⟩;obtain⟨c,q,s⟩:=r t ht;exact Qzs ((u v j).f t ht) ha q s
structure Stab{β:Type}(Bc:Tm->List Ct)(Br:Tm->β):Prop where
 ok:BuildOk Bc
 fin:∃Ps:List (List Int),(∀p∈Ps,Cp p)/\∀a,Va a->∀x∈Bc a,x.p∈Ps
 st:∀a b,Va a->Va b->(∀x∈Bc a,Rp (G6 b) x.p=Rp (G6 a) x.p)->Bc b=Bc a/\Br b=Br a
structure KSt{β:Type}(Bc:Tm->List Ct)(Br:Tm->β)(c:Cr)(r1:β):Prop where
 inv:KInv c
 cs:c.l.map (·.c)=Gv (Bc c.now)
 r:r1=Br c.now
inductive Evs (Bc:Tm->List Ct) (t:Rat):Tm->List Tm->Prop
 |nil {a:Tm} (h:∀x∈Bc a,∃o,T0 x.p a o/\∀u,o=some u->M9 (tq t) u):Evs Bc t a []
 |cons {a e:Tm} {E:List Tm} (he:Va e) (h1:M9 a e) (h2:¬M9 (tq t) e) (h3:∀x∈Bc a,∃o,T0 x.p a o/\∀u,o=some u->¬M9 u e) (h4:∃x∈Bc a,T0 x.p a (some e)) (h5:Evs Bc t e E):Evs Bc t a (e::E)
theorem Qxq{β:Type}{Bc:Tm->List Ct}{Br:Tm->β}(S:Stab Bc Br)(ht:Qs 1640000 t){Ps:U9}(Y:∀p∈Ps,Cp p)(B:∀a,Va a->∀x∈Bc a,x.p∈Ps):
 ∀(m:Nat) (c:Cr) (r1:β) (n:Int),mu (Ps.flatMap CO) c.now<=m->KSt Bc Br c r1->¬M9 (tq t) c.now ->
 ∃c' C E,HE Bc Br t (m+1) c r1 n=some (c',C,n+(E.length:Nat))/\c'.now=tq t/\KSt Bc Br c' C/\c'.ev=c.ev+(E.length:Nat)/\E.length<=m/\Evs Bc t c.now E:=by
 have K:∀t∈Ps.flatMap CO,Cut (Gt t):=λu hu=>by
  obtain⟨p,p1,p2⟩:=Zs.1 hu;exact(Q12 (Y p p1) u p2).cut
 have s:=BY ht;intro m
 induction m with
 |zero=>?_
 |succ m T=>?_
 all_goals
  intro c r1 n hm R r;obtain⟨⟨ok,X⟩,H,hr⟩:=R;obtain⟨ws,w1,D,j⟩:=fE ok.n ok.l X;have d:=Af ok w1;rw[H]at D;have hc_w:∀x∈Bc c.now,∃w∈ws,w.c=x:=λx hx=>by
   have:x∈ws.map (·.c):=by rw[D];exact Og.2 hx
   exact Q8.1 this
  have hw_c:∀w∈ws,w.c∈Bc c.now:=λw b=>Og.1 (by rw[<-D];exact Kr b)
  obtain⟨o,A,F⟩:=Qoi d.l;have fin:(∀w∈ws,∀u,w.fails=some u->M9 (tq t) u)->KSt Bc Br ⟨tq t,ws,c.ev⟩ r1/\Evs Bc t c.now []:=λg=>by
   have hg:∀x∈Bc c.now,Rp (G6 (tq t)) x.p=Rp (G6 c.now) x.p:=λx hx=>by
    obtain⟨w,b,rfl⟩:=hc_w x hx;exact vQ (S.ok.p _ ok.n _ hx).dp ok.n s r (j w b).2.1 (g w b)
   obtain⟨M,O⟩:=S.st _ _ ok.n s hg;refine⟨⟨⟨⟨s,d.l,d.k⟩,λw b _=>⟨XP ok.n.cut s.cut r (j w b).2.1 (g w b),(j w b).2.2⟩⟩,?_,?_⟩,.nil λx hx=>?_⟩
   .show ws.map (·.c)=Gv (Bc (tq t));rw[D,M]
   .show r1=Br (tq t);rw[O,hr]
   .obtain⟨w,b,rfl⟩:=hc_w x hx;exact⟨_,(j w b).2.1,g w b⟩
 .cases o with
  |
   none =>
   obtain⟨f1,f2⟩:=fin λw b u hu=>by rw[F w b]at hu;cases hu
   exact⟨_,_,[],by simp only[HE];rw[w1];simp only[Xl];rw[A];simp,rfl,f1,Ft,Ft,f2⟩
  |
   some a =>
   obtain⟨va,⟨w,b,i⟩,e⟩:=F;by_cases h0:0<Gt a t
   .obtain⟨f1,f2⟩:=fin λv hv u hu=>by
     have hu':=(d.l v hv).f u hu;exact Qd2 s.cut va.cut hu'.cut ((MV va.cut).1 h0) (e v hv u hu)
    exact⟨_,_,[],by simp only[HE];rw[w1];simp only[Xl];rw[A];simp[h0],rfl,f1,Ft,Ft,f2⟩
   .exfalso;obtain⟨P,q,I⟩:=j w b;rw[i]at q;have:a∈Ps.flatMap CO:=Zs.2 ⟨_,B _ ok.n _ (hw_c w b),I a i⟩;have:=Qxz ok.n.cut va.cut K q.2.2.1 this;omega
 .cases o with
  |
   none =>
   obtain⟨f1,f2⟩:=fin λw b u hu=>by rw[F w b]at hu;cases hu
   exact⟨_,_,[],by simp only[HE];rw[w1];simp only[Xl];rw[A];simp,rfl,f1,Ft,Ft,f2⟩
  |
   some a =>
   obtain⟨va,⟨w,b,i⟩,e⟩:=F;by_cases h0:0<Gt a t
   .obtain⟨f1,f2⟩:=fin λv hv u hu=>by
     have hu':=(d.l v hv).f u hu;exact Qd2 s.cut va.cut hu'.cut ((MV va.cut).1 h0) (e v hv u hu)
    exact⟨_,_,[],by simp only[HE];rw[w1];simp only[Xl];rw[A];simp[h0],rfl,f1,Ft,Ft,f2⟩
   .obtain⟨P,q,I⟩:=j w b;rw[i]at q;have G:=fO ok.n.cut va.cut q.2.2.1;have y:a∈Ps.flatMap CO:=Zs.2 ⟨_,B _ ok.n _ (hw_c w b),I a i⟩;have L:=Qxz ok.n.cut va.cut K q.2.2.1 y;obtain⟨z,l1,l2⟩:=iE va d.l (Gv (Bc a));have hl:=Qdz ok.n va G d.l (λv hv _=>(j v hv).2) l1;have J:KSt Bc Br ⟨a,z,c.ev+1⟩ (Br a):=⟨⟨Orr.lay_ok _ d va (S.ok.p a va) (S.ok.n a va) l1,hl⟩,l2,rfl⟩;obtain⟨c',C,E,W,N,V,U,Z,Q⟩:=T ⟨a,z,c.ev+1⟩ (Br a) (n+1) (by show mu _ a<=m;omega) J (λh=>h0 ((MV va.cut).2 h));refine⟨c',C,a::E,?_,N,V,by rw[U];simp;omega,Fq,.cons va q.2.2.1 (λh=>h0 ((MV va.cut).2 h)) (λx hx=>?_) ⟨w.c,hw_c w b,q⟩ Q⟩
    .conv=>lhs;unfold HE
     rw[w1];simp only[Xl];rw[A];simp only[Xl];rw[if_neg h0,l1];simp only[Xl];rw[W];simp;omega
    .obtain⟨v,hv,rfl⟩:=hc_w x hx;exact⟨_,(j v hv).2.1,e v hv⟩
end Orq
namespace Orq
open Orr Go
variable{a:Tm}
theorem Qql{b:Tm}(ha:Cut (Gt a))(hb:Cut (Gt b))(h:¬M9 a b)(c:¬M9 b a):∀q,Gt a q=Gt b q:=by
 rcases tri ha hb with h1|h1|h1
 .exact absurd h1 h
 .exact h1
 .exact absurd h1 c
theorem Qfg{b b':Tm}(h:∀q,Gt b q=Gt b' q):M9 a b↔M9 a b':=by
 unfold M9;simp only[h]
theorem dE{b b':Tm}(h:∀q,Gt b q=Gt b' q):M9 b a↔M9 b' a:=by
 unfold M9;simp only[h]
theorem KE{p:U8}(ha:Va a){t f:Tm}(h:T0 p a (some t))(g:T0 p a (some f)):∀q,Gt t q=Gt f q:=by
 obtain⟨_,v,l,s,s0,h4,h5⟩:=h;obtain⟨_,d,l',s',i,c,e⟩:=g;have es:s=s':=SE (h4 _ ha.cut (λ_ h=>h) l) (c _ ha.cut (λ_ h=>h) l');refine Qql v.cut d.cut (λb=>?_) λb=>?_
 .have:=SE (c _ v.cut (NQ ha.cut v.cut (fO ha.cut v.cut l)) b) h5;omega
 .have:=SE (h4 _ d.cut (NQ ha.cut d.cut (fO ha.cut d.cut l')) b) e;omega
theorem Mg{p:U8}(ha:Va a){t:Tm}(h:T0 p a (some t))(b:T0 p a none):False:=by
 obtain⟨h1,v,l,s,s0,h4,h5⟩:=h;rcases b with b|⟨f,c,b⟩
 .exact h1 b
 .have e:=SE (b _ ha.cut λ_ h=>h) (h4 _ ha.cut (λ_ h=>h) l);have d:=SE (b _ v.cut (NQ ha.cut v.cut (fO ha.cut v.cut l))) h5;omega
structure Quiet{β:Type}(Bc:Tm->List Ct)(Br:Tm->β)(a b:Tm):Prop where
 va:Va a
 vb:Va b
 le:¬M9 b a
 n:∀x∈Bc a,∃o,T0 x.p a o/\∀u,o=some u->M9 b u
section
variable{β:Type}{Bc:Tm->List Ct}{Br:Tm->β}(S:Stab Bc Br)
include S
variable{a:Tm}
theorem Quiet.same{b:Tm}(h:Quiet Bc Br a b):Bc b=Bc a/\Br b=Br a:=by
 refine S.st a b h.va h.vb λx hx=>?_
 obtain⟨o,c,d⟩:=h.n x hx;exact vQ (S.ok.p _ h.va _ hx).dp h.va h.vb h.le c d
theorem wU{b:Tm}(ha:Va a)(hb:Va b)(h:∀q,Gt a q=Gt b q):Quiet Bc Br a b:=by
 refine⟨ha,hb,λc=>Cq hb.cut hb.cut ((Qfg h).1 c) ((Qfg h).1 c),λx hx=>?_⟩;obtain⟨r,_,r2,_⟩:=qS (S.ok.p _ ha _ hx) ha;refine⟨r,r2,λu hu=>?_⟩;subst hu;obtain⟨q,d,e⟩:=r2.2.2.1;exact⟨q,by rw[<-h];exact d,e⟩
variable{t:Rat}
theorem Qhc{E:List Tm}(J:Evs Bc t a E):∀{b:Tm} {E':List Tm},Quiet Bc Br a b->Evs Bc t b E'->E.length=E'.length:=by
 induction J with
 |
  @nil a h =>
  intro b E' c m;have hs:=(Quiet.same S c).1;cases m with
  |nil _=>rfl
  |
   cons he h1 h2 h3 h4 h5 =>
   exfalso;obtain⟨x,hx,D⟩:=h4;rw[hs]at hx;obtain⟨o,i,r⟩:=h x hx;obtain⟨s,d,g⟩:=c.n x hx;cases o with
   |
    none =>
    cases s with
    |none=>exact Mg c.vb D (XP c.va.cut c.vb.cut c.le d g)
    |some u=>exact Mg c.va d i
   |
    some u =>
    cases s with
    |none=>exact Mg c.va i d
    |
     some u' =>
     have A:=KE c.va i d;have C:=KE c.vb (XP c.va.cut c.vb.cut c.le d g) D;obtain⟨q,w,z⟩:=r u rfl;exact h2 ⟨q,w,by rw[<-C,<-A];exact z⟩
 |
  @cons a e E he h1 h2 h3 h4 h5 ih =>
  intro b E' c m;have hs:=(Quiet.same S c).1;have nx:∀x∈Bc a,∀u,T0 x.p a (some u)->M9 b u/\T0 x.p b (some u):=λx hx u hu=>by
   obtain⟨s,d,g⟩:=c.n x hx;cases s with
   |none=>exact(Mg c.va hu d).elim
   |
    some u' =>
    have A:=KE c.va d hu;have H:=g u' rfl;have B:M9 b u:=by obtain⟨q,w,z⟩:=H;exact⟨q,w,by rw[<-A];exact z⟩
    exact⟨B,XP c.va.cut c.vb.cut c.le hu λv hv=>by injection hv with hv;subst hv;exact B⟩
  obtain⟨G,l,F⟩:=h4;obtain⟨I,f⟩:=nx G l e F;cases m with
  |
   nil h' =>
   exfalso;obtain⟨o,i,r⟩:=h' G (by rw[hs];exact l);cases o with
   |none=>exact Mg c.vb f i
   |
    some u =>
    have A:=KE c.vb i f;obtain⟨q,w,z⟩:=r u rfl;exact h2 ⟨q,w,by rw[<-A];exact z⟩
  |
   @cons _ e' E'' he' h1' h2' h3' h4' h5' =>
   obtain⟨x1,j,y⟩:=h4';rw[hs]at j;have a1:¬M9 e' e:=λk=>by
    obtain⟨o,i,r⟩:=h3 x1 j;cases o with
    |
     none =>
     obtain⟨s,d,g⟩:=c.n x1 j;cases s with
     |none=>exact Mg c.vb y (XP c.va.cut c.vb.cut c.le d g)
     |some u=>exact Mg c.va d i
    |
     some u =>
     have C:=KE c.vb (nx x1 j u i).2 y;exact r u rfl ((dE C).2 k)
   have a2:¬M9 e e':=λk=>by
    obtain⟨o,i,r⟩:=h3' G (by rw[hs];exact l);cases o with
    |none=>exact Mg c.vb f i
    |
     some u =>
     have C:=KE c.vb i f;exact r u rfl ((dE C).2 k)
   have:=ih (wU S he he' (Qql he.cut he'.cut a2 a1)) h5';simp[this]
theorem Q0d(ha:Va a){E E':List Tm}(h:Evs Bc t a E)(b:Evs Bc t a E'):E.length=E'.length:=Qhc S h (wU S ha ha λ_=>rfl) b
end
theorem Qwe{p:U8}(h:Cp p):(CO p).length<=67:=by
 obtain⟨l,l1,l2,_⟩:=A6 h;unfold CO;rw[l1];exact l2
theorem tG:∀{Ps:U9},(∀p∈Ps,Cp p)->(Ps.flatMap CO).length≤67*Ps.length
 | [],_=>Qj _
 |
  p::Ps,h=>by
  have h1:=Qwe (h p Ft);have h2:=tG (Ps:=Ps) λq a=>h q (Qi _ a)
  rw[Yn,Qw,Q5];omega
theorem Qxy(T:List Tm)(a:Tm):mu T a<=T.length:=Vh _ _
theorem Qjd{β:Type}{Bc:Tm->List Ct}{Br:Tm->β}(S:Stab Bc Br){a:Tm}(ha:Va a):KSt Bc Br ⟨a,(Gv (Bc a)).map fresh,0⟩ (Br a):=by
 refine⟨⟨⟨ha,λw b=>?_,?_⟩,λw b d=>?_⟩,?_,rfl⟩
 .obtain⟨x,hx,rfl⟩:=Q8.1 b;exact⟨S.ok.p _ ha x (Tc hx),λt ht=>by cases ht⟩
 .show((Gv (Bc a)).map fresh).length<=1000;rw[Ze,Cc];exact S.ok.n _ ha
 .obtain⟨x,hx,rfl⟩:=Q8.1 b;cases d
 .show((Gv (Bc a)).map fresh).map (·.c)=Gv (Bc a);rw[List.map_map];show(Gv (Bc a)).map (λx=>x)=_;rw[List.map_id']
end Orq
namespace Orr
open Go Go.Proofs Tryz Orq
set_option maxRecDepth 10000
theorem Qlu{a b:Pt}(ha:Sc a.c)(hb:Sc b.c):Cp (O8 a b):=UX (Cz ha hb) (Cy ha hb)
def VY(l:List Pt)(a:Tm):List Ct:=Mm (G6 a) (Ml a l)
abbrev xN(l:List Pt)(a:Tm):Ff:=Ga (Ml a l)
theorem dQ{sg:U8->Int}:∀{l:List Pt},(∀p∈l,Sc p.c)->∀x∈Mm sg l,Cp x.p
 | [],_,x,hx=>by cases hx
 | [_],_,x,hx=>by cases hx
 |
  a::b::l,h,x,hx=>by
  simp only[Mm]at hx;rcases Qm.1 hx with rfl|hx
  .exact Qlu (h a Ft) (h b Ft)
  .exact dQ (λp hp=>h p (Qi _ hp)) x hx
variable{l:List Pt}
theorem Tk{t:Tm}{p:Pt}:p∈Ml t l↔p∈l:=by
 unfold Ml Ip;rw[GT];simp
theorem L9(t:Tm)(l:List Pt):(Ml t l).length=l.length:=wV _ _
theorem eY(hl:∀p∈l,Sc p.c)(hn:l.length≤1000):BuildOk (VY l) :=
 ⟨λa _ x hx=>dQ (λp hp=>hl p (Tk.1 hp)) x hx,λa _=>by unfold VY;rw[Lc,L9];omega⟩
theorem jM{a:Tm}{c:Cr}{r1:Ff}(hl:∀p∈l,Sc p.c)(hn:l.length≤1000)(ha:Va a):Ge prog 114 [.one (.ow 0 0),.agg (ta a)] [.blk 200 (Te c (Ga l) r1)] [.one (.row (Gk (VY l a)))] [.blk 200 (Te c (Ga l) (xN l a))]:=by
 have d:=pW hl Fo ha;have b:=AA (l:=Ml a l) (t:=a) (λp hp=>hl p (Tk.1 hp)) (by rw[L9];omega) ha;refine G7 func114 rfl ?_;exact U3 [] [0] [.k ZJ,.k d,.k b] rfl
theorem Qgd{a:Tm}(hl:∀p∈l,Sc p.c)(hn:l.length≤1000)(ha:Va a):Ge prog 114 [.one (.ow 0 0),.agg (ta a)] [.blk 200 (aB (.row (Ga l)) .nils)] [.one (.row (Gk (VY l a)))] [.blk 200 (aB (.row (Ga l)) (.row (xN l a)))]:=by
 have d:=pW hl Fo ha;have b:=AA (l:=Ml a l) (t:=a) (λp hp=>hl p (Tk.1 hp)) (by rw[L9];omega) ha;refine G7 func114 rfl ?_;exact U3 [] [0] [.k ZJ,.k d,.k b] rfl
def Qrw(l:List Pt)(a:Tm):Cr:=⟨a,(Gv (VY l a)).map fresh,0⟩
end Orr
namespace Orq
open Orr Go
theorem VO{a:Tm}(ha:Va a):∀(L:U9),(∀p∈L,Dp p)->∃y,Gt a y=-1/\∀q,Gt a q=-1->q≤y->∀p∈L,Rp (G6 a) p=Gu (Gf p q)
 |
  [],_=>by
  obtain⟨y,g⟩:=ha.cut.hi;exact⟨y,g,λq _ _ p hp=>by cases hp⟩
 |
  p::L,h=>by
  obtain⟨y,i,d⟩:=VO ha L (λq e=>h q (Qi _ e));by_cases h0:p.length=0
  .obtain rfl:=Qg h0;refine⟨y,i,λq b c r hr=>?_⟩;rcases Qm.1 hr with rfl|hr
   .rw[VI];exact(Hy.2 rfl).symm
   .exact d q b c r hr
  .obtain⟨⟨z,j,f⟩,_⟩:=Ix ha (h p Ft) h0;refine⟨if y<=z then y else z,by split <;> assumption,λq b c r hr=>?_⟩;rcases Qm.1 hr with rfl|hr
   .rw[<-Gd];exact(f q b Fu).symm
   .exact d q b Fu r hr
section Srt
variable{α:Type}{lt:α->α->Bool}{R:α->α->Prop}
theorem kG(a:∀x,¬R x x)(tr:∀x y z,R x y->R y z->R x z):∀{l m:List α},l.Pairwise R->m.Pairwise R->(∀x,x∈l↔x∈m)->l=m
 | [],[],_,_,_=>rfl
 | [],y::m,_,_,h=>by have:=(h y).2 Ft;cases this
 |x::l,[],_,_,h=>by have:=(h x).1 Ft;cases this
 |
  x::l,y::m,hl,hm,h=>by
  rw[Zk]at hl hm;have e:x=y:=by
   rcases Qm.1 ((h x).1 Ft)with e|h1
   .exact e
   .rcases Qm.1 ((h y).2 Ft)with e|h2
    .exact e.symm
    .exact absurd (tr _ _ _ (hl.1 y h2) (hm.1 x h1)) (a x)
  subst e;rw[kG a tr hl.2 hm.2 λz=>?_];constructor
  .intro hz;rcases Qm.1 ((h z).1 (Qi _ hz))with e|h1
   .subst e;exact absurd (hl.1 z hz) (a z)
   .exact h1
  .intro hz;rcases Qm.1 ((h z).2 (Qi _ hz))with e|h1
   .subst e;exact absurd (hm.1 z hz) (a z)
   .exact h1
theorem kX{out:List α}{x:α}:∀k,k<=out.length->(∀j y,If lt out x k<=j->j<k->out[j]? = some y->lt x y=true)/\(0<If lt out x k->∃y,out[If lt out x k-1]? = some y/\lt x y=false)
 | 0,_=>⟨λj y _ h=>Fo,λh=>by simp[If]at h⟩
 |
  k+1,hk=>by
  obtain⟨y,b⟩:=gxE (l:=out) (i:=k) Fo;by_cases h:lt x y=true
  .rw[Qes b h];obtain⟨h1,h2⟩:=kX (out:=out) (x:=x) k Fo;refine⟨λj z a1 a2 a=>?_,h2⟩;by_cases e:j=k
   .subst e;rw[b]at a;injection a with a;subst a;exact h
   .exact h1 j z a1 Fo a
  .have h:lt x y=false:=by simpa using h
   rw[cX b h];exact⟨λj z a1 a2 _=>Fo,λ_=>⟨y,by simpa using b,h⟩⟩
theorem Qt8(tr:∀x y z,R x y->R y z->R x z){out:List α}{x:α}(g:out.Pairwise R)(h1:∀y∈out,lt x y=true->R x y)(h2:∀y∈out,lt x y=false->R y x):(A9 lt out x).Pairwise R:=by
 obtain⟨f,h⟩:=kX (lt:=lt) (out:=out) (x:=x) out.length (Ql _);have d:=rR lt out x out.length;unfold A9;obtain⟨k,m⟩:=nmE (If lt out x out.length);rw[<-m]at f h d ⊢;have hd:(out.take k++out.drop k).Pairwise R:=by rw[Zi];exact g
 obtain⟨s,r,n⟩:=Ja.1 hd;have o:∀y∈out.drop k,R x y:=λy a=>by
  obtain⟨i,hi⟩:=Xz a;rw[Xp]at hi;have:k+i<out.length:=(Qh.1 hi).1;exact h1 y (Q3 a) (f (k+i) y Fo this hi)
 have p:∀y∈out.take k,R y x:=λy a=>by
  obtain⟨i,hi⟩:=Xz a;have c:i<k:=by have:=(Qh.1 hi).1;simp at this;omega
  rw[Vp c]at hi;obtain⟨z,b,l⟩:=h Fo;have hz:=h2 z (Qc b) l;by_cases e:i=k-1
  .subst e;rw[hi]at b;injection b with b;subst b;exact hz
  .have hp:=Yz.1 g i (k-1) Fo Fo Fo;obtain⟨_,q⟩:=Qh.1 hi;obtain⟨_,j⟩:=Qh.1 b;rw[q,j]at hp;exact tr _ _ _ hp hz
 refine Ja.2 ⟨s,Zk.2 ⟨o,r⟩,λy a z hz=>?_⟩;rcases Qm.1 hz with rfl|hz
 .exact p y a
 .exact n y a z hz
theorem OD(tr:∀x y z,R x y->R y z->R x z){S:α->Prop}(h1:∀x y,S x->S y->lt x y=true->R x y){D:α->α->Prop}(h2:∀x y,S x->S y->D y x->lt x y=false->R y x) :
 ∀(l a:List α),a.Pairwise R->(∀x∈a,S x)->(∀x∈l,S x)->l.Pairwise D->(∀x∈a,∀y∈l,D x y)->(l.foldl (A9 lt) a).Pairwise R
 | [],a,ha,_,_,_,_=>ha
 |
  x::l,a,ha,hs,hl,hd,hx=>by
  rw[Zk]at hd;refine OD tr h1 h2 l (A9 lt a x) ?_ ?_ (λy b=>hl y (Qi _ b)) hd.2 ?_
  .exact Qt8 tr ha (λy b=>h1 x y (hl x Ft) (hs y b)) (λy b=>h2 x y (hl x Ft) (hs y b) (hx y b x Ft))
  .intro y b;rcases TM.1 b with rfl|b
   .exact hl _ Ft
   .exact hs y b
  .intro y b z hz;rcases TM.1 b with rfl|b
   .exact hd.1 z hz
   .exact hx y b z (Qi _ hz)
theorem kU:∀{l:List α},l.Pairwise R->∀{u v:α},u∈l->v∈l->u≠v->R u v\/R v u
 | [],_,_,_,h,_,_=>by cases h
 |
  x::l,hp,u,v,hu,hv,hne=>by
  rw[Zk]at hp;rcases Qm.1 hu with e|hu
  .rcases Qm.1 hv with e'|hv
   .exact absurd (e.trans e'.symm) hne
   .rw[e];exact .inl (hp.1 v hv)
  .rcases Qm.1 hv with e'|hv
   .rw[e'];exact .inr (hp.1 u hu)
   .exact kU hp.2 hu hv hne
end Srt
def px(p:Pt)(q:Rat):Rat:=Gf p.c.x q / (p.c.d:Rat)
def py(p:Pt)(q:Rat):Rat:=Gf p.c.y q / (p.c.d:Rat)
def Ef(q:Rat)(x y:Pt):Prop:=px x q<px y q\/px x q=px y q/\(py x q<py y q\/py x q=py y q/\x.id<y.id)
theorem KG(q:Rat)(x:Pt):¬Ef q x x:=by unfold Ef;grind
theorem UG(q:Rat)(x y z:Pt)(h:Ef q x y)(a:Ef q y z):Ef q x z:=by unfold Ef at *;grind
variable{q:Rat}
theorem nT{x y:Pt}(h:x.id≠y.id)(a:¬Ef q x y):Ef q y x:=by unfold Ef at *;grind
theorem wY{u v:Rat}{c d:Int}(hc:0<c)(hd:0<d):Gu (v*(c:Rat)-u*(d:Rat))=Gu (v / (d:Rat)-u / (c:Rat)):=by
 have a:(0:Rat)<(c:Rat):=by exact_mod_cast hc
 have b:(0:Rat)<(d:Rat):=by exact_mod_cast hd
 have e:v*(c:Rat)-u*(d:Rat)=((c:Rat)*(d:Rat))*(v / (d:Rat)-u / (c:Rat)):=by
  rw[Yw,Yw];have h1:=Uc (c:Rat) Fu;have h2:=Uc (d:Rat) Fu;grind
 rw[e,Eb (Xx a b)]
theorem NE{x y:Pt}(hx:Sc x.c)(a:Sc y.c)(q:Rat):Gu (Gf (Ht x.c y.c) q)=Gu (px y q-px x q):=by
 unfold Ht px;rw[Bs,Tn,Tn];exact wY hx.n.2.2.1 a.n.2.2.1
theorem NL{x y:Pt}(hx:Sc x.c)(a:Sc y.c)(q:Rat):Gu (Gf (Hr x.c y.c) q)=Gu (py y q-py x q):=by
 unfold Hr py;rw[Bs,Tn,Tn];exact wY hx.n.2.2.1 a.n.2.2.1
variable{a:Tm}
theorem AY(ha:Va a){x y:Pt}(hx:Sc x.c)(b:Sc y.c)(h1:Rp (G6 a) (Ht x.c y.c)=Gu (Gf (Ht x.c y.c) q))(h2:Rp (G6 a) (Hr x.c y.c)=Gu (Gf (Hr x.c y.c) q)):P0 (G6 a) x y=true↔Ef q x y:=by
 rw[NE hx b]at h1;rw[NL hx b]at h2;have g:=(Cz hx b).dp;have f:=(Cy hx b).dp;unfold P0;simp only[Ie];have i:=Hd (px y q-px x q);have h:=Hd (py y q-py x q);by_cases d:(Ht x.c y.c).length=0
 .rw[if_neg Fo];rw[Qg d,VI]at h1;have:px x q=px y q:=Fu;by_cases e:(Hr x.c y.c).length=0
  .rw[if_neg Fo];rw[Qg e,VI]at h2;unfold Ef;simp only[decide_eq_true_eq];grind
  .rw[if_pos Fo];have:=(Ix ha f e).2;unfold Ef;simp only[decide_eq_true_eq];grind
 .rw[if_pos Fo];have:=(Ix ha g d).2;unfold Ef;simp only[decide_eq_true_eq];grind
def Is(l:List Pt):U9:=l.flatMap λx=>l.flatMap λy=>[Ht x.c y.c,Hr x.c y.c]
variable{l:List Pt}
theorem Md{x y:Pt}(hx:x∈l)(a:y∈l):Ht x.c y.c∈Is l/\Hr x.c y.c∈Is l :=
 ⟨Zs.2 ⟨x,hx,Zs.2 ⟨y,a,Ft⟩⟩,Zs.2 ⟨x,hx,Zs.2 ⟨y,a,Ft⟩⟩⟩
theorem JU(hl:∀p∈l,Sc p.c):∀p∈Is l,Cp p:=λp hp=>by
 obtain⟨x,hx,hp⟩:=Zs.1 hp;obtain⟨y,a,hp⟩:=Zs.1 hp;simp at hp;rcases hp with rfl|rfl
 .exact Cz (hl x hx) (hl y a)
 .exact Cy (hl x hx) (hl y a)
theorem Qe8(hl:∀p∈l,Sc p.c)(hd:l.Pairwise λx y=>x.id≠y.id)(ha:Va a):∃y,Gt a y=-1/\∀q,Gt a q=-1->q≤y->(∀u∈l,∀v∈l,(P0 (G6 a) u v=true↔Ef q u v))/\(Ml a l).Pairwise (Ef q):=by
 obtain⟨y,j,i⟩:=VO ha (Is l) λp hp=>(JU hl p hp).dp
 refine⟨y,j,λq f g=>?_⟩;have h:=i q f g;have hb:∀u∈l,∀v∈l,(P0 (G6 a) u v=true↔Ef q u v):=λu hu v hv=>AY ha (hl u hu) (hl v hv) (h _ (Md hu hv).1) (h _ (Md hu hv).2)
 refine⟨hb,?_⟩;exact OD (S:=λx=>x∈l) (D:=λx y=>x.id≠y.id) (UG q) (λu v hu hv h=>(hb u hu v hv).1 h) (λu v hu hv b h=>nT (λe=>b e.symm) λd=>by
  rw[(hb u hu v hv).2 d]at h;cases h) l [] .nil (λx hx=>by cases hx) (λx hx=>hx) hd (λx hx=>by cases hx)
theorem oS{b:Tm}{x y:Pt}(h:Rp (G6 b) (O8 x y)=Rp (G6 a) (O8 x y)):P0 (G6 b) x y=P0 (G6 a) x y:=by
 unfold O8 A8 at h;unfold P0;simp only[Ie];by_cases d:0<(Ht x.c y.c).length
 .rw[if_pos d,if_pos d];rw[if_pos d]at h;rw[h]
 .rw[if_neg d,if_neg d];rw[if_neg d]at h;rw[h]
theorem IM{a b:Tm}{q r:Rat}:∀(l:List Pt),(∀u∈l,∀v∈l,(P0 (G6 a) u v=true↔Ef q u v))->(∀u∈l,∀v∈l,(P0 (G6 b) u v=true↔Ef r u v))->l.Pairwise (Ef q)->(∀x∈Mm (G6 a) l,Rp (G6 b) x.p=Rp (G6 a) x.p)->l.Pairwise (Ef r)/\Mm (G6 b) l=Mm (G6 a) l
 | [],_,_,_,_=>⟨.nil,rfl⟩
 | [x],_,_,_,_=>⟨K9 _ _,rfl⟩
 |
  x::y::l,ha,hb,hp,hc=>by
  rw[Zk]at hp;obtain⟨i1,i2⟩:=IM (a:=a) (b:=b) (q:=q) (r:=r) (y::l) (λu hu v hv=>ha u (Qi _ hu) v (Qi _ hv)) (λu hu v hv=>hb u (Qi _ hu) v (Qi _ hv)) hp.2 (λz hz=>hc z (by simp only[Mm];exact Qi _ hz));have h0:Rp (G6 b) (O8 x y)=Rp (G6 a) (O8 x y):=hc (YK (G6 a) x y) (by simp[Mm]);have h1:Ef r x y:=(hb x Ft y Ft).1 (by rw[oS h0];exact(ha x Ft y Ft).2 (hp.1 y Ft));refine⟨Zk.2 ⟨λz hz=>?_,i1⟩,?_⟩
  .rcases Qm.1 hz with rfl|hz
   .exact h1
   .exact UG r x y z h1 ((Zk.1 i1).1 z hz)
  .simp only[Mm];rw[i2];congr 1;unfold YK;rw[h0]
theorem NB{sg:U8->Int}:∀{l:List Pt},∀x∈Mm sg l,∃u∈l,∃v∈l,x.p=O8 u v
 | [],x,hx=>by cases hx
 | [_],x,hx=>by cases hx
 |
  a::b::l,x,hx=>by
  simp only[Mm]at hx;rcases Qm.1 hx with rfl|hx
  .exact⟨a,Ft,b,Ft,rfl⟩
  .obtain⟨u,hu,v,hv,e⟩:=NB (l:=b::l) x hx;exact⟨u,Qi _ hu,v,Qi _ hv,e⟩
theorem vC{u v:Pt}(hu:u∈l)(hv:v∈l):O8 u v∈Is l:=by
 unfold O8 A8;split
 .exact(Md hu hv).1
 .exact(Md hu hv).2
theorem Qbw:∀x∈VY l a,x.p∈Is l:=λx hx=>by
 obtain⟨u,hu,v,hv,e⟩:=NB x hx;rw[e];exact vC (Tk.1 hu) (Tk.1 hv)
theorem sM(l:List Pt):(Is l).length=l.length*(l.length*2):=by
 have h1:∀(x:Pt) (m:List Pt),(m.flatMap λy=>[Ht x.c y.c,Hr x.c y.c]).length=m.length*2:=λx m=>by
  induction m with
  |nil=>rfl
  |cons y m a=>rw[Yn,Qw,a,Q5];simp;omega
 have h2:∀m:List Pt,(m.flatMap λx=>l.flatMap λy=>[Ht x.c y.c,Hr x.c y.c]).length=m.length*(l.length*2):=λm=>by
  induction m with
  |nil=>simp
  |cons y m a=>rw[Yn,Qw,a,Q5,h1,Jj,W8,Yb]
 exact h2 l
theorem dJ(hl:∀p∈l,Sc p.c)(hd:l.Pairwise λx y=>x.id≠y.id){b:Tm}(ha:Va a)(hb:Va b)(h:∀x∈VY l a,Rp (G6 b) x.p=Rp (G6 a) x.p):Ml b l=Ml a l/\VY l b=VY l a:=by
 obtain⟨q,f,i⟩:=Qe8 hl hd ha;obtain⟨r,r1,r2⟩:=Qe8 hl hd hb;obtain⟨a1,a2⟩:=i q f Qp;obtain⟨b1,j⟩:=r2 r r1 Qp;obtain⟨d,g⟩:=IM (a:=a) (b:=b) (Ml a l) (λu hu v hv=>a1 u (Tk.1 hu) v (Tk.1 hv)) (λu hu v hv=>b1 u (Tk.1 hu) v (Tk.1 hv)) a2 h;have e:Ml b l=Ml a l:=kG (KG r) (UG r) j d λx=>by rw[Tk,Tk]
 exact⟨e,by unfold VY;rw[e,g]⟩
theorem Q4p(hl:∀p∈l,Sc p.c)(hn:l.length≤1000)(hd:l.Pairwise λx y=>x.id≠y.id):Stab (VY l) (xN l):=by
 refine⟨eY hl hn,⟨Is l,JU hl,λa _ x hx=>?_⟩,λa b ha hb h=>?_⟩
 .obtain⟨u,hu,v,hv,e⟩:=NB x hx;rw[e];exact vC (Tk.1 hu) (Tk.1 hv)
 .obtain⟨f,d⟩:=dJ hl hd ha hb h;exact⟨d,by unfold xN;rw[f]⟩
end Orq
namespace Orq
theorem ang{ux c a f wx wy:Rat}(hu:0<ux\/ux=0/\0<c)(hv:0<a\/a=0/\0<f)(b:0<wx\/wx=0/\0<wy)
 (h1:0<=ux*f-a*c) (h2:0<=a*wy-wx*f):0<=ux*wy-wx*c/\(0<ux*f-a*c\/0<a*wy-wx*f->0<ux*wy-wx*c):=by
 have i:0<=ux:=Fu;have m:0<=wx:=Fu;rcases hv with hv|⟨hv,n⟩
 .have e:a*(ux*wy-wx*c)=ux*(a*wy-wx*f)+wx*(ux*f-a*c):=Fu;have d:0<ux:=by
   rcases hu with h|⟨h,q⟩
   .exact h
   .have:=Xx hv q;rw[h]at h1;grind
  have p1:=Kg i h2;have p2:=Kg m h1;have l:∀z:Rat,a*z=ux*(a*wy-wx*f)+wx*(ux*f-a*c)->0<=z:=λz hz=>by
   refine Ug.1 λhn=>?_
   have:=Xx hv (show 0 < -z by grind);grind
  refine⟨l _ e,λhs=>?_⟩;rcases b with b|⟨b,o⟩
  .have j:0<a*(ux*wy-wx*c):=by
    rcases hs with hs|hs
    .have:=Xx b hs;grind
    .have:=Xx d hs;grind
   have h0:=l _ e;refine Jp.1 λhn=>?_
   have:ux*wy-wx*c=0:=Fu;rw[this]at j;grind
  .have:=Xx d o;rw[b];grind
 .rw[hv]at h1 h2;have g:wx=0:=by
   rcases b with b|b
   .have:=Xx b n;grind
   .exact b.1
  have k:0<wy:=Fu;have p:=Kg i (Qq k);refine⟨by rw[g];grind,λhs=>?_⟩;rw[hv,g]at hs;have d:0<ux:=by
   rcases hs with hs|hs
   .refine Jp.1 λhn=>?_
    have:ux=0:=Fu;rw[this]at hs;grind
   .grind
  have:=Xx d k;rw[g];grind
section
variable{α:Type}(X Y:α->Rat)
def lx(a b:α):Prop:=X a<X b\/X a=X b/\Y a<Y b
def Dz(a b c:α):Rat:=(X b-X a)*(Y c-Y a)-(X c-X a)*(Y b-Y a)
variable{X Y}
theorem Ia(a:α):¬lx X Y a a:=by unfold lx;grind
variable{a:α}
theorem nM{b c:α}(h:lx X Y a b)(d:lx X Y b c):lx X Y a c:=by unfold lx at *;grind
theorem Ib{b:α}(h:lx X Y a b):0<X b-X a\/X b-X a=0/\0<Y b-Y a:=by unfold lx at h;grind
theorem SY(a b:α):Dz X Y a b a=0/\Dz X Y a b b=0:=by unfold Dz;grind
theorem bK(a b c:α):Dz X Y a c b=- Dz X Y a b c:=by unfold Dz;grind
theorem rY(a b c:α):Dz X Y a b c=(X b-X a)*(Y c-Y b)-(X c-X b)*(Y b-Y a):=by unfold Dz;grind
def Edg(Q:α->α->Prop):List α->Prop
 |a::b::r=>Q a b/\Edg Q (b::r)
 |_=>True
def Cnv(R:α->α->α->Prop):List α->Prop
 |a::b::c::r=>R a b c/\Cnv R (b::c::r)
 |_=>True
variable{l:List α}
theorem Edg.tail{Q:α->α->Prop}(h:Edg Q (a::l)):Edg Q l:=by
 cases l with
 |nil=>trivial
 |cons b l=>exact h.2
theorem Cnv.tail{R:α->α->α->Prop}(h:Cnv R (a::l)):Cnv R l:=by
 match l,h with
 | [],_=>trivial
 | [_],_=>trivial
 |b::c::l,h=>exact h.2
def Ay(s:α->α->α->Bool)(c:α):List α->List α
 |b::a::r=>if s a b c=true then b::a::r else Ay s c (a::r)
 |l=>l
def Nz(s:α->α->α->Bool):List α->List α->List α
 |acc,[]=>acc
 |acc,c::l=>Nz s (c::Ay s c acc) l
structure Stk(X Y:α->Rat)(P:List α)(st:List α):Prop where
 srt:st.Pairwise λb a=>lx X Y a b
 mem:∀p∈st,p∈P
 edg:Edg (λb a=>∀p∈P,0≤Dz X Y a b p) st
 cnv:Cnv (λc b a=>0<Dz X Y a b c) st
variable{P st:List α}
theorem Stk.tail(h:Stk X Y P (a::st)):Stk X Y P st:=⟨(Zk.1 h.srt).2,λp hp=>h.mem p (Qi _ hp),h.edg.tail,h.cnv.tail⟩
theorem Qoz{P:List α}{s:α->α->α->Bool}{c:α}(hs:∀a∈P,∀b∈P,(s a b c=true↔0<Dz X Y a b c))(hc:∀p∈P,lx X Y p c) :
 ∀(st:List α) (t:α),Stk X Y P (t::st)->(∀p∈P,lx X Y t p->0≤Dz X Y t c p) ->
 ∃f d,Ay s c (t::st)=f::d/\Stk X Y P (f::d)/\(∀p∈P,lx X Y f p->0≤Dz X Y f c p)/\(∀a r,d=a::r->0<Dz X Y a f c)/\(f::d).getLast? = (t::st).getLast?
 | [],t,h,h2=>⟨t,[],rfl,h,h2,λa r e=>(by cases e),rfl⟩
 |
  a::r,t,h,h2=>by
  have ht:=h.mem t Ft;have ha:=h.mem a Ft;by_cases e:s a t c=true
  .refine⟨t,a::r,by simp only[Ay];rw[if_pos e],h,h2,λx w e'=>?_,rfl⟩;injection e' with j _
   rw[<-j];exact(hs a ha t ht).1 e
  .have v:Dz X Y a t c<=0:=Ug.1 λo=>e ((hs a ha t ht).2 o)
   have g:lx X Y a t:=(Zk.1 h.srt).1 a Ft;obtain⟨f,d,q,n,m,u,l⟩:=Qoz hs hc r a h.tail λp hp i=>by
    have j:=h.edg.1 p hp;have k:=ang (Ib (hc a ha)) (Ib g) (Ib i) (by rw[bK]at *;unfold Dz at *;grind) (by unfold Dz at *;grind);unfold Dz;grind
   exact⟨f,d,by simp only[Ay];rw[if_neg e];exact q,n,m,u,by rw[l];rfl⟩
theorem yF{P:List α}{c:α}:∀(st:List α) (t:α),Stk X Y P (t::st)->lx X Y t c->(∀a r,st=a::r->0<Dz X Y a t c)->Edg (λb a=>0<Dz X Y a b c) (t::st)
 | [],_,_,_,_=>trivial
 | [a],t,_,_,h=>⟨h a [] rfl,trivial⟩
 |
  a::q::r,t,hS,htc,h=>by
  have h1:=h a (q::r) rfl;have h0:0<Dz X Y q a t:=hS.cnv.1;have p1:=Zk.1 hS.srt;have p2:=Zk.1 p1.2;have d:lx X Y a t:=p1.1 a Ft;have f:lx X Y q a:=p2.1 q Ft;refine⟨h1,yF (q::r) a hS.tail (nM d htc) λi g e=>?_⟩;injection e with e _;rw[<-e];rw[rY]at h0 h1 ⊢;have k:=(ang (Ib f) (Ib d) (Ib htc) (Qq h0) (Qq h1)).2 (.inl h0);grind
theorem Qvb{t:α}{c:α}(h:Stk X Y P (t::st))(hc:∀p∈P,lx X Y p c)(n:∀p∈P,p=t\/lx X Y p t\/lx X Y t p)(hb:∀p∈P,(t::st).getLast? = some p\/∃b,(t::st).getLast? = some b/\lx X Y b p)(h2:∀p∈P,lx X Y t p->0≤Dz X Y t c p)(h3:∀a r,st=a::r->0<Dz X Y a t c):Stk X Y (P++[c]) (c::t::st):=by
 have ht:=h.mem t Ft;have d:=hc t ht;have m:=yF st t h d h3;refine⟨Zk.2 ⟨λp hp=>hc p (h.mem p hp),h.srt⟩,λp hp=>?_,⟨λp hp=>?_,?_⟩,?_⟩
 .rcases Qm.1 hp with rfl|hp
  .simp
  .exact X9 _ (h.mem p hp)
 .rcases Qr.1 hp with hp|hp
  .rcases n p hp with rfl|hpt|htp
   .rw[(SY p c).1];exact Qp
   .cases st with
    |
     nil =>
     exfalso;rcases hb p hp with e|⟨b,e,hb⟩
     .injection e with e;subst e;exact Ia _ hpt
     .injection e with e;subst e;exact Ia _ (nM hpt hb)
    |
     cons a r =>
     have o:=h.edg.1 p hp;have h3:=h3 a r rfl;have f:lx X Y a t:=(Zk.1 h.srt).1 a Ft;have k:=(ang (Ib hpt) (Ib f) (Ib d) (by unfold Dz at *;grind) (by unfold Dz at *;grind)).1;unfold Dz;grind
   .exact h2 p hp htp
  .rw[Qk.1 hp,(SY t c).2];exact Qp
 .cases st with
  |nil=>trivial
  |
   cons a r =>
   have g:∀l:List α,Edg (λb a=>∀p∈P,0≤Dz X Y a b p) l->Edg (λb a=>0<Dz X Y a b c) l->Edg (λb a=>∀p∈P++[c],0≤Dz X Y a b p) l:=by
    intro l
    induction l with
    |nil=>intros;trivial
    |
     cons x l ih =>
     cases l with
     |nil=>intros;trivial
     |
      cons y l =>
      intro j i;refine⟨λp hp=>?_,ih j.2 i.2⟩;rcases Qr.1 hp with hp|hp
      .exact j.1 p hp
      .rw[Qk.1 hp];exact Qq i.1
   exact g _ h.edg m
 .cases st with
  |nil=>trivial
  |cons a r=>exact⟨h3 a r rfl,h.cnv⟩
theorem jA{s:α->α->α->Bool}{row:List α}(hs:∀a∈row,∀b∈row,∀c∈row,(s a b c=true↔0<Dz X Y a b c))(m:row.Pairwise (lx X Y)) :
 ∀(l P:List α) (t:α) (st:List α),row=P++l->Stk X Y P (t::st)->P.getLast? = some t->(t::st).getLast? = P.head? ->
 ∃g d,Nz s (t::st) l=g::d/\Stk X Y row (g::d)/\row.getLast? = some g/\(g::d).getLast? = row.head?
 |
  [],P,t,st,e,h,h1,h2=>by
  rw[Zx]at e;subst e;exact⟨t,st,rfl,h,h1,h2⟩
 |
  c::l,P,t,st,e,h,h1,h2=>by
  have v:∀p∈P,p∈row:=λp hp=>by rw[e];exact X9 _ hp
  have w:c∈row:=by rw[e];simp
  have r:=m;rw[e]at r;obtain⟨w1,O,N⟩:=Ja.1 r;have hc:∀p∈P,lx X Y p c:=λp hp=>N p hp c Ft
  have q:∀p∈P,p=t\/lx X Y p t:=λp hp=>by
   obtain⟨C,rfl⟩:∃C,P=C++[t]:=by
    have:=Vm.1 h1;exact this
   rcases Qr.1 hp with hp|hp
   .exact .inr ((Ja.1 w1).2.2 p hp t Ft)
   .exact .inl (Qk.1 hp)
  obtain⟨g,d,L,A,G,E,B⟩:=Qoz (λa ha b hb=>hs a (v a ha) b (v b hb) c w) hc st t h λp hp u=>by
   rcases q p hp with rfl|k
   .exact absurd u (Ia _)
   .exact absurd (nM u k) (Ia _)
  have x:∀p∈P,p=g\/lx X Y p g\/lx X Y g p:=λp hp=>by
   obtain⟨i,hi,rfl⟩:=Ki.1 hp;obtain⟨j,D,y⟩:=Ki.1 (A.mem g Ft);rcases V9 i j with k|k|k
   .exact .inr (.inl (by rw[<-y];exact Yz.1 w1 i j hi D k))
   .subst k;exact .inl y
   .exact .inr (.inr (by rw[<-y];exact Yz.1 w1 j i D hi k))
  have n:P≠[]:=λk=>by rw[k]at h1;cases h1
  have hb:∀p∈P,(g::d).getLast? = some p\/∃b,(g::d).getLast? = some b/\lx X Y b p:=λp hp=>by
   rw[B,h2];cases P with
   |nil=>exact absurd rfl n
   |
    cons f J =>
    rcases Qm.1 hp with rfl|hp
    .exact .inl rfl
    .exact .inr ⟨f,rfl,(Zk.1 w1).1 p hp⟩
  have o:=Qvb A hc x hb G E;obtain⟨I,z,H,F,M,K⟩:=jA hs m l (P++[c]) c (g::d) (by rw[e];simp) o Ft (by
   rw[Yk,B,h2];cases P with
   |nil=>exact absurd rfl n
   |cons f J=>rfl)
  exact⟨I,z,by simp only[Nz];rw[L];exact H,F,M,K⟩
theorem Qlp(u:∀p∈P,∀q∈P,p=q\/lx X Y p q\/lx X Y q p){z:α}:
 ∀(L L':List α) (f:α),(f::L).Pairwise (lx X Y)->(f::L').Pairwise (lx X Y)->(∀p∈f::L,p∈P)->(∀p∈f::L',p∈P) ->
 Edg (λa b=>∀p∈P,0≤Dz X Y a b p) (f::L)->Edg (λa b=>∀p∈P,0≤Dz X Y a b p) (f::L') ->
 Cnv (λa b c=>0<Dz X Y a b c) (f::L)->Cnv (λa b c=>0<Dz X Y a b c) (f::L')->(f::L).getLast? = some z->(f::L').getLast? = some z->L=L':=by
 have one:∀(L L':List α) (f b b':α),(f::b::L).Pairwise (lx X Y)->(f::b'::L').Pairwise (lx X Y)->(∀p∈f::b::L,p∈P)->b'∈P ->
  Edg (λa b=>∀p∈P,0≤Dz X Y a b p) (f::b::L)->0≤Dz X Y f b' b->Cnv (λa b c=>0<Dz X Y a b c) (f::b::L)->(f::b::L).getLast? = some z->(f::b'::L').getLast? = some z->¬lx X Y b b':=by
  intro L L' f b b' s j m m' e e' c l l' g;have v:=Zk.1 s;have o:lx X Y f b:=v.1 b Ft;have n:Dz X Y f b b'=0:=by
   have:=e.1 b' m';rw[bK]at e';grind
  cases L with
  |
   nil =>
   simp at l;subst l;have hz:b'=b\/lx X Y b' b:=by
    have:b∈f::b'::L':=Kj l';have t:=(Zk.1 j).2;rcases Qm.1 this with rfl|h
    .exact absurd o (Ia _)
    .rcases Qm.1 h with h|h
     .exact .inl h.symm
     .exact .inr ((Zk.1 t).1 b h)
   rcases hz with rfl|hz
   .exact Ia _ g
   .exact Ia _ (nM g hz)
  |
   cons d M =>
   have h1:0<Dz X Y f b d:=c.1;have h2:=e.2.1 b' m';have t:=Zk.1 v.2;have r:lx X Y b d:=t.1 d Ft;have k:=(ang (Ib g) (Ib o) (Ib r) (by unfold Dz at n;grind) (by rw[rY]at h1;exact Rat.le_of_lt h1)).2 (.inr (by rw[rY]at h1;exact h1));unfold Dz at h2;grind
 intro L
 induction L with
 |
  nil =>
  intro L' f s j m m' e e' c c' l l';simp at l;cases L' with
  |nil=>rfl
  |
   cons b' M' =>
   exfalso;subst l;have h1:=(Zk.1 j).1 f (by
    rw[Yk]at l';exact Kj l')
   exact Ia _ h1
 |
  cons b M ih =>
  intro L' f s j m m' e e' c c' l l';cases L' with
  |
   nil =>
   exfalso;simp at l';subst l';have h1:=(Zk.1 s).1 f (by
    rw[Yk]at l;exact Kj l)
   exact Ia _ h1
  |
   cons b' M' =>
   have hb:=m b Ft;have i:=m' b' Ft;have heq:b=b':=by
    rcases u b hb b' i with h|h|h
    .exact h
    .exact absurd h (one M M' f b b' s j m i e (e'.1 b hb) c l l')
    .exact absurd h (one M' M f b' b j s m' hb e' (e.1 b' i) c' l' l)
   subst heq;rw[Yk]at l l';rw[ih M' b (Zk.1 s).2 (Zk.1 j).2 (λp hp=>m p (Qi _ hp)) (λp hp=>m' p (Qi _ hp)) e.2 e'.2 c.tail c'.tail l l']
end
end Orq
namespace Orr
open Go
structure RawInt where
 b:Bool
 l:List Nat
structure RawPt where
 x:List RawInt
 y:List RawInt
 d:RawInt
 id:Int
abbrev Ih(z:RawInt):Fe:=[.bool z.b,Q6l z.l]
structure RawInt.Ok(z:RawInt):Prop where
 u:∀u∈z.l,u<4294967296
structure RawPt.Ok(z:RawPt):Prop where
 x:∀a∈z.x,a.Ok
 y:∀a∈z.y,a.Ok
 d:z.d.Ok
 id:-9223372036854775808<=z.id/\z.id<=9223372036854775807
def Tv(most:Int)(z:RawInt):Int:=match z.l with
 | []=>0
 |u::_=>if z.b=true then -((u:Int) % (most+1))else(u:Int) % (most+1)
theorem GL{most:Int}(h:0<=most)(z:RawInt):-most<=Tv most z/\Tv most z<=most:=by
 unfold Tv
 split
 .omega
 .rename_i u _ _;have h1:=Y3 (u:Int) (b:=most+1) Fo;have h2:=J9 (u:Int) (b:=most+1) Fo
  split <;> omega
def Hx(most:Int)(l:List RawInt):U8:=(l.take 3).map (Tv most)
def Qud(most:Int)(x y:List RawInt)(d:RawInt):Crv:=⟨Hx most x,Hx most y,Tv 3 d⟩
theorem CJ(most:Int)(l:List RawInt):(Hx most l).length<=3:=by unfold Hx;rw[List.length_map,List.length_take];omega
variable{l:List RawInt}{i:Nat}
theorem fL{most:Int}{z:RawInt}(hi:i<3)(h:l[i]? = some z):Hx most (l.take (i+1))=Hx most (l.take i)++[Tv most z]:=by
 unfold Hx;rw[List.take_take,List.take_take,Kl Fo,Kl Fo,Zv,h];simp
theorem CX(most:Int)(h:l.length<=i\/3<=i):Hx most (l.take i)=Hx most l:=by
 unfold Hx;rw[List.take_take];rcases Nat.le_total 3 i with h3|h3
 .rw[Z8 h3]
 .rcases h with h|h
  .rw[Kl h3,Qo (l:=l) (i:=i) Fo,Qo (l:=l) (i:=3) Fo]
  .rw[Kl h3,show i=3 by omega]
theorem CY{most:Int}{z:Int}(hm:0<=most)(h:z∈Hx most l):-most<=z/\z<=most:=by
 obtain⟨a,_,rfl⟩:=Q8.1 h;exact GL hm a
theorem Qgy{most:Int}(hm:0<=most/\most<=999)(x y:List RawInt)(d:RawInt):Cs 10 3 (Qud most x y d):=by
 have a:∀z:Int,-999<=z/\z<=999->Gm z<=10:=λz h=>Pi.2 Fo
 refine⟨λz hz=>?_,λz hz=>?_,?_,CJ _ _,CJ _ _⟩
 .have:=CY hm.1 hz;exact a _ Fo
 .have:=CY hm.1 hz;exact a _ Fo
 .have:=GL (most:=3) Fp d;show Gm (Tv 3 d)<=10;exact a _ Fo
def Pt.nrm(p:Pt):Pt:=⟨p.c.norm,p.id⟩
end Orr
namespace Orr
def Di(l:List Pt):Prop:=l.Pairwise λa b=>a.id<b.id
theorem Qnb(p:Pt)(l:List Pt)(id:Int):has (p::l) id=if p.id<id then has l id else decide (p.id=id):=by
 by_cases h:p.id<id
 .rw[if_pos h];unfold has;simp only[S6];rw[if_pos h];simp
 .rw[if_neg h];unfold has;simp only[S6];rw[if_neg h];simp
theorem Qo4(p:Pt)(l:List Pt)(q:Pt):put (p::l) q=if p.id<q.id then p::put l q else q::p::l:=by
 unfold put;simp only[S6]
 split <;> simp
theorem zH:∀{l:List Pt} {q:Pt},Di l->has l q.id=false->Di (put l q)
 | [],q,_,_=>by simp[put,S6,Di]
 |
  p::l,q,h,hn=>by
  have h1:=Zk.1 h;rw[Qnb]at hn;rw[Qo4]
  split
  .rename_i a;rw[if_pos a]at hn;refine Zk.2 ⟨λx hx=>?_,zH h1.2 hn⟩;rcases EK hx with rfl|hx
   .exact a
   .exact h1.1 x hx
  .rename_i b;rw[if_neg b,decide_eq_false_iff_not]at hn;refine Zk.2 ⟨λx hx=>?_,h⟩;rcases Qm.1 hx with rfl|hx
   .omega
   .have:=h1.1 x hx;omega
end Orr
namespace Orr
open Go
section
variable{α:Type}{lt:α->α->Bool}
theorem Qhj(out:List α)(c:α):(A9 lt out c).Perm (c::out):=by
 unfold A9;exact(List.perm_middle).trans (by rw[Zi])
theorem OC:∀(l a:List α),(l.foldl (A9 lt) a).Perm (l++a)
 | [],a=>List.Perm.refl _
 |
  c::l,a=>by
  simp only[Xn];exact(OC l _).trans (((Qhj a c).append_left l).trans List.perm_middle)
theorem Qa5(l:List α):(Ip lt l).Perm l:=by
 have:=OC (lt:=lt) l [];rwa[Zx]at this
end
def Pt.m5(p:Pt):Pt:=⟨p.c,p.id % 5⟩
def Q50(O:List Pt)(e:Nat):List Pt:=(O.take e).map Pt.m5
def cutN(O:List Pt)(e:Nat):List Pt:=(Q50 O e).map Pt.nrm
end Orr
namespace Orr
open Go
theorem Qmw(c:Int)(l:U8):S8 (l.map (· * c))=S8 l*c.natAbs:=by
 have a:∀(l:U8) (g:Nat),(l.map (· * c)).foldl (λg z=>Nat.gcd g z.natAbs) (g*c.natAbs)=l.foldl (λg z=>Nat.gcd g z.natAbs) g*c.natAbs:=by
  intro l
  induction l with
  |nil=>intro g;rfl
  |
   cons z l ih =>
   intro g;simp only[Xa,Xn,Yf,Nat.gcd_mul_right];exact ih _
 have:=a l 0;rwa[Yv]at this
variable{M:List Pt}
theorem Q4i(hs:Di M){i j:Nat}{p r:Pt}(a:i<j)(hi:M[i]? = some p)(d:M[j]? = some r):p.id<r.id:=by
 obtain⟨h1,b⟩:=Qh.1 hi;obtain⟨h2,c⟩:=Qh.1 d;rw[<-b,<-c];exact Yz.1 hs i j h1 h2 a
theorem Qm4{i:Nat}(hi:i<M.length):(M.take i++M.drop (i+1)).length+1=M.length:=by
 rw[Qw,Qt,Za];omega
end Orr
namespace Orr
def Mq(a b:Crv):U8:=QW (Hb (Ht a b) (Ht a b)) (Hb (Hr a b) (Hr a b))
def Tj(a b c d:Crv):U8:=Mh (G5 (Mq c d) ((a.d*b.d)*(a.d*b.d))) (G5 (Mq a b) ((c.d*d.d)*(c.d*d.d)))
theorem bM{a b:Crv}(ha:Cb a)(hb:Cb b):Gg (Mq a b)/\(Mq a b).length<=31/\Bd 4194312 (Mq a b):=by
 obtain⟨_,l1,b1⟩:=bN ha hb;obtain⟨_,l2,c⟩:=bR ha hb;have g:=P8 (Ht a b) (Ht a b);have f:=P8 (Hr a b) (Hr a b);have d:=Mv (u:=5) b1 b1 Fo;have e:=Mv (u:=5) c c Fo;refine⟨Gs _ _,?_,Fz (WC d e) Fo⟩;have:=XG (Hb (Ht a b) (Ht a b)) (Hb (Hr a b) (Hr a b));unfold Mq;omega
theorem iD{a b:Crv}(ha:Cb a)(hb:Cb b):Gm (a.d*b.d)<=2097152:=by
 have:=G9 a.d b.d;have:=ha.d;have:=hb.d;omega
theorem Qdt{a b:Crv}(ha:Cb a)(hb:Cb b):Gm ((a.d*b.d)*(a.d*b.d))<=4194304:=by
 have:=G9 (a.d*b.d) (a.d*b.d);have:=iD ha hb;omega
def Cu(sg:U8->Int)(a b c d:Pt):Ct:=⟨5,a.id,b.id,c.id,d.id,Tj a.c b.c c.c d.c,Rp sg (Tj a.c b.c c.c d.c)⟩
theorem qR(sg:U8->Int)(a b c d:Pt):(Cu sg a b c d).p=Tj a.c b.c c.c d.c:=by rw[Cu]
def Tx:Nat->List Pt->List (Pt×Pt)
 | 0,_=>[]
 |_+1,[]=>[]
 |k+1,x::l=>l.map (λy=>(x,y))++Tx k l
def H6(l:List Pt):List (Pt×Pt):=Tx l.length l
theorem Aw:∀(l:List Pt) (i:Nat) (x:Pt),l[i]? = some x->Tx (i+1) l=Tx i l++(l.drop (i+1)).map (λy=>(x,y))
 | [],i,x,h=>by simp at h
 |
  y::l,0,x,h=>by
  simp at h;subst h;simp[Tx]
 |
  y::l,i+1,x,h=>by
  have h:l[i]? = some x:=by simpa using h
  have a:=Aw l i x h;show l.map (λz=>(y,z))++Tx (i+1) l=(l.map (λz=>(y,z))++Tx i l)++_;rw[a,Zh];rfl
theorem Mp:∀(k:Nat) (l:List Pt),∀m∈Tx k l,m.1∈l/\m.2∈l
 | 0,l,m,h=>by simp[Tx]at h
 |k+1,[],m,h=>by simp[Tx]at h
 |
  k+1,x::l,m,h=>by
  rcases Qr.1 h with h|h
  .obtain⟨y,a,rfl⟩:=Q8.1 h;exact⟨Qy ..,Qi _ a⟩
  .obtain⟨h1,h2⟩:=Mp k l m h;exact⟨Qi _ h1,Qi _ h2⟩
theorem GO:∀(k:Nat) (l:List Pt),(Tx k l).length<=k*l.length
 | 0,l=>by simp[Tx]
 |k+1,[]=>by simp[Tx]
 |
  k+1,x::l=>by
  have:=GO k l;simp only[Tx,Qw,Ze,Q5];have e:(k+1)*(l.length+1)=k*l.length+k+l.length+1:=by rw[Jj,Xw];omega
  omega
def Ba(sg:U8->Int)(s m:Pt×Pt):Pt×Pt:=if Rp sg (Tj s.1.c s.2.c m.1.c m.2.c)<0 then m else s
def Tf(sg:U8->Int)(s:Pt×Pt)(ps:List (Pt×Pt)):Pt×Pt:=ps.foldl (Ba sg) s
theorem NV(sg:U8->Int)(s m:Pt×Pt):Ba sg s m=m\/Ba sg s m=s:=by
 unfold Ba
 split
 .exact .inl rfl
 .exact .inr rfl
theorem YW(sg:U8->Int)(s m:Pt×Pt)(ps:List (Pt×Pt)):Tf sg s (m::ps)=Tf sg (Ba sg s m) ps:=by unfold Tf;rw[List.foldl_cons]
theorem gI(sg:U8->Int)(s:Pt×Pt)(ps:List (Pt×Pt))(m:Pt×Pt):Tf sg s (ps++[m])=Ba sg (Tf sg s ps) m:=by simp[Tf]
theorem Au(sg:U8->Int){l:List Pt}:∀(ps:List (Pt×Pt)) (s:Pt×Pt),s.1∈l/\s.2∈l->(∀m∈ps,m.1∈l/\m.2∈l)->(Tf sg s ps).1∈l/\(Tf sg s ps).2∈l
 | [],s,hs,_=>hs
 |
  m::ps,s,hs,h=>by
  have hn:(Ba sg s m).1∈l/\(Ba sg s m).2∈l:=by
   rcases NV sg s m with e|e
   .rw[e];exact h m (Qy ..)
   .rw[e];exact hs
  rw[YW];exact Au sg ps (Ba sg s m) hn λx hx=>h x (Qi _ hx)
def YD(s m:Pt×Pt):Bool:=decide (m.1.id≠s.1.id) || decide (m.2.id≠s.2.id)
def Ch(sg:U8->Int)(s:Pt×Pt)(ps:List (Pt×Pt)):List Ct:=(ps.filter (YD s)).map λm=>Cu sg s.1 s.2 m.1 m.2
variable{ps:List (Pt×Pt)}
theorem Qtt{sg:U8->Int}{s m:Pt×Pt}(h:YD s m=true):Ch sg s (ps++[m])=Ch sg s ps++[Cu sg s.1 s.2 m.1 m.2]:=by simp[Ch,Vx,h]
theorem Qts{sg:U8->Int}{s m:Pt×Pt}(h:YD s m=false):Ch sg s (ps++[m])=Ch sg s ps:=by simp[Ch,Vx,h]
theorem MG{sg:U8->Int}{s:Pt×Pt}{c:Ct}(h:c∈Ch sg s ps):∃x∈ps,Cu sg s.1 s.2 x.1 x.2=c:=by
 unfold Ch at h;obtain⟨x,hx,e⟩:=Q8.1 h;exact⟨x,(Y7.1 hx).1,e⟩
theorem yX(sg:U8->Int)(s:Pt×Pt)(ps:List (Pt×Pt)):(Ch sg s ps).length<=ps.length:=by
 unfold Ch;rw[Ze];exact Vh _ _
def KO(sg:U8->Int):List Pt->List Pt
 |a::b::l=>[(Tf sg (a,b) (H6 (a::b::l))).1,(Tf sg (a,b) (H6 (a::b::l))).2]
 |_=>[]
def Ei(sg:U8->Int):List Pt->List Ct
 |a::b::l=>Ch sg (Tf sg (a,b) (H6 (a::b::l))) (H6 (a::b::l))
 |_=>[]
variable{l:List Pt}
theorem Qhw(sg:U8->Int)(h:l.length<2):KO sg l=[]/\Ei sg l=[]:=by
 match l,h with
 | [],_=>exact⟨rfl,rfl⟩
 | [a],_=>exact⟨rfl,rfl⟩
theorem Q13(h:¬l.length<2):∃a b m,l=a::b::m:=by
 match l,h with
 | [],h=>simp at h
 | [a],h=>simp at h
 |a::b::m,_=>exact⟨a,b,m,rfl⟩
theorem vE(sg:U8->Int)(l:List Pt):(Ei sg l).length<=l.length*l.length:=by
 match l with
 | []=>simp[Ei]
 | [a]=>simp[Ei]
 |a::b::m=>exact Qa (yX _ _ _) (GO _ _)
def ZQ(l:List U9):Ff:=l.map λr=>[.row (r.map λp=>[pl p])]
abbrev WY(r:U9):Ff:=r.map λp=>[pl p]
theorem UP(l:List U9):(ZQ l).length=l.length:=by simp[ZQ]
def KN(i:Nat)(rows:List U9):Nat->List U9
 | 0=>[]
 |j+1=>if j=i then KN i rows j else KN i rows j++[(rows.getD j []).drop 1]
def FX(rows:List U9)(i:Nat):List U9:=KN i rows rows.length
def Ew(f:Nat->U8)(rows:List U9):Nat->U8
 | 0=>[]
 |
  i+1=>if ((rows.getD i []).getD 0 []).length=0 then Ew f rows i else
  if i % 2=0 then QW (Ew f rows i) (Hb ((rows.getD i []).getD 0 []) (f i))else Mh (Ew f rows i) (Hb ((rows.getD i []).getD 0 []) (f i))
def Ax:Nat->List U9->U8
 | 0,_=>[1]
 |k+1,rows=>Ew (λi=>Ax k (FX rows i)) rows (k+1)
structure Sq(s:Nat)(ds:List Nat)(k w:Nat)(rows:List (List (List Int))):Prop where
 l:rows.length=k
 w:∀r∈rows,r.length=w
 t:∀r∈rows,∀p∈r,Gg p
 b:∀r∈rows,∀p∈r,Bd s p
 n:∀r∈rows,∀(j:Nat) (p:List Int),r[j]? = some p->p.length≤ds.getD j 0+1
theorem qH{i:Nat}{rows:List U9}:∀{j:Nat} {r:U9},j≤rows.length->r∈KN i rows j->∃q∈rows,r=q.drop 1
 | 0,r,_,h=>by simp[KN]at h
 |
  j+1,r,hj,h=>by
  simp only[KN]at h
  split at h
  .exact qH Fo h
  .rcases Qr.1 h with h|h
   .exact qH Fo h
   .rw[Qk.1 h];exact⟨rows.getD j [],Qc (i:=j) (by rw[Qe,Qf Fo];rfl),rfl⟩
theorem qG{i:Nat}{rows:List U9}:∀(j:Nat),(KN i rows j).length=if i<j then j-1 else j
 | 0=>rfl
 |
  j+1=>by
  have a:=qG (i:=i) (rows:=rows) j;simp only[KN]
  split
  .rename_i e;subst e;rw[a,if_neg Fo,if_pos Fo];omega
  .rw[Qw,a,Kc]
   split <;> split <;> omega
theorem Sq.min{s d k w:Nat}{ds:Fa}{rows:List U9}(h:Sq s (d::ds) (k+1) (w+1) rows){i:Nat}(hi:i<k+1):Sq s ds k w (FX rows i):=by
 have hl:=h.l;have hm:∀{r:U9},r∈FX rows i->∃q∈rows,r=q.drop 1:=λh=>qH (Ql _) h
 refine⟨by unfold FX;rw[qG,hl,if_pos hi];omega,λr hr=>?_,λr hr p hp=>?_,λr hr p hp=>?_,λr hr j p hp=>?_⟩
 .obtain⟨q,a,rfl⟩:=hm hr;rw[Za,h.w q a];omega
 all_goals obtain⟨q,a,rfl⟩:=hm hr
 .exact h.t q a p (Q3 hp)
 .exact h.b q a p (Q3 hp)
 .rw[Xp]at hp;have:=h.n q a (1+j) p hp;rw[Yb 1 j]at this;exact this
theorem Sq.at{s d k w:Nat}{ds:Fa}{rows:List U9}(h:Sq s (d::ds) k (w+1) rows){i:Nat}(hi:i<k):∃p r,rows[i]? = some (p::r)/\(rows.getD i []).getD 0 []=p/\Gg p/\Bd s p/\p.length<=d+1:=by
 obtain⟨r,hr⟩:=gxE (l:=rows) (i:=i) (by rw[h.l];exact hi);have hm:=Qc hr;cases r with
 |nil=>have:=h.w _ hm;simp at this
 |
  cons p r =>
  have e:rows.getD i []=p::r:=by rw[Qe,hr];rfl
  refine⟨p,r,hr,by rw[e];rfl,h.t _ hm p Ft,h.b _ hm p Ft,h.n _ hm 0 p rfl⟩
theorem uA{s d k w:Nat}{ds:Fa}{f:Nat->U8}{rows:List U9}{B L:Nat}(h:Sq s (d::ds) k (w+1) rows)(hn:d<31)(c:∀i,i<k->Bd B (f i)/\(f i).length<=L+1):∀i,i<=k->Gg (Ew f rows i)/\Bd (s+B+5+i) (Ew f rows i)/\(Ew f rows i).length<=d+L+1
 | 0,_=>⟨rfl,λz hz=>(by cases hz),Qj _⟩
 |
  i+1,hi=>by
  obtain⟨h1,h2,h3⟩:=uA h hn c i Fo;obtain⟨p,r,_,e,t,b,l⟩:=h.at (i:=i) Fo;obtain⟨f1,f2⟩:=c i Fo;have a:Bd (s+B+5) (Hb p (f i)):=Mv b f1 Fo;have g:=P8 p (f i);simp only[Ew];rw[e]
  split
  .exact⟨h1,Fz h2 Fo,h3⟩
  .split
   .exact⟨Gs _ _,Fz (WC h2 a) Fo,Qa (XG _ _) Fo⟩
   .exact⟨Gs _ _,Fz (E9 h2 a) Fo,Qa (No _ _) Fo⟩
theorem EY{s:Nat}:∀(k:Nat) (ds:Fa) (rows:List U9),k<=4->ds.length=k->ds.sum<31->Sq s ds k k rows->Gg (Ax k rows)/\Bd (k*(s+10)+1) (Ax k rows)/\(Ax k rows).length<=ds.sum+1
 | 0,ds,rows,_,_,_,_=>⟨rfl,λz hz=>(by simp[Ax]at hz;subst hz;rw[Yv];decide),by simp[Ax]⟩
 |k+1,[],rows,_,hl,_,_=>by simp at hl
 |
  k+1,d::ds,rows,hk,hl,hd,h=>by
  rw[Wd]at hd;have a:=λi (hi:i<k+1)=>EY k ds (FX rows i) Fo (by simpa using hl) Fo (h.min hi)
  obtain⟨h1,h2,h3⟩:=uA (f:=λi=>Ax k (FX rows i)) (B:=k*(s+10)+1) (L:=ds.sum) h Fo (λi hi=>⟨(a i hi).2.1,(a i hi).2.2⟩) (k+1) (Ql _);have b:(k+1)*(s+10)=k*(s+10)+(s+10):=Xh ..;rw[Wd];exact⟨h1,Fz h2 Fo,h3⟩
def bW(a b c:Crv):List U9:=[[a.x,a.y,[a.d]],[b.x,b.y,[b.d]],[c.x,c.y,[c.d]]]
def Ry(a b c:Crv):U8:=Ax 3 (bW a b c)
end Orr
namespace Orr
open Go Go.Proofs Tryz Orq
set_option maxRecDepth 10000
theorem gz{P:Program}[Mo P]{n:Nat}{Q:Exit->Sg->Fg->Prop}{L a:Sg}{B b:Fg}(i:Nat){it:List It}(hs:So it=true)(h:Qh2 [i] L B=some (a,b))(k:AK P n Q it a b):AK P n Q it L B:=AK.sub (SN h) hs k
variable{r:U9}{i:Nat}
theorem zP{p:U8}(h:r[i]? = some p):(WY r)[i]? = some [pl p]:=Ra h
theorem Oe{l:List U9}(h:l[i]? = some r):(ZQ l)[i]? = some [.row (WY r)]:=Ra h
theorem Qji(ht:∀p∈r,Gg p)(hb:∀p∈r,Bd 1000000 p)(hl:∀p∈r,p.length≤1000000)(hn:r.length≤1000):U5 267 [.one (.row (WY r))] [.one (.row (WY r))]:=by
 have a:(WY r).length=r.length:=Ft;refine G7 func267 rfl ?_;refine Ux [.o 3 32 1] rfl ?_;refine U4 (S:=Nat) 1 (λL1 i=>(8,.v (.oi i))::(3,.v (.one (.orow 0 1 none)))::L1) (λi=>[.row false 32 1 (WY (r.take i))]) (λi=>r.length-i) (λi=>i<=r.length) 0 (Qj _) rfl rfl λi hi=>?_
 by_cases h:i<r.length
 .obtain⟨p,hp⟩:=gxE (l:=r) (i:=i) h;have hm:=Qc hp;have hs:∀y∈[[pl p]],y.length=1:=λy b=>by rw[Qk.1 b];rfl
  have e:WY (r.take (i+1))=WY (r.take i)++[[pl p]]:=by rw[Zv,hp];simp
  refine go tt [.T,.x (zP hp),.k (Tq (ht p hm) (by have:=hl p hm;omega) (Fz (hb p hm) Fp)),.s (sz:=1) hs] rfl Fx ?_;exact rd (i+1) Fo h (by rw[e];rfl)
 .obtain rfl:i=r.length:=Fo;rw[Q6];exact Uz [.F] rfl
variable{rows:List U9}
theorem Q3g{s k w:Nat}{ds:Fa}(h:Sq s ds k k rows)(_hw:w=k)(d:k<=4):U5 291 [.one (.row (ZQ rows))] [.one (.bool true)]:=by
 have c:=UP rows;have hl:=h.l;refine G7 func291 rfl ?_;refine Ux [] rfl ?_;refine U4 (S:=Nat) 0 (λL1 i=>(7,.v (.oi i))::L1) (λ_=>[]) (λi=>rows.length-i) (λi=>i<=rows.length) 0 (Qj _) rfl rfl λi hi=>?_
 by_cases a:i<rows.length
 .obtain⟨r,hr⟩:=gxE (l:=rows) (i:=i) a;have e:=h.w r (Qc hr);have b:(WY r).length=r.length:=Ft;refine go tt [.T,.x (Oe hr),.f (decide_eq_false (λh=>h Fo))] rfl Fx ?_;exact rd (i+1) Fo a rfl
 .exact Uz [.F] rfl (by rw[decide_eq_true (by omega:((ZQ rows).length:Int)<=4)]) trivial
theorem Qs0{s k w:Nat}{ds:Fa}(h:Sq s ds k w rows)(hs:s<=1000000)(H:k<=4)(D:w<=4)(hd:∀j,ds.getD j 0<=1000)(i:Nat):U5 303 [.oi i,.oi 0,.one (.row (ZQ rows))] [.one (.row (ZQ (FX rows i)))]:=by
 have G:=UP rows;have hl:=h.l;have z:∀j,j<=rows.length->(ZQ (KN i rows j)).length<=4:=λj B=>by
  rw[UP,qG];split <;> omega
 refine G7 func303 rfl ?_;refine Ux [.o 7 301 1] rfl ?_;refine U4 (S:=Nat) 1 (λL1 j=>(15,.v (.oi j))::(7,.v (.one (.orow 0 1 none)))::L1) (λj=>[.row false 301 1 (ZQ (KN i rows j))]) (λj=>rows.length-j) (λj=>j<=rows.length) 0 (Qj _) rfl rfl λj B=>?_
 have A:=z j B;by_cases a:j<rows.length
 .obtain⟨r,hr⟩:=gxE (l:=rows) (i:=j) a;have hm:=Qc hr;have D:=h.w r hm;have C:(WY r).length=r.length:=Ft;by_cases q:j=i
  .have e:KN i rows (j+1)=KN i rows j:=by simp only[KN];rw[if_pos q]
   refine go tt [.T,.x (Oe hr),.T] rfl Fx ?_;exact rd (j+1) Fo a (by rw[e];rfl)
  .have e:KN i rows (j+1)=KN i rows j++[r.drop 1]:=by
    simp only[KN];rw[if_neg q,Qe,hr];rfl
   refine Ux [.T,.x (Oe hr),.F,.o 10 32 1] rfl ?_ Fy;refine U4 (S:=Nat) 2 (λL1 c=>(25,.v (.oi c))::(10,.v (.one (.orow 1 1 none)))::L1) (λc=>[.row false 301 1 (ZQ (KN i rows j)),.row false 32 1 (WY ((r.take c).drop 1))]) (λc=>r.length-c) (λc=>c<=r.length) 0 (Qj _) rfl rfl λc hc=>?_
   by_cases d:c<r.length
   .obtain⟨p,hp⟩:=gxE (l:=r) (i:=c) d;have m:=Qc hp;by_cases h0:c=0
    .subst h0;refine Ux [.T,.x (zP hp),.f (decide_eq_false Ft)] rfl ?_ Fy;exact rd 1 Fo d (by rw[Zv,hp];rfl)
    .have g:∀y∈[[pl p]],y.length=1:=λy u=>by rw[Qk.1 u];rfl
     have E:WY ((r.take (c+1)).drop 1)=WY ((r.take c).drop 1)++[[pl p]]:=by
      rw[Zv,hp,Wx (by rw[Qt];omega)];simp
     refine go tt [.T,.x (zP hp),.T,.k (Tq (h.t r hm p m) (by have:=h.n r hm c p hp;have:=hd c;omega) (Fz (h.b r hm p m) Fo)),.s (sz:=1) g] rfl Fx ?_;exact rd (c+1) Fo d (by rw[E];rfl)
   .obtain rfl:c=r.length:=Fo;rw[Q6];have g:∀y∈[[LV.row (WY (r.drop 1))]],y.length=1:=λy u=>by rw[Qk.1 u];rfl
    refine Ux [.F] rfl ?_;refine gz 1 rfl rfl ?_;refine go tt [.s (sz:=1) g] rfl Fx ?_;exact rd (j+1) Fo a (by rw[e];simp[ZQ];rfl)
 .obtain rfl:j=rows.length:=Fo;exact Uz [.F] rfl
theorem BL:∀(ds:Fa) (j:Nat),ds.getD j 0<=ds.sum
 | [],j=>Ft
 |d::ds,0=>Ft
 |
  d::ds,j+1=>by
  have:=BL ds j;rw[Wd];show ds.getD j 0<=_;omega
theorem Qxc{s:Nat}(hs:s<=100000):∀(k:Nat) (ds:Fa) (rows:List U9),k<=4->ds.length=k->ds.sum<31->Sq s ds k k rows->U5 292 [.one (.row (ZQ rows))] [pr (Ax k rows)]
 |
  0,ds,rows,_,_,_,h=>by
  have e:=Qg h.l;subst e;have H:=Qb6 (p:=[1]) Fp Fp;exact U0 func292 rfl [.t rfl,.k H] rfl
 |k+1,[],_,_,hl,_,_=>by simp at hl
 |
  k+1,d::ds,rows,hk,hl,hd,h=>by
  rw[Wd]at hd;have u:ds.length=k:=by simpa using hl
  have M:=UP rows;have I:=h.l;have m:=λi (hi:i<k+1)=>h.min hi
  have Q:=λi (hi:i<k+1)=>Qxc hs k ds (FX rows i) Fo u Fo (m i hi)
  have n:=λi (hi:i<k+1)=>EY k ds (FX rows i) Fo u Fo (m i hi)
  have hb:k*(s+10)+1<=500000:=by
   have:k*(s+10)<=4*(100010):=Zf Fo Fo;omega
  have o:=uA (f:=λi=>Ax k (FX rows i)) (B:=k*(s+10)+1) (L:=ds.sum) h Fo (λi hi=>⟨(n i hi).2.1,(n i hi).2.2⟩);have E:=Qs0 h Fo hk hk (λj=>by have:=BL (d::ds) j;rw[Wd]at this;omega);show U5 292 [.one (.row (ZQ rows))] [pr (Ew (λi=>Ax k (FX rows i)) rows (k+1))];obtain⟨f,D⟩:=nmE (λi=>Ax k (FX rows i));rw[<-D]at o ⊢;have c:∀i,f i=Ax k (FX rows i):=λi=>by rw[D]
  refine G7 func292 rfl ?_;refine Ux [.F,.z 3] rfl ?_;refine U4 (S:=Nat) 0 (λL1 i=>(14,.v (.oi i))::(3,.v (pr (Ew f rows i)))::L1) (λ_=>[]) (λi=>k+1-i) (λi=>i<=k+1) 0 (Qj _) rfl rfl λi hi=>?_
  obtain⟨R,G,U⟩:=o i hi;by_cases a:i<k+1
  .obtain⟨p,r,hr,e,t,b,l⟩:=h.at a;have g:(WY (p::r))[0]? = some [pl p]:=rfl;have K:(p.map Rr).length=p.length:=Ft;have A:=Tq t Fo (Fz b Fo);by_cases h0:p.length=0
   .have es:Ew f rows (i+1)=Ew f rows i:=by simp only[Ew];rw[e,if_pos h0]
    refine go tt [.T,.x (Oe hr),.x g,.k A,.T] rfl Fx ?_;exact rd (i+1) Fo a (by rw[es];rfl)
   .obtain⟨J,C,O⟩:=n i a;have y:=Q i a;have cp:=GY (p:=p) (q:=f i) t (by rw[c];exact J) Fo (by rw[c];omega) b (by rw[c];exact C) Fo;have w:Bd (s+(k*(s+10)+1)+5) (Hb p (f i)):=Mv b (by rw[c];exact C) Fo;have N:=P8 p (f i);have P:(f i).length<=ds.sum+1:=by rw[c];exact O
    rw[<-c]at y;by_cases h2:i % 2=0
    .have es:Ew f rows (i+1)=QW (Ew f rows i) (Hb p (f i)):=by simp only[Ew];rw[e,if_neg h0,if_pos h2]
     refine go tt [.T,.x (Oe hr),.x g,.k A,.F,.x g,.k (E i),.k y,.k cp,.r 34 (eI (b:=((i % 2:Nat):Int)) rfl),.T,.k (AL (p:=Ew f rows i) (q:=Hb p (f i)) Fo Fo (Fz G Fo) (Fz w Fo))] rfl Fx ?_;exact rd (i+1) Fo a (by rw[es];rfl)
    .have es:Ew f rows (i+1)=Mh (Ew f rows i) (Hb p (f i)):=by simp only[Ew];rw[e,if_neg h0,if_neg h2]
     refine go tt [.T,.x (Oe hr),.x g,.k A,.F,.x g,.k (E i),.k y,.k cp,.r 34 (eI (b:=((i % 2:Nat):Int)) rfl),.F,.k (MQ (p:=Ew f rows i) (q:=Hb p (f i)) Fo Fo (Fz G Fo) (Fz w Fo))] rfl Fx ?_;exact rd (i+1) Fo a (by rw[es];rfl)
  .obtain rfl:i=k+1:=Fo;exact Uz [.F] rfl
theorem Qw5{s:Nat}(hs:s<=100000){k:Nat}{ds:Fa}(a:k<=4)(hl:ds.length=k)(hd:ds.sum<31)(h:Sq s ds k k rows):U5 268 [.one (.row (ZQ rows))] [pr (Ax k rows),.oi 0] :=
 U0 func268 rfl [.k (Q3g h rfl a),.f rfl,.k (Qxc hs k ds rows a hl hd h)] rfl
theorem aT{k:Crv}(a:Sc k):U5 266 [.agg (cl k)] [.one (.row (WY [k.x,k.y,[k.d]]))]:=by
 have h0:k.d≠0:=by have:=a.n.2.2.1;omega
 have b:Gg [k.d]:=by unfold Gg;simp[trim,h0]
 have cd:=Qji (r:=[k.x,k.y,[k.d]]) (λp hp=>by
  rcases Qm.1 hp with rfl|hp
  .exact a.n.1
  rcases Qm.1 hp with rfl|hp
  .exact a.n.2.1
  .rw[Qk.1 hp];exact b) (λp hp=>by
  rcases Qm.1 hp with rfl|hp
  .exact Fz a.c.x Fp
  rcases Qm.1 hp with rfl|hp
  .exact Fz a.c.y Fp
  .rw[Qk.1 hp];intro z hz;rw[Qk.1 hz];exact Qa a.c.d Fp) (λp hp=>by
  rcases Qm.1 hp with rfl|hp
  .have:=a.c.lx;omega
  rcases Qm.1 hp with rfl|hp
  .have:=a.c.ly;omega
  .rw[Qk.1 hp];show 1<=1000000;decide) (by show 3<=1000;decide)
 exact U0 func266 rfl [.k (Ac a.n (a.c.mono Fp Fp)),.k cd] rfl
theorem dP{a b c:Crv}(ha:Sc a)(hb:Sc b)(hc:Sc c):Sq 128 [2,2,0] 3 3 (bW a b c):=by
 have f:∀k:Crv,Sc k->(∀p∈[k.x,k.y,[k.d]],Gg p/\Bd 128 p)/\∀(j:Nat) (p:U8),[k.x,k.y,[k.d]][j]? = some p->p.length≤[2,2,0].getD j 0+1:=λk e=>by
  have h0:k.d≠0:=by have:=e.n.2.2.1;omega
  have g:Gg [k.d]:=by unfold Gg;simp[trim,h0]
  refine⟨λp hp=>?_,λj p hp=>?_⟩
  .rcases Qm.1 hp with rfl|hp
   .exact⟨e.n.1,e.c.x⟩
   rcases Qm.1 hp with rfl|hp
   .exact⟨e.n.2.1,e.c.y⟩
   .rw[Qk.1 hp];exact⟨g,λz hz=>by rw[Qk.1 hz];exact e.c.d⟩
  .match j,hp with
   | 0,hp=>injection hp with hp;subst hp;exact e.c.lx
   | 1,hp=>injection hp with hp;subst hp;exact e.c.ly
   | 2,hp=>injection hp with hp;subst hp;exact Ql _
   |j+3,hp=>simp at hp
 have hr:∀r∈bW a b c,∃k:Crv,Sc k/\r=[k.x,k.y,[k.d]]:=λr hr=>by
  rcases Qm.1 hr with rfl|hr
  .exact⟨a,ha,rfl⟩
  rcases Qm.1 hr with rfl|hr
  .exact⟨b,hb,rfl⟩
  .rw[Qk.1 hr];exact⟨c,hc,rfl⟩
 refine⟨rfl,λr h=>?_,λr h p hp=>?_,λr h p hp=>?_,λr h j p hp=>?_⟩
 all_goals obtain⟨k,e,rfl⟩:=hr r h
 .rfl
 .exact((f k e).1 p hp).1
 .exact((f k e).1 p hp).2
 .exact(f k e).2 j p hp
theorem WO{a b c:Crv}(ha:Sc a)(hb:Sc b)(hc:Sc c):Cp (Ry a b c):=by
 obtain⟨h1,h2,h3⟩:=EY 3 [2,2,0] (bW a b c) Fp rfl Fp (dP ha hb hc);exact⟨h1,Qa h3 Fp,Fz h2 Fp⟩
theorem pJ{a b c:Crv}(ha:Sc a)(hb:Sc b)(hc:Sc c):U5 227 [.agg (cl a),.agg (cl b),.agg (cl c)] [pr (Ry a b c)]:=by
 have cd:=Qw5 Fp (k:=3) (ds:=[2,2,0]) Fp rfl Fp (dP ha hb hc);exact U0 func227 rfl [.k (aT ha),.k (aT hb),.k (aT hc),.k cd] rfl
end Orr
namespace Orq
open Orr Go
theorem dI{p q:U8}(a:Gg p)(tq:Gg q)(h:∀i,p.getD i 0=q.getD i 0):p=q:=by
 have hl:∀{p q:U8},Gg p->(∀i,p.getD i 0=q.getD i 0)->p.length<=q.length:=λ{p q} a h=>by
  refine Nat.not_lt.1 λhn=>?_
  have h1:=Tg a Fo;rw[h,Qe,Qu Fo]at h1;exact h1 rfl
 have e:=Vz (hl a h) (hl tq λi=>(h i).symm);refine List.ext_getElem e λi h1 h2=>?_
 have:=h i;rw[Qe,Qe,Qf h1,Qf h2]at this;exact this
theorem nJ{p:U8}(h:p=[])(i:Nat):p.getD i 0=0:=by rw[h];simp
theorem I1(p:U8)(c:Int)(i:Nat):(G5 p c).getD i 0=p.getD i 0*c:=by
 unfold G5;rw[Pe]
 split
 .rfl
 .rename_i h;rw[Qe,Qu Fo];simp
theorem zG(p q:U8)(i:Nat):(Mh p q).getD i 0=p.getD i 0-q.getD i 0:=by
 unfold Mh;rw[Pe]
 split
 .rfl
 .rename_i h;rw[Qe,Qe,Qu Fo,Qu Fo];simp
theorem Qux{x y:Crv}(hx:WN x)(b:WN y)(h1:Ht x y=[])(h2:Hr x y=[]):x=y:=by
 have e:∀i,y.x.getD i 0*x.d=x.x.getD i 0*y.d:=λi=>by
  have:=nJ h1 i;unfold Ht at this;rw[zG,I1,I1]at this;omega
 have c:∀i,y.y.getD i 0*x.d=x.y.getD i 0*y.d:=λi=>by
  have:=nJ h2 i;unfold Hr at this;rw[zG,I1,I1]at this;omega
 have f:∀{x y:Crv},WN x->WN y->(∀i,y.x.getD i 0*x.d=x.x.getD i 0*y.d)->(∀i,y.y.getD i 0*x.d=x.y.getD i 0*y.d)->x.d∣y.d:=λ{x y} hx b e c=>by
  have hd:=mT (d:=x.d) (l:=(x.d::(x.x++x.y)).map (· * y.d)) λz hz=>by
   obtain⟨w,a,rfl⟩:=Q8.1 hz;rcases Qm.1 a with rfl|a
   .exact V7 _ _
   .rcases Qr.1 a with a|a
    .obtain⟨i,hi,rfl⟩:=Ki.1 a;have:=e i;rw[show x.x.getD i 0=x.x[i] from by rw[Qe,Qf hi];rfl]at this;rw[<-this];exact Vo _ _
    .obtain⟨i,hi,rfl⟩:=Ki.1 a;have:=c i;rw[show x.y.getD i 0=x.y[i] from by rw[Qe,Qf hi];rfl]at this;rw[<-this];exact Vo _ _
  rw[Qmw,hx.2.2.2,W8]at hd;exact Kn hd (Int.natAbs_dvd.2 (Wo _))
 have hd:x.d=y.d:=Int.dvd_antisymm (Int.le_of_lt hx.2.2.1) (Int.le_of_lt b.2.2.1) (f hx b e c) (f b hx (λi=>(e i).symm) λi=>(c i).symm);have g:y.d≠0:=by have:=b.2.2.1;omega
 rw[hd]at e c;have ex:x.x=y.x:=dI hx.1 b.1 λi=>(Vi g (e i)).symm
 have h:x.y=y.y:=dI hx.2.1 b.2.1 λi=>(Vi g (c i)).symm
 cases x;cases y;simp only at hd ex h;rw[hd,ex,h]
theorem Qwi(l:List Pt):(Pq l).Pairwise λx y=>x.c≠y.c:=by
 have d:∀(l out:List Pt),out.Pairwise (λx y=>x.c≠y.c)->(l.foldl Lh out).Pairwise λx y=>x.c≠y.c:=by
  intro l
  induction l with
  |nil=>intro out h;exact h
  |
   cons p l ih =>
   intro out h;refine ih _ ?_;unfold Lh
   split
   .exact h
   .rename_i hn;refine Ja.2 ⟨h,K9 _ _,λa ha b hb e=>hn ?_⟩;rw[Qk.1 hb]at e;rw[List.any_eq_true];exact⟨a,ha,by rw[<-e];simp[QB]⟩
 exact d l [] .nil
theorem Qqt(l:List Pt):(Pq l).Sublist l:=by
 have a:∀(l out o:List Pt),out.Sublist o->(l.foldl Lh out).Sublist (o++l):=by
  intro l
  induction l with
  |nil=>intro out o h;rw[Zx];exact h
  |
   cons p l ih =>
   intro out o h;have:(Lh out p).Sublist (o++[p]):=by
    unfold Lh
    split
    .exact h.trans (List.sublist_append_left _ _)
    .exact h.append (List.Sublist.refl _)
   have:=ih _ _ this;rwa[Zh]at this
 exact a l [] [] (List.Sublist.refl _)
theorem XB(f:Nat->U8)(rows:List U9)(q:Rat)(i:Nat):Gf (Ew f rows (i+1)) q=Gf (Ew f rows i) q+(if i % 2=0 then 1 else -1)*(Gf ((rows.getD i []).getD 0 []) q*Gf (f i) q):=by
 simp only[Ew]
 split
 .rename_i h;have:Gf ((rows.getD i []).getD 0 []) q=0:=by rw[Qg h];rfl
  rw[this];grind
 .split
  .rw[qI,Gx];grind
  .rw[Bs,Gx];grind
theorem Qen(z:Int)(q:Rat):Gf [z] q=(z:Rat):=by simp[Gf,Rat.add_zero]
theorem bC(p:U8)(q:Rat):Gf (Ax 1 [[p]]) q=Gf p q:=by
 show Gf (Ew (λi=>Ax 0 (FX [[p]] i)) [[p]] (0+1)) q=_;rw[XB];show(0:Rat)+1*(Gf p q*Gf [1] q)=_;rw[Qen];have:((1:Int):Rat)=1:=rfl;grind
theorem qA(p r s t:U8)(q:Rat):Gf (Ax 2 [[p,r],[s,t]]) q=Gf p q*Gf t q-Gf s q*Gf r q:=by
 show Gf (Ew (λi=>Ax 1 (FX [[p,r],[s,t]] i)) [[p,r],[s,t]] (0+1+1)) q=_;rw[XB,XB];show(0:Rat)+1*(Gf p q*Gf (Ax 1 [[t]]) q)+(-1)*(Gf s q*Gf (Ax 1 [[r]]) q)=_;rw[bC,bC];grind
theorem Qov(a1 a2 d b1 c e f b a:U8)(q:Rat):Gf (Ax 3 [[a1,a2,d],[b1,c,e],[f,b,a]]) q=Gf a1 q*(Gf c q*Gf a q-Gf b q*Gf e q)-Gf b1 q*(Gf a2 q*Gf a q-Gf b q*Gf d q)+Gf f q*(Gf a2 q*Gf e q-Gf c q*Gf d q):=by
 show Gf (Ew (λi=>Ax 2 (FX [[a1,a2,d],[b1,c,e],[f,b,a]] i)) [[a1,a2,d],[b1,c,e],[f,b,a]] (0+1+1+1)) q=_;rw[XB,XB,XB];show(0:Rat)+1*(Gf a1 q*Gf (Ax 2 [[c,e],[b,a]]) q)+(-1)*(Gf b1 q*Gf (Ax 2 [[a2,d],[b,a]]) q)+1*(Gf f q*Gf (Ax 2 [[a2,d],[c,e]]) q)=_;rw[qA,qA,qA];grind
theorem Qay{a b c:Pt}(ha:Sc a.c)(hb:Sc b.c)(hc:Sc c.c)(q:Rat):Gu (Gf (Ry a.c b.c c.c) q)=Gu (Dz (px · q) (py · q) a b c):=by
 have S6:∀{k:Crv},Sc k->(0:Rat)<(k.d:Rat):=λh=>by exact_mod_cast h.n.2.2.1
 have g:=S6 ha;have pb:=S6 hb;have i:=S6 hc;have f:∀{p:Pt},0<(p.c.d:Rat)->Gf p.c.x q=px p q*(p.c.d:Rat)/\Gf p.c.y q=py p q*(p.c.d:Rat):=λ{p} h=>by
  unfold px py;exact⟨(Zg Fu).symm,(Zg Fu).symm⟩
 obtain⟨j,l⟩:=f g;obtain⟨xb,r⟩:=f pb;obtain⟨m,o⟩:=f i;have e:Gf (Ry a.c b.c c.c) q=((a.c.d:Rat)*(b.c.d:Rat)*(c.c.d:Rat))*Dz (px · q) (py · q) a b c:=by
  unfold Ry bW Dz;rw[Qov,Qen,Qen,Qen,j,xb,m,l,r,o];grind
 rw[e,Eb (Xx (Xx g pb) i)]
def TC(sg:U8->Int)(a b c:Pt):Bool:=decide (0<Rp sg (Ry a.c b.c c.c))
def Nc(sg:U8->Int)(row:List Pt):List Pt:=(Nz (TC sg) [] row).reverse
def Ii(sg:U8->Int)(row:List Pt):List Pt:=if row.length<3 then row else(Nc sg row).dropLast++(Nc sg row.reverse).dropLast
def Nm(l:List Pt)(a:Tm):List Pt:=Ii (G6 a) (Ml a (Pq l))
def Sv(C:List Pt):List (Pt×Pt):=C.zip (C.drop 1++C.take 1)
def Ar(sg:U8->Int)(a b c:Pt):Ct:=⟨3,a.id,b.id,c.id,0,Ry a.c b.c c.c,Rp sg (Ry a.c b.c c.c)⟩
def FV(e:Pt×Pt)(c:Pt):Bool:=decide (c.id≠e.1.id) && decide (c.id≠e.2.id)
def Ou(sg:U8->Int)(l:List Pt)(e:Pt×Pt):List Ct:=(l.filter (FV e)).map λc=>Ar sg e.1 e.2 c
def Dx(sg:U8->Int)(l C:List Pt):List Ct:=if C.length<2 then []else(Sv C).flatMap (Ou sg l)
def EI(l:List Pt)(a:Tm):List Ct:=VY l a++Dx (G6 a) l (Nm l a)
abbrev brH(l:List Pt)(a:Tm):Ff:=Ga (Nm l a)
def EL(l:List Pt):U9:=l.flatMap λx=>l.flatMap λy=>l.map λz=>Ry x.c y.c z.c
variable{l:List Pt}{x:Pt}
theorem sP{y z:Pt}(hx:x∈l)(a:y∈l)(hz:z∈l):Ry x.c y.c z.c∈EL l :=
 Zs.2 ⟨x,hx,Zs.2 ⟨y,a,Q8.2 ⟨z,hz,rfl⟩⟩⟩
theorem Qrq(hl:∀p∈l,Sc p.c):∀p∈EL l,Cp p:=λp hp=>by
 obtain⟨x,hx,hp⟩:=Zs.1 hp;obtain⟨y,a,hp⟩:=Zs.1 hp;obtain⟨z,hz,rfl⟩:=Q8.1 hp;exact WO (hl x hx) (hl y a) (hl z hz)
theorem zJ{α:Type}(s:α->α->α->Bool)(c:α):∀st:List α,(Ay s c st).Sublist st
 | []=>List.Sublist.refl _
 | [_]=>List.Sublist.refl _
 |
  b::a::r=>by
  simp only[Ay]
  split
  .exact List.Sublist.refl _
  .exact(zJ s c (a::r)).trans (List.sublist_cons_self _ _)
theorem GU{α:Type}{s:α->α->α->Bool}:∀{l a:List α} {x:α},x∈Nz s a l->x∈a\/x∈l
 | [],a,x,h=>.inl h
 |
  c::l,a,x,h=>by
  rcases GU (l:=l) h with h|h
  .rcases Qm.1 h with rfl|h
   .exact .inr Ft
   .exact .inl ((zJ s c a).subset h)
  .exact .inr (Qi _ h)
theorem GW{α:Type}(s:α->α->α->Bool):∀(l a:List α),(Nz s a l).length<=a.length+l.length
 | [],a=>by simp[Nz]
 |
  c::l,a=>by
  have h1:=GW s l (c::Ay s c a);have h2:=(zJ s c a).length_le;simp only[Nz,Q5]at h1 ⊢;omega
variable{row:List Pt}
theorem IS{sg:U8->Int}(h:x∈Nc sg row):x∈row:=by
 unfold Nc at h;rcases GU (J3.1 h)with h|h
 .cases h
 .exact h
theorem JC(sg:U8->Int)(row:List Pt):(Nc sg row).length<=row.length:=by
 have:=GW (TC sg) row [];unfold Nc;rw[List.length_reverse];simpa using this
theorem Qaq{sg:U8->Int}(h:x∈Ii sg row):x∈row:=by
 unfold Ii at h
 split at h
 .exact h
 .rcases Qr.1 h with h|h
  .exact IS ((List.dropLast_sublist _).subset h)
  .exact J3.1 (IS ((List.dropLast_sublist _).subset h))
theorem Qap(sg:U8->Int)(row:List Pt):(Ii sg row).length<=2*row.length:=by
 unfold Ii
 split
 .omega
 .have h1:=JC sg row;have h2:=JC sg row.reverse;rw[X4]at h2;rw[Qw,List.length_dropLast,List.length_dropLast];omega
theorem XZ{a:Tm}(h:x∈Nm l a):x∈l:=Dh (Tk.1 (Qaq h))
theorem MW(l:List Pt)(a:Tm):(Nm l a).length<=2*l.length:=by
 have h1:=Qap (G6 a) (Ml a (Pq l));rw[L9]at h1;have:=JK l;unfold Nm;omega
theorem BM{C:List Pt}{e:Pt×Pt}(h:e∈Sv C):e.1∈C/\e.2∈C:=by
 unfold Sv at h;have h1:=List.of_mem_zip (show(e.1,e.2)∈_ from h);refine⟨h1.1,?_⟩;rcases Qr.1 h1.2 with h|h
 .exact Q3 h
 .exact Qn h
theorem qX{sg:U8->Int}{C:List Pt}{x:Ct}(h:x∈Dx sg l C):∃e∈Sv C,∃c∈l,FV e c=true/\x=Ar sg e.1 e.2 c:=by
 unfold Dx at h
 split at h
 .cases h
 .obtain⟨e,he,h⟩:=Zs.1 h;obtain⟨c,hc,rfl⟩:=Q8.1 h;obtain⟨h1,h2⟩:=Y7.1 hc;exact⟨e,he,c,h1,h2,rfl⟩
theorem wI{a:Tm}:∀x∈EI l a,x.p∈Is l++EL l:=λx hx=>by
 rcases Qr.1 hx with hx|hx
 .exact X9 _ (Qbw x hx)
 .obtain⟨e,he,c,hc,_,rfl⟩:=qX hx;obtain⟨h1,h2⟩:=BM he;exact Jv _ (sP (XZ h1) (XZ h2) hc)
theorem DO(hl:∀p∈l,Sc p.c):∀p∈Is l++EL l,Cp p:=λp hp=>by
 rcases Qr.1 hp with h|h
 .exact JU hl p h
 .exact Qrq hl p h
theorem GR{α β:Type}(f:α->List β)(n:Nat):∀(m:List α),(∀x∈m,(f x).length≤n)->(m.flatMap f).length≤m.length*n
 | [],_=>Ft
 |
  x::m,h=>by
  have:=GR f n m λy a=>h y (Qi _ a)
  have:=h x Ft;rw[Yn,Qw,Q5,Xh];omega
theorem iM(sg:U8->Int)(l C:List Pt):(Dx sg l C).length<=C.length*l.length:=by
 unfold Dx
 split
 .simp
 .refine Qa (GR _ l.length _ λe _=>?_) (Qz _ ?_)
  .unfold Ou;rw[List.length_map];exact List.length_filter_le _ _
  .unfold Sv;rw[List.length_zip];exact Nat.min_le_left _ _
theorem eJ(hl:∀p∈l,Sc p.c)(hn:l.length≤10):BuildOk (EI l) :=
 ⟨λ_ _ x hx=>DO hl _ (wI x hx),λa _=>by
  have h1:=iM (G6 a) l (Nm l a);have h2:=MW l a;have h3:(Nm l a).length*l.length<=20*10:=Zf Fo hn;show(VY l a++Dx (G6 a) l (Nm l a)).length<=1000;have h4:(VY l a).length<=l.length:=by unfold VY;rw[Lc,L9];omega
  rw[Qw];omega⟩
def QM{α:Type}(l:List α):List (α×α):=l.zip (l.drop 1)
theorem fQ{α:Type}{Q:α->α->Prop}:∀{l:List α},Edg Q l↔∀e∈QM l,Q e.1 e.2
 | []=>by simp[Edg,QM]
 | [_]=>by simp[Edg,QM]
 |
  a::b::l=>by
  have c:=fQ (Q:=Q) (l:=b::l);have e:QM (a::b::l)=(a,b)::QM (b::l):=rfl;rw[e];constructor
  .rintro⟨h1,h2⟩ x hx
   rcases Qm.1 hx with rfl|hx
   .exact h1
   .exact c.1 h2 x hx
  .intro h;exact⟨h (a,b) Ft,c.2 λx hx=>h x (Qi _ hx)⟩
variable{α:Type}
theorem IC(f z:α)(A:List α):QM (f::A++[z])=(f::A).zip (A++[z]):=by
 unfold QM;rw[Xg,Wy,Jd];have:f::(A++[z])=(f::A)++[z]:=rfl;rw[this];have h:A++[z]=(A++[z])++[]:=(Zx _).symm
 conv=>lhs;rw[h]
 rw[List.zip_append Ft];simp
theorem mN{f z:Pt}{A B:List Pt}:Sv ((f::A++[z]).dropLast++(z::B++[f]).dropLast)=QM (f::A++[z])++QM (z::B++[f]):=by
 rw[Kh,Kh,IC,IC,<-List.zip_append Ft];unfold Sv;congr 1;simp
theorem Edg.rev{Q:α->α->Prop}:∀{l:List α},Edg Q l->Edg (λa b=>Q b a) l.reverse:=by
 have app:∀{Q:α->α->Prop} {l:List α} {b a:α},Edg Q (l++[b])->Q b a->Edg Q (l++[b]++[a]):=by
  intro Q l
  induction l with
  |nil=>intro b a _ h;exact⟨h,trivial⟩
  |
   cons x l ih =>
   intro b a h h2;cases l with
   |nil=>exact⟨h.1,ih h.2 h2⟩
   |cons y l=>exact⟨h.1,ih h.2 h2⟩
 intro l
 induction l with
 |nil=>intro _;trivial
 |
  cons a l ih =>
  intro h;cases l with
  |nil=>trivial
  |
   cons b l =>
   have:=ih h.2;rw[Y9]at this ⊢;rw[Y9];exact app this h.1
theorem Cnv.rev{R:α->α->α->Prop}:∀{l:List α},Cnv R l->Cnv (λa b c=>R c b a) l.reverse:=by
 have app:∀{R:α->α->α->Prop} {l:List α} {c b a:α},Cnv R (l++[c,b])->R c b a->Cnv R (l++[c,b,a]):=by
  intro R l
  induction l with
  |nil=>intro c b a _ h;exact⟨h,trivial⟩
  |
   cons x l ih =>
   intro c b a h h2;cases l with
   |nil=>exact⟨h.1,ih h.2 h2⟩
   |
    cons y l =>
    cases l with
    |nil=>exact⟨h.1,ih h.2 h2⟩
    |cons w l=>exact⟨h.1,ih h.2 h2⟩
 intro l
 induction l with
 |nil=>intro _;trivial
 |
  cons a l ih =>
  intro h
  match l,h with
  | [],_=>trivial
  | [_],_=>trivial
  |
   b::c::l,h =>
   have:=ih h.2;rw[Y9,Y9,Zh]at this;rw[Y9,Y9,Y9,Zh,Zh];exact app this h.1
end Orq
