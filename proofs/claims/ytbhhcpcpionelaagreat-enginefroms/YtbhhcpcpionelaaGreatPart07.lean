/- T22 T23 T24 T25 G1 G2 SortL KinL K1 K2 F9 G3 G4 K3 K4 KGoL SplitL S1 SortQ HullG RawL NewsL BegL TurnL -/
import Derived.Test.YtbhhcpcpionelaaGreatPart06
import Derived.Test.YtbhhcpcpionelaaGreatPart00
import Derived.Test.YtbhhcpcpionelaaGreatPart05
import Derived.Test.YtbhhcpcpionelaaGreatPart04
set_option linter.all false
namespace Orq
open Orr Go
def CmpOk (a b:Tm) (c:Int):Prop:=c=-1/\Mp a b\/c=0/\TEq a b\/c=1/\Mp b a
theorem Va.hv0 {t:Tm} (h:Va t):∃ D M k,Hv t D M k t/\0<M/\U5 (D:Int)+U5 (M:Int)+k<=lim t:=by
 obtain ⟨D,M,k,h1,h2,h3,h4⟩:=h.g;exact ⟨D,M,k,⟨rfl,h.i,λ_=>rfl,h1,h2⟩,h3,h4⟩
theorem rM {a:Tm} (ha:Va a) (hp:a.point=true) (q:Rat):Fe a q=G7 a.lo q:=Ag (ha.pt hp).1 q
theorem Qbn {a b:Tm} (hb:Va b) {x:Rat} (hx:∀ q,Fe a q=G7 x q):CmpOk a b (-Fe b x):=by
 have cb:=hb.cut;rcases cb.val x with h | h | h
 ·obtain ⟨q,q1,q2⟩:=cb.up x h;refine .inl ⟨by omega,q,?_,q2⟩;rw [hx]; rcases Nx x q with ⟨e,e'⟩ | ⟨e,e'⟩ | ⟨e,e'⟩ <;> grind
 ·exact .inr (.inl ⟨by omega,λq=>by rw [hx,jV cb h]⟩)
 ·obtain ⟨q,q1,q2⟩:=cb.dn x h;refine .inr (.inr ⟨by omega,q,q2,?_⟩);rw [hx]; rcases Nx x q with ⟨e,e'⟩ | ⟨e,e'⟩ | ⟨e,e'⟩ <;> grind
theorem CmpOk.symm {a b:Tm} {c:Int} (h:CmpOk a b c):CmpOk b a (-c):=by
 rcases h with ⟨h1,h2⟩ | ⟨h1,h2⟩ | ⟨h1,h2⟩
 ·exact .inr (.inr ⟨by omega,h2⟩)
 ·exact .inr (.inl ⟨by omega,λq=>(h2 q).symm⟩)
 ·exact .inl ⟨by omega,h2⟩
theorem Qsd:Szz 9 1260:=⟨by decide,by decide⟩
theorem KB (g:Ui) (lo hi:Rat):KN g lo hi=true↔gQ (cz g) lo hi:=by
 unfold KN gQ;rw [decide_eq_true_iff,Mk,yP,U0]
theorem yJ {g:Ui} (tg:U7 g) (hn:g.length≠0) {lo hi:Rat} (h:gQ (cz g) lo hi):1<g.length:=by
 rcases Zd 1 g.length with e | e
 ·exact e
 ·exfalso;obtain ⟨c,rfl⟩:∃ c,g=[c]:=Kk.1 (by omega);have hc:c≠0:=by have:=Rm tg (by simp); simpa using this
  have hv:∀ t,ev (cz [c]) t=(c:Rat):=λt=>by rw [U0]; simp only [Uy]; grind
  have hs:U4 (c:Rat)≠0:=λh=>QD hc (Gd.1 h)
  unfold gQ at h;rw [hv,Er (by rw [hv]; exact hs),hv] at h;rcases h with h | h
  ·exact hs h
  ·exact h rfl
theorem MO {q:Rat}:Fa q<=((2^U5 q.num:Nat):Rat):=by
 have h1:U5 q.num<=U5 q.num:=Ql _;rw [Tu] at h1;have e:(q.num:Rat)=q*(q.den:Rat):=by
  have:(q.num:Rat) / (((q.den:Int)):Rat)=q:=by rw [Hk,Xd]
  have h2:(q.num:Rat) / (q.den:Rat)*(q.den:Rat)=q.num:=Zc (by have:=nat_pos q.den_pos; grind);rw [show (q.num:Rat) / (q.den:Rat)=q from this] at h2; exact h2.symm
 have hd:(1:Rat)<=(q.den:Rat):=by
  have:((1:Nat):Rat)<=(q.den:Rat):=Zi.2 q.den_pos;exact this
 have h2:Fa q<=Fa (q.num:Rat):=by
  rw [e,Ap];have:Fa (q.den:Rat)=(q.den:Rat):=by unfold Fa; rw [if_neg (by grind)]
  rw [this];have:=Be (a:=Fa q) (c:=1) (Hj q) Qp (by decide) hd;grind
 rw [Tv] at h2;exact Zh h2 (Zi.2 (Yg h1))
theorem GA {a:Tm} {w:Nat} (h:U5 a.lo.num+U5 a.hi.num<=w):a.hi-a.lo<=((2^(w+1):Nat):Rat):=by
 have h1:=MO (q:=a.lo);have h2:=MO (q:=a.hi);have h3:((2^U5 a.lo.num:Nat):Rat)<=((2^w:Nat):Rat):=Zi.2 (Zt (by decide) (by omega));have h4:((2^U5 a.hi.num:Nat):Rat)<=((2^w:Nat):Rat):=Zi.2 (Zt (by decide) (by omega));rw [vI];rw [Pq] at h1 h2;grind
theorem Iv {p:Ui} {s:Nat} (h:Bd s p):Gv p<=s:=by
 have:=Pp h p.length; rwa [Q6] at this
theorem Qfn {a b:Tm} (ha:Va a) (hb:Va b) (pa:a.point=false) (pb:b.point=false):Pf a b<=9000000:=by
 have q1:=ha.qsn pa; have q2:=hb.qsn pb;have l1:=ha.n; have l2:=hb.n;have s1:=Iv (ha.bi pa); have s2:=Iv (hb.bi pb);have b1:=q1.1.1; have b2:=q1.2.1; have b3:=q2.1.1; have b4:=q2.2.1;have:4*(a.p.length+b.p.length)*(Gv a.p+Gv b.p+(a.p.length+b.p.length)+8)<=4*18*2600:=Q7 (by omega) (by omega);unfold Pf; omega
theorem iN {a b:Tm} (ha:Va a) (hb:Va b) (pa:a.point=false) (pb:b.point=false) (hne:¬TEq a b):∃ r,CQ (Pf a b) a b=some r/\Qmm a b r:=by
 obtain ⟨D,M,k,h1,h2,h3⟩:=ha.hv0;obtain ⟨D',M',k',h1',h2',h3'⟩:=hb.hv0;rw [OU pa] at h3;rw [OU pb] at h3';have hst:=Qfn ha hb pa pb;obtain ⟨w,hw⟩:=nmE (U5 a.lo.num+U5 a.hi.num+U5 b.lo.num+U5 b.hi.num);obtain ⟨K,hK⟩:=nmE (Gv a.p+Gv b.p+(a.p.length+b.p.length)+8);obtain ⟨n,hn⟩:=nmE (a.p.length+b.p.length);have l1:=ha.n2; have l2:=hb.n2;have hsteps:Pf a b=64+2*w+4*n*K:=by unfold Pf; rw [hw,hK,hn]
 have hg:Te a.p b.p=K*(2*(n-2)-1):=by unfold Te; rw [hK,hn]
 have hgle:Te a.p b.p+5*K<=2*n*K:=by
  rw [hg,Zn K,<-X2];exact Qx _ (by omega)
 have hKp:8<=K:=by omega
 refine Qqm ha hb hne h2 h2' (31+w+2*n*K) (Pf a b) a b k k' ((2^(w+1):Nat):Rat) ?_ h1 h1' (by omega) (by omega) (GA (by omega)) (GA (by omega)) ?_
 ·rw [hsteps,Xj,Xx 4,Xx 2 n]; omega
 ·have e:2*(2^(w+1))*(2^(Te a.p b.p+1))<=2^(31+w+2*n*K):=by
   rw [Zn 2,<-Zo,<-Xe];exact Zt (by decide) (by omega)
  have:=Zi.2 e
  push_cast at this ⊢
  exact this
theorem KX {a b:Tm} (ha:Va a) (hb:Va b):∃ c,KZ a b=some c/\CmpOk a b c:=by
 unfold KZ;by_cases pa:a.point=true
 ·rw [if_pos pa];exact ⟨_,rfl,Qbn hb (rM ha pa)⟩
 rw [if_neg pa];by_cases pb:b.point=true
 ·rw [if_pos pb];have:=(Qbn ha (rM hb pb)).symm;rw [Int.neg_neg] at this;exact ⟨_,rfl,this⟩
 rw [if_neg pb];have pa:a.point=false:=by simpa using pa
 have pb:b.point=false:=by simpa using pb
 obtain ⟨L,V⟩:=ha.iv pa;obtain ⟨L',V'⟩:=hb.iv pb;have eqa:∀ q,Fe a q=cq (cz a.p) a.lo a.hi q:=Ny V.l;have eqb:∀ q,Fe b q=cq (cz b.p) b.lo b.hi q:=Ny V'.l;obtain ⟨lo,hlo⟩:=nmE (if 0<G7 b.lo a.lo then b.lo else a.lo);obtain ⟨hi,hhi⟩:=nmE (if G7 b.hi a.hi<0 then b.hi else a.hi);show ∃ c,(if G7 (if 0<G7 b.lo a.lo then b.lo else a.lo) (if G7 b.hi a.hi<0 then b.hi else a.hi)<0 then _ else _)=some c/\_;rw [<-hlo,<-hhi];have e1:(0<G7 b.lo a.lo)=(a.lo<b.lo):=propext Lj;have e2:(G7 b.hi a.hi<0)=(b.hi<a.hi):=propext Mq;have e3:(G7 lo hi<0)=(lo<hi):=propext Mq;simp only [e1] at hlo;simp only [e2] at hhi;simp only [e3];obtain ⟨g,g1,g2,g3,g4⟩:=Qcp Qsd ha.tr hb.tr ha.n hb.n (ha.bi pa) (hb.bi pb) (by have:=ha.n2; omega);obtain ⟨U,W,hc⟩:=g2.c;obtain ⟨u,hu⟩:=g2.da;obtain ⟨u',hu'⟩:=g2.db;have key:=V.same V' (g:=cz g) (u:=u) (u':=u') (U:=U) (W:=W) (k:=1) (by decide) hu hu' (λt=>by rw [U0,U0,U0,hc]; grind) (a:=lo) (b:=hi) (by rw [hlo]; split <;> grind) (by rw [hlo]; split <;> grind) (by rw [hlo]; split <;> simp) (by rw [hhi]; split <;> grind) (by rw [hhi]; split <;> grind) (by rw [hhi]; split <;> simp);have hTE:(∀ q,cq (cz a.p) a.lo a.hi q=cq (cz b.p) b.lo b.hi q)↔TEq a b:=by
  unfold TEq; constructor
  ·intro h q; rw [eqa,eqb]; exact h q
  ·intro h q; rw [<-eqa,<-eqb]; exact h q
 rw [hTE] at key;have fin:¬TEq a b->∃ c,((CQ (Pf a b) a b).bind λr=>some r.2.2)=some c/\CmpOk a b c:=λhne=>by
  obtain ⟨r,r1,r2⟩:=iN ha hb pa pb hne;refine ⟨r.2.2,by rw [r1]; rfl,?_⟩;rcases r2 with h | h
  ·exact .inl h
  ·exact .inr (.inr h)
 by_cases hl:lo<hi
 ·rw [if_pos hl,g1];show ∃ c,(if 1<g.length/\KN g lo hi=true then some 0 else (CQ (Pf a b) a b).bind λr=>some r.2.2)=some c/\_;by_cases hh:KN g lo hi=true
  ·have hq:=(KB g lo hi).1 hh;rw [if_pos ⟨yJ g2.t g2.n hq,hh⟩];exact ⟨0,rfl,.inr (.inl ⟨rfl,key.1 ⟨hl,hq⟩⟩)⟩
  ·rw [if_neg λh=>hh h.2];exact fin λh=>hh ((KB g lo hi).2 (key.2 h).2)
 ·rw [if_neg hl];exact fin λh=>hl (key.2 h).1
def SgT (p:Ui) (a:Tm) (s:Int):Prop:=s=0/\A6 (cz p) (Fe a)\/s≠0/\NZ (cz p) (Fe a) s
theorem Qpm {p:Ui} {c:Rat->Int} (hc:Cut c) {x:Rat} (h:c x=0):Hr p x=0/\A6 (cz p) c\/Hr p x≠0/\NZ (cz p) c (Hr p x):=by
 rw [Mk,<-U0];rcases ZO hc (cz p) with h1 | ⟨s,hs,h1⟩
 ·exact .inl ⟨Gd.2 (GE hc h h1),h1⟩
 ·have:=vY hc h h1;rw [this]; exact .inr ⟨hs,h1⟩
theorem I7 {l:Uj} {lo hi:Rat} (h:lo<=hi):Rx l lo hi=(vv (l.map cz) lo:Int)-(vv (l.map cz) hi:Int):=by
 unfold Rx;rw [if_neg λh'=>by have:=Mq.1 h'; grind,O0,O0]
theorem Qpn {p q:Ui} {L:Um} (hp:U7 p) (np:p.length<=9) (lp:2<=p.length) (hS:UG (cz q) L) (hpq:QV (cz q) (cz p)) {a:Tm} (ha:Va a) {s:Int} (hnz:NZ (cz p) (Fe a) s) {D M k:Nat} {x:Tm} (hx:Hv a D M k x) (hl:x.lo<x.hi) (hv:vv L x.lo≠vv L x.hi):1<(x.hi-x.lo)*((2^(Te a.p p+1):Nat):Rat):=by
 rcases Fv ((x.hi-x.lo)*((2^(Te a.p p+1):Nat):Rat)) 1 with hw | hw
 ·exfalso;have ca:=ha.cut;obtain ⟨d,dp,x1,y1,c1,c2,hn⟩:=hnz;obtain ⟨x2,x12,c3⟩:=ca.up x1 c1;obtain ⟨y2,y12,c4⟩:=ca.dn y1 c2;have hpow:(0:Rat)<=((2^(Te a.p p+1):Nat):Rat):=Xi;obtain ⟨z,zp,z1,z2⟩:=min2 (a:=x2-x1) (b:=y1-y2) (by clear hn; grind) (by clear hn; grind);obtain ⟨R0,hR0,r1,r2⟩:=AM x.lo x.hi;obtain ⟨u,hu⟩:=hpq;refine Qcg (R:=R0+1) (d:=z) ha.tr hp ha.n np ha.n2 lp (by clear hn; grind) zp λe ep=>?_
  obtain ⟨q0,q1,q2,q3,q4,q5⟩:∃ q0,x.lo<=q0/\q0<=x.hi/\x2<=q0/\q0<=y2/\Fa (Uy a.p q0)<e:=by
   rcases hx.lo' with h1 | ⟨h1,h2⟩
   ·obtain ⟨x',y',hx',hy',hq⟩:=ha.van e ep;obtain ⟨m,m1,m2,m3,m4⟩:∃ m,Fe a m=1/\x.lo<=m/\x2<=m/\x'<=m:=by
     rcases Fv x.lo x2 with e1 | e1
     ·rcases Fv x2 x' with e2 | e2
      ·exact ⟨x',hx',by clear hn hq; grind,e2,Qp⟩
      ·exact ⟨x2,c3,e1,Qp,Qq e2⟩
     ·rcases Fv x.lo x' with e2 | e2
      ·exact ⟨x',hx',e2,by clear hn hq; grind,Qp⟩
      ·exact ⟨x.lo,h1,Qp,Qq e1,Qq e2⟩
    refine ⟨m,m2,?_,m3,Qq (ca.lt m1 c4),by rw [<-U0]; exact hq m m4 (Qq (ca.lt m1 hy'))⟩;rcases hx.hi' with h3 | h3
    ·rcases Fv m x.hi with e1 | e1
     ·exact e1
     ·have:=ca.mono x.hi m e1 (by omega); omega
    ·exact Qq (ca.lt m1 h3)
   ·exact absurd h2 (by clear hn; grind)
  obtain ⟨b,hb⟩:=nmE (jN R0 u);have hb0:0<=b:=by rw [hb]; exact QS hR0 u
  obtain ⟨f,fp,_,hf⟩:=G5 (b:=b) (d:=if e<=d then e else d) hb0 (by split <;> assumption);obtain ⟨r,r3,r4,r5⟩:=qI hS hl hv fp;have hrR:Fa r<=R0:=KC r1 r2 r3 r4;have hpr:Fa (Uy p r)<(if e<=d then e else d):=by
   rw [<-U0,hu];have:=Gx (Qq r5) (HK hrR u);rw [<-hb] at this;exact Jo.1 λh=>absurd (Zh h this) (Jo.2 hf)
  have hpe:Fa (Uy p r)<e:=by split at hpr <;> (clear hn; grind)
  have hpd:Fa (Uy p r)<d:=by split at hpr <;> (clear hn; grind)
  have hrout:r<x1\/y1<r:=by
   rcases Fv x1 r with e1 | e1
   ·rcases Fv r y1 with e2 | e2
    ·have:=(hn r e1 e2).2;rw [U0] at this;exact absurd this (Jo.2 hpd)
    ·exact .inr e2
   ·exact .inl e1
  have hqr:z<=Fa (q0-r):=by
   clear hn;rcases hrout with h | h
   ·have:Fa (q0-r)=q0-r:=by unfold Fa; split <;> grind
    rw [this]; grind
   ·have:Fa (q0-r)=r-q0:=by unfold Fa; split <;> grind
    rw [this]; grind
  have hq0R:Fa q0<=R0:=KC r1 r2 q1 q2;refine ⟨q0,r,by clear hn; grind,by clear hn; grind,hqr,?_,q5,hpe⟩;have h1:Fa (q0-r)<=x.hi-x.lo:=by rw [Pq]; clear hn; constructor <;> grind
  exact Zh (Q8 h1 hpow) hw
 ·exact hw
theorem Qe9 {p q:Ui} {l:Uj} (hp:U7 p) (np:p.length<=9) (lp:2<=p.length) (hS:UG (cz q) (l.map cz)) (hpq:QV (cz q) (cz p)) {a:Tm} (ha:Va a) {s:Int} (hnz:NZ (cz p) (Fe a) s) {D M:Nat} (hM:0<M):∀ (j i:Nat) (x:Tm) (k:Nat) (W:Rat),i+1<=j->Hv a D M k x->U5 (D:Int)+U5 (M:Int)+(k+j)<=16777216->x.hi-x.lo<=W->W*((2^(Te a.p p+1):Nat):Rat)<=((2^i:Nat):Rat)->∃ u k',sgF l j x=some u/\Hv a D M k' u/\(u.point=true\/Rx l u.lo u.hi=0)
 | 0,i,x,k,W,h,_,_,_,_=>by omega
 |
  j+1,i,x,k,W,hj,hx,hs,hW,hK=>by
  simp only [sgF];by_cases h:x.point=true\/Rx l x.lo x.hi=0
  ·rw [if_pos h]; exact ⟨x,k,rfl,hx,h⟩
  ·rw [if_neg h];obtain ⟨v,v1,v2,v3,_⟩:=OX hx hM (by omega);rw [v1];show ∃ u k',sgF l j v=some u/\_;have hpt:¬x.hi<=x.lo:=λh'=>h (.inl (P5.2 h'))
   have hl:x.lo<x.hi:=by grind
   have hvv:vv (l.map cz) x.lo≠vv (l.map cz) x.hi:=λh'=>h (.inr (by rw [I7 (Qq hl)]; omega))
   have hg:=Qpn hp np lp hS hpq ha hnz hx hl hvv;have hpow:(0:Rat)<=((2^(Te a.p p+1):Nat):Rat):=Xi;have hd:∀ x:Rat,x / 2*2=x:=λx=>Gy (by decide)
   cases i with
   |
    zero =>
    exfalso;rw [Ve] at hK;have:=Q8 hW hpow;have h7:((1:Nat):Rat)=1:=rfl;rw [h7] at hK;grind
   |
    succ i =>
    refine Qe9 hp np lp hS hpq ha hnz hM j i v (k+1) (W / 2) (by omega) v2 (by omega) ?_ ?_
    ·have:=hd (x.hi-x.lo); have:=hd W; grind
    ·rw [vI i] at hK;have:=hd W;have:W / 2*((2^(Te a.p p+1):Nat):Rat)*2=W*((2^(Te a.p p+1):Nat):Rat):=by grind
     grind
theorem vR {x y:Rat}:∀ {ws:Um},(∀ w∈ws,U4 (ev w x)=U4 (ev w y))->U4 (ev (Im ws) x)=U4 (ev (Im ws) y)
 | [],_=>by simp only [Im]; rw [Ro,Ro]
 |
  w::l,h=>by
  simp only [Im];rw [U8,U8,Tr,Tr,h w (Qw ..),vR λv hv=>h v (Qg _ hv)]
theorem aF {p q o:Ui} (hpt:Parts p q o) (tp:U7 p) (hp:p.length≠0) {L:Um} (hS:UG (cz q) L) {x y:Rat} (hxy:x<y) (hv:vv L x=vv L y):∃ s,s≠0/\∀ z,x<z->z<=y->U4 (Uy p z)=s:=by
 obtain ⟨ws,w1,w2⟩:=hpt.ws;obtain ⟨_,_,_,_,_,p6,p7⟩:=Bj tp hp;have key:∀ z,x<z->z≤y->∀ w∈ws.map cz,Sm w x z:=λz h1 h2 w hw=>by
  obtain ⟨v,hv',rfl⟩:=Zg.1 hw;obtain ⟨u,hu⟩:=(w1 v hv').2;have a1:=E9 hS h1;have a2:vv L y<=vv L z:=by
   rcases Classical.em (z=y) with e | e
   ·rw [e]; exact Ql _
   ·exact E9 hS (by grind)
  exact JI hS hu h1 (by omega)
 have hval:∀ z,Uy p z=(He p:Rat)*ev (Im (ws.map cz)) z:=λz=>by rw [p7,w2]
 refine ⟨U4 (Uy p y),λh0=>?_,λz h1 h2=>?_⟩
 ·rw [hval,Tr] at h0;rcases Jy.1 h0 with h | h
  ·exact QD p6 (Gd.1 h)
  ·have:∀ l:Um,(∀ w∈l,U4 (ev w y)≠0)->U4 (ev (Im l) y)≠0:=by
    intro l
    induction l with
    | nil=>intro _; simp only [Im]; rw [Ro]; decide
    |
     cons w l ih =>
     intro h;simp only [Im];rw [U8,Tr];exact Yz (h w (Qw ..)) (ih λv hv=>h v (Qg _ hv))
   refine this _ (λw hw=>?_) h;have hs:=key y hxy Qp w hw;rw [hs.s]; exact hs.n
 ·rw [hval,hval,Tr,Tr,vR (y:=y) λw hw=>(key z h1 h2 w hw).s.trans (key y hxy Qp w hw).s.symm]
theorem Qn9 {g p P:Ui} {c:Rat->Int} (hc:Cut c) (hg:Gc g p P):A6 (cz g) c↔A6 (cz p) c/\A6 (cz P) c:=by
 constructor
 ·intro h;obtain ⟨u,hu⟩:=hg.da;obtain ⟨v,hv⟩:=hg.db;exact ⟨Pj hc hu h,Pj hc hv h⟩
 ·rintro ⟨h1,h2⟩
  obtain ⟨U,V,hcc⟩:=hg.c;have a1:A6 (Gt U (cz p)) c:=Pj hc (p:=cz p) (q:=U) (λt=>by rw [U8]; grind) h1;have a2:A6 (Gt V (cz P)) c:=Pj hc (p:=cz P) (q:=V) (λt=>by rw [U8]; grind) h2;exact SR (λt=>by rw [U0,hcc,U8,U8,U0,U0]) a1 a2
theorem Qfh {p:Ui} (hp:Okp 9 1180 p) {a:Tm} (ha:Va a):∃ s,WA p a=some s/\SgT p a s:=by
 unfold WA;rw [if_neg hp.nz];have ca:=ha.cut;by_cases pa:a.point=true
 ·rw [if_pos pa];exact ⟨_,rfl,Qpm ca (x:=a.lo) (by rw [rM ha pa,Ls])⟩
 rw [if_neg pa];have pa:a.point=false:=by simpa using pa
 obtain ⟨L,V⟩:=ha.iv pa;have eqa:∀ q,Fe a q=cq (cz a.p) a.lo a.hi q:=Ny V.l;obtain ⟨g,g1,g2,g3,g4⟩:=Qcp Qsd hp.t ha.tr hp.l ha.n (Uv hp.b (by omega)) (ha.bi pa) hp.nz;obtain ⟨u',hu'⟩:=g2.db;have hhas:=V.has hu' (a:=a.lo) (b:=a.hi) Qp V.l Qp;have hvan:=Qn9 ca g2;rw [show cq (cz a.p) a.lo a.hi=Fe a from (funext eqa).symm] at hhas;rw [g1];show ∃ s,(if 1<g.length/\KN g a.lo a.hi=true then some 0 else _)=some s/\_;by_cases hh:KN g a.lo a.hi=true
 ·have hq:=(KB g _ _).1 hh;rw [if_pos ⟨yJ g2.t g2.n hq,hh⟩];exact ⟨0,rfl,.inl ⟨rfl,(hvan.1 (hhas.1 hq).1).1⟩⟩
 ·rw [if_neg λh=>hh h.2];have hnv:¬A6 (cz p) (Fe a):=λh=>hh ((KB g _ _).2 (hhas.2 ⟨hvan.2 ⟨h,ha.van⟩,by rw [eqa]; exact Ec Qp,by rw [eqa]; exact V.hi1⟩))
  rcases ZO ca (cz p) with h | ⟨s,BA,hnz⟩
  ·exact absurd h hnv
  obtain ⟨q,o,q1,q2,hpt⟩:=Qd1 hp;obtain ⟨q',l,r1,r2,hS,hl0⟩:=chain_ok hp;rw [q1] at r1;injection r1 with r1;subst r1;rw [r2];show ∃ s,((sgF (q::l) (64+2*(U5 a.lo.num+U5 a.hi.num)+4*(a.p.length+p.length)*(Gv a.p+Gv p+(a.p.length+p.length)+8)) a).bind λx=>some (Hr p x.hi))=some s/\_;obtain ⟨w,hw⟩:=nmE (U5 a.lo.num+U5 a.hi.num);obtain ⟨K,hK⟩:=nmE (Gv a.p+Gv p+(a.p.length+p.length)+8);obtain ⟨n,hn⟩:=nmE (a.p.length+p.length);rw [<-hw,<-hK,<-hn];obtain ⟨gg,sq⟩:=hpt.sq;obtain ⟨_,_,_,_,_,pf0,pfe⟩:=Bj hp.t hp.nz;have hpq:QV (cz q) (cz p):=⟨C0 (He p) (cz gg),λt=>by rw [U0,U0,Gh,U0,pfe,sq.e]; grind⟩;obtain ⟨D,M,k,h1,h2,h3⟩:=ha.hv0;rw [OU pa] at h3;have b1:=(ha.qsn pa).1.1; have b2:=(ha.qsn pa).2.1;have l1:=ha.n; have l2:=hp.l; have l3:=ha.n2;have s1:=Iv (ha.bi pa); have s2:=Iv hp.b;have hst:4*n*K<=4*18*2466:=Q7 (by omega) (by omega);have hend:∃ u k',sgF (q::l) (64+2*w+4*n*K) a=some u/\Hv a D M k' u/\(u.point=true\/Rx (q::l) u.lo u.hi=0):=by
   by_cases hpl:p.length<2
   ·have hq1:(U9 p)=[1]:=hp.pr.1.one (by have:=hp.pr.2.1; omega);have hql:q.length<2:=by
     have e:=sq.e;rw [hq1] at e;obtain ⟨p1,p2⟩:=Rp (c:=[1]) rfl (by simp) e;have:=P0 sq.pg.t sq.pq.t (c:=[1]) rfl e p1 p2;simp at this; omega
    have hbt:Rx (q::l) a.lo a.hi=0:=by
     rw [I7 (Qq V.l),hl0 hql,sq.pq.one hql];have hv1:∀ x:Rat,ev (cz [1]) x=1:=λx=>by rw [U0,Mr]
     simp only [Zz,Jc,vv,tc,hv1]; omega
    refine ⟨a,k,?_,h1,.inr hbt⟩;obtain ⟨m,hm⟩:∃ m,64+2*w+4*n*K=m+1:=⟨63+2*w+4*n*K,by omega⟩;rw [hm];simp only [sgF];rw [if_pos (.inr hbt)]
   ·have hg:Te a.p p=K*(2*(n-2)-1):=by unfold Te; rw [hK,hn]
    have hgle:Te a.p p+5*K<=2*n*K:=by
     rw [hg,Zn K,<-X2];exact Qx _ (by omega)
    have hKp:8<=K:=by omega
    have hnK:2*n*K<=4*n*K:=Qx _ (by omega);obtain ⟨u,k',u1,u2,u3⟩:=Qe9 hp.t hp.l (by omega) hS hpq ha hnz h2 (64+2*w+4*n*K) (2+w+2*n*K) a k ((2^(w+1):Nat):Rat) (by omega) h1 (by omega) (GA (by omega)) (by
     have e:(2^(w+1))*(2^(Te a.p p+1))<=2^(2+w+2*n*K):=by
      rw [<-Xe];exact Zt (by decide) (by omega)
     have:=Zi.2 e
     push_cast at this ⊢
     exact this)
    exact ⟨u,k',u1,u2,u3⟩
  obtain ⟨u,k',u1,u2,u3⟩:=hend;rw [u1];refine ⟨_,rfl,.inr ?_⟩;have hfin:Hr p u.hi=s:=by
   rcases u2.hi' with hz | hz
   ·have:=vY ca hz hnz;rw [Mk,<-U0]; exact this
   ·rcases u2.i with ⟨e,_⟩ | ⟨L',V'⟩
    ·have:=u2.c u.hi;rw [Ag e,e,Ls] at this; omega
    ·have hup:u.point=false:=by
      have:¬u.point=true:=λh=>by have:=P5.1 h; have:=V'.l; grind
      simpa using this
     rcases u3 with h | h
     ·rw [hup] at h; cases h
     ·rw [I7 (Qq V'.l)] at h;obtain ⟨s',hs',hps⟩:=aF hpt hp.t hp.nz hS V'.l (by omega);obtain ⟨d,dp,x,y,hx,hy,hq⟩:=hnz;have hlo1:Fe a u.lo=1:=by
       rcases u2.lo' with h | ⟨_,h⟩
       ·exact h
       ·have:=V'.l; clear hps hq; grind
      obtain ⟨m,m1,m2,m3⟩:=PL ca hlo1 hx;have e1:=(hq m (Qq m3) (Qq (ca.lt m1 hy))).1;have e2:=hps m m2 (Qq (ca.lt m1 hz));have e3:=hps u.hi V'.l Qp;rw [Mk,e3,<-e2,<-U0,e1]
  rw [hfin]; exact ⟨BA,hnz⟩
structure Dp (p:List Int):Prop where
 t:U7 p
 l:p.length<=9
 b:Bd (1130+4*(9-p.length)) p
theorem bG:Szz 9 1253:=⟨by decide,by decide⟩
theorem Dp.ok {p:Ui} (h:Dp p) (h0:p.length≠0):Okp 9 1180 p:=⟨bG,h.t,h0,h.l,Uv h.b (by omega)⟩
theorem Dp.der {p:Ui} (h:Dp p):Dp (Gz p):=by
 have hl:=De p;have hl2:=h.l;refine ⟨Fq _ _,by omega,?_⟩;by_cases h0:p.length=0
 ·rw [Qh (l:=Gz p) (by omega)]; exact I5
 ·exact Uv (uH h.b (by omega)) (by omega)
def Fg (a:Tm) (p:Ui):Int:=(WA p a).getD 0
theorem Qe7 {p:Ui} (h:Dp p) {a:Tm} (ha:Va a):WA p a=some (Fg a p)/\SgT p a (Fg a p):=by
 by_cases h0:p.length=0
 ·have e:p=[]:=Qh h0;subst e;refine ⟨rfl,.inl ⟨rfl,λd dp=>?_⟩⟩;obtain ⟨x,y,h1,h2,_⟩:=ha.cut.near (e:=1) (by decide);exact ⟨x,y,h1,h2,λq _ _=>by simp only [cz,Jc,ev,Hy]; exact dp⟩
 ·obtain ⟨s,h1,h2⟩:=Qfh (h.ok h0) ha;have e:Fg a p=s:=by unfold Fg; rw [h1]; rfl
  rw [e]; exact ⟨h1,h2⟩
theorem Qpj {c:Rat->Int} {p q:Ul} {s:Int} (h:∀ t,ev p t=ev q t) (hp:RS p c s):RS q c s:=by
 obtain ⟨y,h1,h2⟩:=hp;exact ⟨y,h1,λz h3 h4=>by rw [<-h]; exact h2 z h3 h4⟩
theorem LI {a:Tm} (ha:Va a):∀ (k:Nat) (p:Ui),Dp p->p.length<=k->p.length≠0->RS (cz p) (Fe a) (Tc (Fg a) k p)/\Tc (Fg a) k p≠0
 | 0,p,_,h1,h2=>by omega
 |
  k+1,p,h,h1,h2=>by
  simp only [Tc];rw [if_neg h2];obtain ⟨_,hs⟩:=Qe7 h ha;rcases hs with ⟨e,hv⟩ | ⟨e,hn⟩
  ·rw [if_pos e];have hdn:(Gz p).length≠0:=λh0=>by
    by_cases h3:p.length=1
    ·obtain ⟨c,rfl⟩:∃ c,p=[c]:=Kk.1 h3;have hc:c≠0:=by have:=Rm h.t (by simp); simpa using this
     obtain ⟨q,hq,_⟩:=vJ ha.cut (hv (Fa (c:Rat)) (Bm (QD hc)));rw [U0] at hq;have:Uy [c] q=(c:Rat):=by simp only [Uy]; grind
     rw [this] at hq; grind
    ·have h4:=Nf p (p.length-2);rw [Qh h0,show p.length-2+1=p.length-1 by omega] at h4;have h5:p.getD (p.length-1) 0≠0:=Rm h.t (by omega);rcases Jy.1 (h4.symm.trans (by simp)) with h6 | h6
     ·exact h5 h6
     ·omega
   have hl:=De p;obtain ⟨i1,i2⟩:=LI ha k (Gz p) h.der (by omega) hdn;exact ⟨qS ha.cut hv (Qpj (λt=>by rw [U0,Ip,Ry]) i1) i2,i2⟩
  ·rw [if_neg e]; exact ⟨EI ha.cut hn,e⟩
theorem Lk {a:Tm} (ha:Va a) {p:Ui} (h:Dp p) (h0:p.length≠0):RS (cz p) (Fe a) (G8 (Fg a) p)/\G8 (Fg a) p≠0:=LI ha _ p h (Ql _) h0
theorem QN {a:Tm}:G8 (Fg a) []=0:=rfl
theorem Qi1 {l:Ui}:∀ z∈l,z.natAbs≤QX l:=by
 have key:∀ (l:Ui) (m:Nat),m≤l.foldl (λm z=>if m<z.natAbs then z.natAbs else m) m/\∀ z∈l,z.natAbs≤l.foldl (λm z=>if m<z.natAbs then z.natAbs else m) m:=by
  intro l
  induction l with
  | nil=>exact λm=>⟨Ql _,λz hz=>by cases hz⟩
  |
   cons y l ih =>
   intro m;obtain ⟨e,he⟩:=nmE (if m<y.natAbs then y.natAbs else m);have h1:m<=e/\y.natAbs<=e:=by rw [he]; split <;> omega
   obtain ⟨i1,i2⟩:=ih e;simp only [Z7];rw [<-he];refine ⟨by omega,λz hz=>?_⟩;rcases Qm.1 hz with rfl | hz
   ·omega
   ·exact i2 z hz
 exact (key l 0).2
theorem PQ {p:Ui} (h:Ff p≠0):Gm p*((Ff p).natAbs:Rat)=((Ff p).natAbs:Rat)+((QX (p.take (p.length-1)):Nat):Rat):=by
 unfold Gm;rw [<-Hk];have hp:0<(Ff p).natAbs:=by omega
 have:=nat_pos hp;rw [show ((((Ff p).natAbs:Int)):Rat)=((Ff p).natAbs:Rat) from rfl,Gy this];rw [K8]; rfl
theorem mL {m:Nat} {x:Rat} (hx:1≤Fa x):∀ (p:Ui) (lp:p.length≠0),(∀ z∈p.take (p.length-1),z.natAbs≤m)->Ff p≠0->(m:Rat)≤(Fa x-1)*((Ff p).natAbs:Rat)->((Ff p).natAbs:Rat)≤Uy p x*(((Int.sign (Ff p))*(if x<0/\p.length % 2=0 then -1 else 1):Int):Rat)
 | [],lp,_,_,_=>absurd rfl lp
 |
  [c],_,_,hc,_=>by
  have hl:Ff [c]=c:=rfl;rw [hl] at hc ⊢;rw [if_neg (by simp),Int.mul_one];have h1:Uy [c] x=(c:Rat):=by simp only [Uy]; grind
  rw [h1];have h2:c*Int.sign c=(c.natAbs:Int):=Int.mul_sign_self c;have:=congrArg (λz:Int=>(z:Rat)) h2;rw [Xg] at this;rw [this]; exact Qp
 |
  c::d::p,_,hm,hc,hb=>by
  have hl:Ff (c::d::p)=Ff (d::p):=by unfold Ff; simp [List.getD_cons_succ]
  have ih:=mL hx (d::p) (by simp) (λz hz=>hm z (by
   have e:(c::d::p).take ((c::d::p).length-1)=c::(d::p).take ((d::p).length-1):=by simp
   rw [e]; exact Qg _ hz)) (by rw [<-hl]; exact hc) (by rw [<-hl]; exact hb)
  rw [hl] at hc hb ⊢;have hcm:=hm c (by simp);obtain ⟨s,hs⟩:∃ s:Int,s=Int.sign (Ff (d::p)):=⟨_,rfl⟩;have hsv:s=1\/s=-1:=by
   rw [hs];rcases V8 hc with h | h
   ·exact .inr (J3 h)
   ·exact .inl (Yt h)
  rw [<-hs] at ih ⊢;obtain ⟨ld,hld⟩:∃ ld:Rat,ld=((Ff (d::p)).natAbs:Rat):=⟨_,rfl⟩;rw [<-hld] at ih hb ⊢;have hcq:Fa (c:Rat)<=(m:Rat):=by rw [Tv]; exact Zi.2 hcm
  rw [Pq] at hcq;have e1:Uy (c::d::p) x=(c:Rat)+x*Uy (d::p) x:=rfl;rw [e1];have hlen:(c::d::p).length % 2=0↔¬(d::p).length % 2=0:=by simp only [Q4]; omega
  generalize Uy (d::p) x=y at *;generalize (m:Rat)=mm at *;generalize (c:Rat)=cc at *;have hx0:=hx;by_cases hneg:x<0
  ·have hq:Fa x=-x:=by unfold Fa; rw [if_pos hneg]
   rw [hq] at hx0 hb;by_cases hpar:(d::p).length % 2=0
   ·rw [if_pos ⟨hneg,hpar⟩] at ih;rw [if_neg λh=>(hlen.1 h.2) hpar];rcases hsv with rfl | rfl
    ·have ih:ld<=y*(-1):=by simpa using ih
     have:=Zx ih (show 0<=-x by grind);have e:(((1:Int)*1:Int):Rat)=1:=rfl;rw [e]; grind
    ·have ih:ld<=y*1:=by simpa using ih
     have:=Zx ih (show 0<=-x by grind);have e:(((-1:Int)*1:Int):Rat)=-1:=rfl;rw [e]; grind
   ·rw [if_neg λh=>hpar h.2] at ih;rw [if_pos ⟨hneg,hlen.2 hpar⟩];rcases hsv with rfl | rfl
    ·have ih:ld<=y*1:=by simpa using ih
     have:=Zx ih (show 0<=-x by grind);have e:(((1:Int)*-1:Int):Rat)=-1:=rfl;rw [e]; grind
    ·have ih:ld<=y*(-1):=by simpa using ih
     have:=Zx ih (show 0<=-x by grind);have e:(((-1:Int)*-1:Int):Rat)=1:=rfl;rw [e]; grind
  ·have hq:Fa x=x:=by unfold Fa; rw [if_neg hneg]
   rw [hq] at hx0 hb;rw [if_neg λh=>hneg h.1] at ih ⊢;rcases hsv with rfl | rfl
   ·have ih:ld<=y*1:=by simpa using ih
    have:=Zx ih (show 0<=x by grind);have e:(((1:Int)*1:Int):Rat)=1:=rfl;rw [e]; grind
   ·have ih:ld<=y*(-1):=by simpa using ih
    have:=Zx ih (show 0<=x by grind);have e:(((-1:Int)*1:Int):Rat)=-1:=rfl;rw [e]; grind
theorem uP {p:Ui} (tp:U7 p) (lp:p.length≠0) {x:Rat} (hx:Gm p<=Fa x):1<=Fa (Uy p x)/\(0<=x->Hr p x=KF p)/\(x<0->Hr p x=QQ p):=by
 have hl:=Ll tp lp;have hpos:0<(Ff p).natAbs:=by omega
 have h1:(1:Rat)<=((Ff p).natAbs:Rat):=by
  have:((1:Nat):Rat)<=((Ff p).natAbs:Rat):=Zi.2 hpos;exact this
 have hm0:(0:Rat)<=((QX (p.take (p.length-1)):Nat):Rat):=Xi;have hb:=PQ hl;have hx1:=Q8 hx (show (0:Rat)<=((Ff p).natAbs:Rat) by grind);have hx2:1<=Fa x:=by
  rcases Fv 1 (Fa x) with h | h
  ·exact h
  ·exfalso;have:=Vr h (show (0:Rat)<((Ff p).natAbs:Rat) by grind);grind
 have key:=mL (m:=QX (p.take (p.length-1))) hx2 p lp (λz hz=>Qi1 z hz) hl (by grind);obtain ⟨s,hs⟩:∃ s:Int,s=Int.sign (Ff p)*(if x<0/\p.length % 2=0 then -1 else 1):=⟨_,rfl⟩;rw [<-hs] at key;have hsv:s=1\/s=-1:=by
  rw [hs];rcases V8 hl with h | h
  ·rw [J3 h]; split <;> simp
  ·rw [Yt h]; split <;> simp
 have hsg:Hr p x=s/\1<=Fa (Uy p x):=by
  rw [Mk];rcases hsv with e | e
  ·rw [e] at key ⊢;have key:((Ff p).natAbs:Rat)<=Uy p x:=by simpa using key
   exact ⟨Hl.2 (by grind),by unfold Fa; rw [if_neg (by grind)]; grind⟩
  ·rw [e] at key ⊢;have key:((Ff p).natAbs:Rat)<=Uy p x*(-1):=by simpa using key
   exact ⟨So.2 (by grind),by unfold Fa; rw [if_pos (by grind)]; grind⟩
 refine ⟨hsg.2,λh=>?_,λh=>?_⟩
 ·rw [hsg.1,hs,if_neg λh'=>by have:=h'.1; grind]; unfold KF; omega
 ·rw [hsg.1,hs]; unfold QQ;by_cases he:p.length % 2=0
  ·rw [if_pos ⟨h,he⟩,if_pos he]; omega
  ·rw [if_neg λh'=>he h'.2,if_neg he]; omega
theorem ZA {f g:Ui->Int}:∀ {l:Uj} (s:Nat×Int),(∀ p∈l,f p=g p)->l.foldl (S6 f) s=l.foldl (S6 g) s
 | [],s,_=>rfl
 |
  p::l,s,h=>by
  simp only [Z7];have e:S6 f s p=S6 g s p:=by unfold S6; rw [h p (List.mem_cons_self ..)]
  rw [e]; exact ZA _ λq hq=>h q (Qg _ hq)
theorem mP:∀ (l:Uj),(∀ p∈l,U7 p/\p.length≠0)->∃ X:Rat,0<X/\∀ x,X≤x->(∀ p∈l,Hr p x=KF p)/\∀ p∈l,Hr p (-x)=QQ p
 | [],_=>⟨1,by decide,λx _=>⟨(λp hp=>by cases hp),(λp hp=>by cases hp)⟩⟩
 |
  p::l,h=>by
  obtain ⟨X,hX,hl⟩:=mP l λq hq=>h q (Qg _ hq)
  obtain ⟨tp,lp⟩:=h p (Qw ..);refine ⟨X+Fa (Gm p),by have:=Hj (Gm p); grind,λx hx=>?_⟩;have hb0:=Hj (Gm p);have hb1:Gm p<=Fa (Gm p):=by unfold Fa; split <;> grind
  obtain ⟨l1,l2⟩:=hl x (by grind);have e1:Fa x=x:=by unfold Fa; rw [if_neg (by grind)]
  have e2:Fa (-x)=x:=by rw [Lp,e1]
  refine ⟨λq hq=>?_,λq hq=>?_⟩
  ·rcases Qm.1 hq with rfl | hq
   ·exact (uP tp lp (x:=x) (by rw [e1]; grind)).2.1 (by grind)
   ·exact l1 q hq
  ·rcases Qm.1 hq with rfl | hq
   ·exact (uP tp lp (x:=-x) (by rw [e2]; grind)).2.2 (by grind)
   ·exact l2 q hq
theorem sW {q:Ui} {L:Um} (hS:UG (cz q) L) (tq:U7 q) (lq:q.length≠0) {x y:Rat} (hxy:x<y) (h:Gm q<=x\/y<=-Gm q) (hb:0<Gm q):vv L x=vv L y:=by
 rcases Classical.em (vv L x=vv L y) with e | e
 ·exact e
 ·exfalso;obtain ⟨r,r1,r2,r3⟩:=qI hS hxy e (d:=1) (by decide);have:=(uP tq lq (x:=r) (by rcases h with h | h <;> (unfold Fa; split <;> grind))).1;rw [U0] at r3; grind
theorem UP {p:Ui} (h:Ff p≠0):1<=Gm p:=by
 have hb:=PQ h;have hp:=nat_pos (show 0<(Ff p).natAbs by omega);have hm0:(0:Rat)<=((QX (p.take (p.length-1)):Nat):Rat):=Xi;rcases Fv 1 (Gm p) with h' | h'
 ·exact h'
 ·have:=Vr h' hp; grind
theorem aM {q:Ui} {l:Uj} (hS:UG (cz q) ((q::l).map cz)) (hl:∀ p∈q::l,U7 p/\p.length≠0):VY (q::l)=(vv ((q::l).map cz) (-Gm q):Int)-(vv ((q::l).map cz) (Gm q):Int):=by
 obtain ⟨tq,lq⟩:=hl q (Qw ..);have hb:=UP (Ll tq lq);obtain ⟨X,hX,hx⟩:=mP (q::l) hl;obtain ⟨h1,h2⟩:=hx (X+Gm q) (by grind);have e1:Bu KF (q::l)=vv ((q::l).map cz) (X+Gm q):=by
  rw [<-O0]; unfold Bv Bu;rw [ZA (f:=KF) (g:=λp=>Hr p (X+Gm q)) (0,0) λp hp=>(h1 p hp).symm]
 have e2:Bu QQ (q::l)=vv ((q::l).map cz) (-(X+Gm q)):=by
  rw [<-O0]; unfold Bv Bu;rw [ZA (f:=QQ) (g:=λp=>Hr p (-(X+Gm q))) (0,0) λp hp=>(h2 p hp).symm]
 unfold VY;rw [e1,e2,sW hS tq lq (x:=-(X+Gm q)) (y:=-Gm q) (by grind) (.inr Qp) (by grind),<-sW hS tq lq (x:=Gm q) (y:=X+Gm q) (by grind) (.inl Qp) (by grind)]
theorem Qoq {f:Ul} {L:Um} (hS:UG f L) {x y:Rat} (hxy:x<y) (hv:vv L y+2<=vv L x):∃ m,x<m/\m<y/\vv L m<vv L x/\vv L y<vv L m/\ev f m≠0:=by
 obtain ⟨R,hR,hx,hy⟩:=AM x y;obtain ⟨e,ep,he⟩:=Qf2 hS R hR;have key:∀ n:Nat,∀ x,Fa x<=R->x<y->vv L y+2<=vv L x->y-x<=(n:Rat)*e->∃ m,x<m/\m<y/\vv L m<vv L x/\vv L y<vv L m:=by
  intro n
  induction n with
  | zero=>intro x _ hxy _ hn; rw [show ((0:Nat):Rat)=0 from rfl] at hn; exfalso; clear he; grind
  |
   succ n ih =>
   intro x hx hxy hv hn;have hn':(((n+1:Nat):Rat))=(n:Rat)+1:=by push_cast; rfl
   rw [hn'] at hn;rcases Fv (y-x) e with h1 | h1
   ·have:=he x y hx hy hxy h1; omega
   ·have hm:Fa (x+e)<=R:=KC hx hy (by clear he ih; grind) (by clear he ih; grind);have h2:=he x (x+e) hx hm (by clear he ih; grind) (by clear he ih; grind);have h3:=E9 hS (show x<x+e by clear he ih; grind);by_cases h4:vv L x=vv L (x+e)
    ·obtain ⟨m,m1,m2,m3,m4⟩:=ih (x+e) hm (by clear he ih; grind) (by omega) (by clear he ih; grind);exact ⟨m,by clear he ih; grind,m2,by omega,m4⟩
    ·exact ⟨x+e,by clear he ih; grind,by clear he ih; grind,by omega,by omega⟩
 obtain ⟨n,hn⟩:=QW (z:=y-x) ep;obtain ⟨m,m1,m2,m3,m4⟩:=key n x hx hxy hv hn;rcases Classical.em (ev f m=0) with h0 | h0
 ·-- a little farther on
  obtain ⟨e2,e2p,hl⟩:=loc hR hS (w:=f) (u:=[1]) (λt=>by rw [Ro]; grind);obtain ⟨d,dp,d1,d2⟩:=min2 (a:=e2) (b:=(y-m) / 2) e2p (Ed (by clear he key hl; grind) (by decide));have h2:(y-m) / 2*2=y-m:=Gy (by decide);have hmR:Fa m<=R:=KC hx hy (Qq m1) (Qq m2);have hmR2:Fa (m+d)<=R:=KC hx hy (by clear he key hl; grind) (by clear he key hl; grind);rcases hl m (m+d) hmR hmR2 (by clear he key hl; grind) (by clear he key hl; grind) with ⟨p1,p2,_⟩ | ⟨_,p1,_,p3,_⟩
  ·refine ⟨m+d,by clear he key hl; grind,by clear he key hl; grind,by omega,by omega,λh'=>?_⟩;have:=p2.s;rw [Gd.2 h'] at this; exact p2.n this.symm
  ·rw [Gd.2 h0] at p3; exact absurd p3.symm p1
 ·exact ⟨m,m1,m2,m3,m4,h0⟩
theorem Qkm {q:Ui} {L:Um} (hS:UG (cz q) L) (tq:U7 q) (nq:q.length<=9) (lq:2<=q.length) {lo hi:Rat} (hl:lo<hi) (hv:vv L hi+2<=vv L lo):1<(hi-lo)*((2^(Te q q+1):Nat):Rat):=by
 rcases Fv ((hi-lo)*((2^(Te q q+1):Nat):Rat)) 1 with hw | hw
 ·exfalso;have hpow:(0:Rat)<=((2^(Te q q+1):Nat):Rat):=Xi;obtain ⟨m,m1,m2,m3,m4,m0⟩:=Qoq hS hl hv;obtain ⟨R,hR,r1,r2⟩:=AM lo hi;have hd:=Bm m0;obtain ⟨d,dp,_,db⟩:=G5 (b:=CJ R (cz q)) (d:=Fa (ev (cz q) m) / 2) (Mc hR _) (Ed hd (by decide));have hd2:Fa (ev (cz q) m) / 2*2=Fa (ev (cz q) m):=Gy (by decide);have hmR:Fa m<=R:=KC r1 r2 (Qq m1) (Qq m2);have hnear:∀ r,Fa r<=R->Fa (ev (cz q) r)<Fa (ev (cz q) m) / 2->d<Fa (r-m):=λr hr hs=>by
   rcases Fv (Fa (r-m)) d with h | h
   ·exfalso;have h1:=Pn (p:=cz q) hmR hr hR h db;have h2:=To (ev (cz q) m-ev (cz q) r) (ev (cz q) r);rw [show ev (cz q) m-ev (cz q) r+ev (cz q) r=ev (cz q) m by grind,cP] at h2;grind
   ·exact h
  refine Qcg (R:=R+1) (d:=d+d) tq tq nq nq lq lq (by grind) (by grind) λe ep=>?_
  obtain ⟨e',ep',e1,e2⟩:=min2 (a:=e) (b:=Fa (ev (cz q) m) / 2) ep (Ed hd (by decide));obtain ⟨x,x1,x2,x3⟩:=qI hS m1 (by omega) ep';obtain ⟨y,y1,y2,y3⟩:=qI hS m2 (by omega) ep';have hxR:Fa x<=R:=KC r1 r2 x1 (by grind);have hyR:Fa y<=R:=KC r1 r2 (by grind) y2;have nx:=hnear x hxR (by grind);have ny:=hnear y hyR (by grind);have ex:Fa (x-m)=m-x:=by unfold Fa; split <;> grind
  have ey:Fa (y-m)=y-m:=by unfold Fa; split <;> grind
  rw [ex] at nx;rw [ey] at ny;have exy:Fa (x-y)=y-x:=by unfold Fa; split <;> grind
  refine ⟨x,y,by grind,by grind,by rw [exy]; grind,?_,by rw [<-U0]; grind,by rw [<-U0]; grind⟩;rw [exy];exact Zh (Q8 (show y-x<=hi-lo by grind) hpow) hw
 ·exact hw
theorem Qbh:∀ {k:Nat} {a b:Ui} {l:Uj},wO k a b=some l->∀ p∈l,p.length≠0
 | 0,_,_,_,h=>by cases h
 |
  k+1,a,b,l,h=>by
  simp only [wO] at h
  split at h
  ·injection h with h; subst h; exact λp hp=>by cases hp
  ·rename_i h0;obtain ⟨r,_,h⟩:=Qd.1 h;obtain ⟨l',h1,h⟩:=Qd.1 h;injection h with h; subst h;intro p hp;rcases Qm.1 hp with rfl | hp
   ·exact h0
   ·exact Qbh h1 p hp
theorem Okp.pb {n s:Nat} {p:Ui} (h:Okp n s p) (hs:s<=16777216):Pb p:=⟨h.t,by have:=h.l; have:=h.z.1; omega,Uv h.b hs⟩
theorem lT {p:Ui} {q:Ui} {l:Uj} (hp:Pb p) (h:La p=some (q::l)) (hq:q.length≠0):∀ r∈q::l,U7 r/\r.length≠0:=by
 have h1:=(Orr.chain_ok hp h).2;unfold La at h;obtain ⟨a,_,h⟩:=Qd.1 h
 split at h
 ·cases h
 ·obtain ⟨d,_,h⟩:=Qd.1 h;obtain ⟨l',h3,h⟩:=Qd.1 h;injection h with h;injection h with e1 e2;subst e1; subst e2;intro r hr;refine ⟨(h1 r hr).t,?_⟩;rcases Qm.1 hr with rfl | hr
  ·exact hq
  ·exact Qbh h3 r hr
inductive RI (q:List Int) (L:List (List Rat)):Rat->List Tm->Rat->Prop
 | nil {lo hi:Rat} (h:lo<=hi) (hv:vv L lo=vv L hi):RI q L lo [] hi
 | cons {lo hi:Rat} {t:Tm} {l:List Tm} (h:lo<=t.lo) (hv:vv L lo=vv L t.lo) (ht:Vt (cz q) L t.lo t.hi) (hp:t.p=q) (hl:RI q L t.hi l hi):RI q L lo (t::l) hi
theorem RI.app {q:Ui} {L:Um} {lo m hi:Rat} {l l':List Tm} (h:RI q L lo l m) (h':RI q L m l' hi):RI q L lo (l++l') hi:=by
 induction h with
 |
  nil h hv =>
  cases h' with
  | nil h2 hv2=>exact .nil (by grind) (by omega)
  | cons h2 hv2 ht hp hl=>exact .cons (by grind) (by omega) ht hp hl
 | cons h hv ht hp _ ih=>exact .cons h hv ht hp (ih h')
theorem Qbk {D M k:Nat} {m:Rat} (h:Gr D M k m) (hM:0<M) (hs:U5 (D:Int)+U5 (M:Int)+k<=16777216):iW m=some m:=by
 have:=LO h hM hs;unfold iW;rw [if_pos ⟨this.1,this.2⟩]
theorem SQ {q:Ui} {c:Uj} (hS:UG (cz q) (c.map cz)) (tq:U7 q) (nq:q.length<=9) (hc1:q.length<2->c=[q]) {D M F:Nat} (hM:0<M):∀ (k j:Nat) (lo hi:Rat),lo<hi->Gr D M j lo->Gr D M j hi->U5 (D:Int)+U5 (M:Int)+(j+k)<=16777216->(hi-lo)*((2^(Te q q+1):Nat):Rat)<=((2^k:Nat):Rat) ->
 ∃ l,Aq q c (F+k+1) lo hi ((vv (c.map cz) lo:Int)-(vv (c.map cz) hi:Int))=some l/\RI q (c.map cz) lo l hi/\∀ t∈l,∃ k',k'≤j+k/\Gr D M k' t.lo/\Gr D M k' t.hi:=by
 intro k
 induction k with
 |
  zero =>
  intro j lo hi hl g1 g2 hs hK;have hle:=E9 hS hl;have h2:vv (c.map cz) lo<vv (c.map cz) hi+2:=by
   rcases Zd (vv (c.map cz) lo) (vv (c.map cz) hi+2) with h | h
   ·exact h
   ·exfalso;have lq:2<=q.length:=by
     rcases Zd q.length 2 with e | e
     ·have hvv:∀ x,vv (c.map cz) x=vv (c.map cz) 0:=λx=>by
       rcases hS with ⟨c0,hc0,hcc,hl'⟩ | ⟨g',l',k',hk,hg,hsc,hl'⟩
       ·rw [hl']; simp only [vv,tc,hcc]
       ·rw [hc1 e] at hl'; cases hl'
      rw [hvv lo,hvv hi] at h; omega
     ·exact e
    have:=Qkm hS tq nq lq hl h;rw [Ve] at hK;have h7:((1:Nat):Rat)=1:=rfl;rw [h7] at hK; grind
  simp only [Aq];by_cases e0:vv (c.map cz) lo=vv (c.map cz) hi
  ·rw [if_pos (by omega)];exact ⟨[],rfl,.nil (Qq hl) e0,λt ht=>by cases ht⟩
  ·rw [if_neg (by omega),if_pos (by omega)];refine ⟨[⟨q,lo,hi⟩],rfl,.cons Qp rfl ⟨hS,hl,by show vv _ lo=vv _ hi+1; omega⟩ rfl (.nil Qp rfl),λt ht=>?_⟩;rw [Qj.1 ht]; exact ⟨j,by omega,g1,g2⟩
 |
  succ k ih =>
  intro j lo hi hl g1 g2 hs hK;have hle:=E9 hS hl;show ∃ l,(if (vv (c.map cz) lo:Int)-(vv (c.map cz) hi:Int)=0 then some [] else if (vv (c.map cz) lo:Int)-(vv (c.map cz) hi:Int)=1 then some [⟨q,lo,hi⟩] else (iW (mid lo hi)).bind λm=>(Aq q c (F+k+1) lo m (Rx c lo m)).bind λl=>(Aq q c (F+k+1) m hi ((vv (c.map cz) lo:Int)-(vv (c.map cz) hi:Int)-Rx c lo m)).bind λr=>some (l++r))=some l/\_;by_cases e0:vv (c.map cz) lo=vv (c.map cz) hi
  ·rw [if_pos (by omega)];exact ⟨[],rfl,.nil (Qq hl) e0,λt ht=>by cases ht⟩
  by_cases e1:vv (c.map cz) lo=vv (c.map cz) hi+1
  ·rw [if_neg (by omega),if_pos (by omega)];refine ⟨[⟨q,lo,hi⟩],rfl,.cons Qp rfl ⟨hS,hl,e1⟩ rfl (.nil Qp rfl),λt ht=>?_⟩;rw [Qj.1 ht]; exact ⟨j,by omega,g1,g2⟩
  ·rw [if_neg (by omega),if_neg (by omega)];obtain ⟨m,hm⟩:=nmE ((lo+hi) / 2);have h2:(lo+hi) / 2*2=lo+hi:=Gy (by decide);rw [<-hm] at h2;have gm:Gr D M (j+1) m:=by rw [hm]; exact Qcv g1 g2
   have l1:lo<m:=by grind
   have l2:m<hi:=by grind
   rw [hZ,<-hm,Qbk gm hM (by omega)];show ∃ l,((Aq q c (F+k+1) lo m (Rx c lo m)).bind λl=>(Aq q c (F+k+1) m hi ((vv (c.map cz) lo:Int)-(vv (c.map cz) hi:Int)-Rx c lo m)).bind λr=>some (l++r))=some l/\_;rw [I7 (Qq l1),show (vv (c.map cz) lo:Int)-(vv (c.map cz) hi:Int)-((vv (c.map cz) lo:Int)-(vv (c.map cz) m:Int))=(vv (c.map cz) m:Int)-(vv (c.map cz) hi:Int) by omega];rw [vI k] at hK;have hp:∀ x y:Rat,(y-x)*2=hi-lo->(y-x)*((2^(Te q q+1):Nat):Rat)<=((2^k:Nat):Rat):=λx y h=>by
    have:(y-x)*((2^(Te q q+1):Nat):Rat)*2=(hi-lo)*((2^(Te q q+1):Nat):Rat):=by rw [<-h]; grind
    grind
   obtain ⟨la,a1,a2,a3⟩:=ih (j+1) lo m l1 (EQ g1) gm (by omega) (hp lo m (by grind));obtain ⟨lb,b1,b2,b3⟩:=ih (j+1) m hi l2 gm (EQ g2) (by omega) (hp m hi (by grind));rw [a1];show ∃ l,((Aq q c (F+k+1) m hi ((vv (c.map cz) m:Int)-(vv (c.map cz) hi:Int))).bind λr=>some (la++r))=some l/\_;rw [b1];refine ⟨la++lb,rfl,a2.app b2,λt ht=>?_⟩;rcases Qr.1 ht with ht | ht
   ·obtain ⟨k',h1,h2,h3⟩:=a3 t ht; exact ⟨k',by omega,h2,h3⟩
   ·obtain ⟨k',h1,h2,h3⟩:=b3 t ht; exact ⟨k',by omega,h2,h3⟩
theorem Qod {D M k:Nat} {q:Rat} (h:Gr D M k q):Gr D M k (-q):=by
 obtain ⟨u,hu⟩:=h.u;exact ⟨⟨-u,by rw [V6,<-hu]; grind⟩,by rw [Lp]; exact h.b,h.d⟩
theorem yU {m s:Nat} (h:m<2^s):U5 ((m+1:Nat):Int)<=s+1:=by
 rw [Tu,Xh,Zo]; omega
theorem eN {z:Int} {s:Nat} (h:U5 z<=s):U5 ((z.natAbs+1:Nat):Int)<=s+1:=yU (Tu.1 h)
theorem Qka {x:Rat} {m s g N:Nat} (hx:x<=2*((m+1:Nat):Rat)) (hm:m+1<=2^s) (hN:s+1+g<=N):x*((2^g:Nat):Rat)<=((2^N:Nat):Rat):=by
 have h3:=Zi.2 hm;have e:=vI s;have h4:(0:Rat)<=((2^s:Nat):Rat):=Xi;have h1:x<=((2^(s+1):Nat):Rat):=by rw [e]; grind
 have h5:(0:Rat)<=((2^g:Nat):Rat):=Xi;refine Zh (Q8 h1 h5) ?_;have h6:2^(s+1)*2^g<=2^N:=by
  rw [<-Xe]; exact Zt (by decide) hN
 have:=Zi.2 h6;rw [Rat.natCast_mul] at this;exact this
theorem Qg3 {s:Nat} {l:Ui} (h:Bd s l):QX l<2^s:=by
 have key:∀ (l:Ui) (m:Nat),m<2^s->Bd s l->l.foldl (λm z=>if m<z.natAbs then z.natAbs else m) m<2^s:=by
  intro l
  induction l with
  | nil=>exact λm h _=>h
  |
   cons y l ih =>
   intro m hm hb;simp only [Z7];refine ih _ ?_ λz hz=>hb z (Qg _ hz)
   have:=hb y (Qw ..);rw [Tu] at this
   split <;> assumption
 exact key l 0 (Z2 (by decide)) h
theorem Qnp {p q:Ui} (h:DG p=some q):q=p:=by
 unfold DG at h
 split at h
 ·injection h with h; exact h.symm
 ·cases h
theorem aN {s N:Nat} {p:Ui} (hNe:N=63*s+5160) (hs9:s≤1180) (h:Okp 9 s p):∃ q c l,Sv p=some q/\La p=some c/\HL p=some l/\UG (cz q) (c.map cz)/\RI q (c.map cz) (-Gm q) l (Gm q)/\(∀ t∈l,Va t)/\(∀ x y,x<y->Gm q≤x\/y≤-Gm q->vv (c.map cz) x=vv (c.map cz) y)/\q.length≤p.length/\∀ t∈l,t.p=q/\t.lo<t.hi/\Bd (s+69) q/\∃ D M k,Gr D M k t.lo/\Gr D M k t.hi/\0<M/\U5 (D:Int)≤s+69/\U5 (M:Int)≤s+70/\k≤N:=by
 obtain ⟨pp,hpl,hpb⟩:=h.pr;obtain ⟨g,q',hq',sq⟩:=XI h;obtain ⟨q,l,q1,q2,hS,hl0⟩:=chain_ok h;rw [hq'] at q1;injection q1 with q1;subst q1;have e1:∀ t,Uy (U9 p) t=Uy q' t*Uy g t:=λt=>by rw [sq.e]; grind
 obtain ⟨p1,p2⟩:=Rp pp.t pp.n e1;have hch:wO 66 q' (U9 (Gz q'))=some l:=by
  have h2:=q2;unfold La at h2;rw [hq'] at h2;simp only [X9] at h2
  split at h2
  ·cases h2
  ·cases hd:DG (Gz q') with
   | none=>rw [hd] at h2; cases h2
   |
    some d =>
    rw [hd] at h2;simp only [X9] at h2;obtain rfl:d=Gz q':=Qnp hd;cases hc:wO 66 q' (U9 (Gz q')) with
    | none=>rw [hc] at h2; cases h2
    | some l'=>rw [hc] at h2; simp at h2; rw [h2]
 have hll:=P0 sq.pq.t sq.pg.t pp.t e1 p1 p2;have hl9:=h.l;have bq:Bd (s+69) q':=QP hpb (by omega) pp.t sq.pq.t sq.pg.t pp.n e1;have hall:=lT (h.pb (by omega)) q2 sq.pq.n;have hld:Ff q'≠0:=by have:=sq.pq.l; omega
 have hb1:=UP hld;obtain ⟨D,hD⟩:=nmE ((Ff q').natAbs);obtain ⟨m,hm⟩:=nmE (QX (q'.take (q'.length-1)));have hm2:m<2^(s+69):=by rw [hm]; exact Qg3 (s:=s+69) λz hz=>bq z (Qn hz)
 have hD0:0<D:=by omega
 have hDs:U5 (D:Int)<=s+69:=by
  have:=Mf bq;rw [Tu] at this ⊢;rw [Xh,hD]; exact this
 have hbe:=PQ hld;rw [<-hD,<-hm] at hbe;have hDq:=nat_pos hD0;have hbm:Gm q'<=((m+1:Nat):Rat):=by
  have hD1:(1:Rat)<=(D:Rat):=by
   have:((1:Nat):Rat)<=(D:Rat):=Zi.2 hD0;exact this
  have hm0:(0:Rat)<=(m:Rat):=Xi;have h3:=Be (a:=(m:Rat)) (c:=1) hm0 Qp (by decide) hD1;rcases Fv (Gm q') ((m+1:Nat):Rat) with h' | h'
  ·exact h'
  ·exfalso;have:=Vr h' hDq
   push_cast at this; grind
 have gb:Gr D (m+1) 0 (Gm q'):=by
  refine ⟨⟨(D+m:Nat),?_⟩,?_,hD0⟩
  ·rw [Ve,Yv,hbe];rw [show ((((D+m:Nat):Int)):Rat)=((D+m:Nat):Rat) from rfl]; push_cast; rfl
  ·have:Fa (Gm q')=Gm q':=by unfold Fa; rw [if_neg (by grind)]
   rw [this]; exact hbm
 have hMs:U5 ((m+1:Nat):Int)<=s+69+1:=yU (s:=s+69) hm2;have hK:(Gm q' - -Gm q')*((2^(Te q' q'+1):Nat):Rat)<=((2^N:Nat):Rat):=by
  have hps:=Iv bq;have hg:Te q' q'<=(2*s+164)*31:=by
   unfold Te;exact Q7 (by omega) (by omega)
  exact Qka (s:=s+69) (g:=Te q' q'+1) (N:=N) (by grind) hm2 (by omega)
 have hN:U5 (D:Int)+U5 ((m+1:Nat):Int)+(0+N)<=16777216:=by omega
 obtain ⟨F,hFe⟩:=nmE (99999-N);obtain ⟨ls,r1,r2,r3⟩:=SQ (F:=F) hS sq.pq.t (by omega) (λh=>by rw [hl0 h]) (Wz m) N 0 (-Gm q') (Gm q') (by grind) (Qod gb) gb hN hK;rw [show F+N+1=100000 by omega] at r1;have hchq:iW (Gm q')=some (Gm q'):=Qbk gb (Wz m) (by omega);have key:∀ t∈ls,Va t/\t.p=q'/\t.lo<t.hi/\Bd (s+69) q'/\∃ D M k,Gr D M k t.lo/\Gr D M k t.hi/\0<M/\U5 (D:Int)≤s+69/\U5 (M:Int)≤s+70/\k≤N:=λt ht=>by
  obtain ⟨k',k1,k2,k3⟩:=r3 t ht;have hmem:∀ {lo hi:Rat} {ls:List Tm},RI q' ((q'::l).map cz) lo ls hi->t∈ls->Vt (cz q') ((q'::l).map cz) t.lo t.hi/\t.p=q':=λh=>by
   induction h with
   | nil=>intro ht; cases ht
   |
    cons h hv ht' hp hl ih =>
    intro ht;rcases Qm.1 ht with rfl | ht
    ·exact ⟨ht',hp⟩
    ·exact ih ht
  obtain ⟨v1,v2⟩:=hmem r2 ht;have lq2:2<=q'.length:=by
   rcases Zd q'.length 2 with e | e
   ·exfalso;have hvv:∀ x,vv ((q'::l).map cz) x=0:=λx=>by
     rw [hl0 e,sq.pq.one e];have hv1:∀ x:Rat,ev (cz [1]) x=1:=λx=>by rw [U0,Mr]
     simp only [Zz,Jc,vv,tc,hv1];have:U4 1=1:=by decide
     rw [this]; decide
    have:=v1.v;rw [hvv,hvv] at this; omega
   ·exact e
  exact ⟨⟨.inr ⟨_,by rw [v2]; exact v1⟩,by rw [v2]; exact sq.pq.t,by rw [v2]; omega,by rw [v2]; exact lq2,by rw [v2]; exact Uv bq (by omega),λ_=>by rw [v2]; exact Uv bq (by omega),λ_=>by rw [v2]; exact ⟨l,_,g,hch,sq,v1⟩,D,m+1,k',k2,k3,Wz m,Qc (show _<=1000000 by omega) (Qoi t)⟩,v2,v1.l,bq,D,m+1,k',k2,k3,Wz m,hDs,Qc hMs (Ql (s+70)),by rw [Zv] at k1; exact k1⟩
 refine ⟨q',q'::l,ls,hq',q2,?_,hS,r2,λt ht=>(key t ht).1,λx y hxy hb=>sW hS sq.pq.t sq.pq.n hxy hb (by grind),by omega,λt ht=>(key t ht).2⟩
 ·unfold HL;rw [q2,hq'];show (iW (Gm q')).bind _=_;rw [hchq];simp only [X9];rw [aM hS hall];exact r1
theorem Qe0 {s:Nat} {p:Ui} (hs9:s≤1180) (h:Okp 9 s p):∃ q c l,Sv p=some q/\La p=some c/\HL p=some l/\UG (cz q) (c.map cz)/\RI q (c.map cz) (-Gm q) l (Gm q)/\(∀ t∈l,Va t)/\(∀ x y,x<y->Gm q≤x\/y≤-Gm q->vv (c.map cz) x=vv (c.map cz) y)/\q.length≤p.length/\∀ t∈l,t.p=q/\t.lo<t.hi/\Bd (s+69) q/\∃ D M k,Gr D M k t.lo/\Gr D M k t.hi/\0<M/\U5 (D:Int)≤s+69/\U5 (M:Int)≤s+70/\k≤63*s+5160:=aN rfl hs9 h
theorem Qez {p:Ui} (h:Okp 9 1180 p):∃ q c l,Sv p=some q/\La p=some c/\HL p=some l/\UG (cz q) (c.map cz)/\RI q (c.map cz) (-Gm q) l (Gm q)/\(∀ t∈l,Va t)/\(∀ x y,x<y->Gm q≤x\/y≤-Gm q->vv (c.map cz) x=vv (c.map cz) y):=by
 obtain ⟨q,c,l,h1,h2,h3,h4,h5,h6,h7,_⟩:=Qe0 (Ql _) h;exact ⟨q,c,l,h1,h2,h3,h4,h5,h6,h7⟩
theorem Li {q:Ui} {L:Um} (hS:UG (cz q) L) {c:Rat->Int} (hc:Cut c) {lo:Rat} (hH:∀ z,c z=-1->z<=lo->vv L z=vv L lo) {y0:Rat} (hy:c y0=-1) (hv:∀ z,lo<z->z<=y0->vv L z=vv L lo):∃ s,s≠0/\∀ z,c z=-1->z<=y0->U4 (ev (cz q) z)=s:=by
 have hall:∀ z,c z=-1->z<=y0->vv L z=vv L lo:=λz h1 h2=>by
  rcases Fv z lo with e | e
  ·exact hH z h1 e
  ·exact hv z e h2
 have hne:∀ z,c z=-1->z<=y0->U4 (ev (cz q) z)≠0:=λz h1 h2=>by
  obtain ⟨w,w1,w2⟩:=hc.dn z h1;have:=zK hS w1 (by rw [hall w w2 (by grind),hall z h1 h2]);rw [this.s]; exact this.n
 refine ⟨U4 (ev (cz q) y0),hne y0 hy Qp,λz h1 h2=>?_⟩;rcases Classical.em (z=y0) with e | e
 ·rw [e]
 ·have:=zK hS (x:=z) (y:=y0) (by grind) (by rw [hall z h1 h2,hall y0 hy Qp]);rw [this.s,Er (hne z h1 h2)]
structure Fst (o:List Int) (a t:Tm):Prop where
 lt:Mp a t
 s:∃ s,s≠0/\(∀ z,Fe a z=-1->Fe t z=1->U4 (ev (cz o) z)=s)/\RS (cz o) (Fe t) (-s)
def Non (o:Ui) (a:Tm):Prop:=∃ s,s≠0/\∀ z,Fe a z=-1->U4 (ev (cz o) z)=s
theorem aJ {q:Ui} {L:Um} (hS:UG (cz q) L) {a:Tm} (ha:Va a) {lo hi:Rat} {l:List Tm} (hR:RI q L lo l hi):(∀ t∈l,Va t)->(∀ z,hi<z->vv L z=vv L hi)->(∀ z,Fe a z=-1->z≤lo->vv L z=vv L lo)->∃ r,JC a l=some r/\match r with
 | none=>Non q a
 | some t=>t∈l/\Fst q a t:=by
 have ca:=ha.cut
 induction hR with
 |
  @nil lo hi h hv =>
  intro _ hhi hH;refine ⟨none,rfl,?_⟩;obtain ⟨y1,hy1⟩:=ca.hi;have hall:∀ z,lo<z->vv L z=vv L lo:=λz hz=>by
   rcases Fv z hi with e | e
   ·have h1:=E9 hS hz;have h2:vv L hi<=vv L z:=by
     rcases Classical.em (z=hi) with e' | e'
     ·rw [e']; exact Ql _
     ·exact E9 hS (by grind)
    omega
   ·rw [hhi z e,hv]
  obtain ⟨s,s0,hs⟩:=Li hS ca hH hy1 λz h1 _=>hall z h1
  refine ⟨s,s0,λz hz=>?_⟩;rcases Fv z y1 with e | e
  ·exact hs z hz e
  ·obtain ⟨s',s0',hs'⟩:=Li hS ca hH hz λz h1 _=>hall z h1
   rw [hs' z hz Qp,<-hs' y1 hy1 (Qq e),hs y1 hy1 Qp]
 |
  @cons lo hi t l h hv ht hp hl ih =>
  intro hV hhi hH;have hvt:=hV t (Qw ..);have ct:=hvt.cut;have ht':=ht;rw [<-hp] at ht';have ect:∀ z,Fe t z=cq (cz t.p) t.lo t.hi z:=Ny ht.l;obtain ⟨c,c1,c2⟩:=KX hvt ha;show ∃ r,((KZ t a).bind λc=>if 0<c then some (some t) else JC a l)=some r/\_;rw [c1];show ∃ r,(if 0<c then some (some t) else JC a l)=some r/\_;have hlo1:Fe t t.lo=1:=by rw [ect]; exact Ec Qp
  have hlow:∀ z,lo<z->Fe t z=1->vv L z=vv L lo:=λz h1 h2=>by
   rcases Fv z t.lo with e | e
   ·have a1:=E9 hS h1;have a2:vv L t.lo<=vv L z:=by
     rcases Classical.em (z=t.lo) with e' | e'
     ·rw [e']; exact Ql _
     ·exact E9 hS (by grind)
    omega
   ·rw [ect] at h2;have hz:z<=t.hi:=by
     rcases Fv z t.hi with e' | e'
     ·exact e'
     ·rw [KJ ht.l e'] at h2; omega
    rw [ht'.eq_lo e hz h2,hv]
  by_cases hc:0<c
  ·rw [if_pos hc];refine ⟨some t,rfl,Qw ..,?_⟩;have hlt:Mp a t:=by
    rcases c2 with ⟨e,_⟩ | ⟨e,_⟩ | ⟨_,h⟩
    ·omega
    ·omega
    ·exact h
   refine ⟨hlt,?_⟩;obtain ⟨m,m1,m2⟩:=hlt;obtain ⟨s,s0,hs⟩:=Li hS ca hH m1 λz h1 h2=>hlow z h1 (by
    rcases Classical.em (z=m) with e | e
    ·rw [e]; exact m2
    ·exact ct.mono' (q:=z) (r:=m) (by grind) (by omega))
   have hall:∀ z,Fe a z=-1->Fe t z=1->U4 (ev (cz q) z)=s:=λz h1 h2=>by
    rcases Fv z m with e | e
    ·exact hs z h1 e
    ·obtain ⟨s',s0',hs'⟩:=Li hS ca hH h1 λw w1 w2=>hlow w w1 (by
      rcases Classical.em (w=z) with e | e
      ·rw [e]; exact h2
      ·exact ct.mono' (q:=w) (r:=z) (by grind) (by omega))
     rw [hs' z h1 Qp,<-hs' m m1 (Qq e),hs m m1 Qp]
   refine ⟨s,s0,hall,?_⟩;obtain ⟨w,w1,w2,w3⟩:=PL ct m2 hlo1;have hwa:Fe a w=-1:=ca.mono m w w2 (by omega);have hsw:=hall w hwa w1;have hwh:w<t.hi:=by
    rw [ect] at w1;rcases Fv t.hi w with e | e
    ·have:=ht'.hi1;rcases Classical.em (t.hi=w) with e' | e'
     ·rw [<-e'] at w1; exact absurd w1 this
     ·rw [KJ ht.l (by grind)] at w1; omega
    ·exact e
   have hww:vv L w=vv L t.lo:=ht'.eq_lo w3 (Qq hwh) (by rw [<-ect]; exact w1);have hvv:=ht.v;have hone:=zV hS hwh (by omega);have hlw:S4 (cz q) w=s:=by rw [Er (by rw [hsw]; exact s0),hsw]
   rw [hlw] at hone;have hd:∀ z,w<z->z<=t.hi->Fe t z=-1->U4 (ev (cz q) z)=-s:=λz z1 z2 z3=>by
    rw [ect] at z3;have e1:=ht'.eq_hi (by grind) z2 (by omega);have e2:=zV hS z1 (by omega);rw [hlw] at e2;have hz0:U4 (ev (cz q) z)≠0:=by
     rw [Au (by grind) z2,hp] at z3;intro h0;rw [if_pos h0] at z3; omega
    rw [Er hz0] at e2; exact e2.2
   rcases ct.val t.hi with e | e | e
   ·rw [ect] at e; exact absurd e ht'.hi1
   ·obtain ⟨d,dp,hd'⟩:=Qrk (p:=cz q) (x:=t.hi) (by rw [hone.2]; omega);refine ⟨t.hi+d,ct.mono t.hi _ (by grind) (by omega),λz h1 h2=>?_⟩;have hz:t.hi<z:=by
     rcases Fv z t.hi with e' | e'
     ·rcases Classical.em (z=t.hi) with e'' | e''
      ·rw [e''] at h1; omega
      ·have:=ct.mono z t.hi (by grind) (by omega); omega
     ·exact e'
    rw [hd' z hz (by grind),hone.2]
   ·exact ⟨t.hi,e,λz h1 h2=>hd z (ct.lt w1 h1) h2 h1⟩
  ·rw [if_neg hc];have hle:¬Mp a t:=λh=>by
    rcases c2 with ⟨e,h'⟩ | ⟨e,h'⟩ | ⟨e,_⟩
    ·exact Aw ct ca h' h
    ·obtain ⟨z,z1,z2⟩:=h;have:=h' z; omega
    ·omega
   obtain ⟨r,r1,r2⟩:=ih (λx hx=>hV x (Qg _ hx)) hhi λz z1 z2=>by
    have hz:Fe t z≠1:=λh=>hle ⟨z,z1,h⟩
    have hzl:t.lo<z:=by
     rcases Fv z t.lo with e | e
     ·refine absurd ?_ hz;rw [ect]; exact Ec e
     ·exact e
    exact ht'.eq_hi hzl z2 (by rw [<-ect]; exact hz)
   refine ⟨r,r1,?_⟩;cases r with
   | none=>exact r2
   | some x=>exact ⟨Qg _ r2.1,r2.2⟩
theorem Ql9 {c:Rat->Int} (hc:Cut c):∀ (n:Nat) (f:Ul),HD f n->∃ s,s≠0/\RS f c s
 |
  n,f,h=>by
  rcases ZO hc f with hv | ⟨s,hs,hn⟩
  ·cases n with
   |
    zero =>
    exfalso;obtain ⟨q,hq,_⟩:=vJ hc (hv (Fa (f.getD 0 0)) (Bm h.1));cases f with
    | nil=>exact h.1 (by simp)
    |
     cons a l =>
     have:=Da (p:=l) λk=>by have:=h.2 (k+1) (by omega); rwa [Q3] at this
     simp only [ev,this,Zr] at hq; grind
   |
    succ n =>
    have hd:HD (M6 f) n:=by
     have key:∀ (f:Ul) (k:Nat),(M6 f).getD k 0=((k+1:Nat):Rat)*f.getD (k+1) 0:=by
      intro f
      induction f with
      | nil=>intro k; simp only [M6,Km]; grind
      |
       cons a f ih =>
       intro k;simp only [M6];rw [Hz,Q3];cases k with
       | zero=>rw [Zr]; push_cast; grind
       | succ k=>rw [Q3,ih]; push_cast; grind
     refine ⟨λh0=>?_,λk hk=>by rw [key,h.2 (k+1) (by omega)]; grind⟩;rw [key] at h0;rcases X7.1 h0 with h1 | h1
     ·have:=nat_pos (show 0<n+1 by omega); grind
     ·exact h.1 h1
    obtain ⟨s,hs,h1⟩:=Ql9 hc n (M6 f) hd;exact ⟨s,hs,qS hc hv h1 hs⟩
  ·exact ⟨s,hs,EI hc hn⟩
theorem Qe2 {c:Rat->Int} (hc:Cut c) {f p q:Ul} {s s':Int} (hf:∀ t,ev f t=ev p t*ev q t) (h:RS p c s) (h':RS q c s'):RS f c (s*s'):=by
 obtain ⟨y,h1,h2⟩:=h;obtain ⟨y',h3,h4⟩:=h';refine ⟨if y<=y' then y else y',by split <;> assumption,λz z1 z2=>?_⟩;rw [hf,Tr,h2 z z1 (by clear h2 h4; grind),h4 z z1 (by clear h2 h4; grind)]
theorem Qe3 {c:Rat->Int} (hc:Cut c) {f o S:Ul} {k:Rat} (hk:k≠0) (hf:∀ t,ev f t=k*(ev o t*(ev S t*ev S t))) (hnz:¬∀ t,ev f t=0) {s:Int} (h:RS o c s):RS f c (U4 k*s):=by
 obtain ⟨n,_,hn⟩:∃ n,n<S.length/\HD S n:=by
  rcases ME S with h1 | h1
  ·exact absurd (λt=>by rw [hf,h1]; grind) hnz
  ·exact h1
 obtain ⟨s',hs',h'⟩:=Ql9 hc n S hn;have h1:=Qe2 hc (f:=Gt S S) (λt=>U8 t _ _) h' h';have h2:=Qe2 hc (f:=Gt o (Gt S S)) (λt=>U8 t _ _) h h1;have hsq:s'*s'=1:=by
  obtain ⟨y,y1,y2⟩:=h';have:=y2 y y1 Qp;rcases Fi (ev S y) with ⟨e,_⟩ | ⟨e,_⟩ | ⟨e,_⟩
  ·rw [<-this,e]; rfl
  ·omega
  ·rw [<-this,e]; rfl
 rw [hsq,Int.mul_one] at h2;obtain ⟨y,y1,y2⟩:=h2;exact ⟨y,y1,λz z1 z2=>by
  have:=y2 z z1 z2;rw [U8,U8] at this;rw [hf,Tr,this]⟩
structure Cp (p:List Int):Prop where
 t:U7 p
 l:p.length<=9
 b:Bd 1110 p
theorem Cp.dp {p:Ui} (h:Cp p):Dp p:=⟨h.t,h.l,Uv h.b (by omega)⟩
theorem Cp.ok {p:Ui} (h:Cp p) (h0:p.length≠0):Okp 9 1180 p:=h.dp.ok h0
def Leq (a:Tm) (c:Rat->Int):Prop:=∀ q,c q=-1->Fe a q=-1
def P9 (p:Ui) (a:Tm):Option Tm->Prop
 | none=>p=[]\/∃ s,s≠0/\∀ c,Cut c->Leq a c->RS (cz p) c s
 | some t=>p≠[]/\Va t/\Mp a t/\∃ s,s≠0/\(∀ c,Cut c->Leq a c->(∃ m,c m=-1/\Fe t m=1)->RS (cz p) c s)/\RS (cz p) (Fe t) (-s)
theorem RI.len {q:Ui} {L:Um} {lo hi:Rat} {l:List Tm} (h:RI q L lo l hi):l.length+vv L hi<=vv L lo:=by
 induction h with
 | nil h hv=>simp; omega
 | cons h hv ht hp hl ih=>have:=ht.v; simp only [Q4]; omega
theorem Qfu (x:Rat):∀ (L:Um) (s:Int),tc x s L<=L.length
 | [],_=>Ql _
 |
  f::l,s=>by
  have h1:=Qfu x l;simp only [tc,Q4]
  repeat' split
  all_goals (first | (have:=h1 s; omega) | (have:=h1 (U4 (ev f x)); omega))
theorem Qp7 (L:Um) (x:Rat):vv L x<=L.length:=Qfu x L 0
theorem ZI {p:Ui} (h:Cp p):∃ l,VG p=some l/\l.length≤67/\(∀ t∈l,Va t)/\∀ a,Va a->∃ r,JC a l=some r/\P9 p a r/\∀ t,r=some t->t∈l:=by
 unfold VG;by_cases h0:p.length=0
 ·have e:p=[]:=Qh h0;subst e;exact ⟨[],rfl,by decide,(λt ht=>by cases ht),λa _=>⟨none,rfl,.inl rfl,λt ht=>by cases ht⟩⟩
 ·obtain ⟨qp,o,q1,o1,hpt⟩:=Qd1 (n:=9) (s:=1110) (p:=p) ⟨⟨by decide,by decide⟩,h.t,h0,h.l,h.b⟩;obtain ⟨g,sq⟩:=hpt.sq;obtain ⟨S,hS⟩:=hpt.os;obtain ⟨p1,p2,p3,p4,p5,p6,p7⟩:=Bj h.t h0;have hpl:=h.l;obtain ⟨hh,th,eh⟩:=hpt.oh;have bo:Bd 1179 o:=QP (p5 1110 h.b) (by omega) p1 hpt.ot th (by omega) eh;obtain ⟨lo1,lo2⟩:=Rp p1 (by omega) eh;have hlen:=P0 hpt.ot th p1 eh lo1 lo2;have oko:Okp 9 1180 o:=⟨bG,hpt.ot,by omega,by omega,Uv bo (by omega)⟩;obtain ⟨q,c,l,r1,r2,r3,hSt,hRI,hVa,hout⟩:=Qez oko;obtain ⟨g',q',s1,s2⟩:=XI oko;rw [r1] at s1;injection s1 with s1;subst s1;obtain ⟨_,_,_,_,_,o6,o7⟩:=Bj hpt.ot (by omega);have hg1:g'=[1]:=by
   refine s2.pg.one ?_;obtain ⟨E,hE⟩:=hpt.oq;have hE:∀ t,Uy qp t=Uy o t*ev E t:=λt=>by have:=hE t; rwa [U0,U0] at this
   obtain ⟨z,hz⟩:=s2.d;have hd1:∀ t,Uy o t=Uy g' t*(He o*Uy q t):=λt=>by rw [o7,s2.e]; grind
   have hdo:∀ t,dv (cz o) t=Uy g' t*(He o*ev z t):=λt=>by
    have:=Qb1 (p:=cz o) (q:=C0 (He o) (cz (U9 o))) (λt=>by rw [U0,Gh,U0,o7]) t;rw [this,FZ,hz]; grind
   obtain ⟨k,hk,hkk⟩:=sq.num (d:=cz g') ⟨Gt (C0 (He o) (cz q)) E,λt=>by rw [U0,U0,hE,hd1,U8,Gh,U0]; grind⟩ ⟨Tp (Gt (C0 (He o) z) E) (Gt (C0 (He o) (cz q)) (M6 E)),λt=>by
    have:=Oh (f:=cz qp) (w:=cz o) (u:=E) (λt=>by rw [U0,U0,hE]) t;rw [Ry,this,hdo,U0,U0,hd1,Gp,U8,U8,Gh,Gh,Ry,U0]; grind⟩
   rcases Zd g'.length 2 with e | e
   ·exact e
   ·exfalso;have h1:=(HF s2.pg.t (by omega)).1;have h2:=Cv (p:=cz g') (q:=[k]) (λt=>by rw [hkk]; simp only [ev]; grind) (g'.length-1);rw [h2,Qk,Qz (by simp; omega)] at h1;exact h1 rfl
  have hpq:∀ t,ev (cz p) t=((He p:Rat)*(He o:Rat))*(ev (cz q) t*(ev S t*ev S t)):=λt=>by
   rw [U0,U0,p7,hS,o7,s2.e,hg1,Mr]; grind
  have hk0:(He p:Rat)*(He o:Rat)≠0:=λh=>(X7.1 h).elim (QD p6) (QD o6)
  have hpz:¬∀ t,ev (cz p) t=0:=λh'=>HY h.t (by omega) λt=>by rw [<-U0]; exact h' t
  obtain ⟨k,hk⟩:=nmE (U4 ((He p:Rat)*(He o:Rat)));have hkn:k≠0:=λh=>hk0 (Gd.1 (by rw [<-hk]; exact h))
  have ho:o.length≠0:=by omega
  rw [o1];show ∃ l,(if o.length=0 then some [] else HL o)=some l/\l.length<=67/\_;rw [if_neg ho];have hb1:=UP (Ll s2.pq.t s2.pq.n);have hll:=hRI.len;have hlv:=Qp7 (c.map cz) (-Gm q);have hcl:=(Orr.chain_ok (p:=o) ⟨hpt.ot,by omega,Uv bo (by omega)⟩ r2).1;rw [Zl] at hlv;refine ⟨l,r3,by omega,hVa,λa ha=>?_⟩;obtain ⟨r,n1,n2⟩:=aJ hSt ha hRI hVa (λz hz=>(hout _ _ hz (.inl Qp)).symm) λz _ hz=>by
   rcases Classical.em (z=-Gm q) with e | e
   ·rw [e]
   ·exact hout z _ (by grind) (.inr Qp)
  refine ⟨r,n1,?_,λt ht=>by subst ht; exact n2.1⟩;cases r with
  |
   none =>
   obtain ⟨s,hs,hz⟩:=n2;refine .inr ⟨k*s,Yz hkn hs,λc hc hac=>?_⟩;obtain ⟨y,hy⟩:=hc.hi;have h1:RS (cz q) c s:=⟨y,hy,λz z1 _=>hz z (hac z z1)⟩;rw [hk]; exact Qe3 hc hk0 hpq hpz h1
  |
   some t =>
   obtain ⟨hm,hlt,s,hs,hz,hrs⟩:=n2;refine ⟨λe=>h0 (by rw [e]; rfl),hVa t hm,hlt,k*s,Yz hkn hs,λc hc hac ⟨m,m1,m2⟩=>?_,?_⟩
   ·have h1:RS (cz q) c s:=⟨m,m1,λz z1 z2=>hz z (hac z z1) (by
     rcases Classical.em (z=m) with e | e
     ·rw [e]; exact m2
     ·exact (hVa t hm).cut.mono' (q:=z) (r:=m) (by grind) (by omega))⟩
    rw [hk]; exact Qe3 hc hk0 hpq hpz h1
   ·have:=Qe3 (hVa t hm).cut hk0 hpq hpz hrs;rw [<-hk] at this;rw [show -(k*s)=k*-s by rw [Ki]]; exact this
structure Sz (s n:Nat) (t:Tm):Prop where
 n:t.p.length<=n
 b:Bd (s+138) t.p
 g:∃ D M k,Gr D M k t.lo/\Gr D M k t.hi/\0<M/\U5 (D:Int)<=s+138/\U5 (M:Int)<=s+139/\k<=63*s+9507
theorem Qdv {p:Ui} (h:Cp p) {a:Tm} (ha:Va a):∃ r,HT p a=some r/\P9 p a r:=by
 obtain ⟨l,l1,_,_,l3⟩:=ZI h;obtain ⟨r,r1,r2,_⟩:=l3 a ha;refine ⟨r,?_,r2⟩;unfold HT;rw [l1]; exact r1
theorem FP:∀ (l:List Tm) (b:Tm),(∀ t∈b::l,Va t)->∃ m,Oo b l=some m/\m∈b::l/\∀ t∈b::l,¬Mp t m
 |
  [],b,h=>⟨b,rfl,Qw ..,λt ht h'=>by
  rw [Qj.1 ht] at h';have hb:=(h b (Qw ..)).cut;exact Aw hb hb h' h'⟩
 |
  a::l,b,h=>by
  have ha:=h a (by simp);have hb:=h b (by simp);obtain ⟨c,c1,c2⟩:=KX ha hb;obtain ⟨m,m1,m2,m3⟩:=FP l (if c<0 then a else b) λt ht=>by
   rcases Qm.1 ht with rfl | ht
   ·split <;> assumption
   ·exact h t (by simp [ht])
  refine ⟨m,by simp only [Oo]; rw [c1]; exact m1,?_,λt ht=>?_⟩
  ·rcases Qm.1 m2 with e | e
   ·rw [e]; split <;> simp
   ·simp [e]
  ·have hm:Va m:=by
    rcases Qm.1 m2 with e | e
    ·rw [e]; split <;> assumption
    ·exact h m (by simp [e])
   have hfst:=m3 _ (Qw ..);have tr:∀ x y:Tm,Va x->Va y->¬Mp x y->¬Mp y m->¬Mp x m:=λx y hx hy h1 h2 h3=>by
    rcases tri hy.cut hm.cut with h4 | h4 | h4
    ·exact h2 h4
    ·obtain ⟨q,q1,q2⟩:=h3;exact h1 ⟨q,q1,by rw [h4]; exact q2⟩
    ·obtain ⟨q,q1,q2⟩:=h3;obtain ⟨r,r1,r2⟩:=h4;have:=hm.cut.lt q2 r1;exact h1 ⟨q,q1,hy.cut.mono' this (by omega)⟩
   rcases Qm.1 ht with rfl | ht
   ·by_cases hc:c<0
    ·rw [if_pos hc] at hfst;refine tr _ a hb ha ?_ hfst;rcases c2 with ⟨_,h'⟩ | ⟨e,_⟩ | ⟨e,_⟩
     ·exact λh''=>Aw ha.cut hb.cut h' h''
     ·omega
     ·omega
    ·rw [if_neg hc] at hfst; exact hfst
   ·rcases Qm.1 ht with rfl | ht
    ·by_cases hc:c<0
     ·rw [if_pos hc] at hfst; exact hfst
     ·rw [if_neg hc] at hfst;refine tr _ b ha hb ?_ hfst;rcases c2 with ⟨e,_⟩ | ⟨_,h'⟩ | ⟨_,h'⟩
      ·omega
      ·rintro ⟨q,q1,q2⟩
       have:=h' q; omega
      ·exact λh''=>Aw ha.cut hb.cut h'' h'
    ·exact m3 t (by simp [ht])
end Orq
namespace Orr
open Go Go.Proofs Tryz Orq
set_option maxRecDepth 10000
theorem Dp.pb {p:Ui} (h:Dp p):Pb p:=⟨h.t,by have:=h.l; omega,Uv h.b (by have:=h.l; omega)⟩
theorem Qq1 {p:Ui} {a:Tm} (hp:Dp p) (ha:Va a):Uf 214 [pr p,.agg (ta a)] [.oi (Fg a p)]:=Qg7 (Dp.pb hp) ha.tb (Qe7 hp ha).1
theorem Qqs {p:Ui} {a:Tm} (hp:Dp p) (ha:Va a):Uf 213 [pr p,.one (.sh (ta a))] [.oi (Fg a p)]:=Uc func213 rfl [.k (Qq1 hp ha)] rfl
theorem Qhy {p:Ui} {fid:Nat} {l1:Un} {sgn:Ui->Int} (hp:Dp p) (h:∀ p,Dp p->BI prog fid [pr p,.one (.sh l1)] [.oi (sgn p)]):Uf 212 [pr p,.one (.fn fid [] [.sh l1])] [.oi (Tc sgn p.length p)]:=by
 have hpb:=Dp.pb hp;refine Gb func212 rfl ?_;refine W9 [.k (Hd hpb.t hpb.ln hpb.bd)] rfl ?_;refine Ue (S:=Ui) 0 (λL1 s=>(0,.v (pr s))::L1) (λ_=>[]) (λs=>s.length) (λs=>Dp s/\Tc sgn s.length s=Tc sgn p.length p) p ⟨hp,rfl⟩ rfl rfl λr ⟨j1,j4⟩=>?_
 rw [<-j4];have jb:=Dp.pb j1;by_cases h0:r.length=0
 ·have e:=yX sgn h0;rw [e];exact Ub [.f (by simp; exact Qh h0)] rfl
 ·have hs:=h r j1;by_cases hz:sgn r=0
  ·have hlp:=De r;refine W9 [.t (by simp; omega),.k hs,.f (by simpa using hz),.k (A7 jb.ln jb.bd)] rfl ?_;exact rd (Gz r) (by omega) ⟨j1.der,by rw [<-yZ sgn (by omega) hz]⟩ rfl
  ·rw [yQ sgn (by omega) hz];exact Ub [.t (by simp; omega),.k hs,.t (by simpa using hz)] rfl
abbrev gmA (a:Tm) (p:Ui):Int:=G8 (Fg a) p
theorem HJ {p:Ui} {a:Tm} (hp:Dp p) (ha:Va a):Uf 172 [pr p,.agg (ta a)] [.oi (gmA a p)] :=
 Uc func172 rfl [.k (Qhy (sgn:=Fg a) hp λ_ h=>Qqs h ha)] rfl
theorem xA {t:Tm} {a b:Pt} {ps:Uj} (hps:∀ p∈ps,Dp p) (ht:Va t) (hl:ps.length<1000):Uf 247 [.agg (ta t),.agg (U3 a),.agg (U3 b),.one (.row (Sl ps))] [.one (.bool (D4 (Fg t) a b ps))]:=by
 refine Gb func247 rfl ?_;have hpl:(Sl ps).length=ps.length:=by simp [Sl]
 refine W9 [] rfl ?_;refine Ue (S:=Nat) 3 (λL1 i=>(13,.v (.oi i))::L1) (λ_=>[.blk 189 (ta t),.blk 41 (U3 a),.blk 41 (U3 b)]) (λi=>ps.length-i) (λi=>i<=ps.length/\D4 (Fg t) a b (ps.drop i)=D4 (Fg t) a b ps) 0 ⟨Qi _,rfl⟩ rfl rfl λi ⟨hi,he⟩=>?_
 rw [<-he];by_cases hlt:i<ps.length
 ·obtain ⟨p,hp⟩:=gxE (l:=ps) (i:=i) hlt;have hd:ps.drop i=p::ps.drop (i+1):=by
   rw [Zp hlt];rw [Qf hlt] at hp; injection hp with hp; rw [hp]
  have hpb:=hps p (Qa hp);rw [hd] at he ⊢;by_cases h0:0<p.length
  ·exact Ub [.t (by simp [hpl]; omega),.x (H5 hp),.t (by simp; omega),.k (HJ hpb ht)] rfl (by simp only [D4]; rw [if_pos h0]) trivial
  ·refine Ua [.t (by simp [hpl]; omega),.x (H5 hp),.f (by simp; exact Qh (by omega))] rfl ?_;exact rd (i+1) (by omega) ⟨hlt,by simp only [D4]; rw [if_neg h0]⟩ rfl
 ·have hd:ps.drop i=[]:=Yu (by omega);rw [hd];exact Ub [.f (by simp [hpl]; omega)] rfl
structure Sc (k:Crv):Prop where
 n:QK k
 c:Cs 128 3 k
theorem Sc.cb {k:Crv} (h:Sc k):Cb k:=h.c.mono (by omega) (by omega)
theorem Me {a b:Crv} (ha:Sc a) (hb:Sc b):Cp (Fz a b):=by
 refine ⟨Fq _ _,?_,Uv (Cn (Fp hb.c.x ha.c.d) (Fp ha.c.x hb.c.d)) (by omega)⟩;have:=Mg (Fl b.x a.d) (Fl a.x b.d);have:=Fh b.x a.d; have:=Fh a.x b.d; have:=ha.c.lx; have:=hb.c.lx;unfold Fz; omega
theorem Md {a b:Crv} (ha:Sc a) (hb:Sc b):Cp (Fy a b):=by
 refine ⟨Fq _ _,?_,Uv (Cn (Fp hb.c.y ha.c.d) (Fp ha.c.y hb.c.d)) (by omega)⟩;have:=Mg (Fl b.y a.d) (Fl a.y b.d);have:=Fh b.y a.d; have:=Fh a.y b.d; have:=ha.c.ly; have:=hb.c.ly;unfold Fy; omega
theorem Qg8 {a b:Pt} {t:Tm} (ha:Sc a.c) (hb:Sc b.c) (ht:Va t):Uf 204 [.agg (U3 a),.agg (U3 b),.agg (ta t)] [.one (.bool (Nt (Fg t) a b))] :=
 Uc func204 rfl [.k (VL hb.n ha.n hb.cb ha.cb),.k (VA hb.n ha.n hb.cb ha.cb),.k (xA (t:=t) (a:=a) (b:=b) (ps:=[Fy b.c a.c,Fz b.c a.c]) (λp hp=>by
  simp at hp;rcases hp with rfl | rfl
  ·exact (Md hb ha).dp
  ·exact (Me hb ha).dp) ht (show 2<1000 by decide))] rfl
theorem oZ {a b:Pt} {t:Tm} (ha:Sc a.c) (hb:Sc b.c) (ht:Va t):Uf 203 [.agg (U3 a),.agg (U3 b),.agg (ta t)] [.one (.bool (Rz (Fg t) a b))] :=
 Uc func203 rfl [.k (VA ha.n hb.n ha.cb hb.cb),.k (VL ha.n hb.n ha.cb hb.cb),.k (xA (t:=t) (a:=a) (b:=b) (ps:=[Fz a.c b.c,Fy a.c b.c]) (λp hp=>by
  simp at hp;rcases hp with rfl | rfl
  ·exact (Me ha hb).dp
  ·exact (Md ha hb).dp) ht (show 2<1000 by decide))] rfl
theorem Qmj (q:Rat) {P:Prop} (h:(tq q).point=false):P:=by
 have e:(tq q).point=true:=P5.2 Qp;rw [e] at h; cases h
theorem Qok (q:Rat):lim (tq q)=3300000:=by unfold lim; rw [if_pos (P5.2 Rat.le_refl)]
theorem CB {q:Rat} (hq:Qs 1640000 q):Va (tq q):=by
 have hd:=q.den_nz;refine ⟨.inl ⟨rfl,?_⟩,Qkk q,by show 2<=9; omega,by show 2<=2; omega,Qqn (hq.mono (by omega)),Qmj q,Qmj q,q.den,q.num.natAbs+1,0,?_,?_,by omega,?_⟩
 ·have e:(q.num:Rat)=q*(q.den:Rat):=by
   have:(q.num:Rat) / (((q.den:Int)):Rat)=q:=by rw [Hk,Xd]
   have h2:(q.num:Rat) / (q.den:Rat)*(q.den:Rat)=q.num:=Zc (by have:=Orq.nat_pos q.den_pos; grind);rw [show (q.num:Rat) / (q.den:Rat)=q from this] at h2; exact h2.symm
  show Uy [-q.num,(q.den:Int)] q=0;simp only [Uy];rw [V6,e,show (((q.den:Int)):Rat)=(q.den:Rat) from rfl]; grind
 all_goals first | (have h1:U5 (q.den:Int)<=1640000:=hq.2; have h2:U5 ((q.num.natAbs+1:Nat):Int)<=1640001:=eN hq.1; rw [Qok]; omega) | skip
 all_goals
  refine ⟨⟨q.num,?_⟩,?_,q.den_pos⟩
  ·rw [Ve,Yv];have:(q.num:Rat) / (((q.den:Int)):Rat)=q:=by rw [Hk,Xd]
   have h2:(q.num:Rat) / (q.den:Rat)*(q.den:Rat)=q.num:=Zc (by have:=Orq.nat_pos q.den_pos; grind);rw [show (q.num:Rat) / (q.den:Rat)=q from this] at h2; exact h2
  ·have h1:Fa q<=Fa (q.num:Rat):=by
    have e:(q.num:Rat)=q*(q.den:Rat):=by
     have:(q.num:Rat) / (((q.den:Int)):Rat)=q:=by rw [Hk,Xd]
     have h2:(q.num:Rat) / (q.den:Rat)*(q.den:Rat)=q.num:=Zc (by have:=Orq.nat_pos q.den_pos; grind);rw [show (q.num:Rat) / (q.den:Rat)=q from this] at h2; exact h2.symm
    rw [e,Ap];have hd1:(1:Rat)<=(q.den:Rat):=by
     have:((1:Nat):Rat)<=(q.den:Rat):=Zi.2 q.den_pos;exact this
    have e2:Fa (q.den:Rat)=(q.den:Rat):=by unfold Fa; rw [if_neg (by grind)]
    rw [e2];have:=Be (a:=Fa q) (c:=1) (Hj q) Qp (by decide) hd1;grind
   rw [Tv] at h1;refine Zh h1 (Zi.2 (by omega))
theorem XU {p q:Ui} (hp:Cp p) (hq:Cp q):Cp (Dx p q):=by unfold Dx; split <;> assumption
theorem sO {a b:Pt} {t:Tm} (ha:Sc a.c) (hb:Sc b.c) (ht:Va t):Uf 167 [.oi 1,.agg (ta t),.one (.row [U3 a,U3 b])] [.agg (D3 (Ow (Fg t) a b)),.oi 0]:=by
 have h1:=Me ha hb;have h2:=Md ha hb;refine Gb func167 rfl ?_;refine W9 [.k lU,.f rfl] rfl ?_;refine Ue (S:=Nat) 3 (λL1 i=>(22,.v (.oi i))::L1) (λi=>[.blk 189 (ta t),.blk 126 iK,.blk 126 [.int .i64 1,.int .i64 (if 1<=i then a.id else 0),.int .i64 (if 2<=i then b.id else 0),.int .i64 0,.int .i64 0,.nils,.int .i64 0]]) (λi=>2-i) (λi=>i<=2) 0 (Qi _) rfl rfl λi hi=>?_
 rcases (show i=0\/i=1\/i=2 by omega) with rfl | rfl | rfl
 ·refine W9 [.t rfl,.x (i:=0) (xs:=U3 a) rfl,.i 0] rfl ?_ (by simp [Uw]);exact rd 1 (by omega) (by omega) rfl
 ·refine W9 [.t rfl,.x (i:=1) (xs:=U3 b) rfl,.i 1] rfl ?_ (by simp [Uw]);exact rd 2 (by omega) (by omega) rfl
 ·exact Ub [.f rfl,.t rfl,.x (i:=0) (xs:=U3 a) rfl,.x (i:=1) (xs:=U3 b) rfl,.k (VA ha.n hb.n ha.cb hb.cb),.x (i:=0) (xs:=U3 a) rfl,.x (i:=1) (xs:=U3 b) rfl,.k (VL ha.n hb.n ha.cb hb.cb),.k xN,.k (HJ (XU h1 h2).dp ht)] rfl
end Orr
namespace Orr
variable {α:Type}
def D6 (lt:α->α->Bool) (out:List α) (x:α):Nat->Nat
 | 0=>0
 |
  k+1=>match out[k]? with
  | some y=>if lt x y=true then D6 lt out x k else k+1
  | none=>k+1
theorem qX (lt:α->α->Bool) (out:List α) (x:α):∀ k,D6 lt out x k<=k
 | 0=>Ql _
 |
  k+1=>by
  simp only [D6]
  split
  ·split
   ·exact Nat.le_succ_of_le (qX lt out x k)
   ·exact Ql _
  ·exact Ql _
theorem cZ {lt:α->α->Bool} {out:List α} {x y:α} {k:Nat} (hx:out[k]? = some y) (h:lt x y=true):D6 lt out x (k+1)=D6 lt out x k:=by
 simp only [D6,hx,h,if_true]
theorem vA {lt:α->α->Bool} {out:List α} {x y:α} {k:Nat} (hx:out[k]? = some y) (h:lt x y=false):D6 lt out x (k+1)=k+1:=by
 simp [D6,hx,h]
def Dy (lt:α->α->Bool) (out:List α) (x:α):List α:=out.take (D6 lt out x out.length)++x::out.drop (D6 lt out x out.length)
theorem Qc1 (lt:α->α->Bool) (out:List α) (x:α):(Dy lt out x).length=out.length+1:=by
 have:=qX lt out x out.length;simp [Dy]; omega
theorem KD {lt:α->α->Bool} {out:List α} {x y:α}:y∈Dy lt out x↔y=x\/y∈out:=by
 have h:y∈out↔y∈out.take (D6 lt out x out.length)\/y∈out.drop (D6 lt out x out.length):=by
  rw [<-Qr,Zf]
 simp only [Dy,Qr,Qm,h];constructor
 ·rintro (h | h | h)
  ·exact .inr (.inl h)
  ·exact .inl h
  ·exact .inr (.inr h)
 ·rintro (h | h | h)
  ·exact .inr (.inl h)
  ·exact .inl h
  ·exact .inr (.inr h)
def Lc (lt:α->α->Bool) (l:List α):List α:=l.foldl (Dy lt) []
theorem tN (lt:α->α->Bool) (l:List α) (x:α):Lc lt (l++[x])=Dy lt (Lc lt l) x:=by simp [Lc,Vn]
theorem tC {lt:α->α->Bool} {l:List α} {i:Nat} {x:α} (h:l[i]? = some x):Lc lt (l.take (i+1))=Dy lt (Lc lt (l.take i)) x:=by
 rw [Z5,h]; exact tN _ _ _
theorem MN (lt:α->α->Bool):∀ (l acc:List α),(l.foldl (Dy lt) acc).length=acc.length+l.length
 | [],acc=>by simp
 | c::l,acc=>by simp only [Z7]; rw [MN lt l (Dy lt acc c),Qc1]; simp; omega
theorem AX (lt:α->α->Bool) (l:List α):(Lc lt l).length=l.length:=by unfold Lc; rw [MN]; simp
theorem YT (lt:α->α->Bool):∀ (l acc:List α) {y:α},y∈l.foldl (Dy lt) acc↔y∈l\/y∈acc
 | [],acc,y=>by simp
 |
  c::l,acc,y=>by
  simp only [Z7];rw [YT lt l,KD,Qm];constructor
  ·rintro (h | h | h)
   ·exact .inl (.inr h)
   ·exact .inl (.inl h)
   ·exact .inr h
  ·rintro ((h | h) | h)
   ·exact .inr (.inl h)
   ·exact .inl h
   ·exact .inr (.inr h)
theorem aB {lt:α->α->Bool} {l:List α} {y:α}:y∈Lc lt l↔y∈l:=by
 unfold Lc; rw [YT]; simp
end Orr
namespace Orr
open Go Orq
structure Wt where
 c:Ct
 known:Bool
 fails:Option Tm
def f0:Option Tm->LV | none=>.row [] | some t=>pl t.p
def f1:Option Tm->LV | none=>.bool false | some t=>sg t.lo.num
def f2:Option Tm->LV | none=>.row [] | some t=>mg t.lo.num
def f3:Option Tm->LV | none=>.bool false | some t=>sg (t.lo.den:Int)
def f4:Option Tm->LV | none=>.row [] | some t=>mg (t.lo.den:Int)
def f5:Option Tm->LV | none=>.bool false | some t=>sg t.hi.num
def f6:Option Tm->LV | none=>.row [] | some t=>mg t.hi.num
def f7:Option Tm->LV | none=>.bool false | some t=>sg (t.hi.den:Int)
def f8:Option Tm->LV | none=>.row [] | some t=>mg (t.hi.den:Int)
abbrev fl (o:Option Tm):Un:=[f0 o,f1 o,f2 o,f3 o,f4 o,f5 o,f6 o,f7 o,f8 o]
abbrev wl (w:Wt):Un:=[.int .i64 w.c.kind,.int .i64 w.c.i0,.int .i64 w.c.i1,.int .i64 w.c.i2,.int .i64 w.c.i3,pl w.c.p,.int .i64 w.c.want,.bool w.known,.bool w.fails.isSome,f0 w.fails,f1 w.fails,f2 w.fails,f3 w.fails,f4 w.fails,f5 w.fails,f6 w.fails,f7 w.fails,f8 w.fails]
def B5 (l:List Wt):Uo:=l.map λw=>wl w
theorem Hn {l:List Wt} {i:Nat} {w:Wt} (h:l[i]? = some w):(B5 l)[i]? = some (wl w):=H9 h
theorem Ts (l:List Wt):(B5 l).length=l.length:=by simp [B5]
structure Cr where
 now:Tm
 l:List Wt
 ev:Int
abbrev Ho (c:Cr) (r0 r1:Uo):Un:=.bool true::pl c.now.p::sg c.now.lo.num::mg c.now.lo.num::sg (c.now.lo.den:Int)::mg (c.now.lo.den:Int)::sg c.now.hi.num::mg c.now.hi.num::sg (c.now.hi.den:Int)::mg (c.now.hi.den:Int)::.row (B5 c.l)::.int .i64 c.ev::[.row r0,.row r1]
structure WtOk (w:Wt):Prop where
 p:Cp w.c.p
 f:∀ t,w.fails=some t->Va t
structure CrOk (c:Cr):Prop where
 n:Va c.now
 l:∀ w∈c.l,WtOk w
 k:c.l.length<=1000
def kC (a b:Ct):Bool:=decide ([a.kind,a.i0,a.i1,a.i2,a.i3]=[b.kind,b.i0,b.i1,b.i2,b.i3])
def fresh (x:Ct):Wt:=⟨x,false,none⟩
def Ba:List Wt->Ct->Tm->Option Wt
 | [],x,_=>some (fresh x)
 |
  w::l,x,at_=>if kC w.c x=true/\w.known=true/\w.c.p=x.p then
   match w.fails with
   | none=>some ⟨x,true,none⟩
   | some t=>(KZ t at_).bind λc=>if 0<c then some ⟨x,true,some t⟩ else Ba l x at_
  else Ba l x at_
def Tz (old:List Wt) (at_:Tm):List Ct->Option (List Wt)
 | []=>some []
 | x::l=>(Ba old x at_).bind λw=>(Tz old at_ l).bind λr=>some (w::r)
end Orr
namespace Orr
open Go Go.Proofs Tryz Orq
set_option maxRecDepth 10000
theorem Oa {T:Nat} {c:Cr} {r0 r1:Uo} (hc:Va c.now):Uz prog 376 [.one (.ow 0 0)] [.blk T (Ho c r0 r1)] [.agg (ta c.now)] [.blk T (Ho c r0 r1)]:=by
 have cl:=Sj (b:=c.now) (l:=[]) hc.tb (λt ht=>by cases ht) (by decide) rfl;refine Gb func376 rfl ?_;exact Ud [] [0] [.f rfl,.k cl] rfl
theorem Qm7 {T:Nat} {c:Cr} {r0 r1:Uo} {x:Ct} {at_:Tm} {w:Wt} (hc:CrOk c) (hx:Cp x.p) (ha:Va at_) (h:Ba c.l x at_=some w):Uz prog 195 [.one (.ow 0 0),.agg (D3 x),.agg (ta at_)] [.blk T (Ho c r0 r1)] [.agg (wl w)] [.blk T (Ho c r0 r1)]:=by
 have hk:=hc.k;have hw:=Ts c.l;refine Gb func195 rfl ?_;refine W9 [] rfl ?_;refine Ue (S:=Nat) 4 (λL1 i=>(14,.v (.oi i))::L1) (λ_=>[.blk T (Ho c r0 r1),.blk 126 (D3 x),.blk 189 (ta at_),.blk 291 [.int .i64 0,.int .i64 0,.int .i64 0,.int .i64 0,.int .i64 0,.nils,.int .i64 0,.bool false,.bool false,.nils,.bool false,.nils,.bool false,.nils,.bool false,.nils,.bool false,.nils]]) (λi=>c.l.length-i) (λi=>i<=c.l.length/\Ba (c.l.drop i) x at_=some w) 0 ⟨Qi _,h⟩ rfl rfl λi ⟨hi,hf⟩=>?_
 by_cases hlt:i<c.l.length
 ·obtain ⟨v,hv⟩:=gxE (l:=c.l) (i:=i) hlt;have hdr:c.l.drop i=v::c.l.drop (i+1):=by
   rw [Zp hlt]; congr 1;have:=Qf hlt; rw [hv] at this; injection this with this; exact this.symm
  have hvo:=hc.l v (Qa hv);rw [hdr] at hf;simp only [Ba] at hf;have hl:decide ((i:Int)<((B5 c.l).length:Int))=true:=by simp [hw]; omega
  by_cases A:kC v.c x=true
  ·have A':(!decide ([v.c.kind,v.c.i0,v.c.i1,v.c.i2,v.c.i3]=[x.kind,x.i0,x.i1,x.i2,x.i3]))=false:=by
    unfold kC at A; rw [A]; rfl
   by_cases B:v.known=true
   ·have B':(!v.known)=false:=by rw [B]; rfl
    have cs:=RA (p:=v.c.p) (q:=x.p) (Dp.pb hvo.p.dp).ln (Dp.pb hx.dp).ln (Dp.pb hvo.p.dp).bd (Dp.pb hx.dp).bd;rw [hvo.p.t,hx.t] at cs;by_cases C:v.c.p=x.p
    ·have C':(!decide (v.c.p=x.p))=false:=by simp [C]
     rw [if_pos ⟨A,B,C⟩] at hf;obtain ⟨vc,vk,vf⟩:=v;cases vf with
     |
      none =>
      injection hf with hf; subst hf;exact Ud [] [0] [.t hl,.x (Hn hv),.g 24 false A',.g 29 false B',.k cs,.f C',.g 41 true rfl,.t rfl] rfl
     |
      some t =>
      obtain ⟨r,r1',hf⟩:=Qd.1 hf;have cc:=YZ (hvo.f t rfl).tb ha.tb r1';by_cases D:0<r
      ·rw [if_pos D] at hf;injection hf with hf; subst hf;exact Ud [] [0] [.t hl,.x (Hn hv),.g 24 false A',.g 29 false B',.k cs,.f C',.g 41 false rfl,.k cc,.t (by simpa using D)] rfl
      ·rw [if_neg D] at hf;refine Ua [.t hl,.x (Hn hv),.g 24 false A',.g 29 false B',.k cs,.f C',.g 41 false rfl,.k cc,.f (by simpa using D)] rfl ?_;exact rd (i+1) (by omega) ⟨hlt,hf⟩ rfl
    ·rw [if_neg λh=>C h.2.2] at hf;refine Ua [.t hl,.x (Hn hv),.g 24 false A',.g 29 false B',.k cs,.t (by simp [C])] rfl ?_;exact rd (i+1) (by omega) ⟨hlt,hf⟩ rfl
   ·rw [if_neg λh=>B h.2.1] at hf;refine Ua [.t hl,.x (Hn hv),.g 24 false A',.g 29 true (by simpa using B),.t rfl] rfl ?_;exact rd (i+1) (by omega) ⟨hlt,hf⟩ rfl
  ·rw [if_neg λh=>A h.1] at hf;refine Ua [.t hl,.x (Hn hv),.g 24 true (by rw [show decide ([v.c.kind,v.c.i0,v.c.i1,v.c.i2,v.c.i3]=[x.kind,x.i0,x.i1,x.i2,x.i3])=false from Wn.2 A]; rfl),.g 29 true rfl,.t rfl] rfl ?_;exact rd (i+1) (by omega) ⟨hlt,hf⟩ rfl
 ·obtain rfl:i=c.l.length:=by omega
  rw [Ys] at hf;simp only [Ba] at hf;injection hf with hf; subst hf;exact Ud [] [0] [.f (by simp [hw])] rfl
theorem QE {old:List Wt} {at_:Tm}:∀ {l:List Ct} {ws:List Wt},Tz old at_ l=some ws->ws.length=l.length/\∀ (i:Nat) (x:Ct),l[i]? = some x->∃ w,Ba old x at_=some w/\ws[i]? = some w
 | [],ws,h=>by injection h with h; subst h; exact ⟨rfl,λi x hx=>by simp at hx⟩
 |
  y::l,ws,h=>by
  simp only [Tz] at h;obtain ⟨w,hw,h⟩:=Qd.1 h;obtain ⟨r,hr,h⟩:=Qd.1 h;injection h with h; subst h;obtain ⟨a,b⟩:=QE hr;refine ⟨by simp [a],λi x hx=>?_⟩;cases i with
  | zero=>injection hx with hx; subst hx; exact ⟨w,hw,rfl⟩
  | succ i=>exact b i x (by simpa using hx)
theorem L9 {l:List Wt} {i:Nat} {w:Wt} (h:l[i]? = some w):B5 (l.take (i+1))=B5 (l.take i)++[wl w]:=by
 rw [Z5,h]; simp [B5]
theorem VE {T:Nat} {c:Cr} {r0 r1:Uo} {at_:Tm} {l:List Ct} {ws:List Wt} (hc:CrOk c) (ha:Va at_) (hl:∀ x∈l,Cp x.p) (hn:l.length≤1000) (h:Tz c.l at_ (Fj l)=some ws):Uz prog 161 [.one (.ow 0 0),.agg (ta at_),.one (.bool true),.one (.row (Fc l))] [.blk T (Ho c r0 r1)] [] [.blk T (Ho ⟨at_,ws,c.ev⟩ r0 r1)]:=by
 have cs:=IZ (l:=l) (λx hx=>Dp.pb (hl x hx).dp) (by omega);have cl:=Sj (b:=at_) (l:=[]) ha.tb (λt ht=>by cases ht) (by decide) rfl;obtain ⟨h1,h2⟩:=QE h;have hs:(Fj l).length=l.length:=Ck l;refine Gb func161 rfl ?_;refine W9 [.o 8 291 18,.k cs] rfl ?_;refine Ue (S:=Nat) 3 (λL1 i=>(15,.v (.oi i))::(8,.v (.one (.orow 2 18 none)))::L1) (λi=>[.blk T (Ho c r0 r1),.blk 189 (ta at_),.row false 291 18 (B5 (ws.take i))]) (λi=>ws.length-i) (λi=>i<=ws.length) 0 (Qi _) rfl rfl λi hi=>?_
 by_cases hlt:i<ws.length
 ·obtain ⟨x,hx⟩:=gxE (l:=(Fj l)) (i:=i) (by omega);obtain ⟨w,hw,hw'⟩:=h2 i x hx;have hm:∀ y∈[wl w],y.length=18:=λy hy=>by rw [Qj.1 hy]; rfl
  have hlt':decide ((i:Int)<((Fc (Fj l)).length:Int))=true:=by simp [Fc]; omega
  have ck:=Qm7 (T:=T) (r0:=r0) (r1:=r1) hc (hl x (XA (Qa hx))) ha hw;have hg:=L9 hw';obtain ⟨wc,wk,wf⟩:=w;cases wf <;> (refine go tt [.t hlt',.x (YF hx),.t rfl,.c [0] ck,.s (sz:=18) hm] rfl (by simp [Uw,Ts]; omega) ?_; exact rd (i+1) (by omega) hlt (by rw [hg]; rfl))
 ·obtain rfl:i=ws.length:=by omega
  rw [Q6];have hge:decide ((ws.length:Int)<((Fc (Fj l)).length:Int))=false:=by simp [Fc]; omega
  exact Ud [] [0] [.f hge,.p 2,.k cl] rfl
abbrev fU (r0 r1:LV):Un:=[.bool false,.nils,.bool false,.nils,.bool false,.nils,.bool false,.nils,.bool false,.nils,.nils,.int .i64 0,r0,r1]
theorem Qhe {T:Nat} {r0 r1:Uo} {at_:Tm} {l:List Ct} (ha:Va at_) (hl:∀ x∈l,Cp x.p) (hn:l.length≤1000):Uz prog 161 [.one (.ow 0 0),.agg (ta at_),.one (.bool false),.one (.row (Fc l))] [.blk T (fU (.row r0) (.row r1))] [] [.blk T (Ho ⟨at_,(Fj l).map fresh,0⟩ r0 r1)]:=by
 have cs:=IZ (l:=l) (λx hx=>Dp.pb (hl x hx).dp) (by omega);have cl:=Sj (b:=at_) (l:=[]) ha.tb (λt ht=>by cases ht) (by decide) rfl;have hs:(Fj l).length=l.length:=Ck l;refine Gb func161 rfl ?_;refine W9 [.o 8 291 18,.k cs] rfl ?_;refine Ue (S:=Nat) 3 (λL1 i=>(15,.v (.oi i))::(8,.v (.one (.orow 2 18 none)))::L1) (λi=>[.blk T (fU (.row r0) (.row r1)),.blk 189 (ta at_),.row false 291 18 (B5 (((Fj l).map fresh).take i))]) (λi=>l.length-i) (λi=>i<=l.length) 0 (Qi _) rfl rfl λi hi=>?_
 by_cases hlt:i<l.length
 ·obtain ⟨x,hx⟩:=gxE (l:=(Fj l)) (i:=i) (by omega);have hm:∀ y∈[wl (fresh x)],y.length=18:=λy hy=>by rw [Qj.1 hy]; rfl
  have hlt':decide ((i:Int)<((Fc (Fj l)).length:Int))=true:=by simp [Fc]; omega
  have hg:=L9 (l:=(Fj l).map fresh) (i:=i) (w:=fresh x) (by rw [Zw,hx]; rfl);refine go tt [.t hlt',.x (YF hx),.z 20,.f rfl,.s (sz:=18) hm] rfl (by simp [Uw,Ts]; omega) ?_;exact rd (i+1) (by omega) hlt (by rw [hg]; rfl)
 ·obtain rfl:i=l.length:=by omega
  rw [Qo (by simp; omega)];have hge:decide ((l.length:Int)<((Fc (Fj l)).length:Int))=false:=by simp [Fc]; omega
  exact Ud [] [0] [.f hge,.p 2,.k cl] rfl
theorem XZ {T:Nat} {r0 r1:Uo} {at_:Tm} {l:List Ct} (ha:Va at_) (hl:∀ x∈l,Cp x.p) (hn:l.length≤1000):Uz prog 121 [.one (.ow 0 0),.agg (ta at_),.one (.row (Fc l))] [.blk T (fU (.row r0) (.row r1))] [] [.blk T (Ho ⟨at_,(Fj l).map fresh,0⟩ r0 r1)]:=by
 have cl:=Qhe (T:=T) (r0:=r0) (r1:=r1) ha hl hn;refine Gb func121 rfl ?_;exact Ud [] [0] [.g 12 false rfl,.c [0] cl] rfl
theorem eB {a b:Bool} (h:a=b):TV.one (LV.bool a)=.one (.bool b):=h ▸ rfl
theorem XX {T:Nat} {c:Cr} {r0 r1:Uo} {at_:Tm} {l:List Ct} {ws:List Wt} {k:Int} (hc:CrOk c) (ha:Va at_) (hk:KZ at_ c.now=some k) (h0:0≤k) (hl:∀ x∈l,Cp x.p) (hn:l.length≤1000) (h:Tz c.l at_ (Fj l)=some ws):Uz prog 121 [.one (.ow 0 0),.agg (ta at_),.one (.row (Fc l))] [.blk T (Ho c r0 r1)] [] [.blk T (Ho ⟨at_,ws,c.ev⟩ r0 r1)]:=by
 have cl:=VE (T:=T) (r0:=r0) (r1:=r1) hc ha hl hn h;have cc:=YZ ha.tb hc.n.tb hk;refine Gb func121 rfl ?_;exact Ud [] [0] [.g 12 true rfl,.k cc,.r 20 (eB (show decide (0<=k)=true by simpa using h0)),.c [0] cl] rfl
abbrev tal (l:List Tm):Uo:=l.map λt=>ta t
theorem SQ {p:Ui} {c:Uj} (hp:Pb p):∀ {k:Nat} {lo hi:Rat} {n:Int} {r:List Tm},Qb lo->Qb hi->Aq p c k lo hi n=some r->∀ t∈r,Tb t
 | 0,_,_,_,_,_,_,h=>by cases h
 |
  k+1,lo,hi,n,r,hl,hh,h=>by
  simp only [Aq] at h
  split at h
  ·injection h with h; subst h; exact λt ht=>by cases ht
  ·split at h
   ·injection h with h; subst h;intro t ht; rw [Qj.1 ht]; exact ⟨hp,hl,hh⟩
   ·obtain ⟨m,hm,h⟩:=Qd.1 h;obtain ⟨rfl,qm⟩:=PP hm;obtain ⟨x,hx,h⟩:=Qd.1 h;obtain ⟨y,hy,h⟩:=Qd.1 h;injection h with h; subst h;intro t ht;rcases Qr.1 ht with ht | ht
    ·exact SQ hp hl qm hx t ht
    ·exact SQ hp qm hh hy t ht
theorem Qpz (l:List Tm):∀ c∈tal l,c.length=9:=λc hc=>by obtain ⟨t,_,rfl⟩:=Zg.1 hc; rfl
theorem fJ {p:Ui} {c:Uj} (hp:Pb p) (hcl:c.length≤1000) (hc:∀ q∈c,Pb q):∀ {k:Nat} {lo hi:Rat} {n:Int} {r:List Tm},Qb lo->Qb hi->k≤100000->-(1000*(100001-k:Nat))≤n/\n≤1000*(100001-k:Nat)->Aq p c k lo hi n=some r->r.length≤1000000->Uz prog 383 [pr p,.one (.sh [.row (Sl c)]),.agg (rl lo),.agg (rl hi),.oi n] [] [.one (.orow 0 9 none)] [.row false 189 9 (tal r)]
 | 0,_,_,_,_,_,_,_,_,h,_=>by cases h
 |
  k+1,lo,hi,n,r,hl,hh,hk,hn,h,hr=>by
  simp only [Aq] at h
  split at h
  ·rename_i h0;injection h with h; subst h;refine Gb func383 rfl ?_;exact Ud [] [2] [.t (by simpa using h0),.o 10 189 9] rfl
  ·rename_i h0
   split at h
   ·rename_i h1;injection h with h; subst h;refine Gb func383 rfl ?_;exact Ud [] [2] [.f (by simpa using h0),.t (by simpa using h1),.k (Hd hp.t hp.ln hp.bd),.k (Nw hl.s32),.k (Nw hh.s32),.lo] rfl
   ·rename_i h1;obtain ⟨m,hm,h⟩:=Qd.1 h;obtain ⟨rfl,qm⟩:=PP hm;obtain ⟨x,hx,h⟩:=Qd.1 h;obtain ⟨y,hy,h⟩:=Qd.1 h;injection h with h; subst h;have hb:=uS (l:=c) (lo:=lo) (hi:=mid lo hi) hcl;rw [Q0] at hr;have c1:=fJ hp hcl hc hl qm (by omega) (by omega) hx (by omega);have c2:=fJ hp hcl hc qm hh (by omega) (by omega) hy (by omega);rw [show tal (x++y)=tal x++tal y from Yd];refine Gb func383 rfl ?_;exact Ud [] [3] [.f (by simpa using h0),.f (by simpa using h1),.k (Qlc hl hh),.k (CO hcl hc hl qm),.c [3] c1,.c [4] c2,.s (Qpz y)] rfl (by simp [Uw]; omega)
theorem Qhl {p:Ui} {r:List Tm} (hp:Pb p) (h:HL p=some r) (hr:r.length<=1000000):Uf 380 [pr p] [.one (tas r),.oi 0]:=by
 unfold HL at h;obtain ⟨c,h1,h⟩:=Qd.1 h;obtain ⟨q,h2,h⟩:=Qd.1 h;obtain ⟨b,h3,h⟩:=Qd.1 h;obtain ⟨rfl,hb⟩:=PP h3;obtain ⟨k1,k2⟩:=chain_ok hp h1;have hq:=GQ hp h2;have q0:q.length≠0:=by
  unfold La at h1;obtain ⟨a,a1,h1⟩:=Qd.1 h1;rw [h2] at a1; injection a1 with a1; subst a1
  split at h1
  ·cases h1
  ·assumption
 have qn:Qb (-Gm q):=⟨by rw [Rat.neg_num,Hu]; exact hb.1,by rw [Rat.neg_den]; exact hb.2⟩;have bb1:Bu QQ c<=c.length:=Dw (λp=>(FX p).1) c;have bb2:Bu KF c<=c.length:=Dw (λp=>(FX p).2) c;have hn:-(1000*(100001-100000:Nat):Int)<=VY c/\VY c<=1000*(100001-100000:Nat):=by unfold VY; omega
 have cr:=fJ hq (by omega) k2 qn hb (Ql _) hn h hr;refine Gb func380 rfl ?_;exact Ud [1] [] [.k (Qag hp h1),.f rfl,.k (PW hp h2),.k (Qg9 hq q0),.k (Qa6 hb.s32),.k (Qha (by omega) k2),.c [1] cr] rfl
def Ut (l:List Pt):Uo:=l.map U3
theorem Tg {l:List Pt} {i:Nat} {c:Pt} (h:l[i]? = some c):(Ut l)[i]? = some (U3 c):=H9 h
theorem Gs (l:List Pt):(Ut l).length=l.length:=by simp [Ut]
theorem XC (l:List Pt):∀ c∈Ut l,c.length=5:=λc hc=>by
 obtain ⟨x,_,rfl⟩:=Zg.1 hc; rfl
abbrev zPt:Un:=[.nils,.nils,.bool false,.nils,.int .i64 0]
theorem nZ {lt:Pt->Pt->Bool} {O:List Pt} {z:Un} {c:Pt} {k m:Nat} {l2:Uo} (hk:k<=O.length) (hp:D6 lt O c O.length=k) (hm:m=O.length-k) (h2:l2.take m=((Ut O++[z]).drop k).take m) :
 ((Ut O++[z]).take (k+1)++(l2.take m++(Ut O++[z]).drop (k+1+m))).set k (U3 c)=Ut (Dy lt O c):=by
 rw [h2,<-Q9,yK (Ut O) z (U3 c) (by rw [Gs]; omega) (by rw [Gs]; omega)];simp [Dy,hp,Ut,Yl,Vg]
def Tq (t:Tm) (l:List Pt):List Pt:=Lc (Rz (Fg t)) l
theorem xP {l:List Pt} {t:Tm} (hl:∀ p∈l,Sc p.c) (hn:l.length≤1000000) (ht:Va t):Uf 163 [.agg (ta t),.one (pts l)] [.one (pts (Tq t l))]:=by
 have hcl:=Gs l;show Uf 163 [.agg (ta t),.one (.row (Ut l))] [.one (.row (Ut (Tq t l)))];obtain ⟨lt,hlt0⟩:=nmE (Rz (Fg t));unfold Tq;rw [<-hlt0];refine Gb func163 rfl ?_;refine W9 [.o 5 41 5] rfl ?_;refine Ue (S:=Nat) 2 (λL1 i=>(11,.v (.oi i))::(5,.v (.one (.orow 1 5 none)))::L1) (λi=>[.blk 189 (ta t),.row false 41 5 (Ut (Lc lt (l.take i)))]) (λi=>l.length-i) (λi=>i<=l.length) 0 (Qi _) rfl rfl λi hi=>?_
 by_cases hlt:i<l.length
 ·obtain ⟨c,hc⟩:=gxE (l:=l) (i:=i) hlt;have hst:Lc lt (l.take (i+1))=Dy lt (Lc lt (l.take i)) c:=tC hc;have hcp:=hl c (Qa hc);obtain ⟨O,hO⟩:=nmE (Lc lt (l.take i));have hOl:O.length=i:=by rw [hO,AX,Qu]; omega
  have hOm:∀ x∈O,Sc x.c:=λx hx=>by rw [hO,aB] at hx; exact hl x (Qn hx)
  rw [<-hO] at hst ⊢;refine W9 [.t (by simp [hcl]; omega),.x (Tg hc)] rfl ?_;refine Ue (S:=Nat) 3 (λL1 k=>(8,.v (.oi k))::L1) (λk=>[.blk 189 (ta t),.row false 41 5 (Ut O),.blk 41 (U3 c)]) id (λk=>k<=O.length/\D6 lt O c k=D6 lt O c O.length) (Ut O).length ⟨by rw [Gs]; exact Ql _,by rw [Gs]⟩ rfl rfl λk ⟨hk,hp⟩=>?_
  have hz:∀ y∈[zPt],y.length=5:=λy hy=>by rw [Qj.1 hy]; rfl
  have h77:∀ y∈Ut O++[zPt],y.length=5:=λy hy=>by
   rcases Qr.1 hy with hy | hy
   ·exact XC O y hy
   ·exact hz y hy
  cases k with
  |
   zero =>
   have hp:D6 lt O c O.length=0:=by rw [<-hp]; rfl
   refine go tt [.g 19 false (by simp),.f rfl,.s (sz:=5) hz,.r 37 (eI (b:=((0+1:Nat):Int)) (by simp)),.i (0+1),.i (0),.s (sz:=5) (λy hy=>h77 y (Qn hy)),.i (O.length),.i (0)] rfl (by simp [Uw,Gs]; omega) ?_;exact rd (i+1) (by omega) hlt (by rw [hst,<-nZ (z:=zPt) (l2:=(Ut O++[zPt]).take ((Ut O++[zPt]).length-0)) (k:=0) (m:=O.length) (by omega) hp (by omega) (by congr 1; exact Qo (by simp))]; rfl)
  |
   succ k =>
   obtain ⟨x,hx⟩:=gxE (l:=O) (i:=k) (by omega);have cb:=oZ hcp (hOm x (Qa hx)) ht;rw [<-hlt0] at cb;by_cases hlc:lt c x=true
   ·refine go tt [.g 19 true (by simp),.r 23 (eI (b:=(k:Int)) (by simp)),.i k,.x (Tg hx),.k cb,.t hlc,.r 30 (eI (b:=(k:Int)) (by simp))] rfl (by simp [Uw,Gs]; omega) ?_;exact rd k (by simp) ⟨by omega,by rw [<-hp,cZ hx hlc]⟩ rfl
   ·have hlc:lt c x=false:=by simpa using hlc
    have hp:D6 lt O c O.length=k+1:=by rw [<-hp,vA hx hlc]
    refine go tt [.g 19 true (by simp),.r 23 (eI (b:=(k:Int)) (by simp)),.i k,.x (Tg hx),.k cb,.f hlc,.s (sz:=5) hz,.r 37 (eI (b:=((k+1+1:Nat):Int)) (by simp)),.i (k+1+1),.i (k+1),.s (sz:=5) (λy hy=>h77 y (Qy (Qn hy))),.i (O.length-(k+1)),.i (k+1)] rfl (by simp [Uw,Gs]; omega) ?_;exact rd (i+1) (by omega) hlt (by rw [hst,<-nZ (z:=zPt) (l2:=((Ut O++[zPt]).drop (k+1)).take ((Ut O++[zPt]).length-(k+1))) (k:=k+1) (m:=O.length-(k+1)) (by omega) hp (by omega) (by congr 1; exact Qo (by simp))]; rfl)
 ·obtain rfl:i=l.length:=by omega
  rw [Q6];exact Ub [.f (by simp [hcl])] rfl
def T0 (sg:Ui->Int):List Pt->List Ct
 | a::b::l=>Ow sg a b::T0 sg (b::l)
 | _=>[]
theorem Ni (sg:Ui->Int):∀ l:List Pt,(T0 sg l).length=l.length-1
 | []=>rfl
 | [_]=>rfl
 | a::b::l=>by simp only [T0,Q4,Ni sg (b::l)]; omega
theorem GG (sg:Ui->Int):∀ {l:List Pt} {i:Nat} {a b:Pt},l[i]? = some a->l[i+1]? = some b->(T0 sg l).take (i+1)=(T0 sg l).take i++[Ow sg a b]
 | [],i,a,b,h,_=>by simp at h
 | [x],i,a,b,_,h=>by cases i <;> simp at h
 | x::y::l,0,a,b,h1,h2=>by simp at h1 h2; subst h1; subst h2; simp [T0]
 |
  x::y::l,i+1,a,b,h1,h2=>by
  have ih:=GG sg (l:=y::l) (i:=i) (a:=a) (b:=b) (by simpa using h1) (by simpa using h2);simp only [T0,V0] at ih ⊢;rw [ih]; rfl
theorem PK {l:List Pt} {t:Tm} (hl:∀ p∈l,Sc p.c) (hn:l.length≤1000000) (ht:Va t):Uf 165 [.agg (ta t),.one (pts l)] [.one (.row (Fc (T0 (Fg t) l)))]:=by
 have hcl:=Gs l;show Uf 165 [.agg (ta t),.one (.row (Ut l))] [.one (.row (Fc (T0 (Fg t) l)))];refine Gb func165 rfl ?_;refine W9 [.o 5 126 7] rfl ?_;refine Ue (S:=Nat) 2 (λL1 i=>(6,.v (.oi ((i+1:Nat):Int)))::(5,.v (.one (.orow 1 7 none)))::L1) (λi=>[.blk 189 (ta t),.row false 126 7 (Fc ((T0 (Fg t) l).take i))]) (λi=>l.length-i) (λi=>i<=l.length-1) 0 (Qi _) rfl rfl λi hi=>?_
 by_cases hlt:i+1<l.length
 ·obtain ⟨a,ha⟩:=gxE (l:=l) (i:=i) (by omega);obtain ⟨b,hb⟩:=gxE (l:=l) (i:=i+1) hlt;have hg:=GG (Fg t) ha hb;have hm:∀ y∈[D3 (Ow (Fg t) a b)],y.length=7:=λy hy=>by rw [Qj.1 hy]; rfl
  refine go tt [.t (by simp [hcl]; omega),.r 19 (eI (b:=(i:Int)) (by simp)),.x (Tg ha),.x (Tg hb),.k (sO (hl a (Qa ha)) (hl b (Qa hb)) ht),.s (sz:=7) hm,.r 14 (eI (b:=((i+1+1:Nat):Int)) (by simp))] rfl (by simp [Uw,Gs,Mw,Ni]; omega) ?_;exact rd (i+1) (by omega) (by omega) (by rw [hg]; simp [Fc]; rfl)
 ·have e:(T0 (Fg t) l).take i=T0 (Fg t) l:=Qo (by rw [Ni]; omega);rw [e];exact Ub [.f (by simp [hcl]; omega)] rfl
theorem Qhm:Uf 253 [pr []] [.one .nilp,.oi 2]:=by
 have h:Sv []=some []:=rfl;exact Uc func253 rfl [.k (PW FO h),.t rfl] rfl
theorem Qaf:Uf 380 [pr []] [.one (.row []),.oi 2] :=
 Uc func380 rfl [.k Qhm,.t rfl] rfl
theorem Qo1 {a o:Ui} (ha:Pb a) (h:rT a=some o):Pb o:=by
 unfold rT at h
 split at h
 ·injection h with h; subst h; exact FO
 ·obtain ⟨l,hl,h⟩:=Qd.1 h;obtain ⟨fs,hf,h⟩:=Qd.1 h;exact XM Qeb (IA (TM (Rh ha) hl).2 hf) h
theorem oG {p:Ui} {l:List Tm} (hp:Pb p) (h:VG p=some l) (hl:l.length<=1000000):Uf 379 [pr p] [.one (tas l)]:=by
 unfold VG at h;obtain ⟨q,hq,h⟩:=Qd.1 h;have qp:=Qo1 hp hq;have co:=Qqy hp hq
 split at h
 ·rename_i h0;injection h with h; subst h;obtain rfl:=Qh h0;exact Uc func379 rfl [.k co,.k Qaf,.t rfl] rfl
 ·exact Uc func379 rfl [.k co,.k (Qhl qp h hl),.f rfl] rfl
def ota:Option Tm->Un
 | none=>zTr
 | some t=>ta t
theorem Qhc {p:Ui} {a:Tm} {l:List Tm} {r:Option Tm} (hp:Pb p) (ha:Tb a) (h:VG p=some l) (hl:l.length≤1000000) (ht:∀ t∈l,Tb t) (hr:JC a l=some r):Uf 378 [pr p,.agg (ta a)] [.agg (ota r),.one (.bool r.isSome)]:=by
 have hll:(l.map λt=>ta t).length=l.length:=by simp
 refine Gb func378 rfl ?_;refine W9 [.k (oG hp h hl)] rfl ?_;refine Ue (S:=Nat) 2 (λL1 i=>(11,.v (.oi i))::L1) (λ_=>[.blk 189 (ta a),.blk 189 zTm]) (λi=>l.length-i) (λi=>i<=l.length/\JC a (l.drop i)=some r) 0 ⟨Qi _,hr⟩ rfl rfl λi ⟨hi,hf⟩=>?_
 by_cases hlt:i<l.length
 ·obtain ⟨t,hx⟩:=gxE (l:=l) (i:=i) hlt;have hdr:l.drop i=t::l.drop (i+1):=by
   rw [Zp hlt]; congr 1;have:=Qf hlt; rw [hx] at this; injection this with this; exact this.symm
  rw [hdr] at hf;simp only [JC] at hf;obtain ⟨c,c1,hf⟩:=Qd.1 hf;have cc:=YZ (ht t (Qa hx)) ha c1;by_cases hc:0<c
  ·rw [if_pos hc] at hf;injection hf with hf; subst hf;exact Ub [.t (by simp; omega),.x (SH hx),.k cc,.t (by simpa using hc)] rfl
  ·rw [if_neg hc] at hf;refine Ua [.t (by simp; omega),.x (SH hx),.k cc,.f (by simpa using hc)] rfl ?_;exact rd (i+1) (by omega) ⟨hlt,hf⟩ rfl
 ·obtain rfl:i=l.length:=by omega
  rw [Ys] at hf;simp only [JC] at hf;injection hf with hf; subst hf;exact Ub [.f (by simp)] rfl
def Ii (now:Tm):List Wt->Option (List Wt)
 | []=>some []
 | w::l=>(if w.known=true then some w else (HT w.c.p now).bind λr=>some ⟨w.c,true,r⟩).bind λw'=>(Ii now l).bind λr=>some (w'::r)
theorem XS {now:Tm}:∀ {l ws:List Wt},Ii now l=some ws->ws.length=l.length/\∀ (i:Nat) (w:Wt),l[i]? = some w->∃ v,ws[i]? = some v/\(w.known=true/\v=w\/w.known=false/\∃ r,HT w.c.p now=some r/\v=⟨w.c,true,r⟩)
 | [],ws,h=>by injection h with h; subst h; exact ⟨rfl,λi x hx=>by simp at hx⟩
 |
  y::l,ws,h=>by
  simp only [Ii] at h;obtain ⟨v,hv,h⟩:=Qd.1 h;obtain ⟨r,hr,h⟩:=Qd.1 h;injection h with h; subst h;obtain ⟨a,b⟩:=XS hr;refine ⟨by simp [a],λi x hx=>?_⟩;cases i with
  |
   zero =>
   injection hx with hx; subst hx;refine ⟨v,rfl,?_⟩
   split at hv
   ·rename_i hk; injection hv with hv; exact .inl ⟨hk,hv.symm⟩
   ·rename_i hk;obtain ⟨q,hq,hv⟩:=Qd.1 hv;injection hv with hv;exact .inr ⟨by simpa using hk,q,hq,hv.symm⟩
  | succ i=>exact b i x (by simpa using hx)
theorem xK {p:Ui} {a:Tm} {r:Option Tm} (hp:Cp p) (ha:Va a) (h:HT p a=some r):Uf 378 [pr p,.agg (ta a)] [.agg (ota r),.one (.bool r.isSome)]:=by
 obtain ⟨l,l1,l2,l3,_⟩:=ZI hp;unfold HT at h;rw [l1] at h;exact Qhc (Dp.pb hp.dp) ha.tb l1 (by omega) (λt ht=>(l3 t ht).tb) h
theorem Qhf {T:Nat} {c:Cr} {r0 r1:Uo} {ws:List Wt} (hc:CrOk c) (h:Ii c.now c.l=some ws):Uz prog 371 [.one (.ow 0 0)] [.blk T (Ho c r0 r1)] [] [.blk T (Ho { c with l:=ws } r0 r1)]:=by
 have hk:=hc.k;have hw:=Ts c.l;obtain ⟨h1,h2⟩:=XS h;refine Gb func371 rfl ?_;refine W9 [.o 2 291 18,.c [0] (Oa hc.n)] rfl ?_;refine Ue (S:=Nat) 3 (λL1 i=>(13,.v (.oi i))::(2,.v (.one (.orow 1 18 none)))::L1) (λi=>[.blk T (Ho c r0 r1),.row false 291 18 (B5 (ws.take i)),.blk 189 (ta c.now)]) (λi=>c.l.length-i) (λi=>i<=c.l.length) 0 (Qi _) rfl rfl λi hi=>?_
 by_cases hlt:i<c.l.length
 ·obtain ⟨w,hx⟩:=gxE (l:=c.l) (i:=i) hlt;obtain ⟨v,hv,h3⟩:=h2 i w hx;have hm:∀ y∈[wl v],y.length=18:=λy hy=>by rw [Qj.1 hy]; rfl
  have hg:=L9 hv;have hl:decide ((i:Int)<((B5 c.l).length:Int))=true:=by simp [hw]; omega
  rcases h3 with ⟨k1,rfl⟩ | ⟨k1,r,k2,rfl⟩
  ·obtain ⟨vc,vk,vf⟩:=v;cases vf <;> (refine go tt [.t hl,.x (Hn hx),.f (by rw [show vk=true from k1]; rfl),.s (sz:=18) hm] rfl (by simp [Uw,Ts]; omega) ?_; exact rd (i+1) (by omega) hlt (by rw [hg]; rfl))
  ·have cg:=xK (hc.l w (Qa hx)).p hc.n k2;obtain ⟨wc,wk,wf⟩:=w;cases r <;> cases wf <;> (refine go tt [.t hl,.x (Hn hx),.t (by rw [show wk=false from k1]; rfl),.k cg,.s (sz:=18) hm] rfl (by simp [Uw,Ts]; omega) ?_; exact rd (i+1) (by omega) hlt (by rw [hg]; rfl))
 ·obtain rfl:i=c.l.length:=by omega
  rw [<-h1,Q6];exact Ud [1] [0] [.f (by simp [hw,h1])] rfl
def CS (ws:List Wt):Option (Option Tm):=match ws.filterMap (·.fails) with
 | []=>some none
 | b::l=>(Oo b l).map some
theorem Lm {c:Cr} {ws:List Wt} (hc:CrOk c) (h:Ii c.now c.l=some ws):CrOk { c with l:=ws }:=by
 obtain ⟨h1,h2⟩:=XS h;refine ⟨hc.n,λv hv=>?_,by show ws.length<=1000; rw [h1]; exact hc.k⟩;obtain ⟨i,hi⟩:=Xt hv;have hil:i<c.l.length:=by rw [<-h1]; exact (Qe.1 hi).1
 obtain ⟨v',h3,h4⟩:=h2 i _ (Qf hil);rw [hi] at h3; injection h3 with h3; subst h3;have hw:=hc.l _ (Xy hil);rcases h4 with ⟨_,rfl⟩ | ⟨_,r,k2,rfl⟩
 ·exact hw
 ·obtain ⟨r',r1,r2⟩:=Qdv hw.p hc.n;rw [k2] at r1; injection r1 with r1; subst r1;refine ⟨hw.p,λt ht=>?_⟩;have ht:r=some t:=ht;subst ht;exact r2.2.1
theorem RE {T:Nat} {c:Cr} {r0 r1:Uo} {ws:List Wt} {r:Option Tm} (hc:CrOk c) (h:Ii c.now c.l=some ws) (hr:CS ws=some r):Uz prog 377 [.one (.ow 0 0)] [.blk T (Ho c r0 r1)] [.agg (ota r),.one (.bool r.isSome)] [.blk T (Ho { c with l:=ws } r0 r1)]:=by
 have hcl:=Qhf (T:=T) (r0:=r0) (r1:=r1) hc h;have hc':=Lm hc h;have hk:=hc'.k;have hw:=Ts ws;have hvb:∀ t∈ws.filterMap (·.fails),Tb t:=λt ht=>by
  obtain ⟨w,w1,w2⟩:=Jf.1 ht;exact ((hc'.l w w1).f t w2).tb
 refine Gb func377 rfl ?_;refine W9 [.c [0] hcl,.o 4 189 9] rfl ?_;refine Ue (S:=Nat) 3 (λL1 i=>(14,.v (.oi i))::(4,.v (.one (.orow 2 9 none)))::L1) (λi=>[.blk T (Ho { c with l:=ws } r0 r1),.blk 189 zTm,.row false 189 9 (tal ((ws.take i).filterMap (·.fails)))]) (λi=>ws.length-i) (λi=>i<=ws.length) 0 (Qi _) rfl rfl λi hi=>?_
 by_cases hlt:i<ws.length
 ·obtain ⟨w,hx⟩:=gxE (l:=ws) (i:=i) hlt;have hl:decide ((i:Int)<((B5 ws).length:Int))=true:=by simp [hw]; omega
  have hfl:((ws.take i).filterMap (·.fails)).length<=i:=Qc (Vd _ _) (by rw [Qu]; omega);have hg:(ws.take (i+1)).filterMap (·.fails)=(ws.take i).filterMap (·.fails)++(match w.fails with | none=>[] | some t=>[t]):=by
   rw [Z5,hx,List.filterMap_append];show _++List.filterMap (·.fails) [w]=_;cases hwf:w.fails <;> simp [hwf]
  obtain ⟨wc,wk,wf⟩:=w;have hk:ws.length<=1000:=hk;cases wf with
  |
   none =>
   refine Ua [.t hl,.x (Hn hx),.f rfl] rfl ?_;exact rd (i+1) (by omega) hlt (by rw [hg]; simp; rfl)
  |
   some t =>
   refine Ua [.t hl,.x (Hn hx),.t rfl,.s (l:=[ta t]) (sz:=9) (λc hc=>by rw [Qj.1 hc]; rfl)] rfl ?_;exact rd (i+1) (by omega) hlt (by rw [hg]; simp [tal]; rfl)
 ·obtain rfl:i=ws.length:=by omega
  rw [Q6];have hf:decide ((ws.length:Int)<((B5 ws).length:Int))=false:=by simp [hw]
  have hln:(ws.filterMap (·.fails)).length<=1000:=Qc (Vd _ _) hk;unfold CS at hr;cases hfm:ws.filterMap (·.fails) with
  |
   nil =>
   rw [hfm] at hr;injection hr with hr; subst hr;exact Ud [] [0] [.f hf,.p 2,.k xU] rfl
  |
   cons b l =>
   rw [hfm] at hr hvb hln;obtain ⟨m,m1,rfl⟩:=Yw.1 hr;have cl:=Sj (hvb b (Qw ..)) (λt ht=>hvb t (Qg _ ht)) (by simp at hln; omega) m1;exact Ud [] [0] [.f hf,.p 2,.k cl] rfl
theorem NX {at_:Tm} {x:Ct}:∀ {l:List Wt} {w:Wt},Ba l x at_=some w->w=fresh x\/∃ v∈l,v.known=true/\v.c.p=x.p/\w=⟨x,true,v.fails⟩/\∀ t,v.fails=some t->∃ c,KZ t at_=some c/\0<c
 | [],w,h=>by simp only [Ba] at h; injection h with h; exact .inl h.symm
 |
  v::l,w,h=>by
  simp only [Ba] at h;have tl:Ba l x at_=some w->w=fresh x\/∃ v'∈v::l,v'.known=true/\v'.c.p=x.p/\w=⟨x,true,v'.fails⟩/\∀ t,v'.fails=some t->∃ c,KZ t at_=some c/\0<c:=λh=>by
   rcases NX h with h | ⟨v',h1,h2⟩
   ·exact .inl h
   ·exact .inr ⟨v',Qg _ h1,h2⟩
  split at h
  ·rename_i hk;cases hf:v.fails with
   |
    none =>
    rw [hf] at h;injection h with h;exact .inr ⟨v,Qw ..,hk.2.1,hk.2.2,by rw [hf]; exact h.symm,λt ht=>by rw [hf] at ht; cases ht⟩
   |
    some t =>
    rw [hf] at h;obtain ⟨c,c1,h⟩:=Qd.1 h
    split at h
    ·rename_i h0;injection h with h;exact .inr ⟨v,Qw ..,hk.2.1,hk.2.2,by rw [hf]; exact h.symm,λu hu=>by rw [hf] at hu; injection hu with hu; subst hu; exact ⟨c,c1,h0⟩⟩
    ·exact tl h
  ·exact tl h
theorem lay_ok {c:Cr} {at_:Tm} {l:List Ct} {ws:List Wt} (ev:Int) (hc:CrOk c) (ha:Va at_) (hl:∀ x∈l,Cp x.p) (hn:l.length≤1000) (h:Tz c.l at_ (Fj l)=some ws):CrOk ⟨at_,ws,ev⟩:=by
 obtain ⟨h1,h2⟩:=QE h;refine ⟨ha,λw hw=>?_,by show ws.length<=1000; rw [h1,Ck]; exact hn⟩;obtain ⟨i,hi⟩:=Xt hw;have hil:i<(Fj l).length:=by rw [<-h1]; exact (Qe.1 hi).1
 obtain ⟨v,h3,h4⟩:=h2 i _ (Qf hil);rw [hi] at h4; injection h4 with h4; subst h4;have hx:=hl _ (XA (Xy hil));rcases NX h3 with e | ⟨v,v1,_,v3,e,_⟩
 ·rw [e]; exact ⟨hx,λt ht=>by cases ht⟩
 ·rw [e]; exact ⟨hx,λt ht=>(hc.l v v1).f t ht⟩
def VP {β:Type} (Bc:Tm->List Ct) (Br:Tm->β) (t:Rat):Nat->Cr->β->Int->Option (Cr×β×Int)
 | 0,_,_,_=>none
 |
  k+1,c,r,n=>(Ii c.now c.l).bind λws=>(CS ws).bind λo=>match o with
  | none=>some (⟨tq t,ws,c.ev⟩,r,n)
  | some a=>if 0<Fe a t then some (⟨tq t,ws,c.ev⟩,r,n) else (Tz ws a (Fj (Bc a))).bind λw2=>VP Bc Br t k ⟨a,w2,c.ev+1⟩ (Br a) (n+1)
theorem Qd0 {ws:List Wt} {a:Tm} (h:CS ws=some (some a)) (hv:∀ t∈ws.filterMap (·.fails),Va t):a∈ws.filterMap (·.fails)/\∀ t∈ws.filterMap (·.fails),¬Mp t a:=by
 unfold CS at h;cases hf:ws.filterMap (·.fails) with
 | nil=>rw [hf] at h; injection h with h; cases h
 |
  cons b l =>
  rw [hf] at h hv;obtain ⟨m,m1,m2⟩:=Yw.1 h;injection m2 with m2; subst m2;obtain ⟨m',n1,n2,n3⟩:=FP l b hv;rw [m1] at n1; injection n1 with n1; subst n1;exact ⟨n2,n3⟩
theorem NR {c:Cr} {ws:List Wt} {a:Tm} (hc:CrOk c) (h:Ii c.now c.l=some ws) (hr:CS ws=some (some a)):Va a:=by
 have hc':=Lm hc h;have hv:∀ t∈ws.filterMap (·.fails),Va t:=λt ht=>by
  obtain ⟨w,w1,w2⟩:=Jf.1 ht;exact (hc'.l w w1).f t w2
 exact hv a (Qd0 hr hv).1
structure BuildOk (Bc:Tm->List Ct):Prop where
 p:∀ a,Va a->∀ x∈Bc a,Cp x.p
 n:∀ a,Va a->(Bc a).length<=1000
theorem Qqw {T:Nat} {t:Rat} {Bc:Tm->List Ct} {Br:Tm->Uo} {r0:Uo} (ht:Qs 1640000 t) (hB:BuildOk Bc)
 (hb:∀ a c r1,Va a->CrOk c->Uz prog 122 [.one (.ow 0 0),.agg (ta a)] [.blk T (Ho c r0 r1)] [.one (.row (Fc (Bc a)))] [.blk T (Ho c r0 (Br a))])
 {K:Nat} {c c':Cr} {r1 r1':Uo} {n:Int} (hc:CrOk c) (hev:0<=c.ev/\c.ev+K<=1000000000000000000) (h:Fe c.now t<=0) (hg:VP Bc Br t K c r1 0=some (c',r1',n)) :
 Uz prog 372 [.one (.ow 0 0),.agg (rl t),.one (.ofn 122 [.ow 0 0] [])] [.blk T (Ho c r0 r1)] [.oi n,.oi 0] [.blk T (Ho c' r0 r1')]:=by
 have qt:Qb t:=ht.mono (by decide);have c1:=Cc hc.n.tb qt;refine Gb func372 rfl ?_;refine W9 [.c [0] (Oa hc.n),.k c1,.f (by simpa using h)] rfl ?_;refine Ue (S:=Nat×Cr×Uo×Int) 2 (λL1 s=>(8,.v (.oi s.2.2.2))::L1) (λs=>[.blk T (Ho s.2.1 r0 s.2.2.1),.blk 43 (rl t)]) (λs=>s.1) (λs=>CrOk s.2.1/\(0<=s.2.1.ev/\s.2.1.ev+s.1<=1000000000000000000)/\(0<=s.2.2.2/\s.2.2.2+s.1<=1000000000000000000)/\VP Bc Br t s.1 s.2.1 s.2.2.1 s.2.2.2=some (c',r1',n)) (K,c,r1,0) ⟨hc,hev,⟨Int.le_refl 0,by dsimp only; omega⟩,hg⟩ rfl rfl λ⟨k,x,r,m⟩ ⟨j1,j2,j3,j4⟩=>?_
 dsimp only at j1 j2 j3 j4 ⊢;cases k with
 | zero=>cases j4
 |
  succ k =>
  simp only [VP] at j4;obtain ⟨ws,w1,j4⟩:=Qd.1 j4;obtain ⟨o,o1,j4⟩:=Qd.1 j4;have cn:=RE (T:=T) (r0:=r0) (r1:=r) j1 w1 o1;have ca:=JS (Uu t.num) (Uu (t.den:Int)) (Qc ht.1 (by decide)) (Qc ht.2 (by decide)) (by rw [Sw]; exact ht.mono (by decide));rw [Sw] at ca;cases o with
  |
   none =>
   injection j4 with j4; injection j4 with e1 j4; injection j4 with e2 e3;subst e1; subst e2; subst e3;exact Ud [] [0] [.c [0] cn,.g 25 true rfl,.t rfl,.k ca] rfl
  |
   some a =>
   have ha:=NR j1 w1 o1;dsimp only at j4;have cc:=Cc ha.tb qt;by_cases h0:0<Fe a t
   ·rw [if_pos h0] at j4;injection j4 with j4; injection j4 with e1 j4; injection j4 with e2 e3;subst e1; subst e2; subst e3;exact Ud [] [0] [.c [0] cn,.g 25 false rfl,.k cc,.t (by simpa using h0),.k ca] rfl
   ·rw [if_neg h0] at j4;obtain ⟨w2,l1,j4⟩:=Qd.1 j4;have j1':=Lm j1 w1;have cl:=Sj (b:=a) (l:=[]) ha.tb (λt ht=>by cases ht) (by decide) rfl;have cb:=hb a { x with l:=ws } r ha j1';have cy:=VE (T:=T) (r0:=r0) (r1:=Br a) j1' ha (hB.p a ha) (hB.n a ha) l1;have hf:decide (0<Fe a t)=false:=by simpa using h0
    refine Ua [.c [0] cn,.g 25 false rfl,.k cc,.f hf,.k cl,.c [0] cb,.c [0] cy] rfl ?_;exact rd (k,⟨a,w2,x.ev+1⟩,Br a,m+1) (by dsimp only; omega) ⟨lay_ok _ j1' ha (hB.p a ha) (hB.n a ha) l1,by dsimp only; omega,by dsimp only; omega,j4⟩ rfl
theorem XJ {T:Nat} {c:Cr} {r0 r1:Uo}:Uz prog 368 [.one (.ow 0 0)] [.blk T (Ho c r0 r1)] [.oi c.ev] [.blk T (Ho c r0 r1)]:=by
 refine Gb func368 rfl ?_;exact Ud [] [0] [] rfl
end Orr
namespace Orq
open Orr Go
theorem Qrr {a b c:Tm} (hb:Cut (Fe b)) (hc:Cut (Fe c)) (h:Mp a b) (h':Mp b c):Mp a c:=by
 obtain ⟨q,q1,q2⟩:=h;obtain ⟨r,r1,r2⟩:=h';exact ⟨q,q1,hc.mono' (hb.lt q2 r1) (by omega)⟩
theorem FM {a b:Tm} (ha:Cut (Fe a)) (hb:Cut (Fe b)) (h:¬Mp b a):Leq a (Fe b):=λq hq=>by
 rcases ha.val q with e | e | e
 ·exact absurd ⟨q,hq,e⟩ h
 ·obtain ⟨r,r1,r2⟩:=hb.dn q hq;exact absurd ⟨r,r2,ha.mono' r1 (by omega)⟩ h
 ·exact e
theorem nR {a b c:Tm} (_:Cut (Fe a)) (hb:Cut (Fe b)) (hc:Cut (Fe c)) (h:Mp a b) (h':¬Mp c b):Mp a c:=by
 obtain ⟨q,q1,q2⟩:=h;refine ⟨q,q1,?_⟩;have hl:=FM hb hc h';rcases hc.val q with e | e | e
 ·exact e
 ·obtain ⟨r,r1,r2⟩:=hb.up q q2;have h1:=hc.mono q r r1 (by omega);have:=hl r h1;omega
 ·have:=hl q e; omega
theorem OF {a b:Tm} (ha:Cut (Fe a)) (hb:Cut (Fe b)) (h:Mp a b):¬Mp b a:=λh'=>Aw ha hb h h'
theorem Il {p:Ui} {a b:Tm} {o:Option Tm} (ha:Cut (Fe a)) (hb:Cut (Fe b)) (hab:¬Mp b a) (h:P9 p a o) (ho:∀ t,o=some t->Mp b t):P9 p b o:=by
 have hl:=FM ha hb hab;cases o with
 |
  none =>
  rcases h with h | ⟨s,s0,h⟩
  ·exact .inl h
  ·exact .inr ⟨s,s0,λc hc hbc=>h c hc λq hq=>hl q (hbc q hq)⟩
 |
  some t =>
  obtain ⟨h1,h2,_,s,s0,h4,h5⟩:=h;exact ⟨h1,h2,ho t rfl,s,s0,λc hc hbc hm=>h4 c hc (λq hq=>hl q (hbc q hq)) hm,h5⟩
theorem LL {p:Ui} {a b:Tm} {o:Option Tm} (hp:Dp p) (ha:Va a) (hb:Va b) (hab:¬Mp b a) (h:P9 p a o) (ho:∀ t,o=some t->Mp b t):G8 (Fg b) p=G8 (Fg a) p:=by
 by_cases h0:p.length=0
 ·obtain rfl:=Qh h0; rfl
 obtain ⟨ra,_⟩:=Lk ha hp h0;obtain ⟨rb,_⟩:=Lk hb hp h0;have hl:=FM ha.cut hb.cut hab;cases o with
 |
  none =>
  rcases h with h | ⟨s,s0,h⟩
  ·exact absurd (by rw [h]; rfl) h0
  ·exact (WC rb (h _ hb.cut hl)).trans (WC ra (h _ ha.cut λ_ h=>h)).symm
 |
  some t =>
  obtain ⟨h1,h2,h3,s,s0,h4,h5⟩:=h;exact (WC rb (h4 _ hb.cut hl (ho t rfl))).trans (WC ra (h4 _ ha.cut (λ_ h=>h) h3)).symm
theorem wW (t q:Rat):Fe (tq t) q=G7 t q:=Ag (t:=tq t) rfl q
theorem UA {a:Tm} {t:Rat} (ha:Cut (Fe a)):0<Fe a t↔Mp (tq t) a:=by
 constructor
 ·intro h;have h1:Fe a t=1:=by rcases ha.val t with e | e | e <;> omega
  obtain ⟨r,r1,r2⟩:=ha.up t h1;exact ⟨r,by rw [wW]; rcases Nx t r with ⟨e,e'⟩ | ⟨e,e'⟩ | ⟨e,e'⟩ <;> first | exact e | (exfalso; grind),r2⟩
 ·rintro ⟨q,q1,q2⟩
  rw [wW] at q1;have:t<q:=by rcases Nx t q with ⟨e,e'⟩ | ⟨e,e'⟩ | ⟨e,e'⟩ <;> first | exact e' | omega
  have:=ha.mono' this (by omega);omega
open Classical in
noncomputable def mu (T:List Tm) (a:Tm):Nat:=(T.filter λt=>decide (Mp a t)).length
theorem LK {α:Type} {p q:α->Bool} (h:∀ x,p x=true->q x=true):∀ l:List α,(l.filter p).length<=(l.filter q).length
 | []=>Ql _
 |
  x::l=>by
  have ih:=LK h l;by_cases hp:p x=true
  ·rw [X4 hp,X4 (h x hp)]; simp; exact ih
  ·rw [Ju hp];by_cases hq:q x=true
   ·rw [X4 hq]; simp; omega
   ·rw [Ju hq]; exact ih
theorem LU {α:Type} {p q:α->Bool} (h:∀ x,p x=true->q x=true) {y:α} (hp:p y=false) (hq:q y=true):∀ {l:List α},y∈l->(l.filter p).length<(l.filter q).length
 | [],hy=>by cases hy
 |
  x::l,hy=>by
  rcases Qm.1 hy with rfl | hy
  ·rw [Ju (by simp [hp]),X4 hq];have:=LK h l;simp; omega
  ·have ih:=LU h hp hq hy;by_cases hp:p x=true
   ·rw [X4 hp,X4 (h x hp)]; simp; exact ih
   ·rw [Ju hp];by_cases hq:q x=true
    ·rw [X4 hq]; simp; omega
    ·rw [Ju hq]; exact ih
open Classical in
theorem Ql5 {T:List Tm} {a b:Tm} (ha:Cut (Fe a)) (hb:Cut (Fe b)) (hT:∀ t∈T,Cut (Fe t)) (h:Mp a b) (hm:b∈T):mu T b<mu T a:=by
 have key:∀ l:List Tm,(∀ t∈l,Cut (Fe t))->l.filter (λt=>decide (Mp b t))=l.filter (λt=>decide (Cut (Fe t)/\Mp b t)):=λl hl=>List.filter_congr λx hx=>by simp [hl x hx]
 have key2:∀ l:List Tm,(∀ t∈l,Cut (Fe t))->l.filter (λt=>decide (Mp a t))=l.filter (λt=>decide (Cut (Fe t)/\Mp a t)):=λl hl=>List.filter_congr λx hx=>by simp [hl x hx]
 unfold mu;rw [key T hT,key2 T hT];refine LU (λx hx=>?_) (y:=b) ?_ ?_ hm
 ·have hx:=of_decide_eq_true hx;exact decide_eq_true ⟨hx.1,Qrr hb hx.1 h hx.2⟩
 ·exact decide_eq_false λhx=>Aw hb hb hx.2 hx.2
 ·exact decide_eq_true ⟨hb,h⟩
def CN (p:Ui):List Tm:=(VG p).getD []
structure KInv (c:Cr):Prop where
 ok:CrOk c
 k:∀ w∈c.l,w.known=true->P9 w.c.p c.now w.fails/\∀ t,w.fails=some t->t∈CN w.c.p
theorem NG {p:Ui} (h:Cp p) {a:Tm} (ha:Va a):∃ r,HT p a=some r/\P9 p a r/\∀ t,r=some t->t∈CN p:=by
 obtain ⟨l,l1,_,_,l3⟩:=ZI h;obtain ⟨r,r1,r2,r3⟩:=l3 a ha;refine ⟨r,?_,r2,λt ht=>by unfold CN; rw [l1]; exact r3 t ht⟩;unfold HT; rw [l1]; exact r1
theorem Qp0 {p:Ui} (h:Cp p):∀ t∈CN p,Va t:=by
 obtain ⟨l,l1,_,l2,_⟩:=ZI h;unfold CN; rw [l1]; exact l2
theorem nM {now:Tm} (hn:Va now):∀ {l:List Wt},(∀ w∈l,WtOk w)->(∀ w∈l,w.known=true->P9 w.c.p now w.fails/\∀ t,w.fails=some t->t∈CN w.c.p) ->
 ∃ ws,Ii now l=some ws/\ws.map (·.c)=l.map (·.c)/\∀ w∈ws,w.known=true/\P9 w.c.p now w.fails/\∀ t,w.fails=some t->t∈CN w.c.p
 | [],_,_=>⟨[],rfl,rfl,λw hw=>by cases hw⟩
 |
  w::l,h,h'=>by
  obtain ⟨ws,w1,w2,w3⟩:=nM hn (λv hv=>h v (Qg _ hv)) (λv hv=>h' v (Qg _ hv));by_cases hk:w.known=true
  ·refine ⟨w::ws,by simp only [Ii,hk,if_true,w1]; rfl,by simp [w2],λv hv=>?_⟩;rcases Qm.1 hv with rfl | hv
   ·exact ⟨hk,h' v (by simp) hk⟩
   ·exact w3 v hv
  ·obtain ⟨r,r1,r2,r3⟩:=NG (h w (by simp)).p hn;refine ⟨⟨w.c,true,r⟩::ws,by simp only [Ii]; rw [if_neg hk,r1,w1]; rfl,by simp [w2],λv hv=>?_⟩;rcases Qm.1 hv with rfl | hv
   ·exact ⟨rfl,r2,r3⟩
   ·exact w3 v hv
theorem nW {at_:Tm} (ha:Va at_) {x:Ct}:∀ {l:List Wt},(∀ w∈l,WtOk w)->∃ w,Ba l x at_=some w/\w.c=x
 | [],_=>⟨fresh x,rfl,rfl⟩
 |
  v::l,h=>by
  obtain ⟨w,w1,w2⟩:=nW ha (x:=x) λv hv=>h v (Qg _ hv)
  simp only [Ba]
  split
  ·cases hf:v.fails with
   | none=>exact ⟨_,rfl,rfl⟩
   |
    some t =>
    obtain ⟨c,c1,_⟩:=KX ((h v (by simp)).f t hf) ha;dsimp only;rw [c1];show ∃ w,(if 0<c then some ⟨x,true,some t⟩ else Ba l x at_)=some w/\w.c=x
    split
    ·exact ⟨_,rfl,rfl⟩
    ·exact ⟨w,w1,w2⟩
  ·exact ⟨w,w1,w2⟩
theorem gK {at_:Tm} (ha:Va at_) {ol:List Wt} (ho:∀ w∈ol,WtOk w):∀ l:List Ct,∃ ws,Tz ol at_ l=some ws/\ws.map (·.c)=l
 | []=>⟨[],rfl,rfl⟩
 |
  x::l=>by
  obtain ⟨w,w1,w2⟩:=nW ha (x:=x) ho;obtain ⟨ws,s1,s2⟩:=gK ha ho l;exact ⟨w::ws,by simp only [Tz,w1,s1]; rfl,by simp [w2,s2]⟩
theorem eH {out:List Ct} {c x:Ct}:x∈YP out c↔x=c\/x∈out:=by
 have h:x∈out↔x∈out.take (ZT out c out.length)\/x∈out.drop (ZT out c out.length):=by
  rw [<-Qr,Zf]
 simp only [YP,Qr,Qm,h];constructor
 ·rintro (h | h | h)
  ·exact .inr (.inl h)
  ·exact .inl h
  ·exact .inr (.inr h)
 ·rintro (h | h | h)
  ·exact .inr (.inl h)
  ·exact .inl h
  ·exact .inr (.inr h)
theorem LR:∀ (l acc:List Ct) {y:Ct},y∈l.foldl YP acc↔y∈l\/y∈acc
 | [],acc,y=>by simp
 |
  c::l,acc,y=>by
  simp only [Z7];rw [LR l,eH,Qm];constructor
  ·rintro (h | h | h)
   ·exact .inl (.inr h)
   ·exact .inl (.inl h)
   ·exact .inr h
  ·rintro ((h | h) | h)
   ·exact .inr (.inl h)
   ·exact .inl h
   ·exact .inr (.inr h)
theorem AZ {l:List Ct} {x:Ct}:x∈Fj l↔x∈l:=by unfold Fj; rw [LR]; simp
theorem Qo0 {ws:List Wt} (hw:∀ w∈ws,WtOk w):∃ o,CS ws=some o/\match o with
 | none=>∀ w∈ws,w.fails=none
 | some a=>Va a/\(∃ w∈ws,w.fails=some a)/\∀ w∈ws,∀ t,w.fails=some t->¬Mp t a:=by
 have hv:∀ t∈ws.filterMap (·.fails),Va t:=λt ht=>by
  obtain ⟨w,w1,w2⟩:=Jf.1 ht;exact (hw w w1).f t w2
 unfold CS;cases hf:ws.filterMap (·.fails) with
 |
  nil =>
  refine ⟨none,rfl,λw h=>?_⟩;cases e:w.fails with
  | none=>rfl
  |
   some t =>
   have:t∈ws.filterMap (·.fails):=Jf.2 ⟨w,h,e⟩;rw [hf] at this; cases this
 |
  cons b l =>
  rw [hf] at hv;obtain ⟨m,m1,m2,m3⟩:=FP l b hv;refine ⟨some m,by show (Oo b l).map some=_; rw [m1]; rfl,hv m m2,?_,λw h t e=>?_⟩
  ·rw [<-hf] at m2;exact Jf.1 m2
  ·exact m3 t (by rw [<-hf]; exact Jf.2 ⟨w,h,e⟩)
theorem Qnq {t a:Tm} (ht:Va t) (ha:Va a) {c:Int} (h:KZ t a=some c) (h0:0<c):Mp a t:=by
 obtain ⟨c',c1,c2⟩:=KX ht ha;rw [h] at c1; injection c1 with c1; subst c1;rcases c2 with ⟨e,_⟩ | ⟨e,_⟩ | ⟨_,e⟩
 ·omega
 ·omega
 ·exact e
theorem nG {ol ws:List Wt} {now a:Tm} {l:List Ct} (hn:Va now) (ha:Va a) (hna:¬Mp a now) (ho:∀ w∈ol,WtOk w) (hk:∀ w∈ol,w.known=true->P9 w.c.p now w.fails/\∀ t,w.fails=some t->t∈CN w.c.p) (h:Tz ol a l=some ws) :
 ∀ w∈ws,w.known=true->P9 w.c.p a w.fails/\∀ t,w.fails=some t->t∈CN w.c.p:=by
 obtain ⟨h1,h2⟩:=QE h;intro w hw hkn;obtain ⟨i,hi⟩:=Xt hw;have hil:i<l.length:=by rw [<-h1]; exact (Qe.1 hi).1
 obtain ⟨v,h3,h4⟩:=h2 i _ (Qf hil);rw [hi] at h4; injection h4 with h4; subst h4;rcases NX h3 with e | ⟨v,v1,v2,v3,e,v5⟩
 ·rw [e] at hkn; cases hkn
 ·obtain ⟨k1,k2⟩:=hk v v1 v2;rw [e];show P9 (l[i]).p a v.fails/\∀ t,v.fails=some t->t∈CN (l[i]).p;rw [<-v3];refine ⟨Il hn.cut ha.cut hna k1 λt ht=>?_,k2⟩;obtain ⟨c,c1,c2⟩:=v5 t ht;exact Qnq ((ho v v1).f t ht) ha c1 c2
structure Stab {β:Type} (Bc:Tm->List Ct) (Br:Tm->β):Prop where
 ok:BuildOk Bc
 fin:∃ Ps:List (List Int),(∀ p∈Ps,Cp p)/\∀ a,Va a->∀ x∈Bc a,x.p∈Ps
 st:∀ a b,Va a->Va b->(∀ x∈Bc a,G8 (Fg b) x.p=G8 (Fg a) x.p)->Bc b=Bc a/\Br b=Br a
structure KSt {β:Type} (Bc:Tm->List Ct) (Br:Tm->β) (c:Cr) (r1:β):Prop where
 inv:KInv c
 cs:c.l.map (·.c)=Fj (Bc c.now)
 r:r1=Br c.now
inductive Evs (Bc:Tm->List Ct) (t:Rat):Tm->List Tm->Prop
 | nil {a:Tm} (h:∀ x∈Bc a,∃ o,P9 x.p a o/\∀ u,o=some u->Mp (tq t) u):Evs Bc t a []
 | cons {a e:Tm} {E:List Tm} (he:Va e) (h1:Mp a e) (h2:¬Mp (tq t) e) (h3:∀ x∈Bc a,∃ o,P9 x.p a o/\∀ u,o=some u->¬Mp u e) (h4:∃ x∈Bc a,P9 x.p a (some e)) (h5:Evs Bc t e E):Evs Bc t a (e::E)
theorem Qlx {β:Type} {Bc:Tm->List Ct} {Br:Tm->β} (S:Stab Bc Br) {t:Rat} (ht:Qs 1640000 t) {Ps:Uj} (hP:∀ p∈Ps,Cp p) (hPs:∀ a,Va a->∀ x∈Bc a,x.p∈Ps) :
 ∀ (m:Nat) (c:Cr) (r1:β) (n:Int),mu (Ps.flatMap CN) c.now<=m->KSt Bc Br c r1->¬Mp (tq t) c.now ->
 ∃ c' r' E,VP Bc Br t (m+1) c r1 n=some (c',r',n+(E.length:Nat))/\c'.now=tq t/\KSt Bc Br c' r'/\c'.ev=c.ev+(E.length:Nat)/\E.length<=m/\Evs Bc t c.now E:=by
 have hT:∀ t∈Ps.flatMap CN,Cut (Fe t):=λu hu=>by
  obtain ⟨p,p1,p2⟩:=Zk.1 hu;exact (Qp0 (hP p p1) u p2).cut
 have hq:=CB ht;intro m
 induction m with
 | zero=>?_
 | succ m ih=>?_
 all_goals
  intro c r1 n hm hS hnow;obtain ⟨⟨ok,kk⟩,hcs,hr⟩:=hS;obtain ⟨ws,w1,w2,w3⟩:=nM ok.n ok.l kk;have ok':=Lm ok w1;rw [hcs] at w2;have hc_w:∀ x∈Bc c.now,∃ w∈ws,w.c=x:=λx hx=>by
   have:x∈ws.map (·.c):=by rw [w2]; exact AZ.2 hx
   exact Zg.1 this
  have hw_c:∀ w∈ws,w.c∈Bc c.now:=λw hw=>AZ.1 (by rw [<-w2]; exact Wb hw)
  obtain ⟨o,o1,o2⟩:=Qo0 ok'.l;have fin:(∀ w∈ws,∀ u,w.fails=some u->Mp (tq t) u)->KSt Bc Br ⟨tq t,ws,c.ev⟩ r1/\Evs Bc t c.now []:=λhall=>by
   have hg:∀ x∈Bc c.now,G8 (Fg (tq t)) x.p=G8 (Fg c.now) x.p:=λx hx=>by
    obtain ⟨w,hw,rfl⟩:=hc_w x hx;exact LL (S.ok.p _ ok.n _ hx).dp ok.n hq hnow (w3 w hw).2.1 (hall w hw)
   obtain ⟨s1,s2⟩:=S.st _ _ ok.n hq hg;refine ⟨⟨⟨⟨hq,ok'.l,ok'.k⟩,λw hw _=>⟨Il ok.n.cut hq.cut hnow (w3 w hw).2.1 (hall w hw),(w3 w hw).2.2⟩⟩,?_,?_⟩,.nil λx hx=>?_⟩
   ·show ws.map (·.c)=Fj (Bc (tq t)); rw [w2,s1]
   ·show r1=Br (tq t); rw [s2,hr]
   ·obtain ⟨w,hw,rfl⟩:=hc_w x hx;exact ⟨_,(w3 w hw).2.1,hall w hw⟩
 ·cases o with
  |
   none =>
   obtain ⟨f1,f2⟩:=fin λw hw u hu=>by rw [o2 w hw] at hu; cases hu
   exact ⟨_,_,[],by simp only [VP]; rw [w1]; simp only [X9]; rw [o1]; simp,rfl,f1,by simp,by simp,f2⟩
  |
   some a =>
   obtain ⟨va,⟨w,hw,hwa⟩,hmin⟩:=o2;by_cases h0:0<Fe a t
   ·obtain ⟨f1,f2⟩:=fin λv hv u hu=>by
     have hu':=(ok'.l v hv).f u hu;exact nR hq.cut va.cut hu'.cut ((UA va.cut).1 h0) (hmin v hv u hu)
    exact ⟨_,_,[],by simp only [VP]; rw [w1]; simp only [X9]; rw [o1]; simp [h0],rfl,f1,by simp,by simp,f2⟩
   ·exfalso;obtain ⟨k1,k2,k3⟩:=w3 w hw;rw [hwa] at k2;have:a∈Ps.flatMap CN:=Zk.2 ⟨_,hPs _ ok.n _ (hw_c w hw),k3 a hwa⟩;have:=Ql5 ok.n.cut va.cut hT k2.2.2.1 this;omega
 ·cases o with
  |
   none =>
   obtain ⟨f1,f2⟩:=fin λw hw u hu=>by rw [o2 w hw] at hu; cases hu
   exact ⟨_,_,[],by simp only [VP]; rw [w1]; simp only [X9]; rw [o1]; simp,rfl,f1,by simp,by simp,f2⟩
  |
   some a =>
   obtain ⟨va,⟨w,hw,hwa⟩,hmin⟩:=o2;by_cases h0:0<Fe a t
   ·obtain ⟨f1,f2⟩:=fin λv hv u hu=>by
     have hu':=(ok'.l v hv).f u hu;exact nR hq.cut va.cut hu'.cut ((UA va.cut).1 h0) (hmin v hv u hu)
    exact ⟨_,_,[],by simp only [VP]; rw [w1]; simp only [X9]; rw [o1]; simp [h0],rfl,f1,by simp,by simp,f2⟩
   ·obtain ⟨k1,k2,k3⟩:=w3 w hw;rw [hwa] at k2;have hna:=OF ok.n.cut va.cut k2.2.2.1;have hmem:a∈Ps.flatMap CN:=Zk.2 ⟨_,hPs _ ok.n _ (hw_c w hw),k3 a hwa⟩;have hlt:=Ql5 ok.n.cut va.cut hT k2.2.2.1 hmem;obtain ⟨w2',l1,l2⟩:=gK va ok'.l (Fj (Bc a));have hl:=nG ok.n va hna ok'.l (λv hv _=>(w3 v hv).2) l1;have hS':KSt Bc Br ⟨a,w2',c.ev+1⟩ (Br a):=⟨⟨Orr.lay_ok _ ok' va (S.ok.p a va) (S.ok.n a va) l1,hl⟩,l2,rfl⟩;obtain ⟨c',r',E,g1,g2,g3,g4,g5,g6⟩:=ih ⟨a,w2',c.ev+1⟩ (Br a) (n+1) (by show mu _ a<=m; omega) hS' (λh=>h0 ((UA va.cut).2 h));refine ⟨c',r',a::E,?_,g2,g3,by rw [g4]; simp; omega,by simp; omega,.cons va k2.2.2.1 (λh=>h0 ((UA va.cut).2 h)) (λx hx=>?_) ⟨w.c,hw_c w hw,k2⟩ g6⟩
    ·conv=>lhs; unfold VP
     rw [w1]; simp only [X9]; rw [o1]; simp only [X9]; rw [if_neg h0,l1]; simp only [X9];rw [g1]; simp; omega
    ·obtain ⟨v,hv,rfl⟩:=hc_w x hx;exact ⟨_,(w3 v hv).2.1,hmin v hv⟩
end Orq
namespace Orq
open Orr Go
theorem Qfw {a b:Tm} (ha:Cut (Fe a)) (hb:Cut (Fe b)) (h:¬Mp a b) (h':¬Mp b a):∀ q,Fe a q=Fe b q:=by
 rcases tri ha hb with h1 | h1 | h1
 ·exact absurd h1 h
 ·exact h1
 ·exact absurd h1 h'
theorem dJ {a b b':Tm} (h:∀ q,Fe b q=Fe b' q):Mp a b↔Mp a b':=by
 unfold Mp; simp only [h]
theorem wK {a b b':Tm} (h:∀ q,Fe b q=Fe b' q):Mp b a↔Mp b' a:=by
 unfold Mp; simp only [h]
theorem FI {p:Ui} {a:Tm} (ha:Va a) {t t':Tm} (h:P9 p a (some t)) (h':P9 p a (some t')):∀ q,Fe t q=Fe t' q:=by
 obtain ⟨_,v,l,s,s0,h4,h5⟩:=h;obtain ⟨_,v',l',s',s0',h4',h5'⟩:=h';have es:s=s':=WC (h4 _ ha.cut (λ_ h=>h) l) (h4' _ ha.cut (λ_ h=>h) l');refine Qfw v.cut v'.cut (λhlt=>?_) λhlt=>?_
 ·have:=WC (h4' _ v.cut (FM ha.cut v.cut (OF ha.cut v.cut l)) hlt) h5;omega
 ·have:=WC (h4 _ v'.cut (FM ha.cut v'.cut (OF ha.cut v'.cut l')) hlt) h5';omega
theorem Dk {p:Ui} {a:Tm} (ha:Va a) {t:Tm} (h:P9 p a (some t)) (h':P9 p a none):False:=by
 obtain ⟨h1,v,l,s,s0,h4,h5⟩:=h;rcases h' with h' | ⟨s',s0',h'⟩
 ·exact h1 h'
 ·have e1:=WC (h' _ ha.cut λ_ h=>h) (h4 _ ha.cut (λ_ h=>h) l);have e2:=WC (h' _ v.cut (FM ha.cut v.cut (OF ha.cut v.cut l))) h5;omega
structure Quiet {β:Type} (Bc:Tm->List Ct) (Br:Tm->β) (a b:Tm):Prop where
 va:Va a
 vb:Va b
 le:¬Mp b a
 n:∀ x∈Bc a,∃ o,P9 x.p a o/\∀ u,o=some u->Mp b u
section
variable {β:Type} {Bc:Tm->List Ct} {Br:Tm->β} (S:Stab Bc Br)
include S
theorem Quiet.same {a b:Tm} (h:Quiet Bc Br a b):Bc b=Bc a/\Br b=Br a:=by
 refine S.st a b h.va h.vb λx hx=>?_
 obtain ⟨o,o1,o2⟩:=h.n x hx;exact LL (S.ok.p _ h.va _ hx).dp h.va h.vb h.le o1 o2
theorem AU {a b:Tm} (ha:Va a) (hb:Va b) (h:∀ q,Fe a q=Fe b q):Quiet Bc Br a b:=by
 refine ⟨ha,hb,λh'=>Aw hb.cut hb.cut ((dJ h).1 h') ((dJ h).1 h'),λx hx=>?_⟩;obtain ⟨r,_,r2,_⟩:=NG (S.ok.p _ ha _ hx) ha;refine ⟨r,r2,λu hu=>?_⟩;subst hu;obtain ⟨q,q1,q2⟩:=r2.2.2.1;exact ⟨q,by rw [<-h]; exact q1,q2⟩
theorem eJ {t:Rat} {a:Tm} {E:List Tm} (hE:Evs Bc t a E):∀ {b:Tm} {E':List Tm},Quiet Bc Br a b->Evs Bc t b E'->E.length=E'.length:=by
 induction hE with
 |
  @nil a h =>
  intro b E' hq hE';have hs:=(Quiet.same S hq).1;cases hE' with
  | nil _=>rfl
  |
   cons he h1 h2 h3 h4 h5 =>
   exfalso;obtain ⟨x,hx,hx2⟩:=h4;rw [hs] at hx;obtain ⟨o,o1,o2⟩:=h x hx;obtain ⟨o',o1',o2'⟩:=hq.n x hx;cases o with
   |
    none =>
    cases o' with
    | none=>exact Dk hq.vb hx2 (Il hq.va.cut hq.vb.cut hq.le o1' o2')
    | some u=>exact Dk hq.va o1' o1
   |
    some u =>
    cases o' with
    | none=>exact Dk hq.va o1 o1'
    |
     some u' =>
     have e1:=FI hq.va o1 o1';have e2:=FI hq.vb (Il hq.va.cut hq.vb.cut hq.le o1' o2') hx2;obtain ⟨q,q1,q2⟩:=o2 u rfl;exact h2 ⟨q,q1,by rw [<-e2,<-e1]; exact q2⟩
 |
  @cons a e E he h1 h2 h3 h4 h5 ih =>
  intro b E' hq hE';have hs:=(Quiet.same S hq).1;have nx:∀ x∈Bc a,∀ u,P9 x.p a (some u)->Mp b u/\P9 x.p b (some u):=λx hx u hu=>by
   obtain ⟨o',o1',o2'⟩:=hq.n x hx;cases o' with
   | none=>exact (Dk hq.va hu o1').elim
   |
    some u' =>
    have e1:=FI hq.va o1' hu;have hb':=o2' u' rfl;have hb2:Mp b u:=by obtain ⟨q,q1,q2⟩:=hb'; exact ⟨q,q1,by rw [<-e1]; exact q2⟩
    exact ⟨hb2,Il hq.va.cut hq.vb.cut hq.le hu λv hv=>by injection hv with hv; subst hv; exact hb2⟩
  obtain ⟨x0,hx0,hn0⟩:=h4;obtain ⟨hb0,hnb0⟩:=nx x0 hx0 e hn0;cases hE' with
  |
   nil h' =>
   exfalso;obtain ⟨o,o1,o2⟩:=h' x0 (by rw [hs]; exact hx0);cases o with
   | none=>exact Dk hq.vb hnb0 o1
   |
    some u =>
    have e1:=FI hq.vb o1 hnb0;obtain ⟨q,q1,q2⟩:=o2 u rfl;exact h2 ⟨q,q1,by rw [<-e1]; exact q2⟩
  |
   @cons _ e' E'' he' h1' h2' h3' h4' h5' =>
   obtain ⟨x1,hx1,hn1⟩:=h4';rw [hs] at hx1;have a1:¬Mp e' e:=λhlt=>by
    obtain ⟨o,o1,o2⟩:=h3 x1 hx1;cases o with
    |
     none =>
     obtain ⟨o',o1',o2'⟩:=hq.n x1 hx1;cases o' with
     | none=>exact Dk hq.vb hn1 (Il hq.va.cut hq.vb.cut hq.le o1' o2')
     | some u=>exact Dk hq.va o1' o1
    |
     some u =>
     have e2:=FI hq.vb (nx x1 hx1 u o1).2 hn1;exact o2 u rfl ((wK e2).2 hlt)
   have a2:¬Mp e e':=λhlt=>by
    obtain ⟨o,o1,o2⟩:=h3' x0 (by rw [hs]; exact hx0);cases o with
    | none=>exact Dk hq.vb hnb0 o1
    |
     some u =>
     have e2:=FI hq.vb o1 hnb0;exact o2 u rfl ((wK e2).2 hlt)
   have:=ih (AU S he he' (Qfw he.cut he'.cut a2 a1)) h5';simp [this]
theorem Qn3 {t:Rat} {a:Tm} (ha:Va a) {E E':List Tm} (h:Evs Bc t a E) (h':Evs Bc t a E'):E.length=E'.length:=eJ S h (AU S ha ha λ_=>rfl) h'
end
theorem Qkh {p:Ui} (h:Cp p):(CN p).length<=67:=by
 obtain ⟨l,l1,l2,_⟩:=ZI h;unfold CN; rw [l1]; exact l2
theorem qD:∀ {Ps:Uj},(∀ p∈Ps,Cp p)->(Ps.flatMap CN).length≤67*Ps.length
 | [],_=>Qi _
 |
  p::Ps,h=>by
  have h1:=Qkh (h p (by simp));have h2:=qD (Ps:=Ps) λq hq=>h q (Qg _ hq)
  rw [Jx,Q0,Q4]; omega
theorem Ql4 (T:List Tm) (a:Tm):mu T a<=T.length:=Y0 _ _
theorem iO {β:Type} {Bc:Tm->List Ct} {Br:Tm->β} (S:Stab Bc Br) {a:Tm} (ha:Va a):KSt Bc Br ⟨a,(Fj (Bc a)).map fresh,0⟩ (Br a):=by
 refine ⟨⟨⟨ha,λw hw=>?_,?_⟩,λw hw hk=>?_⟩,?_,rfl⟩
 ·obtain ⟨x,hx,rfl⟩:=Zg.1 hw;exact ⟨S.ok.p _ ha x (XA hx),λt ht=>by cases ht⟩
 ·show ((Fj (Bc a)).map fresh).length<=1000;rw [Zl,Ck]; exact S.ok.n _ ha
 ·obtain ⟨x,hx,rfl⟩:=Zg.1 hw;cases hk
 ·show ((Fj (Bc a)).map fresh).map (·.c)=Fj (Bc a);rw [List.map_map];show (Fj (Bc a)).map (λx=>x)=_;rw [List.map_id']
end Orq
namespace Orr
open Go Go.Proofs Tryz Orq
set_option maxRecDepth 10000
theorem Qbp {a b:Pt} (ha:Sc a.c) (hb:Sc b.c):Cp (Ex a b):=XU (Me ha hb) (Md ha hb)
def JV (l:List Pt) (a:Tm):List Ct:=T0 (Fg a) (Tq a l)
abbrev zS (l:List Pt) (a:Tm):Uo:=Ut (Tq a l)
theorem kR {sg:Ui->Int}:∀ {l:List Pt},(∀ p∈l,Sc p.c)->∀ x∈T0 sg l,Cp x.p
 | [],_,x,hx=>by cases hx
 | [_],_,x,hx=>by cases hx
 |
  a::b::l,h,x,hx=>by
  simp only [T0] at hx;rcases Qm.1 hx with rfl | hx
  ·exact Qbp (h a (by simp)) (h b (by simp))
  ·exact kR (λp hp=>h p (Qg _ hp)) x hx
theorem Hh {t:Tm} {l:List Pt} {p:Pt}:p∈Tq t l↔p∈l:=by
 unfold Tq Lc; rw [YT]; simp
theorem Bn (t:Tm) (l:List Pt):(Tq t l).length=l.length:=AX _ _
theorem uF {l:List Pt} (hl:∀ p∈l,Sc p.c) (hn:l.length≤1000):BuildOk (JV l) :=
 ⟨λa _ x hx=>kR (λp hp=>hl p (Hh.1 hp)) x hx,λa _=>by unfold JV; rw [Ni,Bn]; omega⟩
theorem DV {l:List Pt} {a:Tm} {c:Cr} {r1:Uo} (hl:∀ p∈l,Sc p.c) (hn:l.length≤1000) (ha:Va a):Uz prog 122 [.one (.ow 0 0),.agg (ta a)] [.blk 196 (Ho c (Ut l) r1)] [.one (.row (Fc (JV l a)))] [.blk 196 (Ho c (Ut l) (zS l a))]:=by
 have cr:=xP hl (by omega) ha;have cc:=PK (l:=Tq a l) (t:=a) (λp hp=>hl p (Hh.1 hp)) (by rw [Bn]; omega) ha;refine Gb func122 rfl ?_;exact Ud [] [0] [.k As,.k cr,.k cc] rfl
theorem lZ {l:List Pt} {a:Tm} (hl:∀ p∈l,Sc p.c) (hn:l.length≤1000) (ha:Va a):Uz prog 122 [.one (.ow 0 0),.agg (ta a)] [.blk 196 (fU (.row (Ut l)) .nils)] [.one (.row (Fc (JV l a)))] [.blk 196 (fU (.row (Ut l)) (.row (zS l a)))]:=by
 have cr:=xP hl (by omega) ha;have cc:=PK (l:=Tq a l) (t:=a) (λp hp=>hl p (Hh.1 hp)) (by rw [Bn]; omega) ha;refine Gb func122 rfl ?_;exact Ud [] [0] [.k As,.k cr,.k cc] rfl
def Qg5 (l:List Pt) (a:Tm):Cr:=⟨a,(Fj (JV l a)).map fresh,0⟩
end Orr
namespace Orq
open Orr Go
theorem QB {a:Tm} (ha:Va a):∀ (L:Uj),(∀ p∈L,Dp p)->∃ y,Fe a y=-1/\∀ q,Fe a q=-1->q≤y->∀ p∈L,G8 (Fg a) p=U4 (Uy p q)
 |
  [],_=>by
  obtain ⟨y,hy⟩:=ha.cut.hi;exact ⟨y,hy,λq _ _ p hp=>by cases hp⟩
 |
  p::L,h=>by
  obtain ⟨y,y1,y2⟩:=QB ha L (λq hq=>h q (Qg _ hq));by_cases h0:p.length=0
  ·obtain rfl:=Qh h0;refine ⟨y,y1,λq q1 q2 r hr=>?_⟩;rcases Qm.1 hr with rfl | hr
   ·rw [QN]; exact (Gd.2 rfl).symm
   ·exact y2 q q1 q2 r hr
  ·obtain ⟨⟨z,z1,z2⟩,_⟩:=Lk ha (h p (by simp)) h0;refine ⟨if y<=z then y else z,by split <;> assumption,λq q1 q2 r hr=>?_⟩;rcases Qm.1 hr with rfl | hr
   ·rw [<-U0]; exact (z2 q q1 (by grind)).symm
   ·exact y2 q q1 (by grind) r hr
section Srt
variable {α:Type} {lt:α->α->Bool} {R:α->α->Prop}
theorem EL (irr:∀ x,¬R x x) (tr:∀ x y z,R x y->R y z->R x z):∀ {l m:List α},l.Pairwise R->m.Pairwise R->(∀ x,x∈l↔x∈m)->l=m
 | [],[],_,_,_=>rfl
 | [],y::m,_,_,h=>by have:=(h y).2 (by simp); cases this
 | x::l,[],_,_,h=>by have:=(h x).1 (by simp); cases this
 |
  x::l,y::m,hl,hm,h=>by
  rw [Zb] at hl hm;have e:x=y:=by
   rcases Qm.1 ((h x).1 (by simp)) with e | h1
   ·exact e
   ·rcases Qm.1 ((h y).2 (by simp)) with e | h2
    ·exact e.symm
    ·exact absurd (tr _ _ _ (hl.1 y h2) (hm.1 x h1)) (irr x)
  subst e;rw [EL irr tr hl.2 hm.2 λz=>?_];constructor
  ·intro hz;rcases Qm.1 ((h z).1 (Qg _ hz)) with e | h1
   ·subst e; exact absurd (hl.1 z hz) (irr z)
   ·exact h1
  ·intro hz;rcases Qm.1 ((h z).2 (Qg _ hz)) with e | h1
   ·subst e; exact absurd (hm.1 z hz) (irr z)
   ·exact h1
theorem EP {out:List α} {x:α}:∀ k,k<=out.length->(∀ j y,D6 lt out x k<=j->j<k->out[j]? = some y->lt x y=true)/\(0<D6 lt out x k->∃ y,out[D6 lt out x k-1]? = some y/\lt x y=false)
 | 0,_=>⟨λj y _ h=>by omega,λh=>by simp [D6] at h⟩
 |
  k+1,hk=>by
  obtain ⟨y,hy⟩:=gxE (l:=out) (i:=k) (by omega);by_cases h:lt x y=true
  ·rw [cZ hy h];obtain ⟨h1,h2⟩:=EP (out:=out) (x:=x) k (by omega);refine ⟨λj z a1 a2 a3=>?_,h2⟩;by_cases e:j=k
   ·subst e; rw [hy] at a3; injection a3 with a3; subst a3; exact h
   ·exact h1 j z a1 (by omega) a3
  ·have h:lt x y=false:=by simpa using h
   rw [vA hy h];exact ⟨λj z a1 a2 _=>by omega,λ_=>⟨y,by simpa using hy,h⟩⟩
theorem Qis (tr:∀ x y z,R x y->R y z->R x z) {out:List α} {x:α} (ho:out.Pairwise R) (h1:∀ y∈out,lt x y=true->R x y) (h2:∀ y∈out,lt x y=false->R y x):(Dy lt out x).Pairwise R:=by
 obtain ⟨s1,s2⟩:=EP (lt:=lt) (out:=out) (x:=x) out.length (Ql _);have hle:=qX lt out x out.length;unfold Dy;obtain ⟨k,hk⟩:=nmE (D6 lt out x out.length);rw [<-hk] at s1 s2 hle ⊢;have hd:(out.take k++out.drop k).Pairwise R:=by rw [Zf]; exact ho
 obtain ⟨d1,d2,d3⟩:=Jj.1 hd;have hR:∀ y∈out.drop k,R x y:=λy hy=>by
  obtain ⟨i,hi⟩:=Xt hy;rw [Xa] at hi;have:k+i<out.length:=(Qe.1 hi).1;exact h1 y (Qy hy) (s1 (k+i) y (by omega) this hi)
 have hL:∀ y∈out.take k,R y x:=λy hy=>by
  obtain ⟨i,hi⟩:=Xt hy;have hik:i<k:=by have:=(Qe.1 hi).1; simp at this; omega
  rw [V9 hik] at hi;obtain ⟨z,z1,z2⟩:=s2 (by omega);have hz:=h2 z (Qa z1) z2;by_cases e:i=k-1
  ·subst e; rw [hi] at z1; injection z1 with z1; subst z1; exact hz
  ·have hp:=J9.1 ho i (k-1) (by omega) (by omega) (by omega);obtain ⟨_,e1⟩:=Qe.1 hi;obtain ⟨_,e2⟩:=Qe.1 z1;rw [e1,e2] at hp;exact tr _ _ _ hp hz
 refine Jj.2 ⟨d1,Zb.2 ⟨hR,d2⟩,λy hy z hz=>?_⟩;rcases Qm.1 hz with rfl | hz
 ·exact hL y hy
 ·exact d3 y hy z hz
theorem MM (tr:∀ x y z,R x y->R y z->R x z) {S:α->Prop} (h1:∀ x y,S x->S y->lt x y=true->R x y) {D:α->α->Prop} (h2:∀ x y,S x->S y->D y x->lt x y=false->R y x) :
 ∀ (l acc:List α),acc.Pairwise R->(∀ x∈acc,S x)->(∀ x∈l,S x)->l.Pairwise D->(∀ x∈acc,∀ y∈l,D x y)->(l.foldl (Dy lt) acc).Pairwise R
 | [],acc,ha,_,_,_,_=>ha
 |
  x::l,acc,ha,hs,hl,hd,hx=>by
  rw [Zb] at hd;refine MM tr h1 h2 l (Dy lt acc x) ?_ ?_ (λy hy=>hl y (Qg _ hy)) hd.2 ?_
  ·exact Qis tr ha (λy hy=>h1 x y (hl x (by simp)) (hs y hy)) (λy hy=>h2 x y (hl x (by simp)) (hs y hy) (hx y hy x (by simp)))
  ·intro y hy;rcases KD.1 hy with rfl | hy
   ·exact hl _ (by simp)
   ·exact hs y hy
  ·intro y hy z hz;rcases KD.1 hy with rfl | hy
   ·exact hd.1 z hz
   ·exact hx y hy z (Qg _ hz)
theorem ED:∀ {l:List α},l.Pairwise R->∀ {u v:α},u∈l->v∈l->u≠v->R u v\/R v u
 | [],_,_,_,h,_,_=>by cases h
 |
  x::l,hp,u,v,hu,hv,hne=>by
  rw [Zb] at hp;rcases Qm.1 hu with e | hu
  ·rcases Qm.1 hv with e' | hv
   ·exact absurd (e.trans e'.symm) hne
   ·rw [e]; exact .inl (hp.1 v hv)
  ·rcases Qm.1 hv with e' | hv
   ·rw [e']; exact .inr (hp.1 u hu)
   ·exact ED hp.2 hu hv hne
end Srt
def px (p:Pt) (q:Rat):Rat:=Uy p.c.x q / (p.c.d:Rat)
def py (p:Pt) (q:Rat):Rat:=Uy p.c.y q / (p.c.d:Rat)
def By (q:Rat) (x y:Pt):Prop:=px x q<px y q\/px x q=px y q/\(py x q<py y q\/py x q=py y q/\x.id<y.id)
theorem QO (q:Rat) (x:Pt):¬By q x x:=by unfold By; grind
theorem XT (q:Rat) (x y z:Pt) (h:By q x y) (h':By q y z):By q x z:=by unfold By at *; grind
theorem yT {q:Rat} {x y:Pt} (h:x.id≠y.id) (h':¬By q x y):By q y x:=by unfold By at *; grind
theorem AQ {u v:Rat} {c d:Int} (hc:0<c) (hd:0<d):U4 (v*(c:Rat)-u*(d:Rat))=U4 (v / (d:Rat)-u / (c:Rat)):=by
 have hc':(0:Rat)<(c:Rat):=by exact_mod_cast hc
 have hd':(0:Rat)<(d:Rat):=by exact_mod_cast hd
 have e:v*(c:Rat)-u*(d:Rat)=((c:Rat)*(d:Rat))*(v / (d:Rat)-u / (c:Rat)):=by
  rw [X3,X3];have h1:=J8 (c:Rat) (by grind);have h2:=J8 (d:Rat) (by grind);grind
 rw [e,Bq (Xp hc' hd')]
theorem GP {x y:Pt} (hx:Sc x.c) (hy:Sc y.c) (q:Rat):U4 (Uy (Fz x.c y.c) q)=U4 (px y q-px x q):=by
 unfold Fz px; rw [Mi,Hq,Hq]; exact AQ hx.n.2.2.1 hy.n.2.2.1
theorem GT {x y:Pt} (hx:Sc x.c) (hy:Sc y.c) (q:Rat):U4 (Uy (Fy x.c y.c) q)=U4 (py y q-py x q):=by
 unfold Fy py; rw [Mi,Hq,Hq]; exact AQ hx.n.2.2.1 hy.n.2.2.1
theorem SI {a:Tm} (ha:Va a) {x y:Pt} (hx:Sc x.c) (hy:Sc y.c) {q:Rat} (h1:G8 (Fg a) (Fz x.c y.c)=U4 (Uy (Fz x.c y.c) q)) (h2:G8 (Fg a) (Fy x.c y.c)=U4 (Uy (Fy x.c y.c) q)):Rz (Fg a) x y=true↔By q x y:=by
 rw [GP hx hy] at h1;rw [GT hx hy] at h2;have d1:=(Me hx hy).dp;have d2:=(Md hx hy).dp;unfold Rz;simp only [D4];have t1:=Fi (px y q-px x q);have t2:=Fi (py y q-py x q);by_cases e1:(Fz x.c y.c).length=0
 ·rw [if_neg (by omega)];rw [Qh e1,QN] at h1;have:px x q=px y q:=by grind
  by_cases e2:(Fy x.c y.c).length=0
  ·rw [if_neg (by omega)];rw [Qh e2,QN] at h2;unfold By;simp only [decide_eq_true_eq];grind
  ·rw [if_pos (by omega)];have:=(Lk ha d2 e2).2;unfold By;simp only [decide_eq_true_eq];grind
 ·rw [if_pos (by omega)];have:=(Lk ha d1 e1).2;unfold By;simp only [decide_eq_true_eq];grind
def Lh (l:List Pt):Uj:=l.flatMap λx=>l.flatMap λy=>[Fz x.c y.c,Fy x.c y.c]
theorem Tk {l:List Pt} {x y:Pt} (hx:x∈l) (hy:y∈l):Fz x.c y.c∈Lh l/\Fy x.c y.c∈Lh l :=
 ⟨Zk.2 ⟨x,hx,Zk.2 ⟨y,hy,by simp⟩⟩,Zk.2 ⟨x,hx,Zk.2 ⟨y,hy,by simp⟩⟩⟩
theorem I4 {l:List Pt} (hl:∀ p∈l,Sc p.c):∀ p∈Lh l,Cp p:=λp hp=>by
 obtain ⟨x,hx,hp⟩:=Zk.1 hp;obtain ⟨y,hy,hp⟩:=Zk.1 hp;simp at hp;rcases hp with rfl | rfl
 ·exact Me (hl x hx) (hl y hy)
 ·exact Md (hl x hx) (hl y hy)
theorem cC {l:List Pt} (hl:∀ p∈l,Sc p.c) (hd:l.Pairwise λx y=>x.id≠y.id) {a:Tm} (ha:Va a):∃ y,Fe a y=-1/\∀ q,Fe a q=-1->q≤y->(∀ u∈l,∀ v∈l,(Rz (Fg a) u v=true↔By q u v))/\(Tq a l).Pairwise (By q):=by
 obtain ⟨y,y1,y2⟩:=QB ha (Lh l) λp hp=>(I4 hl p hp).dp
 refine ⟨y,y1,λq q1 q2=>?_⟩;have h:=y2 q q1 q2;have hb:∀ u∈l,∀ v∈l,(Rz (Fg a) u v=true↔By q u v):=λu hu v hv=>SI ha (hl u hu) (hl v hv) (h _ (Tk hu hv).1) (h _ (Tk hu hv).2)
 refine ⟨hb,?_⟩;exact MM (S:=λx=>x∈l) (D:=λx y=>x.id≠y.id) (XT q) (λu v hu hv h=>(hb u hu v hv).1 h) (λu v hu hv hne h=>yT (λe=>hne e.symm) λh'=>by
  rw [(hb u hu v hv).2 h'] at h; cases h) l [] .nil (λx hx=>by cases hx) (λx hx=>hx) hd (λx hx=>by cases hx)
theorem rU {a b:Tm} {x y:Pt} (h:G8 (Fg b) (Ex x y)=G8 (Fg a) (Ex x y)):Rz (Fg b) x y=Rz (Fg a) x y:=by
 unfold Ex Dx at h;unfold Rz;simp only [D4];by_cases e1:0<(Fz x.c y.c).length
 ·rw [if_pos e1,if_pos e1]; rw [if_pos e1] at h; rw [h]
 ·rw [if_neg e1,if_neg e1]; rw [if_neg e1] at h; rw [h]
theorem PS {a b:Tm} {q r:Rat}:∀ (l:List Pt),(∀ u∈l,∀ v∈l,(Rz (Fg a) u v=true↔By q u v))->(∀ u∈l,∀ v∈l,(Rz (Fg b) u v=true↔By r u v))->l.Pairwise (By q)->(∀ x∈T0 (Fg a) l,G8 (Fg b) x.p=G8 (Fg a) x.p)->l.Pairwise (By r)/\T0 (Fg b) l=T0 (Fg a) l
 | [],_,_,_,_=>⟨.nil,rfl⟩
 | [x],_,_,_,_=>⟨Kf _ _,rfl⟩
 |
  x::y::l,ha,hb,hp,hc=>by
  rw [Zb] at hp;obtain ⟨i1,i2⟩:=PS (a:=a) (b:=b) (q:=q) (r:=r) (y::l) (λu hu v hv=>ha u (Qg _ hu) v (Qg _ hv)) (λu hu v hv=>hb u (Qg _ hu) v (Qg _ hv)) hp.2 (λz hz=>hc z (by simp only [T0]; exact Qg _ hz));have h0:G8 (Fg b) (Ex x y)=G8 (Fg a) (Ex x y):=hc (Ow (Fg a) x y) (by simp [T0]);have h1:By r x y:=(hb x (by simp) y (by simp)).1 (by rw [rU h0]; exact (ha x (by simp) y (by simp)).2 (hp.1 y (by simp)));refine ⟨Zb.2 ⟨λz hz=>?_,i1⟩,?_⟩
  ·rcases Qm.1 hz with rfl | hz
   ·exact h1
   ·exact XT r x y z h1 ((Zb.1 i1).1 z hz)
  ·simp only [T0];rw [i2]; congr 1;unfold Ow; rw [h0]
theorem GH {sg:Ui->Int}:∀ {l:List Pt},∀ x∈T0 sg l,∃ u∈l,∃ v∈l,x.p=Ex u v
 | [],x,hx=>by cases hx
 | [_],x,hx=>by cases hx
 |
  a::b::l,x,hx=>by
  simp only [T0] at hx;rcases Qm.1 hx with rfl | hx
  ·exact ⟨a,by simp,b,by simp,rfl⟩
  ·obtain ⟨u,hu,v,hv,e⟩:=GH (l:=b::l) x hx;exact ⟨u,Qg _ hu,v,Qg _ hv,e⟩
theorem EF {l:List Pt} {u v:Pt} (hu:u∈l) (hv:v∈l):Ex u v∈Lh l:=by
 unfold Ex Dx; split
 ·exact (Tk hu hv).1
 ·exact (Tk hu hv).2
theorem sC {l:List Pt} {a:Tm}:∀ x∈JV l a,x.p∈Lh l:=λx hx=>by
 obtain ⟨u,hu,v,hv,e⟩:=GH x hx;rw [e]; exact EF (Hh.1 hu) (Hh.1 hv)
theorem zA (l:List Pt):(Lh l).length=l.length*(l.length*2):=by
 have h1:∀ (x:Pt) (m:List Pt),(m.flatMap λy=>[Fz x.c y.c,Fy x.c y.c]).length=m.length*2:=λx m=>by
  induction m with
  | nil=>rfl
  | cons y m ih=>rw [Jx,Q0,ih,Q4]; simp; omega
 have h2:∀ m:List Pt,(m.flatMap λx=>l.flatMap λy=>[Fz x.c y.c,Fy x.c y.c]).length=m.length*(l.length*2):=λm=>by
  induction m with
  | nil=>simp
  | cons y m ih=>rw [Jx,Q0,ih,Q4,h1,X2,Wh,Jr]
 exact h2 l
theorem kB {l:List Pt} (hl:∀ p∈l,Sc p.c) (hd:l.Pairwise λx y=>x.id≠y.id) {a b:Tm} (ha:Va a) (hb:Va b) (h:∀ x∈JV l a,G8 (Fg b) x.p=G8 (Fg a) x.p):Tq b l=Tq a l/\JV l b=JV l a:=by
 obtain ⟨q,q1,q2⟩:=cC hl hd ha;obtain ⟨r,r1,r2⟩:=cC hl hd hb;obtain ⟨a1,a2⟩:=q2 q q1 Qp;obtain ⟨b1,b2⟩:=r2 r r1 Qp;obtain ⟨c1,c2⟩:=PS (a:=a) (b:=b) (Tq a l) (λu hu v hv=>a1 u (Hh.1 hu) v (Hh.1 hv)) (λu hu v hv=>b1 u (Hh.1 hu) v (Hh.1 hv)) a2 h;have e:Tq b l=Tq a l:=EL (QO r) (XT r) b2 c1 λx=>by rw [Hh,Hh]
 exact ⟨e,by unfold JV; rw [e,c2]⟩
theorem Qsa {l:List Pt} (hl:∀ p∈l,Sc p.c) (hn:l.length≤1000) (hd:l.Pairwise λx y=>x.id≠y.id):Stab (JV l) (zS l):=by
 refine ⟨uF hl hn,⟨Lh l,I4 hl,λa _ x hx=>?_⟩,λa b ha hb h=>?_⟩
 ·obtain ⟨u,hu,v,hv,e⟩:=GH x hx;rw [e]; exact EF (Hh.1 hu) (Hh.1 hv)
 ·obtain ⟨e1,e2⟩:=kB hl hd ha hb h;exact ⟨e2,by unfold zS; rw [e1]⟩
end Orq
namespace Orq
theorem ang {ux uy vx vy wx wy:Rat} (hu:0<ux\/ux=0/\0<uy) (hv:0<vx\/vx=0/\0<vy) (hw:0<wx\/wx=0/\0<wy)
 (h1:0<=ux*vy-vx*uy) (h2:0<=vx*wy-wx*vy):0<=ux*wy-wx*uy/\(0<ux*vy-vx*uy\/0<vx*wy-wx*vy->0<ux*wy-wx*uy):=by
 have ux0:0<=ux:=by grind
 have wx0:0<=wx:=by grind
 rcases hv with hv | ⟨hv,hv2⟩
 ·have e:vx*(ux*wy-wx*uy)=ux*(vx*wy-wx*vy)+wx*(ux*vy-vx*uy):=by grind
  have hux:0<ux:=by
   rcases hu with h | ⟨h,h'⟩
   ·exact h
   ·have:=Xp hv h';rw [h] at h1; grind
  have p1:=Y8 ux0 h2;have p2:=Y8 wx0 h1;have key:∀ z:Rat,vx*z=ux*(vx*wy-wx*vy)+wx*(ux*vy-vx*uy)->0<=z:=λz hz=>by
   refine K9.1 λhn=>?_
   have:=Xp hv (show 0 < -z by grind);grind
  refine ⟨key _ e,λhs=>?_⟩;rcases hw with hw | ⟨hw,hw2⟩
  ·have hpos:0<vx*(ux*wy-wx*uy):=by
    rcases hs with hs | hs
    ·have:=Xp hw hs; grind
    ·have:=Xp hux hs; grind
   have h0:=key _ e;refine Jo.1 λhn=>?_
   have:ux*wy-wx*uy=0:=by grind
   rw [this] at hpos; grind
  ·have:=Xp hux hw2;rw [hw]; grind
 ·rw [hv] at h1 h2;have hw0:wx=0:=by
   rcases hw with hw | hw
   ·have:=Xp hw hv2; grind
   ·exact hw.1
  have hwy:0<wy:=by grind
  have p:=Y8 ux0 (Qq hwy);refine ⟨by rw [hw0]; grind,λhs=>?_⟩;rw [hv,hw0] at hs;have hux:0<ux:=by
   rcases hs with hs | hs
   ·refine Jo.1 λhn=>?_
    have:ux=0:=by grind
    rw [this] at hs; grind
   ·grind
  have:=Xp hux hwy;rw [hw0]; grind
section
variable {α:Type} (X Y:α->Rat)
def lx (a b:α):Prop:=X a<X b\/X a=X b/\Y a<Y b
def M5 (a b c:α):Rat:=(X b-X a)*(Y c-Y a)-(X c-X a)*(Y b-Y a)
variable {X Y}
theorem Dz (a:α):¬lx X Y a a:=by unfold lx; grind
theorem yN {a b c:α} (h:lx X Y a b) (h':lx X Y b c):lx X Y a c:=by unfold lx at *; grind
theorem D2 {a b:α} (h:lx X Y a b):0<X b-X a\/X b-X a=0/\0<Y b-Y a:=by unfold lx at h; grind
theorem WW (a b:α):M5 X Y a b a=0/\M5 X Y a b b=0:=by unfold M5; grind
theorem vU (a b c:α):M5 X Y a c b=- M5 X Y a b c:=by unfold M5; grind
theorem OL (a b c:α):M5 X Y a b c=(X b-X a)*(Y c-Y b)-(X c-X b)*(Y b-Y a):=by unfold M5; grind
def Edg (Q:α->α->Prop):List α->Prop
 | a::b::r=>Q a b/\Edg Q (b::r)
 | _=>True
def Cnv (R:α->α->α->Prop):List α->Prop
 | a::b::c::r=>R a b c/\Cnv R (b::c::r)
 | _=>True
theorem Edg.tail {Q:α->α->Prop} {a:α} {l:List α} (h:Edg Q (a::l)):Edg Q l:=by
 cases l with
 | nil=>trivial
 | cons b l=>exact h.2
theorem Cnv.tail {R:α->α->α->Prop} {a:α} {l:List α} (h:Cnv R (a::l)):Cnv R l:=by
 match l,h with
 | [],_=>trivial
 | [_],_=>trivial
 | b::c::l,h=>exact h.2
def Dq (s:α->α->α->Bool) (c:α):List α->List α
 | b::a::r=>if s a b c=true then b::a::r else Dq s c (a::r)
 | l=>l
def Pd (s:α->α->α->Bool):List α->List α->List α
 | acc,[]=>acc
 | acc,c::l=>Pd s (c::Dq s c acc) l
structure Stk (X Y:α->Rat) (P:List α) (st:List α):Prop where
 srt:st.Pairwise λb a=>lx X Y a b
 mem:∀ p∈st,p∈P
 edg:Edg (λb a=>∀ p∈P,0≤M5 X Y a b p) st
 cnv:Cnv (λc b a=>0<M5 X Y a b c) st
theorem Stk.tail {P:List α} {a:α} {st:List α} (h:Stk X Y P (a::st)):Stk X Y P st:=⟨(Zb.1 h.srt).2,λp hp=>h.mem p (Qg _ hp),h.edg.tail,h.cnv.tail⟩
theorem Qeh {P:List α} {s:α->α->α->Bool} {c:α} (hs:∀ a∈P,∀ b∈P,(s a b c=true↔0<M5 X Y a b c)) (hc:∀ p∈P,lx X Y p c) :
 ∀ (st:List α) (t:α),Stk X Y P (t::st)->(∀ p∈P,lx X Y t p->0≤M5 X Y t c p) ->
 ∃ t' st',Dq s c (t::st)=t'::st'/\Stk X Y P (t'::st')/\(∀ p∈P,lx X Y t' p->0≤M5 X Y t' c p)/\(∀ a r,st'=a::r->0<M5 X Y a t' c)/\(t'::st').getLast? = (t::st).getLast?
 | [],t,h,h2=>⟨t,[],rfl,h,h2,λa r e=>(by cases e),rfl⟩
 |
  a::r,t,h,h2=>by
  have ht:=h.mem t (by simp);have ha:=h.mem a (by simp);by_cases e:s a t c=true
  ·refine ⟨t,a::r,by simp only [Dq]; rw [if_pos e],h,h2,λa' r' e'=>?_,rfl⟩;injection e' with e1 _
   rw [<-e1]; exact (hs a ha t ht).1 e
  ·have hle:M5 X Y a t c<=0:=K9.1 λh'=>e ((hs a ha t ht).2 h')
   have hat:lx X Y a t:=(Zb.1 h.srt).1 a (by simp);obtain ⟨t',st',g1,g2,g3,g4,g5⟩:=Qeh hs hc r a h.tail λp hp hap=>by
    have e1:=h.edg.1 p hp;have k:=ang (D2 (hc a ha)) (D2 hat) (D2 hap) (by rw [vU] at *; unfold M5 at *; grind) (by unfold M5 at *; grind);unfold M5; grind
   exact ⟨t',st',by simp only [Dq]; rw [if_neg e]; exact g1,g2,g3,g4,by rw [g5]; rfl⟩
theorem LJ {P:List α} {c:α}:∀ (st:List α) (t:α),Stk X Y P (t::st)->lx X Y t c->(∀ a r,st=a::r->0<M5 X Y a t c)->Edg (λb a=>0<M5 X Y a b c) (t::st)
 | [],_,_,_,_=>trivial
 | [a],t,_,_,h=>⟨h a [] rfl,trivial⟩
 |
  a::q::r,t,hS,htc,h=>by
  have h1:=h a (q::r) rfl;have h0:0<M5 X Y q a t:=hS.cnv.1;have p1:=Zb.1 hS.srt;have p2:=Zb.1 p1.2;have hat:lx X Y a t:=p1.1 a (by simp);have hqa:lx X Y q a:=p2.1 q (by simp);refine ⟨h1,LJ (q::r) a hS.tail (yN hat htc) λa' r' e=>?_⟩;injection e with e _;rw [<-e];rw [OL] at h0 h1 ⊢;have k:=(ang (D2 hqa) (D2 hat) (D2 htc) (Qq h0) (Qq h1)).2 (.inl h0);grind
theorem Qjo {P:List α} {t:α} {st:List α} {c:α} (h:Stk X Y P (t::st)) (hc:∀ p∈P,lx X Y p c) (hP:∀ p∈P,p=t\/lx X Y p t\/lx X Y t p) (hb:∀ p∈P,(t::st).getLast? = some p\/∃ b,(t::st).getLast? = some b/\lx X Y b p) (h2:∀ p∈P,lx X Y t p->0≤M5 X Y t c p) (h3:∀ a r,st=a::r->0<M5 X Y a t c):Stk X Y (P++[c]) (c::t::st):=by
 have ht:=h.mem t (by simp);have htc:=hc t ht;have hf:=LJ st t h htc h3;refine ⟨Zb.2 ⟨λp hp=>hc p (h.mem p hp),h.srt⟩,λp hp=>?_,⟨λp hp=>?_,?_⟩,?_⟩
 ·rcases Qm.1 hp with rfl | hp
  ·simp
  ·exact Xu _ (h.mem p hp)
 ·rcases Qr.1 hp with hp | hp
  ·rcases hP p hp with rfl | hpt | htp
   ·rw [(WW p c).1]; exact Qp
   ·cases st with
    |
     nil =>
     exfalso;rcases hb p hp with e | ⟨b,e,hb⟩
     ·injection e with e; subst e; exact Dz _ hpt
     ·injection e with e; subst e; exact Dz _ (yN hpt hb)
    |
     cons a r =>
     have e1:=h.edg.1 p hp;have h3:=h3 a r rfl;have hat:lx X Y a t:=(Zb.1 h.srt).1 a (by simp);have k:=(ang (D2 hpt) (D2 hat) (D2 htc) (by unfold M5 at *; grind) (by unfold M5 at *; grind)).1;unfold M5; grind
   ·exact h2 p hp htp
  ·rw [Qj.1 hp,(WW t c).2]; exact Qp
 ·cases st with
  | nil=>trivial
  |
   cons a r =>
   have key:∀ l:List α,Edg (λb a=>∀ p∈P,0≤M5 X Y a b p) l->Edg (λb a=>0<M5 X Y a b c) l->Edg (λb a=>∀ p∈P++[c],0≤M5 X Y a b p) l:=by
    intro l
    induction l with
    | nil=>intros; trivial
    |
     cons x l ih =>
     cases l with
     | nil=>intros; trivial
     |
      cons y l =>
      intro k1 k2;refine ⟨λp hp=>?_,ih k1.2 k2.2⟩;rcases Qr.1 hp with hp | hp
      ·exact k1.1 p hp
      ·rw [Qj.1 hp]; exact Qq k2.1
   exact key _ h.edg hf
 ·cases st with
  | nil=>trivial
  | cons a r=>exact ⟨h3 a r rfl,h.cnv⟩
theorem DF {s:α->α->α->Bool} {row:List α} (hs:∀ a∈row,∀ b∈row,∀ c∈row,(s a b c=true↔0<M5 X Y a b c)) (hrow:row.Pairwise (lx X Y)) :
 ∀ (l P:List α) (t:α) (st:List α),row=P++l->Stk X Y P (t::st)->P.getLast? = some t->(t::st).getLast? = P.head? ->
 ∃ t' st',Pd s (t::st) l=t'::st'/\Stk X Y row (t'::st')/\row.getLast? = some t'/\(t'::st').getLast? = row.head?
 |
  [],P,t,st,e,h,h1,h2=>by
  rw [Zy] at e; subst e;exact ⟨t,st,rfl,h,h1,h2⟩
 |
  c::l,P,t,st,e,h,h1,h2=>by
  have hPm:∀ p∈P,p∈row:=λp hp=>by rw [e]; exact Xu _ hp
  have hcm:c∈row:=by rw [e]; simp
  have hpw:=hrow;rw [e] at hpw;obtain ⟨w1,w2,w3⟩:=Jj.1 hpw;have hc:∀ p∈P,lx X Y p c:=λp hp=>w3 p hp c (by simp)
  have htop:∀ p∈P,p=t\/lx X Y p t:=λp hp=>by
   obtain ⟨P1,rfl⟩:∃ P1,P=P1++[t]:=by
    have:=Y7.1 h1;exact this
   rcases Qr.1 hp with hp | hp
   ·exact .inr ((Jj.1 w1).2.2 p hp t (by simp))
   ·exact .inl (Qj.1 hp)
  obtain ⟨t',st',g1,g2,g3,g4,g5⟩:=Qeh (λa ha b hb=>hs a (hPm a ha) b (hPm b hb) c hcm) hc st t h λp hp htp=>by
   rcases htop p hp with rfl | h'
   ·exact absurd htp (Dz _)
   ·exact absurd (yN htp h') (Dz _)
  have tot:∀ p∈P,p=t'\/lx X Y p t'\/lx X Y t' p:=λp hp=>by
   obtain ⟨i,hi,rfl⟩:=Vu.1 hp;obtain ⟨j,hj,e2⟩:=Vu.1 (g2.mem t' (by simp));rcases Kh i j with h' | h' | h'
   ·exact .inr (.inl (by rw [<-e2]; exact J9.1 w1 i j hi hj h'))
   ·subst h'; exact .inl e2
   ·exact .inr (.inr (by rw [<-e2]; exact J9.1 w1 j i hj hi h'))
  have hPne:P≠[]:=λh'=>by rw [h'] at h1; cases h1
  have hb:∀ p∈P,(t'::st').getLast? = some p\/∃ b,(t'::st').getLast? = some b/\lx X Y b p:=λp hp=>by
   rw [g5,h2];cases P with
   | nil=>exact absurd rfl hPne
   |
    cons f P' =>
    rcases Qm.1 hp with rfl | hp
    ·exact .inl rfl
    ·exact .inr ⟨f,rfl,(Zb.1 w1).1 p hp⟩
  have hpush:=Qjo g2 hc tot hb g3 g4;obtain ⟨t2,st2,k1,k2,k3,k4⟩:=DF hs hrow l (P++[c]) c (t'::st') (by rw [e]; simp) hpush (by simp) (by
   rw [Jw,g5,h2];cases P with
   | nil=>exact absurd rfl hPne
   | cons f P'=>rfl)
  exact ⟨t2,st2,by simp only [Pd]; rw [g1]; exact k1,k2,k3,k4⟩
theorem Qbj {P:List α} (tot:∀ p∈P,∀ q∈P,p=q\/lx X Y p q\/lx X Y q p) {z:α} :
 ∀ (L L':List α) (f:α),(f::L).Pairwise (lx X Y)->(f::L').Pairwise (lx X Y)->(∀ p∈f::L,p∈P)->(∀ p∈f::L',p∈P) ->
 Edg (λa b=>∀ p∈P,0≤M5 X Y a b p) (f::L)->Edg (λa b=>∀ p∈P,0≤M5 X Y a b p) (f::L') ->
 Cnv (λa b c=>0<M5 X Y a b c) (f::L)->Cnv (λa b c=>0<M5 X Y a b c) (f::L')->(f::L).getLast? = some z->(f::L').getLast? = some z->L=L':=by
 have one:∀ (L L':List α) (f b b':α),(f::b::L).Pairwise (lx X Y)->(f::b'::L').Pairwise (lx X Y)->(∀ p∈f::b::L,p∈P)->b'∈P ->
  Edg (λa b=>∀ p∈P,0≤M5 X Y a b p) (f::b::L)->0≤M5 X Y f b' b->Cnv (λa b c=>0<M5 X Y a b c) (f::b::L)->(f::b::L).getLast? = some z->(f::b'::L').getLast? = some z->¬lx X Y b b':=by
  intro L L' f b b' s s' m m' e e' c l l' hlt;have s1:=Zb.1 s;have hfb:lx X Y f b:=s1.1 b (by simp);have hcol:M5 X Y f b b'=0:=by
   have:=e.1 b' m';rw [vU] at e'; grind
  cases L with
  |
   nil =>
   simp at l;subst l;have hz:b'=b\/lx X Y b' b:=by
    have:b∈f::b'::L':=Vv l';have s2:=(Zb.1 s').2;rcases Qm.1 this with rfl | h
    ·exact absurd hfb (Dz _)
    ·rcases Qm.1 h with h | h
     ·exact .inl h.symm
     ·exact .inr ((Zb.1 s2).1 b h)
   rcases hz with rfl | hz
   ·exact Dz _ hlt
   ·exact Dz _ (yN hlt hz)
  |
   cons d M =>
   have h1:0<M5 X Y f b d:=c.1;have h2:=e.2.1 b' m';have s2:=Zb.1 s1.2;have hbd:lx X Y b d:=s2.1 d (by simp);have k:=(ang (D2 hlt) (D2 hfb) (D2 hbd) (by unfold M5 at hcol; grind) (by rw [OL] at h1; exact Rat.le_of_lt h1)).2 (.inr (by rw [OL] at h1; exact h1));unfold M5 at h2; grind
 intro L
 induction L with
 |
  nil =>
  intro L' f s s' m m' e e' c c' l l';simp at l;cases L' with
  | nil=>rfl
  |
   cons b' M' =>
   exfalso;subst l;have h1:=(Zb.1 s').1 f (by
    rw [Jw] at l';exact Vv l')
   exact Dz _ h1
 |
  cons b M ih =>
  intro L' f s s' m m' e e' c c' l l';cases L' with
  |
   nil =>
   exfalso;simp at l';subst l';have h1:=(Zb.1 s).1 f (by
    rw [Jw] at l;exact Vv l)
   exact Dz _ h1
  |
   cons b' M' =>
   have hb:=m b (by simp);have hb':=m' b' (by simp);have heq:b=b':=by
    rcases tot b hb b' hb' with h | h | h
    ·exact h
    ·exact absurd h (one M M' f b b' s s' m hb' e (e'.1 b hb) c l l')
    ·exact absurd h (one M' M f b' b s' s m' hb e' (e.1 b' hb') c' l' l)
   subst heq;rw [Jw] at l l';rw [ih M' b (Zb.1 s).2 (Zb.1 s').2 (λp hp=>m p (Qg _ hp)) (λp hp=>m' p (Qg _ hp)) e.2 e'.2 c.tail c'.tail l l']
end
end Orq
namespace Orr
open Go
structure RawInt where
 b:Bool
 l:List Nat
structure RawPt where
 x:List RawInt
 y:List RawInt
 d:RawInt
 id:Int
structure RawInt.Ok (z:RawInt):Prop where
 u:∀ u∈z.l,u<4294967296
structure RawPt.Ok (z:RawPt):Prop where
 x:∀ a∈z.x,a.Ok
 y:∀ a∈z.y,a.Ok
 d:z.d.Ok
 id:-9223372036854775808<=z.id/\z.id<=9223372036854775807
end Orr
namespace Orr
def Ld (l:List Pt):Prop:=l.Pairwise λa b=>a.id<b.id
theorem Qcx (p:Pt) (l:List Pt) (id:Int):has (p::l) id=if p.id<id then has l id else decide (p.id=id):=by
 by_cases h:p.id<id
 ·rw [if_pos h]; unfold has; simp only [P6]; rw [if_pos h]; simp
 ·rw [if_neg h]; unfold has; simp only [P6]; rw [if_neg h]; simp
theorem Qem (p:Pt) (l:List Pt) (q:Pt):put (p::l) q=if p.id<q.id then p::put l q else q::p::l:=by
 unfold put;simp only [P6]
 split <;> simp
theorem BK:∀ {l:List Pt} {q:Pt},Ld l->has l q.id=false->Ld (put l q)
 | [],q,_,_=>by simp [put,P6,Ld]
 |
  p::l,q,h,hn=>by
  have h1:=Zb.1 h;rw [Qcx] at hn;rw [Qem]
  split
  ·rename_i hlt;rw [if_pos hlt] at hn;refine Zb.2 ⟨λx hx=>?_,BK h1.2 hn⟩;rcases TA hx with rfl | hx
   ·exact hlt
   ·exact h1.1 x hx
  ·rename_i hge;rw [if_neg hge,decide_eq_false_iff_not] at hn;refine Zb.2 ⟨λx hx=>?_,h⟩;rcases Qm.1 hx with rfl | hx
   ·omega
   ·have:=h1.1 x hx; omega
end Orr
namespace Orr
open Go
section
variable {α:Type} {lt:α->α->Bool}
theorem eS (out:List α) (c:α):(Dy lt out c).Perm (c::out):=by
 unfold Dy;exact (List.perm_middle).trans (by rw [Zf])
theorem MP:∀ (l acc:List α),(l.foldl (Dy lt) acc).Perm (l++acc)
 | [],acc=>List.Perm.refl _
 |
  c::l,acc=>by
  simp only [Z7];exact (MP l _).trans (((eS acc c).append_left l).trans List.perm_middle)
theorem tM (l:List α):(Lc lt l).Perm l:=by
 have:=MP (lt:=lt) l [];rwa [Zy] at this
end
end Orr
namespace Orr
open Go
theorem Qcm (c:Int) (l:Ui):Rj (l.map (· * c))=Rj l*c.natAbs:=by
 have key:∀ (l:Ui) (g:Nat),(l.map (· * c)).foldl (λg z=>Nat.gcd g z.natAbs) (g*c.natAbs)=l.foldl (λg z=>Nat.gcd g z.natAbs) g*c.natAbs:=by
  intro l
  induction l with
  | nil=>intro g; rfl
  |
   cons z l ih =>
   intro g;simp only [Zz,Z7,J6,Nat.gcd_mul_right];exact ih _
 have:=key l 0;rwa [Yh] at this
theorem Qr3 {M:List Pt} (hs:Ld M) {i j:Nat} {p r:Pt} (hij:i<j) (hi:M[i]? = some p) (hj:M[j]? = some r):p.id<r.id:=by
 obtain ⟨h1,e1⟩:=Qe.1 hi;obtain ⟨h2,e2⟩:=Qe.1 hj;rw [<-e1,<-e2];exact J9.1 hs i j h1 h2 hij
end Orr
