/- T22 T23 T24 T25 G1 G2 SortL KinL K1 K2 F6 F7 F8 F9 G3 G4 K3 K4 KGoL SplitL S1 -/
import Derived.Test.YthgaepodbpcjdaaGreatPart06
import Derived.Test.YthgaepodbpcjdaaGreatPart00
import Derived.Test.YthgaepodbpcjdaaGreatPart05
import Derived.Test.YthgaepodbpcjdaaGreatPart04
set_option linter.all false
namespace Orq
open Orr Go
def CmpOk (a b:Tm) (c:Int):Prop:=c=-1/\S7 a b\/c=0/\TEq a b\/c=1/\S7 b a
theorem Va.hv0 {t:Tm} (h:Va t):∃ D M k,Hv t D M k t/\0<M/\Ug (D:Int)+Ug (M:Int)+k<=lim t:=by
 obtain ⟨D,M,k,h1,h2,h3,h4⟩:=h.g;exact ⟨D,M,k,⟨rfl,h.i,λ_=>rfl,h1,h2⟩,h3,h4⟩
theorem Qva {a:Tm} (ha:Va a) (hp:a.point=true) (q:Rat):Ue a q=Fp a.lo q:=Ld (ha.pt hp).1 q
theorem Q38 {a b:Tm} (hb:Va b) {x:Rat} (hx:∀ q,Ue a q=Fp x q):CmpOk a b (-Ue b x):=by
 have cb:=hb.cut;rcases cb.val x with h | h | h
 ·obtain ⟨q,q1,q2⟩:=cb.up x h;refine .inl ⟨by omega,q,?_,q2⟩;rw [hx]; rcases Me x q with ⟨e,e'⟩ | ⟨e,e'⟩ | ⟨e,e'⟩ <;> grind
 ·exact .inr (.inl ⟨by omega,λq=>by rw [hx,Qp2 cb h]⟩)
 ·obtain ⟨q,q1,q2⟩:=cb.dn x h;refine .inr (.inr ⟨by omega,q,q2,?_⟩);rw [hx]; rcases Me x q with ⟨e,e'⟩ | ⟨e,e'⟩ | ⟨e,e'⟩ <;> grind
theorem CmpOk.symm {a b:Tm} {c:Int} (h:CmpOk a b c):CmpOk b a (-c):=by
 rcases h with ⟨h1,h2⟩ | ⟨h1,h2⟩ | ⟨h1,h2⟩
 ·exact .inr (.inr ⟨by omega,h2⟩)
 ·exact .inr (.inl ⟨by omega,λq=>(h2 q).symm⟩)
 ·exact .inl ⟨by omega,h2⟩
theorem Zkq:Szz 9 1260:=⟨by decide,by decide⟩
theorem Qcw (g:List Int) (lo hi:Rat):Qcv g lo hi=true↔Quj (cz g) lo hi:=by
 unfold Qcv Quj;rw [decide_eq_true_iff,Sy,Qq1,W5]
theorem Qqp {g:List Int} (tg:Ua g) (hn:g.length≠0) {lo hi:Rat} (h:Quj (cz g) lo hi):1<g.length:=by
 rcases Zb 1 g.length with e | e
 ·exact e
 ·exfalso;obtain ⟨c,rfl⟩:∃ c,g=[c]:=V9.1 (by omega);have hc:c≠0:=by have:=G7 tg (by simp); simpa using this
  have hv:∀ t,ev (cz [c]) t=(c:Rat):=λt=>by rw [W5]; simp only [W4]; grind
  have hs:W7 (c:Rat)≠0:=λh=>Is hc (Ux.1 h)
  unfold Quj at h;rw [hv,Du (by rw [hv]; exact hs),hv] at h;rcases h with h | h
  ·exact hs h
  ·exact h rfl
theorem Qir {q:Rat}:Uc q<=((2^Ug q.num:Nat):Rat):=by
 have h1:Ug q.num<=Ug q.num:=Qm _;rw [Mg] at h1;have e:(q.num:Rat)=q*(q.den:Rat):=by
  have:(q.num:Rat) / (((q.den:Int)):Rat)=q:=by rw [Gj,X2]
  have h2:(q.num:Rat) / (q.den:Rat)*(q.den:Rat)=q.num:=Zc (by have:=nat_pos q.den_pos; grind);rw [show (q.num:Rat) / (q.den:Rat)=q from this] at h2; exact h2.symm
 have hd:(1:Rat)<=(q.den:Rat):=by
  have:((1:Nat):Rat)<=(q.den:Rat):=Zh.2 q.den_pos;exact this
 have h2:Uc q<=Uc (q.num:Rat):=by
  rw [e,Ll];have:Uc (q.den:Rat)=(q.den:Rat):=by unfold Uc; rw [if_neg (by grind)]
  rw [this];have:=Mj (a:=Uc q) (c:=1) (Ge q) Qo (by decide) hd;grind
 rw [H5] at h2;exact Zf h2 (Zh.2 (J4 h1))
theorem Qfi {a:Tm} {w:Nat} (h:Ug a.lo.num+Ug a.hi.num<=w):a.hi-a.lo<=((2^(w+1):Nat):Rat):=by
 have h1:=Qir (q:=a.lo);have h2:=Qir (q:=a.hi);have h3:((2^Ug a.lo.num:Nat):Rat)<=((2^w:Nat):Rat):=Zh.2 (Zs (by decide) (by omega));have h4:((2^Ug a.hi.num:Nat):Rat)<=((2^w:Nat):Rat):=Zh.2 (Zs (by decide) (by omega));rw [Qrw];rw [Tq] at h1 h2;grind
theorem Ey {p:List Int} {s:Nat} (h:Bd s p):Fe p<=s:=by
 have:=Tp h p.length; rwa [Q4] at this
theorem Q75 {a b:Tm} (ha:Va a) (hb:Va b) (pa:a.point=false) (pb:b.point=false):Tc a b<=9000000:=by
 have q1:=ha.qsn pa; have q2:=hb.qsn pb;have l1:=ha.n; have l2:=hb.n;have s1:=Ey (ha.bi pa); have s2:=Ey (hb.bi pb);have b1:=q1.1.1; have b2:=q1.2.1; have b3:=q2.1.1; have b4:=q2.2.1;have:4*(a.p.length+b.p.length)*(Fe a.p+Fe b.p+(a.p.length+b.p.length)+8)<=4*18*2600:=Zk (by omega) (by omega);unfold Tc; omega
theorem Q2d {a b:Tm} (ha:Va a) (hb:Va b) (pa:a.point=false) (pb:b.point=false) (hne:¬TEq a b):∃ r,apF (Tc a b) a b=some r/\Ze9 a b r:=by
 obtain ⟨D,M,k,h1,h2,h3⟩:=ha.hv0;obtain ⟨D',M',k',h1',h2',h3'⟩:=hb.hv0;rw [Qnr pa] at h3;rw [Qnr pb] at h3';have hst:=Q75 ha hb pa pb;obtain ⟨w,hw⟩:=nmE (Ug a.lo.num+Ug a.hi.num+Ug b.lo.num+Ug b.hi.num);obtain ⟨K,hK⟩:=nmE (Fe a.p+Fe b.p+(a.p.length+b.p.length)+8);obtain ⟨n,hn⟩:=nmE (a.p.length+b.p.length);have l1:=ha.n2; have l2:=hb.n2;have hsteps:Tc a b=64+2*w+4*n*K:=by unfold Tc; rw [hw,hK,hn]
 have hg:Hm a.p b.p=K*(2*(n-2)-1):=by unfold Hm; rw [hK,hn]
 have hgle:Hm a.p b.p+5*K<=2*n*K:=by
  rw [hg,Zp K,<-X4];exact Qy _ (by omega)
 have hKp:8<=K:=by omega
 refine Ziz ha hb hne h2 h2' (31+w+2*n*K) (Tc a b) a b k k' ((2^(w+1):Nat):Rat) ?_ h1 h1' (by omega) (by omega) (Qfi (by omega)) (Qfi (by omega)) ?_
 ·rw [hsteps,Xe,Xs 4,Xs 2 n]; omega
 ·have e:2*(2^(w+1))*(2^(Hm a.p b.p+1))<=2^(31+w+2*n*K):=by
   rw [Zp 2,<-Zr,<-Xc];exact Zs (by decide) (by omega)
  have:=Zh.2 e
  push_cast at this ⊢
  exact this
theorem Qcl {a b:Tm} (ha:Va a) (hb:Va b):∃ c,Qck a b=some c/\CmpOk a b c:=by
 unfold Qck;by_cases pa:a.point=true
 ·rw [if_pos pa];exact ⟨_,rfl,Q38 hb (Qva ha pa)⟩
 rw [if_neg pa];by_cases pb:b.point=true
 ·rw [if_pos pb];have:=(Q38 ha (Qva hb pb)).symm;rw [Int.neg_neg] at this;exact ⟨_,rfl,this⟩
 rw [if_neg pb];have pa:a.point=false:=by simpa using pa
 have pb:b.point=false:=by simpa using pb
 obtain ⟨L,V⟩:=ha.iv pa;obtain ⟨L',V'⟩:=hb.iv pb;have eqa:∀ q,Ue a q=cq (cz a.p) a.lo a.hi q:=Mf V.l;have eqb:∀ q,Ue b q=cq (cz b.p) b.lo b.hi q:=Mf V'.l;obtain ⟨lo,hlo⟩:=nmE (if 0<Fp b.lo a.lo then b.lo else a.lo);obtain ⟨hi,hhi⟩:=nmE (if Fp b.hi a.hi<0 then b.hi else a.hi);show ∃ c,(if Fp (if 0<Fp b.lo a.lo then b.lo else a.lo) (if Fp b.hi a.hi<0 then b.hi else a.hi)<0 then _ else _)=some c/\_;rw [<-hlo,<-hhi];have e1:(0<Fp b.lo a.lo)=(a.lo<b.lo):=propext Cn;have e2:(Fp b.hi a.hi<0)=(b.hi<a.hi):=propext S9;have e3:(Fp lo hi<0)=(lo<hi):=propext S9;simp only [e1] at hlo;simp only [e2] at hhi;simp only [e3];obtain ⟨g,g1,g2,g3,g4⟩:=Q5c Zkq ha.tr hb.tr ha.n hb.n (ha.bi pa) (hb.bi pb) (by have:=ha.n2; omega);obtain ⟨U,W,hc⟩:=g2.c;obtain ⟨u,hu⟩:=g2.da;obtain ⟨u',hu'⟩:=g2.db;have key:=V.same V' (g:=cz g) (u:=u) (u':=u') (U:=U) (W:=W) (k:=1) (by decide) hu hu' (λt=>by rw [W5,W5,W5,hc]; grind) (a:=lo) (b:=hi) (by rw [hlo]; split <;> grind) (by rw [hlo]; split <;> grind) (by rw [hlo]; split <;> simp) (by rw [hhi]; split <;> grind) (by rw [hhi]; split <;> grind) (by rw [hhi]; split <;> simp);have hTE:(∀ q,cq (cz a.p) a.lo a.hi q=cq (cz b.p) b.lo b.hi q)↔TEq a b:=by
  unfold TEq; constructor
  ·intro h q; rw [eqa,eqb]; exact h q
  ·intro h q; rw [<-eqa,<-eqb]; exact h q
 rw [hTE] at key;have fin:¬TEq a b->∃ c,((apF (Tc a b) a b).bind λr=>some r.2.2)=some c/\CmpOk a b c:=λhne=>by
  obtain ⟨r,r1,r2⟩:=Q2d ha hb pa pb hne;refine ⟨r.2.2,by rw [r1]; rfl,?_⟩;rcases r2 with h | h
  ·exact .inl h
  ·exact .inr (.inr h)
 by_cases hl:lo<hi
 ·rw [if_pos hl,g1];show ∃ c,(if 1<g.length/\Qcv g lo hi=true then some 0 else (apF (Tc a b) a b).bind λr=>some r.2.2)=some c/\_;by_cases hh:Qcv g lo hi=true
  ·have hq:=(Qcw g lo hi).1 hh;rw [if_pos ⟨Qqp g2.t g2.n hq,hh⟩];exact ⟨0,rfl,.inr (.inl ⟨rfl,key.1 ⟨hl,hq⟩⟩)⟩
  ·rw [if_neg λh=>hh h.2];exact fin λh=>hh ((Qcw g lo hi).2 (key.2 h).2)
 ·rw [if_neg hl];exact fin λh=>hl (key.2 h).1
def SgT (p:List Int) (a:Tm) (s:Int):Prop:=s=0/\Lz (cz p) (Ue a)\/s≠0/\NZ (cz p) (Ue a) s
theorem Zhy {p:List Int} {c:Rat->Int} (hc:Cut c) {x:Rat} (h:c x=0):Gk p x=0/\Lz (cz p) c\/Gk p x≠0/\NZ (cz p) c (Gk p x):=by
 rw [Sy,<-W5];rcases Ot hc (cz p) with h1 | ⟨s,hs,h1⟩
 ·exact .inl ⟨Ux.2 (Qfh hc h h1),h1⟩
 ·have:=Qrd hc h h1;rw [this]; exact .inr ⟨hs,h1⟩
theorem Ae {l:List (List Int)} {lo hi:Rat} (h:lo<=hi):Hg l lo hi=(vv (l.map cz) lo:Int)-(vv (l.map cz) hi:Int):=by
 unfold Hg;rw [if_neg λh'=>by have:=S9.1 h'; grind,Az,Az]
theorem Zhz {p q:List Int} {L:List (List Rat)} (hp:Ua p) (np:p.length<=9) (lp:2<=p.length) (hS:Stm (cz q) L) (hpq:If (cz q) (cz p)) {a:Tm} (ha:Va a) {s:Int} (hnz:NZ (cz p) (Ue a) s) {D M k:Nat} {x:Tm} (hx:Hv a D M k x) (hl:x.lo<x.hi) (hv:vv L x.lo≠vv L x.hi):1<(x.hi-x.lo)*((2^(Hm a.p p+1):Nat):Rat):=by
 rcases Uq ((x.hi-x.lo)*((2^(Hm a.p p+1):Nat):Rat)) 1 with hw | hw
 ·exfalso;have ca:=ha.cut;obtain ⟨d,dp,x1,y1,c1,c2,hn⟩:=hnz;obtain ⟨x2,x12,c3⟩:=ca.up x1 c1;obtain ⟨y2,y12,c4⟩:=ca.dn y1 c2;have hpow:(0:Rat)<=((2^(Hm a.p p+1):Nat):Rat):=Xd;obtain ⟨z,zp,z1,z2⟩:=min2 (a:=x2-x1) (b:=y1-y2) (by clear hn; grind) (by clear hn; grind);obtain ⟨R0,hR0,r1,r2⟩:=Qmh x.lo x.hi;obtain ⟨u,hu⟩:=hpq;refine Q42 (R:=R0+1) (d:=z) ha.tr hp ha.n np ha.n2 lp (by clear hn; grind) zp λe ep=>?_
  obtain ⟨q0,q1,q2,q3,q4,q5⟩:∃ q0,x.lo<=q0/\q0<=x.hi/\x2<=q0/\q0<=y2/\Uc (W4 a.p q0)<e:=by
   rcases hx.lo' with h1 | ⟨h1,h2⟩
   ·obtain ⟨x',y',hx',hy',hq⟩:=ha.van e ep;obtain ⟨m,m1,m2,m3,m4⟩:∃ m,Ue a m=1/\x.lo<=m/\x2<=m/\x'<=m:=by
     rcases Uq x.lo x2 with e1 | e1
     ·rcases Uq x2 x' with e2 | e2
      ·exact ⟨x',hx',by clear hn hq; grind,e2,Qo⟩
      ·exact ⟨x2,c3,e1,Qo,Qp e2⟩
     ·rcases Uq x.lo x' with e2 | e2
      ·exact ⟨x',hx',e2,by clear hn hq; grind,Qo⟩
      ·exact ⟨x.lo,h1,Qo,Qp e1,Qp e2⟩
    refine ⟨m,m2,?_,m3,Qp (ca.lt m1 c4),by rw [<-W5]; exact hq m m4 (Qp (ca.lt m1 hy'))⟩;rcases hx.hi' with h3 | h3
    ·rcases Uq m x.hi with e1 | e1
     ·exact e1
     ·have:=ca.mono x.hi m e1 (by omega); omega
    ·exact Qp (ca.lt m1 h3)
   ·exact absurd h2 (by clear hn; grind)
  obtain ⟨b,hb⟩:=nmE (evB R0 u);have hb0:0<=b:=by rw [hb]; exact Il hR0 u
  obtain ⟨f,fp,_,hf⟩:=Fo (b:=b) (d:=if e<=d then e else d) hb0 (by split <;> assumption);obtain ⟨r,r3,r4,r5⟩:=Qot hS hl hv fp;have hrR:Uc r<=R0:=Qcx r1 r2 r3 r4;have hpr:Uc (W4 p r)<(if e<=d then e else d):=by
   rw [<-W5,hu];have:=Fh (Qp r5) (Qfs hrR u);rw [<-hb] at this;exact Ji.1 λh=>absurd (Zf h this) (Ji.2 hf)
  have hpe:Uc (W4 p r)<e:=by split at hpr <;> (clear hn; grind)
  have hpd:Uc (W4 p r)<d:=by split at hpr <;> (clear hn; grind)
  have hrout:r<x1\/y1<r:=by
   rcases Uq x1 r with e1 | e1
   ·rcases Uq r y1 with e2 | e2
    ·have:=(hn r e1 e2).2;rw [W5] at this;exact absurd this (Ji.2 hpd)
    ·exact .inr e2
   ·exact .inl e1
  have hqr:z<=Uc (q0-r):=by
   clear hn;rcases hrout with h | h
   ·have:Uc (q0-r)=q0-r:=by unfold Uc; split <;> grind
    rw [this]; grind
   ·have:Uc (q0-r)=r-q0:=by unfold Uc; split <;> grind
    rw [this]; grind
  have hq0R:Uc q0<=R0:=Qcx r1 r2 q1 q2;refine ⟨q0,r,by clear hn; grind,by clear hn; grind,hqr,?_,q5,hpe⟩;have h1:Uc (q0-r)<=x.hi-x.lo:=by rw [Tq]; clear hn; constructor <;> grind
  exact Zf (Q7 h1 hpow) hw
 ·exact hw
theorem Q7s {p q:List Int} {l:List (List Int)} (hp:Ua p) (np:p.length<=9) (lp:2<=p.length) (hS:Stm (cz q) (l.map cz)) (hpq:If (cz q) (cz p)) {a:Tm} (ha:Va a) {s:Int} (hnz:NZ (cz p) (Ue a) s) {D M:Nat} (hM:0<M):∀ (j i:Nat) (x:Tm) (k:Nat) (W:Rat),i+1<=j->Hv a D M k x->Ug (D:Int)+Ug (M:Int)+(k+j)<=16777216->x.hi-x.lo<=W->W*((2^(Hm a.p p+1):Nat):Rat)<=((2^i:Nat):Rat)->∃ u k',sgF l j x=some u/\Hv a D M k' u/\(u.point=true\/Hg l u.lo u.hi=0)
 | 0,i,x,k,W,h,_,_,_,_=>by omega
 |
  j+1,i,x,k,W,hj,hx,hs,hW,hK=>by
  simp only [sgF];by_cases h:x.point=true\/Hg l x.lo x.hi=0
  ·rw [if_pos h]; exact ⟨x,k,rfl,hx,h⟩
  ·rw [if_neg h];obtain ⟨v,v1,v2,v3,_⟩:=Qnl hx hM (by omega);rw [v1];show ∃ u k',sgF l j v=some u/\_;have hpt:¬x.hi<=x.lo:=λh'=>h (.inl (Tx.2 h'))
   have hl:x.lo<x.hi:=by grind
   have hvv:vv (l.map cz) x.lo≠vv (l.map cz) x.hi:=λh'=>h (.inr (by rw [Ae (Qp hl)]; omega))
   have hg:=Zhz hp np lp hS hpq ha hnz hx hl hvv;have hpow:(0:Rat)<=((2^(Hm a.p p+1):Nat):Rat):=Xd;have hd:∀ x:Rat,x / 2*2=x:=λx=>Fi (by decide)
   cases i with
   |
    zero =>
    exfalso;rw [Y4] at hK;have:=Q7 hW hpow;have h7:((1:Nat):Rat)=1:=rfl;rw [h7] at hK;grind
   |
    succ i =>
    refine Q7s hp np lp hS hpq ha hnz hM j i v (k+1) (W / 2) (by omega) v2 (by omega) ?_ ?_
    ·have:=hd (x.hi-x.lo); have:=hd W; grind
    ·rw [Qrw i] at hK;have:=hd W;have:W / 2*((2^(Hm a.p p+1):Nat):Rat)*2=W*((2^(Hm a.p p+1):Nat):Rat):=by grind
     grind
theorem Qrl {x y:Rat}:∀ {ws:List (List Rat)},(∀ w∈ws,W7 (ev w x)=W7 (ev w y))->W7 (ev (Eo ws) x)=W7 (ev (Eo ws) y)
 | [],_=>by simp only [Eo]; rw [G8,G8]
 |
  w::l,h=>by
  simp only [Eo];rw [W9,W9,Hz,Hz,h w (Qx ..),Qrl λv hv=>h v (Qe _ hv)]
theorem Q1e {p q o:List Int} (hpt:Parts p q o) (tp:Ua p) (hp:p.length≠0) {L:List (List Rat)} (hS:Stm (cz q) L) {x y:Rat} (hxy:x<y) (hv:vv L x=vv L y):∃ s,s≠0/\∀ z,x<z->z<=y->W7 (W4 p z)=s:=by
 obtain ⟨ws,w1,w2⟩:=hpt.ws;obtain ⟨_,_,_,_,_,p6,p7⟩:=Mm tp hp;have key:∀ z,x<z->z≤y->∀ w∈ws.map cz,Sm w x z:=λz h1 h2 w hw=>by
  obtain ⟨v,hv',rfl⟩:=Ze.1 hw;obtain ⟨u,hu⟩:=(w1 v hv').2;have a1:=D6 hS h1;have a2:vv L y<=vv L z:=by
   rcases Classical.em (z=y) with e | e
   ·rw [e]; exact Qm _
   ·exact D6 hS (by grind)
  exact Qa5 hS hu h1 (by omega)
 have hval:∀ z,W4 p z=(Fv p:Rat)*ev (Eo (ws.map cz)) z:=λz=>by rw [p7,w2]
 refine ⟨W7 (W4 p y),λh0=>?_,λz h1 h2=>?_⟩
 ·rw [hval,Hz] at h0;rcases Jy.1 h0 with h | h
  ·exact Is p6 (Ux.1 h)
  ·have:∀ l:List (List Rat),(∀ w∈l,W7 (ev w y)≠0)->W7 (ev (Eo l) y)≠0:=by
    intro l
    induction l with
    | nil=>intro _; simp only [Eo]; rw [G8]; decide
    |
     cons w l ih =>
     intro h;simp only [Eo];rw [W9,Hz];exact Vv (h w (Qx ..)) (ih λv hv=>h v (Qe _ hv))
   refine this _ (λw hw=>?_) h;have hs:=key y hxy Qo w hw;rw [hs.s]; exact hs.n
 ·rw [hval,hval,Hz,Hz,Qrl (y:=y) λw hw=>(key z h1 h2 w hw).s.trans (key y hxy Qo w hw).s.symm]
theorem Zgv {g p P:List Int} {c:Rat->Int} (hc:Cut c) (hg:Gc g p P):Lz (cz g) c↔Lz (cz p) c/\Lz (cz P) c:=by
 constructor
 ·intro h;obtain ⟨u,hu⟩:=hg.da;obtain ⟨v,hv⟩:=hg.db;exact ⟨Tg hc hu h,Tg hc hv h⟩
 ·rintro ⟨h1,h2⟩
  obtain ⟨U,V,hcc⟩:=hg.c;have a1:Lz (Fa U (cz p)) c:=Tg hc (p:=cz p) (q:=U) (λt=>by rw [W9]; grind) h1;have a2:Lz (Fa V (cz P)) c:=Tg hc (p:=cz P) (q:=V) (λt=>by rw [W9]; grind) h2;exact Qhd (λt=>by rw [W5,hcc,W9,W9,W5,W5]) a1 a2
theorem Q7z {p:List Int} (hp:Okp 9 1180 p) {a:Tm} (ha:Va a):∃ s,Qdn p a=some s/\SgT p a s:=by
 unfold Qdn;rw [if_neg hp.nz];have ca:=ha.cut;by_cases pa:a.point=true
 ·rw [if_pos pa];exact ⟨_,rfl,Zhy ca (x:=a.lo) (by rw [Qva ha pa,C0])⟩
 rw [if_neg pa];have pa:a.point=false:=by simpa using pa
 obtain ⟨L,V⟩:=ha.iv pa;have eqa:∀ q,Ue a q=cq (cz a.p) a.lo a.hi q:=Mf V.l;obtain ⟨g,g1,g2,g3,g4⟩:=Q5c Zkq hp.t ha.tr hp.l ha.n (Wx hp.b (by omega)) (ha.bi pa) hp.nz;obtain ⟨u',hu'⟩:=g2.db;have hhas:=V.has hu' (a:=a.lo) (b:=a.hi) Qo V.l Qo;have hvan:=Zgv ca g2;rw [show cq (cz a.p) a.lo a.hi=Ue a from (funext eqa).symm] at hhas;rw [g1];show ∃ s,(if 1<g.length/\Qcv g a.lo a.hi=true then some 0 else _)=some s/\_;by_cases hh:Qcv g a.lo a.hi=true
 ·have hq:=(Qcw g _ _).1 hh;rw [if_pos ⟨Qqp g2.t g2.n hq,hh⟩];exact ⟨0,rfl,.inl ⟨rfl,(hvan.1 (hhas.1 hq).1).1⟩⟩
 ·rw [if_neg λh=>hh h.2];have hnv:¬Lz (cz p) (Ue a):=λh=>hh ((Qcw g _ _).2 (hhas.2 ⟨hvan.2 ⟨h,ha.van⟩,by rw [eqa]; exact Di Qo,by rw [eqa]; exact V.hi1⟩))
  rcases Ot ca (cz p) with h | ⟨s,hs0,hnz⟩
  ·exact absurd h hnv
  obtain ⟨q,o,q1,q2,hpt⟩:=Q6l hp;obtain ⟨q',l,r1,r2,hS,hl0⟩:=chain_ok hp;rw [q1] at r1;injection r1 with r1;subst r1;rw [r2];show ∃ s,((sgF (q::l) (64+2*(Ug a.lo.num+Ug a.hi.num)+4*(a.p.length+p.length)*(Fe a.p+Fe p+(a.p.length+p.length)+8)) a).bind λx=>some (Gk p x.hi))=some s/\_;obtain ⟨w,hw⟩:=nmE (Ug a.lo.num+Ug a.hi.num);obtain ⟨K,hK⟩:=nmE (Fe a.p+Fe p+(a.p.length+p.length)+8);obtain ⟨n,hn⟩:=nmE (a.p.length+p.length);rw [<-hw,<-hK,<-hn];obtain ⟨gg,sq⟩:=hpt.sq;obtain ⟨_,_,_,_,_,pf0,pfe⟩:=Mm hp.t hp.nz;have hpq:If (cz q) (cz p):=⟨Nx (Fv p) (cz gg),λt=>by rw [W5,W5,Uz,W5,pfe,sq.e]; grind⟩;obtain ⟨D,M,k,h1,h2,h3⟩:=ha.hv0;rw [Qnr pa] at h3;have b1:=(ha.qsn pa).1.1; have b2:=(ha.qsn pa).2.1;have l1:=ha.n; have l2:=hp.l; have l3:=ha.n2;have s1:=Ey (ha.bi pa); have s2:=Ey hp.b;have hst:4*n*K<=4*18*2466:=Zk (by omega) (by omega);have hend:∃ u k',sgF (q::l) (64+2*w+4*n*K) a=some u/\Hv a D M k' u/\(u.point=true\/Hg (q::l) u.lo u.hi=0):=by
   by_cases hpl:p.length<2
   ·have hq1:(Ub p)=[1]:=hp.pr.1.one (by have:=hp.pr.2.1; omega);have hql:q.length<2:=by
     have e:=sq.e;rw [hq1] at e;obtain ⟨p1,p2⟩:=G9 (c:=[1]) rfl (by simp) e;have:=Tw sq.pg.t sq.pq.t (c:=[1]) rfl e p1 p2;simp at this; omega
    have hbt:Hg (q::l) a.lo a.hi=0:=by
     rw [Ae (Qp V.l),hl0 hql,sq.pq.one hql];have hv1:∀ x:Rat,ev (cz [1]) x=1:=λx=>by rw [W5,Pa]
     simp only [Zx,X7,vv,tc,hv1]; omega
    refine ⟨a,k,?_,h1,.inr hbt⟩;obtain ⟨m,hm⟩:∃ m,64+2*w+4*n*K=m+1:=⟨63+2*w+4*n*K,by omega⟩;rw [hm];simp only [sgF];rw [if_pos (.inr hbt)]
   ·have hg:Hm a.p p=K*(2*(n-2)-1):=by unfold Hm; rw [hK,hn]
    have hgle:Hm a.p p+5*K<=2*n*K:=by
     rw [hg,Zp K,<-X4];exact Qy _ (by omega)
    have hKp:8<=K:=by omega
    have hnK:2*n*K<=4*n*K:=Qy _ (by omega);obtain ⟨u,k',u1,u2,u3⟩:=Q7s hp.t hp.l (by omega) hS hpq ha hnz h2 (64+2*w+4*n*K) (2+w+2*n*K) a k ((2^(w+1):Nat):Rat) (by omega) h1 (by omega) (Qfi (by omega)) (by
     have e:(2^(w+1))*(2^(Hm a.p p+1))<=2^(2+w+2*n*K):=by
      rw [<-Xc];exact Zs (by decide) (by omega)
     have:=Zh.2 e
     push_cast at this ⊢
     exact this)
    exact ⟨u,k',u1,u2,u3⟩
  obtain ⟨u,k',u1,u2,u3⟩:=hend;rw [u1];refine ⟨_,rfl,.inr ?_⟩;have hfin:Gk p u.hi=s:=by
   rcases u2.hi' with hz | hz
   ·have:=Qrd ca hz hnz;rw [Sy,<-W5]; exact this
   ·rcases u2.i with ⟨e,_⟩ | ⟨L',V'⟩
    ·have:=u2.c u.hi;rw [Ld e,e,C0] at this; omega
    ·have hup:u.point=false:=by
      have:¬u.point=true:=λh=>by have:=Tx.1 h; have:=V'.l; grind
      simpa using this
     rcases u3 with h | h
     ·rw [hup] at h; cases h
     ·rw [Ae (Qp V'.l)] at h;obtain ⟨s',hs',hps⟩:=Q1e hpt hp.t hp.nz hS V'.l (by omega);obtain ⟨d,dp,x,y,hx,hy,hq⟩:=hnz;have hlo1:Ue a u.lo=1:=by
       rcases u2.lo' with h | ⟨_,h⟩
       ·exact h
       ·have:=V'.l; clear hps hq; grind
      obtain ⟨m,m1,m2,m3⟩:=Qh5 ca hlo1 hx;have e1:=(hq m (Qp m3) (Qp (ca.lt m1 hy))).1;have e2:=hps m m2 (Qp (ca.lt m1 hz));have e3:=hps u.hi V'.l Qo;rw [Sy,e3,<-e2,<-W5,e1]
  rw [hfin]; exact ⟨hs0,hnz⟩
structure Dp (p:List Int):Prop where
 t:Ua p
 l:p.length<=9
 b:Bd (1130+4*(9-p.length)) p
theorem Qys:Szz 9 1253:=⟨by decide,by decide⟩
theorem Dp.ok {p:List Int} (h:Dp p) (h0:p.length≠0):Okp 9 1180 p:=⟨Qys,h.t,h0,h.l,Wx h.b (by omega)⟩
theorem Dp.der {p:List Int} (h:Dp p):Dp (Fj p):=by
 have hl:=Bi p;have hl2:=h.l;refine ⟨Ur _ _,by omega,?_⟩;by_cases h0:p.length=0
 ·rw [Qh (l:=Fj p) (by omega)]; exact Qa8
 ·exact Wx (Qtl h.b (by omega)) (by omega)
def Uj (a:Tm) (p:List Int):Int:=(Qdn p a).getD 0
theorem Q7q {p:List Int} (h:Dp p) {a:Tm} (ha:Va a):Qdn p a=some (Uj a p)/\SgT p a (Uj a p):=by
 by_cases h0:p.length=0
 ·have e:p=[]:=Qh h0;subst e;refine ⟨rfl,.inl ⟨rfl,λd dp=>?_⟩⟩;obtain ⟨x,y,h1,h2,_⟩:=ha.cut.near (e:=1) (by decide);exact ⟨x,y,h1,h2,λq _ _=>by simp only [cz,X7,ev,Gn]; exact dp⟩
 ·obtain ⟨s,h1,h2⟩:=Q7z (h.ok h0) ha;have e:Uj a p=s:=by unfold Uj; rw [h1]; rfl
  rw [e]; exact ⟨h1,h2⟩
theorem Zhv {c:Rat->Int} {p q:List Rat} {s:Int} (h:∀ t,ev p t=ev q t) (hp:RS p c s):RS q c s:=by
 obtain ⟨y,h1,h2⟩:=hp;exact ⟨y,h1,λz h3 h4=>by rw [<-h]; exact h2 z h3 h4⟩
theorem Qlf {a:Tm} (ha:Va a):∀ (k:Nat) (p:List Int),Dp p->p.length<=k->p.length≠0->RS (cz p) (Ue a) (Hl (Uj a) k p)/\Hl (Uj a) k p≠0
 | 0,p,_,h1,h2=>by omega
 |
  k+1,p,h,h1,h2=>by
  simp only [Hl];rw [if_neg h2];obtain ⟨_,hs⟩:=Q7q h ha;rcases hs with ⟨e,hv⟩ | ⟨e,hn⟩
  ·rw [if_pos e];have hdn:(Fj p).length≠0:=λh0=>by
    by_cases h3:p.length=1
    ·obtain ⟨c,rfl⟩:∃ c,p=[c]:=V9.1 h3;have hc:c≠0:=by have:=G7 h.t (by simp); simpa using this
     obtain ⟨q,hq,_⟩:=Qrb ha.cut (hv (Uc (c:Rat)) (Mp (Is hc)));rw [W5] at hq;have:W4 [c] q=(c:Rat):=by simp only [W4]; grind
     rw [this] at hq; grind
    ·have h4:=Pv p (p.length-2);rw [Qh h0,show p.length-2+1=p.length-1 by omega] at h4;have h5:p.getD (p.length-1) 0≠0:=G7 h.t (by omega);rcases Jy.1 (h4.symm.trans (by simp)) with h6 | h6
     ·exact h5 h6
     ·omega
   have hl:=Bi p;obtain ⟨i1,i2⟩:=Qlf ha k (Fj p) h.der (by omega) hdn;exact ⟨Qoj ha.cut hv (Zhv (λt=>by rw [W5,Er,Hh]) i1) i2,i2⟩
  ·rw [if_neg e]; exact ⟨Ql5 ha.cut hn,e⟩
theorem Co {a:Tm} (ha:Va a) {p:List Int} (h:Dp p) (h0:p.length≠0):RS (cz p) (Ue a) (Fq (Uj a) p)/\Fq (Uj a) p≠0:=Qlf ha _ p h (Qm _) h0
theorem Ip {a:Tm}:Fq (Uj a) []=0:=rfl
theorem Zbw {l:List Int}:∀ z∈l,z.natAbs≤Ib l:=by
 have key:∀ (l:List Int) (m:Nat),m≤l.foldl (λm z=>if m<z.natAbs then z.natAbs else m) m/\∀ z∈l,z.natAbs≤l.foldl (λm z=>if m<z.natAbs then z.natAbs else m) m:=by
  intro l
  induction l with
  | nil=>exact λm=>⟨Qm _,λz hz=>by cases hz⟩
  |
   cons y l ih =>
   intro m;obtain ⟨e,he⟩:=nmE (if m<y.natAbs then y.natAbs else m);have h1:m<=e/\y.natAbs<=e:=by rw [he]; split <;> omega
   obtain ⟨i1,i2⟩:=ih e;simp only [Z4];rw [<-he];refine ⟨by omega,λz hz=>?_⟩;rcases Ql.1 hz with rfl | hz
   ·omega
   ·exact i2 z hz
 exact (key l 0).2
theorem Qhn {p:List Int} (h:Uf p≠0):U9 p*((Uf p).natAbs:Rat)=((Uf p).natAbs:Rat)+((Ib (p.take (p.length-1)):Nat):Rat):=by
 unfold U9;rw [<-Gj];have hp:0<(Uf p).natAbs:=by omega
 have:=nat_pos hp;rw [show ((((Uf p).natAbs:Int)):Rat)=((Uf p).natAbs:Rat) from rfl,Fi this];rw [Wo]; rfl
theorem Qxs {m:Nat} {x:Rat} (hx:1≤Uc x):∀ (p:List Int) (lp:p.length≠0),(∀ z∈p.take (p.length-1),z.natAbs≤m)->Uf p≠0->(m:Rat)≤(Uc x-1)*((Uf p).natAbs:Rat)->((Uf p).natAbs:Rat)≤W4 p x*(((Int.sign (Uf p))*(if x<0/\p.length % 2=0 then -1 else 1):Int):Rat)
 | [],lp,_,_,_=>absurd rfl lp
 |
  [c],_,_,hc,_=>by
  have hl:Uf [c]=c:=rfl;rw [hl] at hc ⊢;rw [if_neg (by simp),Int.mul_one];have h1:W4 [c] x=(c:Rat):=by simp only [W4]; grind
  rw [h1];have h2:c*Int.sign c=(c.natAbs:Int):=Int.mul_sign_self c;have:=congrArg (λz:Int=>(z:Rat)) h2;rw [Jp] at this;rw [this]; exact Qo
 |
  c::d::p,_,hm,hc,hb=>by
  have hl:Uf (c::d::p)=Uf (d::p):=by unfold Uf; simp [List.getD_cons_succ]
  have ih:=Qxs hx (d::p) (by simp) (λz hz=>hm z (by
   have e:(c::d::p).take ((c::d::p).length-1)=c::(d::p).take ((d::p).length-1):=by simp
   rw [e]; exact Qe _ hz)) (by rw [<-hl]; exact hc) (by rw [<-hl]; exact hb)
  rw [hl] at hc hb ⊢;have hcm:=hm c (by simp);obtain ⟨s,hs⟩:∃ s:Int,s=Int.sign (Uf (d::p)):=⟨_,rfl⟩;have hsv:s=1\/s=-1:=by
   rw [hs];rcases V1 hc with h | h
   ·exact .inr (Jr h)
   ·exact .inl (Yi h)
  rw [<-hs] at ih ⊢;obtain ⟨ld,hld⟩:∃ ld:Rat,ld=((Uf (d::p)).natAbs:Rat):=⟨_,rfl⟩;rw [<-hld] at ih hb ⊢;have hcq:Uc (c:Rat)<=(m:Rat):=by rw [H5]; exact Zh.2 hcm
  rw [Tq] at hcq;have e1:W4 (c::d::p) x=(c:Rat)+x*W4 (d::p) x:=rfl;rw [e1];have hlen:(c::d::p).length % 2=0↔¬(d::p).length % 2=0:=by simp only [Q6]; omega
  generalize W4 (d::p) x=y at *;generalize (m:Rat)=mm at *;generalize (c:Rat)=cc at *;have hx0:=hx;by_cases hneg:x<0
  ·have hq:Uc x=-x:=by unfold Uc; rw [if_pos hneg]
   rw [hq] at hx0 hb;by_cases hpar:(d::p).length % 2=0
   ·rw [if_pos ⟨hneg,hpar⟩] at ih;rw [if_neg λh=>(hlen.1 h.2) hpar];rcases hsv with rfl | rfl
    ·have ih:ld<=y*(-1):=by simpa using ih
     have:=Zv ih (show 0<=-x by grind);have e:(((1:Int)*1:Int):Rat)=1:=rfl;rw [e]; grind
    ·have ih:ld<=y*1:=by simpa using ih
     have:=Zv ih (show 0<=-x by grind);have e:(((-1:Int)*1:Int):Rat)=-1:=rfl;rw [e]; grind
   ·rw [if_neg λh=>hpar h.2] at ih;rw [if_pos ⟨hneg,hlen.2 hpar⟩];rcases hsv with rfl | rfl
    ·have ih:ld<=y*1:=by simpa using ih
     have:=Zv ih (show 0<=-x by grind);have e:(((1:Int)*-1:Int):Rat)=-1:=rfl;rw [e]; grind
    ·have ih:ld<=y*(-1):=by simpa using ih
     have:=Zv ih (show 0<=-x by grind);have e:(((-1:Int)*-1:Int):Rat)=1:=rfl;rw [e]; grind
  ·have hq:Uc x=x:=by unfold Uc; rw [if_neg hneg]
   rw [hq] at hx0 hb;rw [if_neg λh=>hneg h.1] at ih ⊢;rcases hsv with rfl | rfl
   ·have ih:ld<=y*1:=by simpa using ih
    have:=Zv ih (show 0<=x by grind);have e:(((1:Int)*1:Int):Rat)=1:=rfl;rw [e]; grind
   ·have ih:ld<=y*(-1):=by simpa using ih
    have:=Zv ih (show 0<=x by grind);have e:(((-1:Int)*1:Int):Rat)=-1:=rfl;rw [e]; grind
theorem Qto {p:List Int} (tp:Ua p) (lp:p.length≠0) {x:Rat} (hx:U9 p<=Uc x):1<=Uc (W4 p x)/\(0<=x->Gk p x=Qcq p)/\(x<0->Gk p x=A9 p):=by
 have hl:=Cq tp lp;have hpos:0<(Uf p).natAbs:=by omega
 have h1:(1:Rat)<=((Uf p).natAbs:Rat):=by
  have:((1:Nat):Rat)<=((Uf p).natAbs:Rat):=Zh.2 hpos;exact this
 have hm0:(0:Rat)<=((Ib (p.take (p.length-1)):Nat):Rat):=Xd;have hb:=Qhn hl;have hx1:=Q7 hx (show (0:Rat)<=((Uf p).natAbs:Rat) by grind);have hx2:1<=Uc x:=by
  rcases Uq 1 (Uc x) with h | h
  ·exact h
  ·exfalso;have:=Vk h (show (0:Rat)<((Uf p).natAbs:Rat) by grind);grind
 have key:=Qxs (m:=Ib (p.take (p.length-1))) hx2 p lp (λz hz=>Zbw z hz) hl (by grind);obtain ⟨s,hs⟩:∃ s:Int,s=Int.sign (Uf p)*(if x<0/\p.length % 2=0 then -1 else 1):=⟨_,rfl⟩;rw [<-hs] at key;have hsv:s=1\/s=-1:=by
  rw [hs];rcases V1 hl with h | h
  ·rw [Jr h]; split <;> simp
  ·rw [Yi h]; split <;> simp
 have hsg:Gk p x=s/\1<=Uc (W4 p x):=by
  rw [Sy];rcases hsv with e | e
  ·rw [e] at key ⊢;have key:((Uf p).natAbs:Rat)<=W4 p x:=by simpa using key
   exact ⟨Gg.2 (by grind),by unfold Uc; rw [if_neg (by grind)]; grind⟩
  ·rw [e] at key ⊢;have key:((Uf p).natAbs:Rat)<=W4 p x*(-1):=by simpa using key
   exact ⟨Rk.2 (by grind),by unfold Uc; rw [if_pos (by grind)]; grind⟩
 refine ⟨hsg.2,λh=>?_,λh=>?_⟩
 ·rw [hsg.1,hs,if_neg λh'=>by have:=h'.1; grind]; unfold Qcq; omega
 ·rw [hsg.1,hs]; unfold A9;by_cases he:p.length % 2=0
  ·rw [if_pos ⟨h,he⟩,if_pos he]; omega
  ·rw [if_neg λh'=>he h'.2,if_neg he]; omega
theorem Oo {f g:List Int->Int}:∀ {l:List (List Int)} (s:Nat×Int),(∀ p∈l,f p=g p)->l.foldl (Rr f) s=l.foldl (Rr g) s
 | [],s,_=>rfl
 |
  p::l,s,h=>by
  simp only [Z4];have e:Rr f s p=Rr g s p:=by unfold Rr; rw [h p (List.mem_cons_self ..)]
  rw [e]; exact Oo _ λq hq=>h q (Qe _ hq)
theorem Qxn:∀ (l:List (List Int)),(∀ p∈l,Ua p/\p.length≠0)->∃ X:Rat,0<X/\∀ x,X≤x->(∀ p∈l,Gk p x=Qcq p)/\∀ p∈l,Gk p (-x)=A9 p
 | [],_=>⟨1,by decide,λx _=>⟨(λp hp=>by cases hp),(λp hp=>by cases hp)⟩⟩
 |
  p::l,h=>by
  obtain ⟨X,hX,hl⟩:=Qxn l λq hq=>h q (Qe _ hq)
  obtain ⟨tp,lp⟩:=h p (Qx ..);refine ⟨X+Uc (U9 p),by have:=Ge (U9 p); grind,λx hx=>?_⟩;have hb0:=Ge (U9 p);have hb1:U9 p<=Uc (U9 p):=by unfold Uc; split <;> grind
  obtain ⟨l1,l2⟩:=hl x (by grind);have e1:Uc x=x:=by unfold Uc; rw [if_neg (by grind)]
  have e2:Uc (-x)=x:=by rw [Cx,e1]
  refine ⟨λq hq=>?_,λq hq=>?_⟩
  ·rcases Ql.1 hq with rfl | hq
   ·exact (Qto tp lp (x:=x) (by rw [e1]; grind)).2.1 (by grind)
   ·exact l1 q hq
  ·rcases Ql.1 hq with rfl | hq
   ·exact (Qto tp lp (x:=-x) (by rw [e2]; grind)).2.2 (by grind)
   ·exact l2 q hq
theorem Qv7 {q:List Int} {L:List (List Rat)} (hS:Stm (cz q) L) (tq:Ua q) (lq:q.length≠0) {x y:Rat} (hxy:x<y) (h:U9 q<=x\/y<=-U9 q) (hb:0<U9 q):vv L x=vv L y:=by
 rcases Classical.em (vv L x=vv L y) with e | e
 ·exact e
 ·exfalso;obtain ⟨r,r1,r2,r3⟩:=Qot hS hxy e (d:=1) (by decide);have:=(Qto tq lq (x:=r) (by rcases h with h | h <;> (unfold Uc; split <;> grind))).1;rw [W5] at r3; grind
theorem Qd4 {p:List Int} (h:Uf p≠0):1<=U9 p:=by
 have hb:=Qhn h;have hp:=nat_pos (show 0<(Uf p).natAbs by omega);have hm0:(0:Rat)<=((Ib (p.take (p.length-1)):Nat):Rat):=Xd;rcases Uq 1 (U9 p) with h' | h'
 ·exact h'
 ·have:=Vk h' hp; grind
theorem Q1l {q:List Int} {l:List (List Int)} (hS:Stm (cz q) ((q::l).map cz)) (hl:∀ p∈q::l,Ua p/\p.length≠0):Oi (q::l)=(vv ((q::l).map cz) (-U9 q):Int)-(vv ((q::l).map cz) (U9 q):Int):=by
 obtain ⟨tq,lq⟩:=hl q (Qx ..);have hb:=Qd4 (Cq tq lq);obtain ⟨X,hX,hx⟩:=Qxn (q::l) hl;obtain ⟨h1,h2⟩:=hx (X+U9 q) (by grind);have e1:Mw Qcq (q::l)=vv ((q::l).map cz) (X+U9 q):=by
  rw [<-Az]; unfold Mx Mw;rw [Oo (f:=Qcq) (g:=λp=>Gk p (X+U9 q)) (0,0) λp hp=>(h1 p hp).symm]
 have e2:Mw A9 (q::l)=vv ((q::l).map cz) (-(X+U9 q)):=by
  rw [<-Az]; unfold Mx Mw;rw [Oo (f:=A9) (g:=λp=>Gk p (-(X+U9 q))) (0,0) λp hp=>(h2 p hp).symm]
 unfold Oi;rw [e1,e2,Qv7 hS tq lq (x:=-(X+U9 q)) (y:=-U9 q) (by grind) (.inr Qo) (by grind),<-Qv7 hS tq lq (x:=U9 q) (y:=X+U9 q) (by grind) (.inl Qo) (by grind)]
theorem Zhc {f:List Rat} {L:List (List Rat)} (hS:Stm f L) {x y:Rat} (hxy:x<y) (hv:vv L y+2<=vv L x):∃ m,x<m/\m<y/\vv L m<vv L x/\vv L y<vv L m/\ev f m≠0:=by
 obtain ⟨R,hR,hx,hy⟩:=Qmh x y;obtain ⟨e,ep,he⟩:=Q8i hS R hR;have key:∀ n:Nat,∀ x,Uc x<=R->x<y->vv L y+2<=vv L x->y-x<=(n:Rat)*e->∃ m,x<m/\m<y/\vv L m<vv L x/\vv L y<vv L m:=by
  intro n
  induction n with
  | zero=>intro x _ hxy _ hn; rw [show ((0:Nat):Rat)=0 from rfl] at hn; exfalso; clear he; grind
  |
   succ n ih =>
   intro x hx hxy hv hn;have hn':(((n+1:Nat):Rat))=(n:Rat)+1:=by push_cast; rfl
   rw [hn'] at hn;rcases Uq (y-x) e with h1 | h1
   ·have:=he x y hx hy hxy h1; omega
   ·have hm:Uc (x+e)<=R:=Qcx hx hy (by clear he ih; grind) (by clear he ih; grind);have h2:=he x (x+e) hx hm (by clear he ih; grind) (by clear he ih; grind);have h3:=D6 hS (show x<x+e by clear he ih; grind);by_cases h4:vv L x=vv L (x+e)
    ·obtain ⟨m,m1,m2,m3,m4⟩:=ih (x+e) hm (by clear he ih; grind) (by omega) (by clear he ih; grind);exact ⟨m,by clear he ih; grind,m2,by omega,m4⟩
    ·exact ⟨x+e,by clear he ih; grind,by clear he ih; grind,by omega,by omega⟩
 obtain ⟨n,hn⟩:=Ig (z:=y-x) ep;obtain ⟨m,m1,m2,m3,m4⟩:=key n x hx hxy hv hn;rcases Classical.em (ev f m=0) with h0 | h0
 ·-- a little farther on
  obtain ⟨e2,e2p,hl⟩:=loc hR hS (w:=f) (u:=[1]) (λt=>by rw [G8]; grind);obtain ⟨d,dp,d1,d2⟩:=min2 (a:=e2) (b:=(y-m) / 2) e2p (Dk (by clear he key hl; grind) (by decide));have h2:(y-m) / 2*2=y-m:=Fi (by decide);have hmR:Uc m<=R:=Qcx hx hy (Qp m1) (Qp m2);have hmR2:Uc (m+d)<=R:=Qcx hx hy (by clear he key hl; grind) (by clear he key hl; grind);rcases hl m (m+d) hmR hmR2 (by clear he key hl; grind) (by clear he key hl; grind) with ⟨p1,p2,_⟩ | ⟨_,p1,_,p3,_⟩
  ·refine ⟨m+d,by clear he key hl; grind,by clear he key hl; grind,by omega,by omega,λh'=>?_⟩;have:=p2.s;rw [Ux.2 h'] at this; exact p2.n this.symm
  ·rw [Ux.2 h0] at p3; exact absurd p3.symm p1
 ·exact ⟨m,m1,m2,m3,m4,h0⟩
theorem Zdb {q:List Int} {L:List (List Rat)} (hS:Stm (cz q) L) (tq:Ua q) (nq:q.length<=9) (lq:2<=q.length) {lo hi:Rat} (hl:lo<hi) (hv:vv L hi+2<=vv L lo):1<(hi-lo)*((2^(Hm q q+1):Nat):Rat):=by
 rcases Uq ((hi-lo)*((2^(Hm q q+1):Nat):Rat)) 1 with hw | hw
 ·exfalso;have hpow:(0:Rat)<=((2^(Hm q q+1):Nat):Rat):=Xd;obtain ⟨m,m1,m2,m3,m4,m0⟩:=Zhc hS hl hv;obtain ⟨R,hR,r1,r2⟩:=Qmh lo hi;have hd:=Mp m0;obtain ⟨d,dp,_,db⟩:=Fo (b:=dqB R (cz q)) (d:=Uc (ev (cz q) m) / 2) (Sk hR _) (Dk hd (by decide));have hd2:Uc (ev (cz q) m) / 2*2=Uc (ev (cz q) m):=Fi (by decide);have hmR:Uc m<=R:=Qcx r1 r2 (Qp m1) (Qp m2);have hnear:∀ r,Uc r<=R->Uc (ev (cz q) r)<Uc (ev (cz q) m) / 2->d<Uc (r-m):=λr hr hs=>by
   rcases Uq (Uc (r-m)) d with h | h
   ·exfalso;have h1:=Tn (p:=cz q) hmR hr hR h db;have h2:=Hw (ev (cz q) m-ev (cz q) r) (ev (cz q) r);rw [show ev (cz q) m-ev (cz q) r+ev (cz q) r=ev (cz q) m by grind,Qzb] at h2;grind
   ·exact h
  refine Q42 (R:=R+1) (d:=d+d) tq tq nq nq lq lq (by grind) (by grind) λe ep=>?_
  obtain ⟨e',ep',e1,e2⟩:=min2 (a:=e) (b:=Uc (ev (cz q) m) / 2) ep (Dk hd (by decide));obtain ⟨x,x1,x2,x3⟩:=Qot hS m1 (by omega) ep';obtain ⟨y,y1,y2,y3⟩:=Qot hS m2 (by omega) ep';have hxR:Uc x<=R:=Qcx r1 r2 x1 (by grind);have hyR:Uc y<=R:=Qcx r1 r2 (by grind) y2;have nx:=hnear x hxR (by grind);have ny:=hnear y hyR (by grind);have ex:Uc (x-m)=m-x:=by unfold Uc; split <;> grind
  have ey:Uc (y-m)=y-m:=by unfold Uc; split <;> grind
  rw [ex] at nx;rw [ey] at ny;have exy:Uc (x-y)=y-x:=by unfold Uc; split <;> grind
  refine ⟨x,y,by grind,by grind,by rw [exy]; grind,?_,by rw [<-W5]; grind,by rw [<-W5]; grind⟩;rw [exy];exact Zf (Q7 (show y-x<=hi-lo by grind) hpow) hw
 ·exact hw
theorem Q32:∀ {k:Nat} {a b:List Int} {l:List (List Int)},chF k a b=some l->∀ p∈l,p.length≠0
 | 0,_,_,_,h=>by cases h
 |
  k+1,a,b,l,h=>by
  simp only [chF] at h
  split at h
  ·injection h with h; subst h; exact λp hp=>by cases hp
  ·rename_i h0;obtain ⟨r,_,h⟩:=Qc.1 h;obtain ⟨l',h1,h⟩:=Qc.1 h;injection h with h; subst h;intro p hp;rcases Ql.1 hp with rfl | hp
   ·exact h0
   ·exact Q32 h1 p hp
theorem Okp.pb {n s:Nat} {p:List Int} (h:Okp n s p) (hs:s<=16777216):Pb p:=⟨h.t,by have:=h.l; have:=h.z.1; omega,Wx h.b hs⟩
theorem Q0k {p:List Int} {q:List Int} {l:List (List Int)} (hp:Pb p) (h:Df p=some (q::l)) (hq:q.length≠0):∀ r∈q::l,Ua r/\r.length≠0:=by
 have h1:=(Orr.chain_ok hp h).2;unfold Df at h;obtain ⟨a,_,h⟩:=Qc.1 h
 split at h
 ·cases h
 ·obtain ⟨d,_,h⟩:=Qc.1 h;obtain ⟨l',h3,h⟩:=Qc.1 h;injection h with h;injection h with e1 e2;subst e1; subst e2;intro r hr;refine ⟨(h1 r hr).t,?_⟩;rcases Ql.1 hr with rfl | hr
  ·exact hq
  ·exact Q32 h3 r hr
inductive RI (q:List Int) (L:List (List Rat)):Rat->List Tm->Rat->Prop
 | nil {lo hi:Rat} (h:lo<=hi) (hv:vv L lo=vv L hi):RI q L lo [] hi
 | cons {lo hi:Rat} {t:Tm} {l:List Tm} (h:lo<=t.lo) (hv:vv L lo=vv L t.lo) (ht:Vt (cz q) L t.lo t.hi) (hp:t.p=q) (hl:RI q L t.hi l hi):RI q L lo (t::l) hi
theorem RI.app {q:List Int} {L:List (List Rat)} {lo m hi:Rat} {l l':List Tm} (h:RI q L lo l m) (h':RI q L m l' hi):RI q L lo (l++l') hi:=by
 induction h with
 |
  nil h hv =>
  cases h' with
  | nil h2 hv2=>exact .nil (by grind) (by omega)
  | cons h2 hv2 ht hp hl=>exact .cons (by grind) (by omega) ht hp hl
 | cons h hv ht hp _ ih=>exact .cons h hv ht hp (ih h')
theorem Q35 {D M k:Nat} {m:Rat} (h:Gr D M k m) (hM:0<M) (hs:Ug (D:Int)+Ug (M:Int)+k<=16777216):chq m=some m:=by
 have:=Qlg h hM hs;unfold chq;rw [if_pos ⟨this.1,this.2⟩]
theorem Qg3 {q:List Int} {c:List (List Int)} (hS:Stm (cz q) (c.map cz)) (tq:Ua q) (nq:q.length<=9) (hc1:q.length<2->c=[q]) {D M F:Nat} (hM:0<M):∀ (k j:Nat) (lo hi:Rat),lo<hi->Gr D M j lo->Gr D M j hi->Ug (D:Int)+Ug (M:Int)+(j+k)<=16777216->(hi-lo)*((2^(Hm q q+1):Nat):Rat)<=((2^k:Nat):Rat) ->
 ∃ l,Dz q c (F+k+1) lo hi ((vv (c.map cz) lo:Int)-(vv (c.map cz) hi:Int))=some l/\RI q (c.map cz) lo l hi/\∀ t∈l,∃ k',k'≤j+k/\Gr D M k' t.lo/\Gr D M k' t.hi:=by
 intro k
 induction k with
 |
  zero =>
  intro j lo hi hl g1 g2 hs hK;have hle:=D6 hS hl;have h2:vv (c.map cz) lo<vv (c.map cz) hi+2:=by
   rcases Zb (vv (c.map cz) lo) (vv (c.map cz) hi+2) with h | h
   ·exact h
   ·exfalso;have lq:2<=q.length:=by
     rcases Zb q.length 2 with e | e
     ·have hvv:∀ x,vv (c.map cz) x=vv (c.map cz) 0:=λx=>by
       rcases hS with ⟨c0,hc0,hcc,hl'⟩ | ⟨g',l',k',hk,hg,hsc,hl'⟩
       ·rw [hl']; simp only [vv,tc,hcc]
       ·rw [hc1 e] at hl'; cases hl'
      rw [hvv lo,hvv hi] at h; omega
     ·exact e
    have:=Zdb hS tq nq lq hl h;rw [Y4] at hK;have h7:((1:Nat):Rat)=1:=rfl;rw [h7] at hK; grind
  simp only [Dz];by_cases e0:vv (c.map cz) lo=vv (c.map cz) hi
  ·rw [if_pos (by omega)];exact ⟨[],rfl,.nil (Qp hl) e0,λt ht=>by cases ht⟩
  ·rw [if_neg (by omega),if_pos (by omega)];refine ⟨[⟨q,lo,hi⟩],rfl,.cons Qo rfl ⟨hS,hl,by show vv _ lo=vv _ hi+1; omega⟩ rfl (.nil Qo rfl),λt ht=>?_⟩;rw [Qk.1 ht]; exact ⟨j,by omega,g1,g2⟩
 |
  succ k ih =>
  intro j lo hi hl g1 g2 hs hK;have hle:=D6 hS hl;show ∃ l,(if (vv (c.map cz) lo:Int)-(vv (c.map cz) hi:Int)=0 then some [] else if (vv (c.map cz) lo:Int)-(vv (c.map cz) hi:Int)=1 then some [⟨q,lo,hi⟩] else (chq (mid lo hi)).bind λm=>(Dz q c (F+k+1) lo m (Hg c lo m)).bind λl=>(Dz q c (F+k+1) m hi ((vv (c.map cz) lo:Int)-(vv (c.map cz) hi:Int)-Hg c lo m)).bind λr=>some (l++r))=some l/\_;by_cases e0:vv (c.map cz) lo=vv (c.map cz) hi
  ·rw [if_pos (by omega)];exact ⟨[],rfl,.nil (Qp hl) e0,λt ht=>by cases ht⟩
  by_cases e1:vv (c.map cz) lo=vv (c.map cz) hi+1
  ·rw [if_neg (by omega),if_pos (by omega)];refine ⟨[⟨q,lo,hi⟩],rfl,.cons Qo rfl ⟨hS,hl,e1⟩ rfl (.nil Qo rfl),λt ht=>?_⟩;rw [Qk.1 ht]; exact ⟨j,by omega,g1,g2⟩
  ·rw [if_neg (by omega),if_neg (by omega)];obtain ⟨m,hm⟩:=nmE ((lo+hi) / 2);have h2:(lo+hi) / 2*2=lo+hi:=Fi (by decide);rw [<-hm] at h2;have gm:Gr D M (j+1) m:=by rw [hm]; exact Q5i g1 g2
   have l1:lo<m:=by grind
   have l2:m<hi:=by grind
   rw [Qux,<-hm,Q35 gm hM (by omega)];show ∃ l,((Dz q c (F+k+1) lo m (Hg c lo m)).bind λl=>(Dz q c (F+k+1) m hi ((vv (c.map cz) lo:Int)-(vv (c.map cz) hi:Int)-Hg c lo m)).bind λr=>some (l++r))=some l/\_;rw [Ae (Qp l1),show (vv (c.map cz) lo:Int)-(vv (c.map cz) hi:Int)-((vv (c.map cz) lo:Int)-(vv (c.map cz) m:Int))=(vv (c.map cz) m:Int)-(vv (c.map cz) hi:Int) by omega];rw [Qrw k] at hK;have hp:∀ x y:Rat,(y-x)*2=hi-lo->(y-x)*((2^(Hm q q+1):Nat):Rat)<=((2^k:Nat):Rat):=λx y h=>by
    have:(y-x)*((2^(Hm q q+1):Nat):Rat)*2=(hi-lo)*((2^(Hm q q+1):Nat):Rat):=by rw [<-h]; grind
    grind
   obtain ⟨la,a1,a2,a3⟩:=ih (j+1) lo m l1 (Qlh g1) gm (by omega) (hp lo m (by grind));obtain ⟨lb,b1,b2,b3⟩:=ih (j+1) m hi l2 gm (Qlh g2) (by omega) (hp m hi (by grind));rw [a1];show ∃ l,((Dz q c (F+k+1) m hi ((vv (c.map cz) m:Int)-(vv (c.map cz) hi:Int))).bind λr=>some (la++r))=some l/\_;rw [b1];refine ⟨la++lb,rfl,a2.app b2,λt ht=>?_⟩;rcases Qq.1 ht with ht | ht
   ·obtain ⟨k',h1,h2,h3⟩:=a3 t ht; exact ⟨k',by omega,h2,h3⟩
   ·obtain ⟨k',h1,h2,h3⟩:=b3 t ht; exact ⟨k',by omega,h2,h3⟩
theorem Zgz {D M k:Nat} {q:Rat} (h:Gr D M k q):Gr D M k (-q):=by
 obtain ⟨u,hu⟩:=h.u;exact ⟨⟨-u,by rw [V0,<-hu]; grind⟩,by rw [Cx]; exact h.b,h.d⟩
theorem Qqu {m s:Nat} (h:m<2^s):Ug ((m+1:Nat):Int)<=s+1:=by
 rw [Mg,Xh,Zr]; omega
theorem Q01 {z:Int} {s:Nat} (h:Ug z<=s):Ug ((z.natAbs+1:Nat):Int)<=s+1:=Qqu (Mg.1 h)
theorem Zc0 {x:Rat} {m s g N:Nat} (hx:x<=2*((m+1:Nat):Rat)) (hm:m+1<=2^s) (hN:s+1+g<=N):x*((2^g:Nat):Rat)<=((2^N:Nat):Rat):=by
 have h3:=Zh.2 hm;have e:=Qrw s;have h4:(0:Rat)<=((2^s:Nat):Rat):=Xd;have h1:x<=((2^(s+1):Nat):Rat):=by rw [e]; grind
 have h5:(0:Rat)<=((2^g:Nat):Rat):=Xd;refine Zf (Q7 h1 h5) ?_;have h6:2^(s+1)*2^g<=2^N:=by
  rw [<-Xc]; exact Zs (by decide) hN
 have:=Zh.2 h6;rw [Rat.natCast_mul] at this;exact this
theorem Q9m {s:Nat} {l:List Int} (h:Bd s l):Ib l<2^s:=by
 have key:∀ (l:List Int) (m:Nat),m<2^s->Bd s l->l.foldl (λm z=>if m<z.natAbs then z.natAbs else m) m<2^s:=by
  intro l
  induction l with
  | nil=>exact λm h _=>h
  |
   cons y l ih =>
   intro m hm hb;simp only [Z4];refine ih _ ?_ λz hz=>hb z (Qe _ hz)
   have:=hb y (Qx ..);rw [Mg] at this
   split <;> assumption
 exact key l 0 (Zy (by decide)) h
theorem Zgb {p q:List Int} (h:chk p=some q):q=p:=by
 unfold chk at h
 split at h
 ·injection h with h; exact h.symm
 ·cases h
theorem Q7j {s:Nat} {p:List Int} (hs9:s≤1180) (h:Okp 9 s p):∃ q c l,Te p=some q/\Df p=some c/\Qjp p=some l/\Stm (cz q) (c.map cz)/\RI q (c.map cz) (-U9 q) l (U9 q)/\(∀ t∈l,Va t)/\(∀ x y,x<y->U9 q≤x\/y≤-U9 q->vv (c.map cz) x=vv (c.map cz) y)/\q.length≤p.length/\∀ t∈l,t.p=q/\t.lo<t.hi/\Bd (s+69) q/\∃ D M k,Gr D M k t.lo/\Gr D M k t.hi/\0<M/\Ug (D:Int)≤s+69/\Ug (M:Int)≤s+70/\k≤63*s+5160:=by
 obtain ⟨pp,hpl,hpb⟩:=h.pr;obtain ⟨g,q',hq',sq⟩:=Qag h;obtain ⟨q,l,q1,q2,hS,hl0⟩:=chain_ok h;rw [hq'] at q1;injection q1 with q1;subst q1;have e1:∀ t,W4 (Ub p) t=W4 q' t*W4 g t:=λt=>by rw [sq.e]; grind
 obtain ⟨p1,p2⟩:=G9 pp.t pp.n e1;have hch:chF 66 q' (Ub (Fj q'))=some l:=by
  have h2:=q2;unfold Df at h2;rw [hq'] at h2;simp only [Jf] at h2
  split at h2
  ·cases h2
  ·cases hd:chk (Fj q') with
   | none=>rw [hd] at h2; cases h2
   |
    some d =>
    rw [hd] at h2;simp only [Jf] at h2;obtain rfl:d=Fj q':=Zgb hd;cases hc:chF 66 q' (Ub (Fj q')) with
    | none=>rw [hc] at h2; cases h2
    | some l'=>rw [hc] at h2; simp at h2; rw [h2]
 have hll:=Tw sq.pq.t sq.pg.t pp.t e1 p1 p2;have hl9:=h.l;have bq:Bd (s+69) q':=Im hpb (by omega) pp.t sq.pq.t sq.pg.t pp.n e1;have hall:=Q0k (h.pb (by omega)) q2 sq.pq.n;have hld:Uf q'≠0:=by have:=sq.pq.l; omega
 have hb1:=Qd4 hld;obtain ⟨D,hD⟩:=nmE ((Uf q').natAbs);obtain ⟨m,hm⟩:=nmE (Ib (q'.take (q'.length-1)));have hm2:m<2^(s+69):=by rw [hm]; exact Q9m (s:=s+69) λz hz=>bq z (Qn hz)
 have hD0:0<D:=by omega
 have hDs:Ug (D:Int)<=s+69:=by
  have:=Ss bq;rw [Mg] at this ⊢;rw [Xh,hD]; exact this
 have hbe:=Qhn hld;rw [<-hD,<-hm] at hbe;have hDq:=nat_pos hD0;have hbm:U9 q'<=((m+1:Nat):Rat):=by
  have hD1:(1:Rat)<=(D:Rat):=by
   have:((1:Nat):Rat)<=(D:Rat):=Zh.2 hD0;exact this
  have hm0:(0:Rat)<=(m:Rat):=Xd;have h3:=Mj (a:=(m:Rat)) (c:=1) hm0 Qo (by decide) hD1;rcases Uq (U9 q') ((m+1:Nat):Rat) with h' | h'
  ·exact h'
  ·exfalso;have:=Vk h' hDq
   push_cast at this; grind
 have gb:Gr D (m+1) 0 (U9 q'):=by
  refine ⟨⟨(D+m:Nat),?_⟩,?_,hD0⟩
  ·rw [Y4,Yj,hbe];rw [show ((((D+m:Nat):Int)):Rat)=((D+m:Nat):Rat) from rfl]; push_cast; rfl
  ·have:Uc (U9 q')=U9 q':=by unfold Uc; rw [if_neg (by grind)]
   rw [this]; exact hbm
 have hMs:Ug ((m+1:Nat):Int)<=s+69+1:=Qqu (s:=s+69) hm2;have hK:(U9 q' - -U9 q')*((2^(Hm q' q'+1):Nat):Rat)<=((2^(63*s+5160):Nat):Rat):=by
  have hps:=Ey bq;have hg:Hm q' q'<=(2*s+164)*31:=by
   unfold Hm;exact Zk (by omega) (by omega)
  exact Zc0 (s:=s+69) (g:=Hm q' q'+1) (N:=63*s+5160) (by grind) hm2 (by omega)
 have hN:Ug (D:Int)+Ug ((m+1:Nat):Int)+(0+(63*s+5160))<=16777216:=by omega
 obtain ⟨ls,r1,r2,r3⟩:=Qg3 (F:=99999-(63*s+5160)) hS sq.pq.t (by omega) (λh=>by rw [hl0 h]) (Wj m) (63*s+5160) 0 (-U9 q') (U9 q') (by grind) (Zgz gb) gb hN hK;rw [show 99999-(63*s+5160)+(63*s+5160)+1=100000 by omega] at r1;have hchq:chq (U9 q')=some (U9 q'):=Q35 gb (Wj m) (by omega);have key:∀ t∈ls,Va t/\t.p=q'/\t.lo<t.hi/\Bd (s+69) q'/\∃ D M k,Gr D M k t.lo/\Gr D M k t.hi/\0<M/\Ug (D:Int)≤s+69/\Ug (M:Int)≤s+70/\k≤63*s+5160:=λt ht=>by
  obtain ⟨k',k1,k2,k3⟩:=r3 t ht;have hmem:∀ {lo hi:Rat} {ls:List Tm},RI q' ((q'::l).map cz) lo ls hi->t∈ls->Vt (cz q') ((q'::l).map cz) t.lo t.hi/\t.p=q':=λh=>by
   induction h with
   | nil=>intro ht; cases ht
   |
    cons h hv ht' hp hl ih =>
    intro ht;rcases Ql.1 ht with rfl | ht
    ·exact ⟨ht',hp⟩
    ·exact ih ht
  obtain ⟨v1,v2⟩:=hmem r2 ht;have lq2:2<=q'.length:=by
   rcases Zb q'.length 2 with e | e
   ·exfalso;have hvv:∀ x,vv ((q'::l).map cz) x=0:=λx=>by
     rw [hl0 e,sq.pq.one e];have hv1:∀ x:Rat,ev (cz [1]) x=1:=λx=>by rw [W5,Pa]
     simp only [Zx,X7,vv,tc,hv1];have:W7 1=1:=by decide
     rw [this]; decide
    have:=v1.v;rw [hvv,hvv] at this; omega
   ·exact e
  exact ⟨⟨.inr ⟨_,by rw [v2]; exact v1⟩,by rw [v2]; exact sq.pq.t,by rw [v2]; omega,by rw [v2]; exact lq2,by rw [v2]; exact Wx bq (by omega),λ_=>by rw [v2]; exact Wx bq (by omega),λ_=>by rw [v2]; exact ⟨l,_,g,hch,sq,v1⟩,D,m+1,k',k2,k3,Wj m,Qd (show _<=1000000 by omega) (Zg3 t)⟩,v2,v1.l,bq,D,m+1,k',k2,k3,Wj m,hDs,Qd hMs (Qm (s+70)),by rw [Zu] at k1; exact k1⟩
 refine ⟨q',q'::l,ls,hq',q2,?_,hS,r2,λt ht=>(key t ht).1,λx y hxy hb=>Qv7 hS sq.pq.t sq.pq.n hxy hb (by grind),by omega,λt ht=>(key t ht).2⟩
 ·unfold Qjp;rw [q2,hq'];show (chq (U9 q')).bind _=_;rw [hchq];show Dz q' (q'::l) 100000 (-U9 q') (U9 q') (Oi (q'::l))=_;rw [Q1l hS hall];exact r1
theorem Q7i {p:List Int} (h:Okp 9 1180 p):∃ q c l,Te p=some q/\Df p=some c/\Qjp p=some l/\Stm (cz q) (c.map cz)/\RI q (c.map cz) (-U9 q) l (U9 q)/\(∀ t∈l,Va t)/\(∀ x y,x<y->U9 q≤x\/y≤-U9 q->vv (c.map cz) x=vv (c.map cz) y):=by
 obtain ⟨q,c,l,h1,h2,h3,h4,h5,h6,h7,_⟩:=Q7j (Qm _) h;exact ⟨q,c,l,h1,h2,h3,h4,h5,h6,h7⟩
theorem Ck {q:List Int} {L:List (List Rat)} (hS:Stm (cz q) L) {c:Rat->Int} (hc:Cut c) {lo:Rat} (hH:∀ z,c z=-1->z<=lo->vv L z=vv L lo) {y0:Rat} (hy:c y0=-1) (hv:∀ z,lo<z->z<=y0->vv L z=vv L lo):∃ s,s≠0/\∀ z,c z=-1->z<=y0->W7 (ev (cz q) z)=s:=by
 have hall:∀ z,c z=-1->z<=y0->vv L z=vv L lo:=λz h1 h2=>by
  rcases Uq z lo with e | e
  ·exact hH z h1 e
  ·exact hv z e h2
 have hne:∀ z,c z=-1->z<=y0->W7 (ev (cz q) z)≠0:=λz h1 h2=>by
  obtain ⟨w,w1,w2⟩:=hc.dn z h1;have:=Qoz hS w1 (by rw [hall w w2 (by grind),hall z h1 h2]);rw [this.s]; exact this.n
 refine ⟨W7 (ev (cz q) y0),hne y0 hy Qo,λz h1 h2=>?_⟩;rcases Classical.em (z=y0) with e | e
 ·rw [e]
 ·have:=Qoz hS (x:=z) (y:=y0) (by grind) (by rw [hall z h1 h2,hall y0 hy Qo]);rw [this.s,Du (hne z h1 h2)]
structure Fst (o:List Int) (a t:Tm):Prop where
 lt:S7 a t
 s:∃ s,s≠0/\(∀ z,Ue a z=-1->Ue t z=1->W7 (ev (cz o) z)=s)/\RS (cz o) (Ue t) (-s)
def Non (o:List Int) (a:Tm):Prop:=∃ s,s≠0/\∀ z,Ue a z=-1->W7 (ev (cz o) z)=s
theorem Q09 {q:List Int} {L:List (List Rat)} (hS:Stm (cz q) L) {a:Tm} (ha:Va a) {lo hi:Rat} {l:List Tm} (hR:RI q L lo l hi):(∀ t∈l,Va t)->(∀ z,hi<z->vv L z=vv L hi)->(∀ z,Ue a z=-1->z≤lo->vv L z=vv L lo)->∃ r,Qa0 a l=some r/\match r with
 | none=>Non q a
 | some t=>t∈l/\Fst q a t:=by
 have ca:=ha.cut
 induction hR with
 |
  @nil lo hi h hv =>
  intro _ hhi hH;refine ⟨none,rfl,?_⟩;obtain ⟨y1,hy1⟩:=ca.hi;have hall:∀ z,lo<z->vv L z=vv L lo:=λz hz=>by
   rcases Uq z hi with e | e
   ·have h1:=D6 hS hz;have h2:vv L hi<=vv L z:=by
     rcases Classical.em (z=hi) with e' | e'
     ·rw [e']; exact Qm _
     ·exact D6 hS (by grind)
    omega
   ·rw [hhi z e,hv]
  obtain ⟨s,s0,hs⟩:=Ck hS ca hH hy1 λz h1 _=>hall z h1
  refine ⟨s,s0,λz hz=>?_⟩;rcases Uq z y1 with e | e
  ·exact hs z hz e
  ·obtain ⟨s',s0',hs'⟩:=Ck hS ca hH hz λz h1 _=>hall z h1
   rw [hs' z hz Qo,<-hs' y1 hy1 (Qp e),hs y1 hy1 Qo]
 |
  @cons lo hi t l h hv ht hp hl ih =>
  intro hV hhi hH;have hvt:=hV t (Qx ..);have ct:=hvt.cut;have ht':=ht;rw [<-hp] at ht';have ect:∀ z,Ue t z=cq (cz t.p) t.lo t.hi z:=Mf ht.l;obtain ⟨c,c1,c2⟩:=Qcl hvt ha;show ∃ r,((Qck t a).bind λc=>if 0<c then some (some t) else Qa0 a l)=some r/\_;rw [c1];show ∃ r,(if 0<c then some (some t) else Qa0 a l)=some r/\_;have hlo1:Ue t t.lo=1:=by rw [ect]; exact Di Qo
  have hlow:∀ z,lo<z->Ue t z=1->vv L z=vv L lo:=λz h1 h2=>by
   rcases Uq z t.lo with e | e
   ·have a1:=D6 hS h1;have a2:vv L t.lo<=vv L z:=by
     rcases Classical.em (z=t.lo) with e' | e'
     ·rw [e']; exact Qm _
     ·exact D6 hS (by grind)
    omega
   ·rw [ect] at h2;have hz:z<=t.hi:=by
     rcases Uq z t.hi with e' | e'
     ·exact e'
     ·rw [Qcm ht.l e'] at h2; omega
    rw [ht'.eq_lo e hz h2,hv]
  by_cases hc:0<c
  ·rw [if_pos hc];refine ⟨some t,rfl,Qx ..,?_⟩;have hlt:S7 a t:=by
    rcases c2 with ⟨e,_⟩ | ⟨e,_⟩ | ⟨_,h⟩
    ·omega
    ·omega
    ·exact h
   refine ⟨hlt,?_⟩;obtain ⟨m,m1,m2⟩:=hlt;obtain ⟨s,s0,hs⟩:=Ck hS ca hH m1 λz h1 h2=>hlow z h1 (by
    rcases Classical.em (z=m) with e | e
    ·rw [e]; exact m2
    ·exact ct.mono' (q:=z) (r:=m) (by grind) (by omega))
   have hall:∀ z,Ue a z=-1->Ue t z=1->W7 (ev (cz q) z)=s:=λz h1 h2=>by
    rcases Uq z m with e | e
    ·exact hs z h1 e
    ·obtain ⟨s',s0',hs'⟩:=Ck hS ca hH h1 λw w1 w2=>hlow w w1 (by
      rcases Classical.em (w=z) with e | e
      ·rw [e]; exact h2
      ·exact ct.mono' (q:=w) (r:=z) (by grind) (by omega))
     rw [hs' z h1 Qo,<-hs' m m1 (Qp e),hs m m1 Qo]
   refine ⟨s,s0,hall,?_⟩;obtain ⟨w,w1,w2,w3⟩:=Qh5 ct m2 hlo1;have hwa:Ue a w=-1:=ca.mono m w w2 (by omega);have hsw:=hall w hwa w1;have hwh:w<t.hi:=by
    rw [ect] at w1;rcases Uq t.hi w with e | e
    ·have:=ht'.hi1;rcases Classical.em (t.hi=w) with e' | e'
     ·rw [<-e'] at w1; exact absurd w1 this
     ·rw [Qcm ht.l (by grind)] at w1; omega
    ·exact e
   have hww:vv L w=vv L t.lo:=ht'.eq_lo w3 (Qp hwh) (by rw [<-ect]; exact w1);have hvv:=ht.v;have hone:=Qoy hS hwh (by omega);have hlw:Rp (cz q) w=s:=by rw [Du (by rw [hsw]; exact s0),hsw]
   rw [hlw] at hone;have hd:∀ z,w<z->z<=t.hi->Ue t z=-1->W7 (ev (cz q) z)=-s:=λz z1 z2 z3=>by
    rw [ect] at z3;have e1:=ht'.eq_hi (by grind) z2 (by omega);have e2:=Qoy hS z1 (by omega);rw [hlw] at e2;have hz0:W7 (ev (cz q) z)≠0:=by
     rw [Lo (by grind) z2,hp] at z3;intro h0;rw [if_pos h0] at z3; omega
    rw [Du hz0] at e2; exact e2.2
   rcases ct.val t.hi with e | e | e
   ·rw [ect] at e; exact absurd e ht'.hi1
   ·obtain ⟨d,dp,hd'⟩:=Zjx (p:=cz q) (x:=t.hi) (by rw [hone.2]; omega);refine ⟨t.hi+d,ct.mono t.hi _ (by grind) (by omega),λz h1 h2=>?_⟩;have hz:t.hi<z:=by
     rcases Uq z t.hi with e' | e'
     ·rcases Classical.em (z=t.hi) with e'' | e''
      ·rw [e''] at h1; omega
      ·have:=ct.mono z t.hi (by grind) (by omega); omega
     ·exact e'
    rw [hd' z hz (by grind),hone.2]
   ·exact ⟨t.hi,e,λz h1 h2=>hd z (ct.lt w1 h1) h2 h1⟩
  ·rw [if_neg hc];have hle:¬S7 a t:=λh=>by
    rcases c2 with ⟨e,h'⟩ | ⟨e,h'⟩ | ⟨e,_⟩
    ·exact Lr ct ca h' h
    ·obtain ⟨z,z1,z2⟩:=h;have:=h' z; omega
    ·omega
   obtain ⟨r,r1,r2⟩:=ih (λx hx=>hV x (Qe _ hx)) hhi λz z1 z2=>by
    have hz:Ue t z≠1:=λh=>hle ⟨z,z1,h⟩
    have hzl:t.lo<z:=by
     rcases Uq z t.lo with e | e
     ·refine absurd ?_ hz;rw [ect]; exact Di e
     ·exact e
    exact ht'.eq_hi hzl z2 (by rw [<-ect]; exact hz)
   refine ⟨r,r1,?_⟩;cases r with
   | none=>exact r2
   | some x=>exact ⟨Qe _ r2.1,r2.2⟩
theorem Zex {c:Rat->Int} (hc:Cut c):∀ (n:Nat) (f:List Rat),HD f n->∃ s,s≠0/\RS f c s
 |
  n,f,h=>by
  rcases Ot hc f with hv | ⟨s,hs,hn⟩
  ·cases n with
   |
    zero =>
    exfalso;obtain ⟨q,hq,_⟩:=Qrb hc (hv (Uc (f.getD 0 0)) (Mp h.1));cases f with
    | nil=>exact h.1 (by simp)
    |
     cons a l =>
     have:=Be (p:=l) λk=>by have:=h.2 (k+1) (by omega); rwa [Q3] at this
     simp only [ev,this,Zo] at hq; grind
   |
    succ n =>
    have hd:HD (Pm f) n:=by
     have key:∀ (f:List Rat) (k:Nat),(Pm f).getD k 0=((k+1:Nat):Rat)*f.getD (k+1) 0:=by
      intro f
      induction f with
      | nil=>intro k; simp only [Pm,Kb]; grind
      |
       cons a f ih =>
       intro k;simp only [Pm];rw [Gp,Q3];cases k with
       | zero=>rw [Zo]; push_cast; grind
       | succ k=>rw [Q3,ih]; push_cast; grind
     refine ⟨λh0=>?_,λk hk=>by rw [key,h.2 (k+1) (by omega)]; grind⟩;rw [key] at h0;rcases Yp.1 h0 with h1 | h1
     ·have:=nat_pos (show 0<n+1 by omega); grind
     ·exact h.1 h1
    obtain ⟨s,hs,h1⟩:=Zex hc n (Pm f) hd;exact ⟨s,hs,Qoj hc hv h1 hs⟩
  ·exact ⟨s,hs,Ql5 hc hn⟩
theorem Q7l {c:Rat->Int} (hc:Cut c) {f p q:List Rat} {s s':Int} (hf:∀ t,ev f t=ev p t*ev q t) (h:RS p c s) (h':RS q c s'):RS f c (s*s'):=by
 obtain ⟨y,h1,h2⟩:=h;obtain ⟨y',h3,h4⟩:=h';refine ⟨if y<=y' then y else y',by split <;> assumption,λz z1 z2=>?_⟩;rw [hf,Hz,h2 z z1 (by clear h2 h4; grind),h4 z z1 (by clear h2 h4; grind)]
theorem Q7m {c:Rat->Int} (hc:Cut c) {f o S:List Rat} {k:Rat} (hk:k≠0) (hf:∀ t,ev f t=k*(ev o t*(ev S t*ev S t))) (hnz:¬∀ t,ev f t=0) {s:Int} (h:RS o c s):RS f c (W7 k*s):=by
 obtain ⟨n,_,hn⟩:∃ n,n<S.length/\HD S n:=by
  rcases Qim S with h1 | h1
  ·exact absurd (λt=>by rw [hf,h1]; grind) hnz
  ·exact h1
 obtain ⟨s',hs',h'⟩:=Zex hc n S hn;have h1:=Q7l hc (f:=Fa S S) (λt=>W9 t _ _) h' h';have h2:=Q7l hc (f:=Fa o (Fa S S)) (λt=>W9 t _ _) h h1;have hsq:s'*s'=1:=by
  obtain ⟨y,y1,y2⟩:=h';have:=y2 y y1 Qo;rcases Um (ev S y) with ⟨e,_⟩ | ⟨e,_⟩ | ⟨e,_⟩
  ·rw [<-this,e]; rfl
  ·omega
  ·rw [<-this,e]; rfl
 rw [hsq,Int.mul_one] at h2;obtain ⟨y,y1,y2⟩:=h2;exact ⟨y,y1,λz z1 z2=>by
  have:=y2 z z1 z2;rw [W9,W9] at this;rw [hf,Hz,this]⟩
structure Cp (p:List Int):Prop where
 t:Ua p
 l:p.length<=9
 b:Bd 1110 p
theorem Cp.dp {p:List Int} (h:Cp p):Dp p:=⟨h.t,h.l,Wx h.b (by omega)⟩
theorem Cp.ok {p:List Int} (h:Cp p) (h0:p.length≠0):Okp 9 1180 p:=h.dp.ok h0
def Leq (a:Tm) (c:Rat->Int):Prop:=∀ q,c q=-1->Ue a q=-1
def Se (p:List Int) (a:Tm):Option Tm->Prop
 | none=>p=[]\/∃ s,s≠0/\∀ c,Cut c->Leq a c->RS (cz p) c s
 | some t=>p≠[]/\Va t/\S7 a t/\∃ s,s≠0/\(∀ c,Cut c->Leq a c->(∃ m,c m=-1/\Ue t m=1)->RS (cz p) c s)/\RS (cz p) (Ue t) (-s)
theorem RI.len {q:List Int} {L:List (List Rat)} {lo hi:Rat} {l:List Tm} (h:RI q L lo l hi):l.length+vv L hi<=vv L lo:=by
 induction h with
 | nil h hv=>simp; omega
 | cons h hv ht hp hl ih=>have:=ht.v; simp only [Q6]; omega
theorem Q8b (x:Rat):∀ (L:List (List Rat)) (s:Int),tc x s L<=L.length
 | [],_=>Qm _
 |
  f::l,s=>by
  have h1:=Q8b x l;simp only [tc,Q6]
  repeat' split
  all_goals (first | (have:=h1 s; omega) | (have:=h1 (W7 (ev f x)); omega))
theorem Zij (L:List (List Rat)) (x:Rat):vv L x<=L.length:=Q8b x L 0
theorem Oq {p:List Int} (h:Cp p):∃ l,Qb3 p=some l/\l.length≤67/\(∀ t∈l,Va t)/\∀ a,Va a->∃ r,Qa0 a l=some r/\Se p a r/\∀ t,r=some t->t∈l:=by
 unfold Qb3;by_cases h0:p.length=0
 ·have e:p=[]:=Qh h0;subst e;exact ⟨[],rfl,by decide,(λt ht=>by cases ht),λa _=>⟨none,rfl,.inl rfl,λt ht=>by cases ht⟩⟩
 ·obtain ⟨qp,o,q1,o1,hpt⟩:=Q6l (n:=9) (s:=1110) (p:=p) ⟨⟨by decide,by decide⟩,h.t,h0,h.l,h.b⟩;obtain ⟨g,sq⟩:=hpt.sq;obtain ⟨S,hS⟩:=hpt.os;obtain ⟨p1,p2,p3,p4,p5,p6,p7⟩:=Mm h.t h0;have hpl:=h.l;obtain ⟨hh,th,eh⟩:=hpt.oh;have bo:Bd 1179 o:=Im (p5 1110 h.b) (by omega) p1 hpt.ot th (by omega) eh;obtain ⟨lo1,lo2⟩:=G9 p1 (by omega) eh;have hlen:=Tw hpt.ot th p1 eh lo1 lo2;have oko:Okp 9 1180 o:=⟨Qys,hpt.ot,by omega,by omega,Wx bo (by omega)⟩;obtain ⟨q,c,l,r1,r2,r3,hSt,hRI,hVa,hout⟩:=Q7i oko;obtain ⟨g',q',s1,s2⟩:=Qag oko;rw [r1] at s1;injection s1 with s1;subst s1;obtain ⟨_,_,_,_,_,o6,o7⟩:=Mm hpt.ot (by omega);have hg1:g'=[1]:=by
   refine s2.pg.one ?_;obtain ⟨E,hE⟩:=hpt.oq;have hE:∀ t,W4 qp t=W4 o t*ev E t:=λt=>by have:=hE t; rwa [W5,W5] at this
   obtain ⟨z,hz⟩:=s2.d;have hd1:∀ t,W4 o t=W4 g' t*(Fv o*W4 q t):=λt=>by rw [o7,s2.e]; grind
   have hdo:∀ t,dv (cz o) t=W4 g' t*(Fv o*ev z t):=λt=>by
    have:=Q4m (p:=cz o) (q:=Nx (Fv o) (cz (Ub o))) (λt=>by rw [W5,Uz,W5,o7]) t;rw [this,Qeg,hz]; grind
   obtain ⟨k,hk,hkk⟩:=sq.num (d:=cz g') ⟨Fa (Nx (Fv o) (cz q)) E,λt=>by rw [W5,W5,hE,hd1,W9,Uz,W5]; grind⟩ ⟨Hx (Fa (Nx (Fv o) z) E) (Fa (Nx (Fv o) (cz q)) (Pm E)),λt=>by
    have:=Al (f:=cz qp) (w:=cz o) (u:=E) (λt=>by rw [W5,W5,hE]) t;rw [Hh,this,hdo,W5,W5,hd1,U7,W9,W9,Uz,Uz,Hh,W5]; grind⟩
   rcases Zb g'.length 2 with e | e
   ·exact e
   ·exfalso;have h1:=(Qfv s2.pg.t (by omega)).1;have h2:=Ns (p:=cz g') (q:=[k]) (λt=>by rw [hkk]; simp only [ev]; grind) (g'.length-1);rw [h2,Qj,Q0 (by simp; omega)] at h1;exact h1 rfl
  have hpq:∀ t,ev (cz p) t=((Fv p:Rat)*(Fv o:Rat))*(ev (cz q) t*(ev S t*ev S t)):=λt=>by
   rw [W5,W5,p7,hS,o7,s2.e,hg1,Pa]; grind
  have hk0:(Fv p:Rat)*(Fv o:Rat)≠0:=λh=>(Yp.1 h).elim (Is p6) (Is o6)
  have hpz:¬∀ t,ev (cz p) t=0:=λh'=>Qfq h.t (by omega) λt=>by rw [<-W5]; exact h' t
  obtain ⟨k,hk⟩:=nmE (W7 ((Fv p:Rat)*(Fv o:Rat)));have hkn:k≠0:=λh=>hk0 (Ux.1 (by rw [<-hk]; exact h))
  have ho:o.length≠0:=by omega
  rw [o1];show ∃ l,(if o.length=0 then some [] else Qjp o)=some l/\l.length<=67/\_;rw [if_neg ho];have hb1:=Qd4 (Cq s2.pq.t s2.pq.n);have hll:=hRI.len;have hlv:=Zij (c.map cz) (-U9 q);have hcl:=(Orr.chain_ok (p:=o) ⟨hpt.ot,by omega,Wx bo (by omega)⟩ r2).1;rw [Zm] at hlv;refine ⟨l,r3,by omega,hVa,λa ha=>?_⟩;obtain ⟨r,n1,n2⟩:=Q09 hSt ha hRI hVa (λz hz=>(hout _ _ hz (.inl Qo)).symm) λz _ hz=>by
   rcases Classical.em (z=-U9 q) with e | e
   ·rw [e]
   ·exact hout z _ (by grind) (.inr Qo)
  refine ⟨r,n1,?_,λt ht=>by subst ht; exact n2.1⟩;cases r with
  |
   none =>
   obtain ⟨s,hs,hz⟩:=n2;refine .inr ⟨k*s,Vv hkn hs,λc hc hac=>?_⟩;obtain ⟨y,hy⟩:=hc.hi;have h1:RS (cz q) c s:=⟨y,hy,λz z1 _=>hz z (hac z z1)⟩;rw [hk]; exact Q7m hc hk0 hpq hpz h1
  |
   some t =>
   obtain ⟨hm,hlt,s,hs,hz,hrs⟩:=n2;refine ⟨λe=>h0 (by rw [e]; rfl),hVa t hm,hlt,k*s,Vv hkn hs,λc hc hac ⟨m,m1,m2⟩=>?_,?_⟩
   ·have h1:RS (cz q) c s:=⟨m,m1,λz z1 z2=>hz z (hac z z1) (by
     rcases Classical.em (z=m) with e | e
     ·rw [e]; exact m2
     ·exact (hVa t hm).cut.mono' (q:=z) (r:=m) (by grind) (by omega))⟩
    rw [hk]; exact Q7m hc hk0 hpq hpz h1
   ·have:=Q7m (hVa t hm).cut hk0 hpq hpz hrs;rw [<-hk] at this;rw [show -(k*s)=k*-s by rw [Wp]]; exact this
structure Sz (s n:Nat) (t:Tm):Prop where
 n:t.p.length<=n
 b:Bd (s+138) t.p
 g:∃ D M k,Gr D M k t.lo/\Gr D M k t.hi/\0<M/\Ug (D:Int)<=s+138/\Ug (M:Int)<=s+139/\k<=63*s+9507
theorem Q6g {p:List Int} (h:Cp p) {a:Tm} (ha:Va a):∃ r,Qfy p a=some r/\Se p a r:=by
 obtain ⟨l,l1,_,_,l3⟩:=Oq h;obtain ⟨r,r1,r2,_⟩:=l3 a ha;refine ⟨r,?_,r2⟩;unfold Qfy;rw [l1]; exact r1
theorem Qes:∀ (l:List Tm) (b:Tm),(∀ t∈b::l,Va t)->∃ m,Aq b l=some m/\m∈b::l/\∀ t∈b::l,¬S7 t m
 |
  [],b,h=>⟨b,rfl,Qx ..,λt ht h'=>by
  rw [Qk.1 ht] at h';have hb:=(h b (Qx ..)).cut;exact Lr hb hb h' h'⟩
 |
  a::l,b,h=>by
  have ha:=h a (by simp);have hb:=h b (by simp);obtain ⟨c,c1,c2⟩:=Qcl ha hb;obtain ⟨m,m1,m2,m3⟩:=Qes l (if c<0 then a else b) λt ht=>by
   rcases Ql.1 ht with rfl | ht
   ·split <;> assumption
   ·exact h t (by simp [ht])
  refine ⟨m,by simp only [Aq]; rw [c1]; exact m1,?_,λt ht=>?_⟩
  ·rcases Ql.1 m2 with e | e
   ·rw [e]; split <;> simp
   ·simp [e]
  ·have hm:Va m:=by
    rcases Ql.1 m2 with e | e
    ·rw [e]; split <;> assumption
    ·exact h m (by simp [e])
   have hfst:=m3 _ (Qx ..);have tr:∀ x y:Tm,Va x->Va y->¬S7 x y->¬S7 y m->¬S7 x m:=λx y hx hy h1 h2 h3=>by
    rcases tri hy.cut hm.cut with h4 | h4 | h4
    ·exact h2 h4
    ·obtain ⟨q,q1,q2⟩:=h3;exact h1 ⟨q,q1,by rw [h4]; exact q2⟩
    ·obtain ⟨q,q1,q2⟩:=h3;obtain ⟨r,r1,r2⟩:=h4;have:=hm.cut.lt q2 r1;exact h1 ⟨q,q1,hy.cut.mono' this (by omega)⟩
   rcases Ql.1 ht with rfl | ht
   ·by_cases hc:c<0
    ·rw [if_pos hc] at hfst;refine tr _ a hb ha ?_ hfst;rcases c2 with ⟨_,h'⟩ | ⟨e,_⟩ | ⟨e,_⟩
     ·exact λh''=>Lr ha.cut hb.cut h' h''
     ·omega
     ·omega
    ·rw [if_neg hc] at hfst; exact hfst
   ·rcases Ql.1 ht with rfl | ht
    ·by_cases hc:c<0
     ·rw [if_pos hc] at hfst; exact hfst
     ·rw [if_neg hc] at hfst;refine tr _ b ha hb ?_ hfst;rcases c2 with ⟨e,_⟩ | ⟨_,h'⟩ | ⟨_,h'⟩
      ·omega
      ·rintro ⟨q,q1,q2⟩
       have:=h' q; omega
      ·exact λh''=>Lr ha.cut hb.cut h'' h'
    ·exact m3 t (by simp [ht])
end Orq
namespace Orr
open Go Go.Proofs Orq
set_option maxRecDepth 10000
theorem Dp.pb {p:List Int} (h:Dp p):Pb p:=⟨h.t,by have:=h.l; omega,Wx h.b (by have:=h.l; omega)⟩
theorem Zjc {p:List Int} {a:Tm} (hp:Dp p) (ha:Va a):W0 Tryz.prog 180 [pr p,.agg (ta a)] [.one (.int .i64 (Uj a p))]:=Q9p (Dp.pb hp) ha.tb (Q7q hp ha).1
theorem Zi5 {p:List Int} {a:Tm} (hp:Dp p) (ha:Va a):W0 Tryz.prog 179 [pr p,.one (.sh (ta a))] [.one (.int .i64 (Uj a p))]:=w tt Tryz.func179 rfl [.c [] (Zjc hp ha)] rfl rfl trivial
theorem Zak {p:List Int} {fid:Nat} {l1:List LV} {sgn:List Int->Int} (hp:Dp p) (h:∀ p,Dp p->W0 Tryz.prog fid [pr p,.one (.sh l1)] [.one (.int .i64 (sgn p))]):W0 Tryz.prog 178 [pr p,.one (.fn fid [] [.sh l1])] [.one (.int .i64 (Hl sgn p.length p))]:=by
 have hpb:=Dp.pb hp;refine U4 Tryz.func178 rfl ?_;refine go tt [.c [] (Gf hpb.t hpb.ln hpb.bd)] rfl trivial ?_;refine lp (S:=List Int) 0 (λL1 s=>(0,.v (pr s))::L1) (λ_=>[]) (λs=>s.length) (λs=>Dp s/\Hl sgn s.length s=Hl sgn p.length p) p ⟨hp,rfl⟩ rfl (λ_ _=>rfl) rfl λr ⟨j1,j4⟩=>?_
 rw [<-j4];have jb:=Dp.pb j1;by_cases h0:r.length=0
 ·have e:=Qqo sgn h0;rw [e];exact en tt [.f (by simp; exact Qh h0)] rfl rfl trivial
 ·have hs:=h r j1;by_cases hz:sgn r=0
  ·have hlp:=Bi r;refine go tt [.t (by simp; omega),.c [] hs,.f (by simpa using hz),.c [] (L6 jb.ln jb.bd)] rfl trivial ?_;exact rd (Fj r) (by omega) ⟨j1.der,by rw [<-Qqn sgn (by omega) hz]⟩ rfl
  ·rw [Qqm sgn (by omega) hz];exact en tt [.t (by simp; omega),.c [] hs,.t (by simpa using hz)] rfl rfl trivial
abbrev gmA (a:Tm) (p:List Int):Int:=Fq (Uj a) p
theorem Qfo {p:List Int} {a:Tm} (hp:Dp p) (ha:Va a):W0 Tryz.prog 116 [pr p,.agg (ta a)] [.one (.int .i64 (gmA a p))] :=
 w tt Tryz.func116 rfl [.c [] (Zak (sgn:=Uj a) hp λ_ h=>Zi5 h ha)] rfl rfl trivial
theorem Qpt {t:Tm} {a b:Pt} {ps:List (List Int)} (hps:∀ p∈ps,Dp p) (ht:Va t) (hl:ps.length<1000):W0 Tryz.prog 208 [.agg (ta t),.agg (W8 a),.agg (W8 b),.one (.row (Ri ps))] [.one (.bool (B8 (Uj t) a b ps))]:=by
 refine U4 Tryz.func208 rfl ?_;have hpl:(Ri ps).length=ps.length:=by simp [Ri]
 refine go tt [] rfl trivial ?_;refine lp (S:=Nat) 3 (λL1 i=>(13,.v (.one (.int .i64 (i:Int))))::L1) (λ_=>[.blk 40 (ta t),.blk 62 (W8 a),.blk 62 (W8 b)]) (λi=>ps.length-i) (λi=>i<=ps.length/\B8 (Uj t) a b (ps.drop i)=B8 (Uj t) a b ps) 0 ⟨Qi _,rfl⟩ rfl (λ_ _=>rfl) rfl λi ⟨hi,he⟩=>?_
 rw [<-he];by_cases hlt:i<ps.length
 ·obtain ⟨p,hp⟩:=gxE (l:=ps) (i:=i) hlt;have hd:ps.drop i=p::ps.drop (i+1):=by
   rw [Zz hlt];rw [Qf hlt] at hp; injection hp with hp; rw [hp]
  have hpb:=hps p (Qa hp);rw [hd] at he ⊢;by_cases h0:0<p.length
  ·exact en tt [.t (by simp [hpl]; omega),.x (Gs hp),.t (by simp; omega),.c [] (Qfo hpb ht)] rfl (by simp only [B8]; rw [if_pos h0]) trivial
  ·refine go tt [.t (by simp [hpl]; omega),.x (Gs hp),.f (by simp; exact Qh (by omega))] rfl (by simp [Wv]; omega) ?_;exact rd (i+1) (by omega) ⟨hlt,by simp only [B8]; rw [if_neg h0]⟩ rfl
 ·have hd:ps.drop i=[]:=V8 (by omega);rw [hd];exact en tt [.f (by simp [hpl]; omega)] rfl rfl trivial
structure Sc (k:Crv):Prop where
 n:Nml k
 c:Cs 128 3 k
theorem Sc.cb {k:Crv} (h:Sc k):Cb k:=h.c.mono (by omega) (by omega)
theorem Sp {a b:Crv} (ha:Sc a) (hb:Sc b):Cp (Uu a b):=by
 refine ⟨Ur _ _,?_,Wx (Nn (Uw hb.c.x ha.c.d) (Uw ha.c.x hb.c.d)) (by omega)⟩;have:=Su (Uv b.x a.d) (Uv a.x b.d);have:=Un b.x a.d; have:=Un a.x b.d; have:=ha.c.lx; have:=hb.c.lx;unfold Uu; omega
theorem So {a b:Crv} (ha:Sc a) (hb:Sc b):Cp (Ut a b):=by
 refine ⟨Ur _ _,?_,Wx (Nn (Uw hb.c.y ha.c.d) (Uw ha.c.y hb.c.d)) (by omega)⟩;have:=Su (Uv b.y a.d) (Uv a.y b.d);have:=Un b.y a.d; have:=Un a.y b.d; have:=ha.c.ly; have:=hb.c.ly;unfold Ut; omega
theorem Q9q {a b:Pt} {t:Tm} (ha:Sc a.c) (hb:Sc b.c) (ht:Va t):W0 Tryz.prog 170 [.agg (W8 a),.agg (W8 b),.agg (ta t)] [.one (.bool (Mc (Uj t) a b))] :=
 w tt Tryz.func170 rfl [.c [] (Qcf hb.n ha.n hb.cb ha.cb),.c [] (Qci hb.n ha.n hb.cb ha.cb),.c [] (Qpt (t:=t) (a:=a) (b:=b) (ps:=[Ut b.c a.c,Uu b.c a.c]) (λp hp=>by
  simp at hp;rcases hp with rfl | rfl
  ·exact (So hb ha).dp
  ·exact (Sp hb ha).dp) ht (show 2<1000 by decide))] rfl rfl trivial
theorem Q2k {a b:Pt} {t:Tm} (ha:Sc a.c) (hb:Sc b.c) (ht:Va t):W0 Tryz.prog 169 [.agg (W8 a),.agg (W8 b),.agg (ta t)] [.one (.bool (Hk (Uj t) a b))] :=
 w tt Tryz.func169 rfl [.c [] (Qci ha.n hb.n ha.cb hb.cb),.c [] (Qcf ha.n hb.n ha.cb hb.cb),.c [] (Qpt (t:=t) (a:=a) (b:=b) (ps:=[Uu a.c b.c,Ut a.c b.c]) (λp hp=>by
  simp at hp;rcases hp with rfl | rfl
  ·exact (Sp ha hb).dp
  ·exact (So ha hb).dp) ht (show 2<1000 by decide))] rfl rfl trivial
theorem Ze6 (q:Rat) {P:Prop} (h:(tq q).point=false):P:=by
 have e:(tq q).point=true:=Tx.2 Qo;rw [e] at h; cases h
theorem Zg5 (q:Rat):lim (tq q)=3300000:=by unfold lim; rw [if_pos (Tx.2 Rat.le_refl)]
theorem Qkg {q:Rat} (hq:Qs 1640000 q):Va (tq q):=by
 have hd:=q.den_nz;refine ⟨.inl ⟨rfl,?_⟩,Zc9 q,by show 2<=9; omega,by show 2<=2; omega,Zi0 (hq.mono (by omega)),Ze6 q,Ze6 q,q.den,q.num.natAbs+1,0,?_,?_,by omega,?_⟩
 ·have e:(q.num:Rat)=q*(q.den:Rat):=by
   have:(q.num:Rat) / (((q.den:Int)):Rat)=q:=by rw [Gj,X2]
   have h2:(q.num:Rat) / (q.den:Rat)*(q.den:Rat)=q.num:=Zc (by have:=Orq.nat_pos q.den_pos; grind);rw [show (q.num:Rat) / (q.den:Rat)=q from this] at h2; exact h2.symm
  show W4 [-q.num,(q.den:Int)] q=0;simp only [W4];rw [V0,e,show (((q.den:Int)):Rat)=(q.den:Rat) from rfl]; grind
 all_goals first | (have h1:Ug (q.den:Int)<=1640000:=hq.2; have h2:Ug ((q.num.natAbs+1:Nat):Int)<=1640001:=Q01 hq.1; rw [Zg5]; omega) | skip
 all_goals
  refine ⟨⟨q.num,?_⟩,?_,q.den_pos⟩
  ·rw [Y4,Yj];have:(q.num:Rat) / (((q.den:Int)):Rat)=q:=by rw [Gj,X2]
   have h2:(q.num:Rat) / (q.den:Rat)*(q.den:Rat)=q.num:=Zc (by have:=Orq.nat_pos q.den_pos; grind);rw [show (q.num:Rat) / (q.den:Rat)=q from this] at h2; exact h2
  ·have h1:Uc q<=Uc (q.num:Rat):=by
    have e:(q.num:Rat)=q*(q.den:Rat):=by
     have:(q.num:Rat) / (((q.den:Int)):Rat)=q:=by rw [Gj,X2]
     have h2:(q.num:Rat) / (q.den:Rat)*(q.den:Rat)=q.num:=Zc (by have:=Orq.nat_pos q.den_pos; grind);rw [show (q.num:Rat) / (q.den:Rat)=q from this] at h2; exact h2.symm
    rw [e,Ll];have hd1:(1:Rat)<=(q.den:Rat):=by
     have:((1:Nat):Rat)<=(q.den:Rat):=Zh.2 q.den_pos;exact this
    have e2:Uc (q.den:Rat)=(q.den:Rat):=by unfold Uc; rw [if_neg (by grind)]
    rw [e2];have:=Mj (a:=Uc q) (c:=1) (Ge q) Qo (by decide) hd1;grind
   rw [H5] at h1;refine Zf h1 (Zh.2 (by omega))
theorem O2 {p q:List Int} (hp:Cp p) (hq:Cp q):Cp (Bz p q):=by unfold Bz; split <;> assumption
theorem Qwo {a b:Pt} {t:Tm} (ha:Sc a.c) (hb:Sc b.c) (ht:Va t):W0 Tryz.prog 111 [.one (.int .i64 1),.agg (ta t),.one (.row [W8 a,W8 b])] [.agg (Nj (Av (Uj t) a b)),.one (.int .i64 0)]:=by
 have h1:=Sp ha hb;have h2:=So ha hb;refine U4 Tryz.func111 rfl ?_;refine go tt [.c [] Q0e,.f rfl] rfl trivial ?_;refine lp (S:=Nat) 3 (λL1 i=>(22,.v (.one (.int .i64 (i:Int))))::L1) (λi=>[.blk 40 (ta t),.blk 144 zCt,.blk 144 [.int .i64 1,.int .i64 (if 1<=i then a.id else 0),.int .i64 (if 2<=i then b.id else 0),.int .i64 0,.int .i64 0,.nils,.int .i64 0]]) (λi=>2-i) (λi=>i<=2) 0 (Qi _) rfl (λ_ _=>rfl) rfl λi hi=>?_
 rcases (show i=0\/i=1\/i=2 by omega) with rfl | rfl | rfl
 ·refine go tt [.t rfl,.x (i:=0) (xs:=W8 a) rfl,.i 0] rfl (by simp [Wv]) ?_;exact rd 1 (by omega) (by omega) rfl
 ·refine go tt [.t rfl,.x (i:=1) (xs:=W8 b) rfl,.i 1] rfl (by simp [Wv]) ?_;exact rd 2 (by omega) (by omega) rfl
 ·exact en tt [.f rfl,.t rfl,.x (i:=0) (xs:=W8 a) rfl,.x (i:=1) (xs:=W8 b) rfl,.c [] (Qci ha.n hb.n ha.cb hb.cb),.x (i:=0) (xs:=W8 a) rfl,.x (i:=1) (xs:=W8 b) rfl,.c [] (Qcf ha.n hb.n ha.cb hb.cb),.c [] Qpr,.c [] (Qfo (O2 h1 h2).dp ht)] rfl rfl trivial
end Orr
namespace Orr
variable {α:Type}
def Ca (lt:α->α->Bool) (out:List α) (x:α):Nat->Nat
 | 0=>0
 |
  k+1=>match out[k]? with
  | some y=>if lt x y=true then Ca lt out x k else k+1
  | none=>k+1
theorem Qn9 (lt:α->α->Bool) (out:List α) (x:α):∀ k,Ca lt out x k<=k
 | 0=>Qm _
 |
  k+1=>by
  simp only [Ca]
  split
  ·split
   ·exact Nat.le_succ_of_le (Qn9 lt out x k)
   ·exact Qm _
  ·exact Qm _
theorem Qy1 {lt:α->α->Bool} {out:List α} {x y:α} {k:Nat} (hx:out[k]? = some y) (h:lt x y=true):Ca lt out x (k+1)=Ca lt out x k:=by
 simp only [Ca,hx,h,if_true]
theorem Qrv {lt:α->α->Bool} {out:List α} {x y:α} {k:Nat} (hx:out[k]? = some y) (h:lt x y=false):Ca lt out x (k+1)=k+1:=by
 simp [Ca,hx,h]
def B5 (lt:α->α->Bool) (out:List α) (x:α):List α:=out.take (Ca lt out x out.length)++x::out.drop (Ca lt out x out.length)
theorem Q5o (lt:α->α->Bool) (out:List α) (x:α):(B5 lt out x).length=out.length+1:=by
 have:=Qn9 lt out x out.length;simp [B5]; omega
theorem Qcy {lt:α->α->Bool} {out:List α} {x y:α}:y∈B5 lt out x↔y=x\/y∈out:=by
 have h:y∈out↔y∈out.take (Ca lt out x out.length)\/y∈out.drop (Ca lt out x out.length):=by
  rw [<-Qq,Zg]
 simp only [B5,Qq,Ql,h];constructor
 ·rintro (h | h | h)
  ·exact .inr (.inl h)
  ·exact .inl h
  ·exact .inr (.inr h)
 ·rintro (h | h | h)
  ·exact .inr (.inl h)
  ·exact .inl h
  ·exact .inr (.inr h)
def Ch (lt:α->α->Bool) (l:List α):List α:=l.foldl (B5 lt) []
theorem Qvx (lt:α->α->Bool) (l:List α) (x:α):Ch lt (l++[x])=B5 lt (Ch lt l) x:=by simp [Ch,Ve]
theorem Qvy {lt:α->α->Bool} {l:List α} {i:Nat} {x:α} (h:l[i]? = some x):Ch lt (l.take (i+1))=B5 lt (Ch lt (l.take i)) x:=by
 rw [Z0,h]; exact Qvx _ _ _
theorem Qij (lt:α->α->Bool):∀ (l acc:List α),(l.foldl (B5 lt) acc).length=acc.length+l.length
 | [],acc=>by simp
 | c::l,acc=>by simp only [Z4]; rw [Qij lt l (B5 lt acc c),Q5o]; simp; omega
theorem Ql9 (lt:α->α->Bool) (l:List α):(Ch lt l).length=l.length:=by unfold Ch; rw [Qij]; simp
theorem Qbi (lt:α->α->Bool):∀ (l acc:List α) {y:α},y∈l.foldl (B5 lt) acc↔y∈l\/y∈acc
 | [],acc,y=>by simp
 |
  c::l,acc,y=>by
  simp only [Z4];rw [Qbi lt l,Qcy,Ql];constructor
  ·rintro (h | h | h)
   ·exact .inl (.inr h)
   ·exact .inl (.inl h)
   ·exact .inr h
  ·rintro ((h | h) | h)
   ·exact .inr (.inl h)
   ·exact .inl h
   ·exact .inr (.inr h)
theorem Q1m {lt:α->α->Bool} {l:List α} {y:α}:y∈Ch lt l↔y∈l:=by
 unfold Ch; rw [Qbi]; simp
end Orr
namespace Orr
open Go Orq
structure Wt where
 c:Ct
 known:Bool
 fails:Option Tm
def f0:Option Tm->LV | none=>.row [] | some t=>pl t.p
def f1:Option Tm->LV | none=>.bool false | some t=>sg t.lo.num
def f2:Option Tm->LV | none=>.row [] | some t=>mg t.lo.num
def f3:Option Tm->LV | none=>.bool false | some t=>sg (t.lo.den:Int)
def f4:Option Tm->LV | none=>.row [] | some t=>mg (t.lo.den:Int)
def f5:Option Tm->LV | none=>.bool false | some t=>sg t.hi.num
def f6:Option Tm->LV | none=>.row [] | some t=>mg t.hi.num
def f7:Option Tm->LV | none=>.bool false | some t=>sg (t.hi.den:Int)
def f8:Option Tm->LV | none=>.row [] | some t=>mg (t.hi.den:Int)
abbrev fl (o:Option Tm):List LV:=[f0 o,f1 o,f2 o,f3 o,f4 o,f5 o,f6 o,f7 o,f8 o]
abbrev wl (w:Wt):List LV:=[.int .i64 w.c.kind,.int .i64 w.c.i0,.int .i64 w.c.i1,.int .i64 w.c.i2,.int .i64 w.c.i3,pl w.c.p,.int .i64 w.c.want,.bool w.known,.bool w.fails.isSome,f0 w.fails,f1 w.fails,f2 w.fails,f3 w.fails,f4 w.fails,f5 w.fails,f6 w.fails,f7 w.fails,f8 w.fails]
def P9 (l:List Wt):List (List LV):=l.map λw=>wl w
theorem Fy {l:List Wt} {i:Nat} {w:Wt} (h:l[i]? = some w):(P9 l)[i]? = some (wl w):=Gu h
theorem Hf (l:List Wt):(P9 l).length=l.length:=by simp [P9]
structure Cr where
 now:Tm
 l:List Wt
 ev:Int
abbrev Gl (c:Cr) (r0 r1:List (List LV)):List LV:=.bool true::pl c.now.p::sg c.now.lo.num::mg c.now.lo.num::sg (c.now.lo.den:Int)::mg (c.now.lo.den:Int)::sg c.now.hi.num::mg c.now.hi.num::sg (c.now.hi.den:Int)::mg (c.now.hi.den:Int)::.row (P9 c.l)::.int .i64 c.ev::[.row r0,.row r1]
structure WtOk (w:Wt):Prop where
 p:Cp w.c.p
 f:∀ t,w.fails=some t->Va t
structure CrOk (c:Cr):Prop where
 n:Va c.now
 l:∀ w∈c.l,WtOk w
 k:c.l.length<=1000
def Qse (a b:Ct):Bool:=decide ([a.kind,a.i0,a.i1,a.i2,a.i3]=[b.kind,b.i0,b.i1,b.i2,b.i3])
def fresh (x:Ct):Wt:=⟨x,false,none⟩
def Mh:List Wt->Ct->Tm->Option Wt
 | [],x,_=>some (fresh x)
 |
  w::l,x,at_=>if Qse w.c x=true/\w.known=true/\w.c.p=x.p then
   match w.fails with
   | none=>some ⟨x,true,none⟩
   | some t=>(Qck t at_).bind λc=>if 0<c then some ⟨x,true,some t⟩ else Mh l x at_
  else Mh l x at_
def Tl (old:List Wt) (at_:Tm):List Ct->Option (List Wt)
 | []=>some []
 | x::l=>(Mh old x at_).bind λw=>(Tl old at_ l).bind λr=>some (w::r)
end Orr
namespace Orr
open Go Go.Proofs Orq
set_option maxRecDepth 10000
theorem Ah {T:Nat} {c:Cr} {r0 r1:List (List LV)} (hc:Va c.now):W6 Tryz.prog 345 [.one (.ow 0 0)] [.blk T (Gl c r0 r1)] [.agg (ta c.now)] [.blk T (Gl c r0 r1)]:=by
 have cl:=Rf (b:=c.now) (l:=[]) hc.tb (λt ht=>by cases ht) (by decide) rfl;refine U4 Tryz.func345 rfl ?_;exact ed tt [] [0] [.f rfl,.c [] cl] rfl trivial
theorem Qcg {T:Nat} {c:Cr} {r0 r1:List (List LV)} (hc:CrOk c):W6 Tryz.prog 334 [.one (.ow 0 0)] [.blk T (Gl c r0 r1)] [.one (.row (W3 (Ui (c.l.map (·.c)))))] [.blk T (Gl c r0 r1)]:=by
 have hk:=hc.k;have hw:=Hf c.l;refine U4 Tryz.func334 rfl ?_;refine go tt [.o 3 144 7] rfl trivial ?_;refine lp (S:=Nat) 2 (λL1 i=>(11,.v (.one (.int .i64 (i:Int))))::(3,.v (.one (.orow 1 7 none)))::L1) (λi=>[.blk T (Gl c r0 r1),.row false 144 7 (W3 ((c.l.map (·.c)).take i))]) (λi=>c.l.length-i) (λi=>i<=c.l.length) 0 (Qi _) rfl (λ_ _=>rfl) rfl λi hi=>?_
 by_cases hlt:i<c.l.length
 ·obtain ⟨x,hx⟩:=gxE (l:=c.l) (i:=i) hlt;have hm:∀ y∈[Nj x.c],y.length=7:=λy hy=>by rw [Qk.1 hy]; rfl
  have hg:(c.l.map (·.c)).take (i+1)=(c.l.map (·.c)).take i++[x.c]:=by
   rw [Z0,Zq,hx]; rfl
  have hl:decide ((i:Int)<((P9 c.l).length:Int))=true:=by simp [hw]; omega
  obtain ⟨xc,xk,xf⟩:=x;cases xf <;> (refine go tt [.t hl,.x (Fy hx),.s (sz:=7) hm] rfl (by simp [Wv,Ry]; omega) ?_; exact rd (i+1) (by omega) hlt (by rw [hg]; simp [W3]; rfl))
 ·obtain rfl:i=c.l.length:=by omega
  have e:(c.l.map (·.c)).take c.l.length=c.l.map (·.c):=Qr (by simp);rw [e];have cs:=Qd8 (l:=c.l.map (·.c)) (λx hx=>by
   obtain ⟨w,hw,rfl⟩:=Ze.1 hx;exact Dp.pb (hc.l w hw).p.dp) (by simp; omega)
  exact ed tt [] [0] [.f (by simp [hw]),.c [] cs] rfl trivial
theorem Zfr {T:Nat} {c:Cr} {r0 r1:List (List LV)} {x:Ct} {at_:Tm} {w:Wt} (hc:CrOk c) (hx:Cp x.p) (ha:Va at_) (h:Mh c.l x at_=some w):W6 Tryz.prog 168 [.one (.ow 0 0),.agg (Nj x),.agg (ta at_)] [.blk T (Gl c r0 r1)] [.agg (wl w)] [.blk T (Gl c r0 r1)]:=by
 have hk:=hc.k;have hw:=Hf c.l;refine U4 Tryz.func168 rfl ?_;refine go tt [] rfl trivial ?_;refine lp (S:=Nat) 4 (λL1 i=>(14,.v (.one (.int .i64 (i:Int))))::L1) (λ_=>[.blk T (Gl c r0 r1),.blk 144 (Nj x),.blk 40 (ta at_),.blk 266 [.int .i64 0,.int .i64 0,.int .i64 0,.int .i64 0,.int .i64 0,.nils,.int .i64 0,.bool false,.bool false,.nils,.bool false,.nils,.bool false,.nils,.bool false,.nils,.bool false,.nils]]) (λi=>c.l.length-i) (λi=>i<=c.l.length/\Mh (c.l.drop i) x at_=some w) 0 ⟨Qi _,h⟩ rfl (λ_ _=>rfl) rfl λi ⟨hi,hf⟩=>?_
 by_cases hlt:i<c.l.length
 ·obtain ⟨v,hv⟩:=gxE (l:=c.l) (i:=i) hlt;have hdr:c.l.drop i=v::c.l.drop (i+1):=by
   rw [Zz hlt]; congr 1;have:=Qf hlt; rw [hv] at this; injection this with this; exact this.symm
  have hvo:=hc.l v (Qa hv);rw [hdr] at hf;simp only [Mh] at hf;have hl:decide ((i:Int)<((P9 c.l).length:Int))=true:=by simp [hw]; omega
  by_cases A:Qse v.c x=true
  ·have A':(!decide ([v.c.kind,v.c.i0,v.c.i1,v.c.i2,v.c.i3]=[x.kind,x.i0,x.i1,x.i2,x.i3]))=false:=by
    unfold Qse at A; rw [A]; rfl
   by_cases B:v.known=true
   ·have B':(!v.known)=false:=by rw [B]; rfl
    have cs:=Qgl (p:=v.c.p) (q:=x.p) (Dp.pb hvo.p.dp).ln (Dp.pb hx.dp).ln (Dp.pb hvo.p.dp).bd (Dp.pb hx.dp).bd;rw [hvo.p.t,hx.t] at cs;by_cases C:v.c.p=x.p
    ·have C':(!decide (v.c.p=x.p))=false:=by simp [C]
     rw [if_pos ⟨A,B,C⟩] at hf;obtain ⟨vc,vk,vf⟩:=v;cases vf with
     |
      none =>
      injection hf with hf; subst hf;exact ed tt [] [0] [.t hl,.x (Fy hv),.g 24 false A',.g 29 false B',.c [] cs,.f C',.g 41 true rfl,.t rfl] rfl trivial
     |
      some t =>
      obtain ⟨r,r1',hf⟩:=Qc.1 hf;have cc:=Qa9 (hvo.f t rfl).tb ha.tb r1';by_cases D:0<r
      ·rw [if_pos D] at hf;injection hf with hf; subst hf;exact ed tt [] [0] [.t hl,.x (Fy hv),.g 24 false A',.g 29 false B',.c [] cs,.f C',.g 41 false rfl,.c [] cc,.t (by simpa using D)] rfl trivial
      ·rw [if_neg D] at hf;refine go tt [.t hl,.x (Fy hv),.g 24 false A',.g 29 false B',.c [] cs,.f C',.g 41 false rfl,.c [] cc,.f (by simpa using D)] rfl (by simp [Wv]; omega) ?_;exact rd (i+1) (by omega) ⟨hlt,hf⟩ rfl
    ·rw [if_neg λh=>C h.2.2] at hf;refine go tt [.t hl,.x (Fy hv),.g 24 false A',.g 29 false B',.c [] cs,.t (by simp [C])] rfl (by simp [Wv]; omega) ?_;exact rd (i+1) (by omega) ⟨hlt,hf⟩ rfl
   ·rw [if_neg λh=>B h.2.1] at hf;refine go tt [.t hl,.x (Fy hv),.g 24 false A',.g 29 true (by simpa using B),.t rfl] rfl (by simp [Wv]; omega) ?_;exact rd (i+1) (by omega) ⟨hlt,hf⟩ rfl
  ·rw [if_neg λh=>A h.1] at hf;refine go tt [.t hl,.x (Fy hv),.g 24 true (by rw [show decide ([v.c.kind,v.c.i0,v.c.i1,v.c.i2,v.c.i3]=[x.kind,x.i0,x.i1,x.i2,x.i3])=false from K9.2 A]; rfl),.g 29 true rfl,.t rfl] rfl (by simp [Wv]; omega) ?_;exact rd (i+1) (by omega) ⟨hlt,hf⟩ rfl
 ·obtain rfl:i=c.l.length:=by omega
  rw [Yz] at hf;simp only [Mh] at hf;injection hf with hf; subst hf;exact ed tt [] [0] [.f (by simp [hw])] rfl trivial
theorem Iv {old:List Wt} {at_:Tm}:∀ {l:List Ct} {ws:List Wt},Tl old at_ l=some ws->ws.length=l.length/\∀ (i:Nat) (x:Ct),l[i]? = some x->∃ w,Mh old x at_=some w/\ws[i]? = some w
 | [],ws,h=>by injection h with h; subst h; exact ⟨rfl,λi x hx=>by simp at hx⟩
 |
  y::l,ws,h=>by
  simp only [Tl] at h;obtain ⟨w,hw,h⟩:=Qc.1 h;obtain ⟨r,hr,h⟩:=Qc.1 h;injection h with h; subst h;obtain ⟨a,b⟩:=Iv hr;refine ⟨by simp [a],λi x hx=>?_⟩;cases i with
  | zero=>injection hx with hx; subst hx; exact ⟨w,hw,rfl⟩
  | succ i=>exact b i x (by simpa using hx)
theorem De {l:List Wt} {i:Nat} {w:Wt} (h:l[i]? = some w):P9 (l.take (i+1))=P9 (l.take i)++[wl w]:=by
 rw [Z0,h]; simp [P9]
theorem Qch {T:Nat} {c:Cr} {r0 r1:List (List LV)} {at_:Tm} {l:List Ct} {ws:List Wt} (hc:CrOk c) (ha:Va at_) (hl:∀ x∈l,Cp x.p) (hn:l.length≤1000) (h:Tl c.l at_ (Ui l)=some ws):W6 Tryz.prog 106 [.one (.ow 0 0),.agg (ta at_),.one (.bool true),.one (.row (W3 l))] [.blk T (Gl c r0 r1)] [] [.blk T (Gl ⟨at_,ws,c.ev⟩ r0 r1)]:=by
 have cs:=Qd8 (l:=l) (λx hx=>Dp.pb (hl x hx).dp) (by omega);have cl:=Rf (b:=at_) (l:=[]) ha.tb (λt ht=>by cases ht) (by decide) rfl;obtain ⟨h1,h2⟩:=Iv h;have hs:(Ui l).length=l.length:=Pz l;refine U4 Tryz.func106 rfl ?_;refine go tt [.o 8 266 18,.c [] cs] rfl trivial ?_;refine lp (S:=Nat) 3 (λL1 i=>(15,.v (.one (.int .i64 (i:Int))))::(8,.v (.one (.orow 2 18 none)))::L1) (λi=>[.blk T (Gl c r0 r1),.blk 40 (ta at_),.row false 266 18 (P9 (ws.take i))]) (λi=>ws.length-i) (λi=>i<=ws.length) 0 (Qi _) rfl (λ_ _=>rfl) rfl λi hi=>?_
 by_cases hlt:i<ws.length
 ·obtain ⟨x,hx⟩:=gxE (l:=(Ui l)) (i:=i) (by omega);obtain ⟨w,hw,hw'⟩:=h2 i x hx;have hm:∀ y∈[wl w],y.length=18:=λy hy=>by rw [Qk.1 hy]; rfl
  have hlt':decide ((i:Int)<((W3 (Ui l)).length:Int))=true:=by simp [W3]; omega
  have ck:=Zfr (T:=T) (r0:=r0) (r1:=r1) hc (hl x (Qaf (Qa hx))) ha hw;have hg:=De hw';obtain ⟨wc,wk,wf⟩:=w;cases wf <;> (refine go tt [.t hlt',.x (Qbg hx),.t rfl,.c [0] ck,.s (sz:=18) hm] rfl (by simp [Wv,Hf]; omega) ?_; exact rd (i+1) (by omega) hlt (by rw [hg]; rfl))
 ·obtain rfl:i=ws.length:=by omega
  rw [Q4];have hge:decide ((ws.length:Int)<((W3 (Ui l)).length:Int))=false:=by simp [W3]; omega
  exact ed tt [] [0] [.f hge,.p 2,.c [] cl] rfl trivial
abbrev crz (r0 r1:LV):List LV:=[.bool false,.nils,.bool false,.nils,.bool false,.nils,.bool false,.nils,.bool false,.nils,.nils,.int .i64 0,r0,r1]
theorem Q9z {T:Nat} {r0 r1:List (List LV)} {at_:Tm} {l:List Ct} (ha:Va at_) (hl:∀ x∈l,Cp x.p) (hn:l.length≤1000):W6 Tryz.prog 106 [.one (.ow 0 0),.agg (ta at_),.one (.bool false),.one (.row (W3 l))] [.blk T (crz (.row r0) (.row r1))] [] [.blk T (Gl ⟨at_,(Ui l).map fresh,0⟩ r0 r1)]:=by
 have cs:=Qd8 (l:=l) (λx hx=>Dp.pb (hl x hx).dp) (by omega);have cl:=Rf (b:=at_) (l:=[]) ha.tb (λt ht=>by cases ht) (by decide) rfl;have hs:(Ui l).length=l.length:=Pz l;refine U4 Tryz.func106 rfl ?_;refine go tt [.o 8 266 18,.c [] cs] rfl trivial ?_;refine lp (S:=Nat) 3 (λL1 i=>(15,.v (.one (.int .i64 (i:Int))))::(8,.v (.one (.orow 2 18 none)))::L1) (λi=>[.blk T (crz (.row r0) (.row r1)),.blk 40 (ta at_),.row false 266 18 (P9 (((Ui l).map fresh).take i))]) (λi=>l.length-i) (λi=>i<=l.length) 0 (Qi _) rfl (λ_ _=>rfl) rfl λi hi=>?_
 by_cases hlt:i<l.length
 ·obtain ⟨x,hx⟩:=gxE (l:=(Ui l)) (i:=i) (by omega);have hm:∀ y∈[wl (fresh x)],y.length=18:=λy hy=>by rw [Qk.1 hy]; rfl
  have hlt':decide ((i:Int)<((W3 (Ui l)).length:Int))=true:=by simp [W3]; omega
  have hg:=De (l:=(Ui l).map fresh) (i:=i) (w:=fresh x) (by rw [Zq,hx]; rfl);refine go tt [.t hlt',.x (Qbg hx),.z 20,.f rfl,.s (sz:=18) hm] rfl (by simp [Wv,Hf]; omega) ?_;exact rd (i+1) (by omega) hlt (by rw [hg]; rfl)
 ·obtain rfl:i=l.length:=by omega
  rw [Qr (by simp; omega)];have hge:decide ((l.length:Int)<((W3 (Ui l)).length:Int))=false:=by simp [W3]; omega
  exact ed tt [] [0] [.f hge,.p 2,.c [] cl] rfl trivial
theorem Ow {T:Nat} {r0 r1:List (List LV)} {at_:Tm} {l:List Ct} (ha:Va at_) (hl:∀ x∈l,Cp x.p) (hn:l.length≤1000):W6 Tryz.prog 70 [.one (.ow 0 0),.agg (ta at_),.one (.row (W3 l))] [.blk T (crz (.row r0) (.row r1))] [] [.blk T (Gl ⟨at_,(Ui l).map fresh,0⟩ r0 r1)]:=by
 have cl:=Q9z (T:=T) (r0:=r0) (r1:=r1) ha hl hn;refine U4 Tryz.func70 rfl ?_;exact ed tt [] [0] [.g 12 false rfl,.c [0] cl] rfl trivial
theorem eB {a b:Bool} (h:a=b):TV.one (LV.bool a)=.one (.bool b):=h ▸ rfl
theorem Ox {T:Nat} {c:Cr} {r0 r1:List (List LV)} {at_:Tm} {l:List Ct} {ws:List Wt} {k:Int} (hc:CrOk c) (ha:Va at_) (hk:Qck at_ c.now=some k) (h0:0≤k) (hl:∀ x∈l,Cp x.p) (hn:l.length≤1000) (h:Tl c.l at_ (Ui l)=some ws):W6 Tryz.prog 70 [.one (.ow 0 0),.agg (ta at_),.one (.row (W3 l))] [.blk T (Gl c r0 r1)] [] [.blk T (Gl ⟨at_,ws,c.ev⟩ r0 r1)]:=by
 have cl:=Qch (T:=T) (r0:=r0) (r1:=r1) hc ha hl hn h;have cc:=Qa9 ha.tb hc.n.tb hk;refine U4 Tryz.func70 rfl ?_;exact ed tt [] [0] [.g 12 true rfl,.c [] cc,.r 20 (eB (show decide (0<=k)=true by simpa using h0)),.c [0] cl] rfl trivial
theorem Qgv:∀ {k:Nat} {g:List Int} {l:List (List Int)},Pb g->Qer k g=some l->l.length≤k/\∀ p∈l,Pb p
 | 0,_,_,_,h=>by cases h
 |
  k+1,g,l,hg,h=>by
  simp only [Qer] at h
  split at h
  ·injection h with h; subst h; exact ⟨by simp,λp hp=>by cases hp⟩
  ·obtain ⟨d,hd,h⟩:=Qc.1 h;obtain ⟨rfl,hdp⟩:=Qi9 hd;obtain ⟨x,hx,h⟩:=Qc.1 h;obtain ⟨q,hq,h⟩:=Qc.1 h;obtain ⟨r,hr,h⟩:=Qc.1 h;injection h with h; subst h;obtain ⟨i1,i2⟩:=Qgv (Qe2 hg hdp hx) hr;refine ⟨by simp; exact i1,λp hp=>?_⟩;rcases Ql.1 hp with rfl | hp
   ·exact Qu3 hq
   ·exact i2 p hp
theorem Q3l {a:List Int} {l:List (List Int)} (ha:Pb a) (h:Qer 66 (Ub a)=some l):W0 Tryz.prog 358 [pr a] [.one (.row (Ri l))]:=by
 have hp:=Gy ha;refine U4 Tryz.func358 rfl ?_;refine go tt [.o 3 33 1,.c [] (Lb ha)] rfl trivial ?_;refine lp (S:=Nat×List (List Int)×List Int) 1 (λL1 s=>(4,.v (pr s.2.2))::(3,.v (.one (.orow 0 1 none)))::L1) (λs=>[.row false 33 1 (Ri s.2.1)]) (λs=>s.1) (λs=>Pb s.2.2/\s.2.1.length+s.1<=66/\∃ m,Qer s.1 s.2.2=some m/\s.2.1++m=l) (66,[],Ub a) ⟨hp,Qm _,l,h,rfl⟩ rfl (λ_ _=>rfl) rfl λ⟨k,out,g⟩ ⟨j1,j2,m,j3,j4⟩=>?_
 dsimp only at j1 j2 j3 j4 ⊢;cases k with
 | zero=>cases j3
 |
  succ k =>
  simp only [Qer] at j3
  split at j3
  ·rename_i h0;injection j3 with j3; subst j3;rw [Zw] at j4;subst j4;exact en tt [.c [] (Sf _),.f (by simp; omega)] rfl rfl trivial
  ·rename_i h0;obtain ⟨d,hd,j3⟩:=Qc.1 j3;obtain ⟨rfl,hdp⟩:=Qi9 hd;obtain ⟨x,hx,j3⟩:=Qc.1 j3;obtain ⟨q,hq,j3⟩:=Qc.1 j3;obtain ⟨r,hr,j3⟩:=Qc.1 j3;injection j3 with j3; subst j3;have hxp:=Qe2 j1 hdp hx;refine go tt [.c [] (Sf _),.t (by simp; omega),.c [] (L6 j1.ln j1.bd),.c [] (Qw2 j1 hdp hx),.c [] (Q3s j1 hxp hq),.s (sz:=1) (l:=[[pl q]]) (λc hc=>by rw [Qk.1 hc]; rfl)] rfl (by simp [Wv,Db]; omega) ?_;exact rd (k,out++[q],x) (by dsimp only; omega) ⟨hxp,by simp; omega,r,hr,by rw [<-j4]; simp⟩ (by rw [Qje]; rfl)
theorem Qib:∀ {l r:List (List Int)},Qj7 l=some r->r.length=l.length/\∀ i w,l[i]? = some w->(match l[i+1]? with | some v=>∃ f,Od w v=some f/\r[i]? = some f | none=>r[i]? = some w)
 | [],r,h=>by injection h with h; subst h; exact ⟨rfl,λi w hw=>by simp at hw⟩
 |
  [w],r,h=>by
  injection h with h; subst h;refine ⟨rfl,λi x hx=>?_⟩;cases i with
  | zero=>simpa using hx
  | succ i=>simp at hx
 |
  w::v::l,r,h=>by
  simp only [Qj7] at h;obtain ⟨f,hf,h⟩:=Qc.1 h;obtain ⟨s,hs,h⟩:=Qc.1 h;injection h with h; subst h;obtain ⟨i1,i2⟩:=Qib hs;refine ⟨by simp [i1],λi x hx=>?_⟩;cases i with
  |
   zero =>
   injection hx with hx; subst hx;exact ⟨f,hf,rfl⟩
  |
   succ i =>
   have:=i2 i x (by simpa using hx);simpa using this
theorem Qnh:∀ {l r:List (List Int)},(∀ p∈l,Pb p)->Qj7 l=some r->∀ p∈r,Pb p
 | [],r,_,h=>by injection h with h; subst h; exact λp hp=>by cases hp
 | [w],r,hl,h=>by injection h with h; subst h; exact hl
 |
  w::v::l,r,hl,h=>by
  simp only [Qj7] at h;obtain ⟨f,hf,h⟩:=Qc.1 h;obtain ⟨s,hs,h⟩:=Qc.1 h;injection h with h; subst h;intro p hp;rcases Ql.1 hp with rfl | hp
  ·exact Qu3 hf
  ·exact Qnh (λp hp=>hl p (Qe _ hp)) hs p hp
theorem Qz6 {a:List Int} {l r:List (List Int)} (ha:Pb a) (h:Qer 66 (Ub a)=some l) (hr:Qj7 l=some r):W0 Tryz.prog 353 [pr a] [.one (.row (Ri r))]:=by
 obtain ⟨i1,i2⟩:=Qgv (Gy ha) h;obtain ⟨j1,j2⟩:=Qib hr;have hw:=Db l;refine U4 Tryz.func353 rfl ?_;refine go tt [.c [] (Q3l ha h),.i (Ri l).length,.i (Ri l).length] rfl (by simp [Wv,hw]; omega) ?_;rw [hw,Dn λi=>[pl (r.getD i [])]];refine lp (S:=Nat) 1 (λL1 k=>(14,.v (.one (.int .i64 (k:Int))))::L1) (λk=>[.row false 33 1 (fil (λi=>[pl (r.getD i [])]) [.nils] l.length k)]) (λk=>l.length-k) (λk=>k<=l.length) 0 (Qi _) rfl (λ_ _=>rfl) rfl λk hk=>?_
 by_cases hlt:k<l.length
 ·obtain ⟨w,hx⟩:=gxE (l:=l) (i:=k) hlt;have e:=An (λi=>[pl (r.getD i [])]) [.nils] hlt;have hg:=j2 k w hx;by_cases h2:k+1<l.length
  ·obtain ⟨v,hv⟩:=gxE (l:=l) (i:=k+1) h2;rw [hv] at hg;obtain ⟨f,f1,f2⟩:=hg;have e2:r.getD k []=f:=by rw [Qj,f2]; rfl
   rw [e2] at e;refine go tt [.t (by simp [hw]; omega),.x (Gs hx),.i k,.t (by simp [hw]; omega),.x (i:=k+1) (Gs hv),.c [] (Q3s (i2 w (Qa hx)) (i2 v (Qa hv)) f1),.i k] rfl (by simp [Wv,Li,hw]; omega) ?_;rw [List.set_set,e];exact rd (k+1) (by omega) hlt rfl
  ·have hv:l[k+1]? = none:=Q0 (by omega);rw [hv] at hg;have e2:r.getD k []=w:=by rw [Qj,hg]; rfl
   rw [e2] at e;refine go tt [.t (by simp [hw]; omega),.x (Gs hx),.i k,.f (by simp [hw]; omega)] rfl (by simp [Wv,Li,hw]; omega) ?_;rw [e];exact rd (k+1) (by omega) hlt rfl
 ·obtain rfl:k=l.length:=by omega
  have e:fil (λi=>[pl (r.getD i [])]) [.nils] l.length l.length=Ri r:=by
   rw [Am,<-j1];refine Xg λi=>?_
   simp only [Ri,Zq];by_cases hi:i<r.length
   ·rw [Jh hi]; simp [Qj,Qf hi]
   ·rw [Q0 (by simpa using hi),Q0 (by simpa using hi)]; rfl
  rw [e];exact en tt [.f (by simp [hw])] rfl rfl trivial
theorem Qu8 {p:List Int} (tp:Ua p):Ub (Ub p)=Ub p:=by
 by_cases h:p.length=0
 ·have e:Ub p=[]:=by unfold Ub; rw [if_pos h]
  rw [e]; rfl
 ·obtain ⟨h1,h2,h3,h4,_⟩:=Mm tp h;have hc:Rl (Ub p)=1:=by
   have h5:Rl (Ub p)∣1:=h3 _ λk=>by
    by_cases hk:k<(Ub p).length
    ·rw [Qj,Qf hk]; exact Da _ (Xt hk)
    ·rw [Qj,Q0 (by omega)]; exact Int.dvd_zero _
   have h6:0<=Rl (Ub p):=by unfold Rl; omega
   exact Int.eq_one_of_dvd_one h6 h5
  have hf:∀ q:List Int,0<Uf q->Fv q=Rl q:=λq hq=>by unfold Fv; rw [if_neg (by omega)]
  have hf:=(hf _ h4).trans hc;have e0:∀ q:List Int,q.length≠0->Ub q=M7 q (Fv q):=λq hq=>by unfold Ub; rw [if_neg hq]
  have e:=e0 (Ub p) (by omega);rw [hf] at e;rw [e];unfold M7;have e2:(Ub p).map (· / (1:Int))=Ub p:=by
   conv=>rhs; rw [<-List.map_id (Ub p)]
   exact Xv λz _=>by simp
  rw [e2];exact h1
theorem Qzo (i:Nat):(i:Int).tmod 2=((i % 2:Nat):Int):=rfl
theorem Zfu {a:List Int} (ha:Pb a) (h:(Ub a).length=0):W0 Tryz.prog 349 [pr a] [pr []] :=
 w tt Tryz.func349 rfl [.c [] (Lb ha),.t (by simp [Qh h])] rfl rfl trivial
theorem O9:∀ {l:List (List Int)} {i:Nat} {p o:List Int},Pb p->(∀ f∈l,Pb f)->Qc8 i p l=some o->Pb o
 | [],i,p,o,hp,_,h=>by simp only [Qc8] at h; injection h with h; subst h; exact hp
 |
  f::l,i,p,o,hp,hl,h=>by
  simp only [Qc8] at h
  split at h
  ·obtain ⟨q,hq,h⟩:=Qc.1 h;obtain ⟨rfl,hq'⟩:=Aj (Gh _ _) hq;exact O9 hq' (λf hf=>hl f (Qe _ hf)) h
  ·exact O9 hp (λf hf=>hl f (Qe _ hf)) h
theorem Q6v:Pb [1]:=⟨rfl,by decide,λz hz=>by rw [Qk.1 hz]; decide⟩
theorem Zja {a o:List Int} (ha:Pb a) (h:Qu6 a=some o):W0 Tryz.prog 349 [pr a] [pr o]:=by
 unfold Qu6 at h
 split at h
 ·rename_i h0;injection h with h; subst h;exact Zfu ha h0
 rename_i h0;obtain ⟨l,hl,h⟩:=Qc.1 h;obtain ⟨fs,hf,h⟩:=Qc.1 h;have hpa:=Gy ha;have hl':Qer 66 (Ub (Ub a))=some l:=by rw [Qu8 ha.t]; exact hl
 obtain ⟨i1,i2⟩:=Qgv (Gy ha) hl;have i3:=Qnh i2 hf;obtain ⟨j1,_⟩:=Qib hf;have hw:=Db fs;have co:=Qwq (p:=[1]) (by decide) (λz hz=>by rw [Qk.1 hz]; decide);rw [show trim [1]=[1] from rfl] at co;refine U4 Tryz.func349 rfl ?_;refine go tt [.c [] (Lb ha),.f (by simpa using h0),.c [] co,.c [] (Qz6 hpa hl' hf)] rfl (by simp [Wv]) ?_;refine lp (S:=Nat×List Int) 0 (λL1 s=>(16,.v (.one (.int .i64 (s.1:Int))))::(3,.v (pr s.2))::L1) (λ_=>[]) (λs=>fs.length-s.1) (λs=>s.1<=fs.length/\Pb s.2/\Qc8 s.1 s.2 (fs.drop s.1)=some o) (0,[1]) ⟨Qi _,Q6v,h⟩ rfl (λ_ _=>rfl) rfl λ⟨i,p⟩ ⟨k1,k2,k3⟩=>?_
 dsimp only at k1 k2 k3 ⊢;by_cases hlt:i<fs.length
 ·obtain ⟨f,hx⟩:=gxE (l:=fs) (i:=i) hlt;have hdr:fs.drop i=f::fs.drop (i+1):=by
   rw [Zz hlt]; congr 1;have:=Qf hlt; rw [hx] at this; injection this with this; exact this.symm
  rw [hdr] at k3;simp only [Qc8] at k3;have pf:=i3 f (Qa hx);by_cases h2:i % 2=0
  ·rw [if_pos h2] at k3;obtain ⟨q,hq,k3⟩:=Qc.1 k3;obtain ⟨rfl,hq'⟩:=Aj (Gh _ _) hq;refine go tt [.t (by simp [hw]; omega),.x (Gs hx),.t (by rw [Qzo,h2]; rfl),.c [] (Qd6 k2.t pf.t (Z2 k2.l (by decide)) (Z2 pf.l (by decide)) k2.b pf.b (by decide))] rfl (by simp [Wv]; omega) ?_;exact rd (i+1,U5 p f) (by dsimp only; omega) ⟨hlt,hq',k3⟩ rfl
  ·rw [if_neg h2] at k3;refine go tt [.t (by simp [hw]; omega),.x (Gs hx),.f (by rw [Qzo,show i % 2=1 by omega]; rfl)] rfl (by simp [Wv]; omega) ?_;exact rd (i+1,p) (by dsimp only; omega) ⟨hlt,k2,k3⟩ rfl
 ·obtain rfl:i=fs.length:=by omega
  rw [Yz] at k3;simp only [Qc8] at k3;injection k3 with k3; subst k3;exact en tt [.f (by simp [hw])] rfl rfl trivial
theorem Ap (z:Int):Ug (z.natAbs:Int)=Ug z:=by unfold Ug; simp
theorem Q3f {x y:LV} {z:Int} (hi:Fc x y z) (hs:Ug z<=4294967295):W0 Tryz.prog 354 [.agg [x,y]] [.agg (Gb (z.natAbs:Int))]:=by
 obtain ⟨b,l,rfl,rfl,hl,rfl⟩:=hi;have e:(Uk false (val l))=((Uk b (val l)).natAbs:Int):=by rw [Gv]; rfl
 rw [<-e];exact w tt Tryz.func354 rfl [.c [] (Qba hl (Qd (Ru hs) (by decide))),.c [] (Rw _ _)] rfl rfl trivial
theorem Zaq {n d:Int} (h0:d≠0) (hn:Ug n<=4294967295) (hd:Ug d<=4294967295):W0 Tryz.prog 355 [.agg (Gb n),.agg (Gb d)] [.agg (rl (Rat.divInt n d)),.one (.int .i64 0)] :=
 w tt Tryz.func355 rfl [.c [] (Md (Wy d) hd),.c [] Nc,.f (by simpa using h0),.c [] (Md (Wy n) hn),.c [] (Ih h0 hn hd)] rfl rfl trivial
theorem Q06 (l:List Int) (z:Int):Ib (l++[z])=if Ib l<z.natAbs then z.natAbs else Ib l:=by unfold Ib; rw [List.foldl_append]; rfl
theorem Qyi {s:Nat}:∀ {l:List Int},Bd s l->Ug (Ib l:Int)<=s:=λ{l}=>by
 suffices h:∀ (l:List Int) (m:Nat),Bd s l->Ug (m:Int)<=s->Ug ((l.foldl (λm z=>if m<z.natAbs then z.natAbs else m) m:Nat):Int)<=s from λhb=>h l 0 hb (by simp [Ug,sz])
 intro l
 induction l with
 | nil=>exact λm _ h=>h
 |
  cons z l ih =>
  intro m hb hm;refine ih _ (λy hy=>hb y (Qe _ hy)) ?_;show Ug ((if m<z.natAbs then z.natAbs else m:Nat):Int)<=s
  split
  ·rw [Ap]; exact hb z (Qx ..)
  ·exact hm
def ozi:Option Nat->List LV
 | none=>[.bool false,.nils]
 | some m=>Gb (m:Int)
def ozr:Option Nat->List LV
 | none=>[.bool false,.row []]
 | some m=>Gb (m:Int)
theorem Q9r {p:List Int} (hp:Pb p) (h0:p.length≠0):W0 Tryz.prog 350 [pr p] [.agg (rl (U9 p)),.one (.int .i64 0)]:=by
 have hl:=hp.l;have hll:(p.take (p.length-1)).length=p.length-1:=by simp
 have hbt:Bd 16777216 (p.take (p.length-1)):=λz hz=>hp.b z (Qn hz)
 refine U4 Tryz.func350 rfl ?_;refine go tt [.c [] (Gf hp.t hp.ln hp.bd),.f (by simpa using h0),.r 18 (eI (b:=((p.length-1:Nat):Int)) (by simp; omega)),.i (p.length-1)] rfl (by simp [Wv]; omega) ?_;rw [<-J8];refine lp (S:=Nat×Option Nat) 2 (λL1 s=>(21,.v (.one (.int .i64 (s.1:Int))))::L1) (λs=>[.blk 38 [.bool false,.nils,.bool false,.nils],.blk 36 (ozi s.2)]) (λs=>p.length-1-s.1) (λs=>s.1<=p.length-1/\Ib ((p.take (p.length-1)).take s.1)=s.2.getD 0) (0,none) ⟨Qi _,rfl⟩ rfl (λ_ _=>rfl) rfl λ⟨i,o⟩ ⟨j1,j2⟩=>?_
 dsimp only at j1 j2 ⊢;by_cases hlt:i<p.length-1
 ·obtain ⟨z,hz⟩:=gxE (l:=(p.take (p.length-1))) (i:=i) (by omega);have bz:Ug z<=16777216:=hbt z (Qa hz);have hst:Ib ((p.take (p.length-1)).take (i+1))=if o.getD 0<z.natAbs then z.natAbs else o.getD 0:=by
   rw [Z0,hz]; show Ib (_++[z])=_; rw [Q06,j2]
  have ca:=Q3f (Wy z) (Qd bz (by decide));have hl1:decide ((i:Int)<(((p.take (p.length-1)).map Gb).length:Int))=true:=by simp; omega
  have bm:Ug ((o.getD 0:Nat):Int)<=16777216:=by rw [<-j2]; exact Qyi λy hy=>hbt y (Qn hy)
  have hcm:Bb (z.natAbs:Int) ((o.getD 0:Nat):Int)>0↔o.getD 0<z.natAbs:=by unfold Bb; split <;> (try split) <;> omega
  have cc:W0 Tryz.prog 99 [.agg (Gb (z.natAbs:Int)),.agg (ozr o)] [.one (.int .i64 (Bb (z.natAbs:Int) ((o.getD 0:Nat):Int)))]:=by
   cases o with
   | none=>exact Qd9 (Wy _) Ao (by rw [Ap]; omega) (by decide)
   | some m=>exact Qd9 (Wy _) (Wy _) (by rw [Ap]; omega) (Qd bm (by decide))
  by_cases hc:o.getD 0<z.natAbs
  ·rw [if_pos hc] at hst;have hd:decide (Bb (z.natAbs:Int) ((o.getD 0:Nat):Int)>0)=true:=by simpa using hcm.2 hc
   cases o <;> (refine go tt [.t hl1,.x (Gu (f:=Gb) hz),.c [] ca,.c [] cc,.t hd] rfl (by simp [Wv]; omega) ?_; exact rd (i+1,some z.natAbs) (by dsimp only; omega) ⟨hlt,hst⟩ rfl)
  ·rw [if_neg hc] at hst;have hd:decide (Bb (z.natAbs:Int) ((o.getD 0:Nat):Int)>0)=false:=by
    have:=mt hcm.1 hc; simpa using this
   cases o with
   | none=>refine go tt [.t hl1,.x (Gu (f:=Gb) hz),.c [] ca,.c [] cc,.f hd] rfl (by simp [Wv]; omega) ?_; exact rd (i+1,none) (by dsimp only; omega) ⟨hlt,hst⟩ rfl
   | some m=>refine go tt [.t hl1,.x (Gu (f:=Gb) hz),.c [] ca,.c [] cc,.f hd] rfl (by simp [Wv]; omega) ?_; exact rd (i+1,some m) (by dsimp only; omega) ⟨hlt,hst⟩ rfl
 ·obtain rfl:i=p.length-1:=by omega
  rw [Qr (by omega)] at j2;have bl:Ug (Uf p)<=16777216:=hp.b _ (Qiu h0);have ln:((Uf p).natAbs:Int)≠0:=by have:=Cq hp.t h0; omega
  have cl:=No hp.t hp.ln hp.bd;have ca:=Q3f (Wy (Uf p)) (Qd bl (by decide));have bm:Ug ((o.getD 0:Nat):Int)<=16777216:=by rw [<-j2]; exact Qyi hbt
  have cd:W0 Tryz.prog 244 [.agg (Gb ((Uf p).natAbs:Int)),.agg (ozr o)] [.agg (Gb (((Uf p).natAbs:Int)+(Ib (p.take (p.length-1)):Int)))]:=by
   rw [j2];cases o with
   | none=>exact Qbb (Wy _) Ao (by rw [Ap]; omega) (by decide)
   | some m=>exact Qbb (Wy _) (Wy _) (by rw [Ap]; omega) (Qd bm (by decide))
  have cm:=Zaq (n:=((Uf p).natAbs:Int)+(Ib (p.take (p.length-1)):Int)) ln (Qd (Qcz _ _) (by rw [Ap,j2]; omega)) (by rw [Ap]; omega);have hf:decide (((p.length-1:Nat):Int)<(((p.take (p.length-1)).map Gb).length:Int))=false:=by simp
  cases o <;> exact en tt [.f hf,.c [] cl,.c [] ca,.c [] cd,.c [] cm] rfl rfl trivial
theorem Zd2 {z:Int}:W0 Tryz.prog 332 [.agg (Gb z)] [.one (.int .i64 (Int.sign z))]:=by
 by_cases h0:z=0
 ·subst h0;exact w tt Tryz.func332 rfl [.t (by simp [Wz,Ff])] rfl rfl trivial
 ·have hl:(Uo z.natAbs).length≠0:=λh=>h0 (Q02.1 h)
  have hl':decide (((lm (Uo z.natAbs)).length:Int)=0)=false:=by simpa [Wz] using hl
  by_cases h1:z<0
  ·rw [Jr h1];exact w tt Tryz.func332 rfl [.f hl',.t (by simpa using h1)] rfl rfl trivial
  ·rw [Yi (by omega)];exact w tt Tryz.func332 rfl [.f hl',.f (by simpa using h1)] rfl rfl trivial
theorem Q2q {p:List Int} (hp:Pb p):W0 Tryz.prog 360 [pr p] [.one (.int .i64 (A9 p)),.one (.int .i64 (Qcq p))]:=by
 have hb:-1<=(Uf p).sign/\(Uf p).sign<=1:=by rcases D4 (Uf p) with h | h | h <;> omega
 by_cases h:p.length % 2=0
 ·have e:A9 p=-(Uf p).sign:=by unfold A9; rw [if_pos h]
  rw [e];exact w tt Tryz.func360 rfl [.c [] (Gf hp.t hp.ln hp.bd),.c [] (No hp.t hp.ln hp.bd),.c [] Zd2,.t (by rw [Qzo]; simp [h])] rfl rfl (by simp [Wv,Uf] at hb ⊢; omega)
 ·have e:A9 p=(Uf p).sign:=by unfold A9; rw [if_neg h]
  rw [e];exact w tt Tryz.func360 rfl [.c [] (Gf hp.t hp.ln hp.bd),.c [] (No hp.t hp.ln hp.bd),.c [] Zd2,.f (by rw [Qzo]; simp; omega)] rfl rfl (by simp [Wv])
theorem Q3n {p:List Int} (hp:Pb p):W0 Tryz.prog 359 [pr p] [.one (.int .i64 (A9 p))]:=w tt Tryz.func359 rfl [.c [] (Q2q hp)] rfl rfl trivial
theorem Zap {p:List Int} (hp:Pb p):W0 Tryz.prog 361 [pr p] [.one (.int .i64 (Qcq p))]:=w tt Tryz.func361 rfl [.c [] (Q2q hp)] rfl rfl trivial
theorem Zf6 {q:Rat} (hq:Qs 4294967295 q):W0 Tryz.prog 153 [.agg (rl q)] [.agg (rl (-q))]:=by
 exact w tt Tryz.func153 rfl [.c [] (Qhx hq),.c [] (Qhq (Wy _) hq.1)] rfl rfl trivial
theorem Qpu {l:List (List Int)} {fid:Nat} {sg:List Int->Int} (hl:l.length≤1000) (hs:∀ p,-1≤sg p/\sg p≤1) (h:∀ p∈l,W0 Tryz.prog fid [pr p] [.one (.int .i64 (sg p))]):W0 Tryz.prog 277 [.one (.sh [.row (Ri l)]),.one (.fn fid [] [])] [.one (.int .i64 (Mw sg l:Nat))]:=by
 have hpl:=Db l;refine U4 Tryz.func277 rfl ?_;refine go tt [] rfl trivial ?_;refine lp (S:=Nat) 0 (λL1 i=>(15,.v (.one (.int .i64 (i:Int))))::(5,.v (.one (.int .i64 ((tst sg l i).1:Int))))::(6,.v (.one (.int .i64 (tst sg l i).2)))::L1) (λ_=>[]) (λi=>l.length-i) (λi=>i<=l.length) 0 (Qi _) rfl (λ_ _=>rfl) rfl λi hi=>?_
 by_cases hlt:i<l.length
 ·obtain ⟨p,hp⟩:=gxE (l:=l) (i:=i) hlt;have hst:tst sg l (i+1)=Rr sg (tst sg l i) p:=Hp _ _ _ hp;obtain ⟨b1,b2,b3⟩:=Qos hs l i;have b4:=hs p;by_cases h0:sg p=0
  ·refine go tt [.t (by simp [hpl]; omega),.x (Gs hp),.c [] (h p (Qa hp)),.t (by simpa using h0)] rfl (by simp [Wv]; omega) ?_;exact rd (i+1) (by omega) hlt (by rw [hst,show Rr sg (tst sg l i) p=tst sg l i from by unfold Rr; rw [if_pos h0]]; rfl)
  ·by_cases h1:(tst sg l i).2=-(sg p)
   ·refine go tt [.t (by simp [hpl]; omega),.x (Gs hp),.c [] (h p (Qa hp)),.f (by simpa using h0),.t (by simpa using h1)] rfl (by simp [Wv]; omega) ?_;exact rd (i+1) (by omega) hlt (by rw [hst,show Rr sg (tst sg l i) p=((tst sg l i).1+1,sg p) from by unfold Rr; rw [if_neg h0,if_pos h1]]; rfl)
   ·refine go tt [.t (by simp [hpl]; omega),.x (Gs hp),.c [] (h p (Qa hp)),.f (by simpa using h0),.f (by simpa using h1)] rfl (by simp [Wv]; omega) ?_;exact rd (i+1) (by omega) hlt (by rw [hst,show Rr sg (tst sg l i) p=((tst sg l i).1,sg p) from by unfold Rr; rw [if_neg h0,if_neg h1]]; rfl)
 ·obtain rfl:i=l.length:=by omega
  refine en tt [.f (by simp [hpl])] rfl ?_ trivial;unfold tst Mw; rw [List.take_length]
theorem Qeh (p:List Int):(-1<=A9 p/\A9 p<=1)/\-1<=Qcq p/\Qcq p<=1:=by
 have hb:-1<=(Uf p).sign/\(Uf p).sign<=1:=by rcases D4 (Uf p) with h | h | h <;> omega
 unfold A9 Qcq
 split <;> omega
theorem Q9u {l:List (List Int)} (hl:l.length≤1000) (hp:∀ p∈l,Pb p):W0 Tryz.prog 352 [.one (.sh [.row (Ri l)])] [.one (.int .i64 (Oi l))]:=by
 have c1:W0 Tryz.prog 356 [.one (.sh [.row (Ri l)])] [.one (.int .i64 (Mw A9 l:Nat))] :=
  w tt Tryz.func356 rfl [.c [] (Qpu hl (λp=>(Qeh p).1) λp h=>Q3n (hp p h))] rfl rfl trivial
 have c2:W0 Tryz.prog 357 [.one (.sh [.row (Ri l)])] [.one (.int .i64 (Mw Qcq l:Nat))] :=
  w tt Tryz.func357 rfl [.c [] (Qpu hl (λp=>(Qeh p).2) λp h=>Zap (hp p h))] rfl rfl trivial
 have b1:Mw A9 l<=l.length:=By (λp=>(Qeh p).1) l;have b2:Mw Qcq l<=l.length:=By (λp=>(Qeh p).2) l;exact w tt Tryz.func352 rfl [.c [] c1,.c [] c2] rfl rfl (by simp [Wv]; omega)
theorem Qtn {l:List (List Int)} {lo hi:Rat} (hl:l.length<=1000):-1000<=Hg l lo hi/\Hg l lo hi<=1000:=by
 have b1:Mx l lo<=l.length:=By (λp=>Ex p lo) l;have b2:Mx l hi<=l.length:=By (λp=>Ex p hi) l;unfold Hg; split <;> omega
abbrev tal (l:List Tm):List (List LV):=l.map λt=>ta t
theorem Qg3 {p:List Int} {c:List (List Int)} (hp:Pb p):∀ {k:Nat} {lo hi:Rat} {n:Int} {r:List Tm},Qb lo->Qb hi->Dz p c k lo hi n=some r->∀ t∈r,Tb t
 | 0,_,_,_,_,_,_,h=>by cases h
 |
  k+1,lo,hi,n,r,hl,hh,h=>by
  simp only [Dz] at h
  split at h
  ·injection h with h; subst h; exact λt ht=>by cases ht
  ·split at h
   ·injection h with h; subst h;intro t ht; rw [Qk.1 ht]; exact ⟨hp,hl,hh⟩
   ·obtain ⟨m,hm,h⟩:=Qc.1 h;obtain ⟨rfl,qm⟩:=Qh1 hm;obtain ⟨x,hx,h⟩:=Qc.1 h;obtain ⟨y,hy,h⟩:=Qc.1 h;injection h with h; subst h;intro t ht;rcases Qq.1 ht with ht | ht
    ·exact Qg3 hp hl qm hx t ht
    ·exact Qg3 hp qm hh hy t ht
theorem Zib (l:List Tm):∀ c∈tal l,c.length=9:=λc hc=>by obtain ⟨t,_,rfl⟩:=Ze.1 hc; rfl
theorem Qt0 {p:List Int} {c:List (List Int)} (hp:Pb p) (hcl:c.length≤1000) (hc:∀ q∈c,Pb q):∀ {k:Nat} {lo hi:Rat} {n:Int} {r:List Tm},Qb lo->Qb hi->k≤100000->-(1000*(100001-k:Nat))≤n/\n≤1000*(100001-k:Nat)->Dz p c k lo hi n=some r->r.length≤1000000->W6 Tryz.prog 351 [pr p,.one (.sh [.row (Ri c)]),.agg (rl lo),.agg (rl hi),.one (.int .i64 n)] [] [.one (.orow 0 9 none)] [.row false 40 9 (tal r)]
 | 0,_,_,_,_,_,_,_,_,h,_=>by cases h
 |
  k+1,lo,hi,n,r,hl,hh,hk,hn,h,hr=>by
  simp only [Dz] at h
  split at h
  ·rename_i h0;injection h with h; subst h;refine U4 Tryz.func351 rfl ?_;exact ed tt [] [2] [.t (by simpa using h0),.o 10 40 9] rfl trivial
  ·rename_i h0
   split at h
   ·rename_i h1;injection h with h; subst h;refine U4 Tryz.func351 rfl ?_;exact ed tt [] [2] [.f (by simpa using h0),.t (by simpa using h1),.c [] (Gf hp.t hp.ln hp.bd),.c [] (S8 hl.s32),.c [] (S8 hh.s32),.lo] rfl trivial
   ·rename_i h1;obtain ⟨m,hm,h⟩:=Qc.1 h;obtain ⟨rfl,qm⟩:=Qh1 hm;obtain ⟨x,hx,h⟩:=Qc.1 h;obtain ⟨y,hy,h⟩:=Qc.1 h;injection h with h; subst h;have hb:=Qtn (l:=c) (lo:=lo) (hi:=mid lo hi) hcl;rw [Qw] at hr;have c1:=Qt0 hp hcl hc hl qm (by omega) (by omega) hx (by omega);have c2:=Qt0 hp hcl hc qm hh (by omega) (by omega) hy (by omega);rw [show tal (x++y)=tal x++tal y from J0];refine U4 Tryz.func351 rfl ?_;exact ed tt [] [3] [.f (by simpa using h0),.f (by simpa using h1),.c [] (Zd1 hl hh),.c [] (Qki hcl hc hl qm),.c [3] c1,.c [4] c2,.s (Zib y)] rfl (by simp [Wv]; omega)
theorem Q96 {p:List Int} {r:List Tm} (hp:Pb p) (h:Qjp p=some r) (hr:r.length<=1000000):W0 Tryz.prog 348 [pr p] [.one (tas r),.one (.int .i64 0)]:=by
 unfold Qjp at h;obtain ⟨c,h1,h⟩:=Qc.1 h;obtain ⟨q,h2,h⟩:=Qc.1 h;obtain ⟨b,h3,h⟩:=Qc.1 h;obtain ⟨rfl,hb⟩:=Qh1 h3;obtain ⟨k1,k2⟩:=chain_ok hp h1;have hq:=Qe1 hp h2;have q0:q.length≠0:=by
  unfold Df at h1;obtain ⟨a,a1,h1⟩:=Qc.1 h1;rw [h2] at a1; injection a1 with a1; subst a1
  split at h1
  ·cases h1
  ·assumption
 have qn:Qb (-U9 q):=⟨by rw [Rat.neg_num,Lj]; exact hb.1,by rw [Rat.neg_den]; exact hb.2⟩;have bb1:Mw A9 c<=c.length:=By (λp=>(Qeh p).1) c;have bb2:Mw Qcq c<=c.length:=By (λp=>(Qeh p).2) c;have hn:-(1000*(100001-100000:Nat):Int)<=Oi c/\Oi c<=1000*(100001-100000:Nat):=by unfold Oi; omega
 have cr:=Qt0 hq (by omega) k2 qn hb (Qm _) hn h hr;refine U4 Tryz.func348 rfl ?_;exact ed tt [1] [] [.c [] (Q26 hp h1),.f rfl,.c [] (Qhs hp h2),.c [] (Q9r hq q0),.c [] (Zf6 hb.s32),.c [] (Q9u (by omega) k2),.c [1] cr] rfl trivial
def Ww (l:List Pt):List (List LV):=l.map W8
theorem H8 {l:List Pt} {i:Nat} {c:Pt} (h:l[i]? = some c):(Ww l)[i]? = some (W8 c):=Gu h
theorem U8 (l:List Pt):(Ww l).length=l.length:=by simp [Ww]
theorem Qac (l:List Pt):∀ c∈Ww l,c.length=5:=λc hc=>by
 obtain ⟨x,_,rfl⟩:=Ze.1 hc; rfl
abbrev zPt:List LV:=[.nils,.nils,.bool false,.nils,.int .i64 0]
theorem Qxy {lt:Pt->Pt->Bool} {O:List Pt} {z:List LV} {c:Pt} {k m:Nat} {l2:List (List LV)} (hk:k<=O.length) (hp:Ca lt O c O.length=k) (hm:m=O.length-k) (h2:l2.take m=((Ww O++[z]).drop k).take m) :
 ((Ww O++[z]).take (k+1)++(l2.take m++(Ww O++[z]).drop (k+1+m))).set k (W8 c)=Ww (B5 lt O c):=by
 rw [h2,<-Q8,Qqs (Ww O) z (W8 c) (by rw [U8]; omega) (by rw [U8]; omega)];simp [B5,hp,Ww,J8,Y6]
def Hy (t:Tm) (l:List Pt):List Pt:=Ch (Hk (Uj t)) l
theorem Qpp {l:List Pt} {t:Tm} (hl:∀ p∈l,Sc p.c) (hn:l.length≤1000000) (ht:Va t):W0 Tryz.prog 107 [.agg (ta t),.one (pts l)] [.one (pts (Hy t l))]:=by
 have hcl:=U8 l;show W0 Tryz.prog 107 [.agg (ta t),.one (.row (Ww l))] [.one (.row (Ww (Hy t l)))];obtain ⟨lt,hlt0⟩:=nmE (Hk (Uj t));unfold Hy;rw [<-hlt0];refine U4 Tryz.func107 rfl ?_;refine go tt [.o 5 62 5] rfl trivial ?_;refine lp (S:=Nat) 2 (λL1 i=>(11,.v (.one (.int .i64 (i:Int))))::(5,.v (.one (.orow 1 5 none)))::L1) (λi=>[.blk 40 (ta t),.row false 62 5 (Ww (Ch lt (l.take i)))]) (λi=>l.length-i) (λi=>i<=l.length) 0 (Qi _) rfl (λ_ _=>rfl) rfl λi hi=>?_
 by_cases hlt:i<l.length
 ·obtain ⟨c,hc⟩:=gxE (l:=l) (i:=i) hlt;have hst:Ch lt (l.take (i+1))=B5 lt (Ch lt (l.take i)) c:=Qvy hc;have hcp:=hl c (Qa hc);obtain ⟨O,hO⟩:=nmE (Ch lt (l.take i));have hOl:O.length=i:=by rw [hO,Ql9,Qu]; omega
  have hOm:∀ x∈O,Sc x.c:=λx hx=>by rw [hO,Q1m] at hx; exact hl x (Qn hx)
  rw [<-hO] at hst ⊢;refine go tt [.t (by simp [hcl]; omega),.x (H8 hc)] rfl trivial ?_;refine lp (S:=Nat) 3 (λL1 k=>(8,.v (.one (.int .i64 (k:Int))))::L1) (λk=>[.blk 40 (ta t),.row false 62 5 (Ww O),.blk 62 (W8 c)]) id (λk=>k<=O.length/\Ca lt O c k=Ca lt O c O.length) (Ww O).length ⟨by rw [U8]; exact Qm _,by rw [U8]⟩ rfl (λ_ _=>rfl) rfl λk ⟨hk,hp⟩=>?_
  have hz:∀ y∈[zPt],y.length=5:=λy hy=>by rw [Qk.1 hy]; rfl
  have h77:∀ y∈Ww O++[zPt],y.length=5:=λy hy=>by
   rcases Qq.1 hy with hy | hy
   ·exact Qac O y hy
   ·exact hz y hy
  cases k with
  |
   zero =>
   have hp:Ca lt O c O.length=0:=by rw [<-hp]; rfl
   refine go tt [.g 19 false (by simp),.f rfl,.s (sz:=5) hz,.r 37 (eI (b:=((0+1:Nat):Int)) (by simp)),.i (0+1),.i (0),.s (sz:=5) (λy hy=>h77 y (Qn hy)),.i (O.length),.i (0)] rfl (by simp [Wv,U8]; omega) ?_;exact rd (i+1) (by omega) hlt (by rw [hst,<-Qxy (z:=zPt) (l2:=(Ww O++[zPt]).take ((Ww O++[zPt]).length-0)) (k:=0) (m:=O.length) (by omega) hp (by omega) (by congr 1; exact Qr (by simp))]; rfl)
  |
   succ k =>
   obtain ⟨x,hx⟩:=gxE (l:=O) (i:=k) (by omega);have cb:=Q2k hcp (hOm x (Qa hx)) ht;rw [<-hlt0] at cb;by_cases hlc:lt c x=true
   ·refine go tt [.g 19 true (by simp),.r 23 (eI (b:=(k:Int)) (by simp)),.i k,.x (H8 hx),.c [] cb,.t hlc,.r 30 (eI (b:=(k:Int)) (by simp))] rfl (by simp [Wv,U8]; omega) ?_;exact rd k (by simp) ⟨by omega,by rw [<-hp,Qy1 hx hlc]⟩ rfl
   ·have hlc:lt c x=false:=by simpa using hlc
    have hp:Ca lt O c O.length=k+1:=by rw [<-hp,Qrv hx hlc]
    refine go tt [.g 19 true (by simp),.r 23 (eI (b:=(k:Int)) (by simp)),.i k,.x (H8 hx),.c [] cb,.f hlc,.s (sz:=5) hz,.r 37 (eI (b:=((k+1+1:Nat):Int)) (by simp)),.i (k+1+1),.i (k+1),.s (sz:=5) (λy hy=>h77 y (Qz (Qn hy))),.i (O.length-(k+1)),.i (k+1)] rfl (by simp [Wv,U8]; omega) ?_;exact rd (i+1) (by omega) hlt (by rw [hst,<-Qxy (z:=zPt) (l2:=((Ww O++[zPt]).drop (k+1)).take ((Ww O++[zPt]).length-(k+1))) (k:=k+1) (m:=O.length-(k+1)) (by omega) hp (by omega) (by congr 1; exact Qr (by simp))]; rfl)
 ·obtain rfl:i=l.length:=by omega
  rw [Q4];exact en tt [.f (by simp [hcl])] rfl rfl trivial
def H9 (sg:List Int->Int):List Pt->List Ct
 | a::b::l=>Av sg a b::H9 sg (b::l)
 | _=>[]
theorem Py (sg:List Int->Int):∀ l:List Pt,(H9 sg l).length=l.length-1
 | []=>rfl
 | [_]=>rfl
 | a::b::l=>by simp only [H9,Q6,Py sg (b::l)]; omega
theorem Qe8 (sg:List Int->Int):∀ {l:List Pt} {i:Nat} {a b:Pt},l[i]? = some a->l[i+1]? = some b->(H9 sg l).take (i+1)=(H9 sg l).take i++[Av sg a b]
 | [],i,a,b,h,_=>by simp at h
 | [x],i,a,b,_,h=>by cases i <;> simp at h
 | x::y::l,0,a,b,h1,h2=>by simp at h1 h2; subst h1; subst h2; simp [H9]
 |
  x::y::l,i+1,a,b,h1,h2=>by
  have ih:=Qe8 sg (l:=y::l) (i:=i) (a:=a) (b:=b) (by simpa using h1) (by simpa using h2);simp only [H9,Vu] at ih ⊢;rw [ih]; rfl
theorem Qhr {l:List Pt} {t:Tm} (hl:∀ p∈l,Sc p.c) (hn:l.length≤1000000) (ht:Va t):W0 Tryz.prog 109 [.agg (ta t),.one (pts l)] [.one (.row (W3 (H9 (Uj t) l)))]:=by
 have hcl:=U8 l;show W0 Tryz.prog 109 [.agg (ta t),.one (.row (Ww l))] [.one (.row (W3 (H9 (Uj t) l)))];refine U4 Tryz.func109 rfl ?_;refine go tt [.o 5 144 7] rfl trivial ?_;refine lp (S:=Nat) 2 (λL1 i=>(6,.v (.one (.int .i64 ((i+1:Nat):Int))))::(5,.v (.one (.orow 1 7 none)))::L1) (λi=>[.blk 40 (ta t),.row false 144 7 (W3 ((H9 (Uj t) l).take i))]) (λi=>l.length-i) (λi=>i<=l.length-1) 0 (Qi _) rfl (λ_ _=>rfl) rfl λi hi=>?_
 by_cases hlt:i+1<l.length
 ·obtain ⟨a,ha⟩:=gxE (l:=l) (i:=i) (by omega);obtain ⟨b,hb⟩:=gxE (l:=l) (i:=i+1) hlt;have hg:=Qe8 (Uj t) ha hb;have hm:∀ y∈[Nj (Av (Uj t) a b)],y.length=7:=λy hy=>by rw [Qk.1 hy]; rfl
  refine go tt [.t (by simp [hcl]; omega),.r 19 (eI (b:=(i:Int)) (by simp)),.x (H8 ha),.x (H8 hb),.c [] (Qwo (hl a (Qa ha)) (hl b (Qa hb)) ht),.s (sz:=7) hm,.r 14 (eI (b:=((i+1+1:Nat):Int)) (by simp))] rfl (by simp [Wv,U8,Ry,Py]; omega) ?_;exact rd (i+1) (by omega) (by omega) (by rw [hg]; simp [W3]; rfl)
 ·have e:(H9 (Uj t) l).take i=H9 (Uj t) l:=Qr (by rw [Py]; omega);rw [e];exact en tt [.f (by simp [hcl]; omega)] rfl rfl trivial
theorem Q97:W0 Tryz.prog 214 [pr []] [.one .nilp,.one (.int .i64 2)]:=by
 have h:Te []=some []:=rfl;exact w tt Tryz.func214 rfl [.c [] (Qhs Qe0 h),.t rfl] rfl rfl trivial
theorem Q25:W0 Tryz.prog 348 [pr []] [.one (.row []),.one (.int .i64 2)] :=
 w tt Tryz.func348 rfl [.c [] Q97,.t rfl] rfl rfl trivial
theorem Zhl {a o:List Int} (ha:Pb a) (h:Qu6 a=some o):Pb o:=by
 unfold Qu6 at h
 split at h
 ·injection h with h; subst h; exact Qe0
 ·obtain ⟨l,hl,h⟩:=Qc.1 h;obtain ⟨fs,hf,h⟩:=Qc.1 h;exact O9 Q6v (Qnh (Qgv (Gy ha) hl).2 hf) h
theorem Q2r {p:List Int} {l:List Tm} (hp:Pb p) (h:Qb3 p=some l) (hl:l.length<=1000000):W0 Tryz.prog 347 [pr p] [.one (tas l)]:=by
 unfold Qb3 at h;obtain ⟨q,hq,h⟩:=Qc.1 h;have qp:=Zhl hp hq;have co:=Zja hp hq
 split at h
 ·rename_i h0;injection h with h; subst h;obtain rfl:=Qh h0;exact w tt Tryz.func347 rfl [.c [] co,.c [] Q25,.t rfl] rfl rfl trivial
 ·exact w tt Tryz.func347 rfl [.c [] co,.c [] (Q96 qp h hl),.f rfl] rfl rfl trivial
def ota:Option Tm->List LV
 | none=>zTr
 | some t=>ta t
theorem Q9x {p:List Int} {a:Tm} {l:List Tm} {r:Option Tm} (hp:Pb p) (ha:Tb a) (h:Qb3 p=some l) (hl:l.length≤1000000) (ht:∀ t∈l,Tb t) (hr:Qa0 a l=some r):W0 Tryz.prog 346 [pr p,.agg (ta a)] [.agg (ota r),.one (.bool r.isSome)]:=by
 have hll:(l.map λt=>ta t).length=l.length:=by simp
 refine U4 Tryz.func346 rfl ?_;refine go tt [.c [] (Q2r hp h hl)] rfl trivial ?_;refine lp (S:=Nat) 2 (λL1 i=>(11,.v (.one (.int .i64 (i:Int))))::L1) (λ_=>[.blk 40 (ta a),.blk 40 zTm]) (λi=>l.length-i) (λi=>i<=l.length/\Qa0 a (l.drop i)=some r) 0 ⟨Qi _,hr⟩ rfl (λ_ _=>rfl) rfl λi ⟨hi,hf⟩=>?_
 by_cases hlt:i<l.length
 ·obtain ⟨t,hx⟩:=gxE (l:=l) (i:=i) hlt;have hdr:l.drop i=t::l.drop (i+1):=by
   rw [Zz hlt]; congr 1;have:=Qf hlt; rw [hx] at this; injection this with this; exact this.symm
  rw [hdr] at hf;simp only [Qa0] at hf;obtain ⟨c,c1,hf⟩:=Qc.1 hf;have cc:=Qa9 (ht t (Qa hx)) ha c1;by_cases hc:0<c
  ·rw [if_pos hc] at hf;injection hf with hf; subst hf;exact en tt [.t (by simp; omega),.x (Qhc hx),.c [] cc,.t (by simpa using hc)] rfl rfl trivial
  ·rw [if_neg hc] at hf;refine go tt [.t (by simp; omega),.x (Qhc hx),.c [] cc,.f (by simpa using hc)] rfl (by simp [Wv]; omega) ?_;exact rd (i+1) (by omega) ⟨hlt,hf⟩ rfl
 ·obtain rfl:i=l.length:=by omega
  rw [Yz] at hf;simp only [Qa0] at hf;injection hf with hf; subst hf;exact en tt [.f (by simp)] rfl rfl trivial
def Ei (now:Tm):List Wt->Option (List Wt)
 | []=>some []
 | w::l=>(if w.known=true then some w else (Qfy w.c.p now).bind λr=>some ⟨w.c,true,r⟩).bind λw'=>(Ei now l).bind λr=>some (w'::r)
theorem O7 {now:Tm}:∀ {l ws:List Wt},Ei now l=some ws->ws.length=l.length/\∀ (i:Nat) (w:Wt),l[i]? = some w->∃ v,ws[i]? = some v/\(w.known=true/\v=w\/w.known=false/\∃ r,Qfy w.c.p now=some r/\v=⟨w.c,true,r⟩)
 | [],ws,h=>by injection h with h; subst h; exact ⟨rfl,λi x hx=>by simp at hx⟩
 |
  y::l,ws,h=>by
  simp only [Ei] at h;obtain ⟨v,hv,h⟩:=Qc.1 h;obtain ⟨r,hr,h⟩:=Qc.1 h;injection h with h; subst h;obtain ⟨a,b⟩:=O7 hr;refine ⟨by simp [a],λi x hx=>?_⟩;cases i with
  |
   zero =>
   injection hx with hx; subst hx;refine ⟨v,rfl,?_⟩
   split at hv
   ·rename_i hk; injection hv with hv; exact .inl ⟨hk,hv.symm⟩
   ·rename_i hk;obtain ⟨q,hq,hv⟩:=Qc.1 hv;injection hv with hv;exact .inr ⟨by simpa using hk,q,hq,hv.symm⟩
  | succ i=>exact b i x (by simpa using hx)
theorem Qpl {p:List Int} {a:Tm} {r:Option Tm} (hp:Cp p) (ha:Va a) (h:Qfy p a=some r):W0 Tryz.prog 346 [pr p,.agg (ta a)] [.agg (ota r),.one (.bool r.isSome)]:=by
 obtain ⟨l,l1,l2,l3,_⟩:=Oq hp;unfold Qfy at h;rw [l1] at h;exact Q9x (Dp.pb hp.dp) ha.tb l1 (by omega) (λt ht=>(l3 t ht).tb) h
theorem Q90 {T:Nat} {c:Cr} {r0 r1:List (List LV)} {ws:List Wt} (hc:CrOk c) (h:Ei c.now c.l=some ws):W6 Tryz.prog 340 [.one (.ow 0 0)] [.blk T (Gl c r0 r1)] [] [.blk T (Gl { c with l:=ws } r0 r1)]:=by
 have hk:=hc.k;have hw:=Hf c.l;obtain ⟨h1,h2⟩:=O7 h;refine U4 Tryz.func340 rfl ?_;refine go tt [.o 2 266 18,.c [0] (Ah hc.n)] rfl trivial ?_;refine lp (S:=Nat) 3 (λL1 i=>(13,.v (.one (.int .i64 (i:Int))))::(2,.v (.one (.orow 1 18 none)))::L1) (λi=>[.blk T (Gl c r0 r1),.row false 266 18 (P9 (ws.take i)),.blk 40 (ta c.now)]) (λi=>c.l.length-i) (λi=>i<=c.l.length) 0 (Qi _) rfl (λ_ _=>rfl) rfl λi hi=>?_
 by_cases hlt:i<c.l.length
 ·obtain ⟨w,hx⟩:=gxE (l:=c.l) (i:=i) hlt;obtain ⟨v,hv,h3⟩:=h2 i w hx;have hm:∀ y∈[wl v],y.length=18:=λy hy=>by rw [Qk.1 hy]; rfl
  have hg:=De hv;have hl:decide ((i:Int)<((P9 c.l).length:Int))=true:=by simp [hw]; omega
  rcases h3 with ⟨k1,rfl⟩ | ⟨k1,r,k2,rfl⟩
  ·obtain ⟨vc,vk,vf⟩:=v;cases vf <;> (refine go tt [.t hl,.x (Fy hx),.f (by rw [show vk=true from k1]; rfl),.s (sz:=18) hm] rfl (by simp [Wv,Hf]; omega) ?_; exact rd (i+1) (by omega) hlt (by rw [hg]; rfl))
  ·have cg:=Qpl (hc.l w (Qa hx)).p hc.n k2;obtain ⟨wc,wk,wf⟩:=w;cases r <;> cases wf <;> (refine go tt [.t hl,.x (Fy hx),.t (by rw [show wk=false from k1]; rfl),.c [] cg,.s (sz:=18) hm] rfl (by simp [Wv,Hf]; omega) ?_; exact rd (i+1) (by omega) hlt (by rw [hg]; rfl))
 ·obtain rfl:i=c.l.length:=by omega
  rw [<-h1,Q4];exact ed tt [1] [0] [.f (by simp [hw,h1])] rfl trivial
def Qkc (ws:List Wt):Option (Option Tm):=match ws.filterMap (·.fails) with
 | []=>some none
 | b::l=>(Aq b l).map some
theorem Cu {c:Cr} {ws:List Wt} (hc:CrOk c) (h:Ei c.now c.l=some ws):CrOk { c with l:=ws }:=by
 obtain ⟨h1,h2⟩:=O7 h;refine ⟨hc.n,λv hv=>?_,by show ws.length<=1000; rw [h1]; exact hc.k⟩;obtain ⟨i,hi⟩:=Xp hv;have hil:i<c.l.length:=by rw [<-h1]; exact (Qg.1 hi).1
 obtain ⟨v',h3,h4⟩:=h2 i _ (Qf hil);rw [hi] at h3; injection h3 with h3; subst h3;have hw:=hc.l _ (Xt hil);rcases h4 with ⟨_,rfl⟩ | ⟨_,r,k2,rfl⟩
 ·exact hw
 ·obtain ⟨r',r1,r2⟩:=Q6g hw.p hc.n;rw [k2] at r1; injection r1 with r1; subst r1;refine ⟨hw.p,λt ht=>?_⟩;have ht:r=some t:=ht;subst ht;exact r2.2.1
theorem La {T:Nat} {c:Cr} {r0 r1:List (List LV)} {ws:List Wt} {r:Option Tm} (hc:CrOk c) (h:Ei c.now c.l=some ws) (hr:Qkc ws=some r):W6 Tryz.prog 337 [.one (.ow 0 0)] [.blk T (Gl c r0 r1)] [.agg (ota r),.one (.bool r.isSome)] [.blk T (Gl { c with l:=ws } r0 r1)]:=by
 have hcl:=Q90 (T:=T) (r0:=r0) (r1:=r1) hc h;have hc':=Cu hc h;have hk:=hc'.k;have hw:=Hf ws;have hvb:∀ t∈ws.filterMap (·.fails),Tb t:=λt ht=>by
  obtain ⟨w,w1,w2⟩:=Ja.1 ht;exact ((hc'.l w w1).f t w2).tb
 refine U4 Tryz.func337 rfl ?_;refine go tt [.c [0] hcl,.o 4 40 9] rfl trivial ?_;refine lp (S:=Nat) 3 (λL1 i=>(14,.v (.one (.int .i64 (i:Int))))::(4,.v (.one (.orow 2 9 none)))::L1) (λi=>[.blk T (Gl { c with l:=ws } r0 r1),.blk 40 zTm,.row false 40 9 (tal ((ws.take i).filterMap (·.fails)))]) (λi=>ws.length-i) (λi=>i<=ws.length) 0 (Qi _) rfl (λ_ _=>rfl) rfl λi hi=>?_
 by_cases hlt:i<ws.length
 ·obtain ⟨w,hx⟩:=gxE (l:=ws) (i:=i) hlt;have hl:decide ((i:Int)<((P9 ws).length:Int))=true:=by simp [hw]; omega
  have hfl:((ws.take i).filterMap (·.fails)).length<=i:=Qd (Y0 _ _) (by rw [Qu]; omega);have hg:(ws.take (i+1)).filterMap (·.fails)=(ws.take i).filterMap (·.fails)++(match w.fails with | none=>[] | some t=>[t]):=by
   rw [Z0,hx,List.filterMap_append];show _++List.filterMap (·.fails) [w]=_;cases hwf:w.fails <;> simp [hwf]
  obtain ⟨wc,wk,wf⟩:=w;have hk:ws.length<=1000:=hk;cases wf with
  |
   none =>
   refine go tt [.t hl,.x (Fy hx),.f rfl] rfl (by simp [Wv]; omega) ?_;exact rd (i+1) (by omega) hlt (by rw [hg]; simp; rfl)
  |
   some t =>
   refine go tt [.t hl,.x (Fy hx),.t rfl,.s (l:=[ta t]) (sz:=9) (λc hc=>by rw [Qk.1 hc]; rfl)] rfl (by simp [Wv]; omega) ?_;exact rd (i+1) (by omega) hlt (by rw [hg]; simp [tal]; rfl)
 ·obtain rfl:i=ws.length:=by omega
  rw [Q4];have hf:decide ((ws.length:Int)<((P9 ws).length:Int))=false:=by simp [hw]
  have hln:(ws.filterMap (·.fails)).length<=1000:=Qd (Y0 _ _) hk;unfold Qkc at hr;cases hfm:ws.filterMap (·.fails) with
  |
   nil =>
   rw [hfm] at hr;injection hr with hr; subst hr;exact ed tt [] [0] [.f hf,.p 2,.c [] Qhp] rfl trivial
  |
   cons b l =>
   rw [hfm] at hr hvb hln;obtain ⟨m,m1,rfl⟩:=Yl.1 hr;have cl:=Rf (hvb b (Qx ..)) (λt ht=>hvb t (Qe _ ht)) (by simp at hln; omega) m1;exact ed tt [] [0] [.f hf,.p 2,.c [] cl] rfl trivial
theorem Qit {at_:Tm} {x:Ct}:∀ {l:List Wt} {w:Wt},Mh l x at_=some w->w=fresh x\/∃ v∈l,v.known=true/\v.c.p=x.p/\w=⟨x,true,v.fails⟩/\∀ t,v.fails=some t->∃ c,Qck t at_=some c/\0<c
 | [],w,h=>by simp only [Mh] at h; injection h with h; exact .inl h.symm
 |
  v::l,w,h=>by
  simp only [Mh] at h;have tl:Mh l x at_=some w->w=fresh x\/∃ v'∈v::l,v'.known=true/\v'.c.p=x.p/\w=⟨x,true,v'.fails⟩/\∀ t,v'.fails=some t->∃ c,Qck t at_=some c/\0<c:=λh=>by
   rcases Qit h with h | ⟨v',h1,h2⟩
   ·exact .inl h
   ·exact .inr ⟨v',Qe _ h1,h2⟩
  split at h
  ·rename_i hk;cases hf:v.fails with
   |
    none =>
    rw [hf] at h;injection h with h;exact .inr ⟨v,Qx ..,hk.2.1,hk.2.2,by rw [hf]; exact h.symm,λt ht=>by rw [hf] at ht; cases ht⟩
   |
    some t =>
    rw [hf] at h;obtain ⟨c,c1,h⟩:=Qc.1 h
    split at h
    ·rename_i h0;injection h with h;exact .inr ⟨v,Qx ..,hk.2.1,hk.2.2,by rw [hf]; exact h.symm,λu hu=>by rw [hf] at hu; injection hu with hu; subst hu; exact ⟨c,c1,h0⟩⟩
    ·exact tl h
  ·exact tl h
theorem lay_ok {c:Cr} {at_:Tm} {l:List Ct} {ws:List Wt} (ev:Int) (hc:CrOk c) (ha:Va at_) (hl:∀ x∈l,Cp x.p) (hn:l.length≤1000) (h:Tl c.l at_ (Ui l)=some ws):CrOk ⟨at_,ws,ev⟩:=by
 obtain ⟨h1,h2⟩:=Iv h;refine ⟨ha,λw hw=>?_,by show ws.length<=1000; rw [h1,Pz]; exact hn⟩;obtain ⟨i,hi⟩:=Xp hw;have hil:i<(Ui l).length:=by rw [<-h1]; exact (Qg.1 hi).1
 obtain ⟨v,h3,h4⟩:=h2 i _ (Qf hil);rw [hi] at h4; injection h4 with h4; subst h4;have hx:=hl _ (Qaf (Xt hil));rcases Qit h3 with e | ⟨v,v1,_,v3,e,_⟩
 ·rw [e]; exact ⟨hx,λt ht=>by cases ht⟩
 ·rw [e]; exact ⟨hx,λt ht=>(hc.l v v1).f t ht⟩
def goF {β:Type} (Bc:Tm->List Ct) (Br:Tm->β) (t:Rat):Nat->Cr->β->Int->Option (Cr×β×Int)
 | 0,_,_,_=>none
 |
  k+1,c,r,n=>(Ei c.now c.l).bind λws=>(Qkc ws).bind λo=>match o with
  | none=>some (⟨tq t,ws,c.ev⟩,r,n)
  | some a=>if 0<Ue a t then some (⟨tq t,ws,c.ev⟩,r,n) else (Tl ws a (Ui (Bc a))).bind λw2=>goF Bc Br t k ⟨a,w2,c.ev+1⟩ (Br a) (n+1)
theorem Q6k {ws:List Wt} {a:Tm} (h:Qkc ws=some (some a)) (hv:∀ t∈ws.filterMap (·.fails),Va t):a∈ws.filterMap (·.fails)/\∀ t∈ws.filterMap (·.fails),¬S7 t a:=by
 unfold Qkc at h;cases hf:ws.filterMap (·.fails) with
 | nil=>rw [hf] at h; injection h with h; cases h
 |
  cons b l =>
  rw [hf] at h hv;obtain ⟨m,m1,m2⟩:=Yl.1 h;injection m2 with m2; subst m2;obtain ⟨m',n1,n2,n3⟩:=Qes l b hv;rw [m1] at n1; injection n1 with n1; subst n1;exact ⟨n2,n3⟩
theorem Qi4 {c:Cr} {ws:List Wt} {a:Tm} (hc:CrOk c) (h:Ei c.now c.l=some ws) (hr:Qkc ws=some (some a)):Va a:=by
 have hc':=Cu hc h;have hv:∀ t∈ws.filterMap (·.fails),Va t:=λt ht=>by
  obtain ⟨w,w1,w2⟩:=Ja.1 ht;exact (hc'.l w w1).f t w2
 exact hv a (Q6k hr hv).1
structure BuildOk (Bc:Tm->List Ct):Prop where
 p:∀ a,Va a->∀ x∈Bc a,Cp x.p
 n:∀ a,Va a->(Bc a).length<=1000
theorem Zi8 {T:Nat} {t:Rat} {Bc:Tm->List Ct} {Br:Tm->List (List LV)} {r0:List (List LV)} (ht:Qs 1640000 t) (hB:BuildOk Bc)
 (hb:∀ a c r1,Va a->CrOk c->W6 Tryz.prog 71 [.one (.ow 0 0),.agg (ta a)] [.blk T (Gl c r0 r1)] [.one (.row (W3 (Bc a)))] [.blk T (Gl c r0 (Br a))])
 {K:Nat} {c c':Cr} {r1 r1':List (List LV)} {n:Int} (hc:CrOk c) (hev:0<=c.ev/\c.ev+K<=1000000000000000000) (h:Ue c.now t<=0) (hg:goF Bc Br t K c r1 0=some (c',r1',n)) :
 W6 Tryz.prog 341 [.one (.ow 0 0),.agg (rl t),.one (.ofn 71 [.ow 0 0] [])] [.blk T (Gl c r0 r1)] [.one (.int .i64 n),.one (.int .i64 0)] [.blk T (Gl c' r0 r1')]:=by
 have qt:Qb t:=ht.mono (by decide);have c1:=Nb hc.n.tb qt;refine U4 Tryz.func341 rfl ?_;refine go tt [.c [0] (Ah hc.n),.c [] c1,.f (by simpa using h)] rfl trivial ?_;refine lp (S:=Nat×Cr×List (List LV)×Int) 2 (λL1 s=>(8,.v (.one (.int .i64 s.2.2.2)))::L1) (λs=>[.blk T (Gl s.2.1 r0 s.2.2.1),.blk 38 (rl t)]) (λs=>s.1) (λs=>CrOk s.2.1/\(0<=s.2.1.ev/\s.2.1.ev+s.1<=1000000000000000000)/\(0<=s.2.2.2/\s.2.2.2+s.1<=1000000000000000000)/\goF Bc Br t s.1 s.2.1 s.2.2.1 s.2.2.2=some (c',r1',n)) (K,c,r1,0) ⟨hc,hev,⟨Int.le_refl 0,by dsimp only; omega⟩,hg⟩ rfl (λ_ _=>rfl) rfl λ⟨k,x,r,m⟩ ⟨j1,j2,j3,j4⟩=>?_
 dsimp only at j1 j2 j3 j4 ⊢;cases k with
 | zero=>cases j4
 |
  succ k =>
  simp only [goF] at j4;obtain ⟨ws,w1,j4⟩:=Qc.1 j4;obtain ⟨o,o1,j4⟩:=Qc.1 j4;have cn:=La (T:=T) (r0:=r0) (r1:=r) j1 w1 o1;have ca:=Qaw (Wy t.num) (Wy (t.den:Int)) (Qd ht.1 (by decide)) (Qd ht.2 (by decide)) (by rw [Tf]; exact ht.mono (by decide));rw [Tf] at ca;cases o with
  |
   none =>
   injection j4 with j4; injection j4 with e1 j4; injection j4 with e2 e3;subst e1; subst e2; subst e3;exact ed tt [] [0] [.c [0] cn,.g 25 true rfl,.t rfl,.c [] ca] rfl trivial
  |
   some a =>
   have ha:=Qi4 j1 w1 o1;dsimp only at j4;have cc:=Nb ha.tb qt;by_cases h0:0<Ue a t
   ·rw [if_pos h0] at j4;injection j4 with j4; injection j4 with e1 j4; injection j4 with e2 e3;subst e1; subst e2; subst e3;exact ed tt [] [0] [.c [0] cn,.g 25 false rfl,.c [] cc,.t (by simpa using h0),.c [] ca] rfl trivial
   ·rw [if_neg h0] at j4;obtain ⟨w2,l1,j4⟩:=Qc.1 j4;have j1':=Cu j1 w1;have cl:=Rf (b:=a) (l:=[]) ha.tb (λt ht=>by cases ht) (by decide) rfl;have cb:=hb a { x with l:=ws } r ha j1';have cy:=Qch (T:=T) (r0:=r0) (r1:=Br a) j1' ha (hB.p a ha) (hB.n a ha) l1;have hf:decide (0<Ue a t)=false:=by simpa using h0
    refine go tt [.c [0] cn,.g 25 false rfl,.c [] cc,.f hf,.c [] cl,.c [0] cb,.c [0] cy] rfl (by simp [Wv]; omega) ?_;exact rd (k,⟨a,w2,x.ev+1⟩,Br a,m+1) (by dsimp only; omega) ⟨lay_ok _ j1' ha (hB.p a ha) (hB.n a ha) l1,by dsimp only; omega,by dsimp only; omega,j4⟩ rfl
theorem Oy {T:Nat} {c:Cr} {r0 r1:List (List LV)}:W6 Tryz.prog 336 [.one (.ow 0 0)] [.blk T (Gl c r0 r1)] [.one (.int .i64 c.ev)] [.blk T (Gl c r0 r1)]:=by
 refine U4 Tryz.func336 rfl ?_;exact ed tt [] [0] [] rfl trivial
end Orr
namespace Orq
open Orr Go
theorem Zj4 {a b c:Tm} (hb:Cut (Ue b)) (hc:Cut (Ue c)) (h:S7 a b) (h':S7 b c):S7 a c:=by
 obtain ⟨q,q1,q2⟩:=h;obtain ⟨r,r1,r2⟩:=h';exact ⟨q,q1,hc.mono' (hb.lt q2 r1) (by omega)⟩
theorem Qet {a b:Tm} (ha:Cut (Ue a)) (hb:Cut (Ue b)) (h:¬S7 b a):Leq a (Ue b):=λq hq=>by
 rcases ha.val q with e | e | e
 ·exact absurd ⟨q,hq,e⟩ h
 ·obtain ⟨r,r1,r2⟩:=hb.dn q hq;exact absurd ⟨r,r2,ha.mono' r1 (by omega)⟩ h
 ·exact e
theorem Qx8 {a b c:Tm} (_:Cut (Ue a)) (hb:Cut (Ue b)) (hc:Cut (Ue c)) (h:S7 a b) (h':¬S7 c b):S7 a c:=by
 obtain ⟨q,q1,q2⟩:=h;refine ⟨q,q1,?_⟩;have hl:=Qet hb hc h';rcases hc.val q with e | e | e
 ·exact e
 ·obtain ⟨r,r1,r2⟩:=hb.up q q2;have h1:=hc.mono q r r1 (by omega);have:=hl r h1;omega
 ·have:=hl q e; omega
theorem Qns {a b:Tm} (ha:Cut (Ue a)) (hb:Cut (Ue b)) (h:S7 a b):¬S7 b a:=λh'=>Lr ha hb h h'
theorem En {p:List Int} {a b:Tm} {o:Option Tm} (ha:Cut (Ue a)) (hb:Cut (Ue b)) (hab:¬S7 b a) (h:Se p a o) (ho:∀ t,o=some t->S7 b t):Se p b o:=by
 have hl:=Qet ha hb hab;cases o with
 |
  none =>
  rcases h with h | ⟨s,s0,h⟩
  ·exact .inl h
  ·exact .inr ⟨s,s0,λc hc hbc=>h c hc λq hq=>hl q (hbc q hq)⟩
 |
  some t =>
  obtain ⟨h1,h2,_,s,s0,h4,h5⟩:=h;exact ⟨h1,h2,ho t rfl,s,s0,λc hc hbc hm=>h4 c hc (λq hq=>hl q (hbc q hq)) hm,h5⟩
theorem Qld {p:List Int} {a b:Tm} {o:Option Tm} (hp:Dp p) (ha:Va a) (hb:Va b) (hab:¬S7 b a) (h:Se p a o) (ho:∀ t,o=some t->S7 b t):Fq (Uj b) p=Fq (Uj a) p:=by
 by_cases h0:p.length=0
 ·obtain rfl:=Qh h0; rfl
 obtain ⟨ra,_⟩:=Co ha hp h0;obtain ⟨rb,_⟩:=Co hb hp h0;have hl:=Qet ha.cut hb.cut hab;cases o with
 |
  none =>
  rcases h with h | ⟨s,s0,h⟩
  ·exact absurd (by rw [h]; rfl) h0
  ·exact (Qdk rb (h _ hb.cut hl)).trans (Qdk ra (h _ ha.cut λ_ h=>h)).symm
 |
  some t =>
  obtain ⟨h1,h2,h3,s,s0,h4,h5⟩:=h;exact (Qdk rb (h4 _ hb.cut hl (ho t rfl))).trans (Qdk ra (h4 _ ha.cut (λ_ h=>h) h3)).symm
theorem Qsr (t q:Rat):Ue (tq t) q=Fp t q:=Ld (t:=tq t) rfl q
theorem Qec {a:Tm} {t:Rat} (ha:Cut (Ue a)):0<Ue a t↔S7 (tq t) a:=by
 constructor
 ·intro h;have h1:Ue a t=1:=by rcases ha.val t with e | e | e <;> omega
  obtain ⟨r,r1,r2⟩:=ha.up t h1;exact ⟨r,by rw [Qsr]; rcases Me t r with ⟨e,e'⟩ | ⟨e,e'⟩ | ⟨e,e'⟩ <;> first | exact e | (exfalso; grind),r2⟩
 ·rintro ⟨q,q1,q2⟩
  rw [Qsr] at q1;have:t<q:=by rcases Me t q with ⟨e,e'⟩ | ⟨e,e'⟩ | ⟨e,e'⟩ <;> first | exact e' | omega
  have:=ha.mono' this (by omega);omega
open Classical in
noncomputable def mu (T:List Tm) (a:Tm):Nat:=(T.filter λt=>decide (S7 a t)).length
theorem Qk3 {α:Type} {p q:α->Bool} (h:∀ x,p x=true->q x=true):∀ l:List α,(l.filter p).length<=(l.filter q).length
 | []=>Qm _
 |
  x::l=>by
  have ih:=Qk3 h l;by_cases hp:p x=true
  ·rw [Xw hp,Xw (h x hp)]; simp; exact ih
  ·rw [Jk hp];by_cases hq:q x=true
   ·rw [Xw hq]; simp; omega
   ·rw [Jk hq]; exact ih
theorem Qk4 {α:Type} {p q:α->Bool} (h:∀ x,p x=true->q x=true) {y:α} (hp:p y=false) (hq:q y=true):∀ {l:List α},y∈l->(l.filter p).length<(l.filter q).length
 | [],hy=>by cases hy
 |
  x::l,hy=>by
  rcases Ql.1 hy with rfl | hy
  ·rw [Jk (by simp [hp]),Xw hq];have:=Qk3 h l;simp; omega
  ·have ih:=Qk4 h hp hq hy;by_cases hp:p x=true
   ·rw [Xw hp,Xw (h x hp)]; simp; exact ih
   ·rw [Jk hp];by_cases hq:q x=true
    ·rw [Xw hq]; simp; omega
    ·rw [Jk hq]; exact ih
open Classical in
theorem Zet {T:List Tm} {a b:Tm} (ha:Cut (Ue a)) (hb:Cut (Ue b)) (hT:∀ t∈T,Cut (Ue t)) (h:S7 a b) (hm:b∈T):mu T b<mu T a:=by
 have key:∀ l:List Tm,(∀ t∈l,Cut (Ue t))->l.filter (λt=>decide (S7 b t))=l.filter (λt=>decide (Cut (Ue t)/\S7 b t)):=λl hl=>List.filter_congr λx hx=>by simp [hl x hx]
 have key2:∀ l:List Tm,(∀ t∈l,Cut (Ue t))->l.filter (λt=>decide (S7 a t))=l.filter (λt=>decide (Cut (Ue t)/\S7 a t)):=λl hl=>List.filter_congr λx hx=>by simp [hl x hx]
 unfold mu;rw [key T hT,key2 T hT];refine Qk4 (λx hx=>?_) (y:=b) ?_ ?_ hm
 ·have hx:=of_decide_eq_true hx;exact decide_eq_true ⟨hx.1,Zj4 hb hx.1 h hx.2⟩
 ·exact decide_eq_false λhx=>Lr hb hb hx.2 hx.2
 ·exact decide_eq_true ⟨hb,h⟩
def tms (p:List Int):List Tm:=(Qb3 p).getD []
structure KInv (c:Cr):Prop where
 ok:CrOk c
 k:∀ w∈c.l,w.known=true->Se w.c.p c.now w.fails/\∀ t,w.fails=some t->t∈tms w.c.p
theorem Qi2 {p:List Int} (h:Cp p) {a:Tm} (ha:Va a):∃ r,Qfy p a=some r/\Se p a r/\∀ t,r=some t->t∈tms p:=by
 obtain ⟨l,l1,_,_,l3⟩:=Oq h;obtain ⟨r,r1,r2,r3⟩:=l3 a ha;refine ⟨r,?_,r2,λt ht=>by unfold tms; rw [l1]; exact r3 t ht⟩;unfold Qfy; rw [l1]; exact r1
theorem Zic {p:List Int} (h:Cp p):∀ t∈tms p,Va t:=by
 obtain ⟨l,l1,_,l2,_⟩:=Oq h;unfold tms; rw [l1]; exact l2
theorem Qyc {now:Tm} (hn:Va now):∀ {l:List Wt},(∀ w∈l,WtOk w)->(∀ w∈l,w.known=true->Se w.c.p now w.fails/\∀ t,w.fails=some t->t∈tms w.c.p) ->
 ∃ ws,Ei now l=some ws/\ws.map (·.c)=l.map (·.c)/\∀ w∈ws,w.known=true/\Se w.c.p now w.fails/\∀ t,w.fails=some t->t∈tms w.c.p
 | [],_,_=>⟨[],rfl,rfl,λw hw=>by cases hw⟩
 |
  w::l,h,h'=>by
  obtain ⟨ws,w1,w2,w3⟩:=Qyc hn (λv hv=>h v (Qe _ hv)) (λv hv=>h' v (Qe _ hv));by_cases hk:w.known=true
  ·refine ⟨w::ws,by simp only [Ei,hk,if_true,w1]; rfl,by simp [w2],λv hv=>?_⟩;rcases Ql.1 hv with rfl | hv
   ·exact ⟨hk,h' v (by simp) hk⟩
   ·exact w3 v hv
  ·obtain ⟨r,r1,r2,r3⟩:=Qi2 (h w (by simp)).p hn;refine ⟨⟨w.c,true,r⟩::ws,by simp only [Ei]; rw [if_neg hk,r1,w1]; rfl,by simp [w2],λv hv=>?_⟩;rcases Ql.1 hv with rfl | hv
   ·exact ⟨rfl,r2,r3⟩
   ·exact w3 v hv
theorem Qx3 {at_:Tm} (ha:Va at_) {x:Ct}:∀ {l:List Wt},(∀ w∈l,WtOk w)->∃ w,Mh l x at_=some w/\w.c=x
 | [],_=>⟨fresh x,rfl,rfl⟩
 |
  v::l,h=>by
  obtain ⟨w,w1,w2⟩:=Qx3 ha (x:=x) λv hv=>h v (Qe _ hv)
  simp only [Mh]
  split
  ·cases hf:v.fails with
   | none=>exact ⟨_,rfl,rfl⟩
   |
    some t =>
    obtain ⟨c,c1,_⟩:=Qcl ((h v (by simp)).f t hf) ha;dsimp only;rw [c1];show ∃ w,(if 0<c then some ⟨x,true,some t⟩ else Mh l x at_)=some w/\w.c=x
    split
    ·exact ⟨_,rfl,rfl⟩
    ·exact ⟨w,w1,w2⟩
  ·exact ⟨w,w1,w2⟩
theorem Qup {at_:Tm} (ha:Va at_) {ol:List Wt} (ho:∀ w∈ol,WtOk w):∀ l:List Ct,∃ ws,Tl ol at_ l=some ws/\ws.map (·.c)=l
 | []=>⟨[],rfl,rfl⟩
 |
  x::l=>by
  obtain ⟨w,w1,w2⟩:=Qx3 ha (x:=x) ho;obtain ⟨ws,s1,s2⟩:=Qup ha ho l;exact ⟨w::ws,by simp only [Tl,w1,s1]; rfl,by simp [w2,s2]⟩
theorem Q0x {out:List Ct} {c x:Ct}:x∈Qbk out c↔x=c\/x∈out:=by
 have h:x∈out↔x∈out.take (Oc out c out.length)\/x∈out.drop (Oc out c out.length):=by
  rw [<-Qq,Zg]
 simp only [Qbk,Qq,Ql,h];constructor
 ·rintro (h | h | h)
  ·exact .inr (.inl h)
  ·exact .inl h
  ·exact .inr (.inr h)
 ·rintro (h | h | h)
  ·exact .inr (.inl h)
  ·exact .inl h
  ·exact .inr (.inr h)
theorem Qk8:∀ (l acc:List Ct) {y:Ct},y∈l.foldl Qbk acc↔y∈l\/y∈acc
 | [],acc,y=>by simp
 |
  c::l,acc,y=>by
  simp only [Z4];rw [Qk8 l,Q0x,Ql];constructor
  ·rintro (h | h | h)
   ·exact .inl (.inr h)
   ·exact .inl (.inl h)
   ·exact .inr h
  ·rintro ((h | h) | h)
   ·exact .inr (.inl h)
   ·exact .inl h
   ·exact .inr (.inr h)
theorem Ql8 {l:List Ct} {x:Ct}:x∈Ui l↔x∈l:=by unfold Ui; rw [Qk8]; simp
theorem Zhk {ws:List Wt} (hw:∀ w∈ws,WtOk w):∃ o,Qkc ws=some o/\match o with
 | none=>∀ w∈ws,w.fails=none
 | some a=>Va a/\(∃ w∈ws,w.fails=some a)/\∀ w∈ws,∀ t,w.fails=some t->¬S7 t a:=by
 have hv:∀ t∈ws.filterMap (·.fails),Va t:=λt ht=>by
  obtain ⟨w,w1,w2⟩:=Ja.1 ht;exact (hw w w1).f t w2
 unfold Qkc;cases hf:ws.filterMap (·.fails) with
 |
  nil =>
  refine ⟨none,rfl,λw h=>?_⟩;cases e:w.fails with
  | none=>rfl
  |
   some t =>
   have:t∈ws.filterMap (·.fails):=Ja.2 ⟨w,h,e⟩;rw [hf] at this; cases this
 |
  cons b l =>
  rw [hf] at hv;obtain ⟨m,m1,m2,m3⟩:=Qes l b hv;refine ⟨some m,by show (Aq b l).map some=_; rw [m1]; rfl,hv m m2,?_,λw h t e=>?_⟩
  ·rw [<-hf] at m2;exact Ja.1 m2
  ·exact m3 t (by rw [<-hf]; exact Ja.2 ⟨w,h,e⟩)
theorem Zgc {t a:Tm} (ht:Va t) (ha:Va a) {c:Int} (h:Qck t a=some c) (h0:0<c):S7 a t:=by
 obtain ⟨c',c1,c2⟩:=Qcl ht ha;rw [h] at c1; injection c1 with c1; subst c1;rcases c2 with ⟨e,_⟩ | ⟨e,_⟩ | ⟨_,e⟩
 ·omega
 ·omega
 ·exact e
theorem Qx6 {ol ws:List Wt} {now a:Tm} {l:List Ct} (hn:Va now) (ha:Va a) (hna:¬S7 a now) (ho:∀ w∈ol,WtOk w) (hk:∀ w∈ol,w.known=true->Se w.c.p now w.fails/\∀ t,w.fails=some t->t∈tms w.c.p) (h:Tl ol a l=some ws) :
 ∀ w∈ws,w.known=true->Se w.c.p a w.fails/\∀ t,w.fails=some t->t∈tms w.c.p:=by
 obtain ⟨h1,h2⟩:=Iv h;intro w hw hkn;obtain ⟨i,hi⟩:=Xp hw;have hil:i<l.length:=by rw [<-h1]; exact (Qg.1 hi).1
 obtain ⟨v,h3,h4⟩:=h2 i _ (Qf hil);rw [hi] at h4; injection h4 with h4; subst h4;rcases Qit h3 with e | ⟨v,v1,v2,v3,e,v5⟩
 ·rw [e] at hkn; cases hkn
 ·obtain ⟨k1,k2⟩:=hk v v1 v2;rw [e];show Se (l[i]).p a v.fails/\∀ t,v.fails=some t->t∈tms (l[i]).p;rw [<-v3];refine ⟨En hn.cut ha.cut hna k1 λt ht=>?_,k2⟩;obtain ⟨c,c1,c2⟩:=v5 t ht;exact Zgc ((ho v v1).f t ht) ha c1 c2
structure Stab {β:Type} (Bc:Tm->List Ct) (Br:Tm->β):Prop where
 ok:BuildOk Bc
 fin:∃ Ps:List (List Int),(∀ p∈Ps,Cp p)/\∀ a,Va a->∀ x∈Bc a,x.p∈Ps
 st:∀ a b,Va a->Va b->(∀ x∈Bc a,Fq (Uj b) x.p=Fq (Uj a) x.p)->Bc b=Bc a/\Br b=Br a
structure KSt {β:Type} (Bc:Tm->List Ct) (Br:Tm->β) (c:Cr) (r1:β):Prop where
 inv:KInv c
 cs:c.l.map (·.c)=Ui (Bc c.now)
 r:r1=Br c.now
inductive Evs (Bc:Tm->List Ct) (t:Rat):Tm->List Tm->Prop
 | nil {a:Tm} (h:∀ x∈Bc a,∃ o,Se x.p a o/\∀ u,o=some u->S7 (tq t) u):Evs Bc t a []
 | cons {a e:Tm} {E:List Tm} (he:Va e) (h1:S7 a e) (h2:¬S7 (tq t) e) (h3:∀ x∈Bc a,∃ o,Se x.p a o/\∀ u,o=some u->¬S7 u e) (h4:∃ x∈Bc a,Se x.p a (some e)) (h5:Evs Bc t e E):Evs Bc t a (e::E)
theorem Zek {β:Type} {Bc:Tm->List Ct} {Br:Tm->β} (S:Stab Bc Br) {t:Rat} (ht:Qs 1640000 t) {Ps:List (List Int)} (hP:∀ p∈Ps,Cp p) (hPs:∀ a,Va a->∀ x∈Bc a,x.p∈Ps) :
 ∀ (m:Nat) (c:Cr) (r1:β) (n:Int),mu (Ps.flatMap tms) c.now<=m->KSt Bc Br c r1->¬S7 (tq t) c.now ->
 ∃ c' r' E,goF Bc Br t (m+1) c r1 n=some (c',r',n+(E.length:Nat))/\c'.now=tq t/\KSt Bc Br c' r'/\c'.ev=c.ev+(E.length:Nat)/\E.length<=m/\Evs Bc t c.now E:=by
 have hT:∀ t∈Ps.flatMap tms,Cut (Ue t):=λu hu=>by
  obtain ⟨p,p1,p2⟩:=Zj.1 hu;exact (Zic (hP p p1) u p2).cut
 have hq:=Qkg ht;intro m
 induction m with
 | zero=>?_
 | succ m ih=>?_
 all_goals
  intro c r1 n hm hS hnow;obtain ⟨⟨ok,kk⟩,hcs,hr⟩:=hS;obtain ⟨ws,w1,w2,w3⟩:=Qyc ok.n ok.l kk;have ok':=Cu ok w1;rw [hcs] at w2;have hc_w:∀ x∈Bc c.now,∃ w∈ws,w.c=x:=λx hx=>by
   have:x∈ws.map (·.c):=by rw [w2]; exact Ql8.2 hx
   exact Ze.1 this
  have hw_c:∀ w∈ws,w.c∈Bc c.now:=λw hw=>Ql8.1 (by rw [<-w2]; exact Ku hw)
  obtain ⟨o,o1,o2⟩:=Zhk ok'.l;have fin:(∀ w∈ws,∀ u,w.fails=some u->S7 (tq t) u)->KSt Bc Br ⟨tq t,ws,c.ev⟩ r1/\Evs Bc t c.now []:=λhall=>by
   have hg:∀ x∈Bc c.now,Fq (Uj (tq t)) x.p=Fq (Uj c.now) x.p:=λx hx=>by
    obtain ⟨w,hw,rfl⟩:=hc_w x hx;exact Qld (S.ok.p _ ok.n _ hx).dp ok.n hq hnow (w3 w hw).2.1 (hall w hw)
   obtain ⟨s1,s2⟩:=S.st _ _ ok.n hq hg;refine ⟨⟨⟨⟨hq,ok'.l,ok'.k⟩,λw hw _=>⟨En ok.n.cut hq.cut hnow (w3 w hw).2.1 (hall w hw),(w3 w hw).2.2⟩⟩,?_,?_⟩,.nil λx hx=>?_⟩
   ·show ws.map (·.c)=Ui (Bc (tq t)); rw [w2,s1]
   ·show r1=Br (tq t); rw [s2,hr]
   ·obtain ⟨w,hw,rfl⟩:=hc_w x hx;exact ⟨_,(w3 w hw).2.1,hall w hw⟩
 ·cases o with
  |
   none =>
   obtain ⟨f1,f2⟩:=fin λw hw u hu=>by rw [o2 w hw] at hu; cases hu
   exact ⟨_,_,[],by simp only [goF]; rw [w1]; simp only [Jf]; rw [o1]; simp,rfl,f1,by simp,by simp,f2⟩
  |
   some a =>
   obtain ⟨va,⟨w,hw,hwa⟩,hmin⟩:=o2;by_cases h0:0<Ue a t
   ·obtain ⟨f1,f2⟩:=fin λv hv u hu=>by
     have hu':=(ok'.l v hv).f u hu;exact Qx8 hq.cut va.cut hu'.cut ((Qec va.cut).1 h0) (hmin v hv u hu)
    exact ⟨_,_,[],by simp only [goF]; rw [w1]; simp only [Jf]; rw [o1]; simp [h0],rfl,f1,by simp,by simp,f2⟩
   ·exfalso;obtain ⟨k1,k2,k3⟩:=w3 w hw;rw [hwa] at k2;have:a∈Ps.flatMap tms:=Zj.2 ⟨_,hPs _ ok.n _ (hw_c w hw),k3 a hwa⟩;have:=Zet ok.n.cut va.cut hT k2.2.2.1 this;omega
 ·cases o with
  |
   none =>
   obtain ⟨f1,f2⟩:=fin λw hw u hu=>by rw [o2 w hw] at hu; cases hu
   exact ⟨_,_,[],by simp only [goF]; rw [w1]; simp only [Jf]; rw [o1]; simp,rfl,f1,by simp,by simp,f2⟩
  |
   some a =>
   obtain ⟨va,⟨w,hw,hwa⟩,hmin⟩:=o2;by_cases h0:0<Ue a t
   ·obtain ⟨f1,f2⟩:=fin λv hv u hu=>by
     have hu':=(ok'.l v hv).f u hu;exact Qx8 hq.cut va.cut hu'.cut ((Qec va.cut).1 h0) (hmin v hv u hu)
    exact ⟨_,_,[],by simp only [goF]; rw [w1]; simp only [Jf]; rw [o1]; simp [h0],rfl,f1,by simp,by simp,f2⟩
   ·obtain ⟨k1,k2,k3⟩:=w3 w hw;rw [hwa] at k2;have hna:=Qns ok.n.cut va.cut k2.2.2.1;have hmem:a∈Ps.flatMap tms:=Zj.2 ⟨_,hPs _ ok.n _ (hw_c w hw),k3 a hwa⟩;have hlt:=Zet ok.n.cut va.cut hT k2.2.2.1 hmem;obtain ⟨w2',l1,l2⟩:=Qup va ok'.l (Ui (Bc a));have hl:=Qx6 ok.n va hna ok'.l (λv hv _=>(w3 v hv).2) l1;have hS':KSt Bc Br ⟨a,w2',c.ev+1⟩ (Br a):=⟨⟨Orr.lay_ok _ ok' va (S.ok.p a va) (S.ok.n a va) l1,hl⟩,l2,rfl⟩;obtain ⟨c',r',E,g1,g2,g3,g4,g5,g6⟩:=ih ⟨a,w2',c.ev+1⟩ (Br a) (n+1) (by show mu _ a<=m; omega) hS' (λh=>h0 ((Qec va.cut).2 h));refine ⟨c',r',a::E,?_,g2,g3,by rw [g4]; simp; omega,by simp; omega,.cons va k2.2.2.1 (λh=>h0 ((Qec va.cut).2 h)) (λx hx=>?_) ⟨w.c,hw_c w hw,k2⟩ g6⟩
    ·conv=>lhs; unfold goF
     rw [w1]; simp only [Jf]; rw [o1]; simp only [Jf]; rw [if_neg h0,l1]; simp only [Jf];rw [g1]; simp; omega
    ·obtain ⟨v,hv,rfl⟩:=hc_w x hx;exact ⟨_,(w3 v hv).2.1,hmin v hv⟩
end Orq
namespace Orq
open Orr Go
theorem Q8d {a b:Tm} (ha:Cut (Ue a)) (hb:Cut (Ue b)) (h:¬S7 a b) (h':¬S7 b a):∀ q,Ue a q=Ue b q:=by
 rcases tri ha hb with h1 | h1 | h1
 ·exact absurd h1 h
 ·exact h1
 ·exact absurd h1 h'
theorem Qzn {a b b':Tm} (h:∀ q,Ue b q=Ue b' q):S7 a b↔S7 a b':=by
 unfold S7; simp only [h]
theorem Qsq {a b b':Tm} (h:∀ q,Ue b q=Ue b' q):S7 b a↔S7 b' a:=by
 unfold S7; simp only [h]
theorem Qez {p:List Int} {a:Tm} (ha:Va a) {t t':Tm} (h:Se p a (some t)) (h':Se p a (some t')):∀ q,Ue t q=Ue t' q:=by
 obtain ⟨_,v,l,s,s0,h4,h5⟩:=h;obtain ⟨_,v',l',s',s0',h4',h5'⟩:=h';have es:s=s':=Qdk (h4 _ ha.cut (λ_ h=>h) l) (h4' _ ha.cut (λ_ h=>h) l');refine Q8d v.cut v'.cut (λhlt=>?_) λhlt=>?_
 ·have:=Qdk (h4' _ v.cut (Qet ha.cut v.cut (Qns ha.cut v.cut l)) hlt) h5;omega
 ·have:=Qdk (h4 _ v'.cut (Qet ha.cut v'.cut (Qns ha.cut v'.cut l')) hlt) h5';omega
theorem Bm {p:List Int} {a:Tm} (ha:Va a) {t:Tm} (h:Se p a (some t)) (h':Se p a none):False:=by
 obtain ⟨h1,v,l,s,s0,h4,h5⟩:=h;rcases h' with h' | ⟨s',s0',h'⟩
 ·exact h1 h'
 ·have e1:=Qdk (h' _ ha.cut λ_ h=>h) (h4 _ ha.cut (λ_ h=>h) l);have e2:=Qdk (h' _ v.cut (Qet ha.cut v.cut (Qns ha.cut v.cut l))) h5;omega
structure Quiet {β:Type} (Bc:Tm->List Ct) (Br:Tm->β) (a b:Tm):Prop where
 va:Va a
 vb:Va b
 le:¬S7 b a
 n:∀ x∈Bc a,∃ o,Se x.p a o/\∀ u,o=some u->S7 b u
section
variable {β:Type} {Bc:Tm->List Ct} {Br:Tm->β} (S:Stab Bc Br)
include S
theorem Quiet.same {a b:Tm} (h:Quiet Bc Br a b):Bc b=Bc a/\Br b=Br a:=by
 refine S.st a b h.va h.vb λx hx=>?_
 obtain ⟨o,o1,o2⟩:=h.n x hx;exact Qld (S.ok.p _ h.va _ hx).dp h.va h.vb h.le o1 o2
theorem Qmb {a b:Tm} (ha:Va a) (hb:Va b) (h:∀ q,Ue a q=Ue b q):Quiet Bc Br a b:=by
 refine ⟨ha,hb,λh'=>Lr hb.cut hb.cut ((Qzn h).1 h') ((Qzn h).1 h'),λx hx=>?_⟩;obtain ⟨r,_,r2,_⟩:=Qi2 (S.ok.p _ ha _ hx) ha;refine ⟨r,r2,λu hu=>?_⟩;subst hu;obtain ⟨q,q1,q2⟩:=r2.2.2.1;exact ⟨q,by rw [<-h]; exact q1,q2⟩
theorem Q0s {t:Rat} {a:Tm} {E:List Tm} (hE:Evs Bc t a E):∀ {b:Tm} {E':List Tm},Quiet Bc Br a b->Evs Bc t b E'->E.length=E'.length:=by
 induction hE with
 |
  @nil a h =>
  intro b E' hq hE';have hs:=(Quiet.same S hq).1;cases hE' with
  | nil _=>rfl
  |
   cons he h1 h2 h3 h4 h5 =>
   exfalso;obtain ⟨x,hx,hx2⟩:=h4;rw [hs] at hx;obtain ⟨o,o1,o2⟩:=h x hx;obtain ⟨o',o1',o2'⟩:=hq.n x hx;cases o with
   |
    none =>
    cases o' with
    | none=>exact Bm hq.vb hx2 (En hq.va.cut hq.vb.cut hq.le o1' o2')
    | some u=>exact Bm hq.va o1' o1
   |
    some u =>
    cases o' with
    | none=>exact Bm hq.va o1 o1'
    |
     some u' =>
     have e1:=Qez hq.va o1 o1';have e2:=Qez hq.vb (En hq.va.cut hq.vb.cut hq.le o1' o2') hx2;obtain ⟨q,q1,q2⟩:=o2 u rfl;exact h2 ⟨q,q1,by rw [<-e2,<-e1]; exact q2⟩
 |
  @cons a e E he h1 h2 h3 h4 h5 ih =>
  intro b E' hq hE';have hs:=(Quiet.same S hq).1;have nx:∀ x∈Bc a,∀ u,Se x.p a (some u)->S7 b u/\Se x.p b (some u):=λx hx u hu=>by
   obtain ⟨o',o1',o2'⟩:=hq.n x hx;cases o' with
   | none=>exact (Bm hq.va hu o1').elim
   |
    some u' =>
    have e1:=Qez hq.va o1' hu;have hb':=o2' u' rfl;have hb2:S7 b u:=by obtain ⟨q,q1,q2⟩:=hb'; exact ⟨q,q1,by rw [<-e1]; exact q2⟩
    exact ⟨hb2,En hq.va.cut hq.vb.cut hq.le hu λv hv=>by injection hv with hv; subst hv; exact hb2⟩
  obtain ⟨x0,hx0,hn0⟩:=h4;obtain ⟨hb0,hnb0⟩:=nx x0 hx0 e hn0;cases hE' with
  |
   nil h' =>
   exfalso;obtain ⟨o,o1,o2⟩:=h' x0 (by rw [hs]; exact hx0);cases o with
   | none=>exact Bm hq.vb hnb0 o1
   |
    some u =>
    have e1:=Qez hq.vb o1 hnb0;obtain ⟨q,q1,q2⟩:=o2 u rfl;exact h2 ⟨q,q1,by rw [<-e1]; exact q2⟩
  |
   @cons _ e' E'' he' h1' h2' h3' h4' h5' =>
   obtain ⟨x1,hx1,hn1⟩:=h4';rw [hs] at hx1;have a1:¬S7 e' e:=λhlt=>by
    obtain ⟨o,o1,o2⟩:=h3 x1 hx1;cases o with
    |
     none =>
     obtain ⟨o',o1',o2'⟩:=hq.n x1 hx1;cases o' with
     | none=>exact Bm hq.vb hn1 (En hq.va.cut hq.vb.cut hq.le o1' o2')
     | some u=>exact Bm hq.va o1' o1
    |
     some u =>
     have e2:=Qez hq.vb (nx x1 hx1 u o1).2 hn1;exact o2 u rfl ((Qsq e2).2 hlt)
   have a2:¬S7 e e':=λhlt=>by
    obtain ⟨o,o1,o2⟩:=h3' x0 (by rw [hs]; exact hx0);cases o with
    | none=>exact Bm hq.vb hnb0 o1
    |
     some u =>
     have e2:=Qez hq.vb o1 hnb0;exact o2 u rfl ((Qsq e2).2 hlt)
   have:=ih (Qmb S he he' (Q8d he.cut he'.cut a2 a1)) h5';simp [this]
theorem Zgp {t:Rat} {a:Tm} (ha:Va a) {E E':List Tm} (h:Evs Bc t a E) (h':Evs Bc t a E'):E.length=E'.length:=Q0s S h (Qmb S ha ha λ_=>rfl) h'
end
theorem Zc7 {p:List Int} (h:Cp p):(tms p).length<=67:=by
 obtain ⟨l,l1,l2,_⟩:=Oq h;unfold tms; rw [l1]; exact l2
theorem Qop:∀ {Ps:List (List Int)},(∀ p∈Ps,Cp p)->(Ps.flatMap tms).length≤67*Ps.length
 | [],_=>Qi _
 |
  p::Ps,h=>by
  have h1:=Zc7 (h p (by simp));have h2:=Qop (Ps:=Ps) λq hq=>h q (Qe _ hq)
  rw [Jn,Qw,Q6]; omega
theorem Zes (T:List Tm) (a:Tm):mu T a<=T.length:=Yo _ _
theorem Q2j {β:Type} {Bc:Tm->List Ct} {Br:Tm->β} (S:Stab Bc Br) {a:Tm} (ha:Va a):KSt Bc Br ⟨a,(Ui (Bc a)).map fresh,0⟩ (Br a):=by
 refine ⟨⟨⟨ha,λw hw=>?_,?_⟩,λw hw hk=>?_⟩,?_,rfl⟩
 ·obtain ⟨x,hx,rfl⟩:=Ze.1 hw;exact ⟨S.ok.p _ ha x (Qaf hx),λt ht=>by cases ht⟩
 ·show ((Ui (Bc a)).map fresh).length<=1000;rw [Zm,Pz]; exact S.ok.n _ ha
 ·obtain ⟨x,hx,rfl⟩:=Ze.1 hw;cases hk
 ·show ((Ui (Bc a)).map fresh).map (·.c)=Ui (Bc a);rw [List.map_map];show (Ui (Bc a)).map (λx=>x)=_;rw [List.map_id']
end Orq
namespace Orr
open Go Go.Proofs Orq
set_option maxRecDepth 10000
theorem Q4a {a b:Pt} (ha:Sc a.c) (hb:Sc b.c):Cp (Dy a b):=O2 (Sp ha hb) (So ha hb)
def bcS (l:List Pt) (a:Tm):List Ct:=H9 (Uj a) (Hy a l)
abbrev brS (l:List Pt) (a:Tm):List (List LV):=Ww (Hy a l)
theorem Qr9 {sg:List Int->Int}:∀ {l:List Pt},(∀ p∈l,Sc p.c)->∀ x∈H9 sg l,Cp x.p
 | [],_,x,hx=>by cases hx
 | [_],_,x,hx=>by cases hx
 |
  a::b::l,h,x,hx=>by
  simp only [H9] at hx;rcases Ql.1 hx with rfl | hx
  ·exact Q4a (h a (by simp)) (h b (by simp))
  ·exact Qr9 (λp hp=>h p (Qe _ hp)) x hx
theorem Fx {t:Tm} {l:List Pt} {p:Pt}:p∈Hy t l↔p∈l:=by
 unfold Hy Ch; rw [Qbi]; simp
theorem Mq (t:Tm) (l:List Pt):(Hy t l).length=l.length:=Ql9 _ _
theorem Qtj {l:List Pt} (hl:∀ p∈l,Sc p.c) (hn:l.length≤1000):BuildOk (bcS l) :=
 ⟨λa _ x hx=>Qr9 (λp hp=>hl p (Fx.1 hp)) x hx,λa _=>by unfold bcS; rw [Py,Mq]; omega⟩
theorem Qkm {l:List Pt} {a:Tm} {c:Cr} {r1:List (List LV)} (hl:∀ p∈l,Sc p.c) (hn:l.length≤1000) (ha:Va a):W6 Tryz.prog 71 [.one (.ow 0 0),.agg (ta a)] [.blk 156 (Gl c (Ww l) r1)] [.one (.row (W3 (bcS l a)))] [.blk 156 (Gl c (Ww l) (brS l a))]:=by
 have cr:=Qpp hl (by omega) ha;have cc:=Qhr (l:=Hy a l) (t:=a) (λp hp=>hl p (Fx.1 hp)) (by rw [Mq]; omega) ha;refine U4 Tryz.func71 rfl ?_;exact ed tt [] [0] [.c [] Ln,.c [] cr,.c [] cc] rfl trivial
theorem Qz9 {l:List Pt} {a:Tm} (hl:∀ p∈l,Sc p.c) (hn:l.length≤1000) (ha:Va a):W6 Tryz.prog 71 [.one (.ow 0 0),.agg (ta a)] [.blk 156 (crz (.row (Ww l)) .nils)] [.one (.row (W3 (bcS l a)))] [.blk 156 (crz (.row (Ww l)) (.row (brS l a)))]:=by
 have cr:=Qpp hl (by omega) ha;have cc:=Qhr (l:=Hy a l) (t:=a) (λp hp=>hl p (Fx.1 hp)) (by rw [Mq]; omega) ha;refine U4 Tryz.func71 rfl ?_;exact ed tt [] [0] [.c [] Ln,.c [] cr,.c [] cc] rfl trivial
def Q9o (l:List Pt) (a:Tm):Cr:=⟨a,(Ui (bcS l a)).map fresh,0⟩
end Orr
