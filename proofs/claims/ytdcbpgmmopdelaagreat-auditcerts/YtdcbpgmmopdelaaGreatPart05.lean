/- T4 T5 T6 T7 T8 T9 T10 T11 T12 T13 CrvL CrowdL PredL CertL Y1 Y2 Q1 C1 C2 D1 E1 AlgL F1 F2 -/
import Derived.Test.YtdcbpgmmopdelaaGreatPart04
import Derived.Test.YtdcbpgmmopdelaaGreatPart00
set_option linter.all false
namespace Orq
theorem Quk(z:Rat):∃n:Nat,z<=(n:Rat):=by
 refine⟨z.ceil.toNat,?_⟩;have h1:z<=(z.ceil:Rat):=Rat.le_ceil;have h2:(z.ceil:Rat)<=((z.ceil.toNat:Int):Rat):=Jh.2 (Int.self_le_toNat _);exact Zb h1 h2
theorem QL{z e:Rat}(he:0<e):∃n:Nat,z<=(n:Rat)*e:=by
 obtain⟨n,hn⟩:=Quk (z / e);exact⟨n,by have:=Q4 hn (Qm he);rwa[Gd he]at this⟩
theorem WF{R x y t:Rat}(hx:Fe x<=R)(hy:Fe y<=R)(h1:x<=t)(h2:t<=y):Fe t<=R:=by
 rw[Sp]at *;constructor <;> grind
def aZ(f w:Up)(L:Uq)(x y:Rat):Prop :=
 vv L y<=vv L x/\(vv L x=vv L y->Sm f x y/\Sm w x y)/\(vv L x=vv L y+1->Ph f x≠0/\Ph f y=-Ph f x)
theorem dE{f w:Up}{L:Uq}{x y:Rat}(h:Qa3 f w L x y):aZ f w L x y:=by
 rcases h with⟨h1,h2,h3⟩|⟨h1,h2,h3,_⟩
 ·exact⟨by omega,λ_=>⟨h2,h3⟩,λh=>by omega⟩
 ·exact⟨by omega,λh=>by omega,λ_=>⟨h2,h3⟩⟩
theorem fX{w:Up}{x y z:Rat}(h1:Sm w x y)(h2:Sm w y z):Sm w x z:=⟨by rw[h2.s,h1.l],by rw[h2.l,h1.l],h1.n⟩
theorem sG{f w:Up}{L:Uq}{x y z:Rat}(h:aZ f w L x y)(h':aZ f w L y z):aZ f w L x z:=by
 obtain⟨a1,a2,a3⟩:=h;obtain⟨b1,b2,b3⟩:=h';refine⟨by omega,λh=>?_,λh=>?_⟩
 ·obtain⟨s1,s2⟩:=a2 (by omega);obtain⟨s3,s4⟩:=b2 (by omega);exact⟨fX s1 s3,fX s2 s4⟩
 ·by_cases e:vv L x=vv L y
  ·obtain⟨s1,_⟩:=a2 e;obtain⟨s3,s4⟩:=b3 (by omega);exact⟨s1.n,by rw[s4,s1.l]⟩
  ·obtain⟨s3,s4⟩:=a3 (by omega);obtain⟨s1,_⟩:=b2 (by omega);exact⟨s3,by rw[s1.l,s4]⟩
theorem Qpe{R:Rat}(hR:0<=R){f w u:Up}{L:Uq}(hc:YH f L)(h:∀t,ev f t=ev w t*ev u t){x y:Rat}(hx:Fe x<=R)(hy:Fe y<=R)(hxy:x<y):aZ f w L x y:=by
 obtain⟨e,ep,hl⟩:=loc hR hc h;have key:∀n:Nat,∀x,Fe x<=R->x<y->y-x<=(n:Rat)*e->aZ f w L x y:=by
  intro n
  induction n with
  |zero =>
   intro x hx hxy h;exfalso;have:((0:Nat):Rat)*e=0:=by simp
   grind
  |
   succ n ih =>
   intro x hx hxy hn;rcases Fz (y-x) e with h1|h1
   ·exact dE (hl x y hx hy hxy h1)
   ·have hm:Fe (x+e)<=R:=WF hx hy (by clear hl ih;grind) (by clear hl ih;grind);have hn':(((n+1:Nat):Rat))=(n:Rat)+1:=by push_cast;rfl
    refine sG (dE (hl x (x+e) hx hm (by clear hl ih;grind) (by clear hl ih;grind))) (ih (x+e) hm (by clear hl ih;grind) ?_);rw[hn']at hn;clear hl ih;grind
 obtain⟨n,hn⟩:=QL (z:=y-x) ep;exact key n x hx hxy hn
theorem OI(x y:Rat):∃R:Rat,0<=R/\Fe x<=R/\Fe y<=R:=by
 refine⟨Fe x+Fe y,?_,?_,?_⟩ <;> (have:=Hw x;have:=Hw y;grind)
theorem Rx(t:Rat):ev [1] t=1:=by simp only[ev];grind
theorem Dx{f:Up}{L:Uq}(hc:YH f L){x y:Rat}(hxy:x<y):vv L y<=vv L x:=by
 obtain⟨R,hR,hx,hy⟩:=OI x y;exact(Qpe hR hc (w:=f) (u:=[1]) (λt=>by rw[Rx];grind) hx hy hxy).1
theorem VZ{f w u:Up}{L:Uq}(hc:YH f L)(h:∀t,ev f t=ev w t*ev u t){x y:Rat}(hxy:x<y)(he:vv L x=vv L y):Sm w x y:=by
 obtain⟨R,hR,hx,hy⟩:=OI x y;exact((Qpe hR hc h hx hy hxy).2.1 he).2
theorem yK{f:Up}{L:Uq}(hc:YH f L){x y:Rat}(hxy:x<y)(he:vv L x=vv L y):Sm f x y :=
 VZ hc (w:=f) (u:=[1]) (λt=>by rw[Rx];grind) hxy he
theorem yV{f:Up}{L:Uq}(hc:YH f L){x y:Rat}(hxy:x<y)(he:vv L x=vv L y+1):Ph f x≠0/\Ph f y=-Ph f x:=by
 obtain⟨R,hR,hx,hy⟩:=OI x y;exact(Qpe hR hc (w:=f) (u:=[1]) (λt=>by rw[Rx];grind) hx hy hxy).2.2 he
theorem Qhv{f:Up}{L:Uq}(hc:YH f L)(R:Rat)(hR:0<=R):∃e:Rat,0<e/\∀x y,Fe x<=R->Fe y<=R->x<y->y-x<=e->vv L x<=vv L y+1:=by
 obtain⟨e,ep,hl⟩:=loc hR hc (w:=f) (u:=[1]) (λt=>by rw[Rx];grind);refine⟨e,ep,λx y hx hy hxy he=>?_⟩;rcases hl x y hx hy hxy he with⟨h,_⟩|⟨h,_⟩ <;> omega
theorem cont{p:Up}{x:Rat}(h:Fj (ev p x)≠0):∃e:Rat,0<e/\∀y,Fe (y-x)<=e->Fj (ev p y)=Fj (ev p x):=by
 have hd:=Cj (x:=ev p x) λh0=>h (Gm.2 h0)
 have hR:0<=Fe x+1:=by have:=Hw x;grind
 obtain⟨e,e1,e2,e3⟩:=Hb (Mk hR p) hd;refine⟨e,e1,λy hy=>(P8 Qk (Mm (x:=x) (by grind) ?_ hR hy e3)).1⟩;have:=Sv (y-x) x;have e:y-x+x=y:=by grind
 rw[e]at this;grind
theorem Qnq{R M:Rat}{p:Up}(hM:M=ddB R p)(hR:0<=R){h:Rat}(hh:0<h):∀(n:Nat) (x:Rat),Fe x<=R->Fe (x+(n:Rat)*h)<=R->(∀t,x<=t->t<=x+(n:Rat)*h->0<=dv p t)->ev p x-(n:Rat)*(h*h*M)<=ev p (x+(n:Rat)*h)
 |
  0,x,_,_,_=>by
  have e1:x+((0:Nat):Rat)*h=x:=by rw[show((0:Nat):Rat)=0 from rfl];grind
  have e2:((0:Nat):Rat)*(h*h*M)=0:=by simp
  rw[e1,e2];grind
 |
  n+1,x,hx,hy,hd=>by
  have hn':(((n+1:Nat):Rat))=(n:Rat)+1:=by push_cast;rfl
  rw[hn']at hy hd ⊢;have hn0:(0:Rat)<=(n:Rat):=Xg;have hnh:=M8 hn0 (Qm hh);have e1:x+((n:Rat)+1)*h=(x+h)+(n:Rat)*h:=by grind
  rw[e1]at hy hd ⊢;have hxh:Fe (x+h)<=R:=WF hx hy (by clear hd;grind) (by clear hd;grind);have ih:=Qnq hM hR hh n (x+h) hxh hy λt h1 h2=>hd t (by clear hd;grind) h2
  have h0:=hd x Qk (by clear hd;grind);have h1:=Qnh p (x+h) x;have h2:=Qdi hxh hx p;rw[<-hM,Sp]at h2;have h3:=Zq h2.1 (M8 (Qm hh) (Qm hh));have h4:=M8 (Qm hh) h0;have e2:x+h-x=h:=by grind
  rw[e2]at h1;clear hd hx hy hxh;grind
theorem Qs2{p:Up}{x y:Rat}(hxy:x<y)(hd:∀t,x<=t->t<=y->0<=dv p t):ev p x<=ev p y:=by
 obtain⟨R,hR,hx,hy⟩:=OI x y;rcases Fz (ev p x) (ev p y)with h|h
 ·exact h
 ·exfalso;obtain⟨M,hM⟩:=nmE (ddB R p);have hM0:=NW hR p;rw[<-hM]at hM0;obtain⟨e,ep,_,he⟩:=Hb (b:=(y-x)*M) (d:=ev p x-ev p y) (M8 (by grind) hM0) (by grind);obtain⟨n,hn⟩:=QL (z:=y-x) ep;have hn0:0<(n:Rat):=by
   rcases Fz (n:Rat) 0 with h'|h'
   ·have:=Q4 h' (Qm ep);clear hd;grind
   ·exact h'
  have hh:0<(y-x) / n:=C4 (by grind) hn0;have e1:(n:Rat)*((y-x) / n)=y-x:=by rw[W2];exact Gd hn0
  have e2:x+(n:Rat)*((y-x) / n)=y:=by rw[e1];grind
  have h1:=Qnq hM hR hh n x hx (by rw[e2];exact hy) (by rw[e2];exact hd);rw[e2]at h1;have h2:(y-x) / n<=e:=by
   rcases Fz ((y-x) / n) e with h'|h'
   ·exact h'
   ·have:=Rat.mul_lt_mul_of_pos_left h' hn0;clear hd;grind
  have h3:(n:Rat)*((y-x) / n*((y-x) / n)*M)=((y-x) / n)*((y-x)*M):=by
   have:(n:Rat)*((y-x) / n*((y-x) / n)*M)=((n:Rat)*((y-x) / n))*(((y-x) / n)*M):=by grind
   rw[this,e1];grind
  have h4:=Q4 h2 (M8 (x:=y-x) (y:=M) (by grind) hM0);rw[h3]at h1;clear hd;grind
theorem Qll{p:Up}{x y:Rat}(hxy:x<y)(hd:∀t,x<=t->t<=y->0<dv p t):ev p x<ev p y:=by
 have hx:=hd x Qk (by grind);have hR:0<=Fe x+1:=by have:=Hw x;grind
 obtain⟨e,e1,e2,e3⟩:=Hb (NW hR p) hx;obtain⟨f,f1,f2,f3⟩:=min2 (a:=e) (b:=y-x) e1 (by grind);have hq:Fe (x+f)<=Fe x+1:=by
  have:=Sv x f;have:Fe f=f:=by unfold Fe;split <;> grind
  clear hd;grind
 have h1:=BO (p:=p) (x:=x) (y:=x+f) (R:=Fe x+1) (e:=e) (d:=dv p x) (by clear hd;grind) hq hR (by grind) (by grind) (by unfold Fe;split <;> clear hd <;> grind) e3;rw[Rq.2 hx,Rq]at h1;rcases Classical.em (x+f=y)with e|e
 ·rw[<-e];clear hd;grind
 ·have:=Qs2 (p:=p) (x:=x+f) (y:=y) (by clear hd;grind) λt h1 h2=>Qm (hd t (by clear hd;grind) h2)
  clear hd;grind
structure Cut(c:Rat->Int):Prop where
 val:∀q,c q=1\/c q=0\/c q=-1
 mono:∀q r,q<r->c q≠1->c r=-1
 up:∀q,c q=1->∃r,q<r/\c r=1
 dn:∀q,c q=-1->∃r,r<q/\c r=-1
 lo:∃q,c q=1
 hi:∃q,c q=-1
theorem Cut.mono'{c:Rat->Int}(h:Cut c){q r:Rat}(hqr:q<r)(hr:c r≠-1):c q=1:=by
 rcases Classical.em (c q=1)with e|e
 ·exact e
 ·exact absurd (h.mono q r hqr e) hr
theorem Cut.lt{c:Rat->Int}(h:Cut c){q r:Rat}(hq:c q=1)(hr:c r=-1):q<r:=by
 rcases Fz r q with e|e
 ·rcases Classical.em (r=q)with e'|e'
  ·rw[e']at hr;omega
  ·have:=h.mono r q (by grind) (by omega);omega
 ·exact e
theorem Cut.near{c:Rat->Int}(h:Cut c){e:Rat}(he:0<e):∃x y,c x=1/\c y=-1/\y-x<=e:=by
 obtain⟨a,ha⟩:=h.lo;obtain⟨b,hb⟩:=h.hi;have he2:0<e / 2:=C4 he (by decide);have h2:e / 2*2=e:=Gd (by decide);have key:∀(n:Nat) (a:Rat),c a=1->b-a<=(n:Rat)*(e / 2)->∃x y,c x=1/\c y=-1/\y-x<=e:=by
  intro n
  induction n with
  |
   zero =>
   intro a ha hn;have:=h.lt ha hb;rw[show((0:Nat):Rat)=0 from rfl]at hn;exfalso;grind
  |
   succ n ih =>
   intro a ha hn;have hn':(((n+1:Nat):Rat))=(n:Rat)+1:=by push_cast;rfl
   rw[hn']at hn;rcases h.val (a+e / 2)with h1|h1|h1
   ·exact ih _ h1 (by grind)
   ·exact⟨a,a+e,ha,h.mono (a+e / 2) _ (by grind) (by omega),by grind⟩
   ·exact⟨a,a+e / 2,ha,h1,by grind⟩
 obtain⟨n,hn⟩:=QL (z:=b-a) he2;exact key n a ha hn
def Dy(p:Up)(c:Rat->Int):Prop:=∀d:Rat,0<d->∃x y,c x=1/\c y=-1/\∀q,x<=q->q<=y->Fe (ev p q)<d
def NZ(p:Up)(c:Rat->Int)(s:Int):Prop:=∃d:Rat,0<d/\∃x y,c x=1/\c y=-1/\∀q,x<=q->q<=y->Fj (ev p q)=s/\d<=Fe (ev p q)
def Nr(c:Rat->Int)(P:Rat->Prop):Prop:=∃x y,c x=1/\c y=-1/\∀q,x<=q->q<=y->P q
theorem xU{c:Rat->Int}{P Q:Rat->Prop}(h1:Nr c P)(h2:Nr c Q):Nr c λq=>P q/\Q q:=by
 obtain⟨x,y,a1,a2,a3⟩:=h1;obtain⟨x',y',b1,b2,b3⟩:=h2;refine⟨if x<=x' then x' else x,if y<=y' then y else y',by split <;> assumption,by split <;> assumption,λq q1 q2=>⟨a3 q ?_ ?_,b3 q ?_ ?_⟩⟩ <;> clear a3 b3 <;> grind
theorem PU{c:Rat->Int}{P Q:Rat->Prop}(h1:Nr c P)(h:∀q,P q->Q q):Nr c Q:=by
 obtain⟨x,y,a1,a2,a3⟩:=h1;exact⟨x,y,a1,a2,λq q1 q2=>h q (a3 q q1 q2)⟩
theorem CZ{c:Rat->Int}(hc:Cut c){P:Rat->Prop}(h1:Nr c P):∃q,P q/\c q=1:=by
 obtain⟨x,y,a1,a2,a3⟩:=h1;exact⟨x,a3 x Qk (Qm (hc.lt a1 a2)),a1⟩
theorem Qfe{c:Rat->Int}(hc:Cut c){e:Rat}(he:0<e){P:Rat->Prop}(h1:Nr c P):∃x y,c x=1/\c y=-1/\y-x<=e/\x<y/\∀q,x<=q->q<=y->P q:=by
 obtain⟨x,y,a1,a2,a3⟩:=h1;obtain⟨x',y',b1,b2,b3⟩:=hc.near he;refine⟨if x<=x' then x' else x,if y<=y' then y else y',by split <;> assumption,by split <;> assumption,by clear a3;grind,hc.lt (by split <;> assumption) (by split <;> assumption),λq q1 q2=>a3 q ?_ ?_⟩ <;> clear a3 <;> grind
theorem Qno{c:Rat->Int}(hc:Cut c):∃R:Rat,0<=R/\Nr c λq=>Fe q<=R:=by
 obtain⟨x,y,a1,a2,_⟩:=hc.near (e:=1) (by decide);obtain⟨R,hR,h1,h2⟩:=OI x y;exact⟨R,hR,x,y,a1,a2,λq q1 q2=>WF h1 h2 q1 q2⟩
theorem QJ{c:Rat->Int}(hc:Cut c)(p:Up):Dy p c\/∃s,s≠0/\NZ p c s:=by
 rcases Classical.em (Dy p c)with h|h
 ·exact .inl h
 ·refine .inr ?_;obtain⟨d,hd0⟩:=Classical.not_forall.1 h;obtain⟨dp,hd⟩:=Classical.not_imp.1 hd0;have hd:∀x y,c x=1->c y=-1->∃q,x<=q/\q<=y/\d<=Fe (ev p q):=λx y hx hy=>by
   rcases Classical.em (∃q,x<=q/\q<=y/\d<=Fe (ev p q))with h'|h'
   ·exact h'
   ·refine absurd ⟨x,y,hx,hy,λq h1 h2=>?_⟩ hd;rcases Fz d (Fe (ev p q))with h3|h3
    ·exact absurd ⟨q,h1,h2,h3⟩ h'
    ·exact h3
  obtain⟨R,hR,hn⟩:=Qno hc;have hd2:0<d / 2:=C4 dp (by decide);have h2:d / 2*2=d:=Gd (by decide);obtain⟨e,e1,_,e3⟩:=Hb (Mk hR p) hd2;obtain⟨x,y,hx,hy,hxy,_,hq⟩:=Qfe hc e1 hn;obtain⟨r,r1,r2,r3⟩:=hd x y hx hy;have key:∀q,x<=q->q<=y->Fe (ev p q-ev p r)<d / 2:=λq q1 q2 =>
   Mm (hq r r1 r2) (hq q q1 q2) hR (by rw[Sp];clear hq hd;constructor <;> grind) e3
  refine⟨Fj (ev p r),λh0=>?_,d / 2,hd2,x,y,hx,hy,λq q1 q2=>⟨(P8 (d:=d) r3 ?_).1,?_⟩⟩
  ·rw[Gm.1 h0,Rp]at r3;clear hq hd key;grind
  ·have:=key q q1 q2;clear hq hd key;grind
  ·have h3:=key q q1 q2;have h4:=Sv (ev p r-ev p q) (ev p q);rw[show ev p r-ev p q+ev p q=ev p r from by clear hq hd key;grind,eQ]at h4;clear hq hd key;grind
theorem yY{c:Rat->Int}(hc:Cut c){p:Up}{s:Int}(h1:Dy p c)(h2:NZ p c s):False:=by
 obtain⟨d,dp,h2⟩:=h2;obtain⟨q,⟨a,b⟩,_⟩:=CZ hc (xU (h1 d dp) h2);exact absurd b.2 (Jz.2 a)
theorem Qsn{c:Rat->Int}(hc:Cut c){p:Up}{s s':Int}(h1:NZ p c s)(h2:NZ p c s'):s=s':=by
 obtain⟨_,_,h1⟩:=h1;obtain⟨_,_,h2⟩:=h2;obtain⟨q,⟨a,b⟩,_⟩:=CZ hc (xU h1 h2);rw[<-a.1,b.1]
theorem Pu{c:Rat->Int}(hc:Cut c){f p q:Up}(hf:∀t,ev f t=ev p t*ev q t)(h:Dy p c):Dy f c:=by
 intro d dp;obtain⟨R,hR,hn⟩:=Qno hc;obtain⟨e,e1,_,e3⟩:=Hb (Ox hR q) dp;refine PU (xU hn (h e e1)) λt ⟨h1,h2⟩=>?_
 rw[hf];have:=G8 (Qm h2) (RP h1 q);exact Jz.1 λh=>absurd (Zb h this) (Jz.2 e3)
theorem MZ{c:Rat->Int}{f p q:Up}(hf:∀t,ev f t=ev p t+ev q t)(h:Dy p c)(h':Dy q c):Dy f c:=by
 intro d dp;have hd2:0<d / 2:=C4 dp (by decide);have h2:d / 2*2=d:=Gd (by decide);refine PU (xU (h _ hd2) (h' _ hd2)) λt ⟨h1,h2⟩=>?_
 rw[hf];have:=Sv (ev p t) (ev q t);grind
def RS(p:Up)(c:Rat->Int)(s:Int):Prop:=∃y,c y=-1/\∀q,c q=-1->q<=y->Fj (ev p q)=s
def LS(p:Up)(c:Rat->Int)(s:Int):Prop:=∃x,c x=1/\∀q,c q=1->x<=q->Fj (ev p q)=s
theorem OY{c:Rat->Int}(hc:Cut c){p:Up}{s:Int}(h:NZ p c s):RS p c s:=by
 obtain⟨d,dp,x,y,a1,a2,a3⟩:=h;exact⟨y,a2,λq h1 h2=>(a3 q (Qm (hc.lt a1 h1)) h2).1⟩
theorem dO{c:Rat->Int}(hc:Cut c){p:Up}{s:Int}(h:NZ p c s):LS p c s:=by
 obtain⟨d,dp,x,y,a1,a2,a3⟩:=h;exact⟨x,a1,λq h1 h2=>(a3 q h2 (Qm (hc.lt h1 a2))).1⟩
theorem eG{c:Rat->Int}{p:Up}{s s':Int}(h:RS p c s)(h':RS p c s'):s=s':=by
 obtain⟨y,a1,a2⟩:=h;obtain⟨y',b1,b2⟩:=h';rcases Fz y y' with e|e
 ·rw[<-a2 y a1 Qk,<-b2 y a1 e]
 ·rw[<-a2 y' b1 (Qm e),<-b2 y' b1 Qk]
theorem Qnt{c:Rat->Int}(hc:Cut c){p:Up}(hv:Dy p c){y:Rat}(hy:c y=-1)(h:∀q,c q=-1->q<=y->0<dv p q)(q:Rat)(hq:c q=-1)(hqy:q<=y):0<ev p q:=by
 rcases Fz (ev p q) 0 with h0|h0
 ·exfalso;obtain⟨r,r1,r2⟩:=hc.dn q hq;have hr:ev p r<ev p q:=Qll r1 λt t1 t2=>h t (by
   rcases Classical.em (r=t)with e|e
   ·rw[<-e];exact r2
   ·exact hc.mono r t (by clear h;grind) (by omega)) (Zb t2 hqy)
  obtain⟨a,b,ha,hb,hab⟩:=hv (-ev p r) (by clear h;grind);obtain⟨m,hm1,hm2,hm3⟩:∃m,c m=-1/\m<=b/\m<=r:=by
   rcases Fz b r with e|e
   ·exact⟨b,hb,Qk,e⟩
   ·exact⟨r,r2,Qm e,Qk⟩
  have h1:=hab m (Qm (hc.lt ha hm1)) hm2;have h2:ev p m<=ev p r:=by
   rcases Classical.em (m=r)with e|e
   ·rw[e];exact Qk
   ·exact Qm (Qll (by clear h hab;grind) λt t1 t2=>h t (by
     rcases Classical.em (m=t)with e|e
     ·rw[<-e];exact hm1
     ·exact hc.mono m t (by clear h hab;grind) (by omega)) (by clear h hab;grind))
  rw[jZ]at h1;clear h hab;grind
 ·exact h0
theorem jF{c:Rat->Int}(hc:Cut c){p:Up}{s:Int}(hv:Dy p c)(h:RS (Na p) c s)(hs:s≠0):RS p c s:=by
 obtain⟨y,hy,h⟩:=h;have hsv:s=1\/s=-1:=by
  have:=h y hy Qk;rcases Gv (ev (Na p) y)with⟨e,_⟩|⟨e,_⟩|⟨e,_⟩ <;> omega
 rcases hsv with rfl|rfl
 ·refine⟨y,hy,λq h1 h2=>Rq.2 (Qnt hc hv hy (λq h1 h2=>?_) q h1 h2)⟩;rw[<-Rl];exact Rq.1 (h q h1 h2)
 ·refine⟨y,hy,λq h1 h2=>Pf.2 ?_⟩;have:=Qnt hc (p:=Pv (-1) p) (y:=y) (λd dp=>PU (hv d dp) λq hq=>by rw[Fq,show -1*ev p q=-ev p q by grind,Ln];exact hq) hy (λq h1 h2=>by
   rw[FD,<-Rl];have:=Pf.1 (h q h1 h2);grind) q h1 h2
  rw[Fq]at this;grind
theorem Qnn{c:Rat->Int}(hc:Cut c){p:Up}(hv:Dy p c){x:Rat}(hx:c x=1)(h:∀q,c q=1->x<=q->0<dv p q)(q:Rat)(hq:c q=1)(hxq:x<=q):ev p q<0:=by
 rcases Fz 0 (ev p q)with h0|h0
 ·exfalso;obtain⟨r,r1,r2⟩:=hc.up q hq;have hr:ev p q<ev p r:=Qll r1 λt t1 t2=>h t (by
   rcases Classical.em (t=r)with e|e
   ·rw[e];exact r2
   ·exact hc.mono' (q:=t) (r:=r) (by clear h;grind) (by omega)) (Zb hxq t1)
  obtain⟨a,b,ha,hb,hab⟩:=hv (ev p r) (by clear h;grind);obtain⟨m,hm1,hm2,hm3⟩:∃m,c m=1/\a<=m/\r<=m:=by
   rcases Fz a r with e|e
   ·exact⟨r,r2,e,Qk⟩
   ·exact⟨a,ha,Qk,Qm e⟩
  have h1:=hab m hm2 (Qm (hc.lt hm1 hb));have h2:ev p r<=ev p m:=by
   rcases Classical.em (r=m)with e|e
   ·rw[e];exact Qk
   ·exact Qm (Qll (by clear h hab;grind) λt t1 t2=>h t (by
     rcases Classical.em (t=m)with e|e
     ·rw[e];exact hm1
     ·exact hc.mono' (q:=t) (r:=m) (by clear h hab;grind) (by omega)) (by clear h hab;grind))
  rw[jZ]at h1;clear h hab;grind
 ·exact h0
theorem Qe2{c:Rat->Int}(hc:Cut c){p:Up}{s:Int}(hv:Dy p c)(h:LS (Na p) c s)(hs:s≠0):LS p c (-s):=by
 obtain⟨x,hx,h⟩:=h;have hsv:s=1\/s=-1:=by
  have:=h x hx Qk;rcases Gv (ev (Na p) x)with⟨e,_⟩|⟨e,_⟩|⟨e,_⟩ <;> omega
 rcases hsv with rfl|rfl
 ·refine⟨x,hx,λq h1 h2=>Pf.2 (Qnn hc hv hx (λq h1 h2=>?_) q h1 h2)⟩;rw[<-Rl];exact Rq.1 (h q h1 h2)
 ·refine⟨x,hx,λq h1 h2=>Rq.2 ?_⟩;have:=Qnn hc (p:=Pv (-1) p) (x:=x) (λd dp=>PU (hv d dp) λq hq=>by rw[Fq,show -1*ev p q=-ev p q by grind,Ln];exact hq) hx (λq h1 h2=>by
   rw[FD,<-Rl];have:=Pf.1 (h q h1 h2);grind) q h1 h2
  rw[Fq]at this;grind
theorem Qlu{c:Rat->Int}(hc:Cut c){f g:Up}{l:Uq}(h:SCl f g l):Dy f c->Dy g c->False:=by
 induction h with
 |
  @base f g k hk hg =>
  intro _ hv;obtain⟨q,hq,_⟩:=CZ hc (hv (Fe k) (Cj hk));rw[hg]at hq;grind
 |
  @step f g h l a b q ha hb he hl ih =>
  intro hf hg;refine ih hg ?_;have h1:Dy (Gj q g) c:=Pu hc (p:=g) (q:=q) (λt=>by rw[U3];grind) hg;have h2:Dy (Pv (-a) f) c:=Pu hc (p:=f) (q:=[-a]) (λt=>by rw[Fq];simp only[ev];grind) hf;have h3:Dy (Rf (Gj q g) (Pv (-a) f)) c:=MZ (λt=>Fu t _ _) h1 h2;refine Pu hc (p:=Rf (Gj q g) (Pv (-a) f)) (q:=[1 / b]) (λt=>?_) h3;have:=he t;rw[Fu,U3,Fq];simp only[ev];have hbb:1 / b*b=1:=Gd hb;have:ev q t*ev g t+-a*ev f t=b*ev h t:=by rw[show -a*ev f t=-(a*ev f t) by grind,he t];grind
  rw[this];have:b*ev h t*(1 / b+t*0)=ev h t*(1 / b*b):=by grind
  rw[this,hbb];grind
theorem YV{c:Rat->Int}(hc:Cut c){f g:Up}{k:Rat}(h:∀t,ev g t=k*ev f t)(hv:Dy f c):Dy g c :=
 Pu hc (p:=f) (q:=[k]) (λt=>by rw[h];simp only[ev];grind) hv
theorem Ql5{c:Rat->Int}(hc:Cut c){f:Up}{L:Uq}(h:YH f L)(hv:Dy f c):∃s,s≠0/\NZ (Na f) c s:=by
 rcases QJ hc (Na f)with h1|h1
 ·exfalso;rcases h with⟨k,hk,hf,_⟩|⟨g,l,k,hk,hg,h,_⟩
  ·obtain⟨q,hq,_⟩:=CZ hc (hv (Fe k) (Cj hk));rw[hf]at hq;grind
  ·exact Qlu hc h hv (YV hc (λt=>by rw[hg,Rl]) h1)
 ·exact h1
theorem cY{c:Rat->Int}(hc:Cut c){f w u:Up}{L:Uq}(h:YH f L)(hf:∀t,ev f t=ev w t*ev u t)(hv:Dy w c):∃s,s≠0/\NZ (Na w) c s:=by
 rcases QJ hc (Na w)with h1|h1
 ·exfalso;obtain⟨s,_,hs⟩:=Ql5 hc h (Pu hc hf hv);refine yY hc ?_ hs;have a1:Dy (Gj (Na w) u) c:=Pu hc (λt=>U3 t _ _) h1;have a2:Dy (Gj w (Na u)) c:=Pu hc (λt=>U3 t _ _) hv;refine MZ (λt=>?_) a1 a2;rw[Rl,Aw hf,U3,U3,Rl,Rl]
 ·exact h1
theorem Qde{c:Rat->Int}(hc:Cut c){q:Rat}(h:c q=0){x y:Rat}(hx:c x=1)(hy:c y=-1):x<=q/\q<=y:=by
 constructor
 ·rcases Fz x q with e|e
  ·exact e
  ·have:=hc.mono q x e (by omega);omega
 ·rcases Fz q y with e|e
  ·exact e
  ·have:=hc.mono y q e (by omega);omega
theorem KU{c:Rat->Int}(hc:Cut c){p:Up}{q:Rat}(h:c q=0)(hv:Dy p c):ev p q=0:=by
 rcases Classical.em (ev p q=0)with e|e
 ·exact e
 ·obtain⟨x,y,hx,hy,hq⟩:=hv _ (Cj e);obtain⟨h1,h2⟩:=Qde hc h hx hy;have:=hq q h1 h2;grind
theorem CJ{c:Rat->Int}(hc:Cut c){p:Up}{q:Rat}{s:Int}(h:c q=0)(hv:NZ p c s):Fj (ev p q)=s:=by
 obtain⟨d,dp,x,y,hx,hy,hq⟩:=hv;obtain⟨h1,h2⟩:=Qde hc h hx hy;exact(hq q h1 h2).1
theorem tQ{c:Rat->Int}(hc:Cut c){y z:Rat}(hy:c y=-1)(hz:c z=-1):∃q,c q=-1/\q<y/\q<z:=by
 obtain⟨a,a1,a2⟩:=hc.dn y hy;obtain⟨b,b1,b2⟩:=hc.dn z hz;rcases Fz a b with e|e
 ·exact⟨a,a2,a1,by grind⟩
 ·exact⟨b,b2,by grind,b1⟩
theorem FP{c:Rat->Int}(hc:Cut c){y z:Rat}(hy:c y=1)(hz:c z=1):∃q,c q=1/\y<q/\z<q:=by
 obtain⟨a,a1,a2⟩:=hc.up y hy;obtain⟨b,b1,b2⟩:=hc.up z hz;rcases Fz a b with e|e
 ·exact⟨b,b2,by grind,b1⟩
 ·exact⟨a,a2,a1,by grind⟩
theorem sM{f w u:Up}{L:Uq}(h:YH f L)(hf:∀t,ev f t=ev w t*ev u t){x y:Rat}(hv:vv L x=vv L y){c:Rat->Int}(hc:Cut c)(hx:c x=1)(hy:c y≠1):¬Dy w c:=λhw=>by
 have hxy:x<y:=by
  rcases Fz y x with e|e
  ·rcases Classical.em (y=x)with e'|e'
   ·rw[e']at hy;exact absurd hx hy
   ·have:=hc.mono y x (by grind) hy;omega
  ·exact e
 have hwv:=VZ h hf hxy hv;rcases hc.val y with e|e|e
 ·exact hy e
 ·have:=KU hc e hw;have:=hwv.s;rw[Gm.2 (by assumption)]at this;exact hwv.n this.symm
 ·obtain⟨s,hs,hd⟩:=cY hc h hf hw;obtain⟨a,ha,hal⟩:=Qe2 hc hw (dO hc hd) hs;obtain⟨b,hb,hbr⟩:=jF hc hw (OY hc hd) hs;obtain⟨q,q1,q2,q3⟩:=FP hc hx ha;obtain⟨r,r1,r2,r3⟩:=tQ hc hb e;have e1:=hal q q1 (Qm q3);have e2:=hbr r r1 (Qm r2);have hqr:=hc.lt q1 r1;have v1:vv L q<=vv L x:=Dx h q2;have v2:vv L y<=vv L r:=Dx h r3;have v3:vv L r<=vv L q:=Dx h hqr;have s1:=(VZ h hf q2 (by omega)).s;have s2:=(VZ h hf (x:=x) (y:=r) (by grind) (by omega)).s;omega
theorem jA{f:Up}{L:Uq}(h:YH f L){x y:Rat}(hxy:x<y)(hv:vv L x≠vv L y){d:Rat}(dp:0<d):∃q,x<=q/\q<=y/\Fe (ev f q)<d:=by
 obtain⟨R,hR,hx,hy⟩:=OI x y;obtain⟨e1,e1p,hl⟩:=loc hR h (w:=f) (u:=[1]) (λt=>by rw[Rx];grind);obtain⟨e2,e2p,_,e2b⟩:=Hb (Mk hR f) dp;obtain⟨e,ep,h1,h2⟩:=min2 e1p e2p;have key:∀n:Nat,∀x,Fe x<=R->x<y->vv L x≠vv L y->y-x<=(n:Rat)*e->∃q,x<=q/\q<=y/\Fe (ev f q)<d:=by
  intro n
  induction n with
  |zero=>intro x hx hxy _ hn;rw[show((0:Nat):Rat)=0 from rfl]at hn;exfalso;clear hl;grind
  |
   succ n ih =>
   intro x hx hxy hv hn;have hstep:∀z,Fe z<=R->x<z->z-x<=e->vv L x≠vv L z->Fe (ev f z)<d:=λz hz hxz hze hv=>by
    rcases hl x z hx hz hxz (Zb hze h1)with⟨p,_⟩|⟨_,p1,p2,p3,p4⟩
    ·exact absurd p hv
    ·have hd:=Mm (p:=f) hx hz hR (e:=e2) (d:=d) (by rw[Sp];clear hl ih;constructor <;> grind) e2b;rw[<-p3]at p1 p4;clear hl ih p2 p3;rw[jZ]at *;rcases Gv (ev f x)with⟨a,a'⟩|⟨a,a'⟩|⟨a,a'⟩ <;> rcases Gv (ev f z)with⟨b,b'⟩|⟨b,b'⟩|⟨b,b'⟩ <;> rw[a,b]at p4 <;> first|(exfalso;revert p4;decide)|skip
     all_goals first|(constructor <;> grind)|(exfalso;omega)
   rcases Fz (y-x) e with h3|h3
   ·exact⟨y,Qm hxy,Qk,hstep y hy hxy h3 hv⟩
   ·have hm:Fe (x+e)<=R:=WF hx hy (by clear hl ih hstep;grind) (by clear hl ih hstep;grind);rcases Classical.em (vv L x=vv L (x+e))with e0|e0
    ·have hn':(((n+1:Nat):Rat))=(n:Rat)+1:=by push_cast;rfl
     rw[hn']at hn;obtain⟨q,q1,q2,q3⟩:=ih (x+e) hm (by clear hl ih hstep;grind) (by omega) (by clear hl ih hstep;grind);exact⟨q,by clear hl ih hstep;grind,q2,q3⟩
    ·exact⟨x+e,by clear hl ih hstep;grind,by clear hl ih hstep;grind,hstep (x+e) hm (by clear hl ih hstep;grind) (by clear hl ih hstep;grind) e0⟩
 obtain⟨n,hn⟩:=QL (z:=y-x) ep;exact key n x hx hxy hv hn
theorem Qsb{p:Up}{x:Rat}(h:Ph p x≠0):∃e:Rat,0<e/\∀y,x<y->y-x<=e->Fj (ev p y)=Ph p x:=by
 by_cases h0:Fj (ev p x)=0
 ·have hx:=Gm.1 h0;rw[sT h0]at h ⊢;have hR:0<=Fe x+1:=by have:=Hw x;grind
  obtain⟨e,e1,e2,e3⟩:=Hb (NW hR p) (Cj (x:=dv p x) λh'=>h (Gm.2 h'));refine⟨e,e1,λy h1 h2=>?_⟩;have hy:Fe y<=Fe x+1:=by
   have:=Sv x (y-x);have e:x+(y-x)=y:=by grind
   have e':Fe (y-x)=y-x:=by unfold Fe;split <;> grind
   rw[e,e']at this;grind
  have:=BO (p:=p) (by grind) hy hR h1 h2 Qk e3;rw[hx]at this;rw[<-this];congr 1;grind
 ·rw[Em h0]at h ⊢;obtain⟨e,e1,e2⟩:=cont h;exact⟨e,e1,λy h1 h2=>e2 y (by rw[Sp];constructor <;> grind)⟩
def cq(P:Up)(lo hi q:Rat):Int:=if q<=lo then 1 else if hi<q then -1 else if Fj (ev P q)=0 then 0 else if Fj (ev P q)=Ph P lo then 1 else -1
structure Vt(P:List Rat)(L:List (List Rat))(lo hi:Rat):Prop where
 s:YH P L
 l:lo<hi
 v:vv L lo=vv L hi+1
variable{P:Up}{L:Uq}{lo hi:Rat}
theorem Mj{q:Rat}(h:q<=lo):cq P lo hi q=1:=by unfold cq;rw[if_pos h]
theorem Ij{q:Rat}(h:lo<hi)(h':hi<q):cq P lo hi q=-1:=by unfold cq;rw[if_neg (by grind),if_pos h']
theorem Nu{q:Rat}(h1:lo<q)(h2:q<=hi):cq P lo hi q=if Fj (ev P q)=0 then 0 else if Fj (ev P q)=Ph P lo then 1 else -1:=by
 unfold cq;rw[if_neg (by grind),if_neg (by grind)]
theorem Vt.two(V:Vt P L lo hi){q:Rat}(h1:lo<q)(h2:q<=hi):vv L q=vv L lo/\cq P lo hi q=1/\Fj (ev P q)=Ph P lo\/vv L q=vv L hi/\cq P lo hi q≠1/\Ph P q=-Ph P lo/\Ph P lo≠0:=by
 have a:=Dx V.s h1;have b:vv L hi<=vv L q:=by
  rcases Classical.em (q=hi)with e|e
  ·rw[e];exact Qj _
  ·exact Dx V.s (by grind)
 have hv:=V.v;rcases(show vv L q=vv L lo\/vv L q=vv L hi by omega)with e|e
 ·have hs:=yK V.s h1 e.symm;refine .inl ⟨e,?_,hs.s⟩;rw[Nu h1 h2,hs.s,if_neg hs.n,if_pos rfl]
 ·obtain⟨o1,o2⟩:=yV V.s h1 (by omega);refine .inr ⟨e,?_,o2,o1⟩;rw[Nu h1 h2]
  split
  ·decide
  ·rename_i h0;rw[Em h0]at o2;rw[if_neg (by omega)];decide
theorem Vt.lowlo(V:Vt P L lo hi):Ph P lo≠0:=(yV V.s V.l V.v).1
theorem Vt.eq_lo(V:Vt P L lo hi){q:Rat}(h1:lo<q)(h2:q<=hi)(h:cq P lo hi q=1):vv L q=vv L lo:=by
 rcases V.two h1 h2 with⟨e,_⟩|⟨_,e,_⟩
 ·exact e
 ·exact absurd h e
theorem Vt.eq_hi(V:Vt P L lo hi){q:Rat}(h1:lo<q)(h2:q<=hi)(h:cq P lo hi q≠1):vv L q=vv L hi:=by
 rcases V.two h1 h2 with⟨_,e,_⟩|⟨e,_⟩
 ·exact absurd e h
 ·exact e
theorem Vt.hi1(V:Vt P L lo hi):cq P lo hi hi≠1:=λh=>by have:=V.eq_lo V.l Qk h;have:=V.v;omega
theorem Vt.cut(V:Vt P L lo hi):Cut (cq P lo hi) where
 val q:=by unfold cq;split <;> (try split) <;> (try split) <;> (try split) <;> simp
 mono q r h h1:=by
  have hq:lo<q:=by
   rcases Fz q lo with e|e
   ·exact absurd (Mj e) h1
   ·exact e
  rcases Fz r hi with e|e
  ·have e1:=V.eq_hi hq (by grind) h1;rcases V.two (q:=r) (by grind) e with⟨e2,_⟩|⟨e2,_,e3,e4⟩
   ·have:=Dx V.s h;have:=V.v;omega
   ·have hs:=yK V.s h (by omega);rcases V.two hq (by grind)with⟨e5,_⟩|⟨_,_,e5,_⟩
    ·have:=V.v;omega
    ·rw[Nu (by grind) e,hs.s,if_neg hs.n,e5,if_neg (by omega)]
  ·exact Ij V.l e
 up q h:=by
  rcases Fz q lo with e|e
  ·obtain⟨d,dp,hd⟩:=Qsb V.lowlo;obtain⟨f,fp,f1,f2⟩:=min2 (a:=d) (b:=hi-lo) dp (by have:=V.l;grind);have h1:lo<lo+f:=by clear hd;grind
   have h2:lo+f<=hi:=by clear hd;grind
   have:=hd (lo+f) h1 (by clear hd;grind);exact⟨lo+f,by clear hd;grind,by rw[Nu h1 h2,this,if_neg V.lowlo,if_pos rfl]⟩
  ·have hh:q<=hi:=by
    rcases Fz q hi with e'|e'
    ·exact e'
    ·have:=Ij (P:=P) V.l e';omega
   rcases V.two e hh with⟨e1,_,e2⟩|⟨_,e1,_⟩
   ·have hn:q≠hi:=λh=>by rw[h]at e1;have:=V.v;omega
    obtain⟨d,dp,hd⟩:=cont (p:=P) (x:=q) (by rw[e2];exact V.lowlo);obtain⟨f,fp,f1,f2⟩:=min2 (a:=d) (b:=hi-q) dp (by clear hd;grind);have:=hd (q+f) (by rw[Sp];clear hd;constructor <;> grind);exact⟨q+f,by clear hd;grind,by rw[Nu (by clear hd;grind) (by clear hd;grind),this,e2,if_neg V.lowlo,if_pos rfl]⟩
   ·exact absurd h e1
 dn q h:=by
  have hq:lo<q:=by
   rcases Fz q lo with e|e
   ·have:=Mj (P:=P) (hi:=hi) e;omega
   ·exact e
  rcases Fz q hi with e|e
  ·rw[Nu hq e]at h
   split at h
   ·cases h
   rename_i h0
   split at h
   ·cases h
   rename_i h1;obtain⟨d,dp,hd⟩:=cont h0;obtain⟨f,fp,f1,f2⟩:=min2 (a:=d) (b:=(q-lo) / 2) dp (C4 (by clear hd;grind) (by decide));have h2:(q-lo) / 2*2=q-lo:=Gd (by decide);have:=hd (q-f) (by rw[Sp];clear hd;constructor <;> grind);exact⟨q-f,by clear hd;grind,by rw[Nu (by clear hd;grind) (by clear hd;grind),this,if_neg h0,if_neg h1]⟩
  ·have h2:(q-hi) / 2*2=q-hi:=Gd (by decide);exact⟨q-(q-hi) / 2,by grind,Ij V.l (by grind)⟩
 lo:=⟨lo,Mj Qk⟩
 hi:=⟨hi+1,Ij V.l (by grind)⟩
theorem Vt.van(V:Vt P L lo hi):Dy P (cq P lo hi):=by
 have hc:=V.cut;rcases QJ hc P with h|⟨s,hs,h⟩
 ·exact h
 ·exfalso;have e1:s=Ph P lo:=by
   obtain⟨x,hx,hx1⟩:=dO hc h;obtain⟨q,q1,q2,q3⟩:=FP hc hx (Mj (P:=P) (hi:=hi) (Qk (a:=lo)));have hq:q<=hi:=by
    rcases Fz q hi with e|e
    ·exact e
    ·have:=Ij (P:=P) V.l e;omega
   rcases V.two q3 hq with⟨_,_,e⟩|⟨_,e,_⟩
   ·rw[<-hx1 q q1 (Qm q2),e]
   ·exact absurd q1 e
  rcases hc.val hi with e|e|e
  ·exact V.hi1 e
  ·have h0:=CJ hc e h;rw[Nu V.l Qk]at e
   split at e
   ·omega
   ·split at e <;> omega
  ·obtain⟨y,hy,hy1⟩:=OY hc h;obtain⟨q,q1,q2,q3⟩:=tQ hc hy e;have hq:lo<q:=hc.lt (Mj (P:=P) (hi:=hi) (Qk (a:=lo))) q1;have:=hy1 q q1 (Qm q2);rw[Nu hq (Qm q3),this,if_neg hs,if_pos e1]at q1;cases q1
def sZ(w:Up)(lo hi:Rat):Prop:=Fj (ev w hi)=0\/Fj (ev w hi)≠Ph w lo
theorem Vt.has(V:Vt P L lo hi){w u:Up}(hf:∀t,ev P t=ev w t*ev u t){a b:Rat}(h1:lo<=a)(h2:a<b)(h3:b<=hi):sZ w a b↔Dy w (cq P lo hi)/\cq P lo hi a=1/\cq P lo hi b≠1:=by
 have hc:=V.cut;have smno:vv L a=vv L b->¬sZ w a b:=λh hh=>by
  have:=VZ V.s hf h2 h;rcases hh with e|e
  ·rw[this.s]at e;exact this.n e
  ·exact e this.s
 by_cases ha:cq P lo hi a=1
 ·by_cases hb:cq P lo hi b=1
  ·have e1:=V.eq_lo (by grind) h3 hb;have e2:vv L a=vv L lo:=by
    rcases Classical.em (lo=a)with e|e
    ·rw[e]
    ·exact V.eq_lo (by grind) (by grind) ha
   exact⟨λh=>absurd h (smno (by omega)),λh=>absurd hb h.2.2⟩
  ·have e1:=V.eq_hi (by grind) h3 hb;have e2:vv L a=vv L lo:=by
    rcases Classical.em (lo=a)with e|e
    ·rw[e]
    ·exact V.eq_lo (by grind) (by grind) ha
   have left:∀s,LS w (cq P lo hi) s->s=Ph w a:=λs hs=>by
    obtain⟨x,hx,hx1⟩:=hs;obtain⟨q,q1,q2,q3⟩:=FP hc hx ha;have hqb:q<b:=by
     rcases Fz b q with e|e
     ·rcases Classical.em (b=q)with e'|e'
      ·rw[e']at hb;exact absurd q1 hb
      ·have:=hc.mono b q (by clear hx1 smno;grind) hb;omega
     ·exact e
    have:=V.eq_lo (q:=q) (by clear hx1 smno;grind) (by clear hx1 smno;grind) q1;rw[<-(VZ V.s hf q3 (by omega)).s,hx1 q q1 (Qm q2)]
   have right:∀s,RS w (cq P lo hi) s->cq P lo hi b=-1->s=Fj (ev w b):=λs hs hb=>by
    obtain⟨y,hy,hy1⟩:=hs;obtain⟨q,q1,q2,q3⟩:=tQ hc hy hb;have hqa:=hc.lt ha q1;have:=V.eq_hi (q:=q) (by clear hy1 smno;grind) (by clear hy1 smno;grind) (by omega);have hs:=VZ V.s hf q3 (by omega);have hl:=hy1 q q1 (Qm q2);have h0:Fj (ev w q)≠0:=by
     have hs2:=VZ V.s hf (x:=q) (y:=b) q3 (by omega);intro h0;obtain⟨r,r1,r2⟩:=hc.dn q q1;have har:=hc.lt ha r2;have:=V.eq_hi (q:=r) (by clear hy1 smno;grind) (by clear hy1 smno;grind) (by omega);have hs3:=VZ V.s hf (x:=r) (y:=q) r1 (by omega);have hs4:=hs3.s;rw[h0]at hs4;exact hs3.n hs4.symm
    rw[hs.s,Em h0,hl]
   refine⟨λh=>⟨?_,ha,hb⟩,λ⟨hw,_,_⟩=>?_⟩
   ·rcases QJ hc w with e|⟨s,PK,hs⟩
    ·exact e
    ·exfalso;have l1:=left s (dO hc hs);have r1:Fj (ev w b)=s:=by
      rcases hc.val b with e|e|e
      ·exact absurd e hb
      ·exact CJ hc e hs
      ·exact(right s (OY hc hs) e).symm
     rcases h with h|h
     ·exact PK (by rw[<-r1];exact h)
     ·exact h (by rw[r1,l1])
   ·rcases hc.val b with e|e|e
    ·exact absurd e hb
    ·exact .inl (Gm.2 (KU hc e hw))
    ·obtain⟨s,PK,hs⟩:=cY hc V.s hf hw;have l1:=left _ (Qe2 hc hw (dO hc hs) PK);have r1:=right _ (jF hc hw (OY hc hs) PK) e;exact .inr (by rw[<-l1,<-r1];omega)
 ·have hla:lo<a:=by
   rcases Classical.em (lo=a)with e|e
   ·rw[<-e]at ha;exact absurd (Mj Qk) ha
   ·grind
  have hb:cq P lo hi b≠1:=by have:=hc.mono a b h2 ha;omega
  have e1:=V.eq_hi hla (by grind) ha;have e2:=V.eq_hi (q:=b) (by grind) h3 hb;exact⟨λh=>absurd h (smno (by omega)),λh=>absurd h.2.1 ha⟩
theorem kX{c c':Rat->Int}(hc:Cut c)(hc':Cut c'){q:Rat}(h:c q≠c' q):∃r,(c r=-1/\c' r=1)\/(c r=1/\c' r=-1):=by
 rcases hc.val q with e|e|e <;> rcases hc'.val q with e'|e'|e'
 ·omega
 ·obtain⟨r,r1,r2⟩:=hc.up q e;exact⟨r,.inr ⟨r2,hc'.mono q r r1 (by omega)⟩⟩
 ·exact⟨q,.inr ⟨e,e'⟩⟩
 ·obtain⟨r,r1,r2⟩:=hc'.up q e';exact⟨r,.inl ⟨hc.mono q r r1 (by omega),r2⟩⟩
 ·omega
 ·obtain⟨r,r1,r2⟩:=hc'.dn q e';exact⟨r,.inr ⟨hc.mono' r1 (by omega),r2⟩⟩
 ·exact⟨q,.inl ⟨e,e'⟩⟩
 ·obtain⟨r,r1,r2⟩:=hc.dn q e;exact⟨r,.inl ⟨r2,hc'.mono' r1 (by omega)⟩⟩
 ·omega
theorem Vt.uniq(V:Vt P L lo hi){c:Rat->Int}(hc:Cut c)(h1:c lo=1)(h2:c hi≠1)(hv:Dy P c)(q:Rat):c q=cq P lo hi q:=by
 rcases Classical.em (c q=cq P lo hi q)with e|e
 ·exact e
 ·exfalso;obtain⟨r,⟨r1,r2⟩|⟨r1,r2⟩⟩:=kX hc V.cut e
  ·have hl:=hc.lt h1 r1;have hh:r<=hi:=by
    rcases Fz r hi with e|e
    ·exact e
    ·have:=Ij (P:=P) V.l e;omega
   have:=V.eq_lo hl hh r2;exact sM V.s (w:=P) (u:=[1]) (λt=>by rw[Rx];grind) (x:=lo) (y:=r) (by omega) hc h1 (by omega) hv
  ·have hl:lo<r:=by
    rcases Fz r lo with e|e
    ·have:=Mj (P:=P) (hi:=hi) e;omega
    ·exact e
   have hh:r<=hi:=by
    rcases Fz r hi with e|e
    ·exact e
    ·have:=hc.mono hi r e h2;omega
   have:=V.eq_hi hl hh (by omega);exact sM V.s (w:=P) (u:=[1]) (λt=>by rw[Rx];grind) (x:=r) (y:=hi) (by omega) hc r1 h2 hv
theorem Vt.same(V:Vt P L lo hi){P':Up}{L':Uq}{lo' hi':Rat}(V':Vt P' L' lo' hi'){g u u' U W:Up}{k:Rat}(hk:k≠0)(h1:∀t,ev P t=ev g t*ev u t)(h2:∀t,ev P' t=ev g t*ev u' t)(h3:∀t,k*ev g t=ev U t*ev P t+ev W t*ev P' t){a b:Rat}(ha1:lo<=a)(ha2:lo'<=a)(ha:a=lo\/a=lo')(hb1:b<=hi)(hb2:b<=hi')(hb:b=hi\/b=hi'):(a<b/\sZ g a b)↔∀q,cq P lo hi q=cq P' lo' hi' q:=by
 have hc:=V.cut;have hc':=V'.cut;constructor
 ·rintro⟨hab,hg⟩
  obtain⟨g1,g2,g3⟩:=(V.has h1 ha1 hab hb1).1 hg;obtain⟨g4,g5,g6⟩:=(V'.has h2 ha2 hab hb2).1 hg;intro q;refine(V.uniq hc' (by
   rcases Classical.em (lo=a)with e|e
   ·rw[e];exact g5
   ·exact hc'.mono' (q:=lo) (r:=a) (by grind) (by omega)) (λh=>?_) (Pu hc' h1 g4) q).symm
  rcases Classical.em (b=hi)with e|e
  ·rw[<-e]at h;exact g6 h
  ·have:=hc'.mono b hi (by grind) g6;omega
 ·intro h;have hcc:cq P' lo' hi'=cq P lo hi:=funext λq=>(h q).symm
  have e1:cq P lo hi a=1:=by
   rcases ha with rfl|rfl
   ·exact Mj Qk
   ·rw[h];exact Mj Qk
  have e2:cq P lo hi b≠1:=by
   rcases hb with rfl|rfl
   ·exact V.hi1
   ·rw[h];exact V'.hi1
  have hab:a<b:=by
   rcases Fz b a with e|e
   ·rcases Classical.em (b=a)with e'|e'
    ·rw[e']at e2;exact absurd e1 e2
    ·have:=hc.mono b a (by grind) e2;omega
   ·exact e
  have v1:=V.van;have v2:=V'.van;rw[hcc]at v2;have hg:Dy g (cq P lo hi):=by
   have a1:Dy (Gj U P) (cq P lo hi):=Pu hc (p:=P) (q:=U) (λt=>by rw[U3];grind) v1;have a2:Dy (Gj W P') (cq P lo hi):=Pu hc (p:=P') (q:=W) (λt=>by rw[U3];grind) v2;have a3:=MZ (λt=>Fu t _ _) a1 a2;refine YV hc (k:=1 / k) (λt=>?_) a3;rw[Fu,U3,U3,<-h3];have:1 / k*(k*ev g t)=1 / k*k*ev g t:=by grind
   rw[this,show 1 / k*k=1 from Zh hk];grind
  exact⟨hab,(V.has h1 ha1 hab hb1).2 ⟨hg,e1,e2⟩⟩
end Orq
namespace Orq
theorem Qfs:∀(M:Nat) (f:Nat->Nat),(∀i,i<=M->f i<M)->∃i j,i<j/\j<=M/\f i=f j
 | 0,f,h=>absurd (h 0 (Qj _)) (Xt _)
 |
  M+1,f,h=>by
  rcases Classical.em (∃i,i<=M/\f i=f (M+1))with⟨i,h1,h2⟩|hn
  ·exact⟨i,M+1,by omega,Qj _,h2⟩
  ·have hne:∀i,i<=M->f i≠f (M+1):=λi hi e=>hn ⟨i,hi,e⟩
   obtain⟨i,j,h1,h2,h3⟩:=Qfs M (λi=>if f i=M then f (M+1)else f i) λi hi=>by
    have a1:=h i (by omega);have a2:=h (M+1) (Qj _);have a3:=hne i hi;show(if f i=M then f (M+1)else f i)<M
    split <;> omega
   refine⟨i,j,h1,by omega,?_⟩;have a1:=hne i (by omega);have a2:=hne j h2
   split at h3 <;> split at h3 <;> omega
def dg(B k i:Nat):Nat:=k / B^i % B
theorem cQ(B k i:Nat):dg B k (i+1)=dg B (k / B) i:=by unfold dg;rw[Nat.pow_succ,Nat.mul_comm,Nat.div_div_eq_div_mul]
theorem Qdj{B:Nat}:∀(N:Nat) {k k':Nat},k<B^N->k'<B^N->(∀i,i<N->dg B k i=dg B k' i)->k=k'
 | 0,k,k',h,h',_=>by rw[Ys]at h h';omega
 |
  N+1,k,k',h,h',he=>by
  have h0:=he 0 (by omega);unfold dg at h0;rw[Ys,Nat.div_one,Nat.div_one]at h0;have hB:0<B:=by
   rcases Qy B with e|e
   ·rw[e,Zl,Y4]at h;omega
   ·exact e
  have h1:=Qdj N (k:=k / B) (k':=k' / B) (Jf (by rw[Zg,<-Zl];exact h)) (Jf (by rw[Zg,<-Zl];exact h')) λi hi=>by
   rw[<-cQ,<-cQ];exact he (i+1) (by omega)
  rw[<-W4 k B,<-W4 k' B,h0,h1]
def cd(B:Nat):Nat->(Nat->Nat)->Nat
 | 0,_=>0
 |E+1,x=>x 0+B*cd B E λe=>x (e+1)
theorem Qnb{B:Nat}:∀(E:Nat) {x:Nat->Nat},(∀e,e<E->x e<B)->cd B E x<B^E
 | 0,_,_=>by simp[cd]
 |
  E+1,x,h=>by
  have h1:=h 0 (by omega);have h2:=Qnb E (x:=λe=>x (e+1)) λe he=>h (e+1) (by omega)
  simp only[cd];have h3:B*cd B E (λe=>x (e+1))+B<=B*B^E:=by
   rw[<-Kk];exact Zd _ h2
  rw[Zl,Zg (B^E)];omega
theorem Qc2{B:Nat}:∀(E:Nat) {x y:Nat->Nat},(∀e,e<E->x e<B)->(∀e,e<E->y e<B)->cd B E x=cd B E y->∀e,e<E->x e=y e
 | 0,_,_,_,_,_,e,he=>by omega
 |
  E+1,x,y,hx,hy,h,e,he=>by
  have h1:=hx 0 (by omega);have h2:=hy 0 (by omega);simp only[cd]at h;have e0:x 0=y 0:=by
   have:=congrArg (· % B) h;simp only[Ke]at this;rwa[X5 h1,X5 h2]at this
  have e1:cd B E (λe=>x (e+1))=cd B E (λe=>y (e+1)):=Nat.eq_of_mul_eq_mul_left (by omega:0<B) (by omega);cases e with
  |zero=>exact e0
  |succ e=>exact Qc2 E (λe he=>hx (e+1) (by omega)) (λe he=>hy (e+1) (by omega)) e1 e (by omega)
def sm:Nat->(Nat->Int)->Int
 | 0,_=>0
 |n+1,f=>sm n f+f n
theorem Qg9(f g:Nat->Int):∀n,sm n (λi=>f i-g i)=sm n f-sm n g
 | 0=>rfl
 |n+1=>by simp only[sm,Qg9 f g n];omega
theorem Dv{f g:Nat->Int}:∀n,(∀i,i<n->f i=g i)->sm n f=sm n g
 | 0,_=>rfl
 |n+1,h=>by simp only[sm,Dv n (λi hi=>h i (by omega)),h n (by omega)]
theorem Qg8{f:Nat->Int}{b:Nat}:∀n,(∀i,i<n->(f i).natAbs<=b)->(sm n f).natAbs<=n*b
 | 0,_=>by simp[sm]
 |
  n+1,h=>by
  have h1:=Qg8 n λi hi=>h i (by omega)
  have h2:=h n (by omega);simp only[sm];rw[Xa];omega
theorem YQ{f:Nat->Int}:∀n,(∀i,i<n->f i=0)->sm n f=0
 | 0,_=>rfl
 |n+1,h=>by simp only[sm,YQ n (λi hi=>h i (by omega)),h n (by omega)];rfl
theorem mU(f:Nat->Int)(m:Nat):∀n,sm (m+n) f=sm m f+sm n λi=>f (m+i)
 | 0=>by simp[sm]
 |n+1=>by rw[<-Yt];simp only[sm,mU f m n];omega
theorem mF(f:Nat->Int)(J:Nat):∀b,sm (b*J) f=sm b λi=>sm J λj=>f (i*J+j)
 | 0=>by simp[sm]
 |b+1=>by rw[Xa,mU,mF f J b];rfl
theorem DK{f:Nat->Int}{k:Nat}:∀n,k<n->(∀i,i<n->i≠k->f i=0)->sm n f=f k
 | 0,h,_=>by omega
 |
  n+1,h,h1=>by
  simp only[sm];rcases Vm (Nat.le_of_lt_succ h)with e|e
  ·rw[DK n e λi hi=>h1 i (by omega),h1 n (by omega) (by omega)];omega
  ·subst e;rw[YQ k λi hi=>h1 i (by omega) (by omega)];omega
theorem Qqh{M:Nat->Nat->Int}{h N E H:Nat}(hM:∀e i,(M e i).natAbs<=h)(hc:(2*(N*(h*H))+1)^E<(H+1)^N) :
 ∃v:Nat->Int,(∀i,(v i).natAbs<=H)/\(∃i,i<N/\v i≠0)/\∀e,e<E->sm N (λi=>M e i*v i)=0:=by
 obtain⟨T,hT⟩:=nmE (N*(h*H));rw[<-hT]at hc;have hv:∀k i,dg (H+1) k i<=H:=λk i=>Nat.le_of_lt_succ (Xe _ (by omega))
 have hs:∀k e,(sm N λi=>M e i*(dg (H+1) k i:Int)).natAbs<=T:=λk e=>by
  rw[hT];refine Qg8 N λi _=>?_
  rw[J5,Zr];exact Zs (hM e i) (hv k i)
 have him:∀k e,((sm N λi=>M e i*(dg (H+1) k i:Int))+T).toNat<2*T+1:=λk e=>by have:=hs k e;omega
 obtain⟨i,j,h1,h2,h3⟩:=Qfs ((2*T+1)^E) (λk=>cd (2*T+1) E λe=>((sm N λi=>M e i*(dg (H+1) k i:Int))+T).toNat) λk _=>Qnb E λe _=>him k e
 have h4:=Qc2 E (λe _=>him i e) (λe _=>him j e) h3;refine⟨λn=>(dg (H+1) i n:Int)-dg (H+1) j n,λn=>?_,?_,λe he=>?_⟩
 ·have a1:=hv i n;have a2:=hv j n;show((dg (H+1) i n:Int)-dg (H+1) j n).natAbs<=H;omega
 ·rcases Classical.em (∃n,n<N/\(dg (H+1) i n:Int)-dg (H+1) j n≠0)with e|e
  ·exact e
  ·exfalso;have:i=j:=Qdj (B:=H+1) N (by omega) (by omega) λn hn=>by
    rcases Classical.em (dg (H+1) i n=dg (H+1) j n)with e'|e'
    ·exact e'
    ·exact absurd ⟨n,hn,by omega⟩ e
   omega
 ·have a1:=h4 e he;have a2:=hs i e;have a3:=hs j e;have:(sm N λn=>M e n*(dg (H+1) i n:Int))=sm N λn=>M e n*(dg (H+1) j n:Int):=by omega
  have e1:=Qg9 (λn=>M e n*(dg (H+1) i n:Int)) (λn=>M e n*(dg (H+1) j n:Int)) N;rw[this]at e1;rw[Dv N (g:=λn=>M e n*(dg (H+1) i n:Int)-M e n*(dg (H+1) j n:Int)) λn _=>Int.mul_sub _ _ _,e1];omega
def Ux:Um->Rat->Rat
 | [],_=>0
 |a::p,t=>(a:Rat)+t*Ux p t
def sq:Nat->(Nat->Rat)->Rat
 | 0,_=>0
 |n+1,f=>sq n f+f n
theorem P6{f g:Nat->Rat}:∀n,(∀i,i<n->f i=g i)->sq n f=sq n g
 | 0,_=>rfl
 |n+1,h=>by simp only[sq,P6 n (λi hi=>h i (by omega)),h n (by omega)]
theorem mH(f g:Nat->Rat):∀n,sq n (λi=>f i+g i)=sq n f+sq n g
 | 0=>by simp only[sq];grind
 |n+1=>by simp only[sq,mH f g n];grind
theorem XL(c:Rat)(f:Nat->Rat):∀n,sq n (λi=>c*f i)=c*sq n f
 | 0=>by simp only[sq];grind
 |n+1=>by simp only[sq,XL c f n];grind
theorem Co{f:Nat->Rat}:∀n,(∀i,i<n->f i=0)->sq n f=0
 | 0,_=>rfl
 |n+1,h=>by simp only[sq,Co n (λi hi=>h i (by omega)),h n (by omega)];grind
theorem I6(f:Nat->Rat):∀n,sq (n+1) f=f 0+sq n λi=>f (i+1)
 | 0=>by simp only[sq];grind
 |n+1=>by rw[sq,I6 f n];simp only[sq];grind
theorem Qnw{f:Nat->Rat}{b:Rat}:∀n,(∀i,i<n->Fe (f i)<=b)->Fe (sq n f)<=(n:Rat)*b
 | 0,_=>by rw[show((0:Nat):Rat)=0 from rfl];simp only[sq,Rp];grind
 |
  n+1,h=>by
  have h1:=Qnw n λi hi=>h i (by omega)
  have h2:=h n (by omega);have h3:=Sv (sq n f) (f n);have hn':(((n+1:Nat):Rat))=(n:Rat)+1:=by push_cast;rfl
  rw[hn'];simp only[sq];clear h;grind
def gc:Um->Nat->Nat->Int
 | [],_,_=>0
 |c::B,k,j=>(if k=0/\j=0 then c else 0)+(if k=0 then 0 else gc B (k-1) j)-(if j=0 then 0 else gc B k (j-1))
def gB:Um->Nat
 | []=>0
 |c::B=>max c.natAbs (2*gB B)
theorem PX:∀(B:Um) (k j:Nat),B.length<=k+j->gc B k j=0
 | [],_,_,_=>rfl
 |
  c::B,k,j,h=>by
  simp only[Zc]at h;simp only[gc];rw[if_neg (by omega)];have e1:(if k=0 then 0 else gc B (k-1) j)=0:=by
   split
   ·rfl
   ·exact PX B _ _ (by omega)
  have e2:(if j=0 then 0 else gc B k (j-1))=0:=by
   split
   ·rfl
   ·exact PX B _ _ (by omega)
  rw[e1,e2];rfl
theorem Qd8:∀(B:Um) (k j:Nat),(gc B k j).natAbs<=gB B
 | [],_,_=>Qg _
 |
  c::B,k,j=>by
  have h1:=Qd8 B (k-1) j;have h2:=Qd8 B k (j-1);simp only[gc,gB];by_cases hk:k=0 <;> by_cases hj:j=0 <;> simp only[hk,hj,true_and,and_true,false_and,and_false,if_true,if_false] <;> (try subst hk) <;> (try subst hj) <;> omega
theorem Qd9:∀(B:Um) (b:Nat),B.length=b+1->(gc B 0 b).natAbs=(B.getD b 0).natAbs
 | [],_,h=>by simp at h
 | [c],0,_=>by simp[gc]
 |c::d::B,0,h=>by simp at h
 |
  c::B,b+1,h=>by
  have ih:=Qd9 B b (by simpa using h);simp only[gc];simp only[J1,Qz];rw[if_pos trivial,if_neg (Nat.succ_ne_zero b),<-ih];omega
def E2(F:Nat->Nat->Int)(K J:Nat)(x y:Rat):Rat:=sq K λk=>sq J λj=>(F k j:Rat)*(y^k*x^j)
theorem tV(F G:Nat->Nat->Int)(K J:Nat)(x y:Rat):E2 (λk j=>F k j+G k j) K J x y=E2 F K J x y+E2 G K J x y:=by
 unfold E2;rw[<-mH];refine P6 K λk _=>?_
 rw[<-mH];exact P6 J λj _=>by push_cast;grind
theorem Qds(c:Int)(F:Nat->Nat->Int)(K J:Nat)(x y:Rat):E2 (λk j=>F k j*c) K J x y=(c:Rat)*E2 F K J x y:=by
 unfold E2;rw[<-XL];refine P6 K λk _=>?_
 rw[<-XL];exact P6 J λj _=>by push_cast;grind
theorem Qdt(φ:Nat->Nat->Nat->Int)(v:Nat->Int)(K J:Nat)(x y:Rat):∀N,E2 (λk j=>sm N λn=>φ n k j*v n) K J x y=sq N λn=>(v n:Rat)*E2 (φ n) K J x y
 |
  0=>by
  simp only[sq,sm];unfold E2;refine Co K λk _=>Co J λj _=>?_
  rw[show((0:Int):Rat)=0 from rfl];grind
 |
  N+1=>by
  simp only[sq];rw[<-Qdt φ v K J x y N,<-Qds,<-tV];rfl
theorem UJ(t:Rat)(i:Nat):∀k,t^(i+k)=t^i*t^k
 | 0=>by rw[Xy,Xh];grind
 |k+1=>by rw[<-Yt,Z9,Z9,UJ t i k];grind
theorem DW(f:Nat->Rat):∀(i n:Nat),sq (i+n) (λk=>if i<=k then f (k-i)else 0)=sq n f
 |i,0=>Co _ λk hk=>by rw[if_neg (by omega)]
 |
  i,n+1=>by
  rw[<-Yt];simp only[sq];rw[DW f i n,if_pos (by omega),Jq]
def SG(i j':Nat)(F:Nat->Nat->Int)(k j:Nat):Int:=if i<=k then(if j'<=j then F (k-i) (j-j')else 0)else 0
theorem NC(F:Nat->Nat->Int)(i j' K J:Nat)(x y:Rat):E2 (SG i j' F) (i+K) (j'+J) x y=y^i*x^j'*E2 F K J x y:=by
 unfold E2;rw[<-XL,<-DW _ i K];refine P6 _ λk _=>?_
 by_cases hk:i<=k
 ·rw[if_pos hk,<-XL,<-DW _ j' J];refine P6 _ λj _=>?_
  unfold SG;rw[if_pos hk];by_cases hj:j'<=j
  ·rw[if_pos hj,if_pos hj];have e1:y^k=y^i*y^(k-i):=by rw[<-UJ];congr 1;omega
   have e2:x^j=x^j'*x^(j-j'):=by rw[<-UJ];congr 1;omega
   rw[e1,e2];grind
  ·rw[if_neg hj,if_neg hj,show((0:Int):Rat)=0 from rfl];grind
 ·rw[if_neg hk];refine Co _ λj _=>?_
  unfold SG;rw[if_neg hk,show((0:Int):Rat)=0 from rfl];grind
def fA(A:Um)(k j:Nat):Int:=if j=0 then A.getD k 0 else 0
theorem Qfr(y:Rat):∀(A:Um) (K:Nat),A.length<=K->sq K (λk=>((A.getD k 0:Int):Rat)*y^k)=Ux A y
 | [],K,_=>by rw[Co];rfl;intro i _;simp
 |a::A,0,h=>by simp at h
 |
  a::A,K+1,h=>by
  have ih:=Qfr y A K (by simpa using h);rw[I6];simp only[Ux,Zn,Qz,Xh];rw[<-ih,<-XL];have:(sq K λi=>((A.getD i 0:Int):Rat)*y^(i+1))=sq K λi=>y*(((A.getD i 0:Int):Rat)*y^i):=P6 K λi _=>by rw[Z9];grind
  rw[this];grind
theorem Qr6(A:Um)(K J:Nat)(x y:Rat)(h:A.length<=K):E2 (fA A) K (J+1) x y=Ux A y:=by
 rw[<-Qfr y A K h];refine P6 K λk _=>?_
 rw[I6,Co]
 ·simp only[fA,if_true,Xh];grind
 ·intro j _;simp only[fA];rw[if_neg (by omega),show((0:Int):Rat)=0 from rfl];grind
theorem Qo5(x y:Rat):∀(B:Um) (K J:Nat),B.length<=K->B.length<=J->E2 (gc B) K J x y=Ux B (y-x)
 |
  [],K,J,_,_=>by
  unfold E2;simp only[gc,Ux];exact Co K λk _=>Co J λj _=>by rw[show((0:Int):Rat)=0 from rfl];grind
 |c::B,0,J,h,_=>by simp at h
 |c::B,K+1,0,_,h=>by simp at h
 |
  c::B,K+1,J+1,h1,h2=>by
  have i1:=Qo5 x y B K (J+1) (by simpa using h1) (by simp at h2;omega);have i2:=Qo5 x y B (K+1) J (by simp at h1;omega) (by simpa using h2);have s1:=NC (gc B) 1 0 K (J+1) x y;have s2:=NC (gc B) 0 1 (K+1) J x y;rw[Zz,J0 1 K]at s1;rw[Zz,J0 1 J]at s2;rw[i1]at s1;rw[i2]at s2;have e0:E2 (fA [c]) (K+1) (J+1) x y=(c:Rat):=by rw[Qr6 [c] (K+1) J x y (by simp)];simp only[Ux];grind
  have e1:gc (c::B)=λk j=>(fA [c] k j+SG 1 0 (gc B) k j)+SG 0 1 (gc B) k j*(-1):=by
   funext k j;simp only[gc,fA,SG];by_cases hk:k=0 <;> by_cases hj:j=0
   ·subst hk;subst hj;simp
   ·subst hk;simp[hj,show 1<=j by omega]
    try omega
   ·subst hj;obtain⟨m,rfl⟩:∃m,k=m+1:=⟨k-1,by omega⟩;simp
   ·obtain⟨m,rfl⟩:∃m,k=m+1:=⟨k-1,by omega⟩;obtain⟨i,rfl⟩:∃i,j=i+1:=⟨j-1,by omega⟩;simp;omega
  rw[e1,tV (λk j=>fA [c] k j+SG 1 0 (gc B) k j) (λk j=>SG 0 1 (gc B) k j*(-1)),tV (fA [c]) (SG 1 0 (gc B)),Qds,e0,s1,s2];simp only[Ux,Xh,show y^1=y by rw[Z9,Xh];grind,show x^1=x by rw[Z9,Xh];grind];rw[show(((-1:Int)):Rat)=-1 from rfl];grind
def LL(A B:Um)(b J J' n k j:Nat):Int:=if n<b*J then SG (n / J) (n % J) (fA A) k j else SG ((n-b*J) / J') ((n-b*J) % J') (gc B) k j
theorem Qg1{F:Nat->Nat->Int}{h:Nat}(hF:∀k j,(F k j).natAbs<=h)(i j' k j:Nat):(SG i j' F k j).natAbs<=h:=by
 unfold SG;split
 ·split
  ·exact hF _ _
  ·exact Qg _
 ·exact Qg _
theorem Qnm{i b J j:Nat}(hi:i<b)(hj:j<J):i*J+j<b*J:=by
 have:(i+1)*J<=b*J:=Qw J hi;rw[Xa]at this;omega
theorem GT{i J j:Nat}(hj:j<J):(i*J+j) / J=i/\(i*J+j) % J=j:=by
 rw[Zg,W5 (by omega),W6,V3 hj,X5 hj];exact⟨by omega,rfl⟩
theorem OR(A B:Um)(a b J J':Nat)(v:Nat->Int)(k j:Nat):sm (b*J+a*J') (λn=>LL A B b J J' n k j*v n) =
 (sm b λi=>sm J λj1=>SG i j1 (fA A) k j*v (i*J+j1))+sm a λi=>sm J' λj1=>SG i j1 (gc B) k j*v (b*J+(i*J'+j1)):=by
 rw[mU,mF,mF];congr 1
 ·refine Dv b λi hi=>Dv J λj1 hj=>?_
  unfold LL;rw[if_pos (Qnm hi hj),(GT hj).1,(GT hj).2]
 ·refine Dv a λi hi=>Dv J' λj1 hj=>?_
  unfold LL;rw[if_neg (by omega),Jq,(GT hj).1,(GT hj).2]
theorem Qr0(A:Um)(v:Nat->Int){i J k j:Nat}(hj:j<J):(sm J λj1=>SG i j1 (fA A) k j*v (i*J+j1))=if i<=k then A.getD (k-i) 0*v (i*J+j)else 0:=by
 rw[DK (k:=j) J hj λj1 _ hne=>?_]
 ·unfold SG fA;by_cases h:i<=k
  ·rw[if_pos h,if_pos h,if_pos (Qj _),if_pos (J4 _)]
  ·rw[if_neg h,if_neg h,Yd]
 ·unfold SG fA;by_cases h:i<=k
  ·rw[if_pos h];by_cases h':j1<=j
   ·rw[if_pos h',if_neg (by omega),Yd]
   ·rw[if_neg h',Yd]
  ·rw[if_neg h,Yd]
section
variable{A B:Um}{a b J J':Nat}(hA:A.length=a+1)(hB:B.length=b+1)(lA:A.getD a 0≠0)(lB:B.getD b 0≠0)(hJ:J=J'+b){v:Nat->Int}(hW:∀k j,k<a+b->j<J->sm (b*J+a*J') (λn=>LL A B b J J' n k j*v n)=0)
include hA lA hW in
theorem Qnd{jj:Nat}(hj:jj<J)(hV:∀k,a<=k->k<a+b->(sm a λi=>sm J' λj1=>SG i j1 (gc B) k jj*v (b*J+(i*J'+j1)))=0):∀d i,i<b->b-i<=d->v (i*J+jj)=0:=by
 intro d
 induction d with
 |zero=>intro i hi hd;omega
 |
  succ d ih =>
  intro i hi hd;have h1:=hW (i+a) jj (by omega) hj;rw[OR,hV (i+a) (by omega) (by omega)]at h1;rw[Dv b (λi' hi'=>Qr0 A v hj)]at h1;rw[DK (k:=i) b hi λi' hi' hne=>?_]at h1
  ·rw[if_pos (by omega),Jq,Int.add_zero]at h1;rcases Jy.1 h1 with h2|h2
   ·exact absurd h2 lA
   ·exact h2
  ·rcases Q9 i i' with h|h
   ·rw[ih i' hi' (by omega)];simp
   ·rw[if_pos (by omega),Qd,Qx (by omega)];simp
include hA hB lA lB hJ hW in
theorem Qr4:∀d js,js<J'->J'-js<=d->∀i,i<a->v (b*J+(i*J'+js))=0:=by
 intro d
 induction d with
 |zero=>intro js hi hd;omega
 |
  succ d ih =>
  intro js hjs hd i hi;have hin:∀i' k,i'<a->(sm J' λj1=>SG i' j1 (gc B) k (js+b)*v (b*J+(i'*J'+j1)))=if i'=k then gc B 0 b*v (b*J+(i'*J'+js))else 0:=λi' k hi'=>by
   rw[DK (k:=js) J' hjs λj1 hj1 hne=>?_]
   ·unfold SG;by_cases h:i'<=k
    ·rw[if_pos h,if_pos (by omega),Jq];by_cases h':i'=k
     ·rw[if_pos h',h',J4]
     ·rw[if_neg h',PX B _ _ (by omega),Yd]
    ·rw[if_neg h,if_neg (by omega),Yd]
   ·rcases Q9 js j1 with h|h
    ·rw[ih j1 hj1 (by omega) i' hi',Vz]
    ·unfold SG;by_cases h':i'<=k
     ·rw[if_pos h',if_pos (by omega),PX B _ _ (by omega),Yd]
     ·rw[if_neg h',Yd]
  have hU:=Qnd hA lA hW (jj:=js+b) (by omega) (λk hk hk'=>YQ a λi' hi'=>by rw[hin i' k hi',if_neg (by omega)]) (b+1);have h1:=hW i (js+b) (by omega) (by omega);rw[OR,Dv a (λi' hi'=>hin i' i hi')]at h1;rw[YQ b λi' hi'=>by
   rw[Qr0 A v (by omega),hU i' hi' (by omega)];simp]at h1
  rw[DK (k:=i) a hi λi' hi' hne=>if_neg hne,if_pos rfl,Int.zero_add]at h1;rcases Jy.1 h1 with h2|h2
  ·have:=Qd9 B b hB;rw[h2]at this;omega
  ·exact h2
include hA hB lA lB hJ hW in
theorem Qa7:∀n,n<b*J+a*J'->v n=0:=by
 intro n hn;have hV:=Qr4 hA hB lA lB hJ hW;rcases Q9 n (b*J)with h|h
 ·have hJp:0<J:=by
   rcases Qy J with e|e
   ·rw[e,Y4]at h;omega
   ·exact e
  have e1:=Xe n hJp;have e2:n / J<b:=Jf (by rw[Zg];exact h);have:=Qnd hA lA hW e1 (λk _ _=>YQ a λi hi=>YQ J' λj1 hj1=>by rw[hV J' j1 hj1 (by omega) i hi,Vz]) (b+1) (n / J) e2 (Qc (Nat.sub_le _ _) (Nat.le_succ _));rwa[Zg,Xj]at this
 ·have hJp:0<J':=by
   rcases Qy J' with e|e
   ·rw[e,Y4]at hn;omega
   ·exact e
  have e1:=Xe (n-b*J) hJp;have e2:(n-b*J) / J'<a:=Jf (by rw[Zg J' a];omega);have:=hV J' _ e1 (by omega) _ e2;rw[Zg ((n-b*J) / J'),Xj]at this;rwa[show b*J+(n-b*J)=n by omega]at this
end
theorem JE{R x:Rat}(h1:1<=R)(hx:Fe x<=R):∀k:Nat,Fe (x^k)<=R^k/\1<=R^k
 | 0=>by rw[Xh,Xh];exact⟨by decide,by decide⟩
 |
  k+1=>by
  obtain⟨i1,i2⟩:=JE h1 hx k;rw[Z9,Z9];have:=Pp (a:=1) (c:=1) (by decide) i2 (by decide) h1;exact⟨G8 i1 hx,by grind⟩
theorem eZ{R:Rat}(h1:1<=R){i:Nat}:∀k,i<=k->R^i<=R^k
 | 0,h=>by rw[show i=0 by omega];exact Qk
 |
  k+1,h=>by
  rcases Vm h with e|e
  ·have:=eZ h1 (i:=i) k (by omega);have h2:=(JE h1 (x:=0) (by rw[Rp];grind) k).2;rw[Z9];have:=Pp (a:=R^k) (b:=R^k) (c:=1) (d:=R) (by grind) Qk (by decide) h1;grind
  ·rw[e];exact Qk
theorem Qg0{F:Nat->Nat->Int}{i j' K J:Nat}{x y R X:Rat}{K2 J2:Nat}(h1:1<=R)(hx:Fe x<=R)(hy:Fe y<=R)(hK:K=i+K2)(hJ:J=j'+J2)(hF:E2 F K2 J2 x y=X):Fe (E2 (SG i j' F) K J x y)<=R^(K+J)*Fe X:=by
 subst hK;subst hJ;rw[NC,hF,Lm];have a1:=(JE h1 hy i).1;have a2:=(JE h1 hx j').1;have a3:=G8 a1 a2;rw[<-UJ]at a3;have a4:=eZ h1 (i:=i+j') (i+K2+(j'+J2)) (by omega);exact Pp (Hw _) (Zb a3 a4) (Hw _) Qk
theorem Qqe{A B:Um}{a b h:Nat}(hA:A.length=a+1)(hB:B.length=b+1)(lA:A.getD a 0≠0)(lB:B.getD b 0≠0)(ha:0<a)(hb:0<b)(h0:1<=h)(bA:∀k,(A.getD k 0).natAbs<=h)(bB:gB B<=h){J J' N H:Nat}(hJ:J=2*(a*b))(hJ':J=J'+b)(hN:N=b*J+a*J')(hH:H=(2*(N*h))^(2*(a+b-1))) :
 ∃w:Nat->Int,(∃j,j<J/\w j≠0)/\(∀j,(w j).natAbs<=N*(h*H))/\∀R:Rat,1<=R->∃C:Rat,0<=C/\∀x y,Fe x<=R->Fe y<=R->Fe (sq J λj=>(w j:Rat)*x^j)<=C*(Fe (Ux A y)+Fe (Ux B (y-x))):=by
 have hab:0<a*b:=Yg ha hb;have hbd:∀n k j,(LL A B b J J' n k j).natAbs<=h:=λn k j=>by
  unfold LL
  split
  ·exact Qg1 (λk j=>by unfold fA;split;exact bA k;exact Nat.zero_le _) _ _ _ _
  ·exact Qg1 (λk j=>Qc (Qd8 B k j) bB) _ _ _ _
 have hJp:0<J:=by omega
 have hNp:1<=N:=by
  have:0<b*J:=Yg hb hJp;omega
 have hNh:1<=N*h:=Yg hNp h0;obtain⟨E,hE⟩:=nmE ((a+b-1)*J);have hNE:N=E+a*b:=by
  have e1:(a+b-1)*J+J=(a+b)*J:=by
   rw[<-Xa];congr 1;omega
  have e2:a*J=a*J'+a*b:=by rw[hJ',Xw]
  rw[Jm]at e1;omega
 have hc:(2*(N*(h*H))+1)^E<(H+1)^N:=by
  have c1:2*(N*(h*H))+1<=2*(N*h)*(H+1):=by
   rw[Xw,Yf,Xk 2,Xk N];omega
  refine Z8 (Wh c1 E) ?_;rw[Nat.mul_pow,hNE,Xc,Zg];refine Nat.mul_lt_mul_of_pos_left ?_ (Zu (by omega));have e1:(2*(N*h))^E=H^(a*b):=by
   rw[hH,<-Uc,hE,hJ];congr 1;rw[Zg 2 (a+b-1),Xk]
  rw[<-hNE,e1];exact Nat.pow_lt_pow_left (by omega) (by omega)
 obtain⟨v,v1,⟨n0,n1,n2⟩,v3⟩:=Qqh (M:=λe n=>LL A B b J J' n (e / J+1) (e % J)) (h:=h) (N:=N) (E:=E) (H:=H) (λe n=>hbd n _ _) hc;have hW:∀k j,1<=k->k<a+b->j<J->sm N (λn=>LL A B b J J' n k j*v n)=0:=λk j k1 k2 hj=>by
  have:=v3 ((k-1)*J+j) (by rw[hE];exact Qnm (by omega) hj);rwa[(GT hj).1,(GT hj).2,show k-1+1=k by omega]at this
 refine⟨λj=>sm N λn=>LL A B b J J' n 0 j*v n,?_,λj=>?_,λR hR=>?_⟩
 ·rcases Classical.em (∃j,j<J/\(sm N λn=>LL A B b J J' n 0 j*v n)≠0)with e|e
  ·exact e
  ·exfalso;refine n2 (Qa7 hA hB lA lB hJ' (v:=v) (λk j hk hj=>?_) n0 (by rw[<-hN];exact n1));rw[<-hN];rcases Qy k with e'|e'
   ·subst e';rcases Classical.em ((sm N λn=>LL A B b J J' n 0 j*v n)=0)with e2|e2
    ·exact e2
    ·exact absurd ⟨j,hj,e2⟩ e
   ·exact hW k j e' hk hj
 ·refine Qg8 N λn _=>?_
  rw[J5];exact Zs (hbd n 0 j) (v1 n)
 ·have hRp:∀k:Nat,1<=R^k:=λk=>(JE hR (x:=0) (by rw[Rp];grind) k).2
  have hHn:(0:Rat)<=(H:Rat):=Xg;have hNn:(0:Rat)<=(N:Rat):=Xg;refine⟨(N:Rat)*((H:Rat)*R^(a+b+J)),M8 hNn (M8 hHn (by have:=hRp (a+b+J);grind)),λx y hx hy=>?_⟩;have e1:(sq J λj=>((sm N λn=>LL A B b J J' n 0 j*v n:Int):Rat)*x^j)=E2 (λk j=>sm N λn=>LL A B b J J' n k j*v n) (a+b) J x y:=by
   unfold E2;obtain⟨m,hm⟩:∃m,a+b=m+1:=⟨a+b-1,by omega⟩;rw[hm,I6,Co (n:=m)]
   ·have:(sq J λj=>((sm N λn=>LL A B b J J' n 0 j*v n:Int):Rat)*(y^0*x^j))=sq J λj=>((sm N λn=>LL A B b J J' n 0 j*v n:Int):Rat)*x^j:=P6 J λj _=>by rw[Xh];grind
    rw[this];grind
   ·intro k hk;refine Co J λj hj=>?_
    show((sm N λn=>LL A B b J J' n (k+1) j*v n:Int):Rat)*_=0;rw[hW (k+1) j (by omega) (by omega) hj,show((0:Int):Rat)=0 from rfl];grind
  rw[e1,Qdt];have key:∀n,n<N->Fe ((v n:Rat)*E2 (LL A B b J J' n) (a+b) J x y)<=(H:Rat)*(R^(a+b+J)*(Fe (Ux A y)+Fe (Ux B (y-x)))):=λn hn=>by
   have hvn:Fe (v n:Rat)<=(H:Rat):=by
    have h1:=v1 n;have h2:(v n)<=(H:Int):=by omega
    have h3:-(H:Int)<=v n:=by omega
    have h2:=Jh.2 h2;have h3:=Jh.2 h3;rw[Vn]at h3;rw[Sp];exact⟨h3,h2⟩
   refine G8 hvn ?_;have hRk:=hRp (a+b+J);have n1:=Hw (Ux A y);have n2:=Hw (Ux B (y-x));rcases Q9 n (b*J)with h|h
   ·have e:LL A B b J J' n=SG (n / J) (n % J) (fA A):=by funext k j;unfold LL;rw[if_pos h]
    have d1:n / J<b:=Jf (by rw[Zg];exact h);have d2:=Xe n hJp;rw[e];refine Zb (Qg0 (K2:=a+b-n / J) (J2:=J-n % J) hR hx hy (by omega) (by omega) (X:=Ux A y) ?_) (Pp (by grind) Qk n1 (by grind));obtain⟨m,hm⟩:∃m,J-n % J=m+1:=⟨J-n % J-1,by omega⟩;rw[hm];exact Qr6 A _ _ x y (by omega)
   ·have e:LL A B b J J' n=SG ((n-b*J) / J') ((n-b*J) % J') (gc B):=by funext k j;unfold LL;rw[if_neg (by omega)]
    have hJp':0<J':=by
     rcases Qy J' with e|e
     ·rw[e,Y4]at hN;omega
     ·exact e
    have d1:(n-b*J) / J'<a:=Jf (by rw[Zg J' a];omega);have d2:=Xe (n-b*J) hJp';rw[e];refine Zb (Qg0 (K2:=a+b-(n-b*J) / J') (J2:=J-(n-b*J) % J') hR hx hy (by omega) (by omega) (X:=Ux B (y-x)) ?_) (Pp (by grind) Qk n2 (by grind));exact Qo5 x y B _ _ (by omega) (by omega)
  have:=Qnw N key;refine Zb this ?_;have:(N:Rat)*((H:Rat)*(R^(a+b+J)*(Fe (Ux A y)+Fe (Ux B (y-x)))))=(N:Rat)*((H:Rat)*R^(a+b+J))*(Fe (Ux A y)+Fe (Ux B (y-x))):=by grind
  rw[this];exact Qk
end Orq
namespace Orq
theorem Qhb{w:Nat->Int}{x:Rat}{D:Rat}(hx:Fe x*2<=1)(hw:∀j,Fe (w j:Rat)<=D):∀J (k:Nat),Fe (sq J λj=>(w (k+j):Rat)*x^j)<=2*D
 | 0,k=>by have:=hw 0;have:=Hw (w 0:Rat);simp only[sq,Rp];clear hw;grind
 |
  J+1,k=>by
  have ih:=Qhb hx hw J (k+1);rw[I6];have e:(sq J λi=>(w (k+(i+1)):Rat)*x^(i+1))=x*sq J λi=>(w (k+1+i):Rat)*x^i:=by
   rw[<-XL];exact P6 J λi _=>by rw[Z9,show k+(i+1)=k+1+i by omega];grind
  rw[e,Xh,Xy];have h1:=hw k;have h2:=Sv ((w k:Rat)*1) (x*sq J λi=>(w (k+1+i):Rat)*x^i);have h3:=G8 (x:=x) (y:=sq J λi=>(w (k+1+i):Rat)*x^i) Qk ih;have h4:=Q4 hx (show(0:Rat)<=D by have:=Hw (w k:Rat);clear hw;grind);have h5:(w k:Rat)*1=w k:=by grind
  rw[h5]at h2 ⊢;clear hw;grind
theorem O4{z:Int}(h:z≠0):1<=Fe (z:Rat):=by
 unfold Fe;rcases Kh h with h|h
 ·have:((z:Int):Rat)<((0:Int):Rat):=X8.2 h;have h2:((1:Int):Rat)<=((-z:Int):Rat):=Jh.2 (by omega);rw[if_pos (by simpa using this)];rw[Vn]at h2;simpa using h2
 ·have:((0:Int):Rat)<((z:Int):Rat):=X8.2 h;have h2:((1:Int):Rat)<=((z:Int):Rat):=Jh.2 (by omega);rw[if_neg (by
   have:(0:Rat)<z:=by simpa using this
   grind)]
  simpa using h2
theorem sR{w:Nat->Int}{x:Rat}{D:Rat}(hD:1<=D)(hx0:0<Fe x)(hx:Fe x*(4*D)<=1)(hw:∀j,Fe (w j:Rat)<=D):∀J (k:Nat),(∃j,j<J/\w (k+j)≠0)->Fe x^J / 2<=Fe (sq J λj=>(w (k+j):Rat)*x^j)
 | 0,k,⟨j,h,_⟩=>by omega
 |
  J+1,k,⟨j,h1,h2⟩=>by
  have hx2:Fe x*2<=1:=by
   have:=Pp (a:=Fe x) (c:=2) (Qm hx0) Qk (by decide) (show(2:Rat)<=4*D by clear hw;grind);exact Zb this hx
  have hx1:Fe x<=1:=by clear hw;grind
  have hp:∀k:Nat,Fe x^k<=1/\0<=Fe x^k:=λk=>by
   induction k with
   |zero=>rw[Xh];exact⟨by decide,by decide⟩
   |
    succ k ih =>
    rw[Z9];have:=Pp ih.2 ih.1 (Qm hx0) hx1;have:=M8 ih.2 (Qm hx0);constructor <;> (clear hw;grind)
  rw[I6];have e:(sq J λi=>(w (k+(i+1)):Rat)*x^(i+1))=x*sq J λi=>(w (k+1+i):Rat)*x^i:=by
   rw[<-XL];exact P6 J λi _=>by rw[Z9,show k+(i+1)=k+1+i by omega];grind
  rw[e,Xh,Xy k,show(w k:Rat)*1=w k by grind];by_cases h0:w k=0
  ·have hj:j≠0:=λe=>h2 (by rw[e];exact h0)
   have ih:=sR hD hx0 hx hw J (k+1) ⟨j-1,by omega,by rw[show k+1+(j-1)=k+j by omega];exact h2⟩;rw[h0,show((0:Int):Rat)+x*(sq J λi=>(w (k+1+i):Rat)*x^i)=x*sq J λi=>(w (k+1+i):Rat)*x^i by rw[show((0:Int):Rat)=0 from rfl];grind,Lm,Z9];have:=Zq ih (Qm hx0);have e2:Fe x*(Fe x^J / 2)=Fe x^J*Fe x / 2:=by rw[Yp,Yp];grind
   rw[e2]at this;exact this
  ·have a1:=O4 h0;have a2:=Qhb hx2 hw J (k+1);have a3:=G8 (x:=x) (y:=sq J λi=>(w (k+1+i):Rat)*x^i) Qk a2;have a4:=Sv ((w k:Rat)+x*sq J λi=>(w (k+1+i):Rat)*x^i) (-(x*sq J λi=>(w (k+1+i):Rat)*x^i));rw[Ln,show(w k:Rat)+(x*sq J λi=>(w (k+1+i):Rat)*x^i)+-(x*sq J λi=>(w (k+1+i):Rat)*x^i)=w k by grind]at a4;have a5:=(hp (J+1)).1;have a6:Fe x^(J+1) / 2*2=Fe x^(J+1):=Gd (by decide);have a7:Fe x*(2*D)*2=Fe x*(4*D):=by grind
   clear hw hp;grind
theorem Qpc{A B:Um}{a b h:Nat}(hA:A.length=a+1)(hB:B.length=b+1)(lA:A.getD a 0≠0)(lB:B.getD b 0≠0)(ha:0<a)(hb:0<b)(h0:1<=h)(bA:∀k,(A.getD k 0).natAbs<=h)(bB:gB B<=h){N D:Nat}(hN:b*(2*(a*b))+a*(2*(a*b)-b)=N)(hD:N*(h*(2*(N*h))^(2*(a+b-1)))<=D){R d:Rat}(hR:1<=R)(dp:0<d)
 (hs:∀e:Rat,0<e->∃q r,Fe q<=R/\Fe r<=R/\d<=Fe (q-r)/\Fe (q-r)*(4*(D:Rat))<=1/\Fe (Ux A q)<e/\Fe (Ux B r)<e):False:=by
 have hab:0<a*b:=Yg ha hb;have hbab:b<=a*b:=by
  have:=Qw b (show 1<=a from ha);omega
 obtain⟨w,⟨j,hj,hw0⟩,hw,hC⟩:=Qqe hA hB lA lB ha hb h0 bA bB (J:=2*(a*b)) (J':=2*(a*b)-b) rfl (by omega) hN.symm rfl;obtain⟨C,hC0,hC⟩:=hC (2*R) (by grind);have hw':∀j,Fe (w j:Rat)<=(D:Rat):=λj=>by
  have h1:=Qc (hw j) hD;have h2:w j<=(D:Int):=by omega
  have h3:-(D:Int)<=w j:=by omega
  have h2:=Jh.2 h2;have h3:=Jh.2 h3;rw[Vn]at h3;rw[Sp];exact⟨h3,h2⟩
 have hD1:(1:Rat)<=(D:Rat):=by
  have:=O4 hw0;exact Zb this (hw' j)
 have hdJ:0<d^(2*(a*b)) / 2:=C4 (Rat.pow_pos dp) (by decide);obtain⟨e,ep,_,he⟩:=Hb (b:=C*2) (d:=d^(2*(a*b)) / 2) (by grind) hdJ;obtain⟨q,r,q1,r1,d1,d2,aq,br⟩:=hs e ep;have h1:=hC (q-r) q (by
  have:=Sv q (-r);rw[Ln]at this;have:q-r=q+-r:=by grind
  grind) (by grind)
 rw[show q-(q-r)=r by grind]at h1;have h2:=sR (x:=q-r) hD1 (by grind) d2 hw' (2*(a*b)) 0 ⟨j,hj,by rw[Zz];exact hw0⟩;simp only[Zz]at h2;have h3:C*(Fe (Ux A q)+Fe (Ux B r))<=C*(e+e):=Zq (by grind) hC0;have h4:d^(2*(a*b))<=Fe (q-r)^(2*(a*b)):=by
  generalize 2*(a*b)=J
  induction J with
  |zero=>rw[Xh,Xh];exact Qk
  |
   succ J ih =>
   rw[Z9,Z9];exact Pp (Qm (Rat.pow_pos dp)) ih (Qm dp) d1
 have h5:d^(2*(a*b)) / 2*2=d^(2*(a*b)):=Gd (by decide);have h6:Fe (q-r)^(2*(a*b)) / 2*2=Fe (q-r)^(2*(a*b)):=Gd (by decide);clear hC hs hw hw';grind
def HD(p:Up)(n:Nat):Prop:=p.getD n 0≠0/\∀k,n<k->p.getD k 0=0
theorem Rj:∀(p q:Up) (k:Nat),(Rf p q).getD k 0=p.getD k 0+q.getD k 0
 | [],q,k=>by simp only[Rf,Kt];grind
 |a::p,[],k=>by simp only[Rf,Kt];grind
 |a::p,b::q,0=>by simp only[Rf,Zn]
 |a::p,b::q,k+1=>by simp only[Rf,Qz];exact Rj p q k
theorem Tp(c:Rat):∀(p:Up) (k:Nat),(Pv c p).getD k 0=c*p.getD k 0
 | [],k=>by simp only[Pv,Ja,Kt];grind
 |a::p,0=>by simp[Pv]
 |a::p,k+1=>by have:=Tp c p k;simp only[Pv,Z0,Qz]at *;exact this
theorem Qeg{p:Up}{k:Nat}(h:∀x∈p,x=0):p.getD k 0=0:=by
 rw[Qd];cases e:p[k]? with
 |none=>rfl
 |some x=>exact h x (Qa e)
theorem B7{p q:Up}(h:∀t,ev p t=ev q t)(k:Nat):p.getD k 0=q.getD k 0:=by
 have h1:=Qeg (k:=k) (KF (p:=Rf p (Pv (-1) q)) λt _ _=>by rw[Fu,Fq,h t];grind);rw[Rj,Tp]at h1;grind
theorem Do:∀{p:Up},(∀k,p.getD k 0=0)->∀t,ev p t=0
 | [],_,t=>rfl
 |
  a::p,h,t=>by
  have h0:=h 0;have h1:=Do (p:=p) (λk=>by have:=h (k+1);rwa[Qz]at this) t;rw[Zn]at h0;simp only[ev,h0,h1];grind
theorem RL:∀(p:Up),(∀t,ev p t=0)\/∃n,n<p.length/\HD p n
 | []=>.inl λ_=>rfl
 |
  a::p=>by
  rcases RL p with h|⟨n,hn,h1,h2⟩
  ·rcases Classical.em (a=0)with e|e
   ·exact .inl λt=>by simp only[ev,e,h t];grind
   ·refine .inr ⟨0,by simp,by simpa using e,λk hk=>?_⟩;obtain⟨m,rfl⟩:∃m,k=m+1:=⟨k-1,by omega⟩;rw[Qz];exact(B7 (p:=p) (q:=[]) h m).trans (by simp)
  ·refine .inr ⟨n+1,by simp;omega,by rw[Qz];exact h1,λk hk=>?_⟩;obtain⟨m,rfl⟩:∃m,k=m+1:=⟨k-1,by omega⟩;rw[Qz];exact h2 m (by omega)
theorem Qem{p q:Up}{n:Nat}(h:∀t,ev p t=ev q t)(hp:HD p n):HD q n :=
 ⟨by rw[<-B7 h];exact hp.1,λk hk=>by rw[<-B7 h];exact hp.2 k hk⟩
theorem Qnl{p:Up}{n m:Nat}(h:HD p n)(h':HD p m):n=m:=by
 rcases Vw n m with e|e|e
 ·exact absurd (h.2 m e) h'.1
 ·exact e
 ·exact absurd (h'.2 n e) h.1
theorem dV{p:Up}{n:Nat}(h:HD p n):¬∀t,ev p t=0:=λh0=>h.1 ((B7 (p:=p) (q:=[]) h0 n).trans (by simp))
theorem RE{p q:Up}(h:∀k,p.getD k 0=0)(k:Nat):(Gj p q).getD k 0=0:=by
 have:=B7 (p:=Gj p q) (q:=[]) (λt=>by rw[U3,Do h t];simp only[ev];grind) k;rw[this];simp
theorem GH:∀{p q:Up} {m n:Nat},HD p m->HD q n->HD (Gj p q) (m+n)
 | [],q,m,n,h,_=>absurd (by simp) h.1
 |
  a::p,q,0,n,h,h'=>by
  have h1:∀k,p.getD k 0=0:=λk=>by have:=h.2 (k+1) (by omega);rwa[Qz]at this
  have h2:∀k,(Gj (a::p) q).getD k 0=a*q.getD k 0:=λk=>by
   simp only[Gj];rw[Rj,Tp];cases k with
   |zero=>rw[Zn];grind
   |succ k=>rw[Qz,RE h1];grind
  have h3:=h.1;rw[Zn]at h3;refine⟨?_,λk hk=>?_⟩
  ·rw[h2,Zz];exact λh=>(Jn.1 h).elim h3 h'.1
  ·rw[h2,h'.2 k (by omega)];grind
 |
  a::p,q,m+1,n,h,h'=>by
  have ih:=GH (p:=p) (q:=q) (m:=m) ⟨by have:=h.1;rwa[Qz]at this,λk hk=>by have:=h.2 (k+1) (by omega);rwa[Qz]at this⟩ h';refine⟨?_,λk hk=>?_⟩
  ·simp only[Gj];rw[Rj,Tp,show m+1+n=(m+n)+1 by omega,Qz,h'.2 _ (by omega)];have:=ih.1;grind
  ·obtain⟨j,rfl⟩:∃j,k=j+1:=⟨k-1,by omega⟩;simp only[Gj];rw[Rj,Tp,Qz,h'.2 _ (by omega),ih.2 j (by omega)];grind
def Bu(g f:Up):Prop:=∃u,∀t,ev f t=ev g t*ev u t
theorem dvd_refl(f:Up):Bu f f:=⟨[1],λt=>by rw[Rx];grind⟩
theorem dvd_trans{f g h:Up}:Bu f g->Bu g h->Bu f h
 |⟨u,hu⟩,⟨v,hv⟩=>⟨Gj u v,λt=>by rw[hv,hu,U3];grind⟩
theorem wT{p q:Up}(h:∀t,ev p t*ev q t=0)(hp:¬∀t,ev p t=0):∀t,ev q t=0:=by
 rcases RL p with h1|⟨m,_,h1⟩
 ·exact absurd h1 hp
 ·rcases RL q with h2|⟨n,_,h2⟩
  ·exact h2
  ·exact absurd (λt=>by rw[U3];exact h t) (dV (GH h1 h2))
theorem NQ{p q r:Up}(hp:¬∀t,ev p t=0)(h:∀t,ev p t*ev q t=ev p t*ev r t)(t:Rat):ev q t=ev r t:=by
 have:=wT (p:=p) (q:=Rf q (Pv (-1) r)) (λt=>by rw[Fu,Fq];have:=h t;grind) hp t;rw[Fu,Fq]at this;grind
theorem Qdl{b:Up}{n:Nat}(hb:HD b n):∀(l:Nat) (a:Up),(∀k,l<=k->a.getD k 0=0)->∃q r,(∀t,ev a t=ev q t*ev b t+ev r t)/\∀k,n<=k->r.getD k 0=0
 | 0,a,ha=>⟨[],a,λt=>by simp only[ev];grind,λk _=>ha k (Qg _)⟩
 |
  l+1,a,ha=>by
  rcases Q9 l n with h|h
  ·exact⟨[],a,λt=>by simp only[ev];grind,λk hk=>ha k (by omega)⟩
  ·-- the leading term is taken away
   obtain⟨c,hc⟩:=nmE (a.getD l 0 / b.getD n 0);have hcb:c*b.getD n 0=a.getD l 0:=by rw[hc];exact Zh hb.1
   obtain⟨m,hm⟩:∃m:Up,m=List.replicate (l-n) 0++[c]:=⟨_,rfl⟩;have hsh:∀(i:Nat) (k:Nat),(Gj (List.replicate i 0++[c]) b).getD k 0=if i<=k then c*b.getD (k-i) 0 else 0:=λi=>by
    induction i with
    |zero=>intro k;simp only[Wg,Jl,Gj];rw[Rj,Tp];cases k <;> simp <;> grind
    |
     succ i ih =>
     intro k;simp only[Jx,Xf,Gj];rw[Rj,Tp];cases k with
     |zero=>rw[Zn,if_neg (by omega)];grind
     |
      succ k =>
      rw[Qz,ih k];by_cases h:i<=k
      ·rw[if_pos h,if_pos (by omega),Nat.add_sub_add_right];grind
      ·rw[if_neg h,if_neg (by omega)];grind
   obtain⟨q,r,h1,h2⟩:=Qdl hb l (Rf a (Pv (-1) (Gj m b))) λk hk=>by
    rw[Rj,Tp,hm,hsh,if_pos (by omega)];rcases Vm hk with e|e
    ·rw[ha k (by omega),hb.2 _ (by omega)];grind
    ·subst e;rw[show l-(l-n)=n by omega,hcb];grind
   refine⟨Rf q m,r,λt=>?_,h2⟩;have:=h1 t;rw[Fu,Fq,U3]at this;rw[Fu];grind
theorem tL:∀(n:Nat) (a b:Up),(∀k,n<=k->b.getD k 0=0)->∃g U V,Bu g a/\Bu g b/\∀t,ev g t=ev U t*ev a t+ev V t*ev b t
 |
  0,a,b,h=>by
  have h0:=Do λk=>h k (Qg _)
  exact⟨a,[1],[],dvd_refl a,⟨[],λt=>by rw[h0];simp only[ev];grind⟩,λt=>by rw[Rx];simp only[ev];grind⟩
 |
  n+1,a,b,h=>by
  rcases Classical.em (b.getD n 0=0)with e|e
  ·exact tL n a b λk hk=>by
    rcases Vm hk with e'|e'
    ·exact h k (by omega)
    ·rw[<-e'];exact e
  ·obtain⟨q,r,h1,h2⟩:=Qdl (b:=b) (n:=n) ⟨e,λk hk=>h k (by omega)⟩ a.length a λk hk=>by rw[Qd,Qx hk];rfl
   obtain⟨g,U,V,⟨u,hu⟩,⟨v,hv⟩,hg⟩:=tL n b r h2;refine⟨g,V,Rf U (Pv (-1) (Gj V q)),⟨Rf (Gj q u) v,λt=>?_⟩,⟨u,hu⟩,λt=>?_⟩
   ·rw[h1,hv,Fu,U3,hu];grind
   ·rw[hg,Fu,Fq,U3,h1];grind
theorem Qec(a b:Up):∃g U V,Bu g a/\Bu g b/\∀t,ev g t=ev U t*ev a t+ev V t*ev b t :=
 tL b.length a b λk hk=>by rw[Qd,Qx hk];rfl
def Cop(a b:Up):Prop:=∃U V,∀t,ev U t*ev a t+ev V t*ev b t=1
theorem qN{c d e:Up}(h:Cop c d)(h1:∃u,∀t,ev d t*ev e t=ev c t*ev u t):Bu c e:=by
 obtain⟨U,V,h⟩:=h;obtain⟨u,hu⟩:=h1;refine⟨Rf (Gj U e) (Gj V u),λt=>?_⟩;rw[Fu,U3,U3];have a1:=h t;have a2:=hu t;have:ev e t=(ev U t*ev c t+ev V t*ev d t)*ev e t:=by rw[a1];grind
 rw[this];have:(ev U t*ev c t+ev V t*ev d t)*ev e t=ev U t*ev c t*ev e t+ev V t*(ev d t*ev e t):=by grind
 rw[this,a2];grind
def CC(d:Up):Nat->Up
 | 0=>[1]
 |k+1=>Gj d (CC d k)
theorem pM(d:Up)(t:Rat):∀k:Nat,ev d t*dv (CC d k) t=(k:Rat)*(dv d t*ev (CC d k) t)
 | 0=>by simp only[CC,dv,ev];rw[show((0:Nat):Rat)=0 from rfl];grind
 |
  k+1=>by
  have ih:=pM d t k;have hn':(((k+1:Nat):Rat))=(k:Rat)+1:=by push_cast;rfl
  simp only[CC];rw[qI,U3,hn'];grind
theorem Qf7{d:Up}{m:Nat}(h:HD d m):∀k,HD (CC d k) (k*m)
 | 0=>by rw[Yh];exact⟨by simp[CC],λk hk=>by simp only[CC];rw[Qd,Qx (by simp;omega)];rfl⟩
 |k+1=>by rw[Xa,J0 (k*m) m];exact GH h (Qf7 h k)
theorem IC{d g:Up}{m n:Nat}(hd:HD d m)(hg:HD g n)(h:∀k,Bu (CC d k) g):m=0:=by
 obtain⟨u,hu⟩:=h (n+1);rcases RL u with h1|⟨j,_,h1⟩
 ·exact absurd (λt=>by rw[hu,h1];grind) (dV hg)
 ·have:=Qnl (Qem (λt=>by rw[hu,U3]) hg) (GH (Qf7 hd (n+1)) h1);rcases Qy m with e|e
  ·exact e
  ·have:(n+1)*1<=(n+1)*m:=Zd _ e;omega
theorem sqf{a g q d U V:Up}{k:Rat}(hk:k≠0)(ha:∀t,ev a t=ev g t*ev q t)(hg:∀t,k*ev g t=ev U t*ev a t+ev V t*dv a t)(h1:Bu d q)(h2:Bu d (Na q)):∀n,Bu (CC d n) g
 | 0=>⟨g,λt=>by simp only[CC];rw[Rx];grind⟩
 |
  n+1=>by
  obtain⟨g1,e1⟩:=sqf hk ha hg h1 h2 n;obtain⟨q1,e2⟩:=h1;obtain⟨q2,e3⟩:=h2;have d1:=λt=>Aw ha t
  have d2:=λt=>Aw e1 t
  have d3:=λt=>Aw e2 t
  have d4:=pM d;refine⟨Pv (1 / k) (Rf (Gj U (Gj g1 q1)) (Gj V (Rf (Gj g1 q2) (Rf (Pv n (Gj g1 (Rf q2 (Pv (-1) (Na q1))))) (Gj (Na g1) q1))))),λt=>?_⟩;have hkk:1 / k*k=1:=Zh hk;simp only[CC,Fq,Fu,U3,Rl];have b1:=ha t;have b2:=hg t;have b3:=e1 t;have b4:=e2 t;have b5:=e3 t;have b6:=d1 t;have b7:=d2 t;have b8:=d3 t;have b9:=d4 t n;rw[Rl]at b5;generalize ev d t=x0 at *;generalize ev (CC d n) t=x1 at *;generalize ev g t=x2 at *;generalize ev q t=x3 at *;generalize ev a t=x4 at *;generalize dv a t=x5 at *;generalize dv g t=x6 at *;generalize dv q t=x7 at *;generalize ev g1 t=x8 at *;generalize dv g1 t=x9 at *;generalize ev q1 t=y0 at *;generalize dv q1 t=y1 at *;generalize ev q2 t=y2 at *;generalize dv d t=y3 at *;generalize dv (CC d n) t=y4 at *;generalize ev U t=y5 at *;generalize ev V t=y6 at *;generalize (n:Rat)=y7 at *;have:x2=1 / k*(k*x2):=by grind
  rw[this,b2];have c1:x5=x0*x1*(x8*y2+(y7*(x8*(y2+-1*y1))+x9*y0)):=by
   rw[b6,b7,b4,b3];have:y3*y0=x0*y2-x0*y1:=by grind
   have:x0*y4*(x8*y0)=y7*(x1*x8*(x0*y2-x0*y1)):=by rw[b9,<-this];grind
   grind
  have c2:x4=x0*x1*(x8*y0):=by rw[b1,b3,b4];grind
  rw[c1,c2];grind
theorem Qjf{a b c:Up}(h1:Cop a b)(h2:Cop a c){d:Up}(hd:∀t,ev d t=ev b t*ev c t):Cop a d:=by
 obtain⟨U,V,h1⟩:=h1;obtain⟨X,Y,h2⟩:=h2;refine⟨Rf U (Gj (Gj V b) X),Gj V Y,λt=>?_⟩;have a1:=h1 t;have a2:=h2 t;simp only[Fu,U3,hd];have:ev V t*ev b t*(ev X t*ev a t+ev Y t*ev c t)=ev V t*ev b t:=by rw[a2];grind
 grind
theorem Ql3{a g q z r X Y:Up}{n:Nat}(ha:∀t,ev a t=ev g t*ev q t)(hz:∀t,dv a t=ev g t*ev z t)(hg:HD g n)(hr:∀t,ev X t*ev r t+ev Y t*dv r t=1)(h:Bu r a):Bu r q:=by
 obtain⟨b,hb⟩:=h;obtain⟨e,U,V,⟨r1,e1⟩,⟨q3,e2⟩,e3⟩:=Qec r q;have hr0:¬∀t,ev r t=0:=λh=>by
  have h1:=hr 0;have h2:dv r 0=0:=by have:=Qdq (p:=r) (q:=[]) h 0;rw[this];rfl
  rw[h,h2]at h1;grind
 have he0:¬∀t,ev e t=0:=λh=>hr0 λt=>by rw[e1,h];grind
 have d1:=λt=>Aw e1 t
 have c1:Cop r1 q3:=⟨U,V,λt=>by
  have:=NQ (p:=e) (q:=Rf (Gj U r1) (Gj V q3)) (r:=[1]) he0 (λt=>by
   rw[Fu,U3,U3,Rx];have a1:=e1 t;have a2:=e2 t;have a3:=e3 t;rw[a1,a2]at a3;grind) t
  rw[Fu,U3,U3,Rx]at this;exact this⟩
 have c2:Cop r1 e:=⟨Rf (Gj X e) (Gj Y (Na e)),Gj Y (Na r1),λt=>by
  have a1:=hr t;have a2:=e1 t;have a3:=d1 t;simp only[Fu,U3,Rl];rw[a2,a3]at a1;grind⟩
 have c3:Cop r1 (Na r1):=⟨Rf (Gj X e) (Gj Y (Na e)),Gj Y e,λt=>by
  have a1:=hr t;have a2:=e1 t;have a3:=d1 t;simp only[Fu,U3,Rl];rw[a2,a3]at a1;grind⟩
 have c4:Cop r1 q:=Qjf c2 c1 e2;have hgz:=dV hg;have hp:∀k,Bu (CC r1 k) g:=λk=>by
  induction k with
  |zero=>exact⟨g,λt=>by simp only[CC];rw[Rx];grind⟩
  |
   succ k ih =>
   obtain⟨h,eh⟩:=ih;have hpz:¬∀t,ev (CC r1 k) t=0:=λh0=>hgz λt=>by rw[eh,h0];grind
   have key:Bu r1 h:=by
    cases k with
    |
     zero =>
     refine qN c4 ⟨Gj e b,λt=>?_⟩;have a1:=ha t;have a2:=hb t;have a3:=e1 t;have a4:=eh t;simp only[CC]at a4;rw[Rx]at a4;rw[U3];grind
    |
     succ k =>
     have hn:((k+1:Nat):Rat)≠0:=by
      have:(0:Rat)<((k+1:Nat):Rat):=by
       have h1:((0:Nat):Rat)<((k+1:Nat):Rat):=Vq.2 (by omega);simpa using h1
      grind
     have d2:=λt=>Aw (f:=a) (w:=CC r1 (k+1)) (u:=Gj h q) (λt=>by rw[ha,eh,U3];grind) t
     have d4:=pM r1;have h3:=NQ (p:=CC r1 (k+1)) (q:=Gj (Na r1) (Gj h q)) (r:=Gj r1 (Pv (1 / ((k+1:Nat):Rat)) (Rf (Gj h z) (Pv (-1) (Na (Gj h q)))))) hpz λt=>by
      simp only[U3,Fq,Fu,Rl];have a1:=d2 t;have a2:=d4 t (k+1);have a3:=hz t;have a4:=eh t;rw[U3]at a1;generalize ((k+1:Nat):Rat)=c at *;have hc:1 / c*c=1:=Zh hn;generalize ev (CC r1 (k+1)) t=x0 at *;generalize dv (CC r1 (k+1)) t=x1 at *;generalize dv (Gj h q) t=x2 at *;generalize ev r1 t=x3 at *;generalize dv r1 t=x4 at *;generalize ev h t=x5 at *;generalize ev q t=x6 at *;generalize ev z t=x7 at *;generalize dv a t=x8 at *;generalize ev g t=x9 at *;generalize 1 / c=c' at *;have s1:x0*(x4*(x5*x6))=c'*(c*(x4*x0))*(x5*x6):=by
       have:c'*(c*(x4*x0))=(c'*c)*(x4*x0):=by grind
       rw[this,hc];grind
      rw[s1,<-a2];have s2:x3*(x1*(x5*x6))=x3*(x0*(x5*x7+-1*x2)):=by
       rw[a3,a4]at a1;grind
      grind
     refine qN c4 ?_;obtain⟨u,hu⟩:=qN (e:=Gj q h) c3 ⟨Pv (1 / ((k+1:Nat):Rat)) (Rf (Gj h z) (Pv (-1) (Na (Gj h q)))),λt=>by
      have:=h3 t;simp only[U3]at this ⊢;rw[<-this];grind⟩
     exact⟨u,λt=>by rw[<-hu,U3]⟩
   obtain⟨u,hu⟩:=key;exact⟨u,λt=>by simp only[CC];rw[U3,eh,hu];grind⟩
 rcases RL r1 with h1|⟨m,_,h1⟩
 ·exact absurd (λt=>by rw[e1,h1];grind) hr0
 ·obtain rfl:=IC h1 hg hp;have h2:∀t,ev r1 t=r1.getD 0 0:=λt=>by
   cases r1 with
   |nil=>simp[ev]
   |
    cons c l =>
    have:∀t,ev l t=0:=Do λk=>by have:=h1.2 (k+1) (by omega);rwa[Qz]at this
    simp only[ev,this,Zn];grind
  have h3:=h1.1;refine⟨Pv (1 / r1.getD 0 0) q3,λt=>?_⟩;rw[e2,e1,h2,Fq];have:1 / r1.getD 0 0*r1.getD 0 0=1:=Zh h3;have:ev e t*r1.getD 0 0*(1 / r1.getD 0 0*ev q3 t)=ev e t*ev q3 t*(1 / r1.getD 0 0*r1.getD 0 0):=by grind
  rw[this,Zh h3];grind
def Ix:Uq->Up
 | []=>[1]
 |w::l=>Gj w (Ix l)
def Lay:Uq->Uq->Prop
 | [],[]=>True
 | [w],[f]=>∀t,ev w t=ev f t
 |w::v::l,f::fs=>(∀t,ev w t=ev f t*ev v t)/\Lay (v::l) fs
 |_,_=>False
def SV:Uq->Up
 | []=>[1]
 | [f]=>f
 |f::_::l=>Gj f (SV l)
theorem dN:∀{ws fs:Uq},Lay ws fs->∃S,∀t,ev (Ix ws) t=ev (SV fs) t*(ev S t*ev S t)
 | [],[],_=>⟨[1],λt=>by simp only[Ix,SV];rw[Rx];grind⟩
 | [w],[f],h=>⟨[1],λt=>by simp only[Ix,SV];rw[U3,Rx,h t];grind⟩
 |
  [w,v],[f,f2],h=>⟨v,λt=>by
  have h1:=h.1 t;have h2:ev v t=ev f2 t:=h.2 t;simp only[Ix,SV,U3];rw[Rx,h1];grind⟩
 |
  w::v::x::l,f::f2::fs,h=>by
  obtain⟨S,hS⟩:=dN h.2.2;refine⟨Gj v S,λt=>?_⟩;have h1:=h.1 t;have h2:=hS t;have e1:ev (Ix (w::v::x::l)) t=ev w t*(ev v t*ev (Ix (x::l)) t):=by simp only[Ix,U3]
  rw[e1,h2,h1];have e2:ev (SV (f::f2::fs)) t=ev f t*ev (SV fs) t:=by
   cases fs with
   |nil=>cases l <;> exact False.elim h.2.2
   |cons y l=>simp only[SV,U3]
  rw[e2,U3];grind
 | [w],[],h=>h.elim
 | [w],_::_::_,h=>h.elim
 | [],_::_,h=>h.elim
 | [w,v],[f],h=>h.2.elim
 | [w,v],_::_::_::_,h=>h.2.elim
 |w::v::x::l,[f],h=>h.2.elim
 |w::v::l,[],h=>h.elim
end Orq
namespace Orr
structure Crv where
 x:List Int
 y:List Int
 d:Int
abbrev cl(k:Crv):Ur:=[pl k.x,pl k.y,sg k.d,mg k.d]
def Crv.d'(k:Crv):Int:=if k.d=0 then 1 else k.d
def Crv.g(k:Crv):Int:=if k.d'<0 then -((Hx (k.d'::(trim k.x++trim k.y)):Nat):Int)else(Hx (k.d'::(trim k.x++trim k.y)):Nat)
def Crv.norm(k:Crv):Crv:=⟨trim ((trim k.x).map (· / k.g)),trim ((trim k.y).map (· / k.g)),k.d' / k.g⟩
theorem ZR{l:Um}:∀z∈l,((Hx l:Nat):Int)∣z:=by
 have key:∀(l:Um) (g:Nat),(l.foldl (λg z=>Nat.gcd g z.natAbs) g∣g)/\∀z∈l,l.foldl (λg z=>Nat.gcd g z.natAbs) g∣z.natAbs:=by
  intro l
  induction l with
  |nil=>intro g;exact⟨Nat.dvd_refl _,by simp⟩
  |
   cons u l ih =>
   intro g;obtain⟨h1,h2⟩:=ih (Nat.gcd g u.natAbs);refine⟨Nat.dvd_trans h1 (Kw _ _),λz hz=>?_⟩;rcases Qt.1 hz with rfl|hz
   ·exact Nat.dvd_trans h1 (Wv _ _)
   ·exact h2 z hz
 intro z hz;have:=(key l 0).2 z hz;exact Wo.2 this
theorem Crv.d'_ne(k:Crv):k.d'≠0:=by unfold Crv.d';split <;> omega
theorem Crv.gcd_ne(k:Crv):Hx (k.d'::(trim k.x++trim k.y))≠0:=by
 intro e;have h:=ZR (l:=k.d'::(trim k.x++trim k.y)) k.d' (Q0 ..);rw[e]at h;exact k.d'_ne (by simpa using h)
theorem Crv.g_ne(k:Crv):k.g≠0:=by
 have h0:=k.gcd_ne;unfold Crv.g
 split <;> omega
theorem Crv.g_dvd(k:Crv):∀z∈k.d'::(trim k.x++trim k.y),z % k.g=0:=by
 intro z hz;have h:=ZR z hz;refine J7 ?_;unfold Crv.g
 split
 ·exact W9.2 h
 ·exact h
theorem Crv.isz_g(k:Crv){s:Nat}(h:Ff k.d'<=s):Ff k.g<=s:=by
 have hd:=ZR (l:=k.d'::(trim k.x++trim k.y)) k.d' (Q0 ..);have hle:Hx (k.d'::(trim k.x++trim k.y))<=k.d'.natAbs:=Ka (by have:=k.d'_ne;omega) (Wo.1 hd);refine Qc (Te ?_) h;unfold Crv.g
 split <;> simp <;> exact hle
structure Cs(s n:Nat)(k:Crv):Prop where
 x:Bd s k.x
 y:Bd s k.y
 d:Ff k.d<=s
 lx:k.x.length<=n
 ly:k.y.length<=n
theorem zS{k:Crv}{s:Nat}(h:Ff k.d<=s)(h1:1<=s):Ff k.d'<=s:=by unfold Crv.d';split <;> first|exact h1|exact h
theorem FW{s:Nat}{p:Um}(h:Bd s p)(g:Int):Bd s (p.map (· / g)):=λz hz=>by
 obtain⟨u,hu,rfl⟩:=Zw.1 hz;exact Qc (ZL u g) (h u hu)
theorem Cs.norm{s n:Nat}{k:Crv}(h:Cs s n k)(h1:1<=s):Cs s n k.norm:=by
 refine⟨Si (FW (Si h.x) _),Si (FW (Si h.y) _),Qc (ZL _ _) (zS h.d h1),?_,?_⟩
 ·refine Qc (Ri _) ?_;rw[Q8];exact Qc (Ri _) h.lx
 ·refine Qc (Ri _) ?_;rw[Q8];exact Qc (Ri _) h.ly
theorem Cs.mono{s n t m:Nat}{k:Crv}(h:Cs s n k)(hs:s<=t)(hn:n<=m):Cs t m k:=⟨Uv h.x hs,Uv h.y hs,Qc h.d hs,Qc h.lx hn,Qc h.ly hn⟩
def gZ(k:Crv):Prop:=Uz k.x/\Uz k.y/\0<k.d/\Hx (k.d::(k.x++k.y))=1
theorem zY{l:Um}{g:Int}(hg:g≠0)(hga:g.natAbs=Hx l):Hx (l.map (· / g))=1:=by
 have key:∀(l:Um) (a:Nat),(∀z∈l,g∣z)->l.foldl (λa z=>Nat.gcd a z.natAbs) (a*g.natAbs)=((l.map (· / g)).foldl (λa z=>Nat.gcd a z.natAbs) a)*g.natAbs:=by
  intro l
  induction l with
  |nil=>intro a _;rfl
  |
   cons z l ih =>
   intro a h;simp only[Z0,Xl];have hz:z.natAbs=(z / g).natAbs*g.natAbs:=by
    obtain⟨q,rfl⟩:=h z (Q0 ..);rw[Xp _ hg,J5,Zg]
   rw[hz,Nat.gcd_mul_right];exact ih _ λu hu=>h u (Qp _ hu)
 have h:=key l 0 λz hz=>Xn.1 (by rw[hga];exact Xn.2 (ZR z hz))
 rw[Yh]at h;have h':Hx l=Hx (l.map (· / g))*g.natAbs:=h;rw[<-hga]at h';have hp:0<g.natAbs:=by omega
 exact Nat.eq_of_mul_eq_mul_right hp (by rw[Ub];exact h'.symm)
theorem E7{l:Um}{g:Int}(ht:Uz l)(hg:g≠0)(hd:∀z∈l,g∣z):Uz (l.map (· / g)):=by
 induction l with
 |nil=>rfl
 |
  cons x l ih =>
  have hne:∀z∈x::l,z≠0->z / g≠0:=λz hz h0 h1=>by
   obtain⟨q,rfl⟩:=hd z hz;rw[Xp _ hg]at h1;rw[h1]at h0;simp at h0
  unfold Uz at ht ih ⊢;cases hl:trim l with
  |
   nil =>
   simp only[trim,hl]at ht
   split at ht
   ·cases ht
   ·rename_i hx;injection ht with _ h2;subst h2;simp[trim,hne x (Q0 ..) hx]
  |
   cons y k =>
   simp only[trim,hl]at ht;injection ht with _ h2;have hll:trim l=l:=by rw[hl];exact h2
   have ih:=ih hll λz hz=>hd z (Qp _ hz)
   rw[Z0];have hne2:l.map (· / g)≠[]:=by rw[<-hll,hl];simp
   cases hm:l.map (· / g)with
   |nil=>exact absurd hm hne2
   |
    cons u w =>
    rw[hm]at ih;have e:trim (x / g::u::w)=match trim (u::w)with| []=>if x / g=0 then []else [x / g]|y::k=>x / g::y::k:=rfl
    rw[e,ih]
theorem Crv.nml(k:Crv):gZ k.norm:=by
 have hg:=k.g_ne;have hdv:∀z∈k.d'::(trim k.x++trim k.y),k.g∣z:=λz hz=>Yu (k.g_dvd z hz)
 have hx:=E7 (g:=k.g) (Hj k.x) hg λz hz=>hdv z (by simp[hz])
 have hy:=E7 (g:=k.g) (Hj k.y) hg λz hz=>hdv z (by simp[hz])
 refine⟨Hj _,Hj _,?_,?_⟩
 ·show 0<k.d' / k.g;obtain⟨q,hq⟩:=hdv k.d' (Q0 ..);have h0:=k.d'_ne;have hgc:=k.gcd_ne;have e:k.d' / k.g=q:=by rw[hq,Xp _ hg]
  rw[e];unfold Crv.g at hq hg;have hq0:q≠0:=λe=>by rw[e,Vz]at hq;exact h0 hq
  split at hq
  ·rename_i hneg;rcases Wn hq0 with h|h
   ·have:=Kc (a:=-((Hx (k.d'::(trim k.x++trim k.y)):Nat):Int)) (b:=q) (by omega) h;omega
   ·exact h
  ·rename_i hneg;rcases Wn hq0 with h|h
   ·have:=Y9 (a:=((Hx (k.d'::(trim k.x++trim k.y)):Nat):Int)) (b:=q) (by omega) h;omega
   ·exact h
 ·show Hx (k.d' / k.g::(trim ((trim k.x).map (· / k.g))++trim ((trim k.y).map (· / k.g))))=1;rw[show trim ((trim k.x).map (· / k.g))=(trim k.x).map (· / k.g) from hx,show trim ((trim k.y).map (· / k.g))=(trim k.y).map (· / k.g) from hy,<-Xm,<-Z0 (f:=(· / k.g))];refine zY hg ?_;unfold Crv.g
  split <;> omega
structure Pt where
 c:Crv
 id:Int
def Sa(p:Pt):Ur:=[pl p.c.x,pl p.c.y,sg p.c.d,mg p.c.d,.int .i64 p.id]
def pts(l:List Pt):LV:=.row (l.map Sa)
def pos:List Pt->Int->Nat
 | [],_=>0
 |p::l,id=>if p.id<id then pos l id+1 else 0
def has(l:List Pt)(id:Int):Bool:=match l[pos l id]? with
 |some p=>decide (p.id=id)
 |none=>false
def put(l:List Pt)(q:Pt):List Pt:=l.take (pos l q.id)++q::l.drop (pos l q.id)
def Qn2(s n:Nat)(p:Pt):Prop:=gZ p.c/\Cs s n p.c
def WQ(a b:Crv):Bool:=decide (a.x=b.x/\a.y=b.y/\a.d=b.d)
def Qth(out:List Pt)(p:Pt):List Pt:=if out.any (λq=>WQ p.c q.c)=true then out else out++[p]
def Qqz(l:List Pt):List Pt:=l.foldl Qth []
theorem No{α β:Type}(f:β->α->β)(b:β)(l:List α){i:Nat}{x:α}(h:l[i]? = some x):(l.take (i+1)).foldl f b=f ((l.take i).foldl f b) x:=by
 rw[Xv,h];simp[Ko]
def IsPt(s n:Nat)(z:Ur)(q:Pt):Prop:=∃lx ly b l px py d,z=[.row lx,.row ly,.bool b,Qqu l,.int .i64 q.id]/\IsInts lx px/\IsInts ly py/\S7 (.bool b) (Qqu l) d/\Cs s n ⟨px,py,d⟩/\q.c=Crv.norm ⟨px,py,d⟩
def IsPts(s n:Nat):Us->List Pt->Prop
 | [],[]=>True
 |z::zs,q::qs=>IsPt s n z q/\IsPts s n zs qs
 |_,_=>False
theorem IsPts.len{s n:Nat}:∀{zs:Us} {qs:List Pt},IsPts s n zs qs->zs.length=qs.length
 | [],[],_=>rfl
 |_::_,_::_,h=>by simp[h.2.len]
 | [],_::_,h=>h.elim
 |_::_,[],h=>h.elim
theorem IsPts.get{s n:Nat}:∀{zs:Us} {qs:List Pt},IsPts s n zs qs->∀{i:Nat} {q:Pt},qs[i]? = some q->∃z,zs[i]? = some z/\IsPt s n z q
 | [],[],_,i,q,h=>by simp at h
 |z::zs,q::qs,h,0,r,hr=>by simp at hr;subst hr;exact⟨z,rfl,h.1⟩
 |z::zs,q::qs,h,i+1,r,hr=>by simpa using h.2.get (i:=i) (by simpa using hr)
 | [],_::_,h,_,_,_=>h.elim
 |_::_,[],h,_,_,_=>h.elim
theorem IsPt.ok{s n:Nat}{z:Ur}{q:Pt}(h:IsPt s n z q)(h1:1<=s):Qn2 s n q:=by
 obtain⟨lx,ly,b,l,px,py,d,_,_,_,_,hc,e⟩:=h;unfold Qn2;rw[e];exact⟨Crv.nml _,hc.norm h1⟩
def Fy(p:Um)(q:Rat):Int:=Dz (Qlb p q.num q.den) 0
def Tf(sgn:Um->Int):Nat->Um->Int
 | 0,_=>0
 |k+1,p=>if p.length=0 then 0 else if sgn p=0 then Tf sgn k (Fv p)else sgn p
theorem ZT(sgn:Um->Int):∀(k:Nat) (p:Um),p.length<=k->Tf sgn k p=Tf sgn p.length p
 |
  0,p,h=>by
  have:p.length=0:=by omega
  rw[this]
 |
  k+1,p,h=>by
  cases hp:p.length with
  |zero=>simp[Tf,hp]
  |
   succ m =>
   simp only[Tf];have h1:=Tq p;rw[ZT sgn k (Fv p) (by omega),ZT sgn m (Fv p) (by omega)]
theorem ZM(sgn:Um->Int){p:Um}(h:p.length=0):Tf sgn p.length p=0:=by rw[h];rfl
theorem ZS(sgn:Um->Int){p:Um}(h:0<p.length)(hs:sgn p≠0):Tf sgn p.length p=sgn p:=by
 obtain⟨m,hm⟩:∃m,p.length=m+1:=⟨p.length-1,by omega⟩;rw[hm];simp only[Tf];rw[if_neg (by omega),if_neg hs]
theorem ZP(sgn:Um->Int){p:Um}(h:0<p.length)(hs:sgn p=0):Tf sgn p.length p=Tf sgn (Fv p).length (Fv p):=by
 obtain⟨m,hm⟩:∃m,p.length=m+1:=⟨p.length-1,by omega⟩;rw[hm];simp only[Tf];rw[if_neg (by omega),if_pos hs];exact ZT sgn m _ (by have:=Tq p;omega)
structure Tm where
 p:List Int
 lo:Rat
 hi:Rat
abbrev ta(t:Tm):Ur:=pl t.p::(rl t.lo++rl t.hi)
abbrev tq(q:Rat):Tm:=⟨[-q.num,(q.den:Int)],q,q⟩
def Gl(sg:Um->Int)(p:Um):Int:=Tf sg p.length p
def tO(p:Um)(q:Rat):Int:=Gl (λp=>Fy p q) p
structure Pb(p:List Int):Prop where
 t:Uz p
 l:p.length<=64
 b:Bd 16777216 p
abbrev Qb(q:Rat):Prop:=Qs 16777216 q
abbrev Cb(k:Crv):Prop:=Cs 1048576 16 k
def Gu(a b:Crv):Um:=Su (Fc b.x a.d) (Fc a.x b.d)
def Gt(a b:Crv):Um:=Su (Fc b.y a.d) (Fc a.y b.d)
def XR(sg:Um->Int)(a b:Pt):Un->Bool
 | []=>decide (a.id<b.id)
 |p::l=>if 0<p.length then decide (0<Gl sg p)else XR sg a b l
def EY(sg:Um->Int)(a b:Pt):Bool:=XR sg a b [Gt b.c a.c,Gu b.c a.c]
def Sl(sg:Um->Int)(a b:Pt):Bool:=XR sg a b [Gu a.c b.c,Gt a.c b.c]
end Orr
namespace Orr
open Go
structure Ct where
 kind:Int
 i0:Int
 i1:Int
 i2:Int
 i3:Int
 p:List Int
 want:Int
abbrev Qff(c:Ct):Ur:=[.int .i64 c.kind,.int .i64 c.i0,.int .i64 c.i1,.int .i64 c.i2,.int .i64 c.i3,pl c.p,.int .i64 c.want]
def qO(p q:Um):Um:=if 0<p.length then p else q
def Cv:Um->Um->Bool
 |x::l,y::m=>if x=y then Cv l m else decide (x<y)
 |_,_=>false
def Tr(a b:Ct):Bool:=Cv [a.kind,a.i0,a.i1,a.i2,a.i3] [b.kind,b.i0,b.i1,b.i2,b.i3]
def pK(out:List Ct)(c:Ct):Nat->Nat
 | 0=>0
 |
  k+1=>match out[k]? with
  |some x=>if Tr c x=true then pK out c k else k+1
  |none=>k+1
theorem lT(out:List Ct)(c:Ct):∀k,pK out c k<=k
 | 0=>Qj _
 |
  k+1=>by
  simp only[pK]
  split
  ·split
   ·exact Nat.le_succ_of_le (lT out c k)
   ·exact Qj _
  ·exact Qj _
def BH(out:List Ct)(c:Ct):List Ct:=out.take (pK out c out.length)++c::out.drop (pK out c out.length)
theorem Qeq(out:List Ct)(c:Ct):(BH out c).length=out.length+1:=by
 have:=lT out c out.length;simp[BH];omega
theorem Qer{out:List Ct}{c x:Ct}(h:x∈BH out c):x=c\/x∈out:=by
 simp only[BH,Qr,Qt]at h;rcases h with h|h|h
 ·exact .inr (Ql h)
 ·exact .inl h
 ·exact .inr (Q5 h)
def TD(l:List Ct):List Ct:=l.foldl BH []
theorem AH:∀(l acc:List Ct),(l.foldl BH acc).length=acc.length+l.length
 | [],acc=>by simp
 |c::l,acc=>by simp only[Xl];rw[AH l (BH acc c),Qeq];simp;omega
theorem Qal(l:List Ct):(TD l).length=l.length:=by unfold TD;rw[AH];simp
theorem AS:∀(l acc:List Ct) {x:Ct},x∈l.foldl BH acc->x∈l\/x∈acc
 | [],acc,x,h=>.inr h
 |
  c::l,acc,x,h=>by
  simp only[Xl]at h;rcases AS l _ h with h|h
  ·exact .inl (Qp _ h)
  ·rcases Qer h with rfl|h
   ·exact .inl (Q0 ..)
   ·exact .inr h
theorem Qam{l:List Ct}{x:Ct}(h:x∈TD l):x∈l:=by
 rcases AS l [] h with h|h
 ·exact h
 ·cases h
theorem Qeu{α:Type}(l:List α)(z x:α){k m':Nat}(hk:k<=l.length)(hm:m'=l.length-k) :
 ((l++[z]).take (k+1)++((l++[z]).drop k).take m'++(l++[z]).drop (k+1+m')).set k x=l.take k++x::l.drop k:=by
 subst hm;have e1:((l++[z]).drop k).take (l.length-k)=l.drop k:=by
  rw[Vr hk,Vs (by simp),Qn (by simp)]
 have e2:(l++[z]).drop (k+1+(l.length-k))=[]:=Ye (by simp;omega);rw[e1,e2,Xi];have e3:(l++[z]).take (k+1)=(l++[z]).take k++[(l++[z])[k]'(by simp;omega)]:=by rw[List.take_succ_eq_append_getElem]
 rw[e3,Vs hk,Zk,List.set_append,if_neg (by simp;omega)];simp[Zx hk]
def CV(a b:Pt):Um:=qO (Gu a.c b.c) (Gt a.c b.c)
def BE(a b:Pt):Um:=qO (Gt b.c a.c) (Gu b.c a.c)
def Al(sg:Um->Int)(a b:Pt):Ct:={ kind:=1,i0:=a.id,i1:=b.id,i2:=0,i3:=0,p:=CV a b,want:=Gl sg (CV a b) }
def Lk(sg:Um->Int)(a b:Pt):Ct:={ kind:=2,i0:=a.id,i1:=b.id,i2:=0,i3:=0,p:=BE a b,want:=Gl sg (BE a b) }
end Orr
namespace Orr
open Go Go.Proofs Tryz
set_option maxRecDepth 10000
abbrev pr(p:Um):TV:=.one (pl p)
theorem Ma{p:Um}{i:Nat}{z:Int}(h:p[i]? = some z):(p.map H9)[i]? = some (H9 z):=He h
theorem MB(p:Um):Uj 332 [pr p] [pr (trim p)]:=by
 refine Hz func332 rfl (ln 0 rfl rfl λhl=>?_);rw[Q8]at hl;refine Ud [] rfl ?_;refine lp (S:=Nat) 0 (λL1 n=>(3,.v (.oi n))::L1) (λ_=>[]) id (λn=>n<=p.length/\∀j x,n<=j->p[j]? = some x->x=0) (p.map H9).length ⟨by simp,λj x h1 h2=>by
  have:=(Qf.1 h2).1;simp at h1;omega⟩ rfl (λ_ _=>rfl) rfl λn ⟨h1,h2⟩=>?_
 cases n with
 |zero=>exact Uf [.f (by simp),.f rfl,.i 0] rfl (by rw[fG h1 h2 (λh=>by omega)];simp[pl]) (by simp[Uw])
 |
  succ n =>
  obtain⟨x,hx⟩:=gxE (l:=p) (i:=n) (by omega);by_cases h0:x=0
  ·refine Ue [.t (by simp),.r 11 (v:=.oi n) (by simp),.x (Ma hx),.k ZQ,.t (by simp[h0]),.r 17 (v:=.oi n) (by simp)] rfl ?_;exact rd n (by simp) ⟨by omega,λj y h3 h4=>by
    rcases Vl h3 with rfl|h3
    ·rw[hx]at h4;injection h4 with h4;rw[<-h4,h0]
    ·exact h2 j y h3 h4⟩ rfl
  ·exact Uf [.t (by simp),.r 11 (v:=.oi n) (by simp),.x (Ma hx),.k ZQ,.f (by simp[h0]),.i (n+1)] rfl (by rw[fG h1 h2 (λ_=>⟨x,hx,h0⟩)];simp[pl,V8]) (by simp[Uw] <;> omega)
theorem bZ(p:Um)(k:Nat):Uj 304 [pr p,.oi k] [.agg (H9 (p.getD k 0))]:=by
 by_cases h:k<p.length
 ·have hx:=Qe h;have e:p.getD k 0=p[k]:=by simp[List.getD,hx]
  rw[e];exact Ug func304 rfl [.t (by simp;omega),.x (Ma hx)] rfl
 ·have e:p.getD k 0=0:=by simp[List.getD,Qx (Yj h)]
  rw[e,Er];exact Ug func304 rfl [.f (by simp;omega)] rfl
def AX(f:Nat->Ur)(z:Ur)(n k:Nat):Us:=(List.range n).map λi=>if i<k then f i else z
theorem JW(f:Nat->Ur)(z:Ur)(n k:Nat):(AX f z n k).length=n:=by simp[AX]
theorem Il(f:Nat->Ur)(z:Ur)(n:Nat):List.replicate n z=AX f z n 0:=by
 refine Xu λi=>?_
 simp only[AX,J9,Ze];by_cases h:i<n
 ·simp[h]
 ·simp[h]
theorem JK(f:Nat->Ur)(z:Ur)(n:Nat):AX f z n n=(List.range n).map f:=by
 refine We λi hi=>?_
 rw[if_pos (Km.1 hi)]
theorem JU(f:Nat->Ur)(z:Ur){n k:Nat}(h:k<n):(AX f z n k).set k (f k)=AX f z n (k+1):=by
 refine Xu λi=>?_
 rw[Ji];simp only[AX,Ze,Q8,List.length_range,h,if_true];by_cases e:k=i
 ·subst e;simp[h]
 ·simp only[e,if_false];by_cases hi:i<n
  ·simp only[Jb hi,Yb];congr 1;by_cases h2:i<k
   ·rw[if_pos h2,if_pos (by omega)]
   ·rw[if_neg h2,if_neg (by omega)]
  ·simp[Qx,hi]
theorem qU{n fid:Nat}{l1 l2:Ur}{g:Nat->Int}(hn:n<274877906944)(h:∀k,k<n->OA prog fid [.oi k,.one (.sh l1),.one (.sh l2)] [.agg (H9 (g k))]):Uj 301 [.oi n,.one (.fn fid [] [.sh l1,.sh l2])] [pr (Mt n g)]:=by
 refine Hz func301 rfl ?_;refine Ue [.i n,.i n,.r 10 (eI (b:=(n:Int)) (by simp))] rfl ?_;rw[Il λk=>H9 (g k)];refine Ui (S:=Nat) 1 (λL1 k=>(11,.v (.oi k))::L1) (λk=>[.row false 55 2 (AX (λk=>H9 (g k)) [.bool false,.nils] n k)]) (λk=>n-k) (λk=>k<=n) 0 (Qg _) rfl rfl λk hk=>?_
 by_cases hlt:k<n
 ·refine go tt [.t (by simp;omega),.k (h k hlt),.i k] rfl (by simp[Uw,JW];omega) ?_;have e:=JU (λk=>H9 (g k)) [.bool false,.nils] hlt;rw[e];exact rd (k+1) (by omega) hlt rfl
 ·obtain rfl:k=n:=by omega
  have e:AX (λk=>H9 (g k)) [.bool false,.nils] k k=((List.range k).map g).map H9:=by rw[JK];simp
  rw[e];exact Uf [.f (by simp),.k (MB _)] rfl
theorem nE{n fid:Nat}{l1:Ur}{g:Nat->Int}(hn:n<274877906944)(h:∀k,k<n->OA prog fid [.oi k,.one (.sh l1)] [.agg (H9 (g k))]):Uj 301 [.oi n,.one (.fn fid [] [.sh l1])] [pr (Mt n g)]:=by
 refine Hz func301 rfl ?_;refine Ue [.i n,.i n,.r 10 (eI (b:=(n:Int)) (by simp))] rfl ?_;rw[Il λk=>H9 (g k)];refine Ui (S:=Nat) 1 (λL1 k=>(11,.v (.oi k))::L1) (λk=>[.row false 55 2 (AX (λk=>H9 (g k)) [.bool false,.nils] n k)]) (λk=>n-k) (λk=>k<=n) 0 (Qg _) rfl rfl λk hk=>?_
 by_cases hlt:k<n
 ·refine go tt [.t (by simp;omega),.k (h k hlt),.i k] rfl (by simp[Uw,JW];omega) ?_;have e:=JU (λk=>H9 (g k)) [.bool false,.nils] hlt;rw[e];exact rd (k+1) (by omega) hlt rfl
 ·obtain rfl:k=n:=by omega
  have e:AX (λk=>H9 (g k)) [.bool false,.nils] k k=((List.range k).map g).map H9:=by rw[JK];simp
  rw[e];exact Uf [.f (by simp),.k (MB _)] rfl
theorem Qoc{p q:Um}(k:Nat)(hp:Bd 4294967295 p)(hq:Bd 4294967295 q):Uj 357 [.oi k,.one (.sh [pl p]),.one (.sh [pl q])] [.agg (H9 (p.getD k 0+q.getD k 0))] :=
 Ug func357 rfl [.k (bZ p k),.k (bZ q k),.k (MS (Fa _) (Fa _) (Fh hp k) (Fh hq k))] rfl
theorem Qol{p q:Um}(k:Nat)(hp:Bd 4294967295 p)(hq:Bd 4294967295 q):Uj 302 [.oi k,.one (.sh [pl p]),.one (.sh [pl q])] [.agg (H9 (p.getD k 0-q.getD k 0))] :=
 Ug func302 rfl [.k (bZ p k),.k (bZ q k),.k (Qom (Fa _) (Fa _) (Fh hp k) (Fh hq k))] rfl
theorem Rz{p:Um}{k:Nat}(h:k<p.length):p[k]? = some (p.getD k 0):=by simp[List.getD,Qe h]
theorem Qbz{p:Um}{c:Int}{k:Nat}(hk:k<p.length)(hp:Bd 4294967295 p)(hc:Ff c<=4294967295):Uj 305 [.oi k,.one (.sh [pl p]),.one (.sh (H9 c))] [.agg (H9 (p.getD k 0*c))] :=
 Ug func305 rfl [.x (Ma (Rz hk)),.k (Ea (Fa _) (Fa _) (Fh hp k) hc)] rfl
theorem Qoi{p:Um}{k:Nat}(hk:k<p.length)(hp:Bd 4294967295 p):Uj 396 [.oi k,.one (.sh [pl p])] [.agg (H9 (-(p.getD k 0)))] :=
 Ug func396 rfl [.x (Ma (Rz hk)),.k (vQ (Fa _) (Fh hp k))] rfl
theorem aW{p:Um}{k:Nat}(hk:k+1<p.length)(hl:p.length<274877906944)(hp:Bd 4294967295 p):Uj 359 [.oi k,.one (.sh [pl p])] [.agg (H9 (p.getD (k+1) 0*((k+1:Nat):Int)))] :=
 Ug func359 rfl [.x (Ma (Rz hk)),.r 10 (eI (b:=((k+1:Nat):Int)) (by omega)),.k (rV (by omega)),.k (Ea (Fa _) (Fa _) (Fh hp _) (oY (show k+1<274877906944 by omega)))] rfl rfl (by simp[Uw] <;> omega)
theorem rK{p q:Um}(hlp:p.length<274877906944)(hlq:q.length<274877906944)(hp:Bd 4294967295 p)(hq:Bd 4294967295 q):Uj 283 [pr p,pr q] [pr (S6 p q)] :=
 Ug func283 rfl [.r 9 (eI (b:=((max p.length q.length:Nat):Int)) (by simp;omega)),.k (qU (by omega) λk _=>Qoc k hp hq)] rfl
theorem MH{p q:Um}(hlp:p.length<274877906944)(hlq:q.length<274877906944)(hp:Bd 4294967295 p)(hq:Bd 4294967295 q):Uj 193 [pr p,pr q] [pr (Su p q)] :=
 Ug func193 rfl [.r 9 (eI (b:=((max p.length q.length:Nat):Int)) (by simp;omega)),.k (qU (by omega) λk _=>Qol k hp hq)] rfl
theorem Qbt{p:Um}(hlp:p.length<274877906944)(hp:Bd 4294967295 p):Uj 367 [pr p] [pr (P0 p)] :=
 Ug func367 rfl [.r 4 (eI (b:=(p.length:Int)) (by simp)),.k (nE hlp λk hk=>Qoi hk hp)] rfl
theorem Di{p:Um}{c:Int}(hlp:p.length<274877906944)(hp:Bd 4294967295 p)(hc:Ff c<=4294967295):Uj 194 [pr p,.agg (H9 c)] [pr (Fc p c)] :=
 Ug func194 rfl [.r 6 (eI (b:=(p.length:Int)) (by simp)),.k (qU hlp λk hk=>Qbz hk hp hc)] rfl
theorem XO{p:Um}(hlp:p.length<274877906944)(hp:Bd 4294967295 p):Uj 285 [pr p] [pr (Fv p)] :=
 Ug func285 rfl [.r 6 (eI (b:=((p.length-1:Nat):Int)) (by simp;omega)),.k (nE (by omega) λk hk=>aW (by omega) hlp hp)] rfl rfl (by simp[Uw];omega)
theorem Lf{ls:Us}{p:Um}(hi:IsInts ls p)(hl:p.length<274877906944)(hs:Bd 4294967295 p):Uj 235 [.one (.row ls)] [pr (trim p)]:=by
 refine Hz func235 rfl ?_;have hlen:=hi.len;refine Ue [.i ls.length,.i ls.length] rfl ?_;rw[Il λk=>H9 (p.getD k 0)];refine Ui (S:=Nat) 1 (λL1 k=>(11,.v (.oi k))::L1) (λk=>[.row false 55 2 (AX (λk=>H9 (p.getD k 0)) [.bool false,.nils] ls.length k)]) (λk=>ls.length-k) (λk=>k<=ls.length) 0 (Qg _) rfl rfl λk hk=>?_
 by_cases hlt:k<ls.length
 ·obtain⟨x,y,hx,hxy⟩:=hi.get (Rz (p:=p) (k:=k) (by omega));have cn:=Oh hxy (Fh hs k);obtain⟨b,l,rfl,rfl,_⟩:=hxy;refine go tt [.t (by simp;omega),.x hx,.k cn,.i k] rfl (by simp[Uw,JW];omega) ?_;have e:=JU (λk=>H9 (p.getD k 0)) [.bool false,.nils] hlt;rw[e];exact rd (k+1) (by omega) hlt rfl
 ·obtain rfl:k=ls.length:=by omega
  have e:AX (λk=>H9 (p.getD k 0)) [.bool false,.nils] ls.length ls.length=p.map H9:=by
   rw[JK,hlen];refine Xu λi=>?_
   by_cases hi:i<p.length
   ·simp[Jb hi,List.getD,Qe hi]
   ·simp[Qx,hi]
  rw[e];exact Uf [.f (by simp),.k (MB _)] rfl
theorem Ss{p:Um}(ht:Uz p)(hl:p.length<274877906944)(hs:Bd 4294967295 p):Uj 235 [pr p] [pr p]:=by
 have:=Lf (Ta p) hl hs;rw[ht]at this;exact this
theorem Qj5{p:Um}{i:Nat}{z:Int}(h:p[i]? = some z):(p.map λ(x:Int)=>[LV.int .i64 x])[i]? = some [.int .i64 z]:=He h
theorem Qrr{p:Um}(hl:p.length<274877906944)(hr:∀z∈p,-9223372036854775808≤z/\z≤9223372036854775807):Uj 228 [.one (ids p)] [pr (trim p)]:=by
 refine Hz func228 rfl ?_;refine Ue [.r 7 (eI (b:=(p.length:Int)) (by simp)),.i p.length,.i p.length,.r 10 (eI (b:=(p.length:Int)) (by simp))] rfl ?_;rw[Il λk=>H9 (p.getD k 0)];refine Ui (S:=Nat) 1 (λL1 k=>(11,.v (.oi k))::L1) (λk=>[.row false 55 2 (AX (λk=>H9 (p.getD k 0)) [.bool false,.nils] p.length k)]) (λk=>p.length-k) (λk=>k<=p.length) 0 (Qg _) rfl rfl λk hk=>?_
 by_cases hlt:k<p.length
 ·have hg:=Rz hlt;refine go tt [.t (by simp;omega),.x (Qj5 hg),.k (rV (hr _ (Qa hg))),.i k] rfl (by simp[Uw,JW];omega) ?_;have e:=JU (λk=>H9 (p.getD k 0)) [.bool false,.nils] hlt;rw[e];exact rd (k+1) (by omega) hlt rfl
 ·obtain rfl:k=p.length:=by omega
  have e:AX (λk=>H9 (p.getD k 0)) [.bool false,.nils] p.length p.length=p.map H9:=by
   rw[JK];refine Xu λi=>?_
   by_cases hi:i<p.length
   ·simp[Jb hi,List.getD,Qe hi]
   ·simp[Qx,hi]
  rw[e];exact Uf [.f (by simp),.k (MB _)] rfl
theorem pX(l:Um)(i:Nat)(z:Int):(l.map H9).set i (H9 z)=(l.set i z).map H9:=by rw[V0]
theorem PM(m:Nat):((List.replicate m [LV.bool false,LV.nils]).map λc=>c.map SY)=(List.replicate m (0:Int)).map H9:=by
 simp[Er,SY]
theorem qV{p0 q:Um}{s t:Nat}(tq:Uz q)(hlp:p0.length<137438953472)(hlq:q.length<137438953472)(hp:Bd s p0)(hq:Bd t q)(hst:s+t<=4294967000):Uj 284 [pr p0,pr q] [pr (U9 (trim p0) q)]:=by
 have cp:=Lf (Ta p0) (by omega) (Uv hp (show s<=4294967295 by omega));have hp:=Si hp;have hlp:=Z8 (Ri p0) hlp;obtain⟨p,ep⟩:=nmE (trim p0);rw[<-ep]at cp hp hlp ⊢;have cq:=Ss tq (by omega) (Uv hq (show t<=4294967295 by omega));by_cases h0:p.length=0
 ·have e:U9 p q=[]:=by unfold U9;rw[if_pos (.inl h0)]
  rw[e];exact Ug func284 rfl [.k cp,.k cq,.t (by simp;exact Qh h0),.t rfl] rfl
 by_cases h1:q.length=0
 ·have e:U9 p q=[]:=by unfold U9;rw[if_pos (.inr h1)]
  rw[e];exact Ug func284 rfl [.k cp,.k cq,.f (by simp;intro h;subst h;simp at h0),.t (by simp;exact Qh h1)] rfl
 refine Hz func284 rfl ?_;have e:U9 p q=trim (Cc p q (List.replicate (p.length+q.length-1) 0) p.length):=by unfold U9;rw[if_neg (by omega)]
 rw[e];obtain⟨N,hN⟩:=nmE (p.length+q.length-1);rw[<-hN];obtain⟨o,ho⟩:=nmE (List.replicate N (0:Int));rw[<-ho];have hol:o.length=N:=by rw[ho];simp
 have ho0:∀m,o.getD m 0=0:=λm=>by rw[ho];exact Hu N m
 refine Ue [.k cp,.k cq,.f (by simp;intro h;subst h;simp at h0),.f (by simp;intro h;subst h;simp at h1),.r 27 (eI (b:=(N:Int)) (by simp;omega)),.i N,.i N] rfl ?_;refine nl 0 rfl rfl rfl ?_;rw[PM,<-ho];refine Ui (S:=Nat) 1 (λL1 i=>(31,.v (.oi i))::L1) (λi=>[.row false 55 2 ((Cc p q o i).map H9)]) (λi=>p.length-i) (λi=>i<=p.length) 0 (Qg _) rfl rfl λi hi=>?_
 by_cases hlt:i<p.length
 ·refine Ud [.t (by simp;omega),.x (Ma (Rz hlt))] rfl ?_;refine Ui (S:=Nat) 2 (λL1 k=>(38,.v (.oi k))::L1) (λk=>[.row false 55 2 ((Iu (p.getD i 0) q i (Cc p q o i) k).map H9),.blk 55 (H9 (p.getD i 0))]) (λk=>q.length-k) (λk=>k<=q.length) 0 (Qg _) rfl rfl λk hk=>?_
  by_cases hk2:k<q.length
  ·have hm1:Ff ((Iu (p.getD i 0) q i (Cc p q o i) k).getD (i+k) 0)<=4294967295:=Qc (A1 (t:=39) (xX (by rw[Cd];omega) (xZ (λj hj=>by omega) ho0 (λi j=>Ng (Fh hp i) (Fh hq j))) (λj=>Ng (Fh hp i) (Fh hq j)) (i+k)) (Kj (show i+1<549755813888 by omega) (by decide))) (by omega);have hm2:Ff (p.getD i 0*q.getD k 0)<=4294967295:=Qc (Ga _ _) (by have:=Fh hp i;have:=Fh hq k;omega);have hg:(Iu (p.getD i 0) q i (Cc p q o i) k)[i+k]? = some ((Iu (p.getD i 0) q i (Cc p q o i) k).getD (i+k) 0):=Rz (by rw[Iv,Cd];omega);refine go tt [.t (by simp;omega),.x (Ma (Rz hk2)),.i (i+k),.x (Ma hg),.k (Ea (Fa _) (Fa _) (Qc (Fh hp i) (by omega)) (Qc (Fh hq k) (by omega))),.k (MS (Fa _) (Fa _) hm1 hm2),.i (i+k)] rfl (by simp[Uw,Iv,Cd] <;> omega) ?_;rw[pX];exact rd (k+1) (by omega) hk2 rfl
  ·obtain rfl:k=q.length:=by omega
   exact go tt [.f (by simp)] rfl (by simp[Uw];omega) (rd (i+1) (by omega) hlt rfl)
 ·obtain rfl:i=p.length:=by omega
  exact Uf [.f (by simp),.k (MB _)] rfl
theorem rW{p q:Um}{s t:Nat}(tp:Uz p)(tq:Uz q)(hlp:p.length<137438953472)(hlq:q.length<137438953472)(hp:Bd s p)(hq:Bd t q)(hst:s+t<=4294967000):Uj 284 [pr p,pr q] [pr (U9 p q)]:=by
 have h:=qV tq hlp hlq hp hq hst;rw[show trim p=p from tp]at h;exact h
theorem nH{p q:Um}(hlp:p.length<274877906944)(hlq:q.length<274877906944)(hp:Bd 4294967295 p)(hq:Bd 4294967295 q):Uj 353 [pr p,pr q] [.one (.bool (decide (trim p=trim q)))]:=by
 refine Hz func353 rfl ?_;have cp:=Lf (Ta p) hlp hp;have cq:=Lf (Ta q) hlq hq;have bp:=Si hp;have bq:=Si hq;have l1:=Ri p;have l2:=Ri q;obtain⟨a,ha⟩:=nmE (trim p);obtain⟨b,hb⟩:=nmE (trim q);rw[<-ha]at cp bp l1 ⊢;rw[<-hb]at cq bq l2 ⊢;by_cases hl:a.length=b.length
 ·refine Ud [.k cp,.k cq,.f (by simp;omega)] rfl ?_;refine Ui (S:=Nat) 0 (λL1 i=>(18,.v (.oi i))::L1) (λ_=>[]) (λi=>a.length-i) (λi=>i<=a.length/\a.take i=b.take i) 0 ⟨Qg _,rfl⟩ rfl rfl λi ⟨hi,he⟩=>?_
  by_cases hlt:i<a.length
  ·have ga:=Rz hlt;have gb:=Rz (p:=b) (k:=i) (by omega);have cc:=qW (Fa (a.getD i 0)) (Fa (b.getD i 0)) (Fh bp i) (Fh bq i);by_cases hz:a.getD i 0=b.getD i 0
   ·refine Ue [.t (by simp;omega),.x (Ma ga),.x (Ma gb),.k cc,.f (by simpa using qM.2 hz)] rfl ?_;exact rd (i+1) (by omega) ⟨hlt,by rw[Xv,Xv,he,ga,gb,hz]⟩ rfl
   ·exact Uf [.t (by simp;omega),.x (Ma ga),.x (Ma gb),.k cc,.t (by have:=mt qM.1 hz;simpa using this)] rfl (by rw[decide_eq_false];intro h;exact hz (by rw[h])) trivial
  ·obtain rfl:i=a.length:=by omega
   rw[Q7,hl,Q7]at he;exact Uf [.f (by simp)] rfl (by rw[decide_eq_true he]) trivial
 ·exact Uf [.k cp,.k cq,.t (by simp;omega)] rfl (by rw[decide_eq_false];intro h;exact hl (by rw[h])) trivial
theorem Qbx{p:Um}{n d:Int}{s t:Nat}(hl:p.length<274877906944)(hp:Bd s p)(hn:Ff n<=t)(hd:Ff d<=t)(hst:s+p.length*(t+1)+2*t+10<=4294967295):Uj 361 [pr p,.agg (H9 n),.agg (H9 d)] [.agg (H9 (Qlb p n d))]:=by
 refine Hz func361 rfl ?_;refine Ue [.k (rV (z:=1) (by decide)),.r 13 (eI (b:=(p.length:Int)-1-((0:Nat):Int)) (by simp))] rfl ?_;refine nlb 3 rfl rfl rfl ?_;have e0:[LV.bool false,LV.nils].map SY=H9 (Mq p n d 0).1:=by simp[SY,Mq,Er]
 rw[e0];refine Ui (S:=Nat) 5 (λL1 j=>(9,.v (.oi ((p.length:Int)-1-(j:Int))))::L1) (λj=>[.blk 55 (H9 n),.blk 55 (H9 d),.blk 55 [.bool false,.nils],.blk 55 (H9 (Mq p n d j).1),.blk 55 (H9 (Mq p n d j).2)]) (λj=>p.length-j) (λj=>j<=p.length) 0 (Qg _) rfl rfl λj hj=>?_
 have hv:=yX (k:=j) hp hn hd;have hjl:j*(t+1)<=p.length*(t+1):=Qw _ (by omega);have hjl2:j*t<=j*(t+1):=Zd _ (by omega);by_cases hlt:j<p.length
 ·have hc:=Fh hp (p.length-1-j);have hm1:Ff ((Mq p n d j).1*n)<=4294967295:=Qc (Ga _ _) (by omega);have hm2:Ff (p.getD (p.length-1-j) 0*(Mq p n d j).2)<=4294967295:=Qc (Ga _ _) (by omega);refine go tt [.t (by simp;omega),.k (Ea (Fa _) (Fa _) (by omega) (by omega)),.r 22 (eI (b:=((p.length-1-j:Nat):Int)) (by omega)),.x (Ma (Rz (p:=p) (k:=p.length-1-j) (by omega))),.k (Ea (Fa _) (Fa _) (by omega) (by omega)),.k (MS (Fa _) (Fa _) hm1 hm2),.k (Ea (Fa _) (Fa _) (by omega) (by omega)),.r 17 (eI (b:=(p.length:Int)-1-((j+1:Nat):Int)) (by omega))] rfl (by simp[Uw] <;> omega) ?_;exact rd (j+1) (by omega) hlt rfl
 ·obtain rfl:j=p.length:=by omega
  exact Uf [.f (by simp;omega)] rfl
theorem Og{p:Um}(tp:Uz p)(hl:p.length<274877906944)(hp:Bd 4294967295 p):Uj 393 [pr p] [.agg (H9 (p.getD (p.length-1) 0))]:=by
 have cn:=Ss tp hl hp;by_cases h0:p=[]
 ·subst h0;exact Ug func393 rfl [.k cn,.t (by simp)] rfl (by simp[Er]) trivial
 ·have De:0<p.length:=Yc.2 h0;exact Ug func393 rfl [.k cn,.f (by simpa using h0),.r 12 (eI (b:=((p.length-1:Nat):Int)) (by simp;omega)),.x (Ma (Rz (by omega)))] rfl rfl (by simp[Uw];omega)
theorem Qnr{a b:Int}{q:Rat}(h1:a=q.num)(h2:b=(q.den:Int)):[sg a,mg a,sg b,mg b]=rl q:=by rw[h1,h2]
theorem MN{n d:Int}(h0:d≠0)(hn:Ff n<=4294967295)(hd:Ff d<=4294967295):Uj 380 [.agg (H9 n),.agg (H9 d)] [.agg (rl (Rat.divInt n d))]:=by
 have cg:=Qbn (Ta [n,d]) (λz hz=>by simp at hz;rcases hz with rfl|rfl <;> assumption);have gp:=kD (n:=n) h0;have gs:=dH (n:=n) h0 hd;have m1:=BW n d;have m2:=BU n d;obtain⟨g,hg⟩:=nmE (((Hx [n,d]:Nat):Int));rw[<-hg]at cg gp gs m1 m2;by_cases hneg:d<0
 ·obtain⟨e1,e2⟩:=Qki (n:=n) hneg;rw[<-hg]at e1 e2;rw[<-Qnr e1 e2];exact Ug func380 rfl [.k cg,.t (by simpa using hneg),.k (vQ (Fa n) hn),.k (vQ (Fa d) hd),.k (Ad (Fa _) (Fa _) (by rw[Hy];exact hn) gs (by omega) (lJ m1)),.k (Ad (Fa _) (Fa _) (by rw[Hy];exact hd) gs (by omega) (lJ m2))] rfl
 ·obtain⟨e1,e2⟩:=zA (n:=n) (d:=d) (by omega);rw[<-hg]at e1 e2;rw[<-Qnr e1 e2];exact Ug func380 rfl [.k cg,.f (by simpa using hneg),.k (Ad (Fa _) (Fa _) hn gs (by omega) m1),.k (Ad (Fa _) (Fa _) hd gs (by omega) m2)] rfl
theorem bK{x y x' y':LV}{n d:Int}(h1:S7 x y n)(h2:S7 x' y' d)(hn:Ff n<=4294967295)(hd:Ff d<=4294967295):Uj 328 [.agg [x,y,x',y']] [.agg (rl (H4 n d))]:=by
 have c1:=Oh h1 hn;have c2:=Oh h2 hd;obtain⟨b,l,rfl,rfl,_⟩:=h1;obtain⟨b',l',rfl,rfl,_⟩:=h2;by_cases h0:d=0
 ·have e:H4 n d=Rat.divInt n 1:=by unfold H4;rw[if_pos h0]
  rw[e];exact Ug func328 rfl [.k c2,.k ZQ,.t (by simpa using h0),.k (rV (z:=1) (by decide)),.k c1,.k (MN (by decide) hn (by decide))] rfl
 ·have e:H4 n d=Rat.divInt n d:=by unfold H4;rw[if_neg h0]
  rw[e];exact Ug func328 rfl [.k c2,.k ZQ,.f (by simpa using h0),.k c1,.k (MN h0 hn hd)] rfl
theorem vT{q:Rat}(hq:Qs 4294967295 q):Uj 328 [.agg (rl q)] [.agg (rl q)]:=by
 have:=bK (Fa q.num) (Fa (q.den:Int)) hq.1 hq.2;rwa[eY]at this
theorem nD{a b:Rat}(ha:Qs 2147483647 a)(hb:Qs 2147483647 b):Uj 381 [.agg (rl a),.agg (rl b)] [.agg (H9 (a.num*(b.den:Int))),.agg (H9 (b.num*(a.den:Int))),.agg (H9 ((a.den:Int)*(b.den:Int)))] :=
 Ug func381 rfl [.k (vT (ha.mono (by decide))),.k (vT (hb.mono (by decide))),.k (Ea (Fa _) (Fa _) (Qc ha.1 (by decide)) (Qc hb.2 (by decide))),.k (Ea (Fa _) (Fa _) (Qc hb.1 (by decide)) (Qc ha.2 (by decide))),.k (Ea (Fa _) (Fa _) (Qc ha.2 (by decide)) (Qc hb.2 (by decide)))] rfl
theorem ME{a b:Rat}(ha:Qs 2147483647 a)(hb:Qs 2147483647 b):Uj 329 [.agg (rl a),.agg (rl b)] [.oi (Hl a b)] :=
 Ug func329 rfl [.k (nD ha hb),.k (qW (Fa _) (Fa _) (Qc (Ga _ _) (by have:=ha.1;have:=hb.2;omega)) (Qc (Ga _ _) (by have:=hb.1;have:=ha.2;omega)))] rfl
theorem Qou{x y x' y':LV}{n d:Int}(h1:S7 x y n)(h2:S7 x' y' d)(hn:Ff n<=4294967295)(hd:Ff d<=4294967295):Uj 223 [.agg [x,y,x',y'],.one (.row [])] [.agg (rl (H4 n d))]:=by
 have c1:=bK h1 h2 hn hd;obtain⟨b,l,rfl,rfl,_⟩:=h1;obtain⟨b',l',rfl,rfl,_⟩:=h2;refine Hz func223 rfl ?_;refine Ud [.k c1] rfl ?_;refine Ui (S:=Unit) 3 (λL1 _=>(12,.v (.oi 0))::L1) (λ_=>[.blk 57 [.bool b,.row (lm l),.bool b',.row (lm l')],.blk 57 [.bool false,.nils,.bool false,.nils],.blk 57 (rl (H4 n d))]) (λ_=>0) (λ_=>True) () trivial rfl rfl λ_ _=>?_
 exact Uf [.f (by simp)] rfl
theorem qS{q:Rat}(hq:Qs 4294967295 q):Uj 223 [.agg (rl q),.one (.row [])] [.agg (rl q)]:=by
 have:=Qou (Fa q.num) (Fa (q.den:Int)) hq.1 hq.2;rwa[eY]at this
theorem Qi3{q:Rat}(hq:Qs 4294967295 q):Uj 360 [.agg (rl q)] [.agg (rl q)]:=Ug func360 rfl [.k (qS hq)] rfl
theorem nR{p:Um}{q:Rat}{s t:Nat}(tp:Uz p)(hl:p.length<274877906944)(hp:Bd s p)(hq:Qs t q)(hst:s+p.length*(t+1)+2*t+10<=4294967295):Uj 288 [pr p,.agg (rl q)] [.oi (Fy p q)]:=by
 have cc:=qW (Fa (Qlb p q.num q.den)) sY (Qc (yX hp hq.1 hq.2).1 (by omega)) (by decide);exact Ug func288 rfl [.k (Qi3 (hq.mono (by omega))),.k (Ss tp hl (Uv hp (by omega))),.k (Qbx hl hp hq.1 hq.2 hst),.k cc] rfl
theorem Qcd{p:Um}{g:Int}(hl:p.length<274877906944)(hp:Bd 4294967295 p)(hg:Ff g≤4294967295)(h0:g≠0)(hd:∀z∈p,z % g=0):Uj 338 [pr p,.agg (H9 g)] [pr (trim (p.map (· / g)))]:=by
 refine Hz func338 rfl ?_;refine Ue [.r 9 (eI (b:=(p.length:Int)) (by simp)),.i p.length,.i p.length,.r 12 (eI (b:=(p.length:Int)) (by simp))] rfl ?_;rw[Il λk=>H9 (p.getD k 0 / g)];refine Ui (S:=Nat) 2 (λL1 k=>(13,.v (.oi k))::L1) (λk=>[.blk 55 (H9 g),.row false 55 2 (AX (λk=>H9 (p.getD k 0 / g)) [.bool false,.nils] p.length k)]) (λk=>p.length-k) (λk=>k<=p.length) 0 (Qg _) rfl rfl λk hk=>?_
 by_cases hlt:k<p.length
 ·have hg2:=Rz hlt;refine go tt [.t (by simp;omega),.x (Ma hg2),.k (Ad (Fa _) (Fa _) (Fh hp k) hg h0 (hd _ (Qa hg2))),.i k] rfl (by simp[Uw,JW];omega) ?_;have e:=JU (λk=>H9 (p.getD k 0 / g)) [.bool false,.nils] hlt;rw[e];exact rd (k+1) (by omega) hlt rfl
 ·obtain rfl:k=p.length:=by omega
  have e:AX (λk=>H9 (p.getD k 0 / g)) [.bool false,.nils] p.length p.length=(p.map (· / g)).map H9:=by
   rw[JK];refine Xu λi=>?_
   by_cases hi:i<p.length
   ·simp[Jb hi,List.getD,Qe hi]
   ·simp[Qx,hi]
  rw[e];exact Uf [.f (by simp),.k (Lf (Ta (p.map (· / g))) (by simp;exact hl) (FW hp g))] rfl
theorem CS(p:Um):∀c∈p.map H9,c.length=2:=Qsk p λ_=>rfl
theorem nC{lx ly:Us}{px py:Um}{x y:LV}{d:Int}(hx:IsInts lx px)(hy:IsInts ly py)(hd:S7 x y d)(hk:Cs 4294967294 1073741824 (Crv.mk px py d)):Uj 239 [.agg [.row lx,.row ly,x,y]] [.agg (cl (Crv.norm (Crv.mk px py d)))]:=by
 have hlx:=hk.lx;have hly:=hk.ly;simp only at hlx hly;have htx:=Ri px;have hty:=Ri py;have hd1:Ff (Crv.mk px py d).d'<=4294967295:=Qc (zS hk.d (by omega)) (by omega);have hg1:=Crv.isz_g (Crv.mk px py d) hd1;have hg0:=Crv.g_ne (Crv.mk px py d);have hgd:=Crv.g_dvd (Crv.mk px py d);have cx:=Lf hx (by omega) (Uv hk.x (by omega));have cy:=Lf hy (by omega) (Uv hk.y (by omega));have cd:=Oh hd (Qc hk.d (by omega));have bx:Bd 4294967295 (trim px):=Uv (Si hk.x) (by omega);have by_:Bd 4294967295 (trim py):=Uv (Si hk.y) (by omega);obtain⟨b,l,rfl,rfl,_⟩:=hd;obtain⟨e,he⟩:=nmE ((Crv.mk px py d).d');obtain⟨g,hgg⟩:=nmE ((Crv.mk px py d).g);obtain⟨X,hX⟩:=nmE (trim px);obtain⟨Y,hY⟩:=nmE (trim py);have hnorm:(Crv.mk px py d).norm=⟨trim (X.map (· / g)),trim (Y.map (· / g)),e / g⟩:=by rw[he,hgg,hX,hY];rfl
 rw[hnorm];have hgdef:g=if e<0 then -((Hx (e::(X++Y)):Nat):Int)else(Hx (e::(X++Y)):Nat):=by rw[hgg,he,hX,hY];rfl
 have hde:e=if d=0 then 1 else d:=by rw[he];rfl
 simp only[<-he,<-hgg,<-hX,<-hY]at hd1 hg1 hg0 hgd htx hty cx cy bx by_;clear hnorm hgg he hX hY;refine Hz func239 rfl ?_;refine Ud [.k cx,.k cy,.k cd,.k ZQ] rfl ?_;refine ct 1 (S:=Unit) (λ_=>[(2,.v (.one (.ow 1 0))),(3,.v (pr X)),(4,.v (pr Y)),(5,.v (.one (.ow 2 0)))]) (λ_=>[.blk 74 [.row lx,.row ly,.bool b,.row (lm l)],.blk 74 [.nils,.nils,.bool false,.nils],.blk 55 (H9 e)]) (λ_=>True) rfl ?_ ?_
 ·by_cases h0:d=0
  ·rw[hde,if_pos h0];exact go tt [.t (by simpa using h0),.k (rV (z:=1) (by decide))] rfl trivial (rc () trivial rfl)
  ·rw[hde,if_neg h0];exact go tt [.f (by simpa using h0)] rfl trivial (rc () trivial rfl)
 ·intro _ _;have hgi:IsInts ([H9 e]++X.map H9++Y.map H9) (e::(X++Y)):=by
   have:=Ta (e::(X++Y));simpa using this
  have hgs:∀z∈e::(X++Y),Ff z≤4294967295:=λz hz=>by
   rcases Qt.1 hz with rfl|hz
   ·exact hd1
   ·rcases Qr.1 hz with hz|hz
    ·exact bx z hz
    ·exact by_ z hz
  have cg:=Qbn hgi hgs;have co1:=Qcd (p:=X) (by omega) bx hg1 hg0 λz hz=>hgd z (Qp _ (List.mem_append_left _ hz))
  have co2:=Qcd (p:=Y) (by omega) by_ hg1 hg0 λz hz=>hgd z (Qp _ (List.mem_append_right _ hz))
  have ce:=Ad (Fa e) (Fa g) hd1 hg1 hg0 (hgd e (Q0 ..));have hszg:=PY hgs;by_cases hneg:e<0
  ·rw[if_pos hneg]at hgdef;have cn:=vQ (Fa ((Hx (e::(X++Y)):Nat):Int)) hszg;rw[<-hgdef]at cn;exact Uf [.lo,.s (CS X),.s (CS Y),.k cg,.t (by simpa using hneg),.k cn,.k ce,.k co1,.k co2] rfl rfl (by simp[Uw];omega)
  ·rw[if_neg hneg]at hgdef;rw[<-hgdef]at cg;exact Uf [.lo,.s (CS X),.s (CS Y),.k cg,.f (by simpa using hneg),.k ce,.k co1,.k co2] rfl rfl (by simp[Uw];omega)
theorem nN{lx ly:Us}{px py:Um}{x y:LV}{d:Int}(hx:IsInts lx px)(hy:IsInts ly py)(hd:S7 x y d)(hk:Cs 4294967294 1073741824 (Crv.mk px py d))(h0:d≠0):Uj 300 [.one (.row lx),.one (.row ly),.agg [x,y]] [.agg (cl (Crv.norm (Crv.mk px py d))),.oi 0]:=by
 have cd:=Oh hd (Qc hk.d (by omega));have cn:=nC hx hy hd hk;obtain⟨b,l,rfl,rfl,_⟩:=hd;exact Ug func300 rfl [.k cd,.k ZQ,.f (by simpa using h0),.k cn] rfl
def Qvm(x y:Int):Crv:=Crv.norm ⟨trim [x],trim [y],0⟩

theorem jC(q:Rat):Uz [-q.num,(q.den:Int)]:=by
 have:=q.den_nz;simp[Uz,trim,this]
theorem Qmw{s:Nat}{q:Rat}(h:Qs s q):Bd s [-q.num,(q.den:Int)]:=λz hz=>by
 simp at hz;rcases hz with rfl|rfl
 ·rw[Hy];exact h.1
 ·exact h.2
def Eu(ps:Un):Us:=ps.map λp=>[pl p]
theorem C5{ps:Un}{i:Nat}{p:Um}(h:ps[i]? = some p):(Eu ps)[i]? = some [pl p]:=He h
def YB(l:List Ct):Us:=l.map Qff
theorem Qdc{l:List Ct}{i:Nat}{c:Ct}(h:l[i]? = some c):(YB l)[i]? = some (Qff c):=He h
theorem Qdd(l:List Ct):(YB l).length=l.length:=by simp[YB]
end Orr
namespace Orr
def U8(p:Um):Int:=p.getD (p.length-1) 0
def LZ(p:Um):Option Um:=if p.length<=64/\(p.all λz=>Nat.ble (Ff z) 16777216)=true then some p else none
def bR(q:Rat):Option Rat:=if Ff q.num<=16777216/\Ff (q.den:Int)<=16777216 then some q else none
def S9(p:Um):Int:=(Hx p:Nat)
def La(p:Um)(c:Int):Um:=trim (p.map (· / c))
def G0(p:Um):Int:=if U8 p<0 then -S9 p else S9 p
def U5(p:Um):Um:=if p.length=0 then []else La p (G0 p)
def mono(i:Nat)(x:Int):Um:=List.replicate i 0++[x]
def uR(b:Um)(c:Int):Nat->Um×Um->Um×Um
 | 0,s=>s
 |
  i+1,(q,r) =>
  uR b c i (S6 (Fc q c) (mono i (if r.length=b.length+i then U8 r else 0)),Su (Fc r c) (U9 (trim (mono i (if r.length=b.length+i then U8 r else 0))) b))
def Mc(a b:Um):Um:=(uR b (U8 b) (a.length+1-b.length) ([],a)).2
def M4(a b r:Um):Um:=if (a.length+1-b.length) % 2=1/\U8 b<0 then P0 r else r
def Ev(r:Um):Um:=if r.length=0 then []else La r (S9 r)
def Ha(a b:Um):Um:=Ev (M4 a b (Mc a b))
def xN(b:Um):Nat->Um->Um->Option Um
 | 0,a,q=>if a.length=0 then some q else none
 |i+1,a,q=>if a.length<b.length+i then xN b i a q else if U8 a % U8 b=0 then xN b i (Su a (U9 (trim (mono i (U8 a / U8 b))) b)) (q.set i (U8 a / U8 b))else none
def O5(a b:Um):Option Um:=if b.length=0 then none else(xN b (a.length+1-b.length) a (List.replicate (a.length+1-b.length) 0)).bind λq=>LZ (trim q)
def HB:Nat->Um->Um->Option Um
 | 0,_,_=>none
 |k+1,a,b=>if b.length=0 then some a else(LZ (Ha a b)).bind λr=>HB k b r
def I4(a b:Um):Option Um:=(HB 66 (U5 a) (U5 b)).map U5
def uJ(a b:Um):Option Um:=(I4 [] a).bind λg=>I4 g b
def Sj(a:Um):Option Um:=if (U5 a).length<2 then some (U5 a)else(LZ (Fv (U5 a))).bind λd=>(I4 (U5 a) d).bind λg=>O5 (U5 a) g
def BN:Nat->Um->Option Un
 | 0,_=>none
 |k+1,g=>if g.length<2 then some []else(LZ (Fv g)).bind λd=>(I4 g d).bind λh=>(O5 g h).bind λw=>(BN k h).bind λl=>some (w::l)
def tP:Un->Option Un
 | []=>some []
 | [w]=>some [w]
 |w::v::l=>(O5 w v).bind λf=>(tP (v::l)).bind λr=>some (f::r)
def VP:Nat->Um->Un->Option Um
 |_,p,[]=>some p
 |i,p,f::l=>if i % 2=0 then(LZ (U9 p f)).bind λq=>VP (i+1) q l else VP (i+1) p l
def oN(a:Um):Option Um:=if (U5 a).length=0 then some []else(BN 66 (U5 a)).bind λl=>(tP l).bind λfs=>VP 0 [1] fs
def LQ:Nat->Um->Um->Option Un
 | 0,_,_=>none
 |k+1,a,b=>if b.length=0 then some []else(LZ (Ha a b)).bind λr=>(LQ k b (P0 r)).bind λl=>some (b::l)
def chain(p:Um):Option Un:=(Sj p).bind λa=>if a.length=0 then none else(LZ (Fv a)).bind λd=>(LQ 66 a (U5 d)).bind λl=>some (a::l)
def Pg(sg:Um->Int)(s:Nat×Int)(p:Um):Nat×Int:=if sg p=0 then s else(if s.2=-(sg p)then s.1+1 else s.1,sg p)
def I7(sg:Um->Int)(l:Un):Nat:=(l.foldl (Pg sg) (0,0)).1
def Me(l:Un)(q:Rat):Nat:=I7 (λp=>Fy p q) l
def Gw(l:Un)(lo hi:Rat):Int:=if Hl hi lo<0 then 0 else(Me l lo:Int)-(Me l hi:Int)
def iD(p:Um):Int:=Int.sign (U8 p)
def iC(p:Um):Int:=if p.length % 2=0 then -Int.sign (U8 p)else Int.sign (U8 p)
def jU(l:Un):Int:=(I7 iC l:Int)-(I7 iD l:Int)
def most:Um->Nat:=λl=>l.foldl (λm z=>if m<z.natAbs then z.natAbs else m) 0
def Ge(p:Um):Rat:=Rat.divInt (((U8 p).natAbs:Int)+(most (p.take (p.length-1)):Int)) ((U8 p).natAbs:Int)
def A2(a b:Rat):Rat:=Rat.divInt (a.num*(b.den:Int)+b.num*(a.den:Int)) ((a.den:Int)*(b.den:Int)*2)
def E3(p:Um)(c:Un):Nat->Rat->Rat->Int->Option (List Tm)
 | 0,_,_,_=>none
 |k+1,lo,hi,n=>if n=0 then some []else if n=1 then some [⟨p,lo,hi⟩]else(bR (A2 lo hi)).bind λm=>(E3 p c k lo m (Gw c lo m)).bind λl=>(E3 p c k m hi (n-Gw c lo m)).bind λr=>some (l++r)
def CO(p:Um):Option (List Tm):=(chain p).bind λc=>(Sj p).bind λq=>(bR (Ge q)).bind λb=>E3 q c 100000 (-b) b (jU c)
def Tm.point(a:Tm):Bool:=decide (0<=Hl a.lo a.hi)
def low(p:Um)(q:Rat):Int:=if Fy p q≠0 then Fy p q else Fy (Fv p) q
def SX(p:Um)(lo hi:Rat):Bool:=decide (Fy p hi=0\/Fy p hi≠low p lo)
def Gb(a:Tm)(t:Rat):Int :=
 if a.point=true then Hl a.lo t else if Hl t a.lo<=0 then 1 else if 0<Hl t a.hi then -1 else if Fy a.p t=0 then 0 else if Fy a.p t=low a.p a.lo then 1 else -1
def half(a:Tm):Option Tm:=if a.point=true then some a else(bR (A2 a.lo a.hi)).bind λm =>
 some (if Gb a m=0 then ⟨a.p,m,m⟩else if Gb a m=-1 then ⟨a.p,a.lo,m⟩else ⟨a.p,m,a.hi⟩)
def Hr(p:Um):Nat:=p.foldl (λn z=>max n (Ff z)) 0
def A9(a b:Tm):Nat:=64+2*(Ff a.lo.num+Ff a.hi.num+Ff b.lo.num+Ff b.hi.num)+4*(a.p.length+b.p.length)*(Hr a.p+Hr b.p+(a.p.length+b.p.length)+8)
def Qai(a b:Rat):Rat:=Rat.divInt (a.num*(b.den:Int)-b.num*(a.den:Int)) ((a.den:Int)*(b.den:Int))
def RY(a b:Tm):Bool:=decide (Hl a.hi b.lo<=0/\¬((a.point=true/\b.point=true)/\Hl a.hi b.lo=0))
def gK:Nat->Tm->Tm->Option (Tm×Tm×Int)
 | 0,a,b=>some (a,b,0)
 |
  k+1,a,b=>if RY a b=true then some (a,b,-1)else if RY b a=true then some (a,b,1)else
  if 0<=Hl (Qai a.hi a.lo) (Qai b.hi b.lo)then(half a).bind λx=>gK k x b else(half b).bind λx=>gK k a x
def vL(a b:Tm):Option Int:=if a.point=true then some (-Gb b a.lo)else if b.point=true then some (Gb a b.lo)else
 let lo:=if 0<Hl b.lo a.lo then b.lo else a.lo
 let hi:=if Hl b.hi a.hi<0 then b.hi else a.hi
 if Hl lo hi<0 then(uJ a.p b.p).bind λg=>if 1<g.length/\SX g lo hi=true then some 0 else(gK (A9 a b) a b).bind λr=>some r.2.2
 else(gK (A9 a b) a b).bind λr=>some r.2.2
def sgF(c:Un):Nat->Tm->Option Tm
 | 0,a=>some a
 |k+1,a=>if a.point=true\/Gw c a.lo a.hi=0 then some a else(half a).bind λx=>sgF c k x
def YO(p:Um)(a:Tm):Option Int:=if p.length=0 then some 0 else if a.point=true then some (Fy p a.lo)else
 (uJ p a.p).bind λg=>if 1<g.length/\SX g a.lo a.hi=true then some 0 else(chain p).bind λc=>(sgF c (64+2*(Ff a.lo.num+Ff a.hi.num)+4*(a.p.length+p.length)*(Hr a.p+Hr p+(a.p.length+p.length)+8)) a).bind λx=>some (Fy p x.hi)
def BB:Tm->List Tm->Option Tm
 |b,[]=>some b
 |b,a::l=>(vL a b).bind λc=>BB (if c<0 then a else b) l
def IJ(a:Tm):List Tm->Option (Option Tm)
 | []=>some none
 |r::l=>(vL r a).bind λc=>if 0<c then some (some r)else IJ a l
def DL(p:Um):Option (List Tm):=(oN p).bind λq=>if q.length=0 then some []else CO q
def IY(p:Um)(a:Tm):Option (Option Tm):=(DL p).bind λl=>IJ a l
end Orr
namespace Orr
open Go Go.Proofs Tryz
set_option maxRecDepth 10000
theorem B8{p:Um}(tp:Uz p)(h:p.length≠0):U8 p≠0:=Hk tp (by omega)
theorem wW{p:Um}(h:p.length≠0):U8 p∈p:=Qa (Rz (by omega))
theorem Pw{s:Nat}{p:Um}(h:Bd s p):Ff (U8 p)<=s:=Fh h _
theorem Iy{p:Um}:∀z∈p,S9 p∣z:=ZR
theorem Iz{p:Um}(tp:Uz p)(h:p.length≠0):S9 p≠0:=λh0=>B8 tp h (Int.zero_dvd.1 (h0 ▸ Iy _ (wW h)))
theorem JR{p:Um}(h:Bd 4294967295 p):Ff (S9 p)<=4294967295:=PY h
theorem lR{p:Um}(tp:Uz p)(h:p.length≠0):G0 p≠0:=by
 have:=Iz tp h;unfold G0;split <;> omega
theorem WL{p:Um}:∀z∈p,G0 p∣z:=λz hz=>by
 unfold G0;split
 ·exact W9.2 (Iy z hz)
 ·exact Iy z hz
theorem Qew{p:Um}(h:Bd 4294967295 p):Ff (G0 p)<=4294967295:=by
 unfold G0;split
 ·rw[Hy];exact JR h
 ·exact JR h
theorem MF{s:Nat}{p:Um}(h:Bd s p)(c:Int):Bd s (La p c):=Si (FW h c)
theorem AE(p:Um)(c:Int):(La p c).length<=p.length:=Qc (Ri _) (by simp)
theorem O9(p:Um)(c:Int):Uz (La p c):=Hj _
theorem Qfn{p:Um}(h:Pb p)(c:Int):Pb (La p c):=⟨O9 _ _,Qc (AE _ _) h.l,MF h.b c⟩
theorem xT:Pb []:=⟨rfl,by simp,QI⟩
theorem Py{p:Um}(h:Pb p):Pb (U5 p):=by
 unfold U5;split
 ·exact xT
 ·exact Qfn h _
theorem Pb.bd{p:Um}(h:Pb p):Bd 4294967295 p:=Uv h.b (by omega)
theorem Pb.ln{p:Um}(h:Pb p):p.length<274877906944:=Z8 h.l (by omega)
theorem Pb.ln'{p:Um}(h:Pb p):p.length<8589934592:=Z8 h.l (by omega)
theorem ZX{p q:Um}(tp:Uz p)(h:LZ p=some q):q=p/\Pb p:=by
 unfold LZ at h
 split at h
 ·rename_i hc;injection h with h;refine⟨h.symm,tp,hc.1,λz hz=>?_⟩;have:=Js.1 hc.2 z hz;exact Zf this
 ·cases h
theorem nL{p:Um}{g:Int}(hl:p.length<274877906944)(hp:Bd 4294967295 p)(hg:Ff g≤4294967295)(h0:g≠0)(hd:∀z∈p,g∣z):Uj 394 [pr p,.agg (H9 g)] [pr (La p g)]:=by
 refine Hz func394 rfl ?_;refine Ue [.r 9 (eI (b:=(p.length:Int)) (by simp)),.i p.length,.i p.length,.r 12 (eI (b:=(p.length:Int)) (by simp))] rfl ?_;rw[Il λk=>H9 (p.getD k 0 / g)];refine Ui (S:=Nat) 2 (λL1 k=>(13,.v (.oi k))::L1) (λk=>[.blk 55 (H9 g),.row false 55 2 (AX (λk=>H9 (p.getD k 0 / g)) [.bool false,.nils] p.length k)]) (λk=>p.length-k) (λk=>k<=p.length) 0 (Qg _) rfl rfl λk hk=>?_
 by_cases hlt:k<p.length
 ·have hg2:=Rz hlt;refine go tt [.t (by simp;omega),.x (Ma hg2),.k (Ad (Fa _) (Fa _) (Fh hp k) hg h0 (J7 (hd _ (Qa hg2)))),.i k] rfl (by simp[Uw,JW];omega) ?_;have e:=JU (λk=>H9 (p.getD k 0 / g)) [.bool false,.nils] hlt;rw[e];exact rd (k+1) (by omega) hlt rfl
 ·obtain rfl:k=p.length:=by omega
  have e:AX (λk=>H9 (p.getD k 0 / g)) [.bool false,.nils] p.length p.length=(p.map (· / g)).map H9:=by
   rw[JK];refine Xu λi=>?_
   by_cases hi:i<p.length
   ·simp[Jb hi,List.getD,Qe hi]
   ·simp[Qx,hi]
  rw[e];exact Uf [.f (by simp),.k (Lf (Ta (p.map (· / g))) (by simp;exact hl) (FW hp g))] rfl
theorem FU{p:Um}(hl:p.length<8589934592)(hp:Bd 4294967295 p):Uj 392 [.one (.row [[pl p]])] [.agg (H9 (S9 p))]:=by
 refine Hz func392 rfl ?_;refine Ud [.o 3 55 2] rfl ?_;refine Ui (S:=Nat) 2 (λL1 i=>(8,.v (.oi i))::(3,.v (.one (.orow 1 2 none)))::L1) (λi=>[.blk 55 [.bool false,.nils],.row false 55 2 (if i=0 then []else p.map H9)]) (λi=>1-i) (λi=>i<=1) 0 (Qg _) rfl rfl λi hi=>?_
 rcases(show i=0\/i=1 by omega)with rfl|rfl
 ·refine Ue [.t rfl,.x (i:=0) (xs:=[pl p]) rfl,.s (CS p)] rfl ?_;exact rd 1 (by omega) (by omega) rfl
 ·exact Uf [.f rfl,.k (Qbn (Ta p) hp)] rfl
theorem Qce{p:Um}(tp:Uz p)(hl':p.length<8589934592)(hp:Bd 4294967295 p):Uj 365 [pr p] [.agg (H9 (if p.length=0 then 0 else G0 p)),pr (U5 p)]:=by
 have hl:p.length<274877906944:=by omega
 have cn:=Ss tp hl hp;by_cases h0:p.length=0
 ·have e:p=[]:=Qh h0;subst e;exact Ug func365 rfl [.k cn,.t rfl] rfl (by simp[Er,U5];rfl) trivial
 ·have hpf:U5 p=La p (G0 p):=by unfold U5;rw[if_neg h0]
  rw[if_neg h0,hpf];have co:=nL hl hp (Qew hp) (lR tp h0) WL;by_cases hneg:U8 p<0
  ·have e:G0 p=-S9 p:=by unfold G0;rw[if_pos hneg]
   rw[e]at co ⊢;exact Ug func365 rfl [.k cn,.f (by simpa using h0),.k (FU hl' hp),.k (Og tp hl hp),.t (by simpa[U8]using hneg),.k (vQ (Fa _) (JR hp)),.k co] rfl
  ·have e:G0 p=S9 p:=by unfold G0;rw[if_neg hneg]
   rw[e]at co ⊢;exact Ug func365 rfl [.k cn,.f (by simpa using h0),.k (FU hl' hp),.k (Og tp hl hp),.f (by simpa[U8]using hneg),.k co] rfl
theorem KD{p:Um}(hp:Pb p):Uj 390 [pr p] [pr (U5 p)] :=
 Ug func390 rfl [.k (Qce hp.t hp.ln' hp.bd)] rfl
theorem L9(p:Um):Uj 238 [pr p] [.oi ((p.length:Int)-1)]:=by
 have h:Uj 238 [pr p] [.oi (((p.map H9).length:Int)-1)]:=Hz func238 rfl (ln 0 rfl rfl λhl=>Uf [] rfl rfl (by simp[Uw]at hl ⊢;omega));rw[Q8]at h;exact h
theorem Is(i:Nat)(x:Int):(mono i x).length=i+1:=by simp[mono]
theorem MW{s i:Nat}{x:Int}(h:Ff x<=s):Bd s (mono i x):=λz hz=>by
 simp only[mono,Qr,Qo]at hz;rcases hz with hz|rfl
 ·rw[(List.mem_replicate.1 hz).2,Nf];exact Qg _
 ·exact h
def stq(c:Int)(i:Nat)(x:Int)(q:Um):Um:=S6 (Fc q c) (mono i x)
def str(b:Um)(c:Int)(i:Nat)(x:Int)(r:Um):Um:=Su (Fc r c) (U9 (trim (mono i x)) b)
theorem Qoa{u t i:Nat}{c x:Int}{q:Um}(hq:Bd u q)(hc:Ff c<=t)(hx:Ff x<=u):Bd (u+t+8) (stq c i x q) :=
 Uv (Od (Fw hq hc) (MW hx)) (by omega)
theorem Qke{c x:Int}{i:Nat}{q:Um}:(stq c i x q).length<=max q.length (i+1):=by
 have h:=El (Fc q c) (mono i x);have h1:=Ft q c;rw[Is]at h;unfold stq;omega
theorem zN{i:Nat}{x:Int}{b:Um}:(U9 (trim (mono i x)) b).length<=i+b.length:=by
 have h:=Re (trim (mono i x)) b;have h1:=Ri (mono i x);rw[Is]at h1;omega
theorem nK{u t i:Nat}{x:Int}{b:Um}(hb:Bd t b)(hx:Ff x<=u)(hi:i<=64):Bd (u+t+7) (U9 (trim (mono i x)) b) :=
 Tc (Si (MW hx)) hb (Z8 (Ri _) (by rw[Is];omega))
theorem gP{u t i:Nat}{c x:Int}{b r:Um}(hr:Bd u r)(hb:Bd t b)(hc:Ff c<=t)(hx:Ff x<=u)(hi:i<=64):Bd (u+t+8) (str b c i x r) :=
 Uv (Db (Fw hr hc) (nK hb hx hi)) (by omega)
theorem zC{c x:Int}{i:Nat}{b r:Um}:(str b c i x r).length<=max r.length (i+b.length):=by
 have h:=Px (Fc r c) (U9 (trim (mono i x)) b);have h1:=Ft r c;have h2:=zN (i:=i) (x:=x) (b:=b);unfold str;omega
theorem wH(i:Nat)(x:Int):((List.replicate (i+1) (0:Int)).map H9).set i (H9 x)=(mono i x).map H9:=by
 rw[pX,mono];congr 1;refine Xu λj=>?_
 simp only[Ji,List.getElem?_append,J9,X1];by_cases h:j=i
 ·subst h;simp
 ·rw[if_neg (by omega)];by_cases h2:j<i
  ·simp[h2];omega
  ·rw[if_neg (by omega),if_neg h2];cases hj:j-i with
   |zero=>omega
   |succ m=>simp
theorem lZ(i:Nat){x:Int}{y:Ur}(h:y.map SY=H9 x):(((List.replicate (i+1) [LV.bool false,LV.nils]).set i y).map λc=>c.map SY)=(mono i x).map H9:=by
 rw[V0,PM,h];exact wH i x
theorem XP{b:Um}{c:Int}{i:Nat}{q r:Um}{x:Int}(hx:x=if r.length=b.length+i then U8 r else 0):uR b c (i+1) (q,r)=uR b c i (stq c i x q,str b c i x r):=by
 subst hx;rfl
theorem Qbw{a b:Um}(ha:Pb a)(hb:Pb b)(h0:b.length≠0):Uj 395 [pr a,pr b] [pr (uR b (U8 b) (a.length+1-b.length) ([],a)).1,pr (Mc a b),.oi ((a.length+1-b.length:Nat):Int),.oi 0]:=by
 have hal:=ha.l;have hbl:=hb.l;have hlb:Ff (U8 b)<=16777216:=Pw hb.b;obtain⟨c,hc⟩:=nmE (U8 b);have cl:=Og hb.t hb.ln hb.bd;rw[show b.getD (b.length-1) 0=c from hc.symm]at cl;obtain⟨k,hk⟩:=nmE (a.length+1-b.length);unfold Mc;rw[<-hc,<-hk];rw[<-hc]at hlb;refine Hz func395 rfl ?_;refine Ue [.z 4,.k (Ss ha.t ha.ln ha.bd),.k (Ss hb.t hb.ln hb.bd),.f (by simpa using h0),.k cl,.k (L9 a),.k (L9 b),.r 27 (eI (b:=(k:Int)) (by omega))] rfl ?_;refine Ui (S:=Nat×Um×Um) 1 (λL1 s=>(4,.v (pr s.2.1))::(5,.v (pr s.2.2))::(9,.v (.oi ((s.1:Int)-1)))::L1) (λ_=>[.blk 55 (H9 c)]) (λs=>s.1) (λs=>s.1<=k/\Uz s.2.2/\s.2.1.length<=66/\s.2.2.length<=a.length/\Bd (16777216+(k-s.1)*16777224) s.2.1/\Bd (16777216+(k-s.1)*16777224) s.2.2/\uR b c s.1 s.2=uR b c k ([],a)) (k,[],a) ⟨Qj _,ha.t,by simp,Qj _,QI,by simpa using ha.b,rfl⟩ rfl rfl λ⟨i,q,r⟩ ⟨j1,j2,j3,j4,j5,j6,j7⟩=>?_
 dsimp only at j1 j2 j3 j4 j5 j6 j7 ⊢;rw[<-j7];cases i with
 |zero=>exact Uf [.f (by simp)] rfl
 |
  succ i =>
  obtain⟨x,hx⟩:=nmE (if r.length=b.length+i then U8 r else 0);obtain⟨u,hu⟩:=nmE (16777216+(k-(i+1))*16777224);rw[<-hu]at j5 j6;have hub:u<=1107296256:=by
   have:(k-(i+1))*16777224<=64*16777224:=Qw _ (by omega);omega
  have hxs:Ff x<=u:=by
   rw[hx];split
   ·exact Pw j6
   ·rw[Nf];exact Qg _
  have cs:=Di (p:=q) (c:=c) (by omega) (Uv j5 (by omega)) (by omega);have cs2:=Di (p:=r) (c:=c) (by omega) (Uv j6 (by omega)) (by omega);have l1:=Ft q c;have l2:=Ft r c;have ca:=rK (p:=Fc q c) (q:=mono i x) (by omega) (by rw[Is];omega) (Uv (Fw j5 hlb) (by omega)) (Uv (MW hxs) (by omega));have cm:=qV (p0:=mono i x) hb.t (by rw[Is];omega) (by omega) (MW hxs) hb.b (by omega);have l3:=zN (i:=i) (x:=x) (b:=b);have cb:=MH (p:=Fc r c) (q:=U9 (trim (mono i x)) b) (by omega) (by omega) (Uv (Fw j6 hlb) (by omega)) (Uv (nK hb.b hxs (by omega)) (by omega));have hst:=XP (b:=b) (c:=c) (q:=q) hx;have hI:i<=k/\Uz (str b c i x r)/\(stq c i x q).length<=66/\(str b c i x r).length<=a.length/\Bd (16777216+(k-i)*16777224) (stq c i x q)/\Bd (16777216+(k-i)*16777224) (str b c i x r):=by
   have l5:=Qke (c:=c) (x:=x) (i:=i) (q:=q);have l6:=zC (c:=c) (x:=x) (i:=i) (b:=b) (r:=r);have hku:u+16777216+8=16777216+(k-i)*16777224:=by
    rw[hu,show k-i=(k-(i+1))+1 from by omega,Jm];omega
   refine⟨by omega,U7 _ _,by omega,by omega,?_,?_⟩
   ·rw[<-hku];exact Qoa j5 hlb hxs
   ·rw[<-hku];exact gP j6 hb.b hlb hxs (by omega)
  rw[hst];by_cases h:r.length=b.length+i
  ·refine Ue [.t (by simp <;> omega),.k (L9 r),.k (L9 b),.t (by simp;omega),.k (Og j2 (by omega) (Uv j6 (by omega))),.r 44 (eI (b:=((i+1:Nat):Int)) (by omega)),.i (i+1),.i (i+1),.r 47 (eI (b:=(i:Int)) (by omega)),.i i] rfl ?_;refine nl 2 rfl rfl rfl ?_;rw[lZ i (x:=x) (by rw[hx,if_pos h];rfl)];refine Ue [.k cs,.k ca,.k cs2,.k cm,.k cb,.r 33 (eI (b:=(i:Int)-1) (by omega))] rfl ?_;exact rd (i,stq c i x q,str b c i x r) (by dsimp only;omega) ⟨hI.1,hI.2.1,hI.2.2.1,hI.2.2.2.1,hI.2.2.2.2.1,hI.2.2.2.2.2,rfl⟩ rfl
  ·refine Ue [.t (by simp <;> omega),.k (L9 r),.k (L9 b),.f (by simp;omega),.r 44 (eI (b:=((i+1:Nat):Int)) (by omega)),.i (i+1),.i (i+1),.r 47 (eI (b:=(i:Int)) (by omega)),.i i] rfl ?_;refine nl 2 rfl rfl rfl ?_;rw[lZ i (x:=x) (by rw[hx,if_neg h,Er];rfl)];refine Ue [.k cs,.k ca,.k cs2,.k cm,.k cb,.r 33 (eI (b:=(i:Int)-1) (by omega))] rfl ?_;exact rd (i,stq c i x q,str b c i x r) (by dsimp only;omega) ⟨hI.1,hI.2.1,hI.2.2.1,hI.2.2.2.1,hI.2.2.2.2.1,hI.2.2.2.2.2,rfl⟩ rfl
theorem Qfy{b:Um}{c:Int}(hb:Bd 16777216 b)(hc:Ff c<=16777216){n:Nat}:∀(i u:Nat) (q r:Um),i<=64->i+b.length<=n+1->Uz r->r.length<=n->Bd u r->Uz (uR b c i (q,r)).2/\(uR b c i (q,r)).2.length<=n/\Bd (u+i*16777224) (uR b c i (q,r)).2
 | 0,u,q,r,_,_,h1,h2,h3=>⟨h1,h2,by simpa[uR]using h3⟩
 |
  i+1,u,q,r,hi,hn,h1,h2,h3=>by
  rw[XP rfl];have hx:Ff (if r.length=b.length+i then U8 r else 0)<=u:=by
   split
   ·exact Pw h3
   ·rw[Nf];exact Qg _
  have l6:=zC (c:=c) (x:=if r.length=b.length+i then U8 r else 0) (i:=i) (b:=b) (r:=r);have:=Qfy hb hc (n:=n) i (u+16777216+8) (stq c i (if r.length=b.length+i then U8 r else 0) q) (str b c i (if r.length=b.length+i then U8 r else 0) r) (by omega) (by omega) (U7 _ _) (by omega) (gP h3 hb hc hx (by omega));exact⟨this.1,this.2.1,Uv this.2.2 (by omega)⟩
theorem lC{a b:Um}(ha:Pb a)(hb:Pb b)(h0:b.length≠0):Uz (Mc a b)/\(Mc a b).length<=a.length/\Bd 1107296256 (Mc a b):=by
 have hal:=ha.l;by_cases h:b.length<=a.length+1
 ·obtain⟨h1,h2,h3⟩:=Qfy hb.b (Pw hb.b) (n:=a.length) (a.length+1-b.length) 16777216 [] a (by omega) (by omega) ha.t (Qj _) ha.b;refine⟨h1,h2,Uv h3 ?_⟩;have:(a.length+1-b.length)*16777224<=64*16777224:=Qw _ (by omega);omega
 ·have e:Mc a b=a:=by unfold Mc;rw[show a.length+1-b.length=0 from by omega];rfl
  rw[e];exact⟨ha.t,Qj _,Uv ha.b (by omega)⟩
theorem UQ{a b r:Um}{s n:Nat}(h1:Uz r)(h2:r.length<=n)(h3:Bd s r):Uz (M4 a b r)/\(M4 a b r).length<=n/\Bd s (M4 a b r):=by
 unfold M4;split
 ·exact⟨U7 _ _,Qc (B9 r) h2,Oe h3⟩
 ·exact⟨h1,h2,h3⟩
theorem CP{r:Um}{s n:Nat}(h2:r.length<=n)(h3:Bd s r):Uz (Ev r)/\(Ev r).length<=n/\Bd s (Ev r):=by
 unfold Ev;split
 ·exact⟨rfl,by simp,QI⟩
 ·exact⟨O9 _ _,Qc (AE _ _) h2,MF h3 _⟩
theorem WI{a b:Um}(ha:Pb a)(hb:Pb b)(h0:b.length≠0):Uz (Ha a b)/\(Ha a b).length<=a.length/\Bd 1107296256 (Ha a b):=by
 obtain⟨h1,h2,h3⟩:=lC ha hb h0;obtain⟨h4,h5,h6⟩:=UQ (a:=a) (b:=b) h1 h2 h3;exact CP h5 h6
theorem Qby{a b:Um}(ha:Pb a)(hb:Pb b)(h0:b.length≠0):Uj 366 [pr a,pr b] [pr (Ha a b),.oi 0]:=by
 obtain⟨h1,h2,h3⟩:=lC ha hb h0;obtain⟨h4,h5,h6⟩:=UQ (a:=a) (b:=b) h1 h2 h3;have hal:=ha.l;have cp:=Qbw ha hb h0;have cl:=Og hb.t hb.ln hb.bd;have cn:=Qbt (p:=Mc a b) (by omega) (Uv h3 (by omega));unfold Ha;obtain⟨r,hr⟩:=nmE (M4 a b (Mc a b));have cc:=FU (p:=r) (by rw[hr];omega) (by rw[hr];exact Uv h6 (by omega));rw[<-hr]at h4 h5 h6 ⊢;obtain⟨k,hk⟩:=nmE (a.length+1-b.length);rw[<-hk]at cp;have em:((k:Int).tmod 2)=((k % 2:Nat):Int):=by rw[Y7 (by omega)];omega
 have key:Ev r=if r.length=0 then []else La r (S9 r):=rfl
 by_cases hz:r.length=0
 ·rw[key,if_pos hz];by_cases hodd:k % 2=1
  ·by_cases hneg:U8 b<0
   ·have e:r=P0 (Mc a b):=by rw[hr];unfold M4;rw[if_pos ⟨by rw[<-hk];exact hodd,hneg⟩]
    rw[e]at hz;exact Ug func366 rfl [.k cp,.f (by simp),.r 22 (eI em),.t (by simp;omega),.k cl,.t (by simpa[U8]using hneg),.k cn,.t (by simpa using hz)] rfl rfl (by simp[Uw])
   ·have e:r=Mc a b:=by rw[hr];unfold M4;rw[if_neg (λh=>hneg h.2)]
    rw[e]at hz;exact Ug func366 rfl [.k cp,.f (by simp),.r 22 (eI em),.t (by simp;omega),.k cl,.f (by simpa[U8]using hneg),.t (by simpa using hz)] rfl rfl (by simp[Uw])
  ·have e:r=Mc a b:=by rw[hr];unfold M4;rw[if_neg (λh=>hodd (by rw[hk];exact h.1))]
   rw[e]at hz;exact Ug func366 rfl [.k cp,.f (by simp),.r 22 (eI em),.f (by simp;omega),.f rfl,.t (by simpa using hz)] rfl rfl (by simp[Uw])
 ·rw[key,if_neg hz];have cd:=nL (p:=r) (g:=S9 r) (by omega) (Uv h6 (by omega)) (JR (Uv h6 (by omega))) (Iz h4 hz) Iy;by_cases hodd:k % 2=1
  ·by_cases hneg:U8 b<0
   ·have e:r=P0 (Mc a b):=by rw[hr];unfold M4;rw[if_pos ⟨by rw[<-hk];exact hodd,hneg⟩]
    rw[e]at hz cc cd ⊢;exact Ug func366 rfl [.k cp,.f (by simp),.r 22 (eI em),.t (by simp;omega),.k cl,.t (by simpa[U8]using hneg),.k cn,.f (by simpa using hz),.k cc,.k cd] rfl rfl (by simp[Uw])
   ·have e:r=Mc a b:=by rw[hr];unfold M4;rw[if_neg (λh=>hneg h.2)]
    rw[e]at hz cc cd ⊢;exact Ug func366 rfl [.k cp,.f (by simp),.r 22 (eI em),.t (by simp;omega),.k cl,.f (by simpa[U8]using hneg),.f (by simpa using hz),.k cc,.k cd] rfl rfl (by simp[Uw])
  ·have e:r=Mc a b:=by rw[hr];unfold M4;rw[if_neg (λh=>hodd (by rw[hk];exact h.1))]
   rw[e]at hz cc cd ⊢;exact Ug func366 rfl [.k cp,.f (by simp),.r 22 (eI em),.f (by simp;omega),.f rfl,.f (by simpa using hz),.k cc,.k cd] rfl rfl (by simp[Uw])
theorem Qj8{s:Nat}{x:Int}(h:Ff x<=s)(g:Int):Ff (x / g)<=s:=FW (p:=[x]) (λz hz=>by rw[Qo.1 hz];exact h) g _ (by simp)
def sta(b:Um)(i:Nat)(x:Int)(a:Um):Um:=Su a (U9 (trim (mono i x)) b)
theorem Qn9{u t i:Nat}{x:Int}{b a:Um}(ha:Bd u a)(hb:Bd t b)(hx:Ff x<=u)(hi:i<=64):Bd (u+t+8) (sta b i x a) :=
 Uv (Db ha (nK hb hx hi)) (by omega)
theorem dD{x:Int}{i:Nat}{b a:Um}:(sta b i x a).length<=max a.length (i+b.length):=by
 have h:=Px a (U9 (trim (mono i x)) b);have h2:=zN (i:=i) (x:=x) (b:=b);unfold sta;omega
theorem Qio(s n:Nat):Bd s (List.replicate n 0):=λz hz=>by rw[(List.mem_replicate.1 hz).2,Nf];exact Qg _
theorem Qn8{s i:Nat}{l:Um}{x:Int}(h:Bd s l)(hx:Ff x<=s):Bd s (l.set i x):=λz hz=>by
 rcases Yo hz with hz|rfl
 ·exact h z hz
 ·exact hx
theorem Qbs{a b q:Um}(ha:Pb a)(hb:Pb b)(h:O5 a b=some q):Uj 408 [pr a,pr b] [pr q,.oi 0]:=by
 unfold O5 at h
 split at h
 ·cases h
 rename_i h0;obtain⟨k,hk⟩:=nmE (a.length+1-b.length);rw[<-hk]at h;obtain⟨q',hq,hq2⟩:=Qi.1 h;obtain⟨rfl,hpb⟩:=ZX (Hj _) hq2;have hal:=ha.l;have hbl:=hb.l;refine Hz func408 rfl ?_;refine Ue [.k (Ss ha.t ha.ln ha.bd),.k (Ss hb.t hb.ln hb.bd),.f (by simpa using h0),.r 24 (eI (b:=(k:Int)) (by simp;omega)),.i k,.i k,.r 27 (eI (b:=(k:Int)) (by simp))] rfl ?_;refine nl 0 rfl rfl rfl ?_;rw[PM];refine Ui (S:=Nat×Um×Um) 1 (λL1 s=>(0,.v (pr s.2.1))::(7,.v (.oi ((s.1:Int)-1)))::L1) (λs=>[.row false 55 2 (s.2.2.map H9)]) (λs=>s.1) (λs=>s.1<=k/\Uz s.2.1/\s.2.1.length<=a.length/\Bd (16777216+(k-s.1)*16777224) s.2.1/\s.2.2.length=k/\Bd 1107296256 s.2.2/\xN b s.1 s.2.1 s.2.2=some q') (k,a,List.replicate k 0) ⟨Qj _,ha.t,Qj _,by simpa using ha.b,by simp,Qio _ _,hq⟩ rfl rfl λ⟨i,A,Q⟩ ⟨j1,j2,j3,j4,j5,j7,j6⟩=>?_
 dsimp only at j1 j2 j3 j4 j5 j6 j7 ⊢;cases i with
 |
  zero =>
  simp only[xN]at j6
  split at j6
  ·rename_i hA;injection j6 with j6;subst j6;exact Uf [.f (by simp),.f (by simpa using hA),.k (Lf (Ta Q) (by omega) (Uv j7 (by omega)))] rfl
  ·cases j6
 |
  succ i =>
  obtain⟨u,hu⟩:=nmE (16777216+(k-(i+1))*16777224);rw[<-hu]at j4;have hub:u<=1107296256:=by
   have:(k-(i+1))*16777224<=64*16777224:=Qw _ (by omega);omega
  have hku:u+16777216+8=16777216+(k-i)*16777224:=by
   rw[hu,show k-i=(k-(i+1))+1 from by omega,Jm];omega
  simp only[xN]at j6;by_cases hlt:A.length<b.length+i
  ·rw[if_pos hlt]at j6;refine Ue [.t (by simp <;> omega),.k (L9 A),.k (L9 b),.t (by simp;omega),.r 32 (eI (b:=(i:Int)-1) (by omega))] rfl ?_;exact rd (i,A,Q) (by dsimp only;omega) ⟨by dsimp only;omega,j2,j3,Uv j4 (by dsimp only;omega),j5,j7,j6⟩ rfl
  ·rw[if_neg hlt]at j6
   split at j6
   ·rename_i hdv;obtain⟨x,hx⟩:=nmE (U8 A / U8 b);rw[<-hx]at j6;have hxs:Ff x<=u:=by rw[hx];exact Qj8 (Pw j4) _
    have ce:=Ad (Fa (U8 A)) (Fa (U8 b)) (Qc (Pw j4) (by omega)) (Qc (Pw hb.b) (by omega)) (B8 hb.t h0) hdv;rw[<-hx]at ce;have cm:Uj 284 [.one (.row ((mono i x).map H9)),pr b] [pr (U9 (trim (mono i x)) b)]:=qV (p0:=mono i x) hb.t (by rw[Is];omega) (by omega) (MW hxs) hb.b (by omega);have l3:=zN (i:=i) (x:=x) (b:=b);have l4:=dD (i:=i) (x:=x) (b:=b) (a:=A);have cb:=MH (p:=A) (q:=U9 (trim (mono i x)) b) (by omega) (by omega) (Uv j4 (by omega)) (Uv (nK hb.b hxs (by omega)) (by omega));refine Ue [.t (by simp <;> omega),.k (L9 A),.k (L9 b),.f (by simp;omega),.k (Og j2 (by omega) (Uv j4 (by omega))),.k (Og hb.t hb.ln hb.bd),.k ce,.f rfl,.r 51 (eI (b:=(i:Int)) (by omega)),.i i,.r 55 (eI (b:=((i+1:Nat):Int)) (by omega)),.i (i+1),.i (i+1),.r 58 (eI (b:=(i:Int)) (by omega))] rfl ?_;refine nl 2 rfl rfl rfl ?_;rw[PM,pX];rw[<-wH i x]at cm;refine Ue [.i i,.k cm,.k cb,.r 32 (eI (b:=(i:Int)-1) (by omega))] rfl ?_;exact rd (i,sta b i x A,Q.set i x) (by dsimp only;omega) ⟨by dsimp only;omega,U7 _ _,by dsimp only;omega,by dsimp only;rw[<-hku];exact Qn9 j4 hb.b hxs (by omega),by simpa using j5,Qn8 j7 (Nat.le_trans hxs hub),j6⟩ rfl
   ·cases j6
theorem Qp1{a b q:Um}(h:O5 a b=some q):Pb q:=by
 unfold O5 at h
 split at h
 ·cases h
 ·obtain⟨q',_,hq2⟩:=Qi.1 h;obtain⟨rfl,hpb⟩:=ZX (Hj _) hq2;exact hpb
theorem Qrz{a b q:Um}(ha:Pb a)(hb:Pb b)(h:O5 a b=some q):Uj 391 [pr a,pr b] [pr q] :=
 Ug func391 rfl [.k (Qbs ha hb h)] rfl
theorem jO:∀{k:Nat} {a b g:Um},Pb a->Pb b->HB k a b=some g->Pb g
 | 0,_,_,_,_,_,h=>by cases h
 |
  k+1,a,b,g,ha,hb,h=>by
  simp only[HB]at h
  split at h
  ·injection h with h;subst h;exact ha
  ·rename_i h0;obtain⟨r,hr,h⟩:=Qi.1 h;obtain⟨rfl,hpb⟩:=ZX (WI ha hb h0).1 hr;exact jO hb hpb h
theorem Qcz{a b g:Um}(ha:Pb a)(hb:Pb b)(h:I4 a b=some g):Uj 362 [pr a,pr b] [pr g]:=by
 unfold I4 at h;obtain⟨g',h2,rfl⟩:=Option.map_eq_some_iff.1 h;have hg:=jO (Py ha) (Py hb) h2;refine Hz func362 rfl ?_;refine Ud [.k (KD ha),.k (KD hb)] rfl ?_;refine Ui (S:=Nat×Um×Um) 0 (λL1 s=>(0,.v (pr s.2.1))::(1,.v (pr s.2.2))::L1) (λ_=>[]) (λs=>s.1) (λs=>Pb s.2.1/\Pb s.2.2/\HB s.1 s.2.1 s.2.2=some g') (66,U5 a,U5 b) ⟨Py ha,Py hb,h2⟩ rfl rfl λ⟨k,A,C⟩ ⟨j1,j2,j3⟩=>?_
 dsimp only at j1 j2 j3 ⊢;cases k with
 |zero=>cases j3
 |
  succ k =>
  simp only[HB]at j3
  split at j3
  ·rename_i h0;injection j3 with j3;subst j3;exact Uf [.f (by simpa using h0),.k (KD j1)] rfl
  ·rename_i h0;obtain⟨r,hr,j3⟩:=Qi.1 j3;obtain⟨rfl,hpb⟩:=ZX (WI j1 j2 h0).1 hr;refine Ud [.t (by simp;omega),.k (Qby j1 j2 h0)] rfl ?_;exact rd (k,C,Ha A C) (by dsimp only;omega) ⟨j2,hpb,j3⟩ rfl
theorem xP{a b g:Um}(ha:Pb a)(hb:Pb b)(h:I4 a b=some g):Pb g:=by
 unfold I4 at h;obtain⟨g',h2,rfl⟩:=Option.map_eq_some_iff.1 h;exact Py (jO (Py ha) (Py hb) h2)
theorem Qoj{a b g:Um}(ha:Pb a)(hb:Pb b)(h:uJ a b=some g):Uj 289 [.one (.row (Eu [a,b]))] [pr g]:=by
 unfold uJ at h;obtain⟨g1,h1,h2⟩:=Qi.1 h;have hg1:=xP xT ha h1;refine Hz func289 rfl ?_;refine Ud [.z 3] rfl ?_;refine Ui (S:=Nat) 0 (λL1 i=>(8,.v (.oi i))::(3,.v (pr (if i=0 then []else if i=1 then g1 else g)))::L1) (λ_=>[]) (λi=>2-i) (λi=>i<=2) 0 (Qg _) rfl rfl λi hi=>?_
 rcases(show i=0\/i=1\/i=2 by omega)with rfl|rfl|rfl
 ·refine Ud [.t rfl,.x (C5 (i:=0) (p:=a) rfl),.k (Qcz xT ha h1)] rfl ?_ (by simp[Uw]);exact rd 1 (by omega) (by omega) rfl
 ·refine Ud [.t rfl,.x (C5 (i:=1) (p:=b) rfl),.k (Qcz hg1 hb h2)] rfl ?_ (by simp[Uw]);exact rd 2 (by omega) (by omega) rfl
 ·exact Uf [.f rfl] rfl
theorem Qp0{a b g:Um}(ha:Pb a)(hb:Pb b)(h:uJ a b=some g):Pb g:=by
 unfold uJ at h;obtain⟨g1,h1,h2⟩:=Qi.1 h;exact xP (xP xT ha h1) hb h2
theorem sL{p d:Um}(h:LZ (Fv p)=some d):d=Fv p/\Pb (Fv p):=ZX (U7 _ _) h
theorem Qb0{a g:Um}(ha:Pb a)(h:Sj a=some g):Uj 364 [pr a] [pr g]:=by
 have hp:=Py ha;unfold Sj at h
 split at h
 ·rename_i h0;injection h with h;subst h;exact Ug func364 rfl [.k (KD ha),.k (L9 _),.t (by simp;omega)] rfl
 ·rename_i h0;obtain⟨d,h1,h⟩:=Qi.1 h;obtain⟨rfl,hd⟩:=sL h1;obtain⟨g1,h1,h⟩:=Qi.1 h;exact Ug func364 rfl [.k (KD ha),.k (L9 _),.f (by simp;omega),.k (XO hp.ln hp.bd),.k (Qcz hp hd h1),.k (Qrz hp (xP hp hd h1) h)] rfl
theorem IG{a g:Um}(ha:Pb a)(h:Sj a=some g):Pb g:=by
 unfold Sj at h
 split at h
 ·injection h with h;subst h;exact Py ha
 ·obtain⟨d,h1,h⟩:=Qi.1 h;obtain⟨g1,h1,h⟩:=Qi.1 h;exact Qp1 h
theorem Qfm{p:Um}(h:Pb p):Pb (P0 p):=⟨U7 _ _,Qc (B9 p) h.l,Oe h.b⟩
theorem rA:∀{k:Nat} {a b:Um} {l:Un},Pb a->Pb b->LQ k a b=some l->l.length≤k/\∀p∈l,Pb p
 | 0,_,_,_,_,_,h=>by cases h
 |
  k+1,a,b,l,ha,hb,h=>by
  simp only[LQ]at h
  split at h
  ·injection h with h;subst h;exact⟨by simp,λp hp=>by cases hp⟩
  ·rename_i h0;obtain⟨r,hr,h⟩:=Qi.1 h;obtain⟨rfl,hpb⟩:=ZX (WI ha hb h0).1 hr;obtain⟨l',h1,h⟩:=Qi.1 h;injection h with h;subst h;obtain⟨i1,i2⟩:=rA hb (Qfm hpb) h1;refine⟨by simp;exact i1,λp hp=>?_⟩;rcases Qt.1 hp with rfl|hp
   ·exact hb
   ·exact i2 p hp
theorem chain_ok{p:Um}{l:Un}(hp:Pb p)(h:chain p=some l):l.length≤67/\∀q∈l,Pb q:=by
 unfold chain at h;obtain⟨a,h1,h⟩:=Qi.1 h;have ha:=IG hp h1
 split at h
 ·cases h
 ·obtain⟨d,h2,h⟩:=Qi.1 h;obtain⟨rfl,hd⟩:=sL h2;obtain⟨l',h3,h⟩:=Qi.1 h;injection h with h;subst h;obtain⟨i1,i2⟩:=rA ha (Py hd) h3;refine⟨by simp;omega,λp hp=>?_⟩;rcases Qt.1 hp with rfl|hp
  ·exact ha
  ·exact i2 p hp
theorem pJ(l:Un)(p:Um):Eu l++[[pl p]]=Eu (l++[p]):=by simp[Eu]
theorem IS(l:Un):(Eu l).length=l.length:=by simp[Eu]
theorem Qok{p:Um}{l:Un}(hp:Pb p)(h:chain p=some l):Uj 291 [pr p] [.one (.sh [.row (Eu l)]),.oi 0]:=by
 unfold chain at h;obtain⟨a,h1,h⟩:=Qi.1 h;have ha:=IG hp h1
 split at h
 ·cases h
 rename_i h0;obtain⟨d,h2,h⟩:=Qi.1 h;obtain⟨rfl,hd⟩:=sL h2;obtain⟨l',h3,h⟩:=Qi.1 h;injection h with h;subst h;refine Hz func291 rfl ?_;refine Ud [.k (Qb0 hp h1),.f (by simpa using h0),.lo,.k (XO ha.ln ha.bd),.k (Qce hd.t hd.ln' hd.bd)] rfl ?_ (by simp[Uw]);obtain⟨z,hz⟩:=nmE (if (Fv a).length=0 then 0 else G0 (Fv a));rw[<-hz];refine sb [(4,.v (pr a)),(7,.v (pr (U5 (Fv a)))),(5,.v (.one (.ow 1 0)))] [.row false 52 1 [[pl a]],.blk 403 [.orow 0 1 none],.blk 55 (H9 z)] rfl rfl ?_;have hll:=(rA ha (Py hd) h3).1;refine Ui (S:=Nat×Un×Um×Um) 3 (λL1 s=>(4,.v (pr s.2.2.1))::(7,.v (pr s.2.2.2))::L1) (λs=>[.row false 52 1 (Eu s.2.1),.blk 403 [.orow 0 1 none],.blk 55 (H9 z)]) (λs=>s.1) (λs=>Pb s.2.2.1/\Pb s.2.2.2/\∃m,LQ s.1 s.2.2.1 s.2.2.2=some m/\s.2.1++m=a::l') (66,[a],a,U5 (Fv a)) ⟨ha,Py hd,l',h3,rfl⟩ rfl rfl λ⟨k,out,A,C⟩ ⟨j1,j2,m,j3,j4⟩=>?_
 dsimp only at j1 j2 j3 j4 ⊢;have hol:out.length<=67:=by have:=congrArg List.length j4;simp at this;omega
 cases k with
 |zero=>cases j3
 |
  succ k =>
  simp only[LQ]at j3
  split at j3
  ·rename_i h0;injection j3 with j3;subst j3;rw[Xi]at j4;rw[<-j4];exact Uf [.f (by simpa using h0)] rfl
  ·rename_i h0;obtain⟨r,hr,j3⟩:=Qi.1 j3;obtain⟨rfl,hpb⟩:=ZX (WI j1 j2 h0).1 hr;obtain⟨m',j6,j5⟩:=Qi.1 j3;injection j5 with j5;subst j5;refine go tt [.t (by simp;omega),.s (sz:=1) (λc hc=>by rw[Qo.1 hc];rfl),.k (Qby j1 j2 h0),.k (Qbt hpb.ln hpb.bd)] rfl (by simp[Uw,IS];omega) ?_;exact rd (k,out++[C],C,P0 (Ha A C)) (by dsimp only;omega) ⟨j2,Qfm hpb,m',j6,by rw[<-j4];simp⟩ (by rw[pJ];rfl)
end Orr
