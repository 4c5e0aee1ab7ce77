/- T4 T5 T6 T7 T8 T9 T10 T11 T12 T13 CrvL CrowdL PredL CertL Y1 Y2 Q1 C1 C2 D1 E1 AlgL F1 F2 -/
import Derived.Test.YtdcbpgmmopdelaaGreatPart04
import Derived.Test.YtdcbpgmmopdelaaGreatPart00
set_option linter.all false
namespace Orq
theorem Qzq(z:Rat):∃n:Nat,z<=(n:Rat):=by
 refine⟨z.ceil.toNat,?_⟩;have h1:z<=(z.ceil:Rat):=Rat.le_ceil;have h2:(z.ceil:Rat)<=((z.ceil.toNat:Int):Rat):=Jx.2 (Int.self_le_toNat _);exact Zi h1 h2
theorem YJ{z e:Rat}(he:0<e):∃n:Nat,z<=(n:Rat)*e:=by
 obtain⟨n,hn⟩:=Qzq (z / e);exact⟨n,by have:=Q6 hn (Qm he);rwa[Ht he]at this⟩
theorem GE{R x y t:Rat}(hx:Gw x<=R)(hy:Gw y<=R)(h1:x<=t)(h2:t<=y):Gw t<=R:=by
 rw[Mg]at *;constructor <;> grind
def Qcu(f w:Fw)(L:Fx)(x y:Rat):Prop :=
 vv L y<=vv L x/\(vv L x=vv L y->Sm f x y/\Sm w x y)/\(vv L x=vv L y+1->M8 f x≠0/\M8 f y=-M8 f x)
theorem Qbf{f w:Fw}{L:Fx}{x y:Rat}(h:Qfn f w L x y):Qcu f w L x y:=by
 rcases h with⟨h1,h2,h3⟩|⟨h1,h2,h3,_⟩
 ·exact⟨by omega,λ_=>⟨h2,h3⟩,λh=>by omega⟩
 ·exact⟨by omega,λh=>by omega,λ_=>⟨h2,h3⟩⟩
theorem mV{w:Fw}{x y z:Rat}(h1:Sm w x y)(h2:Sm w y z):Sm w x z:=⟨by rw[h2.s,h1.l],by rw[h2.l,h1.l],h1.n⟩
theorem dP{f w:Fw}{L:Fx}{x y z:Rat}(h:Qcu f w L x y)(h':Qcu f w L y z):Qcu f w L x z:=by
 obtain⟨a1,a2,a3⟩:=h;obtain⟨b1,b2,b3⟩:=h';refine⟨by omega,λh=>?_,λh=>?_⟩
 ·obtain⟨s1,s2⟩:=a2 (by omega);obtain⟨s3,s4⟩:=b2 (by omega);exact⟨mV s1 s3,mV s2 s4⟩
 ·by_cases e:vv L x=vv L y
  ·obtain⟨s1,_⟩:=a2 e;obtain⟨s3,s4⟩:=b3 (by omega);exact⟨s1.n,by rw[s4,s1.l]⟩
  ·obtain⟨s3,s4⟩:=a3 (by omega);obtain⟨s1,_⟩:=b2 (by omega);exact⟨s3,by rw[s1.l,s4]⟩
theorem Qup{R:Rat}(hR:0<=R){f w u:Fw}{L:Fx}(hc:WP f L)(h:∀t,ev f t=ev w t*ev u t){x y:Rat}(hx:Gw x<=R)(hy:Gw y<=R)(hxy:x<y):Qcu f w L x y:=by
 obtain⟨e,ep,hl⟩:=loc hR hc h;have key:∀n:Nat,∀x,Gw x<=R->x<y->y-x<=(n:Rat)*e->Qcu f w L x y:=by
  intro n
  induction n with
  |zero =>
   intro x hx hxy h;exfalso;have:((0:Nat):Rat)*e=0:=by simp
   grind
  |
   succ n ih =>
   intro x hx hxy hn;rcases Hq (y-x) e with h1|h1
   ·exact Qbf (hl x y hx hy hxy h1)
   ·have hm:Gw (x+e)<=R:=GE hx hy (by clear hl ih;grind) (by clear hl ih;grind);have hn':(((n+1:Nat):Rat))=(n:Rat)+1:=by push_cast;rfl
    refine dP (Qbf (hl x (x+e) hx hm (by clear hl ih;grind) (by clear hl ih;grind))) (ih (x+e) hm (by clear hl ih;grind) ?_);rw[hn']at hn;clear hl ih;grind
 obtain⟨n,hn⟩:=YJ (z:=y-x) ep;exact key n x hx hxy hn
theorem yW(x y:Rat):∃R:Rat,0<=R/\Gw x<=R/\Gw y<=R:=by
 refine⟨Gw x+Gw y,?_,?_,?_⟩ <;> (have:=Tx x;have:=Tx y;grind)
theorem S6(t:Rat):ev [1] t=1:=by simp only[ev];grind
theorem E6{f:Fw}{L:Fx}(hc:WP f L){x y:Rat}(hxy:x<y):vv L y<=vv L x:=by
 obtain⟨R,hR,hx,hy⟩:=yW x y;exact(Qup hR hc (w:=f) (u:=[1]) (λt=>by rw[S6];grind) hx hy hxy).1
theorem UY{f w u:Fw}{L:Fx}(hc:WP f L)(h:∀t,ev f t=ev w t*ev u t){x y:Rat}(hxy:x<y)(he:vv L x=vv L y):Sm w x y:=by
 obtain⟨R,hR,hx,hy⟩:=yW x y;exact((Qup hR hc h hx hy hxy).2.1 he).2
theorem uE{f:Fw}{L:Fx}(hc:WP f L){x y:Rat}(hxy:x<y)(he:vv L x=vv L y):Sm f x y :=
 UY hc (w:=f) (u:=[1]) (λt=>by rw[S6];grind) hxy he
theorem uL{f:Fw}{L:Fx}(hc:WP f L){x y:Rat}(hxy:x<y)(he:vv L x=vv L y+1):M8 f x≠0/\M8 f y=-M8 f x:=by
 obtain⟨R,hR,hx,hy⟩:=yW x y;exact(Qup hR hc (w:=f) (u:=[1]) (λt=>by rw[S6];grind) hx hy hxy).2.2 he
theorem Qmu{f:Fw}{L:Fx}(hc:WP f L)(R:Rat)(hR:0<=R):∃e:Rat,0<e/\∀x y,Gw x<=R->Gw y<=R->x<y->y-x<=e->vv L x<=vv L y+1:=by
 obtain⟨e,ep,hl⟩:=loc hR hc (w:=f) (u:=[1]) (λt=>by rw[S6];grind);refine⟨e,ep,λx y hx hy hxy he=>?_⟩;rcases hl x y hx hy hxy he with⟨h,_⟩|⟨h,_⟩ <;> omega
theorem cont{p:Fw}{x:Rat}(h:Gt (ev p x)≠0):∃e:Rat,0<e/\∀y,Gw (y-x)<=e->Gt (ev p y)=Gt (ev p x):=by
 have hd:=Ly (x:=ev p x) λh0=>h (Ha.2 h0)
 have hR:0<=Gw x+1:=by have:=Tx x;grind
 obtain⟨e,e1,e2,e3⟩:=Ry (Bl hR p) hd;refine⟨e,e1,λy hy=>(Nq Ql (Bn (x:=x) (by grind) ?_ hR hy e3)).1⟩;have:=Mm (y-x) x;have e:y-x+x=y:=by grind
 rw[e]at this;grind
theorem Qsq{R M:Rat}{p:Fw}(hM:M=ddB R p)(hR:0<=R){h:Rat}(hh:0<h):∀(n:Nat) (x:Rat),Gw x<=R->Gw (x+(n:Rat)*h)<=R->(∀t,x<=t->t<=x+(n:Rat)*h->0<=dv p t)->ev p x-(n:Rat)*(h*h*M)<=ev p (x+(n:Rat)*h)
 |
  0,x,_,_,_=>by
  have e1:x+((0:Nat):Rat)*h=x:=by rw[show((0:Nat):Rat)=0 from rfl];grind
  have e2:((0:Nat):Rat)*(h*h*M)=0:=by simp
  rw[e1,e2];grind
 |
  n+1,x,hx,hy,hd=>by
  have hn':(((n+1:Nat):Rat))=(n:Rat)+1:=by push_cast;rfl
  rw[hn']at hy hd ⊢;have hn0:(0:Rat)<=(n:Rat):=Xs;have hnh:=Cm hn0 (Qm hh);have e1:x+((n:Rat)+1)*h=(x+h)+(n:Rat)*h:=by grind
  rw[e1]at hy hd ⊢;have hxh:Gw (x+h)<=R:=GE hx hy (by clear hd;grind) (by clear hd;grind);have ih:=Qsq hM hR hh n (x+h) hxh hy λt h1 h2=>hd t (by clear hd;grind) h2
  have h0:=hd x Ql (by clear hd;grind);have h1:=Qsg p (x+h) x;have h2:=Qhw hxh hx p;rw[<-hM,Mg]at h2;have h3:=Zt h2.1 (Cm (Qm hh) (Qm hh));have h4:=Cm (Qm hh) h0;have e2:x+h-x=h:=by grind
  rw[e2]at h1;clear hd hx hy hxh;grind
theorem Qye{p:Fw}{x y:Rat}(hxy:x<y)(hd:∀t,x<=t->t<=y->0<=dv p t):ev p x<=ev p y:=by
 obtain⟨R,hR,hx,hy⟩:=yW x y;rcases Hq (ev p x) (ev p y)with h|h
 ·exact h
 ·exfalso;obtain⟨M,hM⟩:=nmE (ddB R p);have hM0:=LL hR p;rw[<-hM]at hM0;obtain⟨e,ep,_,he⟩:=Ry (b:=(y-x)*M) (d:=ev p x-ev p y) (Cm (by grind) hM0) (by grind);obtain⟨n,hn⟩:=YJ (z:=y-x) ep;have hn0:0<(n:Rat):=by
   rcases Hq (n:Rat) 0 with h'|h'
   ·have:=Q6 h' (Qm ep);clear hd;grind
   ·exact h'
  have hh:0<(y-x) / n:=Eh (by grind) hn0;have e1:(n:Rat)*((y-x) / n)=y-x:=by rw[Uz];exact Ht hn0
  have e2:x+(n:Rat)*((y-x) / n)=y:=by rw[e1];grind
  have h1:=Qsq hM hR hh n x hx (by rw[e2];exact hy) (by rw[e2];exact hd);rw[e2]at h1;have h2:(y-x) / n<=e:=by
   rcases Hq ((y-x) / n) e with h'|h'
   ·exact h'
   ·have:=Rat.mul_lt_mul_of_pos_left h' hn0;clear hd;grind
  have h3:(n:Rat)*((y-x) / n*((y-x) / n)*M)=((y-x) / n)*((y-x)*M):=by
   have:(n:Rat)*((y-x) / n*((y-x) / n)*M)=((n:Rat)*((y-x) / n))*(((y-x) / n)*M):=by grind
   rw[this,e1];grind
  have h4:=Q6 h2 (Cm (x:=y-x) (y:=M) (by grind) hM0);rw[h3]at h1;clear hd;grind
theorem Qqm{p:Fw}{x y:Rat}(hxy:x<y)(hd:∀t,x<=t->t<=y->0<dv p t):ev p x<ev p y:=by
 have hx:=hd x Ql (by grind);have hR:0<=Gw x+1:=by have:=Tx x;grind
 obtain⟨e,e1,e2,e3⟩:=Ry (LL hR p) hx;obtain⟨f,f1,f2,f3⟩:=min2 (a:=e) (b:=y-x) e1 (by grind);have hq:Gw (x+f)<=Gw x+1:=by
  have:=Mm x f;have:Gw f=f:=by unfold Gw;split <;> grind
  clear hd;grind
 have h1:=AL (p:=p) (x:=x) (y:=x+f) (R:=Gw x+1) (e:=e) (d:=dv p x) (by clear hd;grind) hq hR (by grind) (by grind) (by unfold Gw;split <;> clear hd <;> grind) e3;rw[Sk.2 hx,Sk]at h1;rcases Classical.em (x+f=y)with e|e
 ·rw[<-e];clear hd;grind
 ·have:=Qye (p:=p) (x:=x+f) (y:=y) (by clear hd;grind) λt h1 h2=>Qm (hd t (by clear hd;grind) h2)
  clear hd;grind
structure Cut(c:Rat->Int):Prop where
 val:∀q,c q=1\/c q=0\/c q=-1
 mono:∀q r,q<r->c q≠1->c r=-1
 up:∀q,c q=1->∃r,q<r/\c r=1
 dn:∀q,c q=-1->∃r,r<q/\c r=-1
 lo:∃q,c q=1
 hi:∃q,c q=-1
theorem Cut.mono'{c:Rat->Int}(h:Cut c){q r:Rat}(hqr:q<r)(hr:c r≠-1):c q=1:=by
 rcases Classical.em (c q=1)with e|e
 ·exact e
 ·exact absurd (h.mono q r hqr e) hr
theorem Cut.lt{c:Rat->Int}(h:Cut c){q r:Rat}(hq:c q=1)(hr:c r=-1):q<r:=by
 rcases Hq r q with e|e
 ·rcases Classical.em (r=q)with e'|e'
  ·rw[e']at hr;omega
  ·have:=h.mono r q (by grind) (by omega);omega
 ·exact e
theorem Cut.near{c:Rat->Int}(h:Cut c){e:Rat}(he:0<e):∃x y,c x=1/\c y=-1/\y-x<=e:=by
 obtain⟨a,ha⟩:=h.lo;obtain⟨b,hb⟩:=h.hi;have he2:0<e / 2:=Eh he (by decide);have h2:e / 2*2=e:=Ht (by decide);have key:∀(n:Nat) (a:Rat),c a=1->b-a<=(n:Rat)*(e / 2)->∃x y,c x=1/\c y=-1/\y-x<=e:=by
  intro n
  induction n with
  |
   zero =>
   intro a ha hn;have:=h.lt ha hb;rw[show((0:Nat):Rat)=0 from rfl]at hn;exfalso;grind
  |
   succ n ih =>
   intro a ha hn;have hn':(((n+1:Nat):Rat))=(n:Rat)+1:=by push_cast;rfl
   rw[hn']at hn;rcases h.val (a+e / 2)with h1|h1|h1
   ·exact ih _ h1 (by grind)
   ·exact⟨a,a+e,ha,h.mono (a+e / 2) _ (by grind) (by omega),by grind⟩
   ·exact⟨a,a+e / 2,ha,h1,by grind⟩
 obtain⟨n,hn⟩:=YJ (z:=b-a) he2;exact key n a ha hn
def E7(p:Fw)(c:Rat->Int):Prop:=∀d:Rat,0<d->∃x y,c x=1/\c y=-1/\∀q,x<=q->q<=y->Gw (ev p q)<d
def NZ(p:Fw)(c:Rat->Int)(s:Int):Prop:=∃d:Rat,0<d/\∃x y,c x=1/\c y=-1/\∀q,x<=q->q<=y->Gt (ev p q)=s/\d<=Gw (ev p q)
def Nr(c:Rat->Int)(P:Rat->Prop):Prop:=∃x y,c x=1/\c y=-1/\∀q,x<=q->q<=y->P q
theorem kL{c:Rat->Int}{P Q:Rat->Prop}(h1:Nr c P)(h2:Nr c Q):Nr c λq=>P q/\Q q:=by
 obtain⟨x,y,a1,a2,a3⟩:=h1;obtain⟨x',y',b1,b2,b3⟩:=h2;refine⟨if x<=x' then x' else x,if y<=y' then y else y',by split <;> assumption,by split <;> assumption,λq q1 q2=>⟨a3 q ?_ ?_,b3 q ?_ ?_⟩⟩ <;> clear a3 b3 <;> grind
theorem BA{c:Rat->Int}{P Q:Rat->Prop}(h1:Nr c P)(h:∀q,P q->Q q):Nr c Q:=by
 obtain⟨x,y,a1,a2,a3⟩:=h1;exact⟨x,y,a1,a2,λq q1 q2=>h q (a3 q q1 q2)⟩
theorem IQ{c:Rat->Int}(hc:Cut c){P:Rat->Prop}(h1:Nr c P):∃q,P q/\c q=1:=by
 obtain⟨x,y,a1,a2,a3⟩:=h1;exact⟨x,a3 x Ql (Qm (hc.lt a1 a2)),a1⟩
theorem Qj4{c:Rat->Int}(hc:Cut c){e:Rat}(he:0<e){P:Rat->Prop}(h1:Nr c P):∃x y,c x=1/\c y=-1/\y-x<=e/\x<y/\∀q,x<=q->q<=y->P q:=by
 obtain⟨x,y,a1,a2,a3⟩:=h1;obtain⟨x',y',b1,b2,b3⟩:=hc.near he;refine⟨if x<=x' then x' else x,if y<=y' then y else y',by split <;> assumption,by split <;> assumption,by clear a3;grind,hc.lt (by split <;> assumption) (by split <;> assumption),λq q1 q2=>a3 q ?_ ?_⟩ <;> clear a3 <;> grind
theorem Qso{c:Rat->Int}(hc:Cut c):∃R:Rat,0<=R/\Nr c λq=>Gw q<=R:=by
 obtain⟨x,y,a1,a2,_⟩:=hc.near (e:=1) (by decide);obtain⟨R,hR,h1,h2⟩:=yW x y;exact⟨R,hR,x,y,a1,a2,λq q1 q2=>GE h1 h2 q1 q2⟩
theorem JR{c:Rat->Int}(hc:Cut c)(p:Fw):E7 p c\/∃s,s≠0/\NZ p c s:=by
 rcases Classical.em (E7 p c)with h|h
 ·exact .inl h
 ·refine .inr ?_;obtain⟨d,hd0⟩:=Classical.not_forall.1 h;obtain⟨dp,hd⟩:=Classical.not_imp.1 hd0;have hd:∀x y,c x=1->c y=-1->∃q,x<=q/\q<=y/\d<=Gw (ev p q):=λx y hx hy=>by
   rcases Classical.em (∃q,x<=q/\q<=y/\d<=Gw (ev p q))with h'|h'
   ·exact h'
   ·refine absurd ⟨x,y,hx,hy,λq h1 h2=>?_⟩ hd;rcases Hq d (Gw (ev p q))with h3|h3
    ·exact absurd ⟨q,h1,h2,h3⟩ h'
    ·exact h3
  obtain⟨R,hR,hn⟩:=Qso hc;have hd2:0<d / 2:=Eh dp (by decide);have h2:d / 2*2=d:=Ht (by decide);obtain⟨e,e1,_,e3⟩:=Ry (Bl hR p) hd2;obtain⟨x,y,hx,hy,hxy,_,hq⟩:=Qj4 hc e1 hn;obtain⟨r,r1,r2,r3⟩:=hd x y hx hy;have key:∀q,x<=q->q<=y->Gw (ev p q-ev p r)<d / 2:=λq q1 q2 =>
   Bn (hq r r1 r2) (hq q q1 q2) hR (by rw[Mg];clear hq hd;constructor <;> grind) e3
  refine⟨Gt (ev p r),λh0=>?_,d / 2,hd2,x,y,hx,hy,λq q1 q2=>⟨(Nq (d:=d) r3 ?_).1,?_⟩⟩
  ·rw[Ha.1 h0,Sw]at r3;clear hq hd key;grind
  ·have:=key q q1 q2;clear hq hd key;grind
  ·have h3:=key q q1 q2;have h4:=Mm (ev p r-ev p q) (ev p q);rw[show ev p r-ev p q+ev p q=ev p r from by clear hq hd key;grind,Qb9]at h4;clear hq hd key;grind
theorem uD{c:Rat->Int}(hc:Cut c){p:Fw}{s:Int}(h1:E7 p c)(h2:NZ p c s):False:=by
 obtain⟨d,dp,h2⟩:=h2;obtain⟨q,⟨a,b⟩,_⟩:=IQ hc (kL (h1 d dp) h2);exact absurd b.2 (J0.2 a)
theorem Qx0{c:Rat->Int}(hc:Cut c){p:Fw}{s s':Int}(h1:NZ p c s)(h2:NZ p c s'):s=s':=by
 obtain⟨_,_,h1⟩:=h1;obtain⟨_,_,h2⟩:=h2;obtain⟨q,⟨a,b⟩,_⟩:=IQ hc (kL h1 h2);rw[<-a.1,b.1]
theorem Ni{c:Rat->Int}(hc:Cut c){f p q:Fw}(hf:∀t,ev f t=ev p t*ev q t)(h:E7 p c):E7 f c:=by
 intro d dp;obtain⟨R,hR,hn⟩:=Qso hc;obtain⟨e,e1,_,e3⟩:=Ry (XE hR q) dp;refine BA (kL hn (h e e1)) λt ⟨h1,h2⟩=>?_
 rw[hf];have:=Rq (Qm h2) (MS h1 q);exact J0.1 λh=>absurd (Zi h this) (J0.2 e3)
theorem CB{c:Rat->Int}{f p q:Fw}(hf:∀t,ev f t=ev p t+ev q t)(h:E7 p c)(h':E7 q c):E7 f c:=by
 intro d dp;have hd2:0<d / 2:=Eh dp (by decide);have h2:d / 2*2=d:=Ht (by decide);refine BA (kL (h _ hd2) (h' _ hd2)) λt ⟨h1,h2⟩=>?_
 rw[hf];have:=Mm (ev p t) (ev q t);grind
def RS(p:Fw)(c:Rat->Int)(s:Int):Prop:=∃y,c y=-1/\∀q,c q=-1->q<=y->Gt (ev p q)=s
def LS(p:Fw)(c:Rat->Int)(s:Int):Prop:=∃x,c x=1/\∀q,c q=1->x<=q->Gt (ev p q)=s
theorem jU{c:Rat->Int}(hc:Cut c){p:Fw}{s:Int}(h:NZ p c s):RS p c s:=by
 obtain⟨d,dp,x,y,a1,a2,a3⟩:=h;exact⟨y,a2,λq h1 h2=>(a3 q (Qm (hc.lt a1 h1)) h2).1⟩
theorem Qbi{c:Rat->Int}(hc:Cut c){p:Fw}{s:Int}(h:NZ p c s):LS p c s:=by
 obtain⟨d,dp,x,y,a1,a2,a3⟩:=h;exact⟨x,a1,λq h1 h2=>(a3 q h2 (Qm (hc.lt h1 a2))).1⟩
theorem Qch{c:Rat->Int}{p:Fw}{s s':Int}(h:RS p c s)(h':RS p c s'):s=s':=by
 obtain⟨y,a1,a2⟩:=h;obtain⟨y',b1,b2⟩:=h';rcases Hq y y' with e|e
 ·rw[<-a2 y a1 Ql,<-b2 y a1 e]
 ·rw[<-a2 y' b1 (Qm e),<-b2 y' b1 Ql]
theorem Qst{c:Rat->Int}(hc:Cut c){p:Fw}(hv:E7 p c){y:Rat}(hy:c y=-1)(h:∀q,c q=-1->q<=y->0<dv p q)(q:Rat)(hq:c q=-1)(hqy:q<=y):0<ev p q:=by
 rcases Hq (ev p q) 0 with h0|h0
 ·exfalso;obtain⟨r,r1,r2⟩:=hc.dn q hq;have hr:ev p r<ev p q:=Qqm r1 λt t1 t2=>h t (by
   rcases Classical.em (r=t)with e|e
   ·rw[<-e];exact r2
   ·exact hc.mono r t (by clear h;grind) (by omega)) (Zi t2 hqy)
  obtain⟨a,b,ha,hb,hab⟩:=hv (-ev p r) (by clear h;grind);obtain⟨m,hm1,hm2,hm3⟩:∃m,c m=-1/\m<=b/\m<=r:=by
   rcases Hq b r with e|e
   ·exact⟨b,hb,Ql,e⟩
   ·exact⟨r,r2,Qm e,Ql⟩
  have h1:=hab m (Qm (hc.lt ha hm1)) hm2;have h2:ev p m<=ev p r:=by
   rcases Classical.em (m=r)with e|e
   ·rw[e];exact Ql
   ·exact Qm (Qqm (by clear h hab;grind) λt t1 t2=>h t (by
     rcases Classical.em (m=t)with e|e
     ·rw[<-e];exact hm1
     ·exact hc.mono m t (by clear h hab;grind) (by omega)) (by clear h hab;grind))
  rw[wM]at h1;clear h hab;grind
 ·exact h0
theorem wO{c:Rat->Int}(hc:Cut c){p:Fw}{s:Int}(hv:E7 p c)(h:RS (Co p) c s)(hs:s≠0):RS p c s:=by
 obtain⟨y,hy,h⟩:=h;have hsv:s=1\/s=-1:=by
  have:=h y hy Ql;rcases Hd (ev (Co p) y)with⟨e,_⟩|⟨e,_⟩|⟨e,_⟩ <;> omega
 rcases hsv with rfl|rfl
 ·refine⟨y,hy,λq h1 h2=>Sk.2 (Qst hc hv hy (λq h1 h2=>?_) q h1 h2)⟩;rw[<-Ss];exact Sk.1 (h q h1 h2)
 ·refine⟨y,hy,λq h1 h2=>M5.2 ?_⟩;have:=Qst hc (p:=Nj (-1) p) (y:=y) (λd dp=>BA (hv d dp) λq hq=>by rw[Hb,show -1*ev p q=-ev p q by grind,Aw];exact hq) hy (λq h1 h2=>by
   rw[SQ,<-Ss];have:=M5.1 (h q h1 h2);grind) q h1 h2
  rw[Hb]at this;grind
theorem Qsn{c:Rat->Int}(hc:Cut c){p:Fw}(hv:E7 p c){x:Rat}(hx:c x=1)(h:∀q,c q=1->x<=q->0<dv p q)(q:Rat)(hq:c q=1)(hxq:x<=q):ev p q<0:=by
 rcases Hq 0 (ev p q)with h0|h0
 ·exfalso;obtain⟨r,r1,r2⟩:=hc.up q hq;have hr:ev p q<ev p r:=Qqm r1 λt t1 t2=>h t (by
   rcases Classical.em (t=r)with e|e
   ·rw[e];exact r2
   ·exact hc.mono' (q:=t) (r:=r) (by clear h;grind) (by omega)) (Zi hxq t1)
  obtain⟨a,b,ha,hb,hab⟩:=hv (ev p r) (by clear h;grind);obtain⟨m,hm1,hm2,hm3⟩:∃m,c m=1/\a<=m/\r<=m:=by
   rcases Hq a r with e|e
   ·exact⟨r,r2,e,Ql⟩
   ·exact⟨a,ha,Ql,Qm e⟩
  have h1:=hab m hm2 (Qm (hc.lt hm1 hb));have h2:ev p r<=ev p m:=by
   rcases Classical.em (r=m)with e|e
   ·rw[e];exact Ql
   ·exact Qm (Qqm (by clear h hab;grind) λt t1 t2=>h t (by
     rcases Classical.em (t=m)with e|e
     ·rw[e];exact hm1
     ·exact hc.mono' (q:=t) (r:=m) (by clear h hab;grind) (by omega)) (by clear h hab;grind))
  rw[wM]at h1;clear h hab;grind
 ·exact h0
theorem Qjr{c:Rat->Int}(hc:Cut c){p:Fw}{s:Int}(hv:E7 p c)(h:LS (Co p) c s)(hs:s≠0):LS p c (-s):=by
 obtain⟨x,hx,h⟩:=h;have hsv:s=1\/s=-1:=by
  have:=h x hx Ql;rcases Hd (ev (Co p) x)with⟨e,_⟩|⟨e,_⟩|⟨e,_⟩ <;> omega
 rcases hsv with rfl|rfl
 ·refine⟨x,hx,λq h1 h2=>M5.2 (Qsn hc hv hx (λq h1 h2=>?_) q h1 h2)⟩;rw[<-Ss];exact Sk.1 (h q h1 h2)
 ·refine⟨x,hx,λq h1 h2=>Sk.2 ?_⟩;have:=Qsn hc (p:=Nj (-1) p) (x:=x) (λd dp=>BA (hv d dp) λq hq=>by rw[Hb,show -1*ev p q=-ev p q by grind,Aw];exact hq) hx (λq h1 h2=>by
   rw[SQ,<-Ss];have:=M5.1 (h q h1 h2);grind) q h1 h2
  rw[Hb]at this;grind
theorem Qqv{c:Rat->Int}(hc:Cut c){f g:Fw}{l:Fx}(h:SCl f g l):E7 f c->E7 g c->False:=by
 induction h with
 |
  @base f g k hk hg =>
  intro _ hv;obtain⟨q,hq,_⟩:=IQ hc (hv (Gw k) (Ly hk));rw[hg]at hq;grind
 |
  @step f g h l a b q ha hb he hl ih =>
  intro hf hg;refine ih hg ?_;have h1:E7 (H5 q g) c:=Ni hc (p:=g) (q:=q) (λt=>by rw[Gj];grind) hg;have h2:E7 (Nj (-a) f) c:=Ni hc (p:=f) (q:=[-a]) (λt=>by rw[Hb];simp only[ev];grind) hf;have h3:E7 (Sj (H5 q g) (Nj (-a) f)) c:=CB (λt=>Hl t _ _) h1 h2;refine Ni hc (p:=Sj (H5 q g) (Nj (-a) f)) (q:=[1 / b]) (λt=>?_) h3;have:=he t;rw[Hl,Gj,Hb];simp only[ev];have hbb:1 / b*b=1:=Ht hb;have:ev q t*ev g t+-a*ev f t=b*ev h t:=by rw[show -a*ev f t=-(a*ev f t) by grind,he t];grind
  rw[this];have:b*ev h t*(1 / b+t*0)=ev h t*(1 / b*b):=by grind
  rw[this,hbb];grind
theorem WU{c:Rat->Int}(hc:Cut c){f g:Fw}{k:Rat}(h:∀t,ev g t=k*ev f t)(hv:E7 f c):E7 g c :=
 Ni hc (p:=f) (q:=[k]) (λt=>by rw[h];simp only[ev];grind) hv
theorem Qq6{c:Rat->Int}(hc:Cut c){f:Fw}{L:Fx}(h:WP f L)(hv:E7 f c):∃s,s≠0/\NZ (Co f) c s:=by
 rcases JR hc (Co f)with h1|h1
 ·exfalso;rcases h with⟨k,hk,hf,_⟩|⟨g,l,k,hk,hg,h,_⟩
  ·obtain⟨q,hq,_⟩:=IQ hc (hv (Gw k) (Ly hk));rw[hf]at hq;grind
  ·exact Qqv hc h hv (WU hc (λt=>by rw[hg,Ss]) h1)
 ·exact h1
theorem Qaa{c:Rat->Int}(hc:Cut c){f w u:Fw}{L:Fx}(h:WP f L)(hf:∀t,ev f t=ev w t*ev u t)(hv:E7 w c):∃s,s≠0/\NZ (Co w) c s:=by
 rcases JR hc (Co w)with h1|h1
 ·exfalso;obtain⟨s,_,hs⟩:=Qq6 hc h (Ni hc hf hv);refine uD hc ?_ hs;have a1:E7 (H5 (Co w) u) c:=Ni hc (λt=>Gj t _ _) h1;have a2:E7 (H5 w (Co u)) c:=Ni hc (λt=>Gj t _ _) hv;refine CB (λt=>?_) a1 a2;rw[Ss,Oy hf,Gj,Gj,Ss,Ss]
 ·exact h1
theorem Qht{c:Rat->Int}(hc:Cut c){q:Rat}(h:c q=0){x y:Rat}(hx:c x=1)(hy:c y=-1):x<=q/\q<=y:=by
 constructor
 ·rcases Hq x q with e|e
  ·exact e
  ·have:=hc.mono q x e (by omega);omega
 ·rcases Hq q y with e|e
  ·exact e
  ·have:=hc.mono y q e (by omega);omega
theorem FR{c:Rat->Int}(hc:Cut c){p:Fw}{q:Rat}(h:c q=0)(hv:E7 p c):ev p q=0:=by
 rcases Classical.em (ev p q=0)with e|e
 ·exact e
 ·obtain⟨x,y,hx,hy,hq⟩:=hv _ (Ly e);obtain⟨h1,h2⟩:=Qht hc h hx hy;have:=hq q h1 h2;grind
theorem IX{c:Rat->Int}(hc:Cut c){p:Fw}{q:Rat}{s:Int}(h:c q=0)(hv:NZ p c s):Gt (ev p q)=s:=by
 obtain⟨d,dp,x,y,hx,hy,hq⟩:=hv;obtain⟨h1,h2⟩:=Qht hc h hx hy;exact(hq q h1 h2).1
theorem cX{c:Rat->Int}(hc:Cut c){y z:Rat}(hy:c y=-1)(hz:c z=-1):∃q,c q=-1/\q<y/\q<z:=by
 obtain⟨a,a1,a2⟩:=hc.dn y hy;obtain⟨b,b1,b2⟩:=hc.dn z hz;rcases Hq a b with e|e
 ·exact⟨a,a2,a1,by grind⟩
 ·exact⟨b,b2,by grind,b1⟩
theorem TL{c:Rat->Int}(hc:Cut c){y z:Rat}(hy:c y=1)(hz:c z=1):∃q,c q=1/\y<q/\z<q:=by
 obtain⟨a,a1,a2⟩:=hc.up y hy;obtain⟨b,b1,b2⟩:=hc.up z hz;rcases Hq a b with e|e
 ·exact⟨b,b2,by grind,b1⟩
 ·exact⟨a,a2,a1,by grind⟩
theorem dL{f w u:Fw}{L:Fx}(h:WP f L)(hf:∀t,ev f t=ev w t*ev u t){x y:Rat}(hv:vv L x=vv L y){c:Rat->Int}(hc:Cut c)(hx:c x=1)(hy:c y≠1):¬E7 w c:=λhw=>by
 have hxy:x<y:=by
  rcases Hq y x with e|e
  ·rcases Classical.em (y=x)with e'|e'
   ·rw[e']at hy;exact absurd hx hy
   ·have:=hc.mono y x (by grind) hy;omega
  ·exact e
 have hwv:=UY h hf hxy hv;rcases hc.val y with e|e|e
 ·exact hy e
 ·have:=FR hc e hw;have:=hwv.s;rw[Ha.2 (by assumption)]at this;exact hwv.n this.symm
 ·obtain⟨s,hs,hd⟩:=Qaa hc h hf hw;obtain⟨a,ha,hal⟩:=Qjr hc hw (Qbi hc hd) hs;obtain⟨b,hb,hbr⟩:=wO hc hw (jU hc hd) hs;obtain⟨q,q1,q2,q3⟩:=TL hc hx ha;obtain⟨r,r1,r2,r3⟩:=cX hc hb e;have e1:=hal q q1 (Qm q3);have e2:=hbr r r1 (Qm r2);have hqr:=hc.lt q1 r1;have v1:vv L q<=vv L x:=E6 h q2;have v2:vv L y<=vv L r:=E6 h r3;have v3:vv L r<=vv L q:=E6 h hqr;have s1:=(UY h hf q2 (by omega)).s;have s2:=(UY h hf (x:=x) (y:=r) (by grind) (by omega)).s;omega
theorem uT{f:Fw}{L:Fx}(h:WP f L){x y:Rat}(hxy:x<y)(hv:vv L x≠vv L y){d:Rat}(dp:0<d):∃q,x<=q/\q<=y/\Gw (ev f q)<d:=by
 obtain⟨R,hR,hx,hy⟩:=yW x y;obtain⟨e1,e1p,hl⟩:=loc hR h (w:=f) (u:=[1]) (λt=>by rw[S6];grind);obtain⟨e2,e2p,_,e2b⟩:=Ry (Bl hR f) dp;obtain⟨e,ep,h1,h2⟩:=min2 e1p e2p;have key:∀n:Nat,∀x,Gw x<=R->x<y->vv L x≠vv L y->y-x<=(n:Rat)*e->∃q,x<=q/\q<=y/\Gw (ev f q)<d:=by
  intro n
  induction n with
  |zero=>intro x hx hxy _ hn;rw[show((0:Nat):Rat)=0 from rfl]at hn;exfalso;clear hl;grind
  |
   succ n ih =>
   intro x hx hxy hv hn;have hstep:∀z,Gw z<=R->x<z->z-x<=e->vv L x≠vv L z->Gw (ev f z)<d:=λz hz hxz hze hv=>by
    rcases hl x z hx hz hxz (Zi hze h1)with⟨p,_⟩|⟨_,p1,p2,p3,p4⟩
    ·exact absurd p hv
    ·have hd:=Bn (p:=f) hx hz hR (e:=e2) (d:=d) (by rw[Mg];clear hl ih;constructor <;> grind) e2b;rw[<-p3]at p1 p4;clear hl ih p2 p3;rw[wM]at *;rcases Hd (ev f x)with⟨a,a'⟩|⟨a,a'⟩|⟨a,a'⟩ <;> rcases Hd (ev f z)with⟨b,b'⟩|⟨b,b'⟩|⟨b,b'⟩ <;> rw[a,b]at p4 <;> first|(exfalso;revert p4;decide)|skip
     all_goals first|(constructor <;> grind)|(exfalso;omega)
   rcases Hq (y-x) e with h3|h3
   ·exact⟨y,Qm hxy,Ql,hstep y hy hxy h3 hv⟩
   ·have hm:Gw (x+e)<=R:=GE hx hy (by clear hl ih hstep;grind) (by clear hl ih hstep;grind);rcases Classical.em (vv L x=vv L (x+e))with e0|e0
    ·have hn':(((n+1:Nat):Rat))=(n:Rat)+1:=by push_cast;rfl
     rw[hn']at hn;obtain⟨q,q1,q2,q3⟩:=ih (x+e) hm (by clear hl ih hstep;grind) (by omega) (by clear hl ih hstep;grind);exact⟨q,by clear hl ih hstep;grind,q2,q3⟩
    ·exact⟨x+e,by clear hl ih hstep;grind,by clear hl ih hstep;grind,hstep (x+e) hm (by clear hl ih hstep;grind) (by clear hl ih hstep;grind) e0⟩
 obtain⟨n,hn⟩:=YJ (z:=y-x) ep;exact key n x hx hxy hv hn
theorem Qxp{p:Fw}{x:Rat}(h:M8 p x≠0):∃e:Rat,0<e/\∀y,x<y->y-x<=e->Gt (ev p y)=M8 p x:=by
 by_cases h0:Gt (ev p x)=0
 ·have hx:=Ha.1 h0;rw[dB h0]at h ⊢;have hR:0<=Gw x+1:=by have:=Tx x;grind
  obtain⟨e,e1,e2,e3⟩:=Ry (LL hR p) (Ly (x:=dv p x) λh'=>h (Ha.2 h'));refine⟨e,e1,λy h1 h2=>?_⟩;have hy:Gw y<=Gw x+1:=by
   have:=Mm x (y-x);have e:x+(y-x)=y:=by grind
   have e':Gw (y-x)=y-x:=by unfold Gw;split <;> grind
   rw[e,e']at this;grind
  have:=AL (p:=p) (by grind) hy hR h1 h2 Ql e3;rw[hx]at this;rw[<-this];congr 1;grind
 ·rw[Iv h0]at h ⊢;obtain⟨e,e1,e2⟩:=cont h;exact⟨e,e1,λy h1 h2=>e2 y (by rw[Mg];constructor <;> grind)⟩
def cq(P:Fw)(lo hi q:Rat):Int:=if q<=lo then 1 else if hi<q then -1 else if Gt (ev P q)=0 then 0 else if Gt (ev P q)=M8 P lo then 1 else -1
structure Vt(P:List Rat)(L:List (List Rat))(lo hi:Rat):Prop where
 s:WP P L
 l:lo<hi
 v:vv L lo=vv L hi+1
variable{P:Fw}{L:Fx}{lo hi:Rat}
theorem Bj{q:Rat}(h:q<=lo):cq P lo hi q=1:=by unfold cq;rw[if_pos h]
theorem QL{q:Rat}(h:lo<hi)(h':hi<q):cq P lo hi q=-1:=by unfold cq;rw[if_neg (by grind),if_pos h']
theorem Dn{q:Rat}(h1:lo<q)(h2:q<=hi):cq P lo hi q=if Gt (ev P q)=0 then 0 else if Gt (ev P q)=M8 P lo then 1 else -1:=by
 unfold cq;rw[if_neg (by grind),if_neg (by grind)]
theorem Vt.two(V:Vt P L lo hi){q:Rat}(h1:lo<q)(h2:q<=hi):vv L q=vv L lo/\cq P lo hi q=1/\Gt (ev P q)=M8 P lo\/vv L q=vv L hi/\cq P lo hi q≠1/\M8 P q=-M8 P lo/\M8 P lo≠0:=by
 have a:=E6 V.s h1;have b:vv L hi<=vv L q:=by
  rcases Classical.em (q=hi)with e|e
  ·rw[e];exact Qn _
  ·exact E6 V.s (by grind)
 have hv:=V.v;rcases(show vv L q=vv L lo\/vv L q=vv L hi by omega)with e|e
 ·have hs:=uE V.s h1 e.symm;refine .inl ⟨e,?_,hs.s⟩;rw[Dn h1 h2,hs.s,if_neg hs.n,if_pos rfl]
 ·obtain⟨o1,o2⟩:=uL V.s h1 (by omega);refine .inr ⟨e,?_,o2,o1⟩;rw[Dn h1 h2]
  split
  ·decide
  ·rename_i h0;rw[Iv h0]at o2;rw[if_neg (by omega)];decide
theorem Vt.lowlo(V:Vt P L lo hi):M8 P lo≠0:=(uL V.s V.l V.v).1
theorem Vt.eq_lo(V:Vt P L lo hi){q:Rat}(h1:lo<q)(h2:q<=hi)(h:cq P lo hi q=1):vv L q=vv L lo:=by
 rcases V.two h1 h2 with⟨e,_⟩|⟨_,e,_⟩
 ·exact e
 ·exact absurd h e
theorem Vt.eq_hi(V:Vt P L lo hi){q:Rat}(h1:lo<q)(h2:q<=hi)(h:cq P lo hi q≠1):vv L q=vv L hi:=by
 rcases V.two h1 h2 with⟨_,e,_⟩|⟨e,_⟩
 ·exact absurd e h
 ·exact e
theorem Vt.hi1(V:Vt P L lo hi):cq P lo hi hi≠1:=λh=>by have:=V.eq_lo V.l Ql h;have:=V.v;omega
theorem Vt.cut(V:Vt P L lo hi):Cut (cq P lo hi) where
 val q:=by unfold cq;split <;> (try split) <;> (try split) <;> (try split) <;> simp
 mono q r h h1:=by
  have hq:lo<q:=by
   rcases Hq q lo with e|e
   ·exact absurd (Bj e) h1
   ·exact e
  rcases Hq r hi with e|e
  ·have e1:=V.eq_hi hq (by grind) h1;rcases V.two (q:=r) (by grind) e with⟨e2,_⟩|⟨e2,_,e3,e4⟩
   ·have:=E6 V.s h;have:=V.v;omega
   ·have hs:=uE V.s h (by omega);rcases V.two hq (by grind)with⟨e5,_⟩|⟨_,_,e5,_⟩
    ·have:=V.v;omega
    ·rw[Dn (by grind) e,hs.s,if_neg hs.n,e5,if_neg (by omega)]
  ·exact QL V.l e
 up q h:=by
  rcases Hq q lo with e|e
  ·obtain⟨d,dp,hd⟩:=Qxp V.lowlo;obtain⟨f,fp,f1,f2⟩:=min2 (a:=d) (b:=hi-lo) dp (by have:=V.l;grind);have h1:lo<lo+f:=by clear hd;grind
   have h2:lo+f<=hi:=by clear hd;grind
   have:=hd (lo+f) h1 (by clear hd;grind);exact⟨lo+f,by clear hd;grind,by rw[Dn h1 h2,this,if_neg V.lowlo,if_pos rfl]⟩
  ·have hh:q<=hi:=by
    rcases Hq q hi with e'|e'
    ·exact e'
    ·have:=QL (P:=P) V.l e';omega
   rcases V.two e hh with⟨e1,_,e2⟩|⟨_,e1,_⟩
   ·have hn:q≠hi:=λh=>by rw[h]at e1;have:=V.v;omega
    obtain⟨d,dp,hd⟩:=cont (p:=P) (x:=q) (by rw[e2];exact V.lowlo);obtain⟨f,fp,f1,f2⟩:=min2 (a:=d) (b:=hi-q) dp (by clear hd;grind);have:=hd (q+f) (by rw[Mg];clear hd;constructor <;> grind);exact⟨q+f,by clear hd;grind,by rw[Dn (by clear hd;grind) (by clear hd;grind),this,e2,if_neg V.lowlo,if_pos rfl]⟩
   ·exact absurd h e1
 dn q h:=by
  have hq:lo<q:=by
   rcases Hq q lo with e|e
   ·have:=Bj (P:=P) (hi:=hi) e;omega
   ·exact e
  rcases Hq q hi with e|e
  ·rw[Dn hq e]at h
   split at h
   ·cases h
   rename_i h0
   split at h
   ·cases h
   rename_i h1;obtain⟨d,dp,hd⟩:=cont h0;obtain⟨f,fp,f1,f2⟩:=min2 (a:=d) (b:=(q-lo) / 2) dp (Eh (by clear hd;grind) (by decide));have h2:(q-lo) / 2*2=q-lo:=Ht (by decide);have:=hd (q-f) (by rw[Mg];clear hd;constructor <;> grind);exact⟨q-f,by clear hd;grind,by rw[Dn (by clear hd;grind) (by clear hd;grind),this,if_neg h0,if_neg h1]⟩
  ·have h2:(q-hi) / 2*2=q-hi:=Ht (by decide);exact⟨q-(q-hi) / 2,by grind,QL V.l (by grind)⟩
 lo:=⟨lo,Bj Ql⟩
 hi:=⟨hi+1,QL V.l (by grind)⟩
theorem Vt.van(V:Vt P L lo hi):E7 P (cq P lo hi):=by
 have hc:=V.cut;rcases JR hc P with h|⟨s,hs,h⟩
 ·exact h
 ·exfalso;have e1:s=M8 P lo:=by
   obtain⟨x,hx,hx1⟩:=Qbi hc h;obtain⟨q,q1,q2,q3⟩:=TL hc hx (Bj (P:=P) (hi:=hi) (Ql (a:=lo)));have hq:q<=hi:=by
    rcases Hq q hi with e|e
    ·exact e
    ·have:=QL (P:=P) V.l e;omega
   rcases V.two q3 hq with⟨_,_,e⟩|⟨_,e,_⟩
   ·rw[<-hx1 q q1 (Qm q2),e]
   ·exact absurd q1 e
  rcases hc.val hi with e|e|e
  ·exact V.hi1 e
  ·have h0:=IX hc e h;rw[Dn V.l Ql]at e
   split at e
   ·omega
   ·split at e <;> omega
  ·obtain⟨y,hy,hy1⟩:=jU hc h;obtain⟨q,q1,q2,q3⟩:=cX hc hy e;have hq:lo<q:=hc.lt (Bj (P:=P) (hi:=hi) (Ql (a:=lo))) q1;have:=hy1 q q1 (Qm q2);rw[Dn hq (Qm q3),this,if_neg hs,if_pos e1]at q1;cases q1
def dK(w:Fw)(lo hi:Rat):Prop:=Gt (ev w hi)=0\/Gt (ev w hi)≠M8 w lo
theorem Vt.has(V:Vt P L lo hi){w u:Fw}(hf:∀t,ev P t=ev w t*ev u t){a b:Rat}(h1:lo<=a)(h2:a<b)(h3:b<=hi):dK w a b↔E7 w (cq P lo hi)/\cq P lo hi a=1/\cq P lo hi b≠1:=by
 have hc:=V.cut;have smno:vv L a=vv L b->¬dK w a b:=λh hh=>by
  have:=UY V.s hf h2 h;rcases hh with e|e
  ·rw[this.s]at e;exact this.n e
  ·exact e this.s
 by_cases ha:cq P lo hi a=1
 ·by_cases hb:cq P lo hi b=1
  ·have e1:=V.eq_lo (by grind) h3 hb;have e2:vv L a=vv L lo:=by
    rcases Classical.em (lo=a)with e|e
    ·rw[e]
    ·exact V.eq_lo (by grind) (by grind) ha
   exact⟨λh=>absurd h (smno (by omega)),λh=>absurd hb h.2.2⟩
  ·have e1:=V.eq_hi (by grind) h3 hb;have e2:vv L a=vv L lo:=by
    rcases Classical.em (lo=a)with e|e
    ·rw[e]
    ·exact V.eq_lo (by grind) (by grind) ha
   have left:∀s,LS w (cq P lo hi) s->s=M8 w a:=λs hs=>by
    obtain⟨x,hx,hx1⟩:=hs;obtain⟨q,q1,q2,q3⟩:=TL hc hx ha;have hqb:q<b:=by
     rcases Hq b q with e|e
     ·rcases Classical.em (b=q)with e'|e'
      ·rw[e']at hb;exact absurd q1 hb
      ·have:=hc.mono b q (by clear hx1 smno;grind) hb;omega
     ·exact e
    have:=V.eq_lo (q:=q) (by clear hx1 smno;grind) (by clear hx1 smno;grind) q1;rw[<-(UY V.s hf q3 (by omega)).s,hx1 q q1 (Qm q2)]
   have right:∀s,RS w (cq P lo hi) s->cq P lo hi b=-1->s=Gt (ev w b):=λs hs hb=>by
    obtain⟨y,hy,hy1⟩:=hs;obtain⟨q,q1,q2,q3⟩:=cX hc hy hb;have hqa:=hc.lt ha q1;have:=V.eq_hi (q:=q) (by clear hy1 smno;grind) (by clear hy1 smno;grind) (by omega);have hs:=UY V.s hf q3 (by omega);have hl:=hy1 q q1 (Qm q2);have h0:Gt (ev w q)≠0:=by
     have hs2:=UY V.s hf (x:=q) (y:=b) q3 (by omega);intro h0;obtain⟨r,r1,r2⟩:=hc.dn q q1;have har:=hc.lt ha r2;have:=V.eq_hi (q:=r) (by clear hy1 smno;grind) (by clear hy1 smno;grind) (by omega);have hs3:=UY V.s hf (x:=r) (y:=q) r1 (by omega);have hs4:=hs3.s;rw[h0]at hs4;exact hs3.n hs4.symm
    rw[hs.s,Iv h0,hl]
   refine⟨λh=>⟨?_,ha,hb⟩,λ⟨hw,_,_⟩=>?_⟩
   ·rcases JR hc w with e|⟨s,BD,hs⟩
    ·exact e
    ·exfalso;have l1:=left s (Qbi hc hs);have r1:Gt (ev w b)=s:=by
      rcases hc.val b with e|e|e
      ·exact absurd e hb
      ·exact IX hc e hs
      ·exact(right s (jU hc hs) e).symm
     rcases h with h|h
     ·exact BD (by rw[<-r1];exact h)
     ·exact h (by rw[r1,l1])
   ·rcases hc.val b with e|e|e
    ·exact absurd e hb
    ·exact .inl (Ha.2 (FR hc e hw))
    ·obtain⟨s,BD,hs⟩:=Qaa hc V.s hf hw;have l1:=left _ (Qjr hc hw (Qbi hc hs) BD);have r1:=right _ (wO hc hw (jU hc hs) BD) e;exact .inr (by rw[<-l1,<-r1];omega)
 ·have hla:lo<a:=by
   rcases Classical.em (lo=a)with e|e
   ·rw[<-e]at ha;exact absurd (Bj Ql) ha
   ·grind
  have hb:cq P lo hi b≠1:=by have:=hc.mono a b h2 ha;omega
  have e1:=V.eq_hi hla (by grind) ha;have e2:=V.eq_hi (q:=b) (by grind) h3 hb;exact⟨λh=>absurd h (smno (by omega)),λh=>absurd h.2.1 ha⟩
theorem rM{c c':Rat->Int}(hc:Cut c)(hc':Cut c'){q:Rat}(h:c q≠c' q):∃r,(c r=-1/\c' r=1)\/(c r=1/\c' r=-1):=by
 rcases hc.val q with e|e|e <;> rcases hc'.val q with e'|e'|e'
 ·omega
 ·obtain⟨r,r1,r2⟩:=hc.up q e;exact⟨r,.inr ⟨r2,hc'.mono q r r1 (by omega)⟩⟩
 ·exact⟨q,.inr ⟨e,e'⟩⟩
 ·obtain⟨r,r1,r2⟩:=hc'.up q e';exact⟨r,.inl ⟨hc.mono q r r1 (by omega),r2⟩⟩
 ·omega
 ·obtain⟨r,r1,r2⟩:=hc'.dn q e';exact⟨r,.inr ⟨hc.mono' r1 (by omega),r2⟩⟩
 ·exact⟨q,.inl ⟨e,e'⟩⟩
 ·obtain⟨r,r1,r2⟩:=hc.dn q e;exact⟨r,.inl ⟨r2,hc'.mono' r1 (by omega)⟩⟩
 ·omega
theorem Vt.uniq(V:Vt P L lo hi){c:Rat->Int}(hc:Cut c)(h1:c lo=1)(h2:c hi≠1)(hv:E7 P c)(q:Rat):c q=cq P lo hi q:=by
 rcases Classical.em (c q=cq P lo hi q)with e|e
 ·exact e
 ·exfalso;obtain⟨r,⟨r1,r2⟩|⟨r1,r2⟩⟩:=rM hc V.cut e
  ·have hl:=hc.lt h1 r1;have hh:r<=hi:=by
    rcases Hq r hi with e|e
    ·exact e
    ·have:=QL (P:=P) V.l e;omega
   have:=V.eq_lo hl hh r2;exact dL V.s (w:=P) (u:=[1]) (λt=>by rw[S6];grind) (x:=lo) (y:=r) (by omega) hc h1 (by omega) hv
  ·have hl:lo<r:=by
    rcases Hq r lo with e|e
    ·have:=Bj (P:=P) (hi:=hi) e;omega
    ·exact e
   have hh:r<=hi:=by
    rcases Hq r hi with e|e
    ·exact e
    ·have:=hc.mono hi r e h2;omega
   have:=V.eq_hi hl hh (by omega);exact dL V.s (w:=P) (u:=[1]) (λt=>by rw[S6];grind) (x:=r) (y:=hi) (by omega) hc r1 h2 hv
theorem Vt.same(V:Vt P L lo hi){P':Fw}{L':Fx}{lo' hi':Rat}(V':Vt P' L' lo' hi'){g u u' U W:Fw}{k:Rat}(hk:k≠0)(h1:∀t,ev P t=ev g t*ev u t)(h2:∀t,ev P' t=ev g t*ev u' t)(h3:∀t,k*ev g t=ev U t*ev P t+ev W t*ev P' t){a b:Rat}(ha1:lo<=a)(ha2:lo'<=a)(ha:a=lo\/a=lo')(hb1:b<=hi)(hb2:b<=hi')(hb:b=hi\/b=hi'):(a<b/\dK g a b)↔∀q,cq P lo hi q=cq P' lo' hi' q:=by
 have hc:=V.cut;have hc':=V'.cut;constructor
 ·rintro⟨hab,hg⟩
  obtain⟨g1,g2,g3⟩:=(V.has h1 ha1 hab hb1).1 hg;obtain⟨g4,g5,g6⟩:=(V'.has h2 ha2 hab hb2).1 hg;intro q;refine(V.uniq hc' (by
   rcases Classical.em (lo=a)with e|e
   ·rw[e];exact g5
   ·exact hc'.mono' (q:=lo) (r:=a) (by grind) (by omega)) (λh=>?_) (Ni hc' h1 g4) q).symm
  rcases Classical.em (b=hi)with e|e
  ·rw[<-e]at h;exact g6 h
  ·have:=hc'.mono b hi (by grind) g6;omega
 ·intro h;have hcc:cq P' lo' hi'=cq P lo hi:=funext λq=>(h q).symm
  have e1:cq P lo hi a=1:=by
   rcases ha with rfl|rfl
   ·exact Bj Ql
   ·rw[h];exact Bj Ql
  have e2:cq P lo hi b≠1:=by
   rcases hb with rfl|rfl
   ·exact V.hi1
   ·rw[h];exact V'.hi1
  have hab:a<b:=by
   rcases Hq b a with e|e
   ·rcases Classical.em (b=a)with e'|e'
    ·rw[e']at e2;exact absurd e1 e2
    ·have:=hc.mono b a (by grind) e2;omega
   ·exact e
  have v1:=V.van;have v2:=V'.van;rw[hcc]at v2;have hg:E7 g (cq P lo hi):=by
   have a1:E7 (H5 U P) (cq P lo hi):=Ni hc (p:=P) (q:=U) (λt=>by rw[Gj];grind) v1;have a2:E7 (H5 W P') (cq P lo hi):=Ni hc (p:=P') (q:=W) (λt=>by rw[Gj];grind) v2;have a3:=CB (λt=>Hl t _ _) a1 a2;refine WU hc (k:=1 / k) (λt=>?_) a3;rw[Hl,Gj,Gj,<-h3];have:1 / k*(k*ev g t)=1 / k*k*ev g t:=by grind
   rw[this,show 1 / k*k=1 from Zb hk];grind
  exact⟨hab,(V.has h1 ha1 hab hb1).2 ⟨hg,e1,e2⟩⟩
end Orq
namespace Orq
theorem Qkk:∀(M:Nat) (f:Nat->Nat),(∀i,i<=M->f i<M)->∃i j,i<j/\j<=M/\f i=f j
 | 0,f,h=>absurd (h 0 (Qn _)) (Xo _)
 |
  M+1,f,h=>by
  rcases Classical.em (∃i,i<=M/\f i=f (M+1))with⟨i,h1,h2⟩|hn
  ·exact⟨i,M+1,by omega,Qn _,h2⟩
  ·have hne:∀i,i<=M->f i≠f (M+1):=λi hi e=>hn ⟨i,hi,e⟩
   obtain⟨i,j,h1,h2,h3⟩:=Qkk M (λi=>if f i=M then f (M+1)else f i) λi hi=>by
    have a1:=h i (by omega);have a2:=h (M+1) (Qn _);have a3:=hne i hi;show(if f i=M then f (M+1)else f i)<M
    split <;> omega
   refine⟨i,j,h1,by omega,?_⟩;have a1:=hne i (by omega);have a2:=hne j h2
   split at h3 <;> split at h3 <;> omega
def dg(B k i:Nat):Nat:=k / B^i % B
theorem oI(B k i:Nat):dg B k (i+1)=dg B (k / B) i:=by unfold dg;rw[Nat.pow_succ,Nat.mul_comm,Nat.div_div_eq_div_mul]
theorem Qhx{B:Nat}:∀(N:Nat) {k k':Nat},k<B^N->k'<B^N->(∀i,i<N->dg B k i=dg B k' i)->k=k'
 | 0,k,k',h,h',_=>by rw[Y9]at h h';omega
 |
  N+1,k,k',h,h',he=>by
  have h0:=he 0 (by omega);unfold dg at h0;rw[Y9,Nat.div_one,Nat.div_one]at h0;have hB:0<B:=by
   rcases Qy B with e|e
   ·rw[e,Zq,Vn]at h;omega
   ·exact e
  have h1:=Qhx N (k:=k / B) (k':=k' / B) (Ju (by rw[Zo,<-Zq];exact h)) (Ju (by rw[Zo,<-Zq];exact h')) λi hi=>by
   rw[<-oI,<-oI];exact he (i+1) (by omega)
  rw[<-U6 k B,<-U6 k' B,h0,h1]
def cd(B:Nat):Nat->(Nat->Nat)->Nat
 | 0,_=>0
 |E+1,x=>x 0+B*cd B E λe=>x (e+1)
theorem Qsa{B:Nat}:∀(E:Nat) {x:Nat->Nat},(∀e,e<E->x e<B)->cd B E x<B^E
 | 0,_,_=>by simp[cd]
 |
  E+1,x,h=>by
  have h1:=h 0 (by omega);have h2:=Qsa E (x:=λe=>x (e+1)) λe he=>h (e+1) (by omega)
  simp only[cd];have h3:B*cd B E (λe=>x (e+1))+B<=B*B^E:=by
   rw[<-Wi];exact Zl _ h2
  rw[Zq,Zo (B^E)];omega
theorem Qhk{B:Nat}:∀(E:Nat) {x y:Nat->Nat},(∀e,e<E->x e<B)->(∀e,e<E->y e<B)->cd B E x=cd B E y->∀e,e<E->x e=y e
 | 0,_,_,_,_,_,e,he=>by omega
 |
  E+1,x,y,hx,hy,h,e,he=>by
  have h1:=hx 0 (by omega);have h2:=hy 0 (by omega);simp only[cd]at h;have e0:x 0=y 0:=by
   have:=congrArg (· % B) h;simp only[Wa]at this;rwa[Xe h1,Xe h2]at this
  have e1:cd B E (λe=>x (e+1))=cd B E (λe=>y (e+1)):=Nat.eq_of_mul_eq_mul_left (by omega:0<B) (by omega);cases e with
  |zero=>exact e0
  |succ e=>exact Qhk E (λe he=>hx (e+1) (by omega)) (λe he=>hy (e+1) (by omega)) e1 e (by omega)
def sm:Nat->(Nat->Int)->Int
 | 0,_=>0
 |n+1,f=>sm n f+f n
theorem Ql6(f g:Nat->Int):∀n,sm n (λi=>f i-g i)=sm n f-sm n g
 | 0=>rfl
 |n+1=>by simp only[sm,Ql6 f g n];omega
theorem E3{f g:Nat->Int}:∀n,(∀i,i<n->f i=g i)->sm n f=sm n g
 | 0,_=>rfl
 |n+1,h=>by simp only[sm,E3 n (λi hi=>h i (by omega)),h n (by omega)]
theorem Ql5{f:Nat->Int}{b:Nat}:∀n,(∀i,i<n->(f i).natAbs<=b)->(sm n f).natAbs<=n*b
 | 0,_=>by simp[sm]
 |
  n+1,h=>by
  have h1:=Ql5 n λi hi=>h i (by omega)
  have h2:=h n (by omega);simp only[sm];rw[Xp];omega
theorem WQ{f:Nat->Int}:∀n,(∀i,i<n->f i=0)->sm n f=0
 | 0,_=>rfl
 |n+1,h=>by simp only[sm,WQ n (λi hi=>h i (by omega)),h n (by omega)];rfl
theorem eL(f:Nat->Int)(m:Nat):∀n,sm (m+n) f=sm m f+sm n λi=>f (m+i)
 | 0=>by simp[sm]
 |n+1=>by rw[<-Vd];simp only[sm,eL f m n];omega
theorem eA(f:Nat->Int)(J:Nat):∀b,sm (b*J) f=sm b λi=>sm J λj=>f (i*J+j)
 | 0=>by simp[sm]
 |b+1=>by rw[Xp,eL,eA f J b];rfl
theorem OJ{f:Nat->Int}{k:Nat}:∀n,k<n->(∀i,i<n->i≠k->f i=0)->sm n f=f k
 | 0,h,_=>by omega
 |
  n+1,h,h1=>by
  simp only[sm];rcases V8 (Nat.le_of_lt_succ h)with e|e
  ·rw[OJ n e λi hi=>h1 i (by omega),h1 n (by omega) (by omega)];omega
  ·subst e;rw[WQ k λi hi=>h1 i (by omega) (by omega)];omega
theorem Qvw{M:Nat->Nat->Int}{h N E H:Nat}(hM:∀e i,(M e i).natAbs<=h)(hc:(2*(N*(h*H))+1)^E<(H+1)^N) :
 ∃v:Nat->Int,(∀i,(v i).natAbs<=H)/\(∃i,i<N/\v i≠0)/\∀e,e<E->sm N (λi=>M e i*v i)=0:=by
 obtain⟨T,hT⟩:=nmE (N*(h*H));rw[<-hT]at hc;have hv:∀k i,dg (H+1) k i<=H:=λk i=>Nat.le_of_lt_succ (Xn _ (by omega))
 have hs:∀k e,(sm N λi=>M e i*(dg (H+1) k i:Int)).natAbs<=T:=λk e=>by
  rw[hT];refine Ql5 N λi _=>?_
  rw[Ya,Zw];exact Xi (hM e i) (hv k i)
 have him:∀k e,((sm N λi=>M e i*(dg (H+1) k i:Int))+T).toNat<2*T+1:=λk e=>by have:=hs k e;omega
 obtain⟨i,j,h1,h2,h3⟩:=Qkk ((2*T+1)^E) (λk=>cd (2*T+1) E λe=>((sm N λi=>M e i*(dg (H+1) k i:Int))+T).toNat) λk _=>Qsa E λe _=>him k e
 have h4:=Qhk E (λe _=>him i e) (λe _=>him j e) h3;refine⟨λn=>(dg (H+1) i n:Int)-dg (H+1) j n,λn=>?_,?_,λe he=>?_⟩
 ·have a1:=hv i n;have a2:=hv j n;show((dg (H+1) i n:Int)-dg (H+1) j n).natAbs<=H;omega
 ·rcases Classical.em (∃n,n<N/\(dg (H+1) i n:Int)-dg (H+1) j n≠0)with e|e
  ·exact e
  ·exfalso;have:i=j:=Qhx (B:=H+1) N (by omega) (by omega) λn hn=>by
    rcases Classical.em (dg (H+1) i n=dg (H+1) j n)with e'|e'
    ·exact e'
    ·exact absurd ⟨n,hn,by omega⟩ e
   omega
 ·have a1:=h4 e he;have a2:=hs i e;have a3:=hs j e;have:(sm N λn=>M e n*(dg (H+1) i n:Int))=sm N λn=>M e n*(dg (H+1) j n:Int):=by omega
  have e1:=Ql6 (λn=>M e n*(dg (H+1) i n:Int)) (λn=>M e n*(dg (H+1) j n:Int)) N;rw[this]at e1;rw[E3 N (g:=λn=>M e n*(dg (H+1) i n:Int)-M e n*(dg (H+1) j n:Int)) λn _=>Int.mul_sub _ _ _,e1];omega
def Gf:Ft->Rat->Rat
 | [],_=>0
 |a::p,t=>(a:Rat)+t*Gf p t
def sq:Nat->(Nat->Rat)->Rat
 | 0,_=>0
 |n+1,f=>sq n f+f n
theorem No{f g:Nat->Rat}:∀n,(∀i,i<n->f i=g i)->sq n f=sq n g
 | 0,_=>rfl
 |n+1,h=>by simp only[sq,No n (λi hi=>h i (by omega)),h n (by omega)]
theorem aQ(f g:Nat->Rat):∀n,sq n (λi=>f i+g i)=sq n f+sq n g
 | 0=>by simp only[sq];grind
 |n+1=>by simp only[sq,aQ f g n];grind
theorem VN(c:Rat)(f:Nat->Rat):∀n,sq n (λi=>c*f i)=c*sq n f
 | 0=>by simp only[sq];grind
 |n+1=>by simp only[sq,VN c f n];grind
theorem L9{f:Nat->Rat}:∀n,(∀i,i<n->f i=0)->sq n f=0
 | 0,_=>rfl
 |n+1,h=>by simp only[sq,L9 n (λi hi=>h i (by omega)),h n (by omega)];grind
theorem XY(f:Nat->Rat):∀n,sq (n+1) f=f 0+sq n λi=>f (i+1)
 | 0=>by simp only[sq];grind
 |n+1=>by rw[sq,XY f n];simp only[sq];grind
theorem Qsx{f:Nat->Rat}{b:Rat}:∀n,(∀i,i<n->Gw (f i)<=b)->Gw (sq n f)<=(n:Rat)*b
 | 0,_=>by rw[show((0:Nat):Rat)=0 from rfl];simp only[sq,Sw];grind
 |
  n+1,h=>by
  have h1:=Qsx n λi hi=>h i (by omega)
  have h2:=h n (by omega);have h3:=Mm (sq n f) (f n);have hn':(((n+1:Nat):Rat))=(n:Rat)+1:=by push_cast;rfl
  rw[hn'];simp only[sq];clear h;grind
def gc:Ft->Nat->Nat->Int
 | [],_,_=>0
 |c::B,k,j=>(if k=0/\j=0 then c else 0)+(if k=0 then 0 else gc B (k-1) j)-(if j=0 then 0 else gc B k (j-1))
def gB:Ft->Nat
 | []=>0
 |c::B=>max c.natAbs (2*gB B)
theorem BB:∀(B:Ft) (k j:Nat),B.length<=k+j->gc B k j=0
 | [],_,_,_=>rfl
 |
  c::B,k,j,h=>by
  simp only[Zf]at h;simp only[gc];rw[if_neg (by omega)];have e1:(if k=0 then 0 else gc B (k-1) j)=0:=by
   split
   ·rfl
   ·exact BB B _ _ (by omega)
  have e2:(if j=0 then 0 else gc B k (j-1))=0:=by
   split
   ·rfl
   ·exact BB B _ _ (by omega)
  rw[e1,e2];rfl
theorem Qio:∀(B:Ft) (k j:Nat),(gc B k j).natAbs<=gB B
 | [],_,_=>Qh _
 |
  c::B,k,j=>by
  have h1:=Qio B (k-1) j;have h2:=Qio B k (j-1);simp only[gc,gB];by_cases hk:k=0 <;> by_cases hj:j=0 <;> simp only[hk,hj,true_and,and_true,false_and,and_false,if_true,if_false] <;> (try subst hk) <;> (try subst hj) <;> omega
theorem Qip:∀(B:Ft) (b:Nat),B.length=b+1->(gc B 0 b).natAbs=(B.getD b 0).natAbs
 | [],_,h=>by simp at h
 | [c],0,_=>by simp[gc]
 |c::d::B,0,h=>by simp at h
 |
  c::B,b+1,h=>by
  have ih:=Qip B b (by simpa using h);simp only[gc];simp only[Yj,Q0];rw[if_pos trivial,if_neg (Nat.succ_ne_zero b),<-ih];omega
def E2(F:Nat->Nat->Int)(K J:Nat)(x y:Rat):Rat:=sq K λk=>sq J λj=>(F k j:Rat)*(y^k*x^j)
theorem cR(F G:Nat->Nat->Int)(K J:Nat)(x y:Rat):E2 (λk j=>F k j+G k j) K J x y=E2 F K J x y+E2 G K J x y:=by
 unfold E2;rw[<-aQ];refine No K λk _=>?_
 rw[<-aQ];exact No J λj _=>by push_cast;grind
theorem Qh6(c:Int)(F:Nat->Nat->Int)(K J:Nat)(x y:Rat):E2 (λk j=>F k j*c) K J x y=(c:Rat)*E2 F K J x y:=by
 unfold E2;rw[<-VN];refine No K λk _=>?_
 rw[<-VN];exact No J λj _=>by push_cast;grind
theorem Qh7(φ:Nat->Nat->Nat->Int)(v:Nat->Int)(K J:Nat)(x y:Rat):∀N,E2 (λk j=>sm N λn=>φ n k j*v n) K J x y=sq N λn=>(v n:Rat)*E2 (φ n) K J x y
 |
  0=>by
  simp only[sq,sm];unfold E2;refine L9 K λk _=>L9 J λj _=>?_
  rw[show((0:Int):Rat)=0 from rfl];grind
 |
  N+1=>by
  simp only[sq];rw[<-Qh7 φ v K J x y N,<-Qh6,<-cR];rfl
theorem HE(t:Rat)(i:Nat):∀k,t^(i+k)=t^i*t^k
 | 0=>by rw[Jd,Xt];grind
 |k+1=>by rw[<-Vd,Xh,Xh,HE t i k];grind
theorem OV(f:Nat->Rat):∀(i n:Nat),sq (i+n) (λk=>if i<=k then f (k-i)else 0)=sq n f
 |i,0=>L9 _ λk hk=>by rw[if_neg (by omega)]
 |
  i,n+1=>by
  rw[<-Vd];simp only[sq];rw[OV f i n,if_pos (by omega),J7]
def BX(i j':Nat)(F:Nat->Nat->Int)(k j:Nat):Int:=if i<=k then(if j'<=j then F (k-i) (j-j')else 0)else 0
theorem EW(F:Nat->Nat->Int)(i j' K J:Nat)(x y:Rat):E2 (BX i j' F) (i+K) (j'+J) x y=y^i*x^j'*E2 F K J x y:=by
 unfold E2;rw[<-VN,<-OV _ i K];refine No _ λk _=>?_
 by_cases hk:i<=k
 ·rw[if_pos hk,<-VN,<-OV _ j' J];refine No _ λj _=>?_
  unfold BX;rw[if_pos hk];by_cases hj:j'<=j
  ·rw[if_pos hj,if_pos hj];have e1:y^k=y^i*y^(k-i):=by rw[<-HE];congr 1;omega
   have e2:x^j=x^j'*x^(j-j'):=by rw[<-HE];congr 1;omega
   rw[e1,e2];grind
  ·rw[if_neg hj,if_neg hj,show((0:Int):Rat)=0 from rfl];grind
 ·rw[if_neg hk];refine L9 _ λj _=>?_
  unfold BX;rw[if_neg hk,show((0:Int):Rat)=0 from rfl];grind
def fA(A:Ft)(k j:Nat):Int:=if j=0 then A.getD k 0 else 0
theorem Qkj(y:Rat):∀(A:Ft) (K:Nat),A.length<=K->sq K (λk=>((A.getD k 0:Int):Rat)*y^k)=Gf A y
 | [],K,_=>by rw[L9];rfl;intro i _;simp
 |a::A,0,h=>by simp at h
 |
  a::A,K+1,h=>by
  have ih:=Qkj y A K (by simpa using h);rw[XY];simp only[Gf,Zr,Q0,Xt];rw[<-ih,<-VN];have:(sq K λi=>((A.getD i 0:Int):Rat)*y^(i+1))=sq K λi=>y*(((A.getD i 0:Int):Rat)*y^i):=No K λi _=>by rw[Xh];grind
  rw[this];grind
theorem Qxl(A:Ft)(K J:Nat)(x y:Rat)(h:A.length<=K):E2 (fA A) K (J+1) x y=Gf A y:=by
 rw[<-Qkj y A K h];refine No K λk _=>?_
 rw[XY,L9]
 ·simp only[fA,if_true,Xt];grind
 ·intro j _;simp only[fA];rw[if_neg (by omega),show((0:Int):Rat)=0 from rfl];grind
theorem Quf(x y:Rat):∀(B:Ft) (K J:Nat),B.length<=K->B.length<=J->E2 (gc B) K J x y=Gf B (y-x)
 |
  [],K,J,_,_=>by
  unfold E2;simp only[gc,Gf];exact L9 K λk _=>L9 J λj _=>by rw[show((0:Int):Rat)=0 from rfl];grind
 |c::B,0,J,h,_=>by simp at h
 |c::B,K+1,0,_,h=>by simp at h
 |
  c::B,K+1,J+1,h1,h2=>by
  have i1:=Quf x y B K (J+1) (by simpa using h1) (by simp at h2;omega);have i2:=Quf x y B (K+1) J (by simp at h1;omega) (by simpa using h2);have s1:=EW (gc B) 1 0 K (J+1) x y;have s2:=EW (gc B) 0 1 (K+1) J x y;rw[Xd,Yi 1 K]at s1;rw[Xd,Yi 1 J]at s2;rw[i1]at s1;rw[i2]at s2;have e0:E2 (fA [c]) (K+1) (J+1) x y=(c:Rat):=by rw[Qxl [c] (K+1) J x y (by simp)];simp only[Gf];grind
  have e1:gc (c::B)=λk j=>(fA [c] k j+BX 1 0 (gc B) k j)+BX 0 1 (gc B) k j*(-1):=by
   funext k j;simp only[gc,fA,BX];by_cases hk:k=0 <;> by_cases hj:j=0
   ·subst hk;subst hj;simp
   ·subst hk;simp[hj,show 1<=j by omega]
    try omega
   ·subst hj;obtain⟨m,rfl⟩:∃m,k=m+1:=⟨k-1,by omega⟩;simp
   ·obtain⟨m,rfl⟩:∃m,k=m+1:=⟨k-1,by omega⟩;obtain⟨i,rfl⟩:∃i,j=i+1:=⟨j-1,by omega⟩;simp;omega
  rw[e1,cR (λk j=>fA [c] k j+BX 1 0 (gc B) k j) (λk j=>BX 0 1 (gc B) k j*(-1)),cR (fA [c]) (BX 1 0 (gc B)),Qh6,e0,s1,s2];simp only[Gf,Xt,show y^1=y by rw[Xh,Xt];grind,show x^1=x by rw[Xh,Xt];grind];rw[show(((-1:Int)):Rat)=-1 from rfl];grind
def qQ(A B:Ft)(b J J' n k j:Nat):Int:=if n<b*J then BX (n / J) (n % J) (fA A) k j else BX ((n-b*J) / J') ((n-b*J) % J') (gc B) k j
theorem Qlx{F:Nat->Nat->Int}{h:Nat}(hF:∀k j,(F k j).natAbs<=h)(i j' k j:Nat):(BX i j' F k j).natAbs<=h:=by
 unfold BX;split
 ·split
  ·exact hF _ _
  ·exact Qh _
 ·exact Qh _
theorem Qsl{i b J j:Nat}(hi:i<b)(hj:j<J):i*J+j<b*J:=by
 have:(i+1)*J<=b*J:=Qx J hi;rw[Xp]at this;omega
theorem SL{i J j:Nat}(hj:j<J):(i*J+j) / J=i/\(i*J+j) % J=j:=by
 rw[Zo,U7 (by omega),U8,Ks hj,Xe hj];exact⟨by omega,rfl⟩
theorem jL(A B:Ft)(a b J J':Nat)(v:Nat->Int)(k j:Nat):sm (b*J+a*J') (λn=>qQ A B b J J' n k j*v n) =
 (sm b λi=>sm J λj1=>BX i j1 (fA A) k j*v (i*J+j1))+sm a λi=>sm J' λj1=>BX i j1 (gc B) k j*v (b*J+(i*J'+j1)):=by
 rw[eL,eA,eA];congr 1
 ·refine E3 b λi hi=>E3 J λj1 hj=>?_
  unfold qQ;rw[if_pos (Qsl hi hj),(SL hj).1,(SL hj).2]
 ·refine E3 a λi hi=>E3 J' λj1 hj=>?_
  unfold qQ;rw[if_neg (by omega),J7,(SL hj).1,(SL hj).2]
theorem Qxe(A:Ft)(v:Nat->Int){i J k j:Nat}(hj:j<J):(sm J λj1=>BX i j1 (fA A) k j*v (i*J+j1))=if i<=k then A.getD (k-i) 0*v (i*J+j)else 0:=by
 rw[OJ (k:=j) J hj λj1 _ hne=>?_]
 ·unfold BX fA;by_cases h:i<=k
  ·rw[if_pos h,if_pos h,if_pos (Qn _),if_pos (Yl _)]
  ·rw[if_neg h,if_neg h,Yw]
 ·unfold BX fA;by_cases h:i<=k
  ·rw[if_pos h];by_cases h':j1<=j
   ·rw[if_pos h',if_neg (by omega),Yw]
   ·rw[if_neg h',Yw]
  ·rw[if_neg h,Yw]
section
variable{A B:Ft}{a b J J':Nat}(hA:A.length=a+1)(hB:B.length=b+1)(lA:A.getD a 0≠0)(lB:B.getD b 0≠0)(hJ:J=J'+b){v:Nat->Int}(hW:∀k j,k<a+b->j<J->sm (b*J+a*J') (λn=>qQ A B b J J' n k j*v n)=0)
include hA lA hW in
theorem Qsc{jj:Nat}(hj:jj<J)(hV:∀k,a<=k->k<a+b->(sm a λi=>sm J' λj1=>BX i j1 (gc B) k jj*v (b*J+(i*J'+j1)))=0):∀d i,i<b->b-i<=d->v (i*J+jj)=0:=by
 intro d
 induction d with
 |zero=>intro i hi hd;omega
 |
  succ d ih =>
  intro i hi hd;have h1:=hW (i+a) jj (by omega) hj;rw[jL,hV (i+a) (by omega) (by omega)]at h1;rw[E3 b (λi' hi'=>Qxe A v hj)]at h1;rw[OJ (k:=i) b hi λi' hi' hne=>?_]at h1
  ·rw[if_pos (by omega),J7,Int.add_zero]at h1;rcases Yg.1 h1 with h2|h2
   ·exact absurd h2 lA
   ·exact h2
  ·rcases Q7 i i' with h|h
   ·rw[ih i' hi' (by omega)];simp
   ·rw[if_pos (by omega),Qc,Qt (by omega)];simp
include hA hB lA lB hJ hW in
theorem Qxj:∀d js,js<J'->J'-js<=d->∀i,i<a->v (b*J+(i*J'+js))=0:=by
 intro d
 induction d with
 |zero=>intro js hi hd;omega
 |
  succ d ih =>
  intro js hjs hd i hi;have hin:∀i' k,i'<a->(sm J' λj1=>BX i' j1 (gc B) k (js+b)*v (b*J+(i'*J'+j1)))=if i'=k then gc B 0 b*v (b*J+(i'*J'+js))else 0:=λi' k hi'=>by
   rw[OJ (k:=js) J' hjs λj1 hj1 hne=>?_]
   ·unfold BX;by_cases h:i'<=k
    ·rw[if_pos h,if_pos (by omega),J7];by_cases h':i'=k
     ·rw[if_pos h',h',Yl]
     ·rw[if_neg h',BB B _ _ (by omega),Yw]
    ·rw[if_neg h,if_neg (by omega),Yw]
   ·rcases Q7 js j1 with h|h
    ·rw[ih j1 hj1 (by omega) i' hi',Kj]
    ·unfold BX;by_cases h':i'<=k
     ·rw[if_pos h',if_pos (by omega),BB B _ _ (by omega),Yw]
     ·rw[if_neg h',Yw]
  have hU:=Qsc hA lA hW (jj:=js+b) (by omega) (λk hk hk'=>WQ a λi' hi'=>by rw[hin i' k hi',if_neg (by omega)]) (b+1);have h1:=hW i (js+b) (by omega) (by omega);rw[jL,E3 a (λi' hi'=>hin i' i hi')]at h1;rw[WQ b λi' hi'=>by
   rw[Qxe A v (by omega),hU i' hi' (by omega)];simp]at h1
  rw[OJ (k:=i) a hi λi' hi' hne=>if_neg hne,if_pos rfl,Int.zero_add]at h1;rcases Yg.1 h1 with h2|h2
  ·have:=Qip B b hB;rw[h2]at this;omega
  ·exact h2
include hA hB lA lB hJ hW in
theorem Qft:∀n,n<b*J+a*J'->v n=0:=by
 intro n hn;have hV:=Qxj hA hB lA lB hJ hW;rcases Q7 n (b*J)with h|h
 ·have hJp:0<J:=by
   rcases Qy J with e|e
   ·rw[e,Vn]at h;omega
   ·exact e
  have e1:=Xn n hJp;have e2:n / J<b:=Ju (by rw[Zo];exact h);have:=Qsc hA lA hW e1 (λk _ _=>WQ a λi hi=>WQ J' λj1 hj1=>by rw[hV J' j1 hj1 (by omega) i hi,Kj]) (b+1) (n / J) e2 (Qe (Nat.sub_le _ _) (Nat.le_succ _));rwa[Zo,Xy]at this
 ·have hJp:0<J':=by
   rcases Qy J' with e|e
   ·rw[e,Vn]at hn;omega
   ·exact e
  have e1:=Xn (n-b*J) hJp;have e2:(n-b*J) / J'<a:=Ju (by rw[Zo J' a];omega);have:=hV J' _ e1 (by omega) _ e2;rw[Zo ((n-b*J) / J'),Xy]at this;rwa[show b*J+(n-b*J)=n by omega]at this
end
theorem KA{R x:Rat}(h1:1<=R)(hx:Gw x<=R):∀k:Nat,Gw (x^k)<=R^k/\1<=R^k
 | 0=>by rw[Xt,Xt];exact⟨by decide,by decide⟩
 |
  k+1=>by
  obtain⟨i1,i2⟩:=KA h1 hx k;rw[Xh,Xh];have:=Nh (a:=1) (c:=1) (by decide) i2 (by decide) h1;exact⟨Rq i1 hx,by grind⟩
theorem Qca{R:Rat}(h1:1<=R){i:Nat}:∀k,i<=k->R^i<=R^k
 | 0,h=>by rw[show i=0 by omega];exact Ql
 |
  k+1,h=>by
  rcases V8 h with e|e
  ·have:=Qca h1 (i:=i) k (by omega);have h2:=(KA h1 (x:=0) (by rw[Sw];grind) k).2;rw[Xh];have:=Nh (a:=R^k) (b:=R^k) (c:=1) (d:=R) (by grind) Ql (by decide) h1;grind
  ·rw[e];exact Ql
theorem Qlw{F:Nat->Nat->Int}{i j' K J:Nat}{x y R X:Rat}{K2 J2:Nat}(h1:1<=R)(hx:Gw x<=R)(hy:Gw y<=R)(hK:K=i+K2)(hJ:J=j'+J2)(hF:E2 F K2 J2 x y=X):Gw (E2 (BX i j' F) K J x y)<=R^(K+J)*Gw X:=by
 subst hK;subst hJ;rw[EW,hF,Av];have a1:=(KA h1 hy i).1;have a2:=(KA h1 hx j').1;have a3:=Rq a1 a2;rw[<-HE]at a3;have a4:=Qca h1 (i:=i+j') (i+K2+(j'+J2)) (by omega);exact Nh (Tx _) (Zi a3 a4) (Tx _) Ql
theorem Qvt{A B:Ft}{a b h:Nat}(hA:A.length=a+1)(hB:B.length=b+1)(lA:A.getD a 0≠0)(lB:B.getD b 0≠0)(ha:0<a)(hb:0<b)(h0:1<=h)(bA:∀k,(A.getD k 0).natAbs<=h)(bB:gB B<=h){J J' N H:Nat}(hJ:J=2*(a*b))(hJ':J=J'+b)(hN:N=b*J+a*J')(hH:H=(2*(N*h))^(2*(a+b-1))) :
 ∃w:Nat->Int,(∃j,j<J/\w j≠0)/\(∀j,(w j).natAbs<=N*(h*H))/\∀R:Rat,1<=R->∃C:Rat,0<=C/\∀x y,Gw x<=R->Gw y<=R->Gw (sq J λj=>(w j:Rat)*x^j)<=C*(Gw (Gf A y)+Gw (Gf B (y-x))):=by
 have hab:0<a*b:=Yz ha hb;have hbd:∀n k j,(qQ A B b J J' n k j).natAbs<=h:=λn k j=>by
  unfold qQ
  split
  ·exact Qlx (λk j=>by unfold fA;split;exact bA k;exact Nat.zero_le _) _ _ _ _
  ·exact Qlx (λk j=>Qe (Qio B k j) bB) _ _ _ _
 have hJp:0<J:=by omega
 have hNp:1<=N:=by
  have:0<b*J:=Yz hb hJp;omega
 have hNh:1<=N*h:=Yz hNp h0;obtain⟨E,hE⟩:=nmE ((a+b-1)*J);have hNE:N=E+a*b:=by
  have e1:(a+b-1)*J+J=(a+b)*J:=by
   rw[<-Xp];congr 1;omega
  have e2:a*J=a*J'+a*b:=by rw[hJ',Jc]
  rw[Yc]at e1;omega
 have hc:(2*(N*(h*H))+1)^E<(H+1)^N:=by
  have c1:2*(N*(h*H))+1<=2*(N*h)*(H+1):=by
   rw[Jc,Yy,Xz 2,Xz N];omega
  refine Xg (Uf c1 E) ?_;rw[Nat.mul_pow,hNE,Xq,Zo];refine Nat.mul_lt_mul_of_pos_left ?_ (Zy (by omega));have e1:(2*(N*h))^E=H^(a*b):=by
   rw[hH,<-Fe,hE,hJ];congr 1;rw[Zo 2 (a+b-1),Xz]
  rw[<-hNE,e1];exact Nat.pow_lt_pow_left (by omega) (by omega)
 obtain⟨v,v1,⟨n0,n1,n2⟩,v3⟩:=Qvw (M:=λe n=>qQ A B b J J' n (e / J+1) (e % J)) (h:=h) (N:=N) (E:=E) (H:=H) (λe n=>hbd n _ _) hc;have hW:∀k j,1<=k->k<a+b->j<J->sm N (λn=>qQ A B b J J' n k j*v n)=0:=λk j k1 k2 hj=>by
  have:=v3 ((k-1)*J+j) (by rw[hE];exact Qsl (by omega) hj);rwa[(SL hj).1,(SL hj).2,show k-1+1=k by omega]at this
 refine⟨λj=>sm N λn=>qQ A B b J J' n 0 j*v n,?_,λj=>?_,λR hR=>?_⟩
 ·rcases Classical.em (∃j,j<J/\(sm N λn=>qQ A B b J J' n 0 j*v n)≠0)with e|e
  ·exact e
  ·exfalso;refine n2 (Qft hA hB lA lB hJ' (v:=v) (λk j hk hj=>?_) n0 (by rw[<-hN];exact n1));rw[<-hN];rcases Qy k with e'|e'
   ·subst e';rcases Classical.em ((sm N λn=>qQ A B b J J' n 0 j*v n)=0)with e2|e2
    ·exact e2
    ·exact absurd ⟨j,hj,e2⟩ e
   ·exact hW k j e' hk hj
 ·refine Ql5 N λn _=>?_
  rw[Ya];exact Xi (hbd n 0 j) (v1 n)
 ·have hRp:∀k:Nat,1<=R^k:=λk=>(KA hR (x:=0) (by rw[Sw];grind) k).2
  have hHn:(0:Rat)<=(H:Rat):=Xs;have hNn:(0:Rat)<=(N:Rat):=Xs;refine⟨(N:Rat)*((H:Rat)*R^(a+b+J)),Cm hNn (Cm hHn (by have:=hRp (a+b+J);grind)),λx y hx hy=>?_⟩;have e1:(sq J λj=>((sm N λn=>qQ A B b J J' n 0 j*v n:Int):Rat)*x^j)=E2 (λk j=>sm N λn=>qQ A B b J J' n k j*v n) (a+b) J x y:=by
   unfold E2;obtain⟨m,hm⟩:∃m,a+b=m+1:=⟨a+b-1,by omega⟩;rw[hm,XY,L9 (n:=m)]
   ·have:(sq J λj=>((sm N λn=>qQ A B b J J' n 0 j*v n:Int):Rat)*(y^0*x^j))=sq J λj=>((sm N λn=>qQ A B b J J' n 0 j*v n:Int):Rat)*x^j:=No J λj _=>by rw[Xt];grind
    rw[this];grind
   ·intro k hk;refine L9 J λj hj=>?_
    show((sm N λn=>qQ A B b J J' n (k+1) j*v n:Int):Rat)*_=0;rw[hW (k+1) j (by omega) (by omega) hj,show((0:Int):Rat)=0 from rfl];grind
  rw[e1,Qh7];have key:∀n,n<N->Gw ((v n:Rat)*E2 (qQ A B b J J' n) (a+b) J x y)<=(H:Rat)*(R^(a+b+J)*(Gw (Gf A y)+Gw (Gf B (y-x)))):=λn hn=>by
   have hvn:Gw (v n:Rat)<=(H:Rat):=by
    have h1:=v1 n;have h2:(v n)<=(H:Int):=by omega
    have h3:-(H:Int)<=v n:=by omega
    have h2:=Jx.2 h2;have h3:=Jx.2 h3;rw[V9]at h3;rw[Mg];exact⟨h3,h2⟩
   refine Rq hvn ?_;have hRk:=hRp (a+b+J);have n1:=Tx (Gf A y);have n2:=Tx (Gf B (y-x));rcases Q7 n (b*J)with h|h
   ·have e:qQ A B b J J' n=BX (n / J) (n % J) (fA A):=by funext k j;unfold qQ;rw[if_pos h]
    have d1:n / J<b:=Ju (by rw[Zo];exact h);have d2:=Xn n hJp;rw[e];refine Zi (Qlw (K2:=a+b-n / J) (J2:=J-n % J) hR hx hy (by omega) (by omega) (X:=Gf A y) ?_) (Nh (by grind) Ql n1 (by grind));obtain⟨m,hm⟩:∃m,J-n % J=m+1:=⟨J-n % J-1,by omega⟩;rw[hm];exact Qxl A _ _ x y (by omega)
   ·have e:qQ A B b J J' n=BX ((n-b*J) / J') ((n-b*J) % J') (gc B):=by funext k j;unfold qQ;rw[if_neg (by omega)]
    have hJp':0<J':=by
     rcases Qy J' with e|e
     ·rw[e,Vn]at hN;omega
     ·exact e
    have d1:(n-b*J) / J'<a:=Ju (by rw[Zo J' a];omega);have d2:=Xn (n-b*J) hJp';rw[e];refine Zi (Qlw (K2:=a+b-(n-b*J) / J') (J2:=J-(n-b*J) % J') hR hx hy (by omega) (by omega) (X:=Gf B (y-x)) ?_) (Nh (by grind) Ql n2 (by grind));exact Quf x y B _ _ (by omega) (by omega)
  have:=Qsx N key;refine Zi this ?_;have:(N:Rat)*((H:Rat)*(R^(a+b+J)*(Gw (Gf A y)+Gw (Gf B (y-x)))))=(N:Rat)*((H:Rat)*R^(a+b+J))*(Gw (Gf A y)+Gw (Gf B (y-x))):=by grind
  rw[this];exact Ql
end Orq
namespace Orq
theorem Ql9{w:Nat->Int}{x:Rat}{D:Rat}(hx:Gw x*2<=1)(hw:∀j,Gw (w j:Rat)<=D):∀J (k:Nat),Gw (sq J λj=>(w (k+j):Rat)*x^j)<=2*D
 | 0,k=>by have:=hw 0;have:=Tx (w 0:Rat);simp only[sq,Sw];clear hw;grind
 |
  J+1,k=>by
  have ih:=Ql9 hx hw J (k+1);rw[XY];have e:(sq J λi=>(w (k+(i+1)):Rat)*x^(i+1))=x*sq J λi=>(w (k+1+i):Rat)*x^i:=by
   rw[<-VN];exact No J λi _=>by rw[Xh,show k+(i+1)=k+1+i by omega];grind
  rw[e,Xt,Jd];have h1:=hw k;have h2:=Mm ((w k:Rat)*1) (x*sq J λi=>(w (k+1+i):Rat)*x^i);have h3:=Rq (x:=x) (y:=sq J λi=>(w (k+1+i):Rat)*x^i) Ql ih;have h4:=Q6 hx (show(0:Rat)<=D by have:=Tx (w k:Rat);clear hw;grind);have h5:(w k:Rat)*1=w k:=by grind
  rw[h5]at h2 ⊢;clear hw;grind
theorem JZ{z:Int}(h:z≠0):1<=Gw (z:Rat):=by
 unfold Gw;rcases Wd h with h|h
 ·have:((z:Int):Rat)<((0:Int):Rat):=Jm.2 h;have h2:((1:Int):Rat)<=((-z:Int):Rat):=Jx.2 (by omega);rw[if_pos (by simpa using this)];rw[V9]at h2;simpa using h2
 ·have:((0:Int):Rat)<((z:Int):Rat):=Jm.2 h;have h2:((1:Int):Rat)<=((z:Int):Rat):=Jx.2 (by omega);rw[if_neg (by
   have:(0:Rat)<z:=by simpa using this
   grind)]
  simpa using h2
theorem dN{w:Nat->Int}{x:Rat}{D:Rat}(hD:1<=D)(hx0:0<Gw x)(hx:Gw x*(4*D)<=1)(hw:∀j,Gw (w j:Rat)<=D):∀J (k:Nat),(∃j,j<J/\w (k+j)≠0)->Gw x^J / 2<=Gw (sq J λj=>(w (k+j):Rat)*x^j)
 | 0,k,⟨j,h,_⟩=>by omega
 |
  J+1,k,⟨j,h1,h2⟩=>by
  have hx2:Gw x*2<=1:=by
   have:=Nh (a:=Gw x) (c:=2) (Qm hx0) Ql (by decide) (show(2:Rat)<=4*D by clear hw;grind);exact Zi this hx
  have hx1:Gw x<=1:=by clear hw;grind
  have hp:∀k:Nat,Gw x^k<=1/\0<=Gw x^k:=λk=>by
   induction k with
   |zero=>rw[Xt];exact⟨by decide,by decide⟩
   |
    succ k ih =>
    rw[Xh];have:=Nh ih.2 ih.1 (Qm hx0) hx1;have:=Cm ih.2 (Qm hx0);constructor <;> (clear hw;grind)
  rw[XY];have e:(sq J λi=>(w (k+(i+1)):Rat)*x^(i+1))=x*sq J λi=>(w (k+1+i):Rat)*x^i:=by
   rw[<-VN];exact No J λi _=>by rw[Xh,show k+(i+1)=k+1+i by omega];grind
  rw[e,Xt,Jd k,show(w k:Rat)*1=w k by grind];by_cases h0:w k=0
  ·have hj:j≠0:=λe=>h2 (by rw[e];exact h0)
   have ih:=dN hD hx0 hx hw J (k+1) ⟨j-1,by omega,by rw[show k+1+(j-1)=k+j by omega];exact h2⟩;rw[h0,show((0:Int):Rat)+x*(sq J λi=>(w (k+1+i):Rat)*x^i)=x*sq J λi=>(w (k+1+i):Rat)*x^i by rw[show((0:Int):Rat)=0 from rfl];grind,Av,Xh];have:=Zt ih (Qm hx0);have e2:Gw x*(Gw x^J / 2)=Gw x^J*Gw x / 2:=by rw[Yo,Yo];grind
   rw[e2]at this;exact this
  ·have a1:=JZ h0;have a2:=Ql9 hx2 hw J (k+1);have a3:=Rq (x:=x) (y:=sq J λi=>(w (k+1+i):Rat)*x^i) Ql a2;have a4:=Mm ((w k:Rat)+x*sq J λi=>(w (k+1+i):Rat)*x^i) (-(x*sq J λi=>(w (k+1+i):Rat)*x^i));rw[Aw,show(w k:Rat)+(x*sq J λi=>(w (k+1+i):Rat)*x^i)+-(x*sq J λi=>(w (k+1+i):Rat)*x^i)=w k by grind]at a4;have a5:=(hp (J+1)).1;have a6:Gw x^(J+1) / 2*2=Gw x^(J+1):=Ht (by decide);have a7:Gw x*(2*D)*2=Gw x*(4*D):=by grind
   clear hw hp;grind
theorem Qun{A B:Ft}{a b h:Nat}(hA:A.length=a+1)(hB:B.length=b+1)(lA:A.getD a 0≠0)(lB:B.getD b 0≠0)(ha:0<a)(hb:0<b)(h0:1<=h)(bA:∀k,(A.getD k 0).natAbs<=h)(bB:gB B<=h){N D:Nat}(hN:b*(2*(a*b))+a*(2*(a*b)-b)=N)(hD:N*(h*(2*(N*h))^(2*(a+b-1)))<=D){R d:Rat}(hR:1<=R)(dp:0<d)
 (hs:∀e:Rat,0<e->∃q r,Gw q<=R/\Gw r<=R/\d<=Gw (q-r)/\Gw (q-r)*(4*(D:Rat))<=1/\Gw (Gf A q)<e/\Gw (Gf B r)<e):False:=by
 have hab:0<a*b:=Yz ha hb;have hbab:b<=a*b:=by
  have:=Qx b (show 1<=a from ha);omega
 obtain⟨w,⟨j,hj,hw0⟩,hw,hC⟩:=Qvt hA hB lA lB ha hb h0 bA bB (J:=2*(a*b)) (J':=2*(a*b)-b) rfl (by omega) hN.symm rfl;obtain⟨C,hC0,hC⟩:=hC (2*R) (by grind);have hw':∀j,Gw (w j:Rat)<=(D:Rat):=λj=>by
  have h1:=Qe (hw j) hD;have h2:w j<=(D:Int):=by omega
  have h3:-(D:Int)<=w j:=by omega
  have h2:=Jx.2 h2;have h3:=Jx.2 h3;rw[V9]at h3;rw[Mg];exact⟨h3,h2⟩
 have hD1:(1:Rat)<=(D:Rat):=by
  have:=JZ hw0;exact Zi this (hw' j)
 have hdJ:0<d^(2*(a*b)) / 2:=Eh (Rat.pow_pos dp) (by decide);obtain⟨e,ep,_,he⟩:=Ry (b:=C*2) (d:=d^(2*(a*b)) / 2) (by grind) hdJ;obtain⟨q,r,q1,r1,d1,d2,aq,br⟩:=hs e ep;have h1:=hC (q-r) q (by
  have:=Mm q (-r);rw[Aw]at this;have:q-r=q+-r:=by grind
  grind) (by grind)
 rw[show q-(q-r)=r by grind]at h1;have h2:=dN (x:=q-r) hD1 (by grind) d2 hw' (2*(a*b)) 0 ⟨j,hj,by rw[Xd];exact hw0⟩;simp only[Xd]at h2;have h3:C*(Gw (Gf A q)+Gw (Gf B r))<=C*(e+e):=Zt (by grind) hC0;have h4:d^(2*(a*b))<=Gw (q-r)^(2*(a*b)):=by
  generalize 2*(a*b)=J
  induction J with
  |zero=>rw[Xt,Xt];exact Ql
  |
   succ J ih =>
   rw[Xh,Xh];exact Nh (Qm (Rat.pow_pos dp)) ih (Qm dp) d1
 have h5:d^(2*(a*b)) / 2*2=d^(2*(a*b)):=Ht (by decide);have h6:Gw (q-r)^(2*(a*b)) / 2*2=Gw (q-r)^(2*(a*b)):=Ht (by decide);clear hC hs hw hw';grind
def HD(p:Fw)(n:Nat):Prop:=p.getD n 0≠0/\∀k,n<k->p.getD k 0=0
theorem So:∀(p q:Fw) (k:Nat),(Sj p q).getD k 0=p.getD k 0+q.getD k 0
 | [],q,k=>by simp only[Sj,Ws];grind
 |a::p,[],k=>by simp only[Sj,Ws];grind
 |a::p,b::q,0=>by simp only[Sj,Zr]
 |a::p,b::q,k+1=>by simp only[Sj,Q0];exact So p q k
theorem Pm(c:Rat):∀(p:Fw) (k:Nat),(Nj c p).getD k 0=c*p.getD k 0
 | [],k=>by simp only[Nj,Jj,Ws];grind
 |a::p,0=>by simp[Nj]
 |a::p,k+1=>by have:=Pm c p k;simp only[Nj,Zx,Q0]at *;exact this
theorem Qiy{p:Fw}{k:Nat}(h:∀x∈p,x=0):p.getD k 0=0:=by
 rw[Qc];cases e:p[k]? with
 |none=>rfl
 |some x=>exact h x (Qa e)
theorem Lm{p q:Fw}(h:∀t,ev p t=ev q t)(k:Nat):p.getD k 0=q.getD k 0:=by
 have h1:=Qiy (k:=k) (FP (p:=Sj p (Nj (-1) q)) λt _ _=>by rw[Hl,Hb,h t];grind);rw[So,Pm]at h1;grind
theorem Ev:∀{p:Fw},(∀k,p.getD k 0=0)->∀t,ev p t=0
 | [],_,t=>rfl
 |
  a::p,h,t=>by
  have h0:=h 0;have h1:=Ev (p:=p) (λk=>by have:=h (k+1);rwa[Q0]at this) t;rw[Zr]at h0;simp only[ev,h0,h1];grind
theorem MN:∀(p:Fw),(∀t,ev p t=0)\/∃n,n<p.length/\HD p n
 | []=>.inl λ_=>rfl
 |
  a::p=>by
  rcases MN p with h|⟨n,hn,h1,h2⟩
  ·rcases Classical.em (a=0)with e|e
   ·exact .inl λt=>by simp only[ev,e,h t];grind
   ·refine .inr ⟨0,by simp,by simpa using e,λk hk=>?_⟩;obtain⟨m,rfl⟩:∃m,k=m+1:=⟨k-1,by omega⟩;rw[Q0];exact(Lm (p:=p) (q:=[]) h m).trans (by simp)
  ·refine .inr ⟨n+1,by simp;omega,by rw[Q0];exact h1,λk hk=>?_⟩;obtain⟨m,rfl⟩:∃m,k=m+1:=⟨k-1,by omega⟩;rw[Q0];exact h2 m (by omega)
theorem Qi4{p q:Fw}{n:Nat}(h:∀t,ev p t=ev q t)(hp:HD p n):HD q n :=
 ⟨by rw[<-Lm h];exact hp.1,λk hk=>by rw[<-Lm h];exact hp.2 k hk⟩
theorem Qsk{p:Fw}{n m:Nat}(h:HD p n)(h':HD p m):n=m:=by
 rcases Jz n m with e|e|e
 ·exact absurd (h.2 m e) h'.1
 ·exact e
 ·exact absurd (h'.2 n e) h.1
theorem Qav{p:Fw}{n:Nat}(h:HD p n):¬∀t,ev p t=0:=λh0=>h.1 ((Lm (p:=p) (q:=[]) h0 n).trans (by simp))
theorem MB{p q:Fw}(h:∀k,p.getD k 0=0)(k:Nat):(H5 p q).getD k 0=0:=by
 have:=Lm (p:=H5 p q) (q:=[]) (λt=>by rw[Gj,Ev h t];simp only[ev];grind) k;rw[this];simp
theorem SC:∀{p q:Fw} {m n:Nat},HD p m->HD q n->HD (H5 p q) (m+n)
 | [],q,m,n,h,_=>absurd (by simp) h.1
 |
  a::p,q,0,n,h,h'=>by
  have h1:∀k,p.getD k 0=0:=λk=>by have:=h.2 (k+1) (by omega);rwa[Q0]at this
  have h2:∀k,(H5 (a::p) q).getD k 0=a*q.getD k 0:=λk=>by
   simp only[H5];rw[So,Pm];cases k with
   |zero=>rw[Zr];grind
   |succ k=>rw[Q0,MB h1];grind
  have h3:=h.1;rw[Zr]at h3;refine⟨?_,λk hk=>?_⟩
  ·rw[h2,Xd];exact λh=>(Xl.1 h).elim h3 h'.1
  ·rw[h2,h'.2 k (by omega)];grind
 |
  a::p,q,m+1,n,h,h'=>by
  have ih:=SC (p:=p) (q:=q) (m:=m) ⟨by have:=h.1;rwa[Q0]at this,λk hk=>by have:=h.2 (k+1) (by omega);rwa[Q0]at this⟩ h';refine⟨?_,λk hk=>?_⟩
  ·simp only[H5];rw[So,Pm,show m+1+n=(m+n)+1 by omega,Q0,h'.2 _ (by omega)];have:=ih.1;grind
  ·obtain⟨j,rfl⟩:∃j,k=j+1:=⟨k-1,by omega⟩;simp only[H5];rw[So,Pm,Q0,h'.2 _ (by omega),ih.2 j (by omega)];grind
def Lf(g f:Fw):Prop:=∃u,∀t,ev f t=ev g t*ev u t
theorem dvd_refl(f:Fw):Lf f f:=⟨[1],λt=>by rw[S6];grind⟩
theorem dvd_trans{f g h:Fw}:Lf f g->Lf g h->Lf f h
 |⟨u,hu⟩,⟨v,hv⟩=>⟨H5 u v,λt=>by rw[hv,hu,Gj];grind⟩
theorem sF{p q:Fw}(h:∀t,ev p t*ev q t=0)(hp:¬∀t,ev p t=0):∀t,ev q t=0:=by
 rcases MN p with h1|⟨m,_,h1⟩
 ·exact absurd h1 hp
 ·rcases MN q with h2|⟨n,_,h2⟩
  ·exact h2
  ·exact absurd (λt=>by rw[Gj];exact h t) (Qav (SC h1 h2))
theorem LK{p q r:Fw}(hp:¬∀t,ev p t=0)(h:∀t,ev p t*ev q t=ev p t*ev r t)(t:Rat):ev q t=ev r t:=by
 have:=sF (p:=p) (q:=Sj q (Nj (-1) r)) (λt=>by rw[Hl,Hb];have:=h t;grind) hp t;rw[Hl,Hb]at this;grind
theorem Qh0{b:Fw}{n:Nat}(hb:HD b n):∀(l:Nat) (a:Fw),(∀k,l<=k->a.getD k 0=0)->∃q r,(∀t,ev a t=ev q t*ev b t+ev r t)/\∀k,n<=k->r.getD k 0=0
 | 0,a,ha=>⟨[],a,λt=>by simp only[ev];grind,λk _=>ha k (Qh _)⟩
 |
  l+1,a,ha=>by
  rcases Q7 l n with h|h
  ·exact⟨[],a,λt=>by simp only[ev];grind,λk hk=>ha k (by omega)⟩
  ·-- the leading term is taken away
   obtain⟨c,hc⟩:=nmE (a.getD l 0 / b.getD n 0);have hcb:c*b.getD n 0=a.getD l 0:=by rw[hc];exact Zb hb.1
   obtain⟨m,hm⟩:∃m:Fw,m=List.replicate (l-n) 0++[c]:=⟨_,rfl⟩;have hsh:∀(i:Nat) (k:Nat),(H5 (List.replicate i 0++[c]) b).getD k 0=if i<=k then c*b.getD (k-i) 0 else 0:=λi=>by
    induction i with
    |zero=>intro k;simp only[Ue,J4,H5];rw[So,Pm];cases k <;> simp <;> grind
    |
     succ i ih =>
     intro k;simp only[Ye,Xa,H5];rw[So,Pm];cases k with
     |zero=>rw[Zr,if_neg (by omega)];grind
     |
      succ k =>
      rw[Q0,ih k];by_cases h:i<=k
      ·rw[if_pos h,if_pos (by omega),Nat.add_sub_add_right];grind
      ·rw[if_neg h,if_neg (by omega)];grind
   obtain⟨q,r,h1,h2⟩:=Qh0 hb l (Sj a (Nj (-1) (H5 m b))) λk hk=>by
    rw[So,Pm,hm,hsh,if_pos (by omega)];rcases V8 hk with e|e
    ·rw[ha k (by omega),hb.2 _ (by omega)];grind
    ·subst e;rw[show l-(l-n)=n by omega,hcb];grind
   refine⟨Sj q m,r,λt=>?_,h2⟩;have:=h1 t;rw[Hl,Hb,Gj]at this;rw[Hl];grind
theorem dX:∀(n:Nat) (a b:Fw),(∀k,n<=k->b.getD k 0=0)->∃g U V,Lf g a/\Lf g b/\∀t,ev g t=ev U t*ev a t+ev V t*ev b t
 |
  0,a,b,h=>by
  have h0:=Ev λk=>h k (Qh _)
  exact⟨a,[1],[],dvd_refl a,⟨[],λt=>by rw[h0];simp only[ev];grind⟩,λt=>by rw[S6];simp only[ev];grind⟩
 |
  n+1,a,b,h=>by
  rcases Classical.em (b.getD n 0=0)with e|e
  ·exact dX n a b λk hk=>by
    rcases V8 hk with e'|e'
    ·exact h k (by omega)
    ·rw[<-e'];exact e
  ·obtain⟨q,r,h1,h2⟩:=Qh0 (b:=b) (n:=n) ⟨e,λk hk=>h k (by omega)⟩ a.length a λk hk=>by rw[Qc,Qt hk];rfl
   obtain⟨g,U,V,⟨u,hu⟩,⟨v,hv⟩,hg⟩:=dX n b r h2;refine⟨g,V,Sj U (Nj (-1) (H5 V q)),⟨Sj (H5 q u) v,λt=>?_⟩,⟨u,hu⟩,λt=>?_⟩
   ·rw[h1,hv,Hl,Gj,hu];grind
   ·rw[hg,Hl,Hb,Gj,h1];grind
theorem Qit(a b:Fw):∃g U V,Lf g a/\Lf g b/\∀t,ev g t=ev U t*ev a t+ev V t*ev b t :=
 dX b.length a b λk hk=>by rw[Qc,Qt hk];rfl
def Cop(a b:Fw):Prop:=∃U V,∀t,ev U t*ev a t+ev V t*ev b t=1
theorem vJ{c d e:Fw}(h:Cop c d)(h1:∃u,∀t,ev d t*ev e t=ev c t*ev u t):Lf c e:=by
 obtain⟨U,V,h⟩:=h;obtain⟨u,hu⟩:=h1;refine⟨Sj (H5 U e) (H5 V u),λt=>?_⟩;rw[Hl,Gj,Gj];have a1:=h t;have a2:=hu t;have:ev e t=(ev U t*ev c t+ev V t*ev d t)*ev e t:=by rw[a1];grind
 rw[this];have:(ev U t*ev c t+ev V t*ev d t)*ev e t=ev U t*ev c t*ev e t+ev V t*(ev d t*ev e t):=by grind
 rw[this,a2];grind
def ID(d:Fw):Nat->Fw
 | 0=>[1]
 |k+1=>H5 d (ID d k)
theorem lI(d:Fw)(t:Rat):∀k:Nat,ev d t*dv (ID d k) t=(k:Rat)*(dv d t*ev (ID d k) t)
 | 0=>by simp only[ID,dv,ev];rw[show((0:Nat):Rat)=0 from rfl];grind
 |
  k+1=>by
  have ih:=lI d t k;have hn':(((k+1:Nat):Rat))=(k:Rat)+1:=by push_cast;rfl
  simp only[ID];rw[vG,Gj,hn'];grind
theorem Qk2{d:Fw}{m:Nat}(h:HD d m):∀k,HD (ID d k) (k*m)
 | 0=>by rw[Ym];exact⟨by simp[ID],λk hk=>by simp only[ID];rw[Qc,Qt (by simp;omega)];rfl⟩
 |k+1=>by rw[Xp,Yi (k*m) m];exact SC h (Qk2 h k)
theorem xO{d g:Fw}{m n:Nat}(hd:HD d m)(hg:HD g n)(h:∀k,Lf (ID d k) g):m=0:=by
 obtain⟨u,hu⟩:=h (n+1);rcases MN u with h1|⟨j,_,h1⟩
 ·exact absurd (λt=>by rw[hu,h1];grind) (Qav hg)
 ·have:=Qsk (Qi4 (λt=>by rw[hu,Gj]) hg) (SC (Qk2 hd (n+1)) h1);rcases Qy m with e|e
  ·exact e
  ·have:(n+1)*1<=(n+1)*m:=Zl _ e;omega
theorem sqf{a g q d U V:Fw}{k:Rat}(hk:k≠0)(ha:∀t,ev a t=ev g t*ev q t)(hg:∀t,k*ev g t=ev U t*ev a t+ev V t*dv a t)(h1:Lf d q)(h2:Lf d (Co q)):∀n,Lf (ID d n) g
 | 0=>⟨g,λt=>by simp only[ID];rw[S6];grind⟩
 |
  n+1=>by
  obtain⟨g1,e1⟩:=sqf hk ha hg h1 h2 n;obtain⟨q1,e2⟩:=h1;obtain⟨q2,e3⟩:=h2;have d1:=λt=>Oy ha t
  have d2:=λt=>Oy e1 t
  have d3:=λt=>Oy e2 t
  have d4:=lI d;refine⟨Nj (1 / k) (Sj (H5 U (H5 g1 q1)) (H5 V (Sj (H5 g1 q2) (Sj (Nj n (H5 g1 (Sj q2 (Nj (-1) (Co q1))))) (H5 (Co g1) q1))))),λt=>?_⟩;have hkk:1 / k*k=1:=Zb hk;simp only[ID,Hb,Hl,Gj,Ss];have b1:=ha t;have b2:=hg t;have b3:=e1 t;have b4:=e2 t;have b5:=e3 t;have b6:=d1 t;have b7:=d2 t;have b8:=d3 t;have b9:=d4 t n;rw[Ss]at b5;generalize ev d t=x0 at *;generalize ev (ID d n) t=x1 at *;generalize ev g t=x2 at *;generalize ev q t=x3 at *;generalize ev a t=x4 at *;generalize dv a t=x5 at *;generalize dv g t=x6 at *;generalize dv q t=x7 at *;generalize ev g1 t=x8 at *;generalize dv g1 t=x9 at *;generalize ev q1 t=y0 at *;generalize dv q1 t=y1 at *;generalize ev q2 t=y2 at *;generalize dv d t=y3 at *;generalize dv (ID d n) t=y4 at *;generalize ev U t=y5 at *;generalize ev V t=y6 at *;generalize (n:Rat)=y7 at *;have:x2=1 / k*(k*x2):=by grind
  rw[this,b2];have c1:x5=x0*x1*(x8*y2+(y7*(x8*(y2+-1*y1))+x9*y0)):=by
   rw[b6,b7,b4,b3];have:y3*y0=x0*y2-x0*y1:=by grind
   have:x0*y4*(x8*y0)=y7*(x1*x8*(x0*y2-x0*y1)):=by rw[b9,<-this];grind
   grind
  have c2:x4=x0*x1*(x8*y0):=by rw[b1,b3,b4];grind
  rw[c1,c2];grind
theorem Qog{a b c:Fw}(h1:Cop a b)(h2:Cop a c){d:Fw}(hd:∀t,ev d t=ev b t*ev c t):Cop a d:=by
 obtain⟨U,V,h1⟩:=h1;obtain⟨X,Y,h2⟩:=h2;refine⟨Sj U (H5 (H5 V b) X),H5 V Y,λt=>?_⟩;have a1:=h1 t;have a2:=h2 t;simp only[Hl,Gj,hd];have:ev V t*ev b t*(ev X t*ev a t+ev Y t*ev c t)=ev V t*ev b t:=by rw[a2];grind
 grind
theorem Qq4{a g q z r X Y:Fw}{n:Nat}(ha:∀t,ev a t=ev g t*ev q t)(hz:∀t,dv a t=ev g t*ev z t)(hg:HD g n)(hr:∀t,ev X t*ev r t+ev Y t*dv r t=1)(h:Lf r a):Lf r q:=by
 obtain⟨b,hb⟩:=h;obtain⟨e,U,V,⟨r1,e1⟩,⟨q3,e2⟩,e3⟩:=Qit r q;have hr0:¬∀t,ev r t=0:=λh=>by
  have h1:=hr 0;have h2:dv r 0=0:=by have:=Qh5 (p:=r) (q:=[]) h 0;rw[this];rfl
  rw[h,h2]at h1;grind
 have he0:¬∀t,ev e t=0:=λh=>hr0 λt=>by rw[e1,h];grind
 have d1:=λt=>Oy e1 t
 have c1:Cop r1 q3:=⟨U,V,λt=>by
  have:=LK (p:=e) (q:=Sj (H5 U r1) (H5 V q3)) (r:=[1]) he0 (λt=>by
   rw[Hl,Gj,Gj,S6];have a1:=e1 t;have a2:=e2 t;have a3:=e3 t;rw[a1,a2]at a3;grind) t
  rw[Hl,Gj,Gj,S6]at this;exact this⟩
 have c2:Cop r1 e:=⟨Sj (H5 X e) (H5 Y (Co e)),H5 Y (Co r1),λt=>by
  have a1:=hr t;have a2:=e1 t;have a3:=d1 t;simp only[Hl,Gj,Ss];rw[a2,a3]at a1;grind⟩
 have c3:Cop r1 (Co r1):=⟨Sj (H5 X e) (H5 Y (Co e)),H5 Y e,λt=>by
  have a1:=hr t;have a2:=e1 t;have a3:=d1 t;simp only[Hl,Gj,Ss];rw[a2,a3]at a1;grind⟩
 have c4:Cop r1 q:=Qog c2 c1 e2;have hgz:=Qav hg;have hp:∀k,Lf (ID r1 k) g:=λk=>by
  induction k with
  |zero=>exact⟨g,λt=>by simp only[ID];rw[S6];grind⟩
  |
   succ k ih =>
   obtain⟨h,eh⟩:=ih;have hpz:¬∀t,ev (ID r1 k) t=0:=λh0=>hgz λt=>by rw[eh,h0];grind
   have key:Lf r1 h:=by
    cases k with
    |
     zero =>
     refine vJ c4 ⟨H5 e b,λt=>?_⟩;have a1:=ha t;have a2:=hb t;have a3:=e1 t;have a4:=eh t;simp only[ID]at a4;rw[S6]at a4;rw[Gj];grind
    |
     succ k =>
     have hn:((k+1:Nat):Rat)≠0:=by
      have:(0:Rat)<((k+1:Nat):Rat):=by
       have h1:((0:Nat):Rat)<((k+1:Nat):Rat):=Kc.2 (by omega);simpa using h1
      grind
     have d2:=λt=>Oy (f:=a) (w:=ID r1 (k+1)) (u:=H5 h q) (λt=>by rw[ha,eh,Gj];grind) t
     have d4:=lI r1;have h3:=LK (p:=ID r1 (k+1)) (q:=H5 (Co r1) (H5 h q)) (r:=H5 r1 (Nj (1 / ((k+1:Nat):Rat)) (Sj (H5 h z) (Nj (-1) (Co (H5 h q)))))) hpz λt=>by
      simp only[Gj,Hb,Hl,Ss];have a1:=d2 t;have a2:=d4 t (k+1);have a3:=hz t;have a4:=eh t;rw[Gj]at a1;generalize ((k+1:Nat):Rat)=c at *;have hc:1 / c*c=1:=Zb hn;generalize ev (ID r1 (k+1)) t=x0 at *;generalize dv (ID r1 (k+1)) t=x1 at *;generalize dv (H5 h q) t=x2 at *;generalize ev r1 t=x3 at *;generalize dv r1 t=x4 at *;generalize ev h t=x5 at *;generalize ev q t=x6 at *;generalize ev z t=x7 at *;generalize dv a t=x8 at *;generalize ev g t=x9 at *;generalize 1 / c=c' at *;have s1:x0*(x4*(x5*x6))=c'*(c*(x4*x0))*(x5*x6):=by
       have:c'*(c*(x4*x0))=(c'*c)*(x4*x0):=by grind
       rw[this,hc];grind
      rw[s1,<-a2];have s2:x3*(x1*(x5*x6))=x3*(x0*(x5*x7+-1*x2)):=by
       rw[a3,a4]at a1;grind
      grind
     refine vJ c4 ?_;obtain⟨u,hu⟩:=vJ (e:=H5 q h) c3 ⟨Nj (1 / ((k+1:Nat):Rat)) (Sj (H5 h z) (Nj (-1) (Co (H5 h q)))),λt=>by
      have:=h3 t;simp only[Gj]at this ⊢;rw[<-this];grind⟩
     exact⟨u,λt=>by rw[<-hu,Gj]⟩
   obtain⟨u,hu⟩:=key;exact⟨u,λt=>by simp only[ID];rw[Gj,eh,hu];grind⟩
 rcases MN r1 with h1|⟨m,_,h1⟩
 ·exact absurd (λt=>by rw[e1,h1];grind) hr0
 ·obtain rfl:=xO h1 hg hp;have h2:∀t,ev r1 t=r1.getD 0 0:=λt=>by
   cases r1 with
   |nil=>simp[ev]
   |
    cons c l =>
    have:∀t,ev l t=0:=Ev λk=>by have:=h1.2 (k+1) (by omega);rwa[Q0]at this
    simp only[ev,this,Zr];grind
  have h3:=h1.1;refine⟨Nj (1 / r1.getD 0 0) q3,λt=>?_⟩;rw[e2,e1,h2,Hb];have:1 / r1.getD 0 0*r1.getD 0 0=1:=Zb h3;have:ev e t*r1.getD 0 0*(1 / r1.getD 0 0*ev q3 t)=ev e t*ev q3 t*(1 / r1.getD 0 0*r1.getD 0 0):=by grind
  rw[this,Zb h3];grind
def ZT:Fx->Fw
 | []=>[1]
 |w::l=>H5 w (ZT l)
def Lay:Fx->Fx->Prop
 | [],[]=>True
 | [w],[f]=>∀t,ev w t=ev f t
 |w::v::l,f::fs=>(∀t,ev w t=ev f t*ev v t)/\Lay (v::l) fs
 |_,_=>False
def NA:Fx->Fw
 | []=>[1]
 | [f]=>f
 |f::_::l=>H5 f (NA l)
theorem Qa9:∀{ws fs:Fx},Lay ws fs->∃S,∀t,ev (ZT ws) t=ev (NA fs) t*(ev S t*ev S t)
 | [],[],_=>⟨[1],λt=>by simp only[ZT,NA];rw[S6];grind⟩
 | [w],[f],h=>⟨[1],λt=>by simp only[ZT,NA];rw[Gj,S6,h t];grind⟩
 |
  [w,v],[f,f2],h=>⟨v,λt=>by
  have h1:=h.1 t;have h2:ev v t=ev f2 t:=h.2 t;simp only[ZT,NA,Gj];rw[S6,h1];grind⟩
 |
  w::v::x::l,f::f2::fs,h=>by
  obtain⟨S,hS⟩:=Qa9 h.2.2;refine⟨H5 v S,λt=>?_⟩;have h1:=h.1 t;have h2:=hS t;have e1:ev (ZT (w::v::x::l)) t=ev w t*(ev v t*ev (ZT (x::l)) t):=by simp only[ZT,Gj]
  rw[e1,h2,h1];have e2:ev (NA (f::f2::fs)) t=ev f t*ev (NA fs) t:=by
   cases fs with
   |nil=>cases l <;> exact False.elim h.2.2
   |cons y l=>simp only[NA,Gj]
  rw[e2,Gj];grind
 | [w],[],h=>h.elim
 | [w],_::_::_,h=>h.elim
 | [],_::_,h=>h.elim
 | [w,v],[f],h=>h.2.elim
 | [w,v],_::_::_::_,h=>h.2.elim
 |w::v::x::l,[f],h=>h.2.elim
 |w::v::l,[],h=>h.elim
end Orq
namespace Orr
structure Crv where
 x:List Int
 y:List Int
 d:Int
abbrev cl(k:Crv):Fy:=[pl k.x,pl k.y,sg k.d,mg k.d]
def Crv.d'(k:Crv):Int:=if k.d=0 then 1 else k.d
def Crv.g(k:Crv):Int:=if k.d'<0 then -((Tu (k.d'::(trim k.x++trim k.y)):Nat):Int)else(Tu (k.d'::(trim k.x++trim k.y)):Nat)
def Crv.norm(k:Crv):Crv:=⟨trim ((trim k.x).map (· / k.g)),trim ((trim k.y).map (· / k.g)),k.d' / k.g⟩
theorem YB{l:Ft}:∀z∈l,((Tu l:Nat):Int)∣z:=by
 have key:∀(l:Ft) (g:Nat),(l.foldl (λg z=>Nat.gcd g z.natAbs) g∣g)/\∀z∈l,l.foldl (λg z=>Nat.gcd g z.natAbs) g∣z.natAbs:=by
  intro l
  induction l with
  |nil=>intro g;exact⟨Nat.dvd_refl _,by simp⟩
  |
   cons u l ih =>
   intro g;obtain⟨h1,h2⟩:=ih (Nat.gcd g u.natAbs);refine⟨Nat.dvd_trans h1 (Wv _ _),λz hz=>?_⟩;rcases Qj.1 hz with rfl|hz
   ·exact Nat.dvd_trans h1 (Ut _ _)
   ·exact h2 z hz
 intro z hz;have:=(key l 0).2 z hz;exact Ul.2 this
theorem Crv.d'_ne(k:Crv):k.d'≠0:=by unfold Crv.d';split <;> omega
theorem Crv.gcd_ne(k:Crv):Tu (k.d'::(trim k.x++trim k.y))≠0:=by
 intro e;have h:=YB (l:=k.d'::(trim k.x++trim k.y)) k.d' (Qw ..);rw[e]at h;exact k.d'_ne (by simpa using h)
theorem Crv.g_ne(k:Crv):k.g≠0:=by
 have h0:=k.gcd_ne;unfold Crv.g
 split <;> omega
theorem Crv.g_dvd(k:Crv):∀z∈k.d'::(trim k.x++trim k.y),z % k.g=0:=by
 intro z hz;have h:=YB z hz;refine Yp ?_;unfold Crv.g
 split
 ·exact Fb.2 h
 ·exact h
theorem Crv.isz_g(k:Crv){s:Nat}(h:Gy k.d'<=s):Gy k.g<=s:=by
 have hd:=YB (l:=k.d'::(trim k.x++trim k.y)) k.d' (Qw ..);have hle:Tu (k.d'::(trim k.x++trim k.y))<=k.d'.natAbs:=Kx (by have:=k.d'_ne;omega) (Ul.1 hd);refine Qe (Pd ?_) h;unfold Crv.g
 split <;> simp <;> exact hle
structure Cs(s n:Nat)(k:Crv):Prop where
 x:Bd s k.x
 y:Bd s k.y
 d:Gy k.d<=s
 lx:k.x.length<=n
 ly:k.y.length<=n
theorem vO{k:Crv}{s:Nat}(h:Gy k.d<=s)(h1:1<=s):Gy k.d'<=s:=by unfold Crv.d';split <;> first|exact h1|exact h
theorem TR{s:Nat}{p:Ft}(h:Bd s p)(g:Int):Bd s (p.map (· / g)):=λz hz=>by
 obtain⟨u,hu,rfl⟩:=Zc.1 hz;exact Qe (YO u g) (h u hu)
theorem Cs.norm{s n:Nat}{k:Crv}(h:Cs s n k)(h1:1<=s):Cs s n k.norm:=by
 refine⟨Mb (TR (Mb h.x) _),Mb (TR (Mb h.y) _),Qe (YO _ _) (vO h.d h1),?_,?_⟩
 ·refine Qe (Sl _) ?_;rw[Q5];exact Qe (Sl _) h.lx
 ·refine Qe (Sl _) ?_;rw[Q5];exact Qe (Sl _) h.ly
theorem Cs.mono{s n t m:Nat}{k:Crv}(h:Cs s n k)(hs:s<=t)(hn:n<=m):Cs t m k:=⟨Gd h.x hs,Gd h.y hs,Qe h.d hs,Qe h.lx hn,Qe h.ly hn⟩
def UV(k:Crv):Prop:=Gh k.x/\Gh k.y/\0<k.d/\Tu (k.d::(k.x++k.y))=1
theorem vN{l:Ft}{g:Int}(hg:g≠0)(hga:g.natAbs=Tu l):Tu (l.map (· / g))=1:=by
 have key:∀(l:Ft) (a:Nat),(∀z∈l,g∣z)->l.foldl (λa z=>Nat.gcd a z.natAbs) (a*g.natAbs)=((l.map (· / g)).foldl (λa z=>Nat.gcd a z.natAbs) a)*g.natAbs:=by
  intro l
  induction l with
  |nil=>intro a _;rfl
  |
   cons z l ih =>
   intro a h;simp only[Zx,Z0];have hz:z.natAbs=(z / g).natAbs*g.natAbs:=by
    obtain⟨q,rfl⟩:=h z (Qw ..);rw[X5 _ hg,Ya,Zo]
   rw[hz,Uu];exact ih _ λu hu=>h u (Qi _ hu)
 have h:=key l 0 λz hz=>X2.1 (by rw[hga];exact X2.2 (YB z hz))
 rw[Ym]at h;have h':Tu l=Tu (l.map (· / g))*g.natAbs:=h;rw[<-hga]at h';have hp:0<g.natAbs:=by omega
 exact Nat.eq_of_mul_eq_mul_right hp (by rw[Uj];exact h'.symm)
theorem I5{l:Ft}{g:Int}(ht:Gh l)(hg:g≠0)(hd:∀z∈l,g∣z):Gh (l.map (· / g)):=by
 induction l with
 |nil=>rfl
 |
  cons x l ih =>
  have hne:∀z∈x::l,z≠0->z / g≠0:=λz hz h0 h1=>by
   obtain⟨q,rfl⟩:=hd z hz;rw[X5 _ hg]at h1;rw[h1]at h0;simp at h0
  unfold Gh at ht ih ⊢;cases hl:trim l with
  |
   nil =>
   simp only[trim,hl]at ht
   split at ht
   ·cases ht
   ·rename_i hx;injection ht with _ h2;subst h2;simp[trim,hne x (Qw ..) hx]
  |
   cons y k =>
   simp only[trim,hl]at ht;injection ht with _ h2;have hll:trim l=l:=by rw[hl];exact h2
   have ih:=ih hll λz hz=>hd z (Qi _ hz)
   rw[Zx];have hne2:l.map (· / g)≠[]:=by rw[<-hll,hl];simp
   cases hm:l.map (· / g)with
   |nil=>exact absurd hm hne2
   |
    cons u w =>
    rw[hm]at ih;have e:trim (x / g::u::w)=match trim (u::w)with| []=>if x / g=0 then []else [x / g]|y::k=>x / g::y::k:=rfl
    rw[e,ih]
theorem Crv.nml(k:Crv):UV k.norm:=by
 have hg:=k.g_ne;have hdv:∀z∈k.d'::(trim k.x++trim k.y),k.g∣z:=λz hz=>Ve (k.g_dvd z hz)
 have hx:=I5 (g:=k.g) (Tg k.x) hg λz hz=>hdv z (by simp[hz])
 have hy:=I5 (g:=k.g) (Tg k.y) hg λz hz=>hdv z (by simp[hz])
 refine⟨Tg _,Tg _,?_,?_⟩
 ·show 0<k.d' / k.g;obtain⟨q,hq⟩:=hdv k.d' (Qw ..);have h0:=k.d'_ne;have hgc:=k.gcd_ne;have e:k.d' / k.g=q:=by rw[hq,X5 _ hg]
  rw[e];unfold Crv.g at hq hg;have hq0:q≠0:=λe=>by rw[e,Kj]at hq;exact h0 hq
  split at hq
  ·rename_i hneg;rcases Uk hq0 with h|h
   ·have:=K7 (a:=-((Tu (k.d'::(trim k.x++trim k.y)):Nat):Int)) (b:=q) (by omega) h;omega
   ·exact h
  ·rename_i hneg;rcases Uk hq0 with h|h
   ·have:=Vw (a:=((Tu (k.d'::(trim k.x++trim k.y)):Nat):Int)) (b:=q) (by omega) h;omega
   ·exact h
 ·show Tu (k.d' / k.g::(trim ((trim k.x).map (· / k.g))++trim ((trim k.y).map (· / k.g))))=1;rw[show trim ((trim k.x).map (· / k.g))=(trim k.x).map (· / k.g) from hx,show trim ((trim k.y).map (· / k.g))=(trim k.y).map (· / k.g) from hy,<-Xx,<-Zx (f:=(· / k.g))];refine vN hg ?_;unfold Crv.g
  split <;> omega
structure Pt where
 c:Crv
 id:Int
def Pz(p:Pt):Fy:=[pl p.c.x,pl p.c.y,sg p.c.d,mg p.c.d,.int .i64 p.id]
def pts(l:List Pt):LV:=.row (l.map Pz)
def lG:List Pt->Int->Nat
 | [],_=>0
 |p::l,id=>if p.id<id then lG l id+1 else 0
def has(l:List Pt)(id:Int):Bool:=match l[lG l id]? with
 |some p=>decide (p.id=id)
 |none=>false
def put(l:List Pt)(q:Pt):List Pt:=l.take (lG l q.id)++q::l.drop (lG l q.id)
def Qs3(s n:Nat)(p:Pt):Prop:=UV p.c/\Cs s n p.c
def Ah(a b:Crv):Bool:=decide (a.x=b.x/\a.y=b.y/\a.d=b.d)
def Na(out:List Pt)(p:Pt):List Pt:=if out.any (λq=>Ah p.c q.c)=true then out else out++[p]
def Gu(l:List Pt):List Pt:=l.foldl Na []
theorem yJ{out:List Pt}{p q:Pt}(h:q∈Na out p):q∈out\/q=p:=by
 unfold Na at h
 split at h
 ·exact .inl h
 ·rcases Qr.1 h with h|h
  ·exact .inl h
  ·exact .inr (by simpa using h)
theorem Qfd(out:List Pt)(p:Pt):(Na out p).length<=out.length+1:=by
 unfold Na;split <;> simp
theorem Mh{α β:Type}(f:β->α->β)(b:β)(l:List α){i:Nat}{x:α}(h:l[i]? = some x):(l.take (i+1)).foldl f b=f ((l.take i).foldl f b) x:=by
 rw[X1,h];simp[Wn]
theorem qJ(l:List Pt)(i:Nat):∀q∈(l.take i).foldl Na [],q∈l:=by
 induction i with
 |zero=>simp
 |
  succ i ih =>
  intro q hq;cases hi:l[i]? with
  |
   none =>
   rw[Qo (by have:=Yh.1 hi;omega)]at hq;rw[Qo (Yh.1 hi)]at ih;exact ih q hq
  |
   some x =>
   rw[Mh _ _ _ hi]at hq;rcases yJ hq with h|h
   ·exact ih q h
   ·subst h;exact Qa hi
theorem qX(l:List Pt)(i:Nat):((l.take i).foldl Na []).length<=i:=by
 induction i with
 |zero=>simp
 |
  succ i ih =>
  cases hi:l[i]? with
  |
   none =>
   rw[Qo (by have:=Yh.1 hi;omega)];rw[Qo (Yh.1 hi)]at ih;omega
  |
   some x =>
   rw[Mh _ _ _ hi];have:=Qfd ((l.take i).foldl Na []) x;omega
theorem Hr{l:List Pt}{q:Pt}(h:q∈Gu l):q∈l:=by
 have:=qJ l l.length q;rw[Zd]at this;exact this h
theorem VD(l:List Pt):(Gu l).length<=l.length:=by
 have:=qX l l.length;rwa[Zd]at this
def IsPt(s n:Nat)(z:Fy)(q:Pt):Prop:=∃lx ly b l px py d,z=[.row lx,.row ly,.bool b,Qv7 l,.int .i64 q.id]/\IsInts lx px/\IsInts ly py/\Mv (.bool b) (Qv7 l) d/\Cs s n ⟨px,py,d⟩/\q.c=Crv.norm ⟨px,py,d⟩
def IsPts(s n:Nat):Fz->List Pt->Prop
 | [],[]=>True
 |z::zs,q::qs=>IsPt s n z q/\IsPts s n zs qs
 |_,_=>False
theorem IsPts.len{s n:Nat}:∀{zs:Fz} {qs:List Pt},IsPts s n zs qs->zs.length=qs.length
 | [],[],_=>rfl
 |_::_,_::_,h=>by simp[h.2.len]
 | [],_::_,h=>h.elim
 |_::_,[],h=>h.elim
theorem IsPts.get{s n:Nat}:∀{zs:Fz} {qs:List Pt},IsPts s n zs qs->∀{i:Nat} {q:Pt},qs[i]? = some q->∃z,zs[i]? = some z/\IsPt s n z q
 | [],[],_,i,q,h=>by simp at h
 |z::zs,q::qs,h,0,r,hr=>by simp at hr;subst hr;exact⟨z,rfl,h.1⟩
 |z::zs,q::qs,h,i+1,r,hr=>by simpa using h.2.get (i:=i) (by simpa using hr)
 | [],_::_,h,_,_,_=>h.elim
 |_::_,[],h,_,_,_=>h.elim
theorem IsPt.ok{s n:Nat}{z:Fy}{q:Pt}(h:IsPt s n z q)(h1:1<=s):Qs3 s n q:=by
 obtain⟨lx,ly,b,l,px,py,d,_,_,_,_,hc,e⟩:=h;unfold Qs3;rw[e];exact⟨Crv.nml _,hc.norm h1⟩
def Hp(p:Ft)(q:Rat):Int:=E8 (Qqd p q.num q.den) 0
def Pe(sgn:Ft->Int):Nat->Ft->Int
 | 0,_=>0
 |k+1,p=>if p.length=0 then 0 else if sgn p=0 then Pe sgn k (Hm p)else sgn p
theorem YD(sgn:Ft->Int):∀(k:Nat) (p:Ft),p.length<=k->Pe sgn k p=Pe sgn p.length p
 |
  0,p,h=>by
  have:p.length=0:=by omega
  rw[this]
 |
  k+1,p,h=>by
  cases hp:p.length with
  |zero=>simp[Pe,hp]
  |
   succ m =>
   simp only[Pe];have h1:=Pn p;rw[YD sgn k (Hm p) (by omega),YD sgn m (Hm p) (by omega)]
theorem YA(sgn:Ft->Int){p:Ft}(h:p.length=0):Pe sgn p.length p=0:=by rw[h];rfl
theorem YL(sgn:Ft->Int){p:Ft}(h:0<p.length)(hs:sgn p≠0):Pe sgn p.length p=sgn p:=by
 obtain⟨m,hm⟩:∃m,p.length=m+1:=⟨p.length-1,by omega⟩;rw[hm];simp only[Pe];rw[if_neg (by omega),if_neg hs]
theorem YE(sgn:Ft->Int){p:Ft}(h:0<p.length)(hs:sgn p=0):Pe sgn p.length p=Pe sgn (Hm p).length (Hm p):=by
 obtain⟨m,hm⟩:∃m,p.length=m+1:=⟨p.length-1,by omega⟩;rw[hm];simp only[Pe];rw[if_neg (by omega),if_pos hs];exact YD sgn m _ (by have:=Pn p;omega)
structure Tm where
 p:List Int
 lo:Rat
 hi:Rat
abbrev ta(t:Tm):Fy:=pl t.p::(rl t.lo++rl t.hi)
abbrev tq(q:Rat):Tm:=⟨[-q.num,(q.den:Int)],q,q⟩
def Hj(sg:Ft->Int)(p:Ft):Int:=Pe sg p.length p
def dY(p:Ft)(q:Rat):Int:=Hj (λp=>Hp p q) p
structure Pb(p:List Int):Prop where
 t:Gh p
 l:p.length<=64
 b:Bd 16777216 p
abbrev Qb(q:Rat):Prop:=Qs 16777216 q
abbrev Cb(k:Crv):Prop:=Cs 1048576 16 k
def Hg(a b:Crv):Ft:=P7 (Gs b.x a.d) (Gs a.x b.d)
def Hf(a b:Crv):Ft:=P7 (Gs b.y a.d) (Gs a.y b.d)
theorem pX{a b:Crv}(ha:Cb a)(hb:Cb b):Pb (Hg a b)/\(Hg a b).length<=16/\Bd 2097153 (Hg a b):=by
 have h1:Bd 2097153 (Hg a b):=Gd (Dd (G9 hb.x ha.d) (G9 ha.x hb.d)) (by omega);have h2:(Hg a b).length<=16:=by
  refine Qe (Ml _ _) ?_;have:=Gz b.x a.d;have:=Gz a.x b.d;have:=ha.lx;have:=hb.lx;omega
 exact⟨⟨Gk _ _,by omega,Gd h1 (by omega)⟩,h2,h1⟩
theorem pQ{a b:Crv}(ha:Cb a)(hb:Cb b):Pb (Hf a b)/\(Hf a b).length<=16/\Bd 2097153 (Hf a b):=by
 have h1:Bd 2097153 (Hf a b):=Gd (Dd (G9 hb.y ha.d) (G9 ha.y hb.d)) (by omega);have h2:(Hf a b).length<=16:=by
  refine Qe (Ml _ _) ?_;have:=Gz b.y a.d;have:=Gz a.y b.d;have:=ha.ly;have:=hb.ly;omega
 exact⟨⟨Gk _ _,by omega,Gd h1 (by omega)⟩,h2,h1⟩
def Ab(sg:Ft->Int)(a b:Pt):Fu->Bool
 | []=>decide (a.id<b.id)
 |p::l=>if 0<p.length then decide (0<Hj sg p)else Ab sg a b l
def JB(sg:Ft->Int)(a b:Pt):Bool:=Ab sg a b [Hf b.c a.c,Hg b.c a.c]
def Rk(sg:Ft->Int)(a b:Pt):Bool:=Ab sg a b [Hg a.c b.c,Hf a.c b.c]
end Orr
namespace Orr
open Go
structure Ct where
 kind:Int
 i0:Int
 i1:Int
 i2:Int
 i3:Int
 p:List Int
 want:Int
def Qsm:Ft->Ft->Bool
 |x::l,y::m=>if x=y then Qsm l m else decide (x<y)
 |_,_=>false
def Qxt(a b:Ct):Bool:=Qsm [a.kind,a.i0,a.i1,a.i2,a.i3] [b.kind,b.i0,b.i1,b.i2,b.i3]
def lH(out:List Ct)(c:Ct):Nat->Nat
 | 0=>0
 |
  k+1=>match out[k]? with
  |some x=>if Qxt c x=true then lH out c k else k+1
  |none=>k+1
theorem Qbz(out:List Ct)(c:Ct):∀k,lH out c k<=k
 | 0=>Qn _
 |
  k+1=>by
  simp only[lH]
  split
  ·split
   ·exact Nat.le_succ_of_le (Qbz out c k)
   ·exact Qn _
  ·exact Qn _
def EI(out:List Ct)(c:Ct):List Ct:=out.take (lH out c out.length)++c::out.drop (lH out c out.length)
theorem Qjb(out:List Ct)(c:Ct):(EI out c).length=out.length+1:=by
 have:=Qbz out c out.length;simp[EI];omega
theorem Qjc{out:List Ct}{c x:Ct}(h:x∈EI out c):x=c\/x∈out:=by
 simp only[EI,Qr,Qj]at h;rcases h with h|h|h
 ·exact .inr (Qq h)
 ·exact .inl h
 ·exact .inr (Q9 h)
def Oq(l:List Ct):List Ct:=l.foldl EI []
theorem zS:∀(l acc:List Ct),(l.foldl EI acc).length=acc.length+l.length
 | [],acc=>by simp
 |c::l,acc=>by simp only[Z0];rw[zS l (EI acc c),Qjb];simp;omega
theorem jC(l:List Ct):(Oq l).length=l.length:=by unfold Oq;rw[zS];simp
theorem zP:∀(l acc:List Ct) {x:Ct},x∈l.foldl EI acc->x∈l\/x∈acc
 | [],acc,x,h=>.inr h
 |
  c::l,acc,x,h=>by
  simp only[Z0]at h;rcases zP l _ h with h|h
  ·exact .inl (Qi _ h)
  ·rcases Qjc h with rfl|h
   ·exact .inl (Qw ..)
   ·exact .inr h
theorem jD{l:List Ct}{x:Ct}(h:x∈Oq l):x∈l:=by
 rcases zP l [] h with h|h
 ·exact h
 ·cases h
theorem Qjf{α:Type}(l:List α)(z x:α){k m':Nat}(hk:k<=l.length)(hm:m'=l.length-k) :
 ((l++[z]).take (k+1)++((l++[z]).drop k).take m'++(l++[z]).drop (k+1+m')).set k x=l.take k++x::l.drop k:=by
 subst hm;have e1:((l++[z]).drop k).take (l.length-k)=l.drop k:=by
  rw[Kd hk,Ke (by simp),Qo (by simp)]
 have e2:(l++[z]).drop (k+1+(l.length-k))=[]:=Yx (by simp;omega);rw[e1,e2,Xk];have e3:(l++[z]).take (k+1)=(l++[z]).take k++[(l++[z])[k]'(by simp;omega)]:=by rw[List.take_succ_eq_append_getElem]
 rw[e3,Ke hk,Zk,List.set_append,if_neg (by simp;omega)];simp[Z8 hk]
end Orr
namespace Orr
open Go Go.Proofs Tryz
set_option maxRecDepth 10000
abbrev pr(p:Ft):TV:=.one (pl p)
theorem Nv{p:Ft}{i:Nat}{z:Int}(h:p[i]? = some z):(p.map Si)[i]? = some (Si z):=Tz h
theorem DI(p:Ft):Fo 332 [pr p] [pr (trim p)]:=by
 refine Sp func332 rfl (ln 0 rfl rfl λhl=>?_);rw[Q5]at hl;refine Ff [] rfl ?_;refine lp (S:=Nat) 0 (λL1 n=>(3,.v (.oi n))::L1) (λ_=>[]) id (λn=>n<=p.length/\∀j x,n<=j->p[j]? = some x->x=0) (p.map Si).length ⟨by simp,λj x h1 h2=>by
  have:=(Qd.1 h2).1;simp at h1;omega⟩ rfl (λ_ _=>rfl) rfl λn ⟨h1,h2⟩=>?_
 cases n with
 |zero=>exact Fh [.f (by simp),.f rfl,.i 0] rfl (by rw[mP h1 h2 (λh=>by omega)];simp[pl]) (by simp[Ge])
 |
  succ n =>
  obtain⟨x,hx⟩:=gxE (l:=p) (i:=n) (by omega);by_cases h0:x=0
  ·refine Fg [.t (by simp),.r 11 (v:=.oi n) (by simp),.x (Nv hx),.k YW,.t (by simp[h0]),.r 17 (v:=.oi n) (by simp)] rfl ?_;exact rd n (by simp) ⟨by omega,λj y h3 h4=>by
    rcases V7 h3 with rfl|h3
    ·rw[hx]at h4;injection h4 with h4;rw[<-h4,h0]
    ·exact h2 j y h3 h4⟩ rfl
  ·exact Fh [.t (by simp),.r 11 (v:=.oi n) (by simp),.x (Nv hx),.k YW,.f (by simp[h0]),.i (n+1)] rfl (by rw[mP h1 h2 (λ_=>⟨x,hx,h0⟩)];simp[pl,Vs]) (by simp[Ge] <;> omega)
theorem iE(p:Ft)(k:Nat):Fo 304 [pr p,.oi k] [.agg (Si (p.getD k 0))]:=by
 by_cases h:k<p.length
 ·have hx:=Qf h;have e:p.getD k 0=p[k]:=by simp[List.getD,hx]
  rw[e];exact Fi func304 rfl [.t (by simp;omega),.x (Nv hx)] rfl
 ·have e:p.getD k 0=0:=by simp[List.getD,Qt (Vi h)]
  rw[e,Ix];exact Fi func304 rfl [.f (by simp;omega)] rfl
def zF(f:Nat->Fy)(z:Fy)(n k:Nat):Fz:=(List.range n).map λi=>if i<k then f i else z
theorem KV(f:Nat->Fy)(z:Fy)(n k:Nat):(zF f z n k).length=n:=by simp[zF]
theorem ZQ(f:Nat->Fy)(z:Fy)(n:Nat):List.replicate n z=zF f z n 0:=by
 refine Xv λi=>?_
 simp only[zF,Ys,Q8];by_cases h:i<n
 ·simp[h]
 ·simp[h]
theorem KY(f:Nat->Fy)(z:Fy)(n:Nat):zF f z n n=(List.range n).map f:=by
 refine Ud λi hi=>?_
 rw[if_pos (Km.1 hi)]
theorem KW(f:Nat->Fy)(z:Fy){n k:Nat}(h:k<n):(zF f z n k).set k (f k)=zF f z n (k+1):=by
 refine Xv λi=>?_
 rw[Jy];simp only[zF,Q8,Q5,List.length_range,h,if_true];by_cases e:k=i
 ·subst e;simp[h]
 ·simp only[e,if_false];by_cases hi:i<n
  ·simp only[Ji hi,Yu];congr 1;by_cases h2:i<k
   ·rw[if_pos h2,if_pos (by omega)]
   ·rw[if_neg h2,if_neg (by omega)]
  ·simp[Qt,hi]
theorem yB{n fid:Nat}{l1 l2:Fy}{g:Nat->Int}(hn:n<274877906944)(h:∀k,k<n->yK prog fid [.oi k,.one (.sh l1),.one (.sh l2)] [.agg (Si (g k))]):Fo 301 [.oi n,.one (.fn fid [] [.sh l1,.sh l2])] [pr (B6 n g)]:=by
 refine Sp func301 rfl ?_;refine Fg [.i n,.i n,.r 10 (eI (b:=(n:Int)) (by simp))] rfl ?_;rw[ZQ λk=>Si (g k)];refine Fl (S:=Nat) 1 (λL1 k=>(11,.v (.oi k))::L1) (λk=>[.row false 55 2 (zF (λk=>Si (g k)) [.bool false,.nils] n k)]) (λk=>n-k) (λk=>k<=n) 0 (Qh _) rfl rfl λk hk=>?_
 by_cases hlt:k<n
 ·refine go tt [.t (by simp;omega),.k (h k hlt),.i k] rfl (by simp[Ge,KV];omega) ?_;have e:=KW (λk=>Si (g k)) [.bool false,.nils] hlt;rw[e];exact rd (k+1) (by omega) hlt rfl
 ·obtain rfl:k=n:=by omega
  have e:zF (λk=>Si (g k)) [.bool false,.nils] k k=((List.range k).map g).map Si:=by rw[KY];simp
  rw[e];exact Fh [.f (by simp),.k (DI _)] rfl
theorem iN{n fid:Nat}{l1:Fy}{g:Nat->Int}(hn:n<274877906944)(h:∀k,k<n->yK prog fid [.oi k,.one (.sh l1)] [.agg (Si (g k))]):Fo 301 [.oi n,.one (.fn fid [] [.sh l1])] [pr (B6 n g)]:=by
 refine Sp func301 rfl ?_;refine Fg [.i n,.i n,.r 10 (eI (b:=(n:Int)) (by simp))] rfl ?_;rw[ZQ λk=>Si (g k)];refine Fl (S:=Nat) 1 (λL1 k=>(11,.v (.oi k))::L1) (λk=>[.row false 55 2 (zF (λk=>Si (g k)) [.bool false,.nils] n k)]) (λk=>n-k) (λk=>k<=n) 0 (Qh _) rfl rfl λk hk=>?_
 by_cases hlt:k<n
 ·refine go tt [.t (by simp;omega),.k (h k hlt),.i k] rfl (by simp[Ge,KV];omega) ?_;have e:=KW (λk=>Si (g k)) [.bool false,.nils] hlt;rw[e];exact rd (k+1) (by omega) hlt rfl
 ·obtain rfl:k=n:=by omega
  have e:zF (λk=>Si (g k)) [.bool false,.nils] k k=((List.range k).map g).map Si:=by rw[KY];simp
  rw[e];exact Fh [.f (by simp),.k (DI _)] rfl
theorem Qtm{p q:Ft}(k:Nat)(hp:Bd 4294967295 p)(hq:Bd 4294967295 q):Fo 357 [.oi k,.one (.sh [pl p]),.one (.sh [pl q])] [.agg (Si (p.getD k 0+q.getD k 0))] :=
 Fi func357 rfl [.k (iE p k),.k (iE q k),.k (DC (Gl _) (Gl _) (G5 hp k) (G5 hq k))] rfl
theorem Qtw{p q:Ft}(k:Nat)(hp:Bd 4294967295 p)(hq:Bd 4294967295 q):Fo 302 [.oi k,.one (.sh [pl p]),.one (.sh [pl q])] [.agg (Si (p.getD k 0-q.getD k 0))] :=
 Fi func302 rfl [.k (iE p k),.k (iE q k),.k (Qtx (Gl _) (Gl _) (G5 hp k) (G5 hq k))] rfl
theorem S8{p:Ft}{k:Nat}(h:k<p.length):p[k]? = some (p.getD k 0):=by simp[List.getD,Qf h]
theorem Qgl{p:Ft}{c:Int}{k:Nat}(hk:k<p.length)(hp:Bd 4294967295 p)(hc:Gy c<=4294967295):Fo 305 [.oi k,.one (.sh [pl p]),.one (.sh (Si c))] [.agg (Si (p.getD k 0*c))] :=
 Fi func305 rfl [.x (Nv (S8 hk)),.k (Dl (Gl _) (Gl _) (G5 hp k) hc)] rfl
theorem Qts{p:Ft}{k:Nat}(hk:k<p.length)(hp:Bd 4294967295 p):Fo 396 [.oi k,.one (.sh [pl p])] [.agg (Si (-(p.getD k 0)))] :=
 Fi func396 rfl [.x (Nv (S8 hk)),.k (fL (Gl _) (G5 hp k))] rfl
theorem Qc2{p:Ft}{k:Nat}(hk:k+1<p.length)(hl:p.length<274877906944)(hp:Bd 4294967295 p):Fo 359 [.oi k,.one (.sh [pl p])] [.agg (Si (p.getD (k+1) 0*((k+1:Nat):Int)))] :=
 Fi func359 rfl [.x (Nv (S8 hk)),.r 10 (eI (b:=((k+1:Nat):Int)) (by omega)),.k (bY (by omega)),.k (Dl (Gl _) (Gl _) (G5 hp _) (Qd8 (show k+1<274877906944 by omega)))] rfl rfl (by simp[Ge] <;> omega)
theorem yS{p q:Ft}(hlp:p.length<274877906944)(hlq:q.length<274877906944)(hp:Bd 4294967295 p)(hq:Bd 4294967295 q):Fo 283 [pr p,pr q] [pr (Ms p q)] :=
 Fi func283 rfl [.r 9 (eI (b:=((max p.length q.length:Nat):Int)) (by simp;omega)),.k (yB (by omega) λk _=>Qtm k hp hq)] rfl
theorem TM{p q:Ft}(hlp:p.length<274877906944)(hlq:q.length<274877906944)(hp:Bd 4294967295 p)(hq:Bd 4294967295 q):Fo 193 [pr p,pr q] [pr (P7 p q)] :=
 Fi func193 rfl [.r 9 (eI (b:=((max p.length q.length:Nat):Int)) (by simp;omega)),.k (yB (by omega) λk _=>Qtw k hp hq)] rfl
theorem Qgg{p:Ft}(hlp:p.length<274877906944)(hp:Bd 4294967295 p):Fo 367 [pr p] [pr (Nm p)] :=
 Fi func367 rfl [.r 4 (eI (b:=(p.length:Int)) (by simp)),.k (iN hlp λk hk=>Qts hk hp)] rfl
theorem Cu{p:Ft}{c:Int}(hlp:p.length<274877906944)(hp:Bd 4294967295 p)(hc:Gy c<=4294967295):Fo 194 [pr p,.agg (Si c)] [pr (Gs p c)] :=
 Fi func194 rfl [.r 6 (eI (b:=(p.length:Int)) (by simp)),.k (yB hlp λk hk=>Qgl hk hp hc)] rfl
theorem VA{p:Ft}(hlp:p.length<274877906944)(hp:Bd 4294967295 p):Fo 285 [pr p] [pr (Hm p)] :=
 Fi func285 rfl [.r 6 (eI (b:=((p.length-1:Nat):Int)) (by simp;omega)),.k (iN (by omega) λk hk=>Qc2 (by omega) hlp hp)] rfl rfl (by simp[Ge];omega)
theorem Am{ls:Fz}{p:Ft}(hi:IsInts ls p)(hl:p.length<274877906944)(hs:Bd 4294967295 p):Fo 235 [.one (.row ls)] [pr (trim p)]:=by
 refine Sp func235 rfl ?_;have hlen:=hi.len;refine Fg [.i ls.length,.i ls.length] rfl ?_;rw[ZQ λk=>Si (p.getD k 0)];refine Fl (S:=Nat) 1 (λL1 k=>(11,.v (.oi k))::L1) (λk=>[.row false 55 2 (zF (λk=>Si (p.getD k 0)) [.bool false,.nils] ls.length k)]) (λk=>ls.length-k) (λk=>k<=ls.length) 0 (Qh _) rfl rfl λk hk=>?_
 by_cases hlt:k<ls.length
 ·obtain⟨x,y,hx,hxy⟩:=hi.get (S8 (p:=p) (k:=k) (by omega));have cn:=XT hxy (G5 hs k);obtain⟨b,l,rfl,rfl,_⟩:=hxy;refine go tt [.t (by simp;omega),.x hx,.k cn,.i k] rfl (by simp[Ge,KV];omega) ?_;have e:=KW (λk=>Si (p.getD k 0)) [.bool false,.nils] hlt;rw[e];exact rd (k+1) (by omega) hlt rfl
 ·obtain rfl:k=ls.length:=by omega
  have e:zF (λk=>Si (p.getD k 0)) [.bool false,.nils] ls.length ls.length=p.map Si:=by
   rw[KY,hlen];refine Xv λi=>?_
   by_cases hi:i<p.length
   ·simp[Ji hi,List.getD,Qf hi]
   ·simp[Qt,hi]
  rw[e];exact Fh [.f (by simp),.k (DI _)] rfl
theorem Mk{p:Ft}(ht:Gh p)(hl:p.length<274877906944)(hs:Bd 4294967295 p):Fo 235 [pr p] [pr p]:=by
 have:=Am (S9 p) hl hs;rw[ht]at this;exact this
theorem Qo5{p:Ft}{i:Nat}{z:Int}(h:p[i]? = some z):(p.map λ(x:Int)=>[LV.int .i64 x])[i]? = some [.int .i64 z]:=Tz h
theorem Qw5{p:Ft}(hl:p.length<274877906944)(hr:∀z∈p,-9223372036854775808≤z/\z≤9223372036854775807):Fo 228 [.one (ids p)] [pr (trim p)]:=by
 refine Sp func228 rfl ?_;refine Fg [.r 7 (eI (b:=(p.length:Int)) (by simp)),.i p.length,.i p.length,.r 10 (eI (b:=(p.length:Int)) (by simp))] rfl ?_;rw[ZQ λk=>Si (p.getD k 0)];refine Fl (S:=Nat) 1 (λL1 k=>(11,.v (.oi k))::L1) (λk=>[.row false 55 2 (zF (λk=>Si (p.getD k 0)) [.bool false,.nils] p.length k)]) (λk=>p.length-k) (λk=>k<=p.length) 0 (Qh _) rfl rfl λk hk=>?_
 by_cases hlt:k<p.length
 ·have hg:=S8 hlt;refine go tt [.t (by simp;omega),.x (Qo5 hg),.k (bY (hr _ (Qa hg))),.i k] rfl (by simp[Ge,KV];omega) ?_;have e:=KW (λk=>Si (p.getD k 0)) [.bool false,.nils] hlt;rw[e];exact rd (k+1) (by omega) hlt rfl
 ·obtain rfl:k=p.length:=by omega
  have e:zF (λk=>Si (p.getD k 0)) [.bool false,.nils] p.length p.length=p.map Si:=by
   rw[KY];refine Xv λi=>?_
   by_cases hi:i<p.length
   ·simp[Ji hi,List.getD,Qf hi]
   ·simp[Qt,hi]
  rw[e];exact Fh [.f (by simp),.k (DI _)] rfl
theorem lV(l:Ft)(i:Nat)(z:Int):(l.map Si).set i (Si z)=(l.set i z).map Si:=by rw[Kk]
theorem CY(m:Nat):((List.replicate m [LV.bool false,LV.nils]).map λc=>c.map NE)=(List.replicate m (0:Int)).map Si:=by
 simp[Ix,NE]
theorem yP{p0 q:Ft}{s t:Nat}(tq:Gh q)(hlp:p0.length<137438953472)(hlq:q.length<137438953472)(hp:Bd s p0)(hq:Bd t q)(hst:s+t<=4294967000):Fo 284 [pr p0,pr q] [pr (Gq (trim p0) q)]:=by
 have cp:=Am (S9 p0) (by omega) (Gd hp (show s<=4294967295 by omega));have hp:=Mb hp;have hlp:=Xg (Sl p0) hlp;obtain⟨p,ep⟩:=nmE (trim p0);rw[<-ep]at cp hp hlp ⊢;have cq:=Mk tq (by omega) (Gd hq (show t<=4294967295 by omega));by_cases h0:p.length=0
 ·have e:Gq p q=[]:=by unfold Gq;rw[if_pos (.inl h0)]
  rw[e];exact Fi func284 rfl [.k cp,.k cq,.t (by simp;exact Qg h0),.t rfl] rfl
 by_cases h1:q.length=0
 ·have e:Gq p q=[]:=by unfold Gq;rw[if_pos (.inr h1)]
  rw[e];exact Fi func284 rfl [.k cp,.k cq,.f (by simp;intro h;subst h;simp at h0),.t (by simp;exact Qg h1)] rfl
 refine Sp func284 rfl ?_;have e:Gq p q=trim (Lq p q (List.replicate (p.length+q.length-1) 0) p.length):=by unfold Gq;rw[if_neg (by omega)]
 rw[e];obtain⟨N,hN⟩:=nmE (p.length+q.length-1);rw[<-hN];obtain⟨o,ho⟩:=nmE (List.replicate N (0:Int));rw[<-ho];have hol:o.length=N:=by rw[ho];simp
 have ho0:∀m,o.getD m 0=0:=λm=>by rw[ho];exact Tw N m
 refine Fg [.k cp,.k cq,.f (by simp;intro h;subst h;simp at h0),.f (by simp;intro h;subst h;simp at h1),.r 27 (eI (b:=(N:Int)) (by simp;omega)),.i N,.i N] rfl ?_;refine nl 0 rfl rfl rfl ?_;rw[CY,<-ho];refine Fl (S:=Nat) 1 (λL1 i=>(31,.v (.oi i))::L1) (λi=>[.row false 55 2 ((Lq p q o i).map Si)]) (λi=>p.length-i) (λi=>i<=p.length) 0 (Qh _) rfl rfl λi hi=>?_
 by_cases hlt:i<p.length
 ·refine Ff [.t (by simp;omega),.x (Nv (S8 hlt))] rfl ?_;refine Fl (S:=Nat) 2 (λL1 k=>(38,.v (.oi k))::L1) (λk=>[.row false 55 2 ((ZU (p.getD i 0) q i (Lq p q o i) k).map Si),.blk 55 (Si (p.getD i 0))]) (λk=>q.length-k) (λk=>k<=q.length) 0 (Qh _) rfl rfl λk hk=>?_
  by_cases hk2:k<q.length
  ·have hm1:Gy ((ZU (p.getD i 0) q i (Lq p q o i) k).getD (i+k) 0)<=4294967295:=Qe (O6 (t:=39) (kM (by rw[Lr];omega) (kS (λj hj=>by omega) ho0 (λi j=>C4 (G5 hp i) (G5 hq j))) (λj=>C4 (G5 hp i) (G5 hq j)) (i+k)) (Wh (show i+1<549755813888 by omega) (by decide))) (by omega);have hm2:Gy (p.getD i 0*q.getD k 0)<=4294967295:=Qe (Hn _ _) (by have:=G5 hp i;have:=G5 hq k;omega);have hg:(ZU (p.getD i 0) q i (Lq p q o i) k)[i+k]? = some ((ZU (p.getD i 0) q i (Lq p q o i) k).getD (i+k) 0):=S8 (by rw[ZH,Lr];omega);refine go tt [.t (by simp;omega),.x (Nv (S8 hk2)),.i (i+k),.x (Nv hg),.k (Dl (Gl _) (Gl _) (Qe (G5 hp i) (by omega)) (Qe (G5 hq k) (by omega))),.k (DC (Gl _) (Gl _) hm1 hm2),.i (i+k)] rfl (by simp[Ge,ZH,Lr] <;> omega) ?_;rw[lV];exact rd (k+1) (by omega) hk2 rfl
  ·obtain rfl:k=q.length:=by omega
   exact go tt [.f (by simp)] rfl (by simp[Ge];omega) (rd (i+1) (by omega) hlt rfl)
 ·obtain rfl:i=p.length:=by omega
  exact Fh [.f (by simp),.k (DI _)] rfl
theorem DG{p q:Ft}{s t:Nat}(tp:Gh p)(tq:Gh q)(hlp:p.length<137438953472)(hlq:q.length<137438953472)(hp:Bd s p)(hq:Bd t q)(hst:s+t<=4294967000):Fo 284 [pr p,pr q] [pr (Gq p q)]:=by
 have h:=yP tq hlp hlq hp hq hst;rw[show trim p=p from tp]at h;exact h
theorem iK{p q:Ft}(hlp:p.length<274877906944)(hlq:q.length<274877906944)(hp:Bd 4294967295 p)(hq:Bd 4294967295 q):Fo 353 [pr p,pr q] [.one (.bool (decide (trim p=trim q)))]:=by
 refine Sp func353 rfl ?_;have cp:=Am (S9 p) hlp hp;have cq:=Am (S9 q) hlq hq;have bp:=Mb hp;have bq:=Mb hq;have l1:=Sl p;have l2:=Sl q;obtain⟨a,ha⟩:=nmE (trim p);obtain⟨b,hb⟩:=nmE (trim q);rw[<-ha]at cp bp l1 ⊢;rw[<-hb]at cq bq l2 ⊢;by_cases hl:a.length=b.length
 ·refine Ff [.k cp,.k cq,.f (by simp;omega)] rfl ?_;refine Fl (S:=Nat) 0 (λL1 i=>(18,.v (.oi i))::L1) (λ_=>[]) (λi=>a.length-i) (λi=>i<=a.length/\a.take i=b.take i) 0 ⟨Qh _,rfl⟩ rfl rfl λi ⟨hi,he⟩=>?_
  by_cases hlt:i<a.length
  ·have ga:=S8 hlt;have gb:=S8 (p:=b) (k:=i) (by omega);have cc:=yN (Gl (a.getD i 0)) (Gl (b.getD i 0)) (G5 bp i) (G5 bq i);by_cases hz:a.getD i 0=b.getD i 0
   ·refine Fg [.t (by simp;omega),.x (Nv ga),.x (Nv gb),.k cc,.f (by simpa using vQ.2 hz)] rfl ?_;exact rd (i+1) (by omega) ⟨hlt,by rw[X1,X1,he,ga,gb,hz]⟩ rfl
   ·exact Fh [.t (by simp;omega),.x (Nv ga),.x (Nv gb),.k cc,.t (by have:=mt vQ.1 hz;simpa using this)] rfl (by rw[decide_eq_false];intro h;exact hz (by rw[h])) trivial
  ·obtain rfl:i=a.length:=by omega
   rw[Zd,hl,Zd]at he;exact Fh [.f (by simp)] rfl (by rw[decide_eq_true he]) trivial
 ·exact Fh [.k cp,.k cq,.t (by simp;omega)] rfl (by rw[decide_eq_false];intro h;exact hl (by rw[h])) trivial
theorem Qgj{p:Ft}{n d:Int}{s t:Nat}(hl:p.length<274877906944)(hp:Bd s p)(hn:Gy n<=t)(hd:Gy d<=t)(hst:s+p.length*(t+1)+2*t+10<=4294967295):Fo 361 [pr p,.agg (Si n),.agg (Si d)] [.agg (Si (Qqd p n d))]:=by
 refine Sp func361 rfl ?_;refine Fg [.k (bY (z:=1) (by decide)),.r 13 (eI (b:=(p.length:Int)-1-((0:Nat):Int)) (by simp))] rfl ?_;refine nlb 3 rfl rfl rfl ?_;have e0:[LV.bool false,LV.nils].map NE=Si (Bw p n d 0).1:=by simp[NE,Bw,Ix]
 rw[e0];refine Fl (S:=Nat) 5 (λL1 j=>(9,.v (.oi ((p.length:Int)-1-(j:Int))))::L1) (λj=>[.blk 55 (Si n),.blk 55 (Si d),.blk 55 [.bool false,.nils],.blk 55 (Si (Bw p n d j).1),.blk 55 (Si (Bw p n d j).2)]) (λj=>p.length-j) (λj=>j<=p.length) 0 (Qh _) rfl rfl λj hj=>?_
 have hv:=uB (k:=j) hp hn hd;have hjl:j*(t+1)<=p.length*(t+1):=Qx _ (by omega);have hjl2:j*t<=j*(t+1):=Zl _ (by omega);by_cases hlt:j<p.length
 ·have hc:=G5 hp (p.length-1-j);have hm1:Gy ((Bw p n d j).1*n)<=4294967295:=Qe (Hn _ _) (by omega);have hm2:Gy (p.getD (p.length-1-j) 0*(Bw p n d j).2)<=4294967295:=Qe (Hn _ _) (by omega);refine go tt [.t (by simp;omega),.k (Dl (Gl _) (Gl _) (by omega) (by omega)),.r 22 (eI (b:=((p.length-1-j:Nat):Int)) (by omega)),.x (Nv (S8 (p:=p) (k:=p.length-1-j) (by omega))),.k (Dl (Gl _) (Gl _) (by omega) (by omega)),.k (DC (Gl _) (Gl _) hm1 hm2),.k (Dl (Gl _) (Gl _) (by omega) (by omega)),.r 17 (eI (b:=(p.length:Int)-1-((j+1:Nat):Int)) (by omega))] rfl (by simp[Ge] <;> omega) ?_;exact rd (j+1) (by omega) hlt rfl
 ·obtain rfl:j=p.length:=by omega
  exact Fh [.f (by simp;omega)] rfl
theorem XR{p:Ft}(tp:Gh p)(hl:p.length<274877906944)(hp:Bd 4294967295 p):Fo 393 [pr p] [.agg (Si (p.getD (p.length-1) 0))]:=by
 have cn:=Mk tp hl hp;by_cases h0:p=[]
 ·subst h0;exact Fi func393 rfl [.k cn,.t (by simp)] rfl (by simp[Ix]) trivial
 ·have Ei:0<p.length:=Yv.2 h0;exact Fi func393 rfl [.k cn,.f (by simpa using h0),.r 12 (eI (b:=((p.length-1:Nat):Int)) (by simp;omega)),.x (Nv (S8 (by omega)))] rfl rfl (by simp[Ge];omega)
theorem Qsr{a b:Int}{q:Rat}(h1:a=q.num)(h2:b=(q.den:Int)):[sg a,mg a,sg b,mg b]=rl q:=by rw[h1,h2]
theorem DL{n d:Int}(h0:d≠0)(hn:Gy n<=4294967295)(hd:Gy d<=4294967295):Fo 380 [.agg (Si n),.agg (Si d)] [.agg (rl (Rat.divInt n d))]:=by
 have cg:=Qga (S9 [n,d]) (λz hz=>by simp at hz;rcases hz with rfl|rfl <;> assumption);have gp:=tU (n:=n) h0;have gs:=Qa2 (n:=n) h0 hd;have m1:=ED n d;have m2:=EL n d;obtain⟨g,hg⟩:=nmE (((Tu [n,d]:Nat):Int));rw[<-hg]at cg gp gs m1 m2;by_cases hneg:d<0
 ·obtain⟨e1,e2⟩:=Qpi (n:=n) hneg;rw[<-hg]at e1 e2;rw[<-Qsr e1 e2];exact Fi func380 rfl [.k cg,.t (by simpa using hneg),.k (fL (Gl n) hn),.k (fL (Gl d) hd),.k (I9 (Gl _) (Gl _) (by rw[Ty];exact hn) gs (by omega) (Qbm m1)),.k (I9 (Gl _) (Gl _) (by rw[Ty];exact hd) gs (by omega) (Qbm m2))] rfl
 ·obtain⟨e1,e2⟩:=kG (n:=n) (d:=d) (by omega);rw[<-hg]at e1 e2;rw[<-Qsr e1 e2];exact Fi func380 rfl [.k cg,.f (by simpa using hneg),.k (I9 (Gl _) (Gl _) hn gs (by omega) m1),.k (I9 (Gl _) (Gl _) hd gs (by omega) m2)] rfl
theorem oQ{x y x' y':LV}{n d:Int}(h1:Mv x y n)(h2:Mv x' y' d)(hn:Gy n<=4294967295)(hd:Gy d<=4294967295):Fo 328 [.agg [x,y,x',y']] [.agg (rl (T0 n d))]:=by
 have c1:=XT h1 hn;have c2:=XT h2 hd;obtain⟨b,l,rfl,rfl,_⟩:=h1;obtain⟨b',l',rfl,rfl,_⟩:=h2;by_cases h0:d=0
 ·have e:T0 n d=Rat.divInt n 1:=by unfold T0;rw[if_pos h0]
  rw[e];exact Fi func328 rfl [.k c2,.k YW,.t (by simpa using h0),.k (bY (z:=1) (by decide)),.k c1,.k (DL (by decide) hn (by decide))] rfl
 ·have e:T0 n d=Rat.divInt n d:=by unfold T0;rw[if_neg h0]
  rw[e];exact Fi func328 rfl [.k c2,.k YW,.f (by simpa using h0),.k c1,.k (DL h0 hn hd)] rfl
theorem hQ{q:Rat}(hq:Qs 4294967295 q):Fo 328 [.agg (rl q)] [.agg (rl q)]:=by
 have:=oQ (Gl q.num) (Gl (q.den:Int)) hq.1 hq.2;rwa[Qcc]at this
theorem iP{a b:Rat}(ha:Qs 2147483647 a)(hb:Qs 2147483647 b):Fo 381 [.agg (rl a),.agg (rl b)] [.agg (Si (a.num*(b.den:Int))),.agg (Si (b.num*(a.den:Int))),.agg (Si ((a.den:Int)*(b.den:Int)))] :=
 Fi func381 rfl [.k (hQ (ha.mono (by decide))),.k (hQ (hb.mono (by decide))),.k (Dl (Gl _) (Gl _) (Qe ha.1 (by decide)) (Qe hb.2 (by decide))),.k (Dl (Gl _) (Gl _) (Qe hb.1 (by decide)) (Qe ha.2 (by decide))),.k (Dl (Gl _) (Gl _) (Qe ha.2 (by decide)) (Qe hb.2 (by decide)))] rfl
theorem LZ{a b:Rat}(ha:Qs 2147483647 a)(hb:Qs 2147483647 b):Fo 329 [.agg (rl a),.agg (rl b)] [.oi (Tj a b)] :=
 Fi func329 rfl [.k (iP ha hb),.k (yN (Gl _) (Gl _) (Qe (Hn _ _) (by have:=ha.1;have:=hb.2;omega)) (Qe (Hn _ _) (by have:=hb.1;have:=ha.2;omega)))] rfl
theorem Qt6{x y x' y':LV}{n d:Int}(h1:Mv x y n)(h2:Mv x' y' d)(hn:Gy n<=4294967295)(hd:Gy d<=4294967295):Fo 223 [.agg [x,y,x',y'],.one (.row [])] [.agg (rl (T0 n d))]:=by
 have c1:=oQ h1 h2 hn hd;obtain⟨b,l,rfl,rfl,_⟩:=h1;obtain⟨b',l',rfl,rfl,_⟩:=h2;refine Sp func223 rfl ?_;refine Ff [.k c1] rfl ?_;refine Fl (S:=Unit) 3 (λL1 _=>(12,.v (.oi 0))::L1) (λ_=>[.blk 57 [.bool b,.row (lm l),.bool b',.row (lm l')],.blk 57 [.bool false,.nils,.bool false,.nils],.blk 57 (rl (T0 n d))]) (λ_=>0) (λ_=>True) () trivial rfl rfl λ_ _=>?_
 exact Fh [.f (by simp)] rfl
theorem yA{q:Rat}(hq:Qs 4294967295 q):Fo 223 [.agg (rl q),.one (.row [])] [.agg (rl q)]:=by
 have:=Qt6 (Gl q.num) (Gl (q.den:Int)) hq.1 hq.2;rwa[Qcc]at this
theorem Qn4{q:Rat}(hq:Qs 4294967295 q):Fo 360 [.agg (rl q)] [.agg (rl q)]:=Fi func360 rfl [.k (yA hq)] rfl
theorem iW{p:Ft}{q:Rat}{s t:Nat}(tp:Gh p)(hl:p.length<274877906944)(hp:Bd s p)(hq:Qs t q)(hst:s+p.length*(t+1)+2*t+10<=4294967295):Fo 288 [pr p,.agg (rl q)] [.oi (Hp p q)]:=by
 have cc:=yN (Gl (Qqd p q.num q.den)) dU (Qe (uB hp hq.1 hq.2).1 (by omega)) (by decide);exact Fi func288 rfl [.k (Qn4 (hq.mono (by omega))),.k (Mk tp hl (Gd hp (by omega))),.k (Qgj hl hp hq.1 hq.2 hst),.k cc] rfl
theorem Qgx{p:Ft}{g:Int}(hl:p.length<274877906944)(hp:Bd 4294967295 p)(hg:Gy g≤4294967295)(h0:g≠0)(hd:∀z∈p,z % g=0):Fo 338 [pr p,.agg (Si g)] [pr (trim (p.map (· / g)))]:=by
 refine Sp func338 rfl ?_;refine Fg [.r 9 (eI (b:=(p.length:Int)) (by simp)),.i p.length,.i p.length,.r 12 (eI (b:=(p.length:Int)) (by simp))] rfl ?_;rw[ZQ λk=>Si (p.getD k 0 / g)];refine Fl (S:=Nat) 2 (λL1 k=>(13,.v (.oi k))::L1) (λk=>[.blk 55 (Si g),.row false 55 2 (zF (λk=>Si (p.getD k 0 / g)) [.bool false,.nils] p.length k)]) (λk=>p.length-k) (λk=>k<=p.length) 0 (Qh _) rfl rfl λk hk=>?_
 by_cases hlt:k<p.length
 ·have hg2:=S8 hlt;refine go tt [.t (by simp;omega),.x (Nv hg2),.k (I9 (Gl _) (Gl _) (G5 hp k) hg h0 (hd _ (Qa hg2))),.i k] rfl (by simp[Ge,KV];omega) ?_;have e:=KW (λk=>Si (p.getD k 0 / g)) [.bool false,.nils] hlt;rw[e];exact rd (k+1) (by omega) hlt rfl
 ·obtain rfl:k=p.length:=by omega
  have e:zF (λk=>Si (p.getD k 0 / g)) [.bool false,.nils] p.length p.length=(p.map (· / g)).map Si:=by
   rw[KY];refine Xv λi=>?_
   by_cases hi:i<p.length
   ·simp[Ji hi,List.getD,Qf hi]
   ·simp[Qt,hi]
  rw[e];exact Fh [.f (by simp),.k (Am (S9 (p.map (· / g))) (by simp;exact hl) (TR hp g))] rfl
theorem IR(p:Ft):∀c∈p.map Si,c.length=2:=Qxx p λ_=>rfl
theorem iS{lx ly:Fz}{px py:Ft}{x y:LV}{d:Int}(hx:IsInts lx px)(hy:IsInts ly py)(hd:Mv x y d)(hk:Cs 4294967294 1073741824 (Crv.mk px py d)):Fo 239 [.agg [.row lx,.row ly,x,y]] [.agg (cl (Crv.norm (Crv.mk px py d)))]:=by
 have hlx:=hk.lx;have hly:=hk.ly;simp only at hlx hly;have htx:=Sl px;have hty:=Sl py;have hd1:Gy (Crv.mk px py d).d'<=4294967295:=Qe (vO hk.d (by omega)) (by omega);have hg1:=Crv.isz_g (Crv.mk px py d) hd1;have hg0:=Crv.g_ne (Crv.mk px py d);have hgd:=Crv.g_dvd (Crv.mk px py d);have cx:=Am hx (by omega) (Gd hk.x (by omega));have cy:=Am hy (by omega) (Gd hk.y (by omega));have cd:=XT hd (Qe hk.d (by omega));have bx:Bd 4294967295 (trim px):=Gd (Mb hk.x) (by omega);have by_:Bd 4294967295 (trim py):=Gd (Mb hk.y) (by omega);obtain⟨b,l,rfl,rfl,_⟩:=hd;obtain⟨e,he⟩:=nmE ((Crv.mk px py d).d');obtain⟨g,hgg⟩:=nmE ((Crv.mk px py d).g);obtain⟨X,hX⟩:=nmE (trim px);obtain⟨Y,hY⟩:=nmE (trim py);have hnorm:(Crv.mk px py d).norm=⟨trim (X.map (· / g)),trim (Y.map (· / g)),e / g⟩:=by rw[he,hgg,hX,hY];rfl
 rw[hnorm];have hgdef:g=if e<0 then -((Tu (e::(X++Y)):Nat):Int)else(Tu (e::(X++Y)):Nat):=by rw[hgg,he,hX,hY];rfl
 have hde:e=if d=0 then 1 else d:=by rw[he];rfl
 simp only[<-he,<-hgg,<-hX,<-hY]at hd1 hg1 hg0 hgd htx hty cx cy bx by_;clear hnorm hgg he hX hY;refine Sp func239 rfl ?_;refine Ff [.k cx,.k cy,.k cd,.k YW] rfl ?_;refine ct 1 (S:=Unit) (λ_=>[(2,.v (.one (.ow 1 0))),(3,.v (pr X)),(4,.v (pr Y)),(5,.v (.one (.ow 2 0)))]) (λ_=>[.blk 74 [.row lx,.row ly,.bool b,.row (lm l)],.blk 74 [.nils,.nils,.bool false,.nils],.blk 55 (Si e)]) (λ_=>True) rfl ?_ ?_
 ·by_cases h0:d=0
  ·rw[hde,if_pos h0];exact go tt [.t (by simpa using h0),.k (bY (z:=1) (by decide))] rfl trivial (rc () trivial rfl)
  ·rw[hde,if_neg h0];exact go tt [.f (by simpa using h0)] rfl trivial (rc () trivial rfl)
 ·intro _ _;have hgi:IsInts ([Si e]++X.map Si++Y.map Si) (e::(X++Y)):=by
   have:=S9 (e::(X++Y));simpa using this
  have hgs:∀z∈e::(X++Y),Gy z≤4294967295:=λz hz=>by
   rcases Qj.1 hz with rfl|hz
   ·exact hd1
   ·rcases Qr.1 hz with hz|hz
    ·exact bx z hz
    ·exact by_ z hz
  have cg:=Qga hgi hgs;have co1:=Qgx (p:=X) (by omega) bx hg1 hg0 λz hz=>hgd z (Qi _ (Xu _ hz))
  have co2:=Qgx (p:=Y) (by omega) by_ hg1 hg0 λz hz=>hgd z (Qi _ (Kl _ hz))
  have ce:=I9 (Gl e) (Gl g) hd1 hg1 hg0 (hgd e (Qw ..));have hszg:=BC hgs;by_cases hneg:e<0
  ·rw[if_pos hneg]at hgdef;have cn:=fL (Gl ((Tu (e::(X++Y)):Nat):Int)) hszg;rw[<-hgdef]at cn;exact Fh [.lo,.s (IR X),.s (IR Y),.k cg,.t (by simpa using hneg),.k cn,.k ce,.k co1,.k co2] rfl rfl (by simp[Ge];omega)
  ·rw[if_neg hneg]at hgdef;rw[<-hgdef]at cg;exact Fh [.lo,.s (IR X),.s (IR Y),.k cg,.f (by simpa using hneg),.k ce,.k co1,.k co2] rfl rfl (by simp[Ge];omega)
theorem iT{lx ly:Fz}{px py:Ft}{x y:LV}{d:Int}(hx:IsInts lx px)(hy:IsInts ly py)(hd:Mv x y d)(hk:Cs 4294967294 1073741824 (Crv.mk px py d))(h0:d≠0):Fo 300 [.one (.row lx),.one (.row ly),.agg [x,y]] [.agg (cl (Crv.norm (Crv.mk px py d))),.oi 0]:=by
 have cd:=XT hd (Qe hk.d (by omega));have cn:=iS hx hy hd hk;obtain⟨b,l,rfl,rfl,_⟩:=hd;exact Fi func300 rfl [.k cd,.k YW,.f (by simpa using h0),.k cn] rfl
def Q0r(x y:Int):Crv:=Crv.norm ⟨trim [x],trim [y],0⟩

theorem uF(q:Rat):Gh [-q.num,(q.den:Int)]:=by
 have:=q.den_nz;simp[Gh,trim,this]
theorem Qrx{s:Nat}{q:Rat}(h:Qs s q):Bd s [-q.num,(q.den:Int)]:=λz hz=>by
 simp at hz;rcases hz with rfl|rfl
 ·rw[Ty];exact h.1
 ·exact h.2
def Iz(ps:Fu):Fz:=ps.map λp=>[pl p]
theorem Ek{ps:Fu}{i:Nat}{p:Ft}(h:ps[i]? = some p):(Iz ps)[i]? = some [pl p]:=Tz h
end Orr
namespace Orr
def Gp(p:Ft):Int:=p.getD (p.length-1) 0
def OC(p:Ft):Option Ft:=if p.length<=64/\(p.all λz=>Nat.ble (Gy z) 16777216)=true then some p else none
def oW(q:Rat):Option Rat:=if Gy q.num<=16777216/\Gy (q.den:Int)<=16777216 then some q else none
def Mx(p:Ft):Int:=(Tu p:Nat)
def Ai(p:Ft)(c:Int):Ft:=trim (p.map (· / c))
def Rl(p:Ft):Int:=if Gp p<0 then -Mx p else Mx p
def Gm(p:Ft):Ft:=if p.length=0 then []else Ai p (Rl p)
def mono(i:Nat)(x:Int):Ft:=List.replicate i 0++[x]
def pS(b:Ft)(c:Int):Nat->Ft×Ft->Ft×Ft
 | 0,s=>s
 |
  i+1,(q,r) =>
  pS b c i (Ms (Gs q c) (mono i (if r.length=b.length+i then Gp r else 0)),P7 (Gs r c) (Gq (trim (mono i (if r.length=b.length+i then Gp r else 0))) b))
def Nw(a b:Ft):Ft:=(pS b (Gp b) (a.length+1-b.length) ([],a)).2
def Cf(a b r:Ft):Ft:=if (a.length+1-b.length) % 2=1/\Gp b<0 then Nm r else r
def I0(r:Ft):Ft:=if r.length=0 then []else Ai r (Mx r)
def Rv(a b:Ft):Ft:=I0 (Cf a b (Nw a b))
def wW(b:Ft):Nat->Ft->Ft->Option Ft
 | 0,a,q=>if a.length=0 then some q else none
 |i+1,a,q=>if a.length<b.length+i then wW b i a q else if Gp a % Gp b=0 then wW b i (P7 a (Gq (trim (mono i (Gp a / Gp b))) b)) (q.set i (Gp a / Gp b))else none
def JY(a b:Ft):Option Ft:=if b.length=0 then none else(wW b (a.length+1-b.length) a (List.replicate (a.length+1-b.length) 0)).bind λq=>OC (trim q)
def PO:Nat->Ft->Ft->Option Ft
 | 0,_,_=>none
 |k+1,a,b=>if b.length=0 then some a else(OC (Rv a b)).bind λr=>PO k b r
def XX(a b:Ft):Option Ft:=(PO 66 (Gm a) (Gm b)).map Gm
def pK(a b:Ft):Option Ft:=(XX [] a).bind λg=>XX g b
def Mc(a:Ft):Option Ft:=if (Gm a).length<2 then some (Gm a)else(OC (Hm (Gm a))).bind λd=>(XX (Gm a) d).bind λg=>JY (Gm a) g
def AY:Nat->Ft->Option Fu
 | 0,_=>none
 |k+1,g=>if g.length<2 then some []else(OC (Hm g)).bind λd=>(XX g d).bind λh=>(JY g h).bind λw=>(AY k h).bind λl=>some (w::l)
def cD:Fu->Option Fu
 | []=>some []
 | [w]=>some [w]
 |w::v::l=>(JY w v).bind λf=>(cD (v::l)).bind λr=>some (f::r)
def UD:Nat->Ft->Fu->Option Ft
 |_,p,[]=>some p
 |i,p,f::l=>if i % 2=0 then(OC (Gq p f)).bind λq=>UD (i+1) q l else UD (i+1) p l
def Qei(a:Ft):Option Ft:=if (Gm a).length=0 then some []else(AY 66 (Gm a)).bind λl=>(cD l).bind λfs=>UD 0 [1] fs
def ON:Nat->Ft->Ft->Option Fu
 | 0,_,_=>none
 |k+1,a,b=>if b.length=0 then some []else(OC (Rv a b)).bind λr=>(ON k b (Nm r)).bind λl=>some (b::l)
def chain(p:Ft):Option Fu:=(Mc p).bind λa=>if a.length=0 then none else(OC (Hm a)).bind λd=>(ON 66 a (Gm d)).bind λl=>some (a::l)
def M6(sg:Ft->Int)(s:Nat×Int)(p:Ft):Nat×Int:=if sg p=0 then s else(if s.2=-(sg p)then s.1+1 else s.1,sg p)
def XK(sg:Ft->Int)(l:Fu):Nat:=(l.foldl (M6 sg) (0,0)).1
def Bb(l:Fu)(q:Rat):Nat:=XK (λp=>Hp p q) l
def Rf(l:Fu)(lo hi:Rat):Int:=if Tj hi lo<0 then 0 else(Bb l lo:Int)-(Bb l hi:Int)
def Qdz(p:Ft):Int:=Int.sign (Gp p)
def Qdy(p:Ft):Int:=if p.length % 2=0 then -Int.sign (Gp p)else Int.sign (Gp p)
def wA(l:Fu):Int:=(XK Qdy l:Int)-(XK Qdz l:Int)
def most:Ft->Nat:=λl=>l.foldl (λm z=>if m<z.natAbs then z.natAbs else m) 0
def Hu(p:Ft):Rat:=Rat.divInt (((Gp p).natAbs:Int)+(most (p.take (p.length-1)):Int)) ((Gp p).natAbs:Int)
def O7(a b:Rat):Rat:=Rat.divInt (a.num*(b.den:Int)+b.num*(a.den:Int)) ((a.den:Int)*(b.den:Int)*2)
def I3(p:Ft)(c:Fu):Nat->Rat->Rat->Int->Option (List Tm)
 | 0,_,_,_=>none
 |k+1,lo,hi,n=>if n=0 then some []else if n=1 then some [⟨p,lo,hi⟩]else(oW (O7 lo hi)).bind λm=>(I3 p c k lo m (Rf c lo m)).bind λl=>(I3 p c k m hi (n-Rf c lo m)).bind λr=>some (l++r)
def II(p:Ft):Option (List Tm):=(chain p).bind λc=>(Mc p).bind λq=>(oW (Hu q)).bind λb=>I3 q c 100000 (-b) b (wA c)
def Tm.point(a:Tm):Bool:=decide (0<=Tj a.lo a.hi)
def low(p:Ft)(q:Rat):Int:=if Hp p q≠0 then Hp p q else Hp (Hm p) q
def ND(p:Ft)(lo hi:Rat):Bool:=decide (Hp p hi=0\/Hp p hi≠low p lo)
def Hk(a:Tm)(t:Rat):Int :=
 if a.point=true then Tj a.lo t else if Tj t a.lo<=0 then 1 else if 0<Tj t a.hi then -1 else if Hp a.p t=0 then 0 else if Hp a.p t=low a.p a.lo then 1 else -1
def half(a:Tm):Option Tm:=if a.point=true then some a else(oW (O7 a.lo a.hi)).bind λm =>
 some (if Hk a m=0 then ⟨a.p,m,m⟩else if Hk a m=-1 then ⟨a.p,a.lo,m⟩else ⟨a.p,m,a.hi⟩)
def Tt(p:Ft):Nat:=p.foldl (λn z=>max n (Gy z)) 0
def QY(a b:Tm):Nat:=64+2*(Gy a.lo.num+Gy a.hi.num+Gy b.lo.num+Gy b.hi.num)+4*(a.p.length+b.p.length)*(Tt a.p+Tt b.p+(a.p.length+b.p.length)+8)
def Qez(a b:Rat):Rat:=Rat.divInt (a.num*(b.den:Int)-b.num*(a.den:Int)) ((a.den:Int)*(b.den:Int))
def MF(a b:Tm):Bool:=decide (Tj a.hi b.lo<=0/\¬((a.point=true/\b.point=true)/\Tj a.hi b.lo=0))
def nS:Nat->Tm->Tm->Option (Tm×Tm×Int)
 | 0,a,b=>some (a,b,0)
 |
  k+1,a,b=>if MF a b=true then some (a,b,-1)else if MF b a=true then some (a,b,1)else
  if 0<=Tj (Qez a.hi a.lo) (Qez b.hi b.lo)then(half a).bind λx=>nS k x b else(half b).bind λx=>nS k a x
def rK(a b:Tm):Option Int:=if a.point=true then some (-Hk b a.lo)else if b.point=true then some (Hk a b.lo)else
 let lo:=if 0<Tj b.lo a.lo then b.lo else a.lo
 let hi:=if Tj b.hi a.hi<0 then b.hi else a.hi
 if Tj lo hi<0 then(pK a.p b.p).bind λg=>if 1<g.length/\ND g lo hi=true then some 0 else(nS (QY a b) a b).bind λr=>some r.2.2
 else(nS (QY a b) a b).bind λr=>some r.2.2
def sgF(c:Fu):Nat->Tm->Option Tm
 | 0,a=>some a
 |k+1,a=>if a.point=true\/Rf c a.lo a.hi=0 then some a else(half a).bind λx=>sgF c k x
def UX(p:Ft)(a:Tm):Option Int:=if p.length=0 then some 0 else if a.point=true then some (Hp p a.lo)else
 (pK p a.p).bind λg=>if 1<g.length/\ND g a.lo a.hi=true then some 0 else(chain p).bind λc=>(sgF c (64+2*(Gy a.lo.num+Gy a.hi.num)+4*(a.p.length+p.length)*(Tt a.p+Tt p+(a.p.length+p.length)+8)) a).bind λx=>some (Hp p x.hi)
def AU:Tm->List Tm->Option Tm
 |b,[]=>some b
 |b,a::l=>(rK a b).bind λc=>AU (if c<0 then a else b) l
def xJ(a:Tm):List Tm->Option (Option Tm)
 | []=>some none
 |r::l=>(rK r a).bind λc=>if 0<c then some (some r)else xJ a l
def OR(p:Ft):Option (List Tm):=(Qei p).bind λq=>if q.length=0 then some []else II q
def xY(p:Ft)(a:Tm):Option (Option Tm):=(OR p).bind λl=>xJ a l
end Orr
namespace Orr
open Go Go.Proofs Tryz
set_option maxRecDepth 10000
theorem Ln{p:Ft}(tp:Gh p)(h:p.length≠0):Gp p≠0:=Rz tp (by omega)
theorem sZ{p:Ft}(h:p.length≠0):Gp p∈p:=Qa (S8 (by omega))
theorem Nk{s:Nat}{p:Ft}(h:Bd s p):Gy (Gp p)<=s:=G5 h _
theorem ZS{p:Ft}:∀z∈p,Mx p∣z:=YB
theorem ZP{p:Ft}(tp:Gh p)(h:p.length≠0):Mx p≠0:=λh0=>Ln tp h (Int.zero_dvd.1 (h0 ▸ ZS _ (sZ h)))
theorem KH{p:Ft}(h:Bd 4294967295 p):Gy (Mx p)<=4294967295:=BC h
theorem Qby{p:Ft}(tp:Gh p)(h:p.length≠0):Rl p≠0:=by
 have:=ZP tp h;unfold Rl;split <;> omega
theorem HH{p:Ft}:∀z∈p,Rl p∣z:=λz hz=>by
 unfold Rl;split
 ·exact Fb.2 (ZS z hz)
 ·exact ZS z hz
theorem Qjh{p:Ft}(h:Bd 4294967295 p):Gy (Rl p)<=4294967295:=by
 unfold Rl;split
 ·rw[Ty];exact KH h
 ·exact KH h
theorem DK{s:Nat}{p:Ft}(h:Bd s p)(c:Int):Bd s (Ai p c):=Mb (TR h c)
theorem zE(p:Ft)(c:Int):(Ai p c).length<=p.length:=Qe (Sl _) (by simp)
theorem JU(p:Ft)(c:Int):Gh (Ai p c):=Tg _
theorem Qkf{p:Ft}(h:Pb p)(c:Int):Pb (Ai p c):=⟨JU _ _,Qe (zE _ _) h.l,DK h.b c⟩
theorem wY:Pb []:=⟨rfl,by simp,YY⟩
theorem Nl{p:Ft}(h:Pb p):Pb (Gm p):=by
 unfold Gm;split
 ·exact wY
 ·exact Qkf h _
theorem Pb.bd{p:Ft}(h:Pb p):Bd 4294967295 p:=Gd h.b (by omega)
theorem Pb.ln{p:Ft}(h:Pb p):p.length<274877906944:=Xg h.l (by omega)
theorem Pb.ln'{p:Ft}(h:Pb p):p.length<8589934592:=Xg h.l (by omega)
theorem YH{p q:Ft}(tp:Gh p)(h:OC p=some q):q=p/\Pb p:=by
 unfold OC at h
 split at h
 ·rename_i hc;injection h with h;refine⟨h.symm,tp,hc.1,λz hz=>?_⟩;have:=X9.1 hc.2 z hz;exact Zm this
 ·cases h
theorem iM{p:Ft}{g:Int}(hl:p.length<274877906944)(hp:Bd 4294967295 p)(hg:Gy g≤4294967295)(h0:g≠0)(hd:∀z∈p,g∣z):Fo 394 [pr p,.agg (Si g)] [pr (Ai p g)]:=by
 refine Sp func394 rfl ?_;refine Fg [.r 9 (eI (b:=(p.length:Int)) (by simp)),.i p.length,.i p.length,.r 12 (eI (b:=(p.length:Int)) (by simp))] rfl ?_;rw[ZQ λk=>Si (p.getD k 0 / g)];refine Fl (S:=Nat) 2 (λL1 k=>(13,.v (.oi k))::L1) (λk=>[.blk 55 (Si g),.row false 55 2 (zF (λk=>Si (p.getD k 0 / g)) [.bool false,.nils] p.length k)]) (λk=>p.length-k) (λk=>k<=p.length) 0 (Qh _) rfl rfl λk hk=>?_
 by_cases hlt:k<p.length
 ·have hg2:=S8 hlt;refine go tt [.t (by simp;omega),.x (Nv hg2),.k (I9 (Gl _) (Gl _) (G5 hp k) hg h0 (Yp (hd _ (Qa hg2)))),.i k] rfl (by simp[Ge,KV];omega) ?_;have e:=KW (λk=>Si (p.getD k 0 / g)) [.bool false,.nils] hlt;rw[e];exact rd (k+1) (by omega) hlt rfl
 ·obtain rfl:k=p.length:=by omega
  have e:zF (λk=>Si (p.getD k 0 / g)) [.bool false,.nils] p.length p.length=(p.map (· / g)).map Si:=by
   rw[KY];refine Xv λi=>?_
   by_cases hi:i<p.length
   ·simp[Ji hi,List.getD,Qf hi]
   ·simp[Qt,hi]
  rw[e];exact Fh [.f (by simp),.k (Am (S9 (p.map (· / g))) (by simp;exact hl) (TR hp g))] rfl
theorem TS{p:Ft}(hl:p.length<8589934592)(hp:Bd 4294967295 p):Fo 392 [.one (.row [[pl p]])] [.agg (Si (Mx p))]:=by
 refine Sp func392 rfl ?_;refine Ff [.o 3 55 2] rfl ?_;refine Fl (S:=Nat) 2 (λL1 i=>(8,.v (.oi i))::(3,.v (.one (.orow 1 2 none)))::L1) (λi=>[.blk 55 [.bool false,.nils],.row false 55 2 (if i=0 then []else p.map Si)]) (λi=>1-i) (λi=>i<=1) 0 (Qh _) rfl rfl λi hi=>?_
 rcases(show i=0\/i=1 by omega)with rfl|rfl
 ·refine Fg [.t rfl,.x (i:=0) (xs:=[pl p]) rfl,.s (IR p)] rfl ?_;exact rd 1 (by omega) (by omega) rfl
 ·exact Fh [.f rfl,.k (Qga (S9 p) hp)] rfl
theorem Qgy{p:Ft}(tp:Gh p)(hl':p.length<8589934592)(hp:Bd 4294967295 p):Fo 365 [pr p] [.agg (Si (if p.length=0 then 0 else Rl p)),pr (Gm p)]:=by
 have hl:p.length<274877906944:=by omega
 have cn:=Mk tp hl hp;by_cases h0:p.length=0
 ·have e:p=[]:=Qg h0;subst e;exact Fi func365 rfl [.k cn,.t rfl] rfl (by simp[Ix,Gm];rfl) trivial
 ·have hpf:Gm p=Ai p (Rl p):=by unfold Gm;rw[if_neg h0]
  rw[if_neg h0,hpf];have co:=iM hl hp (Qjh hp) (Qby tp h0) HH;by_cases hneg:Gp p<0
  ·have e:Rl p=-Mx p:=by unfold Rl;rw[if_pos hneg]
   rw[e]at co ⊢;exact Fi func365 rfl [.k cn,.f (by simpa using h0),.k (TS hl' hp),.k (XR tp hl hp),.t (by simpa[Gp]using hneg),.k (fL (Gl _) (KH hp)),.k co] rfl
  ·have e:Rl p=Mx p:=by unfold Rl;rw[if_neg hneg]
   rw[e]at co ⊢;exact Fi func365 rfl [.k cn,.f (by simpa using h0),.k (TS hl' hp),.k (XR tp hl hp),.f (by simpa[Gp]using hneg),.k co] rfl
theorem GZ{p:Ft}(hp:Pb p):Fo 390 [pr p] [pr (Gm p)] :=
 Fi func390 rfl [.k (Qgy hp.t hp.ln' hp.bd)] rfl
theorem Ie(p:Ft):Fo 238 [pr p] [.oi ((p.length:Int)-1)]:=by
 have h:Fo 238 [pr p] [.oi (((p.map Si).length:Int)-1)]:=Sp func238 rfl (ln 0 rfl rfl λhl=>Fh [] rfl rfl (by simp[Ge]at hl ⊢;omega));rw[Q5]at h;exact h
theorem ZK(i:Nat)(x:Int):(mono i x).length=i+1:=by simp[mono]
theorem DY{s i:Nat}{x:Int}(h:Gy x<=s):Bd s (mono i x):=λz hz=>by
 simp only[mono,Qr,Qp]at hz;rcases hz with hz|rfl
 ·rw[(List.mem_replicate.1 hz).2,C3];exact Qh _
 ·exact h
def stq(c:Int)(i:Nat)(x:Int)(q:Ft):Ft:=Ms (Gs q c) (mono i x)
def str(b:Ft)(c:Int)(i:Nat)(x:Int)(r:Ft):Ft:=P7 (Gs r c) (Gq (trim (mono i x)) b)
theorem Qtj{u t i:Nat}{c x:Int}{q:Ft}(hq:Bd u q)(hc:Gy c<=t)(hx:Gy x<=u):Bd (u+t+8) (stq c i x q) :=
 Gd (I8 (G9 hq hc) (DY hx)) (by omega)
theorem Qpe{c x:Int}{i:Nat}{q:Ft}:(stq c i x q).length<=max q.length (i+1):=by
 have h:=Ex (Gs q c) (mono i x);have h1:=Gz q c;rw[ZK]at h;unfold stq;omega
theorem kJ{i:Nat}{x:Int}{b:Ft}:(Gq (trim (mono i x)) b).length<=i+b.length:=by
 have h:=Tc (trim (mono i x)) b;have h1:=Sl (mono i x);rw[ZK]at h1;omega
theorem iQ{u t i:Nat}{x:Int}{b:Ft}(hb:Bd t b)(hx:Gy x<=u)(hi:i<=64):Bd (u+t+7) (Gq (trim (mono i x)) b) :=
 Sf (Mb (DY hx)) hb (Xg (Sl _) (by rw[ZK];omega))
theorem nC{u t i:Nat}{c x:Int}{b r:Ft}(hr:Bd u r)(hb:Bd t b)(hc:Gy c<=t)(hx:Gy x<=u)(hi:i<=64):Bd (u+t+8) (str b c i x r) :=
 Gd (Dd (G9 hr hc) (iQ hb hx hi)) (by omega)
theorem kV{c x:Int}{i:Nat}{b r:Ft}:(str b c i x r).length<=max r.length (i+b.length):=by
 have h:=Ml (Gs r c) (Gq (trim (mono i x)) b);have h1:=Gz r c;have h2:=kJ (i:=i) (x:=x) (b:=b);unfold str;omega
theorem sW(i:Nat)(x:Int):((List.replicate (i+1) (0:Int)).map Si).set i (Si x)=(mono i x).map Si:=by
 rw[lV,mono];congr 1;refine Xv λj=>?_
 simp only[Jy,List.getElem?_append,Ys,Jf];by_cases h:j=i
 ·subst h;simp
 ·rw[if_neg (by omega)];by_cases h2:j<i
  ·simp[h2];omega
  ·rw[if_neg (by omega),if_neg h2];cases hj:j-i with
   |zero=>omega
   |succ m=>simp
theorem Qbk(i:Nat){x:Int}{y:Fy}(h:y.map NE=Si x):(((List.replicate (i+1) [LV.bool false,LV.nils]).set i y).map λc=>c.map NE)=(mono i x).map Si:=by
 rw[Kk,CY,h];exact sW i x
theorem VH{b:Ft}{c:Int}{i:Nat}{q r:Ft}{x:Int}(hx:x=if r.length=b.length+i then Gp r else 0):pS b c (i+1) (q,r)=pS b c i (stq c i x q,str b c i x r):=by
 subst hx;rfl
theorem Qgi{a b:Ft}(ha:Pb a)(hb:Pb b)(h0:b.length≠0):Fo 395 [pr a,pr b] [pr (pS b (Gp b) (a.length+1-b.length) ([],a)).1,pr (Nw a b),.oi ((a.length+1-b.length:Nat):Int),.oi 0]:=by
 have hal:=ha.l;have hbl:=hb.l;have hlb:Gy (Gp b)<=16777216:=Nk hb.b;obtain⟨c,hc⟩:=nmE (Gp b);have cl:=XR hb.t hb.ln hb.bd;rw[show b.getD (b.length-1) 0=c from hc.symm]at cl;obtain⟨k,hk⟩:=nmE (a.length+1-b.length);unfold Nw;rw[<-hc,<-hk];rw[<-hc]at hlb;refine Sp func395 rfl ?_;refine Fg [.z 4,.k (Mk ha.t ha.ln ha.bd),.k (Mk hb.t hb.ln hb.bd),.f (by simpa using h0),.k cl,.k (Ie a),.k (Ie b),.r 27 (eI (b:=(k:Int)) (by omega))] rfl ?_;refine Fl (S:=Nat×Ft×Ft) 1 (λL1 s=>(4,.v (pr s.2.1))::(5,.v (pr s.2.2))::(9,.v (.oi ((s.1:Int)-1)))::L1) (λ_=>[.blk 55 (Si c)]) (λs=>s.1) (λs=>s.1<=k/\Gh s.2.2/\s.2.1.length<=66/\s.2.2.length<=a.length/\Bd (16777216+(k-s.1)*16777224) s.2.1/\Bd (16777216+(k-s.1)*16777224) s.2.2/\pS b c s.1 s.2=pS b c k ([],a)) (k,[],a) ⟨Qn _,ha.t,by simp,Qn _,YY,by simpa using ha.b,rfl⟩ rfl rfl λ⟨i,q,r⟩ ⟨j1,j2,j3,j4,j5,j6,j7⟩=>?_
 dsimp only at j1 j2 j3 j4 j5 j6 j7 ⊢;rw[<-j7];cases i with
 |zero=>exact Fh [.f (by simp)] rfl
 |
  succ i =>
  obtain⟨x,hx⟩:=nmE (if r.length=b.length+i then Gp r else 0);obtain⟨u,hu⟩:=nmE (16777216+(k-(i+1))*16777224);rw[<-hu]at j5 j6;have hub:u<=1107296256:=by
   have:(k-(i+1))*16777224<=64*16777224:=Qx _ (by omega);omega
  have hxs:Gy x<=u:=by
   rw[hx];split
   ·exact Nk j6
   ·rw[C3];exact Qh _
  have cs:=Cu (p:=q) (c:=c) (by omega) (Gd j5 (by omega)) (by omega);have cs2:=Cu (p:=r) (c:=c) (by omega) (Gd j6 (by omega)) (by omega);have l1:=Gz q c;have l2:=Gz r c;have ca:=yS (p:=Gs q c) (q:=mono i x) (by omega) (by rw[ZK];omega) (Gd (G9 j5 hlb) (by omega)) (Gd (DY hxs) (by omega));have cm:=yP (p0:=mono i x) hb.t (by rw[ZK];omega) (by omega) (DY hxs) hb.b (by omega);have l3:=kJ (i:=i) (x:=x) (b:=b);have cb:=TM (p:=Gs r c) (q:=Gq (trim (mono i x)) b) (by omega) (by omega) (Gd (G9 j6 hlb) (by omega)) (Gd (iQ hb.b hxs (by omega)) (by omega));have hst:=VH (b:=b) (c:=c) (q:=q) hx;have hI:i<=k/\Gh (str b c i x r)/\(stq c i x q).length<=66/\(str b c i x r).length<=a.length/\Bd (16777216+(k-i)*16777224) (stq c i x q)/\Bd (16777216+(k-i)*16777224) (str b c i x r):=by
   have l5:=Qpe (c:=c) (x:=x) (i:=i) (q:=q);have l6:=kV (c:=c) (x:=x) (i:=i) (b:=b) (r:=r);have hku:u+16777216+8=16777216+(k-i)*16777224:=by
    rw[hu,show k-i=(k-(i+1))+1 from by omega,Yc];omega
   refine⟨by omega,Gk _ _,by omega,by omega,?_,?_⟩
   ·rw[<-hku];exact Qtj j5 hlb hxs
   ·rw[<-hku];exact nC j6 hb.b hlb hxs (by omega)
  rw[hst];by_cases h:r.length=b.length+i
  ·refine Fg [.t (by simp <;> omega),.k (Ie r),.k (Ie b),.t (by simp;omega),.k (XR j2 (by omega) (Gd j6 (by omega))),.r 44 (eI (b:=((i+1:Nat):Int)) (by omega)),.i (i+1),.i (i+1),.r 47 (eI (b:=(i:Int)) (by omega)),.i i] rfl ?_;refine nl 2 rfl rfl rfl ?_;rw[Qbk i (x:=x) (by rw[hx,if_pos h];rfl)];refine Fg [.k cs,.k ca,.k cs2,.k cm,.k cb,.r 33 (eI (b:=(i:Int)-1) (by omega))] rfl ?_;exact rd (i,stq c i x q,str b c i x r) (by dsimp only;omega) ⟨hI.1,hI.2.1,hI.2.2.1,hI.2.2.2.1,hI.2.2.2.2.1,hI.2.2.2.2.2,rfl⟩ rfl
  ·refine Fg [.t (by simp <;> omega),.k (Ie r),.k (Ie b),.f (by simp;omega),.r 44 (eI (b:=((i+1:Nat):Int)) (by omega)),.i (i+1),.i (i+1),.r 47 (eI (b:=(i:Int)) (by omega)),.i i] rfl ?_;refine nl 2 rfl rfl rfl ?_;rw[Qbk i (x:=x) (by rw[hx,if_neg h,Ix];rfl)];refine Fg [.k cs,.k ca,.k cs2,.k cm,.k cb,.r 33 (eI (b:=(i:Int)-1) (by omega))] rfl ?_;exact rd (i,stq c i x q,str b c i x r) (by dsimp only;omega) ⟨hI.1,hI.2.1,hI.2.2.1,hI.2.2.2.1,hI.2.2.2.2.1,hI.2.2.2.2.2,rfl⟩ rfl
theorem Qkt{b:Ft}{c:Int}(hb:Bd 16777216 b)(hc:Gy c<=16777216){n:Nat}:∀(i u:Nat) (q r:Ft),i<=64->i+b.length<=n+1->Gh r->r.length<=n->Bd u r->Gh (pS b c i (q,r)).2/\(pS b c i (q,r)).2.length<=n/\Bd (u+i*16777224) (pS b c i (q,r)).2
 | 0,u,q,r,_,_,h1,h2,h3=>⟨h1,h2,by simpa[pS]using h3⟩
 |
  i+1,u,q,r,hi,hn,h1,h2,h3=>by
  rw[VH rfl];have hx:Gy (if r.length=b.length+i then Gp r else 0)<=u:=by
   split
   ·exact Nk h3
   ·rw[C3];exact Qh _
  have l6:=kV (c:=c) (x:=if r.length=b.length+i then Gp r else 0) (i:=i) (b:=b) (r:=r);have:=Qkt hb hc (n:=n) i (u+16777216+8) (stq c i (if r.length=b.length+i then Gp r else 0) q) (str b c i (if r.length=b.length+i then Gp r else 0) r) (by omega) (by omega) (Gk _ _) (by omega) (nC h3 hb hc hx (by omega));exact⟨this.1,this.2.1,Gd this.2.2 (by omega)⟩
theorem Qb2{a b:Ft}(ha:Pb a)(hb:Pb b)(h0:b.length≠0):Gh (Nw a b)/\(Nw a b).length<=a.length/\Bd 1107296256 (Nw a b):=by
 have hal:=ha.l;by_cases h:b.length<=a.length+1
 ·obtain⟨h1,h2,h3⟩:=Qkt hb.b (Nk hb.b) (n:=a.length) (a.length+1-b.length) 16777216 [] a (by omega) (by omega) ha.t (Qn _) ha.b;refine⟨h1,h2,Gd h3 ?_⟩;have:(a.length+1-b.length)*16777224<=64*16777224:=Qx _ (by omega);omega
 ·have e:Nw a b=a:=by unfold Nw;rw[show a.length+1-b.length=0 from by omega];rfl
  rw[e];exact⟨ha.t,Qn _,Gd ha.b (by omega)⟩
theorem HB{a b r:Ft}{s n:Nat}(h1:Gh r)(h2:r.length<=n)(h3:Bd s r):Gh (Cf a b r)/\(Cf a b r).length<=n/\Bd s (Cf a b r):=by
 unfold Cf;split
 ·exact⟨Gk _ _,Qe (Lo r) h2,XG h3⟩
 ·exact⟨h1,h2,h3⟩
theorem IT{r:Ft}{s n:Nat}(h2:r.length<=n)(h3:Bd s r):Gh (I0 r)/\(I0 r).length<=n/\Bd s (I0 r):=by
 unfold I0;split
 ·exact⟨rfl,by simp,YY⟩
 ·exact⟨JU _ _,Qe (zE _ _) h2,DK h3 _⟩
theorem HM{a b:Ft}(ha:Pb a)(hb:Pb b)(h0:b.length≠0):Gh (Rv a b)/\(Rv a b).length<=a.length/\Bd 1107296256 (Rv a b):=by
 obtain⟨h1,h2,h3⟩:=Qb2 ha hb h0;obtain⟨h4,h5,h6⟩:=HB (a:=a) (b:=b) h1 h2 h3;exact IT h5 h6
theorem Qgk{a b:Ft}(ha:Pb a)(hb:Pb b)(h0:b.length≠0):Fo 366 [pr a,pr b] [pr (Rv a b),.oi 0]:=by
 obtain⟨h1,h2,h3⟩:=Qb2 ha hb h0;obtain⟨h4,h5,h6⟩:=HB (a:=a) (b:=b) h1 h2 h3;have hal:=ha.l;have cp:=Qgi ha hb h0;have cl:=XR hb.t hb.ln hb.bd;have cn:=Qgg (p:=Nw a b) (by omega) (Gd h3 (by omega));unfold Rv;obtain⟨r,hr⟩:=nmE (Cf a b (Nw a b));have cc:=TS (p:=r) (by rw[hr];omega) (by rw[hr];exact Gd h6 (by omega));rw[<-hr]at h4 h5 h6 ⊢;obtain⟨k,hk⟩:=nmE (a.length+1-b.length);rw[<-hk]at cp;have em:((k:Int).tmod 2)=((k % 2:Nat):Int):=by rw[Vr (by omega)];omega
 have key:I0 r=if r.length=0 then []else Ai r (Mx r):=rfl
 by_cases hz:r.length=0
 ·rw[key,if_pos hz];by_cases hodd:k % 2=1
  ·by_cases hneg:Gp b<0
   ·have e:r=Nm (Nw a b):=by rw[hr];unfold Cf;rw[if_pos ⟨by rw[<-hk];exact hodd,hneg⟩]
    rw[e]at hz;exact Fi func366 rfl [.k cp,.f (by simp),.r 22 (eI em),.t (by simp;omega),.k cl,.t (by simpa[Gp]using hneg),.k cn,.t (by simpa using hz)] rfl rfl (by simp[Ge])
   ·have e:r=Nw a b:=by rw[hr];unfold Cf;rw[if_neg (λh=>hneg h.2)]
    rw[e]at hz;exact Fi func366 rfl [.k cp,.f (by simp),.r 22 (eI em),.t (by simp;omega),.k cl,.f (by simpa[Gp]using hneg),.t (by simpa using hz)] rfl rfl (by simp[Ge])
  ·have e:r=Nw a b:=by rw[hr];unfold Cf;rw[if_neg (λh=>hodd (by rw[hk];exact h.1))]
   rw[e]at hz;exact Fi func366 rfl [.k cp,.f (by simp),.r 22 (eI em),.f (by simp;omega),.f rfl,.t (by simpa using hz)] rfl rfl (by simp[Ge])
 ·rw[key,if_neg hz];have cd:=iM (p:=r) (g:=Mx r) (by omega) (Gd h6 (by omega)) (KH (Gd h6 (by omega))) (ZP h4 hz) ZS;by_cases hodd:k % 2=1
  ·by_cases hneg:Gp b<0
   ·have e:r=Nm (Nw a b):=by rw[hr];unfold Cf;rw[if_pos ⟨by rw[<-hk];exact hodd,hneg⟩]
    rw[e]at hz cc cd ⊢;exact Fi func366 rfl [.k cp,.f (by simp),.r 22 (eI em),.t (by simp;omega),.k cl,.t (by simpa[Gp]using hneg),.k cn,.f (by simpa using hz),.k cc,.k cd] rfl rfl (by simp[Ge])
   ·have e:r=Nw a b:=by rw[hr];unfold Cf;rw[if_neg (λh=>hneg h.2)]
    rw[e]at hz cc cd ⊢;exact Fi func366 rfl [.k cp,.f (by simp),.r 22 (eI em),.t (by simp;omega),.k cl,.f (by simpa[Gp]using hneg),.f (by simpa using hz),.k cc,.k cd] rfl rfl (by simp[Ge])
  ·have e:r=Nw a b:=by rw[hr];unfold Cf;rw[if_neg (λh=>hodd (by rw[hk];exact h.1))]
   rw[e]at hz cc cd ⊢;exact Fi func366 rfl [.k cp,.f (by simp),.r 22 (eI em),.f (by simp;omega),.f rfl,.f (by simpa using hz),.k cc,.k cd] rfl rfl (by simp[Ge])
theorem Qo9{s:Nat}{x:Int}(h:Gy x<=s)(g:Int):Gy (x / g)<=s:=TR (p:=[x]) (λz hz=>by rw[Qp.1 hz];exact h) g _ (by simp)
def sta(b:Ft)(i:Nat)(x:Int)(a:Ft):Ft:=P7 a (Gq (trim (mono i x)) b)
theorem Qti{u t i:Nat}{x:Int}{b a:Ft}(ha:Bd u a)(hb:Bd t b)(hx:Gy x<=u)(hi:i<=64):Bd (u+t+8) (sta b i x a) :=
 Gd (Dd ha (iQ hb hx hi)) (by omega)
theorem Qbc{x:Int}{i:Nat}{b a:Ft}:(sta b i x a).length<=max a.length (i+b.length):=by
 have h:=Ml a (Gq (trim (mono i x)) b);have h2:=kJ (i:=i) (x:=x) (b:=b);unfold sta;omega
theorem Qnu(s n:Nat):Bd s (List.replicate n 0):=λz hz=>by rw[(List.mem_replicate.1 hz).2,C3];exact Qh _
theorem Qth{s i:Nat}{l:Ft}{x:Int}(h:Bd s l)(hx:Gy x<=s):Bd s (l.set i x):=λz hz=>by
 rcases Y5 hz with hz|rfl
 ·exact h z hz
 ·exact hx
theorem Qgf{a b q:Ft}(ha:Pb a)(hb:Pb b)(h:JY a b=some q):Fo 408 [pr a,pr b] [pr q,.oi 0]:=by
 unfold JY at h
 split at h
 ·cases h
 rename_i h0;obtain⟨k,hk⟩:=nmE (a.length+1-b.length);rw[<-hk]at h;obtain⟨q',hq,hq2⟩:=Qk.1 h;obtain⟨rfl,hpb⟩:=YH (Tg _) hq2;have hal:=ha.l;have hbl:=hb.l;refine Sp func408 rfl ?_;refine Fg [.k (Mk ha.t ha.ln ha.bd),.k (Mk hb.t hb.ln hb.bd),.f (by simpa using h0),.r 24 (eI (b:=(k:Int)) (by simp;omega)),.i k,.i k,.r 27 (eI (b:=(k:Int)) (by simp))] rfl ?_;refine nl 0 rfl rfl rfl ?_;rw[CY];refine Fl (S:=Nat×Ft×Ft) 1 (λL1 s=>(0,.v (pr s.2.1))::(7,.v (.oi ((s.1:Int)-1)))::L1) (λs=>[.row false 55 2 (s.2.2.map Si)]) (λs=>s.1) (λs=>s.1<=k/\Gh s.2.1/\s.2.1.length<=a.length/\Bd (16777216+(k-s.1)*16777224) s.2.1/\s.2.2.length=k/\Bd 1107296256 s.2.2/\wW b s.1 s.2.1 s.2.2=some q') (k,a,List.replicate k 0) ⟨Qn _,ha.t,Qn _,by simpa using ha.b,by simp,Qnu _ _,hq⟩ rfl rfl λ⟨i,A,Q⟩ ⟨j1,j2,j3,j4,j5,j7,j6⟩=>?_
 dsimp only at j1 j2 j3 j4 j5 j6 j7 ⊢;cases i with
 |
  zero =>
  simp only[wW]at j6
  split at j6
  ·rename_i hA;injection j6 with j6;subst j6;exact Fh [.f (by simp),.f (by simpa using hA),.k (Am (S9 Q) (by omega) (Gd j7 (by omega)))] rfl
  ·cases j6
 |
  succ i =>
  obtain⟨u,hu⟩:=nmE (16777216+(k-(i+1))*16777224);rw[<-hu]at j4;have hub:u<=1107296256:=by
   have:(k-(i+1))*16777224<=64*16777224:=Qx _ (by omega);omega
  have hku:u+16777216+8=16777216+(k-i)*16777224:=by
   rw[hu,show k-i=(k-(i+1))+1 from by omega,Yc];omega
  simp only[wW]at j6;by_cases hlt:A.length<b.length+i
  ·rw[if_pos hlt]at j6;refine Fg [.t (by simp <;> omega),.k (Ie A),.k (Ie b),.t (by simp;omega),.r 32 (eI (b:=(i:Int)-1) (by omega))] rfl ?_;exact rd (i,A,Q) (by dsimp only;omega) ⟨by dsimp only;omega,j2,j3,Gd j4 (by dsimp only;omega),j5,j7,j6⟩ rfl
  ·rw[if_neg hlt]at j6
   split at j6
   ·rename_i hdv;obtain⟨x,hx⟩:=nmE (Gp A / Gp b);rw[<-hx]at j6;have hxs:Gy x<=u:=by rw[hx];exact Qo9 (Nk j4) _
    have ce:=I9 (Gl (Gp A)) (Gl (Gp b)) (Qe (Nk j4) (by omega)) (Qe (Nk hb.b) (by omega)) (Ln hb.t h0) hdv;rw[<-hx]at ce;have cm:Fo 284 [.one (.row ((mono i x).map Si)),pr b] [pr (Gq (trim (mono i x)) b)]:=yP (p0:=mono i x) hb.t (by rw[ZK];omega) (by omega) (DY hxs) hb.b (by omega);have l3:=kJ (i:=i) (x:=x) (b:=b);have l4:=Qbc (i:=i) (x:=x) (b:=b) (a:=A);have cb:=TM (p:=A) (q:=Gq (trim (mono i x)) b) (by omega) (by omega) (Gd j4 (by omega)) (Gd (iQ hb.b hxs (by omega)) (by omega));refine Fg [.t (by simp <;> omega),.k (Ie A),.k (Ie b),.f (by simp;omega),.k (XR j2 (by omega) (Gd j4 (by omega))),.k (XR hb.t hb.ln hb.bd),.k ce,.f rfl,.r 51 (eI (b:=(i:Int)) (by omega)),.i i,.r 55 (eI (b:=((i+1:Nat):Int)) (by omega)),.i (i+1),.i (i+1),.r 58 (eI (b:=(i:Int)) (by omega))] rfl ?_;refine nl 2 rfl rfl rfl ?_;rw[CY,lV];rw[<-sW i x]at cm;refine Fg [.i i,.k cm,.k cb,.r 32 (eI (b:=(i:Int)-1) (by omega))] rfl ?_;exact rd (i,sta b i x A,Q.set i x) (by dsimp only;omega) ⟨by dsimp only;omega,Gk _ _,by dsimp only;omega,by dsimp only;rw[<-hku];exact Qti j4 hb.b hxs (by omega),by simpa using j5,Qth j7 (Nat.le_trans hxs hub),j6⟩ rfl
   ·cases j6
theorem Qvh{a b q:Ft}(h:JY a b=some q):Pb q:=by
 unfold JY at h
 split at h
 ·cases h
 ·obtain⟨q',_,hq2⟩:=Qk.1 h;obtain⟨rfl,hpb⟩:=YH (Tg _) hq2;exact hpb
theorem Qxd{a b q:Ft}(ha:Pb a)(hb:Pb b)(h:JY a b=some q):Fo 391 [pr a,pr b] [pr q] :=
 Fi func391 rfl [.k (Qgf ha hb h)] rfl
theorem uP:∀{k:Nat} {a b g:Ft},Pb a->Pb b->PO k a b=some g->Pb g
 | 0,_,_,_,_,_,h=>by cases h
 |
  k+1,a,b,g,ha,hb,h=>by
  simp only[PO]at h
  split at h
  ·injection h with h;subst h;exact ha
  ·rename_i h0;obtain⟨r,hr,h⟩:=Qk.1 h;obtain⟨rfl,hpb⟩:=YH (HM ha hb h0).1 hr;exact uP hb hpb h
theorem Qhh{a b g:Ft}(ha:Pb a)(hb:Pb b)(h:XX a b=some g):Fo 362 [pr a,pr b] [pr g]:=by
 unfold XX at h;obtain⟨g',h2,rfl⟩:=Y0.1 h;have hg:=uP (Nl ha) (Nl hb) h2;refine Sp func362 rfl ?_;refine Ff [.k (GZ ha),.k (GZ hb)] rfl ?_;refine Fl (S:=Nat×Ft×Ft) 0 (λL1 s=>(0,.v (pr s.2.1))::(1,.v (pr s.2.2))::L1) (λ_=>[]) (λs=>s.1) (λs=>Pb s.2.1/\Pb s.2.2/\PO s.1 s.2.1 s.2.2=some g') (66,Gm a,Gm b) ⟨Nl ha,Nl hb,h2⟩ rfl rfl λ⟨k,A,C⟩ ⟨j1,j2,j3⟩=>?_
 dsimp only at j1 j2 j3 ⊢;cases k with
 |zero=>cases j3
 |
  succ k =>
  simp only[PO]at j3
  split at j3
  ·rename_i h0;injection j3 with j3;subst j3;exact Fh [.f (by simpa using h0),.k (GZ j1)] rfl
  ·rename_i h0;obtain⟨r,hr,j3⟩:=Qk.1 j3;obtain⟨rfl,hpb⟩:=YH (HM j1 j2 h0).1 hr;refine Ff [.t (by simp;omega),.k (Qgk j1 j2 h0)] rfl ?_;exact rd (k,C,Rv A C) (by dsimp only;omega) ⟨j2,hpb,j3⟩ rfl
theorem wV{a b g:Ft}(ha:Pb a)(hb:Pb b)(h:XX a b=some g):Pb g:=by
 unfold XX at h;obtain⟨g',h2,rfl⟩:=Y0.1 h;exact Nl (uP (Nl ha) (Nl hb) h2)
theorem Qtt{a b g:Ft}(ha:Pb a)(hb:Pb b)(h:pK a b=some g):Fo 289 [.one (.row (Iz [a,b]))] [pr g]:=by
 unfold pK at h;obtain⟨g1,h1,h2⟩:=Qk.1 h;have hg1:=wV wY ha h1;refine Sp func289 rfl ?_;refine Ff [.z 3] rfl ?_;refine Fl (S:=Nat) 0 (λL1 i=>(8,.v (.oi i))::(3,.v (pr (if i=0 then []else if i=1 then g1 else g)))::L1) (λ_=>[]) (λi=>2-i) (λi=>i<=2) 0 (Qh _) rfl rfl λi hi=>?_
 rcases(show i=0\/i=1\/i=2 by omega)with rfl|rfl|rfl
 ·refine Ff [.t rfl,.x (Ek (i:=0) (p:=a) rfl),.k (Qhh wY ha h1)] rfl ?_ (by simp[Ge]);exact rd 1 (by omega) (by omega) rfl
 ·refine Ff [.t rfl,.x (Ek (i:=1) (p:=b) rfl),.k (Qhh hg1 hb h2)] rfl ?_ (by simp[Ge]);exact rd 2 (by omega) (by omega) rfl
 ·exact Fh [.f rfl] rfl
theorem Qvg{a b g:Ft}(ha:Pb a)(hb:Pb b)(h:pK a b=some g):Pb g:=by
 unfold pK at h;obtain⟨g1,h1,h2⟩:=Qk.1 h;exact wV (wV wY ha h1) hb h2
theorem lQ{p d:Ft}(h:OC (Hm p)=some d):d=Hm p/\Pb (Hm p):=YH (Gk _ _) h
theorem Qgm{a g:Ft}(ha:Pb a)(h:Mc a=some g):Fo 364 [pr a] [pr g]:=by
 have hp:=Nl ha;unfold Mc at h
 split at h
 ·rename_i h0;injection h with h;subst h;exact Fi func364 rfl [.k (GZ ha),.k (Ie _),.t (by simp;omega)] rfl
 ·rename_i h0;obtain⟨d,h1,h⟩:=Qk.1 h;obtain⟨rfl,hd⟩:=lQ h1;obtain⟨g1,h1,h⟩:=Qk.1 h;exact Fi func364 rfl [.k (GZ ha),.k (Ie _),.f (by simp;omega),.k (VA hp.ln hp.bd),.k (Qhh hp hd h1),.k (Qxd hp (wV hp hd h1) h)] rfl
theorem xR{a g:Ft}(ha:Pb a)(h:Mc a=some g):Pb g:=by
 unfold Mc at h
 split at h
 ·injection h with h;subst h;exact Nl ha
 ·obtain⟨d,h1,h⟩:=Qk.1 h;obtain⟨g1,h1,h⟩:=Qk.1 h;exact Qvh h
theorem Qke{p:Ft}(h:Pb p):Pb (Nm p):=⟨Gk _ _,Qe (Lo p) h.l,XG h.b⟩
theorem bI:∀{k:Nat} {a b:Ft} {l:Fu},Pb a->Pb b->ON k a b=some l->l.length≤k/\∀p∈l,Pb p
 | 0,_,_,_,_,_,h=>by cases h
 |
  k+1,a,b,l,ha,hb,h=>by
  simp only[ON]at h
  split at h
  ·injection h with h;subst h;exact⟨by simp,λp hp=>by cases hp⟩
  ·rename_i h0;obtain⟨r,hr,h⟩:=Qk.1 h;obtain⟨rfl,hpb⟩:=YH (HM ha hb h0).1 hr;obtain⟨l',h1,h⟩:=Qk.1 h;injection h with h;subst h;obtain⟨i1,i2⟩:=bI hb (Qke hpb) h1;refine⟨by simp;exact i1,λp hp=>?_⟩;rcases Qj.1 hp with rfl|hp
   ·exact hb
   ·exact i2 p hp
theorem chain_ok{p:Ft}{l:Fu}(hp:Pb p)(h:chain p=some l):l.length≤67/\∀q∈l,Pb q:=by
 unfold chain at h;obtain⟨a,h1,h⟩:=Qk.1 h;have ha:=xR hp h1
 split at h
 ·cases h
 ·obtain⟨d,h2,h⟩:=Qk.1 h;obtain⟨rfl,hd⟩:=lQ h2;obtain⟨l',h3,h⟩:=Qk.1 h;injection h with h;subst h;obtain⟨i1,i2⟩:=bI ha (Nl hd) h3;refine⟨by simp;omega,λp hp=>?_⟩;rcases Qj.1 hp with rfl|hp
  ·exact ha
  ·exact i2 p hp
theorem lW(l:Fu)(p:Ft):Iz l++[[pl p]]=Iz (l++[p]):=by simp[Iz]
theorem xN(l:Fu):(Iz l).length=l.length:=by simp[Iz]
theorem Qtv{p:Ft}{l:Fu}(hp:Pb p)(h:chain p=some l):Fo 291 [pr p] [.one (.sh [.row (Iz l)]),.oi 0]:=by
 unfold chain at h;obtain⟨a,h1,h⟩:=Qk.1 h;have ha:=xR hp h1
 split at h
 ·cases h
 rename_i h0;obtain⟨d,h2,h⟩:=Qk.1 h;obtain⟨rfl,hd⟩:=lQ h2;obtain⟨l',h3,h⟩:=Qk.1 h;injection h with h;subst h;refine Sp func291 rfl ?_;refine Ff [.k (Qgm hp h1),.f (by simpa using h0),.lo,.k (VA ha.ln ha.bd),.k (Qgy hd.t hd.ln' hd.bd)] rfl ?_ (by simp[Ge]);obtain⟨z,hz⟩:=nmE (if (Hm a).length=0 then 0 else Rl (Hm a));rw[<-hz];refine sb [(4,.v (pr a)),(7,.v (pr (Gm (Hm a)))),(5,.v (.one (.ow 1 0)))] [.row false 52 1 [[pl a]],.blk 403 [.orow 0 1 none],.blk 55 (Si z)] rfl rfl ?_;have hll:=(bI ha (Nl hd) h3).1;refine Fl (S:=Nat×Fu×Ft×Ft) 3 (λL1 s=>(4,.v (pr s.2.2.1))::(7,.v (pr s.2.2.2))::L1) (λs=>[.row false 52 1 (Iz s.2.1),.blk 403 [.orow 0 1 none],.blk 55 (Si z)]) (λs=>s.1) (λs=>Pb s.2.2.1/\Pb s.2.2.2/\∃m,ON s.1 s.2.2.1 s.2.2.2=some m/\s.2.1++m=a::l') (66,[a],a,Gm (Hm a)) ⟨ha,Nl hd,l',h3,rfl⟩ rfl rfl λ⟨k,out,A,C⟩ ⟨j1,j2,m,j3,j4⟩=>?_
 dsimp only at j1 j2 j3 j4 ⊢;have hol:out.length<=67:=by have:=congrArg List.length j4;simp at this;omega
 cases k with
 |zero=>cases j3
 |
  succ k =>
  simp only[ON]at j3
  split at j3
  ·rename_i h0;injection j3 with j3;subst j3;rw[Xk]at j4;rw[<-j4];exact Fh [.f (by simpa using h0)] rfl
  ·rename_i h0;obtain⟨r,hr,j3⟩:=Qk.1 j3;obtain⟨rfl,hpb⟩:=YH (HM j1 j2 h0).1 hr;obtain⟨m',j6,j5⟩:=Qk.1 j3;injection j5 with j5;subst j5;refine go tt [.t (by simp;omega),.s (sz:=1) (λc hc=>by rw[Qp.1 hc];rfl),.k (Qgk j1 j2 h0),.k (Qgg hpb.ln hpb.bd)] rfl (by simp[Ge,xN];omega) ?_;exact rd (k,out++[C],C,Nm (Rv A C)) (by dsimp only;omega) ⟨j2,Qke hpb,m',j6,by rw[<-j4];simp⟩ (by rw[lW];rfl)
end Orr
