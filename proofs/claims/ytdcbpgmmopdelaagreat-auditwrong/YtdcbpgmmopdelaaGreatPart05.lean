/- T4 T5 T6 T7 T8 T9 T10 T11 T12 T13 CrvL CrowdL PredL CertL Y1 Y2 Q1 C1 C2 D1 E1 AlgL F1 F2 -/
import Derived.Test.YtdcbpgmmopdelaaGreatPart04
import Derived.Test.YtdcbpgmmopdelaaGreatPart00
set_option linter.all false
namespace Orq
theorem Qzo(z:Rat):∃n:Nat,z<=(n:Rat):=by
 refine⟨z.ceil.toNat,?_⟩;have h1:z<=(z.ceil:Rat):=Rat.le_ceil;have h2:(z.ceil:Rat)<=((z.ceil.toNat:Int):Rat):=Jy.2 (Int.self_le_toNat _);exact Zi h1 h2
theorem YY{z e:Rat}(he:0<e):∃n:Nat,z<=(n:Rat)*e:=by
 obtain⟨n,hn⟩:=Qzo (z / e);exact⟨n,by have:=Q7 hn (Qm he);rwa[Hu he]at this⟩
theorem HV{R x y t:Rat}(hx:Gw x<=R)(hy:Gw y<=R)(h1:x<=t)(h2:t<=y):Gw t<=R:=by
 rw[Mh]at *;constructor <;> grind
def Qc3(f w:Fw)(L:Fx)(x y:Rat):Prop :=
 vv L y<=vv L x/\(vv L x=vv L y->Sm f x y/\Sm w x y)/\(vv L x=vv L y+1->M9 f x≠0/\M9 f y=-M9 f x)
theorem Qbq{f w:Fw}{L:Fx}{x y:Rat}(h:Qft f w L x y):Qc3 f w L x y:=by
 rcases h with⟨h1,h2,h3⟩|⟨h1,h2,h3,_⟩
 ·exact⟨by omega,λ_=>⟨h2,h3⟩,λh=>by omega⟩
 ·exact⟨by omega,λh=>by omega,λ_=>⟨h2,h3⟩⟩
theorem mP{w:Fw}{x y z:Rat}(h1:Sm w x y)(h2:Sm w y z):Sm w x z:=⟨by rw[h2.s,h1.l],by rw[h2.l,h1.l],h1.n⟩
theorem dE{f w:Fw}{L:Fx}{x y z:Rat}(h:Qc3 f w L x y)(h':Qc3 f w L y z):Qc3 f w L x z:=by
 obtain⟨a1,a2,a3⟩:=h;obtain⟨b1,b2,b3⟩:=h';refine⟨by omega,λh=>?_,λh=>?_⟩
 ·obtain⟨s1,s2⟩:=a2 (by omega);obtain⟨s3,s4⟩:=b2 (by omega);exact⟨mP s1 s3,mP s2 s4⟩
 ·by_cases e:vv L x=vv L y
  ·obtain⟨s1,_⟩:=a2 e;obtain⟨s3,s4⟩:=b3 (by omega);exact⟨s1.n,by rw[s4,s1.l]⟩
  ·obtain⟨s3,s4⟩:=a3 (by omega);obtain⟨s1,_⟩:=b2 (by omega);exact⟨s3,by rw[s1.l,s4]⟩
theorem Qum{R:Rat}(hR:0<=R){f w u:Fw}{L:Fx}(hc:WB f L)(h:∀t,ev f t=ev w t*ev u t){x y:Rat}(hx:Gw x<=R)(hy:Gw y<=R)(hxy:x<y):Qc3 f w L x y:=by
 obtain⟨e,ep,hl⟩:=loc hR hc h;have key:∀n:Nat,∀x,Gw x<=R->x<y->y-x<=(n:Rat)*e->Qc3 f w L x y:=by
  intro n
  induction n with
  |zero =>
   intro x hx hxy h;exfalso;have:((0:Nat):Rat)*e=0:=by simp
   grind
  |
   succ n ih =>
   intro x hx hxy hn;rcases Hr (y-x) e with h1|h1
   ·exact Qbq (hl x y hx hy hxy h1)
   ·have hm:Gw (x+e)<=R:=HV hx hy (by clear hl ih;grind) (by clear hl ih;grind);have hn':(((n+1:Nat):Rat))=(n:Rat)+1:=by push_cast;rfl
    refine dE (Qbq (hl x (x+e) hx hm (by clear hl ih;grind) (by clear hl ih;grind))) (ih (x+e) hm (by clear hl ih;grind) ?_);rw[hn']at hn;clear hl ih;grind
 obtain⟨n,hn⟩:=YY (z:=y-x) ep;exact key n x hx hxy hn
theorem yS(x y:Rat):∃R:Rat,0<=R/\Gw x<=R/\Gw y<=R:=by
 refine⟨Gw x+Gw y,?_,?_,?_⟩ <;> (have:=Tz x;have:=Tz y;grind)
theorem S9(t:Rat):ev [1] t=1:=by simp only[ev];grind
theorem Aa{f:Fw}{L:Fx}(hc:WB f L){x y:Rat}(hxy:x<y):vv L y<=vv L x:=by
 obtain⟨R,hR,hx,hy⟩:=yS x y;exact(Qum hR hc (w:=f) (u:=[1]) (λt=>by rw[S9];grind) hx hy hxy).1
theorem UU{f w u:Fw}{L:Fx}(hc:WB f L)(h:∀t,ev f t=ev w t*ev u t){x y:Rat}(hxy:x<y)(he:vv L x=vv L y):Sm w x y:=by
 obtain⟨R,hR,hx,hy⟩:=yS x y;exact((Qum hR hc h hx hy hxy).2.1 he).2
theorem fV{f:Fw}{L:Fx}(hc:WB f L){x y:Rat}(hxy:x<y)(he:vv L x=vv L y):Sm f x y :=
 UU hc (w:=f) (u:=[1]) (λt=>by rw[S9];grind) hxy he
theorem fY{f:Fw}{L:Fx}(hc:WB f L){x y:Rat}(hxy:x<y)(he:vv L x=vv L y+1):M9 f x≠0/\M9 f y=-M9 f x:=by
 obtain⟨R,hR,hx,hy⟩:=yS x y;exact(Qum hR hc (w:=f) (u:=[1]) (λt=>by rw[S9];grind) hx hy hxy).2.2 he
theorem Qm0{f:Fw}{L:Fx}(hc:WB f L)(R:Rat)(hR:0<=R):∃e:Rat,0<e/\∀x y,Gw x<=R->Gw y<=R->x<y->y-x<=e->vv L x<=vv L y+1:=by
 obtain⟨e,ep,hl⟩:=loc hR hc (w:=f) (u:=[1]) (λt=>by rw[S9];grind);refine⟨e,ep,λx y hx hy hxy he=>?_⟩;rcases hl x y hx hy hxy he with⟨h,_⟩|⟨h,_⟩ <;> omega
theorem cont{p:Fw}{x:Rat}(h:Gt (ev p x)≠0):∃e:Rat,0<e/\∀y,Gw (y-x)<=e->Gt (ev p y)=Gt (ev p x):=by
 have hd:=L8 (x:=ev p x) λh0=>h (Ha.2 h0)
 have hR:0<=Gw x+1:=by have:=Tz x;grind
 obtain⟨e,e1,e2,e3⟩:=Ry (Bm hR p) hd;refine⟨e,e1,λy hy=>(Ns Ql (Bp (x:=x) (by grind) ?_ hR hy e3)).1⟩;have:=Mn (y-x) x;have e:y-x+x=y:=by grind
 rw[e]at this;grind
theorem Qsv{R M:Rat}{p:Fw}(hM:M=ddB R p)(hR:0<=R){h:Rat}(hh:0<h):∀(n:Nat) (x:Rat),Gw x<=R->Gw (x+(n:Rat)*h)<=R->(∀t,x<=t->t<=x+(n:Rat)*h->0<=dv p t)->ev p x-(n:Rat)*(h*h*M)<=ev p (x+(n:Rat)*h)
 |
  0,x,_,_,_=>by
  have e1:x+((0:Nat):Rat)*h=x:=by rw[show((0:Nat):Rat)=0 from rfl];grind
  have e2:((0:Nat):Rat)*(h*h*M)=0:=by simp
  rw[e1,e2];grind
 |
  n+1,x,hx,hy,hd=>by
  have hn':(((n+1:Nat):Rat))=(n:Rat)+1:=by push_cast;rfl
  rw[hn']at hy hd ⊢;have hn0:(0:Rat)<=(n:Rat):=Xt;have hnh:=Cu hn0 (Qm hh);have e1:x+((n:Rat)+1)*h=(x+h)+(n:Rat)*h:=by grind
  rw[e1]at hy hd ⊢;have hxh:Gw (x+h)<=R:=HV hx hy (by clear hd;grind) (by clear hd;grind);have ih:=Qsv hM hR hh n (x+h) hxh hy λt h1 h2=>hd t (by clear hd;grind) h2
  have h0:=hd x Ql (by clear hd;grind);have h1:=Qsl p (x+h) x;have h2:=Qh9 hxh hx p;rw[<-hM,Mh]at h2;have h3:=Zt h2.1 (Cu (Qm hh) (Qm hh));have h4:=Cu (Qm hh) h0;have e2:x+h-x=h:=by grind
  rw[e2]at h1;clear hd hx hy hxh;grind
theorem Qyd{p:Fw}{x y:Rat}(hxy:x<y)(hd:∀t,x<=t->t<=y->0<=dv p t):ev p x<=ev p y:=by
 obtain⟨R,hR,hx,hy⟩:=yS x y;rcases Hr (ev p x) (ev p y)with h|h
 ·exact h
 ·exfalso;obtain⟨M,hM⟩:=nmE (ddB R p);have hM0:=EV hR p;rw[<-hM]at hM0;obtain⟨e,ep,_,he⟩:=Ry (b:=(y-x)*M) (d:=ev p x-ev p y) (Cu (by grind) hM0) (by grind);obtain⟨n,hn⟩:=YY (z:=y-x) ep;have hn0:0<(n:Rat):=by
   rcases Hr (n:Rat) 0 with h'|h'
   ·have:=Q7 h' (Qm ep);clear hd;grind
   ·exact h'
  have hh:0<(y-x) / n:=Em (by grind) hn0;have e1:(n:Rat)*((y-x) / n)=y-x:=by rw[Uz];exact Hu hn0
  have e2:x+(n:Rat)*((y-x) / n)=y:=by rw[e1];grind
  have h1:=Qsv hM hR hh n x hx (by rw[e2];exact hy) (by rw[e2];exact hd);rw[e2]at h1;have h2:(y-x) / n<=e:=by
   rcases Hr ((y-x) / n) e with h'|h'
   ·exact h'
   ·have:=Rat.mul_lt_mul_of_pos_left h' hn0;clear hd;grind
  have h3:(n:Rat)*((y-x) / n*((y-x) / n)*M)=((y-x) / n)*((y-x)*M):=by
   have:(n:Rat)*((y-x) / n*((y-x) / n)*M)=((n:Rat)*((y-x) / n))*(((y-x) / n)*M):=by grind
   rw[this,e1];grind
  have h4:=Q7 h2 (Cu (x:=y-x) (y:=M) (by grind) hM0);rw[h3]at h1;clear hd;grind
theorem Qqs{p:Fw}{x y:Rat}(hxy:x<y)(hd:∀t,x<=t->t<=y->0<dv p t):ev p x<ev p y:=by
 have hx:=hd x Ql (by grind);have hR:0<=Gw x+1:=by have:=Tz x;grind
 obtain⟨e,e1,e2,e3⟩:=Ry (EV hR p) hx;obtain⟨f,f1,f2,f3⟩:=min2 (a:=e) (b:=y-x) e1 (by grind);have hq:Gw (x+f)<=Gw x+1:=by
  have:=Mn x f;have:Gw f=f:=by unfold Gw;split <;> grind
  clear hd;grind
 have h1:=IY (p:=p) (x:=x) (y:=x+f) (R:=Gw x+1) (e:=e) (d:=dv p x) (by clear hd;grind) hq hR (by grind) (by grind) (by unfold Gw;split <;> clear hd <;> grind) e3;rw[Sp.2 hx,Sp]at h1;rcases Classical.em (x+f=y)with e|e
 ·rw[<-e];clear hd;grind
 ·have:=Qyd (p:=p) (x:=x+f) (y:=y) (by clear hd;grind) λt h1 h2=>Qm (hd t (by clear hd;grind) h2)
  clear hd;grind
structure Cut(c:Rat->Int):Prop where
 val:∀q,c q=1\/c q=0\/c q=-1
 mono:∀q r,q<r->c q≠1->c r=-1
 up:∀q,c q=1->∃r,q<r/\c r=1
 dn:∀q,c q=-1->∃r,r<q/\c r=-1
 lo:∃q,c q=1
 hi:∃q,c q=-1
theorem Cut.mono'{c:Rat->Int}(h:Cut c){q r:Rat}(hqr:q<r)(hr:c r≠-1):c q=1:=by
 rcases Classical.em (c q=1)with e|e
 ·exact e
 ·exact absurd (h.mono q r hqr e) hr
theorem Cut.lt{c:Rat->Int}(h:Cut c){q r:Rat}(hq:c q=1)(hr:c r=-1):q<r:=by
 rcases Hr r q with e|e
 ·rcases Classical.em (r=q)with e'|e'
  ·rw[e']at hr;omega
  ·have:=h.mono r q (by grind) (by omega);omega
 ·exact e
theorem Cut.near{c:Rat->Int}(h:Cut c){e:Rat}(he:0<e):∃x y,c x=1/\c y=-1/\y-x<=e:=by
 obtain⟨a,ha⟩:=h.lo;obtain⟨b,hb⟩:=h.hi;have he2:0<e / 2:=Em he (by decide);have h2:e / 2*2=e:=Hu (by decide);have key:∀(n:Nat) (a:Rat),c a=1->b-a<=(n:Rat)*(e / 2)->∃x y,c x=1/\c y=-1/\y-x<=e:=by
  intro n
  induction n with
  |
   zero =>
   intro a ha hn;have:=h.lt ha hb;rw[show((0:Nat):Rat)=0 from rfl]at hn;exfalso;grind
  |
   succ n ih =>
   intro a ha hn;have hn':(((n+1:Nat):Rat))=(n:Rat)+1:=by push_cast;rfl
   rw[hn']at hn;rcases h.val (a+e / 2)with h1|h1|h1
   ·exact ih _ h1 (by grind)
   ·exact⟨a,a+e,ha,h.mono (a+e / 2) _ (by grind) (by omega),by grind⟩
   ·exact⟨a,a+e / 2,ha,h1,by grind⟩
 obtain⟨n,hn⟩:=YY (z:=b-a) he2;exact key n a ha hn
def Ab(p:Fw)(c:Rat->Int):Prop:=∀d:Rat,0<d->∃x y,c x=1/\c y=-1/\∀q,x<=q->q<=y->Gw (ev p q)<d
def NZ(p:Fw)(c:Rat->Int)(s:Int):Prop:=∃d:Rat,0<d/\∃x y,c x=1/\c y=-1/\∀q,x<=q->q<=y->Gt (ev p q)=s/\d<=Gw (ev p q)
def Nr(c:Rat->Int)(P:Rat->Prop):Prop:=∃x y,c x=1/\c y=-1/\∀q,x<=q->q<=y->P q
theorem wQ{c:Rat->Int}{P Q:Rat->Prop}(h1:Nr c P)(h2:Nr c Q):Nr c λq=>P q/\Q q:=by
 obtain⟨x,y,a1,a2,a3⟩:=h1;obtain⟨x',y',b1,b2,b3⟩:=h2;refine⟨if x<=x' then x' else x,if y<=y' then y else y',by split <;> assumption,by split <;> assumption,λq q1 q2=>⟨a3 q ?_ ?_,b3 q ?_ ?_⟩⟩ <;> clear a3 b3 <;> grind
theorem CU{c:Rat->Int}{P Q:Rat->Prop}(h1:Nr c P)(h:∀q,P q->Q q):Nr c Q:=by
 obtain⟨x,y,a1,a2,a3⟩:=h1;exact⟨x,y,a1,a2,λq q1 q2=>h q (a3 q q1 q2)⟩
theorem IF{c:Rat->Int}(hc:Cut c){P:Rat->Prop}(h1:Nr c P):∃q,P q/\c q=1:=by
 obtain⟨x,y,a1,a2,a3⟩:=h1;exact⟨x,a3 x Ql (Qm (hc.lt a1 a2)),a1⟩
theorem Qkd{c:Rat->Int}(hc:Cut c){e:Rat}(he:0<e){P:Rat->Prop}(h1:Nr c P):∃x y,c x=1/\c y=-1/\y-x<=e/\x<y/\∀q,x<=q->q<=y->P q:=by
 obtain⟨x,y,a1,a2,a3⟩:=h1;obtain⟨x',y',b1,b2,b3⟩:=hc.near he;refine⟨if x<=x' then x' else x,if y<=y' then y else y',by split <;> assumption,by split <;> assumption,by clear a3;grind,hc.lt (by split <;> assumption) (by split <;> assumption),λq q1 q2=>a3 q ?_ ?_⟩ <;> clear a3 <;> grind
theorem Qst{c:Rat->Int}(hc:Cut c):∃R:Rat,0<=R/\Nr c λq=>Gw q<=R:=by
 obtain⟨x,y,a1,a2,_⟩:=hc.near (e:=1) (by decide);obtain⟨R,hR,h1,h2⟩:=yS x y;exact⟨R,hR,x,y,a1,a2,λq q1 q2=>HV h1 h2 q1 q2⟩
theorem JR{c:Rat->Int}(hc:Cut c)(p:Fw):Ab p c\/∃s,s≠0/\NZ p c s:=by
 rcases Classical.em (Ab p c)with h|h
 ·exact .inl h
 ·refine .inr ?_;obtain⟨d,hd0⟩:=Classical.not_forall.1 h;obtain⟨dp,hd⟩:=Classical.not_imp.1 hd0;have hd:∀x y,c x=1->c y=-1->∃q,x<=q/\q<=y/\d<=Gw (ev p q):=λx y hx hy=>by
   rcases Classical.em (∃q,x<=q/\q<=y/\d<=Gw (ev p q))with h'|h'
   ·exact h'
   ·refine absurd ⟨x,y,hx,hy,λq h1 h2=>?_⟩ hd;rcases Hr d (Gw (ev p q))with h3|h3
    ·exact absurd ⟨q,h1,h2,h3⟩ h'
    ·exact h3
  obtain⟨R,hR,hn⟩:=Qst hc;have hd2:0<d / 2:=Em dp (by decide);have h2:d / 2*2=d:=Hu (by decide);obtain⟨e,e1,_,e3⟩:=Ry (Bm hR p) hd2;obtain⟨x,y,hx,hy,hxy,_,hq⟩:=Qkd hc e1 hn;obtain⟨r,r1,r2,r3⟩:=hd x y hx hy;have key:∀q,x<=q->q<=y->Gw (ev p q-ev p r)<d / 2:=λq q1 q2 =>
   Bp (hq r r1 r2) (hq q q1 q2) hR (by rw[Mh];clear hq hd;constructor <;> grind) e3
  refine⟨Gt (ev p r),λh0=>?_,d / 2,hd2,x,y,hx,hy,λq q1 q2=>⟨(Ns (d:=d) r3 ?_).1,?_⟩⟩
  ·rw[Ha.1 h0,Sy]at r3;clear hq hd key;grind
  ·have:=key q q1 q2;clear hq hd key;grind
  ·have h3:=key q q1 q2;have h4:=Mn (ev p r-ev p q) (ev p q);rw[show ev p r-ev p q+ev p q=ev p r from by clear hq hd key;grind,Qci]at h4;clear hq hd key;grind
theorem fJ{c:Rat->Int}(hc:Cut c){p:Fw}{s:Int}(h1:Ab p c)(h2:NZ p c s):False:=by
 obtain⟨d,dp,h2⟩:=h2;obtain⟨q,⟨a,b⟩,_⟩:=IF hc (wQ (h1 d dp) h2);exact absurd b.2 (J1.2 a)
theorem Qxw{c:Rat->Int}(hc:Cut c){p:Fw}{s s':Int}(h1:NZ p c s)(h2:NZ p c s'):s=s':=by
 obtain⟨_,_,h1⟩:=h1;obtain⟨_,_,h2⟩:=h2;obtain⟨q,⟨a,b⟩,_⟩:=IF hc (wQ h1 h2);rw[<-a.1,b.1]
theorem Nj{c:Rat->Int}(hc:Cut c){f p q:Fw}(hf:∀t,ev f t=ev p t*ev q t)(h:Ab p c):Ab f c:=by
 intro d dp;obtain⟨R,hR,hn⟩:=Qst hc;obtain⟨e,e1,_,e3⟩:=Ry (XE hR q) dp;refine CU (wQ hn (h e e1)) λt ⟨h1,h2⟩=>?_
 rw[hf];have:=Rq (Qm h2) (MI h1 q);exact J1.1 λh=>absurd (Zi h this) (J1.2 e3)
theorem DV{c:Rat->Int}{f p q:Fw}(hf:∀t,ev f t=ev p t+ev q t)(h:Ab p c)(h':Ab q c):Ab f c:=by
 intro d dp;have hd2:0<d / 2:=Em dp (by decide);have h2:d / 2*2=d:=Hu (by decide);refine CU (wQ (h _ hd2) (h' _ hd2)) λt ⟨h1,h2⟩=>?_
 rw[hf];have:=Mn (ev p t) (ev q t);grind
def RS(p:Fw)(c:Rat->Int)(s:Int):Prop:=∃y,c y=-1/\∀q,c q=-1->q<=y->Gt (ev p q)=s
def LS(p:Fw)(c:Rat->Int)(s:Int):Prop:=∃x,c x=1/\∀q,c q=1->x<=q->Gt (ev p q)=s
theorem jC{c:Rat->Int}(hc:Cut c){p:Fw}{s:Int}(h:NZ p c s):RS p c s:=by
 obtain⟨d,dp,x,y,a1,a2,a3⟩:=h;exact⟨y,a2,λq h1 h2=>(a3 q (Qm (hc.lt a1 h1)) h2).1⟩
theorem Qbt{c:Rat->Int}(hc:Cut c){p:Fw}{s:Int}(h:NZ p c s):LS p c s:=by
 obtain⟨d,dp,x,y,a1,a2,a3⟩:=h;exact⟨x,a1,λq h1 h2=>(a3 q h2 (Qm (hc.lt h1 a2))).1⟩
theorem Qcr{c:Rat->Int}{p:Fw}{s s':Int}(h:RS p c s)(h':RS p c s'):s=s':=by
 obtain⟨y,a1,a2⟩:=h;obtain⟨y',b1,b2⟩:=h';rcases Hr y y' with e|e
 ·rw[<-a2 y a1 Ql,<-b2 y a1 e]
 ·rw[<-a2 y' b1 (Qm e),<-b2 y' b1 Ql]
theorem Qsy{c:Rat->Int}(hc:Cut c){p:Fw}(hv:Ab p c){y:Rat}(hy:c y=-1)(h:∀q,c q=-1->q<=y->0<dv p q)(q:Rat)(hq:c q=-1)(hqy:q<=y):0<ev p q:=by
 rcases Hr (ev p q) 0 with h0|h0
 ·exfalso;obtain⟨r,r1,r2⟩:=hc.dn q hq;have hr:ev p r<ev p q:=Qqs r1 λt t1 t2=>h t (by
   rcases Classical.em (r=t)with e|e
   ·rw[<-e];exact r2
   ·exact hc.mono r t (by clear h;grind) (by omega)) (Zi t2 hqy)
  obtain⟨a,b,ha,hb,hab⟩:=hv (-ev p r) (by clear h;grind);obtain⟨m,hm1,hm2,hm3⟩:∃m,c m=-1/\m<=b/\m<=r:=by
   rcases Hr b r with e|e
   ·exact⟨b,hb,Ql,e⟩
   ·exact⟨r,r2,Qm e,Ql⟩
  have h1:=hab m (Qm (hc.lt ha hm1)) hm2;have h2:ev p m<=ev p r:=by
   rcases Classical.em (m=r)with e|e
   ·rw[e];exact Ql
   ·exact Qm (Qqs (by clear h hab;grind) λt t1 t2=>h t (by
     rcases Classical.em (m=t)with e|e
     ·rw[<-e];exact hm1
     ·exact hc.mono m t (by clear h hab;grind) (by omega)) (by clear h hab;grind))
  rw[wO]at h1;clear h hab;grind
 ·exact h0
theorem uK{c:Rat->Int}(hc:Cut c){p:Fw}{s:Int}(hv:Ab p c)(h:RS (Cx p) c s)(hs:s≠0):RS p c s:=by
 obtain⟨y,hy,h⟩:=h;have hsv:s=1\/s=-1:=by
  have:=h y hy Ql;rcases Hf (ev (Cx p) y)with⟨e,_⟩|⟨e,_⟩|⟨e,_⟩ <;> omega
 rcases hsv with rfl|rfl
 ·refine⟨y,hy,λq h1 h2=>Sp.2 (Qsy hc hv hy (λq h1 h2=>?_) q h1 h2)⟩;rw[<-Sw];exact Sp.1 (h q h1 h2)
 ·refine⟨y,hy,λq h1 h2=>M7.2 ?_⟩;have:=Qsy hc (p:=Nk (-1) p) (y:=y) (λd dp=>CU (hv d dp) λq hq=>by rw[Hd,show -1*ev p q=-ev p q by grind,Az];exact hq) hy (λq h1 h2=>by
   rw[SN,<-Sw];have:=M7.1 (h q h1 h2);grind) q h1 h2
  rw[Hd]at this;grind
theorem Qss{c:Rat->Int}(hc:Cut c){p:Fw}(hv:Ab p c){x:Rat}(hx:c x=1)(h:∀q,c q=1->x<=q->0<dv p q)(q:Rat)(hq:c q=1)(hxq:x<=q):ev p q<0:=by
 rcases Hr 0 (ev p q)with h0|h0
 ·exfalso;obtain⟨r,r1,r2⟩:=hc.up q hq;have hr:ev p q<ev p r:=Qqs r1 λt t1 t2=>h t (by
   rcases Classical.em (t=r)with e|e
   ·rw[e];exact r2
   ·exact hc.mono' (q:=t) (r:=r) (by clear h;grind) (by omega)) (Zi hxq t1)
  obtain⟨a,b,ha,hb,hab⟩:=hv (ev p r) (by clear h;grind);obtain⟨m,hm1,hm2,hm3⟩:∃m,c m=1/\a<=m/\r<=m:=by
   rcases Hr a r with e|e
   ·exact⟨r,r2,e,Ql⟩
   ·exact⟨a,ha,Ql,Qm e⟩
  have h1:=hab m hm2 (Qm (hc.lt hm1 hb));have h2:ev p r<=ev p m:=by
   rcases Classical.em (r=m)with e|e
   ·rw[e];exact Ql
   ·exact Qm (Qqs (by clear h hab;grind) λt t1 t2=>h t (by
     rcases Classical.em (t=m)with e|e
     ·rw[e];exact hm1
     ·exact hc.mono' (q:=t) (r:=m) (by clear h hab;grind) (by omega)) (by clear h hab;grind))
  rw[wO]at h1;clear h hab;grind
 ·exact h0
theorem Qj1{c:Rat->Int}(hc:Cut c){p:Fw}{s:Int}(hv:Ab p c)(h:LS (Cx p) c s)(hs:s≠0):LS p c (-s):=by
 obtain⟨x,hx,h⟩:=h;have hsv:s=1\/s=-1:=by
  have:=h x hx Ql;rcases Hf (ev (Cx p) x)with⟨e,_⟩|⟨e,_⟩|⟨e,_⟩ <;> omega
 rcases hsv with rfl|rfl
 ·refine⟨x,hx,λq h1 h2=>M7.2 (Qss hc hv hx (λq h1 h2=>?_) q h1 h2)⟩;rw[<-Sw];exact Sp.1 (h q h1 h2)
 ·refine⟨x,hx,λq h1 h2=>Sp.2 ?_⟩;have:=Qss hc (p:=Nk (-1) p) (x:=x) (λd dp=>CU (hv d dp) λq hq=>by rw[Hd,show -1*ev p q=-ev p q by grind,Az];exact hq) hx (λq h1 h2=>by
   rw[SN,<-Sw];have:=M7.1 (h q h1 h2);grind) q h1 h2
  rw[Hd]at this;grind
theorem Qq1{c:Rat->Int}(hc:Cut c){f g:Fw}{l:Fx}(h:SCl f g l):Ab f c->Ab g c->False:=by
 induction h with
 |
  @base f g k hk hg =>
  intro _ hv;obtain⟨q,hq,_⟩:=IF hc (hv (Gw k) (L8 hk));rw[hg]at hq;grind
 |
  @step f g h l a b q ha hb he hl ih =>
  intro hf hg;refine ih hg ?_;have h1:Ab (H7 q g) c:=Nj hc (p:=g) (q:=q) (λt=>by rw[Gj];grind) hg;have h2:Ab (Nk (-a) f) c:=Nj hc (p:=f) (q:=[-a]) (λt=>by rw[Hd];simp only[ev];grind) hf;have h3:Ab (So (H7 q g) (Nk (-a) f)) c:=DV (λt=>Hm t _ _) h1 h2;refine Nj hc (p:=So (H7 q g) (Nk (-a) f)) (q:=[1 / b]) (λt=>?_) h3;have:=he t;rw[Hm,Gj,Hd];simp only[ev];have hbb:1 / b*b=1:=Hu hb;have:ev q t*ev g t+-a*ev f t=b*ev h t:=by rw[show -a*ev f t=-(a*ev f t) by grind,he t];grind
  rw[this];have:b*ev h t*(1 / b+t*0)=ev h t*(1 / b*b):=by grind
  rw[this,hbb];grind
theorem WH{c:Rat->Int}(hc:Cut c){f g:Fw}{k:Rat}(h:∀t,ev g t=k*ev f t)(hv:Ab f c):Ab g c :=
 Nj hc (p:=f) (q:=[k]) (λt=>by rw[h];simp only[ev];grind) hv
theorem Qrc{c:Rat->Int}(hc:Cut c){f:Fw}{L:Fx}(h:WB f L)(hv:Ab f c):∃s,s≠0/\NZ (Cx f) c s:=by
 rcases JR hc (Cx f)with h1|h1
 ·exfalso;rcases h with⟨k,hk,hf,_⟩|⟨g,l,k,hk,hg,h,_⟩
  ·obtain⟨q,hq,_⟩:=IF hc (hv (Gw k) (L8 hk));rw[hf]at hq;grind
  ·exact Qq1 hc h hv (WH hc (λt=>by rw[hg,Sw]) h1)
 ·exact h1
theorem Qam{c:Rat->Int}(hc:Cut c){f w u:Fw}{L:Fx}(h:WB f L)(hf:∀t,ev f t=ev w t*ev u t)(hv:Ab w c):∃s,s≠0/\NZ (Cx w) c s:=by
 rcases JR hc (Cx w)with h1|h1
 ·exfalso;obtain⟨s,_,hs⟩:=Qrc hc h (Nj hc hf hv);refine fJ hc ?_ hs;have a1:Ab (H7 (Cx w) u) c:=Nj hc (λt=>Gj t _ _) h1;have a2:Ab (H7 w (Cx u)) c:=Nj hc (λt=>Gj t _ _) hv;refine DV (λt=>?_) a1 a2;rw[Sw,Oz hf,Gj,Gj,Sw,Sw]
 ·exact h1
theorem Qh6{c:Rat->Int}(hc:Cut c){q:Rat}(h:c q=0){x y:Rat}(hx:c x=1)(hy:c y=-1):x<=q/\q<=y:=by
 constructor
 ·rcases Hr x q with e|e
  ·exact e
  ·have:=hc.mono q x e (by omega);omega
 ·rcases Hr q y with e|e
  ·exact e
  ·have:=hc.mono y q e (by omega);omega
theorem FM{c:Rat->Int}(hc:Cut c){p:Fw}{q:Rat}(h:c q=0)(hv:Ab p c):ev p q=0:=by
 rcases Classical.em (ev p q=0)with e|e
 ·exact e
 ·obtain⟨x,y,hx,hy,hq⟩:=hv _ (L8 e);obtain⟨h1,h2⟩:=Qh6 hc h hx hy;have:=hq q h1 h2;grind
theorem IH{c:Rat->Int}(hc:Cut c){p:Fw}{q:Rat}{s:Int}(h:c q=0)(hv:NZ p c s):Gt (ev p q)=s:=by
 obtain⟨d,dp,x,y,hx,hy,hq⟩:=hv;obtain⟨h1,h2⟩:=Qh6 hc h hx hy;exact(hq q h1 h2).1
theorem cT{c:Rat->Int}(hc:Cut c){y z:Rat}(hy:c y=-1)(hz:c z=-1):∃q,c q=-1/\q<y/\q<z:=by
 obtain⟨a,a1,a2⟩:=hc.dn y hy;obtain⟨b,b1,b2⟩:=hc.dn z hz;rcases Hr a b with e|e
 ·exact⟨a,a2,a1,by grind⟩
 ·exact⟨b,b2,by grind,b1⟩
theorem SU{c:Rat->Int}(hc:Cut c){y z:Rat}(hy:c y=1)(hz:c z=1):∃q,c q=1/\y<q/\z<q:=by
 obtain⟨a,a1,a2⟩:=hc.up y hy;obtain⟨b,b1,b2⟩:=hc.up z hz;rcases Hr a b with e|e
 ·exact⟨b,b2,by grind,b1⟩
 ·exact⟨a,a2,a1,by grind⟩
theorem lX{f w u:Fw}{L:Fx}(h:WB f L)(hf:∀t,ev f t=ev w t*ev u t){x y:Rat}(hv:vv L x=vv L y){c:Rat->Int}(hc:Cut c)(hx:c x=1)(hy:c y≠1):¬Ab w c:=λhw=>by
 have hxy:x<y:=by
  rcases Hr y x with e|e
  ·rcases Classical.em (y=x)with e'|e'
   ·rw[e']at hy;exact absurd hx hy
   ·have:=hc.mono y x (by grind) hy;omega
  ·exact e
 have hwv:=UU h hf hxy hv;rcases hc.val y with e|e|e
 ·exact hy e
 ·have:=FM hc e hw;have:=hwv.s;rw[Ha.2 (by assumption)]at this;exact hwv.n this.symm
 ·obtain⟨s,hs,hd⟩:=Qam hc h hf hw;obtain⟨a,ha,hal⟩:=Qj1 hc hw (Qbt hc hd) hs;obtain⟨b,hb,hbr⟩:=uK hc hw (jC hc hd) hs;obtain⟨q,q1,q2,q3⟩:=SU hc hx ha;obtain⟨r,r1,r2,r3⟩:=cT hc hb e;have e1:=hal q q1 (Qm q3);have e2:=hbr r r1 (Qm r2);have hqr:=hc.lt q1 r1;have v1:vv L q<=vv L x:=Aa h q2;have v2:vv L y<=vv L r:=Aa h r3;have v3:vv L r<=vv L q:=Aa h hqr;have s1:=(UU h hf q2 (by omega)).s;have s2:=(UU h hf (x:=x) (y:=r) (by grind) (by omega)).s;omega
theorem uE{f:Fw}{L:Fx}(h:WB f L){x y:Rat}(hxy:x<y)(hv:vv L x≠vv L y){d:Rat}(dp:0<d):∃q,x<=q/\q<=y/\Gw (ev f q)<d:=by
 obtain⟨R,hR,hx,hy⟩:=yS x y;obtain⟨e1,e1p,hl⟩:=loc hR h (w:=f) (u:=[1]) (λt=>by rw[S9];grind);obtain⟨e2,e2p,_,e2b⟩:=Ry (Bm hR f) dp;obtain⟨e,ep,h1,h2⟩:=min2 e1p e2p;have key:∀n:Nat,∀x,Gw x<=R->x<y->vv L x≠vv L y->y-x<=(n:Rat)*e->∃q,x<=q/\q<=y/\Gw (ev f q)<d:=by
  intro n
  induction n with
  |zero=>intro x hx hxy _ hn;rw[show((0:Nat):Rat)=0 from rfl]at hn;exfalso;clear hl;grind
  |
   succ n ih =>
   intro x hx hxy hv hn;have hstep:∀z,Gw z<=R->x<z->z-x<=e->vv L x≠vv L z->Gw (ev f z)<d:=λz hz hxz hze hv=>by
    rcases hl x z hx hz hxz (Zi hze h1)with⟨p,_⟩|⟨_,p1,p2,p3,p4⟩
    ·exact absurd p hv
    ·have hd:=Bp (p:=f) hx hz hR (e:=e2) (d:=d) (by rw[Mh];clear hl ih;constructor <;> grind) e2b;rw[<-p3]at p1 p4;clear hl ih p2 p3;rw[wO]at *;rcases Hf (ev f x)with⟨a,a'⟩|⟨a,a'⟩|⟨a,a'⟩ <;> rcases Hf (ev f z)with⟨b,b'⟩|⟨b,b'⟩|⟨b,b'⟩ <;> rw[a,b]at p4 <;> first|(exfalso;revert p4;decide)|skip
     all_goals first|(constructor <;> grind)|(exfalso;omega)
   rcases Hr (y-x) e with h3|h3
   ·exact⟨y,Qm hxy,Ql,hstep y hy hxy h3 hv⟩
   ·have hm:Gw (x+e)<=R:=HV hx hy (by clear hl ih hstep;grind) (by clear hl ih hstep;grind);rcases Classical.em (vv L x=vv L (x+e))with e0|e0
    ·have hn':(((n+1:Nat):Rat))=(n:Rat)+1:=by push_cast;rfl
     rw[hn']at hn;obtain⟨q,q1,q2,q3⟩:=ih (x+e) hm (by clear hl ih hstep;grind) (by omega) (by clear hl ih hstep;grind);exact⟨q,by clear hl ih hstep;grind,q2,q3⟩
    ·exact⟨x+e,by clear hl ih hstep;grind,by clear hl ih hstep;grind,hstep (x+e) hm (by clear hl ih hstep;grind) (by clear hl ih hstep;grind) e0⟩
 obtain⟨n,hn⟩:=YY (z:=y-x) ep;exact key n x hx hxy hv hn
theorem Qxl{p:Fw}{x:Rat}(h:M9 p x≠0):∃e:Rat,0<e/\∀y,x<y->y-x<=e->Gt (ev p y)=M9 p x:=by
 by_cases h0:Gt (ev p x)=0
 ·have hx:=Ha.1 h0;rw[dO h0]at h ⊢;have hR:0<=Gw x+1:=by have:=Tz x;grind
  obtain⟨e,e1,e2,e3⟩:=Ry (EV hR p) (L8 (x:=dv p x) λh'=>h (Ha.2 h'));refine⟨e,e1,λy h1 h2=>?_⟩;have hy:Gw y<=Gw x+1:=by
   have:=Mn x (y-x);have e:x+(y-x)=y:=by grind
   have e':Gw (y-x)=y-x:=by unfold Gw;split <;> grind
   rw[e,e']at this;grind
  have:=IY (p:=p) (by grind) hy hR h1 h2 Ql e3;rw[hx]at this;rw[<-this];congr 1;grind
 ·rw[Ix h0]at h ⊢;obtain⟨e,e1,e2⟩:=cont h;exact⟨e,e1,λy h1 h2=>e2 y (by rw[Mh];constructor <;> grind)⟩
def cq(P:Fw)(lo hi q:Rat):Int:=if q<=lo then 1 else if hi<q then -1 else if Gt (ev P q)=0 then 0 else if Gt (ev P q)=M9 P lo then 1 else -1
structure Vt(P:List Rat)(L:List (List Rat))(lo hi:Rat):Prop where
 s:WB P L
 l:lo<hi
 v:vv L lo=vv L hi+1
variable{P:Fw}{L:Fx}{lo hi:Rat}
theorem Bl{q:Rat}(h:q<=lo):cq P lo hi q=1:=by unfold cq;rw[if_pos h]
theorem QL{q:Rat}(h:lo<hi)(h':hi<q):cq P lo hi q=-1:=by unfold cq;rw[if_neg (by grind),if_pos h']
theorem Ds{q:Rat}(h1:lo<q)(h2:q<=hi):cq P lo hi q=if Gt (ev P q)=0 then 0 else if Gt (ev P q)=M9 P lo then 1 else -1:=by
 unfold cq;rw[if_neg (by grind),if_neg (by grind)]
theorem Vt.two(V:Vt P L lo hi){q:Rat}(h1:lo<q)(h2:q<=hi):vv L q=vv L lo/\cq P lo hi q=1/\Gt (ev P q)=M9 P lo\/vv L q=vv L hi/\cq P lo hi q≠1/\M9 P q=-M9 P lo/\M9 P lo≠0:=by
 have a:=Aa V.s h1;have b:vv L hi<=vv L q:=by
  rcases Classical.em (q=hi)with e|e
  ·rw[e];exact Qn _
  ·exact Aa V.s (by grind)
 have hv:=V.v;rcases(show vv L q=vv L lo\/vv L q=vv L hi by omega)with e|e
 ·have hs:=fV V.s h1 e.symm;refine .inl ⟨e,?_,hs.s⟩;rw[Ds h1 h2,hs.s,if_neg hs.n,if_pos rfl]
 ·obtain⟨o1,o2⟩:=fY V.s h1 (by omega);refine .inr ⟨e,?_,o2,o1⟩;rw[Ds h1 h2]
  split
  ·decide
  ·rename_i h0;rw[Ix h0]at o2;rw[if_neg (by omega)];decide
theorem Vt.lowlo(V:Vt P L lo hi):M9 P lo≠0:=(fY V.s V.l V.v).1
theorem Vt.eq_lo(V:Vt P L lo hi){q:Rat}(h1:lo<q)(h2:q<=hi)(h:cq P lo hi q=1):vv L q=vv L lo:=by
 rcases V.two h1 h2 with⟨e,_⟩|⟨_,e,_⟩
 ·exact e
 ·exact absurd h e
theorem Vt.eq_hi(V:Vt P L lo hi){q:Rat}(h1:lo<q)(h2:q<=hi)(h:cq P lo hi q≠1):vv L q=vv L hi:=by
 rcases V.two h1 h2 with⟨_,e,_⟩|⟨e,_⟩
 ·exact absurd e h
 ·exact e
theorem Vt.hi1(V:Vt P L lo hi):cq P lo hi hi≠1:=λh=>by have:=V.eq_lo V.l Ql h;have:=V.v;omega
theorem Vt.cut(V:Vt P L lo hi):Cut (cq P lo hi) where
 val q:=by unfold cq;split <;> (try split) <;> (try split) <;> (try split) <;> simp
 mono q r h h1:=by
  have hq:lo<q:=by
   rcases Hr q lo with e|e
   ·exact absurd (Bl e) h1
   ·exact e
  rcases Hr r hi with e|e
  ·have e1:=V.eq_hi hq (by grind) h1;rcases V.two (q:=r) (by grind) e with⟨e2,_⟩|⟨e2,_,e3,e4⟩
   ·have:=Aa V.s h;have:=V.v;omega
   ·have hs:=fV V.s h (by omega);rcases V.two hq (by grind)with⟨e5,_⟩|⟨_,_,e5,_⟩
    ·have:=V.v;omega
    ·rw[Ds (by grind) e,hs.s,if_neg hs.n,e5,if_neg (by omega)]
  ·exact QL V.l e
 up q h:=by
  rcases Hr q lo with e|e
  ·obtain⟨d,dp,hd⟩:=Qxl V.lowlo;obtain⟨f,fp,f1,f2⟩:=min2 (a:=d) (b:=hi-lo) dp (by have:=V.l;grind);have h1:lo<lo+f:=by clear hd;grind
   have h2:lo+f<=hi:=by clear hd;grind
   have:=hd (lo+f) h1 (by clear hd;grind);exact⟨lo+f,by clear hd;grind,by rw[Ds h1 h2,this,if_neg V.lowlo,if_pos rfl]⟩
  ·have hh:q<=hi:=by
    rcases Hr q hi with e'|e'
    ·exact e'
    ·have:=QL (P:=P) V.l e';omega
   rcases V.two e hh with⟨e1,_,e2⟩|⟨_,e1,_⟩
   ·have hn:q≠hi:=λh=>by rw[h]at e1;have:=V.v;omega
    obtain⟨d,dp,hd⟩:=cont (p:=P) (x:=q) (by rw[e2];exact V.lowlo);obtain⟨f,fp,f1,f2⟩:=min2 (a:=d) (b:=hi-q) dp (by clear hd;grind);have:=hd (q+f) (by rw[Mh];clear hd;constructor <;> grind);exact⟨q+f,by clear hd;grind,by rw[Ds (by clear hd;grind) (by clear hd;grind),this,e2,if_neg V.lowlo,if_pos rfl]⟩
   ·exact absurd h e1
 dn q h:=by
  have hq:lo<q:=by
   rcases Hr q lo with e|e
   ·have:=Bl (P:=P) (hi:=hi) e;omega
   ·exact e
  rcases Hr q hi with e|e
  ·rw[Ds hq e]at h
   split at h
   ·cases h
   rename_i h0
   split at h
   ·cases h
   rename_i h1;obtain⟨d,dp,hd⟩:=cont h0;obtain⟨f,fp,f1,f2⟩:=min2 (a:=d) (b:=(q-lo) / 2) dp (Em (by clear hd;grind) (by decide));have h2:(q-lo) / 2*2=q-lo:=Hu (by decide);have:=hd (q-f) (by rw[Mh];clear hd;constructor <;> grind);exact⟨q-f,by clear hd;grind,by rw[Ds (by clear hd;grind) (by clear hd;grind),this,if_neg h0,if_neg h1]⟩
  ·have h2:(q-hi) / 2*2=q-hi:=Hu (by decide);exact⟨q-(q-hi) / 2,by grind,QL V.l (by grind)⟩
 lo:=⟨lo,Bl Ql⟩
 hi:=⟨hi+1,QL V.l (by grind)⟩
theorem Vt.van(V:Vt P L lo hi):Ab P (cq P lo hi):=by
 have hc:=V.cut;rcases JR hc P with h|⟨s,hs,h⟩
 ·exact h
 ·exfalso;have e1:s=M9 P lo:=by
   obtain⟨x,hx,hx1⟩:=Qbt hc h;obtain⟨q,q1,q2,q3⟩:=SU hc hx (Bl (P:=P) (hi:=hi) (Ql (a:=lo)));have hq:q<=hi:=by
    rcases Hr q hi with e|e
    ·exact e
    ·have:=QL (P:=P) V.l e;omega
   rcases V.two q3 hq with⟨_,_,e⟩|⟨_,e,_⟩
   ·rw[<-hx1 q q1 (Qm q2),e]
   ·exact absurd q1 e
  rcases hc.val hi with e|e|e
  ·exact V.hi1 e
  ·have h0:=IH hc e h;rw[Ds V.l Ql]at e
   split at e
   ·omega
   ·split at e <;> omega
  ·obtain⟨y,hy,hy1⟩:=jC hc h;obtain⟨q,q1,q2,q3⟩:=cT hc hy e;have hq:lo<q:=hc.lt (Bl (P:=P) (hi:=hi) (Ql (a:=lo))) q1;have:=hy1 q q1 (Qm q2);rw[Ds hq (Qm q3),this,if_neg hs,if_pos e1]at q1;cases q1
def dT(w:Fw)(lo hi:Rat):Prop:=Gt (ev w hi)=0\/Gt (ev w hi)≠M9 w lo
theorem Vt.has(V:Vt P L lo hi){w u:Fw}(hf:∀t,ev P t=ev w t*ev u t){a b:Rat}(h1:lo<=a)(h2:a<b)(h3:b<=hi):dT w a b↔Ab w (cq P lo hi)/\cq P lo hi a=1/\cq P lo hi b≠1:=by
 have hc:=V.cut;have smno:vv L a=vv L b->¬dT w a b:=λh hh=>by
  have:=UU V.s hf h2 h;rcases hh with e|e
  ·rw[this.s]at e;exact this.n e
  ·exact e this.s
 by_cases ha:cq P lo hi a=1
 ·by_cases hb:cq P lo hi b=1
  ·have e1:=V.eq_lo (by grind) h3 hb;have e2:vv L a=vv L lo:=by
    rcases Classical.em (lo=a)with e|e
    ·rw[e]
    ·exact V.eq_lo (by grind) (by grind) ha
   exact⟨λh=>absurd h (smno (by omega)),λh=>absurd hb h.2.2⟩
  ·have e1:=V.eq_hi (by grind) h3 hb;have e2:vv L a=vv L lo:=by
    rcases Classical.em (lo=a)with e|e
    ·rw[e]
    ·exact V.eq_lo (by grind) (by grind) ha
   have left:∀s,LS w (cq P lo hi) s->s=M9 w a:=λs hs=>by
    obtain⟨x,hx,hx1⟩:=hs;obtain⟨q,q1,q2,q3⟩:=SU hc hx ha;have hqb:q<b:=by
     rcases Hr b q with e|e
     ·rcases Classical.em (b=q)with e'|e'
      ·rw[e']at hb;exact absurd q1 hb
      ·have:=hc.mono b q (by clear hx1 smno;grind) hb;omega
     ·exact e
    have:=V.eq_lo (q:=q) (by clear hx1 smno;grind) (by clear hx1 smno;grind) q1;rw[<-(UU V.s hf q3 (by omega)).s,hx1 q q1 (Qm q2)]
   have right:∀s,RS w (cq P lo hi) s->cq P lo hi b=-1->s=Gt (ev w b):=λs hs hb=>by
    obtain⟨y,hy,hy1⟩:=hs;obtain⟨q,q1,q2,q3⟩:=cT hc hy hb;have hqa:=hc.lt ha q1;have:=V.eq_hi (q:=q) (by clear hy1 smno;grind) (by clear hy1 smno;grind) (by omega);have hs:=UU V.s hf q3 (by omega);have hl:=hy1 q q1 (Qm q2);have h0:Gt (ev w q)≠0:=by
     have hs2:=UU V.s hf (x:=q) (y:=b) q3 (by omega);intro h0;obtain⟨r,r1,r2⟩:=hc.dn q q1;have har:=hc.lt ha r2;have:=V.eq_hi (q:=r) (by clear hy1 smno;grind) (by clear hy1 smno;grind) (by omega);have hs3:=UU V.s hf (x:=r) (y:=q) r1 (by omega);have hs4:=hs3.s;rw[h0]at hs4;exact hs3.n hs4.symm
    rw[hs.s,Ix h0,hl]
   refine⟨λh=>⟨?_,ha,hb⟩,λ⟨hw,_,_⟩=>?_⟩
   ·rcases JR hc w with e|⟨s,CY,hs⟩
    ·exact e
    ·exfalso;have l1:=left s (Qbt hc hs);have r1:Gt (ev w b)=s:=by
      rcases hc.val b with e|e|e
      ·exact absurd e hb
      ·exact IH hc e hs
      ·exact(right s (jC hc hs) e).symm
     rcases h with h|h
     ·exact CY (by rw[<-r1];exact h)
     ·exact h (by rw[r1,l1])
   ·rcases hc.val b with e|e|e
    ·exact absurd e hb
    ·exact .inl (Ha.2 (FM hc e hw))
    ·obtain⟨s,CY,hs⟩:=Qam hc V.s hf hw;have l1:=left _ (Qj1 hc hw (Qbt hc hs) CY);have r1:=right _ (uK hc hw (jC hc hs) CY) e;exact .inr (by rw[<-l1,<-r1];omega)
 ·have hla:lo<a:=by
   rcases Classical.em (lo=a)with e|e
   ·rw[<-e]at ha;exact absurd (Bl Ql) ha
   ·grind
  have hb:cq P lo hi b≠1:=by have:=hc.mono a b h2 ha;omega
  have e1:=V.eq_hi hla (by grind) ha;have e2:=V.eq_hi (q:=b) (by grind) h3 hb;exact⟨λh=>absurd h (smno (by omega)),λh=>absurd h.2.1 ha⟩
theorem tQ{c c':Rat->Int}(hc:Cut c)(hc':Cut c'){q:Rat}(h:c q≠c' q):∃r,(c r=-1/\c' r=1)\/(c r=1/\c' r=-1):=by
 rcases hc.val q with e|e|e <;> rcases hc'.val q with e'|e'|e'
 ·omega
 ·obtain⟨r,r1,r2⟩:=hc.up q e;exact⟨r,.inr ⟨r2,hc'.mono q r r1 (by omega)⟩⟩
 ·exact⟨q,.inr ⟨e,e'⟩⟩
 ·obtain⟨r,r1,r2⟩:=hc'.up q e';exact⟨r,.inl ⟨hc.mono q r r1 (by omega),r2⟩⟩
 ·omega
 ·obtain⟨r,r1,r2⟩:=hc'.dn q e';exact⟨r,.inr ⟨hc.mono' r1 (by omega),r2⟩⟩
 ·exact⟨q,.inl ⟨e,e'⟩⟩
 ·obtain⟨r,r1,r2⟩:=hc.dn q e;exact⟨r,.inl ⟨r2,hc'.mono' r1 (by omega)⟩⟩
 ·omega
theorem Vt.uniq(V:Vt P L lo hi){c:Rat->Int}(hc:Cut c)(h1:c lo=1)(h2:c hi≠1)(hv:Ab P c)(q:Rat):c q=cq P lo hi q:=by
 rcases Classical.em (c q=cq P lo hi q)with e|e
 ·exact e
 ·exfalso;obtain⟨r,⟨r1,r2⟩|⟨r1,r2⟩⟩:=tQ hc V.cut e
  ·have hl:=hc.lt h1 r1;have hh:r<=hi:=by
    rcases Hr r hi with e|e
    ·exact e
    ·have:=QL (P:=P) V.l e;omega
   have:=V.eq_lo hl hh r2;exact lX V.s (w:=P) (u:=[1]) (λt=>by rw[S9];grind) (x:=lo) (y:=r) (by omega) hc h1 (by omega) hv
  ·have hl:lo<r:=by
    rcases Hr r lo with e|e
    ·have:=Bl (P:=P) (hi:=hi) e;omega
    ·exact e
   have hh:r<=hi:=by
    rcases Hr r hi with e|e
    ·exact e
    ·have:=hc.mono hi r e h2;omega
   have:=V.eq_hi hl hh (by omega);exact lX V.s (w:=P) (u:=[1]) (λt=>by rw[S9];grind) (x:=r) (y:=hi) (by omega) hc r1 h2 hv
theorem Vt.same(V:Vt P L lo hi){P':Fw}{L':Fx}{lo' hi':Rat}(V':Vt P' L' lo' hi'){g u u' U W:Fw}{k:Rat}(hk:k≠0)(h1:∀t,ev P t=ev g t*ev u t)(h2:∀t,ev P' t=ev g t*ev u' t)(h3:∀t,k*ev g t=ev U t*ev P t+ev W t*ev P' t){a b:Rat}(ha1:lo<=a)(ha2:lo'<=a)(ha:a=lo\/a=lo')(hb1:b<=hi)(hb2:b<=hi')(hb:b=hi\/b=hi'):(a<b/\dT g a b)↔∀q,cq P lo hi q=cq P' lo' hi' q:=by
 have hc:=V.cut;have hc':=V'.cut;constructor
 ·rintro⟨hab,hg⟩
  obtain⟨g1,g2,g3⟩:=(V.has h1 ha1 hab hb1).1 hg;obtain⟨g4,g5,g6⟩:=(V'.has h2 ha2 hab hb2).1 hg;intro q;refine(V.uniq hc' (by
   rcases Classical.em (lo=a)with e|e
   ·rw[e];exact g5
   ·exact hc'.mono' (q:=lo) (r:=a) (by grind) (by omega)) (λh=>?_) (Nj hc' h1 g4) q).symm
  rcases Classical.em (b=hi)with e|e
  ·rw[<-e]at h;exact g6 h
  ·have:=hc'.mono b hi (by grind) g6;omega
 ·intro h;have hcc:cq P' lo' hi'=cq P lo hi:=funext λq=>(h q).symm
  have e1:cq P lo hi a=1:=by
   rcases ha with rfl|rfl
   ·exact Bl Ql
   ·rw[h];exact Bl Ql
  have e2:cq P lo hi b≠1:=by
   rcases hb with rfl|rfl
   ·exact V.hi1
   ·rw[h];exact V'.hi1
  have hab:a<b:=by
   rcases Hr b a with e|e
   ·rcases Classical.em (b=a)with e'|e'
    ·rw[e']at e2;exact absurd e1 e2
    ·have:=hc.mono b a (by grind) e2;omega
   ·exact e
  have v1:=V.van;have v2:=V'.van;rw[hcc]at v2;have hg:Ab g (cq P lo hi):=by
   have a1:Ab (H7 U P) (cq P lo hi):=Nj hc (p:=P) (q:=U) (λt=>by rw[Gj];grind) v1;have a2:Ab (H7 W P') (cq P lo hi):=Nj hc (p:=P') (q:=W) (λt=>by rw[Gj];grind) v2;have a3:=DV (λt=>Hm t _ _) a1 a2;refine WH hc (k:=1 / k) (λt=>?_) a3;rw[Hm,Gj,Gj,<-h3];have:1 / k*(k*ev g t)=1 / k*k*ev g t:=by grind
   rw[this,show 1 / k*k=1 from Zc hk];grind
  exact⟨hab,(V.has h1 ha1 hab hb1).2 ⟨hg,e1,e2⟩⟩
end Orq
namespace Orq
theorem Qkt:∀(M:Nat) (f:Nat->Nat),(∀i,i<=M->f i<M)->∃i j,i<j/\j<=M/\f i=f j
 | 0,f,h=>absurd (h 0 (Qn _)) (Xe _)
 |
  M+1,f,h=>by
  rcases Classical.em (∃i,i<=M/\f i=f (M+1))with⟨i,h1,h2⟩|hn
  ·exact⟨i,M+1,by omega,Qn _,h2⟩
  ·have hne:∀i,i<=M->f i≠f (M+1):=λi hi e=>hn ⟨i,hi,e⟩
   obtain⟨i,j,h1,h2,h3⟩:=Qkt M (λi=>if f i=M then f (M+1)else f i) λi hi=>by
    have a1:=h i (by omega);have a2:=h (M+1) (Qn _);have a3:=hne i hi;show(if f i=M then f (M+1)else f i)<M
    split <;> omega
   refine⟨i,j,h1,by omega,?_⟩;have a1:=hne i (by omega);have a2:=hne j h2
   split at h3 <;> split at h3 <;> omega
def dg(B k i:Nat):Nat:=k / B^i % B
theorem Qak(B k i:Nat):dg B k (i+1)=dg B (k / B) i:=by unfold dg;rw[Nat.pow_succ,Nat.mul_comm,Nat.div_div_eq_div_mul]
theorem Qia{B:Nat}:∀(N:Nat) {k k':Nat},k<B^N->k'<B^N->(∀i,i<N->dg B k i=dg B k' i)->k=k'
 | 0,k,k',h,h',_=>by rw[Ve]at h h';omega
 |
  N+1,k,k',h,h',he=>by
  have h0:=he 0 (by omega);unfold dg at h0;rw[Ve,Nat.div_one,Nat.div_one]at h0;have hB:0<B:=by
   rcases Qx B with e|e
   ·rw[e,Zq,Vo]at h;omega
   ·exact e
  have h1:=Qia N (k:=k / B) (k':=k' / B) (Jw (by rw[Zo,<-Zq];exact h)) (Jw (by rw[Zo,<-Zq];exact h')) λi hi=>by
   rw[<-Qak,<-Qak];exact he (i+1) (by omega)
  rw[<-U6 k B,<-U6 k' B,h0,h1]
def cd(B:Nat):Nat->(Nat->Nat)->Nat
 | 0,_=>0
 |E+1,x=>x 0+B*cd B E λe=>x (e+1)
theorem Qsf{B:Nat}:∀(E:Nat) {x:Nat->Nat},(∀e,e<E->x e<B)->cd B E x<B^E
 | 0,_,_=>by simp[cd]
 |
  E+1,x,h=>by
  have h1:=h 0 (by omega);have h2:=Qsf E (x:=λe=>x (e+1)) λe he=>h (e+1) (by omega)
  simp only[cd];have h3:B*cd B E (λe=>x (e+1))+B<=B*B^E:=by
   rw[<-Wl];exact Zl _ h2
  rw[Zq,Zo (B^E)];omega
theorem Qhx{B:Nat}:∀(E:Nat) {x y:Nat->Nat},(∀e,e<E->x e<B)->(∀e,e<E->y e<B)->cd B E x=cd B E y->∀e,e<E->x e=y e
 | 0,_,_,_,_,_,e,he=>by omega
 |
  E+1,x,y,hx,hy,h,e,he=>by
  have h1:=hx 0 (by omega);have h2:=hy 0 (by omega);simp only[cd]at h;have e0:x 0=y 0:=by
   have:=congrArg (· % B) h;simp only[Wc]at this;rwa[Xf h1,Xf h2]at this
  have e1:cd B E (λe=>x (e+1))=cd B E (λe=>y (e+1)):=Nat.eq_of_mul_eq_mul_left (by omega:0<B) (by omega);cases e with
  |zero=>exact e0
  |succ e=>exact Qhx E (λe he=>hx (e+1) (by omega)) (λe he=>hy (e+1) (by omega)) e1 e (by omega)
def sm:Nat->(Nat->Int)->Int
 | 0,_=>0
 |n+1,f=>sm n f+f n
theorem Qmd(f g:Nat->Int):∀n,sm n (λi=>f i-g i)=sm n f-sm n g
 | 0=>rfl
 |n+1=>by simp only[sm,Qmd f g n];omega
theorem E8{f g:Nat->Int}:∀n,(∀i,i<n->f i=g i)->sm n f=sm n g
 | 0,_=>rfl
 |n+1,h=>by simp only[sm,E8 n (λi hi=>h i (by omega)),h n (by omega)]
theorem Qmc{f:Nat->Int}{b:Nat}:∀n,(∀i,i<n->(f i).natAbs<=b)->(sm n f).natAbs<=n*b
 | 0,_=>by simp[sm]
 |
  n+1,h=>by
  have h1:=Qmc n λi hi=>h i (by omega)
  have h2:=h n (by omega);simp only[sm];rw[Xq];omega
theorem WJ{f:Nat->Int}:∀n,(∀i,i<n->f i=0)->sm n f=0
 | 0,_=>rfl
 |n+1,h=>by simp only[sm,WJ n (λi hi=>h i (by omega)),h n (by omega)];rfl
theorem aK(f:Nat->Int)(m:Nat):∀n,sm (m+n) f=sm m f+sm n λi=>f (m+i)
 | 0=>by simp[sm]
 |n+1=>by rw[<-Vg];simp only[sm,aK f m n];omega
theorem aU(f:Nat->Int)(J:Nat):∀b,sm (b*J) f=sm b λi=>sm J λj=>f (i*J+j)
 | 0=>by simp[sm]
 |b+1=>by rw[Xq,aK,aU f J b];rfl
theorem OG{f:Nat->Int}{k:Nat}:∀n,k<n->(∀i,i<n->i≠k->f i=0)->sm n f=f k
 | 0,h,_=>by omega
 |
  n+1,h,h1=>by
  simp only[sm];rcases V9 (Nat.le_of_lt_succ h)with e|e
  ·rw[OG n e λi hi=>h1 i (by omega),h1 n (by omega) (by omega)];omega
  ·subst e;rw[WJ k λi hi=>h1 i (by omega) (by omega)];omega
theorem Qvt{M:Nat->Nat->Int}{h N E H:Nat}(hM:∀e i,(M e i).natAbs<=h)(hc:(2*(N*(h*H))+1)^E<(H+1)^N) :
 ∃v:Nat->Int,(∀i,(v i).natAbs<=H)/\(∃i,i<N/\v i≠0)/\∀e,e<E->sm N (λi=>M e i*v i)=0:=by
 obtain⟨T,hT⟩:=nmE (N*(h*H));rw[<-hT]at hc;have hv:∀k i,dg (H+1) k i<=H:=λk i=>Nat.le_of_lt_succ (Xp _ (by omega))
 have hs:∀k e,(sm N λi=>M e i*(dg (H+1) k i:Int)).natAbs<=T:=λk e=>by
  rw[hT];refine Qmc N λi _=>?_
  rw[Yd,Zw];exact Xl (hM e i) (hv k i)
 have him:∀k e,((sm N λi=>M e i*(dg (H+1) k i:Int))+T).toNat<2*T+1:=λk e=>by have:=hs k e;omega
 obtain⟨i,j,h1,h2,h3⟩:=Qkt ((2*T+1)^E) (λk=>cd (2*T+1) E λe=>((sm N λi=>M e i*(dg (H+1) k i:Int))+T).toNat) λk _=>Qsf E λe _=>him k e
 have h4:=Qhx E (λe _=>him i e) (λe _=>him j e) h3;refine⟨λn=>(dg (H+1) i n:Int)-dg (H+1) j n,λn=>?_,?_,λe he=>?_⟩
 ·have a1:=hv i n;have a2:=hv j n;show((dg (H+1) i n:Int)-dg (H+1) j n).natAbs<=H;omega
 ·rcases Classical.em (∃n,n<N/\(dg (H+1) i n:Int)-dg (H+1) j n≠0)with e|e
  ·exact e
  ·exfalso;have:i=j:=Qia (B:=H+1) N (by omega) (by omega) λn hn=>by
    rcases Classical.em (dg (H+1) i n=dg (H+1) j n)with e'|e'
    ·exact e'
    ·exact absurd ⟨n,hn,by omega⟩ e
   omega
 ·have a1:=h4 e he;have a2:=hs i e;have a3:=hs j e;have:(sm N λn=>M e n*(dg (H+1) i n:Int))=sm N λn=>M e n*(dg (H+1) j n:Int):=by omega
  have e1:=Qmd (λn=>M e n*(dg (H+1) i n:Int)) (λn=>M e n*(dg (H+1) j n:Int)) N;rw[this]at e1;rw[E8 N (g:=λn=>M e n*(dg (H+1) i n:Int)-M e n*(dg (H+1) j n:Int)) λn _=>Int.mul_sub _ _ _,e1];omega
def Gf:Ft->Rat->Rat
 | [],_=>0
 |a::p,t=>(a:Rat)+t*Gf p t
def sq:Nat->(Nat->Rat)->Rat
 | 0,_=>0
 |n+1,f=>sq n f+f n
theorem Np{f g:Nat->Rat}:∀n,(∀i,i<n->f i=g i)->sq n f=sq n g
 | 0,_=>rfl
 |n+1,h=>by simp only[sq,Np n (λi hi=>h i (by omega)),h n (by omega)]
theorem aG(f g:Nat->Rat):∀n,sq n (λi=>f i+g i)=sq n f+sq n g
 | 0=>by simp only[sq];grind
 |n+1=>by simp only[sq,aG f g n];grind
theorem VD(c:Rat)(f:Nat->Rat):∀n,sq n (λi=>c*f i)=c*sq n f
 | 0=>by simp only[sq];grind
 |n+1=>by simp only[sq,VD c f n];grind
theorem Ec{f:Nat->Rat}:∀n,(∀i,i<n->f i=0)->sq n f=0
 | 0,_=>rfl
 |n+1,h=>by simp only[sq,Ec n (λi hi=>h i (by omega)),h n (by omega)];grind
theorem XY(f:Nat->Rat):∀n,sq (n+1) f=f 0+sq n λi=>f (i+1)
 | 0=>by simp only[sq];grind
 |n+1=>by rw[sq,XY f n];simp only[sq];grind
theorem Qs2{f:Nat->Rat}{b:Rat}:∀n,(∀i,i<n->Gw (f i)<=b)->Gw (sq n f)<=(n:Rat)*b
 | 0,_=>by rw[show((0:Nat):Rat)=0 from rfl];simp only[sq,Sy];grind
 |
  n+1,h=>by
  have h1:=Qs2 n λi hi=>h i (by omega)
  have h2:=h n (by omega);have h3:=Mn (sq n f) (f n);have hn':(((n+1:Nat):Rat))=(n:Rat)+1:=by push_cast;rfl
  rw[hn'];simp only[sq];clear h;grind
def gc:Ft->Nat->Nat->Int
 | [],_,_=>0
 |c::B,k,j=>(if k=0/\j=0 then c else 0)+(if k=0 then 0 else gc B (k-1) j)-(if j=0 then 0 else gc B k (j-1))
def gB:Ft->Nat
 | []=>0
 |c::B=>max c.natAbs (2*gB B)
theorem CX:∀(B:Ft) (k j:Nat),B.length<=k+j->gc B k j=0
 | [],_,_,_=>rfl
 |
  c::B,k,j,h=>by
  simp only[Zf]at h;simp only[gc];rw[if_neg (by omega)];have e1:(if k=0 then 0 else gc B (k-1) j)=0:=by
   split
   ·rfl
   ·exact CX B _ _ (by omega)
  have e2:(if j=0 then 0 else gc B k (j-1))=0:=by
   split
   ·rfl
   ·exact CX B _ _ (by omega)
  rw[e1,e2];rfl
theorem Qi1:∀(B:Ft) (k j:Nat),(gc B k j).natAbs<=gB B
 | [],_,_=>Qh _
 |
  c::B,k,j=>by
  have h1:=Qi1 B (k-1) j;have h2:=Qi1 B k (j-1);simp only[gc,gB];by_cases hk:k=0 <;> by_cases hj:j=0 <;> simp only[hk,hj,true_and,and_true,false_and,and_false,if_true,if_false] <;> (try subst hk) <;> (try subst hj) <;> omega
theorem Qi2:∀(B:Ft) (b:Nat),B.length=b+1->(gc B 0 b).natAbs=(B.getD b 0).natAbs
 | [],_,h=>by simp at h
 | [c],0,_=>by simp[gc]
 |c::d::B,0,h=>by simp at h
 |
  c::B,b+1,h=>by
  have ih:=Qi2 B b (by simpa using h);simp only[gc];simp only[Ym,Q0];rw[if_pos trivial,if_neg (Nat.succ_ne_zero b),<-ih];omega
def E2(F:Nat->Nat->Int)(K J:Nat)(x y:Rat):Rat:=sq K λk=>sq J λj=>(F k j:Rat)*(y^k*x^j)
theorem cE(F G:Nat->Nat->Int)(K J:Nat)(x y:Rat):E2 (λk j=>F k j+G k j) K J x y=E2 F K J x y+E2 G K J x y:=by
 unfold E2;rw[<-aG];refine Np K λk _=>?_
 rw[<-aG];exact Np J λj _=>by push_cast;grind
theorem Qij(c:Int)(F:Nat->Nat->Int)(K J:Nat)(x y:Rat):E2 (λk j=>F k j*c) K J x y=(c:Rat)*E2 F K J x y:=by
 unfold E2;rw[<-VD];refine Np K λk _=>?_
 rw[<-VD];exact Np J λj _=>by push_cast;grind
theorem Qik(φ:Nat->Nat->Nat->Int)(v:Nat->Int)(K J:Nat)(x y:Rat):∀N,E2 (λk j=>sm N λn=>φ n k j*v n) K J x y=sq N λn=>(v n:Rat)*E2 (φ n) K J x y
 |
  0=>by
  simp only[sq,sm];unfold E2;refine Ec K λk _=>Ec J λj _=>?_
  rw[show((0:Int):Rat)=0 from rfl];grind
 |
  N+1=>by
  simp only[sq];rw[<-Qik φ v K J x y N,<-Qij,<-cE];rfl
theorem RF(t:Rat)(i:Nat):∀k,t^(i+k)=t^i*t^k
 | 0=>by rw[Jh,Xu];grind
 |k+1=>by rw[<-Vg,Xk,Xk,RF t i k];grind
theorem OR(f:Nat->Rat):∀(i n:Nat),sq (i+n) (λk=>if i<=k then f (k-i)else 0)=sq n f
 |i,0=>Ec _ λk hk=>by rw[if_neg (by omega)]
 |
  i,n+1=>by
  rw[<-Vg];simp only[sq];rw[OR f i n,if_pos (by omega),J9]
def BS(i j':Nat)(F:Nat->Nat->Int)(k j:Nat):Int:=if i<=k then(if j'<=j then F (k-i) (j-j')else 0)else 0
theorem EN(F:Nat->Nat->Int)(i j' K J:Nat)(x y:Rat):E2 (BS i j' F) (i+K) (j'+J) x y=y^i*x^j'*E2 F K J x y:=by
 unfold E2;rw[<-VD,<-OR _ i K];refine Np _ λk _=>?_
 by_cases hk:i<=k
 ·rw[if_pos hk,<-VD,<-OR _ j' J];refine Np _ λj _=>?_
  unfold BS;rw[if_pos hk];by_cases hj:j'<=j
  ·rw[if_pos hj,if_pos hj];have e1:y^k=y^i*y^(k-i):=by rw[<-RF];congr 1;omega
   have e2:x^j=x^j'*x^(j-j'):=by rw[<-RF];congr 1;omega
   rw[e1,e2];grind
  ·rw[if_neg hj,if_neg hj,show((0:Int):Rat)=0 from rfl];grind
 ·rw[if_neg hk];refine Ec _ λj _=>?_
  unfold BS;rw[if_neg hk,show((0:Int):Rat)=0 from rfl];grind
def fA(A:Ft)(k j:Nat):Int:=if j=0 then A.getD k 0 else 0
theorem Qks(y:Rat):∀(A:Ft) (K:Nat),A.length<=K->sq K (λk=>((A.getD k 0:Int):Rat)*y^k)=Gf A y
 | [],K,_=>by rw[Ec];rfl;intro i _;simp
 |a::A,0,h=>by simp at h
 |
  a::A,K+1,h=>by
  have ih:=Qks y A K (by simpa using h);rw[XY];simp only[Gf,Zr,Q0,Xu];rw[<-ih,<-VD];have:(sq K λi=>((A.getD i 0:Int):Rat)*y^(i+1))=sq K λi=>y*(((A.getD i 0:Int):Rat)*y^i):=Np K λi _=>by rw[Xk];grind
  rw[this];grind
theorem Qxh(A:Ft)(K J:Nat)(x y:Rat)(h:A.length<=K):E2 (fA A) K (J+1) x y=Gf A y:=by
 rw[<-Qks y A K h];refine Np K λk _=>?_
 rw[XY,Ec]
 ·simp only[fA,if_true,Xu];grind
 ·intro j _;simp only[fA];rw[if_neg (by omega),show((0:Int):Rat)=0 from rfl];grind
theorem Qud(x y:Rat):∀(B:Ft) (K J:Nat),B.length<=K->B.length<=J->E2 (gc B) K J x y=Gf B (y-x)
 |
  [],K,J,_,_=>by
  unfold E2;simp only[gc,Gf];exact Ec K λk _=>Ec J λj _=>by rw[show((0:Int):Rat)=0 from rfl];grind
 |c::B,0,J,h,_=>by simp at h
 |c::B,K+1,0,_,h=>by simp at h
 |
  c::B,K+1,J+1,h1,h2=>by
  have i1:=Qud x y B K (J+1) (by simpa using h1) (by simp at h2;omega);have i2:=Qud x y B (K+1) J (by simp at h1;omega) (by simpa using h2);have s1:=EN (gc B) 1 0 K (J+1) x y;have s2:=EN (gc B) 0 1 (K+1) J x y;rw[Xd,Yl 1 K]at s1;rw[Xd,Yl 1 J]at s2;rw[i1]at s1;rw[i2]at s2;have e0:E2 (fA [c]) (K+1) (J+1) x y=(c:Rat):=by rw[Qxh [c] (K+1) J x y (by simp)];simp only[Gf];grind
  have e1:gc (c::B)=λk j=>(fA [c] k j+BS 1 0 (gc B) k j)+BS 0 1 (gc B) k j*(-1):=by
   funext k j;simp only[gc,fA,BS];by_cases hk:k=0 <;> by_cases hj:j=0
   ·subst hk;subst hj;simp
   ·subst hk;simp[hj,show 1<=j by omega]
    try omega
   ·subst hj;obtain⟨m,rfl⟩:∃m,k=m+1:=⟨k-1,by omega⟩;simp
   ·obtain⟨m,rfl⟩:∃m,k=m+1:=⟨k-1,by omega⟩;obtain⟨i,rfl⟩:∃i,j=i+1:=⟨j-1,by omega⟩;simp;omega
  rw[e1,cE (λk j=>fA [c] k j+BS 1 0 (gc B) k j) (λk j=>BS 0 1 (gc B) k j*(-1)),cE (fA [c]) (BS 1 0 (gc B)),Qij,e0,s1,s2];simp only[Gf,Xu,show y^1=y by rw[Xk,Xu];grind,show x^1=x by rw[Xk,Xu];grind];rw[show(((-1:Int)):Rat)=-1 from rfl];grind
def qF(A B:Ft)(b J J' n k j:Nat):Int:=if n<b*J then BS (n / J) (n % J) (fA A) k j else BS ((n-b*J) / J') ((n-b*J) % J') (gc B) k j
theorem Ql5{F:Nat->Nat->Int}{h:Nat}(hF:∀k j,(F k j).natAbs<=h)(i j' k j:Nat):(BS i j' F k j).natAbs<=h:=by
 unfold BS;split
 ·split
  ·exact hF _ _
  ·exact Qh _
 ·exact Qh _
theorem Qsq{i b J j:Nat}(hi:i<b)(hj:j<J):i*J+j<b*J:=by
 have:(i+1)*J<=b*J:=Qy J hi;rw[Xq]at this;omega
theorem PR{i J j:Nat}(hj:j<J):(i*J+j) / J=i/\(i*J+j) % J=j:=by
 rw[Zo,U7 (by omega),U8,Kt hj,Xf hj];exact⟨by omega,rfl⟩
theorem yJ(A B:Ft)(a b J J':Nat)(v:Nat->Int)(k j:Nat):sm (b*J+a*J') (λn=>qF A B b J J' n k j*v n) =
 (sm b λi=>sm J λj1=>BS i j1 (fA A) k j*v (i*J+j1))+sm a λi=>sm J' λj1=>BS i j1 (gc B) k j*v (b*J+(i*J'+j1)):=by
 rw[aK,aU,aU];congr 1
 ·refine E8 b λi hi=>E8 J λj1 hj=>?_
  unfold qF;rw[if_pos (Qsq hi hj),(PR hj).1,(PR hj).2]
 ·refine E8 a λi hi=>E8 J' λj1 hj=>?_
  unfold qF;rw[if_neg (by omega),J9,(PR hj).1,(PR hj).2]
theorem Qxa(A:Ft)(v:Nat->Int){i J k j:Nat}(hj:j<J):(sm J λj1=>BS i j1 (fA A) k j*v (i*J+j1))=if i<=k then A.getD (k-i) 0*v (i*J+j)else 0:=by
 rw[OG (k:=j) J hj λj1 _ hne=>?_]
 ·unfold BS fA;by_cases h:i<=k
  ·rw[if_pos h,if_pos h,if_pos (Qn _),if_pos (J4 _)]
  ·rw[if_neg h,if_neg h,Yy]
 ·unfold BS fA;by_cases h:i<=k
  ·rw[if_pos h];by_cases h':j1<=j
   ·rw[if_pos h',if_neg (by omega),Yy]
   ·rw[if_neg h',Yy]
  ·rw[if_neg h,Yy]
section
variable{A B:Ft}{a b J J':Nat}(hA:A.length=a+1)(hB:B.length=b+1)(lA:A.getD a 0≠0)(lB:B.getD b 0≠0)(hJ:J=J'+b){v:Nat->Int}(hW:∀k j,k<a+b->j<J->sm (b*J+a*J') (λn=>qF A B b J J' n k j*v n)=0)
include hA lA hW in
theorem Qsh{jj:Nat}(hj:jj<J)(hV:∀k,a<=k->k<a+b->(sm a λi=>sm J' λj1=>BS i j1 (gc B) k jj*v (b*J+(i*J'+j1)))=0):∀d i,i<b->b-i<=d->v (i*J+jj)=0:=by
 intro d
 induction d with
 |zero=>intro i hi hd;omega
 |
  succ d ih =>
  intro i hi hd;have h1:=hW (i+a) jj (by omega) hj;rw[yJ,hV (i+a) (by omega) (by omega)]at h1;rw[E8 b (λi' hi'=>Qxa A v hj)]at h1;rw[OG (k:=i) b hi λi' hi' hne=>?_]at h1
  ·rw[if_pos (by omega),J9,Int.add_zero]at h1;rcases Yj.1 h1 with h2|h2
   ·exact absurd h2 lA
   ·exact h2
  ·rcases Q8 i i' with h|h
   ·rw[ih i' hi' (by omega)];simp
   ·rw[if_pos (by omega),Qc,Qt (by omega)];simp
include hA hB lA lB hJ hW in
theorem Qxf:∀d js,js<J'->J'-js<=d->∀i,i<a->v (b*J+(i*J'+js))=0:=by
 intro d
 induction d with
 |zero=>intro js hi hd;omega
 |
  succ d ih =>
  intro js hjs hd i hi;have hin:∀i' k,i'<a->(sm J' λj1=>BS i' j1 (gc B) k (js+b)*v (b*J+(i'*J'+j1)))=if i'=k then gc B 0 b*v (b*J+(i'*J'+js))else 0:=λi' k hi'=>by
   rw[OG (k:=js) J' hjs λj1 hj1 hne=>?_]
   ·unfold BS;by_cases h:i'<=k
    ·rw[if_pos h,if_pos (by omega),J9];by_cases h':i'=k
     ·rw[if_pos h',h',J4]
     ·rw[if_neg h',CX B _ _ (by omega),Yy]
    ·rw[if_neg h,if_neg (by omega),Yy]
   ·rcases Q8 js j1 with h|h
    ·rw[ih j1 hj1 (by omega) i' hi',Kk]
    ·unfold BS;by_cases h':i'<=k
     ·rw[if_pos h',if_pos (by omega),CX B _ _ (by omega),Yy]
     ·rw[if_neg h',Yy]
  have hU:=Qsh hA lA hW (jj:=js+b) (by omega) (λk hk hk'=>WJ a λi' hi'=>by rw[hin i' k hi',if_neg (by omega)]) (b+1);have h1:=hW i (js+b) (by omega) (by omega);rw[yJ,E8 a (λi' hi'=>hin i' i hi')]at h1;rw[WJ b λi' hi'=>by
   rw[Qxa A v (by omega),hU i' hi' (by omega)];simp]at h1
  rw[OG (k:=i) a hi λi' hi' hne=>if_neg hne,if_pos rfl,Int.zero_add]at h1;rcases Yj.1 h1 with h2|h2
  ·have:=Qi2 B b hB;rw[h2]at this;omega
  ·exact h2
include hA hB lA lB hJ hW in
theorem Qfz:∀n,n<b*J+a*J'->v n=0:=by
 intro n hn;have hV:=Qxf hA hB lA lB hJ hW;rcases Q8 n (b*J)with h|h
 ·have hJp:0<J:=by
   rcases Qx J with e|e
   ·rw[e,Vo]at h;omega
   ·exact e
  have e1:=Xp n hJp;have e2:n / J<b:=Jw (by rw[Zo];exact h);have:=Qsh hA lA hW e1 (λk _ _=>WJ a λi hi=>WJ J' λj1 hj1=>by rw[hV J' j1 hj1 (by omega) i hi,Kk]) (b+1) (n / J) e2 (Qe (Nat.sub_le _ _) (Nat.le_succ _));rwa[Zo,Xx]at this
 ·have hJp:0<J':=by
   rcases Qx J' with e|e
   ·rw[e,Vo]at hn;omega
   ·exact e
  have e1:=Xp (n-b*J) hJp;have e2:(n-b*J) / J'<a:=Jw (by rw[Zo J' a];omega);have:=hV J' _ e1 (by omega) _ e2;rw[Zo ((n-b*J) / J'),Xx]at this;rwa[show b*J+(n-b*J)=n by omega]at this
end
theorem WQ{R x:Rat}(h1:1<=R)(hx:Gw x<=R):∀k:Nat,Gw (x^k)<=R^k/\1<=R^k
 | 0=>by rw[Xu,Xu];exact⟨by decide,by decide⟩
 |
  k+1=>by
  obtain⟨i1,i2⟩:=WQ h1 hx k;rw[Xk,Xk];have:=Ni (a:=1) (c:=1) (by decide) i2 (by decide) h1;exact⟨Rq i1 hx,by grind⟩
theorem Qcj{R:Rat}(h1:1<=R){i:Nat}:∀k,i<=k->R^i<=R^k
 | 0,h=>by rw[show i=0 by omega];exact Ql
 |
  k+1,h=>by
  rcases V9 h with e|e
  ·have:=Qcj h1 (i:=i) k (by omega);have h2:=(WQ h1 (x:=0) (by rw[Sy];grind) k).2;rw[Xk];have:=Ni (a:=R^k) (b:=R^k) (c:=1) (d:=R) (by grind) Ql (by decide) h1;grind
  ·rw[e];exact Ql
theorem Ql4{F:Nat->Nat->Int}{i j' K J:Nat}{x y R X:Rat}{K2 J2:Nat}(h1:1<=R)(hx:Gw x<=R)(hy:Gw y<=R)(hK:K=i+K2)(hJ:J=j'+J2)(hF:E2 F K2 J2 x y=X):Gw (E2 (BS i j' F) K J x y)<=R^(K+J)*Gw X:=by
 subst hK;subst hJ;rw[EN,hF,Ay];have a1:=(WQ h1 hy i).1;have a2:=(WQ h1 hx j').1;have a3:=Rq a1 a2;rw[<-RF]at a3;have a4:=Qcj h1 (i:=i+j') (i+K2+(j'+J2)) (by omega);exact Ni (Tz _) (Zi a3 a4) (Tz _) Ql
theorem Qvq{A B:Ft}{a b h:Nat}(hA:A.length=a+1)(hB:B.length=b+1)(lA:A.getD a 0≠0)(lB:B.getD b 0≠0)(ha:0<a)(hb:0<b)(h0:1<=h)(bA:∀k,(A.getD k 0).natAbs<=h)(bB:gB B<=h){J J' N H:Nat}(hJ:J=2*(a*b))(hJ':J=J'+b)(hN:N=b*J+a*J')(hH:H=(2*(N*h))^(2*(a+b-1))) :
 ∃w:Nat->Int,(∃j,j<J/\w j≠0)/\(∀j,(w j).natAbs<=N*(h*H))/\∀R:Rat,1<=R->∃C:Rat,0<=C/\∀x y,Gw x<=R->Gw y<=R->Gw (sq J λj=>(w j:Rat)*x^j)<=C*(Gw (Gf A y)+Gw (Gf B (y-x))):=by
 have hab:0<a*b:=Y3 ha hb;have hbd:∀n k j,(qF A B b J J' n k j).natAbs<=h:=λn k j=>by
  unfold qF
  split
  ·exact Ql5 (λk j=>by unfold fA;split;exact bA k;exact Nat.zero_le _) _ _ _ _
  ·exact Ql5 (λk j=>Qe (Qi1 B k j) bB) _ _ _ _
 have hJp:0<J:=by omega
 have hNp:1<=N:=by
  have:0<b*J:=Y3 hb hJp;omega
 have hNh:1<=N*h:=Y3 hNp h0;obtain⟨E,hE⟩:=nmE ((a+b-1)*J);have hNE:N=E+a*b:=by
  have e1:(a+b-1)*J+J=(a+b)*J:=by
   rw[<-Xq];congr 1;omega
  have e2:a*J=a*J'+a*b:=by rw[hJ',Jg]
  rw[Yf]at e1;omega
 have hc:(2*(N*(h*H))+1)^E<(H+1)^N:=by
  have c1:2*(N*(h*H))+1<=2*(N*h)*(H+1):=by
   rw[Jg,Y0,Xy 2,Xy N];omega
  refine Xj (Uf c1 E) ?_;rw[Nat.mul_pow,hNE,Xs,Zo];refine Nat.mul_lt_mul_of_pos_left ?_ (Zy (by omega));have e1:(2*(N*h))^E=H^(a*b):=by
   rw[hH,<-Fe,hE,hJ];congr 1;rw[Zo 2 (a+b-1),Xy]
  rw[<-hNE,e1];exact Nat.pow_lt_pow_left (by omega) (by omega)
 obtain⟨v,v1,⟨n0,n1,n2⟩,v3⟩:=Qvt (M:=λe n=>qF A B b J J' n (e / J+1) (e % J)) (h:=h) (N:=N) (E:=E) (H:=H) (λe n=>hbd n _ _) hc;have hW:∀k j,1<=k->k<a+b->j<J->sm N (λn=>qF A B b J J' n k j*v n)=0:=λk j k1 k2 hj=>by
  have:=v3 ((k-1)*J+j) (by rw[hE];exact Qsq (by omega) hj);rwa[(PR hj).1,(PR hj).2,show k-1+1=k by omega]at this
 refine⟨λj=>sm N λn=>qF A B b J J' n 0 j*v n,?_,λj=>?_,λR hR=>?_⟩
 ·rcases Classical.em (∃j,j<J/\(sm N λn=>qF A B b J J' n 0 j*v n)≠0)with e|e
  ·exact e
  ·exfalso;refine n2 (Qfz hA hB lA lB hJ' (v:=v) (λk j hk hj=>?_) n0 (by rw[<-hN];exact n1));rw[<-hN];rcases Qx k with e'|e'
   ·subst e';rcases Classical.em ((sm N λn=>qF A B b J J' n 0 j*v n)=0)with e2|e2
    ·exact e2
    ·exact absurd ⟨j,hj,e2⟩ e
   ·exact hW k j e' hk hj
 ·refine Qmc N λn _=>?_
  rw[Yd];exact Xl (hbd n 0 j) (v1 n)
 ·have hRp:∀k:Nat,1<=R^k:=λk=>(WQ hR (x:=0) (by rw[Sy];grind) k).2
  have hHn:(0:Rat)<=(H:Rat):=Xt;have hNn:(0:Rat)<=(N:Rat):=Xt;refine⟨(N:Rat)*((H:Rat)*R^(a+b+J)),Cu hNn (Cu hHn (by have:=hRp (a+b+J);grind)),λx y hx hy=>?_⟩;have e1:(sq J λj=>((sm N λn=>qF A B b J J' n 0 j*v n:Int):Rat)*x^j)=E2 (λk j=>sm N λn=>qF A B b J J' n k j*v n) (a+b) J x y:=by
   unfold E2;obtain⟨m,hm⟩:∃m,a+b=m+1:=⟨a+b-1,by omega⟩;rw[hm,XY,Ec (n:=m)]
   ·have:(sq J λj=>((sm N λn=>qF A B b J J' n 0 j*v n:Int):Rat)*(y^0*x^j))=sq J λj=>((sm N λn=>qF A B b J J' n 0 j*v n:Int):Rat)*x^j:=Np J λj _=>by rw[Xu];grind
    rw[this];grind
   ·intro k hk;refine Ec J λj hj=>?_
    show((sm N λn=>qF A B b J J' n (k+1) j*v n:Int):Rat)*_=0;rw[hW (k+1) j (by omega) (by omega) hj,show((0:Int):Rat)=0 from rfl];grind
  rw[e1,Qik];have key:∀n,n<N->Gw ((v n:Rat)*E2 (qF A B b J J' n) (a+b) J x y)<=(H:Rat)*(R^(a+b+J)*(Gw (Gf A y)+Gw (Gf B (y-x)))):=λn hn=>by
   have hvn:Gw (v n:Rat)<=(H:Rat):=by
    have h1:=v1 n;have h2:(v n)<=(H:Int):=by omega
    have h3:-(H:Int)<=v n:=by omega
    have h2:=Jy.2 h2;have h3:=Jy.2 h3;rw[Ka]at h3;rw[Mh];exact⟨h3,h2⟩
   refine Rq hvn ?_;have hRk:=hRp (a+b+J);have n1:=Tz (Gf A y);have n2:=Tz (Gf B (y-x));rcases Q8 n (b*J)with h|h
   ·have e:qF A B b J J' n=BS (n / J) (n % J) (fA A):=by funext k j;unfold qF;rw[if_pos h]
    have d1:n / J<b:=Jw (by rw[Zo];exact h);have d2:=Xp n hJp;rw[e];refine Zi (Ql4 (K2:=a+b-n / J) (J2:=J-n % J) hR hx hy (by omega) (by omega) (X:=Gf A y) ?_) (Ni (by grind) Ql n1 (by grind));obtain⟨m,hm⟩:∃m,J-n % J=m+1:=⟨J-n % J-1,by omega⟩;rw[hm];exact Qxh A _ _ x y (by omega)
   ·have e:qF A B b J J' n=BS ((n-b*J) / J') ((n-b*J) % J') (gc B):=by funext k j;unfold qF;rw[if_neg (by omega)]
    have hJp':0<J':=by
     rcases Qx J' with e|e
     ·rw[e,Vo]at hN;omega
     ·exact e
    have d1:(n-b*J) / J'<a:=Jw (by rw[Zo J' a];omega);have d2:=Xp (n-b*J) hJp';rw[e];refine Zi (Ql4 (K2:=a+b-(n-b*J) / J') (J2:=J-(n-b*J) % J') hR hx hy (by omega) (by omega) (X:=Gf B (y-x)) ?_) (Ni (by grind) Ql n2 (by grind));exact Qud x y B _ _ (by omega) (by omega)
  have:=Qs2 N key;refine Zi this ?_;have:(N:Rat)*((H:Rat)*(R^(a+b+J)*(Gw (Gf A y)+Gw (Gf B (y-x)))))=(N:Rat)*((H:Rat)*R^(a+b+J))*(Gw (Gf A y)+Gw (Gf B (y-x))):=by grind
  rw[this];exact Ql
end Orq
namespace Orq
theorem Qmg{w:Nat->Int}{x:Rat}{D:Rat}(hx:Gw x*2<=1)(hw:∀j,Gw (w j:Rat)<=D):∀J (k:Nat),Gw (sq J λj=>(w (k+j):Rat)*x^j)<=2*D
 | 0,k=>by have:=hw 0;have:=Tz (w 0:Rat);simp only[sq,Sy];clear hw;grind
 |
  J+1,k=>by
  have ih:=Qmg hx hw J (k+1);rw[XY];have e:(sq J λi=>(w (k+(i+1)):Rat)*x^(i+1))=x*sq J λi=>(w (k+1+i):Rat)*x^i:=by
   rw[<-VD];exact Np J λi _=>by rw[Xk,show k+(i+1)=k+1+i by omega];grind
  rw[e,Xu,Jh];have h1:=hw k;have h2:=Mn ((w k:Rat)*1) (x*sq J λi=>(w (k+1+i):Rat)*x^i);have h3:=Rq (x:=x) (y:=sq J λi=>(w (k+1+i):Rat)*x^i) Ql ih;have h4:=Q7 hx (show(0:Rat)<=D by have:=Tz (w k:Rat);clear hw;grind);have h5:(w k:Rat)*1=w k:=by grind
  rw[h5]at h2 ⊢;clear hw;grind
theorem JZ{z:Int}(h:z≠0):1<=Gw (z:Rat):=by
 unfold Gw;rcases Wg h with h|h
 ·have:((z:Int):Rat)<((0:Int):Rat):=Js.2 h;have h2:((1:Int):Rat)<=((-z:Int):Rat):=Jy.2 (by omega);rw[if_pos (by simpa using this)];rw[Ka]at h2;simpa using h2
 ·have:((0:Int):Rat)<((z:Int):Rat):=Js.2 h;have h2:((1:Int):Rat)<=((z:Int):Rat):=Jy.2 (by omega);rw[if_neg (by
   have:(0:Rat)<z:=by simpa using this
   grind)]
  simpa using h2
theorem dI{w:Nat->Int}{x:Rat}{D:Rat}(hD:1<=D)(hx0:0<Gw x)(hx:Gw x*(4*D)<=1)(hw:∀j,Gw (w j:Rat)<=D):∀J (k:Nat),(∃j,j<J/\w (k+j)≠0)->Gw x^J / 2<=Gw (sq J λj=>(w (k+j):Rat)*x^j)
 | 0,k,⟨j,h,_⟩=>by omega
 |
  J+1,k,⟨j,h1,h2⟩=>by
  have hx2:Gw x*2<=1:=by
   have:=Ni (a:=Gw x) (c:=2) (Qm hx0) Ql (by decide) (show(2:Rat)<=4*D by clear hw;grind);exact Zi this hx
  have hx1:Gw x<=1:=by clear hw;grind
  have hp:∀k:Nat,Gw x^k<=1/\0<=Gw x^k:=λk=>by
   induction k with
   |zero=>rw[Xu];exact⟨by decide,by decide⟩
   |
    succ k ih =>
    rw[Xk];have:=Ni ih.2 ih.1 (Qm hx0) hx1;have:=Cu ih.2 (Qm hx0);constructor <;> (clear hw;grind)
  rw[XY];have e:(sq J λi=>(w (k+(i+1)):Rat)*x^(i+1))=x*sq J λi=>(w (k+1+i):Rat)*x^i:=by
   rw[<-VD];exact Np J λi _=>by rw[Xk,show k+(i+1)=k+1+i by omega];grind
  rw[e,Xu,Jh k,show(w k:Rat)*1=w k by grind];by_cases h0:w k=0
  ·have hj:j≠0:=λe=>h2 (by rw[e];exact h0)
   have ih:=dI hD hx0 hx hw J (k+1) ⟨j-1,by omega,by rw[show k+1+(j-1)=k+j by omega];exact h2⟩;rw[h0,show((0:Int):Rat)+x*(sq J λi=>(w (k+1+i):Rat)*x^i)=x*sq J λi=>(w (k+1+i):Rat)*x^i by rw[show((0:Int):Rat)=0 from rfl];grind,Ay,Xk];have:=Zt ih (Qm hx0);have e2:Gw x*(Gw x^J / 2)=Gw x^J*Gw x / 2:=by rw[Yp,Yp];grind
   rw[e2]at this;exact this
  ·have a1:=JZ h0;have a2:=Qmg hx2 hw J (k+1);have a3:=Rq (x:=x) (y:=sq J λi=>(w (k+1+i):Rat)*x^i) Ql a2;have a4:=Mn ((w k:Rat)+x*sq J λi=>(w (k+1+i):Rat)*x^i) (-(x*sq J λi=>(w (k+1+i):Rat)*x^i));rw[Az,show(w k:Rat)+(x*sq J λi=>(w (k+1+i):Rat)*x^i)+-(x*sq J λi=>(w (k+1+i):Rat)*x^i)=w k by grind]at a4;have a5:=(hp (J+1)).1;have a6:Gw x^(J+1) / 2*2=Gw x^(J+1):=Hu (by decide);have a7:Gw x*(2*D)*2=Gw x*(4*D):=by grind
   clear hw hp;grind
theorem Quk{A B:Ft}{a b h:Nat}(hA:A.length=a+1)(hB:B.length=b+1)(lA:A.getD a 0≠0)(lB:B.getD b 0≠0)(ha:0<a)(hb:0<b)(h0:1<=h)(bA:∀k,(A.getD k 0).natAbs<=h)(bB:gB B<=h){N D:Nat}(hN:b*(2*(a*b))+a*(2*(a*b)-b)=N)(hD:N*(h*(2*(N*h))^(2*(a+b-1)))<=D){R d:Rat}(hR:1<=R)(dp:0<d)
 (hs:∀e:Rat,0<e->∃q r,Gw q<=R/\Gw r<=R/\d<=Gw (q-r)/\Gw (q-r)*(4*(D:Rat))<=1/\Gw (Gf A q)<e/\Gw (Gf B r)<e):False:=by
 have hab:0<a*b:=Y3 ha hb;have hbab:b<=a*b:=by
  have:=Qy b (show 1<=a from ha);omega
 obtain⟨w,⟨j,hj,hw0⟩,hw,hC⟩:=Qvq hA hB lA lB ha hb h0 bA bB (J:=2*(a*b)) (J':=2*(a*b)-b) rfl (by omega) hN.symm rfl;obtain⟨C,hC0,hC⟩:=hC (2*R) (by grind);have hw':∀j,Gw (w j:Rat)<=(D:Rat):=λj=>by
  have h1:=Qe (hw j) hD;have h2:w j<=(D:Int):=by omega
  have h3:-(D:Int)<=w j:=by omega
  have h2:=Jy.2 h2;have h3:=Jy.2 h3;rw[Ka]at h3;rw[Mh];exact⟨h3,h2⟩
 have hD1:(1:Rat)<=(D:Rat):=by
  have:=JZ hw0;exact Zi this (hw' j)
 have hdJ:0<d^(2*(a*b)) / 2:=Em (Rat.pow_pos dp) (by decide);obtain⟨e,ep,_,he⟩:=Ry (b:=C*2) (d:=d^(2*(a*b)) / 2) (by grind) hdJ;obtain⟨q,r,q1,r1,d1,d2,aq,br⟩:=hs e ep;have h1:=hC (q-r) q (by
  have:=Mn q (-r);rw[Az]at this;have:q-r=q+-r:=by grind
  grind) (by grind)
 rw[show q-(q-r)=r by grind]at h1;have h2:=dI (x:=q-r) hD1 (by grind) d2 hw' (2*(a*b)) 0 ⟨j,hj,by rw[Xd];exact hw0⟩;simp only[Xd]at h2;have h3:C*(Gw (Gf A q)+Gw (Gf B r))<=C*(e+e):=Zt (by grind) hC0;have h4:d^(2*(a*b))<=Gw (q-r)^(2*(a*b)):=by
  generalize 2*(a*b)=J
  induction J with
  |zero=>rw[Xu,Xu];exact Ql
  |
   succ J ih =>
   rw[Xk,Xk];exact Ni (Qm (Rat.pow_pos dp)) ih (Qm dp) d1
 have h5:d^(2*(a*b)) / 2*2=d^(2*(a*b)):=Hu (by decide);have h6:Gw (q-r)^(2*(a*b)) / 2*2=Gw (q-r)^(2*(a*b)):=Hu (by decide);clear hC hs hw hw';grind
def HD(p:Fw)(n:Nat):Prop:=p.getD n 0≠0/\∀k,n<k->p.getD k 0=0
theorem Ss:∀(p q:Fw) (k:Nat),(So p q).getD k 0=p.getD k 0+q.getD k 0
 | [],q,k=>by simp only[So,Wu];grind
 |a::p,[],k=>by simp only[So,Wu];grind
 |a::p,b::q,0=>by simp only[So,Zr]
 |a::p,b::q,k+1=>by simp only[So,Q0];exact Ss p q k
theorem Pv(c:Rat):∀(p:Fw) (k:Nat),(Nk c p).getD k 0=c*p.getD k 0
 | [],k=>by simp only[Nk,Jo,Wu];grind
 |a::p,0=>by simp[Nk]
 |a::p,k+1=>by have:=Pv c p k;simp only[Nk,Zx,Q0]at *;exact this
theorem Qjb{p:Fw}{k:Nat}(h:∀x∈p,x=0):p.getD k 0=0:=by
 rw[Qc];cases e:p[k]? with
 |none=>rfl
 |some x=>exact h x (Qa e)
theorem Lp{p q:Fw}(h:∀t,ev p t=ev q t)(k:Nat):p.getD k 0=q.getD k 0:=by
 have h1:=Qjb (k:=k) (FC (p:=So p (Nk (-1) q)) λt _ _=>by rw[Hm,Hd,h t];grind);rw[Ss,Pv]at h1;grind
theorem E3:∀{p:Fw},(∀k,p.getD k 0=0)->∀t,ev p t=0
 | [],_,t=>rfl
 |
  a::p,h,t=>by
  have h0:=h 0;have h1:=E3 (p:=p) (λk=>by have:=h (k+1);rwa[Q0]at this) t;rw[Zr]at h0;simp only[ev,h0,h1];grind
theorem NX:∀(p:Fw),(∀t,ev p t=0)\/∃n,n<p.length/\HD p n
 | []=>.inl λ_=>rfl
 |
  a::p=>by
  rcases NX p with h|⟨n,hn,h1,h2⟩
  ·rcases Classical.em (a=0)with e|e
   ·exact .inl λt=>by simp only[ev,e,h t];grind
   ·refine .inr ⟨0,by simp,by simpa using e,λk hk=>?_⟩;obtain⟨m,rfl⟩:∃m,k=m+1:=⟨k-1,by omega⟩;rw[Q0];exact(Lp (p:=p) (q:=[]) h m).trans (by simp)
  ·refine .inr ⟨n+1,by simp;omega,by rw[Q0];exact h1,λk hk=>?_⟩;obtain⟨m,rfl⟩:∃m,k=m+1:=⟨k-1,by omega⟩;rw[Q0];exact h2 m (by omega)
theorem Qjh{p q:Fw}{n:Nat}(h:∀t,ev p t=ev q t)(hp:HD p n):HD q n :=
 ⟨by rw[<-Lp h];exact hp.1,λk hk=>by rw[<-Lp h];exact hp.2 k hk⟩
theorem Qsp{p:Fw}{n m:Nat}(h:HD p n)(h':HD p m):n=m:=by
 rcases J0 n m with e|e|e
 ·exact absurd (h.2 m e) h'.1
 ·exact e
 ·exact absurd (h'.2 n e) h.1
theorem Qa6{p:Fw}{n:Nat}(h:HD p n):¬∀t,ev p t=0:=λh0=>h.1 ((Lp (p:=p) (q:=[]) h0 n).trans (by simp))
theorem NJ{p q:Fw}(h:∀k,p.getD k 0=0)(k:Nat):(H7 p q).getD k 0=0:=by
 have:=Lp (p:=H7 p q) (q:=[]) (λt=>by rw[Gj,E3 h t];simp only[ev];grind) k;rw[this];simp
theorem PG:∀{p q:Fw} {m n:Nat},HD p m->HD q n->HD (H7 p q) (m+n)
 | [],q,m,n,h,_=>absurd (by simp) h.1
 |
  a::p,q,0,n,h,h'=>by
  have h1:∀k,p.getD k 0=0:=λk=>by have:=h.2 (k+1) (by omega);rwa[Q0]at this
  have h2:∀k,(H7 (a::p) q).getD k 0=a*q.getD k 0:=λk=>by
   simp only[H7];rw[Ss,Pv];cases k with
   |zero=>rw[Zr];grind
   |succ k=>rw[Q0,NJ h1];grind
  have h3:=h.1;rw[Zr]at h3;refine⟨?_,λk hk=>?_⟩
  ·rw[h2,Xd];exact λh=>(Xn.1 h).elim h3 h'.1
  ·rw[h2,h'.2 k (by omega)];grind
 |
  a::p,q,m+1,n,h,h'=>by
  have ih:=PG (p:=p) (q:=q) (m:=m) ⟨by have:=h.1;rwa[Q0]at this,λk hk=>by have:=h.2 (k+1) (by omega);rwa[Q0]at this⟩ h';refine⟨?_,λk hk=>?_⟩
  ·simp only[H7];rw[Ss,Pv,show m+1+n=(m+n)+1 by omega,Q0,h'.2 _ (by omega)];have:=ih.1;grind
  ·obtain⟨j,rfl⟩:∃j,k=j+1:=⟨k-1,by omega⟩;simp only[H7];rw[Ss,Pv,Q0,h'.2 _ (by omega),ih.2 j (by omega)];grind
def Lj(g f:Fw):Prop:=∃u,∀t,ev f t=ev g t*ev u t
theorem dvd_refl(f:Fw):Lj f f:=⟨[1],λt=>by rw[S9];grind⟩
theorem dvd_trans{f g h:Fw}:Lj f g->Lj g h->Lj f h
 |⟨u,hu⟩,⟨v,hv⟩=>⟨H7 u v,λt=>by rw[hv,hu,Gj];grind⟩
theorem sL{p q:Fw}(h:∀t,ev p t*ev q t=0)(hp:¬∀t,ev p t=0):∀t,ev q t=0:=by
 rcases NX p with h1|⟨m,_,h1⟩
 ·exact absurd h1 hp
 ·rcases NX q with h2|⟨n,_,h2⟩
  ·exact h2
  ·exact absurd (λt=>by rw[Gj];exact h t) (Qa6 (PG h1 h2))
theorem LD{p q r:Fw}(hp:¬∀t,ev p t=0)(h:∀t,ev p t*ev q t=ev p t*ev r t)(t:Rat):ev q t=ev r t:=by
 have:=sL (p:=p) (q:=So q (Nk (-1) r)) (λt=>by rw[Hm,Hd];have:=h t;grind) hp t;rw[Hm,Hd]at this;grind
theorem Qid{b:Fw}{n:Nat}(hb:HD b n):∀(l:Nat) (a:Fw),(∀k,l<=k->a.getD k 0=0)->∃q r,(∀t,ev a t=ev q t*ev b t+ev r t)/\∀k,n<=k->r.getD k 0=0
 | 0,a,ha=>⟨[],a,λt=>by simp only[ev];grind,λk _=>ha k (Qh _)⟩
 |
  l+1,a,ha=>by
  rcases Q8 l n with h|h
  ·exact⟨[],a,λt=>by simp only[ev];grind,λk hk=>ha k (by omega)⟩
  ·-- the leading term is taken away
   obtain⟨c,hc⟩:=nmE (a.getD l 0 / b.getD n 0);have hcb:c*b.getD n 0=a.getD l 0:=by rw[hc];exact Zc hb.1
   obtain⟨m,hm⟩:∃m:Fw,m=List.replicate (l-n) 0++[c]:=⟨_,rfl⟩;have hsh:∀(i:Nat) (k:Nat),(H7 (List.replicate i 0++[c]) b).getD k 0=if i<=k then c*b.getD (k-i) 0 else 0:=λi=>by
    induction i with
    |zero=>intro k;simp only[Ue,J5,H7];rw[Ss,Pv];cases k <;> simp <;> grind
    |
     succ i ih =>
     intro k;simp only[Yh,Xa,H7];rw[Ss,Pv];cases k with
     |zero=>rw[Zr,if_neg (by omega)];grind
     |
      succ k =>
      rw[Q0,ih k];by_cases h:i<=k
      ·rw[if_pos h,if_pos (by omega),Nat.add_sub_add_right];grind
      ·rw[if_neg h,if_neg (by omega)];grind
   obtain⟨q,r,h1,h2⟩:=Qid hb l (So a (Nk (-1) (H7 m b))) λk hk=>by
    rw[Ss,Pv,hm,hsh,if_pos (by omega)];rcases V9 hk with e|e
    ·rw[ha k (by omega),hb.2 _ (by omega)];grind
    ·subst e;rw[show l-(l-n)=n by omega,hcb];grind
   refine⟨So q m,r,λt=>?_,h2⟩;have:=h1 t;rw[Hm,Hd,Gj]at this;rw[Hm];grind
theorem dF:∀(n:Nat) (a b:Fw),(∀k,n<=k->b.getD k 0=0)->∃g U V,Lj g a/\Lj g b/\∀t,ev g t=ev U t*ev a t+ev V t*ev b t
 |
  0,a,b,h=>by
  have h0:=E3 λk=>h k (Qh _)
  exact⟨a,[1],[],dvd_refl a,⟨[],λt=>by rw[h0];simp only[ev];grind⟩,λt=>by rw[S9];simp only[ev];grind⟩
 |
  n+1,a,b,h=>by
  rcases Classical.em (b.getD n 0=0)with e|e
  ·exact dF n a b λk hk=>by
    rcases V9 hk with e'|e'
    ·exact h k (by omega)
    ·rw[<-e'];exact e
  ·obtain⟨q,r,h1,h2⟩:=Qid (b:=b) (n:=n) ⟨e,λk hk=>h k (by omega)⟩ a.length a λk hk=>by rw[Qc,Qt hk];rfl
   obtain⟨g,U,V,⟨u,hu⟩,⟨v,hv⟩,hg⟩:=dF n b r h2;refine⟨g,V,So U (Nk (-1) (H7 V q)),⟨So (H7 q u) v,λt=>?_⟩,⟨u,hu⟩,λt=>?_⟩
   ·rw[h1,hv,Hm,Gj,hu];grind
   ·rw[hg,Hm,Hd,Gj,h1];grind
theorem Qi6(a b:Fw):∃g U V,Lj g a/\Lj g b/\∀t,ev g t=ev U t*ev a t+ev V t*ev b t :=
 dF b.length a b λk hk=>by rw[Qc,Qt hk];rfl
def Cop(a b:Fw):Prop:=∃U V,∀t,ev U t*ev a t+ev V t*ev b t=1
theorem vG{c d e:Fw}(h:Cop c d)(h1:∃u,∀t,ev d t*ev e t=ev c t*ev u t):Lj c e:=by
 obtain⟨U,V,h⟩:=h;obtain⟨u,hu⟩:=h1;refine⟨So (H7 U e) (H7 V u),λt=>?_⟩;rw[Hm,Gj,Gj];have a1:=h t;have a2:=hu t;have:ev e t=(ev U t*ev c t+ev V t*ev d t)*ev e t:=by rw[a1];grind
 rw[this];have:(ev U t*ev c t+ev V t*ev d t)*ev e t=ev U t*ev c t*ev e t+ev V t*(ev d t*ev e t):=by grind
 rw[this,a2];grind
def OJ(d:Fw):Nat->Fw
 | 0=>[1]
 |k+1=>H7 d (OJ d k)
theorem eU(d:Fw)(t:Rat):∀k:Nat,ev d t*dv (OJ d k) t=(k:Rat)*(dv d t*ev (OJ d k) t)
 | 0=>by simp only[OJ,dv,ev];rw[show((0:Nat):Rat)=0 from rfl];grind
 |
  k+1=>by
  have ih:=eU d t k;have hn':(((k+1:Nat):Rat))=(k:Rat)+1:=by push_cast;rfl
  simp only[OJ];rw[vB,Gj,hn'];grind
theorem Qla{d:Fw}{m:Nat}(h:HD d m):∀k,HD (OJ d k) (k*m)
 | 0=>by rw[Yc];exact⟨by simp[OJ],λk hk=>by simp only[OJ];rw[Qc,Qt (by simp;omega)];rfl⟩
 |k+1=>by rw[Xq,Yl (k*m) m];exact PG h (Qla h k)
theorem jU{d g:Fw}{m n:Nat}(hd:HD d m)(hg:HD g n)(h:∀k,Lj (OJ d k) g):m=0:=by
 obtain⟨u,hu⟩:=h (n+1);rcases NX u with h1|⟨j,_,h1⟩
 ·exact absurd (λt=>by rw[hu,h1];grind) (Qa6 hg)
 ·have:=Qsp (Qjh (λt=>by rw[hu,Gj]) hg) (PG (Qla hd (n+1)) h1);rcases Qx m with e|e
  ·exact e
  ·have:(n+1)*1<=(n+1)*m:=Zl _ e;omega
theorem sqf{a g q d U V:Fw}{k:Rat}(hk:k≠0)(ha:∀t,ev a t=ev g t*ev q t)(hg:∀t,k*ev g t=ev U t*ev a t+ev V t*dv a t)(h1:Lj d q)(h2:Lj d (Cx q)):∀n,Lj (OJ d n) g
 | 0=>⟨g,λt=>by simp only[OJ];rw[S9];grind⟩
 |
  n+1=>by
  obtain⟨g1,e1⟩:=sqf hk ha hg h1 h2 n;obtain⟨q1,e2⟩:=h1;obtain⟨q2,e3⟩:=h2;have d1:=λt=>Oz ha t
  have d2:=λt=>Oz e1 t
  have d3:=λt=>Oz e2 t
  have d4:=eU d;refine⟨Nk (1 / k) (So (H7 U (H7 g1 q1)) (H7 V (So (H7 g1 q2) (So (Nk n (H7 g1 (So q2 (Nk (-1) (Cx q1))))) (H7 (Cx g1) q1))))),λt=>?_⟩;have hkk:1 / k*k=1:=Zc hk;simp only[OJ,Hd,Hm,Gj,Sw];have b1:=ha t;have b2:=hg t;have b3:=e1 t;have b4:=e2 t;have b5:=e3 t;have b6:=d1 t;have b7:=d2 t;have b8:=d3 t;have b9:=d4 t n;rw[Sw]at b5;generalize ev d t=x0 at *;generalize ev (OJ d n) t=x1 at *;generalize ev g t=x2 at *;generalize ev q t=x3 at *;generalize ev a t=x4 at *;generalize dv a t=x5 at *;generalize dv g t=x6 at *;generalize dv q t=x7 at *;generalize ev g1 t=x8 at *;generalize dv g1 t=x9 at *;generalize ev q1 t=y0 at *;generalize dv q1 t=y1 at *;generalize ev q2 t=y2 at *;generalize dv d t=y3 at *;generalize dv (OJ d n) t=y4 at *;generalize ev U t=y5 at *;generalize ev V t=y6 at *;generalize (n:Rat)=y7 at *;have:x2=1 / k*(k*x2):=by grind
  rw[this,b2];have c1:x5=x0*x1*(x8*y2+(y7*(x8*(y2+-1*y1))+x9*y0)):=by
   rw[b6,b7,b4,b3];have:y3*y0=x0*y2-x0*y1:=by grind
   have:x0*y4*(x8*y0)=y7*(x1*x8*(x0*y2-x0*y1)):=by rw[b9,<-this];grind
   grind
  have c2:x4=x0*x1*(x8*y0):=by rw[b1,b3,b4];grind
  rw[c1,c2];grind
theorem Qoo{a b c:Fw}(h1:Cop a b)(h2:Cop a c){d:Fw}(hd:∀t,ev d t=ev b t*ev c t):Cop a d:=by
 obtain⟨U,V,h1⟩:=h1;obtain⟨X,Y,h2⟩:=h2;refine⟨So U (H7 (H7 V b) X),H7 V Y,λt=>?_⟩;have a1:=h1 t;have a2:=h2 t;simp only[Hm,Gj,hd];have:ev V t*ev b t*(ev X t*ev a t+ev Y t*ev c t)=ev V t*ev b t:=by rw[a2];grind
 grind
theorem Qra{a g q z r X Y:Fw}{n:Nat}(ha:∀t,ev a t=ev g t*ev q t)(hz:∀t,dv a t=ev g t*ev z t)(hg:HD g n)(hr:∀t,ev X t*ev r t+ev Y t*dv r t=1)(h:Lj r a):Lj r q:=by
 obtain⟨b,hb⟩:=h;obtain⟨e,U,V,⟨r1,e1⟩,⟨q3,e2⟩,e3⟩:=Qi6 r q;have hr0:¬∀t,ev r t=0:=λh=>by
  have h1:=hr 0;have h2:dv r 0=0:=by have:=Qii (p:=r) (q:=[]) h 0;rw[this];rfl
  rw[h,h2]at h1;grind
 have he0:¬∀t,ev e t=0:=λh=>hr0 λt=>by rw[e1,h];grind
 have d1:=λt=>Oz e1 t
 have c1:Cop r1 q3:=⟨U,V,λt=>by
  have:=LD (p:=e) (q:=So (H7 U r1) (H7 V q3)) (r:=[1]) he0 (λt=>by
   rw[Hm,Gj,Gj,S9];have a1:=e1 t;have a2:=e2 t;have a3:=e3 t;rw[a1,a2]at a3;grind) t
  rw[Hm,Gj,Gj,S9]at this;exact this⟩
 have c2:Cop r1 e:=⟨So (H7 X e) (H7 Y (Cx e)),H7 Y (Cx r1),λt=>by
  have a1:=hr t;have a2:=e1 t;have a3:=d1 t;simp only[Hm,Gj,Sw];rw[a2,a3]at a1;grind⟩
 have c3:Cop r1 (Cx r1):=⟨So (H7 X e) (H7 Y (Cx e)),H7 Y e,λt=>by
  have a1:=hr t;have a2:=e1 t;have a3:=d1 t;simp only[Hm,Gj,Sw];rw[a2,a3]at a1;grind⟩
 have c4:Cop r1 q:=Qoo c2 c1 e2;have hgz:=Qa6 hg;have hp:∀k,Lj (OJ r1 k) g:=λk=>by
  induction k with
  |zero=>exact⟨g,λt=>by simp only[OJ];rw[S9];grind⟩
  |
   succ k ih =>
   obtain⟨h,eh⟩:=ih;have hpz:¬∀t,ev (OJ r1 k) t=0:=λh0=>hgz λt=>by rw[eh,h0];grind
   have key:Lj r1 h:=by
    cases k with
    |
     zero =>
     refine vG c4 ⟨H7 e b,λt=>?_⟩;have a1:=ha t;have a2:=hb t;have a3:=e1 t;have a4:=eh t;simp only[OJ]at a4;rw[S9]at a4;rw[Gj];grind
    |
     succ k =>
     have hn:((k+1:Nat):Rat)≠0:=by
      have:(0:Rat)<((k+1:Nat):Rat):=by
       have h1:((0:Nat):Rat)<((k+1:Nat):Rat):=Kd.2 (by omega);simpa using h1
      grind
     have d2:=λt=>Oz (f:=a) (w:=OJ r1 (k+1)) (u:=H7 h q) (λt=>by rw[ha,eh,Gj];grind) t
     have d4:=eU r1;have h3:=LD (p:=OJ r1 (k+1)) (q:=H7 (Cx r1) (H7 h q)) (r:=H7 r1 (Nk (1 / ((k+1:Nat):Rat)) (So (H7 h z) (Nk (-1) (Cx (H7 h q)))))) hpz λt=>by
      simp only[Gj,Hd,Hm,Sw];have a1:=d2 t;have a2:=d4 t (k+1);have a3:=hz t;have a4:=eh t;rw[Gj]at a1;generalize ((k+1:Nat):Rat)=c at *;have hc:1 / c*c=1:=Zc hn;generalize ev (OJ r1 (k+1)) t=x0 at *;generalize dv (OJ r1 (k+1)) t=x1 at *;generalize dv (H7 h q) t=x2 at *;generalize ev r1 t=x3 at *;generalize dv r1 t=x4 at *;generalize ev h t=x5 at *;generalize ev q t=x6 at *;generalize ev z t=x7 at *;generalize dv a t=x8 at *;generalize ev g t=x9 at *;generalize 1 / c=c' at *;have s1:x0*(x4*(x5*x6))=c'*(c*(x4*x0))*(x5*x6):=by
       have:c'*(c*(x4*x0))=(c'*c)*(x4*x0):=by grind
       rw[this,hc];grind
      rw[s1,<-a2];have s2:x3*(x1*(x5*x6))=x3*(x0*(x5*x7+-1*x2)):=by
       rw[a3,a4]at a1;grind
      grind
     refine vG c4 ?_;obtain⟨u,hu⟩:=vG (e:=H7 q h) c3 ⟨Nk (1 / ((k+1:Nat):Rat)) (So (H7 h z) (Nk (-1) (Cx (H7 h q)))),λt=>by
      have:=h3 t;simp only[Gj]at this ⊢;rw[<-this];grind⟩
     exact⟨u,λt=>by rw[<-hu,Gj]⟩
   obtain⟨u,hu⟩:=key;exact⟨u,λt=>by simp only[OJ];rw[Gj,eh,hu];grind⟩
 rcases NX r1 with h1|⟨m,_,h1⟩
 ·exact absurd (λt=>by rw[e1,h1];grind) hr0
 ·obtain rfl:=jU h1 hg hp;have h2:∀t,ev r1 t=r1.getD 0 0:=λt=>by
   cases r1 with
   |nil=>simp[ev]
   |
    cons c l =>
    have:∀t,ev l t=0:=E3 λk=>by have:=h1.2 (k+1) (by omega);rwa[Q0]at this
    simp only[ev,this,Zr];grind
  have h3:=h1.1;refine⟨Nk (1 / r1.getD 0 0) q3,λt=>?_⟩;rw[e2,e1,h2,Hd];have:1 / r1.getD 0 0*r1.getD 0 0=1:=Zc h3;have:ev e t*r1.getD 0 0*(1 / r1.getD 0 0*ev q3 t)=ev e t*ev q3 t*(1 / r1.getD 0 0*r1.getD 0 0):=by grind
  rw[this,Zc h3];grind
def ZT:Fx->Fw
 | []=>[1]
 |w::l=>H7 w (ZT l)
def Lay:Fx->Fx->Prop
 | [],[]=>True
 | [w],[f]=>∀t,ev w t=ev f t
 |w::v::l,f::fs=>(∀t,ev w t=ev f t*ev v t)/\Lay (v::l) fs
 |_,_=>False
def BG:Fx->Fw
 | []=>[1]
 | [f]=>f
 |f::_::l=>H7 f (BG l)
theorem Qbk:∀{ws fs:Fx},Lay ws fs->∃S,∀t,ev (ZT ws) t=ev (BG fs) t*(ev S t*ev S t)
 | [],[],_=>⟨[1],λt=>by simp only[ZT,BG];rw[S9];grind⟩
 | [w],[f],h=>⟨[1],λt=>by simp only[ZT,BG];rw[Gj,S9,h t];grind⟩
 |
  [w,v],[f,f2],h=>⟨v,λt=>by
  have h1:=h.1 t;have h2:ev v t=ev f2 t:=h.2 t;simp only[ZT,BG,Gj];rw[S9,h1];grind⟩
 |
  w::v::x::l,f::f2::fs,h=>by
  obtain⟨S,hS⟩:=Qbk h.2.2;refine⟨H7 v S,λt=>?_⟩;have h1:=h.1 t;have h2:=hS t;have e1:ev (ZT (w::v::x::l)) t=ev w t*(ev v t*ev (ZT (x::l)) t):=by simp only[ZT,Gj]
  rw[e1,h2,h1];have e2:ev (BG (f::f2::fs)) t=ev f t*ev (BG fs) t:=by
   cases fs with
   |nil=>cases l <;> exact False.elim h.2.2
   |cons y l=>simp only[BG,Gj]
  rw[e2,Gj];grind
 | [w],[],h=>h.elim
 | [w],_::_::_,h=>h.elim
 | [],_::_,h=>h.elim
 | [w,v],[f],h=>h.2.elim
 | [w,v],_::_::_::_,h=>h.2.elim
 |w::v::x::l,[f],h=>h.2.elim
 |w::v::l,[],h=>h.elim
end Orq
namespace Orr
structure Crv where
 x:List Int
 y:List Int
 d:Int
abbrev cl(k:Crv):Fy:=[pl k.x,pl k.y,sg k.d,mg k.d]
def Crv.d'(k:Crv):Int:=if k.d=0 then 1 else k.d
def Crv.g(k:Crv):Int:=if k.d'<0 then -((Tx (k.d'::(trim k.x++trim k.y)):Nat):Int)else(Tx (k.d'::(trim k.x++trim k.y)):Nat)
def Crv.norm(k:Crv):Crv:=⟨trim ((trim k.x).map (· / k.g)),trim ((trim k.y).map (· / k.g)),k.d' / k.g⟩
theorem YB{l:Ft}:∀z∈l,((Tx l:Nat):Int)∣z:=by
 have key:∀(l:Ft) (g:Nat),(l.foldl (λg z=>Nat.gcd g z.natAbs) g∣g)/\∀z∈l,l.foldl (λg z=>Nat.gcd g z.natAbs) g∣z.natAbs:=by
  intro l
  induction l with
  |nil=>intro g;exact⟨Nat.dvd_refl _,by simp⟩
  |
   cons u l ih =>
   intro g;obtain⟨h1,h2⟩:=ih (Nat.gcd g u.natAbs);refine⟨Nat.dvd_trans h1 (Wv _ _),λz hz=>?_⟩;rcases Qj.1 hz with rfl|hz
   ·exact Nat.dvd_trans h1 (Ut _ _)
   ·exact h2 z hz
 intro z hz;have:=(key l 0).2 z hz;exact Ul.2 this
theorem Crv.d'_ne(k:Crv):k.d'≠0:=by unfold Crv.d';split <;> omega
theorem Crv.gcd_ne(k:Crv):Tx (k.d'::(trim k.x++trim k.y))≠0:=by
 intro e;have h:=YB (l:=k.d'::(trim k.x++trim k.y)) k.d' (Qw ..);rw[e]at h;exact k.d'_ne (by simpa using h)
theorem Crv.g_ne(k:Crv):k.g≠0:=by
 have h0:=k.gcd_ne;unfold Crv.g
 split <;> omega
theorem Crv.g_dvd(k:Crv):∀z∈k.d'::(trim k.x++trim k.y),z % k.g=0:=by
 intro z hz;have h:=YB z hz;refine Ys ?_;unfold Crv.g
 split
 ·exact Fb.2 h
 ·exact h
theorem Crv.isz_g(k:Crv){s:Nat}(h:Gy k.d'<=s):Gy k.g<=s:=by
 have hd:=YB (l:=k.d'::(trim k.x++trim k.y)) k.d' (Qw ..);have hle:Tx (k.d'::(trim k.x++trim k.y))<=k.d'.natAbs:=Kz (by have:=k.d'_ne;omega) (Ul.1 hd);refine Qe (Pi ?_) h;unfold Crv.g
 split <;> simp <;> exact hle
structure Cs(s n:Nat)(k:Crv):Prop where
 x:Bd s k.x
 y:Bd s k.y
 d:Gy k.d<=s
 lx:k.x.length<=n
 ly:k.y.length<=n
theorem kY{k:Crv}{s:Nat}(h:Gy k.d<=s)(h1:1<=s):Gy k.d'<=s:=by unfold Crv.d';split <;> first|exact h1|exact h
theorem TO{s:Nat}{p:Ft}(h:Bd s p)(g:Int):Bd s (p.map (· / g)):=λz hz=>by
 obtain⟨u,hu,rfl⟩:=Zd.1 hz;exact Qe (VQ u g) (h u hu)
theorem Cs.norm{s n:Nat}{k:Crv}(h:Cs s n k)(h1:1<=s):Cs s n k.norm:=by
 refine⟨Md (TO (Md h.x) _),Md (TO (Md h.y) _),Qe (VQ _ _) (kY h.d h1),?_,?_⟩
 ·refine Qe (Sr _) ?_;rw[Q4];exact Qe (Sr _) h.lx
 ·refine Qe (Sr _) ?_;rw[Q4];exact Qe (Sr _) h.ly
theorem Cs.mono{s n t m:Nat}{k:Crv}(h:Cs s n k)(hs:s<=t)(hn:n<=m):Cs t m k:=⟨Gd h.x hs,Gd h.y hs,Qe h.d hs,Qe h.lx hn,Qe h.ly hn⟩
def UF(k:Crv):Prop:=Gh k.x/\Gh k.y/\0<k.d/\Tx (k.d::(k.x++k.y))=1
theorem vA{l:Ft}{g:Int}(hg:g≠0)(hga:g.natAbs=Tx l):Tx (l.map (· / g))=1:=by
 have key:∀(l:Ft) (a:Nat),(∀z∈l,g∣z)->l.foldl (λa z=>Nat.gcd a z.natAbs) (a*g.natAbs)=((l.map (· / g)).foldl (λa z=>Nat.gcd a z.natAbs) a)*g.natAbs:=by
  intro l
  induction l with
  |nil=>intro a _;rfl
  |
   cons z l ih =>
   intro a h;simp only[Zx,Z0];have hz:z.natAbs=(z / g).natAbs*g.natAbs:=by
    obtain⟨q,rfl⟩:=h z (Qw ..);rw[X8 _ hg,Yd,Zo]
   rw[hz,Uu];exact ih _ λu hu=>h u (Qi _ hu)
 have h:=key l 0 λz hz=>X3.1 (by rw[hga];exact X3.2 (YB z hz))
 rw[Yc]at h;have h':Tx l=Tx (l.map (· / g))*g.natAbs:=h;rw[<-hga]at h';have hp:0<g.natAbs:=by omega
 exact Nat.eq_of_mul_eq_mul_right hp (by rw[Uj];exact h'.symm)
theorem I7{l:Ft}{g:Int}(ht:Gh l)(hg:g≠0)(hd:∀z∈l,g∣z):Gh (l.map (· / g)):=by
 induction l with
 |nil=>rfl
 |
  cons x l ih =>
  have hne:∀z∈x::l,z≠0->z / g≠0:=λz hz h0 h1=>by
   obtain⟨q,rfl⟩:=hd z hz;rw[X8 _ hg]at h1;rw[h1]at h0;simp at h0
  unfold Gh at ht ih ⊢;cases hl:trim l with
  |
   nil =>
   simp only[trim,hl]at ht
   split at ht
   ·cases ht
   ·rename_i hx;injection ht with _ h2;subst h2;simp[trim,hne x (Qw ..) hx]
  |
   cons y k =>
   simp only[trim,hl]at ht;injection ht with _ h2;have hll:trim l=l:=by rw[hl];exact h2
   have ih:=ih hll λz hz=>hd z (Qi _ hz)
   rw[Zx];have hne2:l.map (· / g)≠[]:=by rw[<-hll,hl];simp
   cases hm:l.map (· / g)with
   |nil=>exact absurd hm hne2
   |
    cons u w =>
    rw[hm]at ih;have e:trim (x / g::u::w)=match trim (u::w)with| []=>if x / g=0 then []else [x / g]|y::k=>x / g::y::k:=rfl
    rw[e,ih]
theorem Crv.nml(k:Crv):UF k.norm:=by
 have hg:=k.g_ne;have hdv:∀z∈k.d'::(trim k.x++trim k.y),k.g∣z:=λz hz=>Vh (k.g_dvd z hz)
 have hx:=I7 (g:=k.g) (Tl k.x) hg λz hz=>hdv z (by simp[hz])
 have hy:=I7 (g:=k.g) (Tl k.y) hg λz hz=>hdv z (by simp[hz])
 refine⟨Tl _,Tl _,?_,?_⟩
 ·show 0<k.d' / k.g;obtain⟨q,hq⟩:=hdv k.d' (Qw ..);have h0:=k.d'_ne;have hgc:=k.gcd_ne;have e:k.d' / k.g=q:=by rw[hq,X8 _ hg]
  rw[e];unfold Crv.g at hq hg;have hq0:q≠0:=λe=>by rw[e,Kk]at hq;exact h0 hq
  split at hq
  ·rename_i hneg;rcases Uk hq0 with h|h
   ·have:=K9 (a:=-((Tx (k.d'::(trim k.x++trim k.y)):Nat):Int)) (b:=q) (by omega) h;omega
   ·exact h
  ·rename_i hneg;rcases Uk hq0 with h|h
   ·have:=Vw (a:=((Tx (k.d'::(trim k.x++trim k.y)):Nat):Int)) (b:=q) (by omega) h;omega
   ·exact h
 ·show Tx (k.d' / k.g::(trim ((trim k.x).map (· / k.g))++trim ((trim k.y).map (· / k.g))))=1;rw[show trim ((trim k.x).map (· / k.g))=(trim k.x).map (· / k.g) from hx,show trim ((trim k.y).map (· / k.g))=(trim k.y).map (· / k.g) from hy,<-Xo,<-Zx (f:=(· / k.g))];refine vA hg ?_;unfold Crv.g
  split <;> omega
structure Pt where
 c:Crv
 id:Int
def Sl(p:Pt):Fy:=[pl p.c.x,pl p.c.y,sg p.c.d,mg p.c.d,.int .i64 p.id]
def pts(l:List Pt):LV:=.row (l.map Sl)
def lD:List Pt->Int->Nat
 | [],_=>0
 |p::l,id=>if p.id<id then lD l id+1 else 0
def has(l:List Pt)(id:Int):Bool:=match l[lD l id]? with
 |some p=>decide (p.id=id)
 |none=>false
def put(l:List Pt)(q:Pt):List Pt:=l.take (lD l q.id)++q::l.drop (lD l q.id)
def Qs9(s n:Nat)(p:Pt):Prop:=UF p.c/\Cs s n p.c
def Ak(a b:Crv):Bool:=decide (a.x=b.x/\a.y=b.y/\a.d=b.d)
def Nb(out:List Pt)(p:Pt):List Pt:=if out.any (λq=>Ak p.c q.c)=true then out else out++[p]
def Gu(l:List Pt):List Pt:=l.foldl Nb []
theorem yH{out:List Pt}{p q:Pt}(h:q∈Nb out p):q∈out\/q=p:=by
 unfold Nb at h
 split at h
 ·exact .inl h
 ·rcases Qr.1 h with h|h
  ·exact .inl h
  ·exact .inr (by simpa using h)
theorem Qfl(out:List Pt)(p:Pt):(Nb out p).length<=out.length+1:=by
 unfold Nb;split <;> simp
theorem Mi{α β:Type}(f:β->α->β)(b:β)(l:List α){i:Nat}{x:α}(h:l[i]? = some x):(l.take (i+1)).foldl f b=f ((l.take i).foldl f b) x:=by
 rw[X2,h];simp[Wo]
theorem qR(l:List Pt)(i:Nat):∀q∈(l.take i).foldl Nb [],q∈l:=by
 induction i with
 |zero=>simp
 |
  succ i ih =>
  intro q hq;cases hi:l[i]? with
  |
   none =>
   rw[Qp (by have:=Yk.1 hi;omega)]at hq;rw[Qp (Yk.1 hi)]at ih;exact ih q hq
  |
   some x =>
   rw[Mi _ _ _ hi]at hq;rcases yH hq with h|h
   ·exact ih q h
   ·subst h;exact Qa hi
theorem qH(l:List Pt)(i:Nat):((l.take i).foldl Nb []).length<=i:=by
 induction i with
 |zero=>simp
 |
  succ i ih =>
  cases hi:l[i]? with
  |
   none =>
   rw[Qp (by have:=Yk.1 hi;omega)];rw[Qp (Yk.1 hi)]at ih;omega
  |
   some x =>
   rw[Mi _ _ _ hi];have:=Qfl ((l.take i).foldl Nb []) x;omega
theorem Ht{l:List Pt}{q:Pt}(h:q∈Gu l):q∈l:=by
 have:=qR l l.length q;rw[Za]at this;exact this h
theorem VA(l:List Pt):(Gu l).length<=l.length:=by
 have:=qH l l.length;rwa[Za]at this
def IsPt(s n:Nat)(z:Fy)(q:Pt):Prop:=∃lx ly b l px py d,z=[.row lx,.row ly,.bool b,Qv5 l,.int .i64 q.id]/\IsInts lx px/\IsInts ly py/\Mw (.bool b) (Qv5 l) d/\Cs s n ⟨px,py,d⟩/\q.c=Crv.norm ⟨px,py,d⟩
def IsPts(s n:Nat):Fz->List Pt->Prop
 | [],[]=>True
 |z::zs,q::qs=>IsPt s n z q/\IsPts s n zs qs
 |_,_=>False
theorem IsPts.len{s n:Nat}:∀{zs:Fz} {qs:List Pt},IsPts s n zs qs->zs.length=qs.length
 | [],[],_=>rfl
 |_::_,_::_,h=>by simp[h.2.len]
 | [],_::_,h=>h.elim
 |_::_,[],h=>h.elim
theorem IsPts.get{s n:Nat}:∀{zs:Fz} {qs:List Pt},IsPts s n zs qs->∀{i:Nat} {q:Pt},qs[i]? = some q->∃z,zs[i]? = some z/\IsPt s n z q
 | [],[],_,i,q,h=>by simp at h
 |z::zs,q::qs,h,0,r,hr=>by simp at hr;subst hr;exact⟨z,rfl,h.1⟩
 |z::zs,q::qs,h,i+1,r,hr=>by simpa using h.2.get (i:=i) (by simpa using hr)
 | [],_::_,h,_,_,_=>h.elim
 |_::_,[],h,_,_,_=>h.elim
theorem IsPt.ok{s n:Nat}{z:Fy}{q:Pt}(h:IsPt s n z q)(h1:1<=s):Qs9 s n q:=by
 obtain⟨lx,ly,b,l,px,py,d,_,_,_,_,hc,e⟩:=h;unfold Qs9;rw[e];exact⟨Crv.nml _,hc.norm h1⟩
def Hq(p:Ft)(q:Rat):Int:=Ac (Qql p q.num q.den) 0
def Pm(sgn:Ft->Int):Nat->Ft->Int
 | 0,_=>0
 |k+1,p=>if p.length=0 then 0 else if sgn p=0 then Pm sgn k (Hn p)else sgn p
theorem YD(sgn:Ft->Int):∀(k:Nat) (p:Ft),p.length<=k->Pm sgn k p=Pm sgn p.length p
 |
  0,p,h=>by
  have:p.length=0:=by omega
  rw[this]
 |
  k+1,p,h=>by
  cases hp:p.length with
  |zero=>simp[Pm,hp]
  |
   succ m =>
   simp only[Pm];have h1:=Pw p;rw[YD sgn k (Hn p) (by omega),YD sgn m (Hn p) (by omega)]
theorem YA(sgn:Ft->Int){p:Ft}(h:p.length=0):Pm sgn p.length p=0:=by rw[h];rfl
theorem YL(sgn:Ft->Int){p:Ft}(h:0<p.length)(hs:sgn p≠0):Pm sgn p.length p=sgn p:=by
 obtain⟨m,hm⟩:∃m,p.length=m+1:=⟨p.length-1,by omega⟩;rw[hm];simp only[Pm];rw[if_neg (by omega),if_neg hs]
theorem YE(sgn:Ft->Int){p:Ft}(h:0<p.length)(hs:sgn p=0):Pm sgn p.length p=Pm sgn (Hn p).length (Hn p):=by
 obtain⟨m,hm⟩:∃m,p.length=m+1:=⟨p.length-1,by omega⟩;rw[hm];simp only[Pm];rw[if_neg (by omega),if_pos hs];exact YD sgn m _ (by have:=Pw p;omega)
structure Tm where
 p:List Int
 lo:Rat
 hi:Rat
abbrev ta(t:Tm):Fy:=pl t.p::(rl t.lo++rl t.hi)
abbrev tq(q:Rat):Tm:=⟨[-q.num,(q.den:Int)],q,q⟩
def Hk(sg:Ft->Int)(p:Ft):Int:=Pm sg p.length p
def dH(p:Ft)(q:Rat):Int:=Hk (λp=>Hq p q) p
structure Pb(p:List Int):Prop where
 t:Gh p
 l:p.length<=64
 b:Bd 16777216 p
abbrev Qb(q:Rat):Prop:=Qs 16777216 q
abbrev Cb(k:Crv):Prop:=Cs 1048576 16 k
def Hi(a b:Crv):Ft:=Ma (Gs b.x a.d) (Gs a.x b.d)
def Hh(a b:Crv):Ft:=Ma (Gs b.y a.d) (Gs a.y b.d)
theorem pG{a b:Crv}(ha:Cb a)(hb:Cb b):Pb (Hi a b)/\(Hi a b).length<=16/\Bd 2097153 (Hi a b):=by
 have h1:Bd 2097153 (Hi a b):=Gd (Dh (G9 hb.x ha.d) (G9 ha.x hb.d)) (by omega);have h2:(Hi a b).length<=16:=by
  refine Qe (Mm _ _) ?_;have:=Gz b.x a.d;have:=Gz a.x b.d;have:=ha.lx;have:=hb.lx;omega
 exact⟨⟨Gk _ _,by omega,Gd h1 (by omega)⟩,h2,h1⟩
theorem pU{a b:Crv}(ha:Cb a)(hb:Cb b):Pb (Hh a b)/\(Hh a b).length<=16/\Bd 2097153 (Hh a b):=by
 have h1:Bd 2097153 (Hh a b):=Gd (Dh (G9 hb.y ha.d) (G9 ha.y hb.d)) (by omega);have h2:(Hh a b).length<=16:=by
  refine Qe (Mm _ _) ?_;have:=Gz b.y a.d;have:=Gz a.y b.d;have:=ha.ly;have:=hb.ly;omega
 exact⟨⟨Gk _ _,by omega,Gd h1 (by omega)⟩,h2,h1⟩
def Af(sg:Ft->Int)(a b:Pt):Fu->Bool
 | []=>decide (a.id<b.id)
 |p::l=>if 0<p.length then decide (0<Hk sg p)else Af sg a b l
def JB(sg:Ft->Int)(a b:Pt):Bool:=Af sg a b [Hh b.c a.c,Hi b.c a.c]
def Rh(sg:Ft->Int)(a b:Pt):Bool:=Af sg a b [Hi a.c b.c,Hh a.c b.c]
end Orr
namespace Orr
open Go
structure Ct where
 kind:Int
 i0:Int
 i1:Int
 i2:Int
 i3:Int
 p:List Int
 want:Int
def Qsr:Ft->Ft->Bool
 |x::l,y::m=>if x=y then Qsr l m else decide (x<y)
 |_,_=>false
def Qxp(a b:Ct):Bool:=Qsr [a.kind,a.i0,a.i1,a.i2,a.i3] [b.kind,b.i0,b.i1,b.i2,b.i3]
def lL(out:List Ct)(c:Ct):Nat->Nat
 | 0=>0
 |
  k+1=>match out[k]? with
  |some x=>if Qxp c x=true then lL out c k else k+1
  |none=>k+1
theorem Qb8(out:List Ct)(c:Ct):∀k,lL out c k<=k
 | 0=>Qn _
 |
  k+1=>by
  simp only[lL]
  split
  ·split
   ·exact Nat.le_succ_of_le (Qb8 out c k)
   ·exact Qn _
  ·exact Qn _
def AS(out:List Ct)(c:Ct):List Ct:=out.take (lL out c out.length)++c::out.drop (lL out c out.length)
theorem Qjm(out:List Ct)(c:Ct):(AS out c).length=out.length+1:=by
 have:=Qb8 out c out.length;simp[AS];omega
theorem Qjn{out:List Ct}{c x:Ct}(h:x∈AS out c):x=c\/x∈out:=by
 simp only[AS,Qr,Qj]at h;rcases h with h|h|h
 ·exact .inr (Qq h)
 ·exact .inl h
 ·exact .inr (Q9 h)
def NE(l:List Ct):List Ct:=l.foldl AS []
theorem zA:∀(l acc:List Ct),(l.foldl AS acc).length=acc.length+l.length
 | [],acc=>by simp
 |c::l,acc=>by simp only[Z0];rw[zA l (AS acc c),Qjm];simp;omega
theorem Qfa(l:List Ct):(NE l).length=l.length:=by unfold NE;rw[zA];simp
theorem zI:∀(l acc:List Ct) {x:Ct},x∈l.foldl AS acc->x∈l\/x∈acc
 | [],acc,x,h=>.inr h
 |
  c::l,acc,x,h=>by
  simp only[Z0]at h;rcases zI l _ h with h|h
  ·exact .inl (Qi _ h)
  ·rcases Qjn h with rfl|h
   ·exact .inl (Qw ..)
   ·exact .inr h
theorem Qfb{l:List Ct}{x:Ct}(h:x∈NE l):x∈l:=by
 rcases zI l [] h with h|h
 ·exact h
 ·cases h
theorem Qjq{α:Type}(l:List α)(z x:α){k m':Nat}(hk:k<=l.length)(hm:m'=l.length-k) :
 ((l++[z]).take (k+1)++((l++[z]).drop k).take m'++(l++[z]).drop (k+1+m')).set k x=l.take k++x::l.drop k:=by
 subst hm;have e1:((l++[z]).drop k).take (l.length-k)=l.drop k:=by
  rw[Ke hk,Kf (by simp),Qp (by simp)]
 have e2:(l++[z]).drop (k+1+(l.length-k))=[]:=Yz (by simp;omega);rw[e1,e2,Xg];have e3:(l++[z]).take (k+1)=(l++[z]).take k++[(l++[z])[k]'(by simp;omega)]:=by rw[List.take_succ_eq_append_getElem]
 rw[e3,Kf hk,Zj,List.set_append,if_neg (by simp;omega)];simp[Z8 hk]
end Orr
namespace Orr
open Go Go.Proofs Tryz
set_option maxRecDepth 10000
abbrev pr(p:Ft):TV:=.one (pl p)
theorem Nw{p:Ft}{i:Nat}{z:Int}(h:p[i]? = some z):(p.map Sj)[i]? = some (Sj z):=Tk h
theorem LF(p:Ft):Fo 332 [pr p] [pr (trim p)]:=by
 refine Sk func332 rfl (ln 0 rfl rfl λhl=>?_);rw[Q4]at hl;refine Ff [] rfl ?_;refine lp (S:=Nat) 0 (λL1 n=>(3,.v (.oi n))::L1) (λ_=>[]) id (λn=>n<=p.length/\∀j x,n<=j->p[j]? = some x->x=0) (p.map Sj).length ⟨by simp,λj x h1 h2=>by
  have:=(Qd.1 h2).1;simp at h1;omega⟩ rfl (λ_ _=>rfl) rfl λn ⟨h1,h2⟩=>?_
 cases n with
 |zero=>exact Fh [.f (by simp),.f rfl,.i 0] rfl (by rw[mO h1 h2 (λh=>by omega)];simp[pl]) (by simp[Ge])
 |
  succ n =>
  obtain⟨x,hx⟩:=gxE (l:=p) (i:=n) (by omega);by_cases h0:x=0
  ·refine Fg [.t (by simp),.r 11 (v:=.oi n) (by simp),.x (Nw hx),.k YU,.t (by simp[h0]),.r 17 (v:=.oi n) (by simp)] rfl ?_;exact rd n (by simp) ⟨by omega,λj y h3 h4=>by
    rcases V8 h3 with rfl|h3
    ·rw[hx]at h4;injection h4 with h4;rw[<-h4,h0]
    ·exact h2 j y h3 h4⟩ rfl
  ·exact Fh [.t (by simp),.r 11 (v:=.oi n) (by simp),.x (Nw hx),.k YU,.f (by simp[h0]),.i (n+1)] rfl (by rw[mO h1 h2 (λ_=>⟨x,hx,h0⟩)];simp[pl,Kx]) (by simp[Ge] <;> omega)
theorem oU(p:Ft)(k:Nat):Fo 304 [pr p,.oi k] [.agg (Sj (p.getD k 0))]:=by
 by_cases h:k<p.length
 ·have hx:=Qg h;have e:p.getD k 0=p[k]:=by simp[List.getD,hx]
  rw[e];exact Fi func304 rfl [.t (by simp;omega),.x (Nw hx)] rfl
 ·have e:p.getD k 0=0:=by simp[List.getD,Qt (Vl h)]
  rw[e,Iz];exact Fi func304 rfl [.f (by simp;omega)] rfl
def zD(f:Nat->Fy)(z:Fy)(n k:Nat):Fz:=(List.range n).map λi=>if i<k then f i else z
theorem KF(f:Nat->Fy)(z:Fy)(n k:Nat):(zD f z n k).length=n:=by simp[zD]
theorem ZQ(f:Nat->Fy)(z:Fy)(n:Nat):List.replicate n z=zD f z n 0:=by
 refine X1 λi=>?_
 simp only[zD,Yu,Zb];by_cases h:i<n
 ·simp[h]
 ·simp[h]
theorem KU(f:Nat->Fy)(z:Fy)(n:Nat):zD f z n n=(List.range n).map f:=by
 refine Ud λi hi=>?_
 rw[if_pos (Kn.1 hi)]
theorem KG(f:Nat->Fy)(z:Fy){n k:Nat}(h:k<n):(zD f z n k).set k (f k)=zD f z n (k+1):=by
 refine X1 λi=>?_
 rw[Jz];simp only[zD,Zb,Q4,List.length_range,h,if_true];by_cases e:k=i
 ·subst e;simp[h]
 ·simp only[e,if_false];by_cases hi:i<n
  ·simp only[Jn hi,Yw];congr 1;by_cases h2:i<k
   ·rw[if_pos h2,if_pos (by omega)]
   ·rw[if_neg h2,if_neg (by omega)]
  ·simp[Qt,hi]
theorem yO{n fid:Nat}{l1 l2:Fy}{g:Nat->Int}(hn:n<274877906944)(h:∀k,k<n->yT prog fid [.oi k,.one (.sh l1),.one (.sh l2)] [.agg (Sj (g k))]):Fo 301 [.oi n,.one (.fn fid [] [.sh l1,.sh l2])] [pr (B8 n g)]:=by
 refine Sk func301 rfl ?_;refine Fg [.i n,.i n,.r 10 (eI (b:=(n:Int)) (by simp))] rfl ?_;rw[ZQ λk=>Sj (g k)];refine Fl (S:=Nat) 1 (λL1 k=>(11,.v (.oi k))::L1) (λk=>[.row false 55 2 (zD (λk=>Sj (g k)) [.bool false,.nils] n k)]) (λk=>n-k) (λk=>k<=n) 0 (Qh _) rfl rfl λk hk=>?_
 by_cases hlt:k<n
 ·refine go tt [.t (by simp;omega),.k (h k hlt),.i k] rfl (by simp[Ge,KF];omega) ?_;have e:=KG (λk=>Sj (g k)) [.bool false,.nils] hlt;rw[e];exact rd (k+1) (by omega) hlt rfl
 ·obtain rfl:k=n:=by omega
  have e:zD (λk=>Sj (g k)) [.bool false,.nils] k k=((List.range k).map g).map Sj:=by rw[KU];simp
  rw[e];exact Fh [.f (by simp),.k (LF _)] rfl
theorem oY{n fid:Nat}{l1:Fy}{g:Nat->Int}(hn:n<274877906944)(h:∀k,k<n->yT prog fid [.oi k,.one (.sh l1)] [.agg (Sj (g k))]):Fo 301 [.oi n,.one (.fn fid [] [.sh l1])] [pr (B8 n g)]:=by
 refine Sk func301 rfl ?_;refine Fg [.i n,.i n,.r 10 (eI (b:=(n:Int)) (by simp))] rfl ?_;rw[ZQ λk=>Sj (g k)];refine Fl (S:=Nat) 1 (λL1 k=>(11,.v (.oi k))::L1) (λk=>[.row false 55 2 (zD (λk=>Sj (g k)) [.bool false,.nils] n k)]) (λk=>n-k) (λk=>k<=n) 0 (Qh _) rfl rfl λk hk=>?_
 by_cases hlt:k<n
 ·refine go tt [.t (by simp;omega),.k (h k hlt),.i k] rfl (by simp[Ge,KF];omega) ?_;have e:=KG (λk=>Sj (g k)) [.bool false,.nils] hlt;rw[e];exact rd (k+1) (by omega) hlt rfl
 ·obtain rfl:k=n:=by omega
  have e:zD (λk=>Sj (g k)) [.bool false,.nils] k k=((List.range k).map g).map Sj:=by rw[KU];simp
  rw[e];exact Fh [.f (by simp),.k (LF _)] rfl
theorem Qtk{p q:Ft}(k:Nat)(hp:Bd 4294967295 p)(hq:Bd 4294967295 q):Fo 357 [.oi k,.one (.sh [pl p]),.one (.sh [pl q])] [.agg (Sj (p.getD k 0+q.getD k 0))] :=
 Fi func357 rfl [.k (oU p k),.k (oU q k),.k (LJ (Gl _) (Gl _) (G5 hp k) (G5 hq k))] rfl
theorem Qtu{p q:Ft}(k:Nat)(hp:Bd 4294967295 p)(hq:Bd 4294967295 q):Fo 302 [.oi k,.one (.sh [pl p]),.one (.sh [pl q])] [.agg (Sj (p.getD k 0-q.getD k 0))] :=
 Fi func302 rfl [.k (oU p k),.k (oU q k),.k (Qtv (Gl _) (Gl _) (G5 hp k) (G5 hq k))] rfl
theorem Pd{p:Ft}{k:Nat}(h:k<p.length):p[k]? = some (p.getD k 0):=by simp[List.getD,Qg h]
theorem Qgv{p:Ft}{c:Int}{k:Nat}(hk:k<p.length)(hp:Bd 4294967295 p)(hc:Gy c<=4294967295):Fo 305 [.oi k,.one (.sh [pl p]),.one (.sh (Sj c))] [.agg (Sj (p.getD k 0*c))] :=
 Fi func305 rfl [.x (Nw (Pd hk)),.k (Do (Gl _) (Gl _) (G5 hp k) hc)] rfl
theorem Qtq{p:Ft}{k:Nat}(hk:k<p.length)(hp:Bd 4294967295 p):Fo 396 [.oi k,.one (.sh [pl p])] [.agg (Sj (-(p.getD k 0)))] :=
 Fi func396 rfl [.x (Nw (Pd hk)),.k (gU (Gl _) (G5 hp k))] rfl
theorem Qdb{p:Ft}{k:Nat}(hk:k+1<p.length)(hl:p.length<274877906944)(hp:Bd 4294967295 p):Fo 359 [.oi k,.one (.sh [pl p])] [.agg (Sj (p.getD (k+1) 0*((k+1:Nat):Int)))] :=
 Fi func359 rfl [.x (Nw (Pd hk)),.r 10 (eI (b:=((k+1:Nat):Int)) (by omega)),.k (bH (by omega)),.k (Do (Gl _) (Gl _) (G5 hp _) (Qeg (show k+1<274877906944 by omega)))] rfl rfl (by simp[Ge] <;> omega)
theorem yL{p q:Ft}(hlp:p.length<274877906944)(hlq:q.length<274877906944)(hp:Bd 4294967295 p)(hq:Bd 4294967295 q):Fo 283 [pr p,pr q] [pr (Mt p q)] :=
 Fi func283 rfl [.r 9 (eI (b:=((max p.length q.length:Nat):Int)) (by simp;omega)),.k (yO (by omega) λk _=>Qtk k hp hq)] rfl
theorem SX{p q:Ft}(hlp:p.length<274877906944)(hlq:q.length<274877906944)(hp:Bd 4294967295 p)(hq:Bd 4294967295 q):Fo 193 [pr p,pr q] [pr (Ma p q)] :=
 Fi func193 rfl [.r 9 (eI (b:=((max p.length q.length:Nat):Int)) (by simp;omega)),.k (yO (by omega) λk _=>Qtu k hp hq)] rfl
theorem Qgq{p:Ft}(hlp:p.length<274877906944)(hp:Bd 4294967295 p):Fo 367 [pr p] [pr (Nn p)] :=
 Fi func367 rfl [.r 4 (eI (b:=(p.length:Int)) (by simp)),.k (oY hlp λk hk=>Qtq hk hp)] rfl
theorem Cy{p:Ft}{c:Int}(hlp:p.length<274877906944)(hp:Bd 4294967295 p)(hc:Gy c<=4294967295):Fo 194 [pr p,.agg (Sj c)] [pr (Gs p c)] :=
 Fi func194 rfl [.r 6 (eI (b:=(p.length:Int)) (by simp)),.k (yO hlp λk hk=>Qgv hk hp hc)] rfl
theorem KQ{p:Ft}(hlp:p.length<274877906944)(hp:Bd 4294967295 p):Fo 285 [pr p] [pr (Hn p)] :=
 Fi func285 rfl [.r 6 (eI (b:=((p.length-1:Nat):Int)) (by simp;omega)),.k (oY (by omega) λk hk=>Qdb (by omega) hlp hp)] rfl rfl (by simp[Ge];omega)
theorem Ap{ls:Fz}{p:Ft}(hi:IsInts ls p)(hl:p.length<274877906944)(hs:Bd 4294967295 p):Fo 235 [.one (.row ls)] [pr (trim p)]:=by
 refine Sk func235 rfl ?_;have hlen:=hi.len;refine Fg [.i ls.length,.i ls.length] rfl ?_;rw[ZQ λk=>Sj (p.getD k 0)];refine Fl (S:=Nat) 1 (λL1 k=>(11,.v (.oi k))::L1) (λk=>[.row false 55 2 (zD (λk=>Sj (p.getD k 0)) [.bool false,.nils] ls.length k)]) (λk=>ls.length-k) (λk=>k<=ls.length) 0 (Qh _) rfl rfl λk hk=>?_
 by_cases hlt:k<ls.length
 ·obtain⟨x,y,hx,hxy⟩:=hi.get (Pd (p:=p) (k:=k) (by omega));have cn:=XT hxy (G5 hs k);obtain⟨b,l,rfl,rfl,_⟩:=hxy;refine go tt [.t (by simp;omega),.x hx,.k cn,.i k] rfl (by simp[Ge,KF];omega) ?_;have e:=KG (λk=>Sj (p.getD k 0)) [.bool false,.nils] hlt;rw[e];exact rd (k+1) (by omega) hlt rfl
 ·obtain rfl:k=ls.length:=by omega
  have e:zD (λk=>Sj (p.getD k 0)) [.bool false,.nils] ls.length ls.length=p.map Sj:=by
   rw[KU,hlen];refine X1 λi=>?_
   by_cases hi:i<p.length
   ·simp[Jn hi,List.getD,Qg hi]
   ·simp[Qt,hi]
  rw[e];exact Fh [.f (by simp),.k (LF _)] rfl
theorem Ml{p:Ft}(ht:Gh p)(hl:p.length<274877906944)(hs:Bd 4294967295 p):Fo 235 [pr p] [pr p]:=by
 have:=Ap (Pe p) hl hs;rw[ht]at this;exact this
theorem Qpe{p:Ft}{i:Nat}{z:Int}(h:p[i]? = some z):(p.map λ(x:Int)=>[LV.int .i64 x])[i]? = some [.int .i64 z]:=Tk h
theorem Qw1{p:Ft}(hl:p.length<274877906944)(hr:∀z∈p,-9223372036854775808≤z/\z≤9223372036854775807):Fo 228 [.one (ids p)] [pr (trim p)]:=by
 refine Sk func228 rfl ?_;refine Fg [.r 7 (eI (b:=(p.length:Int)) (by simp)),.i p.length,.i p.length,.r 10 (eI (b:=(p.length:Int)) (by simp))] rfl ?_;rw[ZQ λk=>Sj (p.getD k 0)];refine Fl (S:=Nat) 1 (λL1 k=>(11,.v (.oi k))::L1) (λk=>[.row false 55 2 (zD (λk=>Sj (p.getD k 0)) [.bool false,.nils] p.length k)]) (λk=>p.length-k) (λk=>k<=p.length) 0 (Qh _) rfl rfl λk hk=>?_
 by_cases hlt:k<p.length
 ·have hg:=Pd hlt;refine go tt [.t (by simp;omega),.x (Qpe hg),.k (bH (hr _ (Qa hg))),.i k] rfl (by simp[Ge,KF];omega) ?_;have e:=KG (λk=>Sj (p.getD k 0)) [.bool false,.nils] hlt;rw[e];exact rd (k+1) (by omega) hlt rfl
 ·obtain rfl:k=p.length:=by omega
  have e:zD (λk=>Sj (p.getD k 0)) [.bool false,.nils] p.length p.length=p.map Sj:=by
   rw[KU];refine X1 λi=>?_
   by_cases hi:i<p.length
   ·simp[Jn hi,List.getD,Qg hi]
   ·simp[Qt,hi]
  rw[e];exact Fh [.f (by simp),.k (LF _)] rfl
theorem lT(l:Ft)(i:Nat)(z:Int):(l.map Sj).set i (Sj z)=(l.set i z).map Sj:=by rw[V1]
theorem CB(m:Nat):((List.replicate m [LV.bool false,LV.nils]).map λc=>c.map BF)=(List.replicate m (0:Int)).map Sj:=by
 simp[Iz,BF]
theorem yE{p0 q:Ft}{s t:Nat}(tq:Gh q)(hlp:p0.length<137438953472)(hlq:q.length<137438953472)(hp:Bd s p0)(hq:Bd t q)(hst:s+t<=4294967000):Fo 284 [pr p0,pr q] [pr (Gq (trim p0) q)]:=by
 have cp:=Ap (Pe p0) (by omega) (Gd hp (show s<=4294967295 by omega));have hp:=Md hp;have hlp:=Xj (Sr p0) hlp;obtain⟨p,ep⟩:=nmE (trim p0);rw[<-ep]at cp hp hlp ⊢;have cq:=Ml tq (by omega) (Gd hq (show t<=4294967295 by omega));by_cases h0:p.length=0
 ·have e:Gq p q=[]:=by unfold Gq;rw[if_pos (.inl h0)]
  rw[e];exact Fi func284 rfl [.k cp,.k cq,.t (by simp;exact Qf h0),.t rfl] rfl
 by_cases h1:q.length=0
 ·have e:Gq p q=[]:=by unfold Gq;rw[if_pos (.inr h1)]
  rw[e];exact Fi func284 rfl [.k cp,.k cq,.f (by simp;intro h;subst h;simp at h0),.t (by simp;exact Qf h1)] rfl
 refine Sk func284 rfl ?_;have e:Gq p q=trim (Lt p q (List.replicate (p.length+q.length-1) 0) p.length):=by unfold Gq;rw[if_neg (by omega)]
 rw[e];obtain⟨N,hN⟩:=nmE (p.length+q.length-1);rw[<-hN];obtain⟨o,ho⟩:=nmE (List.replicate N (0:Int));rw[<-ho];have hol:o.length=N:=by rw[ho];simp
 have ho0:∀m,o.getD m 0=0:=λm=>by rw[ho];exact Ty N m
 refine Fg [.k cp,.k cq,.f (by simp;intro h;subst h;simp at h0),.f (by simp;intro h;subst h;simp at h1),.r 27 (eI (b:=(N:Int)) (by simp;omega)),.i N,.i N] rfl ?_;refine nl 0 rfl rfl rfl ?_;rw[CB,<-ho];refine Fl (S:=Nat) 1 (λL1 i=>(31,.v (.oi i))::L1) (λi=>[.row false 55 2 ((Lt p q o i).map Sj)]) (λi=>p.length-i) (λi=>i<=p.length) 0 (Qh _) rfl rfl λi hi=>?_
 by_cases hlt:i<p.length
 ·refine Ff [.t (by simp;omega),.x (Nw (Pd hlt))] rfl ?_;refine Fl (S:=Nat) 2 (λL1 k=>(38,.v (.oi k))::L1) (λk=>[.row false 55 2 ((ZU (p.getD i 0) q i (Lt p q o i) k).map Sj),.blk 55 (Sj (p.getD i 0))]) (λk=>q.length-k) (λk=>k<=q.length) 0 (Qh _) rfl rfl λk hk=>?_
  by_cases hk2:k<q.length
  ·have hm1:Gy ((ZU (p.getD i 0) q i (Lt p q o i) k).getD (i+k) 0)<=4294967295:=Qe (O6 (t:=39) (kD (by rw[Lu];omega) (kC (λj hj=>by omega) ho0 (λi j=>C6 (G5 hp i) (G5 hq j))) (λj=>C6 (G5 hp i) (G5 hq j)) (i+k)) (Wj (show i+1<549755813888 by omega) (by decide))) (by omega);have hm2:Gy (p.getD i 0*q.getD k 0)<=4294967295:=Qe (Ho _ _) (by have:=G5 hp i;have:=G5 hq k;omega);have hg:(ZU (p.getD i 0) q i (Lt p q o i) k)[i+k]? = some ((ZU (p.getD i 0) q i (Lt p q o i) k).getD (i+k) 0):=Pd (by rw[ZH,Lu];omega);refine go tt [.t (by simp;omega),.x (Nw (Pd hk2)),.i (i+k),.x (Nw hg),.k (Do (Gl _) (Gl _) (Qe (G5 hp i) (by omega)) (Qe (G5 hq k) (by omega))),.k (LJ (Gl _) (Gl _) hm1 hm2),.i (i+k)] rfl (by simp[Ge,ZH,Lu] <;> omega) ?_;rw[lT];exact rd (k+1) (by omega) hk2 rfl
  ·obtain rfl:k=q.length:=by omega
   exact go tt [.f (by simp)] rfl (by simp[Ge];omega) (rd (i+1) (by omega) hlt rfl)
 ·obtain rfl:i=p.length:=by omega
  exact Fh [.f (by simp),.k (LF _)] rfl
theorem LQ{p q:Ft}{s t:Nat}(tp:Gh p)(tq:Gh q)(hlp:p.length<137438953472)(hlq:q.length<137438953472)(hp:Bd s p)(hq:Bd t q)(hst:s+t<=4294967000):Fo 284 [pr p,pr q] [pr (Gq p q)]:=by
 have h:=yE tq hlp hlq hp hq hst;rw[show trim p=p from tp]at h;exact h
theorem iP{p q:Ft}(hlp:p.length<274877906944)(hlq:q.length<274877906944)(hp:Bd 4294967295 p)(hq:Bd 4294967295 q):Fo 353 [pr p,pr q] [.one (.bool (decide (trim p=trim q)))]:=by
 refine Sk func353 rfl ?_;have cp:=Ap (Pe p) hlp hp;have cq:=Ap (Pe q) hlq hq;have bp:=Md hp;have bq:=Md hq;have l1:=Sr p;have l2:=Sr q;obtain⟨a,ha⟩:=nmE (trim p);obtain⟨b,hb⟩:=nmE (trim q);rw[<-ha]at cp bp l1 ⊢;rw[<-hb]at cq bq l2 ⊢;by_cases hl:a.length=b.length
 ·refine Ff [.k cp,.k cq,.f (by simp;omega)] rfl ?_;refine Fl (S:=Nat) 0 (λL1 i=>(18,.v (.oi i))::L1) (λ_=>[]) (λi=>a.length-i) (λi=>i<=a.length/\a.take i=b.take i) 0 ⟨Qh _,rfl⟩ rfl rfl λi ⟨hi,he⟩=>?_
  by_cases hlt:i<a.length
  ·have ga:=Pd hlt;have gb:=Pd (p:=b) (k:=i) (by omega);have cc:=yI (Gl (a.getD i 0)) (Gl (b.getD i 0)) (G5 bp i) (G5 bq i);by_cases hz:a.getD i 0=b.getD i 0
   ·refine Fg [.t (by simp;omega),.x (Nw ga),.x (Nw gb),.k cc,.f (by simpa using vW.2 hz)] rfl ?_;exact rd (i+1) (by omega) ⟨hlt,by rw[X2,X2,he,ga,gb,hz]⟩ rfl
   ·exact Fh [.t (by simp;omega),.x (Nw ga),.x (Nw gb),.k cc,.t (by have:=mt vW.1 hz;simpa using this)] rfl (by rw[decide_eq_false];intro h;exact hz (by rw[h])) trivial
  ·obtain rfl:i=a.length:=by omega
   rw[Za,hl,Za]at he;exact Fh [.f (by simp)] rfl (by rw[decide_eq_true he]) trivial
 ·exact Fh [.k cp,.k cq,.t (by simp;omega)] rfl (by rw[decide_eq_false];intro h;exact hl (by rw[h])) trivial
theorem Qgt{p:Ft}{n d:Int}{s t:Nat}(hl:p.length<274877906944)(hp:Bd s p)(hn:Gy n<=t)(hd:Gy d<=t)(hst:s+p.length*(t+1)+2*t+10<=4294967295):Fo 361 [pr p,.agg (Sj n),.agg (Sj d)] [.agg (Sj (Qql p n d))]:=by
 refine Sk func361 rfl ?_;refine Fg [.k (bH (z:=1) (by decide)),.r 13 (eI (b:=(p.length:Int)-1-((0:Nat):Int)) (by simp))] rfl ?_;refine nlb 3 rfl rfl rfl ?_;have e0:[LV.bool false,LV.nils].map BF=Sj (Bz p n d 0).1:=by simp[BF,Bz,Iz]
 rw[e0];refine Fl (S:=Nat) 5 (λL1 j=>(9,.v (.oi ((p.length:Int)-1-(j:Int))))::L1) (λj=>[.blk 55 (Sj n),.blk 55 (Sj d),.blk 55 [.bool false,.nils],.blk 55 (Sj (Bz p n d j).1),.blk 55 (Sj (Bz p n d j).2)]) (λj=>p.length-j) (λj=>j<=p.length) 0 (Qh _) rfl rfl λj hj=>?_
 have hv:=fZ (k:=j) hp hn hd;have hjl:j*(t+1)<=p.length*(t+1):=Qy _ (by omega);have hjl2:j*t<=j*(t+1):=Zl _ (by omega);by_cases hlt:j<p.length
 ·have hc:=G5 hp (p.length-1-j);have hm1:Gy ((Bz p n d j).1*n)<=4294967295:=Qe (Ho _ _) (by omega);have hm2:Gy (p.getD (p.length-1-j) 0*(Bz p n d j).2)<=4294967295:=Qe (Ho _ _) (by omega);refine go tt [.t (by simp;omega),.k (Do (Gl _) (Gl _) (by omega) (by omega)),.r 22 (eI (b:=((p.length-1-j:Nat):Int)) (by omega)),.x (Nw (Pd (p:=p) (k:=p.length-1-j) (by omega))),.k (Do (Gl _) (Gl _) (by omega) (by omega)),.k (LJ (Gl _) (Gl _) hm1 hm2),.k (Do (Gl _) (Gl _) (by omega) (by omega)),.r 17 (eI (b:=(p.length:Int)-1-((j+1:Nat):Int)) (by omega))] rfl (by simp[Ge] <;> omega) ?_;exact rd (j+1) (by omega) hlt rfl
 ·obtain rfl:j=p.length:=by omega
  exact Fh [.f (by simp;omega)] rfl
theorem XR{p:Ft}(tp:Gh p)(hl:p.length<274877906944)(hp:Bd 4294967295 p):Fo 393 [pr p] [.agg (Sj (p.getD (p.length-1) 0))]:=by
 have cn:=Ml tp hl hp;by_cases h0:p=[]
 ·subst h0;exact Fi func393 rfl [.k cn,.t (by simp)] rfl (by simp[Iz]) trivial
 ·have Ee:0<p.length:=Yx.2 h0;exact Fi func393 rfl [.k cn,.f (by simpa using h0),.r 12 (eI (b:=((p.length-1:Nat):Int)) (by simp;omega)),.x (Nw (Pd (by omega)))] rfl rfl (by simp[Ge];omega)
theorem Qsw{a b:Int}{q:Rat}(h1:a=q.num)(h2:b=(q.den:Int)):[sg a,mg a,sg b,mg b]=rl q:=by rw[h1,h2]
theorem LU{n d:Int}(h0:d≠0)(hn:Gy n<=4294967295)(hd:Gy d<=4294967295):Fo 380 [.agg (Sj n),.agg (Sj d)] [.agg (rl (Rat.divInt n d))]:=by
 have cg:=Qgk (Pe [n,d]) (λz hz=>by simp at hz;rcases hz with rfl|rfl <;> assumption);have gp:=tI (n:=n) h0;have gs:=Qbd (n:=n) h0 hd;have m1:=AY n d;have m2:=AU n d;obtain⟨g,hg⟩:=nmE (((Tx [n,d]:Nat):Int));rw[<-hg]at cg gp gs m1 m2;by_cases hneg:d<0
 ·obtain⟨e1,e2⟩:=Qpr (n:=n) hneg;rw[<-hg]at e1 e2;rw[<-Qsw e1 e2];exact Fi func380 rfl [.k cg,.t (by simpa using hneg),.k (gU (Gl n) hn),.k (gU (Gl d) hd),.k (Ob (Gl _) (Gl _) (by rw[T0];exact hn) gs (by omega) (Qbx m1)),.k (Ob (Gl _) (Gl _) (by rw[T0];exact hd) gs (by omega) (Qbx m2))] rfl
 ·obtain⟨e1,e2⟩:=kS (n:=n) (d:=d) (by omega);rw[<-hg]at e1 e2;rw[<-Qsw e1 e2];exact Fi func380 rfl [.k cg,.f (by simpa using hneg),.k (Ob (Gl _) (Gl _) hn gs (by omega) m1),.k (Ob (Gl _) (Gl _) hd gs (by omega) m2)] rfl
theorem oP{x y x' y':LV}{n d:Int}(h1:Mw x y n)(h2:Mw x' y' d)(hn:Gy n<=4294967295)(hd:Gy d<=4294967295):Fo 328 [.agg [x,y,x',y']] [.agg (rl (Sa n d))]:=by
 have c1:=XT h1 hn;have c2:=XT h2 hd;obtain⟨b,l,rfl,rfl,_⟩:=h1;obtain⟨b',l',rfl,rfl,_⟩:=h2;by_cases h0:d=0
 ·have e:Sa n d=Rat.divInt n 1:=by unfold Sa;rw[if_pos h0]
  rw[e];exact Fi func328 rfl [.k c2,.k YU,.t (by simpa using h0),.k (bH (z:=1) (by decide)),.k c1,.k (LU (by decide) hn (by decide))] rfl
 ·have e:Sa n d=Rat.divInt n d:=by unfold Sa;rw[if_neg h0]
  rw[e];exact Fi func328 rfl [.k c2,.k YU,.f (by simpa using h0),.k c1,.k (LU h0 hn hd)] rfl
theorem rF{q:Rat}(hq:Qs 4294967295 q):Fo 328 [.agg (rl q)] [.agg (rl q)]:=by
 have:=oP (Gl q.num) (Gl (q.den:Int)) hq.1 hq.2;rwa[Qcl]at this
theorem oZ{a b:Rat}(ha:Qs 2147483647 a)(hb:Qs 2147483647 b):Fo 381 [.agg (rl a),.agg (rl b)] [.agg (Sj (a.num*(b.den:Int))),.agg (Sj (b.num*(a.den:Int))),.agg (Sj ((a.den:Int)*(b.den:Int)))] :=
 Fi func381 rfl [.k (rF (ha.mono (by decide))),.k (rF (hb.mono (by decide))),.k (Do (Gl _) (Gl _) (Qe ha.1 (by decide)) (Qe hb.2 (by decide))),.k (Do (Gl _) (Gl _) (Qe hb.1 (by decide)) (Qe ha.2 (by decide))),.k (Do (Gl _) (Gl _) (Qe ha.2 (by decide)) (Qe hb.2 (by decide)))] rfl
theorem LP{a b:Rat}(ha:Qs 2147483647 a)(hb:Qs 2147483647 b):Fo 329 [.agg (rl a),.agg (rl b)] [.oi (Tn a b)] :=
 Fi func329 rfl [.k (oZ ha hb),.k (yI (Gl _) (Gl _) (Qe (Ho _ _) (by have:=ha.1;have:=hb.2;omega)) (Qe (Ho _ _) (by have:=hb.1;have:=ha.2;omega)))] rfl
theorem Qt4{x y x' y':LV}{n d:Int}(h1:Mw x y n)(h2:Mw x' y' d)(hn:Gy n<=4294967295)(hd:Gy d<=4294967295):Fo 223 [.agg [x,y,x',y'],.one (.row [])] [.agg (rl (Sa n d))]:=by
 have c1:=oP h1 h2 hn hd;obtain⟨b,l,rfl,rfl,_⟩:=h1;obtain⟨b',l',rfl,rfl,_⟩:=h2;refine Sk func223 rfl ?_;refine Ff [.k c1] rfl ?_;refine Fl (S:=Unit) 3 (λL1 _=>(12,.v (.oi 0))::L1) (λ_=>[.blk 57 [.bool b,.row (lm l),.bool b',.row (lm l')],.blk 57 [.bool false,.nils,.bool false,.nils],.blk 57 (rl (Sa n d))]) (λ_=>0) (λ_=>True) () trivial rfl rfl λ_ _=>?_
 exact Fh [.f (by simp)] rfl
theorem vY{q:Rat}(hq:Qs 4294967295 q):Fo 223 [.agg (rl q),.one (.row [])] [.agg (rl q)]:=by
 have:=Qt4 (Gl q.num) (Gl (q.den:Int)) hq.1 hq.2;rwa[Qcl]at this
theorem Qoc{q:Rat}(hq:Qs 4294967295 q):Fo 360 [.agg (rl q)] [.agg (rl q)]:=Fi func360 rfl [.k (vY hq)] rfl
theorem iM{p:Ft}{q:Rat}{s t:Nat}(tp:Gh p)(hl:p.length<274877906944)(hp:Bd s p)(hq:Qs t q)(hst:s+p.length*(t+1)+2*t+10<=4294967295):Fo 288 [pr p,.agg (rl q)] [.oi (Hq p q)]:=by
 have cc:=yI (Gl (Qql p q.num q.den)) dP (Qe (fZ hp hq.1 hq.2).1 (by omega)) (by decide);exact Fi func288 rfl [.k (Qoc (hq.mono (by omega))),.k (Ml tp hl (Gd hp (by omega))),.k (Qgt hl hp hq.1 hq.2 hst),.k cc] rfl
theorem Qha{p:Ft}{g:Int}(hl:p.length<274877906944)(hp:Bd 4294967295 p)(hg:Gy g≤4294967295)(h0:g≠0)(hd:∀z∈p,z % g=0):Fo 338 [pr p,.agg (Sj g)] [pr (trim (p.map (· / g)))]:=by
 refine Sk func338 rfl ?_;refine Fg [.r 9 (eI (b:=(p.length:Int)) (by simp)),.i p.length,.i p.length,.r 12 (eI (b:=(p.length:Int)) (by simp))] rfl ?_;rw[ZQ λk=>Sj (p.getD k 0 / g)];refine Fl (S:=Nat) 2 (λL1 k=>(13,.v (.oi k))::L1) (λk=>[.blk 55 (Sj g),.row false 55 2 (zD (λk=>Sj (p.getD k 0 / g)) [.bool false,.nils] p.length k)]) (λk=>p.length-k) (λk=>k<=p.length) 0 (Qh _) rfl rfl λk hk=>?_
 by_cases hlt:k<p.length
 ·have hg2:=Pd hlt;refine go tt [.t (by simp;omega),.x (Nw hg2),.k (Ob (Gl _) (Gl _) (G5 hp k) hg h0 (hd _ (Qa hg2))),.i k] rfl (by simp[Ge,KF];omega) ?_;have e:=KG (λk=>Sj (p.getD k 0 / g)) [.bool false,.nils] hlt;rw[e];exact rd (k+1) (by omega) hlt rfl
 ·obtain rfl:k=p.length:=by omega
  have e:zD (λk=>Sj (p.getD k 0 / g)) [.bool false,.nils] p.length p.length=(p.map (· / g)).map Sj:=by
   rw[KU];refine X1 λi=>?_
   by_cases hi:i<p.length
   ·simp[Jn hi,List.getD,Qg hi]
   ·simp[Qt,hi]
  rw[e];exact Fh [.f (by simp),.k (Ap (Pe (p.map (· / g))) (by simp;exact hl) (TO hp g))] rfl
theorem ID(p:Ft):∀c∈p.map Sj,c.length=2:=Qxt p λ_=>rfl
theorem oQ{lx ly:Fz}{px py:Ft}{x y:LV}{d:Int}(hx:IsInts lx px)(hy:IsInts ly py)(hd:Mw x y d)(hk:Cs 4294967294 1073741824 (Crv.mk px py d)):Fo 239 [.agg [.row lx,.row ly,x,y]] [.agg (cl (Crv.norm (Crv.mk px py d)))]:=by
 have hlx:=hk.lx;have hly:=hk.ly;simp only at hlx hly;have htx:=Sr px;have hty:=Sr py;have hd1:Gy (Crv.mk px py d).d'<=4294967295:=Qe (kY hk.d (by omega)) (by omega);have hg1:=Crv.isz_g (Crv.mk px py d) hd1;have hg0:=Crv.g_ne (Crv.mk px py d);have hgd:=Crv.g_dvd (Crv.mk px py d);have cx:=Ap hx (by omega) (Gd hk.x (by omega));have cy:=Ap hy (by omega) (Gd hk.y (by omega));have cd:=XT hd (Qe hk.d (by omega));have bx:Bd 4294967295 (trim px):=Gd (Md hk.x) (by omega);have by_:Bd 4294967295 (trim py):=Gd (Md hk.y) (by omega);obtain⟨b,l,rfl,rfl,_⟩:=hd;obtain⟨e,he⟩:=nmE ((Crv.mk px py d).d');obtain⟨g,hgg⟩:=nmE ((Crv.mk px py d).g);obtain⟨X,hX⟩:=nmE (trim px);obtain⟨Y,hY⟩:=nmE (trim py);have hnorm:(Crv.mk px py d).norm=⟨trim (X.map (· / g)),trim (Y.map (· / g)),e / g⟩:=by rw[he,hgg,hX,hY];rfl
 rw[hnorm];have hgdef:g=if e<0 then -((Tx (e::(X++Y)):Nat):Int)else(Tx (e::(X++Y)):Nat):=by rw[hgg,he,hX,hY];rfl
 have hde:e=if d=0 then 1 else d:=by rw[he];rfl
 simp only[<-he,<-hgg,<-hX,<-hY]at hd1 hg1 hg0 hgd htx hty cx cy bx by_;clear hnorm hgg he hX hY;refine Sk func239 rfl ?_;refine Ff [.k cx,.k cy,.k cd,.k YU] rfl ?_;refine ct 1 (S:=Unit) (λ_=>[(2,.v (.one (.ow 1 0))),(3,.v (pr X)),(4,.v (pr Y)),(5,.v (.one (.ow 2 0)))]) (λ_=>[.blk 74 [.row lx,.row ly,.bool b,.row (lm l)],.blk 74 [.nils,.nils,.bool false,.nils],.blk 55 (Sj e)]) (λ_=>True) rfl ?_ ?_
 ·by_cases h0:d=0
  ·rw[hde,if_pos h0];exact go tt [.t (by simpa using h0),.k (bH (z:=1) (by decide))] rfl trivial (rc () trivial rfl)
  ·rw[hde,if_neg h0];exact go tt [.f (by simpa using h0)] rfl trivial (rc () trivial rfl)
 ·intro _ _;have hgi:IsInts ([Sj e]++X.map Sj++Y.map Sj) (e::(X++Y)):=by
   have:=Pe (e::(X++Y));simpa using this
  have hgs:∀z∈e::(X++Y),Gy z≤4294967295:=λz hz=>by
   rcases Qj.1 hz with rfl|hz
   ·exact hd1
   ·rcases Qr.1 hz with hz|hz
    ·exact bx z hz
    ·exact by_ z hz
  have cg:=Qgk hgi hgs;have co1:=Qha (p:=X) (by omega) bx hg1 hg0 λz hz=>hgd z (Qi _ (Xv _ hz))
  have co2:=Qha (p:=Y) (by omega) by_ hg1 hg0 λz hz=>hgd z (Qi _ (Km _ hz))
  have ce:=Ob (Gl e) (Gl g) hd1 hg1 hg0 (hgd e (Qw ..));have hszg:=CJ hgs;by_cases hneg:e<0
  ·rw[if_pos hneg]at hgdef;have cn:=gU (Gl ((Tx (e::(X++Y)):Nat):Int)) hszg;rw[<-hgdef]at cn;exact Fh [.lo,.s (ID X),.s (ID Y),.k cg,.t (by simpa using hneg),.k cn,.k ce,.k co1,.k co2] rfl rfl (by simp[Ge];omega)
  ·rw[if_neg hneg]at hgdef;rw[<-hgdef]at cg;exact Fh [.lo,.s (ID X),.s (ID Y),.k cg,.f (by simpa using hneg),.k ce,.k co1,.k co2] rfl rfl (by simp[Ge];omega)
theorem iO{lx ly:Fz}{px py:Ft}{x y:LV}{d:Int}(hx:IsInts lx px)(hy:IsInts ly py)(hd:Mw x y d)(hk:Cs 4294967294 1073741824 (Crv.mk px py d))(h0:d≠0):Fo 300 [.one (.row lx),.one (.row ly),.agg [x,y]] [.agg (cl (Crv.norm (Crv.mk px py d))),.oi 0]:=by
 have cd:=XT hd (Qe hk.d (by omega));have cn:=oQ hx hy hd hk;obtain⟨b,l,rfl,rfl,_⟩:=hd;exact Fi func300 rfl [.k cd,.k YU,.f (by simpa using h0),.k cn] rfl
def Q0r(x y:Int):Crv:=Crv.norm ⟨trim [x],trim [y],0⟩

theorem uB(q:Rat):Gh [-q.num,(q.den:Int)]:=by
 have:=q.den_nz;simp[Gh,trim,this]
theorem Qr3{s:Nat}{q:Rat}(h:Qs s q):Bd s [-q.num,(q.den:Int)]:=λz hz=>by
 simp at hz;rcases hz with rfl|rfl
 ·rw[T0];exact h.1
 ·exact h.2
def I1(ps:Fu):Fz:=ps.map λp=>[pl p]
theorem Eo{ps:Fu}{i:Nat}{p:Ft}(h:ps[i]? = some p):(I1 ps)[i]? = some [pl p]:=Tk h
end Orr
namespace Orr
def Gp(p:Ft):Int:=p.getD (p.length-1) 0
def qQ(p:Ft):Option Ft:=if p.length<=64/\(p.all λz=>Nat.ble (Gy z) 16777216)=true then some p else none
def chq(q:Rat):Option Rat:=if Gy q.num<=16777216/\Gy (q.den:Int)<=16777216 then some q else none
def Mz(p:Ft):Int:=(Tx p:Nat)
def Al(p:Ft)(c:Int):Ft:=trim (p.map (· / c))
def Rl(p:Ft):Int:=if Gp p<0 then -Mz p else Mz p
def Gm(p:Ft):Ft:=if p.length=0 then []else Al p (Rl p)
def mono(i:Nat)(x:Int):Ft:=List.replicate i 0++[x]
def pA(b:Ft)(c:Int):Nat->Ft×Ft->Ft×Ft
 | 0,s=>s
 |
  i+1,(q,r) =>
  pA b c i (Mt (Gs q c) (mono i (if r.length=b.length+i then Gp r else 0)),Ma (Gs r c) (Gq (trim (mono i (if r.length=b.length+i then Gp r else 0))) b))
def Nx(a b:Ft):Ft:=(pA b (Gp b) (a.length+1-b.length) ([],a)).2
def Ck(a b r:Ft):Ft:=if (a.length+1-b.length) % 2=1/\Gp b<0 then Nn r else r
def I2(r:Ft):Ft:=if r.length=0 then []else Al r (Mz r)
def Rv(a b:Ft):Ft:=I2 (Ck a b (Nx a b))
def wS(b:Ft):Nat->Ft->Ft->Option Ft
 | 0,a,q=>if a.length=0 then some q else none
 |i+1,a,q=>if a.length<b.length+i then wS b i a q else if Gp a % Gp b=0 then wS b i (Ma a (Gq (trim (mono i (Gp a / Gp b))) b)) (q.set i (Gp a / Gp b))else none
def JY(a b:Ft):Option Ft:=if b.length=0 then none else(wS b (a.length+1-b.length) a (List.replicate (a.length+1-b.length) 0)).bind λq=>qQ (trim q)
def MH:Nat->Ft->Ft->Option Ft
 | 0,_,_=>none
 |k+1,a,b=>if b.length=0 then some a else(qQ (Rv a b)).bind λr=>MH k b r
def XX(a b:Ft):Option Ft:=(MH 66 (Gm a) (Gm b)).map Gm
def pS(a b:Ft):Option Ft:=(XX [] a).bind λg=>XX g b
def Me(a:Ft):Option Ft:=if (Gm a).length<2 then some (Gm a)else(qQ (Hn (Gm a))).bind λd=>(XX (Gm a) d).bind λg=>JY (Gm a) g
def AD:Nat->Ft->Option Fu
 | 0,_=>none
 |k+1,g=>if g.length<2 then some []else(qQ (Hn g)).bind λd=>(XX g d).bind λh=>(JY g h).bind λw=>(AD k h).bind λl=>some (w::l)
def dY:Fu->Option Fu
 | []=>some []
 | [w]=>some [w]
 |w::v::l=>(JY w v).bind λf=>(dY (v::l)).bind λr=>some (f::r)
def UI:Nat->Ft->Fu->Option Ft
 |_,p,[]=>some p
 |i,p,f::l=>if i % 2=0 then(qQ (Gq p f)).bind λq=>UI (i+1) q l else UI (i+1) p l
def Qeq(a:Ft):Option Ft:=if (Gm a).length=0 then some []else(AD 66 (Gm a)).bind λl=>(dY l).bind λfs=>UI 0 [1] fs
def OO:Nat->Ft->Ft->Option Fu
 | 0,_,_=>none
 |k+1,a,b=>if b.length=0 then some []else(qQ (Rv a b)).bind λr=>(OO k b (Nn r)).bind λl=>some (b::l)
def chain(p:Ft):Option Fu:=(Me p).bind λa=>if a.length=0 then none else(qQ (Hn a)).bind λd=>(OO 66 a (Gm d)).bind λl=>some (a::l)
def M8(sg:Ft->Int)(s:Nat×Int)(p:Ft):Nat×Int:=if sg p=0 then s else(if s.2=-(sg p)then s.1+1 else s.1,sg p)
def XV(sg:Ft->Int)(l:Fu):Nat:=(l.foldl (M8 sg) (0,0)).1
def Be(l:Fu)(q:Rat):Nat:=XV (λp=>Hq p q) l
def Rf(l:Fu)(lo hi:Rat):Int:=if Tn hi lo<0 then 0 else(Be l lo:Int)-(Be l hi:Int)
def Qd7(p:Ft):Int:=Int.sign (Gp p)
def Qd6(p:Ft):Int:=if p.length % 2=0 then -Int.sign (Gp p)else Int.sign (Gp p)
def uY(l:Fu):Int:=(XV Qd6 l:Int)-(XV Qd7 l:Int)
def most:Ft->Nat:=λl=>l.foldl (λm z=>if m<z.natAbs then z.natAbs else m) 0
def Hw(p:Ft):Rat:=Rat.divInt (((Gp p).natAbs:Int)+(most (p.take (p.length-1)):Int)) ((Gp p).natAbs:Int)
def O7(a b:Rat):Rat:=Rat.divInt (a.num*(b.den:Int)+b.num*(a.den:Int)) ((a.den:Int)*(b.den:Int)*2)
def I5(p:Ft)(c:Fu):Nat->Rat->Rat->Int->Option (List Tm)
 | 0,_,_,_=>none
 |k+1,lo,hi,n=>if n=0 then some []else if n=1 then some [⟨p,lo,hi⟩]else(chq (O7 lo hi)).bind λm=>(I5 p c k lo m (Rf c lo m)).bind λl=>(I5 p c k m hi (n-Rf c lo m)).bind λr=>some (l++r)
def OK(p:Ft):Option (List Tm):=(chain p).bind λc=>(Me p).bind λq=>(chq (Hw q)).bind λb=>I5 q c 100000 (-b) b (uY c)
def Tm.point(a:Tm):Bool:=decide (0<=Tn a.lo a.hi)
def low(p:Ft)(q:Rat):Int:=if Hq p q≠0 then Hq p q else Hq (Hn p) q
def BW(p:Ft)(lo hi:Rat):Bool:=decide (Hq p hi=0\/Hq p hi≠low p lo)
def Hl(a:Tm)(t:Rat):Int :=
 if a.point=true then Tn a.lo t else if Tn t a.lo<=0 then 1 else if 0<Tn t a.hi then -1 else if Hq a.p t=0 then 0 else if Hq a.p t=low a.p a.lo then 1 else -1
def half(a:Tm):Option Tm:=if a.point=true then some a else(chq (O7 a.lo a.hi)).bind λm =>
 some (if Hl a m=0 then ⟨a.p,m,m⟩else if Hl a m=-1 then ⟨a.p,a.lo,m⟩else ⟨a.p,m,a.hi⟩)
def Tw(p:Ft):Nat:=p.foldl (λn z=>max n (Gy z)) 0
def QY(a b:Tm):Nat:=64+2*(Gy a.lo.num+Gy a.hi.num+Gy b.lo.num+Gy b.hi.num)+4*(a.p.length+b.p.length)*(Tw a.p+Tw b.p+(a.p.length+b.p.length)+8)
def Qe6(a b:Rat):Rat:=Rat.divInt (a.num*(b.den:Int)-b.num*(a.den:Int)) ((a.den:Int)*(b.den:Int))
def ML(a b:Tm):Bool:=decide (Tn a.hi b.lo<=0/\¬((a.point=true/\b.point=true)/\Tn a.hi b.lo=0))
def nE:Nat->Tm->Tm->Option (Tm×Tm×Int)
 | 0,a,b=>some (a,b,0)
 |
  k+1,a,b=>if ML a b=true then some (a,b,-1)else if ML b a=true then some (a,b,1)else
  if 0<=Tn (Qe6 a.hi a.lo) (Qe6 b.hi b.lo)then(half a).bind λx=>nE k x b else(half b).bind λx=>nE k a x
def rM(a b:Tm):Option Int:=if a.point=true then some (-Hl b a.lo)else if b.point=true then some (Hl a b.lo)else
 let lo:=if 0<Tn b.lo a.lo then b.lo else a.lo
 let hi:=if Tn b.hi a.hi<0 then b.hi else a.hi
 if Tn lo hi<0 then(pS a.p b.p).bind λg=>if 1<g.length/\BW g lo hi=true then some 0 else(nE (QY a b) a b).bind λr=>some r.2.2
 else(nE (QY a b) a b).bind λr=>some r.2.2
def sgF(c:Fu):Nat->Tm->Option Tm
 | 0,a=>some a
 |k+1,a=>if a.point=true\/Rf c a.lo a.hi=0 then some a else(half a).bind λx=>sgF c k x
def UK(p:Ft)(a:Tm):Option Int:=if p.length=0 then some 0 else if a.point=true then some (Hq p a.lo)else
 (pS p a.p).bind λg=>if 1<g.length/\BW g a.lo a.hi=true then some 0 else(chain p).bind λc=>(sgF c (64+2*(Gy a.lo.num+Gy a.hi.num)+4*(a.p.length+p.length)*(Tw a.p+Tw p+(a.p.length+p.length)+8)) a).bind λx=>some (Hq p x.hi)
def AL:Tm->List Tm->Option Tm
 |b,[]=>some b
 |b,a::l=>(rM a b).bind λc=>AL (if c<0 then a else b) l
def xT(a:Tm):List Tm->Option (Option Tm)
 | []=>some none
 |r::l=>(rM r a).bind λc=>if 0<c then some (some r)else xT a l
def OL(p:Ft):Option (List Tm):=(Qeq p).bind λq=>if q.length=0 then some []else OK q
def xP(p:Ft)(a:Tm):Option (Option Tm):=(OL p).bind λl=>xT a l
end Orr
namespace Orr
open Go Go.Proofs Tryz
set_option maxRecDepth 10000
theorem Lq{p:Ft}(tp:Gh p)(h:p.length≠0):Gp p≠0:=Rz tp (by omega)
theorem sH{p:Ft}(h:p.length≠0):Gp p∈p:=Qa (Pd (by omega))
theorem Nl{s:Nat}{p:Ft}(h:Bd s p):Gy (Gp p)<=s:=G5 h _
theorem ZS{p:Ft}:∀z∈p,Mz p∣z:=YB
theorem ZP{p:Ft}(tp:Gh p)(h:p.length≠0):Mz p≠0:=λh0=>Lq tp h (Int.zero_dvd.1 (h0 ▸ ZS _ (sH h)))
theorem KN{p:Ft}(h:Bd 4294967295 p):Gy (Mz p)<=4294967295:=CJ h
theorem Qb7{p:Ft}(tp:Gh p)(h:p.length≠0):Rl p≠0:=by
 have:=ZP tp h;unfold Rl;split <;> omega
theorem HO{p:Ft}:∀z∈p,Rl p∣z:=λz hz=>by
 unfold Rl;split
 ·exact Fb.2 (ZS z hz)
 ·exact ZS z hz
theorem Qjs{p:Ft}(h:Bd 4294967295 p):Gy (Rl p)<=4294967295:=by
 unfold Rl;split
 ·rw[T0];exact KN h
 ·exact KN h
theorem DD{s:Nat}{p:Ft}(h:Bd s p)(c:Int):Bd s (Al p c):=Md (TO h c)
theorem xK(p:Ft)(c:Int):(Al p c).length<=p.length:=Qe (Sr _) (by simp)
theorem JU(p:Ft)(c:Int):Gh (Al p c):=Tl _
theorem Qko{p:Ft}(h:Pb p)(c:Int):Pb (Al p c):=⟨JU _ _,Qe (xK _ _) h.l,DD h.b c⟩
theorem wH:Pb []:=⟨rfl,by simp,YV⟩
theorem Nm{p:Ft}(h:Pb p):Pb (Gm p):=by
 unfold Gm;split
 ·exact wH
 ·exact Qko h _
theorem Pb.bd{p:Ft}(h:Pb p):Bd 4294967295 p:=Gd h.b (by omega)
theorem Pb.ln{p:Ft}(h:Pb p):p.length<274877906944:=Xj h.l (by omega)
theorem Pb.ln'{p:Ft}(h:Pb p):p.length<8589934592:=Xj h.l (by omega)
theorem YH{p q:Ft}(tp:Gh p)(h:qQ p=some q):q=p/\Pb p:=by
 unfold qQ at h
 split at h
 ·rename_i hc;injection h with h;refine⟨h.symm,tp,hc.1,λz hz=>?_⟩;have:=Jd.1 hc.2 z hz;exact Zm this
 ·cases h
theorem oJ{p:Ft}{g:Int}(hl:p.length<274877906944)(hp:Bd 4294967295 p)(hg:Gy g≤4294967295)(h0:g≠0)(hd:∀z∈p,g∣z):Fo 394 [pr p,.agg (Sj g)] [pr (Al p g)]:=by
 refine Sk func394 rfl ?_;refine Fg [.r 9 (eI (b:=(p.length:Int)) (by simp)),.i p.length,.i p.length,.r 12 (eI (b:=(p.length:Int)) (by simp))] rfl ?_;rw[ZQ λk=>Sj (p.getD k 0 / g)];refine Fl (S:=Nat) 2 (λL1 k=>(13,.v (.oi k))::L1) (λk=>[.blk 55 (Sj g),.row false 55 2 (zD (λk=>Sj (p.getD k 0 / g)) [.bool false,.nils] p.length k)]) (λk=>p.length-k) (λk=>k<=p.length) 0 (Qh _) rfl rfl λk hk=>?_
 by_cases hlt:k<p.length
 ·have hg2:=Pd hlt;refine go tt [.t (by simp;omega),.x (Nw hg2),.k (Ob (Gl _) (Gl _) (G5 hp k) hg h0 (Ys (hd _ (Qa hg2)))),.i k] rfl (by simp[Ge,KF];omega) ?_;have e:=KG (λk=>Sj (p.getD k 0 / g)) [.bool false,.nils] hlt;rw[e];exact rd (k+1) (by omega) hlt rfl
 ·obtain rfl:k=p.length:=by omega
  have e:zD (λk=>Sj (p.getD k 0 / g)) [.bool false,.nils] p.length p.length=(p.map (· / g)).map Sj:=by
   rw[KU];refine X1 λi=>?_
   by_cases hi:i<p.length
   ·simp[Jn hi,List.getD,Qg hi]
   ·simp[Qt,hi]
  rw[e];exact Fh [.f (by simp),.k (Ap (Pe (p.map (· / g))) (by simp;exact hl) (TO hp g))] rfl
theorem SQ{p:Ft}(hl:p.length<8589934592)(hp:Bd 4294967295 p):Fo 392 [.one (.row [[pl p]])] [.agg (Sj (Mz p))]:=by
 refine Sk func392 rfl ?_;refine Ff [.o 3 55 2] rfl ?_;refine Fl (S:=Nat) 2 (λL1 i=>(8,.v (.oi i))::(3,.v (.one (.orow 1 2 none)))::L1) (λi=>[.blk 55 [.bool false,.nils],.row false 55 2 (if i=0 then []else p.map Sj)]) (λi=>1-i) (λi=>i<=1) 0 (Qh _) rfl rfl λi hi=>?_
 rcases(show i=0\/i=1 by omega)with rfl|rfl
 ·refine Fg [.t rfl,.x (i:=0) (xs:=[pl p]) rfl,.s (ID p)] rfl ?_;exact rd 1 (by omega) (by omega) rfl
 ·exact Fh [.f rfl,.k (Qgk (Pe p) hp)] rfl
theorem Qhb{p:Ft}(tp:Gh p)(hl':p.length<8589934592)(hp:Bd 4294967295 p):Fo 365 [pr p] [.agg (Sj (if p.length=0 then 0 else Rl p)),pr (Gm p)]:=by
 have hl:p.length<274877906944:=by omega
 have cn:=Ml tp hl hp;by_cases h0:p.length=0
 ·have e:p=[]:=Qf h0;subst e;exact Fi func365 rfl [.k cn,.t rfl] rfl (by simp[Iz,Gm];rfl) trivial
 ·have hpf:Gm p=Al p (Rl p):=by unfold Gm;rw[if_neg h0]
  rw[if_neg h0,hpf];have co:=oJ hl hp (Qjs hp) (Qb7 tp h0) HO;by_cases hneg:Gp p<0
  ·have e:Rl p=-Mz p:=by unfold Rl;rw[if_pos hneg]
   rw[e]at co ⊢;exact Fi func365 rfl [.k cn,.f (by simpa using h0),.k (SQ hl' hp),.k (XR tp hl hp),.t (by simpa[Gp]using hneg),.k (gU (Gl _) (KN hp)),.k co] rfl
  ·have e:Rl p=Mz p:=by unfold Rl;rw[if_neg hneg]
   rw[e]at co ⊢;exact Fi func365 rfl [.k cn,.f (by simpa using h0),.k (SQ hl' hp),.k (XR tp hl hp),.f (by simpa[Gp]using hneg),.k co] rfl
theorem GF{p:Ft}(hp:Pb p):Fo 390 [pr p] [pr (Gm p)] :=
 Fi func390 rfl [.k (Qhb hp.t hp.ln' hp.bd)] rfl
theorem Ig(p:Ft):Fo 238 [pr p] [.oi ((p.length:Int)-1)]:=by
 have h:Fo 238 [pr p] [.oi (((p.map Sj).length:Int)-1)]:=Sk func238 rfl (ln 0 rfl rfl λhl=>Fh [] rfl rfl (by simp[Ge]at hl ⊢;omega));rw[Q4]at h;exact h
theorem ZK(i:Nat)(x:Int):(mono i x).length=i+1:=by simp[mono]
theorem DN{s i:Nat}{x:Int}(h:Gy x<=s):Bd s (mono i x):=λz hz=>by
 simp only[mono,Qr,Qo]at hz;rcases hz with hz|rfl
 ·rw[(List.mem_replicate.1 hz).2,C5];exact Qh _
 ·exact h
def stq(c:Int)(i:Nat)(x:Int)(q:Ft):Ft:=Mt (Gs q c) (mono i x)
def str(b:Ft)(c:Int)(i:Nat)(x:Int)(r:Ft):Ft:=Ma (Gs r c) (Gq (trim (mono i x)) b)
theorem Qti{u t i:Nat}{c x:Int}{q:Ft}(hq:Bd u q)(hc:Gy c<=t)(hx:Gy x<=u):Bd (u+t+8) (stq c i x q) :=
 Gd (Oa (G9 hq hc) (DN hx)) (by omega)
theorem Qpn{c x:Int}{i:Nat}{q:Ft}:(stq c i x q).length<=max q.length (i+1):=by
 have h:=E5 (Gs q c) (mono i x);have h1:=Gz q c;rw[ZK]at h;unfold stq;omega
theorem kW{i:Nat}{x:Int}{b:Ft}:(Gq (trim (mono i x)) b).length<=i+b.length:=by
 have h:=Te (trim (mono i x)) b;have h1:=Sr (mono i x);rw[ZK]at h1;omega
theorem iG{u t i:Nat}{x:Int}{b:Ft}(hb:Bd t b)(hx:Gy x<=u)(hi:i<=64):Bd (u+t+7) (Gq (trim (mono i x)) b) :=
 Si (Md (DN hx)) hb (Xj (Sr _) (by rw[ZK];omega))
theorem bZ{u t i:Nat}{c x:Int}{b r:Ft}(hr:Bd u r)(hb:Bd t b)(hc:Gy c<=t)(hx:Gy x<=u)(hi:i<=64):Bd (u+t+8) (str b c i x r) :=
 Gd (Dh (G9 hr hc) (iG hb hx hi)) (by omega)
theorem kG{c x:Int}{i:Nat}{b r:Ft}:(str b c i x r).length<=max r.length (i+b.length):=by
 have h:=Mm (Gs r c) (Gq (trim (mono i x)) b);have h1:=Gz r c;have h2:=kW (i:=i) (x:=x) (b:=b);unfold str;omega
theorem sC(i:Nat)(x:Int):((List.replicate (i+1) (0:Int)).map Sj).set i (Sj x)=(mono i x).map Sj:=by
 rw[lT,mono];congr 1;refine X1 λj=>?_
 simp only[Jz,List.getElem?_append,Yu,Jj];by_cases h:j=i
 ·subst h;simp
 ·rw[if_neg (by omega)];by_cases h2:j<i
  ·simp[h2];omega
  ·rw[if_neg (by omega),if_neg h2];cases hj:j-i with
   |zero=>omega
   |succ m=>simp
theorem Qbv(i:Nat){x:Int}{y:Fy}(h:y.map BF=Sj x):(((List.replicate (i+1) [LV.bool false,LV.nils]).set i y).map λc=>c.map BF)=(mono i x).map Sj:=by
 rw[V1,CB,h];exact sC i x
theorem VS{b:Ft}{c:Int}{i:Nat}{q r:Ft}{x:Int}(hx:x=if r.length=b.length+i then Gp r else 0):pA b c (i+1) (q,r)=pA b c i (stq c i x q,str b c i x r):=by
 subst hx;rfl
theorem Qgs{a b:Ft}(ha:Pb a)(hb:Pb b)(h0:b.length≠0):Fo 395 [pr a,pr b] [pr (pA b (Gp b) (a.length+1-b.length) ([],a)).1,pr (Nx a b),.oi ((a.length+1-b.length:Nat):Int),.oi 0]:=by
 have hal:=ha.l;have hbl:=hb.l;have hlb:Gy (Gp b)<=16777216:=Nl hb.b;obtain⟨c,hc⟩:=nmE (Gp b);have cl:=XR hb.t hb.ln hb.bd;rw[show b.getD (b.length-1) 0=c from hc.symm]at cl;obtain⟨k,hk⟩:=nmE (a.length+1-b.length);unfold Nx;rw[<-hc,<-hk];rw[<-hc]at hlb;refine Sk func395 rfl ?_;refine Fg [.z 4,.k (Ml ha.t ha.ln ha.bd),.k (Ml hb.t hb.ln hb.bd),.f (by simpa using h0),.k cl,.k (Ig a),.k (Ig b),.r 27 (eI (b:=(k:Int)) (by omega))] rfl ?_;refine Fl (S:=Nat×Ft×Ft) 1 (λL1 s=>(4,.v (pr s.2.1))::(5,.v (pr s.2.2))::(9,.v (.oi ((s.1:Int)-1)))::L1) (λ_=>[.blk 55 (Sj c)]) (λs=>s.1) (λs=>s.1<=k/\Gh s.2.2/\s.2.1.length<=66/\s.2.2.length<=a.length/\Bd (16777216+(k-s.1)*16777224) s.2.1/\Bd (16777216+(k-s.1)*16777224) s.2.2/\pA b c s.1 s.2=pA b c k ([],a)) (k,[],a) ⟨Qn _,ha.t,by simp,Qn _,YV,by simpa using ha.b,rfl⟩ rfl rfl λ⟨i,q,r⟩ ⟨j1,j2,j3,j4,j5,j6,j7⟩=>?_
 dsimp only at j1 j2 j3 j4 j5 j6 j7 ⊢;rw[<-j7];cases i with
 |zero=>exact Fh [.f (by simp)] rfl
 |
  succ i =>
  obtain⟨x,hx⟩:=nmE (if r.length=b.length+i then Gp r else 0);obtain⟨u,hu⟩:=nmE (16777216+(k-(i+1))*16777224);rw[<-hu]at j5 j6;have hub:u<=1107296256:=by
   have:(k-(i+1))*16777224<=64*16777224:=Qy _ (by omega);omega
  have hxs:Gy x<=u:=by
   rw[hx];split
   ·exact Nl j6
   ·rw[C5];exact Qh _
  have cs:=Cy (p:=q) (c:=c) (by omega) (Gd j5 (by omega)) (by omega);have cs2:=Cy (p:=r) (c:=c) (by omega) (Gd j6 (by omega)) (by omega);have l1:=Gz q c;have l2:=Gz r c;have ca:=yL (p:=Gs q c) (q:=mono i x) (by omega) (by rw[ZK];omega) (Gd (G9 j5 hlb) (by omega)) (Gd (DN hxs) (by omega));have cm:=yE (p0:=mono i x) hb.t (by rw[ZK];omega) (by omega) (DN hxs) hb.b (by omega);have l3:=kW (i:=i) (x:=x) (b:=b);have cb:=SX (p:=Gs r c) (q:=Gq (trim (mono i x)) b) (by omega) (by omega) (Gd (G9 j6 hlb) (by omega)) (Gd (iG hb.b hxs (by omega)) (by omega));have hst:=VS (b:=b) (c:=c) (q:=q) hx;have hI:i<=k/\Gh (str b c i x r)/\(stq c i x q).length<=66/\(str b c i x r).length<=a.length/\Bd (16777216+(k-i)*16777224) (stq c i x q)/\Bd (16777216+(k-i)*16777224) (str b c i x r):=by
   have l5:=Qpn (c:=c) (x:=x) (i:=i) (q:=q);have l6:=kG (c:=c) (x:=x) (i:=i) (b:=b) (r:=r);have hku:u+16777216+8=16777216+(k-i)*16777224:=by
    rw[hu,show k-i=(k-(i+1))+1 from by omega,Yf];omega
   refine⟨by omega,Gk _ _,by omega,by omega,?_,?_⟩
   ·rw[<-hku];exact Qti j5 hlb hxs
   ·rw[<-hku];exact bZ j6 hb.b hlb hxs (by omega)
  rw[hst];by_cases h:r.length=b.length+i
  ·refine Fg [.t (by simp <;> omega),.k (Ig r),.k (Ig b),.t (by simp;omega),.k (XR j2 (by omega) (Gd j6 (by omega))),.r 44 (eI (b:=((i+1:Nat):Int)) (by omega)),.i (i+1),.i (i+1),.r 47 (eI (b:=(i:Int)) (by omega)),.i i] rfl ?_;refine nl 2 rfl rfl rfl ?_;rw[Qbv i (x:=x) (by rw[hx,if_pos h];rfl)];refine Fg [.k cs,.k ca,.k cs2,.k cm,.k cb,.r 33 (eI (b:=(i:Int)-1) (by omega))] rfl ?_;exact rd (i,stq c i x q,str b c i x r) (by dsimp only;omega) ⟨hI.1,hI.2.1,hI.2.2.1,hI.2.2.2.1,hI.2.2.2.2.1,hI.2.2.2.2.2,rfl⟩ rfl
  ·refine Fg [.t (by simp <;> omega),.k (Ig r),.k (Ig b),.f (by simp;omega),.r 44 (eI (b:=((i+1:Nat):Int)) (by omega)),.i (i+1),.i (i+1),.r 47 (eI (b:=(i:Int)) (by omega)),.i i] rfl ?_;refine nl 2 rfl rfl rfl ?_;rw[Qbv i (x:=x) (by rw[hx,if_neg h,Iz];rfl)];refine Fg [.k cs,.k ca,.k cs2,.k cm,.k cb,.r 33 (eI (b:=(i:Int)-1) (by omega))] rfl ?_;exact rd (i,stq c i x q,str b c i x r) (by dsimp only;omega) ⟨hI.1,hI.2.1,hI.2.2.1,hI.2.2.2.1,hI.2.2.2.2.1,hI.2.2.2.2.2,rfl⟩ rfl
theorem Qk1{b:Ft}{c:Int}(hb:Bd 16777216 b)(hc:Gy c<=16777216){n:Nat}:∀(i u:Nat) (q r:Ft),i<=64->i+b.length<=n+1->Gh r->r.length<=n->Bd u r->Gh (pA b c i (q,r)).2/\(pA b c i (q,r)).2.length<=n/\Bd (u+i*16777224) (pA b c i (q,r)).2
 | 0,u,q,r,_,_,h1,h2,h3=>⟨h1,h2,by simpa[pA]using h3⟩
 |
  i+1,u,q,r,hi,hn,h1,h2,h3=>by
  rw[VS rfl];have hx:Gy (if r.length=b.length+i then Gp r else 0)<=u:=by
   split
   ·exact Nl h3
   ·rw[C5];exact Qh _
  have l6:=kG (c:=c) (x:=if r.length=b.length+i then Gp r else 0) (i:=i) (b:=b) (r:=r);have:=Qk1 hb hc (n:=n) i (u+16777216+8) (stq c i (if r.length=b.length+i then Gp r else 0) q) (str b c i (if r.length=b.length+i then Gp r else 0) r) (by omega) (by omega) (Gk _ _) (by omega) (bZ h3 hb hc hx (by omega));exact⟨this.1,this.2.1,Gd this.2.2 (by omega)⟩
theorem Qcb{a b:Ft}(ha:Pb a)(hb:Pb b)(h0:b.length≠0):Gh (Nx a b)/\(Nx a b).length<=a.length/\Bd 1107296256 (Nx a b):=by
 have hal:=ha.l;by_cases h:b.length<=a.length+1
 ·obtain⟨h1,h2,h3⟩:=Qk1 hb.b (Nl hb.b) (n:=a.length) (a.length+1-b.length) 16777216 [] a (by omega) (by omega) ha.t (Qn _) ha.b;refine⟨h1,h2,Gd h3 ?_⟩;have:(a.length+1-b.length)*16777224<=64*16777224:=Qy _ (by omega);omega
 ·have e:Nx a b=a:=by unfold Nx;rw[show a.length+1-b.length=0 from by omega];rfl
  rw[e];exact⟨ha.t,Qn _,Gd ha.b (by omega)⟩
theorem RY{a b r:Ft}{s n:Nat}(h1:Gh r)(h2:r.length<=n)(h3:Bd s r):Gh (Ck a b r)/\(Ck a b r).length<=n/\Bd s (Ck a b r):=by
 unfold Ck;split
 ·exact⟨Gk _ _,Qe (Lr r) h2,XG h3⟩
 ·exact⟨h1,h2,h3⟩
theorem IL{r:Ft}{s n:Nat}(h2:r.length<=n)(h3:Bd s r):Gh (I2 r)/\(I2 r).length<=n/\Bd s (I2 r):=by
 unfold I2;split
 ·exact⟨rfl,by simp,YV⟩
 ·exact⟨JU _ _,Qe (xK _ _) h2,DD h3 _⟩
theorem RX{a b:Ft}(ha:Pb a)(hb:Pb b)(h0:b.length≠0):Gh (Rv a b)/\(Rv a b).length<=a.length/\Bd 1107296256 (Rv a b):=by
 obtain⟨h1,h2,h3⟩:=Qcb ha hb h0;obtain⟨h4,h5,h6⟩:=RY (a:=a) (b:=b) h1 h2 h3;exact IL h5 h6
theorem Qgu{a b:Ft}(ha:Pb a)(hb:Pb b)(h0:b.length≠0):Fo 366 [pr a,pr b] [pr (Rv a b),.oi 0]:=by
 obtain⟨h1,h2,h3⟩:=Qcb ha hb h0;obtain⟨h4,h5,h6⟩:=RY (a:=a) (b:=b) h1 h2 h3;have hal:=ha.l;have cp:=Qgs ha hb h0;have cl:=XR hb.t hb.ln hb.bd;have cn:=Qgq (p:=Nx a b) (by omega) (Gd h3 (by omega));unfold Rv;obtain⟨r,hr⟩:=nmE (Ck a b (Nx a b));have cc:=SQ (p:=r) (by rw[hr];omega) (by rw[hr];exact Gd h6 (by omega));rw[<-hr]at h4 h5 h6 ⊢;obtain⟨k,hk⟩:=nmE (a.length+1-b.length);rw[<-hk]at cp;have em:((k:Int).tmod 2)=((k % 2:Nat):Int):=by rw[Vs (by omega)];omega
 have key:I2 r=if r.length=0 then []else Al r (Mz r):=rfl
 by_cases hz:r.length=0
 ·rw[key,if_pos hz];by_cases hodd:k % 2=1
  ·by_cases hneg:Gp b<0
   ·have e:r=Nn (Nx a b):=by rw[hr];unfold Ck;rw[if_pos ⟨by rw[<-hk];exact hodd,hneg⟩]
    rw[e]at hz;exact Fi func366 rfl [.k cp,.f (by simp),.r 22 (eI em),.t (by simp;omega),.k cl,.t (by simpa[Gp]using hneg),.k cn,.t (by simpa using hz)] rfl rfl (by simp[Ge])
   ·have e:r=Nx a b:=by rw[hr];unfold Ck;rw[if_neg (λh=>hneg h.2)]
    rw[e]at hz;exact Fi func366 rfl [.k cp,.f (by simp),.r 22 (eI em),.t (by simp;omega),.k cl,.f (by simpa[Gp]using hneg),.t (by simpa using hz)] rfl rfl (by simp[Ge])
  ·have e:r=Nx a b:=by rw[hr];unfold Ck;rw[if_neg (λh=>hodd (by rw[hk];exact h.1))]
   rw[e]at hz;exact Fi func366 rfl [.k cp,.f (by simp),.r 22 (eI em),.f (by simp;omega),.f rfl,.t (by simpa using hz)] rfl rfl (by simp[Ge])
 ·rw[key,if_neg hz];have cd:=oJ (p:=r) (g:=Mz r) (by omega) (Gd h6 (by omega)) (KN (Gd h6 (by omega))) (ZP h4 hz) ZS;by_cases hodd:k % 2=1
  ·by_cases hneg:Gp b<0
   ·have e:r=Nn (Nx a b):=by rw[hr];unfold Ck;rw[if_pos ⟨by rw[<-hk];exact hodd,hneg⟩]
    rw[e]at hz cc cd ⊢;exact Fi func366 rfl [.k cp,.f (by simp),.r 22 (eI em),.t (by simp;omega),.k cl,.t (by simpa[Gp]using hneg),.k cn,.f (by simpa using hz),.k cc,.k cd] rfl rfl (by simp[Ge])
   ·have e:r=Nx a b:=by rw[hr];unfold Ck;rw[if_neg (λh=>hneg h.2)]
    rw[e]at hz cc cd ⊢;exact Fi func366 rfl [.k cp,.f (by simp),.r 22 (eI em),.t (by simp;omega),.k cl,.f (by simpa[Gp]using hneg),.f (by simpa using hz),.k cc,.k cd] rfl rfl (by simp[Ge])
  ·have e:r=Nx a b:=by rw[hr];unfold Ck;rw[if_neg (λh=>hodd (by rw[hk];exact h.1))]
   rw[e]at hz cc cd ⊢;exact Fi func366 rfl [.k cp,.f (by simp),.r 22 (eI em),.f (by simp;omega),.f rfl,.f (by simpa using hz),.k cc,.k cd] rfl rfl (by simp[Ge])
theorem Qpi{s:Nat}{x:Int}(h:Gy x<=s)(g:Int):Gy (x / g)<=s:=TO (p:=[x]) (λz hz=>by rw[Qo.1 hz];exact h) g _ (by simp)
def sta(b:Ft)(i:Nat)(x:Int)(a:Ft):Ft:=Ma a (Gq (trim (mono i x)) b)
theorem Qth{u t i:Nat}{x:Int}{b a:Ft}(ha:Bd u a)(hb:Bd t b)(hx:Gy x<=u)(hi:i<=64):Bd (u+t+8) (sta b i x a) :=
 Gd (Dh ha (iG hb hx hi)) (by omega)
theorem Qbn{x:Int}{i:Nat}{b a:Ft}:(sta b i x a).length<=max a.length (i+b.length):=by
 have h:=Mm a (Gq (trim (mono i x)) b);have h2:=kW (i:=i) (x:=x) (b:=b);unfold sta;omega
theorem Qn3(s n:Nat):Bd s (List.replicate n 0):=λz hz=>by rw[(List.mem_replicate.1 hz).2,C5];exact Qh _
theorem Qtg{s i:Nat}{l:Ft}{x:Int}(h:Bd s l)(hx:Gy x<=s):Bd s (l.set i x):=λz hz=>by
 rcases Y8 hz with hz|rfl
 ·exact h z hz
 ·exact hx
theorem Qgp{a b q:Ft}(ha:Pb a)(hb:Pb b)(h:JY a b=some q):Fo 408 [pr a,pr b] [pr q,.oi 0]:=by
 unfold JY at h
 split at h
 ·cases h
 rename_i h0;obtain⟨k,hk⟩:=nmE (a.length+1-b.length);rw[<-hk]at h;obtain⟨q',hq,hq2⟩:=Qk.1 h;obtain⟨rfl,hpb⟩:=YH (Tl _) hq2;have hal:=ha.l;have hbl:=hb.l;refine Sk func408 rfl ?_;refine Fg [.k (Ml ha.t ha.ln ha.bd),.k (Ml hb.t hb.ln hb.bd),.f (by simpa using h0),.r 24 (eI (b:=(k:Int)) (by simp;omega)),.i k,.i k,.r 27 (eI (b:=(k:Int)) (by simp))] rfl ?_;refine nl 0 rfl rfl rfl ?_;rw[CB];refine Fl (S:=Nat×Ft×Ft) 1 (λL1 s=>(0,.v (pr s.2.1))::(7,.v (.oi ((s.1:Int)-1)))::L1) (λs=>[.row false 55 2 (s.2.2.map Sj)]) (λs=>s.1) (λs=>s.1<=k/\Gh s.2.1/\s.2.1.length<=a.length/\Bd (16777216+(k-s.1)*16777224) s.2.1/\s.2.2.length=k/\Bd 1107296256 s.2.2/\wS b s.1 s.2.1 s.2.2=some q') (k,a,List.replicate k 0) ⟨Qn _,ha.t,Qn _,by simpa using ha.b,by simp,Qn3 _ _,hq⟩ rfl rfl λ⟨i,A,Q⟩ ⟨j1,j2,j3,j4,j5,j7,j6⟩=>?_
 dsimp only at j1 j2 j3 j4 j5 j6 j7 ⊢;cases i with
 |
  zero =>
  simp only[wS]at j6
  split at j6
  ·rename_i hA;injection j6 with j6;subst j6;exact Fh [.f (by simp),.f (by simpa using hA),.k (Ap (Pe Q) (by omega) (Gd j7 (by omega)))] rfl
  ·cases j6
 |
  succ i =>
  obtain⟨u,hu⟩:=nmE (16777216+(k-(i+1))*16777224);rw[<-hu]at j4;have hub:u<=1107296256:=by
   have:(k-(i+1))*16777224<=64*16777224:=Qy _ (by omega);omega
  have hku:u+16777216+8=16777216+(k-i)*16777224:=by
   rw[hu,show k-i=(k-(i+1))+1 from by omega,Yf];omega
  simp only[wS]at j6;by_cases hlt:A.length<b.length+i
  ·rw[if_pos hlt]at j6;refine Fg [.t (by simp <;> omega),.k (Ig A),.k (Ig b),.t (by simp;omega),.r 32 (eI (b:=(i:Int)-1) (by omega))] rfl ?_;exact rd (i,A,Q) (by dsimp only;omega) ⟨by dsimp only;omega,j2,j3,Gd j4 (by dsimp only;omega),j5,j7,j6⟩ rfl
  ·rw[if_neg hlt]at j6
   split at j6
   ·rename_i hdv;obtain⟨x,hx⟩:=nmE (Gp A / Gp b);rw[<-hx]at j6;have hxs:Gy x<=u:=by rw[hx];exact Qpi (Nl j4) _
    have ce:=Ob (Gl (Gp A)) (Gl (Gp b)) (Qe (Nl j4) (by omega)) (Qe (Nl hb.b) (by omega)) (Lq hb.t h0) hdv;rw[<-hx]at ce;have cm:Fo 284 [.one (.row ((mono i x).map Sj)),pr b] [pr (Gq (trim (mono i x)) b)]:=yE (p0:=mono i x) hb.t (by rw[ZK];omega) (by omega) (DN hxs) hb.b (by omega);have l3:=kW (i:=i) (x:=x) (b:=b);have l4:=Qbn (i:=i) (x:=x) (b:=b) (a:=A);have cb:=SX (p:=A) (q:=Gq (trim (mono i x)) b) (by omega) (by omega) (Gd j4 (by omega)) (Gd (iG hb.b hxs (by omega)) (by omega));refine Fg [.t (by simp <;> omega),.k (Ig A),.k (Ig b),.f (by simp;omega),.k (XR j2 (by omega) (Gd j4 (by omega))),.k (XR hb.t hb.ln hb.bd),.k ce,.f rfl,.r 51 (eI (b:=(i:Int)) (by omega)),.i i,.r 55 (eI (b:=((i+1:Nat):Int)) (by omega)),.i (i+1),.i (i+1),.r 58 (eI (b:=(i:Int)) (by omega))] rfl ?_;refine nl 2 rfl rfl rfl ?_;rw[CB,lT];rw[<-sC i x]at cm;refine Fg [.i i,.k cm,.k cb,.r 32 (eI (b:=(i:Int)-1) (by omega))] rfl ?_;exact rd (i,sta b i x A,Q.set i x) (by dsimp only;omega) ⟨by dsimp only;omega,Gk _ _,by dsimp only;omega,by dsimp only;rw[<-hku];exact Qth j4 hb.b hxs (by omega),by simpa using j5,Qtg j7 (Nat.le_trans hxs hub),j6⟩ rfl
   ·cases j6
theorem Qve{a b q:Ft}(h:JY a b=some q):Pb q:=by
 unfold JY at h
 split at h
 ·cases h
 ·obtain⟨q',_,hq2⟩:=Qk.1 h;obtain⟨rfl,hpb⟩:=YH (Tl _) hq2;exact hpb
theorem Qw9{a b q:Ft}(ha:Pb a)(hb:Pb b)(h:JY a b=some q):Fo 391 [pr a,pr b] [pr q] :=
 Fi func391 rfl [.k (Qgp ha hb h)] rfl
theorem uI:∀{k:Nat} {a b g:Ft},Pb a->Pb b->MH k a b=some g->Pb g
 | 0,_,_,_,_,_,h=>by cases h
 |
  k+1,a,b,g,ha,hb,h=>by
  simp only[MH]at h
  split at h
  ·injection h with h;subst h;exact ha
  ·rename_i h0;obtain⟨r,hr,h⟩:=Qk.1 h;obtain⟨rfl,hpb⟩:=YH (RX ha hb h0).1 hr;exact uI hb hpb h
theorem Qhu{a b g:Ft}(ha:Pb a)(hb:Pb b)(h:XX a b=some g):Fo 362 [pr a,pr b] [pr g]:=by
 unfold XX at h;obtain⟨g',h2,rfl⟩:=Y4.1 h;have hg:=uI (Nm ha) (Nm hb) h2;refine Sk func362 rfl ?_;refine Ff [.k (GF ha),.k (GF hb)] rfl ?_;refine Fl (S:=Nat×Ft×Ft) 0 (λL1 s=>(0,.v (pr s.2.1))::(1,.v (pr s.2.2))::L1) (λ_=>[]) (λs=>s.1) (λs=>Pb s.2.1/\Pb s.2.2/\MH s.1 s.2.1 s.2.2=some g') (66,Gm a,Gm b) ⟨Nm ha,Nm hb,h2⟩ rfl rfl λ⟨k,A,C⟩ ⟨j1,j2,j3⟩=>?_
 dsimp only at j1 j2 j3 ⊢;cases k with
 |zero=>cases j3
 |
  succ k =>
  simp only[MH]at j3
  split at j3
  ·rename_i h0;injection j3 with j3;subst j3;exact Fh [.f (by simpa using h0),.k (GF j1)] rfl
  ·rename_i h0;obtain⟨r,hr,j3⟩:=Qk.1 j3;obtain⟨rfl,hpb⟩:=YH (RX j1 j2 h0).1 hr;refine Ff [.t (by simp;omega),.k (Qgu j1 j2 h0)] rfl ?_;exact rd (k,C,Rv A C) (by dsimp only;omega) ⟨j2,hpb,j3⟩ rfl
theorem wR{a b g:Ft}(ha:Pb a)(hb:Pb b)(h:XX a b=some g):Pb g:=by
 unfold XX at h;obtain⟨g',h2,rfl⟩:=Y4.1 h;exact Nm (uI (Nm ha) (Nm hb) h2)
theorem Qtr{a b g:Ft}(ha:Pb a)(hb:Pb b)(h:pS a b=some g):Fo 289 [.one (.row (I1 [a,b]))] [pr g]:=by
 unfold pS at h;obtain⟨g1,h1,h2⟩:=Qk.1 h;have hg1:=wR wH ha h1;refine Sk func289 rfl ?_;refine Ff [.z 3] rfl ?_;refine Fl (S:=Nat) 0 (λL1 i=>(8,.v (.oi i))::(3,.v (pr (if i=0 then []else if i=1 then g1 else g)))::L1) (λ_=>[]) (λi=>2-i) (λi=>i<=2) 0 (Qh _) rfl rfl λi hi=>?_
 rcases(show i=0\/i=1\/i=2 by omega)with rfl|rfl|rfl
 ·refine Ff [.t rfl,.x (Eo (i:=0) (p:=a) rfl),.k (Qhu wH ha h1)] rfl ?_ (by simp[Ge]);exact rd 1 (by omega) (by omega) rfl
 ·refine Ff [.t rfl,.x (Eo (i:=1) (p:=b) rfl),.k (Qhu hg1 hb h2)] rfl ?_ (by simp[Ge]);exact rd 2 (by omega) (by omega) rfl
 ·exact Fh [.f rfl] rfl
theorem Qvd{a b g:Ft}(ha:Pb a)(hb:Pb b)(h:pS a b=some g):Pb g:=by
 unfold pS at h;obtain⟨g1,h1,h2⟩:=Qk.1 h;exact wR (wR wH ha h1) hb h2
theorem lU{p d:Ft}(h:qQ (Hn p)=some d):d=Hn p/\Pb (Hn p):=YH (Gk _ _) h
theorem Qgw{a g:Ft}(ha:Pb a)(h:Me a=some g):Fo 364 [pr a] [pr g]:=by
 have hp:=Nm ha;unfold Me at h
 split at h
 ·rename_i h0;injection h with h;subst h;exact Fi func364 rfl [.k (GF ha),.k (Ig _),.t (by simp;omega)] rfl
 ·rename_i h0;obtain⟨d,h1,h⟩:=Qk.1 h;obtain⟨rfl,hd⟩:=lU h1;obtain⟨g1,h1,h⟩:=Qk.1 h;exact Fi func364 rfl [.k (GF ha),.k (Ig _),.f (by simp;omega),.k (KQ hp.ln hp.bd),.k (Qhu hp hd h1),.k (Qw9 hp (wR hp hd h1) h)] rfl
theorem xI{a g:Ft}(ha:Pb a)(h:Me a=some g):Pb g:=by
 unfold Me at h
 split at h
 ·injection h with h;subst h;exact Nm ha
 ·obtain⟨d,h1,h⟩:=Qk.1 h;obtain⟨g1,h1,h⟩:=Qk.1 h;exact Qve h
theorem Qkn{p:Ft}(h:Pb p):Pb (Nn p):=⟨Gk _ _,Qe (Lr p) h.l,XG h.b⟩
theorem cV:∀{k:Nat} {a b:Ft} {l:Fu},Pb a->Pb b->OO k a b=some l->l.length≤k/\∀p∈l,Pb p
 | 0,_,_,_,_,_,h=>by cases h
 |
  k+1,a,b,l,ha,hb,h=>by
  simp only[OO]at h
  split at h
  ·injection h with h;subst h;exact⟨by simp,λp hp=>by cases hp⟩
  ·rename_i h0;obtain⟨r,hr,h⟩:=Qk.1 h;obtain⟨rfl,hpb⟩:=YH (RX ha hb h0).1 hr;obtain⟨l',h1,h⟩:=Qk.1 h;injection h with h;subst h;obtain⟨i1,i2⟩:=cV hb (Qkn hpb) h1;refine⟨by simp;exact i1,λp hp=>?_⟩;rcases Qj.1 hp with rfl|hp
   ·exact hb
   ·exact i2 p hp
theorem chain_ok{p:Ft}{l:Fu}(hp:Pb p)(h:chain p=some l):l.length≤67/\∀q∈l,Pb q:=by
 unfold chain at h;obtain⟨a,h1,h⟩:=Qk.1 h;have ha:=xI hp h1
 split at h
 ·cases h
 ·obtain⟨d,h2,h⟩:=Qk.1 h;obtain⟨rfl,hd⟩:=lU h2;obtain⟨l',h3,h⟩:=Qk.1 h;injection h with h;subst h;obtain⟨i1,i2⟩:=cV ha (Nm hd) h3;refine⟨by simp;omega,λp hp=>?_⟩;rcases Qj.1 hp with rfl|hp
  ·exact ha
  ·exact i2 p hp
theorem lM(l:Fu)(p:Ft):I1 l++[[pl p]]=I1 (l++[p]):=by simp[I1]
theorem jX(l:Fu):(I1 l).length=l.length:=by simp[I1]
theorem Qtt{p:Ft}{l:Fu}(hp:Pb p)(h:chain p=some l):Fo 291 [pr p] [.one (.sh [.row (I1 l)]),.oi 0]:=by
 unfold chain at h;obtain⟨a,h1,h⟩:=Qk.1 h;have ha:=xI hp h1
 split at h
 ·cases h
 rename_i h0;obtain⟨d,h2,h⟩:=Qk.1 h;obtain⟨rfl,hd⟩:=lU h2;obtain⟨l',h3,h⟩:=Qk.1 h;injection h with h;subst h;refine Sk func291 rfl ?_;refine Ff [.k (Qgw hp h1),.f (by simpa using h0),.lo,.k (KQ ha.ln ha.bd),.k (Qhb hd.t hd.ln' hd.bd)] rfl ?_ (by simp[Ge]);obtain⟨z,hz⟩:=nmE (if (Hn a).length=0 then 0 else Rl (Hn a));rw[<-hz];refine sb [(4,.v (pr a)),(7,.v (pr (Gm (Hn a)))),(5,.v (.one (.ow 1 0)))] [.row false 52 1 [[pl a]],.blk 403 [.orow 0 1 none],.blk 55 (Sj z)] rfl rfl ?_;have hll:=(cV ha (Nm hd) h3).1;refine Fl (S:=Nat×Fu×Ft×Ft) 3 (λL1 s=>(4,.v (pr s.2.2.1))::(7,.v (pr s.2.2.2))::L1) (λs=>[.row false 52 1 (I1 s.2.1),.blk 403 [.orow 0 1 none],.blk 55 (Sj z)]) (λs=>s.1) (λs=>Pb s.2.2.1/\Pb s.2.2.2/\∃m,OO s.1 s.2.2.1 s.2.2.2=some m/\s.2.1++m=a::l') (66,[a],a,Gm (Hn a)) ⟨ha,Nm hd,l',h3,rfl⟩ rfl rfl λ⟨k,out,A,C⟩ ⟨j1,j2,m,j3,j4⟩=>?_
 dsimp only at j1 j2 j3 j4 ⊢;have hol:out.length<=67:=by have:=congrArg List.length j4;simp at this;omega
 cases k with
 |zero=>cases j3
 |
  succ k =>
  simp only[OO]at j3
  split at j3
  ·rename_i h0;injection j3 with j3;subst j3;rw[Xg]at j4;rw[<-j4];exact Fh [.f (by simpa using h0)] rfl
  ·rename_i h0;obtain⟨r,hr,j3⟩:=Qk.1 j3;obtain⟨rfl,hpb⟩:=YH (RX j1 j2 h0).1 hr;obtain⟨m',j6,j5⟩:=Qk.1 j3;injection j5 with j5;subst j5;refine go tt [.t (by simp;omega),.s (sz:=1) (λc hc=>by rw[Qo.1 hc];rfl),.k (Qgu j1 j2 h0),.k (Qgq hpb.ln hpb.bd)] rfl (by simp[Ge,jX];omega) ?_;exact rd (k,out++[C],C,Nn (Rv A C)) (by dsimp only;omega) ⟨j2,Qkn hpb,m',j6,by rw[<-j4];simp⟩ (by rw[lM];rfl)
end Orr
