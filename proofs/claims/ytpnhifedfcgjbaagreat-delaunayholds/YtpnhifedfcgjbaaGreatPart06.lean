/- T1 T2 T3 T4 T5 T6 T7 T8 T9 T10 T11 T12 T13 T14 T15 T16 T17 T18 -/
import Derived.Test.YtpnhifedfcgjbaaGreatPart00
import Derived.Test.YtpnhifedfcgjbaaGreatPart05
set_option linter.all false
namespace Orq
def Uu (x:Rat):Rat:=if x<0 then -x else x
theorem Gx (x:Rat):0<=Uu x:=by unfold Uu; split <;> grind
theorem Rx {x b:Rat}:Uu x<=b↔-b<=x/\x<=b:=by unfold Uu; split <;> constructor <;> grind
theorem Qrx {x b:Rat}:Uu x<b↔-b<x/\x<b:=by unfold Uu; split <;> constructor <;> grind
theorem Te (x y:Rat):Uu (x+y)<=Uu x+Uu y:=by unfold Uu; split <;> split <;> split <;> grind
theorem Q3f (x y:Rat):Uu (x-y)=Uu (y-x):=by unfold Uu; split <;> split <;> grind
theorem Do (x:Rat):Uu (-x)=Uu x:=by unfold Uu; split <;> split <;> grind
theorem Hk:Uu 0=0:=by decide
theorem Ns {x:Rat} (h:x≠0):0<Uu x:=by unfold Uu; split <;> grind
theorem Zhq {x:Rat} (h:Uu x=0):x=0:=by unfold Uu at h; split at h <;> grind
theorem Pz {x y:Rat} (h1:0<=x) (h2:0<=y):0<=x*y:=Rat.mul_nonneg h1 h2
theorem E6 {x y:Rat} (h1:0<x) (h2:0<y):0<x*y:=Kq h1 h2
theorem Pd {a b c d:Rat} (h0:0<=a) (h1:a<=b) (h2:0<=c) (h3:c<=d):a*c<=b*d:=by
 have e1:=Q5 h1 h2;have e2:=Zp h3 (Zc h0 h1);exact Zc e1 e2
theorem Dn (x y:Rat):Uu (x*y)=Uu x*Uu y:=by
 unfold Uu;by_cases h1:x<0 <;> by_cases h2:y<0
 ·have:=E6 (x:=-x) (y:=-y) (by grind) (by grind); simp only [h1,h2,if_true]; split <;> grind
 ·have:=Pz (x:=-x) (y:=y) (by grind) (by grind); simp only [h1,h2,if_true,if_false]; split <;> grind
 ·have:=Pz (x:=x) (y:=-y) (by grind) (by grind); simp only [h1,h2,if_true,if_false]; split <;> grind
 ·have:=Pz (x:=x) (y:=y) (by grind) (by grind); simp only [h1,h2,if_false]; split <;> grind
theorem Ge {x y a b:Rat} (h1:Uu x<=a) (h2:Uu y<=b):Uu (x*y)<=a*b:=by
 rw [Dn]; exact Pd (Gx x) h1 (Gx y) h2
theorem Bu {x y:Rat} (h1:0<x) (h2:0<y):0<x / y:=by rw [Yj]; exact E6 h1 (Rat.inv_pos.2 h2)
theorem Fl {x y:Rat} (h2:0<y):x / y*y=x:=Zk (by grind)
theorem Gj {b d:Rat} (hb:0<=b) (hd:0<d):∃ e:Rat,0<e/\e<=1/\e*b<d:=by
 have h1:0<d / (b+1):=Bu hd (by grind);have h2:d / (b+1)*(b+1)=d:=Fl (by grind);rcases Vx (a:=d / (b+1)) (b:=1) with h | h
 ·exact ⟨d / (b+1),h1,h,by
   have:d / (b+1)*(b+1)=d / (b+1)*b+d / (b+1):=by grind
   grind⟩
 ·refine ⟨1,by decide,by decide,?_⟩;have:1*(b+1)<=d / (b+1)*(b+1):=Q5 h (by grind);grind
def ev:List Rat->Rat->Rat
 | [],_=>0
 | a::p,t=>a+t*ev p t
def dv:List Rat->Rat->Rat
 | [],_=>0
 | _::p,t=>ev p t+t*dv p t
def dq:List Rat->Rat->Rat->Rat
 | [],_,_=>0
 | _::p,x,y=>ev p x+y*dq p x y
def dd:List Rat->Rat->Rat->Rat
 | [],_,_=>0
 | _::p,x,y=>dq p x y+y*dd p x y
theorem Qnt (x y:Rat):∀ p,ev p x-ev p y=(x-y)*dq p x y
 | []=>by simp only [ev,dq]; grind
 | a::p=>by have:=Qnt x y p; simp only [ev,dq]; grind
theorem Qqg (y:Rat):∀ p,dq p y y=dv p y
 | []=>rfl
 | a::p=>by simp only [dq,dv,Qqg y p]
theorem Zjk (x y:Rat):∀ p,dq p x y-dv p y=(x-y)*dd p x y
 | []=>by simp only [dv,dq,dd]; grind
 |
  a::p=>by
  have h1:=Zjk x y p;have h2:=Qnt x y p;simp only [dv,dq,dd]; grind
theorem Zjn (p:List Rat) (x y:Rat):ev p x-ev p y=(x-y)*dv p y+(x-y)*(x-y)*dd p x y:=by
 have h1:=Qnt x y p;have h2:=Zjk x y p;grind
def evB (R:Rat):List Rat->Rat
 | []=>0
 | a::p=>Uu a+R*evB R p
def dqB (R:Rat):List Rat->Rat
 | []=>0
 | _::p=>evB R p+R*dqB R p
def ddB (R:Rat):List Rat->Rat
 | []=>0
 | _::p=>dqB R p+R*ddB R p
theorem Iv {R:Rat} (hR:0<=R):∀ p,0<=evB R p
 | []=>by simp only [evB]; grind
 | a::p=>by have:=Pz hR (Iv hR p); have:=Gx a; simp only [evB]; grind
theorem S8 {R:Rat} (hR:0<=R):∀ p,0<=dqB R p
 | []=>by simp only [dqB]; grind
 | a::p=>by have:=Pz hR (S8 hR p); have:=Iv hR p; simp only [dqB]; grind
theorem Qke {R:Rat} (hR:0<=R):∀ p,0<=ddB R p
 | []=>by simp only [ddB]; grind
 | a::p=>by have:=Pz hR (Qke hR p); have:=S8 hR p; simp only [ddB]; grind
theorem Qhm {R x:Rat} (hx:Uu x<=R):∀ p,Uu (ev p x)<=evB R p
 | []=>by simp only [ev,evB,Hk]; grind
 |
  a::p=>by
  have h1:=Te a (x*ev p x);have h2:=Ge hx (Qhm hx p);simp only [ev,evB]; grind
theorem Qtx {R x y:Rat} (hx:Uu x<=R) (hy:Uu y<=R):∀ p,Uu (dq p x y)<=dqB R p
 | []=>by simp only [dq,dqB,Hk]; grind
 |
  a::p=>by
  have h1:=Te (ev p x) (y*dq p x y);have h2:=Ge hy (Qtx hx hy p);have h3:=Qhm hx p;simp only [dq,dqB]; grind
theorem Q89 {R x y:Rat} (hx:Uu x<=R) (hy:Uu y<=R):∀ p,Uu (dd p x y)<=ddB R p
 | []=>by simp only [dd,ddB,Hk]; grind
 |
  a::p=>by
  have h1:=Te (dq p x y) (y*dd p x y);have h2:=Ge hy (Q89 hx hy p);have h3:=Qtx hx hy p;simp only [dd,ddB]; grind
theorem Q9p {R x y:Rat} (hx:Uu x<=R) (hy:Uu y<=R) (p:List Rat):Uu (ev p x-ev p y)<=Uu (x-y)*dqB R p:=by
 rw [Qnt,Dn]; exact Pd (Gx _) Qq (Gx _) (Qtx hx hy p)
def Ra:List Rat->List Rat->List Rat
 | [],q=>q
 | a::p,[]=>a::p
 | a::p,b::q=>(a+b)::Ra p q
def P5 (c:Rat) (p:List Rat):List Rat:=p.map (c * ·)
def Fx:List Rat->List Rat->List Rat
 | [],_=>[]
 | a::p,q=>Ra (P5 a q) (0::Fx p q)
def Ms:List Rat->List Rat
 | []=>[]
 | _::p=>Ra p (0::Ms p)
theorem Fh (t:Rat):∀ p q,ev (Ra p q) t=ev p t+ev q t
 | [],q=>by simp only [Ra,ev]; grind
 | a::p,[]=>by simp only [Ra,ev]; grind
 | a::p,b::q=>by have:=Fh t p q; simp only [Ra,ev]; grind
theorem U7 (c t:Rat):∀ p,ev (P5 c p) t=c*ev p t
 | []=>by simp only [P5,X8,ev]; grind
 | a::p=>by have:=U7 c t p; simp only [P5,Zz,ev] at *; grind
theorem Ur (t:Rat):∀ p q,ev (Fx p q) t=ev p t*ev q t
 | [],q=>by simp only [Fx,ev]; grind
 | a::p,q=>by have:=Ur t p q; simp only [Fx,Fh,U7,ev]; grind
theorem Hw (t:Rat):∀ p,ev (Ms p) t=dv p t
 | []=>rfl
 | a::p=>by have:=Hw t p; simp only [Ms,Fh,ev,dv]; grind
theorem Qqi (t:Rat):∀ p q,dv (Ra p q) t=dv p t+dv q t
 | [],q=>by simp only [Ra,dv]; grind
 | a::p,[]=>by simp only [Ra,dv]; grind
 | a::p,b::q=>by have:=Qqi t p q; have:=Fh t p q; simp only [Ra,dv]; grind
theorem Qf8 (c t:Rat):∀ p,dv (P5 c p) t=c*dv p t
 | []=>by simp only [P5,X8,dv]; grind
 | a::p=>by have:=Qf8 c t p; have:=U7 c t p; simp only [P5,Zz,dv] at *; grind
theorem Qqj (t:Rat):∀ p q,dv (Fx p q) t=dv p t*ev q t+ev p t*dv q t
 | [],q=>by simp only [Fx,dv,ev]; grind
 | a::p,q=>by have:=Qqj t p q; have:=Ur t p q; simp only [Fx,Qqi,Qf8,dv,ev]; grind
theorem Q10:∀ {p:List Rat},(∀ x∈p,x=0)->∀ t,ev p t=0
 | [],_,t=>rfl
 |
  a::p,h,t=>by
  have h1:=Q10 (p:=p) (λx hx=>h x (Qj _ hx)) t;have h2:=h a (Qr ..);simp only [ev,h1,h2]; grind
theorem Q1u:∀ {p:List Rat},(∀ x∈p,x=0)->∀ t,dv p t=0
 | [],_,t=>rfl
 |
  a::p,h,t=>by
  have h0:=λx hx=>h x (Qj _ hx)
  have h1:=Q10 (p:=p) h0 t;have h2:=Q1u (p:=p) h0 t;simp only [dv,h1,h2]; grind
theorem Qdq:∀ {p:List Rat},(∀ t,0<t->t<1->ev p t=0)->∀ x∈p,x=0
 | [],_=>λx hx=>by cases hx
 |
  a::p,h=>by
  have ha:a=0:=by
   rcases Classical.em (a=0) with h0 | h0
   ·exact h0
   ·obtain ⟨e,e1,e2,e3⟩:=Gj (Iv (R:=1) (by decide) p) (Ns h0);obtain ⟨f,f1,f2,f3⟩:=Gj (b:=1) (d:=e) (by decide) e1;have h1:=h f f1 (by grind);have h2:=Qhm (R:=1) (x:=f) (by unfold Uu; split <;> grind) p;have h3:=Dn f (ev p f);have h4:Uu f=f:=by unfold Uu; split <;> grind
    have h5:a=-(f*ev p f):=by simp only [ev] at h1; grind
    have h6:Uu a=f*Uu (ev p f):=by rw [h5,Do,h3,h4]
    have h7:f*Uu (ev p f)<=e*evB 1 p:=Pd (Qo f1) (by grind) (Gx _) h2;grind
  intro x hx;rcases Qp.1 hx with rfl | hx
  ·exact ha
  ·refine Qdq (p:=p) (λt h1 h2=>?_) x hx;have:=h t h1 h2;simp only [ev,ha] at this;have h3:t*ev p t=0:=by grind
   rcases Jw.1 h3 with h4 | h4
   ·grind
   ·exact h4
theorem Q9h {p q:List Rat} (h:∀ t,ev p t=ev q t) (t:Rat):dv p t=dv q t:=by
 have h1:=Q1u (p:=Ra p (P5 (-1) q)) (Qdq λt _ _=>by rw [Fh,U7,h t]; grind) t;rw [Qqi,Qf8] at h1; grind
def Uz (x:Rat):Int:=if x<0 then -1 else if 0<x then 1 else 0
theorem Fq {x:Rat}:Uz x=0↔x=0:=by
 unfold Uz; constructor
 ·intro h; split at h <;> (try split at h) <;> grind
 ·intro h; subst h; rfl
theorem Hl {x:Rat}:Uz x=1↔0<x:=by
 unfold Uz; constructor
 ·intro h; split at h <;> (try split at h) <;> grind
 ·intro h; rw [if_neg (by grind),if_pos h]
theorem Tv {x:Rat}:Uz x=-1↔x<0:=by
 unfold Uz; constructor
 ·intro h; split at h <;> (try split at h) <;> grind
 ·intro h; rw [if_pos h]
theorem Gf (x:Rat):Uz x=-1/\x<0\/Uz x=0/\x=0\/Uz x=1/\0<x:=by
 rcases Vx (a:=x) (b:=0) with h | h
 ·rcases Classical.em (x=0) with h0 | h0
  ·exact .inr (.inl ⟨Fq.2 h0,h0⟩)
  ·exact .inl ⟨Tv.2 (by grind),by grind⟩
 ·rcases Classical.em (x=0) with h0 | h0
  ·exact .inr (.inl ⟨Fq.2 h0,h0⟩)
  ·exact .inr (.inr ⟨Hl.2 (by grind),by grind⟩)
theorem Tg (x y:Rat):Uz (x*y)=Uz x*Uz y:=by
 rcases Gf x with ⟨e1,h1⟩ | ⟨e1,h1⟩ | ⟨e1,h1⟩ <;> rcases Gf y with ⟨e2,h2⟩ | ⟨e2,h2⟩ | ⟨e2,h2⟩ <;> rw [e1,e2]
 ·have:=E6 (x:=-x) (y:=-y) (by grind) (by grind); exact Hl.2 (by grind)
 ·subst h2; exact Fq.2 (by grind)
 ·have:=E6 (x:=-x) (y:=y) (by grind) (by grind); exact Tv.2 (by grind)
 ·subst h1; exact Fq.2 (by grind)
 ·subst h1; exact Fq.2 (by grind)
 ·subst h1; exact Fq.2 (by grind)
 ·have:=E6 (x:=x) (y:=-y) (by grind) (by grind); exact Tv.2 (by grind)
 ·subst h2; exact Fq.2 (by grind)
 ·exact Hl.2 (E6 h1 h2)
theorem Sl {a b d:Rat} (h1:d<=Uu a) (h2:Uu (b-a)<d):Uz b=Uz a/\Uz a≠0:=by
 rw [Qrx] at h2;rcases Gf a with ⟨e,h⟩ | ⟨e,h⟩ | ⟨e,h⟩
 ·rw [e,Tv]; unfold Uu at h1; rw [if_pos h] at h1; exact ⟨by grind,by decide⟩
 ·subst h; rw [Hk] at h1; grind
 ·rw [e,Hl]; unfold Uu at h1; rw [if_neg (by grind)] at h1; exact ⟨by grind,by decide⟩
def tc (x:Rat):Int->List (List Rat)->Nat
 | _,[]=>0
 | s,p::l=>if Uz (ev p x)=0 then tc x s l else (if s=-(Uz (ev p x)) then 1 else 0)+tc x (Uz (ev p x)) l
inductive SCl:List Rat->List Rat->List (List Rat)->Prop
 | base {f g:List Rat} {c:Rat} (hc:c≠0) (hg:∀ t,ev g t=c):SCl f g []
 | step {f g h:List Rat} {l:List (List Rat)} {a b:Rat} {q:List Rat} (ha:0<a) (hb:0<b) (he:∀ t,a*ev f t=ev q t*ev g t-b*ev h t) (hl:SCl g h l):SCl f g (h::l)
theorem Zdh {x:Rat} {s:Int} {g h:List Rat} {l:List (List Rat)} (hh:Uz (ev h x)=-s) (hs:s≠0):tc x s (g::h::l)=1+tc x (-s) l:=by
 have h3:Uz (ev h x)≠0:=by omega
 have hv:s=1\/s=-1:=by rcases Gf (ev h x) with ⟨e,_⟩ | ⟨e,_⟩ | ⟨e,_⟩ <;> omega
 simp only [tc,if_neg h3,hh];rcases Gf (ev g x) with ⟨e,_⟩ | ⟨e,_⟩ | ⟨e,_⟩ <;> rw [e] <;> rcases hv with rfl | rfl <;> simp
theorem Qfg {x:Rat} {s:Int} {p:List Rat} {l:List (List Rat)} (h:Uz (ev p x)≠0):tc x s (p::l)=(if s=-(Uz (ev p x)) then 1 else 0)+tc x (Uz (ev p x)) l:=by rw [tc,if_neg h]
theorem Pa {R x y e d:Rat} {p:List Rat} (hx:Uu x<=R) (hy:Uu y<=R) (hR:0<=R) (h:Uu (y-x)<=e) (hd:e*dqB R p<d):Uu (ev p y-ev p x)<d:=by
 have h1:=Q9p hy hx p;have h2:=Q5 h (S8 hR p);grind
theorem Qog {a x y:Rat} (ha:0<a) (h:a*x<a*y):x<y:=by
 rcases Vx (a:=y) (b:=x) with h' | h'
 ·have:=Zp h' (Qo ha); grind
 ·rcases Classical.em (x=y) with e | e
  ·subst e; grind
  ·grind
theorem Zmo {a b d d' B f g h q:Rat} (ha:0<a) (hb:0<b) (dp:0<d) (h7:B*d+a*d<b*d') (hq:Uu q<=B) (hg:Uu g<d) (hh:d'<=Uu h) (he:a*f=q*g-b*h) (hd':0<d'):Uz h=-Uz f/\d<=Uu f:=by
 have h4:=Ge hq (Qo hg);rw [Rx] at h4;have had:=E6 ha dp;have h8:=Zp hh (Qo hb);rcases Gf h with ⟨s,p⟩ | ⟨s,p⟩ | ⟨s,p⟩
 ·have:Uu h=-h:=by unfold Uu; rw [if_pos p]
  rw [this] at h8;have h10:d<f:=Qog ha (by grind);rw [s,Hl.2 (show 0<f by grind)];exact ⟨rfl,by unfold Uu; split <;> grind⟩
 ·rw [p,Hk] at hh; grind
 ·have:Uu h=h:=by unfold Uu; rw [if_neg (by grind)]
  rw [this] at h8;have h10:f < -d:=Qog ha (by grind);rw [s,Tv.2 (show f<0 by grind)];exact ⟨rfl,by unfold Uu; split <;> grind⟩
theorem min2 {a b:Rat} (ha:0<a) (hb:0<b):∃ e:Rat,0<e/\e<=a/\e<=b:=by
 rcases Vx (a:=a) (b:=b) with h | h
 ·exact ⟨a,ha,Qq,h⟩
 ·exact ⟨b,hb,h,Qq⟩
theorem U9 (a b:Rat):a<=b\/b<a:=by
 rcases Vx (a:=a) (b:=b) with h | h
 ·exact .inl h
 ·rcases Classical.em (a=b) with e | e
  ·exact .inl (by grind)
  ·exact .inr (by grind)
theorem Zlx {R:Rat} (hR:0<=R) {f g:List Rat} {l:List (List Rat)} (hc:SCl f g l):∃ d e:Rat,0<d/\0<e/\∀ x y,Uu x<=R->Uu y<=R->Uu (y-x)<=e ->
 (d<=Uu (ev f x)\/d<=Uu (ev g x))/\(d<=Uu (ev f x)->Uz (ev f y)=Uz (ev f x)/\Uz (ev f x)≠0)/\(d<=Uu (ev g x)->Uz (ev g y)=Uz (ev g x)/\Uz (ev g x)≠0) /\
 (Uz (ev f y)=Uz (ev f x)->Uz (ev f x)≠0->tc x (Uz (ev f x)) (g::l)=tc y (Uz (ev f x)) (g::l)) /\
 (Uz (ev g y)=Uz (ev g x)->Uz (ev g x)≠0->tc x (Uz (ev g x)) l=tc y (Uz (ev g x)) l):=by
 induction hc with
 |
  @base f g c hc hg =>
  have hd:=Ns hc;obtain ⟨e,e1,e2,e3⟩:=Gj (S8 hR f) hd;refine ⟨Uu c,e,hd,e1,λx y hx hy hxy=>⟨.inr (by rw [hg]; exact Qq),λh=>Sl h (Pa hx hy hR hxy e3),λh=>?_,λ_ _=>?_,λ_ _=>rfl⟩⟩
  ·rw [hg,hg]; exact ⟨rfl,λh=>hc (Fq.1 h)⟩
  ·simp only [tc,hg]
 |
  @step f g h l a b q ha hb he hl ih =>
  obtain ⟨d',e',hd',he',ih⟩:=ih;obtain ⟨d1,d1p,_,d1b⟩:=Gj (b:=evB R q+a) (d:=b*d') (by have:=Iv hR q; grind) (E6 hb hd');obtain ⟨d,dp,hd1,hdd⟩:=min2 d1p hd';obtain ⟨ef,ef1,_,ef3⟩:=Gj (S8 hR f) dp;obtain ⟨eg,eg1,_,eg3⟩:=Gj (S8 hR g) dp;obtain ⟨e0,e0p,h1,h2⟩:=min2 ef1 eg1;obtain ⟨e,ep,h0,h3⟩:=min2 e0p he';have h1:=Zc h0 h1;have h2:=Zc h0 h2;refine ⟨d,e,dp,ep,λx y hx hy hxy=>?_⟩;obtain ⟨i1,i2,i3,i4,i5⟩:=ih x y hx hy (Zc hxy h3);have hsm:Uu (ev g x)<d->d'<=Uu (ev h x)/\Uz (ev h x)=-Uz (ev f x)/\d<=Uu (ev f x):=λhg=>by
   have hh:d'<=Uu (ev h x):=by
    rcases i1 with i | i
    ·exact absurd (Zc hdd i) (Jx.2 hg)
    ·exact i
   have h6:d*(evB R q+a)<=d1*(evB R q+a):=Q5 hd1 (by have:=Iv hR q; clear ih i1 i2 i3 i4 i5 he; grind);have h7:evB R q*d+a*d<b*d':=by clear ih i1 i2 i3 i4 i5 he; grind
   exact ⟨hh,Zmo ha hb dp h7 (Qhm hx q) hg hh (he x) hd'⟩
  have hfs:d<=Uu (ev f x)->Uz (ev f y)=Uz (ev f x)/\Uz (ev f x)≠0:=λh=>Sl h (Pa hx hy hR (Zc hxy h1) ef3)
  have hgs:d<=Uu (ev g x)->Uz (ev g y)=Uz (ev g x)/\Uz (ev g x)≠0:=λh=>Sl h (Pa hx hy hR (Zc hxy h2) eg3)
  refine ⟨?_,hfs,hgs,λs1 s2=>?_,i4⟩
  ·rcases U9 d (Uu (ev g x)) with h | h
   ·exact .inr h
   ·exact .inl (hsm h).2.2
  ·rcases U9 d (Uu (ev g x)) with h | h
   ·obtain ⟨g1,g2⟩:=hgs h;rw [Qfg (x:=x) (p:=g) g2,Qfg (x:=y) (p:=g) (by rw [g1]; exact g2),g1,i4 g1 g2]
   ·obtain ⟨h4,h5,_⟩:=hsm h;obtain ⟨h6,h7⟩:=i3 h4;have i5:=i5 h6 h7;rw [Zdh h5 s2,Zdh (h6.trans h5) s2,<-h5,i5]
def Tw (p:List Rat) (x:Rat):Int:=if Uz (ev p x)≠0 then Uz (ev p x) else Uz (dv p x)
def vv (L:List (List Rat)) (x:Rat):Nat:=tc x 0 L
def Stm (f:List Rat) (L:List (List Rat)):Prop:=(∃ c:Rat,c≠0/\(∀ t,ev f t=c)/\L=[f])\/∃ g l,∃ k:Rat,0<k/\(∀ t,ev g t=k*dv f t)/\SCl f g l/\L=f::g::l
structure Sm (w:List Rat) (x y:Rat):Prop where
 s:Uz (ev w y)=Tw w x
 l:Tw w y=Tw w x
 n:Tw w x≠0
theorem Ln {p:List Rat} {x:Rat} (h:Uz (ev p x)≠0):Tw p x=Uz (ev p x):=by unfold Tw; rw [if_pos h]
theorem Qyu {p:List Rat} {x:Rat} (h:Uz (ev p x)=0):Tw p x=Uz (dv p x):=by unfold Tw; rw [if_neg (by simpa using h)]
theorem Qv7 {p:List Rat} {x y:Rat} (h:Uz (ev p y)=Uz (ev p x)) (h0:Uz (ev p x)≠0):Sm p x y:=by
 have h1:=Ln h0;have h2:=Ln (p:=p) (x:=y) (by rw [h]; exact h0);exact ⟨by rw [h,h1],by rw [h2,h1,h],by rw [h1]; exact h0⟩
theorem Iu {f w u:List Rat} (h:∀ t,ev f t=ev w t*ev u t) (x:Rat):dv f x=dv w x*ev u x+ev w x*dv u x:=by
 rw [<-Qqj]; exact Q9h (λt=>by rw [h,Ur]) x
theorem Q2l {f w u:List Rat} {x:Rat} (h:∀ t,ev f t=ev w t*ev u t) (hu:Uz (ev u x)≠0):Tw f x=Tw w x*Uz (ev u x):=by
 by_cases hw:Uz (ev w x)=0
 ·have hw0:=Fq.1 hw;have e1:ev f x=0:=by rw [h,hw0]; grind
  have e2:dv f x=dv w x*ev u x:=by rw [Iu h,hw0]; grind
  rw [Qyu hw,Qyu (Fq.2 e1),e2,Tg]
 ·have e1:Uz (ev f x)=Uz (ev w x)*Uz (ev u x):=by rw [h,Tg]
  rw [Ln hw,Ln (by rw [e1]; exact Jk hw hu),e1]
theorem Zmp {f w u:List Rat} {x y:Rat} (h:∀ t,ev f t=ev w t*ev u t) (hu:Uz (ev u y)=Uz (ev u x)) (h0:Uz (ev u x)≠0) (hf:Sm f x y):Sm w x y:=by
 have e1:=Q2l h h0;have e2:=Q2l (x:=y) h (by rw [hu]; exact h0);have e3:Uz (ev f y)=Uz (ev w y)*Uz (ev u y):=by rw [h,Tg]
 obtain ⟨s,l,n⟩:=hf;rw [hu] at e2 e3;refine ⟨?_,?_,λh=>n (by rw [e1,h,Yb])⟩
 ·rw [e3,e1] at s; exact Int.eq_of_mul_eq_mul_right h0 s
 ·rw [e2,e1] at l; exact Int.eq_of_mul_eq_mul_right h0 l
theorem tc0 {x:Rat} {s:Int} {f g:List Rat} {l:List (List Rat)} (h:Uz (ev g x)=s) (hs:s≠0):tc x 0 (f::g::l)=(if Uz (ev f x)=-s then 1 else 0)+tc x s l:=by
 have hv:s=1\/s=-1:=by rcases Gf (ev g x) with ⟨e,_⟩ | ⟨e,_⟩ | ⟨e,_⟩ <;> omega
 have hg:Uz (ev g x)≠0:=by omega
 rw [tc];rcases Gf (ev f x) with ⟨e,_⟩ | ⟨e,_⟩ | ⟨e,_⟩ <;> rw [e] <;> rcases hv with rfl | rfl <;> simp [Qfg hg,h]
theorem Qli {R x y e d:Rat} {p:List Rat} (hx:Uu x<=R) (hy:Uu y<=R) (hR:0<=R) (hxy:x<y) (h:y-x<=e) (hd:d<=Uu (dv p x)) (he:e*ddB R p<d):Uz (ev p y-ev p x)=Uz (dv p x):=by
 have h1:=Zjn p y x;have h2:ev p y-ev p x=(y-x)*(dv p x+(y-x)*dd p y x):=by rw [h1]; grind
 have h3:=Ge (x:=y-x) (y:=dd p y x) (a:=e) (b:=ddB R p) (by rw [Rx]; constructor <;> grind) (Q89 hy hx p);have h4:=Sl (b:=dv p x+(y-x)*dd p y x) hd (by
  have:dv p x+(y-x)*dd p y x-dv p x=(y-x)*dd p y x:=by grind
  rw [this]; exact Jx.1 λh=>absurd (Zc h h3) (Jx.2 he))
 rw [h2,Tg,Hl.2 (show 0<y-x by grind),h4.1,Yw]
def Q6t (f w:List Rat) (L:List (List Rat)) (x y:Rat):Prop :=
 (vv L x=vv L y/\Sm f x y/\Sm w x y)\/(vv L x=vv L y+1/\Tw f x≠0/\Tw f y=-Tw f x/\Uz (ev f x)=Tw f x/\(Uz (ev f y)=0\/Uz (ev f y)=-Tw f x))
theorem Zjq {R d:Rat} (hR:0<=R) (hd:0<d) {f w u:List Rat} (h:∀ t,ev f t=ev w t*ev u t):∃ e:Rat,0<e/\∀ x y,Uu x<=R->Uu y<=R->Uu (y-x)<=e->d<=Uu (ev f x)->Sm f x y/\Sm w x y:=by
 obtain ⟨ef,ef1,_,ef3⟩:=Gj (S8 hR f) hd;obtain ⟨d1,d1p,_,d1b⟩:=Gj (Iv hR u) hd;obtain ⟨ew,ew1,_,ew3⟩:=Gj (S8 hR w) d1p;obtain ⟨e,ep,e1,e2⟩:=min2 ef1 ew1;refine ⟨e,ep,λx y hx hy hxy hf=>⟨?_,?_⟩⟩
 ·have:=Sl hf (Pa hx hy hR (Zc hxy e1) ef3);exact Qv7 this.1 this.2
 ·have hw:d1<=Uu (ev w x):=by
   rcases U9 d1 (Uu (ev w x)) with h' | h'
   ·exact h'
   ·have h5:=Ge (Qo h') (Qhm hx u);rw [<-h] at h5;exact absurd (Zc hf h5) (Jx.2 d1b)
  have:=Sl hw (Pa hx hy hR (Zc hxy e2) ew3);exact Qv7 this.1 this.2
theorem loc {R:Rat} (hR:0<=R) {f w u:List Rat} {L:List (List Rat)} (hc:Stm f L) (h:∀ t,ev f t=ev w t*ev u t):∃ e:Rat,0<e/\∀ x y,Uu x<=R->Uu y<=R->x<y->y-x<=e->Q6t f w L x y:=by
 rcases hc with ⟨c,hc,hf,rfl⟩ | ⟨g,l,k,hk,hg,hc,rfl⟩
 ·obtain ⟨e,ep,h1⟩:=Zjq hR (Ns hc) h;refine ⟨e,ep,λx y hx hy hxy he=>.inl ⟨?_,h1 x y hx hy (by rw [Rx]; constructor <;> grind) (by rw [hf]; exact Qq)⟩⟩;simp only [vv,tc,hf]
 ·obtain ⟨d,e1,dp,e1p,h1⟩:=Zlx hR hc;obtain ⟨e2,e2p,h2⟩:=Zjq hR dp h;obtain ⟨d3,d3p,_,d3b⟩:=Gj (b:=k) (d:=d) (Qo hk) dp;obtain ⟨e3,e3p,_,e3b⟩:=Gj (Qke hR f) d3p;obtain ⟨d4,d4p,_,d4b⟩:=Gj (b:=dqB R w+dqB R u) (d:=d3) (by have:=S8 hR w; have:=S8 hR u; grind) d3p;obtain ⟨e4,e4p,_,e4b⟩:=Gj (S8 hR w) d4p;obtain ⟨e5,e5p,_,e5b⟩:=Gj (S8 hR u) d4p;obtain ⟨a1,a1p,a11,a12⟩:=min2 e1p e2p;obtain ⟨a2,a2p,a21,a22⟩:=min2 e3p e4p;obtain ⟨a3,a3p,a31,a32⟩:=min2 a1p a2p;obtain ⟨e,ep,b1,b2⟩:=min2 a3p e5p;refine ⟨e,ep,λx y hx hy hxy he=>?_⟩;have hab:Uu (y-x)<=e:=by rw [Rx]; clear h1 h2; constructor <;> grind
  have hab1:Uu (y-x)<=e1:=by clear h1 h2; grind
  have hab2:Uu (y-x)<=e2:=by clear h1 h2; grind
  obtain ⟨i1,i2,i3,i4,i5⟩:=h1 x y hx hy hab1;rcases U9 d (Uu (ev f x)) with hf | hf
  ·obtain ⟨s1,s2⟩:=h2 x y hx hy hab2 hf;obtain ⟨j1,j2⟩:=i2 hf;refine .inl ⟨?_,s1,s2⟩;have:=i4 j1 j2;simp only [vv];rw [Qfg (x:=x) (p:=f) j2,Qfg (x:=y) (p:=f) (by rw [j1]; exact j2),j1,this]
  ·have hg1:d<=Uu (ev g x):=by
    rcases i1 with i | i
    ·exact absurd i (Jx.2 hf)
    ·exact i
   obtain ⟨g1,g2⟩:=i3 hg1;have i5:=i5 g1 g2;have hD:d3<=Uu (dv f x):=by
    rcases U9 d3 (Uu (dv f x)) with h' | h'
    ·exact h'
    ·have h5:=Ge (x:=k) (a:=k) (by unfold Uu; split <;> clear h1 h2 <;> grind) (Rat.le_of_lt h');rw [<-hg] at h5;have:k*d3=d3*k:=by grind
     exact absurd (Zc hg1 h5) (Jx.2 (by rw [this]; exact d3b))
   have hm:=Qli hx hy hR hxy (by clear h1 h2; grind:y-x<=e3) hD e3b;have s1:Uz (ev g x)=Uz (dv f x):=by rw [hg,Tg,Hl.2 hk,Yw]
   have s2:Uz (ev g y)=Uz (dv f y):=by rw [hg,Tg,Hl.2 hk,Yw]
   obtain ⟨s,hs⟩:=nmE (Uz (ev g x));rw [<-hs] at g1 g2 i5 s1;rw [g1] at s2;have v1:=tc0 (f:=f) (l:=l) hs.symm g2;have v2:=tc0 (f:=f) (l:=l) g1 g2;rw [<-i5] at v2;rw [<-s1] at hm;have hw:Sm f x y->Sm w x y:=λhf=>by
    rcases U9 d4 (Uu (ev u x)) with hu | hu
    ·have hu:=Sl hu (Pa hx hy hR (Zc hab b2) e5b);exact Zmp h hu.1 hu.2 hf
    ·have hw:d4<=Uu (ev w x):=by
      rcases U9 d4 (Uu (ev w x)) with h' | h'
      ·exact h'
      ·have q1:=Ge (x:=dv w x) (y:=ev u x) (a:=dqB R w) (by rw [<-Qqg]; exact Qtx hx hx w) (Qo hu);have q2:=Ge (x:=ev w x) (y:=dv u x) (b:=dqB R u) (Qo h') (by rw [<-Qqg]; exact Qtx hx hx u);have q3:=Te (dv w x*ev u x) (ev w x*dv u x);rw [<-Iu h] at q3;have:d4*(dqB R w+dqB R u)=dqB R w*d4+d4*dqB R u:=by grind
       rw [this] at d4b;exact absurd (Zc hD (Zc q3 (by clear h1 h2; grind:_<=dqB R w*d4+d4*dqB R u))) (Jx.2 d4b)
     have hw:=Sl hw (Pa hx hy hR (Zc hab (by clear h1 h2; grind)) e4b);exact Qv7 hw.1 hw.2
   have lx:Tw f x=if Uz (ev f x)≠0 then Uz (ev f x) else s:=by rw [s1]; rfl
   have ly:Tw f y=if Uz (ev f y)≠0 then Uz (ev f y) else s:=by rw [s2]; rfl
   clear h1 h2 i1 i2 i3 i4;have hsv:s=1\/s=-1:=by rcases Gf (ev g x) with ⟨e,_⟩ | ⟨e,_⟩ | ⟨e,_⟩ <;> omega
   unfold Q6t;simp only [vv,v1,v2];rcases hsv with rfl | rfl
   ·have hm:=Hl.1 hm;rcases Gf (ev f x) with ⟨p1,p2⟩ | ⟨p1,p2⟩ | ⟨p1,p2⟩
    ·rcases Gf (ev f y) with ⟨q1,q2⟩ | ⟨q1,q2⟩ | ⟨q1,q2⟩
     ·rw [p1,q1]; have hsm:=Qv7 (p:=f) (x:=x) (y:=y) (by rw [p1,q1]) (by rw [p1]; decide);exact .inl ⟨rfl,hsm,hw hsm⟩
     ·rw [lx,ly,p1,q1]; refine .inr ⟨by simp; omega,by decide,by decide,by decide,by decide⟩
     ·rw [lx,ly,p1,q1]; refine .inr ⟨by simp; omega,by decide,by decide,by decide,by decide⟩
    ·have q1:=Hl.2 (show 0<ev f y by grind);have hsm:Sm f x y:=⟨by rw [lx,q1,p1]; rfl,by rw [lx,ly,q1,p1]; rfl,by rw [lx,p1]; decide⟩;rw [p1,q1]; exact .inl ⟨rfl,hsm,hw hsm⟩
    ·have q1:=Hl.2 (show 0<ev f y by grind);have hsm:Sm f x y:=⟨by rw [lx,q1,p1]; rfl,by rw [lx,ly,q1,p1],by rw [lx,p1]; decide⟩;rw [p1,q1]; exact .inl ⟨rfl,hsm,hw hsm⟩
   ·have hm:=Tv.1 hm;rcases Gf (ev f x) with ⟨p1,p2⟩ | ⟨p1,p2⟩ | ⟨p1,p2⟩
    ·have q1:=Tv.2 (show ev f y<0 by grind);have hsm:Sm f x y:=⟨by rw [lx,q1,p1]; rfl,by rw [lx,ly,q1,p1],by rw [lx,p1]; decide⟩;rw [p1,q1]; exact .inl ⟨rfl,hsm,hw hsm⟩
    ·have q1:=Tv.2 (show ev f y<0 by grind);have hsm:Sm f x y:=⟨by rw [lx,q1,p1]; rfl,by rw [lx,ly,q1,p1]; rfl,by rw [lx,p1]; decide⟩;rw [p1,q1]; exact .inl ⟨rfl,hsm,hw hsm⟩
    ·rcases Gf (ev f y) with ⟨q1,q2⟩ | ⟨q1,q2⟩ | ⟨q1,q2⟩
     ·rw [lx,ly,p1,q1]; refine .inr ⟨by simp; omega,by decide,by decide,by decide,by decide⟩
     ·rw [lx,ly,p1,q1]; refine .inr ⟨by simp; omega,by decide,by decide,by decide,by decide⟩
     ·rw [p1,q1]; have hsm:=Qv7 (p:=f) (x:=x) (y:=y) (by rw [p1,q1]) (by rw [p1]; decide);exact .inl ⟨rfl,hsm,hw hsm⟩
theorem Zqw (z:Rat):∃ n:Nat,z<=(n:Rat):=by
 refine ⟨z.ceil.toNat,?_⟩;have h1:z<=(z.ceil:Rat):=Rat.le_ceil;have h2:(z.ceil:Rat)<=((z.ceil.toNat:Int):Rat):=Ji.2 (Int.self_le_toNat _);exact Zc h1 h2
theorem O1 {z e:Rat} (he:0<e):∃ n:Nat,z<=(n:Rat)*e:=by
 obtain ⟨n,hn⟩:=Zqw (z / e);exact ⟨n,by have:=Q5 hn (Qo he); rwa [Fl he] at this⟩
theorem Qed {R x y t:Rat} (hx:Uu x<=R) (hy:Uu y<=R) (h1:x<=t) (h2:t<=y):Uu t<=R:=by
 rw [Rx] at *; constructor <;> grind
def Q30 (f w:List Rat) (L:List (List Rat)) (x y:Rat):Prop :=
 vv L y<=vv L x/\(vv L x=vv L y->Sm f x y/\Sm w x y)/\(vv L x=vv L y+1->Tw f x≠0/\Tw f y=-Tw f x)
theorem Q2k {f w:List Rat} {L:List (List Rat)} {x y:Rat} (h:Q6t f w L x y):Q30 f w L x y:=by
 rcases h with ⟨h1,h2,h3⟩ | ⟨h1,h2,h3,_⟩
 ·exact ⟨by omega,λ_=>⟨h2,h3⟩,λh=>by omega⟩
 ·exact ⟨by omega,λh=>by omega,λ_=>⟨h2,h3⟩⟩
theorem Qv8 {w:List Rat} {x y z:Rat} (h1:Sm w x y) (h2:Sm w y z):Sm w x z:=⟨by rw [h2.s,h1.l],by rw [h2.l,h1.l],h1.n⟩
theorem Qys {f w:List Rat} {L:List (List Rat)} {x y z:Rat} (h:Q30 f w L x y) (h':Q30 f w L y z):Q30 f w L x z:=by
 obtain ⟨a1,a2,a3⟩:=h;obtain ⟨b1,b2,b3⟩:=h';refine ⟨by omega,λh=>?_,λh=>?_⟩
 ·obtain ⟨s1,s2⟩:=a2 (by omega);obtain ⟨s3,s4⟩:=b2 (by omega);exact ⟨Qv8 s1 s3,Qv8 s2 s4⟩
 ·by_cases e:vv L x=vv L y
  ·obtain ⟨s1,_⟩:=a2 e;obtain ⟨s3,s4⟩:=b3 (by omega);exact ⟨s1.n,by rw [s4,s1.l]⟩
  ·obtain ⟨s3,s4⟩:=a3 (by omega);obtain ⟨s1,_⟩:=b2 (by omega);exact ⟨s3,by rw [s1.l,s4]⟩
theorem Zll {R:Rat} (hR:0<=R) {f w u:List Rat} {L:List (List Rat)} (hc:Stm f L) (h:∀ t,ev f t=ev w t*ev u t) {x y:Rat} (hx:Uu x<=R) (hy:Uu y<=R) (hxy:x<y):Q30 f w L x y:=by
 obtain ⟨e,ep,hl⟩:=loc hR hc h;have key:∀ n:Nat,∀ x,Uu x<=R->x<y->y-x<=(n:Rat)*e->Q30 f w L x y:=by
  intro n
  induction n with
  | zero =>
   intro x hx hxy h; exfalso; have:((0:Nat):Rat)*e=0:=by simp
   grind
  |
   succ n ih =>
   intro x hx hxy hn;rcases U9 (y-x) e with h1 | h1
   ·exact Q2k (hl x y hx hy hxy h1)
   ·have hm:Uu (x+e)<=R:=Qed hx hy (by clear hl ih; grind) (by clear hl ih; grind);have hn':(((n+1:Nat):Rat))=(n:Rat)+1:=by push_cast; rfl
    refine Qys (Q2k (hl x (x+e) hx hm (by clear hl ih; grind) (by clear hl ih; grind))) (ih (x+e) hm (by clear hl ih; grind) ?_);rw [hn'] at hn;clear hl ih; grind
 obtain ⟨n,hn⟩:=O1 (z:=y-x) ep;exact key n x hx hxy hn
theorem Qpp (x y:Rat):∃ R:Rat,0<=R/\Uu x<=R/\Uu y<=R:=by
 refine ⟨Uu x+Uu y,?_,?_,?_⟩ <;> (have:=Gx x; have:=Gx y; grind)
theorem H4 (t:Rat):ev [1] t=1:=by simp only [ev]; grind
theorem Lz {f:List Rat} {L:List (List Rat)} (hc:Stm f L) {x y:Rat} (hxy:x<y):vv L y<=vv L x:=by
 obtain ⟨R,hR,hx,hy⟩:=Qpp x y;exact (Zll hR hc (w:=f) (u:=[1]) (λt=>by rw [H4]; grind) hx hy hxy).1
theorem Qcn {f w u:List Rat} {L:List (List Rat)} (hc:Stm f L) (h:∀ t,ev f t=ev w t*ev u t) {x y:Rat} (hxy:x<y) (he:vv L x=vv L y):Sm w x y:=by
 obtain ⟨R,hR,hx,hy⟩:=Qpp x y;exact ((Zll hR hc h hx hy hxy).2.1 he).2
theorem Qsp {f:List Rat} {L:List (List Rat)} (hc:Stm f L) {x y:Rat} (hxy:x<y) (he:vv L x=vv L y):Sm f x y :=
 Qcn hc (w:=f) (u:=[1]) (λt=>by rw [H4]; grind) hxy he
theorem Qso {f:List Rat} {L:List (List Rat)} (hc:Stm f L) {x y:Rat} (hxy:x<y) (he:vv L x=vv L y+1):Tw f x≠0/\Tw f y=-Tw f x:=by
 obtain ⟨R,hR,hx,hy⟩:=Qpp x y;exact (Zll hR hc (w:=f) (u:=[1]) (λt=>by rw [H4]; grind) hx hy hxy).2.2 he
theorem Zds {f:List Rat} {L:List (List Rat)} (hc:Stm f L) (R:Rat) (hR:0<=R):∃ e:Rat,0<e/\∀ x y,Uu x<=R->Uu y<=R->x<y->y-x<=e->vv L x<=vv L y+1:=by
 obtain ⟨e,ep,hl⟩:=loc hR hc (w:=f) (u:=[1]) (λt=>by rw [H4]; grind);refine ⟨e,ep,λx y hx hy hxy he=>?_⟩;rcases hl x y hx hy hxy he with ⟨h,_⟩ | ⟨h,_⟩ <;> omega
theorem cont {p:List Rat} {x:Rat} (h:Uz (ev p x)≠0):∃ e:Rat,0<e/\∀ y,Uu (y-x)<=e->Uz (ev p y)=Uz (ev p x):=by
 have hd:=Ns (x:=ev p x) λh0=>h (Fq.2 h0)
 have hR:0<=Uu x+1:=by have:=Gx x; grind
 obtain ⟨e,e1,e2,e3⟩:=Gj (S8 hR p) hd;refine ⟨e,e1,λy hy=>(Sl Qq (Pa (x:=x) (by grind) ?_ hR hy e3)).1⟩;have:=Te (y-x) x;have e:y-x+x=y:=by grind
 rw [e] at this; grind
theorem Zjx {R M:Rat} {p:List Rat} (hM:M=ddB R p) (hR:0<=R) {h:Rat} (hh:0<h):∀ (n:Nat) (x:Rat),Uu x<=R->Uu (x+(n:Rat)*h)<=R->(∀ t,x<=t->t<=x+(n:Rat)*h->0<=dv p t)->ev p x-(n:Rat)*(h*h*M)<=ev p (x+(n:Rat)*h)
 |
  0,x,_,_,_=>by
  have e1:x+((0:Nat):Rat)*h=x:=by rw [show ((0:Nat):Rat)=0 from rfl]; grind
  have e2:((0:Nat):Rat)*(h*h*M)=0:=by simp
  rw [e1,e2]; grind
 |
  n+1,x,hx,hy,hd=>by
  have hn':(((n+1:Nat):Rat))=(n:Rat)+1:=by push_cast; rfl
  rw [hn'] at hy hd ⊢;have hn0:(0:Rat)<=(n:Rat):=Xp;have hnh:=Pz hn0 (Qo hh);have e1:x+((n:Rat)+1)*h=(x+h)+(n:Rat)*h:=by grind
  rw [e1] at hy hd ⊢;have hxh:Uu (x+h)<=R:=Qed hx hy (by clear hd; grind) (by clear hd; grind);have ih:=Zjx hM hR hh n (x+h) hxh hy λt h1 h2=>hd t (by clear hd; grind) h2
  have h0:=hd x Qq (by clear hd; grind);have h1:=Zjn p (x+h) x;have h2:=Q89 hxh hx p;rw [<-hM,Rx] at h2;have h3:=Zp h2.1 (Pz (Qo hh) (Qo hh));have h4:=Pz (Qo hh) h0;have e2:x+h-x=h:=by grind
  rw [e2] at h1;clear hd hx hy hxh;grind
theorem Zo3 {p:List Rat} {x y:Rat} (hxy:x<y) (hd:∀ t,x<=t->t<=y->0<=dv p t):ev p x<=ev p y:=by
 obtain ⟨R,hR,hx,hy⟩:=Qpp x y;rcases U9 (ev p x) (ev p y) with h | h
 ·exact h
 ·exfalso;obtain ⟨M,hM⟩:=nmE (ddB R p);have hM0:=Qke hR p;rw [<-hM] at hM0;obtain ⟨e,ep,_,he⟩:=Gj (b:=(y-x)*M) (d:=ev p x-ev p y) (Pz (by grind) hM0) (by grind);obtain ⟨n,hn⟩:=O1 (z:=y-x) ep;have hn0:0<(n:Rat):=by
   rcases U9 (n:Rat) 0 with h' | h'
   ·have:=Q5 h' (Qo ep); clear hd; grind
   ·exact h'
  have hh:0<(y-x) / n:=Bu (by grind) hn0;have e1:(n:Rat)*((y-x) / n)=y-x:=by rw [W6]; exact Fl hn0
  have e2:x+(n:Rat)*((y-x) / n)=y:=by rw [e1]; grind
  have h1:=Zjx hM hR hh n x hx (by rw [e2]; exact hy) (by rw [e2]; exact hd);rw [e2] at h1;have h2:(y-x) / n<=e:=by
   rcases U9 ((y-x) / n) e with h' | h'
   ·exact h'
   ·have:=Rat.mul_lt_mul_of_pos_left h' hn0; clear hd; grind
  have h3:(n:Rat)*((y-x) / n*((y-x) / n)*M)=((y-x) / n)*((y-x)*M):=by
   have:(n:Rat)*((y-x) / n*((y-x) / n)*M)=((n:Rat)*((y-x) / n))*(((y-x) / n)*M):=by grind
   rw [this,e1]; grind
  have h4:=Q5 h2 (Pz (x:=y-x) (y:=M) (by grind) hM0);rw [h3] at h1;clear hd; grind
theorem Zhw {p:List Rat} {x y:Rat} (hxy:x<y) (hd:∀ t,x<=t->t<=y->0<dv p t):ev p x<ev p y:=by
 have hx:=hd x Qq (by grind);have hR:0<=Uu x+1:=by have:=Gx x; grind
 obtain ⟨e,e1,e2,e3⟩:=Gj (Qke hR p) hx;obtain ⟨f,f1,f2,f3⟩:=min2 (a:=e) (b:=y-x) e1 (by grind);have hq:Uu (x+f)<=Uu x+1:=by
  have:=Te x f; have:Uu f=f:=by unfold Uu; split <;> grind
  clear hd; grind
 have h1:=Qli (p:=p) (x:=x) (y:=x+f) (R:=Uu x+1) (e:=e) (d:=dv p x) (by clear hd; grind) hq hR (by grind) (by grind) (by unfold Uu; split <;> clear hd <;> grind) e3;rw [Hl.2 hx,Hl] at h1;rcases Classical.em (x+f=y) with e | e
 ·rw [<-e]; clear hd; grind
 ·have:=Zo3 (p:=p) (x:=x+f) (y:=y) (by clear hd; grind) λt h1 h2=>Qo (hd t (by clear hd; grind) h2)
  clear hd; grind
structure Cut (c:Rat->Int):Prop where
 val:∀ q,c q=1\/c q=0\/c q=-1
 mono:∀ q r,q<r->c q≠1->c r=-1
 up:∀ q,c q=1->∃ r,q<r/\c r=1
 dn:∀ q,c q=-1->∃ r,r<q/\c r=-1
 lo:∃ q,c q=1
 hi:∃ q,c q=-1
theorem Cut.mono' {c:Rat->Int} (h:Cut c) {q r:Rat} (hqr:q<r) (hr:c r≠-1):c q=1:=by
 rcases Classical.em (c q=1) with e | e
 ·exact e
 ·exact absurd (h.mono q r hqr e) hr
theorem Cut.lt {c:Rat->Int} (h:Cut c) {q r:Rat} (hq:c q=1) (hr:c r=-1):q<r:=by
 rcases U9 r q with e | e
 ·rcases Classical.em (r=q) with e' | e'
  ·rw [e'] at hr; omega
  ·have:=h.mono r q (by grind) (by omega); omega
 ·exact e
theorem Cut.near {c:Rat->Int} (h:Cut c) {e:Rat} (he:0<e):∃ x y,c x=1/\c y=-1/\y-x<=e:=by
 obtain ⟨a,ha⟩:=h.lo;obtain ⟨b,hb⟩:=h.hi;have he2:0<e / 2:=Bu he (by decide);have h2:e / 2*2=e:=Fl (by decide);have key:∀ (n:Nat) (a:Rat),c a=1->b-a<=(n:Rat)*(e / 2)->∃ x y,c x=1/\c y=-1/\y-x<=e:=by
  intro n
  induction n with
  |
   zero =>
   intro a ha hn;have:=h.lt ha hb;rw [show ((0:Nat):Rat)=0 from rfl] at hn;exfalso; grind
  |
   succ n ih =>
   intro a ha hn;have hn':(((n+1:Nat):Rat))=(n:Rat)+1:=by push_cast; rfl
   rw [hn'] at hn;rcases h.val (a+e / 2) with h1 | h1 | h1
   ·exact ih _ h1 (by grind)
   ·exact ⟨a,a+e,ha,h.mono (a+e / 2) _ (by grind) (by omega),by grind⟩
   ·exact ⟨a,a+e / 2,ha,h1,by grind⟩
 obtain ⟨n,hn⟩:=O1 (z:=b-a) he2;exact key n a ha hn
def Ad (p:List Rat) (c:Rat->Int):Prop:=∀ d:Rat,0<d->∃ x y,c x=1/\c y=-1/\∀ q,x<=q->q<=y->Uu (ev p q)<d
def NZ (p:List Rat) (c:Rat->Int) (s:Int):Prop:=∃ d:Rat,0<d/\∃ x y,c x=1/\c y=-1/\∀ q,x<=q->q<=y->Uz (ev p q)=s/\d<=Uu (ev p q)
def Nr (c:Rat->Int) (P:Rat->Prop):Prop:=∃ x y,c x=1/\c y=-1/\∀ q,x<=q->q<=y->P q
theorem Qyx {c:Rat->Int} {P Q:Rat->Prop} (h1:Nr c P) (h2:Nr c Q):Nr c λq=>P q/\Q q:=by
 obtain ⟨x,y,a1,a2,a3⟩:=h1;obtain ⟨x',y',b1,b2,b3⟩:=h2;refine ⟨if x<=x' then x' else x,if y<=y' then y else y',by split <;> assumption,by split <;> assumption,λq q1 q2=>⟨a3 q ?_ ?_,b3 q ?_ ?_⟩⟩ <;> clear a3 b3 <;> grind
theorem Qi6 {c:Rat->Int} {P Q:Rat->Prop} (h1:Nr c P) (h:∀ q,P q->Q q):Nr c Q:=by
 obtain ⟨x,y,a1,a2,a3⟩:=h1;exact ⟨x,y,a1,a2,λq q1 q2=>h q (a3 q q1 q2)⟩
theorem Qu0 {c:Rat->Int} (hc:Cut c) {P:Rat->Prop} (h1:Nr c P):∃ q,P q/\c q=1:=by
 obtain ⟨x,y,a1,a2,a3⟩:=h1;exact ⟨x,a3 x Qq (Qo (hc.lt a1 a2)),a1⟩
theorem Za7 {c:Rat->Int} (hc:Cut c) {e:Rat} (he:0<e) {P:Rat->Prop} (h1:Nr c P):∃ x y,c x=1/\c y=-1/\y-x<=e/\x<y/\∀ q,x<=q->q<=y->P q:=by
 obtain ⟨x,y,a1,a2,a3⟩:=h1;obtain ⟨x',y',b1,b2,b3⟩:=hc.near he;refine ⟨if x<=x' then x' else x,if y<=y' then y else y',by split <;> assumption,by split <;> assumption,by clear a3; grind,hc.lt (by split <;> assumption) (by split <;> assumption),λq q1 q2=>a3 q ?_ ?_⟩ <;> clear a3 <;> grind
theorem Zjw {c:Rat->Int} (hc:Cut c):∃ R:Rat,0<=R/\Nr c λq=>Uu q<=R:=by
 obtain ⟨x,y,a1,a2,_⟩:=hc.near (e:=1) (by decide);obtain ⟨R,hR,h1,h2⟩:=Qpp x y;exact ⟨R,hR,x,y,a1,a2,λq q1 q2=>Qed h1 h2 q1 q2⟩
theorem Qbb {c:Rat->Int} (hc:Cut c) (p:List Rat):Ad p c\/∃ s,s≠0/\NZ p c s:=by
 rcases Classical.em (Ad p c) with h | h
 ·exact .inl h
 ·refine .inr ?_;obtain ⟨d,hd0⟩:=Classical.not_forall.1 h;obtain ⟨dp,hd⟩:=Classical.not_imp.1 hd0;have hd:∀ x y,c x=1->c y=-1->∃ q,x<=q/\q<=y/\d<=Uu (ev p q):=λx y hx hy=>by
   rcases Classical.em (∃ q,x<=q/\q<=y/\d<=Uu (ev p q)) with h' | h'
   ·exact h'
   ·refine absurd ⟨x,y,hx,hy,λq h1 h2=>?_⟩ hd;rcases U9 d (Uu (ev p q)) with h3 | h3
    ·exact absurd ⟨q,h1,h2,h3⟩ h'
    ·exact h3
  obtain ⟨R,hR,hn⟩:=Zjw hc;have hd2:0<d / 2:=Bu dp (by decide);have h2:d / 2*2=d:=Fl (by decide);obtain ⟨e,e1,_,e3⟩:=Gj (S8 hR p) hd2;obtain ⟨x,y,hx,hy,hxy,_,hq⟩:=Za7 hc e1 hn;obtain ⟨r,r1,r2,r3⟩:=hd x y hx hy;have key:∀ q,x<=q->q<=y->Uu (ev p q-ev p r)<d / 2:=λq q1 q2 =>
   Pa (hq r r1 r2) (hq q q1 q2) hR (by rw [Rx]; clear hq hd; constructor <;> grind) e3
  refine ⟨Uz (ev p r),λh0=>?_,d / 2,hd2,x,y,hx,hy,λq q1 q2=>⟨(Sl (d:=d) r3 ?_).1,?_⟩⟩
  ·rw [Fq.1 h0,Hk] at r3; clear hq hd key; grind
  ·have:=key q q1 q2; clear hq hd key; grind
  ·have h3:=key q q1 q2;have h4:=Te (ev p r-ev p q) (ev p q);rw [show ev p r-ev p q+ev p q=ev p r from by clear hq hd key; grind,Q3f] at h4;clear hq hd key; grind
theorem Zm5 {c:Rat->Int} (hc:Cut c) {p:List Rat} {s:Int} (h1:Ad p c) (h2:NZ p c s):False:=by
 obtain ⟨d,dp,h2⟩:=h2;obtain ⟨q,⟨a,b⟩,_⟩:=Qu0 hc (Qyx (h1 d dp) h2);exact absurd b.2 (Jx.2 a)
theorem S4 {c:Rat->Int} (hc:Cut c) {f p q:List Rat} (hf:∀ t,ev f t=ev p t*ev q t) (h:Ad p c):Ad f c:=by
 intro d dp;obtain ⟨R,hR,hn⟩:=Zjw hc;obtain ⟨e,e1,_,e3⟩:=Gj (Iv hR q) dp;refine Qi6 (Qyx hn (h e e1)) λt ⟨h1,h2⟩=>?_
 rw [hf];have:=Ge (Qo h2) (Qhm h1 q);exact Jx.1 λh=>absurd (Zc h this) (Jx.2 e3)
theorem Qjm {c:Rat->Int} {f p q:List Rat} (hf:∀ t,ev f t=ev p t+ev q t) (h:Ad p c) (h':Ad q c):Ad f c:=by
 intro d dp;have hd2:0<d / 2:=Bu dp (by decide);have h2:d / 2*2=d:=Fl (by decide);refine Qi6 (Qyx (h _ hd2) (h' _ hd2)) λt ⟨h1,h2⟩=>?_
 rw [hf];have:=Te (ev p t) (ev q t);grind
def RS (p:List Rat) (c:Rat->Int) (s:Int):Prop:=∃ y,c y=-1/\∀ q,c q=-1->q<=y->Uz (ev p q)=s
def LS (p:List Rat) (c:Rat->Int) (s:Int):Prop:=∃ x,c x=1/\∀ q,c q=1->x<=q->Uz (ev p q)=s
theorem Qo4 {c:Rat->Int} (hc:Cut c) {p:List Rat} {s:Int} (h:NZ p c s):RS p c s:=by
 obtain ⟨d,dp,x,y,a1,a2,a3⟩:=h;exact ⟨y,a2,λq h1 h2=>(a3 q (Qo (hc.lt a1 h1)) h2).1⟩
theorem Q2m {c:Rat->Int} (hc:Cut c) {p:List Rat} {s:Int} (h:NZ p c s):LS p c s:=by
 obtain ⟨d,dp,x,y,a1,a2,a3⟩:=h;exact ⟨x,a1,λq h1 h2=>(a3 q h2 (Qo (hc.lt h1 a2))).1⟩
theorem Qe7 {c:Rat->Int} {p:List Rat} {s s':Int} (h:RS p c s) (h':RS p c s'):s=s':=by
 obtain ⟨y,a1,a2⟩:=h;obtain ⟨y',b1,b2⟩:=h';rcases U9 y y' with e | e
 ·rw [<-a2 y a1 Qq,<-b2 y a1 e]
 ·rw [<-a2 y' b1 (Qo e),<-b2 y' b1 Qq]
theorem Zj0 {c:Rat->Int} (hc:Cut c) {p:List Rat} (hv:Ad p c) {y:Rat} (hy:c y=-1) (h:∀ q,c q=-1->q<=y->0<dv p q) (q:Rat) (hq:c q=-1) (hqy:q<=y):0<ev p q:=by
 rcases U9 (ev p q) 0 with h0 | h0
 ·exfalso;obtain ⟨r,r1,r2⟩:=hc.dn q hq;have hr:ev p r<ev p q:=Zhw r1 λt t1 t2=>h t (by
   rcases Classical.em (r=t) with e | e
   ·rw [<-e]; exact r2
   ·exact hc.mono r t (by clear h; grind) (by omega)) (Zc t2 hqy)
  obtain ⟨a,b,ha,hb,hab⟩:=hv (-ev p r) (by clear h; grind);obtain ⟨m,hm1,hm2,hm3⟩:∃ m,c m=-1/\m<=b/\m<=r:=by
   rcases U9 b r with e | e
   ·exact ⟨b,hb,Qq,e⟩
   ·exact ⟨r,r2,Qo e,Qq⟩
  have h1:=hab m (Qo (hc.lt ha hm1)) hm2;have h2:ev p m<=ev p r:=by
   rcases Classical.em (m=r) with e | e
   ·rw [e]; exact Qq
   ·exact Qo (Zhw (by clear h hab; grind) λt t1 t2=>h t (by
     rcases Classical.em (m=t) with e | e
     ·rw [<-e]; exact hm1
     ·exact hc.mono m t (by clear h hab; grind) (by omega)) (by clear h hab; grind))
  rw [Qrx] at h1;clear h hab; grind
 ·exact h0
theorem Qr4 {c:Rat->Int} (hc:Cut c) {p:List Rat} {s:Int} (hv:Ad p c) (h:RS (Ms p) c s) (hs:s≠0):RS p c s:=by
 obtain ⟨y,hy,h⟩:=h;have hsv:s=1\/s=-1:=by
  have:=h y hy Qq;rcases Gf (ev (Ms p) y) with ⟨e,_⟩ | ⟨e,_⟩ | ⟨e,_⟩ <;> omega
 rcases hsv with rfl | rfl
 ·refine ⟨y,hy,λq h1 h2=>Hl.2 (Zj0 hc hv hy (λq h1 h2=>?_) q h1 h2)⟩;rw [<-Hw]; exact Hl.1 (h q h1 h2)
 ·refine ⟨y,hy,λq h1 h2=>Tv.2 ?_⟩;have:=Zj0 hc (p:=P5 (-1) p) (y:=y) (λd dp=>Qi6 (hv d dp) λq hq=>by rw [U7,show -1*ev p q=-ev p q by grind,Do]; exact hq) hy (λq h1 h2=>by
   rw [Qf8,<-Hw];have:=Tv.1 (h q h1 h2); grind) q h1 h2
  rw [U7] at this; grind
theorem Zjt {c:Rat->Int} (hc:Cut c) {p:List Rat} (hv:Ad p c) {x:Rat} (hx:c x=1) (h:∀ q,c q=1->x<=q->0<dv p q) (q:Rat) (hq:c q=1) (hxq:x<=q):ev p q<0:=by
 rcases U9 0 (ev p q) with h0 | h0
 ·exfalso;obtain ⟨r,r1,r2⟩:=hc.up q hq;have hr:ev p q<ev p r:=Zhw r1 λt t1 t2=>h t (by
   rcases Classical.em (t=r) with e | e
   ·rw [e]; exact r2
   ·exact hc.mono' (q:=t) (r:=r) (by clear h; grind) (by omega)) (Zc hxq t1)
  obtain ⟨a,b,ha,hb,hab⟩:=hv (ev p r) (by clear h; grind);obtain ⟨m,hm1,hm2,hm3⟩:∃ m,c m=1/\a<=m/\r<=m:=by
   rcases U9 a r with e | e
   ·exact ⟨r,r2,e,Qq⟩
   ·exact ⟨a,ha,Qq,Qo e⟩
  have h1:=hab m hm2 (Qo (hc.lt hm1 hb));have h2:ev p r<=ev p m:=by
   rcases Classical.em (r=m) with e | e
   ·rw [e]; exact Qq
   ·exact Qo (Zhw (by clear h hab; grind) λt t1 t2=>h t (by
     rcases Classical.em (t=m) with e | e
     ·rw [e]; exact hm1
     ·exact hc.mono' (q:=t) (r:=m) (by clear h hab; grind) (by omega)) (by clear h hab; grind))
  rw [Qrx] at h1;clear h hab; grind
 ·exact h0
theorem Zat {c:Rat->Int} (hc:Cut c) {p:List Rat} {s:Int} (hv:Ad p c) (h:LS (Ms p) c s) (hs:s≠0):LS p c (-s):=by
 obtain ⟨x,hx,h⟩:=h;have hsv:s=1\/s=-1:=by
  have:=h x hx Qq;rcases Gf (ev (Ms p) x) with ⟨e,_⟩ | ⟨e,_⟩ | ⟨e,_⟩ <;> omega
 rcases hsv with rfl | rfl
 ·refine ⟨x,hx,λq h1 h2=>Tv.2 (Zjt hc hv hx (λq h1 h2=>?_) q h1 h2)⟩;rw [<-Hw]; exact Hl.1 (h q h1 h2)
 ·refine ⟨x,hx,λq h1 h2=>Hl.2 ?_⟩;have:=Zjt hc (p:=P5 (-1) p) (x:=x) (λd dp=>Qi6 (hv d dp) λq hq=>by rw [U7,show -1*ev p q=-ev p q by grind,Do]; exact hq) hx (λq h1 h2=>by
   rw [Qf8,<-Hw];have:=Tv.1 (h q h1 h2); grind) q h1 h2
  rw [U7] at this; grind
theorem Zh5 {c:Rat->Int} (hc:Cut c) {f g:List Rat} {l:List (List Rat)} (h:SCl f g l):Ad f c->Ad g c->False:=by
 induction h with
 |
  @base f g k hk hg =>
  intro _ hv;obtain ⟨q,hq,_⟩:=Qu0 hc (hv (Uu k) (Ns hk));rw [hg] at hq; grind
 |
  @step f g h l a b q ha hb he hl ih =>
  intro hf hg;refine ih hg ?_;have h1:Ad (Fx q g) c:=S4 hc (p:=g) (q:=q) (λt=>by rw [Ur]; grind) hg;have h2:Ad (P5 (-a) f) c:=S4 hc (p:=f) (q:=[-a]) (λt=>by rw [U7]; simp only [ev]; grind) hf;have h3:Ad (Ra (Fx q g) (P5 (-a) f)) c:=Qjm (λt=>Fh t _ _) h1 h2;refine S4 hc (p:=Ra (Fx q g) (P5 (-a) f)) (q:=[1 / b]) (λt=>?_) h3;have:=he t;rw [Fh,Ur,U7];simp only [ev];have hbb:1 / b*b=1:=Fl hb;have:ev q t*ev g t+-a*ev f t=b*ev h t:=by rw [show -a*ev f t=-(a*ev f t) by grind,he t]; grind
  rw [this];have:b*ev h t*(1 / b+t*0)=ev h t*(1 / b*b):=by grind
  rw [this,hbb]; grind
theorem Qpj {c:Rat->Int} (hc:Cut c) {f g:List Rat} {k:Rat} (h:∀ t,ev g t=k*ev f t) (hv:Ad f c):Ad g c :=
 S4 hc (p:=f) (q:=[k]) (λt=>by rw [h]; simp only [ev]; grind) hv
theorem Zig {c:Rat->Int} (hc:Cut c) {f:List Rat} {L:List (List Rat)} (h:Stm f L) (hv:Ad f c):∃ s,s≠0/\NZ (Ms f) c s:=by
 rcases Qbb hc (Ms f) with h1 | h1
 ·exfalso;rcases h with ⟨k,hk,hf,_⟩ | ⟨g,l,k,hk,hg,h,_⟩
  ·obtain ⟨q,hq,_⟩:=Qu0 hc (hv (Uu k) (Ns hk));rw [hf] at hq; grind
  ·exact Zh5 hc h hv (Qpj hc (λt=>by rw [hg,Hw]) h1)
 ·exact h1
theorem Q1q {c:Rat->Int} (hc:Cut c) {f w u:List Rat} {L:List (List Rat)} (h:Stm f L) (hf:∀ t,ev f t=ev w t*ev u t) (hv:Ad w c):∃ s,s≠0/\NZ (Ms w) c s:=by
 rcases Qbb hc (Ms w) with h1 | h1
 ·exfalso;obtain ⟨s,_,hs⟩:=Zig hc h (S4 hc hf hv);refine Zm5 hc ?_ hs;have a1:Ad (Fx (Ms w) u) c:=S4 hc (λt=>Ur t _ _) h1;have a2:Ad (Fx w (Ms u)) c:=S4 hc (λt=>Ur t _ _) hv;refine Qjm (λt=>?_) a1 a2;rw [Hw,Iu hf,Ur,Ur,Hw,Hw]
 ·exact h1
theorem Q86 {c:Rat->Int} (hc:Cut c) {q:Rat} (h:c q=0) {x y:Rat} (hx:c x=1) (hy:c y=-1):x<=q/\q<=y:=by
 constructor
 ·rcases U9 x q with e | e
  ·exact e
  ·have:=hc.mono q x e (by omega); omega
 ·rcases U9 q y with e | e
  ·exact e
  ·have:=hc.mono y q e (by omega); omega
theorem Qhc {c:Rat->Int} (hc:Cut c) {p:List Rat} {q:Rat} (h:c q=0) (hv:Ad p c):ev p q=0:=by
 rcases Classical.em (ev p q=0) with e | e
 ·exact e
 ·obtain ⟨x,y,hx,hy,hq⟩:=hv _ (Ns e);obtain ⟨h1,h2⟩:=Q86 hc h hx hy;have:=hq q h1 h2; grind
theorem Qu4 {c:Rat->Int} (hc:Cut c) {p:List Rat} {q:Rat} {s:Int} (h:c q=0) (hv:NZ p c s):Uz (ev p q)=s:=by
 obtain ⟨d,dp,x,y,hx,hy,hq⟩:=hv;obtain ⟨h1,h2⟩:=Q86 hc h hx hy;exact (hq q h1 h2).1
theorem Qx1 {c:Rat->Int} (hc:Cut c) {y z:Rat} (hy:c y=-1) (hz:c z=-1):∃ q,c q=-1/\q<y/\q<z:=by
 obtain ⟨a,a1,a2⟩:=hc.dn y hy;obtain ⟨b,b1,b2⟩:=hc.dn z hz;rcases U9 a b with e | e
 ·exact ⟨a,a2,a1,by grind⟩
 ·exact ⟨b,b2,by grind,b1⟩
theorem Qkc {c:Rat->Int} (hc:Cut c) {y z:Rat} (hy:c y=1) (hz:c z=1):∃ q,c q=1/\y<q/\z<q:=by
 obtain ⟨a,a1,a2⟩:=hc.up y hy;obtain ⟨b,b1,b2⟩:=hc.up z hz;rcases U9 a b with e | e
 ·exact ⟨b,b2,by grind,b1⟩
 ·exact ⟨a,a2,a1,by grind⟩
theorem Za6 {f w u:List Rat} {L:List (List Rat)} (h:Stm f L) (hf:∀ t,ev f t=ev w t*ev u t) {x y:Rat} (hv:vv L x=vv L y) {c:Rat->Int} (hc:Cut c) (hx:c x=1) (hy:c y≠1):¬Ad w c:=λhw=>by
 have hxy:x<y:=by
  rcases U9 y x with e | e
  ·rcases Classical.em (y=x) with e' | e'
   ·rw [e'] at hy; exact absurd hx hy
   ·have:=hc.mono y x (by grind) hy; omega
  ·exact e
 have hwv:=Qcn h hf hxy hv;rcases hc.val y with e | e | e
 ·exact hy e
 ·have:=Qhc hc e hw;have:=hwv.s;rw [Fq.2 (by assumption)] at this;exact hwv.n this.symm
 ·obtain ⟨s,hs,hd⟩:=Q1q hc h hf hw;obtain ⟨a,ha,hal⟩:=Zat hc hw (Q2m hc hd) hs;obtain ⟨b,hb,hbr⟩:=Qr4 hc hw (Qo4 hc hd) hs;obtain ⟨q,q1,q2,q3⟩:=Qkc hc hx ha;obtain ⟨r,r1,r2,r3⟩:=Qx1 hc hb e;have e1:=hal q q1 (Qo q3);have e2:=hbr r r1 (Qo r2);have hqr:=hc.lt q1 r1;have v1:vv L q<=vv L x:=Lz h q2;have v2:vv L y<=vv L r:=Lz h r3;have v3:vv L r<=vv L q:=Lz h hqr;have s1:=(Qcn h hf q2 (by omega)).s;have s2:=(Qcn h hf (x:=x) (y:=r) (by grind) (by omega)).s;omega
theorem Qsh {f:List Rat} {L:List (List Rat)} (h:Stm f L) {x y:Rat} (hxy:x<y) (hv:vv L x≠vv L y) {d:Rat} (dp:0<d):∃ q,x<=q/\q<=y/\Uu (ev f q)<d:=by
 obtain ⟨R,hR,hx,hy⟩:=Qpp x y;obtain ⟨e1,e1p,hl⟩:=loc hR h (w:=f) (u:=[1]) (λt=>by rw [H4]; grind);obtain ⟨e2,e2p,_,e2b⟩:=Gj (S8 hR f) dp;obtain ⟨e,ep,h1,h2⟩:=min2 e1p e2p;have key:∀ n:Nat,∀ x,Uu x<=R->x<y->vv L x≠vv L y->y-x<=(n:Rat)*e->∃ q,x<=q/\q<=y/\Uu (ev f q)<d:=by
  intro n
  induction n with
  | zero=>intro x hx hxy _ hn; rw [show ((0:Nat):Rat)=0 from rfl] at hn; exfalso; clear hl; grind
  |
   succ n ih =>
   intro x hx hxy hv hn;have hstep:∀ z,Uu z<=R->x<z->z-x<=e->vv L x≠vv L z->Uu (ev f z)<d:=λz hz hxz hze hv=>by
    rcases hl x z hx hz hxz (Zc hze h1) with ⟨p,_⟩ | ⟨_,p1,p2,p3,p4⟩
    ·exact absurd p hv
    ·have hd:=Pa (p:=f) hx hz hR (e:=e2) (d:=d) (by rw [Rx]; clear hl ih; constructor <;> grind) e2b;rw [<-p3] at p1 p4;clear hl ih p2 p3;rw [Qrx] at *;rcases Gf (ev f x) with ⟨a,a'⟩ | ⟨a,a'⟩ | ⟨a,a'⟩ <;> rcases Gf (ev f z) with ⟨b,b'⟩ | ⟨b,b'⟩ | ⟨b,b'⟩ <;> rw [a,b] at p4 <;> first | (exfalso; revert p4; decide) | skip
     all_goals first | (constructor <;> grind) | (exfalso; omega)
   rcases U9 (y-x) e with h3 | h3
   ·exact ⟨y,Qo hxy,Qq,hstep y hy hxy h3 hv⟩
   ·have hm:Uu (x+e)<=R:=Qed hx hy (by clear hl ih hstep; grind) (by clear hl ih hstep; grind);rcases Classical.em (vv L x=vv L (x+e)) with e0 | e0
    ·have hn':(((n+1:Nat):Rat))=(n:Rat)+1:=by push_cast; rfl
     rw [hn'] at hn;obtain ⟨q,q1,q2,q3⟩:=ih (x+e) hm (by clear hl ih hstep; grind) (by omega) (by clear hl ih hstep; grind);exact ⟨q,by clear hl ih hstep; grind,q2,q3⟩
    ·exact ⟨x+e,by clear hl ih hstep; grind,by clear hl ih hstep; grind,hstep (x+e) hm (by clear hl ih hstep; grind) (by clear hl ih hstep; grind) e0⟩
 obtain ⟨n,hn⟩:=O1 (z:=y-x) ep;exact key n x hx hxy hv hn
theorem Zoj {p:List Rat} {x:Rat} (h:Tw p x≠0):∃ e:Rat,0<e/\∀ y,x<y->y-x<=e->Uz (ev p y)=Tw p x:=by
 by_cases h0:Uz (ev p x)=0
 ·have hx:=Fq.1 h0;rw [Qyu h0] at h ⊢;have hR:0<=Uu x+1:=by have:=Gx x; grind
  obtain ⟨e,e1,e2,e3⟩:=Gj (Qke hR p) (Ns (x:=dv p x) λh'=>h (Fq.2 h'));refine ⟨e,e1,λy h1 h2=>?_⟩;have hy:Uu y<=Uu x+1:=by
   have:=Te x (y-x);have e:x+(y-x)=y:=by grind
   have e':Uu (y-x)=y-x:=by unfold Uu; split <;> grind
   rw [e,e'] at this; grind
  have:=Qli (p:=p) (by grind) hy hR h1 h2 Qq e3;rw [hx] at this;rw [<-this]; congr 1; grind
 ·rw [Ln h0] at h ⊢;obtain ⟨e,e1,e2⟩:=cont h;exact ⟨e,e1,λy h1 h2=>e2 y (by rw [Rx]; constructor <;> grind)⟩
def cq (P:List Rat) (lo hi q:Rat):Int:=if q<=lo then 1 else if hi<q then -1 else if Uz (ev P q)=0 then 0 else if Uz (ev P q)=Tw P lo then 1 else -1
structure Vt (P:List Rat) (L:List (List Rat)) (lo hi:Rat):Prop where
 s:Stm P L
 l:lo<hi
 v:vv L lo=vv L hi+1
variable {P:List Rat} {L:List (List Rat)} {lo hi:Rat}
theorem Be {q:Rat} (h:q<=lo):cq P lo hi q=1:=by unfold cq; rw [if_pos h]
theorem Ol {q:Rat} (h:lo<hi) (h':hi<q):cq P lo hi q=-1:=by unfold cq; rw [if_neg (by grind),if_pos h']
theorem Nc {q:Rat} (h1:lo<q) (h2:q<=hi):cq P lo hi q=if Uz (ev P q)=0 then 0 else if Uz (ev P q)=Tw P lo then 1 else -1:=by
 unfold cq; rw [if_neg (by grind),if_neg (by grind)]
theorem Vt.two (V:Vt P L lo hi) {q:Rat} (h1:lo<q) (h2:q<=hi):vv L q=vv L lo/\cq P lo hi q=1/\Uz (ev P q)=Tw P lo\/vv L q=vv L hi/\cq P lo hi q≠1/\Tw P q=-Tw P lo/\Tw P lo≠0:=by
 have a:=Lz V.s h1;have b:vv L hi<=vv L q:=by
  rcases Classical.em (q=hi) with e | e
  ·rw [e]; exact Qm _
  ·exact Lz V.s (by grind)
 have hv:=V.v;rcases (show vv L q=vv L lo\/vv L q=vv L hi by omega) with e | e
 ·have hs:=Qsp V.s h1 e.symm;refine .inl ⟨e,?_,hs.s⟩;rw [Nc h1 h2,hs.s,if_neg hs.n,if_pos rfl]
 ·obtain ⟨o1,o2⟩:=Qso V.s h1 (by omega);refine .inr ⟨e,?_,o2,o1⟩;rw [Nc h1 h2]
  split
  ·decide
  ·rename_i h0;rw [Ln h0] at o2;rw [if_neg (by omega)]; decide
theorem Vt.lowlo (V:Vt P L lo hi):Tw P lo≠0:=(Qso V.s V.l V.v).1
theorem Vt.eq_lo (V:Vt P L lo hi) {q:Rat} (h1:lo<q) (h2:q<=hi) (h:cq P lo hi q=1):vv L q=vv L lo:=by
 rcases V.two h1 h2 with ⟨e,_⟩ | ⟨_,e,_⟩
 ·exact e
 ·exact absurd h e
theorem Vt.eq_hi (V:Vt P L lo hi) {q:Rat} (h1:lo<q) (h2:q<=hi) (h:cq P lo hi q≠1):vv L q=vv L hi:=by
 rcases V.two h1 h2 with ⟨_,e,_⟩ | ⟨e,_⟩
 ·exact absurd e h
 ·exact e
theorem Vt.hi1 (V:Vt P L lo hi):cq P lo hi hi≠1:=λh=>by have:=V.eq_lo V.l Qq h; have:=V.v; omega
theorem Vt.cut (V:Vt P L lo hi):Cut (cq P lo hi) where
 val q:=by unfold cq; split <;> (try split) <;> (try split) <;> (try split) <;> simp
 mono q r h h1:=by
  have hq:lo<q:=by
   rcases U9 q lo with e | e
   ·exact absurd (Be e) h1
   ·exact e
  rcases U9 r hi with e | e
  ·have e1:=V.eq_hi hq (by grind) h1;rcases V.two (q:=r) (by grind) e with ⟨e2,_⟩ | ⟨e2,_,e3,e4⟩
   ·have:=Lz V.s h; have:=V.v; omega
   ·have hs:=Qsp V.s h (by omega);rcases V.two hq (by grind) with ⟨e5,_⟩ | ⟨_,_,e5,_⟩
    ·have:=V.v; omega
    ·rw [Nc (by grind) e,hs.s,if_neg hs.n,e5,if_neg (by omega)]
  ·exact Ol V.l e
 up q h:=by
  rcases U9 q lo with e | e
  ·obtain ⟨d,dp,hd⟩:=Zoj V.lowlo;obtain ⟨f,fp,f1,f2⟩:=min2 (a:=d) (b:=hi-lo) dp (by have:=V.l; grind);have h1:lo<lo+f:=by clear hd; grind
   have h2:lo+f<=hi:=by clear hd; grind
   have:=hd (lo+f) h1 (by clear hd; grind);exact ⟨lo+f,by clear hd; grind,by rw [Nc h1 h2,this,if_neg V.lowlo,if_pos rfl]⟩
  ·have hh:q<=hi:=by
    rcases U9 q hi with e' | e'
    ·exact e'
    ·have:=Ol (P:=P) V.l e'; omega
   rcases V.two e hh with ⟨e1,_,e2⟩ | ⟨_,e1,_⟩
   ·have hn:q≠hi:=λh=>by rw [h] at e1; have:=V.v; omega
    obtain ⟨d,dp,hd⟩:=cont (p:=P) (x:=q) (by rw [e2]; exact V.lowlo);obtain ⟨f,fp,f1,f2⟩:=min2 (a:=d) (b:=hi-q) dp (by clear hd; grind);have:=hd (q+f) (by rw [Rx]; clear hd; constructor <;> grind);exact ⟨q+f,by clear hd; grind,by rw [Nc (by clear hd; grind) (by clear hd; grind),this,e2,if_neg V.lowlo,if_pos rfl]⟩
   ·exact absurd h e1
 dn q h:=by
  have hq:lo<q:=by
   rcases U9 q lo with e | e
   ·have:=Be (P:=P) (hi:=hi) e; omega
   ·exact e
  rcases U9 q hi with e | e
  ·rw [Nc hq e] at h
   split at h
   ·cases h
   rename_i h0
   split at h
   ·cases h
   rename_i h1;obtain ⟨d,dp,hd⟩:=cont h0;obtain ⟨f,fp,f1,f2⟩:=min2 (a:=d) (b:=(q-lo) / 2) dp (Bu (by clear hd; grind) (by decide));have h2:(q-lo) / 2*2=q-lo:=Fl (by decide);have:=hd (q-f) (by rw [Rx]; clear hd; constructor <;> grind);exact ⟨q-f,by clear hd; grind,by rw [Nc (by clear hd; grind) (by clear hd; grind),this,if_neg h0,if_neg h1]⟩
  ·have h2:(q-hi) / 2*2=q-hi:=Fl (by decide);exact ⟨q-(q-hi) / 2,by grind,Ol V.l (by grind)⟩
 lo:=⟨lo,Be Qq⟩
 hi:=⟨hi+1,Ol V.l (by grind)⟩
theorem Vt.van (V:Vt P L lo hi):Ad P (cq P lo hi):=by
 have hc:=V.cut;rcases Qbb hc P with h | ⟨s,hs,h⟩
 ·exact h
 ·exfalso;have e1:s=Tw P lo:=by
   obtain ⟨x,hx,hx1⟩:=Q2m hc h;obtain ⟨q,q1,q2,q3⟩:=Qkc hc hx (Be (P:=P) (hi:=hi) (Qq (a:=lo)));have hq:q<=hi:=by
    rcases U9 q hi with e | e
    ·exact e
    ·have:=Ol (P:=P) V.l e; omega
   rcases V.two q3 hq with ⟨_,_,e⟩ | ⟨_,e,_⟩
   ·rw [<-hx1 q q1 (Qo q2),e]
   ·exact absurd q1 e
  rcases hc.val hi with e | e | e
  ·exact V.hi1 e
  ·have h0:=Qu4 hc e h;rw [Nc V.l Qq] at e
   split at e
   ·omega
   ·split at e <;> omega
  ·obtain ⟨y,hy,hy1⟩:=Qo4 hc h;obtain ⟨q,q1,q2,q3⟩:=Qx1 hc hy e;have hq:lo<q:=hc.lt (Be (P:=P) (hi:=hi) (Qq (a:=lo))) q1;have:=hy1 q q1 (Qo q2);rw [Nc hq (Qo q3),this,if_neg hs,if_pos e1] at q1;cases q1
def Qyk (w:List Rat) (lo hi:Rat):Prop:=Uz (ev w hi)=0\/Uz (ev w hi)≠Tw w lo
theorem Vt.has (V:Vt P L lo hi) {w u:List Rat} (hf:∀ t,ev P t=ev w t*ev u t) {a b:Rat} (h1:lo<=a) (h2:a<b) (h3:b<=hi):Qyk w a b↔Ad w (cq P lo hi)/\cq P lo hi a=1/\cq P lo hi b≠1:=by
 have hc:=V.cut;have smno:vv L a=vv L b->¬Qyk w a b:=λh hh=>by
  have:=Qcn V.s hf h2 h;rcases hh with e | e
  ·rw [this.s] at e; exact this.n e
  ·exact e this.s
 by_cases ha:cq P lo hi a=1
 ·by_cases hb:cq P lo hi b=1
  ·have e1:=V.eq_lo (by grind) h3 hb;have e2:vv L a=vv L lo:=by
    rcases Classical.em (lo=a) with e | e
    ·rw [e]
    ·exact V.eq_lo (by grind) (by grind) ha
   exact ⟨λh=>absurd h (smno (by omega)),λh=>absurd hb h.2.2⟩
  ·have e1:=V.eq_hi (by grind) h3 hb;have e2:vv L a=vv L lo:=by
    rcases Classical.em (lo=a) with e | e
    ·rw [e]
    ·exact V.eq_lo (by grind) (by grind) ha
   have left:∀ s,LS w (cq P lo hi) s->s=Tw w a:=λs hs=>by
    obtain ⟨x,hx,hx1⟩:=hs;obtain ⟨q,q1,q2,q3⟩:=Qkc hc hx ha;have hqb:q<b:=by
     rcases U9 b q with e | e
     ·rcases Classical.em (b=q) with e' | e'
      ·rw [e'] at hb; exact absurd q1 hb
      ·have:=hc.mono b q (by clear hx1 smno; grind) hb; omega
     ·exact e
    have:=V.eq_lo (q:=q) (by clear hx1 smno; grind) (by clear hx1 smno; grind) q1;rw [<-(Qcn V.s hf q3 (by omega)).s,hx1 q q1 (Qo q2)]
   have right:∀ s,RS w (cq P lo hi) s->cq P lo hi b=-1->s=Uz (ev w b):=λs hs hb=>by
    obtain ⟨y,hy,hy1⟩:=hs;obtain ⟨q,q1,q2,q3⟩:=Qx1 hc hy hb;have hqa:=hc.lt ha q1;have:=V.eq_hi (q:=q) (by clear hy1 smno; grind) (by clear hy1 smno; grind) (by omega);have hs:=Qcn V.s hf q3 (by omega);have hl:=hy1 q q1 (Qo q2);have h0:Uz (ev w q)≠0:=by
     have hs2:=Qcn V.s hf (x:=q) (y:=b) q3 (by omega);intro h0;obtain ⟨r,r1,r2⟩:=hc.dn q q1;have har:=hc.lt ha r2;have:=V.eq_hi (q:=r) (by clear hy1 smno; grind) (by clear hy1 smno; grind) (by omega);have hs3:=Qcn V.s hf (x:=r) (y:=q) r1 (by omega);have hs4:=hs3.s;rw [h0] at hs4; exact hs3.n hs4.symm
    rw [hs.s,Ln h0,hl]
   refine ⟨λh=>⟨?_,ha,hb⟩,λ⟨hw,_,_⟩=>?_⟩
   ·rcases Qbb hc w with e | ⟨s,hs0,hs⟩
    ·exact e
    ·exfalso;have l1:=left s (Q2m hc hs);have r1:Uz (ev w b)=s:=by
      rcases hc.val b with e | e | e
      ·exact absurd e hb
      ·exact Qu4 hc e hs
      ·exact (right s (Qo4 hc hs) e).symm
     rcases h with h | h
     ·exact hs0 (by rw [<-r1]; exact h)
     ·exact h (by rw [r1,l1])
   ·rcases hc.val b with e | e | e
    ·exact absurd e hb
    ·exact .inl (Fq.2 (Qhc hc e hw))
    ·obtain ⟨s,hs0,hs⟩:=Q1q hc V.s hf hw;have l1:=left _ (Zat hc hw (Q2m hc hs) hs0);have r1:=right _ (Qr4 hc hw (Qo4 hc hs) hs0) e;exact .inr (by rw [<-l1,<-r1]; omega)
 ·have hla:lo<a:=by
   rcases Classical.em (lo=a) with e | e
   ·rw [<-e] at ha; exact absurd (Be Qq) ha
   ·grind
  have hb:cq P lo hi b≠1:=by have:=hc.mono a b h2 ha; omega
  have e1:=V.eq_hi hla (by grind) ha;have e2:=V.eq_hi (q:=b) (by grind) h3 hb;exact ⟨λh=>absurd h (smno (by omega)),λh=>absurd h.2.1 ha⟩
theorem Qtq {c c':Rat->Int} (hc:Cut c) (hc':Cut c') {q:Rat} (h:c q≠c' q):∃ r,(c r=-1/\c' r=1)\/(c r=1/\c' r=-1):=by
 rcases hc.val q with e | e | e <;> rcases hc'.val q with e' | e' | e'
 ·omega
 ·obtain ⟨r,r1,r2⟩:=hc.up q e;exact ⟨r,.inr ⟨r2,hc'.mono q r r1 (by omega)⟩⟩
 ·exact ⟨q,.inr ⟨e,e'⟩⟩
 ·obtain ⟨r,r1,r2⟩:=hc'.up q e';exact ⟨r,.inl ⟨hc.mono q r r1 (by omega),r2⟩⟩
 ·omega
 ·obtain ⟨r,r1,r2⟩:=hc'.dn q e';exact ⟨r,.inr ⟨hc.mono' r1 (by omega),r2⟩⟩
 ·exact ⟨q,.inl ⟨e,e'⟩⟩
 ·obtain ⟨r,r1,r2⟩:=hc.dn q e;exact ⟨r,.inl ⟨r2,hc'.mono' r1 (by omega)⟩⟩
 ·omega
theorem Vt.uniq (V:Vt P L lo hi) {c:Rat->Int} (hc:Cut c) (h1:c lo=1) (h2:c hi≠1) (hv:Ad P c) (q:Rat):c q=cq P lo hi q:=by
 rcases Classical.em (c q=cq P lo hi q) with e | e
 ·exact e
 ·exfalso;obtain ⟨r,⟨r1,r2⟩ | ⟨r1,r2⟩⟩:=Qtq hc V.cut e
  ·have hl:=hc.lt h1 r1;have hh:r<=hi:=by
    rcases U9 r hi with e | e
    ·exact e
    ·have:=Ol (P:=P) V.l e; omega
   have:=V.eq_lo hl hh r2;exact Za6 V.s (w:=P) (u:=[1]) (λt=>by rw [H4]; grind) (x:=lo) (y:=r) (by omega) hc h1 (by omega) hv
  ·have hl:lo<r:=by
    rcases U9 r lo with e | e
    ·have:=Be (P:=P) (hi:=hi) e; omega
    ·exact e
   have hh:r<=hi:=by
    rcases U9 r hi with e | e
    ·exact e
    ·have:=hc.mono hi r e h2; omega
   have:=V.eq_hi hl hh (by omega);exact Za6 V.s (w:=P) (u:=[1]) (λt=>by rw [H4]; grind) (x:=r) (y:=hi) (by omega) hc r1 h2 hv
theorem Vt.same (V:Vt P L lo hi) {P':List Rat} {L':List (List Rat)} {lo' hi':Rat} (V':Vt P' L' lo' hi') {g u u' U W:List Rat} {k:Rat} (hk:k≠0) (h1:∀ t,ev P t=ev g t*ev u t) (h2:∀ t,ev P' t=ev g t*ev u' t) (h3:∀ t,k*ev g t=ev U t*ev P t+ev W t*ev P' t) {a b:Rat} (ha1:lo<=a) (ha2:lo'<=a) (ha:a=lo\/a=lo') (hb1:b<=hi) (hb2:b<=hi') (hb:b=hi\/b=hi'):(a<b/\Qyk g a b)↔∀ q,cq P lo hi q=cq P' lo' hi' q:=by
 have hc:=V.cut;have hc':=V'.cut;constructor
 ·rintro ⟨hab,hg⟩
  obtain ⟨g1,g2,g3⟩:=(V.has h1 ha1 hab hb1).1 hg;obtain ⟨g4,g5,g6⟩:=(V'.has h2 ha2 hab hb2).1 hg;intro q;refine (V.uniq hc' (by
   rcases Classical.em (lo=a) with e | e
   ·rw [e]; exact g5
   ·exact hc'.mono' (q:=lo) (r:=a) (by grind) (by omega)) (λh=>?_) (S4 hc' h1 g4) q).symm
  rcases Classical.em (b=hi) with e | e
  ·rw [<-e] at h; exact g6 h
  ·have:=hc'.mono b hi (by grind) g6; omega
 ·intro h;have hcc:cq P' lo' hi'=cq P lo hi:=funext λq=>(h q).symm
  have e1:cq P lo hi a=1:=by
   rcases ha with rfl | rfl
   ·exact Be Qq
   ·rw [h]; exact Be Qq
  have e2:cq P lo hi b≠1:=by
   rcases hb with rfl | rfl
   ·exact V.hi1
   ·rw [h]; exact V'.hi1
  have hab:a<b:=by
   rcases U9 b a with e | e
   ·rcases Classical.em (b=a) with e' | e'
    ·rw [e'] at e2; exact absurd e1 e2
    ·have:=hc.mono b a (by grind) e2; omega
   ·exact e
  have v1:=V.van;have v2:=V'.van;rw [hcc] at v2;have hg:Ad g (cq P lo hi):=by
   have a1:Ad (Fx U P) (cq P lo hi):=S4 hc (p:=P) (q:=U) (λt=>by rw [Ur]; grind) v1;have a2:Ad (Fx W P') (cq P lo hi):=S4 hc (p:=P') (q:=W) (λt=>by rw [Ur]; grind) v2;have a3:=Qjm (λt=>Fh t _ _) a1 a2;refine Qpj hc (k:=1 / k) (λt=>?_) a3;rw [Fh,Ur,Ur,<-h3];have:1 / k*(k*ev g t)=1 / k*k*ev g t:=by grind
   rw [this,show 1 / k*k=1 from Zk hk]; grind
  exact ⟨hab,(V.has h1 ha1 hab hb1).2 ⟨hg,e1,e2⟩⟩
end Orq
namespace Orq
theorem Zbl:∀ (M:Nat) (f:Nat->Nat),(∀ i,i<=M->f i<M)->∃ i j,i<j/\j<=M/\f i=f j
 | 0,f,h=>absurd (h 0 (Qm _)) (Uc _)
 |
  M+1,f,h=>by
  rcases Classical.em (∃ i,i<=M/\f i=f (M+1)) with ⟨i,h1,h2⟩ | hn
  ·exact ⟨i,M+1,by omega,Qm _,h2⟩
  ·have hne:∀ i,i<=M->f i≠f (M+1):=λi hi e=>hn ⟨i,hi,e⟩
   obtain ⟨i,j,h1,h2,h3⟩:=Zbl M (λi=>if f i=M then f (M+1) else f i) λi hi=>by
    have a1:=h i (by omega);have a2:=h (M+1) (Qm _);have a3:=hne i hi;show (if f i=M then f (M+1) else f i)<M
    split <;> omega
   refine ⟨i,j,h1,by omega,?_⟩;have a1:=hne i (by omega);have a2:=hne j h2
   split at h3 <;> split at h3 <;> omega
def dg (B k i:Nat):Nat:=k / B^i % B
theorem Q1o (B k i:Nat):dg B k (i+1)=dg B (k / B) i:=by unfold dg; rw [Nat.pow_succ,Nat.mul_comm,Nat.div_div_eq_div_mul]
theorem Q9a {B:Nat}:∀ (N:Nat) {k k':Nat},k<B^N->k'<B^N->(∀ i,i<N->dg B k i=dg B k' i)->k=k'
 | 0,k,k',h,h',_=>by rw [Y8] at h h'; omega
 |
  N+1,k,k',h,h',he=>by
  have h0:=he 0 (by omega);unfold dg at h0;rw [Y8,Nat.div_one,Nat.div_one] at h0;have hB:0<B:=by
   rcases Qz B with e | e
   ·rw [e,Zo,Y0] at h; omega
   ·exact e
  have h1:=Q9a N (k:=k / B) (k':=k' / B) (Je (by rw [Zi,<-Zo]; exact h)) (Je (by rw [Zi,<-Zo]; exact h')) λi hi=>by
   rw [<-Q1o,<-Q1o]; exact he (i+1) (by omega)
  rw [<-W9 k B,<-W9 k' B,h0,h1]
def cd (B:Nat):Nat->(Nat->Nat)->Nat
 | 0,_=>0
 | E+1,x=>x 0+B*cd B E λe=>x (e+1)
theorem Zjh {B:Nat}:∀ (E:Nat) {x:Nat->Nat},(∀ e,e<E->x e<B)->cd B E x<B^E
 | 0,_,_=>by simp [cd]
 |
  E+1,x,h=>by
  have h1:=h 0 (by omega);have h2:=Zjh E (x:=λe=>x (e+1)) λe he=>h (e+1) (by omega)
  simp only [cd];have h3:B*cd B E (λe=>x (e+1))+B<=B*B^E:=by
   rw [<-Kj]; exact Zj _ h2
  rw [Zo,Zi (B^E)]; omega
theorem Q8w {B:Nat}:∀ (E:Nat) {x y:Nat->Nat},(∀ e,e<E->x e<B)->(∀ e,e<E->y e<B)->cd B E x=cd B E y->∀ e,e<E->x e=y e
 | 0,_,_,_,_,_,e,he=>by omega
 |
  E+1,x,y,hx,hy,h,e,he=>by
  have h1:=hx 0 (by omega);have h2:=hy 0 (by omega);simp only [cd] at h;have e0:x 0=y 0:=by
   have:=congrArg (· % B) h;simp only [Kc] at this;rwa [X9 h1,X9 h2] at this
  have e1:cd B E (λe=>x (e+1))=cd B E (λe=>y (e+1)):=Nat.eq_of_mul_eq_mul_left (by omega:0<B) (by omega);cases e with
  | zero=>exact e0
  | succ e=>exact Q8w E (λe he=>hx (e+1) (by omega)) (λe he=>hy (e+1) (by omega)) e1 e (by omega)
def sm:Nat->(Nat->Int)->Int
 | 0,_=>0
 | n+1,f=>sm n f+f n
theorem Zc3 (f g:Nat->Int):∀ n,sm n (λi=>f i-g i)=sm n f-sm n g
 | 0=>rfl
 | n+1=>by simp only [sm,Zc3 f g n]; omega
theorem Cq {f g:Nat->Int}:∀ n,(∀ i,i<n->f i=g i)->sm n f=sm n g
 | 0,_=>rfl
 | n+1,h=>by simp only [sm,Cq n (λi hi=>h i (by omega)),h n (by omega)]
theorem Zc2 {f:Nat->Int} {b:Nat}:∀ n,(∀ i,i<n->(f i).natAbs<=b)->(sm n f).natAbs<=n*b
 | 0,_=>by simp [sm]
 |
  n+1,h=>by
  have h1:=Zc2 n λi hi=>h i (by omega)
  have h2:=h n (by omega);simp only [sm];rw [Xc]; omega
theorem Qb1 {f:Nat->Int}:∀ n,(∀ i,i<n->f i=0)->sm n f=0
 | 0,_=>rfl
 | n+1,h=>by simp only [sm,Qb1 n (λi hi=>h i (by omega)),h n (by omega)]; rfl
theorem Qzz (f:Nat->Int) (m:Nat):∀ n,sm (m+n) f=sm m f+sm n λi=>f (m+i)
 | 0=>by simp [sm]
 | n+1=>by rw [<-Yf]; simp only [sm,Qzz f m n]; omega
theorem Qz0 (f:Nat->Int) (J:Nat):∀ b,sm (b*J) f=sm b λi=>sm J λj=>f (i*J+j)
 | 0=>by simp [sm]
 | b+1=>by rw [Xc,Qzz,Qz0 f J b]; rfl
theorem Ql9 {f:Nat->Int} {k:Nat}:∀ n,k<n->(∀ i,i<n->i≠k->f i=0)->sm n f=f k
 | 0,h,_=>by omega
 |
  n+1,h,h1=>by
  simp only [sm];rcases Vg (Nat.le_of_lt_succ h) with e | e
  ·rw [Ql9 n e λi hi=>h1 i (by omega),h1 n (by omega) (by omega)]; omega
  ·subst e; rw [Qb1 k λi hi=>h1 i (by omega) (by omega)]; omega
theorem Zmm {M:Nat->Nat->Int} {h N E H:Nat} (hM:∀ e i,(M e i).natAbs<=h) (hc:(2*(N*(h*H))+1)^E<(H+1)^N) :
 ∃ v:Nat->Int,(∀ i,(v i).natAbs<=H)/\(∃ i,i<N/\v i≠0)/\∀ e,e<E->sm N (λi=>M e i*v i)=0:=by
 obtain ⟨T,hT⟩:=nmE (N*(h*H));rw [<-hT] at hc;have hv:∀ k i,dg (H+1) k i<=H:=λk i=>Nat.le_of_lt_succ (Xf _ (by omega))
 have hs:∀ k e,(sm N λi=>M e i*(dg (H+1) k i:Int)).natAbs<=T:=λk e=>by
  rw [hT];refine Zc2 N λi _=>?_
  rw [J0,Z9];exact Zx (hM e i) (hv k i)
 have him:∀ k e,((sm N λi=>M e i*(dg (H+1) k i:Int))+T).toNat<2*T+1:=λk e=>by have:=hs k e; omega
 obtain ⟨i,j,h1,h2,h3⟩:=Zbl ((2*T+1)^E) (λk=>cd (2*T+1) E λe=>((sm N λi=>M e i*(dg (H+1) k i:Int))+T).toNat) λk _=>Zjh E λe _=>him k e
 have h4:=Q8w E (λe _=>him i e) (λe _=>him j e) h3;refine ⟨λn=>(dg (H+1) i n:Int)-dg (H+1) j n,λn=>?_,?_,λe he=>?_⟩
 ·have a1:=hv i n;have a2:=hv j n;show ((dg (H+1) i n:Int)-dg (H+1) j n).natAbs<=H;omega
 ·rcases Classical.em (∃ n,n<N/\(dg (H+1) i n:Int)-dg (H+1) j n≠0) with e | e
  ·exact e
  ·exfalso;have:i=j:=Q9a (B:=H+1) N (by omega) (by omega) λn hn=>by
    rcases Classical.em (dg (H+1) i n=dg (H+1) j n) with e' | e'
    ·exact e'
    ·exact absurd ⟨n,hn,by omega⟩ e
   omega
 ·have a1:=h4 e he;have a2:=hs i e;have a3:=hs j e;have:(sm N λn=>M e n*(dg (H+1) i n:Int))=sm N λn=>M e n*(dg (H+1) j n:Int):=by omega
  have e1:=Zc3 (λn=>M e n*(dg (H+1) i n:Int)) (λn=>M e n*(dg (H+1) j n:Int)) N;rw [this] at e1;rw [Cq N (g:=λn=>M e n*(dg (H+1) i n:Int)-M e n*(dg (H+1) j n:Int)) λn _=>Int.mul_sub _ _ _,e1]; omega
def Up:List Int->Rat->Rat
 | [],_=>0
 | a::p,t=>(a:Rat)+t*Up p t
def sq:Nat->(Nat->Rat)->Rat
 | 0,_=>0
 | n+1,f=>sq n f+f n
theorem Sf {f g:Nat->Rat}:∀ n,(∀ i,i<n->f i=g i)->sq n f=sq n g
 | 0,_=>rfl
 | n+1,h=>by simp only [sq,Sf n (λi hi=>h i (by omega)),h n (by omega)]
theorem Qz5 (f g:Nat->Rat):∀ n,sq n (λi=>f i+g i)=sq n f+sq n g
 | 0=>by simp only [sq]; grind
 | n+1=>by simp only [sq,Qz5 f g n]; grind
theorem Qa7 (c:Rat) (f:Nat->Rat):∀ n,sq n (λi=>c*f i)=c*sq n f
 | 0=>by simp only [sq]; grind
 | n+1=>by simp only [sq,Qa7 c f n]; grind
theorem Nv {f:Nat->Rat}:∀ n,(∀ i,i<n->f i=0)->sq n f=0
 | 0,_=>rfl
 | n+1,h=>by simp only [sq,Nv n (λi hi=>h i (by omega)),h n (by omega)]; grind
theorem A7 (f:Nat->Rat):∀ n,sq (n+1) f=f 0+sq n λi=>f (i+1)
 | 0=>by simp only [sq]; grind
 | n+1=>by rw [sq,A7 f n]; simp only [sq]; grind
theorem Zj2 {f:Nat->Rat} {b:Rat}:∀ n,(∀ i,i<n->Uu (f i)<=b)->Uu (sq n f)<=(n:Rat)*b
 | 0,_=>by rw [show ((0:Nat):Rat)=0 from rfl]; simp only [sq,Hk]; grind
 |
  n+1,h=>by
  have h1:=Zj2 n λi hi=>h i (by omega)
  have h2:=h n (by omega);have h3:=Te (sq n f) (f n);have hn':(((n+1:Nat):Rat))=(n:Rat)+1:=by push_cast; rfl
  rw [hn']; simp only [sq]; clear h; grind
def gc:List Int->Nat->Nat->Int
 | [],_,_=>0
 | c::B,k,j=>(if k=0/\j=0 then c else 0)+(if k=0 then 0 else gc B (k-1) j)-(if j=0 then 0 else gc B k (j-1))
def gB:List Int->Nat
 | []=>0
 | c::B=>max c.natAbs (2*gB B)
theorem Qi0:∀ (B:List Int) (k j:Nat),B.length<=k+j->gc B k j=0
 | [],_,_,_=>rfl
 |
  c::B,k,j,h=>by
  simp only [Q6] at h;simp only [gc];rw [if_neg (by omega)];have e1:(if k=0 then 0 else gc B (k-1) j)=0:=by
   split
   ·rfl
   ·exact Qi0 B _ _ (by omega)
  have e2:(if j=0 then 0 else gc B k (j-1))=0:=by
   split
   ·rfl
   ·exact Qi0 B _ _ (by omega)
  rw [e1,e2]; rfl
theorem Q93:∀ (B:List Int) (k j:Nat),(gc B k j).natAbs<=gB B
 | [],_,_=>Qh _
 |
  c::B,k,j=>by
  have h1:=Q93 B (k-1) j;have h2:=Q93 B k (j-1);simp only [gc,gB];by_cases hk:k=0 <;> by_cases hj:j=0 <;> simp only [hk,hj,true_and,and_true,false_and,and_false,if_true,if_false] <;> (try subst hk) <;> (try subst hj) <;> omega
theorem Q94:∀ (B:List Int) (b:Nat),B.length=b+1->(gc B 0 b).natAbs=(B.getD b 0).natAbs
 | [],_,h=>by simp at h
 | [c],0,_=>by simp [gc]
 | c::d::B,0,h=>by simp at h
 |
  c::B,b+1,h=>by
  have ih:=Q94 B b (by simpa using h);simp only [gc];simp only [Yh,Q3];rw [if_pos trivial,if_neg (Nat.succ_ne_zero b),<-ih]; omega
def E2 (F:Nat->Nat->Int) (K J:Nat) (x y:Rat):Rat:=sq K λk=>sq J λj=>(F k j:Rat)*(y^k*x^j)
theorem Qx5 (F G:Nat->Nat->Int) (K J:Nat) (x y:Rat):E2 (λk j=>F k j+G k j) K J x y=E2 F K J x y+E2 G K J x y:=by
 unfold E2;rw [<-Qz5];refine Sf K λk _=>?_
 rw [<-Qz5];exact Sf J λj _=>by push_cast; grind
theorem Q9j (c:Int) (F:Nat->Nat->Int) (K J:Nat) (x y:Rat):E2 (λk j=>F k j*c) K J x y=(c:Rat)*E2 F K J x y:=by
 unfold E2;rw [<-Qa7];refine Sf K λk _=>?_
 rw [<-Qa7];exact Sf J λj _=>by push_cast; grind
theorem Q9k (φ:Nat->Nat->Nat->Int) (v:Nat->Int) (K J:Nat) (x y:Rat):∀ N,E2 (λk j=>sm N λn=>φ n k j*v n) K J x y=sq N λn=>(v n:Rat)*E2 (φ n) K J x y
 |
  0=>by
  simp only [sq,sm];unfold E2;refine Nv K λk _=>Nv J λj _=>?_
  rw [show ((0:Int):Rat)=0 from rfl]; grind
 |
  N+1=>by
  simp only [sq];rw [<-Q9k φ v K J x y N,<-Q9j,<-Qx5];rfl
theorem Qe4 (t:Rat) (i:Nat):∀ k,t^(i+k)=t^i*t^k
 | 0=>by rw [Xy,Xg]; grind
 | k+1=>by rw [<-Yf,Xb,Xb,Qe4 t i k]; grind
theorem Qmc (f:Nat->Rat):∀ (i n:Nat),sq (i+n) (λk=>if i<=k then f (k-i) else 0)=sq n f
 | i,0=>Nv _ λk hk=>by rw [if_neg (by omega)]
 |
  i,n+1=>by
  rw [<-Yf]; simp only [sq];rw [Qmc f i n,if_pos (by omega),Jo]
def shF (i j':Nat) (F:Nat->Nat->Int) (k j:Nat):Int:=if i<=k then (if j'<=j then F (k-i) (j-j') else 0) else 0
theorem Qkp (F:Nat->Nat->Int) (i j' K J:Nat) (x y:Rat):E2 (shF i j' F) (i+K) (j'+J) x y=y^i*x^j'*E2 F K J x y:=by
 unfold E2;rw [<-Qa7,<-Qmc _ i K];refine Sf _ λk _=>?_
 by_cases hk:i<=k
 ·rw [if_pos hk,<-Qa7,<-Qmc _ j' J];refine Sf _ λj _=>?_
  unfold shF;rw [if_pos hk];by_cases hj:j'<=j
  ·rw [if_pos hj,if_pos hj];have e1:y^k=y^i*y^(k-i):=by rw [<-Qe4]; congr 1; omega
   have e2:x^j=x^j'*x^(j-j'):=by rw [<-Qe4]; congr 1; omega
   rw [e1,e2]; grind
  ·rw [if_neg hj,if_neg hj,show ((0:Int):Rat)=0 from rfl]; grind
 ·rw [if_neg hk];refine Nv _ λj _=>?_
  unfold shF;rw [if_neg hk,show ((0:Int):Rat)=0 from rfl]; grind
def fA (A:List Int) (k j:Nat):Int:=if j=0 then A.getD k 0 else 0
theorem Zbj (y:Rat):∀ (A:List Int) (K:Nat),A.length<=K->sq K (λk=>((A.getD k 0:Int):Rat)*y^k)=Up A y
 | [],K,_=>by rw [Nv]; rfl; intro i _; simp
 | a::A,0,h=>by simp at h
 |
  a::A,K+1,h=>by
  have ih:=Zbj y A K (by simpa using h);rw [A7];simp only [Up,Zr,Q3,Xg];rw [<-ih,<-Qa7];have:(sq K λi=>((A.getD i 0:Int):Rat)*y^(i+1))=sq K λi=>y*(((A.getD i 0:Int):Rat)*y^i):=Sf K λi _=>by rw [Xb]; grind
  rw [this]; grind
theorem Zob (A:List Int) (K J:Nat) (x y:Rat) (h:A.length<=K):E2 (fA A) K (J+1) x y=Up A y:=by
 rw [<-Zbj y A K h];refine Sf K λk _=>?_
 rw [A7,Nv]
 ·simp only [fA,if_true,Xg]; grind
 ·intro j _;simp only [fA];rw [if_neg (by omega),show ((0:Int):Rat)=0 from rfl]; grind
theorem Zlb (x y:Rat):∀ (B:List Int) (K J:Nat),B.length<=K->B.length<=J->E2 (gc B) K J x y=Up B (y-x)
 |
  [],K,J,_,_=>by
  unfold E2;simp only [gc,Up];exact Nv K λk _=>Nv J λj _=>by rw [show ((0:Int):Rat)=0 from rfl]; grind
 | c::B,0,J,h,_=>by simp at h
 | c::B,K+1,0,_,h=>by simp at h
 |
  c::B,K+1,J+1,h1,h2=>by
  have i1:=Zlb x y B K (J+1) (by simpa using h1) (by simp at h2; omega);have i2:=Zlb x y B (K+1) J (by simp at h1; omega) (by simpa using h2);have s1:=Qkp (gc B) 1 0 K (J+1) x y;have s2:=Qkp (gc B) 0 1 (K+1) J x y;rw [Xa,Yc 1 K] at s1;rw [Xa,Yc 1 J] at s2;rw [i1] at s1;rw [i2] at s2;have e0:E2 (fA [c]) (K+1) (J+1) x y=(c:Rat):=by rw [Zob [c] (K+1) J x y (by simp)]; simp only [Up]; grind
  have e1:gc (c::B)=λk j=>(fA [c] k j+shF 1 0 (gc B) k j)+shF 0 1 (gc B) k j*(-1):=by
   funext k j;simp only [gc,fA,shF];by_cases hk:k=0 <;> by_cases hj:j=0
   ·subst hk; subst hj; simp
   ·subst hk; simp [hj,show 1<=j by omega]
    try omega
   ·subst hj;obtain ⟨m,rfl⟩:∃ m,k=m+1:=⟨k-1,by omega⟩;simp
   ·obtain ⟨m,rfl⟩:∃ m,k=m+1:=⟨k-1,by omega⟩;obtain ⟨i,rfl⟩:∃ i,j=i+1:=⟨j-1,by omega⟩;simp; omega
  rw [e1,Qx5 (λk j=>fA [c] k j+shF 1 0 (gc B) k j) (λk j=>shF 0 1 (gc B) k j*(-1)),Qx5 (fA [c]) (shF 1 0 (gc B)),Q9j,e0,s1,s2];simp only [Up,Xg,show y^1=y by rw [Xb,Xg]; grind,show x^1=x by rw [Xb,Xg]; grind];rw [show (((-1:Int)):Rat)=-1 from rfl];grind
def phi (A B:List Int) (b J J' n k j:Nat):Int:=if n<b*J then shF (n / J) (n % J) (fA A) k j else shF ((n-b*J) / J') ((n-b*J) % J') (gc B) k j
theorem Zcw {F:Nat->Nat->Int} {h:Nat} (hF:∀ k j,(F k j).natAbs<=h) (i j' k j:Nat):(shF i j' F k j).natAbs<=h:=by
 unfold shF; split
 ·split
  ·exact hF _ _
  ·exact Qh _
 ·exact Qh _
theorem Zjs {i b J j:Nat} (hi:i<b) (hj:j<J):i*J+j<b*J:=by
 have:(i+1)*J<=b*J:=Qy J hi;rw [Xc] at this; omega
theorem Qgm {i J j:Nat} (hj:j<J):(i*J+j) / J=i/\(i*J+j) % J=j:=by
 rw [Zi,Ua (by omega),Ub,V0 hj,X9 hj]; exact ⟨by omega,rfl⟩
theorem Qpb (A B:List Int) (a b J J':Nat) (v:Nat->Int) (k j:Nat):sm (b*J+a*J') (λn=>phi A B b J J' n k j*v n) =
 (sm b λi=>sm J λj1=>shF i j1 (fA A) k j*v (i*J+j1))+sm a λi=>sm J' λj1=>shF i j1 (gc B) k j*v (b*J+(i*J'+j1)):=by
 rw [Qzz,Qz0,Qz0];congr 1
 ·refine Cq b λi hi=>Cq J λj1 hj=>?_
  unfold phi;rw [if_pos (Zjs hi hj),(Qgm hj).1,(Qgm hj).2]
 ·refine Cq a λi hi=>Cq J' λj1 hj=>?_
  unfold phi;rw [if_neg (by omega),Jo,(Qgm hj).1,(Qgm hj).2]
theorem Zn6 (A:List Int) (v:Nat->Int) {i J k j:Nat} (hj:j<J):(sm J λj1=>shF i j1 (fA A) k j*v (i*J+j1))=if i<=k then A.getD (k-i) 0*v (i*J+j) else 0:=by
 rw [Ql9 (k:=j) J hj λj1 _ hne=>?_]
 ·unfold shF fA;by_cases h:i<=k
  ·rw [if_pos h,if_pos h,if_pos (Qm _),if_pos (Yl _)]
  ·rw [if_neg h,if_neg h,Yb]
 ·unfold shF fA;by_cases h:i<=k
  ·rw [if_pos h];by_cases h':j1<=j
   ·rw [if_pos h',if_neg (by omega),Yb]
   ·rw [if_neg h',Yb]
  ·rw [if_neg h,Yb]
section
variable {A B:List Int} {a b J J':Nat} (hA:A.length=a+1) (hB:B.length=b+1) (lA:A.getD a 0≠0) (lB:B.getD b 0≠0) (hJ:J=J'+b) {v:Nat->Int} (hW:∀ k j,k<a+b->j<J->sm (b*J+a*J') (λn=>phi A B b J J' n k j*v n)=0)
include hA lA hW in
theorem Zjj {jj:Nat} (hj:jj<J) (hV:∀ k,a<=k->k<a+b->(sm a λi=>sm J' λj1=>shF i j1 (gc B) k jj*v (b*J+(i*J'+j1)))=0):∀ d i,i<b->b-i<=d->v (i*J+jj)=0:=by
 intro d
 induction d with
 | zero=>intro i hi hd; omega
 |
  succ d ih =>
  intro i hi hd;have h1:=hW (i+a) jj (by omega) hj;rw [Qpb,hV (i+a) (by omega) (by omega)] at h1;rw [Cq b (λi' hi'=>Zn6 A v hj)] at h1;rw [Ql9 (k:=i) b hi λi' hi' hne=>?_] at h1
  ·rw [if_pos (by omega),Jo,Int.add_zero] at h1;rcases J7.1 h1 with h2 | h2
   ·exact absurd h2 lA
   ·exact h2
  ·rcases Zb i i' with h | h
   ·rw [ih i' hi' (by omega)]; simp
   ·rw [if_pos (by omega),Qg,Qt (by omega)]; simp
include hA hB lA lB hJ hW in
theorem Zn9:∀ d js,js<J'->J'-js<=d->∀ i,i<a->v (b*J+(i*J'+js))=0:=by
 intro d
 induction d with
 | zero=>intro js hi hd; omega
 |
  succ d ih =>
  intro js hjs hd i hi;have hin:∀ i' k,i'<a->(sm J' λj1=>shF i' j1 (gc B) k (js+b)*v (b*J+(i'*J'+j1)))=if i'=k then gc B 0 b*v (b*J+(i'*J'+js)) else 0:=λi' k hi'=>by
   rw [Ql9 (k:=js) J' hjs λj1 hj1 hne=>?_]
   ·unfold shF;by_cases h:i'<=k
    ·rw [if_pos h,if_pos (by omega),Jo];by_cases h':i'=k
     ·rw [if_pos h',h',Yl]
     ·rw [if_neg h',Qi0 B _ _ (by omega),Yb]
    ·rw [if_neg h,if_neg (by omega),Yb]
   ·rcases Zb js j1 with h | h
    ·rw [ih j1 hj1 (by omega) i' hi',Vs]
    ·unfold shF;by_cases h':i'<=k
     ·rw [if_pos h',if_pos (by omega),Qi0 B _ _ (by omega),Yb]
     ·rw [if_neg h',Yb]
  have hU:=Zjj hA lA hW (jj:=js+b) (by omega) (λk hk hk'=>Qb1 a λi' hi'=>by rw [hin i' k hi',if_neg (by omega)]) (b+1);have h1:=hW i (js+b) (by omega) (by omega);rw [Qpb,Cq a (λi' hi'=>hin i' i hi')] at h1;rw [Qb1 b λi' hi'=>by
   rw [Zn6 A v (by omega),hU i' hi' (by omega)]; simp] at h1
  rw [Ql9 (k:=i) a hi λi' hi' hne=>if_neg hne,if_pos rfl,Int.zero_add] at h1;rcases J7.1 h1 with h2 | h2
  ·have:=Q94 B b hB; rw [h2] at this; omega
  ·exact h2
include hA hB lA lB hJ hW in
theorem Q6x:∀ n,n<b*J+a*J'->v n=0:=by
 intro n hn;have hV:=Zn9 hA hB lA lB hJ hW;rcases Zb n (b*J) with h | h
 ·have hJp:0<J:=by
   rcases Qz J with e | e
   ·rw [e,Y0] at h; omega
   ·exact e
  have e1:=Xf n hJp;have e2:n / J<b:=Je (by rw [Zi]; exact h);have:=Zjj hA lA hW e1 (λk _ _=>Qb1 a λi hi=>Qb1 J' λj1 hj1=>by rw [hV J' j1 hj1 (by omega) i hi,Vs]) (b+1) (n / J) e2 (Qc (Nat.sub_le _ _) (Nat.le_succ _));rwa [Zi,Xk] at this
 ·have hJp:0<J':=by
   rcases Qz J' with e | e
   ·rw [e,Y0] at hn; omega
   ·exact e
  have e1:=Xf (n-b*J) hJp;have e2:(n-b*J) / J'<a:=Je (by rw [Zi J' a]; omega);have:=hV J' _ e1 (by omega) _ e2;rw [Zi ((n-b*J) / J'),Xk] at this;rwa [show b*J+(n-b*J)=n by omega] at this
end
theorem Qbw {R x:Rat} (h1:1<=R) (hx:Uu x<=R):∀ k:Nat,Uu (x^k)<=R^k/\1<=R^k
 | 0=>by rw [Xg,Xg]; exact ⟨by decide,by decide⟩
 |
  k+1=>by
  obtain ⟨i1,i2⟩:=Qbw h1 hx k;rw [Xb,Xb];have:=Pd (a:=1) (c:=1) (by decide) i2 (by decide) h1;exact ⟨Ge i1 hx,by grind⟩
theorem Q3g {R:Rat} (h1:1<=R) {i:Nat}:∀ k,i<=k->R^i<=R^k
 | 0,h=>by rw [show i=0 by omega]; exact Qq
 |
  k+1,h=>by
  rcases Vg h with e | e
  ·have:=Q3g h1 (i:=i) k (by omega);have h2:=(Qbw h1 (x:=0) (by rw [Hk]; grind) k).2;rw [Xb];have:=Pd (a:=R^k) (b:=R^k) (c:=1) (d:=R) (by grind) Qq (by decide) h1;grind
  ·rw [e]; exact Qq
theorem Zcv {F:Nat->Nat->Int} {i j' K J:Nat} {x y R X:Rat} {K2 J2:Nat} (h1:1<=R) (hx:Uu x<=R) (hy:Uu y<=R) (hK:K=i+K2) (hJ:J=j'+J2) (hF:E2 F K2 J2 x y=X):Uu (E2 (shF i j' F) K J x y)<=R^(K+J)*Uu X:=by
 subst hK; subst hJ;rw [Qkp,hF,Dn];have a1:=(Qbw h1 hy i).1;have a2:=(Qbw h1 hx j').1;have a3:=Ge a1 a2;rw [<-Qe4] at a3;have a4:=Q3g h1 (i:=i+j') (i+K2+(j'+J2)) (by omega);exact Pd (Gx _) (Zc a3 a4) (Gx _) Qq
theorem Zmh {A B:List Int} {a b h:Nat} (hA:A.length=a+1) (hB:B.length=b+1) (lA:A.getD a 0≠0) (lB:B.getD b 0≠0) (ha:0<a) (hb:0<b) (h0:1<=h) (bA:∀ k,(A.getD k 0).natAbs<=h) (bB:gB B<=h) {J J' N H:Nat} (hJ:J=2*(a*b)) (hJ':J=J'+b) (hN:N=b*J+a*J') (hH:H=(2*(N*h))^(2*(a+b-1))) :
 ∃ w:Nat->Int,(∃ j,j<J/\w j≠0)/\(∀ j,(w j).natAbs<=N*(h*H))/\∀ R:Rat,1<=R->∃ C:Rat,0<=C/\∀ x y,Uu x<=R->Uu y<=R->Uu (sq J λj=>(w j:Rat)*x^j)<=C*(Uu (Up A y)+Uu (Up B (y-x))):=by
 have hab:0<a*b:=Yd ha hb;have hbd:∀ n k j,(phi A B b J J' n k j).natAbs<=h:=λn k j=>by
  unfold phi
  split
  ·exact Zcw (λk j=>by unfold fA; split; exact bA k; exact Nat.zero_le _) _ _ _ _
  ·exact Zcw (λk j=>Qc (Q93 B k j) bB) _ _ _ _
 have hJp:0<J:=by omega
 have hNp:1<=N:=by
  have:0<b*J:=Yd hb hJp;omega
 have hNh:1<=N*h:=Yd hNp h0;obtain ⟨E,hE⟩:=nmE ((a+b-1)*J);have hNE:N=E+a*b:=by
  have e1:(a+b-1)*J+J=(a+b)*J:=by
   rw [<-Xc]; congr 1; omega
  have e2:a*J=a*J'+a*b:=by rw [hJ',Xu]
  rw [Js] at e1;omega
 have hc:(2*(N*(h*H))+1)^E<(H+1)^N:=by
  have c1:2*(N*(h*H))+1<=2*(N*h)*(H+1):=by
   rw [Xu,Yy,Xq 2,Xq N]; omega
  refine Zv (Nat.pow_le_pow_left c1 E) ?_;rw [Nat.mul_pow,hNE,Xh,Zi];refine Nat.mul_lt_mul_of_pos_left ?_ (Zy (by omega));have e1:(2*(N*h))^E=H^(a*b):=by
   rw [hH,<-Uh,hE,hJ]; congr 1;rw [Zi 2 (a+b-1),Xq]
  rw [<-hNE,e1];exact Nat.pow_lt_pow_left (by omega) (by omega)
 obtain ⟨v,v1,⟨n0,n1,n2⟩,v3⟩:=Zmm (M:=λe n=>phi A B b J J' n (e / J+1) (e % J)) (h:=h) (N:=N) (E:=E) (H:=H) (λe n=>hbd n _ _) hc;have hW:∀ k j,1<=k->k<a+b->j<J->sm N (λn=>phi A B b J J' n k j*v n)=0:=λk j k1 k2 hj=>by
  have:=v3 ((k-1)*J+j) (by rw [hE]; exact Zjs (by omega) hj);rwa [(Qgm hj).1,(Qgm hj).2,show k-1+1=k by omega] at this
 refine ⟨λj=>sm N λn=>phi A B b J J' n 0 j*v n,?_,λj=>?_,λR hR=>?_⟩
 ·rcases Classical.em (∃ j,j<J/\(sm N λn=>phi A B b J J' n 0 j*v n)≠0) with e | e
  ·exact e
  ·exfalso;refine n2 (Q6x hA hB lA lB hJ' (v:=v) (λk j hk hj=>?_) n0 (by rw [<-hN]; exact n1));rw [<-hN];rcases Qz k with e' | e'
   ·subst e';rcases Classical.em ((sm N λn=>phi A B b J J' n 0 j*v n)=0) with e2 | e2
    ·exact e2
    ·exact absurd ⟨j,hj,e2⟩ e
   ·exact hW k j e' hk hj
 ·refine Zc2 N λn _=>?_
  rw [J0];exact Zx (hbd n 0 j) (v1 n)
 ·have hRp:∀ k:Nat,1<=R^k:=λk=>(Qbw hR (x:=0) (by rw [Hk]; grind) k).2
  have hHn:(0:Rat)<=(H:Rat):=Xp;have hNn:(0:Rat)<=(N:Rat):=Xp;refine ⟨(N:Rat)*((H:Rat)*R^(a+b+J)),Pz hNn (Pz hHn (by have:=hRp (a+b+J); grind)),λx y hx hy=>?_⟩;have e1:(sq J λj=>((sm N λn=>phi A B b J J' n 0 j*v n:Int):Rat)*x^j)=E2 (λk j=>sm N λn=>phi A B b J J' n k j*v n) (a+b) J x y:=by
   unfold E2;obtain ⟨m,hm⟩:∃ m,a+b=m+1:=⟨a+b-1,by omega⟩;rw [hm,A7,Nv (n:=m)]
   ·have:(sq J λj=>((sm N λn=>phi A B b J J' n 0 j*v n:Int):Rat)*(y^0*x^j))=sq J λj=>((sm N λn=>phi A B b J J' n 0 j*v n:Int):Rat)*x^j:=Sf J λj _=>by rw [Xg]; grind
    rw [this]; grind
   ·intro k hk;refine Nv J λj hj=>?_
    show ((sm N λn=>phi A B b J J' n (k+1) j*v n:Int):Rat)*_=0;rw [hW (k+1) j (by omega) (by omega) hj,show ((0:Int):Rat)=0 from rfl]; grind
  rw [e1,Q9k];have key:∀ n,n<N->Uu ((v n:Rat)*E2 (phi A B b J J' n) (a+b) J x y)<=(H:Rat)*(R^(a+b+J)*(Uu (Up A y)+Uu (Up B (y-x)))):=λn hn=>by
   have hvn:Uu (v n:Rat)<=(H:Rat):=by
    have h1:=v1 n;have h2:(v n)<=(H:Int):=by omega
    have h3:-(H:Int)<=v n:=by omega
    have h2:=Ji.2 h2;have h3:=Ji.2 h3;rw [Vi] at h3;rw [Rx]; exact ⟨h3,h2⟩
   refine Ge hvn ?_;have hRk:=hRp (a+b+J);have n1:=Gx (Up A y);have n2:=Gx (Up B (y-x));rcases Zb n (b*J) with h | h
   ·have e:phi A B b J J' n=shF (n / J) (n % J) (fA A):=by funext k j; unfold phi; rw [if_pos h]
    have d1:n / J<b:=Je (by rw [Zi]; exact h);have d2:=Xf n hJp;rw [e];refine Zc (Zcv (K2:=a+b-n / J) (J2:=J-n % J) hR hx hy (by omega) (by omega) (X:=Up A y) ?_) (Pd (by grind) Qq n1 (by grind));obtain ⟨m,hm⟩:∃ m,J-n % J=m+1:=⟨J-n % J-1,by omega⟩;rw [hm]; exact Zob A _ _ x y (by omega)
   ·have e:phi A B b J J' n=shF ((n-b*J) / J') ((n-b*J) % J') (gc B):=by funext k j; unfold phi; rw [if_neg (by omega)]
    have hJp':0<J':=by
     rcases Qz J' with e | e
     ·rw [e,Y0] at hN; omega
     ·exact e
    have d1:(n-b*J) / J'<a:=Je (by rw [Zi J' a]; omega);have d2:=Xf (n-b*J) hJp';rw [e];refine Zc (Zcv (K2:=a+b-(n-b*J) / J') (J2:=J-(n-b*J) % J') hR hx hy (by omega) (by omega) (X:=Up B (y-x)) ?_) (Pd (by grind) Qq n2 (by grind));exact Zlb x y B _ _ (by omega) (by omega)
  have:=Zj2 N key;refine Zc this ?_;have:(N:Rat)*((H:Rat)*(R^(a+b+J)*(Uu (Up A y)+Uu (Up B (y-x)))))=(N:Rat)*((H:Rat)*R^(a+b+J))*(Uu (Up A y)+Uu (Up B (y-x))):=by grind
  rw [this]; exact Qq
end Orq
namespace Orq
theorem Zc5 {w:Nat->Int} {x:Rat} {D:Rat} (hx:Uu x*2<=1) (hw:∀ j,Uu (w j:Rat)<=D):∀ J (k:Nat),Uu (sq J λj=>(w (k+j):Rat)*x^j)<=2*D
 | 0,k=>by have:=hw 0; have:=Gx (w 0:Rat); simp only [sq,Hk]; clear hw; grind
 |
  J+1,k=>by
  have ih:=Zc5 hx hw J (k+1);rw [A7];have e:(sq J λi=>(w (k+(i+1)):Rat)*x^(i+1))=x*sq J λi=>(w (k+1+i):Rat)*x^i:=by
   rw [<-Qa7]; exact Sf J λi _=>by rw [Xb,show k+(i+1)=k+1+i by omega]; grind
  rw [e,Xg,Xy];have h1:=hw k;have h2:=Te ((w k:Rat)*1) (x*sq J λi=>(w (k+1+i):Rat)*x^i);have h3:=Ge (x:=x) (y:=sq J λi=>(w (k+1+i):Rat)*x^i) Qq ih;have h4:=Q5 hx (show (0:Rat)<=D by have:=Gx (w k:Rat); clear hw; grind);have h5:(w k:Rat)*1=w k:=by grind
  rw [h5] at h2 ⊢;clear hw; grind
theorem I8 {z:Int} (h:z≠0):1<=Uu (z:Rat):=by
 unfold Uu;rcases Kf h with h | h
 ·have:((z:Int):Rat)<((0:Int):Rat):=X7.2 h;have h2:((1:Int):Rat)<=((-z:Int):Rat):=Ji.2 (by omega);rw [if_pos (by simpa using this)];rw [Vi] at h2;simpa using h2
 ·have:((0:Int):Rat)<((z:Int):Rat):=X7.2 h;have h2:((1:Int):Rat)<=((z:Int):Rat):=Ji.2 (by omega);rw [if_neg (by
   have:(0:Rat)<z:=by simpa using this
   grind)]
  simpa using h2
theorem Qyt {w:Nat->Int} {x:Rat} {D:Rat} (hD:1<=D) (hx0:0<Uu x) (hx:Uu x*(4*D)<=1) (hw:∀ j,Uu (w j:Rat)<=D):∀ J (k:Nat),(∃ j,j<J/\w (k+j)≠0)->Uu x^J / 2<=Uu (sq J λj=>(w (k+j):Rat)*x^j)
 | 0,k,⟨j,h,_⟩=>by omega
 |
  J+1,k,⟨j,h1,h2⟩=>by
  have hx2:Uu x*2<=1:=by
   have:=Pd (a:=Uu x) (c:=2) (Qo hx0) Qq (by decide) (show (2:Rat)<=4*D by clear hw; grind);exact Zc this hx
  have hx1:Uu x<=1:=by clear hw; grind
  have hp:∀ k:Nat,Uu x^k<=1/\0<=Uu x^k:=λk=>by
   induction k with
   | zero=>rw [Xg]; exact ⟨by decide,by decide⟩
   |
    succ k ih =>
    rw [Xb];have:=Pd ih.2 ih.1 (Qo hx0) hx1;have:=Pz ih.2 (Qo hx0);constructor <;> (clear hw; grind)
  rw [A7];have e:(sq J λi=>(w (k+(i+1)):Rat)*x^(i+1))=x*sq J λi=>(w (k+1+i):Rat)*x^i:=by
   rw [<-Qa7]; exact Sf J λi _=>by rw [Xb,show k+(i+1)=k+1+i by omega]; grind
  rw [e,Xg,Xy k,show (w k:Rat)*1=w k by grind];by_cases h0:w k=0
  ·have hj:j≠0:=λe=>h2 (by rw [e]; exact h0)
   have ih:=Qyt hD hx0 hx hw J (k+1) ⟨j-1,by omega,by rw [show k+1+(j-1)=k+j by omega]; exact h2⟩;rw [h0,show ((0:Int):Rat)+x*(sq J λi=>(w (k+1+i):Rat)*x^i)=x*sq J λi=>(w (k+1+i):Rat)*x^i by rw [show ((0:Int):Rat)=0 from rfl]; grind,Dn,Xb];have:=Zp ih (Qo hx0);have e2:Uu x*(Uu x^J / 2)=Uu x^J*Uu x / 2:=by rw [Yj,Yj]; grind
   rw [e2] at this; exact this
  ·have a1:=I8 h0;have a2:=Zc5 hx2 hw J (k+1);have a3:=Ge (x:=x) (y:=sq J λi=>(w (k+1+i):Rat)*x^i) Qq a2;have a4:=Te ((w k:Rat)+x*sq J λi=>(w (k+1+i):Rat)*x^i) (-(x*sq J λi=>(w (k+1+i):Rat)*x^i));rw [Do,show (w k:Rat)+(x*sq J λi=>(w (k+1+i):Rat)*x^i)+-(x*sq J λi=>(w (k+1+i):Rat)*x^i)=w k by grind] at a4;have a5:=(hp (J+1)).1;have a6:Uu x^(J+1) / 2*2=Uu x^(J+1):=Fl (by decide);have a7:Uu x*(2*D)*2=Uu x*(4*D):=by grind
   clear hw hp; grind
theorem Zli {A B:List Int} {a b h:Nat} (hA:A.length=a+1) (hB:B.length=b+1) (lA:A.getD a 0≠0) (lB:B.getD b 0≠0) (ha:0<a) (hb:0<b) (h0:1<=h) (bA:∀ k,(A.getD k 0).natAbs<=h) (bB:gB B<=h) {N D:Nat} (hN:b*(2*(a*b))+a*(2*(a*b)-b)=N) (hD:N*(h*(2*(N*h))^(2*(a+b-1)))<=D) {R d:Rat} (hR:1<=R) (dp:0<d)
 (hs:∀ e:Rat,0<e->∃ q r,Uu q<=R/\Uu r<=R/\d<=Uu (q-r)/\Uu (q-r)*(4*(D:Rat))<=1/\Uu (Up A q)<e/\Uu (Up B r)<e):False:=by
 have hab:0<a*b:=Yd ha hb;have hbab:b<=a*b:=by
  have:=Qy b (show 1<=a from ha); omega
 obtain ⟨w,⟨j,hj,hw0⟩,hw,hC⟩:=Zmh hA hB lA lB ha hb h0 bA bB (J:=2*(a*b)) (J':=2*(a*b)-b) rfl (by omega) hN.symm rfl;obtain ⟨C,hC0,hC⟩:=hC (2*R) (by grind);have hw':∀ j,Uu (w j:Rat)<=(D:Rat):=λj=>by
  have h1:=Qc (hw j) hD;have h2:w j<=(D:Int):=by omega
  have h3:-(D:Int)<=w j:=by omega
  have h2:=Ji.2 h2;have h3:=Ji.2 h3;rw [Vi] at h3;rw [Rx]; exact ⟨h3,h2⟩
 have hD1:(1:Rat)<=(D:Rat):=by
  have:=I8 hw0;exact Zc this (hw' j)
 have hdJ:0<d^(2*(a*b)) / 2:=Bu (Rat.pow_pos dp) (by decide);obtain ⟨e,ep,_,he⟩:=Gj (b:=C*2) (d:=d^(2*(a*b)) / 2) (by grind) hdJ;obtain ⟨q,r,q1,r1,d1,d2,aq,br⟩:=hs e ep;have h1:=hC (q-r) q (by
  have:=Te q (-r); rw [Do] at this; have:q-r=q+-r:=by grind
  grind) (by grind)
 rw [show q-(q-r)=r by grind] at h1;have h2:=Qyt (x:=q-r) hD1 (by grind) d2 hw' (2*(a*b)) 0 ⟨j,hj,by rw [Xa]; exact hw0⟩;simp only [Xa] at h2;have h3:C*(Uu (Up A q)+Uu (Up B r))<=C*(e+e):=Zp (by grind) hC0;have h4:d^(2*(a*b))<=Uu (q-r)^(2*(a*b)):=by
  generalize 2*(a*b)=J
  induction J with
  | zero=>rw [Xg,Xg]; exact Qq
  |
   succ J ih =>
   rw [Xb,Xb];exact Pd (Qo (Rat.pow_pos dp)) ih (Qo dp) d1
 have h5:d^(2*(a*b)) / 2*2=d^(2*(a*b)):=Fl (by decide);have h6:Uu (q-r)^(2*(a*b)) / 2*2=Uu (q-r)^(2*(a*b)):=Fl (by decide);clear hC hs hw hw';grind
def HD (p:List Rat) (n:Nat):Prop:=p.getD n 0≠0/\∀ k,n<k->p.getD k 0=0
theorem Hg:∀ (p q:List Rat) (k:Nat),(Ra p q).getD k 0=p.getD k 0+q.getD k 0
 | [],q,k=>by simp only [Ra,Kr]; grind
 | a::p,[],k=>by simp only [Ra,Kr]; grind
 | a::p,b::q,0=>by simp only [Ra,Zr]
 | a::p,b::q,k+1=>by simp only [Ra,Q3]; exact Hg p q k
theorem H7 (c:Rat):∀ (p:List Rat) (k:Nat),(P5 c p).getD k 0=c*p.getD k 0
 | [],k=>by simp only [P5,X8,Kr]; grind
 | a::p,0=>by simp [P5]
 | a::p,k+1=>by have:=H7 c p k; simp only [P5,Zz,Q3] at *; exact this
theorem Zab {p:List Rat} {k:Nat} (h:∀ x∈p,x=0):p.getD k 0=0:=by
 rw [Qg];cases e:p[k]? with
 | none=>rfl
 | some x=>exact h x (Qa e)
theorem Ni {p q:List Rat} (h:∀ t,ev p t=ev q t) (k:Nat):p.getD k 0=q.getD k 0:=by
 have h1:=Zab (k:=k) (Qdq (p:=Ra p (P5 (-1) q)) λt _ _=>by rw [Fh,U7,h t]; grind);rw [Hg,H7] at h1; grind
theorem Cj:∀ {p:List Rat},(∀ k,p.getD k 0=0)->∀ t,ev p t=0
 | [],_,t=>rfl
 |
  a::p,h,t=>by
  have h0:=h 0;have h1:=Cj (p:=p) (λk=>by have:=h (k+1); rwa [Q3] at this) t;rw [Zr] at h0;simp only [ev,h0,h1]; grind
theorem Qht:∀ (p:List Rat),(∀ t,ev p t=0)\/∃ n,n<p.length/\HD p n
 | []=>.inl λ_=>rfl
 |
  a::p=>by
  rcases Qht p with h | ⟨n,hn,h1,h2⟩
  ·rcases Classical.em (a=0) with e | e
   ·exact .inl λt=>by simp only [ev,e,h t]; grind
   ·refine .inr ⟨0,by simp,by simpa using e,λk hk=>?_⟩;obtain ⟨m,rfl⟩:∃ m,k=m+1:=⟨k-1,by omega⟩;rw [Q3];exact (Ni (p:=p) (q:=[]) h m).trans (by simp)
  ·refine .inr ⟨n+1,by simp; omega,by rw [Q3]; exact h1,λk hk=>?_⟩;obtain ⟨m,rfl⟩:∃ m,k=m+1:=⟨k-1,by omega⟩;rw [Q3]; exact h2 m (by omega)
theorem Zae {p q:List Rat} {n:Nat} (h:∀ t,ev p t=ev q t) (hp:HD p n):HD q n :=
 ⟨by rw [<-Ni h]; exact hp.1,λk hk=>by rw [<-Ni h]; exact hp.2 k hk⟩
theorem Zjr {p:List Rat} {n m:Nat} (h:HD p n) (h':HD p m):n=m:=by
 rcases Vp n m with e | e | e
 ·exact absurd (h.2 m e) h'.1
 ·exact e
 ·exact absurd (h'.2 n e) h.1
theorem Q17 {p:List Rat} {n:Nat} (h:HD p n):¬∀ t,ev p t=0:=λh0=>h.1 ((Ni (p:=p) (q:=[]) h0 n).trans (by simp))
theorem Qhu {p q:List Rat} (h:∀ k,p.getD k 0=0) (k:Nat):(Fx p q).getD k 0=0:=by
 have:=Ni (p:=Fx p q) (q:=[]) (λt=>by rw [Ur,Cj h t]; simp only [ev]; grind) k;rw [this]; simp
theorem Qgk:∀ {p q:List Rat} {m n:Nat},HD p m->HD q n->HD (Fx p q) (m+n)
 | [],q,m,n,h,_=>absurd (by simp) h.1
 |
  a::p,q,0,n,h,h'=>by
  have h1:∀ k,p.getD k 0=0:=λk=>by have:=h.2 (k+1) (by omega); rwa [Q3] at this
  have h2:∀ k,(Fx (a::p) q).getD k 0=a*q.getD k 0:=λk=>by
   simp only [Fx];rw [Hg,H7];cases k with
   | zero=>rw [Zr]; grind
   | succ k=>rw [Q3,Qhu h1]; grind
  have h3:=h.1;rw [Zr] at h3;refine ⟨?_,λk hk=>?_⟩
  ·rw [h2,Xa]; exact λh=>(Jw.1 h).elim h3 h'.1
  ·rw [h2,h'.2 k (by omega)]; grind
 |
  a::p,q,m+1,n,h,h'=>by
  have ih:=Qgk (p:=p) (q:=q) (m:=m) ⟨by have:=h.1; rwa [Q3] at this,λk hk=>by have:=h.2 (k+1) (by omega); rwa [Q3] at this⟩ h';refine ⟨?_,λk hk=>?_⟩
  ·simp only [Fx];rw [Hg,H7,show m+1+n=(m+n)+1 by omega,Q3,h'.2 _ (by omega)];have:=ih.1; grind
  ·obtain ⟨j,rfl⟩:∃ j,k=j+1:=⟨k-1,by omega⟩;simp only [Fx];rw [Hg,H7,Q3,h'.2 _ (by omega),ih.2 j (by omega)]; grind
def Oj (g f:List Rat):Prop:=∃ u,∀ t,ev f t=ev g t*ev u t
theorem dvd_refl (f:List Rat):Oj f f:=⟨[1],λt=>by rw [H4]; grind⟩
theorem dvd_trans {f g h:List Rat}:Oj f g->Oj g h->Oj f h
 | ⟨u,hu⟩,⟨v,hv⟩=>⟨Fx u v,λt=>by rw [hv,hu,Ur]; grind⟩
theorem Quy {p q:List Rat} (h:∀ t,ev p t*ev q t=0) (hp:¬∀ t,ev p t=0):∀ t,ev q t=0:=by
 rcases Qht p with h1 | ⟨m,_,h1⟩
 ·exact absurd h1 hp
 ·rcases Qht q with h2 | ⟨n,_,h2⟩
  ·exact h2
  ·exact absurd (λt=>by rw [Ur]; exact h t) (Q17 (Qgk h1 h2))
theorem Qxx {p q r:List Rat} (hp:¬∀ t,ev p t=0) (h:∀ t,ev p t*ev q t=ev p t*ev r t) (t:Rat):ev q t=ev r t:=by
 have:=Quy (p:=p) (q:=Ra q (P5 (-1) r)) (λt=>by rw [Fh,U7]; have:=h t; grind) hp t;rw [Fh,U7] at this; grind
theorem Q9c {b:List Rat} {n:Nat} (hb:HD b n):∀ (l:Nat) (a:List Rat),(∀ k,l<=k->a.getD k 0=0)->∃ q r,(∀ t,ev a t=ev q t*ev b t+ev r t)/\∀ k,n<=k->r.getD k 0=0
 | 0,a,ha=>⟨[],a,λt=>by simp only [ev]; grind,λk _=>ha k (Qh _)⟩
 |
  l+1,a,ha=>by
  rcases Zb l n with h | h
  ·exact ⟨[],a,λt=>by simp only [ev]; grind,λk hk=>ha k (by omega)⟩
  ·-- the leading term is taken away
   obtain ⟨c,hc⟩:=nmE (a.getD l 0 / b.getD n 0);have hcb:c*b.getD n 0=a.getD l 0:=by rw [hc]; exact Zk hb.1
   obtain ⟨m,hm⟩:∃ m:List Rat,m=List.replicate (l-n) 0++[c]:=⟨_,rfl⟩;have hsh:∀ (i:Nat) (k:Nat),(Fx (List.replicate i 0++[c]) b).getD k 0=if i<=k then c*b.getD (k-i) 0 else 0:=λi=>by
    induction i with
    | zero=>intro k; simp only [Wg,Y3,Fx]; rw [Hg,H7]; cases k <;> simp <;> grind
    |
     succ i ih =>
     intro k;simp only [Ya,Xm,Fx];rw [Hg,H7];cases k with
     | zero=>rw [Zr,if_neg (by omega)]; grind
     |
      succ k =>
      rw [Q3,ih k];by_cases h:i<=k
      ·rw [if_pos h,if_pos (by omega),Nat.add_sub_add_right]; grind
      ·rw [if_neg h,if_neg (by omega)]; grind
   obtain ⟨q,r,h1,h2⟩:=Q9c hb l (Ra a (P5 (-1) (Fx m b))) λk hk=>by
    rw [Hg,H7,hm,hsh,if_pos (by omega)];rcases Vg hk with e | e
    ·rw [ha k (by omega),hb.2 _ (by omega)]; grind
    ·subst e; rw [show l-(l-n)=n by omega,hcb]; grind
   refine ⟨Ra q m,r,λt=>?_,h2⟩;have:=h1 t;rw [Fh,U7,Ur] at this;rw [Fh]; grind
theorem Qyh:∀ (n:Nat) (a b:List Rat),(∀ k,n<=k->b.getD k 0=0)->∃ g U V,Oj g a/\Oj g b/\∀ t,ev g t=ev U t*ev a t+ev V t*ev b t
 |
  0,a,b,h=>by
  have h0:=Cj λk=>h k (Qh _)
  exact ⟨a,[1],[],dvd_refl a,⟨[],λt=>by rw [h0]; simp only [ev]; grind⟩,λt=>by rw [H4]; simp only [ev]; grind⟩
 |
  n+1,a,b,h=>by
  rcases Classical.em (b.getD n 0=0) with e | e
  ·exact Qyh n a b λk hk=>by
    rcases Vg hk with e' | e'
    ·exact h k (by omega)
    ·rw [<-e']; exact e
  ·obtain ⟨q,r,h1,h2⟩:=Q9c (b:=b) (n:=n) ⟨e,λk hk=>h k (by omega)⟩ a.length a λk hk=>by rw [Qg,Qt hk]; rfl
   obtain ⟨g,U,V,⟨u,hu⟩,⟨v,hv⟩,hg⟩:=Qyh n b r h2;refine ⟨g,V,Ra U (P5 (-1) (Fx V q)),⟨Ra (Fx q u) v,λt=>?_⟩,⟨u,hu⟩,λt=>?_⟩
   ·rw [h1,hv,Fh,Ur,hu]; grind
   ·rw [hg,Fh,U7,Ur,h1]; grind
theorem Q96 (a b:List Rat):∃ g U V,Oj g a/\Oj g b/\∀ t,ev g t=ev U t*ev a t+ev V t*ev b t :=
 Qyh b.length a b λk hk=>by rw [Qg,Qt hk]; rfl
def Cop (a b:List Rat):Prop:=∃ U V,∀ t,ev U t*ev a t+ev V t*ev b t=1
theorem Qqc {c d e:List Rat} (h:Cop c d) (h1:∃ u,∀ t,ev d t*ev e t=ev c t*ev u t):Oj c e:=by
 obtain ⟨U,V,h⟩:=h;obtain ⟨u,hu⟩:=h1;refine ⟨Ra (Fx U e) (Fx V u),λt=>?_⟩;rw [Fh,Ur,Ur];have a1:=h t;have a2:=hu t;have:ev e t=(ev U t*ev c t+ev V t*ev d t)*ev e t:=by rw [a1]; grind
 rw [this];have:(ev U t*ev c t+ev V t*ev d t)*ev e t=ev U t*ev c t*ev e t+ev V t*(ev d t*ev e t):=by grind
 rw [this,a2]; grind
def qpw (d:List Rat):Nat->List Rat
 | 0=>[1]
 | k+1=>Fx d (qpw d k)
theorem Qzk (d:List Rat) (t:Rat):∀ k:Nat,ev d t*dv (qpw d k) t=(k:Rat)*(dv d t*ev (qpw d k) t)
 | 0=>by simp only [qpw,dv,ev]; rw [show ((0:Nat):Rat)=0 from rfl]; grind
 |
  k+1=>by
  have ih:=Qzk d t k;have hn':(((k+1:Nat):Rat))=(k:Rat)+1:=by push_cast; rfl
  simp only [qpw];rw [Qqj,Ur,hn']; grind
theorem Zb2 {d:List Rat} {m:Nat} (h:HD d m):∀ k,HD (qpw d k) (k*m)
 | 0=>by rw [Ye]; exact ⟨by simp [qpw],λk hk=>by simp only [qpw]; rw [Qg,Qt (by simp; omega)]; rfl⟩
 | k+1=>by rw [Xc,Yc (k*m) m]; exact Qgk h (Zb2 h k)
theorem Qox {d g:List Rat} {m n:Nat} (hd:HD d m) (hg:HD g n) (h:∀ k,Oj (qpw d k) g):m=0:=by
 obtain ⟨u,hu⟩:=h (n+1);rcases Qht u with h1 | ⟨j,_,h1⟩
 ·exact absurd (λt=>by rw [hu,h1]; grind) (Q17 hg)
 ·have:=Zjr (Zae (λt=>by rw [hu,Ur]) hg) (Qgk (Zb2 hd (n+1)) h1);rcases Qz m with e | e
  ·exact e
  ·have:(n+1)*1<=(n+1)*m:=Zj _ e;omega
theorem sqf {a g q d U V:List Rat} {k:Rat} (hk:k≠0) (ha:∀ t,ev a t=ev g t*ev q t) (hg:∀ t,k*ev g t=ev U t*ev a t+ev V t*dv a t) (h1:Oj d q) (h2:Oj d (Ms q)):∀ n,Oj (qpw d n) g
 | 0=>⟨g,λt=>by simp only [qpw]; rw [H4]; grind⟩
 |
  n+1=>by
  obtain ⟨g1,e1⟩:=sqf hk ha hg h1 h2 n;obtain ⟨q1,e2⟩:=h1;obtain ⟨q2,e3⟩:=h2;have d1:=λt=>Iu ha t
  have d2:=λt=>Iu e1 t
  have d3:=λt=>Iu e2 t
  have d4:=Qzk d;refine ⟨P5 (1 / k) (Ra (Fx U (Fx g1 q1)) (Fx V (Ra (Fx g1 q2) (Ra (P5 n (Fx g1 (Ra q2 (P5 (-1) (Ms q1))))) (Fx (Ms g1) q1))))),λt=>?_⟩;have hkk:1 / k*k=1:=Zk hk;simp only [qpw,U7,Fh,Ur,Hw];have b1:=ha t; have b2:=hg t; have b3:=e1 t; have b4:=e2 t; have b5:=e3 t;have b6:=d1 t; have b7:=d2 t; have b8:=d3 t; have b9:=d4 t n;rw [Hw] at b5;generalize ev d t=x0 at *;generalize ev (qpw d n) t=x1 at *;generalize ev g t=x2 at *;generalize ev q t=x3 at *;generalize ev a t=x4 at *;generalize dv a t=x5 at *;generalize dv g t=x6 at *;generalize dv q t=x7 at *;generalize ev g1 t=x8 at *;generalize dv g1 t=x9 at *;generalize ev q1 t=y0 at *;generalize dv q1 t=y1 at *;generalize ev q2 t=y2 at *;generalize dv d t=y3 at *;generalize dv (qpw d n) t=y4 at *;generalize ev U t=y5 at *;generalize ev V t=y6 at *;generalize (n:Rat)=y7 at *;have:x2=1 / k*(k*x2):=by grind
  rw [this,b2];have c1:x5=x0*x1*(x8*y2+(y7*(x8*(y2+-1*y1))+x9*y0)):=by
   rw [b6,b7,b4,b3];have:y3*y0=x0*y2-x0*y1:=by grind
   have:x0*y4*(x8*y0)=y7*(x1*x8*(x0*y2-x0*y1)):=by rw [b9,<-this]; grind
   grind
  have c2:x4=x0*x1*(x8*y0):=by rw [b1,b3,b4]; grind
  rw [c1,c2]; grind
theorem Zfy {a b c:List Rat} (h1:Cop a b) (h2:Cop a c) {d:List Rat} (hd:∀ t,ev d t=ev b t*ev c t):Cop a d:=by
 obtain ⟨U,V,h1⟩:=h1;obtain ⟨X,Y,h2⟩:=h2;refine ⟨Ra U (Fx (Fx V b) X),Fx V Y,λt=>?_⟩;have a1:=h1 t;have a2:=h2 t;simp only [Fh,Ur,hd];have:ev V t*ev b t*(ev X t*ev a t+ev Y t*ev c t)=ev V t*ev b t:=by rw [a2]; grind
 grind
theorem Zif {a g q z r X Y:List Rat} {n:Nat} (ha:∀ t,ev a t=ev g t*ev q t) (hz:∀ t,dv a t=ev g t*ev z t) (hg:HD g n) (hr:∀ t,ev X t*ev r t+ev Y t*dv r t=1) (h:Oj r a):Oj r q:=by
 obtain ⟨b,hb⟩:=h;obtain ⟨e,U,V,⟨r1,e1⟩,⟨q3,e2⟩,e3⟩:=Q96 r q;have hr0:¬∀ t,ev r t=0:=λh=>by
  have h1:=hr 0;have h2:dv r 0=0:=by have:=Q9h (p:=r) (q:=[]) h 0; rw [this]; rfl
  rw [h,h2] at h1; grind
 have he0:¬∀ t,ev e t=0:=λh=>hr0 λt=>by rw [e1,h]; grind
 have d1:=λt=>Iu e1 t
 have c1:Cop r1 q3:=⟨U,V,λt=>by
  have:=Qxx (p:=e) (q:=Ra (Fx U r1) (Fx V q3)) (r:=[1]) he0 (λt=>by
   rw [Fh,Ur,Ur,H4];have a1:=e1 t; have a2:=e2 t; have a3:=e3 t;rw [a1,a2] at a3; grind) t
  rw [Fh,Ur,Ur,H4] at this; exact this⟩
 have c2:Cop r1 e:=⟨Ra (Fx X e) (Fx Y (Ms e)),Fx Y (Ms r1),λt=>by
  have a1:=hr t; have a2:=e1 t; have a3:=d1 t;simp only [Fh,Ur,Hw];rw [a2,a3] at a1; grind⟩
 have c3:Cop r1 (Ms r1):=⟨Ra (Fx X e) (Fx Y (Ms e)),Fx Y e,λt=>by
  have a1:=hr t; have a2:=e1 t; have a3:=d1 t;simp only [Fh,Ur,Hw];rw [a2,a3] at a1; grind⟩
 have c4:Cop r1 q:=Zfy c2 c1 e2;have hgz:=Q17 hg;have hp:∀ k,Oj (qpw r1 k) g:=λk=>by
  induction k with
  | zero=>exact ⟨g,λt=>by simp only [qpw]; rw [H4]; grind⟩
  |
   succ k ih =>
   obtain ⟨h,eh⟩:=ih;have hpz:¬∀ t,ev (qpw r1 k) t=0:=λh0=>hgz λt=>by rw [eh,h0]; grind
   have key:Oj r1 h:=by
    cases k with
    |
     zero =>
     refine Qqc c4 ⟨Fx e b,λt=>?_⟩;have a1:=ha t; have a2:=hb t; have a3:=e1 t; have a4:=eh t;simp only [qpw] at a4;rw [H4] at a4;rw [Ur]; grind
    |
     succ k =>
     have hn:((k+1:Nat):Rat)≠0:=by
      have:(0:Rat)<((k+1:Nat):Rat):=by
       have h1:((0:Nat):Rat)<((k+1:Nat):Rat):=Vm.2 (by omega);simpa using h1
      grind
     have d2:=λt=>Iu (f:=a) (w:=qpw r1 (k+1)) (u:=Fx h q) (λt=>by rw [ha,eh,Ur]; grind) t
     have d4:=Qzk r1;have h3:=Qxx (p:=qpw r1 (k+1)) (q:=Fx (Ms r1) (Fx h q)) (r:=Fx r1 (P5 (1 / ((k+1:Nat):Rat)) (Ra (Fx h z) (P5 (-1) (Ms (Fx h q)))))) hpz λt=>by
      simp only [Ur,U7,Fh,Hw];have a1:=d2 t; have a2:=d4 t (k+1); have a3:=hz t; have a4:=eh t;rw [Ur] at a1;generalize ((k+1:Nat):Rat)=c at *;have hc:1 / c*c=1:=Zk hn;generalize ev (qpw r1 (k+1)) t=x0 at *;generalize dv (qpw r1 (k+1)) t=x1 at *;generalize dv (Fx h q) t=x2 at *;generalize ev r1 t=x3 at *;generalize dv r1 t=x4 at *;generalize ev h t=x5 at *;generalize ev q t=x6 at *;generalize ev z t=x7 at *;generalize dv a t=x8 at *;generalize ev g t=x9 at *;generalize 1 / c=c' at *;have s1:x0*(x4*(x5*x6))=c'*(c*(x4*x0))*(x5*x6):=by
       have:c'*(c*(x4*x0))=(c'*c)*(x4*x0):=by grind
       rw [this,hc]; grind
      rw [s1,<-a2];have s2:x3*(x1*(x5*x6))=x3*(x0*(x5*x7+-1*x2)):=by
       rw [a3,a4] at a1; grind
      grind
     refine Qqc c4 ?_;obtain ⟨u,hu⟩:=Qqc (e:=Fx q h) c3 ⟨P5 (1 / ((k+1:Nat):Rat)) (Ra (Fx h z) (P5 (-1) (Ms (Fx h q)))),λt=>by
      have:=h3 t;simp only [Ur] at this ⊢;rw [<-this]; grind⟩
     exact ⟨u,λt=>by rw [<-hu,Ur]⟩
   obtain ⟨u,hu⟩:=key;exact ⟨u,λt=>by simp only [qpw]; rw [Ur,eh,hu]; grind⟩
 rcases Qht r1 with h1 | ⟨m,_,h1⟩
 ·exact absurd (λt=>by rw [e1,h1]; grind) hr0
 ·obtain rfl:=Qox h1 hg hp;have h2:∀ t,ev r1 t=r1.getD 0 0:=λt=>by
   cases r1 with
   | nil=>simp [ev]
   |
    cons c l =>
    have:∀ t,ev l t=0:=Cj λk=>by have:=h1.2 (k+1) (by omega); rwa [Q3] at this
    simp only [ev,this,Zr]; grind
  have h3:=h1.1;refine ⟨P5 (1 / r1.getD 0 0) q3,λt=>?_⟩;rw [e2,e1,h2,U7];have:1 / r1.getD 0 0*r1.getD 0 0=1:=Zk h3;have:ev e t*r1.getD 0 0*(1 / r1.getD 0 0*ev q3 t)=ev e t*ev q3 t*(1 / r1.getD 0 0*r1.getD 0 0):=by grind
  rw [this,Zk h3]; grind
def Au:List (List Rat)->List Rat
 | []=>[1]
 | w::l=>Fx w (Au l)
def Lay:List (List Rat)->List (List Rat)->Prop
 | [],[]=>True
 | [w],[f]=>∀ t,ev w t=ev f t
 | w::v::l,f::fs=>(∀ t,ev w t=ev f t*ev v t)/\Lay (v::l) fs
 | _,_=>False
def Qii:List (List Rat)->List Rat
 | []=>[1]
 | [f]=>f
 | f::_::l=>Fx f (Qii l)
theorem Q2g:∀ {ws fs:List (List Rat)},Lay ws fs->∃ S,∀ t,ev (Au ws) t=ev (Qii fs) t*(ev S t*ev S t)
 | [],[],_=>⟨[1],λt=>by simp only [Au,Qii]; rw [H4]; grind⟩
 | [w],[f],h=>⟨[1],λt=>by simp only [Au,Qii]; rw [Ur,H4,h t]; grind⟩
 |
  [w,v],[f,f2],h=>⟨v,λt=>by
  have h1:=h.1 t;have h2:ev v t=ev f2 t:=h.2 t;simp only [Au,Qii,Ur]; rw [H4,h1]; grind⟩
 |
  w::v::x::l,f::f2::fs,h=>by
  obtain ⟨S,hS⟩:=Q2g h.2.2;refine ⟨Fx v S,λt=>?_⟩;have h1:=h.1 t;have h2:=hS t;have e1:ev (Au (w::v::x::l)) t=ev w t*(ev v t*ev (Au (x::l)) t):=by simp only [Au,Ur]
  rw [e1,h2,h1];have e2:ev (Qii (f::f2::fs)) t=ev f t*ev (Qii fs) t:=by
   cases fs with
   | nil=>cases l <;> exact False.elim h.2.2
   | cons y l=>simp only [Qii,Ur]
  rw [e2,Ur]; grind
 | [w],[],h=>h.elim
 | [w],_::_::_,h=>h.elim
 | [],_::_,h=>h.elim
 | [w,v],[f],h=>h.2.elim
 | [w,v],_::_::_::_,h=>h.2.elim
 | w::v::x::l,[f],h=>h.2.elim
 | w::v::l,[],h=>h.elim
end Orq
namespace Orq
open Orr Go
theorem Qy6 (p:List Int) (t:Rat):Up p t=((p.getD 0 0:Int):Rat)+t*Up p.tail t:=by
 cases p with
 | nil=>show (0:Rat)=((0:Int):Rat)+t*0; grind
 | cons a p=>rfl
theorem Qgj (p:List Int) (k:Nat):p.tail.getD k 0=p.getD (k+1) 0:=by
 cases p <;> simp
theorem Nn (c d:Int) (t:Rat):∀ (n:Nat) (p q r:List Int),p.length<=n->q.length<=n->r.length<=n->(∀ k,r.getD k 0=c*p.getD k 0+d*q.getD k 0)->Up r t=(c:Rat)*Up p t+(d:Rat)*Up q t
 |
  0,p,q,r,hp,hq,hr,_=>by
  rw [Qi (Nat.le_zero.1 hp),Qi (Nat.le_zero.1 hq),Qi (Nat.le_zero.1 hr)];show (0:Rat)=_*0+_*0;grind
 |
  n+1,p,q,r,hp,hq,hr,h=>by
  have ih:=Nn c d t n p.tail q.tail r.tail (by rw [W0]; omega) (by rw [W0]; omega) (by rw [W0]; omega) λk=>by
   rw [Qgj,Qgj,Qgj]; exact h (k+1)
  rw [Qy6 p,Qy6 q,Qy6 r,ih,h 0]
  push_cast
  grind
theorem Q24 {p q:List Int} (h:∀ k,p.getD k 0=q.getD k 0) (t:Rat):Up p t=Up q t:=by
 have:=Nn 1 0 t (max p.length q.length) q q p (W4 ..) (W4 ..) (Nat.le_max_left ..) λk=>by rw [h k]; omega
 rw [this]
 push_cast
 grind
theorem Ay (p:List Int) (t:Rat):Up (trim p) t=Up p t:=Q24 (A8 p) t
theorem G7 {p:List Int} {k:Nat} (h:p.length<=k):p.getD k 0=0:=by
 rw [Qg,Qt h]; rfl
theorem Qop (p q:List Int) (k:Nat):(L9 p q).getD k 0=p.getD k 0+q.getD k 0:=by
 unfold L9;rw [Ry]
 split
 ·rfl
 ·rename_i h; rw [G7 (p:=p) (by omega),G7 (p:=q) (by omega)]; rfl
theorem Bz (p q:List Int) (k:Nat):(Tx p q).getD k 0=p.getD k 0-q.getD k 0:=by
 unfold Tx;rw [Ry]
 split
 ·rfl
 ·rename_i h; rw [G7 (p:=p) (by omega),G7 (p:=q) (by omega)]; rfl
theorem Rl (p:List Int) (c:Int) (k:Nat):(Ff p c).getD k 0=p.getD k 0*c:=by
 unfold Ff;rw [Ry]
 split
 ·rfl
 ·rename_i h; rw [G7 (p:=p) (by omega),Int.zero_mul]
theorem Qos (p:List Int) (k:Nat):(Se p).getD k 0=-(p.getD k 0):=by
 unfold Se;rw [Ry]
 split
 ·rfl
 ·rename_i h; rw [G7 (p:=p) (by omega)]; rfl
theorem Sk (p:List Int) (k:Nat):(Fe p).getD k 0=p.getD (k+1) 0*((k+1:Nat):Int):=by
 unfold Fe;rw [Ry]
 split
 ·rfl
 ·rename_i h; rw [G7 (p:=p) (by omega),Int.zero_mul]
theorem Zbi (p q:List Int) (t:Rat):Up (L9 p q) t=Up p t+Up q t:=by
 have:=Nn 1 1 t (max (max p.length q.length) (L9 p q).length) p q (L9 p q) (by omega) (by omega) (by omega) λk=>by rw [Qop]; omega
 rw [this]; push_cast; grind
theorem Ax (p q:List Int) (t:Rat):Up (Tx p q) t=Up p t-Up q t:=by
 have:=Nn 1 (-1) t (max (max p.length q.length) (Tx p q).length) p q (Tx p q) (by omega) (by omega) (by omega) λk=>by rw [Bz]; omega
 rw [this]; push_cast; grind
theorem Qew (p:List Int) (t:Rat):Up (Se p) t=-Up p t:=by
 have:=Nn (-1) 0 t (max p.length (Se p).length) p p (Se p) (by omega) (by omega) (by omega) λk=>by rw [Qos]; omega
 rw [this]; push_cast; grind
theorem Tk (p:List Int) (c:Int) (t:Rat):Up (Ff p c) t=Up p t*(c:Rat):=by
 have:=Nn c 0 t (max p.length (Ff p c).length) p p (Ff p c) (by omega) (by omega) (by omega) λk=>by rw [Rl,Vr]; omega
 rw [this]; push_cast; grind
theorem Qrj:∀ (l:List Int) (j:Nat) (v:Int) (t:Rat),j<l.length->Up (l.set j v) t=Up l t+((v:Rat)-((l.getD j 0:Int):Rat))*t^j
 | [],_,_,_,h=>by simp at h
 |
  a::l,0,v,t,_=>by
  show (v:Rat)+t*Up l t=(a:Rat)+t*Up l t+((v:Rat)-(a:Rat))*t^0;rw [Xg]; grind
 |
  a::l,j+1,v,t,h=>by
  have ih:=Qrj l j v t (by simpa using h);show (a:Rat)+t*Up (l.set j v) t=(a:Rat)+t*Up l t+((v:Rat)-((l.getD j 0:Int):Rat))*t^(j+1);rw [ih,Xb]; grind
theorem Qlo:∀ (l:List Int) (k:Nat) (t:Rat),k<l.length->Up (l.take (k+1)) t=Up (l.take k) t+((l.getD k 0:Int):Rat)*t^k
 | [],_,_,h=>by simp at h
 |
  a::l,0,t,_=>by
  show (a:Rat)+t*Up (l.take 0) t=0+(a:Rat)*t^0;rw [Xg,Vv];show (a:Rat)+t*0=_;grind
 |
  a::l,k+1,t,h=>by
  have ih:=Qlo l k t (by simpa using h);show (a:Rat)+t*Up (l.take (k+1)) t=(a:Rat)+t*Up (l.take k) t+((l.getD k 0:Int):Rat)*t^(k+1);rw [ih,Xb]; grind
theorem Qor (n:Nat) (t:Rat):Up (List.replicate n 0) t=0:=by
 induction n with
 | zero=>rfl
 |
  succ n ih =>
  show ((0:Int):Rat)+t*Up (List.replicate n 0) t=0;rw [ih]; push_cast; grind
theorem Qv5 (t:Rat) (i:Nat):∀ k,t^(i+k)=t^i*t^k
 | 0=>by rw [Xy,Xg]; grind
 | k+1=>by rw [<-Yf,Xb,Xb,Qv5 t i k]; grind
theorem Qvi (x:Int) (b:List Int) (i:Nat) (o:List Int) (t:Rat):∀ k,k<=b.length->i+k<=o.length->Up (Ar x b i o k) t=Up o t+(x:Rat)*t^i*Up (b.take k) t
 |
  0,_,_=>by
  show Up o t=Up o t+(x:Rat)*t^i*0;grind
 |
  k+1,h1,h2=>by
  have ih:=Qvi x b i o t k (by omega) (by omega);simp only [Ar];rw [Qrj _ _ _ _ (by rw [As]; omega),ih,Qlo b k t (by omega)];have hp:t^(i+k)=t^i*t^k:=Qv5 t i k;rw [hp]
  push_cast
  grind
theorem Qvh (a b o:List Int) (t:Rat):∀ i,i<=a.length->i+b.length<=o.length+1->Up (Cx a b o i) t=Up o t+Up (a.take i) t*Up b t
 |
  0,_,_=>by
  show Up o t=Up o t+0*Up b t;grind
 |
  i+1,h1,h2=>by
  have ih:=Qvh a b o t i (by omega) (by omega);simp only [Cx];rw [Qvi _ _ _ _ _ b.length (Qm _) (by rw [Cn]; omega),ih,Qlo a i t (by omega),Q4];grind
theorem Fo (a b:List Int) (t:Rat):Up (U5 a b) t=Up a t*Up b t:=by
 unfold U5
 split
 ·rename_i h;rcases h with h | h
  ·rw [Qi h]; show (0:Rat)=0*_; grind
  ·rw [Qi h]; show (0:Rat)=_*0; grind
 ·rename_i h;rw [Ay,Qvh a b _ t a.length (Qm _) (by rw [Jj]; omega),Qor,Q4];grind
theorem Gs (z d:Int):(z:Rat) / (d:Rat)=Rat.divInt z d:=by
 by_cases h:d=0
 ·subst h; simp; grind
 ·rw [Yj]; exact (Rat.divInt_eq_div z d ▸ by rw [Yj])
theorem Qsn (a:List Int) (n d:Int) (hd:(d:Rat)≠0):∀ k,k<=a.length->(((Pj a n d k).2:Int):Rat)=(d:Rat)^k/\(((Pj a n d k).1:Int):Rat)*d=(d:Rat)^k*Up (a.drop (a.length-k)) ((n:Rat) / d)
 |
  0,_=>by
  refine ⟨by rw [Xg]; rfl,?_⟩;rw [Wd,Vz];show ((0:Int):Rat)*d=(d:Rat)^0*0
  push_cast; grind
 |
  k+1,hk=>by
  obtain ⟨h1,h2⟩:=Qsn a n d hd k (by omega);have hi:a.length-1-k<a.length:=by omega
  have e1:a.drop (a.length-(k+1))=a.getD (a.length-1-k) 0::a.drop (a.length-k):=by
   rw [show a.length-(k+1)=a.length-1-k by omega,Zl hi,show a.length-1-k+1=a.length-k by omega];congr 1;rw [Qg,Qe hi]; rfl
  refine ⟨?_,?_⟩
  ·show (((Pj a n d k).2*d:Int):Rat)=_;rw [X1,h1,Xb]
  ·rw [e1];show (((Pj a n d k).1*n+a.getD (a.length-1-k) 0*(Pj a n d k).2:Int):Rat)*d=_*(((a.getD (a.length-1-k) 0:Int):Rat)+(n:Rat) / d*Up (a.drop (a.length-k)) ((n:Rat) / d));rw [Ke,X1,X1,h1,Xb];have h3:(n:Rat) / d*d=n:=by rw [Zk hd]
   have h4:(d:Rat)^k*d*((n:Rat) / d*Up (a.drop (a.length-k)) ((n:Rat) / d))=((n:Rat) / d*d)*((d:Rat)^k*Up (a.drop (a.length-k)) ((n:Rat) / d)):=by grind
   have h5:(d:Rat)^k*d*(((a.getD (a.length-1-k) 0:Int):Rat)+(n:Rat) / d*Up (a.drop (a.length-k)) ((n:Rat) / d))=(d:Rat)^k*d*((a.getD (a.length-1-k) 0:Int):Rat)+(d:Rat)^k*d*((n:Rat) / d*Up (a.drop (a.length-k)) ((n:Rat) / d)):=by grind
   rw [h5,h4,h3,<-h2];grind
theorem Qrq {d:Rat} (h:0<d):∀ k:Nat,0<d^k
 | 0=>by rw [Xg]; decide
 | k+1=>by rw [Xb]; exact Kq (Qrq h k) h
theorem Qfa {x y:Rat} (h:0<y):Uz (y*x)=Uz x:=by
 unfold Uz;have h1:y*x<0↔x<0:=by
  constructor
  ·intro h2;rcases Vx (a:=0) (b:=x) with h3 | h3
   ·have:=Rat.mul_nonneg (Qo h) h3; grind
   ·rcases V8.1 h3 with h4 | h4
    ·exact h4
    ·rw [h4] at h2; grind
  ·intro h2;have:=Kq h (show 0 < -x by grind);grind
 have h2:0<y*x↔0<x:=by
  constructor
  ·intro h2;rcases Vx (a:=x) (b:=0) with h3 | h3
   ·have:=Rat.mul_nonneg (Qo h) (show 0<=-x by grind); grind
   ·rcases V8.1 h3 with h4 | h4
    ·exact h4
    ·rw [<-h4] at h2; grind
  ·intro h2; exact Kq h h2
 simp only [h1,h2]
theorem Q83 (z:Int):Na z 0=Uz (z:Rat):=by
 unfold Na Uz;have h1:((z:Int):Rat)<0↔z<0:=by
  have := @Rat.intCast_lt_intCast z 0; simpa using this
 have h2:0<((z:Int):Rat)↔0<z:=by
  have := @Rat.intCast_lt_intCast 0 z; simpa using this
 simp only [h1,h2]
theorem Tu (p:List Int) (q:Rat):Fc p q=Uz (Up p q):=by
 have hd0:(0:Rat)<((q.den:Int):Rat):=by
  have := @Rat.intCast_lt_intCast 0 (q.den:Int);rw [show ((0:Int):Rat)=0 from rfl] at this;exact this.2 (den_pos q)
 have hd:((q.den:Int):Rat)≠0:=by intro h; rw [h] at hd0; exact absurd hd0 (by decide)
 obtain ⟨_,h⟩:=Qsn p q.num q.den hd p.length (Qm _);rw [Yl,Xs,Gs,Zs] at h;unfold Fc;rw [Q83,<-Qfa hd0,W6];show Uz ((((Pj p q.num q.den p.length).1:Int):Rat)*_)=_;rw [h,Qfa (Qrq hd0 _)]
def cz (p:List Int):List Rat:=p.map λz:Int=>(z:Rat)
theorem Un (t:Rat):∀ p,ev (cz p) t=Up p t
 | []=>rfl
 | a::p=>by have:=Un t p; simp only [cz,Zz,ev,Up] at *; rw [this]
theorem Sa:∀ (p:List Int) (k:Nat),(cz p).getD k 0=((p.getD k 0:Int):Rat)
 | [],k=>by simp [cz]
 | a::p,0=>by simp [cz]
 | a::p,k+1=>by have:=Sa p k; simp only [cz,Zz,Q3] at *; exact this
theorem Nm {p q:List Int} (h:∀ t,Up p t=Up q t) (k:Nat):p.getD k 0=q.getD k 0:=by
 have:=Ni (p:=cz p) (q:=cz q) (λt=>by rw [Un,Un,h]) k;rw [Sa,Sa] at this
 exact_mod_cast this
theorem Qfi {p q:List Int} (hp:Uo p) (hq:Uo q) (h:∀ k,p.getD k 0=q.getD k 0):p=q:=by
 have key:∀ {p q:List Int},Uo p->Uo q->(∀ k,p.getD k 0=q.getD k 0)->p.length<=q.length:=λ{p q} hp hq h=>by
  rcases Zb q.length p.length with e | e
  ·have:=Gv hp (by omega);rw [h,Qg,Qt (by omega)] at this;exact absurd rfl this
  ·exact e
 exact Qkr (Kd (key hp hq h) (key hq hp λk=>(h k).symm)) λj _=>h j
theorem Q25 {p q:List Int} (hp:Uo p) (hq:Uo q) (h:∀ t,Up p t=Up q t):p=q:=Qfi hp hq (Nm h)
theorem Zhf {p:List Int} (hp:Uo p) (h:∀ t,Up p t=0):p=[]:=Q25 hp rfl λt=>by rw [h]; rfl
theorem Ce {p:List Int} (h:p.length=0) (t:Rat):Up p t=0:=by rw [Qi h]; rfl
theorem Q23:∀ (p r:List Int) (t:Rat),(∀ k,r.getD k 0=p.getD (k+1) 0*((k+1:Nat):Int))->Up r t=dv (cz p) t
 |
  [],r,t,h=>by
  rw [Q24 (q:=[]) (λk=>by rw [h]; simp) t]; rfl
 |
  a::p,r,t,h=>by
  have ih:=Q23 p (Fe p) t λk=>Sk p k
  have e:Up r t=Up p t+t*Up (Fe p) t:=by
   have:=Nn 1 1 t (max (max p.length (0::Fe p).length) r.length) p (0::Fe p) r (by omega) (by omega) (by omega) λk=>by
    rw [h,Q3];cases k with
    | zero=>simp
    | succ k=>rw [Q3,Sk]; push_cast; grind
   rw [this]; simp only [Up]; push_cast; grind
  rw [e,ih];show _=ev (cz p) t+t*dv (cz p) t;rw [Un]
theorem Lq (p:List Int) (t:Rat):Up (Fe p) t=dv (cz p) t:=Q23 p _ t λk=>Sk p k
theorem Qce {p:List Int} (hp:Uo p) (h:0<p.length):HD (cz p) (p.length-1):=by
 refine ⟨?_,λk hk=>?_⟩
 ·rw [Sa];have:=Gv hp h;exact λe=>this (by exact_mod_cast e)
 ·rw [Sa,Qg,Qt (by omega)]; rfl
theorem Qhk {p:List Int} (hp:Uo p) (h:0<p.length):¬∀ t,Up p t=0:=λh0=>by
 rw [Zhf hp h0] at h; exact absurd h (by simp)
theorem Sw {a b c:List Int} (ha:Uo a) (hb:Uo b) (hc:Uo c) (h:∀ t,Up c t=Up a t*Up b t) (la:0<a.length) (lb:0<b.length):c.length=a.length+b.length-1:=by
 have h1:=Qgk (Qce ha la) (Qce hb lb);have h2:HD (cz c) (a.length-1+(b.length-1)):=Zae (λt=>by rw [Ur,Un,Un,Un,h]) h1;have lc:0<c.length:=by
  rcases Qz c.length with e | e
  ·exact absurd (λt=>by rw [Un]; exact Ce e t) (Q17 h2)
  ·exact e
 have:=Zjr (Qce hc lc) h2;omega
theorem Qvo:∀ (n m:Nat),m<=n->2<=m->∃ P,2<=P/\P∣m/\∀ d,2<=d->d∣P->d=P
 | 0,m,h,h2=>by omega
 |
  n+1,m,h,h2=>by
  rcases Classical.em (∃ d,2<=d/\d<m/\d∣m) with ⟨d,d1,d2,d3⟩ | h0
  ·obtain ⟨P,p1,p2,p3⟩:=Qvo n d (by omega) d1;exact ⟨P,p1,Nat.dvd_trans p2 d3,p3⟩
  ·refine ⟨m,h2,Nat.dvd_refl m,λd d1 d2=>?_⟩;rcases Vg (V6 (by omega) d2) with e | e
   ·exact absurd ⟨d,d1,e,d2⟩ h0
   ·exact e
theorem Qqk {P:Nat} (h2:2<=P) (hP:∀ d,2<=d->d∣P->d=P) {x y:Int} (h:(P:Int)∣x*y):(P:Int)∣x\/(P:Int)∣y:=by
 have h:=Xn.2 h;rw [J0,Z9] at h;have hg:=Kt P x.natAbs;rcases Zb (Nat.gcd P x.natAbs) 2 with e | e
 ·right;have h1:Nat.gcd P x.natAbs=1:=by
   have:=Nat.gcd_pos_of_pos_left x.natAbs (show 0<P by omega); omega
  have:=Nat.Coprime.dvd_of_dvd_mul_left h1 h;exact Xn.1 (by rwa [Z9])
 ·left;have:=hP _ e hg;have h3:=Wx P x.natAbs;rw [this] at h3;exact Xn.1 (by rwa [Z9])
def Qwr (P:Int) (l:List Int):Prop:=∀ k,P∣l.getD k 0
theorem Qfv {P:Nat} (h2:2<=P) (hP:∀ d,2<=d->d∣P->d=P):∀ (n:Nat) (b h c:List Int),b.length+h.length<=n->(∀ t,Up c t=Up b t*Up h t)->Qwr P c->Qwr P b\/Qwr P h
 | _,[],h,c,_,_,_=>.inl λk=>by simp
 | _,x::b,[],c,_,_,_=>.inr λk=>by simp
 | 0,x::b,y::h,c,hn,_,_=>by simp at hn
 |
  n+1,x::b,y::h,c,hn,hc,hd=>by
  simp only [Q6] at hn;by_cases hx:(P:Int)∣x
  ·-- x h is taken away
   have e:∀ t,Up (0::U5 b (y::h)) t=Up (Tx c (Ff (y::h) x)) t:=λt=>by
    rw [Ax,Tk,hc]; simp only [Up]; rw [Fo]; simp only [Up]; push_cast; grind
   have hd':Qwr P (U5 b (y::h)):=λk=>by
    have:=Nm e (k+1);rw [Q3,Bz,Rl] at this;rw [this];exact Int.dvd_sub (hd (k+1)) (V2 hx (Ks _ _))
   rcases Qfv h2 hP n b (y::h) _ (by simp only [Q6]; omega) (λt=>Fo _ _ t) hd' with h1 | h1
   ·refine .inl λk=>?_
    cases k with
    | zero=>rw [Zr]; exact hx
    | succ k=>rw [Q3]; exact h1 k
   ·exact .inr h1
  ·have h0:(P:Int)∣y:=by
    have e:c.getD 0 0=x*y:=by
     have:=Nm (p:=c) (q:=U5 (x::b) (y::h)) (λt=>by rw [hc,Fo]) 0;have e2:=Nm (p:=U5 (x::b) (y::h)) (q:=L9 (Ff (y::h) x) (0::U5 b (y::h))) (λt=>by
      rw [Zbi,Tk,Fo]; simp only [Up]; rw [Fo]; simp only [Up]; push_cast; grind) 0
     rw [this,e2,Qop,Rl,Zr,Zr,Vr]; omega
    have:=hd 0;rw [e] at this;rcases Qqk h2 hP this with h1 | h1
    ·exact absurd h1 hx
    ·exact h1
   have e:∀ t,Up (0::U5 (x::b) h) t=Up (Tx c (Ff (x::b) y)) t:=λt=>by
    rw [Ax,Tk,hc]; simp only [Up]; rw [Fo]; simp only [Up]; push_cast; grind
   have hd':Qwr P (U5 (x::b) h):=λk=>by
    have:=Nm e (k+1);rw [Q3,Bz,Rl] at this;rw [this];exact Int.dvd_sub (hd (k+1)) (V2 h0 (Ks _ _))
   rcases Qfv h2 hP n (x::b) h _ (by simp only [Q6]; omega) (λt=>Fo _ _ t) hd' with h1 | h1
   ·exact absurd (by have:=h1 0; rwa [Zr] at this) hx
   ·refine .inr λk=>?_
    cases k with
    | zero=>rw [Zr]; exact h0
    | succ k=>rw [Q3]; exact h1 k
def Prm (b:List Int):Prop:=∀ d:Int,Qwr d b->d∣1
theorem Q92 {a b:List Int} (hb:Prm b):∀ (n:Nat) (c:Int) (h:List Int),c.natAbs<=n->c≠0->(∀ t,(c:Rat)*Up a t=Up b t*Up h t)->∃ h',∀ t,Up a t=Up b t*Up h' t
 | 0,c,h,hn,h0,_=>absurd (by omega) h0
 |
  n+1,c,h,hn,h0,hc=>by
  rcases Zb c.natAbs 2 with h1 | h1
  ·refine ⟨Ff h c,λt=>?_⟩;have hcc:(c:Rat)*c=1:=by
    have:c*c=1:=by
     rcases (show c=1\/c=-1 by omega) with rfl | rfl <;> rfl
    have:=congrArg (λz:Int=>(z:Rat)) this
    push_cast at this; exact this
   rw [Tk];have:=hc t;have:Up a t=(c:Rat)*((c:Rat)*Up a t):=by
    have:(c:Rat)*((c:Rat)*Up a t)=((c:Rat)*c)*Up a t:=by grind
    rw [this,hcc]; grind
   rw [this,hc]; grind
  ·obtain ⟨P,p1,p2,p3⟩:=Qvo c.natAbs c.natAbs (Qm _) h1;obtain ⟨d,hd⟩:∃ d,c=(P:Int)*d:=Wn.2 p2;have hall:Qwr P (Ff a c):=λk=>by
    rw [Rl,hd]; exact V2 (Kl _ _) (Ks _ _)
   have hP0:(P:Rat)≠0:=by
    have:((0:Nat):Rat)<(P:Rat):=Vm.2 (by omega);grind
   rcases Qfv p1 p3 _ b h (Ff a c) (Qm _) (λt=>by rw [Tk,W6,hc]) hall with e | e
   ·have:=hb P e;have:=Xn.2 this;rw [Z9] at this;have:=V6 (by decide) this;exact absurd this (by show ¬P<=1; omega)
   ·refine Q92 hb n d (h.map (· / (P:Int))) ?_ (λe0=>h0 (by rw [hd,e0,Vs])) λt=>?_
    ·rw [hd,J0,Z9] at hn h1;have:2*d.natAbs<=P*d.natAbs:=Qy _ p1;omega
    ·have e1:Up h t=(P:Rat)*Up (h.map (· / (P:Int))) t:=by
      have:=Nn P 0 t (max h.length (h.map (· / (P:Int))).length) (h.map (· / (P:Int))) [] h (by omega) (by simp) (by omega) λk=>by
       have:=e k;have e2:(h.map (· / (P:Int))).getD k 0=h.getD k 0 / (P:Int):=by
        rw [Qg,Qg,Q9];cases h[k]? <;> simp
       rw [e2,K8 this]; simp
      rw [this]; simp only [Up]; push_cast; grind
     have:=hc t;rw [hd,e1] at this
     push_cast at this
     have h3:(P:Rat)*((d:Rat)*Up a t)=(P:Rat)*(Up b t*Up (h.map (· / (P:Int))) t):=by grind
     have h4:=Jw.1 (show (P:Rat)*((d:Rat)*Up a t-Up b t*Up (h.map (· / (P:Int))) t)=0 by grind);rcases h4 with h4 | h4
     ·exact absurd h4 hP0
     ·grind
theorem Qng:∀ u:List Rat,∃ c:Int,c≠0/\∃ h:List Int,∀ t,(c:Rat)*ev u t=Up h t
 | []=>⟨1,by decide,[],λt=>by simp only [ev,Up]; grind⟩
 |
  a::u=>by
  obtain ⟨c,hc,h,hh⟩:=Qng u;refine ⟨c*(a.den:Int),Jk hc (by have:=a.den_nz; omega),(c*a.num)::Ff h (a.den:Int),λt=>?_⟩;have e:(a.den:Rat)*a=a.num:=by
   rw [W6];have:(a.num:Rat) / (((a.den:Int)):Rat)=a:=by rw [Gs,Zs]
   have hd:(a.den:Rat)≠0:=by
    have:((0:Nat):Rat)<(a.den:Rat):=Vm.2 a.den_pos;grind
   have h2:(a.num:Rat) / (a.den:Rat)*(a.den:Rat)=a.num:=Zk hd;rw [show (a.num:Rat) / (a.den:Rat)=a from this] at h2; exact h2
  simp only [ev,Up];rw [Tk,<-hh]
  push_cast
  rw [<-e];have e3:(((a.den:Int)):Rat)=(a.den:Rat):=rfl;grind
theorem Q91 {a b:List Int} (hb:Prm b) (h:Oj (cz b) (cz a)):∃ h',Uo h'/\∀ t,Up a t=Up b t*Up h' t:=by
 obtain ⟨u,hu⟩:=h;obtain ⟨c,hc,h,hh⟩:=Qng u;obtain ⟨h',e⟩:=Q92 hb c.natAbs c h (Qm _) hc λt=>by
  have:=hu t;rw [Un,Un] at this;rw [this,<-hh]; grind
 exact ⟨trim h',Ha _,λt=>by rw [Ay,e]⟩
def sd (x0:Rat):List Rat->List Rat
 | []=>[]
 | _::p=>Ra p (P5 x0 (sd x0 p))
theorem Q9q (x0 x:Rat):∀ p,ev (sd x0 p) x=dq p x x0
 | []=>rfl
 | a::p=>by simp only [sd,dq]; rw [Fh,U7,Q9q x0 x p]
theorem Qzw (x0:Rat):∀ (g:List Rat) (n:Nat),(∀ j,n<j->g.getD j 0=0)->∀ j,n<=j->(sd x0 g).getD j 0=0
 | [],n,_,j,_=>by simp [sd]
 |
  a::p,0,h,j,_=>by
  have hp:∀ j,p.getD j 0=0:=λj=>by have:=h (j+1) (by omega); rwa [Q3] at this
  simp only [sd];rw [Hg,H7,hp,Qzw x0 p 0 (λj _=>hp j) j (Qh _)]; grind
 |
  a::p,n+1,h,j,hj=>by
  have hp:∀ j,n<j->p.getD j 0=0:=λj hj=>by have:=h (j+1) (by omega); rwa [Q3] at this
  simp only [sd];rw [Hg,H7,hp j (by omega),Qzw x0 p n hp j (by omega)]; grind
theorem Qyl {K:Rat} (hK:0≤K):∀ (e:Nat) (g:List Rat) (pts:List Int) (M:Rat),pts.length=e+1->pts.Nodup->(∀ x∈pts,Uu (x:Rat)≤K)->(∀ k,e<k->g.getD k 0=0)->(∀ x∈pts,Uu (ev g (x:Rat))≤M)->∀ k,Uu (g.getD k 0)≤(2*K+3)^e*M
 | _,_,[],_,h,_,_,_,_=>by simp at h
 |
  0,g,x0::xs,M,_,_,_,hg,hM=>λk=>by
  have h0:=hM x0 (by simp);rw [Xg];cases k with
  |
   zero =>
   have e:ev g (x0:Rat)=g.getD 0 0:=by
    cases g with
    | nil=>rfl
    |
     cons a p =>
     have hp:=Cj (p:=p) λj=>by have:=hg (j+1) (by omega); rwa [Q3] at this
     simp only [ev,hp,Zr]; grind
   rw [<-e]; grind
  |
   succ k =>
   rw [hg (k+1) (by omega),Hk];have:=Gx (ev g (x0:Rat)); grind
 |
  e+1,g,x0::xs,M,hl,hn,hb,hg,hM=>λk=>by
  have hx0:=hb x0 (by simp);have hM0:=hM x0 (by simp);have hMn:0<=M:=Zc (Gx _) hM0;rw [List.nodup_cons] at hn;have ih:=Qyl hK e (sd x0 g) xs (2*M) (by simpa using hl) hn.2 (λx hx=>hb x (by simp [hx])) (λj hj=>Qzw _ g (e+1) hg j (by omega)) λx hx=>by
   have h1:=hM x (by simp [hx]);have h2:=Qnt (x:Rat) (x0:Rat) g;rw [<-Q9q] at h2;have hne:x-x0≠0:=λh=>hn.1 (by rw [show x0=x by omega]; exact hx)
   have h3:=I8 hne;rw [Rat.intCast_sub] at h3;have h4:Uu (ev g (x:Rat)-ev g (x0:Rat))<=2*M:=by
    have:=Te (ev g (x:Rat)) (-ev g (x0:Rat));rw [Do,show ev g (x:Rat)+-ev g (x0:Rat)=ev g (x:Rat)-ev g (x0:Rat) by grind] at this;clear hM hb hg; grind
   rw [h2,Dn] at h4;have h5:=Q5 h3 (Gx (ev (sd x0 g) x));clear hM hb hg; grind
  have e1:∀ t,ev g t=ev (Ra [ev g x0] (Ra (P5 (-x0) (sd x0 g)) (0::sd x0 g))) t:=λt=>by
   have:=Qnt t (x0:Rat) g;rw [<-Q9q] at this;simp only [Fh,U7,ev];grind
  have hp1:1<=(2*K+3)^e:=(Qbw (R:=2*K+3) (x:=0) (by grind) (by rw [Hk]; grind) e).2;have hpM:=Pz (x:=(2*K+3)^e) (y:=M) (by grind) hMn;have hpM1:=Q5 hp1 hMn;rw [Xb,Ni e1 k,Hg,Hg,H7];have a1:=ih k;have a2:Uu (-(x0:Rat)*(sd (x0:Rat) g).getD k 0)<=K*((2*K+3)^e*(2*M)):=Ge (by rw [Do]; exact hx0) a1;have fin:∀ u v w:Rat,Uu u<=M->Uu v<=K*((2*K+3)^e*(2*M))->Uu w<=(2*K+3)^e*(2*M)->Uu (u+(v+w))<=(2*K+3)^e*(2*K+3)*M:=λu v w h1 h2 h3=>by
   have b1:=Te u (v+w);have b2:=Te v w;clear ih e1 hM hb hg a1 a2; grind
  refine fin _ _ _ ?_ a2 ?_
  ·cases k with
   | zero=>rw [Zr]; exact hM0
   | succ k=>rw [Q3,Kr,Hk]; exact hMn
  ·cases k with
   | zero=>rw [Zr,Hk]; clear ih e1 hM hb hg a1 a2 fin; grind
   | succ k=>rw [Q3]; exact ih k
theorem Zca {g:List Rat} {e:Nat} (hg:∀ k,e<k->g.getD k 0=0) (hz:¬∀ t,ev g t=0) {pts:List Int} (hn:pts.Nodup) (hr:∀ x∈pts,ev g (x:Rat)=0):pts.length≤e:=by
 rcases Zb e pts.length with h | h
 ·exfalso;obtain ⟨K,hK,hb⟩:∃ K:Rat,0≤K/\∀ x∈pts,Uu (x:Rat)≤K:=by
   clear hn hr h
   induction pts with
   | nil=>exact ⟨0,by decide,λx hx=>by cases hx⟩
   |
    cons y pts ih =>
    obtain ⟨K,h1,h2⟩:=ih;refine ⟨K+Uu (y:Rat),by have:=Gx (y:Rat); grind,λx hx=>?_⟩;have hy:=Gx (y:Rat);rcases Qp.1 hx with rfl | hx
    ·grind
    ·have:=h2 x hx; grind
  refine hz (Cj λk=>?_);have:=Qyl hK e g (pts.take (e+1)) 0 (by rw [Qx]; omega) (hn.sublist (Ww ..)) (λx hx=>hb x (Qn hx)) hg (λx hx=>by rw [hr x (Qn hx),Hk]; exact Qq) k;have h2:=Gx (g.getD k 0);exact Zhq (by grind)
 ·exact h
def spots:List Int:=(List.range 19).map λi:Nat=>(i:Int)-9
theorem spots_nd:spots.Nodup:=by decide
theorem Qv9:∀ x∈spots,x.natAbs≤9:=by decide
theorem Qku {α:Type} (p:α->Bool):∀ l:List α,(l.filter p).length+(l.filter λx => !p x).length=l.length
 | []=>rfl
 |
  x::l=>by
  have:=Qku p l;cases h:p x <;> simp [h] <;> omega
def geo:Nat->Nat
 | 0=>0
 | n+1=>1+9*geo n
theorem Q1y {B:Rat}:∀ (p:List Int),(∀ z∈p,Uu (z:Rat)≤B)->evB 9 (cz p)≤B*(geo p.length:Nat)
 | [],_=>by simp only [cz,X8,evB,geo,Jc]; rw [show ((0:Nat):Rat)=0 from rfl]; grind
 |
  a::p,h=>by
  have h1:=Q1y p λz hz=>h z (Qj _ hz)
  have h2:=h a (Qr ..);simp only [cz,Zz,evB,geo,Q6] at *
  push_cast
  clear h; grind
theorem Q99 {m n:Nat} (h:m<=n):geo m<=geo n:=by
 induction h with
 | refl=>exact Qm _
 | step h ih=>simp only [geo]; omega
def pz:List Int->Int->Int
 | [],_=>0
 | a::p,x=>a+x*pz p x
theorem Qdg (x:Int):∀ p,Up p (x:Rat)=((pz p x:Int):Rat)
 | []=>rfl
 | a::p=>by simp only [Up,pz,Qdg x p]; push_cast; rfl
theorem Tj (z:Int):Uu (z:Rat)=((z.natAbs:Nat):Rat):=by
 unfold Uu;rcases K7 z 0 with h | h
 ·have h1:(z:Rat)<((0:Int):Rat):=X7.2 h;rw [if_pos (by simpa using h1)];have:(z.natAbs:Int)=-z:=by omega
  have:=congrArg (λu:Int=>(u:Rat)) this
  push_cast at this
  exact this.symm
 ·have h1:((0:Int):Rat)<=(z:Rat):=Ji.2 h;have h1:(0:Rat)<=(z:Rat):=by simpa using h1
  rw [if_neg (by grind)];have:(z.natAbs:Int)=z:=by omega
  have:=congrArg (λu:Int=>(u:Rat)) this;exact this.symm
theorem Iw {p g h:List Int} {s:Nat} (hp:Bd s p) (hl:p.length<=10) (tp:Uo p) (tg:Uo g) (th:Uo h) (h0:p.length≠0) (e:∀ t,Up p t=Up g t*Up h t):Bd (s+69) g:=by
 have lg:0<g.length:=by
  rcases Qz g.length with e' | e'
  ·exact absurd (λt=>by rw [e,Ce e']; grind) (Qhk tp (by omega))
  ·exact e'
 have lh:0<h.length:=by
  rcases Qz h.length with e' | e'
  ·exact absurd (λt=>by rw [e,Ce e']; grind) (Qhk tp (by omega))
  ·exact e'
 have hlen:=Sw tg th tp e lg lh;obtain ⟨q,hq⟩:=nmE (spots.filter λx => !decide (pz p x=0));have hr:(spots.filter λx=>decide (pz p x=0)).length<=9:=by
  refine Zca (g:=cz p) (e:=9) (λk hk=>?_) (λh=>Qhk tp (by omega) λt=>by rw [<-Un]; exact h t) (spots_nd.sublist List.filter_sublist) λx hx=>?_
  ·rw [Sa,Qg,Qt (by omega)]; rfl
  ·have:=(W8.1 hx).2;rw [Un,Qdg,of_decide_eq_true this]; rfl
 have hc:=Qku (λx=>decide (pz p x=0)) spots;rw [<-hq] at hc;have hsl:spots.length=19:=by decide
 have hB:∀ z∈p,Uu (z:Rat)≤((2^s:Nat):Rat):=λz hz=>by
  rw [Tj];have:=hp z hz;rw [Rr] at this;exact Zd.2 (Jz this)
 have key:=Qyl (K:=9) (by decide) 9 (cz g) (q.take 10) (((2^s*435848050:Nat)):Rat) (by rw [Qx]; omega) ((spots_nd.sublist (by rw [hq]; exact List.filter_sublist)).sublist (Ww ..)) (λx hx=>by
  have hx:=Qn hx;rw [hq] at hx;have:=Qv9 x (W8.1 hx).1;rw [Tj]
  exact_mod_cast Zd.2 this) (λk hk=>by rw [Sa,Qg,Qt (by omega)]; rfl) (λx hx=>by
  have hx:=Qn hx;rw [hq] at hx;obtain ⟨hx1,hx2⟩:=W8.1 hx;have hne:pz p x≠0:=by simpa using hx2
  have e1:=e (x:Rat);rw [Qdg,Qdg,Qdg] at e1;have e2:pz p x=pz g x*pz h x:=by exact_mod_cast e1
  have hh:1<=(pz h x).natAbs:=by
   rcases Qz (pz h x).natAbs with e' | e'
   ·exact absurd (by rw [e2,Int.natAbs_eq_zero.1 e',Vs]) hne
   ·exact e'
  have h3:(pz g x).natAbs<=(pz p x).natAbs:=by
   rw [e2,J0];exact Jp _ hh
  rw [Un,Qdg,Tj];refine Zc (Zd.2 h3) ?_;rw [<-Tj,<-Qdg,<-Un];refine Zc (Qhm (R:=9) (by
   have:=Qv9 x hx1;rw [Tj]
   exact_mod_cast Zd.2 this) _) ?_
  refine Zc (Q1y p hB) ?_;have:2^s*geo p.length<=2^s*435848050:=Zj _ (Qc (Q99 hl) (by decide));have:=Zd.2 this
  push_cast at this ⊢
  exact this)
 refine Qjq λk=>?_
 have h1:=key k;rw [Sa,Tj] at h1;have e3:(2*(9:Rat)+3)^9*((2^s*435848050:Nat):Rat)=(((794280046581*(2^s*435848050)):Nat):Rat):=by
  rw [show (2*(9:Rat)+3)^9=794280046581 by grind]
  push_cast; rfl
 rw [e3] at h1;have h2:=Zd.1 h1;rw [Rr];refine Zv h2 ?_;have:794280046581*(2^s*435848050)=2^s*(794280046581*435848050):=by
  rw [Km]
 rw [this,Xh];exact Nat.mul_lt_mul_of_pos_left (by decide) (Zy (by decide))
theorem Q9i {l:List Int} {d:Int} (h:∀ z∈l,d∣z):d∣((Gz l:Nat):Int):=by
 have key:∀ (l:List Int) (g:Nat),d.natAbs∣g->(∀ z∈l,d∣z)->d.natAbs∣l.foldl (λg z=>Nat.gcd g z.natAbs) g:=by
  intro l
  induction l with
  | nil=>exact λg h _=>h
  | cons z l ih=>exact λg hg h=>ih _ (Nat.dvd_gcd hg (Xn.2 (h z (Qr ..)))) λu hu=>h u (Qj _ hu)
 have:=key l 0 (Nat.dvd_zero _) h;exact Xn.1 (by rw [Z9]; exact this)
theorem Qea (p:List Int) (c:Int) (k:Nat):(p.map (· / c)).getD k 0=p.getD k 0 / c:=by
 rw [Qg,Qg,Q9];cases p[k]? <;> simp
theorem Mr (p:List Int) (c:Int) (k:Nat):(Bm p c).getD k 0=p.getD k 0 / c:=by
 unfold Bm; rw [A8,Qea]
theorem Qoq {p:List Int} {c:Int} (h:∀ z∈p,c∣z) (t:Rat):Up p t=(c:Rat)*Up (Bm p c) t:=by
 have:=Nn c 0 t (max p.length (Bm p c).length) (Bm p c) [] p (by omega) (by simp) (by omega) λk=>by
  rw [Mr];have hd:c∣p.getD k 0:=by
   rw [Qg];cases e:p[k]? with
   | none=>exact Int.dvd_zero _
   | some z=>exact h z (Qa e)
  rw [K8 hd]; simp
 rw [this]; simp only [Up]; push_cast; grind
theorem I1 {c:Int} (h:c≠0):(c:Rat)≠0:=λe=>h (by exact_mod_cast e)
theorem Dk {p q:List Int} {c:Rat} (tp:Uo p) (tq:Uo q) (hc:c≠0) (h:∀ t,Up p t=c*Up q t):p.length=q.length:=by
 have key:∀ {p q:List Int} {c:Rat},Uo p->Uo q->c≠0->(∀ t,Up p t=c*Up q t)->p.length<=q.length:=λ{p q c} tp tq hc h=>by
  rcases Zb q.length p.length with e | e
  ·have h1:=Gv tp (by omega);have:=Ni (p:=cz p) (q:=P5 c (cz q)) (λt=>by rw [Un,U7,Un,h]) (p.length-1);rw [Sa,H7,Sa,Qg (l:=q),Qt (by omega)] at this;have:((p.getD (p.length-1) 0:Int):Rat)=0:=by rw [this]; simp
   exact absurd (by exact_mod_cast this) h1
  ·exact e
 refine Kd (key tp tq hc h) (key (c:=1 / c) tq tp (λe=>?_) λt=>?_)
 ·have:=Zk (a:=1) hc; rw [e] at this; grind
 ·rw [h]; have:=Zk (a:=1) hc; grind
theorem Td {p:List Int} (tp:Uo p) (h:p.length≠0):Uo (Uq p)/\(Uq p).length=p.length/\Prm (Uq p)/\0<Ux (Uq p)/\(∀ s,Bd s p->Bd s (Uq p))/\Fy p≠0/\∀ t,Up p t=(Fy p:Rat)*Up (Uq p) t:=by
 have h0:=Q26 tp h;have e:Uq p=Bm p (Fy p):=by unfold Uq; rw [if_neg h]
 have h1:=Qoq (p:=p) (c:=Fy p) Qex;have hl:=Dk tp (Oc p (Fy p)) (I1 h0) h1;have hcp:0<Rk p:=by
  have:=Av tp h;unfold Rk at this ⊢; omega
 rw [e];refine ⟨Oc _ _,hl.symm,λd hd=>?_,?_,λs hs=>Qjr hs _,h0,h1⟩
 ·have h2:∀ z∈p,d*Fy p∣z:=λz hz=>by
   obtain ⟨i,hi⟩:=Zh.1 hz;have h3:=hd i;rw [Mr,Qg,hi] at h3;obtain ⟨k,hk⟩:=h3;have h4:=Qex z hz;refine ⟨k,?_⟩;have:z / Fy p*Fy p=z:=We h4;rw [<-this];rw [show z / Fy p=d*k from hk,Int.mul_right_comm]
  have h3:=Q9i h2;have h4:Fy p∣((Gz p:Nat):Int)/\((Gz p:Nat):Int)∣Fy p:=by
   unfold Fy Rk; split
   ·exact ⟨Ue.2 (Wy _),Int.dvd_neg.2 (Wy _)⟩
   ·exact ⟨Wy _,Wy _⟩
  obtain ⟨k,hk⟩:=V2 h3 h4.2;refine ⟨k,?_⟩;have:Fy p*(d*k)=Fy p*1:=by rw [Wl,<-Int.mul_assoc,Vr (Fy p) d,<-hk]
  exact (Int.eq_of_mul_eq_mul_left h0 this).symm
 ·have h2:Ux (Bm p (Fy p))=Ux p / Fy p:=by unfold Ux; rw [<-hl,Mr]
  have h3:Fy p∣Ux p:=Qex _ (Qlc h);have h5:Ux p / Fy p*Fy p=Ux p:=We h3;rw [h2];have h6:=Cc tp h;rcases J5 (Ux p / Fy p) 0 with e1 | e1 | e1
  ·exfalso;by_cases hn:Ux p<0
   ·have:Fy p=-Rk p:=by unfold Fy; rw [if_pos hn]
    have:0<Ux p / Fy p*Fy p:=Kb e1 (by omega);omega
   ·have:Fy p=Rk p:=by unfold Fy; rw [if_neg hn]
    have:Ux p / Fy p*Fy p<0:=Int.mul_neg_of_neg_of_pos e1 (by omega);omega
  ·rw [e1] at h5; omega
  ·exact e1
theorem Qvj {r:List Int} (tr:Uo r):∃ c:Rat,0<c/\∀ t,Up r t=c*Up (Lr r) t:=by
 unfold Lr;by_cases h:r.length=0
 ·rw [if_pos h]; exact ⟨1,by decide,λt=>by rw [Ce h,Ce rfl]; grind⟩
 ·rw [if_neg h];have h1:0<Rk r:=by
   have:=Av tr h;unfold Rk at this ⊢; omega
  have h2:((0:Int):Rat)<(Rk r:Rat):=X7.2 h1;exact ⟨Rk r,by simpa using h2,Qoq Dx⟩
theorem Aw (x:Int) (t:Rat):∀ i,Up (mono i x) t=(x:Rat)*t^i
 | 0=>by simp only [mono,Wg,Y3,Up,Xg]; grind
 |
  i+1=>by
  have ih:=Aw x t i;simp only [mono,Ya,Xm,Up] at *;rw [ih,Xb]; push_cast; grind
theorem Qra (x:Int) (b:List Int) (i k:Nat):(U5 (trim (mono i x)) b).getD k 0=if i<=k then x*b.getD (k-i) 0 else 0:=by
 have e:∀ t,Up (U5 (trim (mono i x)) b) t=Up (List.replicate i 0++b.map (x * ·)) t:=λt=>by
  rw [Fo,Ay,Aw];have h2:∀ i,Up (List.replicate i 0++b.map (x * ·)) t=t^i*((x:Rat)*Up b t):=λi=>by
   induction i with
   |
    zero =>
    simp only [Wg,Y3,Xg];have:=Nn x 0 t (max b.length (b.map (x * ·)).length) b [] (b.map (x * ·)) (by omega) (by simp) (by omega) λk=>by
     rw [Qg,Qg,Q9];cases b[k]? <;> simp
    rw [this]; simp only [Up]; push_cast; grind
   | succ i ih=>simp only [Ya,Xm,Up,ih,Xb]; push_cast; grind
  rw [h2]; grind
 rw [Nm e k,Qg,List.getElem?_append,Jj];by_cases h:i<=k
 ·rw [if_neg (by omega),if_pos h,Q9,Qg];cases b[k-i]? <;> simp
 ·rw [if_pos (by omega),if_neg h,J4,if_pos (by omega)]; rfl
theorem Qq0 {p:List Int} {n:Nat} (tp:Uo p) (h:p.length<=n+1) (h0:p.getD n 0=0):p.length<=n:=by
 rcases Zb n p.length with e | e
 ·have:=Gv tp (by omega);rw [show p.length-1=n by omega] at this;exact absurd h0 this
 ·exact e
theorem Zii {b r:List Int} {i:Nat} (tr:Uo r) (h:r.length<=b.length+i) (hb:b.length≠0) {x:Int} (hx:x=if r.length=b.length+i then Ux r else 0):(str b (Ux b) i x r).length<b.length+i:=by
 have hl:=Qq2 (c:=Ux b) (x:=x) (i:=i) (b:=b) (r:=r);have:=Qq0 (p:=str b (Ux b) i x r) (n:=b.length+i-1) (U3 _ _) (by omega) (by
  unfold str;rw [Bz,Rl,Qra,if_pos (by omega),hx,show b.length+i-1-i=b.length-1 by omega]
  split
  ·rename_i he;unfold Ux;rw [he,Int.sub_eq_zero]
  ·rw [Qg (l:=r),Qt (by omega)]; simp)
 omega
theorem Zc9 (b r:List Int) (c:Int) (i:Nat) (x:Int) (t:Rat):(c:Rat)*Up r t=(x:Rat)*t^i*Up b t+Up (str b c i x r) t:=by
 unfold str;rw [Ax,Tk,Fo,Ay,Aw]; grind
theorem Zbq (b:List Int) (c:Int):∀ (i:Nat) (q r:List Int),∃ X:List Rat,∀ t,((c^i:Int):Rat)*Up r t=ev X t*Up b t+Up (psd b c i (q,r)).2 t
 | 0,q,r=>⟨[],λt=>by simp only [psd,ev]; rw [Int.pow_zero]; push_cast; grind⟩
 |
  i+1,q,r=>by
  obtain ⟨x,hx⟩:=nmE (if r.length=b.length+i then Ux r else 0);obtain ⟨X,hX⟩:=Zbq b c i (stq c i x q) (str b c i x r);obtain ⟨m,hm⟩:∃ m:List Rat,∀ t,ev m t=(x:Rat)*t^i:=⟨cz (mono i x),λt=>by rw [Un,Aw]⟩;refine ⟨Ra (P5 ((c^i:Int):Rat) m) X,λt=>?_⟩;rw [Qax hx,Fh,U7,hm];have h1:=hX t;have h2:=Zc9 b r c i x t;rw [Int.pow_succ]
  push_cast at h1 ⊢
  have:(c:Rat)^i*c*Up r t=(c:Rat)^i*((c:Rat)*Up r t):=by grind
  rw [this,h2]; grind
theorem Qrr {b:List Int} (hb:b.length≠0):∀ (i:Nat) (q r:List Int),Uo r->r.length<b.length+i->Uo (psd b (Ux b) i (q,r)).2/\(psd b (Ux b) i (q,r)).2.length<b.length
 | 0,q,r,tr,h=>⟨tr,h⟩
 |
  i+1,q,r,tr,h=>by
  rw [Qax rfl];exact Qrr hb i _ _ (U3 _ _) (Zii tr (by omega) hb rfl)
theorem Zbp {b:List Int} {c:Int} {t:Nat} (hb:Bd t b) (hc:Uv c<=t):∀ (i u:Nat) (q r:List Int),i<=64->Bd u r->Bd (u+i*(t+8)) (psd b c i (q,r)).2
 | 0,u,q,r,_,h=>by simpa [psd] using h
 |
  i+1,u,q,r,hi,h=>by
  rw [Qax rfl];have hx:Uv (if r.length=b.length+i then Ux r else 0)<=u:=by
   split
   ·exact P7 h
   ·rw [P8]; exact Qh _
  have:=Zbp hb hc i (u+t+8) (stq c i (if r.length=b.length+i then Ux r else 0) q) (str b c i (if r.length=b.length+i then Ux r else 0) r) (by omega) (Qwy h hb hc hx (by omega));exact Uj this (by rw [Xc]; omega)
theorem Qlv {c:Int} (h:c<0):∀ k:Nat,(k % 2=1->c^k<0)/\(k % 2=0->0<c^k)
 | 0=>⟨λh=>by omega,λ_=>by rw [Int.pow_zero]; decide⟩
 |
  k+1=>by
  obtain ⟨i1,i2⟩:=Qlv h k;rw [Int.pow_succ];exact ⟨λhk=>Ka (i2 (by omega)) h,λhk=>Kb (i1 (by omega)) h⟩
theorem Qe5 {a b:List Int} (ta:Uo a) (tb:Uo b) (hb:b.length≠0) (hl:a.length<=60):Uo (Gi a b)/\(Gi a b).length<b.length/\(∀ s,Bd s a->Bd s b->Bd (s+(a.length+1-b.length)*(s+8)) (Gi a b)) /\
 ∃ u v:Rat,0<u/\0<v/\∃ X:List Rat,∀ t,u*Up a t=ev X t*Up b t+v*Up (Gi a b) t:=by
 obtain ⟨k,hk⟩:=nmE (a.length+1-b.length);have h1:Uo (Sr a b)/\(Sr a b).length<b.length:=Qrr hb _ _ _ ta (by omega);obtain ⟨X,hX⟩:=Zbq b (Ux b) k [] a;have hX:∀ t,(((Ux b)^k:Int):Rat)*Up a t=ev X t*Up b t+Up (Sr a b) t:=by unfold Sr; rw [<-hk]; exact hX
 have h2:=Qe1 (a:=a) (b:=b) (r:=Sr a b) (n:=(Sr a b).length) (s:=(Sr a b).foldl (λm z=>m+Uv z) 0) h1.1 (Qm _) (λz hz=>by
  have key:∀ (l:List Int) (m:Nat),m≤l.foldl (λm z=>m+Uv z) m/\∀ z∈l,Uv z≤l.foldl (λm z=>m+Uv z) m:=by
   intro l
   induction l with
   | nil=>exact λm=>⟨Qm _,λz hz=>by cases hz⟩
   |
    cons y l ih =>
    intro m;obtain ⟨i1,i2⟩:=ih (m+Uv y);refine ⟨by simp only [Xe]; omega,λz hz=>?_⟩;simp only [Xe];rcases Qp.1 hz with rfl | hz
    ·omega
    ·exact i2 z hz
  exact (key _ 0).2 z hz)
 have h3:=Qlr (r:=Py a b (Sr a b)) (n:=(Sr a b).length) h2.2.1 h2.2.2;refine ⟨h3.1,by unfold Gi; omega,λs ha hbs=>?_,?_⟩
 ·have h4:=Zbp (c:=Ux b) hbs (P7 hbs) k s [] a (by omega) ha;have h5:=Qe1 (a:=a) (b:=b) (n:=(Sr a b).length) h1.1 (Nat.le_refl _) (show Bd (s+k*(s+8)) (Sr a b) by unfold Sr; rw [<-hk]; exact h4);rw [<-hk];exact (Qlr h5.2.1 h5.2.2).2.2
 ·obtain ⟨v,vp,hv⟩:=Qvj h2.1;have hc:=Cc tb hb;by_cases ht:k % 2=1/\Ux b<0
  ·have e1:Py a b (Sr a b)=Se (Sr a b):=by unfold Py; rw [<-hk,if_pos ht]
   have hneg:(Ux b)^k<0:=(Qlv ht.2 k).1 ht.1;have h5:(((Ux b)^k:Int):Rat)<((0:Int):Rat):=X7.2 hneg;have h5:(((Ux b)^k:Int):Rat)<0:=by simpa using h5
   refine ⟨-(((Ux b)^k:Int):Rat),v,by grind,vp,P5 (-1) X,λt=>?_⟩;have h6:=hX t;have h7:=hv t;rw [e1,Qew] at h7;show _=_+v*Up (Lr (Py a b (Sr a b))) t;rw [e1,<-h7,U7]; grind
  ·have e1:Py a b (Sr a b)=Sr a b:=by unfold Py; rw [<-hk,if_neg ht]
   have hpos:0<(Ux b)^k:=by
    rcases Kf hc with h | h
    ·exact (Qlv h k).2 (by omega)
    ·exact Int.pow_pos h
   have h5:((0:Int):Rat)<(((Ux b)^k:Int):Rat):=X7.2 hpos;refine ⟨(((Ux b)^k:Int):Rat),v,by simpa using h5,vp,X,λt=>?_⟩;have h7:=hv t;show _=_+v*Up (Lr (Py a b (Sr a b))) t;rw [<-h7,e1,hX]
theorem La {p:List Int} (h1:p.length<=64) (h2:Bd 16777216 p):chk p=some p:=by
 unfold chk;rw [if_pos ⟨h1,Yu.2 λz hz=>Nat.ble_eq_true_of_le (h2 z hz)⟩]
theorem Qnr {a b:List Int} {g:List Rat} {c:Rat} (hc:c≠0) (h:∀ t,Up a t=c*Up b t):Oj g (cz a)↔Oj g (cz b):=by
 constructor
 ·rintro ⟨u,hu⟩
  refine ⟨P5 (1 / c) u,λt=>?_⟩;have h1:=hu t;rw [Un,h] at h1;rw [Un,U7];have h2:1 / c*c=1:=Zk hc;have:Up b t=1 / c*(c*Up b t):=by grind
  rw [this,h1]; grind
 ·rintro ⟨u,hu⟩
  refine ⟨P5 c u,λt=>?_⟩;have h1:=hu t;rw [Un] at h1;rw [Un,U7,h,h1]; grind
structure Gc (g a b:List Int):Prop where
 t:Uo g
 da:Oj (cz g) (cz a)
 db:Oj (cz g) (cz b)
 c:∃ U V,∀ t,Up g t=ev U t*Up a t+ev V t*Up b t
 n:g.length≠0
theorem Gc.scale {g a b g' a' b':List Int} {x y z:Rat} (h:Gc g a b) (hx:x≠0) (hy:y≠0) (hz:z≠0) (tg:Uo g') (eg:∀ t,Up g t=x*Up g' t) (ea:∀ t,Up a' t=y*Up a t) (eb:∀ t,Up b' t=z*Up b t):Gc g' a' b':=by
 have hx1:1 / x*x=1:=Zk hx;have hy1:1 / y*y=1:=Zk hy;have hz1:1 / z*z=1:=Zk hz;have hg:∀ c,Oj (cz g) c->Oj (cz g') c:=λc ⟨u,hu⟩=>⟨P5 x u,λt=>by rw [hu,Un,Un,eg,U7]; grind⟩
 obtain ⟨U,V,hc⟩:=h.c;refine ⟨tg,hg _ ((Qnr hy ea).2 h.da),hg _ ((Qnr hz eb).2 h.db),⟨P5 (1 / x*(1 / y)) U,P5 (1 / x*(1 / z)) V,λt=>?_⟩,?_⟩
 ·have h1:=hc t;have h2:Up g' t=1 / x*Up g t:=by rw [eg]; grind
  rw [h2,h1,U7,U7,ea,eb];generalize ev U t=u at *;generalize ev V t=v at *;grind
 ·rw [<-Dk h.t tg hx eg]; exact h.n
theorem Zhh:∀ d:Nat,1<=d->d+2<=3^d
 | 0,h=>by omega
 | 1,_=>by decide
 | d+2,_=>by have:=Zhh (d+1) (by omega); rw [Zo]; omega
theorem Qwi {k:Nat} {a b:List Int} (ta:Uo a) (tb:Uo b) (hb:b.length≠0) (hl:a.length<=60) (hbl:b.length<=60) (hr:Bd 16777216 (Gi a b)) (ih:∃ g,Qg9 k b (Gi a b)=some g/\Gc g b (Gi a b)):∃ g,Qg9 (k+1) a b=some g/\Gc g a b:=by
 obtain ⟨h1,h2,h3,u,v,up,vp,X,hX⟩:=Qe5 ta tb hb hl;obtain ⟨g,e,hg⟩:=ih;refine ⟨g,?_,?_⟩
 ·simp only [Qg9];rw [if_neg hb,La (by omega) hr]; exact e
 ·obtain ⟨U,V,hc⟩:=hg.c;obtain ⟨y,hy⟩:=hg.da;obtain ⟨z,hz⟩:=hg.db;have hu:1 / u*u=1:=Fl up;have hv:1 / v*v=1:=Fl vp;refine ⟨hg.t,⟨P5 (1 / u) (Ra (Fx X y) (P5 v z)),λt=>?_⟩,hg.da,⟨P5 (u / v) V,Ra U (P5 (-1 / v) (Fx V X)),λt=>?_⟩,hg.n⟩
  ·have a1:=hX t; have a2:=hy t; have a3:=hz t;rw [Un,Un] at a2 a3;rw [Un,Un,U7,Fh,Ur,U7];have:Up a t=1 / u*(u*Up a t):=by grind
   rw [this,a1,a2,a3]; grind
  ·have a1:=hX t; have a2:=hc t;rw [U7,Fh,U7,Ur,a2];have:Up (Gi a b) t=1 / v*(v*Up (Gi a b) t):=by grind
   rw [this,show v*Up (Gi a b) t=u*Up a t-ev X t*Up b t by grind,Yj,Yj,Yj];grind
theorem Q3u {k:Nat} {a:List Int} (ta:Uo a) (ha:a.length≠0):∃ g,Qg9 (k+1) a []=some g/\Gc g a [] :=
 ⟨a,rfl,ta,dvd_refl _,⟨[],λt=>by simp only [cz,X8,ev]; grind⟩,⟨[1],[],λt=>by rw [H4]; simp only [ev]; grind⟩,ha⟩
theorem Qha {s:Nat}:∀ (k:Nat) (a b:List Int),Uo a->Uo b->b.length<k->b.length<a.length->a.length<=60->Bd s a->Bd s b->(s+8)*3^(a.length-1)<=16777216->∃ g,Qg9 k a b=some g/\Gc g a b
 | 0,_,_,_,_,h,_,_,_,_,_=>by omega
 |
  k+1,a,b,ta,tb,hk,hab,hl,ba,bb,hs=>by
  by_cases hb:b.length=0
  ·rw [Qi hb]; exact Q3u ta (by omega)
  ·obtain ⟨h1,h2,h3,_⟩:=Qe5 ta tb hb hl;have h3:=h3 s ba bb;obtain ⟨m,hm⟩:=nmE (a.length-b.length);have e1:a.length+1-b.length=m+1:=by omega
   rw [e1] at h3;have e2:s+(m+1)*(s+8)+8=(m+2)*(s+8):=by
    rw [show m+2=(m+1)+1 by omega,Xc (m+1)]; omega
   have e3:(m+2)*(s+8)*3^(b.length-1)<=(s+8)*3^(a.length-1):=by
    rw [show a.length-1=m+(b.length-1) by omega,Xh,<-Xq,Zi (s+8)];exact Qy _ (Qy _ (Zhh m (by omega)))
   have e4:s+(m+1)*(s+8)<=16777216:=by
    have:(m+2)*(s+8)<=(m+2)*(s+8)*3^(b.length-1):=Jp _ (Zy (by decide));omega
   refine Qwi ta tb hb hl (by omega) (Uj h3 e4) (Qha (s:=s+(m+1)*(s+8)) k b (Gi a b) tb h1 (by omega) h2 (by omega) (Uj bb (by omega)) h3 ?_);rw [e2]; omega
def Szz (n s:Nat):Prop:=n<=10/\2*(s+8)*3^(n-1)<=16777216
theorem Zdo {n s:Nat} (hz:Szz n s) {a b:List Int} (ta:Uo a) (tb:Uo b) (la:a.length<=n) (lb:b.length<=n) (ba:Bd s a) (bb:Bd s b) (h0:a.length≠0\/b.length≠0):∃ g,Qg9 66 a b=some g/\Gc g a b:=by
 obtain ⟨hn,hz⟩:=hz;have hp:∀ l,l<=n->(s+8)*3^(l-1)<=8388608:=λl hl=>by
  have:(s+8)*3^(l-1)<=(s+8)*3^(n-1):=Zj _ (Zq (by decide) (by omega));rw [Xq] at hz; omega
 rcases Zb b.length a.length with h | h
 ·exact Qha 66 a b ta tb (by omega) h (by omega) ba bb (by have:=hp a.length la; omega)
 ·by_cases hb:b.length=0
  ·rw [Qi hb]; exact Q3u ta (by omega)
  ·obtain ⟨h1,h2,h3,_⟩:=Qe5 ta tb hb (by omega);have h3:=h3 s ba bb;have h4:(a.length+1-b.length)*(s+8)<=1*(s+8):=Qy _ (by omega);have h5:=hp b.length lb;have h6:(s+8)*1<=(s+8)*3^(b.length-1):=Zj _ (Zy (by decide));refine Qwi ta tb hb (by omega) (by omega) (Uj h3 (by omega)) (Qha (s:=2*s+8) 65 b (Gi a b) tb h1 (by omega) h2 (by omega) (Uj bb (by omega)) (Uj h3 (by omega)) ?_);rw [show 2*s+8+8=2*(s+8) by omega,Xq]; omega
theorem Qoy:Uq []=[]:=rfl
theorem A0 {a:List Int} (ta:Uo a):Uo (Uq a)/\(Uq a).length=a.length/\(∀ s,Bd s a->Bd s (Uq a))/\∃ c:Rat,c≠0/\∀ t,Up a t=c*Up (Uq a) t:=by
 by_cases h:a.length=0
 ·rw [Qi h];exact ⟨rfl,rfl,λs _=>O2,1,by decide,λt=>by rw [Qoy]; grind⟩
 ·obtain ⟨h1,h2,h3,h4,h5,h6,h7⟩:=Td ta h;exact ⟨h1,h2,h5,_,I1 h6,h7⟩
theorem Qdp {n s:Nat} (hz:Szz n s) {a b:List Int} (ta:Uo a) (tb:Uo b) (la:a.length<=n) (lb:b.length<=n) (ba:Bd s a) (bb:Bd s b) (h0:a.length≠0\/b.length≠0):∃ g,Qay a b=some g/\Gc g a b/\Prm g/\0<Ux g:=by
 obtain ⟨a1,a2,a3,x,xn,ax⟩:=A0 ta;obtain ⟨b1,b2,b3,y,yn,bx⟩:=A0 tb;obtain ⟨g,e,hg⟩:=Zdo hz a1 b1 (by omega) (by omega) (a3 s ba) (b3 s bb) (by omega);obtain ⟨g1,g2,g3,g4,g5,g6,g7⟩:=Td hg.t hg.n;refine ⟨Uq g,?_,hg.scale (I1 g6) xn yn g1 g7 ax bx,g3,g4⟩;unfold Qay; rw [e]; rfl
theorem Q6b {a:List Int} (ta:Uo a):Qay [] a=some (Uq (Uq a)):=by
 unfold Qay;rw [Qoy];by_cases h:(Uq a).length=0
 ·have e:Uq a=[]:=Qi h;rw [e]; rfl
 ·have e:Gi [] (Uq a)=[]:=by
   have e1:Sr [] (Uq a)=[]:=by unfold Sr; rw [show ([]:List Int).length+1-(Uq a).length=0 by simp; omega]; rfl
   unfold Gi;rw [e1];unfold Py
   split <;> rfl
  have:Qg9 66 [] (Uq a)=some (Uq a):=by
   show (if (Uq a).length=0 then _ else _)=_;rw [if_neg h,e]; rfl
  rw [this]; rfl
theorem Q97 {n s:Nat} (hz:Szz n s) {a b:List Int} (ta:Uo a) (tb:Uo b) (la:a.length<=n) (lb:b.length<=n) (ba:Bd s a) (bb:Bd s b) (h0:a.length≠0):∃ g,Qrm a b=some g/\Gc g a b/\Prm g/\0<Ux g:=by
 obtain ⟨a1,a2,a3,x,xn,ax⟩:=A0 ta;obtain ⟨b1,b2,b3,y,yn,bx⟩:=A0 a1;obtain ⟨g,e,hg,h1,h2⟩:=Qdp hz b1 tb (by omega) lb (b3 s (a3 s ba)) bb (by omega);refine ⟨g,?_,hg.scale (x:=1) (y:=x*y) (z:=1) (by decide) (λh=>(Jw.1 h).elim xn yn) (by decide) hg.t (λt=>by grind) (λt=>by rw [ax,bx]; grind) (λt=>by grind),h1,h2⟩;unfold Qrm;rw [Q6b ta]; exact e
theorem Q3t:∀ {p q:List Rat} {m n:Nat},HD p m->HD q n->(Fx p q).getD (m+n) 0=p.getD m 0*q.getD n 0
 | [],q,m,n,h,_=>absurd (by simp) h.1
 |
  a::p,q,0,n,h,h'=>by
  have h1:∀ k,p.getD k 0=0:=λk=>by have:=h.2 (k+1) (by omega); rwa [Q3] at this
  simp only [Fx];rw [Hg,H7,Zr,Xa];cases n with
  | zero=>rw [Zr]; grind
  | succ n=>rw [Q3,Qhu h1]; grind
 |
  a::p,q,m+1,n,h,h'=>by
  have ih:=Q3t (p:=p) (q:=q) (m:=m) ⟨by have:=h.1; rwa [Q3] at this,λk hk=>by have:=h.2 (k+1) (by omega); rwa [Q3] at this⟩ h';simp only [Fx];rw [Hg,H7,show m+1+n=(m+n)+1 by omega,Q3,h'.2 _ (by omega),ih,Q3]; grind
theorem Qum {a b c:List Int} (ta:Uo a) (tb:Uo b) (tc:Uo c) (h:∀ t,Up c t=Up a t*Up b t) (la:0<a.length) (lb:0<b.length):Ux c=Ux a*Ux b:=by
 have h1:=Qce ta la;have h2:=Qce tb lb;have h3:=Q3t h1 h2;have hl:=Sw ta tb tc h la lb;rw [<-Ni (p:=cz c) (λt=>by rw [Ur,Un,Un,Un,h]),Sa,Sa,Sa,show a.length-1+(b.length-1)=c.length-1 by omega] at h3;unfold Ux; exact_mod_cast h3
theorem Hm {a b c:List Int} (tc:Uo c) (hc:c.length≠0) (h:∀ t,Up c t=Up a t*Up b t):0<a.length/\0<b.length:=by
 constructor
 ·rcases Qz a.length with e | e
  ·exact absurd (λt=>by rw [h,Ce e]; grind) (Qhk tc (by omega))
  ·exact e
 ·rcases Qz b.length with e | e
  ·exact absurd (λt=>by rw [h,Ce e]; grind) (Qhk tc (by omega))
  ·exact e
theorem Qrl {b:List Int} (tb:Uo b) (hb:b.length≠0):∀ (i:Nat) (a q h:List Int),Uo a->Uo h->(∀ t,Up a t=Up b t*Up h t)->a.length<b.length+i->i<=q.length->(∀ j,j<i->q.getD j 0=0)->∃ q',Qrk b i a q=some q'/\q'.length=q.length/\∀ t,Up q' t=Up q t+Up h t
 |
  0,a,q,h,ta,th,e,hl,_,_=>by
  have ha:a.length=0:=by
   rcases Qz a.length with e' | e'
   ·exact e'
   ·obtain ⟨p1,p2⟩:=Hm ta (by omega) e;have:=Sw tb th ta e p1 p2; omega
  refine ⟨q,by simp only [Qrk]; rw [if_pos ha],rfl,λt=>?_⟩;have:∀ t,Up h t=0:=λt=>by
   have:=Qxx (p:=cz b) (q:=cz h) (r:=[]) (λh0=>Qhk tb (by omega) λt=>by rw [<-Un]; exact h0 t) (λt=>by rw [Un,Un,<-e,Ce ha]; simp only [ev]; grind) t;rwa [Un] at this
  rw [this]; grind
 |
  i+1,a,q,h,ta,th,e,hl,hq,h0=>by
  simp only [Qrk];by_cases hlt:a.length<b.length+i
  ·rw [if_pos hlt];exact Qrl tb hb i a q h ta th e hlt (by omega) λj hj=>h0 j (by omega)
  ·rw [if_neg hlt];obtain ⟨p1,p2⟩:=Hm ta (by omega) e;have hln:=Sw tb th ta e p1 p2;have hld:=Qum tb th ta e p1 p2;have hlb:=Cc tb hb;rw [hld,if_pos (Int.mul_emod_right _ _),Xx _ hlb];have hli:h.length=i+1:=by omega
   have e2:∀ t,Up (Tx a (U5 (trim (mono i (Ux h))) b)) t=Up b t*Up (Tx h (mono i (Ux h))) t:=λt=>by
    rw [Ax,Ax,Fo,Ay,e]; grind
   have hl2:(Tx a (U5 (trim (mono i (Ux h))) b)).length<b.length+i:=by
    have hl:=Q2j (i:=i) (x:=Ux h) (b:=b) (a:=a);unfold sta at hl;have:=Qq0 (p:=Tx a (U5 (trim (mono i (Ux h))) b)) (n:=b.length+i-1) (U3 _ _) (by omega) (by
     rw [Bz,Qra,if_pos (by omega),show b.length+i-1-i=b.length-1 by omega,show b.length+i-1=a.length-1 by omega];have:Ux a=a.getD (a.length-1) 0:=rfl;rw [<-this,hld];unfold Ux;rw [Vr,Int.sub_eq_zero])
    omega
   obtain ⟨q',h1,h2,h3⟩:=Qrl tb hb i _ (q.set i (Ux h)) (Tx h (mono i (Ux h))) (U3 _ _) (U3 _ _) e2 hl2 (by simp; omega) λj hj=>by
    rw [Qg,J6,if_neg (by omega),<-Qg];exact h0 j (by omega)
   refine ⟨q',h1,by rw [h2,Jd],λt=>?_⟩;rw [h3,Qrj q i _ t (by omega),h0 i (by omega),Ax,Aw]
   push_cast; grind
theorem Zb3 {a b h:List Int} {s:Nat} (ta:Uo a) (tb:Uo b) (th:Uo h) (ha:a.length≠0) (la:a.length<=10) (ba:Bd s a) (hs:s+69<=16777216) (e:∀ t,Up a t=Up b t*Up h t):Qav a b=some h:=by
 obtain ⟨p1,p2⟩:=Hm ta ha e;have hln:=Sw tb th ta e p1 p2;obtain ⟨q,h1,h2,h3⟩:=Qrl tb (by omega) (a.length+1-b.length) a (List.replicate (a.length+1-b.length) 0) h ta th e (by omega) (by simp) λj _=>Rq _ _
 have h4:trim q=h:=Q25 (Ha _) th λt=>by rw [Ay,h3,Qor]; grind
 unfold Qav;rw [if_neg (by omega),h1];show chk (trim q)=_;rw [h4];exact La (by omega) (Uj (Iw ba la ta th tb ha λt=>by rw [e]; grind) (by omega))
end Orq
