/- T1 T2 T3 T4 T5 T6 T7 T8 T9 T10 T11 T12 T13 T14 T15 T16 T17 T18 -/
import Derived.Test.YtkkhemmhhedniaaGreatPart00
import Derived.Test.YtkkhemmhhedniaaGreatPart05
set_option linter.all false
namespace Orq
def Uk (x:Rat):Rat:=if x<0 then -x else x
theorem Gj (x:Rat):0<=Uk x:=by unfold Uk; split <;> grind
theorem Rh {x b:Rat}:Uk x<=b↔-b<=x/\x<=b:=by unfold Uk; split <;> constructor <;> grind
theorem Qof {x b:Rat}:Uk x<b↔-b<x/\x<b:=by unfold Uk; split <;> constructor <;> grind
theorem Rp (x y:Rat):Uk (x+y)<=Uk x+Uk y:=by unfold Uk; split <;> split <;> split <;> grind
theorem Qyv (x y:Rat):Uk (x-y)=Uk (y-x):=by unfold Uk; split <;> split <;> grind
theorem Cn (x:Rat):Uk (-x)=Uk x:=by unfold Uk; split <;> split <;> grind
theorem G8:Uk 0=0:=by decide
theorem M5 {x:Rat} (h:x≠0):0<Uk x:=by unfold Uk; split <;> grind
theorem Zcq {x:Rat} (h:Uk x=0):x=0:=by unfold Uk at h; split at h <;> grind
theorem Ph {x y:Rat} (h1:0<=x) (h2:0<=y):0<=x*y:=Rat.mul_nonneg h1 h2
theorem Ln {x y:Rat} (h1:0<x) (h2:0<y):0<x*y:=Vv h1 h2
theorem Su {a b c d:Rat} (h0:0<=a) (h1:a<=b) (h2:0<=c) (h3:c<=d):a*c<=b*d:=by
 have e1:=Q3 h1 h2;have e2:=Zk h3 (Q6 h0 h1);exact Q6 e1 e2
theorem Cm (x y:Rat):Uk (x*y)=Uk x*Uk y:=by
 unfold Uk;by_cases h1:x<0 <;> by_cases h2:y<0
 ·have:=Ln (x:=-x) (y:=-y) (by grind) (by grind); simp only [h1,h2,if_true]; split <;> grind
 ·have:=Ph (x:=-x) (y:=y) (by grind) (by grind); simp only [h1,h2,if_true,if_false]; split <;> grind
 ·have:=Ph (x:=x) (y:=-y) (by grind) (by grind); simp only [h1,h2,if_true,if_false]; split <;> grind
 ·have:=Ph (x:=x) (y:=y) (by grind) (by grind); simp only [h1,h2,if_false]; split <;> grind
theorem Fx {x y a b:Rat} (h1:Uk x<=a) (h2:Uk y<=b):Uk (x*y)<=a*b:=by
 rw [Cm]; exact Su (Gj x) h1 (Gj y) h2
theorem Nu {x y:Rat} (h1:0<x) (h2:0<y):0<x / y:=by rw [Js]; exact Ln h1 (Rat.inv_pos.2 h2)
theorem Fb {x y:Rat} (h2:0<y):x / y*y=x:=Zh (by grind)
theorem Ga {b d:Rat} (hb:0<=b) (hd:0<d):∃ e:Rat,0<e/\e<=1/\e*b<d:=by
 have h1:0<d / (b+1):=Nu hd (by grind);have h2:d / (b+1)*(b+1)=d:=Fb (by grind);rcases Vl (a:=d / (b+1)) (b:=1) with h | h
 ·exact ⟨d / (b+1),h1,h,by
   have:d / (b+1)*(b+1)=d / (b+1)*b+d / (b+1):=by grind
   grind⟩
 ·refine ⟨1,by decide,by decide,?_⟩;have:1*(b+1)<=d / (b+1)*(b+1):=Q3 h (by grind);grind
def ev:List Rat->Rat->Rat
 | [],_=>0
 | a::p,t=>a+t*ev p t
def dv:List Rat->Rat->Rat
 | [],_=>0
 | _::p,t=>ev p t+t*dv p t
def dq:List Rat->Rat->Rat->Rat
 | [],_,_=>0
 | _::p,x,y=>ev p x+y*dq p x y
def dd:List Rat->Rat->Rat->Rat
 | [],_,_=>0
 | _::p,x,y=>dq p x y+y*dd p x y
theorem Qkm (x y:Rat):∀ p,ev p x-ev p y=(x-y)*dq p x y
 | []=>by simp only [ev,dq]; grind
 | a::p=>by have:=Qkm x y p; simp only [ev,dq]; grind
theorem Qm3 (y:Rat):∀ p,dq p y y=dv p y
 | []=>rfl
 | a::p=>by simp only [dq,dv,Qm3 y p]
theorem Zej (x y:Rat):∀ p,dq p x y-dv p y=(x-y)*dd p x y
 | []=>by simp only [dv,dq,dd]; grind
 |
  a::p=>by
  have h1:=Zej x y p;have h2:=Qkm x y p;simp only [dv,dq,dd]; grind
theorem Zem (p:List Rat) (x y:Rat):ev p x-ev p y=(x-y)*dv p y+(x-y)*(x-y)*dd p x y:=by
 have h1:=Qkm x y p;have h2:=Zej x y p;grind
def evB (R:Rat):List Rat->Rat
 | []=>0
 | a::p=>Uk a+R*evB R p
def dqB (R:Rat):List Rat->Rat
 | []=>0
 | _::p=>evB R p+R*dqB R p
def ddB (R:Rat):List Rat->Rat
 | []=>0
 | _::p=>dqB R p+R*ddB R p
theorem E9 {R:Rat} (hR:0<=R):∀ p,0<=evB R p
 | []=>by simp only [evB]; grind
 | a::p=>by have:=Ph hR (E9 hR p); have:=Gj a; simp only [evB]; grind
theorem Sp {R:Rat} (hR:0<=R):∀ p,0<=dqB R p
 | []=>by simp only [dqB]; grind
 | a::p=>by have:=Ph hR (Sp hR p); have:=E9 hR p; simp only [dqB]; grind
theorem Qhm {R:Rat} (hR:0<=R):∀ p,0<=ddB R p
 | []=>by simp only [ddB]; grind
 | a::p=>by have:=Ph hR (Qhm hR p); have:=Sp hR p; simp only [ddB]; grind
theorem Qe7 {R x:Rat} (hx:Uk x<=R):∀ p,Uk (ev p x)<=evB R p
 | []=>by simp only [ev,evB,G8]; grind
 |
  a::p=>by
  have h1:=Rp a (x*ev p x);have h2:=Fx hx (Qe7 hx p);simp only [ev,evB]; grind
theorem Qp8 {R x y:Rat} (hx:Uk x<=R) (hy:Uk y<=R):∀ p,Uk (dq p x y)<=dqB R p
 | []=>by simp only [dq,dqB,G8]; grind
 |
  a::p=>by
  have h1:=Rp (ev p x) (y*dq p x y);have h2:=Fx hy (Qp8 hx hy p);have h3:=Qe7 hx p;simp only [dq,dqB]; grind
theorem Q4f {R x y:Rat} (hx:Uk x<=R) (hy:Uk y<=R):∀ p,Uk (dd p x y)<=ddB R p
 | []=>by simp only [dd,ddB,G8]; grind
 |
  a::p=>by
  have h1:=Rp (dq p x y) (y*dd p x y);have h2:=Fx hy (Q4f hx hy p);have h3:=Qp8 hx hy p;simp only [dd,ddB]; grind
theorem Q4w {R x y:Rat} (hx:Uk x<=R) (hy:Uk y<=R) (p:List Rat):Uk (ev p x-ev p y)<=Uk (x-y)*dqB R p:=by
 rw [Qkm,Cm]; exact Su (Gj _) Ql (Gj _) (Qp8 hx hy p)
def Hx:List Rat->List Rat->List Rat
 | [],q=>q
 | a::p,[]=>a::p
 | a::p,b::q=>(a+b)::Hx p q
def Pm (c:Rat) (p:List Rat):List Rat:=p.map (c * ·)
def Fo:List Rat->List Rat->List Rat
 | [],_=>[]
 | a::p,q=>Hx (Pm a q) (0::Fo p q)
def Mb:List Rat->List Rat
 | []=>[]
 | _::p=>Hx p (0::Mb p)
theorem U5 (t:Rat):∀ p q,ev (Hx p q) t=ev p t+ev q t
 | [],q=>by simp only [Hx,ev]; grind
 | a::p,[]=>by simp only [Hx,ev]; grind
 | a::p,b::q=>by have:=U5 t p q; simp only [Hx,ev]; grind
theorem Uw (c t:Rat):∀ p,ev (Pm c p) t=c*ev p t
 | []=>by simp only [Pm,Jf,ev]; grind
 | a::p=>by have:=Uw c t p; simp only [Pm,Zw,ev] at *; grind
theorem Ui (t:Rat):∀ p q,ev (Fo p q) t=ev p t*ev q t
 | [],q=>by simp only [Fo,ev]; grind
 | a::p,q=>by have:=Ui t p q; simp only [Fo,U5,Uw,ev]; grind
theorem Hl (t:Rat):∀ p,ev (Mb p) t=dv p t
 | []=>rfl
 | a::p=>by have:=Hl t p; simp only [Mb,U5,ev,dv]; grind
theorem Qm4 (t:Rat):∀ p q,dv (Hx p q) t=dv p t+dv q t
 | [],q=>by simp only [Hx,dv]; grind
 | a::p,[]=>by simp only [Hx,dv]; grind
 | a::p,b::q=>by have:=Qm4 t p q; have:=U5 t p q; simp only [Hx,dv]; grind
theorem Qdu (c t:Rat):∀ p,dv (Pm c p) t=c*dv p t
 | []=>by simp only [Pm,Jf,dv]; grind
 | a::p=>by have:=Qdu c t p; have:=Uw c t p; simp only [Pm,Zw,dv] at *; grind
theorem Qm5 (t:Rat):∀ p q,dv (Fo p q) t=dv p t*ev q t+ev p t*dv q t
 | [],q=>by simp only [Fo,dv,ev]; grind
 | a::p,q=>by have:=Qm5 t p q; have:=Ui t p q; simp only [Fo,Qm4,Qdu,dv,ev]; grind
theorem Qxk:∀ {p:List Rat},(∀ x∈p,x=0)->∀ t,ev p t=0
 | [],_,t=>rfl
 |
  a::p,h,t=>by
  have h1:=Qxk (p:=p) (λx hx=>h x (Qj _ hx)) t;have h2:=h a (Qt ..);simp only [ev,h1,h2]; grind
theorem Qxf:∀ {p:List Rat},(∀ x∈p,x=0)->∀ t,dv p t=0
 | [],_,t=>rfl
 |
  a::p,h,t=>by
  have h0:=λx hx=>h x (Qj _ hx)
  have h1:=Qxk (p:=p) h0 t;have h2:=Qxf (p:=p) h0 t;simp only [dv,h1,h2]; grind
theorem Qbl:∀ {p:List Rat},(∀ t,0<t->t<1->ev p t=0)->∀ x∈p,x=0
 | [],_=>λx hx=>by cases hx
 |
  a::p,h=>by
  have ha:a=0:=by
   rcases Classical.em (a=0) with h0 | h0
   ·exact h0
   ·obtain ⟨e,e1,e2,e3⟩:=Ga (E9 (R:=1) (by decide) p) (M5 h0);obtain ⟨f,f1,f2,f3⟩:=Ga (b:=1) (d:=e) (by decide) e1;have h1:=h f f1 (by grind);have h2:=Qe7 (R:=1) (x:=f) (by unfold Uk; split <;> grind) p;have h3:=Cm f (ev p f);have h4:Uk f=f:=by unfold Uk; split <;> grind
    have h5:a=-(f*ev p f):=by simp only [ev] at h1; grind
    have h6:Uk a=f*Uk (ev p f):=by rw [h5,Cn,h3,h4]
    have h7:f*Uk (ev p f)<=e*evB 1 p:=Su (Qm f1) (by grind) (Gj _) h2;grind
  intro x hx;rcases Qq.1 hx with rfl | hx
  ·exact ha
  ·refine Qbl (p:=p) (λt h1 h2=>?_) x hx;have:=h t h1 h2;simp only [ev,ha] at this;have h3:t*ev p t=0:=by grind
   rcases Jo.1 h3 with h4 | h4
   ·grind
   ·exact h4
theorem Q4n {p q:List Rat} (h:∀ t,ev p t=ev q t) (t:Rat):dv p t=dv q t:=by
 have h1:=Qxf (p:=Hx p (Pm (-1) q)) (Qbl λt _ _=>by rw [U5,Uw,h t]; grind) t;rw [Qm4,Qdu] at h1; grind
def Uo (x:Rat):Int:=if x<0 then -1 else if 0<x then 1 else 0
theorem Fa {x:Rat}:Uo x=0↔x=0:=by
 unfold Uo; constructor
 ·intro h; split at h <;> (try split at h) <;> grind
 ·intro h; subst h; rfl
theorem G9 {x:Rat}:Uo x=1↔0<x:=by
 unfold Uo; constructor
 ·intro h; split at h <;> (try split at h) <;> grind
 ·intro h; rw [if_neg (by grind),if_pos h]
theorem Tc {x:Rat}:Uo x=-1↔x<0:=by
 unfold Uo; constructor
 ·intro h; split at h <;> (try split at h) <;> grind
 ·intro h; rw [if_pos h]
theorem Ff (x:Rat):Uo x=-1/\x<0\/Uo x=0/\x=0\/Uo x=1/\0<x:=by
 rcases Vl (a:=x) (b:=0) with h | h
 ·rcases Classical.em (x=0) with h0 | h0
  ·exact .inr (.inl ⟨Fa.2 h0,h0⟩)
  ·exact .inl ⟨Tc.2 (by grind),by grind⟩
 ·rcases Classical.em (x=0) with h0 | h0
  ·exact .inr (.inl ⟨Fa.2 h0,h0⟩)
  ·exact .inr (.inr ⟨G9.2 (by grind),by grind⟩)
theorem Rr (x y:Rat):Uo (x*y)=Uo x*Uo y:=by
 rcases Ff x with ⟨e1,h1⟩ | ⟨e1,h1⟩ | ⟨e1,h1⟩ <;> rcases Ff y with ⟨e2,h2⟩ | ⟨e2,h2⟩ | ⟨e2,h2⟩ <;> rw [e1,e2]
 ·have:=Ln (x:=-x) (y:=-y) (by grind) (by grind); exact G9.2 (by grind)
 ·subst h2; exact Fa.2 (by grind)
 ·have:=Ln (x:=-x) (y:=y) (by grind) (by grind); exact Tc.2 (by grind)
 ·subst h1; exact Fa.2 (by grind)
 ·subst h1; exact Fa.2 (by grind)
 ·subst h1; exact Fa.2 (by grind)
 ·have:=Ln (x:=x) (y:=-y) (by grind) (by grind); exact Tc.2 (by grind)
 ·subst h2; exact Fa.2 (by grind)
 ·exact G9.2 (Ln h1 h2)
theorem Tu {a b d:Rat} (h1:d<=Uk a) (h2:Uk (b-a)<d):Uo b=Uo a/\Uo a≠0:=by
 rw [Qof] at h2;rcases Ff a with ⟨e,h⟩ | ⟨e,h⟩ | ⟨e,h⟩
 ·rw [e,Tc]; unfold Uk at h1; rw [if_pos h] at h1; exact ⟨by grind,by decide⟩
 ·subst h; rw [G8] at h1; grind
 ·rw [e,G9]; unfold Uk at h1; rw [if_neg (by grind)] at h1; exact ⟨by grind,by decide⟩
def tc (x:Rat):Int->List (List Rat)->Nat
 | _,[]=>0
 | s,p::l=>if Uo (ev p x)=0 then tc x s l else (if s=-(Uo (ev p x)) then 1 else 0)+tc x (Uo (ev p x)) l
inductive SCl:List Rat->List Rat->List (List Rat)->Prop
 | base {f g:List Rat} {c:Rat} (hc:c≠0) (hg:∀ t,ev g t=c):SCl f g []
 | step {f g h:List Rat} {l:List (List Rat)} {a b:Rat} {q:List Rat} (ha:0<a) (hb:0<b) (he:∀ t,a*ev f t=ev q t*ev g t-b*ev h t) (hl:SCl g h l):SCl f g (h::l)
theorem Q8p {x:Rat} {s:Int} {g h:List Rat} {l:List (List Rat)} (hh:Uo (ev h x)=-s) (hs:s≠0):tc x s (g::h::l)=1+tc x (-s) l:=by
 have h3:Uo (ev h x)≠0:=by omega
 have hv:s=1\/s=-1:=by rcases Ff (ev h x) with ⟨e,_⟩ | ⟨e,_⟩ | ⟨e,_⟩ <;> omega
 simp only [tc,if_neg h3,hh];rcases Ff (ev g x) with ⟨e,_⟩ | ⟨e,_⟩ | ⟨e,_⟩ <;> rw [e] <;> rcases hv with rfl | rfl <;> simp
theorem Qc6 {x:Rat} {s:Int} {p:List Rat} {l:List (List Rat)} (h:Uo (ev p x)≠0):tc x s (p::l)=(if s=-(Uo (ev p x)) then 1 else 0)+tc x (Uo (ev p x)) l:=by rw [tc,if_neg h]
theorem Ss {R x y e d:Rat} {p:List Rat} (hx:Uk x<=R) (hy:Uk y<=R) (hR:0<=R) (h:Uk (y-x)<=e) (hd:e*dqB R p<d):Uk (ev p y-ev p x)<d:=by
 have h1:=Q4w hy hx p;have h2:=Q3 h (Sp hR p);grind
theorem Qk8 {a x y:Rat} (ha:0<a) (h:a*x<a*y):x<y:=by
 rcases Vl (a:=y) (b:=x) with h' | h'
 ·have:=Zk h' (Qm ha); grind
 ·rcases Classical.em (x=y) with e | e
  ·subst e; grind
  ·grind
theorem Zhn {a b d d' B f g h q:Rat} (ha:0<a) (hb:0<b) (dp:0<d) (h7:B*d+a*d<b*d') (hq:Uk q<=B) (hg:Uk g<d) (hh:d'<=Uk h) (he:a*f=q*g-b*h) (hd':0<d'):Uo h=-Uo f/\d<=Uk f:=by
 have h4:=Fx hq (Qm hg);rw [Rh] at h4;have had:=Ln ha dp;have h8:=Zk hh (Qm hb);rcases Ff h with ⟨s,p⟩ | ⟨s,p⟩ | ⟨s,p⟩
 ·have:Uk h=-h:=by unfold Uk; rw [if_pos p]
  rw [this] at h8;have h10:d<f:=Qk8 ha (by grind);rw [s,G9.2 (show 0<f by grind)];exact ⟨rfl,by unfold Uk; split <;> grind⟩
 ·rw [p,G8] at hh; grind
 ·have:Uk h=h:=by unfold Uk; rw [if_neg (by grind)]
  rw [this] at h8;have h10:f < -d:=Qk8 ha (by grind);rw [s,Tc.2 (show f<0 by grind)];exact ⟨rfl,by unfold Uk; split <;> grind⟩
theorem min2 {a b:Rat} (ha:0<a) (hb:0<b):∃ e:Rat,0<e/\e<=a/\e<=b:=by
 rcases Vl (a:=a) (b:=b) with h | h
 ·exact ⟨a,ha,Ql,h⟩
 ·exact ⟨b,hb,h,Ql⟩
theorem Uy (a b:Rat):a<=b\/b<a:=by
 rcases Vl (a:=a) (b:=b) with h | h
 ·exact .inl h
 ·rcases Classical.em (a=b) with e | e
  ·exact .inl (by grind)
  ·exact .inr (by grind)
theorem Zgw {R:Rat} (hR:0<=R) {f g:List Rat} {l:List (List Rat)} (hc:SCl f g l):∃ d e:Rat,0<d/\0<e/\∀ x y,Uk x<=R->Uk y<=R->Uk (y-x)<=e ->
 (d<=Uk (ev f x)\/d<=Uk (ev g x))/\(d<=Uk (ev f x)->Uo (ev f y)=Uo (ev f x)/\Uo (ev f x)≠0)/\(d<=Uk (ev g x)->Uo (ev g y)=Uo (ev g x)/\Uo (ev g x)≠0) /\
 (Uo (ev f y)=Uo (ev f x)->Uo (ev f x)≠0->tc x (Uo (ev f x)) (g::l)=tc y (Uo (ev f x)) (g::l)) /\
 (Uo (ev g y)=Uo (ev g x)->Uo (ev g x)≠0->tc x (Uo (ev g x)) l=tc y (Uo (ev g x)) l):=by
 induction hc with
 |
  @base f g c hc hg =>
  have hd:=M5 hc;obtain ⟨e,e1,e2,e3⟩:=Ga (Sp hR f) hd;refine ⟨Uk c,e,hd,e1,λx y hx hy hxy=>⟨.inr (by rw [hg]; exact Ql),λh=>Tu h (Ss hx hy hR hxy e3),λh=>?_,λ_ _=>?_,λ_ _=>rfl⟩⟩
  ·rw [hg,hg]; exact ⟨rfl,λh=>hc (Fa.1 h)⟩
  ·simp only [tc,hg]
 |
  @step f g h l a b q ha hb he hl ih =>
  obtain ⟨d',e',hd',he',ih⟩:=ih;obtain ⟨d1,d1p,_,d1b⟩:=Ga (b:=evB R q+a) (d:=b*d') (by have:=E9 hR q; grind) (Ln hb hd');obtain ⟨d,dp,hd1,hdd⟩:=min2 d1p hd';obtain ⟨ef,ef1,_,ef3⟩:=Ga (Sp hR f) dp;obtain ⟨eg,eg1,_,eg3⟩:=Ga (Sp hR g) dp;obtain ⟨e0,e0p,h1,h2⟩:=min2 ef1 eg1;obtain ⟨e,ep,h0,h3⟩:=min2 e0p he';have h1:=Q6 h0 h1;have h2:=Q6 h0 h2;refine ⟨d,e,dp,ep,λx y hx hy hxy=>?_⟩;obtain ⟨i1,i2,i3,i4,i5⟩:=ih x y hx hy (Q6 hxy h3);have hsm:Uk (ev g x)<d->d'<=Uk (ev h x)/\Uo (ev h x)=-Uo (ev f x)/\d<=Uk (ev f x):=λhg=>by
   have hh:d'<=Uk (ev h x):=by
    rcases i1 with i | i
    ·exact absurd (Q6 hdd i) (Jp.2 hg)
    ·exact i
   have h6:d*(evB R q+a)<=d1*(evB R q+a):=Q3 hd1 (by have:=E9 hR q; clear ih i1 i2 i3 i4 i5 he; grind);have h7:evB R q*d+a*d<b*d':=by clear ih i1 i2 i3 i4 i5 he; grind
   exact ⟨hh,Zhn ha hb dp h7 (Qe7 hx q) hg hh (he x) hd'⟩
  have hfs:d<=Uk (ev f x)->Uo (ev f y)=Uo (ev f x)/\Uo (ev f x)≠0:=λh=>Tu h (Ss hx hy hR (Q6 hxy h1) ef3)
  have hgs:d<=Uk (ev g x)->Uo (ev g y)=Uo (ev g x)/\Uo (ev g x)≠0:=λh=>Tu h (Ss hx hy hR (Q6 hxy h2) eg3)
  refine ⟨?_,hfs,hgs,λs1 s2=>?_,i4⟩
  ·rcases Uy d (Uk (ev g x)) with h | h
   ·exact .inr h
   ·exact .inl (hsm h).2.2
  ·rcases Uy d (Uk (ev g x)) with h | h
   ·obtain ⟨g1,g2⟩:=hgs h;rw [Qc6 (x:=x) (p:=g) g2,Qc6 (x:=y) (p:=g) (by rw [g1]; exact g2),g1,i4 g1 g2]
   ·obtain ⟨h4,h5,_⟩:=hsm h;obtain ⟨h6,h7⟩:=i3 h4;have i5:=i5 h6 h7;rw [Q8p h5 s2,Q8p (h6.trans h5) s2,<-h5,i5]
def Td (p:List Rat) (x:Rat):Int:=if Uo (ev p x)≠0 then Uo (ev p x) else Uo (dv p x)
def vv (L:List (List Rat)) (x:Rat):Nat:=tc x 0 L
def Stm (f:List Rat) (L:List (List Rat)):Prop:=(∃ c:Rat,c≠0/\(∀ t,ev f t=c)/\L=[f])\/∃ g l,∃ k:Rat,0<k/\(∀ t,ev g t=k*dv f t)/\SCl f g l/\L=f::g::l
structure Sm (w:List Rat) (x y:Rat):Prop where
 s:Uo (ev w y)=Td w x
 l:Td w y=Td w x
 n:Td w x≠0
theorem Dk {p:List Rat} {x:Rat} (h:Uo (ev p x)≠0):Td p x=Uo (ev p x):=by unfold Td; rw [if_pos h]
theorem Quj {p:List Rat} {x:Rat} (h:Uo (ev p x)=0):Td p x=Uo (dv p x):=by unfold Td; rw [if_neg (by simpa using h)]
theorem Qr9 {p:List Rat} {x y:Rat} (h:Uo (ev p y)=Uo (ev p x)) (h0:Uo (ev p x)≠0):Sm p x y:=by
 have h1:=Dk h0;have h2:=Dk (p:=p) (x:=y) (by rw [h]; exact h0);exact ⟨by rw [h,h1],by rw [h2,h1,h],by rw [h1]; exact h0⟩
theorem E7 {f w u:List Rat} (h:∀ t,ev f t=ev w t*ev u t) (x:Rat):dv f x=dv w x*ev u x+ev w x*dv u x:=by
 rw [<-Qm5]; exact Q4n (λt=>by rw [h,Ui]) x
theorem Qx5 {f w u:List Rat} {x:Rat} (h:∀ t,ev f t=ev w t*ev u t) (hu:Uo (ev u x)≠0):Td f x=Td w x*Uo (ev u x):=by
 by_cases hw:Uo (ev w x)=0
 ·have hw0:=Fa.1 hw;have e1:ev f x=0:=by rw [h,hw0]; grind
  have e2:dv f x=dv w x*ev u x:=by rw [E7 h,hw0]; grind
  rw [Quj hw,Quj (Fa.2 e1),e2,Rr]
 ·have e1:Uo (ev f x)=Uo (ev w x)*Uo (ev u x):=by rw [h,Rr]
  rw [Dk hw,Dk (by rw [e1]; exact Jg hw hu),e1]
theorem Zho {f w u:List Rat} {x y:Rat} (h:∀ t,ev f t=ev w t*ev u t) (hu:Uo (ev u y)=Uo (ev u x)) (h0:Uo (ev u x)≠0) (hf:Sm f x y):Sm w x y:=by
 have e1:=Qx5 h h0;have e2:=Qx5 (x:=y) h (by rw [hu]; exact h0);have e3:Uo (ev f y)=Uo (ev w y)*Uo (ev u y):=by rw [h,Rr]
 obtain ⟨s,l,n⟩:=hf;rw [hu] at e2 e3;refine ⟨?_,?_,λh=>n (by rw [e1,h,J1])⟩
 ·rw [e3,e1] at s; exact Int.eq_of_mul_eq_mul_right h0 s
 ·rw [e2,e1] at l; exact Int.eq_of_mul_eq_mul_right h0 l
theorem tc0 {x:Rat} {s:Int} {f g:List Rat} {l:List (List Rat)} (h:Uo (ev g x)=s) (hs:s≠0):tc x 0 (f::g::l)=(if Uo (ev f x)=-s then 1 else 0)+tc x s l:=by
 have hv:s=1\/s=-1:=by rcases Ff (ev g x) with ⟨e,_⟩ | ⟨e,_⟩ | ⟨e,_⟩ <;> omega
 have hg:Uo (ev g x)≠0:=by omega
 rw [tc];rcases Ff (ev f x) with ⟨e,_⟩ | ⟨e,_⟩ | ⟨e,_⟩ <;> rw [e] <;> rcases hv with rfl | rfl <;> simp [Qc6 hg,h]
theorem Qim {R x y e d:Rat} {p:List Rat} (hx:Uk x<=R) (hy:Uk y<=R) (hR:0<=R) (hxy:x<y) (h:y-x<=e) (hd:d<=Uk (dv p x)) (he:e*ddB R p<d):Uo (ev p y-ev p x)=Uo (dv p x):=by
 have h1:=Zem p y x;have h2:ev p y-ev p x=(y-x)*(dv p x+(y-x)*dd p y x):=by rw [h1]; grind
 have h3:=Fx (x:=y-x) (y:=dd p y x) (a:=e) (b:=ddB R p) (by rw [Rh]; constructor <;> grind) (Q4f hy hx p);have h4:=Tu (b:=dv p x+(y-x)*dd p y x) hd (by
  have:dv p x+(y-x)*dd p y x-dv p x=(y-x)*dd p y x:=by grind
  rw [this]; exact Jp.1 λh=>absurd (Q6 h h3) (Jp.2 he))
 rw [h2,Rr,G9.2 (show 0<y-x by grind),h4.1,Yk]
def Q1x (f w:List Rat) (L:List (List Rat)) (x y:Rat):Prop :=
 (vv L x=vv L y/\Sm f x y/\Sm w x y)\/(vv L x=vv L y+1/\Td f x≠0/\Td f y=-Td f x/\Uo (ev f x)=Td f x/\(Uo (ev f y)=0\/Uo (ev f y)=-Td f x))
theorem Zep {R d:Rat} (hR:0<=R) (hd:0<d) {f w u:List Rat} (h:∀ t,ev f t=ev w t*ev u t):∃ e:Rat,0<e/\∀ x y,Uk x<=R->Uk y<=R->Uk (y-x)<=e->d<=Uk (ev f x)->Sm f x y/\Sm w x y:=by
 obtain ⟨ef,ef1,_,ef3⟩:=Ga (Sp hR f) hd;obtain ⟨d1,d1p,_,d1b⟩:=Ga (E9 hR u) hd;obtain ⟨ew,ew1,_,ew3⟩:=Ga (Sp hR w) d1p;obtain ⟨e,ep,e1,e2⟩:=min2 ef1 ew1;refine ⟨e,ep,λx y hx hy hxy hf=>⟨?_,?_⟩⟩
 ·have:=Tu hf (Ss hx hy hR (Q6 hxy e1) ef3);exact Qr9 this.1 this.2
 ·have hw:d1<=Uk (ev w x):=by
   rcases Uy d1 (Uk (ev w x)) with h' | h'
   ·exact h'
   ·have h5:=Fx (Qm h') (Qe7 hx u);rw [<-h] at h5;exact absurd (Q6 hf h5) (Jp.2 d1b)
  have:=Tu hw (Ss hx hy hR (Q6 hxy e2) ew3);exact Qr9 this.1 this.2
theorem loc {R:Rat} (hR:0<=R) {f w u:List Rat} {L:List (List Rat)} (hc:Stm f L) (h:∀ t,ev f t=ev w t*ev u t):∃ e:Rat,0<e/\∀ x y,Uk x<=R->Uk y<=R->x<y->y-x<=e->Q1x f w L x y:=by
 rcases hc with ⟨c,hc,hf,rfl⟩ | ⟨g,l,k,hk,hg,hc,rfl⟩
 ·obtain ⟨e,ep,h1⟩:=Zep hR (M5 hc) h;refine ⟨e,ep,λx y hx hy hxy he=>.inl ⟨?_,h1 x y hx hy (by rw [Rh]; constructor <;> grind) (by rw [hf]; exact Ql)⟩⟩;simp only [vv,tc,hf]
 ·obtain ⟨d,e1,dp,e1p,h1⟩:=Zgw hR hc;obtain ⟨e2,e2p,h2⟩:=Zep hR dp h;obtain ⟨d3,d3p,_,d3b⟩:=Ga (b:=k) (d:=d) (Qm hk) dp;obtain ⟨e3,e3p,_,e3b⟩:=Ga (Qhm hR f) d3p;obtain ⟨d4,d4p,_,d4b⟩:=Ga (b:=dqB R w+dqB R u) (d:=d3) (by have:=Sp hR w; have:=Sp hR u; grind) d3p;obtain ⟨e4,e4p,_,e4b⟩:=Ga (Sp hR w) d4p;obtain ⟨e5,e5p,_,e5b⟩:=Ga (Sp hR u) d4p;obtain ⟨a1,a1p,a11,a12⟩:=min2 e1p e2p;obtain ⟨a2,a2p,a21,a22⟩:=min2 e3p e4p;obtain ⟨a3,a3p,a31,a32⟩:=min2 a1p a2p;obtain ⟨e,ep,b1,b2⟩:=min2 a3p e5p;refine ⟨e,ep,λx y hx hy hxy he=>?_⟩;have hab:Uk (y-x)<=e:=by rw [Rh]; clear h1 h2; constructor <;> grind
  have hab1:Uk (y-x)<=e1:=by clear h1 h2; grind
  have hab2:Uk (y-x)<=e2:=by clear h1 h2; grind
  obtain ⟨i1,i2,i3,i4,i5⟩:=h1 x y hx hy hab1;rcases Uy d (Uk (ev f x)) with hf | hf
  ·obtain ⟨s1,s2⟩:=h2 x y hx hy hab2 hf;obtain ⟨j1,j2⟩:=i2 hf;refine .inl ⟨?_,s1,s2⟩;have:=i4 j1 j2;simp only [vv];rw [Qc6 (x:=x) (p:=f) j2,Qc6 (x:=y) (p:=f) (by rw [j1]; exact j2),j1,this]
  ·have hg1:d<=Uk (ev g x):=by
    rcases i1 with i | i
    ·exact absurd i (Jp.2 hf)
    ·exact i
   obtain ⟨g1,g2⟩:=i3 hg1;have i5:=i5 g1 g2;have hD:d3<=Uk (dv f x):=by
    rcases Uy d3 (Uk (dv f x)) with h' | h'
    ·exact h'
    ·have h5:=Fx (x:=k) (a:=k) (by unfold Uk; split <;> clear h1 h2 <;> grind) (Rat.le_of_lt h');rw [<-hg] at h5;have:k*d3=d3*k:=by grind
     exact absurd (Q6 hg1 h5) (Jp.2 (by rw [this]; exact d3b))
   have hm:=Qim hx hy hR hxy (by clear h1 h2; grind:y-x<=e3) hD e3b;have s1:Uo (ev g x)=Uo (dv f x):=by rw [hg,Rr,G9.2 hk,Yk]
   have s2:Uo (ev g y)=Uo (dv f y):=by rw [hg,Rr,G9.2 hk,Yk]
   obtain ⟨s,hs⟩:=nmE (Uo (ev g x));rw [<-hs] at g1 g2 i5 s1;rw [g1] at s2;have v1:=tc0 (f:=f) (l:=l) hs.symm g2;have v2:=tc0 (f:=f) (l:=l) g1 g2;rw [<-i5] at v2;rw [<-s1] at hm;have hw:Sm f x y->Sm w x y:=λhf=>by
    rcases Uy d4 (Uk (ev u x)) with hu | hu
    ·have hu:=Tu hu (Ss hx hy hR (Q6 hab b2) e5b);exact Zho h hu.1 hu.2 hf
    ·have hw:d4<=Uk (ev w x):=by
      rcases Uy d4 (Uk (ev w x)) with h' | h'
      ·exact h'
      ·have q1:=Fx (x:=dv w x) (y:=ev u x) (a:=dqB R w) (by rw [<-Qm3]; exact Qp8 hx hx w) (Qm hu);have q2:=Fx (x:=ev w x) (y:=dv u x) (b:=dqB R u) (Qm h') (by rw [<-Qm3]; exact Qp8 hx hx u);have q3:=Rp (dv w x*ev u x) (ev w x*dv u x);rw [<-E7 h] at q3;have:d4*(dqB R w+dqB R u)=dqB R w*d4+d4*dqB R u:=by grind
       rw [this] at d4b;exact absurd (Q6 hD (Q6 q3 (by clear h1 h2; grind:_<=dqB R w*d4+d4*dqB R u))) (Jp.2 d4b)
     have hw:=Tu hw (Ss hx hy hR (Q6 hab (by clear h1 h2; grind)) e4b);exact Qr9 hw.1 hw.2
   have lx:Td f x=if Uo (ev f x)≠0 then Uo (ev f x) else s:=by rw [s1]; rfl
   have ly:Td f y=if Uo (ev f y)≠0 then Uo (ev f y) else s:=by rw [s2]; rfl
   clear h1 h2 i1 i2 i3 i4;have hsv:s=1\/s=-1:=by rcases Ff (ev g x) with ⟨e,_⟩ | ⟨e,_⟩ | ⟨e,_⟩ <;> omega
   unfold Q1x;simp only [vv,v1,v2];rcases hsv with rfl | rfl
   ·have hm:=G9.1 hm;rcases Ff (ev f x) with ⟨p1,p2⟩ | ⟨p1,p2⟩ | ⟨p1,p2⟩
    ·rcases Ff (ev f y) with ⟨q1,q2⟩ | ⟨q1,q2⟩ | ⟨q1,q2⟩
     ·rw [p1,q1]; have hsm:=Qr9 (p:=f) (x:=x) (y:=y) (by rw [p1,q1]) (by rw [p1]; decide);exact .inl ⟨rfl,hsm,hw hsm⟩
     ·rw [lx,ly,p1,q1]; refine .inr ⟨by simp; omega,by decide,by decide,by decide,by decide⟩
     ·rw [lx,ly,p1,q1]; refine .inr ⟨by simp; omega,by decide,by decide,by decide,by decide⟩
    ·have q1:=G9.2 (show 0<ev f y by grind);have hsm:Sm f x y:=⟨by rw [lx,q1,p1]; rfl,by rw [lx,ly,q1,p1]; rfl,by rw [lx,p1]; decide⟩;rw [p1,q1]; exact .inl ⟨rfl,hsm,hw hsm⟩
    ·have q1:=G9.2 (show 0<ev f y by grind);have hsm:Sm f x y:=⟨by rw [lx,q1,p1]; rfl,by rw [lx,ly,q1,p1],by rw [lx,p1]; decide⟩;rw [p1,q1]; exact .inl ⟨rfl,hsm,hw hsm⟩
   ·have hm:=Tc.1 hm;rcases Ff (ev f x) with ⟨p1,p2⟩ | ⟨p1,p2⟩ | ⟨p1,p2⟩
    ·have q1:=Tc.2 (show ev f y<0 by grind);have hsm:Sm f x y:=⟨by rw [lx,q1,p1]; rfl,by rw [lx,ly,q1,p1],by rw [lx,p1]; decide⟩;rw [p1,q1]; exact .inl ⟨rfl,hsm,hw hsm⟩
    ·have q1:=Tc.2 (show ev f y<0 by grind);have hsm:Sm f x y:=⟨by rw [lx,q1,p1]; rfl,by rw [lx,ly,q1,p1]; rfl,by rw [lx,p1]; decide⟩;rw [p1,q1]; exact .inl ⟨rfl,hsm,hw hsm⟩
    ·rcases Ff (ev f y) with ⟨q1,q2⟩ | ⟨q1,q2⟩ | ⟨q1,q2⟩
     ·rw [lx,ly,p1,q1]; refine .inr ⟨by simp; omega,by decide,by decide,by decide,by decide⟩
     ·rw [lx,ly,p1,q1]; refine .inr ⟨by simp; omega,by decide,by decide,by decide,by decide⟩
     ·rw [p1,q1]; have hsm:=Qr9 (p:=f) (x:=x) (y:=y) (by rw [p1,q1]) (by rw [p1]; decide);exact .inl ⟨rfl,hsm,hw hsm⟩
theorem Zl4 (z:Rat):∃ n:Nat,z<=(n:Rat):=by
 refine ⟨z.ceil.toNat,?_⟩;have h1:z<=(z.ceil:Rat):=Rat.le_ceil;have h2:(z.ceil:Rat)<=((z.ceil.toNat:Int):Rat):=Je.2 (Int.self_le_toNat _);exact Q6 h1 h2
theorem Ic {z e:Rat} (he:0<e):∃ n:Nat,z<=(n:Rat)*e:=by
 obtain ⟨n,hn⟩:=Zl4 (z / e);exact ⟨n,by have:=Q3 hn (Qm he); rwa [Fb he] at this⟩
theorem Qb9 {R x y t:Rat} (hx:Uk x<=R) (hy:Uk y<=R) (h1:x<=t) (h2:t<=y):Uk t<=R:=by
 rw [Rh] at *; constructor <;> grind
def Qzg (f w:List Rat) (L:List (List Rat)) (x y:Rat):Prop :=
 vv L y<=vv L x/\(vv L x=vv L y->Sm f x y/\Sm w x y)/\(vv L x=vv L y+1->Td f x≠0/\Td f y=-Td f x)
theorem Qx4 {f w:List Rat} {L:List (List Rat)} {x y:Rat} (h:Q1x f w L x y):Qzg f w L x y:=by
 rcases h with ⟨h1,h2,h3⟩ | ⟨h1,h2,h3,_⟩
 ·exact ⟨by omega,λ_=>⟨h2,h3⟩,λh=>by omega⟩
 ·exact ⟨by omega,λh=>by omega,λ_=>⟨h2,h3⟩⟩
theorem Qsa {w:List Rat} {x y z:Rat} (h1:Sm w x y) (h2:Sm w y z):Sm w x z:=⟨by rw [h2.s,h1.l],by rw [h2.l,h1.l],h1.n⟩
theorem Quh {f w:List Rat} {L:List (List Rat)} {x y z:Rat} (h:Qzg f w L x y) (h':Qzg f w L y z):Qzg f w L x z:=by
 obtain ⟨a1,a2,a3⟩:=h;obtain ⟨b1,b2,b3⟩:=h';refine ⟨by omega,λh=>?_,λh=>?_⟩
 ·obtain ⟨s1,s2⟩:=a2 (by omega);obtain ⟨s3,s4⟩:=b2 (by omega);exact ⟨Qsa s1 s3,Qsa s2 s4⟩
 ·by_cases e:vv L x=vv L y
  ·obtain ⟨s1,_⟩:=a2 e;obtain ⟨s3,s4⟩:=b3 (by omega);exact ⟨s1.n,by rw [s4,s1.l]⟩
  ·obtain ⟨s3,s4⟩:=a3 (by omega);obtain ⟨s1,_⟩:=b2 (by omega);exact ⟨s3,by rw [s1.l,s4]⟩
theorem Zgo {R:Rat} (hR:0<=R) {f w u:List Rat} {L:List (List Rat)} (hc:Stm f L) (h:∀ t,ev f t=ev w t*ev u t) {x y:Rat} (hx:Uk x<=R) (hy:Uk y<=R) (hxy:x<y):Qzg f w L x y:=by
 obtain ⟨e,ep,hl⟩:=loc hR hc h;have key:∀ n:Nat,∀ x,Uk x<=R->x<y->y-x<=(n:Rat)*e->Qzg f w L x y:=by
  intro n
  induction n with
  | zero =>
   intro x hx hxy h; exfalso; have:((0:Nat):Rat)*e=0:=by simp
   grind
  |
   succ n ih =>
   intro x hx hxy hn;rcases Uy (y-x) e with h1 | h1
   ·exact Qx4 (hl x y hx hy hxy h1)
   ·have hm:Uk (x+e)<=R:=Qb9 hx hy (by clear hl ih; grind) (by clear hl ih; grind);have hn':(((n+1:Nat):Rat))=(n:Rat)+1:=by push_cast; rfl
    refine Quh (Qx4 (hl x (x+e) hx hm (by clear hl ih; grind) (by clear hl ih; grind))) (ih (x+e) hm (by clear hl ih; grind) ?_);rw [hn'] at hn;clear hl ih; grind
 obtain ⟨n,hn⟩:=Ic (z:=y-x) ep;exact key n x hx hxy hn
theorem Qme (x y:Rat):∃ R:Rat,0<=R/\Uk x<=R/\Uk y<=R:=by
 refine ⟨Uk x+Uk y,?_,?_,?_⟩ <;> (have:=Gj x; have:=Gj y; grind)
theorem Hp (t:Rat):ev [1] t=1:=by simp only [ev]; grind
theorem Dv {f:List Rat} {L:List (List Rat)} (hc:Stm f L) {x y:Rat} (hxy:x<y):vv L y<=vv L x:=by
 obtain ⟨R,hR,hx,hy⟩:=Qme x y;exact (Zgo hR hc (w:=f) (u:=[1]) (λt=>by rw [Hp]; grind) hx hy hxy).1
theorem Qaw {f w u:List Rat} {L:List (List Rat)} (hc:Stm f L) (h:∀ t,ev f t=ev w t*ev u t) {x y:Rat} (hxy:x<y) (he:vv L x=vv L y):Sm w x y:=by
 obtain ⟨R,hR,hx,hy⟩:=Qme x y;exact ((Zgo hR hc h hx hy hxy).2.1 he).2
theorem Qo6 {f:List Rat} {L:List (List Rat)} (hc:Stm f L) {x y:Rat} (hxy:x<y) (he:vv L x=vv L y):Sm f x y :=
 Qaw hc (w:=f) (u:=[1]) (λt=>by rw [Hp]; grind) hxy he
theorem Qo5 {f:List Rat} {L:List (List Rat)} (hc:Stm f L) {x y:Rat} (hxy:x<y) (he:vv L x=vv L y+1):Td f x≠0/\Td f y=-Td f x:=by
 obtain ⟨R,hR,hx,hy⟩:=Qme x y;exact (Zgo hR hc (w:=f) (u:=[1]) (λt=>by rw [Hp]; grind) hx hy hxy).2.2 he
theorem Q8z {f:List Rat} {L:List (List Rat)} (hc:Stm f L) (R:Rat) (hR:0<=R):∃ e:Rat,0<e/\∀ x y,Uk x<=R->Uk y<=R->x<y->y-x<=e->vv L x<=vv L y+1:=by
 obtain ⟨e,ep,hl⟩:=loc hR hc (w:=f) (u:=[1]) (λt=>by rw [Hp]; grind);refine ⟨e,ep,λx y hx hy hxy he=>?_⟩;rcases hl x y hx hy hxy he with ⟨h,_⟩ | ⟨h,_⟩ <;> omega
theorem cont {p:List Rat} {x:Rat} (h:Uo (ev p x)≠0):∃ e:Rat,0<e/\∀ y,Uk (y-x)<=e->Uo (ev p y)=Uo (ev p x):=by
 have hd:=M5 (x:=ev p x) λh0=>h (Fa.2 h0)
 have hR:0<=Uk x+1:=by have:=Gj x; grind
 obtain ⟨e,e1,e2,e3⟩:=Ga (Sp hR p) hd;refine ⟨e,e1,λy hy=>(Tu Ql (Ss (x:=x) (by grind) ?_ hR hy e3)).1⟩;have:=Rp (y-x) x;have e:y-x+x=y:=by grind
 rw [e] at this; grind
theorem Zey {R M:Rat} {p:List Rat} (hM:M=ddB R p) (hR:0<=R) {h:Rat} (hh:0<h):∀ (n:Nat) (x:Rat),Uk x<=R->Uk (x+(n:Rat)*h)<=R->(∀ t,x<=t->t<=x+(n:Rat)*h->0<=dv p t)->ev p x-(n:Rat)*(h*h*M)<=ev p (x+(n:Rat)*h)
 |
  0,x,_,_,_=>by
  have e1:x+((0:Nat):Rat)*h=x:=by rw [show ((0:Nat):Rat)=0 from rfl]; grind
  have e2:((0:Nat):Rat)*(h*h*M)=0:=by simp
  rw [e1,e2]; grind
 |
  n+1,x,hx,hy,hd=>by
  have hn':(((n+1:Nat):Rat))=(n:Rat)+1:=by push_cast; rfl
  rw [hn'] at hy hd ⊢;have hn0:(0:Rat)<=(n:Rat):=Xl;have hnh:=Ph hn0 (Qm hh);have e1:x+((n:Rat)+1)*h=(x+h)+(n:Rat)*h:=by grind
  rw [e1] at hy hd ⊢;have hxh:Uk (x+h)<=R:=Qb9 hx hy (by clear hd; grind) (by clear hd; grind);have ih:=Zey hM hR hh n (x+h) hxh hy λt h1 h2=>hd t (by clear hd; grind) h2
  have h0:=hd x Ql (by clear hd; grind);have h1:=Zem p (x+h) x;have h2:=Q4f hxh hx p;rw [<-hM,Rh] at h2;have h3:=Zk h2.1 (Ph (Qm hh) (Qm hh));have h4:=Ph (Qm hh) h0;have e2:x+h-x=h:=by grind
  rw [e2] at h1;clear hd hx hy hxh;grind
theorem Zj1 {p:List Rat} {x y:Rat} (hxy:x<y) (hd:∀ t,x<=t->t<=y->0<=dv p t):ev p x<=ev p y:=by
 obtain ⟨R,hR,hx,hy⟩:=Qme x y;rcases Uy (ev p x) (ev p y) with h | h
 ·exact h
 ·exfalso;obtain ⟨M,hM⟩:=nmE (ddB R p);have hM0:=Qhm hR p;rw [<-hM] at hM0;obtain ⟨e,ep,_,he⟩:=Ga (b:=(y-x)*M) (d:=ev p x-ev p y) (Ph (by grind) hM0) (by grind);obtain ⟨n,hn⟩:=Ic (z:=y-x) ep;have hn0:0<(n:Rat):=by
   rcases Uy (n:Rat) 0 with h' | h'
   ·have:=Q3 h' (Qm ep); clear hd; grind
   ·exact h'
  have hh:0<(y-x) / n:=Nu (by grind) hn0;have e1:(n:Rat)*((y-x) / n)=y-x:=by rw [Ww]; exact Fb hn0
  have e2:x+(n:Rat)*((y-x) / n)=y:=by rw [e1]; grind
  have h1:=Zey hM hR hh n x hx (by rw [e2]; exact hy) (by rw [e2]; exact hd);rw [e2] at h1;have h2:(y-x) / n<=e:=by
   rcases Uy ((y-x) / n) e with h' | h'
   ·exact h'
   ·have:=Rat.mul_lt_mul_of_pos_left h' hn0; clear hd; grind
  have h3:(n:Rat)*((y-x) / n*((y-x) / n)*M)=((y-x) / n)*((y-x)*M):=by
   have:(n:Rat)*((y-x) / n*((y-x) / n)*M)=((n:Rat)*((y-x) / n))*(((y-x) / n)*M):=by grind
   rw [this,e1]; grind
  have h4:=Q3 h2 (Ph (x:=y-x) (y:=M) (by grind) hM0);rw [h3] at h1;clear hd; grind
theorem Zcx {p:List Rat} {x y:Rat} (hxy:x<y) (hd:∀ t,x<=t->t<=y->0<dv p t):ev p x<ev p y:=by
 have hx:=hd x Ql (by grind);have hR:0<=Uk x+1:=by have:=Gj x; grind
 obtain ⟨e,e1,e2,e3⟩:=Ga (Qhm hR p) hx;obtain ⟨f,f1,f2,f3⟩:=min2 (a:=e) (b:=y-x) e1 (by grind);have hq:Uk (x+f)<=Uk x+1:=by
  have:=Rp x f; have:Uk f=f:=by unfold Uk; split <;> grind
  clear hd; grind
 have h1:=Qim (p:=p) (x:=x) (y:=x+f) (R:=Uk x+1) (e:=e) (d:=dv p x) (by clear hd; grind) hq hR (by grind) (by grind) (by unfold Uk; split <;> clear hd <;> grind) e3;rw [G9.2 hx,G9] at h1;rcases Classical.em (x+f=y) with e | e
 ·rw [<-e]; clear hd; grind
 ·have:=Zj1 (p:=p) (x:=x+f) (y:=y) (by clear hd; grind) λt h1 h2=>Qm (hd t (by clear hd; grind) h2)
  clear hd; grind
structure Cut (c:Rat->Int):Prop where
 val:∀ q,c q=1\/c q=0\/c q=-1
 mono:∀ q r,q<r->c q≠1->c r=-1
 up:∀ q,c q=1->∃ r,q<r/\c r=1
 dn:∀ q,c q=-1->∃ r,r<q/\c r=-1
 lo:∃ q,c q=1
 hi:∃ q,c q=-1
theorem Cut.mono' {c:Rat->Int} (h:Cut c) {q r:Rat} (hqr:q<r) (hr:c r≠-1):c q=1:=by
 rcases Classical.em (c q=1) with e | e
 ·exact e
 ·exact absurd (h.mono q r hqr e) hr
theorem Cut.lt {c:Rat->Int} (h:Cut c) {q r:Rat} (hq:c q=1) (hr:c r=-1):q<r:=by
 rcases Uy r q with e | e
 ·rcases Classical.em (r=q) with e' | e'
  ·rw [e'] at hr; omega
  ·have:=h.mono r q (by grind) (by omega); omega
 ·exact e
theorem Cut.near {c:Rat->Int} (h:Cut c) {e:Rat} (he:0<e):∃ x y,c x=1/\c y=-1/\y-x<=e:=by
 obtain ⟨a,ha⟩:=h.lo;obtain ⟨b,hb⟩:=h.hi;have he2:0<e / 2:=Nu he (by decide);have h2:e / 2*2=e:=Fb (by decide);have key:∀ (n:Nat) (a:Rat),c a=1->b-a<=(n:Rat)*(e / 2)->∃ x y,c x=1/\c y=-1/\y-x<=e:=by
  intro n
  induction n with
  |
   zero =>
   intro a ha hn;have:=h.lt ha hb;rw [show ((0:Nat):Rat)=0 from rfl] at hn;exfalso; grind
  |
   succ n ih =>
   intro a ha hn;have hn':(((n+1:Nat):Rat))=(n:Rat)+1:=by push_cast; rfl
   rw [hn'] at hn;rcases h.val (a+e / 2) with h1 | h1 | h1
   ·exact ih _ h1 (by grind)
   ·exact ⟨a,a+e,ha,h.mono (a+e / 2) _ (by grind) (by omega),by grind⟩
   ·exact ⟨a,a+e / 2,ha,h1,by grind⟩
 obtain ⟨n,hn⟩:=Ic (z:=b-a) he2;exact key n a ha hn
def Ls (p:List Rat) (c:Rat->Int):Prop:=∀ d:Rat,0<d->∃ x y,c x=1/\c y=-1/\∀ q,x<=q->q<=y->Uk (ev p q)<d
def NZ (p:List Rat) (c:Rat->Int) (s:Int):Prop:=∃ d:Rat,0<d/\∃ x y,c x=1/\c y=-1/\∀ q,x<=q->q<=y->Uo (ev p q)=s/\d<=Uk (ev p q)
def Nr (c:Rat->Int) (P:Rat->Prop):Prop:=∃ x y,c x=1/\c y=-1/\∀ q,x<=q->q<=y->P q
theorem Qul {c:Rat->Int} {P Q:Rat->Prop} (h1:Nr c P) (h2:Nr c Q):Nr c λq=>P q/\Q q:=by
 obtain ⟨x,y,a1,a2,a3⟩:=h1;obtain ⟨x',y',b1,b2,b3⟩:=h2;refine ⟨if x<=x' then x' else x,if y<=y' then y else y',by split <;> assumption,by split <;> assumption,λq q1 q2=>⟨a3 q ?_ ?_,b3 q ?_ ?_⟩⟩ <;> clear a3 b3 <;> grind
theorem Qgj {c:Rat->Int} {P Q:Rat->Prop} (h1:Nr c P) (h:∀ q,P q->Q q):Nr c Q:=by
 obtain ⟨x,y,a1,a2,a3⟩:=h1;exact ⟨x,y,a1,a2,λq q1 q2=>h q (a3 q q1 q2)⟩
theorem Qq9 {c:Rat->Int} (hc:Cut c) {P:Rat->Prop} (h1:Nr c P):∃ q,P q/\c q=1:=by
 obtain ⟨x,y,a1,a2,a3⟩:=h1;exact ⟨x,a3 x Ql (Qm (hc.lt a1 a2)),a1⟩
theorem Q6e {c:Rat->Int} (hc:Cut c) {e:Rat} (he:0<e) {P:Rat->Prop} (h1:Nr c P):∃ x y,c x=1/\c y=-1/\y-x<=e/\x<y/\∀ q,x<=q->q<=y->P q:=by
 obtain ⟨x,y,a1,a2,a3⟩:=h1;obtain ⟨x',y',b1,b2,b3⟩:=hc.near he;refine ⟨if x<=x' then x' else x,if y<=y' then y else y',by split <;> assumption,by split <;> assumption,by clear a3; grind,hc.lt (by split <;> assumption) (by split <;> assumption),λq q1 q2=>a3 q ?_ ?_⟩ <;> clear a3 <;> grind
theorem Zew {c:Rat->Int} (hc:Cut c):∃ R:Rat,0<=R/\Nr c λq=>Uk q<=R:=by
 obtain ⟨x,y,a1,a2,_⟩:=hc.near (e:=1) (by decide);obtain ⟨R,hR,h1,h2⟩:=Qme x y;exact ⟨R,hR,x,y,a1,a2,λq q1 q2=>Qb9 h1 h2 q1 q2⟩
theorem Oj {c:Rat->Int} (hc:Cut c) (p:List Rat):Ls p c\/∃ s,s≠0/\NZ p c s:=by
 rcases Classical.em (Ls p c) with h | h
 ·exact .inl h
 ·refine .inr ?_;obtain ⟨d,hd0⟩:=Classical.not_forall.1 h;obtain ⟨dp,hd⟩:=Classical.not_imp.1 hd0;have hd:∀ x y,c x=1->c y=-1->∃ q,x<=q/\q<=y/\d<=Uk (ev p q):=λx y hx hy=>by
   rcases Classical.em (∃ q,x<=q/\q<=y/\d<=Uk (ev p q)) with h' | h'
   ·exact h'
   ·refine absurd ⟨x,y,hx,hy,λq h1 h2=>?_⟩ hd;rcases Uy d (Uk (ev p q)) with h3 | h3
    ·exact absurd ⟨q,h1,h2,h3⟩ h'
    ·exact h3
  obtain ⟨R,hR,hn⟩:=Zew hc;have hd2:0<d / 2:=Nu dp (by decide);have h2:d / 2*2=d:=Fb (by decide);obtain ⟨e,e1,_,e3⟩:=Ga (Sp hR p) hd2;obtain ⟨x,y,hx,hy,hxy,_,hq⟩:=Q6e hc e1 hn;obtain ⟨r,r1,r2,r3⟩:=hd x y hx hy;have key:∀ q,x<=q->q<=y->Uk (ev p q-ev p r)<d / 2:=λq q1 q2 =>
   Ss (hq r r1 r2) (hq q q1 q2) hR (by rw [Rh]; clear hq hd; constructor <;> grind) e3
  refine ⟨Uo (ev p r),λh0=>?_,d / 2,hd2,x,y,hx,hy,λq q1 q2=>⟨(Tu (d:=d) r3 ?_).1,?_⟩⟩
  ·rw [Fa.1 h0,G8] at r3; clear hq hd key; grind
  ·have:=key q q1 q2; clear hq hd key; grind
  ·have h3:=key q q1 q2;have h4:=Rp (ev p r-ev p q) (ev p q);rw [show ev p r-ev p q+ev p q=ev p r from by clear hq hd key; grind,Qyv] at h4;clear hq hd key; grind
theorem Zh4 {c:Rat->Int} (hc:Cut c) {p:List Rat} {s:Int} (h1:Ls p c) (h2:NZ p c s):False:=by
 obtain ⟨d,dp,h2⟩:=h2;obtain ⟨q,⟨a,b⟩,_⟩:=Qq9 hc (Qul (h1 d dp) h2);exact absurd b.2 (Jp.2 a)
theorem Si {c:Rat->Int} (hc:Cut c) {f p q:List Rat} (hf:∀ t,ev f t=ev p t*ev q t) (h:Ls p c):Ls f c:=by
 intro d dp;obtain ⟨R,hR,hn⟩:=Zew hc;obtain ⟨e,e1,_,e3⟩:=Ga (E9 hR q) dp;refine Qgj (Qul hn (h e e1)) λt ⟨h1,h2⟩=>?_
 rw [hf];have:=Fx (Qm h2) (Qe7 h1 q);exact Jp.1 λh=>absurd (Q6 h this) (Jp.2 e3)
theorem Qgx {c:Rat->Int} {f p q:List Rat} (hf:∀ t,ev f t=ev p t+ev q t) (h:Ls p c) (h':Ls q c):Ls f c:=by
 intro d dp;have hd2:0<d / 2:=Nu dp (by decide);have h2:d / 2*2=d:=Fb (by decide);refine Qgj (Qul (h _ hd2) (h' _ hd2)) λt ⟨h1,h2⟩=>?_
 rw [hf];have:=Rp (ev p t) (ev q t);grind
def RS (p:List Rat) (c:Rat->Int) (s:Int):Prop:=∃ y,c y=-1/\∀ q,c q=-1->q<=y->Uo (ev p q)=s
def LS (p:List Rat) (c:Rat->Int) (s:Int):Prop:=∃ x,c x=1/\∀ q,c q=1->x<=q->Uo (ev p q)=s
theorem Qlw {c:Rat->Int} (hc:Cut c) {p:List Rat} {s:Int} (h:NZ p c s):RS p c s:=by
 obtain ⟨d,dp,x,y,a1,a2,a3⟩:=h;exact ⟨y,a2,λq h1 h2=>(a3 q (Qm (hc.lt a1 h1)) h2).1⟩
theorem Qx6 {c:Rat->Int} (hc:Cut c) {p:List Rat} {s:Int} (h:NZ p c s):LS p c s:=by
 obtain ⟨d,dp,x,y,a1,a2,a3⟩:=h;exact ⟨x,a1,λq h1 h2=>(a3 q h2 (Qm (hc.lt h1 a2))).1⟩
theorem Qcy {c:Rat->Int} {p:List Rat} {s s':Int} (h:RS p c s) (h':RS p c s'):s=s':=by
 obtain ⟨y,a1,a2⟩:=h;obtain ⟨y',b1,b2⟩:=h';rcases Uy y y' with e | e
 ·rw [<-a2 y a1 Ql,<-b2 y a1 e]
 ·rw [<-a2 y' b1 (Qm e),<-b2 y' b1 Ql]
theorem Ze1 {c:Rat->Int} (hc:Cut c) {p:List Rat} (hv:Ls p c) {y:Rat} (hy:c y=-1) (h:∀ q,c q=-1->q<=y->0<dv p q) (q:Rat) (hq:c q=-1) (hqy:q<=y):0<ev p q:=by
 rcases Uy (ev p q) 0 with h0 | h0
 ·exfalso;obtain ⟨r,r1,r2⟩:=hc.dn q hq;have hr:ev p r<ev p q:=Zcx r1 λt t1 t2=>h t (by
   rcases Classical.em (r=t) with e | e
   ·rw [<-e]; exact r2
   ·exact hc.mono r t (by clear h; grind) (by omega)) (Q6 t2 hqy)
  obtain ⟨a,b,ha,hb,hab⟩:=hv (-ev p r) (by clear h; grind);obtain ⟨m,hm1,hm2,hm3⟩:∃ m,c m=-1/\m<=b/\m<=r:=by
   rcases Uy b r with e | e
   ·exact ⟨b,hb,Ql,e⟩
   ·exact ⟨r,r2,Qm e,Ql⟩
  have h1:=hab m (Qm (hc.lt ha hm1)) hm2;have h2:ev p m<=ev p r:=by
   rcases Classical.em (m=r) with e | e
   ·rw [e]; exact Ql
   ·exact Qm (Zcx (by clear h hab; grind) λt t1 t2=>h t (by
     rcases Classical.em (m=t) with e | e
     ·rw [<-e]; exact hm1
     ·exact hc.mono m t (by clear h hab; grind) (by omega)) (by clear h hab; grind))
  rw [Qof] at h1;clear h hab; grind
 ·exact h0
theorem Qol {c:Rat->Int} (hc:Cut c) {p:List Rat} {s:Int} (hv:Ls p c) (h:RS (Mb p) c s) (hs:s≠0):RS p c s:=by
 obtain ⟨y,hy,h⟩:=h;have hsv:s=1\/s=-1:=by
  have:=h y hy Ql;rcases Ff (ev (Mb p) y) with ⟨e,_⟩ | ⟨e,_⟩ | ⟨e,_⟩ <;> omega
 rcases hsv with rfl | rfl
 ·refine ⟨y,hy,λq h1 h2=>G9.2 (Ze1 hc hv hy (λq h1 h2=>?_) q h1 h2)⟩;rw [<-Hl]; exact G9.1 (h q h1 h2)
 ·refine ⟨y,hy,λq h1 h2=>Tc.2 ?_⟩;have:=Ze1 hc (p:=Pm (-1) p) (y:=y) (λd dp=>Qgj (hv d dp) λq hq=>by rw [Uw,show -1*ev p q=-ev p q by grind,Cn]; exact hq) hy (λq h1 h2=>by
   rw [Qdu,<-Hl];have:=Tc.1 (h q h1 h2); grind) q h1 h2
  rw [Uw] at this; grind
theorem Zet {c:Rat->Int} (hc:Cut c) {p:List Rat} (hv:Ls p c) {x:Rat} (hx:c x=1) (h:∀ q,c q=1->x<=q->0<dv p q) (q:Rat) (hq:c q=1) (hxq:x<=q):ev p q<0:=by
 rcases Uy 0 (ev p q) with h0 | h0
 ·exfalso;obtain ⟨r,r1,r2⟩:=hc.up q hq;have hr:ev p q<ev p r:=Zcx r1 λt t1 t2=>h t (by
   rcases Classical.em (t=r) with e | e
   ·rw [e]; exact r2
   ·exact hc.mono' (q:=t) (r:=r) (by clear h; grind) (by omega)) (Q6 hxq t1)
  obtain ⟨a,b,ha,hb,hab⟩:=hv (ev p r) (by clear h; grind);obtain ⟨m,hm1,hm2,hm3⟩:∃ m,c m=1/\a<=m/\r<=m:=by
   rcases Uy a r with e | e
   ·exact ⟨r,r2,e,Ql⟩
   ·exact ⟨a,ha,Ql,Qm e⟩
  have h1:=hab m hm2 (Qm (hc.lt hm1 hb));have h2:ev p r<=ev p m:=by
   rcases Classical.em (r=m) with e | e
   ·rw [e]; exact Ql
   ·exact Qm (Zcx (by clear h hab; grind) λt t1 t2=>h t (by
     rcases Classical.em (t=m) with e | e
     ·rw [e]; exact hm1
     ·exact hc.mono' (q:=t) (r:=m) (by clear h hab; grind) (by omega)) (by clear h hab; grind))
  rw [Qof] at h1;clear h hab; grind
 ·exact h0
theorem Q52 {c:Rat->Int} (hc:Cut c) {p:List Rat} {s:Int} (hv:Ls p c) (h:LS (Mb p) c s) (hs:s≠0):LS p c (-s):=by
 obtain ⟨x,hx,h⟩:=h;have hsv:s=1\/s=-1:=by
  have:=h x hx Ql;rcases Ff (ev (Mb p) x) with ⟨e,_⟩ | ⟨e,_⟩ | ⟨e,_⟩ <;> omega
 rcases hsv with rfl | rfl
 ·refine ⟨x,hx,λq h1 h2=>Tc.2 (Zet hc hv hx (λq h1 h2=>?_) q h1 h2)⟩;rw [<-Hl]; exact G9.1 (h q h1 h2)
 ·refine ⟨x,hx,λq h1 h2=>G9.2 ?_⟩;have:=Zet hc (p:=Pm (-1) p) (x:=x) (λd dp=>Qgj (hv d dp) λq hq=>by rw [Uw,show -1*ev p q=-ev p q by grind,Cn]; exact hq) hx (λq h1 h2=>by
   rw [Qdu,<-Hl];have:=Tc.1 (h q h1 h2); grind) q h1 h2
  rw [Uw] at this; grind
theorem Zc7 {c:Rat->Int} (hc:Cut c) {f g:List Rat} {l:List (List Rat)} (h:SCl f g l):Ls f c->Ls g c->False:=by
 induction h with
 |
  @base f g k hk hg =>
  intro _ hv;obtain ⟨q,hq,_⟩:=Qq9 hc (hv (Uk k) (M5 hk));rw [hg] at hq; grind
 |
  @step f g h l a b q ha hb he hl ih =>
  intro hf hg;refine ih hg ?_;have h1:Ls (Fo q g) c:=Si hc (p:=g) (q:=q) (λt=>by rw [Ui]; grind) hg;have h2:Ls (Pm (-a) f) c:=Si hc (p:=f) (q:=[-a]) (λt=>by rw [Uw]; simp only [ev]; grind) hf;have h3:Ls (Hx (Fo q g) (Pm (-a) f)) c:=Qgx (λt=>U5 t _ _) h1 h2;refine Si hc (p:=Hx (Fo q g) (Pm (-a) f)) (q:=[1 / b]) (λt=>?_) h3;have:=he t;rw [U5,Ui,Uw];simp only [ev];have hbb:1 / b*b=1:=Fb hb;have:ev q t*ev g t+-a*ev f t=b*ev h t:=by rw [show -a*ev f t=-(a*ev f t) by grind,he t]; grind
  rw [this];have:b*ev h t*(1 / b+t*0)=ev h t*(1 / b*b):=by grind
  rw [this,hbb]; grind
theorem Qmb {c:Rat->Int} (hc:Cut c) {f g:List Rat} {k:Rat} (h:∀ t,ev g t=k*ev f t) (hv:Ls f c):Ls g c :=
 Si hc (p:=f) (q:=[k]) (λt=>by rw [h]; simp only [ev]; grind) hv
theorem Zdh {c:Rat->Int} (hc:Cut c) {f:List Rat} {L:List (List Rat)} (h:Stm f L) (hv:Ls f c):∃ s,s≠0/\NZ (Mb f) c s:=by
 rcases Oj hc (Mb f) with h1 | h1
 ·exfalso;rcases h with ⟨k,hk,hf,_⟩ | ⟨g,l,k,hk,hg,h,_⟩
  ·obtain ⟨q,hq,_⟩:=Qq9 hc (hv (Uk k) (M5 hk));rw [hf] at hq; grind
  ·exact Zc7 hc h hv (Qmb hc (λt=>by rw [hg,Hl]) h1)
 ·exact h1
theorem Qxb {c:Rat->Int} (hc:Cut c) {f w u:List Rat} {L:List (List Rat)} (h:Stm f L) (hf:∀ t,ev f t=ev w t*ev u t) (hv:Ls w c):∃ s,s≠0/\NZ (Mb w) c s:=by
 rcases Oj hc (Mb w) with h1 | h1
 ·exfalso;obtain ⟨s,_,hs⟩:=Zdh hc h (Si hc hf hv);refine Zh4 hc ?_ hs;have a1:Ls (Fo (Mb w) u) c:=Si hc (λt=>Ui t _ _) h1;have a2:Ls (Fo w (Mb u)) c:=Si hc (λt=>Ui t _ _) hv;refine Qgx (λt=>?_) a1 a2;rw [Hl,E7 hf,Ui,Ui,Hl,Hl]
 ·exact h1
theorem Q4c {c:Rat->Int} (hc:Cut c) {q:Rat} (h:c q=0) {x y:Rat} (hx:c x=1) (hy:c y=-1):x<=q/\q<=y:=by
 constructor
 ·rcases Uy x q with e | e
  ·exact e
  ·have:=hc.mono q x e (by omega); omega
 ·rcases Uy q y with e | e
  ·exact e
  ·have:=hc.mono y q e (by omega); omega
theorem Qey {c:Rat->Int} (hc:Cut c) {p:List Rat} {q:Rat} (h:c q=0) (hv:Ls p c):ev p q=0:=by
 rcases Classical.em (ev p q=0) with e | e
 ·exact e
 ·obtain ⟨x,y,hx,hy,hq⟩:=hv _ (M5 e);obtain ⟨h1,h2⟩:=Q4c hc h hx hy;have:=hq q h1 h2; grind
theorem Qrd {c:Rat->Int} (hc:Cut c) {p:List Rat} {q:Rat} {s:Int} (h:c q=0) (hv:NZ p c s):Uo (ev p q)=s:=by
 obtain ⟨d,dp,x,y,hx,hy,hq⟩:=hv;obtain ⟨h1,h2⟩:=Q4c hc h hx hy;exact (hq q h1 h2).1
theorem Qtv {c:Rat->Int} (hc:Cut c) {y z:Rat} (hy:c y=-1) (hz:c z=-1):∃ q,c q=-1/\q<y/\q<z:=by
 obtain ⟨a,a1,a2⟩:=hc.dn y hy;obtain ⟨b,b1,b2⟩:=hc.dn z hz;rcases Uy a b with e | e
 ·exact ⟨a,a2,a1,by grind⟩
 ·exact ⟨b,b2,by grind,b1⟩
theorem Qhk {c:Rat->Int} (hc:Cut c) {y z:Rat} (hy:c y=1) (hz:c z=1):∃ q,c q=1/\y<q/\z<q:=by
 obtain ⟨a,a1,a2⟩:=hc.up y hy;obtain ⟨b,b1,b2⟩:=hc.up z hz;rcases Uy a b with e | e
 ·exact ⟨b,b2,by grind,b1⟩
 ·exact ⟨a,a2,a1,by grind⟩
theorem Q6d {f w u:List Rat} {L:List (List Rat)} (h:Stm f L) (hf:∀ t,ev f t=ev w t*ev u t) {x y:Rat} (hv:vv L x=vv L y) {c:Rat->Int} (hc:Cut c) (hx:c x=1) (hy:c y≠1):¬Ls w c:=λhw=>by
 have hxy:x<y:=by
  rcases Uy y x with e | e
  ·rcases Classical.em (y=x) with e' | e'
   ·rw [e'] at hy; exact absurd hx hy
   ·have:=hc.mono y x (by grind) hy; omega
  ·exact e
 have hwv:=Qaw h hf hxy hv;rcases hc.val y with e | e | e
 ·exact hy e
 ·have:=Qey hc e hw;have:=hwv.s;rw [Fa.2 (by assumption)] at this;exact hwv.n this.symm
 ·obtain ⟨s,hs,hd⟩:=Qxb hc h hf hw;obtain ⟨a,ha,hal⟩:=Q52 hc hw (Qx6 hc hd) hs;obtain ⟨b,hb,hbr⟩:=Qol hc hw (Qlw hc hd) hs;obtain ⟨q,q1,q2,q3⟩:=Qhk hc hx ha;obtain ⟨r,r1,r2,r3⟩:=Qtv hc hb e;have e1:=hal q q1 (Qm q3);have e2:=hbr r r1 (Qm r2);have hqr:=hc.lt q1 r1;have v1:vv L q<=vv L x:=Dv h q2;have v2:vv L y<=vv L r:=Dv h r3;have v3:vv L r<=vv L q:=Dv h hqr;have s1:=(Qaw h hf q2 (by omega)).s;have s2:=(Qaw h hf (x:=x) (y:=r) (by grind) (by omega)).s;omega
theorem Qoy {f:List Rat} {L:List (List Rat)} (h:Stm f L) {x y:Rat} (hxy:x<y) (hv:vv L x≠vv L y) {d:Rat} (dp:0<d):∃ q,x<=q/\q<=y/\Uk (ev f q)<d:=by
 obtain ⟨R,hR,hx,hy⟩:=Qme x y;obtain ⟨e1,e1p,hl⟩:=loc hR h (w:=f) (u:=[1]) (λt=>by rw [Hp]; grind);obtain ⟨e2,e2p,_,e2b⟩:=Ga (Sp hR f) dp;obtain ⟨e,ep,h1,h2⟩:=min2 e1p e2p;have key:∀ n:Nat,∀ x,Uk x<=R->x<y->vv L x≠vv L y->y-x<=(n:Rat)*e->∃ q,x<=q/\q<=y/\Uk (ev f q)<d:=by
  intro n
  induction n with
  | zero=>intro x hx hxy _ hn; rw [show ((0:Nat):Rat)=0 from rfl] at hn; exfalso; clear hl; grind
  |
   succ n ih =>
   intro x hx hxy hv hn;have hstep:∀ z,Uk z<=R->x<z->z-x<=e->vv L x≠vv L z->Uk (ev f z)<d:=λz hz hxz hze hv=>by
    rcases hl x z hx hz hxz (Q6 hze h1) with ⟨p,_⟩ | ⟨_,p1,p2,p3,p4⟩
    ·exact absurd p hv
    ·have hd:=Ss (p:=f) hx hz hR (e:=e2) (d:=d) (by rw [Rh]; clear hl ih; constructor <;> grind) e2b;rw [<-p3] at p1 p4;clear hl ih p2 p3;rw [Qof] at *;rcases Ff (ev f x) with ⟨a,a'⟩ | ⟨a,a'⟩ | ⟨a,a'⟩ <;> rcases Ff (ev f z) with ⟨b,b'⟩ | ⟨b,b'⟩ | ⟨b,b'⟩ <;> rw [a,b] at p4 <;> first | (exfalso; revert p4; decide) | skip
     all_goals first | (constructor <;> grind) | (exfalso; omega)
   rcases Uy (y-x) e with h3 | h3
   ·exact ⟨y,Qm hxy,Ql,hstep y hy hxy h3 hv⟩
   ·have hm:Uk (x+e)<=R:=Qb9 hx hy (by clear hl ih hstep; grind) (by clear hl ih hstep; grind);rcases Classical.em (vv L x=vv L (x+e)) with e0 | e0
    ·have hn':(((n+1:Nat):Rat))=(n:Rat)+1:=by push_cast; rfl
     rw [hn'] at hn;obtain ⟨q,q1,q2,q3⟩:=ih (x+e) hm (by clear hl ih hstep; grind) (by omega) (by clear hl ih hstep; grind);exact ⟨q,by clear hl ih hstep; grind,q2,q3⟩
    ·exact ⟨x+e,by clear hl ih hstep; grind,by clear hl ih hstep; grind,hstep (x+e) hm (by clear hl ih hstep; grind) (by clear hl ih hstep; grind) e0⟩
 obtain ⟨n,hn⟩:=Ic (z:=y-x) ep;exact key n x hx hxy hv hn
theorem Zji {p:List Rat} {x:Rat} (h:Td p x≠0):∃ e:Rat,0<e/\∀ y,x<y->y-x<=e->Uo (ev p y)=Td p x:=by
 by_cases h0:Uo (ev p x)=0
 ·have hx:=Fa.1 h0;rw [Quj h0] at h ⊢;have hR:0<=Uk x+1:=by have:=Gj x; grind
  obtain ⟨e,e1,e2,e3⟩:=Ga (Qhm hR p) (M5 (x:=dv p x) λh'=>h (Fa.2 h'));refine ⟨e,e1,λy h1 h2=>?_⟩;have hy:Uk y<=Uk x+1:=by
   have:=Rp x (y-x);have e:x+(y-x)=y:=by grind
   have e':Uk (y-x)=y-x:=by unfold Uk; split <;> grind
   rw [e,e'] at this; grind
  have:=Qim (p:=p) (by grind) hy hR h1 h2 Ql e3;rw [hx] at this;rw [<-this]; congr 1; grind
 ·rw [Dk h0] at h ⊢;obtain ⟨e,e1,e2⟩:=cont h;exact ⟨e,e1,λy h1 h2=>e2 y (by rw [Rh]; constructor <;> grind)⟩
def cq (P:List Rat) (lo hi q:Rat):Int:=if q<=lo then 1 else if hi<q then -1 else if Uo (ev P q)=0 then 0 else if Uo (ev P q)=Td P lo then 1 else -1
structure Vt (P:List Rat) (L:List (List Rat)) (lo hi:Rat):Prop where
 s:Stm P L
 l:lo<hi
 v:vv L lo=vv L hi+1
variable {P:List Rat} {L:List (List Rat)} {lo hi:Rat}
theorem Ni {q:Rat} (h:q<=lo):cq P lo hi q=1:=by unfold cq; rw [if_pos h]
theorem A1 {q:Rat} (h:lo<hi) (h':hi<q):cq P lo hi q=-1:=by unfold cq; rw [if_neg (by grind),if_pos h']
theorem Mn {q:Rat} (h1:lo<q) (h2:q<=hi):cq P lo hi q=if Uo (ev P q)=0 then 0 else if Uo (ev P q)=Td P lo then 1 else -1:=by
 unfold cq; rw [if_neg (by grind),if_neg (by grind)]
theorem Vt.two (V:Vt P L lo hi) {q:Rat} (h1:lo<q) (h2:q<=hi):vv L q=vv L lo/\cq P lo hi q=1/\Uo (ev P q)=Td P lo\/vv L q=vv L hi/\cq P lo hi q≠1/\Td P q=-Td P lo/\Td P lo≠0:=by
 have a:=Dv V.s h1;have b:vv L hi<=vv L q:=by
  rcases Classical.em (q=hi) with e | e
  ·rw [e]; exact Qk _
  ·exact Dv V.s (by grind)
 have hv:=V.v;rcases (show vv L q=vv L lo\/vv L q=vv L hi by omega) with e | e
 ·have hs:=Qo6 V.s h1 e.symm;refine .inl ⟨e,?_,hs.s⟩;rw [Mn h1 h2,hs.s,if_neg hs.n,if_pos rfl]
 ·obtain ⟨o1,o2⟩:=Qo5 V.s h1 (by omega);refine .inr ⟨e,?_,o2,o1⟩;rw [Mn h1 h2]
  split
  ·decide
  ·rename_i h0;rw [Dk h0] at o2;rw [if_neg (by omega)]; decide
theorem Vt.lowlo (V:Vt P L lo hi):Td P lo≠0:=(Qo5 V.s V.l V.v).1
theorem Vt.eq_lo (V:Vt P L lo hi) {q:Rat} (h1:lo<q) (h2:q<=hi) (h:cq P lo hi q=1):vv L q=vv L lo:=by
 rcases V.two h1 h2 with ⟨e,_⟩ | ⟨_,e,_⟩
 ·exact e
 ·exact absurd h e
theorem Vt.eq_hi (V:Vt P L lo hi) {q:Rat} (h1:lo<q) (h2:q<=hi) (h:cq P lo hi q≠1):vv L q=vv L hi:=by
 rcases V.two h1 h2 with ⟨_,e,_⟩ | ⟨e,_⟩
 ·exact absurd e h
 ·exact e
theorem Vt.hi1 (V:Vt P L lo hi):cq P lo hi hi≠1:=λh=>by have:=V.eq_lo V.l Ql h; have:=V.v; omega
theorem Vt.cut (V:Vt P L lo hi):Cut (cq P lo hi) where
 val q:=by unfold cq; split <;> (try split) <;> (try split) <;> (try split) <;> simp
 mono q r h h1:=by
  have hq:lo<q:=by
   rcases Uy q lo with e | e
   ·exact absurd (Ni e) h1
   ·exact e
  rcases Uy r hi with e | e
  ·have e1:=V.eq_hi hq (by grind) h1;rcases V.two (q:=r) (by grind) e with ⟨e2,_⟩ | ⟨e2,_,e3,e4⟩
   ·have:=Dv V.s h; have:=V.v; omega
   ·have hs:=Qo6 V.s h (by omega);rcases V.two hq (by grind) with ⟨e5,_⟩ | ⟨_,_,e5,_⟩
    ·have:=V.v; omega
    ·rw [Mn (by grind) e,hs.s,if_neg hs.n,e5,if_neg (by omega)]
  ·exact A1 V.l e
 up q h:=by
  rcases Uy q lo with e | e
  ·obtain ⟨d,dp,hd⟩:=Zji V.lowlo;obtain ⟨f,fp,f1,f2⟩:=min2 (a:=d) (b:=hi-lo) dp (by have:=V.l; grind);have h1:lo<lo+f:=by clear hd; grind
   have h2:lo+f<=hi:=by clear hd; grind
   have:=hd (lo+f) h1 (by clear hd; grind);exact ⟨lo+f,by clear hd; grind,by rw [Mn h1 h2,this,if_neg V.lowlo,if_pos rfl]⟩
  ·have hh:q<=hi:=by
    rcases Uy q hi with e' | e'
    ·exact e'
    ·have:=A1 (P:=P) V.l e'; omega
   rcases V.two e hh with ⟨e1,_,e2⟩ | ⟨_,e1,_⟩
   ·have hn:q≠hi:=λh=>by rw [h] at e1; have:=V.v; omega
    obtain ⟨d,dp,hd⟩:=cont (p:=P) (x:=q) (by rw [e2]; exact V.lowlo);obtain ⟨f,fp,f1,f2⟩:=min2 (a:=d) (b:=hi-q) dp (by clear hd; grind);have:=hd (q+f) (by rw [Rh]; clear hd; constructor <;> grind);exact ⟨q+f,by clear hd; grind,by rw [Mn (by clear hd; grind) (by clear hd; grind),this,e2,if_neg V.lowlo,if_pos rfl]⟩
   ·exact absurd h e1
 dn q h:=by
  have hq:lo<q:=by
   rcases Uy q lo with e | e
   ·have:=Ni (P:=P) (hi:=hi) e; omega
   ·exact e
  rcases Uy q hi with e | e
  ·rw [Mn hq e] at h
   split at h
   ·cases h
   rename_i h0
   split at h
   ·cases h
   rename_i h1;obtain ⟨d,dp,hd⟩:=cont h0;obtain ⟨f,fp,f1,f2⟩:=min2 (a:=d) (b:=(q-lo) / 2) dp (Nu (by clear hd; grind) (by decide));have h2:(q-lo) / 2*2=q-lo:=Fb (by decide);have:=hd (q-f) (by rw [Rh]; clear hd; constructor <;> grind);exact ⟨q-f,by clear hd; grind,by rw [Mn (by clear hd; grind) (by clear hd; grind),this,if_neg h0,if_neg h1]⟩
  ·have h2:(q-hi) / 2*2=q-hi:=Fb (by decide);exact ⟨q-(q-hi) / 2,by grind,A1 V.l (by grind)⟩
 lo:=⟨lo,Ni Ql⟩
 hi:=⟨hi+1,A1 V.l (by grind)⟩
theorem Vt.van (V:Vt P L lo hi):Ls P (cq P lo hi):=by
 have hc:=V.cut;rcases Oj hc P with h | ⟨s,hs,h⟩
 ·exact h
 ·exfalso;have e1:s=Td P lo:=by
   obtain ⟨x,hx,hx1⟩:=Qx6 hc h;obtain ⟨q,q1,q2,q3⟩:=Qhk hc hx (Ni (P:=P) (hi:=hi) (Ql (a:=lo)));have hq:q<=hi:=by
    rcases Uy q hi with e | e
    ·exact e
    ·have:=A1 (P:=P) V.l e; omega
   rcases V.two q3 hq with ⟨_,_,e⟩ | ⟨_,e,_⟩
   ·rw [<-hx1 q q1 (Qm q2),e]
   ·exact absurd q1 e
  rcases hc.val hi with e | e | e
  ·exact V.hi1 e
  ·have h0:=Qrd hc e h;rw [Mn V.l Ql] at e
   split at e
   ·omega
   ·split at e <;> omega
  ·obtain ⟨y,hy,hy1⟩:=Qlw hc h;obtain ⟨q,q1,q2,q3⟩:=Qtv hc hy e;have hq:lo<q:=hc.lt (Ni (P:=P) (hi:=hi) (Ql (a:=lo))) q1;have:=hy1 q q1 (Qm q2);rw [Mn hq (Qm q3),this,if_neg hs,if_pos e1] at q1;cases q1
def Qua (w:List Rat) (lo hi:Rat):Prop:=Uo (ev w hi)=0\/Uo (ev w hi)≠Td w lo
theorem Vt.has (V:Vt P L lo hi) {w u:List Rat} (hf:∀ t,ev P t=ev w t*ev u t) {a b:Rat} (h1:lo<=a) (h2:a<b) (h3:b<=hi):Qua w a b↔Ls w (cq P lo hi)/\cq P lo hi a=1/\cq P lo hi b≠1:=by
 have hc:=V.cut;have smno:vv L a=vv L b->¬Qua w a b:=λh hh=>by
  have:=Qaw V.s hf h2 h;rcases hh with e | e
  ·rw [this.s] at e; exact this.n e
  ·exact e this.s
 by_cases ha:cq P lo hi a=1
 ·by_cases hb:cq P lo hi b=1
  ·have e1:=V.eq_lo (by grind) h3 hb;have e2:vv L a=vv L lo:=by
    rcases Classical.em (lo=a) with e | e
    ·rw [e]
    ·exact V.eq_lo (by grind) (by grind) ha
   exact ⟨λh=>absurd h (smno (by omega)),λh=>absurd hb h.2.2⟩
  ·have e1:=V.eq_hi (by grind) h3 hb;have e2:vv L a=vv L lo:=by
    rcases Classical.em (lo=a) with e | e
    ·rw [e]
    ·exact V.eq_lo (by grind) (by grind) ha
   have left:∀ s,LS w (cq P lo hi) s->s=Td w a:=λs hs=>by
    obtain ⟨x,hx,hx1⟩:=hs;obtain ⟨q,q1,q2,q3⟩:=Qhk hc hx ha;have hqb:q<b:=by
     rcases Uy b q with e | e
     ·rcases Classical.em (b=q) with e' | e'
      ·rw [e'] at hb; exact absurd q1 hb
      ·have:=hc.mono b q (by clear hx1 smno; grind) hb; omega
     ·exact e
    have:=V.eq_lo (q:=q) (by clear hx1 smno; grind) (by clear hx1 smno; grind) q1;rw [<-(Qaw V.s hf q3 (by omega)).s,hx1 q q1 (Qm q2)]
   have right:∀ s,RS w (cq P lo hi) s->cq P lo hi b=-1->s=Uo (ev w b):=λs hs hb=>by
    obtain ⟨y,hy,hy1⟩:=hs;obtain ⟨q,q1,q2,q3⟩:=Qtv hc hy hb;have hqa:=hc.lt ha q1;have:=V.eq_hi (q:=q) (by clear hy1 smno; grind) (by clear hy1 smno; grind) (by omega);have hs:=Qaw V.s hf q3 (by omega);have hl:=hy1 q q1 (Qm q2);have h0:Uo (ev w q)≠0:=by
     have hs2:=Qaw V.s hf (x:=q) (y:=b) q3 (by omega);intro h0;obtain ⟨r,r1,r2⟩:=hc.dn q q1;have har:=hc.lt ha r2;have:=V.eq_hi (q:=r) (by clear hy1 smno; grind) (by clear hy1 smno; grind) (by omega);have hs3:=Qaw V.s hf (x:=r) (y:=q) r1 (by omega);have hs4:=hs3.s;rw [h0] at hs4; exact hs3.n hs4.symm
    rw [hs.s,Dk h0,hl]
   refine ⟨λh=>⟨?_,ha,hb⟩,λ⟨hw,_,_⟩=>?_⟩
   ·rcases Oj hc w with e | ⟨s,hs0,hs⟩
    ·exact e
    ·exfalso;have l1:=left s (Qx6 hc hs);have r1:Uo (ev w b)=s:=by
      rcases hc.val b with e | e | e
      ·exact absurd e hb
      ·exact Qrd hc e hs
      ·exact (right s (Qlw hc hs) e).symm
     rcases h with h | h
     ·exact hs0 (by rw [<-r1]; exact h)
     ·exact h (by rw [r1,l1])
   ·rcases hc.val b with e | e | e
    ·exact absurd e hb
    ·exact .inl (Fa.2 (Qey hc e hw))
    ·obtain ⟨s,hs0,hs⟩:=Qxb hc V.s hf hw;have l1:=left _ (Q52 hc hw (Qx6 hc hs) hs0);have r1:=right _ (Qol hc hw (Qlw hc hs) hs0) e;exact .inr (by rw [<-l1,<-r1]; omega)
 ·have hla:lo<a:=by
   rcases Classical.em (lo=a) with e | e
   ·rw [<-e] at ha; exact absurd (Ni Ql) ha
   ·grind
  have hb:cq P lo hi b≠1:=by have:=hc.mono a b h2 ha; omega
  have e1:=V.eq_hi hla (by grind) ha;have e2:=V.eq_hi (q:=b) (by grind) h3 hb;exact ⟨λh=>absurd h (smno (by omega)),λh=>absurd h.2.1 ha⟩
theorem Qp1 {c c':Rat->Int} (hc:Cut c) (hc':Cut c') {q:Rat} (h:c q≠c' q):∃ r,(c r=-1/\c' r=1)\/(c r=1/\c' r=-1):=by
 rcases hc.val q with e | e | e <;> rcases hc'.val q with e' | e' | e'
 ·omega
 ·obtain ⟨r,r1,r2⟩:=hc.up q e;exact ⟨r,.inr ⟨r2,hc'.mono q r r1 (by omega)⟩⟩
 ·exact ⟨q,.inr ⟨e,e'⟩⟩
 ·obtain ⟨r,r1,r2⟩:=hc'.up q e';exact ⟨r,.inl ⟨hc.mono q r r1 (by omega),r2⟩⟩
 ·omega
 ·obtain ⟨r,r1,r2⟩:=hc'.dn q e';exact ⟨r,.inr ⟨hc.mono' r1 (by omega),r2⟩⟩
 ·exact ⟨q,.inl ⟨e,e'⟩⟩
 ·obtain ⟨r,r1,r2⟩:=hc.dn q e;exact ⟨r,.inl ⟨r2,hc'.mono' r1 (by omega)⟩⟩
 ·omega
theorem Vt.uniq (V:Vt P L lo hi) {c:Rat->Int} (hc:Cut c) (h1:c lo=1) (h2:c hi≠1) (hv:Ls P c) (q:Rat):c q=cq P lo hi q:=by
 rcases Classical.em (c q=cq P lo hi q) with e | e
 ·exact e
 ·exfalso;obtain ⟨r,⟨r1,r2⟩ | ⟨r1,r2⟩⟩:=Qp1 hc V.cut e
  ·have hl:=hc.lt h1 r1;have hh:r<=hi:=by
    rcases Uy r hi with e | e
    ·exact e
    ·have:=A1 (P:=P) V.l e; omega
   have:=V.eq_lo hl hh r2;exact Q6d V.s (w:=P) (u:=[1]) (λt=>by rw [Hp]; grind) (x:=lo) (y:=r) (by omega) hc h1 (by omega) hv
  ·have hl:lo<r:=by
    rcases Uy r lo with e | e
    ·have:=Ni (P:=P) (hi:=hi) e; omega
    ·exact e
   have hh:r<=hi:=by
    rcases Uy r hi with e | e
    ·exact e
    ·have:=hc.mono hi r e h2; omega
   have:=V.eq_hi hl hh (by omega);exact Q6d V.s (w:=P) (u:=[1]) (λt=>by rw [Hp]; grind) (x:=r) (y:=hi) (by omega) hc r1 h2 hv
theorem Vt.same (V:Vt P L lo hi) {P':List Rat} {L':List (List Rat)} {lo' hi':Rat} (V':Vt P' L' lo' hi') {g u u' U W:List Rat} {k:Rat} (hk:k≠0) (h1:∀ t,ev P t=ev g t*ev u t) (h2:∀ t,ev P' t=ev g t*ev u' t) (h3:∀ t,k*ev g t=ev U t*ev P t+ev W t*ev P' t) {a b:Rat} (ha1:lo<=a) (ha2:lo'<=a) (ha:a=lo\/a=lo') (hb1:b<=hi) (hb2:b<=hi') (hb:b=hi\/b=hi'):(a<b/\Qua g a b)↔∀ q,cq P lo hi q=cq P' lo' hi' q:=by
 have hc:=V.cut;have hc':=V'.cut;constructor
 ·rintro ⟨hab,hg⟩
  obtain ⟨g1,g2,g3⟩:=(V.has h1 ha1 hab hb1).1 hg;obtain ⟨g4,g5,g6⟩:=(V'.has h2 ha2 hab hb2).1 hg;intro q;refine (V.uniq hc' (by
   rcases Classical.em (lo=a) with e | e
   ·rw [e]; exact g5
   ·exact hc'.mono' (q:=lo) (r:=a) (by grind) (by omega)) (λh=>?_) (Si hc' h1 g4) q).symm
  rcases Classical.em (b=hi) with e | e
  ·rw [<-e] at h; exact g6 h
  ·have:=hc'.mono b hi (by grind) g6; omega
 ·intro h;have hcc:cq P' lo' hi'=cq P lo hi:=funext λq=>(h q).symm
  have e1:cq P lo hi a=1:=by
   rcases ha with rfl | rfl
   ·exact Ni Ql
   ·rw [h]; exact Ni Ql
  have e2:cq P lo hi b≠1:=by
   rcases hb with rfl | rfl
   ·exact V.hi1
   ·rw [h]; exact V'.hi1
  have hab:a<b:=by
   rcases Uy b a with e | e
   ·rcases Classical.em (b=a) with e' | e'
    ·rw [e'] at e2; exact absurd e1 e2
    ·have:=hc.mono b a (by grind) e2; omega
   ·exact e
  have v1:=V.van;have v2:=V'.van;rw [hcc] at v2;have hg:Ls g (cq P lo hi):=by
   have a1:Ls (Fo U P) (cq P lo hi):=Si hc (p:=P) (q:=U) (λt=>by rw [Ui]; grind) v1;have a2:Ls (Fo W P') (cq P lo hi):=Si hc (p:=P') (q:=W) (λt=>by rw [Ui]; grind) v2;have a3:=Qgx (λt=>U5 t _ _) a1 a2;refine Qmb hc (k:=1 / k) (λt=>?_) a3;rw [U5,Ui,Ui,<-h3];have:1 / k*(k*ev g t)=1 / k*k*ev g t:=by grind
   rw [this,show 1 / k*k=1 from Zh hk]; grind
  exact ⟨hab,(V.has h1 ha1 hab hb1).2 ⟨hg,e1,e2⟩⟩
end Orq
namespace Orq
theorem Q6r:∀ (M:Nat) (f:Nat->Nat),(∀ i,i<=M->f i<M)->∃ i j,i<j/\j<=M/\f i=f j
 | 0,f,h=>absurd (h 0 (Qk _)) (W4 _)
 |
  M+1,f,h=>by
  rcases Classical.em (∃ i,i<=M/\f i=f (M+1)) with ⟨i,h1,h2⟩ | hn
  ·exact ⟨i,M+1,by omega,Qk _,h2⟩
  ·have hne:∀ i,i<=M->f i≠f (M+1):=λi hi e=>hn ⟨i,hi,e⟩
   obtain ⟨i,j,h1,h2,h3⟩:=Q6r M (λi=>if f i=M then f (M+1) else f i) λi hi=>by
    have a1:=h i (by omega);have a2:=h (M+1) (Qk _);have a3:=hne i hi;show (if f i=M then f (M+1) else f i)<M
    split <;> omega
   refine ⟨i,j,h1,by omega,?_⟩;have a1:=hne i (by omega);have a2:=hne j h2
   split at h3 <;> split at h3 <;> omega
def dg (B k i:Nat):Nat:=k / B^i % B
theorem Qw9 (B k i:Nat):dg B k (i+1)=dg B (k / B) i:=by unfold dg; rw [Nat.pow_succ,Nat.mul_comm,Nat.div_div_eq_div_mul]
theorem Q4g {B:Nat}:∀ (N:Nat) {k k':Nat},k<B^N->k'<B^N->(∀ i,i<N->dg B k i=dg B k' i)->k=k'
 | 0,k,k',h,h',_=>by rw [Yw] at h h'; omega
 |
  N+1,k,k',h,h',he=>by
  have h0:=he 0 (by omega);unfold dg at h0;rw [Yw,Nat.div_one,Nat.div_one] at h0;have hB:0<B:=by
   rcases Qx B with e | e
   ·rw [e,Zj,Yo] at h; omega
   ·exact e
  have h1:=Q4g N (k:=k / B) (k':=k' / B) (Ja (by rw [Zd,<-Zj]; exact h)) (Ja (by rw [Zd,<-Zj]; exact h')) λi hi=>by
   rw [<-Qw9,<-Qw9]; exact he (i+1) (by omega)
  rw [<-Wz k B,<-Wz k' B,h0,h1]
def cd (B:Nat):Nat->(Nat->Nat)->Nat
 | 0,_=>0
 | E+1,x=>x 0+B*cd B E λe=>x (e+1)
theorem Zeg {B:Nat}:∀ (E:Nat) {x:Nat->Nat},(∀ e,e<E->x e<B)->cd B E x<B^E
 | 0,_,_=>by simp [cd]
 |
  E+1,x,h=>by
  have h1:=h 0 (by omega);have h2:=Zeg E (x:=λe=>x (e+1)) λe he=>h (e+1) (by omega)
  simp only [cd];have h3:B*cd B E (λe=>x (e+1))+B<=B*B^E:=by
   rw [<-V7]; exact Zf _ h2
  rw [Zj,Zd (B^E)]; omega
theorem Q32 {B:Nat}:∀ (E:Nat) {x y:Nat->Nat},(∀ e,e<E->x e<B)->(∀ e,e<E->y e<B)->cd B E x=cd B E y->∀ e,e<E->x e=y e
 | 0,_,_,_,_,_,e,he=>by omega
 |
  E+1,x,y,hx,hy,h,e,he=>by
  have h1:=hx 0 (by omega);have h2:=hy 0 (by omega);simp only [cd] at h;have e0:x 0=y 0:=by
   have:=congrArg (· % B) h;simp only [V1] at this;rwa [X7 h1,X7 h2] at this
  have e1:cd B E (λe=>x (e+1))=cd B E (λe=>y (e+1)):=Nat.eq_of_mul_eq_mul_left (by omega:0<B) (by omega);cases e with
  | zero=>exact e0
  | succ e=>exact Q32 E (λe he=>hx (e+1) (by omega)) (λe he=>hy (e+1) (by omega)) e1 e (by omega)
def sm:Nat->(Nat->Int)->Int
 | 0,_=>0
 | n+1,f=>sm n f+f n
theorem Q8b (f g:Nat->Int):∀ n,sm n (λi=>f i-g i)=sm n f-sm n g
 | 0=>rfl
 | n+1=>by simp only [sm,Q8b f g n]; omega
theorem B5 {f g:Nat->Int}:∀ n,(∀ i,i<n->f i=g i)->sm n f=sm n g
 | 0,_=>rfl
 | n+1,h=>by simp only [sm,B5 n (λi hi=>h i (by omega)),h n (by omega)]
theorem Q8a {f:Nat->Int} {b:Nat}:∀ n,(∀ i,i<n->(f i).natAbs<=b)->(sm n f).natAbs<=n*b
 | 0,_=>by simp [sm]
 |
  n+1,h=>by
  have h1:=Q8a n λi hi=>h i (by omega)
  have h2:=h n (by omega);simp only [sm];rw [Xc]; omega
theorem Qac {f:Nat->Int}:∀ n,(∀ i,i<n->f i=0)->sm n f=0
 | 0,_=>rfl
 | n+1,h=>by simp only [sm,Qac n (λi hi=>h i (by omega)),h n (by omega)]; rfl
theorem Qvn (f:Nat->Int) (m:Nat):∀ n,sm (m+n) f=sm m f+sm n λi=>f (m+i)
 | 0=>by simp [sm]
 | n+1=>by rw [<-J5]; simp only [sm,Qvn f m n]; omega
theorem Qvo (f:Nat->Int) (J:Nat):∀ b,sm (b*J) f=sm b λi=>sm J λj=>f (i*J+j)
 | 0=>by simp [sm]
 | b+1=>by rw [Xc,Qvn,Qvo f J b]; rfl
theorem Qi7 {f:Nat->Int} {k:Nat}:∀ n,k<n->(∀ i,i<n->i≠k->f i=0)->sm n f=f k
 | 0,h,_=>by omega
 |
  n+1,h,h1=>by
  simp only [sm];rcases Y3 (Nat.le_of_lt_succ h) with e | e
  ·rw [Qi7 n e λi hi=>h1 i (by omega),h1 n (by omega) (by omega)]; omega
  ·subst e; rw [Qac k λi hi=>h1 i (by omega) (by omega)]; omega
theorem Zhl {M:Nat->Nat->Int} {h N E H:Nat} (hM:∀ e i,(M e i).natAbs<=h) (hc:(2*(N*(h*H))+1)^E<(H+1)^N) :
 ∃ v:Nat->Int,(∀ i,(v i).natAbs<=H)/\(∃ i,i<N/\v i≠0)/\∀ e,e<E->sm N (λi=>M e i*v i)=0:=by
 obtain ⟨T,hT⟩:=nmE (N*(h*H));rw [<-hT] at hc;have hv:∀ k i,dg (H+1) k i<=H:=λk i=>Nat.le_of_lt_succ (Xb _ (by omega))
 have hs:∀ k e,(sm N λi=>M e i*(dg (H+1) k i:Int)).natAbs<=T:=λk e=>by
  rw [hT];refine Q8a N λi _=>?_
  rw [Jt,Zx];exact Zt (hM e i) (hv k i)
 have him:∀ k e,((sm N λi=>M e i*(dg (H+1) k i:Int))+T).toNat<2*T+1:=λk e=>by have:=hs k e; omega
 obtain ⟨i,j,h1,h2,h3⟩:=Q6r ((2*T+1)^E) (λk=>cd (2*T+1) E λe=>((sm N λi=>M e i*(dg (H+1) k i:Int))+T).toNat) λk _=>Zeg E λe _=>him k e
 have h4:=Q32 E (λe _=>him i e) (λe _=>him j e) h3;refine ⟨λn=>(dg (H+1) i n:Int)-dg (H+1) j n,λn=>?_,?_,λe he=>?_⟩
 ·have a1:=hv i n;have a2:=hv j n;show ((dg (H+1) i n:Int)-dg (H+1) j n).natAbs<=H;omega
 ·rcases Classical.em (∃ n,n<N/\(dg (H+1) i n:Int)-dg (H+1) j n≠0) with e | e
  ·exact e
  ·exfalso;have:i=j:=Q4g (B:=H+1) N (by omega) (by omega) λn hn=>by
    rcases Classical.em (dg (H+1) i n=dg (H+1) j n) with e' | e'
    ·exact e'
    ·exact absurd ⟨n,hn,by omega⟩ e
   omega
 ·have a1:=h4 e he;have a2:=hs i e;have a3:=hs j e;have:(sm N λn=>M e n*(dg (H+1) i n:Int))=sm N λn=>M e n*(dg (H+1) j n:Int):=by omega
  have e1:=Q8b (λn=>M e n*(dg (H+1) i n:Int)) (λn=>M e n*(dg (H+1) j n:Int)) N;rw [this] at e1;rw [B5 N (g:=λn=>M e n*(dg (H+1) i n:Int)-M e n*(dg (H+1) j n:Int)) λn _=>Int.mul_sub _ _ _,e1]; omega
def Ug:List Int->Rat->Rat
 | [],_=>0
 | a::p,t=>(a:Rat)+t*Ug p t
def sq:Nat->(Nat->Rat)->Rat
 | 0,_=>0
 | n+1,f=>sq n f+f n
theorem Tp {f g:Nat->Rat}:∀ n,(∀ i,i<n->f i=g i)->sq n f=sq n g
 | 0,_=>rfl
 | n+1,h=>by simp only [sq,Tp n (λi hi=>h i (by omega)),h n (by omega)]
theorem Qvt (f g:Nat->Rat):∀ n,sq n (λi=>f i+g i)=sq n f+sq n g
 | 0=>by simp only [sq]; grind
 | n+1=>by simp only [sq,Qvt f g n]; grind
theorem Og (c:Rat) (f:Nat->Rat):∀ n,sq n (λi=>c*f i)=c*sq n f
 | 0=>by simp only [sq]; grind
 | n+1=>by simp only [sq,Og c f n]; grind
theorem M9 {f:Nat->Rat}:∀ n,(∀ i,i<n->f i=0)->sq n f=0
 | 0,_=>rfl
 | n+1,h=>by simp only [sq,M9 n (λi hi=>h i (by omega)),h n (by omega)]; grind
theorem Eo (f:Nat->Rat):∀ n,sq (n+1) f=f 0+sq n λi=>f (i+1)
 | 0=>by simp only [sq]; grind
 | n+1=>by rw [sq,Eo f n]; simp only [sq]; grind
theorem Ze3 {f:Nat->Rat} {b:Rat}:∀ n,(∀ i,i<n->Uk (f i)<=b)->Uk (sq n f)<=(n:Rat)*b
 | 0,_=>by rw [show ((0:Nat):Rat)=0 from rfl]; simp only [sq,G8]; grind
 |
  n+1,h=>by
  have h1:=Ze3 n λi hi=>h i (by omega)
  have h2:=h n (by omega);have h3:=Rp (sq n f) (f n);have hn':(((n+1:Nat):Rat))=(n:Rat)+1:=by push_cast; rfl
  rw [hn']; simp only [sq]; clear h; grind
def gc:List Int->Nat->Nat->Int
 | [],_,_=>0
 | c::B,k,j=>(if k=0/\j=0 then c else 0)+(if k=0 then 0 else gc B (k-1) j)-(if j=0 then 0 else gc B k (j-1))
def gB:List Int->Nat
 | []=>0
 | c::B=>max c.natAbs (2*gB B)
theorem Qgd:∀ (B:List Int) (k j:Nat),B.length<=k+j->gc B k j=0
 | [],_,_,_=>rfl
 |
  c::B,k,j,h=>by
  simp only [Q8] at h;simp only [gc];rw [if_neg (by omega)];have e1:(if k=0 then 0 else gc B (k-1) j)=0:=by
   split
   ·rfl
   ·exact Qgd B _ _ (by omega)
  have e2:(if j=0 then 0 else gc B k (j-1))=0:=by
   split
   ·rfl
   ·exact Qgd B _ _ (by omega)
  rw [e1,e2]; rfl
theorem Q49:∀ (B:List Int) (k j:Nat),(gc B k j).natAbs<=gB B
 | [],_,_=>Qi _
 |
  c::B,k,j=>by
  have h1:=Q49 B (k-1) j;have h2:=Q49 B k (j-1);simp only [gc,gB];by_cases hk:k=0 <;> by_cases hj:j=0 <;> simp only [hk,hj,true_and,and_true,false_and,and_false,if_true,if_false] <;> (try subst hk) <;> (try subst hj) <;> omega
theorem Q5a:∀ (B:List Int) (b:Nat),B.length=b+1->(gc B 0 b).natAbs=(B.getD b 0).natAbs
 | [],_,h=>by simp at h
 | [c],0,_=>by simp [gc]
 | c::d::B,0,h=>by simp at h
 |
  c::B,b+1,h=>by
  have ih:=Q5a B b (by simpa using h);simp only [gc];simp only [J6,Q0];rw [if_pos trivial,if_neg (Nat.succ_ne_zero b),<-ih]; omega
def E2 (F:Nat->Nat->Int) (K J:Nat) (x y:Rat):Rat:=sq K λk=>sq J λj=>(F k j:Rat)*(y^k*x^j)
theorem Qtz (F G:Nat->Nat->Int) (K J:Nat) (x y:Rat):E2 (λk j=>F k j+G k j) K J x y=E2 F K J x y+E2 G K J x y:=by
 unfold E2;rw [<-Qvt];refine Tp K λk _=>?_
 rw [<-Qvt];exact Tp J λj _=>by push_cast; grind
theorem Q4p (c:Int) (F:Nat->Nat->Int) (K J:Nat) (x y:Rat):E2 (λk j=>F k j*c) K J x y=(c:Rat)*E2 F K J x y:=by
 unfold E2;rw [<-Og];refine Tp K λk _=>?_
 rw [<-Og];exact Tp J λj _=>by push_cast; grind
theorem Q4q (φ:Nat->Nat->Nat->Int) (v:Nat->Int) (K J:Nat) (x y:Rat):∀ N,E2 (λk j=>sm N λn=>φ n k j*v n) K J x y=sq N λn=>(v n:Rat)*E2 (φ n) K J x y
 |
  0=>by
  simp only [sq,sm];unfold E2;refine M9 K λk _=>M9 J λj _=>?_
  rw [show ((0:Int):Rat)=0 from rfl]; grind
 |
  N+1=>by
  simp only [sq];rw [<-Q4q φ v K J x y N,<-Q4p,<-Qtz];rfl
theorem Qcu (t:Rat) (i:Nat):∀ k,t^(i+k)=t^i*t^k
 | 0=>by rw [Xw,Xd]; grind
 | k+1=>by rw [<-J5,Z9,Z9,Qcu t i k]; grind
theorem Qi8 (f:Nat->Rat):∀ (i n:Nat),sq (i+n) (λk=>if i<=k then f (k-i) else 0)=sq n f
 | i,0=>M9 _ λk hk=>by rw [if_neg (by omega)]
 |
  i,n+1=>by
  rw [<-J5]; simp only [sq];rw [Qi8 f i n,if_pos (by omega),Jk]
def shF (i j':Nat) (F:Nat->Nat->Int) (k j:Nat):Int:=if i<=k then (if j'<=j then F (k-i) (j-j') else 0) else 0
theorem Qhw (F:Nat->Nat->Int) (i j' K J:Nat) (x y:Rat):E2 (shF i j' F) (i+K) (j'+J) x y=y^i*x^j'*E2 F K J x y:=by
 unfold E2;rw [<-Og,<-Qi8 _ i K];refine Tp _ λk _=>?_
 by_cases hk:i<=k
 ·rw [if_pos hk,<-Og,<-Qi8 _ j' J];refine Tp _ λj _=>?_
  unfold shF;rw [if_pos hk];by_cases hj:j'<=j
  ·rw [if_pos hj,if_pos hj];have e1:y^k=y^i*y^(k-i):=by rw [<-Qcu]; congr 1; omega
   have e2:x^j=x^j'*x^(j-j'):=by rw [<-Qcu]; congr 1; omega
   rw [e1,e2]; grind
  ·rw [if_neg hj,if_neg hj,show ((0:Int):Rat)=0 from rfl]; grind
 ·rw [if_neg hk];refine M9 _ λj _=>?_
  unfold shF;rw [if_neg hk,show ((0:Int):Rat)=0 from rfl]; grind
def fA (A:List Int) (k j:Nat):Int:=if j=0 then A.getD k 0 else 0
theorem Q6q (y:Rat):∀ (A:List Int) (K:Nat),A.length<=K->sq K (λk=>((A.getD k 0:Int):Rat)*y^k)=Ug A y
 | [],K,_=>by rw [M9]; rfl; intro i _; simp
 | a::A,0,h=>by simp at h
 |
  a::A,K+1,h=>by
  have ih:=Q6q y A K (by simpa using h);rw [Eo];simp only [Ug,Zo,Q0,Xd];rw [<-ih,<-Og];have:(sq K λi=>((A.getD i 0:Int):Rat)*y^(i+1))=sq K λi=>y*(((A.getD i 0:Int):Rat)*y^i):=Tp K λi _=>by rw [Z9]; grind
  rw [this]; grind
theorem Zja (A:List Int) (K J:Nat) (x y:Rat) (h:A.length<=K):E2 (fA A) K (J+1) x y=Ug A y:=by
 rw [<-Q6q y A K h];refine Tp K λk _=>?_
 rw [Eo,M9]
 ·simp only [fA,if_true,Xd]; grind
 ·intro j _;simp only [fA];rw [if_neg (by omega),show ((0:Int):Rat)=0 from rfl]; grind
theorem Zgd (x y:Rat):∀ (B:List Int) (K J:Nat),B.length<=K->B.length<=J->E2 (gc B) K J x y=Ug B (y-x)
 |
  [],K,J,_,_=>by
  unfold E2;simp only [gc,Ug];exact M9 K λk _=>M9 J λj _=>by rw [show ((0:Int):Rat)=0 from rfl]; grind
 | c::B,0,J,h,_=>by simp at h
 | c::B,K+1,0,_,h=>by simp at h
 |
  c::B,K+1,J+1,h1,h2=>by
  have i1:=Zgd x y B K (J+1) (by simpa using h1) (by simp at h2; omega);have i2:=Zgd x y B (K+1) J (by simp at h1; omega) (by simpa using h2);have s1:=Qhw (gc B) 1 0 K (J+1) x y;have s2:=Qhw (gc B) 0 1 (K+1) J x y;rw [Z0,J3 1 K] at s1;rw [Z0,J3 1 J] at s2;rw [i1] at s1;rw [i2] at s2;have e0:E2 (fA [c]) (K+1) (J+1) x y=(c:Rat):=by rw [Zja [c] (K+1) J x y (by simp)]; simp only [Ug]; grind
  have e1:gc (c::B)=λk j=>(fA [c] k j+shF 1 0 (gc B) k j)+shF 0 1 (gc B) k j*(-1):=by
   funext k j;simp only [gc,fA,shF];by_cases hk:k=0 <;> by_cases hj:j=0
   ·subst hk; subst hj; simp
   ·subst hk; simp [hj,show 1<=j by omega]
    try omega
   ·subst hj;obtain ⟨m,rfl⟩:∃ m,k=m+1:=⟨k-1,by omega⟩;simp
   ·obtain ⟨m,rfl⟩:∃ m,k=m+1:=⟨k-1,by omega⟩;obtain ⟨i,rfl⟩:∃ i,j=i+1:=⟨j-1,by omega⟩;simp; omega
  rw [e1,Qtz (λk j=>fA [c] k j+shF 1 0 (gc B) k j) (λk j=>shF 0 1 (gc B) k j*(-1)),Qtz (fA [c]) (shF 1 0 (gc B)),Q4p,e0,s1,s2];simp only [Ug,Xd,show y^1=y by rw [Z9,Xd]; grind,show x^1=x by rw [Z9,Xd]; grind];rw [show (((-1:Int)):Rat)=-1 from rfl];grind
def phi (A B:List Int) (b J J' n k j:Nat):Int:=if n<b*J then shF (n / J) (n % J) (fA A) k j else shF ((n-b*J) / J') ((n-b*J) % J') (gc B) k j
theorem Q75 {F:Nat->Nat->Int} {h:Nat} (hF:∀ k j,(F k j).natAbs<=h) (i j' k j:Nat):(shF i j' F k j).natAbs<=h:=by
 unfold shF; split
 ·split
  ·exact hF _ _
  ·exact Qi _
 ·exact Qi _
theorem Zer {i b J j:Nat} (hi:i<b) (hj:j<J):i*J+j<b*J:=by
 have:(i+1)*J<=b*J:=Qw J hi;rw [Xc] at this; omega
theorem Qd8 {i J j:Nat} (hj:j<J):(i*J+j) / J=i/\(i*J+j) % J=j:=by
 rw [Zd,W0 (by omega),W3,Vo hj,X7 hj]; exact ⟨by omega,rfl⟩
theorem Ql4 (A B:List Int) (a b J J':Nat) (v:Nat->Int) (k j:Nat):sm (b*J+a*J') (λn=>phi A B b J J' n k j*v n) =
 (sm b λi=>sm J λj1=>shF i j1 (fA A) k j*v (i*J+j1))+sm a λi=>sm J' λj1=>shF i j1 (gc B) k j*v (b*J+(i*J'+j1)):=by
 rw [Qvn,Qvo,Qvo];congr 1
 ·refine B5 b λi hi=>B5 J λj1 hj=>?_
  unfold phi;rw [if_pos (Zer hi hj),(Qd8 hj).1,(Qd8 hj).2]
 ·refine B5 a λi hi=>B5 J' λj1 hj=>?_
  unfold phi;rw [if_neg (by omega),Jk,(Qd8 hj).1,(Qd8 hj).2]
theorem Zi3 (A:List Int) (v:Nat->Int) {i J k j:Nat} (hj:j<J):(sm J λj1=>shF i j1 (fA A) k j*v (i*J+j1))=if i<=k then A.getD (k-i) 0*v (i*J+j) else 0:=by
 rw [Qi7 (k:=j) J hj λj1 _ hne=>?_]
 ·unfold shF fA;by_cases h:i<=k
  ·rw [if_pos h,if_pos h,if_pos (Qk _),if_pos (Yb _)]
  ·rw [if_neg h,if_neg h,J1]
 ·unfold shF fA;by_cases h:i<=k
  ·rw [if_pos h];by_cases h':j1<=j
   ·rw [if_pos h',if_neg (by omega),J1]
   ·rw [if_neg h',J1]
  ·rw [if_neg h,J1]
section
variable {A B:List Int} {a b J J':Nat} (hA:A.length=a+1) (hB:B.length=b+1) (lA:A.getD a 0≠0) (lB:B.getD b 0≠0) (hJ:J=J'+b) {v:Nat->Int} (hW:∀ k j,k<a+b->j<J->sm (b*J+a*J') (λn=>phi A B b J J' n k j*v n)=0)
include hA lA hW in
theorem Zei {jj:Nat} (hj:jj<J) (hV:∀ k,a<=k->k<a+b->(sm a λi=>sm J' λj1=>shF i j1 (gc B) k jj*v (b*J+(i*J'+j1)))=0):∀ d i,i<b->b-i<=d->v (i*J+jj)=0:=by
 intro d
 induction d with
 | zero=>intro i hi hd; omega
 |
  succ d ih =>
  intro i hi hd;have h1:=hW (i+a) jj (by omega) hj;rw [Ql4,hV (i+a) (by omega) (by omega)] at h1;rw [B5 b (λi' hi'=>Zi3 A v hj)] at h1;rw [Qi7 (k:=i) b hi λi' hi' hne=>?_] at h1
  ·rw [if_pos (by omega),Jk,Int.add_zero] at h1;rcases J8.1 h1 with h2 | h2
   ·exact absurd h2 lA
   ·exact h2
  ·rcases Q5 i i' with h | h
   ·rw [ih i' hi' (by omega)]; simp
   ·rw [if_pos (by omega),Qg,Qr (by omega)]; simp
include hA hB lA lB hJ hW in
theorem Zi8:∀ d js,js<J'->J'-js<=d->∀ i,i<a->v (b*J+(i*J'+js))=0:=by
 intro d
 induction d with
 | zero=>intro js hi hd; omega
 |
  succ d ih =>
  intro js hjs hd i hi;have hin:∀ i' k,i'<a->(sm J' λj1=>shF i' j1 (gc B) k (js+b)*v (b*J+(i'*J'+j1)))=if i'=k then gc B 0 b*v (b*J+(i'*J'+js)) else 0:=λi' k hi'=>by
   rw [Qi7 (k:=js) J' hjs λj1 hj1 hne=>?_]
   ·unfold shF;by_cases h:i'<=k
    ·rw [if_pos h,if_pos (by omega),Jk];by_cases h':i'=k
     ·rw [if_pos h',h',Yb]
     ·rw [if_neg h',Qgd B _ _ (by omega),J1]
    ·rw [if_neg h,if_neg (by omega),J1]
   ·rcases Q5 js j1 with h | h
    ·rw [ih j1 hj1 (by omega) i' hi',Vg]
    ·unfold shF;by_cases h':i'<=k
     ·rw [if_pos h',if_pos (by omega),Qgd B _ _ (by omega),J1]
     ·rw [if_neg h',J1]
  have hU:=Zei hA lA hW (jj:=js+b) (by omega) (λk hk hk'=>Qac a λi' hi'=>by rw [hin i' k hi',if_neg (by omega)]) (b+1);have h1:=hW i (js+b) (by omega) (by omega);rw [Ql4,B5 a (λi' hi'=>hin i' i hi')] at h1;rw [Qac b λi' hi'=>by
   rw [Zi3 A v (by omega),hU i' hi' (by omega)]; simp] at h1
  rw [Qi7 (k:=i) a hi λi' hi' hne=>if_neg hne,if_pos rfl,Int.zero_add] at h1;rcases J8.1 h1 with h2 | h2
  ·have:=Q5a B b hB; rw [h2] at this; omega
  ·exact h2
include hA hB lA lB hJ hW in
theorem Q12:∀ n,n<b*J+a*J'->v n=0:=by
 intro n hn;have hV:=Zi8 hA hB lA lB hJ hW;rcases Q5 n (b*J) with h | h
 ·have hJp:0<J:=by
   rcases Qx J with e | e
   ·rw [e,Yo] at h; omega
   ·exact e
  have e1:=Xb n hJp;have e2:n / J<b:=Ja (by rw [Zd]; exact h);have:=Zei hA lA hW e1 (λk _ _=>Qac a λi hi=>Qac J' λj1 hj1=>by rw [hV J' j1 hj1 (by omega) i hi,Vg]) (b+1) (n / J) e2 (Qa (Nat.sub_le _ _) (Nat.le_succ _));rwa [Zd,Xg] at this
 ·have hJp:0<J':=by
   rcases Qx J' with e | e
   ·rw [e,Yo] at hn; omega
   ·exact e
  have e1:=Xb (n-b*J) hJp;have e2:(n-b*J) / J'<a:=Ja (by rw [Zd J' a]; omega);have:=hV J' _ e1 (by omega) _ e2;rw [Zd ((n-b*J) / J'),Xg] at this;rwa [show b*J+(n-b*J)=n by omega] at this
end
theorem O7 {R x:Rat} (h1:1<=R) (hx:Uk x<=R):∀ k:Nat,Uk (x^k)<=R^k/\1<=R^k
 | 0=>by rw [Xd,Xd]; exact ⟨by decide,by decide⟩
 |
  k+1=>by
  obtain ⟨i1,i2⟩:=O7 h1 hx k;rw [Z9,Z9];have:=Su (a:=1) (c:=1) (by decide) i2 (by decide) h1;exact ⟨Fx i1 hx,by grind⟩
theorem Qyw {R:Rat} (h1:1<=R) {i:Nat}:∀ k,i<=k->R^i<=R^k
 | 0,h=>by rw [show i=0 by omega]; exact Ql
 |
  k+1,h=>by
  rcases Y3 h with e | e
  ·have:=Qyw h1 (i:=i) k (by omega);have h2:=(O7 h1 (x:=0) (by rw [G8]; grind) k).2;rw [Z9];have:=Su (a:=R^k) (b:=R^k) (c:=1) (d:=R) (by grind) Ql (by decide) h1;grind
  ·rw [e]; exact Ql
theorem Q74 {F:Nat->Nat->Int} {i j' K J:Nat} {x y R X:Rat} {K2 J2:Nat} (h1:1<=R) (hx:Uk x<=R) (hy:Uk y<=R) (hK:K=i+K2) (hJ:J=j'+J2) (hF:E2 F K2 J2 x y=X):Uk (E2 (shF i j' F) K J x y)<=R^(K+J)*Uk X:=by
 subst hK; subst hJ;rw [Qhw,hF,Cm];have a1:=(O7 h1 hy i).1;have a2:=(O7 h1 hx j').1;have a3:=Fx a1 a2;rw [<-Qcu] at a3;have a4:=Qyw h1 (i:=i+j') (i+K2+(j'+J2)) (by omega);exact Su (Gj _) (Q6 a3 a4) (Gj _) Ql
theorem Zhg {A B:List Int} {a b h:Nat} (hA:A.length=a+1) (hB:B.length=b+1) (lA:A.getD a 0≠0) (lB:B.getD b 0≠0) (ha:0<a) (hb:0<b) (h0:1<=h) (bA:∀ k,(A.getD k 0).natAbs<=h) (bB:gB B<=h) {J J' N H:Nat} (hJ:J=2*(a*b)) (hJ':J=J'+b) (hN:N=b*J+a*J') (hH:H=(2*(N*h))^(2*(a+b-1))) :
 ∃ w:Nat->Int,(∃ j,j<J/\w j≠0)/\(∀ j,(w j).natAbs<=N*(h*H))/\∀ R:Rat,1<=R->∃ C:Rat,0<=C/\∀ x y,Uk x<=R->Uk y<=R->Uk (sq J λj=>(w j:Rat)*x^j)<=C*(Uk (Ug A y)+Uk (Ug B (y-x))):=by
 have hab:0<a*b:=J4 ha hb;have hbd:∀ n k j,(phi A B b J J' n k j).natAbs<=h:=λn k j=>by
  unfold phi
  split
  ·exact Q75 (λk j=>by unfold fA; split; exact bA k; exact Nat.zero_le _) _ _ _ _
  ·exact Q75 (λk j=>Qa (Q49 B k j) bB) _ _ _ _
 have hJp:0<J:=by omega
 have hNp:1<=N:=by
  have:0<b*J:=J4 hb hJp;omega
 have hNh:1<=N*h:=J4 hNp h0;obtain ⟨E,hE⟩:=nmE ((a+b-1)*J);have hNE:N=E+a*b:=by
  have e1:(a+b-1)*J+J=(a+b)*J:=by
   rw [<-Xc]; congr 1; omega
  have e2:a*J=a*J'+a*b:=by rw [hJ',Xs]
  rw [Jh] at e1;omega
 have hc:(2*(N*(h*H))+1)^E<(H+1)^N:=by
  have c1:2*(N*(h*H))+1<=2*(N*h)*(H+1):=by
   rw [Xs,Ym,Xm 2,Xm N]; omega
  refine Zy (Nat.pow_le_pow_left c1 E) ?_;rw [Nat.mul_pow,hNE,Xe,Zd];refine Nat.mul_lt_mul_of_pos_left ?_ (Zv (by omega));have e1:(2*(N*h))^E=H^(a*b):=by
   rw [hH,<-W8,hE,hJ]; congr 1;rw [Zd 2 (a+b-1),Xm]
  rw [<-hNE,e1];exact Nat.pow_lt_pow_left (by omega) (by omega)
 obtain ⟨v,v1,⟨n0,n1,n2⟩,v3⟩:=Zhl (M:=λe n=>phi A B b J J' n (e / J+1) (e % J)) (h:=h) (N:=N) (E:=E) (H:=H) (λe n=>hbd n _ _) hc;have hW:∀ k j,1<=k->k<a+b->j<J->sm N (λn=>phi A B b J J' n k j*v n)=0:=λk j k1 k2 hj=>by
  have:=v3 ((k-1)*J+j) (by rw [hE]; exact Zer (by omega) hj);rwa [(Qd8 hj).1,(Qd8 hj).2,show k-1+1=k by omega] at this
 refine ⟨λj=>sm N λn=>phi A B b J J' n 0 j*v n,?_,λj=>?_,λR hR=>?_⟩
 ·rcases Classical.em (∃ j,j<J/\(sm N λn=>phi A B b J J' n 0 j*v n)≠0) with e | e
  ·exact e
  ·exfalso;refine n2 (Q12 hA hB lA lB hJ' (v:=v) (λk j hk hj=>?_) n0 (by rw [<-hN]; exact n1));rw [<-hN];rcases Qx k with e' | e'
   ·subst e';rcases Classical.em ((sm N λn=>phi A B b J J' n 0 j*v n)=0) with e2 | e2
    ·exact e2
    ·exact absurd ⟨j,hj,e2⟩ e
   ·exact hW k j e' hk hj
 ·refine Q8a N λn _=>?_
  rw [Jt];exact Zt (hbd n 0 j) (v1 n)
 ·have hRp:∀ k:Nat,1<=R^k:=λk=>(O7 hR (x:=0) (by rw [G8]; grind) k).2
  have hHn:(0:Rat)<=(H:Rat):=Xl;have hNn:(0:Rat)<=(N:Rat):=Xl;refine ⟨(N:Rat)*((H:Rat)*R^(a+b+J)),Ph hNn (Ph hHn (by have:=hRp (a+b+J); grind)),λx y hx hy=>?_⟩;have e1:(sq J λj=>((sm N λn=>phi A B b J J' n 0 j*v n:Int):Rat)*x^j)=E2 (λk j=>sm N λn=>phi A B b J J' n k j*v n) (a+b) J x y:=by
   unfold E2;obtain ⟨m,hm⟩:∃ m,a+b=m+1:=⟨a+b-1,by omega⟩;rw [hm,Eo,M9 (n:=m)]
   ·have:(sq J λj=>((sm N λn=>phi A B b J J' n 0 j*v n:Int):Rat)*(y^0*x^j))=sq J λj=>((sm N λn=>phi A B b J J' n 0 j*v n:Int):Rat)*x^j:=Tp J λj _=>by rw [Xd]; grind
    rw [this]; grind
   ·intro k hk;refine M9 J λj hj=>?_
    show ((sm N λn=>phi A B b J J' n (k+1) j*v n:Int):Rat)*_=0;rw [hW (k+1) j (by omega) (by omega) hj,show ((0:Int):Rat)=0 from rfl]; grind
  rw [e1,Q4q];have key:∀ n,n<N->Uk ((v n:Rat)*E2 (phi A B b J J' n) (a+b) J x y)<=(H:Rat)*(R^(a+b+J)*(Uk (Ug A y)+Uk (Ug B (y-x)))):=λn hn=>by
   have hvn:Uk (v n:Rat)<=(H:Rat):=by
    have h1:=v1 n;have h2:(v n)<=(H:Int):=by omega
    have h3:-(H:Int)<=v n:=by omega
    have h2:=Je.2 h2;have h3:=Je.2 h3;rw [Y5] at h3;rw [Rh]; exact ⟨h3,h2⟩
   refine Fx hvn ?_;have hRk:=hRp (a+b+J);have n1:=Gj (Ug A y);have n2:=Gj (Ug B (y-x));rcases Q5 n (b*J) with h | h
   ·have e:phi A B b J J' n=shF (n / J) (n % J) (fA A):=by funext k j; unfold phi; rw [if_pos h]
    have d1:n / J<b:=Ja (by rw [Zd]; exact h);have d2:=Xb n hJp;rw [e];refine Q6 (Q74 (K2:=a+b-n / J) (J2:=J-n % J) hR hx hy (by omega) (by omega) (X:=Ug A y) ?_) (Su (by grind) Ql n1 (by grind));obtain ⟨m,hm⟩:∃ m,J-n % J=m+1:=⟨J-n % J-1,by omega⟩;rw [hm]; exact Zja A _ _ x y (by omega)
   ·have e:phi A B b J J' n=shF ((n-b*J) / J') ((n-b*J) % J') (gc B):=by funext k j; unfold phi; rw [if_neg (by omega)]
    have hJp':0<J':=by
     rcases Qx J' with e | e
     ·rw [e,Yo] at hN; omega
     ·exact e
    have d1:(n-b*J) / J'<a:=Ja (by rw [Zd J' a]; omega);have d2:=Xb (n-b*J) hJp';rw [e];refine Q6 (Q74 (K2:=a+b-(n-b*J) / J') (J2:=J-(n-b*J) % J') hR hx hy (by omega) (by omega) (X:=Ug B (y-x)) ?_) (Su (by grind) Ql n2 (by grind));exact Zgd x y B _ _ (by omega) (by omega)
  have:=Ze3 N key;refine Q6 this ?_;have:(N:Rat)*((H:Rat)*(R^(a+b+J)*(Uk (Ug A y)+Uk (Ug B (y-x)))))=(N:Rat)*((H:Rat)*R^(a+b+J))*(Uk (Ug A y)+Uk (Ug B (y-x))):=by grind
  rw [this]; exact Ql
end Orq
namespace Orq
theorem Q8d {w:Nat->Int} {x:Rat} {D:Rat} (hx:Uk x*2<=1) (hw:∀ j,Uk (w j:Rat)<=D):∀ J (k:Nat),Uk (sq J λj=>(w (k+j):Rat)*x^j)<=2*D
 | 0,k=>by have:=hw 0; have:=Gj (w 0:Rat); simp only [sq,G8]; clear hw; grind
 |
  J+1,k=>by
  have ih:=Q8d hx hw J (k+1);rw [Eo];have e:(sq J λi=>(w (k+(i+1)):Rat)*x^(i+1))=x*sq J λi=>(w (k+1+i):Rat)*x^i:=by
   rw [<-Og]; exact Tp J λi _=>by rw [Z9,show k+(i+1)=k+1+i by omega]; grind
  rw [e,Xd,Xw];have h1:=hw k;have h2:=Rp ((w k:Rat)*1) (x*sq J λi=>(w (k+1+i):Rat)*x^i);have h3:=Fx (x:=x) (y:=sq J λi=>(w (k+1+i):Rat)*x^i) Ql ih;have h4:=Q3 hx (show (0:Rat)<=D by have:=Gj (w k:Rat); clear hw; grind);have h5:(w k:Rat)*1=w k:=by grind
  rw [h5] at h2 ⊢;clear hw; grind
theorem Al {z:Int} (h:z≠0):1<=Uk (z:Rat):=by
 unfold Uk;rcases V4 h with h | h
 ·have:((z:Int):Rat)<((0:Int):Rat):=X5.2 h;have h2:((1:Int):Rat)<=((-z:Int):Rat):=Je.2 (by omega);rw [if_pos (by simpa using this)];rw [Y5] at h2;simpa using h2
 ·have:((0:Int):Rat)<((z:Int):Rat):=X5.2 h;have h2:((1:Int):Rat)<=((z:Int):Rat):=Je.2 (by omega);rw [if_neg (by
   have:(0:Rat)<z:=by simpa using this
   grind)]
  simpa using h2
theorem Qui {w:Nat->Int} {x:Rat} {D:Rat} (hD:1<=D) (hx0:0<Uk x) (hx:Uk x*(4*D)<=1) (hw:∀ j,Uk (w j:Rat)<=D):∀ J (k:Nat),(∃ j,j<J/\w (k+j)≠0)->Uk x^J / 2<=Uk (sq J λj=>(w (k+j):Rat)*x^j)
 | 0,k,⟨j,h,_⟩=>by omega
 |
  J+1,k,⟨j,h1,h2⟩=>by
  have hx2:Uk x*2<=1:=by
   have:=Su (a:=Uk x) (c:=2) (Qm hx0) Ql (by decide) (show (2:Rat)<=4*D by clear hw; grind);exact Q6 this hx
  have hx1:Uk x<=1:=by clear hw; grind
  have hp:∀ k:Nat,Uk x^k<=1/\0<=Uk x^k:=λk=>by
   induction k with
   | zero=>rw [Xd]; exact ⟨by decide,by decide⟩
   |
    succ k ih =>
    rw [Z9];have:=Su ih.2 ih.1 (Qm hx0) hx1;have:=Ph ih.2 (Qm hx0);constructor <;> (clear hw; grind)
  rw [Eo];have e:(sq J λi=>(w (k+(i+1)):Rat)*x^(i+1))=x*sq J λi=>(w (k+1+i):Rat)*x^i:=by
   rw [<-Og]; exact Tp J λi _=>by rw [Z9,show k+(i+1)=k+1+i by omega]; grind
  rw [e,Xd,Xw k,show (w k:Rat)*1=w k by grind];by_cases h0:w k=0
  ·have hj:j≠0:=λe=>h2 (by rw [e]; exact h0)
   have ih:=Qui hD hx0 hx hw J (k+1) ⟨j-1,by omega,by rw [show k+1+(j-1)=k+j by omega]; exact h2⟩;rw [h0,show ((0:Int):Rat)+x*(sq J λi=>(w (k+1+i):Rat)*x^i)=x*sq J λi=>(w (k+1+i):Rat)*x^i by rw [show ((0:Int):Rat)=0 from rfl]; grind,Cm,Z9];have:=Zk ih (Qm hx0);have e2:Uk x*(Uk x^J / 2)=Uk x^J*Uk x / 2:=by rw [Js,Js]; grind
   rw [e2] at this; exact this
  ·have a1:=Al h0;have a2:=Q8d hx2 hw J (k+1);have a3:=Fx (x:=x) (y:=sq J λi=>(w (k+1+i):Rat)*x^i) Ql a2;have a4:=Rp ((w k:Rat)+x*sq J λi=>(w (k+1+i):Rat)*x^i) (-(x*sq J λi=>(w (k+1+i):Rat)*x^i));rw [Cn,show (w k:Rat)+(x*sq J λi=>(w (k+1+i):Rat)*x^i)+-(x*sq J λi=>(w (k+1+i):Rat)*x^i)=w k by grind] at a4;have a5:=(hp (J+1)).1;have a6:Uk x^(J+1) / 2*2=Uk x^(J+1):=Fb (by decide);have a7:Uk x*(2*D)*2=Uk x*(4*D):=by grind
   clear hw hp; grind
theorem Zgl {A B:List Int} {a b h:Nat} (hA:A.length=a+1) (hB:B.length=b+1) (lA:A.getD a 0≠0) (lB:B.getD b 0≠0) (ha:0<a) (hb:0<b) (h0:1<=h) (bA:∀ k,(A.getD k 0).natAbs<=h) (bB:gB B<=h) {N D:Nat} (hN:b*(2*(a*b))+a*(2*(a*b)-b)=N) (hD:N*(h*(2*(N*h))^(2*(a+b-1)))<=D) {R d:Rat} (hR:1<=R) (dp:0<d)
 (hs:∀ e:Rat,0<e->∃ q r,Uk q<=R/\Uk r<=R/\d<=Uk (q-r)/\Uk (q-r)*(4*(D:Rat))<=1/\Uk (Ug A q)<e/\Uk (Ug B r)<e):False:=by
 have hab:0<a*b:=J4 ha hb;have hbab:b<=a*b:=by
  have:=Qw b (show 1<=a from ha); omega
 obtain ⟨w,⟨j,hj,hw0⟩,hw,hC⟩:=Zhg hA hB lA lB ha hb h0 bA bB (J:=2*(a*b)) (J':=2*(a*b)-b) rfl (by omega) hN.symm rfl;obtain ⟨C,hC0,hC⟩:=hC (2*R) (by grind);have hw':∀ j,Uk (w j:Rat)<=(D:Rat):=λj=>by
  have h1:=Qa (hw j) hD;have h2:w j<=(D:Int):=by omega
  have h3:-(D:Int)<=w j:=by omega
  have h2:=Je.2 h2;have h3:=Je.2 h3;rw [Y5] at h3;rw [Rh]; exact ⟨h3,h2⟩
 have hD1:(1:Rat)<=(D:Rat):=by
  have:=Al hw0;exact Q6 this (hw' j)
 have hdJ:0<d^(2*(a*b)) / 2:=Nu (Rat.pow_pos dp) (by decide);obtain ⟨e,ep,_,he⟩:=Ga (b:=C*2) (d:=d^(2*(a*b)) / 2) (by grind) hdJ;obtain ⟨q,r,q1,r1,d1,d2,aq,br⟩:=hs e ep;have h1:=hC (q-r) q (by
  have:=Rp q (-r); rw [Cn] at this; have:q-r=q+-r:=by grind
  grind) (by grind)
 rw [show q-(q-r)=r by grind] at h1;have h2:=Qui (x:=q-r) hD1 (by grind) d2 hw' (2*(a*b)) 0 ⟨j,hj,by rw [Z0]; exact hw0⟩;simp only [Z0] at h2;have h3:C*(Uk (Ug A q)+Uk (Ug B r))<=C*(e+e):=Zk (by grind) hC0;have h4:d^(2*(a*b))<=Uk (q-r)^(2*(a*b)):=by
  generalize 2*(a*b)=J
  induction J with
  | zero=>rw [Xd,Xd]; exact Ql
  |
   succ J ih =>
   rw [Z9,Z9];exact Su (Qm (Rat.pow_pos dp)) ih (Qm dp) d1
 have h5:d^(2*(a*b)) / 2*2=d^(2*(a*b)):=Fb (by decide);have h6:Uk (q-r)^(2*(a*b)) / 2*2=Uk (q-r)^(2*(a*b)):=Fb (by decide);clear hC hs hw hw';grind
def HD (p:List Rat) (n:Nat):Prop:=p.getD n 0≠0/\∀ k,n<k->p.getD k 0=0
theorem G5:∀ (p q:List Rat) (k:Nat),(Hx p q).getD k 0=p.getD k 0+q.getD k 0
 | [],q,k=>by simp only [Hx,Ke]; grind
 | a::p,[],k=>by simp only [Hx,Ke]; grind
 | a::p,b::q,0=>by simp only [Hx,Zo]
 | a::p,b::q,k+1=>by simp only [Hx,Q0]; exact G5 p q k
theorem Hu (c:Rat):∀ (p:List Rat) (k:Nat),(Pm c p).getD k 0=c*p.getD k 0
 | [],k=>by simp only [Pm,Jf,Ke]; grind
 | a::p,0=>by simp [Pm]
 | a::p,k+1=>by have:=Hu c p k; simp only [Pm,Zw,Q0] at *; exact this
theorem Q5h {p:List Rat} {k:Nat} (h:∀ x∈p,x=0):p.getD k 0=0:=by
 rw [Qg];cases e:p[k]? with
 | none=>rfl
 | some x=>exact h x (Qc e)
theorem Mr {p q:List Rat} (h:∀ t,ev p t=ev q t) (k:Nat):p.getD k 0=q.getD k 0:=by
 have h1:=Q5h (k:=k) (Qbl (p:=Hx p (Pm (-1) q)) λt _ _=>by rw [U5,Uw,h t]; grind);rw [G5,Hu] at h1; grind
theorem Bu:∀ {p:List Rat},(∀ k,p.getD k 0=0)->∀ t,ev p t=0
 | [],_,t=>rfl
 |
  a::p,h,t=>by
  have h0:=h 0;have h1:=Bu (p:=p) (λk=>by have:=h (k+1); rwa [Q0] at this) t;rw [Zo] at h0;simp only [ev,h0,h1]; grind
theorem Qfc:∀ (p:List Rat),(∀ t,ev p t=0)\/∃ n,n<p.length/\HD p n
 | []=>.inl λ_=>rfl
 |
  a::p=>by
  rcases Qfc p with h | ⟨n,hn,h1,h2⟩
  ·rcases Classical.em (a=0) with e | e
   ·exact .inl λt=>by simp only [ev,e,h t]; grind
   ·refine .inr ⟨0,by simp,by simpa using e,λk hk=>?_⟩;obtain ⟨m,rfl⟩:∃ m,k=m+1:=⟨k-1,by omega⟩;rw [Q0];exact (Mr (p:=p) (q:=[]) h m).trans (by simp)
  ·refine .inr ⟨n+1,by simp; omega,by rw [Q0]; exact h1,λk hk=>?_⟩;obtain ⟨m,rfl⟩:∃ m,k=m+1:=⟨k-1,by omega⟩;rw [Q0]; exact h2 m (by omega)
theorem Q5l {p q:List Rat} {n:Nat} (h:∀ t,ev p t=ev q t) (hp:HD p n):HD q n :=
 ⟨by rw [<-Mr h]; exact hp.1,λk hk=>by rw [<-Mr h]; exact hp.2 k hk⟩
theorem Zeq {p:List Rat} {n m:Nat} (h:HD p n) (h':HD p m):n=m:=by
 rcases Kb n m with e | e | e
 ·exact absurd (h.2 m e) h'.1
 ·exact e
 ·exact absurd (h'.2 n e) h.1
theorem Qxq {p:List Rat} {n:Nat} (h:HD p n):¬∀ t,ev p t=0:=λh0=>h.1 ((Mr (p:=p) (q:=[]) h0 n).trans (by simp))
theorem Qfd {p q:List Rat} (h:∀ k,p.getD k 0=0) (k:Nat):(Fo p q).getD k 0=0:=by
 have:=Mr (p:=Fo p q) (q:=[]) (λt=>by rw [Ui,Bu h t]; simp only [ev]; grind) k;rw [this]; simp
theorem Qd6:∀ {p q:List Rat} {m n:Nat},HD p m->HD q n->HD (Fo p q) (m+n)
 | [],q,m,n,h,_=>absurd (by simp) h.1
 |
  a::p,q,0,n,h,h'=>by
  have h1:∀ k,p.getD k 0=0:=λk=>by have:=h.2 (k+1) (by omega); rwa [Q0] at this
  have h2:∀ k,(Fo (a::p) q).getD k 0=a*q.getD k 0:=λk=>by
   simp only [Fo];rw [G5,Hu];cases k with
   | zero=>rw [Zo]; grind
   | succ k=>rw [Q0,Qfd h1]; grind
  have h3:=h.1;rw [Zo] at h3;refine ⟨?_,λk hk=>?_⟩
  ·rw [h2,Z0]; exact λh=>(Jo.1 h).elim h3 h'.1
  ·rw [h2,h'.2 k (by omega)]; grind
 |
  a::p,q,m+1,n,h,h'=>by
  have ih:=Qd6 (p:=p) (q:=q) (m:=m) ⟨by have:=h.1; rwa [Q0] at this,λk hk=>by have:=h.2 (k+1) (by omega); rwa [Q0] at this⟩ h';refine ⟨?_,λk hk=>?_⟩
  ·simp only [Fo];rw [G5,Hu,show m+1+n=(m+n)+1 by omega,Q0,h'.2 _ (by omega)];have:=ih.1; grind
  ·obtain ⟨j,rfl⟩:∃ j,k=j+1:=⟨k-1,by omega⟩;simp only [Fo];rw [G5,Hu,Q0,h'.2 _ (by omega),ih.2 j (by omega)]; grind
def Az (g f:List Rat):Prop:=∃ u,∀ t,ev f t=ev g t*ev u t
theorem dvd_refl (f:List Rat):Az f f:=⟨[1],λt=>by rw [Hp]; grind⟩
theorem dvd_trans {f g h:List Rat}:Az f g->Az g h->Az f h
 | ⟨u,hu⟩,⟨v,hv⟩=>⟨Fo u v,λt=>by rw [hv,hu,Ui]; grind⟩
theorem Qq6 {p q:List Rat} (h:∀ t,ev p t*ev q t=0) (hp:¬∀ t,ev p t=0):∀ t,ev q t=0:=by
 rcases Qfc p with h1 | ⟨m,_,h1⟩
 ·exact absurd h1 hp
 ·rcases Qfc q with h2 | ⟨n,_,h2⟩
  ·exact h2
  ·exact absurd (λt=>by rw [Ui]; exact h t) (Qxq (Qd6 h1 h2))
theorem Qtr {p q r:List Rat} (hp:¬∀ t,ev p t=0) (h:∀ t,ev p t*ev q t=ev p t*ev r t) (t:Rat):ev q t=ev r t:=by
 have:=Qq6 (p:=p) (q:=Hx q (Pm (-1) r)) (λt=>by rw [U5,Uw]; have:=h t; grind) hp t;rw [U5,Uw] at this; grind
theorem Q4i {b:List Rat} {n:Nat} (hb:HD b n):∀ (l:Nat) (a:List Rat),(∀ k,l<=k->a.getD k 0=0)->∃ q r,(∀ t,ev a t=ev q t*ev b t+ev r t)/\∀ k,n<=k->r.getD k 0=0
 | 0,a,ha=>⟨[],a,λt=>by simp only [ev]; grind,λk _=>ha k (Qi _)⟩
 |
  l+1,a,ha=>by
  rcases Q5 l n with h | h
  ·exact ⟨[],a,λt=>by simp only [ev]; grind,λk hk=>ha k (by omega)⟩
  ·-- the leading term is taken away
   obtain ⟨c,hc⟩:=nmE (a.getD l 0 / b.getD n 0);have hcb:c*b.getD n 0=a.getD l 0:=by rw [hc]; exact Zh hb.1
   obtain ⟨m,hm⟩:∃ m:List Rat,m=List.replicate (l-n) 0++[c]:=⟨_,rfl⟩;have hsh:∀ (i:Nat) (k:Nat),(Fo (List.replicate i 0++[c]) b).getD k 0=if i<=k then c*b.getD (k-i) 0 else 0:=λi=>by
    induction i with
    | zero=>intro k; simp only [Ky,Yq,Fo]; rw [G5,Hu]; cases k <;> simp <;> grind
    |
     succ i ih =>
     intro k;simp only [Jz,Xn,Fo];rw [G5,Hu];cases k with
     | zero=>rw [Zo,if_neg (by omega)]; grind
     |
      succ k =>
      rw [Q0,ih k];by_cases h:i<=k
      ·rw [if_pos h,if_pos (by omega),Nat.add_sub_add_right]; grind
      ·rw [if_neg h,if_neg (by omega)]; grind
   obtain ⟨q,r,h1,h2⟩:=Q4i hb l (Hx a (Pm (-1) (Fo m b))) λk hk=>by
    rw [G5,Hu,hm,hsh,if_pos (by omega)];rcases Y3 hk with e | e
    ·rw [ha k (by omega),hb.2 _ (by omega)]; grind
    ·subst e; rw [show l-(l-n)=n by omega,hcb]; grind
   refine ⟨Hx q m,r,λt=>?_,h2⟩;have:=h1 t;rw [U5,Uw,Ui] at this;rw [U5]; grind
theorem Qt6:∀ (n:Nat) (a b:List Rat),(∀ k,n<=k->b.getD k 0=0)->∃ g U V,Az g a/\Az g b/\∀ t,ev g t=ev U t*ev a t+ev V t*ev b t
 |
  0,a,b,h=>by
  have h0:=Bu λk=>h k (Qi _)
  exact ⟨a,[1],[],dvd_refl a,⟨[],λt=>by rw [h0]; simp only [ev]; grind⟩,λt=>by rw [Hp]; simp only [ev]; grind⟩
 |
  n+1,a,b,h=>by
  rcases Classical.em (b.getD n 0=0) with e | e
  ·exact Qt6 n a b λk hk=>by
    rcases Y3 hk with e' | e'
    ·exact h k (by omega)
    ·rw [<-e']; exact e
  ·obtain ⟨q,r,h1,h2⟩:=Q4i (b:=b) (n:=n) ⟨e,λk hk=>h k (by omega)⟩ a.length a λk hk=>by rw [Qg,Qr hk]; rfl
   obtain ⟨g,U,V,⟨u,hu⟩,⟨v,hv⟩,hg⟩:=Qt6 n b r h2;refine ⟨g,V,Hx U (Pm (-1) (Fo V q)),⟨Hx (Fo q u) v,λt=>?_⟩,⟨u,hu⟩,λt=>?_⟩
   ·rw [h1,hv,U5,Ui,hu]; grind
   ·rw [hg,U5,Uw,Ui,h1]; grind
theorem Q5c (a b:List Rat):∃ g U V,Az g a/\Az g b/\∀ t,ev g t=ev U t*ev a t+ev V t*ev b t :=
 Qt6 b.length a b λk hk=>by rw [Qg,Qr hk]; rfl
def Cop (a b:List Rat):Prop:=∃ U V,∀ t,ev U t*ev a t+ev V t*ev b t=1
theorem Qmz {c d e:List Rat} (h:Cop c d) (h1:∃ u,∀ t,ev d t*ev e t=ev c t*ev u t):Az c e:=by
 obtain ⟨U,V,h⟩:=h;obtain ⟨u,hu⟩:=h1;refine ⟨Hx (Fo U e) (Fo V u),λt=>?_⟩;rw [U5,Ui,Ui];have a1:=h t;have a2:=hu t;have:ev e t=(ev U t*ev c t+ev V t*ev d t)*ev e t:=by rw [a1]; grind
 rw [this];have:(ev U t*ev c t+ev V t*ev d t)*ev e t=ev U t*ev c t*ev e t+ev V t*(ev d t*ev e t):=by grind
 rw [this,a2]; grind
def qpw (d:List Rat):Nat->List Rat
 | 0=>[1]
 | k+1=>Fo d (qpw d k)
theorem Qva (d:List Rat) (t:Rat):∀ k:Nat,ev d t*dv (qpw d k) t=(k:Rat)*(dv d t*ev (qpw d k) t)
 | 0=>by simp only [qpw,dv,ev]; rw [show ((0:Nat):Rat)=0 from rfl]; grind
 |
  k+1=>by
  have ih:=Qva d t k;have hn':(((k+1:Nat):Rat))=(k:Rat)+1:=by push_cast; rfl
  simp only [qpw];rw [Qm5,Ui,hn']; grind
theorem Q69 {d:List Rat} {m:Nat} (h:HD d m):∀ k,HD (qpw d k) (k*m)
 | 0=>by rw [Yp]; exact ⟨by simp [qpw],λk hk=>by simp only [qpw]; rw [Qg,Qr (by simp; omega)]; rfl⟩
 | k+1=>by rw [Xc,J3 (k*m) m]; exact Qd6 h (Q69 h k)
theorem Qln {d g:List Rat} {m n:Nat} (hd:HD d m) (hg:HD g n) (h:∀ k,Az (qpw d k) g):m=0:=by
 obtain ⟨u,hu⟩:=h (n+1);rcases Qfc u with h1 | ⟨j,_,h1⟩
 ·exact absurd (λt=>by rw [hu,h1]; grind) (Qxq hg)
 ·have:=Zeq (Q5l (λt=>by rw [hu,Ui]) hg) (Qd6 (Q69 hd (n+1)) h1);rcases Qx m with e | e
  ·exact e
  ·have:(n+1)*1<=(n+1)*m:=Zf _ e;omega
theorem sqf {a g q d U V:List Rat} {k:Rat} (hk:k≠0) (ha:∀ t,ev a t=ev g t*ev q t) (hg:∀ t,k*ev g t=ev U t*ev a t+ev V t*dv a t) (h1:Az d q) (h2:Az d (Mb q)):∀ n,Az (qpw d n) g
 | 0=>⟨g,λt=>by simp only [qpw]; rw [Hp]; grind⟩
 |
  n+1=>by
  obtain ⟨g1,e1⟩:=sqf hk ha hg h1 h2 n;obtain ⟨q1,e2⟩:=h1;obtain ⟨q2,e3⟩:=h2;have d1:=λt=>E7 ha t
  have d2:=λt=>E7 e1 t
  have d3:=λt=>E7 e2 t
  have d4:=Qva d;refine ⟨Pm (1 / k) (Hx (Fo U (Fo g1 q1)) (Fo V (Hx (Fo g1 q2) (Hx (Pm n (Fo g1 (Hx q2 (Pm (-1) (Mb q1))))) (Fo (Mb g1) q1))))),λt=>?_⟩;have hkk:1 / k*k=1:=Zh hk;simp only [qpw,Uw,U5,Ui,Hl];have b1:=ha t; have b2:=hg t; have b3:=e1 t; have b4:=e2 t; have b5:=e3 t;have b6:=d1 t; have b7:=d2 t; have b8:=d3 t; have b9:=d4 t n;rw [Hl] at b5;generalize ev d t=x0 at *;generalize ev (qpw d n) t=x1 at *;generalize ev g t=x2 at *;generalize ev q t=x3 at *;generalize ev a t=x4 at *;generalize dv a t=x5 at *;generalize dv g t=x6 at *;generalize dv q t=x7 at *;generalize ev g1 t=x8 at *;generalize dv g1 t=x9 at *;generalize ev q1 t=y0 at *;generalize dv q1 t=y1 at *;generalize ev q2 t=y2 at *;generalize dv d t=y3 at *;generalize dv (qpw d n) t=y4 at *;generalize ev U t=y5 at *;generalize ev V t=y6 at *;generalize (n:Rat)=y7 at *;have:x2=1 / k*(k*x2):=by grind
  rw [this,b2];have c1:x5=x0*x1*(x8*y2+(y7*(x8*(y2+-1*y1))+x9*y0)):=by
   rw [b6,b7,b4,b3];have:y3*y0=x0*y2-x0*y1:=by grind
   have:x0*y4*(x8*y0)=y7*(x1*x8*(x0*y2-x0*y1)):=by rw [b9,<-this]; grind
   grind
  have c2:x4=x0*x1*(x8*y0):=by rw [b1,b3,b4]; grind
  rw [c1,c2]; grind
theorem Za0 {a b c:List Rat} (h1:Cop a b) (h2:Cop a c) {d:List Rat} (hd:∀ t,ev d t=ev b t*ev c t):Cop a d:=by
 obtain ⟨U,V,h1⟩:=h1;obtain ⟨X,Y,h2⟩:=h2;refine ⟨Hx U (Fo (Fo V b) X),Fo V Y,λt=>?_⟩;have a1:=h1 t;have a2:=h2 t;simp only [U5,Ui,hd];have:ev V t*ev b t*(ev X t*ev a t+ev Y t*ev c t)=ev V t*ev b t:=by rw [a2]; grind
 grind
theorem Zdg {a g q z r X Y:List Rat} {n:Nat} (ha:∀ t,ev a t=ev g t*ev q t) (hz:∀ t,dv a t=ev g t*ev z t) (hg:HD g n) (hr:∀ t,ev X t*ev r t+ev Y t*dv r t=1) (h:Az r a):Az r q:=by
 obtain ⟨b,hb⟩:=h;obtain ⟨e,U,V,⟨r1,e1⟩,⟨q3,e2⟩,e3⟩:=Q5c r q;have hr0:¬∀ t,ev r t=0:=λh=>by
  have h1:=hr 0;have h2:dv r 0=0:=by have:=Q4n (p:=r) (q:=[]) h 0; rw [this]; rfl
  rw [h,h2] at h1; grind
 have he0:¬∀ t,ev e t=0:=λh=>hr0 λt=>by rw [e1,h]; grind
 have d1:=λt=>E7 e1 t
 have c1:Cop r1 q3:=⟨U,V,λt=>by
  have:=Qtr (p:=e) (q:=Hx (Fo U r1) (Fo V q3)) (r:=[1]) he0 (λt=>by
   rw [U5,Ui,Ui,Hp];have a1:=e1 t; have a2:=e2 t; have a3:=e3 t;rw [a1,a2] at a3; grind) t
  rw [U5,Ui,Ui,Hp] at this; exact this⟩
 have c2:Cop r1 e:=⟨Hx (Fo X e) (Fo Y (Mb e)),Fo Y (Mb r1),λt=>by
  have a1:=hr t; have a2:=e1 t; have a3:=d1 t;simp only [U5,Ui,Hl];rw [a2,a3] at a1; grind⟩
 have c3:Cop r1 (Mb r1):=⟨Hx (Fo X e) (Fo Y (Mb e)),Fo Y e,λt=>by
  have a1:=hr t; have a2:=e1 t; have a3:=d1 t;simp only [U5,Ui,Hl];rw [a2,a3] at a1; grind⟩
 have c4:Cop r1 q:=Za0 c2 c1 e2;have hgz:=Qxq hg;have hp:∀ k,Az (qpw r1 k) g:=λk=>by
  induction k with
  | zero=>exact ⟨g,λt=>by simp only [qpw]; rw [Hp]; grind⟩
  |
   succ k ih =>
   obtain ⟨h,eh⟩:=ih;have hpz:¬∀ t,ev (qpw r1 k) t=0:=λh0=>hgz λt=>by rw [eh,h0]; grind
   have key:Az r1 h:=by
    cases k with
    |
     zero =>
     refine Qmz c4 ⟨Fo e b,λt=>?_⟩;have a1:=ha t; have a2:=hb t; have a3:=e1 t; have a4:=eh t;simp only [qpw] at a4;rw [Hp] at a4;rw [Ui]; grind
    |
     succ k =>
     have hn:((k+1:Nat):Rat)≠0:=by
      have:(0:Rat)<((k+1:Nat):Rat):=by
       have h1:((0:Nat):Rat)<((k+1:Nat):Rat):=Y8.2 (by omega);simpa using h1
      grind
     have d2:=λt=>E7 (f:=a) (w:=qpw r1 (k+1)) (u:=Fo h q) (λt=>by rw [ha,eh,Ui]; grind) t
     have d4:=Qva r1;have h3:=Qtr (p:=qpw r1 (k+1)) (q:=Fo (Mb r1) (Fo h q)) (r:=Fo r1 (Pm (1 / ((k+1:Nat):Rat)) (Hx (Fo h z) (Pm (-1) (Mb (Fo h q)))))) hpz λt=>by
      simp only [Ui,Uw,U5,Hl];have a1:=d2 t; have a2:=d4 t (k+1); have a3:=hz t; have a4:=eh t;rw [Ui] at a1;generalize ((k+1:Nat):Rat)=c at *;have hc:1 / c*c=1:=Zh hn;generalize ev (qpw r1 (k+1)) t=x0 at *;generalize dv (qpw r1 (k+1)) t=x1 at *;generalize dv (Fo h q) t=x2 at *;generalize ev r1 t=x3 at *;generalize dv r1 t=x4 at *;generalize ev h t=x5 at *;generalize ev q t=x6 at *;generalize ev z t=x7 at *;generalize dv a t=x8 at *;generalize ev g t=x9 at *;generalize 1 / c=c' at *;have s1:x0*(x4*(x5*x6))=c'*(c*(x4*x0))*(x5*x6):=by
       have:c'*(c*(x4*x0))=(c'*c)*(x4*x0):=by grind
       rw [this,hc]; grind
      rw [s1,<-a2];have s2:x3*(x1*(x5*x6))=x3*(x0*(x5*x7+-1*x2)):=by
       rw [a3,a4] at a1; grind
      grind
     refine Qmz c4 ?_;obtain ⟨u,hu⟩:=Qmz (e:=Fo q h) c3 ⟨Pm (1 / ((k+1:Nat):Rat)) (Hx (Fo h z) (Pm (-1) (Mb (Fo h q)))),λt=>by
      have:=h3 t;simp only [Ui] at this ⊢;rw [<-this]; grind⟩
     exact ⟨u,λt=>by rw [<-hu,Ui]⟩
   obtain ⟨u,hu⟩:=key;exact ⟨u,λt=>by simp only [qpw]; rw [Ui,eh,hu]; grind⟩
 rcases Qfc r1 with h1 | ⟨m,_,h1⟩
 ·exact absurd (λt=>by rw [e1,h1]; grind) hr0
 ·obtain rfl:=Qln h1 hg hp;have h2:∀ t,ev r1 t=r1.getD 0 0:=λt=>by
   cases r1 with
   | nil=>simp [ev]
   |
    cons c l =>
    have:∀ t,ev l t=0:=Bu λk=>by have:=h1.2 (k+1) (by omega); rwa [Q0] at this
    simp only [ev,this,Zo]; grind
  have h3:=h1.1;refine ⟨Pm (1 / r1.getD 0 0) q3,λt=>?_⟩;rw [e2,e1,h2,Uw];have:1 / r1.getD 0 0*r1.getD 0 0=1:=Zh h3;have:ev e t*r1.getD 0 0*(1 / r1.getD 0 0*ev q3 t)=ev e t*ev q3 t*(1 / r1.getD 0 0*r1.getD 0 0):=by grind
  rw [this,Zh h3]; grind
def Ed:List (List Rat)->List Rat
 | []=>[1]
 | w::l=>Fo w (Ed l)
def Lay:List (List Rat)->List (List Rat)->Prop
 | [],[]=>True
 | [w],[f]=>∀ t,ev w t=ev f t
 | w::v::l,f::fs=>(∀ t,ev w t=ev f t*ev v t)/\Lay (v::l) fs
 | _,_=>False
def Qfz:List (List Rat)->List Rat
 | []=>[1]
 | [f]=>f
 | f::_::l=>Fo f (Qfz l)
theorem Qx0:∀ {ws fs:List (List Rat)},Lay ws fs->∃ S,∀ t,ev (Ed ws) t=ev (Qfz fs) t*(ev S t*ev S t)
 | [],[],_=>⟨[1],λt=>by simp only [Ed,Qfz]; rw [Hp]; grind⟩
 | [w],[f],h=>⟨[1],λt=>by simp only [Ed,Qfz]; rw [Ui,Hp,h t]; grind⟩
 |
  [w,v],[f,f2],h=>⟨v,λt=>by
  have h1:=h.1 t;have h2:ev v t=ev f2 t:=h.2 t;simp only [Ed,Qfz,Ui]; rw [Hp,h1]; grind⟩
 |
  w::v::x::l,f::f2::fs,h=>by
  obtain ⟨S,hS⟩:=Qx0 h.2.2;refine ⟨Fo v S,λt=>?_⟩;have h1:=h.1 t;have h2:=hS t;have e1:ev (Ed (w::v::x::l)) t=ev w t*(ev v t*ev (Ed (x::l)) t):=by simp only [Ed,Ui]
  rw [e1,h2,h1];have e2:ev (Qfz (f::f2::fs)) t=ev f t*ev (Qfz fs) t:=by
   cases fs with
   | nil=>cases l <;> exact False.elim h.2.2
   | cons y l=>simp only [Qfz,Ui]
  rw [e2,Ui]; grind
 | [w],[],h=>h.elim
 | [w],_::_::_,h=>h.elim
 | [],_::_,h=>h.elim
 | [w,v],[f],h=>h.2.elim
 | [w,v],_::_::_::_,h=>h.2.elim
 | w::v::x::l,[f],h=>h.2.elim
 | w::v::l,[],h=>h.elim
end Orq
namespace Orq
open Orr Go
theorem Qut (p:List Int) (t:Rat):Ug p t=((p.getD 0 0:Int):Rat)+t*Ug p.tail t:=by
 cases p with
 | nil=>show (0:Rat)=((0:Int):Rat)+t*0; grind
 | cons a p=>rfl
theorem Qd5 (p:List Int) (k:Nat):p.tail.getD k 0=p.getD (k+1) 0:=by
 cases p <;> simp
theorem Mz (c d:Int) (t:Rat):∀ (n:Nat) (p q r:List Int),p.length<=n->q.length<=n->r.length<=n->(∀ k,r.getD k 0=c*p.getD k 0+d*q.getD k 0)->Ug r t=(c:Rat)*Ug p t+(d:Rat)*Ug q t
 |
  0,p,q,r,hp,hq,hr,_=>by
  rw [Qh (Nat.le_zero.1 hp),Qh (Nat.le_zero.1 hq),Qh (Nat.le_zero.1 hr)];show (0:Rat)=_*0+_*0;grind
 |
  n+1,p,q,r,hp,hq,hr,h=>by
  have ih:=Mz c d t n p.tail q.tail r.tail (by rw [Wp]; omega) (by rw [Wp]; omega) (by rw [Wp]; omega) λk=>by
   rw [Qd5,Qd5,Qd5]; exact h (k+1)
  rw [Qut p,Qut q,Qut r,ih,h 0]
  push_cast
  grind
theorem Qyk {p q:List Int} (h:∀ k,p.getD k 0=q.getD k 0) (t:Rat):Ug p t=Ug q t:=by
 have:=Mz 1 0 t (max p.length q.length) q q p (Wu ..) (Wu ..) (Nat.le_max_left ..) λk=>by rw [h k]; omega
 rw [this]
 push_cast
 grind
theorem Eg (p:List Int) (t:Rat):Ug (trim p) t=Ug p t:=Qyk (C4 p) t
theorem Gp {p:List Int} {k:Nat} (h:p.length<=k):p.getD k 0=0:=by
 rw [Qg,Qr h]; rfl
theorem Qlg (p q:List Int) (k:Nat):(Qal p q).getD k 0=p.getD k 0+q.getD k 0:=by
 unfold Qal;rw [H4]
 split
 ·rfl
 ·rename_i h; rw [Gp (p:=p) (by omega),Gp (p:=q) (by omega)]; rfl
theorem Nw (p q:List Int) (k:Nat):(Tj p q).getD k 0=p.getD k 0-q.getD k 0:=by
 unfold Tj;rw [H4]
 split
 ·rfl
 ·rename_i h; rw [Gp (p:=p) (by omega),Gp (p:=q) (by omega)]; rfl
theorem H3 (p:List Int) (c:Int) (k:Nat):(Uu p c).getD k 0=p.getD k 0*c:=by
 unfold Uu;rw [H4]
 split
 ·rfl
 ·rename_i h; rw [Gp (p:=p) (by omega),Int.zero_mul]
theorem Qlj (p:List Int) (k:Nat):(Sv p).getD k 0=-(p.getD k 0):=by
 unfold Sv;rw [H4]
 split
 ·rfl
 ·rename_i h; rw [Gp (p:=p) (by omega)]; rfl
theorem Ts (p:List Int) (k:Nat):(U3 p).getD k 0=p.getD (k+1) 0*((k+1:Nat):Int):=by
 unfold U3;rw [H4]
 split
 ·rfl
 ·rename_i h; rw [Gp (p:=p) (by omega),Int.zero_mul]
theorem Q6p (p q:List Int) (t:Rat):Ug (Qal p q) t=Ug p t+Ug q t:=by
 have:=Mz 1 1 t (max (max p.length q.length) (Qal p q).length) p q (Qal p q) (by omega) (by omega) (by omega) λk=>by rw [Qlg]; omega
 rw [this]; push_cast; grind
theorem Bw (p q:List Int) (t:Rat):Ug (Tj p q) t=Ug p t-Ug q t:=by
 have:=Mz 1 (-1) t (max (max p.length q.length) (Tj p q).length) p q (Tj p q) (by omega) (by omega) (by omega) λk=>by rw [Nw]; omega
 rw [this]; push_cast; grind
theorem Qcn (p:List Int) (t:Rat):Ug (Sv p) t=-Ug p t:=by
 have:=Mz (-1) 0 t (max p.length (Sv p).length) p p (Sv p) (by omega) (by omega) (by omega) λk=>by rw [Qlj]; omega
 rw [this]; push_cast; grind
theorem Gy (p:List Int) (c:Int) (t:Rat):Ug (Uu p c) t=Ug p t*(c:Rat):=by
 have:=Mz c 0 t (max p.length (Uu p c).length) p p (Uu p c) (by omega) (by omega) (by omega) λk=>by rw [H3,Vf]; omega
 rw [this]; push_cast; grind
theorem Qn4:∀ (l:List Int) (j:Nat) (v:Int) (t:Rat),j<l.length->Ug (l.set j v) t=Ug l t+((v:Rat)-((l.getD j 0:Int):Rat))*t^j
 | [],_,_,_,h=>by simp at h
 |
  a::l,0,v,t,_=>by
  show (v:Rat)+t*Ug l t=(a:Rat)+t*Ug l t+((v:Rat)-(a:Rat))*t^0;rw [Xd]; grind
 |
  a::l,j+1,v,t,h=>by
  have ih:=Qn4 l j v t (by simpa using h);show (a:Rat)+t*Ug (l.set j v) t=(a:Rat)+t*Ug l t+((v:Rat)-((l.getD j 0:Int):Rat))*t^(j+1);rw [ih,Z9]; grind
theorem Qis:∀ (l:List Int) (k:Nat) (t:Rat),k<l.length->Ug (l.take (k+1)) t=Ug (l.take k) t+((l.getD k 0:Int):Rat)*t^k
 | [],_,_,h=>by simp at h
 |
  a::l,0,t,_=>by
  show (a:Rat)+t*Ug (l.take 0) t=0+(a:Rat)*t^0;rw [Xd,Vj];show (a:Rat)+t*0=_;grind
 |
  a::l,k+1,t,h=>by
  have ih:=Qis l k t (by simpa using h);show (a:Rat)+t*Ug (l.take (k+1)) t=(a:Rat)+t*Ug (l.take k) t+((l.getD k 0:Int):Rat)*t^(k+1);rw [ih,Z9]; grind
theorem Qli (n:Nat) (t:Rat):Ug (List.replicate n 0) t=0:=by
 induction n with
 | zero=>rfl
 |
  succ n ih =>
  show ((0:Int):Rat)+t*Ug (List.replicate n 0) t=0;rw [ih]; push_cast; grind
theorem Qr7 (t:Rat) (i:Nat):∀ k,t^(i+k)=t^i*t^k
 | 0=>by rw [Xw,Xd]; grind
 | k+1=>by rw [<-J5,Z9,Z9,Qr7 t i k]; grind
theorem Qrl (x:Int) (b:List Int) (i:Nat) (o:List Int) (t:Rat):∀ k,k<=b.length->i+k<=o.length->Ug (Eb x b i o k) t=Ug o t+(x:Rat)*t^i*Ug (b.take k) t
 |
  0,_,_=>by
  show Ug o t=Ug o t+(x:Rat)*t^i*0;grind
 |
  k+1,h1,h2=>by
  have ih:=Qrl x b i o t k (by omega) (by omega);simp only [Eb];rw [Qn4 _ _ _ _ (by rw [Ec]; omega),ih,Qis b k t (by omega)];have hp:t^(i+k)=t^i*t^k:=Qr7 t i k;rw [hp]
  push_cast
  grind
theorem Qrk (a b o:List Int) (t:Rat):∀ i,i<=a.length->i+b.length<=o.length+1->Ug (Mw a b o i) t=Ug o t+Ug (a.take i) t*Ug b t
 |
  0,_,_=>by
  show Ug o t=Ug o t+0*Ug b t;grind
 |
  i+1,h1,h2=>by
  have ih:=Qrk a b o t i (by omega) (by omega);simp only [Mw];rw [Qrl _ _ _ _ _ b.length (Qk _) (by rw [Mx]; omega),ih,Qis a i t (by omega),Q4];grind
theorem Fc (a b:List Int) (t:Rat):Ug (Fu a b) t=Ug a t*Ug b t:=by
 unfold Fu
 split
 ·rename_i h;rcases h with h | h
  ·rw [Qh h]; show (0:Rat)=0*_; grind
  ·rw [Qh h]; show (0:Rat)=_*0; grind
 ·rename_i h;rw [Eg,Qrk a b _ t a.length (Qk _) (by rw [X8]; omega),Qli,Q4];grind
theorem Gf (z d:Int):(z:Rat) / (d:Rat)=Rat.divInt z d:=by
 by_cases h:d=0
 ·subst h; simp; grind
 ·rw [Js]; exact (Rat.divInt_eq_div z d ▸ by rw [Js])
theorem Qo4 (a:List Int) (n d:Int) (hd:(d:Rat)≠0):∀ k,k<=a.length->(((S0 a n d k).2:Int):Rat)=(d:Rat)^k/\(((S0 a n d k).1:Int):Rat)*d=(d:Rat)^k*Ug (a.drop (a.length-k)) ((n:Rat) / d)
 |
  0,_=>by
  refine ⟨by rw [Xd]; rfl,?_⟩;rw [Kw,Vn];show ((0:Int):Rat)*d=(d:Rat)^0*0
  push_cast; grind
 |
  k+1,hk=>by
  obtain ⟨h1,h2⟩:=Qo4 a n d hd k (by omega);have hi:a.length-1-k<a.length:=by omega
  have e1:a.drop (a.length-(k+1))=a.getD (a.length-1-k) 0::a.drop (a.length-k):=by
   rw [show a.length-(k+1)=a.length-1-k by omega,Zm hi,show a.length-1-k+1=a.length-k by omega];congr 1;rw [Qg,Qd hi]; rfl
  refine ⟨?_,?_⟩
  ·show (((S0 a n d k).2*d:Int):Rat)=_;rw [Xy,h1,Z9]
  ·rw [e1];show (((S0 a n d k).1*n+a.getD (a.length-1-k) 0*(S0 a n d k).2:Int):Rat)*d=_*(((a.getD (a.length-1-k) 0:Int):Rat)+(n:Rat) / d*Ug (a.drop (a.length-k)) ((n:Rat) / d));rw [V3,Xy,Xy,h1,Z9];have h3:(n:Rat) / d*d=n:=by rw [Zh hd]
   have h4:(d:Rat)^k*d*((n:Rat) / d*Ug (a.drop (a.length-k)) ((n:Rat) / d))=((n:Rat) / d*d)*((d:Rat)^k*Ug (a.drop (a.length-k)) ((n:Rat) / d)):=by grind
   have h5:(d:Rat)^k*d*(((a.getD (a.length-1-k) 0:Int):Rat)+(n:Rat) / d*Ug (a.drop (a.length-k)) ((n:Rat) / d))=(d:Rat)^k*d*((a.getD (a.length-1-k) 0:Int):Rat)+(d:Rat)^k*d*((n:Rat) / d*Ug (a.drop (a.length-k)) ((n:Rat) / d)):=by grind
   rw [h5,h4,h3,<-h2];grind
theorem Qn9 {d:Rat} (h:0<d):∀ k:Nat,0<d^k
 | 0=>by rw [Xd]; decide
 | k+1=>by rw [Z9]; exact Vv (Qn9 h k) h
theorem Ap {x y:Rat} (h:0<y):Uo (y*x)=Uo x:=by
 unfold Uo;have h1:y*x<0↔x<0:=by
  constructor
  ·intro h2;rcases Vl (a:=0) (b:=x) with h3 | h3
   ·have:=Rat.mul_nonneg (Qm h) h3; grind
   ·rcases Vx.1 h3 with h4 | h4
    ·exact h4
    ·rw [h4] at h2; grind
  ·intro h2;have:=Vv h (show 0 < -x by grind);grind
 have h2:0<y*x↔0<x:=by
  constructor
  ·intro h2;rcases Vl (a:=x) (b:=0) with h3 | h3
   ·have:=Rat.mul_nonneg (Qm h) (show 0<=-x by grind); grind
   ·rcases Vx.1 h3 with h4 | h4
    ·exact h4
    ·rw [<-h4] at h2; grind
  ·intro h2; exact Vv h h2
 simp only [h1,h2]
theorem Q38 (z:Int):Mj z 0=Uo (z:Rat):=by
 unfold Mj Uo;have h1:((z:Int):Rat)<0↔z<0:=by
  have := @Rat.intCast_lt_intCast z 0; simpa using this
 have h2:0<((z:Int):Rat)↔0<z:=by
  have := @Rat.intCast_lt_intCast 0 z; simpa using this
 simp only [h1,h2]
theorem To (p:List Int) (q:Rat):U4 p q=Uo (Ug p q):=by
 have hd0:(0:Rat)<((q.den:Int):Rat):=by
  have := @Rat.intCast_lt_intCast 0 (q.den:Int);rw [show ((0:Int):Rat)=0 from rfl] at this;exact this.2 (den_pos q)
 have hd:((q.den:Int):Rat)≠0:=by intro h; rw [h] at hd0; exact absurd hd0 (by decide)
 obtain ⟨_,h⟩:=Qo4 p q.num q.den hd p.length (Qk _);rw [Yb,X6,Gf,Zp] at h;unfold U4;rw [Q38,<-Ap hd0,Ww];show Uo ((((S0 p q.num q.den p.length).1:Int):Rat)*_)=_;rw [h,Ap (Qn9 hd0 _)]
def cz (p:List Int):List Rat:=p.map λz:Int=>(z:Rat)
theorem Ue (t:Rat):∀ p,ev (cz p) t=Ug p t
 | []=>rfl
 | a::p=>by have:=Ue t p; simp only [cz,Zw,ev,Ug] at *; rw [this]
theorem Tg:∀ (p:List Int) (k:Nat),(cz p).getD k 0=((p.getD k 0:Int):Rat)
 | [],k=>by simp [cz]
 | a::p,0=>by simp [cz]
 | a::p,k+1=>by have:=Tg p k; simp only [cz,Zw,Q0] at *; exact this
theorem My {p q:List Int} (h:∀ t,Ug p t=Ug q t) (k:Nat):p.getD k 0=q.getD k 0:=by
 have:=Mr (p:=cz p) (q:=cz q) (λt=>by rw [Ue,Ue,h]) k;rw [Tg,Tg] at this
 exact_mod_cast this
theorem Qc7 {p q:List Int} (hp:Uf p) (hq:Uf q) (h:∀ k,p.getD k 0=q.getD k 0):p=q:=by
 have key:∀ {p q:List Int},Uf p->Uf q->(∀ k,p.getD k 0=q.getD k 0)->p.length<=q.length:=λ{p q} hp hq h=>by
  rcases Q5 q.length p.length with e | e
  ·have:=Gh hp (by omega);rw [h,Qg,Qr (by omega)] at this;exact absurd rfl this
  ·exact e
 exact Qhy (V2 (key hp hq h) (key hq hp λk=>(h k).symm)) λj _=>h j
theorem Qyl {p q:List Int} (hp:Uf p) (hq:Uf q) (h:∀ t,Ug p t=Ug q t):p=q:=Qc7 hp hq (My h)
theorem Zcf {p:List Int} (hp:Uf p) (h:∀ t,Ug p t=0):p=[]:=Qyl hp rfl λt=>by rw [h]; rfl
theorem Bl {p:List Int} (h:p.length=0) (t:Rat):Ug p t=0:=by rw [Qh h]; rfl
theorem Qyj:∀ (p r:List Int) (t:Rat),(∀ k,r.getD k 0=p.getD (k+1) 0*((k+1:Nat):Int))->Ug r t=dv (cz p) t
 |
  [],r,t,h=>by
  rw [Qyk (q:=[]) (λk=>by rw [h]; simp) t]; rfl
 |
  a::p,r,t,h=>by
  have ih:=Qyj p (U3 p) t λk=>Ts p k
  have e:Ug r t=Ug p t+t*Ug (U3 p) t:=by
   have:=Mz 1 1 t (max (max p.length (0::U3 p).length) r.length) p (0::U3 p) r (by omega) (by omega) (by omega) λk=>by
    rw [h,Q0];cases k with
    | zero=>simp
    | succ k=>rw [Q0,Ts]; push_cast; grind
   rw [this]; simp only [Ug]; push_cast; grind
  rw [e,ih];show _=ev (cz p) t+t*dv (cz p) t;rw [Ue]
theorem Dn (p:List Int) (t:Rat):Ug (U3 p) t=dv (cz p) t:=Qyj p _ t λk=>Ts p k
theorem Qap {p:List Int} (hp:Uf p) (h:0<p.length):HD (cz p) (p.length-1):=by
 refine ⟨?_,λk hk=>?_⟩
 ·rw [Tg];have:=Gh hp h;exact λe=>this (by exact_mod_cast e)
 ·rw [Tg,Qg,Qr (by omega)]; rfl
theorem Qe6 {p:List Int} (hp:Uf p) (h:0<p.length):¬∀ t,Ug p t=0:=λh0=>by
 rw [Zcf hp h0] at h; exact absurd h (by simp)
theorem Sb {a b c:List Int} (ha:Uf a) (hb:Uf b) (hc:Uf c) (h:∀ t,Ug c t=Ug a t*Ug b t) (la:0<a.length) (lb:0<b.length):c.length=a.length+b.length-1:=by
 have h1:=Qd6 (Qap ha la) (Qap hb lb);have h2:HD (cz c) (a.length-1+(b.length-1)):=Q5l (λt=>by rw [Ui,Ue,Ue,Ue,h]) h1;have lc:0<c.length:=by
  rcases Qx c.length with e | e
  ·exact absurd (λt=>by rw [Ue]; exact Bl e t) (Qxq h2)
  ·exact e
 have:=Zeq (Qap hc lc) h2;omega
theorem Qrr:∀ (n m:Nat),m<=n->2<=m->∃ P,2<=P/\P∣m/\∀ d,2<=d->d∣P->d=P
 | 0,m,h,h2=>by omega
 |
  n+1,m,h,h2=>by
  rcases Classical.em (∃ d,2<=d/\d<m/\d∣m) with ⟨d,d1,d2,d3⟩ | h0
  ·obtain ⟨P,p1,p2,p3⟩:=Qrr n d (by omega) d1;exact ⟨P,p1,Nat.dvd_trans p2 d3,p3⟩
  ·refine ⟨m,h2,Nat.dvd_refl m,λd d1 d2=>?_⟩;rcases Y3 (Vs (by omega) d2) with e | e
   ·exact absurd ⟨d,d1,e,d2⟩ h0
   ·exact e
theorem Qm6 {P:Nat} (h2:2<=P) (hP:∀ d,2<=d->d∣P->d=P) {x y:Int} (h:(P:Int)∣x*y):(P:Int)∣x\/(P:Int)∣y:=by
 have h:=Xj.2 h;rw [Jt,Zx] at h;have hg:=Kg P x.natAbs;rcases Q5 (Nat.gcd P x.natAbs) 2 with e | e
 ·right;have h1:Nat.gcd P x.natAbs=1:=by
   have:=Nat.gcd_pos_of_pos_left x.natAbs (show 0<P by omega); omega
  have:=Nat.Coprime.dvd_of_dvd_mul_left h1 h;exact Xj.1 (by rwa [Zx])
 ·left;have:=hP _ e hg;have h3:=Wm P x.natAbs;rw [this] at h3;exact Xj.1 (by rwa [Zx])
def Qsu (P:Int) (l:List Int):Prop:=∀ k,P∣l.getD k 0
theorem Qdh {P:Nat} (h2:2<=P) (hP:∀ d,2<=d->d∣P->d=P):∀ (n:Nat) (b h c:List Int),b.length+h.length<=n->(∀ t,Ug c t=Ug b t*Ug h t)->Qsu P c->Qsu P b\/Qsu P h
 | _,[],h,c,_,_,_=>.inl λk=>by simp
 | _,x::b,[],c,_,_,_=>.inr λk=>by simp
 | 0,x::b,y::h,c,hn,_,_=>by simp at hn
 |
  n+1,x::b,y::h,c,hn,hc,hd=>by
  simp only [Q8] at hn;by_cases hx:(P:Int)∣x
  ·-- x h is taken away
   have e:∀ t,Ug (0::Fu b (y::h)) t=Ug (Tj c (Uu (y::h) x)) t:=λt=>by
    rw [Bw,Gy,hc]; simp only [Ug]; rw [Fc]; simp only [Ug]; push_cast; grind
   have hd':Qsu P (Fu b (y::h)):=λk=>by
    have:=My e (k+1);rw [Q0,Nw,H3] at this;rw [this];exact Int.dvd_sub (hd (k+1)) (Vq hx (Kf _ _))
   rcases Qdh h2 hP n b (y::h) _ (by simp only [Q8]; omega) (λt=>Fc _ _ t) hd' with h1 | h1
   ·refine .inl λk=>?_
    cases k with
    | zero=>rw [Zo]; exact hx
    | succ k=>rw [Q0]; exact h1 k
   ·exact .inr h1
  ·have h0:(P:Int)∣y:=by
    have e:c.getD 0 0=x*y:=by
     have:=My (p:=c) (q:=Fu (x::b) (y::h)) (λt=>by rw [hc,Fc]) 0;have e2:=My (p:=Fu (x::b) (y::h)) (q:=Qal (Uu (y::h) x) (0::Fu b (y::h))) (λt=>by
      rw [Q6p,Gy,Fc]; simp only [Ug]; rw [Fc]; simp only [Ug]; push_cast; grind) 0
     rw [this,e2,Qlg,H3,Zo,Zo,Vf]; omega
    have:=hd 0;rw [e] at this;rcases Qm6 h2 hP this with h1 | h1
    ·exact absurd h1 hx
    ·exact h1
   have e:∀ t,Ug (0::Fu (x::b) h) t=Ug (Tj c (Uu (x::b) y)) t:=λt=>by
    rw [Bw,Gy,hc]; simp only [Ug]; rw [Fc]; simp only [Ug]; push_cast; grind
   have hd':Qsu P (Fu (x::b) h):=λk=>by
    have:=My e (k+1);rw [Q0,Nw,H3] at this;rw [this];exact Int.dvd_sub (hd (k+1)) (Vq h0 (Kf _ _))
   rcases Qdh h2 hP n (x::b) h _ (by simp only [Q8]; omega) (λt=>Fc _ _ t) hd' with h1 | h1
   ·exact absurd (by have:=h1 0; rwa [Zo] at this) hx
   ·refine .inr λk=>?_
    cases k with
    | zero=>rw [Zo]; exact h0
    | succ k=>rw [Q0]; exact h1 k
def Prm (b:List Int):Prop:=∀ d:Int,Qsu d b->d∣1
theorem Q48 {a b:List Int} (hb:Prm b):∀ (n:Nat) (c:Int) (h:List Int),c.natAbs<=n->c≠0->(∀ t,(c:Rat)*Ug a t=Ug b t*Ug h t)->∃ h',∀ t,Ug a t=Ug b t*Ug h' t
 | 0,c,h,hn,h0,_=>absurd (by omega) h0
 |
  n+1,c,h,hn,h0,hc=>by
  rcases Q5 c.natAbs 2 with h1 | h1
  ·refine ⟨Uu h c,λt=>?_⟩;have hcc:(c:Rat)*c=1:=by
    have:c*c=1:=by
     rcases (show c=1\/c=-1 by omega) with rfl | rfl <;> rfl
    have:=congrArg (λz:Int=>(z:Rat)) this
    push_cast at this; exact this
   rw [Gy];have:=hc t;have:Ug a t=(c:Rat)*((c:Rat)*Ug a t):=by
    have:(c:Rat)*((c:Rat)*Ug a t)=((c:Rat)*c)*Ug a t:=by grind
    rw [this,hcc]; grind
   rw [this,hc]; grind
  ·obtain ⟨P,p1,p2,p3⟩:=Qrr c.natAbs c.natAbs (Qk _) h1;obtain ⟨d,hd⟩:∃ d,c=(P:Int)*d:=Wa.2 p2;have hall:Qsu P (Uu a c):=λk=>by
    rw [H3,hd]; exact Vq (V9 _ _) (Kf _ _)
   have hP0:(P:Rat)≠0:=by
    have:((0:Nat):Rat)<(P:Rat):=Y8.2 (by omega);grind
   rcases Qdh p1 p3 _ b h (Uu a c) (Qk _) (λt=>by rw [Gy,Ww,hc]) hall with e | e
   ·have:=hb P e;have:=Xj.2 this;rw [Zx] at this;have:=Vs (by decide) this;exact absurd this (by show ¬P<=1; omega)
   ·refine Q48 hb n d (h.map (· / (P:Int))) ?_ (λe0=>h0 (by rw [hd,e0,Vg])) λt=>?_
    ·rw [hd,Jt,Zx] at hn h1;have:2*d.natAbs<=P*d.natAbs:=Qw _ p1;omega
    ·have e1:Ug h t=(P:Rat)*Ug (h.map (· / (P:Int))) t:=by
      have:=Mz P 0 t (max h.length (h.map (· / (P:Int))).length) (h.map (· / (P:Int))) [] h (by omega) (by simp) (by omega) λk=>by
       have:=e k;have e2:(h.map (· / (P:Int))).getD k 0=h.getD k 0 / (P:Int):=by
        rw [Qg,Qg,Q7];cases h[k]? <;> simp
       rw [e2,Kr this]; simp
      rw [this]; simp only [Ug]; push_cast; grind
     have:=hc t;rw [hd,e1] at this
     push_cast at this
     have h3:(P:Rat)*((d:Rat)*Ug a t)=(P:Rat)*(Ug b t*Ug (h.map (· / (P:Int))) t):=by grind
     have h4:=Jo.1 (show (P:Rat)*((d:Rat)*Ug a t-Ug b t*Ug (h.map (· / (P:Int))) t)=0 by grind);rcases h4 with h4 | h4
     ·exact absurd h4 hP0
     ·grind
theorem Qkb:∀ u:List Rat,∃ c:Int,c≠0/\∃ h:List Int,∀ t,(c:Rat)*ev u t=Ug h t
 | []=>⟨1,by decide,[],λt=>by simp only [ev,Ug]; grind⟩
 |
  a::u=>by
  obtain ⟨c,hc,h,hh⟩:=Qkb u;refine ⟨c*(a.den:Int),Jg hc (by have:=a.den_nz; omega),(c*a.num)::Uu h (a.den:Int),λt=>?_⟩;have e:(a.den:Rat)*a=a.num:=by
   rw [Ww];have:(a.num:Rat) / (((a.den:Int)):Rat)=a:=by rw [Gf,Zp]
   have hd:(a.den:Rat)≠0:=by
    have:((0:Nat):Rat)<(a.den:Rat):=Y8.2 a.den_pos;grind
   have h2:(a.num:Rat) / (a.den:Rat)*(a.den:Rat)=a.num:=Zh hd;rw [show (a.num:Rat) / (a.den:Rat)=a from this] at h2; exact h2
  simp only [ev,Ug];rw [Gy,<-hh]
  push_cast
  rw [<-e];have e3:(((a.den:Int)):Rat)=(a.den:Rat):=rfl;grind
theorem Q47 {a b:List Int} (hb:Prm b) (h:Az (cz b) (cz a)):∃ h',Uf h'/\∀ t,Ug a t=Ug b t*Ug h' t:=by
 obtain ⟨u,hu⟩:=h;obtain ⟨c,hc,h,hh⟩:=Qkb u;obtain ⟨h',e⟩:=Q48 hb c.natAbs c h (Qk _) hc λt=>by
  have:=hu t;rw [Ue,Ue] at this;rw [this,<-hh]; grind
 exact ⟨trim h',Gu _,λt=>by rw [Eg,e]⟩
def sd (x0:Rat):List Rat->List Rat
 | []=>[]
 | _::p=>Hx p (Pm x0 (sd x0 p))
theorem Q4x (x0 x:Rat):∀ p,ev (sd x0 p) x=dq p x x0
 | []=>rfl
 | a::p=>by simp only [sd,dq]; rw [U5,Uw,Q4x x0 x p]
theorem Qvl (x0:Rat):∀ (g:List Rat) (n:Nat),(∀ j,n<j->g.getD j 0=0)->∀ j,n<=j->(sd x0 g).getD j 0=0
 | [],n,_,j,_=>by simp [sd]
 |
  a::p,0,h,j,_=>by
  have hp:∀ j,p.getD j 0=0:=λj=>by have:=h (j+1) (by omega); rwa [Q0] at this
  simp only [sd];rw [G5,Hu,hp,Qvl x0 p 0 (λj _=>hp j) j (Qi _)]; grind
 |
  a::p,n+1,h,j,hj=>by
  have hp:∀ j,n<j->p.getD j 0=0:=λj hj=>by have:=h (j+1) (by omega); rwa [Q0] at this
  simp only [sd];rw [G5,Hu,hp j (by omega),Qvl x0 p n hp j (by omega)]; grind
theorem Qub {K:Rat} (hK:0≤K):∀ (e:Nat) (g:List Rat) (pts:List Int) (M:Rat),pts.length=e+1->pts.Nodup->(∀ x∈pts,Uk (x:Rat)≤K)->(∀ k,e<k->g.getD k 0=0)->(∀ x∈pts,Uk (ev g (x:Rat))≤M)->∀ k,Uk (g.getD k 0)≤(2*K+3)^e*M
 | _,_,[],_,h,_,_,_,_=>by simp at h
 |
  0,g,x0::xs,M,_,_,_,hg,hM=>λk=>by
  have h0:=hM x0 (by simp);rw [Xd];cases k with
  |
   zero =>
   have e:ev g (x0:Rat)=g.getD 0 0:=by
    cases g with
    | nil=>rfl
    |
     cons a p =>
     have hp:=Bu (p:=p) λj=>by have:=hg (j+1) (by omega); rwa [Q0] at this
     simp only [ev,hp,Zo]; grind
   rw [<-e]; grind
  |
   succ k =>
   rw [hg (k+1) (by omega),G8];have:=Gj (ev g (x0:Rat)); grind
 |
  e+1,g,x0::xs,M,hl,hn,hb,hg,hM=>λk=>by
  have hx0:=hb x0 (by simp);have hM0:=hM x0 (by simp);have hMn:0<=M:=Q6 (Gj _) hM0;rw [List.nodup_cons] at hn;have ih:=Qub hK e (sd x0 g) xs (2*M) (by simpa using hl) hn.2 (λx hx=>hb x (by simp [hx])) (λj hj=>Qvl _ g (e+1) hg j (by omega)) λx hx=>by
   have h1:=hM x (by simp [hx]);have h2:=Qkm (x:Rat) (x0:Rat) g;rw [<-Q4x] at h2;have hne:x-x0≠0:=λh=>hn.1 (by rw [show x0=x by omega]; exact hx)
   have h3:=Al hne;rw [Rat.intCast_sub] at h3;have h4:Uk (ev g (x:Rat)-ev g (x0:Rat))<=2*M:=by
    have:=Rp (ev g (x:Rat)) (-ev g (x0:Rat));rw [Cn,show ev g (x:Rat)+-ev g (x0:Rat)=ev g (x:Rat)-ev g (x0:Rat) by grind] at this;clear hM hb hg; grind
   rw [h2,Cm] at h4;have h5:=Q3 h3 (Gj (ev (sd x0 g) x));clear hM hb hg; grind
  have e1:∀ t,ev g t=ev (Hx [ev g x0] (Hx (Pm (-x0) (sd x0 g)) (0::sd x0 g))) t:=λt=>by
   have:=Qkm t (x0:Rat) g;rw [<-Q4x] at this;simp only [U5,Uw,ev];grind
  have hp1:1<=(2*K+3)^e:=(O7 (R:=2*K+3) (x:=0) (by grind) (by rw [G8]; grind) e).2;have hpM:=Ph (x:=(2*K+3)^e) (y:=M) (by grind) hMn;have hpM1:=Q3 hp1 hMn;rw [Z9,Mr e1 k,G5,G5,Hu];have a1:=ih k;have a2:Uk (-(x0:Rat)*(sd (x0:Rat) g).getD k 0)<=K*((2*K+3)^e*(2*M)):=Fx (by rw [Cn]; exact hx0) a1;have fin:∀ u v w:Rat,Uk u<=M->Uk v<=K*((2*K+3)^e*(2*M))->Uk w<=(2*K+3)^e*(2*M)->Uk (u+(v+w))<=(2*K+3)^e*(2*K+3)*M:=λu v w h1 h2 h3=>by
   have b1:=Rp u (v+w);have b2:=Rp v w;clear ih e1 hM hb hg a1 a2; grind
  refine fin _ _ _ ?_ a2 ?_
  ·cases k with
   | zero=>rw [Zo]; exact hM0
   | succ k=>rw [Q0,Ke,G8]; exact hMn
  ·cases k with
   | zero=>rw [Zo,G8]; clear ih e1 hM hb hg a1 a2 fin; grind
   | succ k=>rw [Q0]; exact ih k
theorem Q7h {g:List Rat} {e:Nat} (hg:∀ k,e<k->g.getD k 0=0) (hz:¬∀ t,ev g t=0) {pts:List Int} (hn:pts.Nodup) (hr:∀ x∈pts,ev g (x:Rat)=0):pts.length≤e:=by
 rcases Q5 e pts.length with h | h
 ·exfalso;obtain ⟨K,hK,hb⟩:∃ K:Rat,0≤K/\∀ x∈pts,Uk (x:Rat)≤K:=by
   clear hn hr h
   induction pts with
   | nil=>exact ⟨0,by decide,λx hx=>by cases hx⟩
   |
    cons y pts ih =>
    obtain ⟨K,h1,h2⟩:=ih;refine ⟨K+Uk (y:Rat),by have:=Gj (y:Rat); grind,λx hx=>?_⟩;have hy:=Gj (y:Rat);rcases Qq.1 hx with rfl | hx
    ·grind
    ·have:=h2 x hx; grind
  refine hz (Bu λk=>?_);have:=Qub hK e g (pts.take (e+1)) 0 (by rw [Qy]; omega) (hn.sublist (Wl ..)) (λx hx=>hb x (Qn hx)) hg (λx hx=>by rw [hr x (Qn hx),G8]; exact Ql) k;have h2:=Gj (g.getD k 0);exact Zcq (by grind)
 ·exact h
def spots:List Int:=(List.range 19).map λi:Nat=>(i:Int)-9
theorem spots_nd:spots.Nodup:=by decide
theorem Qsb:∀ x∈spots,x.natAbs≤9:=by decide
theorem Qh1 {α:Type} (p:α->Bool):∀ l:List α,(l.filter p).length+(l.filter λx => !p x).length=l.length
 | []=>rfl
 |
  x::l=>by
  have:=Qh1 p l;cases h:p x <;> simp [h] <;> omega
def geo:Nat->Nat
 | 0=>0
 | n+1=>1+9*geo n
theorem Qxi {B:Rat}:∀ (p:List Int),(∀ z∈p,Uk (z:Rat)≤B)->evB 9 (cz p)≤B*(geo p.length:Nat)
 | [],_=>by simp only [cz,Jf,evB,geo,Ks]; rw [show ((0:Nat):Rat)=0 from rfl]; grind
 |
  a::p,h=>by
  have h1:=Qxi p λz hz=>h z (Qj _ hz)
  have h2:=h a (Qt ..);simp only [cz,Zw,evB,geo,Q8] at *
  push_cast
  clear h; grind
theorem Q5f {m n:Nat} (h:m<=n):geo m<=geo n:=by
 induction h with
 | refl=>exact Qk _
 | step h ih=>simp only [geo]; omega
def pz:List Int->Int->Int
 | [],_=>0
 | a::p,x=>a+x*pz p x
theorem Qbc (x:Int):∀ p,Ug p (x:Rat)=((pz p x:Int):Rat)
 | []=>rfl
 | a::p=>by simp only [Ug,pz,Qbc x p]; push_cast; rfl
theorem Ru (z:Int):Uk (z:Rat)=((z.natAbs:Nat):Rat):=by
 unfold Uk;rcases Kq z 0 with h | h
 ·have h1:(z:Rat)<((0:Int):Rat):=X5.2 h;rw [if_pos (by simpa using h1)];have:(z.natAbs:Int)=-z:=by omega
  have:=congrArg (λu:Int=>(u:Rat)) this
  push_cast at this
  exact this.symm
 ·have h1:((0:Int):Rat)<=(z:Rat):=Je.2 h;have h1:(0:Rat)<=(z:Rat):=by simpa using h1
  rw [if_neg (by grind)];have:(z.natAbs:Int)=z:=by omega
  have:=congrArg (λu:Int=>(u:Rat)) this;exact this.symm
theorem Aa {p g h:List Int} {s:Nat} (hp:Bd s p) (hl:p.length<=10) (tp:Uf p) (tg:Uf g) (th:Uf h) (h0:p.length≠0) (e:∀ t,Ug p t=Ug g t*Ug h t):Bd (s+69) g:=by
 have lg:0<g.length:=by
  rcases Qx g.length with e' | e'
  ·exact absurd (λt=>by rw [e,Bl e']; grind) (Qe6 tp (by omega))
  ·exact e'
 have lh:0<h.length:=by
  rcases Qx h.length with e' | e'
  ·exact absurd (λt=>by rw [e,Bl e']; grind) (Qe6 tp (by omega))
  ·exact e'
 have hlen:=Sb tg th tp e lg lh;obtain ⟨q,hq⟩:=nmE (spots.filter λx => !decide (pz p x=0));have hr:(spots.filter λx=>decide (pz p x=0)).length<=9:=by
  refine Q7h (g:=cz p) (e:=9) (λk hk=>?_) (λh=>Qe6 tp (by omega) λt=>by rw [<-Ue]; exact h t) (spots_nd.sublist List.filter_sublist) λx hx=>?_
  ·rw [Tg,Qg,Qr (by omega)]; rfl
  ·have:=(Wy.1 hx).2;rw [Ue,Qbc,of_decide_eq_true this]; rfl
 have hc:=Qh1 (λx=>decide (pz p x=0)) spots;rw [<-hq] at hc;have hsl:spots.length=19:=by decide
 have hB:∀ z∈p,Uk (z:Rat)≤((2^s:Nat):Rat):=λz hz=>by
  rw [Ru];have:=hp z hz;rw [H7] at this;exact Q9.2 (Jr this)
 have key:=Qub (K:=9) (by decide) 9 (cz g) (q.take 10) (((2^s*435848050:Nat)):Rat) (by rw [Qy]; omega) ((spots_nd.sublist (by rw [hq]; exact List.filter_sublist)).sublist (Wl ..)) (λx hx=>by
  have hx:=Qn hx;rw [hq] at hx;have:=Qsb x (Wy.1 hx).1;rw [Ru]
  exact_mod_cast Q9.2 this) (λk hk=>by rw [Tg,Qg,Qr (by omega)]; rfl) (λx hx=>by
  have hx:=Qn hx;rw [hq] at hx;obtain ⟨hx1,hx2⟩:=Wy.1 hx;have hne:pz p x≠0:=by simpa using hx2
  have e1:=e (x:Rat);rw [Qbc,Qbc,Qbc] at e1;have e2:pz p x=pz g x*pz h x:=by exact_mod_cast e1
  have hh:1<=(pz h x).natAbs:=by
   rcases Qx (pz h x).natAbs with e' | e'
   ·exact absurd (by rw [e2,Int.natAbs_eq_zero.1 e',Vg]) hne
   ·exact e'
  have h3:(pz g x).natAbs<=(pz p x).natAbs:=by
   rw [e2,Jt];exact Jl _ hh
  rw [Ue,Qbc,Ru];refine Q6 (Q9.2 h3) ?_;rw [<-Ru,<-Qbc,<-Ue];refine Q6 (Qe7 (R:=9) (by
   have:=Qsb x hx1;rw [Ru]
   exact_mod_cast Q9.2 this) _) ?_
  refine Q6 (Qxi p hB) ?_;have:2^s*geo p.length<=2^s*435848050:=Zf _ (Qa (Q5f hl) (by decide));have:=Q9.2 this
  push_cast at this ⊢
  exact this)
 refine Qg0 λk=>?_
 have h1:=key k;rw [Tg,Ru] at h1;have e3:(2*(9:Rat)+3)^9*((2^s*435848050:Nat):Rat)=(((794280046581*(2^s*435848050)):Nat):Rat):=by
  rw [show (2*(9:Rat)+3)^9=794280046581 by grind]
  push_cast; rfl
 rw [e3] at h1;have h2:=Q9.1 h1;rw [H7];refine Zy h2 ?_;have:794280046581*(2^s*435848050)=2^s*(794280046581*435848050):=by
  rw [Kc]
 rw [this,Xe];exact Nat.mul_lt_mul_of_pos_left (by decide) (Zv (by decide))
theorem Q4o {l:List Int} {d:Int} (h:∀ z∈l,d∣z):d∣((Gm l:Nat):Int):=by
 have key:∀ (l:List Int) (g:Nat),d.natAbs∣g->(∀ z∈l,d∣z)->d.natAbs∣l.foldl (λg z=>Nat.gcd g z.natAbs) g:=by
  intro l
  induction l with
  | nil=>exact λg h _=>h
  | cons z l ih=>exact λg hg h=>ih _ (Nat.dvd_gcd hg (Xj.2 (h z (Qt ..)))) λu hu=>h u (Qj _ hu)
 have:=key l 0 (Nat.dvd_zero _) h;exact Xj.1 (by rw [Zx]; exact this)
theorem Qb5 (p:List Int) (c:Int) (k:Nat):(p.map (· / c)).getD k 0=p.getD k 0 / c:=by
 rw [Qg,Qg,Q7];cases p[k]? <;> simp
theorem Ma (p:List Int) (c:Int) (k:Nat):(Nm p c).getD k 0=p.getD k 0 / c:=by
 unfold Nm; rw [C4,Qb5]
theorem Qlh {p:List Int} {c:Int} (h:∀ z∈p,c∣z) (t:Rat):Ug p t=(c:Rat)*Ug (Nm p c) t:=by
 have:=Mz c 0 t (max p.length (Nm p c).length) (Nm p c) [] p (by omega) (by simp) (by omega) λk=>by
  rw [Ma];have hd:c∣p.getD k 0:=by
   rw [Qg];cases e:p[k]? with
   | none=>exact Int.dvd_zero _
   | some z=>exact h z (Qc e)
  rw [Kr hd]; simp
 rw [this]; simp only [Ug]; push_cast; grind
theorem Ae {c:Int} (h:c≠0):(c:Rat)≠0:=λe=>h (by exact_mod_cast e)
theorem Cj {p q:List Int} {c:Rat} (tp:Uf p) (tq:Uf q) (hc:c≠0) (h:∀ t,Ug p t=c*Ug q t):p.length=q.length:=by
 have key:∀ {p q:List Int} {c:Rat},Uf p->Uf q->c≠0->(∀ t,Ug p t=c*Ug q t)->p.length<=q.length:=λ{p q c} tp tq hc h=>by
  rcases Q5 q.length p.length with e | e
  ·have h1:=Gh tp (by omega);have:=Mr (p:=cz p) (q:=Pm c (cz q)) (λt=>by rw [Ue,Uw,Ue,h]) (p.length-1);rw [Tg,Hu,Tg,Qg (l:=q),Qr (by omega)] at this;have:((p.getD (p.length-1) 0:Int):Rat)=0:=by rw [this]; simp
   exact absurd (by exact_mod_cast this) h1
  ·exact e
 refine V2 (key tp tq hc h) (key (c:=1 / c) tq tp (λe=>?_) λt=>?_)
 ·have:=Zh (a:=1) hc; rw [e] at this; grind
 ·rw [h]; have:=Zh (a:=1) hc; grind
theorem Ro {p:List Int} (tp:Uf p) (h:p.length≠0):Uf (Uh p)/\(Uh p).length=p.length/\Prm (Uh p)/\0<Un (Uh p)/\(∀ s,Bd s p->Bd s (Uh p))/\Fp p≠0/\∀ t,Ug p t=(Fp p:Rat)*Ug (Uh p) t:=by
 have h0:=Qym tp h;have e:Uh p=Nm p (Fp p):=by unfold Uh; rw [if_neg h]
 have h1:=Qlh (p:=p) (c:=Fp p) Qco;have hl:=Cj tp (As p (Fp p)) (Ae h0) h1;have hcp:0<H2 p:=by
  have:=Ee tp h;unfold H2 at this ⊢; omega
 rw [e];refine ⟨As _ _,hl.symm,λd hd=>?_,?_,λs hs=>Qg1 hs _,h0,h1⟩
 ·have h2:∀ z∈p,d*Fp p∣z:=λz hz=>by
   obtain ⟨i,hi⟩:=Zc.1 hz;have h3:=hd i;rw [Ma,Qg,hi] at h3;obtain ⟨k,hk⟩:=h3;have h4:=Qco z hz;refine ⟨k,?_⟩;have:z / Fp p*Fp p=z:=Kx h4;rw [<-this];rw [show z / Fp p=d*k from hk,Int.mul_right_comm]
  have h3:=Q4o h2;have h4:Fp p∣((Gm p:Nat):Int)/\((Gm p:Nat):Int)∣Fp p:=by
   unfold Fp H2; split
   ·exact ⟨W6.2 (Wn _),Int.dvd_neg.2 (Wn _)⟩
   ·exact ⟨Wn _,Wn _⟩
  obtain ⟨k,hk⟩:=Vq h3 h4.2;refine ⟨k,?_⟩;have:Fp p*(d*k)=Fp p*1:=by rw [K7,<-Int.mul_assoc,Vf (Fp p) d,<-hk]
  exact (Int.eq_of_mul_eq_mul_left h0 this).symm
 ·have h2:Un (Nm p (Fp p))=Un p / Fp p:=by unfold Un; rw [<-hl,Ma]
  have h3:Fp p∣Un p:=Qco _ (Qii h);have h5:Un p / Fp p*Fp p=Un p:=Kx h3;rw [h2];have h6:=Bi tp h;rcases Jx (Un p / Fp p) 0 with e1 | e1 | e1
  ·exfalso;by_cases hn:Un p<0
   ·have:Fp p=-H2 p:=by unfold Fp; rw [if_pos hn]
    have:0<Un p / Fp p*Fp p:=V0 e1 (by omega);omega
   ·have:Fp p=H2 p:=by unfold Fp; rw [if_neg hn]
    have:Un p / Fp p*Fp p<0:=Int.mul_neg_of_neg_of_pos e1 (by omega);omega
  ·rw [e1] at h5; omega
  ·exact e1
theorem Qrm {r:List Int} (tr:Uf r):∃ c:Rat,0<c/\∀ t,Ug r t=c*Ug (Do r) t:=by
 unfold Do;by_cases h:r.length=0
 ·rw [if_pos h]; exact ⟨1,by decide,λt=>by rw [Bl h,Bl rfl]; grind⟩
 ·rw [if_neg h];have h1:0<H2 r:=by
   have:=Ee tr h;unfold H2 at this ⊢; omega
  have h2:((0:Int):Rat)<(H2 r:Rat):=X5.2 h1;exact ⟨H2 r,by simpa using h2,Qlh Cw⟩
theorem Ef (x:Int) (t:Rat):∀ i,Ug (mono i x) t=(x:Rat)*t^i
 | 0=>by simp only [mono,Ky,Yq,Ug,Xd]; grind
 |
  i+1=>by
  have ih:=Ef x t i;simp only [mono,Jz,Xn,Ug] at *;rw [ih,Z9]; push_cast; grind
theorem Qnv (x:Int) (b:List Int) (i k:Nat):(Fu (trim (mono i x)) b).getD k 0=if i<=k then x*b.getD (k-i) 0 else 0:=by
 have e:∀ t,Ug (Fu (trim (mono i x)) b) t=Ug (List.replicate i 0++b.map (x * ·)) t:=λt=>by
  rw [Fc,Eg,Ef];have h2:∀ i,Ug (List.replicate i 0++b.map (x * ·)) t=t^i*((x:Rat)*Ug b t):=λi=>by
   induction i with
   |
    zero =>
    simp only [Ky,Yq,Xd];have:=Mz x 0 t (max b.length (b.map (x * ·)).length) b [] (b.map (x * ·)) (by omega) (by simp) (by omega) λk=>by
     rw [Qg,Qg,Q7];cases b[k]? <;> simp
    rw [this]; simp only [Ug]; push_cast; grind
   | succ i ih=>simp only [Jz,Xn,Ug,ih,Z9]; push_cast; grind
  rw [h2]; grind
 rw [My e k,Qg,List.getElem?_append,X8];by_cases h:i<=k
 ·rw [if_neg (by omega),if_pos h,Q7,Qg];cases b[k-i]? <;> simp
 ·rw [if_pos (by omega),if_neg h,Jw,if_pos (by omega)]; rfl
theorem Qnl {p:List Int} {n:Nat} (tp:Uf p) (h:p.length<=n+1) (h0:p.getD n 0=0):p.length<=n:=by
 rcases Q5 n p.length with e | e
 ·have:=Gh tp (by omega);rw [show p.length-1=n by omega] at this;exact absurd h0 this
 ·exact e
theorem Zdj {b r:List Int} {i:Nat} (tr:Uf r) (h:r.length<=b.length+i) (hb:b.length≠0) {x:Int} (hx:x=if r.length=b.length+i then Un r else 0):(str b (Un b) i x r).length<b.length+i:=by
 have hl:=Qnn (c:=Un b) (x:=x) (i:=i) (b:=b) (r:=r);have:=Qnl (p:=str b (Un b) i x r) (n:=b.length+i-1) (Us _ _) (by omega) (by
  unfold str;rw [Nw,H3,Qnv,if_pos (by omega),hx,show b.length+i-1-i=b.length-1 by omega]
  split
  ·rename_i he;unfold Un;rw [he,Int.sub_eq_zero]
  ·rw [Qg (l:=r),Qr (by omega)]; simp)
 omega
theorem Q8i (b r:List Int) (c:Int) (i:Nat) (x:Int) (t:Rat):(c:Rat)*Ug r t=(x:Rat)*t^i*Ug b t+Ug (str b c i x r) t:=by
 unfold str;rw [Bw,Gy,Fc,Eg,Ef]; grind
theorem Q6w (b:List Int) (c:Int):∀ (i:Nat) (q r:List Int),∃ X:List Rat,∀ t,((c^i:Int):Rat)*Ug r t=ev X t*Ug b t+Ug (psd b c i (q,r)).2 t
 | 0,q,r=>⟨[],λt=>by simp only [psd,ev]; rw [Int.pow_zero]; push_cast; grind⟩
 |
  i+1,q,r=>by
  obtain ⟨x,hx⟩:=nmE (if r.length=b.length+i then Un r else 0);obtain ⟨X,hX⟩:=Q6w b c i (stq c i x q) (str b c i x r);obtain ⟨m,hm⟩:∃ m:List Rat,∀ t,ev m t=(x:Rat)*t^i:=⟨cz (mono i x),λt=>by rw [Ue,Ef]⟩;refine ⟨Hx (Pm ((c^i:Int):Rat) m) X,λt=>?_⟩;rw [I9 hx,U5,Uw,hm];have h1:=hX t;have h2:=Q8i b r c i x t;rw [Int.pow_succ]
  push_cast at h1 ⊢
  have:(c:Rat)^i*c*Ug r t=(c:Rat)^i*((c:Rat)*Ug r t):=by grind
  rw [this,h2]; grind
theorem Qoa {b:List Int} (hb:b.length≠0):∀ (i:Nat) (q r:List Int),Uf r->r.length<b.length+i->Uf (psd b (Un b) i (q,r)).2/\(psd b (Un b) i (q,r)).2.length<b.length
 | 0,q,r,tr,h=>⟨tr,h⟩
 |
  i+1,q,r,tr,h=>by
  rw [I9 rfl];exact Qoa hb i _ _ (Us _ _) (Zdj tr (by omega) hb rfl)
theorem Q6v {b:List Int} {c:Int} {t:Nat} (hb:Bd t b) (hc:Ul c<=t):∀ (i u:Nat) (q r:List Int),i<=64->Bd u r->Bd (u+i*(t+8)) (psd b c i (q,r)).2
 | 0,u,q,r,_,h=>by simpa [psd] using h
 |
  i+1,u,q,r,hi,h=>by
  rw [I9 rfl];have hx:Ul (if r.length=b.length+i then Un r else 0)<=u:=by
   split
   ·exact Po h
   ·rw [Pp]; exact Qi _
  have:=Q6v hb hc i (u+t+8) (stq c i (if r.length=b.length+i then Un r else 0) q) (str b c i (if r.length=b.length+i then Un r else 0) r) (by omega) (Qsz h hb hc hx (by omega));exact W9 this (by rw [Xc]; omega)
theorem Qiw {c:Int} (h:c<0):∀ k:Nat,(k % 2=1->c^k<0)/\(k % 2=0->0<c^k)
 | 0=>⟨λh=>by omega,λ_=>by rw [Int.pow_zero]; decide⟩
 |
  k+1=>by
  obtain ⟨i1,i2⟩:=Qiw h k;rw [Int.pow_succ];exact ⟨λhk=>Vz (i2 (by omega)) h,λhk=>V0 (i1 (by omega)) h⟩
theorem Qcv {a b:List Int} (ta:Uf a) (tb:Uf b) (hb:b.length≠0) (hl:a.length<=60):Uf (Fz a b)/\(Fz a b).length<b.length/\(∀ s,Bd s a->Bd s b->Bd (s+(a.length+1-b.length)*(s+8)) (Fz a b)) /\
 ∃ u v:Rat,0<u/\0<v/\∃ X:List Rat,∀ t,u*Ug a t=ev X t*Ug b t+v*Ug (Fz a b) t:=by
 obtain ⟨k,hk⟩:=nmE (a.length+1-b.length);have h1:Uf (Ty a b)/\(Ty a b).length<b.length:=Qoa hb _ _ _ ta (by omega);obtain ⟨X,hX⟩:=Q6w b (Un b) k [] a;have hX:∀ t,(((Un b)^k:Int):Rat)*Ug a t=ev X t*Ug b t+Ug (Ty a b) t:=by unfold Ty; rw [<-hk]; exact hX
 have h2:=Qcr (a:=a) (b:=b) (r:=Ty a b) (n:=(Ty a b).length) (s:=(Ty a b).foldl (λm z=>m+Ul z) 0) h1.1 (Qk _) (λz hz=>by
  have key:∀ (l:List Int) (m:Nat),m≤l.foldl (λm z=>m+Ul z) m/\∀ z∈l,Ul z≤l.foldl (λm z=>m+Ul z) m:=by
   intro l
   induction l with
   | nil=>exact λm=>⟨Qk _,λz hz=>by cases hz⟩
   |
    cons y l ih =>
    intro m;obtain ⟨i1,i2⟩:=ih (m+Ul y);refine ⟨by simp only [Xi]; omega,λz hz=>?_⟩;simp only [Xi];rcases Qq.1 hz with rfl | hz
    ·omega
    ·exact i2 z hz
  exact (key _ 0).2 z hz)
 have h3:=Qiv (r:=Pg a b (Ty a b)) (n:=(Ty a b).length) h2.2.1 h2.2.2;refine ⟨h3.1,by unfold Fz; omega,λs ha hbs=>?_,?_⟩
 ·have h4:=Q6v (c:=Un b) hbs (Po hbs) k s [] a (by omega) ha;have h5:=Qcr (a:=a) (b:=b) (n:=(Ty a b).length) h1.1 (Nat.le_refl _) (show Bd (s+k*(s+8)) (Ty a b) by unfold Ty; rw [<-hk]; exact h4);rw [<-hk];exact (Qiv h5.2.1 h5.2.2).2.2
 ·obtain ⟨v,vp,hv⟩:=Qrm h2.1;have hc:=Bi tb hb;by_cases ht:k % 2=1/\Un b<0
  ·have e1:Pg a b (Ty a b)=Sv (Ty a b):=by unfold Pg; rw [<-hk,if_pos ht]
   have hneg:(Un b)^k<0:=(Qiw ht.2 k).1 ht.1;have h5:(((Un b)^k:Int):Rat)<((0:Int):Rat):=X5.2 hneg;have h5:(((Un b)^k:Int):Rat)<0:=by simpa using h5
   refine ⟨-(((Un b)^k:Int):Rat),v,by grind,vp,Pm (-1) X,λt=>?_⟩;have h6:=hX t;have h7:=hv t;rw [e1,Qcn] at h7;show _=_+v*Ug (Do (Pg a b (Ty a b))) t;rw [e1,<-h7,Uw]; grind
  ·have e1:Pg a b (Ty a b)=Ty a b:=by unfold Pg; rw [<-hk,if_neg ht]
   have hpos:0<(Un b)^k:=by
    rcases V4 hc with h | h
    ·exact (Qiw h k).2 (by omega)
    ·exact Int.pow_pos h
   have h5:((0:Int):Rat)<(((Un b)^k:Int):Rat):=X5.2 hpos;refine ⟨(((Un b)^k:Int):Rat),v,by simpa using h5,vp,X,λt=>?_⟩;have h7:=hv t;show _=_+v*Ug (Do (Pg a b (Ty a b))) t;rw [<-h7,e1,hX]
theorem C9 {p:List Int} (h1:p.length<=64) (h2:Bd 16777216 p):chk p=some p:=by
 unfold chk;rw [if_pos ⟨h1,Yi.2 λz hz=>Nat.ble_eq_true_of_le (h2 z hz)⟩]
theorem Qkk {a b:List Int} {g:List Rat} {c:Rat} (hc:c≠0) (h:∀ t,Ug a t=c*Ug b t):Az g (cz a)↔Az g (cz b):=by
 constructor
 ·rintro ⟨u,hu⟩
  refine ⟨Pm (1 / c) u,λt=>?_⟩;have h1:=hu t;rw [Ue,h] at h1;rw [Ue,Uw];have h2:1 / c*c=1:=Zh hc;have:Ug b t=1 / c*(c*Ug b t):=by grind
  rw [this,h1]; grind
 ·rintro ⟨u,hu⟩
  refine ⟨Pm c u,λt=>?_⟩;have h1:=hu t;rw [Ue] at h1;rw [Ue,Uw,h,h1]; grind
structure Gc (g a b:List Int):Prop where
 t:Uf g
 da:Az (cz g) (cz a)
 db:Az (cz g) (cz b)
 c:∃ U V,∀ t,Ug g t=ev U t*Ug a t+ev V t*Ug b t
 n:g.length≠0
theorem Gc.scale {g a b g' a' b':List Int} {x y z:Rat} (h:Gc g a b) (hx:x≠0) (hy:y≠0) (hz:z≠0) (tg:Uf g') (eg:∀ t,Ug g t=x*Ug g' t) (ea:∀ t,Ug a' t=y*Ug a t) (eb:∀ t,Ug b' t=z*Ug b t):Gc g' a' b':=by
 have hx1:1 / x*x=1:=Zh hx;have hy1:1 / y*y=1:=Zh hy;have hz1:1 / z*z=1:=Zh hz;have hg:∀ c,Az (cz g) c->Az (cz g') c:=λc ⟨u,hu⟩=>⟨Pm x u,λt=>by rw [hu,Ue,Ue,eg,Uw]; grind⟩
 obtain ⟨U,V,hc⟩:=h.c;refine ⟨tg,hg _ ((Qkk hy ea).2 h.da),hg _ ((Qkk hz eb).2 h.db),⟨Pm (1 / x*(1 / y)) U,Pm (1 / x*(1 / z)) V,λt=>?_⟩,?_⟩
 ·have h1:=hc t;have h2:Ug g' t=1 / x*Ug g t:=by rw [eg]; grind
  rw [h2,h1,Uw,Uw,ea,eb];generalize ev U t=u at *;generalize ev V t=v at *;grind
 ·rw [<-Cj h.t tg hx eg]; exact h.n
theorem Zch:∀ d:Nat,1<=d->d+2<=3^d
 | 0,h=>by omega
 | 1,_=>by decide
 | d+2,_=>by have:=Zch (d+1) (by omega); rw [Zj]; omega
theorem Qsk {k:Nat} {a b:List Int} (ta:Uf a) (tb:Uf b) (hb:b.length≠0) (hl:a.length<=60) (hbl:b.length<=60) (hr:Bd 16777216 (Fz a b)) (ih:∃ g,Qev k b (Fz a b)=some g/\Gc g b (Fz a b)):∃ g,Qev (k+1) a b=some g/\Gc g a b:=by
 obtain ⟨h1,h2,h3,u,v,up,vp,X,hX⟩:=Qcv ta tb hb hl;obtain ⟨g,e,hg⟩:=ih;refine ⟨g,?_,?_⟩
 ·simp only [Qev];rw [if_neg hb,C9 (by omega) hr]; exact e
 ·obtain ⟨U,V,hc⟩:=hg.c;obtain ⟨y,hy⟩:=hg.da;obtain ⟨z,hz⟩:=hg.db;have hu:1 / u*u=1:=Fb up;have hv:1 / v*v=1:=Fb vp;refine ⟨hg.t,⟨Pm (1 / u) (Hx (Fo X y) (Pm v z)),λt=>?_⟩,hg.da,⟨Pm (u / v) V,Hx U (Pm (-1 / v) (Fo V X)),λt=>?_⟩,hg.n⟩
  ·have a1:=hX t; have a2:=hy t; have a3:=hz t;rw [Ue,Ue] at a2 a3;rw [Ue,Ue,Uw,U5,Ui,Uw];have:Ug a t=1 / u*(u*Ug a t):=by grind
   rw [this,a1,a2,a3]; grind
  ·have a1:=hX t; have a2:=hc t;rw [Uw,U5,Uw,Ui,a2];have:Ug (Fz a b) t=1 / v*(v*Ug (Fz a b) t):=by grind
   rw [this,show v*Ug (Fz a b) t=u*Ug a t-ev X t*Ug b t by grind,Js,Js,Js];grind
theorem Qza {k:Nat} {a:List Int} (ta:Uf a) (ha:a.length≠0):∃ g,Qev (k+1) a []=some g/\Gc g a [] :=
 ⟨a,rfl,ta,dvd_refl _,⟨[],λt=>by simp only [cz,Jf,ev]; grind⟩,⟨[1],[],λt=>by rw [Hp]; simp only [ev]; grind⟩,ha⟩
theorem Qew {s:Nat}:∀ (k:Nat) (a b:List Int),Uf a->Uf b->b.length<k->b.length<a.length->a.length<=60->Bd s a->Bd s b->(s+8)*3^(a.length-1)<=16777216->∃ g,Qev k a b=some g/\Gc g a b
 | 0,_,_,_,_,h,_,_,_,_,_=>by omega
 |
  k+1,a,b,ta,tb,hk,hab,hl,ba,bb,hs=>by
  by_cases hb:b.length=0
  ·rw [Qh hb]; exact Qza ta (by omega)
  ·obtain ⟨h1,h2,h3,_⟩:=Qcv ta tb hb hl;have h3:=h3 s ba bb;obtain ⟨m,hm⟩:=nmE (a.length-b.length);have e1:a.length+1-b.length=m+1:=by omega
   rw [e1] at h3;have e2:s+(m+1)*(s+8)+8=(m+2)*(s+8):=by
    rw [show m+2=(m+1)+1 by omega,Xc (m+1)]; omega
   have e3:(m+2)*(s+8)*3^(b.length-1)<=(s+8)*3^(a.length-1):=by
    rw [show a.length-1=m+(b.length-1) by omega,Xe,<-Xm,Zd (s+8)];exact Qw _ (Qw _ (Zch m (by omega)))
   have e4:s+(m+1)*(s+8)<=16777216:=by
    have:(m+2)*(s+8)<=(m+2)*(s+8)*3^(b.length-1):=Jl _ (Zv (by decide));omega
   refine Qsk ta tb hb hl (by omega) (W9 h3 e4) (Qew (s:=s+(m+1)*(s+8)) k b (Fz a b) tb h1 (by omega) h2 (by omega) (W9 bb (by omega)) h3 ?_);rw [e2]; omega
def Szz (n s:Nat):Prop:=n<=10/\2*(s+8)*3^(n-1)<=16777216
theorem Q8w {n s:Nat} (hz:Szz n s) {a b:List Int} (ta:Uf a) (tb:Uf b) (la:a.length<=n) (lb:b.length<=n) (ba:Bd s a) (bb:Bd s b) (h0:a.length≠0\/b.length≠0):∃ g,Qev 66 a b=some g/\Gc g a b:=by
 obtain ⟨hn,hz⟩:=hz;have hp:∀ l,l<=n->(s+8)*3^(l-1)<=8388608:=λl hl=>by
  have:(s+8)*3^(l-1)<=(s+8)*3^(n-1):=Zf _ (Zn (by decide) (by omega));rw [Xm] at hz; omega
 rcases Q5 b.length a.length with h | h
 ·exact Qew 66 a b ta tb (by omega) h (by omega) ba bb (by have:=hp a.length la; omega)
 ·by_cases hb:b.length=0
  ·rw [Qh hb]; exact Qza ta (by omega)
  ·obtain ⟨h1,h2,h3,_⟩:=Qcv ta tb hb (by omega);have h3:=h3 s ba bb;have h4:(a.length+1-b.length)*(s+8)<=1*(s+8):=Qw _ (by omega);have h5:=hp b.length lb;have h6:(s+8)*1<=(s+8)*3^(b.length-1):=Zf _ (Zv (by decide));refine Qsk ta tb hb (by omega) (by omega) (W9 h3 (by omega)) (Qew (s:=2*s+8) 65 b (Fz a b) tb h1 (by omega) h2 (by omega) (W9 bb (by omega)) (W9 h3 (by omega)) ?_);rw [show 2*s+8+8=2*(s+8) by omega,Xm]; omega
theorem Qlo:Uh []=[]:=rfl
theorem Ei {a:List Int} (ta:Uf a):Uf (Uh a)/\(Uh a).length=a.length/\(∀ s,Bd s a->Bd s (Uh a))/\∃ c:Rat,c≠0/\∀ t,Ug a t=c*Ug (Uh a) t:=by
 by_cases h:a.length=0
 ·rw [Qh h];exact ⟨rfl,rfl,λs _=>Np,1,by decide,λt=>by rw [Qlo]; grind⟩
 ·obtain ⟨h1,h2,h3,h4,h5,h6,h7⟩:=Ro ta h;exact ⟨h1,h2,h5,_,Ae h6,h7⟩
theorem Qbk {n s:Nat} (hz:Szz n s) {a b:List Int} (ta:Uf a) (tb:Uf b) (la:a.length<=n) (lb:b.length<=n) (ba:Bd s a) (bb:Bd s b) (h0:a.length≠0\/b.length≠0):∃ g,Oa a b=some g/\Gc g a b/\Prm g/\0<Un g:=by
 obtain ⟨a1,a2,a3,x,xn,ax⟩:=Ei ta;obtain ⟨b1,b2,b3,y,yn,bx⟩:=Ei tb;obtain ⟨g,e,hg⟩:=Q8w hz a1 b1 (by omega) (by omega) (a3 s ba) (b3 s bb) (by omega);obtain ⟨g1,g2,g3,g4,g5,g6,g7⟩:=Ro hg.t hg.n;refine ⟨Uh g,?_,hg.scale (Ae g6) xn yn g1 g7 ax bx,g3,g4⟩;unfold Oa; rw [e]; rfl
theorem Q1n {a:List Int} (ta:Uf a):Oa [] a=some (Uh (Uh a)):=by
 unfold Oa;rw [Qlo];by_cases h:(Uh a).length=0
 ·have e:Uh a=[]:=Qh h;rw [e]; rfl
 ·have e:Fz [] (Uh a)=[]:=by
   have e1:Ty [] (Uh a)=[]:=by unfold Ty; rw [show ([]:List Int).length+1-(Uh a).length=0 by simp; omega]; rfl
   unfold Fz;rw [e1];unfold Pg
   split <;> rfl
  have:Qev 66 [] (Uh a)=some (Uh a):=by
   show (if (Uh a).length=0 then _ else _)=_;rw [if_neg h,e]; rfl
  rw [this]; rfl
theorem Q5d {n s:Nat} (hz:Szz n s) {a b:List Int} (ta:Uf a) (tb:Uf b) (la:a.length<=n) (lb:b.length<=n) (ba:Bd s a) (bb:Bd s b) (h0:a.length≠0):∃ g,Qn7 a b=some g/\Gc g a b/\Prm g/\0<Un g:=by
 obtain ⟨a1,a2,a3,x,xn,ax⟩:=Ei ta;obtain ⟨b1,b2,b3,y,yn,bx⟩:=Ei a1;obtain ⟨g,e,hg,h1,h2⟩:=Qbk hz b1 tb (by omega) lb (b3 s (a3 s ba)) bb (by omega);refine ⟨g,?_,hg.scale (x:=1) (y:=x*y) (z:=1) (by decide) (λh=>(Jo.1 h).elim xn yn) (by decide) hg.t (λt=>by grind) (λt=>by rw [ax,bx]; grind) (λt=>by grind),h1,h2⟩;unfold Qn7;rw [Q1n ta]; exact e
theorem Qy9:∀ {p q:List Rat} {m n:Nat},HD p m->HD q n->(Fo p q).getD (m+n) 0=p.getD m 0*q.getD n 0
 | [],q,m,n,h,_=>absurd (by simp) h.1
 |
  a::p,q,0,n,h,h'=>by
  have h1:∀ k,p.getD k 0=0:=λk=>by have:=h.2 (k+1) (by omega); rwa [Q0] at this
  simp only [Fo];rw [G5,Hu,Zo,Z0];cases n with
  | zero=>rw [Zo]; grind
  | succ n=>rw [Q0,Qfd h1]; grind
 |
  a::p,q,m+1,n,h,h'=>by
  have ih:=Qy9 (p:=p) (q:=q) (m:=m) ⟨by have:=h.1; rwa [Q0] at this,λk hk=>by have:=h.2 (k+1) (by omega); rwa [Q0] at this⟩ h';simp only [Fo];rw [G5,Hu,show m+1+n=(m+n)+1 by omega,Q0,h'.2 _ (by omega),ih,Q0]; grind
theorem Qqu {a b c:List Int} (ta:Uf a) (tb:Uf b) (tc:Uf c) (h:∀ t,Ug c t=Ug a t*Ug b t) (la:0<a.length) (lb:0<b.length):Un c=Un a*Un b:=by
 have h1:=Qap ta la;have h2:=Qap tb lb;have h3:=Qy9 h1 h2;have hl:=Sb ta tb tc h la lb;rw [<-Mr (p:=cz c) (λt=>by rw [Ui,Ue,Ue,Ue,h]),Tg,Tg,Tg,show a.length-1+(b.length-1)=c.length-1 by omega] at h3;unfold Un; exact_mod_cast h3
theorem Hb {a b c:List Int} (tc:Uf c) (hc:c.length≠0) (h:∀ t,Ug c t=Ug a t*Ug b t):0<a.length/\0<b.length:=by
 constructor
 ·rcases Qx a.length with e | e
  ·exact absurd (λt=>by rw [h,Bl e]; grind) (Qe6 tc (by omega))
  ·exact e
 ·rcases Qx b.length with e | e
  ·exact absurd (λt=>by rw [h,Bl e]; grind) (Qe6 tc (by omega))
  ·exact e
theorem Qn6 {b:List Int} (tb:Uf b) (hb:b.length≠0):∀ (i:Nat) (a q h:List Int),Uf a->Uf h->(∀ t,Ug a t=Ug b t*Ug h t)->a.length<b.length+i->i<=q.length->(∀ j,j<i->q.getD j 0=0)->∃ q',Qn5 b i a q=some q'/\q'.length=q.length/\∀ t,Ug q' t=Ug q t+Ug h t
 |
  0,a,q,h,ta,th,e,hl,_,_=>by
  have ha:a.length=0:=by
   rcases Qx a.length with e' | e'
   ·exact e'
   ·obtain ⟨p1,p2⟩:=Hb ta (by omega) e;have:=Sb tb th ta e p1 p2; omega
  refine ⟨q,by simp only [Qn5]; rw [if_pos ha],rfl,λt=>?_⟩;have:∀ t,Ug h t=0:=λt=>by
   have:=Qtr (p:=cz b) (q:=cz h) (r:=[]) (λh0=>Qe6 tb (by omega) λt=>by rw [<-Ue]; exact h0 t) (λt=>by rw [Ue,Ue,<-e,Bl ha]; simp only [ev]; grind) t;rwa [Ue] at this
  rw [this]; grind
 |
  i+1,a,q,h,ta,th,e,hl,hq,h0=>by
  simp only [Qn5];by_cases hlt:a.length<b.length+i
  ·rw [if_pos hlt];exact Qn6 tb hb i a q h ta th e hlt (by omega) λj hj=>h0 j (by omega)
  ·rw [if_neg hlt];obtain ⟨p1,p2⟩:=Hb ta (by omega) e;have hln:=Sb tb th ta e p1 p2;have hld:=Qqu tb th ta e p1 p2;have hlb:=Bi tb hb;rw [hld,if_pos (Int.mul_emod_right _ _),Xv _ hlb];have hli:h.length=i+1:=by omega
   have e2:∀ t,Ug (Tj a (Fu (trim (mono i (Un h))) b)) t=Ug b t*Ug (Tj h (mono i (Un h))) t:=λt=>by
    rw [Bw,Bw,Fc,Eg,e]; grind
   have hl2:(Tj a (Fu (trim (mono i (Un h))) b)).length<b.length+i:=by
    have hl:=Qx3 (i:=i) (x:=Un h) (b:=b) (a:=a);unfold sta at hl;have:=Qnl (p:=Tj a (Fu (trim (mono i (Un h))) b)) (n:=b.length+i-1) (Us _ _) (by omega) (by
     rw [Nw,Qnv,if_pos (by omega),show b.length+i-1-i=b.length-1 by omega,show b.length+i-1=a.length-1 by omega];have:Un a=a.getD (a.length-1) 0:=rfl;rw [<-this,hld];unfold Un;rw [Vf,Int.sub_eq_zero])
    omega
   obtain ⟨q',h1,h2,h3⟩:=Qn6 tb hb i _ (q.set i (Un h)) (Tj h (mono i (Un h))) (Us _ _) (Us _ _) e2 hl2 (by simp; omega) λj hj=>by
    rw [Qg,Yc,if_neg (by omega),<-Qg];exact h0 j (by omega)
   refine ⟨q',h1,by rw [h2,X9],λt=>?_⟩;rw [h3,Qn4 q i _ t (by omega),h0 i (by omega),Bw,Ef]
   push_cast; grind
theorem Q7a {a b h:List Int} {s:Nat} (ta:Uf a) (tb:Uf b) (th:Uf h) (ha:a.length≠0) (la:a.length<=10) (ba:Bd s a) (hs:s+69<=16777216) (e:∀ t,Ug a t=Ug b t*Ug h t):I7 a b=some h:=by
 obtain ⟨p1,p2⟩:=Hb ta ha e;have hln:=Sb tb th ta e p1 p2;obtain ⟨q,h1,h2,h3⟩:=Qn6 tb (by omega) (a.length+1-b.length) a (List.replicate (a.length+1-b.length) 0) h ta th e (by omega) (by simp) λj _=>Hi _ _
 have h4:trim q=h:=Qyl (Gu _) th λt=>by rw [Eg,h3,Qli]; grind
 unfold I7;rw [if_neg (by omega),h1];show chk (trim q)=_;rw [h4];exact C9 (by omega) (W9 (Aa ba la ta th tb ha λt=>by rw [e]; grind) (by omega))
end Orq
