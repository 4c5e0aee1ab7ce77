/- T1 T2 T3 T4 T5 T6 T7 T8 T9 T10 T11 T12 T13 T14 T15 T16 T17 T18 -/
import Derived.Test.YtkkhemmhhedniaaGreatPart00
import Derived.Test.YtkkhemmhhedniaaGreatPart05
set_option linter.all false
namespace Orq
def Uk (x:Rat):Rat:=if x<0 then -x else x
theorem Gj (x:Rat):0<=Uk x:=by unfold Uk; split <;> grind
theorem Rm {x b:Rat}:Uk x<=b↔-b<=x/\x<=b:=by unfold Uk; split <;> constructor <;> grind
theorem Qom {x b:Rat}:Uk x<b↔-b<x/\x<b:=by unfold Uk; split <;> constructor <;> grind
theorem Rv (x y:Rat):Uk (x+y)<=Uk x+Uk y:=by unfold Uk; split <;> split <;> split <;> grind
theorem Qy6 (x y:Rat):Uk (x-y)=Uk (y-x):=by unfold Uk; split <;> split <;> grind
theorem Co (x:Rat):Uk (-x)=Uk x:=by unfold Uk; split <;> split <;> grind
theorem G9:Uk 0=0:=by decide
theorem M7 {x:Rat} (h:x≠0):0<Uk x:=by unfold Uk; split <;> grind
theorem Zcv {x:Rat} (h:Uk x=0):x=0:=by unfold Uk at h; split at h <;> grind
theorem Po {x y:Rat} (h1:0<=x) (h2:0<=y):0<=x*y:=Rat.mul_nonneg h1 h2
theorem Ls {x y:Rat} (h1:0<x) (h2:0<y):0<x*y:=Vz h1 h2
theorem S0 {a b c d:Rat} (h0:0<=a) (h1:a<=b) (h2:0<=c) (h3:c<=d):a*c<=b*d:=by
 have e1:=Q4 h1 h2;have e2:=Zl h3 (Q7 h0 h1);exact Q7 e1 e2
theorem Cn (x y:Rat):Uk (x*y)=Uk x*Uk y:=by
 unfold Uk;by_cases h1:x<0 <;> by_cases h2:y<0
 ·have:=Ls (x:=-x) (y:=-y) (by grind) (by grind); simp only [h1,h2,if_true]; split <;> grind
 ·have:=Po (x:=-x) (y:=y) (by grind) (by grind); simp only [h1,h2,if_true,if_false]; split <;> grind
 ·have:=Po (x:=x) (y:=-y) (by grind) (by grind); simp only [h1,h2,if_true,if_false]; split <;> grind
 ·have:=Po (x:=x) (y:=y) (by grind) (by grind); simp only [h1,h2,if_false]; split <;> grind
theorem Fw {x y a b:Rat} (h1:Uk x<=a) (h2:Uk y<=b):Uk (x*y)<=a*b:=by
 rw [Cn]; exact S0 (Gj x) h1 (Gj y) h2
theorem Nq {x y:Rat} (h1:0<x) (h2:0<y):0<x / y:=by rw [Ju]; exact Ls h1 (Rat.inv_pos.2 h2)
theorem Fb {x y:Rat} (h2:0<y):x / y*y=x:=Zi (by grind)
theorem Fz {b d:Rat} (hb:0<=b) (hd:0<d):∃ e:Rat,0<e/\e<=1/\e*b<d:=by
 have h1:0<d / (b+1):=Nq hd (by grind);have h2:d / (b+1)*(b+1)=d:=Fb (by grind);rcases Vp (a:=d / (b+1)) (b:=1) with h | h
 ·exact ⟨d / (b+1),h1,h,by
   have:d / (b+1)*(b+1)=d / (b+1)*b+d / (b+1):=by grind
   grind⟩
 ·refine ⟨1,by decide,by decide,?_⟩;have:1*(b+1)<=d / (b+1)*(b+1):=Q4 h (by grind);grind
def ev:List Rat->Rat->Rat
 | [],_=>0
 | a::p,t=>a+t*ev p t
def dv:List Rat->Rat->Rat
 | [],_=>0
 | _::p,t=>ev p t+t*dv p t
def dq:List Rat->Rat->Rat->Rat
 | [],_,_=>0
 | _::p,x,y=>ev p x+y*dq p x y
def dd:List Rat->Rat->Rat->Rat
 | [],_,_=>0
 | _::p,x,y=>dq p x y+y*dd p x y
theorem Qky (x y:Rat):∀ p,ev p x-ev p y=(x-y)*dq p x y
 | []=>by simp only [ev,dq]; grind
 | a::p=>by have:=Qky x y p; simp only [ev,dq]; grind
theorem Qm9 (y:Rat):∀ p,dq p y y=dv p y
 | []=>rfl
 | a::p=>by simp only [dq,dv,Qm9 y p]
theorem Zem (x y:Rat):∀ p,dq p x y-dv p y=(x-y)*dd p x y
 | []=>by simp only [dv,dq,dd]; grind
 |
  a::p=>by
  have h1:=Zem x y p;have h2:=Qky x y p;simp only [dv,dq,dd]; grind
theorem Zep (p:List Rat) (x y:Rat):ev p x-ev p y=(x-y)*dv p y+(x-y)*(x-y)*dd p x y:=by
 have h1:=Qky x y p;have h2:=Zem x y p;grind
def evB (R:Rat):List Rat->Rat
 | []=>0
 | a::p=>Uk a+R*evB R p
def dqB (R:Rat):List Rat->Rat
 | []=>0
 | _::p=>evB R p+R*dqB R p
def ddB (R:Rat):List Rat->Rat
 | []=>0
 | _::p=>dqB R p+R*ddB R p
theorem Ag {R:Rat} (hR:0<=R):∀ p,0<=evB R p
 | []=>by simp only [evB]; grind
 | a::p=>by have:=Po hR (Ag hR p); have:=Gj a; simp only [evB]; grind
theorem Sx {R:Rat} (hR:0<=R):∀ p,0<=dqB R p
 | []=>by simp only [dqB]; grind
 | a::p=>by have:=Po hR (Sx hR p); have:=Ag hR p; simp only [dqB]; grind
theorem Qhy {R:Rat} (hR:0<=R):∀ p,0<=ddB R p
 | []=>by simp only [ddB]; grind
 | a::p=>by have:=Po hR (Qhy hR p); have:=Sx hR p; simp only [ddB]; grind
theorem Qfg {R x:Rat} (hx:Uk x<=R):∀ p,Uk (ev p x)<=evB R p
 | []=>by simp only [ev,evB,G9]; grind
 |
  a::p=>by
  have h1:=Rv a (x*ev p x);have h2:=Fw hx (Qfg hx p);simp only [ev,evB]; grind
theorem Qqj {R x y:Rat} (hx:Uk x<=R) (hy:Uk y<=R):∀ p,Uk (dq p x y)<=dqB R p
 | []=>by simp only [dq,dqB,G9]; grind
 |
  a::p=>by
  have h1:=Rv (ev p x) (y*dq p x y);have h2:=Fw hy (Qqj hx hy p);have h3:=Qfg hx p;simp only [dq,dqB]; grind
theorem Q4s {R x y:Rat} (hx:Uk x<=R) (hy:Uk y<=R):∀ p,Uk (dd p x y)<=ddB R p
 | []=>by simp only [dd,ddB,G9]; grind
 |
  a::p=>by
  have h1:=Rv (dq p x y) (y*dd p x y);have h2:=Fw hy (Q4s hx hy p);have h3:=Qqj hx hy p;simp only [dd,ddB]; grind
theorem Q49 {R x y:Rat} (hx:Uk x<=R) (hy:Uk y<=R) (p:List Rat):Uk (ev p x-ev p y)<=Uk (x-y)*dqB R p:=by
 rw [Qky,Cn]; exact S0 (Gj _) Qn (Gj _) (Qqj hx hy p)
def H3:List Rat->List Rat->List Rat
 | [],q=>q
 | a::p,[]=>a::p
 | a::p,b::q=>(a+b)::H3 p q
def Pq (c:Rat) (p:List Rat):List Rat:=p.map (c * ·)
def Fl:List Rat->List Rat->List Rat
 | [],_=>[]
 | a::p,q=>H3 (Pq a q) (0::Fl p q)
def Md:List Rat->List Rat
 | []=>[]
 | _::p=>H3 p (0::Md p)
theorem U6 (t:Rat):∀ p q,ev (H3 p q) t=ev p t+ev q t
 | [],q=>by simp only [H3,ev]; grind
 | a::p,[]=>by simp only [H3,ev]; grind
 | a::p,b::q=>by have:=U6 t p q; simp only [H3,ev]; grind
theorem Uw (c t:Rat):∀ p,ev (Pq c p) t=c*ev p t
 | []=>by simp only [Pq,Jg,ev]; grind
 | a::p=>by have:=Uw c t p; simp only [Pq,Zv,ev] at *; grind
theorem Ui (t:Rat):∀ p q,ev (Fl p q) t=ev p t*ev q t
 | [],q=>by simp only [Fl,ev]; grind
 | a::p,q=>by have:=Ui t p q; simp only [Fl,U6,Uw,ev]; grind
theorem Hp (t:Rat):∀ p,ev (Md p) t=dv p t
 | []=>rfl
 | a::p=>by have:=Hp t p; simp only [Md,U6,ev,dv]; grind
theorem Qna (t:Rat):∀ p q,dv (H3 p q) t=dv p t+dv q t
 | [],q=>by simp only [H3,dv]; grind
 | a::p,[]=>by simp only [H3,dv]; grind
 | a::p,b::q=>by have:=Qna t p q; have:=U6 t p q; simp only [H3,dv]; grind
theorem Qd2 (c t:Rat):∀ p,dv (Pq c p) t=c*dv p t
 | []=>by simp only [Pq,Jg,dv]; grind
 | a::p=>by have:=Qd2 c t p; have:=Uw c t p; simp only [Pq,Zv,dv] at *; grind
theorem Qnb (t:Rat):∀ p q,dv (Fl p q) t=dv p t*ev q t+ev p t*dv q t
 | [],q=>by simp only [Fl,dv,ev]; grind
 | a::p,q=>by have:=Qnb t p q; have:=Ui t p q; simp only [Fl,Qna,Qd2,dv,ev]; grind
theorem Qxx:∀ {p:List Rat},(∀ x∈p,x=0)->∀ t,ev p t=0
 | [],_,t=>rfl
 |
  a::p,h,t=>by
  have h1:=Qxx (p:=p) (λx hx=>h x (Ql _ hx)) t;have h2:=h a (Qt ..);simp only [ev,h1,h2]; grind
theorem Qxs:∀ {p:List Rat},(∀ x∈p,x=0)->∀ t,dv p t=0
 | [],_,t=>rfl
 |
  a::p,h,t=>by
  have h0:=λx hx=>h x (Ql _ hx)
  have h1:=Qxx (p:=p) h0 t;have h2:=Qxs (p:=p) h0 t;simp only [dv,h1,h2]; grind
theorem Qbt:∀ {p:List Rat},(∀ t,0<t->t<1->ev p t=0)->∀ x∈p,x=0
 | [],_=>λx hx=>by cases hx
 |
  a::p,h=>by
  have ha:a=0:=by
   rcases Classical.em (a=0) with h0 | h0
   ·exact h0
   ·obtain ⟨e,e1,e2,e3⟩:=Fz (Ag (R:=1) (by decide) p) (M7 h0);obtain ⟨f,f1,f2,f3⟩:=Fz (b:=1) (d:=e) (by decide) e1;have h1:=h f f1 (by grind);have h2:=Qfg (R:=1) (x:=f) (by unfold Uk; split <;> grind) p;have h3:=Cn f (ev p f);have h4:Uk f=f:=by unfold Uk; split <;> grind
    have h5:a=-(f*ev p f):=by simp only [ev] at h1; grind
    have h6:Uk a=f*Uk (ev p f):=by rw [h5,Co,h3,h4]
    have h7:f*Uk (ev p f)<=e*evB 1 p:=S0 (Qo f1) (by grind) (Gj _) h2;grind
  intro x hx;rcases Qx.1 hx with rfl | hx
  ·exact ha
  ·refine Qbt (p:=p) (λt h1 h2=>?_) x hx;have:=h t h1 h2;simp only [ev,ha] at this;have h3:t*ev p t=0:=by grind
   rcases Jq.1 h3 with h4 | h4
   ·grind
   ·exact h4
theorem Q40 {p q:List Rat} (h:∀ t,ev p t=ev q t) (t:Rat):dv p t=dv q t:=by
 have h1:=Qxs (p:=H3 p (Pq (-1) q)) (Qbt λt _ _=>by rw [U6,Uw,h t]; grind) t;rw [Qna,Qd2] at h1; grind
def Uo (x:Rat):Int:=if x<0 then -1 else if 0<x then 1 else 0
theorem Fa {x:Rat}:Uo x=0↔x=0:=by
 unfold Uo; constructor
 ·intro h; split at h <;> (try split at h) <;> grind
 ·intro h; subst h; rfl
theorem Ha {x:Rat}:Uo x=1↔0<x:=by
 unfold Uo; constructor
 ·intro h; split at h <;> (try split at h) <;> grind
 ·intro h; rw [if_neg (by grind),if_pos h]
theorem Ti {x:Rat}:Uo x=-1↔x<0:=by
 unfold Uo; constructor
 ·intro h; split at h <;> (try split at h) <;> grind
 ·intro h; rw [if_pos h]
theorem Ff (x:Rat):Uo x=-1/\x<0\/Uo x=0/\x=0\/Uo x=1/\0<x:=by
 rcases Vp (a:=x) (b:=0) with h | h
 ·rcases Classical.em (x=0) with h0 | h0
  ·exact .inr (.inl ⟨Fa.2 h0,h0⟩)
  ·exact .inl ⟨Ti.2 (by grind),by grind⟩
 ·rcases Classical.em (x=0) with h0 | h0
  ·exact .inr (.inl ⟨Fa.2 h0,h0⟩)
  ·exact .inr (.inr ⟨Ha.2 (by grind),by grind⟩)
theorem Rw (x y:Rat):Uo (x*y)=Uo x*Uo y:=by
 rcases Ff x with ⟨e1,h1⟩ | ⟨e1,h1⟩ | ⟨e1,h1⟩ <;> rcases Ff y with ⟨e2,h2⟩ | ⟨e2,h2⟩ | ⟨e2,h2⟩ <;> rw [e1,e2]
 ·have:=Ls (x:=-x) (y:=-y) (by grind) (by grind); exact Ha.2 (by grind)
 ·subst h2; exact Fa.2 (by grind)
 ·have:=Ls (x:=-x) (y:=y) (by grind) (by grind); exact Ti.2 (by grind)
 ·subst h1; exact Fa.2 (by grind)
 ·subst h1; exact Fa.2 (by grind)
 ·subst h1; exact Fa.2 (by grind)
 ·have:=Ls (x:=x) (y:=-y) (by grind) (by grind); exact Ti.2 (by grind)
 ·subst h2; exact Fa.2 (by grind)
 ·exact Ha.2 (Ls h1 h2)
theorem T0 {a b d:Rat} (h1:d<=Uk a) (h2:Uk (b-a)<d):Uo b=Uo a/\Uo a≠0:=by
 rw [Qom] at h2;rcases Ff a with ⟨e,h⟩ | ⟨e,h⟩ | ⟨e,h⟩
 ·rw [e,Ti]; unfold Uk at h1; rw [if_pos h] at h1; exact ⟨by grind,by decide⟩
 ·subst h; rw [G9] at h1; grind
 ·rw [e,Ha]; unfold Uk at h1; rw [if_neg (by grind)] at h1; exact ⟨by grind,by decide⟩
def tc (x:Rat):Int->List (List Rat)->Nat
 | _,[]=>0
 | s,p::l=>if Uo (ev p x)=0 then tc x s l else (if s=-(Uo (ev p x)) then 1 else 0)+tc x (Uo (ev p x)) l
inductive SCl:List Rat->List Rat->List (List Rat)->Prop
 | base {f g:List Rat} {c:Rat} (hc:c≠0) (hg:∀ t,ev g t=c):SCl f g []
 | step {f g h:List Rat} {l:List (List Rat)} {a b:Rat} {q:List Rat} (ha:0<a) (hb:0<b) (he:∀ t,a*ev f t=ev q t*ev g t-b*ev h t) (hl:SCl g h l):SCl f g (h::l)
theorem Q8v {x:Rat} {s:Int} {g h:List Rat} {l:List (List Rat)} (hh:Uo (ev h x)=-s) (hs:s≠0):tc x s (g::h::l)=1+tc x (-s) l:=by
 have h3:Uo (ev h x)≠0:=by omega
 have hv:s=1\/s=-1:=by rcases Ff (ev h x) with ⟨e,_⟩ | ⟨e,_⟩ | ⟨e,_⟩ <;> omega
 simp only [tc,if_neg h3,hh];rcases Ff (ev g x) with ⟨e,_⟩ | ⟨e,_⟩ | ⟨e,_⟩ <;> rw [e] <;> rcases hv with rfl | rfl <;> simp
theorem Qdd {x:Rat} {s:Int} {p:List Rat} {l:List (List Rat)} (h:Uo (ev p x)≠0):tc x s (p::l)=(if s=-(Uo (ev p x)) then 1 else 0)+tc x (Uo (ev p x)) l:=by rw [tc,if_neg h]
theorem Sy {R x y e d:Rat} {p:List Rat} (hx:Uk x<=R) (hy:Uk y<=R) (hR:0<=R) (h:Uk (y-x)<=e) (hd:e*dqB R p<d):Uk (ev p y-ev p x)<d:=by
 have h1:=Q49 hy hx p;have h2:=Q4 h (Sx hR p);grind
theorem Qll {a x y:Rat} (ha:0<a) (h:a*x<a*y):x<y:=by
 rcases Vp (a:=y) (b:=x) with h' | h'
 ·have:=Zl h' (Qo ha); grind
 ·rcases Classical.em (x=y) with e | e
  ·subst e; grind
  ·grind
theorem Zhr {a b d d' B f g h q:Rat} (ha:0<a) (hb:0<b) (dp:0<d) (h7:B*d+a*d<b*d') (hq:Uk q<=B) (hg:Uk g<d) (hh:d'<=Uk h) (he:a*f=q*g-b*h) (hd':0<d'):Uo h=-Uo f/\d<=Uk f:=by
 have h4:=Fw hq (Qo hg);rw [Rm] at h4;have had:=Ls ha dp;have h8:=Zl hh (Qo hb);rcases Ff h with ⟨s,p⟩ | ⟨s,p⟩ | ⟨s,p⟩
 ·have:Uk h=-h:=by unfold Uk; rw [if_pos p]
  rw [this] at h8;have h10:d<f:=Qll ha (by grind);rw [s,Ha.2 (show 0<f by grind)];exact ⟨rfl,by unfold Uk; split <;> grind⟩
 ·rw [p,G9] at hh; grind
 ·have:Uk h=h:=by unfold Uk; rw [if_neg (by grind)]
  rw [this] at h8;have h10:f < -d:=Qll ha (by grind);rw [s,Ti.2 (show f<0 by grind)];exact ⟨rfl,by unfold Uk; split <;> grind⟩
theorem min2 {a b:Rat} (ha:0<a) (hb:0<b):∃ e:Rat,0<e/\e<=a/\e<=b:=by
 rcases Vp (a:=a) (b:=b) with h | h
 ·exact ⟨a,ha,Qn,h⟩
 ·exact ⟨b,hb,h,Qn⟩
theorem Uy (a b:Rat):a<=b\/b<a:=by
 rcases Vp (a:=a) (b:=b) with h | h
 ·exact .inl h
 ·rcases Classical.em (a=b) with e | e
  ·exact .inl (by grind)
  ·exact .inr (by grind)
theorem Zgz {R:Rat} (hR:0<=R) {f g:List Rat} {l:List (List Rat)} (hc:SCl f g l):∃ d e:Rat,0<d/\0<e/\∀ x y,Uk x<=R->Uk y<=R->Uk (y-x)<=e ->
 (d<=Uk (ev f x)\/d<=Uk (ev g x))/\(d<=Uk (ev f x)->Uo (ev f y)=Uo (ev f x)/\Uo (ev f x)≠0)/\(d<=Uk (ev g x)->Uo (ev g y)=Uo (ev g x)/\Uo (ev g x)≠0) /\
 (Uo (ev f y)=Uo (ev f x)->Uo (ev f x)≠0->tc x (Uo (ev f x)) (g::l)=tc y (Uo (ev f x)) (g::l)) /\
 (Uo (ev g y)=Uo (ev g x)->Uo (ev g x)≠0->tc x (Uo (ev g x)) l=tc y (Uo (ev g x)) l):=by
 induction hc with
 |
  @base f g c hc hg =>
  have hd:=M7 hc;obtain ⟨e,e1,e2,e3⟩:=Fz (Sx hR f) hd;refine ⟨Uk c,e,hd,e1,λx y hx hy hxy=>⟨.inr (by rw [hg]; exact Qn),λh=>T0 h (Sy hx hy hR hxy e3),λh=>?_,λ_ _=>?_,λ_ _=>rfl⟩⟩
  ·rw [hg,hg]; exact ⟨rfl,λh=>hc (Fa.1 h)⟩
  ·simp only [tc,hg]
 |
  @step f g h l a b q ha hb he hl ih =>
  obtain ⟨d',e',hd',he',ih⟩:=ih;obtain ⟨d1,d1p,_,d1b⟩:=Fz (b:=evB R q+a) (d:=b*d') (by have:=Ag hR q; grind) (Ls hb hd');obtain ⟨d,dp,hd1,hdd⟩:=min2 d1p hd';obtain ⟨ef,ef1,_,ef3⟩:=Fz (Sx hR f) dp;obtain ⟨eg,eg1,_,eg3⟩:=Fz (Sx hR g) dp;obtain ⟨e0,e0p,h1,h2⟩:=min2 ef1 eg1;obtain ⟨e,ep,h0,h3⟩:=min2 e0p he';have h1:=Q7 h0 h1;have h2:=Q7 h0 h2;refine ⟨d,e,dp,ep,λx y hx hy hxy=>?_⟩;obtain ⟨i1,i2,i3,i4,i5⟩:=ih x y hx hy (Q7 hxy h3);have hsm:Uk (ev g x)<d->d'<=Uk (ev h x)/\Uo (ev h x)=-Uo (ev f x)/\d<=Uk (ev f x):=λhg=>by
   have hh:d'<=Uk (ev h x):=by
    rcases i1 with i | i
    ·exact absurd (Q7 hdd i) (Jr.2 hg)
    ·exact i
   have h6:d*(evB R q+a)<=d1*(evB R q+a):=Q4 hd1 (by have:=Ag hR q; clear ih i1 i2 i3 i4 i5 he; grind);have h7:evB R q*d+a*d<b*d':=by clear ih i1 i2 i3 i4 i5 he; grind
   exact ⟨hh,Zhr ha hb dp h7 (Qfg hx q) hg hh (he x) hd'⟩
  have hfs:d<=Uk (ev f x)->Uo (ev f y)=Uo (ev f x)/\Uo (ev f x)≠0:=λh=>T0 h (Sy hx hy hR (Q7 hxy h1) ef3)
  have hgs:d<=Uk (ev g x)->Uo (ev g y)=Uo (ev g x)/\Uo (ev g x)≠0:=λh=>T0 h (Sy hx hy hR (Q7 hxy h2) eg3)
  refine ⟨?_,hfs,hgs,λs1 s2=>?_,i4⟩
  ·rcases Uy d (Uk (ev g x)) with h | h
   ·exact .inr h
   ·exact .inl (hsm h).2.2
  ·rcases Uy d (Uk (ev g x)) with h | h
   ·obtain ⟨g1,g2⟩:=hgs h;rw [Qdd (x:=x) (p:=g) g2,Qdd (x:=y) (p:=g) (by rw [g1]; exact g2),g1,i4 g1 g2]
   ·obtain ⟨h4,h5,_⟩:=hsm h;obtain ⟨h6,h7⟩:=i3 h4;have i5:=i5 h6 h7;rw [Q8v h5 s2,Q8v (h6.trans h5) s2,<-h5,i5]
def Tj (p:List Rat) (x:Rat):Int:=if Uo (ev p x)≠0 then Uo (ev p x) else Uo (dv p x)
def vv (L:List (List Rat)) (x:Rat):Nat:=tc x 0 L
def Stm (f:List Rat) (L:List (List Rat)):Prop:=(∃ c:Rat,c≠0/\(∀ t,ev f t=c)/\L=[f])\/∃ g l,∃ k:Rat,0<k/\(∀ t,ev g t=k*dv f t)/\SCl f g l/\L=f::g::l
structure Sm (w:List Rat) (x y:Rat):Prop where
 s:Uo (ev w y)=Tj w x
 l:Tj w y=Tj w x
 n:Tj w x≠0
theorem Dk {p:List Rat} {x:Rat} (h:Uo (ev p x)≠0):Tj p x=Uo (ev p x):=by unfold Tj; rw [if_pos h]
theorem Qur {p:List Rat} {x:Rat} (h:Uo (ev p x)=0):Tj p x=Uo (dv p x):=by unfold Tj; rw [if_neg (by simpa using h)]
theorem Qsk {p:List Rat} {x y:Rat} (h:Uo (ev p y)=Uo (ev p x)) (h0:Uo (ev p x)≠0):Sm p x y:=by
 have h1:=Dk h0;have h2:=Dk (p:=p) (x:=y) (by rw [h]; exact h0);exact ⟨by rw [h,h1],by rw [h2,h1,h],by rw [h1]; exact h0⟩
theorem Af {f w u:List Rat} (h:∀ t,ev f t=ev w t*ev u t) (x:Rat):dv f x=dv w x*ev u x+ev w x*dv u x:=by
 rw [<-Qnb]; exact Q40 (λt=>by rw [h,Ui]) x
theorem Qyg {f w u:List Rat} {x:Rat} (h:∀ t,ev f t=ev w t*ev u t) (hu:Uo (ev u x)≠0):Tj f x=Tj w x*Uo (ev u x):=by
 by_cases hw:Uo (ev w x)=0
 ·have hw0:=Fa.1 hw;have e1:ev f x=0:=by rw [h,hw0]; grind
  have e2:dv f x=dv w x*ev u x:=by rw [Af h,hw0]; grind
  rw [Qur hw,Qur (Fa.2 e1),e2,Rw]
 ·have e1:Uo (ev f x)=Uo (ev w x)*Uo (ev u x):=by rw [h,Rw]
  rw [Dk hw,Dk (by rw [e1]; exact Jh hw hu),e1]
theorem Zhs {f w u:List Rat} {x y:Rat} (h:∀ t,ev f t=ev w t*ev u t) (hu:Uo (ev u y)=Uo (ev u x)) (h0:Uo (ev u x)≠0) (hf:Sm f x y):Sm w x y:=by
 have e1:=Qyg h h0;have e2:=Qyg (x:=y) h (by rw [hu]; exact h0);have e3:Uo (ev f y)=Uo (ev w y)*Uo (ev u y):=by rw [h,Rw]
 obtain ⟨s,l,n⟩:=hf;rw [hu] at e2 e3;refine ⟨?_,?_,λh=>n (by rw [e1,h,J4])⟩
 ·rw [e3,e1] at s; exact Int.eq_of_mul_eq_mul_right h0 s
 ·rw [e2,e1] at l; exact Int.eq_of_mul_eq_mul_right h0 l
theorem tc0 {x:Rat} {s:Int} {f g:List Rat} {l:List (List Rat)} (h:Uo (ev g x)=s) (hs:s≠0):tc x 0 (f::g::l)=(if Uo (ev f x)=-s then 1 else 0)+tc x s l:=by
 have hv:s=1\/s=-1:=by rcases Ff (ev g x) with ⟨e,_⟩ | ⟨e,_⟩ | ⟨e,_⟩ <;> omega
 have hg:Uo (ev g x)≠0:=by omega
 rw [tc];rcases Ff (ev f x) with ⟨e,_⟩ | ⟨e,_⟩ | ⟨e,_⟩ <;> rw [e] <;> rcases hv with rfl | rfl <;> simp [Qdd hg,h]
theorem Qiz {R x y e d:Rat} {p:List Rat} (hx:Uk x<=R) (hy:Uk y<=R) (hR:0<=R) (hxy:x<y) (h:y-x<=e) (hd:d<=Uk (dv p x)) (he:e*ddB R p<d):Uo (ev p y-ev p x)=Uo (dv p x):=by
 have h1:=Zep p y x;have h2:ev p y-ev p x=(y-x)*(dv p x+(y-x)*dd p y x):=by rw [h1]; grind
 have h3:=Fw (x:=y-x) (y:=dd p y x) (a:=e) (b:=ddB R p) (by rw [Rm]; constructor <;> grind) (Q4s hy hx p);have h4:=T0 (b:=dv p x+(y-x)*dd p y x) hd (by
  have:dv p x+(y-x)*dd p y x-dv p x=(y-x)*dd p y x:=by grind
  rw [this]; exact Jr.1 λh=>absurd (Q7 h h3) (Jr.2 he))
 rw [h2,Rw,Ha.2 (show 0<y-x by grind),h4.1,Yn]
def Q2a (f w:List Rat) (L:List (List Rat)) (x y:Rat):Prop :=
 (vv L x=vv L y/\Sm f x y/\Sm w x y)\/(vv L x=vv L y+1/\Tj f x≠0/\Tj f y=-Tj f x/\Uo (ev f x)=Tj f x/\(Uo (ev f y)=0\/Uo (ev f y)=-Tj f x))
theorem Zes {R d:Rat} (hR:0<=R) (hd:0<d) {f w u:List Rat} (h:∀ t,ev f t=ev w t*ev u t):∃ e:Rat,0<e/\∀ x y,Uk x<=R->Uk y<=R->Uk (y-x)<=e->d<=Uk (ev f x)->Sm f x y/\Sm w x y:=by
 obtain ⟨ef,ef1,_,ef3⟩:=Fz (Sx hR f) hd;obtain ⟨d1,d1p,_,d1b⟩:=Fz (Ag hR u) hd;obtain ⟨ew,ew1,_,ew3⟩:=Fz (Sx hR w) d1p;obtain ⟨e,ep,e1,e2⟩:=min2 ef1 ew1;refine ⟨e,ep,λx y hx hy hxy hf=>⟨?_,?_⟩⟩
 ·have:=T0 hf (Sy hx hy hR (Q7 hxy e1) ef3);exact Qsk this.1 this.2
 ·have hw:d1<=Uk (ev w x):=by
   rcases Uy d1 (Uk (ev w x)) with h' | h'
   ·exact h'
   ·have h5:=Fw (Qo h') (Qfg hx u);rw [<-h] at h5;exact absurd (Q7 hf h5) (Jr.2 d1b)
  have:=T0 hw (Sy hx hy hR (Q7 hxy e2) ew3);exact Qsk this.1 this.2
theorem loc {R:Rat} (hR:0<=R) {f w u:List Rat} {L:List (List Rat)} (hc:Stm f L) (h:∀ t,ev f t=ev w t*ev u t):∃ e:Rat,0<e/\∀ x y,Uk x<=R->Uk y<=R->x<y->y-x<=e->Q2a f w L x y:=by
 rcases hc with ⟨c,hc,hf,rfl⟩ | ⟨g,l,k,hk,hg,hc,rfl⟩
 ·obtain ⟨e,ep,h1⟩:=Zes hR (M7 hc) h;refine ⟨e,ep,λx y hx hy hxy he=>.inl ⟨?_,h1 x y hx hy (by rw [Rm]; constructor <;> grind) (by rw [hf]; exact Qn)⟩⟩;simp only [vv,tc,hf]
 ·obtain ⟨d,e1,dp,e1p,h1⟩:=Zgz hR hc;obtain ⟨e2,e2p,h2⟩:=Zes hR dp h;obtain ⟨d3,d3p,_,d3b⟩:=Fz (b:=k) (d:=d) (Qo hk) dp;obtain ⟨e3,e3p,_,e3b⟩:=Fz (Qhy hR f) d3p;obtain ⟨d4,d4p,_,d4b⟩:=Fz (b:=dqB R w+dqB R u) (d:=d3) (by have:=Sx hR w; have:=Sx hR u; grind) d3p;obtain ⟨e4,e4p,_,e4b⟩:=Fz (Sx hR w) d4p;obtain ⟨e5,e5p,_,e5b⟩:=Fz (Sx hR u) d4p;obtain ⟨a1,a1p,a11,a12⟩:=min2 e1p e2p;obtain ⟨a2,a2p,a21,a22⟩:=min2 e3p e4p;obtain ⟨a3,a3p,a31,a32⟩:=min2 a1p a2p;obtain ⟨e,ep,b1,b2⟩:=min2 a3p e5p;refine ⟨e,ep,λx y hx hy hxy he=>?_⟩;have hab:Uk (y-x)<=e:=by rw [Rm]; clear h1 h2; constructor <;> grind
  have hab1:Uk (y-x)<=e1:=by clear h1 h2; grind
  have hab2:Uk (y-x)<=e2:=by clear h1 h2; grind
  obtain ⟨i1,i2,i3,i4,i5⟩:=h1 x y hx hy hab1;rcases Uy d (Uk (ev f x)) with hf | hf
  ·obtain ⟨s1,s2⟩:=h2 x y hx hy hab2 hf;obtain ⟨j1,j2⟩:=i2 hf;refine .inl ⟨?_,s1,s2⟩;have:=i4 j1 j2;simp only [vv];rw [Qdd (x:=x) (p:=f) j2,Qdd (x:=y) (p:=f) (by rw [j1]; exact j2),j1,this]
  ·have hg1:d<=Uk (ev g x):=by
    rcases i1 with i | i
    ·exact absurd i (Jr.2 hf)
    ·exact i
   obtain ⟨g1,g2⟩:=i3 hg1;have i5:=i5 g1 g2;have hD:d3<=Uk (dv f x):=by
    rcases Uy d3 (Uk (dv f x)) with h' | h'
    ·exact h'
    ·have h5:=Fw (x:=k) (a:=k) (by unfold Uk; split <;> clear h1 h2 <;> grind) (Rat.le_of_lt h');rw [<-hg] at h5;have:k*d3=d3*k:=by grind
     exact absurd (Q7 hg1 h5) (Jr.2 (by rw [this]; exact d3b))
   have hm:=Qiz hx hy hR hxy (by clear h1 h2; grind:y-x<=e3) hD e3b;have s1:Uo (ev g x)=Uo (dv f x):=by rw [hg,Rw,Ha.2 hk,Yn]
   have s2:Uo (ev g y)=Uo (dv f y):=by rw [hg,Rw,Ha.2 hk,Yn]
   obtain ⟨s,hs⟩:=nmE (Uo (ev g x));rw [<-hs] at g1 g2 i5 s1;rw [g1] at s2;have v1:=tc0 (f:=f) (l:=l) hs.symm g2;have v2:=tc0 (f:=f) (l:=l) g1 g2;rw [<-i5] at v2;rw [<-s1] at hm;have hw:Sm f x y->Sm w x y:=λhf=>by
    rcases Uy d4 (Uk (ev u x)) with hu | hu
    ·have hu:=T0 hu (Sy hx hy hR (Q7 hab b2) e5b);exact Zhs h hu.1 hu.2 hf
    ·have hw:d4<=Uk (ev w x):=by
      rcases Uy d4 (Uk (ev w x)) with h' | h'
      ·exact h'
      ·have q1:=Fw (x:=dv w x) (y:=ev u x) (a:=dqB R w) (by rw [<-Qm9]; exact Qqj hx hx w) (Qo hu);have q2:=Fw (x:=ev w x) (y:=dv u x) (b:=dqB R u) (Qo h') (by rw [<-Qm9]; exact Qqj hx hx u);have q3:=Rv (dv w x*ev u x) (ev w x*dv u x);rw [<-Af h] at q3;have:d4*(dqB R w+dqB R u)=dqB R w*d4+d4*dqB R u:=by grind
       rw [this] at d4b;exact absurd (Q7 hD (Q7 q3 (by clear h1 h2; grind:_<=dqB R w*d4+d4*dqB R u))) (Jr.2 d4b)
     have hw:=T0 hw (Sy hx hy hR (Q7 hab (by clear h1 h2; grind)) e4b);exact Qsk hw.1 hw.2
   have lx:Tj f x=if Uo (ev f x)≠0 then Uo (ev f x) else s:=by rw [s1]; rfl
   have ly:Tj f y=if Uo (ev f y)≠0 then Uo (ev f y) else s:=by rw [s2]; rfl
   clear h1 h2 i1 i2 i3 i4;have hsv:s=1\/s=-1:=by rcases Ff (ev g x) with ⟨e,_⟩ | ⟨e,_⟩ | ⟨e,_⟩ <;> omega
   unfold Q2a;simp only [vv,v1,v2];rcases hsv with rfl | rfl
   ·have hm:=Ha.1 hm;rcases Ff (ev f x) with ⟨p1,p2⟩ | ⟨p1,p2⟩ | ⟨p1,p2⟩
    ·rcases Ff (ev f y) with ⟨q1,q2⟩ | ⟨q1,q2⟩ | ⟨q1,q2⟩
     ·rw [p1,q1]; have hsm:=Qsk (p:=f) (x:=x) (y:=y) (by rw [p1,q1]) (by rw [p1]; decide);exact .inl ⟨rfl,hsm,hw hsm⟩
     ·rw [lx,ly,p1,q1]; refine .inr ⟨by simp; omega,by decide,by decide,by decide,by decide⟩
     ·rw [lx,ly,p1,q1]; refine .inr ⟨by simp; omega,by decide,by decide,by decide,by decide⟩
    ·have q1:=Ha.2 (show 0<ev f y by grind);have hsm:Sm f x y:=⟨by rw [lx,q1,p1]; rfl,by rw [lx,ly,q1,p1]; rfl,by rw [lx,p1]; decide⟩;rw [p1,q1]; exact .inl ⟨rfl,hsm,hw hsm⟩
    ·have q1:=Ha.2 (show 0<ev f y by grind);have hsm:Sm f x y:=⟨by rw [lx,q1,p1]; rfl,by rw [lx,ly,q1,p1],by rw [lx,p1]; decide⟩;rw [p1,q1]; exact .inl ⟨rfl,hsm,hw hsm⟩
   ·have hm:=Ti.1 hm;rcases Ff (ev f x) with ⟨p1,p2⟩ | ⟨p1,p2⟩ | ⟨p1,p2⟩
    ·have q1:=Ti.2 (show ev f y<0 by grind);have hsm:Sm f x y:=⟨by rw [lx,q1,p1]; rfl,by rw [lx,ly,q1,p1],by rw [lx,p1]; decide⟩;rw [p1,q1]; exact .inl ⟨rfl,hsm,hw hsm⟩
    ·have q1:=Ti.2 (show ev f y<0 by grind);have hsm:Sm f x y:=⟨by rw [lx,q1,p1]; rfl,by rw [lx,ly,q1,p1]; rfl,by rw [lx,p1]; decide⟩;rw [p1,q1]; exact .inl ⟨rfl,hsm,hw hsm⟩
    ·rcases Ff (ev f y) with ⟨q1,q2⟩ | ⟨q1,q2⟩ | ⟨q1,q2⟩
     ·rw [lx,ly,p1,q1]; refine .inr ⟨by simp; omega,by decide,by decide,by decide,by decide⟩
     ·rw [lx,ly,p1,q1]; refine .inr ⟨by simp; omega,by decide,by decide,by decide,by decide⟩
     ·rw [p1,q1]; have hsm:=Qsk (p:=f) (x:=x) (y:=y) (by rw [p1,q1]) (by rw [p1]; decide);exact .inl ⟨rfl,hsm,hw hsm⟩
theorem Zl6 (z:Rat):∃ n:Nat,z<=(n:Rat):=by
 refine ⟨z.ceil.toNat,?_⟩;have h1:z<=(z.ceil:Rat):=Rat.le_ceil;have h2:(z.ceil:Rat)<=((z.ceil.toNat:Int):Rat):=Jf.2 (Int.self_le_toNat _);exact Q7 h1 h2
theorem Il {z e:Rat} (he:0<e):∃ n:Nat,z<=(n:Rat)*e:=by
 obtain ⟨n,hn⟩:=Zl6 (z / e);exact ⟨n,by have:=Q4 hn (Qo he); rwa [Fb he] at this⟩
theorem Qce {R x y t:Rat} (hx:Uk x<=R) (hy:Uk y<=R) (h1:x<=t) (h2:t<=y):Uk t<=R:=by
 rw [Rm] at *; constructor <;> grind
def Qzq (f w:List Rat) (L:List (List Rat)) (x y:Rat):Prop :=
 vv L y<=vv L x/\(vv L x=vv L y->Sm f x y/\Sm w x y)/\(vv L x=vv L y+1->Tj f x≠0/\Tj f y=-Tj f x)
theorem Qyf {f w:List Rat} {L:List (List Rat)} {x y:Rat} (h:Q2a f w L x y):Qzq f w L x y:=by
 rcases h with ⟨h1,h2,h3⟩ | ⟨h1,h2,h3,_⟩
 ·exact ⟨by omega,λ_=>⟨h2,h3⟩,λh=>by omega⟩
 ·exact ⟨by omega,λh=>by omega,λ_=>⟨h2,h3⟩⟩
theorem Qsl {w:List Rat} {x y z:Rat} (h1:Sm w x y) (h2:Sm w y z):Sm w x z:=⟨by rw [h2.s,h1.l],by rw [h2.l,h1.l],h1.n⟩
theorem Qup {f w:List Rat} {L:List (List Rat)} {x y z:Rat} (h:Qzq f w L x y) (h':Qzq f w L y z):Qzq f w L x z:=by
 obtain ⟨a1,a2,a3⟩:=h;obtain ⟨b1,b2,b3⟩:=h';refine ⟨by omega,λh=>?_,λh=>?_⟩
 ·obtain ⟨s1,s2⟩:=a2 (by omega);obtain ⟨s3,s4⟩:=b2 (by omega);exact ⟨Qsl s1 s3,Qsl s2 s4⟩
 ·by_cases e:vv L x=vv L y
  ·obtain ⟨s1,_⟩:=a2 e;obtain ⟨s3,s4⟩:=b3 (by omega);exact ⟨s1.n,by rw [s4,s1.l]⟩
  ·obtain ⟨s3,s4⟩:=a3 (by omega);obtain ⟨s1,_⟩:=b2 (by omega);exact ⟨s3,by rw [s1.l,s4]⟩
theorem Zgr {R:Rat} (hR:0<=R) {f w u:List Rat} {L:List (List Rat)} (hc:Stm f L) (h:∀ t,ev f t=ev w t*ev u t) {x y:Rat} (hx:Uk x<=R) (hy:Uk y<=R) (hxy:x<y):Qzq f w L x y:=by
 obtain ⟨e,ep,hl⟩:=loc hR hc h;have key:∀ n:Nat,∀ x,Uk x<=R->x<y->y-x<=(n:Rat)*e->Qzq f w L x y:=by
  intro n
  induction n with
  | zero =>
   intro x hx hxy h; exfalso; have:((0:Nat):Rat)*e=0:=by simp
   grind
  |
   succ n ih =>
   intro x hx hxy hn;rcases Uy (y-x) e with h1 | h1
   ·exact Qyf (hl x y hx hy hxy h1)
   ·have hm:Uk (x+e)<=R:=Qce hx hy (by clear hl ih; grind) (by clear hl ih; grind);have hn':(((n+1:Nat):Rat))=(n:Rat)+1:=by push_cast; rfl
    refine Qup (Qyf (hl x (x+e) hx hm (by clear hl ih; grind) (by clear hl ih; grind))) (ih (x+e) hm (by clear hl ih; grind) ?_);rw [hn'] at hn;clear hl ih; grind
 obtain ⟨n,hn⟩:=Il (z:=y-x) ep;exact key n x hx hxy hn
theorem Qmn (x y:Rat):∃ R:Rat,0<=R/\Uk x<=R/\Uk y<=R:=by
 refine ⟨Uk x+Uk y,?_,?_,?_⟩ <;> (have:=Gj x; have:=Gj y; grind)
theorem Hu (t:Rat):ev [1] t=1:=by simp only [ev]; grind
theorem Dx {f:List Rat} {L:List (List Rat)} (hc:Stm f L) {x y:Rat} (hxy:x<y):vv L y<=vv L x:=by
 obtain ⟨R,hR,hx,hy⟩:=Qmn x y;exact (Zgr hR hc (w:=f) (u:=[1]) (λt=>by rw [Hu]; grind) hx hy hxy).1
theorem Qa3 {f w u:List Rat} {L:List (List Rat)} (hc:Stm f L) (h:∀ t,ev f t=ev w t*ev u t) {x y:Rat} (hxy:x<y) (he:vv L x=vv L y):Sm w x y:=by
 obtain ⟨R,hR,hx,hy⟩:=Qmn x y;exact ((Zgr hR hc h hx hy hxy).2.1 he).2
theorem Qpe {f:List Rat} {L:List (List Rat)} (hc:Stm f L) {x y:Rat} (hxy:x<y) (he:vv L x=vv L y):Sm f x y :=
 Qa3 hc (w:=f) (u:=[1]) (λt=>by rw [Hu]; grind) hxy he
theorem Qpd {f:List Rat} {L:List (List Rat)} (hc:Stm f L) {x y:Rat} (hxy:x<y) (he:vv L x=vv L y+1):Tj f x≠0/\Tj f y=-Tj f x:=by
 obtain ⟨R,hR,hx,hy⟩:=Qmn x y;exact (Zgr hR hc (w:=f) (u:=[1]) (λt=>by rw [Hu]; grind) hx hy hxy).2.2 he
theorem Q85 {f:List Rat} {L:List (List Rat)} (hc:Stm f L) (R:Rat) (hR:0<=R):∃ e:Rat,0<e/\∀ x y,Uk x<=R->Uk y<=R->x<y->y-x<=e->vv L x<=vv L y+1:=by
 obtain ⟨e,ep,hl⟩:=loc hR hc (w:=f) (u:=[1]) (λt=>by rw [Hu]; grind);refine ⟨e,ep,λx y hx hy hxy he=>?_⟩;rcases hl x y hx hy hxy he with ⟨h,_⟩ | ⟨h,_⟩ <;> omega
theorem cont {p:List Rat} {x:Rat} (h:Uo (ev p x)≠0):∃ e:Rat,0<e/\∀ y,Uk (y-x)<=e->Uo (ev p y)=Uo (ev p x):=by
 have hd:=M7 (x:=ev p x) λh0=>h (Fa.2 h0)
 have hR:0<=Uk x+1:=by have:=Gj x; grind
 obtain ⟨e,e1,e2,e3⟩:=Fz (Sx hR p) hd;refine ⟨e,e1,λy hy=>(T0 Qn (Sy (x:=x) (by grind) ?_ hR hy e3)).1⟩;have:=Rv (y-x) x;have e:y-x+x=y:=by grind
 rw [e] at this; grind
theorem Ze0 {R M:Rat} {p:List Rat} (hM:M=ddB R p) (hR:0<=R) {h:Rat} (hh:0<h):∀ (n:Nat) (x:Rat),Uk x<=R->Uk (x+(n:Rat)*h)<=R->(∀ t,x<=t->t<=x+(n:Rat)*h->0<=dv p t)->ev p x-(n:Rat)*(h*h*M)<=ev p (x+(n:Rat)*h)
 |
  0,x,_,_,_=>by
  have e1:x+((0:Nat):Rat)*h=x:=by rw [show ((0:Nat):Rat)=0 from rfl]; grind
  have e2:((0:Nat):Rat)*(h*h*M)=0:=by simp
  rw [e1,e2]; grind
 |
  n+1,x,hx,hy,hd=>by
  have hn':(((n+1:Nat):Rat))=(n:Rat)+1:=by push_cast; rfl
  rw [hn'] at hy hd ⊢;have hn0:(0:Rat)<=(n:Rat):=Xn;have hnh:=Po hn0 (Qo hh);have e1:x+((n:Rat)+1)*h=(x+h)+(n:Rat)*h:=by grind
  rw [e1] at hy hd ⊢;have hxh:Uk (x+h)<=R:=Qce hx hy (by clear hd; grind) (by clear hd; grind);have ih:=Ze0 hM hR hh n (x+h) hxh hy λt h1 h2=>hd t (by clear hd; grind) h2
  have h0:=hd x Qn (by clear hd; grind);have h1:=Zep p (x+h) x;have h2:=Q4s hxh hx p;rw [<-hM,Rm] at h2;have h3:=Zl h2.1 (Po (Qo hh) (Qo hh));have h4:=Po (Qo hh) h0;have e2:x+h-x=h:=by grind
  rw [e2] at h1;clear hd hx hy hxh;grind
theorem Zj5 {p:List Rat} {x y:Rat} (hxy:x<y) (hd:∀ t,x<=t->t<=y->0<=dv p t):ev p x<=ev p y:=by
 obtain ⟨R,hR,hx,hy⟩:=Qmn x y;rcases Uy (ev p x) (ev p y) with h | h
 ·exact h
 ·exfalso;obtain ⟨M,hM⟩:=nmE (ddB R p);have hM0:=Qhy hR p;rw [<-hM] at hM0;obtain ⟨e,ep,_,he⟩:=Fz (b:=(y-x)*M) (d:=ev p x-ev p y) (Po (by grind) hM0) (by grind);obtain ⟨n,hn⟩:=Il (z:=y-x) ep;have hn0:0<(n:Rat):=by
   rcases Uy (n:Rat) 0 with h' | h'
   ·have:=Q4 h' (Qo ep); clear hd; grind
   ·exact h'
  have hh:0<(y-x) / n:=Nq (by grind) hn0;have e1:(n:Rat)*((y-x) / n)=y-x:=by rw [Ww]; exact Fb hn0
  have e2:x+(n:Rat)*((y-x) / n)=y:=by rw [e1]; grind
  have h1:=Ze0 hM hR hh n x hx (by rw [e2]; exact hy) (by rw [e2]; exact hd);rw [e2] at h1;have h2:(y-x) / n<=e:=by
   rcases Uy ((y-x) / n) e with h' | h'
   ·exact h'
   ·have:=Rat.mul_lt_mul_of_pos_left h' hn0; clear hd; grind
  have h3:(n:Rat)*((y-x) / n*((y-x) / n)*M)=((y-x) / n)*((y-x)*M):=by
   have:(n:Rat)*((y-x) / n*((y-x) / n)*M)=((n:Rat)*((y-x) / n))*(((y-x) / n)*M):=by grind
   rw [this,e1]; grind
  have h4:=Q4 h2 (Po (x:=y-x) (y:=M) (by grind) hM0);rw [h3] at h1;clear hd; grind
theorem Zc3 {p:List Rat} {x y:Rat} (hxy:x<y) (hd:∀ t,x<=t->t<=y->0<dv p t):ev p x<ev p y:=by
 have hx:=hd x Qn (by grind);have hR:0<=Uk x+1:=by have:=Gj x; grind
 obtain ⟨e,e1,e2,e3⟩:=Fz (Qhy hR p) hx;obtain ⟨f,f1,f2,f3⟩:=min2 (a:=e) (b:=y-x) e1 (by grind);have hq:Uk (x+f)<=Uk x+1:=by
  have:=Rv x f; have:Uk f=f:=by unfold Uk; split <;> grind
  clear hd; grind
 have h1:=Qiz (p:=p) (x:=x) (y:=x+f) (R:=Uk x+1) (e:=e) (d:=dv p x) (by clear hd; grind) hq hR (by grind) (by grind) (by unfold Uk; split <;> clear hd <;> grind) e3;rw [Ha.2 hx,Ha] at h1;rcases Classical.em (x+f=y) with e | e
 ·rw [<-e]; clear hd; grind
 ·have:=Zj5 (p:=p) (x:=x+f) (y:=y) (by clear hd; grind) λt h1 h2=>Qo (hd t (by clear hd; grind) h2)
  clear hd; grind
structure Cut (c:Rat->Int):Prop where
 val:∀ q,c q=1\/c q=0\/c q=-1
 mono:∀ q r,q<r->c q≠1->c r=-1
 up:∀ q,c q=1->∃ r,q<r/\c r=1
 dn:∀ q,c q=-1->∃ r,r<q/\c r=-1
 lo:∃ q,c q=1
 hi:∃ q,c q=-1
theorem Cut.mono' {c:Rat->Int} (h:Cut c) {q r:Rat} (hqr:q<r) (hr:c r≠-1):c q=1:=by
 rcases Classical.em (c q=1) with e | e
 ·exact e
 ·exact absurd (h.mono q r hqr e) hr
theorem Cut.lt {c:Rat->Int} (h:Cut c) {q r:Rat} (hq:c q=1) (hr:c r=-1):q<r:=by
 rcases Uy r q with e | e
 ·rcases Classical.em (r=q) with e' | e'
  ·rw [e'] at hr; omega
  ·have:=h.mono r q (by grind) (by omega); omega
 ·exact e
theorem Cut.near {c:Rat->Int} (h:Cut c) {e:Rat} (he:0<e):∃ x y,c x=1/\c y=-1/\y-x<=e:=by
 obtain ⟨a,ha⟩:=h.lo;obtain ⟨b,hb⟩:=h.hi;have he2:0<e / 2:=Nq he (by decide);have h2:e / 2*2=e:=Fb (by decide);have key:∀ (n:Nat) (a:Rat),c a=1->b-a<=(n:Rat)*(e / 2)->∃ x y,c x=1/\c y=-1/\y-x<=e:=by
  intro n
  induction n with
  |
   zero =>
   intro a ha hn;have:=h.lt ha hb;rw [show ((0:Nat):Rat)=0 from rfl] at hn;exfalso; grind
  |
   succ n ih =>
   intro a ha hn;have hn':(((n+1:Nat):Rat))=(n:Rat)+1:=by push_cast; rfl
   rw [hn'] at hn;rcases h.val (a+e / 2) with h1 | h1 | h1
   ·exact ih _ h1 (by grind)
   ·exact ⟨a,a+e,ha,h.mono (a+e / 2) _ (by grind) (by omega),by grind⟩
   ·exact ⟨a,a+e / 2,ha,h1,by grind⟩
 obtain ⟨n,hn⟩:=Il (z:=b-a) he2;exact key n a ha hn
def Lz (p:List Rat) (c:Rat->Int):Prop:=∀ d:Rat,0<d->∃ x y,c x=1/\c y=-1/\∀ q,x<=q->q<=y->Uk (ev p q)<d
def NZ (p:List Rat) (c:Rat->Int) (s:Int):Prop:=∃ d:Rat,0<d/\∃ x y,c x=1/\c y=-1/\∀ q,x<=q->q<=y->Uo (ev p q)=s/\d<=Uk (ev p q)
def Nr (c:Rat->Int) (P:Rat->Prop):Prop:=∃ x y,c x=1/\c y=-1/\∀ q,x<=q->q<=y->P q
theorem Quu {c:Rat->Int} {P Q:Rat->Prop} (h1:Nr c P) (h2:Nr c Q):Nr c λq=>P q/\Q q:=by
 obtain ⟨x,y,a1,a2,a3⟩:=h1;obtain ⟨x',y',b1,b2,b3⟩:=h2;refine ⟨if x<=x' then x' else x,if y<=y' then y else y',by split <;> assumption,by split <;> assumption,λq q1 q2=>⟨a3 q ?_ ?_,b3 q ?_ ?_⟩⟩ <;> clear a3 b3 <;> grind
theorem Qgu {c:Rat->Int} {P Q:Rat->Prop} (h1:Nr c P) (h:∀ q,P q->Q q):Nr c Q:=by
 obtain ⟨x,y,a1,a2,a3⟩:=h1;exact ⟨x,y,a1,a2,λq q1 q2=>h q (a3 q q1 q2)⟩
theorem Qrl {c:Rat->Int} (hc:Cut c) {P:Rat->Prop} (h1:Nr c P):∃ q,P q/\c q=1:=by
 obtain ⟨x,y,a1,a2,a3⟩:=h1;exact ⟨x,a3 x Qn (Qo (hc.lt a1 a2)),a1⟩
theorem Q6p {c:Rat->Int} (hc:Cut c) {e:Rat} (he:0<e) {P:Rat->Prop} (h1:Nr c P):∃ x y,c x=1/\c y=-1/\y-x<=e/\x<y/\∀ q,x<=q->q<=y->P q:=by
 obtain ⟨x,y,a1,a2,a3⟩:=h1;obtain ⟨x',y',b1,b2,b3⟩:=hc.near he;refine ⟨if x<=x' then x' else x,if y<=y' then y else y',by split <;> assumption,by split <;> assumption,by clear a3; grind,hc.lt (by split <;> assumption) (by split <;> assumption),λq q1 q2=>a3 q ?_ ?_⟩ <;> clear a3 <;> grind
theorem Zey {c:Rat->Int} (hc:Cut c):∃ R:Rat,0<=R/\Nr c λq=>Uk q<=R:=by
 obtain ⟨x,y,a1,a2,_⟩:=hc.near (e:=1) (by decide);obtain ⟨R,hR,h1,h2⟩:=Qmn x y;exact ⟨R,hR,x,y,a1,a2,λq q1 q2=>Qce h1 h2 q1 q2⟩
theorem Oy {c:Rat->Int} (hc:Cut c) (p:List Rat):Lz p c\/∃ s,s≠0/\NZ p c s:=by
 rcases Classical.em (Lz p c) with h | h
 ·exact .inl h
 ·refine .inr ?_;obtain ⟨d,hd0⟩:=Classical.not_forall.1 h;obtain ⟨dp,hd⟩:=Classical.not_imp.1 hd0;have hd:∀ x y,c x=1->c y=-1->∃ q,x<=q/\q<=y/\d<=Uk (ev p q):=λx y hx hy=>by
   rcases Classical.em (∃ q,x<=q/\q<=y/\d<=Uk (ev p q)) with h' | h'
   ·exact h'
   ·refine absurd ⟨x,y,hx,hy,λq h1 h2=>?_⟩ hd;rcases Uy d (Uk (ev p q)) with h3 | h3
    ·exact absurd ⟨q,h1,h2,h3⟩ h'
    ·exact h3
  obtain ⟨R,hR,hn⟩:=Zey hc;have hd2:0<d / 2:=Nq dp (by decide);have h2:d / 2*2=d:=Fb (by decide);obtain ⟨e,e1,_,e3⟩:=Fz (Sx hR p) hd2;obtain ⟨x,y,hx,hy,hxy,_,hq⟩:=Q6p hc e1 hn;obtain ⟨r,r1,r2,r3⟩:=hd x y hx hy;have key:∀ q,x<=q->q<=y->Uk (ev p q-ev p r)<d / 2:=λq q1 q2 =>
   Sy (hq r r1 r2) (hq q q1 q2) hR (by rw [Rm]; clear hq hd; constructor <;> grind) e3
  refine ⟨Uo (ev p r),λh0=>?_,d / 2,hd2,x,y,hx,hy,λq q1 q2=>⟨(T0 (d:=d) r3 ?_).1,?_⟩⟩
  ·rw [Fa.1 h0,G9] at r3; clear hq hd key; grind
  ·have:=key q q1 q2; clear hq hd key; grind
  ·have h3:=key q q1 q2;have h4:=Rv (ev p r-ev p q) (ev p q);rw [show ev p r-ev p q+ev p q=ev p r from by clear hq hd key; grind,Qy6] at h4;clear hq hd key; grind
theorem Zh8 {c:Rat->Int} (hc:Cut c) {p:List Rat} {s:Int} (h1:Lz p c) (h2:NZ p c s):False:=by
 obtain ⟨d,dp,h2⟩:=h2;obtain ⟨q,⟨a,b⟩,_⟩:=Qrl hc (Quu (h1 d dp) h2);exact absurd b.2 (Jr.2 a)
theorem Sp {c:Rat->Int} (hc:Cut c) {f p q:List Rat} (hf:∀ t,ev f t=ev p t*ev q t) (h:Lz p c):Lz f c:=by
 intro d dp;obtain ⟨R,hR,hn⟩:=Zey hc;obtain ⟨e,e1,_,e3⟩:=Fz (Ag hR q) dp;refine Qgu (Quu hn (h e e1)) λt ⟨h1,h2⟩=>?_
 rw [hf];have:=Fw (Qo h2) (Qfg h1 q);exact Jr.1 λh=>absurd (Q7 h this) (Jr.2 e3)
theorem Qg8 {c:Rat->Int} {f p q:List Rat} (hf:∀ t,ev f t=ev p t+ev q t) (h:Lz p c) (h':Lz q c):Lz f c:=by
 intro d dp;have hd2:0<d / 2:=Nq dp (by decide);have h2:d / 2*2=d:=Fb (by decide);refine Qgu (Quu (h _ hd2) (h' _ hd2)) λt ⟨h1,h2⟩=>?_
 rw [hf];have:=Rv (ev p t) (ev q t);grind
def RS (p:List Rat) (c:Rat->Int) (s:Int):Prop:=∃ y,c y=-1/\∀ q,c q=-1->q<=y->Uo (ev p q)=s
def LS (p:List Rat) (c:Rat->Int) (s:Int):Prop:=∃ x,c x=1/\∀ q,c q=1->x<=q->Uo (ev p q)=s
theorem Ql5 {c:Rat->Int} (hc:Cut c) {p:List Rat} {s:Int} (h:NZ p c s):RS p c s:=by
 obtain ⟨d,dp,x,y,a1,a2,a3⟩:=h;exact ⟨y,a2,λq h1 h2=>(a3 q (Qo (hc.lt a1 h1)) h2).1⟩
theorem Qyh {c:Rat->Int} (hc:Cut c) {p:List Rat} {s:Int} (h:NZ p c s):LS p c s:=by
 obtain ⟨d,dp,x,y,a1,a2,a3⟩:=h;exact ⟨x,a1,λq h1 h2=>(a3 q h2 (Qo (hc.lt h1 a2))).1⟩
theorem Qc5 {c:Rat->Int} {p:List Rat} {s s':Int} (h:RS p c s) (h':RS p c s'):s=s':=by
 obtain ⟨y,a1,a2⟩:=h;obtain ⟨y',b1,b2⟩:=h';rcases Uy y y' with e | e
 ·rw [<-a2 y a1 Qn,<-b2 y a1 e]
 ·rw [<-a2 y' b1 (Qo e),<-b2 y' b1 Qn]
theorem Ze3 {c:Rat->Int} (hc:Cut c) {p:List Rat} (hv:Lz p c) {y:Rat} (hy:c y=-1) (h:∀ q,c q=-1->q<=y->0<dv p q) (q:Rat) (hq:c q=-1) (hqy:q<=y):0<ev p q:=by
 rcases Uy (ev p q) 0 with h0 | h0
 ·exfalso;obtain ⟨r,r1,r2⟩:=hc.dn q hq;have hr:ev p r<ev p q:=Zc3 r1 λt t1 t2=>h t (by
   rcases Classical.em (r=t) with e | e
   ·rw [<-e]; exact r2
   ·exact hc.mono r t (by clear h; grind) (by omega)) (Q7 t2 hqy)
  obtain ⟨a,b,ha,hb,hab⟩:=hv (-ev p r) (by clear h; grind);obtain ⟨m,hm1,hm2,hm3⟩:∃ m,c m=-1/\m<=b/\m<=r:=by
   rcases Uy b r with e | e
   ·exact ⟨b,hb,Qn,e⟩
   ·exact ⟨r,r2,Qo e,Qn⟩
  have h1:=hab m (Qo (hc.lt ha hm1)) hm2;have h2:ev p m<=ev p r:=by
   rcases Classical.em (m=r) with e | e
   ·rw [e]; exact Qn
   ·exact Qo (Zc3 (by clear h hab; grind) λt t1 t2=>h t (by
     rcases Classical.em (m=t) with e | e
     ·rw [<-e]; exact hm1
     ·exact hc.mono m t (by clear h hab; grind) (by omega)) (by clear h hab; grind))
  rw [Qom] at h1;clear h hab; grind
 ·exact h0
theorem Qos {c:Rat->Int} (hc:Cut c) {p:List Rat} {s:Int} (hv:Lz p c) (h:RS (Md p) c s) (hs:s≠0):RS p c s:=by
 obtain ⟨y,hy,h⟩:=h;have hsv:s=1\/s=-1:=by
  have:=h y hy Qn;rcases Ff (ev (Md p) y) with ⟨e,_⟩ | ⟨e,_⟩ | ⟨e,_⟩ <;> omega
 rcases hsv with rfl | rfl
 ·refine ⟨y,hy,λq h1 h2=>Ha.2 (Ze3 hc hv hy (λq h1 h2=>?_) q h1 h2)⟩;rw [<-Hp]; exact Ha.1 (h q h1 h2)
 ·refine ⟨y,hy,λq h1 h2=>Ti.2 ?_⟩;have:=Ze3 hc (p:=Pq (-1) p) (y:=y) (λd dp=>Qgu (hv d dp) λq hq=>by rw [Uw,show -1*ev p q=-ev p q by grind,Co]; exact hq) hy (λq h1 h2=>by
   rw [Qd2,<-Hp];have:=Ti.1 (h q h1 h2); grind) q h1 h2
  rw [Uw] at this; grind
theorem Zev {c:Rat->Int} (hc:Cut c) {p:List Rat} (hv:Lz p c) {x:Rat} (hx:c x=1) (h:∀ q,c q=1->x<=q->0<dv p q) (q:Rat) (hq:c q=1) (hxq:x<=q):ev p q<0:=by
 rcases Uy 0 (ev p q) with h0 | h0
 ·exfalso;obtain ⟨r,r1,r2⟩:=hc.up q hq;have hr:ev p q<ev p r:=Zc3 r1 λt t1 t2=>h t (by
   rcases Classical.em (t=r) with e | e
   ·rw [e]; exact r2
   ·exact hc.mono' (q:=t) (r:=r) (by clear h; grind) (by omega)) (Q7 hxq t1)
  obtain ⟨a,b,ha,hb,hab⟩:=hv (ev p r) (by clear h; grind);obtain ⟨m,hm1,hm2,hm3⟩:∃ m,c m=1/\a<=m/\r<=m:=by
   rcases Uy a r with e | e
   ·exact ⟨r,r2,e,Qn⟩
   ·exact ⟨a,ha,Qn,Qo e⟩
  have h1:=hab m hm2 (Qo (hc.lt hm1 hb));have h2:ev p r<=ev p m:=by
   rcases Classical.em (r=m) with e | e
   ·rw [e]; exact Qn
   ·exact Qo (Zc3 (by clear h hab; grind) λt t1 t2=>h t (by
     rcases Classical.em (t=m) with e | e
     ·rw [e]; exact hm1
     ·exact hc.mono' (q:=t) (r:=m) (by clear h hab; grind) (by omega)) (by clear h hab; grind))
  rw [Qom] at h1;clear h hab; grind
 ·exact h0
theorem Q6d {c:Rat->Int} (hc:Cut c) {p:List Rat} {s:Int} (hv:Lz p c) (h:LS (Md p) c s) (hs:s≠0):LS p c (-s):=by
 obtain ⟨x,hx,h⟩:=h;have hsv:s=1\/s=-1:=by
  have:=h x hx Qn;rcases Ff (ev (Md p) x) with ⟨e,_⟩ | ⟨e,_⟩ | ⟨e,_⟩ <;> omega
 rcases hsv with rfl | rfl
 ·refine ⟨x,hx,λq h1 h2=>Ti.2 (Zev hc hv hx (λq h1 h2=>?_) q h1 h2)⟩;rw [<-Hp]; exact Ha.1 (h q h1 h2)
 ·refine ⟨x,hx,λq h1 h2=>Ha.2 ?_⟩;have:=Zev hc (p:=Pq (-1) p) (x:=x) (λd dp=>Qgu (hv d dp) λq hq=>by rw [Uw,show -1*ev p q=-ev p q by grind,Co]; exact hq) hx (λq h1 h2=>by
   rw [Qd2,<-Hp];have:=Ti.1 (h q h1 h2); grind) q h1 h2
  rw [Uw] at this; grind
theorem Zdb {c:Rat->Int} (hc:Cut c) {f g:List Rat} {l:List (List Rat)} (h:SCl f g l):Lz f c->Lz g c->False:=by
 induction h with
 |
  @base f g k hk hg =>
  intro _ hv;obtain ⟨q,hq,_⟩:=Qrl hc (hv (Uk k) (M7 hk));rw [hg] at hq; grind
 |
  @step f g h l a b q ha hb he hl ih =>
  intro hf hg;refine ih hg ?_;have h1:Lz (Fl q g) c:=Sp hc (p:=g) (q:=q) (λt=>by rw [Ui]; grind) hg;have h2:Lz (Pq (-a) f) c:=Sp hc (p:=f) (q:=[-a]) (λt=>by rw [Uw]; simp only [ev]; grind) hf;have h3:Lz (H3 (Fl q g) (Pq (-a) f)) c:=Qg8 (λt=>U6 t _ _) h1 h2;refine Sp hc (p:=H3 (Fl q g) (Pq (-a) f)) (q:=[1 / b]) (λt=>?_) h3;have:=he t;rw [U6,Ui,Uw];simp only [ev];have hbb:1 / b*b=1:=Fb hb;have:ev q t*ev g t+-a*ev f t=b*ev h t:=by rw [show -a*ev f t=-(a*ev f t) by grind,he t]; grind
  rw [this];have:b*ev h t*(1 / b+t*0)=ev h t*(1 / b*b):=by grind
  rw [this,hbb]; grind
theorem Qmk {c:Rat->Int} (hc:Cut c) {f g:List Rat} {k:Rat} (h:∀ t,ev g t=k*ev f t) (hv:Lz f c):Lz g c :=
 Sp hc (p:=f) (q:=[k]) (λt=>by rw [h]; simp only [ev]; grind) hv
theorem Zdl {c:Rat->Int} (hc:Cut c) {f:List Rat} {L:List (List Rat)} (h:Stm f L) (hv:Lz f c):∃ s,s≠0/\NZ (Md f) c s:=by
 rcases Oy hc (Md f) with h1 | h1
 ·exfalso;rcases h with ⟨k,hk,hf,_⟩ | ⟨g,l,k,hk,hg,h,_⟩
  ·obtain ⟨q,hq,_⟩:=Qrl hc (hv (Uk k) (M7 hk));rw [hf] at hq; grind
  ·exact Zdb hc h hv (Qmk hc (λt=>by rw [hg,Hp]) h1)
 ·exact h1
theorem Qxo {c:Rat->Int} (hc:Cut c) {f w u:List Rat} {L:List (List Rat)} (h:Stm f L) (hf:∀ t,ev f t=ev w t*ev u t) (hv:Lz w c):∃ s,s≠0/\NZ (Md w) c s:=by
 rcases Oy hc (Md w) with h1 | h1
 ·exfalso;obtain ⟨s,_,hs⟩:=Zdl hc h (Sp hc hf hv);refine Zh8 hc ?_ hs;have a1:Lz (Fl (Md w) u) c:=Sp hc (λt=>Ui t _ _) h1;have a2:Lz (Fl w (Md u)) c:=Sp hc (λt=>Ui t _ _) hv;refine Qg8 (λt=>?_) a1 a2;rw [Hp,Af hf,Ui,Ui,Hp,Hp]
 ·exact h1
theorem Q4p {c:Rat->Int} (hc:Cut c) {q:Rat} (h:c q=0) {x y:Rat} (hx:c x=1) (hy:c y=-1):x<=q/\q<=y:=by
 constructor
 ·rcases Uy x q with e | e
  ·exact e
  ·have:=hc.mono q x e (by omega); omega
 ·rcases Uy q y with e | e
  ·exact e
  ·have:=hc.mono y q e (by omega); omega
theorem Qe6 {c:Rat->Int} (hc:Cut c) {p:List Rat} {q:Rat} (h:c q=0) (hv:Lz p c):ev p q=0:=by
 rcases Classical.em (ev p q=0) with e | e
 ·exact e
 ·obtain ⟨x,y,hx,hy,hq⟩:=hv _ (M7 e);obtain ⟨h1,h2⟩:=Q4p hc h hx hy;have:=hq q h1 h2; grind
theorem Qrp {c:Rat->Int} (hc:Cut c) {p:List Rat} {q:Rat} {s:Int} (h:c q=0) (hv:NZ p c s):Uo (ev p q)=s:=by
 obtain ⟨d,dp,x,y,hx,hy,hq⟩:=hv;obtain ⟨h1,h2⟩:=Q4p hc h hx hy;exact (hq q h1 h2).1
theorem Qt3 {c:Rat->Int} (hc:Cut c) {y z:Rat} (hy:c y=-1) (hz:c z=-1):∃ q,c q=-1/\q<y/\q<z:=by
 obtain ⟨a,a1,a2⟩:=hc.dn y hy;obtain ⟨b,b1,b2⟩:=hc.dn z hz;rcases Uy a b with e | e
 ·exact ⟨a,a2,a1,by grind⟩
 ·exact ⟨b,b2,by grind,b1⟩
theorem Qhw {c:Rat->Int} (hc:Cut c) {y z:Rat} (hy:c y=1) (hz:c z=1):∃ q,c q=1/\y<q/\z<q:=by
 obtain ⟨a,a1,a2⟩:=hc.up y hy;obtain ⟨b,b1,b2⟩:=hc.up z hz;rcases Uy a b with e | e
 ·exact ⟨b,b2,by grind,b1⟩
 ·exact ⟨a,a2,a1,by grind⟩
theorem Q6o {f w u:List Rat} {L:List (List Rat)} (h:Stm f L) (hf:∀ t,ev f t=ev w t*ev u t) {x y:Rat} (hv:vv L x=vv L y) {c:Rat->Int} (hc:Cut c) (hx:c x=1) (hy:c y≠1):¬Lz w c:=λhw=>by
 have hxy:x<y:=by
  rcases Uy y x with e | e
  ·rcases Classical.em (y=x) with e' | e'
   ·rw [e'] at hy; exact absurd hx hy
   ·have:=hc.mono y x (by grind) hy; omega
  ·exact e
 have hwv:=Qa3 h hf hxy hv;rcases hc.val y with e | e | e
 ·exact hy e
 ·have:=Qe6 hc e hw;have:=hwv.s;rw [Fa.2 (by assumption)] at this;exact hwv.n this.symm
 ·obtain ⟨s,hs,hd⟩:=Qxo hc h hf hw;obtain ⟨a,ha,hal⟩:=Q6d hc hw (Qyh hc hd) hs;obtain ⟨b,hb,hbr⟩:=Qos hc hw (Ql5 hc hd) hs;obtain ⟨q,q1,q2,q3⟩:=Qhw hc hx ha;obtain ⟨r,r1,r2,r3⟩:=Qt3 hc hb e;have e1:=hal q q1 (Qo q3);have e2:=hbr r r1 (Qo r2);have hqr:=hc.lt q1 r1;have v1:vv L q<=vv L x:=Dx h q2;have v2:vv L y<=vv L r:=Dx h r3;have v3:vv L r<=vv L q:=Dx h hqr;have s1:=(Qa3 h hf q2 (by omega)).s;have s2:=(Qa3 h hf (x:=x) (y:=r) (by grind) (by omega)).s;omega
theorem Qo5 {f:List Rat} {L:List (List Rat)} (h:Stm f L) {x y:Rat} (hxy:x<y) (hv:vv L x≠vv L y) {d:Rat} (dp:0<d):∃ q,x<=q/\q<=y/\Uk (ev f q)<d:=by
 obtain ⟨R,hR,hx,hy⟩:=Qmn x y;obtain ⟨e1,e1p,hl⟩:=loc hR h (w:=f) (u:=[1]) (λt=>by rw [Hu]; grind);obtain ⟨e2,e2p,_,e2b⟩:=Fz (Sx hR f) dp;obtain ⟨e,ep,h1,h2⟩:=min2 e1p e2p;have key:∀ n:Nat,∀ x,Uk x<=R->x<y->vv L x≠vv L y->y-x<=(n:Rat)*e->∃ q,x<=q/\q<=y/\Uk (ev f q)<d:=by
  intro n
  induction n with
  | zero=>intro x hx hxy _ hn; rw [show ((0:Nat):Rat)=0 from rfl] at hn; exfalso; clear hl; grind
  |
   succ n ih =>
   intro x hx hxy hv hn;have hstep:∀ z,Uk z<=R->x<z->z-x<=e->vv L x≠vv L z->Uk (ev f z)<d:=λz hz hxz hze hv=>by
    rcases hl x z hx hz hxz (Q7 hze h1) with ⟨p,_⟩ | ⟨_,p1,p2,p3,p4⟩
    ·exact absurd p hv
    ·have hd:=Sy (p:=f) hx hz hR (e:=e2) (d:=d) (by rw [Rm]; clear hl ih; constructor <;> grind) e2b;rw [<-p3] at p1 p4;clear hl ih p2 p3;rw [Qom] at *;rcases Ff (ev f x) with ⟨a,a'⟩ | ⟨a,a'⟩ | ⟨a,a'⟩ <;> rcases Ff (ev f z) with ⟨b,b'⟩ | ⟨b,b'⟩ | ⟨b,b'⟩ <;> rw [a,b] at p4 <;> first | (exfalso; revert p4; decide) | skip
     all_goals first | (constructor <;> grind) | (exfalso; omega)
   rcases Uy (y-x) e with h3 | h3
   ·exact ⟨y,Qo hxy,Qn,hstep y hy hxy h3 hv⟩
   ·have hm:Uk (x+e)<=R:=Qce hx hy (by clear hl ih hstep; grind) (by clear hl ih hstep; grind);rcases Classical.em (vv L x=vv L (x+e)) with e0 | e0
    ·have hn':(((n+1:Nat):Rat))=(n:Rat)+1:=by push_cast; rfl
     rw [hn'] at hn;obtain ⟨q,q1,q2,q3⟩:=ih (x+e) hm (by clear hl ih hstep; grind) (by omega) (by clear hl ih hstep; grind);exact ⟨q,by clear hl ih hstep; grind,q2,q3⟩
    ·exact ⟨x+e,by clear hl ih hstep; grind,by clear hl ih hstep; grind,hstep (x+e) hm (by clear hl ih hstep; grind) (by clear hl ih hstep; grind) e0⟩
 obtain ⟨n,hn⟩:=Il (z:=y-x) ep;exact key n x hx hxy hv hn
theorem Zjk {p:List Rat} {x:Rat} (h:Tj p x≠0):∃ e:Rat,0<e/\∀ y,x<y->y-x<=e->Uo (ev p y)=Tj p x:=by
 by_cases h0:Uo (ev p x)=0
 ·have hx:=Fa.1 h0;rw [Qur h0] at h ⊢;have hR:0<=Uk x+1:=by have:=Gj x; grind
  obtain ⟨e,e1,e2,e3⟩:=Fz (Qhy hR p) (M7 (x:=dv p x) λh'=>h (Fa.2 h'));refine ⟨e,e1,λy h1 h2=>?_⟩;have hy:Uk y<=Uk x+1:=by
   have:=Rv x (y-x);have e:x+(y-x)=y:=by grind
   have e':Uk (y-x)=y-x:=by unfold Uk; split <;> grind
   rw [e,e'] at this; grind
  have:=Qiz (p:=p) (by grind) hy hR h1 h2 Qn e3;rw [hx] at this;rw [<-this]; congr 1; grind
 ·rw [Dk h0] at h ⊢;obtain ⟨e,e1,e2⟩:=cont h;exact ⟨e,e1,λy h1 h2=>e2 y (by rw [Rm]; constructor <;> grind)⟩
def cq (P:List Rat) (lo hi q:Rat):Int:=if q<=lo then 1 else if hi<q then -1 else if Uo (ev P q)=0 then 0 else if Uo (ev P q)=Tj P lo then 1 else -1
structure Vt (P:List Rat) (L:List (List Rat)) (lo hi:Rat):Prop where
 s:Stm P L
 l:lo<hi
 v:vv L lo=vv L hi+1
variable {P:List Rat} {L:List (List Rat)} {lo hi:Rat}
theorem Ni {q:Rat} (h:q<=lo):cq P lo hi q=1:=by unfold cq; rw [if_pos h]
theorem A8 {q:Rat} (h:lo<hi) (h':hi<q):cq P lo hi q=-1:=by unfold cq; rw [if_neg (by grind),if_pos h']
theorem Mq {q:Rat} (h1:lo<q) (h2:q<=hi):cq P lo hi q=if Uo (ev P q)=0 then 0 else if Uo (ev P q)=Tj P lo then 1 else -1:=by
 unfold cq; rw [if_neg (by grind),if_neg (by grind)]
theorem Vt.two (V:Vt P L lo hi) {q:Rat} (h1:lo<q) (h2:q<=hi):vv L q=vv L lo/\cq P lo hi q=1/\Uo (ev P q)=Tj P lo\/vv L q=vv L hi/\cq P lo hi q≠1/\Tj P q=-Tj P lo/\Tj P lo≠0:=by
 have a:=Dx V.s h1;have b:vv L hi<=vv L q:=by
  rcases Classical.em (q=hi) with e | e
  ·rw [e]; exact Qj _
  ·exact Dx V.s (by grind)
 have hv:=V.v;rcases (show vv L q=vv L lo\/vv L q=vv L hi by omega) with e | e
 ·have hs:=Qpe V.s h1 e.symm;refine .inl ⟨e,?_,hs.s⟩;rw [Mq h1 h2,hs.s,if_neg hs.n,if_pos rfl]
 ·obtain ⟨o1,o2⟩:=Qpd V.s h1 (by omega);refine .inr ⟨e,?_,o2,o1⟩;rw [Mq h1 h2]
  split
  ·decide
  ·rename_i h0;rw [Dk h0] at o2;rw [if_neg (by omega)]; decide
theorem Vt.lowlo (V:Vt P L lo hi):Tj P lo≠0:=(Qpd V.s V.l V.v).1
theorem Vt.eq_lo (V:Vt P L lo hi) {q:Rat} (h1:lo<q) (h2:q<=hi) (h:cq P lo hi q=1):vv L q=vv L lo:=by
 rcases V.two h1 h2 with ⟨e,_⟩ | ⟨_,e,_⟩
 ·exact e
 ·exact absurd h e
theorem Vt.eq_hi (V:Vt P L lo hi) {q:Rat} (h1:lo<q) (h2:q<=hi) (h:cq P lo hi q≠1):vv L q=vv L hi:=by
 rcases V.two h1 h2 with ⟨_,e,_⟩ | ⟨e,_⟩
 ·exact absurd e h
 ·exact e
theorem Vt.hi1 (V:Vt P L lo hi):cq P lo hi hi≠1:=λh=>by have:=V.eq_lo V.l Qn h; have:=V.v; omega
theorem Vt.cut (V:Vt P L lo hi):Cut (cq P lo hi) where
 val q:=by unfold cq; split <;> (try split) <;> (try split) <;> (try split) <;> simp
 mono q r h h1:=by
  have hq:lo<q:=by
   rcases Uy q lo with e | e
   ·exact absurd (Ni e) h1
   ·exact e
  rcases Uy r hi with e | e
  ·have e1:=V.eq_hi hq (by grind) h1;rcases V.two (q:=r) (by grind) e with ⟨e2,_⟩ | ⟨e2,_,e3,e4⟩
   ·have:=Dx V.s h; have:=V.v; omega
   ·have hs:=Qpe V.s h (by omega);rcases V.two hq (by grind) with ⟨e5,_⟩ | ⟨_,_,e5,_⟩
    ·have:=V.v; omega
    ·rw [Mq (by grind) e,hs.s,if_neg hs.n,e5,if_neg (by omega)]
  ·exact A8 V.l e
 up q h:=by
  rcases Uy q lo with e | e
  ·obtain ⟨d,dp,hd⟩:=Zjk V.lowlo;obtain ⟨f,fp,f1,f2⟩:=min2 (a:=d) (b:=hi-lo) dp (by have:=V.l; grind);have h1:lo<lo+f:=by clear hd; grind
   have h2:lo+f<=hi:=by clear hd; grind
   have:=hd (lo+f) h1 (by clear hd; grind);exact ⟨lo+f,by clear hd; grind,by rw [Mq h1 h2,this,if_neg V.lowlo,if_pos rfl]⟩
  ·have hh:q<=hi:=by
    rcases Uy q hi with e' | e'
    ·exact e'
    ·have:=A8 (P:=P) V.l e'; omega
   rcases V.two e hh with ⟨e1,_,e2⟩ | ⟨_,e1,_⟩
   ·have hn:q≠hi:=λh=>by rw [h] at e1; have:=V.v; omega
    obtain ⟨d,dp,hd⟩:=cont (p:=P) (x:=q) (by rw [e2]; exact V.lowlo);obtain ⟨f,fp,f1,f2⟩:=min2 (a:=d) (b:=hi-q) dp (by clear hd; grind);have:=hd (q+f) (by rw [Rm]; clear hd; constructor <;> grind);exact ⟨q+f,by clear hd; grind,by rw [Mq (by clear hd; grind) (by clear hd; grind),this,e2,if_neg V.lowlo,if_pos rfl]⟩
   ·exact absurd h e1
 dn q h:=by
  have hq:lo<q:=by
   rcases Uy q lo with e | e
   ·have:=Ni (P:=P) (hi:=hi) e; omega
   ·exact e
  rcases Uy q hi with e | e
  ·rw [Mq hq e] at h
   split at h
   ·cases h
   rename_i h0
   split at h
   ·cases h
   rename_i h1;obtain ⟨d,dp,hd⟩:=cont h0;obtain ⟨f,fp,f1,f2⟩:=min2 (a:=d) (b:=(q-lo) / 2) dp (Nq (by clear hd; grind) (by decide));have h2:(q-lo) / 2*2=q-lo:=Fb (by decide);have:=hd (q-f) (by rw [Rm]; clear hd; constructor <;> grind);exact ⟨q-f,by clear hd; grind,by rw [Mq (by clear hd; grind) (by clear hd; grind),this,if_neg h0,if_neg h1]⟩
  ·have h2:(q-hi) / 2*2=q-hi:=Fb (by decide);exact ⟨q-(q-hi) / 2,by grind,A8 V.l (by grind)⟩
 lo:=⟨lo,Ni Qn⟩
 hi:=⟨hi+1,A8 V.l (by grind)⟩
theorem Vt.van (V:Vt P L lo hi):Lz P (cq P lo hi):=by
 have hc:=V.cut;rcases Oy hc P with h | ⟨s,hs,h⟩
 ·exact h
 ·exfalso;have e1:s=Tj P lo:=by
   obtain ⟨x,hx,hx1⟩:=Qyh hc h;obtain ⟨q,q1,q2,q3⟩:=Qhw hc hx (Ni (P:=P) (hi:=hi) (Qn (a:=lo)));have hq:q<=hi:=by
    rcases Uy q hi with e | e
    ·exact e
    ·have:=A8 (P:=P) V.l e; omega
   rcases V.two q3 hq with ⟨_,_,e⟩ | ⟨_,e,_⟩
   ·rw [<-hx1 q q1 (Qo q2),e]
   ·exact absurd q1 e
  rcases hc.val hi with e | e | e
  ·exact V.hi1 e
  ·have h0:=Qrp hc e h;rw [Mq V.l Qn] at e
   split at e
   ·omega
   ·split at e <;> omega
  ·obtain ⟨y,hy,hy1⟩:=Ql5 hc h;obtain ⟨q,q1,q2,q3⟩:=Qt3 hc hy e;have hq:lo<q:=hc.lt (Ni (P:=P) (hi:=hi) (Qn (a:=lo))) q1;have:=hy1 q q1 (Qo q2);rw [Mq hq (Qo q3),this,if_neg hs,if_pos e1] at q1;cases q1
def Qui (w:List Rat) (lo hi:Rat):Prop:=Uo (ev w hi)=0\/Uo (ev w hi)≠Tj w lo
theorem Vt.has (V:Vt P L lo hi) {w u:List Rat} (hf:∀ t,ev P t=ev w t*ev u t) {a b:Rat} (h1:lo<=a) (h2:a<b) (h3:b<=hi):Qui w a b↔Lz w (cq P lo hi)/\cq P lo hi a=1/\cq P lo hi b≠1:=by
 have hc:=V.cut;have smno:vv L a=vv L b->¬Qui w a b:=λh hh=>by
  have:=Qa3 V.s hf h2 h;rcases hh with e | e
  ·rw [this.s] at e; exact this.n e
  ·exact e this.s
 by_cases ha:cq P lo hi a=1
 ·by_cases hb:cq P lo hi b=1
  ·have e1:=V.eq_lo (by grind) h3 hb;have e2:vv L a=vv L lo:=by
    rcases Classical.em (lo=a) with e | e
    ·rw [e]
    ·exact V.eq_lo (by grind) (by grind) ha
   exact ⟨λh=>absurd h (smno (by omega)),λh=>absurd hb h.2.2⟩
  ·have e1:=V.eq_hi (by grind) h3 hb;have e2:vv L a=vv L lo:=by
    rcases Classical.em (lo=a) with e | e
    ·rw [e]
    ·exact V.eq_lo (by grind) (by grind) ha
   have left:∀ s,LS w (cq P lo hi) s->s=Tj w a:=λs hs=>by
    obtain ⟨x,hx,hx1⟩:=hs;obtain ⟨q,q1,q2,q3⟩:=Qhw hc hx ha;have hqb:q<b:=by
     rcases Uy b q with e | e
     ·rcases Classical.em (b=q) with e' | e'
      ·rw [e'] at hb; exact absurd q1 hb
      ·have:=hc.mono b q (by clear hx1 smno; grind) hb; omega
     ·exact e
    have:=V.eq_lo (q:=q) (by clear hx1 smno; grind) (by clear hx1 smno; grind) q1;rw [<-(Qa3 V.s hf q3 (by omega)).s,hx1 q q1 (Qo q2)]
   have right:∀ s,RS w (cq P lo hi) s->cq P lo hi b=-1->s=Uo (ev w b):=λs hs hb=>by
    obtain ⟨y,hy,hy1⟩:=hs;obtain ⟨q,q1,q2,q3⟩:=Qt3 hc hy hb;have hqa:=hc.lt ha q1;have:=V.eq_hi (q:=q) (by clear hy1 smno; grind) (by clear hy1 smno; grind) (by omega);have hs:=Qa3 V.s hf q3 (by omega);have hl:=hy1 q q1 (Qo q2);have h0:Uo (ev w q)≠0:=by
     have hs2:=Qa3 V.s hf (x:=q) (y:=b) q3 (by omega);intro h0;obtain ⟨r,r1,r2⟩:=hc.dn q q1;have har:=hc.lt ha r2;have:=V.eq_hi (q:=r) (by clear hy1 smno; grind) (by clear hy1 smno; grind) (by omega);have hs3:=Qa3 V.s hf (x:=r) (y:=q) r1 (by omega);have hs4:=hs3.s;rw [h0] at hs4; exact hs3.n hs4.symm
    rw [hs.s,Dk h0,hl]
   refine ⟨λh=>⟨?_,ha,hb⟩,λ⟨hw,_,_⟩=>?_⟩
   ·rcases Oy hc w with e | ⟨s,hs0,hs⟩
    ·exact e
    ·exfalso;have l1:=left s (Qyh hc hs);have r1:Uo (ev w b)=s:=by
      rcases hc.val b with e | e | e
      ·exact absurd e hb
      ·exact Qrp hc e hs
      ·exact (right s (Ql5 hc hs) e).symm
     rcases h with h | h
     ·exact hs0 (by rw [<-r1]; exact h)
     ·exact h (by rw [r1,l1])
   ·rcases hc.val b with e | e | e
    ·exact absurd e hb
    ·exact .inl (Fa.2 (Qe6 hc e hw))
    ·obtain ⟨s,hs0,hs⟩:=Qxo hc V.s hf hw;have l1:=left _ (Q6d hc hw (Qyh hc hs) hs0);have r1:=right _ (Qos hc hw (Ql5 hc hs) hs0) e;exact .inr (by rw [<-l1,<-r1]; omega)
 ·have hla:lo<a:=by
   rcases Classical.em (lo=a) with e | e
   ·rw [<-e] at ha; exact absurd (Ni Qn) ha
   ·grind
  have hb:cq P lo hi b≠1:=by have:=hc.mono a b h2 ha; omega
  have e1:=V.eq_hi hla (by grind) ha;have e2:=V.eq_hi (q:=b) (by grind) h3 hb;exact ⟨λh=>absurd h (smno (by omega)),λh=>absurd h.2.1 ha⟩
theorem Qqc {c c':Rat->Int} (hc:Cut c) (hc':Cut c') {q:Rat} (h:c q≠c' q):∃ r,(c r=-1/\c' r=1)\/(c r=1/\c' r=-1):=by
 rcases hc.val q with e | e | e <;> rcases hc'.val q with e' | e' | e'
 ·omega
 ·obtain ⟨r,r1,r2⟩:=hc.up q e;exact ⟨r,.inr ⟨r2,hc'.mono q r r1 (by omega)⟩⟩
 ·exact ⟨q,.inr ⟨e,e'⟩⟩
 ·obtain ⟨r,r1,r2⟩:=hc'.up q e';exact ⟨r,.inl ⟨hc.mono q r r1 (by omega),r2⟩⟩
 ·omega
 ·obtain ⟨r,r1,r2⟩:=hc'.dn q e';exact ⟨r,.inr ⟨hc.mono' r1 (by omega),r2⟩⟩
 ·exact ⟨q,.inl ⟨e,e'⟩⟩
 ·obtain ⟨r,r1,r2⟩:=hc.dn q e;exact ⟨r,.inl ⟨r2,hc'.mono' r1 (by omega)⟩⟩
 ·omega
theorem Vt.uniq (V:Vt P L lo hi) {c:Rat->Int} (hc:Cut c) (h1:c lo=1) (h2:c hi≠1) (hv:Lz P c) (q:Rat):c q=cq P lo hi q:=by
 rcases Classical.em (c q=cq P lo hi q) with e | e
 ·exact e
 ·exfalso;obtain ⟨r,⟨r1,r2⟩ | ⟨r1,r2⟩⟩:=Qqc hc V.cut e
  ·have hl:=hc.lt h1 r1;have hh:r<=hi:=by
    rcases Uy r hi with e | e
    ·exact e
    ·have:=A8 (P:=P) V.l e; omega
   have:=V.eq_lo hl hh r2;exact Q6o V.s (w:=P) (u:=[1]) (λt=>by rw [Hu]; grind) (x:=lo) (y:=r) (by omega) hc h1 (by omega) hv
  ·have hl:lo<r:=by
    rcases Uy r lo with e | e
    ·have:=Ni (P:=P) (hi:=hi) e; omega
    ·exact e
   have hh:r<=hi:=by
    rcases Uy r hi with e | e
    ·exact e
    ·have:=hc.mono hi r e h2; omega
   have:=V.eq_hi hl hh (by omega);exact Q6o V.s (w:=P) (u:=[1]) (λt=>by rw [Hu]; grind) (x:=r) (y:=hi) (by omega) hc r1 h2 hv
theorem Vt.same (V:Vt P L lo hi) {P':List Rat} {L':List (List Rat)} {lo' hi':Rat} (V':Vt P' L' lo' hi') {g u u' U W:List Rat} {k:Rat} (hk:k≠0) (h1:∀ t,ev P t=ev g t*ev u t) (h2:∀ t,ev P' t=ev g t*ev u' t) (h3:∀ t,k*ev g t=ev U t*ev P t+ev W t*ev P' t) {a b:Rat} (ha1:lo<=a) (ha2:lo'<=a) (ha:a=lo\/a=lo') (hb1:b<=hi) (hb2:b<=hi') (hb:b=hi\/b=hi'):(a<b/\Qui g a b)↔∀ q,cq P lo hi q=cq P' lo' hi' q:=by
 have hc:=V.cut;have hc':=V'.cut;constructor
 ·rintro ⟨hab,hg⟩
  obtain ⟨g1,g2,g3⟩:=(V.has h1 ha1 hab hb1).1 hg;obtain ⟨g4,g5,g6⟩:=(V'.has h2 ha2 hab hb2).1 hg;intro q;refine (V.uniq hc' (by
   rcases Classical.em (lo=a) with e | e
   ·rw [e]; exact g5
   ·exact hc'.mono' (q:=lo) (r:=a) (by grind) (by omega)) (λh=>?_) (Sp hc' h1 g4) q).symm
  rcases Classical.em (b=hi) with e | e
  ·rw [<-e] at h; exact g6 h
  ·have:=hc'.mono b hi (by grind) g6; omega
 ·intro h;have hcc:cq P' lo' hi'=cq P lo hi:=funext λq=>(h q).symm
  have e1:cq P lo hi a=1:=by
   rcases ha with rfl | rfl
   ·exact Ni Qn
   ·rw [h]; exact Ni Qn
  have e2:cq P lo hi b≠1:=by
   rcases hb with rfl | rfl
   ·exact V.hi1
   ·rw [h]; exact V'.hi1
  have hab:a<b:=by
   rcases Uy b a with e | e
   ·rcases Classical.em (b=a) with e' | e'
    ·rw [e'] at e2; exact absurd e1 e2
    ·have:=hc.mono b a (by grind) e2; omega
   ·exact e
  have v1:=V.van;have v2:=V'.van;rw [hcc] at v2;have hg:Lz g (cq P lo hi):=by
   have a1:Lz (Fl U P) (cq P lo hi):=Sp hc (p:=P) (q:=U) (λt=>by rw [Ui]; grind) v1;have a2:Lz (Fl W P') (cq P lo hi):=Sp hc (p:=P') (q:=W) (λt=>by rw [Ui]; grind) v2;have a3:=Qg8 (λt=>U6 t _ _) a1 a2;refine Qmk hc (k:=1 / k) (λt=>?_) a3;rw [U6,Ui,Ui,<-h3];have:1 / k*(k*ev g t)=1 / k*k*ev g t:=by grind
   rw [this,show 1 / k*k=1 from Zi hk]; grind
  exact ⟨hab,(V.has h1 ha1 hab hb1).2 ⟨hg,e1,e2⟩⟩
end Orq
namespace Orq
theorem Q62:∀ (M:Nat) (f:Nat->Nat),(∀ i,i<=M->f i<M)->∃ i j,i<j/\j<=M/\f i=f j
 | 0,f,h=>absurd (h 0 (Qj _)) (W4 _)
 |
  M+1,f,h=>by
  rcases Classical.em (∃ i,i<=M/\f i=f (M+1)) with ⟨i,h1,h2⟩ | hn
  ·exact ⟨i,M+1,by omega,Qj _,h2⟩
  ·have hne:∀ i,i<=M->f i≠f (M+1):=λi hi e=>hn ⟨i,hi,e⟩
   obtain ⟨i,j,h1,h2,h3⟩:=Q62 M (λi=>if f i=M then f (M+1) else f i) λi hi=>by
    have a1:=h i (by omega);have a2:=h (M+1) (Qj _);have a3:=hne i hi;show (if f i=M then f (M+1) else f i)<M
    split <;> omega
   refine ⟨i,j,h1,by omega,?_⟩;have a1:=hne i (by omega);have a2:=hne j h2
   split at h3 <;> split at h3 <;> omega
def dg (B k i:Nat):Nat:=k / B^i % B
theorem Qxm (B k i:Nat):dg B k (i+1)=dg B (k / B) i:=by unfold dg; rw [Nat.pow_succ,Nat.mul_comm,Nat.div_div_eq_div_mul]
theorem Q4t {B:Nat}:∀ (N:Nat) {k k':Nat},k<B^N->k'<B^N->(∀ i,i<N->dg B k i=dg B k' i)->k=k'
 | 0,k,k',h,h',_=>by rw [Yx] at h h'; omega
 |
  N+1,k,k',h,h',he=>by
  have h0:=he 0 (by omega);unfold dg at h0;rw [Yx,Nat.div_one,Nat.div_one] at h0;have hB:0<B:=by
   rcases Qy B with e | e
   ·rw [e,Zk,Ys] at h; omega
   ·exact e
  have h1:=Q4t N (k:=k / B) (k':=k' / B) (Jb (by rw [Zf,<-Zk]; exact h)) (Jb (by rw [Zf,<-Zk]; exact h')) λi hi=>by
   rw [<-Qxm,<-Qxm]; exact he (i+1) (by omega)
  rw [<-Wz k B,<-Wz k' B,h0,h1]
def cd (B:Nat):Nat->(Nat->Nat)->Nat
 | 0,_=>0
 | E+1,x=>x 0+B*cd B E λe=>x (e+1)
theorem Zej {B:Nat}:∀ (E:Nat) {x:Nat->Nat},(∀ e,e<E->x e<B)->cd B E x<B^E
 | 0,_,_=>by simp [cd]
 |
  E+1,x,h=>by
  have h1:=h 0 (by omega);have h2:=Zej E (x:=λe=>x (e+1)) λe he=>h (e+1) (by omega)
  simp only [cd];have h3:B*cd B E (λe=>x (e+1))+B<=B*B^E:=by
   rw [<-Ka]; exact Zh _ h2
  rw [Zk,Zf (B^E)]; omega
theorem Q4f {B:Nat}:∀ (E:Nat) {x y:Nat->Nat},(∀ e,e<E->x e<B)->(∀ e,e<E->y e<B)->cd B E x=cd B E y->∀ e,e<E->x e=y e
 | 0,_,_,_,_,_,e,he=>by omega
 |
  E+1,x,y,hx,hy,h,e,he=>by
  have h1:=hx 0 (by omega);have h2:=hy 0 (by omega);simp only [cd] at h;have e0:x 0=y 0:=by
   have:=congrArg (· % B) h;simp only [V4] at this;rwa [X8 h1,X8 h2] at this
  have e1:cd B E (λe=>x (e+1))=cd B E (λe=>y (e+1)):=Nat.eq_of_mul_eq_mul_left (by omega:0<B) (by omega);cases e with
  | zero=>exact e0
  | succ e=>exact Q4f E (λe he=>hx (e+1) (by omega)) (λe he=>hy (e+1) (by omega)) e1 e (by omega)
def sm:Nat->(Nat->Int)->Int
 | 0,_=>0
 | n+1,f=>sm n f+f n
theorem Q8i (f g:Nat->Int):∀ n,sm n (λi=>f i-g i)=sm n f-sm n g
 | 0=>rfl
 | n+1=>by simp only [sm,Q8i f g n]; omega
theorem Bw {f g:Nat->Int}:∀ n,(∀ i,i<n->f i=g i)->sm n f=sm n g
 | 0,_=>rfl
 | n+1,h=>by simp only [sm,Bw n (λi hi=>h i (by omega)),h n (by omega)]
theorem Q8h {f:Nat->Int} {b:Nat}:∀ n,(∀ i,i<n->(f i).natAbs<=b)->(sm n f).natAbs<=n*b
 | 0,_=>by simp [sm]
 |
  n+1,h=>by
  have h1:=Q8h n λi hi=>h i (by omega)
  have h2:=h n (by omega);simp only [sm];rw [Xc]; omega
theorem Qam {f:Nat->Int}:∀ n,(∀ i,i<n->f i=0)->sm n f=0
 | 0,_=>rfl
 | n+1,h=>by simp only [sm,Qam n (λi hi=>h i (by omega)),h n (by omega)]; rfl
theorem Qvu (f:Nat->Int) (m:Nat):∀ n,sm (m+n) f=sm m f+sm n λi=>f (m+i)
 | 0=>by simp [sm]
 | n+1=>by rw [<-J7]; simp only [sm,Qvu f m n]; omega
theorem Qvv (f:Nat->Int) (J:Nat):∀ b,sm (b*J) f=sm b λi=>sm J λj=>f (i*J+j)
 | 0=>by simp [sm]
 | b+1=>by rw [Xc,Qvu,Qvv f J b]; rfl
theorem Qjm {f:Nat->Int} {k:Nat}:∀ n,k<n->(∀ i,i<n->i≠k->f i=0)->sm n f=f k
 | 0,h,_=>by omega
 |
  n+1,h,h1=>by
  simp only [sm];rcases Y6 (Nat.le_of_lt_succ h) with e | e
  ·rw [Qjm n e λi hi=>h1 i (by omega),h1 n (by omega) (by omega)]; omega
  ·subst e; rw [Qam k λi hi=>h1 i (by omega) (by omega)]; omega
theorem Zhp {M:Nat->Nat->Int} {h N E H:Nat} (hM:∀ e i,(M e i).natAbs<=h) (hc:(2*(N*(h*H))+1)^E<(H+1)^N) :
 ∃ v:Nat->Int,(∀ i,(v i).natAbs<=H)/\(∃ i,i<N/\v i≠0)/\∀ e,e<E->sm N (λi=>M e i*v i)=0:=by
 obtain ⟨T,hT⟩:=nmE (N*(h*H));rw [<-hT] at hc;have hv:∀ k i,dg (H+1) k i<=H:=λk i=>Nat.le_of_lt_succ (Xb _ (by omega))
 have hs:∀ k e,(sm N λi=>M e i*(dg (H+1) k i:Int)).natAbs<=T:=λk e=>by
  rw [hT];refine Q8h N λi _=>?_
  rw [Jv,Zw];exact Zt (hM e i) (hv k i)
 have him:∀ k e,((sm N λi=>M e i*(dg (H+1) k i:Int))+T).toNat<2*T+1:=λk e=>by have:=hs k e; omega
 obtain ⟨i,j,h1,h2,h3⟩:=Q62 ((2*T+1)^E) (λk=>cd (2*T+1) E λe=>((sm N λi=>M e i*(dg (H+1) k i:Int))+T).toNat) λk _=>Zej E λe _=>him k e
 have h4:=Q4f E (λe _=>him i e) (λe _=>him j e) h3;refine ⟨λn=>(dg (H+1) i n:Int)-dg (H+1) j n,λn=>?_,?_,λe he=>?_⟩
 ·have a1:=hv i n;have a2:=hv j n;show ((dg (H+1) i n:Int)-dg (H+1) j n).natAbs<=H;omega
 ·rcases Classical.em (∃ n,n<N/\(dg (H+1) i n:Int)-dg (H+1) j n≠0) with e | e
  ·exact e
  ·exfalso;have:i=j:=Q4t (B:=H+1) N (by omega) (by omega) λn hn=>by
    rcases Classical.em (dg (H+1) i n=dg (H+1) j n) with e' | e'
    ·exact e'
    ·exact absurd ⟨n,hn,by omega⟩ e
   omega
 ·have a1:=h4 e he;have a2:=hs i e;have a3:=hs j e;have:(sm N λn=>M e n*(dg (H+1) i n:Int))=sm N λn=>M e n*(dg (H+1) j n:Int):=by omega
  have e1:=Q8i (λn=>M e n*(dg (H+1) i n:Int)) (λn=>M e n*(dg (H+1) j n:Int)) N;rw [this] at e1;rw [Bw N (g:=λn=>M e n*(dg (H+1) i n:Int)-M e n*(dg (H+1) j n:Int)) λn _=>Int.mul_sub _ _ _,e1]; omega
def Ug:List Int->Rat->Rat
 | [],_=>0
 | a::p,t=>(a:Rat)+t*Ug p t
def sq:Nat->(Nat->Rat)->Rat
 | 0,_=>0
 | n+1,f=>sq n f+f n
theorem Tv {f g:Nat->Rat}:∀ n,(∀ i,i<n->f i=g i)->sq n f=sq n g
 | 0,_=>rfl
 | n+1,h=>by simp only [sq,Tv n (λi hi=>h i (by omega)),h n (by omega)]
theorem Qv0 (f g:Nat->Rat):∀ n,sq n (λi=>f i+g i)=sq n f+sq n g
 | 0=>by simp only [sq]; grind
 | n+1=>by simp only [sq,Qv0 f g n]; grind
theorem Ou (c:Rat) (f:Nat->Rat):∀ n,sq n (λi=>c*f i)=c*sq n f
 | 0=>by simp only [sq]; grind
 | n+1=>by simp only [sq,Ou c f n]; grind
theorem Na {f:Nat->Rat}:∀ n,(∀ i,i<n->f i=0)->sq n f=0
 | 0,_=>rfl
 | n+1,h=>by simp only [sq,Na n (λi hi=>h i (by omega)),h n (by omega)]; grind
theorem Ex (f:Nat->Rat):∀ n,sq (n+1) f=f 0+sq n λi=>f (i+1)
 | 0=>by simp only [sq]; grind
 | n+1=>by rw [sq,Ex f n]; simp only [sq]; grind
theorem Ze5 {f:Nat->Rat} {b:Rat}:∀ n,(∀ i,i<n->Uk (f i)<=b)->Uk (sq n f)<=(n:Rat)*b
 | 0,_=>by rw [show ((0:Nat):Rat)=0 from rfl]; simp only [sq,G9]; grind
 |
  n+1,h=>by
  have h1:=Ze5 n λi hi=>h i (by omega)
  have h2:=h n (by omega);have h3:=Rv (sq n f) (f n);have hn':(((n+1:Nat):Rat))=(n:Rat)+1:=by push_cast; rfl
  rw [hn']; simp only [sq]; clear h; grind
def gc:List Int->Nat->Nat->Int
 | [],_,_=>0
 | c::B,k,j=>(if k=0/\j=0 then c else 0)+(if k=0 then 0 else gc B (k-1) j)-(if j=0 then 0 else gc B k (j-1))
def gB:List Int->Nat
 | []=>0
 | c::B=>max c.natAbs (2*gB B)
theorem Qgo:∀ (B:List Int) (k j:Nat),B.length<=k+j->gc B k j=0
 | [],_,_,_=>rfl
 |
  c::B,k,j,h=>by
  simp only [Zc] at h;simp only [gc];rw [if_neg (by omega)];have e1:(if k=0 then 0 else gc B (k-1) j)=0:=by
   split
   ·rfl
   ·exact Qgo B _ _ (by omega)
  have e2:(if j=0 then 0 else gc B k (j-1))=0:=by
   split
   ·rfl
   ·exact Qgo B _ _ (by omega)
  rw [e1,e2]; rfl
theorem Q5m:∀ (B:List Int) (k j:Nat),(gc B k j).natAbs<=gB B
 | [],_,_=>Qi _
 |
  c::B,k,j=>by
  have h1:=Q5m B (k-1) j;have h2:=Q5m B k (j-1);simp only [gc,gB];by_cases hk:k=0 <;> by_cases hj:j=0 <;> simp only [hk,hj,true_and,and_true,false_and,and_false,if_true,if_false] <;> (try subst hk) <;> (try subst hj) <;> omega
theorem Q5n:∀ (B:List Int) (b:Nat),B.length=b+1->(gc B 0 b).natAbs=(B.getD b 0).natAbs
 | [],_,h=>by simp at h
 | [c],0,_=>by simp [gc]
 | c::d::B,0,h=>by simp at h
 |
  c::B,b+1,h=>by
  have ih:=Q5n B b (by simpa using h);simp only [gc];simp only [J8,Q3];rw [if_pos trivial,if_neg (Nat.succ_ne_zero b),<-ih]; omega
def E2 (F:Nat->Nat->Int) (K J:Nat) (x y:Rat):Rat:=sq K λk=>sq J λj=>(F k j:Rat)*(y^k*x^j)
theorem Qt7 (F G:Nat->Nat->Int) (K J:Nat) (x y:Rat):E2 (λk j=>F k j+G k j) K J x y=E2 F K J x y+E2 G K J x y:=by
 unfold E2;rw [<-Qv0];refine Tv K λk _=>?_
 rw [<-Qv0];exact Tv J λj _=>by push_cast; grind
theorem Q42 (c:Int) (F:Nat->Nat->Int) (K J:Nat) (x y:Rat):E2 (λk j=>F k j*c) K J x y=(c:Rat)*E2 F K J x y:=by
 unfold E2;rw [<-Ou];refine Tv K λk _=>?_
 rw [<-Ou];exact Tv J λj _=>by push_cast; grind
theorem Q43 (φ:Nat->Nat->Nat->Int) (v:Nat->Int) (K J:Nat) (x y:Rat):∀ N,E2 (λk j=>sm N λn=>φ n k j*v n) K J x y=sq N λn=>(v n:Rat)*E2 (φ n) K J x y
 |
  0=>by
  simp only [sq,sm];unfold E2;refine Na K λk _=>Na J λj _=>?_
  rw [show ((0:Int):Rat)=0 from rfl]; grind
 |
  N+1=>by
  simp only [sq];rw [<-Q43 φ v K J x y N,<-Q42,<-Qt7];rfl
theorem Qc0 (t:Rat) (i:Nat):∀ k,t^(i+k)=t^i*t^k
 | 0=>by rw [Xx,Xd]; grind
 | k+1=>by rw [<-J7,Z0,Z0,Qc0 t i k]; grind
theorem Qjn (f:Nat->Rat):∀ (i n:Nat),sq (i+n) (λk=>if i<=k then f (k-i) else 0)=sq n f
 | i,0=>Na _ λk hk=>by rw [if_neg (by omega)]
 |
  i,n+1=>by
  rw [<-J7]; simp only [sq];rw [Qjn f i n,if_pos (by omega),Jl]
def shF (i j':Nat) (F:Nat->Nat->Int) (k j:Nat):Int:=if i<=k then (if j'<=j then F (k-i) (j-j') else 0) else 0
theorem Qh8 (F:Nat->Nat->Int) (i j' K J:Nat) (x y:Rat):E2 (shF i j' F) (i+K) (j'+J) x y=y^i*x^j'*E2 F K J x y:=by
 unfold E2;rw [<-Ou,<-Qjn _ i K];refine Tv _ λk _=>?_
 by_cases hk:i<=k
 ·rw [if_pos hk,<-Ou,<-Qjn _ j' J];refine Tv _ λj _=>?_
  unfold shF;rw [if_pos hk];by_cases hj:j'<=j
  ·rw [if_pos hj,if_pos hj];have e1:y^k=y^i*y^(k-i):=by rw [<-Qc0]; congr 1; omega
   have e2:x^j=x^j'*x^(j-j'):=by rw [<-Qc0]; congr 1; omega
   rw [e1,e2]; grind
  ·rw [if_neg hj,if_neg hj,show ((0:Int):Rat)=0 from rfl]; grind
 ·rw [if_neg hk];refine Na _ λj _=>?_
  unfold shF;rw [if_neg hk,show ((0:Int):Rat)=0 from rfl]; grind
def fA (A:List Int) (k j:Nat):Int:=if j=0 then A.getD k 0 else 0
theorem Q61 (y:Rat):∀ (A:List Int) (K:Nat),A.length<=K->sq K (λk=>((A.getD k 0:Int):Rat)*y^k)=Ug A y
 | [],K,_=>by rw [Na]; rfl; intro i _; simp
 | a::A,0,h=>by simp at h
 |
  a::A,K+1,h=>by
  have ih:=Q61 y A K (by simpa using h);rw [Ex];simp only [Ug,Zp,Q3,Xd];rw [<-ih,<-Ou];have:(sq K λi=>((A.getD i 0:Int):Rat)*y^(i+1))=sq K λi=>y*(((A.getD i 0:Int):Rat)*y^i):=Tv K λi _=>by rw [Z0]; grind
  rw [this]; grind
theorem Zjc (A:List Int) (K J:Nat) (x y:Rat) (h:A.length<=K):E2 (fA A) K (J+1) x y=Ug A y:=by
 rw [<-Q61 y A K h];refine Tv K λk _=>?_
 rw [Ex,Na]
 ·simp only [fA,if_true,Xd]; grind
 ·intro j _;simp only [fA];rw [if_neg (by omega),show ((0:Int):Rat)=0 from rfl]; grind
theorem Zgf (x y:Rat):∀ (B:List Int) (K J:Nat),B.length<=K->B.length<=J->E2 (gc B) K J x y=Ug B (y-x)
 |
  [],K,J,_,_=>by
  unfold E2;simp only [gc,Ug];exact Na K λk _=>Na J λj _=>by rw [show ((0:Int):Rat)=0 from rfl]; grind
 | c::B,0,J,h,_=>by simp at h
 | c::B,K+1,0,_,h=>by simp at h
 |
  c::B,K+1,J+1,h1,h2=>by
  have i1:=Zgf x y B K (J+1) (by simpa using h1) (by simp at h2; omega);have i2:=Zgf x y B (K+1) J (by simp at h1; omega) (by simpa using h2);have s1:=Qh8 (gc B) 1 0 K (J+1) x y;have s2:=Qh8 (gc B) 0 1 (K+1) J x y;rw [Zz,J5 1 K] at s1;rw [Zz,J5 1 J] at s2;rw [i1] at s1;rw [i2] at s2;have e0:E2 (fA [c]) (K+1) (J+1) x y=(c:Rat):=by rw [Zjc [c] (K+1) J x y (by simp)]; simp only [Ug]; grind
  have e1:gc (c::B)=λk j=>(fA [c] k j+shF 1 0 (gc B) k j)+shF 0 1 (gc B) k j*(-1):=by
   funext k j;simp only [gc,fA,shF];by_cases hk:k=0 <;> by_cases hj:j=0
   ·subst hk; subst hj; simp
   ·subst hk; simp [hj,show 1<=j by omega]
    try omega
   ·subst hj;obtain ⟨m,rfl⟩:∃ m,k=m+1:=⟨k-1,by omega⟩;simp
   ·obtain ⟨m,rfl⟩:∃ m,k=m+1:=⟨k-1,by omega⟩;obtain ⟨i,rfl⟩:∃ i,j=i+1:=⟨j-1,by omega⟩;simp; omega
  rw [e1,Qt7 (λk j=>fA [c] k j+shF 1 0 (gc B) k j) (λk j=>shF 0 1 (gc B) k j*(-1)),Qt7 (fA [c]) (shF 1 0 (gc B)),Q42,e0,s1,s2];simp only [Ug,Xd,show y^1=y by rw [Z0,Xd]; grind,show x^1=x by rw [Z0,Xd]; grind];rw [show (((-1:Int)):Rat)=-1 from rfl];grind
def phi (A B:List Int) (b J J' n k j:Nat):Int:=if n<b*J then shF (n / J) (n % J) (fA A) k j else shF ((n-b*J) / J') ((n-b*J) % J') (gc B) k j
theorem Q8c {F:Nat->Nat->Int} {h:Nat} (hF:∀ k j,(F k j).natAbs<=h) (i j' k j:Nat):(shF i j' F k j).natAbs<=h:=by
 unfold shF; split
 ·split
  ·exact hF _ _
  ·exact Qi _
 ·exact Qi _
theorem Zeu {i b J j:Nat} (hi:i<b) (hj:j<J):i*J+j<b*J:=by
 have:(i+1)*J<=b*J:=Qw J hi;rw [Xc] at this; omega
theorem Qeg {i J j:Nat} (hj:j<J):(i*J+j) / J=i/\(i*J+j) % J=j:=by
 rw [Zf,W0 (by omega),W3,Vs hj,X8 hj]; exact ⟨by omega,rfl⟩
theorem Qmd (A B:List Int) (a b J J':Nat) (v:Nat->Int) (k j:Nat):sm (b*J+a*J') (λn=>phi A B b J J' n k j*v n) =
 (sm b λi=>sm J λj1=>shF i j1 (fA A) k j*v (i*J+j1))+sm a λi=>sm J' λj1=>shF i j1 (gc B) k j*v (b*J+(i*J'+j1)):=by
 rw [Qvu,Qvv,Qvv];congr 1
 ·refine Bw b λi hi=>Bw J λj1 hj=>?_
  unfold phi;rw [if_pos (Zeu hi hj),(Qeg hj).1,(Qeg hj).2]
 ·refine Bw a λi hi=>Bw J' λj1 hj=>?_
  unfold phi;rw [if_neg (by omega),Jl,(Qeg hj).1,(Qeg hj).2]
theorem Zi6 (A:List Int) (v:Nat->Int) {i J k j:Nat} (hj:j<J):(sm J λj1=>shF i j1 (fA A) k j*v (i*J+j1))=if i<=k then A.getD (k-i) 0*v (i*J+j) else 0:=by
 rw [Qjm (k:=j) J hj λj1 _ hne=>?_]
 ·unfold shF fA;by_cases h:i<=k
  ·rw [if_pos h,if_pos h,if_pos (Qj _),if_pos (Ye _)]
  ·rw [if_neg h,if_neg h,J4]
 ·unfold shF fA;by_cases h:i<=k
  ·rw [if_pos h];by_cases h':j1<=j
   ·rw [if_pos h',if_neg (by omega),J4]
   ·rw [if_neg h',J4]
  ·rw [if_neg h,J4]
section
variable {A B:List Int} {a b J J':Nat} (hA:A.length=a+1) (hB:B.length=b+1) (lA:A.getD a 0≠0) (lB:B.getD b 0≠0) (hJ:J=J'+b) {v:Nat->Int} (hW:∀ k j,k<a+b->j<J->sm (b*J+a*J') (λn=>phi A B b J J' n k j*v n)=0)
include hA lA hW in
theorem Zel {jj:Nat} (hj:jj<J) (hV:∀ k,a<=k->k<a+b->(sm a λi=>sm J' λj1=>shF i j1 (gc B) k jj*v (b*J+(i*J'+j1)))=0):∀ d i,i<b->b-i<=d->v (i*J+jj)=0:=by
 intro d
 induction d with
 | zero=>intro i hi hd; omega
 |
  succ d ih =>
  intro i hi hd;have h1:=hW (i+a) jj (by omega) hj;rw [Qmd,hV (i+a) (by omega) (by omega)] at h1;rw [Bw b (λi' hi'=>Zi6 A v hj)] at h1;rw [Qjm (k:=i) b hi λi' hi' hne=>?_] at h1
  ·rw [if_pos (by omega),Jl,Int.add_zero] at h1;rcases Ya.1 h1 with h2 | h2
   ·exact absurd h2 lA
   ·exact h2
  ·rcases Q6 i i' with h | h
   ·rw [ih i' hi' (by omega)]; simp
   ·rw [if_pos (by omega),Qg,Qr (by omega)]; simp
include hA hB lA lB hJ hW in
theorem Zja:∀ d js,js<J'->J'-js<=d->∀ i,i<a->v (b*J+(i*J'+js))=0:=by
 intro d
 induction d with
 | zero=>intro js hi hd; omega
 |
  succ d ih =>
  intro js hjs hd i hi;have hin:∀ i' k,i'<a->(sm J' λj1=>shF i' j1 (gc B) k (js+b)*v (b*J+(i'*J'+j1)))=if i'=k then gc B 0 b*v (b*J+(i'*J'+js)) else 0:=λi' k hi'=>by
   rw [Qjm (k:=js) J' hjs λj1 hj1 hne=>?_]
   ·unfold shF;by_cases h:i'<=k
    ·rw [if_pos h,if_pos (by omega),Jl];by_cases h':i'=k
     ·rw [if_pos h',h',Ye]
     ·rw [if_neg h',Qgo B _ _ (by omega),J4]
    ·rw [if_neg h,if_neg (by omega),J4]
   ·rcases Q6 js j1 with h | h
    ·rw [ih j1 hj1 (by omega) i' hi',Vk]
    ·unfold shF;by_cases h':i'<=k
     ·rw [if_pos h',if_pos (by omega),Qgo B _ _ (by omega),J4]
     ·rw [if_neg h',J4]
  have hU:=Zel hA lA hW (jj:=js+b) (by omega) (λk hk hk'=>Qam a λi' hi'=>by rw [hin i' k hi',if_neg (by omega)]) (b+1);have h1:=hW i (js+b) (by omega) (by omega);rw [Qmd,Bw a (λi' hi'=>hin i' i hi')] at h1;rw [Qam b λi' hi'=>by
   rw [Zi6 A v (by omega),hU i' hi' (by omega)]; simp] at h1
  rw [Qjm (k:=i) a hi λi' hi' hne=>if_neg hne,if_pos rfl,Int.zero_add] at h1;rcases Ya.1 h1 with h2 | h2
  ·have:=Q5n B b hB; rw [h2] at this; omega
  ·exact h2
include hA hB lA lB hJ hW in
theorem Q2f:∀ n,n<b*J+a*J'->v n=0:=by
 intro n hn;have hV:=Zja hA hB lA lB hJ hW;rcases Q6 n (b*J) with h | h
 ·have hJp:0<J:=by
   rcases Qy J with e | e
   ·rw [e,Ys] at h; omega
   ·exact e
  have e1:=Xb n hJp;have e2:n / J<b:=Jb (by rw [Zf]; exact h);have:=Zel hA lA hW e1 (λk _ _=>Qam a λi hi=>Qam J' λj1 hj1=>by rw [hV J' j1 hj1 (by omega) i hi,Vk]) (b+1) (n / J) e2 (Qa (Nat.sub_le _ _) (Nat.le_succ _));rwa [Zf,Xh] at this
 ·have hJp:0<J':=by
   rcases Qy J' with e | e
   ·rw [e,Ys] at hn; omega
   ·exact e
  have e1:=Xb (n-b*J) hJp;have e2:(n-b*J) / J'<a:=Jb (by rw [Zf J' a]; omega);have:=hV J' _ e1 (by omega) _ e2;rw [Zf ((n-b*J) / J'),Xh] at this;rwa [show b*J+(n-b*J)=n by omega] at this
end
theorem Qah {R x:Rat} (h1:1<=R) (hx:Uk x<=R):∀ k:Nat,Uk (x^k)<=R^k/\1<=R^k
 | 0=>by rw [Xd,Xd]; exact ⟨by decide,by decide⟩
 |
  k+1=>by
  obtain ⟨i1,i2⟩:=Qah h1 hx k;rw [Z0,Z0];have:=S0 (a:=1) (c:=1) (by decide) i2 (by decide) h1;exact ⟨Fw i1 hx,by grind⟩
theorem Qy7 {R:Rat} (h1:1<=R) {i:Nat}:∀ k,i<=k->R^i<=R^k
 | 0,h=>by rw [show i=0 by omega]; exact Qn
 |
  k+1,h=>by
  rcases Y6 h with e | e
  ·have:=Qy7 h1 (i:=i) k (by omega);have h2:=(Qah h1 (x:=0) (by rw [G9]; grind) k).2;rw [Z0];have:=S0 (a:=R^k) (b:=R^k) (c:=1) (d:=R) (by grind) Qn (by decide) h1;grind
  ·rw [e]; exact Qn
theorem Q8b {F:Nat->Nat->Int} {i j' K J:Nat} {x y R X:Rat} {K2 J2:Nat} (h1:1<=R) (hx:Uk x<=R) (hy:Uk y<=R) (hK:K=i+K2) (hJ:J=j'+J2) (hF:E2 F K2 J2 x y=X):Uk (E2 (shF i j' F) K J x y)<=R^(K+J)*Uk X:=by
 subst hK; subst hJ;rw [Qh8,hF,Cn];have a1:=(Qah h1 hy i).1;have a2:=(Qah h1 hx j').1;have a3:=Fw a1 a2;rw [<-Qc0] at a3;have a4:=Qy7 h1 (i:=i+j') (i+K2+(j'+J2)) (by omega);exact S0 (Gj _) (Q7 a3 a4) (Gj _) Qn
theorem Zhj {A B:List Int} {a b h:Nat} (hA:A.length=a+1) (hB:B.length=b+1) (lA:A.getD a 0≠0) (lB:B.getD b 0≠0) (ha:0<a) (hb:0<b) (h0:1<=h) (bA:∀ k,(A.getD k 0).natAbs<=h) (bB:gB B<=h) {J J' N H:Nat} (hJ:J=2*(a*b)) (hJ':J=J'+b) (hN:N=b*J+a*J') (hH:H=(2*(N*h))^(2*(a+b-1))) :
 ∃ w:Nat->Int,(∃ j,j<J/\w j≠0)/\(∀ j,(w j).natAbs<=N*(h*H))/\∀ R:Rat,1<=R->∃ C:Rat,0<=C/\∀ x y,Uk x<=R->Uk y<=R->Uk (sq J λj=>(w j:Rat)*x^j)<=C*(Uk (Ug A y)+Uk (Ug B (y-x))):=by
 have hab:0<a*b:=J6 ha hb;have hbd:∀ n k j,(phi A B b J J' n k j).natAbs<=h:=λn k j=>by
  unfold phi
  split
  ·exact Q8c (λk j=>by unfold fA; split; exact bA k; exact Nat.zero_le _) _ _ _ _
  ·exact Q8c (λk j=>Qa (Q5m B k j) bB) _ _ _ _
 have hJp:0<J:=by omega
 have hNp:1<=N:=by
  have:0<b*J:=J6 hb hJp;omega
 have hNh:1<=N*h:=J6 hNp h0;obtain ⟨E,hE⟩:=nmE ((a+b-1)*J);have hNE:N=E+a*b:=by
  have e1:(a+b-1)*J+J=(a+b)*J:=by
   rw [<-Xc]; congr 1; omega
  have e2:a*J=a*J'+a*b:=by rw [hJ',Xu]
  rw [Ji] at e1;omega
 have hc:(2*(N*(h*H))+1)^E<(H+1)^N:=by
  have c1:2*(N*(h*H))+1<=2*(N*h)*(H+1):=by
   rw [Xu,Yq,Xo 2,Xo N]; omega
  refine Zx (Nat.pow_le_pow_left c1 E) ?_;rw [Nat.mul_pow,hNE,Xe,Zf];refine Nat.mul_lt_mul_of_pos_left ?_ (Zu (by omega));have e1:(2*(N*h))^E=H^(a*b):=by
   rw [hH,<-W8,hE,hJ]; congr 1;rw [Zf 2 (a+b-1),Xo]
  rw [<-hNE,e1];exact Nat.pow_lt_pow_left (by omega) (by omega)
 obtain ⟨v,v1,⟨n0,n1,n2⟩,v3⟩:=Zhp (M:=λe n=>phi A B b J J' n (e / J+1) (e % J)) (h:=h) (N:=N) (E:=E) (H:=H) (λe n=>hbd n _ _) hc;have hW:∀ k j,1<=k->k<a+b->j<J->sm N (λn=>phi A B b J J' n k j*v n)=0:=λk j k1 k2 hj=>by
  have:=v3 ((k-1)*J+j) (by rw [hE]; exact Zeu (by omega) hj);rwa [(Qeg hj).1,(Qeg hj).2,show k-1+1=k by omega] at this
 refine ⟨λj=>sm N λn=>phi A B b J J' n 0 j*v n,?_,λj=>?_,λR hR=>?_⟩
 ·rcases Classical.em (∃ j,j<J/\(sm N λn=>phi A B b J J' n 0 j*v n)≠0) with e | e
  ·exact e
  ·exfalso;refine n2 (Q2f hA hB lA lB hJ' (v:=v) (λk j hk hj=>?_) n0 (by rw [<-hN]; exact n1));rw [<-hN];rcases Qy k with e' | e'
   ·subst e';rcases Classical.em ((sm N λn=>phi A B b J J' n 0 j*v n)=0) with e2 | e2
    ·exact e2
    ·exact absurd ⟨j,hj,e2⟩ e
   ·exact hW k j e' hk hj
 ·refine Q8h N λn _=>?_
  rw [Jv];exact Zt (hbd n 0 j) (v1 n)
 ·have hRp:∀ k:Nat,1<=R^k:=λk=>(Qah hR (x:=0) (by rw [G9]; grind) k).2
  have hHn:(0:Rat)<=(H:Rat):=Xn;have hNn:(0:Rat)<=(N:Rat):=Xn;refine ⟨(N:Rat)*((H:Rat)*R^(a+b+J)),Po hNn (Po hHn (by have:=hRp (a+b+J); grind)),λx y hx hy=>?_⟩;have e1:(sq J λj=>((sm N λn=>phi A B b J J' n 0 j*v n:Int):Rat)*x^j)=E2 (λk j=>sm N λn=>phi A B b J J' n k j*v n) (a+b) J x y:=by
   unfold E2;obtain ⟨m,hm⟩:∃ m,a+b=m+1:=⟨a+b-1,by omega⟩;rw [hm,Ex,Na (n:=m)]
   ·have:(sq J λj=>((sm N λn=>phi A B b J J' n 0 j*v n:Int):Rat)*(y^0*x^j))=sq J λj=>((sm N λn=>phi A B b J J' n 0 j*v n:Int):Rat)*x^j:=Tv J λj _=>by rw [Xd]; grind
    rw [this]; grind
   ·intro k hk;refine Na J λj hj=>?_
    show ((sm N λn=>phi A B b J J' n (k+1) j*v n:Int):Rat)*_=0;rw [hW (k+1) j (by omega) (by omega) hj,show ((0:Int):Rat)=0 from rfl]; grind
  rw [e1,Q43];have key:∀ n,n<N->Uk ((v n:Rat)*E2 (phi A B b J J' n) (a+b) J x y)<=(H:Rat)*(R^(a+b+J)*(Uk (Ug A y)+Uk (Ug B (y-x)))):=λn hn=>by
   have hvn:Uk (v n:Rat)<=(H:Rat):=by
    have h1:=v1 n;have h2:(v n)<=(H:Int):=by omega
    have h3:-(H:Int)<=v n:=by omega
    have h2:=Jf.2 h2;have h3:=Jf.2 h3;rw [Y8] at h3;rw [Rm]; exact ⟨h3,h2⟩
   refine Fw hvn ?_;have hRk:=hRp (a+b+J);have n1:=Gj (Ug A y);have n2:=Gj (Ug B (y-x));rcases Q6 n (b*J) with h | h
   ·have e:phi A B b J J' n=shF (n / J) (n % J) (fA A):=by funext k j; unfold phi; rw [if_pos h]
    have d1:n / J<b:=Jb (by rw [Zf]; exact h);have d2:=Xb n hJp;rw [e];refine Q7 (Q8b (K2:=a+b-n / J) (J2:=J-n % J) hR hx hy (by omega) (by omega) (X:=Ug A y) ?_) (S0 (by grind) Qn n1 (by grind));obtain ⟨m,hm⟩:∃ m,J-n % J=m+1:=⟨J-n % J-1,by omega⟩;rw [hm]; exact Zjc A _ _ x y (by omega)
   ·have e:phi A B b J J' n=shF ((n-b*J) / J') ((n-b*J) % J') (gc B):=by funext k j; unfold phi; rw [if_neg (by omega)]
    have hJp':0<J':=by
     rcases Qy J' with e | e
     ·rw [e,Ys] at hN; omega
     ·exact e
    have d1:(n-b*J) / J'<a:=Jb (by rw [Zf J' a]; omega);have d2:=Xb (n-b*J) hJp';rw [e];refine Q7 (Q8b (K2:=a+b-(n-b*J) / J') (J2:=J-(n-b*J) % J') hR hx hy (by omega) (by omega) (X:=Ug B (y-x)) ?_) (S0 (by grind) Qn n2 (by grind));exact Zgf x y B _ _ (by omega) (by omega)
  have:=Ze5 N key;refine Q7 this ?_;have:(N:Rat)*((H:Rat)*(R^(a+b+J)*(Uk (Ug A y)+Uk (Ug B (y-x)))))=(N:Rat)*((H:Rat)*R^(a+b+J))*(Uk (Ug A y)+Uk (Ug B (y-x))):=by grind
  rw [this]; exact Qn
end Orq
namespace Orq
theorem Q8k {w:Nat->Int} {x:Rat} {D:Rat} (hx:Uk x*2<=1) (hw:∀ j,Uk (w j:Rat)<=D):∀ J (k:Nat),Uk (sq J λj=>(w (k+j):Rat)*x^j)<=2*D
 | 0,k=>by have:=hw 0; have:=Gj (w 0:Rat); simp only [sq,G9]; clear hw; grind
 |
  J+1,k=>by
  have ih:=Q8k hx hw J (k+1);rw [Ex];have e:(sq J λi=>(w (k+(i+1)):Rat)*x^(i+1))=x*sq J λi=>(w (k+1+i):Rat)*x^i:=by
   rw [<-Ou]; exact Tv J λi _=>by rw [Z0,show k+(i+1)=k+1+i by omega]; grind
  rw [e,Xd,Xx];have h1:=hw k;have h2:=Rv ((w k:Rat)*1) (x*sq J λi=>(w (k+1+i):Rat)*x^i);have h3:=Fw (x:=x) (y:=sq J λi=>(w (k+1+i):Rat)*x^i) Qn ih;have h4:=Q4 hx (show (0:Rat)<=D by have:=Gj (w k:Rat); clear hw; grind);have h5:(w k:Rat)*1=w k:=by grind
  rw [h5] at h2 ⊢;clear hw; grind
theorem As {z:Int} (h:z≠0):1<=Uk (z:Rat):=by
 unfold Uk;rcases V7 h with h | h
 ·have:((z:Int):Rat)<((0:Int):Rat):=X6.2 h;have h2:((1:Int):Rat)<=((-z:Int):Rat):=Jf.2 (by omega);rw [if_pos (by simpa using this)];rw [Y8] at h2;simpa using h2
 ·have:((0:Int):Rat)<((z:Int):Rat):=X6.2 h;have h2:((1:Int):Rat)<=((z:Int):Rat):=Jf.2 (by omega);rw [if_neg (by
   have:(0:Rat)<z:=by simpa using this
   grind)]
  simpa using h2
theorem Quq {w:Nat->Int} {x:Rat} {D:Rat} (hD:1<=D) (hx0:0<Uk x) (hx:Uk x*(4*D)<=1) (hw:∀ j,Uk (w j:Rat)<=D):∀ J (k:Nat),(∃ j,j<J/\w (k+j)≠0)->Uk x^J / 2<=Uk (sq J λj=>(w (k+j):Rat)*x^j)
 | 0,k,⟨j,h,_⟩=>by omega
 |
  J+1,k,⟨j,h1,h2⟩=>by
  have hx2:Uk x*2<=1:=by
   have:=S0 (a:=Uk x) (c:=2) (Qo hx0) Qn (by decide) (show (2:Rat)<=4*D by clear hw; grind);exact Q7 this hx
  have hx1:Uk x<=1:=by clear hw; grind
  have hp:∀ k:Nat,Uk x^k<=1/\0<=Uk x^k:=λk=>by
   induction k with
   | zero=>rw [Xd]; exact ⟨by decide,by decide⟩
   |
    succ k ih =>
    rw [Z0];have:=S0 ih.2 ih.1 (Qo hx0) hx1;have:=Po ih.2 (Qo hx0);constructor <;> (clear hw; grind)
  rw [Ex];have e:(sq J λi=>(w (k+(i+1)):Rat)*x^(i+1))=x*sq J λi=>(w (k+1+i):Rat)*x^i:=by
   rw [<-Ou]; exact Tv J λi _=>by rw [Z0,show k+(i+1)=k+1+i by omega]; grind
  rw [e,Xd,Xx k,show (w k:Rat)*1=w k by grind];by_cases h0:w k=0
  ·have hj:j≠0:=λe=>h2 (by rw [e]; exact h0)
   have ih:=Quq hD hx0 hx hw J (k+1) ⟨j-1,by omega,by rw [show k+1+(j-1)=k+j by omega]; exact h2⟩;rw [h0,show ((0:Int):Rat)+x*(sq J λi=>(w (k+1+i):Rat)*x^i)=x*sq J λi=>(w (k+1+i):Rat)*x^i by rw [show ((0:Int):Rat)=0 from rfl]; grind,Cn,Z0];have:=Zl ih (Qo hx0);have e2:Uk x*(Uk x^J / 2)=Uk x^J*Uk x / 2:=by rw [Ju,Ju]; grind
   rw [e2] at this; exact this
  ·have a1:=As h0;have a2:=Q8k hx2 hw J (k+1);have a3:=Fw (x:=x) (y:=sq J λi=>(w (k+1+i):Rat)*x^i) Qn a2;have a4:=Rv ((w k:Rat)+x*sq J λi=>(w (k+1+i):Rat)*x^i) (-(x*sq J λi=>(w (k+1+i):Rat)*x^i));rw [Co,show (w k:Rat)+(x*sq J λi=>(w (k+1+i):Rat)*x^i)+-(x*sq J λi=>(w (k+1+i):Rat)*x^i)=w k by grind] at a4;have a5:=(hp (J+1)).1;have a6:Uk x^(J+1) / 2*2=Uk x^(J+1):=Fb (by decide);have a7:Uk x*(2*D)*2=Uk x*(4*D):=by grind
   clear hw hp; grind
theorem Zgn {A B:List Int} {a b h:Nat} (hA:A.length=a+1) (hB:B.length=b+1) (lA:A.getD a 0≠0) (lB:B.getD b 0≠0) (ha:0<a) (hb:0<b) (h0:1<=h) (bA:∀ k,(A.getD k 0).natAbs<=h) (bB:gB B<=h) {N D:Nat} (hN:b*(2*(a*b))+a*(2*(a*b)-b)=N) (hD:N*(h*(2*(N*h))^(2*(a+b-1)))<=D) {R d:Rat} (hR:1<=R) (dp:0<d)
 (hs:∀ e:Rat,0<e->∃ q r,Uk q<=R/\Uk r<=R/\d<=Uk (q-r)/\Uk (q-r)*(4*(D:Rat))<=1/\Uk (Ug A q)<e/\Uk (Ug B r)<e):False:=by
 have hab:0<a*b:=J6 ha hb;have hbab:b<=a*b:=by
  have:=Qw b (show 1<=a from ha); omega
 obtain ⟨w,⟨j,hj,hw0⟩,hw,hC⟩:=Zhj hA hB lA lB ha hb h0 bA bB (J:=2*(a*b)) (J':=2*(a*b)-b) rfl (by omega) hN.symm rfl;obtain ⟨C,hC0,hC⟩:=hC (2*R) (by grind);have hw':∀ j,Uk (w j:Rat)<=(D:Rat):=λj=>by
  have h1:=Qa (hw j) hD;have h2:w j<=(D:Int):=by omega
  have h3:-(D:Int)<=w j:=by omega
  have h2:=Jf.2 h2;have h3:=Jf.2 h3;rw [Y8] at h3;rw [Rm]; exact ⟨h3,h2⟩
 have hD1:(1:Rat)<=(D:Rat):=by
  have:=As hw0;exact Q7 this (hw' j)
 have hdJ:0<d^(2*(a*b)) / 2:=Nq (Rat.pow_pos dp) (by decide);obtain ⟨e,ep,_,he⟩:=Fz (b:=C*2) (d:=d^(2*(a*b)) / 2) (by grind) hdJ;obtain ⟨q,r,q1,r1,d1,d2,aq,br⟩:=hs e ep;have h1:=hC (q-r) q (by
  have:=Rv q (-r); rw [Co] at this; have:q-r=q+-r:=by grind
  grind) (by grind)
 rw [show q-(q-r)=r by grind] at h1;have h2:=Quq (x:=q-r) hD1 (by grind) d2 hw' (2*(a*b)) 0 ⟨j,hj,by rw [Zz]; exact hw0⟩;simp only [Zz] at h2;have h3:C*(Uk (Ug A q)+Uk (Ug B r))<=C*(e+e):=Zl (by grind) hC0;have h4:d^(2*(a*b))<=Uk (q-r)^(2*(a*b)):=by
  generalize 2*(a*b)=J
  induction J with
  | zero=>rw [Xd,Xd]; exact Qn
  |
   succ J ih =>
   rw [Z0,Z0];exact S0 (Qo (Rat.pow_pos dp)) ih (Qo dp) d1
 have h5:d^(2*(a*b)) / 2*2=d^(2*(a*b)):=Fb (by decide);have h6:Uk (q-r)^(2*(a*b)) / 2*2=Uk (q-r)^(2*(a*b)):=Fb (by decide);clear hC hs hw hw';grind
def HD (p:List Rat) (n:Nat):Prop:=p.getD n 0≠0/\∀ k,n<k->p.getD k 0=0
theorem G5:∀ (p q:List Rat) (k:Nat),(H3 p q).getD k 0=p.getD k 0+q.getD k 0
 | [],q,k=>by simp only [H3,Kg]; grind
 | a::p,[],k=>by simp only [H3,Kg]; grind
 | a::p,b::q,0=>by simp only [H3,Zp]
 | a::p,b::q,k+1=>by simp only [H3,Q3]; exact G5 p q k
theorem Hz (c:Rat):∀ (p:List Rat) (k:Nat),(Pq c p).getD k 0=c*p.getD k 0
 | [],k=>by simp only [Pq,Jg,Kg]; grind
 | a::p,0=>by simp [Pq]
 | a::p,k+1=>by have:=Hz c p k; simp only [Pq,Zv,Q3] at *; exact this
theorem Q5u {p:List Rat} {k:Nat} (h:∀ x∈p,x=0):p.getD k 0=0:=by
 rw [Qg];cases e:p[k]? with
 | none=>rfl
 | some x=>exact h x (Qc e)
theorem Mt {p q:List Rat} (h:∀ t,ev p t=ev q t) (k:Nat):p.getD k 0=q.getD k 0:=by
 have h1:=Q5u (k:=k) (Qbt (p:=H3 p (Pq (-1) q)) λt _ _=>by rw [U6,Uw,h t]; grind);rw [G5,Hz] at h1; grind
theorem Bp:∀ {p:List Rat},(∀ k,p.getD k 0=0)->∀ t,ev p t=0
 | [],_,t=>rfl
 |
  a::p,h,t=>by
  have h0:=h 0;have h1:=Bp (p:=p) (λk=>by have:=h (k+1); rwa [Q3] at this) t;rw [Zp] at h0;simp only [ev,h0,h1]; grind
theorem Qfl:∀ (p:List Rat),(∀ t,ev p t=0)\/∃ n,n<p.length/\HD p n
 | []=>.inl λ_=>rfl
 |
  a::p=>by
  rcases Qfl p with h | ⟨n,hn,h1,h2⟩
  ·rcases Classical.em (a=0) with e | e
   ·exact .inl λt=>by simp only [ev,e,h t]; grind
   ·refine .inr ⟨0,by simp,by simpa using e,λk hk=>?_⟩;obtain ⟨m,rfl⟩:∃ m,k=m+1:=⟨k-1,by omega⟩;rw [Q3];exact (Mt (p:=p) (q:=[]) h m).trans (by simp)
  ·refine .inr ⟨n+1,by simp; omega,by rw [Q3]; exact h1,λk hk=>?_⟩;obtain ⟨m,rfl⟩:∃ m,k=m+1:=⟨k-1,by omega⟩;rw [Q3]; exact h2 m (by omega)
theorem Q5x {p q:List Rat} {n:Nat} (h:∀ t,ev p t=ev q t) (hp:HD p n):HD q n :=
 ⟨by rw [<-Mt h]; exact hp.1,λk hk=>by rw [<-Mt h]; exact hp.2 k hk⟩
theorem Zet {p:List Rat} {n m:Nat} (h:HD p n) (h':HD p m):n=m:=by
 rcases Ke n m with e | e | e
 ·exact absurd (h.2 m e) h'.1
 ·exact e
 ·exact absurd (h'.2 n e) h.1
theorem Qx3 {p:List Rat} {n:Nat} (h:HD p n):¬∀ t,ev p t=0:=λh0=>h.1 ((Mt (p:=p) (q:=[]) h0 n).trans (by simp))
theorem Qfm {p q:List Rat} (h:∀ k,p.getD k 0=0) (k:Nat):(Fl p q).getD k 0=0:=by
 have:=Mt (p:=Fl p q) (q:=[]) (λt=>by rw [Ui,Bp h t]; simp only [ev]; grind) k;rw [this]; simp
theorem Qee:∀ {p q:List Rat} {m n:Nat},HD p m->HD q n->HD (Fl p q) (m+n)
 | [],q,m,n,h,_=>absurd (by simp) h.1
 |
  a::p,q,0,n,h,h'=>by
  have h1:∀ k,p.getD k 0=0:=λk=>by have:=h.2 (k+1) (by omega); rwa [Q3] at this
  have h2:∀ k,(Fl (a::p) q).getD k 0=a*q.getD k 0:=λk=>by
   simp only [Fl];rw [G5,Hz];cases k with
   | zero=>rw [Zp]; grind
   | succ k=>rw [Q3,Qfm h1]; grind
  have h3:=h.1;rw [Zp] at h3;refine ⟨?_,λk hk=>?_⟩
  ·rw [h2,Zz]; exact λh=>(Jq.1 h).elim h3 h'.1
  ·rw [h2,h'.2 k (by omega)]; grind
 |
  a::p,q,m+1,n,h,h'=>by
  have ih:=Qee (p:=p) (q:=q) (m:=m) ⟨by have:=h.1; rwa [Q3] at this,λk hk=>by have:=h.2 (k+1) (by omega); rwa [Q3] at this⟩ h';refine ⟨?_,λk hk=>?_⟩
  ·simp only [Fl];rw [G5,Hz,show m+1+n=(m+n)+1 by omega,Q3,h'.2 _ (by omega)];have:=ih.1; grind
  ·obtain ⟨j,rfl⟩:∃ j,k=j+1:=⟨k-1,by omega⟩;simp only [Fl];rw [G5,Hz,Q3,h'.2 _ (by omega),ih.2 j (by omega)]; grind
def A6 (g f:List Rat):Prop:=∃ u,∀ t,ev f t=ev g t*ev u t
theorem dvd_refl (f:List Rat):A6 f f:=⟨[1],λt=>by rw [Hu]; grind⟩
theorem dvd_trans {f g h:List Rat}:A6 f g->A6 g h->A6 f h
 | ⟨u,hu⟩,⟨v,hv⟩=>⟨Fl u v,λt=>by rw [hv,hu,Ui]; grind⟩
theorem Qrj {p q:List Rat} (h:∀ t,ev p t*ev q t=0) (hp:¬∀ t,ev p t=0):∀ t,ev q t=0:=by
 rcases Qfl p with h1 | ⟨m,_,h1⟩
 ·exact absurd h1 hp
 ·rcases Qfl q with h2 | ⟨n,_,h2⟩
  ·exact h2
  ·exact absurd (λt=>by rw [Ui]; exact h t) (Qx3 (Qee h1 h2))
theorem Qtz {p q r:List Rat} (hp:¬∀ t,ev p t=0) (h:∀ t,ev p t*ev q t=ev p t*ev r t) (t:Rat):ev q t=ev r t:=by
 have:=Qrj (p:=p) (q:=H3 q (Pq (-1) r)) (λt=>by rw [U6,Uw]; have:=h t; grind) hp t;rw [U6,Uw] at this; grind
theorem Q4v {b:List Rat} {n:Nat} (hb:HD b n):∀ (l:Nat) (a:List Rat),(∀ k,l<=k->a.getD k 0=0)->∃ q r,(∀ t,ev a t=ev q t*ev b t+ev r t)/\∀ k,n<=k->r.getD k 0=0
 | 0,a,ha=>⟨[],a,λt=>by simp only [ev]; grind,λk _=>ha k (Qi _)⟩
 |
  l+1,a,ha=>by
  rcases Q6 l n with h | h
  ·exact ⟨[],a,λt=>by simp only [ev]; grind,λk hk=>ha k (by omega)⟩
  ·-- the leading term is taken away
   obtain ⟨c,hc⟩:=nmE (a.getD l 0 / b.getD n 0);have hcb:c*b.getD n 0=a.getD l 0:=by rw [hc]; exact Zi hb.1
   obtain ⟨m,hm⟩:∃ m:List Rat,m=List.replicate (l-n) 0++[c]:=⟨_,rfl⟩;have hsh:∀ (i:Nat) (k:Nat),(Fl (List.replicate i 0++[c]) b).getD k 0=if i<=k then c*b.getD (k-i) 0 else 0:=λi=>by
    induction i with
    | zero=>intro k; simp only [Kz,J0,Fl]; rw [G5,Hz]; cases k <;> simp <;> grind
    |
     succ i ih =>
     intro k;simp only [J3,Xp,Fl];rw [G5,Hz];cases k with
     | zero=>rw [Zp,if_neg (by omega)]; grind
     |
      succ k =>
      rw [Q3,ih k];by_cases h:i<=k
      ·rw [if_pos h,if_pos (by omega),Nat.add_sub_add_right]; grind
      ·rw [if_neg h,if_neg (by omega)]; grind
   obtain ⟨q,r,h1,h2⟩:=Q4v hb l (H3 a (Pq (-1) (Fl m b))) λk hk=>by
    rw [G5,Hz,hm,hsh,if_pos (by omega)];rcases Y6 hk with e | e
    ·rw [ha k (by omega),hb.2 _ (by omega)]; grind
    ·subst e; rw [show l-(l-n)=n by omega,hcb]; grind
   refine ⟨H3 q m,r,λt=>?_,h2⟩;have:=h1 t;rw [U6,Uw,Ui] at this;rw [U6]; grind
theorem Que:∀ (n:Nat) (a b:List Rat),(∀ k,n<=k->b.getD k 0=0)->∃ g U V,A6 g a/\A6 g b/\∀ t,ev g t=ev U t*ev a t+ev V t*ev b t
 |
  0,a,b,h=>by
  have h0:=Bp λk=>h k (Qi _)
  exact ⟨a,[1],[],dvd_refl a,⟨[],λt=>by rw [h0]; simp only [ev]; grind⟩,λt=>by rw [Hu]; simp only [ev]; grind⟩
 |
  n+1,a,b,h=>by
  rcases Classical.em (b.getD n 0=0) with e | e
  ·exact Que n a b λk hk=>by
    rcases Y6 hk with e' | e'
    ·exact h k (by omega)
    ·rw [<-e']; exact e
  ·obtain ⟨q,r,h1,h2⟩:=Q4v (b:=b) (n:=n) ⟨e,λk hk=>h k (by omega)⟩ a.length a λk hk=>by rw [Qg,Qr hk]; rfl
   obtain ⟨g,U,V,⟨u,hu⟩,⟨v,hv⟩,hg⟩:=Que n b r h2;refine ⟨g,V,H3 U (Pq (-1) (Fl V q)),⟨H3 (Fl q u) v,λt=>?_⟩,⟨u,hu⟩,λt=>?_⟩
   ·rw [h1,hv,U6,Ui,hu]; grind
   ·rw [hg,U6,Uw,Ui,h1]; grind
theorem Q5p (a b:List Rat):∃ g U V,A6 g a/\A6 g b/\∀ t,ev g t=ev U t*ev a t+ev V t*ev b t :=
 Que b.length a b λk hk=>by rw [Qg,Qr hk]; rfl
def Cop (a b:List Rat):Prop:=∃ U V,∀ t,ev U t*ev a t+ev V t*ev b t=1
theorem Qm5 {c d e:List Rat} (h:Cop c d) (h1:∃ u,∀ t,ev d t*ev e t=ev c t*ev u t):A6 c e:=by
 obtain ⟨U,V,h⟩:=h;obtain ⟨u,hu⟩:=h1;refine ⟨H3 (Fl U e) (Fl V u),λt=>?_⟩;rw [U6,Ui,Ui];have a1:=h t;have a2:=hu t;have:ev e t=(ev U t*ev c t+ev V t*ev d t)*ev e t:=by rw [a1]; grind
 rw [this];have:(ev U t*ev c t+ev V t*ev d t)*ev e t=ev U t*ev c t*ev e t+ev V t*(ev d t*ev e t):=by grind
 rw [this,a2]; grind
def qpw (d:List Rat):Nat->List Rat
 | 0=>[1]
 | k+1=>Fl d (qpw d k)
theorem Qvh (d:List Rat) (t:Rat):∀ k:Nat,ev d t*dv (qpw d k) t=(k:Rat)*(dv d t*ev (qpw d k) t)
 | 0=>by simp only [qpw,dv,ev]; rw [show ((0:Nat):Rat)=0 from rfl]; grind
 |
  k+1=>by
  have ih:=Qvh d t k;have hn':(((k+1:Nat):Rat))=(k:Rat)+1:=by push_cast; rfl
  simp only [qpw];rw [Qnb,Ui,hn']; grind
theorem Q7j {d:List Rat} {m:Nat} (h:HD d m):∀ k,HD (qpw d k) (k*m)
 | 0=>by rw [Yt]; exact ⟨by simp [qpw],λk hk=>by simp only [qpw]; rw [Qg,Qr (by simp; omega)]; rfl⟩
 | k+1=>by rw [Xc,J5 (k*m) m]; exact Qee h (Q7j h k)
theorem Qlz {d g:List Rat} {m n:Nat} (hd:HD d m) (hg:HD g n) (h:∀ k,A6 (qpw d k) g):m=0:=by
 obtain ⟨u,hu⟩:=h (n+1);rcases Qfl u with h1 | ⟨j,_,h1⟩
 ·exact absurd (λt=>by rw [hu,h1]; grind) (Qx3 hg)
 ·have:=Zet (Q5x (λt=>by rw [hu,Ui]) hg) (Qee (Q7j hd (n+1)) h1);rcases Qy m with e | e
  ·exact e
  ·have:(n+1)*1<=(n+1)*m:=Zh _ e;omega
theorem sqf {a g q d U V:List Rat} {k:Rat} (hk:k≠0) (ha:∀ t,ev a t=ev g t*ev q t) (hg:∀ t,k*ev g t=ev U t*ev a t+ev V t*dv a t) (h1:A6 d q) (h2:A6 d (Md q)):∀ n,A6 (qpw d n) g
 | 0=>⟨g,λt=>by simp only [qpw]; rw [Hu]; grind⟩
 |
  n+1=>by
  obtain ⟨g1,e1⟩:=sqf hk ha hg h1 h2 n;obtain ⟨q1,e2⟩:=h1;obtain ⟨q2,e3⟩:=h2;have d1:=λt=>Af ha t
  have d2:=λt=>Af e1 t
  have d3:=λt=>Af e2 t
  have d4:=Qvh d;refine ⟨Pq (1 / k) (H3 (Fl U (Fl g1 q1)) (Fl V (H3 (Fl g1 q2) (H3 (Pq n (Fl g1 (H3 q2 (Pq (-1) (Md q1))))) (Fl (Md g1) q1))))),λt=>?_⟩;have hkk:1 / k*k=1:=Zi hk;simp only [qpw,Uw,U6,Ui,Hp];have b1:=ha t; have b2:=hg t; have b3:=e1 t; have b4:=e2 t; have b5:=e3 t;have b6:=d1 t; have b7:=d2 t; have b8:=d3 t; have b9:=d4 t n;rw [Hp] at b5;generalize ev d t=x0 at *;generalize ev (qpw d n) t=x1 at *;generalize ev g t=x2 at *;generalize ev q t=x3 at *;generalize ev a t=x4 at *;generalize dv a t=x5 at *;generalize dv g t=x6 at *;generalize dv q t=x7 at *;generalize ev g1 t=x8 at *;generalize dv g1 t=x9 at *;generalize ev q1 t=y0 at *;generalize dv q1 t=y1 at *;generalize ev q2 t=y2 at *;generalize dv d t=y3 at *;generalize dv (qpw d n) t=y4 at *;generalize ev U t=y5 at *;generalize ev V t=y6 at *;generalize (n:Rat)=y7 at *;have:x2=1 / k*(k*x2):=by grind
  rw [this,b2];have c1:x5=x0*x1*(x8*y2+(y7*(x8*(y2+-1*y1))+x9*y0)):=by
   rw [b6,b7,b4,b3];have:y3*y0=x0*y2-x0*y1:=by grind
   have:x0*y4*(x8*y0)=y7*(x1*x8*(x0*y2-x0*y1)):=by rw [b9,<-this]; grind
   grind
  have c2:x4=x0*x1*(x8*y0):=by rw [b1,b3,b4]; grind
  rw [c1,c2]; grind
theorem Za3 {a b c:List Rat} (h1:Cop a b) (h2:Cop a c) {d:List Rat} (hd:∀ t,ev d t=ev b t*ev c t):Cop a d:=by
 obtain ⟨U,V,h1⟩:=h1;obtain ⟨X,Y,h2⟩:=h2;refine ⟨H3 U (Fl (Fl V b) X),Fl V Y,λt=>?_⟩;have a1:=h1 t;have a2:=h2 t;simp only [U6,Ui,hd];have:ev V t*ev b t*(ev X t*ev a t+ev Y t*ev c t)=ev V t*ev b t:=by rw [a2]; grind
 grind
theorem Zdk {a g q z r X Y:List Rat} {n:Nat} (ha:∀ t,ev a t=ev g t*ev q t) (hz:∀ t,dv a t=ev g t*ev z t) (hg:HD g n) (hr:∀ t,ev X t*ev r t+ev Y t*dv r t=1) (h:A6 r a):A6 r q:=by
 obtain ⟨b,hb⟩:=h;obtain ⟨e,U,V,⟨r1,e1⟩,⟨q3,e2⟩,e3⟩:=Q5p r q;have hr0:¬∀ t,ev r t=0:=λh=>by
  have h1:=hr 0;have h2:dv r 0=0:=by have:=Q40 (p:=r) (q:=[]) h 0; rw [this]; rfl
  rw [h,h2] at h1; grind
 have he0:¬∀ t,ev e t=0:=λh=>hr0 λt=>by rw [e1,h]; grind
 have d1:=λt=>Af e1 t
 have c1:Cop r1 q3:=⟨U,V,λt=>by
  have:=Qtz (p:=e) (q:=H3 (Fl U r1) (Fl V q3)) (r:=[1]) he0 (λt=>by
   rw [U6,Ui,Ui,Hu];have a1:=e1 t; have a2:=e2 t; have a3:=e3 t;rw [a1,a2] at a3; grind) t
  rw [U6,Ui,Ui,Hu] at this; exact this⟩
 have c2:Cop r1 e:=⟨H3 (Fl X e) (Fl Y (Md e)),Fl Y (Md r1),λt=>by
  have a1:=hr t; have a2:=e1 t; have a3:=d1 t;simp only [U6,Ui,Hp];rw [a2,a3] at a1; grind⟩
 have c3:Cop r1 (Md r1):=⟨H3 (Fl X e) (Fl Y (Md e)),Fl Y e,λt=>by
  have a1:=hr t; have a2:=e1 t; have a3:=d1 t;simp only [U6,Ui,Hp];rw [a2,a3] at a1; grind⟩
 have c4:Cop r1 q:=Za3 c2 c1 e2;have hgz:=Qx3 hg;have hp:∀ k,A6 (qpw r1 k) g:=λk=>by
  induction k with
  | zero=>exact ⟨g,λt=>by simp only [qpw]; rw [Hu]; grind⟩
  |
   succ k ih =>
   obtain ⟨h,eh⟩:=ih;have hpz:¬∀ t,ev (qpw r1 k) t=0:=λh0=>hgz λt=>by rw [eh,h0]; grind
   have key:A6 r1 h:=by
    cases k with
    |
     zero =>
     refine Qm5 c4 ⟨Fl e b,λt=>?_⟩;have a1:=ha t; have a2:=hb t; have a3:=e1 t; have a4:=eh t;simp only [qpw] at a4;rw [Hu] at a4;rw [Ui]; grind
    |
     succ k =>
     have hn:((k+1:Nat):Rat)≠0:=by
      have:(0:Rat)<((k+1:Nat):Rat):=by
       have h1:((0:Nat):Rat)<((k+1:Nat):Rat):=Ve.2 (by omega);simpa using h1
      grind
     have d2:=λt=>Af (f:=a) (w:=qpw r1 (k+1)) (u:=Fl h q) (λt=>by rw [ha,eh,Ui]; grind) t
     have d4:=Qvh r1;have h3:=Qtz (p:=qpw r1 (k+1)) (q:=Fl (Md r1) (Fl h q)) (r:=Fl r1 (Pq (1 / ((k+1:Nat):Rat)) (H3 (Fl h z) (Pq (-1) (Md (Fl h q)))))) hpz λt=>by
      simp only [Ui,Uw,U6,Hp];have a1:=d2 t; have a2:=d4 t (k+1); have a3:=hz t; have a4:=eh t;rw [Ui] at a1;generalize ((k+1:Nat):Rat)=c at *;have hc:1 / c*c=1:=Zi hn;generalize ev (qpw r1 (k+1)) t=x0 at *;generalize dv (qpw r1 (k+1)) t=x1 at *;generalize dv (Fl h q) t=x2 at *;generalize ev r1 t=x3 at *;generalize dv r1 t=x4 at *;generalize ev h t=x5 at *;generalize ev q t=x6 at *;generalize ev z t=x7 at *;generalize dv a t=x8 at *;generalize ev g t=x9 at *;generalize 1 / c=c' at *;have s1:x0*(x4*(x5*x6))=c'*(c*(x4*x0))*(x5*x6):=by
       have:c'*(c*(x4*x0))=(c'*c)*(x4*x0):=by grind
       rw [this,hc]; grind
      rw [s1,<-a2];have s2:x3*(x1*(x5*x6))=x3*(x0*(x5*x7+-1*x2)):=by
       rw [a3,a4] at a1; grind
      grind
     refine Qm5 c4 ?_;obtain ⟨u,hu⟩:=Qm5 (e:=Fl q h) c3 ⟨Pq (1 / ((k+1:Nat):Rat)) (H3 (Fl h z) (Pq (-1) (Md (Fl h q)))),λt=>by
      have:=h3 t;simp only [Ui] at this ⊢;rw [<-this]; grind⟩
     exact ⟨u,λt=>by rw [<-hu,Ui]⟩
   obtain ⟨u,hu⟩:=key;exact ⟨u,λt=>by simp only [qpw]; rw [Ui,eh,hu]; grind⟩
 rcases Qfl r1 with h1 | ⟨m,_,h1⟩
 ·exact absurd (λt=>by rw [e1,h1]; grind) hr0
 ·obtain rfl:=Qlz h1 hg hp;have h2:∀ t,ev r1 t=r1.getD 0 0:=λt=>by
   cases r1 with
   | nil=>simp [ev]
   |
    cons c l =>
    have:∀ t,ev l t=0:=Bp λk=>by have:=h1.2 (k+1) (by omega); rwa [Q3] at this
    simp only [ev,this,Zp]; grind
  have h3:=h1.1;refine ⟨Pq (1 / r1.getD 0 0) q3,λt=>?_⟩;rw [e2,e1,h2,Uw];have:1 / r1.getD 0 0*r1.getD 0 0=1:=Zi h3;have:ev e t*r1.getD 0 0*(1 / r1.getD 0 0*ev q3 t)=ev e t*ev q3 t*(1 / r1.getD 0 0*r1.getD 0 0):=by grind
  rw [this,Zi h3]; grind
def El:List (List Rat)->List Rat
 | []=>[1]
 | w::l=>Fl w (El l)
def Lay:List (List Rat)->List (List Rat)->Prop
 | [],[]=>True
 | [w],[f]=>∀ t,ev w t=ev f t
 | w::v::l,f::fs=>(∀ t,ev w t=ev f t*ev v t)/\Lay (v::l) fs
 | _,_=>False
def Qf8:List (List Rat)->List Rat
 | []=>[1]
 | [f]=>f
 | f::_::l=>Fl f (Qf8 l)
theorem Qyb:∀ {ws fs:List (List Rat)},Lay ws fs->∃ S,∀ t,ev (El ws) t=ev (Qf8 fs) t*(ev S t*ev S t)
 | [],[],_=>⟨[1],λt=>by simp only [El,Qf8]; rw [Hu]; grind⟩
 | [w],[f],h=>⟨[1],λt=>by simp only [El,Qf8]; rw [Ui,Hu,h t]; grind⟩
 |
  [w,v],[f,f2],h=>⟨v,λt=>by
  have h1:=h.1 t;have h2:ev v t=ev f2 t:=h.2 t;simp only [El,Qf8,Ui]; rw [Hu,h1]; grind⟩
 |
  w::v::x::l,f::f2::fs,h=>by
  obtain ⟨S,hS⟩:=Qyb h.2.2;refine ⟨Fl v S,λt=>?_⟩;have h1:=h.1 t;have h2:=hS t;have e1:ev (El (w::v::x::l)) t=ev w t*(ev v t*ev (El (x::l)) t):=by simp only [El,Ui]
  rw [e1,h2,h1];have e2:ev (Qf8 (f::f2::fs)) t=ev f t*ev (Qf8 fs) t:=by
   cases fs with
   | nil=>cases l <;> exact False.elim h.2.2
   | cons y l=>simp only [Qf8,Ui]
  rw [e2,Ui]; grind
 | [w],[],h=>h.elim
 | [w],_::_::_,h=>h.elim
 | [],_::_,h=>h.elim
 | [w,v],[f],h=>h.2.elim
 | [w,v],_::_::_::_,h=>h.2.elim
 | w::v::x::l,[f],h=>h.2.elim
 | w::v::l,[],h=>h.elim
end Orq
namespace Orq
open Orr Go
theorem Qu1 (p:List Int) (t:Rat):Ug p t=((p.getD 0 0:Int):Rat)+t*Ug p.tail t:=by
 cases p with
 | nil=>show (0:Rat)=((0:Int):Rat)+t*0; grind
 | cons a p=>rfl
theorem Qed (p:List Int) (k:Nat):p.tail.getD k 0=p.getD (k+1) 0:=by
 cases p <;> simp
theorem M4 (c d:Int) (t:Rat):∀ (n:Nat) (p q r:List Int),p.length<=n->q.length<=n->r.length<=n->(∀ k,r.getD k 0=c*p.getD k 0+d*q.getD k 0)->Ug r t=(c:Rat)*Ug p t+(d:Rat)*Ug q t
 |
  0,p,q,r,hp,hq,hr,_=>by
  rw [Qh (Nat.le_zero.1 hp),Qh (Nat.le_zero.1 hq),Qh (Nat.le_zero.1 hr)];show (0:Rat)=_*0+_*0;grind
 |
  n+1,p,q,r,hp,hq,hr,h=>by
  have ih:=M4 c d t n p.tail q.tail r.tail (by rw [Wp]; omega) (by rw [Wp]; omega) (by rw [Wp]; omega) λk=>by
   rw [Qed,Qed,Qed]; exact h (k+1)
  rw [Qu1 p,Qu1 q,Qu1 r,ih,h 0]
  push_cast
  grind
theorem Qyv {p q:List Int} (h:∀ k,p.getD k 0=q.getD k 0) (t:Rat):Ug p t=Ug q t:=by
 have:=M4 1 0 t (max p.length q.length) q q p (Wu ..) (Wu ..) (Nat.le_max_left ..) λk=>by rw [h k]; omega
 rw [this]
 push_cast
 grind
theorem Eo (p:List Int) (t:Rat):Ug (trim p) t=Ug p t:=Qyv (C5 p) t
theorem Gq {p:List Int} {k:Nat} (h:p.length<=k):p.getD k 0=0:=by
 rw [Qg,Qr h]; rfl
theorem Qls (p q:List Int) (k:Nat):(Qcs p q).getD k 0=p.getD k 0+q.getD k 0:=by
 unfold Qcs;rw [H9]
 split
 ·rfl
 ·rename_i h; rw [Gq (p:=p) (by omega),Gq (p:=q) (by omega)]; rfl
theorem Nw (p q:List Int) (k:Nat):(Tp p q).getD k 0=p.getD k 0-q.getD k 0:=by
 unfold Tp;rw [H9]
 split
 ·rfl
 ·rename_i h; rw [Gq (p:=p) (by omega),Gq (p:=q) (by omega)]; rfl
theorem H8 (p:List Int) (c:Int) (k:Nat):(Uu p c).getD k 0=p.getD k 0*c:=by
 unfold Uu;rw [H9]
 split
 ·rfl
 ·rename_i h; rw [Gq (p:=p) (by omega),Int.zero_mul]
theorem Qlv (p:List Int) (k:Nat):(S5 p).getD k 0=-(p.getD k 0):=by
 unfold S5;rw [H9]
 split
 ·rfl
 ·rename_i h; rw [Gq (p:=p) (by omega)]; rfl
theorem Ty (p:List Int) (k:Nat):(U3 p).getD k 0=p.getD (k+1) 0*((k+1:Nat):Int):=by
 unfold U3;rw [H9]
 split
 ·rfl
 ·rename_i h; rw [Gq (p:=p) (by omega),Int.zero_mul]
theorem Q60 (p q:List Int) (t:Rat):Ug (Qcs p q) t=Ug p t+Ug q t:=by
 have:=M4 1 1 t (max (max p.length q.length) (Qcs p q).length) p q (Qcs p q) (by omega) (by omega) (by omega) λk=>by rw [Qls]; omega
 rw [this]; push_cast; grind
theorem Bt (p q:List Int) (t:Rat):Ug (Tp p q) t=Ug p t-Ug q t:=by
 have:=M4 1 (-1) t (max (max p.length q.length) (Tp p q).length) p q (Tp p q) (by omega) (by omega) (by omega) λk=>by rw [Nw]; omega
 rw [this]; push_cast; grind
theorem Qct (p:List Int) (t:Rat):Ug (S5 p) t=-Ug p t:=by
 have:=M4 (-1) 0 t (max p.length (S5 p).length) p p (S5 p) (by omega) (by omega) (by omega) λk=>by rw [Qlv]; omega
 rw [this]; push_cast; grind
theorem Gz (p:List Int) (c:Int) (t:Rat):Ug (Uu p c) t=Ug p t*(c:Rat):=by
 have:=M4 c 0 t (max p.length (Uu p c).length) p p (Uu p c) (by omega) (by omega) (by omega) λk=>by rw [H8,Vj]; omega
 rw [this]; push_cast; grind
theorem Qoa:∀ (l:List Int) (j:Nat) (v:Int) (t:Rat),j<l.length->Ug (l.set j v) t=Ug l t+((v:Rat)-((l.getD j 0:Int):Rat))*t^j
 | [],_,_,_,h=>by simp at h
 |
  a::l,0,v,t,_=>by
  show (v:Rat)+t*Ug l t=(a:Rat)+t*Ug l t+((v:Rat)-(a:Rat))*t^0;rw [Xd]; grind
 |
  a::l,j+1,v,t,h=>by
  have ih:=Qoa l j v t (by simpa using h);show (a:Rat)+t*Ug (l.set j v) t=(a:Rat)+t*Ug l t+((v:Rat)-((l.getD j 0:Int):Rat))*t^(j+1);rw [ih,Z0]; grind
theorem Qi6:∀ (l:List Int) (k:Nat) (t:Rat),k<l.length->Ug (l.take (k+1)) t=Ug (l.take k) t+((l.getD k 0:Int):Rat)*t^k
 | [],_,_,h=>by simp at h
 |
  a::l,0,t,_=>by
  show (a:Rat)+t*Ug (l.take 0) t=0+(a:Rat)*t^0;rw [Xd,Vn];show (a:Rat)+t*0=_;grind
 |
  a::l,k+1,t,h=>by
  have ih:=Qi6 l k t (by simpa using h);show (a:Rat)+t*Ug (l.take (k+1)) t=(a:Rat)+t*Ug (l.take k) t+((l.getD k 0:Int):Rat)*t^(k+1);rw [ih,Z0]; grind
theorem Qlu (n:Nat) (t:Rat):Ug (List.replicate n 0) t=0:=by
 induction n with
 | zero=>rfl
 |
  succ n ih =>
  show ((0:Int):Rat)+t*Ug (List.replicate n 0) t=0;rw [ih]; push_cast; grind
theorem Qsi (t:Rat) (i:Nat):∀ k,t^(i+k)=t^i*t^k
 | 0=>by rw [Xx,Xd]; grind
 | k+1=>by rw [<-J7,Z0,Z0,Qsi t i k]; grind
theorem Qrx (x:Int) (b:List Int) (i:Nat) (o:List Int) (t:Rat):∀ k,k<=b.length->i+k<=o.length->Ug (Ej x b i o k) t=Ug o t+(x:Rat)*t^i*Ug (b.take k) t
 |
  0,_,_=>by
  show Ug o t=Ug o t+(x:Rat)*t^i*0;grind
 |
  k+1,h1,h2=>by
  have ih:=Qrx x b i o t k (by omega) (by omega);simp only [Ej];rw [Qoa _ _ _ _ (by rw [Ek]; omega),ih,Qi6 b k t (by omega)];have hp:t^(i+k)=t^i*t^k:=Qsi t i k;rw [hp]
  push_cast
  grind
theorem Qrw (a b o:List Int) (t:Rat):∀ i,i<=a.length->i+b.length<=o.length+1->Ug (My a b o i) t=Ug o t+Ug (a.take i) t*Ug b t
 |
  0,_,_=>by
  show Ug o t=Ug o t+0*Ug b t;grind
 |
  i+1,h1,h2=>by
  have ih:=Qrw a b o t i (by omega) (by omega);simp only [My];rw [Qrx _ _ _ _ _ b.length (Qj _) (by rw [Mz]; omega),ih,Qi6 a i t (by omega),Za];grind
theorem Fc (a b:List Int) (t:Rat):Ug (Fv a b) t=Ug a t*Ug b t:=by
 unfold Fv
 split
 ·rename_i h;rcases h with h | h
  ·rw [Qh h]; show (0:Rat)=0*_; grind
  ·rw [Qh h]; show (0:Rat)=_*0; grind
 ·rename_i h;rw [Eo,Qrw a b _ t a.length (Qj _) (by rw [X9]; omega),Qlu,Za];grind
theorem Gg (z d:Int):(z:Rat) / (d:Rat)=Rat.divInt z d:=by
 by_cases h:d=0
 ·subst h; simp; grind
 ·rw [Ju]; exact (Rat.divInt_eq_div z d ▸ by rw [Ju])
theorem Qpc (a:List Int) (n d:Int) (hd:(d:Rat)≠0):∀ k,k<=a.length->(((S9 a n d k).2:Int):Rat)=(d:Rat)^k/\(((S9 a n d k).1:Int):Rat)*d=(d:Rat)^k*Ug (a.drop (a.length-k)) ((n:Rat) / d)
 |
  0,_=>by
  refine ⟨by rw [Xd]; rfl,?_⟩;rw [Kx,Vr];show ((0:Int):Rat)*d=(d:Rat)^0*0
  push_cast; grind
 |
  k+1,hk=>by
  obtain ⟨h1,h2⟩:=Qpc a n d hd k (by omega);have hi:a.length-1-k<a.length:=by omega
  have e1:a.drop (a.length-(k+1))=a.getD (a.length-1-k) 0::a.drop (a.length-k):=by
   rw [show a.length-(k+1)=a.length-1-k by omega,Zn hi,show a.length-1-k+1=a.length-k by omega];congr 1;rw [Qg,Qd hi]; rfl
  refine ⟨?_,?_⟩
  ·show (((S9 a n d k).2*d:Int):Rat)=_;rw [Xz,h1,Z0]
  ·rw [e1];show (((S9 a n d k).1*n+a.getD (a.length-1-k) 0*(S9 a n d k).2:Int):Rat)*d=_*(((a.getD (a.length-1-k) 0:Int):Rat)+(n:Rat) / d*Ug (a.drop (a.length-k)) ((n:Rat) / d));rw [V6,Xz,Xz,h1,Z0];have h3:(n:Rat) / d*d=n:=by rw [Zi hd]
   have h4:(d:Rat)^k*d*((n:Rat) / d*Ug (a.drop (a.length-k)) ((n:Rat) / d))=((n:Rat) / d*d)*((d:Rat)^k*Ug (a.drop (a.length-k)) ((n:Rat) / d)):=by grind
   have h5:(d:Rat)^k*d*(((a.getD (a.length-1-k) 0:Int):Rat)+(n:Rat) / d*Ug (a.drop (a.length-k)) ((n:Rat) / d))=(d:Rat)^k*d*((a.getD (a.length-1-k) 0:Int):Rat)+(d:Rat)^k*d*((n:Rat) / d*Ug (a.drop (a.length-k)) ((n:Rat) / d)):=by grind
   rw [h5,h4,h3,<-h2];grind
theorem Qof {d:Rat} (h:0<d):∀ k:Nat,0<d^k
 | 0=>by rw [Xd]; decide
 | k+1=>by rw [Z0]; exact Vz (Qof h k) h
theorem Ax {x y:Rat} (h:0<y):Uo (y*x)=Uo x:=by
 unfold Uo;have h1:y*x<0↔x<0:=by
  constructor
  ·intro h2;rcases Vp (a:=0) (b:=x) with h3 | h3
   ·have:=Rat.mul_nonneg (Qo h) h3; grind
   ·rcases V0.1 h3 with h4 | h4
    ·exact h4
    ·rw [h4] at h2; grind
  ·intro h2;have:=Vz h (show 0 < -x by grind);grind
 have h2:0<y*x↔0<x:=by
  constructor
  ·intro h2;rcases Vp (a:=x) (b:=0) with h3 | h3
   ·have:=Rat.mul_nonneg (Qo h) (show 0<=-x by grind); grind
   ·rcases V0.1 h3 with h4 | h4
    ·exact h4
    ·rw [<-h4] at h2; grind
  ·intro h2; exact Vz h h2
 simp only [h1,h2]
theorem Q4l (z:Int):Mm z 0=Uo (z:Rat):=by
 unfold Mm Uo;have h1:((z:Int):Rat)<0↔z<0:=by
  have := @Rat.intCast_lt_intCast z 0; simpa using this
 have h2:0<((z:Int):Rat)↔0<z:=by
  have := @Rat.intCast_lt_intCast 0 z; simpa using this
 simp only [h1,h2]
theorem Tu (p:List Int) (q:Rat):U5 p q=Uo (Ug p q):=by
 have hd0:(0:Rat)<((q.den:Int):Rat):=by
  have := @Rat.intCast_lt_intCast 0 (q.den:Int);rw [show ((0:Int):Rat)=0 from rfl] at this;exact this.2 (den_pos q)
 have hd:((q.den:Int):Rat)≠0:=by intro h; rw [h] at hd0; exact absurd hd0 (by decide)
 obtain ⟨_,h⟩:=Qpc p q.num q.den hd p.length (Qj _);rw [Ye,X7,Gg,Zq] at h;unfold U5;rw [Q4l,<-Ax hd0,Ww];show Uo ((((S9 p q.num q.den p.length).1:Int):Rat)*_)=_;rw [h,Ax (Qof hd0 _)]
def cz (p:List Int):List Rat:=p.map λz:Int=>(z:Rat)
theorem Ue (t:Rat):∀ p,ev (cz p) t=Ug p t
 | []=>rfl
 | a::p=>by have:=Ue t p; simp only [cz,Zv,ev,Ug] at *; rw [this]
theorem Tn:∀ (p:List Int) (k:Nat),(cz p).getD k 0=((p.getD k 0:Int):Rat)
 | [],k=>by simp [cz]
 | a::p,0=>by simp [cz]
 | a::p,k+1=>by have:=Tn p k; simp only [cz,Zv,Q3] at *; exact this
theorem M3 {p q:List Int} (h:∀ t,Ug p t=Ug q t) (k:Nat):p.getD k 0=q.getD k 0:=by
 have:=Mt (p:=cz p) (q:=cz q) (λt=>by rw [Ue,Ue,h]) k;rw [Tn,Tn] at this
 exact_mod_cast this
theorem Qde {p q:List Int} (hp:Uf p) (hq:Uf q) (h:∀ k,p.getD k 0=q.getD k 0):p=q:=by
 have key:∀ {p q:List Int},Uf p->Uf q->(∀ k,p.getD k 0=q.getD k 0)->p.length<=q.length:=λ{p q} hp hq h=>by
  rcases Q6 q.length p.length with e | e
  ·have:=Gi hp (by omega);rw [h,Qg,Qr (by omega)] at this;exact absurd rfl this
  ·exact e
 exact Qia (V5 (key hp hq h) (key hq hp λk=>(h k).symm)) λj _=>h j
theorem Qyw {p q:List Int} (hp:Uf p) (hq:Uf q) (h:∀ t,Ug p t=Ug q t):p=q:=Qde hp hq (M3 h)
theorem Zck {p:List Int} (hp:Uf p) (h:∀ t,Ug p t=0):p=[]:=Qyw hp rfl λt=>by rw [h]; rfl
theorem Bi {p:List Int} (h:p.length=0) (t:Rat):Ug p t=0:=by rw [Qh h]; rfl
theorem Qyu:∀ (p r:List Int) (t:Rat),(∀ k,r.getD k 0=p.getD (k+1) 0*((k+1:Nat):Int))->Ug r t=dv (cz p) t
 |
  [],r,t,h=>by
  rw [Qyv (q:=[]) (λk=>by rw [h]; simp) t]; rfl
 |
  a::p,r,t,h=>by
  have ih:=Qyu p (U3 p) t λk=>Ty p k
  have e:Ug r t=Ug p t+t*Ug (U3 p) t:=by
   have:=M4 1 1 t (max (max p.length (0::U3 p).length) r.length) p (0::U3 p) r (by omega) (by omega) (by omega) λk=>by
    rw [h,Q3];cases k with
    | zero=>simp
    | succ k=>rw [Q3,Ty]; push_cast; grind
   rw [this]; simp only [Ug]; push_cast; grind
  rw [e,ih];show _=ev (cz p) t+t*dv (cz p) t;rw [Ue]
theorem Dn (p:List Int) (t:Rat):Ug (U3 p) t=dv (cz p) t:=Qyu p _ t λk=>Ty p k
theorem Qaw {p:List Int} (hp:Uf p) (h:0<p.length):HD (cz p) (p.length-1):=by
 refine ⟨?_,λk hk=>?_⟩
 ·rw [Tn];have:=Gi hp h;exact λe=>this (by exact_mod_cast e)
 ·rw [Tn,Qg,Qr (by omega)]; rfl
theorem Qff {p:List Int} (hp:Uf p) (h:0<p.length):¬∀ t,Ug p t=0:=λh0=>by
 rw [Zck hp h0] at h; exact absurd h (by simp)
theorem Sk {a b c:List Int} (ha:Uf a) (hb:Uf b) (hc:Uf c) (h:∀ t,Ug c t=Ug a t*Ug b t) (la:0<a.length) (lb:0<b.length):c.length=a.length+b.length-1:=by
 have h1:=Qee (Qaw ha la) (Qaw hb lb);have h2:HD (cz c) (a.length-1+(b.length-1)):=Q5x (λt=>by rw [Ui,Ue,Ue,Ue,h]) h1;have lc:0<c.length:=by
  rcases Qy c.length with e | e
  ·exact absurd (λt=>by rw [Ue]; exact Bi e t) (Qx3 h2)
  ·exact e
 have:=Zet (Qaw hc lc) h2;omega
theorem Qr3:∀ (n m:Nat),m<=n->2<=m->∃ P,2<=P/\P∣m/\∀ d,2<=d->d∣P->d=P
 | 0,m,h,h2=>by omega
 |
  n+1,m,h,h2=>by
  rcases Classical.em (∃ d,2<=d/\d<m/\d∣m) with ⟨d,d1,d2,d3⟩ | h0
  ·obtain ⟨P,p1,p2,p3⟩:=Qr3 n d (by omega) d1;exact ⟨P,p1,Nat.dvd_trans p2 d3,p3⟩
  ·refine ⟨m,h2,Nat.dvd_refl m,λd d1 d2=>?_⟩;rcases Y6 (Vx (by omega) d2) with e | e
   ·exact absurd ⟨d,d1,e,d2⟩ h0
   ·exact e
theorem Qnc {P:Nat} (h2:2<=P) (hP:∀ d,2<=d->d∣P->d=P) {x y:Int} (h:(P:Int)∣x*y):(P:Int)∣x\/(P:Int)∣y:=by
 have h:=Xl.2 h;rw [Jv,Zw] at h;have hg:=Ki P x.natAbs;rcases Q6 (Nat.gcd P x.natAbs) 2 with e | e
 ·right;have h1:Nat.gcd P x.natAbs=1:=by
   have:=Nat.gcd_pos_of_pos_left x.natAbs (show 0<P by omega); omega
  have:=Nat.Coprime.dvd_of_dvd_mul_left h1 h;exact Xl.1 (by rwa [Zw])
 ·left;have:=hP _ e hg;have h3:=Wm P x.natAbs;rw [this] at h3;exact Xl.1 (by rwa [Zw])
def Qs4 (P:Int) (l:List Int):Prop:=∀ k,P∣l.getD k 0
theorem Qdo {P:Nat} (h2:2<=P) (hP:∀ d,2<=d->d∣P->d=P):∀ (n:Nat) (b h c:List Int),b.length+h.length<=n->(∀ t,Ug c t=Ug b t*Ug h t)->Qs4 P c->Qs4 P b\/Qs4 P h
 | _,[],h,c,_,_,_=>.inl λk=>by simp
 | _,x::b,[],c,_,_,_=>.inr λk=>by simp
 | 0,x::b,y::h,c,hn,_,_=>by simp at hn
 |
  n+1,x::b,y::h,c,hn,hc,hd=>by
  simp only [Zc] at hn;by_cases hx:(P:Int)∣x
  ·-- x h is taken away
   have e:∀ t,Ug (0::Fv b (y::h)) t=Ug (Tp c (Uu (y::h) x)) t:=λt=>by
    rw [Bt,Gz,hc]; simp only [Ug]; rw [Fc]; simp only [Ug]; push_cast; grind
   have hd':Qs4 P (Fv b (y::h)):=λk=>by
    have:=M3 e (k+1);rw [Q3,Nw,H8] at this;rw [this];exact Int.dvd_sub (hd (k+1)) (Vv hx (Kh _ _))
   rcases Qdo h2 hP n b (y::h) _ (by simp only [Zc]; omega) (λt=>Fc _ _ t) hd' with h1 | h1
   ·refine .inl λk=>?_
    cases k with
    | zero=>rw [Zp]; exact hx
    | succ k=>rw [Q3]; exact h1 k
   ·exact .inr h1
  ·have h0:(P:Int)∣y:=by
    have e:c.getD 0 0=x*y:=by
     have:=M3 (p:=c) (q:=Fv (x::b) (y::h)) (λt=>by rw [hc,Fc]) 0;have e2:=M3 (p:=Fv (x::b) (y::h)) (q:=Qcs (Uu (y::h) x) (0::Fv b (y::h))) (λt=>by
      rw [Q60,Gz,Fc]; simp only [Ug]; rw [Fc]; simp only [Ug]; push_cast; grind) 0
     rw [this,e2,Qls,H8,Zp,Zp,Vj]; omega
    have:=hd 0;rw [e] at this;rcases Qnc h2 hP this with h1 | h1
    ·exact absurd h1 hx
    ·exact h1
   have e:∀ t,Ug (0::Fv (x::b) h) t=Ug (Tp c (Uu (x::b) y)) t:=λt=>by
    rw [Bt,Gz,hc]; simp only [Ug]; rw [Fc]; simp only [Ug]; push_cast; grind
   have hd':Qs4 P (Fv (x::b) h):=λk=>by
    have:=M3 e (k+1);rw [Q3,Nw,H8] at this;rw [this];exact Int.dvd_sub (hd (k+1)) (Vv h0 (Kh _ _))
   rcases Qdo h2 hP n (x::b) h _ (by simp only [Zc]; omega) (λt=>Fc _ _ t) hd' with h1 | h1
   ·exact absurd (by have:=h1 0; rwa [Zp] at this) hx
   ·refine .inr λk=>?_
    cases k with
    | zero=>rw [Zp]; exact h0
    | succ k=>rw [Q3]; exact h1 k
def Prm (b:List Int):Prop:=∀ d:Int,Qs4 d b->d∣1
theorem Q5l {a b:List Int} (hb:Prm b):∀ (n:Nat) (c:Int) (h:List Int),c.natAbs<=n->c≠0->(∀ t,(c:Rat)*Ug a t=Ug b t*Ug h t)->∃ h',∀ t,Ug a t=Ug b t*Ug h' t
 | 0,c,h,hn,h0,_=>absurd (by omega) h0
 |
  n+1,c,h,hn,h0,hc=>by
  rcases Q6 c.natAbs 2 with h1 | h1
  ·refine ⟨Uu h c,λt=>?_⟩;have hcc:(c:Rat)*c=1:=by
    have:c*c=1:=by
     rcases (show c=1\/c=-1 by omega) with rfl | rfl <;> rfl
    have:=congrArg (λz:Int=>(z:Rat)) this
    push_cast at this; exact this
   rw [Gz];have:=hc t;have:Ug a t=(c:Rat)*((c:Rat)*Ug a t):=by
    have:(c:Rat)*((c:Rat)*Ug a t)=((c:Rat)*c)*Ug a t:=by grind
    rw [this,hcc]; grind
   rw [this,hc]; grind
  ·obtain ⟨P,p1,p2,p3⟩:=Qr3 c.natAbs c.natAbs (Qj _) h1;obtain ⟨d,hd⟩:∃ d,c=(P:Int)*d:=Wb.2 p2;have hall:Qs4 P (Uu a c):=λk=>by
    rw [H8,hd]; exact Vv (Kc _ _) (Kh _ _)
   have hP0:(P:Rat)≠0:=by
    have:((0:Nat):Rat)<(P:Rat):=Ve.2 (by omega);grind
   rcases Qdo p1 p3 _ b h (Uu a c) (Qj _) (λt=>by rw [Gz,Ww,hc]) hall with e | e
   ·have:=hb P e;have:=Xl.2 this;rw [Zw] at this;have:=Vx (by decide) this;exact absurd this (by show ¬P<=1; omega)
   ·refine Q5l hb n d (h.map (· / (P:Int))) ?_ (λe0=>h0 (by rw [hd,e0,Vk])) λt=>?_
    ·rw [hd,Jv,Zw] at hn h1;have:2*d.natAbs<=P*d.natAbs:=Qw _ p1;omega
    ·have e1:Ug h t=(P:Rat)*Ug (h.map (· / (P:Int))) t:=by
      have:=M4 P 0 t (max h.length (h.map (· / (P:Int))).length) (h.map (· / (P:Int))) [] h (by omega) (by simp) (by omega) λk=>by
       have:=e k;have e2:(h.map (· / (P:Int))).getD k 0=h.getD k 0 / (P:Int):=by
        rw [Qg,Qg,Q5];cases h[k]? <;> simp
       rw [e2,Ks this]; simp
      rw [this]; simp only [Ug]; push_cast; grind
     have:=hc t;rw [hd,e1] at this
     push_cast at this
     have h3:(P:Rat)*((d:Rat)*Ug a t)=(P:Rat)*(Ug b t*Ug (h.map (· / (P:Int))) t):=by grind
     have h4:=Jq.1 (show (P:Rat)*((d:Rat)*Ug a t-Ug b t*Ug (h.map (· / (P:Int))) t)=0 by grind);rcases h4 with h4 | h4
     ·exact absurd h4 hP0
     ·grind
theorem Qkn:∀ u:List Rat,∃ c:Int,c≠0/\∃ h:List Int,∀ t,(c:Rat)*ev u t=Ug h t
 | []=>⟨1,by decide,[],λt=>by simp only [ev,Ug]; grind⟩
 |
  a::u=>by
  obtain ⟨c,hc,h,hh⟩:=Qkn u;refine ⟨c*(a.den:Int),Jh hc (by have:=a.den_nz; omega),(c*a.num)::Uu h (a.den:Int),λt=>?_⟩;have e:(a.den:Rat)*a=a.num:=by
   rw [Ww];have:(a.num:Rat) / (((a.den:Int)):Rat)=a:=by rw [Gg,Zq]
   have hd:(a.den:Rat)≠0:=by
    have:((0:Nat):Rat)<(a.den:Rat):=Ve.2 a.den_pos;grind
   have h2:(a.num:Rat) / (a.den:Rat)*(a.den:Rat)=a.num:=Zi hd;rw [show (a.num:Rat) / (a.den:Rat)=a from this] at h2; exact h2
  simp only [ev,Ug];rw [Gz,<-hh]
  push_cast
  rw [<-e];have e3:(((a.den:Int)):Rat)=(a.den:Rat):=rfl;grind
theorem Q5k {a b:List Int} (hb:Prm b) (h:A6 (cz b) (cz a)):∃ h',Uf h'/\∀ t,Ug a t=Ug b t*Ug h' t:=by
 obtain ⟨u,hu⟩:=h;obtain ⟨c,hc,h,hh⟩:=Qkn u;obtain ⟨h',e⟩:=Q5l hb c.natAbs c h (Qj _) hc λt=>by
  have:=hu t;rw [Ue,Ue] at this;rw [this,<-hh]; grind
 exact ⟨trim h',Gu _,λt=>by rw [Eo,e]⟩
def sd (x0:Rat):List Rat->List Rat
 | []=>[]
 | _::p=>H3 p (Pq x0 (sd x0 p))
theorem Q5a (x0 x:Rat):∀ p,ev (sd x0 p) x=dq p x x0
 | []=>rfl
 | a::p=>by simp only [sd,dq]; rw [U6,Uw,Q5a x0 x p]
theorem Qvs (x0:Rat):∀ (g:List Rat) (n:Nat),(∀ j,n<j->g.getD j 0=0)->∀ j,n<=j->(sd x0 g).getD j 0=0
 | [],n,_,j,_=>by simp [sd]
 |
  a::p,0,h,j,_=>by
  have hp:∀ j,p.getD j 0=0:=λj=>by have:=h (j+1) (by omega); rwa [Q3] at this
  simp only [sd];rw [G5,Hz,hp,Qvs x0 p 0 (λj _=>hp j) j (Qi _)]; grind
 |
  a::p,n+1,h,j,hj=>by
  have hp:∀ j,n<j->p.getD j 0=0:=λj hj=>by have:=h (j+1) (by omega); rwa [Q3] at this
  simp only [sd];rw [G5,Hz,hp j (by omega),Qvs x0 p n hp j (by omega)]; grind
theorem Quj {K:Rat} (hK:0≤K):∀ (e:Nat) (g:List Rat) (pts:List Int) (M:Rat),pts.length=e+1->pts.Nodup->(∀ x∈pts,Uk (x:Rat)≤K)->(∀ k,e<k->g.getD k 0=0)->(∀ x∈pts,Uk (ev g (x:Rat))≤M)->∀ k,Uk (g.getD k 0)≤(2*K+3)^e*M
 | _,_,[],_,h,_,_,_,_=>by simp at h
 |
  0,g,x0::xs,M,_,_,_,hg,hM=>λk=>by
  have h0:=hM x0 (by simp);rw [Xd];cases k with
  |
   zero =>
   have e:ev g (x0:Rat)=g.getD 0 0:=by
    cases g with
    | nil=>rfl
    |
     cons a p =>
     have hp:=Bp (p:=p) λj=>by have:=hg (j+1) (by omega); rwa [Q3] at this
     simp only [ev,hp,Zp]; grind
   rw [<-e]; grind
  |
   succ k =>
   rw [hg (k+1) (by omega),G9];have:=Gj (ev g (x0:Rat)); grind
 |
  e+1,g,x0::xs,M,hl,hn,hb,hg,hM=>λk=>by
  have hx0:=hb x0 (by simp);have hM0:=hM x0 (by simp);have hMn:0<=M:=Q7 (Gj _) hM0;rw [List.nodup_cons] at hn;have ih:=Quj hK e (sd x0 g) xs (2*M) (by simpa using hl) hn.2 (λx hx=>hb x (by simp [hx])) (λj hj=>Qvs _ g (e+1) hg j (by omega)) λx hx=>by
   have h1:=hM x (by simp [hx]);have h2:=Qky (x:Rat) (x0:Rat) g;rw [<-Q5a] at h2;have hne:x-x0≠0:=λh=>hn.1 (by rw [show x0=x by omega]; exact hx)
   have h3:=As hne;rw [Rat.intCast_sub] at h3;have h4:Uk (ev g (x:Rat)-ev g (x0:Rat))<=2*M:=by
    have:=Rv (ev g (x:Rat)) (-ev g (x0:Rat));rw [Co,show ev g (x:Rat)+-ev g (x0:Rat)=ev g (x:Rat)-ev g (x0:Rat) by grind] at this;clear hM hb hg; grind
   rw [h2,Cn] at h4;have h5:=Q4 h3 (Gj (ev (sd x0 g) x));clear hM hb hg; grind
  have e1:∀ t,ev g t=ev (H3 [ev g x0] (H3 (Pq (-x0) (sd x0 g)) (0::sd x0 g))) t:=λt=>by
   have:=Qky t (x0:Rat) g;rw [<-Q5a] at this;simp only [U6,Uw,ev];grind
  have hp1:1<=(2*K+3)^e:=(Qah (R:=2*K+3) (x:=0) (by grind) (by rw [G9]; grind) e).2;have hpM:=Po (x:=(2*K+3)^e) (y:=M) (by grind) hMn;have hpM1:=Q4 hp1 hMn;rw [Z0,Mt e1 k,G5,G5,Hz];have a1:=ih k;have a2:Uk (-(x0:Rat)*(sd (x0:Rat) g).getD k 0)<=K*((2*K+3)^e*(2*M)):=Fw (by rw [Co]; exact hx0) a1;have fin:∀ u v w:Rat,Uk u<=M->Uk v<=K*((2*K+3)^e*(2*M))->Uk w<=(2*K+3)^e*(2*M)->Uk (u+(v+w))<=(2*K+3)^e*(2*K+3)*M:=λu v w h1 h2 h3=>by
   have b1:=Rv u (v+w);have b2:=Rv v w;clear ih e1 hM hb hg a1 a2; grind
  refine fin _ _ _ ?_ a2 ?_
  ·cases k with
   | zero=>rw [Zp]; exact hM0
   | succ k=>rw [Q3,Kg,G9]; exact hMn
  ·cases k with
   | zero=>rw [Zp,G9]; clear ih e1 hM hb hg a1 a2 fin; grind
   | succ k=>rw [Q3]; exact ih k
theorem Q7r {g:List Rat} {e:Nat} (hg:∀ k,e<k->g.getD k 0=0) (hz:¬∀ t,ev g t=0) {pts:List Int} (hn:pts.Nodup) (hr:∀ x∈pts,ev g (x:Rat)=0):pts.length≤e:=by
 rcases Q6 e pts.length with h | h
 ·exfalso;obtain ⟨K,hK,hb⟩:∃ K:Rat,0≤K/\∀ x∈pts,Uk (x:Rat)≤K:=by
   clear hn hr h
   induction pts with
   | nil=>exact ⟨0,by decide,λx hx=>by cases hx⟩
   |
    cons y pts ih =>
    obtain ⟨K,h1,h2⟩:=ih;refine ⟨K+Uk (y:Rat),by have:=Gj (y:Rat); grind,λx hx=>?_⟩;have hy:=Gj (y:Rat);rcases Qx.1 hx with rfl | hx
    ·grind
    ·have:=h2 x hx; grind
  refine hz (Bp λk=>?_);have:=Quj hK e g (pts.take (e+1)) 0 (by rw [Qq]; omega) (hn.sublist (Wl ..)) (λx hx=>hb x (Qk hx)) hg (λx hx=>by rw [hr x (Qk hx),G9]; exact Qn) k;have h2:=Gj (g.getD k 0);exact Zcv (by grind)
 ·exact h
def spots:List Int:=(List.range 19).map λi:Nat=>(i:Int)-9
theorem spots_nd:spots.Nodup:=by decide
theorem Qsm:∀ x∈spots,x.natAbs≤9:=by decide
theorem Qid {α:Type} (p:α->Bool):∀ l:List α,(l.filter p).length+(l.filter λx => !p x).length=l.length
 | []=>rfl
 |
  x::l=>by
  have:=Qid p l;cases h:p x <;> simp [h] <;> omega
def geo:Nat->Nat
 | 0=>0
 | n+1=>1+9*geo n
theorem Qxv {B:Rat}:∀ (p:List Int),(∀ z∈p,Uk (z:Rat)≤B)->evB 9 (cz p)≤B*(geo p.length:Nat)
 | [],_=>by simp only [cz,Jg,evB,geo,Kt]; rw [show ((0:Nat):Rat)=0 from rfl]; grind
 |
  a::p,h=>by
  have h1:=Qxv p λz hz=>h z (Ql _ hz)
  have h2:=h a (Qt ..);simp only [cz,Zv,evB,geo,Zc] at *
  push_cast
  clear h; grind
theorem Q5s {m n:Nat} (h:m<=n):geo m<=geo n:=by
 induction h with
 | refl=>exact Qj _
 | step h ih=>simp only [geo]; omega
def pz:List Int->Int->Int
 | [],_=>0
 | a::p,x=>a+x*pz p x
theorem Qbj (x:Int):∀ p,Ug p (x:Rat)=((pz p x:Int):Rat)
 | []=>rfl
 | a::p=>by simp only [Ug,pz,Qbj x p]; push_cast; rfl
theorem Ry (z:Int):Uk (z:Rat)=((z.natAbs:Nat):Rat):=by
 unfold Uk;rcases Kr z 0 with h | h
 ·have h1:(z:Rat)<((0:Int):Rat):=X6.2 h;rw [if_pos (by simpa using h1)];have:(z.natAbs:Int)=-z:=by omega
  have:=congrArg (λu:Int=>(u:Rat)) this
  push_cast at this
  exact this.symm
 ·have h1:((0:Int):Rat)<=(z:Rat):=Jf.2 h;have h1:(0:Rat)<=(z:Rat):=by simpa using h1
  rw [if_neg (by grind)];have:(z.natAbs:Int)=z:=by omega
  have:=congrArg (λu:Int=>(u:Rat)) this;exact this.symm
theorem Ah {p g h:List Int} {s:Nat} (hp:Bd s p) (hl:p.length<=10) (tp:Uf p) (tg:Uf g) (th:Uf h) (h0:p.length≠0) (e:∀ t,Ug p t=Ug g t*Ug h t):Bd (s+69) g:=by
 have lg:0<g.length:=by
  rcases Qy g.length with e' | e'
  ·exact absurd (λt=>by rw [e,Bi e']; grind) (Qff tp (by omega))
  ·exact e'
 have lh:0<h.length:=by
  rcases Qy h.length with e' | e'
  ·exact absurd (λt=>by rw [e,Bi e']; grind) (Qff tp (by omega))
  ·exact e'
 have hlen:=Sk tg th tp e lg lh;obtain ⟨q,hq⟩:=nmE (spots.filter λx => !decide (pz p x=0));have hr:(spots.filter λx=>decide (pz p x=0)).length<=9:=by
  refine Q7r (g:=cz p) (e:=9) (λk hk=>?_) (λh=>Qff tp (by omega) λt=>by rw [<-Ue]; exact h t) (spots_nd.sublist List.filter_sublist) λx hx=>?_
  ·rw [Tn,Qg,Qr (by omega)]; rfl
  ·have:=(Wy.1 hx).2;rw [Ue,Qbj,of_decide_eq_true this]; rfl
 have hc:=Qid (λx=>decide (pz p x=0)) spots;rw [<-hq] at hc;have hsl:spots.length=19:=by decide
 have hB:∀ z∈p,Uk (z:Rat)≤((2^s:Nat):Rat):=λz hz=>by
  rw [Ry];have:=hp z hz;rw [Rh] at this;exact Zb.2 (Jt this)
 have key:=Quj (K:=9) (by decide) 9 (cz g) (q.take 10) (((2^s*435848050:Nat)):Rat) (by rw [Qq]; omega) ((spots_nd.sublist (by rw [hq]; exact List.filter_sublist)).sublist (Wl ..)) (λx hx=>by
  have hx:=Qk hx;rw [hq] at hx;have:=Qsm x (Wy.1 hx).1;rw [Ry]
  exact_mod_cast Zb.2 this) (λk hk=>by rw [Tn,Qg,Qr (by omega)]; rfl) (λx hx=>by
  have hx:=Qk hx;rw [hq] at hx;obtain ⟨hx1,hx2⟩:=Wy.1 hx;have hne:pz p x≠0:=by simpa using hx2
  have e1:=e (x:Rat);rw [Qbj,Qbj,Qbj] at e1;have e2:pz p x=pz g x*pz h x:=by exact_mod_cast e1
  have hh:1<=(pz h x).natAbs:=by
   rcases Qy (pz h x).natAbs with e' | e'
   ·exact absurd (by rw [e2,Int.natAbs_eq_zero.1 e',Vk]) hne
   ·exact e'
  have h3:(pz g x).natAbs<=(pz p x).natAbs:=by
   rw [e2,Jv];exact Jm _ hh
  rw [Ue,Qbj,Ry];refine Q7 (Zb.2 h3) ?_;rw [<-Ry,<-Qbj,<-Ue];refine Q7 (Qfg (R:=9) (by
   have:=Qsm x hx1;rw [Ry]
   exact_mod_cast Zb.2 this) _) ?_
  refine Q7 (Qxv p hB) ?_;have:2^s*geo p.length<=2^s*435848050:=Zh _ (Qa (Q5s hl) (by decide));have:=Zb.2 this
  push_cast at this ⊢
  exact this)
 refine Qhb λk=>?_
 have h1:=key k;rw [Tn,Ry] at h1;have e3:(2*(9:Rat)+3)^9*((2^s*435848050:Nat):Rat)=(((794280046581*(2^s*435848050)):Nat):Rat):=by
  rw [show (2*(9:Rat)+3)^9=794280046581 by grind]
  push_cast; rfl
 rw [e3] at h1;have h2:=Zb.1 h1;rw [Rh];refine Zx h2 ?_;have:794280046581*(2^s*435848050)=2^s*(794280046581*435848050):=by
  rw [Kf]
 rw [this,Xe];exact Nat.mul_lt_mul_of_pos_left (by decide) (Zu (by decide))
theorem Q41 {l:List Int} {d:Int} (h:∀ z∈l,d∣z):d∣((Gl l:Nat):Int):=by
 have key:∀ (l:List Int) (g:Nat),d.natAbs∣g->(∀ z∈l,d∣z)->d.natAbs∣l.foldl (λg z=>Nat.gcd g z.natAbs) g:=by
  intro l
  induction l with
  | nil=>exact λg h _=>h
  | cons z l ih=>exact λg hg h=>ih _ (Nat.dvd_gcd hg (Xl.2 (h z (Qt ..)))) λu hu=>h u (Ql _ hu)
 have:=key l 0 (Nat.dvd_zero _) h;exact Xl.1 (by rw [Zw]; exact this)
theorem Qcb (p:List Int) (c:Int) (k:Nat):(p.map (· / c)).getD k 0=p.getD k 0 / c:=by
 rw [Qg,Qg,Q5];cases p[k]? <;> simp
theorem Mc (p:List Int) (c:Int) (k:Nat):(Nl p c).getD k 0=p.getD k 0 / c:=by
 unfold Nl; rw [C5,Qcb]
theorem Qlt {p:List Int} {c:Int} (h:∀ z∈p,c∣z) (t:Rat):Ug p t=(c:Rat)*Ug (Nl p c) t:=by
 have:=M4 c 0 t (max p.length (Nl p c).length) (Nl p c) [] p (by omega) (by simp) (by omega) λk=>by
  rw [Mc];have hd:c∣p.getD k 0:=by
   rw [Qg];cases e:p[k]? with
   | none=>exact Int.dvd_zero _
   | some z=>exact h z (Qc e)
  rw [Ks hd]; simp
 rw [this]; simp only [Ug]; push_cast; grind
theorem Al {c:Int} (h:c≠0):(c:Rat)≠0:=λe=>h (by exact_mod_cast e)
theorem Ck {p q:List Int} {c:Rat} (tp:Uf p) (tq:Uf q) (hc:c≠0) (h:∀ t,Ug p t=c*Ug q t):p.length=q.length:=by
 have key:∀ {p q:List Int} {c:Rat},Uf p->Uf q->c≠0->(∀ t,Ug p t=c*Ug q t)->p.length<=q.length:=λ{p q c} tp tq hc h=>by
  rcases Q6 q.length p.length with e | e
  ·have h1:=Gi tp (by omega);have:=Mt (p:=cz p) (q:=Pq c (cz q)) (λt=>by rw [Ue,Uw,Ue,h]) (p.length-1);rw [Tn,Hz,Tn,Qg (l:=q),Qr (by omega)] at this;have:((p.getD (p.length-1) 0:Int):Rat)=0:=by rw [this]; simp
   exact absurd (by exact_mod_cast this) h1
  ·exact e
 refine V5 (key tp tq hc h) (key (c:=1 / c) tq tp (λe=>?_) λt=>?_)
 ·have:=Zi (a:=1) hc; rw [e] at this; grind
 ·rw [h]; have:=Zi (a:=1) hc; grind
theorem Ru {p:List Int} (tp:Uf p) (h:p.length≠0):Uf (Uh p)/\(Uh p).length=p.length/\Prm (Uh p)/\0<Un (Uh p)/\(∀ s,Bd s p->Bd s (Uh p))/\Fo p≠0/\∀ t,Ug p t=(Fo p:Rat)*Ug (Uh p) t:=by
 have h0:=Qyx tp h;have e:Uh p=Nl p (Fo p):=by unfold Uh; rw [if_neg h]
 have h1:=Qlt (p:=p) (c:=Fo p) Qcu;have hl:=Ck tp (Az p (Fo p)) (Al h0) h1;have hcp:0<H7 p:=by
  have:=Em tp h;unfold H7 at this ⊢; omega
 rw [e];refine ⟨Az _ _,hl.symm,λd hd=>?_,?_,λs hs=>Qhc hs _,h0,h1⟩
 ·have h2:∀ z∈p,d*Fo p∣z:=λz hz=>by
   obtain ⟨i,hi⟩:=Ze.1 hz;have h3:=hd i;rw [Mc,Qg,hi] at h3;obtain ⟨k,hk⟩:=h3;have h4:=Qcu z hz;refine ⟨k,?_⟩;have:z / Fo p*Fo p=z:=Ky h4;rw [<-this];rw [show z / Fo p=d*k from hk,Int.mul_right_comm]
  have h3:=Q41 h2;have h4:Fo p∣((Gl p:Nat):Int)/\((Gl p:Nat):Int)∣Fo p:=by
   unfold Fo H7; split
   ·exact ⟨W6.2 (Wn _),Int.dvd_neg.2 (Wn _)⟩
   ·exact ⟨Wn _,Wn _⟩
  obtain ⟨k,hk⟩:=Vv h3 h4.2;refine ⟨k,?_⟩;have:Fo p*(d*k)=Fo p*1:=by rw [K8,<-Int.mul_assoc,Vj (Fo p) d,<-hk]
  exact (Int.eq_of_mul_eq_mul_left h0 this).symm
 ·have h2:Un (Nl p (Fo p))=Un p / Fo p:=by unfold Un; rw [<-hl,Mc]
  have h3:Fo p∣Un p:=Qcu _ (Qiv h);have h5:Un p / Fo p*Fo p=Un p:=Ky h3;rw [h2];have h6:=Bf tp h;rcases Jz (Un p / Fo p) 0 with e1 | e1 | e1
  ·exfalso;by_cases hn:Un p<0
   ·have:Fo p=-H7 p:=by unfold Fo; rw [if_pos hn]
    have:0<Un p / Fo p*Fo p:=V3 e1 (by omega);omega
   ·have:Fo p=H7 p:=by unfold Fo; rw [if_neg hn]
    have:Un p / Fo p*Fo p<0:=Int.mul_neg_of_neg_of_pos e1 (by omega);omega
  ·rw [e1] at h5; omega
  ·exact e1
theorem Qry {r:List Int} (tr:Uf r):∃ c:Rat,0<c/\∀ t,Ug r t=c*Ug (Do r) t:=by
 unfold Do;by_cases h:r.length=0
 ·rw [if_pos h]; exact ⟨1,by decide,λt=>by rw [Bi h,Bi rfl]; grind⟩
 ·rw [if_neg h];have h1:0<H7 r:=by
   have:=Em tr h;unfold H7 at this ⊢; omega
  have h2:((0:Int):Rat)<(H7 r:Rat):=X6.2 h1;exact ⟨H7 r,by simpa using h2,Qlt Cx⟩
theorem En (x:Int) (t:Rat):∀ i,Ug (mono i x) t=(x:Rat)*t^i
 | 0=>by simp only [mono,Kz,J0,Ug,Xd]; grind
 |
  i+1=>by
  have ih:=En x t i;simp only [mono,J3,Xp,Ug] at *;rw [ih,Z0]; push_cast; grind
theorem Qn1 (x:Int) (b:List Int) (i k:Nat):(Fv (trim (mono i x)) b).getD k 0=if i<=k then x*b.getD (k-i) 0 else 0:=by
 have e:∀ t,Ug (Fv (trim (mono i x)) b) t=Ug (List.replicate i 0++b.map (x * ·)) t:=λt=>by
  rw [Fc,Eo,En];have h2:∀ i,Ug (List.replicate i 0++b.map (x * ·)) t=t^i*((x:Rat)*Ug b t):=λi=>by
   induction i with
   |
    zero =>
    simp only [Kz,J0,Xd];have:=M4 x 0 t (max b.length (b.map (x * ·)).length) b [] (b.map (x * ·)) (by omega) (by simp) (by omega) λk=>by
     rw [Qg,Qg,Q5];cases b[k]? <;> simp
    rw [this]; simp only [Ug]; push_cast; grind
   | succ i ih=>simp only [J3,Xp,Ug,ih,Z0]; push_cast; grind
  rw [h2]; grind
 rw [M3 e k,Qg,List.getElem?_append,X9];by_cases h:i<=k
 ·rw [if_neg (by omega),if_pos h,Q5,Qg];cases b[k-i]? <;> simp
 ·rw [if_pos (by omega),if_neg h,Jy,if_pos (by omega)]; rfl
theorem Qns {p:List Int} {n:Nat} (tp:Uf p) (h:p.length<=n+1) (h0:p.getD n 0=0):p.length<=n:=by
 rcases Q6 n p.length with e | e
 ·have:=Gi tp (by omega);rw [show p.length-1=n by omega] at this;exact absurd h0 this
 ·exact e
theorem Zdn {b r:List Int} {i:Nat} (tr:Uf r) (h:r.length<=b.length+i) (hb:b.length≠0) {x:Int} (hx:x=if r.length=b.length+i then Un r else 0):(str b (Un b) i x r).length<b.length+i:=by
 have hl:=Qnu (c:=Un b) (x:=x) (i:=i) (b:=b) (r:=r);have:=Qns (p:=str b (Un b) i x r) (n:=b.length+i-1) (Ut _ _) (by omega) (by
  unfold str;rw [Nw,H8,Qn1,if_pos (by omega),hx,show b.length+i-1-i=b.length-1 by omega]
  split
  ·rename_i he;unfold Un;rw [he,Int.sub_eq_zero]
  ·rw [Qg (l:=r),Qr (by omega)]; simp)
 omega
theorem Q8o (b r:List Int) (c:Int) (i:Nat) (x:Int) (t:Rat):(c:Rat)*Ug r t=(x:Rat)*t^i*Ug b t+Ug (str b c i x r) t:=by
 unfold str;rw [Bt,Gz,Fc,Eo,En]; grind
theorem Q67 (b:List Int) (c:Int):∀ (i:Nat) (q r:List Int),∃ X:List Rat,∀ t,((c^i:Int):Rat)*Ug r t=ev X t*Ug b t+Ug (psd b c i (q,r)).2 t
 | 0,q,r=>⟨[],λt=>by simp only [psd,ev]; rw [Int.pow_zero]; push_cast; grind⟩
 |
  i+1,q,r=>by
  obtain ⟨x,hx⟩:=nmE (if r.length=b.length+i then Un r else 0);obtain ⟨X,hX⟩:=Q67 b c i (stq c i x q) (str b c i x r);obtain ⟨m,hm⟩:∃ m:List Rat,∀ t,ev m t=(x:Rat)*t^i:=⟨cz (mono i x),λt=>by rw [Ue,En]⟩;refine ⟨H3 (Pq ((c^i:Int):Rat) m) X,λt=>?_⟩;rw [Oi hx,U6,Uw,hm];have h1:=hX t;have h2:=Q8o b r c i x t;rw [Int.pow_succ]
  push_cast at h1 ⊢
  have:(c:Rat)^i*c*Ug r t=(c:Rat)^i*((c:Rat)*Ug r t):=by grind
  rw [this,h2]; grind
theorem Qog {b:List Int} (hb:b.length≠0):∀ (i:Nat) (q r:List Int),Uf r->r.length<b.length+i->Uf (psd b (Un b) i (q,r)).2/\(psd b (Un b) i (q,r)).2.length<b.length
 | 0,q,r,tr,h=>⟨tr,h⟩
 |
  i+1,q,r,tr,h=>by
  rw [Oi rfl];exact Qog hb i _ _ (Ut _ _) (Zdn tr (by omega) hb rfl)
theorem Q66 {b:List Int} {c:Int} {t:Nat} (hb:Bd t b) (hc:Ul c<=t):∀ (i u:Nat) (q r:List Int),i<=64->Bd u r->Bd (u+i*(t+8)) (psd b c i (q,r)).2
 | 0,u,q,r,_,h=>by simpa [psd] using h
 |
  i+1,u,q,r,hi,h=>by
  rw [Oi rfl];have hx:Ul (if r.length=b.length+i then Un r else 0)<=u:=by
   split
   ·exact Pw h
   ·rw [Px]; exact Qi _
  have:=Q66 hb hc i (u+t+8) (stq c i (if r.length=b.length+i then Un r else 0) q) (str b c i (if r.length=b.length+i then Un r else 0) r) (by omega) (Qta h hb hc hx (by omega));exact W9 this (by rw [Xc]; omega)
theorem Qja {c:Int} (h:c<0):∀ k:Nat,(k % 2=1->c^k<0)/\(k % 2=0->0<c^k)
 | 0=>⟨λh=>by omega,λ_=>by rw [Int.pow_zero]; decide⟩
 |
  k+1=>by
  obtain ⟨i1,i2⟩:=Qja h k;rw [Int.pow_succ];exact ⟨λhk=>V2 (i2 (by omega)) h,λhk=>V3 (i1 (by omega)) h⟩
theorem Qc1 {a b:List Int} (ta:Uf a) (tb:Uf b) (hb:b.length≠0) (hl:a.length<=60):Uf (Fy a b)/\(Fy a b).length<b.length/\(∀ s,Bd s a->Bd s b->Bd (s+(a.length+1-b.length)*(s+8)) (Fy a b)) /\
 ∃ u v:Rat,0<u/\0<v/\∃ X:List Rat,∀ t,u*Ug a t=ev X t*Ug b t+v*Ug (Fy a b) t:=by
 obtain ⟨k,hk⟩:=nmE (a.length+1-b.length);have h1:Uf (Se a b)/\(Se a b).length<b.length:=Qog hb _ _ _ ta (by omega);obtain ⟨X,hX⟩:=Q67 b (Un b) k [] a;have hX:∀ t,(((Un b)^k:Int):Rat)*Ug a t=ev X t*Ug b t+Ug (Se a b) t:=by unfold Se; rw [<-hk]; exact hX
 have h2:=Qcx (a:=a) (b:=b) (r:=Se a b) (n:=(Se a b).length) (s:=(Se a b).foldl (λm z=>m+Ul z) 0) h1.1 (Qj _) (λz hz=>by
  have key:∀ (l:List Int) (m:Nat),m≤l.foldl (λm z=>m+Ul z) m/\∀ z∈l,Ul z≤l.foldl (λm z=>m+Ul z) m:=by
   intro l
   induction l with
   | nil=>exact λm=>⟨Qj _,λz hz=>by cases hz⟩
   |
    cons y l ih =>
    intro m;obtain ⟨i1,i2⟩:=ih (m+Ul y);refine ⟨by simp only [Xk]; omega,λz hz=>?_⟩;simp only [Xk];rcases Qx.1 hz with rfl | hz
    ·omega
    ·exact i2 z hz
  exact (key _ 0).2 z hz)
 have h3:=Qi9 (r:=Pm a b (Se a b)) (n:=(Se a b).length) h2.2.1 h2.2.2;refine ⟨h3.1,by unfold Fy; omega,λs ha hbs=>?_,?_⟩
 ·have h4:=Q66 (c:=Un b) hbs (Pw hbs) k s [] a (by omega) ha;have h5:=Qcx (a:=a) (b:=b) (n:=(Se a b).length) h1.1 (Nat.le_refl _) (show Bd (s+k*(s+8)) (Se a b) by unfold Se; rw [<-hk]; exact h4);rw [<-hk];exact (Qi9 h5.2.1 h5.2.2).2.2
 ·obtain ⟨v,vp,hv⟩:=Qry h2.1;have hc:=Bf tb hb;by_cases ht:k % 2=1/\Un b<0
  ·have e1:Pm a b (Se a b)=S5 (Se a b):=by unfold Pm; rw [<-hk,if_pos ht]
   have hneg:(Un b)^k<0:=(Qja ht.2 k).1 ht.1;have h5:(((Un b)^k:Int):Rat)<((0:Int):Rat):=X6.2 hneg;have h5:(((Un b)^k:Int):Rat)<0:=by simpa using h5
   refine ⟨-(((Un b)^k:Int):Rat),v,by grind,vp,Pq (-1) X,λt=>?_⟩;have h6:=hX t;have h7:=hv t;rw [e1,Qct] at h7;show _=_+v*Ug (Do (Pm a b (Se a b))) t;rw [e1,<-h7,Uw]; grind
  ·have e1:Pm a b (Se a b)=Se a b:=by unfold Pm; rw [<-hk,if_neg ht]
   have hpos:0<(Un b)^k:=by
    rcases V7 hc with h | h
    ·exact (Qja h k).2 (by omega)
    ·exact Int.pow_pos h
   have h5:((0:Int):Rat)<(((Un b)^k:Int):Rat):=X6.2 hpos;refine ⟨(((Un b)^k:Int):Rat),v,by simpa using h5,vp,X,λt=>?_⟩;have h7:=hv t;show _=_+v*Ug (Do (Pm a b (Se a b))) t;rw [<-h7,e1,hX]
theorem Da {p:List Int} (h1:p.length<=64) (h2:Bd 16777216 p):chk p=some p:=by
 unfold chk;rw [if_pos ⟨h1,Yl.2 λz hz=>Nat.ble_eq_true_of_le (h2 z hz)⟩]
theorem Qkw {a b:List Int} {g:List Rat} {c:Rat} (hc:c≠0) (h:∀ t,Ug a t=c*Ug b t):A6 g (cz a)↔A6 g (cz b):=by
 constructor
 ·rintro ⟨u,hu⟩
  refine ⟨Pq (1 / c) u,λt=>?_⟩;have h1:=hu t;rw [Ue,h] at h1;rw [Ue,Uw];have h2:1 / c*c=1:=Zi hc;have:Ug b t=1 / c*(c*Ug b t):=by grind
  rw [this,h1]; grind
 ·rintro ⟨u,hu⟩
  refine ⟨Pq c u,λt=>?_⟩;have h1:=hu t;rw [Ue] at h1;rw [Ue,Uw,h,h1]; grind
structure Gc (g a b:List Int):Prop where
 t:Uf g
 da:A6 (cz g) (cz a)
 db:A6 (cz g) (cz b)
 c:∃ U V,∀ t,Ug g t=ev U t*Ug a t+ev V t*Ug b t
 n:g.length≠0
theorem Gc.scale {g a b g' a' b':List Int} {x y z:Rat} (h:Gc g a b) (hx:x≠0) (hy:y≠0) (hz:z≠0) (tg:Uf g') (eg:∀ t,Ug g t=x*Ug g' t) (ea:∀ t,Ug a' t=y*Ug a t) (eb:∀ t,Ug b' t=z*Ug b t):Gc g' a' b':=by
 have hx1:1 / x*x=1:=Zi hx;have hy1:1 / y*y=1:=Zi hy;have hz1:1 / z*z=1:=Zi hz;have hg:∀ c,A6 (cz g) c->A6 (cz g') c:=λc ⟨u,hu⟩=>⟨Pq x u,λt=>by rw [hu,Ue,Ue,eg,Uw]; grind⟩
 obtain ⟨U,V,hc⟩:=h.c;refine ⟨tg,hg _ ((Qkw hy ea).2 h.da),hg _ ((Qkw hz eb).2 h.db),⟨Pq (1 / x*(1 / y)) U,Pq (1 / x*(1 / z)) V,λt=>?_⟩,?_⟩
 ·have h1:=hc t;have h2:Ug g' t=1 / x*Ug g t:=by rw [eg]; grind
  rw [h2,h1,Uw,Uw,ea,eb];generalize ev U t=u at *;generalize ev V t=v at *;grind
 ·rw [<-Ck h.t tg hx eg]; exact h.n
theorem Zcm:∀ d:Nat,1<=d->d+2<=3^d
 | 0,h=>by omega
 | 1,_=>by decide
 | d+2,_=>by have:=Zcm (d+1) (by omega); rw [Zk]; omega
theorem Qsw {k:Nat} {a b:List Int} (ta:Uf a) (tb:Uf b) (hb:b.length≠0) (hl:a.length<=60) (hbl:b.length<=60) (hr:Bd 16777216 (Fy a b)) (ih:∃ g,Qe3 k b (Fy a b)=some g/\Gc g b (Fy a b)):∃ g,Qe3 (k+1) a b=some g/\Gc g a b:=by
 obtain ⟨h1,h2,h3,u,v,up,vp,X,hX⟩:=Qc1 ta tb hb hl;obtain ⟨g,e,hg⟩:=ih;refine ⟨g,?_,?_⟩
 ·simp only [Qe3];rw [if_neg hb,Da (by omega) hr]; exact e
 ·obtain ⟨U,V,hc⟩:=hg.c;obtain ⟨y,hy⟩:=hg.da;obtain ⟨z,hz⟩:=hg.db;have hu:1 / u*u=1:=Fb up;have hv:1 / v*v=1:=Fb vp;refine ⟨hg.t,⟨Pq (1 / u) (H3 (Fl X y) (Pq v z)),λt=>?_⟩,hg.da,⟨Pq (u / v) V,H3 U (Pq (-1 / v) (Fl V X)),λt=>?_⟩,hg.n⟩
  ·have a1:=hX t; have a2:=hy t; have a3:=hz t;rw [Ue,Ue] at a2 a3;rw [Ue,Ue,Uw,U6,Ui,Uw];have:Ug a t=1 / u*(u*Ug a t):=by grind
   rw [this,a1,a2,a3]; grind
  ·have a1:=hX t; have a2:=hc t;rw [Uw,U6,Uw,Ui,a2];have:Ug (Fy a b) t=1 / v*(v*Ug (Fy a b) t):=by grind
   rw [this,show v*Ug (Fy a b) t=u*Ug a t-ev X t*Ug b t by grind,Ju,Ju,Ju];grind
theorem Qzl {k:Nat} {a:List Int} (ta:Uf a) (ha:a.length≠0):∃ g,Qe3 (k+1) a []=some g/\Gc g a [] :=
 ⟨a,rfl,ta,dvd_refl _,⟨[],λt=>by simp only [cz,Jg,ev]; grind⟩,⟨[1],[],λt=>by rw [Hu]; simp only [ev]; grind⟩,ha⟩
theorem Qe4 {s:Nat}:∀ (k:Nat) (a b:List Int),Uf a->Uf b->b.length<k->b.length<a.length->a.length<=60->Bd s a->Bd s b->(s+8)*3^(a.length-1)<=16777216->∃ g,Qe3 k a b=some g/\Gc g a b
 | 0,_,_,_,_,h,_,_,_,_,_=>by omega
 |
  k+1,a,b,ta,tb,hk,hab,hl,ba,bb,hs=>by
  by_cases hb:b.length=0
  ·rw [Qh hb]; exact Qzl ta (by omega)
  ·obtain ⟨h1,h2,h3,_⟩:=Qc1 ta tb hb hl;have h3:=h3 s ba bb;obtain ⟨m,hm⟩:=nmE (a.length-b.length);have e1:a.length+1-b.length=m+1:=by omega
   rw [e1] at h3;have e2:s+(m+1)*(s+8)+8=(m+2)*(s+8):=by
    rw [show m+2=(m+1)+1 by omega,Xc (m+1)]; omega
   have e3:(m+2)*(s+8)*3^(b.length-1)<=(s+8)*3^(a.length-1):=by
    rw [show a.length-1=m+(b.length-1) by omega,Xe,<-Xo,Zf (s+8)];exact Qw _ (Qw _ (Zcm m (by omega)))
   have e4:s+(m+1)*(s+8)<=16777216:=by
    have:(m+2)*(s+8)<=(m+2)*(s+8)*3^(b.length-1):=Jm _ (Zu (by decide));omega
   refine Qsw ta tb hb hl (by omega) (W9 h3 e4) (Qe4 (s:=s+(m+1)*(s+8)) k b (Fy a b) tb h1 (by omega) h2 (by omega) (W9 bb (by omega)) h3 ?_);rw [e2]; omega
def Szz (n s:Nat):Prop:=n<=10/\2*(s+8)*3^(n-1)<=16777216
theorem Q82 {n s:Nat} (hz:Szz n s) {a b:List Int} (ta:Uf a) (tb:Uf b) (la:a.length<=n) (lb:b.length<=n) (ba:Bd s a) (bb:Bd s b) (h0:a.length≠0\/b.length≠0):∃ g,Qe3 66 a b=some g/\Gc g a b:=by
 obtain ⟨hn,hz⟩:=hz;have hp:∀ l,l<=n->(s+8)*3^(l-1)<=8388608:=λl hl=>by
  have:(s+8)*3^(l-1)<=(s+8)*3^(n-1):=Zh _ (Zo (by decide) (by omega));rw [Xo] at hz; omega
 rcases Q6 b.length a.length with h | h
 ·exact Qe4 66 a b ta tb (by omega) h (by omega) ba bb (by have:=hp a.length la; omega)
 ·by_cases hb:b.length=0
  ·rw [Qh hb]; exact Qzl ta (by omega)
  ·obtain ⟨h1,h2,h3,_⟩:=Qc1 ta tb hb (by omega);have h3:=h3 s ba bb;have h4:(a.length+1-b.length)*(s+8)<=1*(s+8):=Qw _ (by omega);have h5:=hp b.length lb;have h6:(s+8)*1<=(s+8)*3^(b.length-1):=Zh _ (Zu (by decide));refine Qsw ta tb hb (by omega) (by omega) (W9 h3 (by omega)) (Qe4 (s:=2*s+8) 65 b (Fy a b) tb h1 (by omega) h2 (by omega) (W9 bb (by omega)) (W9 h3 (by omega)) ?_);rw [show 2*s+8+8=2*(s+8) by omega,Xo]; omega
theorem Ql0:Uh []=[]:=rfl
theorem Es {a:List Int} (ta:Uf a):Uf (Uh a)/\(Uh a).length=a.length/\(∀ s,Bd s a->Bd s (Uh a))/\∃ c:Rat,c≠0/\∀ t,Ug a t=c*Ug (Uh a) t:=by
 by_cases h:a.length=0
 ·rw [Qh h];exact ⟨rfl,rfl,λs _=>Im,1,by decide,λt=>by rw [Ql0]; grind⟩
 ·obtain ⟨h1,h2,h3,h4,h5,h6,h7⟩:=Ru ta h;exact ⟨h1,h2,h5,_,Al h6,h7⟩
theorem Qbs {n s:Nat} (hz:Szz n s) {a b:List Int} (ta:Uf a) (tb:Uf b) (la:a.length<=n) (lb:b.length<=n) (ba:Bd s a) (bb:Bd s b) (h0:a.length≠0\/b.length≠0):∃ g,Oj a b=some g/\Gc g a b/\Prm g/\0<Un g:=by
 obtain ⟨a1,a2,a3,x,xn,ax⟩:=Es ta;obtain ⟨b1,b2,b3,y,yn,bx⟩:=Es tb;obtain ⟨g,e,hg⟩:=Q82 hz a1 b1 (by omega) (by omega) (a3 s ba) (b3 s bb) (by omega);obtain ⟨g1,g2,g3,g4,g5,g6,g7⟩:=Ru hg.t hg.n;refine ⟨Uh g,?_,hg.scale (Al g6) xn yn g1 g7 ax bx,g3,g4⟩;unfold Oj; rw [e]; rfl
theorem Q1z {a:List Int} (ta:Uf a):Oj [] a=some (Uh (Uh a)):=by
 unfold Oj;rw [Ql0];by_cases h:(Uh a).length=0
 ·have e:Uh a=[]:=Qh h;rw [e]; rfl
 ·have e:Fy [] (Uh a)=[]:=by
   have e1:Se [] (Uh a)=[]:=by unfold Se; rw [show ([]:List Int).length+1-(Uh a).length=0 by simp; omega]; rfl
   unfold Fy;rw [e1];unfold Pm
   split <;> rfl
  have:Qe3 66 [] (Uh a)=some (Uh a):=by
   show (if (Uh a).length=0 then _ else _)=_;rw [if_neg h,e]; rfl
  rw [this]; rfl
theorem Q5q {n s:Nat} (hz:Szz n s) {a b:List Int} (ta:Uf a) (tb:Uf b) (la:a.length<=n) (lb:b.length<=n) (ba:Bd s a) (bb:Bd s b) (h0:a.length≠0):∃ g,Qod a b=some g/\Gc g a b/\Prm g/\0<Un g:=by
 obtain ⟨a1,a2,a3,x,xn,ax⟩:=Es ta;obtain ⟨b1,b2,b3,y,yn,bx⟩:=Es a1;obtain ⟨g,e,hg,h1,h2⟩:=Qbs hz b1 tb (by omega) lb (b3 s (a3 s ba)) bb (by omega);refine ⟨g,?_,hg.scale (x:=1) (y:=x*y) (z:=1) (by decide) (λh=>(Jq.1 h).elim xn yn) (by decide) hg.t (λt=>by grind) (λt=>by rw [ax,bx]; grind) (λt=>by grind),h1,h2⟩;unfold Qod;rw [Q1z ta]; exact e
theorem Qzk:∀ {p q:List Rat} {m n:Nat},HD p m->HD q n->(Fl p q).getD (m+n) 0=p.getD m 0*q.getD n 0
 | [],q,m,n,h,_=>absurd (by simp) h.1
 |
  a::p,q,0,n,h,h'=>by
  have h1:∀ k,p.getD k 0=0:=λk=>by have:=h.2 (k+1) (by omega); rwa [Q3] at this
  simp only [Fl];rw [G5,Hz,Zp,Zz];cases n with
  | zero=>rw [Zp]; grind
  | succ n=>rw [Q3,Qfm h1]; grind
 |
  a::p,q,m+1,n,h,h'=>by
  have ih:=Qzk (p:=p) (q:=q) (m:=m) ⟨by have:=h.1; rwa [Q3] at this,λk hk=>by have:=h.2 (k+1) (by omega); rwa [Q3] at this⟩ h';simp only [Fl];rw [G5,Hz,show m+1+n=(m+n)+1 by omega,Q3,h'.2 _ (by omega),ih,Q3]; grind
theorem Qq7 {a b c:List Int} (ta:Uf a) (tb:Uf b) (tc:Uf c) (h:∀ t,Ug c t=Ug a t*Ug b t) (la:0<a.length) (lb:0<b.length):Un c=Un a*Un b:=by
 have h1:=Qaw ta la;have h2:=Qaw tb lb;have h3:=Qzk h1 h2;have hl:=Sk ta tb tc h la lb;rw [<-Mt (p:=cz c) (λt=>by rw [Ui,Ue,Ue,Ue,h]),Tn,Tn,Tn,show a.length-1+(b.length-1)=c.length-1 by omega] at h3;unfold Un; exact_mod_cast h3
theorem Hd {a b c:List Int} (tc:Uf c) (hc:c.length≠0) (h:∀ t,Ug c t=Ug a t*Ug b t):0<a.length/\0<b.length:=by
 constructor
 ·rcases Qy a.length with e | e
  ·exact absurd (λt=>by rw [h,Bi e]; grind) (Qff tc (by omega))
  ·exact e
 ·rcases Qy b.length with e | e
  ·exact absurd (λt=>by rw [h,Bi e]; grind) (Qff tc (by omega))
  ·exact e
theorem Qoc {b:List Int} (tb:Uf b) (hb:b.length≠0):∀ (i:Nat) (a q h:List Int),Uf a->Uf h->(∀ t,Ug a t=Ug b t*Ug h t)->a.length<b.length+i->i<=q.length->(∀ j,j<i->q.getD j 0=0)->∃ q',Qob b i a q=some q'/\q'.length=q.length/\∀ t,Ug q' t=Ug q t+Ug h t
 |
  0,a,q,h,ta,th,e,hl,_,_=>by
  have ha:a.length=0:=by
   rcases Qy a.length with e' | e'
   ·exact e'
   ·obtain ⟨p1,p2⟩:=Hd ta (by omega) e;have:=Sk tb th ta e p1 p2; omega
  refine ⟨q,by simp only [Qob]; rw [if_pos ha],rfl,λt=>?_⟩;have:∀ t,Ug h t=0:=λt=>by
   have:=Qtz (p:=cz b) (q:=cz h) (r:=[]) (λh0=>Qff tb (by omega) λt=>by rw [<-Ue]; exact h0 t) (λt=>by rw [Ue,Ue,<-e,Bi ha]; simp only [ev]; grind) t;rwa [Ue] at this
  rw [this]; grind
 |
  i+1,a,q,h,ta,th,e,hl,hq,h0=>by
  simp only [Qob];by_cases hlt:a.length<b.length+i
  ·rw [if_pos hlt];exact Qoc tb hb i a q h ta th e hlt (by omega) λj hj=>h0 j (by omega)
  ·rw [if_neg hlt];obtain ⟨p1,p2⟩:=Hd ta (by omega) e;have hln:=Sk tb th ta e p1 p2;have hld:=Qq7 tb th ta e p1 p2;have hlb:=Bf tb hb;rw [hld,if_pos (Int.mul_emod_right _ _),Xw _ hlb];have hli:h.length=i+1:=by omega
   have e2:∀ t,Ug (Tp a (Fv (trim (mono i (Un h))) b)) t=Ug b t*Ug (Tp h (mono i (Un h))) t:=λt=>by
    rw [Bt,Bt,Fc,Eo,e]; grind
   have hl2:(Tp a (Fv (trim (mono i (Un h))) b)).length<b.length+i:=by
    have hl:=Qye (i:=i) (x:=Un h) (b:=b) (a:=a);unfold sta at hl;have:=Qns (p:=Tp a (Fv (trim (mono i (Un h))) b)) (n:=b.length+i-1) (Ut _ _) (by omega) (by
     rw [Nw,Qn1,if_pos (by omega),show b.length+i-1-i=b.length-1 by omega,show b.length+i-1=a.length-1 by omega];have:Un a=a.getD (a.length-1) 0:=rfl;rw [<-this,hld];unfold Un;rw [Vj,Int.sub_eq_zero])
    omega
   obtain ⟨q',h1,h2,h3⟩:=Qoc tb hb i _ (q.set i (Un h)) (Tp h (mono i (Un h))) (Ut _ _) (Ut _ _) e2 hl2 (by simp; omega) λj hj=>by
    rw [Qg,Yf,if_neg (by omega),<-Qg];exact h0 j (by omega)
   refine ⟨q',h1,by rw [h2,Ja],λt=>?_⟩;rw [h3,Qoa q i _ t (by omega),h0 i (by omega),Bt,En]
   push_cast; grind
theorem Q7k {a b h:List Int} {s:Nat} (ta:Uf a) (tb:Uf b) (th:Uf h) (ha:a.length≠0) (la:a.length<=10) (ba:Bd s a) (hs:s+69<=16777216) (e:∀ t,Ug a t=Ug b t*Ug h t):Og a b=some h:=by
 obtain ⟨p1,p2⟩:=Hd ta ha e;have hln:=Sk tb th ta e p1 p2;obtain ⟨q,h1,h2,h3⟩:=Qoc tb (by omega) (a.length+1-b.length) a (List.replicate (a.length+1-b.length) 0) h ta th e (by omega) (by simp) λj _=>Hm _ _
 have h4:trim q=h:=Qyw (Gu _) th λt=>by rw [Eo,h3,Qlu]; grind
 unfold Og;rw [if_neg (by omega),h1];show chk (trim q)=_;rw [h4];exact Da (by omega) (W9 (Ah ba la ta th tb ha λt=>by rw [e]; grind) (by omega))
end Orq
