/- T1 T2 T3 T4 T5 T6 T7 T8 T9 T10 T11 T12 T13 T14 T15 T16 T17 T18 -/
import Derived.Test.YtpnhifedfcgjbaaGreatPart00
import Derived.Test.YtpnhifedfcgjbaaGreatPart05
set_option linter.all false
namespace Orq
def Up (x:Rat):Rat:=if x<0 then -x else x
theorem Gm (x:Rat):0<=Up x:=by unfold Up; split <;> grind
theorem Tc {x b:Rat}:Up x<=b↔-b<=x/\x<=b:=by unfold Up; split <;> constructor <;> grind
theorem Qp4 {x b:Rat}:Up x<b↔-b<x/\x<b:=by unfold Up; split <;> constructor <;> grind
theorem Rt (x y:Rat):Up (x+y)<=Up x+Up y:=by unfold Up; split <;> split <;> split <;> grind
theorem Q07 (x y:Rat):Up (x-y)=Up (y-x):=by unfold Up; split <;> split <;> grind
theorem Cw (x:Rat):Up (-x)=Up x:=by unfold Up; split <;> split <;> grind
theorem G8:Up 0=0:=by decide
theorem M9 {x:Rat} (h:x≠0):0<Up x:=by unfold Up; split <;> grind
theorem Zex {x:Rat} (h:Up x=0):x=0:=by unfold Up at h; split at h <;> grind
theorem Pm {x y:Rat} (h1:0<=x) (h2:0<=y):0<=x*y:=Rat.mul_nonneg h1 h2
theorem Eb {x y:Rat} (h1:0<x) (h2:0<y):0<x*y:=Ue h1 h2
theorem Su {a b c d:Rat} (h0:0<=a) (h1:a<=b) (h2:0<=c) (h3:c<=d):a*c<=b*d:=by
 have e1:=Q4 h1 h2;have e2:=Zn h3 (Q9 h0 h1);exact Q9 e1 e2
theorem Cv (x y:Rat):Up (x*y)=Up x*Up y:=by
 unfold Up;by_cases h1:x<0 <;> by_cases h2:y<0
 ·have:=Eb (x:=-x) (y:=-y) (by grind) (by grind); simp only [h1,h2,if_true]; split <;> grind
 ·have:=Pm (x:=-x) (y:=y) (by grind) (by grind); simp only [h1,h2,if_true,if_false]; split <;> grind
 ·have:=Pm (x:=x) (y:=-y) (by grind) (by grind); simp only [h1,h2,if_true,if_false]; split <;> grind
 ·have:=Pm (x:=x) (y:=y) (by grind) (by grind); simp only [h1,h2,if_false]; split <;> grind
theorem Fy {x y a b:Rat} (h1:Up x<=a) (h2:Up y<=b):Up (x*y)<=a*b:=by
 rw [Cv]; exact Su (Gm x) h1 (Gm y) h2
theorem Dq {x y:Rat} (h1:0<x) (h2:0<y):0<x / y:=by rw [J8]; exact Eb h1 (Rat.inv_pos.2 h2)
theorem Fj {x y:Rat} (h2:0<y):x / y*y=x:=Zg (by grind)
theorem Gb {b d:Rat} (hb:0<=b) (hd:0<d):∃ e:Rat,0<e/\e<=1/\e*b<d:=by
 have h1:0<d / (b+1):=Dq hd (by grind);have h2:d / (b+1)*(b+1)=d:=Fj (by grind);rcases Vu (a:=d / (b+1)) (b:=1) with h | h
 ·exact ⟨d / (b+1),h1,h,by
   have:d / (b+1)*(b+1)=d / (b+1)*b+d / (b+1):=by grind
   grind⟩
 ·refine ⟨1,by decide,by decide,?_⟩;have:1*(b+1)<=d / (b+1)*(b+1):=Q4 h (by grind);grind
def ev:List Rat->Rat->Rat
 | [],_=>0
 | a::p,t=>a+t*ev p t
def dv:List Rat->Rat->Rat
 | [],_=>0
 | _::p,t=>ev p t+t*dv p t
def dq:List Rat->Rat->Rat->Rat
 | [],_,_=>0
 | _::p,x,y=>ev p x+y*dq p x y
def dd:List Rat->Rat->Rat->Rat
 | [],_,_=>0
 | _::p,x,y=>dq p x y+y*dd p x y
theorem Qlx (x y:Rat):∀ p,ev p x-ev p y=(x-y)*dq p x y
 | []=>by simp only [ev,dq]; grind
 | a::p=>by have:=Qlx x y p; simp only [ev,dq]; grind
theorem Qop (y:Rat):∀ p,dq p y y=dv p y
 | []=>rfl
 | a::p=>by simp only [dq,dv,Qop y p]
theorem Zgm (x y:Rat):∀ p,dq p x y-dv p y=(x-y)*dd p x y
 | []=>by simp only [dv,dq,dd]; grind
 |
  a::p=>by
  have h1:=Zgm x y p;have h2:=Qlx x y p;simp only [dv,dq,dd]; grind
theorem Zgp (p:List Rat) (x y:Rat):ev p x-ev p y=(x-y)*dv p y+(x-y)*(x-y)*dd p x y:=by
 have h1:=Qlx x y p;have h2:=Zgm x y p;grind
def evB (R:Rat):List Rat->Rat
 | []=>0
 | a::p=>Up a+R*evB R p
def dqB (R:Rat):List Rat->Rat
 | []=>0
 | _::p=>evB R p+R*dqB R p
def ddB (R:Rat):List Rat->Rat
 | []=>0
 | _::p=>dqB R p+R*ddB R p
theorem A0 {R:Rat} (hR:0<=R):∀ p,0<=evB R p
 | []=>by simp only [evB]; grind
 | a::p=>by have:=Pm hR (A0 hR p); have:=Gm a; simp only [evB]; grind
theorem Sl {R:Rat} (hR:0<=R):∀ p,0<=dqB R p
 | []=>by simp only [dqB]; grind
 | a::p=>by have:=Pm hR (Sl hR p); have:=A0 hR p; simp only [dqB]; grind
theorem Qir {R:Rat} (hR:0<=R):∀ p,0<=ddB R p
 | []=>by simp only [ddB]; grind
 | a::p=>by have:=Pm hR (Qir hR p); have:=Sl hR p; simp only [ddB]; grind
theorem Qga {R x:Rat} (hx:Up x<=R):∀ p,Up (ev p x)<=evB R p
 | []=>by simp only [ev,evB,G8]; grind
 |
  a::p=>by
  have h1:=Rt a (x*ev p x);have h2:=Fy hx (Qga hx p);simp only [ev,evB]; grind
theorem Qr0 {R x y:Rat} (hx:Up x<=R) (hy:Up y<=R):∀ p,Up (dq p x y)<=dqB R p
 | []=>by simp only [dq,dqB,G8]; grind
 |
  a::p=>by
  have h1:=Rt (ev p x) (y*dq p x y);have h2:=Fy hy (Qr0 hx hy p);have h3:=Qga hx p;simp only [dq,dqB]; grind
theorem Q6p {R x y:Rat} (hx:Up x<=R) (hy:Up y<=R):∀ p,Up (dd p x y)<=ddB R p
 | []=>by simp only [dd,ddB,G8]; grind
 |
  a::p=>by
  have h1:=Rt (dq p x y) (y*dd p x y);have h2:=Fy hy (Q6p hx hy p);have h3:=Qr0 hx hy p;simp only [dd,ddB]; grind
theorem Q63 {R x y:Rat} (hx:Up x<=R) (hy:Up y<=R) (p:List Rat):Up (ev p x-ev p y)<=Up (x-y)*dqB R p:=by
 rw [Qlx,Cv]; exact Su (Gm _) Qq (Gm _) (Qr0 hx hy p)
def Ru:List Rat->List Rat->List Rat
 | [],q=>q
 | a::p,[]=>a::p
 | a::p,b::q=>(a+b)::Ru p q
def Bj (c:Rat) (p:List Rat):List Rat:=p.map (c * ·)
def Fu:List Rat->List Rat->List Rat
 | [],_=>[]
 | a::p,q=>Ru (Bj a q) (0::Fu p q)
def Mf:List Rat->List Rat
 | []=>[]
 | _::p=>Ru p (0::Mf p)
theorem Fo (t:Rat):∀ p q,ev (Ru p q) t=ev p t+ev q t
 | [],q=>by simp only [Ru,ev]; grind
 | a::p,[]=>by simp only [Ru,ev]; grind
 | a::p,b::q=>by have:=Fo t p q; simp only [Ru,ev]; grind
theorem Fb (c t:Rat):∀ p,ev (Bj c p) t=c*ev p t
 | []=>by simp only [Bj,Jb,ev]; grind
 | a::p=>by have:=Fb c t p; simp only [Bj,Zt,ev] at *; grind
theorem Uo (t:Rat):∀ p q,ev (Fu p q) t=ev p t*ev q t
 | [],q=>by simp only [Fu,ev]; grind
 | a::p,q=>by have:=Uo t p q; simp only [Fu,Fo,Fb,ev]; grind
theorem Hy (t:Rat):∀ p,ev (Mf p) t=dv p t
 | []=>rfl
 | a::p=>by have:=Hy t p; simp only [Mf,Fo,ev,dv]; grind
theorem Qor (t:Rat):∀ p q,dv (Ru p q) t=dv p t+dv q t
 | [],q=>by simp only [Ru,dv]; grind
 | a::p,[]=>by simp only [Ru,dv]; grind
 | a::p,b::q=>by have:=Qor t p q; have:=Fo t p q; simp only [Ru,dv]; grind
theorem Qe3 (c t:Rat):∀ p,dv (Bj c p) t=c*dv p t
 | []=>by simp only [Bj,Jb,dv]; grind
 | a::p=>by have:=Qe3 c t p; have:=Fb c t p; simp only [Bj,Zt,dv] at *; grind
theorem Qos (t:Rat):∀ p q,dv (Fu p q) t=dv p t*ev q t+ev p t*dv q t
 | [],q=>by simp only [Fu,dv,ev]; grind
 | a::p,q=>by have:=Qos t p q; have:=Uo t p q; simp only [Fu,Qor,Qe3,dv,ev]; grind
theorem Qzs:∀ {p:List Rat},(∀ x∈p,x=0)->∀ t,ev p t=0
 | [],_,t=>rfl
 |
  a::p,h,t=>by
  have h1:=Qzs (p:=p) (λx hx=>h x (Qh _ hx)) t;have h2:=h a (Qt ..);simp only [ev,h1,h2]; grind
theorem Qzm:∀ {p:List Rat},(∀ x∈p,x=0)->∀ t,dv p t=0
 | [],_,t=>rfl
 |
  a::p,h,t=>by
  have h0:=λx hx=>h x (Qh _ hx)
  have h1:=Qzs (p:=p) h0 t;have h2:=Qzm (p:=p) h0 t;simp only [dv,h1,h2]; grind
theorem Qcm:∀ {p:List Rat},(∀ t,0<t->t<1->ev p t=0)->∀ x∈p,x=0
 | [],_=>λx hx=>by cases hx
 |
  a::p,h=>by
  have ha:a=0:=by
   rcases Classical.em (a=0) with h0 | h0
   ·exact h0
   ·obtain ⟨e,e1,e2,e3⟩:=Gb (A0 (R:=1) (by decide) p) (M9 h0);obtain ⟨f,f1,f2,f3⟩:=Gb (b:=1) (d:=e) (by decide) e1;have h1:=h f f1 (by grind);have h2:=Qga (R:=1) (x:=f) (by unfold Up; split <;> grind) p;have h3:=Cv f (ev p f);have h4:Up f=f:=by unfold Up; split <;> grind
    have h5:a=-(f*ev p f):=by simp only [ev] at h1; grind
    have h6:Up a=f*Up (ev p f):=by rw [h5,Cw,h3,h4]
    have h7:f*Up (ev p f)<=e*evB 1 p:=Su (Qp f1) (by grind) (Gm _) h2;grind
  intro x hx;rcases Qo.1 hx with rfl | hx
  ·exact ha
  ·refine Qcm (p:=p) (λt h1 h2=>?_) x hx;have:=h t h1 h2;simp only [ev,ha] at this;have h3:t*ev p t=0:=by grind
   rcases Jc.1 h3 with h4 | h4
   ·grind
   ·exact h4
theorem Q6x {p q:List Rat} (h:∀ t,ev p t=ev q t) (t:Rat):dv p t=dv q t:=by
 have h1:=Qzm (p:=Ru p (Bj (-1) q)) (Qcm λt _ _=>by rw [Fo,Fb,h t]; grind) t;rw [Qor,Qe3] at h1; grind
def Us (x:Rat):Int:=if x<0 then -1 else if 0<x then 1 else 0
theorem Ff {x:Rat}:Us x=0↔x=0:=by
 unfold Us; constructor
 ·intro h; split at h <;> (try split at h) <;> grind
 ·intro h; subst h; rfl
theorem G9 {x:Rat}:Us x=1↔0<x:=by
 unfold Us; constructor
 ·intro h; split at h <;> (try split at h) <;> grind
 ·intro h; rw [if_neg (by grind),if_pos h]
theorem Td {x:Rat}:Us x=-1↔x<0:=by
 unfold Us; constructor
 ·intro h; split at h <;> (try split at h) <;> grind
 ·intro h; rw [if_pos h]
theorem Fz (x:Rat):Us x=-1/\x<0\/Us x=0/\x=0\/Us x=1/\0<x:=by
 rcases Vu (a:=x) (b:=0) with h | h
 ·rcases Classical.em (x=0) with h0 | h0
  ·exact .inr (.inl ⟨Ff.2 h0,h0⟩)
  ·exact .inl ⟨Td.2 (by grind),by grind⟩
 ·rcases Classical.em (x=0) with h0 | h0
  ·exact .inr (.inl ⟨Ff.2 h0,h0⟩)
  ·exact .inr (.inr ⟨G9.2 (by grind),by grind⟩)
theorem Rv (x y:Rat):Us (x*y)=Us x*Us y:=by
 rcases Fz x with ⟨e1,h1⟩ | ⟨e1,h1⟩ | ⟨e1,h1⟩ <;> rcases Fz y with ⟨e2,h2⟩ | ⟨e2,h2⟩ | ⟨e2,h2⟩ <;> rw [e1,e2]
 ·have:=Eb (x:=-x) (y:=-y) (by grind) (by grind); exact G9.2 (by grind)
 ·subst h2; exact Ff.2 (by grind)
 ·have:=Eb (x:=-x) (y:=y) (by grind) (by grind); exact Td.2 (by grind)
 ·subst h1; exact Ff.2 (by grind)
 ·subst h1; exact Ff.2 (by grind)
 ·subst h1; exact Ff.2 (by grind)
 ·have:=Eb (x:=x) (y:=-y) (by grind) (by grind); exact Td.2 (by grind)
 ·subst h2; exact Ff.2 (by grind)
 ·exact G9.2 (Eb h1 h2)
theorem Tt {a b d:Rat} (h1:d<=Up a) (h2:Up (b-a)<d):Us b=Us a/\Us a≠0:=by
 rw [Qp4] at h2;rcases Fz a with ⟨e,h⟩ | ⟨e,h⟩ | ⟨e,h⟩
 ·rw [e,Td]; unfold Up at h1; rw [if_pos h] at h1; exact ⟨by grind,by decide⟩
 ·subst h; rw [G8] at h1; grind
 ·rw [e,G9]; unfold Up at h1; rw [if_neg (by grind)] at h1; exact ⟨by grind,by decide⟩
def tc (x:Rat):Int->List (List Rat)->Nat
 | _,[]=>0
 | s,p::l=>if Us (ev p x)=0 then tc x s l else (if s=-(Us (ev p x)) then 1 else 0)+tc x (Us (ev p x)) l
inductive SCl:List Rat->List Rat->List (List Rat)->Prop
 | base {f g:List Rat} {c:Rat} (hc:c≠0) (hg:∀ t,ev g t=c):SCl f g []
 | step {f g h:List Rat} {l:List (List Rat)} {a b:Rat} {q:List Rat} (ha:0<a) (hb:0<b) (he:∀ t,a*ev f t=ev q t*ev g t-b*ev h t) (hl:SCl g h l):SCl f g (h::l)
theorem Zau {x:Rat} {s:Int} {g h:List Rat} {l:List (List Rat)} (hh:Us (ev h x)=-s) (hs:s≠0):tc x s (g::h::l)=1+tc x (-s) l:=by
 have h3:Us (ev h x)≠0:=by omega
 have hv:s=1\/s=-1:=by rcases Fz (ev h x) with ⟨e,_⟩ | ⟨e,_⟩ | ⟨e,_⟩ <;> omega
 simp only [tc,if_neg h3,hh];rcases Fz (ev g x) with ⟨e,_⟩ | ⟨e,_⟩ | ⟨e,_⟩ <;> rw [e] <;> rcases hv with rfl | rfl <;> simp
theorem Qea {x:Rat} {s:Int} {p:List Rat} {l:List (List Rat)} (h:Us (ev p x)≠0):tc x s (p::l)=(if s=-(Us (ev p x)) then 1 else 0)+tc x (Us (ev p x)) l:=by rw [tc,if_neg h]
theorem Ss {R x y e d:Rat} {p:List Rat} (hx:Up x<=R) (hy:Up y<=R) (hR:0<=R) (h:Up (y-x)<=e) (hd:e*dqB R p<d):Up (ev p y-ev p x)<d:=by
 have h1:=Q63 hy hx p;have h2:=Q4 h (Sl hR p);grind
theorem Qml {a x y:Rat} (ha:0<a) (h:a*x<a*y):x<y:=by
 rcases Vu (a:=y) (b:=x) with h' | h'
 ·have:=Zn h' (Qp ha); grind
 ·rcases Classical.em (x=y) with e | e
  ·subst e; grind
  ·grind
theorem Zjs {a b d d' B f g h q:Rat} (ha:0<a) (hb:0<b) (dp:0<d) (h7:B*d+a*d<b*d') (hq:Up q<=B) (hg:Up g<d) (hh:d'<=Up h) (he:a*f=q*g-b*h) (hd':0<d'):Us h=-Us f/\d<=Up f:=by
 have h4:=Fy hq (Qp hg);rw [Tc] at h4;have had:=Eb ha dp;have h8:=Zn hh (Qp hb);rcases Fz h with ⟨s,p⟩ | ⟨s,p⟩ | ⟨s,p⟩
 ·have:Up h=-h:=by unfold Up; rw [if_pos p]
  rw [this] at h8;have h10:d<f:=Qml ha (by grind);rw [s,G9.2 (show 0<f by grind)];exact ⟨rfl,by unfold Up; split <;> grind⟩
 ·rw [p,G8] at hh; grind
 ·have:Up h=h:=by unfold Up; rw [if_neg (by grind)]
  rw [this] at h8;have h10:f < -d:=Qml ha (by grind);rw [s,Td.2 (show f<0 by grind)];exact ⟨rfl,by unfold Up; split <;> grind⟩
theorem min2 {a b:Rat} (ha:0<a) (hb:0<b):∃ e:Rat,0<e/\e<=a/\e<=b:=by
 rcases Vu (a:=a) (b:=b) with h | h
 ·exact ⟨a,ha,Qq,h⟩
 ·exact ⟨b,hb,h,Qq⟩
theorem U0 (a b:Rat):a<=b\/b<a:=by
 rcases Vu (a:=a) (b:=b) with h | h
 ·exact .inl h
 ·rcases Classical.em (a=b) with e | e
  ·exact .inl (by grind)
  ·exact .inr (by grind)
theorem Zi1 {R:Rat} (hR:0<=R) {f g:List Rat} {l:List (List Rat)} (hc:SCl f g l):∃ d e:Rat,0<d/\0<e/\∀ x y,Up x<=R->Up y<=R->Up (y-x)<=e ->
 (d<=Up (ev f x)\/d<=Up (ev g x))/\(d<=Up (ev f x)->Us (ev f y)=Us (ev f x)/\Us (ev f x)≠0)/\(d<=Up (ev g x)->Us (ev g y)=Us (ev g x)/\Us (ev g x)≠0) /\
 (Us (ev f y)=Us (ev f x)->Us (ev f x)≠0->tc x (Us (ev f x)) (g::l)=tc y (Us (ev f x)) (g::l)) /\
 (Us (ev g y)=Us (ev g x)->Us (ev g x)≠0->tc x (Us (ev g x)) l=tc y (Us (ev g x)) l):=by
 induction hc with
 |
  @base f g c hc hg =>
  have hd:=M9 hc;obtain ⟨e,e1,e2,e3⟩:=Gb (Sl hR f) hd;refine ⟨Up c,e,hd,e1,λx y hx hy hxy=>⟨.inr (by rw [hg]; exact Qq),λh=>Tt h (Ss hx hy hR hxy e3),λh=>?_,λ_ _=>?_,λ_ _=>rfl⟩⟩
  ·rw [hg,hg]; exact ⟨rfl,λh=>hc (Ff.1 h)⟩
  ·simp only [tc,hg]
 |
  @step f g h l a b q ha hb he hl ih =>
  obtain ⟨d',e',hd',he',ih⟩:=ih;obtain ⟨d1,d1p,_,d1b⟩:=Gb (b:=evB R q+a) (d:=b*d') (by have:=A0 hR q; grind) (Eb hb hd');obtain ⟨d,dp,hd1,hdd⟩:=min2 d1p hd';obtain ⟨ef,ef1,_,ef3⟩:=Gb (Sl hR f) dp;obtain ⟨eg,eg1,_,eg3⟩:=Gb (Sl hR g) dp;obtain ⟨e0,e0p,h1,h2⟩:=min2 ef1 eg1;obtain ⟨e,ep,h0,h3⟩:=min2 e0p he';have h1:=Q9 h0 h1;have h2:=Q9 h0 h2;refine ⟨d,e,dp,ep,λx y hx hy hxy=>?_⟩;obtain ⟨i1,i2,i3,i4,i5⟩:=ih x y hx hy (Q9 hxy h3);have hsm:Up (ev g x)<d->d'<=Up (ev h x)/\Us (ev h x)=-Us (ev f x)/\d<=Up (ev f x):=λhg=>by
   have hh:d'<=Up (ev h x):=by
    rcases i1 with i | i
    ·exact absurd (Q9 hdd i) (Jn.2 hg)
    ·exact i
   have h6:d*(evB R q+a)<=d1*(evB R q+a):=Q4 hd1 (by have:=A0 hR q; clear ih i1 i2 i3 i4 i5 he; grind);have h7:evB R q*d+a*d<b*d':=by clear ih i1 i2 i3 i4 i5 he; grind
   exact ⟨hh,Zjs ha hb dp h7 (Qga hx q) hg hh (he x) hd'⟩
  have hfs:d<=Up (ev f x)->Us (ev f y)=Us (ev f x)/\Us (ev f x)≠0:=λh=>Tt h (Ss hx hy hR (Q9 hxy h1) ef3)
  have hgs:d<=Up (ev g x)->Us (ev g y)=Us (ev g x)/\Us (ev g x)≠0:=λh=>Tt h (Ss hx hy hR (Q9 hxy h2) eg3)
  refine ⟨?_,hfs,hgs,λs1 s2=>?_,i4⟩
  ·rcases U0 d (Up (ev g x)) with h | h
   ·exact .inr h
   ·exact .inl (hsm h).2.2
  ·rcases U0 d (Up (ev g x)) with h | h
   ·obtain ⟨g1,g2⟩:=hgs h;rw [Qea (x:=x) (p:=g) g2,Qea (x:=y) (p:=g) (by rw [g1]; exact g2),g1,i4 g1 g2]
   ·obtain ⟨h4,h5,_⟩:=hsm h;obtain ⟨h6,h7⟩:=i3 h4;have i5:=i5 h6 h7;rw [Zau h5 s2,Zau (h6.trans h5) s2,<-h5,i5]
def Te (p:List Rat) (x:Rat):Int:=if Us (ev p x)≠0 then Us (ev p x) else Us (dv p x)
def vv (L:List (List Rat)) (x:Rat):Nat:=tc x 0 L
def Stm (f:List Rat) (L:List (List Rat)):Prop:=(∃ c:Rat,c≠0/\(∀ t,ev f t=c)/\L=[f])\/∃ g l,∃ k:Rat,0<k/\(∀ t,ev g t=k*dv f t)/\SCl f g l/\L=f::g::l
structure Sm (w:List Rat) (x y:Rat):Prop where
 s:Us (ev w y)=Te w x
 l:Te w y=Te w x
 n:Te w x≠0
theorem Dy {p:List Rat} {x:Rat} (h:Us (ev p x)≠0):Te p x=Us (ev p x):=by unfold Te; rw [if_pos h]
theorem Qwv {p:List Rat} {x:Rat} (h:Us (ev p x)=0):Te p x=Us (dv p x):=by unfold Te; rw [if_neg (by simpa using h)]
theorem Qt1 {p:List Rat} {x y:Rat} (h:Us (ev p y)=Us (ev p x)) (h0:Us (ev p x)≠0):Sm p x y:=by
 have h1:=Dy h0;have h2:=Dy (p:=p) (x:=y) (by rw [h]; exact h0);exact ⟨by rw [h,h1],by rw [h2,h1,h],by rw [h1]; exact h0⟩
theorem Az {f w u:List Rat} (h:∀ t,ev f t=ev w t*ev u t) (x:Rat):dv f x=dv w x*ev u x+ev w x*dv u x:=by
 rw [<-Qos]; exact Q6x (λt=>by rw [h,Uo]) x
theorem Q0c {f w u:List Rat} {x:Rat} (h:∀ t,ev f t=ev w t*ev u t) (hu:Us (ev u x)≠0):Te f x=Te w x*Us (ev u x):=by
 by_cases hw:Us (ev w x)=0
 ·have hw0:=Ff.1 hw;have e1:ev f x=0:=by rw [h,hw0]; grind
  have e2:dv f x=dv w x*ev u x:=by rw [Az h,hw0]; grind
  rw [Qwv hw,Qwv (Ff.2 e1),e2,Rv]
 ·have e1:Us (ev f x)=Us (ev w x)*Us (ev u x):=by rw [h,Rv]
  rw [Dy hw,Dy (by rw [e1]; exact Jj hw hu),e1]
theorem Zjt {f w u:List Rat} {x y:Rat} (h:∀ t,ev f t=ev w t*ev u t) (hu:Us (ev u y)=Us (ev u x)) (h0:Us (ev u x)≠0) (hf:Sm f x y):Sm w x y:=by
 have e1:=Q0c h h0;have e2:=Q0c (x:=y) h (by rw [hu]; exact h0);have e3:Us (ev f y)=Us (ev w y)*Us (ev u y):=by rw [h,Rv]
 obtain ⟨s,l,n⟩:=hf;rw [hu] at e2 e3;refine ⟨?_,?_,λh=>n (by rw [e1,h,Ya])⟩
 ·rw [e3,e1] at s; exact Yt h0 s
 ·rw [e2,e1] at l; exact Yt h0 l
theorem tc0 {x:Rat} {s:Int} {f g:List Rat} {l:List (List Rat)} (h:Us (ev g x)=s) (hs:s≠0):tc x 0 (f::g::l)=(if Us (ev f x)=-s then 1 else 0)+tc x s l:=by
 have hv:s=1\/s=-1:=by rcases Fz (ev g x) with ⟨e,_⟩ | ⟨e,_⟩ | ⟨e,_⟩ <;> omega
 have hg:Us (ev g x)≠0:=by omega
 rw [tc];rcases Fz (ev f x) with ⟨e,_⟩ | ⟨e,_⟩ | ⟨e,_⟩ <;> rw [e] <;> rcases hv with rfl | rfl <;> simp [Qea hg,h]
theorem Qjv {R x y e d:Rat} {p:List Rat} (hx:Up x<=R) (hy:Up y<=R) (hR:0<=R) (hxy:x<y) (h:y-x<=e) (hd:d<=Up (dv p x)) (he:e*ddB R p<d):Us (ev p y-ev p x)=Us (dv p x):=by
 have h1:=Zgp p y x;have h2:ev p y-ev p x=(y-x)*(dv p x+(y-x)*dd p y x):=by rw [h1]; grind
 have h3:=Fy (x:=y-x) (y:=dd p y x) (a:=e) (b:=ddB R p) (by rw [Tc]; constructor <;> grind) (Q6p hy hx p);have h4:=Tt (b:=dv p x+(y-x)*dd p y x) hd (by
  have:dv p x+(y-x)*dd p y x-dv p x=(y-x)*dd p y x:=by grind
  rw [this]; exact Jn.1 λh=>absurd (Q9 h h3) (Jn.2 he))
 rw [h2,Rv,G9.2 (show 0<y-x by grind),h4.1,Y3]
def Q4i (f w:List Rat) (L:List (List Rat)) (x y:Rat):Prop :=
 (vv L x=vv L y/\Sm f x y/\Sm w x y)\/(vv L x=vv L y+1/\Te f x≠0/\Te f y=-Te f x/\Us (ev f x)=Te f x/\(Us (ev f y)=0\/Us (ev f y)=-Te f x))
theorem Zgs {R d:Rat} (hR:0<=R) (hd:0<d) {f w u:List Rat} (h:∀ t,ev f t=ev w t*ev u t):∃ e:Rat,0<e/\∀ x y,Up x<=R->Up y<=R->Up (y-x)<=e->d<=Up (ev f x)->Sm f x y/\Sm w x y:=by
 obtain ⟨ef,ef1,_,ef3⟩:=Gb (Sl hR f) hd;obtain ⟨d1,d1p,_,d1b⟩:=Gb (A0 hR u) hd;obtain ⟨ew,ew1,_,ew3⟩:=Gb (Sl hR w) d1p;obtain ⟨e,ep,e1,e2⟩:=min2 ef1 ew1;refine ⟨e,ep,λx y hx hy hxy hf=>⟨?_,?_⟩⟩
 ·have:=Tt hf (Ss hx hy hR (Q9 hxy e1) ef3);exact Qt1 this.1 this.2
 ·have hw:d1<=Up (ev w x):=by
   rcases U0 d1 (Up (ev w x)) with h' | h'
   ·exact h'
   ·have h5:=Fy (Qp h') (Qga hx u);rw [<-h] at h5;exact absurd (Q9 hf h5) (Jn.2 d1b)
  have:=Tt hw (Ss hx hy hR (Q9 hxy e2) ew3);exact Qt1 this.1 this.2
theorem loc {R:Rat} (hR:0<=R) {f w u:List Rat} {L:List (List Rat)} (hc:Stm f L) (h:∀ t,ev f t=ev w t*ev u t):∃ e:Rat,0<e/\∀ x y,Up x<=R->Up y<=R->x<y->y-x<=e->Q4i f w L x y:=by
 rcases hc with ⟨c,hc,hf,rfl⟩ | ⟨g,l,k,hk,hg,hc,rfl⟩
 ·obtain ⟨e,ep,h1⟩:=Zgs hR (M9 hc) h;refine ⟨e,ep,λx y hx hy hxy he=>.inl ⟨?_,h1 x y hx hy (by rw [Tc]; constructor <;> grind) (by rw [hf]; exact Qq)⟩⟩;simp only [vv,tc,hf]
 ·obtain ⟨d,e1,dp,e1p,h1⟩:=Zi1 hR hc;obtain ⟨e2,e2p,h2⟩:=Zgs hR dp h;obtain ⟨d3,d3p,_,d3b⟩:=Gb (b:=k) (d:=d) (Qp hk) dp;obtain ⟨e3,e3p,_,e3b⟩:=Gb (Qir hR f) d3p;obtain ⟨d4,d4p,_,d4b⟩:=Gb (b:=dqB R w+dqB R u) (d:=d3) (by have:=Sl hR w; have:=Sl hR u; grind) d3p;obtain ⟨e4,e4p,_,e4b⟩:=Gb (Sl hR w) d4p;obtain ⟨e5,e5p,_,e5b⟩:=Gb (Sl hR u) d4p;obtain ⟨a1,a1p,a11,a12⟩:=min2 e1p e2p;obtain ⟨a2,a2p,a21,a22⟩:=min2 e3p e4p;obtain ⟨a3,a3p,a31,a32⟩:=min2 a1p a2p;obtain ⟨e,ep,b1,b2⟩:=min2 a3p e5p;refine ⟨e,ep,λx y hx hy hxy he=>?_⟩;have hab:Up (y-x)<=e:=by rw [Tc]; clear h1 h2; constructor <;> grind
  have hab1:Up (y-x)<=e1:=by clear h1 h2; grind
  have hab2:Up (y-x)<=e2:=by clear h1 h2; grind
  obtain ⟨i1,i2,i3,i4,i5⟩:=h1 x y hx hy hab1;rcases U0 d (Up (ev f x)) with hf | hf
  ·obtain ⟨s1,s2⟩:=h2 x y hx hy hab2 hf;obtain ⟨j1,j2⟩:=i2 hf;refine .inl ⟨?_,s1,s2⟩;have:=i4 j1 j2;simp only [vv];rw [Qea (x:=x) (p:=f) j2,Qea (x:=y) (p:=f) (by rw [j1]; exact j2),j1,this]
  ·have hg1:d<=Up (ev g x):=by
    rcases i1 with i | i
    ·exact absurd i (Jn.2 hf)
    ·exact i
   obtain ⟨g1,g2⟩:=i3 hg1;have i5:=i5 g1 g2;have hD:d3<=Up (dv f x):=by
    rcases U0 d3 (Up (dv f x)) with h' | h'
    ·exact h'
    ·have h5:=Fy (x:=k) (a:=k) (by unfold Up; split <;> clear h1 h2 <;> grind) (Rat.le_of_lt h');rw [<-hg] at h5;have:k*d3=d3*k:=by grind
     exact absurd (Q9 hg1 h5) (Jn.2 (by rw [this]; exact d3b))
   have hm:=Qjv hx hy hR hxy (by clear h1 h2; grind:y-x<=e3) hD e3b;have s1:Us (ev g x)=Us (dv f x):=by rw [hg,Rv,G9.2 hk,Y3]
   have s2:Us (ev g y)=Us (dv f y):=by rw [hg,Rv,G9.2 hk,Y3]
   obtain ⟨s,hs⟩:=nmE (Us (ev g x));rw [<-hs] at g1 g2 i5 s1;rw [g1] at s2;have v1:=tc0 (f:=f) (l:=l) hs.symm g2;have v2:=tc0 (f:=f) (l:=l) g1 g2;rw [<-i5] at v2;rw [<-s1] at hm;have hw:Sm f x y->Sm w x y:=λhf=>by
    rcases U0 d4 (Up (ev u x)) with hu | hu
    ·have hu:=Tt hu (Ss hx hy hR (Q9 hab b2) e5b);exact Zjt h hu.1 hu.2 hf
    ·have hw:d4<=Up (ev w x):=by
      rcases U0 d4 (Up (ev w x)) with h' | h'
      ·exact h'
      ·have q1:=Fy (x:=dv w x) (y:=ev u x) (a:=dqB R w) (by rw [<-Qop]; exact Qr0 hx hx w) (Qp hu);have q2:=Fy (x:=ev w x) (y:=dv u x) (b:=dqB R u) (Qp h') (by rw [<-Qop]; exact Qr0 hx hx u);have q3:=Rt (dv w x*ev u x) (ev w x*dv u x);rw [<-Az h] at q3;have:d4*(dqB R w+dqB R u)=dqB R w*d4+d4*dqB R u:=by grind
       rw [this] at d4b;exact absurd (Q9 hD (Q9 q3 (by clear h1 h2; grind:_<=dqB R w*d4+d4*dqB R u))) (Jn.2 d4b)
     have hw:=Tt hw (Ss hx hy hR (Q9 hab (by clear h1 h2; grind)) e4b);exact Qt1 hw.1 hw.2
   have lx:Te f x=if Us (ev f x)≠0 then Us (ev f x) else s:=by rw [s1]; rfl
   have ly:Te f y=if Us (ev f y)≠0 then Us (ev f y) else s:=by rw [s2]; rfl
   clear h1 h2 i1 i2 i3 i4;have hsv:s=1\/s=-1:=by rcases Fz (ev g x) with ⟨e,_⟩ | ⟨e,_⟩ | ⟨e,_⟩ <;> omega
   unfold Q4i;simp only [vv,v1,v2];rcases hsv with rfl | rfl
   ·have hm:=G9.1 hm;rcases Fz (ev f x) with ⟨p1,p2⟩ | ⟨p1,p2⟩ | ⟨p1,p2⟩
    ·rcases Fz (ev f y) with ⟨q1,q2⟩ | ⟨q1,q2⟩ | ⟨q1,q2⟩
     ·rw [p1,q1]; have hsm:=Qt1 (p:=f) (x:=x) (y:=y) (by rw [p1,q1]) (by rw [p1]; decide);exact .inl ⟨rfl,hsm,hw hsm⟩
     ·rw [lx,ly,p1,q1]; refine .inr ⟨by simp; omega,by decide,by decide,by decide,by decide⟩
     ·rw [lx,ly,p1,q1]; refine .inr ⟨by simp; omega,by decide,by decide,by decide,by decide⟩
    ·have q1:=G9.2 (show 0<ev f y by grind);have hsm:Sm f x y:=⟨by rw [lx,q1,p1]; rfl,by rw [lx,ly,q1,p1]; rfl,by rw [lx,p1]; decide⟩;rw [p1,q1]; exact .inl ⟨rfl,hsm,hw hsm⟩
    ·have q1:=G9.2 (show 0<ev f y by grind);have hsm:Sm f x y:=⟨by rw [lx,q1,p1]; rfl,by rw [lx,ly,q1,p1],by rw [lx,p1]; decide⟩;rw [p1,q1]; exact .inl ⟨rfl,hsm,hw hsm⟩
   ·have hm:=Td.1 hm;rcases Fz (ev f x) with ⟨p1,p2⟩ | ⟨p1,p2⟩ | ⟨p1,p2⟩
    ·have q1:=Td.2 (show ev f y<0 by grind);have hsm:Sm f x y:=⟨by rw [lx,q1,p1]; rfl,by rw [lx,ly,q1,p1],by rw [lx,p1]; decide⟩;rw [p1,q1]; exact .inl ⟨rfl,hsm,hw hsm⟩
    ·have q1:=Td.2 (show ev f y<0 by grind);have hsm:Sm f x y:=⟨by rw [lx,q1,p1]; rfl,by rw [lx,ly,q1,p1]; rfl,by rw [lx,p1]; decide⟩;rw [p1,q1]; exact .inl ⟨rfl,hsm,hw hsm⟩
    ·rcases Fz (ev f y) with ⟨q1,q2⟩ | ⟨q1,q2⟩ | ⟨q1,q2⟩
     ·rw [lx,ly,p1,q1]; refine .inr ⟨by simp; omega,by decide,by decide,by decide,by decide⟩
     ·rw [lx,ly,p1,q1]; refine .inr ⟨by simp; omega,by decide,by decide,by decide,by decide⟩
     ·rw [p1,q1]; have hsm:=Qt1 (p:=f) (x:=x) (y:=y) (by rw [p1,q1]) (by rw [p1]; decide);exact .inl ⟨rfl,hsm,hw hsm⟩
theorem Zn3 (z:Rat):∃ n:Nat,z<=(n:Rat):=by
 refine ⟨z.ceil.toNat,?_⟩;have h1:z<=(z.ceil:Rat):=Rat.le_ceil;have h2:(z.ceil:Rat)<=((z.ceil.toNat:Int):Rat):=X9.2 (Int.self_le_toNat _);exact Q9 h1 h2
theorem Iv {z e:Rat} (he:0<e):∃ n:Nat,z<=(n:Rat)*e:=by
 obtain ⟨n,hn⟩:=Zn3 (z / e);exact ⟨n,by have:=Q4 hn (Qp he); rwa [Fj he] at this⟩
theorem Qda {R x y t:Rat} (hx:Up x<=R) (hy:Up y<=R) (h1:x<=t) (h2:t<=y):Up t<=R:=by
 rw [Tc] at *; constructor <;> grind
def Q1r (f w:List Rat) (L:List (List Rat)) (x y:Rat):Prop :=
 vv L y<=vv L x/\(vv L x=vv L y->Sm f x y/\Sm w x y)/\(vv L x=vv L y+1->Te f x≠0/\Te f y=-Te f x)
theorem Q0a {f w:List Rat} {L:List (List Rat)} {x y:Rat} (h:Q4i f w L x y):Q1r f w L x y:=by
 rcases h with ⟨h1,h2,h3⟩ | ⟨h1,h2,h3,_⟩
 ·exact ⟨by omega,λ_=>⟨h2,h3⟩,λh=>by omega⟩
 ·exact ⟨by omega,λh=>by omega,λ_=>⟨h2,h3⟩⟩
theorem Qt2 {w:List Rat} {x y z:Rat} (h1:Sm w x y) (h2:Sm w y z):Sm w x z:=⟨by rw [h2.s,h1.l],by rw [h2.l,h1.l],h1.n⟩
theorem Qwt {f w:List Rat} {L:List (List Rat)} {x y z:Rat} (h:Q1r f w L x y) (h':Q1r f w L y z):Q1r f w L x z:=by
 obtain ⟨a1,a2,a3⟩:=h;obtain ⟨b1,b2,b3⟩:=h';refine ⟨by omega,λh=>?_,λh=>?_⟩
 ·obtain ⟨s1,s2⟩:=a2 (by omega);obtain ⟨s3,s4⟩:=b2 (by omega);exact ⟨Qt2 s1 s3,Qt2 s2 s4⟩
 ·by_cases e:vv L x=vv L y
  ·obtain ⟨s1,_⟩:=a2 e;obtain ⟨s3,s4⟩:=b3 (by omega);exact ⟨s1.n,by rw [s4,s1.l]⟩
  ·obtain ⟨s3,s4⟩:=a3 (by omega);obtain ⟨s1,_⟩:=b2 (by omega);exact ⟨s3,by rw [s1.l,s4]⟩
theorem Ziq {R:Rat} (hR:0<=R) {f w u:List Rat} {L:List (List Rat)} (hc:Stm f L) (h:∀ t,ev f t=ev w t*ev u t) {x y:Rat} (hx:Up x<=R) (hy:Up y<=R) (hxy:x<y):Q1r f w L x y:=by
 obtain ⟨e,ep,hl⟩:=loc hR hc h;have key:∀ n:Nat,∀ x,Up x<=R->x<y->y-x<=(n:Rat)*e->Q1r f w L x y:=by
  intro n
  induction n with
  | zero =>
   intro x hx hxy h; exfalso; have:((0:Nat):Rat)*e=0:=by simp
   grind
  |
   succ n ih =>
   intro x hx hxy hn;rcases U0 (y-x) e with h1 | h1
   ·exact Q0a (hl x y hx hy hxy h1)
   ·have hm:Up (x+e)<=R:=Qda hx hy (by clear hl ih; grind) (by clear hl ih; grind);have hn':(((n+1:Nat):Rat))=(n:Rat)+1:=by push_cast; rfl
    refine Qwt (Q0a (hl x (x+e) hx hm (by clear hl ih; grind) (by clear hl ih; grind))) (ih (x+e) hm (by clear hl ih; grind) ?_);rw [hn'] at hn;clear hl ih; grind
 obtain ⟨n,hn⟩:=Iv (z:=y-x) ep;exact key n x hx hxy hn
theorem Qny (x y:Rat):∃ R:Rat,0<=R/\Up x<=R/\Up y<=R:=by
 refine ⟨Up x+Up y,?_,?_,?_⟩ <;> (have:=Gm x; have:=Gm y; grind)
theorem Hm (t:Rat):ev [1] t=1:=by simp only [ev]; grind
theorem Lb {f:List Rat} {L:List (List Rat)} (hc:Stm f L) {x y:Rat} (hxy:x<y):vv L y<=vv L x:=by
 obtain ⟨R,hR,hx,hy⟩:=Qny x y;exact (Ziq hR hc (w:=f) (u:=[1]) (λt=>by rw [Hm]; grind) hx hy hxy).1
theorem Qbp {f w u:List Rat} {L:List (List Rat)} (hc:Stm f L) (h:∀ t,ev f t=ev w t*ev u t) {x y:Rat} (hxy:x<y) (he:vv L x=vv L y):Sm w x y:=by
 obtain ⟨R,hR,hx,hy⟩:=Qny x y;exact ((Ziq hR hc h hx hy hxy).2.1 he).2
theorem Qqv {f:List Rat} {L:List (List Rat)} (hc:Stm f L) {x y:Rat} (hxy:x<y) (he:vv L x=vv L y):Sm f x y :=
 Qbp hc (w:=f) (u:=[1]) (λt=>by rw [Hm]; grind) hxy he
theorem Qqu {f:List Rat} {L:List (List Rat)} (hc:Stm f L) {x y:Rat} (hxy:x<y) (he:vv L x=vv L y+1):Te f x≠0/\Te f y=-Te f x:=by
 obtain ⟨R,hR,hx,hy⟩:=Qny x y;exact (Ziq hR hc (w:=f) (u:=[1]) (λt=>by rw [Hm]; grind) hx hy hxy).2.2 he
theorem Za1 {f:List Rat} {L:List (List Rat)} (hc:Stm f L) (R:Rat) (hR:0<=R):∃ e:Rat,0<e/\∀ x y,Up x<=R->Up y<=R->x<y->y-x<=e->vv L x<=vv L y+1:=by
 obtain ⟨e,ep,hl⟩:=loc hR hc (w:=f) (u:=[1]) (λt=>by rw [Hm]; grind);refine ⟨e,ep,λx y hx hy hxy he=>?_⟩;rcases hl x y hx hy hxy he with ⟨h,_⟩ | ⟨h,_⟩ <;> omega
theorem Qa9 {p:List Rat} {x:Rat} (h:Us (ev p x)≠0):∃ e:Rat,0<e/\∀ y,Up (y-x)<=e->Us (ev p y)=Us (ev p x):=by
 have hd:=M9 (x:=ev p x) λh0=>h (Ff.2 h0)
 have hR:0<=Up x+1:=by have:=Gm x; grind
 obtain ⟨e,e1,e2,e3⟩:=Gb (Sl hR p) hd;refine ⟨e,e1,λy hy=>(Tt Qq (Ss (x:=x) (by grind) ?_ hR hy e3)).1⟩;have:=Rt (y-x) x;have e:y-x+x=y:=by grind
 rw [e] at this; grind
theorem Zg1 {R M:Rat} {p:List Rat} (hM:M=ddB R p) (hR:0<=R) {h:Rat} (hh:0<h):∀ (n:Nat) (x:Rat),Up x<=R->Up (x+(n:Rat)*h)<=R->(∀ t,x<=t->t<=x+(n:Rat)*h->0<=dv p t)->ev p x-(n:Rat)*(h*h*M)<=ev p (x+(n:Rat)*h)
 |
  0,x,_,_,_=>by
  have e1:x+((0:Nat):Rat)*h=x:=by rw [show ((0:Nat):Rat)=0 from rfl]; grind
  have e2:((0:Nat):Rat)*(h*h*M)=0:=by simp
  rw [e1,e2]; grind
 |
  n+1,x,hx,hy,hd=>by
  have hn':(((n+1:Nat):Rat))=(n:Rat)+1:=by push_cast; rfl
  rw [hn'] at hy hd ⊢;have hn0:(0:Rat)<=(n:Rat):=Xk;have hnh:=Pm hn0 (Qp hh);have e1:x+((n:Rat)+1)*h=(x+h)+(n:Rat)*h:=by grind
  rw [e1] at hy hd ⊢;have hxh:Up (x+h)<=R:=Qda hx hy (by clear hd; grind) (by clear hd; grind);have ih:=Zg1 hM hR hh n (x+h) hxh hy λt h1 h2=>hd t (by clear hd; grind) h2
  have h0:=hd x Qq (by clear hd; grind);have h1:=Zgp p (x+h) x;have h2:=Q6p hxh hx p;rw [<-hM,Tc] at h2;have h3:=Zn h2.1 (Pm (Qp hh) (Qp hh));have h4:=Pm (Qp hh) h0;have e2:x+h-x=h:=by grind
  rw [e2] at h1;clear hd hx hy hxh;grind
theorem Zl8 {p:List Rat} {x y:Rat} (hxy:x<y) (hd:∀ t,x<=t->t<=y->0<=dv p t):ev p x<=ev p y:=by
 obtain ⟨R,hR,hx,hy⟩:=Qny x y;rcases U0 (ev p x) (ev p y) with h | h
 ·exact h
 ·exfalso;obtain ⟨M,hM⟩:=nmE (ddB R p);have hM0:=Qir hR p;rw [<-hM] at hM0;obtain ⟨e,ep,_,he⟩:=Gb (b:=(y-x)*M) (d:=ev p x-ev p y) (Pm (by grind) hM0) (by grind);obtain ⟨n,hn⟩:=Iv (z:=y-x) ep;have hn0:0<(n:Rat):=by
   rcases U0 (n:Rat) 0 with h' | h'
   ·have:=Q4 h' (Qp ep); clear hd; grind
   ·exact h'
  have hh:0<(y-x) / n:=Dq (by grind) hn0;have e1:(n:Rat)*((y-x) / n)=y-x:=by rw [W5]; exact Fj hn0
  have e2:x+(n:Rat)*((y-x) / n)=y:=by rw [e1]; grind
  have h1:=Zg1 hM hR hh n x hx (by rw [e2]; exact hy) (by rw [e2]; exact hd);rw [e2] at h1;have h2:(y-x) / n<=e:=by
   rcases U0 ((y-x) / n) e with h' | h'
   ·exact h'
   ·have:=Rat.mul_lt_mul_of_pos_left h' hn0; clear hd; grind
  have h3:(n:Rat)*((y-x) / n*((y-x) / n)*M)=((y-x) / n)*((y-x)*M):=by
   have:(n:Rat)*((y-x) / n*((y-x) / n)*M)=((n:Rat)*((y-x) / n))*(((y-x) / n)*M):=by grind
   rw [this,e1]; grind
  have h4:=Q4 h2 (Pm (x:=y-x) (y:=M) (by grind) hM0);rw [h3] at h1;clear hd; grind
theorem Ze4 {p:List Rat} {x y:Rat} (hxy:x<y) (hd:∀ t,x<=t->t<=y->0<dv p t):ev p x<ev p y:=by
 have hx:=hd x Qq (by grind);have hR:0<=Up x+1:=by have:=Gm x; grind
 obtain ⟨e,e1,e2,e3⟩:=Gb (Qir hR p) hx;obtain ⟨f,f1,f2,f3⟩:=min2 (a:=e) (b:=y-x) e1 (by grind);have hq:Up (x+f)<=Up x+1:=by
  have:=Rt x f; have:Up f=f:=by unfold Up; split <;> grind
  clear hd; grind
 have h1:=Qjv (p:=p) (x:=x) (y:=x+f) (R:=Up x+1) (e:=e) (d:=dv p x) (by clear hd; grind) hq hR (by grind) (by grind) (by unfold Up; split <;> clear hd <;> grind) e3;rw [G9.2 hx,G9] at h1;rcases Classical.em (x+f=y) with e | e
 ·rw [<-e]; clear hd; grind
 ·have:=Zl8 (p:=p) (x:=x+f) (y:=y) (by clear hd; grind) λt h1 h2=>Qp (hd t (by clear hd; grind) h2)
  clear hd; grind
structure Cut (c:Rat->Int):Prop where
 val:∀ q,c q=1\/c q=0\/c q=-1
 mono:∀ q r,q<r->c q≠1->c r=-1
 up:∀ q,c q=1->∃ r,q<r/\c r=1
 dn:∀ q,c q=-1->∃ r,r<q/\c r=-1
 lo:∃ q,c q=1
 hi:∃ q,c q=-1
theorem Cut.mono' {c:Rat->Int} (h:Cut c) {q r:Rat} (hqr:q<r) (hr:c r≠-1):c q=1:=by
 rcases Classical.em (c q=1) with e | e
 ·exact e
 ·exact absurd (h.mono q r hqr e) hr
theorem Cut.lt {c:Rat->Int} (h:Cut c) {q r:Rat} (hq:c q=1) (hr:c r=-1):q<r:=by
 rcases U0 r q with e | e
 ·rcases Classical.em (r=q) with e' | e'
  ·rw [e'] at hr; omega
  ·have:=h.mono r q (by grind) (by omega); omega
 ·exact e
theorem Cut.near {c:Rat->Int} (h:Cut c) {e:Rat} (he:0<e):∃ x y,c x=1/\c y=-1/\y-x<=e:=by
 obtain ⟨a,ha⟩:=h.lo;obtain ⟨b,hb⟩:=h.hi;have he2:0<e / 2:=Dq he (by decide);have h2:e / 2*2=e:=Fj (by decide);have key:∀ (n:Nat) (a:Rat),c a=1->b-a<=(n:Rat)*(e / 2)->∃ x y,c x=1/\c y=-1/\y-x<=e:=by
  intro n
  induction n with
  |
   zero =>
   intro a ha hn;have:=h.lt ha hb;rw [show ((0:Nat):Rat)=0 from rfl] at hn;exfalso; grind
  |
   succ n ih =>
   intro a ha hn;have hn':(((n+1:Nat):Rat))=(n:Rat)+1:=by push_cast; rfl
   rw [hn'] at hn;rcases h.val (a+e / 2) with h1 | h1 | h1
   ·exact ih _ h1 (by grind)
   ·exact ⟨a,a+e,ha,h.mono (a+e / 2) _ (by grind) (by omega),by grind⟩
   ·exact ⟨a,a+e / 2,ha,h1,by grind⟩
 obtain ⟨n,hn⟩:=Iv (z:=b-a) he2;exact key n a ha hn
def Ei (p:List Rat) (c:Rat->Int):Prop:=∀ d:Rat,0<d->∃ x y,c x=1/\c y=-1/\∀ q,x<=q->q<=y->Up (ev p q)<d
def NZ (p:List Rat) (c:Rat->Int) (s:Int):Prop:=∃ d:Rat,0<d/\∃ x y,c x=1/\c y=-1/\∀ q,x<=q->q<=y->Us (ev p q)=s/\d<=Up (ev p q)
def Nr (c:Rat->Int) (P:Rat->Prop):Prop:=∃ x y,c x=1/\c y=-1/\∀ q,x<=q->q<=y->P q
theorem Qwy {c:Rat->Int} {P Q:Rat->Prop} (h1:Nr c P) (h2:Nr c Q):Nr c λq=>P q/\Q q:=by
 obtain ⟨x,y,a1,a2,a3⟩:=h1;obtain ⟨x',y',b1,b2,b3⟩:=h2;refine ⟨if x<=x' then x' else x,if y<=y' then y else y',by split <;> assumption,by split <;> assumption,λq q1 q2=>⟨a3 q ?_ ?_,b3 q ?_ ?_⟩⟩ <;> clear a3 b3 <;> grind
theorem Qhr {c:Rat->Int} {P Q:Rat->Prop} (h1:Nr c P) (h:∀ q,P q->Q q):Nr c Q:=by
 obtain ⟨x,y,a1,a2,a3⟩:=h1;exact ⟨x,y,a1,a2,λq q1 q2=>h q (a3 q q1 q2)⟩
theorem Qs3 {c:Rat->Int} (hc:Cut c) {P:Rat->Prop} (h1:Nr c P):∃ q,P q/\c q=1:=by
 obtain ⟨x,y,a1,a2,a3⟩:=h1;exact ⟨x,a3 x Qq (Qp (hc.lt a1 a2)),a1⟩
theorem Q8l {c:Rat->Int} (hc:Cut c) {e:Rat} (he:0<e) {P:Rat->Prop} (h1:Nr c P):∃ x y,c x=1/\c y=-1/\y-x<=e/\x<y/\∀ q,x<=q->q<=y->P q:=by
 obtain ⟨x,y,a1,a2,a3⟩:=h1;obtain ⟨x',y',b1,b2,b3⟩:=hc.near he;refine ⟨if x<=x' then x' else x,if y<=y' then y else y',by split <;> assumption,by split <;> assumption,by clear a3; grind,hc.lt (by split <;> assumption) (by split <;> assumption),λq q1 q2=>a3 q ?_ ?_⟩ <;> clear a3 <;> grind
theorem Zgy {c:Rat->Int} (hc:Cut c):∃ R:Rat,0<=R/\Nr c λq=>Up q<=R:=by
 obtain ⟨x,y,a1,a2,_⟩:=hc.near (e:=1) (by decide);obtain ⟨R,hR,h1,h2⟩:=Qny x y;exact ⟨R,hR,x,y,a1,a2,λq q1 q2=>Qda h1 h2 q1 q2⟩
theorem O8 {c:Rat->Int} (hc:Cut c) (p:List Rat):Ei p c\/∃ s,s≠0/\NZ p c s:=by
 rcases Classical.em (Ei p c) with h | h
 ·exact .inl h
 ·refine .inr ?_;obtain ⟨d,hd0⟩:=Classical.not_forall.1 h;obtain ⟨dp,hd⟩:=Classical.not_imp.1 hd0;have hd:∀ x y,c x=1->c y=-1->∃ q,x<=q/\q<=y/\d<=Up (ev p q):=λx y hx hy=>by
   rcases Classical.em (∃ q,x<=q/\q<=y/\d<=Up (ev p q)) with h' | h'
   ·exact h'
   ·refine absurd ⟨x,y,hx,hy,λq h1 h2=>?_⟩ hd;rcases U0 d (Up (ev p q)) with h3 | h3
    ·exact absurd ⟨q,h1,h2,h3⟩ h'
    ·exact h3
  obtain ⟨R,hR,hn⟩:=Zgy hc;have hd2:0<d / 2:=Dq dp (by decide);have h2:d / 2*2=d:=Fj (by decide);obtain ⟨e,e1,_,e3⟩:=Gb (Sl hR p) hd2;obtain ⟨x,y,hx,hy,hxy,_,hq⟩:=Q8l hc e1 hn;obtain ⟨r,r1,r2,r3⟩:=hd x y hx hy;have key:∀ q,x<=q->q<=y->Up (ev p q-ev p r)<d / 2:=λq q1 q2 =>
   Ss (hq r r1 r2) (hq q q1 q2) hR (by rw [Tc]; clear hq hd; constructor <;> grind) e3
  refine ⟨Us (ev p r),λh0=>?_,d / 2,hd2,x,y,hx,hy,λq q1 q2=>⟨(Tt (d:=d) r3 ?_).1,?_⟩⟩
  ·rw [Ff.1 h0,G8] at r3; clear hq hd key; grind
  ·have:=key q q1 q2; clear hq hd key; grind
  ·have h3:=key q q1 q2;have h4:=Rt (ev p r-ev p q) (ev p q);rw [show ev p r-ev p q+ev p q=ev p r from by clear hq hd key; grind,Q07] at h4;clear hq hd key; grind
theorem Zj6 {c:Rat->Int} (hc:Cut c) {p:List Rat} {s:Int} (h1:Ei p c) (h2:NZ p c s):False:=by
 obtain ⟨d,dp,h2⟩:=h2;obtain ⟨q,⟨a,b⟩,_⟩:=Qs3 hc (Qwy (h1 d dp) h2);exact absurd b.2 (Jn.2 a)
theorem T0 {c:Rat->Int} (hc:Cut c) {f p q:List Rat} (hf:∀ t,ev f t=ev p t*ev q t) (h:Ei p c):Ei f c:=by
 intro d dp;obtain ⟨R,hR,hn⟩:=Zgy hc;obtain ⟨e,e1,_,e3⟩:=Gb (A0 hR q) dp;refine Qhr (Qwy hn (h e e1)) λt ⟨h1,h2⟩=>?_
 rw [hf];have:=Fy (Qp h2) (Qga h1 q);exact Jn.1 λh=>absurd (Q9 h this) (Jn.2 e3)
theorem Qh8 {c:Rat->Int} {f p q:List Rat} (hf:∀ t,ev f t=ev p t+ev q t) (h:Ei p c) (h':Ei q c):Ei f c:=by
 intro d dp;have hd2:0<d / 2:=Dq dp (by decide);have h2:d / 2*2=d:=Fj (by decide);refine Qhr (Qwy (h _ hd2) (h' _ hd2)) λt ⟨h1,h2⟩=>?_
 rw [hf];have:=Rt (ev p t) (ev q t);grind
def RS (p:List Rat) (c:Rat->Int) (s:Int):Prop:=∃ y,c y=-1/\∀ q,c q=-1->q<=y->Us (ev p q)=s
def LS (p:List Rat) (c:Rat->Int) (s:Int):Prop:=∃ x,c x=1/\∀ q,c q=1->x<=q->Us (ev p q)=s
theorem Qnc {c:Rat->Int} (hc:Cut c) {p:List Rat} {s:Int} (h:NZ p c s):RS p c s:=by
 obtain ⟨d,dp,x,y,a1,a2,a3⟩:=h;exact ⟨y,a2,λq h1 h2=>(a3 q (Qp (hc.lt a1 h1)) h2).1⟩
theorem Q0d {c:Rat->Int} (hc:Cut c) {p:List Rat} {s:Int} (h:NZ p c s):LS p c s:=by
 obtain ⟨d,dp,x,y,a1,a2,a3⟩:=h;exact ⟨x,a1,λq h1 h2=>(a3 q h2 (Qp (hc.lt h1 a2))).1⟩
theorem Q1e {c:Rat->Int} {p:List Rat} {s s':Int} (h:RS p c s) (h':RS p c s'):s=s':=by
 obtain ⟨y,a1,a2⟩:=h;obtain ⟨y',b1,b2⟩:=h';rcases U0 y y' with e | e
 ·rw [<-a2 y a1 Qq,<-b2 y a1 e]
 ·rw [<-a2 y' b1 (Qp e),<-b2 y' b1 Qq]
theorem Zg4 {c:Rat->Int} (hc:Cut c) {p:List Rat} (hv:Ei p c) {y:Rat} (hy:c y=-1) (h:∀ q,c q=-1->q<=y->0<dv p q) (q:Rat) (hq:c q=-1) (hqy:q<=y):0<ev p q:=by
 rcases U0 (ev p q) 0 with h0 | h0
 ·exfalso;obtain ⟨r,r1,r2⟩:=hc.dn q hq;have hr:ev p r<ev p q:=Ze4 r1 λt t1 t2=>h t (by
   rcases Classical.em (r=t) with e | e
   ·rw [<-e]; exact r2
   ·exact hc.mono r t (by clear h; grind) (by omega)) (Q9 t2 hqy)
  obtain ⟨a,b,ha,hb,hab⟩:=hv (-ev p r) (by clear h; grind);obtain ⟨m,hm1,hm2,hm3⟩:∃ m,c m=-1/\m<=b/\m<=r:=by
   rcases U0 b r with e | e
   ·exact ⟨b,hb,Qq,e⟩
   ·exact ⟨r,r2,Qp e,Qq⟩
  have h1:=hab m (Qp (hc.lt ha hm1)) hm2;have h2:ev p m<=ev p r:=by
   rcases Classical.em (m=r) with e | e
   ·rw [e]; exact Qq
   ·exact Qp (Ze4 (by clear h hab; grind) λt t1 t2=>h t (by
     rcases Classical.em (m=t) with e | e
     ·rw [<-e]; exact hm1
     ·exact hc.mono m t (by clear h hab; grind) (by omega)) (by clear h hab; grind))
  rw [Qp4] at h1;clear h hab; grind
 ·exact h0
theorem Qqb {c:Rat->Int} (hc:Cut c) {p:List Rat} {s:Int} (hv:Ei p c) (h:RS (Mf p) c s) (hs:s≠0):RS p c s:=by
 obtain ⟨y,hy,h⟩:=h;have hsv:s=1\/s=-1:=by
  have:=h y hy Qq;rcases Fz (ev (Mf p) y) with ⟨e,_⟩ | ⟨e,_⟩ | ⟨e,_⟩ <;> omega
 rcases hsv with rfl | rfl
 ·refine ⟨y,hy,λq h1 h2=>G9.2 (Zg4 hc hv hy (λq h1 h2=>?_) q h1 h2)⟩;rw [<-Hy]; exact G9.1 (h q h1 h2)
 ·refine ⟨y,hy,λq h1 h2=>Td.2 ?_⟩;have:=Zg4 hc (p:=Bj (-1) p) (y:=y) (λd dp=>Qhr (hv d dp) λq hq=>by rw [Fb,show -1*ev p q=-ev p q by grind,Cw]; exact hq) hy (λq h1 h2=>by
   rw [Qe3,<-Hy];have:=Td.1 (h q h1 h2); grind) q h1 h2
  rw [Fb] at this; grind
theorem Zgw {c:Rat->Int} (hc:Cut c) {p:List Rat} (hv:Ei p c) {x:Rat} (hx:c x=1) (h:∀ q,c q=1->x<=q->0<dv p q) (q:Rat) (hq:c q=1) (hxq:x<=q):ev p q<0:=by
 rcases U0 0 (ev p q) with h0 | h0
 ·exfalso;obtain ⟨r,r1,r2⟩:=hc.up q hq;have hr:ev p q<ev p r:=Ze4 r1 λt t1 t2=>h t (by
   rcases Classical.em (t=r) with e | e
   ·rw [e]; exact r2
   ·exact hc.mono' (q:=t) (r:=r) (by clear h; grind) (by omega)) (Q9 hxq t1)
  obtain ⟨a,b,ha,hb,hab⟩:=hv (ev p r) (by clear h; grind);obtain ⟨m,hm1,hm2,hm3⟩:∃ m,c m=1/\a<=m/\r<=m:=by
   rcases U0 a r with e | e
   ·exact ⟨r,r2,e,Qq⟩
   ·exact ⟨a,ha,Qq,Qp e⟩
  have h1:=hab m hm2 (Qp (hc.lt hm1 hb));have h2:ev p r<=ev p m:=by
   rcases Classical.em (r=m) with e | e
   ·rw [e]; exact Qq
   ·exact Qp (Ze4 (by clear h hab; grind) λt t1 t2=>h t (by
     rcases Classical.em (t=m) with e | e
     ·rw [e]; exact hm1
     ·exact hc.mono' (q:=t) (r:=m) (by clear h hab; grind) (by omega)) (by clear h hab; grind))
  rw [Qp4] at h1;clear h hab; grind
 ·exact h0
theorem Q77 {c:Rat->Int} (hc:Cut c) {p:List Rat} {s:Int} (hv:Ei p c) (h:LS (Mf p) c s) (hs:s≠0):LS p c (-s):=by
 obtain ⟨x,hx,h⟩:=h;have hsv:s=1\/s=-1:=by
  have:=h x hx Qq;rcases Fz (ev (Mf p) x) with ⟨e,_⟩ | ⟨e,_⟩ | ⟨e,_⟩ <;> omega
 rcases hsv with rfl | rfl
 ·refine ⟨x,hx,λq h1 h2=>Td.2 (Zgw hc hv hx (λq h1 h2=>?_) q h1 h2)⟩;rw [<-Hy]; exact G9.1 (h q h1 h2)
 ·refine ⟨x,hx,λq h1 h2=>G9.2 ?_⟩;have:=Zgw hc (p:=Bj (-1) p) (x:=x) (λd dp=>Qhr (hv d dp) λq hq=>by rw [Fb,show -1*ev p q=-ev p q by grind,Cw]; exact hq) hx (λq h1 h2=>by
   rw [Qe3,<-Hy];have:=Td.1 (h q h1 h2); grind) q h1 h2
  rw [Fb] at this; grind
theorem Zfc {c:Rat->Int} (hc:Cut c) {f g:List Rat} {l:List (List Rat)} (h:SCl f g l):Ei f c->Ei g c->False:=by
 induction h with
 |
  @base f g k hk hg =>
  intro _ hv;obtain ⟨q,hq,_⟩:=Qs3 hc (hv (Up k) (M9 hk));rw [hg] at hq; grind
 |
  @step f g h l a b q ha hb he hl ih =>
  intro hf hg;refine ih hg ?_;have h1:Ei (Fu q g) c:=T0 hc (p:=g) (q:=q) (λt=>by rw [Uo]; grind) hg;have h2:Ei (Bj (-a) f) c:=T0 hc (p:=f) (q:=[-a]) (λt=>by rw [Fb]; simp only [ev]; grind) hf;have h3:Ei (Ru (Fu q g) (Bj (-a) f)) c:=Qh8 (λt=>Fo t _ _) h1 h2;refine T0 hc (p:=Ru (Fu q g) (Bj (-a) f)) (q:=[1 / b]) (λt=>?_) h3;have:=he t;rw [Fo,Uo,Fb];simp only [ev];have hbb:1 / b*b=1:=Fj hb;have:ev q t*ev g t+-a*ev f t=b*ev h t:=by rw [show -a*ev f t=-(a*ev f t) by grind,he t]; grind
  rw [this];have:b*ev h t*(1 / b+t*0)=ev h t*(1 / b*b):=by grind
  rw [this,hbb]; grind
theorem Qnt {c:Rat->Int} (hc:Cut c) {f g:List Rat} {k:Rat} (h:∀ t,ev g t=k*ev f t) (hv:Ei f c):Ei g c :=
 T0 hc (p:=f) (q:=[k]) (λt=>by rw [h]; simp only [ev]; grind) hv
theorem Zfn {c:Rat->Int} (hc:Cut c) {f:List Rat} {L:List (List Rat)} (h:Stm f L) (hv:Ei f c):∃ s,s≠0/\NZ (Mf f) c s:=by
 rcases O8 hc (Mf f) with h1 | h1
 ·exfalso;rcases h with ⟨k,hk,hf,_⟩ | ⟨g,l,k,hk,hg,h,_⟩
  ·obtain ⟨q,hq,_⟩:=Qs3 hc (hv (Up k) (M9 hk));rw [hf] at hq; grind
  ·exact Zfc hc h hv (Qnt hc (λt=>by rw [hg,Hy]) h1)
 ·exact h1
theorem Qzi {c:Rat->Int} (hc:Cut c) {f w u:List Rat} {L:List (List Rat)} (h:Stm f L) (hf:∀ t,ev f t=ev w t*ev u t) (hv:Ei w c):∃ s,s≠0/\NZ (Mf w) c s:=by
 rcases O8 hc (Mf w) with h1 | h1
 ·exfalso;obtain ⟨s,_,hs⟩:=Zfn hc h (T0 hc hf hv);refine Zj6 hc ?_ hs;have a1:Ei (Fu (Mf w) u) c:=T0 hc (λt=>Uo t _ _) h1;have a2:Ei (Fu w (Mf u)) c:=T0 hc (λt=>Uo t _ _) hv;refine Qh8 (λt=>?_) a1 a2;rw [Hy,Az hf,Uo,Uo,Hy,Hy]
 ·exact h1
theorem Q6m {c:Rat->Int} (hc:Cut c) {q:Rat} (h:c q=0) {x y:Rat} (hx:c x=1) (hy:c y=-1):x<=q/\q<=y:=by
 constructor
 ·rcases U0 x q with e | e
  ·exact e
  ·have:=hc.mono q x e (by omega); omega
 ·rcases U0 q y with e | e
  ·exact e
  ·have:=hc.mono y q e (by omega); omega
theorem Qf1 {c:Rat->Int} (hc:Cut c) {p:List Rat} {q:Rat} (h:c q=0) (hv:Ei p c):ev p q=0:=by
 rcases Classical.em (ev p q=0) with e | e
 ·exact e
 ·obtain ⟨x,y,hx,hy,hq⟩:=hv _ (M9 e);obtain ⟨h1,h2⟩:=Q6m hc h hx hy;have:=hq q h1 h2; grind
theorem Qs5 {c:Rat->Int} (hc:Cut c) {p:List Rat} {q:Rat} {s:Int} (h:c q=0) (hv:NZ p c s):Us (ev p q)=s:=by
 obtain ⟨d,dp,x,y,hx,hy,hq⟩:=hv;obtain ⟨h1,h2⟩:=Q6m hc h hx hy;exact (hq q h1 h2).1
theorem Qvz {c:Rat->Int} (hc:Cut c) {y z:Rat} (hy:c y=-1) (hz:c z=-1):∃ q,c q=-1/\q<y/\q<z:=by
 obtain ⟨a,a1,a2⟩:=hc.dn y hy;obtain ⟨b,b1,b2⟩:=hc.dn z hz;rcases U0 a b with e | e
 ·exact ⟨a,a2,a1,by grind⟩
 ·exact ⟨b,b2,by grind,b1⟩
theorem Qip {c:Rat->Int} (hc:Cut c) {y z:Rat} (hy:c y=1) (hz:c z=1):∃ q,c q=1/\y<q/\z<q:=by
 obtain ⟨a,a1,a2⟩:=hc.up y hy;obtain ⟨b,b1,b2⟩:=hc.up z hz;rcases U0 a b with e | e
 ·exact ⟨b,b2,by grind,b1⟩
 ·exact ⟨a,a2,a1,by grind⟩
theorem Q8k {f w u:List Rat} {L:List (List Rat)} (h:Stm f L) (hf:∀ t,ev f t=ev w t*ev u t) {x y:Rat} (hv:vv L x=vv L y) {c:Rat->Int} (hc:Cut c) (hx:c x=1) (hy:c y≠1):¬Ei w c:=λhw=>by
 have hxy:x<y:=by
  rcases U0 y x with e | e
  ·rcases Classical.em (y=x) with e' | e'
   ·rw [e'] at hy; exact absurd hx hy
   ·have:=hc.mono y x (by grind) hy; omega
  ·exact e
 have hwv:=Qbp h hf hxy hv;rcases hc.val y with e | e | e
 ·exact hy e
 ·have:=Qf1 hc e hw;have:=hwv.s;rw [Ff.2 (by assumption)] at this;exact hwv.n this.symm
 ·obtain ⟨s,hs,hd⟩:=Qzi hc h hf hw;obtain ⟨a,ha,hal⟩:=Q77 hc hw (Q0d hc hd) hs;obtain ⟨b,hb,hbr⟩:=Qqb hc hw (Qnc hc hd) hs;obtain ⟨q,q1,q2,q3⟩:=Qip hc hx ha;obtain ⟨r,r1,r2,r3⟩:=Qvz hc hb e;have e1:=hal q q1 (Qp q3);have e2:=hbr r r1 (Qp r2);have hqr:=hc.lt q1 r1;have v1:vv L q<=vv L x:=Lb h q2;have v2:vv L y<=vv L r:=Lb h r3;have v3:vv L r<=vv L q:=Lb h hqr;have s1:=(Qbp h hf q2 (by omega)).s;have s2:=(Qbp h hf (x:=x) (y:=r) (by grind) (by omega)).s;omega
theorem Qqm {f:List Rat} {L:List (List Rat)} (h:Stm f L) {x y:Rat} (hxy:x<y) (hv:vv L x≠vv L y) {d:Rat} (dp:0<d):∃ q,x<=q/\q<=y/\Up (ev f q)<d:=by
 obtain ⟨R,hR,hx,hy⟩:=Qny x y;obtain ⟨e1,e1p,hl⟩:=loc hR h (w:=f) (u:=[1]) (λt=>by rw [Hm]; grind);obtain ⟨e2,e2p,_,e2b⟩:=Gb (Sl hR f) dp;obtain ⟨e,ep,h1,h2⟩:=min2 e1p e2p;have key:∀ n:Nat,∀ x,Up x<=R->x<y->vv L x≠vv L y->y-x<=(n:Rat)*e->∃ q,x<=q/\q<=y/\Up (ev f q)<d:=by
  intro n
  induction n with
  | zero=>intro x hx hxy _ hn; rw [show ((0:Nat):Rat)=0 from rfl] at hn; exfalso; clear hl; grind
  |
   succ n ih =>
   intro x hx hxy hv hn;have hstep:∀ z,Up z<=R->x<z->z-x<=e->vv L x≠vv L z->Up (ev f z)<d:=λz hz hxz hze hv=>by
    rcases hl x z hx hz hxz (Q9 hze h1) with ⟨p,_⟩ | ⟨_,p1,p2,p3,p4⟩
    ·exact absurd p hv
    ·have hd:=Ss (p:=f) hx hz hR (e:=e2) (d:=d) (by rw [Tc]; clear hl ih; constructor <;> grind) e2b;rw [<-p3] at p1 p4;clear hl ih p2 p3;rw [Qp4] at *;rcases Fz (ev f x) with ⟨a,a'⟩ | ⟨a,a'⟩ | ⟨a,a'⟩ <;> rcases Fz (ev f z) with ⟨b,b'⟩ | ⟨b,b'⟩ | ⟨b,b'⟩ <;> rw [a,b] at p4 <;> first | (exfalso; revert p4; decide) | skip
     all_goals first | (constructor <;> grind) | (exfalso; omega)
   rcases U0 (y-x) e with h3 | h3
   ·exact ⟨y,Qp hxy,Qq,hstep y hy hxy h3 hv⟩
   ·have hm:Up (x+e)<=R:=Qda hx hy (by clear hl ih hstep; grind) (by clear hl ih hstep; grind);rcases Classical.em (vv L x=vv L (x+e)) with e0 | e0
    ·have hn':(((n+1:Nat):Rat))=(n:Rat)+1:=by push_cast; rfl
     rw [hn'] at hn;obtain ⟨q,q1,q2,q3⟩:=ih (x+e) hm (by clear hl ih hstep; grind) (by omega) (by clear hl ih hstep; grind);exact ⟨q,by clear hl ih hstep; grind,q2,q3⟩
    ·exact ⟨x+e,by clear hl ih hstep; grind,by clear hl ih hstep; grind,hstep (x+e) hm (by clear hl ih hstep; grind) (by clear hl ih hstep; grind) e0⟩
 obtain ⟨n,hn⟩:=Iv (z:=y-x) ep;exact key n x hx hxy hv hn
theorem Zlt {p:List Rat} {x:Rat} (h:Te p x≠0):∃ e:Rat,0<e/\∀ y,x<y->y-x<=e->Us (ev p y)=Te p x:=by
 by_cases h0:Us (ev p x)=0
 ·have hx:=Ff.1 h0;rw [Qwv h0] at h ⊢;have hR:0<=Up x+1:=by have:=Gm x; grind
  obtain ⟨e,e1,e2,e3⟩:=Gb (Qir hR p) (M9 (x:=dv p x) λh'=>h (Ff.2 h'));refine ⟨e,e1,λy h1 h2=>?_⟩;have hy:Up y<=Up x+1:=by
   have:=Rt x (y-x);have e:x+(y-x)=y:=by grind
   have e':Up (y-x)=y-x:=by unfold Up; split <;> grind
   rw [e,e'] at this; grind
  have:=Qjv (p:=p) (by grind) hy hR h1 h2 Qq e3;rw [hx] at this;rw [<-this]; congr 1; grind
 ·rw [Dy h0] at h ⊢;obtain ⟨e,e1,e2⟩:=Qa9 h;exact ⟨e,e1,λy h1 h2=>e2 y (by rw [Tc]; constructor <;> grind)⟩
def cq (P:List Rat) (lo hi q:Rat):Int:=if q<=lo then 1 else if hi<q then -1 else if Us (ev P q)=0 then 0 else if Us (ev P q)=Te P lo then 1 else -1
structure Vt (P:List Rat) (L:List (List Rat)) (lo hi:Rat):Prop where
 s:Stm P L
 l:lo<hi
 v:vv L lo=vv L hi+1
variable {P:List Rat} {L:List (List Rat)} {lo hi:Rat}
theorem Nj {q:Rat} (h:q<=lo):cq P lo hi q=1:=by unfold cq; rw [if_pos h]
theorem Ih {q:Rat} (h:lo<hi) (h':hi<q):cq P lo hi q=-1:=by unfold cq; rw [if_neg (by grind),if_pos h']
theorem My {q:Rat} (h1:lo<q) (h2:q<=hi):cq P lo hi q=if Us (ev P q)=0 then 0 else if Us (ev P q)=Te P lo then 1 else -1:=by
 unfold cq; rw [if_neg (by grind),if_neg (by grind)]
theorem Vt.two (V:Vt P L lo hi) {q:Rat} (h1:lo<q) (h2:q<=hi):vv L q=vv L lo/\cq P lo hi q=1/\Us (ev P q)=Te P lo\/vv L q=vv L hi/\cq P lo hi q≠1/\Te P q=-Te P lo/\Te P lo≠0:=by
 have a:=Lb V.s h1;have b:vv L hi<=vv L q:=by
  rcases Classical.em (q=hi) with e | e
  ·rw [e]; exact Qm _
  ·exact Lb V.s (by grind)
 have hv:=V.v;rcases (show vv L q=vv L lo\/vv L q=vv L hi by omega) with e | e
 ·have hs:=Qqv V.s h1 e.symm;refine .inl ⟨e,?_,hs.s⟩;rw [My h1 h2,hs.s,if_neg hs.n,if_pos rfl]
 ·obtain ⟨o1,o2⟩:=Qqu V.s h1 (by omega);refine .inr ⟨e,?_,o2,o1⟩;rw [My h1 h2]
  split
  ·decide
  ·rename_i h0;rw [Dy h0] at o2;rw [if_neg (by omega)]; decide
theorem Vt.lowlo (V:Vt P L lo hi):Te P lo≠0:=(Qqu V.s V.l V.v).1
theorem Vt.eq_lo (V:Vt P L lo hi) {q:Rat} (h1:lo<q) (h2:q<=hi) (h:cq P lo hi q=1):vv L q=vv L lo:=by
 rcases V.two h1 h2 with ⟨e,_⟩ | ⟨_,e,_⟩
 ·exact e
 ·exact absurd h e
theorem Vt.eq_hi (V:Vt P L lo hi) {q:Rat} (h1:lo<q) (h2:q<=hi) (h:cq P lo hi q≠1):vv L q=vv L hi:=by
 rcases V.two h1 h2 with ⟨_,e,_⟩ | ⟨e,_⟩
 ·exact absurd e h
 ·exact e
theorem Vt.hi1 (V:Vt P L lo hi):cq P lo hi hi≠1:=λh=>by have:=V.eq_lo V.l Qq h; have:=V.v; omega
theorem Vt.cut (V:Vt P L lo hi):Cut (cq P lo hi) where
 val q:=by unfold cq; split <;> (try split) <;> (try split) <;> (try split) <;> simp
 mono q r h h1:=by
  have hq:lo<q:=by
   rcases U0 q lo with e | e
   ·exact absurd (Nj e) h1
   ·exact e
  rcases U0 r hi with e | e
  ·have e1:=V.eq_hi hq (by grind) h1;rcases V.two (q:=r) (by grind) e with ⟨e2,_⟩ | ⟨e2,_,e3,e4⟩
   ·have:=Lb V.s h; have:=V.v; omega
   ·have hs:=Qqv V.s h (by omega);rcases V.two hq (by grind) with ⟨e5,_⟩ | ⟨_,_,e5,_⟩
    ·have:=V.v; omega
    ·rw [My (by grind) e,hs.s,if_neg hs.n,e5,if_neg (by omega)]
  ·exact Ih V.l e
 up q h:=by
  rcases U0 q lo with e | e
  ·obtain ⟨d,dp,hd⟩:=Zlt V.lowlo;obtain ⟨f,fp,f1,f2⟩:=min2 (a:=d) (b:=hi-lo) dp (by have:=V.l; grind);have h1:lo<lo+f:=by clear hd; grind
   have h2:lo+f<=hi:=by clear hd; grind
   have:=hd (lo+f) h1 (by clear hd; grind);exact ⟨lo+f,by clear hd; grind,by rw [My h1 h2,this,if_neg V.lowlo,if_pos rfl]⟩
  ·have hh:q<=hi:=by
    rcases U0 q hi with e' | e'
    ·exact e'
    ·have:=Ih (P:=P) V.l e'; omega
   rcases V.two e hh with ⟨e1,_,e2⟩ | ⟨_,e1,_⟩
   ·have hn:q≠hi:=λh=>by rw [h] at e1; have:=V.v; omega
    obtain ⟨d,dp,hd⟩:=Qa9 (p:=P) (x:=q) (by rw [e2]; exact V.lowlo);obtain ⟨f,fp,f1,f2⟩:=min2 (a:=d) (b:=hi-q) dp (by clear hd; grind);have:=hd (q+f) (by rw [Tc]; clear hd; constructor <;> grind);exact ⟨q+f,by clear hd; grind,by rw [My (by clear hd; grind) (by clear hd; grind),this,e2,if_neg V.lowlo,if_pos rfl]⟩
   ·exact absurd h e1
 dn q h:=by
  have hq:lo<q:=by
   rcases U0 q lo with e | e
   ·have:=Nj (P:=P) (hi:=hi) e; omega
   ·exact e
  rcases U0 q hi with e | e
  ·rw [My hq e] at h
   split at h
   ·cases h
   rename_i h0
   split at h
   ·cases h
   rename_i h1;obtain ⟨d,dp,hd⟩:=Qa9 h0;obtain ⟨f,fp,f1,f2⟩:=min2 (a:=d) (b:=(q-lo) / 2) dp (Dq (by clear hd; grind) (by decide));have h2:(q-lo) / 2*2=q-lo:=Fj (by decide);have:=hd (q-f) (by rw [Tc]; clear hd; constructor <;> grind);exact ⟨q-f,by clear hd; grind,by rw [My (by clear hd; grind) (by clear hd; grind),this,if_neg h0,if_neg h1]⟩
  ·have h2:(q-hi) / 2*2=q-hi:=Fj (by decide);exact ⟨q-(q-hi) / 2,by grind,Ih V.l (by grind)⟩
 lo:=⟨lo,Nj Qq⟩
 hi:=⟨hi+1,Ih V.l (by grind)⟩
theorem Vt.van (V:Vt P L lo hi):Ei P (cq P lo hi):=by
 have hc:=V.cut;rcases O8 hc P with h | ⟨s,hs,h⟩
 ·exact h
 ·exfalso;have e1:s=Te P lo:=by
   obtain ⟨x,hx,hx1⟩:=Q0d hc h;obtain ⟨q,q1,q2,q3⟩:=Qip hc hx (Nj (P:=P) (hi:=hi) (Qq (a:=lo)));have hq:q<=hi:=by
    rcases U0 q hi with e | e
    ·exact e
    ·have:=Ih (P:=P) V.l e; omega
   rcases V.two q3 hq with ⟨_,_,e⟩ | ⟨_,e,_⟩
   ·rw [<-hx1 q q1 (Qp q2),e]
   ·exact absurd q1 e
  rcases hc.val hi with e | e | e
  ·exact V.hi1 e
  ·have h0:=Qs5 hc e h;rw [My V.l Qq] at e
   split at e
   ·omega
   ·split at e <;> omega
  ·obtain ⟨y,hy,hy1⟩:=Qnc hc h;obtain ⟨q,q1,q2,q3⟩:=Qvz hc hy e;have hq:lo<q:=hc.lt (Nj (P:=P) (hi:=hi) (Qq (a:=lo))) q1;have:=hy1 q q1 (Qp q2);rw [My hq (Qp q3),this,if_neg hs,if_pos e1] at q1;cases q1
def Qwj (w:List Rat) (lo hi:Rat):Prop:=Us (ev w hi)=0\/Us (ev w hi)≠Te w lo
theorem Vt.has (V:Vt P L lo hi) {w u:List Rat} (hf:∀ t,ev P t=ev w t*ev u t) {a b:Rat} (h1:lo<=a) (h2:a<b) (h3:b<=hi):Qwj w a b↔Ei w (cq P lo hi)/\cq P lo hi a=1/\cq P lo hi b≠1:=by
 have hc:=V.cut;have smno:vv L a=vv L b->¬Qwj w a b:=λh hh=>by
  have:=Qbp V.s hf h2 h;rcases hh with e | e
  ·rw [this.s] at e; exact this.n e
  ·exact e this.s
 by_cases ha:cq P lo hi a=1
 ·by_cases hb:cq P lo hi b=1
  ·have e1:=V.eq_lo (by grind) h3 hb;have e2:vv L a=vv L lo:=by
    rcases Classical.em (lo=a) with e | e
    ·rw [e]
    ·exact V.eq_lo (by grind) (by grind) ha
   exact ⟨λh=>absurd h (smno (by omega)),λh=>absurd hb h.2.2⟩
  ·have e1:=V.eq_hi (by grind) h3 hb;have e2:vv L a=vv L lo:=by
    rcases Classical.em (lo=a) with e | e
    ·rw [e]
    ·exact V.eq_lo (by grind) (by grind) ha
   have left:∀ s,LS w (cq P lo hi) s->s=Te w a:=λs hs=>by
    obtain ⟨x,hx,hx1⟩:=hs;obtain ⟨q,q1,q2,q3⟩:=Qip hc hx ha;have hqb:q<b:=by
     rcases U0 b q with e | e
     ·rcases Classical.em (b=q) with e' | e'
      ·rw [e'] at hb; exact absurd q1 hb
      ·have:=hc.mono b q (by clear hx1 smno; grind) hb; omega
     ·exact e
    have:=V.eq_lo (q:=q) (by clear hx1 smno; grind) (by clear hx1 smno; grind) q1;rw [<-(Qbp V.s hf q3 (by omega)).s,hx1 q q1 (Qp q2)]
   have right:∀ s,RS w (cq P lo hi) s->cq P lo hi b=-1->s=Us (ev w b):=λs hs hb=>by
    obtain ⟨y,hy,hy1⟩:=hs;obtain ⟨q,q1,q2,q3⟩:=Qvz hc hy hb;have hqa:=hc.lt ha q1;have:=V.eq_hi (q:=q) (by clear hy1 smno; grind) (by clear hy1 smno; grind) (by omega);have hs:=Qbp V.s hf q3 (by omega);have hl:=hy1 q q1 (Qp q2);have h0:Us (ev w q)≠0:=by
     have hs2:=Qbp V.s hf (x:=q) (y:=b) q3 (by omega);intro h0;obtain ⟨r,r1,r2⟩:=hc.dn q q1;have har:=hc.lt ha r2;have:=V.eq_hi (q:=r) (by clear hy1 smno; grind) (by clear hy1 smno; grind) (by omega);have hs3:=Qbp V.s hf (x:=r) (y:=q) r1 (by omega);have hs4:=hs3.s;rw [h0] at hs4; exact hs3.n hs4.symm
    rw [hs.s,Dy h0,hl]
   refine ⟨λh=>⟨?_,ha,hb⟩,λ⟨hw,_,_⟩=>?_⟩
   ·rcases O8 hc w with e | ⟨s,hs0,hs⟩
    ·exact e
    ·exfalso;have l1:=left s (Q0d hc hs);have r1:Us (ev w b)=s:=by
      rcases hc.val b with e | e | e
      ·exact absurd e hb
      ·exact Qs5 hc e hs
      ·exact (right s (Qnc hc hs) e).symm
     rcases h with h | h
     ·exact hs0 (by rw [<-r1]; exact h)
     ·exact h (by rw [r1,l1])
   ·rcases hc.val b with e | e | e
    ·exact absurd e hb
    ·exact .inl (Ff.2 (Qf1 hc e hw))
    ·obtain ⟨s,hs0,hs⟩:=Qzi hc V.s hf hw;have l1:=left _ (Q77 hc hw (Q0d hc hs) hs0);have r1:=right _ (Qqb hc hw (Qnc hc hs) hs0) e;exact .inr (by rw [<-l1,<-r1]; omega)
 ·have hla:lo<a:=by
   rcases Classical.em (lo=a) with e | e
   ·rw [<-e] at ha; exact absurd (Nj Qq) ha
   ·grind
  have hb:cq P lo hi b≠1:=by have:=hc.mono a b h2 ha; omega
  have e1:=V.eq_hi hla (by grind) ha;have e2:=V.eq_hi (q:=b) (by grind) h3 hb;exact ⟨λh=>absurd h (smno (by omega)),λh=>absurd h.2.1 ha⟩
theorem Qrt {c c':Rat->Int} (hc:Cut c) (hc':Cut c') {q:Rat} (h:c q≠c' q):∃ r,(c r=-1/\c' r=1)\/(c r=1/\c' r=-1):=by
 rcases hc.val q with e | e | e <;> rcases hc'.val q with e' | e' | e'
 ·omega
 ·obtain ⟨r,r1,r2⟩:=hc.up q e;exact ⟨r,.inr ⟨r2,hc'.mono q r r1 (by omega)⟩⟩
 ·exact ⟨q,.inr ⟨e,e'⟩⟩
 ·obtain ⟨r,r1,r2⟩:=hc'.up q e';exact ⟨r,.inl ⟨hc.mono q r r1 (by omega),r2⟩⟩
 ·omega
 ·obtain ⟨r,r1,r2⟩:=hc'.dn q e';exact ⟨r,.inr ⟨hc.mono' r1 (by omega),r2⟩⟩
 ·exact ⟨q,.inl ⟨e,e'⟩⟩
 ·obtain ⟨r,r1,r2⟩:=hc.dn q e;exact ⟨r,.inl ⟨r2,hc'.mono' r1 (by omega)⟩⟩
 ·omega
theorem Vt.uniq (V:Vt P L lo hi) {c:Rat->Int} (hc:Cut c) (h1:c lo=1) (h2:c hi≠1) (hv:Ei P c) (q:Rat):c q=cq P lo hi q:=by
 rcases Classical.em (c q=cq P lo hi q) with e | e
 ·exact e
 ·exfalso;obtain ⟨r,⟨r1,r2⟩ | ⟨r1,r2⟩⟩:=Qrt hc V.cut e
  ·have hl:=hc.lt h1 r1;have hh:r<=hi:=by
    rcases U0 r hi with e | e
    ·exact e
    ·have:=Ih (P:=P) V.l e; omega
   have:=V.eq_lo hl hh r2;exact Q8k V.s (w:=P) (u:=[1]) (λt=>by rw [Hm]; grind) (x:=lo) (y:=r) (by omega) hc h1 (by omega) hv
  ·have hl:lo<r:=by
    rcases U0 r lo with e | e
    ·have:=Nj (P:=P) (hi:=hi) e; omega
    ·exact e
   have hh:r<=hi:=by
    rcases U0 r hi with e | e
    ·exact e
    ·have:=hc.mono hi r e h2; omega
   have:=V.eq_hi hl hh (by omega);exact Q8k V.s (w:=P) (u:=[1]) (λt=>by rw [Hm]; grind) (x:=r) (y:=hi) (by omega) hc r1 h2 hv
theorem Vt.same (V:Vt P L lo hi) {P':List Rat} {L':List (List Rat)} {lo' hi':Rat} (V':Vt P' L' lo' hi') {g u u' U W:List Rat} {k:Rat} (hk:k≠0) (h1:∀ t,ev P t=ev g t*ev u t) (h2:∀ t,ev P' t=ev g t*ev u' t) (h3:∀ t,k*ev g t=ev U t*ev P t+ev W t*ev P' t) {a b:Rat} (ha1:lo<=a) (ha2:lo'<=a) (ha:a=lo\/a=lo') (hb1:b<=hi) (hb2:b<=hi') (hb:b=hi\/b=hi'):(a<b/\Qwj g a b)↔∀ q,cq P lo hi q=cq P' lo' hi' q:=by
 have hc:=V.cut;have hc':=V'.cut;constructor
 ·rintro ⟨hab,hg⟩
  obtain ⟨g1,g2,g3⟩:=(V.has h1 ha1 hab hb1).1 hg;obtain ⟨g4,g5,g6⟩:=(V'.has h2 ha2 hab hb2).1 hg;intro q;refine (V.uniq hc' (by
   rcases Classical.em (lo=a) with e | e
   ·rw [e]; exact g5
   ·exact hc'.mono' (q:=lo) (r:=a) (by grind) (by omega)) (λh=>?_) (T0 hc' h1 g4) q).symm
  rcases Classical.em (b=hi) with e | e
  ·rw [<-e] at h; exact g6 h
  ·have:=hc'.mono b hi (by grind) g6; omega
 ·intro h;have hcc:cq P' lo' hi'=cq P lo hi:=funext λq=>(h q).symm
  have e1:cq P lo hi a=1:=by
   rcases ha with rfl | rfl
   ·exact Nj Qq
   ·rw [h]; exact Nj Qq
  have e2:cq P lo hi b≠1:=by
   rcases hb with rfl | rfl
   ·exact V.hi1
   ·rw [h]; exact V'.hi1
  have hab:a<b:=by
   rcases U0 b a with e | e
   ·rcases Classical.em (b=a) with e' | e'
    ·rw [e'] at e2; exact absurd e1 e2
    ·have:=hc.mono b a (by grind) e2; omega
   ·exact e
  have v1:=V.van;have v2:=V'.van;rw [hcc] at v2;have hg:Ei g (cq P lo hi):=by
   have a1:Ei (Fu U P) (cq P lo hi):=T0 hc (p:=P) (q:=U) (λt=>by rw [Uo]; grind) v1;have a2:Ei (Fu W P') (cq P lo hi):=T0 hc (p:=P') (q:=W) (λt=>by rw [Uo]; grind) v2;have a3:=Qh8 (λt=>Fo t _ _) a1 a2;refine Qnt hc (k:=1 / k) (λt=>?_) a3;rw [Fo,Uo,Uo,<-h3];have:1 / k*(k*ev g t)=1 / k*k*ev g t:=by grind
   rw [this,show 1 / k*k=1 from Zg hk]; grind
  exact ⟨hab,(V.has h1 ha1 hab hb1).2 ⟨hg,e1,e2⟩⟩
end Orq
namespace Orq
theorem Q82:∀ (M:Nat) (f:Nat->Nat),(∀ i,i<=M->f i<M)->∃ i j,i<j/\j<=M/\f i=f j
 | 0,f,h=>absurd (h 0 (Qm _)) (Ub _)
 |
  M+1,f,h=>by
  rcases Classical.em (∃ i,i<=M/\f i=f (M+1)) with ⟨i,h1,h2⟩ | hn
  ·exact ⟨i,M+1,by omega,Qm _,h2⟩
  ·have hne:∀ i,i<=M->f i≠f (M+1):=λi hi e=>hn ⟨i,hi,e⟩
   obtain ⟨i,j,h1,h2,h3⟩:=Q82 M (λi=>if f i=M then f (M+1) else f i) λi hi=>by
    have a1:=h i (by omega);have a2:=h (M+1) (Qm _);have a3:=hne i hi;show (if f i=M then f (M+1) else f i)<M
    split <;> omega
   refine ⟨i,j,h1,by omega,?_⟩;have a1:=hne i (by omega);have a2:=hne j h2
   split at h3 <;> split at h3 <;> omega
def dg (B k i:Nat):Nat:=k / B^i % B
theorem Qzg (B k i:Nat):dg B k (i+1)=dg B (k / B) i:=by unfold dg; rw [Nat.pow_succ,Nat.mul_comm,Nat.div_div_eq_div_mul]
theorem Q6q {B:Nat}:∀ (N:Nat) {k k':Nat},k<B^N->k'<B^N->(∀ i,i<N->dg B k i=dg B k' i)->k=k'
 | 0,k,k',h,h',_=>by rw [Y7] at h h'; omega
 |
  N+1,k,k',h,h',he=>by
  have h0:=he 0 (by omega);unfold dg at h0;rw [Y7,Nat.div_one,Nat.div_one] at h0;have hB:0<B:=by
   rcases Qy B with e | e
   ·rw [e,Zm,Yq] at h; omega
   ·exact e
  have h1:=Q6q N (k:=k / B) (k':=k' / B) (X6 (by rw [Zj,<-Zm]; exact h)) (X6 (by rw [Zj,<-Zm]; exact h')) λi hi=>by
   rw [<-Qzg,<-Qzg]; exact he (i+1) (by omega)
  rw [<-W8 k B,<-W8 k' B,h0,h1]
def cd (B:Nat):Nat->(Nat->Nat)->Nat
 | 0,_=>0
 | E+1,x=>x 0+B*cd B E λe=>x (e+1)
theorem Zgj {B:Nat}:∀ (E:Nat) {x:Nat->Nat},(∀ e,e<E->x e<B)->cd B E x<B^E
 | 0,_,_=>by simp [cd]
 |
  E+1,x,h=>by
  have h1:=h 0 (by omega);have h2:=Zgj E (x:=λe=>x (e+1)) λe he=>h (e+1) (by omega)
  simp only [cd];have h3:B*cd B E (λe=>x (e+1))+B<=B*B^E:=by
   rw [<-Ke]; exact Zl _ h2
  rw [Zm,Zj (B^E)]; omega
theorem Q59 {B:Nat}:∀ (E:Nat) {x y:Nat->Nat},(∀ e,e<E->x e<B)->(∀ e,e<E->y e<B)->cd B E x=cd B E y->∀ e,e<E->x e=y e
 | 0,_,_,_,_,_,e,he=>by omega
 |
  E+1,x,y,hx,hy,h,e,he=>by
  have h1:=hx 0 (by omega);have h2:=hy 0 (by omega);simp only [cd] at h;have e0:x 0=y 0:=by
   have:=congrArg (· % B) h;simp only [V7] at this;rwa [X4 h1,X4 h2] at this
  have e1:cd B E (λe=>x (e+1))=cd B E (λe=>y (e+1)):=Nat.eq_of_mul_eq_mul_left (by omega:0<B) (by omega);cases e with
  | zero=>exact e0
  | succ e=>exact Q59 E (λe he=>hx (e+1) (by omega)) (λe he=>hy (e+1) (by omega)) e1 e (by omega)
def sm:Nat->(Nat->Int)->Int
 | 0,_=>0
 | n+1,f=>sm n f+f n
theorem Zah (f g:Nat->Int):∀ n,sm n (λi=>f i-g i)=sm n f-sm n g
 | 0=>rfl
 | n+1=>by simp only [sm,Zah f g n]; omega
theorem Bw {f g:Nat->Int}:∀ n,(∀ i,i<n->f i=g i)->sm n f=sm n g
 | 0,_=>rfl
 | n+1,h=>by simp only [sm,Bw n (λi hi=>h i (by omega)),h n (by omega)]
theorem Zag {f:Nat->Int} {b:Nat}:∀ n,(∀ i,i<n->(f i).natAbs<=b)->(sm n f).natAbs<=n*b
 | 0,_=>by simp [sm]
 |
  n+1,h=>by
  have h1:=Zag n λi hi=>h i (by omega)
  have h2:=h n (by omega);simp only [sm];rw [Xe]; omega
theorem Qaz {f:Nat->Int}:∀ n,(∀ i,i<n->f i=0)->sm n f=0
 | 0,_=>rfl
 | n+1,h=>by simp only [sm,Qaz n (λi hi=>h i (by omega)),h n (by omega)]; rfl
theorem Qxs (f:Nat->Int) (m:Nat):∀ n,sm (m+n) f=sm m f+sm n λi=>f (m+i)
 | 0=>by simp [sm]
 | n+1=>by rw [<-Yf]; simp only [sm,Qxs f m n]; omega
theorem Qxt (f:Nat->Int) (J:Nat):∀ b,sm (b*J) f=sm b λi=>sm J λj=>f (i*J+j)
 | 0=>by simp [sm]
 | b+1=>by rw [Xe,Qxs,Qxt f J b]; rfl
theorem Qkp {f:Nat->Int} {k:Nat}:∀ n,k<n->(∀ i,i<n->i≠k->f i=0)->sm n f=f k
 | 0,h,_=>by omega
 |
  n+1,h,h1=>by
  simp only [sm];rcases Vh (Nat.le_of_lt_succ h) with e | e
  ·rw [Qkp n e λi hi=>h1 i (by omega),h1 n (by omega) (by omega)]; omega
  ·subst e; rw [Qaz k λi hi=>h1 i (by omega) (by omega)]; omega
theorem Zjq {M:Nat->Nat->Int} {h N E H:Nat} (hM:∀ e i,(M e i).natAbs<=h) (hc:(2*(N*(h*H))+1)^E<(H+1)^N) :
 ∃ v:Nat->Int,(∀ i,(v i).natAbs<=H)/\(∃ i,i<N/\v i≠0)/\∀ e,e<E->sm N (λi=>M e i*v i)=0:=by
 obtain ⟨T,hT⟩:=nmE (N*(h*H));rw [<-hT] at hc;have hv:∀ k i,dg (H+1) k i<=H:=λk i=>Nat.le_of_lt_succ (Xd _ (by omega))
 have hs:∀ k e,(sm N λi=>M e i*(dg (H+1) k i:Int)).natAbs<=T:=λk e=>by
  rw [hT];refine Zag N λi _=>?_
  rw [Jp,Xa];exact Zw (hM e i) (hv k i)
 have him:∀ k e,((sm N λi=>M e i*(dg (H+1) k i:Int))+T).toNat<2*T+1:=λk e=>by have:=hs k e; omega
 obtain ⟨i,j,h1,h2,h3⟩:=Q82 ((2*T+1)^E) (λk=>cd (2*T+1) E λe=>((sm N λi=>M e i*(dg (H+1) k i:Int))+T).toNat) λk _=>Zgj E λe _=>him k e
 have h4:=Q59 E (λe _=>him i e) (λe _=>him j e) h3;refine ⟨λn=>(dg (H+1) i n:Int)-dg (H+1) j n,λn=>?_,?_,λe he=>?_⟩
 ·have a1:=hv i n;have a2:=hv j n;show ((dg (H+1) i n:Int)-dg (H+1) j n).natAbs<=H;omega
 ·rcases Classical.em (∃ n,n<N/\(dg (H+1) i n:Int)-dg (H+1) j n≠0) with e | e
  ·exact e
  ·exfalso;have:i=j:=Q6q (B:=H+1) N (by omega) (by omega) λn hn=>by
    rcases Classical.em (dg (H+1) i n=dg (H+1) j n) with e' | e'
    ·exact e'
    ·exact absurd ⟨n,hn,by omega⟩ e
   omega
 ·have a1:=h4 e he;have a2:=hs i e;have a3:=hs j e;have:(sm N λn=>M e n*(dg (H+1) i n:Int))=sm N λn=>M e n*(dg (H+1) j n:Int):=by omega
  have e1:=Zah (λn=>M e n*(dg (H+1) i n:Int)) (λn=>M e n*(dg (H+1) j n:Int)) N;rw [this] at e1;rw [Bw N (g:=λn=>M e n*(dg (H+1) i n:Int)-M e n*(dg (H+1) j n:Int)) λn _=>Int.mul_sub _ _ _,e1]; omega
def Ui:List Int->Rat->Rat
 | [],_=>0
 | a::p,t=>(a:Rat)+t*Ui p t
def sq:Nat->(Nat->Rat)->Rat
 | 0,_=>0
 | n+1,f=>sq n f+f n
theorem Tq {f g:Nat->Rat}:∀ n,(∀ i,i<n->f i=g i)->sq n f=sq n g
 | 0,_=>rfl
 | n+1,h=>by simp only [sq,Tq n (λi hi=>h i (by omega)),h n (by omega)]
theorem Qxx (f g:Nat->Rat):∀ n,sq n (λi=>f i+g i)=sq n f+sq n g
 | 0=>by simp only [sq]; grind
 | n+1=>by simp only [sq,Qxx f g n]; grind
theorem O3 (c:Rat) (f:Nat->Rat):∀ n,sq n (λi=>c*f i)=c*sq n f
 | 0=>by simp only [sq]; grind
 | n+1=>by simp only [sq,O3 c f n]; grind
theorem Nc {f:Nat->Rat}:∀ n,(∀ i,i<n->f i=0)->sq n f=0
 | 0,_=>rfl
 | n+1,h=>by simp only [sq,Nc n (λi hi=>h i (by omega)),h n (by omega)]; grind
theorem Ag (f:Nat->Rat):∀ n,sq (n+1) f=f 0+sq n λi=>f (i+1)
 | 0=>by simp only [sq]; grind
 | n+1=>by rw [sq,Ag f n]; simp only [sq]; grind
theorem Zg6 {f:Nat->Rat} {b:Rat}:∀ n,(∀ i,i<n->Up (f i)<=b)->Up (sq n f)<=(n:Rat)*b
 | 0,_=>by rw [show ((0:Nat):Rat)=0 from rfl]; simp only [sq,G8]; grind
 |
  n+1,h=>by
  have h1:=Zg6 n λi hi=>h i (by omega)
  have h2:=h n (by omega);have h3:=Rt (sq n f) (f n);have hn':(((n+1:Nat):Rat))=(n:Rat)+1:=by push_cast; rfl
  rw [hn']; simp only [sq]; clear h; grind
def gc:List Int->Nat->Nat->Int
 | [],_,_=>0
 | c::B,k,j=>(if k=0/\j=0 then c else 0)+(if k=0 then 0 else gc B (k-1) j)-(if j=0 then 0 else gc B k (j-1))
def gB:List Int->Nat
 | []=>0
 | c::B=>max c.natAbs (2*gB B)
theorem Qhm:∀ (B:List Int) (k j:Nat),B.length<=k+j->gc B k j=0
 | [],_,_,_=>rfl
 |
  c::B,k,j,h=>by
  simp only [Q7] at h;simp only [gc];rw [if_neg (by omega)];have e1:(if k=0 then 0 else gc B (k-1) j)=0:=by
   split
   ·rfl
   ·exact Qhm B _ _ (by omega)
  have e2:(if j=0 then 0 else gc B k (j-1))=0:=by
   split
   ·rfl
   ·exact Qhm B _ _ (by omega)
  rw [e1,e2]; rfl
theorem Q7g:∀ (B:List Int) (k j:Nat),(gc B k j).natAbs<=gB B
 | [],_,_=>Qg _
 |
  c::B,k,j=>by
  have h1:=Q7g B (k-1) j;have h2:=Q7g B k (j-1);simp only [gc,gB];by_cases hk:k=0 <;> by_cases hj:j=0 <;> simp only [hk,hj,true_and,and_true,false_and,and_false,if_true,if_false] <;> (try subst hk) <;> (try subst hj) <;> omega
theorem Q7h:∀ (B:List Int) (b:Nat),B.length=b+1->(gc B 0 b).natAbs=(B.getD b 0).natAbs
 | [],_,h=>by simp at h
 | [c],0,_=>by simp [gc]
 | c::d::B,0,h=>by simp at h
 |
  c::B,b+1,h=>by
  have ih:=Q7h B b (by simpa using h);simp only [gc];simp only [J6,Q0];rw [if_pos trivial,if_neg (Nat.succ_ne_zero b),<-ih]; omega
def E2 (F:Nat->Nat->Int) (K J:Nat) (x y:Rat):Rat:=sq K λk=>sq J λj=>(F k j:Rat)*(y^k*x^j)
theorem Qv3 (F G:Nat->Nat->Int) (K J:Nat) (x y:Rat):E2 (λk j=>F k j+G k j) K J x y=E2 F K J x y+E2 G K J x y:=by
 unfold E2;rw [<-Qxx];refine Tq K λk _=>?_
 rw [<-Qxx];exact Tq J λj _=>by push_cast; grind
theorem Q6y (c:Int) (F:Nat->Nat->Int) (K J:Nat) (x y:Rat):E2 (λk j=>F k j*c) K J x y=(c:Rat)*E2 F K J x y:=by
 unfold E2;rw [<-O3];refine Tq K λk _=>?_
 rw [<-O3];exact Tq J λj _=>by push_cast; grind
theorem Q6z (φ:Nat->Nat->Nat->Int) (v:Nat->Int) (K J:Nat) (x y:Rat):∀ N,E2 (λk j=>sm N λn=>φ n k j*v n) K J x y=sq N λn=>(v n:Rat)*E2 (φ n) K J x y
 |
  0=>by
  simp only [sq,sm];unfold E2;refine Nc K λk _=>Nc J λj _=>?_
  rw [show ((0:Int):Rat)=0 from rfl]; grind
 |
  N+1=>by
  simp only [sq];rw [<-Q6z φ v K J x y N,<-Q6y,<-Qv3];rfl
theorem Qdw (t:Rat) (i:Nat):∀ k,t^(i+k)=t^i*t^k
 | 0=>by rw [Xu,Xf]; grind
 | k+1=>by rw [<-Yf,Z9,Z9,Qdw t i k]; grind
theorem Qkr (f:Nat->Rat):∀ (i n:Nat),sq (i+n) (λk=>if i<=k then f (k-i) else 0)=sq n f
 | i,0=>Nc _ λk hk=>by rw [if_neg (by omega)]
 |
  i,n+1=>by
  rw [<-Yf]; simp only [sq];rw [Qkr f i n,if_pos (by omega),Je]
def shF (i j':Nat) (F:Nat->Nat->Int) (k j:Nat):Int:=if i<=k then (if j'<=j then F (k-i) (j-j') else 0) else 0
theorem Qi1 (F:Nat->Nat->Int) (i j' K J:Nat) (x y:Rat):E2 (shF i j' F) (i+K) (j'+J) x y=y^i*x^j'*E2 F K J x y:=by
 unfold E2;rw [<-O3,<-Qkr _ i K];refine Tq _ λk _=>?_
 by_cases hk:i<=k
 ·rw [if_pos hk,<-O3,<-Qkr _ j' J];refine Tq _ λj _=>?_
  unfold shF;rw [if_pos hk];by_cases hj:j'<=j
  ·rw [if_pos hj,if_pos hj];have e1:y^k=y^i*y^(k-i):=by rw [<-Qdw]; congr 1; omega
   have e2:x^j=x^j'*x^(j-j'):=by rw [<-Qdw]; congr 1; omega
   rw [e1,e2]; grind
  ·rw [if_neg hj,if_neg hj,show ((0:Int):Rat)=0 from rfl]; grind
 ·rw [if_neg hk];refine Nc _ λj _=>?_
  unfold shF;rw [if_neg hk,show ((0:Int):Rat)=0 from rfl]; grind
def fA (A:List Int) (k j:Nat):Int:=if j=0 then A.getD k 0 else 0
theorem Q80 (y:Rat):∀ (A:List Int) (K:Nat),A.length<=K->sq K (λk=>((A.getD k 0:Int):Rat)*y^k)=Ui A y
 | [],K,_=>by rw [Nc]; rfl; intro i _; simp
 | a::A,0,h=>by simp at h
 |
  a::A,K+1,h=>by
  have ih:=Q80 y A K (by simpa using h);rw [Ag];simp only [Ui,Zp,Q0,Xf];rw [<-ih,<-O3];have:(sq K λi=>((A.getD i 0:Int):Rat)*y^(i+1))=sq K λi=>y*(((A.getD i 0:Int):Rat)*y^i):=Tq K λi _=>by rw [Z9]; grind
  rw [this]; grind
theorem Zlp (A:List Int) (K J:Nat) (x y:Rat) (h:A.length<=K):E2 (fA A) K (J+1) x y=Ui A y:=by
 rw [<-Q80 y A K h];refine Tq K λk _=>?_
 rw [Ag,Nc]
 ·simp only [fA,if_true,Xf]; grind
 ·intro j _;simp only [fA];rw [if_neg (by omega),show ((0:Int):Rat)=0 from rfl]; grind
theorem Zif (x y:Rat):∀ (B:List Int) (K J:Nat),B.length<=K->B.length<=J->E2 (gc B) K J x y=Ui B (y-x)
 |
  [],K,J,_,_=>by
  unfold E2;simp only [gc,Ui];exact Nc K λk _=>Nc J λj _=>by rw [show ((0:Int):Rat)=0 from rfl]; grind
 | c::B,0,J,h,_=>by simp at h
 | c::B,K+1,0,_,h=>by simp at h
 |
  c::B,K+1,J+1,h1,h2=>by
  have i1:=Zif x y B K (J+1) (by simpa using h1) (by simp at h2; omega);have i2:=Zif x y B (K+1) J (by simp at h1; omega) (by simpa using h2);have s1:=Qi1 (gc B) 1 0 K (J+1) x y;have s2:=Qi1 (gc B) 0 1 (K+1) J x y;rw [Z0,J1 1 K] at s1;rw [Z0,J1 1 J] at s2;rw [i1] at s1;rw [i2] at s2;have e0:E2 (fA [c]) (K+1) (J+1) x y=(c:Rat):=by rw [Zlp [c] (K+1) J x y (by simp)]; simp only [Ui]; grind
  have e1:gc (c::B)=λk j=>(fA [c] k j+shF 1 0 (gc B) k j)+shF 0 1 (gc B) k j*(-1):=by
   funext k j;simp only [gc,fA,shF];by_cases hk:k=0 <;> by_cases hj:j=0
   ·subst hk; subst hj; simp
   ·subst hk; simp [hj,show 1<=j by omega]
    try omega
   ·subst hj;obtain ⟨m,rfl⟩:∃ m,k=m+1:=⟨k-1,by omega⟩;simp
   ·obtain ⟨m,rfl⟩:∃ m,k=m+1:=⟨k-1,by omega⟩;obtain ⟨i,rfl⟩:∃ i,j=i+1:=⟨j-1,by omega⟩;simp; omega
  rw [e1,Qv3 (λk j=>fA [c] k j+shF 1 0 (gc B) k j) (λk j=>shF 0 1 (gc B) k j*(-1)),Qv3 (fA [c]) (shF 1 0 (gc B)),Q6y,e0,s1,s2];simp only [Ui,Xf,show y^1=y by rw [Z9,Xf]; grind,show x^1=x by rw [Z9,Xf]; grind];rw [show (((-1:Int)):Rat)=-1 from rfl];grind
def phi (A B:List Int) (b J J' n k j:Nat):Int:=if n<b*J then shF (n / J) (n % J) (fA A) k j else shF ((n-b*J) / J') ((n-b*J) % J') (gc B) k j
theorem Zaa {F:Nat->Nat->Int} {h:Nat} (hF:∀ k j,(F k j).natAbs<=h) (i j' k j:Nat):(shF i j' F k j).natAbs<=h:=by
 unfold shF; split
 ·split
  ·exact hF _ _
  ·exact Qg _
 ·exact Qg _
theorem Zgv {i b J j:Nat} (hi:i<b) (hj:j<J):i*J+j<b*J:=by
 have:(i+1)*J<=b*J:=Qz J hi;rw [Xe] at this; omega
theorem Qfd {i J j:Nat} (hj:j<J):(i*J+j) / J=i/\(i*J+j) % J=j:=by
 rw [Zj,W9 (by omega),Ua,Vw hj,X4 hj]; exact ⟨by omega,rfl⟩
theorem Qnm (A B:List Int) (a b J J':Nat) (v:Nat->Int) (k j:Nat):sm (b*J+a*J') (λn=>phi A B b J J' n k j*v n) =
 (sm b λi=>sm J λj1=>shF i j1 (fA A) k j*v (i*J+j1))+sm a λi=>sm J' λj1=>shF i j1 (gc B) k j*v (b*J+(i*J'+j1)):=by
 rw [Qxs,Qxt,Qxt];congr 1
 ·refine Bw b λi hi=>Bw J λj1 hj=>?_
  unfold phi;rw [if_pos (Zgv hi hj),(Qfd hj).1,(Qfd hj).2]
 ·refine Bw a λi hi=>Bw J' λj1 hj=>?_
  unfold phi;rw [if_neg (by omega),Je,(Qfd hj).1,(Qfd hj).2]
theorem Zlh (A:List Int) (v:Nat->Int) {i J k j:Nat} (hj:j<J):(sm J λj1=>shF i j1 (fA A) k j*v (i*J+j1))=if i<=k then A.getD (k-i) 0*v (i*J+j) else 0:=by
 rw [Qkp (k:=j) J hj λj1 _ hne=>?_]
 ·unfold shF fA;by_cases h:i<=k
  ·rw [if_pos h,if_pos h,if_pos (Qm _),if_pos (Yd _)]
  ·rw [if_neg h,if_neg h,Ya]
 ·unfold shF fA;by_cases h:i<=k
  ·rw [if_pos h];by_cases h':j1<=j
   ·rw [if_pos h',if_neg (by omega),Ya]
   ·rw [if_neg h',Ya]
  ·rw [if_neg h,Ya]
section
variable {A B:List Int} {a b J J':Nat} (hA:A.length=a+1) (hB:B.length=b+1) (lA:A.getD a 0≠0) (lB:B.getD b 0≠0) (hJ:J=J'+b) {v:Nat->Int} (hW:∀ k j,k<a+b->j<J->sm (b*J+a*J') (λn=>phi A B b J J' n k j*v n)=0)
include hA lA hW in
theorem Zgl {jj:Nat} (hj:jj<J) (hV:∀ k,a<=k->k<a+b->(sm a λi=>sm J' λj1=>shF i j1 (gc B) k jj*v (b*J+(i*J'+j1)))=0):∀ d i,i<b->b-i<=d->v (i*J+jj)=0:=by
 intro d
 induction d with
 | zero=>intro i hi hd; omega
 |
  succ d ih =>
  intro i hi hd;have h1:=hW (i+a) jj (by omega) hj;rw [Qnm,hV (i+a) (by omega) (by omega)] at h1;rw [Bw b (λi' hi'=>Zlh A v hj)] at h1;rw [Qkp (k:=i) b hi λi' hi' hne=>?_] at h1
  ·rw [if_pos (by omega),Je,Int.add_zero] at h1;rcases J9.1 h1 with h2 | h2
   ·exact absurd h2 lA
   ·exact h2
  ·rcases Q8 i i' with h | h
   ·rw [ih i' hi' (by omega)]; simp
   ·rw [if_pos (by omega),Qe,Qr (by omega)]; simp
include hA hB lA lB hJ hW in
theorem Zln:∀ d js,js<J'->J'-js<=d->∀ i,i<a->v (b*J+(i*J'+js))=0:=by
 intro d
 induction d with
 | zero=>intro js hi hd; omega
 |
  succ d ih =>
  intro js hjs hd i hi;have hin:∀ i' k,i'<a->(sm J' λj1=>shF i' j1 (gc B) k (js+b)*v (b*J+(i'*J'+j1)))=if i'=k then gc B 0 b*v (b*J+(i'*J'+js)) else 0:=λi' k hi'=>by
   rw [Qkp (k:=js) J' hjs λj1 hj1 hne=>?_]
   ·unfold shF;by_cases h:i'<=k
    ·rw [if_pos h,if_pos (by omega),Je];by_cases h':i'=k
     ·rw [if_pos h',h',Yd]
     ·rw [if_neg h',Qhm B _ _ (by omega),Ya]
    ·rw [if_neg h,if_neg (by omega),Ya]
   ·rcases Q8 js j1 with h | h
    ·rw [ih j1 hj1 (by omega) i' hi',Kb]
    ·unfold shF;by_cases h':i'<=k
     ·rw [if_pos h',if_pos (by omega),Qhm B _ _ (by omega),Ya]
     ·rw [if_neg h',Ya]
  have hU:=Zgl hA lA hW (jj:=js+b) (by omega) (λk hk hk'=>Qaz a λi' hi'=>by rw [hin i' k hi',if_neg (by omega)]) (b+1);have h1:=hW i (js+b) (by omega) (by omega);rw [Qnm,Bw a (λi' hi'=>hin i' i hi')] at h1;rw [Qaz b λi' hi'=>by
   rw [Zlh A v (by omega),hU i' hi' (by omega)]; simp] at h1
  rw [Qkp (k:=i) a hi λi' hi' hne=>if_neg hne,if_pos rfl,Int.zero_add] at h1;rcases J9.1 h1 with h2 | h2
  ·have:=Q7h B b hB; rw [h2] at this; omega
  ·exact h2
include hA hB lA lB hJ hW in
theorem Q4l:∀ n,n<b*J+a*J'->v n=0:=by
 intro n hn;have hV:=Zln hA hB lA lB hJ hW;rcases Q8 n (b*J) with h | h
 ·have hJp:0<J:=by
   rcases Qy J with e | e
   ·rw [e,Yq] at h; omega
   ·exact e
  have e1:=Xd n hJp;have e2:n / J<b:=X6 (by rw [Zj]; exact h);have:=Zgl hA lA hW e1 (λk _ _=>Qaz a λi hi=>Qaz J' λj1 hj1=>by rw [hV J' j1 hj1 (by omega) i hi,Kb]) (b+1) (n / J) e2 (Qd (Nat.sub_le _ _) (Nat.le_succ _));rwa [Zj,Xg] at this
 ·have hJp:0<J':=by
   rcases Qy J' with e | e
   ·rw [e,Yq] at hn; omega
   ·exact e
  have e1:=Xd (n-b*J) hJp;have e2:(n-b*J) / J'<a:=X6 (by rw [Zj J' a]; omega);have:=hV J' _ e1 (by omega) _ e2;rw [Zj ((n-b*J) / J'),Xg] at this;rwa [show b*J+(n-b*J)=n by omega] at this
end
theorem Qav {R x:Rat} (h1:1<=R) (hx:Up x<=R):∀ k:Nat,Up (x^k)<=R^k/\1<=R^k
 | 0=>by rw [Xf,Xf]; exact ⟨by decide,by decide⟩
 |
  k+1=>by
  obtain ⟨i1,i2⟩:=Qav h1 hx k;rw [Z9,Z9];have:=Su (a:=1) (c:=1) (by decide) i2 (by decide) h1;exact ⟨Fy i1 hx,by grind⟩
theorem Q08 {R:Rat} (h1:1<=R) {i:Nat}:∀ k,i<=k->R^i<=R^k
 | 0,h=>by rw [show i=0 by omega]; exact Qq
 |
  k+1,h=>by
  rcases Vh h with e | e
  ·have:=Q08 h1 (i:=i) k (by omega);have h2:=(Qav h1 (x:=0) (by rw [G8]; grind) k).2;rw [Z9];have:=Su (a:=R^k) (b:=R^k) (c:=1) (d:=R) (by grind) Qq (by decide) h1;grind
  ·rw [e]; exact Qq
theorem Q99 {F:Nat->Nat->Int} {i j' K J:Nat} {x y R X:Rat} {K2 J2:Nat} (h1:1<=R) (hx:Up x<=R) (hy:Up y<=R) (hK:K=i+K2) (hJ:J=j'+J2) (hF:E2 F K2 J2 x y=X):Up (E2 (shF i j' F) K J x y)<=R^(K+J)*Up X:=by
 subst hK; subst hJ;rw [Qi1,hF,Cv];have a1:=(Qav h1 hy i).1;have a2:=(Qav h1 hx j').1;have a3:=Fy a1 a2;rw [<-Qdw] at a3;have a4:=Q08 h1 (i:=i+j') (i+K2+(j'+J2)) (by omega);exact Su (Gm _) (Q9 a3 a4) (Gm _) Qq
theorem Zjl {A B:List Int} {a b h:Nat} (hA:A.length=a+1) (hB:B.length=b+1) (lA:A.getD a 0≠0) (lB:B.getD b 0≠0) (ha:0<a) (hb:0<b) (h0:1<=h) (bA:∀ k,(A.getD k 0).natAbs<=h) (bB:gB B<=h) {J J' N H:Nat} (hJ:J=2*(a*b)) (hJ':J=J'+b) (hN:N=b*J+a*J') (hH:H=(2*(N*h))^(2*(a+b-1))) :
 ∃ w:Nat->Int,(∃ j,j<J/\w j≠0)/\(∀ j,(w j).natAbs<=N*(h*H))/\∀ R:Rat,1<=R->∃ C:Rat,0<=C/\∀ x y,Up x<=R->Up y<=R->Up (sq J λj=>(w j:Rat)*x^j)<=C*(Up (Ui A y)+Up (Ui B (y-x))):=by
 have hab:0<a*b:=J3 ha hb;have hbd:∀ n k j,(phi A B b J J' n k j).natAbs<=h:=λn k j=>by
  unfold phi
  split
  ·exact Zaa (λk j=>by unfold fA; split; exact bA k; exact Nat.zero_le _) _ _ _ _
  ·exact Zaa (λk j=>Qd (Q7g B k j) bB) _ _ _ _
 have hJp:0<J:=by omega
 have hNp:1<=N:=by
  have:0<b*J:=J3 hb hJp;omega
 have hNh:1<=N*h:=J3 hNp h0;obtain ⟨E,hE⟩:=nmE ((a+b-1)*J);have hNE:N=E+a*b:=by
  have e1:(a+b-1)*J+J=(a+b)*J:=by
   rw [<-Xe]; congr 1; omega
  have e2:a*J=a*J'+a*b:=by rw [hJ',Xs]
  rw [Jh] at e1;omega
 have hc:(2*(N*(h*H))+1)^E<(H+1)^N:=by
  have c1:2*(N*(h*H))+1<=2*(N*h)*(H+1):=by
   rw [Xs,Yn,Xn 2,Xn N]; omega
  refine Zz (Nat.pow_le_pow_left c1 E) ?_;rw [Nat.mul_pow,hNE,Xh,Zj];refine Nat.mul_lt_mul_of_pos_left ?_ (Zx (by omega));have e1:(2*(N*h))^E=H^(a*b):=by
   rw [hH,<-Ud,hE,hJ]; congr 1;rw [Zj 2 (a+b-1),Xn]
  rw [<-hNE,e1];exact Nat.pow_lt_pow_left (by omega) (by omega)
 obtain ⟨v,v1,⟨n0,n1,n2⟩,v3⟩:=Zjq (M:=λe n=>phi A B b J J' n (e / J+1) (e % J)) (h:=h) (N:=N) (E:=E) (H:=H) (λe n=>hbd n _ _) hc;have hW:∀ k j,1<=k->k<a+b->j<J->sm N (λn=>phi A B b J J' n k j*v n)=0:=λk j k1 k2 hj=>by
  have:=v3 ((k-1)*J+j) (by rw [hE]; exact Zgv (by omega) hj);rwa [(Qfd hj).1,(Qfd hj).2,show k-1+1=k by omega] at this
 refine ⟨λj=>sm N λn=>phi A B b J J' n 0 j*v n,?_,λj=>?_,λR hR=>?_⟩
 ·rcases Classical.em (∃ j,j<J/\(sm N λn=>phi A B b J J' n 0 j*v n)≠0) with e | e
  ·exact e
  ·exfalso;refine n2 (Q4l hA hB lA lB hJ' (v:=v) (λk j hk hj=>?_) n0 (by rw [<-hN]; exact n1));rw [<-hN];rcases Qy k with e' | e'
   ·subst e';rcases Classical.em ((sm N λn=>phi A B b J J' n 0 j*v n)=0) with e2 | e2
    ·exact e2
    ·exact absurd ⟨j,hj,e2⟩ e
   ·exact hW k j e' hk hj
 ·refine Zag N λn _=>?_
  rw [Jp];exact Zw (hbd n 0 j) (v1 n)
 ·have hRp:∀ k:Nat,1<=R^k:=λk=>(Qav hR (x:=0) (by rw [G8]; grind) k).2
  have hHn:(0:Rat)<=(H:Rat):=Xk;have hNn:(0:Rat)<=(N:Rat):=Xk;refine ⟨(N:Rat)*((H:Rat)*R^(a+b+J)),Pm hNn (Pm hHn (by have:=hRp (a+b+J); grind)),λx y hx hy=>?_⟩;have e1:(sq J λj=>((sm N λn=>phi A B b J J' n 0 j*v n:Int):Rat)*x^j)=E2 (λk j=>sm N λn=>phi A B b J J' n k j*v n) (a+b) J x y:=by
   unfold E2;obtain ⟨m,hm⟩:∃ m,a+b=m+1:=⟨a+b-1,by omega⟩;rw [hm,Ag,Nc (n:=m)]
   ·have:(sq J λj=>((sm N λn=>phi A B b J J' n 0 j*v n:Int):Rat)*(y^0*x^j))=sq J λj=>((sm N λn=>phi A B b J J' n 0 j*v n:Int):Rat)*x^j:=Tq J λj _=>by rw [Xf]; grind
    rw [this]; grind
   ·intro k hk;refine Nc J λj hj=>?_
    show ((sm N λn=>phi A B b J J' n (k+1) j*v n:Int):Rat)*_=0;rw [hW (k+1) j (by omega) (by omega) hj,show ((0:Int):Rat)=0 from rfl]; grind
  rw [e1,Q6z];have key:∀ n,n<N->Up ((v n:Rat)*E2 (phi A B b J J' n) (a+b) J x y)<=(H:Rat)*(R^(a+b+J)*(Up (Ui A y)+Up (Ui B (y-x)))):=λn hn=>by
   have hvn:Up (v n:Rat)<=(H:Rat):=by
    have h1:=v1 n;have h2:(v n)<=(H:Int):=by omega
    have h3:-(H:Int)<=v n:=by omega
    have h2:=X9.2 h2;have h3:=X9.2 h3;rw [Vj] at h3;rw [Tc]; exact ⟨h3,h2⟩
   refine Fy hvn ?_;have hRk:=hRp (a+b+J);have n1:=Gm (Ui A y);have n2:=Gm (Ui B (y-x));rcases Q8 n (b*J) with h | h
   ·have e:phi A B b J J' n=shF (n / J) (n % J) (fA A):=by funext k j; unfold phi; rw [if_pos h]
    have d1:n / J<b:=X6 (by rw [Zj]; exact h);have d2:=Xd n hJp;rw [e];refine Q9 (Q99 (K2:=a+b-n / J) (J2:=J-n % J) hR hx hy (by omega) (by omega) (X:=Ui A y) ?_) (Su (by grind) Qq n1 (by grind));obtain ⟨m,hm⟩:∃ m,J-n % J=m+1:=⟨J-n % J-1,by omega⟩;rw [hm]; exact Zlp A _ _ x y (by omega)
   ·have e:phi A B b J J' n=shF ((n-b*J) / J') ((n-b*J) % J') (gc B):=by funext k j; unfold phi; rw [if_neg (by omega)]
    have hJp':0<J':=by
     rcases Qy J' with e | e
     ·rw [e,Yq] at hN; omega
     ·exact e
    have d1:(n-b*J) / J'<a:=X6 (by rw [Zj J' a]; omega);have d2:=Xd (n-b*J) hJp';rw [e];refine Q9 (Q99 (K2:=a+b-(n-b*J) / J') (J2:=J-(n-b*J) % J') hR hx hy (by omega) (by omega) (X:=Ui B (y-x)) ?_) (Su (by grind) Qq n2 (by grind));exact Zif x y B _ _ (by omega) (by omega)
  have:=Zg6 N key;refine Q9 this ?_;have:(N:Rat)*((H:Rat)*(R^(a+b+J)*(Up (Ui A y)+Up (Ui B (y-x)))))=(N:Rat)*((H:Rat)*R^(a+b+J))*(Up (Ui A y)+Up (Ui B (y-x))):=by grind
  rw [this]; exact Qq
end Orq
namespace Orq
theorem Zaj {w:Nat->Int} {x:Rat} {D:Rat} (hx:Up x*2<=1) (hw:∀ j,Up (w j:Rat)<=D):∀ J (k:Nat),Up (sq J λj=>(w (k+j):Rat)*x^j)<=2*D
 | 0,k=>by have:=hw 0; have:=Gm (w 0:Rat); simp only [sq,G8]; clear hw; grind
 |
  J+1,k=>by
  have ih:=Zaj hx hw J (k+1);rw [Ag];have e:(sq J λi=>(w (k+(i+1)):Rat)*x^(i+1))=x*sq J λi=>(w (k+1+i):Rat)*x^i:=by
   rw [<-O3]; exact Tq J λi _=>by rw [Z9,show k+(i+1)=k+1+i by omega]; grind
  rw [e,Xf,Xu];have h1:=hw k;have h2:=Rt ((w k:Rat)*1) (x*sq J λi=>(w (k+1+i):Rat)*x^i);have h3:=Fy (x:=x) (y:=sq J λi=>(w (k+1+i):Rat)*x^i) Qq ih;have h4:=Q4 hx (show (0:Rat)<=D by have:=Gm (w k:Rat); clear hw; grind);have h5:(w k:Rat)*1=w k:=by grind
  rw [h5] at h2 ⊢;clear hw; grind
theorem A7 {z:Int} (h:z≠0):1<=Up (z:Rat):=by
 unfold Up;rcases Ka h with h | h
 ·have:((z:Int):Rat)<((0:Int):Rat):=Ji.2 h;have h2:((1:Int):Rat)<=((-z:Int):Rat):=X9.2 (by omega);rw [if_pos (by simpa using this)];rw [Vj] at h2;simpa using h2
 ·have:((0:Int):Rat)<((z:Int):Rat):=Ji.2 h;have h2:((1:Int):Rat)<=((z:Int):Rat):=X9.2 (by omega);rw [if_neg (by
   have:(0:Rat)<z:=by simpa using this
   grind)]
  simpa using h2
theorem Qwu {w:Nat->Int} {x:Rat} {D:Rat} (hD:1<=D) (hx0:0<Up x) (hx:Up x*(4*D)<=1) (hw:∀ j,Up (w j:Rat)<=D):∀ J (k:Nat),(∃ j,j<J/\w (k+j)≠0)->Up x^J / 2<=Up (sq J λj=>(w (k+j):Rat)*x^j)
 | 0,k,⟨j,h,_⟩=>by omega
 |
  J+1,k,⟨j,h1,h2⟩=>by
  have hx2:Up x*2<=1:=by
   have:=Su (a:=Up x) (c:=2) (Qp hx0) Qq (by decide) (show (2:Rat)<=4*D by clear hw; grind);exact Q9 this hx
  have hx1:Up x<=1:=by clear hw; grind
  have hp:∀ k:Nat,Up x^k<=1/\0<=Up x^k:=λk=>by
   induction k with
   | zero=>rw [Xf]; exact ⟨by decide,by decide⟩
   |
    succ k ih =>
    rw [Z9];have:=Su ih.2 ih.1 (Qp hx0) hx1;have:=Pm ih.2 (Qp hx0);constructor <;> (clear hw; grind)
  rw [Ag];have e:(sq J λi=>(w (k+(i+1)):Rat)*x^(i+1))=x*sq J λi=>(w (k+1+i):Rat)*x^i:=by
   rw [<-O3]; exact Tq J λi _=>by rw [Z9,show k+(i+1)=k+1+i by omega]; grind
  rw [e,Xf,Xu k,show (w k:Rat)*1=w k by grind];by_cases h0:w k=0
  ·have hj:j≠0:=λe=>h2 (by rw [e]; exact h0)
   have ih:=Qwu hD hx0 hx hw J (k+1) ⟨j-1,by omega,by rw [show k+1+(j-1)=k+j by omega]; exact h2⟩;rw [h0,show ((0:Int):Rat)+x*(sq J λi=>(w (k+1+i):Rat)*x^i)=x*sq J λi=>(w (k+1+i):Rat)*x^i by rw [show ((0:Int):Rat)=0 from rfl]; grind,Cv,Z9];have:=Zn ih (Qp hx0);have e2:Up x*(Up x^J / 2)=Up x^J*Up x / 2:=by rw [J8,J8]; grind
   rw [e2] at this; exact this
  ·have a1:=A7 h0;have a2:=Zaj hx2 hw J (k+1);have a3:=Fy (x:=x) (y:=sq J λi=>(w (k+1+i):Rat)*x^i) Qq a2;have a4:=Rt ((w k:Rat)+x*sq J λi=>(w (k+1+i):Rat)*x^i) (-(x*sq J λi=>(w (k+1+i):Rat)*x^i));rw [Cw,show (w k:Rat)+(x*sq J λi=>(w (k+1+i):Rat)*x^i)+-(x*sq J λi=>(w (k+1+i):Rat)*x^i)=w k by grind] at a4;have a5:=(hp (J+1)).1;have a6:Up x^(J+1) / 2*2=Up x^(J+1):=Fj (by decide);have a7:Up x*(2*D)*2=Up x*(4*D):=by grind
   clear hw hp; grind
theorem Zin {A B:List Int} {a b h:Nat} (hA:A.length=a+1) (hB:B.length=b+1) (lA:A.getD a 0≠0) (lB:B.getD b 0≠0) (ha:0<a) (hb:0<b) (h0:1<=h) (bA:∀ k,(A.getD k 0).natAbs<=h) (bB:gB B<=h) {N D:Nat} (hN:b*(2*(a*b))+a*(2*(a*b)-b)=N) (hD:N*(h*(2*(N*h))^(2*(a+b-1)))<=D) {R d:Rat} (hR:1<=R) (dp:0<d)
 (hs:∀ e:Rat,0<e->∃ q r,Up q<=R/\Up r<=R/\d<=Up (q-r)/\Up (q-r)*(4*(D:Rat))<=1/\Up (Ui A q)<e/\Up (Ui B r)<e):False:=by
 have hab:0<a*b:=J3 ha hb;have hbab:b<=a*b:=by
  have:=Qz b (show 1<=a from ha); omega
 obtain ⟨w,⟨j,hj,hw0⟩,hw,hC⟩:=Zjl hA hB lA lB ha hb h0 bA bB (J:=2*(a*b)) (J':=2*(a*b)-b) rfl (by omega) hN.symm rfl;obtain ⟨C,hC0,hC⟩:=hC (2*R) (by grind);have hw':∀ j,Up (w j:Rat)<=(D:Rat):=λj=>by
  have h1:=Qd (hw j) hD;have h2:w j<=(D:Int):=by omega
  have h3:-(D:Int)<=w j:=by omega
  have h2:=X9.2 h2;have h3:=X9.2 h3;rw [Vj] at h3;rw [Tc]; exact ⟨h3,h2⟩
 have hD1:(1:Rat)<=(D:Rat):=by
  have:=A7 hw0;exact Q9 this (hw' j)
 have hdJ:0<d^(2*(a*b)) / 2:=Dq (Rat.pow_pos dp) (by decide);obtain ⟨e,ep,_,he⟩:=Gb (b:=C*2) (d:=d^(2*(a*b)) / 2) (by grind) hdJ;obtain ⟨q,r,q1,r1,d1,d2,aq,br⟩:=hs e ep;have h1:=hC (q-r) q (by
  have:=Rt q (-r); rw [Cw] at this; have:q-r=q+-r:=by grind
  grind) (by grind)
 rw [show q-(q-r)=r by grind] at h1;have h2:=Qwu (x:=q-r) hD1 (by grind) d2 hw' (2*(a*b)) 0 ⟨j,hj,by rw [Z0]; exact hw0⟩;simp only [Z0] at h2;have h3:C*(Up (Ui A q)+Up (Ui B r))<=C*(e+e):=Zn (by grind) hC0;have h4:d^(2*(a*b))<=Up (q-r)^(2*(a*b)):=by
  generalize 2*(a*b)=J
  induction J with
  | zero=>rw [Xf,Xf]; exact Qq
  |
   succ J ih =>
   rw [Z9,Z9];exact Su (Qp (Rat.pow_pos dp)) ih (Qp dp) d1
 have h5:d^(2*(a*b)) / 2*2=d^(2*(a*b)):=Fj (by decide);have h6:Up (q-r)^(2*(a*b)) / 2*2=Up (q-r)^(2*(a*b)):=Fj (by decide);clear hC hs hw hw';grind
def HD (p:List Rat) (n:Nat):Prop:=p.getD n 0≠0/\∀ k,n<k->p.getD k 0=0
theorem Hb:∀ (p q:List Rat) (k:Nat),(Ru p q).getD k 0=p.getD k 0+q.getD k 0
 | [],q,k=>by simp only [Ru,Kj]; grind
 | a::p,[],k=>by simp only [Ru,Kj]; grind
 | a::p,b::q,0=>by simp only [Ru,Zp]
 | a::p,b::q,k+1=>by simp only [Ru,Q0]; exact Hb p q k
theorem Rr (c:Rat):∀ (p:List Rat) (k:Nat),(Bj c p).getD k 0=c*p.getD k 0
 | [],k=>by simp only [Bj,Jb,Kj]; grind
 | a::p,0=>by simp [Bj]
 | a::p,k+1=>by have:=Rr c p k; simp only [Bj,Zt,Q0] at *; exact this
theorem Q7o {p:List Rat} {k:Nat} (h:∀ x∈p,x=0):p.getD k 0=0:=by
 rw [Qe];cases e:p[k]? with
 | none=>rfl
 | some x=>exact h x (Qa e)
theorem Be {p q:List Rat} (h:∀ t,ev p t=ev q t) (k:Nat):p.getD k 0=q.getD k 0:=by
 have h1:=Q7o (k:=k) (Qcm (p:=Ru p (Bj (-1) q)) λt _ _=>by rw [Fo,Fb,h t]; grind);rw [Hb,Rr] at h1; grind
theorem Bp:∀ {p:List Rat},(∀ k,p.getD k 0=0)->∀ t,ev p t=0
 | [],_,t=>rfl
 |
  a::p,h,t=>by
  have h0:=h 0;have h1:=Bp (p:=p) (λk=>by have:=h (k+1); rwa [Q0] at this) t;rw [Zp] at h0;simp only [ev,h0,h1]; grind
theorem Qjj:∀ (p:List Rat),(∀ t,ev p t=0)\/∃ n,n<p.length/\HD p n
 | []=>.inl λ_=>rfl
 |
  a::p=>by
  rcases Qjj p with h | ⟨n,hn,h1,h2⟩
  ·rcases Classical.em (a=0) with e | e
   ·exact .inl λt=>by simp only [ev,e,h t]; grind
   ·refine .inr ⟨0,by simp,by simpa using e,λk hk=>?_⟩;obtain ⟨m,rfl⟩:∃ m,k=m+1:=⟨k-1,by omega⟩;rw [Q0];exact (Be (p:=p) (q:=[]) h m).trans (by simp)
  ·refine .inr ⟨n+1,by simp; omega,by rw [Q0]; exact h1,λk hk=>?_⟩;obtain ⟨m,rfl⟩:∃ m,k=m+1:=⟨k-1,by omega⟩;rw [Q0]; exact h2 m (by omega)
theorem Zgt {p q:List Rat} {n:Nat} (h:∀ t,ev p t=ev q t) (hp:HD p n):HD q n :=
 ⟨by rw [<-Be h]; exact hp.1,λk hk=>by rw [<-Be h]; exact hp.2 k hk⟩
theorem Zgu {p:List Rat} {n m:Nat} (h:HD p n) (h':HD p m):n=m:=by
 rcases Vp n m with e | e | e
 ·exact absurd (h.2 m e) h'.1
 ·exact e
 ·exact absurd (h'.2 n e) h.1
theorem Qzy {p:List Rat} {n:Nat} (h:HD p n):¬∀ t,ev p t=0:=λh0=>h.1 ((Be (p:=p) (q:=[]) h0 n).trans (by simp))
theorem Qgi {p q:List Rat} (h:∀ k,p.getD k 0=0) (k:Nat):(Fu p q).getD k 0=0:=by
 have:=Be (p:=Fu p q) (q:=[]) (λt=>by rw [Uo,Bp h t]; simp only [ev]; grind) k;rw [this]; simp
theorem Qjk:∀ {p q:List Rat} {m n:Nat},HD p m->HD q n->HD (Fu p q) (m+n)
 | [],q,m,n,h,_=>absurd (by simp) h.1
 |
  a::p,q,0,n,h,h'=>by
  have h1:∀ k,p.getD k 0=0:=λk=>by have:=h.2 (k+1) (by omega); rwa [Q0] at this
  have h2:∀ k,(Fu (a::p) q).getD k 0=a*q.getD k 0:=λk=>by
   simp only [Fu];rw [Hb,Rr];cases k with
   | zero=>rw [Zp]; grind
   | succ k=>rw [Q0,Qgi h1]; grind
  have h3:=h.1;rw [Zp] at h3;refine ⟨?_,λk hk=>?_⟩
  ·rw [h2,Z0]; exact λh=>(Jc.1 h).elim h3 h'.1
  ·rw [h2,h'.2 k (by omega)]; grind
 |
  a::p,q,m+1,n,h,h'=>by
  have ih:=Qjk (p:=p) (q:=q) (m:=m) ⟨by have:=h.1; rwa [Q0] at this,λk hk=>by have:=h.2 (k+1) (by omega); rwa [Q0] at this⟩ h';refine ⟨?_,λk hk=>?_⟩
  ·simp only [Fu];rw [Hb,Rr,show m+1+n=(m+n)+1 by omega,Q0,h'.2 _ (by omega)];have:=ih.1; grind
  ·obtain ⟨j,rfl⟩:∃ j,k=j+1:=⟨k-1,by omega⟩;simp only [Fu];rw [Hb,Rr,Q0,h'.2 _ (by omega),ih.2 j (by omega)]; grind
def Is (g f:List Rat):Prop:=∃ u,∀ t,ev f t=ev g t*ev u t
theorem dvd_refl (f:List Rat):Is f f:=⟨[1],λt=>by rw [Hm]; grind⟩
theorem dvd_trans {f g h:List Rat}:Is f g->Is g h->Is f h
 | ⟨u,hu⟩,⟨v,hv⟩=>⟨Fu u v,λt=>by rw [hv,hu,Uo]; grind⟩
theorem Qs1 {p q:List Rat} (h:∀ t,ev p t*ev q t=0) (hp:¬∀ t,ev p t=0):∀ t,ev q t=0:=by
 rcases Qjj p with h1 | ⟨m,_,h1⟩
 ·exact absurd h1 hp
 ·rcases Qjj q with h2 | ⟨n,_,h2⟩
  ·exact h2
  ·exact absurd (λt=>by rw [Uo]; exact h t) (Qzy (Qjk h1 h2))
theorem Qvv {p q r:List Rat} (hp:¬∀ t,ev p t=0) (h:∀ t,ev p t*ev q t=ev p t*ev r t) (t:Rat):ev q t=ev r t:=by
 have:=Qs1 (p:=p) (q:=Ru q (Bj (-1) r)) (λt=>by rw [Fo,Fb]; have:=h t; grind) hp t;rw [Fo,Fb] at this; grind
theorem Q6s {b:List Rat} {n:Nat} (hb:HD b n):∀ (l:Nat) (a:List Rat),(∀ k,l<=k->a.getD k 0=0)->∃ q r,(∀ t,ev a t=ev q t*ev b t+ev r t)/\∀ k,n<=k->r.getD k 0=0
 | 0,a,ha=>⟨[],a,λt=>by simp only [ev]; grind,λk _=>ha k (Qg _)⟩
 |
  l+1,a,ha=>by
  rcases Q8 l n with h | h
  ·exact ⟨[],a,λt=>by simp only [ev]; grind,λk hk=>ha k (by omega)⟩
  ·-- the leading term is taken away
   obtain ⟨c,hc⟩:=nmE (a.getD l 0 / b.getD n 0);have hcb:c*b.getD n 0=a.getD l 0:=by rw [hc]; exact Zg hb.1
   obtain ⟨m,hm⟩:∃ m:List Rat,m=List.replicate (l-n) 0++[c]:=⟨_,rfl⟩;have hsh:∀ (i:Nat) (k:Nat),(Fu (List.replicate i 0++[c]) b).getD k 0=if i<=k then c*b.getD (k-i) 0 else 0:=λi=>by
    induction i with
    | zero=>intro k; simp only [Wb,Ys,Fu]; rw [Hb,Rr]; cases k <;> simp <;> grind
    |
     succ i ih =>
     intro k;simp only [J0,Xi,Fu];rw [Hb,Rr];cases k with
     | zero=>rw [Zp,if_neg (by omega)]; grind
     |
      succ k =>
      rw [Q0,ih k];by_cases h:i<=k
      ·rw [if_pos h,if_pos (by omega),Nat.add_sub_add_right]; grind
      ·rw [if_neg h,if_neg (by omega)]; grind
   obtain ⟨q,r,h1,h2⟩:=Q6s hb l (Ru a (Bj (-1) (Fu m b))) λk hk=>by
    rw [Hb,Rr,hm,hsh,if_pos (by omega)];rcases Vh hk with e | e
    ·rw [ha k (by omega),hb.2 _ (by omega)]; grind
    ·subst e; rw [show l-(l-n)=n by omega,hcb]; grind
   refine ⟨Ru q m,r,λt=>?_,h2⟩;have:=h1 t;rw [Fo,Fb,Uo] at this;rw [Fo]; grind
theorem Qwg:∀ (n:Nat) (a b:List Rat),(∀ k,n<=k->b.getD k 0=0)->∃ g U V,Is g a/\Is g b/\∀ t,ev g t=ev U t*ev a t+ev V t*ev b t
 |
  0,a,b,h=>by
  have h0:=Bp λk=>h k (Qg _)
  exact ⟨a,[1],[],dvd_refl a,⟨[],λt=>by rw [h0]; simp only [ev]; grind⟩,λt=>by rw [Hm]; simp only [ev]; grind⟩
 |
  n+1,a,b,h=>by
  rcases Classical.em (b.getD n 0=0) with e | e
  ·exact Qwg n a b λk hk=>by
    rcases Vh hk with e' | e'
    ·exact h k (by omega)
    ·rw [<-e']; exact e
  ·obtain ⟨q,r,h1,h2⟩:=Q6s (b:=b) (n:=n) ⟨e,λk hk=>h k (by omega)⟩ a.length a λk hk=>by rw [Qe,Qr hk]; rfl
   obtain ⟨g,U,V,⟨u,hu⟩,⟨v,hv⟩,hg⟩:=Qwg n b r h2;refine ⟨g,V,Ru U (Bj (-1) (Fu V q)),⟨Ru (Fu q u) v,λt=>?_⟩,⟨u,hu⟩,λt=>?_⟩
   ·rw [h1,hv,Fo,Uo,hu]; grind
   ·rw [hg,Fo,Fb,Uo,h1]; grind
theorem Q7k (a b:List Rat):∃ g U V,Is g a/\Is g b/\∀ t,ev g t=ev U t*ev a t+ev V t*ev b t :=
 Qwg b.length a b λk hk=>by rw [Qe,Qr hk]; rfl
def Cop (a b:List Rat):Prop:=∃ U V,∀ t,ev U t*ev a t+ev V t*ev b t=1
theorem Qoj {c d e:List Rat} (h:Cop c d) (h1:∃ u,∀ t,ev d t*ev e t=ev c t*ev u t):Is c e:=by
 obtain ⟨U,V,h⟩:=h;obtain ⟨u,hu⟩:=h1;refine ⟨Ru (Fu U e) (Fu V u),λt=>?_⟩;rw [Fo,Uo,Uo];have a1:=h t;have a2:=hu t;have:ev e t=(ev U t*ev c t+ev V t*ev d t)*ev e t:=by rw [a1]; grind
 rw [this];have:(ev U t*ev c t+ev V t*ev d t)*ev e t=ev U t*ev c t*ev e t+ev V t*(ev d t*ev e t):=by grind
 rw [this,a2]; grind
def qpw (d:List Rat):Nat->List Rat
 | 0=>[1]
 | k+1=>Fu d (qpw d k)
theorem Qxg (d:List Rat) (t:Rat):∀ k:Nat,ev d t*dv (qpw d k) t=(k:Rat)*(dv d t*ev (qpw d k) t)
 | 0=>by simp only [qpw,dv,ev]; rw [show ((0:Nat):Rat)=0 from rfl]; grind
 |
  k+1=>by
  have ih:=Qxg d t k;have hn':(((k+1:Nat):Rat))=(k:Rat)+1:=by push_cast; rfl
  simp only [qpw];rw [Qos,Uo,hn']; grind
theorem Q9k {d:List Rat} {m:Nat} (h:HD d m):∀ k,HD (qpw d k) (k*m)
 | 0=>by rw [J4]; exact ⟨by simp [qpw],λk hk=>by simp only [qpw]; rw [Qe,Qr (by simp; omega)]; rfl⟩
 | k+1=>by rw [Xe,J1 (k*m) m]; exact Qjk h (Q9k h k)
theorem Qm5 {d g:List Rat} {m n:Nat} (hd:HD d m) (hg:HD g n) (h:∀ k,Is (qpw d k) g):m=0:=by
 obtain ⟨u,hu⟩:=h (n+1);rcases Qjj u with h1 | ⟨j,_,h1⟩
 ·exact absurd (λt=>by rw [hu,h1]; grind) (Qzy hg)
 ·have:=Zgu (Zgt (λt=>by rw [hu,Uo]) hg) (Qjk (Q9k hd (n+1)) h1);rcases Qy m with e | e
  ·exact e
  ·have:(n+1)*1<=(n+1)*m:=Zl _ e;omega
theorem sqf {a g q d U V:List Rat} {k:Rat} (hk:k≠0) (ha:∀ t,ev a t=ev g t*ev q t) (hg:∀ t,k*ev g t=ev U t*ev a t+ev V t*dv a t) (h1:Is d q) (h2:Is d (Mf q)):∀ n,Is (qpw d n) g
 | 0=>⟨g,λt=>by simp only [qpw]; rw [Hm]; grind⟩
 |
  n+1=>by
  obtain ⟨g1,e1⟩:=sqf hk ha hg h1 h2 n;obtain ⟨q1,e2⟩:=h1;obtain ⟨q2,e3⟩:=h2;have d1:=λt=>Az ha t
  have d2:=λt=>Az e1 t
  have d3:=λt=>Az e2 t
  have d4:=Qxg d;refine ⟨Bj (1 / k) (Ru (Fu U (Fu g1 q1)) (Fu V (Ru (Fu g1 q2) (Ru (Bj n (Fu g1 (Ru q2 (Bj (-1) (Mf q1))))) (Fu (Mf g1) q1))))),λt=>?_⟩;have hkk:1 / k*k=1:=Zg hk;simp only [qpw,Fb,Fo,Uo,Hy];have b1:=ha t; have b2:=hg t; have b3:=e1 t; have b4:=e2 t; have b5:=e3 t;have b6:=d1 t; have b7:=d2 t; have b8:=d3 t; have b9:=d4 t n;rw [Hy] at b5;generalize ev d t=x0 at *;generalize ev (qpw d n) t=x1 at *;generalize ev g t=x2 at *;generalize ev q t=x3 at *;generalize ev a t=x4 at *;generalize dv a t=x5 at *;generalize dv g t=x6 at *;generalize dv q t=x7 at *;generalize ev g1 t=x8 at *;generalize dv g1 t=x9 at *;generalize ev q1 t=y0 at *;generalize dv q1 t=y1 at *;generalize ev q2 t=y2 at *;generalize dv d t=y3 at *;generalize dv (qpw d n) t=y4 at *;generalize ev U t=y5 at *;generalize ev V t=y6 at *;generalize (n:Rat)=y7 at *;have:x2=1 / k*(k*x2):=by grind
  rw [this,b2];have c1:x5=x0*x1*(x8*y2+(y7*(x8*(y2+-1*y1))+x9*y0)):=by
   rw [b6,b7,b4,b3];have:y3*y0=x0*y2-x0*y1:=by grind
   have:x0*y4*(x8*y0)=y7*(x1*x8*(x0*y2-x0*y1)):=by rw [b9,<-this]; grind
   grind
  have c2:x4=x0*x1*(x8*y0):=by rw [b1,b3,b4]; grind
  rw [c1,c2]; grind
theorem Zc3 {a b c:List Rat} (h1:Cop a b) (h2:Cop a c) {d:List Rat} (hd:∀ t,ev d t=ev b t*ev c t):Cop a d:=by
 obtain ⟨U,V,h1⟩:=h1;obtain ⟨X,Y,h2⟩:=h2;refine ⟨Ru U (Fu (Fu V b) X),Fu V Y,λt=>?_⟩;have a1:=h1 t;have a2:=h2 t;simp only [Fo,Uo,hd];have:ev V t*ev b t*(ev X t*ev a t+ev Y t*ev c t)=ev V t*ev b t:=by rw [a2]; grind
 grind
theorem Zfm {a g q z r X Y:List Rat} {n:Nat} (ha:∀ t,ev a t=ev g t*ev q t) (hz:∀ t,dv a t=ev g t*ev z t) (hg:HD g n) (hr:∀ t,ev X t*ev r t+ev Y t*dv r t=1) (h:Is r a):Is r q:=by
 obtain ⟨b,hb⟩:=h;obtain ⟨e,U,V,⟨r1,e1⟩,⟨q3,e2⟩,e3⟩:=Q7k r q;have hr0:¬∀ t,ev r t=0:=λh=>by
  have h1:=hr 0;have h2:dv r 0=0:=by have:=Q6x (p:=r) (q:=[]) h 0; rw [this]; rfl
  rw [h,h2] at h1; grind
 have he0:¬∀ t,ev e t=0:=λh=>hr0 λt=>by rw [e1,h]; grind
 have d1:=λt=>Az e1 t
 have c1:Cop r1 q3:=⟨U,V,λt=>by
  have:=Qvv (p:=e) (q:=Ru (Fu U r1) (Fu V q3)) (r:=[1]) he0 (λt=>by
   rw [Fo,Uo,Uo,Hm];have a1:=e1 t; have a2:=e2 t; have a3:=e3 t;rw [a1,a2] at a3; grind) t
  rw [Fo,Uo,Uo,Hm] at this; exact this⟩
 have c2:Cop r1 e:=⟨Ru (Fu X e) (Fu Y (Mf e)),Fu Y (Mf r1),λt=>by
  have a1:=hr t; have a2:=e1 t; have a3:=d1 t;simp only [Fo,Uo,Hy];rw [a2,a3] at a1; grind⟩
 have c3:Cop r1 (Mf r1):=⟨Ru (Fu X e) (Fu Y (Mf e)),Fu Y e,λt=>by
  have a1:=hr t; have a2:=e1 t; have a3:=d1 t;simp only [Fo,Uo,Hy];rw [a2,a3] at a1; grind⟩
 have c4:Cop r1 q:=Zc3 c2 c1 e2;have hgz:=Qzy hg;have hp:∀ k,Is (qpw r1 k) g:=λk=>by
  induction k with
  | zero=>exact ⟨g,λt=>by simp only [qpw]; rw [Hm]; grind⟩
  |
   succ k ih =>
   obtain ⟨h,eh⟩:=ih;have hpz:¬∀ t,ev (qpw r1 k) t=0:=λh0=>hgz λt=>by rw [eh,h0]; grind
   have key:Is r1 h:=by
    cases k with
    |
     zero =>
     refine Qoj c4 ⟨Fu e b,λt=>?_⟩;have a1:=ha t; have a2:=hb t; have a3:=e1 t; have a4:=eh t;simp only [qpw] at a4;rw [Hm] at a4;rw [Uo]; grind
    |
     succ k =>
     have hn:((k+1:Nat):Rat)≠0:=by
      have:(0:Rat)<((k+1:Nat):Rat):=by
       have h1:((0:Nat):Rat)<((k+1:Nat):Rat):=Vm.2 (by omega);simpa using h1
      grind
     have d2:=λt=>Az (f:=a) (w:=qpw r1 (k+1)) (u:=Fu h q) (λt=>by rw [ha,eh,Uo]; grind) t
     have d4:=Qxg r1;have h3:=Qvv (p:=qpw r1 (k+1)) (q:=Fu (Mf r1) (Fu h q)) (r:=Fu r1 (Bj (1 / ((k+1:Nat):Rat)) (Ru (Fu h z) (Bj (-1) (Mf (Fu h q)))))) hpz λt=>by
      simp only [Uo,Fb,Fo,Hy];have a1:=d2 t; have a2:=d4 t (k+1); have a3:=hz t; have a4:=eh t;rw [Uo] at a1;generalize ((k+1:Nat):Rat)=c at *;have hc:1 / c*c=1:=Zg hn;generalize ev (qpw r1 (k+1)) t=x0 at *;generalize dv (qpw r1 (k+1)) t=x1 at *;generalize dv (Fu h q) t=x2 at *;generalize ev r1 t=x3 at *;generalize dv r1 t=x4 at *;generalize ev h t=x5 at *;generalize ev q t=x6 at *;generalize ev z t=x7 at *;generalize dv a t=x8 at *;generalize ev g t=x9 at *;generalize 1 / c=c' at *;have s1:x0*(x4*(x5*x6))=c'*(c*(x4*x0))*(x5*x6):=by
       have:c'*(c*(x4*x0))=(c'*c)*(x4*x0):=by grind
       rw [this,hc]; grind
      rw [s1,<-a2];have s2:x3*(x1*(x5*x6))=x3*(x0*(x5*x7+-1*x2)):=by
       rw [a3,a4] at a1; grind
      grind
     refine Qoj c4 ?_;obtain ⟨u,hu⟩:=Qoj (e:=Fu q h) c3 ⟨Bj (1 / ((k+1:Nat):Rat)) (Ru (Fu h z) (Bj (-1) (Mf (Fu h q)))),λt=>by
      have:=h3 t;simp only [Uo] at this ⊢;rw [<-this]; grind⟩
     exact ⟨u,λt=>by rw [<-hu,Uo]⟩
   obtain ⟨u,hu⟩:=key;exact ⟨u,λt=>by simp only [qpw]; rw [Uo,eh,hu]; grind⟩
 rcases Qjj r1 with h1 | ⟨m,_,h1⟩
 ·exact absurd (λt=>by rw [e1,h1]; grind) hr0
 ·obtain rfl:=Qm5 h1 hg hp;have h2:∀ t,ev r1 t=r1.getD 0 0:=λt=>by
   cases r1 with
   | nil=>simp [ev]
   |
    cons c l =>
    have:∀ t,ev l t=0:=Bp λk=>by have:=h1.2 (k+1) (by omega); rwa [Q0] at this
    simp only [ev,this,Zp]; grind
  have h3:=h1.1;refine ⟨Bj (1 / r1.getD 0 0) q3,λt=>?_⟩;rw [e2,e1,h2,Fb];have:1 / r1.getD 0 0*r1.getD 0 0=1:=Zg h3;have:ev e t*r1.getD 0 0*(1 / r1.getD 0 0*ev q3 t)=ev e t*ev q3 t*(1 / r1.getD 0 0*r1.getD 0 0):=by grind
  rw [this,Zg h3]; grind
def E4:List (List Rat)->List Rat
 | []=>[1]
 | w::l=>Fu w (E4 l)
def Lay:List (List Rat)->List (List Rat)->Prop
 | [],[]=>True
 | [w],[f]=>∀ t,ev w t=ev f t
 | w::v::l,f::fs=>(∀ t,ev w t=ev f t*ev v t)/\Lay (v::l) fs
 | _,_=>False
def Qg4:List (List Rat)->List Rat
 | []=>[1]
 | [f]=>f
 | f::_::l=>Fu f (Qg4 l)
theorem Qz7:∀ {ws fs:List (List Rat)},Lay ws fs->∃ S,∀ t,ev (E4 ws) t=ev (Qg4 fs) t*(ev S t*ev S t)
 | [],[],_=>⟨[1],λt=>by simp only [E4,Qg4]; rw [Hm]; grind⟩
 | [w],[f],h=>⟨[1],λt=>by simp only [E4,Qg4]; rw [Uo,Hm,h t]; grind⟩
 |
  [w,v],[f,f2],h=>⟨v,λt=>by
  have h1:=h.1 t;have h2:ev v t=ev f2 t:=h.2 t;simp only [E4,Qg4,Uo]; rw [Hm,h1]; grind⟩
 |
  w::v::x::l,f::f2::fs,h=>by
  obtain ⟨S,hS⟩:=Qz7 h.2.2;refine ⟨Fu v S,λt=>?_⟩;have h1:=h.1 t;have h2:=hS t;have e1:ev (E4 (w::v::x::l)) t=ev w t*(ev v t*ev (E4 (x::l)) t):=by simp only [E4,Uo]
  rw [e1,h2,h1];have e2:ev (Qg4 (f::f2::fs)) t=ev f t*ev (Qg4 fs) t:=by
   cases fs with
   | nil=>cases l <;> exact False.elim h.2.2
   | cons y l=>simp only [Qg4,Uo]
  rw [e2,Uo]; grind
 | [w],[],h=>h.elim
 | [w],_::_::_,h=>h.elim
 | [],_::_,h=>h.elim
 | [w,v],[f],h=>h.2.elim
 | [w,v],_::_::_::_,h=>h.2.elim
 | w::v::x::l,[f],h=>h.2.elim
 | w::v::l,[],h=>h.elim
end Orq
namespace Orq
open Orr Go
theorem Qw4 (p:List Int) (t:Rat):Ui p t=((p.getD 0 0:Int):Rat)+t*Ui p.tail t:=by
 cases p with
 | nil=>show (0:Rat)=((0:Int):Rat)+t*0; grind
 | cons a p=>rfl
theorem Qfb (p:List Int) (k:Nat):p.tail.getD k 0=p.getD (k+1) 0:=by
 cases p <;> simp
theorem M6 (c d:Int) (t:Rat):∀ (n:Nat) (p q r:List Int),p.length<=n->q.length<=n->r.length<=n->(∀ k,r.getD k 0=c*p.getD k 0+d*q.getD k 0)->Ui r t=(c:Rat)*Ui p t+(d:Rat)*Ui q t
 |
  0,p,q,r,hp,hq,hr,_=>by
  rw [Qi (Nat.le_zero.1 hp),Qi (Nat.le_zero.1 hq),Qi (Nat.le_zero.1 hr)];show (0:Rat)=_*0+_*0;grind
 |
  n+1,p,q,r,hp,hq,hr,h=>by
  have ih:=M6 c d t n p.tail q.tail r.tail (by rw [Wz]; omega) (by rw [Wz]; omega) (by rw [Wz]; omega) λk=>by
   rw [Qfb,Qfb,Qfb]; exact h (k+1)
  rw [Qw4 p,Qw4 q,Qw4 r,ih,h 0]
  push_cast
  grind
theorem Q0w {p q:List Int} (h:∀ k,p.getD k 0=q.getD k 0) (t:Rat):Ui p t=Ui q t:=by
 have:=M6 1 0 t (max p.length q.length) q q p (W0 ..) (W0 ..) (Nat.le_max_left ..) λk=>by rw [h k]; omega
 rw [this]
 push_cast
 grind
theorem E7 (p:List Int) (t:Rat):Ui (trim p) t=Ui p t:=Q0w (Ah p) t
theorem Mc {p:List Int} {k:Nat} (h:p.length<=k):p.getD k 0=0:=by
 rw [Qe,Qr h]; rfl
theorem Qmw (p q:List Int) (k:Nat):(Tf p q).getD k 0=p.getD k 0+q.getD k 0:=by
 unfold Tf;rw [Rz]
 split
 ·rfl
 ·rename_i h; rw [Mc (p:=p) (by omega),Mc (p:=q) (by omega)]; rfl
theorem Dc (p q:List Int) (k:Nat):(Sx p q).getD k 0=p.getD k 0-q.getD k 0:=by
 unfold Sx;rw [Rz]
 split
 ·rfl
 ·rename_i h; rw [Mc (p:=p) (by omega),Mc (p:=q) (by omega)]; rfl
theorem Hh (p:List Int) (c:Int) (k:Nat):(Uz p c).getD k 0=p.getD k 0*c:=by
 unfold Uz;rw [Rz]
 split
 ·rfl
 ·rename_i h; rw [Mc (p:=p) (by omega),Int.zero_mul]
theorem Qat (p:List Int) (k:Nat):(H5 p).getD k 0=-(p.getD k 0):=by
 unfold H5;rw [Rz]
 split
 ·rfl
 ·rename_i h; rw [Mc (p:=p) (by omega)]; rfl
theorem Ts (p:List Int) (k:Nat):(Fg p).getD k 0=p.getD (k+1) 0*((k+1:Nat):Int):=by
 unfold Fg;rw [Rz]
 split
 ·rfl
 ·rename_i h; rw [Mc (p:=p) (by omega),Int.zero_mul]
theorem To (p q:List Int) (t:Rat):Ui (Tf p q) t=Ui p t+Ui q t:=by
 have:=M6 1 1 t (max (max p.length q.length) (Tf p q).length) p q (Tf p q) (by omega) (by omega) (by omega) λk=>by rw [Qmw]; omega
 rw [this]; push_cast; grind
theorem D6 (p q:List Int) (t:Rat):Ui (Sx p q) t=Ui p t-Ui q t:=by
 have:=M6 1 (-1) t (max (max p.length q.length) (Sx p q).length) p q (Sx p q) (by omega) (by omega) (by omega) λk=>by rw [Dc]; omega
 rw [this]; push_cast; grind
theorem Pz (p:List Int) (t:Rat):Ui (H5 p) t=-Ui p t:=by
 have:=M6 (-1) 0 t (max p.length (H5 p).length) p p (H5 p) (by omega) (by omega) (by omega) λk=>by rw [Qat]; omega
 rw [this]; push_cast; grind
theorem Tj (p:List Int) (c:Int) (t:Rat):Ui (Uz p c) t=Ui p t*(c:Rat):=by
 have:=M6 c 0 t (max p.length (Uz p c).length) p p (Uz p c) (by omega) (by omega) (by omega) λk=>by rw [Hh,Kz]; omega
 rw [this]; push_cast; grind
theorem Qpq:∀ (l:List Int) (j:Nat) (v:Int) (t:Rat),j<l.length->Ui (l.set j v) t=Ui l t+((v:Rat)-((l.getD j 0:Int):Rat))*t^j
 | [],_,_,_,h=>by simp at h
 |
  a::l,0,v,t,_=>by
  show (v:Rat)+t*Ui l t=(a:Rat)+t*Ui l t+((v:Rat)-(a:Rat))*t^0;rw [Xf]; grind
 |
  a::l,j+1,v,t,h=>by
  have ih:=Qpq l j v t (by simpa using h);show (a:Rat)+t*Ui (l.set j v) t=(a:Rat)+t*Ui l t+((v:Rat)-((l.getD j 0:Int):Rat))*t^(j+1);rw [ih,Z9]; grind
theorem Qj7:∀ (l:List Int) (k:Nat) (t:Rat),k<l.length->Ui (l.take (k+1)) t=Ui (l.take k) t+((l.getD k 0:Int):Rat)*t^k
 | [],_,_,h=>by simp at h
 |
  a::l,0,t,_=>by
  show (a:Rat)+t*Ui (l.take 0) t=0+(a:Rat)*t^0;rw [Xf,Vr];show (a:Rat)+t*0=_;grind
 |
  a::l,k+1,t,h=>by
  have ih:=Qj7 l k t (by simpa using h);show (a:Rat)+t*Ui (l.take (k+1)) t=(a:Rat)+t*Ui (l.take k) t+((l.getD k 0:Int):Rat)*t^(k+1);rw [ih,Z9]; grind
theorem Qm0 (n:Nat) (t:Rat):Ui (List.replicate n 0) t=0:=by
 induction n with
 | zero=>rfl
 |
  succ n ih =>
  show ((0:Int):Rat)+t*Ui (List.replicate n 0) t=0;rw [ih]; push_cast; grind
theorem Qt0 (t:Rat) (i:Nat):∀ k,t^(i+k)=t^i*t^k
 | 0=>by rw [Xu,Xf]; grind
 | k+1=>by rw [<-Yf,Z9,Z9,Qt0 t i k]; grind
theorem Qtg (x:Int) (b:List Int) (i:Nat) (o:List Int) (t:Rat):∀ k,k<=b.length->i+k<=o.length->Ui (Ez x b i o k) t=Ui o t+(x:Rat)*t^i*Ui (b.take k) t
 |
  0,_,_=>by
  show Ui o t=Ui o t+(x:Rat)*t^i*0;grind
 |
  k+1,h1,h2=>by
  have ih:=Qtg x b i o t k (by omega) (by omega);simp only [Ez];rw [Qpq _ _ _ _ (by rw [E3]; omega),ih,Qj7 b k t (by omega)];have hp:t^(i+k)=t^i*t^k:=Qt0 t i k;rw [hp]
  push_cast
  grind
theorem Qtf (a b o:List Int) (t:Rat):∀ i,i<=a.length->i+b.length<=o.length+1->Ui (B8 a b o i) t=Ui o t+Ui (a.take i) t*Ui b t
 |
  0,_,_=>by
  show Ui o t=Ui o t+0*Ui b t;grind
 |
  i+1,h1,h2=>by
  have ih:=Qtf a b o t i (by omega) (by omega);simp only [B8];rw [Qtg _ _ _ _ _ b.length (Qm _) (by rw [Bt]; omega),ih,Qj7 a i t (by omega),Q5];grind
theorem Uw (a b:List Int) (t:Rat):Ui (Uq a b) t=Ui a t*Ui b t:=by
 unfold Uq
 split
 ·rename_i h;rcases h with h | h
  ·rw [Qi h]; show (0:Rat)=0*_; grind
  ·rw [Qi h]; show (0:Rat)=_*0; grind
 ·rename_i h;rw [E7,Qtf a b _ t a.length (Qm _) (by rw [Ja]; omega),Qm0,Q5];grind
theorem Gt (z d:Int):(z:Rat) / (d:Rat)=Rat.divInt z d:=by
 by_cases h:d=0
 ·subst h; simp; grind
 ·rw [J8]; exact (Rat.divInt_eq_div z d ▸ by rw [J8])
theorem Qqt (a:List Int) (n d:Int) (hd:(d:Rat)≠0):∀ k,k<=a.length->(((S4 a n d k).2:Int):Rat)=(d:Rat)^k/\(((S4 a n d k).1:Int):Rat)*d=(d:Rat)^k*Ui (a.drop (a.length-k)) ((n:Rat) / d)
 |
  0,_=>by
  refine ⟨by rw [Xf]; rfl,?_⟩;rw [K8,List.drop_length];show ((0:Int):Rat)*d=(d:Rat)^0*0
  push_cast; grind
 |
  k+1,hk=>by
  obtain ⟨h1,h2⟩:=Qqt a n d hd k (by omega);have hi:a.length-1-k<a.length:=by omega
  have e1:a.drop (a.length-(k+1))=a.getD (a.length-1-k) 0::a.drop (a.length-k):=by
   rw [show a.length-(k+1)=a.length-1-k by omega,Zu hi,show a.length-1-k+1=a.length-k by omega];congr 1;rw [Qe,Qf hi]; rfl
  refine ⟨?_,?_⟩
  ·show (((S4 a n d k).2*d:Int):Rat)=_;rw [Xx,h1,Z9]
  ·rw [e1];show (((S4 a n d k).1*n+a.getD (a.length-1-k) 0*(S4 a n d k).2:Int):Rat)*d=_*(((a.getD (a.length-1-k) 0:Int):Rat)+(n:Rat) / d*Ui (a.drop (a.length-k)) ((n:Rat) / d));rw [V9,Xx,Xx,h1,Z9];have h3:(n:Rat) / d*d=n:=by rw [Zg hd]
   have h4:(d:Rat)^k*d*((n:Rat) / d*Ui (a.drop (a.length-k)) ((n:Rat) / d))=((n:Rat) / d*d)*((d:Rat)^k*Ui (a.drop (a.length-k)) ((n:Rat) / d)):=by grind
   have h5:(d:Rat)^k*d*(((a.getD (a.length-1-k) 0:Int):Rat)+(n:Rat) / d*Ui (a.drop (a.length-k)) ((n:Rat) / d))=(d:Rat)^k*d*((a.getD (a.length-1-k) 0:Int):Rat)+(d:Rat)^k*d*((n:Rat) / d*Ui (a.drop (a.length-k)) ((n:Rat) / d)):=by grind
   rw [h5,h4,h3,<-h2];grind
theorem Qpx {d:Rat} (h:0<d):∀ k:Nat,0<d^k
 | 0=>by rw [Xf]; decide
 | k+1=>by rw [Z9]; exact Ue (Qpx h k) h
theorem Qd3 {x y:Rat} (h:0<y):Us (y*x)=Us x:=by
 unfold Us;have h1:y*x<0↔x<0:=by
  constructor
  ·intro h2;rcases Vu (a:=0) (b:=x) with h3 | h3
   ·have:=Rat.mul_nonneg (Qp h) h3; grind
   ·rcases V2.1 h3 with h4 | h4
    ·exact h4
    ·rw [h4] at h2; grind
  ·intro h2;have:=Ue h (show 0 < -x by grind);grind
 have h2:0<y*x↔0<x:=by
  constructor
  ·intro h2;rcases Vu (a:=x) (b:=0) with h3 | h3
   ·have:=Rat.mul_nonneg (Qp h) (show 0<=-x by grind); grind
   ·rcases V2.1 h3 with h4 | h4
    ·exact h4
    ·rw [<-h4] at h2; grind
  ·intro h2; exact Ue h h2
 simp only [h1,h2]
theorem Q6h (z:Int):B7 z 0=Us (z:Rat):=by
 unfold B7 Us;have h1:((z:Int):Rat)<0↔z<0:=by
  have := @Rat.intCast_lt_intCast z 0; simpa using this
 have h2:0<((z:Int):Rat)↔0<z:=by
  have := @Rat.intCast_lt_intCast 0 z; simpa using this
 simp only [h1,h2]
theorem Re (p:List Int) (q:Rat):U9 p q=Us (Ui p q):=by
 have hd0:(0:Rat)<((q.den:Int):Rat):=by
  have := @Rat.intCast_lt_intCast 0 (q.den:Int);rw [show ((0:Int):Rat)=0 from rfl] at this;exact this.2 (den_pos q)
 have hd:((q.den:Int):Rat)≠0:=by intro h; rw [h] at hd0; exact absurd hd0 (by decide)
 obtain ⟨_,h⟩:=Qqt p q.num q.den hd p.length (Qm _);rw [Yd,Xl,Gt,Zv] at h;unfold U9;rw [Q6h,<-Qd3 hd0,W5];show Us ((((S4 p q.num q.den p.length).1:Int):Rat)*_)=_;rw [h,Qd3 (Qpx hd0 _)]
def cz (p:List Int):List Rat:=p.map λz:Int=>(z:Rat)
theorem Ul (t:Rat):∀ p,ev (cz p) t=Ui p t
 | []=>rfl
 | a::p=>by have:=Ul t p; simp only [cz,Zt,ev,Ui] at *; rw [this]
theorem S8:∀ (p:List Int) (k:Nat),(cz p).getD k 0=((p.getD k 0:Int):Rat)
 | [],k=>by simp [cz]
 | a::p,0=>by simp [cz]
 | a::p,k+1=>by have:=S8 p k; simp only [cz,Zt,Q0] at *; exact this
theorem Bu {p q:List Int} (h:∀ t,Ui p t=Ui q t) (k:Nat):p.getD k 0=q.getD k 0:=by
 have:=Be (p:=cz p) (q:=cz q) (λt=>by rw [Ul,Ul,h]) k;rw [S8,S8] at this
 exact_mod_cast this
theorem Qh7 {p q:List Int} (hp:Um p) (hq:Um q) (h:∀ k,p.getD k 0=q.getD k 0):p=q:=by
 have key:∀ {p q:List Int},Um p->Um q->(∀ k,p.getD k 0=q.getD k 0)->p.length<=q.length:=λ{p q} hp hq h=>by
  rcases Q8 q.length p.length with e | e
  ·have:=Gw hp (by omega);rw [h,Qe,Qr (by omega)] at this;exact absurd rfl this
  ·exact e
 exact Qi5 (V8 (key hp hq h) (key hq hp λk=>(h k).symm)) λj _=>h j
theorem A8 {p q:List Int} (hp:Um p) (hq:Um q) (h:∀ t,Ui p t=Ui q t):p=q:=Qh7 hp hq (Bu h)
theorem Zen {p:List Int} (hp:Um p) (h:∀ t,Ui p t=0):p=[]:=A8 hp rfl λt=>by rw [h]; rfl
theorem Bh {p:List Int} (h:p.length=0) (t:Rat):Ui p t=0:=by rw [Qi h]; rfl
theorem Q0v:∀ (p r:List Int) (t:Rat),(∀ k,r.getD k 0=p.getD (k+1) 0*((k+1:Nat):Int))->Ui r t=dv (cz p) t
 |
  [],r,t,h=>by
  rw [Q0w (q:=[]) (λk=>by rw [h]; simp) t]; rfl
 |
  a::p,r,t,h=>by
  have ih:=Q0v p (Fg p) t λk=>Ts p k
  have e:Ui r t=Ui p t+t*Ui (Fg p) t:=by
   have:=M6 1 1 t (max (max p.length (0::Fg p).length) r.length) p (0::Fg p) r (by omega) (by omega) (by omega) λk=>by
    rw [h,Q0];cases k with
    | zero=>simp
    | succ k=>rw [Q0,Ts]; push_cast; grind
   rw [this]; simp only [Ui]; push_cast; grind
  rw [e,ih];show _=ev (cz p) t+t*dv (cz p) t;rw [Ul]
theorem E6 (p:List Int) (t:Rat):Ui (Fg p) t=dv (cz p) t:=Q0v p _ t λk=>Ts p k
theorem Qgh {p:List Int} (hp:Um p) (h:0<p.length):HD (cz p) (p.length-1):=by
 refine ⟨?_,λk hk=>?_⟩
 ·rw [S8];have:=Gw hp h;exact λe=>this (by exact_mod_cast e)
 ·rw [S8,Qe,Qr (by omega)]; rfl
theorem Qf8 {p:List Int} (hp:Um p) (h:0<p.length):¬∀ t,Ui p t=0:=λh0=>by
 rw [Zen hp h0] at h; exact absurd h (by simp)
theorem Pa {a b c:List Int} (ha:Um a) (hb:Um b) (hc:Um c) (h:∀ t,Ui c t=Ui a t*Ui b t) (la:0<a.length) (lb:0<b.length):c.length=a.length+b.length-1:=by
 have h1:=Qjk (Qgh ha la) (Qgh hb lb);have h2:HD (cz c) (a.length-1+(b.length-1)):=Zgt (λt=>by rw [Uo,Ul,Ul,Ul,h]) h1;have lc:0<c.length:=by
  rcases Qy c.length with e | e
  ·exact absurd (λt=>by rw [Ul]; exact Bh e t) (Qzy h2)
  ·exact e
 have:=Zgu (Qgh hc lc) h2;omega
theorem Qtk:∀ (n m:Nat),m<=n->2<=m->∃ P,2<=P/\P∣m/\∀ d,2<=d->d∣P->d=P
 | 0,m,h,h2=>by omega
 |
  n+1,m,h,h2=>by
  rcases Classical.em (∃ d,2<=d/\d<m/\d∣m) with ⟨d,d1,d2,d3⟩ | h0
  ·obtain ⟨P,p1,p2,p3⟩:=Qtk n d (by omega) d1;exact ⟨P,p1,Nat.dvd_trans p2 d3,p3⟩
  ·refine ⟨m,h2,Nat.dvd_refl m,λd d1 d2=>?_⟩;rcases Vh (V1 (by omega) d2) with e | e
   ·exact absurd ⟨d,d1,e,d2⟩ h0
   ·exact e
theorem Qou {P:Nat} (h2:2<=P) (hP:∀ d,2<=d->d∣P->d=P) {x y:Int} (h:(P:Int)∣x*y):(P:Int)∣x\/(P:Int)∣y:=by
 have h:=Xw.2 h;rw [Jp,Xa] at h;have hg:=Kk P x.natAbs;rcases Q8 (Nat.gcd P x.natAbs) 2 with e | e
 ·right;have h1:Nat.gcd P x.natAbs=1:=by
   have:=Nat.gcd_pos_of_pos_left x.natAbs (show 0<P by omega); omega
  have:=Nat.Coprime.dvd_of_dvd_mul_left h1 h;exact Xw.1 (by rwa [Xa])
 ·left;have:=hP _ e hg;have h3:=Wv P x.natAbs;rw [this] at h3;exact Xw.1 (by rwa [Xa])
def Qut (P:Int) (l:List Int):Prop:=∀ k,P∣l.getD k 0
theorem Qep {P:Nat} (h2:2<=P) (hP:∀ d,2<=d->d∣P->d=P):∀ (n:Nat) (b h c:List Int),b.length+h.length<=n->(∀ t,Ui c t=Ui b t*Ui h t)->Qut P c->Qut P b\/Qut P h
 | _,[],h,c,_,_,_=>.inl λk=>by simp
 | _,x::b,[],c,_,_,_=>.inr λk=>by simp
 | 0,x::b,y::h,c,hn,_,_=>by simp at hn
 |
  n+1,x::b,y::h,c,hn,hc,hd=>by
  simp only [Q7] at hn;by_cases hx:(P:Int)∣x
  ·-- x h is taken away
   have e:∀ t,Ui (0::Uq b (y::h)) t=Ui (Sx c (Uz (y::h) x)) t:=λt=>by
    rw [D6,Tj,hc]; simp only [Ui]; rw [Uw]; simp only [Ui]; push_cast; grind
   have hd':Qut P (Uq b (y::h)):=λk=>by
    have:=Bu e (k+1);rw [Q0,Dc,Hh] at this;rw [this];exact Int.dvd_sub (hd (k+1)) (Vd hx (Y4 _ _))
   rcases Qep h2 hP n b (y::h) _ (by simp only [Q7]; omega) (λt=>Uw _ _ t) hd' with h1 | h1
   ·refine .inl λk=>?_
    cases k with
    | zero=>rw [Zp]; exact hx
    | succ k=>rw [Q0]; exact h1 k
   ·exact .inr h1
  ·have h0:(P:Int)∣y:=by
    have e:c.getD 0 0=x*y:=by
     have:=Bu (p:=c) (q:=Uq (x::b) (y::h)) (λt=>by rw [hc,Uw]) 0;have e2:=Bu (p:=Uq (x::b) (y::h)) (q:=Tf (Uz (y::h) x) (0::Uq b (y::h))) (λt=>by
      rw [To,Tj,Uw]; simp only [Ui]; rw [Uw]; simp only [Ui]; push_cast; grind) 0
     rw [this,e2,Qmw,Hh,Zp,Zp,Kz]; omega
    have:=hd 0;rw [e] at this;rcases Qou h2 hP this with h1 | h1
    ·exact absurd h1 hx
    ·exact h1
   have e:∀ t,Ui (0::Uq (x::b) h) t=Ui (Sx c (Uz (x::b) y)) t:=λt=>by
    rw [D6,Tj,hc]; simp only [Ui]; rw [Uw]; simp only [Ui]; push_cast; grind
   have hd':Qut P (Uq (x::b) h):=λk=>by
    have:=Bu e (k+1);rw [Q0,Dc,Hh] at this;rw [this];exact Int.dvd_sub (hd (k+1)) (Vd h0 (Y4 _ _))
   rcases Qep h2 hP n (x::b) h _ (by simp only [Q7]; omega) (λt=>Uw _ _ t) hd' with h1 | h1
   ·exact absurd (by have:=h1 0; rwa [Zp] at this) hx
   ·refine .inr λk=>?_
    cases k with
    | zero=>rw [Zp]; exact h0
    | succ k=>rw [Q0]; exact h1 k
def Prm (b:List Int):Prop:=∀ d:Int,Qut d b->d∣1
theorem Q7f {a b:List Int} (hb:Prm b):∀ (n:Nat) (c:Int) (h:List Int),c.natAbs<=n->c≠0->(∀ t,(c:Rat)*Ui a t=Ui b t*Ui h t)->∃ h',∀ t,Ui a t=Ui b t*Ui h' t
 | 0,c,h,hn,h0,_=>absurd (by omega) h0
 |
  n+1,c,h,hn,h0,hc=>by
  rcases Q8 c.natAbs 2 with h1 | h1
  ·refine ⟨Uz h c,λt=>?_⟩;have hcc:(c:Rat)*c=1:=by
    have:c*c=1:=by
     rcases (show c=1\/c=-1 by omega) with rfl | rfl <;> rfl
    have:=congrArg (λz:Int=>(z:Rat)) this
    push_cast at this; exact this
   rw [Tj];have:=hc t;have:Ui a t=(c:Rat)*((c:Rat)*Ui a t):=by
    have:(c:Rat)*((c:Rat)*Ui a t)=((c:Rat)*c)*Ui a t:=by grind
    rw [this,hcc]; grind
   rw [this,hc]; grind
  ·obtain ⟨P,p1,p2,p3⟩:=Qtk c.natAbs c.natAbs (Qm _) h1;obtain ⟨d,hd⟩:∃ d,c=(P:Int)*d:=Wj.2 p2;have hall:Qut P (Uz a c):=λk=>by
    rw [Hh,hd]; exact Vd (Wq _ _) (Y4 _ _)
   have hP0:(P:Rat)≠0:=by
    have:((0:Nat):Rat)<(P:Rat):=Vm.2 (by omega);grind
   rcases Qep p1 p3 _ b h (Uz a c) (Qm _) (λt=>by rw [Tj,W5,hc]) hall with e | e
   ·have:=hb P e;have:=Xw.2 this;rw [Xa] at this;have:=V1 (by decide) this;exact absurd this (by show ¬P<=1; omega)
   ·refine Q7f hb n d (h.map (· / (P:Int))) ?_ (λe0=>h0 (by rw [hd,e0,Kb])) λt=>?_
    ·rw [hd,Jp,Xa] at hn h1;have:2*d.natAbs<=P*d.natAbs:=Qz _ p1;omega
    ·have e1:Ui h t=(P:Rat)*Ui (h.map (· / (P:Int))) t:=by
      have:=M6 P 0 t (max h.length (h.map (· / (P:Int))).length) (h.map (· / (P:Int))) [] h (by omega) (by simp) (by omega) λk=>by
       have:=e k;have e2:(h.map (· / (P:Int))).getD k 0=h.getD k 0 / (P:Int):=by
        rw [Qe,Qe,Za];cases h[k]? <;> simp
       rw [e2,K0 this]; simp
      rw [this]; simp only [Ui]; push_cast; grind
     have:=hc t;rw [hd,e1] at this
     push_cast at this
     have h3:(P:Rat)*((d:Rat)*Ui a t)=(P:Rat)*(Ui b t*Ui (h.map (· / (P:Int))) t):=by grind
     have h4:=Jc.1 (show (P:Rat)*((d:Rat)*Ui a t-Ui b t*Ui (h.map (· / (P:Int))) t)=0 by grind);rcases h4 with h4 | h4
     ·exact absurd h4 hP0
     ·grind
theorem Qln:∀ u:List Rat,∃ c:Int,c≠0/\∃ h:List Int,∀ t,(c:Rat)*ev u t=Ui h t
 | []=>⟨1,by decide,[],λt=>by simp only [ev,Ui]; grind⟩
 |
  a::u=>by
  obtain ⟨c,hc,h,hh⟩:=Qln u;refine ⟨c*(a.den:Int),Jj hc (by have:=a.den_nz; omega),(c*a.num)::Uz h (a.den:Int),λt=>?_⟩;have e:(a.den:Rat)*a=a.num:=by
   rw [W5];have:(a.num:Rat) / (((a.den:Int)):Rat)=a:=by rw [Gt,Zv]
   have hd:(a.den:Rat)≠0:=by
    have:((0:Nat):Rat)<(a.den:Rat):=Vm.2 a.den_pos;grind
   have h2:(a.num:Rat) / (a.den:Rat)*(a.den:Rat)=a.num:=Zg hd;rw [show (a.num:Rat) / (a.den:Rat)=a from this] at h2; exact h2
  simp only [ev,Ui];rw [Tj,<-hh]
  push_cast
  rw [<-e];have e3:(((a.den:Int)):Rat)=(a.den:Rat):=rfl;grind
theorem Q7e {a b:List Int} (hb:Prm b) (h:Is (cz b) (cz a)):∃ h',Um h'/\∀ t,Ui a t=Ui b t*Ui h' t:=by
 obtain ⟨u,hu⟩:=h;obtain ⟨c,hc,h,hh⟩:=Qln u;obtain ⟨h',e⟩:=Q7f hb c.natAbs c h (Qm _) hc λt=>by
  have:=hu t;rw [Ul,Ul] at this;rw [this,<-hh]; grind
 exact ⟨trim h',He _,λt=>by rw [E7,e]⟩
def sd (x0:Rat):List Rat->List Rat
 | []=>[]
 | _::p=>Ru p (Bj x0 (sd x0 p))
theorem Q64 (x0 x:Rat):∀ p,ev (sd x0 p) x=dq p x x0
 | []=>rfl
 | a::p=>by simp only [sd,dq]; rw [Fo,Fb,Q64 x0 x p]
theorem Qxq (x0:Rat):∀ (g:List Rat) (n:Nat),(∀ j,n<j->g.getD j 0=0)->∀ j,n<=j->(sd x0 g).getD j 0=0
 | [],n,_,j,_=>by simp [sd]
 |
  a::p,0,h,j,_=>by
  have hp:∀ j,p.getD j 0=0:=λj=>by have:=h (j+1) (by omega); rwa [Q0] at this
  simp only [sd];rw [Hb,Rr,hp,Qxq x0 p 0 (λj _=>hp j) j (Qg _)]; grind
 |
  a::p,n+1,h,j,hj=>by
  have hp:∀ j,n<j->p.getD j 0=0:=λj hj=>by have:=h (j+1) (by omega); rwa [Q0] at this
  simp only [sd];rw [Hb,Rr,hp j (by omega),Qxq x0 p n hp j (by omega)]; grind
theorem Qwk {K:Rat} (hK:0≤K):∀ (e:Nat) (g:List Rat) (pts:List Int) (M:Rat),pts.length=e+1->pts.Nodup->(∀ x∈pts,Up (x:Rat)≤K)->(∀ k,e<k->g.getD k 0=0)->(∀ x∈pts,Up (ev g (x:Rat))≤M)->∀ k,Up (g.getD k 0)≤(2*K+3)^e*M
 | _,_,[],_,h,_,_,_,_=>by simp at h
 |
  0,g,x0::xs,M,_,_,_,hg,hM=>λk=>by
  have h0:=hM x0 (by simp);rw [Xf];cases k with
  |
   zero =>
   have e:ev g (x0:Rat)=g.getD 0 0:=by
    cases g with
    | nil=>rfl
    |
     cons a p =>
     have hp:=Bp (p:=p) λj=>by have:=hg (j+1) (by omega); rwa [Q0] at this
     simp only [ev,hp,Zp]; grind
   rw [<-e]; grind
  |
   succ k =>
   rw [hg (k+1) (by omega),G8];have:=Gm (ev g (x0:Rat)); grind
 |
  e+1,g,x0::xs,M,hl,hn,hb,hg,hM=>λk=>by
  have hx0:=hb x0 (by simp);have hM0:=hM x0 (by simp);have hMn:0<=M:=Q9 (Gm _) hM0;rw [List.nodup_cons] at hn;have ih:=Qwk hK e (sd x0 g) xs (2*M) (by simpa using hl) hn.2 (λx hx=>hb x (by simp [hx])) (λj hj=>Qxq _ g (e+1) hg j (by omega)) λx hx=>by
   have h1:=hM x (by simp [hx]);have h2:=Qlx (x:Rat) (x0:Rat) g;rw [<-Q64] at h2;have hne:x-x0≠0:=λh=>hn.1 (by rw [show x0=x by omega]; exact hx)
   have h3:=A7 hne;rw [Rat.intCast_sub] at h3;have h4:Up (ev g (x:Rat)-ev g (x0:Rat))<=2*M:=by
    have:=Rt (ev g (x:Rat)) (-ev g (x0:Rat));rw [Cw,show ev g (x:Rat)+-ev g (x0:Rat)=ev g (x:Rat)-ev g (x0:Rat) by grind] at this;clear hM hb hg; grind
   rw [h2,Cv] at h4;have h5:=Q4 h3 (Gm (ev (sd x0 g) x));clear hM hb hg; grind
  have e1:∀ t,ev g t=ev (Ru [ev g x0] (Ru (Bj (-x0) (sd x0 g)) (0::sd x0 g))) t:=λt=>by
   have:=Qlx t (x0:Rat) g;rw [<-Q64] at this;simp only [Fo,Fb,ev];grind
  have hp1:1<=(2*K+3)^e:=(Qav (R:=2*K+3) (x:=0) (by grind) (by rw [G8]; grind) e).2;have hpM:=Pm (x:=(2*K+3)^e) (y:=M) (by grind) hMn;have hpM1:=Q4 hp1 hMn;rw [Z9,Be e1 k,Hb,Hb,Rr];have a1:=ih k;have a2:Up (-(x0:Rat)*(sd (x0:Rat) g).getD k 0)<=K*((2*K+3)^e*(2*M)):=Fy (by rw [Cw]; exact hx0) a1;have fin:∀ u v w:Rat,Up u<=M->Up v<=K*((2*K+3)^e*(2*M))->Up w<=(2*K+3)^e*(2*M)->Up (u+(v+w))<=(2*K+3)^e*(2*K+3)*M:=λu v w h1 h2 h3=>by
   have b1:=Rt u (v+w);have b2:=Rt v w;clear ih e1 hM hb hg a1 a2; grind
  refine fin _ _ _ ?_ a2 ?_
  ·cases k with
   | zero=>rw [Zp]; exact hM0
   | succ k=>rw [Q0,Kj,G8]; exact hMn
  ·cases k with
   | zero=>rw [Zp,G8]; clear ih e1 hM hb hg a1 a2 fin; grind
   | succ k=>rw [Q0]; exact ih k
theorem Q9s {g:List Rat} {e:Nat} (hg:∀ k,e<k->g.getD k 0=0) (hz:¬∀ t,ev g t=0) {pts:List Int} (hn:pts.Nodup) (hr:∀ x∈pts,ev g (x:Rat)=0):pts.length≤e:=by
 rcases Q8 e pts.length with h | h
 ·exfalso;obtain ⟨K,hK,hb⟩:∃ K:Rat,0≤K/\∀ x∈pts,Up (x:Rat)≤K:=by
   clear hn hr h
   induction pts with
   | nil=>exact ⟨0,by decide,λx hx=>by cases hx⟩
   |
    cons y pts ih =>
    obtain ⟨K,h1,h2⟩:=ih;refine ⟨K+Up (y:Rat),by have:=Gm (y:Rat); grind,λx hx=>?_⟩;have hy:=Gm (y:Rat);rcases Qo.1 hx with rfl | hx
    ·grind
    ·have:=h2 x hx; grind
  refine hz (Bp λk=>?_);have:=Qwk hK e g (pts.take (e+1)) 0 (by rw [Qx]; omega) (hn.sublist (Wu ..)) (λx hx=>hb x (Ql hx)) hg (λx hx=>by rw [hr x (Ql hx),G8]; exact Qq) k;have h2:=Gm (g.getD k 0);exact Zex (by grind)
 ·exact h
def spots:List Int:=(List.range 19).map λi:Nat=>(i:Int)-9
theorem spots_nd:spots.Nodup:=by decide
theorem Qt3:∀ x∈spots,x.natAbs≤9:=by decide
theorem Qi7 {α:Type} (p:α->Bool):∀ l:List α,(l.filter p).length+(l.filter λx => !p x).length=l.length
 | []=>rfl
 |
  x::l=>by
  have:=Qi7 p l;cases h:p x <;> simp [h] <;> omega
def geo:Nat->Nat
 | 0=>0
 | n+1=>1+9*geo n
theorem Qzq {B:Rat}:∀ (p:List Int),(∀ z∈p,Up (z:Rat)≤B)->evB 9 (cz p)≤B*(geo p.length:Nat)
 | [],_=>by simp only [cz,Jb,evB,geo,Jw]; rw [show ((0:Nat):Rat)=0 from rfl]; grind
 |
  a::p,h=>by
  have h1:=Qzq p λz hz=>h z (Qh _ hz)
  have h2:=h a (Qt ..);simp only [cz,Zt,evB,geo,Q7] at *
  push_cast
  clear h; grind
theorem Q7n {m n:Nat} (h:m<=n):geo m<=geo n:=by
 induction h with
 | refl=>exact Qm _
 | step h ih=>simp only [geo]; omega
def pz:List Int->Int->Int
 | [],_=>0
 | a::p,x=>a+x*pz p x
theorem Qb8 (x:Int):∀ p,Ui p (x:Rat)=((pz p x:Int):Rat)
 | []=>rfl
 | a::p=>by simp only [Ui,pz,Qb8 x p]; push_cast; rfl
theorem Rw (z:Int):Up (z:Rat)=((z.natAbs:Nat):Rat):=by
 unfold Up;rcases Ky z 0 with h | h
 ·have h1:(z:Rat)<((0:Int):Rat):=Ji.2 h;rw [if_pos (by simpa using h1)];have:(z.natAbs:Int)=-z:=by omega
  have:=congrArg (λu:Int=>(u:Rat)) this
  push_cast at this
  exact this.symm
 ·have h1:((0:Int):Rat)<=(z:Rat):=X9.2 h;have h1:(0:Rat)<=(z:Rat):=by simpa using h1
  rw [if_neg (by grind)];have:(z.natAbs:Int)=z:=by omega
  have:=congrArg (λu:Int=>(u:Rat)) this;exact this.symm
theorem I4 {p g h:List Int} {s:Nat} (hp:Bd s p) (hl:p.length<=10) (tp:Um p) (tg:Um g) (th:Um h) (h0:p.length≠0) (e:∀ t,Ui p t=Ui g t*Ui h t):Bd (s+69) g:=by
 have lg:0<g.length:=by
  rcases Qy g.length with e' | e'
  ·exact absurd (λt=>by rw [e,Bh e']; grind) (Qf8 tp (by omega))
  ·exact e'
 have lh:0<h.length:=by
  rcases Qy h.length with e' | e'
  ·exact absurd (λt=>by rw [e,Bh e']; grind) (Qf8 tp (by omega))
  ·exact e'
 have hlen:=Pa tg th tp e lg lh;obtain ⟨q,hq⟩:=nmE (spots.filter λx => !decide (pz p x=0));have hr:(spots.filter λx=>decide (pz p x=0)).length<=9:=by
  refine Q9s (g:=cz p) (e:=9) (λk hk=>?_) (λh=>Qf8 tp (by omega) λt=>by rw [<-Ul]; exact h t) (spots_nd.sublist Wa) λx hx=>?_
  ·rw [S8,Qe,Qr (by omega)]; rfl
  ·have:=(V6.1 hx).2;rw [Ul,Qb8,of_decide_eq_true this]; rfl
 have hc:=Qi7 (λx=>decide (pz p x=0)) spots;rw [<-hq] at hc;have hsl:spots.length=19:=by decide
 have hB:∀ z∈p,Up (z:Rat)≤((2^s:Nat):Rat):=λz hz=>by
  rw [Rw];have:=hp z hz;rw [Ri] at this;exact Zb.2 (Jo this)
 have key:=Qwk (K:=9) (by decide) 9 (cz g) (q.take 10) (((2^s*435848050:Nat)):Rat) (by rw [Qx]; omega) ((spots_nd.sublist (by rw [hq]; exact Wa)).sublist (Wu ..)) (λx hx=>by
  have hx:=Ql hx;rw [hq] at hx;have:=Qt3 x (V6.1 hx).1;rw [Rw]
  exact_mod_cast Zb.2 this) (λk hk=>by rw [S8,Qe,Qr (by omega)]; rfl) (λx hx=>by
  have hx:=Ql hx;rw [hq] at hx;obtain ⟨hx1,hx2⟩:=V6.1 hx;have hne:pz p x≠0:=by simpa using hx2
  have e1:=e (x:Rat);rw [Qb8,Qb8,Qb8] at e1;have e2:pz p x=pz g x*pz h x:=by exact_mod_cast e1
  have hh:1<=(pz h x).natAbs:=by
   rcases Qy (pz h x).natAbs with e' | e'
   ·exact absurd (by rw [e2,Int.natAbs_eq_zero.1 e',Kb]) hne
   ·exact e'
  have h3:(pz g x).natAbs<=(pz p x).natAbs:=by
   rw [e2,Jp];exact Jt _ hh
  rw [Ul,Qb8,Rw];refine Q9 (Zb.2 h3) ?_;rw [<-Rw,<-Qb8,<-Ul];refine Q9 (Qga (R:=9) (by
   have:=Qt3 x hx1;rw [Rw]
   exact_mod_cast Zb.2 this) _) ?_
  refine Q9 (Qzq p hB) ?_;have:2^s*geo p.length<=2^s*435848050:=Zl _ (Qd (Q7n hl) (by decide));have:=Zb.2 this
  push_cast at this ⊢
  exact this)
 refine Qic λk=>?_
 have h1:=key k;rw [S8,Rw] at h1;have e3:(2*(9:Rat)+3)^9*((2^s*435848050:Nat):Rat)=(((794280046581*(2^s*435848050)):Nat):Rat):=by
  rw [show (2*(9:Rat)+3)^9=794280046581 by grind]
  push_cast; rfl
 rw [e3] at h1;have h2:=Zb.1 h1;rw [Ri];refine Zz h2 ?_;have:794280046581*(2^s*435848050)=2^s*(794280046581*435848050):=by
  rw [Kf]
 rw [this,Xh];exact Nat.mul_lt_mul_of_pos_left (by decide) (Zx (by decide))
theorem Qr3 {l:List Int} {d:Int} (h:∀ z∈l,d∣z):d∣((Gj l:Nat):Int):=by
 have key:∀ (l:List Int) (g:Nat),d.natAbs∣g->(∀ z∈l,d∣z)->d.natAbs∣l.foldl (λg z=>Nat.gcd g z.natAbs) g:=by
  intro l
  induction l with
  | nil=>exact λg h _=>h
  | cons z l ih=>exact λg hg h=>ih _ (Nat.dvd_gcd hg (Xw.2 (h z (Qt ..)))) λu hu=>h u (Qh _ hu)
 have:=key l 0 (Nat.dvd_zero _) h;exact Xw.1 (by rw [Xa]; exact this)
theorem Qc7 (p:List Int) (c:Int) (k:Nat):(p.map (· / c)).getD k 0=p.getD k 0 / c:=by
 rw [Qe,Qe,Za];cases p[k]? <;> simp
theorem Qb9 (p:List Int) (c:Int) (k:Nat):(Cf p c).getD k 0=p.getD k 0 / c:=by
 unfold Cf; rw [Ah,Qc7]
theorem Qmy {p:List Int} {c:Int} (h:∀ z∈p,c∣z) (t:Rat):Ui p t=(c:Rat)*Ui (Cf p c) t:=by
 have:=M6 c 0 t (max p.length (Cf p c).length) (Cf p c) [] p (by omega) (by simp) (by omega) λk=>by
  rw [Qb9];have hd:c∣p.getD k 0:=by
   rw [Qe];cases e:p[k]? with
   | none=>exact Int.dvd_zero _
   | some z=>exact h z (Qa e)
  rw [K0 hd]; simp
 rw [this]; simp only [Ui]; push_cast; grind
theorem I7 {c:Int} (h:c≠0):(c:Rat)≠0:=λe=>h (by exact_mod_cast e)
theorem A5 {p q:List Int} {c:Rat} (tp:Um p) (tq:Um q) (hc:c≠0) (h:∀ t,Ui p t=c*Ui q t):p.length=q.length:=by
 have key:∀ {p q:List Int} {c:Rat},Um p->Um q->c≠0->(∀ t,Ui p t=c*Ui q t)->p.length<=q.length:=λ{p q c} tp tq hc h=>by
  rcases Q8 q.length p.length with e | e
  ·have h1:=Gw tp (by omega);have:=Be (p:=cz p) (q:=Bj c (cz q)) (λt=>by rw [Ul,Fb,Ul,h]) (p.length-1);rw [S8,Rr,S8,Qe (l:=q),Qr (by omega)] at this;have:((p.getD (p.length-1) 0:Int):Rat)=0:=by rw [this]; simp
   exact absurd (by exact_mod_cast this) h1
  ·exact e
 refine V8 (key tp tq hc h) (key (c:=1 / c) tq tp (λe=>?_) λt=>?_)
 ·have:=Zg (a:=1) hc; rw [e] at this; grind
 ·rw [h]; have:=Zg (a:=1) hc; grind
theorem Bv {p:List Int} (tp:Um p) (h:p.length≠0):Um (Uy p)/\(Uy p).length=p.length/\Prm (Uy p)/\0<Ux (Uy p)/\(∀ s,Bd s p->Bd s (Uy p))/\Gl p≠0/\∀ t,Ui p t=(Gl p:Rat)*Ui (Uy p) t:=by
 have h0:=Q0x tp h;have e:Uy p=Cf p (Gl p):=by unfold Uy; rw [if_neg h]
 have h1:=Qmy (p:=p) (c:=Gl p) Qdm;have hl:=A5 tp (Ic p (Gl p)) (I7 h0) h1;have hcp:0<Px p:=by
  have:=Om tp h;unfold Px at this ⊢; omega
 rw [e];refine ⟨Ic _ _,hl.symm,λd hd=>?_,?_,λs hs=>Qid hs _,h0,h1⟩
 ·have h2:∀ z∈p,d*Gl p∣z:=λz hz=>by
   obtain ⟨i,hi⟩:=Zh.1 hz;have h3:=hd i;rw [Qb9,Qe,hi] at h3;obtain ⟨k,hk⟩:=h3;have h4:=Qdm z hz;refine ⟨k,?_⟩;have:z / Gl p*Gl p=z:=K9 h4;rw [<-this];rw [show z / Gl p=d*k from hk,Int.mul_right_comm]
  have h3:=Qr3 h2;have h4:Gl p∣((Gj p:Nat):Int)/\((Gj p:Nat):Int)∣Gl p:=by
   unfold Gl Px; split
   ·exact ⟨Uc.2 (Kv _),Int.dvd_neg.2 (Kv _)⟩
   ·exact ⟨Kv _,Kv _⟩
  obtain ⟨k,hk⟩:=Vd h3 h4.2;refine ⟨k,?_⟩;have:Gl p*(d*k)=Gl p*1:=by rw [Wg,<-Int.mul_assoc,Kz (Gl p) d,<-hk]
  exact (Int.eq_of_mul_eq_mul_left h0 this).symm
 ·have h2:Ux (Cf p (Gl p))=Ux p / Gl p:=by unfold Ux; rw [<-hl,Qb9]
  have h3:Gl p∣Ux p:=Qdm _ (Qsr h);have h5:Ux p / Gl p*Gl p=Ux p:=K9 h3;rw [h2];have h6:=Lp tp h;rcases Ju (Ux p / Gl p) 0 with e1 | e1 | e1
  ·exfalso;by_cases hn:Ux p<0
   ·have:Gl p=-Px p:=by unfold Gl; rw [if_pos hn]
    have:0<Ux p / Gl p*Gl p:=V5 e1 (by omega);omega
   ·have:Gl p=Px p:=by unfold Gl; rw [if_neg hn]
    have:Ux p / Gl p*Gl p<0:=Int.mul_neg_of_neg_of_pos e1 (by omega);omega
  ·rw [e1] at h5; omega
  ·exact e1
theorem Q83 {r:List Int} (tr:Um r):∃ c:Rat,0<c/\∀ t,Ui r t=c*Ui (Qbi r) t:=by
 unfold Qbi;by_cases h:r.length=0
 ·rw [if_pos h]; exact ⟨1,by decide,λt=>by rw [Bh h,Bh rfl]; grind⟩
 ·rw [if_neg h];have h1:0<Px r:=by
   have:=Om tr h;unfold Px at this ⊢; omega
  have h2:((0:Int):Rat)<(Px r:Rat):=Ji.2 h1;exact ⟨Px r,by simpa using h2,Qmy E5⟩
theorem Oo (x:Int) (t:Rat):∀ i,Ui (mono i x) t=(x:Rat)*t^i
 | 0=>by simp only [mono,Wb,Ys,Ui,Xf]; grind
 |
  i+1=>by
  have ih:=Oo x t i;simp only [mono,J0,Xi,Ui] at *;rw [ih,Z9]; push_cast; grind
theorem Q0f (x:Int) (b:List Int) (i k:Nat):(Uq (trim (mono i x)) b).getD k 0=if i<=k then x*b.getD (k-i) 0 else 0:=by
 have e:∀ t,Ui (Uq (trim (mono i x)) b) t=Ui (List.replicate i 0++b.map (x * ·)) t:=λt=>by
  rw [Uw,E7,Oo];have h2:∀ i,Ui (List.replicate i 0++b.map (x * ·)) t=t^i*((x:Rat)*Ui b t):=λi=>by
   induction i with
   |
    zero =>
    simp only [Wb,Ys,Xf];have:=M6 x 0 t (max b.length (b.map (x * ·)).length) b [] (b.map (x * ·)) (by omega) (by simp) (by omega) λk=>by
     rw [Qe,Qe,Za];cases b[k]? <;> simp
    rw [this]; simp only [Ui]; push_cast; grind
   | succ i ih=>simp only [J0,Xi,Ui,ih,Z9]; push_cast; grind
  rw [h2]; grind
 rw [Bu e k,Qe,List.getElem?_append,Ja];by_cases h:i<=k
 ·rw [if_neg (by omega),if_pos h,Za,Qe];cases b[k-i]? <;> simp
 ·rw [if_pos (by omega),if_neg h,Js,if_pos (by omega)]; rfl
theorem Q73 {p:List Int} {n:Nat} (tp:Um p) (h:p.length<=n+1) (h0:p.getD n 0=0):p.length<=n:=by
 rcases Q8 n p.length with e | e
 ·have:=Gw tp (by omega);rw [show p.length-1=n by omega] at this;exact absurd h0 this
 ·exact e
theorem Zfp {b r:List Int} {i:Nat} (tr:Um r) (h:r.length<=b.length+i) (hb:b.length≠0) {x:Int} (hx:x=if r.length=b.length+i then Ux r else 0):(str b (Ux b) i x r).length<b.length+i:=by
 have hl:=Qo8 (c:=Ux b) (x:=x) (i:=i) (b:=b) (r:=r);have:=Q73 (p:=str b (Ux b) i x r) (n:=b.length+i-1) (Uv _ _) (by omega) (by
  unfold str;rw [Dc,Hh,Q0f,if_pos (by omega),hx,show b.length+i-1-i=b.length-1 by omega]
  split
  ·rename_i he;unfold Ux;rw [he,Int.sub_eq_zero]
  ·rw [Qe (l:=r),Qr (by omega)]; simp)
 omega
theorem Zjx (b r:List Int) (c:Int) (i:Nat) (x:Int) (t:Rat):(c:Rat)*Ui r t=(x:Rat)*t^i*Ui b t+Ui (str b c i x r) t:=by
 unfold str;rw [D6,Tj,Uw,E7,Oo]; grind
theorem Q88 (b:List Int) (c:Int):∀ (i:Nat) (q r:List Int),∃ X:List Rat,∀ t,((c^i:Int):Rat)*Ui r t=ev X t*Ui b t+Ui (psd b c i (q,r)).2 t
 | 0,q,r=>⟨[],λt=>by simp only [psd,ev]; rw [Int.pow_zero]; push_cast; grind⟩
 |
  i+1,q,r=>by
  obtain ⟨x,hx⟩:=nmE (if r.length=b.length+i then Ux r else 0);obtain ⟨X,hX⟩:=Q88 b c i (stq c i x q) (str b c i x r);obtain ⟨m,hm⟩:∃ m:List Rat,∀ t,ev m t=(x:Rat)*t^i:=⟨cz (mono i x),λt=>by rw [Ul,Oo]⟩;refine ⟨Ru (Bj ((c^i:Int):Rat) m) X,λt=>?_⟩;rw [Ot hx,Fo,Fb,hm];have h1:=hX t;have h2:=Zjx b r c i x t;rw [Int.pow_succ]
  push_cast at h1 ⊢
  have:(c:Rat)^i*c*Ui r t=(c:Rat)^i*((c:Rat)*Ui r t):=by grind
  rw [this,h2]; grind
theorem Q01 {b:List Int} (hb:b.length≠0):∀ (i:Nat) (q r:List Int),Um r->r.length<b.length+i->Um (psd b (Ux b) i (q,r)).2/\(psd b (Ux b) i (q,r)).2.length<b.length
 | 0,q,r,tr,h=>⟨tr,h⟩
 |
  i+1,q,r,tr,h=>by
  rw [Ot rfl];exact Q01 hb i _ _ (Uv _ _) (Zfp tr (by omega) hb rfl)
theorem Q87 {b:List Int} {c:Int} {t:Nat} (hb:Bd t b) (hc:Ur c<=t):∀ (i u:Nat) (q r:List Int),i<=64->Bd u r->Bd (u+i*(t+8)) (psd b c i (q,r)).2
 | 0,u,q,r,_,h=>by simpa [psd] using h
 |
  i+1,u,q,r,hi,h=>by
  rw [Ot rfl];have hx:Ur (if r.length=b.length+i then Ux r else 0)<=u:=by
   split
   ·exact Pq h
   ·rw [Pu]; exact Qg _
  have:=Q87 hb hc i (u+t+8) (stq c i (if r.length=b.length+i then Ux r else 0) q) (str b c i (if r.length=b.length+i then Ux r else 0) r) (by omega) (Qu0 h hb hc hx (by omega));exact Ug this (by rw [Xe]; omega)
theorem Qkd {c:Int} (h:c<0):∀ k:Nat,(k % 2=1->c^k<0)/\(k % 2=0->0<c^k)
 | 0=>⟨λh=>by omega,λ_=>by rw [Int.pow_zero]; decide⟩
 |
  k+1=>by
  obtain ⟨i1,i2⟩:=Qkd h k;rw [Int.pow_succ];exact ⟨λhk=>V4 (i2 (by omega)) h,λhk=>V5 (i1 (by omega)) h⟩
theorem Qh0 {a b:List Int} (ta:Um a) (tb:Um b) (hb:b.length≠0) (hl:a.length<=60):Um (Hk a b)/\(Hk a b).length<b.length/\(∀ s,Bd s a->Bd s b->Bd (s+(a.length+1-b.length)*(s+8)) (Hk a b)) /\
 ∃ u v:Rat,0<u/\0<v/\∃ X:List Rat,∀ t,u*Ui a t=ev X t*Ui b t+v*Ui (Hk a b) t:=by
 obtain ⟨k,hk⟩:=nmE (a.length+1-b.length);have h1:Um (Si a b)/\(Si a b).length<b.length:=Q01 hb _ _ _ ta (by omega);obtain ⟨X,hX⟩:=Q88 b (Ux b) k [] a;have hX:∀ t,(((Ux b)^k:Int):Rat)*Ui a t=ev X t*Ui b t+Ui (Si a b) t:=by unfold Si; rw [<-hk]; exact hX
 have h2:=Qdt (a:=a) (b:=b) (r:=Si a b) (n:=(Si a b).length) (s:=(Si a b).foldl (λm z=>m+Ur z) 0) h1.1 (Qm _) (λz hz=>by
  have key:∀ (l:List Int) (m:Nat),m≤l.foldl (λm z=>m+Ur z) m/\∀ z∈l,Ur z≤l.foldl (λm z=>m+Ur z) m:=by
   intro l
   induction l with
   | nil=>exact λm=>⟨Qm _,λz hz=>by cases hz⟩
   |
    cons y l ih =>
    intro m;obtain ⟨i1,i2⟩:=ih (m+Ur y);refine ⟨by simp only [Z8]; omega,λz hz=>?_⟩;simp only [Z8];rcases Qo.1 hz with rfl | hz
    ·omega
    ·exact i2 z hz
  exact (key _ 0).2 z hz)
 have h3:=Qj9 (r:=Mn a b (Si a b)) (n:=(Si a b).length) h2.2.1 h2.2.2;refine ⟨h3.1,by unfold Hk; omega,λs ha hbs=>?_,?_⟩
 ·have h4:=Q87 (c:=Ux b) hbs (Pq hbs) k s [] a (by omega) ha;have h5:=Qdt (a:=a) (b:=b) (n:=(Si a b).length) h1.1 (Nat.le_refl _) (show Bd (s+k*(s+8)) (Si a b) by unfold Si; rw [<-hk]; exact h4);rw [<-hk];exact (Qj9 h5.2.1 h5.2.2).2.2
 ·obtain ⟨v,vp,hv⟩:=Q83 h2.1;have hc:=Lp tb hb;by_cases ht:k % 2=1/\Ux b<0
  ·have e1:Mn a b (Si a b)=H5 (Si a b):=by unfold Mn; rw [<-hk,if_pos ht]
   have hneg:(Ux b)^k<0:=(Qkd ht.2 k).1 ht.1;have h5:(((Ux b)^k:Int):Rat)<((0:Int):Rat):=Ji.2 hneg;have h5:(((Ux b)^k:Int):Rat)<0:=by simpa using h5
   refine ⟨-(((Ux b)^k:Int):Rat),v,by grind,vp,Bj (-1) X,λt=>?_⟩;have h6:=hX t;have h7:=hv t;rw [e1,Pz] at h7;show _=_+v*Ui (Qbi (Mn a b (Si a b))) t;rw [e1,<-h7,Fb]; grind
  ·have e1:Mn a b (Si a b)=Si a b:=by unfold Mn; rw [<-hk,if_neg ht]
   have hpos:0<(Ux b)^k:=by
    rcases Ka hc with h | h
    ·exact (Qkd h k).2 (by omega)
    ·exact Int.pow_pos h
   have h5:((0:Int):Rat)<(((Ux b)^k:Int):Rat):=Ji.2 hpos;refine ⟨(((Ux b)^k:Int):Rat),v,by simpa using h5,vp,X,λt=>?_⟩;have h7:=hv t;show _=_+v*Ui (Qbi (Mn a b (Si a b))) t;rw [<-h7,e1,hX]
theorem Dm {p:List Int} (h1:p.length<=64) (h2:Bd 16777216 p):chk p=some p:=by
 unfold chk;rw [if_pos ⟨h1,Yk.2 λz hz=>Nat.ble_eq_true_of_le (h2 z hz)⟩]
theorem Qlv {a b:List Int} {g:List Rat} {c:Rat} (hc:c≠0) (h:∀ t,Ui a t=c*Ui b t):Is g (cz a)↔Is g (cz b):=by
 constructor
 ·rintro ⟨u,hu⟩
  refine ⟨Bj (1 / c) u,λt=>?_⟩;have h1:=hu t;rw [Ul,h] at h1;rw [Ul,Fb];have h2:1 / c*c=1:=Zg hc;have:Ui b t=1 / c*(c*Ui b t):=by grind
  rw [this,h1]; grind
 ·rintro ⟨u,hu⟩
  refine ⟨Bj c u,λt=>?_⟩;have h1:=hu t;rw [Ul] at h1;rw [Ul,Fb,h,h1]; grind
structure Gc (g a b:List Int):Prop where
 t:Um g
 da:Is (cz g) (cz a)
 db:Is (cz g) (cz b)
 c:∃ U V,∀ t,Ui g t=ev U t*Ui a t+ev V t*Ui b t
 n:g.length≠0
theorem Gc.scale {g a b g' a' b':List Int} {x y z:Rat} (h:Gc g a b) (hx:x≠0) (hy:y≠0) (hz:z≠0) (tg:Um g') (eg:∀ t,Ui g t=x*Ui g' t) (ea:∀ t,Ui a' t=y*Ui a t) (eb:∀ t,Ui b' t=z*Ui b t):Gc g' a' b':=by
 have hx1:1 / x*x=1:=Zg hx;have hy1:1 / y*y=1:=Zg hy;have hz1:1 / z*z=1:=Zg hz;have hg:∀ c,Is (cz g) c->Is (cz g') c:=λc ⟨u,hu⟩=>⟨Bj x u,λt=>by rw [hu,Ul,Ul,eg,Fb]; grind⟩
 obtain ⟨U,V,hc⟩:=h.c;refine ⟨tg,hg _ ((Qlv hy ea).2 h.da),hg _ ((Qlv hz eb).2 h.db),⟨Bj (1 / x*(1 / y)) U,Bj (1 / x*(1 / z)) V,λt=>?_⟩,?_⟩
 ·have h1:=hc t;have h2:Ui g' t=1 / x*Ui g t:=by rw [eg]; grind
  rw [h2,h1,Fb,Fb,ea,eb];generalize ev U t=u at *;generalize ev V t=v at *;grind
 ·rw [<-A5 h.t tg hx eg]; exact h.n
theorem Zje:∀ d:Nat,1<=d->d+2<=3^d
 | 0,h=>by omega
 | 1,_=>by decide
 | d+2,_=>by have:=Zje (d+1) (by omega); rw [Zm]; omega
theorem Quh {k:Nat} {a b:List Int} (ta:Um a) (tb:Um b) (hb:b.length≠0) (hl:a.length<=60) (hbl:b.length<=60) (hr:Bd 16777216 (Hk a b)) (ih:∃ g,Qfy k b (Hk a b)=some g/\Gc g b (Hk a b)):∃ g,Qfy (k+1) a b=some g/\Gc g a b:=by
 obtain ⟨h1,h2,h3,u,v,up,vp,X,hX⟩:=Qh0 ta tb hb hl;obtain ⟨g,e,hg⟩:=ih;refine ⟨g,?_,?_⟩
 ·simp only [Qfy];rw [if_neg hb,Dm (by omega) hr]; exact e
 ·obtain ⟨U,V,hc⟩:=hg.c;obtain ⟨y,hy⟩:=hg.da;obtain ⟨z,hz⟩:=hg.db;have hu:1 / u*u=1:=Fj up;have hv:1 / v*v=1:=Fj vp;refine ⟨hg.t,⟨Bj (1 / u) (Ru (Fu X y) (Bj v z)),λt=>?_⟩,hg.da,⟨Bj (u / v) V,Ru U (Bj (-1 / v) (Fu V X)),λt=>?_⟩,hg.n⟩
  ·have a1:=hX t; have a2:=hy t; have a3:=hz t;rw [Ul,Ul] at a2 a3;rw [Ul,Ul,Fb,Fo,Uo,Fb];have:Ui a t=1 / u*(u*Ui a t):=by grind
   rw [this,a1,a2,a3]; grind
  ·have a1:=hX t; have a2:=hc t;rw [Fb,Fo,Fb,Uo,a2];have:Ui (Hk a b) t=1 / v*(v*Ui (Hk a b) t):=by grind
   rw [this,show v*Ui (Hk a b) t=u*Ui a t-ev X t*Ui b t by grind,J8,J8,J8];grind
theorem Q1m {k:Nat} {a:List Int} (ta:Um a) (ha:a.length≠0):∃ g,Qfy (k+1) a []=some g/\Gc g a [] :=
 ⟨a,rfl,ta,dvd_refl _,⟨[],λt=>by simp only [cz,Jb,ev]; grind⟩,⟨[1],[],λt=>by rw [Hm]; simp only [ev]; grind⟩,ha⟩
theorem Qfz {s:Nat}:∀ (k:Nat) (a b:List Int),Um a->Um b->b.length<k->b.length<a.length->a.length<=60->Bd s a->Bd s b->(s+8)*3^(a.length-1)<=16777216->∃ g,Qfy k a b=some g/\Gc g a b
 | 0,_,_,_,_,h,_,_,_,_,_=>by omega
 |
  k+1,a,b,ta,tb,hk,hab,hl,ba,bb,hs=>by
  by_cases hb:b.length=0
  ·rw [Qi hb]; exact Q1m ta (by omega)
  ·obtain ⟨h1,h2,h3,_⟩:=Qh0 ta tb hb hl;have h3:=h3 s ba bb;obtain ⟨m,hm⟩:=nmE (a.length-b.length);have e1:a.length+1-b.length=m+1:=by omega
   rw [e1] at h3;have e2:s+(m+1)*(s+8)+8=(m+2)*(s+8):=by
    rw [show m+2=(m+1)+1 by omega,Xe (m+1)]; omega
   have e3:(m+2)*(s+8)*3^(b.length-1)<=(s+8)*3^(a.length-1):=by
    rw [show a.length-1=m+(b.length-1) by omega,Xh,<-Xn,Zj (s+8)];exact Qz _ (Qz _ (Zje m (by omega)))
   have e4:s+(m+1)*(s+8)<=16777216:=by
    have:(m+2)*(s+8)<=(m+2)*(s+8)*3^(b.length-1):=Jt _ (Zx (by decide));omega
   refine Quh ta tb hb hl (by omega) (Ug h3 e4) (Qfz (s:=s+(m+1)*(s+8)) k b (Hk a b) tb h1 (by omega) h2 (by omega) (Ug bb (by omega)) h3 ?_);rw [e2]; omega
def Szz (n s:Nat):Prop:=n<=10/\2*(s+8)*3^(n-1)<=16777216
theorem Zay {n s:Nat} (hz:Szz n s) {a b:List Int} (ta:Um a) (tb:Um b) (la:a.length<=n) (lb:b.length<=n) (ba:Bd s a) (bb:Bd s b) (h0:a.length≠0\/b.length≠0):∃ g,Qfy 66 a b=some g/\Gc g a b:=by
 obtain ⟨hn,hz⟩:=hz;have hp:∀ l,l<=n->(s+8)*3^(l-1)<=8388608:=λl hl=>by
  have:(s+8)*3^(l-1)<=(s+8)*3^(n-1):=Zl _ (Zq (by decide) (by omega));rw [Xn] at hz; omega
 rcases Q8 b.length a.length with h | h
 ·exact Qfz 66 a b ta tb (by omega) h (by omega) ba bb (by have:=hp a.length la; omega)
 ·by_cases hb:b.length=0
  ·rw [Qi hb]; exact Q1m ta (by omega)
  ·obtain ⟨h1,h2,h3,_⟩:=Qh0 ta tb hb (by omega);have h3:=h3 s ba bb;have h4:(a.length+1-b.length)*(s+8)<=1*(s+8):=Qz _ (by omega);have h5:=hp b.length lb;have h6:(s+8)*1<=(s+8)*3^(b.length-1):=Zl _ (Zx (by decide));refine Quh ta tb hb (by omega) (by omega) (Ug h3 (by omega)) (Qfz (s:=2*s+8) 65 b (Hk a b) tb h1 (by omega) h2 (by omega) (Ug bb (by omega)) (Ug h3 (by omega)) ?_);rw [show 2*s+8+8=2*(s+8) by omega,Xn]; omega
theorem Qm6:Uy []=[]:=rfl
theorem Qdr {a:List Int} (ta:Um a):Um (Uy a)/\(Uy a).length=a.length/\(∀ s,Bd s a->Bd s (Uy a))/\∃ c:Rat,c≠0/\∀ t,Ui a t=c*Ui (Uy a) t:=by
 by_cases h:a.length=0
 ·rw [Qi h];exact ⟨rfl,rfl,λs _=>Iw,1,by decide,λt=>by rw [Qm6]; grind⟩
 ·obtain ⟨h1,h2,h3,h4,h5,h6,h7⟩:=Bv ta h;exact ⟨h1,h2,h5,_,I7 h6,h7⟩
theorem Qck {n s:Nat} (hz:Szz n s) {a b:List Int} (ta:Um a) (tb:Um b) (la:a.length<=n) (lb:b.length<=n) (ba:Bd s a) (bb:Bd s b) (h0:a.length≠0\/b.length≠0):∃ g,Ou a b=some g/\Gc g a b/\Prm g/\0<Ux g:=by
 obtain ⟨a1,a2,a3,x,xn,ax⟩:=Qdr ta;obtain ⟨b1,b2,b3,y,yn,bx⟩:=Qdr tb;obtain ⟨g,e,hg⟩:=Zay hz a1 b1 (by omega) (by omega) (a3 s ba) (b3 s bb) (by omega);obtain ⟨g1,g2,g3,g4,g5,g6,g7⟩:=Bv hg.t hg.n;refine ⟨Uy g,?_,hg.scale (I7 g6) xn yn g1 g7 ax bx,g3,g4⟩;unfold Ou; rw [e]; rfl
theorem Q33 {a:List Int} (ta:Um a):Ou [] a=some (Uy (Uy a)):=by
 unfold Ou;rw [Qm6];by_cases h:(Uy a).length=0
 ·have e:Uy a=[]:=Qi h;rw [e]; rfl
 ·have e:Hk [] (Uy a)=[]:=by
   have e1:Si [] (Uy a)=[]:=by unfold Si; rw [show ([]:List Int).length+1-(Uy a).length=0 by simp; omega]; rfl
   unfold Hk;rw [e1];unfold Mn
   split <;> rfl
  have:Qfy 66 [] (Uy a)=some (Uy a):=by
   show (if (Uy a).length=0 then _ else _)=_;rw [if_neg h,e]; rfl
  rw [this]; rfl
theorem Q7l {n s:Nat} (hz:Szz n s) {a b:List Int} (ta:Um a) (tb:Um b) (la:a.length<=n) (lb:b.length<=n) (ba:Bd s a) (bb:Bd s b) (h0:a.length≠0):∃ g,Qpt a b=some g/\Gc g a b/\Prm g/\0<Ux g:=by
 obtain ⟨a1,a2,a3,x,xn,ax⟩:=Qdr ta;obtain ⟨b1,b2,b3,y,yn,bx⟩:=Qdr a1;obtain ⟨g,e,hg,h1,h2⟩:=Qck hz b1 tb (by omega) lb (b3 s (a3 s ba)) bb (by omega);refine ⟨g,?_,hg.scale (x:=1) (y:=x*y) (z:=1) (by decide) (λh=>(Jc.1 h).elim xn yn) (by decide) hg.t (λt=>by grind) (λt=>by rw [ax,bx]; grind) (λt=>by grind),h1,h2⟩;unfold Qpt;rw [Q33 ta]; exact e
theorem Q1j:∀ {p q:List Rat} {m n:Nat},HD p m->HD q n->(Fu p q).getD (m+n) 0=p.getD m 0*q.getD n 0
 | [],q,m,n,h,_=>absurd (by simp) h.1
 |
  a::p,q,0,n,h,h'=>by
  have h1:∀ k,p.getD k 0=0:=λk=>by have:=h.2 (k+1) (by omega); rwa [Q0] at this
  simp only [Fu];rw [Hb,Rr,Zp,Z0];cases n with
  | zero=>rw [Zp]; grind
  | succ n=>rw [Q0,Qgi h1]; grind
 |
  a::p,q,m+1,n,h,h'=>by
  have ih:=Q1j (p:=p) (q:=q) (m:=m) ⟨by have:=h.1; rwa [Q0] at this,λk hk=>by have:=h.2 (k+1) (by omega); rwa [Q0] at this⟩ h';simp only [Fu];rw [Hb,Rr,show m+1+n=(m+n)+1 by omega,Q0,h'.2 _ (by omega),ih,Q0]; grind
theorem Qss {a b c:List Int} (ta:Um a) (tb:Um b) (tc:Um c) (h:∀ t,Ui c t=Ui a t*Ui b t) (la:0<a.length) (lb:0<b.length):Ux c=Ux a*Ux b:=by
 have h1:=Qgh ta la;have h2:=Qgh tb lb;have h3:=Q1j h1 h2;have hl:=Pa ta tb tc h la lb;rw [<-Be (p:=cz c) (λt=>by rw [Uo,Ul,Ul,Ul,h]),S8,S8,S8,show a.length-1+(b.length-1)=c.length-1 by omega] at h3;unfold Ux; exact_mod_cast h3
theorem Ho {a b c:List Int} (tc:Um c) (hc:c.length≠0) (h:∀ t,Ui c t=Ui a t*Ui b t):0<a.length/\0<b.length:=by
 constructor
 ·rcases Qy a.length with e | e
  ·exact absurd (λt=>by rw [h,Bh e]; grind) (Qf8 tc (by omega))
  ·exact e
 ·rcases Qy b.length with e | e
  ·exact absurd (λt=>by rw [h,Bh e]; grind) (Qf8 tc (by omega))
  ·exact e
theorem Qps {b:List Int} (tb:Um b) (hb:b.length≠0):∀ (i:Nat) (a q h:List Int),Um a->Um h->(∀ t,Ui a t=Ui b t*Ui h t)->a.length<b.length+i->i<=q.length->(∀ j,j<i->q.getD j 0=0)->∃ q',Qpr b i a q=some q'/\q'.length=q.length/\∀ t,Ui q' t=Ui q t+Ui h t
 |
  0,a,q,h,ta,th,e,hl,_,_=>by
  have ha:a.length=0:=by
   rcases Qy a.length with e' | e'
   ·exact e'
   ·obtain ⟨p1,p2⟩:=Ho ta (by omega) e;have:=Pa tb th ta e p1 p2; omega
  refine ⟨q,by simp only [Qpr]; rw [if_pos ha],rfl,λt=>?_⟩;have:∀ t,Ui h t=0:=λt=>by
   have:=Qvv (p:=cz b) (q:=cz h) (r:=[]) (λh0=>Qf8 tb (by omega) λt=>by rw [<-Ul]; exact h0 t) (λt=>by rw [Ul,Ul,<-e,Bh ha]; simp only [ev]; grind) t;rwa [Ul] at this
  rw [this]; grind
 |
  i+1,a,q,h,ta,th,e,hl,hq,h0=>by
  simp only [Qpr];by_cases hlt:a.length<b.length+i
  ·rw [if_pos hlt];exact Qps tb hb i a q h ta th e hlt (by omega) λj hj=>h0 j (by omega)
  ·rw [if_neg hlt];obtain ⟨p1,p2⟩:=Ho ta (by omega) e;have hln:=Pa tb th ta e p1 p2;have hld:=Qss tb th ta e p1 p2;have hlb:=Lp tb hb;rw [hld,if_pos (Int.mul_emod_right _ _),Xt _ hlb];have hli:h.length=i+1:=by omega
   have e2:∀ t,Ui (Sx a (Uq (trim (mono i (Ux h))) b)) t=Ui b t*Ui (Sx h (mono i (Ux h))) t:=λt=>by
    rw [D6,D6,Uw,E7,e]; grind
   have hl2:(Sx a (Uq (trim (mono i (Ux h))) b)).length<b.length+i:=by
    have hl:=Qz9 (i:=i) (x:=Ux h) (b:=b) (a:=a);unfold sta at hl;have:=Q73 (p:=Sx a (Uq (trim (mono i (Ux h))) b)) (n:=b.length+i-1) (Uv _ _) (by omega) (by
     rw [Dc,Q0f,if_pos (by omega),show b.length+i-1-i=b.length-1 by omega,show b.length+i-1=a.length-1 by omega];have:Ux a=a.getD (a.length-1) 0:=rfl;rw [<-this,hld];unfold Ux;rw [Kz,Int.sub_eq_zero])
    omega
   obtain ⟨q',h1,h2,h3⟩:=Qps tb hb i _ (q.set i (Ux h)) (Sx h (mono i (Ux h))) (Uv _ _) (Uv _ _) e2 hl2 (by simp; omega) λj hj=>by
    rw [Qe,Ye,if_neg (by omega),<-Qe];exact h0 j (by omega)
   refine ⟨q',h1,by rw [h2,Jl],λt=>?_⟩;rw [h3,Qpq q i _ t (by omega),h0 i (by omega),D6,Oo]
   push_cast; grind
theorem Q9l {a b h:List Int} {s:Nat} (ta:Um a) (tb:Um b) (th:Um h) (ha:a.length≠0) (la:a.length<=10) (ba:Bd s a) (hs:s+69<=16777216) (e:∀ t,Ui a t=Ui b t*Ui h t):Qbb a b=some h:=by
 obtain ⟨p1,p2⟩:=Ho ta ha e;have hln:=Pa tb th ta e p1 p2;obtain ⟨q,h1,h2,h3⟩:=Qps tb (by omega) (a.length+1-b.length) a (List.replicate (a.length+1-b.length) 0) h ta th e (by omega) (by simp) λj _=>So _ _
 have h4:trim q=h:=A8 (He _) th λt=>by rw [E7,h3,Qm0]; grind
 unfold Qbb;rw [if_neg (by omega),h1];show chk (trim q)=_;rw [h4];exact Dm (by omega) (Ug (I4 ba la ta th tb ha λt=>by rw [e]; grind) (by omega))
end Orq
