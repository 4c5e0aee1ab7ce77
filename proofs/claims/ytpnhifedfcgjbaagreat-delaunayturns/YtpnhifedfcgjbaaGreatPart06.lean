/- T1 T2 T3 T4 T5 T6 T7 T8 T9 T10 T11 T12 T13 T14 T15 T16 T17 T18 -/
import Derived.Test.YtpnhifedfcgjbaaGreatPart00
import Derived.Test.YtpnhifedfcgjbaaGreatPart05
set_option linter.all false
namespace Orq
def Uj (x:Rat):Rat:=if x<0 then -x else x
theorem Gl (x:Rat):0<=Uj x:=by unfold Uj; split <;> grind
theorem Tz {x b:Rat}:Uj x<=b↔-b<=x/\x<=b:=by unfold Uj; split <;> constructor <;> grind
theorem Qqg {x b:Rat}:Uj x<b↔-b<x/\x<b:=by unfold Uj; split <;> constructor <;> grind
theorem Re (x y:Rat):Uj (x+y)<=Uj x+Uj y:=by unfold Uj; split <;> split <;> split <;> grind
theorem Q1m (x y:Rat):Uj (x-y)=Uj (y-x):=by unfold Uj; split <;> split <;> grind
theorem Ck (x:Rat):Uj (-x)=Uj x:=by unfold Uj; split <;> split <;> grind
theorem Gz:Uj 0=0:=by decide
theorem Mr {x:Rat} (h:x≠0):0<Uj x:=by unfold Uj; split <;> grind
theorem Zfn {x:Rat} (h:Uj x=0):x=0:=by unfold Uj at h; split at h <;> grind
theorem Po {x y:Rat} (h1:0<=x) (h2:0<=y):0<=x*y:=Rat.mul_nonneg h1 h2
theorem Eb {x y:Rat} (h1:0<x) (h2:0<y):0<x*y:=W5 h1 h2
theorem Ml {a b c d:Rat} (h0:0<=a) (h1:a<=b) (h2:0<=c) (h3:c<=d):a*c<=b*d:=by
 have e1:=Zb h1 h2;have e2:=Zw h3 (Zg h0 h1);exact Zg e1 e2
theorem Ls (x y:Rat):Uj (x*y)=Uj x*Uj y:=by
 unfold Uj;by_cases h1:x<0 <;> by_cases h2:y<0
 ·have:=Eb (x:=-x) (y:=-y) (by grind) (by grind); simp only [h1,h2,if_true]; split <;> grind
 ·have:=Po (x:=-x) (y:=y) (by grind) (by grind); simp only [h1,h2,if_true,if_false]; split <;> grind
 ·have:=Po (x:=x) (y:=-y) (by grind) (by grind); simp only [h1,h2,if_true,if_false]; split <;> grind
 ·have:=Po (x:=x) (y:=y) (by grind) (by grind); simp only [h1,h2,if_false]; split <;> grind
theorem Fo {x y a b:Rat} (h1:Uj x<=a) (h2:Uj y<=b):Uj (x*y)<=a*b:=by
 rw [Ls]; exact Ml (Gl x) h1 (Gl y) h2
theorem Dd {x y:Rat} (h1:0<x) (h2:0<y):0<x / y:=by rw [J7]; exact Eb h1 (Rat.inv_pos.2 h2)
theorem Fq {x y:Rat} (h2:0<y):x / y*y=x:=Zm (by grind)
theorem Fu {b d:Rat} (hb:0<=b) (hd:0<d):∃ e:Rat,0<e/\e<=1/\e*b<d:=by
 have h1:0<d / (b+1):=Dd hd (by grind);have h2:d / (b+1)*(b+1)=d:=Fq (by grind);rcases Vl (a:=d / (b+1)) (b:=1) with h | h
 ·exact ⟨d / (b+1),h1,h,by
   have:d / (b+1)*(b+1)=d / (b+1)*b+d / (b+1):=by grind
   grind⟩
 ·refine ⟨1,by decide,by decide,?_⟩;have:1*(b+1)<=d / (b+1)*(b+1):=Zb h (by grind);grind
def ev:List Rat->Rat->Rat
 | [],_=>0
 | a::p,t=>a+t*ev p t
def dv:List Rat->Rat->Rat
 | [],_=>0
 | _::p,t=>ev p t+t*dv p t
def dq:List Rat->Rat->Rat->Rat
 | [],_,_=>0
 | _::p,x,y=>ev p x+y*dq p x y
def dd:List Rat->Rat->Rat->Rat
 | [],_,_=>0
 | _::p,x,y=>dq p x y+y*dd p x y
theorem Qmq (x y:Rat):∀ p,ev p x-ev p y=(x-y)*dq p x y
 | []=>by simp only [ev,dq]; grind
 | a::p=>by have:=Qmq x y p; simp only [ev,dq]; grind
theorem Qo8 (y:Rat):∀ p,dq p y y=dv p y
 | []=>rfl
 | a::p=>by simp only [dq,dv,Qo8 y p]
theorem Zhf (x y:Rat):∀ p,dq p x y-dv p y=(x-y)*dd p x y
 | []=>by simp only [dv,dq,dd]; grind
 |
  a::p=>by
  have h1:=Zhf x y p;have h2:=Qmq x y p;simp only [dv,dq,dd]; grind
theorem Zhi (p:List Rat) (x y:Rat):ev p x-ev p y=(x-y)*dv p y+(x-y)*(x-y)*dd p x y:=by
 have h1:=Qmq x y p;have h2:=Zhf x y p;grind
def evB (R:Rat):List Rat->Rat
 | []=>0
 | a::p=>Uj a+R*evB R p
def dqB (R:Rat):List Rat->Rat
 | []=>0
 | _::p=>evB R p+R*dqB R p
def ddB (R:Rat):List Rat->Rat
 | []=>0
 | _::p=>dqB R p+R*ddB R p
theorem I6 {R:Rat} (hR:0<=R):∀ p,0<=evB R p
 | []=>by simp only [evB]; grind
 | a::p=>by have:=Po hR (I6 hR p); have:=Gl a; simp only [evB]; grind
theorem Su {R:Rat} (hR:0<=R):∀ p,0<=dqB R p
 | []=>by simp only [dqB]; grind
 | a::p=>by have:=Po hR (Su hR p); have:=I6 hR p; simp only [dqB]; grind
theorem Qjd {R:Rat} (hR:0<=R):∀ p,0<=ddB R p
 | []=>by simp only [ddB]; grind
 | a::p=>by have:=Po hR (Qjd hR p); have:=Su hR p; simp only [ddB]; grind
theorem Qgo {R x:Rat} (hx:Uj x<=R):∀ p,Uj (ev p x)<=evB R p
 | []=>by simp only [ev,evB,Gz]; grind
 |
  a::p=>by
  have h1:=Re a (x*ev p x);have h2:=Fo hx (Qgo hx p);simp only [ev,evB]; grind
theorem Qsd {R x y:Rat} (hx:Uj x<=R) (hy:Uj y<=R):∀ p,Uj (dq p x y)<=dqB R p
 | []=>by simp only [dq,dqB,Gz]; grind
 |
  a::p=>by
  have h1:=Re (ev p x) (y*dq p x y);have h2:=Fo hy (Qsd hx hy p);have h3:=Qgo hx p;simp only [dq,dqB]; grind
theorem Q7m {R x y:Rat} (hx:Uj x<=R) (hy:Uj y<=R):∀ p,Uj (dd p x y)<=ddB R p
 | []=>by simp only [dd,ddB,Gz]; grind
 |
  a::p=>by
  have h1:=Re (dq p x y) (y*dd p x y);have h2:=Fo hy (Q7m hx hy p);have h3:=Qsd hx hy p;simp only [dd,ddB]; grind
theorem Zi9 {R x y:Rat} (hx:Uj x<=R) (hy:Uj y<=R) (p:List Rat):Uj (ev p x-ev p y)<=Uj (x-y)*dqB R p:=by
 rw [Qmq,Ls]; exact Ml (Gl _) Qq (Gl _) (Qsd hx hy p)
def Rf:List Rat->List Rat->List Rat
 | [],q=>q
 | a::p,[]=>a::p
 | a::p,b::q=>(a+b)::Rf p q
def Nz (c:Rat) (p:List Rat):List Rat:=p.map (c * ·)
def Fh:List Rat->List Rat->List Rat
 | [],_=>[]
 | a::p,q=>Rf (Nz a q) (0::Fh p q)
def Pp:List Rat->List Rat
 | []=>[]
 | _::p=>Rf p (0::Pp p)
theorem Fc (t:Rat):∀ p q,ev (Rf p q) t=ev p t+ev q t
 | [],q=>by simp only [Rf,ev]; grind
 | a::p,[]=>by simp only [Rf,ev]; grind
 | a::p,b::q=>by have:=Fc t p q; simp only [Rf,ev]; grind
theorem U0 (c t:Rat):∀ p,ev (Nz c p) t=c*ev p t
 | []=>by simp only [Nz,X2,ev]; grind
 | a::p=>by have:=U0 c t p; simp only [Nz,Zv,ev] at *; grind
theorem Ug (t:Rat):∀ p q,ev (Fh p q) t=ev p t*ev q t
 | [],q=>by simp only [Fh,ev]; grind
 | a::p,q=>by have:=Ug t p q; simp only [Fh,Fc,U0,ev]; grind
theorem Hp (t:Rat):∀ p,ev (Pp p) t=dv p t
 | []=>rfl
 | a::p=>by have:=Hp t p; simp only [Pp,Fc,ev,dv]; grind
theorem Qpa (t:Rat):∀ p q,dv (Rf p q) t=dv p t+dv q t
 | [],q=>by simp only [Rf,dv]; grind
 | a::p,[]=>by simp only [Rf,dv]; grind
 | a::p,b::q=>by have:=Qpa t p q; have:=Fc t p q; simp only [Rf,dv]; grind
theorem Qfd (c t:Rat):∀ p,dv (Nz c p) t=c*dv p t
 | []=>by simp only [Nz,X2,dv]; grind
 | a::p=>by have:=Qfd c t p; have:=U0 c t p; simp only [Nz,Zv,dv] at *; grind
theorem Qpb (t:Rat):∀ p q,dv (Fh p q) t=dv p t*ev q t+ev p t*dv q t
 | [],q=>by simp only [Fh,dv,ev]; grind
 | a::p,q=>by have:=Qpb t p q; have:=Ug t p q; simp only [Fh,Qpa,Qfd,dv,ev]; grind
theorem Qz2:∀ {p:List Rat},(∀ x∈p,x=0)->∀ t,ev p t=0
 | [],_,t=>rfl
 |
  a::p,h,t=>by
  have h1:=Qz2 (p:=p) (λx hx=>h x (Qi _ hx)) t;have h2:=h a (Qt ..);simp only [ev,h1,h2]; grind
theorem Qzx:∀ {p:List Rat},(∀ x∈p,x=0)->∀ t,dv p t=0
 | [],_,t=>rfl
 |
  a::p,h,t=>by
  have h0:=λx hx=>h x (Qi _ hx)
  have h1:=Qz2 (p:=p) h0 t;have h2:=Qzx (p:=p) h0 t;simp only [dv,h1,h2]; grind
theorem Qcu:∀ {p:List Rat},(∀ t,0<t->t<1->ev p t=0)->∀ x∈p,x=0
 | [],_=>λx hx=>by cases hx
 |
  a::p,h=>by
  have ha:a=0:=by
   rcases Classical.em (a=0) with h0 | h0
   ·exact h0
   ·obtain ⟨e,e1,e2,e3⟩:=Fu (I6 (R:=1) (by decide) p) (Mr h0);obtain ⟨f,f1,f2,f3⟩:=Fu (b:=1) (d:=e) (by decide) e1;have h1:=h f f1 (by grind);have h2:=Qgo (R:=1) (x:=f) (by unfold Uj; split <;> grind) p;have h3:=Ls f (ev p f);have h4:Uj f=f:=by unfold Uj; split <;> grind
    have h5:a=-(f*ev p f):=by simp only [ev] at h1; grind
    have h6:Uj a=f*Uj (ev p f):=by rw [h5,Ck,h3,h4]
    have h7:f*Uj (ev p f)<=e*evB 1 p:=Ml (Qr f1) (by grind) (Gl _) h2;grind
  intro x hx;rcases Qo.1 hx with rfl | hx
  ·exact ha
  ·refine Qcu (p:=p) (λt h1 h2=>?_) x hx;have:=h t h1 h2;simp only [ev,ha] at this;have h3:t*ev p t=0:=by grind
   rcases Yt.1 h3 with h4 | h4
   ·grind
   ·exact h4
theorem Q7u {p q:List Rat} (h:∀ t,ev p t=ev q t) (t:Rat):dv p t=dv q t:=by
 have h1:=Qzx (p:=Rf p (Nz (-1) q)) (Qcu λt _ _=>by rw [Fc,U0,h t]; grind) t;rw [Qpa,Qfd] at h1; grind
def Un (x:Rat):Int:=if x<0 then -1 else if 0<x then 1 else 0
theorem U9 {x:Rat}:Un x=0↔x=0:=by
 unfold Un; constructor
 ·intro h; split at h <;> (try split at h) <;> grind
 ·intro h; subst h; rfl
theorem G0 {x:Rat}:Un x=1↔0<x:=by
 unfold Un; constructor
 ·intro h; split at h <;> (try split at h) <;> grind
 ·intro h; rw [if_neg (by grind),if_pos h]
theorem Ro {x:Rat}:Un x=-1↔x<0:=by
 unfold Un; constructor
 ·intro h; split at h <;> (try split at h) <;> grind
 ·intro h; rw [if_pos h]
theorem Fp (x:Rat):Un x=-1/\x<0\/Un x=0/\x=0\/Un x=1/\0<x:=by
 rcases Vl (a:=x) (b:=0) with h | h
 ·rcases Classical.em (x=0) with h0 | h0
  ·exact .inr (.inl ⟨U9.2 h0,h0⟩)
  ·exact .inl ⟨Ro.2 (by grind),by grind⟩
 ·rcases Classical.em (x=0) with h0 | h0
  ·exact .inr (.inl ⟨U9.2 h0,h0⟩)
  ·exact .inr (.inr ⟨G0.2 (by grind),by grind⟩)
theorem Rh (x y:Rat):Un (x*y)=Un x*Un y:=by
 rcases Fp x with ⟨e1,h1⟩ | ⟨e1,h1⟩ | ⟨e1,h1⟩ <;> rcases Fp y with ⟨e2,h2⟩ | ⟨e2,h2⟩ | ⟨e2,h2⟩ <;> rw [e1,e2]
 ·have:=Eb (x:=-x) (y:=-y) (by grind) (by grind); exact G0.2 (by grind)
 ·subst h2; exact U9.2 (by grind)
 ·have:=Eb (x:=-x) (y:=y) (by grind) (by grind); exact Ro.2 (by grind)
 ·subst h1; exact U9.2 (by grind)
 ·subst h1; exact U9.2 (by grind)
 ·subst h1; exact U9.2 (by grind)
 ·have:=Eb (x:=x) (y:=-y) (by grind) (by grind); exact Ro.2 (by grind)
 ·subst h2; exact U9.2 (by grind)
 ·exact G0.2 (Eb h1 h2)
theorem Td {a b d:Rat} (h1:d<=Uj a) (h2:Uj (b-a)<d):Un b=Un a/\Un a≠0:=by
 rw [Qqg] at h2;rcases Fp a with ⟨e,h⟩ | ⟨e,h⟩ | ⟨e,h⟩
 ·rw [e,Ro]; unfold Uj at h1; rw [if_pos h] at h1; exact ⟨by grind,by decide⟩
 ·subst h; rw [Gz] at h1; grind
 ·rw [e,G0]; unfold Uj at h1; rw [if_neg (by grind)] at h1; exact ⟨by grind,by decide⟩
def tc (x:Rat):Int->List (List Rat)->Nat
 | _,[]=>0
 | s,p::l=>if Un (ev p x)=0 then tc x s l else (if s=-(Un (ev p x)) then 1 else 0)+tc x (Un (ev p x)) l
inductive SCl:List Rat->List Rat->List (List Rat)->Prop
 | base {f g:List Rat} {c:Rat} (hc:c≠0) (hg:∀ t,ev g t=c):SCl f g []
 | step {f g h:List Rat} {l:List (List Rat)} {a b:Rat} {q:List Rat} (ha:0<a) (hb:0<b) (he:∀ t,a*ev f t=ev q t*ev g t-b*ev h t) (hl:SCl g h l):SCl f g (h::l)
theorem Zbr {x:Rat} {s:Int} {g h:List Rat} {l:List (List Rat)} (hh:Un (ev h x)=-s) (hs:s≠0):tc x s (g::h::l)=1+tc x (-s) l:=by
 have h3:Un (ev h x)≠0:=by omega
 have hv:s=1\/s=-1:=by rcases Fp (ev h x) with ⟨e,_⟩ | ⟨e,_⟩ | ⟨e,_⟩ <;> omega
 simp only [tc,if_neg h3,hh];rcases Fp (ev g x) with ⟨e,_⟩ | ⟨e,_⟩ | ⟨e,_⟩ <;> rw [e] <;> rcases hv with rfl | rfl <;> simp
theorem Qek {x:Rat} {s:Int} {p:List Rat} {l:List (List Rat)} (h:Un (ev p x)≠0):tc x s (p::l)=(if s=-(Un (ev p x)) then 1 else 0)+tc x (Un (ev p x)) l:=by rw [tc,if_neg h]
theorem Tu {R x y e d:Rat} {p:List Rat} (hx:Uj x<=R) (hy:Uj y<=R) (hR:0<=R) (h:Uj (y-x)<=e) (hd:e*dqB R p<d):Uj (ev p y-ev p x)<d:=by
 have h1:=Zi9 hy hx p;have h2:=Zb h (Su hR p);grind
theorem Qng {a x y:Rat} (ha:0<a) (h:a*x<a*y):x<y:=by
 rcases Vl (a:=y) (b:=x) with h' | h'
 ·have:=Zw h' (Qr ha); grind
 ·rcases Classical.em (x=y) with e | e
  ·subst e; grind
  ·grind
theorem Zki {a b d d' B f g h q:Rat} (ha:0<a) (hb:0<b) (dp:0<d) (h7:B*d+a*d<b*d') (hq:Uj q<=B) (hg:Uj g<d) (hh:d'<=Uj h) (he:a*f=q*g-b*h) (hd':0<d'):Un h=-Un f/\d<=Uj f:=by
 have h4:=Fo hq (Qr hg);rw [Tz] at h4;have had:=Eb ha dp;have h8:=Zw hh (Qr hb);rcases Fp h with ⟨s,p⟩ | ⟨s,p⟩ | ⟨s,p⟩
 ·have:Uj h=-h:=by unfold Uj; rw [if_pos p]
  rw [this] at h8;have h10:d<f:=Qng ha (by grind);rw [s,G0.2 (show 0<f by grind)];exact ⟨rfl,by unfold Uj; split <;> grind⟩
 ·rw [p,Gz] at hh; grind
 ·have:Uj h=h:=by unfold Uj; rw [if_neg (by grind)]
  rw [this] at h8;have h10:f < -d:=Qng ha (by grind);rw [s,Ro.2 (show f<0 by grind)];exact ⟨rfl,by unfold Uj; split <;> grind⟩
theorem min2 {a b:Rat} (ha:0<a) (hb:0<b):∃ e:Rat,0<e/\e<=a/\e<=b:=by
 rcases Vl (a:=a) (b:=b) with h | h
 ·exact ⟨a,ha,Qq,h⟩
 ·exact ⟨b,hb,h,Qq⟩
theorem Ut (a b:Rat):a<=b\/b<a:=by
 rcases Vl (a:=a) (b:=b) with h | h
 ·exact .inl h
 ·rcases Classical.em (a=b) with e | e
  ·exact .inl (by grind)
  ·exact .inr (by grind)
theorem Zjr {R:Rat} (hR:0<=R) {f g:List Rat} {l:List (List Rat)} (hc:SCl f g l):∃ d e:Rat,0<d/\0<e/\∀ x y,Uj x<=R->Uj y<=R->Uj (y-x)<=e ->
 (d<=Uj (ev f x)\/d<=Uj (ev g x))/\(d<=Uj (ev f x)->Un (ev f y)=Un (ev f x)/\Un (ev f x)≠0)/\(d<=Uj (ev g x)->Un (ev g y)=Un (ev g x)/\Un (ev g x)≠0) /\
 (Un (ev f y)=Un (ev f x)->Un (ev f x)≠0->tc x (Un (ev f x)) (g::l)=tc y (Un (ev f x)) (g::l)) /\
 (Un (ev g y)=Un (ev g x)->Un (ev g x)≠0->tc x (Un (ev g x)) l=tc y (Un (ev g x)) l):=by
 induction hc with
 |
  @base f g c hc hg =>
  have hd:=Mr hc;obtain ⟨e,e1,e2,e3⟩:=Fu (Su hR f) hd;refine ⟨Uj c,e,hd,e1,λx y hx hy hxy=>⟨.inr (by rw [hg]; exact Qq),λh=>Td h (Tu hx hy hR hxy e3),λh=>?_,λ_ _=>?_,λ_ _=>rfl⟩⟩
  ·rw [hg,hg]; exact ⟨rfl,λh=>hc (U9.1 h)⟩
  ·simp only [tc,hg]
 |
  @step f g h l a b q ha hb he hl ih =>
  obtain ⟨d',e',hd',he',ih⟩:=ih;obtain ⟨d1,d1p,_,d1b⟩:=Fu (b:=evB R q+a) (d:=b*d') (by have:=I6 hR q; grind) (Eb hb hd');obtain ⟨d,dp,hd1,hdd⟩:=min2 d1p hd';obtain ⟨ef,ef1,_,ef3⟩:=Fu (Su hR f) dp;obtain ⟨eg,eg1,_,eg3⟩:=Fu (Su hR g) dp;obtain ⟨e0,e0p,h1,h2⟩:=min2 ef1 eg1;obtain ⟨e,ep,h0,h3⟩:=min2 e0p he';have h1:=Zg h0 h1;have h2:=Zg h0 h2;refine ⟨d,e,dp,ep,λx y hx hy hxy=>?_⟩;obtain ⟨i1,i2,i3,i4,i5⟩:=ih x y hx hy (Zg hxy h3);have hsm:Uj (ev g x)<d->d'<=Uj (ev h x)/\Un (ev h x)=-Un (ev f x)/\d<=Uj (ev f x):=λhg=>by
   have hh:d'<=Uj (ev h x):=by
    rcases i1 with i | i
    ·exact absurd (Zg hdd i) (Jo.2 hg)
    ·exact i
   have h6:d*(evB R q+a)<=d1*(evB R q+a):=Zb hd1 (by have:=I6 hR q; clear ih i1 i2 i3 i4 i5 he; grind);have h7:evB R q*d+a*d<b*d':=by clear ih i1 i2 i3 i4 i5 he; grind
   exact ⟨hh,Zki ha hb dp h7 (Qgo hx q) hg hh (he x) hd'⟩
  have hfs:d<=Uj (ev f x)->Un (ev f y)=Un (ev f x)/\Un (ev f x)≠0:=λh=>Td h (Tu hx hy hR (Zg hxy h1) ef3)
  have hgs:d<=Uj (ev g x)->Un (ev g y)=Un (ev g x)/\Un (ev g x)≠0:=λh=>Td h (Tu hx hy hR (Zg hxy h2) eg3)
  refine ⟨?_,hfs,hgs,λs1 s2=>?_,i4⟩
  ·rcases Ut d (Uj (ev g x)) with h | h
   ·exact .inr h
   ·exact .inl (hsm h).2.2
  ·rcases Ut d (Uj (ev g x)) with h | h
   ·obtain ⟨g1,g2⟩:=hgs h;rw [Qek (x:=x) (p:=g) g2,Qek (x:=y) (p:=g) (by rw [g1]; exact g2),g1,i4 g1 g2]
   ·obtain ⟨h4,h5,_⟩:=hsm h;obtain ⟨h6,h7⟩:=i3 h4;have i5:=i5 h6 h7;rw [Zbr h5 s2,Zbr (h6.trans h5) s2,<-h5,i5]
def Rx (p:List Rat) (x:Rat):Int:=if Un (ev p x)≠0 then Un (ev p x) else Un (dv p x)
def vv (L:List (List Rat)) (x:Rat):Nat:=tc x 0 L
def Stm (f:List Rat) (L:List (List Rat)):Prop:=(∃ c:Rat,c≠0/\(∀ t,ev f t=c)/\L=[f])\/∃ g l,∃ k:Rat,0<k/\(∀ t,ev g t=k*dv f t)/\SCl f g l/\L=f::g::l
structure Sm (w:List Rat) (x y:Rat):Prop where
 s:Un (ev w y)=Rx w x
 l:Rx w y=Rx w x
 n:Rx w x≠0
theorem Dn {p:List Rat} {x:Rat} (h:Un (ev p x)≠0):Rx p x=Un (ev p x):=by unfold Rx; rw [if_pos h]
theorem Qw0 {p:List Rat} {x:Rat} (h:Un (ev p x)=0):Rx p x=Un (dv p x):=by unfold Rx; rw [if_neg (by simpa using h)]
theorem Qug {p:List Rat} {x y:Rat} (h:Un (ev p y)=Un (ev p x)) (h0:Un (ev p x)≠0):Sm p x y:=by
 have h1:=Dn h0;have h2:=Dn (p:=p) (x:=y) (by rw [h]; exact h0);exact ⟨by rw [h,h1],by rw [h2,h1,h],by rw [h1]; exact h0⟩
theorem A3 {f w u:List Rat} (h:∀ t,ev f t=ev w t*ev u t) (x:Rat):dv f x=dv w x*ev u x+ev w x*dv u x:=by
 rw [<-Qpb]; exact Q7u (λt=>by rw [h,Ug]) x
theorem Q0o {f w u:List Rat} {x:Rat} (h:∀ t,ev f t=ev w t*ev u t) (hu:Un (ev u x)≠0):Rx f x=Rx w x*Un (ev u x):=by
 by_cases hw:Un (ev w x)=0
 ·have hw0:=U9.1 hw;have e1:ev f x=0:=by rw [h,hw0]; grind
  have e2:dv f x=dv w x*ev u x:=by rw [A3 h,hw0]; grind
  rw [Qw0 hw,Qw0 (U9.2 e1),e2,Rh]
 ·have e1:Un (ev f x)=Un (ev w x)*Un (ev u x):=by rw [h,Rh]
  rw [Dn hw,Dn (by rw [e1]; exact X9 hw hu),e1]
theorem Zkj {f w u:List Rat} {x y:Rat} (h:∀ t,ev f t=ev w t*ev u t) (hu:Un (ev u y)=Un (ev u x)) (h0:Un (ev u x)≠0) (hf:Sm f x y):Sm w x y:=by
 have e1:=Q0o h h0;have e2:=Q0o (x:=y) h (by rw [hu]; exact h0);have e3:Un (ev f y)=Un (ev w y)*Un (ev u y):=by rw [h,Rh]
 obtain ⟨s,l,n⟩:=hf;rw [hu] at e2 e3;refine ⟨?_,?_,λh=>n (by rw [e1,h,J9])⟩
 ·rw [e3,e1] at s; exact Int.eq_of_mul_eq_mul_right h0 s
 ·rw [e2,e1] at l; exact Int.eq_of_mul_eq_mul_right h0 l
theorem tc0 {x:Rat} {s:Int} {f g:List Rat} {l:List (List Rat)} (h:Un (ev g x)=s) (hs:s≠0):tc x 0 (f::g::l)=(if Un (ev f x)=-s then 1 else 0)+tc x s l:=by
 have hv:s=1\/s=-1:=by rcases Fp (ev g x) with ⟨e,_⟩ | ⟨e,_⟩ | ⟨e,_⟩ <;> omega
 have hg:Un (ev g x)≠0:=by omega
 rw [tc];rcases Fp (ev f x) with ⟨e,_⟩ | ⟨e,_⟩ | ⟨e,_⟩ <;> rw [e] <;> rcases hv with rfl | rfl <;> simp [Qek hg,h]
theorem Qkn {R x y e d:Rat} {p:List Rat} (hx:Uj x<=R) (hy:Uj y<=R) (hR:0<=R) (hxy:x<y) (h:y-x<=e) (hd:d<=Uj (dv p x)) (he:e*ddB R p<d):Un (ev p y-ev p x)=Un (dv p x):=by
 have h1:=Zhi p y x;have h2:ev p y-ev p x=(y-x)*(dv p x+(y-x)*dd p y x):=by rw [h1]; grind
 have h3:=Fo (x:=y-x) (y:=dd p y x) (a:=e) (b:=ddB R p) (by rw [Tz]; constructor <;> grind) (Q7m hy hx p);have h4:=Td (b:=dv p x+(y-x)*dd p y x) hd (by
  have:dv p x+(y-x)*dd p y x-dv p x=(y-x)*dd p y x:=by grind
  rw [this]; exact Jo.1 λh=>absurd (Zg h h3) (Jo.2 he))
 rw [h2,Rh,G0.2 (show 0<y-x by grind),h4.1,Yz]
def Q46 (f w:List Rat) (L:List (List Rat)) (x y:Rat):Prop :=
 (vv L x=vv L y/\Sm f x y/\Sm w x y)\/(vv L x=vv L y+1/\Rx f x≠0/\Rx f y=-Rx f x/\Un (ev f x)=Rx f x/\(Un (ev f y)=0\/Un (ev f y)=-Rx f x))
theorem Zhl {R d:Rat} (hR:0<=R) (hd:0<d) {f w u:List Rat} (h:∀ t,ev f t=ev w t*ev u t):∃ e:Rat,0<e/\∀ x y,Uj x<=R->Uj y<=R->Uj (y-x)<=e->d<=Uj (ev f x)->Sm f x y/\Sm w x y:=by
 obtain ⟨ef,ef1,_,ef3⟩:=Fu (Su hR f) hd;obtain ⟨d1,d1p,_,d1b⟩:=Fu (I6 hR u) hd;obtain ⟨ew,ew1,_,ew3⟩:=Fu (Su hR w) d1p;obtain ⟨e,ep,e1,e2⟩:=min2 ef1 ew1;refine ⟨e,ep,λx y hx hy hxy hf=>⟨?_,?_⟩⟩
 ·have:=Td hf (Tu hx hy hR (Zg hxy e1) ef3);exact Qug this.1 this.2
 ·have hw:d1<=Uj (ev w x):=by
   rcases Ut d1 (Uj (ev w x)) with h' | h'
   ·exact h'
   ·have h5:=Fo (Qr h') (Qgo hx u);rw [<-h] at h5;exact absurd (Zg hf h5) (Jo.2 d1b)
  have:=Td hw (Tu hx hy hR (Zg hxy e2) ew3);exact Qug this.1 this.2
theorem loc {R:Rat} (hR:0<=R) {f w u:List Rat} {L:List (List Rat)} (hc:Stm f L) (h:∀ t,ev f t=ev w t*ev u t):∃ e:Rat,0<e/\∀ x y,Uj x<=R->Uj y<=R->x<y->y-x<=e->Q46 f w L x y:=by
 rcases hc with ⟨c,hc,hf,rfl⟩ | ⟨g,l,k,hk,hg,hc,rfl⟩
 ·obtain ⟨e,ep,h1⟩:=Zhl hR (Mr hc) h;refine ⟨e,ep,λx y hx hy hxy he=>.inl ⟨?_,h1 x y hx hy (by rw [Tz]; constructor <;> grind) (by rw [hf]; exact Qq)⟩⟩;simp only [vv,tc,hf]
 ·obtain ⟨d,e1,dp,e1p,h1⟩:=Zjr hR hc;obtain ⟨e2,e2p,h2⟩:=Zhl hR dp h;obtain ⟨d3,d3p,_,d3b⟩:=Fu (b:=k) (d:=d) (Qr hk) dp;obtain ⟨e3,e3p,_,e3b⟩:=Fu (Qjd hR f) d3p;obtain ⟨d4,d4p,_,d4b⟩:=Fu (b:=dqB R w+dqB R u) (d:=d3) (by have:=Su hR w; have:=Su hR u; grind) d3p;obtain ⟨e4,e4p,_,e4b⟩:=Fu (Su hR w) d4p;obtain ⟨e5,e5p,_,e5b⟩:=Fu (Su hR u) d4p;obtain ⟨a1,a1p,a11,a12⟩:=min2 e1p e2p;obtain ⟨a2,a2p,a21,a22⟩:=min2 e3p e4p;obtain ⟨a3,a3p,a31,a32⟩:=min2 a1p a2p;obtain ⟨e,ep,b1,b2⟩:=min2 a3p e5p;refine ⟨e,ep,λx y hx hy hxy he=>?_⟩;have hab:Uj (y-x)<=e:=by rw [Tz]; clear h1 h2; constructor <;> grind
  have hab1:Uj (y-x)<=e1:=by clear h1 h2; grind
  have hab2:Uj (y-x)<=e2:=by clear h1 h2; grind
  obtain ⟨i1,i2,i3,i4,i5⟩:=h1 x y hx hy hab1;rcases Ut d (Uj (ev f x)) with hf | hf
  ·obtain ⟨s1,s2⟩:=h2 x y hx hy hab2 hf;obtain ⟨j1,j2⟩:=i2 hf;refine .inl ⟨?_,s1,s2⟩;have:=i4 j1 j2;simp only [vv];rw [Qek (x:=x) (p:=f) j2,Qek (x:=y) (p:=f) (by rw [j1]; exact j2),j1,this]
  ·have hg1:d<=Uj (ev g x):=by
    rcases i1 with i | i
    ·exact absurd i (Jo.2 hf)
    ·exact i
   obtain ⟨g1,g2⟩:=i3 hg1;have i5:=i5 g1 g2;have hD:d3<=Uj (dv f x):=by
    rcases Ut d3 (Uj (dv f x)) with h' | h'
    ·exact h'
    ·have h5:=Fo (x:=k) (a:=k) (by unfold Uj; split <;> clear h1 h2 <;> grind) (Rat.le_of_lt h');rw [<-hg] at h5;have:k*d3=d3*k:=by grind
     exact absurd (Zg hg1 h5) (Jo.2 (by rw [this]; exact d3b))
   have hm:=Qkn hx hy hR hxy (by clear h1 h2; grind:y-x<=e3) hD e3b;have s1:Un (ev g x)=Un (dv f x):=by rw [hg,Rh,G0.2 hk,Yz]
   have s2:Un (ev g y)=Un (dv f y):=by rw [hg,Rh,G0.2 hk,Yz]
   obtain ⟨s,hs⟩:=nmE (Un (ev g x));rw [<-hs] at g1 g2 i5 s1;rw [g1] at s2;have v1:=tc0 (f:=f) (l:=l) hs.symm g2;have v2:=tc0 (f:=f) (l:=l) g1 g2;rw [<-i5] at v2;rw [<-s1] at hm;have hw:Sm f x y->Sm w x y:=λhf=>by
    rcases Ut d4 (Uj (ev u x)) with hu | hu
    ·have hu:=Td hu (Tu hx hy hR (Zg hab b2) e5b);exact Zkj h hu.1 hu.2 hf
    ·have hw:d4<=Uj (ev w x):=by
      rcases Ut d4 (Uj (ev w x)) with h' | h'
      ·exact h'
      ·have q1:=Fo (x:=dv w x) (y:=ev u x) (a:=dqB R w) (by rw [<-Qo8]; exact Qsd hx hx w) (Qr hu);have q2:=Fo (x:=ev w x) (y:=dv u x) (b:=dqB R u) (Qr h') (by rw [<-Qo8]; exact Qsd hx hx u);have q3:=Re (dv w x*ev u x) (ev w x*dv u x);rw [<-A3 h] at q3;have:d4*(dqB R w+dqB R u)=dqB R w*d4+d4*dqB R u:=by grind
       rw [this] at d4b;exact absurd (Zg hD (Zg q3 (by clear h1 h2; grind:_<=dqB R w*d4+d4*dqB R u))) (Jo.2 d4b)
     have hw:=Td hw (Tu hx hy hR (Zg hab (by clear h1 h2; grind)) e4b);exact Qug hw.1 hw.2
   have lx:Rx f x=if Un (ev f x)≠0 then Un (ev f x) else s:=by rw [s1]; rfl
   have ly:Rx f y=if Un (ev f y)≠0 then Un (ev f y) else s:=by rw [s2]; rfl
   clear h1 h2 i1 i2 i3 i4;have hsv:s=1\/s=-1:=by rcases Fp (ev g x) with ⟨e,_⟩ | ⟨e,_⟩ | ⟨e,_⟩ <;> omega
   unfold Q46;simp only [vv,v1,v2];rcases hsv with rfl | rfl
   ·have hm:=G0.1 hm;rcases Fp (ev f x) with ⟨p1,p2⟩ | ⟨p1,p2⟩ | ⟨p1,p2⟩
    ·rcases Fp (ev f y) with ⟨q1,q2⟩ | ⟨q1,q2⟩ | ⟨q1,q2⟩
     ·rw [p1,q1]; have hsm:=Qug (p:=f) (x:=x) (y:=y) (by rw [p1,q1]) (by rw [p1]; decide);exact .inl ⟨rfl,hsm,hw hsm⟩
     ·rw [lx,ly,p1,q1]; refine .inr ⟨by simp; omega,by decide,by decide,by decide,by decide⟩
     ·rw [lx,ly,p1,q1]; refine .inr ⟨by simp; omega,by decide,by decide,by decide,by decide⟩
    ·have q1:=G0.2 (show 0<ev f y by grind);have hsm:Sm f x y:=⟨by rw [lx,q1,p1]; rfl,by rw [lx,ly,q1,p1]; rfl,by rw [lx,p1]; decide⟩;rw [p1,q1]; exact .inl ⟨rfl,hsm,hw hsm⟩
    ·have q1:=G0.2 (show 0<ev f y by grind);have hsm:Sm f x y:=⟨by rw [lx,q1,p1]; rfl,by rw [lx,ly,q1,p1],by rw [lx,p1]; decide⟩;rw [p1,q1]; exact .inl ⟨rfl,hsm,hw hsm⟩
   ·have hm:=Ro.1 hm;rcases Fp (ev f x) with ⟨p1,p2⟩ | ⟨p1,p2⟩ | ⟨p1,p2⟩
    ·have q1:=Ro.2 (show ev f y<0 by grind);have hsm:Sm f x y:=⟨by rw [lx,q1,p1]; rfl,by rw [lx,ly,q1,p1],by rw [lx,p1]; decide⟩;rw [p1,q1]; exact .inl ⟨rfl,hsm,hw hsm⟩
    ·have q1:=Ro.2 (show ev f y<0 by grind);have hsm:Sm f x y:=⟨by rw [lx,q1,p1]; rfl,by rw [lx,ly,q1,p1]; rfl,by rw [lx,p1]; decide⟩;rw [p1,q1]; exact .inl ⟨rfl,hsm,hw hsm⟩
    ·rcases Fp (ev f y) with ⟨q1,q2⟩ | ⟨q1,q2⟩ | ⟨q1,q2⟩
     ·rw [lx,ly,p1,q1]; refine .inr ⟨by simp; omega,by decide,by decide,by decide,by decide⟩
     ·rw [lx,ly,p1,q1]; refine .inr ⟨by simp; omega,by decide,by decide,by decide,by decide⟩
     ·rw [p1,q1]; have hsm:=Qug (p:=f) (x:=x) (y:=y) (by rw [p1,q1]) (by rw [p1]; decide);exact .inl ⟨rfl,hsm,hw hsm⟩
theorem Zol (z:Rat):∃ n:Nat,z<=(n:Rat):=by
 refine ⟨z.ceil.toNat,?_⟩;have h1:z<=(z.ceil:Rat):=Rat.le_ceil;have h2:(z.ceil:Rat)<=((z.ceil.toNat:Int):Rat):=X6.2 (Int.self_le_toNat _);exact Zg h1 h2
theorem Iv {z e:Rat} (he:0<e):∃ n:Nat,z<=(n:Rat)*e:=by
 obtain ⟨n,hn⟩:=Zol (z / e);exact ⟨n,by have:=Zb hn (Qr he); rwa [Fq he] at this⟩
theorem Qdj {R x y t:Rat} (hx:Uj x<=R) (hy:Uj y<=R) (h1:x<=t) (h2:t<=y):Uj t<=R:=by
 rw [Tz] at *; constructor <;> grind
def Q2a (f w:List Rat) (L:List (List Rat)) (x y:Rat):Prop :=
 vv L y<=vv L x/\(vv L x=vv L y->Sm f x y/\Sm w x y)/\(vv L x=vv L y+1->Rx f x≠0/\Rx f y=-Rx f x)
theorem Q0m {f w:List Rat} {L:List (List Rat)} {x y:Rat} (h:Q46 f w L x y):Q2a f w L x y:=by
 rcases h with ⟨h1,h2,h3⟩ | ⟨h1,h2,h3,_⟩
 ·exact ⟨by omega,λ_=>⟨h2,h3⟩,λh=>by omega⟩
 ·exact ⟨by omega,λh=>by omega,λ_=>⟨h2,h3⟩⟩
theorem Quh {w:List Rat} {x y z:Rat} (h1:Sm w x y) (h2:Sm w y z):Sm w x z:=⟨by rw [h2.s,h1.l],by rw [h2.l,h1.l],h1.n⟩
theorem Qwy {f w:List Rat} {L:List (List Rat)} {x y z:Rat} (h:Q2a f w L x y) (h':Q2a f w L y z):Q2a f w L x z:=by
 obtain ⟨a1,a2,a3⟩:=h;obtain ⟨b1,b2,b3⟩:=h';refine ⟨by omega,λh=>?_,λh=>?_⟩
 ·obtain ⟨s1,s2⟩:=a2 (by omega);obtain ⟨s3,s4⟩:=b2 (by omega);exact ⟨Quh s1 s3,Quh s2 s4⟩
 ·by_cases e:vv L x=vv L y
  ·obtain ⟨s1,_⟩:=a2 e;obtain ⟨s3,s4⟩:=b3 (by omega);exact ⟨s1.n,by rw [s4,s1.l]⟩
  ·obtain ⟨s3,s4⟩:=a3 (by omega);obtain ⟨s1,_⟩:=b2 (by omega);exact ⟨s3,by rw [s1.l,s4]⟩
theorem Zjh {R:Rat} (hR:0<=R) {f w u:List Rat} {L:List (List Rat)} (hc:Stm f L) (h:∀ t,ev f t=ev w t*ev u t) {x y:Rat} (hx:Uj x<=R) (hy:Uj y<=R) (hxy:x<y):Q2a f w L x y:=by
 obtain ⟨e,ep,hl⟩:=loc hR hc h;have key:∀ n:Nat,∀ x,Uj x<=R->x<y->y-x<=(n:Rat)*e->Q2a f w L x y:=by
  intro n
  induction n with
  | zero =>
   intro x hx hxy h; exfalso; have:((0:Nat):Rat)*e=0:=by simp
   grind
  |
   succ n ih =>
   intro x hx hxy hn;rcases Ut (y-x) e with h1 | h1
   ·exact Q0m (hl x y hx hy hxy h1)
   ·have hm:Uj (x+e)<=R:=Qdj hx hy (by clear hl ih; grind) (by clear hl ih; grind);have hn':(((n+1:Nat):Rat))=(n:Rat)+1:=by push_cast; rfl
    refine Qwy (Q0m (hl x (x+e) hx hm (by clear hl ih; grind) (by clear hl ih; grind))) (ih (x+e) hm (by clear hl ih; grind) ?_);rw [hn'] at hn;clear hl ih; grind
 obtain ⟨n,hn⟩:=Iv (z:=y-x) ep;exact key n x hx hxy hn
theorem Qok (x y:Rat):∃ R:Rat,0<=R/\Uj x<=R/\Uj y<=R:=by
 refine ⟨Uj x+Uj y,?_,?_,?_⟩ <;> (have:=Gl x; have:=Gl y; grind)
theorem Hg (t:Rat):ev [1] t=1:=by simp only [ev]; grind
theorem D2 {f:List Rat} {L:List (List Rat)} (hc:Stm f L) {x y:Rat} (hxy:x<y):vv L y<=vv L x:=by
 obtain ⟨R,hR,hx,hy⟩:=Qok x y;exact (Zjh hR hc (w:=f) (u:=[1]) (λt=>by rw [Hg]; grind) hx hy hxy).1
theorem Qbu {f w u:List Rat} {L:List (List Rat)} (hc:Stm f L) (h:∀ t,ev f t=ev w t*ev u t) {x y:Rat} (hxy:x<y) (he:vv L x=vv L y):Sm w x y:=by
 obtain ⟨R,hR,hx,hy⟩:=Qok x y;exact ((Zjh hR hc h hx hy hxy).2.1 he).2
theorem Qq7 {f:List Rat} {L:List (List Rat)} (hc:Stm f L) {x y:Rat} (hxy:x<y) (he:vv L x=vv L y):Sm f x y :=
 Qbu hc (w:=f) (u:=[1]) (λt=>by rw [Hg]; grind) hxy he
theorem Qq6 {f:List Rat} {L:List (List Rat)} (hc:Stm f L) {x y:Rat} (hxy:x<y) (he:vv L x=vv L y+1):Rx f x≠0/\Rx f y=-Rx f x:=by
 obtain ⟨R,hR,hx,hy⟩:=Qok x y;exact (Zjh hR hc (w:=f) (u:=[1]) (λt=>by rw [Hg]; grind) hx hy hxy).2.2 he
theorem Zbx {f:List Rat} {L:List (List Rat)} (hc:Stm f L) (R:Rat) (hR:0<=R):∃ e:Rat,0<e/\∀ x y,Uj x<=R->Uj y<=R->x<y->y-x<=e->vv L x<=vv L y+1:=by
 obtain ⟨e,ep,hl⟩:=loc hR hc (w:=f) (u:=[1]) (λt=>by rw [Hg]; grind);refine ⟨e,ep,λx y hx hy hxy he=>?_⟩;rcases hl x y hx hy hxy he with ⟨h,_⟩ | ⟨h,_⟩ <;> omega
theorem Qbe {p:List Rat} {x:Rat} (h:Un (ev p x)≠0):∃ e:Rat,0<e/\∀ y,Uj (y-x)<=e->Un (ev p y)=Un (ev p x):=by
 have hd:=Mr (x:=ev p x) λh0=>h (U9.2 h0)
 have hR:0<=Uj x+1:=by have:=Gl x; grind
 obtain ⟨e,e1,e2,e3⟩:=Fu (Su hR p) hd;refine ⟨e,e1,λy hy=>(Td Qq (Tu (x:=x) (by grind) ?_ hR hy e3)).1⟩;have:=Re (y-x) x;have e:y-x+x=y:=by grind
 rw [e] at this; grind
theorem Zht {R M:Rat} {p:List Rat} (hM:M=ddB R p) (hR:0<=R) {h:Rat} (hh:0<h):∀ (n:Nat) (x:Rat),Uj x<=R->Uj (x+(n:Rat)*h)<=R->(∀ t,x<=t->t<=x+(n:Rat)*h->0<=dv p t)->ev p x-(n:Rat)*(h*h*M)<=ev p (x+(n:Rat)*h)
 |
  0,x,_,_,_=>by
  have e1:x+((0:Nat):Rat)*h=x:=by rw [show ((0:Nat):Rat)=0 from rfl]; grind
  have e2:((0:Nat):Rat)*(h*h*M)=0:=by simp
  rw [e1,e2]; grind
 |
  n+1,x,hx,hy,hd=>by
  have hn':(((n+1:Nat):Rat))=(n:Rat)+1:=by push_cast; rfl
  rw [hn'] at hy hd ⊢;have hn0:(0:Rat)<=(n:Rat):=Xi;have hnh:=Po hn0 (Qr hh);have e1:x+((n:Rat)+1)*h=(x+h)+(n:Rat)*h:=by grind
  rw [e1] at hy hd ⊢;have hxh:Uj (x+h)<=R:=Qdj hx hy (by clear hd; grind) (by clear hd; grind);have ih:=Zht hM hR hh n (x+h) hxh hy λt h1 h2=>hd t (by clear hd; grind) h2
  have h0:=hd x Qq (by clear hd; grind);have h1:=Zhi p (x+h) x;have h2:=Q7m hxh hx p;rw [<-hM,Tz] at h2;have h3:=Zw h2.1 (Po (Qr hh) (Qr hh));have h4:=Po (Qr hh) h0;have e2:x+h-x=h:=by grind
  rw [e2] at h1;clear hd hx hy hxh;grind
theorem Zmt {p:List Rat} {x y:Rat} (hxy:x<y) (hd:∀ t,x<=t->t<=y->0<=dv p t):ev p x<=ev p y:=by
 obtain ⟨R,hR,hx,hy⟩:=Qok x y;rcases Ut (ev p x) (ev p y) with h | h
 ·exact h
 ·exfalso;obtain ⟨M,hM⟩:=nmE (ddB R p);have hM0:=Qjd hR p;rw [<-hM] at hM0;obtain ⟨e,ep,_,he⟩:=Fu (b:=(y-x)*M) (d:=ev p x-ev p y) (Po (by grind) hM0) (by grind);obtain ⟨n,hn⟩:=Iv (z:=y-x) ep;have hn0:0<(n:Rat):=by
   rcases Ut (n:Rat) 0 with h' | h'
   ·have:=Zb h' (Qr ep); clear hd; grind
   ·exact h'
  have hh:0<(y-x) / n:=Dd (by grind) hn0;have e1:(n:Rat)*((y-x) / n)=y-x:=by rw [Ws]; exact Fq hn0
  have e2:x+(n:Rat)*((y-x) / n)=y:=by rw [e1]; grind
  have h1:=Zht hM hR hh n x hx (by rw [e2]; exact hy) (by rw [e2]; exact hd);rw [e2] at h1;have h2:(y-x) / n<=e:=by
   rcases Ut ((y-x) / n) e with h' | h'
   ·exact h'
   ·have:=Rat.mul_lt_mul_of_pos_left h' hn0; clear hd; grind
  have h3:(n:Rat)*((y-x) / n*((y-x) / n)*M)=((y-x) / n)*((y-x)*M):=by
   have:(n:Rat)*((y-x) / n*((y-x) / n)*M)=((n:Rat)*((y-x) / n))*(((y-x) / n)*M):=by grind
   rw [this,e1]; grind
  have h4:=Zb h2 (Po (x:=y-x) (y:=M) (by grind) hM0);rw [h3] at h1;clear hd; grind
theorem Zft {p:List Rat} {x y:Rat} (hxy:x<y) (hd:∀ t,x<=t->t<=y->0<dv p t):ev p x<ev p y:=by
 have hx:=hd x Qq (by grind);have hR:0<=Uj x+1:=by have:=Gl x; grind
 obtain ⟨e,e1,e2,e3⟩:=Fu (Qjd hR p) hx;obtain ⟨f,f1,f2,f3⟩:=min2 (a:=e) (b:=y-x) e1 (by grind);have hq:Uj (x+f)<=Uj x+1:=by
  have:=Re x f; have:Uj f=f:=by unfold Uj; split <;> grind
  clear hd; grind
 have h1:=Qkn (p:=p) (x:=x) (y:=x+f) (R:=Uj x+1) (e:=e) (d:=dv p x) (by clear hd; grind) hq hR (by grind) (by grind) (by unfold Uj; split <;> clear hd <;> grind) e3;rw [G0.2 hx,G0] at h1;rcases Classical.em (x+f=y) with e | e
 ·rw [<-e]; clear hd; grind
 ·have:=Zmt (p:=p) (x:=x+f) (y:=y) (by clear hd; grind) λt h1 h2=>Qr (hd t (by clear hd; grind) h2)
  clear hd; grind
structure Cut (c:Rat->Int):Prop where
 val:∀ q,c q=1\/c q=0\/c q=-1
 mono:∀ q r,q<r->c q≠1->c r=-1
 up:∀ q,c q=1->∃ r,q<r/\c r=1
 dn:∀ q,c q=-1->∃ r,r<q/\c r=-1
 lo:∃ q,c q=1
 hi:∃ q,c q=-1
theorem Cut.mono' {c:Rat->Int} (h:Cut c) {q r:Rat} (hqr:q<r) (hr:c r≠-1):c q=1:=by
 rcases Classical.em (c q=1) with e | e
 ·exact e
 ·exact absurd (h.mono q r hqr e) hr
theorem Cut.lt {c:Rat->Int} (h:Cut c) {q r:Rat} (hq:c q=1) (hr:c r=-1):q<r:=by
 rcases Ut r q with e | e
 ·rcases Classical.em (r=q) with e' | e'
  ·rw [e'] at hr; omega
  ·have:=h.mono r q (by grind) (by omega); omega
 ·exact e
theorem Cut.near {c:Rat->Int} (h:Cut c) {e:Rat} (he:0<e):∃ x y,c x=1/\c y=-1/\y-x<=e:=by
 obtain ⟨a,ha⟩:=h.lo;obtain ⟨b,hb⟩:=h.hi;have he2:0<e / 2:=Dd he (by decide);have h2:e / 2*2=e:=Fq (by decide);have key:∀ (n:Nat) (a:Rat),c a=1->b-a<=(n:Rat)*(e / 2)->∃ x y,c x=1/\c y=-1/\y-x<=e:=by
  intro n
  induction n with
  |
   zero =>
   intro a ha hn;have:=h.lt ha hb;rw [show ((0:Nat):Rat)=0 from rfl] at hn;exfalso; grind
  |
   succ n ih =>
   intro a ha hn;have hn':(((n+1:Nat):Rat))=(n:Rat)+1:=by push_cast; rfl
   rw [hn'] at hn;rcases h.val (a+e / 2) with h1 | h1 | h1
   ·exact ih _ h1 (by grind)
   ·exact ⟨a,a+e,ha,h.mono (a+e / 2) _ (by grind) (by omega),by grind⟩
   ·exact ⟨a,a+e / 2,ha,h1,by grind⟩
 obtain ⟨n,hn⟩:=Iv (z:=b-a) he2;exact key n a ha hn
def Ek (p:List Rat) (c:Rat->Int):Prop:=∀ d:Rat,0<d->∃ x y,c x=1/\c y=-1/\∀ q,x<=q->q<=y->Uj (ev p q)<d
def NZ (p:List Rat) (c:Rat->Int) (s:Int):Prop:=∃ d:Rat,0<d/\∃ x y,c x=1/\c y=-1/\∀ q,x<=q->q<=y->Un (ev p q)=s/\d<=Uj (ev p q)
def Nr (c:Rat->Int) (P:Rat->Prop):Prop:=∃ x y,c x=1/\c y=-1/\∀ q,x<=q->q<=y->P q
theorem Qw4 {c:Rat->Int} {P Q:Rat->Prop} (h1:Nr c P) (h2:Nr c Q):Nr c λq=>P q/\Q q:=by
 obtain ⟨x,y,a1,a2,a3⟩:=h1;obtain ⟨x',y',b1,b2,b3⟩:=h2;refine ⟨if x<=x' then x' else x,if y<=y' then y else y',by split <;> assumption,by split <;> assumption,λq q1 q2=>⟨a3 q ?_ ?_,b3 q ?_ ?_⟩⟩ <;> clear a3 b3 <;> grind
theorem Qh3 {c:Rat->Int} {P Q:Rat->Prop} (h1:Nr c P) (h:∀ q,P q->Q q):Nr c Q:=by
 obtain ⟨x,y,a1,a2,a3⟩:=h1;exact ⟨x,y,a1,a2,λq q1 q2=>h q (a3 q q1 q2)⟩
theorem Qte {c:Rat->Int} (hc:Cut c) {P:Rat->Prop} (h1:Nr c P):∃ q,P q/\c q=1:=by
 obtain ⟨x,y,a1,a2,a3⟩:=h1;exact ⟨x,a3 x Qq (Qr (hc.lt a1 a2)),a1⟩
theorem Q9i {c:Rat->Int} (hc:Cut c) {e:Rat} (he:0<e) {P:Rat->Prop} (h1:Nr c P):∃ x y,c x=1/\c y=-1/\y-x<=e/\x<y/\∀ q,x<=q->q<=y->P q:=by
 obtain ⟨x,y,a1,a2,a3⟩:=h1;obtain ⟨x',y',b1,b2,b3⟩:=hc.near he;refine ⟨if x<=x' then x' else x,if y<=y' then y else y',by split <;> assumption,by split <;> assumption,by clear a3; grind,hc.lt (by split <;> assumption) (by split <;> assumption),λq q1 q2=>a3 q ?_ ?_⟩ <;> clear a3 <;> grind
theorem Zhs {c:Rat->Int} (hc:Cut c):∃ R:Rat,0<=R/\Nr c λq=>Uj q<=R:=by
 obtain ⟨x,y,a1,a2,_⟩:=hc.near (e:=1) (by decide);obtain ⟨R,hR,h1,h2⟩:=Qok x y;exact ⟨R,hR,x,y,a1,a2,λq q1 q2=>Qdj h1 h2 q1 q2⟩
theorem Qag {c:Rat->Int} (hc:Cut c) (p:List Rat):Ek p c\/∃ s,s≠0/\NZ p c s:=by
 rcases Classical.em (Ek p c) with h | h
 ·exact .inl h
 ·refine .inr ?_;obtain ⟨d,hd0⟩:=Classical.not_forall.1 h;obtain ⟨dp,hd⟩:=Classical.not_imp.1 hd0;have hd:∀ x y,c x=1->c y=-1->∃ q,x<=q/\q<=y/\d<=Uj (ev p q):=λx y hx hy=>by
   rcases Classical.em (∃ q,x<=q/\q<=y/\d<=Uj (ev p q)) with h' | h'
   ·exact h'
   ·refine absurd ⟨x,y,hx,hy,λq h1 h2=>?_⟩ hd;rcases Ut d (Uj (ev p q)) with h3 | h3
    ·exact absurd ⟨q,h1,h2,h3⟩ h'
    ·exact h3
  obtain ⟨R,hR,hn⟩:=Zhs hc;have hd2:0<d / 2:=Dd dp (by decide);have h2:d / 2*2=d:=Fq (by decide);obtain ⟨e,e1,_,e3⟩:=Fu (Su hR p) hd2;obtain ⟨x,y,hx,hy,hxy,_,hq⟩:=Q9i hc e1 hn;obtain ⟨r,r1,r2,r3⟩:=hd x y hx hy;have key:∀ q,x<=q->q<=y->Uj (ev p q-ev p r)<d / 2:=λq q1 q2 =>
   Tu (hq r r1 r2) (hq q q1 q2) hR (by rw [Tz]; clear hq hd; constructor <;> grind) e3
  refine ⟨Un (ev p r),λh0=>?_,d / 2,hd2,x,y,hx,hy,λq q1 q2=>⟨(Td (d:=d) r3 ?_).1,?_⟩⟩
  ·rw [U9.1 h0,Gz] at r3; clear hq hd key; grind
  ·have:=key q q1 q2; clear hq hd key; grind
  ·have h3:=key q q1 q2;have h4:=Re (ev p r-ev p q) (ev p q);rw [show ev p r-ev p q+ev p q=ev p r from by clear hq hd key; grind,Q1m] at h4;clear hq hd key; grind
theorem Zkz {c:Rat->Int} (hc:Cut c) {p:List Rat} {s:Int} (h1:Ek p c) (h2:NZ p c s):False:=by
 obtain ⟨d,dp,h2⟩:=h2;obtain ⟨q,⟨a,b⟩,_⟩:=Qte hc (Qw4 (h1 d dp) h2);exact absurd b.2 (Jo.2 a)
theorem Tn {c:Rat->Int} (hc:Cut c) {f p q:List Rat} (hf:∀ t,ev f t=ev p t*ev q t) (h:Ek p c):Ek f c:=by
 intro d dp;obtain ⟨R,hR,hn⟩:=Zhs hc;obtain ⟨e,e1,_,e3⟩:=Fu (I6 hR q) dp;refine Qh3 (Qw4 hn (h e e1)) λt ⟨h1,h2⟩=>?_
 rw [hf];have:=Fo (Qr h2) (Qgo h1 q);exact Jo.1 λh=>absurd (Zg h this) (Jo.2 e3)
theorem Qil {c:Rat->Int} {f p q:List Rat} (hf:∀ t,ev f t=ev p t+ev q t) (h:Ek p c) (h':Ek q c):Ek f c:=by
 intro d dp;have hd2:0<d / 2:=Dd dp (by decide);have h2:d / 2*2=d:=Fq (by decide);refine Qh3 (Qw4 (h _ hd2) (h' _ hd2)) λt ⟨h1,h2⟩=>?_
 rw [hf];have:=Re (ev p t) (ev q t);grind
def RS (p:List Rat) (c:Rat->Int) (s:Int):Prop:=∃ y,c y=-1/\∀ q,c q=-1->q<=y->Un (ev p q)=s
def LS (p:List Rat) (c:Rat->Int) (s:Int):Prop:=∃ x,c x=1/\∀ q,c q=1->x<=q->Un (ev p q)=s
theorem Qnz {c:Rat->Int} (hc:Cut c) {p:List Rat} {s:Int} (h:NZ p c s):RS p c s:=by
 obtain ⟨d,dp,x,y,a1,a2,a3⟩:=h;exact ⟨y,a2,λq h1 h2=>(a3 q (Qr (hc.lt a1 h1)) h2).1⟩
theorem Q0p {c:Rat->Int} (hc:Cut c) {p:List Rat} {s:Int} (h:NZ p c s):LS p c s:=by
 obtain ⟨d,dp,x,y,a1,a2,a3⟩:=h;exact ⟨x,a1,λq h1 h2=>(a3 q h2 (Qr (hc.lt h1 a2))).1⟩
theorem Q1u {c:Rat->Int} {p:List Rat} {s s':Int} (h:RS p c s) (h':RS p c s'):s=s':=by
 obtain ⟨y,a1,a2⟩:=h;obtain ⟨y',b1,b2⟩:=h';rcases Ut y y' with e | e
 ·rw [<-a2 y a1 Qq,<-b2 y a1 e]
 ·rw [<-a2 y' b1 (Qr e),<-b2 y' b1 Qq]
theorem Zhw {c:Rat->Int} (hc:Cut c) {p:List Rat} (hv:Ek p c) {y:Rat} (hy:c y=-1) (h:∀ q,c q=-1->q<=y->0<dv p q) (q:Rat) (hq:c q=-1) (hqy:q<=y):0<ev p q:=by
 rcases Ut (ev p q) 0 with h0 | h0
 ·exfalso;obtain ⟨r,r1,r2⟩:=hc.dn q hq;have hr:ev p r<ev p q:=Zft r1 λt t1 t2=>h t (by
   rcases Classical.em (r=t) with e | e
   ·rw [<-e]; exact r2
   ·exact hc.mono r t (by clear h; grind) (by omega)) (Zg t2 hqy)
  obtain ⟨a,b,ha,hb,hab⟩:=hv (-ev p r) (by clear h; grind);obtain ⟨m,hm1,hm2,hm3⟩:∃ m,c m=-1/\m<=b/\m<=r:=by
   rcases Ut b r with e | e
   ·exact ⟨b,hb,Qq,e⟩
   ·exact ⟨r,r2,Qr e,Qq⟩
  have h1:=hab m (Qr (hc.lt ha hm1)) hm2;have h2:ev p m<=ev p r:=by
   rcases Classical.em (m=r) with e | e
   ·rw [e]; exact Qq
   ·exact Qr (Zft (by clear h hab; grind) λt t1 t2=>h t (by
     rcases Classical.em (m=t) with e | e
     ·rw [<-e]; exact hm1
     ·exact hc.mono m t (by clear h hab; grind) (by omega)) (by clear h hab; grind))
  rw [Qqg] at h1;clear h hab; grind
 ·exact h0
theorem Qqn {c:Rat->Int} (hc:Cut c) {p:List Rat} {s:Int} (hv:Ek p c) (h:RS (Pp p) c s) (hs:s≠0):RS p c s:=by
 obtain ⟨y,hy,h⟩:=h;have hsv:s=1\/s=-1:=by
  have:=h y hy Qq;rcases Fp (ev (Pp p) y) with ⟨e,_⟩ | ⟨e,_⟩ | ⟨e,_⟩ <;> omega
 rcases hsv with rfl | rfl
 ·refine ⟨y,hy,λq h1 h2=>G0.2 (Zhw hc hv hy (λq h1 h2=>?_) q h1 h2)⟩;rw [<-Hp]; exact G0.1 (h q h1 h2)
 ·refine ⟨y,hy,λq h1 h2=>Ro.2 ?_⟩;have:=Zhw hc (p:=Nz (-1) p) (y:=y) (λd dp=>Qh3 (hv d dp) λq hq=>by rw [U0,show -1*ev p q=-ev p q by grind,Ck]; exact hq) hy (λq h1 h2=>by
   rw [Qfd,<-Hp];have:=Ro.1 (h q h1 h2); grind) q h1 h2
  rw [U0] at this; grind
theorem Zhp {c:Rat->Int} (hc:Cut c) {p:List Rat} (hv:Ek p c) {x:Rat} (hx:c x=1) (h:∀ q,c q=1->x<=q->0<dv p q) (q:Rat) (hq:c q=1) (hxq:x<=q):ev p q<0:=by
 rcases Ut 0 (ev p q) with h0 | h0
 ·exfalso;obtain ⟨r,r1,r2⟩:=hc.up q hq;have hr:ev p q<ev p r:=Zft r1 λt t1 t2=>h t (by
   rcases Classical.em (t=r) with e | e
   ·rw [e]; exact r2
   ·exact hc.mono' (q:=t) (r:=r) (by clear h; grind) (by omega)) (Zg hxq t1)
  obtain ⟨a,b,ha,hb,hab⟩:=hv (ev p r) (by clear h; grind);obtain ⟨m,hm1,hm2,hm3⟩:∃ m,c m=1/\a<=m/\r<=m:=by
   rcases Ut a r with e | e
   ·exact ⟨r,r2,e,Qq⟩
   ·exact ⟨a,ha,Qq,Qr e⟩
  have h1:=hab m hm2 (Qr (hc.lt hm1 hb));have h2:ev p r<=ev p m:=by
   rcases Classical.em (r=m) with e | e
   ·rw [e]; exact Qq
   ·exact Qr (Zft (by clear h hab; grind) λt t1 t2=>h t (by
     rcases Classical.em (t=m) with e | e
     ·rw [e]; exact hm1
     ·exact hc.mono' (q:=t) (r:=m) (by clear h hab; grind) (by omega)) (by clear h hab; grind))
  rw [Qqg] at h1;clear h hab; grind
 ·exact h0
theorem Q82 {c:Rat->Int} (hc:Cut c) {p:List Rat} {s:Int} (hv:Ek p c) (h:LS (Pp p) c s) (hs:s≠0):LS p c (-s):=by
 obtain ⟨x,hx,h⟩:=h;have hsv:s=1\/s=-1:=by
  have:=h x hx Qq;rcases Fp (ev (Pp p) x) with ⟨e,_⟩ | ⟨e,_⟩ | ⟨e,_⟩ <;> omega
 rcases hsv with rfl | rfl
 ·refine ⟨x,hx,λq h1 h2=>Ro.2 (Zhp hc hv hx (λq h1 h2=>?_) q h1 h2)⟩;rw [<-Hp]; exact G0.1 (h q h1 h2)
 ·refine ⟨x,hx,λq h1 h2=>G0.2 ?_⟩;have:=Zhp hc (p:=Nz (-1) p) (x:=x) (λd dp=>Qh3 (hv d dp) λq hq=>by rw [U0,show -1*ev p q=-ev p q by grind,Ck]; exact hq) hx (λq h1 h2=>by
   rw [Qfd,<-Hp];have:=Ro.1 (h q h1 h2); grind) q h1 h2
  rw [U0] at this; grind
theorem Zf1 {c:Rat->Int} (hc:Cut c) {f g:List Rat} {l:List (List Rat)} (h:SCl f g l):Ek f c->Ek g c->False:=by
 induction h with
 |
  @base f g k hk hg =>
  intro _ hv;obtain ⟨q,hq,_⟩:=Qte hc (hv (Uj k) (Mr hk));rw [hg] at hq; grind
 |
  @step f g h l a b q ha hb he hl ih =>
  intro hf hg;refine ih hg ?_;have h1:Ek (Fh q g) c:=Tn hc (p:=g) (q:=q) (λt=>by rw [Ug]; grind) hg;have h2:Ek (Nz (-a) f) c:=Tn hc (p:=f) (q:=[-a]) (λt=>by rw [U0]; simp only [ev]; grind) hf;have h3:Ek (Rf (Fh q g) (Nz (-a) f)) c:=Qil (λt=>Fc t _ _) h1 h2;refine Tn hc (p:=Rf (Fh q g) (Nz (-a) f)) (q:=[1 / b]) (λt=>?_) h3;have:=he t;rw [Fc,Ug,U0];simp only [ev];have hbb:1 / b*b=1:=Fq hb;have:ev q t*ev g t+-a*ev f t=b*ev h t:=by rw [show -a*ev f t=-(a*ev f t) by grind,he t]; grind
  rw [this];have:b*ev h t*(1 / b+t*0)=ev h t*(1 / b*b):=by grind
  rw [this,hbb]; grind
theorem Qoe {c:Rat->Int} (hc:Cut c) {f g:List Rat} {k:Rat} (h:∀ t,ev g t=k*ev f t) (hv:Ek f c):Ek g c :=
 Tn hc (p:=f) (q:=[k]) (λt=>by rw [h]; simp only [ev]; grind) hv
theorem Zgc {c:Rat->Int} (hc:Cut c) {f:List Rat} {L:List (List Rat)} (h:Stm f L) (hv:Ek f c):∃ s,s≠0/\NZ (Pp f) c s:=by
 rcases Qag hc (Pp f) with h1 | h1
 ·exfalso;rcases h with ⟨k,hk,hf,_⟩ | ⟨g,l,k,hk,hg,h,_⟩
  ·obtain ⟨q,hq,_⟩:=Qte hc (hv (Uj k) (Mr hk));rw [hf] at hq; grind
  ·exact Zf1 hc h hv (Qoe hc (λt=>by rw [hg,Hp]) h1)
 ·exact h1
theorem Qzu {c:Rat->Int} (hc:Cut c) {f w u:List Rat} {L:List (List Rat)} (h:Stm f L) (hf:∀ t,ev f t=ev w t*ev u t) (hv:Ek w c):∃ s,s≠0/\NZ (Pp w) c s:=by
 rcases Qag hc (Pp w) with h1 | h1
 ·exfalso;obtain ⟨s,_,hs⟩:=Zgc hc h (Tn hc hf hv);refine Zkz hc ?_ hs;have a1:Ek (Fh (Pp w) u) c:=Tn hc (λt=>Ug t _ _) h1;have a2:Ek (Fh w (Pp u)) c:=Tn hc (λt=>Ug t _ _) hv;refine Qil (λt=>?_) a1 a2;rw [Hp,A3 hf,Ug,Ug,Hp,Hp]
 ·exact h1
theorem Q7j {c:Rat->Int} (hc:Cut c) {q:Rat} (h:c q=0) {x y:Rat} (hx:c x=1) (hy:c y=-1):x<=q/\q<=y:=by
 constructor
 ·rcases Ut x q with e | e
  ·exact e
  ·have:=hc.mono q x e (by omega); omega
 ·rcases Ut q y with e | e
  ·exact e
  ·have:=hc.mono y q e (by omega); omega
theorem Qge {c:Rat->Int} (hc:Cut c) {p:List Rat} {q:Rat} (h:c q=0) (hv:Ek p c):ev p q=0:=by
 rcases Classical.em (ev p q=0) with e | e
 ·exact e
 ·obtain ⟨x,y,hx,hy,hq⟩:=hv _ (Mr e);obtain ⟨h1,h2⟩:=Q7j hc h hx hy;have:=hq q h1 h2; grind
theorem Qti {c:Rat->Int} (hc:Cut c) {p:List Rat} {q:Rat} {s:Int} (h:c q=0) (hv:NZ p c s):Un (ev p q)=s:=by
 obtain ⟨d,dp,x,y,hx,hy,hq⟩:=hv;obtain ⟨h1,h2⟩:=Q7j hc h hx hy;exact (hq q h1 h2).1
theorem Qv9 {c:Rat->Int} (hc:Cut c) {y z:Rat} (hy:c y=-1) (hz:c z=-1):∃ q,c q=-1/\q<y/\q<z:=by
 obtain ⟨a,a1,a2⟩:=hc.dn y hy;obtain ⟨b,b1,b2⟩:=hc.dn z hz;rcases Ut a b with e | e
 ·exact ⟨a,a2,a1,by grind⟩
 ·exact ⟨b,b2,by grind,b1⟩
theorem Qjb {c:Rat->Int} (hc:Cut c) {y z:Rat} (hy:c y=1) (hz:c z=1):∃ q,c q=1/\y<q/\z<q:=by
 obtain ⟨a,a1,a2⟩:=hc.up y hy;obtain ⟨b,b1,b2⟩:=hc.up z hz;rcases Ut a b with e | e
 ·exact ⟨b,b2,by grind,b1⟩
 ·exact ⟨a,a2,a1,by grind⟩
theorem Q9h {f w u:List Rat} {L:List (List Rat)} (h:Stm f L) (hf:∀ t,ev f t=ev w t*ev u t) {x y:Rat} (hv:vv L x=vv L y) {c:Rat->Int} (hc:Cut c) (hx:c x=1) (hy:c y≠1):¬Ek w c:=λhw=>by
 have hxy:x<y:=by
  rcases Ut y x with e | e
  ·rcases Classical.em (y=x) with e' | e'
   ·rw [e'] at hy; exact absurd hx hy
   ·have:=hc.mono y x (by grind) hy; omega
  ·exact e
 have hwv:=Qbu h hf hxy hv;rcases hc.val y with e | e | e
 ·exact hy e
 ·have:=Qge hc e hw;have:=hwv.s;rw [U9.2 (by assumption)] at this;exact hwv.n this.symm
 ·obtain ⟨s,hs,hd⟩:=Qzu hc h hf hw;obtain ⟨a,ha,hal⟩:=Q82 hc hw (Q0p hc hd) hs;obtain ⟨b,hb,hbr⟩:=Qqn hc hw (Qnz hc hd) hs;obtain ⟨q,q1,q2,q3⟩:=Qjb hc hx ha;obtain ⟨r,r1,r2,r3⟩:=Qv9 hc hb e;have e1:=hal q q1 (Qr q3);have e2:=hbr r r1 (Qr r2);have hqr:=hc.lt q1 r1;have v1:vv L q<=vv L x:=D2 h q2;have v2:vv L y<=vv L r:=D2 h r3;have v3:vv L r<=vv L q:=D2 h hqr;have s1:=(Qbu h hf q2 (by omega)).s;have s2:=(Qbu h hf (x:=x) (y:=r) (by grind) (by omega)).s;omega
theorem Qq0 {f:List Rat} {L:List (List Rat)} (h:Stm f L) {x y:Rat} (hxy:x<y) (hv:vv L x≠vv L y) {d:Rat} (dp:0<d):∃ q,x<=q/\q<=y/\Uj (ev f q)<d:=by
 obtain ⟨R,hR,hx,hy⟩:=Qok x y;obtain ⟨e1,e1p,hl⟩:=loc hR h (w:=f) (u:=[1]) (λt=>by rw [Hg]; grind);obtain ⟨e2,e2p,_,e2b⟩:=Fu (Su hR f) dp;obtain ⟨e,ep,h1,h2⟩:=min2 e1p e2p;have key:∀ n:Nat,∀ x,Uj x<=R->x<y->vv L x≠vv L y->y-x<=(n:Rat)*e->∃ q,x<=q/\q<=y/\Uj (ev f q)<d:=by
  intro n
  induction n with
  | zero=>intro x hx hxy _ hn; rw [show ((0:Nat):Rat)=0 from rfl] at hn; exfalso; clear hl; grind
  |
   succ n ih =>
   intro x hx hxy hv hn;have hstep:∀ z,Uj z<=R->x<z->z-x<=e->vv L x≠vv L z->Uj (ev f z)<d:=λz hz hxz hze hv=>by
    rcases hl x z hx hz hxz (Zg hze h1) with ⟨p,_⟩ | ⟨_,p1,p2,p3,p4⟩
    ·exact absurd p hv
    ·have hd:=Tu (p:=f) hx hz hR (e:=e2) (d:=d) (by rw [Tz]; clear hl ih; constructor <;> grind) e2b;rw [<-p3] at p1 p4;clear hl ih p2 p3;rw [Qqg] at *;rcases Fp (ev f x) with ⟨a,a'⟩ | ⟨a,a'⟩ | ⟨a,a'⟩ <;> rcases Fp (ev f z) with ⟨b,b'⟩ | ⟨b,b'⟩ | ⟨b,b'⟩ <;> rw [a,b] at p4 <;> first | (exfalso; revert p4; decide) | skip
     all_goals first | (constructor <;> grind) | (exfalso; omega)
   rcases Ut (y-x) e with h3 | h3
   ·exact ⟨y,Qr hxy,Qq,hstep y hy hxy h3 hv⟩
   ·have hm:Uj (x+e)<=R:=Qdj hx hy (by clear hl ih hstep; grind) (by clear hl ih hstep; grind);rcases Classical.em (vv L x=vv L (x+e)) with e0 | e0
    ·have hn':(((n+1:Nat):Rat))=(n:Rat)+1:=by push_cast; rfl
     rw [hn'] at hn;obtain ⟨q,q1,q2,q3⟩:=ih (x+e) hm (by clear hl ih hstep; grind) (by omega) (by clear hl ih hstep; grind);exact ⟨q,by clear hl ih hstep; grind,q2,q3⟩
    ·exact ⟨x+e,by clear hl ih hstep; grind,by clear hl ih hstep; grind,hstep (x+e) hm (by clear hl ih hstep; grind) (by clear hl ih hstep; grind) e0⟩
 obtain ⟨n,hn⟩:=Iv (z:=y-x) ep;exact key n x hx hxy hv hn
theorem Zma {p:List Rat} {x:Rat} (h:Rx p x≠0):∃ e:Rat,0<e/\∀ y,x<y->y-x<=e->Un (ev p y)=Rx p x:=by
 by_cases h0:Un (ev p x)=0
 ·have hx:=U9.1 h0;rw [Qw0 h0] at h ⊢;have hR:0<=Uj x+1:=by have:=Gl x; grind
  obtain ⟨e,e1,e2,e3⟩:=Fu (Qjd hR p) (Mr (x:=dv p x) λh'=>h (U9.2 h'));refine ⟨e,e1,λy h1 h2=>?_⟩;have hy:Uj y<=Uj x+1:=by
   have:=Re x (y-x);have e:x+(y-x)=y:=by grind
   have e':Uj (y-x)=y-x:=by unfold Uj; split <;> grind
   rw [e,e'] at this; grind
  have:=Qkn (p:=p) (by grind) hy hR h1 h2 Qq e3;rw [hx] at this;rw [<-this]; congr 1; grind
 ·rw [Dn h0] at h ⊢;obtain ⟨e,e1,e2⟩:=Qbe h;exact ⟨e,e1,λy h1 h2=>e2 y (by rw [Tz]; constructor <;> grind)⟩
def cq (P:List Rat) (lo hi q:Rat):Int:=if q<=lo then 1 else if hi<q then -1 else if Un (ev P q)=0 then 0 else if Un (ev P q)=Rx P lo then 1 else -1
structure Vt (P:List Rat) (L:List (List Rat)) (lo hi:Rat):Prop where
 s:Stm P L
 l:lo<hi
 v:vv L lo=vv L hi+1
variable {P:List Rat} {L:List (List Rat)} {lo hi:Rat}
theorem Da {q:Rat} (h:q<=lo):cq P lo hi q=1:=by unfold cq; rw [if_pos h]
theorem Qc6 {q:Rat} (h:lo<hi) (h':hi<q):cq P lo hi q=-1:=by unfold cq; rw [if_neg (by grind),if_pos h']
theorem Ly {q:Rat} (h1:lo<q) (h2:q<=hi):cq P lo hi q=if Un (ev P q)=0 then 0 else if Un (ev P q)=Rx P lo then 1 else -1:=by
 unfold cq; rw [if_neg (by grind),if_neg (by grind)]
theorem Vt.two (V:Vt P L lo hi) {q:Rat} (h1:lo<q) (h2:q<=hi):vv L q=vv L lo/\cq P lo hi q=1/\Un (ev P q)=Rx P lo\/vv L q=vv L hi/\cq P lo hi q≠1/\Rx P q=-Rx P lo/\Rx P lo≠0:=by
 have a:=D2 V.s h1;have b:vv L hi<=vv L q:=by
  rcases Classical.em (q=hi) with e | e
  ·rw [e]; exact Qn _
  ·exact D2 V.s (by grind)
 have hv:=V.v;rcases (show vv L q=vv L lo\/vv L q=vv L hi by omega) with e | e
 ·have hs:=Qq7 V.s h1 e.symm;refine .inl ⟨e,?_,hs.s⟩;rw [Ly h1 h2,hs.s,if_neg hs.n,if_pos rfl]
 ·obtain ⟨o1,o2⟩:=Qq6 V.s h1 (by omega);refine .inr ⟨e,?_,o2,o1⟩;rw [Ly h1 h2]
  split
  ·decide
  ·rename_i h0;rw [Dn h0] at o2;rw [if_neg (by omega)]; decide
theorem Vt.lowlo (V:Vt P L lo hi):Rx P lo≠0:=(Qq6 V.s V.l V.v).1
theorem Vt.eq_lo (V:Vt P L lo hi) {q:Rat} (h1:lo<q) (h2:q<=hi) (h:cq P lo hi q=1):vv L q=vv L lo:=by
 rcases V.two h1 h2 with ⟨e,_⟩ | ⟨_,e,_⟩
 ·exact e
 ·exact absurd h e
theorem Vt.eq_hi (V:Vt P L lo hi) {q:Rat} (h1:lo<q) (h2:q<=hi) (h:cq P lo hi q≠1):vv L q=vv L hi:=by
 rcases V.two h1 h2 with ⟨_,e,_⟩ | ⟨e,_⟩
 ·exact absurd e h
 ·exact e
theorem Vt.hi1 (V:Vt P L lo hi):cq P lo hi hi≠1:=λh=>by have:=V.eq_lo V.l Qq h; have:=V.v; omega
theorem Vt.cut (V:Vt P L lo hi):Cut (cq P lo hi) where
 val q:=by unfold cq; split <;> (try split) <;> (try split) <;> (try split) <;> simp
 mono q r h h1:=by
  have hq:lo<q:=by
   rcases Ut q lo with e | e
   ·exact absurd (Da e) h1
   ·exact e
  rcases Ut r hi with e | e
  ·have e1:=V.eq_hi hq (by grind) h1;rcases V.two (q:=r) (by grind) e with ⟨e2,_⟩ | ⟨e2,_,e3,e4⟩
   ·have:=D2 V.s h; have:=V.v; omega
   ·have hs:=Qq7 V.s h (by omega);rcases V.two hq (by grind) with ⟨e5,_⟩ | ⟨_,_,e5,_⟩
    ·have:=V.v; omega
    ·rw [Ly (by grind) e,hs.s,if_neg hs.n,e5,if_neg (by omega)]
  ·exact Qc6 V.l e
 up q h:=by
  rcases Ut q lo with e | e
  ·obtain ⟨d,dp,hd⟩:=Zma V.lowlo;obtain ⟨f,fp,f1,f2⟩:=min2 (a:=d) (b:=hi-lo) dp (by have:=V.l; grind);have h1:lo<lo+f:=by clear hd; grind
   have h2:lo+f<=hi:=by clear hd; grind
   have:=hd (lo+f) h1 (by clear hd; grind);exact ⟨lo+f,by clear hd; grind,by rw [Ly h1 h2,this,if_neg V.lowlo,if_pos rfl]⟩
  ·have hh:q<=hi:=by
    rcases Ut q hi with e' | e'
    ·exact e'
    ·have:=Qc6 (P:=P) V.l e'; omega
   rcases V.two e hh with ⟨e1,_,e2⟩ | ⟨_,e1,_⟩
   ·have hn:q≠hi:=λh=>by rw [h] at e1; have:=V.v; omega
    obtain ⟨d,dp,hd⟩:=Qbe (p:=P) (x:=q) (by rw [e2]; exact V.lowlo);obtain ⟨f,fp,f1,f2⟩:=min2 (a:=d) (b:=hi-q) dp (by clear hd; grind);have:=hd (q+f) (by rw [Tz]; clear hd; constructor <;> grind);exact ⟨q+f,by clear hd; grind,by rw [Ly (by clear hd; grind) (by clear hd; grind),this,e2,if_neg V.lowlo,if_pos rfl]⟩
   ·exact absurd h e1
 dn q h:=by
  have hq:lo<q:=by
   rcases Ut q lo with e | e
   ·have:=Da (P:=P) (hi:=hi) e; omega
   ·exact e
  rcases Ut q hi with e | e
  ·rw [Ly hq e] at h
   split at h
   ·cases h
   rename_i h0
   split at h
   ·cases h
   rename_i h1;obtain ⟨d,dp,hd⟩:=Qbe h0;obtain ⟨f,fp,f1,f2⟩:=min2 (a:=d) (b:=(q-lo) / 2) dp (Dd (by clear hd; grind) (by decide));have h2:(q-lo) / 2*2=q-lo:=Fq (by decide);have:=hd (q-f) (by rw [Tz]; clear hd; constructor <;> grind);exact ⟨q-f,by clear hd; grind,by rw [Ly (by clear hd; grind) (by clear hd; grind),this,if_neg h0,if_neg h1]⟩
  ·have h2:(q-hi) / 2*2=q-hi:=Fq (by decide);exact ⟨q-(q-hi) / 2,by grind,Qc6 V.l (by grind)⟩
 lo:=⟨lo,Da Qq⟩
 hi:=⟨hi+1,Qc6 V.l (by grind)⟩
theorem Vt.van (V:Vt P L lo hi):Ek P (cq P lo hi):=by
 have hc:=V.cut;rcases Qag hc P with h | ⟨s,hs,h⟩
 ·exact h
 ·exfalso;have e1:s=Rx P lo:=by
   obtain ⟨x,hx,hx1⟩:=Q0p hc h;obtain ⟨q,q1,q2,q3⟩:=Qjb hc hx (Da (P:=P) (hi:=hi) (Qq (a:=lo)));have hq:q<=hi:=by
    rcases Ut q hi with e | e
    ·exact e
    ·have:=Qc6 (P:=P) V.l e; omega
   rcases V.two q3 hq with ⟨_,_,e⟩ | ⟨_,e,_⟩
   ·rw [<-hx1 q q1 (Qr q2),e]
   ·exact absurd q1 e
  rcases hc.val hi with e | e | e
  ·exact V.hi1 e
  ·have h0:=Qti hc e h;rw [Ly V.l Qq] at e
   split at e
   ·omega
   ·split at e <;> omega
  ·obtain ⟨y,hy,hy1⟩:=Qnz hc h;obtain ⟨q,q1,q2,q3⟩:=Qv9 hc hy e;have hq:lo<q:=hc.lt (Da (P:=P) (hi:=hi) (Qq (a:=lo))) q1;have:=hy1 q q1 (Qr q2);rw [Ly hq (Qr q3),this,if_neg hs,if_pos e1] at q1;cases q1
def Qwq (w:List Rat) (lo hi:Rat):Prop:=Un (ev w hi)=0\/Un (ev w hi)≠Rx w lo
theorem Vt.has (V:Vt P L lo hi) {w u:List Rat} (hf:∀ t,ev P t=ev w t*ev u t) {a b:Rat} (h1:lo<=a) (h2:a<b) (h3:b<=hi):Qwq w a b↔Ek w (cq P lo hi)/\cq P lo hi a=1/\cq P lo hi b≠1:=by
 have hc:=V.cut;have smno:vv L a=vv L b->¬Qwq w a b:=λh hh=>by
  have:=Qbu V.s hf h2 h;rcases hh with e | e
  ·rw [this.s] at e; exact this.n e
  ·exact e this.s
 by_cases ha:cq P lo hi a=1
 ·by_cases hb:cq P lo hi b=1
  ·have e1:=V.eq_lo (by grind) h3 hb;have e2:vv L a=vv L lo:=by
    rcases Classical.em (lo=a) with e | e
    ·rw [e]
    ·exact V.eq_lo (by grind) (by grind) ha
   exact ⟨λh=>absurd h (smno (by omega)),λh=>absurd hb h.2.2⟩
  ·have e1:=V.eq_hi (by grind) h3 hb;have e2:vv L a=vv L lo:=by
    rcases Classical.em (lo=a) with e | e
    ·rw [e]
    ·exact V.eq_lo (by grind) (by grind) ha
   have left:∀ s,LS w (cq P lo hi) s->s=Rx w a:=λs hs=>by
    obtain ⟨x,hx,hx1⟩:=hs;obtain ⟨q,q1,q2,q3⟩:=Qjb hc hx ha;have hqb:q<b:=by
     rcases Ut b q with e | e
     ·rcases Classical.em (b=q) with e' | e'
      ·rw [e'] at hb; exact absurd q1 hb
      ·have:=hc.mono b q (by clear hx1 smno; grind) hb; omega
     ·exact e
    have:=V.eq_lo (q:=q) (by clear hx1 smno; grind) (by clear hx1 smno; grind) q1;rw [<-(Qbu V.s hf q3 (by omega)).s,hx1 q q1 (Qr q2)]
   have right:∀ s,RS w (cq P lo hi) s->cq P lo hi b=-1->s=Un (ev w b):=λs hs hb=>by
    obtain ⟨y,hy,hy1⟩:=hs;obtain ⟨q,q1,q2,q3⟩:=Qv9 hc hy hb;have hqa:=hc.lt ha q1;have:=V.eq_hi (q:=q) (by clear hy1 smno; grind) (by clear hy1 smno; grind) (by omega);have hs:=Qbu V.s hf q3 (by omega);have hl:=hy1 q q1 (Qr q2);have h0:Un (ev w q)≠0:=by
     have hs2:=Qbu V.s hf (x:=q) (y:=b) q3 (by omega);intro h0;obtain ⟨r,r1,r2⟩:=hc.dn q q1;have har:=hc.lt ha r2;have:=V.eq_hi (q:=r) (by clear hy1 smno; grind) (by clear hy1 smno; grind) (by omega);have hs3:=Qbu V.s hf (x:=r) (y:=q) r1 (by omega);have hs4:=hs3.s;rw [h0] at hs4; exact hs3.n hs4.symm
    rw [hs.s,Dn h0,hl]
   refine ⟨λh=>⟨?_,ha,hb⟩,λ⟨hw,_,_⟩=>?_⟩
   ·rcases Qag hc w with e | ⟨s,hs0,hs⟩
    ·exact e
    ·exfalso;have l1:=left s (Q0p hc hs);have r1:Un (ev w b)=s:=by
      rcases hc.val b with e | e | e
      ·exact absurd e hb
      ·exact Qti hc e hs
      ·exact (right s (Qnz hc hs) e).symm
     rcases h with h | h
     ·exact hs0 (by rw [<-r1]; exact h)
     ·exact h (by rw [r1,l1])
   ·rcases hc.val b with e | e | e
    ·exact absurd e hb
    ·exact .inl (U9.2 (Qge hc e hw))
    ·obtain ⟨s,hs0,hs⟩:=Qzu hc V.s hf hw;have l1:=left _ (Q82 hc hw (Q0p hc hs) hs0);have r1:=right _ (Qqn hc hw (Qnz hc hs) hs0) e;exact .inr (by rw [<-l1,<-r1]; omega)
 ·have hla:lo<a:=by
   rcases Classical.em (lo=a) with e | e
   ·rw [<-e] at ha; exact absurd (Da Qq) ha
   ·grind
  have hb:cq P lo hi b≠1:=by have:=hc.mono a b h2 ha; omega
  have e1:=V.eq_hi hla (by grind) ha;have e2:=V.eq_hi (q:=b) (by grind) h3 hb;exact ⟨λh=>absurd h (smno (by omega)),λh=>absurd h.2.1 ha⟩
theorem Qr6 {c c':Rat->Int} (hc:Cut c) (hc':Cut c') {q:Rat} (h:c q≠c' q):∃ r,(c r=-1/\c' r=1)\/(c r=1/\c' r=-1):=by
 rcases hc.val q with e | e | e <;> rcases hc'.val q with e' | e' | e'
 ·omega
 ·obtain ⟨r,r1,r2⟩:=hc.up q e;exact ⟨r,.inr ⟨r2,hc'.mono q r r1 (by omega)⟩⟩
 ·exact ⟨q,.inr ⟨e,e'⟩⟩
 ·obtain ⟨r,r1,r2⟩:=hc'.up q e';exact ⟨r,.inl ⟨hc.mono q r r1 (by omega),r2⟩⟩
 ·omega
 ·obtain ⟨r,r1,r2⟩:=hc'.dn q e';exact ⟨r,.inr ⟨hc.mono' r1 (by omega),r2⟩⟩
 ·exact ⟨q,.inl ⟨e,e'⟩⟩
 ·obtain ⟨r,r1,r2⟩:=hc.dn q e;exact ⟨r,.inl ⟨r2,hc'.mono' r1 (by omega)⟩⟩
 ·omega
theorem Vt.uniq (V:Vt P L lo hi) {c:Rat->Int} (hc:Cut c) (h1:c lo=1) (h2:c hi≠1) (hv:Ek P c) (q:Rat):c q=cq P lo hi q:=by
 rcases Classical.em (c q=cq P lo hi q) with e | e
 ·exact e
 ·exfalso;obtain ⟨r,⟨r1,r2⟩ | ⟨r1,r2⟩⟩:=Qr6 hc V.cut e
  ·have hl:=hc.lt h1 r1;have hh:r<=hi:=by
    rcases Ut r hi with e | e
    ·exact e
    ·have:=Qc6 (P:=P) V.l e; omega
   have:=V.eq_lo hl hh r2;exact Q9h V.s (w:=P) (u:=[1]) (λt=>by rw [Hg]; grind) (x:=lo) (y:=r) (by omega) hc h1 (by omega) hv
  ·have hl:lo<r:=by
    rcases Ut r lo with e | e
    ·have:=Da (P:=P) (hi:=hi) e; omega
    ·exact e
   have hh:r<=hi:=by
    rcases Ut r hi with e | e
    ·exact e
    ·have:=hc.mono hi r e h2; omega
   have:=V.eq_hi hl hh (by omega);exact Q9h V.s (w:=P) (u:=[1]) (λt=>by rw [Hg]; grind) (x:=r) (y:=hi) (by omega) hc r1 h2 hv
theorem Vt.same (V:Vt P L lo hi) {P':List Rat} {L':List (List Rat)} {lo' hi':Rat} (V':Vt P' L' lo' hi') {g u u' U W:List Rat} {k:Rat} (hk:k≠0) (h1:∀ t,ev P t=ev g t*ev u t) (h2:∀ t,ev P' t=ev g t*ev u' t) (h3:∀ t,k*ev g t=ev U t*ev P t+ev W t*ev P' t) {a b:Rat} (ha1:lo<=a) (ha2:lo'<=a) (ha:a=lo\/a=lo') (hb1:b<=hi) (hb2:b<=hi') (hb:b=hi\/b=hi'):(a<b/\Qwq g a b)↔∀ q,cq P lo hi q=cq P' lo' hi' q:=by
 have hc:=V.cut;have hc':=V'.cut;constructor
 ·rintro ⟨hab,hg⟩
  obtain ⟨g1,g2,g3⟩:=(V.has h1 ha1 hab hb1).1 hg;obtain ⟨g4,g5,g6⟩:=(V'.has h2 ha2 hab hb2).1 hg;intro q;refine (V.uniq hc' (by
   rcases Classical.em (lo=a) with e | e
   ·rw [e]; exact g5
   ·exact hc'.mono' (q:=lo) (r:=a) (by grind) (by omega)) (λh=>?_) (Tn hc' h1 g4) q).symm
  rcases Classical.em (b=hi) with e | e
  ·rw [<-e] at h; exact g6 h
  ·have:=hc'.mono b hi (by grind) g6; omega
 ·intro h;have hcc:cq P' lo' hi'=cq P lo hi:=funext λq=>(h q).symm
  have e1:cq P lo hi a=1:=by
   rcases ha with rfl | rfl
   ·exact Da Qq
   ·rw [h]; exact Da Qq
  have e2:cq P lo hi b≠1:=by
   rcases hb with rfl | rfl
   ·exact V.hi1
   ·rw [h]; exact V'.hi1
  have hab:a<b:=by
   rcases Ut b a with e | e
   ·rcases Classical.em (b=a) with e' | e'
    ·rw [e'] at e2; exact absurd e1 e2
    ·have:=hc.mono b a (by grind) e2; omega
   ·exact e
  have v1:=V.van;have v2:=V'.van;rw [hcc] at v2;have hg:Ek g (cq P lo hi):=by
   have a1:Ek (Fh U P) (cq P lo hi):=Tn hc (p:=P) (q:=U) (λt=>by rw [Ug]; grind) v1;have a2:Ek (Fh W P') (cq P lo hi):=Tn hc (p:=P') (q:=W) (λt=>by rw [Ug]; grind) v2;have a3:=Qil (λt=>Fc t _ _) a1 a2;refine Qoe hc (k:=1 / k) (λt=>?_) a3;rw [Fc,Ug,Ug,<-h3];have:1 / k*(k*ev g t)=1 / k*k*ev g t:=by grind
   rw [this,show 1 / k*k=1 from Zm hk]; grind
  exact ⟨hab,(V.has h1 ha1 hab hb1).2 ⟨hg,e1,e2⟩⟩
end Orq
namespace Orq
theorem Q9v:∀ (M:Nat) (f:Nat->Nat),(∀ i,i<=M->f i<M)->∃ i j,i<j/\j<=M/\f i=f j
 | 0,f,h=>absurd (h 0 (Qn _)) (Wz _)
 |
  M+1,f,h=>by
  rcases Classical.em (∃ i,i<=M/\f i=f (M+1)) with ⟨i,h1,h2⟩ | hn
  ·exact ⟨i,M+1,by omega,Qn _,h2⟩
  ·have hne:∀ i,i<=M->f i≠f (M+1):=λi hi e=>hn ⟨i,hi,e⟩
   obtain ⟨i,j,h1,h2,h3⟩:=Q9v M (λi=>if f i=M then f (M+1) else f i) λi hi=>by
    have a1:=h i (by omega);have a2:=h (M+1) (Qn _);have a3:=hne i hi;show (if f i=M then f (M+1) else f i)<M
    split <;> omega
   refine ⟨i,j,h1,by omega,?_⟩;have a1:=hne i (by omega);have a2:=hne j h2
   split at h3 <;> split at h3 <;> omega
def dg (B k i:Nat):Nat:=k / B^i % B
theorem Qzs (B k i:Nat):dg B k (i+1)=dg B (k / B) i:=by unfold dg; rw [Nat.pow_succ,Nat.mul_comm,Nat.div_div_eq_div_mul]
theorem Q7n {B:Nat}:∀ (N:Nat) {k k':Nat},k<B^N->k'<B^N->(∀ i,i<N->dg B k i=dg B k' i)->k=k'
 | 0,k,k',h,h',_=>by rw [Y3] at h h'; omega
 |
  N+1,k,k',h,h',he=>by
  have h0:=he 0 (by omega);unfold dg at h0;rw [Y3,Nat.div_one,Nat.div_one] at h0;have hB:0<B:=by
   rcases Qy B with e | e
   ·rw [e,Zn,Yq] at h; omega
   ·exact e
  have h1:=Q7n N (k:=k / B) (k':=k' / B) (X3 (by rw [Zi,<-Zn]; exact h)) (X3 (by rw [Zi,<-Zn]; exact h')) λi hi=>by
   rw [<-Qzs,<-Qzs]; exact he (i+1) (by omega)
  rw [<-Ww k B,<-Ww k' B,h0,h1]
def cd (B:Nat):Nat->(Nat->Nat)->Nat
 | 0,_=>0
 | E+1,x=>x 0+B*cd B E λe=>x (e+1)
theorem Zhc {B:Nat}:∀ (E:Nat) {x:Nat->Nat},(∀ e,e<E->x e<B)->cd B E x<B^E
 | 0,_,_=>by simp [cd]
 |
  E+1,x,h=>by
  have h1:=h 0 (by omega);have h2:=Zhc E (x:=λe=>x (e+1)) λe he=>h (e+1) (by omega)
  simp only [cd];have h3:B*cd B E (λe=>x (e+1))+B<=B*B^E:=by
   rw [<-Nat.mul_succ]; exact Zp _ h2
  rw [Zn,Zi (B^E)]; omega
theorem Q7a {B:Nat}:∀ (E:Nat) {x y:Nat->Nat},(∀ e,e<E->x e<B)->(∀ e,e<E->y e<B)->cd B E x=cd B E y->∀ e,e<E->x e=y e
 | 0,_,_,_,_,_,e,he=>by omega
 |
  E+1,x,y,hx,hy,h,e,he=>by
  have h1:=hx 0 (by omega);have h2:=hy 0 (by omega);simp only [cd] at h;have e0:x 0=y 0:=by
   have:=congrArg (· % B) h;simp only [V0] at this;rwa [Xy h1,Xy h2] at this
  have e1:cd B E (λe=>x (e+1))=cd B E (λe=>y (e+1)):=Nat.eq_of_mul_eq_mul_left (by omega:0<B) (by omega);cases e with
  | zero=>exact e0
  | succ e=>exact Q7a E (λe he=>hx (e+1) (by omega)) (λe he=>hy (e+1) (by omega)) e1 e (by omega)
def sm:Nat->(Nat->Int)->Int
 | 0,_=>0
 | n+1,f=>sm n f+f n
theorem Zbe (f g:Nat->Int):∀ n,sm n (λi=>f i-g i)=sm n f-sm n g
 | 0=>rfl
 | n+1=>by simp only [sm,Zbe f g n]; omega
theorem Bp {f g:Nat->Int}:∀ n,(∀ i,i<n->f i=g i)->sm n f=sm n g
 | 0,_=>rfl
 | n+1,h=>by simp only [sm,Bp n (λi hi=>h i (by omega)),h n (by omega)]
theorem Zbd {f:Nat->Int} {b:Nat}:∀ n,(∀ i,i<n->(f i).natAbs<=b)->(sm n f).natAbs<=n*b
 | 0,_=>by simp [sm]
 |
  n+1,h=>by
  have h1:=Zbd n λi hi=>h i (by omega)
  have h2:=h n (by omega);simp only [sm];rw [Z6]; omega
theorem Qa4 {f:Nat->Int}:∀ n,(∀ i,i<n->f i=0)->sm n f=0
 | 0,_=>rfl
 | n+1,h=>by simp only [sm,Qa4 n (λi hi=>h i (by omega)),h n (by omega)]; rfl
theorem Qx0 (f:Nat->Int) (m:Nat):∀ n,sm (m+n) f=sm m f+sm n λi=>f (m+i)
 | 0=>by simp [sm]
 | n+1=>by rw [<-Yf]; simp only [sm,Qx0 f m n]; omega
theorem Qx1 (f:Nat->Int) (J:Nat):∀ b,sm (b*J) f=sm b λi=>sm J λj=>f (i*J+j)
 | 0=>by simp [sm]
 | b+1=>by rw [Z6,Qx0,Qx1 f J b]; rfl
theorem Qlb {f:Nat->Int} {k:Nat}:∀ n,k<n->(∀ i,i<n->i≠k->f i=0)->sm n f=f k
 | 0,h,_=>by omega
 |
  n+1,h,h1=>by
  simp only [sm];rcases Y9 (Nat.le_of_lt_succ h) with e | e
  ·rw [Qlb n e λi hi=>h1 i (by omega),h1 n (by omega) (by omega)]; omega
  ·subst e; rw [Qa4 k λi hi=>h1 i (by omega) (by omega)]; omega
theorem Zkg {M:Nat->Nat->Int} {h N E H:Nat} (hM:∀ e i,(M e i).natAbs<=h) (hc:(2*(N*(h*H))+1)^E<(H+1)^N) :
 ∃ v:Nat->Int,(∀ i,(v i).natAbs<=H)/\(∃ i,i<N/\v i≠0)/\∀ e,e<E->sm N (λi=>M e i*v i)=0:=by
 obtain ⟨T,hT⟩:=nmE (N*(h*H));rw [<-hT] at hc;have hv:∀ k i,dg (H+1) k i<=H:=λk i=>Nat.le_of_lt_succ (Z5 _ (by omega))
 have hs:∀ k e,(sm N λi=>M e i*(dg (H+1) k i:Int)).natAbs<=T:=λk e=>by
  rw [hT];refine Zbd N λi _=>?_
  rw [Jm,Z7];exact Zy (hM e i) (hv k i)
 have him:∀ k e,((sm N λi=>M e i*(dg (H+1) k i:Int))+T).toNat<2*T+1:=λk e=>by have:=hs k e; omega
 obtain ⟨i,j,h1,h2,h3⟩:=Q9v ((2*T+1)^E) (λk=>cd (2*T+1) E λe=>((sm N λi=>M e i*(dg (H+1) k i:Int))+T).toNat) λk _=>Zhc E λe _=>him k e
 have h4:=Q7a E (λe _=>him i e) (λe _=>him j e) h3;refine ⟨λn=>(dg (H+1) i n:Int)-dg (H+1) j n,λn=>?_,?_,λe he=>?_⟩
 ·have a1:=hv i n;have a2:=hv j n;show ((dg (H+1) i n:Int)-dg (H+1) j n).natAbs<=H;omega
 ·rcases Classical.em (∃ n,n<N/\(dg (H+1) i n:Int)-dg (H+1) j n≠0) with e | e
  ·exact e
  ·exfalso;have:i=j:=Q7n (B:=H+1) N (by omega) (by omega) λn hn=>by
    rcases Classical.em (dg (H+1) i n=dg (H+1) j n) with e' | e'
    ·exact e'
    ·exact absurd ⟨n,hn,by omega⟩ e
   omega
 ·have a1:=h4 e he;have a2:=hs i e;have a3:=hs j e;have:(sm N λn=>M e n*(dg (H+1) i n:Int))=sm N λn=>M e n*(dg (H+1) j n:Int):=by omega
  have e1:=Zbe (λn=>M e n*(dg (H+1) i n:Int)) (λn=>M e n*(dg (H+1) j n:Int)) N;rw [this] at e1;rw [Bp N (g:=λn=>M e n*(dg (H+1) i n:Int)-M e n*(dg (H+1) j n:Int)) λn _=>Int.mul_sub _ _ _,e1]; omega
def Uf:List Int->Rat->Rat
 | [],_=>0
 | a::p,t=>(a:Rat)+t*Uf p t
def sq:Nat->(Nat->Rat)->Rat
 | 0,_=>0
 | n+1,f=>sq n f+f n
theorem Ry {f g:Nat->Rat}:∀ n,(∀ i,i<n->f i=g i)->sq n f=sq n g
 | 0,_=>rfl
 | n+1,h=>by simp only [sq,Ry n (λi hi=>h i (by omega)),h n (by omega)]
theorem Qx6 (f g:Nat->Rat):∀ n,sq n (λi=>f i+g i)=sq n f+sq n g
 | 0=>by simp only [sq]; grind
 | n+1=>by simp only [sq,Qx6 f g n]; grind
theorem Qac (c:Rat) (f:Nat->Rat):∀ n,sq n (λi=>c*f i)=c*sq n f
 | 0=>by simp only [sq]; grind
 | n+1=>by simp only [sq,Qac c f n]; grind
theorem Mv {f:Nat->Rat}:∀ n,(∀ i,i<n->f i=0)->sq n f=0
 | 0,_=>rfl
 | n+1,h=>by simp only [sq,Mv n (λi hi=>h i (by omega)),h n (by omega)]; grind
theorem Ak (f:Nat->Rat):∀ n,sq (n+1) f=f 0+sq n λi=>f (i+1)
 | 0=>by simp only [sq]; grind
 | n+1=>by rw [sq,Ak f n]; simp only [sq]; grind
theorem Zhy {f:Nat->Rat} {b:Rat}:∀ n,(∀ i,i<n->Uj (f i)<=b)->Uj (sq n f)<=(n:Rat)*b
 | 0,_=>by rw [show ((0:Nat):Rat)=0 from rfl]; simp only [sq,Gz]; grind
 |
  n+1,h=>by
  have h1:=Zhy n λi hi=>h i (by omega)
  have h2:=h n (by omega);have h3:=Re (sq n f) (f n);have hn':(((n+1:Nat):Rat))=(n:Rat)+1:=by push_cast; rfl
  rw [hn']; simp only [sq]; clear h; grind
def gc:List Int->Nat->Nat->Int
 | [],_,_=>0
 | c::B,k,j=>(if k=0/\j=0 then c else 0)+(if k=0 then 0 else gc B (k-1) j)-(if j=0 then 0 else gc B k (j-1))
def gB:List Int->Nat
 | []=>0
 | c::B=>max c.natAbs (2*gB B)
theorem Qhx:∀ (B:List Int) (k j:Nat),B.length<=k+j->gc B k j=0
 | [],_,_,_=>rfl
 |
  c::B,k,j,h=>by
  simp only [Q7] at h;simp only [gc];rw [if_neg (by omega)];have e1:(if k=0 then 0 else gc B (k-1) j)=0:=by
   split
   ·rfl
   ·exact Qhx B _ _ (by omega)
  have e2:(if j=0 then 0 else gc B k (j-1))=0:=by
   split
   ·rfl
   ·exact Qhx B _ _ (by omega)
  rw [e1,e2]; rfl
theorem Q8c:∀ (B:List Int) (k j:Nat),(gc B k j).natAbs<=gB B
 | [],_,_=>Qg _
 |
  c::B,k,j=>by
  have h1:=Q8c B (k-1) j;have h2:=Q8c B k (j-1);simp only [gc,gB];by_cases hk:k=0 <;> by_cases hj:j=0 <;> simp only [hk,hj,true_and,and_true,false_and,and_false,if_true,if_false] <;> (try subst hk) <;> (try subst hj) <;> omega
theorem Q8d:∀ (B:List Int) (b:Nat),B.length=b+1->(gc B 0 b).natAbs=(B.getD b 0).natAbs
 | [],_,h=>by simp at h
 | [c],0,_=>by simp [gc]
 | c::d::B,0,h=>by simp at h
 |
  c::B,b+1,h=>by
  have ih:=Q8d B b (by simpa using h);simp only [gc];simp only [J5,Q3];rw [if_pos trivial,if_neg (Nat.succ_ne_zero b),<-ih]; omega
def E2 (F:Nat->Nat->Int) (K J:Nat) (x y:Rat):Rat:=sq K λk=>sq J λj=>(F k j:Rat)*(y^k*x^j)
theorem Qwd (F G:Nat->Nat->Int) (K J:Nat) (x y:Rat):E2 (λk j=>F k j+G k j) K J x y=E2 F K J x y+E2 G K J x y:=by
 unfold E2;rw [<-Qx6];refine Ry K λk _=>?_
 rw [<-Qx6];exact Ry J λj _=>by push_cast; grind
theorem Q7w (c:Int) (F:Nat->Nat->Int) (K J:Nat) (x y:Rat):E2 (λk j=>F k j*c) K J x y=(c:Rat)*E2 F K J x y:=by
 unfold E2;rw [<-Qac];refine Ry K λk _=>?_
 rw [<-Qac];exact Ry J λj _=>by push_cast; grind
theorem Q7x (φ:Nat->Nat->Nat->Int) (v:Nat->Int) (K J:Nat) (x y:Rat):∀ N,E2 (λk j=>sm N λn=>φ n k j*v n) K J x y=sq N λn=>(v n:Rat)*E2 (φ n) K J x y
 |
  0=>by
  simp only [sq,sm];unfold E2;refine Mv K λk _=>Mv J λj _=>?_
  rw [show ((0:Int):Rat)=0 from rfl]; grind
 |
  N+1=>by
  simp only [sq];rw [<-Q7x φ v K J x y N,<-Q7w,<-Qwd];rfl
theorem Qd8 (t:Rat) (i:Nat):∀ k,t^(i+k)=t^i*t^k
 | 0=>by rw [Xn,Xb]; grind
 | k+1=>by rw [<-Yf,Z4,Z4,Qd8 t i k]; grind
theorem Qld (f:Nat->Rat):∀ (i n:Nat),sq (i+n) (λk=>if i<=k then f (k-i) else 0)=sq n f
 | i,0=>Mv _ λk hk=>by rw [if_neg (by omega)]
 |
  i,n+1=>by
  rw [<-Yf]; simp only [sq];rw [Qld f i n,if_pos (by omega),Jd]
def shF (i j':Nat) (F:Nat->Nat->Int) (k j:Nat):Int:=if i<=k then (if j'<=j then F (k-i) (j-j') else 0) else 0
theorem Qjm (F:Nat->Nat->Int) (i j' K J:Nat) (x y:Rat):E2 (shF i j' F) (i+K) (j'+J) x y=y^i*x^j'*E2 F K J x y:=by
 unfold E2;rw [<-Qac,<-Qld _ i K];refine Ry _ λk _=>?_
 by_cases hk:i<=k
 ·rw [if_pos hk,<-Qac,<-Qld _ j' J];refine Ry _ λj _=>?_
  unfold shF;rw [if_pos hk];by_cases hj:j'<=j
  ·rw [if_pos hj,if_pos hj];have e1:y^k=y^i*y^(k-i):=by rw [<-Qd8]; congr 1; omega
   have e2:x^j=x^j'*x^(j-j'):=by rw [<-Qd8]; congr 1; omega
   rw [e1,e2]; grind
  ·rw [if_neg hj,if_neg hj,show ((0:Int):Rat)=0 from rfl]; grind
 ·rw [if_neg hk];refine Mv _ λj _=>?_
  unfold shF;rw [if_neg hk,show ((0:Int):Rat)=0 from rfl]; grind
def fA (A:List Int) (k j:Nat):Int:=if j=0 then A.getD k 0 else 0
theorem Q9t (y:Rat):∀ (A:List Int) (K:Nat),A.length<=K->sq K (λk=>((A.getD k 0:Int):Rat)*y^k)=Uf A y
 | [],K,_=>by rw [Mv]; rfl; intro i _; simp
 | a::A,0,h=>by simp at h
 |
  a::A,K+1,h=>by
  have ih:=Q9t y A K (by simpa using h);rw [Ak];simp only [Uf,Zo,Q3,Xb];rw [<-ih,<-Qac];have:(sq K λi=>((A.getD i 0:Int):Rat)*y^(i+1))=sq K λi=>y*(((A.getD i 0:Int):Rat)*y^i):=Ry K λi _=>by rw [Z4]; grind
  rw [this]; grind
theorem Zl5 (A:List Int) (K J:Nat) (x y:Rat) (h:A.length<=K):E2 (fA A) K (J+1) x y=Uf A y:=by
 rw [<-Q9t y A K h];refine Ry K λk _=>?_
 rw [Ak,Mv]
 ·simp only [fA,if_true,Xb]; grind
 ·intro j _;simp only [fA];rw [if_neg (by omega),show ((0:Int):Rat)=0 from rfl]; grind
theorem Zi6 (x y:Rat):∀ (B:List Int) (K J:Nat),B.length<=K->B.length<=J->E2 (gc B) K J x y=Uf B (y-x)
 |
  [],K,J,_,_=>by
  unfold E2;simp only [gc,Uf];exact Mv K λk _=>Mv J λj _=>by rw [show ((0:Int):Rat)=0 from rfl]; grind
 | c::B,0,J,h,_=>by simp at h
 | c::B,K+1,0,_,h=>by simp at h
 |
  c::B,K+1,J+1,h1,h2=>by
  have i1:=Zi6 x y B K (J+1) (by simpa using h1) (by simp at h2; omega);have i2:=Zi6 x y B (K+1) J (by simp at h1; omega) (by simpa using h2);have s1:=Qjm (gc B) 1 0 K (J+1) x y;have s2:=Qjm (gc B) 0 1 (K+1) J x y;rw [Z0,Jz 1 K] at s1;rw [Z0,Jz 1 J] at s2;rw [i1] at s1;rw [i2] at s2;have e0:E2 (fA [c]) (K+1) (J+1) x y=(c:Rat):=by rw [Zl5 [c] (K+1) J x y (by simp)]; simp only [Uf]; grind
  have e1:gc (c::B)=λk j=>(fA [c] k j+shF 1 0 (gc B) k j)+shF 0 1 (gc B) k j*(-1):=by
   funext k j;simp only [gc,fA,shF];by_cases hk:k=0 <;> by_cases hj:j=0
   ·subst hk; subst hj; simp
   ·subst hk; simp [hj,show 1<=j by omega]
    try omega
   ·subst hj;obtain ⟨m,rfl⟩:∃ m,k=m+1:=⟨k-1,by omega⟩;simp
   ·obtain ⟨m,rfl⟩:∃ m,k=m+1:=⟨k-1,by omega⟩;obtain ⟨i,rfl⟩:∃ i,j=i+1:=⟨j-1,by omega⟩;simp; omega
  rw [e1,Qwd (λk j=>fA [c] k j+shF 1 0 (gc B) k j) (λk j=>shF 0 1 (gc B) k j*(-1)),Qwd (fA [c]) (shF 1 0 (gc B)),Q7w,e0,s1,s2];simp only [Uf,Xb,show y^1=y by rw [Z4,Xb]; grind,show x^1=x by rw [Z4,Xb]; grind];rw [show (((-1:Int)):Rat)=-1 from rfl];grind
def phi (A B:List Int) (b J J' n k j:Nat):Int:=if n<b*J then shF (n / J) (n % J) (fA A) k j else shF ((n-b*J) / J') ((n-b*J) % J') (gc B) k j
theorem Za7 {F:Nat->Nat->Int} {h:Nat} (hF:∀ k j,(F k j).natAbs<=h) (i j' k j:Nat):(shF i j' F k j).natAbs<=h:=by
 unfold shF; split
 ·split
  ·exact hF _ _
  ·exact Qg _
 ·exact Qg _
theorem Zho {i b J j:Nat} (hi:i<b) (hj:j<J):i*J+j<b*J:=by
 have:(i+1)*J<=b*J:=Q0 J hi;rw [Z6] at this; omega
theorem Qfn {i J j:Nat} (hj:j<J):(i*J+j) / J=i/\(i*J+j) % J=j:=by
 rw [Zi,Wx (by omega),Wy,Vo hj,Xy hj]; exact ⟨by omega,rfl⟩
theorem Qn7 (A B:List Int) (a b J J':Nat) (v:Nat->Int) (k j:Nat):sm (b*J+a*J') (λn=>phi A B b J J' n k j*v n) =
 (sm b λi=>sm J λj1=>shF i j1 (fA A) k j*v (i*J+j1))+sm a λi=>sm J' λj1=>shF i j1 (gc B) k j*v (b*J+(i*J'+j1)):=by
 rw [Qx0,Qx1,Qx1];congr 1
 ·refine Bp b λi hi=>Bp J λj1 hj=>?_
  unfold phi;rw [if_pos (Zho hi hj),(Qfn hj).1,(Qfn hj).2]
 ·refine Bp a λi hi=>Bp J' λj1 hj=>?_
  unfold phi;rw [if_neg (by omega),Jd,(Qfn hj).1,(Qfn hj).2]
theorem Zlz (A:List Int) (v:Nat->Int) {i J k j:Nat} (hj:j<J):(sm J λj1=>shF i j1 (fA A) k j*v (i*J+j1))=if i<=k then A.getD (k-i) 0*v (i*J+j) else 0:=by
 rw [Qlb (k:=j) J hj λj1 _ hne=>?_]
 ·unfold shF fA;by_cases h:i<=k
  ·rw [if_pos h,if_pos h,if_pos (Qn _),if_pos (Ys _)]
  ·rw [if_neg h,if_neg h,J9]
 ·unfold shF fA;by_cases h:i<=k
  ·rw [if_pos h];by_cases h':j1<=j
   ·rw [if_pos h',if_neg (by omega),J9]
   ·rw [if_neg h',J9]
  ·rw [if_neg h,J9]
section
variable {A B:List Int} {a b J J':Nat} (hA:A.length=a+1) (hB:B.length=b+1) (lA:A.getD a 0≠0) (lB:B.getD b 0≠0) (hJ:J=J'+b) {v:Nat->Int} (hW:∀ k j,k<a+b->j<J->sm (b*J+a*J') (λn=>phi A B b J J' n k j*v n)=0)
include hA lA hW in
theorem Zhe {jj:Nat} (hj:jj<J) (hV:∀ k,a<=k->k<a+b->(sm a λi=>sm J' λj1=>shF i j1 (gc B) k jj*v (b*J+(i*J'+j1)))=0):∀ d i,i<b->b-i<=d->v (i*J+jj)=0:=by
 intro d
 induction d with
 | zero=>intro i hi hd; omega
 |
  succ d ih =>
  intro i hi hd;have h1:=hW (i+a) jj (by omega) hj;rw [Qn7,hV (i+a) (by omega) (by omega)] at h1;rw [Bp b (λi' hi'=>Zlz A v hj)] at h1;rw [Qlb (k:=i) b hi λi' hi' hne=>?_] at h1
  ·rw [if_pos (by omega),Jd,Int.add_zero] at h1;rcases J8.1 h1 with h2 | h2
   ·exact absurd h2 lA
   ·exact h2
  ·rcases Q9 i i' with h | h
   ·rw [ih i' hi' (by omega)]; simp
   ·rw [if_pos (by omega),Qh,Qu (by omega)]; simp
include hA hB lA lB hJ hW in
theorem Zl3:∀ d js,js<J'->J'-js<=d->∀ i,i<a->v (b*J+(i*J'+js))=0:=by
 intro d
 induction d with
 | zero=>intro js hi hd; omega
 |
  succ d ih =>
  intro js hjs hd i hi;have hin:∀ i' k,i'<a->(sm J' λj1=>shF i' j1 (gc B) k (js+b)*v (b*J+(i'*J'+j1)))=if i'=k then gc B 0 b*v (b*J+(i'*J'+js)) else 0:=λi' k hi'=>by
   rw [Qlb (k:=js) J' hjs λj1 hj1 hne=>?_]
   ·unfold shF;by_cases h:i'<=k
    ·rw [if_pos h,if_pos (by omega),Jd];by_cases h':i'=k
     ·rw [if_pos h',h',Ys]
     ·rw [if_neg h',Qhx B _ _ (by omega),J9]
    ·rw [if_neg h,if_neg (by omega),J9]
   ·rcases Q9 js j1 with h | h
    ·rw [ih j1 hj1 (by omega) i' hi',V3]
    ·unfold shF;by_cases h':i'<=k
     ·rw [if_pos h',if_pos (by omega),Qhx B _ _ (by omega),J9]
     ·rw [if_neg h',J9]
  have hU:=Zhe hA lA hW (jj:=js+b) (by omega) (λk hk hk'=>Qa4 a λi' hi'=>by rw [hin i' k hi',if_neg (by omega)]) (b+1);have h1:=hW i (js+b) (by omega) (by omega);rw [Qn7,Bp a (λi' hi'=>hin i' i hi')] at h1;rw [Qa4 b λi' hi'=>by
   rw [Zlz A v (by omega),hU i' hi' (by omega)]; simp] at h1
  rw [Qlb (k:=i) a hi λi' hi' hne=>if_neg hne,if_pos rfl,Int.zero_add] at h1;rcases J8.1 h1 with h2 | h2
  ·have:=Q8d B b hB; rw [h2] at this; omega
  ·exact h2
include hA hB lA lB hJ hW in
theorem Q5a:∀ n,n<b*J+a*J'->v n=0:=by
 intro n hn;have hV:=Zl3 hA hB lA lB hJ hW;rcases Q9 n (b*J) with h | h
 ·have hJp:0<J:=by
   rcases Qy J with e | e
   ·rw [e,Yq] at h; omega
   ·exact e
  have e1:=Z5 n hJp;have e2:n / J<b:=X3 (by rw [Zi]; exact h);have:=Zhe hA lA hW e1 (λk _ _=>Qa4 a λi hi=>Qa4 J' λj1 hj1=>by rw [hV J' j1 hj1 (by omega) i hi,V3]) (b+1) (n / J) e2 (Qd (Nat.sub_le _ _) (Nat.le_succ _));rwa [Zi,Z9] at this
 ·have hJp:0<J':=by
   rcases Qy J' with e | e
   ·rw [e,Yq] at hn; omega
   ·exact e
  have e1:=Z5 (n-b*J) hJp;have e2:(n-b*J) / J'<a:=X3 (by rw [Zi J' a]; omega);have:=hV J' _ e1 (by omega) _ e2;rw [Zi ((n-b*J) / J'),Z9] at this;rwa [show b*J+(n-b*J)=n by omega] at this
end
theorem Qa0 {R x:Rat} (h1:1<=R) (hx:Uj x<=R):∀ k:Nat,Uj (x^k)<=R^k/\1<=R^k
 | 0=>by rw [Xb,Xb]; exact ⟨by decide,by decide⟩
 |
  k+1=>by
  obtain ⟨i1,i2⟩:=Qa0 h1 hx k;rw [Z4,Z4];have:=Ml (a:=1) (c:=1) (by decide) i2 (by decide) h1;exact ⟨Fo i1 hx,by grind⟩
theorem Q1n {R:Rat} (h1:1<=R) {i:Nat}:∀ k,i<=k->R^i<=R^k
 | 0,h=>by rw [show i=0 by omega]; exact Qq
 |
  k+1,h=>by
  rcases Y9 h with e | e
  ·have:=Q1n h1 (i:=i) k (by omega);have h2:=(Qa0 h1 (x:=0) (by rw [Gz]; grind) k).2;rw [Z4];have:=Ml (a:=R^k) (b:=R^k) (c:=1) (d:=R) (by grind) Qq (by decide) h1;grind
  ·rw [e]; exact Qq
theorem Za6 {F:Nat->Nat->Int} {i j' K J:Nat} {x y R X:Rat} {K2 J2:Nat} (h1:1<=R) (hx:Uj x<=R) (hy:Uj y<=R) (hK:K=i+K2) (hJ:J=j'+J2) (hF:E2 F K2 J2 x y=X):Uj (E2 (shF i j' F) K J x y)<=R^(K+J)*Uj X:=by
 subst hK; subst hJ;rw [Qjm,hF,Ls];have a1:=(Qa0 h1 hy i).1;have a2:=(Qa0 h1 hx j').1;have a3:=Fo a1 a2;rw [<-Qd8] at a3;have a4:=Q1n h1 (i:=i+j') (i+K2+(j'+J2)) (by omega);exact Ml (Gl _) (Zg a3 a4) (Gl _) Qq
theorem Zkc {A B:List Int} {a b h:Nat} (hA:A.length=a+1) (hB:B.length=b+1) (lA:A.getD a 0≠0) (lB:B.getD b 0≠0) (ha:0<a) (hb:0<b) (h0:1<=h) (bA:∀ k,(A.getD k 0).natAbs<=h) (bB:gB B<=h) {J J' N H:Nat} (hJ:J=2*(a*b)) (hJ':J=J'+b) (hN:N=b*J+a*J') (hH:H=(2*(N*h))^(2*(a+b-1))) :
 ∃ w:Nat->Int,(∃ j,j<J/\w j≠0)/\(∀ j,(w j).natAbs<=N*(h*H))/\∀ R:Rat,1<=R->∃ C:Rat,0<=C/\∀ x y,Uj x<=R->Uj y<=R->Uj (sq J λj=>(w j:Rat)*x^j)<=C*(Uj (Uf A y)+Uj (Uf B (y-x))):=by
 have hab:0<a*b:=J0 ha hb;have hbd:∀ n k j,(phi A B b J J' n k j).natAbs<=h:=λn k j=>by
  unfold phi
  split
  ·exact Za7 (λk j=>by unfold fA; split; exact bA k; exact Nat.zero_le _) _ _ _ _
  ·exact Za7 (λk j=>Qd (Q8c B k j) bB) _ _ _ _
 have hJp:0<J:=by omega
 have hNp:1<=N:=by
  have:0<b*J:=J0 hb hJp;omega
 have hNh:1<=N*h:=J0 hNp h0;obtain ⟨E,hE⟩:=nmE ((a+b-1)*J);have hNE:N=E+a*b:=by
  have e1:(a+b-1)*J+J=(a+b)*J:=by
   rw [<-Z6]; congr 1; omega
  have e2:a*J=a*J'+a*b:=by rw [hJ',Xk]
  rw [Jg] at e1;omega
 have hc:(2*(N*(h*H))+1)^E<(H+1)^N:=by
  have c1:2*(N*(h*H))+1<=2*(N*h)*(H+1):=by
   rw [Xk,Yn,Xh 2,Xh N]; omega
  refine Zt (Nat.pow_le_pow_left c1 E) ?_;rw [Nat.mul_pow,hNE,Xa,Zi];refine Nat.mul_lt_mul_of_pos_left ?_ (Zz (by omega));have e1:(2*(N*h))^E=H^(a*b):=by
   rw [hH,<-W4,hE,hJ]; congr 1;rw [Zi 2 (a+b-1),Xh]
  rw [<-hNE,e1];exact Nat.pow_lt_pow_left (by omega) (by omega)
 obtain ⟨v,v1,⟨n0,n1,n2⟩,v3⟩:=Zkg (M:=λe n=>phi A B b J J' n (e / J+1) (e % J)) (h:=h) (N:=N) (E:=E) (H:=H) (λe n=>hbd n _ _) hc;have hW:∀ k j,1<=k->k<a+b->j<J->sm N (λn=>phi A B b J J' n k j*v n)=0:=λk j k1 k2 hj=>by
  have:=v3 ((k-1)*J+j) (by rw [hE]; exact Zho (by omega) hj);rwa [(Qfn hj).1,(Qfn hj).2,show k-1+1=k by omega] at this
 refine ⟨λj=>sm N λn=>phi A B b J J' n 0 j*v n,?_,λj=>?_,λR hR=>?_⟩
 ·rcases Classical.em (∃ j,j<J/\(sm N λn=>phi A B b J J' n 0 j*v n)≠0) with e | e
  ·exact e
  ·exfalso;refine n2 (Q5a hA hB lA lB hJ' (v:=v) (λk j hk hj=>?_) n0 (by rw [<-hN]; exact n1));rw [<-hN];rcases Qy k with e' | e'
   ·subst e';rcases Classical.em ((sm N λn=>phi A B b J J' n 0 j*v n)=0) with e2 | e2
    ·exact e2
    ·exact absurd ⟨j,hj,e2⟩ e
   ·exact hW k j e' hk hj
 ·refine Zbd N λn _=>?_
  rw [Jm];exact Zy (hbd n 0 j) (v1 n)
 ·have hRp:∀ k:Nat,1<=R^k:=λk=>(Qa0 hR (x:=0) (by rw [Gz]; grind) k).2
  have hHn:(0:Rat)<=(H:Rat):=Xi;have hNn:(0:Rat)<=(N:Rat):=Xi;refine ⟨(N:Rat)*((H:Rat)*R^(a+b+J)),Po hNn (Po hHn (by have:=hRp (a+b+J); grind)),λx y hx hy=>?_⟩;have e1:(sq J λj=>((sm N λn=>phi A B b J J' n 0 j*v n:Int):Rat)*x^j)=E2 (λk j=>sm N λn=>phi A B b J J' n k j*v n) (a+b) J x y:=by
   unfold E2;obtain ⟨m,hm⟩:∃ m,a+b=m+1:=⟨a+b-1,by omega⟩;rw [hm,Ak,Mv (n:=m)]
   ·have:(sq J λj=>((sm N λn=>phi A B b J J' n 0 j*v n:Int):Rat)*(y^0*x^j))=sq J λj=>((sm N λn=>phi A B b J J' n 0 j*v n:Int):Rat)*x^j:=Ry J λj _=>by rw [Xb]; grind
    rw [this]; grind
   ·intro k hk;refine Mv J λj hj=>?_
    show ((sm N λn=>phi A B b J J' n (k+1) j*v n:Int):Rat)*_=0;rw [hW (k+1) j (by omega) (by omega) hj,show ((0:Int):Rat)=0 from rfl]; grind
  rw [e1,Q7x];have key:∀ n,n<N->Uj ((v n:Rat)*E2 (phi A B b J J' n) (a+b) J x y)<=(H:Rat)*(R^(a+b+J)*(Uj (Uf A y)+Uj (Uf B (y-x)))):=λn hn=>by
   have hvn:Uj (v n:Rat)<=(H:Rat):=by
    have h1:=v1 n;have h2:(v n)<=(H:Int):=by omega
    have h3:-(H:Int)<=v n:=by omega
    have h2:=X6.2 h2;have h3:=X6.2 h3;rw [Vd] at h3;rw [Tz]; exact ⟨h3,h2⟩
   refine Fo hvn ?_;have hRk:=hRp (a+b+J);have n1:=Gl (Uf A y);have n2:=Gl (Uf B (y-x));rcases Q9 n (b*J) with h | h
   ·have e:phi A B b J J' n=shF (n / J) (n % J) (fA A):=by funext k j; unfold phi; rw [if_pos h]
    have d1:n / J<b:=X3 (by rw [Zi]; exact h);have d2:=Z5 n hJp;rw [e];refine Zg (Za6 (K2:=a+b-n / J) (J2:=J-n % J) hR hx hy (by omega) (by omega) (X:=Uf A y) ?_) (Ml (by grind) Qq n1 (by grind));obtain ⟨m,hm⟩:∃ m,J-n % J=m+1:=⟨J-n % J-1,by omega⟩;rw [hm]; exact Zl5 A _ _ x y (by omega)
   ·have e:phi A B b J J' n=shF ((n-b*J) / J') ((n-b*J) % J') (gc B):=by funext k j; unfold phi; rw [if_neg (by omega)]
    have hJp':0<J':=by
     rcases Qy J' with e | e
     ·rw [e,Yq] at hN; omega
     ·exact e
    have d1:(n-b*J) / J'<a:=X3 (by rw [Zi J' a]; omega);have d2:=Z5 (n-b*J) hJp';rw [e];refine Zg (Za6 (K2:=a+b-(n-b*J) / J') (J2:=J-(n-b*J) % J') hR hx hy (by omega) (by omega) (X:=Uf B (y-x)) ?_) (Ml (by grind) Qq n2 (by grind));exact Zi6 x y B _ _ (by omega) (by omega)
  have:=Zhy N key;refine Zg this ?_;have:(N:Rat)*((H:Rat)*(R^(a+b+J)*(Uj (Uf A y)+Uj (Uf B (y-x)))))=(N:Rat)*((H:Rat)*R^(a+b+J))*(Uj (Uf A y)+Uj (Uf B (y-x))):=by grind
  rw [this]; exact Qq
end Orq
namespace Orq
theorem Zbg {w:Nat->Int} {x:Rat} {D:Rat} (hx:Uj x*2<=1) (hw:∀ j,Uj (w j:Rat)<=D):∀ J (k:Nat),Uj (sq J λj=>(w (k+j):Rat)*x^j)<=2*D
 | 0,k=>by have:=hw 0; have:=Gl (w 0:Rat); simp only [sq,Gz]; clear hw; grind
 |
  J+1,k=>by
  have ih:=Zbg hx hw J (k+1);rw [Ak];have e:(sq J λi=>(w (k+(i+1)):Rat)*x^(i+1))=x*sq J λi=>(w (k+1+i):Rat)*x^i:=by
   rw [<-Qac]; exact Ry J λi _=>by rw [Z4,show k+(i+1)=k+1+i by omega]; grind
  rw [e,Xb,Xn];have h1:=hw k;have h2:=Re ((w k:Rat)*1) (x*sq J λi=>(w (k+1+i):Rat)*x^i);have h3:=Fo (x:=x) (y:=sq J λi=>(w (k+1+i):Rat)*x^i) Qq ih;have h4:=Zb hx (show (0:Rat)<=D by have:=Gl (w k:Rat); clear hw; grind);have h5:(w k:Rat)*1=w k:=by grind
  rw [h5] at h2 ⊢;clear hw; grind
theorem Qcg {z:Int} (h:z≠0):1<=Uj (z:Rat):=by
 unfold Uj;rcases V2 h with h | h
 ·have:((z:Int):Rat)<((0:Int):Rat):=Jh.2 h;have h2:((1:Int):Rat)<=((-z:Int):Rat):=X6.2 (by omega);rw [if_pos (by simpa using this)];rw [Vd] at h2;simpa using h2
 ·have:((0:Int):Rat)<((z:Int):Rat):=Jh.2 h;have h2:((1:Int):Rat)<=((z:Int):Rat):=X6.2 (by omega);rw [if_neg (by
   have:(0:Rat)<z:=by simpa using this
   grind)]
  simpa using h2
theorem Qwz {w:Nat->Int} {x:Rat} {D:Rat} (hD:1<=D) (hx0:0<Uj x) (hx:Uj x*(4*D)<=1) (hw:∀ j,Uj (w j:Rat)<=D):∀ J (k:Nat),(∃ j,j<J/\w (k+j)≠0)->Uj x^J / 2<=Uj (sq J λj=>(w (k+j):Rat)*x^j)
 | 0,k,⟨j,h,_⟩=>by omega
 |
  J+1,k,⟨j,h1,h2⟩=>by
  have hx2:Uj x*2<=1:=by
   have:=Ml (a:=Uj x) (c:=2) (Qr hx0) Qq (by decide) (show (2:Rat)<=4*D by clear hw; grind);exact Zg this hx
  have hx1:Uj x<=1:=by clear hw; grind
  have hp:∀ k:Nat,Uj x^k<=1/\0<=Uj x^k:=λk=>by
   induction k with
   | zero=>rw [Xb]; exact ⟨by decide,by decide⟩
   |
    succ k ih =>
    rw [Z4];have:=Ml ih.2 ih.1 (Qr hx0) hx1;have:=Po ih.2 (Qr hx0);constructor <;> (clear hw; grind)
  rw [Ak];have e:(sq J λi=>(w (k+(i+1)):Rat)*x^(i+1))=x*sq J λi=>(w (k+1+i):Rat)*x^i:=by
   rw [<-Qac]; exact Ry J λi _=>by rw [Z4,show k+(i+1)=k+1+i by omega]; grind
  rw [e,Xb,Xn k,show (w k:Rat)*1=w k by grind];by_cases h0:w k=0
  ·have hj:j≠0:=λe=>h2 (by rw [e]; exact h0)
   have ih:=Qwz hD hx0 hx hw J (k+1) ⟨j-1,by omega,by rw [show k+1+(j-1)=k+j by omega]; exact h2⟩;rw [h0,show ((0:Int):Rat)+x*(sq J λi=>(w (k+1+i):Rat)*x^i)=x*sq J λi=>(w (k+1+i):Rat)*x^i by rw [show ((0:Int):Rat)=0 from rfl]; grind,Ls,Z4];have:=Zw ih (Qr hx0);have e2:Uj x*(Uj x^J / 2)=Uj x^J*Uj x / 2:=by rw [J7,J7]; grind
   rw [e2] at this; exact this
  ·have a1:=Qcg h0;have a2:=Zbg hx2 hw J (k+1);have a3:=Fo (x:=x) (y:=sq J λi=>(w (k+1+i):Rat)*x^i) Qq a2;have a4:=Re ((w k:Rat)+x*sq J λi=>(w (k+1+i):Rat)*x^i) (-(x*sq J λi=>(w (k+1+i):Rat)*x^i));rw [Ck,show (w k:Rat)+(x*sq J λi=>(w (k+1+i):Rat)*x^i)+-(x*sq J λi=>(w (k+1+i):Rat)*x^i)=w k by grind] at a4;have a5:=(hp (J+1)).1;have a6:Uj x^(J+1) / 2*2=Uj x^(J+1):=Fq (by decide);have a7:Uj x*(2*D)*2=Uj x*(4*D):=by grind
   clear hw hp; grind
theorem Zje {A B:List Int} {a b h:Nat} (hA:A.length=a+1) (hB:B.length=b+1) (lA:A.getD a 0≠0) (lB:B.getD b 0≠0) (ha:0<a) (hb:0<b) (h0:1<=h) (bA:∀ k,(A.getD k 0).natAbs<=h) (bB:gB B<=h) {N D:Nat} (hN:b*(2*(a*b))+a*(2*(a*b)-b)=N) (hD:N*(h*(2*(N*h))^(2*(a+b-1)))<=D) {R d:Rat} (hR:1<=R) (dp:0<d)
 (hs:∀ e:Rat,0<e->∃ q r,Uj q<=R/\Uj r<=R/\d<=Uj (q-r)/\Uj (q-r)*(4*(D:Rat))<=1/\Uj (Uf A q)<e/\Uj (Uf B r)<e):False:=by
 have hab:0<a*b:=J0 ha hb;have hbab:b<=a*b:=by
  have:=Q0 b (show 1<=a from ha); omega
 obtain ⟨w,⟨j,hj,hw0⟩,hw,hC⟩:=Zkc hA hB lA lB ha hb h0 bA bB (J:=2*(a*b)) (J':=2*(a*b)-b) rfl (by omega) hN.symm rfl;obtain ⟨C,hC0,hC⟩:=hC (2*R) (by grind);have hw':∀ j,Uj (w j:Rat)<=(D:Rat):=λj=>by
  have h1:=Qd (hw j) hD;have h2:w j<=(D:Int):=by omega
  have h3:-(D:Int)<=w j:=by omega
  have h2:=X6.2 h2;have h3:=X6.2 h3;rw [Vd] at h3;rw [Tz]; exact ⟨h3,h2⟩
 have hD1:(1:Rat)<=(D:Rat):=by
  have:=Qcg hw0;exact Zg this (hw' j)
 have hdJ:0<d^(2*(a*b)) / 2:=Dd (Rat.pow_pos dp) (by decide);obtain ⟨e,ep,_,he⟩:=Fu (b:=C*2) (d:=d^(2*(a*b)) / 2) (by grind) hdJ;obtain ⟨q,r,q1,r1,d1,d2,aq,br⟩:=hs e ep;have h1:=hC (q-r) q (by
  have:=Re q (-r); rw [Ck] at this; have:q-r=q+-r:=by grind
  grind) (by grind)
 rw [show q-(q-r)=r by grind] at h1;have h2:=Qwz (x:=q-r) hD1 (by grind) d2 hw' (2*(a*b)) 0 ⟨j,hj,by rw [Z0]; exact hw0⟩;simp only [Z0] at h2;have h3:C*(Uj (Uf A q)+Uj (Uf B r))<=C*(e+e):=Zw (by grind) hC0;have h4:d^(2*(a*b))<=Uj (q-r)^(2*(a*b)):=by
  generalize 2*(a*b)=J
  induction J with
  | zero=>rw [Xb,Xb]; exact Qq
  |
   succ J ih =>
   rw [Z4,Z4];exact Ml (Qr (Rat.pow_pos dp)) ih (Qr dp) d1
 have h5:d^(2*(a*b)) / 2*2=d^(2*(a*b)):=Fq (by decide);have h6:Uj (q-r)^(2*(a*b)) / 2*2=Uj (q-r)^(2*(a*b)):=Fq (by decide);clear hC hs hw hw';grind
def HD (p:List Rat) (n:Nat):Prop:=p.getD n 0≠0/\∀ k,n<k->p.getD k 0=0
theorem G5:∀ (p q:List Rat) (k:Nat),(Rf p q).getD k 0=p.getD k 0+q.getD k 0
 | [],q,k=>by simp only [Rf,Kd]; grind
 | a::p,[],k=>by simp only [Rf,Kd]; grind
 | a::p,b::q,0=>by simp only [Rf,Zo]
 | a::p,b::q,k+1=>by simp only [Rf,Q3]; exact G5 p q k
theorem Ra (c:Rat):∀ (p:List Rat) (k:Nat),(Nz c p).getD k 0=c*p.getD k 0
 | [],k=>by simp only [Nz,X2,Kd]; grind
 | a::p,0=>by simp [Nz]
 | a::p,k+1=>by have:=Ra c p k; simp only [Nz,Zv,Q3] at *; exact this
theorem Q8k {p:List Rat} {k:Nat} (h:∀ x∈p,x=0):p.getD k 0=0:=by
 rw [Qh];cases e:p[k]? with
 | none=>rfl
 | some x=>exact h x (Qa e)
theorem Nu {p q:List Rat} (h:∀ t,ev p t=ev q t) (k:Nat):p.getD k 0=q.getD k 0:=by
 have h1:=Q8k (k:=k) (Qcu (p:=Rf p (Nz (-1) q)) λt _ _=>by rw [Fc,U0,h t]; grind);rw [G5,Ra] at h1; grind
theorem Bh:∀ {p:List Rat},(∀ k,p.getD k 0=0)->∀ t,ev p t=0
 | [],_,t=>rfl
 |
  a::p,h,t=>by
  have h0:=h 0;have h1:=Bh (p:=p) (λk=>by have:=h (k+1); rwa [Q3] at this) t;rw [Zo] at h0;simp only [ev,h0,h1]; grind
theorem Qj5:∀ (p:List Rat),(∀ t,ev p t=0)\/∃ n,n<p.length/\HD p n
 | []=>.inl λ_=>rfl
 |
  a::p=>by
  rcases Qj5 p with h | ⟨n,hn,h1,h2⟩
  ·rcases Classical.em (a=0) with e | e
   ·exact .inl λt=>by simp only [ev,e,h t]; grind
   ·refine .inr ⟨0,by simp,by simpa using e,λk hk=>?_⟩;obtain ⟨m,rfl⟩:∃ m,k=m+1:=⟨k-1,by omega⟩;rw [Q3];exact (Nu (p:=p) (q:=[]) h m).trans (by simp)
  ·refine .inr ⟨n+1,by simp; omega,by rw [Q3]; exact h1,λk hk=>?_⟩;obtain ⟨m,rfl⟩:∃ m,k=m+1:=⟨k-1,by omega⟩;rw [Q3]; exact h2 m (by omega)
theorem Zhm {p q:List Rat} {n:Nat} (h:∀ t,ev p t=ev q t) (hp:HD p n):HD q n :=
 ⟨by rw [<-Nu h]; exact hp.1,λk hk=>by rw [<-Nu h]; exact hp.2 k hk⟩
theorem Zhn {p:List Rat} {n m:Nat} (h:HD p n) (h':HD p m):n=m:=by
 rcases V7 n m with e | e | e
 ·exact absurd (h.2 m e) h'.1
 ·exact e
 ·exact absurd (h'.2 n e) h.1
theorem Qz9 {p:List Rat} {n:Nat} (h:HD p n):¬∀ t,ev p t=0:=λh0=>h.1 ((Nu (p:=p) (q:=[]) h0 n).trans (by simp))
theorem Qgu {p q:List Rat} (h:∀ k,p.getD k 0=0) (k:Nat):(Fh p q).getD k 0=0:=by
 have:=Nu (p:=Fh p q) (q:=[]) (λt=>by rw [Ug,Bh h t]; simp only [ev]; grind) k;rw [this]; simp
theorem Qj6:∀ {p q:List Rat} {m n:Nat},HD p m->HD q n->HD (Fh p q) (m+n)
 | [],q,m,n,h,_=>absurd (by simp) h.1
 |
  a::p,q,0,n,h,h'=>by
  have h1:∀ k,p.getD k 0=0:=λk=>by have:=h.2 (k+1) (by omega); rwa [Q3] at this
  have h2:∀ k,(Fh (a::p) q).getD k 0=a*q.getD k 0:=λk=>by
   simp only [Fh];rw [G5,Ra];cases k with
   | zero=>rw [Zo]; grind
   | succ k=>rw [Q3,Qgu h1]; grind
  have h3:=h.1;rw [Zo] at h3;refine ⟨?_,λk hk=>?_⟩
  ·rw [h2,Z0]; exact λh=>(Yt.1 h).elim h3 h'.1
  ·rw [h2,h'.2 k (by omega)]; grind
 |
  a::p,q,m+1,n,h,h'=>by
  have ih:=Qj6 (p:=p) (q:=q) (m:=m) ⟨by have:=h.1; rwa [Q3] at this,λk hk=>by have:=h.2 (k+1) (by omega); rwa [Q3] at this⟩ h';refine ⟨?_,λk hk=>?_⟩
  ·simp only [Fh];rw [G5,Ra,show m+1+n=(m+n)+1 by omega,Q3,h'.2 _ (by omega)];have:=ih.1; grind
  ·obtain ⟨j,rfl⟩:∃ j,k=j+1:=⟨k-1,by omega⟩;simp only [Fh];rw [G5,Ra,Q3,h'.2 _ (by omega),ih.2 j (by omega)]; grind
def Is (g f:List Rat):Prop:=∃ u,∀ t,ev f t=ev g t*ev u t
theorem dvd_refl (f:List Rat):Is f f:=⟨[1],λt=>by rw [Hg]; grind⟩
theorem dvd_trans {f g h:List Rat}:Is f g->Is g h->Is f h
 | ⟨u,hu⟩,⟨v,hv⟩=>⟨Fh u v,λt=>by rw [hv,hu,Ug]; grind⟩
theorem Qtc {p q:List Rat} (h:∀ t,ev p t*ev q t=0) (hp:¬∀ t,ev p t=0):∀ t,ev q t=0:=by
 rcases Qj5 p with h1 | ⟨m,_,h1⟩
 ·exact absurd h1 hp
 ·rcases Qj5 q with h2 | ⟨n,_,h2⟩
  ·exact h2
  ·exact absurd (λt=>by rw [Ug]; exact h t) (Qz9 (Qj6 h1 h2))
theorem Qv7 {p q r:List Rat} (hp:¬∀ t,ev p t=0) (h:∀ t,ev p t*ev q t=ev p t*ev r t) (t:Rat):ev q t=ev r t:=by
 have:=Qtc (p:=p) (q:=Rf q (Nz (-1) r)) (λt=>by rw [Fc,U0]; have:=h t; grind) hp t;rw [Fc,U0] at this; grind
theorem Q7p {b:List Rat} {n:Nat} (hb:HD b n):∀ (l:Nat) (a:List Rat),(∀ k,l<=k->a.getD k 0=0)->∃ q r,(∀ t,ev a t=ev q t*ev b t+ev r t)/\∀ k,n<=k->r.getD k 0=0
 | 0,a,ha=>⟨[],a,λt=>by simp only [ev]; grind,λk _=>ha k (Qg _)⟩
 |
  l+1,a,ha=>by
  rcases Q9 l n with h | h
  ·exact ⟨[],a,λt=>by simp only [ev]; grind,λk hk=>ha k (by omega)⟩
  ·-- the leading term is taken away
   obtain ⟨c,hc⟩:=nmE (a.getD l 0 / b.getD n 0);have hcb:c*b.getD n 0=a.getD l 0:=by rw [hc]; exact Zm hb.1
   obtain ⟨m,hm⟩:∃ m:List Rat,m=List.replicate (l-n) 0++[c]:=⟨_,rfl⟩;have hsh:∀ (i:Nat) (k:Nat),(Fh (List.replicate i 0++[c]) b).getD k 0=if i<=k then c*b.getD (k-i) 0 else 0:=λi=>by
    induction i with
    | zero=>intro k; simp only [K0,Yb,Fh]; rw [G5,Ra]; cases k <;> simp <;> grind
    |
     succ i ih =>
     intro k;simp only [Jy,Xd,Fh];rw [G5,Ra];cases k with
     | zero=>rw [Zo,if_neg (by omega)]; grind
     |
      succ k =>
      rw [Q3,ih k];by_cases h:i<=k
      ·rw [if_pos h,if_pos (by omega),Nat.add_sub_add_right]; grind
      ·rw [if_neg h,if_neg (by omega)]; grind
   obtain ⟨q,r,h1,h2⟩:=Q7p hb l (Rf a (Nz (-1) (Fh m b))) λk hk=>by
    rw [G5,Ra,hm,hsh,if_pos (by omega)];rcases Y9 hk with e | e
    ·rw [ha k (by omega),hb.2 _ (by omega)]; grind
    ·subst e; rw [show l-(l-n)=n by omega,hcb]; grind
   refine ⟨Rf q m,r,λt=>?_,h2⟩;have:=h1 t;rw [Fc,U0,Ug] at this;rw [Fc]; grind
theorem Qwo:∀ (n:Nat) (a b:List Rat),(∀ k,n<=k->b.getD k 0=0)->∃ g U V,Is g a/\Is g b/\∀ t,ev g t=ev U t*ev a t+ev V t*ev b t
 |
  0,a,b,h=>by
  have h0:=Bh λk=>h k (Qg _)
  exact ⟨a,[1],[],dvd_refl a,⟨[],λt=>by rw [h0]; simp only [ev]; grind⟩,λt=>by rw [Hg]; simp only [ev]; grind⟩
 |
  n+1,a,b,h=>by
  rcases Classical.em (b.getD n 0=0) with e | e
  ·exact Qwo n a b λk hk=>by
    rcases Y9 hk with e' | e'
    ·exact h k (by omega)
    ·rw [<-e']; exact e
  ·obtain ⟨q,r,h1,h2⟩:=Q7p (b:=b) (n:=n) ⟨e,λk hk=>h k (by omega)⟩ a.length a λk hk=>by rw [Qh,Qu hk]; rfl
   obtain ⟨g,U,V,⟨u,hu⟩,⟨v,hv⟩,hg⟩:=Qwo n b r h2;refine ⟨g,V,Rf U (Nz (-1) (Fh V q)),⟨Rf (Fh q u) v,λt=>?_⟩,⟨u,hu⟩,λt=>?_⟩
   ·rw [h1,hv,Fc,Ug,hu]; grind
   ·rw [hg,Fc,U0,Ug,h1]; grind
theorem Q8g (a b:List Rat):∃ g U V,Is g a/\Is g b/\∀ t,ev g t=ev U t*ev a t+ev V t*ev b t :=
 Qwo b.length a b λk hk=>by rw [Qh,Qu hk]; rfl
def Cop (a b:List Rat):Prop:=∃ U V,∀ t,ev U t*ev a t+ev V t*ev b t=1
theorem Qo5 {c d e:List Rat} (h:Cop c d) (h1:∃ u,∀ t,ev d t*ev e t=ev c t*ev u t):Is c e:=by
 obtain ⟨U,V,h⟩:=h;obtain ⟨u,hu⟩:=h1;refine ⟨Rf (Fh U e) (Fh V u),λt=>?_⟩;rw [Fc,Ug,Ug];have a1:=h t;have a2:=hu t;have:ev e t=(ev U t*ev c t+ev V t*ev d t)*ev e t:=by rw [a1]; grind
 rw [this];have:(ev U t*ev c t+ev V t*ev d t)*ev e t=ev U t*ev c t*ev e t+ev V t*(ev d t*ev e t):=by grind
 rw [this,a2]; grind
def qpw (d:List Rat):Nat->List Rat
 | 0=>[1]
 | k+1=>Fh d (qpw d k)
theorem Qxn (d:List Rat) (t:Rat):∀ k:Nat,ev d t*dv (qpw d k) t=(k:Rat)*(dv d t*ev (qpw d k) t)
 | 0=>by simp only [qpw,dv,ev]; rw [show ((0:Nat):Rat)=0 from rfl]; grind
 |
  k+1=>by
  have ih:=Qxn d t k;have hn':(((k+1:Nat):Rat))=(k:Rat)+1:=by push_cast; rfl
  simp only [qpw];rw [Qpb,Ug,hn']; grind
theorem Zae {d:List Rat} {m:Nat} (h:HD d m):∀ k,HD (qpw d k) (k*m)
 | 0=>by rw [J1]; exact ⟨by simp [qpw],λk hk=>by simp only [qpw]; rw [Qh,Qu (by simp; omega)]; rfl⟩
 | k+1=>by rw [Z6,Jz (k*m) m]; exact Qj6 h (Zae h k)
theorem Qns {d g:List Rat} {m n:Nat} (hd:HD d m) (hg:HD g n) (h:∀ k,Is (qpw d k) g):m=0:=by
 obtain ⟨u,hu⟩:=h (n+1);rcases Qj5 u with h1 | ⟨j,_,h1⟩
 ·exact absurd (λt=>by rw [hu,h1]; grind) (Qz9 hg)
 ·have:=Zhn (Zhm (λt=>by rw [hu,Ug]) hg) (Qj6 (Zae hd (n+1)) h1);rcases Qy m with e | e
  ·exact e
  ·have:(n+1)*1<=(n+1)*m:=Zp _ e;omega
theorem sqf {a g q d U V:List Rat} {k:Rat} (hk:k≠0) (ha:∀ t,ev a t=ev g t*ev q t) (hg:∀ t,k*ev g t=ev U t*ev a t+ev V t*dv a t) (h1:Is d q) (h2:Is d (Pp q)):∀ n,Is (qpw d n) g
 | 0=>⟨g,λt=>by simp only [qpw]; rw [Hg]; grind⟩
 |
  n+1=>by
  obtain ⟨g1,e1⟩:=sqf hk ha hg h1 h2 n;obtain ⟨q1,e2⟩:=h1;obtain ⟨q2,e3⟩:=h2;have d1:=λt=>A3 ha t
  have d2:=λt=>A3 e1 t
  have d3:=λt=>A3 e2 t
  have d4:=Qxn d;refine ⟨Nz (1 / k) (Rf (Fh U (Fh g1 q1)) (Fh V (Rf (Fh g1 q2) (Rf (Nz n (Fh g1 (Rf q2 (Nz (-1) (Pp q1))))) (Fh (Pp g1) q1))))),λt=>?_⟩;have hkk:1 / k*k=1:=Zm hk;simp only [qpw,U0,Fc,Ug,Hp];have b1:=ha t; have b2:=hg t; have b3:=e1 t; have b4:=e2 t; have b5:=e3 t;have b6:=d1 t; have b7:=d2 t; have b8:=d3 t; have b9:=d4 t n;rw [Hp] at b5;generalize ev d t=x0 at *;generalize ev (qpw d n) t=x1 at *;generalize ev g t=x2 at *;generalize ev q t=x3 at *;generalize ev a t=x4 at *;generalize dv a t=x5 at *;generalize dv g t=x6 at *;generalize dv q t=x7 at *;generalize ev g1 t=x8 at *;generalize dv g1 t=x9 at *;generalize ev q1 t=y0 at *;generalize dv q1 t=y1 at *;generalize ev q2 t=y2 at *;generalize dv d t=y3 at *;generalize dv (qpw d n) t=y4 at *;generalize ev U t=y5 at *;generalize ev V t=y6 at *;generalize (n:Rat)=y7 at *;have:x2=1 / k*(k*x2):=by grind
  rw [this,b2];have c1:x5=x0*x1*(x8*y2+(y7*(x8*(y2+-1*y1))+x9*y0)):=by
   rw [b6,b7,b4,b3];have:y3*y0=x0*y2-x0*y1:=by grind
   have:x0*y4*(x8*y0)=y7*(x1*x8*(x0*y2-x0*y1)):=by rw [b9,<-this]; grind
   grind
  have c2:x4=x0*x1*(x8*y0):=by rw [b1,b3,b4]; grind
  rw [c1,c2]; grind
theorem Zd1 {a b c:List Rat} (h1:Cop a b) (h2:Cop a c) {d:List Rat} (hd:∀ t,ev d t=ev b t*ev c t):Cop a d:=by
 obtain ⟨U,V,h1⟩:=h1;obtain ⟨X,Y,h2⟩:=h2;refine ⟨Rf U (Fh (Fh V b) X),Fh V Y,λt=>?_⟩;have a1:=h1 t;have a2:=h2 t;simp only [Fc,Ug,hd];have:ev V t*ev b t*(ev X t*ev a t+ev Y t*ev c t)=ev V t*ev b t:=by rw [a2]; grind
 grind
theorem Zgb {a g q z r X Y:List Rat} {n:Nat} (ha:∀ t,ev a t=ev g t*ev q t) (hz:∀ t,dv a t=ev g t*ev z t) (hg:HD g n) (hr:∀ t,ev X t*ev r t+ev Y t*dv r t=1) (h:Is r a):Is r q:=by
 obtain ⟨b,hb⟩:=h;obtain ⟨e,U,V,⟨r1,e1⟩,⟨q3,e2⟩,e3⟩:=Q8g r q;have hr0:¬∀ t,ev r t=0:=λh=>by
  have h1:=hr 0;have h2:dv r 0=0:=by have:=Q7u (p:=r) (q:=[]) h 0; rw [this]; rfl
  rw [h,h2] at h1; grind
 have he0:¬∀ t,ev e t=0:=λh=>hr0 λt=>by rw [e1,h]; grind
 have d1:=λt=>A3 e1 t
 have c1:Cop r1 q3:=⟨U,V,λt=>by
  have:=Qv7 (p:=e) (q:=Rf (Fh U r1) (Fh V q3)) (r:=[1]) he0 (λt=>by
   rw [Fc,Ug,Ug,Hg];have a1:=e1 t; have a2:=e2 t; have a3:=e3 t;rw [a1,a2] at a3; grind) t
  rw [Fc,Ug,Ug,Hg] at this; exact this⟩
 have c2:Cop r1 e:=⟨Rf (Fh X e) (Fh Y (Pp e)),Fh Y (Pp r1),λt=>by
  have a1:=hr t; have a2:=e1 t; have a3:=d1 t;simp only [Fc,Ug,Hp];rw [a2,a3] at a1; grind⟩
 have c3:Cop r1 (Pp r1):=⟨Rf (Fh X e) (Fh Y (Pp e)),Fh Y e,λt=>by
  have a1:=hr t; have a2:=e1 t; have a3:=d1 t;simp only [Fc,Ug,Hp];rw [a2,a3] at a1; grind⟩
 have c4:Cop r1 q:=Zd1 c2 c1 e2;have hgz:=Qz9 hg;have hp:∀ k,Is (qpw r1 k) g:=λk=>by
  induction k with
  | zero=>exact ⟨g,λt=>by simp only [qpw]; rw [Hg]; grind⟩
  |
   succ k ih =>
   obtain ⟨h,eh⟩:=ih;have hpz:¬∀ t,ev (qpw r1 k) t=0:=λh0=>hgz λt=>by rw [eh,h0]; grind
   have key:Is r1 h:=by
    cases k with
    |
     zero =>
     refine Qo5 c4 ⟨Fh e b,λt=>?_⟩;have a1:=ha t; have a2:=hb t; have a3:=e1 t; have a4:=eh t;simp only [qpw] at a4;rw [Hg] at a4;rw [Ug]; grind
    |
     succ k =>
     have hn:((k+1:Nat):Rat)≠0:=by
      have:(0:Rat)<((k+1:Nat):Rat):=by
       have h1:((0:Nat):Rat)<((k+1:Nat):Rat):=Vg.2 (by omega);simpa using h1
      grind
     have d2:=λt=>A3 (f:=a) (w:=qpw r1 (k+1)) (u:=Fh h q) (λt=>by rw [ha,eh,Ug]; grind) t
     have d4:=Qxn r1;have h3:=Qv7 (p:=qpw r1 (k+1)) (q:=Fh (Pp r1) (Fh h q)) (r:=Fh r1 (Nz (1 / ((k+1:Nat):Rat)) (Rf (Fh h z) (Nz (-1) (Pp (Fh h q)))))) hpz λt=>by
      simp only [Ug,U0,Fc,Hp];have a1:=d2 t; have a2:=d4 t (k+1); have a3:=hz t; have a4:=eh t;rw [Ug] at a1;generalize ((k+1:Nat):Rat)=c at *;have hc:1 / c*c=1:=Zm hn;generalize ev (qpw r1 (k+1)) t=x0 at *;generalize dv (qpw r1 (k+1)) t=x1 at *;generalize dv (Fh h q) t=x2 at *;generalize ev r1 t=x3 at *;generalize dv r1 t=x4 at *;generalize ev h t=x5 at *;generalize ev q t=x6 at *;generalize ev z t=x7 at *;generalize dv a t=x8 at *;generalize ev g t=x9 at *;generalize 1 / c=c' at *;have s1:x0*(x4*(x5*x6))=c'*(c*(x4*x0))*(x5*x6):=by
       have:c'*(c*(x4*x0))=(c'*c)*(x4*x0):=by grind
       rw [this,hc]; grind
      rw [s1,<-a2];have s2:x3*(x1*(x5*x6))=x3*(x0*(x5*x7+-1*x2)):=by
       rw [a3,a4] at a1; grind
      grind
     refine Qo5 c4 ?_;obtain ⟨u,hu⟩:=Qo5 (e:=Fh q h) c3 ⟨Nz (1 / ((k+1:Nat):Rat)) (Rf (Fh h z) (Nz (-1) (Pp (Fh h q)))),λt=>by
      have:=h3 t;simp only [Ug] at this ⊢;rw [<-this]; grind⟩
     exact ⟨u,λt=>by rw [<-hu,Ug]⟩
   obtain ⟨u,hu⟩:=key;exact ⟨u,λt=>by simp only [qpw]; rw [Ug,eh,hu]; grind⟩
 rcases Qj5 r1 with h1 | ⟨m,_,h1⟩
 ·exact absurd (λt=>by rw [e1,h1]; grind) hr0
 ·obtain rfl:=Qns h1 hg hp;have h2:∀ t,ev r1 t=r1.getD 0 0:=λt=>by
   cases r1 with
   | nil=>simp [ev]
   |
    cons c l =>
    have:∀ t,ev l t=0:=Bh λk=>by have:=h1.2 (k+1) (by omega); rwa [Q3] at this
    simp only [ev,this,Zo]; grind
  have h3:=h1.1;refine ⟨Nz (1 / r1.getD 0 0) q3,λt=>?_⟩;rw [e2,e1,h2,U0];have:1 / r1.getD 0 0*r1.getD 0 0=1:=Zm h3;have:ev e t*r1.getD 0 0*(1 / r1.getD 0 0*ev q3 t)=ev e t*ev q3 t*(1 / r1.getD 0 0*r1.getD 0 0):=by grind
  rw [this,Zm h3]; grind
def E5:List (List Rat)->List Rat
 | []=>[1]
 | w::l=>Fh w (E5 l)
def Lay:List (List Rat)->List (List Rat)->Prop
 | [],[]=>True
 | [w],[f]=>∀ t,ev w t=ev f t
 | w::v::l,f::fs=>(∀ t,ev w t=ev f t*ev v t)/\Lay (v::l) fs
 | _,_=>False
def Qhf:List (List Rat)->List Rat
 | []=>[1]
 | [f]=>f
 | f::_::l=>Fh f (Qhf l)
theorem Q0i:∀ {ws fs:List (List Rat)},Lay ws fs->∃ S,∀ t,ev (E5 ws) t=ev (Qhf fs) t*(ev S t*ev S t)
 | [],[],_=>⟨[1],λt=>by simp only [E5,Qhf]; rw [Hg]; grind⟩
 | [w],[f],h=>⟨[1],λt=>by simp only [E5,Qhf]; rw [Ug,Hg,h t]; grind⟩
 |
  [w,v],[f,f2],h=>⟨v,λt=>by
  have h1:=h.1 t;have h2:ev v t=ev f2 t:=h.2 t;simp only [E5,Qhf,Ug]; rw [Hg,h1]; grind⟩
 |
  w::v::x::l,f::f2::fs,h=>by
  obtain ⟨S,hS⟩:=Q0i h.2.2;refine ⟨Fh v S,λt=>?_⟩;have h1:=h.1 t;have h2:=hS t;have e1:ev (E5 (w::v::x::l)) t=ev w t*(ev v t*ev (E5 (x::l)) t):=by simp only [E5,Ug]
  rw [e1,h2,h1];have e2:ev (Qhf (f::f2::fs)) t=ev f t*ev (Qhf fs) t:=by
   cases fs with
   | nil=>cases l <;> exact False.elim h.2.2
   | cons y l=>simp only [Qhf,Ug]
  rw [e2,Ug]; grind
 | [w],[],h=>h.elim
 | [w],_::_::_,h=>h.elim
 | [],_::_,h=>h.elim
 | [w,v],[f],h=>h.2.elim
 | [w,v],_::_::_::_,h=>h.2.elim
 | w::v::x::l,[f],h=>h.2.elim
 | w::v::l,[],h=>h.elim
end Orq
namespace Orq
open Orr Go
theorem Qxa (p:List Int) (t:Rat):Uf p t=((p.getD 0 0:Int):Rat)+t*Uf p.tail t:=by
 cases p with
 | nil=>show (0:Rat)=((0:Int):Rat)+t*0; grind
 | cons a p=>rfl
theorem Qfl (p:List Int) (k:Nat):p.tail.getD k 0=p.getD (k+1) 0:=by
 cases p <;> simp
theorem Mm (c d:Int) (t:Rat):∀ (n:Nat) (p q r:List Int),p.length<=n->q.length<=n->r.length<=n->(∀ k,r.getD k 0=c*p.getD k 0+d*q.getD k 0)->Uf r t=(c:Rat)*Uf p t+(d:Rat)*Uf q t
 |
  0,p,q,r,hp,hq,hr,_=>by
  rw [Qk (Nat.le_zero.1 hp),Qk (Nat.le_zero.1 hq),Qk (Nat.le_zero.1 hr)];show (0:Rat)=_*0+_*0;grind
 |
  n+1,p,q,r,hp,hq,hr,h=>by
  have ih:=Mm c d t n p.tail q.tail r.tail (by rw [Wm]; omega) (by rw [Wm]; omega) (by rw [Wm]; omega) λk=>by
   rw [Qfl,Qfl,Qfl]; exact h (k+1)
  rw [Qxa p,Qxa q,Qxa r,ih,h 0]
  push_cast
  grind
theorem Q09 {p q:List Int} (h:∀ k,p.getD k 0=q.getD k 0) (t:Rat):Uf p t=Uf q t:=by
 have:=Mm 1 0 t (max p.length q.length) q q p (Wo ..) (Wo ..) (Nat.le_max_left ..) λk=>by rw [h k]; omega
 rw [this]
 push_cast
 grind
theorem E8 (p:List Int) (t:Rat):Uf (trim p) t=Uf p t:=Q09 (Al p) t
theorem Pm {p:List Int} {k:Nat} (h:p.length<=k):p.getD k 0=0:=by
 rw [Qh,Qu h]; rfl
theorem Qnn (p q:List Int) (k:Nat):(D6 p q).getD k 0=p.getD k 0+q.getD k 0:=by
 unfold D6;rw [Si]
 split
 ·rfl
 ·rename_i h; rw [Pm (p:=p) (by omega),Pm (p:=q) (by omega)]; rfl
theorem Ad (p q:List Int) (k:Nat):(S9 p q).getD k 0=p.getD k 0-q.getD k 0:=by
 unfold S9;rw [Si]
 split
 ·rfl
 ·rename_i h; rw [Pm (p:=p) (by omega),Pm (p:=q) (by omega)]; rfl
theorem Tx (p:List Int) (c:Int) (k:Nat):(U3 p c).getD k 0=p.getD k 0*c:=by
 unfold U3;rw [Si]
 split
 ·rfl
 ·rename_i h; rw [Pm (p:=p) (by omega),Int.zero_mul]
theorem Q35 (p:List Int) (k:Nat):(Tg p).getD k 0=-(p.getD k 0):=by
 unfold Tg;rw [Si]
 split
 ·rfl
 ·rename_i h; rw [Pm (p:=p) (by omega)]; rfl
theorem P7 (p:List Int) (k:Nat):(U8 p).getD k 0=p.getD (k+1) 0*((k+1:Nat):Int):=by
 unfold U8;rw [Si]
 split
 ·rfl
 ·rename_i h; rw [Pm (p:=p) (by omega),Int.zero_mul]
theorem Q9s (p q:List Int) (t:Rat):Uf (D6 p q) t=Uf p t+Uf q t:=by
 have:=Mm 1 1 t (max (max p.length q.length) (D6 p q).length) p q (D6 p q) (by omega) (by omega) (by omega) λk=>by rw [Qnn]; omega
 rw [this]; push_cast; grind
theorem E7 (p q:List Int) (t:Rat):Uf (S9 p q) t=Uf p t-Uf q t:=by
 have:=Mm 1 (-1) t (max (max p.length q.length) (S9 p q).length) p q (S9 p q) (by omega) (by omega) (by omega) λk=>by rw [Ad]; omega
 rw [this]; push_cast; grind
theorem Qdy (p:List Int) (t:Rat):Uf (Tg p) t=-Uf p t:=by
 have:=Mm (-1) 0 t (max p.length (Tg p).length) p p (Tg p) (by omega) (by omega) (by omega) λk=>by rw [Q35]; omega
 rw [this]; push_cast; grind
theorem Tw (p:List Int) (c:Int) (t:Rat):Uf (U3 p c) t=Uf p t*(c:Rat):=by
 have:=Mm c 0 t (max p.length (U3 p c).length) p p (U3 p c) (by omega) (by omega) (by omega) λk=>by rw [Tx,Kr]; omega
 rw [this]; push_cast; grind
theorem Qp4:∀ (l:List Int) (j:Nat) (v:Int) (t:Rat),j<l.length->Uf (l.set j v) t=Uf l t+((v:Rat)-((l.getD j 0:Int):Rat))*t^j
 | [],_,_,_,h=>by simp at h
 |
  a::l,0,v,t,_=>by
  show (v:Rat)+t*Uf l t=(a:Rat)+t*Uf l t+((v:Rat)-(a:Rat))*t^0;rw [Xb]; grind
 |
  a::l,j+1,v,t,h=>by
  have ih:=Qp4 l j v t (by simpa using h);show (a:Rat)+t*Uf (l.set j v) t=(a:Rat)+t*Uf l t+((v:Rat)-((l.getD j 0:Int):Rat))*t^(j+1);rw [ih,Z4]; grind
theorem Qkr:∀ (l:List Int) (k:Nat) (t:Rat),k<l.length->Uf (l.take (k+1)) t=Uf (l.take k) t+((l.getD k 0:Int):Rat)*t^k
 | [],_,_,h=>by simp at h
 |
  a::l,0,t,_=>by
  show (a:Rat)+t*Uf (l.take 0) t=0+(a:Rat)*t^0;rw [Xb,Vj];show (a:Rat)+t*0=_;grind
 |
  a::l,k+1,t,h=>by
  have ih:=Qkr l k t (by simpa using h);show (a:Rat)+t*Uf (l.take (k+1)) t=(a:Rat)+t*Uf (l.take k) t+((l.getD k 0:Int):Rat)*t^(k+1);rw [ih,Z4]; grind
theorem Qnp (n:Nat) (t:Rat):Uf (List.replicate n 0) t=0:=by
 induction n with
 | zero=>rfl
 |
  succ n ih =>
  show ((0:Int):Rat)+t*Uf (List.replicate n 0) t=0;rw [ih]; push_cast; grind
theorem Quf (t:Rat) (i:Nat):∀ k,t^(i+k)=t^i*t^k
 | 0=>by rw [Xn,Xb]; grind
 | k+1=>by rw [<-Yf,Z4,Z4,Quf t i k]; grind
theorem Qtw (x:Int) (b:List Int) (i:Nat) (o:List Int) (t:Rat):∀ k,k<=b.length->i+k<=o.length->Uf (E3 x b i o k) t=Uf o t+(x:Rat)*t^i*Uf (b.take k) t
 |
  0,_,_=>by
  show Uf o t=Uf o t+(x:Rat)*t^i*0;grind
 |
  k+1,h1,h2=>by
  have ih:=Qtw x b i o t k (by omega) (by omega);simp only [E3];rw [Qp4 _ _ _ _ (by rw [E4]; omega),ih,Qkr b k t (by omega)];have hp:t^(i+k)=t^i*t^k:=Quf t i k;rw [hp]
  push_cast
  grind
theorem Qtv (a b o:List Int) (t:Rat):∀ i,i<=a.length->i+b.length<=o.length+1->Uf (By a b o i) t=Uf o t+Uf (a.take i) t*Uf b t
 |
  0,_,_=>by
  show Uf o t=Uf o t+0*Uf b t;grind
 |
  i+1,h1,h2=>by
  have ih:=Qtv a b o t i (by omega) (by omega);simp only [By];rw [Qtw _ _ _ _ _ b.length (Qn _) (by rw [Bm]; omega),ih,Qkr a i t (by omega),Q4];grind
theorem Uy (a b:List Int) (t:Rat):Uf (Uo a b) t=Uf a t*Uf b t:=by
 unfold Uo
 split
 ·rename_i h;rcases h with h | h
  ·rw [Qk h]; show (0:Rat)=0*_; grind
  ·rw [Qk h]; show (0:Rat)=_*0; grind
 ·rename_i h;rw [E8,Qtv a b _ t a.length (Qn _) (by rw [X8]; omega),Qnp,Q4];grind
theorem Gv (z d:Int):(z:Rat) / (d:Rat)=Rat.divInt z d:=by
 by_cases h:d=0
 ·subst h; simp; grind
 ·rw [J7]; exact (Rat.divInt_eq_div z d ▸ by rw [J7])
theorem Q16 (a:List Int) (n d:Int) (hd:(d:Rat)≠0):∀ k,k<=a.length->(((Sr a n d k).2:Int):Rat)=(d:Rat)^k/\(((Sr a n d k).1:Int):Rat)*d=(d:Rat)^k*Uf (a.drop (a.length-k)) ((n:Rat) / d)
 |
  0,_=>by
  refine ⟨by rw [Xb]; rfl,?_⟩;rw [Ky,Vn];show ((0:Int):Rat)*d=(d:Rat)^0*0
  push_cast; grind
 |
  k+1,hk=>by
  obtain ⟨h1,h2⟩:=Q16 a n d hd k (by omega);have hi:a.length-1-k<a.length:=by omega
  have e1:a.drop (a.length-(k+1))=a.getD (a.length-1-k) 0::a.drop (a.length-k):=by
   rw [show a.length-(k+1)=a.length-1-k by omega,Zj hi,show a.length-1-k+1=a.length-k by omega];congr 1;rw [Qh,Qe hi]; rfl
  refine ⟨?_,?_⟩
  ·show (((Sr a n d k).2*d:Int):Rat)=_;rw [Xq,h1,Z4]
  ·rw [e1];show (((Sr a n d k).1*n+a.getD (a.length-1-k) 0*(Sr a n d k).2:Int):Rat)*d=_*(((a.getD (a.length-1-k) 0:Int):Rat)+(n:Rat) / d*Uf (a.drop (a.length-k)) ((n:Rat) / d));rw [V1,Xq,Xq,h1,Z4];have h3:(n:Rat) / d*d=n:=by rw [Zm hd]
   have h4:(d:Rat)^k*d*((n:Rat) / d*Uf (a.drop (a.length-k)) ((n:Rat) / d))=((n:Rat) / d*d)*((d:Rat)^k*Uf (a.drop (a.length-k)) ((n:Rat) / d)):=by grind
   have h5:(d:Rat)^k*d*(((a.getD (a.length-1-k) 0:Int):Rat)+(n:Rat) / d*Uf (a.drop (a.length-k)) ((n:Rat) / d))=(d:Rat)^k*d*((a.getD (a.length-1-k) 0:Int):Rat)+(d:Rat)^k*d*((n:Rat) / d*Uf (a.drop (a.length-k)) ((n:Rat) / d)):=by grind
   rw [h5,h4,h3,<-h2];grind
theorem Q1e {d:Rat} (h:0<d):∀ k:Nat,0<d^k
 | 0=>by rw [Xb]; decide
 | k+1=>by rw [Z4]; exact W5 (Q1e h k) h
theorem Qec {x y:Rat} (h:0<y):Un (y*x)=Un x:=by
 unfold Un;have h1:y*x<0↔x<0:=by
  constructor
  ·intro h2;rcases Vl (a:=0) (b:=x) with h3 | h3
   ·have:=Rat.mul_nonneg (Qr h) h3; grind
   ·rcases Rat.le_iff_lt_or_eq.1 h3 with h4 | h4
    ·exact h4
    ·rw [h4] at h2; grind
  ·intro h2;have:=W5 h (show 0 < -x by grind);grind
 have h2:0<y*x↔0<x:=by
  constructor
  ·intro h2;rcases Vl (a:=x) (b:=0) with h3 | h3
   ·have:=Rat.mul_nonneg (Qr h) (show 0<=-x by grind); grind
   ·rcases Rat.le_iff_lt_or_eq.1 h3 with h4 | h4
    ·exact h4
    ·rw [<-h4] at h2; grind
  ·intro h2; exact W5 h h2
 simp only [h1,h2]
theorem Q7g (z:Int):Me z 0=Un (z:Rat):=by
 unfold Me Un;have h1:((z:Int):Rat)<0↔z<0:=by
  have := @Rat.intCast_lt_intCast z 0; simpa using this
 have h2:0<((z:Int):Rat)↔0<z:=by
  have := @Rat.intCast_lt_intCast 0 z; simpa using this
 simp only [h1,h2]
theorem S8 (p:List Int) (q:Rat):Ft p q=Un (Uf p q):=by
 have hd0:(0:Rat)<((q.den:Int):Rat):=by
  have := @Rat.intCast_lt_intCast 0 (q.den:Int);rw [show ((0:Int):Rat)=0 from rfl] at this;exact this.2 (den_pos q)
 have hd:((q.den:Int):Rat)≠0:=by intro h; rw [h] at hd0; exact absurd hd0 (by decide)
 obtain ⟨_,h⟩:=Q16 p q.num q.den hd p.length (Qn _);rw [Ys,Xj,Gv,Z1] at h;unfold Ft;rw [Q7g,<-Qec hd0,Ws];show Un ((((Sr p q.num q.den p.length).1:Int):Rat)*_)=_;rw [h,Qec (Q1e hd0 _)]
def cz (p:List Int):List Rat:=p.map λz:Int=>(z:Rat)
theorem Uc (t:Rat):∀ p,ev (cz p) t=Uf p t
 | []=>rfl
 | a::p=>by have:=Uc t p; simp only [cz,Zv,ev,Uf] at *; rw [this]
theorem Sj:∀ (p:List Int) (k:Nat),(cz p).getD k 0=((p.getD k 0:Int):Rat)
 | [],k=>by simp [cz]
 | a::p,0=>by simp [cz]
 | a::p,k+1=>by have:=Sj p k; simp only [cz,Zv,Q3] at *; exact this
theorem Bn {p q:List Int} (h:∀ t,Uf p t=Uf q t) (k:Nat):p.getD k 0=q.getD k 0:=by
 have:=Nu (p:=cz p) (q:=cz q) (λt=>by rw [Uc,Uc,h]) k;rw [Sj,Sj] at this
 exact_mod_cast this
theorem Zgi {p q:List Int} (hp:Ud p) (hq:Ud q) (h:∀ k,p.getD k 0=q.getD k 0):p=q:=by
 have key:∀ {p q:List Int},Ud p->Ud q->(∀ k,p.getD k 0=q.getD k 0)->p.length<=q.length:=λ{p q} hp hq h=>by
  rcases Q9 q.length p.length with e | e
  ·have:=Gp hp (by omega);rw [h,Qh,Qu (by omega)] at this;exact absurd rfl this
  ·exact e
 exact Qjo (Kx (key hp hq h) (key hq hp λk=>(h k).symm)) λj _=>h j
theorem Q1a {p q:List Int} (hp:Ud p) (hq:Ud q) (h:∀ t,Uf p t=Uf q t):p=q:=Zgi hp hq (Bn h)
theorem Zfd {p:List Int} (hp:Ud p) (h:∀ t,Uf p t=0):p=[]:=Q1a hp rfl λt=>by rw [h]; rfl
theorem Nw {p:List Int} (h:p.length=0) (t:Rat):Uf p t=0:=by rw [Qk h]; rfl
theorem Q08:∀ (p r:List Int) (t:Rat),(∀ k,r.getD k 0=p.getD (k+1) 0*((k+1:Nat):Int))->Uf r t=dv (cz p) t
 |
  [],r,t,h=>by
  rw [Q09 (q:=[]) (λk=>by rw [h]; simp) t]; rfl
 |
  a::p,r,t,h=>by
  have ih:=Q08 p (U8 p) t λk=>P7 p k
  have e:Uf r t=Uf p t+t*Uf (U8 p) t:=by
   have:=Mm 1 1 t (max (max p.length (0::U8 p).length) r.length) p (0::U8 p) r (by omega) (by omega) (by omega) λk=>by
    rw [h,Q3];cases k with
    | zero=>simp
    | succ k=>rw [Q3,P7]; push_cast; grind
   rw [this]; simp only [Uf]; push_cast; grind
  rw [e,ih];show _=ev (cz p) t+t*dv (cz p) t;rw [Uc]
theorem E6 (p:List Int) (t:Rat):Uf (U8 p) t=dv (cz p) t:=Q08 p _ t λk=>P7 p k
theorem Qgt {p:List Int} (hp:Ud p) (h:0<p.length):HD (cz p) (p.length-1):=by
 refine ⟨?_,λk hk=>?_⟩
 ·rw [Sj];have:=Gp hp h;exact λe=>this (by exact_mod_cast e)
 ·rw [Sj,Qh,Qu (by omega)]; rfl
theorem Qgm {p:List Int} (hp:Ud p) (h:0<p.length):¬∀ t,Uf p t=0:=λh0=>by
 rw [Zfd hp h0] at h; exact absurd h (by simp)
theorem Sl {a b c:List Int} (ha:Ud a) (hb:Ud b) (hc:Ud c) (h:∀ t,Uf c t=Uf a t*Uf b t) (la:0<a.length) (lb:0<b.length):c.length=a.length+b.length-1:=by
 have h1:=Qj6 (Qgt ha la) (Qgt hb lb);have h2:HD (cz c) (a.length-1+(b.length-1)):=Zhm (λt=>by rw [Ug,Uc,Uc,Uc,h]) h1;have lc:0<c.length:=by
  rcases Qy c.length with e | e
  ·exact absurd (λt=>by rw [Uc]; exact Nw e t) (Qz9 h2)
  ·exact e
 have:=Zhn (Qgt hc lc) h2;omega
theorem Qt2:∀ (n m:Nat),m<=n->2<=m->∃ P,2<=P/\P∣m/\∀ d,2<=d->d∣P->d=P
 | 0,m,h,h2=>by omega
 |
  n+1,m,h,h2=>by
  rcases Classical.em (∃ d,2<=d/\d<m/\d∣m) with ⟨d,d1,d2,d3⟩ | h0
  ·obtain ⟨P,p1,p2,p3⟩:=Qt2 n d (by omega) d1;exact ⟨P,p1,Nat.dvd_trans p2 d3,p3⟩
  ·refine ⟨m,h2,Nat.dvd_refl m,λd d1 d2=>?_⟩;rcases Y9 (Vv (by omega) d2) with e | e
   ·exact absurd ⟨d,d1,e,d2⟩ h0
   ·exact e
theorem Qpc {P:Nat} (h2:2<=P) (hP:∀ d,2<=d->d∣P->d=P) {x y:Int} (h:(P:Int)∣x*y):(P:Int)∣x\/(P:Int)∣y:=by
 have h:=Xp.2 h;rw [Jm,Z7] at h;have hg:=Kf P x.natAbs;rcases Q9 (Nat.gcd P x.natAbs) 2 with e | e
 ·right;have h1:Nat.gcd P x.natAbs=1:=by
   have:=Nat.gcd_pos_of_pos_left x.natAbs (show 0<P by omega); omega
  have:=Nat.Coprime.dvd_of_dvd_mul_left h1 h;exact Xp.1 (by rwa [Z7])
 ·left;have:=hP _ e hg;have h3:=Wh P x.natAbs;rw [this] at h3;exact Xp.1 (by rwa [Z7])
def Qu4 (P:Int) (l:List Int):Prop:=∀ k,P∣l.getD k 0
theorem Qew {P:Nat} (h2:2<=P) (hP:∀ d,2<=d->d∣P->d=P):∀ (n:Nat) (b h c:List Int),b.length+h.length<=n->(∀ t,Uf c t=Uf b t*Uf h t)->Qu4 P c->Qu4 P b\/Qu4 P h
 | _,[],h,c,_,_,_=>.inl λk=>by simp
 | _,x::b,[],c,_,_,_=>.inr λk=>by simp
 | 0,x::b,y::h,c,hn,_,_=>by simp at hn
 |
  n+1,x::b,y::h,c,hn,hc,hd=>by
  simp only [Q7] at hn;by_cases hx:(P:Int)∣x
  ·-- x h is taken away
   have e:∀ t,Uf (0::Uo b (y::h)) t=Uf (S9 c (U3 (y::h) x)) t:=λt=>by
    rw [E7,Tw,hc]; simp only [Uf]; rw [Uy]; simp only [Uf]; push_cast; grind
   have hd':Qu4 P (Uo b (y::h)):=λk=>by
    have:=Bn e (k+1);rw [Q3,Ad,Tx] at this;rw [this];exact Int.dvd_sub (hd (k+1)) (Vq hx (Ke _ _))
   rcases Qew h2 hP n b (y::h) _ (by simp only [Q7]; omega) (λt=>Uy _ _ t) hd' with h1 | h1
   ·refine .inl λk=>?_
    cases k with
    | zero=>rw [Zo]; exact hx
    | succ k=>rw [Q3]; exact h1 k
   ·exact .inr h1
  ·have h0:(P:Int)∣y:=by
    have e:c.getD 0 0=x*y:=by
     have:=Bn (p:=c) (q:=Uo (x::b) (y::h)) (λt=>by rw [hc,Uy]) 0;have e2:=Bn (p:=Uo (x::b) (y::h)) (q:=D6 (U3 (y::h) x) (0::Uo b (y::h))) (λt=>by
      rw [Q9s,Tw,Uy]; simp only [Uf]; rw [Uy]; simp only [Uf]; push_cast; grind) 0
     rw [this,e2,Qnn,Tx,Zo,Zo,Kr]; omega
    have:=hd 0;rw [e] at this;rcases Qpc h2 hP this with h1 | h1
    ·exact absurd h1 hx
    ·exact h1
   have e:∀ t,Uf (0::Uo (x::b) h) t=Uf (S9 c (U3 (x::b) y)) t:=λt=>by
    rw [E7,Tw,hc]; simp only [Uf]; rw [Uy]; simp only [Uf]; push_cast; grind
   have hd':Qu4 P (Uo (x::b) h):=λk=>by
    have:=Bn e (k+1);rw [Q3,Ad,Tx] at this;rw [this];exact Int.dvd_sub (hd (k+1)) (Vq h0 (Ke _ _))
   rcases Qew h2 hP n (x::b) h _ (by simp only [Q7]; omega) (λt=>Uy _ _ t) hd' with h1 | h1
   ·exact absurd (by have:=h1 0; rwa [Zo] at this) hx
   ·refine .inr λk=>?_
    cases k with
    | zero=>rw [Zo]; exact h0
    | succ k=>rw [Q3]; exact h1 k
def Prm (b:List Int):Prop:=∀ d:Int,Qu4 d b->d∣1
theorem Q8b {a b:List Int} (hb:Prm b):∀ (n:Nat) (c:Int) (h:List Int),c.natAbs<=n->c≠0->(∀ t,(c:Rat)*Uf a t=Uf b t*Uf h t)->∃ h',∀ t,Uf a t=Uf b t*Uf h' t
 | 0,c,h,hn,h0,_=>absurd (by omega) h0
 |
  n+1,c,h,hn,h0,hc=>by
  rcases Q9 c.natAbs 2 with h1 | h1
  ·refine ⟨U3 h c,λt=>?_⟩;have hcc:(c:Rat)*c=1:=by
    have:c*c=1:=by
     rcases (show c=1\/c=-1 by omega) with rfl | rfl <;> rfl
    have:=congrArg (λz:Int=>(z:Rat)) this
    push_cast at this; exact this
   rw [Tw];have:=hc t;have:Uf a t=(c:Rat)*((c:Rat)*Uf a t):=by
    have:(c:Rat)*((c:Rat)*Uf a t)=((c:Rat)*c)*Uf a t:=by grind
    rw [this,hcc]; grind
   rw [this,hc]; grind
  ·obtain ⟨P,p1,p2,p3⟩:=Qt2 c.natAbs c.natAbs (Qn _) h1;obtain ⟨d,hd⟩:∃ d,c=(P:Int)*d:=Wa.2 p2;have hall:Qu4 P (U3 a c):=λk=>by
    rw [Tx,hd]; exact Vq (Int.dvd_mul_right _ _) (Ke _ _)
   have hP0:(P:Rat)≠0:=by
    have:((0:Nat):Rat)<(P:Rat):=Vg.2 (by omega);grind
   rcases Qew p1 p3 _ b h (U3 a c) (Qn _) (λt=>by rw [Tw,Ws,hc]) hall with e | e
   ·have:=hb P e;have:=Xp.2 this;rw [Z7] at this;have:=Vv (by decide) this;exact absurd this (by show ¬P<=1; omega)
   ·refine Q8b hb n d (h.map (· / (P:Int))) ?_ (λe0=>h0 (by rw [hd,e0,V3])) λt=>?_
    ·rw [hd,Jm,Z7] at hn h1;have:2*d.natAbs<=P*d.natAbs:=Q0 _ p1;omega
    ·have e1:Uf h t=(P:Rat)*Uf (h.map (· / (P:Int))) t:=by
      have:=Mm P 0 t (max h.length (h.map (· / (P:Int))).length) (h.map (· / (P:Int))) [] h (by omega) (by simp) (by omega) λk=>by
       have:=e k;have e2:(h.map (· / (P:Int))).getD k 0=h.getD k 0 / (P:Int):=by
        rw [Qh,Qh,Q8];cases h[k]? <;> simp
       rw [e2,Ks this]; simp
      rw [this]; simp only [Uf]; push_cast; grind
     have:=hc t;rw [hd,e1] at this
     push_cast at this
     have h3:(P:Rat)*((d:Rat)*Uf a t)=(P:Rat)*(Uf b t*Uf (h.map (· / (P:Int))) t):=by grind
     have h4:=Yt.1 (show (P:Rat)*((d:Rat)*Uf a t-Uf b t*Uf (h.map (· / (P:Int))) t)=0 by grind);rcases h4 with h4 | h4
     ·exact absurd h4 hP0
     ·grind
theorem Qmg:∀ u:List Rat,∃ c:Int,c≠0/\∃ h:List Int,∀ t,(c:Rat)*ev u t=Uf h t
 | []=>⟨1,by decide,[],λt=>by simp only [ev,Uf]; grind⟩
 |
  a::u=>by
  obtain ⟨c,hc,h,hh⟩:=Qmg u;refine ⟨c*(a.den:Int),X9 hc (by have:=a.den_nz; omega),(c*a.num)::U3 h (a.den:Int),λt=>?_⟩;have e:(a.den:Rat)*a=a.num:=by
   rw [Ws];have:(a.num:Rat) / (((a.den:Int)):Rat)=a:=by rw [Gv,Z1]
   have hd:(a.den:Rat)≠0:=by
    have:((0:Nat):Rat)<(a.den:Rat):=Vg.2 a.den_pos;grind
   have h2:(a.num:Rat) / (a.den:Rat)*(a.den:Rat)=a.num:=Zm hd;rw [show (a.num:Rat) / (a.den:Rat)=a from this] at h2; exact h2
  simp only [ev,Uf];rw [Tw,<-hh]
  push_cast
  rw [<-e];have e3:(((a.den:Int)):Rat)=(a.den:Rat):=rfl;grind
theorem Q8a {a b:List Int} (hb:Prm b) (h:Is (cz b) (cz a)):∃ h',Ud h'/\∀ t,Uf a t=Uf b t*Uf h' t:=by
 obtain ⟨u,hu⟩:=h;obtain ⟨c,hc,h,hh⟩:=Qmg u;obtain ⟨h',e⟩:=Q8b hb c.natAbs c h (Qn _) hc λt=>by
  have:=hu t;rw [Uc,Uc] at this;rw [this,<-hh]; grind
 exact ⟨trim h',G6 _,λt=>by rw [E8,e]⟩
def sd (x0:Rat):List Rat->List Rat
 | []=>[]
 | _::p=>Rf p (Nz x0 (sd x0 p))
theorem Q71 (x0 x:Rat):∀ p,ev (sd x0 p) x=dq p x x0
 | []=>rfl
 | a::p=>by simp only [sd,dq]; rw [Fc,U0,Q71 x0 x p]
theorem Qxx (x0:Rat):∀ (g:List Rat) (n:Nat),(∀ j,n<j->g.getD j 0=0)->∀ j,n<=j->(sd x0 g).getD j 0=0
 | [],n,_,j,_=>by simp [sd]
 |
  a::p,0,h,j,_=>by
  have hp:∀ j,p.getD j 0=0:=λj=>by have:=h (j+1) (by omega); rwa [Q3] at this
  simp only [sd];rw [G5,Ra,hp,Qxx x0 p 0 (λj _=>hp j) j (Qg _)]; grind
 |
  a::p,n+1,h,j,hj=>by
  have hp:∀ j,n<j->p.getD j 0=0:=λj hj=>by have:=h (j+1) (by omega); rwa [Q3] at this
  simp only [sd];rw [G5,Ra,hp j (by omega),Qxx x0 p n hp j (by omega)]; grind
theorem Qwr {K:Rat} (hK:0≤K):∀ (e:Nat) (g:List Rat) (pts:List Int) (M:Rat),pts.length=e+1->pts.Nodup->(∀ x∈pts,Uj (x:Rat)≤K)->(∀ k,e<k->g.getD k 0=0)->(∀ x∈pts,Uj (ev g (x:Rat))≤M)->∀ k,Uj (g.getD k 0)≤(2*K+3)^e*M
 | _,_,[],_,h,_,_,_,_=>by simp at h
 |
  0,g,x0::xs,M,_,_,_,hg,hM=>λk=>by
  have h0:=hM x0 (by simp);rw [Xb];cases k with
  |
   zero =>
   have e:ev g (x0:Rat)=g.getD 0 0:=by
    cases g with
    | nil=>rfl
    |
     cons a p =>
     have hp:=Bh (p:=p) λj=>by have:=hg (j+1) (by omega); rwa [Q3] at this
     simp only [ev,hp,Zo]; grind
   rw [<-e]; grind
  |
   succ k =>
   rw [hg (k+1) (by omega),Gz];have:=Gl (ev g (x0:Rat)); grind
 |
  e+1,g,x0::xs,M,hl,hn,hb,hg,hM=>λk=>by
  have hx0:=hb x0 (by simp);have hM0:=hM x0 (by simp);have hMn:0<=M:=Zg (Gl _) hM0;rw [List.nodup_cons] at hn;have ih:=Qwr hK e (sd x0 g) xs (2*M) (by simpa using hl) hn.2 (λx hx=>hb x (by simp [hx])) (λj hj=>Qxx _ g (e+1) hg j (by omega)) λx hx=>by
   have h1:=hM x (by simp [hx]);have h2:=Qmq (x:Rat) (x0:Rat) g;rw [<-Q71] at h2;have hne:x-x0≠0:=λh=>hn.1 (by rw [show x0=x by omega]; exact hx)
   have h3:=Qcg hne;rw [Rat.intCast_sub] at h3;have h4:Uj (ev g (x:Rat)-ev g (x0:Rat))<=2*M:=by
    have:=Re (ev g (x:Rat)) (-ev g (x0:Rat));rw [Ck,show ev g (x:Rat)+-ev g (x0:Rat)=ev g (x:Rat)-ev g (x0:Rat) by grind] at this;clear hM hb hg; grind
   rw [h2,Ls] at h4;have h5:=Zb h3 (Gl (ev (sd x0 g) x));clear hM hb hg; grind
  have e1:∀ t,ev g t=ev (Rf [ev g x0] (Rf (Nz (-x0) (sd x0 g)) (0::sd x0 g))) t:=λt=>by
   have:=Qmq t (x0:Rat) g;rw [<-Q71] at this;simp only [Fc,U0,ev];grind
  have hp1:1<=(2*K+3)^e:=(Qa0 (R:=2*K+3) (x:=0) (by grind) (by rw [Gz]; grind) e).2;have hpM:=Po (x:=(2*K+3)^e) (y:=M) (by grind) hMn;have hpM1:=Zb hp1 hMn;rw [Z4,Nu e1 k,G5,G5,Ra];have a1:=ih k;have a2:Uj (-(x0:Rat)*(sd (x0:Rat) g).getD k 0)<=K*((2*K+3)^e*(2*M)):=Fo (by rw [Ck]; exact hx0) a1;have fin:∀ u v w:Rat,Uj u<=M->Uj v<=K*((2*K+3)^e*(2*M))->Uj w<=(2*K+3)^e*(2*M)->Uj (u+(v+w))<=(2*K+3)^e*(2*K+3)*M:=λu v w h1 h2 h3=>by
   have b1:=Re u (v+w);have b2:=Re v w;clear ih e1 hM hb hg a1 a2; grind
  refine fin _ _ _ ?_ a2 ?_
  ·cases k with
   | zero=>rw [Zo]; exact hM0
   | succ k=>rw [Q3,Kd,Gz]; exact hMn
  ·cases k with
   | zero=>rw [Zo,Gz]; clear ih e1 hM hb hg a1 a2 fin; grind
   | succ k=>rw [Q3]; exact ih k
theorem Zam {g:List Rat} {e:Nat} (hg:∀ k,e<k->g.getD k 0=0) (hz:¬∀ t,ev g t=0) {pts:List Int} (hn:pts.Nodup) (hr:∀ x∈pts,ev g (x:Rat)=0):pts.length≤e:=by
 rcases Q9 e pts.length with h | h
 ·exfalso;obtain ⟨K,hK,hb⟩:∃ K:Rat,0≤K/\∀ x∈pts,Uj (x:Rat)≤K:=by
   clear hn hr h
   induction pts with
   | nil=>exact ⟨0,by decide,λx hx=>by cases hx⟩
   |
    cons y pts ih =>
    obtain ⟨K,h1,h2⟩:=ih;refine ⟨K+Uj (y:Rat),by have:=Gl (y:Rat); grind,λx hx=>?_⟩;have hy:=Gl (y:Rat);rcases Qo.1 hx with rfl | hx
    ·grind
    ·have:=h2 x hx; grind
  refine hz (Bh λk=>?_);have:=Qwr hK e g (pts.take (e+1)) 0 (by rw [Qp]; omega) (hn.sublist (Wg ..)) (λx hx=>hb x (Ql hx)) hg (λx hx=>by rw [hr x (Ql hx),Gz]; exact Qq) k;have h2:=Gl (g.getD k 0);exact Zfn (by grind)
 ·exact h
def spots:List Int:=(List.range 19).map λi:Nat=>(i:Int)-9
theorem spots_nd:spots.Nodup:=by decide
theorem Qui:∀ x∈spots,x.natAbs≤9:=by decide
theorem Qjr {α:Type} (p:α->Bool):∀ l:List α,(l.filter p).length+(l.filter λx => !p x).length=l.length
 | []=>rfl
 |
  x::l=>by
  have:=Qjr p l;cases h:p x <;> simp [h] <;> omega
def geo:Nat->Nat
 | 0=>0
 | n+1=>1+9*geo n
theorem Qz1 {B:Rat}:∀ (p:List Int),(∀ z∈p,Uj (z:Rat)≤B)->evB 9 (cz p)≤B*(geo p.length:Nat)
 | [],_=>by simp only [cz,X2,evB,geo,X1]; rw [show ((0:Nat):Rat)=0 from rfl]; grind
 |
  a::p,h=>by
  have h1:=Qz1 p λz hz=>h z (Qi _ hz)
  have h2:=h a (Qt ..);simp only [cz,Zv,evB,geo,Q7] at *
  push_cast
  clear h; grind
theorem Q8j {m n:Nat} (h:m<=n):geo m<=geo n:=by
 induction h with
 | refl=>exact Qn _
 | step h ih=>simp only [geo]; omega
def pz:List Int->Int->Int
 | [],_=>0
 | a::p,x=>a+x*pz p x
theorem Qcj (x:Int):∀ p,Uf p (x:Rat)=((pz p x:Int):Rat)
 | []=>rfl
 | a::p=>by simp only [Uf,pz,Qcj x p]; push_cast; rfl
theorem Ri (z:Int):Uj (z:Rat)=((z.natAbs:Nat):Rat):=by
 unfold Uj;rcases Kq z 0 with h | h
 ·have h1:(z:Rat)<((0:Int):Rat):=Jh.2 h;rw [if_pos (by simpa using h1)];have:(z.natAbs:Int)=-z:=by omega
  have:=congrArg (λu:Int=>(u:Rat)) this
  push_cast at this
  exact this.symm
 ·have h1:((0:Int):Rat)<=(z:Rat):=X6.2 h;have h1:(0:Rat)<=(z:Rat):=by simpa using h1
  rw [if_neg (by grind)];have:(z.natAbs:Int)=z:=by omega
  have:=congrArg (λu:Int=>(u:Rat)) this;exact this.symm
theorem I7 {p g h:List Int} {s:Nat} (hp:Bd s p) (hl:p.length<=10) (tp:Ud p) (tg:Ud g) (th:Ud h) (h0:p.length≠0) (e:∀ t,Uf p t=Uf g t*Uf h t):Bd (s+69) g:=by
 have lg:0<g.length:=by
  rcases Qy g.length with e' | e'
  ·exact absurd (λt=>by rw [e,Nw e']; grind) (Qgm tp (by omega))
  ·exact e'
 have lh:0<h.length:=by
  rcases Qy h.length with e' | e'
  ·exact absurd (λt=>by rw [e,Nw e']; grind) (Qgm tp (by omega))
  ·exact e'
 have hlen:=Sl tg th tp e lg lh;obtain ⟨q,hq⟩:=nmE (spots.filter λx => !decide (pz p x=0));have hr:(spots.filter λx=>decide (pz p x=0)).length<=9:=by
  refine Zam (g:=cz p) (e:=9) (λk hk=>?_) (λh=>Qgm tp (by omega) λt=>by rw [<-Uc]; exact h t) (spots_nd.sublist List.filter_sublist) λx hx=>?_
  ·rw [Sj,Qh,Qu (by omega)]; rfl
  ·have:=(Wv.1 hx).2;rw [Uc,Qcj,of_decide_eq_true this]; rfl
 have hc:=Qjr (λx=>decide (pz p x=0)) spots;rw [<-hq] at hc;have hsl:spots.length=19:=by decide
 have hB:∀ z∈p,Uj (z:Rat)≤((2^s:Nat):Rat):=λz hz=>by
  rw [Ri];have:=hp z hz;rw [Rl] at this;exact Zh.2 (Yc this)
 have key:=Qwr (K:=9) (by decide) 9 (cz g) (q.take 10) (((2^s*435848050:Nat)):Rat) (by rw [Qp]; omega) ((spots_nd.sublist (by rw [hq]; exact List.filter_sublist)).sublist (Wg ..)) (λx hx=>by
  have hx:=Ql hx;rw [hq] at hx;have:=Qui x (Wv.1 hx).1;rw [Ri]
  exact_mod_cast Zh.2 this) (λk hk=>by rw [Sj,Qh,Qu (by omega)]; rfl) (λx hx=>by
  have hx:=Ql hx;rw [hq] at hx;obtain ⟨hx1,hx2⟩:=Wv.1 hx;have hne:pz p x≠0:=by simpa using hx2
  have e1:=e (x:Rat);rw [Qcj,Qcj,Qcj] at e1;have e2:pz p x=pz g x*pz h x:=by exact_mod_cast e1
  have hh:1<=(pz h x).natAbs:=by
   rcases Qy (pz h x).natAbs with e' | e'
   ·exact absurd (by rw [e2,Int.natAbs_eq_zero.1 e',V3]) hne
   ·exact e'
  have h3:(pz g x).natAbs<=(pz p x).natAbs:=by
   rw [e2,Jm];exact Js _ hh
  rw [Uc,Qcj,Ri];refine Zg (Zh.2 h3) ?_;rw [<-Ri,<-Qcj,<-Uc];refine Zg (Qgo (R:=9) (by
   have:=Qui x hx1;rw [Ri]
   exact_mod_cast Zh.2 this) _) ?_
  refine Zg (Qz1 p hB) ?_;have:2^s*geo p.length<=2^s*435848050:=Zp _ (Qd (Q8j hl) (by decide));have:=Zh.2 this
  push_cast at this ⊢
  exact this)
 refine Qiq λk=>?_
 have h1:=key k;rw [Sj,Ri] at h1;have e3:(2*(9:Rat)+3)^9*((2^s*435848050:Nat):Rat)=(((794280046581*(2^s*435848050)):Nat):Rat):=by
  rw [show (2*(9:Rat)+3)^9=794280046581 by grind]
  push_cast; rfl
 rw [e3] at h1;have h2:=Zh.1 h1;rw [Rl];refine Zt h2 ?_;have:794280046581*(2^s*435848050)=2^s*(794280046581*435848050):=by
  rw [V8]
 rw [this,Xa];exact Nat.mul_lt_mul_of_pos_left (by decide) (Zz (by decide))
theorem Q7v {l:List Int} {d:Int} (h:∀ z∈l,d∣z):d∣((Gh l:Nat):Int):=by
 have key:∀ (l:List Int) (g:Nat),d.natAbs∣g->(∀ z∈l,d∣z)->d.natAbs∣l.foldl (λg z=>Nat.gcd g z.natAbs) g:=by
  intro l
  induction l with
  | nil=>exact λg h _=>h
  | cons z l ih=>exact λg hg h=>ih _ (Nat.dvd_gcd hg (Xp.2 (h z (Qt ..)))) λu hu=>h u (Qi _ hu)
 have:=key l 0 (Nat.dvd_zero _) h;exact Xp.1 (by rw [Z7]; exact this)
theorem Qdg (p:List Int) (c:Int) (k:Nat):(p.map (· / c)).getD k 0=p.getD k 0 / c:=by
 rw [Qh,Qh,Q8];cases p[k]? <;> simp
theorem Qck (p:List Int) (c:Int) (k:Nat):(Nb p c).getD k 0=p.getD k 0 / c:=by
 unfold Nb; rw [Al,Qdg]
theorem Qno {p:List Int} {c:Int} (h:∀ z∈p,c∣z) (t:Rat):Uf p t=(c:Rat)*Uf (Nb p c) t:=by
 have:=Mm c 0 t (max p.length (Nb p c).length) (Nb p c) [] p (by omega) (by simp) (by omega) λk=>by
  rw [Qck];have hd:c∣p.getD k 0:=by
   rw [Qh];cases e:p[k]? with
   | none=>exact Int.dvd_zero _
   | some z=>exact h z (Qa e)
  rw [Ks hd]; simp
 rw [this]; simp only [Uf]; push_cast; grind
theorem Ob {c:Int} (h:c≠0):(c:Rat)≠0:=λe=>h (by exact_mod_cast e)
theorem Ib {p q:List Int} {c:Rat} (tp:Ud p) (tq:Ud q) (hc:c≠0) (h:∀ t,Uf p t=c*Uf q t):p.length=q.length:=by
 have key:∀ {p q:List Int} {c:Rat},Ud p->Ud q->c≠0->(∀ t,Uf p t=c*Uf q t)->p.length<=q.length:=λ{p q c} tp tq hc h=>by
  rcases Q9 q.length p.length with e | e
  ·have h1:=Gp tp (by omega);have:=Nu (p:=cz p) (q:=Nz c (cz q)) (λt=>by rw [Uc,U0,Uc,h]) (p.length-1);rw [Sj,Ra,Sj,Qh (l:=q),Qu (by omega)] at this;have:((p.getD (p.length-1) 0:Int):Rat)=0:=by rw [this]; simp
   exact absurd (by exact_mod_cast this) h1
  ·exact e
 refine Kx (key tp tq hc h) (key (c:=1 / c) tq tp (λe=>?_) λt=>?_)
 ·have:=Zm (a:=1) hc; rw [e] at this; grind
 ·rw [h]; have:=Zm (a:=1) hc; grind
theorem Mp {p:List Int} (tp:Ud p) (h:p.length≠0):Ud (Ui p)/\(Ui p).length=p.length/\Prm (Ui p)/\0<Um (Ui p)/\(∀ s,Bd s p->Bd s (Ui p))/\Ga p≠0/\∀ t,Uf p t=(Ga p:Rat)*Uf (Ui p) t:=by
 have h0:=Q1b tp h;have e:Ui p=Nb p (Ga p):=by unfold Ui; rw [if_neg h]
 have h1:=Qno (p:=p) (c:=Ga p) Qdz;have hl:=Ib tp (Ig p (Ga p)) (Ob h0) h1;have hcp:0<Rq p:=by
  have:=Oy tp h;unfold Rq at this ⊢; omega
 rw [e];refine ⟨Ig _ _,hl.symm,λd hd=>?_,?_,λs hs=>Qir hs _,h0,h1⟩
 ·have h2:∀ z∈p,d*Ga p∣z:=λz hz=>by
   obtain ⟨i,hi⟩:=Zf.1 hz;have h3:=hd i;rw [Qck,Qh,hi] at h3;obtain ⟨k,hk⟩:=h3;have h4:=Qdz z hz;refine ⟨k,?_⟩;have:z / Ga p*Ga p=z:=Kz h4;rw [<-this];rw [show z / Ga p=d*k from hk,Int.mul_right_comm]
  have h3:=Q7v h2;have h4:Ga p∣((Gh p:Nat):Int)/\((Gh p:Nat):Int)∣Ga p:=by
   unfold Ga Rq; split
   ·exact ⟨W0.2 (Wj _),Int.dvd_neg.2 (Wj _)⟩
   ·exact ⟨Wj _,Wj _⟩
  obtain ⟨k,hk⟩:=Vq h3 h4.2;refine ⟨k,?_⟩;have:Ga p*(d*k)=Ga p*1:=by rw [K8,<-Int.mul_assoc,Kr (Ga p) d,<-hk]
  exact (Int.eq_of_mul_eq_mul_left h0 this).symm
 ·have h2:Um (Nb p (Ga p))=Um p / Ga p:=by unfold Um; rw [<-hl,Qck]
  have h3:Ga p∣Um p:=Qdz _ (Qkf h);have h5:Um p / Ga p*Ga p=Um p:=Kz h3;rw [h2];have h6:=Ch tp h;rcases Jt (Um p / Ga p) 0 with e1 | e1 | e1
  ·exfalso;by_cases hn:Um p<0
   ·have:Ga p=-Rq p:=by unfold Ga; rw [if_pos hn]
    have:0<Um p / Ga p*Ga p:=Vy e1 (by omega);omega
   ·have:Ga p=Rq p:=by unfold Ga; rw [if_neg hn]
    have:Um p / Ga p*Ga p<0:=Int.mul_neg_of_neg_of_pos e1 (by omega);omega
  ·rw [e1] at h5; omega
  ·exact e1
theorem Q9w {r:List Int} (tr:Ud r):∃ c:Rat,0<c/\∀ t,Uf r t=c*Uf (Qbo r) t:=by
 unfold Qbo;by_cases h:r.length=0
 ·rw [if_pos h]; exact ⟨1,by decide,λt=>by rw [Nw h,Nw rfl]; grind⟩
 ·rw [if_neg h];have h1:0<Rq r:=by
   have:=Oy tr h;unfold Rq at this ⊢; omega
  have h2:((0:Int):Rat)<(Rq r:Rat):=Jh.2 h1;exact ⟨Rq r,by simpa using h2,Qno Cv⟩
theorem Oz (x:Int) (t:Rat):∀ i,Uf (mono i x) t=(x:Rat)*t^i
 | 0=>by simp only [mono,K0,Yb,Uf,Xb]; grind
 |
  i+1=>by
  have ih:=Oz x t i;simp only [mono,Jy,Xd,Uf] at *;rw [ih,Z4]; push_cast; grind
theorem Q0r (x:Int) (b:List Int) (i k:Nat):(Uo (trim (mono i x)) b).getD k 0=if i<=k then x*b.getD (k-i) 0 else 0:=by
 have e:∀ t,Uf (Uo (trim (mono i x)) b) t=Uf (List.replicate i 0++b.map (x * ·)) t:=λt=>by
  rw [Uy,E8,Oz];have h2:∀ i,Uf (List.replicate i 0++b.map (x * ·)) t=t^i*((x:Rat)*Uf b t):=λi=>by
   induction i with
   |
    zero =>
    simp only [K0,Yb,Xb];have:=Mm x 0 t (max b.length (b.map (x * ·)).length) b [] (b.map (x * ·)) (by omega) (by simp) (by omega) λk=>by
     rw [Qh,Qh,Q8];cases b[k]? <;> simp
    rw [this]; simp only [Uf]; push_cast; grind
   | succ i ih=>simp only [Jy,Xd,Uf,ih,Z4]; push_cast; grind
  rw [h2]; grind
 rw [Bn e k,Qh,List.getElem?_append,X8];by_cases h:i<=k
 ·rw [if_neg (by omega),if_pos h,Q8,Qh];cases b[k-i]? <;> simp
 ·rw [if_pos (by omega),if_neg h,Jr,if_pos (by omega)]; rfl
theorem Q8z {p:List Int} {n:Nat} (tp:Ud p) (h:p.length<=n+1) (h0:p.getD n 0=0):p.length<=n:=by
 rcases Q9 n p.length with e | e
 ·have:=Gp tp (by omega);rw [show p.length-1=n by omega] at this;exact absurd h0 this
 ·exact e
theorem Zge {b r:List Int} {i:Nat} (tr:Ud r) (h:r.length<=b.length+i) (hb:b.length≠0) {x:Int} (hx:x=if r.length=b.length+i then Um r else 0):(str b (Um b) i x r).length<b.length+i:=by
 have hl:=Qps (c:=Um b) (x:=x) (i:=i) (b:=b) (r:=r);have:=Q8z (p:=str b (Um b) i x r) (n:=b.length+i-1) (Uw _ _) (by omega) (by
  unfold str;rw [Ad,Tx,Q0r,if_pos (by omega),hx,show b.length+i-1-i=b.length-1 by omega]
  split
  ·rename_i he;unfold Um;rw [he,Int.sub_eq_zero]
  ·rw [Qh (l:=r),Qu (by omega)]; simp)
 omega
theorem Zkn (b r:List Int) (c:Int) (i:Nat) (x:Int) (t:Rat):(c:Rat)*Uf r t=(x:Rat)*t^i*Uf b t+Uf (str b c i x r) t:=by
 unfold str;rw [E7,Tw,Uy,E8,Oz]; grind
theorem Q91 (b:List Int) (c:Int):∀ (i:Nat) (q r:List Int),∃ X:List Rat,∀ t,((c^i:Int):Rat)*Uf r t=ev X t*Uf b t+Uf (psd b c i (q,r)).2 t
 | 0,q,r=>⟨[],λt=>by simp only [psd,ev]; rw [Int.pow_zero]; push_cast; grind⟩
 |
  i+1,q,r=>by
  obtain ⟨x,hx⟩:=nmE (if r.length=b.length+i then Um r else 0);obtain ⟨X,hX⟩:=Q91 b c i (stq c i x q) (str b c i x r);obtain ⟨m,hm⟩:∃ m:List Rat,∀ t,ev m t=(x:Rat)*t^i:=⟨cz (mono i x),λt=>by rw [Uc,Oz]⟩;refine ⟨Rf (Nz ((c^i:Int):Rat) m) X,λt=>?_⟩;rw [O3 hx,Fc,U0,hm];have h1:=hX t;have h2:=Zkn b r c i x t;rw [Int.pow_succ]
  push_cast at h1 ⊢
  have:(c:Rat)^i*c*Uf r t=(c:Rat)^i*((c:Rat)*Uf r t):=by grind
  rw [this,h2]; grind
theorem Q1g {b:List Int} (hb:b.length≠0):∀ (i:Nat) (q r:List Int),Ud r->r.length<b.length+i->Ud (psd b (Um b) i (q,r)).2/\(psd b (Um b) i (q,r)).2.length<b.length
 | 0,q,r,tr,h=>⟨tr,h⟩
 |
  i+1,q,r,tr,h=>by
  rw [O3 rfl];exact Q1g hb i _ _ (Uw _ _) (Zge tr (by omega) hb rfl)
theorem Q90 {b:List Int} {c:Int} {t:Nat} (hb:Bd t b) (hc:Uh c<=t):∀ (i u:Nat) (q r:List Int),i<=64->Bd u r->Bd (u+i*(t+8)) (psd b c i (q,r)).2
 | 0,u,q,r,_,h=>by simpa [psd] using h
 |
  i+1,u,q,r,hi,h=>by
  rw [O3 rfl];have hx:Uh (if r.length=b.length+i then Um r else 0)<=u:=by
   split
   ·exact S0 h
   ·rw [S4]; exact Qg _
  have:=Q90 hb hc i (u+t+8) (stq c i (if r.length=b.length+i then Um r else 0) q) (str b c i (if r.length=b.length+i then Um r else 0) r) (by omega) (Qvb h hb hc hx (by omega));exact W7 this (by rw [Z6]; omega)
theorem Qkz {c:Int} (h:c<0):∀ k:Nat,(k % 2=1->c^k<0)/\(k % 2=0->0<c^k)
 | 0=>⟨λh=>by omega,λ_=>by rw [Int.pow_zero]; decide⟩
 |
  k+1=>by
  obtain ⟨i1,i2⟩:=Qkz h k;rw [Int.pow_succ];exact ⟨λhk=>Yx (i2 (by omega)) h,λhk=>Vy (i1 (by omega)) h⟩
theorem Qic {a b:List Int} (ta:Ud a) (tb:Ud b) (hb:b.length≠0) (hl:a.length<=60):Ud (He a b)/\(He a b).length<b.length/\(∀ s,Bd s a->Bd s b->Bd (s+(a.length+1-b.length)*(s+8)) (He a b)) /\
 ∃ u v:Rat,0<u/\0<v/\∃ X:List Rat,∀ t,u*Uf a t=ev X t*Uf b t+v*Uf (He a b) t:=by
 obtain ⟨k,hk⟩:=nmE (a.length+1-b.length);have h1:Ud (Tq a b)/\(Tq a b).length<b.length:=Q1g hb _ _ _ ta (by omega);obtain ⟨X,hX⟩:=Q91 b (Um b) k [] a;have hX:∀ t,(((Um b)^k:Int):Rat)*Uf a t=ev X t*Uf b t+Uf (Tq a b) t:=by unfold Tq; rw [<-hk]; exact hX
 have h2:=Qd5 (a:=a) (b:=b) (r:=Tq a b) (n:=(Tq a b).length) (s:=(Tq a b).foldl (λm z=>m+Uh z) 0) h1.1 (Qn _) (λz hz=>by
  have key:∀ (l:List Int) (m:Nat),m≤l.foldl (λm z=>m+Uh z) m/\∀ z∈l,Uh z≤l.foldl (λm z=>m+Uh z) m:=by
   intro l
   induction l with
   | nil=>exact λm=>⟨Qn _,λz hz=>by cases hz⟩
   |
    cons y l ih =>
    intro m;obtain ⟨i1,i2⟩:=ih (m+Uh y);refine ⟨by simp only [Z3]; omega,λz hz=>?_⟩;simp only [Z3];rcases Qo.1 hz with rfl | hz
    ·omega
    ·exact i2 z hz
  exact (key _ 0).2 z hz)
 have h3:=Qku (r:=P9 a b (Tq a b)) (n:=(Tq a b).length) h2.2.1 h2.2.2;refine ⟨h3.1,by unfold He; omega,λs ha hbs=>?_,?_⟩
 ·have h4:=Q90 (c:=Um b) hbs (S0 hbs) k s [] a (by omega) ha;have h5:=Qd5 (a:=a) (b:=b) (n:=(Tq a b).length) h1.1 (Nat.le_refl _) (show Bd (s+k*(s+8)) (Tq a b) by unfold Tq; rw [<-hk]; exact h4);rw [<-hk];exact (Qku h5.2.1 h5.2.2).2.2
 ·obtain ⟨v,vp,hv⟩:=Q9w h2.1;have hc:=Ch tb hb;by_cases ht:k % 2=1/\Um b<0
  ·have e1:P9 a b (Tq a b)=Tg (Tq a b):=by unfold P9; rw [<-hk,if_pos ht]
   have hneg:(Um b)^k<0:=(Qkz ht.2 k).1 ht.1;have h5:(((Um b)^k:Int):Rat)<((0:Int):Rat):=Jh.2 hneg;have h5:(((Um b)^k:Int):Rat)<0:=by simpa using h5
   refine ⟨-(((Um b)^k:Int):Rat),v,by grind,vp,Nz (-1) X,λt=>?_⟩;have h6:=hX t;have h7:=hv t;rw [e1,Qdy] at h7;show _=_+v*Uf (Qbo (P9 a b (Tq a b))) t;rw [e1,<-h7,U0]; grind
  ·have e1:P9 a b (Tq a b)=Tq a b:=by unfold P9; rw [<-hk,if_neg ht]
   have hpos:0<(Um b)^k:=by
    rcases V2 hc with h | h
    ·exact (Qkz h k).2 (by omega)
    ·exact Int.pow_pos h
   have h5:((0:Int):Rat)<(((Um b)^k:Int):Rat):=Jh.2 hpos;refine ⟨(((Um b)^k:Int):Rat),v,by simpa using h5,vp,X,λt=>?_⟩;have h7:=hv t;show _=_+v*Uf (Qbo (P9 a b (Tq a b))) t;rw [<-h7,e1,hX]
theorem C9 {p:List Int} (h1:p.length<=64) (h2:Bd 16777216 p):chk p=some p:=by
 unfold chk;rw [if_pos ⟨h1,Yl.2 λz hz=>Nat.ble_eq_true_of_le (h2 z hz)⟩]
theorem Qmo {a b:List Int} {g:List Rat} {c:Rat} (hc:c≠0) (h:∀ t,Uf a t=c*Uf b t):Is g (cz a)↔Is g (cz b):=by
 constructor
 ·rintro ⟨u,hu⟩
  refine ⟨Nz (1 / c) u,λt=>?_⟩;have h1:=hu t;rw [Uc,h] at h1;rw [Uc,U0];have h2:1 / c*c=1:=Zm hc;have:Uf b t=1 / c*(c*Uf b t):=by grind
  rw [this,h1]; grind
 ·rintro ⟨u,hu⟩
  refine ⟨Nz c u,λt=>?_⟩;have h1:=hu t;rw [Uc] at h1;rw [Uc,U0,h,h1]; grind
structure Gc (g a b:List Int):Prop where
 t:Ud g
 da:Is (cz g) (cz a)
 db:Is (cz g) (cz b)
 c:∃ U V,∀ t,Uf g t=ev U t*Uf a t+ev V t*Uf b t
 n:g.length≠0
theorem Gc.scale {g a b g' a' b':List Int} {x y z:Rat} (h:Gc g a b) (hx:x≠0) (hy:y≠0) (hz:z≠0) (tg:Ud g') (eg:∀ t,Uf g t=x*Uf g' t) (ea:∀ t,Uf a' t=y*Uf a t) (eb:∀ t,Uf b' t=z*Uf b t):Gc g' a' b':=by
 have hx1:1 / x*x=1:=Zm hx;have hy1:1 / y*y=1:=Zm hy;have hz1:1 / z*z=1:=Zm hz;have hg:∀ c,Is (cz g) c->Is (cz g') c:=λc ⟨u,hu⟩=>⟨Nz x u,λt=>by rw [hu,Uc,Uc,eg,U0]; grind⟩
 obtain ⟨U,V,hc⟩:=h.c;refine ⟨tg,hg _ ((Qmo hy ea).2 h.da),hg _ ((Qmo hz eb).2 h.db),⟨Nz (1 / x*(1 / y)) U,Nz (1 / x*(1 / z)) V,λt=>?_⟩,?_⟩
 ·have h1:=hc t;have h2:Uf g' t=1 / x*Uf g t:=by rw [eg]; grind
  rw [h2,h1,U0,U0,ea,eb];generalize ev U t=u at *;generalize ev V t=v at *;grind
 ·rw [<-Ib h.t tg hx eg]; exact h.n
theorem Zj4:∀ d:Nat,1<=d->d+2<=3^d
 | 0,h=>by omega
 | 1,_=>by decide
 | d+2,_=>by have:=Zj4 (d+1) (by omega); rw [Zn]; omega
theorem Qut {k:Nat} {a b:List Int} (ta:Ud a) (tb:Ud b) (hb:b.length≠0) (hl:a.length<=60) (hbl:b.length<=60) (hr:Bd 16777216 (He a b)) (ih:∃ g,Qgb k b (He a b)=some g/\Gc g b (He a b)):∃ g,Qgb (k+1) a b=some g/\Gc g a b:=by
 obtain ⟨h1,h2,h3,u,v,up,vp,X,hX⟩:=Qic ta tb hb hl;obtain ⟨g,e,hg⟩:=ih;refine ⟨g,?_,?_⟩
 ·simp only [Qgb];rw [if_neg hb,C9 (by omega) hr]; exact e
 ·obtain ⟨U,V,hc⟩:=hg.c;obtain ⟨y,hy⟩:=hg.da;obtain ⟨z,hz⟩:=hg.db;have hu:1 / u*u=1:=Fq up;have hv:1 / v*v=1:=Fq vp;refine ⟨hg.t,⟨Nz (1 / u) (Rf (Fh X y) (Nz v z)),λt=>?_⟩,hg.da,⟨Nz (u / v) V,Rf U (Nz (-1 / v) (Fh V X)),λt=>?_⟩,hg.n⟩
  ·have a1:=hX t; have a2:=hy t; have a3:=hz t;rw [Uc,Uc] at a2 a3;rw [Uc,Uc,U0,Fc,Ug,U0];have:Uf a t=1 / u*(u*Uf a t):=by grind
   rw [this,a1,a2,a3]; grind
  ·have a1:=hX t; have a2:=hc t;rw [U0,Fc,U0,Ug,a2];have:Uf (He a b) t=1 / v*(v*Uf (He a b) t):=by grind
   rw [this,show v*Uf (He a b) t=u*Uf a t-ev X t*Uf b t by grind,J7,J7,J7];grind
theorem Q13 {k:Nat} {a:List Int} (ta:Ud a) (ha:a.length≠0):∃ g,Qgb (k+1) a []=some g/\Gc g a [] :=
 ⟨a,rfl,ta,dvd_refl _,⟨[],λt=>by simp only [cz,X2,ev]; grind⟩,⟨[1],[],λt=>by rw [Hg]; simp only [ev]; grind⟩,ha⟩
theorem Qgc {s:Nat}:∀ (k:Nat) (a b:List Int),Ud a->Ud b->b.length<k->b.length<a.length->a.length<=60->Bd s a->Bd s b->(s+8)*3^(a.length-1)<=16777216->∃ g,Qgb k a b=some g/\Gc g a b
 | 0,_,_,_,_,h,_,_,_,_,_=>by omega
 |
  k+1,a,b,ta,tb,hk,hab,hl,ba,bb,hs=>by
  by_cases hb:b.length=0
  ·rw [Qk hb]; exact Q13 ta (by omega)
  ·obtain ⟨h1,h2,h3,_⟩:=Qic ta tb hb hl;have h3:=h3 s ba bb;obtain ⟨m,hm⟩:=nmE (a.length-b.length);have e1:a.length+1-b.length=m+1:=by omega
   rw [e1] at h3;have e2:s+(m+1)*(s+8)+8=(m+2)*(s+8):=by
    rw [show m+2=(m+1)+1 by omega,Z6 (m+1)]; omega
   have e3:(m+2)*(s+8)*3^(b.length-1)<=(s+8)*3^(a.length-1):=by
    rw [show a.length-1=m+(b.length-1) by omega,Xa,<-Xh,Zi (s+8)];exact Q0 _ (Q0 _ (Zj4 m (by omega)))
   have e4:s+(m+1)*(s+8)<=16777216:=by
    have:(m+2)*(s+8)<=(m+2)*(s+8)*3^(b.length-1):=Js _ (Zz (by decide));omega
   refine Qut ta tb hb hl (by omega) (W7 h3 e4) (Qgc (s:=s+(m+1)*(s+8)) k b (He a b) tb h1 (by omega) h2 (by omega) (W7 bb (by omega)) h3 ?_);rw [e2]; omega
def Szz (n s:Nat):Prop:=n<=10/\2*(s+8)*3^(n-1)<=16777216
theorem Zbu {n s:Nat} (hz:Szz n s) {a b:List Int} (ta:Ud a) (tb:Ud b) (la:a.length<=n) (lb:b.length<=n) (ba:Bd s a) (bb:Bd s b) (h0:a.length≠0\/b.length≠0):∃ g,Qgb 66 a b=some g/\Gc g a b:=by
 obtain ⟨hn,hz⟩:=hz;have hp:∀ l,l<=n->(s+8)*3^(l-1)<=8388608:=λl hl=>by
  have:(s+8)*3^(l-1)<=(s+8)*3^(n-1):=Zp _ (Zu (by decide) (by omega));rw [Xh] at hz; omega
 rcases Q9 b.length a.length with h | h
 ·exact Qgc 66 a b ta tb (by omega) h (by omega) ba bb (by have:=hp a.length la; omega)
 ·by_cases hb:b.length=0
  ·rw [Qk hb]; exact Q13 ta (by omega)
  ·obtain ⟨h1,h2,h3,_⟩:=Qic ta tb hb (by omega);have h3:=h3 s ba bb;have h4:(a.length+1-b.length)*(s+8)<=1*(s+8):=Q0 _ (by omega);have h5:=hp b.length lb;have h6:(s+8)*1<=(s+8)*3^(b.length-1):=Zp _ (Zz (by decide));refine Qut ta tb hb (by omega) (by omega) (W7 h3 (by omega)) (Qgc (s:=2*s+8) 65 b (He a b) tb h1 (by omega) h2 (by omega) (W7 bb (by omega)) (W7 h3 (by omega)) ?_);rw [show 2*s+8+8=2*(s+8) by omega,Xh]; omega
theorem Qnt:Ui []=[]:=rfl
theorem Qd4 {a:List Int} (ta:Ud a):Ud (Ui a)/\(Ui a).length=a.length/\(∀ s,Bd s a->Bd s (Ui a))/\∃ c:Rat,c≠0/\∀ t,Uf a t=c*Uf (Ui a) t:=by
 by_cases h:a.length=0
 ·rw [Qk h];exact ⟨rfl,rfl,λs _=>Iw,1,by decide,λt=>by rw [Qnt]; grind⟩
 ·obtain ⟨h1,h2,h3,h4,h5,h6,h7⟩:=Mp ta h;exact ⟨h1,h2,h5,_,Ob h6,h7⟩
theorem Qct {n s:Nat} (hz:Szz n s) {a b:List Int} (ta:Ud a) (tb:Ud b) (la:a.length<=n) (lb:b.length<=n) (ba:Bd s a) (bb:Bd s b) (h0:a.length≠0\/b.length≠0):∃ g,O4 a b=some g/\Gc g a b/\Prm g/\0<Um g:=by
 obtain ⟨a1,a2,a3,x,xn,ax⟩:=Qd4 ta;obtain ⟨b1,b2,b3,y,yn,bx⟩:=Qd4 tb;obtain ⟨g,e,hg⟩:=Zbu hz a1 b1 (by omega) (by omega) (a3 s ba) (b3 s bb) (by omega);obtain ⟨g1,g2,g3,g4,g5,g6,g7⟩:=Mp hg.t hg.n;refine ⟨Ui g,?_,hg.scale (Ob g6) xn yn g1 g7 ax bx,g3,g4⟩;unfold O4; rw [e]; rfl
theorem Q4q {a:List Int} (ta:Ud a):O4 [] a=some (Ui (Ui a)):=by
 unfold O4;rw [Qnt];by_cases h:(Ui a).length=0
 ·have e:Ui a=[]:=Qk h;rw [e]; rfl
 ·have e:He [] (Ui a)=[]:=by
   have e1:Tq [] (Ui a)=[]:=by unfold Tq; rw [show ([]:List Int).length+1-(Ui a).length=0 by simp; omega]; rfl
   unfold He;rw [e1];unfold P9
   split <;> rfl
  have:Qgb 66 [] (Ui a)=some (Ui a):=by
   show (if (Ui a).length=0 then _ else _)=_;rw [if_neg h,e]; rfl
  rw [this]; rfl
theorem Q8h {n s:Nat} (hz:Szz n s) {a b:List Int} (ta:Ud a) (tb:Ud b) (la:a.length<=n) (lb:b.length<=n) (ba:Bd s a) (bb:Bd s b) (h0:a.length≠0):∃ g,Qp7 a b=some g/\Gc g a b/\Prm g/\0<Um g:=by
 obtain ⟨a1,a2,a3,x,xn,ax⟩:=Qd4 ta;obtain ⟨b1,b2,b3,y,yn,bx⟩:=Qd4 a1;obtain ⟨g,e,hg,h1,h2⟩:=Qct hz b1 tb (by omega) lb (b3 s (a3 s ba)) bb (by omega);refine ⟨g,?_,hg.scale (x:=1) (y:=x*y) (z:=1) (by decide) (λh=>(Yt.1 h).elim xn yn) (by decide) hg.t (λt=>by grind) (λt=>by rw [ax,bx]; grind) (λt=>by grind),h1,h2⟩;unfold Qp7;rw [Q4q ta]; exact e
theorem Q11:∀ {p q:List Rat} {m n:Nat},HD p m->HD q n->(Fh p q).getD (m+n) 0=p.getD m 0*q.getD n 0
 | [],q,m,n,h,_=>absurd (by simp) h.1
 |
  a::p,q,0,n,h,h'=>by
  have h1:∀ k,p.getD k 0=0:=λk=>by have:=h.2 (k+1) (by omega); rwa [Q3] at this
  simp only [Fh];rw [G5,Ra,Zo,Z0];cases n with
  | zero=>rw [Zo]; grind
  | succ n=>rw [Q3,Qgu h1]; grind
 |
  a::p,q,m+1,n,h,h'=>by
  have ih:=Q11 (p:=p) (q:=q) (m:=m) ⟨by have:=h.1; rwa [Q3] at this,λk hk=>by have:=h.2 (k+1) (by omega); rwa [Q3] at this⟩ h';simp only [Fh];rw [G5,Ra,show m+1+n=(m+n)+1 by omega,Q3,h'.2 _ (by omega),ih,Q3]; grind
theorem Qs3 {a b c:List Int} (ta:Ud a) (tb:Ud b) (tc:Ud c) (h:∀ t,Uf c t=Uf a t*Uf b t) (la:0<a.length) (lb:0<b.length):Um c=Um a*Um b:=by
 have h1:=Qgt ta la;have h2:=Qgt tb lb;have h3:=Q11 h1 h2;have hl:=Sl ta tb tc h la lb;rw [<-Nu (p:=cz c) (λt=>by rw [Ug,Uc,Uc,Uc,h]),Sj,Sj,Sj,show a.length-1+(b.length-1)=c.length-1 by omega] at h3;unfold Um; exact_mod_cast h3
theorem Hi {a b c:List Int} (tc:Ud c) (hc:c.length≠0) (h:∀ t,Uf c t=Uf a t*Uf b t):0<a.length/\0<b.length:=by
 constructor
 ·rcases Qy a.length with e | e
  ·exact absurd (λt=>by rw [h,Nw e]; grind) (Qgm tc (by omega))
  ·exact e
 ·rcases Qy b.length with e | e
  ·exact absurd (λt=>by rw [h,Nw e]; grind) (Qgm tc (by omega))
  ·exact e
theorem Qp6 {b:List Int} (tb:Ud b) (hb:b.length≠0):∀ (i:Nat) (a q h:List Int),Ud a->Ud h->(∀ t,Uf a t=Uf b t*Uf h t)->a.length<b.length+i->i<=q.length->(∀ j,j<i->q.getD j 0=0)->∃ q',Qp5 b i a q=some q'/\q'.length=q.length/\∀ t,Uf q' t=Uf q t+Uf h t
 |
  0,a,q,h,ta,th,e,hl,_,_=>by
  have ha:a.length=0:=by
   rcases Qy a.length with e' | e'
   ·exact e'
   ·obtain ⟨p1,p2⟩:=Hi ta (by omega) e;have:=Sl tb th ta e p1 p2; omega
  refine ⟨q,by simp only [Qp5]; rw [if_pos ha],rfl,λt=>?_⟩;have:∀ t,Uf h t=0:=λt=>by
   have:=Qv7 (p:=cz b) (q:=cz h) (r:=[]) (λh0=>Qgm tb (by omega) λt=>by rw [<-Uc]; exact h0 t) (λt=>by rw [Uc,Uc,<-e,Nw ha]; simp only [ev]; grind) t;rwa [Uc] at this
  rw [this]; grind
 |
  i+1,a,q,h,ta,th,e,hl,hq,h0=>by
  simp only [Qp5];by_cases hlt:a.length<b.length+i
  ·rw [if_pos hlt];exact Qp6 tb hb i a q h ta th e hlt (by omega) λj hj=>h0 j (by omega)
  ·rw [if_neg hlt];obtain ⟨p1,p2⟩:=Hi ta (by omega) e;have hln:=Sl tb th ta e p1 p2;have hld:=Qs3 tb th ta e p1 p2;have hlb:=Ch tb hb;rw [hld,if_pos (Int.mul_emod_right _ _),Xl _ hlb];have hli:h.length=i+1:=by omega
   have e2:∀ t,Uf (S9 a (Uo (trim (mono i (Um h))) b)) t=Uf b t*Uf (S9 h (mono i (Um h))) t:=λt=>by
    rw [E7,E7,Uy,E8,e]; grind
   have hl2:(S9 a (Uo (trim (mono i (Um h))) b)).length<b.length+i:=by
    have hl:=Q0l (i:=i) (x:=Um h) (b:=b) (a:=a);unfold sta at hl;have:=Q8z (p:=S9 a (Uo (trim (mono i (Um h))) b)) (n:=b.length+i-1) (Uw _ _) (by omega) (by
     rw [Ad,Q0r,if_pos (by omega),show b.length+i-1-i=b.length-1 by omega,show b.length+i-1=a.length-1 by omega];have:Um a=a.getD (a.length-1) 0:=rfl;rw [<-this,hld];unfold Um;rw [Kr,Int.sub_eq_zero])
    omega
   obtain ⟨q',h1,h2,h3⟩:=Qp6 tb hb i _ (q.set i (Um h)) (S9 h (mono i (Um h))) (Uw _ _) (Uw _ _) e2 hl2 (by simp; omega) λj hj=>by
    rw [Qh,Ju,if_neg (by omega),<-Qh];exact h0 j (by omega)
   refine ⟨q',h1,by rw [h2,Ja],λt=>?_⟩;rw [h3,Qp4 q i _ t (by omega),h0 i (by omega),E7,Oz]
   push_cast; grind
theorem Zaf {a b h:List Int} {s:Nat} (ta:Ud a) (tb:Ud b) (th:Ud h) (ha:a.length≠0) (la:a.length<=10) (ba:Bd s a) (hs:s+69<=16777216) (e:∀ t,Uf a t=Uf b t*Uf h t):O2 a b=some h:=by
 obtain ⟨p1,p2⟩:=Hi ta ha e;have hln:=Sl tb th ta e p1 p2;obtain ⟨q,h1,h2,h3⟩:=Qp6 tb (by omega) (a.length+1-b.length) a (List.replicate (a.length+1-b.length) 0) h ta th e (by omega) (by simp) λj _=>Tr _ _
 have h4:trim q=h:=Q1a (G6 _) th λt=>by rw [E8,h3,Qnp]; grind
 unfold O2;rw [if_neg (by omega),h1];show chk (trim q)=_;rw [h4];exact C9 (by omega) (W7 (I7 ba la ta th tb ha λt=>by rw [e]; grind) (by omega))
end Orq
