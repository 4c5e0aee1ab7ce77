/- T1 T2 T3 T4 T5 T6 T7 T8 T9 T10 T11 T12 T13 T14 T15 T16 T17 T18 -/
import Derived.Test.YtpnhifedfcgjbaaGreatPart00
import Derived.Test.YtpnhifedfcgjbaaGreatPart05
set_option linter.all false
namespace Orq
def Uf (x:Rat):Rat:=if x<0 then -x else x
theorem Gh (x:Rat):0<=Uf x:=by unfold Uf; split <;> grind
theorem Tx {x b:Rat}:Uf x<=b↔-b<=x/\x<=b:=by unfold Uf; split <;> constructor <;> grind
theorem Qqa {x b:Rat}:Uf x<b↔-b<x/\x<b:=by unfold Uf; split <;> constructor <;> grind
theorem H6 (x y:Rat):Uf (x+y)<=Uf x+Uf y:=by unfold Uf; split <;> split <;> split <;> grind
theorem Q1f (x y:Rat):Uf (x-y)=Uf (y-x):=by unfold Uf; split <;> split <;> grind
theorem Ck (x:Rat):Uf (-x)=Uf x:=by unfold Uf; split <;> split <;> grind
theorem Gu:Uf 0=0:=by decide
theorem Mr {x:Rat} (h:x≠0):0<Uf x:=by unfold Uf; split <;> grind
theorem Zfb {x:Rat} (h:Uf x=0):x=0:=by unfold Uf at h; split at h <;> grind
theorem Pm {x y:Rat} (h1:0<=x) (h2:0<=y):0<=x*y:=Rat.mul_nonneg h1 h2
theorem L9 {x y:Rat} (h1:0<x) (h2:0<y):0<x*y:=W0 h1 h2
theorem Ml {a b c d:Rat} (h0:0<=a) (h1:a<=b) (h2:0<=c) (h3:c<=d):a*c<=b*d:=by
 have e1:=Q8 h1 h2;have e2:=Zu h3 (Zg h0 h1);exact Zg e1 e2
theorem Lq (x y:Rat):Uf (x*y)=Uf x*Uf y:=by
 unfold Uf;by_cases h1:x<0 <;> by_cases h2:y<0
 ·have:=L9 (x:=-x) (y:=-y) (by grind) (by grind); simp only [h1,h2,if_true]; split <;> grind
 ·have:=Pm (x:=-x) (y:=y) (by grind) (by grind); simp only [h1,h2,if_true,if_false]; split <;> grind
 ·have:=Pm (x:=x) (y:=-y) (by grind) (by grind); simp only [h1,h2,if_true,if_false]; split <;> grind
 ·have:=Pm (x:=x) (y:=y) (by grind) (by grind); simp only [h1,h2,if_false]; split <;> grind
theorem Ff {x y a b:Rat} (h1:Uf x<=a) (h2:Uf y<=b):Uf (x*y)<=a*b:=by
 rw [Lq]; exact Ml (Gh x) h1 (Gh y) h2
theorem De {x y:Rat} (h1:0<x) (h2:0<y):0<x / y:=by rw [J5]; exact L9 h1 (Rat.inv_pos.2 h2)
theorem Fi {x y:Rat} (h2:0<y):x / y*y=x:=Zl (by grind)
theorem Fo {b d:Rat} (hb:0<=b) (hd:0<d):∃ e:Rat,0<e/\e<=1/\e*b<d:=by
 have h1:0<d / (b+1):=De hd (by grind);have h2:d / (b+1)*(b+1)=d:=Fi (by grind);rcases Vj (a:=d / (b+1)) (b:=1) with h | h
 ·exact ⟨d / (b+1),h1,h,by
   have:d / (b+1)*(b+1)=d / (b+1)*b+d / (b+1):=by grind
   grind⟩
 ·refine ⟨1,by decide,by decide,?_⟩;have:1*(b+1)<=d / (b+1)*(b+1):=Q8 h (by grind);grind
def ev:List Rat->Rat->Rat
 | [],_=>0
 | a::p,t=>a+t*ev p t
def dv:List Rat->Rat->Rat
 | [],_=>0
 | _::p,t=>ev p t+t*dv p t
def dq:List Rat->Rat->Rat->Rat
 | [],_,_=>0
 | _::p,x,y=>ev p x+y*dq p x y
def dd:List Rat->Rat->Rat->Rat
 | [],_,_=>0
 | _::p,x,y=>dq p x y+y*dd p x y
theorem Qmg (x y:Rat):∀ p,ev p x-ev p y=(x-y)*dq p x y
 | []=>by simp only [ev,dq]; grind
 | a::p=>by have:=Qmg x y p; simp only [ev,dq]; grind
theorem Qo0 (y:Rat):∀ p,dq p y y=dv p y
 | []=>rfl
 | a::p=>by simp only [dq,dv,Qo0 y p]
theorem Zg2 (x y:Rat):∀ p,dq p x y-dv p y=(x-y)*dd p x y
 | []=>by simp only [dv,dq,dd]; grind
 |
  a::p=>by
  have h1:=Zg2 x y p;have h2:=Qmg x y p;simp only [dv,dq,dd]; grind
theorem Zg5 (p:List Rat) (x y:Rat):ev p x-ev p y=(x-y)*dv p y+(x-y)*(x-y)*dd p x y:=by
 have h1:=Qmg x y p;have h2:=Zg2 x y p;grind
def evB (R:Rat):List Rat->Rat
 | []=>0
 | a::p=>Uf a+R*evB R p
def dqB (R:Rat):List Rat->Rat
 | []=>0
 | _::p=>evB R p+R*dqB R p
def ddB (R:Rat):List Rat->Rat
 | []=>0
 | _::p=>dqB R p+R*ddB R p
theorem I3 {R:Rat} (hR:0<=R):∀ p,0<=evB R p
 | []=>by simp only [evB]; grind
 | a::p=>by have:=Pm hR (I3 hR p); have:=Gh a; simp only [evB]; grind
theorem Ss {R:Rat} (hR:0<=R):∀ p,0<=dqB R p
 | []=>by simp only [dqB]; grind
 | a::p=>by have:=Pm hR (Ss hR p); have:=I3 hR p; simp only [dqB]; grind
theorem Qi9 {R:Rat} (hR:0<=R):∀ p,0<=ddB R p
 | []=>by simp only [ddB]; grind
 | a::p=>by have:=Pm hR (Qi9 hR p); have:=Ss hR p; simp only [ddB]; grind
theorem Qgn {R x:Rat} (hx:Uf x<=R):∀ p,Uf (ev p x)<=evB R p
 | []=>by simp only [ev,evB,Gu]; grind
 |
  a::p=>by
  have h1:=H6 a (x*ev p x);have h2:=Ff hx (Qgn hx p);simp only [ev,evB]; grind
theorem Qr9 {R x y:Rat} (hx:Uf x<=R) (hy:Uf y<=R):∀ p,Uf (dq p x y)<=dqB R p
 | []=>by simp only [dq,dqB,Gu]; grind
 |
  a::p=>by
  have h1:=H6 (ev p x) (y*dq p x y);have h2:=Ff hy (Qr9 hx hy p);have h3:=Qgn hx p;simp only [dq,dqB]; grind
theorem Q7c {R x y:Rat} (hx:Uf x<=R) (hy:Uf y<=R):∀ p,Uf (dd p x y)<=ddB R p
 | []=>by simp only [dd,ddB,Gu]; grind
 |
  a::p=>by
  have h1:=H6 (dq p x y) (y*dd p x y);have h2:=Ff hy (Q7c hx hy p);have h3:=Qr9 hx hy p;simp only [dd,ddB]; grind
theorem Ziv {R x y:Rat} (hx:Uf x<=R) (hy:Uf y<=R) (p:List Rat):Uf (ev p x-ev p y)<=Uf (x-y)*dqB R p:=by
 rw [Qmg,Lq]; exact Ml (Gh _) Qp (Gh _) (Qr9 hx hy p)
def H7:List Rat->List Rat->List Rat
 | [],q=>q
 | a::p,[]=>a::p
 | a::p,b::q=>(a+b)::H7 p q
def Ba (c:Rat) (p:List Rat):List Rat:=p.map (c * ·)
def Fa:List Rat->List Rat->List Rat
 | [],_=>[]
 | a::p,q=>H7 (Ba a q) (0::Fa p q)
def Pn:List Rat->List Rat
 | []=>[]
 | _::p=>H7 p (0::Pn p)
theorem U7 (t:Rat):∀ p q,ev (H7 p q) t=ev p t+ev q t
 | [],q=>by simp only [H7,ev]; grind
 | a::p,[]=>by simp only [H7,ev]; grind
 | a::p,b::q=>by have:=U7 t p q; simp only [H7,ev]; grind
theorem Uw (c t:Rat):∀ p,ev (Ba c p) t=c*ev p t
 | []=>by simp only [Ba,X3,ev]; grind
 | a::p=>by have:=Uw c t p; simp only [Ba,Zv,ev] at *; grind
theorem Uc (t:Rat):∀ p q,ev (Fa p q) t=ev p t*ev q t
 | [],q=>by simp only [Fa,ev]; grind
 | a::p,q=>by have:=Uc t p q; simp only [Fa,U7,Uw,ev]; grind
theorem Hm (t:Rat):∀ p,ev (Pn p) t=dv p t
 | []=>rfl
 | a::p=>by have:=Hm t p; simp only [Pn,U7,ev,dv]; grind
theorem Qo2 (t:Rat):∀ p q,dv (H7 p q) t=dv p t+dv q t
 | [],q=>by simp only [H7,dv]; grind
 | a::p,[]=>by simp only [H7,dv]; grind
 | a::p,b::q=>by have:=Qo2 t p q; have:=U7 t p q; simp only [H7,dv]; grind
theorem Qfb (c t:Rat):∀ p,dv (Ba c p) t=c*dv p t
 | []=>by simp only [Ba,X3,dv]; grind
 | a::p=>by have:=Qfb c t p; have:=Uw c t p; simp only [Ba,Zv,dv] at *; grind
theorem Qo3 (t:Rat):∀ p q,dv (Fa p q) t=dv p t*ev q t+ev p t*dv q t
 | [],q=>by simp only [Fa,dv,ev]; grind
 | a::p,q=>by have:=Qo3 t p q; have:=Uc t p q; simp only [Fa,Qo2,Qfb,dv,ev]; grind
theorem Qzv:∀ {p:List Rat},(∀ x∈p,x=0)->∀ t,ev p t=0
 | [],_,t=>rfl
 |
  a::p,h,t=>by
  have h1:=Qzv (p:=p) (λx hx=>h x (Qi _ hx)) t;have h2:=h a (Qr ..);simp only [ev,h1,h2]; grind
theorem Qzq:∀ {p:List Rat},(∀ x∈p,x=0)->∀ t,dv p t=0
 | [],_,t=>rfl
 |
  a::p,h,t=>by
  have h0:=λx hx=>h x (Qi _ hx)
  have h1:=Qzv (p:=p) h0 t;have h2:=Qzq (p:=p) h0 t;simp only [dv,h1,h2]; grind
theorem Qcv:∀ {p:List Rat},(∀ t,0<t->t<1->ev p t=0)->∀ x∈p,x=0
 | [],_=>λx hx=>by cases hx
 |
  a::p,h=>by
  have ha:a=0:=by
   rcases Classical.em (a=0) with h0 | h0
   ·exact h0
   ·obtain ⟨e,e1,e2,e3⟩:=Fo (I3 (R:=1) (by decide) p) (Mr h0);obtain ⟨f,f1,f2,f3⟩:=Fo (b:=1) (d:=e) (by decide) e1;have h1:=h f f1 (by grind);have h2:=Qgn (R:=1) (x:=f) (by unfold Uf; split <;> grind) p;have h3:=Lq f (ev p f);have h4:Uf f=f:=by unfold Uf; split <;> grind
    have h5:a=-(f*ev p f):=by simp only [ev] at h1; grind
    have h6:Uf a=f*Uf (ev p f):=by rw [h5,Ck,h3,h4]
    have h7:f*Uf (ev p f)<=e*evB 1 p:=Ml (Qq f1) (by grind) (Gh _) h2;grind
  intro x hx;rcases Qo.1 hx with rfl | hx
  ·exact ha
  ·refine Qcv (p:=p) (λt h1 h2=>?_) x hx;have:=h t h1 h2;simp only [ev,ha] at this;have h3:t*ev p t=0:=by grind
   rcases Yq.1 h3 with h4 | h4
   ·grind
   ·exact h4
theorem Q7k {p q:List Rat} (h:∀ t,ev p t=ev q t) (t:Rat):dv p t=dv q t:=by
 have h1:=Qzq (p:=H7 p (Ba (-1) q)) (Qcv λt _ _=>by rw [U7,Uw,h t]; grind) t;rw [Qo2,Qfb] at h1; grind
def Uk (x:Rat):Int:=if x<0 then -1 else if 0<x then 1 else 0
theorem U4 {x:Rat}:Uk x=0↔x=0:=by
 unfold Uk; constructor
 ·intro h; split at h <;> (try split at h) <;> grind
 ·intro h; subst h; rfl
theorem Gv {x:Rat}:Uk x=1↔0<x:=by
 unfold Uk; constructor
 ·intro h; split at h <;> (try split at h) <;> grind
 ·intro h; rw [if_neg (by grind),if_pos h]
theorem Rk {x:Rat}:Uk x=-1↔x<0:=by
 unfold Uk; constructor
 ·intro h; split at h <;> (try split at h) <;> grind
 ·intro h; rw [if_pos h]
theorem Fg (x:Rat):Uk x=-1/\x<0\/Uk x=0/\x=0\/Uk x=1/\0<x:=by
 rcases Vj (a:=x) (b:=0) with h | h
 ·rcases Classical.em (x=0) with h0 | h0
  ·exact .inr (.inl ⟨U4.2 h0,h0⟩)
  ·exact .inl ⟨Rk.2 (by grind),by grind⟩
 ·rcases Classical.em (x=0) with h0 | h0
  ·exact .inr (.inl ⟨U4.2 h0,h0⟩)
  ·exact .inr (.inr ⟨Gv.2 (by grind),by grind⟩)
theorem H9 (x y:Rat):Uk (x*y)=Uk x*Uk y:=by
 rcases Fg x with ⟨e1,h1⟩ | ⟨e1,h1⟩ | ⟨e1,h1⟩ <;> rcases Fg y with ⟨e2,h2⟩ | ⟨e2,h2⟩ | ⟨e2,h2⟩ <;> rw [e1,e2]
 ·have:=L9 (x:=-x) (y:=-y) (by grind) (by grind); exact Gv.2 (by grind)
 ·subst h2; exact U4.2 (by grind)
 ·have:=L9 (x:=-x) (y:=y) (by grind) (by grind); exact Rk.2 (by grind)
 ·subst h1; exact U4.2 (by grind)
 ·subst h1; exact U4.2 (by grind)
 ·subst h1; exact U4.2 (by grind)
 ·have:=L9 (x:=x) (y:=-y) (by grind) (by grind); exact Rk.2 (by grind)
 ·subst h2; exact U4.2 (by grind)
 ·exact Gv.2 (L9 h1 h2)
theorem Ry {a b d:Rat} (h1:d<=Uf a) (h2:Uf (b-a)<d):Uk b=Uk a/\Uk a≠0:=by
 rw [Qqa] at h2;rcases Fg a with ⟨e,h⟩ | ⟨e,h⟩ | ⟨e,h⟩
 ·rw [e,Rk]; unfold Uf at h1; rw [if_pos h] at h1; exact ⟨by grind,by decide⟩
 ·subst h; rw [Gu] at h1; grind
 ·rw [e,Gv]; unfold Uf at h1; rw [if_neg (by grind)] at h1; exact ⟨by grind,by decide⟩
def tc (x:Rat):Int->List (List Rat)->Nat
 | _,[]=>0
 | s,p::l=>if Uk (ev p x)=0 then tc x s l else (if s=-(Uk (ev p x)) then 1 else 0)+tc x (Uk (ev p x)) l
inductive SCl:List Rat->List Rat->List (List Rat)->Prop
 | base {f g:List Rat} {c:Rat} (hc:c≠0) (hg:∀ t,ev g t=c):SCl f g []
 | step {f g h:List Rat} {l:List (List Rat)} {a b:Rat} {q:List Rat} (ha:0<a) (hb:0<b) (he:∀ t,a*ev f t=ev q t*ev g t-b*ev h t) (hl:SCl g h l):SCl f g (h::l)
theorem Zbg {x:Rat} {s:Int} {g h:List Rat} {l:List (List Rat)} (hh:Uk (ev h x)=-s) (hs:s≠0):tc x s (g::h::l)=1+tc x (-s) l:=by
 have h3:Uk (ev h x)≠0:=by omega
 have hv:s=1\/s=-1:=by rcases Fg (ev h x) with ⟨e,_⟩ | ⟨e,_⟩ | ⟨e,_⟩ <;> omega
 simp only [tc,if_neg h3,hh];rcases Fg (ev g x) with ⟨e,_⟩ | ⟨e,_⟩ | ⟨e,_⟩ <;> rw [e] <;> rcases hv with rfl | rfl <;> simp
theorem Qel {x:Rat} {s:Int} {p:List Rat} {l:List (List Rat)} (h:Uk (ev p x)≠0):tc x s (p::l)=(if s=-(Uk (ev p x)) then 1 else 0)+tc x (Uk (ev p x)) l:=by rw [tc,if_neg h]
theorem Tr {R x y e d:Rat} {p:List Rat} (hx:Uf x<=R) (hy:Uf y<=R) (hR:0<=R) (h:Uf (y-x)<=e) (hd:e*dqB R p<d):Uf (ev p y-ev p x)<d:=by
 have h1:=Ziv hy hx p;have h2:=Q8 h (Ss hR p);grind
theorem Qm6 {a x y:Rat} (ha:0<a) (h:a*x<a*y):x<y:=by
 rcases Vj (a:=y) (b:=x) with h' | h'
 ·have:=Zu h' (Qq ha); grind
 ·rcases Classical.em (x=y) with e | e
  ·subst e; grind
  ·grind
theorem Zj3 {a b d d' B f g h q:Rat} (ha:0<a) (hb:0<b) (dp:0<d) (h7:B*d+a*d<b*d') (hq:Uf q<=B) (hg:Uf g<d) (hh:d'<=Uf h) (he:a*f=q*g-b*h) (hd':0<d'):Uk h=-Uk f/\d<=Uf f:=by
 have h4:=Ff hq (Qq hg);rw [Tx] at h4;have had:=L9 ha dp;have h8:=Zu hh (Qq hb);rcases Fg h with ⟨s,p⟩ | ⟨s,p⟩ | ⟨s,p⟩
 ·have:Uf h=-h:=by unfold Uf; rw [if_pos p]
  rw [this] at h8;have h10:d<f:=Qm6 ha (by grind);rw [s,Gv.2 (show 0<f by grind)];exact ⟨rfl,by unfold Uf; split <;> grind⟩
 ·rw [p,Gu] at hh; grind
 ·have:Uf h=h:=by unfold Uf; rw [if_neg (by grind)]
  rw [this] at h8;have h10:f < -d:=Qm6 ha (by grind);rw [s,Rk.2 (show f<0 by grind)];exact ⟨rfl,by unfold Uf; split <;> grind⟩
theorem min2 {a b:Rat} (ha:0<a) (hb:0<b):∃ e:Rat,0<e/\e<=a/\e<=b:=by
 rcases Vj (a:=a) (b:=b) with h | h
 ·exact ⟨a,ha,Qp,h⟩
 ·exact ⟨b,hb,h,Qp⟩
theorem Up (a b:Rat):a<=b\/b<a:=by
 rcases Vj (a:=a) (b:=b) with h | h
 ·exact .inl h
 ·rcases Classical.em (a=b) with e | e
  ·exact .inl (by grind)
  ·exact .inr (by grind)
theorem Zjd {R:Rat} (hR:0<=R) {f g:List Rat} {l:List (List Rat)} (hc:SCl f g l):∃ d e:Rat,0<d/\0<e/\∀ x y,Uf x<=R->Uf y<=R->Uf (y-x)<=e ->
 (d<=Uf (ev f x)\/d<=Uf (ev g x))/\(d<=Uf (ev f x)->Uk (ev f y)=Uk (ev f x)/\Uk (ev f x)≠0)/\(d<=Uf (ev g x)->Uk (ev g y)=Uk (ev g x)/\Uk (ev g x)≠0) /\
 (Uk (ev f y)=Uk (ev f x)->Uk (ev f x)≠0->tc x (Uk (ev f x)) (g::l)=tc y (Uk (ev f x)) (g::l)) /\
 (Uk (ev g y)=Uk (ev g x)->Uk (ev g x)≠0->tc x (Uk (ev g x)) l=tc y (Uk (ev g x)) l):=by
 induction hc with
 |
  @base f g c hc hg =>
  have hd:=Mr hc;obtain ⟨e,e1,e2,e3⟩:=Fo (Ss hR f) hd;refine ⟨Uf c,e,hd,e1,λx y hx hy hxy=>⟨.inr (by rw [hg]; exact Qp),λh=>Ry h (Tr hx hy hR hxy e3),λh=>?_,λ_ _=>?_,λ_ _=>rfl⟩⟩
  ·rw [hg,hg]; exact ⟨rfl,λh=>hc (U4.1 h)⟩
  ·simp only [tc,hg]
 |
  @step f g h l a b q ha hb he hl ih =>
  obtain ⟨d',e',hd',he',ih⟩:=ih;obtain ⟨d1,d1p,_,d1b⟩:=Fo (b:=evB R q+a) (d:=b*d') (by have:=I3 hR q; grind) (L9 hb hd');obtain ⟨d,dp,hd1,hdd⟩:=min2 d1p hd';obtain ⟨ef,ef1,_,ef3⟩:=Fo (Ss hR f) dp;obtain ⟨eg,eg1,_,eg3⟩:=Fo (Ss hR g) dp;obtain ⟨e0,e0p,h1,h2⟩:=min2 ef1 eg1;obtain ⟨e,ep,h0,h3⟩:=min2 e0p he';have h1:=Zg h0 h1;have h2:=Zg h0 h2;refine ⟨d,e,dp,ep,λx y hx hy hxy=>?_⟩;obtain ⟨i1,i2,i3,i4,i5⟩:=ih x y hx hy (Zg hxy h3);have hsm:Uf (ev g x)<d->d'<=Uf (ev h x)/\Uk (ev h x)=-Uk (ev f x)/\d<=Uf (ev f x):=λhg=>by
   have hh:d'<=Uf (ev h x):=by
    rcases i1 with i | i
    ·exact absurd (Zg hdd i) (Jd.2 hg)
    ·exact i
   have h6:d*(evB R q+a)<=d1*(evB R q+a):=Q8 hd1 (by have:=I3 hR q; clear ih i1 i2 i3 i4 i5 he; grind);have h7:evB R q*d+a*d<b*d':=by clear ih i1 i2 i3 i4 i5 he; grind
   exact ⟨hh,Zj3 ha hb dp h7 (Qgn hx q) hg hh (he x) hd'⟩
  have hfs:d<=Uf (ev f x)->Uk (ev f y)=Uk (ev f x)/\Uk (ev f x)≠0:=λh=>Ry h (Tr hx hy hR (Zg hxy h1) ef3)
  have hgs:d<=Uf (ev g x)->Uk (ev g y)=Uk (ev g x)/\Uk (ev g x)≠0:=λh=>Ry h (Tr hx hy hR (Zg hxy h2) eg3)
  refine ⟨?_,hfs,hgs,λs1 s2=>?_,i4⟩
  ·rcases Up d (Uf (ev g x)) with h | h
   ·exact .inr h
   ·exact .inl (hsm h).2.2
  ·rcases Up d (Uf (ev g x)) with h | h
   ·obtain ⟨g1,g2⟩:=hgs h;rw [Qel (x:=x) (p:=g) g2,Qel (x:=y) (p:=g) (by rw [g1]; exact g2),g1,i4 g1 g2]
   ·obtain ⟨h4,h5,_⟩:=hsm h;obtain ⟨h6,h7⟩:=i3 h4;have i5:=i5 h6 h7;rw [Zbg h5 s2,Zbg (h6.trans h5) s2,<-h5,i5]
def Rt (p:List Rat) (x:Rat):Int:=if Uk (ev p x)≠0 then Uk (ev p x) else Uk (dv p x)
def vv (L:List (List Rat)) (x:Rat):Nat:=tc x 0 L
def Stm (f:List Rat) (L:List (List Rat)):Prop:=(∃ c:Rat,c≠0/\(∀ t,ev f t=c)/\L=[f])\/∃ g l,∃ k:Rat,0<k/\(∀ t,ev g t=k*dv f t)/\SCl f g l/\L=f::g::l
structure Sm (w:List Rat) (x y:Rat):Prop where
 s:Uk (ev w y)=Rt w x
 l:Rt w y=Rt w x
 n:Rt w x≠0
theorem Do {p:List Rat} {x:Rat} (h:Uk (ev p x)≠0):Rt p x=Uk (ev p x):=by unfold Rt; rw [if_pos h]
theorem Qww {p:List Rat} {x:Rat} (h:Uk (ev p x)=0):Rt p x=Uk (dv p x):=by unfold Rt; rw [if_neg (by simpa using h)]
theorem Qua {p:List Rat} {x y:Rat} (h:Uk (ev p y)=Uk (ev p x)) (h0:Uk (ev p x)≠0):Sm p x y:=by
 have h1:=Do h0;have h2:=Do (p:=p) (x:=y) (by rw [h]; exact h0);exact ⟨by rw [h,h1],by rw [h2,h1,h],by rw [h1]; exact h0⟩
theorem A0 {f w u:List Rat} (h:∀ t,ev f t=ev w t*ev u t) (x:Rat):dv f x=dv w x*ev u x+ev w x*dv u x:=by
 rw [<-Qo3]; exact Q7k (λt=>by rw [h,Uc]) x
theorem Q0i {f w u:List Rat} {x:Rat} (h:∀ t,ev f t=ev w t*ev u t) (hu:Uk (ev u x)≠0):Rt f x=Rt w x*Uk (ev u x):=by
 by_cases hw:Uk (ev w x)=0
 ·have hw0:=U4.1 hw;have e1:ev f x=0:=by rw [h,hw0]; grind
  have e2:dv f x=dv w x*ev u x:=by rw [A0 h,hw0]; grind
  rw [Qww hw,Qww (U4.2 e1),e2,H9]
 ·have e1:Uk (ev f x)=Uk (ev w x)*Uk (ev u x):=by rw [h,H9]
  rw [Do hw,Do (by rw [e1]; exact Jh hw hu),e1]
theorem Zj4 {f w u:List Rat} {x y:Rat} (h:∀ t,ev f t=ev w t*ev u t) (hu:Uk (ev u y)=Uk (ev u x)) (h0:Uk (ev u x)≠0) (hf:Sm f x y):Sm w x y:=by
 have e1:=Q0i h h0;have e2:=Q0i (x:=y) h (by rw [hu]; exact h0);have e3:Uk (ev f y)=Uk (ev w y)*Uk (ev u y):=by rw [h,H9]
 obtain ⟨s,l,n⟩:=hf;rw [hu] at e2 e3;refine ⟨?_,?_,λh=>n (by rw [e1,h,J7])⟩
 ·rw [e3,e1] at s; exact Int.eq_of_mul_eq_mul_right h0 s
 ·rw [e2,e1] at l; exact Int.eq_of_mul_eq_mul_right h0 l
theorem tc0 {x:Rat} {s:Int} {f g:List Rat} {l:List (List Rat)} (h:Uk (ev g x)=s) (hs:s≠0):tc x 0 (f::g::l)=(if Uk (ev f x)=-s then 1 else 0)+tc x s l:=by
 have hv:s=1\/s=-1:=by rcases Fg (ev g x) with ⟨e,_⟩ | ⟨e,_⟩ | ⟨e,_⟩ <;> omega
 have hg:Uk (ev g x)≠0:=by omega
 rw [tc];rcases Fg (ev f x) with ⟨e,_⟩ | ⟨e,_⟩ | ⟨e,_⟩ <;> rw [e] <;> rcases hv with rfl | rfl <;> simp [Qel hg,h]
theorem Qkg {R x y e d:Rat} {p:List Rat} (hx:Uf x<=R) (hy:Uf y<=R) (hR:0<=R) (hxy:x<y) (h:y-x<=e) (hd:d<=Uf (dv p x)) (he:e*ddB R p<d):Uk (ev p y-ev p x)=Uk (dv p x):=by
 have h1:=Zg5 p y x;have h2:ev p y-ev p x=(y-x)*(dv p x+(y-x)*dd p y x):=by rw [h1]; grind
 have h3:=Ff (x:=y-x) (y:=dd p y x) (a:=e) (b:=ddB R p) (by rw [Tx]; constructor <;> grind) (Q7c hy hx p);have h4:=Ry (b:=dv p x+(y-x)*dd p y x) hd (by
  have:dv p x+(y-x)*dd p y x-dv p x=(y-x)*dd p y x:=by grind
  rw [this]; exact Jd.1 λh=>absurd (Zg h h3) (Jd.2 he))
 rw [h2,H9,Gv.2 (show 0<y-x by grind),h4.1,Yw]
def Q4z (f w:List Rat) (L:List (List Rat)) (x y:Rat):Prop :=
 (vv L x=vv L y/\Sm f x y/\Sm w x y)\/(vv L x=vv L y+1/\Rt f x≠0/\Rt f y=-Rt f x/\Uk (ev f x)=Rt f x/\(Uk (ev f y)=0\/Uk (ev f y)=-Rt f x))
theorem Zg8 {R d:Rat} (hR:0<=R) (hd:0<d) {f w u:List Rat} (h:∀ t,ev f t=ev w t*ev u t):∃ e:Rat,0<e/\∀ x y,Uf x<=R->Uf y<=R->Uf (y-x)<=e->d<=Uf (ev f x)->Sm f x y/\Sm w x y:=by
 obtain ⟨ef,ef1,_,ef3⟩:=Fo (Ss hR f) hd;obtain ⟨d1,d1p,_,d1b⟩:=Fo (I3 hR u) hd;obtain ⟨ew,ew1,_,ew3⟩:=Fo (Ss hR w) d1p;obtain ⟨e,ep,e1,e2⟩:=min2 ef1 ew1;refine ⟨e,ep,λx y hx hy hxy hf=>⟨?_,?_⟩⟩
 ·have:=Ry hf (Tr hx hy hR (Zg hxy e1) ef3);exact Qua this.1 this.2
 ·have hw:d1<=Uf (ev w x):=by
   rcases Up d1 (Uf (ev w x)) with h' | h'
   ·exact h'
   ·have h5:=Ff (Qq h') (Qgn hx u);rw [<-h] at h5;exact absurd (Zg hf h5) (Jd.2 d1b)
  have:=Ry hw (Tr hx hy hR (Zg hxy e2) ew3);exact Qua this.1 this.2
theorem loc {R:Rat} (hR:0<=R) {f w u:List Rat} {L:List (List Rat)} (hc:Stm f L) (h:∀ t,ev f t=ev w t*ev u t):∃ e:Rat,0<e/\∀ x y,Uf x<=R->Uf y<=R->x<y->y-x<=e->Q4z f w L x y:=by
 rcases hc with ⟨c,hc,hf,rfl⟩ | ⟨g,l,k,hk,hg,hc,rfl⟩
 ·obtain ⟨e,ep,h1⟩:=Zg8 hR (Mr hc) h;refine ⟨e,ep,λx y hx hy hxy he=>.inl ⟨?_,h1 x y hx hy (by rw [Tx]; constructor <;> grind) (by rw [hf]; exact Qp)⟩⟩;simp only [vv,tc,hf]
 ·obtain ⟨d,e1,dp,e1p,h1⟩:=Zjd hR hc;obtain ⟨e2,e2p,h2⟩:=Zg8 hR dp h;obtain ⟨d3,d3p,_,d3b⟩:=Fo (b:=k) (d:=d) (Qq hk) dp;obtain ⟨e3,e3p,_,e3b⟩:=Fo (Qi9 hR f) d3p;obtain ⟨d4,d4p,_,d4b⟩:=Fo (b:=dqB R w+dqB R u) (d:=d3) (by have:=Ss hR w; have:=Ss hR u; grind) d3p;obtain ⟨e4,e4p,_,e4b⟩:=Fo (Ss hR w) d4p;obtain ⟨e5,e5p,_,e5b⟩:=Fo (Ss hR u) d4p;obtain ⟨a1,a1p,a11,a12⟩:=min2 e1p e2p;obtain ⟨a2,a2p,a21,a22⟩:=min2 e3p e4p;obtain ⟨a3,a3p,a31,a32⟩:=min2 a1p a2p;obtain ⟨e,ep,b1,b2⟩:=min2 a3p e5p;refine ⟨e,ep,λx y hx hy hxy he=>?_⟩;have hab:Uf (y-x)<=e:=by rw [Tx]; clear h1 h2; constructor <;> grind
  have hab1:Uf (y-x)<=e1:=by clear h1 h2; grind
  have hab2:Uf (y-x)<=e2:=by clear h1 h2; grind
  obtain ⟨i1,i2,i3,i4,i5⟩:=h1 x y hx hy hab1;rcases Up d (Uf (ev f x)) with hf | hf
  ·obtain ⟨s1,s2⟩:=h2 x y hx hy hab2 hf;obtain ⟨j1,j2⟩:=i2 hf;refine .inl ⟨?_,s1,s2⟩;have:=i4 j1 j2;simp only [vv];rw [Qel (x:=x) (p:=f) j2,Qel (x:=y) (p:=f) (by rw [j1]; exact j2),j1,this]
  ·have hg1:d<=Uf (ev g x):=by
    rcases i1 with i | i
    ·exact absurd i (Jd.2 hf)
    ·exact i
   obtain ⟨g1,g2⟩:=i3 hg1;have i5:=i5 g1 g2;have hD:d3<=Uf (dv f x):=by
    rcases Up d3 (Uf (dv f x)) with h' | h'
    ·exact h'
    ·have h5:=Ff (x:=k) (a:=k) (by unfold Uf; split <;> clear h1 h2 <;> grind) (Rat.le_of_lt h');rw [<-hg] at h5;have:k*d3=d3*k:=by grind
     exact absurd (Zg hg1 h5) (Jd.2 (by rw [this]; exact d3b))
   have hm:=Qkg hx hy hR hxy (by clear h1 h2; grind:y-x<=e3) hD e3b;have s1:Uk (ev g x)=Uk (dv f x):=by rw [hg,H9,Gv.2 hk,Yw]
   have s2:Uk (ev g y)=Uk (dv f y):=by rw [hg,H9,Gv.2 hk,Yw]
   obtain ⟨s,hs⟩:=nmE (Uk (ev g x));rw [<-hs] at g1 g2 i5 s1;rw [g1] at s2;have v1:=tc0 (f:=f) (l:=l) hs.symm g2;have v2:=tc0 (f:=f) (l:=l) g1 g2;rw [<-i5] at v2;rw [<-s1] at hm;have hw:Sm f x y->Sm w x y:=λhf=>by
    rcases Up d4 (Uf (ev u x)) with hu | hu
    ·have hu:=Ry hu (Tr hx hy hR (Zg hab b2) e5b);exact Zj4 h hu.1 hu.2 hf
    ·have hw:d4<=Uf (ev w x):=by
      rcases Up d4 (Uf (ev w x)) with h' | h'
      ·exact h'
      ·have q1:=Ff (x:=dv w x) (y:=ev u x) (a:=dqB R w) (by rw [<-Qo0]; exact Qr9 hx hx w) (Qq hu);have q2:=Ff (x:=ev w x) (y:=dv u x) (b:=dqB R u) (Qq h') (by rw [<-Qo0]; exact Qr9 hx hx u);have q3:=H6 (dv w x*ev u x) (ev w x*dv u x);rw [<-A0 h] at q3;have:d4*(dqB R w+dqB R u)=dqB R w*d4+d4*dqB R u:=by grind
       rw [this] at d4b;exact absurd (Zg hD (Zg q3 (by clear h1 h2; grind:_<=dqB R w*d4+d4*dqB R u))) (Jd.2 d4b)
     have hw:=Ry hw (Tr hx hy hR (Zg hab (by clear h1 h2; grind)) e4b);exact Qua hw.1 hw.2
   have lx:Rt f x=if Uk (ev f x)≠0 then Uk (ev f x) else s:=by rw [s1]; rfl
   have ly:Rt f y=if Uk (ev f y)≠0 then Uk (ev f y) else s:=by rw [s2]; rfl
   clear h1 h2 i1 i2 i3 i4;have hsv:s=1\/s=-1:=by rcases Fg (ev g x) with ⟨e,_⟩ | ⟨e,_⟩ | ⟨e,_⟩ <;> omega
   unfold Q4z;simp only [vv,v1,v2];rcases hsv with rfl | rfl
   ·have hm:=Gv.1 hm;rcases Fg (ev f x) with ⟨p1,p2⟩ | ⟨p1,p2⟩ | ⟨p1,p2⟩
    ·rcases Fg (ev f y) with ⟨q1,q2⟩ | ⟨q1,q2⟩ | ⟨q1,q2⟩
     ·rw [p1,q1]; have hsm:=Qua (p:=f) (x:=x) (y:=y) (by rw [p1,q1]) (by rw [p1]; decide);exact .inl ⟨rfl,hsm,hw hsm⟩
     ·rw [lx,ly,p1,q1]; refine .inr ⟨by simp; omega,by decide,by decide,by decide,by decide⟩
     ·rw [lx,ly,p1,q1]; refine .inr ⟨by simp; omega,by decide,by decide,by decide,by decide⟩
    ·have q1:=Gv.2 (show 0<ev f y by grind);have hsm:Sm f x y:=⟨by rw [lx,q1,p1]; rfl,by rw [lx,ly,q1,p1]; rfl,by rw [lx,p1]; decide⟩;rw [p1,q1]; exact .inl ⟨rfl,hsm,hw hsm⟩
    ·have q1:=Gv.2 (show 0<ev f y by grind);have hsm:Sm f x y:=⟨by rw [lx,q1,p1]; rfl,by rw [lx,ly,q1,p1],by rw [lx,p1]; decide⟩;rw [p1,q1]; exact .inl ⟨rfl,hsm,hw hsm⟩
   ·have hm:=Rk.1 hm;rcases Fg (ev f x) with ⟨p1,p2⟩ | ⟨p1,p2⟩ | ⟨p1,p2⟩
    ·have q1:=Rk.2 (show ev f y<0 by grind);have hsm:Sm f x y:=⟨by rw [lx,q1,p1]; rfl,by rw [lx,ly,q1,p1],by rw [lx,p1]; decide⟩;rw [p1,q1]; exact .inl ⟨rfl,hsm,hw hsm⟩
    ·have q1:=Rk.2 (show ev f y<0 by grind);have hsm:Sm f x y:=⟨by rw [lx,q1,p1]; rfl,by rw [lx,ly,q1,p1]; rfl,by rw [lx,p1]; decide⟩;rw [p1,q1]; exact .inl ⟨rfl,hsm,hw hsm⟩
    ·rcases Fg (ev f y) with ⟨q1,q2⟩ | ⟨q1,q2⟩ | ⟨q1,q2⟩
     ·rw [lx,ly,p1,q1]; refine .inr ⟨by simp; omega,by decide,by decide,by decide,by decide⟩
     ·rw [lx,ly,p1,q1]; refine .inr ⟨by simp; omega,by decide,by decide,by decide,by decide⟩
     ·rw [p1,q1]; have hsm:=Qua (p:=f) (x:=x) (y:=y) (by rw [p1,q1]) (by rw [p1]; decide);exact .inl ⟨rfl,hsm,hw hsm⟩
theorem Zn6 (z:Rat):∃ n:Nat,z<=(n:Rat):=by
 refine ⟨z.ceil.toNat,?_⟩;have h1:z<=(z.ceil:Rat):=Rat.le_ceil;have h2:(z.ceil:Rat)<=((z.ceil.toNat:Int):Rat):=Xx.2 (Int.self_le_toNat _);exact Zg h1 h2
theorem Is {z e:Rat} (he:0<e):∃ n:Nat,z<=(n:Rat)*e:=by
 obtain ⟨n,hn⟩:=Zn6 (z / e);exact ⟨n,by have:=Q8 hn (Qq he); rwa [Fi he] at this⟩
theorem Qdj {R x y t:Rat} (hx:Uf x<=R) (hy:Uf y<=R) (h1:x<=t) (h2:t<=y):Uf t<=R:=by
 rw [Tx] at *; constructor <;> grind
def Q14 (f w:List Rat) (L:List (List Rat)) (x y:Rat):Prop :=
 vv L y<=vv L x/\(vv L x=vv L y->Sm f x y/\Sm w x y)/\(vv L x=vv L y+1->Rt f x≠0/\Rt f y=-Rt f x)
theorem Q0g {f w:List Rat} {L:List (List Rat)} {x y:Rat} (h:Q4z f w L x y):Q14 f w L x y:=by
 rcases h with ⟨h1,h2,h3⟩ | ⟨h1,h2,h3,_⟩
 ·exact ⟨by omega,λ_=>⟨h2,h3⟩,λh=>by omega⟩
 ·exact ⟨by omega,λh=>by omega,λ_=>⟨h2,h3⟩⟩
theorem Qub {w:List Rat} {x y z:Rat} (h1:Sm w x y) (h2:Sm w y z):Sm w x z:=⟨by rw [h2.s,h1.l],by rw [h2.l,h1.l],h1.n⟩
theorem Qwu {f w:List Rat} {L:List (List Rat)} {x y z:Rat} (h:Q14 f w L x y) (h':Q14 f w L y z):Q14 f w L x z:=by
 obtain ⟨a1,a2,a3⟩:=h;obtain ⟨b1,b2,b3⟩:=h';refine ⟨by omega,λh=>?_,λh=>?_⟩
 ·obtain ⟨s1,s2⟩:=a2 (by omega);obtain ⟨s3,s4⟩:=b2 (by omega);exact ⟨Qub s1 s3,Qub s2 s4⟩
 ·by_cases e:vv L x=vv L y
  ·obtain ⟨s1,_⟩:=a2 e;obtain ⟨s3,s4⟩:=b3 (by omega);exact ⟨s1.n,by rw [s4,s1.l]⟩
  ·obtain ⟨s3,s4⟩:=a3 (by omega);obtain ⟨s1,_⟩:=b2 (by omega);exact ⟨s3,by rw [s1.l,s4]⟩
theorem Zi3 {R:Rat} (hR:0<=R) {f w u:List Rat} {L:List (List Rat)} (hc:Stm f L) (h:∀ t,ev f t=ev w t*ev u t) {x y:Rat} (hx:Uf x<=R) (hy:Uf y<=R) (hxy:x<y):Q14 f w L x y:=by
 obtain ⟨e,ep,hl⟩:=loc hR hc h;have key:∀ n:Nat,∀ x,Uf x<=R->x<y->y-x<=(n:Rat)*e->Q14 f w L x y:=by
  intro n
  induction n with
  | zero =>
   intro x hx hxy h; exfalso; have:((0:Nat):Rat)*e=0:=by simp
   grind
  |
   succ n ih =>
   intro x hx hxy hn;rcases Up (y-x) e with h1 | h1
   ·exact Q0g (hl x y hx hy hxy h1)
   ·have hm:Uf (x+e)<=R:=Qdj hx hy (by clear hl ih; grind) (by clear hl ih; grind);have hn':(((n+1:Nat):Rat))=(n:Rat)+1:=by push_cast; rfl
    refine Qwu (Q0g (hl x (x+e) hx hm (by clear hl ih; grind) (by clear hl ih; grind))) (ih (x+e) hm (by clear hl ih; grind) ?_);rw [hn'] at hn;clear hl ih; grind
 obtain ⟨n,hn⟩:=Is (z:=y-x) ep;exact key n x hx hxy hn
theorem Qoa (x y:Rat):∃ R:Rat,0<=R/\Uf x<=R/\Uf y<=R:=by
 refine ⟨Uf x+Uf y,?_,?_,?_⟩ <;> (have:=Gh x; have:=Gh y; grind)
theorem Hd (t:Rat):ev [1] t=1:=by simp only [ev]; grind
theorem D2 {f:List Rat} {L:List (List Rat)} (hc:Stm f L) {x y:Rat} (hxy:x<y):vv L y<=vv L x:=by
 obtain ⟨R,hR,hx,hy⟩:=Qoa x y;exact (Zi3 hR hc (w:=f) (u:=[1]) (λt=>by rw [Hd]; grind) hx hy hxy).1
theorem Qbt {f w u:List Rat} {L:List (List Rat)} (hc:Stm f L) (h:∀ t,ev f t=ev w t*ev u t) {x y:Rat} (hxy:x<y) (he:vv L x=vv L y):Sm w x y:=by
 obtain ⟨R,hR,hx,hy⟩:=Qoa x y;exact ((Zi3 hR hc h hx hy hxy).2.1 he).2
theorem Qq2 {f:List Rat} {L:List (List Rat)} (hc:Stm f L) {x y:Rat} (hxy:x<y) (he:vv L x=vv L y):Sm f x y :=
 Qbt hc (w:=f) (u:=[1]) (λt=>by rw [Hd]; grind) hxy he
theorem Qq1 {f:List Rat} {L:List (List Rat)} (hc:Stm f L) {x y:Rat} (hxy:x<y) (he:vv L x=vv L y+1):Rt f x≠0/\Rt f y=-Rt f x:=by
 obtain ⟨R,hR,hx,hy⟩:=Qoa x y;exact (Zi3 hR hc (w:=f) (u:=[1]) (λt=>by rw [Hd]; grind) hx hy hxy).2.2 he
theorem Zbo {f:List Rat} {L:List (List Rat)} (hc:Stm f L) (R:Rat) (hR:0<=R):∃ e:Rat,0<e/\∀ x y,Uf x<=R->Uf y<=R->x<y->y-x<=e->vv L x<=vv L y+1:=by
 obtain ⟨e,ep,hl⟩:=loc hR hc (w:=f) (u:=[1]) (λt=>by rw [Hd]; grind);refine ⟨e,ep,λx y hx hy hxy he=>?_⟩;rcases hl x y hx hy hxy he with ⟨h,_⟩ | ⟨h,_⟩ <;> omega
theorem Qbe {p:List Rat} {x:Rat} (h:Uk (ev p x)≠0):∃ e:Rat,0<e/\∀ y,Uf (y-x)<=e->Uk (ev p y)=Uk (ev p x):=by
 have hd:=Mr (x:=ev p x) λh0=>h (U4.2 h0)
 have hR:0<=Uf x+1:=by have:=Gh x; grind
 obtain ⟨e,e1,e2,e3⟩:=Fo (Ss hR p) hd;refine ⟨e,e1,λy hy=>(Ry Qp (Tr (x:=x) (by grind) ?_ hR hy e3)).1⟩;have:=H6 (y-x) x;have e:y-x+x=y:=by grind
 rw [e] at this; grind
theorem Zhg {R M:Rat} {p:List Rat} (hM:M=ddB R p) (hR:0<=R) {h:Rat} (hh:0<h):∀ (n:Nat) (x:Rat),Uf x<=R->Uf (x+(n:Rat)*h)<=R->(∀ t,x<=t->t<=x+(n:Rat)*h->0<=dv p t)->ev p x-(n:Rat)*(h*h*M)<=ev p (x+(n:Rat)*h)
 |
  0,x,_,_,_=>by
  have e1:x+((0:Nat):Rat)*h=x:=by rw [show ((0:Nat):Rat)=0 from rfl]; grind
  have e2:((0:Nat):Rat)*(h*h*M)=0:=by simp
  rw [e1,e2]; grind
 |
  n+1,x,hx,hy,hd=>by
  have hn':(((n+1:Nat):Rat))=(n:Rat)+1:=by push_cast; rfl
  rw [hn'] at hy hd ⊢;have hn0:(0:Rat)<=(n:Rat):=Xi;have hnh:=Pm hn0 (Qq hh);have e1:x+((n:Rat)+1)*h=(x+h)+(n:Rat)*h:=by grind
  rw [e1] at hy hd ⊢;have hxh:Uf (x+h)<=R:=Qdj hx hy (by clear hd; grind) (by clear hd; grind);have ih:=Zhg hM hR hh n (x+h) hxh hy λt h1 h2=>hd t (by clear hd; grind) h2
  have h0:=hd x Qp (by clear hd; grind);have h1:=Zg5 p (x+h) x;have h2:=Q7c hxh hx p;rw [<-hM,Tx] at h2;have h3:=Zu h2.1 (Pm (Qq hh) (Qq hh));have h4:=Pm (Qq hh) h0;have e2:x+h-x=h:=by grind
  rw [e2] at h1;clear hd hx hy hxh;grind
theorem Zmd {p:List Rat} {x y:Rat} (hxy:x<y) (hd:∀ t,x<=t->t<=y->0<=dv p t):ev p x<=ev p y:=by
 obtain ⟨R,hR,hx,hy⟩:=Qoa x y;rcases Up (ev p x) (ev p y) with h | h
 ·exact h
 ·exfalso;obtain ⟨M,hM⟩:=nmE (ddB R p);have hM0:=Qi9 hR p;rw [<-hM] at hM0;obtain ⟨e,ep,_,he⟩:=Fo (b:=(y-x)*M) (d:=ev p x-ev p y) (Pm (by grind) hM0) (by grind);obtain ⟨n,hn⟩:=Is (z:=y-x) ep;have hn0:0<(n:Rat):=by
   rcases Up (n:Rat) 0 with h' | h'
   ·have:=Q8 h' (Qq ep); clear hd; grind
   ·exact h'
  have hh:0<(y-x) / n:=De (by grind) hn0;have e1:(n:Rat)*((y-x) / n)=y-x:=by rw [Wo]; exact Fi hn0
  have e2:x+(n:Rat)*((y-x) / n)=y:=by rw [e1]; grind
  have h1:=Zhg hM hR hh n x hx (by rw [e2]; exact hy) (by rw [e2]; exact hd);rw [e2] at h1;have h2:(y-x) / n<=e:=by
   rcases Up ((y-x) / n) e with h' | h'
   ·exact h'
   ·have:=Rat.mul_lt_mul_of_pos_left h' hn0; clear hd; grind
  have h3:(n:Rat)*((y-x) / n*((y-x) / n)*M)=((y-x) / n)*((y-x)*M):=by
   have:(n:Rat)*((y-x) / n*((y-x) / n)*M)=((n:Rat)*((y-x) / n))*(((y-x) / n)*M):=by grind
   rw [this,e1]; grind
  have h4:=Q8 h2 (Pm (x:=y-x) (y:=M) (by grind) hM0);rw [h3] at h1;clear hd; grind
theorem Zfh {p:List Rat} {x y:Rat} (hxy:x<y) (hd:∀ t,x<=t->t<=y->0<dv p t):ev p x<ev p y:=by
 have hx:=hd x Qp (by grind);have hR:0<=Uf x+1:=by have:=Gh x; grind
 obtain ⟨e,e1,e2,e3⟩:=Fo (Qi9 hR p) hx;obtain ⟨f,f1,f2,f3⟩:=min2 (a:=e) (b:=y-x) e1 (by grind);have hq:Uf (x+f)<=Uf x+1:=by
  have:=H6 x f; have:Uf f=f:=by unfold Uf; split <;> grind
  clear hd; grind
 have h1:=Qkg (p:=p) (x:=x) (y:=x+f) (R:=Uf x+1) (e:=e) (d:=dv p x) (by clear hd; grind) hq hR (by grind) (by grind) (by unfold Uf; split <;> clear hd <;> grind) e3;rw [Gv.2 hx,Gv] at h1;rcases Classical.em (x+f=y) with e | e
 ·rw [<-e]; clear hd; grind
 ·have:=Zmd (p:=p) (x:=x+f) (y:=y) (by clear hd; grind) λt h1 h2=>Qq (hd t (by clear hd; grind) h2)
  clear hd; grind
structure Cut (c:Rat->Int):Prop where
 val:∀ q,c q=1\/c q=0\/c q=-1
 mono:∀ q r,q<r->c q≠1->c r=-1
 up:∀ q,c q=1->∃ r,q<r/\c r=1
 dn:∀ q,c q=-1->∃ r,r<q/\c r=-1
 lo:∃ q,c q=1
 hi:∃ q,c q=-1
theorem Cut.mono' {c:Rat->Int} (h:Cut c) {q r:Rat} (hqr:q<r) (hr:c r≠-1):c q=1:=by
 rcases Classical.em (c q=1) with e | e
 ·exact e
 ·exact absurd (h.mono q r hqr e) hr
theorem Cut.lt {c:Rat->Int} (h:Cut c) {q r:Rat} (hq:c q=1) (hr:c r=-1):q<r:=by
 rcases Up r q with e | e
 ·rcases Classical.em (r=q) with e' | e'
  ·rw [e'] at hr; omega
  ·have:=h.mono r q (by grind) (by omega); omega
 ·exact e
theorem Cut.near {c:Rat->Int} (h:Cut c) {e:Rat} (he:0<e):∃ x y,c x=1/\c y=-1/\y-x<=e:=by
 obtain ⟨a,ha⟩:=h.lo;obtain ⟨b,hb⟩:=h.hi;have he2:0<e / 2:=De he (by decide);have h2:e / 2*2=e:=Fi (by decide);have key:∀ (n:Nat) (a:Rat),c a=1->b-a<=(n:Rat)*(e / 2)->∃ x y,c x=1/\c y=-1/\y-x<=e:=by
  intro n
  induction n with
  |
   zero =>
   intro a ha hn;have:=h.lt ha hb;rw [show ((0:Nat):Rat)=0 from rfl] at hn;exfalso; grind
  |
   succ n ih =>
   intro a ha hn;have hn':(((n+1:Nat):Rat))=(n:Rat)+1:=by push_cast; rfl
   rw [hn'] at hn;rcases h.val (a+e / 2) with h1 | h1 | h1
   ·exact ih _ h1 (by grind)
   ·exact ⟨a,a+e,ha,h.mono (a+e / 2) _ (by grind) (by omega),by grind⟩
   ·exact ⟨a,a+e / 2,ha,h1,by grind⟩
 obtain ⟨n,hn⟩:=Is (z:=b-a) he2;exact key n a ha hn
def Eg (p:List Rat) (c:Rat->Int):Prop:=∀ d:Rat,0<d->∃ x y,c x=1/\c y=-1/\∀ q,x<=q->q<=y->Uf (ev p q)<d
def NZ (p:List Rat) (c:Rat->Int) (s:Int):Prop:=∃ d:Rat,0<d/\∃ x y,c x=1/\c y=-1/\∀ q,x<=q->q<=y->Uk (ev p q)=s/\d<=Uf (ev p q)
def Nr (c:Rat->Int) (P:Rat->Prop):Prop:=∃ x y,c x=1/\c y=-1/\∀ q,x<=q->q<=y->P q
theorem Qwz {c:Rat->Int} {P Q:Rat->Prop} (h1:Nr c P) (h2:Nr c Q):Nr c λq=>P q/\Q q:=by
 obtain ⟨x,y,a1,a2,a3⟩:=h1;obtain ⟨x',y',b1,b2,b3⟩:=h2;refine ⟨if x<=x' then x' else x,if y<=y' then y else y',by split <;> assumption,by split <;> assumption,λq q1 q2=>⟨a3 q ?_ ?_,b3 q ?_ ?_⟩⟩ <;> clear a3 b3 <;> grind
theorem Qh3 {c:Rat->Int} {P Q:Rat->Prop} (h1:Nr c P) (h:∀ q,P q->Q q):Nr c Q:=by
 obtain ⟨x,y,a1,a2,a3⟩:=h1;exact ⟨x,y,a1,a2,λq q1 q2=>h q (a3 q q1 q2)⟩
theorem Qs9 {c:Rat->Int} (hc:Cut c) {P:Rat->Prop} (h1:Nr c P):∃ q,P q/\c q=1:=by
 obtain ⟨x,y,a1,a2,a3⟩:=h1;exact ⟨x,a3 x Qp (Qq (hc.lt a1 a2)),a1⟩
theorem Q88 {c:Rat->Int} (hc:Cut c) {e:Rat} (he:0<e) {P:Rat->Prop} (h1:Nr c P):∃ x y,c x=1/\c y=-1/\y-x<=e/\x<y/\∀ q,x<=q->q<=y->P q:=by
 obtain ⟨x,y,a1,a2,a3⟩:=h1;obtain ⟨x',y',b1,b2,b3⟩:=hc.near he;refine ⟨if x<=x' then x' else x,if y<=y' then y else y',by split <;> assumption,by split <;> assumption,by clear a3; grind,hc.lt (by split <;> assumption) (by split <;> assumption),λq q1 q2=>a3 q ?_ ?_⟩ <;> clear a3 <;> grind
theorem Zhf {c:Rat->Int} (hc:Cut c):∃ R:Rat,0<=R/\Nr c λq=>Uf q<=R:=by
 obtain ⟨x,y,a1,a2,_⟩:=hc.near (e:=1) (by decide);obtain ⟨R,hR,h1,h2⟩:=Qoa x y;exact ⟨R,hR,x,y,a1,a2,λq q1 q2=>Qdj h1 h2 q1 q2⟩
theorem Qaf {c:Rat->Int} (hc:Cut c) (p:List Rat):Eg p c\/∃ s,s≠0/\NZ p c s:=by
 rcases Classical.em (Eg p c) with h | h
 ·exact .inl h
 ·refine .inr ?_;obtain ⟨d,hd0⟩:=Classical.not_forall.1 h;obtain ⟨dp,hd⟩:=Classical.not_imp.1 hd0;have hd:∀ x y,c x=1->c y=-1->∃ q,x<=q/\q<=y/\d<=Uf (ev p q):=λx y hx hy=>by
   rcases Classical.em (∃ q,x<=q/\q<=y/\d<=Uf (ev p q)) with h' | h'
   ·exact h'
   ·refine absurd ⟨x,y,hx,hy,λq h1 h2=>?_⟩ hd;rcases Up d (Uf (ev p q)) with h3 | h3
    ·exact absurd ⟨q,h1,h2,h3⟩ h'
    ·exact h3
  obtain ⟨R,hR,hn⟩:=Zhf hc;have hd2:0<d / 2:=De dp (by decide);have h2:d / 2*2=d:=Fi (by decide);obtain ⟨e,e1,_,e3⟩:=Fo (Ss hR p) hd2;obtain ⟨x,y,hx,hy,hxy,_,hq⟩:=Q88 hc e1 hn;obtain ⟨r,r1,r2,r3⟩:=hd x y hx hy;have key:∀ q,x<=q->q<=y->Uf (ev p q-ev p r)<d / 2:=λq q1 q2 =>
   Tr (hq r r1 r2) (hq q q1 q2) hR (by rw [Tx]; clear hq hd; constructor <;> grind) e3
  refine ⟨Uk (ev p r),λh0=>?_,d / 2,hd2,x,y,hx,hy,λq q1 q2=>⟨(Ry (d:=d) r3 ?_).1,?_⟩⟩
  ·rw [U4.1 h0,Gu] at r3; clear hq hd key; grind
  ·have:=key q q1 q2; clear hq hd key; grind
  ·have h3:=key q q1 q2;have h4:=H6 (ev p r-ev p q) (ev p q);rw [show ev p r-ev p q+ev p q=ev p r from by clear hq hd key; grind,Q1f] at h4;clear hq hd key; grind
theorem Zkj {c:Rat->Int} (hc:Cut c) {p:List Rat} {s:Int} (h1:Eg p c) (h2:NZ p c s):False:=by
 obtain ⟨d,dp,h2⟩:=h2;obtain ⟨q,⟨a,b⟩,_⟩:=Qs9 hc (Qwz (h1 d dp) h2);exact absurd b.2 (Jd.2 a)
theorem Tg {c:Rat->Int} (hc:Cut c) {f p q:List Rat} (hf:∀ t,ev f t=ev p t*ev q t) (h:Eg p c):Eg f c:=by
 intro d dp;obtain ⟨R,hR,hn⟩:=Zhf hc;obtain ⟨e,e1,_,e3⟩:=Fo (I3 hR q) dp;refine Qh3 (Qwz hn (h e e1)) λt ⟨h1,h2⟩=>?_
 rw [hf];have:=Ff (Qq h2) (Qgn h1 q);exact Jd.1 λh=>absurd (Zg h this) (Jd.2 e3)
theorem Qil {c:Rat->Int} {f p q:List Rat} (hf:∀ t,ev f t=ev p t+ev q t) (h:Eg p c) (h':Eg q c):Eg f c:=by
 intro d dp;have hd2:0<d / 2:=De dp (by decide);have h2:d / 2*2=d:=Fi (by decide);refine Qh3 (Qwz (h _ hd2) (h' _ hd2)) λt ⟨h1,h2⟩=>?_
 rw [hf];have:=H6 (ev p t) (ev q t);grind
def RS (p:List Rat) (c:Rat->Int) (s:Int):Prop:=∃ y,c y=-1/\∀ q,c q=-1->q<=y->Uk (ev p q)=s
def LS (p:List Rat) (c:Rat->Int) (s:Int):Prop:=∃ x,c x=1/\∀ q,c q=1->x<=q->Uk (ev p q)=s
theorem Qnp {c:Rat->Int} (hc:Cut c) {p:List Rat} {s:Int} (h:NZ p c s):RS p c s:=by
 obtain ⟨d,dp,x,y,a1,a2,a3⟩:=h;exact ⟨y,a2,λq h1 h2=>(a3 q (Qq (hc.lt a1 h1)) h2).1⟩
theorem Q0j {c:Rat->Int} (hc:Cut c) {p:List Rat} {s:Int} (h:NZ p c s):LS p c s:=by
 obtain ⟨d,dp,x,y,a1,a2,a3⟩:=h;exact ⟨x,a1,λq h1 h2=>(a3 q h2 (Qq (hc.lt h1 a2))).1⟩
theorem Qeb {c:Rat->Int} {p:List Rat} {s s':Int} (h:RS p c s) (h':RS p c s'):s=s':=by
 obtain ⟨y,a1,a2⟩:=h;obtain ⟨y',b1,b2⟩:=h';rcases Up y y' with e | e
 ·rw [<-a2 y a1 Qp,<-b2 y a1 e]
 ·rw [<-a2 y' b1 (Qq e),<-b2 y' b1 Qp]
theorem Zhj {c:Rat->Int} (hc:Cut c) {p:List Rat} (hv:Eg p c) {y:Rat} (hy:c y=-1) (h:∀ q,c q=-1->q<=y->0<dv p q) (q:Rat) (hq:c q=-1) (hqy:q<=y):0<ev p q:=by
 rcases Up (ev p q) 0 with h0 | h0
 ·exfalso;obtain ⟨r,r1,r2⟩:=hc.dn q hq;have hr:ev p r<ev p q:=Zfh r1 λt t1 t2=>h t (by
   rcases Classical.em (r=t) with e | e
   ·rw [<-e]; exact r2
   ·exact hc.mono r t (by clear h; grind) (by omega)) (Zg t2 hqy)
  obtain ⟨a,b,ha,hb,hab⟩:=hv (-ev p r) (by clear h; grind);obtain ⟨m,hm1,hm2,hm3⟩:∃ m,c m=-1/\m<=b/\m<=r:=by
   rcases Up b r with e | e
   ·exact ⟨b,hb,Qp,e⟩
   ·exact ⟨r,r2,Qq e,Qp⟩
  have h1:=hab m (Qq (hc.lt ha hm1)) hm2;have h2:ev p m<=ev p r:=by
   rcases Classical.em (m=r) with e | e
   ·rw [e]; exact Qp
   ·exact Qq (Zfh (by clear h hab; grind) λt t1 t2=>h t (by
     rcases Classical.em (m=t) with e | e
     ·rw [<-e]; exact hm1
     ·exact hc.mono m t (by clear h hab; grind) (by omega)) (by clear h hab; grind))
  rw [Qqa] at h1;clear h hab; grind
 ·exact h0
theorem Qqh {c:Rat->Int} (hc:Cut c) {p:List Rat} {s:Int} (hv:Eg p c) (h:RS (Pn p) c s) (hs:s≠0):RS p c s:=by
 obtain ⟨y,hy,h⟩:=h;have hsv:s=1\/s=-1:=by
  have:=h y hy Qp;rcases Fg (ev (Pn p) y) with ⟨e,_⟩ | ⟨e,_⟩ | ⟨e,_⟩ <;> omega
 rcases hsv with rfl | rfl
 ·refine ⟨y,hy,λq h1 h2=>Gv.2 (Zhj hc hv hy (λq h1 h2=>?_) q h1 h2)⟩;rw [<-Hm]; exact Gv.1 (h q h1 h2)
 ·refine ⟨y,hy,λq h1 h2=>Rk.2 ?_⟩;have:=Zhj hc (p:=Ba (-1) p) (y:=y) (λd dp=>Qh3 (hv d dp) λq hq=>by rw [Uw,show -1*ev p q=-ev p q by grind,Ck]; exact hq) hy (λq h1 h2=>by
   rw [Qfb,<-Hm];have:=Rk.1 (h q h1 h2); grind) q h1 h2
  rw [Uw] at this; grind
theorem Zhc {c:Rat->Int} (hc:Cut c) {p:List Rat} (hv:Eg p c) {x:Rat} (hx:c x=1) (h:∀ q,c q=1->x<=q->0<dv p q) (q:Rat) (hq:c q=1) (hxq:x<=q):ev p q<0:=by
 rcases Up 0 (ev p q) with h0 | h0
 ·exfalso;obtain ⟨r,r1,r2⟩:=hc.up q hq;have hr:ev p q<ev p r:=Zfh r1 λt t1 t2=>h t (by
   rcases Classical.em (t=r) with e | e
   ·rw [e]; exact r2
   ·exact hc.mono' (q:=t) (r:=r) (by clear h; grind) (by omega)) (Zg hxq t1)
  obtain ⟨a,b,ha,hb,hab⟩:=hv (ev p r) (by clear h; grind);obtain ⟨m,hm1,hm2,hm3⟩:∃ m,c m=1/\a<=m/\r<=m:=by
   rcases Up a r with e | e
   ·exact ⟨r,r2,e,Qp⟩
   ·exact ⟨a,ha,Qp,Qq e⟩
  have h1:=hab m hm2 (Qq (hc.lt hm1 hb));have h2:ev p r<=ev p m:=by
   rcases Classical.em (r=m) with e | e
   ·rw [e]; exact Qp
   ·exact Qq (Zfh (by clear h hab; grind) λt t1 t2=>h t (by
     rcases Classical.em (t=m) with e | e
     ·rw [e]; exact hm1
     ·exact hc.mono' (q:=t) (r:=m) (by clear h hab; grind) (by omega)) (by clear h hab; grind))
  rw [Qqa] at h1;clear h hab; grind
 ·exact h0
theorem Q8t {c:Rat->Int} (hc:Cut c) {p:List Rat} {s:Int} (hv:Eg p c) (h:LS (Pn p) c s) (hs:s≠0):LS p c (-s):=by
 obtain ⟨x,hx,h⟩:=h;have hsv:s=1\/s=-1:=by
  have:=h x hx Qp;rcases Fg (ev (Pn p) x) with ⟨e,_⟩ | ⟨e,_⟩ | ⟨e,_⟩ <;> omega
 rcases hsv with rfl | rfl
 ·refine ⟨x,hx,λq h1 h2=>Rk.2 (Zhc hc hv hx (λq h1 h2=>?_) q h1 h2)⟩;rw [<-Hm]; exact Gv.1 (h q h1 h2)
 ·refine ⟨x,hx,λq h1 h2=>Gv.2 ?_⟩;have:=Zhc hc (p:=Ba (-1) p) (x:=x) (λd dp=>Qh3 (hv d dp) λq hq=>by rw [Uw,show -1*ev p q=-ev p q by grind,Ck]; exact hq) hx (λq h1 h2=>by
   rw [Qfb,<-Hm];have:=Rk.1 (h q h1 h2); grind) q h1 h2
  rw [Uw] at this; grind
theorem Zfo {c:Rat->Int} (hc:Cut c) {f g:List Rat} {l:List (List Rat)} (h:SCl f g l):Eg f c->Eg g c->False:=by
 induction h with
 |
  @base f g k hk hg =>
  intro _ hv;obtain ⟨q,hq,_⟩:=Qs9 hc (hv (Uf k) (Mr hk));rw [hg] at hq; grind
 |
  @step f g h l a b q ha hb he hl ih =>
  intro hf hg;refine ih hg ?_;have h1:Eg (Fa q g) c:=Tg hc (p:=g) (q:=q) (λt=>by rw [Uc]; grind) hg;have h2:Eg (Ba (-a) f) c:=Tg hc (p:=f) (q:=[-a]) (λt=>by rw [Uw]; simp only [ev]; grind) hf;have h3:Eg (H7 (Fa q g) (Ba (-a) f)) c:=Qil (λt=>U7 t _ _) h1 h2;refine Tg hc (p:=H7 (Fa q g) (Ba (-a) f)) (q:=[1 / b]) (λt=>?_) h3;have:=he t;rw [U7,Uc,Uw];simp only [ev];have hbb:1 / b*b=1:=Fi hb;have:ev q t*ev g t+-a*ev f t=b*ev h t:=by rw [show -a*ev f t=-(a*ev f t) by grind,he t]; grind
  rw [this];have:b*ev h t*(1 / b+t*0)=ev h t*(1 / b*b):=by grind
  rw [this,hbb]; grind
theorem Qn5 {c:Rat->Int} (hc:Cut c) {f g:List Rat} {k:Rat} (h:∀ t,ev g t=k*ev f t) (hv:Eg f c):Eg g c :=
 Tg hc (p:=f) (q:=[k]) (λt=>by rw [h]; simp only [ev]; grind) hv
theorem Zfz {c:Rat->Int} (hc:Cut c) {f:List Rat} {L:List (List Rat)} (h:Stm f L) (hv:Eg f c):∃ s,s≠0/\NZ (Pn f) c s:=by
 rcases Qaf hc (Pn f) with h1 | h1
 ·exfalso;rcases h with ⟨k,hk,hf,_⟩ | ⟨g,l,k,hk,hg,h,_⟩
  ·obtain ⟨q,hq,_⟩:=Qs9 hc (hv (Uf k) (Mr hk));rw [hf] at hq; grind
  ·exact Zfo hc h hv (Qn5 hc (λt=>by rw [hg,Hm]) h1)
 ·exact h1
theorem Qzn {c:Rat->Int} (hc:Cut c) {f w u:List Rat} {L:List (List Rat)} (h:Stm f L) (hf:∀ t,ev f t=ev w t*ev u t) (hv:Eg w c):∃ s,s≠0/\NZ (Pn w) c s:=by
 rcases Qaf hc (Pn w) with h1 | h1
 ·exfalso;obtain ⟨s,_,hs⟩:=Zfz hc h (Tg hc hf hv);refine Zkj hc ?_ hs;have a1:Eg (Fa (Pn w) u) c:=Tg hc (λt=>Uc t _ _) h1;have a2:Eg (Fa w (Pn u)) c:=Tg hc (λt=>Uc t _ _) hv;refine Qil (λt=>?_) a1 a2;rw [Hm,A0 hf,Uc,Uc,Hm,Hm]
 ·exact h1
theorem Q69 {c:Rat->Int} (hc:Cut c) {q:Rat} (h:c q=0) {x y:Rat} (hx:c x=1) (hy:c y=-1):x<=q/\q<=y:=by
 constructor
 ·rcases Up x q with e | e
  ·exact e
  ·have:=hc.mono q x e (by omega); omega
 ·rcases Up q y with e | e
  ·exact e
  ·have:=hc.mono y q e (by omega); omega
theorem Qgd {c:Rat->Int} (hc:Cut c) {p:List Rat} {q:Rat} (h:c q=0) (hv:Eg p c):ev p q=0:=by
 rcases Classical.em (ev p q=0) with e | e
 ·exact e
 ·obtain ⟨x,y,hx,hy,hq⟩:=hv _ (Mr e);obtain ⟨h1,h2⟩:=Q69 hc h hx hy;have:=hq q h1 h2; grind
theorem Qtc {c:Rat->Int} (hc:Cut c) {p:List Rat} {q:Rat} {s:Int} (h:c q=0) (hv:NZ p c s):Uk (ev p q)=s:=by
 obtain ⟨d,dp,x,y,hx,hy,hq⟩:=hv;obtain ⟨h1,h2⟩:=Q69 hc h hx hy;exact (hq q h1 h2).1
theorem Qv6 {c:Rat->Int} (hc:Cut c) {y z:Rat} (hy:c y=-1) (hz:c z=-1):∃ q,c q=-1/\q<y/\q<z:=by
 obtain ⟨a,a1,a2⟩:=hc.dn y hy;obtain ⟨b,b1,b2⟩:=hc.dn z hz;rcases Up a b with e | e
 ·exact ⟨a,a2,a1,by grind⟩
 ·exact ⟨b,b2,by grind,b1⟩
theorem Qi6 {c:Rat->Int} (hc:Cut c) {y z:Rat} (hy:c y=1) (hz:c z=1):∃ q,c q=1/\y<q/\z<q:=by
 obtain ⟨a,a1,a2⟩:=hc.up y hy;obtain ⟨b,b1,b2⟩:=hc.up z hz;rcases Up a b with e | e
 ·exact ⟨b,b2,by grind,b1⟩
 ·exact ⟨a,a2,a1,by grind⟩
theorem Q87 {f w u:List Rat} {L:List (List Rat)} (h:Stm f L) (hf:∀ t,ev f t=ev w t*ev u t) {x y:Rat} (hv:vv L x=vv L y) {c:Rat->Int} (hc:Cut c) (hx:c x=1) (hy:c y≠1):¬Eg w c:=λhw=>by
 have hxy:x<y:=by
  rcases Up y x with e | e
  ·rcases Classical.em (y=x) with e' | e'
   ·rw [e'] at hy; exact absurd hx hy
   ·have:=hc.mono y x (by grind) hy; omega
  ·exact e
 have hwv:=Qbt h hf hxy hv;rcases hc.val y with e | e | e
 ·exact hy e
 ·have:=Qgd hc e hw;have:=hwv.s;rw [U4.2 (by assumption)] at this;exact hwv.n this.symm
 ·obtain ⟨s,hs,hd⟩:=Qzn hc h hf hw;obtain ⟨a,ha,hal⟩:=Q8t hc hw (Q0j hc hd) hs;obtain ⟨b,hb,hbr⟩:=Qqh hc hw (Qnp hc hd) hs;obtain ⟨q,q1,q2,q3⟩:=Qi6 hc hx ha;obtain ⟨r,r1,r2,r3⟩:=Qv6 hc hb e;have e1:=hal q q1 (Qq q3);have e2:=hbr r r1 (Qq r2);have hqr:=hc.lt q1 r1;have v1:vv L q<=vv L x:=D2 h q2;have v2:vv L y<=vv L r:=D2 h r3;have v3:vv L r<=vv L q:=D2 h hqr;have s1:=(Qbt h hf q2 (by omega)).s;have s2:=(Qbt h hf (x:=x) (y:=r) (by grind) (by omega)).s;omega
theorem Qqv {f:List Rat} {L:List (List Rat)} (h:Stm f L) {x y:Rat} (hxy:x<y) (hv:vv L x≠vv L y) {d:Rat} (dp:0<d):∃ q,x<=q/\q<=y/\Uf (ev f q)<d:=by
 obtain ⟨R,hR,hx,hy⟩:=Qoa x y;obtain ⟨e1,e1p,hl⟩:=loc hR h (w:=f) (u:=[1]) (λt=>by rw [Hd]; grind);obtain ⟨e2,e2p,_,e2b⟩:=Fo (Ss hR f) dp;obtain ⟨e,ep,h1,h2⟩:=min2 e1p e2p;have key:∀ n:Nat,∀ x,Uf x<=R->x<y->vv L x≠vv L y->y-x<=(n:Rat)*e->∃ q,x<=q/\q<=y/\Uf (ev f q)<d:=by
  intro n
  induction n with
  | zero=>intro x hx hxy _ hn; rw [show ((0:Nat):Rat)=0 from rfl] at hn; exfalso; clear hl; grind
  |
   succ n ih =>
   intro x hx hxy hv hn;have hstep:∀ z,Uf z<=R->x<z->z-x<=e->vv L x≠vv L z->Uf (ev f z)<d:=λz hz hxz hze hv=>by
    rcases hl x z hx hz hxz (Zg hze h1) with ⟨p,_⟩ | ⟨_,p1,p2,p3,p4⟩
    ·exact absurd p hv
    ·have hd:=Tr (p:=f) hx hz hR (e:=e2) (d:=d) (by rw [Tx]; clear hl ih; constructor <;> grind) e2b;rw [<-p3] at p1 p4;clear hl ih p2 p3;rw [Qqa] at *;rcases Fg (ev f x) with ⟨a,a'⟩ | ⟨a,a'⟩ | ⟨a,a'⟩ <;> rcases Fg (ev f z) with ⟨b,b'⟩ | ⟨b,b'⟩ | ⟨b,b'⟩ <;> rw [a,b] at p4 <;> first | (exfalso; revert p4; decide) | skip
     all_goals first | (constructor <;> grind) | (exfalso; omega)
   rcases Up (y-x) e with h3 | h3
   ·exact ⟨y,Qq hxy,Qp,hstep y hy hxy h3 hv⟩
   ·have hm:Uf (x+e)<=R:=Qdj hx hy (by clear hl ih hstep; grind) (by clear hl ih hstep; grind);rcases Classical.em (vv L x=vv L (x+e)) with e0 | e0
    ·have hn':(((n+1:Nat):Rat))=(n:Rat)+1:=by push_cast; rfl
     rw [hn'] at hn;obtain ⟨q,q1,q2,q3⟩:=ih (x+e) hm (by clear hl ih hstep; grind) (by omega) (by clear hl ih hstep; grind);exact ⟨q,by clear hl ih hstep; grind,q2,q3⟩
    ·exact ⟨x+e,by clear hl ih hstep; grind,by clear hl ih hstep; grind,hstep (x+e) hm (by clear hl ih hstep; grind) (by clear hl ih hstep; grind) e0⟩
 obtain ⟨n,hn⟩:=Is (z:=y-x) ep;exact key n x hx hxy hv hn
theorem Zlv {p:List Rat} {x:Rat} (h:Rt p x≠0):∃ e:Rat,0<e/\∀ y,x<y->y-x<=e->Uk (ev p y)=Rt p x:=by
 by_cases h0:Uk (ev p x)=0
 ·have hx:=U4.1 h0;rw [Qww h0] at h ⊢;have hR:0<=Uf x+1:=by have:=Gh x; grind
  obtain ⟨e,e1,e2,e3⟩:=Fo (Qi9 hR p) (Mr (x:=dv p x) λh'=>h (U4.2 h'));refine ⟨e,e1,λy h1 h2=>?_⟩;have hy:Uf y<=Uf x+1:=by
   have:=H6 x (y-x);have e:x+(y-x)=y:=by grind
   have e':Uf (y-x)=y-x:=by unfold Uf; split <;> grind
   rw [e,e'] at this; grind
  have:=Qkg (p:=p) (by grind) hy hR h1 h2 Qp e3;rw [hx] at this;rw [<-this]; congr 1; grind
 ·rw [Do h0] at h ⊢;obtain ⟨e,e1,e2⟩:=Qbe h;exact ⟨e,e1,λy h1 h2=>e2 y (by rw [Tx]; constructor <;> grind)⟩
def cq (P:List Rat) (lo hi q:Rat):Int:=if q<=lo then 1 else if hi<q then -1 else if Uk (ev P q)=0 then 0 else if Uk (ev P q)=Rt P lo then 1 else -1
structure Vt (P:List Rat) (L:List (List Rat)) (lo hi:Rat):Prop where
 s:Stm P L
 l:lo<hi
 v:vv L lo=vv L hi+1
variable {P:List Rat} {L:List (List Rat)} {lo hi:Rat}
theorem Da {q:Rat} (h:q<=lo):cq P lo hi q=1:=by unfold cq; rw [if_pos h]
theorem Qc6 {q:Rat} (h:lo<hi) (h':hi<q):cq P lo hi q=-1:=by unfold cq; rw [if_neg (by grind),if_pos h']
theorem Lv {q:Rat} (h1:lo<q) (h2:q<=hi):cq P lo hi q=if Uk (ev P q)=0 then 0 else if Uk (ev P q)=Rt P lo then 1 else -1:=by
 unfold cq; rw [if_neg (by grind),if_neg (by grind)]
theorem Vt.two (V:Vt P L lo hi) {q:Rat} (h1:lo<q) (h2:q<=hi):vv L q=vv L lo/\cq P lo hi q=1/\Uk (ev P q)=Rt P lo\/vv L q=vv L hi/\cq P lo hi q≠1/\Rt P q=-Rt P lo/\Rt P lo≠0:=by
 have a:=D2 V.s h1;have b:vv L hi<=vv L q:=by
  rcases Classical.em (q=hi) with e | e
  ·rw [e]; exact Qn _
  ·exact D2 V.s (by grind)
 have hv:=V.v;rcases (show vv L q=vv L lo\/vv L q=vv L hi by omega) with e | e
 ·have hs:=Qq2 V.s h1 e.symm;refine .inl ⟨e,?_,hs.s⟩;rw [Lv h1 h2,hs.s,if_neg hs.n,if_pos rfl]
 ·obtain ⟨o1,o2⟩:=Qq1 V.s h1 (by omega);refine .inr ⟨e,?_,o2,o1⟩;rw [Lv h1 h2]
  split
  ·decide
  ·rename_i h0;rw [Do h0] at o2;rw [if_neg (by omega)]; decide
theorem Vt.lowlo (V:Vt P L lo hi):Rt P lo≠0:=(Qq1 V.s V.l V.v).1
theorem Vt.eq_lo (V:Vt P L lo hi) {q:Rat} (h1:lo<q) (h2:q<=hi) (h:cq P lo hi q=1):vv L q=vv L lo:=by
 rcases V.two h1 h2 with ⟨e,_⟩ | ⟨_,e,_⟩
 ·exact e
 ·exact absurd h e
theorem Vt.eq_hi (V:Vt P L lo hi) {q:Rat} (h1:lo<q) (h2:q<=hi) (h:cq P lo hi q≠1):vv L q=vv L hi:=by
 rcases V.two h1 h2 with ⟨_,e,_⟩ | ⟨e,_⟩
 ·exact absurd e h
 ·exact e
theorem Vt.hi1 (V:Vt P L lo hi):cq P lo hi hi≠1:=λh=>by have:=V.eq_lo V.l Qp h; have:=V.v; omega
theorem Vt.cut (V:Vt P L lo hi):Cut (cq P lo hi) where
 val q:=by unfold cq; split <;> (try split) <;> (try split) <;> (try split) <;> simp
 mono q r h h1:=by
  have hq:lo<q:=by
   rcases Up q lo with e | e
   ·exact absurd (Da e) h1
   ·exact e
  rcases Up r hi with e | e
  ·have e1:=V.eq_hi hq (by grind) h1;rcases V.two (q:=r) (by grind) e with ⟨e2,_⟩ | ⟨e2,_,e3,e4⟩
   ·have:=D2 V.s h; have:=V.v; omega
   ·have hs:=Qq2 V.s h (by omega);rcases V.two hq (by grind) with ⟨e5,_⟩ | ⟨_,_,e5,_⟩
    ·have:=V.v; omega
    ·rw [Lv (by grind) e,hs.s,if_neg hs.n,e5,if_neg (by omega)]
  ·exact Qc6 V.l e
 up q h:=by
  rcases Up q lo with e | e
  ·obtain ⟨d,dp,hd⟩:=Zlv V.lowlo;obtain ⟨f,fp,f1,f2⟩:=min2 (a:=d) (b:=hi-lo) dp (by have:=V.l; grind);have h1:lo<lo+f:=by clear hd; grind
   have h2:lo+f<=hi:=by clear hd; grind
   have:=hd (lo+f) h1 (by clear hd; grind);exact ⟨lo+f,by clear hd; grind,by rw [Lv h1 h2,this,if_neg V.lowlo,if_pos rfl]⟩
  ·have hh:q<=hi:=by
    rcases Up q hi with e' | e'
    ·exact e'
    ·have:=Qc6 (P:=P) V.l e'; omega
   rcases V.two e hh with ⟨e1,_,e2⟩ | ⟨_,e1,_⟩
   ·have hn:q≠hi:=λh=>by rw [h] at e1; have:=V.v; omega
    obtain ⟨d,dp,hd⟩:=Qbe (p:=P) (x:=q) (by rw [e2]; exact V.lowlo);obtain ⟨f,fp,f1,f2⟩:=min2 (a:=d) (b:=hi-q) dp (by clear hd; grind);have:=hd (q+f) (by rw [Tx]; clear hd; constructor <;> grind);exact ⟨q+f,by clear hd; grind,by rw [Lv (by clear hd; grind) (by clear hd; grind),this,e2,if_neg V.lowlo,if_pos rfl]⟩
   ·exact absurd h e1
 dn q h:=by
  have hq:lo<q:=by
   rcases Up q lo with e | e
   ·have:=Da (P:=P) (hi:=hi) e; omega
   ·exact e
  rcases Up q hi with e | e
  ·rw [Lv hq e] at h
   split at h
   ·cases h
   rename_i h0
   split at h
   ·cases h
   rename_i h1;obtain ⟨d,dp,hd⟩:=Qbe h0;obtain ⟨f,fp,f1,f2⟩:=min2 (a:=d) (b:=(q-lo) / 2) dp (De (by clear hd; grind) (by decide));have h2:(q-lo) / 2*2=q-lo:=Fi (by decide);have:=hd (q-f) (by rw [Tx]; clear hd; constructor <;> grind);exact ⟨q-f,by clear hd; grind,by rw [Lv (by clear hd; grind) (by clear hd; grind),this,if_neg h0,if_neg h1]⟩
  ·have h2:(q-hi) / 2*2=q-hi:=Fi (by decide);exact ⟨q-(q-hi) / 2,by grind,Qc6 V.l (by grind)⟩
 lo:=⟨lo,Da Qp⟩
 hi:=⟨hi+1,Qc6 V.l (by grind)⟩
theorem Vt.van (V:Vt P L lo hi):Eg P (cq P lo hi):=by
 have hc:=V.cut;rcases Qaf hc P with h | ⟨s,hs,h⟩
 ·exact h
 ·exfalso;have e1:s=Rt P lo:=by
   obtain ⟨x,hx,hx1⟩:=Q0j hc h;obtain ⟨q,q1,q2,q3⟩:=Qi6 hc hx (Da (P:=P) (hi:=hi) (Qp (a:=lo)));have hq:q<=hi:=by
    rcases Up q hi with e | e
    ·exact e
    ·have:=Qc6 (P:=P) V.l e; omega
   rcases V.two q3 hq with ⟨_,_,e⟩ | ⟨_,e,_⟩
   ·rw [<-hx1 q q1 (Qq q2),e]
   ·exact absurd q1 e
  rcases hc.val hi with e | e | e
  ·exact V.hi1 e
  ·have h0:=Qtc hc e h;rw [Lv V.l Qp] at e
   split at e
   ·omega
   ·split at e <;> omega
  ·obtain ⟨y,hy,hy1⟩:=Qnp hc h;obtain ⟨q,q1,q2,q3⟩:=Qv6 hc hy e;have hq:lo<q:=hc.lt (Da (P:=P) (hi:=hi) (Qp (a:=lo))) q1;have:=hy1 q q1 (Qq q2);rw [Lv hq (Qq q3),this,if_neg hs,if_pos e1] at q1;cases q1
def Qwn (w:List Rat) (lo hi:Rat):Prop:=Uk (ev w hi)=0\/Uk (ev w hi)≠Rt w lo
theorem Vt.has (V:Vt P L lo hi) {w u:List Rat} (hf:∀ t,ev P t=ev w t*ev u t) {a b:Rat} (h1:lo<=a) (h2:a<b) (h3:b<=hi):Qwn w a b↔Eg w (cq P lo hi)/\cq P lo hi a=1/\cq P lo hi b≠1:=by
 have hc:=V.cut;have smno:vv L a=vv L b->¬Qwn w a b:=λh hh=>by
  have:=Qbt V.s hf h2 h;rcases hh with e | e
  ·rw [this.s] at e; exact this.n e
  ·exact e this.s
 by_cases ha:cq P lo hi a=1
 ·by_cases hb:cq P lo hi b=1
  ·have e1:=V.eq_lo (by grind) h3 hb;have e2:vv L a=vv L lo:=by
    rcases Classical.em (lo=a) with e | e
    ·rw [e]
    ·exact V.eq_lo (by grind) (by grind) ha
   exact ⟨λh=>absurd h (smno (by omega)),λh=>absurd hb h.2.2⟩
  ·have e1:=V.eq_hi (by grind) h3 hb;have e2:vv L a=vv L lo:=by
    rcases Classical.em (lo=a) with e | e
    ·rw [e]
    ·exact V.eq_lo (by grind) (by grind) ha
   have left:∀ s,LS w (cq P lo hi) s->s=Rt w a:=λs hs=>by
    obtain ⟨x,hx,hx1⟩:=hs;obtain ⟨q,q1,q2,q3⟩:=Qi6 hc hx ha;have hqb:q<b:=by
     rcases Up b q with e | e
     ·rcases Classical.em (b=q) with e' | e'
      ·rw [e'] at hb; exact absurd q1 hb
      ·have:=hc.mono b q (by clear hx1 smno; grind) hb; omega
     ·exact e
    have:=V.eq_lo (q:=q) (by clear hx1 smno; grind) (by clear hx1 smno; grind) q1;rw [<-(Qbt V.s hf q3 (by omega)).s,hx1 q q1 (Qq q2)]
   have right:∀ s,RS w (cq P lo hi) s->cq P lo hi b=-1->s=Uk (ev w b):=λs hs hb=>by
    obtain ⟨y,hy,hy1⟩:=hs;obtain ⟨q,q1,q2,q3⟩:=Qv6 hc hy hb;have hqa:=hc.lt ha q1;have:=V.eq_hi (q:=q) (by clear hy1 smno; grind) (by clear hy1 smno; grind) (by omega);have hs:=Qbt V.s hf q3 (by omega);have hl:=hy1 q q1 (Qq q2);have h0:Uk (ev w q)≠0:=by
     have hs2:=Qbt V.s hf (x:=q) (y:=b) q3 (by omega);intro h0;obtain ⟨r,r1,r2⟩:=hc.dn q q1;have har:=hc.lt ha r2;have:=V.eq_hi (q:=r) (by clear hy1 smno; grind) (by clear hy1 smno; grind) (by omega);have hs3:=Qbt V.s hf (x:=r) (y:=q) r1 (by omega);have hs4:=hs3.s;rw [h0] at hs4; exact hs3.n hs4.symm
    rw [hs.s,Do h0,hl]
   refine ⟨λh=>⟨?_,ha,hb⟩,λ⟨hw,_,_⟩=>?_⟩
   ·rcases Qaf hc w with e | ⟨s,hs0,hs⟩
    ·exact e
    ·exfalso;have l1:=left s (Q0j hc hs);have r1:Uk (ev w b)=s:=by
      rcases hc.val b with e | e | e
      ·exact absurd e hb
      ·exact Qtc hc e hs
      ·exact (right s (Qnp hc hs) e).symm
     rcases h with h | h
     ·exact hs0 (by rw [<-r1]; exact h)
     ·exact h (by rw [r1,l1])
   ·rcases hc.val b with e | e | e
    ·exact absurd e hb
    ·exact .inl (U4.2 (Qgd hc e hw))
    ·obtain ⟨s,hs0,hs⟩:=Qzn hc V.s hf hw;have l1:=left _ (Q8t hc hw (Q0j hc hs) hs0);have r1:=right _ (Qqh hc hw (Qnp hc hs) hs0) e;exact .inr (by rw [<-l1,<-r1]; omega)
 ·have hla:lo<a:=by
   rcases Classical.em (lo=a) with e | e
   ·rw [<-e] at ha; exact absurd (Da Qp) ha
   ·grind
  have hb:cq P lo hi b≠1:=by have:=hc.mono a b h2 ha; omega
  have e1:=V.eq_hi hla (by grind) ha;have e2:=V.eq_hi (q:=b) (by grind) h3 hb;exact ⟨λh=>absurd h (smno (by omega)),λh=>absurd h.2.1 ha⟩
theorem Qr2 {c c':Rat->Int} (hc:Cut c) (hc':Cut c') {q:Rat} (h:c q≠c' q):∃ r,(c r=-1/\c' r=1)\/(c r=1/\c' r=-1):=by
 rcases hc.val q with e | e | e <;> rcases hc'.val q with e' | e' | e'
 ·omega
 ·obtain ⟨r,r1,r2⟩:=hc.up q e;exact ⟨r,.inr ⟨r2,hc'.mono q r r1 (by omega)⟩⟩
 ·exact ⟨q,.inr ⟨e,e'⟩⟩
 ·obtain ⟨r,r1,r2⟩:=hc'.up q e';exact ⟨r,.inl ⟨hc.mono q r r1 (by omega),r2⟩⟩
 ·omega
 ·obtain ⟨r,r1,r2⟩:=hc'.dn q e';exact ⟨r,.inr ⟨hc.mono' r1 (by omega),r2⟩⟩
 ·exact ⟨q,.inl ⟨e,e'⟩⟩
 ·obtain ⟨r,r1,r2⟩:=hc.dn q e;exact ⟨r,.inl ⟨r2,hc'.mono' r1 (by omega)⟩⟩
 ·omega
theorem Vt.uniq (V:Vt P L lo hi) {c:Rat->Int} (hc:Cut c) (h1:c lo=1) (h2:c hi≠1) (hv:Eg P c) (q:Rat):c q=cq P lo hi q:=by
 rcases Classical.em (c q=cq P lo hi q) with e | e
 ·exact e
 ·exfalso;obtain ⟨r,⟨r1,r2⟩ | ⟨r1,r2⟩⟩:=Qr2 hc V.cut e
  ·have hl:=hc.lt h1 r1;have hh:r<=hi:=by
    rcases Up r hi with e | e
    ·exact e
    ·have:=Qc6 (P:=P) V.l e; omega
   have:=V.eq_lo hl hh r2;exact Q87 V.s (w:=P) (u:=[1]) (λt=>by rw [Hd]; grind) (x:=lo) (y:=r) (by omega) hc h1 (by omega) hv
  ·have hl:lo<r:=by
    rcases Up r lo with e | e
    ·have:=Da (P:=P) (hi:=hi) e; omega
    ·exact e
   have hh:r<=hi:=by
    rcases Up r hi with e | e
    ·exact e
    ·have:=hc.mono hi r e h2; omega
   have:=V.eq_hi hl hh (by omega);exact Q87 V.s (w:=P) (u:=[1]) (λt=>by rw [Hd]; grind) (x:=r) (y:=hi) (by omega) hc r1 h2 hv
theorem Vt.same (V:Vt P L lo hi) {P':List Rat} {L':List (List Rat)} {lo' hi':Rat} (V':Vt P' L' lo' hi') {g u u' U W:List Rat} {k:Rat} (hk:k≠0) (h1:∀ t,ev P t=ev g t*ev u t) (h2:∀ t,ev P' t=ev g t*ev u' t) (h3:∀ t,k*ev g t=ev U t*ev P t+ev W t*ev P' t) {a b:Rat} (ha1:lo<=a) (ha2:lo'<=a) (ha:a=lo\/a=lo') (hb1:b<=hi) (hb2:b<=hi') (hb:b=hi\/b=hi'):(a<b/\Qwn g a b)↔∀ q,cq P lo hi q=cq P' lo' hi' q:=by
 have hc:=V.cut;have hc':=V'.cut;constructor
 ·rintro ⟨hab,hg⟩
  obtain ⟨g1,g2,g3⟩:=(V.has h1 ha1 hab hb1).1 hg;obtain ⟨g4,g5,g6⟩:=(V'.has h2 ha2 hab hb2).1 hg;intro q;refine (V.uniq hc' (by
   rcases Classical.em (lo=a) with e | e
   ·rw [e]; exact g5
   ·exact hc'.mono' (q:=lo) (r:=a) (by grind) (by omega)) (λh=>?_) (Tg hc' h1 g4) q).symm
  rcases Classical.em (b=hi) with e | e
  ·rw [<-e] at h; exact g6 h
  ·have:=hc'.mono b hi (by grind) g6; omega
 ·intro h;have hcc:cq P' lo' hi'=cq P lo hi:=funext λq=>(h q).symm
  have e1:cq P lo hi a=1:=by
   rcases ha with rfl | rfl
   ·exact Da Qp
   ·rw [h]; exact Da Qp
  have e2:cq P lo hi b≠1:=by
   rcases hb with rfl | rfl
   ·exact V.hi1
   ·rw [h]; exact V'.hi1
  have hab:a<b:=by
   rcases Up b a with e | e
   ·rcases Classical.em (b=a) with e' | e'
    ·rw [e'] at e2; exact absurd e1 e2
    ·have:=hc.mono b a (by grind) e2; omega
   ·exact e
  have v1:=V.van;have v2:=V'.van;rw [hcc] at v2;have hg:Eg g (cq P lo hi):=by
   have a1:Eg (Fa U P) (cq P lo hi):=Tg hc (p:=P) (q:=U) (λt=>by rw [Uc]; grind) v1;have a2:Eg (Fa W P') (cq P lo hi):=Tg hc (p:=P') (q:=W) (λt=>by rw [Uc]; grind) v2;have a3:=Qil (λt=>U7 t _ _) a1 a2;refine Qn5 hc (k:=1 / k) (λt=>?_) a3;rw [U7,Uc,Uc,<-h3];have:1 / k*(k*ev g t)=1 / k*k*ev g t:=by grind
   rw [this,show 1 / k*k=1 from Zl hk]; grind
  exact ⟨hab,(V.has h1 ha1 hab hb1).2 ⟨hg,e1,e2⟩⟩
end Orq
namespace Orq
theorem Q9l:∀ (M:Nat) (f:Nat->Nat),(∀ i,i<=M->f i<M)->∃ i j,i<j/\j<=M/\f i=f j
 | 0,f,h=>absurd (h 0 (Qn _)) (Ww _)
 |
  M+1,f,h=>by
  rcases Classical.em (∃ i,i<=M/\f i=f (M+1)) with ⟨i,h1,h2⟩ | hn
  ·exact ⟨i,M+1,by omega,Qn _,h2⟩
  ·have hne:∀ i,i<=M->f i≠f (M+1):=λi hi e=>hn ⟨i,hi,e⟩
   obtain ⟨i,j,h1,h2,h3⟩:=Q9l M (λi=>if f i=M then f (M+1) else f i) λi hi=>by
    have a1:=h i (by omega);have a2:=h (M+1) (Qn _);have a3:=hne i hi;show (if f i=M then f (M+1) else f i)<M
    split <;> omega
   refine ⟨i,j,h1,by omega,?_⟩;have a1:=hne i (by omega);have a2:=hne j h2
   split at h3 <;> split at h3 <;> omega
def dg (B k i:Nat):Nat:=k / B^i % B
theorem Qzl (B k i:Nat):dg B k (i+1)=dg B (k / B) i:=by unfold dg; rw [Nat.pow_succ,Nat.mul_comm,Nat.div_div_eq_div_mul]
theorem Q7d {B:Nat}:∀ (N:Nat) {k k':Nat},k<B^N->k'<B^N->(∀ i,i<N->dg B k i=dg B k' i)->k=k'
 | 0,k,k',h,h',_=>by rw [Yy] at h h'; omega
 |
  N+1,k,k',h,h',he=>by
  have h0:=he 0 (by omega);unfold dg at h0;rw [Yy,Nat.div_one,Nat.div_one] at h0;have hB:0<B:=by
   rcases Qy B with e | e
   ·rw [e,Zm,Yn] at h; omega
   ·exact e
  have h1:=Q7d N (k:=k / B) (k':=k' / B) (X4 (by rw [Zi,<-Zm]; exact h)) (X4 (by rw [Zi,<-Zm]; exact h')) λi hi=>by
   rw [<-Qzl,<-Qzl]; exact he (i+1) (by omega)
  rw [<-Ws k B,<-Ws k' B,h0,h1]
def cd (B:Nat):Nat->(Nat->Nat)->Nat
 | 0,_=>0
 | E+1,x=>x 0+B*cd B E λe=>x (e+1)
theorem Zgz {B:Nat}:∀ (E:Nat) {x:Nat->Nat},(∀ e,e<E->x e<B)->cd B E x<B^E
 | 0,_,_=>by simp [cd]
 |
  E+1,x,h=>by
  have h1:=h 0 (by omega);have h2:=Zgz E (x:=λe=>x (e+1)) λe he=>h (e+1) (by omega)
  simp only [cd];have h3:B*cd B E (λe=>x (e+1))+B<=B*B^E:=by
   rw [<-Nat.mul_succ]; exact Zp _ h2
  rw [Zm,Zi (B^E)]; omega
theorem Q60 {B:Nat}:∀ (E:Nat) {x y:Nat->Nat},(∀ e,e<E->x e<B)->(∀ e,e<E->y e<B)->cd B E x=cd B E y->∀ e,e<E->x e=y e
 | 0,_,_,_,_,_,e,he=>by omega
 |
  E+1,x,y,hx,hy,h,e,he=>by
  have h1:=hx 0 (by omega);have h2:=hy 0 (by omega);simp only [cd] at h;have e0:x 0=y 0:=by
   have:=congrArg (· % B) h;simp only [Vy] at this;rwa [Xz h1,Xz h2] at this
  have e1:cd B E (λe=>x (e+1))=cd B E (λe=>y (e+1)):=Nat.eq_of_mul_eq_mul_left (by omega:0<B) (by omega);cases e with
  | zero=>exact e0
  | succ e=>exact Q60 E (λe he=>hx (e+1) (by omega)) (λe he=>hy (e+1) (by omega)) e1 e (by omega)
def sm:Nat->(Nat->Int)->Int
 | 0,_=>0
 | n+1,f=>sm n f+f n
theorem Za2 (f g:Nat->Int):∀ n,sm n (λi=>f i-g i)=sm n f-sm n g
 | 0=>rfl
 | n+1=>by simp only [sm,Za2 f g n]; omega
theorem Bp {f g:Nat->Int}:∀ n,(∀ i,i<n->f i=g i)->sm n f=sm n g
 | 0,_=>rfl
 | n+1,h=>by simp only [sm,Bp n (λi hi=>h i (by omega)),h n (by omega)]
theorem Za1 {f:Nat->Int} {b:Nat}:∀ n,(∀ i,i<n->(f i).natAbs<=b)->(sm n f).natAbs<=n*b
 | 0,_=>by simp [sm]
 |
  n+1,h=>by
  have h1:=Za1 n λi hi=>h i (by omega)
  have h2:=h n (by omega);simp only [sm];rw [Z6]; omega
theorem Qa3 {f:Nat->Int}:∀ n,(∀ i,i<n->f i=0)->sm n f=0
 | 0,_=>rfl
 | n+1,h=>by simp only [sm,Qa3 n (λi hi=>h i (by omega)),h n (by omega)]; rfl
theorem Qxv (f:Nat->Int) (m:Nat):∀ n,sm (m+n) f=sm m f+sm n λi=>f (m+i)
 | 0=>by simp [sm]
 | n+1=>by rw [<-Ye]; simp only [sm,Qxv f m n]; omega
theorem Qxw (f:Nat->Int) (J:Nat):∀ b,sm (b*J) f=sm b λi=>sm J λj=>f (i*J+j)
 | 0=>by simp [sm]
 | b+1=>by rw [Z6,Qxv,Qxw f J b]; rfl
theorem Qk4 {f:Nat->Int} {k:Nat}:∀ n,k<n->(∀ i,i<n->i≠k->f i=0)->sm n f=f k
 | 0,h,_=>by omega
 |
  n+1,h,h1=>by
  simp only [sm];rcases Y6 (Nat.le_of_lt_succ h) with e | e
  ·rw [Qk4 n e λi hi=>h1 i (by omega),h1 n (by omega) (by omega)]; omega
  ·subst e; rw [Qa3 k λi hi=>h1 i (by omega) (by omega)]; omega
theorem Zj1 {M:Nat->Nat->Int} {h N E H:Nat} (hM:∀ e i,(M e i).natAbs<=h) (hc:(2*(N*(h*H))+1)^E<(H+1)^N) :
 ∃ v:Nat->Int,(∀ i,(v i).natAbs<=H)/\(∃ i,i<N/\v i≠0)/\∀ e,e<E->sm N (λi=>M e i*v i)=0:=by
 obtain ⟨T,hT⟩:=nmE (N*(h*H));rw [<-hT] at hc;have hv:∀ k i,dg (H+1) k i<=H:=λk i=>Nat.le_of_lt_succ (Z5 _ (by omega))
 have hs:∀ k e,(sm N λi=>M e i*(dg (H+1) k i:Int)).natAbs<=T:=λk e=>by
  rw [hT];refine Za1 N λi _=>?_
  rw [J0,Z7];exact Zx (hM e i) (hv k i)
 have him:∀ k e,((sm N λi=>M e i*(dg (H+1) k i:Int))+T).toNat<2*T+1:=λk e=>by have:=hs k e; omega
 obtain ⟨i,j,h1,h2,h3⟩:=Q9l ((2*T+1)^E) (λk=>cd (2*T+1) E λe=>((sm N λi=>M e i*(dg (H+1) k i:Int))+T).toNat) λk _=>Zgz E λe _=>him k e
 have h4:=Q60 E (λe _=>him i e) (λe _=>him j e) h3;refine ⟨λn=>(dg (H+1) i n:Int)-dg (H+1) j n,λn=>?_,?_,λe he=>?_⟩
 ·have a1:=hv i n;have a2:=hv j n;show ((dg (H+1) i n:Int)-dg (H+1) j n).natAbs<=H;omega
 ·rcases Classical.em (∃ n,n<N/\(dg (H+1) i n:Int)-dg (H+1) j n≠0) with e | e
  ·exact e
  ·exfalso;have:i=j:=Q7d (B:=H+1) N (by omega) (by omega) λn hn=>by
    rcases Classical.em (dg (H+1) i n=dg (H+1) j n) with e' | e'
    ·exact e'
    ·exact absurd ⟨n,hn,by omega⟩ e
   omega
 ·have a1:=h4 e he;have a2:=hs i e;have a3:=hs j e;have:(sm N λn=>M e n*(dg (H+1) i n:Int))=sm N λn=>M e n*(dg (H+1) j n:Int):=by omega
  have e1:=Za2 (λn=>M e n*(dg (H+1) i n:Int)) (λn=>M e n*(dg (H+1) j n:Int)) N;rw [this] at e1;rw [Bp N (g:=λn=>M e n*(dg (H+1) i n:Int)-M e n*(dg (H+1) j n:Int)) λn _=>Int.mul_sub _ _ _,e1]; omega
def Ub:List Int->Rat->Rat
 | [],_=>0
 | a::p,t=>(a:Rat)+t*Ub p t
def sq:Nat->(Nat->Rat)->Rat
 | 0,_=>0
 | n+1,f=>sq n f+f n
theorem Ru {f g:Nat->Rat}:∀ n,(∀ i,i<n->f i=g i)->sq n f=sq n g
 | 0,_=>rfl
 | n+1,h=>by simp only [sq,Ru n (λi hi=>h i (by omega)),h n (by omega)]
theorem Qx1 (f g:Nat->Rat):∀ n,sq n (λi=>f i+g i)=sq n f+sq n g
 | 0=>by simp only [sq]; grind
 | n+1=>by simp only [sq,Qx1 f g n]; grind
theorem Qaa (c:Rat) (f:Nat->Rat):∀ n,sq n (λi=>c*f i)=c*sq n f
 | 0=>by simp only [sq]; grind
 | n+1=>by simp only [sq,Qaa c f n]; grind
theorem Mv {f:Nat->Rat}:∀ n,(∀ i,i<n->f i=0)->sq n f=0
 | 0,_=>rfl
 | n+1,h=>by simp only [sq,Mv n (λi hi=>h i (by omega)),h n (by omega)]; grind
theorem Ah (f:Nat->Rat):∀ n,sq (n+1) f=f 0+sq n λi=>f (i+1)
 | 0=>by simp only [sq]; grind
 | n+1=>by rw [sq,Ah f n]; simp only [sq]; grind
theorem Zhl {f:Nat->Rat} {b:Rat}:∀ n,(∀ i,i<n->Uf (f i)<=b)->Uf (sq n f)<=(n:Rat)*b
 | 0,_=>by rw [show ((0:Nat):Rat)=0 from rfl]; simp only [sq,Gu]; grind
 |
  n+1,h=>by
  have h1:=Zhl n λi hi=>h i (by omega)
  have h2:=h n (by omega);have h3:=H6 (sq n f) (f n);have hn':(((n+1:Nat):Rat))=(n:Rat)+1:=by push_cast; rfl
  rw [hn']; simp only [sq]; clear h; grind
def gc:List Int->Nat->Nat->Int
 | [],_,_=>0
 | c::B,k,j=>(if k=0/\j=0 then c else 0)+(if k=0 then 0 else gc B (k-1) j)-(if j=0 then 0 else gc B k (j-1))
def gB:List Int->Nat
 | []=>0
 | c::B=>max c.natAbs (2*gB B)
theorem Qhx:∀ (B:List Int) (k j:Nat),B.length<=k+j->gc B k j=0
 | [],_,_,_=>rfl
 |
  c::B,k,j,h=>by
  simp only [Q6] at h;simp only [gc];rw [if_neg (by omega)];have e1:(if k=0 then 0 else gc B (k-1) j)=0:=by
   split
   ·rfl
   ·exact Qhx B _ _ (by omega)
  have e2:(if j=0 then 0 else gc B k (j-1))=0:=by
   split
   ·rfl
   ·exact Qhx B _ _ (by omega)
  rw [e1,e2]; rfl
theorem Q73:∀ (B:List Int) (k j:Nat),(gc B k j).natAbs<=gB B
 | [],_,_=>Qg _
 |
  c::B,k,j=>by
  have h1:=Q73 B (k-1) j;have h2:=Q73 B k (j-1);simp only [gc,gB];by_cases hk:k=0 <;> by_cases hj:j=0 <;> simp only [hk,hj,true_and,and_true,false_and,and_false,if_true,if_false] <;> (try subst hk) <;> (try subst hj) <;> omega
theorem Q74:∀ (B:List Int) (b:Nat),B.length=b+1->(gc B 0 b).natAbs=(B.getD b 0).natAbs
 | [],_,h=>by simp at h
 | [c],0,_=>by simp [gc]
 | c::d::B,0,h=>by simp at h
 |
  c::B,b+1,h=>by
  have ih:=Q74 B b (by simpa using h);simp only [gc];simp only [J3,Q3];rw [if_pos trivial,if_neg (Nat.succ_ne_zero b),<-ih]; omega
def E2 (F:Nat->Nat->Int) (K J:Nat) (x y:Rat):Rat:=sq K λk=>sq J λj=>(F k j:Rat)*(y^k*x^j)
theorem Qwa (F G:Nat->Nat->Int) (K J:Nat) (x y:Rat):E2 (λk j=>F k j+G k j) K J x y=E2 F K J x y+E2 G K J x y:=by
 unfold E2;rw [<-Qx1];refine Ru K λk _=>?_
 rw [<-Qx1];exact Ru J λj _=>by push_cast; grind
theorem Q7m (c:Int) (F:Nat->Nat->Int) (K J:Nat) (x y:Rat):E2 (λk j=>F k j*c) K J x y=(c:Rat)*E2 F K J x y:=by
 unfold E2;rw [<-Qaa];refine Ru K λk _=>?_
 rw [<-Qaa];exact Ru J λj _=>by push_cast; grind
theorem Q7n (φ:Nat->Nat->Nat->Int) (v:Nat->Int) (K J:Nat) (x y:Rat):∀ N,E2 (λk j=>sm N λn=>φ n k j*v n) K J x y=sq N λn=>(v n:Rat)*E2 (φ n) K J x y
 |
  0=>by
  simp only [sq,sm];unfold E2;refine Mv K λk _=>Mv J λj _=>?_
  rw [show ((0:Int):Rat)=0 from rfl]; grind
 |
  N+1=>by
  simp only [sq];rw [<-Q7n φ v K J x y N,<-Q7m,<-Qwa];rfl
theorem Qd9 (t:Rat) (i:Nat):∀ k,t^(i+k)=t^i*t^k
 | 0=>by rw [Xn,Xb]; grind
 | k+1=>by rw [<-Ye,Z3,Z3,Qd9 t i k]; grind
theorem Qk6 (f:Nat->Rat):∀ (i n:Nat),sq (i+n) (λk=>if i<=k then f (k-i) else 0)=sq n f
 | i,0=>Mv _ λk hk=>by rw [if_neg (by omega)]
 |
  i,n+1=>by
  rw [<-Ye]; simp only [sq];rw [Qk6 f i n,if_pos (by omega),Jb]
def shF (i j':Nat) (F:Nat->Nat->Int) (k j:Nat):Int:=if i<=k then (if j'<=j then F (k-i) (j-j') else 0) else 0
theorem Qji (F:Nat->Nat->Int) (i j' K J:Nat) (x y:Rat):E2 (shF i j' F) (i+K) (j'+J) x y=y^i*x^j'*E2 F K J x y:=by
 unfold E2;rw [<-Qaa,<-Qk6 _ i K];refine Ru _ λk _=>?_
 by_cases hk:i<=k
 ·rw [if_pos hk,<-Qaa,<-Qk6 _ j' J];refine Ru _ λj _=>?_
  unfold shF;rw [if_pos hk];by_cases hj:j'<=j
  ·rw [if_pos hj,if_pos hj];have e1:y^k=y^i*y^(k-i):=by rw [<-Qd9]; congr 1; omega
   have e2:x^j=x^j'*x^(j-j'):=by rw [<-Qd9]; congr 1; omega
   rw [e1,e2]; grind
  ·rw [if_neg hj,if_neg hj,show ((0:Int):Rat)=0 from rfl]; grind
 ·rw [if_neg hk];refine Mv _ λj _=>?_
  unfold shF;rw [if_neg hk,show ((0:Int):Rat)=0 from rfl]; grind
def fA (A:List Int) (k j:Nat):Int:=if j=0 then A.getD k 0 else 0
theorem Q9j (y:Rat):∀ (A:List Int) (K:Nat),A.length<=K->sq K (λk=>((A.getD k 0:Int):Rat)*y^k)=Ub A y
 | [],K,_=>by rw [Mv]; rfl; intro i _; simp
 | a::A,0,h=>by simp at h
 |
  a::A,K+1,h=>by
  have ih:=Q9j y A K (by simpa using h);rw [Ah];simp only [Ub,Zo,Q3,Xb];rw [<-ih,<-Qaa];have:(sq K λi=>((A.getD i 0:Int):Rat)*y^(i+1))=sq K λi=>y*(((A.getD i 0:Int):Rat)*y^i):=Ru K λi _=>by rw [Z3]; grind
  rw [this]; grind
theorem Zlq (A:List Int) (K J:Nat) (x y:Rat) (h:A.length<=K):E2 (fA A) K (J+1) x y=Ub A y:=by
 rw [<-Q9j y A K h];refine Ru K λk _=>?_
 rw [Ah,Mv]
 ·simp only [fA,if_true,Xb]; grind
 ·intro j _;simp only [fA];rw [if_neg (by omega),show ((0:Int):Rat)=0 from rfl]; grind
theorem Zis (x y:Rat):∀ (B:List Int) (K J:Nat),B.length<=K->B.length<=J->E2 (gc B) K J x y=Ub B (y-x)
 |
  [],K,J,_,_=>by
  unfold E2;simp only [gc,Ub];exact Mv K λk _=>Mv J λj _=>by rw [show ((0:Int):Rat)=0 from rfl]; grind
 | c::B,0,J,h,_=>by simp at h
 | c::B,K+1,0,_,h=>by simp at h
 |
  c::B,K+1,J+1,h1,h2=>by
  have i1:=Zis x y B K (J+1) (by simpa using h1) (by simp at h2; omega);have i2:=Zis x y B (K+1) J (by simp at h1; omega) (by simpa using h2);have s1:=Qji (gc B) 1 0 K (J+1) x y;have s2:=Qji (gc B) 0 1 (K+1) J x y;rw [Zz,Jw 1 K] at s1;rw [Zz,Jw 1 J] at s2;rw [i1] at s1;rw [i2] at s2;have e0:E2 (fA [c]) (K+1) (J+1) x y=(c:Rat):=by rw [Zlq [c] (K+1) J x y (by simp)]; simp only [Ub]; grind
  have e1:gc (c::B)=λk j=>(fA [c] k j+shF 1 0 (gc B) k j)+shF 0 1 (gc B) k j*(-1):=by
   funext k j;simp only [gc,fA,shF];by_cases hk:k=0 <;> by_cases hj:j=0
   ·subst hk; subst hj; simp
   ·subst hk; simp [hj,show 1<=j by omega]
    try omega
   ·subst hj;obtain ⟨m,rfl⟩:∃ m,k=m+1:=⟨k-1,by omega⟩;simp
   ·obtain ⟨m,rfl⟩:∃ m,k=m+1:=⟨k-1,by omega⟩;obtain ⟨i,rfl⟩:∃ i,j=i+1:=⟨j-1,by omega⟩;simp; omega
  rw [e1,Qwa (λk j=>fA [c] k j+shF 1 0 (gc B) k j) (λk j=>shF 0 1 (gc B) k j*(-1)),Qwa (fA [c]) (shF 1 0 (gc B)),Q7m,e0,s1,s2];simp only [Ub,Xb,show y^1=y by rw [Z3,Xb]; grind,show x^1=x by rw [Z3,Xb]; grind];rw [show (((-1:Int)):Rat)=-1 from rfl];grind
def phi (A B:List Int) (b J J' n k j:Nat):Int:=if n<b*J then shF (n / J) (n % J) (fA A) k j else shF ((n-b*J) / J') ((n-b*J) % J') (gc B) k j
theorem Zav {F:Nat->Nat->Int} {h:Nat} (hF:∀ k j,(F k j).natAbs<=h) (i j' k j:Nat):(shF i j' F k j).natAbs<=h:=by
 unfold shF; split
 ·split
  ·exact hF _ _
  ·exact Qg _
 ·exact Qg _
theorem Zhb {i b J j:Nat} (hi:i<b) (hj:j<J):i*J+j<b*J:=by
 have:(i+1)*J<=b*J:=Q0 J hi;rw [Z6] at this; omega
theorem Qfm {i J j:Nat} (hj:j<J):(i*J+j) / J=i/\(i*J+j) % J=j:=by
 rw [Zi,Wu (by omega),Wv,Vm hj,Xz hj]; exact ⟨by omega,rfl⟩
theorem Qnx (A B:List Int) (a b J J':Nat) (v:Nat->Int) (k j:Nat):sm (b*J+a*J') (λn=>phi A B b J J' n k j*v n) =
 (sm b λi=>sm J λj1=>shF i j1 (fA A) k j*v (i*J+j1))+sm a λi=>sm J' λj1=>shF i j1 (gc B) k j*v (b*J+(i*J'+j1)):=by
 rw [Qxv,Qxw,Qxw];congr 1
 ·refine Bp b λi hi=>Bp J λj1 hj=>?_
  unfold phi;rw [if_pos (Zhb hi hj),(Qfm hj).1,(Qfm hj).2]
 ·refine Bp a λi hi=>Bp J' λj1 hj=>?_
  unfold phi;rw [if_neg (by omega),Jb,(Qfm hj).1,(Qfm hj).2]
theorem Zll (A:List Int) (v:Nat->Int) {i J k j:Nat} (hj:j<J):(sm J λj1=>shF i j1 (fA A) k j*v (i*J+j1))=if i<=k then A.getD (k-i) 0*v (i*J+j) else 0:=by
 rw [Qk4 (k:=j) J hj λj1 _ hne=>?_]
 ·unfold shF fA;by_cases h:i<=k
  ·rw [if_pos h,if_pos h,if_pos (Qn _),if_pos (Yo _)]
  ·rw [if_neg h,if_neg h,J7]
 ·unfold shF fA;by_cases h:i<=k
  ·rw [if_pos h];by_cases h':j1<=j
   ·rw [if_pos h',if_neg (by omega),J7]
   ·rw [if_neg h',J7]
  ·rw [if_neg h,J7]
section
variable {A B:List Int} {a b J J':Nat} (hA:A.length=a+1) (hB:B.length=b+1) (lA:A.getD a 0≠0) (lB:B.getD b 0≠0) (hJ:J=J'+b) {v:Nat->Int} (hW:∀ k j,k<a+b->j<J->sm (b*J+a*J') (λn=>phi A B b J J' n k j*v n)=0)
include hA lA hW in
theorem Zg1 {jj:Nat} (hj:jj<J) (hV:∀ k,a<=k->k<a+b->(sm a λi=>sm J' λj1=>shF i j1 (gc B) k jj*v (b*J+(i*J'+j1)))=0):∀ d i,i<b->b-i<=d->v (i*J+jj)=0:=by
 intro d
 induction d with
 | zero=>intro i hi hd; omega
 |
  succ d ih =>
  intro i hi hd;have h1:=hW (i+a) jj (by omega) hj;rw [Qnx,hV (i+a) (by omega) (by omega)] at h1;rw [Bp b (λi' hi'=>Zll A v hj)] at h1;rw [Qk4 (k:=i) b hi λi' hi' hne=>?_] at h1
  ·rw [if_pos (by omega),Jb,Int.add_zero] at h1;rcases J6.1 h1 with h2 | h2
   ·exact absurd h2 lA
   ·exact h2
  ·rcases Za i i' with h | h
   ·rw [ih i' hi' (by omega)]; simp
   ·rw [if_pos (by omega),Qh,Qu (by omega)]; simp
include hA hB lA lB hJ hW in
theorem Zlo:∀ d js,js<J'->J'-js<=d->∀ i,i<a->v (b*J+(i*J'+js))=0:=by
 intro d
 induction d with
 | zero=>intro js hi hd; omega
 |
  succ d ih =>
  intro js hjs hd i hi;have hin:∀ i' k,i'<a->(sm J' λj1=>shF i' j1 (gc B) k (js+b)*v (b*J+(i'*J'+j1)))=if i'=k then gc B 0 b*v (b*J+(i'*J'+js)) else 0:=λi' k hi'=>by
   rw [Qk4 (k:=js) J' hjs λj1 hj1 hne=>?_]
   ·unfold shF;by_cases h:i'<=k
    ·rw [if_pos h,if_pos (by omega),Jb];by_cases h':i'=k
     ·rw [if_pos h',h',Yo]
     ·rw [if_neg h',Qhx B _ _ (by omega),J7]
    ·rw [if_neg h,if_neg (by omega),J7]
   ·rcases Za js j1 with h | h
    ·rw [ih j1 hj1 (by omega) i' hi',V1]
    ·unfold shF;by_cases h':i'<=k
     ·rw [if_pos h',if_pos (by omega),Qhx B _ _ (by omega),J7]
     ·rw [if_neg h',J7]
  have hU:=Zg1 hA lA hW (jj:=js+b) (by omega) (λk hk hk'=>Qa3 a λi' hi'=>by rw [hin i' k hi',if_neg (by omega)]) (b+1);have h1:=hW i (js+b) (by omega) (by omega);rw [Qnx,Bp a (λi' hi'=>hin i' i hi')] at h1;rw [Qa3 b λi' hi'=>by
   rw [Zll A v (by omega),hU i' hi' (by omega)]; simp] at h1
  rw [Qk4 (k:=i) a hi λi' hi' hne=>if_neg hne,if_pos rfl,Int.zero_add] at h1;rcases J6.1 h1 with h2 | h2
  ·have:=Q74 B b hB; rw [h2] at this; omega
  ·exact h2
include hA hB lA lB hJ hW in
theorem Q43:∀ n,n<b*J+a*J'->v n=0:=by
 intro n hn;have hV:=Zlo hA hB lA lB hJ hW;rcases Za n (b*J) with h | h
 ·have hJp:0<J:=by
   rcases Qy J with e | e
   ·rw [e,Yn] at h; omega
   ·exact e
  have e1:=Z5 n hJp;have e2:n / J<b:=X4 (by rw [Zi]; exact h);have:=Zg1 hA lA hW e1 (λk _ _=>Qa3 a λi hi=>Qa3 J' λj1 hj1=>by rw [hV J' j1 hj1 (by omega) i hi,V1]) (b+1) (n / J) e2 (Qc (Nat.sub_le _ _) (Nat.le_succ _));rwa [Zi,Z9] at this
 ·have hJp:0<J':=by
   rcases Qy J' with e | e
   ·rw [e,Yn] at hn; omega
   ·exact e
  have e1:=Z5 (n-b*J) hJp;have e2:(n-b*J) / J'<a:=X4 (by rw [Zi J' a]; omega);have:=hV J' _ e1 (by omega) _ e2;rw [Zi ((n-b*J) / J'),Z9] at this;rwa [show b*J+(n-b*J)=n by omega] at this
end
theorem Qaz {R x:Rat} (h1:1<=R) (hx:Uf x<=R):∀ k:Nat,Uf (x^k)<=R^k/\1<=R^k
 | 0=>by rw [Xb,Xb]; exact ⟨by decide,by decide⟩
 |
  k+1=>by
  obtain ⟨i1,i2⟩:=Qaz h1 hx k;rw [Z3,Z3];have:=Ml (a:=1) (c:=1) (by decide) i2 (by decide) h1;exact ⟨Ff i1 hx,by grind⟩
theorem Q1g {R:Rat} (h1:1<=R) {i:Nat}:∀ k,i<=k->R^i<=R^k
 | 0,h=>by rw [show i=0 by omega]; exact Qp
 |
  k+1,h=>by
  rcases Y6 h with e | e
  ·have:=Q1g h1 (i:=i) k (by omega);have h2:=(Qaz h1 (x:=0) (by rw [Gu]; grind) k).2;rw [Z3];have:=Ml (a:=R^k) (b:=R^k) (c:=1) (d:=R) (by grind) Qp (by decide) h1;grind
  ·rw [e]; exact Qp
theorem Zau {F:Nat->Nat->Int} {i j' K J:Nat} {x y R X:Rat} {K2 J2:Nat} (h1:1<=R) (hx:Uf x<=R) (hy:Uf y<=R) (hK:K=i+K2) (hJ:J=j'+J2) (hF:E2 F K2 J2 x y=X):Uf (E2 (shF i j' F) K J x y)<=R^(K+J)*Uf X:=by
 subst hK; subst hJ;rw [Qji,hF,Lq];have a1:=(Qaz h1 hy i).1;have a2:=(Qaz h1 hx j').1;have a3:=Ff a1 a2;rw [<-Qd9] at a3;have a4:=Q1g h1 (i:=i+j') (i+K2+(j'+J2)) (by omega);exact Ml (Gh _) (Zg a3 a4) (Gh _) Qp
theorem Zjx {A B:List Int} {a b h:Nat} (hA:A.length=a+1) (hB:B.length=b+1) (lA:A.getD a 0≠0) (lB:B.getD b 0≠0) (ha:0<a) (hb:0<b) (h0:1<=h) (bA:∀ k,(A.getD k 0).natAbs<=h) (bB:gB B<=h) {J J' N H:Nat} (hJ:J=2*(a*b)) (hJ':J=J'+b) (hN:N=b*J+a*J') (hH:H=(2*(N*h))^(2*(a+b-1))) :
 ∃ w:Nat->Int,(∃ j,j<J/\w j≠0)/\(∀ j,(w j).natAbs<=N*(h*H))/\∀ R:Rat,1<=R->∃ C:Rat,0<=C/\∀ x y,Uf x<=R->Uf y<=R->Uf (sq J λj=>(w j:Rat)*x^j)<=C*(Uf (Ub A y)+Uf (Ub B (y-x))):=by
 have hab:0<a*b:=Jx ha hb;have hbd:∀ n k j,(phi A B b J J' n k j).natAbs<=h:=λn k j=>by
  unfold phi
  split
  ·exact Zav (λk j=>by unfold fA; split; exact bA k; exact Nat.zero_le _) _ _ _ _
  ·exact Zav (λk j=>Qc (Q73 B k j) bB) _ _ _ _
 have hJp:0<J:=by omega
 have hNp:1<=N:=by
  have:0<b*J:=Jx hb hJp;omega
 have hNh:1<=N*h:=Jx hNp h0;obtain ⟨E,hE⟩:=nmE ((a+b-1)*J);have hNE:N=E+a*b:=by
  have e1:(a+b-1)*J+J=(a+b)*J:=by
   rw [<-Z6]; congr 1; omega
  have e2:a*J=a*J'+a*b:=by rw [hJ',Xl]
  rw [Jf] at e1;omega
 have hc:(2*(N*(h*H))+1)^E<(H+1)^N:=by
  have c1:2*(N*(h*H))+1<=2*(N*h)*(H+1):=by
   rw [Xl,Yl,Xh 2,Xh N]; omega
  refine Zs (Nat.pow_le_pow_left c1 E) ?_;rw [Nat.mul_pow,hNE,Xa,Zi];refine Nat.mul_lt_mul_of_pos_left ?_ (Zy (by omega));have e1:(2*(N*h))^E=H^(a*b):=by
   rw [hH,<-Wz,hE,hJ]; congr 1;rw [Zi 2 (a+b-1),Xh]
  rw [<-hNE,e1];exact Nat.pow_lt_pow_left (by omega) (by omega)
 obtain ⟨v,v1,⟨n0,n1,n2⟩,v3⟩:=Zj1 (M:=λe n=>phi A B b J J' n (e / J+1) (e % J)) (h:=h) (N:=N) (E:=E) (H:=H) (λe n=>hbd n _ _) hc;have hW:∀ k j,1<=k->k<a+b->j<J->sm N (λn=>phi A B b J J' n k j*v n)=0:=λk j k1 k2 hj=>by
  have:=v3 ((k-1)*J+j) (by rw [hE]; exact Zhb (by omega) hj);rwa [(Qfm hj).1,(Qfm hj).2,show k-1+1=k by omega] at this
 refine ⟨λj=>sm N λn=>phi A B b J J' n 0 j*v n,?_,λj=>?_,λR hR=>?_⟩
 ·rcases Classical.em (∃ j,j<J/\(sm N λn=>phi A B b J J' n 0 j*v n)≠0) with e | e
  ·exact e
  ·exfalso;refine n2 (Q43 hA hB lA lB hJ' (v:=v) (λk j hk hj=>?_) n0 (by rw [<-hN]; exact n1));rw [<-hN];rcases Qy k with e' | e'
   ·subst e';rcases Classical.em ((sm N λn=>phi A B b J J' n 0 j*v n)=0) with e2 | e2
    ·exact e2
    ·exact absurd ⟨j,hj,e2⟩ e
   ·exact hW k j e' hk hj
 ·refine Za1 N λn _=>?_
  rw [J0];exact Zx (hbd n 0 j) (v1 n)
 ·have hRp:∀ k:Nat,1<=R^k:=λk=>(Qaz hR (x:=0) (by rw [Gu]; grind) k).2
  have hHn:(0:Rat)<=(H:Rat):=Xi;have hNn:(0:Rat)<=(N:Rat):=Xi;refine ⟨(N:Rat)*((H:Rat)*R^(a+b+J)),Pm hNn (Pm hHn (by have:=hRp (a+b+J); grind)),λx y hx hy=>?_⟩;have e1:(sq J λj=>((sm N λn=>phi A B b J J' n 0 j*v n:Int):Rat)*x^j)=E2 (λk j=>sm N λn=>phi A B b J J' n k j*v n) (a+b) J x y:=by
   unfold E2;obtain ⟨m,hm⟩:∃ m,a+b=m+1:=⟨a+b-1,by omega⟩;rw [hm,Ah,Mv (n:=m)]
   ·have:(sq J λj=>((sm N λn=>phi A B b J J' n 0 j*v n:Int):Rat)*(y^0*x^j))=sq J λj=>((sm N λn=>phi A B b J J' n 0 j*v n:Int):Rat)*x^j:=Ru J λj _=>by rw [Xb]; grind
    rw [this]; grind
   ·intro k hk;refine Mv J λj hj=>?_
    show ((sm N λn=>phi A B b J J' n (k+1) j*v n:Int):Rat)*_=0;rw [hW (k+1) j (by omega) (by omega) hj,show ((0:Int):Rat)=0 from rfl]; grind
  rw [e1,Q7n];have key:∀ n,n<N->Uf ((v n:Rat)*E2 (phi A B b J J' n) (a+b) J x y)<=(H:Rat)*(R^(a+b+J)*(Uf (Ub A y)+Uf (Ub B (y-x)))):=λn hn=>by
   have hvn:Uf (v n:Rat)<=(H:Rat):=by
    have h1:=v1 n;have h2:(v n)<=(H:Int):=by omega
    have h3:-(H:Int)<=v n:=by omega
    have h2:=Xx.2 h2;have h3:=Xx.2 h3;rw [Y8] at h3;rw [Tx]; exact ⟨h3,h2⟩
   refine Ff hvn ?_;have hRk:=hRp (a+b+J);have n1:=Gh (Ub A y);have n2:=Gh (Ub B (y-x));rcases Za n (b*J) with h | h
   ·have e:phi A B b J J' n=shF (n / J) (n % J) (fA A):=by funext k j; unfold phi; rw [if_pos h]
    have d1:n / J<b:=X4 (by rw [Zi]; exact h);have d2:=Z5 n hJp;rw [e];refine Zg (Zau (K2:=a+b-n / J) (J2:=J-n % J) hR hx hy (by omega) (by omega) (X:=Ub A y) ?_) (Ml (by grind) Qp n1 (by grind));obtain ⟨m,hm⟩:∃ m,J-n % J=m+1:=⟨J-n % J-1,by omega⟩;rw [hm]; exact Zlq A _ _ x y (by omega)
   ·have e:phi A B b J J' n=shF ((n-b*J) / J') ((n-b*J) % J') (gc B):=by funext k j; unfold phi; rw [if_neg (by omega)]
    have hJp':0<J':=by
     rcases Qy J' with e | e
     ·rw [e,Yn] at hN; omega
     ·exact e
    have d1:(n-b*J) / J'<a:=X4 (by rw [Zi J' a]; omega);have d2:=Z5 (n-b*J) hJp';rw [e];refine Zg (Zau (K2:=a+b-(n-b*J) / J') (J2:=J-(n-b*J) % J') hR hx hy (by omega) (by omega) (X:=Ub B (y-x)) ?_) (Ml (by grind) Qp n2 (by grind));exact Zis x y B _ _ (by omega) (by omega)
  have:=Zhl N key;refine Zg this ?_;have:(N:Rat)*((H:Rat)*(R^(a+b+J)*(Uf (Ub A y)+Uf (Ub B (y-x)))))=(N:Rat)*((H:Rat)*R^(a+b+J))*(Uf (Ub A y)+Uf (Ub B (y-x))):=by grind
  rw [this]; exact Qp
end Orq
namespace Orq
theorem Za5 {w:Nat->Int} {x:Rat} {D:Rat} (hx:Uf x*2<=1) (hw:∀ j,Uf (w j:Rat)<=D):∀ J (k:Nat),Uf (sq J λj=>(w (k+j):Rat)*x^j)<=2*D
 | 0,k=>by have:=hw 0; have:=Gh (w 0:Rat); simp only [sq,Gu]; clear hw; grind
 |
  J+1,k=>by
  have ih:=Za5 hx hw J (k+1);rw [Ah];have e:(sq J λi=>(w (k+(i+1)):Rat)*x^(i+1))=x*sq J λi=>(w (k+1+i):Rat)*x^i:=by
   rw [<-Qaa]; exact Ru J λi _=>by rw [Z3,show k+(i+1)=k+1+i by omega]; grind
  rw [e,Xb,Xn];have h1:=hw k;have h2:=H6 ((w k:Rat)*1) (x*sq J λi=>(w (k+1+i):Rat)*x^i);have h3:=Ff (x:=x) (y:=sq J λi=>(w (k+1+i):Rat)*x^i) Qp ih;have h4:=Q8 hx (show (0:Rat)<=D by have:=Gh (w k:Rat); clear hw; grind);have h5:(w k:Rat)*1=w k:=by grind
  rw [h5] at h2 ⊢;clear hw; grind
theorem Qch {z:Int} (h:z≠0):1<=Uf (z:Rat):=by
 unfold Uf;rcases V0 h with h | h
 ·have:((z:Int):Rat)<((0:Int):Rat):=X7.2 h;have h2:((1:Int):Rat)<=((-z:Int):Rat):=Xx.2 (by omega);rw [if_pos (by simpa using this)];rw [Y8] at h2;simpa using h2
 ·have:((0:Int):Rat)<((z:Int):Rat):=X7.2 h;have h2:((1:Int):Rat)<=((z:Int):Rat):=Xx.2 (by omega);rw [if_neg (by
   have:(0:Rat)<z:=by simpa using this
   grind)]
  simpa using h2
theorem Qwv {w:Nat->Int} {x:Rat} {D:Rat} (hD:1<=D) (hx0:0<Uf x) (hx:Uf x*(4*D)<=1) (hw:∀ j,Uf (w j:Rat)<=D):∀ J (k:Nat),(∃ j,j<J/\w (k+j)≠0)->Uf x^J / 2<=Uf (sq J λj=>(w (k+j):Rat)*x^j)
 | 0,k,⟨j,h,_⟩=>by omega
 |
  J+1,k,⟨j,h1,h2⟩=>by
  have hx2:Uf x*2<=1:=by
   have:=Ml (a:=Uf x) (c:=2) (Qq hx0) Qp (by decide) (show (2:Rat)<=4*D by clear hw; grind);exact Zg this hx
  have hx1:Uf x<=1:=by clear hw; grind
  have hp:∀ k:Nat,Uf x^k<=1/\0<=Uf x^k:=λk=>by
   induction k with
   | zero=>rw [Xb]; exact ⟨by decide,by decide⟩
   |
    succ k ih =>
    rw [Z3];have:=Ml ih.2 ih.1 (Qq hx0) hx1;have:=Pm ih.2 (Qq hx0);constructor <;> (clear hw; grind)
  rw [Ah];have e:(sq J λi=>(w (k+(i+1)):Rat)*x^(i+1))=x*sq J λi=>(w (k+1+i):Rat)*x^i:=by
   rw [<-Qaa]; exact Ru J λi _=>by rw [Z3,show k+(i+1)=k+1+i by omega]; grind
  rw [e,Xb,Xn k,show (w k:Rat)*1=w k by grind];by_cases h0:w k=0
  ·have hj:j≠0:=λe=>h2 (by rw [e]; exact h0)
   have ih:=Qwv hD hx0 hx hw J (k+1) ⟨j-1,by omega,by rw [show k+1+(j-1)=k+j by omega]; exact h2⟩;rw [h0,show ((0:Int):Rat)+x*(sq J λi=>(w (k+1+i):Rat)*x^i)=x*sq J λi=>(w (k+1+i):Rat)*x^i by rw [show ((0:Int):Rat)=0 from rfl]; grind,Lq,Z3];have:=Zu ih (Qq hx0);have e2:Uf x*(Uf x^J / 2)=Uf x^J*Uf x / 2:=by rw [J5,J5]; grind
   rw [e2] at this; exact this
  ·have a1:=Qch h0;have a2:=Za5 hx2 hw J (k+1);have a3:=Ff (x:=x) (y:=sq J λi=>(w (k+1+i):Rat)*x^i) Qp a2;have a4:=H6 ((w k:Rat)+x*sq J λi=>(w (k+1+i):Rat)*x^i) (-(x*sq J λi=>(w (k+1+i):Rat)*x^i));rw [Ck,show (w k:Rat)+(x*sq J λi=>(w (k+1+i):Rat)*x^i)+-(x*sq J λi=>(w (k+1+i):Rat)*x^i)=w k by grind] at a4;have a5:=(hp (J+1)).1;have a6:Uf x^(J+1) / 2*2=Uf x^(J+1):=Fi (by decide);have a7:Uf x*(2*D)*2=Uf x*(4*D):=by grind
   clear hw hp; grind
theorem Zi0 {A B:List Int} {a b h:Nat} (hA:A.length=a+1) (hB:B.length=b+1) (lA:A.getD a 0≠0) (lB:B.getD b 0≠0) (ha:0<a) (hb:0<b) (h0:1<=h) (bA:∀ k,(A.getD k 0).natAbs<=h) (bB:gB B<=h) {N D:Nat} (hN:b*(2*(a*b))+a*(2*(a*b)-b)=N) (hD:N*(h*(2*(N*h))^(2*(a+b-1)))<=D) {R d:Rat} (hR:1<=R) (dp:0<d)
 (hs:∀ e:Rat,0<e->∃ q r,Uf q<=R/\Uf r<=R/\d<=Uf (q-r)/\Uf (q-r)*(4*(D:Rat))<=1/\Uf (Ub A q)<e/\Uf (Ub B r)<e):False:=by
 have hab:0<a*b:=Jx ha hb;have hbab:b<=a*b:=by
  have:=Q0 b (show 1<=a from ha); omega
 obtain ⟨w,⟨j,hj,hw0⟩,hw,hC⟩:=Zjx hA hB lA lB ha hb h0 bA bB (J:=2*(a*b)) (J':=2*(a*b)-b) rfl (by omega) hN.symm rfl;obtain ⟨C,hC0,hC⟩:=hC (2*R) (by grind);have hw':∀ j,Uf (w j:Rat)<=(D:Rat):=λj=>by
  have h1:=Qc (hw j) hD;have h2:w j<=(D:Int):=by omega
  have h3:-(D:Int)<=w j:=by omega
  have h2:=Xx.2 h2;have h3:=Xx.2 h3;rw [Y8] at h3;rw [Tx]; exact ⟨h3,h2⟩
 have hD1:(1:Rat)<=(D:Rat):=by
  have:=Qch hw0;exact Zg this (hw' j)
 have hdJ:0<d^(2*(a*b)) / 2:=De (Rat.pow_pos dp) (by decide);obtain ⟨e,ep,_,he⟩:=Fo (b:=C*2) (d:=d^(2*(a*b)) / 2) (by grind) hdJ;obtain ⟨q,r,q1,r1,d1,d2,aq,br⟩:=hs e ep;have h1:=hC (q-r) q (by
  have:=H6 q (-r); rw [Ck] at this; have:q-r=q+-r:=by grind
  grind) (by grind)
 rw [show q-(q-r)=r by grind] at h1;have h2:=Qwv (x:=q-r) hD1 (by grind) d2 hw' (2*(a*b)) 0 ⟨j,hj,by rw [Zz]; exact hw0⟩;simp only [Zz] at h2;have h3:C*(Uf (Ub A q)+Uf (Ub B r))<=C*(e+e):=Zu (by grind) hC0;have h4:d^(2*(a*b))<=Uf (q-r)^(2*(a*b)):=by
  generalize 2*(a*b)=J
  induction J with
  | zero=>rw [Xb,Xb]; exact Qp
  |
   succ J ih =>
   rw [Z3,Z3];exact Ml (Qq (Rat.pow_pos dp)) ih (Qq dp) d1
 have h5:d^(2*(a*b)) / 2*2=d^(2*(a*b)):=Fi (by decide);have h6:Uf (q-r)^(2*(a*b)) / 2*2=Uf (q-r)^(2*(a*b)):=Fi (by decide);clear hC hs hw hw';grind
def HD (p:List Rat) (n:Nat):Prop:=p.getD n 0≠0/\∀ k,n<k->p.getD k 0=0
theorem Gw:∀ (p q:List Rat) (k:Nat),(H7 p q).getD k 0=p.getD k 0+q.getD k 0
 | [],q,k=>by simp only [H7,Ka]; grind
 | a::p,[],k=>by simp only [H7,Ka]; grind
 | a::p,b::q,0=>by simp only [H7,Zo]
 | a::p,b::q,k+1=>by simp only [H7,Q3]; exact Gw p q k
theorem H5 (c:Rat):∀ (p:List Rat) (k:Nat),(Ba c p).getD k 0=c*p.getD k 0
 | [],k=>by simp only [Ba,X3,Ka]; grind
 | a::p,0=>by simp [Ba]
 | a::p,k+1=>by have:=H5 c p k; simp only [Ba,Zv,Q3] at *; exact this
theorem Q8a {p:List Rat} {k:Nat} (h:∀ x∈p,x=0):p.getD k 0=0:=by
 rw [Qh];cases e:p[k]? with
 | none=>rfl
 | some x=>exact h x (Qa e)
theorem Nv {p q:List Rat} (h:∀ t,ev p t=ev q t) (k:Nat):p.getD k 0=q.getD k 0:=by
 have h1:=Q8a (k:=k) (Qcv (p:=H7 p (Ba (-1) q)) λt _ _=>by rw [U7,Uw,h t]; grind);rw [Gw,H5] at h1; grind
theorem Bh:∀ {p:List Rat},(∀ k,p.getD k 0=0)->∀ t,ev p t=0
 | [],_,t=>rfl
 |
  a::p,h,t=>by
  have h0:=h 0;have h1:=Bh (p:=p) (λk=>by have:=h (k+1); rwa [Q3] at this) t;rw [Zo] at h0;simp only [ev,h0,h1]; grind
theorem Qj0:∀ (p:List Rat),(∀ t,ev p t=0)\/∃ n,n<p.length/\HD p n
 | []=>.inl λ_=>rfl
 |
  a::p=>by
  rcases Qj0 p with h | ⟨n,hn,h1,h2⟩
  ·rcases Classical.em (a=0) with e | e
   ·exact .inl λt=>by simp only [ev,e,h t]; grind
   ·refine .inr ⟨0,by simp,by simpa using e,λk hk=>?_⟩;obtain ⟨m,rfl⟩:∃ m,k=m+1:=⟨k-1,by omega⟩;rw [Q3];exact (Nv (p:=p) (q:=[]) h m).trans (by simp)
  ·refine .inr ⟨n+1,by simp; omega,by rw [Q3]; exact h1,λk hk=>?_⟩;obtain ⟨m,rfl⟩:∃ m,k=m+1:=⟨k-1,by omega⟩;rw [Q3]; exact h2 m (by omega)
theorem Zg9 {p q:List Rat} {n:Nat} (h:∀ t,ev p t=ev q t) (hp:HD p n):HD q n :=
 ⟨by rw [<-Nv h]; exact hp.1,λk hk=>by rw [<-Nv h]; exact hp.2 k hk⟩
theorem Zha {p:List Rat} {n m:Nat} (h:HD p n) (h':HD p m):n=m:=by
 rcases V5 n m with e | e | e
 ·exact absurd (h.2 m e) h'.1
 ·exact e
 ·exact absurd (h'.2 n e) h.1
theorem Qz3 {p:List Rat} {n:Nat} (h:HD p n):¬∀ t,ev p t=0:=λh0=>h.1 ((Nv (p:=p) (q:=[]) h0 n).trans (by simp))
theorem Qgt {p q:List Rat} (h:∀ k,p.getD k 0=0) (k:Nat):(Fa p q).getD k 0=0:=by
 have:=Nv (p:=Fa p q) (q:=[]) (λt=>by rw [Uc,Bh h t]; simp only [ev]; grind) k;rw [this]; simp
theorem Qj1:∀ {p q:List Rat} {m n:Nat},HD p m->HD q n->HD (Fa p q) (m+n)
 | [],q,m,n,h,_=>absurd (by simp) h.1
 |
  a::p,q,0,n,h,h'=>by
  have h1:∀ k,p.getD k 0=0:=λk=>by have:=h.2 (k+1) (by omega); rwa [Q3] at this
  have h2:∀ k,(Fa (a::p) q).getD k 0=a*q.getD k 0:=λk=>by
   simp only [Fa];rw [Gw,H5];cases k with
   | zero=>rw [Zo]; grind
   | succ k=>rw [Q3,Qgt h1]; grind
  have h3:=h.1;rw [Zo] at h3;refine ⟨?_,λk hk=>?_⟩
  ·rw [h2,Zz]; exact λh=>(Yq.1 h).elim h3 h'.1
  ·rw [h2,h'.2 k (by omega)]; grind
 |
  a::p,q,m+1,n,h,h'=>by
  have ih:=Qj1 (p:=p) (q:=q) (m:=m) ⟨by have:=h.1; rwa [Q3] at this,λk hk=>by have:=h.2 (k+1) (by omega); rwa [Q3] at this⟩ h';refine ⟨?_,λk hk=>?_⟩
  ·simp only [Fa];rw [Gw,H5,show m+1+n=(m+n)+1 by omega,Q3,h'.2 _ (by omega)];have:=ih.1; grind
  ·obtain ⟨j,rfl⟩:∃ j,k=j+1:=⟨k-1,by omega⟩;simp only [Fa];rw [Gw,H5,Q3,h'.2 _ (by omega),ih.2 j (by omega)]; grind
def Iq (g f:List Rat):Prop:=∃ u,∀ t,ev f t=ev g t*ev u t
theorem dvd_refl (f:List Rat):Iq f f:=⟨[1],λt=>by rw [Hd]; grind⟩
theorem dvd_trans {f g h:List Rat}:Iq f g->Iq g h->Iq f h
 | ⟨u,hu⟩,⟨v,hv⟩=>⟨Fa u v,λt=>by rw [hv,hu,Uc]; grind⟩
theorem Qs7 {p q:List Rat} (h:∀ t,ev p t*ev q t=0) (hp:¬∀ t,ev p t=0):∀ t,ev q t=0:=by
 rcases Qj0 p with h1 | ⟨m,_,h1⟩
 ·exact absurd h1 hp
 ·rcases Qj0 q with h2 | ⟨n,_,h2⟩
  ·exact h2
  ·exact absurd (λt=>by rw [Uc]; exact h t) (Qz3 (Qj1 h1 h2))
theorem Qv4 {p q r:List Rat} (hp:¬∀ t,ev p t=0) (h:∀ t,ev p t*ev q t=ev p t*ev r t) (t:Rat):ev q t=ev r t:=by
 have:=Qs7 (p:=p) (q:=H7 q (Ba (-1) r)) (λt=>by rw [U7,Uw]; have:=h t; grind) hp t;rw [U7,Uw] at this; grind
theorem Q7f {b:List Rat} {n:Nat} (hb:HD b n):∀ (l:Nat) (a:List Rat),(∀ k,l<=k->a.getD k 0=0)->∃ q r,(∀ t,ev a t=ev q t*ev b t+ev r t)/\∀ k,n<=k->r.getD k 0=0
 | 0,a,ha=>⟨[],a,λt=>by simp only [ev]; grind,λk _=>ha k (Qg _)⟩
 |
  l+1,a,ha=>by
  rcases Za l n with h | h
  ·exact ⟨[],a,λt=>by simp only [ev]; grind,λk hk=>ha k (by omega)⟩
  ·-- the leading term is taken away
   obtain ⟨c,hc⟩:=nmE (a.getD l 0 / b.getD n 0);have hcb:c*b.getD n 0=a.getD l 0:=by rw [hc]; exact Zl hb.1
   obtain ⟨m,hm⟩:∃ m:List Rat,m=List.replicate (l-n) 0++[c]:=⟨_,rfl⟩;have hsh:∀ (i:Nat) (k:Nat),(Fa (List.replicate i 0++[c]) b).getD k 0=if i<=k then c*b.getD (k-i) 0 else 0:=λi=>by
    induction i with
    | zero=>intro k; simp only [Kx,Yp,Fa]; rw [Gw,H5]; cases k <;> simp <;> grind
    |
     succ i ih =>
     intro k;simp only [Jv,Xc,Fa];rw [Gw,H5];cases k with
     | zero=>rw [Zo,if_neg (by omega)]; grind
     |
      succ k =>
      rw [Q3,ih k];by_cases h:i<=k
      ·rw [if_pos h,if_pos (by omega),Nat.add_sub_add_right]; grind
      ·rw [if_neg h,if_neg (by omega)]; grind
   obtain ⟨q,r,h1,h2⟩:=Q7f hb l (H7 a (Ba (-1) (Fa m b))) λk hk=>by
    rw [Gw,H5,hm,hsh,if_pos (by omega)];rcases Y6 hk with e | e
    ·rw [ha k (by omega),hb.2 _ (by omega)]; grind
    ·subst e; rw [show l-(l-n)=n by omega,hcb]; grind
   refine ⟨H7 q m,r,λt=>?_,h2⟩;have:=h1 t;rw [U7,Uw,Uc] at this;rw [U7]; grind
theorem Qwl:∀ (n:Nat) (a b:List Rat),(∀ k,n<=k->b.getD k 0=0)->∃ g U V,Iq g a/\Iq g b/\∀ t,ev g t=ev U t*ev a t+ev V t*ev b t
 |
  0,a,b,h=>by
  have h0:=Bh λk=>h k (Qg _)
  exact ⟨a,[1],[],dvd_refl a,⟨[],λt=>by rw [h0]; simp only [ev]; grind⟩,λt=>by rw [Hd]; simp only [ev]; grind⟩
 |
  n+1,a,b,h=>by
  rcases Classical.em (b.getD n 0=0) with e | e
  ·exact Qwl n a b λk hk=>by
    rcases Y6 hk with e' | e'
    ·exact h k (by omega)
    ·rw [<-e']; exact e
  ·obtain ⟨q,r,h1,h2⟩:=Q7f (b:=b) (n:=n) ⟨e,λk hk=>h k (by omega)⟩ a.length a λk hk=>by rw [Qh,Qu hk]; rfl
   obtain ⟨g,U,V,⟨u,hu⟩,⟨v,hv⟩,hg⟩:=Qwl n b r h2;refine ⟨g,V,H7 U (Ba (-1) (Fa V q)),⟨H7 (Fa q u) v,λt=>?_⟩,⟨u,hu⟩,λt=>?_⟩
   ·rw [h1,hv,U7,Uc,hu]; grind
   ·rw [hg,U7,Uw,Uc,h1]; grind
theorem Q76 (a b:List Rat):∃ g U V,Iq g a/\Iq g b/\∀ t,ev g t=ev U t*ev a t+ev V t*ev b t :=
 Qwl b.length a b λk hk=>by rw [Qh,Qu hk]; rfl
def Cop (a b:List Rat):Prop:=∃ U V,∀ t,ev U t*ev a t+ev V t*ev b t=1
theorem Qox {c d e:List Rat} (h:Cop c d) (h1:∃ u,∀ t,ev d t*ev e t=ev c t*ev u t):Iq c e:=by
 obtain ⟨U,V,h⟩:=h;obtain ⟨u,hu⟩:=h1;refine ⟨H7 (Fa U e) (Fa V u),λt=>?_⟩;rw [U7,Uc,Uc];have a1:=h t;have a2:=hu t;have:ev e t=(ev U t*ev c t+ev V t*ev d t)*ev e t:=by rw [a1]; grind
 rw [this];have:(ev U t*ev c t+ev V t*ev d t)*ev e t=ev U t*ev c t*ev e t+ev V t*(ev d t*ev e t):=by grind
 rw [this,a2]; grind
def qpw (d:List Rat):Nat->List Rat
 | 0=>[1]
 | k+1=>Fa d (qpw d k)
theorem Qxi (d:List Rat) (t:Rat):∀ k:Nat,ev d t*dv (qpw d k) t=(k:Rat)*(dv d t*ev (qpw d k) t)
 | 0=>by simp only [qpw,dv,ev]; rw [show ((0:Nat):Rat)=0 from rfl]; grind
 |
  k+1=>by
  have ih:=Qxi d t k;have hn':(((k+1:Nat):Rat))=(k:Rat)+1:=by push_cast; rfl
  simp only [qpw];rw [Qo3,Uc,hn']; grind
theorem Q93 {d:List Rat} {m:Nat} (h:HD d m):∀ k,HD (qpw d k) (k*m)
 | 0=>by rw [Ya]; exact ⟨by simp [qpw],λk hk=>by simp only [qpw]; rw [Qh,Qu (by simp; omega)]; rfl⟩
 | k+1=>by rw [Z6,Jw (k*m) m]; exact Qj1 h (Q93 h k)
theorem Qni {d g:List Rat} {m n:Nat} (hd:HD d m) (hg:HD g n) (h:∀ k,Iq (qpw d k) g):m=0:=by
 obtain ⟨u,hu⟩:=h (n+1);rcases Qj0 u with h1 | ⟨j,_,h1⟩
 ·exact absurd (λt=>by rw [hu,h1]; grind) (Qz3 hg)
 ·have:=Zha (Zg9 (λt=>by rw [hu,Uc]) hg) (Qj1 (Q93 hd (n+1)) h1);rcases Qy m with e | e
  ·exact e
  ·have:(n+1)*1<=(n+1)*m:=Zp _ e;omega
theorem sqf {a g q d U V:List Rat} {k:Rat} (hk:k≠0) (ha:∀ t,ev a t=ev g t*ev q t) (hg:∀ t,k*ev g t=ev U t*ev a t+ev V t*dv a t) (h1:Iq d q) (h2:Iq d (Pn q)):∀ n,Iq (qpw d n) g
 | 0=>⟨g,λt=>by simp only [qpw]; rw [Hd]; grind⟩
 |
  n+1=>by
  obtain ⟨g1,e1⟩:=sqf hk ha hg h1 h2 n;obtain ⟨q1,e2⟩:=h1;obtain ⟨q2,e3⟩:=h2;have d1:=λt=>A0 ha t
  have d2:=λt=>A0 e1 t
  have d3:=λt=>A0 e2 t
  have d4:=Qxi d;refine ⟨Ba (1 / k) (H7 (Fa U (Fa g1 q1)) (Fa V (H7 (Fa g1 q2) (H7 (Ba n (Fa g1 (H7 q2 (Ba (-1) (Pn q1))))) (Fa (Pn g1) q1))))),λt=>?_⟩;have hkk:1 / k*k=1:=Zl hk;simp only [qpw,Uw,U7,Uc,Hm];have b1:=ha t; have b2:=hg t; have b3:=e1 t; have b4:=e2 t; have b5:=e3 t;have b6:=d1 t; have b7:=d2 t; have b8:=d3 t; have b9:=d4 t n;rw [Hm] at b5;generalize ev d t=x0 at *;generalize ev (qpw d n) t=x1 at *;generalize ev g t=x2 at *;generalize ev q t=x3 at *;generalize ev a t=x4 at *;generalize dv a t=x5 at *;generalize dv g t=x6 at *;generalize dv q t=x7 at *;generalize ev g1 t=x8 at *;generalize dv g1 t=x9 at *;generalize ev q1 t=y0 at *;generalize dv q1 t=y1 at *;generalize ev q2 t=y2 at *;generalize dv d t=y3 at *;generalize dv (qpw d n) t=y4 at *;generalize ev U t=y5 at *;generalize ev V t=y6 at *;generalize (n:Rat)=y7 at *;have:x2=1 / k*(k*x2):=by grind
  rw [this,b2];have c1:x5=x0*x1*(x8*y2+(y7*(x8*(y2+-1*y1))+x9*y0)):=by
   rw [b6,b7,b4,b3];have:y3*y0=x0*y2-x0*y1:=by grind
   have:x0*y4*(x8*y0)=y7*(x1*x8*(x0*y2-x0*y1)):=by rw [b9,<-this]; grind
   grind
  have c2:x4=x0*x1*(x8*y0):=by rw [b1,b3,b4]; grind
  rw [c1,c2]; grind
theorem Zdq {a b c:List Rat} (h1:Cop a b) (h2:Cop a c) {d:List Rat} (hd:∀ t,ev d t=ev b t*ev c t):Cop a d:=by
 obtain ⟨U,V,h1⟩:=h1;obtain ⟨X,Y,h2⟩:=h2;refine ⟨H7 U (Fa (Fa V b) X),Fa V Y,λt=>?_⟩;have a1:=h1 t;have a2:=h2 t;simp only [U7,Uc,hd];have:ev V t*ev b t*(ev X t*ev a t+ev Y t*ev c t)=ev V t*ev b t:=by rw [a2]; grind
 grind
theorem Zfy {a g q z r X Y:List Rat} {n:Nat} (ha:∀ t,ev a t=ev g t*ev q t) (hz:∀ t,dv a t=ev g t*ev z t) (hg:HD g n) (hr:∀ t,ev X t*ev r t+ev Y t*dv r t=1) (h:Iq r a):Iq r q:=by
 obtain ⟨b,hb⟩:=h;obtain ⟨e,U,V,⟨r1,e1⟩,⟨q3,e2⟩,e3⟩:=Q76 r q;have hr0:¬∀ t,ev r t=0:=λh=>by
  have h1:=hr 0;have h2:dv r 0=0:=by have:=Q7k (p:=r) (q:=[]) h 0; rw [this]; rfl
  rw [h,h2] at h1; grind
 have he0:¬∀ t,ev e t=0:=λh=>hr0 λt=>by rw [e1,h]; grind
 have d1:=λt=>A0 e1 t
 have c1:Cop r1 q3:=⟨U,V,λt=>by
  have:=Qv4 (p:=e) (q:=H7 (Fa U r1) (Fa V q3)) (r:=[1]) he0 (λt=>by
   rw [U7,Uc,Uc,Hd];have a1:=e1 t; have a2:=e2 t; have a3:=e3 t;rw [a1,a2] at a3; grind) t
  rw [U7,Uc,Uc,Hd] at this; exact this⟩
 have c2:Cop r1 e:=⟨H7 (Fa X e) (Fa Y (Pn e)),Fa Y (Pn r1),λt=>by
  have a1:=hr t; have a2:=e1 t; have a3:=d1 t;simp only [U7,Uc,Hm];rw [a2,a3] at a1; grind⟩
 have c3:Cop r1 (Pn r1):=⟨H7 (Fa X e) (Fa Y (Pn e)),Fa Y e,λt=>by
  have a1:=hr t; have a2:=e1 t; have a3:=d1 t;simp only [U7,Uc,Hm];rw [a2,a3] at a1; grind⟩
 have c4:Cop r1 q:=Zdq c2 c1 e2;have hgz:=Qz3 hg;have hp:∀ k,Iq (qpw r1 k) g:=λk=>by
  induction k with
  | zero=>exact ⟨g,λt=>by simp only [qpw]; rw [Hd]; grind⟩
  |
   succ k ih =>
   obtain ⟨h,eh⟩:=ih;have hpz:¬∀ t,ev (qpw r1 k) t=0:=λh0=>hgz λt=>by rw [eh,h0]; grind
   have key:Iq r1 h:=by
    cases k with
    |
     zero =>
     refine Qox c4 ⟨Fa e b,λt=>?_⟩;have a1:=ha t; have a2:=hb t; have a3:=e1 t; have a4:=eh t;simp only [qpw] at a4;rw [Hd] at a4;rw [Uc]; grind
    |
     succ k =>
     have hn:((k+1:Nat):Rat)≠0:=by
      have:(0:Rat)<((k+1:Nat):Rat):=by
       have h1:((0:Nat):Rat)<((k+1:Nat):Rat):=Vd.2 (by omega);simpa using h1
      grind
     have d2:=λt=>A0 (f:=a) (w:=qpw r1 (k+1)) (u:=Fa h q) (λt=>by rw [ha,eh,Uc]; grind) t
     have d4:=Qxi r1;have h3:=Qv4 (p:=qpw r1 (k+1)) (q:=Fa (Pn r1) (Fa h q)) (r:=Fa r1 (Ba (1 / ((k+1:Nat):Rat)) (H7 (Fa h z) (Ba (-1) (Pn (Fa h q)))))) hpz λt=>by
      simp only [Uc,Uw,U7,Hm];have a1:=d2 t; have a2:=d4 t (k+1); have a3:=hz t; have a4:=eh t;rw [Uc] at a1;generalize ((k+1:Nat):Rat)=c at *;have hc:1 / c*c=1:=Zl hn;generalize ev (qpw r1 (k+1)) t=x0 at *;generalize dv (qpw r1 (k+1)) t=x1 at *;generalize dv (Fa h q) t=x2 at *;generalize ev r1 t=x3 at *;generalize dv r1 t=x4 at *;generalize ev h t=x5 at *;generalize ev q t=x6 at *;generalize ev z t=x7 at *;generalize dv a t=x8 at *;generalize ev g t=x9 at *;generalize 1 / c=c' at *;have s1:x0*(x4*(x5*x6))=c'*(c*(x4*x0))*(x5*x6):=by
       have:c'*(c*(x4*x0))=(c'*c)*(x4*x0):=by grind
       rw [this,hc]; grind
      rw [s1,<-a2];have s2:x3*(x1*(x5*x6))=x3*(x0*(x5*x7+-1*x2)):=by
       rw [a3,a4] at a1; grind
      grind
     refine Qox c4 ?_;obtain ⟨u,hu⟩:=Qox (e:=Fa q h) c3 ⟨Ba (1 / ((k+1:Nat):Rat)) (H7 (Fa h z) (Ba (-1) (Pn (Fa h q)))),λt=>by
      have:=h3 t;simp only [Uc] at this ⊢;rw [<-this]; grind⟩
     exact ⟨u,λt=>by rw [<-hu,Uc]⟩
   obtain ⟨u,hu⟩:=key;exact ⟨u,λt=>by simp only [qpw]; rw [Uc,eh,hu]; grind⟩
 rcases Qj0 r1 with h1 | ⟨m,_,h1⟩
 ·exact absurd (λt=>by rw [e1,h1]; grind) hr0
 ·obtain rfl:=Qni h1 hg hp;have h2:∀ t,ev r1 t=r1.getD 0 0:=λt=>by
   cases r1 with
   | nil=>simp [ev]
   |
    cons c l =>
    have:∀ t,ev l t=0:=Bh λk=>by have:=h1.2 (k+1) (by omega); rwa [Q3] at this
    simp only [ev,this,Zo]; grind
  have h3:=h1.1;refine ⟨Ba (1 / r1.getD 0 0) q3,λt=>?_⟩;rw [e2,e1,h2,Uw];have:1 / r1.getD 0 0*r1.getD 0 0=1:=Zl h3;have:ev e t*r1.getD 0 0*(1 / r1.getD 0 0*ev q3 t)=ev e t*ev q3 t*(1 / r1.getD 0 0*r1.getD 0 0):=by grind
  rw [this,Zl h3]; grind
def E4:List (List Rat)->List Rat
 | []=>[1]
 | w::l=>Fa w (E4 l)
def Lay:List (List Rat)->List (List Rat)->Prop
 | [],[]=>True
 | [w],[f]=>∀ t,ev w t=ev f t
 | w::v::l,f::fs=>(∀ t,ev w t=ev f t*ev v t)/\Lay (v::l) fs
 | _,_=>False
def Qhe:List (List Rat)->List Rat
 | []=>[1]
 | [f]=>f
 | f::_::l=>Fa f (Qhe l)
theorem Q0c:∀ {ws fs:List (List Rat)},Lay ws fs->∃ S,∀ t,ev (E4 ws) t=ev (Qhe fs) t*(ev S t*ev S t)
 | [],[],_=>⟨[1],λt=>by simp only [E4,Qhe]; rw [Hd]; grind⟩
 | [w],[f],h=>⟨[1],λt=>by simp only [E4,Qhe]; rw [Uc,Hd,h t]; grind⟩
 |
  [w,v],[f,f2],h=>⟨v,λt=>by
  have h1:=h.1 t;have h2:ev v t=ev f2 t:=h.2 t;simp only [E4,Qhe,Uc]; rw [Hd,h1]; grind⟩
 |
  w::v::x::l,f::f2::fs,h=>by
  obtain ⟨S,hS⟩:=Q0c h.2.2;refine ⟨Fa v S,λt=>?_⟩;have h1:=h.1 t;have h2:=hS t;have e1:ev (E4 (w::v::x::l)) t=ev w t*(ev v t*ev (E4 (x::l)) t):=by simp only [E4,Uc]
  rw [e1,h2,h1];have e2:ev (Qhe (f::f2::fs)) t=ev f t*ev (Qhe fs) t:=by
   cases fs with
   | nil=>cases l <;> exact False.elim h.2.2
   | cons y l=>simp only [Qhe,Uc]
  rw [e2,Uc]; grind
 | [w],[],h=>h.elim
 | [w],_::_::_,h=>h.elim
 | [],_::_,h=>h.elim
 | [w,v],[f],h=>h.2.elim
 | [w,v],_::_::_::_,h=>h.2.elim
 | w::v::x::l,[f],h=>h.2.elim
 | w::v::l,[],h=>h.elim
end Orq
namespace Orq
open Orr Go
theorem Qw5 (p:List Int) (t:Rat):Ub p t=((p.getD 0 0:Int):Rat)+t*Ub p.tail t:=by
 cases p with
 | nil=>show (0:Rat)=((0:Int):Rat)+t*0; grind
 | cons a p=>rfl
theorem Qfk (p:List Int) (k:Nat):p.tail.getD k 0=p.getD (k+1) 0:=by
 cases p <;> simp
theorem Mm (c d:Int) (t:Rat):∀ (n:Nat) (p q r:List Int),p.length<=n->q.length<=n->r.length<=n->(∀ k,r.getD k 0=c*p.getD k 0+d*q.getD k 0)->Ub r t=(c:Rat)*Ub p t+(d:Rat)*Ub q t
 |
  0,p,q,r,hp,hq,hr,_=>by
  rw [Qk (Nat.le_zero.1 hp),Qk (Nat.le_zero.1 hq),Qk (Nat.le_zero.1 hr)];show (0:Rat)=_*0+_*0;grind
 |
  n+1,p,q,r,hp,hq,hr,h=>by
  have ih:=Mm c d t n p.tail q.tail r.tail (by rw [Wj]; omega) (by rw [Wj]; omega) (by rw [Wj]; omega) λk=>by
   rw [Qfk,Qfk,Qfk]; exact h (k+1)
  rw [Qw5 p,Qw5 q,Qw5 r,ih,h 0]
  push_cast
  grind
theorem Q03 {p q:List Int} (h:∀ k,p.getD k 0=q.getD k 0) (t:Rat):Ub p t=Ub q t:=by
 have:=Mm 1 0 t (max p.length q.length) q q p (Wm ..) (Wm ..) (Nat.le_max_left ..) λk=>by rw [h k]; omega
 rw [this]
 push_cast
 grind
theorem E7 (p:List Int) (t:Rat):Ub (trim p) t=Ub p t:=Q03 (Aj p) t
theorem Pj {p:List Int} {k:Nat} (h:p.length<=k):p.getD k 0=0:=by
 rw [Qh,Qu h]; rfl
theorem Qnd (p q:List Int) (k:Nat):(D6 p q).getD k 0=p.getD k 0+q.getD k 0:=by
 unfold D6;rw [Sf]
 split
 ·rfl
 ·rename_i h; rw [Pj (p:=p) (by omega),Pj (p:=q) (by omega)]; rfl
theorem Ac (p q:List Int) (k:Nat):(S7 p q).getD k 0=p.getD k 0-q.getD k 0:=by
 unfold S7;rw [Sf]
 split
 ·rfl
 ·rename_i h; rw [Pj (p:=p) (by omega),Pj (p:=q) (by omega)]; rfl
theorem Tv (p:List Int) (c:Int) (k:Nat):(Ux p c).getD k 0=p.getD k 0*c:=by
 unfold Ux;rw [Sf]
 split
 ·rfl
 ·rename_i h; rw [Pj (p:=p) (by omega),Int.zero_mul]
theorem Q3y (p:List Int) (k:Nat):(Ta p).getD k 0=-(p.getD k 0):=by
 unfold Ta;rw [Sf]
 split
 ·rfl
 ·rename_i h; rw [Pj (p:=p) (by omega)]; rfl
theorem P5 (p:List Int) (k:Nat):(U3 p).getD k 0=p.getD (k+1) 0*((k+1:Nat):Int):=by
 unfold U3;rw [Sf]
 split
 ·rfl
 ·rename_i h; rw [Pj (p:=p) (by omega),Int.zero_mul]
theorem Q9i (p q:List Int) (t:Rat):Ub (D6 p q) t=Ub p t+Ub q t:=by
 have:=Mm 1 1 t (max (max p.length q.length) (D6 p q).length) p q (D6 p q) (by omega) (by omega) (by omega) λk=>by rw [Qnd]; omega
 rw [this]; push_cast; grind
theorem E6 (p q:List Int) (t:Rat):Ub (S7 p q) t=Ub p t-Ub q t:=by
 have:=Mm 1 (-1) t (max (max p.length q.length) (S7 p q).length) p q (S7 p q) (by omega) (by omega) (by omega) λk=>by rw [Ac]; omega
 rw [this]; push_cast; grind
theorem Qdz (p:List Int) (t:Rat):Ub (Ta p) t=-Ub p t:=by
 have:=Mm (-1) 0 t (max p.length (Ta p).length) p p (Ta p) (by omega) (by omega) (by omega) λk=>by rw [Q3y]; omega
 rw [this]; push_cast; grind
theorem Tu (p:List Int) (c:Int) (t:Rat):Ub (Ux p c) t=Ub p t*(c:Rat):=by
 have:=Mm c 0 t (max p.length (Ux p c).length) p p (Ux p c) (by omega) (by omega) (by omega) λk=>by rw [Tv,Kn]; omega
 rw [this]; push_cast; grind
theorem Qpy:∀ (l:List Int) (j:Nat) (v:Int) (t:Rat),j<l.length->Ub (l.set j v) t=Ub l t+((v:Rat)-((l.getD j 0:Int):Rat))*t^j
 | [],_,_,_,h=>by simp at h
 |
  a::l,0,v,t,_=>by
  show (v:Rat)+t*Ub l t=(a:Rat)+t*Ub l t+((v:Rat)-(a:Rat))*t^0;rw [Xb]; grind
 |
  a::l,j+1,v,t,h=>by
  have ih:=Qpy l j v t (by simpa using h);show (a:Rat)+t*Ub (l.set j v) t=(a:Rat)+t*Ub l t+((v:Rat)-((l.getD j 0:Int):Rat))*t^(j+1);rw [ih,Z3]; grind
theorem Qkl:∀ (l:List Int) (k:Nat) (t:Rat),k<l.length->Ub (l.take (k+1)) t=Ub (l.take k) t+((l.getD k 0:Int):Rat)*t^k
 | [],_,_,h=>by simp at h
 |
  a::l,0,t,_=>by
  show (a:Rat)+t*Ub (l.take 0) t=0+(a:Rat)*t^0;rw [Xb,Vh];show (a:Rat)+t*0=_;grind
 |
  a::l,k+1,t,h=>by
  have ih:=Qkl l k t (by simpa using h);show (a:Rat)+t*Ub (l.take (k+1)) t=(a:Rat)+t*Ub (l.take k) t+((l.getD k 0:Int):Rat)*t^(k+1);rw [ih,Z3]; grind
theorem Qnf (n:Nat) (t:Rat):Ub (List.replicate n 0) t=0:=by
 induction n with
 | zero=>rfl
 |
  succ n ih =>
  show ((0:Int):Rat)+t*Ub (List.replicate n 0) t=0;rw [ih]; push_cast; grind
theorem Qt9 (t:Rat) (i:Nat):∀ k,t^(i+k)=t^i*t^k
 | 0=>by rw [Xn,Xb]; grind
 | k+1=>by rw [<-Ye,Z3,Z3,Qt9 t i k]; grind
theorem Qtq (x:Int) (b:List Int) (i:Nat) (o:List Int) (t:Rat):∀ k,k<=b.length->i+k<=o.length->Ub (Ex x b i o k) t=Ub o t+(x:Rat)*t^i*Ub (b.take k) t
 |
  0,_,_=>by
  show Ub o t=Ub o t+(x:Rat)*t^i*0;grind
 |
  k+1,h1,h2=>by
  have ih:=Qtq x b i o t k (by omega) (by omega);simp only [Ex];rw [Qpy _ _ _ _ (by rw [Ey]; omega),ih,Qkl b k t (by omega)];have hp:t^(i+k)=t^i*t^k:=Qt9 t i k;rw [hp]
  push_cast
  grind
theorem Qtp (a b o:List Int) (t:Rat):∀ i,i<=a.length->i+b.length<=o.length+1->Ub (By a b o i) t=Ub o t+Ub (a.take i) t*Ub b t
 |
  0,_,_=>by
  show Ub o t=Ub o t+0*Ub b t;grind
 |
  i+1,h1,h2=>by
  have ih:=Qtp a b o t i (by omega) (by omega);simp only [By];rw [Qtq _ _ _ _ _ b.length (Qn _) (by rw [Bm]; omega),ih,Qkl a i t (by omega),Q4];grind
theorem Uv (a b:List Int) (t:Rat):Ub (Um a b) t=Ub a t*Ub b t:=by
 unfold Um
 split
 ·rename_i h;rcases h with h | h
  ·rw [Qk h]; show (0:Rat)=0*_; grind
  ·rw [Qk h]; show (0:Rat)=_*0; grind
 ·rename_i h;rw [E7,Qtp a b _ t a.length (Qn _) (by rw [X8]; omega),Qnf,Q4];grind
theorem Gp (z d:Int):(z:Rat) / (d:Rat)=Rat.divInt z d:=by
 by_cases h:d=0
 ·subst h; simp; grind
 ·rw [J5]; exact (Rat.divInt_eq_div z d ▸ by rw [J5])
theorem Q10 (a:List Int) (n d:Int) (hd:(d:Rat)≠0):∀ k,k<=a.length->(((Sp a n d k).2:Int):Rat)=(d:Rat)^k/\(((Sp a n d k).1:Int):Rat)*d=(d:Rat)^k*Ub (a.drop (a.length-k)) ((n:Rat) / d)
 |
  0,_=>by
  refine ⟨by rw [Xb]; rfl,?_⟩;rw [Kv,Vl];show ((0:Int):Rat)*d=(d:Rat)^0*0
  push_cast; grind
 |
  k+1,hk=>by
  obtain ⟨h1,h2⟩:=Q10 a n d hd k (by omega);have hi:a.length-1-k<a.length:=by omega
  have e1:a.drop (a.length-(k+1))=a.getD (a.length-1-k) 0::a.drop (a.length-k):=by
   rw [show a.length-(k+1)=a.length-1-k by omega,Zj hi,show a.length-1-k+1=a.length-k by omega];congr 1;rw [Qh,Qf hi]; rfl
  refine ⟨?_,?_⟩
  ·show (((Sp a n d k).2*d:Int):Rat)=_;rw [Xj,h1,Z3]
  ·rw [e1];show (((Sp a n d k).1*n+a.getD (a.length-1-k) 0*(Sp a n d k).2:Int):Rat)*d=_*(((a.getD (a.length-1-k) 0:Int):Rat)+(n:Rat) / d*Ub (a.drop (a.length-k)) ((n:Rat) / d));rw [Vz,Xj,Xj,h1,Z3];have h3:(n:Rat) / d*d=n:=by rw [Zl hd]
   have h4:(d:Rat)^k*d*((n:Rat) / d*Ub (a.drop (a.length-k)) ((n:Rat) / d))=((n:Rat) / d*d)*((d:Rat)^k*Ub (a.drop (a.length-k)) ((n:Rat) / d)):=by grind
   have h5:(d:Rat)^k*d*(((a.getD (a.length-1-k) 0:Int):Rat)+(n:Rat) / d*Ub (a.drop (a.length-k)) ((n:Rat) / d))=(d:Rat)^k*d*((a.getD (a.length-1-k) 0:Int):Rat)+(d:Rat)^k*d*((n:Rat) / d*Ub (a.drop (a.length-k)) ((n:Rat) / d)):=by grind
   rw [h5,h4,h3,<-h2];grind
theorem Q07 {d:Rat} (h:0<d):∀ k:Nat,0<d^k
 | 0=>by rw [Xb]; decide
 | k+1=>by rw [Z3]; exact W0 (Q07 h k) h
theorem Qee {x y:Rat} (h:0<y):Uk (y*x)=Uk x:=by
 unfold Uk;have h1:y*x<0↔x<0:=by
  constructor
  ·intro h2;rcases Vj (a:=0) (b:=x) with h3 | h3
   ·have:=Rat.mul_nonneg (Qq h) h3; grind
   ·rcases Rat.le_iff_lt_or_eq.1 h3 with h4 | h4
    ·exact h4
    ·rw [h4] at h2; grind
  ·intro h2;have:=W0 h (show 0 < -x by grind);grind
 have h2:0<y*x↔0<x:=by
  constructor
  ·intro h2;rcases Vj (a:=x) (b:=0) with h3 | h3
   ·have:=Rat.mul_nonneg (Qq h) (show 0<=-x by grind); grind
   ·rcases Rat.le_iff_lt_or_eq.1 h3 with h4 | h4
    ·exact h4
    ·rw [<-h4] at h2; grind
  ·intro h2; exact W0 h h2
 simp only [h1,h2]
theorem Q66 (z:Int):Mc z 0=Uk (z:Rat):=by
 unfold Mc Uk;have h1:((z:Int):Rat)<0↔z<0:=by
  have := @Rat.intCast_lt_intCast z 0; simpa using this
 have h2:0<((z:Int):Rat)↔0<z:=by
  have := @Rat.intCast_lt_intCast 0 z; simpa using this
 simp only [h1,h2]
theorem S6 (p:List Int) (q:Rat):Fj p q=Uk (Ub p q):=by
 have hd0:(0:Rat)<((q.den:Int):Rat):=by
  have := @Rat.intCast_lt_intCast 0 (q.den:Int);rw [show ((0:Int):Rat)=0 from rfl] at this;exact this.2 (den_pos q)
 have hd:((q.den:Int):Rat)≠0:=by intro h; rw [h] at hd0; exact absurd hd0 (by decide)
 obtain ⟨_,h⟩:=Q10 p q.num q.den hd p.length (Qn _);rw [Yo,Xk,Gp,Z0] at h;unfold Fj;rw [Q66,<-Qee hd0,Wo];show Uk ((((Sp p q.num q.den p.length).1:Int):Rat)*_)=_;rw [h,Qee (Q07 hd0 _)]
def cz (p:List Int):List Rat:=p.map λz:Int=>(z:Rat)
theorem W8 (t:Rat):∀ p,ev (cz p) t=Ub p t
 | []=>rfl
 | a::p=>by have:=W8 t p; simp only [cz,Zv,ev,Ub] at *; rw [this]
theorem Si:∀ (p:List Int) (k:Nat),(cz p).getD k 0=((p.getD k 0:Int):Rat)
 | [],k=>by simp [cz]
 | a::p,0=>by simp [cz]
 | a::p,k+1=>by have:=Si p k; simp only [cz,Zv,Q3] at *; exact this
theorem Bn {p q:List Int} (h:∀ t,Ub p t=Ub q t) (k:Nat):p.getD k 0=q.getD k 0:=by
 have:=Nv (p:=cz p) (q:=cz q) (λt=>by rw [W8,W8,h]) k;rw [Si,Si] at this
 exact_mod_cast this
theorem Zf5 {p q:List Int} (hp:W9 p) (hq:W9 q) (h:∀ k,p.getD k 0=q.getD k 0):p=q:=by
 have key:∀ {p q:List Int},W9 p->W9 q->(∀ k,p.getD k 0=q.getD k 0)->p.length<=q.length:=λ{p q} hp hq h=>by
  rcases Za q.length p.length with e | e
  ·have:=Gn hp (by omega);rw [h,Qh,Qu (by omega)] at this;exact absurd rfl this
  ·exact e
 exact Qjk (Ku (key hp hq h) (key hq hp λk=>(h k).symm)) λj _=>h j
theorem Q04 {p q:List Int} (hp:W9 p) (hq:W9 q) (h:∀ t,Ub p t=Ub q t):p=q:=Zf5 hp hq (Bn h)
theorem Ze1 {p:List Int} (hp:W9 p) (h:∀ t,Ub p t=0):p=[]:=Q04 hp rfl λt=>by rw [h]; rfl
theorem Nx {p:List Int} (h:p.length=0) (t:Rat):Ub p t=0:=by rw [Qk h]; rfl
theorem Q02:∀ (p r:List Int) (t:Rat),(∀ k,r.getD k 0=p.getD (k+1) 0*((k+1:Nat):Int))->Ub r t=dv (cz p) t
 |
  [],r,t,h=>by
  rw [Q03 (q:=[]) (λk=>by rw [h]; simp) t]; rfl
 |
  a::p,r,t,h=>by
  have ih:=Q02 p (U3 p) t λk=>P5 p k
  have e:Ub r t=Ub p t+t*Ub (U3 p) t:=by
   have:=Mm 1 1 t (max (max p.length (0::U3 p).length) r.length) p (0::U3 p) r (by omega) (by omega) (by omega) λk=>by
    rw [h,Q3];cases k with
    | zero=>simp
    | succ k=>rw [Q3,P5]; push_cast; grind
   rw [this]; simp only [Ub]; push_cast; grind
  rw [e,ih];show _=ev (cz p) t+t*dv (cz p) t;rw [W8]
theorem E5 (p:List Int) (t:Rat):Ub (U3 p) t=dv (cz p) t:=Q02 p _ t λk=>P5 p k
theorem Qgs {p:List Int} (hp:W9 p) (h:0<p.length):HD (cz p) (p.length-1):=by
 refine ⟨?_,λk hk=>?_⟩
 ·rw [Si];have:=Gn hp h;exact λe=>this (by exact_mod_cast e)
 ·rw [Si,Qh,Qu (by omega)]; rfl
theorem Qgl {p:List Int} (hp:W9 p) (h:0<p.length):¬∀ t,Ub p t=0:=λh0=>by
 rw [Ze1 hp h0] at h; exact absurd h (by simp)
theorem Sk {a b c:List Int} (ha:W9 a) (hb:W9 b) (hc:W9 c) (h:∀ t,Ub c t=Ub a t*Ub b t) (la:0<a.length) (lb:0<b.length):c.length=a.length+b.length-1:=by
 have h1:=Qj1 (Qgs ha la) (Qgs hb lb);have h2:HD (cz c) (a.length-1+(b.length-1)):=Zg9 (λt=>by rw [Uc,W8,W8,W8,h]) h1;have lc:0<c.length:=by
  rcases Qy c.length with e | e
  ·exact absurd (λt=>by rw [W8]; exact Nx e t) (Qz3 h2)
  ·exact e
 have:=Zha (Qgs hc lc) h2;omega
theorem Qtv:∀ (n m:Nat),m<=n->2<=m->∃ P,2<=P/\P∣m/\∀ d,2<=d->d∣P->d=P
 | 0,m,h,h2=>by omega
 |
  n+1,m,h,h2=>by
  rcases Classical.em (∃ d,2<=d/\d<m/\d∣m) with ⟨d,d1,d2,d3⟩ | h0
  ·obtain ⟨P,p1,p2,p3⟩:=Qtv n d (by omega) d1;exact ⟨P,p1,Nat.dvd_trans p2 d3,p3⟩
  ·refine ⟨m,h2,Nat.dvd_refl m,λd d1 d2=>?_⟩;rcases Y6 (Vs (by omega) d2) with e | e
   ·exact absurd ⟨d,d1,e,d2⟩ h0
   ·exact e
theorem Qo4 {P:Nat} (h2:2<=P) (hP:∀ d,2<=d->d∣P->d=P) {x y:Int} (h:(P:Int)∣x*y):(P:Int)∣x\/(P:Int)∣y:=by
 have h:=Xp.2 h;rw [J0,Z7] at h;have hg:=Kc P x.natAbs;rcases Za (Nat.gcd P x.natAbs) 2 with e | e
 ·right;have h1:Nat.gcd P x.natAbs=1:=by
   have:=Nat.gcd_pos_of_pos_left x.natAbs (show 0<P by omega); omega
  have:=Nat.Coprime.dvd_of_dvd_mul_left h1 h;exact Xp.1 (by rwa [Z7])
 ·left;have:=hP _ e hg;have h3:=Wg P x.natAbs;rw [this] at h3;exact Xp.1 (by rwa [Z7])
def Quy (P:Int) (l:List Int):Prop:=∀ k,P∣l.getD k 0
theorem Qex {P:Nat} (h2:2<=P) (hP:∀ d,2<=d->d∣P->d=P):∀ (n:Nat) (b h c:List Int),b.length+h.length<=n->(∀ t,Ub c t=Ub b t*Ub h t)->Quy P c->Quy P b\/Quy P h
 | _,[],h,c,_,_,_=>.inl λk=>by simp
 | _,x::b,[],c,_,_,_=>.inr λk=>by simp
 | 0,x::b,y::h,c,hn,_,_=>by simp at hn
 |
  n+1,x::b,y::h,c,hn,hc,hd=>by
  simp only [Q6] at hn;by_cases hx:(P:Int)∣x
  ·-- x h is taken away
   have e:∀ t,Ub (0::Um b (y::h)) t=Ub (S7 c (Ux (y::h) x)) t:=λt=>by
    rw [E6,Tu,hc]; simp only [Ub]; rw [Uv]; simp only [Ub]; push_cast; grind
   have hd':Quy P (Um b (y::h)):=λk=>by
    have:=Bn e (k+1);rw [Q3,Ac,Tv] at this;rw [this];exact Int.dvd_sub (hd (k+1)) (Vo hx (Kb _ _))
   rcases Qex h2 hP n b (y::h) _ (by simp only [Q6]; omega) (λt=>Uv _ _ t) hd' with h1 | h1
   ·refine .inl λk=>?_
    cases k with
    | zero=>rw [Zo]; exact hx
    | succ k=>rw [Q3]; exact h1 k
   ·exact .inr h1
  ·have h0:(P:Int)∣y:=by
    have e:c.getD 0 0=x*y:=by
     have:=Bn (p:=c) (q:=Um (x::b) (y::h)) (λt=>by rw [hc,Uv]) 0;have e2:=Bn (p:=Um (x::b) (y::h)) (q:=D6 (Ux (y::h) x) (0::Um b (y::h))) (λt=>by
      rw [Q9i,Tu,Uv]; simp only [Ub]; rw [Uv]; simp only [Ub]; push_cast; grind) 0
     rw [this,e2,Qnd,Tv,Zo,Zo,Kn]; omega
    have:=hd 0;rw [e] at this;rcases Qo4 h2 hP this with h1 | h1
    ·exact absurd h1 hx
    ·exact h1
   have e:∀ t,Ub (0::Um (x::b) h) t=Ub (S7 c (Ux (x::b) y)) t:=λt=>by
    rw [E6,Tu,hc]; simp only [Ub]; rw [Uv]; simp only [Ub]; push_cast; grind
   have hd':Quy P (Um (x::b) h):=λk=>by
    have:=Bn e (k+1);rw [Q3,Ac,Tv] at this;rw [this];exact Int.dvd_sub (hd (k+1)) (Vo h0 (Kb _ _))
   rcases Qex h2 hP n (x::b) h _ (by simp only [Q6]; omega) (λt=>Uv _ _ t) hd' with h1 | h1
   ·exact absurd (by have:=h1 0; rwa [Zo] at this) hx
   ·refine .inr λk=>?_
    cases k with
    | zero=>rw [Zo]; exact h0
    | succ k=>rw [Q3]; exact h1 k
def Prm (b:List Int):Prop:=∀ d:Int,Quy d b->d∣1
theorem Q72 {a b:List Int} (hb:Prm b):∀ (n:Nat) (c:Int) (h:List Int),c.natAbs<=n->c≠0->(∀ t,(c:Rat)*Ub a t=Ub b t*Ub h t)->∃ h',∀ t,Ub a t=Ub b t*Ub h' t
 | 0,c,h,hn,h0,_=>absurd (by omega) h0
 |
  n+1,c,h,hn,h0,hc=>by
  rcases Za c.natAbs 2 with h1 | h1
  ·refine ⟨Ux h c,λt=>?_⟩;have hcc:(c:Rat)*c=1:=by
    have:c*c=1:=by
     rcases (show c=1\/c=-1 by omega) with rfl | rfl <;> rfl
    have:=congrArg (λz:Int=>(z:Rat)) this
    push_cast at this; exact this
   rw [Tu];have:=hc t;have:Ub a t=(c:Rat)*((c:Rat)*Ub a t):=by
    have:(c:Rat)*((c:Rat)*Ub a t)=((c:Rat)*c)*Ub a t:=by grind
    rw [this,hcc]; grind
   rw [this,hc]; grind
  ·obtain ⟨P,p1,p2,p3⟩:=Qtv c.natAbs c.natAbs (Qn _) h1;obtain ⟨d,hd⟩:∃ d,c=(P:Int)*d:=K7.2 p2;have hall:Quy P (Ux a c):=λk=>by
    rw [Tv,hd]; exact Vo (Int.dvd_mul_right _ _) (Kb _ _)
   have hP0:(P:Rat)≠0:=by
    have:((0:Nat):Rat)<(P:Rat):=Vd.2 (by omega);grind
   rcases Qex p1 p3 _ b h (Ux a c) (Qn _) (λt=>by rw [Tu,Wo,hc]) hall with e | e
   ·have:=hb P e;have:=Xp.2 this;rw [Z7] at this;have:=Vs (by decide) this;exact absurd this (by show ¬P<=1; omega)
   ·refine Q72 hb n d (h.map (· / (P:Int))) ?_ (λe0=>h0 (by rw [hd,e0,V1])) λt=>?_
    ·rw [hd,J0,Z7] at hn h1;have:2*d.natAbs<=P*d.natAbs:=Q0 _ p1;omega
    ·have e1:Ub h t=(P:Rat)*Ub (h.map (· / (P:Int))) t:=by
      have:=Mm P 0 t (max h.length (h.map (· / (P:Int))).length) (h.map (· / (P:Int))) [] h (by omega) (by simp) (by omega) λk=>by
       have:=e k;have e2:(h.map (· / (P:Int))).getD k 0=h.getD k 0 / (P:Int):=by
        rw [Qh,Qh,Q9];cases h[k]? <;> simp
       rw [e2,Ko this]; simp
      rw [this]; simp only [Ub]; push_cast; grind
     have:=hc t;rw [hd,e1] at this
     push_cast at this
     have h3:(P:Rat)*((d:Rat)*Ub a t)=(P:Rat)*(Ub b t*Ub (h.map (· / (P:Int))) t):=by grind
     have h4:=Yq.1 (show (P:Rat)*((d:Rat)*Ub a t-Ub b t*Ub (h.map (· / (P:Int))) t)=0 by grind);rcases h4 with h4 | h4
     ·exact absurd h4 hP0
     ·grind
theorem Ql5:∀ u:List Rat,∃ c:Int,c≠0/\∃ h:List Int,∀ t,(c:Rat)*ev u t=Ub h t
 | []=>⟨1,by decide,[],λt=>by simp only [ev,Ub]; grind⟩
 |
  a::u=>by
  obtain ⟨c,hc,h,hh⟩:=Ql5 u;refine ⟨c*(a.den:Int),Jh hc (by have:=a.den_nz; omega),(c*a.num)::Ux h (a.den:Int),λt=>?_⟩;have e:(a.den:Rat)*a=a.num:=by
   rw [Wo];have:(a.num:Rat) / (((a.den:Int)):Rat)=a:=by rw [Gp,Z0]
   have hd:(a.den:Rat)≠0:=by
    have:((0:Nat):Rat)<(a.den:Rat):=Vd.2 a.den_pos;grind
   have h2:(a.num:Rat) / (a.den:Rat)*(a.den:Rat)=a.num:=Zl hd;rw [show (a.num:Rat) / (a.den:Rat)=a from this] at h2; exact h2
  simp only [ev,Ub];rw [Tu,<-hh]
  push_cast
  rw [<-e];have e3:(((a.den:Int)):Rat)=(a.den:Rat):=rfl;grind
theorem Q71 {a b:List Int} (hb:Prm b) (h:Iq (cz b) (cz a)):∃ h',W9 h'/\∀ t,Ub a t=Ub b t*Ub h' t:=by
 obtain ⟨u,hu⟩:=h;obtain ⟨c,hc,h,hh⟩:=Ql5 u;obtain ⟨h',e⟩:=Q72 hb c.natAbs c h (Qn _) hc λt=>by
  have:=hu t;rw [W8,W8] at this;rw [this,<-hh]; grind
 exact ⟨trim h',Gx _,λt=>by rw [E7,e]⟩
def sd (x0:Rat):List Rat->List Rat
 | []=>[]
 | _::p=>H7 p (Ba x0 (sd x0 p))
theorem Q7r (x0 x:Rat):∀ p,ev (sd x0 p) x=dq p x x0
 | []=>rfl
 | a::p=>by simp only [sd,dq]; rw [U7,Uw,Q7r x0 x p]
theorem Qxs (x0:Rat):∀ (g:List Rat) (n:Nat),(∀ j,n<j->g.getD j 0=0)->∀ j,n<=j->(sd x0 g).getD j 0=0
 | [],n,_,j,_=>by simp [sd]
 |
  a::p,0,h,j,_=>by
  have hp:∀ j,p.getD j 0=0:=λj=>by have:=h (j+1) (by omega); rwa [Q3] at this
  simp only [sd];rw [Gw,H5,hp,Qxs x0 p 0 (λj _=>hp j) j (Qg _)]; grind
 |
  a::p,n+1,h,j,hj=>by
  have hp:∀ j,n<j->p.getD j 0=0:=λj hj=>by have:=h (j+1) (by omega); rwa [Q3] at this
  simp only [sd];rw [Gw,H5,hp j (by omega),Qxs x0 p n hp j (by omega)]; grind
theorem Qwo {K:Rat} (hK:0≤K):∀ (e:Nat) (g:List Rat) (pts:List Int) (M:Rat),pts.length=e+1->pts.Nodup->(∀ x∈pts,Uf (x:Rat)≤K)->(∀ k,e<k->g.getD k 0=0)->(∀ x∈pts,Uf (ev g (x:Rat))≤M)->∀ k,Uf (g.getD k 0)≤(2*K+3)^e*M
 | _,_,[],_,h,_,_,_,_=>by simp at h
 |
  0,g,x0::xs,M,_,_,_,hg,hM=>λk=>by
  have h0:=hM x0 (by simp);rw [Xb];cases k with
  |
   zero =>
   have e:ev g (x0:Rat)=g.getD 0 0:=by
    cases g with
    | nil=>rfl
    |
     cons a p =>
     have hp:=Bh (p:=p) λj=>by have:=hg (j+1) (by omega); rwa [Q3] at this
     simp only [ev,hp,Zo]; grind
   rw [<-e]; grind
  |
   succ k =>
   rw [hg (k+1) (by omega),Gu];have:=Gh (ev g (x0:Rat)); grind
 |
  e+1,g,x0::xs,M,hl,hn,hb,hg,hM=>λk=>by
  have hx0:=hb x0 (by simp);have hM0:=hM x0 (by simp);have hMn:0<=M:=Zg (Gh _) hM0;rw [List.nodup_cons] at hn;have ih:=Qwo hK e (sd x0 g) xs (2*M) (by simpa using hl) hn.2 (λx hx=>hb x (by simp [hx])) (λj hj=>Qxs _ g (e+1) hg j (by omega)) λx hx=>by
   have h1:=hM x (by simp [hx]);have h2:=Qmg (x:Rat) (x0:Rat) g;rw [<-Q7r] at h2;have hne:x-x0≠0:=λh=>hn.1 (by rw [show x0=x by omega]; exact hx)
   have h3:=Qch hne;rw [Rat.intCast_sub] at h3;have h4:Uf (ev g (x:Rat)-ev g (x0:Rat))<=2*M:=by
    have:=H6 (ev g (x:Rat)) (-ev g (x0:Rat));rw [Ck,show ev g (x:Rat)+-ev g (x0:Rat)=ev g (x:Rat)-ev g (x0:Rat) by grind] at this;clear hM hb hg; grind
   rw [h2,Lq] at h4;have h5:=Q8 h3 (Gh (ev (sd x0 g) x));clear hM hb hg; grind
  have e1:∀ t,ev g t=ev (H7 [ev g x0] (H7 (Ba (-x0) (sd x0 g)) (0::sd x0 g))) t:=λt=>by
   have:=Qmg t (x0:Rat) g;rw [<-Q7r] at this;simp only [U7,Uw,ev];grind
  have hp1:1<=(2*K+3)^e:=(Qaz (R:=2*K+3) (x:=0) (by grind) (by rw [Gu]; grind) e).2;have hpM:=Pm (x:=(2*K+3)^e) (y:=M) (by grind) hMn;have hpM1:=Q8 hp1 hMn;rw [Z3,Nv e1 k,Gw,Gw,H5];have a1:=ih k;have a2:Uf (-(x0:Rat)*(sd (x0:Rat) g).getD k 0)<=K*((2*K+3)^e*(2*M)):=Ff (by rw [Ck]; exact hx0) a1;have fin:∀ u v w:Rat,Uf u<=M->Uf v<=K*((2*K+3)^e*(2*M))->Uf w<=(2*K+3)^e*(2*M)->Uf (u+(v+w))<=(2*K+3)^e*(2*K+3)*M:=λu v w h1 h2 h3=>by
   have b1:=H6 u (v+w);have b2:=H6 v w;clear ih e1 hM hb hg a1 a2; grind
  refine fin _ _ _ ?_ a2 ?_
  ·cases k with
   | zero=>rw [Zo]; exact hM0
   | succ k=>rw [Q3,Ka,Gu]; exact hMn
  ·cases k with
   | zero=>rw [Zo,Gu]; clear ih e1 hM hb hg a1 a2 fin; grind
   | succ k=>rw [Q3]; exact ih k
theorem Zab {g:List Rat} {e:Nat} (hg:∀ k,e<k->g.getD k 0=0) (hz:¬∀ t,ev g t=0) {pts:List Int} (hn:pts.Nodup) (hr:∀ x∈pts,ev g (x:Rat)=0):pts.length≤e:=by
 rcases Za e pts.length with h | h
 ·exfalso;obtain ⟨K,hK,hb⟩:∃ K:Rat,0≤K/\∀ x∈pts,Uf (x:Rat)≤K:=by
   clear hn hr h
   induction pts with
   | nil=>exact ⟨0,by decide,λx hx=>by cases hx⟩
   |
    cons y pts ih =>
    obtain ⟨K,h1,h2⟩:=ih;refine ⟨K+Uf (y:Rat),by have:=Gh (y:Rat); grind,λx hx=>?_⟩;have hy:=Gh (y:Rat);rcases Qo.1 hx with rfl | hx
    ·grind
    ·have:=h2 x hx; grind
  refine hz (Bh λk=>?_);have:=Qwo hK e g (pts.take (e+1)) 0 (by rw [Qx]; omega) (hn.sublist (We ..)) (λx hx=>hb x (Ql hx)) hg (λx hx=>by rw [hr x (Ql hx),Gu]; exact Qp) k;have h2:=Gh (g.getD k 0);exact Zfb (by grind)
 ·exact h
def spots:List Int:=(List.range 19).map λi:Nat=>(i:Int)-9
theorem spots_nd:spots.Nodup:=by decide
theorem Quc:∀ x∈spots,x.natAbs≤9:=by decide
theorem Qjn {α:Type} (p:α->Bool):∀ l:List α,(l.filter p).length+(l.filter λx => !p x).length=l.length
 | []=>rfl
 |
  x::l=>by
  have:=Qjn p l;cases h:p x <;> simp [h] <;> omega
def geo:Nat->Nat
 | 0=>0
 | n+1=>1+9*geo n
theorem Qzu {B:Rat}:∀ (p:List Int),(∀ z∈p,Uf (z:Rat)≤B)->evB 9 (cz p)≤B*(geo p.length:Nat)
 | [],_=>by simp only [cz,X3,evB,geo,X2]; rw [show ((0:Nat):Rat)=0 from rfl]; grind
 |
  a::p,h=>by
  have h1:=Qzu p λz hz=>h z (Qi _ hz)
  have h2:=h a (Qr ..);simp only [cz,Zv,evB,geo,Q6] at *
  push_cast
  clear h; grind
theorem Q79 {m n:Nat} (h:m<=n):geo m<=geo n:=by
 induction h with
 | refl=>exact Qn _
 | step h ih=>simp only [geo]; omega
def pz:List Int->Int->Int
 | [],_=>0
 | a::p,x=>a+x*pz p x
theorem Qck (x:Int):∀ p,Ub p (x:Rat)=((pz p x:Int):Rat)
 | []=>rfl
 | a::p=>by simp only [Ub,pz,Qck x p]; push_cast; rfl
theorem Ra (z:Int):Uf (z:Rat)=((z.natAbs:Nat):Rat):=by
 unfold Uf;rcases Km z 0 with h | h
 ·have h1:(z:Rat)<((0:Int):Rat):=X7.2 h;rw [if_pos (by simpa using h1)];have:(z.natAbs:Int)=-z:=by omega
  have:=congrArg (λu:Int=>(u:Rat)) this
  push_cast at this
  exact this.symm
 ·have h1:((0:Int):Rat)<=(z:Rat):=Xx.2 h;have h1:(0:Rat)<=(z:Rat):=by simpa using h1
  rw [if_neg (by grind)];have:(z.natAbs:Int)=z:=by omega
  have:=congrArg (λu:Int=>(u:Rat)) this;exact this.symm
theorem I4 {p g h:List Int} {s:Nat} (hp:Bd s p) (hl:p.length<=10) (tp:W9 p) (tg:W9 g) (th:W9 h) (h0:p.length≠0) (e:∀ t,Ub p t=Ub g t*Ub h t):Bd (s+69) g:=by
 have lg:0<g.length:=by
  rcases Qy g.length with e' | e'
  ·exact absurd (λt=>by rw [e,Nx e']; grind) (Qgl tp (by omega))
  ·exact e'
 have lh:0<h.length:=by
  rcases Qy h.length with e' | e'
  ·exact absurd (λt=>by rw [e,Nx e']; grind) (Qgl tp (by omega))
  ·exact e'
 have hlen:=Sk tg th tp e lg lh;obtain ⟨q,hq⟩:=nmE (spots.filter λx => !decide (pz p x=0));have hr:(spots.filter λx=>decide (pz p x=0)).length<=9:=by
  refine Zab (g:=cz p) (e:=9) (λk hk=>?_) (λh=>Qgl tp (by omega) λt=>by rw [<-W8]; exact h t) (spots_nd.sublist List.filter_sublist) λx hx=>?_
  ·rw [Si,Qh,Qu (by omega)]; rfl
  ·have:=(Wq.1 hx).2;rw [W8,Qck,of_decide_eq_true this]; rfl
 have hc:=Qjn (λx=>decide (pz p x=0)) spots;rw [<-hq] at hc;have hsl:spots.length=19:=by decide
 have hB:∀ z∈p,Uf (z:Rat)≤((2^s:Nat):Rat):=λz hz=>by
  rw [Ra];have:=hp z hz;rw [Ri] at this;exact Zh.2 (J9 this)
 have key:=Qwo (K:=9) (by decide) 9 (cz g) (q.take 10) (((2^s*435848050:Nat)):Rat) (by rw [Qx]; omega) ((spots_nd.sublist (by rw [hq]; exact List.filter_sublist)).sublist (We ..)) (λx hx=>by
  have hx:=Ql hx;rw [hq] at hx;have:=Quc x (Wq.1 hx).1;rw [Ra]
  exact_mod_cast Zh.2 this) (λk hk=>by rw [Si,Qh,Qu (by omega)]; rfl) (λx hx=>by
  have hx:=Ql hx;rw [hq] at hx;obtain ⟨hx1,hx2⟩:=Wq.1 hx;have hne:pz p x≠0:=by simpa using hx2
  have e1:=e (x:Rat);rw [Qck,Qck,Qck] at e1;have e2:pz p x=pz g x*pz h x:=by exact_mod_cast e1
  have hh:1<=(pz h x).natAbs:=by
   rcases Qy (pz h x).natAbs with e' | e'
   ·exact absurd (by rw [e2,Int.natAbs_eq_zero.1 e',V1]) hne
   ·exact e'
  have h3:(pz g x).natAbs<=(pz p x).natAbs:=by
   rw [e2,J0];exact Jq _ hh
  rw [W8,Qck,Ra];refine Zg (Zh.2 h3) ?_;rw [<-Ra,<-Qck,<-W8];refine Zg (Qgn (R:=9) (by
   have:=Quc x hx1;rw [Ra]
   exact_mod_cast Zh.2 this) _) ?_
  refine Zg (Qzu p hB) ?_;have:2^s*geo p.length<=2^s*435848050:=Zp _ (Qc (Q79 hl) (by decide));have:=Zh.2 this
  push_cast at this ⊢
  exact this)
 refine Qip λk=>?_
 have h1:=key k;rw [Si,Ra] at h1;have e3:(2*(9:Rat)+3)^9*((2^s*435848050:Nat):Rat)=(((794280046581*(2^s*435848050)):Nat):Rat):=by
  rw [show (2*(9:Rat)+3)^9=794280046581 by grind]
  push_cast; rfl
 rw [e3] at h1;have h2:=Zh.1 h1;rw [Ri];refine Zs h2 ?_;have:794280046581*(2^s*435848050)=2^s*(794280046581*435848050):=by
  rw [V6]
 rw [this,Xa];exact Nat.mul_lt_mul_of_pos_left (by decide) (Zy (by decide))
theorem Q7l {l:List Int} {d:Int} (h:∀ z∈l,d∣z):d∣((Gg l:Nat):Int):=by
 have key:∀ (l:List Int) (g:Nat),d.natAbs∣g->(∀ z∈l,d∣z)->d.natAbs∣l.foldl (λg z=>Nat.gcd g z.natAbs) g:=by
  intro l
  induction l with
  | nil=>exact λg h _=>h
  | cons z l ih=>exact λg hg h=>ih _ (Nat.dvd_gcd hg (Xp.2 (h z (Qr ..)))) λu hu=>h u (Qi _ hu)
 have:=key l 0 (Nat.dvd_zero _) h;exact Xp.1 (by rw [Z7]; exact this)
theorem Qdg (p:List Int) (c:Int) (k:Nat):(p.map (· / c)).getD k 0=p.getD k 0 / c:=by
 rw [Qh,Qh,Q9];cases p[k]? <;> simp
theorem Qcl (p:List Int) (c:Int) (k:Nat):(Na p c).getD k 0=p.getD k 0 / c:=by
 unfold Na; rw [Aj,Qdg]
theorem Qne {p:List Int} {c:Int} (h:∀ z∈p,c∣z) (t:Rat):Ub p t=(c:Rat)*Ub (Na p c) t:=by
 have:=Mm c 0 t (max p.length (Na p c).length) (Na p c) [] p (by omega) (by simp) (by omega) λk=>by
  rw [Qcl];have hd:c∣p.getD k 0:=by
   rw [Qh];cases e:p[k]? with
   | none=>exact Int.dvd_zero _
   | some z=>exact h z (Qa e)
  rw [Ko hd]; simp
 rw [this]; simp only [Ub]; push_cast; grind
theorem I8 {c:Int} (h:c≠0):(c:Rat)≠0:=λe=>h (by exact_mod_cast e)
theorem A8 {p q:List Int} {c:Rat} (tp:W9 p) (tq:W9 q) (hc:c≠0) (h:∀ t,Ub p t=c*Ub q t):p.length=q.length:=by
 have key:∀ {p q:List Int} {c:Rat},W9 p->W9 q->c≠0->(∀ t,Ub p t=c*Ub q t)->p.length<=q.length:=λ{p q c} tp tq hc h=>by
  rcases Za q.length p.length with e | e
  ·have h1:=Gn tp (by omega);have:=Nv (p:=cz p) (q:=Ba c (cz q)) (λt=>by rw [W8,Uw,W8,h]) (p.length-1);rw [Si,H5,Si,Qh (l:=q),Qu (by omega)] at this;have:((p.getD (p.length-1) 0:Int):Rat)=0:=by rw [this]; simp
   exact absurd (by exact_mod_cast this) h1
  ·exact e
 refine Ku (key tp tq hc h) (key (c:=1 / c) tq tp (λe=>?_) λt=>?_)
 ·have:=Zl (a:=1) hc; rw [e] at this; grind
 ·rw [h]; have:=Zl (a:=1) hc; grind
theorem Mp {p:List Int} (tp:W9 p) (h:p.length≠0):W9 (Ue p)/\(Ue p).length=p.length/\Prm (Ue p)/\0<Uj (Ue p)/\(∀ s,Bd s p->Bd s (Ue p))/\Fu p≠0/\∀ t,Ub p t=(Fu p:Rat)*Ub (Ue p) t:=by
 have h0:=Q05 tp h;have e:Ue p=Na p (Fu p):=by unfold Ue; rw [if_neg h]
 have h1:=Qne (p:=p) (c:=Fu p) Qd0;have hl:=A8 tp (Ie p (Fu p)) (I8 h0) h1;have hcp:0<Rl p:=by
  have:=Ot tp h;unfold Rl at this ⊢; omega
 rw [e];refine ⟨Ie _ _,hl.symm,λd hd=>?_,?_,λs hs=>Qiq hs _,h0,h1⟩
 ·have h2:∀ z∈p,d*Fu p∣z:=λz hz=>by
   obtain ⟨i,hi⟩:=Zf.1 hz;have h3:=hd i;rw [Qcl,Qh,hi] at h3;obtain ⟨k,hk⟩:=h3;have h4:=Qd0 z hz;refine ⟨k,?_⟩;have:z / Fu p*Fu p=z:=Kw h4;rw [<-this];rw [show z / Fu p=d*k from hk,Int.mul_right_comm]
  have h3:=Q7l h2;have h4:Fu p∣((Gg p:Nat):Int)/\((Gg p:Nat):Int)∣Fu p:=by
   unfold Fu Rl; split
   ·exact ⟨Wx.2 (Wh _),Int.dvd_neg.2 (Wh _)⟩
   ·exact ⟨Wh _,Wh _⟩
  obtain ⟨k,hk⟩:=Vo h3 h4.2;refine ⟨k,?_⟩;have:Fu p*(d*k)=Fu p*1:=by rw [K5,<-Int.mul_assoc,Kn (Fu p) d,<-hk]
  exact (Int.eq_of_mul_eq_mul_left h0 this).symm
 ·have h2:Uj (Na p (Fu p))=Uj p / Fu p:=by unfold Uj; rw [<-hl,Qcl]
  have h3:Fu p∣Uj p:=Qd0 _ (Qj9 h);have h5:Uj p / Fu p*Fu p=Uj p:=Kw h3;rw [h2];have h6:=Ch tp h;rcases Jr (Uj p / Fu p) 0 with e1 | e1 | e1
  ·exfalso;by_cases hn:Uj p<0
   ·have:Fu p=-Rl p:=by unfold Fu; rw [if_pos hn]
    have:0<Uj p / Fu p*Fu p:=Vx e1 (by omega);omega
   ·have:Fu p=Rl p:=by unfold Fu; rw [if_neg hn]
    have:Uj p / Fu p*Fu p<0:=Int.mul_neg_of_neg_of_pos e1 (by omega);omega
  ·rw [e1] at h5; omega
  ·exact e1
theorem Q9m {r:List Int} (tr:W9 r):∃ c:Rat,0<c/\∀ t,Ub r t=c*Ub (Qbo r) t:=by
 unfold Qbo;by_cases h:r.length=0
 ·rw [if_pos h]; exact ⟨1,by decide,λt=>by rw [Nx h,Nx rfl]; grind⟩
 ·rw [if_neg h];have h1:0<Rl r:=by
   have:=Ot tr h;unfold Rl at this ⊢; omega
  have h2:((0:Int):Rat)<(Rl r:Rat):=X7.2 h1;exact ⟨Rl r,by simpa using h2,Qne Cv⟩
theorem Ou (x:Int) (t:Rat):∀ i,Ub (mono i x) t=(x:Rat)*t^i
 | 0=>by simp only [mono,Kx,Yp,Ub,Xb]; grind
 |
  i+1=>by
  have ih:=Ou x t i;simp only [mono,Jv,Xc,Ub] at *;rw [ih,Z3]; push_cast; grind
theorem Q0l (x:Int) (b:List Int) (i k:Nat):(Um (trim (mono i x)) b).getD k 0=if i<=k then x*b.getD (k-i) 0 else 0:=by
 have e:∀ t,Ub (Um (trim (mono i x)) b) t=Ub (List.replicate i 0++b.map (x * ·)) t:=λt=>by
  rw [Uv,E7,Ou];have h2:∀ i,Ub (List.replicate i 0++b.map (x * ·)) t=t^i*((x:Rat)*Ub b t):=λi=>by
   induction i with
   |
    zero =>
    simp only [Kx,Yp,Xb];have:=Mm x 0 t (max b.length (b.map (x * ·)).length) b [] (b.map (x * ·)) (by omega) (by simp) (by omega) λk=>by
     rw [Qh,Qh,Q9];cases b[k]? <;> simp
    rw [this]; simp only [Ub]; push_cast; grind
   | succ i ih=>simp only [Jv,Xc,Ub,ih,Z3]; push_cast; grind
  rw [h2]; grind
 rw [Bn e k,Qh,List.getElem?_append,X8];by_cases h:i<=k
 ·rw [if_neg (by omega),if_pos h,Q9,Qh];cases b[k-i]? <;> simp
 ·rw [if_pos (by omega),if_neg h,Jp,if_pos (by omega)]; rfl
theorem Q8q {p:List Int} {n:Nat} (tp:W9 p) (h:p.length<=n+1) (h0:p.getD n 0=0):p.length<=n:=by
 rcases Za n p.length with e | e
 ·have:=Gn tp (by omega);rw [show p.length-1=n by omega] at this;exact absurd h0 this
 ·exact e
theorem Zf1 {b r:List Int} {i:Nat} (tr:W9 r) (h:r.length<=b.length+i) (hb:b.length≠0) {x:Int} (hx:x=if r.length=b.length+i then Uj r else 0):(str b (Uj b) i x r).length<b.length+i:=by
 have hl:=Qpk (c:=Uj b) (x:=x) (i:=i) (b:=b) (r:=r);have:=Q8q (p:=str b (Uj b) i x r) (n:=b.length+i-1) (Ut _ _) (by omega) (by
  unfold str;rw [Ac,Tv,Q0l,if_pos (by omega),hx,show b.length+i-1-i=b.length-1 by omega]
  split
  ·rename_i he;unfold Uj;rw [he,Int.sub_eq_zero]
  ·rw [Qh (l:=r),Qu (by omega)]; simp)
 omega
theorem Zj8 (b r:List Int) (c:Int) (i:Nat) (x:Int) (t:Rat):(c:Rat)*Ub r t=(x:Rat)*t^i*Ub b t+Ub (str b c i x r) t:=by
 unfold str;rw [E6,Tu,Uv,E7,Ou]; grind
theorem Q9r (b:List Int) (c:Int):∀ (i:Nat) (q r:List Int),∃ X:List Rat,∀ t,((c^i:Int):Rat)*Ub r t=ev X t*Ub b t+Ub (psd b c i (q,r)).2 t
 | 0,q,r=>⟨[],λt=>by simp only [psd,ev]; rw [Int.pow_zero]; push_cast; grind⟩
 |
  i+1,q,r=>by
  obtain ⟨x,hx⟩:=nmE (if r.length=b.length+i then Uj r else 0);obtain ⟨X,hX⟩:=Q9r b c i (stq c i x q) (str b c i x r);obtain ⟨m,hm⟩:∃ m:List Rat,∀ t,ev m t=(x:Rat)*t^i:=⟨cz (mono i x),λt=>by rw [W8,Ou]⟩;refine ⟨H7 (Ba ((c^i:Int):Rat) m) X,λt=>?_⟩;rw [Oy hx,U7,Uw,hm];have h1:=hX t;have h2:=Zj8 b r c i x t;rw [Int.pow_succ]
  push_cast at h1 ⊢
  have:(c:Rat)^i*c*Ub r t=(c:Rat)^i*((c:Rat)*Ub r t):=by grind
  rw [this,h2]; grind
theorem Q09 {b:List Int} (hb:b.length≠0):∀ (i:Nat) (q r:List Int),W9 r->r.length<b.length+i->W9 (psd b (Uj b) i (q,r)).2/\(psd b (Uj b) i (q,r)).2.length<b.length
 | 0,q,r,tr,h=>⟨tr,h⟩
 |
  i+1,q,r,tr,h=>by
  rw [Oy rfl];exact Q09 hb i _ _ (Ut _ _) (Zf1 tr (by omega) hb rfl)
theorem Q9q {b:List Int} {c:Int} {t:Nat} (hb:Bd t b) (hc:Ug c<=t):∀ (i u:Nat) (q r:List Int),i<=64->Bd u r->Bd (u+i*(t+8)) (psd b c i (q,r)).2
 | 0,u,q,r,_,h=>by simpa [psd] using h
 |
  i+1,u,q,r,hi,h=>by
  rw [Oy rfl];have hx:Ug (if r.length=b.length+i then Uj r else 0)<=u:=by
   split
   ·exact Sy h
   ·rw [S0]; exact Qg _
  have:=Q9q hb hc i (u+t+8) (stq c i (if r.length=b.length+i then Uj r else 0) q) (str b c i (if r.length=b.length+i then Uj r else 0) r) (by omega) (Qu6 h hb hc hx (by omega));exact W4 this (by rw [Z6]; omega)
theorem Qks {c:Int} (h:c<0):∀ k:Nat,(k % 2=1->c^k<0)/\(k % 2=0->0<c^k)
 | 0=>⟨λh=>by omega,λ_=>by rw [Int.pow_zero]; decide⟩
 |
  k+1=>by
  obtain ⟨i1,i2⟩:=Qks h k;rw [Int.pow_succ];exact ⟨λhk=>Vw (i2 (by omega)) h,λhk=>Vx (i1 (by omega)) h⟩
theorem Qic {a b:List Int} (ta:W9 a) (tb:W9 b) (hb:b.length≠0) (hl:a.length<=60):W9 (Ha a b)/\(Ha a b).length<b.length/\(∀ s,Bd s a->Bd s b->Bd (s+(a.length+1-b.length)*(s+8)) (Ha a b)) /\
 ∃ u v:Rat,0<u/\0<v/\∃ X:List Rat,∀ t,u*Ub a t=ev X t*Ub b t+v*Ub (Ha a b) t:=by
 obtain ⟨k,hk⟩:=nmE (a.length+1-b.length);have h1:W9 (Tk a b)/\(Tk a b).length<b.length:=Q09 hb _ _ _ ta (by omega);obtain ⟨X,hX⟩:=Q9r b (Uj b) k [] a;have hX:∀ t,(((Uj b)^k:Int):Rat)*Ub a t=ev X t*Ub b t+Ub (Tk a b) t:=by unfold Tk; rw [<-hk]; exact hX
 have h2:=Qd6 (a:=a) (b:=b) (r:=Tk a b) (n:=(Tk a b).length) (s:=(Tk a b).foldl (λm z=>m+Ug z) 0) h1.1 (Qn _) (λz hz=>by
  have key:∀ (l:List Int) (m:Nat),m≤l.foldl (λm z=>m+Ug z) m/\∀ z∈l,Ug z≤l.foldl (λm z=>m+Ug z) m:=by
   intro l
   induction l with
   | nil=>exact λm=>⟨Qn _,λz hz=>by cases hz⟩
   |
    cons y l ih =>
    intro m;obtain ⟨i1,i2⟩:=ih (m+Ug y);refine ⟨by simp only [Z4]; omega,λz hz=>?_⟩;simp only [Z4];rcases Qo.1 hz with rfl | hz
    ·omega
    ·exact i2 z hz
  exact (key _ 0).2 z hz)
 have h3:=Qko (r:=P7 a b (Tk a b)) (n:=(Tk a b).length) h2.2.1 h2.2.2;refine ⟨h3.1,by unfold Ha; omega,λs ha hbs=>?_,?_⟩
 ·have h4:=Q9q (c:=Uj b) hbs (Sy hbs) k s [] a (by omega) ha;have h5:=Qd6 (a:=a) (b:=b) (n:=(Tk a b).length) h1.1 (Nat.le_refl _) (show Bd (s+k*(s+8)) (Tk a b) by unfold Tk; rw [<-hk]; exact h4);rw [<-hk];exact (Qko h5.2.1 h5.2.2).2.2
 ·obtain ⟨v,vp,hv⟩:=Q9m h2.1;have hc:=Ch tb hb;by_cases ht:k % 2=1/\Uj b<0
  ·have e1:P7 a b (Tk a b)=Ta (Tk a b):=by unfold P7; rw [<-hk,if_pos ht]
   have hneg:(Uj b)^k<0:=(Qks ht.2 k).1 ht.1;have h5:(((Uj b)^k:Int):Rat)<((0:Int):Rat):=X7.2 hneg;have h5:(((Uj b)^k:Int):Rat)<0:=by simpa using h5
   refine ⟨-(((Uj b)^k:Int):Rat),v,by grind,vp,Ba (-1) X,λt=>?_⟩;have h6:=hX t;have h7:=hv t;rw [e1,Qdz] at h7;show _=_+v*Ub (Qbo (P7 a b (Tk a b))) t;rw [e1,<-h7,Uw]; grind
  ·have e1:P7 a b (Tk a b)=Tk a b:=by unfold P7; rw [<-hk,if_neg ht]
   have hpos:0<(Uj b)^k:=by
    rcases V0 hc with h | h
    ·exact (Qks h k).2 (by omega)
    ·exact Int.pow_pos h
   have h5:((0:Int):Rat)<(((Uj b)^k:Int):Rat):=X7.2 hpos;refine ⟨(((Uj b)^k:Int):Rat),v,by simpa using h5,vp,X,λt=>?_⟩;have h7:=hv t;show _=_+v*Ub (Qbo (P7 a b (Tk a b))) t;rw [<-h7,e1,hX]
theorem C9 {p:List Int} (h1:p.length<=64) (h2:Bd 16777216 p):chk p=some p:=by
 unfold chk;rw [if_pos ⟨h1,Jy.2 λz hz=>Nat.ble_eq_true_of_le (h2 z hz)⟩]
theorem Qme {a b:List Int} {g:List Rat} {c:Rat} (hc:c≠0) (h:∀ t,Ub a t=c*Ub b t):Iq g (cz a)↔Iq g (cz b):=by
 constructor
 ·rintro ⟨u,hu⟩
  refine ⟨Ba (1 / c) u,λt=>?_⟩;have h1:=hu t;rw [W8,h] at h1;rw [W8,Uw];have h2:1 / c*c=1:=Zl hc;have:Ub b t=1 / c*(c*Ub b t):=by grind
  rw [this,h1]; grind
 ·rintro ⟨u,hu⟩
  refine ⟨Ba c u,λt=>?_⟩;have h1:=hu t;rw [W8] at h1;rw [W8,Uw,h,h1]; grind
structure Gc (g a b:List Int):Prop where
 t:W9 g
 da:Iq (cz g) (cz a)
 db:Iq (cz g) (cz b)
 c:∃ U V,∀ t,Ub g t=ev U t*Ub a t+ev V t*Ub b t
 n:g.length≠0
theorem Gc.scale {g a b g' a' b':List Int} {x y z:Rat} (h:Gc g a b) (hx:x≠0) (hy:y≠0) (hz:z≠0) (tg:W9 g') (eg:∀ t,Ub g t=x*Ub g' t) (ea:∀ t,Ub a' t=y*Ub a t) (eb:∀ t,Ub b' t=z*Ub b t):Gc g' a' b':=by
 have hx1:1 / x*x=1:=Zl hx;have hy1:1 / y*y=1:=Zl hy;have hz1:1 / z*z=1:=Zl hz;have hg:∀ c,Iq (cz g) c->Iq (cz g') c:=λc ⟨u,hu⟩=>⟨Ba x u,λt=>by rw [hu,W8,W8,eg,Uw]; grind⟩
 obtain ⟨U,V,hc⟩:=h.c;refine ⟨tg,hg _ ((Qme hy ea).2 h.da),hg _ ((Qme hz eb).2 h.db),⟨Ba (1 / x*(1 / y)) U,Ba (1 / x*(1 / z)) V,λt=>?_⟩,?_⟩
 ·have h1:=hc t;have h2:Ub g' t=1 / x*Ub g t:=by rw [eg]; grind
  rw [h2,h1,Uw,Uw,ea,eb];generalize ev U t=u at *;generalize ev V t=v at *;grind
 ·rw [<-A8 h.t tg hx eg]; exact h.n
theorem Zjp:∀ d:Nat,1<=d->d+2<=3^d
 | 0,h=>by omega
 | 1,_=>by decide
 | d+2,_=>by have:=Zjp (d+1) (by omega); rw [Zm]; omega
theorem Qum {k:Nat} {a b:List Int} (ta:W9 a) (tb:W9 b) (hb:b.length≠0) (hl:a.length<=60) (hbl:b.length<=60) (hr:Bd 16777216 (Ha a b)) (ih:∃ g,Qga k b (Ha a b)=some g/\Gc g b (Ha a b)):∃ g,Qga (k+1) a b=some g/\Gc g a b:=by
 obtain ⟨h1,h2,h3,u,v,up,vp,X,hX⟩:=Qic ta tb hb hl;obtain ⟨g,e,hg⟩:=ih;refine ⟨g,?_,?_⟩
 ·simp only [Qga];rw [if_neg hb,C9 (by omega) hr]; exact e
 ·obtain ⟨U,V,hc⟩:=hg.c;obtain ⟨y,hy⟩:=hg.da;obtain ⟨z,hz⟩:=hg.db;have hu:1 / u*u=1:=Fi up;have hv:1 / v*v=1:=Fi vp;refine ⟨hg.t,⟨Ba (1 / u) (H7 (Fa X y) (Ba v z)),λt=>?_⟩,hg.da,⟨Ba (u / v) V,H7 U (Ba (-1 / v) (Fa V X)),λt=>?_⟩,hg.n⟩
  ·have a1:=hX t; have a2:=hy t; have a3:=hz t;rw [W8,W8] at a2 a3;rw [W8,W8,Uw,U7,Uc,Uw];have:Ub a t=1 / u*(u*Ub a t):=by grind
   rw [this,a1,a2,a3]; grind
  ·have a1:=hX t; have a2:=hc t;rw [Uw,U7,Uw,Uc,a2];have:Ub (Ha a b) t=1 / v*(v*Ub (Ha a b) t):=by grind
   rw [this,show v*Ub (Ha a b) t=u*Ub a t-ev X t*Ub b t by grind,J5,J5,J5];grind
theorem Q1x {k:Nat} {a:List Int} (ta:W9 a) (ha:a.length≠0):∃ g,Qga (k+1) a []=some g/\Gc g a [] :=
 ⟨a,rfl,ta,dvd_refl _,⟨[],λt=>by simp only [cz,X3,ev]; grind⟩,⟨[1],[],λt=>by rw [Hd]; simp only [ev]; grind⟩,ha⟩
theorem Qgb {s:Nat}:∀ (k:Nat) (a b:List Int),W9 a->W9 b->b.length<k->b.length<a.length->a.length<=60->Bd s a->Bd s b->(s+8)*3^(a.length-1)<=16777216->∃ g,Qga k a b=some g/\Gc g a b
 | 0,_,_,_,_,h,_,_,_,_,_=>by omega
 |
  k+1,a,b,ta,tb,hk,hab,hl,ba,bb,hs=>by
  by_cases hb:b.length=0
  ·rw [Qk hb]; exact Q1x ta (by omega)
  ·obtain ⟨h1,h2,h3,_⟩:=Qic ta tb hb hl;have h3:=h3 s ba bb;obtain ⟨m,hm⟩:=nmE (a.length-b.length);have e1:a.length+1-b.length=m+1:=by omega
   rw [e1] at h3;have e2:s+(m+1)*(s+8)+8=(m+2)*(s+8):=by
    rw [show m+2=(m+1)+1 by omega,Z6 (m+1)]; omega
   have e3:(m+2)*(s+8)*3^(b.length-1)<=(s+8)*3^(a.length-1):=by
    rw [show a.length-1=m+(b.length-1) by omega,Xa,<-Xh,Zi (s+8)];exact Q0 _ (Q0 _ (Zjp m (by omega)))
   have e4:s+(m+1)*(s+8)<=16777216:=by
    have:(m+2)*(s+8)<=(m+2)*(s+8)*3^(b.length-1):=Jq _ (Zy (by decide));omega
   refine Qum ta tb hb hl (by omega) (W4 h3 e4) (Qgb (s:=s+(m+1)*(s+8)) k b (Ha a b) tb h1 (by omega) h2 (by omega) (W4 bb (by omega)) h3 ?_);rw [e2]; omega
def Szz (n s:Nat):Prop:=n<=10/\2*(s+8)*3^(n-1)<=16777216
theorem Zbl {n s:Nat} (hz:Szz n s) {a b:List Int} (ta:W9 a) (tb:W9 b) (la:a.length<=n) (lb:b.length<=n) (ba:Bd s a) (bb:Bd s b) (h0:a.length≠0\/b.length≠0):∃ g,Qga 66 a b=some g/\Gc g a b:=by
 obtain ⟨hn,hz⟩:=hz;have hp:∀ l,l<=n->(s+8)*3^(l-1)<=8388608:=λl hl=>by
  have:(s+8)*3^(l-1)<=(s+8)*3^(n-1):=Zp _ (Zt (by decide) (by omega));rw [Xh] at hz; omega
 rcases Za b.length a.length with h | h
 ·exact Qgb 66 a b ta tb (by omega) h (by omega) ba bb (by have:=hp a.length la; omega)
 ·by_cases hb:b.length=0
  ·rw [Qk hb]; exact Q1x ta (by omega)
  ·obtain ⟨h1,h2,h3,_⟩:=Qic ta tb hb (by omega);have h3:=h3 s ba bb;have h4:(a.length+1-b.length)*(s+8)<=1*(s+8):=Q0 _ (by omega);have h5:=hp b.length lb;have h6:(s+8)*1<=(s+8)*3^(b.length-1):=Zp _ (Zy (by decide));refine Qum ta tb hb (by omega) (by omega) (W4 h3 (by omega)) (Qgb (s:=2*s+8) 65 b (Ha a b) tb h1 (by omega) h2 (by omega) (W4 bb (by omega)) (W4 h3 (by omega)) ?_);rw [show 2*s+8+8=2*(s+8) by omega,Xh]; omega
theorem Qnj:Ue []=[]:=rfl
theorem Qd5 {a:List Int} (ta:W9 a):W9 (Ue a)/\(Ue a).length=a.length/\(∀ s,Bd s a->Bd s (Ue a))/\∃ c:Rat,c≠0/\∀ t,Ub a t=c*Ub (Ue a) t:=by
 by_cases h:a.length=0
 ·rw [Qk h];exact ⟨rfl,rfl,λs _=>Iu,1,by decide,λt=>by rw [Qnj]; grind⟩
 ·obtain ⟨h1,h2,h3,h4,h5,h6,h7⟩:=Mp ta h;exact ⟨h1,h2,h5,_,I8 h6,h7⟩
theorem Qcu {n s:Nat} (hz:Szz n s) {a b:List Int} (ta:W9 a) (tb:W9 b) (la:a.length<=n) (lb:b.length<=n) (ba:Bd s a) (bb:Bd s b) (h0:a.length≠0\/b.length≠0):∃ g,Oz a b=some g/\Gc g a b/\Prm g/\0<Uj g:=by
 obtain ⟨a1,a2,a3,x,xn,ax⟩:=Qd5 ta;obtain ⟨b1,b2,b3,y,yn,bx⟩:=Qd5 tb;obtain ⟨g,e,hg⟩:=Zbl hz a1 b1 (by omega) (by omega) (a3 s ba) (b3 s bb) (by omega);obtain ⟨g1,g2,g3,g4,g5,g6,g7⟩:=Mp hg.t hg.n;refine ⟨Ue g,?_,hg.scale (I8 g6) xn yn g1 g7 ax bx,g3,g4⟩;unfold Oz; rw [e]; rfl
theorem Q4j {a:List Int} (ta:W9 a):Oz [] a=some (Ue (Ue a)):=by
 unfold Oz;rw [Qnj];by_cases h:(Ue a).length=0
 ·have e:Ue a=[]:=Qk h;rw [e]; rfl
 ·have e:Ha [] (Ue a)=[]:=by
   have e1:Tk [] (Ue a)=[]:=by unfold Tk; rw [show ([]:List Int).length+1-(Ue a).length=0 by simp; omega]; rfl
   unfold Ha;rw [e1];unfold P7
   split <;> rfl
  have:Qga 66 [] (Ue a)=some (Ue a):=by
   show (if (Ue a).length=0 then _ else _)=_;rw [if_neg h,e]; rfl
  rw [this]; rfl
theorem Q77 {n s:Nat} (hz:Szz n s) {a b:List Int} (ta:W9 a) (tb:W9 b) (la:a.length<=n) (lb:b.length<=n) (ba:Bd s a) (bb:Bd s b) (h0:a.length≠0):∃ g,Qp1 a b=some g/\Gc g a b/\Prm g/\0<Uj g:=by
 obtain ⟨a1,a2,a3,x,xn,ax⟩:=Qd5 ta;obtain ⟨b1,b2,b3,y,yn,bx⟩:=Qd5 a1;obtain ⟨g,e,hg,h1,h2⟩:=Qcu hz b1 tb (by omega) lb (b3 s (a3 s ba)) bb (by omega);refine ⟨g,?_,hg.scale (x:=1) (y:=x*y) (z:=1) (by decide) (λh=>(Yq.1 h).elim xn yn) (by decide) hg.t (λt=>by grind) (λt=>by rw [ax,bx]; grind) (λt=>by grind),h1,h2⟩;unfold Qp1;rw [Q4j ta]; exact e
theorem Q1v:∀ {p q:List Rat} {m n:Nat},HD p m->HD q n->(Fa p q).getD (m+n) 0=p.getD m 0*q.getD n 0
 | [],q,m,n,h,_=>absurd (by simp) h.1
 |
  a::p,q,0,n,h,h'=>by
  have h1:∀ k,p.getD k 0=0:=λk=>by have:=h.2 (k+1) (by omega); rwa [Q3] at this
  simp only [Fa];rw [Gw,H5,Zo,Zz];cases n with
  | zero=>rw [Zo]; grind
  | succ n=>rw [Q3,Qgt h1]; grind
 |
  a::p,q,m+1,n,h,h'=>by
  have ih:=Q1v (p:=p) (q:=q) (m:=m) ⟨by have:=h.1; rwa [Q3] at this,λk hk=>by have:=h.2 (k+1) (by omega); rwa [Q3] at this⟩ h';simp only [Fa];rw [Gw,H5,show m+1+n=(m+n)+1 by omega,Q3,h'.2 _ (by omega),ih,Q3]; grind
theorem Qsy {a b c:List Int} (ta:W9 a) (tb:W9 b) (tc:W9 c) (h:∀ t,Ub c t=Ub a t*Ub b t) (la:0<a.length) (lb:0<b.length):Uj c=Uj a*Uj b:=by
 have h1:=Qgs ta la;have h2:=Qgs tb lb;have h3:=Q1v h1 h2;have hl:=Sk ta tb tc h la lb;rw [<-Nv (p:=cz c) (λt=>by rw [Uc,W8,W8,W8,h]),Si,Si,Si,show a.length-1+(b.length-1)=c.length-1 by omega] at h3;unfold Uj; exact_mod_cast h3
theorem Hf {a b c:List Int} (tc:W9 c) (hc:c.length≠0) (h:∀ t,Ub c t=Ub a t*Ub b t):0<a.length/\0<b.length:=by
 constructor
 ·rcases Qy a.length with e | e
  ·exact absurd (λt=>by rw [h,Nx e]; grind) (Qgl tc (by omega))
  ·exact e
 ·rcases Qy b.length with e | e
  ·exact absurd (λt=>by rw [h,Nx e]; grind) (Qgl tc (by omega))
  ·exact e
theorem Qp0 {b:List Int} (tb:W9 b) (hb:b.length≠0):∀ (i:Nat) (a q h:List Int),W9 a->W9 h->(∀ t,Ub a t=Ub b t*Ub h t)->a.length<b.length+i->i<=q.length->(∀ j,j<i->q.getD j 0=0)->∃ q',Qpz b i a q=some q'/\q'.length=q.length/\∀ t,Ub q' t=Ub q t+Ub h t
 |
  0,a,q,h,ta,th,e,hl,_,_=>by
  have ha:a.length=0:=by
   rcases Qy a.length with e' | e'
   ·exact e'
   ·obtain ⟨p1,p2⟩:=Hf ta (by omega) e;have:=Sk tb th ta e p1 p2; omega
  refine ⟨q,by simp only [Qpz]; rw [if_pos ha],rfl,λt=>?_⟩;have:∀ t,Ub h t=0:=λt=>by
   have:=Qv4 (p:=cz b) (q:=cz h) (r:=[]) (λh0=>Qgl tb (by omega) λt=>by rw [<-W8]; exact h0 t) (λt=>by rw [W8,W8,<-e,Nx ha]; simp only [ev]; grind) t;rwa [W8] at this
  rw [this]; grind
 |
  i+1,a,q,h,ta,th,e,hl,hq,h0=>by
  simp only [Qpz];by_cases hlt:a.length<b.length+i
  ·rw [if_pos hlt];exact Qp0 tb hb i a q h ta th e hlt (by omega) λj hj=>h0 j (by omega)
  ·rw [if_neg hlt];obtain ⟨p1,p2⟩:=Hf ta (by omega) e;have hln:=Sk tb th ta e p1 p2;have hld:=Qsy tb th ta e p1 p2;have hlb:=Ch tb hb;rw [hld,if_pos (Int.mul_emod_right _ _),Xm _ hlb];have hli:h.length=i+1:=by omega
   have e2:∀ t,Ub (S7 a (Um (trim (mono i (Uj h))) b)) t=Ub b t*Ub (S7 h (mono i (Uj h))) t:=λt=>by
    rw [E6,E6,Uv,E7,e]; grind
   have hl2:(S7 a (Um (trim (mono i (Uj h))) b)).length<b.length+i:=by
    have hl:=Q0f (i:=i) (x:=Uj h) (b:=b) (a:=a);unfold sta at hl;have:=Q8q (p:=S7 a (Um (trim (mono i (Uj h))) b)) (n:=b.length+i-1) (Ut _ _) (by omega) (by
     rw [Ac,Q0l,if_pos (by omega),show b.length+i-1-i=b.length-1 by omega,show b.length+i-1=a.length-1 by omega];have:Uj a=a.getD (a.length-1) 0:=rfl;rw [<-this,hld];unfold Uj;rw [Kn,Int.sub_eq_zero])
    omega
   obtain ⟨q',h1,h2,h3⟩:=Qp0 tb hb i _ (q.set i (Uj h)) (S7 h (mono i (Uj h))) (Ut _ _) (Ut _ _) e2 hl2 (by simp; omega) λj hj=>by
    rw [Qh,Yb,if_neg (by omega),<-Qh];exact h0 j (by omega)
   refine ⟨q',h1,by rw [h2,Jj],λt=>?_⟩;rw [h3,Qpy q i _ t (by omega),h0 i (by omega),E6,Ou]
   push_cast; grind
theorem Q94 {a b h:List Int} {s:Nat} (ta:W9 a) (tb:W9 b) (th:W9 h) (ha:a.length≠0) (la:a.length<=10) (ba:Bd s a) (hs:s+69<=16777216) (e:∀ t,Ub a t=Ub b t*Ub h t):Ox a b=some h:=by
 obtain ⟨p1,p2⟩:=Hf ta ha e;have hln:=Sk tb th ta e p1 p2;obtain ⟨q,h1,h2,h3⟩:=Qp0 tb (by omega) (a.length+1-b.length) a (List.replicate (a.length+1-b.length) 0) h ta th e (by omega) (by simp) λj _=>To _ _
 have h4:trim q=h:=Q04 (Gx _) th λt=>by rw [E7,h3,Qnf]; grind
 unfold Ox;rw [if_neg (by omega),h1];show chk (trim q)=_;rw [h4];exact C9 (by omega) (W4 (I4 ba la ta th tb ha λt=>by rw [e]; grind) (by omega))
end Orq
