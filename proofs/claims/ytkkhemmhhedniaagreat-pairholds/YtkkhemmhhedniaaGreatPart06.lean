/- T1 T2 T3 T4 T5 T6 T7 T8 T9 T10 T11 T12 T13 T14 T15 T16 T17 T18 -/
import Derived.Test.YtkkhemmhhedniaaGreatPart00
import Derived.Test.YtkkhemmhhedniaaGreatPart05
set_option linter.all false
namespace Orq
def Uk (x:Rat):Rat:=if x<0 then -x else x
theorem Gs (x:Rat):0<=Uk x:=by unfold Uk; split <;> grind
theorem Ru {x b:Rat}:Uk x<=b↔-b<=x/\x<=b:=by unfold Uk; split <;> constructor <;> grind
theorem Qox {x b:Rat}:Uk x<b↔-b<x/\x<b:=by unfold Uk; split <;> constructor <;> grind
theorem Tc (x y:Rat):Uk (x+y)<=Uk x+Uk y:=by unfold Uk; split <;> split <;> split <;> grind
theorem Qzz (x y:Rat):Uk (x-y)=Uk (y-x):=by unfold Uk; split <;> split <;> grind
theorem Cy (x:Rat):Uk (-x)=Uk x:=by unfold Uk; split <;> split <;> grind
theorem Hg:Uk 0=0:=by decide
theorem Nc {x:Rat} (h:x≠0):0<Uk x:=by unfold Uk; split <;> grind
theorem Zdm {x:Rat} (h:Uk x=0):x=0:=by unfold Uk at h; split at h <;> grind
theorem Pq {x y:Rat} (h1:0<=x) (h2:0<=y):0<=x*y:=Rat.mul_nonneg h1 h2
theorem Lz {x y:Rat} (h1:0<x) (h2:0<y):0<x*y:=J9 h1 h2
theorem S6 {a b c d:Rat} (h0:0<=a) (h1:a<=b) (h2:0<=c) (h3:c<=d):a*c<=b*d:=by
 have e1:=Q3 h1 h2;have e2:=Zm h3 (Q6 h0 h1);exact Q6 e1 e2
theorem Cx (x y:Rat):Uk (x*y)=Uk x*Uk y:=by
 unfold Uk;by_cases h1:x<0 <;> by_cases h2:y<0
 ·have:=Lz (x:=-x) (y:=-y) (by grind) (by grind); simp only [h1,h2,if_true]; split <;> grind
 ·have:=Pq (x:=-x) (y:=y) (by grind) (by grind); simp only [h1,h2,if_true,if_false]; split <;> grind
 ·have:=Pq (x:=x) (y:=-y) (by grind) (by grind); simp only [h1,h2,if_true,if_false]; split <;> grind
 ·have:=Pq (x:=x) (y:=y) (by grind) (by grind); simp only [h1,h2,if_false]; split <;> grind
theorem Fz {x y a b:Rat} (h1:Uk x<=a) (h2:Uk y<=b):Uk (x*y)<=a*b:=by
 rw [Cx]; exact S6 (Gs x) h1 (Gs y) h2
theorem Nx {x y:Rat} (h1:0<x) (h2:0<y):0<x / y:=by rw [J8]; exact Lz h1 (Rat.inv_pos.2 h2)
theorem Fe {x y:Rat} (h2:0<y):x / y*y=x:=Zf (by grind)
theorem Gd {b d:Rat} (hb:0<=b) (hd:0<d):∃ e:Rat,0<e/\e<=1/\e*b<d:=by
 have h1:0<d / (b+1):=Nx hd (by grind);have h2:d / (b+1)*(b+1)=d:=Fe (by grind);rcases Vo (a:=d / (b+1)) (b:=1) with h | h
 ·exact ⟨d / (b+1),h1,h,by
   have:d / (b+1)*(b+1)=d / (b+1)*b+d / (b+1):=by grind
   grind⟩
 ·refine ⟨1,by decide,by decide,?_⟩;have:1*(b+1)<=d / (b+1)*(b+1):=Q3 h (by grind);grind
def ev:List Rat->Rat->Rat
 | [],_=>0
 | a::p,t=>a+t*ev p t
def dv:List Rat->Rat->Rat
 | [],_=>0
 | _::p,t=>ev p t+t*dv p t
def dq:List Rat->Rat->Rat->Rat
 | [],_,_=>0
 | _::p,x,y=>ev p x+y*dq p x y
def dd:List Rat->Rat->Rat->Rat
 | [],_,_=>0
 | _::p,x,y=>dq p x y+y*dd p x y
theorem Qk2 (x y:Rat):∀ p,ev p x-ev p y=(x-y)*dq p x y
 | []=>by simp only [ev,dq]; grind
 | a::p=>by have:=Qk2 x y p; simp only [ev,dq]; grind
theorem Qnj (y:Rat):∀ p,dq p y y=dv p y
 | []=>rfl
 | a::p=>by simp only [dq,dv,Qnj y p]
theorem Zfc (x y:Rat):∀ p,dq p x y-dv p y=(x-y)*dd p x y
 | []=>by simp only [dv,dq,dd]; grind
 |
  a::p=>by
  have h1:=Zfc x y p;have h2:=Qk2 x y p;simp only [dv,dq,dd]; grind
theorem Zfg (p:List Rat) (x y:Rat):ev p x-ev p y=(x-y)*dv p y+(x-y)*(x-y)*dd p x y:=by
 have h1:=Qk2 x y p;have h2:=Zfc x y p;grind
def evB (R:Rat):List Rat->Rat
 | []=>0
 | a::p=>Uk a+R*evB R p
def dqB (R:Rat):List Rat->Rat
 | []=>0
 | _::p=>evB R p+R*dqB R p
def ddB (R:Rat):List Rat->Rat
 | []=>0
 | _::p=>dqB R p+R*ddB R p
theorem Al {R:Rat} (hR:0<=R):∀ p,0<=evB R p
 | []=>by simp only [evB]; grind
 | a::p=>by have:=Pq hR (Al hR p); have:=Gs a; simp only [evB]; grind
theorem S4 {R:Rat} (hR:0<=R):∀ p,0<=dqB R p
 | []=>by simp only [dqB]; grind
 | a::p=>by have:=Pq hR (S4 hR p); have:=Al hR p; simp only [dqB]; grind
theorem Qh5 {R:Rat} (hR:0<=R):∀ p,0<=ddB R p
 | []=>by simp only [ddB]; grind
 | a::p=>by have:=Pq hR (Qh5 hR p); have:=S4 hR p; simp only [ddB]; grind
theorem Qfh {R x:Rat} (hx:Uk x<=R):∀ p,Uk (ev p x)<=evB R p
 | []=>by simp only [ev,evB,Hg]; grind
 |
  a::p=>by
  have h1:=Tc a (x*ev p x);have h2:=Fz hx (Qfh hx p);simp only [ev,evB]; grind
theorem Qq1 {R x y:Rat} (hx:Uk x<=R) (hy:Uk y<=R):∀ p,Uk (dq p x y)<=dqB R p
 | []=>by simp only [dq,dqB,Hg]; grind
 |
  a::p=>by
  have h1:=Tc (ev p x) (y*dq p x y);have h2:=Fz hy (Qq1 hx hy p);have h3:=Qfh hx p;simp only [dq,dqB]; grind
theorem Q5g {R x y:Rat} (hx:Uk x<=R) (hy:Uk y<=R):∀ p,Uk (dd p x y)<=ddB R p
 | []=>by simp only [dd,ddB,Hg]; grind
 |
  a::p=>by
  have h1:=Tc (dq p x y) (y*dd p x y);have h2:=Fz hy (Q5g hx hy p);have h3:=Qq1 hx hy p;simp only [dd,ddB]; grind
theorem Q5x {R x y:Rat} (hx:Uk x<=R) (hy:Uk y<=R) (p:List Rat):Uk (ev p x-ev p y)<=Uk (x-y)*dqB R p:=by
 rw [Qk2,Cx]; exact S6 (Gs _) Ql (Gs _) (Qq1 hx hy p)
def H5:List Rat->List Rat->List Rat
 | [],q=>q
 | a::p,[]=>a::p
 | a::p,b::q=>(a+b)::H5 p q
def Pv (c:Rat) (p:List Rat):List Rat:=p.map (c * ·)
def Ft:List Rat->List Rat->List Rat
 | [],_=>[]
 | a::p,q=>H5 (Pv a q) (0::Ft p q)
def Mg:List Rat->List Rat
 | []=>[]
 | _::p=>H5 p (0::Mg p)
theorem Fa (t:Rat):∀ p q,ev (H5 p q) t=ev p t+ev q t
 | [],q=>by simp only [H5,ev]; grind
 | a::p,[]=>by simp only [H5,ev]; grind
 | a::p,b::q=>by have:=Fa t p q; simp only [H5,ev]; grind
theorem U0 (c t:Rat):∀ p,ev (Pv c p) t=c*ev p t
 | []=>by simp only [Pv,Jb,ev]; grind
 | a::p=>by have:=U0 c t p; simp only [Pv,Zw,ev] at *; grind
theorem Uh (t:Rat):∀ p q,ev (Ft p q) t=ev p t*ev q t
 | [],q=>by simp only [Ft,ev]; grind
 | a::p,q=>by have:=Uh t p q; simp only [Ft,Fa,U0,ev]; grind
theorem Ht (t:Rat):∀ p,ev (Mg p) t=dv p t
 | []=>rfl
 | a::p=>by have:=Ht t p; simp only [Mg,Fa,ev,dv]; grind
theorem Qnk (t:Rat):∀ p q,dv (H5 p q) t=dv p t+dv q t
 | [],q=>by simp only [H5,dv]; grind
 | a::p,[]=>by simp only [H5,dv]; grind
 | a::p,b::q=>by have:=Qnk t p q; have:=Fa t p q; simp only [H5,dv]; grind
theorem Qd4 (c t:Rat):∀ p,dv (Pv c p) t=c*dv p t
 | []=>by simp only [Pv,Jb,dv]; grind
 | a::p=>by have:=Qd4 c t p; have:=U0 c t p; simp only [Pv,Zw,dv] at *; grind
theorem Qnl (t:Rat):∀ p q,dv (Ft p q) t=dv p t*ev q t+ev p t*dv q t
 | [],q=>by simp only [Ft,dv,ev]; grind
 | a::p,q=>by have:=Qnl t p q; have:=Uh t p q; simp only [Ft,Qnk,Qd4,dv,ev]; grind
theorem Qyk:∀ {p:List Rat},(∀ x∈p,x=0)->∀ t,ev p t=0
 | [],_,t=>rfl
 |
  a::p,h,t=>by
  have h1:=Qyk (p:=p) (λx hx=>h x (Qj _ hx)) t;have h2:=h a (Qr ..);simp only [ev,h1,h2]; grind
theorem Qyf:∀ {p:List Rat},(∀ x∈p,x=0)->∀ t,dv p t=0
 | [],_,t=>rfl
 |
  a::p,h,t=>by
  have h0:=λx hx=>h x (Qj _ hx)
  have h1:=Qyk (p:=p) h0 t;have h2:=Qyf (p:=p) h0 t;simp only [dv,h1,h2]; grind
theorem Qbv:∀ {p:List Rat},(∀ t,0<t->t<1->ev p t=0)->∀ x∈p,x=0
 | [],_=>λx hx=>by cases hx
 |
  a::p,h=>by
  have ha:a=0:=by
   rcases Classical.em (a=0) with h0 | h0
   ·exact h0
   ·obtain ⟨e,e1,e2,e3⟩:=Gd (Al (R:=1) (by decide) p) (Nc h0);obtain ⟨f,f1,f2,f3⟩:=Gd (b:=1) (d:=e) (by decide) e1;have h1:=h f f1 (by grind);have h2:=Qfh (R:=1) (x:=f) (by unfold Uk; split <;> grind) p;have h3:=Cx f (ev p f);have h4:Uk f=f:=by unfold Uk; split <;> grind
    have h5:a=-(f*ev p f):=by simp only [ev] at h1; grind
    have h6:Uk a=f*Uk (ev p f):=by rw [h5,Cy,h3,h4]
    have h7:f*Uk (ev p f)<=e*evB 1 p:=S6 (Qm f1) (by grind) (Gs _) h2;grind
  intro x hx;rcases Qo.1 hx with rfl | hx
  ·exact ha
  ·refine Qbv (p:=p) (λt h1 h2=>?_) x hx;have:=h t h1 h2;simp only [ev,ha] at this;have h3:t*ev p t=0:=by grind
   rcases Jr.1 h3 with h4 | h4
   ·grind
   ·exact h4
theorem Q5o {p q:List Rat} (h:∀ t,ev p t=ev q t) (t:Rat):dv p t=dv q t:=by
 have h1:=Qyf (p:=H5 p (Pv (-1) q)) (Qbv λt _ _=>by rw [Fa,U0,h t]; grind) t;rw [Qnk,Qd4] at h1; grind
def Uo (x:Rat):Int:=if x<0 then -1 else if 0<x then 1 else 0
theorem Fc {x:Rat}:Uo x=0↔x=0:=by
 unfold Uo; constructor
 ·intro h; split at h <;> (try split at h) <;> grind
 ·intro h; subst h; rfl
theorem Gy {x:Rat}:Uo x=1↔0<x:=by
 unfold Uo; constructor
 ·intro h; split at h <;> (try split at h) <;> grind
 ·intro h; rw [if_neg (by grind),if_pos h]
theorem Tp {x:Rat}:Uo x=-1↔x<0:=by
 unfold Uo; constructor
 ·intro h; split at h <;> (try split at h) <;> grind
 ·intro h; rw [if_pos h]
theorem Fh (x:Rat):Uo x=-1/\x<0\/Uo x=0/\x=0\/Uo x=1/\0<x:=by
 rcases Vo (a:=x) (b:=0) with h | h
 ·rcases Classical.em (x=0) with h0 | h0
  ·exact .inr (.inl ⟨Fc.2 h0,h0⟩)
  ·exact .inl ⟨Tp.2 (by grind),by grind⟩
 ·rcases Classical.em (x=0) with h0 | h0
  ·exact .inr (.inl ⟨Fc.2 h0,h0⟩)
  ·exact .inr (.inr ⟨Gy.2 (by grind),by grind⟩)
theorem Td (x y:Rat):Uo (x*y)=Uo x*Uo y:=by
 rcases Fh x with ⟨e1,h1⟩ | ⟨e1,h1⟩ | ⟨e1,h1⟩ <;> rcases Fh y with ⟨e2,h2⟩ | ⟨e2,h2⟩ | ⟨e2,h2⟩ <;> rw [e1,e2]
 ·have:=Lz (x:=-x) (y:=-y) (by grind) (by grind); exact Gy.2 (by grind)
 ·subst h2; exact Fc.2 (by grind)
 ·have:=Lz (x:=-x) (y:=y) (by grind) (by grind); exact Tp.2 (by grind)
 ·subst h1; exact Fc.2 (by grind)
 ·subst h1; exact Fc.2 (by grind)
 ·subst h1; exact Fc.2 (by grind)
 ·have:=Lz (x:=x) (y:=-y) (by grind) (by grind); exact Tp.2 (by grind)
 ·subst h2; exact Fc.2 (by grind)
 ·exact Gy.2 (Lz h1 h2)
theorem Se {a b d:Rat} (h1:d<=Uk a) (h2:Uk (b-a)<d):Uo b=Uo a/\Uo a≠0:=by
 rw [Qox] at h2;rcases Fh a with ⟨e,h⟩ | ⟨e,h⟩ | ⟨e,h⟩
 ·rw [e,Tp]; unfold Uk at h1; rw [if_pos h] at h1; exact ⟨by grind,by decide⟩
 ·subst h; rw [Hg] at h1; grind
 ·rw [e,Gy]; unfold Uk at h1; rw [if_neg (by grind)] at h1; exact ⟨by grind,by decide⟩
def tc (x:Rat):Int->List (List Rat)->Nat
 | _,[]=>0
 | s,p::l=>if Uo (ev p x)=0 then tc x s l else (if s=-(Uo (ev p x)) then 1 else 0)+tc x (Uo (ev p x)) l
inductive SCl:List Rat->List Rat->List (List Rat)->Prop
 | base {f g:List Rat} {c:Rat} (hc:c≠0) (hg:∀ t,ev g t=c):SCl f g []
 | step {f g h:List Rat} {l:List (List Rat)} {a b:Rat} {q:List Rat} (ha:0<a) (hb:0<b) (he:∀ t,a*ev f t=ev q t*ev g t-b*ev h t) (hl:SCl g h l):SCl f g (h::l)
theorem Q9l {x:Rat} {s:Int} {g h:List Rat} {l:List (List Rat)} (hh:Uo (ev h x)=-s) (hs:s≠0):tc x s (g::h::l)=1+tc x (-s) l:=by
 have h3:Uo (ev h x)≠0:=by omega
 have hv:s=1\/s=-1:=by rcases Fh (ev h x) with ⟨e,_⟩ | ⟨e,_⟩ | ⟨e,_⟩ <;> omega
 simp only [tc,if_neg h3,hh];rcases Fh (ev g x) with ⟨e,_⟩ | ⟨e,_⟩ | ⟨e,_⟩ <;> rw [e] <;> rcases hv with rfl | rfl <;> simp
theorem Qdg {x:Rat} {s:Int} {p:List Rat} {l:List (List Rat)} (h:Uo (ev p x)≠0):tc x s (p::l)=(if s=-(Uo (ev p x)) then 1 else 0)+tc x (Uo (ev p x)) l:=by rw [tc,if_neg h]
theorem S5 {R x y e d:Rat} {p:List Rat} (hx:Uk x<=R) (hy:Uk y<=R) (hR:0<=R) (h:Uk (y-x)<=e) (hd:e*dqB R p<d):Uk (ev p y-ev p x)<d:=by
 have h1:=Q5x hy hx p;have h2:=Q3 h (S4 hR p);grind
theorem Qlq {a x y:Rat} (ha:0<a) (h:a*x<a*y):x<y:=by
 rcases Vo (a:=y) (b:=x) with h' | h'
 ·have:=Zm h' (Qm ha); grind
 ·rcases Classical.em (x=y) with e | e
  ·subst e; grind
  ·grind
theorem Zih {a b d d' B f g h q:Rat} (ha:0<a) (hb:0<b) (dp:0<d) (h7:B*d+a*d<b*d') (hq:Uk q<=B) (hg:Uk g<d) (hh:d'<=Uk h) (he:a*f=q*g-b*h) (hd':0<d'):Uo h=-Uo f/\d<=Uk f:=by
 have h4:=Fz hq (Qm hg);rw [Ru] at h4;have had:=Lz ha dp;have h8:=Zm hh (Qm hb);rcases Fh h with ⟨s,p⟩ | ⟨s,p⟩ | ⟨s,p⟩
 ·have:Uk h=-h:=by unfold Uk; rw [if_pos p]
  rw [this] at h8;have h10:d<f:=Qlq ha (by grind);rw [s,Gy.2 (show 0<f by grind)];exact ⟨rfl,by unfold Uk; split <;> grind⟩
 ·rw [p,Hg] at hh; grind
 ·have:Uk h=h:=by unfold Uk; rw [if_neg (by grind)]
  rw [this] at h8;have h10:f < -d:=Qlq ha (by grind);rw [s,Tp.2 (show f<0 by grind)];exact ⟨rfl,by unfold Uk; split <;> grind⟩
theorem min2 {a b:Rat} (ha:0<a) (hb:0<b):∃ e:Rat,0<e/\e<=a/\e<=b:=by
 rcases Vo (a:=a) (b:=b) with h | h
 ·exact ⟨a,ha,Ql,h⟩
 ·exact ⟨b,hb,h,Ql⟩
theorem U4 (a b:Rat):a<=b\/b<a:=by
 rcases Vo (a:=a) (b:=b) with h | h
 ·exact .inl h
 ·rcases Classical.em (a=b) with e | e
  ·exact .inl (by grind)
  ·exact .inr (by grind)
theorem Zhq {R:Rat} (hR:0<=R) {f g:List Rat} {l:List (List Rat)} (hc:SCl f g l):∃ d e:Rat,0<d/\0<e/\∀ x y,Uk x<=R->Uk y<=R->Uk (y-x)<=e ->
 (d<=Uk (ev f x)\/d<=Uk (ev g x))/\(d<=Uk (ev f x)->Uo (ev f y)=Uo (ev f x)/\Uo (ev f x)≠0)/\(d<=Uk (ev g x)->Uo (ev g y)=Uo (ev g x)/\Uo (ev g x)≠0) /\
 (Uo (ev f y)=Uo (ev f x)->Uo (ev f x)≠0->tc x (Uo (ev f x)) (g::l)=tc y (Uo (ev f x)) (g::l)) /\
 (Uo (ev g y)=Uo (ev g x)->Uo (ev g x)≠0->tc x (Uo (ev g x)) l=tc y (Uo (ev g x)) l):=by
 induction hc with
 |
  @base f g c hc hg =>
  have hd:=Nc hc;obtain ⟨e,e1,e2,e3⟩:=Gd (S4 hR f) hd;refine ⟨Uk c,e,hd,e1,λx y hx hy hxy=>⟨.inr (by rw [hg]; exact Ql),λh=>Se h (S5 hx hy hR hxy e3),λh=>?_,λ_ _=>?_,λ_ _=>rfl⟩⟩
  ·rw [hg,hg]; exact ⟨rfl,λh=>hc (Fc.1 h)⟩
  ·simp only [tc,hg]
 |
  @step f g h l a b q ha hb he hl ih =>
  obtain ⟨d',e',hd',he',ih⟩:=ih;obtain ⟨d1,d1p,_,d1b⟩:=Gd (b:=evB R q+a) (d:=b*d') (by have:=Al hR q; grind) (Lz hb hd');obtain ⟨d,dp,hd1,hdd⟩:=min2 d1p hd';obtain ⟨ef,ef1,_,ef3⟩:=Gd (S4 hR f) dp;obtain ⟨eg,eg1,_,eg3⟩:=Gd (S4 hR g) dp;obtain ⟨e0,e0p,h1,h2⟩:=min2 ef1 eg1;obtain ⟨e,ep,h0,h3⟩:=min2 e0p he';have h1:=Q6 h0 h1;have h2:=Q6 h0 h2;refine ⟨d,e,dp,ep,λx y hx hy hxy=>?_⟩;obtain ⟨i1,i2,i3,i4,i5⟩:=ih x y hx hy (Q6 hxy h3);have hsm:Uk (ev g x)<d->d'<=Uk (ev h x)/\Uo (ev h x)=-Uo (ev f x)/\d<=Uk (ev f x):=λhg=>by
   have hh:d'<=Uk (ev h x):=by
    rcases i1 with i | i
    ·exact absurd (Q6 hdd i) (Js.2 hg)
    ·exact i
   have h6:d*(evB R q+a)<=d1*(evB R q+a):=Q3 hd1 (by have:=Al hR q; clear ih i1 i2 i3 i4 i5 he; grind);have h7:evB R q*d+a*d<b*d':=by clear ih i1 i2 i3 i4 i5 he; grind
   exact ⟨hh,Zih ha hb dp h7 (Qfh hx q) hg hh (he x) hd'⟩
  have hfs:d<=Uk (ev f x)->Uo (ev f y)=Uo (ev f x)/\Uo (ev f x)≠0:=λh=>Se h (S5 hx hy hR (Q6 hxy h1) ef3)
  have hgs:d<=Uk (ev g x)->Uo (ev g y)=Uo (ev g x)/\Uo (ev g x)≠0:=λh=>Se h (S5 hx hy hR (Q6 hxy h2) eg3)
  refine ⟨?_,hfs,hgs,λs1 s2=>?_,i4⟩
  ·rcases U4 d (Uk (ev g x)) with h | h
   ·exact .inr h
   ·exact .inl (hsm h).2.2
  ·rcases U4 d (Uk (ev g x)) with h | h
   ·obtain ⟨g1,g2⟩:=hgs h;rw [Qdg (x:=x) (p:=g) g2,Qdg (x:=y) (p:=g) (by rw [g1]; exact g2),g1,i4 g1 g2]
   ·obtain ⟨h4,h5,_⟩:=hsm h;obtain ⟨h6,h7⟩:=i3 h4;have i5:=i5 h6 h7;rw [Q9l h5 s2,Q9l (h6.trans h5) s2,<-h5,i5]
def Tr (p:List Rat) (x:Rat):Int:=if Uo (ev p x)≠0 then Uo (ev p x) else Uo (dv p x)
def vv (L:List (List Rat)) (x:Rat):Nat:=tc x 0 L
def Stm (f:List Rat) (L:List (List Rat)):Prop:=(∃ c:Rat,c≠0/\(∀ t,ev f t=c)/\L=[f])\/∃ g l,∃ k:Rat,0<k/\(∀ t,ev g t=k*dv f t)/\SCl f g l/\L=f::g::l
structure Sm (w:List Rat) (x y:Rat):Prop where
 s:Uo (ev w y)=Tr w x
 l:Tr w y=Tr w x
 n:Tr w x≠0
theorem Ds {p:List Rat} {x:Rat} (h:Uo (ev p x)≠0):Tr p x=Uo (ev p x):=by unfold Tr; rw [if_pos h]
theorem Qvh {p:List Rat} {x:Rat} (h:Uo (ev p x)=0):Tr p x=Uo (dv p x):=by unfold Tr; rw [if_neg (by simpa using h)]
theorem Qs7 {p:List Rat} {x y:Rat} (h:Uo (ev p y)=Uo (ev p x)) (h0:Uo (ev p x)≠0):Sm p x y:=by
 have h1:=Ds h0;have h2:=Ds (p:=p) (x:=y) (by rw [h]; exact h0);exact ⟨by rw [h,h1],by rw [h2,h1,h],by rw [h1]; exact h0⟩
theorem Ak {f w u:List Rat} (h:∀ t,ev f t=ev w t*ev u t) (x:Rat):dv f x=dv w x*ev u x+ev w x*dv u x:=by
 rw [<-Qnl]; exact Q5o (λt=>by rw [h,Uh]) x
theorem Qy6 {f w u:List Rat} {x:Rat} (h:∀ t,ev f t=ev w t*ev u t) (hu:Uo (ev u x)≠0):Tr f x=Tr w x*Uo (ev u x):=by
 by_cases hw:Uo (ev w x)=0
 ·have hw0:=Fc.1 hw;have e1:ev f x=0:=by rw [h,hw0]; grind
  have e2:dv f x=dv w x*ev u x:=by rw [Ak h,hw0]; grind
  rw [Qvh hw,Qvh (Fc.2 e1),e2,Td]
 ·have e1:Uo (ev f x)=Uo (ev w x)*Uo (ev u x):=by rw [h,Td]
  rw [Ds hw,Ds (by rw [e1]; exact Xp hw hu),e1]
theorem Zii {f w u:List Rat} {x y:Rat} (h:∀ t,ev f t=ev w t*ev u t) (hu:Uo (ev u y)=Uo (ev u x)) (h0:Uo (ev u x)≠0) (hf:Sm f x y):Sm w x y:=by
 have e1:=Qy6 h h0;have e2:=Qy6 (x:=y) h (by rw [hu]; exact h0);have e3:Uo (ev f y)=Uo (ev w y)*Uo (ev u y):=by rw [h,Td]
 obtain ⟨s,l,n⟩:=hf;rw [hu] at e2 e3;refine ⟨?_,?_,λh=>n (by rw [e1,h,J3])⟩
 ·rw [e3,e1] at s; exact Int.eq_of_mul_eq_mul_right h0 s
 ·rw [e2,e1] at l; exact Int.eq_of_mul_eq_mul_right h0 l
theorem tc0 {x:Rat} {s:Int} {f g:List Rat} {l:List (List Rat)} (h:Uo (ev g x)=s) (hs:s≠0):tc x 0 (f::g::l)=(if Uo (ev f x)=-s then 1 else 0)+tc x s l:=by
 have hv:s=1\/s=-1:=by rcases Fh (ev g x) with ⟨e,_⟩ | ⟨e,_⟩ | ⟨e,_⟩ <;> omega
 have hg:Uo (ev g x)≠0:=by omega
 rw [tc];rcases Fh (ev f x) with ⟨e,_⟩ | ⟨e,_⟩ | ⟨e,_⟩ <;> rw [e] <;> rcases hv with rfl | rfl <;> simp [Qdg hg,h]
theorem Qi5 {R x y e d:Rat} {p:List Rat} (hx:Uk x<=R) (hy:Uk y<=R) (hR:0<=R) (hxy:x<y) (h:y-x<=e) (hd:d<=Uk (dv p x)) (he:e*ddB R p<d):Uo (ev p y-ev p x)=Uo (dv p x):=by
 have h1:=Zfg p y x;have h2:ev p y-ev p x=(y-x)*(dv p x+(y-x)*dd p y x):=by rw [h1]; grind
 have h3:=Fz (x:=y-x) (y:=dd p y x) (a:=e) (b:=ddB R p) (by rw [Ru]; constructor <;> grind) (Q5g hy hx p);have h4:=Se (b:=dv p x+(y-x)*dd p y x) hd (by
  have:dv p x+(y-x)*dd p y x-dv p x=(y-x)*dd p y x:=by grind
  rw [this]; exact Js.1 λh=>absurd (Q6 h h3) (Js.2 he))
 rw [h2,Td,Gy.2 (show 0<y-x by grind),h4.1,Ym]
def Q24 (f w:List Rat) (L:List (List Rat)) (x y:Rat):Prop :=
 (vv L x=vv L y/\Sm f x y/\Sm w x y)\/(vv L x=vv L y+1/\Tr f x≠0/\Tr f y=-Tr f x/\Uo (ev f x)=Tr f x/\(Uo (ev f y)=0\/Uo (ev f y)=-Tr f x))
theorem Zfj {R d:Rat} (hR:0<=R) (hd:0<d) {f w u:List Rat} (h:∀ t,ev f t=ev w t*ev u t):∃ e:Rat,0<e/\∀ x y,Uk x<=R->Uk y<=R->Uk (y-x)<=e->d<=Uk (ev f x)->Sm f x y/\Sm w x y:=by
 obtain ⟨ef,ef1,_,ef3⟩:=Gd (S4 hR f) hd;obtain ⟨d1,d1p,_,d1b⟩:=Gd (Al hR u) hd;obtain ⟨ew,ew1,_,ew3⟩:=Gd (S4 hR w) d1p;obtain ⟨e,ep,e1,e2⟩:=min2 ef1 ew1;refine ⟨e,ep,λx y hx hy hxy hf=>⟨?_,?_⟩⟩
 ·have:=Se hf (S5 hx hy hR (Q6 hxy e1) ef3);exact Qs7 this.1 this.2
 ·have hw:d1<=Uk (ev w x):=by
   rcases U4 d1 (Uk (ev w x)) with h' | h'
   ·exact h'
   ·have h5:=Fz (Qm h') (Qfh hx u);rw [<-h] at h5;exact absurd (Q6 hf h5) (Js.2 d1b)
  have:=Se hw (S5 hx hy hR (Q6 hxy e2) ew3);exact Qs7 this.1 this.2
theorem loc {R:Rat} (hR:0<=R) {f w u:List Rat} {L:List (List Rat)} (hc:Stm f L) (h:∀ t,ev f t=ev w t*ev u t):∃ e:Rat,0<e/\∀ x y,Uk x<=R->Uk y<=R->x<y->y-x<=e->Q24 f w L x y:=by
 rcases hc with ⟨c,hc,hf,rfl⟩ | ⟨g,l,k,hk,hg,hc,rfl⟩
 ·obtain ⟨e,ep,h1⟩:=Zfj hR (Nc hc) h;refine ⟨e,ep,λx y hx hy hxy he=>.inl ⟨?_,h1 x y hx hy (by rw [Ru]; constructor <;> grind) (by rw [hf]; exact Ql)⟩⟩;simp only [vv,tc,hf]
 ·obtain ⟨d,e1,dp,e1p,h1⟩:=Zhq hR hc;obtain ⟨e2,e2p,h2⟩:=Zfj hR dp h;obtain ⟨d3,d3p,_,d3b⟩:=Gd (b:=k) (d:=d) (Qm hk) dp;obtain ⟨e3,e3p,_,e3b⟩:=Gd (Qh5 hR f) d3p;obtain ⟨d4,d4p,_,d4b⟩:=Gd (b:=dqB R w+dqB R u) (d:=d3) (by have:=S4 hR w; have:=S4 hR u; grind) d3p;obtain ⟨e4,e4p,_,e4b⟩:=Gd (S4 hR w) d4p;obtain ⟨e5,e5p,_,e5b⟩:=Gd (S4 hR u) d4p;obtain ⟨a1,a1p,a11,a12⟩:=min2 e1p e2p;obtain ⟨a2,a2p,a21,a22⟩:=min2 e3p e4p;obtain ⟨a3,a3p,a31,a32⟩:=min2 a1p a2p;obtain ⟨e,ep,b1,b2⟩:=min2 a3p e5p;refine ⟨e,ep,λx y hx hy hxy he=>?_⟩;have hab:Uk (y-x)<=e:=by rw [Ru]; clear h1 h2; constructor <;> grind
  have hab1:Uk (y-x)<=e1:=by clear h1 h2; grind
  have hab2:Uk (y-x)<=e2:=by clear h1 h2; grind
  obtain ⟨i1,i2,i3,i4,i5⟩:=h1 x y hx hy hab1;rcases U4 d (Uk (ev f x)) with hf | hf
  ·obtain ⟨s1,s2⟩:=h2 x y hx hy hab2 hf;obtain ⟨j1,j2⟩:=i2 hf;refine .inl ⟨?_,s1,s2⟩;have:=i4 j1 j2;simp only [vv];rw [Qdg (x:=x) (p:=f) j2,Qdg (x:=y) (p:=f) (by rw [j1]; exact j2),j1,this]
  ·have hg1:d<=Uk (ev g x):=by
    rcases i1 with i | i
    ·exact absurd i (Js.2 hf)
    ·exact i
   obtain ⟨g1,g2⟩:=i3 hg1;have i5:=i5 g1 g2;have hD:d3<=Uk (dv f x):=by
    rcases U4 d3 (Uk (dv f x)) with h' | h'
    ·exact h'
    ·have h5:=Fz (x:=k) (a:=k) (by unfold Uk; split <;> clear h1 h2 <;> grind) (Rat.le_of_lt h');rw [<-hg] at h5;have:k*d3=d3*k:=by grind
     exact absurd (Q6 hg1 h5) (Js.2 (by rw [this]; exact d3b))
   have hm:=Qi5 hx hy hR hxy (by clear h1 h2; grind:y-x<=e3) hD e3b;have s1:Uo (ev g x)=Uo (dv f x):=by rw [hg,Td,Gy.2 hk,Ym]
   have s2:Uo (ev g y)=Uo (dv f y):=by rw [hg,Td,Gy.2 hk,Ym]
   obtain ⟨s,hs⟩:=nmE (Uo (ev g x));rw [<-hs] at g1 g2 i5 s1;rw [g1] at s2;have v1:=tc0 (f:=f) (l:=l) hs.symm g2;have v2:=tc0 (f:=f) (l:=l) g1 g2;rw [<-i5] at v2;rw [<-s1] at hm;have hw:Sm f x y->Sm w x y:=λhf=>by
    rcases U4 d4 (Uk (ev u x)) with hu | hu
    ·have hu:=Se hu (S5 hx hy hR (Q6 hab b2) e5b);exact Zii h hu.1 hu.2 hf
    ·have hw:d4<=Uk (ev w x):=by
      rcases U4 d4 (Uk (ev w x)) with h' | h'
      ·exact h'
      ·have q1:=Fz (x:=dv w x) (y:=ev u x) (a:=dqB R w) (by rw [<-Qnj]; exact Qq1 hx hx w) (Qm hu);have q2:=Fz (x:=ev w x) (y:=dv u x) (b:=dqB R u) (Qm h') (by rw [<-Qnj]; exact Qq1 hx hx u);have q3:=Tc (dv w x*ev u x) (ev w x*dv u x);rw [<-Ak h] at q3;have:d4*(dqB R w+dqB R u)=dqB R w*d4+d4*dqB R u:=by grind
       rw [this] at d4b;exact absurd (Q6 hD (Q6 q3 (by clear h1 h2; grind:_<=dqB R w*d4+d4*dqB R u))) (Js.2 d4b)
     have hw:=Se hw (S5 hx hy hR (Q6 hab (by clear h1 h2; grind)) e4b);exact Qs7 hw.1 hw.2
   have lx:Tr f x=if Uo (ev f x)≠0 then Uo (ev f x) else s:=by rw [s1]; rfl
   have ly:Tr f y=if Uo (ev f y)≠0 then Uo (ev f y) else s:=by rw [s2]; rfl
   clear h1 h2 i1 i2 i3 i4;have hsv:s=1\/s=-1:=by rcases Fh (ev g x) with ⟨e,_⟩ | ⟨e,_⟩ | ⟨e,_⟩ <;> omega
   unfold Q24;simp only [vv,v1,v2];rcases hsv with rfl | rfl
   ·have hm:=Gy.1 hm;rcases Fh (ev f x) with ⟨p1,p2⟩ | ⟨p1,p2⟩ | ⟨p1,p2⟩
    ·rcases Fh (ev f y) with ⟨q1,q2⟩ | ⟨q1,q2⟩ | ⟨q1,q2⟩
     ·rw [p1,q1]; have hsm:=Qs7 (p:=f) (x:=x) (y:=y) (by rw [p1,q1]) (by rw [p1]; decide);exact .inl ⟨rfl,hsm,hw hsm⟩
     ·rw [lx,ly,p1,q1]; refine .inr ⟨by simp; omega,by decide,by decide,by decide,by decide⟩
     ·rw [lx,ly,p1,q1]; refine .inr ⟨by simp; omega,by decide,by decide,by decide,by decide⟩
    ·have q1:=Gy.2 (show 0<ev f y by grind);have hsm:Sm f x y:=⟨by rw [lx,q1,p1]; rfl,by rw [lx,ly,q1,p1]; rfl,by rw [lx,p1]; decide⟩;rw [p1,q1]; exact .inl ⟨rfl,hsm,hw hsm⟩
    ·have q1:=Gy.2 (show 0<ev f y by grind);have hsm:Sm f x y:=⟨by rw [lx,q1,p1]; rfl,by rw [lx,ly,q1,p1],by rw [lx,p1]; decide⟩;rw [p1,q1]; exact .inl ⟨rfl,hsm,hw hsm⟩
   ·have hm:=Tp.1 hm;rcases Fh (ev f x) with ⟨p1,p2⟩ | ⟨p1,p2⟩ | ⟨p1,p2⟩
    ·have q1:=Tp.2 (show ev f y<0 by grind);have hsm:Sm f x y:=⟨by rw [lx,q1,p1]; rfl,by rw [lx,ly,q1,p1],by rw [lx,p1]; decide⟩;rw [p1,q1]; exact .inl ⟨rfl,hsm,hw hsm⟩
    ·have q1:=Tp.2 (show ev f y<0 by grind);have hsm:Sm f x y:=⟨by rw [lx,q1,p1]; rfl,by rw [lx,ly,q1,p1]; rfl,by rw [lx,p1]; decide⟩;rw [p1,q1]; exact .inl ⟨rfl,hsm,hw hsm⟩
    ·rcases Fh (ev f y) with ⟨q1,q2⟩ | ⟨q1,q2⟩ | ⟨q1,q2⟩
     ·rw [lx,ly,p1,q1]; refine .inr ⟨by simp; omega,by decide,by decide,by decide,by decide⟩
     ·rw [lx,ly,p1,q1]; refine .inr ⟨by simp; omega,by decide,by decide,by decide,by decide⟩
     ·rw [p1,q1]; have hsm:=Qs7 (p:=f) (x:=x) (y:=y) (by rw [p1,q1]) (by rw [p1]; decide);exact .inl ⟨rfl,hsm,hw hsm⟩
theorem Zmv (z:Rat):∃ n:Nat,z<=(n:Rat):=by
 refine ⟨z.ceil.toNat,?_⟩;have h1:z<=(z.ceil:Rat):=Rat.le_ceil;have h2:(z.ceil:Rat)<=((z.ceil.toNat:Int):Rat):=Ji.2 (Int.self_le_toNat _);exact Q6 h1 h2
theorem Iq {z e:Rat} (he:0<e):∃ n:Nat,z<=(n:Rat)*e:=by
 obtain ⟨n,hn⟩:=Zmv (z / e);exact ⟨n,by have:=Q3 hn (Qm he); rwa [Fe he] at this⟩
theorem Qch {R x y t:Rat} (hx:Uk x<=R) (hy:Uk y<=R) (h1:x<=t) (h2:t<=y):Uk t<=R:=by
 rw [Ru] at *; constructor <;> grind
def Q0o (f w:List Rat) (L:List (List Rat)) (x y:Rat):Prop :=
 vv L y<=vv L x/\(vv L x=vv L y->Sm f x y/\Sm w x y)/\(vv L x=vv L y+1->Tr f x≠0/\Tr f y=-Tr f x)
theorem Qy5 {f w:List Rat} {L:List (List Rat)} {x y:Rat} (h:Q24 f w L x y):Q0o f w L x y:=by
 rcases h with ⟨h1,h2,h3⟩ | ⟨h1,h2,h3,_⟩
 ·exact ⟨by omega,λ_=>⟨h2,h3⟩,λh=>by omega⟩
 ·exact ⟨by omega,λh=>by omega,λ_=>⟨h2,h3⟩⟩
theorem Qs8 {w:List Rat} {x y z:Rat} (h1:Sm w x y) (h2:Sm w y z):Sm w x z:=⟨by rw [h2.s,h1.l],by rw [h2.l,h1.l],h1.n⟩
theorem Qvf {f w:List Rat} {L:List (List Rat)} {x y z:Rat} (h:Q0o f w L x y) (h':Q0o f w L y z):Q0o f w L x z:=by
 obtain ⟨a1,a2,a3⟩:=h;obtain ⟨b1,b2,b3⟩:=h';refine ⟨by omega,λh=>?_,λh=>?_⟩
 ·obtain ⟨s1,s2⟩:=a2 (by omega);obtain ⟨s3,s4⟩:=b2 (by omega);exact ⟨Qs8 s1 s3,Qs8 s2 s4⟩
 ·by_cases e:vv L x=vv L y
  ·obtain ⟨s1,_⟩:=a2 e;obtain ⟨s3,s4⟩:=b3 (by omega);exact ⟨s1.n,by rw [s4,s1.l]⟩
  ·obtain ⟨s3,s4⟩:=a3 (by omega);obtain ⟨s1,_⟩:=b2 (by omega);exact ⟨s3,by rw [s1.l,s4]⟩
theorem Zhi {R:Rat} (hR:0<=R) {f w u:List Rat} {L:List (List Rat)} (hc:Stm f L) (h:∀ t,ev f t=ev w t*ev u t) {x y:Rat} (hx:Uk x<=R) (hy:Uk y<=R) (hxy:x<y):Q0o f w L x y:=by
 obtain ⟨e,ep,hl⟩:=loc hR hc h;have key:∀ n:Nat,∀ x,Uk x<=R->x<y->y-x<=(n:Rat)*e->Q0o f w L x y:=by
  intro n
  induction n with
  | zero =>
   intro x hx hxy h; exfalso; have:((0:Nat):Rat)*e=0:=by simp
   grind
  |
   succ n ih =>
   intro x hx hxy hn;rcases U4 (y-x) e with h1 | h1
   ·exact Qy5 (hl x y hx hy hxy h1)
   ·have hm:Uk (x+e)<=R:=Qch hx hy (by clear hl ih; grind) (by clear hl ih; grind);have hn':(((n+1:Nat):Rat))=(n:Rat)+1:=by push_cast; rfl
    refine Qvf (Qy5 (hl x (x+e) hx hm (by clear hl ih; grind) (by clear hl ih; grind))) (ih (x+e) hm (by clear hl ih; grind) ?_);rw [hn'] at hn;clear hl ih; grind
 obtain ⟨n,hn⟩:=Iq (z:=y-x) ep;exact key n x hx hxy hn
theorem Qmw (x y:Rat):∃ R:Rat,0<=R/\Uk x<=R/\Uk y<=R:=by
 refine ⟨Uk x+Uk y,?_,?_,?_⟩ <;> (have:=Gs x; have:=Gs y; grind)
theorem Hy (t:Rat):ev [1] t=1:=by simp only [ev]; grind
theorem D5 {f:List Rat} {L:List (List Rat)} (hc:Stm f L) {x y:Rat} (hxy:x<y):vv L y<=vv L x:=by
 obtain ⟨R,hR,hx,hy⟩:=Qmw x y;exact (Zhi hR hc (w:=f) (u:=[1]) (λt=>by rw [Hy]; grind) hx hy hxy).1
theorem Qa3 {f w u:List Rat} {L:List (List Rat)} (hc:Stm f L) (h:∀ t,ev f t=ev w t*ev u t) {x y:Rat} (hxy:x<y) (he:vv L x=vv L y):Sm w x y:=by
 obtain ⟨R,hR,hx,hy⟩:=Qmw x y;exact ((Zhi hR hc h hx hy hxy).2.1 he).2
theorem Qpq {f:List Rat} {L:List (List Rat)} (hc:Stm f L) {x y:Rat} (hxy:x<y) (he:vv L x=vv L y):Sm f x y :=
 Qa3 hc (w:=f) (u:=[1]) (λt=>by rw [Hy]; grind) hxy he
theorem Qpp {f:List Rat} {L:List (List Rat)} (hc:Stm f L) {x y:Rat} (hxy:x<y) (he:vv L x=vv L y+1):Tr f x≠0/\Tr f y=-Tr f x:=by
 obtain ⟨R,hR,hx,hy⟩:=Qmw x y;exact (Zhi hR hc (w:=f) (u:=[1]) (λt=>by rw [Hy]; grind) hx hy hxy).2.2 he
theorem Q9w {f:List Rat} {L:List (List Rat)} (hc:Stm f L) (R:Rat) (hR:0<=R):∃ e:Rat,0<e/\∀ x y,Uk x<=R->Uk y<=R->x<y->y-x<=e->vv L x<=vv L y+1:=by
 obtain ⟨e,ep,hl⟩:=loc hR hc (w:=f) (u:=[1]) (λt=>by rw [Hy]; grind);refine ⟨e,ep,λx y hx hy hxy he=>?_⟩;rcases hl x y hx hy hxy he with ⟨h,_⟩ | ⟨h,_⟩ <;> omega
theorem cont {p:List Rat} {x:Rat} (h:Uo (ev p x)≠0):∃ e:Rat,0<e/\∀ y,Uk (y-x)<=e->Uo (ev p y)=Uo (ev p x):=by
 have hd:=Nc (x:=ev p x) λh0=>h (Fc.2 h0)
 have hR:0<=Uk x+1:=by have:=Gs x; grind
 obtain ⟨e,e1,e2,e3⟩:=Gd (S4 hR p) hd;refine ⟨e,e1,λy hy=>(Se Ql (S5 (x:=x) (by grind) ?_ hR hy e3)).1⟩;have:=Tc (y-x) x;have e:y-x+x=y:=by grind
 rw [e] at this; grind
theorem Zfr {R M:Rat} {p:List Rat} (hM:M=ddB R p) (hR:0<=R) {h:Rat} (hh:0<h):∀ (n:Nat) (x:Rat),Uk x<=R->Uk (x+(n:Rat)*h)<=R->(∀ t,x<=t->t<=x+(n:Rat)*h->0<=dv p t)->ev p x-(n:Rat)*(h*h*M)<=ev p (x+(n:Rat)*h)
 |
  0,x,_,_,_=>by
  have e1:x+((0:Nat):Rat)*h=x:=by rw [show ((0:Nat):Rat)=0 from rfl]; grind
  have e2:((0:Nat):Rat)*(h*h*M)=0:=by simp
  rw [e1,e2]; grind
 |
  n+1,x,hx,hy,hd=>by
  have hn':(((n+1:Nat):Rat))=(n:Rat)+1:=by push_cast; rfl
  rw [hn'] at hy hd ⊢;have hn0:(0:Rat)<=(n:Rat):=Xm;have hnh:=Pq hn0 (Qm hh);have e1:x+((n:Rat)+1)*h=(x+h)+(n:Rat)*h:=by grind
  rw [e1] at hy hd ⊢;have hxh:Uk (x+h)<=R:=Qch hx hy (by clear hd; grind) (by clear hd; grind);have ih:=Zfr hM hR hh n (x+h) hxh hy λt h1 h2=>hd t (by clear hd; grind) h2
  have h0:=hd x Ql (by clear hd; grind);have h1:=Zfg p (x+h) x;have h2:=Q5g hxh hx p;rw [<-hM,Ru] at h2;have h3:=Zm h2.1 (Pq (Qm hh) (Qm hh));have h4:=Pq (Qm hh) h0;have e2:x+h-x=h:=by grind
  rw [e2] at h1;clear hd hx hy hxh;grind
theorem Zku {p:List Rat} {x y:Rat} (hxy:x<y) (hd:∀ t,x<=t->t<=y->0<=dv p t):ev p x<=ev p y:=by
 obtain ⟨R,hR,hx,hy⟩:=Qmw x y;rcases U4 (ev p x) (ev p y) with h | h
 ·exact h
 ·exfalso;obtain ⟨M,hM⟩:=nmE (ddB R p);have hM0:=Qh5 hR p;rw [<-hM] at hM0;obtain ⟨e,ep,_,he⟩:=Gd (b:=(y-x)*M) (d:=ev p x-ev p y) (Pq (by grind) hM0) (by grind);obtain ⟨n,hn⟩:=Iq (z:=y-x) ep;have hn0:0<(n:Rat):=by
   rcases U4 (n:Rat) 0 with h' | h'
   ·have:=Q3 h' (Qm ep); clear hd; grind
   ·exact h'
  have hh:0<(y-x) / n:=Nx (by grind) hn0;have e1:(n:Rat)*((y-x) / n)=y-x:=by rw [Wv]; exact Fe hn0
  have e2:x+(n:Rat)*((y-x) / n)=y:=by rw [e1]; grind
  have h1:=Zfr hM hR hh n x hx (by rw [e2]; exact hy) (by rw [e2]; exact hd);rw [e2] at h1;have h2:(y-x) / n<=e:=by
   rcases U4 ((y-x) / n) e with h' | h'
   ·exact h'
   ·have:=Rat.mul_lt_mul_of_pos_left h' hn0; clear hd; grind
  have h3:(n:Rat)*((y-x) / n*((y-x) / n)*M)=((y-x) / n)*((y-x)*M):=by
   have:(n:Rat)*((y-x) / n*((y-x) / n)*M)=((n:Rat)*((y-x) / n))*(((y-x) / n)*M):=by grind
   rw [this,e1]; grind
  have h4:=Q3 h2 (Pq (x:=y-x) (y:=M) (by grind) hM0);rw [h3] at h1;clear hd; grind
theorem Zds {p:List Rat} {x y:Rat} (hxy:x<y) (hd:∀ t,x<=t->t<=y->0<dv p t):ev p x<ev p y:=by
 have hx:=hd x Ql (by grind);have hR:0<=Uk x+1:=by have:=Gs x; grind
 obtain ⟨e,e1,e2,e3⟩:=Gd (Qh5 hR p) hx;obtain ⟨f,f1,f2,f3⟩:=min2 (a:=e) (b:=y-x) e1 (by grind);have hq:Uk (x+f)<=Uk x+1:=by
  have:=Tc x f; have:Uk f=f:=by unfold Uk; split <;> grind
  clear hd; grind
 have h1:=Qi5 (p:=p) (x:=x) (y:=x+f) (R:=Uk x+1) (e:=e) (d:=dv p x) (by clear hd; grind) hq hR (by grind) (by grind) (by unfold Uk; split <;> clear hd <;> grind) e3;rw [Gy.2 hx,Gy] at h1;rcases Classical.em (x+f=y) with e | e
 ·rw [<-e]; clear hd; grind
 ·have:=Zku (p:=p) (x:=x+f) (y:=y) (by clear hd; grind) λt h1 h2=>Qm (hd t (by clear hd; grind) h2)
  clear hd; grind
structure Cut (c:Rat->Int):Prop where
 val:∀ q,c q=1\/c q=0\/c q=-1
 mono:∀ q r,q<r->c q≠1->c r=-1
 up:∀ q,c q=1->∃ r,q<r/\c r=1
 dn:∀ q,c q=-1->∃ r,r<q/\c r=-1
 lo:∃ q,c q=1
 hi:∃ q,c q=-1
theorem Cut.mono' {c:Rat->Int} (h:Cut c) {q r:Rat} (hqr:q<r) (hr:c r≠-1):c q=1:=by
 rcases Classical.em (c q=1) with e | e
 ·exact e
 ·exact absurd (h.mono q r hqr e) hr
theorem Cut.lt {c:Rat->Int} (h:Cut c) {q r:Rat} (hq:c q=1) (hr:c r=-1):q<r:=by
 rcases U4 r q with e | e
 ·rcases Classical.em (r=q) with e' | e'
  ·rw [e'] at hr; omega
  ·have:=h.mono r q (by grind) (by omega); omega
 ·exact e
theorem Cut.near {c:Rat->Int} (h:Cut c) {e:Rat} (he:0<e):∃ x y,c x=1/\c y=-1/\y-x<=e:=by
 obtain ⟨a,ha⟩:=h.lo;obtain ⟨b,hb⟩:=h.hi;have he2:0<e / 2:=Nx he (by decide);have h2:e / 2*2=e:=Fe (by decide);have key:∀ (n:Nat) (a:Rat),c a=1->b-a<=(n:Rat)*(e / 2)->∃ x y,c x=1/\c y=-1/\y-x<=e:=by
  intro n
  induction n with
  |
   zero =>
   intro a ha hn;have:=h.lt ha hb;rw [show ((0:Nat):Rat)=0 from rfl] at hn;exfalso; grind
  |
   succ n ih =>
   intro a ha hn;have hn':(((n+1:Nat):Rat))=(n:Rat)+1:=by push_cast; rfl
   rw [hn'] at hn;rcases h.val (a+e / 2) with h1 | h1 | h1
   ·exact ih _ h1 (by grind)
   ·exact ⟨a,a+e,ha,h.mono (a+e / 2) _ (by grind) (by omega),by grind⟩
   ·exact ⟨a,a+e / 2,ha,h1,by grind⟩
 obtain ⟨n,hn⟩:=Iq (z:=b-a) he2;exact key n a ha hn
def Ec (p:List Rat) (c:Rat->Int):Prop:=∀ d:Rat,0<d->∃ x y,c x=1/\c y=-1/\∀ q,x<=q->q<=y->Uk (ev p q)<d
def NZ (p:List Rat) (c:Rat->Int) (s:Int):Prop:=∃ d:Rat,0<d/\∃ x y,c x=1/\c y=-1/\∀ q,x<=q->q<=y->Uo (ev p q)=s/\d<=Uk (ev p q)
def Nr (c:Rat->Int) (P:Rat->Prop):Prop:=∃ x y,c x=1/\c y=-1/\∀ q,x<=q->q<=y->P q
theorem Qvj {c:Rat->Int} {P Q:Rat->Prop} (h1:Nr c P) (h2:Nr c Q):Nr c λq=>P q/\Q q:=by
 obtain ⟨x,y,a1,a2,a3⟩:=h1;obtain ⟨x',y',b1,b2,b3⟩:=h2;refine ⟨if x<=x' then x' else x,if y<=y' then y else y',by split <;> assumption,by split <;> assumption,λq q1 q2=>⟨a3 q ?_ ?_,b3 q ?_ ?_⟩⟩ <;> clear a3 b3 <;> grind
theorem Qgy {c:Rat->Int} {P Q:Rat->Prop} (h1:Nr c P) (h:∀ q,P q->Q q):Nr c Q:=by
 obtain ⟨x,y,a1,a2,a3⟩:=h1;exact ⟨x,y,a1,a2,λq q1 q2=>h q (a3 q q1 q2)⟩
theorem Qr2 {c:Rat->Int} (hc:Cut c) {P:Rat->Prop} (h1:Nr c P):∃ q,P q/\c q=1:=by
 obtain ⟨x,y,a1,a2,a3⟩:=h1;exact ⟨x,a3 x Ql (Qm (hc.lt a1 a2)),a1⟩
theorem Q7c {c:Rat->Int} (hc:Cut c) {e:Rat} (he:0<e) {P:Rat->Prop} (h1:Nr c P):∃ x y,c x=1/\c y=-1/\y-x<=e/\x<y/\∀ q,x<=q->q<=y->P q:=by
 obtain ⟨x,y,a1,a2,a3⟩:=h1;obtain ⟨x',y',b1,b2,b3⟩:=hc.near he;refine ⟨if x<=x' then x' else x,if y<=y' then y else y',by split <;> assumption,by split <;> assumption,by clear a3; grind,hc.lt (by split <;> assumption) (by split <;> assumption),λq q1 q2=>a3 q ?_ ?_⟩ <;> clear a3 <;> grind
theorem Zfp {c:Rat->Int} (hc:Cut c):∃ R:Rat,0<=R/\Nr c λq=>Uk q<=R:=by
 obtain ⟨x,y,a1,a2,_⟩:=hc.near (e:=1) (by decide);obtain ⟨R,hR,h1,h2⟩:=Qmw x y;exact ⟨R,hR,x,y,a1,a2,λq q1 q2=>Qch h1 h2 q1 q2⟩
theorem Oy {c:Rat->Int} (hc:Cut c) (p:List Rat):Ec p c\/∃ s,s≠0/\NZ p c s:=by
 rcases Classical.em (Ec p c) with h | h
 ·exact .inl h
 ·refine .inr ?_;obtain ⟨d,hd0⟩:=Classical.not_forall.1 h;obtain ⟨dp,hd⟩:=Classical.not_imp.1 hd0;have hd:∀ x y,c x=1->c y=-1->∃ q,x<=q/\q<=y/\d<=Uk (ev p q):=λx y hx hy=>by
   rcases Classical.em (∃ q,x<=q/\q<=y/\d<=Uk (ev p q)) with h' | h'
   ·exact h'
   ·refine absurd ⟨x,y,hx,hy,λq h1 h2=>?_⟩ hd;rcases U4 d (Uk (ev p q)) with h3 | h3
    ·exact absurd ⟨q,h1,h2,h3⟩ h'
    ·exact h3
  obtain ⟨R,hR,hn⟩:=Zfp hc;have hd2:0<d / 2:=Nx dp (by decide);have h2:d / 2*2=d:=Fe (by decide);obtain ⟨e,e1,_,e3⟩:=Gd (S4 hR p) hd2;obtain ⟨x,y,hx,hy,hxy,_,hq⟩:=Q7c hc e1 hn;obtain ⟨r,r1,r2,r3⟩:=hd x y hx hy;have key:∀ q,x<=q->q<=y->Uk (ev p q-ev p r)<d / 2:=λq q1 q2 =>
   S5 (hq r r1 r2) (hq q q1 q2) hR (by rw [Ru]; clear hq hd; constructor <;> grind) e3
  refine ⟨Uo (ev p r),λh0=>?_,d / 2,hd2,x,y,hx,hy,λq q1 q2=>⟨(Se (d:=d) r3 ?_).1,?_⟩⟩
  ·rw [Fc.1 h0,Hg] at r3; clear hq hd key; grind
  ·have:=key q q1 q2; clear hq hd key; grind
  ·have h3:=key q q1 q2;have h4:=Tc (ev p r-ev p q) (ev p q);rw [show ev p r-ev p q+ev p q=ev p r from by clear hq hd key; grind,Qzz] at h4;clear hq hd key; grind
theorem Ziy {c:Rat->Int} (hc:Cut c) {p:List Rat} {s:Int} (h1:Ec p c) (h2:NZ p c s):False:=by
 obtain ⟨d,dp,h2⟩:=h2;obtain ⟨q,⟨a,b⟩,_⟩:=Qr2 hc (Qvj (h1 d dp) h2);exact absurd b.2 (Js.2 a)
theorem Sv {c:Rat->Int} (hc:Cut c) {f p q:List Rat} (hf:∀ t,ev f t=ev p t*ev q t) (h:Ec p c):Ec f c:=by
 intro d dp;obtain ⟨R,hR,hn⟩:=Zfp hc;obtain ⟨e,e1,_,e3⟩:=Gd (Al hR q) dp;refine Qgy (Qvj hn (h e e1)) λt ⟨h1,h2⟩=>?_
 rw [hf];have:=Fz (Qm h2) (Qfh h1 q);exact Js.1 λh=>absurd (Q6 h this) (Js.2 e3)
theorem Qhd {c:Rat->Int} {f p q:List Rat} (hf:∀ t,ev f t=ev p t+ev q t) (h:Ec p c) (h':Ec q c):Ec f c:=by
 intro d dp;have hd2:0<d / 2:=Nx dp (by decide);have h2:d / 2*2=d:=Fe (by decide);refine Qgy (Qvj (h _ hd2) (h' _ hd2)) λt ⟨h1,h2⟩=>?_
 rw [hf];have:=Tc (ev p t) (ev q t);grind
def RS (p:List Rat) (c:Rat->Int) (s:Int):Prop:=∃ y,c y=-1/\∀ q,c q=-1->q<=y->Uo (ev p q)=s
def LS (p:List Rat) (c:Rat->Int) (s:Int):Prop:=∃ x,c x=1/\∀ q,c q=1->x<=q->Uo (ev p q)=s
theorem Qmf {c:Rat->Int} (hc:Cut c) {p:List Rat} {s:Int} (h:NZ p c s):RS p c s:=by
 obtain ⟨d,dp,x,y,a1,a2,a3⟩:=h;exact ⟨y,a2,λq h1 h2=>(a3 q (Qm (hc.lt a1 h1)) h2).1⟩
theorem Qy7 {c:Rat->Int} (hc:Cut c) {p:List Rat} {s:Int} (h:NZ p c s):LS p c s:=by
 obtain ⟨d,dp,x,y,a1,a2,a3⟩:=h;exact ⟨x,a1,λq h1 h2=>(a3 q h2 (Qm (hc.lt h1 a2))).1⟩
theorem Qc8 {c:Rat->Int} {p:List Rat} {s s':Int} (h:RS p c s) (h':RS p c s'):s=s':=by
 obtain ⟨y,a1,a2⟩:=h;obtain ⟨y',b1,b2⟩:=h';rcases U4 y y' with e | e
 ·rw [<-a2 y a1 Ql,<-b2 y a1 e]
 ·rw [<-a2 y' b1 (Qm e),<-b2 y' b1 Ql]
theorem Zfu {c:Rat->Int} (hc:Cut c) {p:List Rat} (hv:Ec p c) {y:Rat} (hy:c y=-1) (h:∀ q,c q=-1->q<=y->0<dv p q) (q:Rat) (hq:c q=-1) (hqy:q<=y):0<ev p q:=by
 rcases U4 (ev p q) 0 with h0 | h0
 ·exfalso;obtain ⟨r,r1,r2⟩:=hc.dn q hq;have hr:ev p r<ev p q:=Zds r1 λt t1 t2=>h t (by
   rcases Classical.em (r=t) with e | e
   ·rw [<-e]; exact r2
   ·exact hc.mono r t (by clear h; grind) (by omega)) (Q6 t2 hqy)
  obtain ⟨a,b,ha,hb,hab⟩:=hv (-ev p r) (by clear h; grind);obtain ⟨m,hm1,hm2,hm3⟩:∃ m,c m=-1/\m<=b/\m<=r:=by
   rcases U4 b r with e | e
   ·exact ⟨b,hb,Ql,e⟩
   ·exact ⟨r,r2,Qm e,Ql⟩
  have h1:=hab m (Qm (hc.lt ha hm1)) hm2;have h2:ev p m<=ev p r:=by
   rcases Classical.em (m=r) with e | e
   ·rw [e]; exact Ql
   ·exact Qm (Zds (by clear h hab; grind) λt t1 t2=>h t (by
     rcases Classical.em (m=t) with e | e
     ·rw [<-e]; exact hm1
     ·exact hc.mono m t (by clear h hab; grind) (by omega)) (by clear h hab; grind))
  rw [Qox] at h1;clear h hab; grind
 ·exact h0
theorem Qo4 {c:Rat->Int} (hc:Cut c) {p:List Rat} {s:Int} (hv:Ec p c) (h:RS (Mg p) c s) (hs:s≠0):RS p c s:=by
 obtain ⟨y,hy,h⟩:=h;have hsv:s=1\/s=-1:=by
  have:=h y hy Ql;rcases Fh (ev (Mg p) y) with ⟨e,_⟩ | ⟨e,_⟩ | ⟨e,_⟩ <;> omega
 rcases hsv with rfl | rfl
 ·refine ⟨y,hy,λq h1 h2=>Gy.2 (Zfu hc hv hy (λq h1 h2=>?_) q h1 h2)⟩;rw [<-Ht]; exact Gy.1 (h q h1 h2)
 ·refine ⟨y,hy,λq h1 h2=>Tp.2 ?_⟩;have:=Zfu hc (p:=Pv (-1) p) (y:=y) (λd dp=>Qgy (hv d dp) λq hq=>by rw [U0,show -1*ev p q=-ev p q by grind,Cy]; exact hq) hy (λq h1 h2=>by
   rw [Qd4,<-Ht];have:=Tp.1 (h q h1 h2); grind) q h1 h2
  rw [U0] at this; grind
theorem Zfm {c:Rat->Int} (hc:Cut c) {p:List Rat} (hv:Ec p c) {x:Rat} (hx:c x=1) (h:∀ q,c q=1->x<=q->0<dv p q) (q:Rat) (hq:c q=1) (hxq:x<=q):ev p q<0:=by
 rcases U4 0 (ev p q) with h0 | h0
 ·exfalso;obtain ⟨r,r1,r2⟩:=hc.up q hq;have hr:ev p q<ev p r:=Zds r1 λt t1 t2=>h t (by
   rcases Classical.em (t=r) with e | e
   ·rw [e]; exact r2
   ·exact hc.mono' (q:=t) (r:=r) (by clear h; grind) (by omega)) (Q6 hxq t1)
  obtain ⟨a,b,ha,hb,hab⟩:=hv (ev p r) (by clear h; grind);obtain ⟨m,hm1,hm2,hm3⟩:∃ m,c m=1/\a<=m/\r<=m:=by
   rcases U4 a r with e | e
   ·exact ⟨r,r2,e,Ql⟩
   ·exact ⟨a,ha,Ql,Qm e⟩
  have h1:=hab m hm2 (Qm (hc.lt hm1 hb));have h2:ev p r<=ev p m:=by
   rcases Classical.em (r=m) with e | e
   ·rw [e]; exact Ql
   ·exact Qm (Zds (by clear h hab; grind) λt t1 t2=>h t (by
     rcases Classical.em (t=m) with e | e
     ·rw [e]; exact hm1
     ·exact hc.mono' (q:=t) (r:=m) (by clear h hab; grind) (by omega)) (by clear h hab; grind))
  rw [Qox] at h1;clear h hab; grind
 ·exact h0
theorem Q60 {c:Rat->Int} (hc:Cut c) {p:List Rat} {s:Int} (hv:Ec p c) (h:LS (Mg p) c s) (hs:s≠0):LS p c (-s):=by
 obtain ⟨x,hx,h⟩:=h;have hsv:s=1\/s=-1:=by
  have:=h x hx Ql;rcases Fh (ev (Mg p) x) with ⟨e,_⟩ | ⟨e,_⟩ | ⟨e,_⟩ <;> omega
 rcases hsv with rfl | rfl
 ·refine ⟨x,hx,λq h1 h2=>Tp.2 (Zfm hc hv hx (λq h1 h2=>?_) q h1 h2)⟩;rw [<-Ht]; exact Gy.1 (h q h1 h2)
 ·refine ⟨x,hx,λq h1 h2=>Gy.2 ?_⟩;have:=Zfm hc (p:=Pv (-1) p) (x:=x) (λd dp=>Qgy (hv d dp) λq hq=>by rw [U0,show -1*ev p q=-ev p q by grind,Cy]; exact hq) hx (λq h1 h2=>by
   rw [Qd4,<-Ht];have:=Tp.1 (h q h1 h2); grind) q h1 h2
  rw [U0] at this; grind
theorem Zd0 {c:Rat->Int} (hc:Cut c) {f g:List Rat} {l:List (List Rat)} (h:SCl f g l):Ec f c->Ec g c->False:=by
 induction h with
 |
  @base f g k hk hg =>
  intro _ hv;obtain ⟨q,hq,_⟩:=Qr2 hc (hv (Uk k) (Nc hk));rw [hg] at hq; grind
 |
  @step f g h l a b q ha hb he hl ih =>
  intro hf hg;refine ih hg ?_;have h1:Ec (Ft q g) c:=Sv hc (p:=g) (q:=q) (λt=>by rw [Uh]; grind) hg;have h2:Ec (Pv (-a) f) c:=Sv hc (p:=f) (q:=[-a]) (λt=>by rw [U0]; simp only [ev]; grind) hf;have h3:Ec (H5 (Ft q g) (Pv (-a) f)) c:=Qhd (λt=>Fa t _ _) h1 h2;refine Sv hc (p:=H5 (Ft q g) (Pv (-a) f)) (q:=[1 / b]) (λt=>?_) h3;have:=he t;rw [Fa,Uh,U0];simp only [ev];have hbb:1 / b*b=1:=Fe hb;have:ev q t*ev g t+-a*ev f t=b*ev h t:=by rw [show -a*ev f t=-(a*ev f t) by grind,he t]; grind
  rw [this];have:b*ev h t*(1 / b+t*0)=ev h t*(1 / b*b):=by grind
  rw [this,hbb]; grind
theorem Qmt {c:Rat->Int} (hc:Cut c) {f g:List Rat} {k:Rat} (h:∀ t,ev g t=k*ev f t) (hv:Ec f c):Ec g c :=
 Sv hc (p:=f) (q:=[k]) (λt=>by rw [h]; simp only [ev]; grind) hv
theorem Zea {c:Rat->Int} (hc:Cut c) {f:List Rat} {L:List (List Rat)} (h:Stm f L) (hv:Ec f c):∃ s,s≠0/\NZ (Mg f) c s:=by
 rcases Oy hc (Mg f) with h1 | h1
 ·exfalso;rcases h with ⟨k,hk,hf,_⟩ | ⟨g,l,k,hk,hg,h,_⟩
  ·obtain ⟨q,hq,_⟩:=Qr2 hc (hv (Uk k) (Nc hk));rw [hf] at hq; grind
  ·exact Zd0 hc h hv (Qmt hc (λt=>by rw [hg,Ht]) h1)
 ·exact h1
theorem Qyb {c:Rat->Int} (hc:Cut c) {f w u:List Rat} {L:List (List Rat)} (h:Stm f L) (hf:∀ t,ev f t=ev w t*ev u t) (hv:Ec w c):∃ s,s≠0/\NZ (Mg w) c s:=by
 rcases Oy hc (Mg w) with h1 | h1
 ·exfalso;obtain ⟨s,_,hs⟩:=Zea hc h (Sv hc hf hv);refine Ziy hc ?_ hs;have a1:Ec (Ft (Mg w) u) c:=Sv hc (λt=>Uh t _ _) h1;have a2:Ec (Ft w (Mg u)) c:=Sv hc (λt=>Uh t _ _) hv;refine Qhd (λt=>?_) a1 a2;rw [Ht,Ak hf,Uh,Uh,Ht,Ht]
 ·exact h1
theorem Q5d {c:Rat->Int} (hc:Cut c) {q:Rat} (h:c q=0) {x y:Rat} (hx:c x=1) (hy:c y=-1):x<=q/\q<=y:=by
 constructor
 ·rcases U4 x q with e | e
  ·exact e
  ·have:=hc.mono q x e (by omega); omega
 ·rcases U4 q y with e | e
  ·exact e
  ·have:=hc.mono y q e (by omega); omega
theorem Qe9 {c:Rat->Int} (hc:Cut c) {p:List Rat} {q:Rat} (h:c q=0) (hv:Ec p c):ev p q=0:=by
 rcases Classical.em (ev p q=0) with e | e
 ·exact e
 ·obtain ⟨x,y,hx,hy,hq⟩:=hv _ (Nc e);obtain ⟨h1,h2⟩:=Q5d hc h hx hy;have:=hq q h1 h2; grind
theorem Qr6 {c:Rat->Int} (hc:Cut c) {p:List Rat} {q:Rat} {s:Int} (h:c q=0) (hv:NZ p c s):Uo (ev p q)=s:=by
 obtain ⟨d,dp,x,y,hx,hy,hq⟩:=hv;obtain ⟨h1,h2⟩:=Q5d hc h hx hy;exact (hq q h1 h2).1
theorem Qus {c:Rat->Int} (hc:Cut c) {y z:Rat} (hy:c y=-1) (hz:c z=-1):∃ q,c q=-1/\q<y/\q<z:=by
 obtain ⟨a,a1,a2⟩:=hc.dn y hy;obtain ⟨b,b1,b2⟩:=hc.dn z hz;rcases U4 a b with e | e
 ·exact ⟨a,a2,a1,by grind⟩
 ·exact ⟨b,b2,by grind,b1⟩
theorem Qh3 {c:Rat->Int} (hc:Cut c) {y z:Rat} (hy:c y=1) (hz:c z=1):∃ q,c q=1/\y<q/\z<q:=by
 obtain ⟨a,a1,a2⟩:=hc.up y hy;obtain ⟨b,b1,b2⟩:=hc.up z hz;rcases U4 a b with e | e
 ·exact ⟨b,b2,by grind,b1⟩
 ·exact ⟨a,a2,a1,by grind⟩
theorem Q7b {f w u:List Rat} {L:List (List Rat)} (h:Stm f L) (hf:∀ t,ev f t=ev w t*ev u t) {x y:Rat} (hv:vv L x=vv L y) {c:Rat->Int} (hc:Cut c) (hx:c x=1) (hy:c y≠1):¬Ec w c:=λhw=>by
 have hxy:x<y:=by
  rcases U4 y x with e | e
  ·rcases Classical.em (y=x) with e' | e'
   ·rw [e'] at hy; exact absurd hx hy
   ·have:=hc.mono y x (by grind) hy; omega
  ·exact e
 have hwv:=Qa3 h hf hxy hv;rcases hc.val y with e | e | e
 ·exact hy e
 ·have:=Qe9 hc e hw;have:=hwv.s;rw [Fc.2 (by assumption)] at this;exact hwv.n this.symm
 ·obtain ⟨s,hs,hd⟩:=Qyb hc h hf hw;obtain ⟨a,ha,hal⟩:=Q60 hc hw (Qy7 hc hd) hs;obtain ⟨b,hb,hbr⟩:=Qo4 hc hw (Qmf hc hd) hs;obtain ⟨q,q1,q2,q3⟩:=Qh3 hc hx ha;obtain ⟨r,r1,r2,r3⟩:=Qus hc hb e;have e1:=hal q q1 (Qm q3);have e2:=hbr r r1 (Qm r2);have hqr:=hc.lt q1 r1;have v1:vv L q<=vv L x:=D5 h q2;have v2:vv L y<=vv L r:=D5 h r3;have v3:vv L r<=vv L q:=D5 h hqr;have s1:=(Qa3 h hf q2 (by omega)).s;have s2:=(Qa3 h hf (x:=x) (y:=r) (by grind) (by omega)).s;omega
theorem Qph {f:List Rat} {L:List (List Rat)} (h:Stm f L) {x y:Rat} (hxy:x<y) (hv:vv L x≠vv L y) {d:Rat} (dp:0<d):∃ q,x<=q/\q<=y/\Uk (ev f q)<d:=by
 obtain ⟨R,hR,hx,hy⟩:=Qmw x y;obtain ⟨e1,e1p,hl⟩:=loc hR h (w:=f) (u:=[1]) (λt=>by rw [Hy]; grind);obtain ⟨e2,e2p,_,e2b⟩:=Gd (S4 hR f) dp;obtain ⟨e,ep,h1,h2⟩:=min2 e1p e2p;have key:∀ n:Nat,∀ x,Uk x<=R->x<y->vv L x≠vv L y->y-x<=(n:Rat)*e->∃ q,x<=q/\q<=y/\Uk (ev f q)<d:=by
  intro n
  induction n with
  | zero=>intro x hx hxy _ hn; rw [show ((0:Nat):Rat)=0 from rfl] at hn; exfalso; clear hl; grind
  |
   succ n ih =>
   intro x hx hxy hv hn;have hstep:∀ z,Uk z<=R->x<z->z-x<=e->vv L x≠vv L z->Uk (ev f z)<d:=λz hz hxz hze hv=>by
    rcases hl x z hx hz hxz (Q6 hze h1) with ⟨p,_⟩ | ⟨_,p1,p2,p3,p4⟩
    ·exact absurd p hv
    ·have hd:=S5 (p:=f) hx hz hR (e:=e2) (d:=d) (by rw [Ru]; clear hl ih; constructor <;> grind) e2b;rw [<-p3] at p1 p4;clear hl ih p2 p3;rw [Qox] at *;rcases Fh (ev f x) with ⟨a,a'⟩ | ⟨a,a'⟩ | ⟨a,a'⟩ <;> rcases Fh (ev f z) with ⟨b,b'⟩ | ⟨b,b'⟩ | ⟨b,b'⟩ <;> rw [a,b] at p4 <;> first | (exfalso; revert p4; decide) | skip
     all_goals first | (constructor <;> grind) | (exfalso; omega)
   rcases U4 (y-x) e with h3 | h3
   ·exact ⟨y,Qm hxy,Ql,hstep y hy hxy h3 hv⟩
   ·have hm:Uk (x+e)<=R:=Qch hx hy (by clear hl ih hstep; grind) (by clear hl ih hstep; grind);rcases Classical.em (vv L x=vv L (x+e)) with e0 | e0
    ·have hn':(((n+1:Nat):Rat))=(n:Rat)+1:=by push_cast; rfl
     rw [hn'] at hn;obtain ⟨q,q1,q2,q3⟩:=ih (x+e) hm (by clear hl ih hstep; grind) (by omega) (by clear hl ih hstep; grind);exact ⟨q,by clear hl ih hstep; grind,q2,q3⟩
    ·exact ⟨x+e,by clear hl ih hstep; grind,by clear hl ih hstep; grind,hstep (x+e) hm (by clear hl ih hstep; grind) (by clear hl ih hstep; grind) e0⟩
 obtain ⟨n,hn⟩:=Iq (z:=y-x) ep;exact key n x hx hxy hv hn
theorem Zkb {p:List Rat} {x:Rat} (h:Tr p x≠0):∃ e:Rat,0<e/\∀ y,x<y->y-x<=e->Uo (ev p y)=Tr p x:=by
 by_cases h0:Uo (ev p x)=0
 ·have hx:=Fc.1 h0;rw [Qvh h0] at h ⊢;have hR:0<=Uk x+1:=by have:=Gs x; grind
  obtain ⟨e,e1,e2,e3⟩:=Gd (Qh5 hR p) (Nc (x:=dv p x) λh'=>h (Fc.2 h'));refine ⟨e,e1,λy h1 h2=>?_⟩;have hy:Uk y<=Uk x+1:=by
   have:=Tc x (y-x);have e:x+(y-x)=y:=by grind
   have e':Uk (y-x)=y-x:=by unfold Uk; split <;> grind
   rw [e,e'] at this; grind
  have:=Qi5 (p:=p) (by grind) hy hR h1 h2 Ql e3;rw [hx] at this;rw [<-this]; congr 1; grind
 ·rw [Ds h0] at h ⊢;obtain ⟨e,e1,e2⟩:=cont h;exact ⟨e,e1,λy h1 h2=>e2 y (by rw [Ru]; constructor <;> grind)⟩
def cq (P:List Rat) (lo hi q:Rat):Int:=if q<=lo then 1 else if hi<q then -1 else if Uo (ev P q)=0 then 0 else if Uo (ev P q)=Tr P lo then 1 else -1
structure Vt (P:List Rat) (L:List (List Rat)) (lo hi:Rat):Prop where
 s:Stm P L
 l:lo<hi
 v:vv L lo=vv L hi+1
variable {P:List Rat} {L:List (List Rat)} {lo hi:Rat}
theorem No {q:Rat} (h:q<=lo):cq P lo hi q=1:=by unfold cq; rw [if_pos h]
theorem Ia {q:Rat} (h:lo<hi) (h':hi<q):cq P lo hi q=-1:=by unfold cq; rw [if_neg (by grind),if_pos h']
theorem Mx {q:Rat} (h1:lo<q) (h2:q<=hi):cq P lo hi q=if Uo (ev P q)=0 then 0 else if Uo (ev P q)=Tr P lo then 1 else -1:=by
 unfold cq; rw [if_neg (by grind),if_neg (by grind)]
theorem Vt.two (V:Vt P L lo hi) {q:Rat} (h1:lo<q) (h2:q<=hi):vv L q=vv L lo/\cq P lo hi q=1/\Uo (ev P q)=Tr P lo\/vv L q=vv L hi/\cq P lo hi q≠1/\Tr P q=-Tr P lo/\Tr P lo≠0:=by
 have a:=D5 V.s h1;have b:vv L hi<=vv L q:=by
  rcases Classical.em (q=hi) with e | e
  ·rw [e]; exact Qk _
  ·exact D5 V.s (by grind)
 have hv:=V.v;rcases (show vv L q=vv L lo\/vv L q=vv L hi by omega) with e | e
 ·have hs:=Qpq V.s h1 e.symm;refine .inl ⟨e,?_,hs.s⟩;rw [Mx h1 h2,hs.s,if_neg hs.n,if_pos rfl]
 ·obtain ⟨o1,o2⟩:=Qpp V.s h1 (by omega);refine .inr ⟨e,?_,o2,o1⟩;rw [Mx h1 h2]
  split
  ·decide
  ·rename_i h0;rw [Ds h0] at o2;rw [if_neg (by omega)]; decide
theorem Vt.lowlo (V:Vt P L lo hi):Tr P lo≠0:=(Qpp V.s V.l V.v).1
theorem Vt.eq_lo (V:Vt P L lo hi) {q:Rat} (h1:lo<q) (h2:q<=hi) (h:cq P lo hi q=1):vv L q=vv L lo:=by
 rcases V.two h1 h2 with ⟨e,_⟩ | ⟨_,e,_⟩
 ·exact e
 ·exact absurd h e
theorem Vt.eq_hi (V:Vt P L lo hi) {q:Rat} (h1:lo<q) (h2:q<=hi) (h:cq P lo hi q≠1):vv L q=vv L hi:=by
 rcases V.two h1 h2 with ⟨_,e,_⟩ | ⟨e,_⟩
 ·exact absurd e h
 ·exact e
theorem Vt.hi1 (V:Vt P L lo hi):cq P lo hi hi≠1:=λh=>by have:=V.eq_lo V.l Ql h; have:=V.v; omega
theorem Vt.cut (V:Vt P L lo hi):Cut (cq P lo hi) where
 val q:=by unfold cq; split <;> (try split) <;> (try split) <;> (try split) <;> simp
 mono q r h h1:=by
  have hq:lo<q:=by
   rcases U4 q lo with e | e
   ·exact absurd (No e) h1
   ·exact e
  rcases U4 r hi with e | e
  ·have e1:=V.eq_hi hq (by grind) h1;rcases V.two (q:=r) (by grind) e with ⟨e2,_⟩ | ⟨e2,_,e3,e4⟩
   ·have:=D5 V.s h; have:=V.v; omega
   ·have hs:=Qpq V.s h (by omega);rcases V.two hq (by grind) with ⟨e5,_⟩ | ⟨_,_,e5,_⟩
    ·have:=V.v; omega
    ·rw [Mx (by grind) e,hs.s,if_neg hs.n,e5,if_neg (by omega)]
  ·exact Ia V.l e
 up q h:=by
  rcases U4 q lo with e | e
  ·obtain ⟨d,dp,hd⟩:=Zkb V.lowlo;obtain ⟨f,fp,f1,f2⟩:=min2 (a:=d) (b:=hi-lo) dp (by have:=V.l; grind);have h1:lo<lo+f:=by clear hd; grind
   have h2:lo+f<=hi:=by clear hd; grind
   have:=hd (lo+f) h1 (by clear hd; grind);exact ⟨lo+f,by clear hd; grind,by rw [Mx h1 h2,this,if_neg V.lowlo,if_pos rfl]⟩
  ·have hh:q<=hi:=by
    rcases U4 q hi with e' | e'
    ·exact e'
    ·have:=Ia (P:=P) V.l e'; omega
   rcases V.two e hh with ⟨e1,_,e2⟩ | ⟨_,e1,_⟩
   ·have hn:q≠hi:=λh=>by rw [h] at e1; have:=V.v; omega
    obtain ⟨d,dp,hd⟩:=cont (p:=P) (x:=q) (by rw [e2]; exact V.lowlo);obtain ⟨f,fp,f1,f2⟩:=min2 (a:=d) (b:=hi-q) dp (by clear hd; grind);have:=hd (q+f) (by rw [Ru]; clear hd; constructor <;> grind);exact ⟨q+f,by clear hd; grind,by rw [Mx (by clear hd; grind) (by clear hd; grind),this,e2,if_neg V.lowlo,if_pos rfl]⟩
   ·exact absurd h e1
 dn q h:=by
  have hq:lo<q:=by
   rcases U4 q lo with e | e
   ·have:=No (P:=P) (hi:=hi) e; omega
   ·exact e
  rcases U4 q hi with e | e
  ·rw [Mx hq e] at h
   split at h
   ·cases h
   rename_i h0
   split at h
   ·cases h
   rename_i h1;obtain ⟨d,dp,hd⟩:=cont h0;obtain ⟨f,fp,f1,f2⟩:=min2 (a:=d) (b:=(q-lo) / 2) dp (Nx (by clear hd; grind) (by decide));have h2:(q-lo) / 2*2=q-lo:=Fe (by decide);have:=hd (q-f) (by rw [Ru]; clear hd; constructor <;> grind);exact ⟨q-f,by clear hd; grind,by rw [Mx (by clear hd; grind) (by clear hd; grind),this,if_neg h0,if_neg h1]⟩
  ·have h2:(q-hi) / 2*2=q-hi:=Fe (by decide);exact ⟨q-(q-hi) / 2,by grind,Ia V.l (by grind)⟩
 lo:=⟨lo,No Ql⟩
 hi:=⟨hi+1,Ia V.l (by grind)⟩
theorem Vt.van (V:Vt P L lo hi):Ec P (cq P lo hi):=by
 have hc:=V.cut;rcases Oy hc P with h | ⟨s,hs,h⟩
 ·exact h
 ·exfalso;have e1:s=Tr P lo:=by
   obtain ⟨x,hx,hx1⟩:=Qy7 hc h;obtain ⟨q,q1,q2,q3⟩:=Qh3 hc hx (No (P:=P) (hi:=hi) (Ql (a:=lo)));have hq:q<=hi:=by
    rcases U4 q hi with e | e
    ·exact e
    ·have:=Ia (P:=P) V.l e; omega
   rcases V.two q3 hq with ⟨_,_,e⟩ | ⟨_,e,_⟩
   ·rw [<-hx1 q q1 (Qm q2),e]
   ·exact absurd q1 e
  rcases hc.val hi with e | e | e
  ·exact V.hi1 e
  ·have h0:=Qr6 hc e h;rw [Mx V.l Ql] at e
   split at e
   ·omega
   ·split at e <;> omega
  ·obtain ⟨y,hy,hy1⟩:=Qmf hc h;obtain ⟨q,q1,q2,q3⟩:=Qus hc hy e;have hq:lo<q:=hc.lt (No (P:=P) (hi:=hi) (Ql (a:=lo))) q1;have:=hy1 q q1 (Qm q2);rw [Mx hq (Qm q3),this,if_neg hs,if_pos e1] at q1;cases q1
def Qu7 (w:List Rat) (lo hi:Rat):Prop:=Uo (ev w hi)=0\/Uo (ev w hi)≠Tr w lo
theorem Vt.has (V:Vt P L lo hi) {w u:List Rat} (hf:∀ t,ev P t=ev w t*ev u t) {a b:Rat} (h1:lo<=a) (h2:a<b) (h3:b<=hi):Qu7 w a b↔Ec w (cq P lo hi)/\cq P lo hi a=1/\cq P lo hi b≠1:=by
 have hc:=V.cut;have smno:vv L a=vv L b->¬Qu7 w a b:=λh hh=>by
  have:=Qa3 V.s hf h2 h;rcases hh with e | e
  ·rw [this.s] at e; exact this.n e
  ·exact e this.s
 by_cases ha:cq P lo hi a=1
 ·by_cases hb:cq P lo hi b=1
  ·have e1:=V.eq_lo (by grind) h3 hb;have e2:vv L a=vv L lo:=by
    rcases Classical.em (lo=a) with e | e
    ·rw [e]
    ·exact V.eq_lo (by grind) (by grind) ha
   exact ⟨λh=>absurd h (smno (by omega)),λh=>absurd hb h.2.2⟩
  ·have e1:=V.eq_hi (by grind) h3 hb;have e2:vv L a=vv L lo:=by
    rcases Classical.em (lo=a) with e | e
    ·rw [e]
    ·exact V.eq_lo (by grind) (by grind) ha
   have left:∀ s,LS w (cq P lo hi) s->s=Tr w a:=λs hs=>by
    obtain ⟨x,hx,hx1⟩:=hs;obtain ⟨q,q1,q2,q3⟩:=Qh3 hc hx ha;have hqb:q<b:=by
     rcases U4 b q with e | e
     ·rcases Classical.em (b=q) with e' | e'
      ·rw [e'] at hb; exact absurd q1 hb
      ·have:=hc.mono b q (by clear hx1 smno; grind) hb; omega
     ·exact e
    have:=V.eq_lo (q:=q) (by clear hx1 smno; grind) (by clear hx1 smno; grind) q1;rw [<-(Qa3 V.s hf q3 (by omega)).s,hx1 q q1 (Qm q2)]
   have right:∀ s,RS w (cq P lo hi) s->cq P lo hi b=-1->s=Uo (ev w b):=λs hs hb=>by
    obtain ⟨y,hy,hy1⟩:=hs;obtain ⟨q,q1,q2,q3⟩:=Qus hc hy hb;have hqa:=hc.lt ha q1;have:=V.eq_hi (q:=q) (by clear hy1 smno; grind) (by clear hy1 smno; grind) (by omega);have hs:=Qa3 V.s hf q3 (by omega);have hl:=hy1 q q1 (Qm q2);have h0:Uo (ev w q)≠0:=by
     have hs2:=Qa3 V.s hf (x:=q) (y:=b) q3 (by omega);intro h0;obtain ⟨r,r1,r2⟩:=hc.dn q q1;have har:=hc.lt ha r2;have:=V.eq_hi (q:=r) (by clear hy1 smno; grind) (by clear hy1 smno; grind) (by omega);have hs3:=Qa3 V.s hf (x:=r) (y:=q) r1 (by omega);have hs4:=hs3.s;rw [h0] at hs4; exact hs3.n hs4.symm
    rw [hs.s,Ds h0,hl]
   refine ⟨λh=>⟨?_,ha,hb⟩,λ⟨hw,_,_⟩=>?_⟩
   ·rcases Oy hc w with e | ⟨s,hs0,hs⟩
    ·exact e
    ·exfalso;have l1:=left s (Qy7 hc hs);have r1:Uo (ev w b)=s:=by
      rcases hc.val b with e | e | e
      ·exact absurd e hb
      ·exact Qr6 hc e hs
      ·exact (right s (Qmf hc hs) e).symm
     rcases h with h | h
     ·exact hs0 (by rw [<-r1]; exact h)
     ·exact h (by rw [r1,l1])
   ·rcases hc.val b with e | e | e
    ·exact absurd e hb
    ·exact .inl (Fc.2 (Qe9 hc e hw))
    ·obtain ⟨s,hs0,hs⟩:=Qyb hc V.s hf hw;have l1:=left _ (Q60 hc hw (Qy7 hc hs) hs0);have r1:=right _ (Qo4 hc hw (Qmf hc hs) hs0) e;exact .inr (by rw [<-l1,<-r1]; omega)
 ·have hla:lo<a:=by
   rcases Classical.em (lo=a) with e | e
   ·rw [<-e] at ha; exact absurd (No Ql) ha
   ·grind
  have hb:cq P lo hi b≠1:=by have:=hc.mono a b h2 ha; omega
  have e1:=V.eq_hi hla (by grind) ha;have e2:=V.eq_hi (q:=b) (by grind) h3 hb;exact ⟨λh=>absurd h (smno (by omega)),λh=>absurd h.2.1 ha⟩
theorem Qqu {c c':Rat->Int} (hc:Cut c) (hc':Cut c') {q:Rat} (h:c q≠c' q):∃ r,(c r=-1/\c' r=1)\/(c r=1/\c' r=-1):=by
 rcases hc.val q with e | e | e <;> rcases hc'.val q with e' | e' | e'
 ·omega
 ·obtain ⟨r,r1,r2⟩:=hc.up q e;exact ⟨r,.inr ⟨r2,hc'.mono q r r1 (by omega)⟩⟩
 ·exact ⟨q,.inr ⟨e,e'⟩⟩
 ·obtain ⟨r,r1,r2⟩:=hc'.up q e';exact ⟨r,.inl ⟨hc.mono q r r1 (by omega),r2⟩⟩
 ·omega
 ·obtain ⟨r,r1,r2⟩:=hc'.dn q e';exact ⟨r,.inr ⟨hc.mono' r1 (by omega),r2⟩⟩
 ·exact ⟨q,.inl ⟨e,e'⟩⟩
 ·obtain ⟨r,r1,r2⟩:=hc.dn q e;exact ⟨r,.inl ⟨r2,hc'.mono' r1 (by omega)⟩⟩
 ·omega
theorem Vt.uniq (V:Vt P L lo hi) {c:Rat->Int} (hc:Cut c) (h1:c lo=1) (h2:c hi≠1) (hv:Ec P c) (q:Rat):c q=cq P lo hi q:=by
 rcases Classical.em (c q=cq P lo hi q) with e | e
 ·exact e
 ·exfalso;obtain ⟨r,⟨r1,r2⟩ | ⟨r1,r2⟩⟩:=Qqu hc V.cut e
  ·have hl:=hc.lt h1 r1;have hh:r<=hi:=by
    rcases U4 r hi with e | e
    ·exact e
    ·have:=Ia (P:=P) V.l e; omega
   have:=V.eq_lo hl hh r2;exact Q7b V.s (w:=P) (u:=[1]) (λt=>by rw [Hy]; grind) (x:=lo) (y:=r) (by omega) hc h1 (by omega) hv
  ·have hl:lo<r:=by
    rcases U4 r lo with e | e
    ·have:=No (P:=P) (hi:=hi) e; omega
    ·exact e
   have hh:r<=hi:=by
    rcases U4 r hi with e | e
    ·exact e
    ·have:=hc.mono hi r e h2; omega
   have:=V.eq_hi hl hh (by omega);exact Q7b V.s (w:=P) (u:=[1]) (λt=>by rw [Hy]; grind) (x:=r) (y:=hi) (by omega) hc r1 h2 hv
theorem Vt.same (V:Vt P L lo hi) {P':List Rat} {L':List (List Rat)} {lo' hi':Rat} (V':Vt P' L' lo' hi') {g u u' U W:List Rat} {k:Rat} (hk:k≠0) (h1:∀ t,ev P t=ev g t*ev u t) (h2:∀ t,ev P' t=ev g t*ev u' t) (h3:∀ t,k*ev g t=ev U t*ev P t+ev W t*ev P' t) {a b:Rat} (ha1:lo<=a) (ha2:lo'<=a) (ha:a=lo\/a=lo') (hb1:b<=hi) (hb2:b<=hi') (hb:b=hi\/b=hi'):(a<b/\Qu7 g a b)↔∀ q,cq P lo hi q=cq P' lo' hi' q:=by
 have hc:=V.cut;have hc':=V'.cut;constructor
 ·rintro ⟨hab,hg⟩
  obtain ⟨g1,g2,g3⟩:=(V.has h1 ha1 hab hb1).1 hg;obtain ⟨g4,g5,g6⟩:=(V'.has h2 ha2 hab hb2).1 hg;intro q;refine (V.uniq hc' (by
   rcases Classical.em (lo=a) with e | e
   ·rw [e]; exact g5
   ·exact hc'.mono' (q:=lo) (r:=a) (by grind) (by omega)) (λh=>?_) (Sv hc' h1 g4) q).symm
  rcases Classical.em (b=hi) with e | e
  ·rw [<-e] at h; exact g6 h
  ·have:=hc'.mono b hi (by grind) g6; omega
 ·intro h;have hcc:cq P' lo' hi'=cq P lo hi:=funext λq=>(h q).symm
  have e1:cq P lo hi a=1:=by
   rcases ha with rfl | rfl
   ·exact No Ql
   ·rw [h]; exact No Ql
  have e2:cq P lo hi b≠1:=by
   rcases hb with rfl | rfl
   ·exact V.hi1
   ·rw [h]; exact V'.hi1
  have hab:a<b:=by
   rcases U4 b a with e | e
   ·rcases Classical.em (b=a) with e' | e'
    ·rw [e'] at e2; exact absurd e1 e2
    ·have:=hc.mono b a (by grind) e2; omega
   ·exact e
  have v1:=V.van;have v2:=V'.van;rw [hcc] at v2;have hg:Ec g (cq P lo hi):=by
   have a1:Ec (Ft U P) (cq P lo hi):=Sv hc (p:=P) (q:=U) (λt=>by rw [Uh]; grind) v1;have a2:Ec (Ft W P') (cq P lo hi):=Sv hc (p:=P') (q:=W) (λt=>by rw [Uh]; grind) v2;have a3:=Qhd (λt=>Fa t _ _) a1 a2;refine Qmt hc (k:=1 / k) (λt=>?_) a3;rw [Fa,Uh,Uh,<-h3];have:1 / k*(k*ev g t)=1 / k*k*ev g t:=by grind
   rw [this,show 1 / k*k=1 from Zf hk]; grind
  exact ⟨hab,(V.has h1 ha1 hab hb1).2 ⟨hg,e1,e2⟩⟩
end Orq
namespace Orq
theorem Q7q:∀ (M:Nat) (f:Nat->Nat),(∀ i,i<=M->f i<M)->∃ i j,i<j/\j<=M/\f i=f j
 | 0,f,h=>absurd (h 0 (Qk _)) (W0 _)
 |
  M+1,f,h=>by
  rcases Classical.em (∃ i,i<=M/\f i=f (M+1)) with ⟨i,h1,h2⟩ | hn
  ·exact ⟨i,M+1,by omega,Qk _,h2⟩
  ·have hne:∀ i,i<=M->f i≠f (M+1):=λi hi e=>hn ⟨i,hi,e⟩
   obtain ⟨i,j,h1,h2,h3⟩:=Q7q M (λi=>if f i=M then f (M+1) else f i) λi hi=>by
    have a1:=h i (by omega);have a2:=h (M+1) (Qk _);have a3:=hne i hi;show (if f i=M then f (M+1) else f i)<M
    split <;> omega
   refine ⟨i,j,h1,by omega,?_⟩;have a1:=hne i (by omega);have a2:=hne j h2
   split at h3 <;> split at h3 <;> omega
def dg (B k i:Nat):Nat:=k / B^i % B
theorem Qx9 (B k i:Nat):dg B k (i+1)=dg B (k / B) i:=by unfold dg; rw [Nat.pow_succ,Nat.mul_comm,Nat.div_div_eq_div_mul]
theorem Q5h {B:Nat}:∀ (N:Nat) {k k':Nat},k<B^N->k'<B^N->(∀ i,i<N->dg B k i=dg B k' i)->k=k'
 | 0,k,k',h,h',_=>by rw [Yw] at h h'; omega
 |
  N+1,k,k',h,h',he=>by
  have h0:=he 0 (by omega);unfold dg at h0;rw [Yw,Nat.div_one,Nat.div_one] at h0;have hB:0<B:=by
   rcases Qx B with e | e
   ·rw [e,Zl,Yo] at h; omega
   ·exact e
  have h1:=Q5h N (k:=k / B) (k':=k' / B) (Jc (by rw [Ze,<-Zl]; exact h)) (Jc (by rw [Ze,<-Zl]; exact h')) λi hi=>by
   rw [<-Qx9,<-Qx9]; exact he (i+1) (by omega)
  rw [<-Wx k B,<-Wx k' B,h0,h1]
def cd (B:Nat):Nat->(Nat->Nat)->Nat
 | 0,_=>0
 | E+1,x=>x 0+B*cd B E λe=>x (e+1)
theorem Ze9 {B:Nat}:∀ (E:Nat) {x:Nat->Nat},(∀ e,e<E->x e<B)->cd B E x<B^E
 | 0,_,_=>by simp [cd]
 |
  E+1,x,h=>by
  have h1:=h 0 (by omega);have h2:=Ze9 E (x:=λe=>x (e+1)) λe he=>h (e+1) (by omega)
  simp only [cd];have h3:B*cd B E (λe=>x (e+1))+B<=B*B^E:=by
   rw [<-V8]; exact Zg _ h2
  rw [Zl,Ze (B^E)]; omega
theorem Q44 {B:Nat}:∀ (E:Nat) {x y:Nat->Nat},(∀ e,e<E->x e<B)->(∀ e,e<E->y e<B)->cd B E x=cd B E y->∀ e,e<E->x e=y e
 | 0,_,_,_,_,_,e,he=>by omega
 |
  E+1,x,y,hx,hy,h,e,he=>by
  have h1:=hx 0 (by omega);have h2:=hy 0 (by omega);simp only [cd] at h;have e0:x 0=y 0:=by
   have:=congrArg (· % B) h;simp only [V2] at this;rwa [X8 h1,X8 h2] at this
  have e1:cd B E (λe=>x (e+1))=cd B E (λe=>y (e+1)):=Nat.eq_of_mul_eq_mul_left (by omega:0<B) (by omega);cases e with
  | zero=>exact e0
  | succ e=>exact Q44 E (λe he=>hx (e+1) (by omega)) (λe he=>hy (e+1) (by omega)) e1 e (by omega)
def sm:Nat->(Nat->Int)->Int
 | 0,_=>0
 | n+1,f=>sm n f+f n
theorem Q88 (f g:Nat->Int):∀ n,sm n (λi=>f i-g i)=sm n f-sm n g
 | 0=>rfl
 | n+1=>by simp only [sm,Q88 f g n]; omega
theorem B6 {f g:Nat->Int}:∀ n,(∀ i,i<n->f i=g i)->sm n f=sm n g
 | 0,_=>rfl
 | n+1,h=>by simp only [sm,B6 n (λi hi=>h i (by omega)),h n (by omega)]
theorem Q87 {f:Nat->Int} {b:Nat}:∀ n,(∀ i,i<n->(f i).natAbs<=b)->(sm n f).natAbs<=n*b
 | 0,_=>by simp [sm]
 |
  n+1,h=>by
  have h1:=Q87 n λi hi=>h i (by omega)
  have h2:=h n (by omega);simp only [sm];rw [Xb]; omega
theorem Qam {f:Nat->Int}:∀ n,(∀ i,i<n->f i=0)->sm n f=0
 | 0,_=>rfl
 | n+1,h=>by simp only [sm,Qam n (λi hi=>h i (by omega)),h n (by omega)]; rfl
theorem Qwl (f:Nat->Int) (m:Nat):∀ n,sm (m+n) f=sm m f+sm n λi=>f (m+i)
 | 0=>by simp [sm]
 | n+1=>by rw [<-J5]; simp only [sm,Qwl f m n]; omega
theorem Qwm (f:Nat->Int) (J:Nat):∀ b,sm (b*J) f=sm b λi=>sm J λj=>f (i*J+j)
 | 0=>by simp [sm]
 | b+1=>by rw [Xb,Qwl,Qwm f J b]; rfl
theorem Qjq {f:Nat->Int} {k:Nat}:∀ n,k<n->(∀ i,i<n->i≠k->f i=0)->sm n f=f k
 | 0,h,_=>by omega
 |
  n+1,h,h1=>by
  simp only [sm];rcases Y5 (Nat.le_of_lt_succ h) with e | e
  ·rw [Qjq n e λi hi=>h1 i (by omega),h1 n (by omega) (by omega)]; omega
  ·subst e; rw [Qam k λi hi=>h1 i (by omega) (by omega)]; omega
theorem Zif {M:Nat->Nat->Int} {h N E H:Nat} (hM:∀ e i,(M e i).natAbs<=h) (hc:(2*(N*(h*H))+1)^E<(H+1)^N) :
 ∃ v:Nat->Int,(∀ i,(v i).natAbs<=H)/\(∃ i,i<N/\v i≠0)/\∀ e,e<E->sm N (λi=>M e i*v i)=0:=by
 obtain ⟨T,hT⟩:=nmE (N*(h*H));rw [<-hT] at hc;have hv:∀ k i,dg (H+1) k i<=H:=λk i=>Nat.le_of_lt_succ (Xc _ (by omega))
 have hs:∀ k e,(sm N λi=>M e i*(dg (H+1) k i:Int)).natAbs<=T:=λk e=>by
  rw [hT];refine Q87 N λi _=>?_
  rw [Jv,Zx];exact Zi (hM e i) (hv k i)
 have him:∀ k e,((sm N λi=>M e i*(dg (H+1) k i:Int))+T).toNat<2*T+1:=λk e=>by have:=hs k e; omega
 obtain ⟨i,j,h1,h2,h3⟩:=Q7q ((2*T+1)^E) (λk=>cd (2*T+1) E λe=>((sm N λi=>M e i*(dg (H+1) k i:Int))+T).toNat) λk _=>Ze9 E λe _=>him k e
 have h4:=Q44 E (λe _=>him i e) (λe _=>him j e) h3;refine ⟨λn=>(dg (H+1) i n:Int)-dg (H+1) j n,λn=>?_,?_,λe he=>?_⟩
 ·have a1:=hv i n;have a2:=hv j n;show ((dg (H+1) i n:Int)-dg (H+1) j n).natAbs<=H;omega
 ·rcases Classical.em (∃ n,n<N/\(dg (H+1) i n:Int)-dg (H+1) j n≠0) with e | e
  ·exact e
  ·exfalso;have:i=j:=Q5h (B:=H+1) N (by omega) (by omega) λn hn=>by
    rcases Classical.em (dg (H+1) i n=dg (H+1) j n) with e' | e'
    ·exact e'
    ·exact absurd ⟨n,hn,by omega⟩ e
   omega
 ·have a1:=h4 e he;have a2:=hs i e;have a3:=hs j e;have:(sm N λn=>M e n*(dg (H+1) i n:Int))=sm N λn=>M e n*(dg (H+1) j n:Int):=by omega
  have e1:=Q88 (λn=>M e n*(dg (H+1) i n:Int)) (λn=>M e n*(dg (H+1) j n:Int)) N;rw [this] at e1;rw [B6 N (g:=λn=>M e n*(dg (H+1) i n:Int)-M e n*(dg (H+1) j n:Int)) λn _=>Int.mul_sub _ _ _,e1]; omega
def Uf:List Int->Rat->Rat
 | [],_=>0
 | a::p,t=>(a:Rat)+t*Uf p t
def sq:Nat->(Nat->Rat)->Rat
 | 0,_=>0
 | n+1,f=>sq n f+f n
theorem Ty {f g:Nat->Rat}:∀ n,(∀ i,i<n->f i=g i)->sq n f=sq n g
 | 0,_=>rfl
 | n+1,h=>by simp only [sq,Ty n (λi hi=>h i (by omega)),h n (by omega)]
theorem Qwr (f g:Nat->Rat):∀ n,sq n (λi=>f i+g i)=sq n f+sq n g
 | 0=>by simp only [sq]; grind
 | n+1=>by simp only [sq,Qwr f g n]; grind
theorem Ou (c:Rat) (f:Nat->Rat):∀ n,sq n (λi=>c*f i)=c*sq n f
 | 0=>by simp only [sq]; grind
 | n+1=>by simp only [sq,Ou c f n]; grind
theorem Ni {f:Nat->Rat}:∀ n,(∀ i,i<n->f i=0)->sq n f=0
 | 0,_=>rfl
 | n+1,h=>by simp only [sq,Ni n (λi hi=>h i (by omega)),h n (by omega)]; grind
theorem E4 (f:Nat->Rat):∀ n,sq (n+1) f=f 0+sq n λi=>f (i+1)
 | 0=>by simp only [sq]; grind
 | n+1=>by rw [sq,E4 f n]; simp only [sq]; grind
theorem Zfw {f:Nat->Rat} {b:Rat}:∀ n,(∀ i,i<n->Uk (f i)<=b)->Uk (sq n f)<=(n:Rat)*b
 | 0,_=>by rw [show ((0:Nat):Rat)=0 from rfl]; simp only [sq,Hg]; grind
 |
  n+1,h=>by
  have h1:=Zfw n λi hi=>h i (by omega)
  have h2:=h n (by omega);have h3:=Tc (sq n f) (f n);have hn':(((n+1:Nat):Rat))=(n:Rat)+1:=by push_cast; rfl
  rw [hn']; simp only [sq]; clear h; grind
def gc:List Int->Nat->Nat->Int
 | [],_,_=>0
 | c::B,k,j=>(if k=0/\j=0 then c else 0)+(if k=0 then 0 else gc B (k-1) j)-(if j=0 then 0 else gc B k (j-1))
def gB:List Int->Nat
 | []=>0
 | c::B=>max c.natAbs (2*gB B)
theorem Qgr:∀ (B:List Int) (k j:Nat),B.length<=k+j->gc B k j=0
 | [],_,_,_=>rfl
 |
  c::B,k,j,h=>by
  simp only [Q9] at h;simp only [gc];rw [if_neg (by omega)];have e1:(if k=0 then 0 else gc B (k-1) j)=0:=by
   split
   ·rfl
   ·exact Qgr B _ _ (by omega)
  have e2:(if j=0 then 0 else gc B k (j-1))=0:=by
   split
   ·rfl
   ·exact Qgr B _ _ (by omega)
  rw [e1,e2]; rfl
theorem Q6a:∀ (B:List Int) (k j:Nat),(gc B k j).natAbs<=gB B
 | [],_,_=>Qi _
 |
  c::B,k,j=>by
  have h1:=Q6a B (k-1) j;have h2:=Q6a B k (j-1);simp only [gc,gB];by_cases hk:k=0 <;> by_cases hj:j=0 <;> simp only [hk,hj,true_and,and_true,false_and,and_false,if_true,if_false] <;> (try subst hk) <;> (try subst hj) <;> omega
theorem Q6b:∀ (B:List Int) (b:Nat),B.length=b+1->(gc B 0 b).natAbs=(B.getD b 0).natAbs
 | [],_,h=>by simp at h
 | [c],0,_=>by simp [gc]
 | c::d::B,0,h=>by simp at h
 |
  c::B,b+1,h=>by
  have ih:=Q6b B b (by simpa using h);simp only [gc];simp only [J6,Q0];rw [if_pos trivial,if_neg (Nat.succ_ne_zero b),<-ih]; omega
def E2 (F:Nat->Nat->Int) (K J:Nat) (x y:Rat):Rat:=sq K λk=>sq J λj=>(F k j:Rat)*(y^k*x^j)
theorem Quw (F G:Nat->Nat->Int) (K J:Nat) (x y:Rat):E2 (λk j=>F k j+G k j) K J x y=E2 F K J x y+E2 G K J x y:=by
 unfold E2;rw [<-Qwr];refine Ty K λk _=>?_
 rw [<-Qwr];exact Ty J λj _=>by push_cast; grind
theorem Q5q (c:Int) (F:Nat->Nat->Int) (K J:Nat) (x y:Rat):E2 (λk j=>F k j*c) K J x y=(c:Rat)*E2 F K J x y:=by
 unfold E2;rw [<-Ou];refine Ty K λk _=>?_
 rw [<-Ou];exact Ty J λj _=>by push_cast; grind
theorem Q5r (φ:Nat->Nat->Nat->Int) (v:Nat->Int) (K J:Nat) (x y:Rat):∀ N,E2 (λk j=>sm N λn=>φ n k j*v n) K J x y=sq N λn=>(v n:Rat)*E2 (φ n) K J x y
 |
  0=>by
  simp only [sq,sm];unfold E2;refine Ni K λk _=>Ni J λj _=>?_
  rw [show ((0:Int):Rat)=0 from rfl]; grind
 |
  N+1=>by
  simp only [sq];rw [<-Q5r φ v K J x y N,<-Q5q,<-Quw];rfl
theorem Qc5 (t:Rat) (i:Nat):∀ k,t^(i+k)=t^i*t^k
 | 0=>by rw [Xy,Xd]; grind
 | k+1=>by rw [<-J5,Z0,Z0,Qc5 t i k]; grind
theorem Qjs (f:Nat->Rat):∀ (i n:Nat),sq (i+n) (λk=>if i<=k then f (k-i) else 0)=sq n f
 | i,0=>Ni _ λk hk=>by rw [if_neg (by omega)]
 |
  i,n+1=>by
  rw [<-J5]; simp only [sq];rw [Qjs f i n,if_pos (by omega),Jn]
def shF (i j':Nat) (F:Nat->Nat->Int) (k j:Nat):Int:=if i<=k then (if j'<=j then F (k-i) (j-j') else 0) else 0
theorem Qif (F:Nat->Nat->Int) (i j' K J:Nat) (x y:Rat):E2 (shF i j' F) (i+K) (j'+J) x y=y^i*x^j'*E2 F K J x y:=by
 unfold E2;rw [<-Ou,<-Qjs _ i K];refine Ty _ λk _=>?_
 by_cases hk:i<=k
 ·rw [if_pos hk,<-Ou,<-Qjs _ j' J];refine Ty _ λj _=>?_
  unfold shF;rw [if_pos hk];by_cases hj:j'<=j
  ·rw [if_pos hj,if_pos hj];have e1:y^k=y^i*y^(k-i):=by rw [<-Qc5]; congr 1; omega
   have e2:x^j=x^j'*x^(j-j'):=by rw [<-Qc5]; congr 1; omega
   rw [e1,e2]; grind
  ·rw [if_neg hj,if_neg hj,show ((0:Int):Rat)=0 from rfl]; grind
 ·rw [if_neg hk];refine Ni _ λj _=>?_
  unfold shF;rw [if_neg hk,show ((0:Int):Rat)=0 from rfl]; grind
def fA (A:List Int) (k j:Nat):Int:=if j=0 then A.getD k 0 else 0
theorem Q7o (y:Rat):∀ (A:List Int) (K:Nat),A.length<=K->sq K (λk=>((A.getD k 0:Int):Rat)*y^k)=Uf A y
 | [],K,_=>by rw [Ni]; rfl; intro i _; simp
 | a::A,0,h=>by simp at h
 |
  a::A,K+1,h=>by
  have ih:=Q7o y A K (by simpa using h);rw [E4];simp only [Uf,Zp,Q0,Xd];rw [<-ih,<-Ou];have:(sq K λi=>((A.getD i 0:Int):Rat)*y^(i+1))=sq K λi=>y*(((A.getD i 0:Int):Rat)*y^i):=Ty K λi _=>by rw [Z0]; grind
  rw [this]; grind
theorem Zj3 (A:List Int) (K J:Nat) (x y:Rat) (h:A.length<=K):E2 (fA A) K (J+1) x y=Uf A y:=by
 rw [<-Q7o y A K h];refine Ty K λk _=>?_
 rw [E4,Ni]
 ·simp only [fA,if_true,Xd]; grind
 ·intro j _;simp only [fA];rw [if_neg (by omega),show ((0:Int):Rat)=0 from rfl]; grind
theorem Zg7 (x y:Rat):∀ (B:List Int) (K J:Nat),B.length<=K->B.length<=J->E2 (gc B) K J x y=Uf B (y-x)
 |
  [],K,J,_,_=>by
  unfold E2;simp only [gc,Uf];exact Ni K λk _=>Ni J λj _=>by rw [show ((0:Int):Rat)=0 from rfl]; grind
 | c::B,0,J,h,_=>by simp at h
 | c::B,K+1,0,_,h=>by simp at h
 |
  c::B,K+1,J+1,h1,h2=>by
  have i1:=Zg7 x y B K (J+1) (by simpa using h1) (by simp at h2; omega);have i2:=Zg7 x y B (K+1) J (by simp at h1; omega) (by simpa using h2);have s1:=Qif (gc B) 1 0 K (J+1) x y;have s2:=Qif (gc B) 0 1 (K+1) J x y;rw [Zz,Yd 1 K] at s1;rw [Zz,Yd 1 J] at s2;rw [i1] at s1;rw [i2] at s2;have e0:E2 (fA [c]) (K+1) (J+1) x y=(c:Rat):=by rw [Zj3 [c] (K+1) J x y (by simp)]; simp only [Uf]; grind
  have e1:gc (c::B)=λk j=>(fA [c] k j+shF 1 0 (gc B) k j)+shF 0 1 (gc B) k j*(-1):=by
   funext k j;simp only [gc,fA,shF];by_cases hk:k=0 <;> by_cases hj:j=0
   ·subst hk; subst hj; simp
   ·subst hk; simp [hj,show 1<=j by omega]
    try omega
   ·subst hj;obtain ⟨m,rfl⟩:∃ m,k=m+1:=⟨k-1,by omega⟩;simp
   ·obtain ⟨m,rfl⟩:∃ m,k=m+1:=⟨k-1,by omega⟩;obtain ⟨i,rfl⟩:∃ i,j=i+1:=⟨j-1,by omega⟩;simp; omega
  rw [e1,Quw (λk j=>fA [c] k j+shF 1 0 (gc B) k j) (λk j=>shF 0 1 (gc B) k j*(-1)),Quw (fA [c]) (shF 1 0 (gc B)),Q5q,e0,s1,s2];simp only [Uf,Xd,show y^1=y by rw [Z0,Xd]; grind,show x^1=x by rw [Z0,Xd]; grind];rw [show (((-1:Int)):Rat)=-1 from rfl];grind
def phi (A B:List Int) (b J J' n k j:Nat):Int:=if n<b*J then shF (n / J) (n % J) (fA A) k j else shF ((n-b*J) / J') ((n-b*J) % J') (gc B) k j
theorem Q82 {F:Nat->Nat->Int} {h:Nat} (hF:∀ k j,(F k j).natAbs<=h) (i j' k j:Nat):(shF i j' F k j).natAbs<=h:=by
 unfold shF; split
 ·split
  ·exact hF _ _
  ·exact Qi _
 ·exact Qi _
theorem Zfl {i b J j:Nat} (hi:i<b) (hj:j<J):i*J+j<b*J:=by
 have:(i+1)*J<=b*J:=Qw J hi;rw [Xb] at this; omega
theorem Qei {i J j:Nat} (hj:j<J):(i*J+j) / J=i/\(i*J+j) % J=j:=by
 rw [Ze,Wy (by omega),Wz,Vr hj,X8 hj]; exact ⟨by omega,rfl⟩
theorem Qmm (A B:List Int) (a b J J':Nat) (v:Nat->Int) (k j:Nat):sm (b*J+a*J') (λn=>phi A B b J J' n k j*v n) =
 (sm b λi=>sm J λj1=>shF i j1 (fA A) k j*v (i*J+j1))+sm a λi=>sm J' λj1=>shF i j1 (gc B) k j*v (b*J+(i*J'+j1)):=by
 rw [Qwl,Qwm,Qwm];congr 1
 ·refine B6 b λi hi=>B6 J λj1 hj=>?_
  unfold phi;rw [if_pos (Zfl hi hj),(Qei hj).1,(Qei hj).2]
 ·refine B6 a λi hi=>B6 J' λj1 hj=>?_
  unfold phi;rw [if_neg (by omega),Jn,(Qei hj).1,(Qei hj).2]
theorem Zjw (A:List Int) (v:Nat->Int) {i J k j:Nat} (hj:j<J):(sm J λj1=>shF i j1 (fA A) k j*v (i*J+j1))=if i<=k then A.getD (k-i) 0*v (i*J+j) else 0:=by
 rw [Qjq (k:=j) J hj λj1 _ hne=>?_]
 ·unfold shF fA;by_cases h:i<=k
  ·rw [if_pos h,if_pos h,if_pos (Qk _),if_pos (Ye _)]
  ·rw [if_neg h,if_neg h,J3]
 ·unfold shF fA;by_cases h:i<=k
  ·rw [if_pos h];by_cases h':j1<=j
   ·rw [if_pos h',if_neg (by omega),J3]
   ·rw [if_neg h',J3]
  ·rw [if_neg h,J3]
section
variable {A B:List Int} {a b J J':Nat} (hA:A.length=a+1) (hB:B.length=b+1) (lA:A.getD a 0≠0) (lB:B.getD b 0≠0) (hJ:J=J'+b) {v:Nat->Int} (hW:∀ k j,k<a+b->j<J->sm (b*J+a*J') (λn=>phi A B b J J' n k j*v n)=0)
include hA lA hW in
theorem Zfb {jj:Nat} (hj:jj<J) (hV:∀ k,a<=k->k<a+b->(sm a λi=>sm J' λj1=>shF i j1 (gc B) k jj*v (b*J+(i*J'+j1)))=0):∀ d i,i<b->b-i<=d->v (i*J+jj)=0:=by
 intro d
 induction d with
 | zero=>intro i hi hd; omega
 |
  succ d ih =>
  intro i hi hd;have h1:=hW (i+a) jj (by omega) hj;rw [Qmm,hV (i+a) (by omega) (by omega)] at h1;rw [B6 b (λi' hi'=>Zjw A v hj)] at h1;rw [Qjq (k:=i) b hi λi' hi' hne=>?_] at h1
  ·rw [if_pos (by omega),Jn,Int.add_zero] at h1;rcases Ya.1 h1 with h2 | h2
   ·exact absurd h2 lA
   ·exact h2
  ·rcases Q5 i i' with h | h
   ·rw [ih i' hi' (by omega)]; simp
   ·rw [if_pos (by omega),Qg,Qp (by omega)]; simp
include hA hB lA lB hJ hW in
theorem Zj1:∀ d js,js<J'->J'-js<=d->∀ i,i<a->v (b*J+(i*J'+js))=0:=by
 intro d
 induction d with
 | zero=>intro js hi hd; omega
 |
  succ d ih =>
  intro js hjs hd i hi;have hin:∀ i' k,i'<a->(sm J' λj1=>shF i' j1 (gc B) k (js+b)*v (b*J+(i'*J'+j1)))=if i'=k then gc B 0 b*v (b*J+(i'*J'+js)) else 0:=λi' k hi'=>by
   rw [Qjq (k:=js) J' hjs λj1 hj1 hne=>?_]
   ·unfold shF;by_cases h:i'<=k
    ·rw [if_pos h,if_pos (by omega),Jn];by_cases h':i'=k
     ·rw [if_pos h',h',Ye]
     ·rw [if_neg h',Qgr B _ _ (by omega),J3]
    ·rw [if_neg h,if_neg (by omega),J3]
   ·rcases Q5 js j1 with h | h
    ·rw [ih j1 hj1 (by omega) i' hi',Vk]
    ·unfold shF;by_cases h':i'<=k
     ·rw [if_pos h',if_pos (by omega),Qgr B _ _ (by omega),J3]
     ·rw [if_neg h',J3]
  have hU:=Zfb hA lA hW (jj:=js+b) (by omega) (λk hk hk'=>Qam a λi' hi'=>by rw [hin i' k hi',if_neg (by omega)]) (b+1);have h1:=hW i (js+b) (by omega) (by omega);rw [Qmm,B6 a (λi' hi'=>hin i' i hi')] at h1;rw [Qam b λi' hi'=>by
   rw [Zjw A v (by omega),hU i' hi' (by omega)]; simp] at h1
  rw [Qjq (k:=i) a hi λi' hi' hne=>if_neg hne,if_pos rfl,Int.zero_add] at h1;rcases Ya.1 h1 with h2 | h2
  ·have:=Q6b B b hB; rw [h2] at this; omega
  ·exact h2
include hA hB lA lB hJ hW in
theorem Q29:∀ n,n<b*J+a*J'->v n=0:=by
 intro n hn;have hV:=Zj1 hA hB lA lB hJ hW;rcases Q5 n (b*J) with h | h
 ·have hJp:0<J:=by
   rcases Qx J with e | e
   ·rw [e,Yo] at h; omega
   ·exact e
  have e1:=Xc n hJp;have e2:n / J<b:=Jc (by rw [Ze]; exact h);have:=Zfb hA lA hW e1 (λk _ _=>Qam a λi hi=>Qam J' λj1 hj1=>by rw [hV J' j1 hj1 (by omega) i hi,Vk]) (b+1) (n / J) e2 (Qa (Nat.sub_le _ _) (Nat.le_succ _));rwa [Ze,Xf] at this
 ·have hJp:0<J':=by
   rcases Qx J' with e | e
   ·rw [e,Yo] at hn; omega
   ·exact e
  have e1:=Xc (n-b*J) hJp;have e2:(n-b*J) / J'<a:=Jc (by rw [Ze J' a]; omega);have:=hV J' _ e1 (by omega) _ e2;rw [Ze ((n-b*J) / J'),Xf] at this;rwa [show b*J+(n-b*J)=n by omega] at this
end
theorem Qah {R x:Rat} (h1:1<=R) (hx:Uk x<=R):∀ k:Nat,Uk (x^k)<=R^k/\1<=R^k
 | 0=>by rw [Xd,Xd]; exact ⟨by decide,by decide⟩
 |
  k+1=>by
  obtain ⟨i1,i2⟩:=Qah h1 hx k;rw [Z0,Z0];have:=S6 (a:=1) (c:=1) (by decide) i2 (by decide) h1;exact ⟨Fz i1 hx,by grind⟩
theorem Qz0 {R:Rat} (h1:1<=R) {i:Nat}:∀ k,i<=k->R^i<=R^k
 | 0,h=>by rw [show i=0 by omega]; exact Ql
 |
  k+1,h=>by
  rcases Y5 h with e | e
  ·have:=Qz0 h1 (i:=i) k (by omega);have h2:=(Qah h1 (x:=0) (by rw [Hg]; grind) k).2;rw [Z0];have:=S6 (a:=R^k) (b:=R^k) (c:=1) (d:=R) (by grind) Ql (by decide) h1;grind
  ·rw [e]; exact Ql
theorem Q81 {F:Nat->Nat->Int} {i j' K J:Nat} {x y R X:Rat} {K2 J2:Nat} (h1:1<=R) (hx:Uk x<=R) (hy:Uk y<=R) (hK:K=i+K2) (hJ:J=j'+J2) (hF:E2 F K2 J2 x y=X):Uk (E2 (shF i j' F) K J x y)<=R^(K+J)*Uk X:=by
 subst hK; subst hJ;rw [Qif,hF,Cx];have a1:=(Qah h1 hy i).1;have a2:=(Qah h1 hx j').1;have a3:=Fz a1 a2;rw [<-Qc5] at a3;have a4:=Qz0 h1 (i:=i+j') (i+K2+(j'+J2)) (by omega);exact S6 (Gs _) (Q6 a3 a4) (Gs _) Ql
theorem Zia {A B:List Int} {a b h:Nat} (hA:A.length=a+1) (hB:B.length=b+1) (lA:A.getD a 0≠0) (lB:B.getD b 0≠0) (ha:0<a) (hb:0<b) (h0:1<=h) (bA:∀ k,(A.getD k 0).natAbs<=h) (bB:gB B<=h) {J J' N H:Nat} (hJ:J=2*(a*b)) (hJ':J=J'+b) (hN:N=b*J+a*J') (hH:H=(2*(N*h))^(2*(a+b-1))) :
 ∃ w:Nat->Int,(∃ j,j<J/\w j≠0)/\(∀ j,(w j).natAbs<=N*(h*H))/\∀ R:Rat,1<=R->∃ C:Rat,0<=C/\∀ x y,Uk x<=R->Uk y<=R->Uk (sq J λj=>(w j:Rat)*x^j)<=C*(Uk (Uf A y)+Uk (Uf B (y-x))):=by
 have hab:0<a*b:=J4 ha hb;have hbd:∀ n k j,(phi A B b J J' n k j).natAbs<=h:=λn k j=>by
  unfold phi
  split
  ·exact Q82 (λk j=>by unfold fA; split; exact bA k; exact Nat.zero_le _) _ _ _ _
  ·exact Q82 (λk j=>Qa (Q6a B k j) bB) _ _ _ _
 have hJp:0<J:=by omega
 have hNp:1<=N:=by
  have:0<b*J:=J4 hb hJp;omega
 have hNh:1<=N*h:=J4 hNp h0;obtain ⟨E,hE⟩:=nmE ((a+b-1)*J);have hNE:N=E+a*b:=by
  have e1:(a+b-1)*J+J=(a+b)*J:=by
   rw [<-Xb]; congr 1; omega
  have e2:a*J=a*J'+a*b:=by rw [hJ',Xo]
  rw [Jj] at e1;omega
 have hc:(2*(N*(h*H))+1)^E<(H+1)^N:=by
  have c1:2*(N*(h*H))+1<=2*(N*h)*(H+1):=by
   rw [Xo,Yn,Xn 2,Xn N]; omega
  refine Zy (Nat.pow_le_pow_left c1 E) ?_;rw [Nat.mul_pow,hNE,Xe,Ze];refine Nat.mul_lt_mul_of_pos_left ?_ (Zv (by omega));have e1:(2*(N*h))^E=H^(a*b):=by
   rw [hH,<-W7,hE,hJ]; congr 1;rw [Ze 2 (a+b-1),Xn]
  rw [<-hNE,e1];exact Nat.pow_lt_pow_left (by omega) (by omega)
 obtain ⟨v,v1,⟨n0,n1,n2⟩,v3⟩:=Zif (M:=λe n=>phi A B b J J' n (e / J+1) (e % J)) (h:=h) (N:=N) (E:=E) (H:=H) (λe n=>hbd n _ _) hc;have hW:∀ k j,1<=k->k<a+b->j<J->sm N (λn=>phi A B b J J' n k j*v n)=0:=λk j k1 k2 hj=>by
  have:=v3 ((k-1)*J+j) (by rw [hE]; exact Zfl (by omega) hj);rwa [(Qei hj).1,(Qei hj).2,show k-1+1=k by omega] at this
 refine ⟨λj=>sm N λn=>phi A B b J J' n 0 j*v n,?_,λj=>?_,λR hR=>?_⟩
 ·rcases Classical.em (∃ j,j<J/\(sm N λn=>phi A B b J J' n 0 j*v n)≠0) with e | e
  ·exact e
  ·exfalso;refine n2 (Q29 hA hB lA lB hJ' (v:=v) (λk j hk hj=>?_) n0 (by rw [<-hN]; exact n1));rw [<-hN];rcases Qx k with e' | e'
   ·subst e';rcases Classical.em ((sm N λn=>phi A B b J J' n 0 j*v n)=0) with e2 | e2
    ·exact e2
    ·exact absurd ⟨j,hj,e2⟩ e
   ·exact hW k j e' hk hj
 ·refine Q87 N λn _=>?_
  rw [Jv];exact Zi (hbd n 0 j) (v1 n)
 ·have hRp:∀ k:Nat,1<=R^k:=λk=>(Qah hR (x:=0) (by rw [Hg]; grind) k).2
  have hHn:(0:Rat)<=(H:Rat):=Xm;have hNn:(0:Rat)<=(N:Rat):=Xm;refine ⟨(N:Rat)*((H:Rat)*R^(a+b+J)),Pq hNn (Pq hHn (by have:=hRp (a+b+J); grind)),λx y hx hy=>?_⟩;have e1:(sq J λj=>((sm N λn=>phi A B b J J' n 0 j*v n:Int):Rat)*x^j)=E2 (λk j=>sm N λn=>phi A B b J J' n k j*v n) (a+b) J x y:=by
   unfold E2;obtain ⟨m,hm⟩:∃ m,a+b=m+1:=⟨a+b-1,by omega⟩;rw [hm,E4,Ni (n:=m)]
   ·have:(sq J λj=>((sm N λn=>phi A B b J J' n 0 j*v n:Int):Rat)*(y^0*x^j))=sq J λj=>((sm N λn=>phi A B b J J' n 0 j*v n:Int):Rat)*x^j:=Ty J λj _=>by rw [Xd]; grind
    rw [this]; grind
   ·intro k hk;refine Ni J λj hj=>?_
    show ((sm N λn=>phi A B b J J' n (k+1) j*v n:Int):Rat)*_=0;rw [hW (k+1) j (by omega) (by omega) hj,show ((0:Int):Rat)=0 from rfl]; grind
  rw [e1,Q5r];have key:∀ n,n<N->Uk ((v n:Rat)*E2 (phi A B b J J' n) (a+b) J x y)<=(H:Rat)*(R^(a+b+J)*(Uk (Uf A y)+Uk (Uf B (y-x)))):=λn hn=>by
   have hvn:Uk (v n:Rat)<=(H:Rat):=by
    have h1:=v1 n;have h2:(v n)<=(H:Int):=by omega
    have h3:-(H:Int)<=v n:=by omega
    have h2:=Ji.2 h2;have h3:=Ji.2 h3;rw [Y7] at h3;rw [Ru]; exact ⟨h3,h2⟩
   refine Fz hvn ?_;have hRk:=hRp (a+b+J);have n1:=Gs (Uf A y);have n2:=Gs (Uf B (y-x));rcases Q5 n (b*J) with h | h
   ·have e:phi A B b J J' n=shF (n / J) (n % J) (fA A):=by funext k j; unfold phi; rw [if_pos h]
    have d1:n / J<b:=Jc (by rw [Ze]; exact h);have d2:=Xc n hJp;rw [e];refine Q6 (Q81 (K2:=a+b-n / J) (J2:=J-n % J) hR hx hy (by omega) (by omega) (X:=Uf A y) ?_) (S6 (by grind) Ql n1 (by grind));obtain ⟨m,hm⟩:∃ m,J-n % J=m+1:=⟨J-n % J-1,by omega⟩;rw [hm]; exact Zj3 A _ _ x y (by omega)
   ·have e:phi A B b J J' n=shF ((n-b*J) / J') ((n-b*J) % J') (gc B):=by funext k j; unfold phi; rw [if_neg (by omega)]
    have hJp':0<J':=by
     rcases Qx J' with e | e
     ·rw [e,Yo] at hN; omega
     ·exact e
    have d1:(n-b*J) / J'<a:=Jc (by rw [Ze J' a]; omega);have d2:=Xc (n-b*J) hJp';rw [e];refine Q6 (Q81 (K2:=a+b-(n-b*J) / J') (J2:=J-(n-b*J) % J') hR hx hy (by omega) (by omega) (X:=Uf B (y-x)) ?_) (S6 (by grind) Ql n2 (by grind));exact Zg7 x y B _ _ (by omega) (by omega)
  have:=Zfw N key;refine Q6 this ?_;have:(N:Rat)*((H:Rat)*(R^(a+b+J)*(Uk (Uf A y)+Uk (Uf B (y-x)))))=(N:Rat)*((H:Rat)*R^(a+b+J))*(Uk (Uf A y)+Uk (Uf B (y-x))):=by grind
  rw [this]; exact Ql
end Orq
namespace Orq
theorem Q9a {w:Nat->Int} {x:Rat} {D:Rat} (hx:Uk x*2<=1) (hw:∀ j,Uk (w j:Rat)<=D):∀ J (k:Nat),Uk (sq J λj=>(w (k+j):Rat)*x^j)<=2*D
 | 0,k=>by have:=hw 0; have:=Gs (w 0:Rat); simp only [sq,Hg]; clear hw; grind
 |
  J+1,k=>by
  have ih:=Q9a hx hw J (k+1);rw [E4];have e:(sq J λi=>(w (k+(i+1)):Rat)*x^(i+1))=x*sq J λi=>(w (k+1+i):Rat)*x^i:=by
   rw [<-Ou]; exact Ty J λi _=>by rw [Z0,show k+(i+1)=k+1+i by omega]; grind
  rw [e,Xd,Xy];have h1:=hw k;have h2:=Tc ((w k:Rat)*1) (x*sq J λi=>(w (k+1+i):Rat)*x^i);have h3:=Fz (x:=x) (y:=sq J λi=>(w (k+1+i):Rat)*x^i) Ql ih;have h4:=Q3 hx (show (0:Rat)<=D by have:=Gs (w k:Rat); clear hw; grind);have h5:(w k:Rat)*1=w k:=by grind
  rw [h5] at h2 ⊢;clear hw; grind
theorem Ay {z:Int} (h:z≠0):1<=Uk (z:Rat):=by
 unfold Uk;rcases V5 h with h | h
 ·have:((z:Int):Rat)<((0:Int):Rat):=X6.2 h;have h2:((1:Int):Rat)<=((-z:Int):Rat):=Ji.2 (by omega);rw [if_pos (by simpa using this)];rw [Y7] at h2;simpa using h2
 ·have:((0:Int):Rat)<((z:Int):Rat):=X6.2 h;have h2:((1:Int):Rat)<=((z:Int):Rat):=Ji.2 (by omega);rw [if_neg (by
   have:(0:Rat)<z:=by simpa using this
   grind)]
  simpa using h2
theorem Qvg {w:Nat->Int} {x:Rat} {D:Rat} (hD:1<=D) (hx0:0<Uk x) (hx:Uk x*(4*D)<=1) (hw:∀ j,Uk (w j:Rat)<=D):∀ J (k:Nat),(∃ j,j<J/\w (k+j)≠0)->Uk x^J / 2<=Uk (sq J λj=>(w (k+j):Rat)*x^j)
 | 0,k,⟨j,h,_⟩=>by omega
 |
  J+1,k,⟨j,h1,h2⟩=>by
  have hx2:Uk x*2<=1:=by
   have:=S6 (a:=Uk x) (c:=2) (Qm hx0) Ql (by decide) (show (2:Rat)<=4*D by clear hw; grind);exact Q6 this hx
  have hx1:Uk x<=1:=by clear hw; grind
  have hp:∀ k:Nat,Uk x^k<=1/\0<=Uk x^k:=λk=>by
   induction k with
   | zero=>rw [Xd]; exact ⟨by decide,by decide⟩
   |
    succ k ih =>
    rw [Z0];have:=S6 ih.2 ih.1 (Qm hx0) hx1;have:=Pq ih.2 (Qm hx0);constructor <;> (clear hw; grind)
  rw [E4];have e:(sq J λi=>(w (k+(i+1)):Rat)*x^(i+1))=x*sq J λi=>(w (k+1+i):Rat)*x^i:=by
   rw [<-Ou]; exact Ty J λi _=>by rw [Z0,show k+(i+1)=k+1+i by omega]; grind
  rw [e,Xd,Xy k,show (w k:Rat)*1=w k by grind];by_cases h0:w k=0
  ·have hj:j≠0:=λe=>h2 (by rw [e]; exact h0)
   have ih:=Qvg hD hx0 hx hw J (k+1) ⟨j-1,by omega,by rw [show k+1+(j-1)=k+j by omega]; exact h2⟩;rw [h0,show ((0:Int):Rat)+x*(sq J λi=>(w (k+1+i):Rat)*x^i)=x*sq J λi=>(w (k+1+i):Rat)*x^i by rw [show ((0:Int):Rat)=0 from rfl]; grind,Cx,Z0];have:=Zm ih (Qm hx0);have e2:Uk x*(Uk x^J / 2)=Uk x^J*Uk x / 2:=by rw [J8,J8]; grind
   rw [e2] at this; exact this
  ·have a1:=Ay h0;have a2:=Q9a hx2 hw J (k+1);have a3:=Fz (x:=x) (y:=sq J λi=>(w (k+1+i):Rat)*x^i) Ql a2;have a4:=Tc ((w k:Rat)+x*sq J λi=>(w (k+1+i):Rat)*x^i) (-(x*sq J λi=>(w (k+1+i):Rat)*x^i));rw [Cy,show (w k:Rat)+(x*sq J λi=>(w (k+1+i):Rat)*x^i)+-(x*sq J λi=>(w (k+1+i):Rat)*x^i)=w k by grind] at a4;have a5:=(hp (J+1)).1;have a6:Uk x^(J+1) / 2*2=Uk x^(J+1):=Fe (by decide);have a7:Uk x*(2*D)*2=Uk x*(4*D):=by grind
   clear hw hp; grind
theorem Zhf {A B:List Int} {a b h:Nat} (hA:A.length=a+1) (hB:B.length=b+1) (lA:A.getD a 0≠0) (lB:B.getD b 0≠0) (ha:0<a) (hb:0<b) (h0:1<=h) (bA:∀ k,(A.getD k 0).natAbs<=h) (bB:gB B<=h) {N D:Nat} (hN:b*(2*(a*b))+a*(2*(a*b)-b)=N) (hD:N*(h*(2*(N*h))^(2*(a+b-1)))<=D) {R d:Rat} (hR:1<=R) (dp:0<d)
 (hs:∀ e:Rat,0<e->∃ q r,Uk q<=R/\Uk r<=R/\d<=Uk (q-r)/\Uk (q-r)*(4*(D:Rat))<=1/\Uk (Uf A q)<e/\Uk (Uf B r)<e):False:=by
 have hab:0<a*b:=J4 ha hb;have hbab:b<=a*b:=by
  have:=Qw b (show 1<=a from ha); omega
 obtain ⟨w,⟨j,hj,hw0⟩,hw,hC⟩:=Zia hA hB lA lB ha hb h0 bA bB (J:=2*(a*b)) (J':=2*(a*b)-b) rfl (by omega) hN.symm rfl;obtain ⟨C,hC0,hC⟩:=hC (2*R) (by grind);have hw':∀ j,Uk (w j:Rat)<=(D:Rat):=λj=>by
  have h1:=Qa (hw j) hD;have h2:w j<=(D:Int):=by omega
  have h3:-(D:Int)<=w j:=by omega
  have h2:=Ji.2 h2;have h3:=Ji.2 h3;rw [Y7] at h3;rw [Ru]; exact ⟨h3,h2⟩
 have hD1:(1:Rat)<=(D:Rat):=by
  have:=Ay hw0;exact Q6 this (hw' j)
 have hdJ:0<d^(2*(a*b)) / 2:=Nx (Rat.pow_pos dp) (by decide);obtain ⟨e,ep,_,he⟩:=Gd (b:=C*2) (d:=d^(2*(a*b)) / 2) (by grind) hdJ;obtain ⟨q,r,q1,r1,d1,d2,aq,br⟩:=hs e ep;have h1:=hC (q-r) q (by
  have:=Tc q (-r); rw [Cy] at this; have:q-r=q+-r:=by grind
  grind) (by grind)
 rw [show q-(q-r)=r by grind] at h1;have h2:=Qvg (x:=q-r) hD1 (by grind) d2 hw' (2*(a*b)) 0 ⟨j,hj,by rw [Zz]; exact hw0⟩;simp only [Zz] at h2;have h3:C*(Uk (Uf A q)+Uk (Uf B r))<=C*(e+e):=Zm (by grind) hC0;have h4:d^(2*(a*b))<=Uk (q-r)^(2*(a*b)):=by
  generalize 2*(a*b)=J
  induction J with
  | zero=>rw [Xd,Xd]; exact Ql
  |
   succ J ih =>
   rw [Z0,Z0];exact S6 (Qm (Rat.pow_pos dp)) ih (Qm dp) d1
 have h5:d^(2*(a*b)) / 2*2=d^(2*(a*b)):=Fe (by decide);have h6:Uk (q-r)^(2*(a*b)) / 2*2=Uk (q-r)^(2*(a*b)):=Fe (by decide);clear hC hs hw hw';grind
def HD (p:List Rat) (n:Nat):Prop:=p.getD n 0≠0/\∀ k,n<k->p.getD k 0=0
theorem Hb:∀ (p q:List Rat) (k:Nat),(H5 p q).getD k 0=p.getD k 0+q.getD k 0
 | [],q,k=>by simp only [H5,Kf]; grind
 | a::p,[],k=>by simp only [H5,Kf]; grind
 | a::p,b::q,0=>by simp only [H5,Zp]
 | a::p,b::q,k+1=>by simp only [H5,Q0]; exact Hb p q k
theorem H3 (c:Rat):∀ (p:List Rat) (k:Nat),(Pv c p).getD k 0=c*p.getD k 0
 | [],k=>by simp only [Pv,Jb,Kf]; grind
 | a::p,0=>by simp [Pv]
 | a::p,k+1=>by have:=H3 c p k; simp only [Pv,Zw,Q0] at *; exact this
theorem Q6j {p:List Rat} {k:Nat} (h:∀ x∈p,x=0):p.getD k 0=0:=by
 rw [Qg];cases e:p[k]? with
 | none=>rfl
 | some x=>exact h x (Qc e)
theorem M3 {p q:List Rat} (h:∀ t,ev p t=ev q t) (k:Nat):p.getD k 0=q.getD k 0:=by
 have h1:=Q6j (k:=k) (Qbv (p:=H5 p (Pv (-1) q)) λt _ _=>by rw [Fa,U0,h t]; grind);rw [Hb,H3] at h1; grind
theorem By:∀ {p:List Rat},(∀ k,p.getD k 0=0)->∀ t,ev p t=0
 | [],_,t=>rfl
 |
  a::p,h,t=>by
  have h0:=h 0;have h1:=By (p:=p) (λk=>by have:=h (k+1); rwa [Q0] at this) t;rw [Zp] at h0;simp only [ev,h0,h1]; grind
theorem Qfm:∀ (p:List Rat),(∀ t,ev p t=0)\/∃ n,n<p.length/\HD p n
 | []=>.inl λ_=>rfl
 |
  a::p=>by
  rcases Qfm p with h | ⟨n,hn,h1,h2⟩
  ·rcases Classical.em (a=0) with e | e
   ·exact .inl λt=>by simp only [ev,e,h t]; grind
   ·refine .inr ⟨0,by simp,by simpa using e,λk hk=>?_⟩;obtain ⟨m,rfl⟩:∃ m,k=m+1:=⟨k-1,by omega⟩;rw [Q0];exact (M3 (p:=p) (q:=[]) h m).trans (by simp)
  ·refine .inr ⟨n+1,by simp; omega,by rw [Q0]; exact h1,λk hk=>?_⟩;obtain ⟨m,rfl⟩:∃ m,k=m+1:=⟨k-1,by omega⟩;rw [Q0]; exact h2 m (by omega)
theorem Q6m {p q:List Rat} {n:Nat} (h:∀ t,ev p t=ev q t) (hp:HD p n):HD q n :=
 ⟨by rw [<-M3 h]; exact hp.1,λk hk=>by rw [<-M3 h]; exact hp.2 k hk⟩
theorem Zfk {p:List Rat} {n m:Nat} (h:HD p n) (h':HD p m):n=m:=by
 rcases Kc n m with e | e | e
 ·exact absurd (h.2 m e) h'.1
 ·exact e
 ·exact absurd (h'.2 n e) h.1
theorem Qys {p:List Rat} {n:Nat} (h:HD p n):¬∀ t,ev p t=0:=λh0=>h.1 ((M3 (p:=p) (q:=[]) h0 n).trans (by simp))
theorem Qfn {p q:List Rat} (h:∀ k,p.getD k 0=0) (k:Nat):(Ft p q).getD k 0=0:=by
 have:=M3 (p:=Ft p q) (q:=[]) (λt=>by rw [Uh,By h t]; simp only [ev]; grind) k;rw [this]; simp
theorem Qeg:∀ {p q:List Rat} {m n:Nat},HD p m->HD q n->HD (Ft p q) (m+n)
 | [],q,m,n,h,_=>absurd (by simp) h.1
 |
  a::p,q,0,n,h,h'=>by
  have h1:∀ k,p.getD k 0=0:=λk=>by have:=h.2 (k+1) (by omega); rwa [Q0] at this
  have h2:∀ k,(Ft (a::p) q).getD k 0=a*q.getD k 0:=λk=>by
   simp only [Ft];rw [Hb,H3];cases k with
   | zero=>rw [Zp]; grind
   | succ k=>rw [Q0,Qfn h1]; grind
  have h3:=h.1;rw [Zp] at h3;refine ⟨?_,λk hk=>?_⟩
  ·rw [h2,Zz]; exact λh=>(Jr.1 h).elim h3 h'.1
  ·rw [h2,h'.2 k (by omega)]; grind
 |
  a::p,q,m+1,n,h,h'=>by
  have ih:=Qeg (p:=p) (q:=q) (m:=m) ⟨by have:=h.1; rwa [Q0] at this,λk hk=>by have:=h.2 (k+1) (by omega); rwa [Q0] at this⟩ h';refine ⟨?_,λk hk=>?_⟩
  ·simp only [Ft];rw [Hb,H3,show m+1+n=(m+n)+1 by omega,Q0,h'.2 _ (by omega)];have:=ih.1; grind
  ·obtain ⟨j,rfl⟩:∃ j,k=j+1:=⟨k-1,by omega⟩;simp only [Ft];rw [Hb,H3,Q0,h'.2 _ (by omega),ih.2 j (by omega)]; grind
def A9 (g f:List Rat):Prop:=∃ u,∀ t,ev f t=ev g t*ev u t
theorem dvd_refl (f:List Rat):A9 f f:=⟨[1],λt=>by rw [Hy]; grind⟩
theorem dvd_trans {f g h:List Rat}:A9 f g->A9 g h->A9 f h
 | ⟨u,hu⟩,⟨v,hv⟩=>⟨Ft u v,λt=>by rw [hv,hu,Uh]; grind⟩
theorem Qr0 {p q:List Rat} (h:∀ t,ev p t*ev q t=0) (hp:¬∀ t,ev p t=0):∀ t,ev q t=0:=by
 rcases Qfm p with h1 | ⟨m,_,h1⟩
 ·exact absurd h1 hp
 ·rcases Qfm q with h2 | ⟨n,_,h2⟩
  ·exact h2
  ·exact absurd (λt=>by rw [Uh]; exact h t) (Qys (Qeg h1 h2))
theorem Quo {p q r:List Rat} (hp:¬∀ t,ev p t=0) (h:∀ t,ev p t*ev q t=ev p t*ev r t) (t:Rat):ev q t=ev r t:=by
 have:=Qr0 (p:=p) (q:=H5 q (Pv (-1) r)) (λt=>by rw [Fa,U0]; have:=h t; grind) hp t;rw [Fa,U0] at this; grind
theorem Q5j {b:List Rat} {n:Nat} (hb:HD b n):∀ (l:Nat) (a:List Rat),(∀ k,l<=k->a.getD k 0=0)->∃ q r,(∀ t,ev a t=ev q t*ev b t+ev r t)/\∀ k,n<=k->r.getD k 0=0
 | 0,a,ha=>⟨[],a,λt=>by simp only [ev]; grind,λk _=>ha k (Qi _)⟩
 |
  l+1,a,ha=>by
  rcases Q5 l n with h | h
  ·exact ⟨[],a,λt=>by simp only [ev]; grind,λk hk=>ha k (by omega)⟩
  ·-- the leading term is taken away
   obtain ⟨c,hc⟩:=nmE (a.getD l 0 / b.getD n 0);have hcb:c*b.getD n 0=a.getD l 0:=by rw [hc]; exact Zf hb.1
   obtain ⟨m,hm⟩:∃ m:List Rat,m=List.replicate (l-n) 0++[c]:=⟨_,rfl⟩;have hsh:∀ (i:Nat) (k:Nat),(Ft (List.replicate i 0++[c]) b).getD k 0=if i<=k then c*b.getD (k-i) 0 else 0:=λi=>by
    induction i with
    | zero=>intro k; simp only [K0,Yc,Ft]; rw [Hb,H3]; cases k <;> simp <;> grind
    |
     succ i ih =>
     intro k;simp only [J1,Xq,Ft];rw [Hb,H3];cases k with
     | zero=>rw [Zp,if_neg (by omega)]; grind
     |
      succ k =>
      rw [Q0,ih k];by_cases h:i<=k
      ·rw [if_pos h,if_pos (by omega),Nat.add_sub_add_right]; grind
      ·rw [if_neg h,if_neg (by omega)]; grind
   obtain ⟨q,r,h1,h2⟩:=Q5j hb l (H5 a (Pv (-1) (Ft m b))) λk hk=>by
    rw [Hb,H3,hm,hsh,if_pos (by omega)];rcases Y5 hk with e | e
    ·rw [ha k (by omega),hb.2 _ (by omega)]; grind
    ·subst e; rw [show l-(l-n)=n by omega,hcb]; grind
   refine ⟨H5 q m,r,λt=>?_,h2⟩;have:=h1 t;rw [Fa,U0,Uh] at this;rw [Fa]; grind
theorem Qu3:∀ (n:Nat) (a b:List Rat),(∀ k,n<=k->b.getD k 0=0)->∃ g U V,A9 g a/\A9 g b/\∀ t,ev g t=ev U t*ev a t+ev V t*ev b t
 |
  0,a,b,h=>by
  have h0:=By λk=>h k (Qi _)
  exact ⟨a,[1],[],dvd_refl a,⟨[],λt=>by rw [h0]; simp only [ev]; grind⟩,λt=>by rw [Hy]; simp only [ev]; grind⟩
 |
  n+1,a,b,h=>by
  rcases Classical.em (b.getD n 0=0) with e | e
  ·exact Qu3 n a b λk hk=>by
    rcases Y5 hk with e' | e'
    ·exact h k (by omega)
    ·rw [<-e']; exact e
  ·obtain ⟨q,r,h1,h2⟩:=Q5j (b:=b) (n:=n) ⟨e,λk hk=>h k (by omega)⟩ a.length a λk hk=>by rw [Qg,Qp hk]; rfl
   obtain ⟨g,U,V,⟨u,hu⟩,⟨v,hv⟩,hg⟩:=Qu3 n b r h2;refine ⟨g,V,H5 U (Pv (-1) (Ft V q)),⟨H5 (Ft q u) v,λt=>?_⟩,⟨u,hu⟩,λt=>?_⟩
   ·rw [h1,hv,Fa,Uh,hu]; grind
   ·rw [hg,Fa,U0,Uh,h1]; grind
theorem Q6d (a b:List Rat):∃ g U V,A9 g a/\A9 g b/\∀ t,ev g t=ev U t*ev a t+ev V t*ev b t :=
 Qu3 b.length a b λk hk=>by rw [Qg,Qp hk]; rfl
def Cop (a b:List Rat):Prop:=∃ U V,∀ t,ev U t*ev a t+ev V t*ev b t=1
theorem Qnd {c d e:List Rat} (h:Cop c d) (h1:∃ u,∀ t,ev d t*ev e t=ev c t*ev u t):A9 c e:=by
 obtain ⟨U,V,h⟩:=h;obtain ⟨u,hu⟩:=h1;refine ⟨H5 (Ft U e) (Ft V u),λt=>?_⟩;rw [Fa,Uh,Uh];have a1:=h t;have a2:=hu t;have:ev e t=(ev U t*ev c t+ev V t*ev d t)*ev e t:=by rw [a1]; grind
 rw [this];have:(ev U t*ev c t+ev V t*ev d t)*ev e t=ev U t*ev c t*ev e t+ev V t*(ev d t*ev e t):=by grind
 rw [this,a2]; grind
def qpw (d:List Rat):Nat->List Rat
 | 0=>[1]
 | k+1=>Ft d (qpw d k)
theorem Qv8 (d:List Rat) (t:Rat):∀ k:Nat,ev d t*dv (qpw d k) t=(k:Rat)*(dv d t*ev (qpw d k) t)
 | 0=>by simp only [qpw,dv,ev]; rw [show ((0:Nat):Rat)=0 from rfl]; grind
 |
  k+1=>by
  have ih:=Qv8 d t k;have hn':(((k+1:Nat):Rat))=(k:Rat)+1:=by push_cast; rfl
  simp only [qpw];rw [Qnl,Uh,hn']; grind
theorem Q79 {d:List Rat} {m:Nat} (h:HD d m):∀ k,HD (qpw d k) (k*m)
 | 0=>by rw [Yp]; exact ⟨by simp [qpw],λk hk=>by simp only [qpw]; rw [Qg,Qp (by simp; omega)]; rfl⟩
 | k+1=>by rw [Xb,Yd (k*m) m]; exact Qeg h (Q79 h k)
theorem Ql8 {d g:List Rat} {m n:Nat} (hd:HD d m) (hg:HD g n) (h:∀ k,A9 (qpw d k) g):m=0:=by
 obtain ⟨u,hu⟩:=h (n+1);rcases Qfm u with h1 | ⟨j,_,h1⟩
 ·exact absurd (λt=>by rw [hu,h1]; grind) (Qys hg)
 ·have:=Zfk (Q6m (λt=>by rw [hu,Uh]) hg) (Qeg (Q79 hd (n+1)) h1);rcases Qx m with e | e
  ·exact e
  ·have:(n+1)*1<=(n+1)*m:=Zg _ e;omega
theorem sqf {a g q d U V:List Rat} {k:Rat} (hk:k≠0) (ha:∀ t,ev a t=ev g t*ev q t) (hg:∀ t,k*ev g t=ev U t*ev a t+ev V t*dv a t) (h1:A9 d q) (h2:A9 d (Mg q)):∀ n,A9 (qpw d n) g
 | 0=>⟨g,λt=>by simp only [qpw]; rw [Hy]; grind⟩
 |
  n+1=>by
  obtain ⟨g1,e1⟩:=sqf hk ha hg h1 h2 n;obtain ⟨q1,e2⟩:=h1;obtain ⟨q2,e3⟩:=h2;have d1:=λt=>Ak ha t
  have d2:=λt=>Ak e1 t
  have d3:=λt=>Ak e2 t
  have d4:=Qv8 d;refine ⟨Pv (1 / k) (H5 (Ft U (Ft g1 q1)) (Ft V (H5 (Ft g1 q2) (H5 (Pv n (Ft g1 (H5 q2 (Pv (-1) (Mg q1))))) (Ft (Mg g1) q1))))),λt=>?_⟩;have hkk:1 / k*k=1:=Zf hk;simp only [qpw,U0,Fa,Uh,Ht];have b1:=ha t; have b2:=hg t; have b3:=e1 t; have b4:=e2 t; have b5:=e3 t;have b6:=d1 t; have b7:=d2 t; have b8:=d3 t; have b9:=d4 t n;rw [Ht] at b5;generalize ev d t=x0 at *;generalize ev (qpw d n) t=x1 at *;generalize ev g t=x2 at *;generalize ev q t=x3 at *;generalize ev a t=x4 at *;generalize dv a t=x5 at *;generalize dv g t=x6 at *;generalize dv q t=x7 at *;generalize ev g1 t=x8 at *;generalize dv g1 t=x9 at *;generalize ev q1 t=y0 at *;generalize dv q1 t=y1 at *;generalize ev q2 t=y2 at *;generalize dv d t=y3 at *;generalize dv (qpw d n) t=y4 at *;generalize ev U t=y5 at *;generalize ev V t=y6 at *;generalize (n:Rat)=y7 at *;have:x2=1 / k*(k*x2):=by grind
  rw [this,b2];have c1:x5=x0*x1*(x8*y2+(y7*(x8*(y2+-1*y1))+x9*y0)):=by
   rw [b6,b7,b4,b3];have:y3*y0=x0*y2-x0*y1:=by grind
   have:x0*y4*(x8*y0)=y7*(x1*x8*(x0*y2-x0*y1)):=by rw [b9,<-this]; grind
   grind
  have c2:x4=x0*x1*(x8*y0):=by rw [b1,b3,b4]; grind
  rw [c1,c2]; grind
theorem Zbu {a b c:List Rat} (h1:Cop a b) (h2:Cop a c) {d:List Rat} (hd:∀ t,ev d t=ev b t*ev c t):Cop a d:=by
 obtain ⟨U,V,h1⟩:=h1;obtain ⟨X,Y,h2⟩:=h2;refine ⟨H5 U (Ft (Ft V b) X),Ft V Y,λt=>?_⟩;have a1:=h1 t;have a2:=h2 t;simp only [Fa,Uh,hd];have:ev V t*ev b t*(ev X t*ev a t+ev Y t*ev c t)=ev V t*ev b t:=by rw [a2]; grind
 grind
theorem Zd9 {a g q z r X Y:List Rat} {n:Nat} (ha:∀ t,ev a t=ev g t*ev q t) (hz:∀ t,dv a t=ev g t*ev z t) (hg:HD g n) (hr:∀ t,ev X t*ev r t+ev Y t*dv r t=1) (h:A9 r a):A9 r q:=by
 obtain ⟨b,hb⟩:=h;obtain ⟨e,U,V,⟨r1,e1⟩,⟨q3,e2⟩,e3⟩:=Q6d r q;have hr0:¬∀ t,ev r t=0:=λh=>by
  have h1:=hr 0;have h2:dv r 0=0:=by have:=Q5o (p:=r) (q:=[]) h 0; rw [this]; rfl
  rw [h,h2] at h1; grind
 have he0:¬∀ t,ev e t=0:=λh=>hr0 λt=>by rw [e1,h]; grind
 have d1:=λt=>Ak e1 t
 have c1:Cop r1 q3:=⟨U,V,λt=>by
  have:=Quo (p:=e) (q:=H5 (Ft U r1) (Ft V q3)) (r:=[1]) he0 (λt=>by
   rw [Fa,Uh,Uh,Hy];have a1:=e1 t; have a2:=e2 t; have a3:=e3 t;rw [a1,a2] at a3; grind) t
  rw [Fa,Uh,Uh,Hy] at this; exact this⟩
 have c2:Cop r1 e:=⟨H5 (Ft X e) (Ft Y (Mg e)),Ft Y (Mg r1),λt=>by
  have a1:=hr t; have a2:=e1 t; have a3:=d1 t;simp only [Fa,Uh,Ht];rw [a2,a3] at a1; grind⟩
 have c3:Cop r1 (Mg r1):=⟨H5 (Ft X e) (Ft Y (Mg e)),Ft Y e,λt=>by
  have a1:=hr t; have a2:=e1 t; have a3:=d1 t;simp only [Fa,Uh,Ht];rw [a2,a3] at a1; grind⟩
 have c4:Cop r1 q:=Zbu c2 c1 e2;have hgz:=Qys hg;have hp:∀ k,A9 (qpw r1 k) g:=λk=>by
  induction k with
  | zero=>exact ⟨g,λt=>by simp only [qpw]; rw [Hy]; grind⟩
  |
   succ k ih =>
   obtain ⟨h,eh⟩:=ih;have hpz:¬∀ t,ev (qpw r1 k) t=0:=λh0=>hgz λt=>by rw [eh,h0]; grind
   have key:A9 r1 h:=by
    cases k with
    |
     zero =>
     refine Qnd c4 ⟨Ft e b,λt=>?_⟩;have a1:=ha t; have a2:=hb t; have a3:=e1 t; have a4:=eh t;simp only [qpw] at a4;rw [Hy] at a4;rw [Uh]; grind
    |
     succ k =>
     have hn:((k+1:Nat):Rat)≠0:=by
      have:(0:Rat)<((k+1:Nat):Rat):=by
       have h1:((0:Nat):Rat)<((k+1:Nat):Rat):=Ve.2 (by omega);simpa using h1
      grind
     have d2:=λt=>Ak (f:=a) (w:=qpw r1 (k+1)) (u:=Ft h q) (λt=>by rw [ha,eh,Uh]; grind) t
     have d4:=Qv8 r1;have h3:=Quo (p:=qpw r1 (k+1)) (q:=Ft (Mg r1) (Ft h q)) (r:=Ft r1 (Pv (1 / ((k+1:Nat):Rat)) (H5 (Ft h z) (Pv (-1) (Mg (Ft h q)))))) hpz λt=>by
      simp only [Uh,U0,Fa,Ht];have a1:=d2 t; have a2:=d4 t (k+1); have a3:=hz t; have a4:=eh t;rw [Uh] at a1;generalize ((k+1:Nat):Rat)=c at *;have hc:1 / c*c=1:=Zf hn;generalize ev (qpw r1 (k+1)) t=x0 at *;generalize dv (qpw r1 (k+1)) t=x1 at *;generalize dv (Ft h q) t=x2 at *;generalize ev r1 t=x3 at *;generalize dv r1 t=x4 at *;generalize ev h t=x5 at *;generalize ev q t=x6 at *;generalize ev z t=x7 at *;generalize dv a t=x8 at *;generalize ev g t=x9 at *;generalize 1 / c=c' at *;have s1:x0*(x4*(x5*x6))=c'*(c*(x4*x0))*(x5*x6):=by
       have:c'*(c*(x4*x0))=(c'*c)*(x4*x0):=by grind
       rw [this,hc]; grind
      rw [s1,<-a2];have s2:x3*(x1*(x5*x6))=x3*(x0*(x5*x7+-1*x2)):=by
       rw [a3,a4] at a1; grind
      grind
     refine Qnd c4 ?_;obtain ⟨u,hu⟩:=Qnd (e:=Ft q h) c3 ⟨Pv (1 / ((k+1:Nat):Rat)) (H5 (Ft h z) (Pv (-1) (Mg (Ft h q)))),λt=>by
      have:=h3 t;simp only [Uh] at this ⊢;rw [<-this]; grind⟩
     exact ⟨u,λt=>by rw [<-hu,Uh]⟩
   obtain ⟨u,hu⟩:=key;exact ⟨u,λt=>by simp only [qpw]; rw [Uh,eh,hu]; grind⟩
 rcases Qfm r1 with h1 | ⟨m,_,h1⟩
 ·exact absurd (λt=>by rw [e1,h1]; grind) hr0
 ·obtain rfl:=Ql8 h1 hg hp;have h2:∀ t,ev r1 t=r1.getD 0 0:=λt=>by
   cases r1 with
   | nil=>simp [ev]
   |
    cons c l =>
    have:∀ t,ev l t=0:=By λk=>by have:=h1.2 (k+1) (by omega); rwa [Q0] at this
    simp only [ev,this,Zp]; grind
  have h3:=h1.1;refine ⟨Pv (1 / r1.getD 0 0) q3,λt=>?_⟩;rw [e2,e1,h2,U0];have:1 / r1.getD 0 0*r1.getD 0 0=1:=Zf h3;have:ev e t*r1.getD 0 0*(1 / r1.getD 0 0*ev q3 t)=ev e t*ev q3 t*(1 / r1.getD 0 0*r1.getD 0 0):=by grind
  rw [this,Zf h3]; grind
def Er:List (List Rat)->List Rat
 | []=>[1]
 | w::l=>Ft w (Er l)
def Lay:List (List Rat)->List (List Rat)->Prop
 | [],[]=>True
 | [w],[f]=>∀ t,ev w t=ev f t
 | w::v::l,f::fs=>(∀ t,ev w t=ev f t*ev v t)/\Lay (v::l) fs
 | _,_=>False
def Qf9:List (List Rat)->List Rat
 | []=>[1]
 | [f]=>f
 | f::_::l=>Ft f (Qf9 l)
theorem Qy1:∀ {ws fs:List (List Rat)},Lay ws fs->∃ S,∀ t,ev (Er ws) t=ev (Qf9 fs) t*(ev S t*ev S t)
 | [],[],_=>⟨[1],λt=>by simp only [Er,Qf9]; rw [Hy]; grind⟩
 | [w],[f],h=>⟨[1],λt=>by simp only [Er,Qf9]; rw [Uh,Hy,h t]; grind⟩
 |
  [w,v],[f,f2],h=>⟨v,λt=>by
  have h1:=h.1 t;have h2:ev v t=ev f2 t:=h.2 t;simp only [Er,Qf9,Uh]; rw [Hy,h1]; grind⟩
 |
  w::v::x::l,f::f2::fs,h=>by
  obtain ⟨S,hS⟩:=Qy1 h.2.2;refine ⟨Ft v S,λt=>?_⟩;have h1:=h.1 t;have h2:=hS t;have e1:ev (Er (w::v::x::l)) t=ev w t*(ev v t*ev (Er (x::l)) t):=by simp only [Er,Uh]
  rw [e1,h2,h1];have e2:ev (Qf9 (f::f2::fs)) t=ev f t*ev (Qf9 fs) t:=by
   cases fs with
   | nil=>cases l <;> exact False.elim h.2.2
   | cons y l=>simp only [Qf9,Uh]
  rw [e2,Uh]; grind
 | [w],[],h=>h.elim
 | [w],_::_::_,h=>h.elim
 | [],_::_,h=>h.elim
 | [w,v],[f],h=>h.2.elim
 | [w,v],_::_::_::_,h=>h.2.elim
 | w::v::x::l,[f],h=>h.2.elim
 | w::v::l,[],h=>h.elim
end Orq
namespace Orq
open Orr Go
theorem Qvr (p:List Int) (t:Rat):Uf p t=((p.getD 0 0:Int):Rat)+t*Uf p.tail t:=by
 cases p with
 | nil=>show (0:Rat)=((0:Int):Rat)+t*0; grind
 | cons a p=>rfl
theorem Qef (p:List Int) (k:Nat):p.tail.getD k 0=p.getD (k+1) 0:=by
 cases p <;> simp
theorem M8 (c d:Int) (t:Rat):∀ (n:Nat) (p q r:List Int),p.length<=n->q.length<=n->r.length<=n->(∀ k,r.getD k 0=c*p.getD k 0+d*q.getD k 0)->Uf r t=(c:Rat)*Uf p t+(d:Rat)*Uf q t
 |
  0,p,q,r,hp,hq,hr,_=>by
  rw [Qh (Nat.le_zero.1 hp),Qh (Nat.le_zero.1 hq),Qh (Nat.le_zero.1 hr)];show (0:Rat)=_*0+_*0;grind
 |
  n+1,p,q,r,hp,hq,hr,h=>by
  have ih:=M8 c d t n p.tail q.tail r.tail (by rw [Wo]; omega) (by rw [Wo]; omega) (by rw [Wo]; omega) λk=>by
   rw [Qef,Qef,Qef]; exact h (k+1)
  rw [Qvr p,Qvr q,Qvr r,ih,h 0]
  push_cast
  grind
theorem Qzn {p q:List Int} (h:∀ k,p.getD k 0=q.getD k 0) (t:Rat):Uf p t=Uf q t:=by
 have:=M8 1 0 t (max p.length q.length) q q p (Ws ..) (Ws ..) (Nat.le_max_left ..) λk=>by rw [h k]; omega
 rw [this]
 push_cast
 grind
theorem Eu (p:List Int) (t:Rat):Uf (trim p) t=Uf p t:=Qzn (Db p) t
theorem Gx {p:List Int} {k:Nat} (h:p.length<=k):p.getD k 0=0:=by
 rw [Qg,Qp h]; rfl
theorem Ql0 (p q:List Int) (k:Nat):(Qat p q).getD k 0=p.getD k 0+q.getD k 0:=by
 unfold Qat;rw [Rh]
 split
 ·rfl
 ·rename_i h; rw [Gx (p:=p) (by omega),Gx (p:=q) (by omega)]; rfl
theorem Ba (p q:List Int) (k:Nat):(To p q).getD k 0=p.getD k 0-q.getD k 0:=by
 unfold To;rw [Rh]
 split
 ·rfl
 ·rename_i h; rw [Gx (p:=p) (by omega),Gx (p:=q) (by omega)]; rfl
theorem Rf (p:List Int) (c:Int) (k:Nat):(Ut p c).getD k 0=p.getD k 0*c:=by
 unfold Ut;rw [Rh]
 split
 ·rfl
 ·rename_i h; rw [Gx (p:=p) (by omega),Int.zero_mul]
theorem Ql4 (p:List Int) (k:Nat):(S7 p).getD k 0=-(p.getD k 0):=by
 unfold S7;rw [Rh]
 split
 ·rfl
 ·rename_i h; rw [Gx (p:=p) (by omega)]; rfl
theorem Sa (p:List Int) (k:Nat):(U7 p).getD k 0=p.getD (k+1) 0*((k+1:Nat):Int):=by
 unfold U7;rw [Rh]
 split
 ·rfl
 ·rename_i h; rw [Gx (p:=p) (by omega),Int.zero_mul]
theorem Qsi (p q:List Int) (t:Rat):Uf (Qat p q) t=Uf p t+Uf q t:=by
 have:=M8 1 1 t (max (max p.length q.length) (Qat p q).length) p q (Qat p q) (by omega) (by omega) (by omega) λk=>by rw [Ql0]; omega
 rw [this]; push_cast; grind
theorem Dx (p q:List Int) (t:Rat):Uf (To p q) t=Uf p t-Uf q t:=by
 have:=M8 1 (-1) t (max (max p.length q.length) (To p q).length) p q (To p q) (by omega) (by omega) (by omega) λk=>by rw [Ba]; omega
 rw [this]; push_cast; grind
theorem Qcx (p:List Int) (t:Rat):Uf (S7 p) t=-Uf p t:=by
 have:=M8 (-1) 0 t (max p.length (S7 p).length) p p (S7 p) (by omega) (by omega) (by omega) λk=>by rw [Ql4]; omega
 rw [this]; push_cast; grind
theorem Rm (p:List Int) (c:Int) (t:Rat):Uf (Ut p c) t=Uf p t*(c:Rat):=by
 have:=M8 c 0 t (max p.length (Ut p c).length) p p (Ut p c) (by omega) (by omega) (by omega) λk=>by rw [Rf,Vj]; omega
 rw [this]; push_cast; grind
theorem Qol:∀ (l:List Int) (j:Nat) (v:Int) (t:Rat),j<l.length->Uf (l.set j v) t=Uf l t+((v:Rat)-((l.getD j 0:Int):Rat))*t^j
 | [],_,_,_,h=>by simp at h
 |
  a::l,0,v,t,_=>by
  show (v:Rat)+t*Uf l t=(a:Rat)+t*Uf l t+((v:Rat)-(a:Rat))*t^0;rw [Xd]; grind
 |
  a::l,j+1,v,t,h=>by
  have ih:=Qol l j v t (by simpa using h);show (a:Rat)+t*Uf (l.set j v) t=(a:Rat)+t*Uf l t+((v:Rat)-((l.getD j 0:Int):Rat))*t^(j+1);rw [ih,Z0]; grind
theorem Qja:∀ (l:List Int) (k:Nat) (t:Rat),k<l.length->Uf (l.take (k+1)) t=Uf (l.take k) t+((l.getD k 0:Int):Rat)*t^k
 | [],_,_,h=>by simp at h
 |
  a::l,0,t,_=>by
  show (a:Rat)+t*Uf (l.take 0) t=0+(a:Rat)*t^0;rw [Xd,Yv];show (a:Rat)+t*0=_;grind
 |
  a::l,k+1,t,h=>by
  have ih:=Qja l k t (by simpa using h);show (a:Rat)+t*Uf (l.take (k+1)) t=(a:Rat)+t*Uf (l.take k) t+((l.getD k 0:Int):Rat)*t^(k+1);rw [ih,Z0]; grind
theorem Ql3 (n:Nat) (t:Rat):Uf (List.replicate n 0) t=0:=by
 induction n with
 | zero=>rfl
 |
  succ n ih =>
  show ((0:Int):Rat)+t*Uf (List.replicate n 0) t=0;rw [ih]; push_cast; grind
theorem Qs4 (t:Rat) (i:Nat):∀ k,t^(i+k)=t^i*t^k
 | 0=>by rw [Xy,Xd]; grind
 | k+1=>by rw [<-J5,Z0,Z0,Qs4 t i k]; grind
theorem Qsh (x:Int) (b:List Int) (i:Nat) (o:List Int) (t:Rat):∀ k,k<=b.length->i+k<=o.length->Uf (Eo x b i o k) t=Uf o t+(x:Rat)*t^i*Uf (b.take k) t
 |
  0,_,_=>by
  show Uf o t=Uf o t+(x:Rat)*t^i*0;grind
 |
  k+1,h1,h2=>by
  have ih:=Qsh x b i o t k (by omega) (by omega);simp only [Eo];rw [Qol _ _ _ _ (by rw [Ep]; omega),ih,Qja b k t (by omega)];have hp:t^(i+k)=t^i*t^k:=Qs4 t i k;rw [hp]
  push_cast
  grind
theorem Qsg (a b o:List Int) (t:Rat):∀ i,i<=a.length->i+b.length<=o.length+1->Uf (M5 a b o i) t=Uf o t+Uf (a.take i) t*Uf b t
 |
  0,_,_=>by
  show Uf o t=Uf o t+0*Uf b t;grind
 |
  i+1,h1,h2=>by
  have ih:=Qsg a b o t i (by omega) (by omega);simp only [M5];rw [Qsh _ _ _ _ _ b.length (Qk _) (by rw [M6]; omega),ih,Qja a i t (by omega),Q8];grind
theorem U9 (a b:List Int) (t:Rat):Uf (Ff a b) t=Uf a t*Uf b t:=by
 unfold Ff
 split
 ·rename_i h;rcases h with h | h
  ·rw [Qh h]; show (0:Rat)=0*_; grind
  ·rw [Qh h]; show (0:Rat)=_*0; grind
 ·rename_i h;rw [Eu,Qsg a b _ t a.length (Qk _) (by rw [X9]; omega),Ql3,Q8];grind
theorem Gm (z d:Int):(z:Rat) / (d:Rat)=Rat.divInt z d:=by
 by_cases h:d=0
 ·subst h; simp; grind
 ·rw [J8]; exact (Rat.divInt_eq_div z d ▸ by rw [J8])
theorem Qpo (a:List Int) (n d:Int) (hd:(d:Rat)≠0):∀ k,k<=a.length->(((Pd a n d k).2:Int):Rat)=(d:Rat)^k/\(((Pd a n d k).1:Int):Rat)*d=(d:Rat)^k*Uf (a.drop (a.length-k)) ((n:Rat) / d)
 |
  0,_=>by
  refine ⟨by rw [Xd]; rfl,?_⟩;rw [Ky,Vq];show ((0:Int):Rat)*d=(d:Rat)^0*0
  push_cast; grind
 |
  k+1,hk=>by
  obtain ⟨h1,h2⟩:=Qpo a n d hd k (by omega);have hi:a.length-1-k<a.length:=by omega
  have e1:a.drop (a.length-(k+1))=a.getD (a.length-1-k) 0::a.drop (a.length-k):=by
   rw [show a.length-(k+1)=a.length-1-k by omega,Zr hi,show a.length-1-k+1=a.length-k by omega];congr 1;rw [Qg,Qd hi]; rfl
  refine ⟨?_,?_⟩
  ·show (((Pd a n d k).2*d:Int):Rat)=_;rw [Xv,h1,Z0]
  ·rw [e1];show (((Pd a n d k).1*n+a.getD (a.length-1-k) 0*(Pd a n d k).2:Int):Rat)*d=_*(((a.getD (a.length-1-k) 0:Int):Rat)+(n:Rat) / d*Uf (a.drop (a.length-k)) ((n:Rat) / d));rw [V4,Xv,Xv,h1,Z0];have h3:(n:Rat) / d*d=n:=by rw [Zf hd]
   have h4:(d:Rat)^k*d*((n:Rat) / d*Uf (a.drop (a.length-k)) ((n:Rat) / d))=((n:Rat) / d*d)*((d:Rat)^k*Uf (a.drop (a.length-k)) ((n:Rat) / d)):=by grind
   have h5:(d:Rat)^k*d*(((a.getD (a.length-1-k) 0:Int):Rat)+(n:Rat) / d*Uf (a.drop (a.length-k)) ((n:Rat) / d))=(d:Rat)^k*d*((a.getD (a.length-1-k) 0:Int):Rat)+(d:Rat)^k*d*((n:Rat) / d*Uf (a.drop (a.length-k)) ((n:Rat) / d)):=by grind
   rw [h5,h4,h3,<-h2];grind
theorem Qor {d:Rat} (h:0<d):∀ k:Nat,0<d^k
 | 0=>by rw [Xd]; decide
 | k+1=>by rw [Z0]; exact J9 (Qor h k) h
theorem A1 {x y:Rat} (h:0<y):Uo (y*x)=Uo x:=by
 unfold Uo;have h1:y*x<0↔x<0:=by
  constructor
  ·intro h2;rcases Vo (a:=0) (b:=x) with h3 | h3
   ·have:=Rat.mul_nonneg (Qm h) h3; grind
   ·rcases Vy.1 h3 with h4 | h4
    ·exact h4
    ·rw [h4] at h2; grind
  ·intro h2;have:=J9 h (show 0 < -x by grind);grind
 have h2:0<y*x↔0<x:=by
  constructor
  ·intro h2;rcases Vo (a:=x) (b:=0) with h3 | h3
   ·have:=Rat.mul_nonneg (Qm h) (show 0<=-x by grind); grind
   ·rcases Vy.1 h3 with h4 | h4
    ·exact h4
    ·rw [<-h4] at h2; grind
  ·intro h2; exact J9 h h2
 simp only [h1,h2]
theorem Q5a (z:Int):Mr z 0=Uo (z:Rat):=by
 unfold Mr Uo;have h1:((z:Int):Rat)<0↔z<0:=by
  have := @Rat.intCast_lt_intCast z 0; simpa using this
 have h2:0<((z:Int):Rat)↔0<z:=by
  have := @Rat.intCast_lt_intCast 0 z; simpa using this
 simp only [h1,h2]
theorem Tx (p:List Int) (q:Rat):U8 p q=Uo (Uf p q):=by
 have hd0:(0:Rat)<((q.den:Int):Rat):=by
  have := @Rat.intCast_lt_intCast 0 (q.den:Int);rw [show ((0:Int):Rat)=0 from rfl] at this;exact this.2 (den_pos q)
 have hd:((q.den:Int):Rat)≠0:=by intro h; rw [h] at hd0; exact absurd hd0 (by decide)
 obtain ⟨_,h⟩:=Qpo p q.num q.den hd p.length (Qk _);rw [Ye,X7,Gm,Zq] at h;unfold U8;rw [Q5a,<-A1 hd0,Wv];show Uo ((((Pd p q.num q.den p.length).1:Int):Rat)*_)=_;rw [h,A1 (Qor hd0 _)]
def cz (p:List Int):List Rat:=p.map λz:Int=>(z:Rat)
theorem Ud (t:Rat):∀ p,ev (cz p) t=Uf p t
 | []=>rfl
 | a::p=>by have:=Ud t p; simp only [cz,Zw,ev,Uf] at *; rw [this]
theorem Tu:∀ (p:List Int) (k:Nat),(cz p).getD k 0=((p.getD k 0:Int):Rat)
 | [],k=>by simp [cz]
 | a::p,0=>by simp [cz]
 | a::p,k+1=>by have:=Tu p k; simp only [cz,Zw,Q0] at *; exact this
theorem M7 {p q:List Int} (h:∀ t,Uf p t=Uf q t) (k:Nat):p.getD k 0=q.getD k 0:=by
 have:=M3 (p:=cz p) (q:=cz q) (λt=>by rw [Ud,Ud,h]) k;rw [Tu,Tu] at this
 exact_mod_cast this
theorem Qdh {p q:List Int} (hp:Ue p) (hq:Ue q) (h:∀ k,p.getD k 0=q.getD k 0):p=q:=by
 have key:∀ {p q:List Int},Ue p->Ue q->(∀ k,p.getD k 0=q.getD k 0)->p.length<=q.length:=λ{p q} hp hq h=>by
  rcases Q5 q.length p.length with e | e
  ·have:=Gq hp (by omega);rw [h,Qg,Qp (by omega)] at this;exact absurd rfl this
  ·exact e
 exact Qih (V3 (key hp hq h) (key hq hp λk=>(h k).symm)) λj _=>h j
theorem Qzo {p q:List Int} (hp:Ue p) (hq:Ue q) (h:∀ t,Uf p t=Uf q t):p=q:=Qdh hp hq (M7 h)
theorem Zdb {p:List Int} (hp:Ue p) (h:∀ t,Uf p t=0):p=[]:=Qzo hp rfl λt=>by rw [h]; rfl
theorem Bq {p:List Int} (h:p.length=0) (t:Rat):Uf p t=0:=by rw [Qh h]; rfl
theorem Qzm:∀ (p r:List Int) (t:Rat),(∀ k,r.getD k 0=p.getD (k+1) 0*((k+1:Nat):Int))->Uf r t=dv (cz p) t
 |
  [],r,t,h=>by
  rw [Qzn (q:=[]) (λk=>by rw [h]; simp) t]; rfl
 |
  a::p,r,t,h=>by
  have ih:=Qzm p (U7 p) t λk=>Sa p k
  have e:Uf r t=Uf p t+t*Uf (U7 p) t:=by
   have:=M8 1 1 t (max (max p.length (0::U7 p).length) r.length) p (0::U7 p) r (by omega) (by omega) (by omega) λk=>by
    rw [h,Q0];cases k with
    | zero=>simp
    | succ k=>rw [Q0,Sa]; push_cast; grind
   rw [this]; simp only [Uf]; push_cast; grind
  rw [e,ih];show _=ev (cz p) t+t*dv (cz p) t;rw [Ud]
theorem Dw (p:List Int) (t:Rat):Uf (U7 p) t=dv (cz p) t:=Qzm p _ t λk=>Sa p k
theorem Qax {p:List Int} (hp:Ue p) (h:0<p.length):HD (cz p) (p.length-1):=by
 refine ⟨?_,λk hk=>?_⟩
 ·rw [Tu];have:=Gq hp h;exact λe=>this (by exact_mod_cast e)
 ·rw [Tu,Qg,Qp (by omega)]; rfl
theorem Qfg {p:List Int} (hp:Ue p) (h:0<p.length):¬∀ t,Uf p t=0:=λh0=>by
 rw [Zdb hp h0] at h; exact absurd h (by simp)
theorem Sp {a b c:List Int} (ha:Ue a) (hb:Ue b) (hc:Ue c) (h:∀ t,Uf c t=Uf a t*Uf b t) (la:0<a.length) (lb:0<b.length):c.length=a.length+b.length-1:=by
 have h1:=Qeg (Qax ha la) (Qax hb lb);have h2:HD (cz c) (a.length-1+(b.length-1)):=Q6m (λt=>by rw [Uh,Ud,Ud,Ud,h]) h1;have lc:0<c.length:=by
  rcases Qx c.length with e | e
  ·exact absurd (λt=>by rw [Ud]; exact Bq e t) (Qys h2)
  ·exact e
 have:=Zfk (Qax hc lc) h2;omega
theorem Qsp:∀ (n m:Nat),m<=n->2<=m->∃ P,2<=P/\P∣m/\∀ d,2<=d->d∣P->d=P
 | 0,m,h,h2=>by omega
 |
  n+1,m,h,h2=>by
  rcases Classical.em (∃ d,2<=d/\d<m/\d∣m) with ⟨d,d1,d2,d3⟩ | h0
  ·obtain ⟨P,p1,p2,p3⟩:=Qsp n d (by omega) d1;exact ⟨P,p1,Nat.dvd_trans p2 d3,p3⟩
  ·refine ⟨m,h2,Nat.dvd_refl m,λd d1 d2=>?_⟩;rcases Y5 (Vw (by omega) d2) with e | e
   ·exact absurd ⟨d,d1,e,d2⟩ h0
   ·exact e
theorem Qnm {P:Nat} (h2:2<=P) (hP:∀ d,2<=d->d∣P->d=P) {x y:Int} (h:(P:Int)∣x*y):(P:Int)∣x\/(P:Int)∣y:=by
 have h:=Xj.2 h;rw [Jv,Zx] at h;have hg:=Ki P x.natAbs;rcases Q5 (Nat.gcd P x.natAbs) 2 with e | e
 ·right;have h1:Nat.gcd P x.natAbs=1:=by
   have:=Nat.gcd_pos_of_pos_left x.natAbs (show 0<P by omega); omega
  have:=Nat.Coprime.dvd_of_dvd_mul_left h1 h;exact Xj.1 (by rwa [Zx])
 ·left;have:=hP _ e hg;have h3:=Wl P x.natAbs;rw [this] at h3;exact Xj.1 (by rwa [Zx])
def Qtr (P:Int) (l:List Int):Prop:=∀ k,P∣l.getD k 0
theorem Qdr {P:Nat} (h2:2<=P) (hP:∀ d,2<=d->d∣P->d=P):∀ (n:Nat) (b h c:List Int),b.length+h.length<=n->(∀ t,Uf c t=Uf b t*Uf h t)->Qtr P c->Qtr P b\/Qtr P h
 | _,[],h,c,_,_,_=>.inl λk=>by simp
 | _,x::b,[],c,_,_,_=>.inr λk=>by simp
 | 0,x::b,y::h,c,hn,_,_=>by simp at hn
 |
  n+1,x::b,y::h,c,hn,hc,hd=>by
  simp only [Q9] at hn;by_cases hx:(P:Int)∣x
  ·-- x h is taken away
   have e:∀ t,Uf (0::Ff b (y::h)) t=Uf (To c (Ut (y::h) x)) t:=λt=>by
    rw [Dx,Rm,hc]; simp only [Uf]; rw [U9]; simp only [Uf]; push_cast; grind
   have hd':Qtr P (Ff b (y::h)):=λk=>by
    have:=M7 e (k+1);rw [Q0,Ba,Rf] at this;rw [this];exact Int.dvd_sub (hd (k+1)) (Vu hx (Kh _ _))
   rcases Qdr h2 hP n b (y::h) _ (by simp only [Q9]; omega) (λt=>U9 _ _ t) hd' with h1 | h1
   ·refine .inl λk=>?_
    cases k with
    | zero=>rw [Zp]; exact hx
    | succ k=>rw [Q0]; exact h1 k
   ·exact .inr h1
  ·have h0:(P:Int)∣y:=by
    have e:c.getD 0 0=x*y:=by
     have:=M7 (p:=c) (q:=Ff (x::b) (y::h)) (λt=>by rw [hc,U9]) 0;have e2:=M7 (p:=Ff (x::b) (y::h)) (q:=Qat (Ut (y::h) x) (0::Ff b (y::h))) (λt=>by
      rw [Qsi,Rm,U9]; simp only [Uf]; rw [U9]; simp only [Uf]; push_cast; grind) 0
     rw [this,e2,Ql0,Rf,Zp,Zp,Vj]; omega
    have:=hd 0;rw [e] at this;rcases Qnm h2 hP this with h1 | h1
    ·exact absurd h1 hx
    ·exact h1
   have e:∀ t,Uf (0::Ff (x::b) h) t=Uf (To c (Ut (x::b) y)) t:=λt=>by
    rw [Dx,Rm,hc]; simp only [Uf]; rw [U9]; simp only [Uf]; push_cast; grind
   have hd':Qtr P (Ff (x::b) h):=λk=>by
    have:=M7 e (k+1);rw [Q0,Ba,Rf] at this;rw [this];exact Int.dvd_sub (hd (k+1)) (Vu h0 (Kh _ _))
   rcases Qdr h2 hP n (x::b) h _ (by simp only [Q9]; omega) (λt=>U9 _ _ t) hd' with h1 | h1
   ·exact absurd (by have:=h1 0; rwa [Zp] at this) hx
   ·refine .inr λk=>?_
    cases k with
    | zero=>rw [Zp]; exact h0
    | succ k=>rw [Q0]; exact h1 k
def Prm (b:List Int):Prop:=∀ d:Int,Qtr d b->d∣1
theorem Q59 {a b:List Int} (hb:Prm b):∀ (n:Nat) (c:Int) (h:List Int),c.natAbs<=n->c≠0->(∀ t,(c:Rat)*Uf a t=Uf b t*Uf h t)->∃ h',∀ t,Uf a t=Uf b t*Uf h' t
 | 0,c,h,hn,h0,_=>absurd (by omega) h0
 |
  n+1,c,h,hn,h0,hc=>by
  rcases Q5 c.natAbs 2 with h1 | h1
  ·refine ⟨Ut h c,λt=>?_⟩;have hcc:(c:Rat)*c=1:=by
    have:c*c=1:=by
     rcases (show c=1\/c=-1 by omega) with rfl | rfl <;> rfl
    have:=congrArg (λz:Int=>(z:Rat)) this
    push_cast at this; exact this
   rw [Rm];have:=hc t;have:Uf a t=(c:Rat)*((c:Rat)*Uf a t):=by
    have:(c:Rat)*((c:Rat)*Uf a t)=((c:Rat)*c)*Uf a t:=by grind
    rw [this,hcc]; grind
   rw [this,hc]; grind
  ·obtain ⟨P,p1,p2,p3⟩:=Qsp c.natAbs c.natAbs (Qk _) h1;obtain ⟨d,hd⟩:∃ d,c=(P:Int)*d:=Wb.2 p2;have hall:Qtr P (Ut a c):=λk=>by
    rw [Rf,hd]; exact Vu (Kb _ _) (Kh _ _)
   have hP0:(P:Rat)≠0:=by
    have:((0:Nat):Rat)<(P:Rat):=Ve.2 (by omega);grind
   rcases Qdr p1 p3 _ b h (Ut a c) (Qk _) (λt=>by rw [Rm,Wv,hc]) hall with e | e
   ·have:=hb P e;have:=Xj.2 this;rw [Zx] at this;have:=Vw (by decide) this;exact absurd this (by show ¬P<=1; omega)
   ·refine Q59 hb n d (h.map (· / (P:Int))) ?_ (λe0=>h0 (by rw [hd,e0,Vk])) λt=>?_
    ·rw [hd,Jv,Zx] at hn h1;have:2*d.natAbs<=P*d.natAbs:=Qw _ p1;omega
    ·have e1:Uf h t=(P:Rat)*Uf (h.map (· / (P:Int))) t:=by
      have:=M8 P 0 t (max h.length (h.map (· / (P:Int))).length) (h.map (· / (P:Int))) [] h (by omega) (by simp) (by omega) λk=>by
       have:=e k;have e2:(h.map (· / (P:Int))).getD k 0=h.getD k 0 / (P:Int):=by
        rw [Qg,Qg,Q7];cases h[k]? <;> simp
       rw [e2,Kt this]; simp
      rw [this]; simp only [Uf]; push_cast; grind
     have:=hc t;rw [hd,e1] at this
     push_cast at this
     have h3:(P:Rat)*((d:Rat)*Uf a t)=(P:Rat)*(Uf b t*Uf (h.map (· / (P:Int))) t):=by grind
     have h4:=Jr.1 (show (P:Rat)*((d:Rat)*Uf a t-Uf b t*Uf (h.map (· / (P:Int))) t)=0 by grind);rcases h4 with h4 | h4
     ·exact absurd h4 hP0
     ·grind
theorem Qks:∀ u:List Rat,∃ c:Int,c≠0/\∃ h:List Int,∀ t,(c:Rat)*ev u t=Uf h t
 | []=>⟨1,by decide,[],λt=>by simp only [ev,Uf]; grind⟩
 |
  a::u=>by
  obtain ⟨c,hc,h,hh⟩:=Qks u;refine ⟨c*(a.den:Int),Xp hc (by have:=a.den_nz; omega),(c*a.num)::Ut h (a.den:Int),λt=>?_⟩;have e:(a.den:Rat)*a=a.num:=by
   rw [Wv];have:(a.num:Rat) / (((a.den:Int)):Rat)=a:=by rw [Gm,Zq]
   have hd:(a.den:Rat)≠0:=by
    have:((0:Nat):Rat)<(a.den:Rat):=Ve.2 a.den_pos;grind
   have h2:(a.num:Rat) / (a.den:Rat)*(a.den:Rat)=a.num:=Zf hd;rw [show (a.num:Rat) / (a.den:Rat)=a from this] at h2; exact h2
  simp only [ev,Uf];rw [Rm,<-hh]
  push_cast
  rw [<-e];have e3:(((a.den:Int)):Rat)=(a.den:Rat):=rfl;grind
theorem Q58 {a b:List Int} (hb:Prm b) (h:A9 (cz b) (cz a)):∃ h',Ue h'/\∀ t,Uf a t=Uf b t*Uf h' t:=by
 obtain ⟨u,hu⟩:=h;obtain ⟨c,hc,h,hh⟩:=Qks u;obtain ⟨h',e⟩:=Q59 hb c.natAbs c h (Qk _) hc λt=>by
  have:=hu t;rw [Ud,Ud] at this;rw [this,<-hh]; grind
 exact ⟨trim h',G0 _,λt=>by rw [Eu,e]⟩
def sd (x0:Rat):List Rat->List Rat
 | []=>[]
 | _::p=>H5 p (Pv x0 (sd x0 p))
theorem Q5y (x0 x:Rat):∀ p,ev (sd x0 p) x=dq p x x0
 | []=>rfl
 | a::p=>by simp only [sd,dq]; rw [Fa,U0,Q5y x0 x p]
theorem Qwj (x0:Rat):∀ (g:List Rat) (n:Nat),(∀ j,n<j->g.getD j 0=0)->∀ j,n<=j->(sd x0 g).getD j 0=0
 | [],n,_,j,_=>by simp [sd]
 |
  a::p,0,h,j,_=>by
  have hp:∀ j,p.getD j 0=0:=λj=>by have:=h (j+1) (by omega); rwa [Q0] at this
  simp only [sd];rw [Hb,H3,hp,Qwj x0 p 0 (λj _=>hp j) j (Qi _)]; grind
 |
  a::p,n+1,h,j,hj=>by
  have hp:∀ j,n<j->p.getD j 0=0:=λj hj=>by have:=h (j+1) (by omega); rwa [Q0] at this
  simp only [sd];rw [Hb,H3,hp j (by omega),Qwj x0 p n hp j (by omega)]; grind
theorem Qu8 {K:Rat} (hK:0≤K):∀ (e:Nat) (g:List Rat) (pts:List Int) (M:Rat),pts.length=e+1->pts.Nodup->(∀ x∈pts,Uk (x:Rat)≤K)->(∀ k,e<k->g.getD k 0=0)->(∀ x∈pts,Uk (ev g (x:Rat))≤M)->∀ k,Uk (g.getD k 0)≤(2*K+3)^e*M
 | _,_,[],_,h,_,_,_,_=>by simp at h
 |
  0,g,x0::xs,M,_,_,_,hg,hM=>λk=>by
  have h0:=hM x0 (by simp);rw [Xd];cases k with
  |
   zero =>
   have e:ev g (x0:Rat)=g.getD 0 0:=by
    cases g with
    | nil=>rfl
    |
     cons a p =>
     have hp:=By (p:=p) λj=>by have:=hg (j+1) (by omega); rwa [Q0] at this
     simp only [ev,hp,Zp]; grind
   rw [<-e]; grind
  |
   succ k =>
   rw [hg (k+1) (by omega),Hg];have:=Gs (ev g (x0:Rat)); grind
 |
  e+1,g,x0::xs,M,hl,hn,hb,hg,hM=>λk=>by
  have hx0:=hb x0 (by simp);have hM0:=hM x0 (by simp);have hMn:0<=M:=Q6 (Gs _) hM0;rw [List.nodup_cons] at hn;have ih:=Qu8 hK e (sd x0 g) xs (2*M) (by simpa using hl) hn.2 (λx hx=>hb x (by simp [hx])) (λj hj=>Qwj _ g (e+1) hg j (by omega)) λx hx=>by
   have h1:=hM x (by simp [hx]);have h2:=Qk2 (x:Rat) (x0:Rat) g;rw [<-Q5y] at h2;have hne:x-x0≠0:=λh=>hn.1 (by rw [show x0=x by omega]; exact hx)
   have h3:=Ay hne;rw [Rat.intCast_sub] at h3;have h4:Uk (ev g (x:Rat)-ev g (x0:Rat))<=2*M:=by
    have:=Tc (ev g (x:Rat)) (-ev g (x0:Rat));rw [Cy,show ev g (x:Rat)+-ev g (x0:Rat)=ev g (x:Rat)-ev g (x0:Rat) by grind] at this;clear hM hb hg; grind
   rw [h2,Cx] at h4;have h5:=Q3 h3 (Gs (ev (sd x0 g) x));clear hM hb hg; grind
  have e1:∀ t,ev g t=ev (H5 [ev g x0] (H5 (Pv (-x0) (sd x0 g)) (0::sd x0 g))) t:=λt=>by
   have:=Qk2 t (x0:Rat) g;rw [<-Q5y] at this;simp only [Fa,U0,ev];grind
  have hp1:1<=(2*K+3)^e:=(Qah (R:=2*K+3) (x:=0) (by grind) (by rw [Hg]; grind) e).2;have hpM:=Pq (x:=(2*K+3)^e) (y:=M) (by grind) hMn;have hpM1:=Q3 hp1 hMn;rw [Z0,M3 e1 k,Hb,Hb,H3];have a1:=ih k;have a2:Uk (-(x0:Rat)*(sd (x0:Rat) g).getD k 0)<=K*((2*K+3)^e*(2*M)):=Fz (by rw [Cy]; exact hx0) a1;have fin:∀ u v w:Rat,Uk u<=M->Uk v<=K*((2*K+3)^e*(2*M))->Uk w<=(2*K+3)^e*(2*M)->Uk (u+(v+w))<=(2*K+3)^e*(2*K+3)*M:=λu v w h1 h2 h3=>by
   have b1:=Tc u (v+w);have b2:=Tc v w;clear ih e1 hM hb hg a1 a2; grind
  refine fin _ _ _ ?_ a2 ?_
  ·cases k with
   | zero=>rw [Zp]; exact hM0
   | succ k=>rw [Q0,Kf,Hg]; exact hMn
  ·cases k with
   | zero=>rw [Zp,Hg]; clear ih e1 hM hb hg a1 a2 fin; grind
   | succ k=>rw [Q0]; exact ih k
theorem Q8h {g:List Rat} {e:Nat} (hg:∀ k,e<k->g.getD k 0=0) (hz:¬∀ t,ev g t=0) {pts:List Int} (hn:pts.Nodup) (hr:∀ x∈pts,ev g (x:Rat)=0):pts.length≤e:=by
 rcases Q5 e pts.length with h | h
 ·exfalso;obtain ⟨K,hK,hb⟩:∃ K:Rat,0≤K/\∀ x∈pts,Uk (x:Rat)≤K:=by
   clear hn hr h
   induction pts with
   | nil=>exact ⟨0,by decide,λx hx=>by cases hx⟩
   |
    cons y pts ih =>
    obtain ⟨K,h1,h2⟩:=ih;refine ⟨K+Uk (y:Rat),by have:=Gs (y:Rat); grind,λx hx=>?_⟩;have hy:=Gs (y:Rat);rcases Qo.1 hx with rfl | hx
    ·grind
    ·have:=h2 x hx; grind
  refine hz (By λk=>?_);have:=Qu8 hK e g (pts.take (e+1)) 0 (by rw [Qy]; omega) (hn.sublist (Wj ..)) (λx hx=>hb x (Qq hx)) hg (λx hx=>by rw [hr x (Qq hx),Hg]; exact Ql) k;have h2:=Gs (g.getD k 0);exact Zdm (by grind)
 ·exact h
def spots:List Int:=(List.range 19).map λi:Nat=>(i:Int)-9
theorem spots_nd:spots.Nodup:=by decide
theorem Qs9:∀ x∈spots,x.natAbs≤9:=by decide
theorem Qik {α:Type} (p:α->Bool):∀ l:List α,(l.filter p).length+(l.filter λx => !p x).length=l.length
 | []=>rfl
 |
  x::l=>by
  have:=Qik p l;cases h:p x <;> simp [h] <;> omega
def geo:Nat->Nat
 | 0=>0
 | n+1=>1+9*geo n
theorem Qyi {B:Rat}:∀ (p:List Int),(∀ z∈p,Uk (z:Rat)≤B)->evB 9 (cz p)≤B*(geo p.length:Nat)
 | [],_=>by simp only [cz,Jb,evB,geo,Ku]; rw [show ((0:Nat):Rat)=0 from rfl]; grind
 |
  a::p,h=>by
  have h1:=Qyi p λz hz=>h z (Qj _ hz)
  have h2:=h a (Qr ..);simp only [cz,Zw,evB,geo,Q9] at *
  push_cast
  clear h; grind
theorem Q6g {m n:Nat} (h:m<=n):geo m<=geo n:=by
 induction h with
 | refl=>exact Qk _
 | step h ih=>simp only [geo]; omega
def pz:List Int->Int->Int
 | [],_=>0
 | a::p,x=>a+x*pz p x
theorem Qbl (x:Int):∀ p,Uf p (x:Rat)=((pz p x:Int):Rat)
 | []=>rfl
 | a::p=>by simp only [Uf,pz,Qbl x p]; push_cast; rfl
theorem Tf (z:Int):Uk (z:Rat)=((z.natAbs:Nat):Rat):=by
 unfold Uk;rcases Ks z 0 with h | h
 ·have h1:(z:Rat)<((0:Int):Rat):=X6.2 h;rw [if_pos (by simpa using h1)];have:(z.natAbs:Int)=-z:=by omega
  have:=congrArg (λu:Int=>(u:Rat)) this
  push_cast at this
  exact this.symm
 ·have h1:((0:Int):Rat)<=(z:Rat):=Ji.2 h;have h1:(0:Rat)<=(z:Rat):=by simpa using h1
  rw [if_neg (by grind)];have:(z.natAbs:Int)=z:=by omega
  have:=congrArg (λu:Int=>(u:Rat)) this;exact this.symm
theorem Am {p g h:List Int} {s:Nat} (hp:Bd s p) (hl:p.length<=10) (tp:Ue p) (tg:Ue g) (th:Ue h) (h0:p.length≠0) (e:∀ t,Uf p t=Uf g t*Uf h t):Bd (s+69) g:=by
 have lg:0<g.length:=by
  rcases Qx g.length with e' | e'
  ·exact absurd (λt=>by rw [e,Bq e']; grind) (Qfg tp (by omega))
  ·exact e'
 have lh:0<h.length:=by
  rcases Qx h.length with e' | e'
  ·exact absurd (λt=>by rw [e,Bq e']; grind) (Qfg tp (by omega))
  ·exact e'
 have hlen:=Sp tg th tp e lg lh;obtain ⟨q,hq⟩:=nmE (spots.filter λx => !decide (pz p x=0));have hr:(spots.filter λx=>decide (pz p x=0)).length<=9:=by
  refine Q8h (g:=cz p) (e:=9) (λk hk=>?_) (λh=>Qfg tp (by omega) λt=>by rw [<-Ud]; exact h t) (spots_nd.sublist List.filter_sublist) λx hx=>?_
  ·rw [Tu,Qg,Qp (by omega)]; rfl
  ·have:=(Y3.1 hx).2;rw [Ud,Qbl,of_decide_eq_true this]; rfl
 have hc:=Qik (λx=>decide (pz p x=0)) spots;rw [<-hq] at hc;have hsl:spots.length=19:=by decide
 have hB:∀ z∈p,Uk (z:Rat)≤((2^s:Nat):Rat):=λz hz=>by
  rw [Tf];have:=hp z hz;rw [Rl] at this;exact Za.2 (Ju this)
 have key:=Qu8 (K:=9) (by decide) 9 (cz g) (q.take 10) (((2^s*435848050:Nat)):Rat) (by rw [Qy]; omega) ((spots_nd.sublist (by rw [hq]; exact List.filter_sublist)).sublist (Wj ..)) (λx hx=>by
  have hx:=Qq hx;rw [hq] at hx;have:=Qs9 x (Y3.1 hx).1;rw [Tf]
  exact_mod_cast Za.2 this) (λk hk=>by rw [Tu,Qg,Qp (by omega)]; rfl) (λx hx=>by
  have hx:=Qq hx;rw [hq] at hx;obtain ⟨hx1,hx2⟩:=Y3.1 hx;have hne:pz p x≠0:=by simpa using hx2
  have e1:=e (x:Rat);rw [Qbl,Qbl,Qbl] at e1;have e2:pz p x=pz g x*pz h x:=by exact_mod_cast e1
  have hh:1<=(pz h x).natAbs:=by
   rcases Qx (pz h x).natAbs with e' | e'
   ·exact absurd (by rw [e2,Int.natAbs_eq_zero.1 e',Vk]) hne
   ·exact e'
  have h3:(pz g x).natAbs<=(pz p x).natAbs:=by
   rw [e2,Jv];exact Jo _ hh
  rw [Ud,Qbl,Tf];refine Q6 (Za.2 h3) ?_;rw [<-Tf,<-Qbl,<-Ud];refine Q6 (Qfh (R:=9) (by
   have:=Qs9 x hx1;rw [Tf]
   exact_mod_cast Za.2 this) _) ?_
  refine Q6 (Qyi p hB) ?_;have:2^s*geo p.length<=2^s*435848050:=Zg _ (Qa (Q6g hl) (by decide));have:=Za.2 this
  push_cast at this ⊢
  exact this)
 refine Qhh λk=>?_
 have h1:=key k;rw [Tu,Tf] at h1;have e3:(2*(9:Rat)+3)^9*((2^s*435848050:Nat):Rat)=(((794280046581*(2^s*435848050)):Nat):Rat):=by
  rw [show (2*(9:Rat)+3)^9=794280046581 by grind]
  push_cast; rfl
 rw [e3] at h1;have h2:=Za.1 h1;rw [Rl];refine Zy h2 ?_;have:794280046581*(2^s*435848050)=2^s*(794280046581*435848050):=by
  rw [Kd]
 rw [this,Xe];exact Nat.mul_lt_mul_of_pos_left (by decide) (Zv (by decide))
theorem Q5p {l:List Int} {d:Int} (h:∀ z∈l,d∣z):d∣((Gt l:Nat):Int):=by
 have key:∀ (l:List Int) (g:Nat),d.natAbs∣g->(∀ z∈l,d∣z)->d.natAbs∣l.foldl (λg z=>Nat.gcd g z.natAbs) g:=by
  intro l
  induction l with
  | nil=>exact λg h _=>h
  | cons z l ih=>exact λg hg h=>ih _ (Nat.dvd_gcd hg (Xj.2 (h z (Qr ..)))) λu hu=>h u (Qj _ hu)
 have:=key l 0 (Nat.dvd_zero _) h;exact Xj.1 (by rw [Zx]; exact this)
theorem Qce (p:List Int) (c:Int) (k:Nat):(p.map (· / c)).getD k 0=p.getD k 0 / c:=by
 rw [Qg,Qg,Q7];cases p[k]? <;> simp
theorem Mf (p:List Int) (c:Int) (k:Nat):(Ns p c).getD k 0=p.getD k 0 / c:=by
 unfold Ns; rw [Db,Qce]
theorem Ql2 {p:List Int} {c:Int} (h:∀ z∈p,c∣z) (t:Rat):Uf p t=(c:Rat)*Uf (Ns p c) t:=by
 have:=M8 c 0 t (max p.length (Ns p c).length) (Ns p c) [] p (by omega) (by simp) (by omega) λk=>by
  rw [Mf];have hd:c∣p.getD k 0:=by
   rw [Qg];cases e:p[k]? with
   | none=>exact Int.dvd_zero _
   | some z=>exact h z (Qc e)
  rw [Kt hd]; simp
 rw [this]; simp only [Uf]; push_cast; grind
theorem Aq {c:Int} (h:c≠0):(c:Rat)≠0:=λe=>h (by exact_mod_cast e)
theorem Cu {p q:List Int} {c:Rat} (tp:Ue p) (tq:Ue q) (hc:c≠0) (h:∀ t,Uf p t=c*Uf q t):p.length=q.length:=by
 have key:∀ {p q:List Int} {c:Rat},Ue p->Ue q->c≠0->(∀ t,Uf p t=c*Uf q t)->p.length<=q.length:=λ{p q c} tp tq hc h=>by
  rcases Q5 q.length p.length with e | e
  ·have h1:=Gq tp (by omega);have:=M3 (p:=cz p) (q:=Pv c (cz q)) (λt=>by rw [Ud,U0,Ud,h]) (p.length-1);rw [Tu,H3,Tu,Qg (l:=q),Qp (by omega)] at this;have:((p.getD (p.length-1) 0:Int):Rat)=0:=by rw [this]; simp
   exact absurd (by exact_mod_cast this) h1
  ·exact e
 refine V3 (key tp tq hc h) (key (c:=1 / c) tq tp (λe=>?_) λt=>?_)
 ·have:=Zf (a:=1) hc; rw [e] at this; grind
 ·rw [h]; have:=Zf (a:=1) hc; grind
theorem Ta {p:List Int} (tp:Ue p) (h:p.length≠0):Ue (Ug p)/\(Ug p).length=p.length/\Prm (Ug p)/\0<Un (Ug p)/\(∀ s,Bd s p->Bd s (Ug p))/\Fu p≠0/\∀ t,Uf p t=(Fu p:Rat)*Uf (Ug p) t:=by
 have h0:=Qzp tp h;have e:Ug p=Ns p (Fu p):=by unfold Ug; rw [if_neg h]
 have h1:=Ql2 (p:=p) (c:=Fu p) Qcy;have hl:=Cu tp (A3 p (Fu p)) (Aq h0) h1;have hcp:0<Re p:=by
  have:=Es tp h;unfold Re at this ⊢; omega
 rw [e];refine ⟨A3 _ _,hl.symm,λd hd=>?_,?_,λs hs=>Qhi hs _,h0,h1⟩
 ·have h2:∀ z∈p,d*Fu p∣z:=λz hz=>by
   obtain ⟨i,hi⟩:=Zd.1 hz;have h3:=hd i;rw [Mf,Qg,hi] at h3;obtain ⟨k,hk⟩:=h3;have h4:=Qcy z hz;refine ⟨k,?_⟩;have:z / Fu p*Fu p=z:=Kz h4;rw [<-this];rw [show z / Fu p=d*k from hk,Int.mul_right_comm]
  have h3:=Q5p h2;have h4:Fu p∣((Gt p:Nat):Int)/\((Gt p:Nat):Int)∣Fu p:=by
   unfold Fu Re; split
   ·exact ⟨W4.2 (Wm _),Int.dvd_neg.2 (Wm _)⟩
   ·exact ⟨Wm _,Wm _⟩
  obtain ⟨k,hk⟩:=Vu h3 h4.2;refine ⟨k,?_⟩;have:Fu p*(d*k)=Fu p*1:=by rw [K9,<-Int.mul_assoc,Vj (Fu p) d,<-hk]
  exact (Int.eq_of_mul_eq_mul_left h0 this).symm
 ·have h2:Un (Ns p (Fu p))=Un p / Fu p:=by unfold Un; rw [<-hl,Mf]
  have h3:Fu p∣Un p:=Qcy _ (Qi1 h);have h5:Un p / Fu p*Fu p=Un p:=Kz h3;rw [h2];have h6:=Bn tp h;rcases Jy (Un p / Fu p) 0 with e1 | e1 | e1
  ·exfalso;by_cases hn:Un p<0
   ·have:Fu p=-Re p:=by unfold Fu; rw [if_pos hn]
    have:0<Un p / Fu p*Fu p:=V1 e1 (by omega);omega
   ·have:Fu p=Re p:=by unfold Fu; rw [if_neg hn]
    have:Un p / Fu p*Fu p<0:=Int.mul_neg_of_neg_of_pos e1 (by omega);omega
  ·rw [e1] at h5; omega
  ·exact e1
theorem Qsk {r:List Int} (tr:Ue r):∃ c:Rat,0<c/\∀ t,Uf r t=c*Uf (Dy r) t:=by
 unfold Dy;by_cases h:r.length=0
 ·rw [if_pos h]; exact ⟨1,by decide,λt=>by rw [Bq h,Bq rfl]; grind⟩
 ·rw [if_neg h];have h1:0<Re r:=by
   have:=Es tr h;unfold Re at this ⊢; omega
  have h2:((0:Int):Rat)<(Re r:Rat):=X6.2 h1;exact ⟨Re r,by simpa using h2,Ql2 C5⟩
theorem Et (x:Int) (t:Rat):∀ i,Uf (mono i x) t=(x:Rat)*t^i
 | 0=>by simp only [mono,K0,Yc,Uf,Xd]; grind
 |
  i+1=>by
  have ih:=Et x t i;simp only [mono,J1,Xq,Uf] at *;rw [ih,Z0]; push_cast; grind
theorem Qoc (x:Int) (b:List Int) (i k:Nat):(Ff (trim (mono i x)) b).getD k 0=if i<=k then x*b.getD (k-i) 0 else 0:=by
 have e:∀ t,Uf (Ff (trim (mono i x)) b) t=Uf (List.replicate i 0++b.map (x * ·)) t:=λt=>by
  rw [U9,Eu,Et];have h2:∀ i,Uf (List.replicate i 0++b.map (x * ·)) t=t^i*((x:Rat)*Uf b t):=λi=>by
   induction i with
   |
    zero =>
    simp only [K0,Yc,Xd];have:=M8 x 0 t (max b.length (b.map (x * ·)).length) b [] (b.map (x * ·)) (by omega) (by simp) (by omega) λk=>by
     rw [Qg,Qg,Q7];cases b[k]? <;> simp
    rw [this]; simp only [Uf]; push_cast; grind
   | succ i ih=>simp only [J1,Xq,Uf,ih,Z0]; push_cast; grind
  rw [h2]; grind
 rw [M7 e k,Qg,List.getElem?_append,X9];by_cases h:i<=k
 ·rw [if_neg (by omega),if_pos h,Q7,Qg];cases b[k-i]? <;> simp
 ·rw [if_pos (by omega),if_neg h,Jx,if_pos (by omega)]; rfl
theorem Qn2 {p:List Int} {n:Nat} (tp:Ue p) (h:p.length<=n+1) (h0:p.getD n 0=0):p.length<=n:=by
 rcases Q5 n p.length with e | e
 ·have:=Gq tp (by omega);rw [show p.length-1=n by omega] at this;exact absurd h0 this
 ·exact e
theorem Zec {b r:List Int} {i:Nat} (tr:Ue r) (h:r.length<=b.length+i) (hb:b.length≠0) {x:Int} (hx:x=if r.length=b.length+i then Un r else 0):(str b (Un b) i x r).length<b.length+i:=by
 have hl:=Qn5 (c:=Un b) (x:=x) (i:=i) (b:=b) (r:=r);have:=Qn2 (p:=str b (Un b) i x r) (n:=b.length+i-1) (Us _ _) (by omega) (by
  unfold str;rw [Ba,Rf,Qoc,if_pos (by omega),hx,show b.length+i-1-i=b.length-1 by omega]
  split
  ·rename_i he;unfold Un;rw [he,Int.sub_eq_zero]
  ·rw [Qg (l:=r),Qp (by omega)]; simp)
 omega
theorem Q9e (b r:List Int) (c:Int) (i:Nat) (x:Int) (t:Rat):(c:Rat)*Uf r t=(x:Rat)*t^i*Uf b t+Uf (str b c i x r) t:=by
 unfold str;rw [Dx,Rm,U9,Eu,Et]; grind
theorem Q7w (b:List Int) (c:Int):∀ (i:Nat) (q r:List Int),∃ X:List Rat,∀ t,((c^i:Int):Rat)*Uf r t=ev X t*Uf b t+Uf (psd b c i (q,r)).2 t
 | 0,q,r=>⟨[],λt=>by simp only [psd,ev]; rw [Int.pow_zero]; push_cast; grind⟩
 |
  i+1,q,r=>by
  obtain ⟨x,hx⟩:=nmE (if r.length=b.length+i then Un r else 0);obtain ⟨X,hX⟩:=Q7w b c i (stq c i x q) (str b c i x r);obtain ⟨m,hm⟩:∃ m:List Rat,∀ t,ev m t=(x:Rat)*t^i:=⟨cz (mono i x),λt=>by rw [Ud,Et]⟩;refine ⟨H5 (Pv ((c^i:Int):Rat) m) X,λt=>?_⟩;rw [Ol hx,Fa,U0,hm];have h1:=hX t;have h2:=Q9e b r c i x t;rw [Int.pow_succ]
  push_cast at h1 ⊢
  have:(c:Rat)^i*c*Uf r t=(c:Rat)^i*((c:Rat)*Uf r t):=by grind
  rw [this,h2]; grind
theorem Qos {b:List Int} (hb:b.length≠0):∀ (i:Nat) (q r:List Int),Ue r->r.length<b.length+i->Ue (psd b (Un b) i (q,r)).2/\(psd b (Un b) i (q,r)).2.length<b.length
 | 0,q,r,tr,h=>⟨tr,h⟩
 |
  i+1,q,r,tr,h=>by
  rw [Ol rfl];exact Qos hb i _ _ (Us _ _) (Zec tr (by omega) hb rfl)
theorem Q7v {b:List Int} {c:Int} {t:Nat} (hb:Bd t b) (hc:Uj c<=t):∀ (i u:Nat) (q r:List Int),i<=64->Bd u r->Bd (u+i*(t+8)) (psd b c i (q,r)).2
 | 0,u,q,r,_,h=>by simpa [psd] using h
 |
  i+1,u,q,r,hi,h=>by
  rw [Ol rfl];have hx:Uj (if r.length=b.length+i then Un r else 0)<=u:=by
   split
   ·exact Px h
   ·rw [Py]; exact Qi _
  have:=Q7v hb hc i (u+t+8) (stq c i (if r.length=b.length+i then Un r else 0) q) (str b c i (if r.length=b.length+i then Un r else 0) r) (by omega) (Qtw h hb hc hx (by omega));exact W8 this (by rw [Xb]; omega)
theorem Qjf {c:Int} (h:c<0):∀ k:Nat,(k % 2=1->c^k<0)/\(k % 2=0->0<c^k)
 | 0=>⟨λh=>by omega,λ_=>by rw [Int.pow_zero]; decide⟩
 |
  k+1=>by
  obtain ⟨i1,i2⟩:=Qjf h k;rw [Int.pow_succ];exact ⟨λhk=>V0 (i2 (by omega)) h,λhk=>V1 (i1 (by omega)) h⟩
theorem Qc6 {a b:List Int} (ta:Ue a) (tb:Ue b) (hb:b.length≠0) (hl:a.length<=60):Ue (Gb a b)/\(Gb a b).length<b.length/\(∀ s,Bd s a->Bd s b->Bd (s+(a.length+1-b.length)*(s+8)) (Gb a b)) /\
 ∃ u v:Rat,0<u/\0<v/\∃ X:List Rat,∀ t,u*Uf a t=ev X t*Uf b t+v*Uf (Gb a b) t:=by
 obtain ⟨k,hk⟩:=nmE (a.length+1-b.length);have h1:Ue (Sk a b)/\(Sk a b).length<b.length:=Qos hb _ _ _ ta (by omega);obtain ⟨X,hX⟩:=Q7w b (Un b) k [] a;have hX:∀ t,(((Un b)^k:Int):Rat)*Uf a t=ev X t*Uf b t+Uf (Sk a b) t:=by unfold Sk; rw [<-hk]; exact hX
 have h2:=Qc2 (a:=a) (b:=b) (r:=Sk a b) (n:=(Sk a b).length) (s:=(Sk a b).foldl (λm z=>m+Uj z) 0) h1.1 (Qk _) (λz hz=>by
  have key:∀ (l:List Int) (m:Nat),m≤l.foldl (λm z=>m+Uj z) m/\∀ z∈l,Uj z≤l.foldl (λm z=>m+Uj z) m:=by
   intro l
   induction l with
   | nil=>exact λm=>⟨Qk _,λz hz=>by cases hz⟩
   |
    cons y l ih =>
    intro m;obtain ⟨i1,i2⟩:=ih (m+Uj y);refine ⟨by simp only [Xi]; omega,λz hz=>?_⟩;simp only [Xi];rcases Qo.1 hz with rfl | hz
    ·omega
    ·exact i2 z hz
  exact (key _ 0).2 z hz)
 have h3:=Qjd (r:=Pp a b (Sk a b)) (n:=(Sk a b).length) h2.2.1 h2.2.2;refine ⟨h3.1,by unfold Gb; omega,λs ha hbs=>?_,?_⟩
 ·have h4:=Q7v (c:=Un b) hbs (Px hbs) k s [] a (by omega) ha;have h5:=Qc2 (a:=a) (b:=b) (n:=(Sk a b).length) h1.1 (Nat.le_refl _) (show Bd (s+k*(s+8)) (Sk a b) by unfold Sk; rw [<-hk]; exact h4);rw [<-hk];exact (Qjd h5.2.1 h5.2.2).2.2
 ·obtain ⟨v,vp,hv⟩:=Qsk h2.1;have hc:=Bn tb hb;by_cases ht:k % 2=1/\Un b<0
  ·have e1:Pp a b (Sk a b)=S7 (Sk a b):=by unfold Pp; rw [<-hk,if_pos ht]
   have hneg:(Un b)^k<0:=(Qjf ht.2 k).1 ht.1;have h5:(((Un b)^k:Int):Rat)<((0:Int):Rat):=X6.2 hneg;have h5:(((Un b)^k:Int):Rat)<0:=by simpa using h5
   refine ⟨-(((Un b)^k:Int):Rat),v,by grind,vp,Pv (-1) X,λt=>?_⟩;have h6:=hX t;have h7:=hv t;rw [e1,Qcx] at h7;show _=_+v*Uf (Dy (Pp a b (Sk a b))) t;rw [e1,<-h7,U0]; grind
  ·have e1:Pp a b (Sk a b)=Sk a b:=by unfold Pp; rw [<-hk,if_neg ht]
   have hpos:0<(Un b)^k:=by
    rcases V5 hc with h | h
    ·exact (Qjf h k).2 (by omega)
    ·exact Int.pow_pos h
   have h5:((0:Int):Rat)<(((Un b)^k:Int):Rat):=X6.2 hpos;refine ⟨(((Un b)^k:Int):Rat),v,by simpa using h5,vp,X,λt=>?_⟩;have h7:=hv t;show _=_+v*Uf (Dy (Pp a b (Sk a b))) t;rw [<-h7,e1,hX]
theorem Df {p:List Int} (h1:p.length<=64) (h2:Bd 16777216 p):chk p=some p:=by
 unfold chk;rw [if_pos ⟨h1,Yl.2 λz hz=>Nat.ble_eq_true_of_le (h2 z hz)⟩]
theorem Qk0 {a b:List Int} {g:List Rat} {c:Rat} (hc:c≠0) (h:∀ t,Uf a t=c*Uf b t):A9 g (cz a)↔A9 g (cz b):=by
 constructor
 ·rintro ⟨u,hu⟩
  refine ⟨Pv (1 / c) u,λt=>?_⟩;have h1:=hu t;rw [Ud,h] at h1;rw [Ud,U0];have h2:1 / c*c=1:=Zf hc;have:Uf b t=1 / c*(c*Uf b t):=by grind
  rw [this,h1]; grind
 ·rintro ⟨u,hu⟩
  refine ⟨Pv c u,λt=>?_⟩;have h1:=hu t;rw [Ud] at h1;rw [Ud,U0,h,h1]; grind
structure Gc (g a b:List Int):Prop where
 t:Ue g
 da:A9 (cz g) (cz a)
 db:A9 (cz g) (cz b)
 c:∃ U V,∀ t,Uf g t=ev U t*Uf a t+ev V t*Uf b t
 n:g.length≠0
theorem Gc.scale {g a b g' a' b':List Int} {x y z:Rat} (h:Gc g a b) (hx:x≠0) (hy:y≠0) (hz:z≠0) (tg:Ue g') (eg:∀ t,Uf g t=x*Uf g' t) (ea:∀ t,Uf a' t=y*Uf a t) (eb:∀ t,Uf b' t=z*Uf b t):Gc g' a' b':=by
 have hx1:1 / x*x=1:=Zf hx;have hy1:1 / y*y=1:=Zf hy;have hz1:1 / z*z=1:=Zf hz;have hg:∀ c,A9 (cz g) c->A9 (cz g') c:=λc ⟨u,hu⟩=>⟨Pv x u,λt=>by rw [hu,Ud,Ud,eg,U0]; grind⟩
 obtain ⟨U,V,hc⟩:=h.c;refine ⟨tg,hg _ ((Qk0 hy ea).2 h.da),hg _ ((Qk0 hz eb).2 h.db),⟨Pv (1 / x*(1 / y)) U,Pv (1 / x*(1 / z)) V,λt=>?_⟩,?_⟩
 ·have h1:=hc t;have h2:Uf g' t=1 / x*Uf g t:=by rw [eg]; grind
  rw [h2,h1,U0,U0,ea,eb];generalize ev U t=u at *;generalize ev V t=v at *;grind
 ·rw [<-Cu h.t tg hx eg]; exact h.n
theorem Zdd:∀ d:Nat,1<=d->d+2<=3^d
 | 0,h=>by omega
 | 1,_=>by decide
 | d+2,_=>by have:=Zdd (d+1) (by omega); rw [Zl]; omega
theorem Qti {k:Nat} {a b:List Int} (ta:Ue a) (tb:Ue b) (hb:b.length≠0) (hl:a.length<=60) (hbl:b.length<=60) (hr:Bd 16777216 (Gb a b)) (ih:∃ g,Qe6 k b (Gb a b)=some g/\Gc g b (Gb a b)):∃ g,Qe6 (k+1) a b=some g/\Gc g a b:=by
 obtain ⟨h1,h2,h3,u,v,up,vp,X,hX⟩:=Qc6 ta tb hb hl;obtain ⟨g,e,hg⟩:=ih;refine ⟨g,?_,?_⟩
 ·simp only [Qe6];rw [if_neg hb,Df (by omega) hr]; exact e
 ·obtain ⟨U,V,hc⟩:=hg.c;obtain ⟨y,hy⟩:=hg.da;obtain ⟨z,hz⟩:=hg.db;have hu:1 / u*u=1:=Fe up;have hv:1 / v*v=1:=Fe vp;refine ⟨hg.t,⟨Pv (1 / u) (H5 (Ft X y) (Pv v z)),λt=>?_⟩,hg.da,⟨Pv (u / v) V,H5 U (Pv (-1 / v) (Ft V X)),λt=>?_⟩,hg.n⟩
  ·have a1:=hX t; have a2:=hy t; have a3:=hz t;rw [Ud,Ud] at a2 a3;rw [Ud,Ud,U0,Fa,Uh,U0];have:Uf a t=1 / u*(u*Uf a t):=by grind
   rw [this,a1,a2,a3]; grind
  ·have a1:=hX t; have a2:=hc t;rw [U0,Fa,U0,Uh,a2];have:Uf (Gb a b) t=1 / v*(v*Uf (Gb a b) t):=by grind
   rw [this,show v*Uf (Gb a b) t=u*Uf a t-ev X t*Uf b t by grind,J8,J8,J8];grind
theorem Q0j {k:Nat} {a:List Int} (ta:Ue a) (ha:a.length≠0):∃ g,Qe6 (k+1) a []=some g/\Gc g a [] :=
 ⟨a,rfl,ta,dvd_refl _,⟨[],λt=>by simp only [cz,Jb,ev]; grind⟩,⟨[1],[],λt=>by rw [Hy]; simp only [ev]; grind⟩,ha⟩
theorem Qe7 {s:Nat}:∀ (k:Nat) (a b:List Int),Ue a->Ue b->b.length<k->b.length<a.length->a.length<=60->Bd s a->Bd s b->(s+8)*3^(a.length-1)<=16777216->∃ g,Qe6 k a b=some g/\Gc g a b
 | 0,_,_,_,_,h,_,_,_,_,_=>by omega
 |
  k+1,a,b,ta,tb,hk,hab,hl,ba,bb,hs=>by
  by_cases hb:b.length=0
  ·rw [Qh hb]; exact Q0j ta (by omega)
  ·obtain ⟨h1,h2,h3,_⟩:=Qc6 ta tb hb hl;have h3:=h3 s ba bb;obtain ⟨m,hm⟩:=nmE (a.length-b.length);have e1:a.length+1-b.length=m+1:=by omega
   rw [e1] at h3;have e2:s+(m+1)*(s+8)+8=(m+2)*(s+8):=by
    rw [show m+2=(m+1)+1 by omega,Xb (m+1)]; omega
   have e3:(m+2)*(s+8)*3^(b.length-1)<=(s+8)*3^(a.length-1):=by
    rw [show a.length-1=m+(b.length-1) by omega,Xe,<-Xn,Ze (s+8)];exact Qw _ (Qw _ (Zdd m (by omega)))
   have e4:s+(m+1)*(s+8)<=16777216:=by
    have:(m+2)*(s+8)<=(m+2)*(s+8)*3^(b.length-1):=Jo _ (Zv (by decide));omega
   refine Qti ta tb hb hl (by omega) (W8 h3 e4) (Qe7 (s:=s+(m+1)*(s+8)) k b (Gb a b) tb h1 (by omega) h2 (by omega) (W8 bb (by omega)) h3 ?_);rw [e2]; omega
def Szz (n s:Nat):Prop:=n<=10/\2*(s+8)*3^(n-1)<=16777216
theorem Q9t {n s:Nat} (hz:Szz n s) {a b:List Int} (ta:Ue a) (tb:Ue b) (la:a.length<=n) (lb:b.length<=n) (ba:Bd s a) (bb:Bd s b) (h0:a.length≠0\/b.length≠0):∃ g,Qe6 66 a b=some g/\Gc g a b:=by
 obtain ⟨hn,hz⟩:=hz;have hp:∀ l,l<=n->(s+8)*3^(l-1)<=8388608:=λl hl=>by
  have:(s+8)*3^(l-1)<=(s+8)*3^(n-1):=Zg _ (Zo (by decide) (by omega));rw [Xn] at hz; omega
 rcases Q5 b.length a.length with h | h
 ·exact Qe7 66 a b ta tb (by omega) h (by omega) ba bb (by have:=hp a.length la; omega)
 ·by_cases hb:b.length=0
  ·rw [Qh hb]; exact Q0j ta (by omega)
  ·obtain ⟨h1,h2,h3,_⟩:=Qc6 ta tb hb (by omega);have h3:=h3 s ba bb;have h4:(a.length+1-b.length)*(s+8)<=1*(s+8):=Qw _ (by omega);have h5:=hp b.length lb;have h6:(s+8)*1<=(s+8)*3^(b.length-1):=Zg _ (Zv (by decide));refine Qti ta tb hb (by omega) (by omega) (W8 h3 (by omega)) (Qe7 (s:=2*s+8) 65 b (Gb a b) tb h1 (by omega) h2 (by omega) (W8 bb (by omega)) (W8 h3 (by omega)) ?_);rw [show 2*s+8+8=2*(s+8) by omega,Xn]; omega
theorem Qma:Ug []=[]:=rfl
theorem Ew {a:List Int} (ta:Ue a):Ue (Ug a)/\(Ug a).length=a.length/\(∀ s,Bd s a->Bd s (Ug a))/\∃ c:Rat,c≠0/\∀ t,Uf a t=c*Uf (Ug a) t:=by
 by_cases h:a.length=0
 ·rw [Qh h];exact ⟨rfl,rfl,λs _=>Ir,1,by decide,λt=>by rw [Qma]; grind⟩
 ·obtain ⟨h1,h2,h3,h4,h5,h6,h7⟩:=Ta ta h;exact ⟨h1,h2,h5,_,Aq h6,h7⟩
theorem Qbu {n s:Nat} (hz:Szz n s) {a b:List Int} (ta:Ue a) (tb:Ue b) (la:a.length<=n) (lb:b.length<=n) (ba:Bd s a) (bb:Bd s b) (h0:a.length≠0\/b.length≠0):∃ g,Om a b=some g/\Gc g a b/\Prm g/\0<Un g:=by
 obtain ⟨a1,a2,a3,x,xn,ax⟩:=Ew ta;obtain ⟨b1,b2,b3,y,yn,bx⟩:=Ew tb;obtain ⟨g,e,hg⟩:=Q9t hz a1 b1 (by omega) (by omega) (a3 s ba) (b3 s bb) (by omega);obtain ⟨g1,g2,g3,g4,g5,g6,g7⟩:=Ta hg.t hg.n;refine ⟨Ug g,?_,hg.scale (Aq g6) xn yn g1 g7 ax bx,g3,g4⟩;unfold Om; rw [e]; rfl
theorem Q2t {a:List Int} (ta:Ue a):Om [] a=some (Ug (Ug a)):=by
 unfold Om;rw [Qma];by_cases h:(Ug a).length=0
 ·have e:Ug a=[]:=Qh h;rw [e]; rfl
 ·have e:Gb [] (Ug a)=[]:=by
   have e1:Sk [] (Ug a)=[]:=by unfold Sk; rw [show ([]:List Int).length+1-(Ug a).length=0 by simp; omega]; rfl
   unfold Gb;rw [e1];unfold Pp
   split <;> rfl
  have:Qe6 66 [] (Ug a)=some (Ug a):=by
   show (if (Ug a).length=0 then _ else _)=_;rw [if_neg h,e]; rfl
  rw [this]; rfl
theorem Q6e {n s:Nat} (hz:Szz n s) {a b:List Int} (ta:Ue a) (tb:Ue b) (la:a.length<=n) (lb:b.length<=n) (ba:Bd s a) (bb:Bd s b) (h0:a.length≠0):∃ g,Qoo a b=some g/\Gc g a b/\Prm g/\0<Un g:=by
 obtain ⟨a1,a2,a3,x,xn,ax⟩:=Ew ta;obtain ⟨b1,b2,b3,y,yn,bx⟩:=Ew a1;obtain ⟨g,e,hg,h1,h2⟩:=Qbu hz b1 tb (by omega) lb (b3 s (a3 s ba)) bb (by omega);refine ⟨g,?_,hg.scale (x:=1) (y:=x*y) (z:=1) (by decide) (λh=>(Jr.1 h).elim xn yn) (by decide) hg.t (λt=>by grind) (λt=>by rw [ax,bx]; grind) (λt=>by grind),h1,h2⟩;unfold Qoo;rw [Q2t ta]; exact e
theorem Q0i:∀ {p q:List Rat} {m n:Nat},HD p m->HD q n->(Ft p q).getD (m+n) 0=p.getD m 0*q.getD n 0
 | [],q,m,n,h,_=>absurd (by simp) h.1
 |
  a::p,q,0,n,h,h'=>by
  have h1:∀ k,p.getD k 0=0:=λk=>by have:=h.2 (k+1) (by omega); rwa [Q0] at this
  simp only [Ft];rw [Hb,H3,Zp,Zz];cases n with
  | zero=>rw [Zp]; grind
  | succ n=>rw [Q0,Qfn h1]; grind
 |
  a::p,q,m+1,n,h,h'=>by
  have ih:=Q0i (p:=p) (q:=q) (m:=m) ⟨by have:=h.1; rwa [Q0] at this,λk hk=>by have:=h.2 (k+1) (by omega); rwa [Q0] at this⟩ h';simp only [Ft];rw [Hb,H3,show m+1+n=(m+n)+1 by omega,Q0,h'.2 _ (by omega),ih,Q0]; grind
theorem Qrn {a b c:List Int} (ta:Ue a) (tb:Ue b) (tc:Ue c) (h:∀ t,Uf c t=Uf a t*Uf b t) (la:0<a.length) (lb:0<b.length):Un c=Un a*Un b:=by
 have h1:=Qax ta la;have h2:=Qax tb lb;have h3:=Q0i h1 h2;have hl:=Sp ta tb tc h la lb;rw [<-M3 (p:=cz c) (λt=>by rw [Uh,Ud,Ud,Ud,h]),Tu,Tu,Tu,show a.length-1+(b.length-1)=c.length-1 by omega] at h3;unfold Un; exact_mod_cast h3
theorem Hi {a b c:List Int} (tc:Ue c) (hc:c.length≠0) (h:∀ t,Uf c t=Uf a t*Uf b t):0<a.length/\0<b.length:=by
 constructor
 ·rcases Qx a.length with e | e
  ·exact absurd (λt=>by rw [h,Bq e]; grind) (Qfg tc (by omega))
  ·exact e
 ·rcases Qx b.length with e | e
  ·exact absurd (λt=>by rw [h,Bq e]; grind) (Qfg tc (by omega))
  ·exact e
theorem Qon {b:List Int} (tb:Ue b) (hb:b.length≠0):∀ (i:Nat) (a q h:List Int),Ue a->Ue h->(∀ t,Uf a t=Uf b t*Uf h t)->a.length<b.length+i->i<=q.length->(∀ j,j<i->q.getD j 0=0)->∃ q',Qom b i a q=some q'/\q'.length=q.length/\∀ t,Uf q' t=Uf q t+Uf h t
 |
  0,a,q,h,ta,th,e,hl,_,_=>by
  have ha:a.length=0:=by
   rcases Qx a.length with e' | e'
   ·exact e'
   ·obtain ⟨p1,p2⟩:=Hi ta (by omega) e;have:=Sp tb th ta e p1 p2; omega
  refine ⟨q,by simp only [Qom]; rw [if_pos ha],rfl,λt=>?_⟩;have:∀ t,Uf h t=0:=λt=>by
   have:=Quo (p:=cz b) (q:=cz h) (r:=[]) (λh0=>Qfg tb (by omega) λt=>by rw [<-Ud]; exact h0 t) (λt=>by rw [Ud,Ud,<-e,Bq ha]; simp only [ev]; grind) t;rwa [Ud] at this
  rw [this]; grind
 |
  i+1,a,q,h,ta,th,e,hl,hq,h0=>by
  simp only [Qom];by_cases hlt:a.length<b.length+i
  ·rw [if_pos hlt];exact Qon tb hb i a q h ta th e hlt (by omega) λj hj=>h0 j (by omega)
  ·rw [if_neg hlt];obtain ⟨p1,p2⟩:=Hi ta (by omega) e;have hln:=Sp tb th ta e p1 p2;have hld:=Qrn tb th ta e p1 p2;have hlb:=Bn tb hb;rw [hld,if_pos (Int.mul_emod_right _ _),Xx _ hlb];have hli:h.length=i+1:=by omega
   have e2:∀ t,Uf (To a (Ff (trim (mono i (Un h))) b)) t=Uf b t*Uf (To h (mono i (Un h))) t:=λt=>by
    rw [Dx,Dx,U9,Eu,e]; grind
   have hl2:(To a (Ff (trim (mono i (Un h))) b)).length<b.length+i:=by
    have hl:=Qy4 (i:=i) (x:=Un h) (b:=b) (a:=a);unfold sta at hl;have:=Qn2 (p:=To a (Ff (trim (mono i (Un h))) b)) (n:=b.length+i-1) (Us _ _) (by omega) (by
     rw [Ba,Qoc,if_pos (by omega),show b.length+i-1-i=b.length-1 by omega,show b.length+i-1=a.length-1 by omega];have:Un a=a.getD (a.length-1) 0:=rfl;rw [<-this,hld];unfold Un;rw [Vj,Int.sub_eq_zero])
    omega
   obtain ⟨q',h1,h2,h3⟩:=Qon tb hb i _ (q.set i (Un h)) (To h (mono i (Un h))) (Us _ _) (Us _ _) e2 hl2 (by simp; omega) λj hj=>by
    rw [Qg,Yf,if_neg (by omega),<-Qg];exact h0 j (by omega)
   refine ⟨q',h1,by rw [h2,Ja],λt=>?_⟩;rw [h3,Qol q i _ t (by omega),h0 i (by omega),Dx,Et]
   push_cast; grind
theorem Q8a {a b h:List Int} {s:Nat} (ta:Ue a) (tb:Ue b) (th:Ue h) (ha:a.length≠0) (la:a.length<=10) (ba:Bd s a) (hs:s+69<=16777216) (e:∀ t,Uf a t=Uf b t*Uf h t):Oi a b=some h:=by
 obtain ⟨p1,p2⟩:=Hi ta ha e;have hln:=Sp tb th ta e p1 p2;obtain ⟨q,h1,h2,h3⟩:=Qon tb (by omega) (a.length+1-b.length) a (List.replicate (a.length+1-b.length) 0) h ta th e (by omega) (by simp) λj _=>Ho _ _
 have h4:trim q=h:=Qzo (G0 _) th λt=>by rw [Eu,h3,Ql3]; grind
 unfold Oi;rw [if_neg (by omega),h1];show chk (trim q)=_;rw [h4];exact Df (by omega) (W8 (Am ba la ta th tb ha λt=>by rw [e]; grind) (by omega))
end Orq
