/- F5 T1 T2 T3 T4 T5 T6 T7 T8 T9 T10 T11 T12 T13 T14 T15 T16 T17 -/
import Derived.Test.YtkkhemmhhedniaaGreatPart05
import Derived.Test.YtkkhemmhhedniaaGreatPart00
set_option linter.all false
namespace Orr
open Go Go.Proofs
set_option maxRecDepth 10000
theorem Zb8 {a b:Rat} (ha:Qb a) (hb:Qb b):Uw Tryz.prog 98 [.agg (rl a),.one (.row [rl b])] [.agg (rl (if 0<Gt b a then b else a))]:=by
 have ca:=Qhr (U0 a.num) (U0 (a.den:Int)) ha.s32.1 ha.s32.2;have cb:=Qhr (U0 b.num) (U0 (b.den:Int)) hb.s32.1 hb.s32.2;rw [Qec] at ca cb;have cc:=D6 hb.s31 ha.s31;refine Hn Tryz.func98 rfl ?_;refine go tt [.c [] ca] rfl trivial ?_;refine lp (S:=Nat) 3 (λL1 i=>(12,.v (.one (.int .i64 (i:Int))))::L1) (λi=>[.blk 72 (rl a),.blk 72 [.bool false,.nils,.bool false,.nils],.blk 72 (rl (if i=0 then a else if 0<Gt b a then b else a))]) (λi=>1-i) (λi=>i<=1) 0 (Qg _) rfl (λ_ _=>rfl) rfl λi hi=>?_
 rcases (show i=0\/i=1 by omega) with rfl | rfl
 ·by_cases h:0<Gt b a
  ·refine go tt [.t rfl,.x (i:=0) (xs:=rl b) rfl,.c [] cc,.t (by simpa using h),.c [] cb] rfl (by simp [Uu]) ?_;exact rd 1 (by omega) (by omega) (by rw [if_pos h]; rfl)
  ·refine go tt [.t rfl,.x (i:=0) (xs:=rl b) rfl,.c [] cc,.f (by simpa using h)] rfl (by simp [Uu]) ?_;exact rd 1 (by omega) (by omega) (by rw [if_neg h]; rfl)
 ·exact en tt [.f rfl] rfl rfl trivial
theorem Q4n {a b:Tm} {c:Int} (ha:Tb a) (hb:Tb b) (h:Qlg a b=some c):Uw Tryz.prog 92 [.agg (ta a),.agg (ta b)] [.one (.int .i64 c)]:=by
 have ca:=Qhs ha;have cb:=Qhs hb;have pa:=Cj ha;have pb:=Cj hb;unfold Qlg at h;by_cases h1:a.point=true
 ·rw [if_pos h1] at h;injection h with h; subst h;have:=Zcj b a.lo;exact w tt Tryz.func92 rfl [.c [] ca,.c [] cb,.c [] pa,.t h1,.c [] (Qu7 hb ha.lo)] rfl rfl (by simp [Uu]; omega)
 rw [if_neg h1] at h;have h1:a.point=false:=by simpa using h1
 by_cases h2:b.point=true
 ·rw [if_pos h2] at h;injection h with h; subst h;exact w tt Tryz.func92 rfl [.c [] ca,.c [] cb,.c [] pa,.f h1,.c [] pb,.t h2,.c [] (Qu7 ha hb.lo)] rfl rfl trivial
 rw [if_neg h2] at h;have h2:b.point=false:=by simpa using h2
 obtain ⟨lo,hlo⟩:=nmE (if 0<Gt b.lo a.lo then b.lo else a.lo);obtain ⟨hi,hhi⟩:=nmE (if Gt b.hi a.hi<0 then b.hi else a.hi);have h:(if Gt lo hi<0 then (Qpz a.p b.p).bind λg=>if 1<g.length/\Qdm g lo hi=true then some 0 else (apF (S6 a b) a b).bind λr=>some r.2.2 else (apF (S6 a b) a b).bind λr=>some r.2.2)=some c:=by rw [hlo,hhi]; exact h
 have qlo:Qb lo:=by rw [hlo]; split; exact hb.lo; exact ha.lo
 have qhi:Qb hi:=by rw [hhi]; split; exact hb.hi; exact ha.hi
 have cm:=Zb8 ha.lo hb.lo;rw [<-hlo] at cm;have cc1:=D6 hb.hi.s31 ha.hi.s31;have cc2:=D6 qlo.s31 qhi.s31;refine Hn Tryz.func92 rfl ?_;refine go tt [.c [] ca,.c [] cb,.c [] pa,.f h1,.c [] pb,.f h2,.c [] cm] rfl trivial ?_;refine ct 2 (S:=Unit) (λ_=>[(6,.v (.one (.ow 3 0))),(5,.v (.one (.ow 2 0))),(4,.v (.one (.int .i64 0))),(3,.v (.one (.ow 1 0))),(2,.v (.one (.ow 0 0)))]) (λ_=>[.blk 74 (ta a),.blk 74 (ta b),.blk 72 (rl lo),.blk 72 (rl hi)]) (λ_=>True) rfl ?_ ?_
 ·by_cases D:Gt b.hi a.hi<0
  ·rw [if_pos D] at hhi; subst hhi;exact go tt [.c [] cc1,.t (by simpa using D)] rfl trivial (rc () trivial rfl)
  ·rw [if_neg D] at hhi; subst hhi;exact go tt [.c [] cc1,.f (by simpa using D)] rfl trivial (rc () trivial rfl)
 ·rintro _ _
  by_cases D:Gt lo hi<0
  ·rw [if_pos D] at h;obtain ⟨g,g1,h⟩:=Qm.1 h;have cg:=Q44 ha.p hb.p g1;have pg:=Q8n ha.p hb.p g1;have ch:=Q5k pg qlo qhi;by_cases G:1<g.length
   ·by_cases R:Qdm g lo hi=true
    ·rw [if_pos ⟨G,R⟩] at h;injection h with h; subst h;exact en tt [.c [] cc2,.t (by simpa using D),.c [] cg,.c [] (Bh g),.g 58 true (by simp; omega),.c [] ch,.t R] rfl rfl trivial
    ·rw [if_neg λh=>R h.2] at h;obtain ⟨r,r1,h⟩:=Qm.1 h;injection h with h; subst h;exact en tt [.c [] cc2,.t (by simpa using D),.c [] cg,.c [] (Bh g),.g 58 true (by simp; omega),.c [] ch,.f (by simpa using R),.c [] (Qog ha hb r1)] rfl rfl trivial
   ·rw [if_neg λh=>G h.1] at h;obtain ⟨r,r1,h⟩:=Qm.1 h;injection h with h; subst h;exact en tt [.c [] cc2,.t (by simpa using D),.c [] cg,.c [] (Bh g),.g 58 false (by simp; omega),.f rfl,.c [] (Qog ha hb r1)] rfl rfl trivial
  ·rw [if_neg D] at h;obtain ⟨r,r1,h⟩:=Qm.1 h;injection h with h; subst h;exact en tt [.c [] cc2,.f (by simpa using D),.c [] (Qog ha hb r1)] rfl rfl trivial
theorem Zbq {p:List Int} {a:Tm} {s:Int} (hp:Pb p) (ha:Tb a) (h:Qk4 p a=some s):Uw Tryz.prog 228 [pr p,.agg (ta a)] [.one (.int .i64 s)]:=by
 have ca:=Qhs ha;have pa:=Cj ha;have cn:=Rk hp.t hp.ln hp.bd;unfold Qk4 at h;by_cases h0:p.length=0
 ·rw [if_pos h0] at h;injection h with h; subst h;exact w tt Tryz.func228 rfl [.c [] cn,.c [] ca,.t (by simp; exact Qh h0)] rfl rfl trivial
 rw [if_neg h0] at h;have h0:p≠[]:=λe=>h0 (by rw [e]; rfl)
 by_cases h1:a.point=true
 ·rw [if_pos h1] at h;injection h with h; subst h;exact w tt Tryz.func228 rfl [.c [] cn,.c [] ca,.f (by simpa using h0),.c [] pa,.t h1,.c [] (Qhc hp ha.lo)] rfl rfl trivial
 rw [if_neg h1] at h;have h1:a.point=false:=by simpa using h1
 obtain ⟨g,g1,h⟩:=Qm.1 h;have cg:=Q44 hp ha.p g1;have pg:=Q8n hp ha.p g1;have ch:=Q5k pg ha.lo ha.hi;by_cases G:1<g.length/\Qdm g a.lo a.hi=true
 ·rw [if_pos G] at h;injection h with h; subst h;exact w tt Tryz.func228 rfl [.c [] cn,.c [] ca,.f (by simpa using h0),.c [] pa,.f h1,.c [] cg,.c [] (Bh g),.g 29 true (by simp; omega),.c [] ch,.t G.2] rfl rfl trivial
 rw [if_neg G] at h;obtain ⟨c,c1,h⟩:=Qm.1 h;obtain ⟨u,u1,h⟩:=Qm.1 h;injection h with h; subst h;obtain ⟨cl,call⟩:=chain_ok hp c1;obtain ⟨n,hn⟩:=nmE (64+2*(U9 a.lo.num+U9 a.hi.num)+4*(a.p.length+p.length)*(Gs a.p+Gs p+(a.p.length+p.length)+8));have cst:=Q51 ha hp;rw [show Qxs p a=n from hn.symm] at cst;rw [<-hn] at u1;have hnb:n<=17179938816+200000000:=by
  have l1:=ha.p.l;have l2:=hp.l;have b1:=ha.lo.1;have b2:=ha.hi.1;have s1:Gs a.p<=16777216:=by have:=Pn ha.p.b a.p.length; rwa [Q0] at this
  have s2:Gs p<=16777216:=by have:=Pn hp.b p.length; rwa [Q0] at this
  have:4*(a.p.length+p.length)*(Gs a.p+Gs p+(a.p.length+p.length)+8)<=512*33554568:=Zr (by omega) (by omega);omega
 refine Hn Tryz.func228 rfl ?_;refine go tt [.c [] cn,.c [] ca,.f (by simpa using h0),.c [] pa,.f h1,.c [] cg] rfl trivial ?_;refine ct 2 (S:=Unit) (λ_=>[(3,.v (.one (.ow 0 0))),(0,.v (pr p))]) (λ_=>[.blk 74 (ta a)]) (λ_=>True) rfl ?_ ?_
 ·by_cases G1:1<g.length
  ·exact go tt [.c [] (Bh g),.g 29 true (by simp; omega),.c [] ch,.f (by simpa using λh=>G ⟨G1,h⟩)] rfl trivial (rc () trivial rfl)
  ·exact go tt [.c [] (Bh g),.g 29 false (by simp; omega),.f rfl] rfl trivial (rc () trivial rfl)
 rintro _ _
 refine go tt [.c [] (Zha hp c1),.c [] cst] rfl trivial ?_;refine lp (S:=Nat×Tm) 1 (λL1 s=>(46,.v (.one (.int .i64 (s.1:Int))))::L1) (λs=>[.blk 74 (ta s.2)]) (λs=>n-s.1) (λs=>s.1<=n/\Tb s.2/\sgF c (n-s.1) s.2=some u) (0,a) ⟨Qg _,ha,u1⟩ rfl (λ_ _=>rfl) rfl λ⟨i,x⟩ ⟨j1,j2,j3⟩=>?_
 dsimp only at j1 j2 j3 ⊢;by_cases hi:i<n
 ·obtain ⟨k,hk⟩:∃ k,n-i=k+1:=⟨n-i-1,by omega⟩;have hk':n-(i+1)=k:=by omega
  rw [hk] at j3;simp only [sgF] at j3;have px:=Cj j2;have cb:=Q1w (by omega) call j2.lo j2.hi;have hlt:decide ((i:Int)<(n:Int))=true:=by simp; omega
  by_cases X:x.point=true
  ·rw [if_pos (.inl X)] at j3;injection j3 with j3; subst j3;exact en tt [.t hlt,.c [] px,.g 50 true X,.t rfl,.c [] (Qhc hp j2.hi)] rfl rfl trivial
  ·have X':x.point=false:=by simpa using X
   by_cases Z:Tl c x.lo x.hi=0
   ·rw [if_pos (.inr Z)] at j3;injection j3 with j3; subst j3;exact en tt [.t hlt,.c [] px,.g 50 false X',.c [] cb,.t (by simpa using Z),.c [] (Qhc hp j2.hi)] rfl rfl trivial
   ·rw [if_neg (by rintro (h | h); exact X h; exact Z h)] at j3;obtain ⟨v,v1,v2⟩:=Qm.1 j3;refine go tt [.t hlt,.c [] px,.g 50 false X',.c [] cb,.f (by simpa using Z),.c [] (Qve j2 v1)] rfl (by simp [Uu]; omega) ?_;exact rd (i+1,v) (by dsimp only; omega) ⟨hi,Qqn j2 v1,by dsimp only; rw [hk']; exact v2⟩ rfl
 ·obtain rfl:i=n:=by omega
  rw [Jn] at j3;simp only [sgF] at j3;injection j3 with j3; subst j3;exact en tt [.f (by simp),.c [] (Qhc hp j2.hi)] rfl rfl trivial
abbrev tas (l:List Tm):LV:=.row (l.map λt=>ta t)
theorem Q1e {l:List Tm} {i:Nat} {t:Tm} (h:l[i]? = some t):(l.map λt=>ta t)[i]? = some (ta t):=Ho h
theorem Q4o {b:Tm} {l:List Tm} {m:Tm} (hb:Tb b) (hl:∀ t∈l,Tb t) (hn:l.length≤1000000) (h:Io b l=some m):Uw Tryz.prog 85 [.one (tas (b::l))] [.agg (ta m),.one (.bool true)]:=by
 refine Hn Tryz.func85 rfl ?_;refine go tt [.f (by simp; omega),.x (i:=0) (xs:=ta b) rfl,.i 1] rfl (by simp [Uu]; exact ⟨rfl,λ_ _=>rfl⟩) ?_;refine lp (S:=Nat×Tm) 2 (λL1 s=>(17,.v (.one (.int .i64 (s.1:Int))))::L1) (λs=>[.blk 74 zTm,.blk 74 (ta s.2)]) (λs=>l.length-s.1) (λs=>s.1<=l.length/\Tb s.2/\Io s.2 (l.drop s.1)=some m) (0,b) ⟨Qg _,hb,h⟩ rfl (λ_ _=>rfl) rfl λ⟨i,x⟩ ⟨j1,j2,j3⟩=>?_
 dsimp only at j1 j2 j3 ⊢;by_cases hi:i<l.length
 ·obtain ⟨a,ha⟩:=gxE (l:=l) (i:=i) hi;have hdr:l.drop i=a::l.drop (i+1):=by
   rw [Zl hi]; congr 1;have:=Qe hi; rw [ha] at this; injection this with this; exact this.symm
  rw [hdr] at j3;simp only [Io] at j3;obtain ⟨c,c1,j3⟩:=Qm.1 j3;have ta':=hl a (Qa ha);by_cases hc:c<0
  ·rw [if_pos hc] at j3;refine go tt [.t (by simp; omega),.x (Q1e ha),.c [] (Q4n ta' j2 c1),.t (by simpa using hc)] rfl (by simp [Uu]; omega) ?_;exact rd (i+1,a) (by dsimp only; omega) ⟨hi,ta',j3⟩ rfl
  ·rw [if_neg hc] at j3;refine go tt [.t (by simp; omega),.x (Q1e ha),.c [] (Q4n ta' j2 c1),.f (by simpa using hc)] rfl (by simp [Uu]; omega) ?_;exact rd (i+1,x) (by dsimp only; omega) ⟨hi,j2,j3⟩ rfl
 ·obtain rfl:i=l.length:=by omega
  rw [Ky] at j3;simp only [Io] at j3;injection j3 with j3; subst j3;exact en tt [.f (by simp),.c [] (Q52 j2)] rfl rfl trivial
end Orr
namespace Orq
def U7 (x:Rat):Rat:=if x<0 then -x else x
theorem Hd (x:Rat):0<=U7 x:=by unfold U7; split <;> grind
theorem Ty {x b:Rat}:U7 x<=b↔-b<=x/\x<=b:=by unfold U7; split <;> constructor <;> grind
theorem Qp6 {x b:Rat}:U7 x<b↔-b<x/\x<b:=by unfold U7; split <;> constructor <;> grind
theorem Tq (x y:Rat):U7 (x+y)<=U7 x+U7 y:=by unfold U7; split <;> split <;> split <;> grind
theorem Q00 (x y:Rat):U7 (x-y)=U7 (y-x):=by unfold U7; split <;> split <;> grind
theorem Dn (x:Rat):U7 (-x)=U7 x:=by unfold U7; split <;> split <;> grind
theorem Hx:U7 0=0:=by decide
theorem Nv {x:Rat} (h:x≠0):0<U7 x:=by unfold U7; split <;> grind
theorem Zed {x:Rat} (h:U7 x=0):x=0:=by unfold U7 at h; split at h <;> grind
theorem P9 {x y:Rat} (h1:0<=x) (h2:0<=y):0<=x*y:=Vb h1 h2
theorem Em {x y:Rat} (h1:0<x) (h2:0<y):0<x*y:=Jh h1 h2
theorem Pk {a b c d:Rat} (h0:0<=a) (h1:a<=b) (h2:0<=c) (h3:c<=d):a*c<=b*d:=by
 have e1:=Q4 h1 h2;have e2:=Zp h3 (Q9 h0 h1);exact Q9 e1 e2
theorem Dm (x y:Rat):U7 (x*y)=U7 x*U7 y:=by
 unfold U7;by_cases h1:x<0 <;> by_cases h2:y<0
 ·have:=Em (x:=-x) (y:=-y) (by grind) (by grind); simp only [h1,h2,if_true]; split <;> grind
 ·have:=P9 (x:=-x) (y:=y) (by grind) (by grind); simp only [h1,h2,if_true,if_false]; split <;> grind
 ·have:=P9 (x:=x) (y:=-y) (by grind) (by grind); simp only [h1,h2,if_true,if_false]; split <;> grind
 ·have:=P9 (x:=x) (y:=y) (by grind) (by grind); simp only [h1,h2,if_false]; split <;> grind
theorem Gu {x y a b:Rat} (h1:U7 x<=a) (h2:U7 y<=b):U7 (x*y)<=a*b:=by
 rw [Dm]; exact Pk (Hd x) h1 (Hd y) h2
theorem La {x y:Rat} (h1:0<x) (h2:0<y):0<x / y:=by rw [Jx]; exact Em h1 (Rat.inv_pos.2 h2)
theorem Gh {x y:Rat} (h2:0<y):x / y*y=x:=Zj (by grind)
theorem Gw {b d:Rat} (hb:0<=b) (hd:0<d):∃ e:Rat,0<e/\e<=1/\e*b<d:=by
 have h1:0<d / (b+1):=La hd (by grind);have h2:d / (b+1)*(b+1)=d:=Gh (by grind);rcases V4 (a:=d / (b+1)) (b:=1) with h | h
 ·exact ⟨d / (b+1),h1,h,by
   have:d / (b+1)*(b+1)=d / (b+1)*b+d / (b+1):=by grind
   grind⟩
 ·refine ⟨1,by decide,by decide,?_⟩;have:1*(b+1)<=d / (b+1)*(b+1):=Q4 h (by grind);grind
def ev:List Rat->Rat->Rat
 | [],_=>0
 | a::p,t=>a+t*ev p t
def dv:List Rat->Rat->Rat
 | [],_=>0
 | _::p,t=>ev p t+t*dv p t
def dq:List Rat->Rat->Rat->Rat
 | [],_,_=>0
 | _::p,x,y=>ev p x+y*dq p x y
def dd:List Rat->Rat->Rat->Rat
 | [],_,_=>0
 | _::p,x,y=>dq p x y+y*dd p x y
theorem Ql8 (x y:Rat):∀ p,ev p x-ev p y=(x-y)*dq p x y
 | []=>by simp only [ev,dq]; grind
 | a::p=>by have:=Ql8 x y p; simp only [ev,dq]; grind
theorem Qoy (y:Rat):∀ p,dq p y y=dv p y
 | []=>rfl
 | a::p=>by simp only [dq,dv,Qoy y p]
theorem Zfz (x y:Rat):∀ p,dq p x y-dv p y=(x-y)*dd p x y
 | []=>by simp only [dv,dq,dd]; grind
 |
  a::p=>by
  have h1:=Zfz x y p;have h2:=Ql8 x y p;simp only [dv,dq,dd]; grind
theorem Zf2 (p:List Rat) (x y:Rat):ev p x-ev p y=(x-y)*dv p y+(x-y)*(x-y)*dd p x y:=by
 have h1:=Ql8 x y p;have h2:=Zfz x y p;grind
def evB (R:Rat):List Rat->Rat
 | []=>0
 | a::p=>U7 a+R*evB R p
def dqB (R:Rat):List Rat->Rat
 | []=>0
 | _::p=>evB R p+R*dqB R p
def ddB (R:Rat):List Rat->Rat
 | []=>0
 | _::p=>dqB R p+R*ddB R p
theorem Ij {R:Rat} (hR:0<=R):∀ p,0<=evB R p
 | []=>by simp only [evB]; grind
 | a::p=>by have:=P9 hR (Ij hR p); have:=Hd a; simp only [evB]; grind
theorem Ph {R:Rat} (hR:0<=R):∀ p,0<=dqB R p
 | []=>by simp only [dqB]; grind
 | a::p=>by have:=P9 hR (Ph hR p); have:=Ij hR p; simp only [dqB]; grind
theorem Qi6 {R:Rat} (hR:0<=R):∀ p,0<=ddB R p
 | []=>by simp only [ddB]; grind
 | a::p=>by have:=P9 hR (Qi6 hR p); have:=Ph hR p; simp only [ddB]; grind
theorem Qgm {R x:Rat} (hx:U7 x<=R):∀ p,U7 (ev p x)<=evB R p
 | []=>by simp only [ev,evB,Hx]; grind
 |
  a::p=>by
  have h1:=Tq a (x*ev p x);have h2:=Gu hx (Qgm hx p);simp only [ev,evB]; grind
theorem Qr8 {R x y:Rat} (hx:U7 x<=R) (hy:U7 y<=R):∀ p,U7 (dq p x y)<=dqB R p
 | []=>by simp only [dq,dqB,Hx]; grind
 |
  a::p=>by
  have h1:=Tq (ev p x) (y*dq p x y);have h2:=Gu hy (Qr8 hx hy p);have h3:=Qgm hx p;simp only [dq,dqB]; grind
theorem Q6i {R x y:Rat} (hx:U7 x<=R) (hy:U7 y<=R):∀ p,U7 (dd p x y)<=ddB R p
 | []=>by simp only [dd,ddB,Hx]; grind
 |
  a::p=>by
  have h1:=Tq (dq p x y) (y*dd p x y);have h2:=Gu hy (Q6i hx hy p);have h3:=Qr8 hx hy p;simp only [dd,ddB]; grind
theorem Q6y {R x y:Rat} (hx:U7 x<=R) (hy:U7 y<=R) (p:List Rat):U7 (ev p x-ev p y)<=U7 (x-y)*dqB R p:=by
 rw [Ql8,Dm]; exact Pk (Hd _) Qo (Hd _) (Qr8 hx hy p)
def Tr:List Rat->List Rat->List Rat
 | [],q=>q
 | a::p,[]=>a::p
 | a::p,b::q=>(a+b)::Tr p q
def Ce (c:Rat) (p:List Rat):List Rat:=p.map (c * ·)
def Gn:List Rat->List Rat->List Rat
 | [],_=>[]
 | a::p,q=>Tr (Ce a q) (0::Gn p q)
def Mw:List Rat->List Rat
 | []=>[]
 | _::p=>Tr p (0::Mw p)
theorem Gj (t:Rat):∀ p q,ev (Tr p q) t=ev p t+ev q t
 | [],q=>by simp only [Tr,ev]; grind
 | a::p,[]=>by simp only [Tr,ev]; grind
 | a::p,b::q=>by have:=Gj t p q; simp only [Tr,ev]; grind
theorem Fy (c t:Rat):∀ p,ev (Ce c p) t=c*ev p t
 | []=>by simp only [Ce,Jl,ev]; grind
 | a::p=>by have:=Fy c t p; simp only [Ce,Z8,ev] at *; grind
theorem U5 (t:Rat):∀ p q,ev (Gn p q) t=ev p t*ev q t
 | [],q=>by simp only [Gn,ev]; grind
 | a::p,q=>by have:=U5 t p q; simp only [Gn,Gj,Fy,ev]; grind
theorem Rq (t:Rat):∀ p,ev (Mw p) t=dv p t
 | []=>rfl
 | a::p=>by have:=Rq t p; simp only [Mw,Gj,ev,dv]; grind
theorem Qo0 (t:Rat):∀ p q,dv (Tr p q) t=dv p t+dv q t
 | [],q=>by simp only [Tr,dv]; grind
 | a::p,[]=>by simp only [Tr,dv]; grind
 | a::p,b::q=>by have:=Qo0 t p q; have:=Gj t p q; simp only [Tr,dv]; grind
theorem Qfc (c t:Rat):∀ p,dv (Ce c p) t=c*dv p t
 | []=>by simp only [Ce,Jl,dv]; grind
 | a::p=>by have:=Qfc c t p; have:=Fy c t p; simp only [Ce,Z8,dv] at *; grind
theorem Qo1 (t:Rat):∀ p q,dv (Gn p q) t=dv p t*ev q t+ev p t*dv q t
 | [],q=>by simp only [Gn,dv,ev]; grind
 | a::p,q=>by have:=Qo1 t p q; have:=U5 t p q; simp only [Gn,Qo0,Qfc,dv,ev]; grind
theorem Qzo:∀ {p:List Rat},(∀ x∈p,x=0)->∀ t,ev p t=0
 | [],_,t=>rfl
 |
  a::p,h,t=>by
  have h1:=Qzo (p:=p) (λx hx=>h x (Qk _ hx)) t;have h2:=h a (Qx ..);simp only [ev,h1,h2]; grind
theorem Qzj:∀ {p:List Rat},(∀ x∈p,x=0)->∀ t,dv p t=0
 | [],_,t=>rfl
 |
  a::p,h,t=>by
  have h0:=λx hx=>h x (Qk _ hx)
  have h1:=Qzo (p:=p) h0 t;have h2:=Qzj (p:=p) h0 t;simp only [dv,h1,h2]; grind
theorem Qcy:∀ {p:List Rat},(∀ t,0<t->t<1->ev p t=0)->∀ x∈p,x=0
 | [],_=>λx hx=>by cases hx
 |
  a::p,h=>by
  have ha:a=0:=by
   rcases Classical.em (a=0) with h0 | h0
   ·exact h0
   ·obtain ⟨e,e1,e2,e3⟩:=Gw (Ij (R:=1) (by decide) p) (Nv h0);obtain ⟨f,f1,f2,f3⟩:=Gw (b:=1) (d:=e) (by decide) e1;have h1:=h f f1 (by grind);have h2:=Qgm (R:=1) (x:=f) (by unfold U7; split <;> grind) p;have h3:=Dm f (ev p f);have h4:U7 f=f:=by unfold U7; split <;> grind
    have h5:a=-(f*ev p f):=by simp only [ev] at h1; grind
    have h6:U7 a=f*U7 (ev p f):=by rw [h5,Dn,h3,h4]
    have h7:f*U7 (ev p f)<=e*evB 1 p:=Pk (Qp f1) (by grind) (Hd _) h2;grind
  intro x hx;rcases Qq.1 hx with rfl | hx
  ·exact ha
  ·refine Qcy (p:=p) (λt h1 h2=>?_) x hx;have:=h t h1 h2;simp only [ev,ha] at this;have h3:t*ev p t=0:=by grind
   rcases Je.1 h3 with h4 | h4
   ·grind
   ·exact h4
theorem Q6q {p q:List Rat} (h:∀ t,ev p t=ev q t) (t:Rat):dv p t=dv q t:=by
 have h1:=Qzj (p:=Tr p (Ce (-1) q)) (Qcy λt _ _=>by rw [Gj,Fy,h t]; grind) t;rw [Qo0,Qfc] at h1; grind
def U6 (x:Rat):Int:=if x<0 then -1 else if 0<x then 1 else 0
theorem Fq {x:Rat}:U6 x=0↔x=0:=by
 unfold U6; constructor
 ·intro h; split at h <;> (try split at h) <;> grind
 ·intro h; subst h; rfl
theorem Hy {x:Rat}:U6 x=1↔0<x:=by
 unfold U6; constructor
 ·intro h; split at h <;> (try split at h) <;> grind
 ·intro h; rw [if_neg (by grind),if_pos h]
theorem Tz {x:Rat}:U6 x=-1↔x<0:=by
 unfold U6; constructor
 ·intro h; split at h <;> (try split at h) <;> grind
 ·intro h; rw [if_pos h]
theorem Ga (x:Rat):U6 x=-1/\x<0\/U6 x=0/\x=0\/U6 x=1/\0<x:=by
 rcases V4 (a:=x) (b:=0) with h | h
 ·rcases Classical.em (x=0) with h0 | h0
  ·exact .inr (.inl ⟨Fq.2 h0,h0⟩)
  ·exact .inl ⟨Tz.2 (by grind),by grind⟩
 ·rcases Classical.em (x=0) with h0 | h0
  ·exact .inr (.inl ⟨Fq.2 h0,h0⟩)
  ·exact .inr (.inr ⟨Hy.2 (by grind),by grind⟩)
theorem Ts (x y:Rat):U6 (x*y)=U6 x*U6 y:=by
 rcases Ga x with ⟨e1,h1⟩ | ⟨e1,h1⟩ | ⟨e1,h1⟩ <;> rcases Ga y with ⟨e2,h2⟩ | ⟨e2,h2⟩ | ⟨e2,h2⟩ <;> rw [e1,e2]
 ·have:=Em (x:=-x) (y:=-y) (by grind) (by grind); exact Hy.2 (by grind)
 ·subst h2; exact Fq.2 (by grind)
 ·have:=Em (x:=-x) (y:=y) (by grind) (by grind); exact Tz.2 (by grind)
 ·subst h1; exact Fq.2 (by grind)
 ·subst h1; exact Fq.2 (by grind)
 ·subst h1; exact Fq.2 (by grind)
 ·have:=Em (x:=x) (y:=-y) (by grind) (by grind); exact Tz.2 (by grind)
 ·subst h2; exact Fq.2 (by grind)
 ·exact Hy.2 (Em h1 h2)
theorem Sw {a b d:Rat} (h1:d<=U7 a) (h2:U7 (b-a)<d):U6 b=U6 a/\U6 a≠0:=by
 rw [Qp6] at h2;rcases Ga a with ⟨e,h⟩ | ⟨e,h⟩ | ⟨e,h⟩
 ·rw [e,Tz]; unfold U7 at h1; rw [if_pos h] at h1; exact ⟨by grind,by decide⟩
 ·subst h; rw [Hx] at h1; grind
 ·rw [e,Hy]; unfold U7 at h1; rw [if_neg (by grind)] at h1; exact ⟨by grind,by decide⟩
def tc (x:Rat):Int->List (List Rat)->Nat
 | _,[]=>0
 | s,p::l=>if U6 (ev p x)=0 then tc x s l else (if s=-(U6 (ev p x)) then 1 else 0)+tc x (U6 (ev p x)) l
inductive SCl:List Rat->List Rat->List (List Rat)->Prop
 | base {f g:List Rat} {c:Rat} (hc:c≠0) (hg:∀ t,ev g t=c):SCl f g []
 | step {f g h:List Rat} {l:List (List Rat)} {a b:Rat} {q:List Rat} (ha:0<a) (hb:0<b) (he:∀ t,a*ev f t=ev q t*ev g t-b*ev h t) (hl:SCl g h l):SCl f g (h::l)
theorem Zam {x:Rat} {s:Int} {g h:List Rat} {l:List (List Rat)} (hh:U6 (ev h x)=-s) (hs:s≠0):tc x s (g::h::l)=1+tc x (-s) l:=by
 have h3:U6 (ev h x)≠0:=by omega
 have hv:s=1\/s=-1:=by rcases Ga (ev h x) with ⟨e,_⟩ | ⟨e,_⟩ | ⟨e,_⟩ <;> omega
 simp only [tc,if_neg h3,hh];rcases Ga (ev g x) with ⟨e,_⟩ | ⟨e,_⟩ | ⟨e,_⟩ <;> rw [e] <;> rcases hv with rfl | rfl <;> simp
theorem Qem {x:Rat} {s:Int} {p:List Rat} {l:List (List Rat)} (h:U6 (ev p x)≠0):tc x s (p::l)=(if s=-(U6 (ev p x)) then 1 else 0)+tc x (U6 (ev p x)) l:=by rw [tc,if_neg h]
theorem Pj {R x y e d:Rat} {p:List Rat} (hx:U7 x<=R) (hy:U7 y<=R) (hR:0<=R) (h:U7 (y-x)<=e) (hd:e*dqB R p<d):U7 (ev p y-ev p x)<d:=by
 have h1:=Q6y hy hx p;have h2:=Q4 h (Ph hR p);grind
theorem Qmx {a x y:Rat} (ha:0<a) (h:a*x<a*y):x<y:=by
 rcases V4 (a:=y) (b:=x) with h' | h'
 ·have:=Zp h' (Qp ha); grind
 ·rcases Classical.em (x=y) with e | e
  ·subst e; grind
  ·grind
theorem Zi8 {a b d d' B f g h q:Rat} (ha:0<a) (hb:0<b) (dp:0<d) (h7:B*d+a*d<b*d') (hq:U7 q<=B) (hg:U7 g<d) (hh:d'<=U7 h) (he:a*f=q*g-b*h) (hd':0<d'):U6 h=-U6 f/\d<=U7 f:=by
 have h4:=Gu hq (Qp hg);rw [Ty] at h4;have had:=Em ha dp;have h8:=Zp hh (Qp hb);rcases Ga h with ⟨s,p⟩ | ⟨s,p⟩ | ⟨s,p⟩
 ·have:U7 h=-h:=by unfold U7; rw [if_pos p]
  rw [this] at h8;have h10:d<f:=Qmx ha (by grind);rw [s,Hy.2 (show 0<f by grind)];exact ⟨rfl,by unfold U7; split <;> grind⟩
 ·rw [p,Hx] at hh; grind
 ·have:U7 h=h:=by unfold U7; rw [if_neg (by grind)]
  rw [this] at h8;have h10:f < -d:=Qmx ha (by grind);rw [s,Tz.2 (show f<0 by grind)];exact ⟨rfl,by unfold U7; split <;> grind⟩
theorem min2 {a b:Rat} (ha:0<a) (hb:0<b):∃ e:Rat,0<e/\e<=a/\e<=b:=by
 rcases V4 (a:=a) (b:=b) with h | h
 ·exact ⟨a,ha,Qo,h⟩
 ·exact ⟨b,hb,h,Qo⟩
theorem Fj (a b:Rat):a<=b\/b<a:=by
 rcases V4 (a:=a) (b:=b) with h | h
 ·exact .inl h
 ·rcases Classical.em (a=b) with e | e
  ·exact .inl (by grind)
  ·exact .inr (by grind)
theorem Zih {R:Rat} (hR:0<=R) {f g:List Rat} {l:List (List Rat)} (hc:SCl f g l):∃ d e:Rat,0<d/\0<e/\∀ x y,U7 x<=R->U7 y<=R->U7 (y-x)<=e ->
 (d<=U7 (ev f x)\/d<=U7 (ev g x))/\(d<=U7 (ev f x)->U6 (ev f y)=U6 (ev f x)/\U6 (ev f x)≠0)/\(d<=U7 (ev g x)->U6 (ev g y)=U6 (ev g x)/\U6 (ev g x)≠0) /\
 (U6 (ev f y)=U6 (ev f x)->U6 (ev f x)≠0->tc x (U6 (ev f x)) (g::l)=tc y (U6 (ev f x)) (g::l)) /\
 (U6 (ev g y)=U6 (ev g x)->U6 (ev g x)≠0->tc x (U6 (ev g x)) l=tc y (U6 (ev g x)) l):=by
 induction hc with
 |
  @base f g c hc hg =>
  have hd:=Nv hc;obtain ⟨e,e1,e2,e3⟩:=Gw (Ph hR f) hd;refine ⟨U7 c,e,hd,e1,λx y hx hy hxy=>⟨.inr (by rw [hg]; exact Qo),λh=>Sw h (Pj hx hy hR hxy e3),λh=>?_,λ_ _=>?_,λ_ _=>rfl⟩⟩
  ·rw [hg,hg]; exact ⟨rfl,λh=>hc (Fq.1 h)⟩
  ·simp only [tc,hg]
 |
  @step f g h l a b q ha hb he hl ih =>
  obtain ⟨d',e',hd',he',ih⟩:=ih;obtain ⟨d1,d1p,_,d1b⟩:=Gw (b:=evB R q+a) (d:=b*d') (by have:=Ij hR q; grind) (Em hb hd');obtain ⟨d,dp,hd1,hdd⟩:=min2 d1p hd';obtain ⟨ef,ef1,_,ef3⟩:=Gw (Ph hR f) dp;obtain ⟨eg,eg1,_,eg3⟩:=Gw (Ph hR g) dp;obtain ⟨e0,e0p,h1,h2⟩:=min2 ef1 eg1;obtain ⟨e,ep,h0,h3⟩:=min2 e0p he';have h1:=Q9 h0 h1;have h2:=Q9 h0 h2;refine ⟨d,e,dp,ep,λx y hx hy hxy=>?_⟩;obtain ⟨i1,i2,i3,i4,i5⟩:=ih x y hx hy (Q9 hxy h3);have hsm:U7 (ev g x)<d->d'<=U7 (ev h x)/\U6 (ev h x)=-U6 (ev f x)/\d<=U7 (ev f x):=λhg=>by
   have hh:d'<=U7 (ev h x):=by
    rcases i1 with i | i
    ·exact absurd (Q9 hdd i) (Ji.2 hg)
    ·exact i
   have h6:d*(evB R q+a)<=d1*(evB R q+a):=Q4 hd1 (by have:=Ij hR q; clear ih i1 i2 i3 i4 i5 he; grind);have h7:evB R q*d+a*d<b*d':=by clear ih i1 i2 i3 i4 i5 he; grind
   exact ⟨hh,Zi8 ha hb dp h7 (Qgm hx q) hg hh (he x) hd'⟩
  have hfs:d<=U7 (ev f x)->U6 (ev f y)=U6 (ev f x)/\U6 (ev f x)≠0:=λh=>Sw h (Pj hx hy hR (Q9 hxy h1) ef3)
  have hgs:d<=U7 (ev g x)->U6 (ev g y)=U6 (ev g x)/\U6 (ev g x)≠0:=λh=>Sw h (Pj hx hy hR (Q9 hxy h2) eg3)
  refine ⟨?_,hfs,hgs,λs1 s2=>?_,i4⟩
  ·rcases Fj d (U7 (ev g x)) with h | h
   ·exact .inr h
   ·exact .inl (hsm h).2.2
  ·rcases Fj d (U7 (ev g x)) with h | h
   ·obtain ⟨g1,g2⟩:=hgs h;rw [Qem (x:=x) (p:=g) g2,Qem (x:=y) (p:=g) (by rw [g1]; exact g2),g1,i4 g1 g2]
   ·obtain ⟨h4,h5,_⟩:=hsm h;obtain ⟨h6,h7⟩:=i3 h4;have i5:=i5 h6 h7;rw [Zam h5 s2,Zam (h6.trans h5) s2,<-h5,i5]
def Sa (p:List Rat) (x:Rat):Int:=if U6 (ev p x)≠0 then U6 (ev p x) else U6 (dv p x)
def vv (L:List (List Rat)) (x:Rat):Nat:=tc x 0 L
def Stm (f:List Rat) (L:List (List Rat)):Prop:=(∃ c:Rat,c≠0/\(∀ t,ev f t=c)/\L=[f])\/∃ g l,∃ k:Rat,0<k/\(∀ t,ev g t=k*dv f t)/\SCl f g l/\L=f::g::l
structure Sm (w:List Rat) (x y:Rat):Prop where
 s:U6 (ev w y)=Sa w x
 l:Sa w y=Sa w x
 n:Sa w x≠0
theorem Li {p:List Rat} {x:Rat} (h:U6 (ev p x)≠0):Sa p x=U6 (ev p x):=by unfold Sa; rw [if_pos h]
theorem Qwn {p:List Rat} {x:Rat} (h:U6 (ev p x)=0):Sa p x=U6 (dv p x):=by unfold Sa; rw [if_neg (by simpa using h)]
theorem Qt1 {p:List Rat} {x y:Rat} (h:U6 (ev p y)=U6 (ev p x)) (h0:U6 (ev p x)≠0):Sm p x y:=by
 have h1:=Li h0;have h2:=Li (p:=p) (x:=y) (by rw [h]; exact h0);exact ⟨by rw [h,h1],by rw [h2,h1,h],by rw [h1]; exact h0⟩
theorem Ii {f w u:List Rat} (h:∀ t,ev f t=ev w t*ev u t) (x:Rat):dv f x=dv w x*ev u x+ev w x*dv u x:=by
 rw [<-Qo1]; exact Q6q (λt=>by rw [h,U5]) x
theorem Qz8 {f w u:List Rat} {x:Rat} (h:∀ t,ev f t=ev w t*ev u t) (hu:U6 (ev u x)≠0):Sa f x=Sa w x*U6 (ev u x):=by
 by_cases hw:U6 (ev w x)=0
 ·have hw0:=Fq.1 hw;have e1:ev f x=0:=by rw [h,hw0]; grind
  have e2:dv f x=dv w x*ev u x:=by rw [Ii h,hw0]; grind
  rw [Qwn hw,Qwn (Fq.2 e1),e2,Ts]
 ·have e1:U6 (ev f x)=U6 (ev w x)*U6 (ev u x):=by rw [h,Ts]
  rw [Li hw,Li (by rw [e1]; exact Jr hw hu),e1]
theorem Zi9 {f w u:List Rat} {x y:Rat} (h:∀ t,ev f t=ev w t*ev u t) (hu:U6 (ev u y)=U6 (ev u x)) (h0:U6 (ev u x)≠0) (hf:Sm f x y):Sm w x y:=by
 have e1:=Qz8 h h0;have e2:=Qz8 (x:=y) h (by rw [hu]; exact h0);have e3:U6 (ev f y)=U6 (ev w y)*U6 (ev u y):=by rw [h,Ts]
 obtain ⟨s,l,n⟩:=hf;rw [hu] at e2 e3;refine ⟨?_,?_,λh=>n (by rw [e1,h,Yf])⟩
 ·rw [e3,e1] at s; exact Y0 h0 s
 ·rw [e2,e1] at l; exact Y0 h0 l
theorem tc0 {x:Rat} {s:Int} {f g:List Rat} {l:List (List Rat)} (h:U6 (ev g x)=s) (hs:s≠0):tc x 0 (f::g::l)=(if U6 (ev f x)=-s then 1 else 0)+tc x s l:=by
 have hv:s=1\/s=-1:=by rcases Ga (ev g x) with ⟨e,_⟩ | ⟨e,_⟩ | ⟨e,_⟩ <;> omega
 have hg:U6 (ev g x)≠0:=by omega
 rw [tc];rcases Ga (ev f x) with ⟨e,_⟩ | ⟨e,_⟩ | ⟨e,_⟩ <;> rw [e] <;> rcases hv with rfl | rfl <;> simp [Qem hg,h]
theorem Qkb {R x y e d:Rat} {p:List Rat} (hx:U7 x<=R) (hy:U7 y<=R) (hR:0<=R) (hxy:x<y) (h:y-x<=e) (hd:d<=U7 (dv p x)) (he:e*ddB R p<d):U6 (ev p y-ev p x)=U6 (dv p x):=by
 have h1:=Zf2 p y x;have h2:ev p y-ev p x=(y-x)*(dv p x+(y-x)*dd p y x):=by rw [h1]; grind
 have h3:=Gu (x:=y-x) (y:=dd p y x) (a:=e) (b:=ddB R p) (by rw [Ty]; constructor <;> grind) (Q6i hy hx p);have h4:=Sw (b:=dv p x+(y-x)*dd p y x) hd (by
  have:dv p x+(y-x)*dd p y x-dv p x=(y-x)*dd p y x:=by grind
  rw [this]; exact Ji.1 λh=>absurd (Q9 h h3) (Ji.2 he))
 rw [h2,Ts,Hy.2 (show 0<y-x by grind),h4.1,Y9]
def Q4d (f w:List Rat) (L:List (List Rat)) (x y:Rat):Prop :=
 (vv L x=vv L y/\Sm f x y/\Sm w x y)\/(vv L x=vv L y+1/\Sa f x≠0/\Sa f y=-Sa f x/\U6 (ev f x)=Sa f x/\(U6 (ev f y)=0\/U6 (ev f y)=-Sa f x))
theorem Zf5 {R d:Rat} (hR:0<=R) (hd:0<d) {f w u:List Rat} (h:∀ t,ev f t=ev w t*ev u t):∃ e:Rat,0<e/\∀ x y,U7 x<=R->U7 y<=R->U7 (y-x)<=e->d<=U7 (ev f x)->Sm f x y/\Sm w x y:=by
 obtain ⟨ef,ef1,_,ef3⟩:=Gw (Ph hR f) hd;obtain ⟨d1,d1p,_,d1b⟩:=Gw (Ij hR u) hd;obtain ⟨ew,ew1,_,ew3⟩:=Gw (Ph hR w) d1p;obtain ⟨e,ep,e1,e2⟩:=min2 ef1 ew1;refine ⟨e,ep,λx y hx hy hxy hf=>⟨?_,?_⟩⟩
 ·have:=Sw hf (Pj hx hy hR (Q9 hxy e1) ef3);exact Qt1 this.1 this.2
 ·have hw:d1<=U7 (ev w x):=by
   rcases Fj d1 (U7 (ev w x)) with h' | h'
   ·exact h'
   ·have h5:=Gu (Qp h') (Qgm hx u);rw [<-h] at h5;exact absurd (Q9 hf h5) (Ji.2 d1b)
  have:=Sw hw (Pj hx hy hR (Q9 hxy e2) ew3);exact Qt1 this.1 this.2
theorem loc {R:Rat} (hR:0<=R) {f w u:List Rat} {L:List (List Rat)} (hc:Stm f L) (h:∀ t,ev f t=ev w t*ev u t):∃ e:Rat,0<e/\∀ x y,U7 x<=R->U7 y<=R->x<y->y-x<=e->Q4d f w L x y:=by
 rcases hc with ⟨c,hc,hf,rfl⟩ | ⟨g,l,k,hk,hg,hc,rfl⟩
 ·obtain ⟨e,ep,h1⟩:=Zf5 hR (Nv hc) h;refine ⟨e,ep,λx y hx hy hxy he=>.inl ⟨?_,h1 x y hx hy (by rw [Ty]; constructor <;> grind) (by rw [hf]; exact Qo)⟩⟩;simp only [vv,tc,hf]
 ·obtain ⟨d,e1,dp,e1p,h1⟩:=Zih hR hc;obtain ⟨e2,e2p,h2⟩:=Zf5 hR dp h;obtain ⟨d3,d3p,_,d3b⟩:=Gw (b:=k) (d:=d) (Qp hk) dp;obtain ⟨e3,e3p,_,e3b⟩:=Gw (Qi6 hR f) d3p;obtain ⟨d4,d4p,_,d4b⟩:=Gw (b:=dqB R w+dqB R u) (d:=d3) (by have:=Ph hR w; have:=Ph hR u; grind) d3p;obtain ⟨e4,e4p,_,e4b⟩:=Gw (Ph hR w) d4p;obtain ⟨e5,e5p,_,e5b⟩:=Gw (Ph hR u) d4p;obtain ⟨a1,a1p,a11,a12⟩:=min2 e1p e2p;obtain ⟨a2,a2p,a21,a22⟩:=min2 e3p e4p;obtain ⟨a3,a3p,a31,a32⟩:=min2 a1p a2p;obtain ⟨e,ep,b1,b2⟩:=min2 a3p e5p;refine ⟨e,ep,λx y hx hy hxy he=>?_⟩;have hab:U7 (y-x)<=e:=by rw [Ty]; clear h1 h2; constructor <;> grind
  have hab1:U7 (y-x)<=e1:=by clear h1 h2; grind
  have hab2:U7 (y-x)<=e2:=by clear h1 h2; grind
  obtain ⟨i1,i2,i3,i4,i5⟩:=h1 x y hx hy hab1;rcases Fj d (U7 (ev f x)) with hf | hf
  ·obtain ⟨s1,s2⟩:=h2 x y hx hy hab2 hf;obtain ⟨j1,j2⟩:=i2 hf;refine .inl ⟨?_,s1,s2⟩;have:=i4 j1 j2;simp only [vv];rw [Qem (x:=x) (p:=f) j2,Qem (x:=y) (p:=f) (by rw [j1]; exact j2),j1,this]
  ·have hg1:d<=U7 (ev g x):=by
    rcases i1 with i | i
    ·exact absurd i (Ji.2 hf)
    ·exact i
   obtain ⟨g1,g2⟩:=i3 hg1;have i5:=i5 g1 g2;have hD:d3<=U7 (dv f x):=by
    rcases Fj d3 (U7 (dv f x)) with h' | h'
    ·exact h'
    ·have h5:=Gu (x:=k) (a:=k) (by unfold U7; split <;> clear h1 h2 <;> grind) (Rat.le_of_lt h');rw [<-hg] at h5;have:k*d3=d3*k:=by grind
     exact absurd (Q9 hg1 h5) (Ji.2 (by rw [this]; exact d3b))
   have hm:=Qkb hx hy hR hxy (by clear h1 h2; grind:y-x<=e3) hD e3b;have s1:U6 (ev g x)=U6 (dv f x):=by rw [hg,Ts,Hy.2 hk,Y9]
   have s2:U6 (ev g y)=U6 (dv f y):=by rw [hg,Ts,Hy.2 hk,Y9]
   obtain ⟨s,hs⟩:=nmE (U6 (ev g x));rw [<-hs] at g1 g2 i5 s1;rw [g1] at s2;have v1:=tc0 (f:=f) (l:=l) hs.symm g2;have v2:=tc0 (f:=f) (l:=l) g1 g2;rw [<-i5] at v2;rw [<-s1] at hm;have hw:Sm f x y->Sm w x y:=λhf=>by
    rcases Fj d4 (U7 (ev u x)) with hu | hu
    ·have hu:=Sw hu (Pj hx hy hR (Q9 hab b2) e5b);exact Zi9 h hu.1 hu.2 hf
    ·have hw:d4<=U7 (ev w x):=by
      rcases Fj d4 (U7 (ev w x)) with h' | h'
      ·exact h'
      ·have q1:=Gu (x:=dv w x) (y:=ev u x) (a:=dqB R w) (by rw [<-Qoy]; exact Qr8 hx hx w) (Qp hu);have q2:=Gu (x:=ev w x) (y:=dv u x) (b:=dqB R u) (Qp h') (by rw [<-Qoy]; exact Qr8 hx hx u);have q3:=Tq (dv w x*ev u x) (ev w x*dv u x);rw [<-Ii h] at q3;have:d4*(dqB R w+dqB R u)=dqB R w*d4+d4*dqB R u:=by grind
       rw [this] at d4b;exact absurd (Q9 hD (Q9 q3 (by clear h1 h2; grind:_<=dqB R w*d4+d4*dqB R u))) (Ji.2 d4b)
     have hw:=Sw hw (Pj hx hy hR (Q9 hab (by clear h1 h2; grind)) e4b);exact Qt1 hw.1 hw.2
   have lx:Sa f x=if U6 (ev f x)≠0 then U6 (ev f x) else s:=by rw [s1]; rfl
   have ly:Sa f y=if U6 (ev f y)≠0 then U6 (ev f y) else s:=by rw [s2]; rfl
   clear h1 h2 i1 i2 i3 i4;have hsv:s=1\/s=-1:=by rcases Ga (ev g x) with ⟨e,_⟩ | ⟨e,_⟩ | ⟨e,_⟩ <;> omega
   unfold Q4d;simp only [vv,v1,v2];rcases hsv with rfl | rfl
   ·have hm:=Hy.1 hm;rcases Ga (ev f x) with ⟨p1,p2⟩ | ⟨p1,p2⟩ | ⟨p1,p2⟩
    ·rcases Ga (ev f y) with ⟨q1,q2⟩ | ⟨q1,q2⟩ | ⟨q1,q2⟩
     ·rw [p1,q1]; have hsm:=Qt1 (p:=f) (x:=x) (y:=y) (by rw [p1,q1]) (by rw [p1]; decide);exact .inl ⟨rfl,hsm,hw hsm⟩
     ·rw [lx,ly,p1,q1]; refine .inr ⟨by simp; omega,by decide,by decide,by decide,by decide⟩
     ·rw [lx,ly,p1,q1]; refine .inr ⟨by simp; omega,by decide,by decide,by decide,by decide⟩
    ·have q1:=Hy.2 (show 0<ev f y by grind);have hsm:Sm f x y:=⟨by rw [lx,q1,p1]; rfl,by rw [lx,ly,q1,p1]; rfl,by rw [lx,p1]; decide⟩;rw [p1,q1]; exact .inl ⟨rfl,hsm,hw hsm⟩
    ·have q1:=Hy.2 (show 0<ev f y by grind);have hsm:Sm f x y:=⟨by rw [lx,q1,p1]; rfl,by rw [lx,ly,q1,p1],by rw [lx,p1]; decide⟩;rw [p1,q1]; exact .inl ⟨rfl,hsm,hw hsm⟩
   ·have hm:=Tz.1 hm;rcases Ga (ev f x) with ⟨p1,p2⟩ | ⟨p1,p2⟩ | ⟨p1,p2⟩
    ·have q1:=Tz.2 (show ev f y<0 by grind);have hsm:Sm f x y:=⟨by rw [lx,q1,p1]; rfl,by rw [lx,ly,q1,p1],by rw [lx,p1]; decide⟩;rw [p1,q1]; exact .inl ⟨rfl,hsm,hw hsm⟩
    ·have q1:=Tz.2 (show ev f y<0 by grind);have hsm:Sm f x y:=⟨by rw [lx,q1,p1]; rfl,by rw [lx,ly,q1,p1]; rfl,by rw [lx,p1]; decide⟩;rw [p1,q1]; exact .inl ⟨rfl,hsm,hw hsm⟩
    ·rcases Ga (ev f y) with ⟨q1,q2⟩ | ⟨q1,q2⟩ | ⟨q1,q2⟩
     ·rw [lx,ly,p1,q1]; refine .inr ⟨by simp; omega,by decide,by decide,by decide,by decide⟩
     ·rw [lx,ly,p1,q1]; refine .inr ⟨by simp; omega,by decide,by decide,by decide,by decide⟩
     ·rw [p1,q1]; have hsm:=Qt1 (p:=f) (x:=x) (y:=y) (by rw [p1,q1]) (by rw [p1]; decide);exact .inl ⟨rfl,hsm,hw hsm⟩
theorem Znl (z:Rat):∃ n:Nat,z<=(n:Rat):=by
 refine ⟨z.ceil.toNat,?_⟩;have h1:z<=(z.ceil:Rat):=Rat.le_ceil;have h2:(z.ceil:Rat)<=((z.ceil.toNat:Int):Rat):=Jg.2 (Int.self_le_toNat _);exact Q9 h1 h2
theorem Oe {z e:Rat} (he:0<e):∃ n:Nat,z<=(n:Rat)*e:=by
 obtain ⟨n,hn⟩:=Znl (z / e);exact ⟨n,by have:=Q4 hn (Qp he); rwa [Gh he] at this⟩
theorem Qdp {R x y t:Rat} (hx:U7 x<=R) (hy:U7 y<=R) (h1:x<=t) (h2:t<=y):U7 t<=R:=by
 rw [Ty] at *; constructor <;> grind
def Q1m (f w:List Rat) (L:List (List Rat)) (x y:Rat):Prop :=
 vv L y<=vv L x/\(vv L x=vv L y->Sm f x y/\Sm w x y)/\(vv L x=vv L y+1->Sa f x≠0/\Sa f y=-Sa f x)
theorem Qz6 {f w:List Rat} {L:List (List Rat)} {x y:Rat} (h:Q4d f w L x y):Q1m f w L x y:=by
 rcases h with ⟨h1,h2,h3⟩ | ⟨h1,h2,h3,_⟩
 ·exact ⟨by omega,λ_=>⟨h2,h3⟩,λh=>by omega⟩
 ·exact ⟨by omega,λh=>by omega,λ_=>⟨h2,h3⟩⟩
theorem Qt2 {w:List Rat} {x y z:Rat} (h1:Sm w x y) (h2:Sm w y z):Sm w x z:=⟨by rw [h2.s,h1.l],by rw [h2.l,h1.l],h1.n⟩
theorem Qwl {f w:List Rat} {L:List (List Rat)} {x y z:Rat} (h:Q1m f w L x y) (h':Q1m f w L y z):Q1m f w L x z:=by
 obtain ⟨a1,a2,a3⟩:=h;obtain ⟨b1,b2,b3⟩:=h';refine ⟨by omega,λh=>?_,λh=>?_⟩
 ·obtain ⟨s1,s2⟩:=a2 (by omega);obtain ⟨s3,s4⟩:=b2 (by omega);exact ⟨Qt2 s1 s3,Qt2 s2 s4⟩
 ·by_cases e:vv L x=vv L y
  ·obtain ⟨s1,_⟩:=a2 e;obtain ⟨s3,s4⟩:=b3 (by omega);exact ⟨s1.n,by rw [s4,s1.l]⟩
  ·obtain ⟨s3,s4⟩:=a3 (by omega);obtain ⟨s1,_⟩:=b2 (by omega);exact ⟨s3,by rw [s1.l,s4]⟩
theorem Zh6 {R:Rat} (hR:0<=R) {f w u:List Rat} {L:List (List Rat)} (hc:Stm f L) (h:∀ t,ev f t=ev w t*ev u t) {x y:Rat} (hx:U7 x<=R) (hy:U7 y<=R) (hxy:x<y):Q1m f w L x y:=by
 obtain ⟨e,ep,hl⟩:=loc hR hc h;have key:∀ n:Nat,∀ x,U7 x<=R->x<y->y-x<=(n:Rat)*e->Q1m f w L x y:=by
  intro n
  induction n with
  | zero =>
   intro x hx hxy h; exfalso; have:((0:Nat):Rat)*e=0:=by simp
   grind
  |
   succ n ih =>
   intro x hx hxy hn;rcases Fj (y-x) e with h1 | h1
   ·exact Qz6 (hl x y hx hy hxy h1)
   ·have hm:U7 (x+e)<=R:=Qdp hx hy (by clear hl ih; grind) (by clear hl ih; grind);have hn':(((n+1:Nat):Rat))=(n:Rat)+1:=by push_cast; rfl
    refine Qwl (Qz6 (hl x (x+e) hx hm (by clear hl ih; grind) (by clear hl ih; grind))) (ih (x+e) hm (by clear hl ih; grind) ?_);rw [hn'] at hn;clear hl ih; grind
 obtain ⟨n,hn⟩:=Oe (z:=y-x) ep;exact key n x hx hxy hn
theorem Qn8 (x y:Rat):∃ R:Rat,0<=R/\U7 x<=R/\U7 y<=R:=by
 refine ⟨U7 x+U7 y,?_,?_,?_⟩ <;> (have:=Hd x; have:=Hd y; grind)
theorem Rf (t:Rat):ev [1] t=1:=by simp only [ev]; grind
theorem Lq {f:List Rat} {L:List (List Rat)} (hc:Stm f L) {x y:Rat} (hxy:x<y):vv L y<=vv L x:=by
 obtain ⟨R,hR,hx,hy⟩:=Qn8 x y;exact (Zh6 hR hc (w:=f) (u:=[1]) (λt=>by rw [Rf]; grind) hx hy hxy).1
theorem Qb3 {f w u:List Rat} {L:List (List Rat)} (hc:Stm f L) (h:∀ t,ev f t=ev w t*ev u t) {x y:Rat} (hxy:x<y) (he:vv L x=vv L y):Sm w x y:=by
 obtain ⟨R,hR,hx,hy⟩:=Qn8 x y;exact ((Zh6 hR hc h hx hy hxy).2.1 he).2
theorem Qqz {f:List Rat} {L:List (List Rat)} (hc:Stm f L) {x y:Rat} (hxy:x<y) (he:vv L x=vv L y):Sm f x y :=
 Qb3 hc (w:=f) (u:=[1]) (λt=>by rw [Rf]; grind) hxy he
theorem Qqy {f:List Rat} {L:List (List Rat)} (hc:Stm f L) {x y:Rat} (hxy:x<y) (he:vv L x=vv L y+1):Sa f x≠0/\Sa f y=-Sa f x:=by
 obtain ⟨R,hR,hx,hy⟩:=Qn8 x y;exact (Zh6 hR hc (w:=f) (u:=[1]) (λt=>by rw [Rf]; grind) hx hy hxy).2.2 he
theorem Zas {f:List Rat} {L:List (List Rat)} (hc:Stm f L) (R:Rat) (hR:0<=R):∃ e:Rat,0<e/\∀ x y,U7 x<=R->U7 y<=R->x<y->y-x<=e->vv L x<=vv L y+1:=by
 obtain ⟨e,ep,hl⟩:=loc hR hc (w:=f) (u:=[1]) (λt=>by rw [Rf]; grind);refine ⟨e,ep,λx y hx hy hxy he=>?_⟩;rcases hl x y hx hy hxy he with ⟨h,_⟩ | ⟨h,_⟩ <;> omega
theorem Qbp {p:List Rat} {x:Rat} (h:U6 (ev p x)≠0):∃ e:Rat,0<e/\∀ y,U7 (y-x)<=e->U6 (ev p y)=U6 (ev p x):=by
 have hd:=Nv (x:=ev p x) λh0=>h (Fq.2 h0)
 have hR:0<=U7 x+1:=by have:=Hd x; grind
 obtain ⟨e,e1,e2,e3⟩:=Gw (Ph hR p) hd;refine ⟨e,e1,λy hy=>(Sw Qo (Pj (x:=x) (by grind) ?_ hR hy e3)).1⟩;have:=Tq (y-x) x;have e:y-x+x=y:=by grind
 rw [e] at this; grind
theorem Zgd {R M:Rat} {p:List Rat} (hM:M=ddB R p) (hR:0<=R) {h:Rat} (hh:0<h):∀ (n:Nat) (x:Rat),U7 x<=R->U7 (x+(n:Rat)*h)<=R->(∀ t,x<=t->t<=x+(n:Rat)*h->0<=dv p t)->ev p x-(n:Rat)*(h*h*M)<=ev p (x+(n:Rat)*h)
 |
  0,x,_,_,_=>by
  have e1:x+((0:Nat):Rat)*h=x:=by rw [show ((0:Nat):Rat)=0 from rfl]; grind
  have e2:((0:Nat):Rat)*(h*h*M)=0:=by simp
  rw [e1,e2]; grind
 |
  n+1,x,hx,hy,hd=>by
  have hn':(((n+1:Nat):Rat))=(n:Rat)+1:=by push_cast; rfl
  rw [hn'] at hy hd ⊢;have hn0:(0:Rat)<=(n:Rat):=Xo;have hnh:=P9 hn0 (Qp hh);have e1:x+((n:Rat)+1)*h=(x+h)+(n:Rat)*h:=by grind
  rw [e1] at hy hd ⊢;have hxh:U7 (x+h)<=R:=Qdp hx hy (by clear hd; grind) (by clear hd; grind);have ih:=Zgd hM hR hh n (x+h) hxh hy λt h1 h2=>hd t (by clear hd; grind) h2
  have h0:=hd x Qo (by clear hd; grind);have h1:=Zf2 p (x+h) x;have h2:=Q6i hxh hx p;rw [<-hM,Ty] at h2;have h3:=Zp h2.1 (P9 (Qp hh) (Qp hh));have h4:=P9 (Qp hh) h0;have e2:x+h-x=h:=by grind
  rw [e2] at h1;clear hd hx hy hxh;grind
theorem Zli {p:List Rat} {x y:Rat} (hxy:x<y) (hd:∀ t,x<=t->t<=y->0<=dv p t):ev p x<=ev p y:=by
 obtain ⟨R,hR,hx,hy⟩:=Qn8 x y;rcases Fj (ev p x) (ev p y) with h | h
 ·exact h
 ·exfalso;obtain ⟨M,hM⟩:=nmE (ddB R p);have hM0:=Qi6 hR p;rw [<-hM] at hM0;obtain ⟨e,ep,_,he⟩:=Gw (b:=(y-x)*M) (d:=ev p x-ev p y) (P9 (by grind) hM0) (by grind);obtain ⟨n,hn⟩:=Oe (z:=y-x) ep;have hn0:0<(n:Rat):=by
   rcases Fj (n:Rat) 0 with h' | h'
   ·have:=Q4 h' (Qp ep); clear hd; grind
   ·exact h'
  have hh:0<(y-x) / n:=La (by grind) hn0;have e1:(n:Rat)*((y-x) / n)=y-x:=by rw [Um]; exact Gh hn0
  have e2:x+(n:Rat)*((y-x) / n)=y:=by rw [e1]; grind
  have h1:=Zgd hM hR hh n x hx (by rw [e2]; exact hy) (by rw [e2]; exact hd);rw [e2] at h1;have h2:(y-x) / n<=e:=by
   rcases Fj ((y-x) / n) e with h' | h'
   ·exact h'
   ·have:=Rat.mul_lt_mul_of_pos_left h' hn0; clear hd; grind
  have h3:(n:Rat)*((y-x) / n*((y-x) / n)*M)=((y-x) / n)*((y-x)*M):=by
   have:(n:Rat)*((y-x) / n*((y-x) / n)*M)=((n:Rat)*((y-x) / n))*(((y-x) / n)*M):=by grind
   rw [this,e1]; grind
  have h4:=Q4 h2 (P9 (x:=y-x) (y:=M) (by grind) hM0);rw [h3] at h1;clear hd; grind
theorem Zej {p:List Rat} {x y:Rat} (hxy:x<y) (hd:∀ t,x<=t->t<=y->0<dv p t):ev p x<ev p y:=by
 have hx:=hd x Qo (by grind);have hR:0<=U7 x+1:=by have:=Hd x; grind
 obtain ⟨e,e1,e2,e3⟩:=Gw (Qi6 hR p) hx;obtain ⟨f,f1,f2,f3⟩:=min2 (a:=e) (b:=y-x) e1 (by grind);have hq:U7 (x+f)<=U7 x+1:=by
  have:=Tq x f; have:U7 f=f:=by unfold U7; split <;> grind
  clear hd; grind
 have h1:=Qkb (p:=p) (x:=x) (y:=x+f) (R:=U7 x+1) (e:=e) (d:=dv p x) (by clear hd; grind) hq hR (by grind) (by grind) (by unfold U7; split <;> clear hd <;> grind) e3;rw [Hy.2 hx,Hy] at h1;rcases Classical.em (x+f=y) with e | e
 ·rw [<-e]; clear hd; grind
 ·have:=Zli (p:=p) (x:=x+f) (y:=y) (by clear hd; grind) λt h1 h2=>Qp (hd t (by clear hd; grind) h2)
  clear hd; grind
structure Cut (c:Rat->Int):Prop where
 val:∀ q,c q=1\/c q=0\/c q=-1
 mono:∀ q r,q<r->c q≠1->c r=-1
 up:∀ q,c q=1->∃ r,q<r/\c r=1
 dn:∀ q,c q=-1->∃ r,r<q/\c r=-1
 lo:∃ q,c q=1
 hi:∃ q,c q=-1
theorem Cut.mono' {c:Rat->Int} (h:Cut c) {q r:Rat} (hqr:q<r) (hr:c r≠-1):c q=1:=by
 rcases Classical.em (c q=1) with e | e
 ·exact e
 ·exact absurd (h.mono q r hqr e) hr
theorem Cut.lt {c:Rat->Int} (h:Cut c) {q r:Rat} (hq:c q=1) (hr:c r=-1):q<r:=by
 rcases Fj r q with e | e
 ·rcases Classical.em (r=q) with e' | e'
  ·rw [e'] at hr; omega
  ·have:=h.mono r q (by grind) (by omega); omega
 ·exact e
theorem Cut.near {c:Rat->Int} (h:Cut c) {e:Rat} (he:0<e):∃ x y,c x=1/\c y=-1/\y-x<=e:=by
 obtain ⟨a,ha⟩:=h.lo;obtain ⟨b,hb⟩:=h.hi;have he2:0<e / 2:=La he (by decide);have h2:e / 2*2=e:=Gh (by decide);have key:∀ (n:Nat) (a:Rat),c a=1->b-a<=(n:Rat)*(e / 2)->∃ x y,c x=1/\c y=-1/\y-x<=e:=by
  intro n
  induction n with
  |
   zero =>
   intro a ha hn;have:=h.lt ha hb;rw [show ((0:Nat):Rat)=0 from rfl] at hn;exfalso; grind
  |
   succ n ih =>
   intro a ha hn;have hn':(((n+1:Nat):Rat))=(n:Rat)+1:=by push_cast; rfl
   rw [hn'] at hn;rcases h.val (a+e / 2) with h1 | h1 | h1
   ·exact ih _ h1 (by grind)
   ·exact ⟨a,a+e,ha,h.mono (a+e / 2) _ (by grind) (by omega),by grind⟩
   ·exact ⟨a,a+e / 2,ha,h1,by grind⟩
 obtain ⟨n,hn⟩:=Oe (z:=b-a) he2;exact key n a ha hn
def Et (p:List Rat) (c:Rat->Int):Prop:=∀ d:Rat,0<d->∃ x y,c x=1/\c y=-1/\∀ q,x<=q->q<=y->U7 (ev p q)<d
def NZ (p:List Rat) (c:Rat->Int) (s:Int):Prop:=∃ d:Rat,0<d/\∃ x y,c x=1/\c y=-1/\∀ q,x<=q->q<=y->U6 (ev p q)=s/\d<=U7 (ev p q)
def Nr (c:Rat->Int) (P:Rat->Prop):Prop:=∃ x y,c x=1/\c y=-1/\∀ q,x<=q->q<=y->P q
theorem Qwq {c:Rat->Int} {P Q:Rat->Prop} (h1:Nr c P) (h2:Nr c Q):Nr c λq=>P q/\Q q:=by
 obtain ⟨x,y,a1,a2,a3⟩:=h1;obtain ⟨x',y',b1,b2,b3⟩:=h2;refine ⟨if x<=x' then x' else x,if y<=y' then y else y',by split <;> assumption,by split <;> assumption,λq q1 q2=>⟨a3 q ?_ ?_,b3 q ?_ ?_⟩⟩ <;> clear a3 b3 <;> grind
theorem Qh2 {c:Rat->Int} {P Q:Rat->Prop} (h1:Nr c P) (h:∀ q,P q->Q q):Nr c Q:=by
 obtain ⟨x,y,a1,a2,a3⟩:=h1;exact ⟨x,y,a1,a2,λq q1 q2=>h q (a3 q q1 q2)⟩
theorem Qs7 {c:Rat->Int} (hc:Cut c) {P:Rat->Prop} (h1:Nr c P):∃ q,P q/\c q=1:=by
 obtain ⟨x,y,a1,a2,a3⟩:=h1;exact ⟨x,a3 x Qo (Qp (hc.lt a1 a2)),a1⟩
theorem Q8f {c:Rat->Int} (hc:Cut c) {e:Rat} (he:0<e) {P:Rat->Prop} (h1:Nr c P):∃ x y,c x=1/\c y=-1/\y-x<=e/\x<y/\∀ q,x<=q->q<=y->P q:=by
 obtain ⟨x,y,a1,a2,a3⟩:=h1;obtain ⟨x',y',b1,b2,b3⟩:=hc.near he;refine ⟨if x<=x' then x' else x,if y<=y' then y else y',by split <;> assumption,by split <;> assumption,by clear a3; grind,hc.lt (by split <;> assumption) (by split <;> assumption),λq q1 q2=>a3 q ?_ ?_⟩ <;> clear a3 <;> grind
theorem Zgb {c:Rat->Int} (hc:Cut c):∃ R:Rat,0<=R/\Nr c λq=>U7 q<=R:=by
 obtain ⟨x,y,a1,a2,_⟩:=hc.near (e:=1) (by decide);obtain ⟨R,hR,h1,h2⟩:=Qn8 x y;exact ⟨R,hR,x,y,a1,a2,λq q1 q2=>Qdp h1 h2 q1 q2⟩
theorem Qar {c:Rat->Int} (hc:Cut c) (p:List Rat):Et p c\/∃ s,s≠0/\NZ p c s:=by
 rcases Classical.em (Et p c) with h | h
 ·exact .inl h
 ·refine .inr ?_;obtain ⟨d,hd0⟩:=Classical.not_forall.1 h;obtain ⟨dp,hd⟩:=Classical.not_imp.1 hd0;have hd:∀ x y,c x=1->c y=-1->∃ q,x<=q/\q<=y/\d<=U7 (ev p q):=λx y hx hy=>by
   rcases Classical.em (∃ q,x<=q/\q<=y/\d<=U7 (ev p q)) with h' | h'
   ·exact h'
   ·refine absurd ⟨x,y,hx,hy,λq h1 h2=>?_⟩ hd;rcases Fj d (U7 (ev p q)) with h3 | h3
    ·exact absurd ⟨q,h1,h2,h3⟩ h'
    ·exact h3
  obtain ⟨R,hR,hn⟩:=Zgb hc;have hd2:0<d / 2:=La dp (by decide);have h2:d / 2*2=d:=Gh (by decide);obtain ⟨e,e1,_,e3⟩:=Gw (Ph hR p) hd2;obtain ⟨x,y,hx,hy,hxy,_,hq⟩:=Q8f hc e1 hn;obtain ⟨r,r1,r2,r3⟩:=hd x y hx hy;have key:∀ q,x<=q->q<=y->U7 (ev p q-ev p r)<d / 2:=λq q1 q2 =>
   Pj (hq r r1 r2) (hq q q1 q2) hR (by rw [Ty]; clear hq hd; constructor <;> grind) e3
  refine ⟨U6 (ev p r),λh0=>?_,d / 2,hd2,x,y,hx,hy,λq q1 q2=>⟨(Sw (d:=d) r3 ?_).1,?_⟩⟩
  ·rw [Fq.1 h0,Hx] at r3; clear hq hd key; grind
  ·have:=key q q1 q2; clear hq hd key; grind
  ·have h3:=key q q1 q2;have h4:=Tq (ev p r-ev p q) (ev p q);rw [show ev p r-ev p q+ev p q=ev p r from by clear hq hd key; grind,Q00] at h4;clear hq hd key; grind
theorem Zjl {c:Rat->Int} (hc:Cut c) {p:List Rat} {s:Int} (h1:Et p c) (h2:NZ p c s):False:=by
 obtain ⟨d,dp,h2⟩:=h2;obtain ⟨q,⟨a,b⟩,_⟩:=Qs7 hc (Qwq (h1 d dp) h2);exact absurd b.2 (Ji.2 a)
theorem S8 {c:Rat->Int} (hc:Cut c) {f p q:List Rat} (hf:∀ t,ev f t=ev p t*ev q t) (h:Et p c):Et f c:=by
 intro d dp;obtain ⟨R,hR,hn⟩:=Zgb hc;obtain ⟨e,e1,_,e3⟩:=Gw (Ij hR q) dp;refine Qh2 (Qwq hn (h e e1)) λt ⟨h1,h2⟩=>?_
 rw [hf];have:=Gu (Qp h2) (Qgm h1 q);exact Ji.1 λh=>absurd (Q9 h this) (Ji.2 e3)
theorem Qij {c:Rat->Int} {f p q:List Rat} (hf:∀ t,ev f t=ev p t+ev q t) (h:Et p c) (h':Et q c):Et f c:=by
 intro d dp;have hd2:0<d / 2:=La dp (by decide);have h2:d / 2*2=d:=Gh (by decide);refine Qh2 (Qwq (h _ hd2) (h' _ hd2)) λt ⟨h1,h2⟩=>?_
 rw [hf];have:=Tq (ev p t) (ev q t);grind
def RS (p:List Rat) (c:Rat->Int) (s:Int):Prop:=∃ y,c y=-1/\∀ q,c q=-1->q<=y->U6 (ev p q)=s
def LS (p:List Rat) (c:Rat->Int) (s:Int):Prop:=∃ x,c x=1/\∀ q,c q=1->x<=q->U6 (ev p q)=s
theorem Qnn {c:Rat->Int} (hc:Cut c) {p:List Rat} {s:Int} (h:NZ p c s):RS p c s:=by
 obtain ⟨d,dp,x,y,a1,a2,a3⟩:=h;exact ⟨y,a2,λq h1 h2=>(a3 q (Qp (hc.lt a1 h1)) h2).1⟩
theorem Qz9 {c:Rat->Int} (hc:Cut c) {p:List Rat} {s:Int} (h:NZ p c s):LS p c s:=by
 obtain ⟨d,dp,x,y,a1,a2,a3⟩:=h;exact ⟨x,a1,λq h1 h2=>(a3 q h2 (Qp (hc.lt h1 a2))).1⟩
theorem Q08 {c:Rat->Int} {p:List Rat} {s s':Int} (h:RS p c s) (h':RS p c s'):s=s':=by
 obtain ⟨y,a1,a2⟩:=h;obtain ⟨y',b1,b2⟩:=h';rcases Fj y y' with e | e
 ·rw [<-a2 y a1 Qo,<-b2 y a1 e]
 ·rw [<-a2 y' b1 (Qp e),<-b2 y' b1 Qo]
theorem Zgg {c:Rat->Int} (hc:Cut c) {p:List Rat} (hv:Et p c) {y:Rat} (hy:c y=-1) (h:∀ q,c q=-1->q<=y->0<dv p q) (q:Rat) (hq:c q=-1) (hqy:q<=y):0<ev p q:=by
 rcases Fj (ev p q) 0 with h0 | h0
 ·exfalso;obtain ⟨r,r1,r2⟩:=hc.dn q hq;have hr:ev p r<ev p q:=Zej r1 λt t1 t2=>h t (by
   rcases Classical.em (r=t) with e | e
   ·rw [<-e]; exact r2
   ·exact hc.mono r t (by clear h; grind) (by omega)) (Q9 t2 hqy)
  obtain ⟨a,b,ha,hb,hab⟩:=hv (-ev p r) (by clear h; grind);obtain ⟨m,hm1,hm2,hm3⟩:∃ m,c m=-1/\m<=b/\m<=r:=by
   rcases Fj b r with e | e
   ·exact ⟨b,hb,Qo,e⟩
   ·exact ⟨r,r2,Qp e,Qo⟩
  have h1:=hab m (Qp (hc.lt ha hm1)) hm2;have h2:ev p m<=ev p r:=by
   rcases Classical.em (m=r) with e | e
   ·rw [e]; exact Qo
   ·exact Qp (Zej (by clear h hab; grind) λt t1 t2=>h t (by
     rcases Classical.em (m=t) with e | e
     ·rw [<-e]; exact hm1
     ·exact hc.mono m t (by clear h hab; grind) (by omega)) (by clear h hab; grind))
  rw [Qp6] at h1;clear h hab; grind
 ·exact h0
theorem Qqe {c:Rat->Int} (hc:Cut c) {p:List Rat} {s:Int} (hv:Et p c) (h:RS (Mw p) c s) (hs:s≠0):RS p c s:=by
 obtain ⟨y,hy,h⟩:=h;have hsv:s=1\/s=-1:=by
  have:=h y hy Qo;rcases Ga (ev (Mw p) y) with ⟨e,_⟩ | ⟨e,_⟩ | ⟨e,_⟩ <;> omega
 rcases hsv with rfl | rfl
 ·refine ⟨y,hy,λq h1 h2=>Hy.2 (Zgg hc hv hy (λq h1 h2=>?_) q h1 h2)⟩;rw [<-Rq]; exact Hy.1 (h q h1 h2)
 ·refine ⟨y,hy,λq h1 h2=>Tz.2 ?_⟩;have:=Zgg hc (p:=Ce (-1) p) (y:=y) (λd dp=>Qh2 (hv d dp) λq hq=>by rw [Fy,show -1*ev p q=-ev p q by grind,Dn]; exact hq) hy (λq h1 h2=>by
   rw [Qfc,<-Rq];have:=Tz.1 (h q h1 h2); grind) q h1 h2
  rw [Fy] at this; grind
theorem Zf9 {c:Rat->Int} (hc:Cut c) {p:List Rat} (hv:Et p c) {x:Rat} (hx:c x=1) (h:∀ q,c q=1->x<=q->0<dv p q) (q:Rat) (hq:c q=1) (hxq:x<=q):ev p q<0:=by
 rcases Fj 0 (ev p q) with h0 | h0
 ·exfalso;obtain ⟨r,r1,r2⟩:=hc.up q hq;have hr:ev p q<ev p r:=Zej r1 λt t1 t2=>h t (by
   rcases Classical.em (t=r) with e | e
   ·rw [e]; exact r2
   ·exact hc.mono' (q:=t) (r:=r) (by clear h; grind) (by omega)) (Q9 hxq t1)
  obtain ⟨a,b,ha,hb,hab⟩:=hv (ev p r) (by clear h; grind);obtain ⟨m,hm1,hm2,hm3⟩:∃ m,c m=1/\a<=m/\r<=m:=by
   rcases Fj a r with e | e
   ·exact ⟨r,r2,e,Qo⟩
   ·exact ⟨a,ha,Qo,Qp e⟩
  have h1:=hab m hm2 (Qp (hc.lt hm1 hb));have h2:ev p r<=ev p m:=by
   rcases Classical.em (r=m) with e | e
   ·rw [e]; exact Qo
   ·exact Qp (Zej (by clear h hab; grind) λt t1 t2=>h t (by
     rcases Classical.em (t=m) with e | e
     ·rw [e]; exact hm1
     ·exact hc.mono' (q:=t) (r:=m) (by clear h hab; grind) (by omega)) (by clear h hab; grind))
  rw [Qp6] at h1;clear h hab; grind
 ·exact h0
theorem Q7z {c:Rat->Int} (hc:Cut c) {p:List Rat} {s:Int} (hv:Et p c) (h:LS (Mw p) c s) (hs:s≠0):LS p c (-s):=by
 obtain ⟨x,hx,h⟩:=h;have hsv:s=1\/s=-1:=by
  have:=h x hx Qo;rcases Ga (ev (Mw p) x) with ⟨e,_⟩ | ⟨e,_⟩ | ⟨e,_⟩ <;> omega
 rcases hsv with rfl | rfl
 ·refine ⟨x,hx,λq h1 h2=>Tz.2 (Zf9 hc hv hx (λq h1 h2=>?_) q h1 h2)⟩;rw [<-Rq]; exact Hy.1 (h q h1 h2)
 ·refine ⟨x,hx,λq h1 h2=>Hy.2 ?_⟩;have:=Zf9 hc (p:=Ce (-1) p) (x:=x) (λd dp=>Qh2 (hv d dp) λq hq=>by rw [Fy,show -1*ev p q=-ev p q by grind,Dn]; exact hq) hx (λq h1 h2=>by
   rw [Qfc,<-Rq];have:=Tz.1 (h q h1 h2); grind) q h1 h2
  rw [Fy] at this; grind
theorem Zeq {c:Rat->Int} (hc:Cut c) {f g:List Rat} {l:List (List Rat)} (h:SCl f g l):Et f c->Et g c->False:=by
 induction h with
 |
  @base f g k hk hg =>
  intro _ hv;obtain ⟨q,hq,_⟩:=Qs7 hc (hv (U7 k) (Nv hk));rw [hg] at hq; grind
 |
  @step f g h l a b q ha hb he hl ih =>
  intro hf hg;refine ih hg ?_;have h1:Et (Gn q g) c:=S8 hc (p:=g) (q:=q) (λt=>by rw [U5]; grind) hg;have h2:Et (Ce (-a) f) c:=S8 hc (p:=f) (q:=[-a]) (λt=>by rw [Fy]; simp only [ev]; grind) hf;have h3:Et (Tr (Gn q g) (Ce (-a) f)) c:=Qij (λt=>Gj t _ _) h1 h2;refine S8 hc (p:=Tr (Gn q g) (Ce (-a) f)) (q:=[1 / b]) (λt=>?_) h3;have:=he t;rw [Gj,U5,Fy];simp only [ev];have hbb:1 / b*b=1:=Gh hb;have:ev q t*ev g t+-a*ev f t=b*ev h t:=by rw [show -a*ev f t=-(a*ev f t) by grind,he t]; grind
  rw [this];have:b*ev h t*(1 / b+t*0)=ev h t*(1 / b*b):=by grind
  rw [this,hbb]; grind
theorem Qn5 {c:Rat->Int} (hc:Cut c) {f g:List Rat} {k:Rat} (h:∀ t,ev g t=k*ev f t) (hv:Et f c):Et g c :=
 S8 hc (p:=f) (q:=[k]) (λt=>by rw [h]; simp only [ev]; grind) hv
theorem Ze1 {c:Rat->Int} (hc:Cut c) {f:List Rat} {L:List (List Rat)} (h:Stm f L) (hv:Et f c):∃ s,s≠0/\NZ (Mw f) c s:=by
 rcases Qar hc (Mw f) with h1 | h1
 ·exfalso;rcases h with ⟨k,hk,hf,_⟩ | ⟨g,l,k,hk,hg,h,_⟩
  ·obtain ⟨q,hq,_⟩:=Qs7 hc (hv (U7 k) (Nv hk));rw [hf] at hq; grind
  ·exact Zeq hc h hv (Qn5 hc (λt=>by rw [hg,Rq]) h1)
 ·exact h1
theorem Qzf {c:Rat->Int} (hc:Cut c) {f w u:List Rat} {L:List (List Rat)} (h:Stm f L) (hf:∀ t,ev f t=ev w t*ev u t) (hv:Et w c):∃ s,s≠0/\NZ (Mw w) c s:=by
 rcases Qar hc (Mw w) with h1 | h1
 ·exfalso;obtain ⟨s,_,hs⟩:=Ze1 hc h (S8 hc hf hv);refine Zjl hc ?_ hs;have a1:Et (Gn (Mw w) u) c:=S8 hc (λt=>U5 t _ _) h1;have a2:Et (Gn w (Mw u)) c:=S8 hc (λt=>U5 t _ _) hv;refine Qij (λt=>?_) a1 a2;rw [Rq,Ii hf,U5,U5,Rq,Rq]
 ·exact h1
theorem Q6f {c:Rat->Int} (hc:Cut c) {q:Rat} (h:c q=0) {x y:Rat} (hx:c x=1) (hy:c y=-1):x<=q/\q<=y:=by
 constructor
 ·rcases Fj x q with e | e
  ·exact e
  ·have:=hc.mono q x e (by omega); omega
 ·rcases Fj q y with e | e
  ·exact e
  ·have:=hc.mono y q e (by omega); omega
theorem Qgb {c:Rat->Int} (hc:Cut c) {p:List Rat} {q:Rat} (h:c q=0) (hv:Et p c):ev p q=0:=by
 rcases Classical.em (ev p q=0) with e | e
 ·exact e
 ·obtain ⟨x,y,hx,hy,hq⟩:=hv _ (Nv e);obtain ⟨h1,h2⟩:=Q6f hc h hx hy;have:=hq q h1 h2; grind
theorem Qs9 {c:Rat->Int} (hc:Cut c) {p:List Rat} {q:Rat} {s:Int} (h:c q=0) (hv:NZ p c s):U6 (ev p q)=s:=by
 obtain ⟨d,dp,x,y,hx,hy,hq⟩:=hv;obtain ⟨h1,h2⟩:=Q6f hc h hx hy;exact (hq q h1 h2).1
theorem Qvu {c:Rat->Int} (hc:Cut c) {y z:Rat} (hy:c y=-1) (hz:c z=-1):∃ q,c q=-1/\q<y/\q<z:=by
 obtain ⟨a,a1,a2⟩:=hc.dn y hy;obtain ⟨b,b1,b2⟩:=hc.dn z hz;rcases Fj a b with e | e
 ·exact ⟨a,a2,a1,by grind⟩
 ·exact ⟨b,b2,by grind,b1⟩
theorem Qi3 {c:Rat->Int} (hc:Cut c) {y z:Rat} (hy:c y=1) (hz:c z=1):∃ q,c q=1/\y<q/\z<q:=by
 obtain ⟨a,a1,a2⟩:=hc.up y hy;obtain ⟨b,b1,b2⟩:=hc.up z hz;rcases Fj a b with e | e
 ·exact ⟨b,b2,by grind,b1⟩
 ·exact ⟨a,a2,a1,by grind⟩
theorem Q8e {f w u:List Rat} {L:List (List Rat)} (h:Stm f L) (hf:∀ t,ev f t=ev w t*ev u t) {x y:Rat} (hv:vv L x=vv L y) {c:Rat->Int} (hc:Cut c) (hx:c x=1) (hy:c y≠1):¬Et w c:=λhw=>by
 have hxy:x<y:=by
  rcases Fj y x with e | e
  ·rcases Classical.em (y=x) with e' | e'
   ·rw [e'] at hy; exact absurd hx hy
   ·have:=hc.mono y x (by grind) hy; omega
  ·exact e
 have hwv:=Qb3 h hf hxy hv;rcases hc.val y with e | e | e
 ·exact hy e
 ·have:=Qgb hc e hw;have:=hwv.s;rw [Fq.2 (by assumption)] at this;exact hwv.n this.symm
 ·obtain ⟨s,hs,hd⟩:=Qzf hc h hf hw;obtain ⟨a,ha,hal⟩:=Q7z hc hw (Qz9 hc hd) hs;obtain ⟨b,hb,hbr⟩:=Qqe hc hw (Qnn hc hd) hs;obtain ⟨q,q1,q2,q3⟩:=Qi3 hc hx ha;obtain ⟨r,r1,r2,r3⟩:=Qvu hc hb e;have e1:=hal q q1 (Qp q3);have e2:=hbr r r1 (Qp r2);have hqr:=hc.lt q1 r1;have v1:vv L q<=vv L x:=Lq h q2;have v2:vv L y<=vv L r:=Lq h r3;have v3:vv L r<=vv L q:=Lq h hqr;have s1:=(Qb3 h hf q2 (by omega)).s;have s2:=(Qb3 h hf (x:=x) (y:=r) (by grind) (by omega)).s;omega
theorem Qqq {f:List Rat} {L:List (List Rat)} (h:Stm f L) {x y:Rat} (hxy:x<y) (hv:vv L x≠vv L y) {d:Rat} (dp:0<d):∃ q,x<=q/\q<=y/\U7 (ev f q)<d:=by
 obtain ⟨R,hR,hx,hy⟩:=Qn8 x y;obtain ⟨e1,e1p,hl⟩:=loc hR h (w:=f) (u:=[1]) (λt=>by rw [Rf]; grind);obtain ⟨e2,e2p,_,e2b⟩:=Gw (Ph hR f) dp;obtain ⟨e,ep,h1,h2⟩:=min2 e1p e2p;have key:∀ n:Nat,∀ x,U7 x<=R->x<y->vv L x≠vv L y->y-x<=(n:Rat)*e->∃ q,x<=q/\q<=y/\U7 (ev f q)<d:=by
  intro n
  induction n with
  | zero=>intro x hx hxy _ hn; rw [show ((0:Nat):Rat)=0 from rfl] at hn; exfalso; clear hl; grind
  |
   succ n ih =>
   intro x hx hxy hv hn;have hstep:∀ z,U7 z<=R->x<z->z-x<=e->vv L x≠vv L z->U7 (ev f z)<d:=λz hz hxz hze hv=>by
    rcases hl x z hx hz hxz (Q9 hze h1) with ⟨p,_⟩ | ⟨_,p1,p2,p3,p4⟩
    ·exact absurd p hv
    ·have hd:=Pj (p:=f) hx hz hR (e:=e2) (d:=d) (by rw [Ty]; clear hl ih; constructor <;> grind) e2b;rw [<-p3] at p1 p4;clear hl ih p2 p3;rw [Qp6] at *;rcases Ga (ev f x) with ⟨a,a'⟩ | ⟨a,a'⟩ | ⟨a,a'⟩ <;> rcases Ga (ev f z) with ⟨b,b'⟩ | ⟨b,b'⟩ | ⟨b,b'⟩ <;> rw [a,b] at p4 <;> first | (exfalso; revert p4; decide) | skip
     all_goals first | (constructor <;> grind) | (exfalso; omega)
   rcases Fj (y-x) e with h3 | h3
   ·exact ⟨y,Qp hxy,Qo,hstep y hy hxy h3 hv⟩
   ·have hm:U7 (x+e)<=R:=Qdp hx hy (by clear hl ih hstep; grind) (by clear hl ih hstep; grind);rcases Classical.em (vv L x=vv L (x+e)) with e0 | e0
    ·have hn':(((n+1:Nat):Rat))=(n:Rat)+1:=by push_cast; rfl
     rw [hn'] at hn;obtain ⟨q,q1,q2,q3⟩:=ih (x+e) hm (by clear hl ih hstep; grind) (by omega) (by clear hl ih hstep; grind);exact ⟨q,by clear hl ih hstep; grind,q2,q3⟩
    ·exact ⟨x+e,by clear hl ih hstep; grind,by clear hl ih hstep; grind,hstep (x+e) hm (by clear hl ih hstep; grind) (by clear hl ih hstep; grind) e0⟩
 obtain ⟨n,hn⟩:=Oe (z:=y-x) ep;exact key n x hx hxy hv hn
theorem Zk4 {p:List Rat} {x:Rat} (h:Sa p x≠0):∃ e:Rat,0<e/\∀ y,x<y->y-x<=e->U6 (ev p y)=Sa p x:=by
 by_cases h0:U6 (ev p x)=0
 ·have hx:=Fq.1 h0;rw [Qwn h0] at h ⊢;have hR:0<=U7 x+1:=by have:=Hd x; grind
  obtain ⟨e,e1,e2,e3⟩:=Gw (Qi6 hR p) (Nv (x:=dv p x) λh'=>h (Fq.2 h'));refine ⟨e,e1,λy h1 h2=>?_⟩;have hy:U7 y<=U7 x+1:=by
   have:=Tq x (y-x);have e:x+(y-x)=y:=by grind
   have e':U7 (y-x)=y-x:=by unfold U7; split <;> grind
   rw [e,e'] at this; grind
  have:=Qkb (p:=p) (by grind) hy hR h1 h2 Qo e3;rw [hx] at this;rw [<-this]; congr 1; grind
 ·rw [Li h0] at h ⊢;obtain ⟨e,e1,e2⟩:=Qbp h;exact ⟨e,e1,λy h1 h2=>e2 y (by rw [Ty]; constructor <;> grind)⟩
def cq (P:List Rat) (lo hi q:Rat):Int:=if q<=lo then 1 else if hi<q then -1 else if U6 (ev P q)=0 then 0 else if U6 (ev P q)=Sa P lo then 1 else -1
structure Vt (P:List Rat) (L:List (List Rat)) (lo hi:Rat):Prop where
 s:Stm P L
 l:lo<hi
 v:vv L lo=vv L hi+1
variable {P:List Rat} {L:List (List Rat)} {lo hi:Rat}
theorem Bi {q:Rat} (h:q<=lo):cq P lo hi q=1:=by unfold cq; rw [if_pos h]
theorem I3 {q:Rat} (h:lo<hi) (h':hi<q):cq P lo hi q=-1:=by unfold cq; rw [if_neg (by grind),if_pos h']
theorem Ni {q:Rat} (h1:lo<q) (h2:q<=hi):cq P lo hi q=if U6 (ev P q)=0 then 0 else if U6 (ev P q)=Sa P lo then 1 else -1:=by
 unfold cq; rw [if_neg (by grind),if_neg (by grind)]
theorem Vt.two (V:Vt P L lo hi) {q:Rat} (h1:lo<q) (h2:q<=hi):vv L q=vv L lo/\cq P lo hi q=1/\U6 (ev P q)=Sa P lo\/vv L q=vv L hi/\cq P lo hi q≠1/\Sa P q=-Sa P lo/\Sa P lo≠0:=by
 have a:=Lq V.s h1;have b:vv L hi<=vv L q:=by
  rcases Classical.em (q=hi) with e | e
  ·rw [e]; exact Qi _
  ·exact Lq V.s (by grind)
 have hv:=V.v;rcases (show vv L q=vv L lo\/vv L q=vv L hi by omega) with e | e
 ·have hs:=Qqz V.s h1 e.symm;refine .inl ⟨e,?_,hs.s⟩;rw [Ni h1 h2,hs.s,if_neg hs.n,if_pos rfl]
 ·obtain ⟨o1,o2⟩:=Qqy V.s h1 (by omega);refine .inr ⟨e,?_,o2,o1⟩;rw [Ni h1 h2]
  split
  ·decide
  ·rename_i h0;rw [Li h0] at o2;rw [if_neg (by omega)]; decide
theorem Vt.lowlo (V:Vt P L lo hi):Sa P lo≠0:=(Qqy V.s V.l V.v).1
theorem Vt.eq_lo (V:Vt P L lo hi) {q:Rat} (h1:lo<q) (h2:q<=hi) (h:cq P lo hi q=1):vv L q=vv L lo:=by
 rcases V.two h1 h2 with ⟨e,_⟩ | ⟨_,e,_⟩
 ·exact e
 ·exact absurd h e
theorem Vt.eq_hi (V:Vt P L lo hi) {q:Rat} (h1:lo<q) (h2:q<=hi) (h:cq P lo hi q≠1):vv L q=vv L hi:=by
 rcases V.two h1 h2 with ⟨_,e,_⟩ | ⟨e,_⟩
 ·exact absurd e h
 ·exact e
theorem Vt.hi1 (V:Vt P L lo hi):cq P lo hi hi≠1:=λh=>by have:=V.eq_lo V.l Qo h; have:=V.v; omega
theorem Vt.cut (V:Vt P L lo hi):Cut (cq P lo hi) where
 val q:=by unfold cq; split <;> (try split) <;> (try split) <;> (try split) <;> simp
 mono q r h h1:=by
  have hq:lo<q:=by
   rcases Fj q lo with e | e
   ·exact absurd (Bi e) h1
   ·exact e
  rcases Fj r hi with e | e
  ·have e1:=V.eq_hi hq (by grind) h1;rcases V.two (q:=r) (by grind) e with ⟨e2,_⟩ | ⟨e2,_,e3,e4⟩
   ·have:=Lq V.s h; have:=V.v; omega
   ·have hs:=Qqz V.s h (by omega);rcases V.two hq (by grind) with ⟨e5,_⟩ | ⟨_,_,e5,_⟩
    ·have:=V.v; omega
    ·rw [Ni (by grind) e,hs.s,if_neg hs.n,e5,if_neg (by omega)]
  ·exact I3 V.l e
 up q h:=by
  rcases Fj q lo with e | e
  ·obtain ⟨d,dp,hd⟩:=Zk4 V.lowlo;obtain ⟨f,fp,f1,f2⟩:=min2 (a:=d) (b:=hi-lo) dp (by have:=V.l; grind);have h1:lo<lo+f:=by clear hd; grind
   have h2:lo+f<=hi:=by clear hd; grind
   have:=hd (lo+f) h1 (by clear hd; grind);exact ⟨lo+f,by clear hd; grind,by rw [Ni h1 h2,this,if_neg V.lowlo,if_pos rfl]⟩
  ·have hh:q<=hi:=by
    rcases Fj q hi with e' | e'
    ·exact e'
    ·have:=I3 (P:=P) V.l e'; omega
   rcases V.two e hh with ⟨e1,_,e2⟩ | ⟨_,e1,_⟩
   ·have hn:q≠hi:=λh=>by rw [h] at e1; have:=V.v; omega
    obtain ⟨d,dp,hd⟩:=Qbp (p:=P) (x:=q) (by rw [e2]; exact V.lowlo);obtain ⟨f,fp,f1,f2⟩:=min2 (a:=d) (b:=hi-q) dp (by clear hd; grind);have:=hd (q+f) (by rw [Ty]; clear hd; constructor <;> grind);exact ⟨q+f,by clear hd; grind,by rw [Ni (by clear hd; grind) (by clear hd; grind),this,e2,if_neg V.lowlo,if_pos rfl]⟩
   ·exact absurd h e1
 dn q h:=by
  have hq:lo<q:=by
   rcases Fj q lo with e | e
   ·have:=Bi (P:=P) (hi:=hi) e; omega
   ·exact e
  rcases Fj q hi with e | e
  ·rw [Ni hq e] at h
   split at h
   ·cases h
   rename_i h0
   split at h
   ·cases h
   rename_i h1;obtain ⟨d,dp,hd⟩:=Qbp h0;obtain ⟨f,fp,f1,f2⟩:=min2 (a:=d) (b:=(q-lo) / 2) dp (La (by clear hd; grind) (by decide));have h2:(q-lo) / 2*2=q-lo:=Gh (by decide);have:=hd (q-f) (by rw [Ty]; clear hd; constructor <;> grind);exact ⟨q-f,by clear hd; grind,by rw [Ni (by clear hd; grind) (by clear hd; grind),this,if_neg h0,if_neg h1]⟩
  ·have h2:(q-hi) / 2*2=q-hi:=Gh (by decide);exact ⟨q-(q-hi) / 2,by grind,I3 V.l (by grind)⟩
 lo:=⟨lo,Bi Qo⟩
 hi:=⟨hi+1,I3 V.l (by grind)⟩
theorem Vt.van (V:Vt P L lo hi):Et P (cq P lo hi):=by
 have hc:=V.cut;rcases Qar hc P with h | ⟨s,hs,h⟩
 ·exact h
 ·exfalso;have e1:s=Sa P lo:=by
   obtain ⟨x,hx,hx1⟩:=Qz9 hc h;obtain ⟨q,q1,q2,q3⟩:=Qi3 hc hx (Bi (P:=P) (hi:=hi) (Qo (a:=lo)));have hq:q<=hi:=by
    rcases Fj q hi with e | e
    ·exact e
    ·have:=I3 (P:=P) V.l e; omega
   rcases V.two q3 hq with ⟨_,_,e⟩ | ⟨_,e,_⟩
   ·rw [<-hx1 q q1 (Qp q2),e]
   ·exact absurd q1 e
  rcases hc.val hi with e | e | e
  ·exact V.hi1 e
  ·have h0:=Qs9 hc e h;rw [Ni V.l Qo] at e
   split at e
   ·omega
   ·split at e <;> omega
  ·obtain ⟨y,hy,hy1⟩:=Qnn hc h;obtain ⟨q,q1,q2,q3⟩:=Qvu hc hy e;have hq:lo<q:=hc.lt (Bi (P:=P) (hi:=hi) (Qo (a:=lo))) q1;have:=hy1 q q1 (Qp q2);rw [Ni hq (Qp q3),this,if_neg hs,if_pos e1] at q1;cases q1
def Qwa (w:List Rat) (lo hi:Rat):Prop:=U6 (ev w hi)=0\/U6 (ev w hi)≠Sa w lo
theorem Vt.has (V:Vt P L lo hi) {w u:List Rat} (hf:∀ t,ev P t=ev w t*ev u t) {a b:Rat} (h1:lo<=a) (h2:a<b) (h3:b<=hi):Qwa w a b↔Et w (cq P lo hi)/\cq P lo hi a=1/\cq P lo hi b≠1:=by
 have hc:=V.cut;have smno:vv L a=vv L b->¬Qwa w a b:=λh hh=>by
  have:=Qb3 V.s hf h2 h;rcases hh with e | e
  ·rw [this.s] at e; exact this.n e
  ·exact e this.s
 by_cases ha:cq P lo hi a=1
 ·by_cases hb:cq P lo hi b=1
  ·have e1:=V.eq_lo (by grind) h3 hb;have e2:vv L a=vv L lo:=by
    rcases Classical.em (lo=a) with e | e
    ·rw [e]
    ·exact V.eq_lo (by grind) (by grind) ha
   exact ⟨λh=>absurd h (smno (by omega)),λh=>absurd hb h.2.2⟩
  ·have e1:=V.eq_hi (by grind) h3 hb;have e2:vv L a=vv L lo:=by
    rcases Classical.em (lo=a) with e | e
    ·rw [e]
    ·exact V.eq_lo (by grind) (by grind) ha
   have left:∀ s,LS w (cq P lo hi) s->s=Sa w a:=λs hs=>by
    obtain ⟨x,hx,hx1⟩:=hs;obtain ⟨q,q1,q2,q3⟩:=Qi3 hc hx ha;have hqb:q<b:=by
     rcases Fj b q with e | e
     ·rcases Classical.em (b=q) with e' | e'
      ·rw [e'] at hb; exact absurd q1 hb
      ·have:=hc.mono b q (by clear hx1 smno; grind) hb; omega
     ·exact e
    have:=V.eq_lo (q:=q) (by clear hx1 smno; grind) (by clear hx1 smno; grind) q1;rw [<-(Qb3 V.s hf q3 (by omega)).s,hx1 q q1 (Qp q2)]
   have right:∀ s,RS w (cq P lo hi) s->cq P lo hi b=-1->s=U6 (ev w b):=λs hs hb=>by
    obtain ⟨y,hy,hy1⟩:=hs;obtain ⟨q,q1,q2,q3⟩:=Qvu hc hy hb;have hqa:=hc.lt ha q1;have:=V.eq_hi (q:=q) (by clear hy1 smno; grind) (by clear hy1 smno; grind) (by omega);have hs:=Qb3 V.s hf q3 (by omega);have hl:=hy1 q q1 (Qp q2);have h0:U6 (ev w q)≠0:=by
     have hs2:=Qb3 V.s hf (x:=q) (y:=b) q3 (by omega);intro h0;obtain ⟨r,r1,r2⟩:=hc.dn q q1;have har:=hc.lt ha r2;have:=V.eq_hi (q:=r) (by clear hy1 smno; grind) (by clear hy1 smno; grind) (by omega);have hs3:=Qb3 V.s hf (x:=r) (y:=q) r1 (by omega);have hs4:=hs3.s;rw [h0] at hs4; exact hs3.n hs4.symm
    rw [hs.s,Li h0,hl]
   refine ⟨λh=>⟨?_,ha,hb⟩,λ⟨hw,_,_⟩=>?_⟩
   ·rcases Qar hc w with e | ⟨s,hs0,hs⟩
    ·exact e
    ·exfalso;have l1:=left s (Qz9 hc hs);have r1:U6 (ev w b)=s:=by
      rcases hc.val b with e | e | e
      ·exact absurd e hb
      ·exact Qs9 hc e hs
      ·exact (right s (Qnn hc hs) e).symm
     rcases h with h | h
     ·exact hs0 (by rw [<-r1]; exact h)
     ·exact h (by rw [r1,l1])
   ·rcases hc.val b with e | e | e
    ·exact absurd e hb
    ·exact .inl (Fq.2 (Qgb hc e hw))
    ·obtain ⟨s,hs0,hs⟩:=Qzf hc V.s hf hw;have l1:=left _ (Q7z hc hw (Qz9 hc hs) hs0);have r1:=right _ (Qqe hc hw (Qnn hc hs) hs0) e;exact .inr (by rw [<-l1,<-r1]; omega)
 ·have hla:lo<a:=by
   rcases Classical.em (lo=a) with e | e
   ·rw [<-e] at ha; exact absurd (Bi Qo) ha
   ·grind
  have hb:cq P lo hi b≠1:=by have:=hc.mono a b h2 ha; omega
  have e1:=V.eq_hi hla (by grind) ha;have e2:=V.eq_hi (q:=b) (by grind) h3 hb;exact ⟨λh=>absurd h (smno (by omega)),λh=>absurd h.2.1 ha⟩
theorem Qr1 {c c':Rat->Int} (hc:Cut c) (hc':Cut c') {q:Rat} (h:c q≠c' q):∃ r,(c r=-1/\c' r=1)\/(c r=1/\c' r=-1):=by
 rcases hc.val q with e | e | e <;> rcases hc'.val q with e' | e' | e'
 ·omega
 ·obtain ⟨r,r1,r2⟩:=hc.up q e;exact ⟨r,.inr ⟨r2,hc'.mono q r r1 (by omega)⟩⟩
 ·exact ⟨q,.inr ⟨e,e'⟩⟩
 ·obtain ⟨r,r1,r2⟩:=hc'.up q e';exact ⟨r,.inl ⟨hc.mono q r r1 (by omega),r2⟩⟩
 ·omega
 ·obtain ⟨r,r1,r2⟩:=hc'.dn q e';exact ⟨r,.inr ⟨hc.mono' r1 (by omega),r2⟩⟩
 ·exact ⟨q,.inl ⟨e,e'⟩⟩
 ·obtain ⟨r,r1,r2⟩:=hc.dn q e;exact ⟨r,.inl ⟨r2,hc'.mono' r1 (by omega)⟩⟩
 ·omega
theorem Vt.uniq (V:Vt P L lo hi) {c:Rat->Int} (hc:Cut c) (h1:c lo=1) (h2:c hi≠1) (hv:Et P c) (q:Rat):c q=cq P lo hi q:=by
 rcases Classical.em (c q=cq P lo hi q) with e | e
 ·exact e
 ·exfalso;obtain ⟨r,⟨r1,r2⟩ | ⟨r1,r2⟩⟩:=Qr1 hc V.cut e
  ·have hl:=hc.lt h1 r1;have hh:r<=hi:=by
    rcases Fj r hi with e | e
    ·exact e
    ·have:=I3 (P:=P) V.l e; omega
   have:=V.eq_lo hl hh r2;exact Q8e V.s (w:=P) (u:=[1]) (λt=>by rw [Rf]; grind) (x:=lo) (y:=r) (by omega) hc h1 (by omega) hv
  ·have hl:lo<r:=by
    rcases Fj r lo with e | e
    ·have:=Bi (P:=P) (hi:=hi) e; omega
    ·exact e
   have hh:r<=hi:=by
    rcases Fj r hi with e | e
    ·exact e
    ·have:=hc.mono hi r e h2; omega
   have:=V.eq_hi hl hh (by omega);exact Q8e V.s (w:=P) (u:=[1]) (λt=>by rw [Rf]; grind) (x:=r) (y:=hi) (by omega) hc r1 h2 hv
theorem Vt.same (V:Vt P L lo hi) {P':List Rat} {L':List (List Rat)} {lo' hi':Rat} (V':Vt P' L' lo' hi') {g u u' U W:List Rat} {k:Rat} (hk:k≠0) (h1:∀ t,ev P t=ev g t*ev u t) (h2:∀ t,ev P' t=ev g t*ev u' t) (h3:∀ t,k*ev g t=ev U t*ev P t+ev W t*ev P' t) {a b:Rat} (ha1:lo<=a) (ha2:lo'<=a) (ha:a=lo\/a=lo') (hb1:b<=hi) (hb2:b<=hi') (hb:b=hi\/b=hi'):(a<b/\Qwa g a b)↔∀ q,cq P lo hi q=cq P' lo' hi' q:=by
 have hc:=V.cut;have hc':=V'.cut;constructor
 ·rintro ⟨hab,hg⟩
  obtain ⟨g1,g2,g3⟩:=(V.has h1 ha1 hab hb1).1 hg;obtain ⟨g4,g5,g6⟩:=(V'.has h2 ha2 hab hb2).1 hg;intro q;refine (V.uniq hc' (by
   rcases Classical.em (lo=a) with e | e
   ·rw [e]; exact g5
   ·exact hc'.mono' (q:=lo) (r:=a) (by grind) (by omega)) (λh=>?_) (S8 hc' h1 g4) q).symm
  rcases Classical.em (b=hi) with e | e
  ·rw [<-e] at h; exact g6 h
  ·have:=hc'.mono b hi (by grind) g6; omega
 ·intro h;have hcc:cq P' lo' hi'=cq P lo hi:=funext λq=>(h q).symm
  have e1:cq P lo hi a=1:=by
   rcases ha with rfl | rfl
   ·exact Bi Qo
   ·rw [h]; exact Bi Qo
  have e2:cq P lo hi b≠1:=by
   rcases hb with rfl | rfl
   ·exact V.hi1
   ·rw [h]; exact V'.hi1
  have hab:a<b:=by
   rcases Fj b a with e | e
   ·rcases Classical.em (b=a) with e' | e'
    ·rw [e'] at e2; exact absurd e1 e2
    ·have:=hc.mono b a (by grind) e2; omega
   ·exact e
  have v1:=V.van;have v2:=V'.van;rw [hcc] at v2;have hg:Et g (cq P lo hi):=by
   have a1:Et (Gn U P) (cq P lo hi):=S8 hc (p:=P) (q:=U) (λt=>by rw [U5]; grind) v1;have a2:Et (Gn W P') (cq P lo hi):=S8 hc (p:=P') (q:=W) (λt=>by rw [U5]; grind) v2;have a3:=Qij (λt=>Gj t _ _) a1 a2;refine Qn5 hc (k:=1 / k) (λt=>?_) a3;rw [Gj,U5,U5,<-h3];have:1 / k*(k*ev g t)=1 / k*k*ev g t:=by grind
   rw [this,show 1 / k*k=1 from Zj hk]; grind
  exact ⟨hab,(V.has h1 ha1 hab hb1).2 ⟨hg,e1,e2⟩⟩
end Orq
namespace Orq
theorem Q8s:∀ (M:Nat) (f:Nat->Nat),(∀ i,i<=M->f i<M)->∃ i j,i<j/\j<=M/\f i=f j
 | 0,f,h=>absurd (h 0 (Qi _)) (Ur _)
 |
  M+1,f,h=>by
  rcases Classical.em (∃ i,i<=M/\f i=f (M+1)) with ⟨i,h1,h2⟩ | hn
  ·exact ⟨i,M+1,by omega,Qi _,h2⟩
  ·have hne:∀ i,i<=M->f i≠f (M+1):=λi hi e=>hn ⟨i,hi,e⟩
   obtain ⟨i,j,h1,h2,h3⟩:=Q8s M (λi=>if f i=M then f (M+1) else f i) λi hi=>by
    have a1:=h i (by omega);have a2:=h (M+1) (Qi _);have a3:=hne i hi;show (if f i=M then f (M+1) else f i)<M
    split <;> omega
   refine ⟨i,j,h1,by omega,?_⟩;have a1:=hne i (by omega);have a2:=hne j h2
   split at h3 <;> split at h3 <;> omega
def dg (B k i:Nat):Nat:=k / B^i % B
theorem Qzd (B k i:Nat):dg B k (i+1)=dg B (k / B) i:=by unfold dg; rw [Nat.pow_succ,Nat.mul_comm,Nat.div_div_eq_div_mul]
theorem Q6j {B:Nat}:∀ (N:Nat) {k k':Nat},k<B^N->k'<B^N->(∀ i,i<N->dg B k i=dg B k' i)->k=k'
 | 0,k,k',h,h',_=>by rw [Vh] at h h'; omega
 |
  N+1,k,k',h,h',he=>by
  have h0:=he 0 (by omega);unfold dg at h0;rw [Vh,Nat.div_one,Nat.div_one] at h0;have hB:0<B:=by
   rcases Qy B with e | e
   ·rw [e,Zo,Yu] at h; omega
   ·exact e
  have h1:=Q6j N (k:=k / B) (k':=k' / B) (Jd (by rw [Zh,<-Zo]; exact h)) (Jd (by rw [Zh,<-Zo]; exact h')) λi hi=>by
   rw [<-Qzd,<-Qzd]; exact he (i+1) (by omega)
  rw [<-Uo k B,<-Uo k' B,h0,h1]
def cd (B:Nat):Nat->(Nat->Nat)->Nat
 | 0,_=>0
 | E+1,x=>x 0+B*cd B E λe=>x (e+1)
theorem Zfw {B:Nat}:∀ (E:Nat) {x:Nat->Nat},(∀ e,e<E->x e<B)->cd B E x<B^E
 | 0,_,_=>by simp [cd]
 |
  E+1,x,h=>by
  have h1:=h 0 (by omega);have h2:=Zfw E (x:=λe=>x (e+1)) λe he=>h (e+1) (by omega)
  simp only [cd];have h3:B*cd B E (λe=>x (e+1))+B<=B*B^E:=by
   rw [<-Ko]; exact Zm _ h2
  rw [Zo,Zh (B^E)]; omega
theorem Q56 {B:Nat}:∀ (E:Nat) {x y:Nat->Nat},(∀ e,e<E->x e<B)->(∀ e,e<E->y e<B)->cd B E x=cd B E y->∀ e,e<E->x e=y e
 | 0,_,_,_,_,_,e,he=>by omega
 |
  E+1,x,y,hx,hy,h,e,he=>by
  have h1:=hx 0 (by omega);have h2:=hy 0 (by omega);simp only [cd] at h;have e0:x 0=y 0:=by
   have:=congrArg (· % B) h;simp only [Ki] at this;rwa [Xb h1,Xb h2] at this
  have e1:cd B E (λe=>x (e+1))=cd B E (λe=>y (e+1)):=Nat.eq_of_mul_eq_mul_left (by omega:0<B) (by omega);cases e with
  | zero=>exact e0
  | succ e=>exact Q56 E (λe he=>hx (e+1) (by omega)) (λe he=>hy (e+1) (by omega)) e1 e (by omega)
def sm:Nat->(Nat->Int)->Int
 | 0,_=>0
 | n+1,f=>sm n f+f n
theorem Q98 (f g:Nat->Int):∀ n,sm n (λi=>f i-g i)=sm n f-sm n g
 | 0=>rfl
 | n+1=>by simp only [sm,Q98 f g n]; omega
theorem Cx {f g:Nat->Int}:∀ n,(∀ i,i<n->f i=g i)->sm n f=sm n g
 | 0,_=>rfl
 | n+1,h=>by simp only [sm,Cx n (λi hi=>h i (by omega)),h n (by omega)]
theorem Q97 {f:Nat->Int} {b:Nat}:∀ n,(∀ i,i<n->(f i).natAbs<=b)->(sm n f).natAbs<=n*b
 | 0,_=>by simp [sm]
 |
  n+1,h=>by
  have h1:=Q97 n λi hi=>h i (by omega)
  have h2:=h n (by omega);simp only [sm];rw [Xh]; omega
theorem Qbh {f:Nat->Int}:∀ n,(∀ i,i<n->f i=0)->sm n f=0
 | 0,_=>rfl
 | n+1,h=>by simp only [sm,Qbh n (λi hi=>h i (by omega)),h n (by omega)]; rfl
theorem Qxm (f:Nat->Int) (m:Nat):∀ n,sm (m+n) f=sm m f+sm n λi=>f (m+i)
 | 0=>by simp [sm]
 | n+1=>by rw [<-Yk]; simp only [sm,Qxm f m n]; omega
theorem Qxn (f:Nat->Int) (J:Nat):∀ b,sm (b*J) f=sm b λi=>sm J λj=>f (i*J+j)
 | 0=>by simp [sm]
 | b+1=>by rw [Xh,Qxm,Qxn f J b]; rfl
theorem Qk5 {f:Nat->Int} {k:Nat}:∀ n,k<n->(∀ i,i<n->i≠k->f i=0)->sm n f=f k
 | 0,h,_=>by omega
 |
  n+1,h,h1=>by
  simp only [sm];rcases Vo (Nat.le_of_lt_succ h) with e | e
  ·rw [Qk5 n e λi hi=>h1 i (by omega),h1 n (by omega) (by omega)]; omega
  ·subst e; rw [Qbh k λi hi=>h1 i (by omega) (by omega)]; omega
theorem Zi6 {M:Nat->Nat->Int} {h N E H:Nat} (hM:∀ e i,(M e i).natAbs<=h) (hc:(2*(N*(h*H))+1)^E<(H+1)^N) :
 ∃ v:Nat->Int,(∀ i,(v i).natAbs<=H)/\(∃ i,i<N/\v i≠0)/\∀ e,e<E->sm N (λi=>M e i*v i)=0:=by
 obtain ⟨T,hT⟩:=nmE (N*(h*H));rw [<-hT] at hc;have hv:∀ k i,dg (H+1) k i<=H:=λk i=>Nat.le_of_lt_succ (Z0 _ (by omega))
 have hs:∀ k e,(sm N λi=>M e i*(dg (H+1) k i:Int)).natAbs<=T:=λk e=>by
  rw [hT];refine Q97 N λi _=>?_
  rw [Jy,Xd];exact Zr (hM e i) (hv k i)
 have him:∀ k e,((sm N λi=>M e i*(dg (H+1) k i:Int))+T).toNat<2*T+1:=λk e=>by have:=hs k e; omega
 obtain ⟨i,j,h1,h2,h3⟩:=Q8s ((2*T+1)^E) (λk=>cd (2*T+1) E λe=>((sm N λi=>M e i*(dg (H+1) k i:Int))+T).toNat) λk _=>Zfw E λe _=>him k e
 have h4:=Q56 E (λe _=>him i e) (λe _=>him j e) h3;refine ⟨λn=>(dg (H+1) i n:Int)-dg (H+1) j n,λn=>?_,?_,λe he=>?_⟩
 ·have a1:=hv i n;have a2:=hv j n;show ((dg (H+1) i n:Int)-dg (H+1) j n).natAbs<=H;omega
 ·rcases Classical.em (∃ n,n<N/\(dg (H+1) i n:Int)-dg (H+1) j n≠0) with e | e
  ·exact e
  ·exfalso;have:i=j:=Q6j (B:=H+1) N (by omega) (by omega) λn hn=>by
    rcases Classical.em (dg (H+1) i n=dg (H+1) j n) with e' | e'
    ·exact e'
    ·exact absurd ⟨n,hn,by omega⟩ e
   omega
 ·have a1:=h4 e he;have a2:=hs i e;have a3:=hs j e;have:(sm N λn=>M e n*(dg (H+1) i n:Int))=sm N λn=>M e n*(dg (H+1) j n:Int):=by omega
  have e1:=Q98 (λn=>M e n*(dg (H+1) i n:Int)) (λn=>M e n*(dg (H+1) j n:Int)) N;rw [this] at e1;rw [Cx N (g:=λn=>M e n*(dg (H+1) i n:Int)-M e n*(dg (H+1) j n:Int)) λn _=>Int.mul_sub _ _ _,e1]; omega
def Uy:List Int->Rat->Rat
 | [],_=>0
 | a::p,t=>(a:Rat)+t*Uy p t
def sq:Nat->(Nat->Rat)->Rat
 | 0,_=>0
 | n+1,f=>sq n f+f n
theorem Ss {f g:Nat->Rat}:∀ n,(∀ i,i<n->f i=g i)->sq n f=sq n g
 | 0,_=>rfl
 | n+1,h=>by simp only [sq,Ss n (λi hi=>h i (by omega)),h n (by omega)]
theorem Qxr (f g:Nat->Rat):∀ n,sq n (λi=>f i+g i)=sq n f+sq n g
 | 0=>by simp only [sq]; grind
 | n+1=>by simp only [sq,Qxr f g n]; grind
theorem Qan (c:Rat) (f:Nat->Rat):∀ n,sq n (λi=>c*f i)=c*sq n f
 | 0=>by simp only [sq]; grind
 | n+1=>by simp only [sq,Qan c f n]; grind
theorem Nz {f:Nat->Rat}:∀ n,(∀ i,i<n->f i=0)->sq n f=0
 | 0,_=>rfl
 | n+1,h=>by simp only [sq,Nz n (λi hi=>h i (by omega)),h n (by omega)]; grind
theorem Ax (f:Nat->Rat):∀ n,sq (n+1) f=f 0+sq n λi=>f (i+1)
 | 0=>by simp only [sq]; grind
 | n+1=>by rw [sq,Ax f n]; simp only [sq]; grind
theorem Zgj {f:Nat->Rat} {b:Rat}:∀ n,(∀ i,i<n->U7 (f i)<=b)->U7 (sq n f)<=(n:Rat)*b
 | 0,_=>by rw [show ((0:Nat):Rat)=0 from rfl]; simp only [sq,Hx]; grind
 |
  n+1,h=>by
  have h1:=Zgj n λi hi=>h i (by omega)
  have h2:=h n (by omega);have h3:=Tq (sq n f) (f n);have hn':(((n+1:Nat):Rat))=(n:Rat)+1:=by push_cast; rfl
  rw [hn']; simp only [sq]; clear h; grind
def gc:List Int->Nat->Nat->Int
 | [],_,_=>0
 | c::B,k,j=>(if k=0/\j=0 then c else 0)+(if k=0 then 0 else gc B (k-1) j)-(if j=0 then 0 else gc B k (j-1))
def gB:List Int->Nat
 | []=>0
 | c::B=>max c.natAbs (2*gB B)
theorem Qhy:∀ (B:List Int) (k j:Nat),B.length<=k+j->gc B k j=0
 | [],_,_,_=>rfl
 |
  c::B,k,j,h=>by
  simp only [Q7] at h;simp only [gc];rw [if_neg (by omega)];have e1:(if k=0 then 0 else gc B (k-1) j)=0:=by
   split
   ·rfl
   ·exact Qhy B _ _ (by omega)
  have e2:(if j=0 then 0 else gc B k (j-1))=0:=by
   split
   ·rfl
   ·exact Qhy B _ _ (by omega)
  rw [e1,e2]; rfl
theorem Q7b:∀ (B:List Int) (k j:Nat),(gc B k j).natAbs<=gB B
 | [],_,_=>Qg _
 |
  c::B,k,j=>by
  have h1:=Q7b B (k-1) j;have h2:=Q7b B k (j-1);simp only [gc,gB];by_cases hk:k=0 <;> by_cases hj:j=0 <;> simp only [hk,hj,true_and,and_true,false_and,and_false,if_true,if_false] <;> (try subst hk) <;> (try subst hj) <;> omega
theorem Q7c:∀ (B:List Int) (b:Nat),B.length=b+1->(gc B 0 b).natAbs=(B.getD b 0).natAbs
 | [],_,h=>by simp at h
 | [c],0,_=>by simp [gc]
 | c::d::B,0,h=>by simp at h
 |
  c::B,b+1,h=>by
  have ih:=Q7c B b (by simpa using h);simp only [gc];simp only [Jv,Q3];rw [if_pos trivial,if_neg (Nat.succ_ne_zero b),<-ih]; omega
def E2 (F:Nat->Nat->Int) (K J:Nat) (x y:Rat):Rat:=sq K λk=>sq J λj=>(F k j:Rat)*(y^k*x^j)
theorem Qvy (F G:Nat->Nat->Int) (K J:Nat) (x y:Rat):E2 (λk j=>F k j+G k j) K J x y=E2 F K J x y+E2 G K J x y:=by
 unfold E2;rw [<-Qxr];refine Ss K λk _=>?_
 rw [<-Qxr];exact Ss J λj _=>by push_cast; grind
theorem Q6r (c:Int) (F:Nat->Nat->Int) (K J:Nat) (x y:Rat):E2 (λk j=>F k j*c) K J x y=(c:Rat)*E2 F K J x y:=by
 unfold E2;rw [<-Qan];refine Ss K λk _=>?_
 rw [<-Qan];exact Ss J λj _=>by push_cast; grind
theorem Q6s (φ:Nat->Nat->Nat->Int) (v:Nat->Int) (K J:Nat) (x y:Rat):∀ N,E2 (λk j=>sm N λn=>φ n k j*v n) K J x y=sq N λn=>(v n:Rat)*E2 (φ n) K J x y
 |
  0=>by
  simp only [sq,sm];unfold E2;refine Nz K λk _=>Nz J λj _=>?_
  rw [show ((0:Int):Rat)=0 from rfl]; grind
 |
  N+1=>by
  simp only [sq];rw [<-Q6s φ v K J x y N,<-Q6r,<-Qvy];rfl
theorem Qea (t:Rat) (i:Nat):∀ k,t^(i+k)=t^i*t^k
 | 0=>by rw [Xx,Xi]; grind
 | k+1=>by rw [<-Yk,Xc,Xc,Qea t i k]; grind
theorem Qk7 (f:Nat->Rat):∀ (i n:Nat),sq (i+n) (λk=>if i<=k then f (k-i) else 0)=sq n f
 | i,0=>Nz _ λk hk=>by rw [if_neg (by omega)]
 |
  i,n+1=>by
  rw [<-Yk]; simp only [sq];rw [Qk7 f i n,if_pos (by omega),Jj]
def shF (i j':Nat) (F:Nat->Nat->Int) (k j:Nat):Int:=if i<=k then (if j'<=j then F (k-i) (j-j') else 0) else 0
theorem Qjg (F:Nat->Nat->Int) (i j' K J:Nat) (x y:Rat):E2 (shF i j' F) (i+K) (j'+J) x y=y^i*x^j'*E2 F K J x y:=by
 unfold E2;rw [<-Qan,<-Qk7 _ i K];refine Ss _ λk _=>?_
 by_cases hk:i<=k
 ·rw [if_pos hk,<-Qan,<-Qk7 _ j' J];refine Ss _ λj _=>?_
  unfold shF;rw [if_pos hk];by_cases hj:j'<=j
  ·rw [if_pos hj,if_pos hj];have e1:y^k=y^i*y^(k-i):=by rw [<-Qea]; congr 1; omega
   have e2:x^j=x^j'*x^(j-j'):=by rw [<-Qea]; congr 1; omega
   rw [e1,e2]; grind
  ·rw [if_neg hj,if_neg hj,show ((0:Int):Rat)=0 from rfl]; grind
 ·rw [if_neg hk];refine Nz _ λj _=>?_
  unfold shF;rw [if_neg hk,show ((0:Int):Rat)=0 from rfl]; grind
def fA (A:List Int) (k j:Nat):Int:=if j=0 then A.getD k 0 else 0
theorem Q8r (y:Rat):∀ (A:List Int) (K:Nat),A.length<=K->sq K (λk=>((A.getD k 0:Int):Rat)*y^k)=Uy A y
 | [],K,_=>by rw [Nz]; rfl; intro i _; simp
 | a::A,0,h=>by simp at h
 |
  a::A,K+1,h=>by
  have ih:=Q8r y A K (by simpa using h);rw [Ax];simp only [Uy,Zq,Q3,Xi];rw [<-ih,<-Qan];have:(sq K λi=>((A.getD i 0:Int):Rat)*y^(i+1))=sq K λi=>y*(((A.getD i 0:Int):Rat)*y^i):=Ss K λi _=>by rw [Xc]; grind
  rw [this]; grind
theorem Zk0 (A:List Int) (K J:Nat) (x y:Rat) (h:A.length<=K):E2 (fA A) K (J+1) x y=Uy A y:=by
 rw [<-Q8r y A K h];refine Ss K λk _=>?_
 rw [Ax,Nz]
 ·simp only [fA,if_true,Xi]; grind
 ·intro j _;simp only [fA];rw [if_neg (by omega),show ((0:Int):Rat)=0 from rfl]; grind
theorem Zhv (x y:Rat):∀ (B:List Int) (K J:Nat),B.length<=K->B.length<=J->E2 (gc B) K J x y=Uy B (y-x)
 |
  [],K,J,_,_=>by
  unfold E2;simp only [gc,Uy];exact Nz K λk _=>Nz J λj _=>by rw [show ((0:Int):Rat)=0 from rfl]; grind
 | c::B,0,J,h,_=>by simp at h
 | c::B,K+1,0,_,h=>by simp at h
 |
  c::B,K+1,J+1,h1,h2=>by
  have i1:=Zhv x y B K (J+1) (by simpa using h1) (by simp at h2; omega);have i2:=Zhv x y B (K+1) J (by simp at h1; omega) (by simpa using h2);have s1:=Qjg (gc B) 1 0 K (J+1) x y;have s2:=Qjg (gc B) 0 1 (K+1) J x y;rw [Zu,Jm 1 K] at s1;rw [Zu,Jm 1 J] at s2;rw [i1] at s1;rw [i2] at s2;have e0:E2 (fA [c]) (K+1) (J+1) x y=(c:Rat):=by rw [Zk0 [c] (K+1) J x y (by simp)]; simp only [Uy]; grind
  have e1:gc (c::B)=λk j=>(fA [c] k j+shF 1 0 (gc B) k j)+shF 0 1 (gc B) k j*(-1):=by
   funext k j;simp only [gc,fA,shF];by_cases hk:k=0 <;> by_cases hj:j=0
   ·subst hk; subst hj; simp
   ·subst hk; simp [hj,show 1<=j by omega]
    try omega
   ·subst hj;obtain ⟨m,rfl⟩:∃ m,k=m+1:=⟨k-1,by omega⟩;simp
   ·obtain ⟨m,rfl⟩:∃ m,k=m+1:=⟨k-1,by omega⟩;obtain ⟨i,rfl⟩:∃ i,j=i+1:=⟨j-1,by omega⟩;simp; omega
  rw [e1,Qvy (λk j=>fA [c] k j+shF 1 0 (gc B) k j) (λk j=>shF 0 1 (gc B) k j*(-1)),Qvy (fA [c]) (shF 1 0 (gc B)),Q6r,e0,s1,s2];simp only [Uy,Xi,show y^1=y by rw [Xc,Xi]; grind,show x^1=x by rw [Xc,Xi]; grind];rw [show (((-1:Int)):Rat)=-1 from rfl];grind
def phi (A B:List Int) (b J J' n k j:Nat):Int:=if n<b*J then shF (n / J) (n % J) (fA A) k j else shF ((n-b*J) / J') ((n-b*J) % J') (gc B) k j
theorem Q92 {F:Nat->Nat->Int} {h:Nat} (hF:∀ k j,(F k j).natAbs<=h) (i j' k j:Nat):(shF i j' F k j).natAbs<=h:=by
 unfold shF; split
 ·split
  ·exact hF _ _
  ·exact Qg _
 ·exact Qg _
theorem Zf8 {i b J j:Nat} (hi:i<b) (hj:j<J):i*J+j<b*J:=by
 have:(i+1)*J<=b*J:=Qz J hi;rw [Xh] at this; omega
theorem Qfn {i J j:Nat} (hj:j<J):(i*J+j) / J=i/\(i*J+j) % J=j:=by
 rw [Zh,Up (by omega),Uq,V6 hj,Xb hj]; exact ⟨by omega,rfl⟩
theorem Qnz (A B:List Int) (a b J J':Nat) (v:Nat->Int) (k j:Nat):sm (b*J+a*J') (λn=>phi A B b J J' n k j*v n) =
 (sm b λi=>sm J λj1=>shF i j1 (fA A) k j*v (i*J+j1))+sm a λi=>sm J' λj1=>shF i j1 (gc B) k j*v (b*J+(i*J'+j1)):=by
 rw [Qxm,Qxn,Qxn];congr 1
 ·refine Cx b λi hi=>Cx J λj1 hj=>?_
  unfold phi;rw [if_pos (Zf8 hi hj),(Qfn hj).1,(Qfn hj).2]
 ·refine Cx a λi hi=>Cx J' λj1 hj=>?_
  unfold phi;rw [if_neg (by omega),Jj,(Qfn hj).1,(Qfn hj).2]
theorem Zkv (A:List Int) (v:Nat->Int) {i J k j:Nat} (hj:j<J):(sm J λj1=>shF i j1 (fA A) k j*v (i*J+j1))=if i<=k then A.getD (k-i) 0*v (i*J+j) else 0:=by
 rw [Qk5 (k:=j) J hj λj1 _ hne=>?_]
 ·unfold shF fA;by_cases h:i<=k
  ·rw [if_pos h,if_pos h,if_pos (Qi _),if_pos (Jn _)]
  ·rw [if_neg h,if_neg h,Yf]
 ·unfold shF fA;by_cases h:i<=k
  ·rw [if_pos h];by_cases h':j1<=j
   ·rw [if_pos h',if_neg (by omega),Yf]
   ·rw [if_neg h',Yf]
  ·rw [if_neg h,Yf]
section
variable {A B:List Int} {a b J J':Nat} (hA:A.length=a+1) (hB:B.length=b+1) (lA:A.getD a 0≠0) (lB:B.getD b 0≠0) (hJ:J=J'+b) {v:Nat->Int} (hW:∀ k j,k<a+b->j<J->sm (b*J+a*J') (λn=>phi A B b J J' n k j*v n)=0)
include hA lA hW in
theorem Zfy {jj:Nat} (hj:jj<J) (hV:∀ k,a<=k->k<a+b->(sm a λi=>sm J' λj1=>shF i j1 (gc B) k jj*v (b*J+(i*J'+j1)))=0):∀ d i,i<b->b-i<=d->v (i*J+jj)=0:=by
 intro d
 induction d with
 | zero=>intro i hi hd; omega
 |
  succ d ih =>
  intro i hi hd;have h1:=hW (i+a) jj (by omega) hj;rw [Qnz,hV (i+a) (by omega) (by omega)] at h1;rw [Cx b (λi' hi'=>Zkv A v hj)] at h1;rw [Qk5 (k:=i) b hi λi' hi' hne=>?_] at h1
  ·rw [if_pos (by omega),Jj,Int.add_zero] at h1;rcases Yw.1 h1 with h2 | h2
   ·exact absurd h2 lA
   ·exact h2
  ·rcases Q6 i i' with h | h
   ·rw [ih i' hi' (by omega)]; simp
   ·rw [if_pos (by omega),Qf,Qu (by omega)]; simp
include hA hB lA lB hJ hW in
theorem Zky:∀ d js,js<J'->J'-js<=d->∀ i,i<a->v (b*J+(i*J'+js))=0:=by
 intro d
 induction d with
 | zero=>intro js hi hd; omega
 |
  succ d ih =>
  intro js hjs hd i hi;have hin:∀ i' k,i'<a->(sm J' λj1=>shF i' j1 (gc B) k (js+b)*v (b*J+(i'*J'+j1)))=if i'=k then gc B 0 b*v (b*J+(i'*J'+js)) else 0:=λi' k hi'=>by
   rw [Qk5 (k:=js) J' hjs λj1 hj1 hne=>?_]
   ·unfold shF;by_cases h:i'<=k
    ·rw [if_pos h,if_pos (by omega),Jj];by_cases h':i'=k
     ·rw [if_pos h',h',Jn]
     ·rw [if_neg h',Qhy B _ _ (by omega),Yf]
    ·rw [if_neg h,if_neg (by omega),Yf]
   ·rcases Q6 js j1 with h | h
    ·rw [ih j1 hj1 (by omega) i' hi',Km]
    ·unfold shF;by_cases h':i'<=k
     ·rw [if_pos h',if_pos (by omega),Qhy B _ _ (by omega),Yf]
     ·rw [if_neg h',Yf]
  have hU:=Zfy hA lA hW (jj:=js+b) (by omega) (λk hk hk'=>Qbh a λi' hi'=>by rw [hin i' k hi',if_neg (by omega)]) (b+1);have h1:=hW i (js+b) (by omega) (by omega);rw [Qnz,Cx a (λi' hi'=>hin i' i hi')] at h1;rw [Qbh b λi' hi'=>by
   rw [Zkv A v (by omega),hU i' hi' (by omega)]; simp] at h1
  rw [Qk5 (k:=i) a hi λi' hi' hne=>if_neg hne,if_pos rfl,Int.zero_add] at h1;rcases Yw.1 h1 with h2 | h2
  ·have:=Q7c B b hB; rw [h2] at this; omega
  ·exact h2
include hA hB lA lB hJ hW in
theorem Q4g:∀ n,n<b*J+a*J'->v n=0:=by
 intro n hn;have hV:=Zky hA hB lA lB hJ hW;rcases Q6 n (b*J) with h | h
 ·have hJp:0<J:=by
   rcases Qy J with e | e
   ·rw [e,Yu] at h; omega
   ·exact e
  have e1:=Z0 n hJp;have e2:n / J<b:=Jd (by rw [Zh]; exact h);have:=Zfy hA lA hW e1 (λk _ _=>Qbh a λi hi=>Qbh J' λj1 hj1=>by rw [hV J' j1 hj1 (by omega) i hi,Km]) (b+1) (n / J) e2 (Qd (Nat.sub_le _ _) (Nat.le_succ _));rwa [Zh,Xk] at this
 ·have hJp:0<J':=by
   rcases Qy J' with e | e
   ·rw [e,Yu] at hn; omega
   ·exact e
  have e1:=Z0 (n-b*J) hJp;have e2:(n-b*J) / J'<a:=Jd (by rw [Zh J' a]; omega);have:=hV J' _ e1 (by omega) _ e2;rw [Zh ((n-b*J) / J'),Xk] at this;rwa [show b*J+(n-b*J)=n by omega] at this
end
theorem Qbe {R x:Rat} (h1:1<=R) (hx:U7 x<=R):∀ k:Nat,U7 (x^k)<=R^k/\1<=R^k
 | 0=>by rw [Xi,Xi]; exact ⟨by decide,by decide⟩
 |
  k+1=>by
  obtain ⟨i1,i2⟩:=Qbe h1 hx k;rw [Xc,Xc];have:=Pk (a:=1) (c:=1) (by decide) i2 (by decide) h1;exact ⟨Gu i1 hx,by grind⟩
theorem Q01 {R:Rat} (h1:1<=R) {i:Nat}:∀ k,i<=k->R^i<=R^k
 | 0,h=>by rw [show i=0 by omega]; exact Qo
 |
  k+1,h=>by
  rcases Vo h with e | e
  ·have:=Q01 h1 (i:=i) k (by omega);have h2:=(Qbe h1 (x:=0) (by rw [Hx]; grind) k).2;rw [Xc];have:=Pk (a:=R^k) (b:=R^k) (c:=1) (d:=R) (by grind) Qo (by decide) h1;grind
  ·rw [e]; exact Qo
theorem Q91 {F:Nat->Nat->Int} {i j' K J:Nat} {x y R X:Rat} {K2 J2:Nat} (h1:1<=R) (hx:U7 x<=R) (hy:U7 y<=R) (hK:K=i+K2) (hJ:J=j'+J2) (hF:E2 F K2 J2 x y=X):U7 (E2 (shF i j' F) K J x y)<=R^(K+J)*U7 X:=by
 subst hK; subst hJ;rw [Qjg,hF,Dm];have a1:=(Qbe h1 hy i).1;have a2:=(Qbe h1 hx j').1;have a3:=Gu a1 a2;rw [<-Qea] at a3;have a4:=Q01 h1 (i:=i+j') (i+K2+(j'+J2)) (by omega);exact Pk (Hd _) (Q9 a3 a4) (Hd _) Qo
theorem Zi1 {A B:List Int} {a b h:Nat} (hA:A.length=a+1) (hB:B.length=b+1) (lA:A.getD a 0≠0) (lB:B.getD b 0≠0) (ha:0<a) (hb:0<b) (h0:1<=h) (bA:∀ k,(A.getD k 0).natAbs<=h) (bB:gB B<=h) {J J' N H:Nat} (hJ:J=2*(a*b)) (hJ':J=J'+b) (hN:N=b*J+a*J') (hH:H=(2*(N*h))^(2*(a+b-1))) :
 ∃ w:Nat->Int,(∃ j,j<J/\w j≠0)/\(∀ j,(w j).natAbs<=N*(h*H))/\∀ R:Rat,1<=R->∃ C:Rat,0<=C/\∀ x y,U7 x<=R->U7 y<=R->U7 (sq J λj=>(w j:Rat)*x^j)<=C*(U7 (Uy A y)+U7 (Uy B (y-x))):=by
 have hab:0<a*b:=J9 ha hb;have hbd:∀ n k j,(phi A B b J J' n k j).natAbs<=h:=λn k j=>by
  unfold phi
  split
  ·exact Q92 (λk j=>by unfold fA; split; exact bA k; exact Nat.zero_le _) _ _ _ _
  ·exact Q92 (λk j=>Qd (Q7b B k j) bB) _ _ _ _
 have hJp:0<J:=by omega
 have hNp:1<=N:=by
  have:0<b*J:=J9 hb hJp;omega
 have hNh:1<=N*h:=J9 hNp h0;obtain ⟨E,hE⟩:=nmE ((a+b-1)*J);have hNE:N=E+a*b:=by
  have e1:(a+b-1)*J+J=(a+b)*J:=by
   rw [<-Xh]; congr 1; omega
  have e2:a*J=a*J'+a*b:=by rw [hJ',Xv]
  rw [Jp] at e1;omega
 have hc:(2*(N*(h*H))+1)^E<(H+1)^N:=by
  have c1:2*(N*(h*H))+1<=2*(N*h)*(H+1):=by
   rw [Xv,Ys,Xq 2,Xq N]; omega
  refine Xa (Nat.pow_le_pow_left c1 E) ?_;rw [Nat.mul_pow,hNE,Xl,Zh];refine Nat.mul_lt_mul_of_pos_left ?_ (Z9 (by omega));have e1:(2*(N*h))^E=H^(a*b):=by
   rw [hH,<-Ut,hE,hJ]; congr 1;rw [Zh 2 (a+b-1),Xq]
  rw [<-hNE,e1];exact Nat.pow_lt_pow_left (by omega) (by omega)
 obtain ⟨v,v1,⟨n0,n1,n2⟩,v3⟩:=Zi6 (M:=λe n=>phi A B b J J' n (e / J+1) (e % J)) (h:=h) (N:=N) (E:=E) (H:=H) (λe n=>hbd n _ _) hc;have hW:∀ k j,1<=k->k<a+b->j<J->sm N (λn=>phi A B b J J' n k j*v n)=0:=λk j k1 k2 hj=>by
  have:=v3 ((k-1)*J+j) (by rw [hE]; exact Zf8 (by omega) hj);rwa [(Qfn hj).1,(Qfn hj).2,show k-1+1=k by omega] at this
 refine ⟨λj=>sm N λn=>phi A B b J J' n 0 j*v n,?_,λj=>?_,λR hR=>?_⟩
 ·rcases Classical.em (∃ j,j<J/\(sm N λn=>phi A B b J J' n 0 j*v n)≠0) with e | e
  ·exact e
  ·exfalso;refine n2 (Q4g hA hB lA lB hJ' (v:=v) (λk j hk hj=>?_) n0 (by rw [<-hN]; exact n1));rw [<-hN];rcases Qy k with e' | e'
   ·subst e';rcases Classical.em ((sm N λn=>phi A B b J J' n 0 j*v n)=0) with e2 | e2
    ·exact e2
    ·exact absurd ⟨j,hj,e2⟩ e
   ·exact hW k j e' hk hj
 ·refine Q97 N λn _=>?_
  rw [Jy];exact Zr (hbd n 0 j) (v1 n)
 ·have hRp:∀ k:Nat,1<=R^k:=λk=>(Qbe hR (x:=0) (by rw [Hx]; grind) k).2
  have hHn:(0:Rat)<=(H:Rat):=Xo;have hNn:(0:Rat)<=(N:Rat):=Xo;refine ⟨(N:Rat)*((H:Rat)*R^(a+b+J)),P9 hNn (P9 hHn (by have:=hRp (a+b+J); grind)),λx y hx hy=>?_⟩;have e1:(sq J λj=>((sm N λn=>phi A B b J J' n 0 j*v n:Int):Rat)*x^j)=E2 (λk j=>sm N λn=>phi A B b J J' n k j*v n) (a+b) J x y:=by
   unfold E2;obtain ⟨m,hm⟩:∃ m,a+b=m+1:=⟨a+b-1,by omega⟩;rw [hm,Ax,Nz (n:=m)]
   ·have:(sq J λj=>((sm N λn=>phi A B b J J' n 0 j*v n:Int):Rat)*(y^0*x^j))=sq J λj=>((sm N λn=>phi A B b J J' n 0 j*v n:Int):Rat)*x^j:=Ss J λj _=>by rw [Xi]; grind
    rw [this]; grind
   ·intro k hk;refine Nz J λj hj=>?_
    show ((sm N λn=>phi A B b J J' n (k+1) j*v n:Int):Rat)*_=0;rw [hW (k+1) j (by omega) (by omega) hj,show ((0:Int):Rat)=0 from rfl]; grind
  rw [e1,Q6s];have key:∀ n,n<N->U7 ((v n:Rat)*E2 (phi A B b J J' n) (a+b) J x y)<=(H:Rat)*(R^(a+b+J)*(U7 (Uy A y)+U7 (Uy B (y-x)))):=λn hn=>by
   have hvn:U7 (v n:Rat)<=(H:Rat):=by
    have h1:=v1 n;have h2:(v n)<=(H:Int):=by omega
    have h3:-(H:Int)<=v n:=by omega
    have h2:=Jg.2 h2;have h3:=Jg.2 h3;rw [Vr] at h3;rw [Ty]; exact ⟨h3,h2⟩
   refine Gu hvn ?_;have hRk:=hRp (a+b+J);have n1:=Hd (Uy A y);have n2:=Hd (Uy B (y-x));rcases Q6 n (b*J) with h | h
   ·have e:phi A B b J J' n=shF (n / J) (n % J) (fA A):=by funext k j; unfold phi; rw [if_pos h]
    have d1:n / J<b:=Jd (by rw [Zh]; exact h);have d2:=Z0 n hJp;rw [e];refine Q9 (Q91 (K2:=a+b-n / J) (J2:=J-n % J) hR hx hy (by omega) (by omega) (X:=Uy A y) ?_) (Pk (by grind) Qo n1 (by grind));obtain ⟨m,hm⟩:∃ m,J-n % J=m+1:=⟨J-n % J-1,by omega⟩;rw [hm]; exact Zk0 A _ _ x y (by omega)
   ·have e:phi A B b J J' n=shF ((n-b*J) / J') ((n-b*J) % J') (gc B):=by funext k j; unfold phi; rw [if_neg (by omega)]
    have hJp':0<J':=by
     rcases Qy J' with e | e
     ·rw [e,Yu] at hN; omega
     ·exact e
    have d1:(n-b*J) / J'<a:=Jd (by rw [Zh J' a]; omega);have d2:=Z0 (n-b*J) hJp';rw [e];refine Q9 (Q91 (K2:=a+b-(n-b*J) / J') (J2:=J-(n-b*J) % J') hR hx hy (by omega) (by omega) (X:=Uy B (y-x)) ?_) (Pk (by grind) Qo n2 (by grind));exact Zhv x y B _ _ (by omega) (by omega)
  have:=Zgj N key;refine Q9 this ?_;have:(N:Rat)*((H:Rat)*(R^(a+b+J)*(U7 (Uy A y)+U7 (Uy B (y-x)))))=(N:Rat)*((H:Rat)*R^(a+b+J))*(U7 (Uy A y)+U7 (Uy B (y-x))):=by grind
  rw [this]; exact Qo
end Orq
namespace Orq
theorem Zab {w:Nat->Int} {x:Rat} {D:Rat} (hx:U7 x*2<=1) (hw:∀ j,U7 (w j:Rat)<=D):∀ J (k:Nat),U7 (sq J λj=>(w (k+j):Rat)*x^j)<=2*D
 | 0,k=>by have:=hw 0; have:=Hd (w 0:Rat); simp only [sq,Hx]; clear hw; grind
 |
  J+1,k=>by
  have ih:=Zab hx hw J (k+1);rw [Ax];have e:(sq J λi=>(w (k+(i+1)):Rat)*x^(i+1))=x*sq J λi=>(w (k+1+i):Rat)*x^i:=by
   rw [<-Qan]; exact Ss J λi _=>by rw [Xc,show k+(i+1)=k+1+i by omega]; grind
  rw [e,Xi,Xx];have h1:=hw k;have h2:=Tq ((w k:Rat)*1) (x*sq J λi=>(w (k+1+i):Rat)*x^i);have h3:=Gu (x:=x) (y:=sq J λi=>(w (k+1+i):Rat)*x^i) Qo ih;have h4:=Q4 hx (show (0:Rat)<=D by have:=Hd (w k:Rat); clear hw; grind);have h5:(w k:Rat)*1=w k:=by grind
  rw [h5] at h2 ⊢;clear hw; grind
theorem Iu {z:Int} (h:z≠0):1<=U7 (z:Rat):=by
 unfold U7;rcases Kl h with h | h
 ·have:((z:Int):Rat)<((0:Int):Rat):=Jq.2 h;have h2:((1:Int):Rat)<=((-z:Int):Rat):=Jg.2 (by omega);rw [if_pos (by simpa using this)];rw [Vr] at h2;simpa using h2
 ·have:((0:Int):Rat)<((z:Int):Rat):=Jq.2 h;have h2:((1:Int):Rat)<=((z:Int):Rat):=Jg.2 (by omega);rw [if_neg (by
   have:(0:Rat)<z:=by simpa using this
   grind)]
  simpa using h2
theorem Qwm {w:Nat->Int} {x:Rat} {D:Rat} (hD:1<=D) (hx0:0<U7 x) (hx:U7 x*(4*D)<=1) (hw:∀ j,U7 (w j:Rat)<=D):∀ J (k:Nat),(∃ j,j<J/\w (k+j)≠0)->U7 x^J / 2<=U7 (sq J λj=>(w (k+j):Rat)*x^j)
 | 0,k,⟨j,h,_⟩=>by omega
 |
  J+1,k,⟨j,h1,h2⟩=>by
  have hx2:U7 x*2<=1:=by
   have:=Pk (a:=U7 x) (c:=2) (Qp hx0) Qo (by decide) (show (2:Rat)<=4*D by clear hw; grind);exact Q9 this hx
  have hx1:U7 x<=1:=by clear hw; grind
  have hp:∀ k:Nat,U7 x^k<=1/\0<=U7 x^k:=λk=>by
   induction k with
   | zero=>rw [Xi]; exact ⟨by decide,by decide⟩
   |
    succ k ih =>
    rw [Xc];have:=Pk ih.2 ih.1 (Qp hx0) hx1;have:=P9 ih.2 (Qp hx0);constructor <;> (clear hw; grind)
  rw [Ax];have e:(sq J λi=>(w (k+(i+1)):Rat)*x^(i+1))=x*sq J λi=>(w (k+1+i):Rat)*x^i:=by
   rw [<-Qan]; exact Ss J λi _=>by rw [Xc,show k+(i+1)=k+1+i by omega]; grind
  rw [e,Xi,Xx k,show (w k:Rat)*1=w k by grind];by_cases h0:w k=0
  ·have hj:j≠0:=λe=>h2 (by rw [e]; exact h0)
   have ih:=Qwm hD hx0 hx hw J (k+1) ⟨j-1,by omega,by rw [show k+1+(j-1)=k+j by omega]; exact h2⟩;rw [h0,show ((0:Int):Rat)+x*(sq J λi=>(w (k+1+i):Rat)*x^i)=x*sq J λi=>(w (k+1+i):Rat)*x^i by rw [show ((0:Int):Rat)=0 from rfl]; grind,Dm,Xc];have:=Zp ih (Qp hx0);have e2:U7 x*(U7 x^J / 2)=U7 x^J*U7 x / 2:=by rw [Jx,Jx]; grind
   rw [e2] at this; exact this
  ·have a1:=Iu h0;have a2:=Zab hx2 hw J (k+1);have a3:=Gu (x:=x) (y:=sq J λi=>(w (k+1+i):Rat)*x^i) Qo a2;have a4:=Tq ((w k:Rat)+x*sq J λi=>(w (k+1+i):Rat)*x^i) (-(x*sq J λi=>(w (k+1+i):Rat)*x^i));rw [Dn,show (w k:Rat)+(x*sq J λi=>(w (k+1+i):Rat)*x^i)+-(x*sq J λi=>(w (k+1+i):Rat)*x^i)=w k by grind] at a4;have a5:=(hp (J+1)).1;have a6:U7 x^(J+1) / 2*2=U7 x^(J+1):=Gh (by decide);have a7:U7 x*(2*D)*2=U7 x*(4*D):=by grind
   clear hw hp; grind
theorem Zh3 {A B:List Int} {a b h:Nat} (hA:A.length=a+1) (hB:B.length=b+1) (lA:A.getD a 0≠0) (lB:B.getD b 0≠0) (ha:0<a) (hb:0<b) (h0:1<=h) (bA:∀ k,(A.getD k 0).natAbs<=h) (bB:gB B<=h) {N D:Nat} (hN:b*(2*(a*b))+a*(2*(a*b)-b)=N) (hD:N*(h*(2*(N*h))^(2*(a+b-1)))<=D) {R d:Rat} (hR:1<=R) (dp:0<d)
 (hs:∀ e:Rat,0<e->∃ q r,U7 q<=R/\U7 r<=R/\d<=U7 (q-r)/\U7 (q-r)*(4*(D:Rat))<=1/\U7 (Uy A q)<e/\U7 (Uy B r)<e):False:=by
 have hab:0<a*b:=J9 ha hb;have hbab:b<=a*b:=by
  have:=Qz b (show 1<=a from ha); omega
 obtain ⟨w,⟨j,hj,hw0⟩,hw,hC⟩:=Zi1 hA hB lA lB ha hb h0 bA bB (J:=2*(a*b)) (J':=2*(a*b)-b) rfl (by omega) hN.symm rfl;obtain ⟨C,hC0,hC⟩:=hC (2*R) (by grind);have hw':∀ j,U7 (w j:Rat)<=(D:Rat):=λj=>by
  have h1:=Qd (hw j) hD;have h2:w j<=(D:Int):=by omega
  have h3:-(D:Int)<=w j:=by omega
  have h2:=Jg.2 h2;have h3:=Jg.2 h3;rw [Vr] at h3;rw [Ty]; exact ⟨h3,h2⟩
 have hD1:(1:Rat)<=(D:Rat):=by
  have:=Iu hw0;exact Q9 this (hw' j)
 have hdJ:0<d^(2*(a*b)) / 2:=La (Rat.pow_pos dp) (by decide);obtain ⟨e,ep,_,he⟩:=Gw (b:=C*2) (d:=d^(2*(a*b)) / 2) (by grind) hdJ;obtain ⟨q,r,q1,r1,d1,d2,aq,br⟩:=hs e ep;have h1:=hC (q-r) q (by
  have:=Tq q (-r); rw [Dn] at this; have:q-r=q+-r:=by grind
  grind) (by grind)
 rw [show q-(q-r)=r by grind] at h1;have h2:=Qwm (x:=q-r) hD1 (by grind) d2 hw' (2*(a*b)) 0 ⟨j,hj,by rw [Zu]; exact hw0⟩;simp only [Zu] at h2;have h3:C*(U7 (Uy A q)+U7 (Uy B r))<=C*(e+e):=Zp (by grind) hC0;have h4:d^(2*(a*b))<=U7 (q-r)^(2*(a*b)):=by
  generalize 2*(a*b)=J
  induction J with
  | zero=>rw [Xi,Xi]; exact Qo
  |
   succ J ih =>
   rw [Xc,Xc];exact Pk (Qp (Rat.pow_pos dp)) ih (Qp dp) d1
 have h5:d^(2*(a*b)) / 2*2=d^(2*(a*b)):=Gh (by decide);have h6:U7 (q-r)^(2*(a*b)) / 2*2=U7 (q-r)^(2*(a*b)):=Gh (by decide);clear hC hs hw hw';grind
def HD (p:List Rat) (n:Nat):Prop:=p.getD n 0≠0/\∀ k,n<k->p.getD k 0=0
theorem Hz:∀ (p q:List Rat) (k:Nat),(Tr p q).getD k 0=p.getD k 0+q.getD k 0
 | [],q,k=>by simp only [Tr,Kx]; grind
 | a::p,[],k=>by simp only [Tr,Kx]; grind
 | a::p,b::q,0=>by simp only [Tr,Zq]
 | a::p,b::q,k+1=>by simp only [Tr,Q3]; exact Hz p q k
theorem To (c:Rat):∀ (p:List Rat) (k:Nat),(Ce c p).getD k 0=c*p.getD k 0
 | [],k=>by simp only [Ce,Jl,Kx]; grind
 | a::p,0=>by simp [Ce]
 | a::p,k+1=>by have:=To c p k; simp only [Ce,Z8,Q3] at *; exact this
theorem Q7j {p:List Rat} {k:Nat} (h:∀ x∈p,x=0):p.getD k 0=0:=by
 rw [Qf];cases e:p[k]? with
 | none=>rfl
 | some x=>exact h x (Qa e)
theorem B9 {p q:List Rat} (h:∀ t,ev p t=ev q t) (k:Nat):p.getD k 0=q.getD k 0:=by
 have h1:=Q7j (k:=k) (Qcy (p:=Tr p (Ce (-1) q)) λt _ _=>by rw [Gj,Fy,h t]; grind);rw [Hz,To] at h1; grind
theorem Cm:∀ {p:List Rat},(∀ k,p.getD k 0=0)->∀ t,ev p t=0
 | [],_,t=>rfl
 |
  a::p,h,t=>by
  have h0:=h 0;have h1:=Cm (p:=p) (λk=>by have:=h (k+1); rwa [Q3] at this) t;rw [Zq] at h0;simp only [ev,h0,h1]; grind
theorem Qjw:∀ (p:List Rat),(∀ t,ev p t=0)\/∃ n,n<p.length/\HD p n
 | []=>.inl λ_=>rfl
 |
  a::p=>by
  rcases Qjw p with h | ⟨n,hn,h1,h2⟩
  ·rcases Classical.em (a=0) with e | e
   ·exact .inl λt=>by simp only [ev,e,h t]; grind
   ·refine .inr ⟨0,by simp,by simpa using e,λk hk=>?_⟩;obtain ⟨m,rfl⟩:∃ m,k=m+1:=⟨k-1,by omega⟩;rw [Q3];exact (B9 (p:=p) (q:=[]) h m).trans (by simp)
  ·refine .inr ⟨n+1,by simp; omega,by rw [Q3]; exact h1,λk hk=>?_⟩;obtain ⟨m,rfl⟩:∃ m,k=m+1:=⟨k-1,by omega⟩;rw [Q3]; exact h2 m (by omega)
theorem Zf6 {p q:List Rat} {n:Nat} (h:∀ t,ev p t=ev q t) (hp:HD p n):HD q n :=
 ⟨by rw [<-B9 h]; exact hp.1,λk hk=>by rw [<-B9 h]; exact hp.2 k hk⟩
theorem Zf7 {p:List Rat} {n m:Nat} (h:HD p n) (h':HD p m):n=m:=by
 rcases Vy n m with e | e | e
 ·exact absurd (h.2 m e) h'.1
 ·exact e
 ·exact absurd (h'.2 n e) h.1
theorem Qzt {p:List Rat} {n:Nat} (h:HD p n):¬∀ t,ev p t=0:=λh0=>h.1 ((B9 (p:=p) (q:=[]) h0 n).trans (by simp))
theorem Qgt {p q:List Rat} (h:∀ k,p.getD k 0=0) (k:Nat):(Gn p q).getD k 0=0:=by
 have:=B9 (p:=Gn p q) (q:=[]) (λt=>by rw [U5,Cm h t]; simp only [ev]; grind) k;rw [this]; simp
theorem Qjx:∀ {p q:List Rat} {m n:Nat},HD p m->HD q n->HD (Gn p q) (m+n)
 | [],q,m,n,h,_=>absurd (by simp) h.1
 |
  a::p,q,0,n,h,h'=>by
  have h1:∀ k,p.getD k 0=0:=λk=>by have:=h.2 (k+1) (by omega); rwa [Q3] at this
  have h2:∀ k,(Gn (a::p) q).getD k 0=a*q.getD k 0:=λk=>by
   simp only [Gn];rw [Hz,To];cases k with
   | zero=>rw [Zq]; grind
   | succ k=>rw [Q3,Qgt h1]; grind
  have h3:=h.1;rw [Zq] at h3;refine ⟨?_,λk hk=>?_⟩
  ·rw [h2,Zu]; exact λh=>(Je.1 h).elim h3 h'.1
  ·rw [h2,h'.2 k (by omega)]; grind
 |
  a::p,q,m+1,n,h,h'=>by
  have ih:=Qjx (p:=p) (q:=q) (m:=m) ⟨by have:=h.1; rwa [Q3] at this,λk hk=>by have:=h.2 (k+1) (by omega); rwa [Q3] at this⟩ h';refine ⟨?_,λk hk=>?_⟩
  ·simp only [Gn];rw [Hz,To,show m+1+n=(m+n)+1 by omega,Q3,h'.2 _ (by omega)];have:=ih.1; grind
  ·obtain ⟨j,rfl⟩:∃ j,k=j+1:=⟨k-1,by omega⟩;simp only [Gn];rw [Hz,To,Q3,h'.2 _ (by omega),ih.2 j (by omega)]; grind
def Ob (g f:List Rat):Prop:=∃ u,∀ t,ev f t=ev g t*ev u t
theorem dvd_refl (f:List Rat):Ob f f:=⟨[1],λt=>by rw [Rf]; grind⟩
theorem dvd_trans {f g h:List Rat}:Ob f g->Ob g h->Ob f h
 | ⟨u,hu⟩,⟨v,hv⟩=>⟨Gn u v,λt=>by rw [hv,hu,U5]; grind⟩
theorem Qs5 {p q:List Rat} (h:∀ t,ev p t*ev q t=0) (hp:¬∀ t,ev p t=0):∀ t,ev q t=0:=by
 rcases Qjw p with h1 | ⟨m,_,h1⟩
 ·exact absurd h1 hp
 ·rcases Qjw q with h2 | ⟨n,_,h2⟩
  ·exact h2
  ·exact absurd (λt=>by rw [U5]; exact h t) (Qzt (Qjx h1 h2))
theorem Qvq {p q r:List Rat} (hp:¬∀ t,ev p t=0) (h:∀ t,ev p t*ev q t=ev p t*ev r t) (t:Rat):ev q t=ev r t:=by
 have:=Qs5 (p:=p) (q:=Tr q (Ce (-1) r)) (λt=>by rw [Gj,Fy]; have:=h t; grind) hp t;rw [Gj,Fy] at this; grind
theorem Q6l {b:List Rat} {n:Nat} (hb:HD b n):∀ (l:Nat) (a:List Rat),(∀ k,l<=k->a.getD k 0=0)->∃ q r,(∀ t,ev a t=ev q t*ev b t+ev r t)/\∀ k,n<=k->r.getD k 0=0
 | 0,a,ha=>⟨[],a,λt=>by simp only [ev]; grind,λk _=>ha k (Qg _)⟩
 |
  l+1,a,ha=>by
  rcases Q6 l n with h | h
  ·exact ⟨[],a,λt=>by simp only [ev]; grind,λk hk=>ha k (by omega)⟩
  ·-- the leading term is taken away
   obtain ⟨c,hc⟩:=nmE (a.getD l 0 / b.getD n 0);have hcb:c*b.getD n 0=a.getD l 0:=by rw [hc]; exact Zj hb.1
   obtain ⟨m,hm⟩:∃ m:List Rat,m=List.replicate (l-n) 0++[c]:=⟨_,rfl⟩;have hsh:∀ (i:Nat) (k:Nat),(Gn (List.replicate i 0++[c]) b).getD k 0=if i<=k then c*b.getD (k-i) 0 else 0:=λi=>by
    induction i with
    | zero=>intro k; simp only [Wq,Yz,Gn]; rw [Hz,To]; cases k <;> simp <;> grind
    |
     succ i ih =>
     intro k;simp only [J7,Xf,Gn];rw [Hz,To];cases k with
     | zero=>rw [Zq,if_neg (by omega)]; grind
     |
      succ k =>
      rw [Q3,ih k];by_cases h:i<=k
      ·rw [if_pos h,if_pos (by omega),Nat.add_sub_add_right]; grind
      ·rw [if_neg h,if_neg (by omega)]; grind
   obtain ⟨q,r,h1,h2⟩:=Q6l hb l (Tr a (Ce (-1) (Gn m b))) λk hk=>by
    rw [Hz,To,hm,hsh,if_pos (by omega)];rcases Vo hk with e | e
    ·rw [ha k (by omega),hb.2 _ (by omega)]; grind
    ·subst e; rw [show l-(l-n)=n by omega,hcb]; grind
   refine ⟨Tr q m,r,λt=>?_,h2⟩;have:=h1 t;rw [Gj,Fy,U5] at this;rw [Gj]; grind
theorem Qv6:∀ (n:Nat) (a b:List Rat),(∀ k,n<=k->b.getD k 0=0)->∃ g U V,Ob g a/\Ob g b/\∀ t,ev g t=ev U t*ev a t+ev V t*ev b t
 |
  0,a,b,h=>by
  have h0:=Cm λk=>h k (Qg _)
  exact ⟨a,[1],[],dvd_refl a,⟨[],λt=>by rw [h0]; simp only [ev]; grind⟩,λt=>by rw [Rf]; simp only [ev]; grind⟩
 |
  n+1,a,b,h=>by
  rcases Classical.em (b.getD n 0=0) with e | e
  ·exact Qv6 n a b λk hk=>by
    rcases Vo hk with e' | e'
    ·exact h k (by omega)
    ·rw [<-e']; exact e
  ·obtain ⟨q,r,h1,h2⟩:=Q6l (b:=b) (n:=n) ⟨e,λk hk=>h k (by omega)⟩ a.length a λk hk=>by rw [Qf,Qu hk]; rfl
   obtain ⟨g,U,V,⟨u,hu⟩,⟨v,hv⟩,hg⟩:=Qv6 n b r h2;refine ⟨g,V,Tr U (Ce (-1) (Gn V q)),⟨Tr (Gn q u) v,λt=>?_⟩,⟨u,hu⟩,λt=>?_⟩
   ·rw [h1,hv,Gj,U5,hu]; grind
   ·rw [hg,Gj,Fy,U5,h1]; grind
theorem Q7f (a b:List Rat):∃ g U V,Ob g a/\Ob g b/\∀ t,ev g t=ev U t*ev a t+ev V t*ev b t :=
 Qv6 b.length a b λk hk=>by rw [Qf,Qu hk]; rfl
def Cop (a b:List Rat):Prop:=∃ U V,∀ t,ev U t*ev a t+ev V t*ev b t=1
theorem Qot {c d e:List Rat} (h:Cop c d) (h1:∃ u,∀ t,ev d t*ev e t=ev c t*ev u t):Ob c e:=by
 obtain ⟨U,V,h⟩:=h;obtain ⟨u,hu⟩:=h1;refine ⟨Tr (Gn U e) (Gn V u),λt=>?_⟩;rw [Gj,U5,U5];have a1:=h t;have a2:=hu t;have:ev e t=(ev U t*ev c t+ev V t*ev d t)*ev e t:=by rw [a1]; grind
 rw [this];have:(ev U t*ev c t+ev V t*ev d t)*ev e t=ev U t*ev c t*ev e t+ev V t*(ev d t*ev e t):=by grind
 rw [this,a2]; grind
def qpw (d:List Rat):Nat->List Rat
 | 0=>[1]
 | k+1=>Gn d (qpw d k)
theorem Qw9 (d:List Rat) (t:Rat):∀ k:Nat,ev d t*dv (qpw d k) t=(k:Rat)*(dv d t*ev (qpw d k) t)
 | 0=>by simp only [qpw,dv,ev]; rw [show ((0:Nat):Rat)=0 from rfl]; grind
 |
  k+1=>by
  have ih:=Qw9 d t k;have hn':(((k+1:Nat):Rat))=(k:Rat)+1:=by push_cast; rfl
  simp only [qpw];rw [Qo1,U5,hn']; grind
theorem Q9c {d:List Rat} {m:Nat} (h:HD d m):∀ k,HD (qpw d k) (k*m)
 | 0=>by rw [Ya]; exact ⟨by simp [qpw],λk hk=>by simp only [qpw]; rw [Qf,Qu (by simp; omega)]; rfl⟩
 | k+1=>by rw [Xh,Jm (k*m) m]; exact Qjx h (Q9c h k)
theorem Qne {d g:List Rat} {m n:Nat} (hd:HD d m) (hg:HD g n) (h:∀ k,Ob (qpw d k) g):m=0:=by
 obtain ⟨u,hu⟩:=h (n+1);rcases Qjw u with h1 | ⟨j,_,h1⟩
 ·exact absurd (λt=>by rw [hu,h1]; grind) (Qzt hg)
 ·have:=Zf7 (Zf6 (λt=>by rw [hu,U5]) hg) (Qjx (Q9c hd (n+1)) h1);rcases Qy m with e | e
  ·exact e
  ·have:(n+1)*1<=(n+1)*m:=Zm _ e;omega
theorem sqf {a g q d U V:List Rat} {k:Rat} (hk:k≠0) (ha:∀ t,ev a t=ev g t*ev q t) (hg:∀ t,k*ev g t=ev U t*ev a t+ev V t*dv a t) (h1:Ob d q) (h2:Ob d (Mw q)):∀ n,Ob (qpw d n) g
 | 0=>⟨g,λt=>by simp only [qpw]; rw [Rf]; grind⟩
 |
  n+1=>by
  obtain ⟨g1,e1⟩:=sqf hk ha hg h1 h2 n;obtain ⟨q1,e2⟩:=h1;obtain ⟨q2,e3⟩:=h2;have d1:=λt=>Ii ha t
  have d2:=λt=>Ii e1 t
  have d3:=λt=>Ii e2 t
  have d4:=Qw9 d;refine ⟨Ce (1 / k) (Tr (Gn U (Gn g1 q1)) (Gn V (Tr (Gn g1 q2) (Tr (Ce n (Gn g1 (Tr q2 (Ce (-1) (Mw q1))))) (Gn (Mw g1) q1))))),λt=>?_⟩;have hkk:1 / k*k=1:=Zj hk;simp only [qpw,Fy,Gj,U5,Rq];have b1:=ha t; have b2:=hg t; have b3:=e1 t; have b4:=e2 t; have b5:=e3 t;have b6:=d1 t; have b7:=d2 t; have b8:=d3 t; have b9:=d4 t n;rw [Rq] at b5;generalize ev d t=x0 at *;generalize ev (qpw d n) t=x1 at *;generalize ev g t=x2 at *;generalize ev q t=x3 at *;generalize ev a t=x4 at *;generalize dv a t=x5 at *;generalize dv g t=x6 at *;generalize dv q t=x7 at *;generalize ev g1 t=x8 at *;generalize dv g1 t=x9 at *;generalize ev q1 t=y0 at *;generalize dv q1 t=y1 at *;generalize ev q2 t=y2 at *;generalize dv d t=y3 at *;generalize dv (qpw d n) t=y4 at *;generalize ev U t=y5 at *;generalize ev V t=y6 at *;generalize (n:Rat)=y7 at *;have:x2=1 / k*(k*x2):=by grind
  rw [this,b2];have c1:x5=x0*x1*(x8*y2+(y7*(x8*(y2+-1*y1))+x9*y0)):=by
   rw [b6,b7,b4,b3];have:y3*y0=x0*y2-x0*y1:=by grind
   have:x0*y4*(x8*y0)=y7*(x1*x8*(x0*y2-x0*y1)):=by rw [b9,<-this]; grind
   grind
  have c2:x4=x0*x1*(x8*y0):=by rw [b1,b3,b4]; grind
  rw [c1,c2]; grind
theorem Zck {a b c:List Rat} (h1:Cop a b) (h2:Cop a c) {d:List Rat} (hd:∀ t,ev d t=ev b t*ev c t):Cop a d:=by
 obtain ⟨U,V,h1⟩:=h1;obtain ⟨X,Y,h2⟩:=h2;refine ⟨Tr U (Gn (Gn V b) X),Gn V Y,λt=>?_⟩;have a1:=h1 t;have a2:=h2 t;simp only [Gj,U5,hd];have:ev V t*ev b t*(ev X t*ev a t+ev Y t*ev c t)=ev V t*ev b t:=by rw [a2]; grind
 grind
theorem Ze0 {a g q z r X Y:List Rat} {n:Nat} (ha:∀ t,ev a t=ev g t*ev q t) (hz:∀ t,dv a t=ev g t*ev z t) (hg:HD g n) (hr:∀ t,ev X t*ev r t+ev Y t*dv r t=1) (h:Ob r a):Ob r q:=by
 obtain ⟨b,hb⟩:=h;obtain ⟨e,U,V,⟨r1,e1⟩,⟨q3,e2⟩,e3⟩:=Q7f r q;have hr0:¬∀ t,ev r t=0:=λh=>by
  have h1:=hr 0;have h2:dv r 0=0:=by have:=Q6q (p:=r) (q:=[]) h 0; rw [this]; rfl
  rw [h,h2] at h1; grind
 have he0:¬∀ t,ev e t=0:=λh=>hr0 λt=>by rw [e1,h]; grind
 have d1:=λt=>Ii e1 t
 have c1:Cop r1 q3:=⟨U,V,λt=>by
  have:=Qvq (p:=e) (q:=Tr (Gn U r1) (Gn V q3)) (r:=[1]) he0 (λt=>by
   rw [Gj,U5,U5,Rf];have a1:=e1 t; have a2:=e2 t; have a3:=e3 t;rw [a1,a2] at a3; grind) t
  rw [Gj,U5,U5,Rf] at this; exact this⟩
 have c2:Cop r1 e:=⟨Tr (Gn X e) (Gn Y (Mw e)),Gn Y (Mw r1),λt=>by
  have a1:=hr t; have a2:=e1 t; have a3:=d1 t;simp only [Gj,U5,Rq];rw [a2,a3] at a1; grind⟩
 have c3:Cop r1 (Mw r1):=⟨Tr (Gn X e) (Gn Y (Mw e)),Gn Y e,λt=>by
  have a1:=hr t; have a2:=e1 t; have a3:=d1 t;simp only [Gj,U5,Rq];rw [a2,a3] at a1; grind⟩
 have c4:Cop r1 q:=Zck c2 c1 e2;have hgz:=Qzt hg;have hp:∀ k,Ob (qpw r1 k) g:=λk=>by
  induction k with
  | zero=>exact ⟨g,λt=>by simp only [qpw]; rw [Rf]; grind⟩
  |
   succ k ih =>
   obtain ⟨h,eh⟩:=ih;have hpz:¬∀ t,ev (qpw r1 k) t=0:=λh0=>hgz λt=>by rw [eh,h0]; grind
   have key:Ob r1 h:=by
    cases k with
    |
     zero =>
     refine Qot c4 ⟨Gn e b,λt=>?_⟩;have a1:=ha t; have a2:=hb t; have a3:=e1 t; have a4:=eh t;simp only [qpw] at a4;rw [Rf] at a4;rw [U5]; grind
    |
     succ k =>
     have hn:((k+1:Nat):Rat)≠0:=by
      have:(0:Rat)<((k+1:Nat):Rat):=by
       have h1:((0:Nat):Rat)<((k+1:Nat):Rat):=Vu.2 (by omega);simpa using h1
      grind
     have d2:=λt=>Ii (f:=a) (w:=qpw r1 (k+1)) (u:=Gn h q) (λt=>by rw [ha,eh,U5]; grind) t
     have d4:=Qw9 r1;have h3:=Qvq (p:=qpw r1 (k+1)) (q:=Gn (Mw r1) (Gn h q)) (r:=Gn r1 (Ce (1 / ((k+1:Nat):Rat)) (Tr (Gn h z) (Ce (-1) (Mw (Gn h q)))))) hpz λt=>by
      simp only [U5,Fy,Gj,Rq];have a1:=d2 t; have a2:=d4 t (k+1); have a3:=hz t; have a4:=eh t;rw [U5] at a1;generalize ((k+1:Nat):Rat)=c at *;have hc:1 / c*c=1:=Zj hn;generalize ev (qpw r1 (k+1)) t=x0 at *;generalize dv (qpw r1 (k+1)) t=x1 at *;generalize dv (Gn h q) t=x2 at *;generalize ev r1 t=x3 at *;generalize dv r1 t=x4 at *;generalize ev h t=x5 at *;generalize ev q t=x6 at *;generalize ev z t=x7 at *;generalize dv a t=x8 at *;generalize ev g t=x9 at *;generalize 1 / c=c' at *;have s1:x0*(x4*(x5*x6))=c'*(c*(x4*x0))*(x5*x6):=by
       have:c'*(c*(x4*x0))=(c'*c)*(x4*x0):=by grind
       rw [this,hc]; grind
      rw [s1,<-a2];have s2:x3*(x1*(x5*x6))=x3*(x0*(x5*x7+-1*x2)):=by
       rw [a3,a4] at a1; grind
      grind
     refine Qot c4 ?_;obtain ⟨u,hu⟩:=Qot (e:=Gn q h) c3 ⟨Ce (1 / ((k+1:Nat):Rat)) (Tr (Gn h z) (Ce (-1) (Mw (Gn h q)))),λt=>by
      have:=h3 t;simp only [U5] at this ⊢;rw [<-this]; grind⟩
     exact ⟨u,λt=>by rw [<-hu,U5]⟩
   obtain ⟨u,hu⟩:=key;exact ⟨u,λt=>by simp only [qpw]; rw [U5,eh,hu]; grind⟩
 rcases Qjw r1 with h1 | ⟨m,_,h1⟩
 ·exact absurd (λt=>by rw [e1,h1]; grind) hr0
 ·obtain rfl:=Qne h1 hg hp;have h2:∀ t,ev r1 t=r1.getD 0 0:=λt=>by
   cases r1 with
   | nil=>simp [ev]
   |
    cons c l =>
    have:∀ t,ev l t=0:=Cm λk=>by have:=h1.2 (k+1) (by omega); rwa [Q3] at this
    simp only [ev,this,Zq]; grind
  have h3:=h1.1;refine ⟨Ce (1 / r1.getD 0 0) q3,λt=>?_⟩;rw [e2,e1,h2,Fy];have:1 / r1.getD 0 0*r1.getD 0 0=1:=Zj h3;have:ev e t*r1.getD 0 0*(1 / r1.getD 0 0*ev q3 t)=ev e t*ev q3 t*(1 / r1.getD 0 0*r1.getD 0 0):=by grind
  rw [this,Zj h3]; grind
def Aj:List (List Rat)->List Rat
 | []=>[1]
 | w::l=>Gn w (Aj l)
def Lay:List (List Rat)->List (List Rat)->Prop
 | [],[]=>True
 | [w],[f]=>∀ t,ev w t=ev f t
 | w::v::l,f::fs=>(∀ t,ev w t=ev f t*ev v t)/\Lay (v::l) fs
 | _,_=>False
def Qhg:List (List Rat)->List Rat
 | []=>[1]
 | [f]=>f
 | f::_::l=>Gn f (Qhg l)
theorem Qz3:∀ {ws fs:List (List Rat)},Lay ws fs->∃ S,∀ t,ev (Aj ws) t=ev (Qhg fs) t*(ev S t*ev S t)
 | [],[],_=>⟨[1],λt=>by simp only [Aj,Qhg]; rw [Rf]; grind⟩
 | [w],[f],h=>⟨[1],λt=>by simp only [Aj,Qhg]; rw [U5,Rf,h t]; grind⟩
 |
  [w,v],[f,f2],h=>⟨v,λt=>by
  have h1:=h.1 t;have h2:ev v t=ev f2 t:=h.2 t;simp only [Aj,Qhg,U5]; rw [Rf,h1]; grind⟩
 |
  w::v::x::l,f::f2::fs,h=>by
  obtain ⟨S,hS⟩:=Qz3 h.2.2;refine ⟨Gn v S,λt=>?_⟩;have h1:=h.1 t;have h2:=hS t;have e1:ev (Aj (w::v::x::l)) t=ev w t*(ev v t*ev (Aj (x::l)) t):=by simp only [Aj,U5]
  rw [e1,h2,h1];have e2:ev (Qhg (f::f2::fs)) t=ev f t*ev (Qhg fs) t:=by
   cases fs with
   | nil=>cases l <;> exact False.elim h.2.2
   | cons y l=>simp only [Qhg,U5]
  rw [e2,U5]; grind
 | [w],[],h=>h.elim
 | [w],_::_::_,h=>h.elim
 | [],_::_,h=>h.elim
 | [w,v],[f],h=>h.2.elim
 | [w,v],_::_::_::_,h=>h.2.elim
 | w::v::x::l,[f],h=>h.2.elim
 | w::v::l,[],h=>h.elim
end Orq
namespace Orq
open Orr Go
theorem Qwv (p:List Int) (t:Rat):Uy p t=((p.getD 0 0:Int):Rat)+t*Uy p.tail t:=by
 cases p with
 | nil=>show (0:Rat)=((0:Int):Rat)+t*0; grind
 | cons a p=>rfl
theorem Qfk (p:List Int) (k:Nat):p.tail.getD k 0=p.getD (k+1) 0:=by
 cases p <;> simp
theorem Ns (c d:Int) (t:Rat):∀ (n:Nat) (p q r:List Int),p.length<=n->q.length<=n->r.length<=n->(∀ k,r.getD k 0=c*p.getD k 0+d*q.getD k 0)->Uy r t=(c:Rat)*Uy p t+(d:Rat)*Uy q t
 |
  0,p,q,r,hp,hq,hr,_=>by
  rw [Qh (Nat.le_zero.1 hp),Qh (Nat.le_zero.1 hq),Qh (Nat.le_zero.1 hr)];show (0:Rat)=_*0+_*0;grind
 |
  n+1,p,q,r,hp,hq,hr,h=>by
  have ih:=Ns c d t n p.tail q.tail r.tail (by rw [Ug]; omega) (by rw [Ug]; omega) (by rw [Ug]; omega) λk=>by
   rw [Qfk,Qfk,Qfk]; exact h (k+1)
  rw [Qwv p,Qwv q,Qwv r,ih,h 0]
  push_cast
  grind
theorem Q0p {p q:List Int} (h:∀ k,p.getD k 0=q.getD k 0) (t:Rat):Uy p t=Uy q t:=by
 have:=Ns 1 0 t (max p.length q.length) q q p (Ui ..) (Ui ..) (Nat.le_max_left ..) λk=>by rw [h k]; omega
 rw [this]
 push_cast
 grind
theorem An (p:List Int) (t:Rat):Uy (trim p) t=Uy p t:=Q0p (D4 p) t
theorem Mt {p:List Int} {k:Nat} (h:p.length<=k):p.getD k 0=0:=by
 rw [Qf,Qu h]; rfl
theorem Qm6 (p q:List Int) (k:Nat):(Bv p q).getD k 0=p.getD k 0+q.getD k 0:=by
 unfold Bv;rw [Ti]
 split
 ·rfl
 ·rename_i h; rw [Mt (p:=p) (by omega),Mt (p:=q) (by omega)]; rfl
theorem As (p q:List Int) (k:Nat):(Po p q).getD k 0=p.getD k 0-q.getD k 0:=by
 unfold Po;rw [Ti]
 split
 ·rfl
 ·rename_i h; rw [Mt (p:=p) (by omega),Mt (p:=q) (by omega)]; rfl
theorem Pm (p:List Int) (c:Int) (k:Nat):(Fi p c).getD k 0=p.getD k 0*c:=by
 unfold Fi;rw [Ti]
 split
 ·rfl
 ·rename_i h; rw [Mt (p:=p) (by omega),Int.zero_mul]
theorem Q3g (p:List Int) (k:Nat):(S5 p).getD k 0=-(p.getD k 0):=by
 unfold S5;rw [Ti]
 split
 ·rfl
 ·rename_i h; rw [Mt (p:=p) (by omega)]; rfl
theorem M7 (p:List Int) (k:Nat):(Gf p).getD k 0=p.getD (k+1) 0*((k+1:Nat):Int):=by
 unfold Gf;rw [Ti]
 split
 ·rfl
 ·rename_i h; rw [Mt (p:=p) (by omega),Int.zero_mul]
theorem Cu (p q:List Int) (t:Rat):Uy (Bv p q) t=Uy p t+Uy q t:=by
 have:=Ns 1 1 t (max (max p.length q.length) (Bv p q).length) p q (Bv p q) (by omega) (by omega) (by omega) λk=>by rw [Qm6]; omega
 rw [this]; push_cast; grind
theorem Nt (p q:List Int) (t:Rat):Uy (Po p q) t=Uy p t-Uy q t:=by
 have:=Ns 1 (-1) t (max (max p.length q.length) (Po p q).length) p q (Po p q) (by omega) (by omega) (by omega) λk=>by rw [As]; omega
 rw [this]; push_cast; grind
theorem Qae (p:List Int) (t:Rat):Uy (S5 p) t=-Uy p t:=by
 have:=Ns (-1) 0 t (max p.length (S5 p).length) p p (S5 p) (by omega) (by omega) (by omega) λk=>by rw [Q3g]; omega
 rw [this]; push_cast; grind
theorem Rh (p:List Int) (c:Int) (t:Rat):Uy (Fi p c) t=Uy p t*(c:Rat):=by
 have:=Ns c 0 t (max p.length (Fi p c).length) p p (Fi p c) (by omega) (by omega) (by omega) λk=>by rw [Pm,Wg]; omega
 rw [this]; push_cast; grind
theorem Qpw:∀ (l:List Int) (j:Nat) (v:Int) (t:Rat),j<l.length->Uy (l.set j v) t=Uy l t+((v:Rat)-((l.getD j 0:Int):Rat))*t^j
 | [],_,_,_,h=>by simp at h
 |
  a::l,0,v,t,_=>by
  show (v:Rat)+t*Uy l t=(a:Rat)+t*Uy l t+((v:Rat)-(a:Rat))*t^0;rw [Xi]; grind
 |
  a::l,j+1,v,t,h=>by
  have ih:=Qpw l j v t (by simpa using h);show (a:Rat)+t*Uy (l.set j v) t=(a:Rat)+t*Uy l t+((v:Rat)-((l.getD j 0:Int):Rat))*t^(j+1);rw [ih,Xc]; grind
theorem Qkn:∀ (l:List Int) (k:Nat) (t:Rat),k<l.length->Uy (l.take (k+1)) t=Uy (l.take k) t+((l.getD k 0:Int):Rat)*t^k
 | [],_,_,h=>by simp at h
 |
  a::l,0,t,_=>by
  show (a:Rat)+t*Uy (l.take 0) t=0+(a:Rat)*t^0;rw [Xi,V2];show (a:Rat)+t*0=_;grind
 |
  a::l,k+1,t,h=>by
  have ih:=Qkn l k t (by simpa using h);show (a:Rat)+t*Uy (l.take (k+1)) t=(a:Rat)+t*Uy (l.take k) t+((l.getD k 0:Int):Rat)*t^(k+1);rw [ih,Xc]; grind
theorem Qna (n:Nat) (t:Rat):Uy (List.replicate n 0) t=0:=by
 induction n with
 | zero=>rfl
 |
  succ n ih =>
  show ((0:Int):Rat)+t*Uy (List.replicate n 0) t=0;rw [ih]; push_cast; grind
theorem Qt0 (t:Rat) (i:Nat):∀ k,t^(i+k)=t^i*t^k
 | 0=>by rw [Xx,Xi]; grind
 | k+1=>by rw [<-Yk,Xc,Xc,Qt0 t i k]; grind
theorem Qtk (x:Int) (b:List Int) (i:Nat) (o:List Int) (t:Rat):∀ k,k<=b.length->i+k<=o.length->Uy (Ag x b i o k) t=Uy o t+(x:Rat)*t^i*Uy (b.take k) t
 |
  0,_,_=>by
  show Uy o t=Uy o t+(x:Rat)*t^i*0;grind
 |
  k+1,h1,h2=>by
  have ih:=Qtk x b i o t k (by omega) (by omega);simp only [Ag];rw [Qpw _ _ _ _ (by rw [Ah]; omega),ih,Qkn b k t (by omega)];have hp:t^(i+k)=t^i*t^k:=Qt0 t i k;rw [hp]
  push_cast
  grind
theorem Qtj (a b o:List Int) (t:Rat):∀ i,i<=a.length->i+b.length<=o.length+1->Uy (No a b o i) t=Uy o t+Uy (a.take i) t*Uy b t
 |
  0,_,_=>by
  show Uy o t=Uy o t+0*Uy b t;grind
 |
  i+1,h1,h2=>by
  have ih:=Qtj a b o t i (by omega) (by omega);simp only [No];rw [Qtk _ _ _ _ _ b.length (Qi _) (by rw [Np]; omega),ih,Qkn a i t (by omega),Q0];grind
theorem Fh (a b:List Int) (t:Rat):Uy (Fu a b) t=Uy a t*Uy b t:=by
 unfold Fu
 split
 ·rename_i h;rcases h with h | h
  ·rw [Qh h]; show (0:Rat)=0*_; grind
  ·rw [Qh h]; show (0:Rat)=_*0; grind
 ·rename_i h;rw [An,Qtj a b _ t a.length (Qi _) (by rw [Ja]; omega),Qna,Q0];grind
theorem Hh (z d:Int):(z:Rat) / (d:Rat)=Rat.divInt z d:=by
 by_cases h:d=0
 ·subst h; simp; grind
 ·rw [Jx]; exact (Rat.divInt_eq_div z d ▸ by rw [Jx])
theorem Qqx (a:List Int) (n d:Int) (hd:(d:Rat)≠0):∀ k,k<=a.length->(((Pu a n d k).2:Int):Rat)=(d:Rat)^k/\(((Pu a n d k).1:Int):Rat)*d=(d:Rat)^k*Uy (a.drop (a.length-k)) ((n:Rat) / d)
 |
  0,_=>by
  refine ⟨by rw [Xi]; rfl,?_⟩;rw [Wn,Ky];show ((0:Int):Rat)*d=(d:Rat)^0*0
  push_cast; grind
 |
  k+1,hk=>by
  obtain ⟨h1,h2⟩:=Qqx a n d hd k (by omega);have hi:a.length-1-k<a.length:=by omega
  have e1:a.drop (a.length-(k+1))=a.getD (a.length-1-k) 0::a.drop (a.length-k):=by
   rw [show a.length-(k+1)=a.length-1-k by omega,Zl hi,show a.length-1-k+1=a.length-k by omega];congr 1;rw [Qf,Qe hi]; rfl
  refine ⟨?_,?_⟩
  ·show (((Pu a n d k).2*d:Int):Rat)=_;rw [X1,h1,Xc]
  ·rw [e1];show (((Pu a n d k).1*n+a.getD (a.length-1-k) 0*(Pu a n d k).2:Int):Rat)*d=_*(((a.getD (a.length-1-k) 0:Int):Rat)+(n:Rat) / d*Uy (a.drop (a.length-k)) ((n:Rat) / d));rw [Kk,X1,X1,h1,Xc];have h3:(n:Rat) / d*d=n:=by rw [Zj hd]
   have h4:(d:Rat)^k*d*((n:Rat) / d*Uy (a.drop (a.length-k)) ((n:Rat) / d))=((n:Rat) / d*d)*((d:Rat)^k*Uy (a.drop (a.length-k)) ((n:Rat) / d)):=by grind
   have h5:(d:Rat)^k*d*(((a.getD (a.length-1-k) 0:Int):Rat)+(n:Rat) / d*Uy (a.drop (a.length-k)) ((n:Rat) / d))=(d:Rat)^k*d*((a.getD (a.length-1-k) 0:Int):Rat)+(d:Rat)^k*d*((n:Rat) / d*Uy (a.drop (a.length-k)) ((n:Rat) / d)):=by grind
   rw [h5,h4,h3,<-h2];grind
theorem Qp1 {d:Rat} (h:0<d):∀ k:Nat,0<d^k
 | 0=>by rw [Xi]; decide
 | k+1=>by rw [Xc]; exact Jh (Qp1 h k) h
theorem Do {x y:Rat} (h:0<y):U6 (y*x)=U6 x:=by
 unfold U6;have h1:y*x<0↔x<0:=by
  constructor
  ·intro h2;rcases V4 (a:=0) (b:=x) with h3 | h3
   ·have:=Vb (Qp h) h3; grind
   ·rcases Vi.1 h3 with h4 | h4
    ·exact h4
    ·rw [h4] at h2; grind
  ·intro h2;have:=Jh h (show 0 < -x by grind);grind
 have h2:0<y*x↔0<x:=by
  constructor
  ·intro h2;rcases V4 (a:=x) (b:=0) with h3 | h3
   ·have:=Vb (Qp h) (show 0<=-x by grind); grind
   ·rcases Vi.1 h3 with h4 | h4
    ·exact h4
    ·rw [<-h4] at h2; grind
  ·intro h2; exact Jh h h2
 simp only [h1,h2]
theorem Q6b (z:Int):C0 z 0=U6 (z:Rat):=by
 unfold C0 U6;have h1:((z:Int):Rat)<0↔z<0:=by
  have := @Rat.intCast_lt_intCast z 0; simpa using this
 have h2:0<((z:Int):Rat)↔0<z:=by
  have := @Rat.intCast_lt_intCast 0 z; simpa using this
 simp only [h1,h2]
theorem Sp (p:List Int) (q:Rat):Gm p q=U6 (Uy p q):=by
 have hd0:(0:Rat)<((q.den:Int):Rat):=by
  have := @Rat.intCast_lt_intCast 0 (q.den:Int);rw [show ((0:Int):Rat)=0 from rfl] at this;exact this.2 (den_pos q)
 have hd:((q.den:Int):Rat)≠0:=by intro h; rw [h] at hd0; exact absurd hd0 (by decide)
 obtain ⟨_,h⟩:=Qqx p q.num q.den hd p.length (Qi _);rw [Jn,Xm,Hh,Zz] at h;unfold Gm;rw [Q6b,<-Do hd0,Um];show U6 ((((Pu p q.num q.den p.length).1:Int):Rat)*_)=_;rw [h,Do (Qp1 hd0 _)]
def cz (p:List Int):List Rat:=p.map λz:Int=>(z:Rat)
theorem Uz (t:Rat):∀ p,ev (cz p) t=Uy p t
 | []=>rfl
 | a::p=>by have:=Uz t p; simp only [cz,Z8,ev,Uy] at *; rw [this]
theorem Py:∀ (p:List Int) (k:Nat),(cz p).getD k 0=((p.getD k 0:Int):Rat)
 | [],k=>by simp [cz]
 | a::p,0=>by simp [cz]
 | a::p,k+1=>by have:=Py p k; simp only [cz,Z8,Q3] at *; exact this
theorem Cq {p q:List Int} (h:∀ t,Uy p t=Uy q t) (k:Nat):p.getD k 0=q.getD k 0:=by
 have:=B9 (p:=cz p) (q:=cz q) (λt=>by rw [Uz,Uz,h]) k;rw [Py,Py] at this
 exact_mod_cast this
theorem Ze6 {p q:List Int} (hp:U3 p) (hq:U3 q) (h:∀ k,p.getD k 0=q.getD k 0):p=q:=by
 have key:∀ {p q:List Int},U3 p->U3 q->(∀ k,p.getD k 0=q.getD k 0)->p.length<=q.length:=λ{p q} hp hq h=>by
  rcases Q6 q.length p.length with e | e
  ·have:=Hk hp (by omega);rw [h,Qf,Qu (by omega)] at this;exact absurd rfl this
  ·exact e
 exact Qjj (Kj (key hp hq h) (key hq hp λk=>(h k).symm)) λj _=>h j
theorem Qpv {p q:List Int} (hp:U3 p) (hq:U3 q) (h:∀ t,Uy p t=Uy q t):p=q:=Ze6 hp hq (Cq h)
theorem Zd1 {p:List Int} (hp:U3 p) (h:∀ t,Uy p t=0):p=[]:=Qpv hp rfl λt=>by rw [h]; rfl
theorem Cc {p:List Int} (h:p.length=0) (t:Rat):Uy p t=0:=by rw [Qh h]; rfl
theorem Q0o:∀ (p r:List Int) (t:Rat),(∀ k,r.getD k 0=p.getD (k+1) 0*((k+1:Nat):Int))->Uy r t=dv (cz p) t
 |
  [],r,t,h=>by
  rw [Q0p (q:=[]) (λk=>by rw [h]; simp) t]; rfl
 |
  a::p,r,t,h=>by
  have ih:=Q0o p (Gf p) t λk=>M7 p k
  have e:Uy r t=Uy p t+t*Uy (Gf p) t:=by
   have:=Ns 1 1 t (max (max p.length (0::Gf p).length) r.length) p (0::Gf p) r (by omega) (by omega) (by omega) λk=>by
    rw [h,Q3];cases k with
    | zero=>simp
    | succ k=>rw [Q3,M7]; push_cast; grind
   rw [this]; simp only [Uy]; push_cast; grind
  rw [e,ih];show _=ev (cz p) t+t*dv (cz p) t;rw [Uz]
theorem Am (p:List Int) (t:Rat):Uy (Gf p) t=dv (cz p) t:=Q0o p _ t λk=>M7 p k
theorem Qgs {p:List Int} (hp:U3 p) (h:0<p.length):HD (cz p) (p.length-1):=by
 refine ⟨?_,λk hk=>?_⟩
 ·rw [Py];have:=Hk hp h;exact λe=>this (by exact_mod_cast e)
 ·rw [Py,Qf,Qu (by omega)]; rfl
theorem Qgj {p:List Int} (hp:U3 p) (h:0<p.length):¬∀ t,Uy p t=0:=λh0=>by
 rw [Zd1 hp h0] at h; exact absurd h (by simp)
theorem Pz {a b c:List Int} (ha:U3 a) (hb:U3 b) (hc:U3 c) (h:∀ t,Uy c t=Uy a t*Uy b t) (la:0<a.length) (lb:0<b.length):c.length=a.length+b.length-1:=by
 have h1:=Qjx (Qgs ha la) (Qgs hb lb);have h2:HD (cz c) (a.length-1+(b.length-1)):=Zf6 (λt=>by rw [U5,Uz,Uz,Uz,h]) h1;have lc:0<c.length:=by
  rcases Qy c.length with e | e
  ·exact absurd (λt=>by rw [Uz]; exact Cc e t) (Qzt h2)
  ·exact e
 have:=Zf7 (Qgs hc lc) h2;omega
theorem Qtp:∀ (n m:Nat),m<=n->2<=m->∃ P,2<=P/\P∣m/\∀ d,2<=d->d∣P->d=P
 | 0,m,h,h2=>by omega
 |
  n+1,m,h,h2=>by
  rcases Classical.em (∃ d,2<=d/\d<m/\d∣m) with ⟨d,d1,d2,d3⟩ | h0
  ·obtain ⟨P,p1,p2,p3⟩:=Qtp n d (by omega) d1;exact ⟨P,p1,Nat.dvd_trans p2 d3,p3⟩
  ·refine ⟨m,h2,Nat.dvd_refl m,λd d1 d2=>?_⟩;rcases Vo (Kd (by omega) d2) with e | e
   ·exact absurd ⟨d,d1,e,d2⟩ h0
   ·exact e
theorem Qo2 {P:Nat} (h2:2<=P) (hP:∀ d,2<=d->d∣P->d=P) {x y:Int} (h:(P:Int)∣x*y):(P:Int)∣x\/(P:Int)∣y:=by
 have h:=Xz.2 h;rw [Jy,Xd] at h;have hg:=K0 P x.natAbs;rcases Q6 (Nat.gcd P x.natAbs) 2 with e | e
 ·right;have h1:Nat.gcd P x.natAbs=1:=by
   have:=Nat.gcd_pos_of_pos_left x.natAbs (show 0<P by omega); omega
  have:=Nat.Coprime.dvd_of_dvd_mul_left h1 h;exact Xz.1 (by rwa [Xd])
 ·left;have:=hP _ e hg;have h3:=Ub P x.natAbs;rw [this] at h3;exact Xz.1 (by rwa [Xd])
def Qut (P:Int) (l:List Int):Prop:=∀ k,P∣l.getD k 0
theorem Qez {P:Nat} (h2:2<=P) (hP:∀ d,2<=d->d∣P->d=P):∀ (n:Nat) (b h c:List Int),b.length+h.length<=n->(∀ t,Uy c t=Uy b t*Uy h t)->Qut P c->Qut P b\/Qut P h
 | _,[],h,c,_,_,_=>.inl λk=>by simp
 | _,x::b,[],c,_,_,_=>.inr λk=>by simp
 | 0,x::b,y::h,c,hn,_,_=>by simp at hn
 |
  n+1,x::b,y::h,c,hn,hc,hd=>by
  simp only [Q7] at hn;by_cases hx:(P:Int)∣x
  ·-- x h is taken away
   have e:∀ t,Uy (0::Fu b (y::h)) t=Uy (Po c (Fi (y::h) x)) t:=λt=>by
    rw [Nt,Rh,hc]; simp only [Uy]; rw [Fh]; simp only [Uy]; push_cast; grind
   have hd':Qut P (Fu b (y::h)):=λk=>by
    have:=Cq e (k+1);rw [Q3,As,Pm] at this;rw [this];exact Int.dvd_sub (hd (k+1)) (Vl hx (Vd _ _))
   rcases Qez h2 hP n b (y::h) _ (by simp only [Q7]; omega) (λt=>Fh _ _ t) hd' with h1 | h1
   ·refine .inl λk=>?_
    cases k with
    | zero=>rw [Zq]; exact hx
    | succ k=>rw [Q3]; exact h1 k
   ·exact .inr h1
  ·have h0:(P:Int)∣y:=by
    have e:c.getD 0 0=x*y:=by
     have:=Cq (p:=c) (q:=Fu (x::b) (y::h)) (λt=>by rw [hc,Fh]) 0;have e2:=Cq (p:=Fu (x::b) (y::h)) (q:=Bv (Fi (y::h) x) (0::Fu b (y::h))) (λt=>by
      rw [Cu,Rh,Fh]; simp only [Uy]; rw [Fh]; simp only [Uy]; push_cast; grind) 0
     rw [this,e2,Qm6,Pm,Zq,Zq,Wg]; omega
    have:=hd 0;rw [e] at this;rcases Qo2 h2 hP this with h1 | h1
    ·exact absurd h1 hx
    ·exact h1
   have e:∀ t,Uy (0::Fu (x::b) h) t=Uy (Po c (Fi (x::b) y)) t:=λt=>by
    rw [Nt,Rh,hc]; simp only [Uy]; rw [Fh]; simp only [Uy]; push_cast; grind
   have hd':Qut P (Fu (x::b) h):=λk=>by
    have:=Cq e (k+1);rw [Q3,As,Pm] at this;rw [this];exact Int.dvd_sub (hd (k+1)) (Vl h0 (Vd _ _))
   rcases Qez h2 hP n (x::b) h _ (by simp only [Q7]; omega) (λt=>Fh _ _ t) hd' with h1 | h1
   ·exact absurd (by have:=h1 0; rwa [Zq] at this) hx
   ·refine .inr λk=>?_
    cases k with
    | zero=>rw [Zq]; exact h0
    | succ k=>rw [Q3]; exact h1 k
def Prm (b:List Int):Prop:=∀ d:Int,Qut d b->d∣1
theorem Q7a {a b:List Int} (hb:Prm b):∀ (n:Nat) (c:Int) (h:List Int),c.natAbs<=n->c≠0->(∀ t,(c:Rat)*Uy a t=Uy b t*Uy h t)->∃ h',∀ t,Uy a t=Uy b t*Uy h' t
 | 0,c,h,hn,h0,_=>absurd (by omega) h0
 |
  n+1,c,h,hn,h0,hc=>by
  rcases Q6 c.natAbs 2 with h1 | h1
  ·refine ⟨Fi h c,λt=>?_⟩;have hcc:(c:Rat)*c=1:=by
    have:c*c=1:=by
     rcases (show c=1\/c=-1 by omega) with rfl | rfl <;> rfl
    have:=congrArg (λz:Int=>(z:Rat)) this
    push_cast at this; exact this
   rw [Rh];have:=hc t;have:Uy a t=(c:Rat)*((c:Rat)*Uy a t):=by
    have:(c:Rat)*((c:Rat)*Uy a t)=((c:Rat)*c)*Uy a t:=by grind
    rw [this,hcc]; grind
   rw [this,hc]; grind
  ·obtain ⟨P,p1,p2,p3⟩:=Qtp c.natAbs c.natAbs (Qi _) h1;obtain ⟨d,hd⟩:∃ d,c=(P:Int)*d:=Wz.2 p2;have hall:Qut P (Fi a c):=λk=>by
    rw [Pm,hd]; exact Vl (W8 _ _) (Vd _ _)
   have hP0:(P:Rat)≠0:=by
    have:((0:Nat):Rat)<(P:Rat):=Vu.2 (by omega);grind
   rcases Qez p1 p3 _ b h (Fi a c) (Qi _) (λt=>by rw [Rh,Um,hc]) hall with e | e
   ·have:=hb P e;have:=Xz.2 this;rw [Xd] at this;have:=Kd (by decide) this;exact absurd this (by show ¬P<=1; omega)
   ·refine Q7a hb n d (h.map (· / (P:Int))) ?_ (λe0=>h0 (by rw [hd,e0,Km])) λt=>?_
    ·rw [hd,Jy,Xd] at hn h1;have:2*d.natAbs<=P*d.natAbs:=Qz _ p1;omega
    ·have e1:Uy h t=(P:Rat)*Uy (h.map (· / (P:Int))) t:=by
      have:=Ns P 0 t (max h.length (h.map (· / (P:Int))).length) (h.map (· / (P:Int))) [] h (by omega) (by simp) (by omega) λk=>by
       have:=e k;have e2:(h.map (· / (P:Int))).getD k 0=h.getD k 0 / (P:Int):=by
        rw [Qf,Qf,Zb];cases h[k]? <;> simp
       rw [e2,Wh this]; simp
      rw [this]; simp only [Uy]; push_cast; grind
     have:=hc t;rw [hd,e1] at this
     push_cast at this
     have h3:(P:Rat)*((d:Rat)*Uy a t)=(P:Rat)*(Uy b t*Uy (h.map (· / (P:Int))) t):=by grind
     have h4:=Je.1 (show (P:Rat)*((d:Rat)*Uy a t-Uy b t*Uy (h.map (· / (P:Int))) t)=0 by grind);rcases h4 with h4 | h4
     ·exact absurd h4 hP0
     ·grind
theorem Qlz:∀ u:List Rat,∃ c:Int,c≠0/\∃ h:List Int,∀ t,(c:Rat)*ev u t=Uy h t
 | []=>⟨1,by decide,[],λt=>by simp only [ev,Uy]; grind⟩
 |
  a::u=>by
  obtain ⟨c,hc,h,hh⟩:=Qlz u;refine ⟨c*(a.den:Int),Jr hc (by have:=a.den_nz; omega),(c*a.num)::Fi h (a.den:Int),λt=>?_⟩;have e:(a.den:Rat)*a=a.num:=by
   rw [Um];have:(a.num:Rat) / (((a.den:Int)):Rat)=a:=by rw [Hh,Zz]
   have hd:(a.den:Rat)≠0:=by
    have:((0:Nat):Rat)<(a.den:Rat):=Vu.2 a.den_pos;grind
   have h2:(a.num:Rat) / (a.den:Rat)*(a.den:Rat)=a.num:=Zj hd;rw [show (a.num:Rat) / (a.den:Rat)=a from this] at h2; exact h2
  simp only [ev,Uy];rw [Rh,<-hh]
  push_cast
  rw [<-e];have e3:(((a.den:Int)):Rat)=(a.den:Rat):=rfl;grind
theorem Q69 {a b:List Int} (hb:Prm b) (h:Ob (cz b) (cz a)):∃ h',U3 h'/\∀ t,Uy a t=Uy b t*Uy h' t:=by
 obtain ⟨u,hu⟩:=h;obtain ⟨c,hc,h,hh⟩:=Qlz u;obtain ⟨h',e⟩:=Q7a hb c.natAbs c h (Qi _) hc λt=>by
  have:=hu t;rw [Uz,Uz] at this;rw [this,<-hh]; grind
 exact ⟨trim h',H6 _,λt=>by rw [An,e]⟩
def sd (x0:Rat):List Rat->List Rat
 | []=>[]
 | _::p=>Tr p (Ce x0 (sd x0 p))
theorem Q6z (x0 x:Rat):∀ p,ev (sd x0 p) x=dq p x x0
 | []=>rfl
 | a::p=>by simp only [sd,dq]; rw [Gj,Fy,Q6z x0 x p]
theorem Qxj (x0:Rat):∀ (g:List Rat) (n:Nat),(∀ j,n<j->g.getD j 0=0)->∀ j,n<=j->(sd x0 g).getD j 0=0
 | [],n,_,j,_=>by simp [sd]
 |
  a::p,0,h,j,_=>by
  have hp:∀ j,p.getD j 0=0:=λj=>by have:=h (j+1) (by omega); rwa [Q3] at this
  simp only [sd];rw [Hz,To,hp,Qxj x0 p 0 (λj _=>hp j) j (Qg _)]; grind
 |
  a::p,n+1,h,j,hj=>by
  have hp:∀ j,n<j->p.getD j 0=0:=λj hj=>by have:=h (j+1) (by omega); rwa [Q3] at this
  simp only [sd];rw [Hz,To,hp j (by omega),Qxj x0 p n hp j (by omega)]; grind
theorem Qwd {K:Rat} (hK:0≤K):∀ (e:Nat) (g:List Rat) (pts:List Int) (M:Rat),pts.length=e+1->pts.Nodup->(∀ x∈pts,U7 (x:Rat)≤K)->(∀ k,e<k->g.getD k 0=0)->(∀ x∈pts,U7 (ev g (x:Rat))≤M)->∀ k,U7 (g.getD k 0)≤(2*K+3)^e*M
 | _,_,[],_,h,_,_,_,_=>by simp at h
 |
  0,g,x0::xs,M,_,_,_,hg,hM=>λk=>by
  have h0:=hM x0 (by simp);rw [Xi];cases k with
  |
   zero =>
   have e:ev g (x0:Rat)=g.getD 0 0:=by
    cases g with
    | nil=>rfl
    |
     cons a p =>
     have hp:=Cm (p:=p) λj=>by have:=hg (j+1) (by omega); rwa [Q3] at this
     simp only [ev,hp,Zq]; grind
   rw [<-e]; grind
  |
   succ k =>
   rw [hg (k+1) (by omega),Hx];have:=Hd (ev g (x0:Rat)); grind
 |
  e+1,g,x0::xs,M,hl,hn,hb,hg,hM=>λk=>by
  have hx0:=hb x0 (by simp);have hM0:=hM x0 (by simp);have hMn:0<=M:=Q9 (Hd _) hM0;rw [List.nodup_cons] at hn;have ih:=Qwd hK e (sd x0 g) xs (2*M) (by simpa using hl) hn.2 (λx hx=>hb x (by simp [hx])) (λj hj=>Qxj _ g (e+1) hg j (by omega)) λx hx=>by
   have h1:=hM x (by simp [hx]);have h2:=Ql8 (x:Rat) (x0:Rat) g;rw [<-Q6z] at h2;have hne:x-x0≠0:=λh=>hn.1 (by rw [show x0=x by omega]; exact hx)
   have h3:=Iu hne;rw [Rat.intCast_sub] at h3;have h4:U7 (ev g (x:Rat)-ev g (x0:Rat))<=2*M:=by
    have:=Tq (ev g (x:Rat)) (-ev g (x0:Rat));rw [Dn,show ev g (x:Rat)+-ev g (x0:Rat)=ev g (x:Rat)-ev g (x0:Rat) by grind] at this;clear hM hb hg; grind
   rw [h2,Dm] at h4;have h5:=Q4 h3 (Hd (ev (sd x0 g) x));clear hM hb hg; grind
  have e1:∀ t,ev g t=ev (Tr [ev g x0] (Tr (Ce (-x0) (sd x0 g)) (0::sd x0 g))) t:=λt=>by
   have:=Ql8 t (x0:Rat) g;rw [<-Q6z] at this;simp only [Gj,Fy,ev];grind
  have hp1:1<=(2*K+3)^e:=(Qbe (R:=2*K+3) (x:=0) (by grind) (by rw [Hx]; grind) e).2;have hpM:=P9 (x:=(2*K+3)^e) (y:=M) (by grind) hMn;have hpM1:=Q4 hp1 hMn;rw [Xc,B9 e1 k,Hz,Hz,To];have a1:=ih k;have a2:U7 (-(x0:Rat)*(sd (x0:Rat) g).getD k 0)<=K*((2*K+3)^e*(2*M)):=Gu (by rw [Dn]; exact hx0) a1;have fin:∀ u v w:Rat,U7 u<=M->U7 v<=K*((2*K+3)^e*(2*M))->U7 w<=(2*K+3)^e*(2*M)->U7 (u+(v+w))<=(2*K+3)^e*(2*K+3)*M:=λu v w h1 h2 h3=>by
   have b1:=Tq u (v+w);have b2:=Tq v w;clear ih e1 hM hb hg a1 a2; grind
  refine fin _ _ _ ?_ a2 ?_
  ·cases k with
   | zero=>rw [Zq]; exact hM0
   | succ k=>rw [Q3,Kx,Hx]; exact hMn
  ·cases k with
   | zero=>rw [Zq,Hx]; clear ih e1 hM hb hg a1 a2 fin; grind
   | succ k=>rw [Q3]; exact ih k
theorem Q9k {g:List Rat} {e:Nat} (hg:∀ k,e<k->g.getD k 0=0) (hz:¬∀ t,ev g t=0) {pts:List Int} (hn:pts.Nodup) (hr:∀ x∈pts,ev g (x:Rat)=0):pts.length≤e:=by
 rcases Q6 e pts.length with h | h
 ·exfalso;obtain ⟨K,hK,hb⟩:∃ K:Rat,0≤K/\∀ x∈pts,U7 (x:Rat)≤K:=by
   clear hn hr h
   induction pts with
   | nil=>exact ⟨0,by decide,λx hx=>by cases hx⟩
   |
    cons y pts ih =>
    obtain ⟨K,h1,h2⟩:=ih;refine ⟨K+U7 (y:Rat),by have:=Hd (y:Rat); grind,λx hx=>?_⟩;have hy:=Hd (y:Rat);rcases Qq.1 hx with rfl | hx
    ·grind
    ·have:=h2 x hx; grind
  refine hz (Cm λk=>?_);have:=Qwd hK e g (pts.take (e+1)) 0 (by rw [Qr]; omega) (hn.sublist (Ua ..)) (λx hx=>hb x (Ql hx)) hg (λx hx=>by rw [hr x (Ql hx),Hx]; exact Qo) k;have h2:=Hd (g.getD k 0);exact Zed (by grind)
 ·exact h
def spots:List Int:=(List.range 19).map λi:Nat=>(i:Int)-9
theorem spots_nd:spots.Nodup:=by decide
theorem Qt3:∀ x∈spots,x.natAbs≤9:=by decide
theorem Qjl {α:Type} (p:α->Bool):∀ l:List α,(l.filter p).length+(l.filter λx => !p x).length=l.length
 | []=>rfl
 |
  x::l=>by
  have:=Qjl p l;cases h:p x <;> simp [h] <;> omega
def geo:Nat->Nat
 | 0=>0
 | n+1=>1+9*geo n
theorem Qzm {B:Rat}:∀ (p:List Int),(∀ z∈p,U7 (z:Rat)≤B)->evB 9 (cz p)≤B*(geo p.length:Nat)
 | [],_=>by simp only [cz,Jl,evB,geo,Yx]; rw [show ((0:Nat):Rat)=0 from rfl]; grind
 |
  a::p,h=>by
  have h1:=Qzm p λz hz=>h z (Qk _ hz)
  have h2:=h a (Qx ..);simp only [cz,Z8,evB,geo,Q7] at *
  push_cast
  clear h; grind
theorem Q7i {m n:Nat} (h:m<=n):geo m<=geo n:=by
 induction h with
 | refl=>exact Qi _
 | step h ih=>simp only [geo]; omega
def pz:List Int->Int->Int
 | [],_=>0
 | a::p,x=>a+x*pz p x
theorem Qcn (x:Int):∀ p,Uy p (x:Rat)=((pz p x:Int):Rat)
 | []=>rfl
 | a::p=>by simp only [Uy,pz,Qcn x p]; push_cast; rfl
theorem Tt (z:Int):U7 (z:Rat)=((z.natAbs:Nat):Rat):=by
 unfold U7;rcases We z 0 with h | h
 ·have h1:(z:Rat)<((0:Int):Rat):=Jq.2 h;rw [if_pos (by simpa using h1)];have:(z.natAbs:Int)=-z:=by omega
  have:=congrArg (λu:Int=>(u:Rat)) this
  push_cast at this
  exact this.symm
 ·have h1:((0:Int):Rat)<=(z:Rat):=Jg.2 h;have h1:(0:Rat)<=(z:Rat):=by simpa using h1
  rw [if_neg (by grind)];have:(z.natAbs:Int)=z:=by omega
  have:=congrArg (λu:Int=>(u:Rat)) this;exact this.symm
theorem Ou {p g h:List Int} {s:Nat} (hp:Bd s p) (hl:p.length<=10) (tp:U3 p) (tg:U3 g) (th:U3 h) (h0:p.length≠0) (e:∀ t,Uy p t=Uy g t*Uy h t):Bd (s+69) g:=by
 have lg:0<g.length:=by
  rcases Qy g.length with e' | e'
  ·exact absurd (λt=>by rw [e,Cc e']; grind) (Qgj tp (by omega))
  ·exact e'
 have lh:0<h.length:=by
  rcases Qy h.length with e' | e'
  ·exact absurd (λt=>by rw [e,Cc e']; grind) (Qgj tp (by omega))
  ·exact e'
 have hlen:=Pz tg th tp e lg lh;obtain ⟨q,hq⟩:=nmE (spots.filter λx => !decide (pz p x=0));have hr:(spots.filter λx=>decide (pz p x=0)).length<=9:=by
  refine Q9k (g:=cz p) (e:=9) (λk hk=>?_) (λh=>Qgj tp (by omega) λt=>by rw [<-Uz]; exact h t) (spots_nd.sublist List.filter_sublist) λx hx=>?_
  ·rw [Py,Qf,Qu (by omega)]; rfl
  ·have:=(Wi.1 hx).2;rw [Uz,Qcn,of_decide_eq_true this]; rfl
 have hc:=Qjl (λx=>decide (pz p x=0)) spots;rw [<-hq] at hc;have hsl:spots.length=19:=by decide
 have hB:∀ z∈p,U7 (z:Rat)≤((2^s:Nat):Rat):=λz hz=>by
  rw [Tt];have:=hp z hz;rw [Te] at this;exact Za.2 (Jw this)
 have key:=Qwd (K:=9) (by decide) 9 (cz g) (q.take 10) (((2^s*435848050:Nat)):Rat) (by rw [Qr]; omega) ((spots_nd.sublist (by rw [hq]; exact List.filter_sublist)).sublist (Ua ..)) (λx hx=>by
  have hx:=Ql hx;rw [hq] at hx;have:=Qt3 x (Wi.1 hx).1;rw [Tt]
  exact_mod_cast Za.2 this) (λk hk=>by rw [Py,Qf,Qu (by omega)]; rfl) (λx hx=>by
  have hx:=Ql hx;rw [hq] at hx;obtain ⟨hx1,hx2⟩:=Wi.1 hx;have hne:pz p x≠0:=by simpa using hx2
  have e1:=e (x:Rat);rw [Qcn,Qcn,Qcn] at e1;have e2:pz p x=pz g x*pz h x:=by exact_mod_cast e1
  have hh:1<=(pz h x).natAbs:=by
   rcases Qy (pz h x).natAbs with e' | e'
   ·exact absurd (by rw [e2,Int.natAbs_eq_zero.1 e',Km]) hne
   ·exact e'
  have h3:(pz g x).natAbs<=(pz p x).natAbs:=by
   rw [e2,Jy];exact J3 _ hh
  rw [Uz,Qcn,Tt];refine Q9 (Za.2 h3) ?_;rw [<-Tt,<-Qcn,<-Uz];refine Q9 (Qgm (R:=9) (by
   have:=Qt3 x hx1;rw [Tt]
   exact_mod_cast Za.2 this) _) ?_
  refine Q9 (Qzm p hB) ?_;have:2^s*geo p.length<=2^s*435848050:=Zm _ (Qd (Q7i hl) (by decide));have:=Za.2 this
  push_cast at this ⊢
  exact this)
 refine Qin λk=>?_
 have h1:=key k;rw [Py,Tt] at h1;have e3:(2*(9:Rat)+3)^9*((2^s*435848050:Nat):Rat)=(((794280046581*(2^s*435848050)):Nat):Rat):=by
  rw [show (2*(9:Rat)+3)^9=794280046581 by grind]
  push_cast; rfl
 rw [e3] at h1;have h2:=Za.1 h1;rw [Te];refine Xa h2 ?_;have:794280046581*(2^s*435848050)=2^s*(794280046581*435848050):=by
  rw [Kt]
 rw [this,Xl];exact Nat.mul_lt_mul_of_pos_left (by decide) (Z9 (by decide))
theorem Qsb {l:List Int} {d:Int} (h:∀ z∈l,d∣z):d∣((G9 l:Nat):Int):=by
 have key:∀ (l:List Int) (g:Nat),d.natAbs∣g->(∀ z∈l,d∣z)->d.natAbs∣l.foldl (λg z=>Nat.gcd g z.natAbs) g:=by
  intro l
  induction l with
  | nil=>exact λg h _=>h
  | cons z l ih=>exact λg hg h=>ih _ (Nat.dvd_gcd hg (Xz.2 (h z (Qx ..)))) λu hu=>h u (Qk _ hu)
 have:=key l 0 (Nat.dvd_zero _) h;exact Xz.1 (by rw [Xd]; exact this)
theorem Qdl (p:List Int) (c:Int) (k:Nat):(p.map (· / c)).getD k 0=p.getD k 0 / c:=by
 rw [Qf,Qf,Zb];cases p[k]? <;> simp
theorem Qco (p:List Int) (c:Int) (k:Nat):(Da p c).getD k 0=p.getD k 0 / c:=by
 unfold Da; rw [D4,Qdl]
theorem Qm8 {p:List Int} {c:Int} (h:∀ z∈p,c∣z) (t:Rat):Uy p t=(c:Rat)*Uy (Da p c) t:=by
 have:=Ns c 0 t (max p.length (Da p c).length) (Da p c) [] p (by omega) (by simp) (by omega) λk=>by
  rw [Qco];have hd:c∣p.getD k 0:=by
   rw [Qf];cases e:p[k]? with
   | none=>exact Int.dvd_zero _
   | some z=>exact h z (Qa e)
  rw [Wh hd]; simp
 rw [this]; simp only [Uy]; push_cast; grind
theorem O1 {c:Int} (h:c≠0):(c:Rat)≠0:=λe=>h (by exact_mod_cast e)
theorem Iq {p q:List Int} {c:Rat} (tp:U3 p) (tq:U3 q) (hc:c≠0) (h:∀ t,Uy p t=c*Uy q t):p.length=q.length:=by
 have key:∀ {p q:List Int} {c:Rat},U3 p->U3 q->c≠0->(∀ t,Uy p t=c*Uy q t)->p.length<=q.length:=λ{p q c} tp tq hc h=>by
  rcases Q6 q.length p.length with e | e
  ·have h1:=Hk tp (by omega);have:=B9 (p:=cz p) (q:=Ce c (cz q)) (λt=>by rw [Uz,Fy,Uz,h]) (p.length-1);rw [Py,To,Py,Qf (l:=q),Qu (by omega)] at this;have:((p.getD (p.length-1) 0:Int):Rat)=0:=by rw [this]; simp
   exact absurd (by exact_mod_cast this) h1
  ·exact e
 refine Kj (key tp tq hc h) (key (c:=1 / c) tq tp (λe=>?_) λt=>?_)
 ·have:=Zj (a:=1) hc; rw [e] at this; grind
 ·rw [h]; have:=Zj (a:=1) hc; grind
theorem Cw {p:List Int} (tp:U3 p) (h:p.length≠0):U3 (Fg p)/\(Fg p).length=p.length/\Prm (Fg p)/\0<Ff (Fg p)/\(∀ s,Bd s p->Bd s (Fg p))/\Hb p≠0/\∀ t,Uy p t=(Hb p:Rat)*Uy (Fg p) t:=by
 have h0:=Q0q tp h;have e:Fg p=Da p (Hb p):=by unfold Fg; rw [if_neg h]
 have h1:=Qm8 (p:=p) (c:=Hb p) Qd2;have hl:=Iq tp (Iy p (Hb p)) (O1 h0) h1;have hcp:0<Mi p:=by
  have:=Qac tp h;unfold Mi at this ⊢; omega
 rw [e];refine ⟨Iy _ _,hl.symm,λd hd=>?_,?_,λs hs=>Qio hs _,h0,h1⟩
 ·have h2:∀ z∈p,d*Hb p∣z:=λz hz=>by
   obtain ⟨i,hi⟩:=Zg.1 hz;have h3:=hd i;rw [Qco,Qf,hi] at h3;obtain ⟨k,hk⟩:=h3;have h4:=Qd2 z hz;refine ⟨k,?_⟩;have:z / Hb p*Hb p=z:=Wo h4;rw [<-this];rw [show z / Hb p=d*k from hk,Int.mul_right_comm]
  have h3:=Qsb h2;have h4:Hb p∣((G9 p:Nat):Int)/\((G9 p:Nat):Int)∣Hb p:=by
   unfold Hb Mi; split
   ·exact ⟨Us.2 (Wb _),Int.dvd_neg.2 (Wb _)⟩
   ·exact ⟨Wb _,Wb _⟩
  obtain ⟨k,hk⟩:=Vl h3 h4.2;refine ⟨k,?_⟩;have:Hb p*(d*k)=Hb p*1:=by rw [Ww,<-Int.mul_assoc,Wg (Hb p) d,<-hk]
  exact (Int.eq_of_mul_eq_mul_left h0 this).symm
 ·have h2:Ff (Da p (Hb p))=Ff p / Hb p:=by unfold Ff; rw [<-hl,Qco]
  have h3:Hb p∣Ff p:=Qd2 _ (Qsw h);have h5:Ff p / Hb p*Hb p=Ff p:=Wo h3;rw [h2];have h6:=Ea tp h;rcases J4 (Ff p / Hb p) 0 with e1 | e1 | e1
  ·exfalso;by_cases hn:Ff p<0
   ·have:Hb p=-Mi p:=by unfold Hb; rw [if_pos hn]
    have:0<Ff p / Hb p*Hb p:=Kh e1 (by omega);omega
   ·have:Hb p=Mi p:=by unfold Hb; rw [if_neg hn]
    have:Ff p / Hb p*Hb p<0:=Int.mul_neg_of_neg_of_pos e1 (by omega);omega
  ·rw [e1] at h5; omega
  ·exact e1
theorem Q8t {r:List Int} (tr:U3 r):∃ c:Rat,0<c/\∀ t,Uy r t=c*Uy (Qbz r) t:=by
 unfold Qbz;by_cases h:r.length=0
 ·rw [if_pos h]; exact ⟨1,by decide,λt=>by rw [Cc h,Cc rfl]; grind⟩
 ·rw [if_neg h];have h1:0<Mi r:=by
   have:=Qac tr h;unfold Mi at this ⊢; omega
  have h2:((0:Int):Rat)<(Mi r:Rat):=Jq.2 h1;exact ⟨Mi r,by simpa using h2,Qm8 Ak⟩
theorem Qad (x:Int) (t:Rat):∀ i,Uy (mono i x) t=(x:Rat)*t^i
 | 0=>by simp only [mono,Wq,Yz,Uy,Xi]; grind
 |
  i+1=>by
  have ih:=Qad x t i;simp only [mono,J7,Xf,Uy] at *;rw [ih,Xc]; push_cast; grind
theorem Q0b (x:Int) (b:List Int) (i k:Nat):(Fu (trim (mono i x)) b).getD k 0=if i<=k then x*b.getD (k-i) 0 else 0:=by
 have e:∀ t,Uy (Fu (trim (mono i x)) b) t=Uy (List.replicate i 0++b.map (x * ·)) t:=λt=>by
  rw [Fh,An,Qad];have h2:∀ i,Uy (List.replicate i 0++b.map (x * ·)) t=t^i*((x:Rat)*Uy b t):=λi=>by
   induction i with
   |
    zero =>
    simp only [Wq,Yz,Xi];have:=Ns x 0 t (max b.length (b.map (x * ·)).length) b [] (b.map (x * ·)) (by omega) (by simp) (by omega) λk=>by
     rw [Qf,Qf,Zb];cases b[k]? <;> simp
    rw [this]; simp only [Uy]; push_cast; grind
   | succ i ih=>simp only [J7,Xf,Uy,ih,Xc]; push_cast; grind
  rw [h2]; grind
 rw [Cq e k,Qf,List.getElem?_append,Ja];by_cases h:i<=k
 ·rw [if_neg (by omega),if_pos h,Zb,Qf];cases b[k-i]? <;> simp
 ·rw [if_pos (by omega),if_neg h,J1,if_pos (by omega)]; rfl
theorem Q7v {p:List Int} {n:Nat} (tp:U3 p) (h:p.length<=n+1) (h0:p.getD n 0=0):p.length<=n:=by
 rcases Q6 n p.length with e | e
 ·have:=Hk tp (by omega);rw [show p.length-1=n by omega] at this;exact absurd h0 this
 ·exact e
theorem Ze3 {b r:List Int} {i:Nat} (tr:U3 r) (h:r.length<=b.length+i) (hb:b.length≠0) {x:Int} (hx:x=if r.length=b.length+i then Ff r else 0):(str b (Ff b) i x r).length<b.length+i:=by
 have hl:=Qpg (c:=Ff b) (x:=x) (i:=i) (b:=b) (r:=r);have:=Q7v (p:=str b (Ff b) i x r) (n:=b.length+i-1) (Fl _ _) (by omega) (by
  unfold str;rw [As,Pm,Q0b,if_pos (by omega),hx,show b.length+i-1-i=b.length-1 by omega]
  split
  ·rename_i he;unfold Ff;rw [he,Int.sub_eq_zero]
  ·rw [Qf (l:=r),Qu (by omega)]; simp)
 omega
theorem Zjd (b r:List Int) (c:Int) (i:Nat) (x:Int) (t:Rat):(c:Rat)*Uy r t=(x:Rat)*t^i*Uy b t+Uy (str b c i x r) t:=by
 unfold str;rw [Nt,Rh,Fh,An,Qad]; grind
theorem Q8z (b:List Int) (c:Int):∀ (i:Nat) (q r:List Int),∃ X:List Rat,∀ t,((c^i:Int):Rat)*Uy r t=ev X t*Uy b t+Uy (psd b c i (q,r)).2 t
 | 0,q,r=>⟨[],λt=>by simp only [psd,ev]; rw [Int.pow_zero]; push_cast; grind⟩
 |
  i+1,q,r=>by
  obtain ⟨x,hx⟩:=nmE (if r.length=b.length+i then Ff r else 0);obtain ⟨X,hX⟩:=Q8z b c i (stq c i x q) (str b c i x r);obtain ⟨m,hm⟩:∃ m:List Rat,∀ t,ev m t=(x:Rat)*t^i:=⟨cz (mono i x),λt=>by rw [Uz,Qad]⟩;refine ⟨Tr (Ce ((c^i:Int):Rat) m) X,λt=>?_⟩;rw [Qag hx,Gj,Fy,hm];have h1:=hX t;have h2:=Zjd b r c i x t;rw [Int.pow_succ]
  push_cast at h1 ⊢
  have:(c:Rat)^i*c*Uy r t=(c:Rat)^i*((c:Rat)*Uy r t):=by grind
  rw [this,h2]; grind
theorem Q0u {b:List Int} (hb:b.length≠0):∀ (i:Nat) (q r:List Int),U3 r->r.length<b.length+i->U3 (psd b (Ff b) i (q,r)).2/\(psd b (Ff b) i (q,r)).2.length<b.length
 | 0,q,r,tr,h=>⟨tr,h⟩
 |
  i+1,q,r,tr,h=>by
  rw [Qag rfl];exact Q0u hb i _ _ (Fl _ _) (Ze3 tr (by omega) hb rfl)
theorem Q8y {b:List Int} {c:Int} {t:Nat} (hb:Bd t b) (hc:U9 c<=t):∀ (i u:Nat) (q r:List Int),i<=64->Bd u r->Bd (u+i*(t+8)) (psd b c i (q,r)).2
 | 0,u,q,r,_,h=>by simpa [psd] using h
 |
  i+1,u,q,r,hi,h=>by
  rw [Qag rfl];have hx:U9 (if r.length=b.length+i then Ff r else 0)<=u:=by
   split
   ·exact Me h
   ·rw [Mf]; exact Qg _
  have:=Q8y hb hc i (u+t+8) (stq c i (if r.length=b.length+i then Ff r else 0) q) (str b c i (if r.length=b.length+i then Ff r else 0) r) (by omega) (Qu0 h hb hc hx (by omega));exact Uv this (by rw [Xh]; omega)
theorem Qkr {c:Int} (h:c<0):∀ k:Nat,(k % 2=1->c^k<0)/\(k % 2=0->0<c^k)
 | 0=>⟨λh=>by omega,λ_=>by rw [Int.pow_zero]; decide⟩
 |
  k+1=>by
  obtain ⟨i1,i2⟩:=Qkr h k;rw [Int.pow_succ];exact ⟨λhk=>Kg (i2 (by omega)) h,λhk=>Kh (i1 (by omega)) h⟩
theorem Qib {a b:List Int} (ta:U3 a) (tb:U3 b) (hb:b.length≠0) (hl:a.length<=60):U3 (Ra a b)/\(Ra a b).length<b.length/\(∀ s,Bd s a->Bd s b->Bd (s+(a.length+1-b.length)*(s+8)) (Ra a b)) /\
 ∃ u v:Rat,0<u/\0<v/\∃ X:List Rat,∀ t,u*Uy a t=ev X t*Uy b t+v*Uy (Ra a b) t:=by
 obtain ⟨k,hk⟩:=nmE (a.length+1-b.length);have h1:U3 (Pd a b)/\(Pd a b).length<b.length:=Q0u hb _ _ _ ta (by omega);obtain ⟨X,hX⟩:=Q8z b (Ff b) k [] a;have hX:∀ t,(((Ff b)^k:Int):Rat)*Uy a t=ev X t*Uy b t+Uy (Pd a b) t:=by unfold Pd; rw [<-hk]; exact hX
 have h2:=Qd7 (a:=a) (b:=b) (r:=Pd a b) (n:=(Pd a b).length) (s:=(Pd a b).foldl (λm z=>m+U9 z) 0) h1.1 (Qi _) (λz hz=>by
  have key:∀ (l:List Int) (m:Nat),m≤l.foldl (λm z=>m+U9 z) m/\∀ z∈l,U9 z≤l.foldl (λm z=>m+U9 z) m:=by
   intro l
   induction l with
   | nil=>exact λm=>⟨Qi _,λz hz=>by cases hz⟩
   |
    cons y l ih =>
    intro m;obtain ⟨i1,i2⟩:=ih (m+U9 y);refine ⟨by simp only [Xg]; omega,λz hz=>?_⟩;simp only [Xg];rcases Qq.1 hz with rfl | hz
    ·omega
    ·exact i2 z hz
  exact (key _ 0).2 z hz)
 have h3:=Qkp (r:=M8 a b (Pd a b)) (n:=(Pd a b).length) h2.2.1 h2.2.2;refine ⟨h3.1,by unfold Ra; omega,λs ha hbs=>?_,?_⟩
 ·have h4:=Q8y (c:=Ff b) hbs (Me hbs) k s [] a (by omega) ha;have h5:=Qd7 (a:=a) (b:=b) (n:=(Pd a b).length) h1.1 (Nat.le_refl _) (show Bd (s+k*(s+8)) (Pd a b) by unfold Pd; rw [<-hk]; exact h4);rw [<-hk];exact (Qkp h5.2.1 h5.2.2).2.2
 ·obtain ⟨v,vp,hv⟩:=Q8t h2.1;have hc:=Ea tb hb;by_cases ht:k % 2=1/\Ff b<0
  ·have e1:M8 a b (Pd a b)=S5 (Pd a b):=by unfold M8; rw [<-hk,if_pos ht]
   have hneg:(Ff b)^k<0:=(Qkr ht.2 k).1 ht.1;have h5:(((Ff b)^k:Int):Rat)<((0:Int):Rat):=Jq.2 hneg;have h5:(((Ff b)^k:Int):Rat)<0:=by simpa using h5
   refine ⟨-(((Ff b)^k:Int):Rat),v,by grind,vp,Ce (-1) X,λt=>?_⟩;have h6:=hX t;have h7:=hv t;rw [e1,Qae] at h7;show _=_+v*Uy (Qbz (M8 a b (Pd a b))) t;rw [e1,<-h7,Fy]; grind
  ·have e1:M8 a b (Pd a b)=Pd a b:=by unfold M8; rw [<-hk,if_neg ht]
   have hpos:0<(Ff b)^k:=by
    rcases Kl hc with h | h
    ·exact (Qkr h k).2 (by omega)
    ·exact Int.pow_pos h
   have h5:((0:Int):Rat)<(((Ff b)^k:Int):Rat):=Jq.2 hpos;refine ⟨(((Ff b)^k:Int):Rat),v,by simpa using h5,vp,X,λt=>?_⟩;have h7:=hv t;show _=_+v*Uy (Qbz (M8 a b (Pd a b))) t;rw [<-h7,e1,hX]
end Orq
