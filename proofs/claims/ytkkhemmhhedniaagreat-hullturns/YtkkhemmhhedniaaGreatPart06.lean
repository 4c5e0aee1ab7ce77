/- F5 T1 T2 T3 T4 T5 T6 T7 T8 T9 T10 T11 T12 T13 T14 T15 T16 T17 -/
import Derived.Test.YtkkhemmhhedniaaGreatPart05
import Derived.Test.YtkkhemmhhedniaaGreatPart00
set_option linter.all false
namespace Orr
open Go Go.Proofs
set_option maxRecDepth 10000
theorem Zek {a b:Rat} (ha:Qb a) (hb:Qb b):Uu Tryz.prog 98 [.agg (rl a),.one (.row [rl b])] [.agg (rl (if 0<G7 b a then b else a))]:=by
 have ca:=Qin (Uv a.num) (Uv (a.den:Int)) ha.s32.1 ha.s32.2;have cb:=Qin (Uv b.num) (Uv (b.den:Int)) hb.s32.1 hb.s32.2;rw [Ol] at ca cb;have cc:=Lo hb.s31 ha.s31;refine Gs Tryz.func98 rfl ?_;refine go tt [.c [] ca] rfl trivial ?_;refine lp (S:=Nat) 3 (λL1 i=>(12,.v (.one (.int .i64 (i:Int))))::L1) (λi=>[.blk 72 (rl a),.blk 72 [.bool false,.nils,.bool false,.nils],.blk 72 (rl (if i=0 then a else if 0<G7 b a then b else a))]) (λi=>1-i) (λi=>i<=1) 0 (Qh _) rfl (λ_ _=>rfl) rfl λi hi=>?_
 rcases (show i=0\/i=1 by omega) with rfl | rfl
 ·by_cases h:0<G7 b a
  ·refine go tt [.t rfl,.x (i:=0) (xs:=rl b) rfl,.c [] cc,.t (by simpa using h),.c [] cb] rfl (by simp [Us]) ?_;exact rd 1 (by omega) (by omega) (by rw [if_pos h]; rfl)
  ·refine go tt [.t rfl,.x (i:=0) (xs:=rl b) rfl,.c [] cc,.f (by simpa using h)] rfl (by simp [Us]) ?_;exact rd 1 (by omega) (by omega) (by rw [if_neg h]; rfl)
 ·exact en tt [.f rfl] rfl rfl trivial
theorem Qjs {a b:Tm} {c:Int} (ha:Tb a) (hb:Tb b) (h:Qfy a b=some c):Uu Tryz.prog 92 [.agg (ta a),.agg (ta b)] [.one (.int .i64 c)]:=by
 have ca:=Qio ha;have cb:=Qio hb;have pa:=C4 ha;have pb:=C4 hb;unfold Qfy at h;by_cases h1:a.point=true
 ·rw [if_pos h1] at h;injection h with h; subst h;have:=Zeu b a.lo;exact w tt Tryz.func92 rfl [.c [] ca,.c [] cb,.c [] pa,.t h1,.c [] (Qft hb ha.lo)] rfl rfl (by simp [Us]; omega)
 rw [if_neg h1] at h;have h1:a.point=false:=by simpa using h1
 by_cases h2:b.point=true
 ·rw [if_pos h2] at h;injection h with h; subst h;exact w tt Tryz.func92 rfl [.c [] ca,.c [] cb,.c [] pa,.f h1,.c [] pb,.t h2,.c [] (Qft ha hb.lo)] rfl rfl trivial
 rw [if_neg h2] at h;have h2:b.point=false:=by simpa using h2
 obtain ⟨lo,hlo⟩:=nmE (if 0<G7 b.lo a.lo then b.lo else a.lo);obtain ⟨hi,hhi⟩:=nmE (if G7 b.hi a.hi<0 then b.hi else a.hi);have h:(if G7 lo hi<0 then (Qre a.p b.p).bind λg=>if 1<g.length/\Qeb g lo hi=true then some 0 else (apF (Ph a b) a b).bind λr=>some r.2.2 else (apF (Ph a b) a b).bind λr=>some r.2.2)=some c:=by rw [hlo,hhi]; exact h
 have qlo:Qb lo:=by rw [hlo]; split; exact hb.lo; exact ha.lo
 have qhi:Qb hi:=by rw [hhi]; split; exact hb.hi; exact ha.hi
 have cm:=Zek ha.lo hb.lo;rw [<-hlo] at cm;have cc1:=Lo hb.hi.s31 ha.hi.s31;have cc2:=Lo qlo.s31 qhi.s31;refine Gs Tryz.func92 rfl ?_;refine go tt [.c [] ca,.c [] cb,.c [] pa,.f h1,.c [] pb,.f h2,.c [] cm] rfl trivial ?_;refine ct 2 (S:=Unit) (λ_=>[(6,.v (.one (.ow 3 0))),(5,.v (.one (.ow 2 0))),(4,.v (.one (.int .i64 0))),(3,.v (.one (.ow 1 0))),(2,.v (.one (.ow 0 0)))]) (λ_=>[.blk 74 (ta a),.blk 74 (ta b),.blk 72 (rl lo),.blk 72 (rl hi)]) (λ_=>True) rfl ?_ ?_
 ·by_cases D:G7 b.hi a.hi<0
  ·rw [if_pos D] at hhi; subst hhi;exact go tt [.c [] cc1,.t (by simpa using D)] rfl trivial (rc () trivial rfl)
  ·rw [if_neg D] at hhi; subst hhi;exact go tt [.c [] cc1,.f (by simpa using D)] rfl trivial (rc () trivial rfl)
 ·rintro _ _
  by_cases D:G7 lo hi<0
  ·rw [if_pos D] at h;obtain ⟨g,g1,h⟩:=Qf.1 h;have cg:=Q60 ha.p hb.p g1;have pg:=Zam ha.p hb.p g1;have ch:=Q7m pg qlo qhi;by_cases G:1<g.length
   ·by_cases R:Qeb g lo hi=true
    ·rw [if_pos ⟨G,R⟩] at h;injection h with h; subst h;exact en tt [.c [] cc2,.t (by simpa using D),.c [] cg,.c [] (Na g),.g 58 true (by simp; omega),.c [] ch,.t R] rfl rfl trivial
    ·rw [if_neg λh=>R h.2] at h;obtain ⟨r,r1,h⟩:=Qf.1 h;injection h with h; subst h;exact en tt [.c [] cc2,.t (by simpa using D),.c [] cg,.c [] (Na g),.g 58 true (by simp; omega),.c [] ch,.f (by simpa using R),.c [] (Qpw ha hb r1)] rfl rfl trivial
   ·rw [if_neg λh=>G h.1] at h;obtain ⟨r,r1,h⟩:=Qf.1 h;injection h with h; subst h;exact en tt [.c [] cc2,.t (by simpa using D),.c [] cg,.c [] (Na g),.g 58 false (by simp; omega),.f rfl,.c [] (Qpw ha hb r1)] rfl rfl trivial
  ·rw [if_neg D] at h;obtain ⟨r,r1,h⟩:=Qf.1 h;injection h with h; subst h;exact en tt [.c [] cc2,.f (by simpa using D),.c [] (Qpw ha hb r1)] rfl rfl trivial
theorem Zdq {p:List Int} {a:Tm} {s:Int} (hp:Pb p) (ha:Tb a) (h:Qpa p a=some s):Uu Tryz.prog 228 [pr p,.agg (ta a)] [.one (.int .i64 s)]:=by
 have ca:=Qio ha;have pa:=C4 ha;have cn:=Ho hp.t hp.ln hp.bd;unfold Qpa at h;by_cases h0:p.length=0
 ·rw [if_pos h0] at h;injection h with h; subst h;exact w tt Tryz.func228 rfl [.c [] cn,.c [] ca,.t (by simp; exact Qi h0)] rfl rfl trivial
 rw [if_neg h0] at h;have h0:p≠[]:=λe=>h0 (by rw [e]; rfl)
 by_cases h1:a.point=true
 ·rw [if_pos h1] at h;injection h with h; subst h;exact w tt Tryz.func228 rfl [.c [] cn,.c [] ca,.f (by simpa using h0),.c [] pa,.t h1,.c [] (Qh8 hp ha.lo)] rfl rfl trivial
 rw [if_neg h1] at h;have h1:a.point=false:=by simpa using h1
 obtain ⟨g,g1,h⟩:=Qf.1 h;have cg:=Q60 hp ha.p g1;have pg:=Zam hp ha.p g1;have ch:=Q7m pg ha.lo ha.hi;by_cases G:1<g.length/\Qeb g a.lo a.hi=true
 ·rw [if_pos G] at h;injection h with h; subst h;exact w tt Tryz.func228 rfl [.c [] cn,.c [] ca,.f (by simpa using h0),.c [] pa,.f h1,.c [] cg,.c [] (Na g),.g 29 true (by simp; omega),.c [] ch,.t G.2] rfl rfl trivial
 rw [if_neg G] at h;obtain ⟨c,c1,h⟩:=Qf.1 h;obtain ⟨u,u1,h⟩:=Qf.1 h;injection h with h; subst h;obtain ⟨cl,call⟩:=chain_ok hp c1;obtain ⟨n,hn⟩:=nmE (64+2*(U6 a.lo.num+U6 a.hi.num)+4*(a.p.length+p.length)*(Gw a.p+Gw p+(a.p.length+p.length)+8));have cst:=Q77 ha hp;rw [show Qza p a=n from hn.symm] at cst;rw [<-hn] at u1;have hnb:n<=17179938816+200000000:=by
  have l1:=ha.p.l;have l2:=hp.l;have b1:=ha.lo.1;have b2:=ha.hi.1;have s1:Gw a.p<=16777216:=by have:=Pw ha.p.b a.p.length; rwa [Qy] at this
  have s2:Gw p<=16777216:=by have:=Pw hp.b p.length; rwa [Qy] at this
  have:4*(a.p.length+p.length)*(Gw a.p+Gw p+(a.p.length+p.length)+8)<=512*33554568:=Zh (by omega) (by omega);omega
 refine Gs Tryz.func228 rfl ?_;refine go tt [.c [] cn,.c [] ca,.f (by simpa using h0),.c [] pa,.f h1,.c [] cg] rfl trivial ?_;refine ct 2 (S:=Unit) (λ_=>[(3,.v (.one (.ow 0 0))),(0,.v (pr p))]) (λ_=>[.blk 74 (ta a)]) (λ_=>True) rfl ?_ ?_
 ·by_cases G1:1<g.length
  ·exact go tt [.c [] (Na g),.g 29 true (by simp; omega),.c [] ch,.f (by simpa using λh=>G ⟨G1,h⟩)] rfl trivial (rc () trivial rfl)
  ·exact go tt [.c [] (Na g),.g 29 false (by simp; omega),.f rfl] rfl trivial (rc () trivial rfl)
 rintro _ _
 refine go tt [.c [] (Q68 hp c1),.c [] cst] rfl trivial ?_;refine lp (S:=Nat×Tm) 1 (λL1 s=>(46,.v (.one (.int .i64 (s.1:Int))))::L1) (λs=>[.blk 74 (ta s.2)]) (λs=>n-s.1) (λs=>s.1<=n/\Tb s.2/\sgF c (n-s.1) s.2=some u) (0,a) ⟨Qh _,ha,u1⟩ rfl (λ_ _=>rfl) rfl λ⟨i,x⟩ ⟨j1,j2,j3⟩=>?_
 dsimp only at j1 j2 j3 ⊢;by_cases hi:i<n
 ·obtain ⟨k,hk⟩:∃ k,n-i=k+1:=⟨n-i-1,by omega⟩;have hk':n-(i+1)=k:=by omega
  rw [hk] at j3;simp only [sgF] at j3;have px:=C4 j2;have cb:=Qm8 (by omega) call j2.lo j2.hi;have hlt:decide ((i:Int)<(n:Int))=true:=by simp; omega
  by_cases X:x.point=true
  ·rw [if_pos (.inl X)] at j3;injection j3 with j3; subst j3;exact en tt [.t hlt,.c [] px,.g 50 true X,.t rfl,.c [] (Qh8 hp j2.hi)] rfl rfl trivial
  ·have X':x.point=false:=by simpa using X
   by_cases Z:Rz c x.lo x.hi=0
   ·rw [if_pos (.inr Z)] at j3;injection j3 with j3; subst j3;exact en tt [.t hlt,.c [] px,.g 50 false X',.c [] cb,.t (by simpa using Z),.c [] (Qh8 hp j2.hi)] rfl rfl trivial
   ·rw [if_neg (by rintro (h | h); exact X h; exact Z h)] at j3;obtain ⟨v,v1,v2⟩:=Qf.1 j3;refine go tt [.t hlt,.c [] px,.g 50 false X',.c [] cb,.f (by simpa using Z),.c [] (Qwv j2 v1)] rfl (by simp [Us]; omega) ?_;exact rd (i+1,v) (by dsimp only; omega) ⟨hi,Qrz j2 v1,by dsimp only; rw [hk']; exact v2⟩ rfl
 ·obtain rfl:i=n:=by omega
  rw [Jq] at j3;simp only [sgF] at j3;injection j3 with j3; subst j3;exact en tt [.f (by simp),.c [] (Qh8 hp j2.hi)] rfl rfl trivial
abbrev tas (l:List Tm):LV:=.row (l.map λt=>ta t)
theorem Qjf {l:List Tm} {i:Nat} {t:Tm} (h:l[i]? = some t):(l.map λt=>ta t)[i]? = some (ta t):=Gt h
def zTr:List LV:=[.row [],.bool false,.row [],.bool false,.row [],.bool false,.row [],.bool false,.row []]
theorem Q6s:Uu Tryz.prog 85 [.one (.row [])] [.agg zTr,.one (.bool false)]:=w tt Tryz.func85 rfl [.t rfl] rfl rfl trivial
theorem O8 {b:Tm} {l:List Tm} {m:Tm} (hb:Tb b) (hl:∀ t∈l,Tb t) (hn:l.length≤1000000) (h:Of b l=some m):Uu Tryz.prog 85 [.one (tas (b::l))] [.agg (ta m),.one (.bool true)]:=by
 refine Gs Tryz.func85 rfl ?_;refine go tt [.f (by simp; omega),.x (i:=0) (xs:=ta b) rfl,.i 1] rfl (by simp [Us]; exact ⟨rfl,λ_ _=>rfl⟩) ?_;refine lp (S:=Nat×Tm) 2 (λL1 s=>(17,.v (.one (.int .i64 (s.1:Int))))::L1) (λs=>[.blk 74 zTm,.blk 74 (ta s.2)]) (λs=>l.length-s.1) (λs=>s.1<=l.length/\Tb s.2/\Of s.2 (l.drop s.1)=some m) (0,b) ⟨Qh _,hb,h⟩ rfl (λ_ _=>rfl) rfl λ⟨i,x⟩ ⟨j1,j2,j3⟩=>?_
 dsimp only at j1 j2 j3 ⊢;by_cases hi:i<l.length
 ·obtain ⟨a,ha⟩:=gxE (l:=l) (i:=i) hi;have hdr:l.drop i=a::l.drop (i+1):=by
   rw [Ze hi]; congr 1;have:=Qe hi; rw [ha] at this; injection this with this; exact this.symm
  rw [hdr] at j3;simp only [Of] at j3;obtain ⟨c,c1,j3⟩:=Qf.1 j3;have ta':=hl a (Qa ha);by_cases hc:c<0
  ·rw [if_pos hc] at j3;refine go tt [.t (by simp; omega),.x (Qjf ha),.c [] (Qjs ta' j2 c1),.t (by simpa using hc)] rfl (by simp [Us]; omega) ?_;exact rd (i+1,a) (by dsimp only; omega) ⟨hi,ta',j3⟩ rfl
  ·rw [if_neg hc] at j3;refine go tt [.t (by simp; omega),.x (Qjf ha),.c [] (Qjs ta' j2 c1),.f (by simpa using hc)] rfl (by simp [Us]; omega) ?_;exact rd (i+1,x) (by dsimp only; omega) ⟨hi,j2,j3⟩ rfl
 ·obtain rfl:i=l.length:=by omega
  rw [Yu] at j3;simp only [Of] at j3;injection j3 with j3; subst j3;exact en tt [.f (by simp),.c [] (Q78 j2)] rfl rfl trivial
end Orr
namespace Orq
def U8 (x:Rat):Rat:=if x<0 then -x else x
theorem Hn (x:Rat):0<=U8 x:=by unfold U8; split <;> grind
theorem Py {x b:Rat}:U8 x<=b↔-b<=x/\x<=b:=by unfold U8; split <;> constructor <;> grind
theorem Qrk {x b:Rat}:U8 x<b↔-b<x/\x<b:=by unfold U8; split <;> constructor <;> grind
theorem Tv (x y:Rat):U8 (x+y)<=U8 x+U8 y:=by unfold U8; split <;> split <;> split <;> grind
theorem Q2q (x y:Rat):U8 (x-y)=U8 (y-x):=by unfold U8; split <;> split <;> grind
theorem D7 (x:Rat):U8 (-x)=U8 x:=by unfold U8; split <;> split <;> grind
theorem H7:U8 0=0:=by decide
theorem Bi {x:Rat} (h:x≠0):0<U8 x:=by unfold U8; split <;> grind
theorem Zgj {x:Rat} (h:U8 x=0):x=0:=by unfold U8 at h; split at h <;> grind
theorem M4 {x y:Rat} (h1:0<=x) (h2:0<=y):0<=x*y:=V6 h1 h2
theorem Ak {x y:Rat} (h1:0<x) (h2:0<y):0<x*y:=Jk h1 h2
theorem Nx {a b c d:Rat} (h0:0<=a) (h1:a<=b) (h2:0<=c) (h3:c<=d):a*c<=b*d:=by
 have e1:=Zc h1 h2;have e2:=Zz h3 (Zg h0 h1);exact Zg e1 e2
theorem E8 (x y:Rat):U8 (x*y)=U8 x*U8 y:=by
 unfold U8;by_cases h1:x<0 <;> by_cases h2:y<0
 ·have:=Ak (x:=-x) (y:=-y) (by grind) (by grind); simp only [h1,h2,if_true]; split <;> grind
 ·have:=M4 (x:=-x) (y:=y) (by grind) (by grind); simp only [h1,h2,if_true,if_false]; split <;> grind
 ·have:=M4 (x:=x) (y:=-y) (by grind) (by grind); simp only [h1,h2,if_true,if_false]; split <;> grind
 ·have:=M4 (x:=x) (y:=y) (by grind) (by grind); simp only [h1,h2,if_false]; split <;> grind
theorem Gz {x y a b:Rat} (h1:U8 x<=a) (h2:U8 y<=b):U8 (x*y)<=a*b:=by
 rw [E8]; exact Nx (Hn x) h1 (Hn y) h2
theorem Lt {x y:Rat} (h1:0<x) (h2:0<y):0<x / y:=by rw [Js]; exact Ak h1 (Rat.inv_pos.2 h2)
theorem G0 {x y:Rat} (h2:0<y):x / y*y=x:=Zk (by grind)
theorem G5 {b d:Rat} (hb:0<=b) (hd:0<d):∃ e:Rat,0<e/\e<=1/\e*b<d:=by
 have h1:0<d / (b+1):=Lt hd (by grind);have h2:d / (b+1)*(b+1)=d:=G0 (by grind);rcases V5 (a:=d / (b+1)) (b:=1) with h | h
 ·exact ⟨d / (b+1),h1,h,by
   have:d / (b+1)*(b+1)=d / (b+1)*b+d / (b+1):=by grind
   grind⟩
 ·refine ⟨1,by decide,by decide,?_⟩;have:1*(b+1)<=d / (b+1)*(b+1):=Zc h (by grind);grind
def ev:List Rat->Rat->Rat
 | [],_=>0
 | a::p,t=>a+t*ev p t
def dv:List Rat->Rat->Rat
 | [],_=>0
 | _::p,t=>ev p t+t*dv p t
def dq:List Rat->Rat->Rat->Rat
 | [],_,_=>0
 | _::p,x,y=>ev p x+y*dq p x y
def dd:List Rat->Rat->Rat->Rat
 | [],_,_=>0
 | _::p,x,y=>dq p x y+y*dd p x y
theorem Qns (x y:Rat):∀ p,ev p x-ev p y=(x-y)*dq p x y
 | []=>by simp only [ev,dq]; grind
 | a::p=>by have:=Qns x y p; simp only [ev,dq]; grind
theorem Qqb (y:Rat):∀ p,dq p y y=dv p y
 | []=>rfl
 | a::p=>by simp only [dq,dv,Qqb y p]
theorem Zia (x y:Rat):∀ p,dq p x y-dv p y=(x-y)*dd p x y
 | []=>by simp only [dv,dq,dd]; grind
 |
  a::p=>by
  have h1:=Zia x y p;have h2:=Qns x y p;simp only [dv,dq,dd]; grind
theorem Zid (p:List Rat) (x y:Rat):ev p x-ev p y=(x-y)*dv p y+(x-y)*(x-y)*dd p x y:=by
 have h1:=Qns x y p;have h2:=Zia x y p;grind
def evB (R:Rat):List Rat->Rat
 | []=>0
 | a::p=>U8 a+R*evB R p
def dqB (R:Rat):List Rat->Rat
 | []=>0
 | _::p=>evB R p+R*dqB R p
def ddB (R:Rat):List Rat->Rat
 | []=>0
 | _::p=>dqB R p+R*ddB R p
theorem Qan {R:Rat} (hR:0<=R):∀ p,0<=evB R p
 | []=>by simp only [evB]; grind
 | a::p=>by have:=M4 hR (Qan hR p); have:=Hn a; simp only [evB]; grind
theorem Me {R:Rat} (hR:0<=R):∀ p,0<=dqB R p
 | []=>by simp only [dqB]; grind
 | a::p=>by have:=M4 hR (Me hR p); have:=Qan hR p; simp only [dqB]; grind
theorem Qkg {R:Rat} (hR:0<=R):∀ p,0<=ddB R p
 | []=>by simp only [ddB]; grind
 | a::p=>by have:=M4 hR (Qkg hR p); have:=Me hR p; simp only [ddB]; grind
theorem Qhk {R x:Rat} (hx:U8 x<=R):∀ p,U8 (ev p x)<=evB R p
 | []=>by simp only [ev,evB,H7]; grind
 |
  a::p=>by
  have h1:=Tv a (x*ev p x);have h2:=Gz hx (Qhk hx p);simp only [ev,evB]; grind
theorem Qti {R x y:Rat} (hx:U8 x<=R) (hy:U8 y<=R):∀ p,U8 (dq p x y)<=dqB R p
 | []=>by simp only [dq,dqB,H7]; grind
 |
  a::p=>by
  have h1:=Tv (ev p x) (y*dq p x y);have h2:=Gz hy (Qti hx hy p);have h3:=Qhk hx p;simp only [dq,dqB]; grind
theorem Q8n {R x y:Rat} (hx:U8 x<=R) (hy:U8 y<=R):∀ p,U8 (dd p x y)<=ddB R p
 | []=>by simp only [dd,ddB,H7]; grind
 |
  a::p=>by
  have h1:=Tv (dq p x y) (y*dd p x y);have h2:=Gz hy (Q8n hx hy p);have h3:=Qti hx hy p;simp only [dd,ddB]; grind
theorem Zj8 {R x y:Rat} (hx:U8 x<=R) (hy:U8 y<=R) (p:List Rat):U8 (ev p x-ev p y)<=U8 (x-y)*dqB R p:=by
 rw [Qns,E8]; exact Nx (Hn _) Qq (Hn _) (Qti hx hy p)
def Tw:List Rat->List Rat->List Rat
 | [],q=>q
 | a::p,[]=>a::p
 | a::p,b::q=>(a+b)::Tw p q
def Cx (c:Rat) (p:List Rat):List Rat:=p.map (c * ·)
def Gq:List Rat->List Rat->List Rat
 | [],_=>[]
 | a::p,q=>Tw (Cx a q) (0::Gq p q)
def M6:List Rat->List Rat
 | []=>[]
 | _::p=>Tw p (0::M6 p)
theorem Gk (t:Rat):∀ p q,ev (Tw p q) t=ev p t+ev q t
 | [],q=>by simp only [Tw,ev]; grind
 | a::p,[]=>by simp only [Tw,ev]; grind
 | a::p,b::q=>by have:=Gk t p q; simp only [Tw,ev]; grind
theorem Ga (c t:Rat):∀ p,ev (Cx c p) t=c*ev p t
 | []=>by simp only [Cx,Ji,ev]; grind
 | a::p=>by have:=Ga c t p; simp only [Cx,Z1,ev] at *; grind
theorem U4 (t:Rat):∀ p q,ev (Gq p q) t=ev p t*ev q t
 | [],q=>by simp only [Gq,ev]; grind
 | a::p,q=>by have:=U4 t p q; simp only [Gq,Gk,Ga,ev]; grind
theorem Ta (t:Rat):∀ p,ev (M6 p) t=dv p t
 | []=>rfl
 | a::p=>by have:=Ta t p; simp only [M6,Gk,ev,dv]; grind
theorem Qqd (t:Rat):∀ p q,dv (Tw p q) t=dv p t+dv q t
 | [],q=>by simp only [Tw,dv]; grind
 | a::p,[]=>by simp only [Tw,dv]; grind
 | a::p,b::q=>by have:=Qqd t p q; have:=Gk t p q; simp only [Tw,dv]; grind
theorem Qf6 (c t:Rat):∀ p,dv (Cx c p) t=c*dv p t
 | []=>by simp only [Cx,Ji,dv]; grind
 | a::p=>by have:=Qf6 c t p; have:=Ga c t p; simp only [Cx,Z1,dv] at *; grind
theorem Qqe (t:Rat):∀ p q,dv (Gq p q) t=dv p t*ev q t+ev p t*dv q t
 | [],q=>by simp only [Gq,dv,ev]; grind
 | a::p,q=>by have:=Qqe t p q; have:=U4 t p q; simp only [Gq,Qqd,Qf6,dv,ev]; grind
theorem Q1a:∀ {p:List Rat},(∀ x∈p,x=0)->∀ t,ev p t=0
 | [],_,t=>rfl
 |
  a::p,h,t=>by
  have h1:=Q1a (p:=p) (λx hx=>h x (Qj _ hx)) t;have h2:=h a (Qx ..);simp only [ev,h1,h2]; grind
theorem Q06:∀ {p:List Rat},(∀ x∈p,x=0)->∀ t,dv p t=0
 | [],_,t=>rfl
 |
  a::p,h,t=>by
  have h0:=λx hx=>h x (Qj _ hx)
  have h1:=Q1a (p:=p) h0 t;have h2:=Q06 (p:=p) h0 t;simp only [dv,h1,h2]; grind
theorem Qdo:∀ {p:List Rat},(∀ t,0<t->t<1->ev p t=0)->∀ x∈p,x=0
 | [],_=>λx hx=>by cases hx
 |
  a::p,h=>by
  have ha:a=0:=by
   rcases Classical.em (a=0) with h0 | h0
   ·exact h0
   ·obtain ⟨e,e1,e2,e3⟩:=G5 (Qan (R:=1) (by decide) p) (Bi h0);obtain ⟨f,f1,f2,f3⟩:=G5 (b:=1) (d:=e) (by decide) e1;have h1:=h f f1 (by grind);have h2:=Qhk (R:=1) (x:=f) (by unfold U8; split <;> grind) p;have h3:=E8 f (ev p f);have h4:U8 f=f:=by unfold U8; split <;> grind
    have h5:a=-(f*ev p f):=by simp only [ev] at h1; grind
    have h6:U8 a=f*U8 (ev p f):=by rw [h5,D7,h3,h4]
    have h7:f*U8 (ev p f)<=e*evB 1 p:=Nx (Qr f1) (by grind) (Hn _) h2;grind
  intro x hx;rcases Qo.1 hx with rfl | hx
  ·exact ha
  ·refine Qdo (p:=p) (λt h1 h2=>?_) x hx;have:=h t h1 h2;simp only [ev,ha] at this;have h3:t*ev p t=0:=by grind
   rcases Y0.1 h3 with h4 | h4
   ·grind
   ·exact h4
theorem Q8v {p q:List Rat} (h:∀ t,ev p t=ev q t) (t:Rat):dv p t=dv q t:=by
 have h1:=Q06 (p:=Tw p (Cx (-1) q)) (Qdo λt _ _=>by rw [Gk,Ga,h t]; grind) t;rw [Qqd,Qf6] at h1; grind
def U5 (x:Rat):Int:=if x<0 then -1 else if 0<x then 1 else 0
theorem Fv {x:Rat}:U5 x=0↔x=0:=by
 unfold U5; constructor
 ·intro h; split at h <;> (try split at h) <;> grind
 ·intro h; subst h; rfl
theorem H8 {x:Rat}:U5 x=1↔0<x:=by
 unfold U5; constructor
 ·intro h; split at h <;> (try split at h) <;> grind
 ·intro h; rw [if_neg (by grind),if_pos h]
theorem Sk {x:Rat}:U5 x=-1↔x<0:=by
 unfold U5; constructor
 ·intro h; split at h <;> (try split at h) <;> grind
 ·intro h; rw [if_pos h]
theorem Fq (x:Rat):U5 x=-1/\x<0\/U5 x=0/\x=0\/U5 x=1/\0<x:=by
 rcases V5 (a:=x) (b:=0) with h | h
 ·rcases Classical.em (x=0) with h0 | h0
  ·exact .inr (.inl ⟨Fv.2 h0,h0⟩)
  ·exact .inl ⟨Sk.2 (by grind),by grind⟩
 ·rcases Classical.em (x=0) with h0 | h0
  ·exact .inr (.inl ⟨Fv.2 h0,h0⟩)
  ·exact .inr (.inr ⟨H8.2 (by grind),by grind⟩)
theorem Tx (x y:Rat):U5 (x*y)=U5 x*U5 y:=by
 rcases Fq x with ⟨e1,h1⟩ | ⟨e1,h1⟩ | ⟨e1,h1⟩ <;> rcases Fq y with ⟨e2,h2⟩ | ⟨e2,h2⟩ | ⟨e2,h2⟩ <;> rw [e1,e2]
 ·have:=Ak (x:=-x) (y:=-y) (by grind) (by grind); exact H8.2 (by grind)
 ·subst h2; exact Fv.2 (by grind)
 ·have:=Ak (x:=-x) (y:=y) (by grind) (by grind); exact Sk.2 (by grind)
 ·subst h1; exact Fv.2 (by grind)
 ·subst h1; exact Fv.2 (by grind)
 ·subst h1; exact Fv.2 (by grind)
 ·have:=Ak (x:=x) (y:=-y) (by grind) (by grind); exact Sk.2 (by grind)
 ·subst h2; exact Fv.2 (by grind)
 ·exact H8.2 (Ak h1 h2)
theorem S7 {a b d:Rat} (h1:d<=U8 a) (h2:U8 (b-a)<d):U5 b=U5 a/\U5 a≠0:=by
 rw [Qrk] at h2;rcases Fq a with ⟨e,h⟩ | ⟨e,h⟩ | ⟨e,h⟩
 ·rw [e,Sk]; unfold U8 at h1; rw [if_pos h] at h1; exact ⟨by grind,by decide⟩
 ·subst h; rw [H7] at h1; grind
 ·rw [e,H8]; unfold U8 at h1; rw [if_neg (by grind)] at h1; exact ⟨by grind,by decide⟩
def tc (x:Rat):Int->List (List Rat)->Nat
 | _,[]=>0
 | s,p::l=>if U5 (ev p x)=0 then tc x s l else (if s=-(U5 (ev p x)) then 1 else 0)+tc x (U5 (ev p x)) l
inductive SCl:List Rat->List Rat->List (List Rat)->Prop
 | base {f g:List Rat} {c:Rat} (hc:c≠0) (hg:∀ t,ev g t=c):SCl f g []
 | step {f g h:List Rat} {l:List (List Rat)} {a b:Rat} {q:List Rat} (ha:0<a) (hb:0<b) (he:∀ t,a*ev f t=ev q t*ev g t-b*ev h t) (hl:SCl g h l):SCl f g (h::l)
theorem Zcp {x:Rat} {s:Int} {g h:List Rat} {l:List (List Rat)} (hh:U5 (ev h x)=-s) (hs:s≠0):tc x s (g::h::l)=1+tc x (-s) l:=by
 have h3:U5 (ev h x)≠0:=by omega
 have hv:s=1\/s=-1:=by rcases Fq (ev h x) with ⟨e,_⟩ | ⟨e,_⟩ | ⟨e,_⟩ <;> omega
 simp only [tc,if_neg h3,hh];rcases Fq (ev g x) with ⟨e,_⟩ | ⟨e,_⟩ | ⟨e,_⟩ <;> rw [e] <;> rcases hv with rfl | rfl <;> simp
theorem Qfb {x:Rat} {s:Int} {p:List Rat} {l:List (List Rat)} (h:U5 (ev p x)≠0):tc x s (p::l)=(if s=-(U5 (ev p x)) then 1 else 0)+tc x (U5 (ev p x)) l:=by rw [tc,if_neg h]
theorem Pq {R x y e d:Rat} {p:List Rat} (hx:U8 x<=R) (hy:U8 y<=R) (hR:0<=R) (h:U8 (y-x)<=e) (hd:e*dqB R p<d):U8 (ev p y-ev p x)<d:=by
 have h1:=Zj8 hy hx p;have h2:=Zc h (Me hR p);grind
theorem Qoh {a x y:Rat} (ha:0<a) (h:a*x<a*y):x<y:=by
 rcases V5 (a:=y) (b:=x) with h' | h'
 ·have:=Zz h' (Qr ha); grind
 ·rcases Classical.em (x=y) with e | e
  ·subst e; grind
  ·grind
theorem Zlg {a b d d' B f g h q:Rat} (ha:0<a) (hb:0<b) (dp:0<d) (h7:B*d+a*d<b*d') (hq:U8 q<=B) (hg:U8 g<d) (hh:d'<=U8 h) (he:a*f=q*g-b*h) (hd':0<d'):U5 h=-U5 f/\d<=U8 f:=by
 have h4:=Gz hq (Qr hg);rw [Py] at h4;have had:=Ak ha dp;have h8:=Zz hh (Qr hb);rcases Fq h with ⟨s,p⟩ | ⟨s,p⟩ | ⟨s,p⟩
 ·have:U8 h=-h:=by unfold U8; rw [if_pos p]
  rw [this] at h8;have h10:d<f:=Qoh ha (by grind);rw [s,H8.2 (show 0<f by grind)];exact ⟨rfl,by unfold U8; split <;> grind⟩
 ·rw [p,H7] at hh; grind
 ·have:U8 h=h:=by unfold U8; rw [if_neg (by grind)]
  rw [this] at h8;have h10:f < -d:=Qoh ha (by grind);rw [s,Sk.2 (show f<0 by grind)];exact ⟨rfl,by unfold U8; split <;> grind⟩
theorem min2 {a b:Rat} (ha:0<a) (hb:0<b):∃ e:Rat,0<e/\e<=a/\e<=b:=by
 rcases V5 (a:=a) (b:=b) with h | h
 ·exact ⟨a,ha,Qq,h⟩
 ·exact ⟨b,hb,h,Qq⟩
theorem Fi (a b:Rat):a<=b\/b<a:=by
 rcases V5 (a:=a) (b:=b) with h | h
 ·exact .inl h
 ·rcases Classical.em (a=b) with e | e
  ·exact .inl (by grind)
  ·exact .inr (by grind)
theorem Zkq {R:Rat} (hR:0<=R) {f g:List Rat} {l:List (List Rat)} (hc:SCl f g l):∃ d e:Rat,0<d/\0<e/\∀ x y,U8 x<=R->U8 y<=R->U8 (y-x)<=e ->
 (d<=U8 (ev f x)\/d<=U8 (ev g x))/\(d<=U8 (ev f x)->U5 (ev f y)=U5 (ev f x)/\U5 (ev f x)≠0)/\(d<=U8 (ev g x)->U5 (ev g y)=U5 (ev g x)/\U5 (ev g x)≠0) /\
 (U5 (ev f y)=U5 (ev f x)->U5 (ev f x)≠0->tc x (U5 (ev f x)) (g::l)=tc y (U5 (ev f x)) (g::l)) /\
 (U5 (ev g y)=U5 (ev g x)->U5 (ev g x)≠0->tc x (U5 (ev g x)) l=tc y (U5 (ev g x)) l):=by
 induction hc with
 |
  @base f g c hc hg =>
  have hd:=Bi hc;obtain ⟨e,e1,e2,e3⟩:=G5 (Me hR f) hd;refine ⟨U8 c,e,hd,e1,λx y hx hy hxy=>⟨.inr (by rw [hg]; exact Qq),λh=>S7 h (Pq hx hy hR hxy e3),λh=>?_,λ_ _=>?_,λ_ _=>rfl⟩⟩
  ·rw [hg,hg]; exact ⟨rfl,λh=>hc (Fv.1 h)⟩
  ·simp only [tc,hg]
 |
  @step f g h l a b q ha hb he hl ih =>
  obtain ⟨d',e',hd',he',ih⟩:=ih;obtain ⟨d1,d1p,_,d1b⟩:=G5 (b:=evB R q+a) (d:=b*d') (by have:=Qan hR q; grind) (Ak hb hd');obtain ⟨d,dp,hd1,hdd⟩:=min2 d1p hd';obtain ⟨ef,ef1,_,ef3⟩:=G5 (Me hR f) dp;obtain ⟨eg,eg1,_,eg3⟩:=G5 (Me hR g) dp;obtain ⟨e0,e0p,h1,h2⟩:=min2 ef1 eg1;obtain ⟨e,ep,h0,h3⟩:=min2 e0p he';have h1:=Zg h0 h1;have h2:=Zg h0 h2;refine ⟨d,e,dp,ep,λx y hx hy hxy=>?_⟩;obtain ⟨i1,i2,i3,i4,i5⟩:=ih x y hx hy (Zg hxy h3);have hsm:U8 (ev g x)<d->d'<=U8 (ev h x)/\U5 (ev h x)=-U5 (ev f x)/\d<=U8 (ev f x):=λhg=>by
   have hh:d'<=U8 (ev h x):=by
    rcases i1 with i | i
    ·exact absurd (Zg hdd i) (Jg.2 hg)
    ·exact i
   have h6:d*(evB R q+a)<=d1*(evB R q+a):=Zc hd1 (by have:=Qan hR q; clear ih i1 i2 i3 i4 i5 he; grind);have h7:evB R q*d+a*d<b*d':=by clear ih i1 i2 i3 i4 i5 he; grind
   exact ⟨hh,Zlg ha hb dp h7 (Qhk hx q) hg hh (he x) hd'⟩
  have hfs:d<=U8 (ev f x)->U5 (ev f y)=U5 (ev f x)/\U5 (ev f x)≠0:=λh=>S7 h (Pq hx hy hR (Zg hxy h1) ef3)
  have hgs:d<=U8 (ev g x)->U5 (ev g y)=U5 (ev g x)/\U5 (ev g x)≠0:=λh=>S7 h (Pq hx hy hR (Zg hxy h2) eg3)
  refine ⟨?_,hfs,hgs,λs1 s2=>?_,i4⟩
  ·rcases Fi d (U8 (ev g x)) with h | h
   ·exact .inr h
   ·exact .inl (hsm h).2.2
  ·rcases Fi d (U8 (ev g x)) with h | h
   ·obtain ⟨g1,g2⟩:=hgs h;rw [Qfb (x:=x) (p:=g) g2,Qfb (x:=y) (p:=g) (by rw [g1]; exact g2),g1,i4 g1 g2]
   ·obtain ⟨h4,h5,_⟩:=hsm h;obtain ⟨h6,h7⟩:=i3 h4;have i5:=i5 h6 h7;rw [Zcp h5 s2,Zcp (h6.trans h5) s2,<-h5,i5]
def Sy (p:List Rat) (x:Rat):Int:=if U5 (ev p x)≠0 then U5 (ev p x) else U5 (dv p x)
def vv (L:List (List Rat)) (x:Rat):Nat:=tc x 0 L
def Stm (f:List Rat) (L:List (List Rat)):Prop:=(∃ c:Rat,c≠0/\(∀ t,ev f t=c)/\L=[f])\/∃ g l,∃ k:Rat,0<k/\(∀ t,ev g t=k*dv f t)/\SCl f g l/\L=f::g::l
structure Sm (w:List Rat) (x y:Rat):Prop where
 s:U5 (ev w y)=Sy w x
 l:Sy w y=Sy w x
 n:Sy w x≠0
theorem L9 {p:List Rat} {x:Rat} (h:U5 (ev p x)≠0):Sy p x=U5 (ev p x):=by unfold Sy; rw [if_pos h]
theorem Qx1 {p:List Rat} {x:Rat} (h:U5 (ev p x)=0):Sy p x=U5 (dv p x):=by unfold Sy; rw [if_neg (by simpa using h)]
theorem Qvk {p:List Rat} {x y:Rat} (h:U5 (ev p y)=U5 (ev p x)) (h0:U5 (ev p x)≠0):Sm p x y:=by
 have h1:=L9 h0;have h2:=L9 (p:=p) (x:=y) (by rw [h]; exact h0);exact ⟨by rw [h,h1],by rw [h2,h1,h],by rw [h1]; exact h0⟩
theorem I9 {f w u:List Rat} (h:∀ t,ev f t=ev w t*ev u t) (x:Rat):dv f x=dv w x*ev u x+ev w x*dv u x:=by
 rw [<-Qqe]; exact Q8v (λt=>by rw [h,U4]) x
theorem Q1v {f w u:List Rat} {x:Rat} (h:∀ t,ev f t=ev w t*ev u t) (hu:U5 (ev u x)≠0):Sy f x=Sy w x*U5 (ev u x):=by
 by_cases hw:U5 (ev w x)=0
 ·have hw0:=Fv.1 hw;have e1:ev f x=0:=by rw [h,hw0]; grind
  have e2:dv f x=dv w x*ev u x:=by rw [I9 h,hw0]; grind
  rw [Qx1 hw,Qx1 (Fv.2 e1),e2,Tx]
 ·have e1:U5 (ev f x)=U5 (ev w x)*U5 (ev u x):=by rw [h,Tx]
  rw [L9 hw,L9 (by rw [e1]; exact X9 hw hu),e1]
theorem Zlh {f w u:List Rat} {x y:Rat} (h:∀ t,ev f t=ev w t*ev u t) (hu:U5 (ev u y)=U5 (ev u x)) (h0:U5 (ev u x)≠0) (hf:Sm f x y):Sm w x y:=by
 have e1:=Q1v h h0;have e2:=Q1v (x:=y) h (by rw [hu]; exact h0);have e3:U5 (ev f y)=U5 (ev w y)*U5 (ev u y):=by rw [h,Tx]
 obtain ⟨s,l,n⟩:=hf;rw [hu] at e2 e3;refine ⟨?_,?_,λh=>n (by rw [e1,h,Yf])⟩
 ·rw [e3,e1] at s; exact Y3 h0 s
 ·rw [e2,e1] at l; exact Y3 h0 l
theorem tc0 {x:Rat} {s:Int} {f g:List Rat} {l:List (List Rat)} (h:U5 (ev g x)=s) (hs:s≠0):tc x 0 (f::g::l)=(if U5 (ev f x)=-s then 1 else 0)+tc x s l:=by
 have hv:s=1\/s=-1:=by rcases Fq (ev g x) with ⟨e,_⟩ | ⟨e,_⟩ | ⟨e,_⟩ <;> omega
 have hg:U5 (ev g x)≠0:=by omega
 rw [tc];rcases Fq (ev f x) with ⟨e,_⟩ | ⟨e,_⟩ | ⟨e,_⟩ <;> rw [e] <;> rcases hv with rfl | rfl <;> simp [Qfb hg,h]
theorem Qlq {R x y e d:Rat} {p:List Rat} (hx:U8 x<=R) (hy:U8 y<=R) (hR:0<=R) (hxy:x<y) (h:y-x<=e) (hd:d<=U8 (dv p x)) (he:e*ddB R p<d):U5 (ev p y-ev p x)=U5 (dv p x):=by
 have h1:=Zid p y x;have h2:ev p y-ev p x=(y-x)*(dv p x+(y-x)*dd p y x):=by rw [h1]; grind
 have h3:=Gz (x:=y-x) (y:=dd p y x) (a:=e) (b:=ddB R p) (by rw [Py]; constructor <;> grind) (Q8n hy hx p);have h4:=S7 (b:=dv p x+(y-x)*dd p y x) hd (by
  have:dv p x+(y-x)*dd p y x-dv p x=(y-x)*dd p y x:=by grind
  rw [this]; exact Jg.1 λh=>absurd (Zg h h3) (Jg.2 he))
 rw [h2,Tx,H8.2 (show 0<y-x by grind),h4.1,Vb]
def Q54 (f w:List Rat) (L:List (List Rat)) (x y:Rat):Prop :=
 (vv L x=vv L y/\Sm f x y/\Sm w x y)\/(vv L x=vv L y+1/\Sy f x≠0/\Sy f y=-Sy f x/\U5 (ev f x)=Sy f x/\(U5 (ev f y)=0\/U5 (ev f y)=-Sy f x))
theorem Zig {R d:Rat} (hR:0<=R) (hd:0<d) {f w u:List Rat} (h:∀ t,ev f t=ev w t*ev u t):∃ e:Rat,0<e/\∀ x y,U8 x<=R->U8 y<=R->U8 (y-x)<=e->d<=U8 (ev f x)->Sm f x y/\Sm w x y:=by
 obtain ⟨ef,ef1,_,ef3⟩:=G5 (Me hR f) hd;obtain ⟨d1,d1p,_,d1b⟩:=G5 (Qan hR u) hd;obtain ⟨ew,ew1,_,ew3⟩:=G5 (Me hR w) d1p;obtain ⟨e,ep,e1,e2⟩:=min2 ef1 ew1;refine ⟨e,ep,λx y hx hy hxy hf=>⟨?_,?_⟩⟩
 ·have:=S7 hf (Pq hx hy hR (Zg hxy e1) ef3);exact Qvk this.1 this.2
 ·have hw:d1<=U8 (ev w x):=by
   rcases Fi d1 (U8 (ev w x)) with h' | h'
   ·exact h'
   ·have h5:=Gz (Qr h') (Qhk hx u);rw [<-h] at h5;exact absurd (Zg hf h5) (Jg.2 d1b)
  have:=S7 hw (Pq hx hy hR (Zg hxy e2) ew3);exact Qvk this.1 this.2
theorem loc {R:Rat} (hR:0<=R) {f w u:List Rat} {L:List (List Rat)} (hc:Stm f L) (h:∀ t,ev f t=ev w t*ev u t):∃ e:Rat,0<e/\∀ x y,U8 x<=R->U8 y<=R->x<y->y-x<=e->Q54 f w L x y:=by
 rcases hc with ⟨c,hc,hf,rfl⟩ | ⟨g,l,k,hk,hg,hc,rfl⟩
 ·obtain ⟨e,ep,h1⟩:=Zig hR (Bi hc) h;refine ⟨e,ep,λx y hx hy hxy he=>.inl ⟨?_,h1 x y hx hy (by rw [Py]; constructor <;> grind) (by rw [hf]; exact Qq)⟩⟩;simp only [vv,tc,hf]
 ·obtain ⟨d,e1,dp,e1p,h1⟩:=Zkq hR hc;obtain ⟨e2,e2p,h2⟩:=Zig hR dp h;obtain ⟨d3,d3p,_,d3b⟩:=G5 (b:=k) (d:=d) (Qr hk) dp;obtain ⟨e3,e3p,_,e3b⟩:=G5 (Qkg hR f) d3p;obtain ⟨d4,d4p,_,d4b⟩:=G5 (b:=dqB R w+dqB R u) (d:=d3) (by have:=Me hR w; have:=Me hR u; grind) d3p;obtain ⟨e4,e4p,_,e4b⟩:=G5 (Me hR w) d4p;obtain ⟨e5,e5p,_,e5b⟩:=G5 (Me hR u) d4p;obtain ⟨a1,a1p,a11,a12⟩:=min2 e1p e2p;obtain ⟨a2,a2p,a21,a22⟩:=min2 e3p e4p;obtain ⟨a3,a3p,a31,a32⟩:=min2 a1p a2p;obtain ⟨e,ep,b1,b2⟩:=min2 a3p e5p;refine ⟨e,ep,λx y hx hy hxy he=>?_⟩;have hab:U8 (y-x)<=e:=by rw [Py]; clear h1 h2; constructor <;> grind
  have hab1:U8 (y-x)<=e1:=by clear h1 h2; grind
  have hab2:U8 (y-x)<=e2:=by clear h1 h2; grind
  obtain ⟨i1,i2,i3,i4,i5⟩:=h1 x y hx hy hab1;rcases Fi d (U8 (ev f x)) with hf | hf
  ·obtain ⟨s1,s2⟩:=h2 x y hx hy hab2 hf;obtain ⟨j1,j2⟩:=i2 hf;refine .inl ⟨?_,s1,s2⟩;have:=i4 j1 j2;simp only [vv];rw [Qfb (x:=x) (p:=f) j2,Qfb (x:=y) (p:=f) (by rw [j1]; exact j2),j1,this]
  ·have hg1:d<=U8 (ev g x):=by
    rcases i1 with i | i
    ·exact absurd i (Jg.2 hf)
    ·exact i
   obtain ⟨g1,g2⟩:=i3 hg1;have i5:=i5 g1 g2;have hD:d3<=U8 (dv f x):=by
    rcases Fi d3 (U8 (dv f x)) with h' | h'
    ·exact h'
    ·have h5:=Gz (x:=k) (a:=k) (by unfold U8; split <;> clear h1 h2 <;> grind) (Rat.le_of_lt h');rw [<-hg] at h5;have:k*d3=d3*k:=by grind
     exact absurd (Zg hg1 h5) (Jg.2 (by rw [this]; exact d3b))
   have hm:=Qlq hx hy hR hxy (by clear h1 h2; grind:y-x<=e3) hD e3b;have s1:U5 (ev g x)=U5 (dv f x):=by rw [hg,Tx,H8.2 hk,Vb]
   have s2:U5 (ev g y)=U5 (dv f y):=by rw [hg,Tx,H8.2 hk,Vb]
   obtain ⟨s,hs⟩:=nmE (U5 (ev g x));rw [<-hs] at g1 g2 i5 s1;rw [g1] at s2;have v1:=tc0 (f:=f) (l:=l) hs.symm g2;have v2:=tc0 (f:=f) (l:=l) g1 g2;rw [<-i5] at v2;rw [<-s1] at hm;have hw:Sm f x y->Sm w x y:=λhf=>by
    rcases Fi d4 (U8 (ev u x)) with hu | hu
    ·have hu:=S7 hu (Pq hx hy hR (Zg hab b2) e5b);exact Zlh h hu.1 hu.2 hf
    ·have hw:d4<=U8 (ev w x):=by
      rcases Fi d4 (U8 (ev w x)) with h' | h'
      ·exact h'
      ·have q1:=Gz (x:=dv w x) (y:=ev u x) (a:=dqB R w) (by rw [<-Qqb]; exact Qti hx hx w) (Qr hu);have q2:=Gz (x:=ev w x) (y:=dv u x) (b:=dqB R u) (Qr h') (by rw [<-Qqb]; exact Qti hx hx u);have q3:=Tv (dv w x*ev u x) (ev w x*dv u x);rw [<-I9 h] at q3;have:d4*(dqB R w+dqB R u)=dqB R w*d4+d4*dqB R u:=by grind
       rw [this] at d4b;exact absurd (Zg hD (Zg q3 (by clear h1 h2; grind:_<=dqB R w*d4+d4*dqB R u))) (Jg.2 d4b)
     have hw:=S7 hw (Pq hx hy hR (Zg hab (by clear h1 h2; grind)) e4b);exact Qvk hw.1 hw.2
   have lx:Sy f x=if U5 (ev f x)≠0 then U5 (ev f x) else s:=by rw [s1]; rfl
   have ly:Sy f y=if U5 (ev f y)≠0 then U5 (ev f y) else s:=by rw [s2]; rfl
   clear h1 h2 i1 i2 i3 i4;have hsv:s=1\/s=-1:=by rcases Fq (ev g x) with ⟨e,_⟩ | ⟨e,_⟩ | ⟨e,_⟩ <;> omega
   unfold Q54;simp only [vv,v1,v2];rcases hsv with rfl | rfl
   ·have hm:=H8.1 hm;rcases Fq (ev f x) with ⟨p1,p2⟩ | ⟨p1,p2⟩ | ⟨p1,p2⟩
    ·rcases Fq (ev f y) with ⟨q1,q2⟩ | ⟨q1,q2⟩ | ⟨q1,q2⟩
     ·rw [p1,q1]; have hsm:=Qvk (p:=f) (x:=x) (y:=y) (by rw [p1,q1]) (by rw [p1]; decide);exact .inl ⟨rfl,hsm,hw hsm⟩
     ·rw [lx,ly,p1,q1]; refine .inr ⟨by simp; omega,by decide,by decide,by decide,by decide⟩
     ·rw [lx,ly,p1,q1]; refine .inr ⟨by simp; omega,by decide,by decide,by decide,by decide⟩
    ·have q1:=H8.2 (show 0<ev f y by grind);have hsm:Sm f x y:=⟨by rw [lx,q1,p1]; rfl,by rw [lx,ly,q1,p1]; rfl,by rw [lx,p1]; decide⟩;rw [p1,q1]; exact .inl ⟨rfl,hsm,hw hsm⟩
    ·have q1:=H8.2 (show 0<ev f y by grind);have hsm:Sm f x y:=⟨by rw [lx,q1,p1]; rfl,by rw [lx,ly,q1,p1],by rw [lx,p1]; decide⟩;rw [p1,q1]; exact .inl ⟨rfl,hsm,hw hsm⟩
   ·have hm:=Sk.1 hm;rcases Fq (ev f x) with ⟨p1,p2⟩ | ⟨p1,p2⟩ | ⟨p1,p2⟩
    ·have q1:=Sk.2 (show ev f y<0 by grind);have hsm:Sm f x y:=⟨by rw [lx,q1,p1]; rfl,by rw [lx,ly,q1,p1],by rw [lx,p1]; decide⟩;rw [p1,q1]; exact .inl ⟨rfl,hsm,hw hsm⟩
    ·have q1:=Sk.2 (show ev f y<0 by grind);have hsm:Sm f x y:=⟨by rw [lx,q1,p1]; rfl,by rw [lx,ly,q1,p1]; rfl,by rw [lx,p1]; decide⟩;rw [p1,q1]; exact .inl ⟨rfl,hsm,hw hsm⟩
    ·rcases Fq (ev f y) with ⟨q1,q2⟩ | ⟨q1,q2⟩ | ⟨q1,q2⟩
     ·rw [lx,ly,p1,q1]; refine .inr ⟨by simp; omega,by decide,by decide,by decide,by decide⟩
     ·rw [lx,ly,p1,q1]; refine .inr ⟨by simp; omega,by decide,by decide,by decide,by decide⟩
     ·rw [p1,q1]; have hsm:=Qvk (p:=f) (x:=x) (y:=y) (by rw [p1,q1]) (by rw [p1]; decide);exact .inl ⟨rfl,hsm,hw hsm⟩
theorem Zpu (z:Rat):∃ n:Nat,z<=(n:Rat):=by
 refine ⟨z.ceil.toNat,?_⟩;have h1:z<=(z.ceil:Rat):=Rat.le_ceil;have h2:(z.ceil:Rat)<=((z.ceil.toNat:Int):Rat):=X7.2 (Int.self_le_toNat _);exact Zg h1 h2
theorem O6 {z e:Rat} (he:0<e):∃ n:Nat,z<=(n:Rat)*e:=by
 obtain ⟨n,hn⟩:=Zpu (z / e);exact ⟨n,by have:=Zc hn (Qr he); rwa [G0 he] at this⟩
theorem Qed {R x y t:Rat} (hx:U8 x<=R) (hy:U8 y<=R) (h1:x<=t) (h2:t<=y):U8 t<=R:=by
 rw [Py] at *; constructor <;> grind
def Q3i (f w:List Rat) (L:List (List Rat)) (x y:Rat):Prop :=
 vv L y<=vv L x/\(vv L x=vv L y->Sm f x y/\Sm w x y)/\(vv L x=vv L y+1->Sy f x≠0/\Sy f y=-Sy f x)
theorem Q1t {f w:List Rat} {L:List (List Rat)} {x y:Rat} (h:Q54 f w L x y):Q3i f w L x y:=by
 rcases h with ⟨h1,h2,h3⟩ | ⟨h1,h2,h3,_⟩
 ·exact ⟨by omega,λ_=>⟨h2,h3⟩,λh=>by omega⟩
 ·exact ⟨by omega,λh=>by omega,λ_=>⟨h2,h3⟩⟩
theorem Qvl {w:List Rat} {x y z:Rat} (h1:Sm w x y) (h2:Sm w y z):Sm w x z:=⟨by rw [h2.s,h1.l],by rw [h2.l,h1.l],h1.n⟩
theorem Qxz {f w:List Rat} {L:List (List Rat)} {x y z:Rat} (h:Q3i f w L x y) (h':Q3i f w L y z):Q3i f w L x z:=by
 obtain ⟨a1,a2,a3⟩:=h;obtain ⟨b1,b2,b3⟩:=h';refine ⟨by omega,λh=>?_,λh=>?_⟩
 ·obtain ⟨s1,s2⟩:=a2 (by omega);obtain ⟨s3,s4⟩:=b2 (by omega);exact ⟨Qvl s1 s3,Qvl s2 s4⟩
 ·by_cases e:vv L x=vv L y
  ·obtain ⟨s1,_⟩:=a2 e;obtain ⟨s3,s4⟩:=b3 (by omega);exact ⟨s1.n,by rw [s4,s1.l]⟩
  ·obtain ⟨s3,s4⟩:=a3 (by omega);obtain ⟨s1,_⟩:=b2 (by omega);exact ⟨s3,by rw [s1.l,s4]⟩
theorem Zkg {R:Rat} (hR:0<=R) {f w u:List Rat} {L:List (List Rat)} (hc:Stm f L) (h:∀ t,ev f t=ev w t*ev u t) {x y:Rat} (hx:U8 x<=R) (hy:U8 y<=R) (hxy:x<y):Q3i f w L x y:=by
 obtain ⟨e,ep,hl⟩:=loc hR hc h;have key:∀ n:Nat,∀ x,U8 x<=R->x<y->y-x<=(n:Rat)*e->Q3i f w L x y:=by
  intro n
  induction n with
  | zero =>
   intro x hx hxy h; exfalso; have:((0:Nat):Rat)*e=0:=by simp
   grind
  |
   succ n ih =>
   intro x hx hxy hn;rcases Fi (y-x) e with h1 | h1
   ·exact Q1t (hl x y hx hy hxy h1)
   ·have hm:U8 (x+e)<=R:=Qed hx hy (by clear hl ih; grind) (by clear hl ih; grind);have hn':(((n+1:Nat):Rat))=(n:Rat)+1:=by push_cast; rfl
    refine Qxz (Q1t (hl x (x+e) hx hm (by clear hl ih; grind) (by clear hl ih; grind))) (ih (x+e) hm (by clear hl ih; grind) ?_);rw [hn'] at hn;clear hl ih; grind
 obtain ⟨n,hn⟩:=O6 (z:=y-x) ep;exact key n x hx hxy hn
theorem Qpm (x y:Rat):∃ R:Rat,0<=R/\U8 x<=R/\U8 y<=R:=by
 refine ⟨U8 x+U8 y,?_,?_,?_⟩ <;> (have:=Hn x; have:=Hn y; grind)
theorem Rr (t:Rat):ev [1] t=1:=by simp only [ev]; grind
theorem El {f:List Rat} {L:List (List Rat)} (hc:Stm f L) {x y:Rat} (hxy:x<y):vv L y<=vv L x:=by
 obtain ⟨R,hR,hx,hy⟩:=Qpm x y;exact (Zkg hR hc (w:=f) (u:=[1]) (λt=>by rw [Rr]; grind) hx hy hxy).1
theorem Qct {f w u:List Rat} {L:List (List Rat)} (hc:Stm f L) (h:∀ t,ev f t=ev w t*ev u t) {x y:Rat} (hxy:x<y) (he:vv L x=vv L y):Sm w x y:=by
 obtain ⟨R,hR,hx,hy⟩:=Qpm x y;exact ((Zkg hR hc h hx hy hxy).2.1 he).2
theorem Qsb {f:List Rat} {L:List (List Rat)} (hc:Stm f L) {x y:Rat} (hxy:x<y) (he:vv L x=vv L y):Sm f x y :=
 Qct hc (w:=f) (u:=[1]) (λt=>by rw [Rr]; grind) hxy he
theorem Qsa {f:List Rat} {L:List (List Rat)} (hc:Stm f L) {x y:Rat} (hxy:x<y) (he:vv L x=vv L y+1):Sy f x≠0/\Sy f y=-Sy f x:=by
 obtain ⟨R,hR,hx,hy⟩:=Qpm x y;exact (Zkg hR hc (w:=f) (u:=[1]) (λt=>by rw [Rr]; grind) hx hy hxy).2.2 he
theorem Zcv {f:List Rat} {L:List (List Rat)} (hc:Stm f L) (R:Rat) (hR:0<=R):∃ e:Rat,0<e/\∀ x y,U8 x<=R->U8 y<=R->x<y->y-x<=e->vv L x<=vv L y+1:=by
 obtain ⟨e,ep,hl⟩:=loc hR hc (w:=f) (u:=[1]) (λt=>by rw [Rr]; grind);refine ⟨e,ep,λx y hx hy hxy he=>?_⟩;rcases hl x y hx hy hxy he with ⟨h,_⟩ | ⟨h,_⟩ <;> omega
theorem Qcf {p:List Rat} {x:Rat} (h:U5 (ev p x)≠0):∃ e:Rat,0<e/\∀ y,U8 (y-x)<=e->U5 (ev p y)=U5 (ev p x):=by
 have hd:=Bi (x:=ev p x) λh0=>h (Fv.2 h0)
 have hR:0<=U8 x+1:=by have:=Hn x; grind
 obtain ⟨e,e1,e2,e3⟩:=G5 (Me hR p) hd;refine ⟨e,e1,λy hy=>(S7 Qq (Pq (x:=x) (by grind) ?_ hR hy e3)).1⟩;have:=Tv (y-x) x;have e:y-x+x=y:=by grind
 rw [e] at this; grind
theorem Zio {R M:Rat} {p:List Rat} (hM:M=ddB R p) (hR:0<=R) {h:Rat} (hh:0<h):∀ (n:Nat) (x:Rat),U8 x<=R->U8 (x+(n:Rat)*h)<=R->(∀ t,x<=t->t<=x+(n:Rat)*h->0<=dv p t)->ev p x-(n:Rat)*(h*h*M)<=ev p (x+(n:Rat)*h)
 |
  0,x,_,_,_=>by
  have e1:x+((0:Nat):Rat)*h=x:=by rw [show ((0:Nat):Rat)=0 from rfl]; grind
  have e2:((0:Nat):Rat)*(h*h*M)=0:=by simp
  rw [e1,e2]; grind
 |
  n+1,x,hx,hy,hd=>by
  have hn':(((n+1:Nat):Rat))=(n:Rat)+1:=by push_cast; rfl
  rw [hn'] at hy hd ⊢;have hn0:(0:Rat)<=(n:Rat):=Xh;have hnh:=M4 hn0 (Qr hh);have e1:x+((n:Rat)+1)*h=(x+h)+(n:Rat)*h:=by grind
  rw [e1] at hy hd ⊢;have hxh:U8 (x+h)<=R:=Qed hx hy (by clear hd; grind) (by clear hd; grind);have ih:=Zio hM hR hh n (x+h) hxh hy λt h1 h2=>hd t (by clear hd; grind) h2
  have h0:=hd x Qq (by clear hd; grind);have h1:=Zid p (x+h) x;have h2:=Q8n hxh hx p;rw [<-hM,Py] at h2;have h3:=Zz h2.1 (M4 (Qr hh) (Qr hh));have h4:=M4 (Qr hh) h0;have e2:x+h-x=h:=by grind
  rw [e2] at h1;clear hd hx hy hxh;grind
theorem Znt {p:List Rat} {x y:Rat} (hxy:x<y) (hd:∀ t,x<=t->t<=y->0<=dv p t):ev p x<=ev p y:=by
 obtain ⟨R,hR,hx,hy⟩:=Qpm x y;rcases Fi (ev p x) (ev p y) with h | h
 ·exact h
 ·exfalso;obtain ⟨M,hM⟩:=nmE (ddB R p);have hM0:=Qkg hR p;rw [<-hM] at hM0;obtain ⟨e,ep,_,he⟩:=G5 (b:=(y-x)*M) (d:=ev p x-ev p y) (M4 (by grind) hM0) (by grind);obtain ⟨n,hn⟩:=O6 (z:=y-x) ep;have hn0:0<(n:Rat):=by
   rcases Fi (n:Rat) 0 with h' | h'
   ·have:=Zc h' (Qr ep); clear hd; grind
   ·exact h'
  have hh:0<(y-x) / n:=Lt (by grind) hn0;have e1:(n:Rat)*((y-x) / n)=y-x:=by rw [Uk]; exact G0 hn0
  have e2:x+(n:Rat)*((y-x) / n)=y:=by rw [e1]; grind
  have h1:=Zio hM hR hh n x hx (by rw [e2]; exact hy) (by rw [e2]; exact hd);rw [e2] at h1;have h2:(y-x) / n<=e:=by
   rcases Fi ((y-x) / n) e with h' | h'
   ·exact h'
   ·have:=Rat.mul_lt_mul_of_pos_left h' hn0; clear hd; grind
  have h3:(n:Rat)*((y-x) / n*((y-x) / n)*M)=((y-x) / n)*((y-x)*M):=by
   have:(n:Rat)*((y-x) / n*((y-x) / n)*M)=((n:Rat)*((y-x) / n))*(((y-x) / n)*M):=by grind
   rw [this,e1]; grind
  have h4:=Zc h2 (M4 (x:=y-x) (y:=M) (by grind) hM0);rw [h3] at h1;clear hd; grind
theorem Zgp {p:List Rat} {x y:Rat} (hxy:x<y) (hd:∀ t,x<=t->t<=y->0<dv p t):ev p x<ev p y:=by
 have hx:=hd x Qq (by grind);have hR:0<=U8 x+1:=by have:=Hn x; grind
 obtain ⟨e,e1,e2,e3⟩:=G5 (Qkg hR p) hx;obtain ⟨f,f1,f2,f3⟩:=min2 (a:=e) (b:=y-x) e1 (by grind);have hq:U8 (x+f)<=U8 x+1:=by
  have:=Tv x f; have:U8 f=f:=by unfold U8; split <;> grind
  clear hd; grind
 have h1:=Qlq (p:=p) (x:=x) (y:=x+f) (R:=U8 x+1) (e:=e) (d:=dv p x) (by clear hd; grind) hq hR (by grind) (by grind) (by unfold U8; split <;> clear hd <;> grind) e3;rw [H8.2 hx,H8] at h1;rcases Classical.em (x+f=y) with e | e
 ·rw [<-e]; clear hd; grind
 ·have:=Znt (p:=p) (x:=x+f) (y:=y) (by clear hd; grind) λt h1 h2=>Qr (hd t (by clear hd; grind) h2)
  clear hd; grind
structure Cut (c:Rat->Int):Prop where
 val:∀ q,c q=1\/c q=0\/c q=-1
 mono:∀ q r,q<r->c q≠1->c r=-1
 up:∀ q,c q=1->∃ r,q<r/\c r=1
 dn:∀ q,c q=-1->∃ r,r<q/\c r=-1
 lo:∃ q,c q=1
 hi:∃ q,c q=-1
theorem Cut.mono' {c:Rat->Int} (h:Cut c) {q r:Rat} (hqr:q<r) (hr:c r≠-1):c q=1:=by
 rcases Classical.em (c q=1) with e | e
 ·exact e
 ·exact absurd (h.mono q r hqr e) hr
theorem Cut.lt {c:Rat->Int} (h:Cut c) {q r:Rat} (hq:c q=1) (hr:c r=-1):q<r:=by
 rcases Fi r q with e | e
 ·rcases Classical.em (r=q) with e' | e'
  ·rw [e'] at hr; omega
  ·have:=h.mono r q (by grind) (by omega); omega
 ·exact e
theorem Cut.near {c:Rat->Int} (h:Cut c) {e:Rat} (he:0<e):∃ x y,c x=1/\c y=-1/\y-x<=e:=by
 obtain ⟨a,ha⟩:=h.lo;obtain ⟨b,hb⟩:=h.hi;have he2:0<e / 2:=Lt he (by decide);have h2:e / 2*2=e:=G0 (by decide);have key:∀ (n:Nat) (a:Rat),c a=1->b-a<=(n:Rat)*(e / 2)->∃ x y,c x=1/\c y=-1/\y-x<=e:=by
  intro n
  induction n with
  |
   zero =>
   intro a ha hn;have:=h.lt ha hb;rw [show ((0:Nat):Rat)=0 from rfl] at hn;exfalso; grind
  |
   succ n ih =>
   intro a ha hn;have hn':(((n+1:Nat):Rat))=(n:Rat)+1:=by push_cast; rfl
   rw [hn'] at hn;rcases h.val (a+e / 2) with h1 | h1 | h1
   ·exact ih _ h1 (by grind)
   ·exact ⟨a,a+e,ha,h.mono (a+e / 2) _ (by grind) (by omega),by grind⟩
   ·exact ⟨a,a+e / 2,ha,h1,by grind⟩
 obtain ⟨n,hn⟩:=O6 (z:=b-a) he2;exact key n a ha hn
def Au (p:List Rat) (c:Rat->Int):Prop:=∀ d:Rat,0<d->∃ x y,c x=1/\c y=-1/\∀ q,x<=q->q<=y->U8 (ev p q)<d
def NZ (p:List Rat) (c:Rat->Int) (s:Int):Prop:=∃ d:Rat,0<d/\∃ x y,c x=1/\c y=-1/\∀ q,x<=q->q<=y->U5 (ev p q)=s/\d<=U8 (ev p q)
def Nr (c:Rat->Int) (P:Rat->Prop):Prop:=∃ x y,c x=1/\c y=-1/\∀ q,x<=q->q<=y->P q
theorem Qx5 {c:Rat->Int} {P Q:Rat->Prop} (h1:Nr c P) (h2:Nr c Q):Nr c λq=>P q/\Q q:=by
 obtain ⟨x,y,a1,a2,a3⟩:=h1;obtain ⟨x',y',b1,b2,b3⟩:=h2;refine ⟨if x<=x' then x' else x,if y<=y' then y else y',by split <;> assumption,by split <;> assumption,λq q1 q2=>⟨a3 q ?_ ?_,b3 q ?_ ?_⟩⟩ <;> clear a3 b3 <;> grind
theorem Qi1 {c:Rat->Int} {P Q:Rat->Prop} (h1:Nr c P) (h:∀ q,P q->Q q):Nr c Q:=by
 obtain ⟨x,y,a1,a2,a3⟩:=h1;exact ⟨x,y,a1,a2,λq q1 q2=>h q (a3 q q1 q2)⟩
theorem Qul {c:Rat->Int} (hc:Cut c) {P:Rat->Prop} (h1:Nr c P):∃ q,P q/\c q=1:=by
 obtain ⟨x,y,a1,a2,a3⟩:=h1;exact ⟨x,a3 x Qq (Qr (hc.lt a1 a2)),a1⟩
theorem Zag {c:Rat->Int} (hc:Cut c) {e:Rat} (he:0<e) {P:Rat->Prop} (h1:Nr c P):∃ x y,c x=1/\c y=-1/\y-x<=e/\x<y/\∀ q,x<=q->q<=y->P q:=by
 obtain ⟨x,y,a1,a2,a3⟩:=h1;obtain ⟨x',y',b1,b2,b3⟩:=hc.near he;refine ⟨if x<=x' then x' else x,if y<=y' then y else y',by split <;> assumption,by split <;> assumption,by clear a3; grind,hc.lt (by split <;> assumption) (by split <;> assumption),λq q1 q2=>a3 q ?_ ?_⟩ <;> clear a3 <;> grind
theorem Zin {c:Rat->Int} (hc:Cut c):∃ R:Rat,0<=R/\Nr c λq=>U8 q<=R:=by
 obtain ⟨x,y,a1,a2,_⟩:=hc.near (e:=1) (by decide);obtain ⟨R,hR,h1,h2⟩:=Qpm x y;exact ⟨R,hR,x,y,a1,a2,λq q1 q2=>Qed h1 h2 q1 q2⟩
theorem Qbj {c:Rat->Int} (hc:Cut c) (p:List Rat):Au p c\/∃ s,s≠0/\NZ p c s:=by
 rcases Classical.em (Au p c) with h | h
 ·exact .inl h
 ·refine .inr ?_;obtain ⟨d,hd0⟩:=Classical.not_forall.1 h;obtain ⟨dp,hd⟩:=Classical.not_imp.1 hd0;have hd:∀ x y,c x=1->c y=-1->∃ q,x<=q/\q<=y/\d<=U8 (ev p q):=λx y hx hy=>by
   rcases Classical.em (∃ q,x<=q/\q<=y/\d<=U8 (ev p q)) with h' | h'
   ·exact h'
   ·refine absurd ⟨x,y,hx,hy,λq h1 h2=>?_⟩ hd;rcases Fi d (U8 (ev p q)) with h3 | h3
    ·exact absurd ⟨q,h1,h2,h3⟩ h'
    ·exact h3
  obtain ⟨R,hR,hn⟩:=Zin hc;have hd2:0<d / 2:=Lt dp (by decide);have h2:d / 2*2=d:=G0 (by decide);obtain ⟨e,e1,_,e3⟩:=G5 (Me hR p) hd2;obtain ⟨x,y,hx,hy,hxy,_,hq⟩:=Zag hc e1 hn;obtain ⟨r,r1,r2,r3⟩:=hd x y hx hy;have key:∀ q,x<=q->q<=y->U8 (ev p q-ev p r)<d / 2:=λq q1 q2 =>
   Pq (hq r r1 r2) (hq q q1 q2) hR (by rw [Py]; clear hq hd; constructor <;> grind) e3
  refine ⟨U5 (ev p r),λh0=>?_,d / 2,hd2,x,y,hx,hy,λq q1 q2=>⟨(S7 (d:=d) r3 ?_).1,?_⟩⟩
  ·rw [Fv.1 h0,H7] at r3; clear hq hd key; grind
  ·have:=key q q1 q2; clear hq hd key; grind
  ·have h3:=key q q1 q2;have h4:=Tv (ev p r-ev p q) (ev p q);rw [show ev p r-ev p q+ev p q=ev p r from by clear hq hd key; grind,Q2q] at h4;clear hq hd key; grind
theorem Zlx {c:Rat->Int} (hc:Cut c) {p:List Rat} {s:Int} (h1:Au p c) (h2:NZ p c s):False:=by
 obtain ⟨d,dp,h2⟩:=h2;obtain ⟨q,⟨a,b⟩,_⟩:=Qul hc (Qx5 (h1 d dp) h2);exact absurd b.2 (Jg.2 a)
theorem Pj {c:Rat->Int} (hc:Cut c) {f p q:List Rat} (hf:∀ t,ev f t=ev p t*ev q t) (h:Au p c):Au f c:=by
 intro d dp;obtain ⟨R,hR,hn⟩:=Zin hc;obtain ⟨e,e1,_,e3⟩:=G5 (Qan hR q) dp;refine Qi1 (Qx5 hn (h e e1)) λt ⟨h1,h2⟩=>?_
 rw [hf];have:=Gz (Qr h2) (Qhk h1 q);exact Jg.1 λh=>absurd (Zg h this) (Jg.2 e3)
theorem Qjg {c:Rat->Int} {f p q:List Rat} (hf:∀ t,ev f t=ev p t+ev q t) (h:Au p c) (h':Au q c):Au f c:=by
 intro d dp;have hd2:0<d / 2:=Lt dp (by decide);have h2:d / 2*2=d:=G0 (by decide);refine Qi1 (Qx5 (h _ hd2) (h' _ hd2)) λt ⟨h1,h2⟩=>?_
 rw [hf];have:=Tv (ev p t) (ev q t);grind
def RS (p:List Rat) (c:Rat->Int) (s:Int):Prop:=∃ y,c y=-1/\∀ q,c q=-1->q<=y->U5 (ev p q)=s
def LS (p:List Rat) (c:Rat->Int) (s:Int):Prop:=∃ x,c x=1/\∀ q,c q=1->x<=q->U5 (ev p q)=s
theorem Qo1 {c:Rat->Int} (hc:Cut c) {p:List Rat} {s:Int} (h:NZ p c s):RS p c s:=by
 obtain ⟨d,dp,x,y,a1,a2,a3⟩:=h;exact ⟨y,a2,λq h1 h2=>(a3 q (Qr (hc.lt a1 h1)) h2).1⟩
theorem Q1w {c:Rat->Int} (hc:Cut c) {p:List Rat} {s:Int} (h:NZ p c s):LS p c s:=by
 obtain ⟨d,dp,x,y,a1,a2,a3⟩:=h;exact ⟨x,a1,λq h1 h2=>(a3 q h2 (Qr (hc.lt h1 a2))).1⟩
theorem Q2z {c:Rat->Int} {p:List Rat} {s s':Int} (h:RS p c s) (h':RS p c s'):s=s':=by
 obtain ⟨y,a1,a2⟩:=h;obtain ⟨y',b1,b2⟩:=h';rcases Fi y y' with e | e
 ·rw [<-a2 y a1 Qq,<-b2 y a1 e]
 ·rw [<-a2 y' b1 (Qr e),<-b2 y' b1 Qq]
theorem Zir {c:Rat->Int} (hc:Cut c) {p:List Rat} (hv:Au p c) {y:Rat} (hy:c y=-1) (h:∀ q,c q=-1->q<=y->0<dv p q) (q:Rat) (hq:c q=-1) (hqy:q<=y):0<ev p q:=by
 rcases Fi (ev p q) 0 with h0 | h0
 ·exfalso;obtain ⟨r,r1,r2⟩:=hc.dn q hq;have hr:ev p r<ev p q:=Zgp r1 λt t1 t2=>h t (by
   rcases Classical.em (r=t) with e | e
   ·rw [<-e]; exact r2
   ·exact hc.mono r t (by clear h; grind) (by omega)) (Zg t2 hqy)
  obtain ⟨a,b,ha,hb,hab⟩:=hv (-ev p r) (by clear h; grind);obtain ⟨m,hm1,hm2,hm3⟩:∃ m,c m=-1/\m<=b/\m<=r:=by
   rcases Fi b r with e | e
   ·exact ⟨b,hb,Qq,e⟩
   ·exact ⟨r,r2,Qr e,Qq⟩
  have h1:=hab m (Qr (hc.lt ha hm1)) hm2;have h2:ev p m<=ev p r:=by
   rcases Classical.em (m=r) with e | e
   ·rw [e]; exact Qq
   ·exact Qr (Zgp (by clear h hab; grind) λt t1 t2=>h t (by
     rcases Classical.em (m=t) with e | e
     ·rw [<-e]; exact hm1
     ·exact hc.mono m t (by clear h hab; grind) (by omega)) (by clear h hab; grind))
  rw [Qrk] at h1;clear h hab; grind
 ·exact h0
theorem Qrr {c:Rat->Int} (hc:Cut c) {p:List Rat} {s:Int} (hv:Au p c) (h:RS (M6 p) c s) (hs:s≠0):RS p c s:=by
 obtain ⟨y,hy,h⟩:=h;have hsv:s=1\/s=-1:=by
  have:=h y hy Qq;rcases Fq (ev (M6 p) y) with ⟨e,_⟩ | ⟨e,_⟩ | ⟨e,_⟩ <;> omega
 rcases hsv with rfl | rfl
 ·refine ⟨y,hy,λq h1 h2=>H8.2 (Zir hc hv hy (λq h1 h2=>?_) q h1 h2)⟩;rw [<-Ta]; exact H8.1 (h q h1 h2)
 ·refine ⟨y,hy,λq h1 h2=>Sk.2 ?_⟩;have:=Zir hc (p:=Cx (-1) p) (y:=y) (λd dp=>Qi1 (hv d dp) λq hq=>by rw [Ga,show -1*ev p q=-ev p q by grind,D7]; exact hq) hy (λq h1 h2=>by
   rw [Qf6,<-Ta];have:=Sk.1 (h q h1 h2); grind) q h1 h2
  rw [Ga] at this; grind
theorem Zik {c:Rat->Int} (hc:Cut c) {p:List Rat} (hv:Au p c) {x:Rat} (hx:c x=1) (h:∀ q,c q=1->x<=q->0<dv p q) (q:Rat) (hq:c q=1) (hxq:x<=q):ev p q<0:=by
 rcases Fi 0 (ev p q) with h0 | h0
 ·exfalso;obtain ⟨r,r1,r2⟩:=hc.up q hq;have hr:ev p q<ev p r:=Zgp r1 λt t1 t2=>h t (by
   rcases Classical.em (t=r) with e | e
   ·rw [e]; exact r2
   ·exact hc.mono' (q:=t) (r:=r) (by clear h; grind) (by omega)) (Zg hxq t1)
  obtain ⟨a,b,ha,hb,hab⟩:=hv (ev p r) (by clear h; grind);obtain ⟨m,hm1,hm2,hm3⟩:∃ m,c m=1/\a<=m/\r<=m:=by
   rcases Fi a r with e | e
   ·exact ⟨r,r2,e,Qq⟩
   ·exact ⟨a,ha,Qq,Qr e⟩
  have h1:=hab m hm2 (Qr (hc.lt hm1 hb));have h2:ev p r<=ev p m:=by
   rcases Classical.em (r=m) with e | e
   ·rw [e]; exact Qq
   ·exact Qr (Zgp (by clear h hab; grind) λt t1 t2=>h t (by
     rcases Classical.em (t=m) with e | e
     ·rw [e]; exact hm1
     ·exact hc.mono' (q:=t) (r:=m) (by clear h hab; grind) (by omega)) (by clear h hab; grind))
  rw [Qrk] at h1;clear h hab; grind
 ·exact h0
theorem Q90 {c:Rat->Int} (hc:Cut c) {p:List Rat} {s:Int} (hv:Au p c) (h:LS (M6 p) c s) (hs:s≠0):LS p c (-s):=by
 obtain ⟨x,hx,h⟩:=h;have hsv:s=1\/s=-1:=by
  have:=h x hx Qq;rcases Fq (ev (M6 p) x) with ⟨e,_⟩ | ⟨e,_⟩ | ⟨e,_⟩ <;> omega
 rcases hsv with rfl | rfl
 ·refine ⟨x,hx,λq h1 h2=>Sk.2 (Zik hc hv hx (λq h1 h2=>?_) q h1 h2)⟩;rw [<-Ta]; exact H8.1 (h q h1 h2)
 ·refine ⟨x,hx,λq h1 h2=>H8.2 ?_⟩;have:=Zik hc (p:=Cx (-1) p) (x:=x) (λd dp=>Qi1 (hv d dp) λq hq=>by rw [Ga,show -1*ev p q=-ev p q by grind,D7]; exact hq) hx (λq h1 h2=>by
   rw [Qf6,<-Ta];have:=Sk.1 (h q h1 h2); grind) q h1 h2
  rw [Ga] at this; grind
theorem Zgw {c:Rat->Int} (hc:Cut c) {f g:List Rat} {l:List (List Rat)} (h:SCl f g l):Au f c->Au g c->False:=by
 induction h with
 |
  @base f g k hk hg =>
  intro _ hv;obtain ⟨q,hq,_⟩:=Qul hc (hv (U8 k) (Bi hk));rw [hg] at hq; grind
 |
  @step f g h l a b q ha hb he hl ih =>
  intro hf hg;refine ih hg ?_;have h1:Au (Gq q g) c:=Pj hc (p:=g) (q:=q) (λt=>by rw [U4]; grind) hg;have h2:Au (Cx (-a) f) c:=Pj hc (p:=f) (q:=[-a]) (λt=>by rw [Ga]; simp only [ev]; grind) hf;have h3:Au (Tw (Gq q g) (Cx (-a) f)) c:=Qjg (λt=>Gk t _ _) h1 h2;refine Pj hc (p:=Tw (Gq q g) (Cx (-a) f)) (q:=[1 / b]) (λt=>?_) h3;have:=he t;rw [Gk,U4,Ga];simp only [ev];have hbb:1 / b*b=1:=G0 hb;have:ev q t*ev g t+-a*ev f t=b*ev h t:=by rw [show -a*ev f t=-(a*ev f t) by grind,he t]; grind
  rw [this];have:b*ev h t*(1 / b+t*0)=ev h t*(1 / b*b):=by grind
  rw [this,hbb]; grind
theorem Qpj {c:Rat->Int} (hc:Cut c) {f g:List Rat} {k:Rat} (h:∀ t,ev g t=k*ev f t) (hv:Au f c):Au g c :=
 Pj hc (p:=f) (q:=[k]) (λt=>by rw [h]; simp only [ev]; grind) hv
theorem Zg7 {c:Rat->Int} (hc:Cut c) {f:List Rat} {L:List (List Rat)} (h:Stm f L) (hv:Au f c):∃ s,s≠0/\NZ (M6 f) c s:=by
 rcases Qbj hc (M6 f) with h1 | h1
 ·exfalso;rcases h with ⟨k,hk,hf,_⟩ | ⟨g,l,k,hk,hg,h,_⟩
  ·obtain ⟨q,hq,_⟩:=Qul hc (hv (U8 k) (Bi hk));rw [hf] at hq; grind
  ·exact Zgw hc h hv (Qpj hc (λt=>by rw [hg,Ta]) h1)
 ·exact h1
theorem Q03 {c:Rat->Int} (hc:Cut c) {f w u:List Rat} {L:List (List Rat)} (h:Stm f L) (hf:∀ t,ev f t=ev w t*ev u t) (hv:Au w c):∃ s,s≠0/\NZ (M6 w) c s:=by
 rcases Qbj hc (M6 w) with h1 | h1
 ·exfalso;obtain ⟨s,_,hs⟩:=Zg7 hc h (Pj hc hf hv);refine Zlx hc ?_ hs;have a1:Au (Gq (M6 w) u) c:=Pj hc (λt=>U4 t _ _) h1;have a2:Au (Gq w (M6 u)) c:=Pj hc (λt=>U4 t _ _) hv;refine Qjg (λt=>?_) a1 a2;rw [Ta,I9 hf,U4,U4,Ta,Ta]
 ·exact h1
theorem Q8k {c:Rat->Int} (hc:Cut c) {q:Rat} (h:c q=0) {x y:Rat} (hx:c x=1) (hy:c y=-1):x<=q/\q<=y:=by
 constructor
 ·rcases Fi x q with e | e
  ·exact e
  ·have:=hc.mono q x e (by omega); omega
 ·rcases Fi q y with e | e
  ·exact e
  ·have:=hc.mono y q e (by omega); omega
theorem Qg9 {c:Rat->Int} (hc:Cut c) {p:List Rat} {q:Rat} (h:c q=0) (hv:Au p c):ev p q=0:=by
 rcases Classical.em (ev p q=0) with e | e
 ·exact e
 ·obtain ⟨x,y,hx,hy,hq⟩:=hv _ (Bi e);obtain ⟨h1,h2⟩:=Q8k hc h hx hy;have:=hq q h1 h2; grind
theorem Qup {c:Rat->Int} (hc:Cut c) {p:List Rat} {q:Rat} {s:Int} (h:c q=0) (hv:NZ p c s):U5 (ev p q)=s:=by
 obtain ⟨d,dp,x,y,hx,hy,hq⟩:=hv;obtain ⟨h1,h2⟩:=Q8k hc h hx hy;exact (hq q h1 h2).1
theorem Qxb {c:Rat->Int} (hc:Cut c) {y z:Rat} (hy:c y=-1) (hz:c z=-1):∃ q,c q=-1/\q<y/\q<z:=by
 obtain ⟨a,a1,a2⟩:=hc.dn y hy;obtain ⟨b,b1,b2⟩:=hc.dn z hz;rcases Fi a b with e | e
 ·exact ⟨a,a2,a1,by grind⟩
 ·exact ⟨b,b2,by grind,b1⟩
theorem Qke {c:Rat->Int} (hc:Cut c) {y z:Rat} (hy:c y=1) (hz:c z=1):∃ q,c q=1/\y<q/\z<q:=by
 obtain ⟨a,a1,a2⟩:=hc.up y hy;obtain ⟨b,b1,b2⟩:=hc.up z hz;rcases Fi a b with e | e
 ·exact ⟨b,b2,by grind,b1⟩
 ·exact ⟨a,a2,a1,by grind⟩
theorem Zaf {f w u:List Rat} {L:List (List Rat)} (h:Stm f L) (hf:∀ t,ev f t=ev w t*ev u t) {x y:Rat} (hv:vv L x=vv L y) {c:Rat->Int} (hc:Cut c) (hx:c x=1) (hy:c y≠1):¬Au w c:=λhw=>by
 have hxy:x<y:=by
  rcases Fi y x with e | e
  ·rcases Classical.em (y=x) with e' | e'
   ·rw [e'] at hy; exact absurd hx hy
   ·have:=hc.mono y x (by grind) hy; omega
  ·exact e
 have hwv:=Qct h hf hxy hv;rcases hc.val y with e | e | e
 ·exact hy e
 ·have:=Qg9 hc e hw;have:=hwv.s;rw [Fv.2 (by assumption)] at this;exact hwv.n this.symm
 ·obtain ⟨s,hs,hd⟩:=Q03 hc h hf hw;obtain ⟨a,ha,hal⟩:=Q90 hc hw (Q1w hc hd) hs;obtain ⟨b,hb,hbr⟩:=Qrr hc hw (Qo1 hc hd) hs;obtain ⟨q,q1,q2,q3⟩:=Qke hc hx ha;obtain ⟨r,r1,r2,r3⟩:=Qxb hc hb e;have e1:=hal q q1 (Qr q3);have e2:=hbr r r1 (Qr r2);have hqr:=hc.lt q1 r1;have v1:vv L q<=vv L x:=El h q2;have v2:vv L y<=vv L r:=El h r3;have v3:vv L r<=vv L q:=El h hqr;have s1:=(Qct h hf q2 (by omega)).s;have s2:=(Qct h hf (x:=x) (y:=r) (by grind) (by omega)).s;omega
theorem Qr4 {f:List Rat} {L:List (List Rat)} (h:Stm f L) {x y:Rat} (hxy:x<y) (hv:vv L x≠vv L y) {d:Rat} (dp:0<d):∃ q,x<=q/\q<=y/\U8 (ev f q)<d:=by
 obtain ⟨R,hR,hx,hy⟩:=Qpm x y;obtain ⟨e1,e1p,hl⟩:=loc hR h (w:=f) (u:=[1]) (λt=>by rw [Rr]; grind);obtain ⟨e2,e2p,_,e2b⟩:=G5 (Me hR f) dp;obtain ⟨e,ep,h1,h2⟩:=min2 e1p e2p;have key:∀ n:Nat,∀ x,U8 x<=R->x<y->vv L x≠vv L y->y-x<=(n:Rat)*e->∃ q,x<=q/\q<=y/\U8 (ev f q)<d:=by
  intro n
  induction n with
  | zero=>intro x hx hxy _ hn; rw [show ((0:Nat):Rat)=0 from rfl] at hn; exfalso; clear hl; grind
  |
   succ n ih =>
   intro x hx hxy hv hn;have hstep:∀ z,U8 z<=R->x<z->z-x<=e->vv L x≠vv L z->U8 (ev f z)<d:=λz hz hxz hze hv=>by
    rcases hl x z hx hz hxz (Zg hze h1) with ⟨p,_⟩ | ⟨_,p1,p2,p3,p4⟩
    ·exact absurd p hv
    ·have hd:=Pq (p:=f) hx hz hR (e:=e2) (d:=d) (by rw [Py]; clear hl ih; constructor <;> grind) e2b;rw [<-p3] at p1 p4;clear hl ih p2 p3;rw [Qrk] at *;rcases Fq (ev f x) with ⟨a,a'⟩ | ⟨a,a'⟩ | ⟨a,a'⟩ <;> rcases Fq (ev f z) with ⟨b,b'⟩ | ⟨b,b'⟩ | ⟨b,b'⟩ <;> rw [a,b] at p4 <;> first | (exfalso; revert p4; decide) | skip
     all_goals first | (constructor <;> grind) | (exfalso; omega)
   rcases Fi (y-x) e with h3 | h3
   ·exact ⟨y,Qr hxy,Qq,hstep y hy hxy h3 hv⟩
   ·have hm:U8 (x+e)<=R:=Qed hx hy (by clear hl ih hstep; grind) (by clear hl ih hstep; grind);rcases Classical.em (vv L x=vv L (x+e)) with e0 | e0
    ·have hn':(((n+1:Nat):Rat))=(n:Rat)+1:=by push_cast; rfl
     rw [hn'] at hn;obtain ⟨q,q1,q2,q3⟩:=ih (x+e) hm (by clear hl ih hstep; grind) (by omega) (by clear hl ih hstep; grind);exact ⟨q,by clear hl ih hstep; grind,q2,q3⟩
    ·exact ⟨x+e,by clear hl ih hstep; grind,by clear hl ih hstep; grind,hstep (x+e) hm (by clear hl ih hstep; grind) (by clear hl ih hstep; grind) e0⟩
 obtain ⟨n,hn⟩:=O6 (z:=y-x) ep;exact key n x hx hxy hv hn
theorem Znb {p:List Rat} {x:Rat} (h:Sy p x≠0):∃ e:Rat,0<e/\∀ y,x<y->y-x<=e->U5 (ev p y)=Sy p x:=by
 by_cases h0:U5 (ev p x)=0
 ·have hx:=Fv.1 h0;rw [Qx1 h0] at h ⊢;have hR:0<=U8 x+1:=by have:=Hn x; grind
  obtain ⟨e,e1,e2,e3⟩:=G5 (Qkg hR p) (Bi (x:=dv p x) λh'=>h (Fv.2 h'));refine ⟨e,e1,λy h1 h2=>?_⟩;have hy:U8 y<=U8 x+1:=by
   have:=Tv x (y-x);have e:x+(y-x)=y:=by grind
   have e':U8 (y-x)=y-x:=by unfold U8; split <;> grind
   rw [e,e'] at this; grind
  have:=Qlq (p:=p) (by grind) hy hR h1 h2 Qq e3;rw [hx] at this;rw [<-this]; congr 1; grind
 ·rw [L9 h0] at h ⊢;obtain ⟨e,e1,e2⟩:=Qcf h;exact ⟨e,e1,λy h1 h2=>e2 y (by rw [Py]; constructor <;> grind)⟩
def cq (P:List Rat) (lo hi q:Rat):Int:=if q<=lo then 1 else if hi<q then -1 else if U5 (ev P q)=0 then 0 else if U5 (ev P q)=Sy P lo then 1 else -1
structure Vt (P:List Rat) (L:List (List Rat)) (lo hi:Rat):Prop where
 s:Stm P L
 l:lo<hi
 v:vv L lo=vv L hi+1
variable {P:List Rat} {L:List (List Rat)} {lo hi:Rat}
theorem Lr {q:Rat} (h:q<=lo):cq P lo hi q=1:=by unfold cq; rw [if_pos h]
theorem Qd1 {q:Rat} (h:lo<hi) (h':hi<q):cq P lo hi q=-1:=by unfold cq; rw [if_neg (by grind),if_pos h']
theorem Af {q:Rat} (h1:lo<q) (h2:q<=hi):cq P lo hi q=if U5 (ev P q)=0 then 0 else if U5 (ev P q)=Sy P lo then 1 else -1:=by
 unfold cq; rw [if_neg (by grind),if_neg (by grind)]
theorem Vt.two (V:Vt P L lo hi) {q:Rat} (h1:lo<q) (h2:q<=hi):vv L q=vv L lo/\cq P lo hi q=1/\U5 (ev P q)=Sy P lo\/vv L q=vv L hi/\cq P lo hi q≠1/\Sy P q=-Sy P lo/\Sy P lo≠0:=by
 have a:=El V.s h1;have b:vv L hi<=vv L q:=by
  rcases Classical.em (q=hi) with e | e
  ·rw [e]; exact Qm _
  ·exact El V.s (by grind)
 have hv:=V.v;rcases (show vv L q=vv L lo\/vv L q=vv L hi by omega) with e | e
 ·have hs:=Qsb V.s h1 e.symm;refine .inl ⟨e,?_,hs.s⟩;rw [Af h1 h2,hs.s,if_neg hs.n,if_pos rfl]
 ·obtain ⟨o1,o2⟩:=Qsa V.s h1 (by omega);refine .inr ⟨e,?_,o2,o1⟩;rw [Af h1 h2]
  split
  ·decide
  ·rename_i h0;rw [L9 h0] at o2;rw [if_neg (by omega)]; decide
theorem Vt.lowlo (V:Vt P L lo hi):Sy P lo≠0:=(Qsa V.s V.l V.v).1
theorem Vt.eq_lo (V:Vt P L lo hi) {q:Rat} (h1:lo<q) (h2:q<=hi) (h:cq P lo hi q=1):vv L q=vv L lo:=by
 rcases V.two h1 h2 with ⟨e,_⟩ | ⟨_,e,_⟩
 ·exact e
 ·exact absurd h e
theorem Vt.eq_hi (V:Vt P L lo hi) {q:Rat} (h1:lo<q) (h2:q<=hi) (h:cq P lo hi q≠1):vv L q=vv L hi:=by
 rcases V.two h1 h2 with ⟨_,e,_⟩ | ⟨e,_⟩
 ·exact absurd e h
 ·exact e
theorem Vt.hi1 (V:Vt P L lo hi):cq P lo hi hi≠1:=λh=>by have:=V.eq_lo V.l Qq h; have:=V.v; omega
theorem Vt.cut (V:Vt P L lo hi):Cut (cq P lo hi) where
 val q:=by unfold cq; split <;> (try split) <;> (try split) <;> (try split) <;> simp
 mono q r h h1:=by
  have hq:lo<q:=by
   rcases Fi q lo with e | e
   ·exact absurd (Lr e) h1
   ·exact e
  rcases Fi r hi with e | e
  ·have e1:=V.eq_hi hq (by grind) h1;rcases V.two (q:=r) (by grind) e with ⟨e2,_⟩ | ⟨e2,_,e3,e4⟩
   ·have:=El V.s h; have:=V.v; omega
   ·have hs:=Qsb V.s h (by omega);rcases V.two hq (by grind) with ⟨e5,_⟩ | ⟨_,_,e5,_⟩
    ·have:=V.v; omega
    ·rw [Af (by grind) e,hs.s,if_neg hs.n,e5,if_neg (by omega)]
  ·exact Qd1 V.l e
 up q h:=by
  rcases Fi q lo with e | e
  ·obtain ⟨d,dp,hd⟩:=Znb V.lowlo;obtain ⟨f,fp,f1,f2⟩:=min2 (a:=d) (b:=hi-lo) dp (by have:=V.l; grind);have h1:lo<lo+f:=by clear hd; grind
   have h2:lo+f<=hi:=by clear hd; grind
   have:=hd (lo+f) h1 (by clear hd; grind);exact ⟨lo+f,by clear hd; grind,by rw [Af h1 h2,this,if_neg V.lowlo,if_pos rfl]⟩
  ·have hh:q<=hi:=by
    rcases Fi q hi with e' | e'
    ·exact e'
    ·have:=Qd1 (P:=P) V.l e'; omega
   rcases V.two e hh with ⟨e1,_,e2⟩ | ⟨_,e1,_⟩
   ·have hn:q≠hi:=λh=>by rw [h] at e1; have:=V.v; omega
    obtain ⟨d,dp,hd⟩:=Qcf (p:=P) (x:=q) (by rw [e2]; exact V.lowlo);obtain ⟨f,fp,f1,f2⟩:=min2 (a:=d) (b:=hi-q) dp (by clear hd; grind);have:=hd (q+f) (by rw [Py]; clear hd; constructor <;> grind);exact ⟨q+f,by clear hd; grind,by rw [Af (by clear hd; grind) (by clear hd; grind),this,e2,if_neg V.lowlo,if_pos rfl]⟩
   ·exact absurd h e1
 dn q h:=by
  have hq:lo<q:=by
   rcases Fi q lo with e | e
   ·have:=Lr (P:=P) (hi:=hi) e; omega
   ·exact e
  rcases Fi q hi with e | e
  ·rw [Af hq e] at h
   split at h
   ·cases h
   rename_i h0
   split at h
   ·cases h
   rename_i h1;obtain ⟨d,dp,hd⟩:=Qcf h0;obtain ⟨f,fp,f1,f2⟩:=min2 (a:=d) (b:=(q-lo) / 2) dp (Lt (by clear hd; grind) (by decide));have h2:(q-lo) / 2*2=q-lo:=G0 (by decide);have:=hd (q-f) (by rw [Py]; clear hd; constructor <;> grind);exact ⟨q-f,by clear hd; grind,by rw [Af (by clear hd; grind) (by clear hd; grind),this,if_neg h0,if_neg h1]⟩
  ·have h2:(q-hi) / 2*2=q-hi:=G0 (by decide);exact ⟨q-(q-hi) / 2,by grind,Qd1 V.l (by grind)⟩
 lo:=⟨lo,Lr Qq⟩
 hi:=⟨hi+1,Qd1 V.l (by grind)⟩
theorem Vt.van (V:Vt P L lo hi):Au P (cq P lo hi):=by
 have hc:=V.cut;rcases Qbj hc P with h | ⟨s,hs,h⟩
 ·exact h
 ·exfalso;have e1:s=Sy P lo:=by
   obtain ⟨x,hx,hx1⟩:=Q1w hc h;obtain ⟨q,q1,q2,q3⟩:=Qke hc hx (Lr (P:=P) (hi:=hi) (Qq (a:=lo)));have hq:q<=hi:=by
    rcases Fi q hi with e | e
    ·exact e
    ·have:=Qd1 (P:=P) V.l e; omega
   rcases V.two q3 hq with ⟨_,_,e⟩ | ⟨_,e,_⟩
   ·rw [<-hx1 q q1 (Qr q2),e]
   ·exact absurd q1 e
  rcases hc.val hi with e | e | e
  ·exact V.hi1 e
  ·have h0:=Qup hc e h;rw [Af V.l Qq] at e
   split at e
   ·omega
   ·split at e <;> omega
  ·obtain ⟨y,hy,hy1⟩:=Qo1 hc h;obtain ⟨q,q1,q2,q3⟩:=Qxb hc hy e;have hq:lo<q:=hc.lt (Lr (P:=P) (hi:=hi) (Qq (a:=lo))) q1;have:=hy1 q q1 (Qr q2);rw [Af hq (Qr q3),this,if_neg hs,if_pos e1] at q1;cases q1
def Qxp (w:List Rat) (lo hi:Rat):Prop:=U5 (ev w hi)=0\/U5 (ev w hi)≠Sy w lo
theorem Vt.has (V:Vt P L lo hi) {w u:List Rat} (hf:∀ t,ev P t=ev w t*ev u t) {a b:Rat} (h1:lo<=a) (h2:a<b) (h3:b<=hi):Qxp w a b↔Au w (cq P lo hi)/\cq P lo hi a=1/\cq P lo hi b≠1:=by
 have hc:=V.cut;have smno:vv L a=vv L b->¬Qxp w a b:=λh hh=>by
  have:=Qct V.s hf h2 h;rcases hh with e | e
  ·rw [this.s] at e; exact this.n e
  ·exact e this.s
 by_cases ha:cq P lo hi a=1
 ·by_cases hb:cq P lo hi b=1
  ·have e1:=V.eq_lo (by grind) h3 hb;have e2:vv L a=vv L lo:=by
    rcases Classical.em (lo=a) with e | e
    ·rw [e]
    ·exact V.eq_lo (by grind) (by grind) ha
   exact ⟨λh=>absurd h (smno (by omega)),λh=>absurd hb h.2.2⟩
  ·have e1:=V.eq_hi (by grind) h3 hb;have e2:vv L a=vv L lo:=by
    rcases Classical.em (lo=a) with e | e
    ·rw [e]
    ·exact V.eq_lo (by grind) (by grind) ha
   have left:∀ s,LS w (cq P lo hi) s->s=Sy w a:=λs hs=>by
    obtain ⟨x,hx,hx1⟩:=hs;obtain ⟨q,q1,q2,q3⟩:=Qke hc hx ha;have hqb:q<b:=by
     rcases Fi b q with e | e
     ·rcases Classical.em (b=q) with e' | e'
      ·rw [e'] at hb; exact absurd q1 hb
      ·have:=hc.mono b q (by clear hx1 smno; grind) hb; omega
     ·exact e
    have:=V.eq_lo (q:=q) (by clear hx1 smno; grind) (by clear hx1 smno; grind) q1;rw [<-(Qct V.s hf q3 (by omega)).s,hx1 q q1 (Qr q2)]
   have right:∀ s,RS w (cq P lo hi) s->cq P lo hi b=-1->s=U5 (ev w b):=λs hs hb=>by
    obtain ⟨y,hy,hy1⟩:=hs;obtain ⟨q,q1,q2,q3⟩:=Qxb hc hy hb;have hqa:=hc.lt ha q1;have:=V.eq_hi (q:=q) (by clear hy1 smno; grind) (by clear hy1 smno; grind) (by omega);have hs:=Qct V.s hf q3 (by omega);have hl:=hy1 q q1 (Qr q2);have h0:U5 (ev w q)≠0:=by
     have hs2:=Qct V.s hf (x:=q) (y:=b) q3 (by omega);intro h0;obtain ⟨r,r1,r2⟩:=hc.dn q q1;have har:=hc.lt ha r2;have:=V.eq_hi (q:=r) (by clear hy1 smno; grind) (by clear hy1 smno; grind) (by omega);have hs3:=Qct V.s hf (x:=r) (y:=q) r1 (by omega);have hs4:=hs3.s;rw [h0] at hs4; exact hs3.n hs4.symm
    rw [hs.s,L9 h0,hl]
   refine ⟨λh=>⟨?_,ha,hb⟩,λ⟨hw,_,_⟩=>?_⟩
   ·rcases Qbj hc w with e | ⟨s,hs0,hs⟩
    ·exact e
    ·exfalso;have l1:=left s (Q1w hc hs);have r1:U5 (ev w b)=s:=by
      rcases hc.val b with e | e | e
      ·exact absurd e hb
      ·exact Qup hc e hs
      ·exact (right s (Qo1 hc hs) e).symm
     rcases h with h | h
     ·exact hs0 (by rw [<-r1]; exact h)
     ·exact h (by rw [r1,l1])
   ·rcases hc.val b with e | e | e
    ·exact absurd e hb
    ·exact .inl (Fv.2 (Qg9 hc e hw))
    ·obtain ⟨s,hs0,hs⟩:=Q03 hc V.s hf hw;have l1:=left _ (Q90 hc hw (Q1w hc hs) hs0);have r1:=right _ (Qrr hc hw (Qo1 hc hs) hs0) e;exact .inr (by rw [<-l1,<-r1]; omega)
 ·have hla:lo<a:=by
   rcases Classical.em (lo=a) with e | e
   ·rw [<-e] at ha; exact absurd (Lr Qq) ha
   ·grind
  have hb:cq P lo hi b≠1:=by have:=hc.mono a b h2 ha; omega
  have e1:=V.eq_hi hla (by grind) ha;have e2:=V.eq_hi (q:=b) (by grind) h3 hb;exact ⟨λh=>absurd h (smno (by omega)),λh=>absurd h.2.1 ha⟩
theorem Qtb {c c':Rat->Int} (hc:Cut c) (hc':Cut c') {q:Rat} (h:c q≠c' q):∃ r,(c r=-1/\c' r=1)\/(c r=1/\c' r=-1):=by
 rcases hc.val q with e | e | e <;> rcases hc'.val q with e' | e' | e'
 ·omega
 ·obtain ⟨r,r1,r2⟩:=hc.up q e;exact ⟨r,.inr ⟨r2,hc'.mono q r r1 (by omega)⟩⟩
 ·exact ⟨q,.inr ⟨e,e'⟩⟩
 ·obtain ⟨r,r1,r2⟩:=hc'.up q e';exact ⟨r,.inl ⟨hc.mono q r r1 (by omega),r2⟩⟩
 ·omega
 ·obtain ⟨r,r1,r2⟩:=hc'.dn q e';exact ⟨r,.inr ⟨hc.mono' r1 (by omega),r2⟩⟩
 ·exact ⟨q,.inl ⟨e,e'⟩⟩
 ·obtain ⟨r,r1,r2⟩:=hc.dn q e;exact ⟨r,.inl ⟨r2,hc'.mono' r1 (by omega)⟩⟩
 ·omega
theorem Vt.uniq (V:Vt P L lo hi) {c:Rat->Int} (hc:Cut c) (h1:c lo=1) (h2:c hi≠1) (hv:Au P c) (q:Rat):c q=cq P lo hi q:=by
 rcases Classical.em (c q=cq P lo hi q) with e | e
 ·exact e
 ·exfalso;obtain ⟨r,⟨r1,r2⟩ | ⟨r1,r2⟩⟩:=Qtb hc V.cut e
  ·have hl:=hc.lt h1 r1;have hh:r<=hi:=by
    rcases Fi r hi with e | e
    ·exact e
    ·have:=Qd1 (P:=P) V.l e; omega
   have:=V.eq_lo hl hh r2;exact Zaf V.s (w:=P) (u:=[1]) (λt=>by rw [Rr]; grind) (x:=lo) (y:=r) (by omega) hc h1 (by omega) hv
  ·have hl:lo<r:=by
    rcases Fi r lo with e | e
    ·have:=Lr (P:=P) (hi:=hi) e; omega
    ·exact e
   have hh:r<=hi:=by
    rcases Fi r hi with e | e
    ·exact e
    ·have:=hc.mono hi r e h2; omega
   have:=V.eq_hi hl hh (by omega);exact Zaf V.s (w:=P) (u:=[1]) (λt=>by rw [Rr]; grind) (x:=r) (y:=hi) (by omega) hc r1 h2 hv
theorem Vt.same (V:Vt P L lo hi) {P':List Rat} {L':List (List Rat)} {lo' hi':Rat} (V':Vt P' L' lo' hi') {g u u' U W:List Rat} {k:Rat} (hk:k≠0) (h1:∀ t,ev P t=ev g t*ev u t) (h2:∀ t,ev P' t=ev g t*ev u' t) (h3:∀ t,k*ev g t=ev U t*ev P t+ev W t*ev P' t) {a b:Rat} (ha1:lo<=a) (ha2:lo'<=a) (ha:a=lo\/a=lo') (hb1:b<=hi) (hb2:b<=hi') (hb:b=hi\/b=hi'):(a<b/\Qxp g a b)↔∀ q,cq P lo hi q=cq P' lo' hi' q:=by
 have hc:=V.cut;have hc':=V'.cut;constructor
 ·rintro ⟨hab,hg⟩
  obtain ⟨g1,g2,g3⟩:=(V.has h1 ha1 hab hb1).1 hg;obtain ⟨g4,g5,g6⟩:=(V'.has h2 ha2 hab hb2).1 hg;intro q;refine (V.uniq hc' (by
   rcases Classical.em (lo=a) with e | e
   ·rw [e]; exact g5
   ·exact hc'.mono' (q:=lo) (r:=a) (by grind) (by omega)) (λh=>?_) (Pj hc' h1 g4) q).symm
  rcases Classical.em (b=hi) with e | e
  ·rw [<-e] at h; exact g6 h
  ·have:=hc'.mono b hi (by grind) g6; omega
 ·intro h;have hcc:cq P' lo' hi'=cq P lo hi:=funext λq=>(h q).symm
  have e1:cq P lo hi a=1:=by
   rcases ha with rfl | rfl
   ·exact Lr Qq
   ·rw [h]; exact Lr Qq
  have e2:cq P lo hi b≠1:=by
   rcases hb with rfl | rfl
   ·exact V.hi1
   ·rw [h]; exact V'.hi1
  have hab:a<b:=by
   rcases Fi b a with e | e
   ·rcases Classical.em (b=a) with e' | e'
    ·rw [e'] at e2; exact absurd e1 e2
    ·have:=hc.mono b a (by grind) e2; omega
   ·exact e
  have v1:=V.van;have v2:=V'.van;rw [hcc] at v2;have hg:Au g (cq P lo hi):=by
   have a1:Au (Gq U P) (cq P lo hi):=Pj hc (p:=P) (q:=U) (λt=>by rw [U4]; grind) v1;have a2:Au (Gq W P') (cq P lo hi):=Pj hc (p:=P') (q:=W) (λt=>by rw [U4]; grind) v2;have a3:=Qjg (λt=>Gk t _ _) a1 a2;refine Qpj hc (k:=1 / k) (λt=>?_) a3;rw [Gk,U4,U4,<-h3];have:1 / k*(k*ev g t)=1 / k*k*ev g t:=by grind
   rw [this,show 1 / k*k=1 from Zk hk]; grind
  exact ⟨hab,(V.has h1 ha1 hab hb1).2 ⟨hg,e1,e2⟩⟩
end Orq
namespace Orq
theorem Zas:∀ (M:Nat) (f:Nat->Nat),(∀ i,i<=M->f i<M)->∃ i j,i<j/\j<=M/\f i=f j
 | 0,f,h=>absurd (h 0 (Qm _)) (Up _)
 |
  M+1,f,h=>by
  rcases Classical.em (∃ i,i<=M/\f i=f (M+1)) with ⟨i,h1,h2⟩ | hn
  ·exact ⟨i,M+1,by omega,Qm _,h2⟩
  ·have hne:∀ i,i<=M->f i≠f (M+1):=λi hi e=>hn ⟨i,hi,e⟩
   obtain ⟨i,j,h1,h2,h3⟩:=Zas M (λi=>if f i=M then f (M+1) else f i) λi hi=>by
    have a1:=h i (by omega);have a2:=h (M+1) (Qm _);have a3:=hne i hi;show (if f i=M then f (M+1) else f i)<M
    split <;> omega
   refine ⟨i,j,h1,by omega,?_⟩;have a1:=hne i (by omega);have a2:=hne j h2
   split at h3 <;> split at h3 <;> omega
def dg (B k i:Nat):Nat:=k / B^i % B
theorem Q01 (B k i:Nat):dg B k (i+1)=dg B (k / B) i:=by unfold dg; rw [Nat.pow_succ,Nat.mul_comm,Nat.div_div_eq_div_mul]
theorem Q8o {B:Nat}:∀ (N:Nat) {k k':Nat},k<B^N->k'<B^N->(∀ i,i<N->dg B k i=dg B k' i)->k=k'
 | 0,k,k',h,h',_=>by rw [Vg] at h h'; omega
 |
  N+1,k,k',h,h',he=>by
  have h0:=he 0 (by omega);unfold dg at h0;rw [Vg,Nat.div_one,Nat.div_one] at h0;have hB:0<B:=by
   rcases Qz B with e | e
   ·rw [e,Zo,Yx] at h; omega
   ·exact e
  have h1:=Q8o N (k:=k / B) (k':=k' / B) (X3 (by rw [Zj,<-Zo]; exact h)) (X3 (by rw [Zj,<-Zo]; exact h')) λi hi=>by
   rw [<-Q01,<-Q01]; exact he (i+1) (by omega)
  rw [<-Um k B,<-Um k' B,h0,h1]
def cd (B:Nat):Nat->(Nat->Nat)->Nat
 | 0,_=>0
 | E+1,x=>x 0+B*cd B E λe=>x (e+1)
theorem Zh7 {B:Nat}:∀ (E:Nat) {x:Nat->Nat},(∀ e,e<E->x e<B)->cd B E x<B^E
 | 0,_,_=>by simp [cd]
 |
  E+1,x,h=>by
  have h1:=h 0 (by omega);have h2:=Zh7 E (x:=λe=>x (e+1)) λe he=>h (e+1) (by omega)
  simp only [cd];have h3:B*cd B E (λe=>x (e+1))+B<=B*B^E:=by
   rw [<-Nat.mul_succ]; exact Zs _ h2
  rw [Zo,Zj (B^E)]; omega
theorem Q8b {B:Nat}:∀ (E:Nat) {x y:Nat->Nat},(∀ e,e<E->x e<B)->(∀ e,e<E->y e<B)->cd B E x=cd B E y->∀ e,e<E->x e=y e
 | 0,_,_,_,_,_,e,he=>by omega
 |
  E+1,x,y,hx,hy,h,e,he=>by
  have h1:=hx 0 (by omega);have h2:=hy 0 (by omega);simp only [cd] at h;have e0:x 0=y 0:=by
   have:=congrArg (· % B) h;simp only [Kn] at this;rwa [Xy h1,Xy h2] at this
  have e1:cd B E (λe=>x (e+1))=cd B E (λe=>y (e+1)):=Nat.eq_of_mul_eq_mul_left (by omega:0<B) (by omega);cases e with
  | zero=>exact e0
  | succ e=>exact Q8b E (λe he=>hx (e+1) (by omega)) (λe he=>hy (e+1) (by omega)) e1 e (by omega)
def sm:Nat->(Nat->Int)->Int
 | 0,_=>0
 | n+1,f=>sm n f+f n
theorem Zcb (f g:Nat->Int):∀ n,sm n (λi=>f i-g i)=sm n f-sm n g
 | 0=>rfl
 | n+1=>by simp only [sm,Zcb f g n]; omega
theorem Dd {f g:Nat->Int}:∀ n,(∀ i,i<n->f i=g i)->sm n f=sm n g
 | 0,_=>rfl
 | n+1,h=>by simp only [sm,Dd n (λi hi=>h i (by omega)),h n (by omega)]
theorem Zca {f:Nat->Int} {b:Nat}:∀ n,(∀ i,i<n->(f i).natAbs<=b)->(sm n f).natAbs<=n*b
 | 0,_=>by simp [sm]
 |
  n+1,h=>by
  have h1:=Zca n λi hi=>h i (by omega)
  have h2:=h n (by omega);simp only [sm];rw [Z7]; omega
theorem Qb7 {f:Nat->Int}:∀ n,(∀ i,i<n->f i=0)->sm n f=0
 | 0,_=>rfl
 | n+1,h=>by simp only [sm,Qb7 n (λi hi=>h i (by omega)),h n (by omega)]; rfl
theorem Qy4 (f:Nat->Int) (m:Nat):∀ n,sm (m+n) f=sm m f+sm n λi=>f (m+i)
 | 0=>by simp [sm]
 | n+1=>by rw [<-Ym]; simp only [sm,Qy4 f m n]; omega
theorem Qy5 (f:Nat->Int) (J:Nat):∀ b,sm (b*J) f=sm b λi=>sm J λj=>f (i*J+j)
 | 0=>by simp [sm]
 | b+1=>by rw [Z7,Qy4,Qy5 f J b]; rfl
theorem Qmh {f:Nat->Int} {k:Nat}:∀ n,k<n->(∀ i,i<n->i≠k->f i=0)->sm n f=f k
 | 0,h,_=>by omega
 |
  n+1,h,h1=>by
  simp only [sm];rcases Vo (Nat.le_of_lt_succ h) with e | e
  ·rw [Qmh n e λi hi=>h1 i (by omega),h1 n (by omega) (by omega)]; omega
  ·subst e; rw [Qb7 k λi hi=>h1 i (by omega) (by omega)]; omega
theorem Zle {M:Nat->Nat->Int} {h N E H:Nat} (hM:∀ e i,(M e i).natAbs<=h) (hc:(2*(N*(h*H))+1)^E<(H+1)^N) :
 ∃ v:Nat->Int,(∀ i,(v i).natAbs<=H)/\(∃ i,i<N/\v i≠0)/\∀ e,e<E->sm N (λi=>M e i*v i)=0:=by
 obtain ⟨T,hT⟩:=nmE (N*(h*H));rw [<-hT] at hc;have hv:∀ k i,dg (H+1) k i<=H:=λk i=>Nat.le_of_lt_succ (Z4 _ (by omega))
 have hs:∀ k e,(sm N λi=>M e i*(dg (H+1) k i:Int)).natAbs<=T:=λk e=>by
  rw [hT];refine Zca N λi _=>?_
  rw [Jt,Z9];exact Zh (hM e i) (hv k i)
 have him:∀ k e,((sm N λi=>M e i*(dg (H+1) k i:Int))+T).toNat<2*T+1:=λk e=>by have:=hs k e; omega
 obtain ⟨i,j,h1,h2,h3⟩:=Zas ((2*T+1)^E) (λk=>cd (2*T+1) E λe=>((sm N λi=>M e i*(dg (H+1) k i:Int))+T).toNat) λk _=>Zh7 E λe _=>him k e
 have h4:=Q8b E (λe _=>him i e) (λe _=>him j e) h3;refine ⟨λn=>(dg (H+1) i n:Int)-dg (H+1) j n,λn=>?_,?_,λe he=>?_⟩
 ·have a1:=hv i n;have a2:=hv j n;show ((dg (H+1) i n:Int)-dg (H+1) j n).natAbs<=H;omega
 ·rcases Classical.em (∃ n,n<N/\(dg (H+1) i n:Int)-dg (H+1) j n≠0) with e | e
  ·exact e
  ·exfalso;have:i=j:=Q8o (B:=H+1) N (by omega) (by omega) λn hn=>by
    rcases Classical.em (dg (H+1) i n=dg (H+1) j n) with e' | e'
    ·exact e'
    ·exact absurd ⟨n,hn,by omega⟩ e
   omega
 ·have a1:=h4 e he;have a2:=hs i e;have a3:=hs j e;have:(sm N λn=>M e n*(dg (H+1) i n:Int))=sm N λn=>M e n*(dg (H+1) j n:Int):=by omega
  have e1:=Zcb (λn=>M e n*(dg (H+1) i n:Int)) (λn=>M e n*(dg (H+1) j n:Int)) N;rw [this] at e1;rw [Dd N (g:=λn=>M e n*(dg (H+1) i n:Int)-M e n*(dg (H+1) j n:Int)) λn _=>Int.mul_sub _ _ _,e1]; omega
def Uy:List Int->Rat->Rat
 | [],_=>0
 | a::p,t=>(a:Rat)+t*Uy p t
def sq:Nat->(Nat->Rat)->Rat
 | 0,_=>0
 | n+1,f=>sq n f+f n
theorem S0 {f g:Nat->Rat}:∀ n,(∀ i,i<n->f i=g i)->sq n f=sq n g
 | 0,_=>rfl
 | n+1,h=>by simp only [sq,S0 n (λi hi=>h i (by omega)),h n (by omega)]
theorem Qy9 (f g:Nat->Rat):∀ n,sq n (λi=>f i+g i)=sq n f+sq n g
 | 0=>by simp only [sq]; grind
 | n+1=>by simp only [sq,Qy9 f g n]; grind
theorem Qbg (c:Rat) (f:Nat->Rat):∀ n,sq n (λi=>c*f i)=c*sq n f
 | 0=>by simp only [sq]; grind
 | n+1=>by simp only [sq,Qbg c f n]; grind
theorem Bm {f:Nat->Rat}:∀ n,(∀ i,i<n->f i=0)->sq n f=0
 | 0,_=>rfl
 | n+1,h=>by simp only [sq,Bm n (λi hi=>h i (by omega)),h n (by omega)]; grind
theorem Is (f:Nat->Rat):∀ n,sq (n+1) f=f 0+sq n λi=>f (i+1)
 | 0=>by simp only [sq]; grind
 | n+1=>by rw [sq,Is f n]; simp only [sq]; grind
theorem Ziu {f:Nat->Rat} {b:Rat}:∀ n,(∀ i,i<n->U8 (f i)<=b)->U8 (sq n f)<=(n:Rat)*b
 | 0,_=>by rw [show ((0:Nat):Rat)=0 from rfl]; simp only [sq,H7]; grind
 |
  n+1,h=>by
  have h1:=Ziu n λi hi=>h i (by omega)
  have h2:=h n (by omega);have h3:=Tv (sq n f) (f n);have hn':(((n+1:Nat):Rat))=(n:Rat)+1:=by push_cast; rfl
  rw [hn']; simp only [sq]; clear h; grind
def gc:List Int->Nat->Nat->Int
 | [],_,_=>0
 | c::B,k,j=>(if k=0/\j=0 then c else 0)+(if k=0 then 0 else gc B (k-1) j)-(if j=0 then 0 else gc B k (j-1))
def gB:List Int->Nat
 | []=>0
 | c::B=>max c.natAbs (2*gB B)
theorem Qiu:∀ (B:List Int) (k j:Nat),B.length<=k+j->gc B k j=0
 | [],_,_,_=>rfl
 |
  c::B,k,j,h=>by
  simp only [Q8] at h;simp only [gc];rw [if_neg (by omega)];have e1:(if k=0 then 0 else gc B (k-1) j)=0:=by
   split
   ·rfl
   ·exact Qiu B _ _ (by omega)
  have e2:(if j=0 then 0 else gc B k (j-1))=0:=by
   split
   ·rfl
   ·exact Qiu B _ _ (by omega)
  rw [e1,e2]; rfl
theorem Q9c:∀ (B:List Int) (k j:Nat),(gc B k j).natAbs<=gB B
 | [],_,_=>Qh _
 |
  c::B,k,j=>by
  have h1:=Q9c B (k-1) j;have h2:=Q9c B k (j-1);simp only [gc,gB];by_cases hk:k=0 <;> by_cases hj:j=0 <;> simp only [hk,hj,true_and,and_true,false_and,and_false,if_true,if_false] <;> (try subst hk) <;> (try subst hj) <;> omega
theorem Q9d:∀ (B:List Int) (b:Nat),B.length=b+1->(gc B 0 b).natAbs=(B.getD b 0).natAbs
 | [],_,h=>by simp at h
 | [c],0,_=>by simp [gc]
 | c::d::B,0,h=>by simp at h
 |
  c::B,b+1,h=>by
  have ih:=Q9d B b (by simpa using h);simp only [gc];simp only [Jp,Q4];rw [if_pos trivial,if_neg (Nat.succ_ne_zero b),<-ih]; omega
def E2 (F:Nat->Nat->Int) (K J:Nat) (x y:Rat):Rat:=sq K λk=>sq J λj=>(F k j:Rat)*(y^k*x^j)
theorem Qxf (F G:Nat->Nat->Int) (K J:Nat) (x y:Rat):E2 (λk j=>F k j+G k j) K J x y=E2 F K J x y+E2 G K J x y:=by
 unfold E2;rw [<-Qy9];refine S0 K λk _=>?_
 rw [<-Qy9];exact S0 J λj _=>by push_cast; grind
theorem Q8w (c:Int) (F:Nat->Nat->Int) (K J:Nat) (x y:Rat):E2 (λk j=>F k j*c) K J x y=(c:Rat)*E2 F K J x y:=by
 unfold E2;rw [<-Qbg];refine S0 K λk _=>?_
 rw [<-Qbg];exact S0 J λj _=>by push_cast; grind
theorem Q8x (φ:Nat->Nat->Nat->Int) (v:Nat->Int) (K J:Nat) (x y:Rat):∀ N,E2 (λk j=>sm N λn=>φ n k j*v n) K J x y=sq N λn=>(v n:Rat)*E2 (φ n) K J x y
 |
  0=>by
  simp only [sq,sm];unfold E2;refine Bm K λk _=>Bm J λj _=>?_
  rw [show ((0:Int):Rat)=0 from rfl]; grind
 |
  N+1=>by
  simp only [sq];rw [<-Q8x φ v K J x y N,<-Q8w,<-Qxf];rfl
theorem Qe0 (t:Rat) (i:Nat):∀ k,t^(i+k)=t^i*t^k
 | 0=>by rw [Xn,Xc]; grind
 | k+1=>by rw [<-Ym,Z8,Z8,Qe0 t i k]; grind
theorem Qmj (f:Nat->Rat):∀ (i n:Nat),sq (i+n) (λk=>if i<=k then f (k-i) else 0)=sq n f
 | i,0=>Bm _ λk hk=>by rw [if_neg (by omega)]
 |
  i,n+1=>by
  rw [<-Ym]; simp only [sq];rw [Qmj f i n,if_pos (by omega),Jc]
def shF (i j':Nat) (F:Nat->Nat->Int) (k j:Nat):Int:=if i<=k then (if j'<=j then F (k-i) (j-j') else 0) else 0
theorem Qkp (F:Nat->Nat->Int) (i j' K J:Nat) (x y:Rat):E2 (shF i j' F) (i+K) (j'+J) x y=y^i*x^j'*E2 F K J x y:=by
 unfold E2;rw [<-Qbg,<-Qmj _ i K];refine S0 _ λk _=>?_
 by_cases hk:i<=k
 ·rw [if_pos hk,<-Qbg,<-Qmj _ j' J];refine S0 _ λj _=>?_
  unfold shF;rw [if_pos hk];by_cases hj:j'<=j
  ·rw [if_pos hj,if_pos hj];have e1:y^k=y^i*y^(k-i):=by rw [<-Qe0]; congr 1; omega
   have e2:x^j=x^j'*x^(j-j'):=by rw [<-Qe0]; congr 1; omega
   rw [e1,e2]; grind
  ·rw [if_neg hj,if_neg hj,show ((0:Int):Rat)=0 from rfl]; grind
 ·rw [if_neg hk];refine Bm _ λj _=>?_
  unfold shF;rw [if_neg hk,show ((0:Int):Rat)=0 from rfl]; grind
def fA (A:List Int) (k j:Nat):Int:=if j=0 then A.getD k 0 else 0
theorem Zar (y:Rat):∀ (A:List Int) (K:Nat),A.length<=K->sq K (λk=>((A.getD k 0:Int):Rat)*y^k)=Uy A y
 | [],K,_=>by rw [Bm]; rfl; intro i _; simp
 | a::A,0,h=>by simp at h
 |
  a::A,K+1,h=>by
  have ih:=Zar y A K (by simpa using h);rw [Is];simp only [Uy,Zr,Q4,Xc];rw [<-ih,<-Qbg];have:(sq K λi=>((A.getD i 0:Int):Rat)*y^(i+1))=sq K λi=>y*(((A.getD i 0:Int):Rat)*y^i):=S0 K λi _=>by rw [Z8]; grind
  rw [this]; grind
theorem Zm6 (A:List Int) (K J:Nat) (x y:Rat) (h:A.length<=K):E2 (fA A) K (J+1) x y=Uy A y:=by
 rw [<-Zar y A K h];refine S0 K λk _=>?_
 rw [Is,Bm]
 ·simp only [fA,if_true,Xc]; grind
 ·intro j _;simp only [fA];rw [if_neg (by omega),show ((0:Int):Rat)=0 from rfl]; grind
theorem Zj4 (x y:Rat):∀ (B:List Int) (K J:Nat),B.length<=K->B.length<=J->E2 (gc B) K J x y=Uy B (y-x)
 |
  [],K,J,_,_=>by
  unfold E2;simp only [gc,Uy];exact Bm K λk _=>Bm J λj _=>by rw [show ((0:Int):Rat)=0 from rfl]; grind
 | c::B,0,J,h,_=>by simp at h
 | c::B,K+1,0,_,h=>by simp at h
 |
  c::B,K+1,J+1,h1,h2=>by
  have i1:=Zj4 x y B K (J+1) (by simpa using h1) (by simp at h2; omega);have i2:=Zj4 x y B (K+1) J (by simp at h1; omega) (by simpa using h2);have s1:=Qkp (gc B) 1 0 K (J+1) x y;have s2:=Qkp (gc B) 0 1 (K+1) J x y;rw [Zu,X8 1 K] at s1;rw [Zu,X8 1 J] at s2;rw [i1] at s1;rw [i2] at s2;have e0:E2 (fA [c]) (K+1) (J+1) x y=(c:Rat):=by rw [Zm6 [c] (K+1) J x y (by simp)]; simp only [Uy]; grind
  have e1:gc (c::B)=λk j=>(fA [c] k j+shF 1 0 (gc B) k j)+shF 0 1 (gc B) k j*(-1):=by
   funext k j;simp only [gc,fA,shF];by_cases hk:k=0 <;> by_cases hj:j=0
   ·subst hk; subst hj; simp
   ·subst hk; simp [hj,show 1<=j by omega]
    try omega
   ·subst hj;obtain ⟨m,rfl⟩:∃ m,k=m+1:=⟨k-1,by omega⟩;simp
   ·obtain ⟨m,rfl⟩:∃ m,k=m+1:=⟨k-1,by omega⟩;obtain ⟨i,rfl⟩:∃ i,j=i+1:=⟨j-1,by omega⟩;simp; omega
  rw [e1,Qxf (λk j=>fA [c] k j+shF 1 0 (gc B) k j) (λk j=>shF 0 1 (gc B) k j*(-1)),Qxf (fA [c]) (shF 1 0 (gc B)),Q8w,e0,s1,s2];simp only [Uy,Xc,show y^1=y by rw [Z8,Xc]; grind,show x^1=x by rw [Z8,Xc]; grind];rw [show (((-1:Int)):Rat)=-1 from rfl];grind
def phi (A B:List Int) (b J J' n k j:Nat):Int:=if n<b*J then shF (n / J) (n % J) (fA A) k j else shF ((n-b*J) / J') ((n-b*J) % J') (gc B) k j
theorem Zb5 {F:Nat->Nat->Int} {h:Nat} (hF:∀ k j,(F k j).natAbs<=h) (i j' k j:Nat):(shF i j' F k j).natAbs<=h:=by
 unfold shF; split
 ·split
  ·exact hF _ _
  ·exact Qh _
 ·exact Qh _
theorem Zij {i b J j:Nat} (hi:i<b) (hj:j<J):i*J+j<b*J:=by
 have:(i+1)*J<=b*J:=Q0 J hi;rw [Z7] at this; omega
theorem Qgh {i J j:Nat} (hj:j<J):(i*J+j) / J=i/\(i*J+j) % J=j:=by
 rw [Zj,Un (by omega),Uo,Ka hj,Xy hj]; exact ⟨by omega,rfl⟩
theorem Qpd (A B:List Int) (a b J J':Nat) (v:Nat->Int) (k j:Nat):sm (b*J+a*J') (λn=>phi A B b J J' n k j*v n) =
 (sm b λi=>sm J λj1=>shF i j1 (fA A) k j*v (i*J+j1))+sm a λi=>sm J' λj1=>shF i j1 (gc B) k j*v (b*J+(i*J'+j1)):=by
 rw [Qy4,Qy5,Qy5];congr 1
 ·refine Dd b λi hi=>Dd J λj1 hj=>?_
  unfold phi;rw [if_pos (Zij hi hj),(Qgh hj).1,(Qgh hj).2]
 ·refine Dd a λi hi=>Dd J' λj1 hj=>?_
  unfold phi;rw [if_neg (by omega),Jc,(Qgh hj).1,(Qgh hj).2]
theorem Zm0 (A:List Int) (v:Nat->Int) {i J k j:Nat} (hj:j<J):(sm J λj1=>shF i j1 (fA A) k j*v (i*J+j1))=if i<=k then A.getD (k-i) 0*v (i*J+j) else 0:=by
 rw [Qmh (k:=j) J hj λj1 _ hne=>?_]
 ·unfold shF fA;by_cases h:i<=k
  ·rw [if_pos h,if_pos h,if_pos (Qm _),if_pos (Jq _)]
  ·rw [if_neg h,if_neg h,Yf]
 ·unfold shF fA;by_cases h:i<=k
  ·rw [if_pos h];by_cases h':j1<=j
   ·rw [if_pos h',if_neg (by omega),Yf]
   ·rw [if_neg h',Yf]
  ·rw [if_neg h,Yf]
section
variable {A B:List Int} {a b J J':Nat} (hA:A.length=a+1) (hB:B.length=b+1) (lA:A.getD a 0≠0) (lB:B.getD b 0≠0) (hJ:J=J'+b) {v:Nat->Int} (hW:∀ k j,k<a+b->j<J->sm (b*J+a*J') (λn=>phi A B b J J' n k j*v n)=0)
include hA lA hW in
theorem Zh9 {jj:Nat} (hj:jj<J) (hV:∀ k,a<=k->k<a+b->(sm a λi=>sm J' λj1=>shF i j1 (gc B) k jj*v (b*J+(i*J'+j1)))=0):∀ d i,i<b->b-i<=d->v (i*J+jj)=0:=by
 intro d
 induction d with
 | zero=>intro i hi hd; omega
 |
  succ d ih =>
  intro i hi hd;have h1:=hW (i+a) jj (by omega) hj;rw [Qpd,hV (i+a) (by omega) (by omega)] at h1;rw [Dd b (λi' hi'=>Zm0 A v hj)] at h1;rw [Qmh (k:=i) b hi λi' hi' hne=>?_] at h1
  ·rw [if_pos (by omega),Jc,Int.add_zero] at h1;rcases Yy.1 h1 with h2 | h2
   ·exact absurd h2 lA
   ·exact h2
  ·rcases Za i i' with h | h
   ·rw [ih i' hi' (by omega)]; simp
   ·rw [if_pos (by omega),Qg,Qt (by omega)]; simp
include hA hB lA lB hJ hW in
theorem Zm4:∀ d js,js<J'->J'-js<=d->∀ i,i<a->v (b*J+(i*J'+js))=0:=by
 intro d
 induction d with
 | zero=>intro js hi hd; omega
 |
  succ d ih =>
  intro js hjs hd i hi;have hin:∀ i' k,i'<a->(sm J' λj1=>shF i' j1 (gc B) k (js+b)*v (b*J+(i'*J'+j1)))=if i'=k then gc B 0 b*v (b*J+(i'*J'+js)) else 0:=λi' k hi'=>by
   rw [Qmh (k:=js) J' hjs λj1 hj1 hne=>?_]
   ·unfold shF;by_cases h:i'<=k
    ·rw [if_pos h,if_pos (by omega),Jc];by_cases h':i'=k
     ·rw [if_pos h',h',Jq]
     ·rw [if_neg h',Qiu B _ _ (by omega),Yf]
    ·rw [if_neg h,if_neg (by omega),Yf]
   ·rcases Za js j1 with h | h
    ·rw [ih j1 hj1 (by omega) i' hi',Ks]
    ·unfold shF;by_cases h':i'<=k
     ·rw [if_pos h',if_pos (by omega),Qiu B _ _ (by omega),Yf]
     ·rw [if_neg h',Yf]
  have hU:=Zh9 hA lA hW (jj:=js+b) (by omega) (λk hk hk'=>Qb7 a λi' hi'=>by rw [hin i' k hi',if_neg (by omega)]) (b+1);have h1:=hW i (js+b) (by omega) (by omega);rw [Qpd,Dd a (λi' hi'=>hin i' i hi')] at h1;rw [Qb7 b λi' hi'=>by
   rw [Zm0 A v (by omega),hU i' hi' (by omega)]; simp] at h1
  rw [Qmh (k:=i) a hi λi' hi' hne=>if_neg hne,if_pos rfl,Int.zero_add] at h1;rcases Yy.1 h1 with h2 | h2
  ·have:=Q9d B b hB; rw [h2] at this; omega
  ·exact h2
include hA hB lA lB hJ hW in
theorem Q6a:∀ n,n<b*J+a*J'->v n=0:=by
 intro n hn;have hV:=Zm4 hA hB lA lB hJ hW;rcases Za n (b*J) with h | h
 ·have hJp:0<J:=by
   rcases Qz J with e | e
   ·rw [e,Yx] at h; omega
   ·exact e
  have e1:=Z4 n hJp;have e2:n / J<b:=X3 (by rw [Zj]; exact h);have:=Zh9 hA lA hW e1 (λk _ _=>Qb7 a λi hi=>Qb7 J' λj1 hj1=>by rw [hV J' j1 hj1 (by omega) i hi,Ks]) (b+1) (n / J) e2 (Qc (Nat.sub_le _ _) (Nat.le_succ _));rwa [Zj,Xa] at this
 ·have hJp:0<J':=by
   rcases Qz J' with e | e
   ·rw [e,Yx] at hn; omega
   ·exact e
  have e1:=Z4 (n-b*J) hJp;have e2:(n-b*J) / J'<a:=X3 (by rw [Zj J' a]; omega);have:=hV J' _ e1 (by omega) _ e2;rw [Zj ((n-b*J) / J'),Xa] at this;rwa [show b*J+(n-b*J)=n by omega] at this
end
theorem Qb4 {R x:Rat} (h1:1<=R) (hx:U8 x<=R):∀ k:Nat,U8 (x^k)<=R^k/\1<=R^k
 | 0=>by rw [Xc,Xc]; exact ⟨by decide,by decide⟩
 |
  k+1=>by
  obtain ⟨i1,i2⟩:=Qb4 h1 hx k;rw [Z8,Z8];have:=Nx (a:=1) (c:=1) (by decide) i2 (by decide) h1;exact ⟨Gz i1 hx,by grind⟩
theorem Q2r {R:Rat} (h1:1<=R) {i:Nat}:∀ k,i<=k->R^i<=R^k
 | 0,h=>by rw [show i=0 by omega]; exact Qq
 |
  k+1,h=>by
  rcases Vo h with e | e
  ·have:=Q2r h1 (i:=i) k (by omega);have h2:=(Qb4 h1 (x:=0) (by rw [H7]; grind) k).2;rw [Z8];have:=Nx (a:=R^k) (b:=R^k) (c:=1) (d:=R) (by grind) Qq (by decide) h1;grind
  ·rw [e]; exact Qq
theorem Zb4 {F:Nat->Nat->Int} {i j' K J:Nat} {x y R X:Rat} {K2 J2:Nat} (h1:1<=R) (hx:U8 x<=R) (hy:U8 y<=R) (hK:K=i+K2) (hJ:J=j'+J2) (hF:E2 F K2 J2 x y=X):U8 (E2 (shF i j' F) K J x y)<=R^(K+J)*U8 X:=by
 subst hK; subst hJ;rw [Qkp,hF,E8];have a1:=(Qb4 h1 hy i).1;have a2:=(Qb4 h1 hx j').1;have a3:=Gz a1 a2;rw [<-Qe0] at a3;have a4:=Q2r h1 (i:=i+j') (i+K2+(j'+J2)) (by omega);exact Nx (Hn _) (Zg a3 a4) (Hn _) Qq
theorem Zla {A B:List Int} {a b h:Nat} (hA:A.length=a+1) (hB:B.length=b+1) (lA:A.getD a 0≠0) (lB:B.getD b 0≠0) (ha:0<a) (hb:0<b) (h0:1<=h) (bA:∀ k,(A.getD k 0).natAbs<=h) (bB:gB B<=h) {J J' N H:Nat} (hJ:J=2*(a*b)) (hJ':J=J'+b) (hN:N=b*J+a*J') (hH:H=(2*(N*h))^(2*(a+b-1))) :
 ∃ w:Nat->Int,(∃ j,j<J/\w j≠0)/\(∀ j,(w j).natAbs<=N*(h*H))/\∀ R:Rat,1<=R->∃ C:Rat,0<=C/\∀ x y,U8 x<=R->U8 y<=R->U8 (sq J λj=>(w j:Rat)*x^j)<=C*(U8 (Uy A y)+U8 (Uy B (y-x))):=by
 have hab:0<a*b:=Ya ha hb;have hbd:∀ n k j,(phi A B b J J' n k j).natAbs<=h:=λn k j=>by
  unfold phi
  split
  ·exact Zb5 (λk j=>by unfold fA; split; exact bA k; exact Nat.zero_le _) _ _ _ _
  ·exact Zb5 (λk j=>Qc (Q9c B k j) bB) _ _ _ _
 have hJp:0<J:=by omega
 have hNp:1<=N:=by
  have:0<b*J:=Ya hb hJp;omega
 have hNh:1<=N*h:=Ya hNp h0;obtain ⟨E,hE⟩:=nmE ((a+b-1)*J);have hNE:N=E+a*b:=by
  have e1:(a+b-1)*J+J=(a+b)*J:=by
   rw [<-Z7]; congr 1; omega
  have e2:a*J=a*J'+a*b:=by rw [hJ',Xk]
  rw [X6] at e1;omega
 have hc:(2*(N*(h*H))+1)^E<(H+1)^N:=by
  have c1:2*(N*(h*H))+1<=2*(N*h)*(H+1):=by
   rw [Xk,Yw,Xg 2,Xg N]; omega
  refine Zw (Nat.pow_le_pow_left c1 E) ?_;rw [Nat.mul_pow,hNE,Xb,Zj];refine Nat.mul_lt_mul_of_pos_left ?_ (Z2 (by omega));have e1:(2*(N*h))^E=H^(a*b):=by
   rw [hH,<-Ur,hE,hJ]; congr 1;rw [Zj 2 (a+b-1),Xg]
  rw [<-hNE,e1];exact Nat.pow_lt_pow_left (by omega) (by omega)
 obtain ⟨v,v1,⟨n0,n1,n2⟩,v3⟩:=Zle (M:=λe n=>phi A B b J J' n (e / J+1) (e % J)) (h:=h) (N:=N) (E:=E) (H:=H) (λe n=>hbd n _ _) hc;have hW:∀ k j,1<=k->k<a+b->j<J->sm N (λn=>phi A B b J J' n k j*v n)=0:=λk j k1 k2 hj=>by
  have:=v3 ((k-1)*J+j) (by rw [hE]; exact Zij (by omega) hj);rwa [(Qgh hj).1,(Qgh hj).2,show k-1+1=k by omega] at this
 refine ⟨λj=>sm N λn=>phi A B b J J' n 0 j*v n,?_,λj=>?_,λR hR=>?_⟩
 ·rcases Classical.em (∃ j,j<J/\(sm N λn=>phi A B b J J' n 0 j*v n)≠0) with e | e
  ·exact e
  ·exfalso;refine n2 (Q6a hA hB lA lB hJ' (v:=v) (λk j hk hj=>?_) n0 (by rw [<-hN]; exact n1));rw [<-hN];rcases Qz k with e' | e'
   ·subst e';rcases Classical.em ((sm N λn=>phi A B b J J' n 0 j*v n)=0) with e2 | e2
    ·exact e2
    ·exact absurd ⟨j,hj,e2⟩ e
   ·exact hW k j e' hk hj
 ·refine Zca N λn _=>?_
  rw [Jt];exact Zh (hbd n 0 j) (v1 n)
 ·have hRp:∀ k:Nat,1<=R^k:=λk=>(Qb4 hR (x:=0) (by rw [H7]; grind) k).2
  have hHn:(0:Rat)<=(H:Rat):=Xh;have hNn:(0:Rat)<=(N:Rat):=Xh;refine ⟨(N:Rat)*((H:Rat)*R^(a+b+J)),M4 hNn (M4 hHn (by have:=hRp (a+b+J); grind)),λx y hx hy=>?_⟩;have e1:(sq J λj=>((sm N λn=>phi A B b J J' n 0 j*v n:Int):Rat)*x^j)=E2 (λk j=>sm N λn=>phi A B b J J' n k j*v n) (a+b) J x y:=by
   unfold E2;obtain ⟨m,hm⟩:∃ m,a+b=m+1:=⟨a+b-1,by omega⟩;rw [hm,Is,Bm (n:=m)]
   ·have:(sq J λj=>((sm N λn=>phi A B b J J' n 0 j*v n:Int):Rat)*(y^0*x^j))=sq J λj=>((sm N λn=>phi A B b J J' n 0 j*v n:Int):Rat)*x^j:=S0 J λj _=>by rw [Xc]; grind
    rw [this]; grind
   ·intro k hk;refine Bm J λj hj=>?_
    show ((sm N λn=>phi A B b J J' n (k+1) j*v n:Int):Rat)*_=0;rw [hW (k+1) j (by omega) (by omega) hj,show ((0:Int):Rat)=0 from rfl]; grind
  rw [e1,Q8x];have key:∀ n,n<N->U8 ((v n:Rat)*E2 (phi A B b J J' n) (a+b) J x y)<=(H:Rat)*(R^(a+b+J)*(U8 (Uy A y)+U8 (Uy B (y-x)))):=λn hn=>by
   have hvn:U8 (v n:Rat)<=(H:Rat):=by
    have h1:=v1 n;have h2:(v n)<=(H:Int):=by omega
    have h3:-(H:Int)<=v n:=by omega
    have h2:=X7.2 h2;have h3:=X7.2 h3;rw [Vr] at h3;rw [Py]; exact ⟨h3,h2⟩
   refine Gz hvn ?_;have hRk:=hRp (a+b+J);have n1:=Hn (Uy A y);have n2:=Hn (Uy B (y-x));rcases Za n (b*J) with h | h
   ·have e:phi A B b J J' n=shF (n / J) (n % J) (fA A):=by funext k j; unfold phi; rw [if_pos h]
    have d1:n / J<b:=X3 (by rw [Zj]; exact h);have d2:=Z4 n hJp;rw [e];refine Zg (Zb4 (K2:=a+b-n / J) (J2:=J-n % J) hR hx hy (by omega) (by omega) (X:=Uy A y) ?_) (Nx (by grind) Qq n1 (by grind));obtain ⟨m,hm⟩:∃ m,J-n % J=m+1:=⟨J-n % J-1,by omega⟩;rw [hm]; exact Zm6 A _ _ x y (by omega)
   ·have e:phi A B b J J' n=shF ((n-b*J) / J') ((n-b*J) % J') (gc B):=by funext k j; unfold phi; rw [if_neg (by omega)]
    have hJp':0<J':=by
     rcases Qz J' with e | e
     ·rw [e,Yx] at hN; omega
     ·exact e
    have d1:(n-b*J) / J'<a:=X3 (by rw [Zj J' a]; omega);have d2:=Z4 (n-b*J) hJp';rw [e];refine Zg (Zb4 (K2:=a+b-(n-b*J) / J') (J2:=J-(n-b*J) % J') hR hx hy (by omega) (by omega) (X:=Uy B (y-x)) ?_) (Nx (by grind) Qq n2 (by grind));exact Zj4 x y B _ _ (by omega) (by omega)
  have:=Ziu N key;refine Zg this ?_;have:(N:Rat)*((H:Rat)*(R^(a+b+J)*(U8 (Uy A y)+U8 (Uy B (y-x)))))=(N:Rat)*((H:Rat)*R^(a+b+J))*(U8 (Uy A y)+U8 (Uy B (y-x))):=by grind
  rw [this]; exact Qq
end Orq
namespace Orq
theorem Zce {w:Nat->Int} {x:Rat} {D:Rat} (hx:U8 x*2<=1) (hw:∀ j,U8 (w j:Rat)<=D):∀ J (k:Nat),U8 (sq J λj=>(w (k+j):Rat)*x^j)<=2*D
 | 0,k=>by have:=hw 0; have:=Hn (w 0:Rat); simp only [sq,H7]; clear hw; grind
 |
  J+1,k=>by
  have ih:=Zce hx hw J (k+1);rw [Is];have e:(sq J λi=>(w (k+(i+1)):Rat)*x^(i+1))=x*sq J λi=>(w (k+1+i):Rat)*x^i:=by
   rw [<-Qbg]; exact S0 J λi _=>by rw [Z8,show k+(i+1)=k+1+i by omega]; grind
  rw [e,Xc,Xn];have h1:=hw k;have h2:=Tv ((w k:Rat)*1) (x*sq J λi=>(w (k+1+i):Rat)*x^i);have h3:=Gz (x:=x) (y:=sq J λi=>(w (k+1+i):Rat)*x^i) Qq ih;have h4:=Zc hx (show (0:Rat)<=D by have:=Hn (w k:Rat); clear hw; grind);have h5:(w k:Rat)*1=w k:=by grind
  rw [h5] at h2 ⊢;clear hw; grind
theorem Qdb {z:Int} (h:z≠0):1<=U8 (z:Rat):=by
 unfold U8;rcases Kr h with h | h
 ·have:((z:Int):Rat)<((0:Int):Rat):=Jj.2 h;have h2:((1:Int):Rat)<=((-z:Int):Rat):=X7.2 (by omega);rw [if_pos (by simpa using this)];rw [Vr] at h2;simpa using h2
 ·have:((0:Int):Rat)<((z:Int):Rat):=Jj.2 h;have h2:((1:Int):Rat)<=((z:Int):Rat):=X7.2 (by omega);rw [if_neg (by
   have:(0:Rat)<z:=by simpa using this
   grind)]
  simpa using h2
theorem Qx0 {w:Nat->Int} {x:Rat} {D:Rat} (hD:1<=D) (hx0:0<U8 x) (hx:U8 x*(4*D)<=1) (hw:∀ j,U8 (w j:Rat)<=D):∀ J (k:Nat),(∃ j,j<J/\w (k+j)≠0)->U8 x^J / 2<=U8 (sq J λj=>(w (k+j):Rat)*x^j)
 | 0,k,⟨j,h,_⟩=>by omega
 |
  J+1,k,⟨j,h1,h2⟩=>by
  have hx2:U8 x*2<=1:=by
   have:=Nx (a:=U8 x) (c:=2) (Qr hx0) Qq (by decide) (show (2:Rat)<=4*D by clear hw; grind);exact Zg this hx
  have hx1:U8 x<=1:=by clear hw; grind
  have hp:∀ k:Nat,U8 x^k<=1/\0<=U8 x^k:=λk=>by
   induction k with
   | zero=>rw [Xc]; exact ⟨by decide,by decide⟩
   |
    succ k ih =>
    rw [Z8];have:=Nx ih.2 ih.1 (Qr hx0) hx1;have:=M4 ih.2 (Qr hx0);constructor <;> (clear hw; grind)
  rw [Is];have e:(sq J λi=>(w (k+(i+1)):Rat)*x^(i+1))=x*sq J λi=>(w (k+1+i):Rat)*x^i:=by
   rw [<-Qbg]; exact S0 J λi _=>by rw [Z8,show k+(i+1)=k+1+i by omega]; grind
  rw [e,Xc,Xn k,show (w k:Rat)*1=w k by grind];by_cases h0:w k=0
  ·have hj:j≠0:=λe=>h2 (by rw [e]; exact h0)
   have ih:=Qx0 hD hx0 hx hw J (k+1) ⟨j-1,by omega,by rw [show k+1+(j-1)=k+j by omega]; exact h2⟩;rw [h0,show ((0:Int):Rat)+x*(sq J λi=>(w (k+1+i):Rat)*x^i)=x*sq J λi=>(w (k+1+i):Rat)*x^i by rw [show ((0:Int):Rat)=0 from rfl]; grind,E8,Z8];have:=Zz ih (Qr hx0);have e2:U8 x*(U8 x^J / 2)=U8 x^J*U8 x / 2:=by rw [Js,Js]; grind
   rw [e2] at this; exact this
  ·have a1:=Qdb h0;have a2:=Zce hx2 hw J (k+1);have a3:=Gz (x:=x) (y:=sq J λi=>(w (k+1+i):Rat)*x^i) Qq a2;have a4:=Tv ((w k:Rat)+x*sq J λi=>(w (k+1+i):Rat)*x^i) (-(x*sq J λi=>(w (k+1+i):Rat)*x^i));rw [D7,show (w k:Rat)+(x*sq J λi=>(w (k+1+i):Rat)*x^i)+-(x*sq J λi=>(w (k+1+i):Rat)*x^i)=w k by grind] at a4;have a5:=(hp (J+1)).1;have a6:U8 x^(J+1) / 2*2=U8 x^(J+1):=G0 (by decide);have a7:U8 x*(2*D)*2=U8 x*(4*D):=by grind
   clear hw hp; grind
theorem Zkd {A B:List Int} {a b h:Nat} (hA:A.length=a+1) (hB:B.length=b+1) (lA:A.getD a 0≠0) (lB:B.getD b 0≠0) (ha:0<a) (hb:0<b) (h0:1<=h) (bA:∀ k,(A.getD k 0).natAbs<=h) (bB:gB B<=h) {N D:Nat} (hN:b*(2*(a*b))+a*(2*(a*b)-b)=N) (hD:N*(h*(2*(N*h))^(2*(a+b-1)))<=D) {R d:Rat} (hR:1<=R) (dp:0<d)
 (hs:∀ e:Rat,0<e->∃ q r,U8 q<=R/\U8 r<=R/\d<=U8 (q-r)/\U8 (q-r)*(4*(D:Rat))<=1/\U8 (Uy A q)<e/\U8 (Uy B r)<e):False:=by
 have hab:0<a*b:=Ya ha hb;have hbab:b<=a*b:=by
  have:=Q0 b (show 1<=a from ha); omega
 obtain ⟨w,⟨j,hj,hw0⟩,hw,hC⟩:=Zla hA hB lA lB ha hb h0 bA bB (J:=2*(a*b)) (J':=2*(a*b)-b) rfl (by omega) hN.symm rfl;obtain ⟨C,hC0,hC⟩:=hC (2*R) (by grind);have hw':∀ j,U8 (w j:Rat)<=(D:Rat):=λj=>by
  have h1:=Qc (hw j) hD;have h2:w j<=(D:Int):=by omega
  have h3:-(D:Int)<=w j:=by omega
  have h2:=X7.2 h2;have h3:=X7.2 h3;rw [Vr] at h3;rw [Py]; exact ⟨h3,h2⟩
 have hD1:(1:Rat)<=(D:Rat):=by
  have:=Qdb hw0;exact Zg this (hw' j)
 have hdJ:0<d^(2*(a*b)) / 2:=Lt (Rat.pow_pos dp) (by decide);obtain ⟨e,ep,_,he⟩:=G5 (b:=C*2) (d:=d^(2*(a*b)) / 2) (by grind) hdJ;obtain ⟨q,r,q1,r1,d1,d2,aq,br⟩:=hs e ep;have h1:=hC (q-r) q (by
  have:=Tv q (-r); rw [D7] at this; have:q-r=q+-r:=by grind
  grind) (by grind)
 rw [show q-(q-r)=r by grind] at h1;have h2:=Qx0 (x:=q-r) hD1 (by grind) d2 hw' (2*(a*b)) 0 ⟨j,hj,by rw [Zu]; exact hw0⟩;simp only [Zu] at h2;have h3:C*(U8 (Uy A q)+U8 (Uy B r))<=C*(e+e):=Zz (by grind) hC0;have h4:d^(2*(a*b))<=U8 (q-r)^(2*(a*b)):=by
  generalize 2*(a*b)=J
  induction J with
  | zero=>rw [Xc,Xc]; exact Qq
  |
   succ J ih =>
   rw [Z8,Z8];exact Nx (Qr (Rat.pow_pos dp)) ih (Qr dp) d1
 have h5:d^(2*(a*b)) / 2*2=d^(2*(a*b)):=G0 (by decide);have h6:U8 (q-r)^(2*(a*b)) / 2*2=U8 (q-r)^(2*(a*b)):=G0 (by decide);clear hC hs hw hw';grind
def HD (p:List Rat) (n:Nat):Prop:=p.getD n 0≠0/\∀ k,n<k->p.getD k 0=0
theorem H9:∀ (p q:List Rat) (k:Nat),(Tw p q).getD k 0=p.getD k 0+q.getD k 0
 | [],q,k=>by simp only [Tw,K0]; grind
 | a::p,[],k=>by simp only [Tw,K0]; grind
 | a::p,b::q,0=>by simp only [Tw,Zr]
 | a::p,b::q,k+1=>by simp only [Tw,Q4]; exact H9 p q k
theorem Tt (c:Rat):∀ (p:List Rat) (k:Nat),(Cx c p).getD k 0=c*p.getD k 0
 | [],k=>by simp only [Cx,Ji,K0]; grind
 | a::p,0=>by simp [Cx]
 | a::p,k+1=>by have:=Tt c p k; simp only [Cx,Z1,Q4] at *; exact this
theorem Q9j {p:List Rat} {k:Nat} (h:∀ x∈p,x=0):p.getD k 0=0:=by
 rw [Qg];cases e:p[k]? with
 | none=>rfl
 | some x=>exact h x (Qa e)
theorem Cq {p q:List Rat} (h:∀ t,ev p t=ev q t) (k:Nat):p.getD k 0=q.getD k 0:=by
 have h1:=Q9j (k:=k) (Qdo (p:=Tw p (Cx (-1) q)) λt _ _=>by rw [Gk,Ga,h t]; grind);rw [H9,Tt] at h1; grind
theorem C6:∀ {p:List Rat},(∀ k,p.getD k 0=0)->∀ t,ev p t=0
 | [],_,t=>rfl
 |
  a::p,h,t=>by
  have h0:=h 0;have h1:=C6 (p:=p) (λk=>by have:=h (k+1); rwa [Q4] at this) t;rw [Zr] at h0;simp only [ev,h0,h1]; grind
theorem Qk8:∀ (p:List Rat),(∀ t,ev p t=0)\/∃ n,n<p.length/\HD p n
 | []=>.inl λ_=>rfl
 |
  a::p=>by
  rcases Qk8 p with h | ⟨n,hn,h1,h2⟩
  ·rcases Classical.em (a=0) with e | e
   ·exact .inl λt=>by simp only [ev,e,h t]; grind
   ·refine .inr ⟨0,by simp,by simpa using e,λk hk=>?_⟩;obtain ⟨m,rfl⟩:∃ m,k=m+1:=⟨k-1,by omega⟩;rw [Q4];exact (Cq (p:=p) (q:=[]) h m).trans (by simp)
  ·refine .inr ⟨n+1,by simp; omega,by rw [Q4]; exact h1,λk hk=>?_⟩;obtain ⟨m,rfl⟩:∃ m,k=m+1:=⟨k-1,by omega⟩;rw [Q4]; exact h2 m (by omega)
theorem Zih {p q:List Rat} {n:Nat} (h:∀ t,ev p t=ev q t) (hp:HD p n):HD q n :=
 ⟨by rw [<-Cq h]; exact hp.1,λk hk=>by rw [<-Cq h]; exact hp.2 k hk⟩
theorem Zii {p:List Rat} {n m:Nat} (h:HD p n) (h':HD p m):n=m:=by
 rcases Vy n m with e | e | e
 ·exact absurd (h.2 m e) h'.1
 ·exact e
 ·exact absurd (h'.2 n e) h.1
theorem Q1g {p:List Rat} {n:Nat} (h:HD p n):¬∀ t,ev p t=0:=λh0=>h.1 ((Cq (p:=p) (q:=[]) h0 n).trans (by simp))
theorem Qhr {p q:List Rat} (h:∀ k,p.getD k 0=0) (k:Nat):(Gq p q).getD k 0=0:=by
 have:=Cq (p:=Gq p q) (q:=[]) (λt=>by rw [U4,C6 h t]; simp only [ev]; grind) k;rw [this]; simp
theorem Qk9:∀ {p q:List Rat} {m n:Nat},HD p m->HD q n->HD (Gq p q) (m+n)
 | [],q,m,n,h,_=>absurd (by simp) h.1
 |
  a::p,q,0,n,h,h'=>by
  have h1:∀ k,p.getD k 0=0:=λk=>by have:=h.2 (k+1) (by omega); rwa [Q4] at this
  have h2:∀ k,(Gq (a::p) q).getD k 0=a*q.getD k 0:=λk=>by
   simp only [Gq];rw [H9,Tt];cases k with
   | zero=>rw [Zr]; grind
   | succ k=>rw [Q4,Qhr h1]; grind
  have h3:=h.1;rw [Zr] at h3;refine ⟨?_,λk hk=>?_⟩
  ·rw [h2,Zu]; exact λh=>(Y0.1 h).elim h3 h'.1
  ·rw [h2,h'.2 k (by omega)]; grind
 |
  a::p,q,m+1,n,h,h'=>by
  have ih:=Qk9 (p:=p) (q:=q) (m:=m) ⟨by have:=h.1; rwa [Q4] at this,λk hk=>by have:=h.2 (k+1) (by omega); rwa [Q4] at this⟩ h';refine ⟨?_,λk hk=>?_⟩
  ·simp only [Gq];rw [H9,Tt,show m+1+n=(m+n)+1 by omega,Q4,h'.2 _ (by omega)];have:=ih.1; grind
  ·obtain ⟨j,rfl⟩:∃ j,k=j+1:=⟨k-1,by omega⟩;simp only [Gq];rw [H9,Tt,Q4,h'.2 _ (by omega),ih.2 j (by omega)]; grind
def O3 (g f:List Rat):Prop:=∃ u,∀ t,ev f t=ev g t*ev u t
theorem dvd_refl (f:List Rat):O3 f f:=⟨[1],λt=>by rw [Rr]; grind⟩
theorem dvd_trans {f g h:List Rat}:O3 f g->O3 g h->O3 f h
 | ⟨u,hu⟩,⟨v,hv⟩=>⟨Gq u v,λt=>by rw [hv,hu,U4]; grind⟩
theorem Quj {p q:List Rat} (h:∀ t,ev p t*ev q t=0) (hp:¬∀ t,ev p t=0):∀ t,ev q t=0:=by
 rcases Qk8 p with h1 | ⟨m,_,h1⟩
 ·exact absurd h1 hp
 ·rcases Qk8 q with h2 | ⟨n,_,h2⟩
  ·exact h2
  ·exact absurd (λt=>by rw [U4]; exact h t) (Q1g (Qk9 h1 h2))
theorem Qw8 {p q r:List Rat} (hp:¬∀ t,ev p t=0) (h:∀ t,ev p t*ev q t=ev p t*ev r t) (t:Rat):ev q t=ev r t:=by
 have:=Quj (p:=p) (q:=Tw q (Cx (-1) r)) (λt=>by rw [Gk,Ga]; have:=h t; grind) hp t;rw [Gk,Ga] at this; grind
theorem Q8q {b:List Rat} {n:Nat} (hb:HD b n):∀ (l:Nat) (a:List Rat),(∀ k,l<=k->a.getD k 0=0)->∃ q r,(∀ t,ev a t=ev q t*ev b t+ev r t)/\∀ k,n<=k->r.getD k 0=0
 | 0,a,ha=>⟨[],a,λt=>by simp only [ev]; grind,λk _=>ha k (Qh _)⟩
 |
  l+1,a,ha=>by
  rcases Za l n with h | h
  ·exact ⟨[],a,λt=>by simp only [ev]; grind,λk hk=>ha k (by omega)⟩
  ·-- the leading term is taken away
   obtain ⟨c,hc⟩:=nmE (a.getD l 0 / b.getD n 0);have hcb:c*b.getD n 0=a.getD l 0:=by rw [hc]; exact Zk hb.1
   obtain ⟨m,hm⟩:∃ m:List Rat,m=List.replicate (l-n) 0++[c]:=⟨_,rfl⟩;have hsh:∀ (i:Nat) (k:Nat),(Gq (List.replicate i 0++[c]) b).getD k 0=if i<=k then c*b.getD (k-i) 0 else 0:=λi=>by
    induction i with
    | zero=>intro k; simp only [Ws,Yi,Gq]; rw [H9,Tt]; cases k <;> simp <;> grind
    |
     succ i ih =>
     intro k;simp only [J8,Xd,Gq];rw [H9,Tt];cases k with
     | zero=>rw [Zr,if_neg (by omega)]; grind
     |
      succ k =>
      rw [Q4,ih k];by_cases h:i<=k
      ·rw [if_pos h,if_pos (by omega),Nat.add_sub_add_right]; grind
      ·rw [if_neg h,if_neg (by omega)]; grind
   obtain ⟨q,r,h1,h2⟩:=Q8q hb l (Tw a (Cx (-1) (Gq m b))) λk hk=>by
    rw [H9,Tt,hm,hsh,if_pos (by omega)];rcases Vo hk with e | e
    ·rw [ha k (by omega),hb.2 _ (by omega)]; grind
    ·subst e; rw [show l-(l-n)=n by omega,hcb]; grind
   refine ⟨Tw q m,r,λt=>?_,h2⟩;have:=h1 t;rw [Gk,Ga,U4] at this;rw [Gk]; grind
theorem Qxm:∀ (n:Nat) (a b:List Rat),(∀ k,n<=k->b.getD k 0=0)->∃ g U V,O3 g a/\O3 g b/\∀ t,ev g t=ev U t*ev a t+ev V t*ev b t
 |
  0,a,b,h=>by
  have h0:=C6 λk=>h k (Qh _)
  exact ⟨a,[1],[],dvd_refl a,⟨[],λt=>by rw [h0]; simp only [ev]; grind⟩,λt=>by rw [Rr]; simp only [ev]; grind⟩
 |
  n+1,a,b,h=>by
  rcases Classical.em (b.getD n 0=0) with e | e
  ·exact Qxm n a b λk hk=>by
    rcases Vo hk with e' | e'
    ·exact h k (by omega)
    ·rw [<-e']; exact e
  ·obtain ⟨q,r,h1,h2⟩:=Q8q (b:=b) (n:=n) ⟨e,λk hk=>h k (by omega)⟩ a.length a λk hk=>by rw [Qg,Qt hk]; rfl
   obtain ⟨g,U,V,⟨u,hu⟩,⟨v,hv⟩,hg⟩:=Qxm n b r h2;refine ⟨g,V,Tw U (Cx (-1) (Gq V q)),⟨Tw (Gq q u) v,λt=>?_⟩,⟨u,hu⟩,λt=>?_⟩
   ·rw [h1,hv,Gk,U4,hu]; grind
   ·rw [hg,Gk,Ga,U4,h1]; grind
theorem Q9f (a b:List Rat):∃ g U V,O3 g a/\O3 g b/\∀ t,ev g t=ev U t*ev a t+ev V t*ev b t :=
 Qxm b.length a b λk hk=>by rw [Qg,Qt hk]; rfl
def Cop (a b:List Rat):Prop:=∃ U V,∀ t,ev U t*ev a t+ev V t*ev b t=1
theorem Qp7 {c d e:List Rat} (h:Cop c d) (h1:∃ u,∀ t,ev d t*ev e t=ev c t*ev u t):O3 c e:=by
 obtain ⟨U,V,h⟩:=h;obtain ⟨u,hu⟩:=h1;refine ⟨Tw (Gq U e) (Gq V u),λt=>?_⟩;rw [Gk,U4,U4];have a1:=h t;have a2:=hu t;have:ev e t=(ev U t*ev c t+ev V t*ev d t)*ev e t:=by rw [a1]; grind
 rw [this];have:(ev U t*ev c t+ev V t*ev d t)*ev e t=ev U t*ev c t*ev e t+ev V t*(ev d t*ev e t):=by grind
 rw [this,a2]; grind
def qpw (d:List Rat):Nat->List Rat
 | 0=>[1]
 | k+1=>Gq d (qpw d k)
theorem Qyp (d:List Rat) (t:Rat):∀ k:Nat,ev d t*dv (qpw d k) t=(k:Rat)*(dv d t*ev (qpw d k) t)
 | 0=>by simp only [qpw,dv,ev]; rw [show ((0:Nat):Rat)=0 from rfl]; grind
 |
  k+1=>by
  have ih:=Qyp d t k;have hn':(((k+1:Nat):Rat))=(k:Rat)+1:=by push_cast; rfl
  simp only [qpw];rw [Qqe,U4,hn']; grind
theorem Zbd {d:List Rat} {m:Nat} (h:HD d m):∀ k,HD (qpw d k) (k*m)
 | 0=>by rw [Yb]; exact ⟨by simp [qpw],λk hk=>by simp only [qpw]; rw [Qg,Qt (by simp; omega)]; rfl⟩
 | k+1=>by rw [Z7,X8 (k*m) m]; exact Qk9 h (Zbd h k)
theorem Qor {d g:List Rat} {m n:Nat} (hd:HD d m) (hg:HD g n) (h:∀ k,O3 (qpw d k) g):m=0:=by
 obtain ⟨u,hu⟩:=h (n+1);rcases Qk8 u with h1 | ⟨j,_,h1⟩
 ·exact absurd (λt=>by rw [hu,h1]; grind) (Q1g hg)
 ·have:=Zii (Zih (λt=>by rw [hu,U4]) hg) (Qk9 (Zbd hd (n+1)) h1);rcases Qz m with e | e
  ·exact e
  ·have:(n+1)*1<=(n+1)*m:=Zs _ e;omega
theorem sqf {a g q d U V:List Rat} {k:Rat} (hk:k≠0) (ha:∀ t,ev a t=ev g t*ev q t) (hg:∀ t,k*ev g t=ev U t*ev a t+ev V t*dv a t) (h1:O3 d q) (h2:O3 d (M6 q)):∀ n,O3 (qpw d n) g
 | 0=>⟨g,λt=>by simp only [qpw]; rw [Rr]; grind⟩
 |
  n+1=>by
  obtain ⟨g1,e1⟩:=sqf hk ha hg h1 h2 n;obtain ⟨q1,e2⟩:=h1;obtain ⟨q2,e3⟩:=h2;have d1:=λt=>I9 ha t
  have d2:=λt=>I9 e1 t
  have d3:=λt=>I9 e2 t
  have d4:=Qyp d;refine ⟨Cx (1 / k) (Tw (Gq U (Gq g1 q1)) (Gq V (Tw (Gq g1 q2) (Tw (Cx n (Gq g1 (Tw q2 (Cx (-1) (M6 q1))))) (Gq (M6 g1) q1))))),λt=>?_⟩;have hkk:1 / k*k=1:=Zk hk;simp only [qpw,Ga,Gk,U4,Ta];have b1:=ha t; have b2:=hg t; have b3:=e1 t; have b4:=e2 t; have b5:=e3 t;have b6:=d1 t; have b7:=d2 t; have b8:=d3 t; have b9:=d4 t n;rw [Ta] at b5;generalize ev d t=x0 at *;generalize ev (qpw d n) t=x1 at *;generalize ev g t=x2 at *;generalize ev q t=x3 at *;generalize ev a t=x4 at *;generalize dv a t=x5 at *;generalize dv g t=x6 at *;generalize dv q t=x7 at *;generalize ev g1 t=x8 at *;generalize dv g1 t=x9 at *;generalize ev q1 t=y0 at *;generalize dv q1 t=y1 at *;generalize ev q2 t=y2 at *;generalize dv d t=y3 at *;generalize dv (qpw d n) t=y4 at *;generalize ev U t=y5 at *;generalize ev V t=y6 at *;generalize (n:Rat)=y7 at *;have:x2=1 / k*(k*x2):=by grind
  rw [this,b2];have c1:x5=x0*x1*(x8*y2+(y7*(x8*(y2+-1*y1))+x9*y0)):=by
   rw [b6,b7,b4,b3];have:y3*y0=x0*y2-x0*y1:=by grind
   have:x0*y4*(x8*y0)=y7*(x1*x8*(x0*y2-x0*y1)):=by rw [b9,<-this]; grind
   grind
  have c2:x4=x0*x1*(x8*y0):=by rw [b1,b3,b4]; grind
  rw [c1,c2]; grind
theorem Zev {a b c:List Rat} (h1:Cop a b) (h2:Cop a c) {d:List Rat} (hd:∀ t,ev d t=ev b t*ev c t):Cop a d:=by
 obtain ⟨U,V,h1⟩:=h1;obtain ⟨X,Y,h2⟩:=h2;refine ⟨Tw U (Gq (Gq V b) X),Gq V Y,λt=>?_⟩;have a1:=h1 t;have a2:=h2 t;simp only [Gk,U4,hd];have:ev V t*ev b t*(ev X t*ev a t+ev Y t*ev c t)=ev V t*ev b t:=by rw [a2]; grind
 grind
theorem Zg6 {a g q z r X Y:List Rat} {n:Nat} (ha:∀ t,ev a t=ev g t*ev q t) (hz:∀ t,dv a t=ev g t*ev z t) (hg:HD g n) (hr:∀ t,ev X t*ev r t+ev Y t*dv r t=1) (h:O3 r a):O3 r q:=by
 obtain ⟨b,hb⟩:=h;obtain ⟨e,U,V,⟨r1,e1⟩,⟨q3,e2⟩,e3⟩:=Q9f r q;have hr0:¬∀ t,ev r t=0:=λh=>by
  have h1:=hr 0;have h2:dv r 0=0:=by have:=Q8v (p:=r) (q:=[]) h 0; rw [this]; rfl
  rw [h,h2] at h1; grind
 have he0:¬∀ t,ev e t=0:=λh=>hr0 λt=>by rw [e1,h]; grind
 have d1:=λt=>I9 e1 t
 have c1:Cop r1 q3:=⟨U,V,λt=>by
  have:=Qw8 (p:=e) (q:=Tw (Gq U r1) (Gq V q3)) (r:=[1]) he0 (λt=>by
   rw [Gk,U4,U4,Rr];have a1:=e1 t; have a2:=e2 t; have a3:=e3 t;rw [a1,a2] at a3; grind) t
  rw [Gk,U4,U4,Rr] at this; exact this⟩
 have c2:Cop r1 e:=⟨Tw (Gq X e) (Gq Y (M6 e)),Gq Y (M6 r1),λt=>by
  have a1:=hr t; have a2:=e1 t; have a3:=d1 t;simp only [Gk,U4,Ta];rw [a2,a3] at a1; grind⟩
 have c3:Cop r1 (M6 r1):=⟨Tw (Gq X e) (Gq Y (M6 e)),Gq Y e,λt=>by
  have a1:=hr t; have a2:=e1 t; have a3:=d1 t;simp only [Gk,U4,Ta];rw [a2,a3] at a1; grind⟩
 have c4:Cop r1 q:=Zev c2 c1 e2;have hgz:=Q1g hg;have hp:∀ k,O3 (qpw r1 k) g:=λk=>by
  induction k with
  | zero=>exact ⟨g,λt=>by simp only [qpw]; rw [Rr]; grind⟩
  |
   succ k ih =>
   obtain ⟨h,eh⟩:=ih;have hpz:¬∀ t,ev (qpw r1 k) t=0:=λh0=>hgz λt=>by rw [eh,h0]; grind
   have key:O3 r1 h:=by
    cases k with
    |
     zero =>
     refine Qp7 c4 ⟨Gq e b,λt=>?_⟩;have a1:=ha t; have a2:=hb t; have a3:=e1 t; have a4:=eh t;simp only [qpw] at a4;rw [Rr] at a4;rw [U4]; grind
    |
     succ k =>
     have hn:((k+1:Nat):Rat)≠0:=by
      have:(0:Rat)<((k+1:Nat):Rat):=by
       have h1:((0:Nat):Rat)<((k+1:Nat):Rat):=Vv.2 (by omega);simpa using h1
      grind
     have d2:=λt=>I9 (f:=a) (w:=qpw r1 (k+1)) (u:=Gq h q) (λt=>by rw [ha,eh,U4]; grind) t
     have d4:=Qyp r1;have h3:=Qw8 (p:=qpw r1 (k+1)) (q:=Gq (M6 r1) (Gq h q)) (r:=Gq r1 (Cx (1 / ((k+1:Nat):Rat)) (Tw (Gq h z) (Cx (-1) (M6 (Gq h q)))))) hpz λt=>by
      simp only [U4,Ga,Gk,Ta];have a1:=d2 t; have a2:=d4 t (k+1); have a3:=hz t; have a4:=eh t;rw [U4] at a1;generalize ((k+1:Nat):Rat)=c at *;have hc:1 / c*c=1:=Zk hn;generalize ev (qpw r1 (k+1)) t=x0 at *;generalize dv (qpw r1 (k+1)) t=x1 at *;generalize dv (Gq h q) t=x2 at *;generalize ev r1 t=x3 at *;generalize dv r1 t=x4 at *;generalize ev h t=x5 at *;generalize ev q t=x6 at *;generalize ev z t=x7 at *;generalize dv a t=x8 at *;generalize ev g t=x9 at *;generalize 1 / c=c' at *;have s1:x0*(x4*(x5*x6))=c'*(c*(x4*x0))*(x5*x6):=by
       have:c'*(c*(x4*x0))=(c'*c)*(x4*x0):=by grind
       rw [this,hc]; grind
      rw [s1,<-a2];have s2:x3*(x1*(x5*x6))=x3*(x0*(x5*x7+-1*x2)):=by
       rw [a3,a4] at a1; grind
      grind
     refine Qp7 c4 ?_;obtain ⟨u,hu⟩:=Qp7 (e:=Gq q h) c3 ⟨Cx (1 / ((k+1:Nat):Rat)) (Tw (Gq h z) (Cx (-1) (M6 (Gq h q)))),λt=>by
      have:=h3 t;simp only [U4] at this ⊢;rw [<-this]; grind⟩
     exact ⟨u,λt=>by rw [<-hu,U4]⟩
   obtain ⟨u,hu⟩:=key;exact ⟨u,λt=>by simp only [qpw]; rw [U4,eh,hu]; grind⟩
 rcases Qk8 r1 with h1 | ⟨m,_,h1⟩
 ·exact absurd (λt=>by rw [e1,h1]; grind) hr0
 ·obtain rfl:=Qor h1 hg hp;have h2:∀ t,ev r1 t=r1.getD 0 0:=λt=>by
   cases r1 with
   | nil=>simp [ev]
   |
    cons c l =>
    have:∀ t,ev l t=0:=C6 λk=>by have:=h1.2 (k+1) (by omega); rwa [Q4] at this
    simp only [ev,this,Zr]; grind
  have h3:=h1.1;refine ⟨Cx (1 / r1.getD 0 0) q3,λt=>?_⟩;rw [e2,e1,h2,Ga];have:1 / r1.getD 0 0*r1.getD 0 0=1:=Zk h3;have:ev e t*r1.getD 0 0*(1 / r1.getD 0 0*ev q3 t)=ev e t*ev q3 t*(1 / r1.getD 0 0*r1.getD 0 0):=by grind
  rw [this,Zk h3]; grind
def Ic:List (List Rat)->List Rat
 | []=>[1]
 | w::l=>Gq w (Ic l)
def Lay:List (List Rat)->List (List Rat)->Prop
 | [],[]=>True
 | [w],[f]=>∀ t,ev w t=ev f t
 | w::v::l,f::fs=>(∀ t,ev w t=ev f t*ev v t)/\Lay (v::l) fs
 | _,_=>False
def Qic:List (List Rat)->List Rat
 | []=>[1]
 | [f]=>f
 | f::_::l=>Gq f (Qic l)
theorem Q1p:∀ {ws fs:List (List Rat)},Lay ws fs->∃ S,∀ t,ev (Ic ws) t=ev (Qic fs) t*(ev S t*ev S t)
 | [],[],_=>⟨[1],λt=>by simp only [Ic,Qic]; rw [Rr]; grind⟩
 | [w],[f],h=>⟨[1],λt=>by simp only [Ic,Qic]; rw [U4,Rr,h t]; grind⟩
 |
  [w,v],[f,f2],h=>⟨v,λt=>by
  have h1:=h.1 t;have h2:ev v t=ev f2 t:=h.2 t;simp only [Ic,Qic,U4]; rw [Rr,h1]; grind⟩
 |
  w::v::x::l,f::f2::fs,h=>by
  obtain ⟨S,hS⟩:=Q1p h.2.2;refine ⟨Gq v S,λt=>?_⟩;have h1:=h.1 t;have h2:=hS t;have e1:ev (Ic (w::v::x::l)) t=ev w t*(ev v t*ev (Ic (x::l)) t):=by simp only [Ic,U4]
  rw [e1,h2,h1];have e2:ev (Qic (f::f2::fs)) t=ev f t*ev (Qic fs) t:=by
   cases fs with
   | nil=>cases l <;> exact False.elim h.2.2
   | cons y l=>simp only [Qic,U4]
  rw [e2,U4]; grind
 | [w],[],h=>h.elim
 | [w],_::_::_,h=>h.elim
 | [],_::_,h=>h.elim
 | [w,v],[f],h=>h.2.elim
 | [w,v],_::_::_::_,h=>h.2.elim
 | w::v::x::l,[f],h=>h.2.elim
 | w::v::l,[],h=>h.elim
end Orq
namespace Orq
open Orr Go
theorem Qya (p:List Int) (t:Rat):Uy p t=((p.getD 0 0:Int):Rat)+t*Uy p.tail t:=by
 cases p with
 | nil=>show (0:Rat)=((0:Int):Rat)+t*0; grind
 | cons a p=>rfl
theorem Qge (p:List Int) (k:Nat):p.tail.getD k 0=p.getD (k+1) 0:=by
 cases p <;> simp
theorem Ba (c d:Int) (t:Rat):∀ (n:Nat) (p q r:List Int),p.length<=n->q.length<=n->r.length<=n->(∀ k,r.getD k 0=c*p.getD k 0+d*q.getD k 0)->Uy r t=(c:Rat)*Uy p t+(d:Rat)*Uy q t
 |
  0,p,q,r,hp,hq,hr,_=>by
  rw [Qi (Nat.le_zero.1 hp),Qi (Nat.le_zero.1 hq),Qi (Nat.le_zero.1 hr)];show (0:Rat)=_*0+_*0;grind
 |
  n+1,p,q,r,hp,hq,hr,h=>by
  have ih:=Ba c d t n p.tail q.tail r.tail (by rw [Ue]; omega) (by rw [Ue]; omega) (by rw [Ue]; omega) λk=>by
   rw [Qge,Qge,Qge]; exact h (k+1)
  rw [Qya p,Qya q,Qya r,ih,h 0]
  push_cast
  grind
theorem Q2d {p q:List Int} (h:∀ k,p.getD k 0=q.getD k 0) (t:Rat):Uy p t=Uy q t:=by
 have:=Ba 1 0 t (max p.length q.length) q q p (Uh ..) (Uh ..) (Nat.le_max_left ..) λk=>by rw [h k]; omega
 rw [this]
 push_cast
 grind
theorem Ig (p:List Int) (t:Rat):Uy (trim p) t=Uy p t:=Q2d (Ln p) t
theorem Mz {p:List Int} {k:Nat} (h:p.length<=k):p.getD k 0=0:=by
 rw [Qg,Qt h]; rfl
theorem Qon (p q:List Int) (k:Nat):(Al p q).getD k 0=p.getD k 0+q.getD k 0:=by
 unfold Al;rw [Tq]
 split
 ·rfl
 ·rename_i h; rw [Mz (p:=p) (by omega),Mz (p:=q) (by omega)]; rfl
theorem Im (p q:List Int) (k:Nat):(Px p q).getD k 0=p.getD k 0-q.getD k 0:=by
 unfold Px;rw [Tq]
 split
 ·rfl
 ·rename_i h; rw [Mz (p:=p) (by omega),Mz (p:=q) (by omega)]; rfl
theorem Pv (p:List Int) (c:Int) (k:Nat):(Fg p c).getD k 0=p.getD k 0*c:=by
 unfold Fg;rw [Tq]
 split
 ·rfl
 ·rename_i h; rw [Mz (p:=p) (by omega),Int.zero_mul]
theorem Q49 (p:List Int) (k:Nat):(Pg p).getD k 0=-(p.getD k 0):=by
 unfold Pg;rw [Tq]
 split
 ·rfl
 ·rename_i h; rw [Mz (p:=p) (by omega)]; rfl
theorem Ng (p:List Int) (k:Nat):(Gg p).getD k 0=p.getD (k+1) 0*((k+1:Nat):Int):=by
 unfold Gg;rw [Tq]
 split
 ·rfl
 ·rename_i h; rw [Mz (p:=p) (by omega),Int.zero_mul]
theorem Qu1 (p q:List Int) (t:Rat):Uy (Al p q) t=Uy p t+Uy q t:=by
 have:=Ba 1 1 t (max (max p.length q.length) (Al p q).length) p q (Al p q) (by omega) (by omega) (by omega) λk=>by rw [Qon]; omega
 rw [this]; push_cast; grind
theorem Bb (p q:List Int) (t:Rat):Uy (Px p q) t=Uy p t-Uy q t:=by
 have:=Ba 1 (-1) t (max (max p.length q.length) (Px p q).length) p q (Px p q) (by omega) (by omega) (by omega) λk=>by rw [Im]; omega
 rw [this]; push_cast; grind
theorem Qes (p:List Int) (t:Rat):Uy (Pg p) t=-Uy p t:=by
 have:=Ba (-1) 0 t (max p.length (Pg p).length) p p (Pg p) (by omega) (by omega) (by omega) λk=>by rw [Q49]; omega
 rw [this]; push_cast; grind
theorem Ru (p:List Int) (c:Int) (t:Rat):Uy (Fg p c) t=Uy p t*(c:Rat):=by
 have:=Ba c 0 t (max p.length (Fg p c).length) p p (Fg p c) (by omega) (by omega) (by omega) λk=>by rw [Pv,Wh]; omega
 rw [this]; push_cast; grind
theorem Qrb:∀ (l:List Int) (j:Nat) (v:Int) (t:Rat),j<l.length->Uy (l.set j v) t=Uy l t+((v:Rat)-((l.getD j 0:Int):Rat))*t^j
 | [],_,_,_,h=>by simp at h
 |
  a::l,0,v,t,_=>by
  show (v:Rat)+t*Uy l t=(a:Rat)+t*Uy l t+((v:Rat)-(a:Rat))*t^0;rw [Xc]; grind
 |
  a::l,j+1,v,t,h=>by
  have ih:=Qrb l j v t (by simpa using h);show (a:Rat)+t*Uy (l.set j v) t=(a:Rat)+t*Uy l t+((v:Rat)-((l.getD j 0:Int):Rat))*t^(j+1);rw [ih,Z8]; grind
theorem Qlw:∀ (l:List Int) (k:Nat) (t:Rat),k<l.length->Uy (l.take (k+1)) t=Uy (l.take k) t+((l.getD k 0:Int):Rat)*t^k
 | [],_,_,h=>by simp at h
 |
  a::l,0,t,_=>by
  show (a:Rat)+t*Uy (l.take 0) t=0+(a:Rat)*t^0;rw [Xc,V3];show (a:Rat)+t*0=_;grind
 |
  a::l,k+1,t,h=>by
  have ih:=Qlw l k t (by simpa using h);show (a:Rat)+t*Uy (l.take (k+1)) t=(a:Rat)+t*Uy (l.take k) t+((l.getD k 0:Int):Rat)*t^(k+1);rw [ih,Z8]; grind
theorem Qop (n:Nat) (t:Rat):Uy (List.replicate n 0) t=0:=by
 induction n with
 | zero=>rfl
 |
  succ n ih =>
  show ((0:Int):Rat)+t*Uy (List.replicate n 0) t=0;rw [ih]; push_cast; grind
theorem Qvi (t:Rat) (i:Nat):∀ k,t^(i+k)=t^i*t^k
 | 0=>by rw [Xn,Xc]; grind
 | k+1=>by rw [<-Ym,Z8,Z8,Qvi t i k]; grind
theorem Qu0 (x:Int) (b:List Int) (i:Nat) (o:List Int) (t:Rat):∀ k,k<=b.length->i+k<=o.length->Uy (Ia x b i o k) t=Uy o t+(x:Rat)*t^i*Uy (b.take k) t
 |
  0,_,_=>by
  show Uy o t=Uy o t+(x:Rat)*t^i*0;grind
 |
  k+1,h1,h2=>by
  have ih:=Qu0 x b i o t k (by omega) (by omega);simp only [Ia];rw [Qrb _ _ _ _ (by rw [Ib]; omega),ih,Qlw b k t (by omega)];have hp:t^(i+k)=t^i*t^k:=Qvi t i k;rw [hp]
  push_cast
  grind
theorem Quz (a b o:List Int) (t:Rat):∀ i,i<=a.length->i+b.length<=o.length+1->Uy (Ny a b o i) t=Uy o t+Uy (a.take i) t*Uy b t
 |
  0,_,_=>by
  show Uy o t=Uy o t+0*Uy b t;grind
 |
  i+1,h1,h2=>by
  have ih:=Quz a b o t i (by omega) (by omega);simp only [Ny];rw [Qu0 _ _ _ _ _ b.length (Qm _) (by rw [Nz]; omega),ih,Qlw a i t (by omega),Qy];grind
theorem Fp (a b:List Int) (t:Rat):Uy (Fx a b) t=Uy a t*Uy b t:=by
 unfold Fx
 split
 ·rename_i h;rcases h with h | h
  ·rw [Qi h]; show (0:Rat)=0*_; grind
  ·rw [Qi h]; show (0:Rat)=_*0; grind
 ·rename_i h;rw [Ig,Quz a b _ t a.length (Qm _) (by rw [X1]; omega),Qop,Qy];grind
theorem Hy (z d:Int):(z:Rat) / (d:Rat)=Rat.divInt z d:=by
 by_cases h:d=0
 ·subst h; simp; grind
 ·rw [Js]; exact (Rat.divInt_eq_div z d ▸ by rw [Js])
theorem Q3e (a:List Int) (n d:Int) (hd:(d:Rat)≠0):∀ k,k<=a.length->(((Mb a n d k).2:Int):Rat)=(d:Rat)^k/\(((Mb a n d k).1:Int):Rat)*d=(d:Rat)^k*Uy (a.drop (a.length-k)) ((n:Rat) / d)
 |
  0,_=>by
  refine ⟨by rw [Xc]; rfl,?_⟩;rw [Wn,Yu];show ((0:Int):Rat)*d=(d:Rat)^0*0
  push_cast; grind
 |
  k+1,hk=>by
  obtain ⟨h1,h2⟩:=Q3e a n d hd k (by omega);have hi:a.length-1-k<a.length:=by omega
  have e1:a.drop (a.length-(k+1))=a.getD (a.length-1-k) 0::a.drop (a.length-k):=by
   rw [show a.length-(k+1)=a.length-1-k by omega,Ze hi,show a.length-1-k+1=a.length-k by omega];congr 1;rw [Qg,Qe hi]; rfl
  refine ⟨?_,?_⟩
  ·show (((Mb a n d k).2*d:Int):Rat)=_;rw [Xs,h1,Z8]
  ·rw [e1];show (((Mb a n d k).1*n+a.getD (a.length-1-k) 0*(Mb a n d k).2:Int):Rat)*d=_*(((a.getD (a.length-1-k) 0:Int):Rat)+(n:Rat) / d*Uy (a.drop (a.length-k)) ((n:Rat) / d));rw [Kq,Xs,Xs,h1,Z8];have h3:(n:Rat) / d*d=n:=by rw [Zk hd]
   have h4:(d:Rat)^k*d*((n:Rat) / d*Uy (a.drop (a.length-k)) ((n:Rat) / d))=((n:Rat) / d*d)*((d:Rat)^k*Uy (a.drop (a.length-k)) ((n:Rat) / d)):=by grind
   have h5:(d:Rat)^k*d*(((a.getD (a.length-1-k) 0:Int):Rat)+(n:Rat) / d*Uy (a.drop (a.length-k)) ((n:Rat) / d))=(d:Rat)^k*d*((a.getD (a.length-1-k) 0:Int):Rat)+(d:Rat)^k*d*((n:Rat) / d*Uy (a.drop (a.length-k)) ((n:Rat) / d)):=by grind
   rw [h5,h4,h3,<-h2];grind
theorem Q2i {d:Rat} (h:0<d):∀ k:Nat,0<d^k
 | 0=>by rw [Xc]; decide
 | k+1=>by rw [Z8]; exact Jk (Q2i h k) h
theorem D8 {x y:Rat} (h:0<y):U5 (y*x)=U5 x:=by
 unfold U5;have h1:y*x<0↔x<0:=by
  constructor
  ·intro h2;rcases V5 (a:=0) (b:=x) with h3 | h3
   ·have:=V6 (Qr h) h3; grind
   ·rcases Rat.le_iff_lt_or_eq.1 h3 with h4 | h4
    ·exact h4
    ·rw [h4] at h2; grind
  ·intro h2;have:=Jk h (show 0 < -x by grind);grind
 have h2:0<y*x↔0<x:=by
  constructor
  ·intro h2;rcases V5 (a:=x) (b:=0) with h3 | h3
   ·have:=V6 (Qr h) (show 0<=-x by grind); grind
   ·rcases Rat.le_iff_lt_or_eq.1 h3 with h4 | h4
    ·exact h4
    ·rw [<-h4] at h2; grind
  ·intro h2; exact Jk h h2
 simp only [h1,h2]
theorem Q8h (z:Int):No z 0=U5 (z:Rat):=by
 unfold No U5;have h1:((z:Int):Rat)<0↔z<0:=by
  have := @Rat.intCast_lt_intCast z 0; simpa using this
 have h2:0<((z:Int):Rat)↔0<z:=by
  have := @Rat.intCast_lt_intCast 0 z; simpa using this
 simp only [h1,h2]
theorem Bf (p:List Int) (q:Rat):G8 p q=U5 (Uy p q):=by
 have hd0:(0:Rat)<((q.den:Int):Rat):=by
  have := @Rat.intCast_lt_intCast 0 (q.den:Int);rw [show ((0:Int):Rat)=0 from rfl] at this;exact this.2 (den_pos q)
 have hd:((q.den:Int):Rat)≠0:=by intro h; rw [h] at hd0; exact absurd hd0 (by decide)
 obtain ⟨_,h⟩:=Q3e p q.num q.den hd p.length (Qm _);rw [Jq,Xq,Hy,Z3] at h;unfold G8;rw [Q8h,<-D8 hd0,Uk];show U5 ((((Mb p q.num q.den p.length).1:Int):Rat)*_)=_;rw [h,D8 (Q2i hd0 _)]
def cz (p:List Int):List Rat:=p.map λz:Int=>(z:Rat)
theorem Uz (t:Rat):∀ p,ev (cz p) t=Uy p t
 | []=>rfl
 | a::p=>by have:=Uz t p; simp only [cz,Z1,ev,Uy] at *; rw [this]
theorem P6:∀ (p:List Int) (k:Nat),(cz p).getD k 0=((p.getD k 0:Int):Rat)
 | [],k=>by simp [cz]
 | a::p,0=>by simp [cz]
 | a::p,k+1=>by have:=P6 p k; simp only [cz,Z1,Q4] at *; exact this
theorem C9 {p q:List Int} (h:∀ t,Uy p t=Uy q t) (k:Nat):p.getD k 0=q.getD k 0:=by
 have:=Cq (p:=cz p) (q:=cz q) (λt=>by rw [Uz,Uz,h]) k;rw [P6,P6] at this
 exact_mod_cast this
theorem Zhd {p q:List Int} (hp:U0 p) (hq:U0 q) (h:∀ k,p.getD k 0=q.getD k 0):p=q:=by
 have key:∀ {p q:List Int},U0 p->U0 q->(∀ k,p.getD k 0=q.getD k 0)->p.length<=q.length:=λ{p q} hp hq h=>by
  rcases Za q.length p.length with e | e
  ·have:=Hi hp (by omega);rw [h,Qg,Qt (by omega)] at this;exact absurd rfl this
  ·exact e
 exact Qks (Ko (key hp hq h) (key hq hp λk=>(h k).symm)) λj _=>h j
theorem Q2e {p q:List Int} (hp:U0 p) (hq:U0 q) (h:∀ t,Uy p t=Uy q t):p=q:=Zhd hp hq (C9 h)
theorem Zf8 {p:List Int} (hp:U0 p) (h:∀ t,Uy p t=0):p=[]:=Q2e hp rfl λt=>by rw [h]; rfl
theorem Cv {p:List Int} (h:p.length=0) (t:Rat):Uy p t=0:=by rw [Qi h]; rfl
theorem Q2c:∀ (p r:List Int) (t:Rat),(∀ k,r.getD k 0=p.getD (k+1) 0*((k+1:Nat):Int))->Uy r t=dv (cz p) t
 |
  [],r,t,h=>by
  rw [Q2d (q:=[]) (λk=>by rw [h]; simp) t]; rfl
 |
  a::p,r,t,h=>by
  have ih:=Q2c p (Gg p) t λk=>Ng p k
  have e:Uy r t=Uy p t+t*Uy (Gg p) t:=by
   have:=Ba 1 1 t (max (max p.length (0::Gg p).length) r.length) p (0::Gg p) r (by omega) (by omega) (by omega) λk=>by
    rw [h,Q4];cases k with
    | zero=>simp
    | succ k=>rw [Q4,Ng]; push_cast; grind
   rw [this]; simp only [Uy]; push_cast; grind
  rw [e,ih];show _=ev (cz p) t+t*dv (cz p) t;rw [Uz]
theorem If (p:List Int) (t:Rat):Uy (Gg p) t=dv (cz p) t:=Q2c p _ t λk=>Ng p k
theorem Qhq {p:List Int} (hp:U0 p) (h:0<p.length):HD (cz p) (p.length-1):=by
 refine ⟨?_,λk hk=>?_⟩
 ·rw [P6];have:=Hi hp h;exact λe=>this (by exact_mod_cast e)
 ·rw [P6,Qg,Qt (by omega)]; rfl
theorem Qhi {p:List Int} (hp:U0 p) (h:0<p.length):¬∀ t,Uy p t=0:=λh0=>by
 rw [Zf8 hp h0] at h; exact absurd h (by simp)
theorem P8 {a b c:List Int} (ha:U0 a) (hb:U0 b) (hc:U0 c) (h:∀ t,Uy c t=Uy a t*Uy b t) (la:0<a.length) (lb:0<b.length):c.length=a.length+b.length-1:=by
 have h1:=Qk9 (Qhq ha la) (Qhq hb lb);have h2:HD (cz c) (a.length-1+(b.length-1)):=Zih (λt=>by rw [U4,Uz,Uz,Uz,h]) h1;have lc:0<c.length:=by
  rcases Qz c.length with e | e
  ·exact absurd (λt=>by rw [Uz]; exact Cv e t) (Q1g h2)
  ·exact e
 have:=Zii (Qhq hc lc) h2;omega
theorem Qu8:∀ (n m:Nat),m<=n->2<=m->∃ P,2<=P/\P∣m/\∀ d,2<=d->d∣P->d=P
 | 0,m,h,h2=>by omega
 |
  n+1,m,h,h2=>by
  rcases Classical.em (∃ d,2<=d/\d<m/\d∣m) with ⟨d,d1,d2,d3⟩ | h0
  ·obtain ⟨P,p1,p2,p3⟩:=Qu8 n d (by omega) d1;exact ⟨P,p1,Nat.dvd_trans p2 d3,p3⟩
  ·refine ⟨m,h2,Nat.dvd_refl m,λd d1 d2=>?_⟩;rcases Vo (Kh (by omega) d2) with e | e
   ·exact absurd ⟨d,d1,e,d2⟩ h0
   ·exact e
theorem Qqg {P:Nat} (h2:2<=P) (hP:∀ d,2<=d->d∣P->d=P) {x y:Int} (h:(P:Int)∣x*y):(P:Int)∣x\/(P:Int)∣y:=by
 have h:=Xp.2 h;rw [Jt,Z9] at h;have hg:=K5 P x.natAbs;rcases Za (Nat.gcd P x.natAbs) 2 with e | e
 ·right;have h1:Nat.gcd P x.natAbs=1:=by
   have:=Nat.gcd_pos_of_pos_left x.natAbs (show 0<P by omega); omega
  have:=Nat.Coprime.dvd_of_dvd_mul_left h1 h;exact Xp.1 (by rwa [Z9])
 ·left;have:=hP _ e hg;have h3:=Ua P x.natAbs;rw [this] at h3;exact Xp.1 (by rwa [Z9])
def Qv8 (P:Int) (l:List Int):Prop:=∀ k,P∣l.getD k 0
theorem Qfo {P:Nat} (h2:2<=P) (hP:∀ d,2<=d->d∣P->d=P):∀ (n:Nat) (b h c:List Int),b.length+h.length<=n->(∀ t,Uy c t=Uy b t*Uy h t)->Qv8 P c->Qv8 P b\/Qv8 P h
 | _,[],h,c,_,_,_=>.inl λk=>by simp
 | _,x::b,[],c,_,_,_=>.inr λk=>by simp
 | 0,x::b,y::h,c,hn,_,_=>by simp at hn
 |
  n+1,x::b,y::h,c,hn,hc,hd=>by
  simp only [Q8] at hn;by_cases hx:(P:Int)∣x
  ·-- x h is taken away
   have e:∀ t,Uy (0::Fx b (y::h)) t=Uy (Px c (Fg (y::h) x)) t:=λt=>by
    rw [Bb,Ru,hc]; simp only [Uy]; rw [Fp]; simp only [Uy]; push_cast; grind
   have hd':Qv8 P (Fx b (y::h)):=λk=>by
    have:=C9 e (k+1);rw [Q4,Im,Pv] at this;rw [this];exact Int.dvd_sub (hd (k+1)) (Vk hx (Vd _ _))
   rcases Qfo h2 hP n b (y::h) _ (by simp only [Q8]; omega) (λt=>Fp _ _ t) hd' with h1 | h1
   ·refine .inl λk=>?_
    cases k with
    | zero=>rw [Zr]; exact hx
    | succ k=>rw [Q4]; exact h1 k
   ·exact .inr h1
  ·have h0:(P:Int)∣y:=by
    have e:c.getD 0 0=x*y:=by
     have:=C9 (p:=c) (q:=Fx (x::b) (y::h)) (λt=>by rw [hc,Fp]) 0;have e2:=C9 (p:=Fx (x::b) (y::h)) (q:=Al (Fg (y::h) x) (0::Fx b (y::h))) (λt=>by
      rw [Qu1,Ru,Fp]; simp only [Uy]; rw [Fp]; simp only [Uy]; push_cast; grind) 0
     rw [this,e2,Qon,Pv,Zr,Zr,Wh]; omega
    have:=hd 0;rw [e] at this;rcases Qqg h2 hP this with h1 | h1
    ·exact absurd h1 hx
    ·exact h1
   have e:∀ t,Uy (0::Fx (x::b) h) t=Uy (Px c (Fg (x::b) y)) t:=λt=>by
    rw [Bb,Ru,hc]; simp only [Uy]; rw [Fp]; simp only [Uy]; push_cast; grind
   have hd':Qv8 P (Fx (x::b) h):=λk=>by
    have:=C9 e (k+1);rw [Q4,Im,Pv] at this;rw [this];exact Int.dvd_sub (hd (k+1)) (Vk h0 (Vd _ _))
   rcases Qfo h2 hP n (x::b) h _ (by simp only [Q8]; omega) (λt=>Fp _ _ t) hd' with h1 | h1
   ·exact absurd (by have:=h1 0; rwa [Zr] at this) hx
   ·refine .inr λk=>?_
    cases k with
    | zero=>rw [Zr]; exact h0
    | succ k=>rw [Q4]; exact h1 k
def Prm (b:List Int):Prop:=∀ d:Int,Qv8 d b->d∣1
theorem Q9b {a b:List Int} (hb:Prm b):∀ (n:Nat) (c:Int) (h:List Int),c.natAbs<=n->c≠0->(∀ t,(c:Rat)*Uy a t=Uy b t*Uy h t)->∃ h',∀ t,Uy a t=Uy b t*Uy h' t
 | 0,c,h,hn,h0,_=>absurd (by omega) h0
 |
  n+1,c,h,hn,h0,hc=>by
  rcases Za c.natAbs 2 with h1 | h1
  ·refine ⟨Fg h c,λt=>?_⟩;have hcc:(c:Rat)*c=1:=by
    have:c*c=1:=by
     rcases (show c=1\/c=-1 by omega) with rfl | rfl <;> rfl
    have:=congrArg (λz:Int=>(z:Rat)) this
    push_cast at this; exact this
   rw [Ru];have:=hc t;have:Uy a t=(c:Rat)*((c:Rat)*Uy a t):=by
    have:(c:Rat)*((c:Rat)*Uy a t)=((c:Rat)*c)*Uy a t:=by grind
    rw [this,hcc]; grind
   rw [this,hc]; grind
  ·obtain ⟨P,p1,p2,p3⟩:=Qu8 c.natAbs c.natAbs (Qm _) h1;obtain ⟨d,hd⟩:∃ d,c=(P:Int)*d:=Wz.2 p2;have hall:Qv8 P (Fg a c):=λk=>by
    rw [Pv,hd]; exact Vk (W7 _ _) (Vd _ _)
   have hP0:(P:Rat)≠0:=by
    have:((0:Nat):Rat)<(P:Rat):=Vv.2 (by omega);grind
   rcases Qfo p1 p3 _ b h (Fg a c) (Qm _) (λt=>by rw [Ru,Uk,hc]) hall with e | e
   ·have:=hb P e;have:=Xp.2 this;rw [Z9] at this;have:=Kh (by decide) this;exact absurd this (by show ¬P<=1; omega)
   ·refine Q9b hb n d (h.map (· / (P:Int))) ?_ (λe0=>h0 (by rw [hd,e0,Ks])) λt=>?_
    ·rw [hd,Jt,Z9] at hn h1;have:2*d.natAbs<=P*d.natAbs:=Q0 _ p1;omega
    ·have e1:Uy h t=(P:Rat)*Uy (h.map (· / (P:Int))) t:=by
      have:=Ba P 0 t (max h.length (h.map (· / (P:Int))).length) (h.map (· / (P:Int))) [] h (by omega) (by simp) (by omega) λk=>by
       have:=e k;have e2:(h.map (· / (P:Int))).getD k 0=h.getD k 0 / (P:Int):=by
        rw [Qg,Qg,Q7];cases h[k]? <;> simp
       rw [e2,Wi this]; simp
      rw [this]; simp only [Uy]; push_cast; grind
     have:=hc t;rw [hd,e1] at this
     push_cast at this
     have h3:(P:Rat)*((d:Rat)*Uy a t)=(P:Rat)*(Uy b t*Uy (h.map (· / (P:Int))) t):=by grind
     have h4:=Y0.1 (show (P:Rat)*((d:Rat)*Uy a t-Uy b t*Uy (h.map (· / (P:Int))) t)=0 by grind);rcases h4 with h4 | h4
     ·exact absurd h4 hP0
     ·grind
theorem Qnk:∀ u:List Rat,∃ c:Int,c≠0/\∃ h:List Int,∀ t,(c:Rat)*ev u t=Uy h t
 | []=>⟨1,by decide,[],λt=>by simp only [ev,Uy]; grind⟩
 |
  a::u=>by
  obtain ⟨c,hc,h,hh⟩:=Qnk u;refine ⟨c*(a.den:Int),X9 hc (by have:=a.den_nz; omega),(c*a.num)::Fg h (a.den:Int),λt=>?_⟩;have e:(a.den:Rat)*a=a.num:=by
   rw [Uk];have:(a.num:Rat) / (((a.den:Int)):Rat)=a:=by rw [Hy,Z3]
   have hd:(a.den:Rat)≠0:=by
    have:((0:Nat):Rat)<(a.den:Rat):=Vv.2 a.den_pos;grind
   have h2:(a.num:Rat) / (a.den:Rat)*(a.den:Rat)=a.num:=Zk hd;rw [show (a.num:Rat) / (a.den:Rat)=a from this] at h2; exact h2
  simp only [ev,Uy];rw [Ru,<-hh]
  push_cast
  rw [<-e];have e3:(((a.den:Int)):Rat)=(a.den:Rat):=rfl;grind
theorem Q9a {a b:List Int} (hb:Prm b) (h:O3 (cz b) (cz a)):∃ h',U0 h'/\∀ t,Uy a t=Uy b t*Uy h' t:=by
 obtain ⟨u,hu⟩:=h;obtain ⟨c,hc,h,hh⟩:=Qnk u;obtain ⟨h',e⟩:=Q9b hb c.natAbs c h (Qm _) hc λt=>by
  have:=hu t;rw [Uz,Uz] at this;rw [this,<-hh]; grind
 exact ⟨trim h',Rf _,λt=>by rw [Ig,e]⟩
def sd (x0:Rat):List Rat->List Rat
 | []=>[]
 | _::p=>Tw p (Cx x0 (sd x0 p))
theorem Q82 (x0 x:Rat):∀ p,ev (sd x0 p) x=dq p x x0
 | []=>rfl
 | a::p=>by simp only [sd,dq]; rw [Gk,Ga,Q82 x0 x p]
theorem Qy0 (x0:Rat):∀ (g:List Rat) (n:Nat),(∀ j,n<j->g.getD j 0=0)->∀ j,n<=j->(sd x0 g).getD j 0=0
 | [],n,_,j,_=>by simp [sd]
 |
  a::p,0,h,j,_=>by
  have hp:∀ j,p.getD j 0=0:=λj=>by have:=h (j+1) (by omega); rwa [Q4] at this
  simp only [sd];rw [H9,Tt,hp,Qy0 x0 p 0 (λj _=>hp j) j (Qh _)]; grind
 |
  a::p,n+1,h,j,hj=>by
  have hp:∀ j,n<j->p.getD j 0=0:=λj hj=>by have:=h (j+1) (by omega); rwa [Q4] at this
  simp only [sd];rw [H9,Tt,hp j (by omega),Qy0 x0 p n hp j (by omega)]; grind
theorem Qxs {K:Rat} (hK:0≤K):∀ (e:Nat) (g:List Rat) (pts:List Int) (M:Rat),pts.length=e+1->pts.Nodup->(∀ x∈pts,U8 (x:Rat)≤K)->(∀ k,e<k->g.getD k 0=0)->(∀ x∈pts,U8 (ev g (x:Rat))≤M)->∀ k,U8 (g.getD k 0)≤(2*K+3)^e*M
 | _,_,[],_,h,_,_,_,_=>by simp at h
 |
  0,g,x0::xs,M,_,_,_,hg,hM=>λk=>by
  have h0:=hM x0 (by simp);rw [Xc];cases k with
  |
   zero =>
   have e:ev g (x0:Rat)=g.getD 0 0:=by
    cases g with
    | nil=>rfl
    |
     cons a p =>
     have hp:=C6 (p:=p) λj=>by have:=hg (j+1) (by omega); rwa [Q4] at this
     simp only [ev,hp,Zr]; grind
   rw [<-e]; grind
  |
   succ k =>
   rw [hg (k+1) (by omega),H7];have:=Hn (ev g (x0:Rat)); grind
 |
  e+1,g,x0::xs,M,hl,hn,hb,hg,hM=>λk=>by
  have hx0:=hb x0 (by simp);have hM0:=hM x0 (by simp);have hMn:0<=M:=Zg (Hn _) hM0;rw [List.nodup_cons] at hn;have ih:=Qxs hK e (sd x0 g) xs (2*M) (by simpa using hl) hn.2 (λx hx=>hb x (by simp [hx])) (λj hj=>Qy0 _ g (e+1) hg j (by omega)) λx hx=>by
   have h1:=hM x (by simp [hx]);have h2:=Qns (x:Rat) (x0:Rat) g;rw [<-Q82] at h2;have hne:x-x0≠0:=λh=>hn.1 (by rw [show x0=x by omega]; exact hx)
   have h3:=Qdb hne;rw [Rat.intCast_sub] at h3;have h4:U8 (ev g (x:Rat)-ev g (x0:Rat))<=2*M:=by
    have:=Tv (ev g (x:Rat)) (-ev g (x0:Rat));rw [D7,show ev g (x:Rat)+-ev g (x0:Rat)=ev g (x:Rat)-ev g (x0:Rat) by grind] at this;clear hM hb hg; grind
   rw [h2,E8] at h4;have h5:=Zc h3 (Hn (ev (sd x0 g) x));clear hM hb hg; grind
  have e1:∀ t,ev g t=ev (Tw [ev g x0] (Tw (Cx (-x0) (sd x0 g)) (0::sd x0 g))) t:=λt=>by
   have:=Qns t (x0:Rat) g;rw [<-Q82] at this;simp only [Gk,Ga,ev];grind
  have hp1:1<=(2*K+3)^e:=(Qb4 (R:=2*K+3) (x:=0) (by grind) (by rw [H7]; grind) e).2;have hpM:=M4 (x:=(2*K+3)^e) (y:=M) (by grind) hMn;have hpM1:=Zc hp1 hMn;rw [Z8,Cq e1 k,H9,H9,Tt];have a1:=ih k;have a2:U8 (-(x0:Rat)*(sd (x0:Rat) g).getD k 0)<=K*((2*K+3)^e*(2*M)):=Gz (by rw [D7]; exact hx0) a1;have fin:∀ u v w:Rat,U8 u<=M->U8 v<=K*((2*K+3)^e*(2*M))->U8 w<=(2*K+3)^e*(2*M)->U8 (u+(v+w))<=(2*K+3)^e*(2*K+3)*M:=λu v w h1 h2 h3=>by
   have b1:=Tv u (v+w);have b2:=Tv v w;clear ih e1 hM hb hg a1 a2; grind
  refine fin _ _ _ ?_ a2 ?_
  ·cases k with
   | zero=>rw [Zr]; exact hM0
   | succ k=>rw [Q4,K0,H7]; exact hMn
  ·cases k with
   | zero=>rw [Zr,H7]; clear ih e1 hM hb hg a1 a2 fin; grind
   | succ k=>rw [Q4]; exact ih k
theorem Zbl {g:List Rat} {e:Nat} (hg:∀ k,e<k->g.getD k 0=0) (hz:¬∀ t,ev g t=0) {pts:List Int} (hn:pts.Nodup) (hr:∀ x∈pts,ev g (x:Rat)=0):pts.length≤e:=by
 rcases Za e pts.length with h | h
 ·exfalso;obtain ⟨K,hK,hb⟩:∃ K:Rat,0≤K/\∀ x∈pts,U8 (x:Rat)≤K:=by
   clear hn hr h
   induction pts with
   | nil=>exact ⟨0,by decide,λx hx=>by cases hx⟩
   |
    cons y pts ih =>
    obtain ⟨K,h1,h2⟩:=ih;refine ⟨K+U8 (y:Rat),by have:=Hn (y:Rat); grind,λx hx=>?_⟩;have hy:=Hn (y:Rat);rcases Qo.1 hx with rfl | hx
    ·grind
    ·have:=h2 x hx; grind
  refine hz (C6 λk=>?_);have:=Qxs hK e g (pts.take (e+1)) 0 (by rw [Qp]; omega) (hn.sublist (W9 ..)) (λx hx=>hb x (Qn hx)) hg (λx hx=>by rw [hr x (Qn hx),H7]; exact Qq) k;have h2:=Hn (g.getD k 0);exact Zgj (by grind)
 ·exact h
def spots:List Int:=(List.range 19).map λi:Nat=>(i:Int)-9
theorem spots_nd:spots.Nodup:=by decide
theorem Qvm:∀ x∈spots,x.natAbs≤9:=by decide
theorem Qkv {α:Type} (p:α->Bool):∀ l:List α,(l.filter p).length+(l.filter λx => !p x).length=l.length
 | []=>rfl
 |
  x::l=>by
  have:=Qkv p l;cases h:p x <;> simp [h] <;> omega
def geo:Nat->Nat
 | 0=>0
 | n+1=>1+9*geo n
theorem Q09 {B:Rat}:∀ (p:List Int),(∀ z∈p,U8 (z:Rat)≤B)->evB 9 (cz p)≤B*(geo p.length:Nat)
 | [],_=>by simp only [cz,Ji,evB,geo,Vm]; rw [show ((0:Nat):Rat)=0 from rfl]; grind
 |
  a::p,h=>by
  have h1:=Q09 p λz hz=>h z (Qj _ hz)
  have h2:=h a (Qx ..);simp only [cz,Z1,evB,geo,Q8] at *
  push_cast
  clear h; grind
theorem Q9i {m n:Nat} (h:m<=n):geo m<=geo n:=by
 induction h with
 | refl=>exact Qm _
 | step h ih=>simp only [geo]; omega
def pz:List Int->Int->Int
 | [],_=>0
 | a::p,x=>a+x*pz p x
theorem Qdc (x:Int):∀ p,Uy p (x:Rat)=((pz p x:Int):Rat)
 | []=>rfl
 | a::p=>by simp only [Uy,pz,Qdc x p]; push_cast; rfl
theorem Ty (z:Int):U8 (z:Rat)=((z.natAbs:Nat):Rat):=by
 unfold U8;rcases Wg z 0 with h | h
 ·have h1:(z:Rat)<((0:Int):Rat):=Jj.2 h;rw [if_pos (by simpa using h1)];have:(z.natAbs:Int)=-z:=by omega
  have:=congrArg (λu:Int=>(u:Rat)) this
  push_cast at this
  exact this.symm
 ·have h1:((0:Int):Rat)<=(z:Rat):=X7.2 h;have h1:(0:Rat)<=(z:Rat):=by simpa using h1
  rw [if_neg (by grind)];have:(z.natAbs:Int)=z:=by omega
  have:=congrArg (λu:Int=>(u:Rat)) this;exact this.symm
theorem Qao {p g h:List Int} {s:Nat} (hp:Bd s p) (hl:p.length<=10) (tp:U0 p) (tg:U0 g) (th:U0 h) (h0:p.length≠0) (e:∀ t,Uy p t=Uy g t*Uy h t):Bd (s+69) g:=by
 have lg:0<g.length:=by
  rcases Qz g.length with e' | e'
  ·exact absurd (λt=>by rw [e,Cv e']; grind) (Qhi tp (by omega))
  ·exact e'
 have lh:0<h.length:=by
  rcases Qz h.length with e' | e'
  ·exact absurd (λt=>by rw [e,Cv e']; grind) (Qhi tp (by omega))
  ·exact e'
 have hlen:=P8 tg th tp e lg lh;obtain ⟨q,hq⟩:=nmE (spots.filter λx => !decide (pz p x=0));have hr:(spots.filter λx=>decide (pz p x=0)).length<=9:=by
  refine Zbl (g:=cz p) (e:=9) (λk hk=>?_) (λh=>Qhi tp (by omega) λt=>by rw [<-Uz]; exact h t) (spots_nd.sublist List.filter_sublist) λx hx=>?_
  ·rw [P6,Qg,Qt (by omega)]; rfl
  ·have:=(Km.1 hx).2;rw [Uz,Qdc,of_decide_eq_true this]; rfl
 have hc:=Qkv (λx=>decide (pz p x=0)) spots;rw [<-hq] at hc;have hsl:spots.length=19:=by decide
 have hB:∀ z∈p,U8 (z:Rat)≤((2^s:Nat):Rat):=λz hz=>by
  rw [Ty];have:=hp z hz;rw [T0] at this;exact Zi.2 (Yj this)
 have key:=Qxs (K:=9) (by decide) 9 (cz g) (q.take 10) (((2^s*435848050:Nat)):Rat) (by rw [Qp]; omega) ((spots_nd.sublist (by rw [hq]; exact List.filter_sublist)).sublist (W9 ..)) (λx hx=>by
  have hx:=Qn hx;rw [hq] at hx;have:=Qvm x (Km.1 hx).1;rw [Ty]
  exact_mod_cast Zi.2 this) (λk hk=>by rw [P6,Qg,Qt (by omega)]; rfl) (λx hx=>by
  have hx:=Qn hx;rw [hq] at hx;obtain ⟨hx1,hx2⟩:=Km.1 hx;have hne:pz p x≠0:=by simpa using hx2
  have e1:=e (x:Rat);rw [Qdc,Qdc,Qdc] at e1;have e2:pz p x=pz g x*pz h x:=by exact_mod_cast e1
  have hh:1<=(pz h x).natAbs:=by
   rcases Qz (pz h x).natAbs with e' | e'
   ·exact absurd (by rw [e2,Int.natAbs_eq_zero.1 e',Ks]) hne
   ·exact e'
  have h3:(pz g x).natAbs<=(pz p x).natAbs:=by
   rw [e2,Jt];exact J0 _ hh
  rw [Uz,Qdc,Ty];refine Zg (Zi.2 h3) ?_;rw [<-Ty,<-Qdc,<-Uz];refine Zg (Qhk (R:=9) (by
   have:=Qvm x hx1;rw [Ty]
   exact_mod_cast Zi.2 this) _) ?_
  refine Zg (Q09 p hB) ?_;have:2^s*geo p.length<=2^s*435848050:=Zs _ (Qc (Q9i hl) (by decide));have:=Zi.2 this
  push_cast at this ⊢
  exact this)
 refine Qjm λk=>?_
 have h1:=key k;rw [P6,Ty] at h1;have e3:(2*(9:Rat)+3)^9*((2^s*435848050:Nat):Rat)=(((794280046581*(2^s*435848050)):Nat):Rat):=by
  rw [show (2*(9:Rat)+3)^9=794280046581 by grind]
  push_cast; rfl
 rw [e3] at h1;have h2:=Zi.1 h1;rw [T0];refine Zw h2 ?_;have:794280046581*(2^s*435848050)=2^s*(794280046581*435848050):=by
  rw [Kw]
 rw [this,Xb];exact Nat.mul_lt_mul_of_pos_left (by decide) (Z2 (by decide))
theorem Qtl {l:List Int} {d:Int} (h:∀ z∈l,d∣z):d∣((Hj l:Nat):Int):=by
 have key:∀ (l:List Int) (g:Nat),d.natAbs∣g->(∀ z∈l,d∣z)->d.natAbs∣l.foldl (λg z=>Nat.gcd g z.natAbs) g:=by
  intro l
  induction l with
  | nil=>exact λg h _=>h
  | cons z l ih=>exact λg hg h=>ih _ (Nat.dvd_gcd hg (Xp.2 (h z (Qx ..)))) λu hu=>h u (Qj _ hu)
 have:=key l 0 (Nat.dvd_zero _) h;exact Xp.1 (by rw [Z9]; exact this)
theorem Qea (p:List Int) (c:Int) (k:Nat):(p.map (· / c)).getD k 0=p.getD k 0 / c:=by
 rw [Qg,Qg,Q7];cases p[k]? <;> simp
theorem Qdd (p:List Int) (c:Int) (k:Nat):(Bz p c).getD k 0=p.getD k 0 / c:=by
 unfold Bz; rw [Ln,Qea]
theorem Qoo {p:List Int} {c:Int} (h:∀ z∈p,c∣z) (t:Rat):Uy p t=(c:Rat)*Uy (Bz p c) t:=by
 have:=Ba c 0 t (max p.length (Bz p c).length) (Bz p c) [] p (by omega) (by simp) (by omega) λk=>by
  rw [Qdd];have hd:c∣p.getD k 0:=by
   rw [Qg];cases e:p[k]? with
   | none=>exact Int.dvd_zero _
   | some z=>exact h z (Qa e)
  rw [Wi hd]; simp
 rw [this]; simp only [Uy]; push_cast; grind
theorem Qas {c:Int} (h:c≠0):(c:Rat)≠0:=λe=>h (by exact_mod_cast e)
theorem Oh {p q:List Int} {c:Rat} (tp:U0 p) (tq:U0 q) (hc:c≠0) (h:∀ t,Uy p t=c*Uy q t):p.length=q.length:=by
 have key:∀ {p q:List Int} {c:Rat},U0 p->U0 q->c≠0->(∀ t,Uy p t=c*Uy q t)->p.length<=q.length:=λ{p q c} tp tq hc h=>by
  rcases Za q.length p.length with e | e
  ·have h1:=Hi tp (by omega);have:=Cq (p:=cz p) (q:=Cx c (cz q)) (λt=>by rw [Uz,Ga,Uz,h]) (p.length-1);rw [P6,Tt,P6,Qg (l:=q),Qt (by omega)] at this;have:((p.getD (p.length-1) 0:Int):Rat)=0:=by rw [this]; simp
   exact absurd (by exact_mod_cast this) h1
  ·exact e
 refine Ko (key tp tq hc h) (key (c:=1 / c) tq tp (λe=>?_) λt=>?_)
 ·have:=Zk (a:=1) hc; rw [e] at this; grind
 ·rw [h]; have:=Zk (a:=1) hc; grind
theorem Be {p:List Int} (tp:U0 p) (h:p.length≠0):U0 (U7 p)/\(U7 p).length=p.length/\Prm (U7 p)/\0<Fa (U7 p)/\(∀ s,Bd s p->Bd s (U7 p))/\Hd p≠0/\∀ t,Uy p t=(Hd p:Rat)*Uy (U7 p) t:=by
 have h0:=Q2f tp h;have e:U7 p=Bz p (Hd p):=by unfold U7; rw [if_neg h]
 have h1:=Qoo (p:=p) (c:=Hd p) Qet;have hl:=Oh tp (Om p (Hd p)) (Qas h0) h1;have hcp:0<Sp p:=by
  have:=Qa6 tp h;unfold Sp at this ⊢; omega
 rw [e];refine ⟨Om _ _,hl.symm,λd hd=>?_,?_,λs hs=>Qjn hs _,h0,h1⟩
 ·have h2:∀ z∈p,d*Hd p∣z:=λz hz=>by
   obtain ⟨i,hi⟩:=Zd.1 hz;have h3:=hd i;rw [Qdd,Qg,hi] at h3;obtain ⟨k,hk⟩:=h3;have h4:=Qet z hz;refine ⟨k,?_⟩;have:z / Hd p*Hd p=z:=Wo h4;rw [<-this];rw [show z / Hd p=d*k from hk,Int.mul_right_comm]
  have h3:=Qtl h2;have h4:Hd p∣((Hj p:Nat):Int)/\((Hj p:Nat):Int)∣Hd p:=by
   unfold Hd Sp; split
   ·exact ⟨Uq.2 (Wc _),Int.dvd_neg.2 (Wc _)⟩
   ·exact ⟨Wc _,Wc _⟩
  obtain ⟨k,hk⟩:=Vk h3 h4.2;refine ⟨k,?_⟩;have:Hd p*(d*k)=Hd p*1:=by rw [Wx,<-Int.mul_assoc,Wh (Hd p) d,<-hk]
  exact (Int.eq_of_mul_eq_mul_left h0 this).symm
 ·have h2:Fa (Bz p (Hd p))=Fa p / Hd p:=by unfold Fa; rw [<-hl,Qdd]
  have h3:Hd p∣Fa p:=Qet _ (Qlj h);have h5:Fa p / Hd p*Hd p=Fa p:=Wo h3;rw [h2];have h6:=D4 tp h;rcases J1 (Fa p / Hd p) 0 with e1 | e1 | e1
  ·exfalso;by_cases hn:Fa p<0
   ·have:Hd p=-Sp p:=by unfold Hd; rw [if_pos hn]
    have:0<Fa p / Hd p*Hd p:=Kl e1 (by omega);omega
   ·have:Hd p=Sp p:=by unfold Hd; rw [if_neg hn]
    have:Fa p / Hd p*Hd p<0:=Int.mul_neg_of_neg_of_pos e1 (by omega);omega
  ·rw [e1] at h5; omega
  ·exact e1
theorem Zat {r:List Int} (tr:U0 r):∃ c:Rat,0<c/\∀ t,Uy r t=c*Uy (Qco r) t:=by
 unfold Qco;by_cases h:r.length=0
 ·rw [if_pos h]; exact ⟨1,by decide,λt=>by rw [Cv h,Cv rfl]; grind⟩
 ·rw [if_neg h];have h1:0<Sp r:=by
   have:=Qa6 tr h;unfold Sp at this ⊢; omega
  have h2:((0:Int):Rat)<(Sp r:Rat):=Jj.2 h1;exact ⟨Sp r,by simpa using h2,Qoo Lf⟩
theorem Qa7 (x:Int) (t:Rat):∀ i,Uy (mono i x) t=(x:Rat)*t^i
 | 0=>by simp only [mono,Ws,Yi,Uy,Xc]; grind
 |
  i+1=>by
  have ih:=Qa7 x t i;simp only [mono,J8,Xd,Uy] at *;rw [ih,Z8]; push_cast; grind
theorem Q1y (x:Int) (b:List Int) (i k:Nat):(Fx (trim (mono i x)) b).getD k 0=if i<=k then x*b.getD (k-i) 0 else 0:=by
 have e:∀ t,Uy (Fx (trim (mono i x)) b) t=Uy (List.replicate i 0++b.map (x * ·)) t:=λt=>by
  rw [Fp,Ig,Qa7];have h2:∀ i,Uy (List.replicate i 0++b.map (x * ·)) t=t^i*((x:Rat)*Uy b t):=λi=>by
   induction i with
   |
    zero =>
    simp only [Ws,Yi,Xc];have:=Ba x 0 t (max b.length (b.map (x * ·)).length) b [] (b.map (x * ·)) (by omega) (by simp) (by omega) λk=>by
     rw [Qg,Qg,Q7];cases b[k]? <;> simp
    rw [this]; simp only [Uy]; push_cast; grind
   | succ i ih=>simp only [J8,Xd,Uy,ih,Z8]; push_cast; grind
  rw [h2]; grind
 rw [C9 e k,Qg,List.getElem?_append,X1];by_cases h:i<=k
 ·rw [if_neg (by omega),if_pos h,Q7,Qg];cases b[k-i]? <;> simp
 ·rw [if_pos (by omega),if_neg h,Jy,if_pos (by omega)]; rfl
theorem Q9w {p:List Int} {n:Nat} (tp:U0 p) (h:p.length<=n+1) (h0:p.getD n 0=0):p.length<=n:=by
 rcases Za n p.length with e | e
 ·have:=Hi tp (by omega);rw [show p.length-1=n by omega] at this;exact absurd h0 this
 ·exact e
theorem Zg9 {b r:List Int} {i:Nat} (tr:U0 r) (h:r.length<=b.length+i) (hb:b.length≠0) {x:Int} (hx:x=if r.length=b.length+i then Fa r else 0):(str b (Fa b) i x r).length<b.length+i:=by
 have hl:=Qqv (c:=Fa b) (x:=x) (i:=i) (b:=b) (r:=r);have:=Q9w (p:=str b (Fa b) i x r) (n:=b.length+i-1) (Fu _ _) (by omega) (by
  unfold str;rw [Im,Pv,Q1y,if_pos (by omega),hx,show b.length+i-1-i=b.length-1 by omega]
  split
  ·rename_i he;unfold Fa;rw [he,Int.sub_eq_zero]
  ·rw [Qg (l:=r),Qt (by omega)]; simp)
 omega
theorem Zll (b r:List Int) (c:Int) (i:Nat) (x:Int) (t:Rat):(c:Rat)*Uy r t=(x:Rat)*t^i*Uy b t+Uy (str b c i x r) t:=by
 unfold str;rw [Bb,Ru,Fp,Ig,Qa7]; grind
theorem Zaz (b:List Int) (c:Int):∀ (i:Nat) (q r:List Int),∃ X:List Rat,∀ t,((c^i:Int):Rat)*Uy r t=ev X t*Uy b t+Uy (psd b c i (q,r)).2 t
 | 0,q,r=>⟨[],λt=>by simp only [psd,ev]; rw [Int.pow_zero]; push_cast; grind⟩
 |
  i+1,q,r=>by
  obtain ⟨x,hx⟩:=nmE (if r.length=b.length+i then Fa r else 0);obtain ⟨X,hX⟩:=Zaz b c i (stq c i x q) (str b c i x r);obtain ⟨m,hm⟩:∃ m:List Rat,∀ t,ev m t=(x:Rat)*t^i:=⟨cz (mono i x),λt=>by rw [Uz,Qa7]⟩;refine ⟨Tw (Cx ((c^i:Int):Rat) m) X,λt=>?_⟩;rw [Qba hx,Gk,Ga,hm];have h1:=hX t;have h2:=Zll b r c i x t;rw [Int.pow_succ]
  push_cast at h1 ⊢
  have:(c:Rat)^i*c*Uy r t=(c:Rat)^i*((c:Rat)*Uy r t):=by grind
  rw [this,h2]; grind
theorem Q2k {b:List Int} (hb:b.length≠0):∀ (i:Nat) (q r:List Int),U0 r->r.length<b.length+i->U0 (psd b (Fa b) i (q,r)).2/\(psd b (Fa b) i (q,r)).2.length<b.length
 | 0,q,r,tr,h=>⟨tr,h⟩
 |
  i+1,q,r,tr,h=>by
  rw [Qba rfl];exact Q2k hb i _ _ (Fu _ _) (Zg9 tr (by omega) hb rfl)
theorem Zay {b:List Int} {c:Int} {t:Nat} (hb:Bd t b) (hc:U6 c<=t):∀ (i u:Nat) (q r:List Int),i<=64->Bd u r->Bd (u+i*(t+8)) (psd b c i (q,r)).2
 | 0,u,q,r,_,h=>by simpa [psd] using h
 |
  i+1,u,q,r,hi,h=>by
  rw [Qba rfl];have hx:U6 (if r.length=b.length+i then Fa r else 0)<=u:=by
   split
   ·exact Mj h
   ·rw [Mk]; exact Qh _
  have:=Zay hb hc i (u+t+8) (stq c i (if r.length=b.length+i then Fa r else 0) q) (str b c i (if r.length=b.length+i then Fa r else 0) r) (by omega) (Qwf h hb hc hx (by omega));exact Ut this (by rw [Z7]; omega)
theorem Ql3 {c:Int} (h:c<0):∀ k:Nat,(k % 2=1->c^k<0)/\(k % 2=0->0<c^k)
 | 0=>⟨λh=>by omega,λ_=>by rw [Int.pow_zero]; decide⟩
 |
  k+1=>by
  obtain ⟨i1,i2⟩:=Ql3 h k;rw [Int.pow_succ];exact ⟨λhk=>Y7 (i2 (by omega)) h,λhk=>Kl (i1 (by omega)) h⟩
theorem Qi8 {a b:List Int} (ta:U0 a) (tb:U0 b) (hb:b.length≠0) (hl:a.length<=60):U0 (Rp a b)/\(Rp a b).length<b.length/\(∀ s,Bd s a->Bd s b->Bd (s+(a.length+1-b.length)*(s+8)) (Rp a b)) /\
 ∃ u v:Rat,0<u/\0<v/\∃ X:List Rat,∀ t,u*Uy a t=ev X t*Uy b t+v*Uy (Rp a b) t:=by
 obtain ⟨k,hk⟩:=nmE (a.length+1-b.length);have h1:U0 (Pn a b)/\(Pn a b).length<b.length:=Q2k hb _ _ _ ta (by omega);obtain ⟨X,hX⟩:=Zaz b (Fa b) k [] a;have hX:∀ t,(((Fa b)^k:Int):Rat)*Uy a t=ev X t*Uy b t+Uy (Pn a b) t:=by unfold Pn; rw [<-hk]; exact hX
 have h2:=Qex (a:=a) (b:=b) (r:=Pn a b) (n:=(Pn a b).length) (s:=(Pn a b).foldl (λm z=>m+U6 z) 0) h1.1 (Qm _) (λz hz=>by
  have key:∀ (l:List Int) (m:Nat),m≤l.foldl (λm z=>m+U6 z) m/\∀ z∈l,U6 z≤l.foldl (λm z=>m+U6 z) m:=by
   intro l
   induction l with
   | nil=>exact λm=>⟨Qm _,λz hz=>by cases hz⟩
   |
    cons y l ih =>
    intro m;obtain ⟨i1,i2⟩:=ih (m+U6 y);refine ⟨by simp only [Z6]; omega,λz hz=>?_⟩;simp only [Z6];rcases Qo.1 hz with rfl | hz
    ·omega
    ·exact i2 z hz
  exact (key _ 0).2 z hz)
 have h3:=Qlz (r:=Ni a b (Pn a b)) (n:=(Pn a b).length) h2.2.1 h2.2.2;refine ⟨h3.1,by unfold Rp; omega,λs ha hbs=>?_,?_⟩
 ·have h4:=Zay (c:=Fa b) hbs (Mj hbs) k s [] a (by omega) ha;have h5:=Qex (a:=a) (b:=b) (n:=(Pn a b).length) h1.1 (Nat.le_refl _) (show Bd (s+k*(s+8)) (Pn a b) by unfold Pn; rw [<-hk]; exact h4);rw [<-hk];exact (Qlz h5.2.1 h5.2.2).2.2
 ·obtain ⟨v,vp,hv⟩:=Zat h2.1;have hc:=D4 tb hb;by_cases ht:k % 2=1/\Fa b<0
  ·have e1:Ni a b (Pn a b)=Pg (Pn a b):=by unfold Ni; rw [<-hk,if_pos ht]
   have hneg:(Fa b)^k<0:=(Ql3 ht.2 k).1 ht.1;have h5:(((Fa b)^k:Int):Rat)<((0:Int):Rat):=Jj.2 hneg;have h5:(((Fa b)^k:Int):Rat)<0:=by simpa using h5
   refine ⟨-(((Fa b)^k:Int):Rat),v,by grind,vp,Cx (-1) X,λt=>?_⟩;have h6:=hX t;have h7:=hv t;rw [e1,Qes] at h7;show _=_+v*Uy (Qco (Ni a b (Pn a b))) t;rw [e1,<-h7,Ga]; grind
  ·have e1:Ni a b (Pn a b)=Pn a b:=by unfold Ni; rw [<-hk,if_neg ht]
   have hpos:0<(Fa b)^k:=by
    rcases Kr hc with h | h
    ·exact (Ql3 h k).2 (by omega)
    ·exact Int.pow_pos h
   have h5:((0:Int):Rat)<(((Fa b)^k:Int):Rat):=Jj.2 hpos;refine ⟨(((Fa b)^k:Int):Rat),v,by simpa using h5,vp,X,λt=>?_⟩;have h7:=hv t;show _=_+v*Uy (Qco (Ni a b (Pn a b))) t;rw [<-h7,e1,hX]
end Orq
