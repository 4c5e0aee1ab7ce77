/- F5 T1 T2 T3 T4 T5 T6 T7 T8 T9 T10 T11 T12 T13 T14 T15 T16 T17 -/
import Derived.Test.YtledghfgedoofaaGreatPart05
import Derived.Test.YtledghfgedoofaaGreatPart00
set_option linter.all false
namespace Orr
open Go Go.Proofs
set_option maxRecDepth 10000
theorem Zea {a b:Rat} (ha:Qb a) (hb:Qb b):Ut Tryz.prog 42 [.agg (rl a),.one (.row [rl b])] [.agg (rl (if 0<Gq b a then b else a))]:=by
 have ca:=Qio (Uu a.num) (Uu (a.den:Int)) ha.s32.1 ha.s32.2;have cb:=Qio (Uu b.num) (Uu (b.den:Int)) hb.s32.1 hb.s32.2;rw [Ol] at ca cb;have cc:=Lo hb.s31 ha.s31;refine Gv Tryz.func42 rfl ?_;refine go tt [.c [] ca] rfl trivial ?_;refine lp (S:=Nat) 3 (λL1 i=>(12,.v (.one (.int .i64 (i:Int))))::L1) (λi=>[.blk 40 (rl a),.blk 40 [.bool false,.nils,.bool false,.nils],.blk 40 (rl (if i=0 then a else if 0<Gq b a then b else a))]) (λi=>1-i) (λi=>i<=1) 0 (Qh _) rfl (λ_ _=>rfl) rfl λi hi=>?_
 rcases (show i=0\/i=1 by omega) with rfl | rfl
 ·by_cases h:0<Gq b a
  ·refine go tt [.t rfl,.x (i:=0) (xs:=rl b) rfl,.c [] cc,.t (by simpa using h),.c [] cb] rfl (by simp [Ur]) ?_;exact rd 1 (by omega) (by omega) (by rw [if_pos h]; rfl)
  ·refine go tt [.t rfl,.x (i:=0) (xs:=rl b) rfl,.c [] cc,.f (by simpa using h)] rfl (by simp [Ur]) ?_;exact rd 1 (by omega) (by omega) (by rw [if_neg h]; rfl)
 ·exact en tt [.f rfl] rfl rfl trivial
theorem Qpi {a b:Tm} {c:Int} (ha:Tb a) (hb:Tb b) (h:Qj5 a b=some c):Ut Tryz.prog 70 [.agg (ta a),.agg (ta b)] [.one (.int .i64 c)]:=by
 have ca:=Qip ha;have cb:=Qip hb;have pa:=C6 ha;have pb:=C6 hb;unfold Qj5 at h;by_cases h1:a.point=true
 ·rw [if_pos h1] at h;injection h with h; subst h;have:=Zek b a.lo;exact w tt Tryz.func70 rfl [.c [] ca,.c [] cb,.c [] pa,.t h1,.c [] (Qfw hb ha.lo)] rfl rfl (by simp [Ur]; omega)
 rw [if_neg h1] at h;have h1:a.point=false:=by simpa using h1
 by_cases h2:b.point=true
 ·rw [if_pos h2] at h;injection h with h; subst h;exact w tt Tryz.func70 rfl [.c [] ca,.c [] cb,.c [] pa,.f h1,.c [] pb,.t h2,.c [] (Qfw ha hb.lo)] rfl rfl trivial
 rw [if_neg h2] at h;have h2:b.point=false:=by simpa using h2
 obtain ⟨lo,hlo⟩:=nmE (if 0<Gq b.lo a.lo then b.lo else a.lo);obtain ⟨hi,hhi⟩:=nmE (if Gq b.hi a.hi<0 then b.hi else a.hi);have h:(if Gq lo hi<0 then (Qq8 a.p b.p).bind λg=>if 1<g.length/\Qec g lo hi=true then some 0 else (apF (Pe a b) a b).bind λr=>some r.2.2 else (apF (Pe a b) a b).bind λr=>some r.2.2)=some c:=by rw [hlo,hhi]; exact h
 have qlo:Qb lo:=by rw [hlo]; split; exact hb.lo; exact ha.lo
 have qhi:Qb hi:=by rw [hhi]; split; exact hb.hi; exact ha.hi
 have cm:=Zea ha.lo hb.lo;rw [<-hlo] at cm;have cc1:=Lo hb.hi.s31 ha.hi.s31;have cc2:=Lo qlo.s31 qhi.s31;refine Gv Tryz.func70 rfl ?_;refine go tt [.c [] ca,.c [] cb,.c [] pa,.f h1,.c [] pb,.f h2,.c [] cm] rfl trivial ?_;refine ct 2 (S:=Unit) (λ_=>[(6,.v (.one (.ow 3 0))),(5,.v (.one (.ow 2 0))),(4,.v (.one (.int .i64 0))),(3,.v (.one (.ow 1 0))),(2,.v (.one (.ow 0 0)))]) (λ_=>[.blk 64 (ta a),.blk 64 (ta b),.blk 40 (rl lo),.blk 40 (rl hi)]) (λ_=>True) rfl ?_ ?_
 ·by_cases D:Gq b.hi a.hi<0
  ·rw [if_pos D] at hhi; subst hhi;exact go tt [.c [] cc1,.t (by simpa using D)] rfl trivial (rc () trivial rfl)
  ·rw [if_neg D] at hhi; subst hhi;exact go tt [.c [] cc1,.f (by simpa using D)] rfl trivial (rc () trivial rfl)
 ·rintro _ _
  by_cases D:Gq lo hi<0
  ·rw [if_pos D] at h;obtain ⟨g,g1,h⟩:=Qf.1 h;have cg:=Q6q ha.p hb.p g1;have pg:=Zae ha.p hb.p g1;have ch:=Q7c pg qlo qhi;by_cases G:1<g.length
   ·by_cases R:Qec g lo hi=true
    ·rw [if_pos ⟨G,R⟩] at h;injection h with h; subst h;exact en tt [.c [] cc2,.t (by simpa using D),.c [] cg,.c [] (M9 g),.g 58 true (by simp; omega),.c [] ch,.t R] rfl rfl trivial
    ·rw [if_neg λh=>R h.2] at h;obtain ⟨r,r1,h⟩:=Qf.1 h;injection h with h; subst h;exact en tt [.c [] cc2,.t (by simpa using D),.c [] cg,.c [] (M9 g),.g 58 true (by simp; omega),.c [] ch,.f (by simpa using R),.c [] (Qpo ha hb r1)] rfl rfl trivial
   ·rw [if_neg λh=>G h.1] at h;obtain ⟨r,r1,h⟩:=Qf.1 h;injection h with h; subst h;exact en tt [.c [] cc2,.t (by simpa using D),.c [] cg,.c [] (M9 g),.g 58 false (by simp; omega),.f rfl,.c [] (Qpo ha hb r1)] rfl rfl trivial
  ·rw [if_neg D] at h;obtain ⟨r,r1,h⟩:=Qf.1 h;injection h with h; subst h;exact en tt [.c [] cc2,.f (by simpa using D),.c [] (Qpo ha hb r1)] rfl rfl trivial
theorem Zdi {p:List Int} {a:Tm} {s:Int} (hp:Pb p) (ha:Tb a) (h:Qoy p a=some s):Ut Tryz.prog 169 [pr p,.agg (ta a)] [.one (.int .i64 s)]:=by
 have ca:=Qip ha;have pa:=C6 ha;have cn:=Hm hp.t hp.ln hp.bd;unfold Qoy at h;by_cases h0:p.length=0
 ·rw [if_pos h0] at h;injection h with h; subst h;exact w tt Tryz.func169 rfl [.c [] cn,.c [] ca,.t (by simp; exact Qi h0)] rfl rfl trivial
 rw [if_neg h0] at h;have h0:p≠[]:=λe=>h0 (by rw [e]; rfl)
 by_cases h1:a.point=true
 ·rw [if_pos h1] at h;injection h with h; subst h;exact w tt Tryz.func169 rfl [.c [] cn,.c [] ca,.f (by simpa using h0),.c [] pa,.t h1,.c [] (Qia hp ha.lo)] rfl rfl trivial
 rw [if_neg h1] at h;have h1:a.point=false:=by simpa using h1
 obtain ⟨g,g1,h⟩:=Qf.1 h;have cg:=Q6q hp ha.p g1;have pg:=Zae hp ha.p g1;have ch:=Q7c pg ha.lo ha.hi;by_cases G:1<g.length/\Qec g a.lo a.hi=true
 ·rw [if_pos G] at h;injection h with h; subst h;exact w tt Tryz.func169 rfl [.c [] cn,.c [] ca,.f (by simpa using h0),.c [] pa,.f h1,.c [] cg,.c [] (M9 g),.g 29 true (by simp; omega),.c [] ch,.t G.2] rfl rfl trivial
 rw [if_neg G] at h;obtain ⟨c,c1,h⟩:=Qf.1 h;obtain ⟨u,u1,h⟩:=Qf.1 h;injection h with h; subst h;obtain ⟨cl,call⟩:=chain_ok hp c1;obtain ⟨n,hn⟩:=nmE (64+2*(U6 a.lo.num+U6 a.hi.num)+4*(a.p.length+p.length)*(Gm a.p+Gm p+(a.p.length+p.length)+8));have cst:=Q7w ha hp;rw [show Qy3 p a=n from hn.symm] at cst;rw [<-hn] at u1;have hnb:n<=17179938816+200000000:=by
  have l1:=ha.p.l;have l2:=hp.l;have b1:=ha.lo.1;have b2:=ha.hi.1;have s1:Gm a.p<=16777216:=by have:=Pv ha.p.b a.p.length; rwa [Qy] at this
  have s2:Gm p<=16777216:=by have:=Pv hp.b p.length; rwa [Qy] at this
  have:4*(a.p.length+p.length)*(Gm a.p+Gm p+(a.p.length+p.length)+8)<=512*33554568:=Zf (by omega) (by omega);omega
 refine Gv Tryz.func169 rfl ?_;refine go tt [.c [] cn,.c [] ca,.f (by simpa using h0),.c [] pa,.f h1,.c [] cg] rfl trivial ?_;refine ct 2 (S:=Unit) (λ_=>[(3,.v (.one (.ow 0 0))),(0,.v (pr p))]) (λ_=>[.blk 64 (ta a)]) (λ_=>True) rfl ?_ ?_
 ·by_cases G1:1<g.length
  ·exact go tt [.c [] (M9 g),.g 29 true (by simp; omega),.c [] ch,.f (by simpa using λh=>G ⟨G1,h⟩)] rfl trivial (rc () trivial rfl)
  ·exact go tt [.c [] (M9 g),.g 29 false (by simp; omega),.f rfl] rfl trivial (rc () trivial rfl)
 rintro _ _
 refine go tt [.c [] (Q6x hp c1),.c [] cst] rfl trivial ?_;refine lp (S:=Nat×Tm) 1 (λL1 s=>(46,.v (.one (.int .i64 (s.1:Int))))::L1) (λs=>[.blk 64 (ta s.2)]) (λs=>n-s.1) (λs=>s.1<=n/\Tb s.2/\sgF c (n-s.1) s.2=some u) (0,a) ⟨Qh _,ha,u1⟩ rfl (λ_ _=>rfl) rfl λ⟨i,x⟩ ⟨j1,j2,j3⟩=>?_
 dsimp only at j1 j2 j3 ⊢;by_cases hi:i<n
 ·obtain ⟨k,hk⟩:∃ k,n-i=k+1:=⟨n-i-1,by omega⟩;have hk':n-(i+1)=k:=by omega
  rw [hk] at j3;simp only [sgF] at j3;have px:=C6 j2;have cb:=Qmy (by omega) call j2.lo j2.hi;have hlt:decide ((i:Int)<(n:Int))=true:=by simp; omega
  by_cases X:x.point=true
  ·rw [if_pos (.inl X)] at j3;injection j3 with j3; subst j3;exact en tt [.t hlt,.c [] px,.g 50 true X,.t rfl,.c [] (Qia hp j2.hi)] rfl rfl trivial
  ·have X':x.point=false:=by simpa using X
   by_cases Z:Ry c x.lo x.hi=0
   ·rw [if_pos (.inr Z)] at j3;injection j3 with j3; subst j3;exact en tt [.t hlt,.c [] px,.g 50 false X',.c [] cb,.t (by simpa using Z),.c [] (Qia hp j2.hi)] rfl rfl trivial
   ·rw [if_neg (by rintro (h | h); exact X h; exact Z h)] at j3;obtain ⟨v,v1,v2⟩:=Qf.1 j3;refine go tt [.t hlt,.c [] px,.g 50 false X',.c [] cb,.f (by simpa using Z),.c [] (Qwq j2 v1)] rfl (by simp [Ur]; omega) ?_;exact rd (i+1,v) (by dsimp only; omega) ⟨hi,Qru j2 v1,by dsimp only; rw [hk']; exact v2⟩ rfl
 ·obtain rfl:i=n:=by omega
  rw [Jo] at j3;simp only [sgF] at j3;injection j3 with j3; subst j3;exact en tt [.f (by simp),.c [] (Qia hp j2.hi)] rfl rfl trivial
abbrev tas (l:List Tm):LV:=.row (l.map λt=>ta t)
theorem Qjg {l:List Tm} {i:Nat} {t:Tm} (h:l[i]? = some t):(l.map λt=>ta t)[i]? = some (ta t):=Gx h
def zTr:List LV:=[.row [],.bool false,.row [],.bool false,.row [],.bool false,.row [],.bool false,.row []]
theorem Q6i:Ut Tryz.prog 80 [.one (.row [])] [.agg zTr,.one (.bool false)]:=w tt Tryz.func80 rfl [.t rfl] rfl rfl trivial
theorem O7 {b:Tm} {l:List Tm} {m:Tm} (hb:Tb b) (hl:∀ t∈l,Tb t) (hn:l.length≤1000000) (h:Oe b l=some m):Ut Tryz.prog 80 [.one (tas (b::l))] [.agg (ta m),.one (.bool true)]:=by
 refine Gv Tryz.func80 rfl ?_;refine go tt [.f (by simp; omega),.x (i:=0) (xs:=ta b) rfl,.i 1] rfl (by simp [Ur]; exact ⟨rfl,λ_ _=>rfl⟩) ?_;refine lp (S:=Nat×Tm) 2 (λL1 s=>(17,.v (.one (.int .i64 (s.1:Int))))::L1) (λs=>[.blk 64 zTm,.blk 64 (ta s.2)]) (λs=>l.length-s.1) (λs=>s.1<=l.length/\Tb s.2/\Oe s.2 (l.drop s.1)=some m) (0,b) ⟨Qh _,hb,h⟩ rfl (λ_ _=>rfl) rfl λ⟨i,x⟩ ⟨j1,j2,j3⟩=>?_
 dsimp only at j1 j2 j3 ⊢;by_cases hi:i<l.length
 ·obtain ⟨a,ha⟩:=gxE (l:=l) (i:=i) hi;have hdr:l.drop i=a::l.drop (i+1):=by
   rw [Zi hi]; congr 1;have:=Qe hi; rw [ha] at this; injection this with this; exact this.symm
  rw [hdr] at j3;simp only [Oe] at j3;obtain ⟨c,c1,j3⟩:=Qf.1 j3;have ta':=hl a (Qa ha);by_cases hc:c<0
  ·rw [if_pos hc] at j3;refine go tt [.t (by simp; omega),.x (Qjg ha),.c [] (Qpi ta' j2 c1),.t (by simpa using hc)] rfl (by simp [Ur]; omega) ?_;exact rd (i+1,a) (by dsimp only; omega) ⟨hi,ta',j3⟩ rfl
  ·rw [if_neg hc] at j3;refine go tt [.t (by simp; omega),.x (Qjg ha),.c [] (Qpi ta' j2 c1),.f (by simpa using hc)] rfl (by simp [Ur]; omega) ?_;exact rd (i+1,x) (by dsimp only; omega) ⟨hi,j2,j3⟩ rfl
 ·obtain rfl:i=l.length:=by omega
  rw [Yo] at j3;simp only [Oe] at j3;injection j3 with j3; subst j3;exact en tt [.f (by simp),.c [] (Q7x j2)] rfl rfl trivial
end Orr
namespace Orq
def U5 (x:Rat):Rat:=if x<0 then -x else x
theorem Hk (x:Rat):0<=U5 x:=by unfold U5; split <;> grind
theorem Px {x b:Rat}:U5 x<=b↔-b<=x/\x<=b:=by unfold U5; split <;> constructor <;> grind
theorem Qre {x b:Rat}:U5 x<b↔-b<x/\x<b:=by unfold U5; split <;> constructor <;> grind
theorem Tt (x y:Rat):U5 (x+y)<=U5 x+U5 y:=by unfold U5; split <;> split <;> split <;> grind
theorem Q2h (x y:Rat):U5 (x-y)=U5 (y-x):=by unfold U5; split <;> split <;> grind
theorem D8 (x:Rat):U5 (-x)=U5 x:=by unfold U5; split <;> split <;> grind
theorem H5:U5 0=0:=by decide
theorem Bi {x:Rat} (h:x≠0):0<U5 x:=by unfold U5; split <;> grind
theorem Zf6 {x:Rat} (h:U5 x=0):x=0:=by unfold U5 at h; split at h <;> grind
theorem M3 {x y:Rat} (h1:0<=x) (h2:0<=y):0<=x*y:=V5 h1 h2
theorem Aj {x y:Rat} (h1:0<x) (h2:0<y):0<x*y:=Jg h1 h2
theorem Nx {a b c d:Rat} (h0:0<=a) (h1:a<=b) (h2:0<=c) (h3:c<=d):a*c<=b*d:=by
 have e1:=Q8 h1 h2;have e2:=Zz h3 (Ze h0 h1);exact Ze e1 e2
theorem E7 (x y:Rat):U5 (x*y)=U5 x*U5 y:=by
 unfold U5;by_cases h1:x<0 <;> by_cases h2:y<0
 ·have:=Aj (x:=-x) (y:=-y) (by grind) (by grind); simp only [h1,h2,if_true]; split <;> grind
 ·have:=M3 (x:=-x) (y:=y) (by grind) (by grind); simp only [h1,h2,if_true,if_false]; split <;> grind
 ·have:=M3 (x:=x) (y:=-y) (by grind) (by grind); simp only [h1,h2,if_true,if_false]; split <;> grind
 ·have:=M3 (x:=x) (y:=y) (by grind) (by grind); simp only [h1,h2,if_false]; split <;> grind
theorem Gp {x y a b:Rat} (h1:U5 x<=a) (h2:U5 y<=b):U5 (x*y)<=a*b:=by
 rw [E7]; exact Nx (Hk x) h1 (Hk y) h2
theorem Lt {x y:Rat} (h1:0<x) (h2:0<y):0<x / y:=by rw [Jq]; exact Aj h1 (Rat.inv_pos.2 h2)
theorem Gs {x y:Rat} (h2:0<y):x / y*y=x:=Zk (by grind)
theorem Gu {b d:Rat} (hb:0<=b) (hd:0<d):∃ e:Rat,0<e/\e<=1/\e*b<d:=by
 have h1:0<d / (b+1):=Lt hd (by grind);have h2:d / (b+1)*(b+1)=d:=Gs (by grind);rcases V4 (a:=d / (b+1)) (b:=1) with h | h
 ·exact ⟨d / (b+1),h1,h,by
   have:d / (b+1)*(b+1)=d / (b+1)*b+d / (b+1):=by grind
   grind⟩
 ·refine ⟨1,by decide,by decide,?_⟩;have:1*(b+1)<=d / (b+1)*(b+1):=Q8 h (by grind);grind
def ev:List Rat->Rat->Rat
 | [],_=>0
 | a::p,t=>a+t*ev p t
def dv:List Rat->Rat->Rat
 | [],_=>0
 | _::p,t=>ev p t+t*dv p t
def dq:List Rat->Rat->Rat->Rat
 | [],_,_=>0
 | _::p,x,y=>ev p x+y*dq p x y
def dd:List Rat->Rat->Rat->Rat
 | [],_,_=>0
 | _::p,x,y=>dq p x y+y*dd p x y
theorem Qnf (x y:Rat):∀ p,ev p x-ev p y=(x-y)*dq p x y
 | []=>by simp only [ev,dq]; grind
 | a::p=>by have:=Qnf x y p; simp only [ev,dq]; grind
theorem Qp4 (y:Rat):∀ p,dq p y y=dv p y
 | []=>rfl
 | a::p=>by simp only [dq,dv,Qp4 y p]
theorem Zhw (x y:Rat):∀ p,dq p x y-dv p y=(x-y)*dd p x y
 | []=>by simp only [dv,dq,dd]; grind
 |
  a::p=>by
  have h1:=Zhw x y p;have h2:=Qnf x y p;simp only [dv,dq,dd]; grind
theorem Zh0 (p:List Rat) (x y:Rat):ev p x-ev p y=(x-y)*dv p y+(x-y)*(x-y)*dd p x y:=by
 have h1:=Qnf x y p;have h2:=Zhw x y p;grind
def evB (R:Rat):List Rat->Rat
 | []=>0
 | a::p=>U5 a+R*evB R p
def dqB (R:Rat):List Rat->Rat
 | []=>0
 | _::p=>evB R p+R*dqB R p
def ddB (R:Rat):List Rat->Rat
 | []=>0
 | _::p=>dqB R p+R*ddB R p
theorem Qal {R:Rat} (hR:0<=R):∀ p,0<=evB R p
 | []=>by simp only [evB]; grind
 | a::p=>by have:=M3 hR (Qal hR p); have:=Hk a; simp only [evB]; grind
theorem Me {R:Rat} (hR:0<=R):∀ p,0<=dqB R p
 | []=>by simp only [dqB]; grind
 | a::p=>by have:=M3 hR (Me hR p); have:=Qal hR p; simp only [dqB]; grind
theorem Qkc {R:Rat} (hR:0<=R):∀ p,0<=ddB R p
 | []=>by simp only [ddB]; grind
 | a::p=>by have:=M3 hR (Qkc hR p); have:=Me hR p; simp only [ddB]; grind
theorem Qhk {R x:Rat} (hx:U5 x<=R):∀ p,U5 (ev p x)<=evB R p
 | []=>by simp only [ev,evB,H5]; grind
 |
  a::p=>by
  have h1:=Tt a (x*ev p x);have h2:=Gp hx (Qhk hx p);simp only [ev,evB]; grind
theorem Qtf {R x y:Rat} (hx:U5 x<=R) (hy:U5 y<=R):∀ p,U5 (dq p x y)<=dqB R p
 | []=>by simp only [dq,dqB,H5]; grind
 |
  a::p=>by
  have h1:=Tt (ev p x) (y*dq p x y);have h2:=Gp hy (Qtf hx hy p);have h3:=Qhk hx p;simp only [dq,dqB]; grind
theorem Q8c {R x y:Rat} (hx:U5 x<=R) (hy:U5 y<=R):∀ p,U5 (dd p x y)<=ddB R p
 | []=>by simp only [dd,ddB,H5]; grind
 |
  a::p=>by
  have h1:=Tt (dq p x y) (y*dd p x y);have h2:=Gp hy (Q8c hx hy p);have h3:=Qtf hx hy p;simp only [dd,ddB]; grind
theorem Zjr {R x y:Rat} (hx:U5 x<=R) (hy:U5 y<=R) (p:List Rat):U5 (ev p x-ev p y)<=U5 (x-y)*dqB R p:=by
 rw [Qnf,E7]; exact Nx (Hk _) Qp (Hk _) (Qtf hx hy p)
def Tu:List Rat->List Rat->List Rat
 | [],q=>q
 | a::p,[]=>a::p
 | a::p,b::q=>(a+b)::Tu p q
def C0 (c:Rat) (p:List Rat):List Rat:=p.map (c * ·)
def Gk:List Rat->List Rat->List Rat
 | [],_=>[]
 | a::p,q=>Tu (C0 a q) (0::Gk p q)
def M5:List Rat->List Rat
 | []=>[]
 | _::p=>Tu p (0::M5 p)
theorem Gg (t:Rat):∀ p q,ev (Tu p q) t=ev p t+ev q t
 | [],q=>by simp only [Tu,ev]; grind
 | a::p,[]=>by simp only [Tu,ev]; grind
 | a::p,b::q=>by have:=Gg t p q; simp only [Tu,ev]; grind
theorem Fy (c t:Rat):∀ p,ev (C0 c p) t=c*ev p t
 | []=>by simp only [C0,Jf,ev]; grind
 | a::p=>by have:=Fy c t p; simp only [C0,Z0,ev] at *; grind
theorem U3 (t:Rat):∀ p q,ev (Gk p q) t=ev p t*ev q t
 | [],q=>by simp only [Gk,ev]; grind
 | a::p,q=>by have:=U3 t p q; simp only [Gk,Gg,Fy,ev]; grind
theorem Rz (t:Rat):∀ p,ev (M5 p) t=dv p t
 | []=>rfl
 | a::p=>by have:=Rz t p; simp only [M5,Gg,ev,dv]; grind
theorem Qp6 (t:Rat):∀ p q,dv (Tu p q) t=dv p t+dv q t
 | [],q=>by simp only [Tu,dv]; grind
 | a::p,[]=>by simp only [Tu,dv]; grind
 | a::p,b::q=>by have:=Qp6 t p q; have:=Gg t p q; simp only [Tu,dv]; grind
theorem Qf7 (c t:Rat):∀ p,dv (C0 c p) t=c*dv p t
 | []=>by simp only [C0,Jf,dv]; grind
 | a::p=>by have:=Qf7 c t p; have:=Fy c t p; simp only [C0,Z0,dv] at *; grind
theorem Qp7 (t:Rat):∀ p q,dv (Gk p q) t=dv p t*ev q t+ev p t*dv q t
 | [],q=>by simp only [Gk,dv,ev]; grind
 | a::p,q=>by have:=Qp7 t p q; have:=U3 t p q; simp only [Gk,Qp6,Qf7,dv,ev]; grind
theorem Q01:∀ {p:List Rat},(∀ x∈p,x=0)->∀ t,ev p t=0
 | [],_,t=>rfl
 |
  a::p,h,t=>by
  have h1:=Q01 (p:=p) (λx hx=>h x (Qj _ hx)) t;have h2:=h a (Qx ..);simp only [ev,h1,h2]; grind
theorem Q0x:∀ {p:List Rat},(∀ x∈p,x=0)->∀ t,dv p t=0
 | [],_,t=>rfl
 |
  a::p,h,t=>by
  have h0:=λx hx=>h x (Qj _ hx)
  have h1:=Q01 (p:=p) h0 t;have h2:=Q0x (p:=p) h0 t;simp only [dv,h1,h2]; grind
theorem Qdq:∀ {p:List Rat},(∀ t,0<t->t<1->ev p t=0)->∀ x∈p,x=0
 | [],_=>λx hx=>by cases hx
 |
  a::p,h=>by
  have ha:a=0:=by
   rcases Classical.em (a=0) with h0 | h0
   ·exact h0
   ·obtain ⟨e,e1,e2,e3⟩:=Gu (Qal (R:=1) (by decide) p) (Bi h0);obtain ⟨f,f1,f2,f3⟩:=Gu (b:=1) (d:=e) (by decide) e1;have h1:=h f f1 (by grind);have h2:=Qhk (R:=1) (x:=f) (by unfold U5; split <;> grind) p;have h3:=E7 f (ev p f);have h4:U5 f=f:=by unfold U5; split <;> grind
    have h5:a=-(f*ev p f):=by simp only [ev] at h1; grind
    have h6:U5 a=f*U5 (ev p f):=by rw [h5,D8,h3,h4]
    have h7:f*U5 (ev p f)<=e*evB 1 p:=Nx (Qq f1) (by grind) (Hk _) h2;grind
  intro x hx;rcases Qo.1 hx with rfl | hx
  ·exact ha
  ·refine Qdq (p:=p) (λt h1 h2=>?_) x hx;have:=h t h1 h2;simp only [ev,ha] at this;have h3:t*ev p t=0:=by grind
   rcases Yw.1 h3 with h4 | h4
   ·grind
   ·exact h4
theorem Q8k {p q:List Rat} (h:∀ t,ev p t=ev q t) (t:Rat):dv p t=dv q t:=by
 have h1:=Q0x (p:=Tu p (C0 (-1) q)) (Qdq λt _ _=>by rw [Gg,Fy,h t]; grind) t;rw [Qp6,Qf7] at h1; grind
def U4 (x:Rat):Int:=if x<0 then -1 else if 0<x then 1 else 0
theorem Fu {x:Rat}:U4 x=0↔x=0:=by
 unfold U4; constructor
 ·intro h; split at h <;> (try split at h) <;> grind
 ·intro h; subst h; rfl
theorem H6 {x:Rat}:U4 x=1↔0<x:=by
 unfold U4; constructor
 ·intro h; split at h <;> (try split at h) <;> grind
 ·intro h; rw [if_neg (by grind),if_pos h]
theorem Sj {x:Rat}:U4 x=-1↔x<0:=by
 unfold U4; constructor
 ·intro h; split at h <;> (try split at h) <;> grind
 ·intro h; rw [if_pos h]
theorem Fp (x:Rat):U4 x=-1/\x<0\/U4 x=0/\x=0\/U4 x=1/\0<x:=by
 rcases V4 (a:=x) (b:=0) with h | h
 ·rcases Classical.em (x=0) with h0 | h0
  ·exact .inr (.inl ⟨Fu.2 h0,h0⟩)
  ·exact .inl ⟨Sj.2 (by grind),by grind⟩
 ·rcases Classical.em (x=0) with h0 | h0
  ·exact .inr (.inl ⟨Fu.2 h0,h0⟩)
  ·exact .inr (.inr ⟨H6.2 (by grind),by grind⟩)
theorem Tv (x y:Rat):U4 (x*y)=U4 x*U4 y:=by
 rcases Fp x with ⟨e1,h1⟩ | ⟨e1,h1⟩ | ⟨e1,h1⟩ <;> rcases Fp y with ⟨e2,h2⟩ | ⟨e2,h2⟩ | ⟨e2,h2⟩ <;> rw [e1,e2]
 ·have:=Aj (x:=-x) (y:=-y) (by grind) (by grind); exact H6.2 (by grind)
 ·subst h2; exact Fu.2 (by grind)
 ·have:=Aj (x:=-x) (y:=y) (by grind) (by grind); exact Sj.2 (by grind)
 ·subst h1; exact Fu.2 (by grind)
 ·subst h1; exact Fu.2 (by grind)
 ·subst h1; exact Fu.2 (by grind)
 ·have:=Aj (x:=x) (y:=-y) (by grind) (by grind); exact Sj.2 (by grind)
 ·subst h2; exact Fu.2 (by grind)
 ·exact H6.2 (Aj h1 h2)
theorem S6 {a b d:Rat} (h1:d<=U5 a) (h2:U5 (b-a)<d):U4 b=U4 a/\U4 a≠0:=by
 rw [Qre] at h2;rcases Fp a with ⟨e,h⟩ | ⟨e,h⟩ | ⟨e,h⟩
 ·rw [e,Sj]; unfold U5 at h1; rw [if_pos h] at h1; exact ⟨by grind,by decide⟩
 ·subst h; rw [H5] at h1; grind
 ·rw [e,H6]; unfold U5 at h1; rw [if_neg (by grind)] at h1; exact ⟨by grind,by decide⟩
def tc (x:Rat):Int->List (List Rat)->Nat
 | _,[]=>0
 | s,p::l=>if U4 (ev p x)=0 then tc x s l else (if s=-(U4 (ev p x)) then 1 else 0)+tc x (U4 (ev p x)) l
inductive SCl:List Rat->List Rat->List (List Rat)->Prop
 | base {f g:List Rat} {c:Rat} (hc:c≠0) (hg:∀ t,ev g t=c):SCl f g []
 | step {f g h:List Rat} {l:List (List Rat)} {a b:Rat} {q:List Rat} (ha:0<a) (hb:0<b) (he:∀ t,a*ev f t=ev q t*ev g t-b*ev h t) (hl:SCl g h l):SCl f g (h::l)
theorem Zcf {x:Rat} {s:Int} {g h:List Rat} {l:List (List Rat)} (hh:U4 (ev h x)=-s) (hs:s≠0):tc x s (g::h::l)=1+tc x (-s) l:=by
 have h3:U4 (ev h x)≠0:=by omega
 have hv:s=1\/s=-1:=by rcases Fp (ev h x) with ⟨e,_⟩ | ⟨e,_⟩ | ⟨e,_⟩ <;> omega
 simp only [tc,if_neg h3,hh];rcases Fp (ev g x) with ⟨e,_⟩ | ⟨e,_⟩ | ⟨e,_⟩ <;> rw [e] <;> rcases hv with rfl | rfl <;> simp
theorem Qfd {x:Rat} {s:Int} {p:List Rat} {l:List (List Rat)} (h:U4 (ev p x)≠0):tc x s (p::l)=(if s=-(U4 (ev p x)) then 1 else 0)+tc x (U4 (ev p x)) l:=by rw [tc,if_neg h]
theorem Po {R x y e d:Rat} {p:List Rat} (hx:U5 x<=R) (hy:U5 y<=R) (hR:0<=R) (h:U5 (y-x)<=e) (hd:e*dqB R p<d):U5 (ev p y-ev p x)<d:=by
 have h1:=Zjr hy hx p;have h2:=Q8 h (Me hR p);grind
theorem Qn4 {a x y:Rat} (ha:0<a) (h:a*x<a*y):x<y:=by
 rcases V4 (a:=y) (b:=x) with h' | h'
 ·have:=Zz h' (Qq ha); grind
 ·rcases Classical.em (x=y) with e | e
  ·subst e; grind
  ·grind
theorem Zkx {a b d d' B f g h q:Rat} (ha:0<a) (hb:0<b) (dp:0<d) (h7:B*d+a*d<b*d') (hq:U5 q<=B) (hg:U5 g<d) (hh:d'<=U5 h) (he:a*f=q*g-b*h) (hd':0<d'):U4 h=-U4 f/\d<=U5 f:=by
 have h4:=Gp hq (Qq hg);rw [Px] at h4;have had:=Aj ha dp;have h8:=Zz hh (Qq hb);rcases Fp h with ⟨s,p⟩ | ⟨s,p⟩ | ⟨s,p⟩
 ·have:U5 h=-h:=by unfold U5; rw [if_pos p]
  rw [this] at h8;have h10:d<f:=Qn4 ha (by grind);rw [s,H6.2 (show 0<f by grind)];exact ⟨rfl,by unfold U5; split <;> grind⟩
 ·rw [p,H5] at hh; grind
 ·have:U5 h=h:=by unfold U5; rw [if_neg (by grind)]
  rw [this] at h8;have h10:f < -d:=Qn4 ha (by grind);rw [s,Sj.2 (show f<0 by grind)];exact ⟨rfl,by unfold U5; split <;> grind⟩
theorem min2 {a b:Rat} (ha:0<a) (hb:0<b):∃ e:Rat,0<e/\e<=a/\e<=b:=by
 rcases V4 (a:=a) (b:=b) with h | h
 ·exact ⟨a,ha,Qp,h⟩
 ·exact ⟨b,hb,h,Qp⟩
theorem Fh (a b:Rat):a<=b\/b<a:=by
 rcases V4 (a:=a) (b:=b) with h | h
 ·exact .inl h
 ·rcases Classical.em (a=b) with e | e
  ·exact .inl (by grind)
  ·exact .inr (by grind)
theorem Zj8 {R:Rat} (hR:0<=R) {f g:List Rat} {l:List (List Rat)} (hc:SCl f g l):∃ d e:Rat,0<d/\0<e/\∀ x y,U5 x<=R->U5 y<=R->U5 (y-x)<=e ->
 (d<=U5 (ev f x)\/d<=U5 (ev g x))/\(d<=U5 (ev f x)->U4 (ev f y)=U4 (ev f x)/\U4 (ev f x)≠0)/\(d<=U5 (ev g x)->U4 (ev g y)=U4 (ev g x)/\U4 (ev g x)≠0) /\
 (U4 (ev f y)=U4 (ev f x)->U4 (ev f x)≠0->tc x (U4 (ev f x)) (g::l)=tc y (U4 (ev f x)) (g::l)) /\
 (U4 (ev g y)=U4 (ev g x)->U4 (ev g x)≠0->tc x (U4 (ev g x)) l=tc y (U4 (ev g x)) l):=by
 induction hc with
 |
  @base f g c hc hg =>
  have hd:=Bi hc;obtain ⟨e,e1,e2,e3⟩:=Gu (Me hR f) hd;refine ⟨U5 c,e,hd,e1,λx y hx hy hxy=>⟨.inr (by rw [hg]; exact Qp),λh=>S6 h (Po hx hy hR hxy e3),λh=>?_,λ_ _=>?_,λ_ _=>rfl⟩⟩
  ·rw [hg,hg]; exact ⟨rfl,λh=>hc (Fu.1 h)⟩
  ·simp only [tc,hg]
 |
  @step f g h l a b q ha hb he hl ih =>
  obtain ⟨d',e',hd',he',ih⟩:=ih;obtain ⟨d1,d1p,_,d1b⟩:=Gu (b:=evB R q+a) (d:=b*d') (by have:=Qal hR q; grind) (Aj hb hd');obtain ⟨d,dp,hd1,hdd⟩:=min2 d1p hd';obtain ⟨ef,ef1,_,ef3⟩:=Gu (Me hR f) dp;obtain ⟨eg,eg1,_,eg3⟩:=Gu (Me hR g) dp;obtain ⟨e0,e0p,h1,h2⟩:=min2 ef1 eg1;obtain ⟨e,ep,h0,h3⟩:=min2 e0p he';have h1:=Ze h0 h1;have h2:=Ze h0 h2;refine ⟨d,e,dp,ep,λx y hx hy hxy=>?_⟩;obtain ⟨i1,i2,i3,i4,i5⟩:=ih x y hx hy (Ze hxy h3);have hsm:U5 (ev g x)<d->d'<=U5 (ev h x)/\U4 (ev h x)=-U4 (ev f x)/\d<=U5 (ev f x):=λhg=>by
   have hh:d'<=U5 (ev h x):=by
    rcases i1 with i | i
    ·exact absurd (Ze hdd i) (X4.2 hg)
    ·exact i
   have h6:d*(evB R q+a)<=d1*(evB R q+a):=Q8 hd1 (by have:=Qal hR q; clear ih i1 i2 i3 i4 i5 he; grind);have h7:evB R q*d+a*d<b*d':=by clear ih i1 i2 i3 i4 i5 he; grind
   exact ⟨hh,Zkx ha hb dp h7 (Qhk hx q) hg hh (he x) hd'⟩
  have hfs:d<=U5 (ev f x)->U4 (ev f y)=U4 (ev f x)/\U4 (ev f x)≠0:=λh=>S6 h (Po hx hy hR (Ze hxy h1) ef3)
  have hgs:d<=U5 (ev g x)->U4 (ev g y)=U4 (ev g x)/\U4 (ev g x)≠0:=λh=>S6 h (Po hx hy hR (Ze hxy h2) eg3)
  refine ⟨?_,hfs,hgs,λs1 s2=>?_,i4⟩
  ·rcases Fh d (U5 (ev g x)) with h | h
   ·exact .inr h
   ·exact .inl (hsm h).2.2
  ·rcases Fh d (U5 (ev g x)) with h | h
   ·obtain ⟨g1,g2⟩:=hgs h;rw [Qfd (x:=x) (p:=g) g2,Qfd (x:=y) (p:=g) (by rw [g1]; exact g2),g1,i4 g1 g2]
   ·obtain ⟨h4,h5,_⟩:=hsm h;obtain ⟨h6,h7⟩:=i3 h4;have i5:=i5 h6 h7;rw [Zcf h5 s2,Zcf (h6.trans h5) s2,<-h5,i5]
def Sy (p:List Rat) (x:Rat):Int:=if U4 (ev p x)≠0 then U4 (ev p x) else U4 (dv p x)
def vv (L:List (List Rat)) (x:Rat):Nat:=tc x 0 L
def Stm (f:List Rat) (L:List (List Rat)):Prop:=(∃ c:Rat,c≠0/\(∀ t,ev f t=c)/\L=[f])\/∃ g l,∃ k:Rat,0<k/\(∀ t,ev g t=k*dv f t)/\SCl f g l/\L=f::g::l
structure Sm (w:List Rat) (x y:Rat):Prop where
 s:U4 (ev w y)=Sy w x
 l:Sy w y=Sy w x
 n:Sy w x≠0
theorem L9 {p:List Rat} {x:Rat} (h:U4 (ev p x)≠0):Sy p x=U4 (ev p x):=by unfold Sy; rw [if_pos h]
theorem Qxv {p:List Rat} {x:Rat} (h:U4 (ev p x)=0):Sy p x=U4 (dv p x):=by unfold Sy; rw [if_neg (by simpa using h)]
theorem Qve {p:List Rat} {x y:Rat} (h:U4 (ev p y)=U4 (ev p x)) (h0:U4 (ev p x)≠0):Sm p x y:=by
 have h1:=L9 h0;have h2:=L9 (p:=p) (x:=y) (by rw [h]; exact h0);exact ⟨by rw [h,h1],by rw [h2,h1,h],by rw [h1]; exact h0⟩
theorem I7 {f w u:List Rat} (h:∀ t,ev f t=ev w t*ev u t) (x:Rat):dv f x=dv w x*ev u x+ev w x*dv u x:=by
 rw [<-Qp7]; exact Q8k (λt=>by rw [h,U3]) x
theorem Q1n {f w u:List Rat} {x:Rat} (h:∀ t,ev f t=ev w t*ev u t) (hu:U4 (ev u x)≠0):Sy f x=Sy w x*U4 (ev u x):=by
 by_cases hw:U4 (ev w x)=0
 ·have hw0:=Fu.1 hw;have e1:ev f x=0:=by rw [h,hw0]; grind
  have e2:dv f x=dv w x*ev u x:=by rw [I7 h,hw0]; grind
  rw [Qxv hw,Qxv (Fu.2 e1),e2,Tv]
 ·have e1:U4 (ev f x)=U4 (ev w x)*U4 (ev u x):=by rw [h,Tv]
  rw [L9 hw,L9 (by rw [e1]; exact Jh hw hu),e1]
theorem Zky {f w u:List Rat} {x y:Rat} (h:∀ t,ev f t=ev w t*ev u t) (hu:U4 (ev u y)=U4 (ev u x)) (h0:U4 (ev u x)≠0) (hf:Sm f x y):Sm w x y:=by
 have e1:=Q1n h h0;have e2:=Q1n (x:=y) h (by rw [hu]; exact h0);have e3:U4 (ev f y)=U4 (ev w y)*U4 (ev u y):=by rw [h,Tv]
 obtain ⟨s,l,n⟩:=hf;rw [hu] at e2 e3;refine ⟨?_,?_,λh=>n (by rw [e1,h,Ye])⟩
 ·rw [e3,e1] at s; exact Yx h0 s
 ·rw [e2,e1] at l; exact Yx h0 l
theorem tc0 {x:Rat} {s:Int} {f g:List Rat} {l:List (List Rat)} (h:U4 (ev g x)=s) (hs:s≠0):tc x 0 (f::g::l)=(if U4 (ev f x)=-s then 1 else 0)+tc x s l:=by
 have hv:s=1\/s=-1:=by rcases Fp (ev g x) with ⟨e,_⟩ | ⟨e,_⟩ | ⟨e,_⟩ <;> omega
 have hg:U4 (ev g x)≠0:=by omega
 rw [tc];rcases Fp (ev f x) with ⟨e,_⟩ | ⟨e,_⟩ | ⟨e,_⟩ <;> rw [e] <;> rcases hv with rfl | rfl <;> simp [Qfd hg,h]
theorem Qlj {R x y e d:Rat} {p:List Rat} (hx:U5 x<=R) (hy:U5 y<=R) (hR:0<=R) (hxy:x<y) (h:y-x<=e) (hd:d<=U5 (dv p x)) (he:e*ddB R p<d):U4 (ev p y-ev p x)=U4 (dv p x):=by
 have h1:=Zh0 p y x;have h2:ev p y-ev p x=(y-x)*(dv p x+(y-x)*dd p y x):=by rw [h1]; grind
 have h3:=Gp (x:=y-x) (y:=dd p y x) (a:=e) (b:=ddB R p) (by rw [Px]; constructor <;> grind) (Q8c hy hx p);have h4:=S6 (b:=dv p x+(y-x)*dd p y x) hd (by
  have:dv p x+(y-x)*dd p y x-dv p x=(y-x)*dd p y x:=by grind
  rw [this]; exact X4.1 λh=>absurd (Ze h h3) (X4.2 he))
 rw [h2,Tv,H6.2 (show 0<y-x by grind),h4.1,Y7]
def Q5w (f w:List Rat) (L:List (List Rat)) (x y:Rat):Prop :=
 (vv L x=vv L y/\Sm f x y/\Sm w x y)\/(vv L x=vv L y+1/\Sy f x≠0/\Sy f y=-Sy f x/\U4 (ev f x)=Sy f x/\(U4 (ev f y)=0\/U4 (ev f y)=-Sy f x))
theorem Zh3 {R d:Rat} (hR:0<=R) (hd:0<d) {f w u:List Rat} (h:∀ t,ev f t=ev w t*ev u t):∃ e:Rat,0<e/\∀ x y,U5 x<=R->U5 y<=R->U5 (y-x)<=e->d<=U5 (ev f x)->Sm f x y/\Sm w x y:=by
 obtain ⟨ef,ef1,_,ef3⟩:=Gu (Me hR f) hd;obtain ⟨d1,d1p,_,d1b⟩:=Gu (Qal hR u) hd;obtain ⟨ew,ew1,_,ew3⟩:=Gu (Me hR w) d1p;obtain ⟨e,ep,e1,e2⟩:=min2 ef1 ew1;refine ⟨e,ep,λx y hx hy hxy hf=>⟨?_,?_⟩⟩
 ·have:=S6 hf (Po hx hy hR (Ze hxy e1) ef3);exact Qve this.1 this.2
 ·have hw:d1<=U5 (ev w x):=by
   rcases Fh d1 (U5 (ev w x)) with h' | h'
   ·exact h'
   ·have h5:=Gp (Qq h') (Qhk hx u);rw [<-h] at h5;exact absurd (Ze hf h5) (X4.2 d1b)
  have:=S6 hw (Po hx hy hR (Ze hxy e2) ew3);exact Qve this.1 this.2
theorem loc {R:Rat} (hR:0<=R) {f w u:List Rat} {L:List (List Rat)} (hc:Stm f L) (h:∀ t,ev f t=ev w t*ev u t):∃ e:Rat,0<e/\∀ x y,U5 x<=R->U5 y<=R->x<y->y-x<=e->Q5w f w L x y:=by
 rcases hc with ⟨c,hc,hf,rfl⟩ | ⟨g,l,k,hk,hg,hc,rfl⟩
 ·obtain ⟨e,ep,h1⟩:=Zh3 hR (Bi hc) h;refine ⟨e,ep,λx y hx hy hxy he=>.inl ⟨?_,h1 x y hx hy (by rw [Px]; constructor <;> grind) (by rw [hf]; exact Qp)⟩⟩;simp only [vv,tc,hf]
 ·obtain ⟨d,e1,dp,e1p,h1⟩:=Zj8 hR hc;obtain ⟨e2,e2p,h2⟩:=Zh3 hR dp h;obtain ⟨d3,d3p,_,d3b⟩:=Gu (b:=k) (d:=d) (Qq hk) dp;obtain ⟨e3,e3p,_,e3b⟩:=Gu (Qkc hR f) d3p;obtain ⟨d4,d4p,_,d4b⟩:=Gu (b:=dqB R w+dqB R u) (d:=d3) (by have:=Me hR w; have:=Me hR u; grind) d3p;obtain ⟨e4,e4p,_,e4b⟩:=Gu (Me hR w) d4p;obtain ⟨e5,e5p,_,e5b⟩:=Gu (Me hR u) d4p;obtain ⟨a1,a1p,a11,a12⟩:=min2 e1p e2p;obtain ⟨a2,a2p,a21,a22⟩:=min2 e3p e4p;obtain ⟨a3,a3p,a31,a32⟩:=min2 a1p a2p;obtain ⟨e,ep,b1,b2⟩:=min2 a3p e5p;refine ⟨e,ep,λx y hx hy hxy he=>?_⟩;have hab:U5 (y-x)<=e:=by rw [Px]; clear h1 h2; constructor <;> grind
  have hab1:U5 (y-x)<=e1:=by clear h1 h2; grind
  have hab2:U5 (y-x)<=e2:=by clear h1 h2; grind
  obtain ⟨i1,i2,i3,i4,i5⟩:=h1 x y hx hy hab1;rcases Fh d (U5 (ev f x)) with hf | hf
  ·obtain ⟨s1,s2⟩:=h2 x y hx hy hab2 hf;obtain ⟨j1,j2⟩:=i2 hf;refine .inl ⟨?_,s1,s2⟩;have:=i4 j1 j2;simp only [vv];rw [Qfd (x:=x) (p:=f) j2,Qfd (x:=y) (p:=f) (by rw [j1]; exact j2),j1,this]
  ·have hg1:d<=U5 (ev g x):=by
    rcases i1 with i | i
    ·exact absurd i (X4.2 hf)
    ·exact i
   obtain ⟨g1,g2⟩:=i3 hg1;have i5:=i5 g1 g2;have hD:d3<=U5 (dv f x):=by
    rcases Fh d3 (U5 (dv f x)) with h' | h'
    ·exact h'
    ·have h5:=Gp (x:=k) (a:=k) (by unfold U5; split <;> clear h1 h2 <;> grind) (Rat.le_of_lt h');rw [<-hg] at h5;have:k*d3=d3*k:=by grind
     exact absurd (Ze hg1 h5) (X4.2 (by rw [this]; exact d3b))
   have hm:=Qlj hx hy hR hxy (by clear h1 h2; grind:y-x<=e3) hD e3b;have s1:U4 (ev g x)=U4 (dv f x):=by rw [hg,Tv,H6.2 hk,Y7]
   have s2:U4 (ev g y)=U4 (dv f y):=by rw [hg,Tv,H6.2 hk,Y7]
   obtain ⟨s,hs⟩:=nmE (U4 (ev g x));rw [<-hs] at g1 g2 i5 s1;rw [g1] at s2;have v1:=tc0 (f:=f) (l:=l) hs.symm g2;have v2:=tc0 (f:=f) (l:=l) g1 g2;rw [<-i5] at v2;rw [<-s1] at hm;have hw:Sm f x y->Sm w x y:=λhf=>by
    rcases Fh d4 (U5 (ev u x)) with hu | hu
    ·have hu:=S6 hu (Po hx hy hR (Ze hab b2) e5b);exact Zky h hu.1 hu.2 hf
    ·have hw:d4<=U5 (ev w x):=by
      rcases Fh d4 (U5 (ev w x)) with h' | h'
      ·exact h'
      ·have q1:=Gp (x:=dv w x) (y:=ev u x) (a:=dqB R w) (by rw [<-Qp4]; exact Qtf hx hx w) (Qq hu);have q2:=Gp (x:=ev w x) (y:=dv u x) (b:=dqB R u) (Qq h') (by rw [<-Qp4]; exact Qtf hx hx u);have q3:=Tt (dv w x*ev u x) (ev w x*dv u x);rw [<-I7 h] at q3;have:d4*(dqB R w+dqB R u)=dqB R w*d4+d4*dqB R u:=by grind
       rw [this] at d4b;exact absurd (Ze hD (Ze q3 (by clear h1 h2; grind:_<=dqB R w*d4+d4*dqB R u))) (X4.2 d4b)
     have hw:=S6 hw (Po hx hy hR (Ze hab (by clear h1 h2; grind)) e4b);exact Qve hw.1 hw.2
   have lx:Sy f x=if U4 (ev f x)≠0 then U4 (ev f x) else s:=by rw [s1]; rfl
   have ly:Sy f y=if U4 (ev f y)≠0 then U4 (ev f y) else s:=by rw [s2]; rfl
   clear h1 h2 i1 i2 i3 i4;have hsv:s=1\/s=-1:=by rcases Fp (ev g x) with ⟨e,_⟩ | ⟨e,_⟩ | ⟨e,_⟩ <;> omega
   unfold Q5w;simp only [vv,v1,v2];rcases hsv with rfl | rfl
   ·have hm:=H6.1 hm;rcases Fp (ev f x) with ⟨p1,p2⟩ | ⟨p1,p2⟩ | ⟨p1,p2⟩
    ·rcases Fp (ev f y) with ⟨q1,q2⟩ | ⟨q1,q2⟩ | ⟨q1,q2⟩
     ·rw [p1,q1]; have hsm:=Qve (p:=f) (x:=x) (y:=y) (by rw [p1,q1]) (by rw [p1]; decide);exact .inl ⟨rfl,hsm,hw hsm⟩
     ·rw [lx,ly,p1,q1]; refine .inr ⟨by simp; omega,by decide,by decide,by decide,by decide⟩
     ·rw [lx,ly,p1,q1]; refine .inr ⟨by simp; omega,by decide,by decide,by decide,by decide⟩
    ·have q1:=H6.2 (show 0<ev f y by grind);have hsm:Sm f x y:=⟨by rw [lx,q1,p1]; rfl,by rw [lx,ly,q1,p1]; rfl,by rw [lx,p1]; decide⟩;rw [p1,q1]; exact .inl ⟨rfl,hsm,hw hsm⟩
    ·have q1:=H6.2 (show 0<ev f y by grind);have hsm:Sm f x y:=⟨by rw [lx,q1,p1]; rfl,by rw [lx,ly,q1,p1],by rw [lx,p1]; decide⟩;rw [p1,q1]; exact .inl ⟨rfl,hsm,hw hsm⟩
   ·have hm:=Sj.1 hm;rcases Fp (ev f x) with ⟨p1,p2⟩ | ⟨p1,p2⟩ | ⟨p1,p2⟩
    ·have q1:=Sj.2 (show ev f y<0 by grind);have hsm:Sm f x y:=⟨by rw [lx,q1,p1]; rfl,by rw [lx,ly,q1,p1],by rw [lx,p1]; decide⟩;rw [p1,q1]; exact .inl ⟨rfl,hsm,hw hsm⟩
    ·have q1:=Sj.2 (show ev f y<0 by grind);have hsm:Sm f x y:=⟨by rw [lx,q1,p1]; rfl,by rw [lx,ly,q1,p1]; rfl,by rw [lx,p1]; decide⟩;rw [p1,q1]; exact .inl ⟨rfl,hsm,hw hsm⟩
    ·rcases Fp (ev f y) with ⟨q1,q2⟩ | ⟨q1,q2⟩ | ⟨q1,q2⟩
     ·rw [lx,ly,p1,q1]; refine .inr ⟨by simp; omega,by decide,by decide,by decide,by decide⟩
     ·rw [lx,ly,p1,q1]; refine .inr ⟨by simp; omega,by decide,by decide,by decide,by decide⟩
     ·rw [p1,q1]; have hsm:=Qve (p:=f) (x:=x) (y:=y) (by rw [p1,q1]) (by rw [p1]; decide);exact .inl ⟨rfl,hsm,hw hsm⟩
theorem Zoy (z:Rat):∃ n:Nat,z<=(n:Rat):=by
 refine ⟨z.ceil.toNat,?_⟩;have h1:z<=(z.ceil:Rat):=Rat.le_ceil;have h2:(z.ceil:Rat)<=((z.ceil.toNat:Int):Rat):=Xz.2 (Int.self_le_toNat _);exact Ze h1 h2
theorem O5 {z e:Rat} (he:0<e):∃ n:Nat,z<=(n:Rat)*e:=by
 obtain ⟨n,hn⟩:=Zoy (z / e);exact ⟨n,by have:=Q8 hn (Qq he); rwa [Gs he] at this⟩
theorem Qee {R x y t:Rat} (hx:U5 x<=R) (hy:U5 y<=R) (h1:x<=t) (h2:t<=y):U5 t<=R:=by
 rw [Px] at *; constructor <;> grind
def Q3a (f w:List Rat) (L:List (List Rat)) (x y:Rat):Prop :=
 vv L y<=vv L x/\(vv L x=vv L y->Sm f x y/\Sm w x y)/\(vv L x=vv L y+1->Sy f x≠0/\Sy f y=-Sy f x)
theorem Q1l {f w:List Rat} {L:List (List Rat)} {x y:Rat} (h:Q5w f w L x y):Q3a f w L x y:=by
 rcases h with ⟨h1,h2,h3⟩ | ⟨h1,h2,h3,_⟩
 ·exact ⟨by omega,λ_=>⟨h2,h3⟩,λh=>by omega⟩
 ·exact ⟨by omega,λh=>by omega,λ_=>⟨h2,h3⟩⟩
theorem Qvf {w:List Rat} {x y z:Rat} (h1:Sm w x y) (h2:Sm w y z):Sm w x z:=⟨by rw [h2.s,h1.l],by rw [h2.l,h1.l],h1.n⟩
theorem Qxt {f w:List Rat} {L:List (List Rat)} {x y z:Rat} (h:Q3a f w L x y) (h':Q3a f w L y z):Q3a f w L x z:=by
 obtain ⟨a1,a2,a3⟩:=h;obtain ⟨b1,b2,b3⟩:=h';refine ⟨by omega,λh=>?_,λh=>?_⟩
 ·obtain ⟨s1,s2⟩:=a2 (by omega);obtain ⟨s3,s4⟩:=b2 (by omega);exact ⟨Qvf s1 s3,Qvf s2 s4⟩
 ·by_cases e:vv L x=vv L y
  ·obtain ⟨s1,_⟩:=a2 e;obtain ⟨s3,s4⟩:=b3 (by omega);exact ⟨s1.n,by rw [s4,s1.l]⟩
  ·obtain ⟨s3,s4⟩:=a3 (by omega);obtain ⟨s1,_⟩:=b2 (by omega);exact ⟨s3,by rw [s1.l,s4]⟩
theorem Zjz {R:Rat} (hR:0<=R) {f w u:List Rat} {L:List (List Rat)} (hc:Stm f L) (h:∀ t,ev f t=ev w t*ev u t) {x y:Rat} (hx:U5 x<=R) (hy:U5 y<=R) (hxy:x<y):Q3a f w L x y:=by
 obtain ⟨e,ep,hl⟩:=loc hR hc h;have key:∀ n:Nat,∀ x,U5 x<=R->x<y->y-x<=(n:Rat)*e->Q3a f w L x y:=by
  intro n
  induction n with
  | zero =>
   intro x hx hxy h; exfalso; have:((0:Nat):Rat)*e=0:=by simp
   grind
  |
   succ n ih =>
   intro x hx hxy hn;rcases Fh (y-x) e with h1 | h1
   ·exact Q1l (hl x y hx hy hxy h1)
   ·have hm:U5 (x+e)<=R:=Qee hx hy (by clear hl ih; grind) (by clear hl ih; grind);have hn':(((n+1:Nat):Rat))=(n:Rat)+1:=by push_cast; rfl
    refine Qxt (Q1l (hl x (x+e) hx hm (by clear hl ih; grind) (by clear hl ih; grind))) (ih (x+e) hm (by clear hl ih; grind) ?_);rw [hn'] at hn;clear hl ih; grind
 obtain ⟨n,hn⟩:=O5 (z:=y-x) ep;exact key n x hx hxy hn
theorem Qpd (x y:Rat):∃ R:Rat,0<=R/\U5 x<=R/\U5 y<=R:=by
 refine ⟨U5 x+U5 y,?_,?_,?_⟩ <;> (have:=Hk x; have:=Hk y; grind)
theorem Rq (t:Rat):ev [1] t=1:=by simp only [ev]; grind
theorem Ek {f:List Rat} {L:List (List Rat)} (hc:Stm f L) {x y:Rat} (hxy:x<y):vv L y<=vv L x:=by
 obtain ⟨R,hR,hx,hy⟩:=Qpd x y;exact (Zjz hR hc (w:=f) (u:=[1]) (λt=>by rw [Rq]; grind) hx hy hxy).1
theorem Qct {f w u:List Rat} {L:List (List Rat)} (hc:Stm f L) (h:∀ t,ev f t=ev w t*ev u t) {x y:Rat} (hxy:x<y) (he:vv L x=vv L y):Sm w x y:=by
 obtain ⟨R,hR,hx,hy⟩:=Qpd x y;exact ((Zjz hR hc h hx hy hxy).2.1 he).2
theorem Qr6 {f:List Rat} {L:List (List Rat)} (hc:Stm f L) {x y:Rat} (hxy:x<y) (he:vv L x=vv L y):Sm f x y :=
 Qct hc (w:=f) (u:=[1]) (λt=>by rw [Rq]; grind) hxy he
theorem Qr5 {f:List Rat} {L:List (List Rat)} (hc:Stm f L) {x y:Rat} (hxy:x<y) (he:vv L x=vv L y+1):Sy f x≠0/\Sy f y=-Sy f x:=by
 obtain ⟨R,hR,hx,hy⟩:=Qpd x y;exact (Zjz hR hc (w:=f) (u:=[1]) (λt=>by rw [Rq]; grind) hx hy hxy).2.2 he
theorem Zcn {f:List Rat} {L:List (List Rat)} (hc:Stm f L) (R:Rat) (hR:0<=R):∃ e:Rat,0<e/\∀ x y,U5 x<=R->U5 y<=R->x<y->y-x<=e->vv L x<=vv L y+1:=by
 obtain ⟨e,ep,hl⟩:=loc hR hc (w:=f) (u:=[1]) (λt=>by rw [Rq]; grind);refine ⟨e,ep,λx y hx hy hxy he=>?_⟩;rcases hl x y hx hy hxy he with ⟨h,_⟩ | ⟨h,_⟩ <;> omega
theorem Qcg {p:List Rat} {x:Rat} (h:U4 (ev p x)≠0):∃ e:Rat,0<e/\∀ y,U5 (y-x)<=e->U4 (ev p y)=U4 (ev p x):=by
 have hd:=Bi (x:=ev p x) λh0=>h (Fu.2 h0)
 have hR:0<=U5 x+1:=by have:=Hk x; grind
 obtain ⟨e,e1,e2,e3⟩:=Gu (Me hR p) hd;refine ⟨e,e1,λy hy=>(S6 Qp (Po (x:=x) (by grind) ?_ hR hy e3)).1⟩;have:=Tt (y-x) x;have e:y-x+x=y:=by grind
 rw [e] at this; grind
theorem Zib {R M:Rat} {p:List Rat} (hM:M=ddB R p) (hR:0<=R) {h:Rat} (hh:0<h):∀ (n:Nat) (x:Rat),U5 x<=R->U5 (x+(n:Rat)*h)<=R->(∀ t,x<=t->t<=x+(n:Rat)*h->0<=dv p t)->ev p x-(n:Rat)*(h*h*M)<=ev p (x+(n:Rat)*h)
 |
  0,x,_,_,_=>by
  have e1:x+((0:Nat):Rat)*h=x:=by rw [show ((0:Nat):Rat)=0 from rfl]; grind
  have e2:((0:Nat):Rat)*(h*h*M)=0:=by simp
  rw [e1,e2]; grind
 |
  n+1,x,hx,hy,hd=>by
  have hn':(((n+1:Nat):Rat))=(n:Rat)+1:=by push_cast; rfl
  rw [hn'] at hy hd ⊢;have hn0:(0:Rat)<=(n:Rat):=Xh;have hnh:=M3 hn0 (Qq hh);have e1:x+((n:Rat)+1)*h=(x+h)+(n:Rat)*h:=by grind
  rw [e1] at hy hd ⊢;have hxh:U5 (x+h)<=R:=Qee hx hy (by clear hd; grind) (by clear hd; grind);have ih:=Zib hM hR hh n (x+h) hxh hy λt h1 h2=>hd t (by clear hd; grind) h2
  have h0:=hd x Qp (by clear hd; grind);have h1:=Zh0 p (x+h) x;have h2:=Q8c hxh hx p;rw [<-hM,Px] at h2;have h3:=Zz h2.1 (M3 (Qq hh) (Qq hh));have h4:=M3 (Qq hh) h0;have e2:x+h-x=h:=by grind
  rw [e2] at h1;clear hd hx hy hxh;grind
theorem Zm8 {p:List Rat} {x y:Rat} (hxy:x<y) (hd:∀ t,x<=t->t<=y->0<=dv p t):ev p x<=ev p y:=by
 obtain ⟨R,hR,hx,hy⟩:=Qpd x y;rcases Fh (ev p x) (ev p y) with h | h
 ·exact h
 ·exfalso;obtain ⟨M,hM⟩:=nmE (ddB R p);have hM0:=Qkc hR p;rw [<-hM] at hM0;obtain ⟨e,ep,_,he⟩:=Gu (b:=(y-x)*M) (d:=ev p x-ev p y) (M3 (by grind) hM0) (by grind);obtain ⟨n,hn⟩:=O5 (z:=y-x) ep;have hn0:0<(n:Rat):=by
   rcases Fh (n:Rat) 0 with h' | h'
   ·have:=Q8 h' (Qq ep); clear hd; grind
   ·exact h'
  have hh:0<(y-x) / n:=Lt (by grind) hn0;have e1:(n:Rat)*((y-x) / n)=y-x:=by rw [Uj]; exact Gs hn0
  have e2:x+(n:Rat)*((y-x) / n)=y:=by rw [e1]; grind
  have h1:=Zib hM hR hh n x hx (by rw [e2]; exact hy) (by rw [e2]; exact hd);rw [e2] at h1;have h2:(y-x) / n<=e:=by
   rcases Fh ((y-x) / n) e with h' | h'
   ·exact h'
   ·have:=Rat.mul_lt_mul_of_pos_left h' hn0; clear hd; grind
  have h3:(n:Rat)*((y-x) / n*((y-x) / n)*M)=((y-x) / n)*((y-x)*M):=by
   have:(n:Rat)*((y-x) / n*((y-x) / n)*M)=((n:Rat)*((y-x) / n))*(((y-x) / n)*M):=by grind
   rw [this,e1]; grind
  have h4:=Q8 h2 (M3 (x:=y-x) (y:=M) (by grind) hM0);rw [h3] at h1;clear hd; grind
theorem Zgc {p:List Rat} {x y:Rat} (hxy:x<y) (hd:∀ t,x<=t->t<=y->0<dv p t):ev p x<ev p y:=by
 have hx:=hd x Qp (by grind);have hR:0<=U5 x+1:=by have:=Hk x; grind
 obtain ⟨e,e1,e2,e3⟩:=Gu (Qkc hR p) hx;obtain ⟨f,f1,f2,f3⟩:=min2 (a:=e) (b:=y-x) e1 (by grind);have hq:U5 (x+f)<=U5 x+1:=by
  have:=Tt x f; have:U5 f=f:=by unfold U5; split <;> grind
  clear hd; grind
 have h1:=Qlj (p:=p) (x:=x) (y:=x+f) (R:=U5 x+1) (e:=e) (d:=dv p x) (by clear hd; grind) hq hR (by grind) (by grind) (by unfold U5; split <;> clear hd <;> grind) e3;rw [H6.2 hx,H6] at h1;rcases Classical.em (x+f=y) with e | e
 ·rw [<-e]; clear hd; grind
 ·have:=Zm8 (p:=p) (x:=x+f) (y:=y) (by clear hd; grind) λt h1 h2=>Qq (hd t (by clear hd; grind) h2)
  clear hd; grind
structure Cut (c:Rat->Int):Prop where
 val:∀ q,c q=1\/c q=0\/c q=-1
 mono:∀ q r,q<r->c q≠1->c r=-1
 up:∀ q,c q=1->∃ r,q<r/\c r=1
 dn:∀ q,c q=-1->∃ r,r<q/\c r=-1
 lo:∃ q,c q=1
 hi:∃ q,c q=-1
theorem Cut.mono' {c:Rat->Int} (h:Cut c) {q r:Rat} (hqr:q<r) (hr:c r≠-1):c q=1:=by
 rcases Classical.em (c q=1) with e | e
 ·exact e
 ·exact absurd (h.mono q r hqr e) hr
theorem Cut.lt {c:Rat->Int} (h:Cut c) {q r:Rat} (hq:c q=1) (hr:c r=-1):q<r:=by
 rcases Fh r q with e | e
 ·rcases Classical.em (r=q) with e' | e'
  ·rw [e'] at hr; omega
  ·have:=h.mono r q (by grind) (by omega); omega
 ·exact e
theorem Cut.near {c:Rat->Int} (h:Cut c) {e:Rat} (he:0<e):∃ x y,c x=1/\c y=-1/\y-x<=e:=by
 obtain ⟨a,ha⟩:=h.lo;obtain ⟨b,hb⟩:=h.hi;have he2:0<e / 2:=Lt he (by decide);have h2:e / 2*2=e:=Gs (by decide);have key:∀ (n:Nat) (a:Rat),c a=1->b-a<=(n:Rat)*(e / 2)->∃ x y,c x=1/\c y=-1/\y-x<=e:=by
  intro n
  induction n with
  |
   zero =>
   intro a ha hn;have:=h.lt ha hb;rw [show ((0:Nat):Rat)=0 from rfl] at hn;exfalso; grind
  |
   succ n ih =>
   intro a ha hn;have hn':(((n+1:Nat):Rat))=(n:Rat)+1:=by push_cast; rfl
   rw [hn'] at hn;rcases h.val (a+e / 2) with h1 | h1 | h1
   ·exact ih _ h1 (by grind)
   ·exact ⟨a,a+e,ha,h.mono (a+e / 2) _ (by grind) (by omega),by grind⟩
   ·exact ⟨a,a+e / 2,ha,h1,by grind⟩
 obtain ⟨n,hn⟩:=O5 (z:=b-a) he2;exact key n a ha hn
def Aq (p:List Rat) (c:Rat->Int):Prop:=∀ d:Rat,0<d->∃ x y,c x=1/\c y=-1/\∀ q,x<=q->q<=y->U5 (ev p q)<d
def NZ (p:List Rat) (c:Rat->Int) (s:Int):Prop:=∃ d:Rat,0<d/\∃ x y,c x=1/\c y=-1/\∀ q,x<=q->q<=y->U4 (ev p q)=s/\d<=U5 (ev p q)
def Nr (c:Rat->Int) (P:Rat->Prop):Prop:=∃ x y,c x=1/\c y=-1/\∀ q,x<=q->q<=y->P q
theorem Qxy {c:Rat->Int} {P Q:Rat->Prop} (h1:Nr c P) (h2:Nr c Q):Nr c λq=>P q/\Q q:=by
 obtain ⟨x,y,a1,a2,a3⟩:=h1;obtain ⟨x',y',b1,b2,b3⟩:=h2;refine ⟨if x<=x' then x' else x,if y<=y' then y else y',by split <;> assumption,by split <;> assumption,λq q1 q2=>⟨a3 q ?_ ?_,b3 q ?_ ?_⟩⟩ <;> clear a3 b3 <;> grind
theorem Qi2 {c:Rat->Int} {P Q:Rat->Prop} (h1:Nr c P) (h:∀ q,P q->Q q):Nr c Q:=by
 obtain ⟨x,y,a1,a2,a3⟩:=h1;exact ⟨x,y,a1,a2,λq q1 q2=>h q (a3 q q1 q2)⟩
theorem Qug {c:Rat->Int} (hc:Cut c) {P:Rat->Prop} (h1:Nr c P):∃ q,P q/\c q=1:=by
 obtain ⟨x,y,a1,a2,a3⟩:=h1;exact ⟨x,a3 x Qp (Qq (hc.lt a1 a2)),a1⟩
theorem Q98 {c:Rat->Int} (hc:Cut c) {e:Rat} (he:0<e) {P:Rat->Prop} (h1:Nr c P):∃ x y,c x=1/\c y=-1/\y-x<=e/\x<y/\∀ q,x<=q->q<=y->P q:=by
 obtain ⟨x,y,a1,a2,a3⟩:=h1;obtain ⟨x',y',b1,b2,b3⟩:=hc.near he;refine ⟨if x<=x' then x' else x,if y<=y' then y else y',by split <;> assumption,by split <;> assumption,by clear a3; grind,hc.lt (by split <;> assumption) (by split <;> assumption),λq q1 q2=>a3 q ?_ ?_⟩ <;> clear a3 <;> grind
theorem Zia {c:Rat->Int} (hc:Cut c):∃ R:Rat,0<=R/\Nr c λq=>U5 q<=R:=by
 obtain ⟨x,y,a1,a2,_⟩:=hc.near (e:=1) (by decide);obtain ⟨R,hR,h1,h2⟩:=Qpd x y;exact ⟨R,hR,x,y,a1,a2,λq q1 q2=>Qee h1 h2 q1 q2⟩
theorem Qbj {c:Rat->Int} (hc:Cut c) (p:List Rat):Aq p c\/∃ s,s≠0/\NZ p c s:=by
 rcases Classical.em (Aq p c) with h | h
 ·exact .inl h
 ·refine .inr ?_;obtain ⟨d,hd0⟩:=Classical.not_forall.1 h;obtain ⟨dp,hd⟩:=Classical.not_imp.1 hd0;have hd:∀ x y,c x=1->c y=-1->∃ q,x<=q/\q<=y/\d<=U5 (ev p q):=λx y hx hy=>by
   rcases Classical.em (∃ q,x<=q/\q<=y/\d<=U5 (ev p q)) with h' | h'
   ·exact h'
   ·refine absurd ⟨x,y,hx,hy,λq h1 h2=>?_⟩ hd;rcases Fh d (U5 (ev p q)) with h3 | h3
    ·exact absurd ⟨q,h1,h2,h3⟩ h'
    ·exact h3
  obtain ⟨R,hR,hn⟩:=Zia hc;have hd2:0<d / 2:=Lt dp (by decide);have h2:d / 2*2=d:=Gs (by decide);obtain ⟨e,e1,_,e3⟩:=Gu (Me hR p) hd2;obtain ⟨x,y,hx,hy,hxy,_,hq⟩:=Q98 hc e1 hn;obtain ⟨r,r1,r2,r3⟩:=hd x y hx hy;have key:∀ q,x<=q->q<=y->U5 (ev p q-ev p r)<d / 2:=λq q1 q2 =>
   Po (hq r r1 r2) (hq q q1 q2) hR (by rw [Px]; clear hq hd; constructor <;> grind) e3
  refine ⟨U4 (ev p r),λh0=>?_,d / 2,hd2,x,y,hx,hy,λq q1 q2=>⟨(S6 (d:=d) r3 ?_).1,?_⟩⟩
  ·rw [Fu.1 h0,H5] at r3; clear hq hd key; grind
  ·have:=key q q1 q2; clear hq hd key; grind
  ·have h3:=key q q1 q2;have h4:=Tt (ev p r-ev p q) (ev p q);rw [show ev p r-ev p q+ev p q=ev p r from by clear hq hd key; grind,Q2h] at h4;clear hq hd key; grind
theorem Zld {c:Rat->Int} (hc:Cut c) {p:List Rat} {s:Int} (h1:Aq p c) (h2:NZ p c s):False:=by
 obtain ⟨d,dp,h2⟩:=h2;obtain ⟨q,⟨a,b⟩,_⟩:=Qug hc (Qxy (h1 d dp) h2);exact absurd b.2 (X4.2 a)
theorem Pf {c:Rat->Int} (hc:Cut c) {f p q:List Rat} (hf:∀ t,ev f t=ev p t*ev q t) (h:Aq p c):Aq f c:=by
 intro d dp;obtain ⟨R,hR,hn⟩:=Zia hc;obtain ⟨e,e1,_,e3⟩:=Gu (Qal hR q) dp;refine Qi2 (Qxy hn (h e e1)) λt ⟨h1,h2⟩=>?_
 rw [hf];have:=Gp (Qq h2) (Qhk h1 q);exact X4.1 λh=>absurd (Ze h this) (X4.2 e3)
theorem Qjh {c:Rat->Int} {f p q:List Rat} (hf:∀ t,ev f t=ev p t+ev q t) (h:Aq p c) (h':Aq q c):Aq f c:=by
 intro d dp;have hd2:0<d / 2:=Lt dp (by decide);have h2:d / 2*2=d:=Gs (by decide);refine Qi2 (Qxy (h _ hd2) (h' _ hd2)) λt ⟨h1,h2⟩=>?_
 rw [hf];have:=Tt (ev p t) (ev q t);grind
def RS (p:List Rat) (c:Rat->Int) (s:Int):Prop:=∃ y,c y=-1/\∀ q,c q=-1->q<=y->U4 (ev p q)=s
def LS (p:List Rat) (c:Rat->Int) (s:Int):Prop:=∃ x,c x=1/\∀ q,c q=1->x<=q->U4 (ev p q)=s
theorem Qop {c:Rat->Int} (hc:Cut c) {p:List Rat} {s:Int} (h:NZ p c s):RS p c s:=by
 obtain ⟨d,dp,x,y,a1,a2,a3⟩:=h;exact ⟨y,a2,λq h1 h2=>(a3 q (Qq (hc.lt a1 h1)) h2).1⟩
theorem Q1o {c:Rat->Int} (hc:Cut c) {p:List Rat} {s:Int} (h:NZ p c s):LS p c s:=by
 obtain ⟨d,dp,x,y,a1,a2,a3⟩:=h;exact ⟨x,a1,λq h1 h2=>(a3 q h2 (Qq (hc.lt h1 a2))).1⟩
theorem Qe5 {c:Rat->Int} {p:List Rat} {s s':Int} (h:RS p c s) (h':RS p c s'):s=s':=by
 obtain ⟨y,a1,a2⟩:=h;obtain ⟨y',b1,b2⟩:=h';rcases Fh y y' with e | e
 ·rw [<-a2 y a1 Qp,<-b2 y a1 e]
 ·rw [<-a2 y' b1 (Qq e),<-b2 y' b1 Qp]
theorem Zie {c:Rat->Int} (hc:Cut c) {p:List Rat} (hv:Aq p c) {y:Rat} (hy:c y=-1) (h:∀ q,c q=-1->q<=y->0<dv p q) (q:Rat) (hq:c q=-1) (hqy:q<=y):0<ev p q:=by
 rcases Fh (ev p q) 0 with h0 | h0
 ·exfalso;obtain ⟨r,r1,r2⟩:=hc.dn q hq;have hr:ev p r<ev p q:=Zgc r1 λt t1 t2=>h t (by
   rcases Classical.em (r=t) with e | e
   ·rw [<-e]; exact r2
   ·exact hc.mono r t (by clear h; grind) (by omega)) (Ze t2 hqy)
  obtain ⟨a,b,ha,hb,hab⟩:=hv (-ev p r) (by clear h; grind);obtain ⟨m,hm1,hm2,hm3⟩:∃ m,c m=-1/\m<=b/\m<=r:=by
   rcases Fh b r with e | e
   ·exact ⟨b,hb,Qp,e⟩
   ·exact ⟨r,r2,Qq e,Qp⟩
  have h1:=hab m (Qq (hc.lt ha hm1)) hm2;have h2:ev p m<=ev p r:=by
   rcases Classical.em (m=r) with e | e
   ·rw [e]; exact Qp
   ·exact Qq (Zgc (by clear h hab; grind) λt t1 t2=>h t (by
     rcases Classical.em (m=t) with e | e
     ·rw [<-e]; exact hm1
     ·exact hc.mono m t (by clear h hab; grind) (by omega)) (by clear h hab; grind))
  rw [Qre] at h1;clear h hab; grind
 ·exact h0
theorem Qrl {c:Rat->Int} (hc:Cut c) {p:List Rat} {s:Int} (hv:Aq p c) (h:RS (M5 p) c s) (hs:s≠0):RS p c s:=by
 obtain ⟨y,hy,h⟩:=h;have hsv:s=1\/s=-1:=by
  have:=h y hy Qp;rcases Fp (ev (M5 p) y) with ⟨e,_⟩ | ⟨e,_⟩ | ⟨e,_⟩ <;> omega
 rcases hsv with rfl | rfl
 ·refine ⟨y,hy,λq h1 h2=>H6.2 (Zie hc hv hy (λq h1 h2=>?_) q h1 h2)⟩;rw [<-Rz]; exact H6.1 (h q h1 h2)
 ·refine ⟨y,hy,λq h1 h2=>Sj.2 ?_⟩;have:=Zie hc (p:=C0 (-1) p) (y:=y) (λd dp=>Qi2 (hv d dp) λq hq=>by rw [Fy,show -1*ev p q=-ev p q by grind,D8]; exact hq) hy (λq h1 h2=>by
   rw [Qf7,<-Rz];have:=Sj.1 (h q h1 h2); grind) q h1 h2
  rw [Fy] at this; grind
theorem Zh7 {c:Rat->Int} (hc:Cut c) {p:List Rat} (hv:Aq p c) {x:Rat} (hx:c x=1) (h:∀ q,c q=1->x<=q->0<dv p q) (q:Rat) (hq:c q=1) (hxq:x<=q):ev p q<0:=by
 rcases Fh 0 (ev p q) with h0 | h0
 ·exfalso;obtain ⟨r,r1,r2⟩:=hc.up q hq;have hr:ev p q<ev p r:=Zgc r1 λt t1 t2=>h t (by
   rcases Classical.em (t=r) with e | e
   ·rw [e]; exact r2
   ·exact hc.mono' (q:=t) (r:=r) (by clear h; grind) (by omega)) (Ze hxq t1)
  obtain ⟨a,b,ha,hb,hab⟩:=hv (ev p r) (by clear h; grind);obtain ⟨m,hm1,hm2,hm3⟩:∃ m,c m=1/\a<=m/\r<=m:=by
   rcases Fh a r with e | e
   ·exact ⟨r,r2,e,Qp⟩
   ·exact ⟨a,ha,Qp,Qq e⟩
  have h1:=hab m hm2 (Qq (hc.lt hm1 hb));have h2:ev p r<=ev p m:=by
   rcases Classical.em (r=m) with e | e
   ·rw [e]; exact Qp
   ·exact Qq (Zgc (by clear h hab; grind) λt t1 t2=>h t (by
     rcases Classical.em (t=m) with e | e
     ·rw [e]; exact hm1
     ·exact hc.mono' (q:=t) (r:=m) (by clear h hab; grind) (by omega)) (by clear h hab; grind))
  rw [Qre] at h1;clear h hab; grind
 ·exact h0
theorem Q9t {c:Rat->Int} (hc:Cut c) {p:List Rat} {s:Int} (hv:Aq p c) (h:LS (M5 p) c s) (hs:s≠0):LS p c (-s):=by
 obtain ⟨x,hx,h⟩:=h;have hsv:s=1\/s=-1:=by
  have:=h x hx Qp;rcases Fp (ev (M5 p) x) with ⟨e,_⟩ | ⟨e,_⟩ | ⟨e,_⟩ <;> omega
 rcases hsv with rfl | rfl
 ·refine ⟨x,hx,λq h1 h2=>Sj.2 (Zh7 hc hv hx (λq h1 h2=>?_) q h1 h2)⟩;rw [<-Rz]; exact H6.1 (h q h1 h2)
 ·refine ⟨x,hx,λq h1 h2=>H6.2 ?_⟩;have:=Zh7 hc (p:=C0 (-1) p) (x:=x) (λd dp=>Qi2 (hv d dp) λq hq=>by rw [Fy,show -1*ev p q=-ev p q by grind,D8]; exact hq) hx (λq h1 h2=>by
   rw [Qf7,<-Rz];have:=Sj.1 (h q h1 h2); grind) q h1 h2
  rw [Fy] at this; grind
theorem Zgi {c:Rat->Int} (hc:Cut c) {f g:List Rat} {l:List (List Rat)} (h:SCl f g l):Aq f c->Aq g c->False:=by
 induction h with
 |
  @base f g k hk hg =>
  intro _ hv;obtain ⟨q,hq,_⟩:=Qug hc (hv (U5 k) (Bi hk));rw [hg] at hq; grind
 |
  @step f g h l a b q ha hb he hl ih =>
  intro hf hg;refine ih hg ?_;have h1:Aq (Gk q g) c:=Pf hc (p:=g) (q:=q) (λt=>by rw [U3]; grind) hg;have h2:Aq (C0 (-a) f) c:=Pf hc (p:=f) (q:=[-a]) (λt=>by rw [Fy]; simp only [ev]; grind) hf;have h3:Aq (Tu (Gk q g) (C0 (-a) f)) c:=Qjh (λt=>Gg t _ _) h1 h2;refine Pf hc (p:=Tu (Gk q g) (C0 (-a) f)) (q:=[1 / b]) (λt=>?_) h3;have:=he t;rw [Gg,U3,Fy];simp only [ev];have hbb:1 / b*b=1:=Gs hb;have:ev q t*ev g t+-a*ev f t=b*ev h t:=by rw [show -a*ev f t=-(a*ev f t) by grind,he t]; grind
  rw [this];have:b*ev h t*(1 / b+t*0)=ev h t*(1 / b*b):=by grind
  rw [this,hbb]; grind
theorem Qo9 {c:Rat->Int} (hc:Cut c) {f g:List Rat} {k:Rat} (h:∀ t,ev g t=k*ev f t) (hv:Aq f c):Aq g c :=
 Pf hc (p:=f) (q:=[k]) (λt=>by rw [h]; simp only [ev]; grind) hv
theorem Zgt {c:Rat->Int} (hc:Cut c) {f:List Rat} {L:List (List Rat)} (h:Stm f L) (hv:Aq f c):∃ s,s≠0/\NZ (M5 f) c s:=by
 rcases Qbj hc (M5 f) with h1 | h1
 ·exfalso;rcases h with ⟨k,hk,hf,_⟩ | ⟨g,l,k,hk,hg,h,_⟩
  ·obtain ⟨q,hq,_⟩:=Qug hc (hv (U5 k) (Bi hk));rw [hf] at hq; grind
  ·exact Zgi hc h hv (Qo9 hc (λt=>by rw [hg,Rz]) h1)
 ·exact h1
theorem Q0u {c:Rat->Int} (hc:Cut c) {f w u:List Rat} {L:List (List Rat)} (h:Stm f L) (hf:∀ t,ev f t=ev w t*ev u t) (hv:Aq w c):∃ s,s≠0/\NZ (M5 w) c s:=by
 rcases Qbj hc (M5 w) with h1 | h1
 ·exfalso;obtain ⟨s,_,hs⟩:=Zgt hc h (Pf hc hf hv);refine Zld hc ?_ hs;have a1:Aq (Gk (M5 w) u) c:=Pf hc (λt=>U3 t _ _) h1;have a2:Aq (Gk w (M5 u)) c:=Pf hc (λt=>U3 t _ _) hv;refine Qjh (λt=>?_) a1 a2;rw [Rz,I7 hf,U3,U3,Rz,Rz]
 ·exact h1
theorem Q79 {c:Rat->Int} (hc:Cut c) {q:Rat} (h:c q=0) {x y:Rat} (hx:c x=1) (hy:c y=-1):x<=q/\q<=y:=by
 constructor
 ·rcases Fh x q with e | e
  ·exact e
  ·have:=hc.mono q x e (by omega); omega
 ·rcases Fh q y with e | e
  ·exact e
  ·have:=hc.mono y q e (by omega); omega
theorem Qha {c:Rat->Int} (hc:Cut c) {p:List Rat} {q:Rat} (h:c q=0) (hv:Aq p c):ev p q=0:=by
 rcases Classical.em (ev p q=0) with e | e
 ·exact e
 ·obtain ⟨x,y,hx,hy,hq⟩:=hv _ (Bi e);obtain ⟨h1,h2⟩:=Q79 hc h hx hy;have:=hq q h1 h2; grind
theorem Quj {c:Rat->Int} (hc:Cut c) {p:List Rat} {q:Rat} {s:Int} (h:c q=0) (hv:NZ p c s):U4 (ev p q)=s:=by
 obtain ⟨d,dp,x,y,hx,hy,hq⟩:=hv;obtain ⟨h1,h2⟩:=Q79 hc h hx hy;exact (hq q h1 h2).1
theorem Qw6 {c:Rat->Int} (hc:Cut c) {y z:Rat} (hy:c y=-1) (hz:c z=-1):∃ q,c q=-1/\q<y/\q<z:=by
 obtain ⟨a,a1,a2⟩:=hc.dn y hy;obtain ⟨b,b1,b2⟩:=hc.dn z hz;rcases Fh a b with e | e
 ·exact ⟨a,a2,a1,by grind⟩
 ·exact ⟨b,b2,by grind,b1⟩
theorem Qj9 {c:Rat->Int} (hc:Cut c) {y z:Rat} (hy:c y=1) (hz:c z=1):∃ q,c q=1/\y<q/\z<q:=by
 obtain ⟨a,a1,a2⟩:=hc.up y hy;obtain ⟨b,b1,b2⟩:=hc.up z hz;rcases Fh a b with e | e
 ·exact ⟨b,b2,by grind,b1⟩
 ·exact ⟨a,a2,a1,by grind⟩
theorem Q97 {f w u:List Rat} {L:List (List Rat)} (h:Stm f L) (hf:∀ t,ev f t=ev w t*ev u t) {x y:Rat} (hv:vv L x=vv L y) {c:Rat->Int} (hc:Cut c) (hx:c x=1) (hy:c y≠1):¬Aq w c:=λhw=>by
 have hxy:x<y:=by
  rcases Fh y x with e | e
  ·rcases Classical.em (y=x) with e' | e'
   ·rw [e'] at hy; exact absurd hx hy
   ·have:=hc.mono y x (by grind) hy; omega
  ·exact e
 have hwv:=Qct h hf hxy hv;rcases hc.val y with e | e | e
 ·exact hy e
 ·have:=Qha hc e hw;have:=hwv.s;rw [Fu.2 (by assumption)] at this;exact hwv.n this.symm
 ·obtain ⟨s,hs,hd⟩:=Q0u hc h hf hw;obtain ⟨a,ha,hal⟩:=Q9t hc hw (Q1o hc hd) hs;obtain ⟨b,hb,hbr⟩:=Qrl hc hw (Qop hc hd) hs;obtain ⟨q,q1,q2,q3⟩:=Qj9 hc hx ha;obtain ⟨r,r1,r2,r3⟩:=Qw6 hc hb e;have e1:=hal q q1 (Qq q3);have e2:=hbr r r1 (Qq r2);have hqr:=hc.lt q1 r1;have v1:vv L q<=vv L x:=Ek h q2;have v2:vv L y<=vv L r:=Ek h r3;have v3:vv L r<=vv L q:=Ek h hqr;have s1:=(Qct h hf q2 (by omega)).s;have s2:=(Qct h hf (x:=x) (y:=r) (by grind) (by omega)).s;omega
theorem Qrz {f:List Rat} {L:List (List Rat)} (h:Stm f L) {x y:Rat} (hxy:x<y) (hv:vv L x≠vv L y) {d:Rat} (dp:0<d):∃ q,x<=q/\q<=y/\U5 (ev f q)<d:=by
 obtain ⟨R,hR,hx,hy⟩:=Qpd x y;obtain ⟨e1,e1p,hl⟩:=loc hR h (w:=f) (u:=[1]) (λt=>by rw [Rq]; grind);obtain ⟨e2,e2p,_,e2b⟩:=Gu (Me hR f) dp;obtain ⟨e,ep,h1,h2⟩:=min2 e1p e2p;have key:∀ n:Nat,∀ x,U5 x<=R->x<y->vv L x≠vv L y->y-x<=(n:Rat)*e->∃ q,x<=q/\q<=y/\U5 (ev f q)<d:=by
  intro n
  induction n with
  | zero=>intro x hx hxy _ hn; rw [show ((0:Nat):Rat)=0 from rfl] at hn; exfalso; clear hl; grind
  |
   succ n ih =>
   intro x hx hxy hv hn;have hstep:∀ z,U5 z<=R->x<z->z-x<=e->vv L x≠vv L z->U5 (ev f z)<d:=λz hz hxz hze hv=>by
    rcases hl x z hx hz hxz (Ze hze h1) with ⟨p,_⟩ | ⟨_,p1,p2,p3,p4⟩
    ·exact absurd p hv
    ·have hd:=Po (p:=f) hx hz hR (e:=e2) (d:=d) (by rw [Px]; clear hl ih; constructor <;> grind) e2b;rw [<-p3] at p1 p4;clear hl ih p2 p3;rw [Qre] at *;rcases Fp (ev f x) with ⟨a,a'⟩ | ⟨a,a'⟩ | ⟨a,a'⟩ <;> rcases Fp (ev f z) with ⟨b,b'⟩ | ⟨b,b'⟩ | ⟨b,b'⟩ <;> rw [a,b] at p4 <;> first | (exfalso; revert p4; decide) | skip
     all_goals first | (constructor <;> grind) | (exfalso; omega)
   rcases Fh (y-x) e with h3 | h3
   ·exact ⟨y,Qq hxy,Qp,hstep y hy hxy h3 hv⟩
   ·have hm:U5 (x+e)<=R:=Qee hx hy (by clear hl ih hstep; grind) (by clear hl ih hstep; grind);rcases Classical.em (vv L x=vv L (x+e)) with e0 | e0
    ·have hn':(((n+1:Nat):Rat))=(n:Rat)+1:=by push_cast; rfl
     rw [hn'] at hn;obtain ⟨q,q1,q2,q3⟩:=ih (x+e) hm (by clear hl ih hstep; grind) (by omega) (by clear hl ih hstep; grind);exact ⟨q,by clear hl ih hstep; grind,q2,q3⟩
    ·exact ⟨x+e,by clear hl ih hstep; grind,by clear hl ih hstep; grind,hstep (x+e) hm (by clear hl ih hstep; grind) (by clear hl ih hstep; grind) e0⟩
 obtain ⟨n,hn⟩:=O5 (z:=y-x) ep;exact key n x hx hxy hv hn
theorem Zmr {p:List Rat} {x:Rat} (h:Sy p x≠0):∃ e:Rat,0<e/\∀ y,x<y->y-x<=e->U4 (ev p y)=Sy p x:=by
 by_cases h0:U4 (ev p x)=0
 ·have hx:=Fu.1 h0;rw [Qxv h0] at h ⊢;have hR:0<=U5 x+1:=by have:=Hk x; grind
  obtain ⟨e,e1,e2,e3⟩:=Gu (Qkc hR p) (Bi (x:=dv p x) λh'=>h (Fu.2 h'));refine ⟨e,e1,λy h1 h2=>?_⟩;have hy:U5 y<=U5 x+1:=by
   have:=Tt x (y-x);have e:x+(y-x)=y:=by grind
   have e':U5 (y-x)=y-x:=by unfold U5; split <;> grind
   rw [e,e'] at this; grind
  have:=Qlj (p:=p) (by grind) hy hR h1 h2 Qp e3;rw [hx] at this;rw [<-this]; congr 1; grind
 ·rw [L9 h0] at h ⊢;obtain ⟨e,e1,e2⟩:=Qcg h;exact ⟨e,e1,λy h1 h2=>e2 y (by rw [Px]; constructor <;> grind)⟩
def cq (P:List Rat) (lo hi q:Rat):Int:=if q<=lo then 1 else if hi<q then -1 else if U4 (ev P q)=0 then 0 else if U4 (ev P q)=Sy P lo then 1 else -1
structure Vt (P:List Rat) (L:List (List Rat)) (lo hi:Rat):Prop where
 s:Stm P L
 l:lo<hi
 v:vv L lo=vv L hi+1
variable {P:List Rat} {L:List (List Rat)} {lo hi:Rat}
theorem Lq {q:Rat} (h:q<=lo):cq P lo hi q=1:=by unfold cq; rw [if_pos h]
theorem Qd2 {q:Rat} (h:lo<hi) (h':hi<q):cq P lo hi q=-1:=by unfold cq; rw [if_neg (by grind),if_pos h']
theorem Ae {q:Rat} (h1:lo<q) (h2:q<=hi):cq P lo hi q=if U4 (ev P q)=0 then 0 else if U4 (ev P q)=Sy P lo then 1 else -1:=by
 unfold cq; rw [if_neg (by grind),if_neg (by grind)]
theorem Vt.two (V:Vt P L lo hi) {q:Rat} (h1:lo<q) (h2:q<=hi):vv L q=vv L lo/\cq P lo hi q=1/\U4 (ev P q)=Sy P lo\/vv L q=vv L hi/\cq P lo hi q≠1/\Sy P q=-Sy P lo/\Sy P lo≠0:=by
 have a:=Ek V.s h1;have b:vv L hi<=vv L q:=by
  rcases Classical.em (q=hi) with e | e
  ·rw [e]; exact Ql _
  ·exact Ek V.s (by grind)
 have hv:=V.v;rcases (show vv L q=vv L lo\/vv L q=vv L hi by omega) with e | e
 ·have hs:=Qr6 V.s h1 e.symm;refine .inl ⟨e,?_,hs.s⟩;rw [Ae h1 h2,hs.s,if_neg hs.n,if_pos rfl]
 ·obtain ⟨o1,o2⟩:=Qr5 V.s h1 (by omega);refine .inr ⟨e,?_,o2,o1⟩;rw [Ae h1 h2]
  split
  ·decide
  ·rename_i h0;rw [L9 h0] at o2;rw [if_neg (by omega)]; decide
theorem Vt.lowlo (V:Vt P L lo hi):Sy P lo≠0:=(Qr5 V.s V.l V.v).1
theorem Vt.eq_lo (V:Vt P L lo hi) {q:Rat} (h1:lo<q) (h2:q<=hi) (h:cq P lo hi q=1):vv L q=vv L lo:=by
 rcases V.two h1 h2 with ⟨e,_⟩ | ⟨_,e,_⟩
 ·exact e
 ·exact absurd h e
theorem Vt.eq_hi (V:Vt P L lo hi) {q:Rat} (h1:lo<q) (h2:q<=hi) (h:cq P lo hi q≠1):vv L q=vv L hi:=by
 rcases V.two h1 h2 with ⟨_,e,_⟩ | ⟨e,_⟩
 ·exact absurd e h
 ·exact e
theorem Vt.hi1 (V:Vt P L lo hi):cq P lo hi hi≠1:=λh=>by have:=V.eq_lo V.l Qp h; have:=V.v; omega
theorem Vt.cut (V:Vt P L lo hi):Cut (cq P lo hi) where
 val q:=by unfold cq; split <;> (try split) <;> (try split) <;> (try split) <;> simp
 mono q r h h1:=by
  have hq:lo<q:=by
   rcases Fh q lo with e | e
   ·exact absurd (Lq e) h1
   ·exact e
  rcases Fh r hi with e | e
  ·have e1:=V.eq_hi hq (by grind) h1;rcases V.two (q:=r) (by grind) e with ⟨e2,_⟩ | ⟨e2,_,e3,e4⟩
   ·have:=Ek V.s h; have:=V.v; omega
   ·have hs:=Qr6 V.s h (by omega);rcases V.two hq (by grind) with ⟨e5,_⟩ | ⟨_,_,e5,_⟩
    ·have:=V.v; omega
    ·rw [Ae (by grind) e,hs.s,if_neg hs.n,e5,if_neg (by omega)]
  ·exact Qd2 V.l e
 up q h:=by
  rcases Fh q lo with e | e
  ·obtain ⟨d,dp,hd⟩:=Zmr V.lowlo;obtain ⟨f,fp,f1,f2⟩:=min2 (a:=d) (b:=hi-lo) dp (by have:=V.l; grind);have h1:lo<lo+f:=by clear hd; grind
   have h2:lo+f<=hi:=by clear hd; grind
   have:=hd (lo+f) h1 (by clear hd; grind);exact ⟨lo+f,by clear hd; grind,by rw [Ae h1 h2,this,if_neg V.lowlo,if_pos rfl]⟩
  ·have hh:q<=hi:=by
    rcases Fh q hi with e' | e'
    ·exact e'
    ·have:=Qd2 (P:=P) V.l e'; omega
   rcases V.two e hh with ⟨e1,_,e2⟩ | ⟨_,e1,_⟩
   ·have hn:q≠hi:=λh=>by rw [h] at e1; have:=V.v; omega
    obtain ⟨d,dp,hd⟩:=Qcg (p:=P) (x:=q) (by rw [e2]; exact V.lowlo);obtain ⟨f,fp,f1,f2⟩:=min2 (a:=d) (b:=hi-q) dp (by clear hd; grind);have:=hd (q+f) (by rw [Px]; clear hd; constructor <;> grind);exact ⟨q+f,by clear hd; grind,by rw [Ae (by clear hd; grind) (by clear hd; grind),this,e2,if_neg V.lowlo,if_pos rfl]⟩
   ·exact absurd h e1
 dn q h:=by
  have hq:lo<q:=by
   rcases Fh q lo with e | e
   ·have:=Lq (P:=P) (hi:=hi) e; omega
   ·exact e
  rcases Fh q hi with e | e
  ·rw [Ae hq e] at h
   split at h
   ·cases h
   rename_i h0
   split at h
   ·cases h
   rename_i h1;obtain ⟨d,dp,hd⟩:=Qcg h0;obtain ⟨f,fp,f1,f2⟩:=min2 (a:=d) (b:=(q-lo) / 2) dp (Lt (by clear hd; grind) (by decide));have h2:(q-lo) / 2*2=q-lo:=Gs (by decide);have:=hd (q-f) (by rw [Px]; clear hd; constructor <;> grind);exact ⟨q-f,by clear hd; grind,by rw [Ae (by clear hd; grind) (by clear hd; grind),this,if_neg h0,if_neg h1]⟩
  ·have h2:(q-hi) / 2*2=q-hi:=Gs (by decide);exact ⟨q-(q-hi) / 2,by grind,Qd2 V.l (by grind)⟩
 lo:=⟨lo,Lq Qp⟩
 hi:=⟨hi+1,Qd2 V.l (by grind)⟩
theorem Vt.van (V:Vt P L lo hi):Aq P (cq P lo hi):=by
 have hc:=V.cut;rcases Qbj hc P with h | ⟨s,hs,h⟩
 ·exact h
 ·exfalso;have e1:s=Sy P lo:=by
   obtain ⟨x,hx,hx1⟩:=Q1o hc h;obtain ⟨q,q1,q2,q3⟩:=Qj9 hc hx (Lq (P:=P) (hi:=hi) (Qp (a:=lo)));have hq:q<=hi:=by
    rcases Fh q hi with e | e
    ·exact e
    ·have:=Qd2 (P:=P) V.l e; omega
   rcases V.two q3 hq with ⟨_,_,e⟩ | ⟨_,e,_⟩
   ·rw [<-hx1 q q1 (Qq q2),e]
   ·exact absurd q1 e
  rcases hc.val hi with e | e | e
  ·exact V.hi1 e
  ·have h0:=Quj hc e h;rw [Ae V.l Qp] at e
   split at e
   ·omega
   ·split at e <;> omega
  ·obtain ⟨y,hy,hy1⟩:=Qop hc h;obtain ⟨q,q1,q2,q3⟩:=Qw6 hc hy e;have hq:lo<q:=hc.lt (Lq (P:=P) (hi:=hi) (Qp (a:=lo))) q1;have:=hy1 q q1 (Qq q2);rw [Ae hq (Qq q3),this,if_neg hs,if_pos e1] at q1;cases q1
def Qxk (w:List Rat) (lo hi:Rat):Prop:=U4 (ev w hi)=0\/U4 (ev w hi)≠Sy w lo
theorem Vt.has (V:Vt P L lo hi) {w u:List Rat} (hf:∀ t,ev P t=ev w t*ev u t) {a b:Rat} (h1:lo<=a) (h2:a<b) (h3:b<=hi):Qxk w a b↔Aq w (cq P lo hi)/\cq P lo hi a=1/\cq P lo hi b≠1:=by
 have hc:=V.cut;have smno:vv L a=vv L b->¬Qxk w a b:=λh hh=>by
  have:=Qct V.s hf h2 h;rcases hh with e | e
  ·rw [this.s] at e; exact this.n e
  ·exact e this.s
 by_cases ha:cq P lo hi a=1
 ·by_cases hb:cq P lo hi b=1
  ·have e1:=V.eq_lo (by grind) h3 hb;have e2:vv L a=vv L lo:=by
    rcases Classical.em (lo=a) with e | e
    ·rw [e]
    ·exact V.eq_lo (by grind) (by grind) ha
   exact ⟨λh=>absurd h (smno (by omega)),λh=>absurd hb h.2.2⟩
  ·have e1:=V.eq_hi (by grind) h3 hb;have e2:vv L a=vv L lo:=by
    rcases Classical.em (lo=a) with e | e
    ·rw [e]
    ·exact V.eq_lo (by grind) (by grind) ha
   have left:∀ s,LS w (cq P lo hi) s->s=Sy w a:=λs hs=>by
    obtain ⟨x,hx,hx1⟩:=hs;obtain ⟨q,q1,q2,q3⟩:=Qj9 hc hx ha;have hqb:q<b:=by
     rcases Fh b q with e | e
     ·rcases Classical.em (b=q) with e' | e'
      ·rw [e'] at hb; exact absurd q1 hb
      ·have:=hc.mono b q (by clear hx1 smno; grind) hb; omega
     ·exact e
    have:=V.eq_lo (q:=q) (by clear hx1 smno; grind) (by clear hx1 smno; grind) q1;rw [<-(Qct V.s hf q3 (by omega)).s,hx1 q q1 (Qq q2)]
   have right:∀ s,RS w (cq P lo hi) s->cq P lo hi b=-1->s=U4 (ev w b):=λs hs hb=>by
    obtain ⟨y,hy,hy1⟩:=hs;obtain ⟨q,q1,q2,q3⟩:=Qw6 hc hy hb;have hqa:=hc.lt ha q1;have:=V.eq_hi (q:=q) (by clear hy1 smno; grind) (by clear hy1 smno; grind) (by omega);have hs:=Qct V.s hf q3 (by omega);have hl:=hy1 q q1 (Qq q2);have h0:U4 (ev w q)≠0:=by
     have hs2:=Qct V.s hf (x:=q) (y:=b) q3 (by omega);intro h0;obtain ⟨r,r1,r2⟩:=hc.dn q q1;have har:=hc.lt ha r2;have:=V.eq_hi (q:=r) (by clear hy1 smno; grind) (by clear hy1 smno; grind) (by omega);have hs3:=Qct V.s hf (x:=r) (y:=q) r1 (by omega);have hs4:=hs3.s;rw [h0] at hs4; exact hs3.n hs4.symm
    rw [hs.s,L9 h0,hl]
   refine ⟨λh=>⟨?_,ha,hb⟩,λ⟨hw,_,_⟩=>?_⟩
   ·rcases Qbj hc w with e | ⟨s,hs0,hs⟩
    ·exact e
    ·exfalso;have l1:=left s (Q1o hc hs);have r1:U4 (ev w b)=s:=by
      rcases hc.val b with e | e | e
      ·exact absurd e hb
      ·exact Quj hc e hs
      ·exact (right s (Qop hc hs) e).symm
     rcases h with h | h
     ·exact hs0 (by rw [<-r1]; exact h)
     ·exact h (by rw [r1,l1])
   ·rcases hc.val b with e | e | e
    ·exact absurd e hb
    ·exact .inl (Fu.2 (Qha hc e hw))
    ·obtain ⟨s,hs0,hs⟩:=Q0u hc V.s hf hw;have l1:=left _ (Q9t hc hw (Q1o hc hs) hs0);have r1:=right _ (Qrl hc hw (Qop hc hs) hs0) e;exact .inr (by rw [<-l1,<-r1]; omega)
 ·have hla:lo<a:=by
   rcases Classical.em (lo=a) with e | e
   ·rw [<-e] at ha; exact absurd (Lq Qp) ha
   ·grind
  have hb:cq P lo hi b≠1:=by have:=hc.mono a b h2 ha; omega
  have e1:=V.eq_hi hla (by grind) ha;have e2:=V.eq_hi (q:=b) (by grind) h3 hb;exact ⟨λh=>absurd h (smno (by omega)),λh=>absurd h.2.1 ha⟩
theorem Qs8 {c c':Rat->Int} (hc:Cut c) (hc':Cut c') {q:Rat} (h:c q≠c' q):∃ r,(c r=-1/\c' r=1)\/(c r=1/\c' r=-1):=by
 rcases hc.val q with e | e | e <;> rcases hc'.val q with e' | e' | e'
 ·omega
 ·obtain ⟨r,r1,r2⟩:=hc.up q e;exact ⟨r,.inr ⟨r2,hc'.mono q r r1 (by omega)⟩⟩
 ·exact ⟨q,.inr ⟨e,e'⟩⟩
 ·obtain ⟨r,r1,r2⟩:=hc'.up q e';exact ⟨r,.inl ⟨hc.mono q r r1 (by omega),r2⟩⟩
 ·omega
 ·obtain ⟨r,r1,r2⟩:=hc'.dn q e';exact ⟨r,.inr ⟨hc.mono' r1 (by omega),r2⟩⟩
 ·exact ⟨q,.inl ⟨e,e'⟩⟩
 ·obtain ⟨r,r1,r2⟩:=hc.dn q e;exact ⟨r,.inl ⟨r2,hc'.mono' r1 (by omega)⟩⟩
 ·omega
theorem Vt.uniq (V:Vt P L lo hi) {c:Rat->Int} (hc:Cut c) (h1:c lo=1) (h2:c hi≠1) (hv:Aq P c) (q:Rat):c q=cq P lo hi q:=by
 rcases Classical.em (c q=cq P lo hi q) with e | e
 ·exact e
 ·exfalso;obtain ⟨r,⟨r1,r2⟩ | ⟨r1,r2⟩⟩:=Qs8 hc V.cut e
  ·have hl:=hc.lt h1 r1;have hh:r<=hi:=by
    rcases Fh r hi with e | e
    ·exact e
    ·have:=Qd2 (P:=P) V.l e; omega
   have:=V.eq_lo hl hh r2;exact Q97 V.s (w:=P) (u:=[1]) (λt=>by rw [Rq]; grind) (x:=lo) (y:=r) (by omega) hc h1 (by omega) hv
  ·have hl:lo<r:=by
    rcases Fh r lo with e | e
    ·have:=Lq (P:=P) (hi:=hi) e; omega
    ·exact e
   have hh:r<=hi:=by
    rcases Fh r hi with e | e
    ·exact e
    ·have:=hc.mono hi r e h2; omega
   have:=V.eq_hi hl hh (by omega);exact Q97 V.s (w:=P) (u:=[1]) (λt=>by rw [Rq]; grind) (x:=r) (y:=hi) (by omega) hc r1 h2 hv
theorem Vt.same (V:Vt P L lo hi) {P':List Rat} {L':List (List Rat)} {lo' hi':Rat} (V':Vt P' L' lo' hi') {g u u' U W:List Rat} {k:Rat} (hk:k≠0) (h1:∀ t,ev P t=ev g t*ev u t) (h2:∀ t,ev P' t=ev g t*ev u' t) (h3:∀ t,k*ev g t=ev U t*ev P t+ev W t*ev P' t) {a b:Rat} (ha1:lo<=a) (ha2:lo'<=a) (ha:a=lo\/a=lo') (hb1:b<=hi) (hb2:b<=hi') (hb:b=hi\/b=hi'):(a<b/\Qxk g a b)↔∀ q,cq P lo hi q=cq P' lo' hi' q:=by
 have hc:=V.cut;have hc':=V'.cut;constructor
 ·rintro ⟨hab,hg⟩
  obtain ⟨g1,g2,g3⟩:=(V.has h1 ha1 hab hb1).1 hg;obtain ⟨g4,g5,g6⟩:=(V'.has h2 ha2 hab hb2).1 hg;intro q;refine (V.uniq hc' (by
   rcases Classical.em (lo=a) with e | e
   ·rw [e]; exact g5
   ·exact hc'.mono' (q:=lo) (r:=a) (by grind) (by omega)) (λh=>?_) (Pf hc' h1 g4) q).symm
  rcases Classical.em (b=hi) with e | e
  ·rw [<-e] at h; exact g6 h
  ·have:=hc'.mono b hi (by grind) g6; omega
 ·intro h;have hcc:cq P' lo' hi'=cq P lo hi:=funext λq=>(h q).symm
  have e1:cq P lo hi a=1:=by
   rcases ha with rfl | rfl
   ·exact Lq Qp
   ·rw [h]; exact Lq Qp
  have e2:cq P lo hi b≠1:=by
   rcases hb with rfl | rfl
   ·exact V.hi1
   ·rw [h]; exact V'.hi1
  have hab:a<b:=by
   rcases Fh b a with e | e
   ·rcases Classical.em (b=a) with e' | e'
    ·rw [e'] at e2; exact absurd e1 e2
    ·have:=hc.mono b a (by grind) e2; omega
   ·exact e
  have v1:=V.van;have v2:=V'.van;rw [hcc] at v2;have hg:Aq g (cq P lo hi):=by
   have a1:Aq (Gk U P) (cq P lo hi):=Pf hc (p:=P) (q:=U) (λt=>by rw [U3]; grind) v1;have a2:Aq (Gk W P') (cq P lo hi):=Pf hc (p:=P') (q:=W) (λt=>by rw [U3]; grind) v2;have a3:=Qjh (λt=>Gg t _ _) a1 a2;refine Qo9 hc (k:=1 / k) (λt=>?_) a3;rw [Gg,U3,U3,<-h3];have:1 / k*(k*ev g t)=1 / k*k*ev g t:=by grind
   rw [this,show 1 / k*k=1 from Zk hk]; grind
  exact ⟨hab,(V.has h1 ha1 hab hb1).2 ⟨hg,e1,e2⟩⟩
end Orq
namespace Orq
theorem Zak:∀ (M:Nat) (f:Nat->Nat),(∀ i,i<=M->f i<M)->∃ i j,i<j/\j<=M/\f i=f j
 | 0,f,h=>absurd (h 0 (Ql _)) (Uo _)
 |
  M+1,f,h=>by
  rcases Classical.em (∃ i,i<=M/\f i=f (M+1)) with ⟨i,h1,h2⟩ | hn
  ·exact ⟨i,M+1,by omega,Ql _,h2⟩
  ·have hne:∀ i,i<=M->f i≠f (M+1):=λi hi e=>hn ⟨i,hi,e⟩
   obtain ⟨i,j,h1,h2,h3⟩:=Zak M (λi=>if f i=M then f (M+1) else f i) λi hi=>by
    have a1:=h i (by omega);have a2:=h (M+1) (Ql _);have a3:=hne i hi;show (if f i=M then f (M+1) else f i)<M
    split <;> omega
   refine ⟨i,j,h1,by omega,?_⟩;have a1:=hne i (by omega);have a2:=hne j h2
   split at h3 <;> split at h3 <;> omega
def dg (B k i:Nat):Nat:=k / B^i % B
theorem Q0s (B k i:Nat):dg B k (i+1)=dg B (k / B) i:=by unfold dg; rw [Nat.pow_succ,Nat.mul_comm,Nat.div_div_eq_div_mul]
theorem Q8d {B:Nat}:∀ (N:Nat) {k k':Nat},k<B^N->k'<B^N->(∀ i,i<N->dg B k i=dg B k' i)->k=k'
 | 0,k,k',h,h',_=>by rw [Vd] at h h'; omega
 |
  N+1,k,k',h,h',he=>by
  have h0:=he 0 (by omega);unfold dg at h0;rw [Vd,Nat.div_one,Nat.div_one] at h0;have hB:0<B:=by
   rcases Qz B with e | e
   ·rw [e,Zn,Ys] at h; omega
   ·exact e
  have h1:=Q8d N (k:=k / B) (k':=k' / B) (X3 (by rw [Zh,<-Zn]; exact h)) (X3 (by rw [Zh,<-Zn]; exact h')) λi hi=>by
   rw [<-Q0s,<-Q0s]; exact he (i+1) (by omega)
  rw [<-Ul k B,<-Ul k' B,h0,h1]
def cd (B:Nat):Nat->(Nat->Nat)->Nat
 | 0,_=>0
 | E+1,x=>x 0+B*cd B E λe=>x (e+1)
theorem Zht {B:Nat}:∀ (E:Nat) {x:Nat->Nat},(∀ e,e<E->x e<B)->cd B E x<B^E
 | 0,_,_=>by simp [cd]
 |
  E+1,x,h=>by
  have h1:=h 0 (by omega);have h2:=Zht E (x:=λe=>x (e+1)) λe he=>h (e+1) (by omega)
  simp only [cd];have h3:B*cd B E (λe=>x (e+1))+B<=B*B^E:=by
   rw [<-Nat.mul_succ]; exact Zq _ h2
  rw [Zn,Zh (B^E)]; omega
theorem Q70 {B:Nat}:∀ (E:Nat) {x y:Nat->Nat},(∀ e,e<E->x e<B)->(∀ e,e<E->y e<B)->cd B E x=cd B E y->∀ e,e<E->x e=y e
 | 0,_,_,_,_,_,e,he=>by omega
 |
  E+1,x,y,hx,hy,h,e,he=>by
  have h1:=hx 0 (by omega);have h2:=hy 0 (by omega);simp only [cd] at h;have e0:x 0=y 0:=by
   have:=congrArg (· % B) h;simp only [Km] at this;rwa [Xw h1,Xw h2] at this
  have e1:cd B E (λe=>x (e+1))=cd B E (λe=>y (e+1)):=Nat.eq_of_mul_eq_mul_left (by omega:0<B) (by omega);cases e with
  | zero=>exact e0
  | succ e=>exact Q70 E (λe he=>hx (e+1) (by omega)) (λe he=>hy (e+1) (by omega)) e1 e (by omega)
def sm:Nat->(Nat->Int)->Int
 | 0,_=>0
 | n+1,f=>sm n f+f n
theorem Zb0 (f g:Nat->Int):∀ n,sm n (λi=>f i-g i)=sm n f-sm n g
 | 0=>rfl
 | n+1=>by simp only [sm,Zb0 f g n]; omega
theorem Dd {f g:Nat->Int}:∀ n,(∀ i,i<n->f i=g i)->sm n f=sm n g
 | 0,_=>rfl
 | n+1,h=>by simp only [sm,Dd n (λi hi=>h i (by omega)),h n (by omega)]
theorem Zbz {f:Nat->Int} {b:Nat}:∀ n,(∀ i,i<n->(f i).natAbs<=b)->(sm n f).natAbs<=n*b
 | 0,_=>by simp [sm]
 |
  n+1,h=>by
  have h1:=Zbz n λi hi=>h i (by omega)
  have h2:=h n (by omega);simp only [sm];rw [Z7]; omega
theorem Qb7 {f:Nat->Int}:∀ n,(∀ i,i<n->f i=0)->sm n f=0
 | 0,_=>rfl
 | n+1,h=>by simp only [sm,Qb7 n (λi hi=>h i (by omega)),h n (by omega)]; rfl
theorem Qyx (f:Nat->Int) (m:Nat):∀ n,sm (m+n) f=sm m f+sm n λi=>f (m+i)
 | 0=>by simp [sm]
 | n+1=>by rw [<-Yj]; simp only [sm,Qyx f m n]; omega
theorem Qyy (f:Nat->Int) (J:Nat):∀ b,sm (b*J) f=sm b λi=>sm J λj=>f (i*J+j)
 | 0=>by simp [sm]
 | b+1=>by rw [Z7,Qyx,Qyy f J b]; rfl
theorem Ql9 {f:Nat->Int} {k:Nat}:∀ n,k<n->(∀ i,i<n->i≠k->f i=0)->sm n f=f k
 | 0,h,_=>by omega
 |
  n+1,h,h1=>by
  simp only [sm];rcases Vm (Nat.le_of_lt_succ h) with e | e
  ·rw [Ql9 n e λi hi=>h1 i (by omega),h1 n (by omega) (by omega)]; omega
  ·subst e; rw [Qb7 k λi hi=>h1 i (by omega) (by omega)]; omega
theorem Zkv {M:Nat->Nat->Int} {h N E H:Nat} (hM:∀ e i,(M e i).natAbs<=h) (hc:(2*(N*(h*H))+1)^E<(H+1)^N) :
 ∃ v:Nat->Int,(∀ i,(v i).natAbs<=H)/\(∃ i,i<N/\v i≠0)/\∀ e,e<E->sm N (λi=>M e i*v i)=0:=by
 obtain ⟨T,hT⟩:=nmE (N*(h*H));rw [<-hT] at hc;have hv:∀ k i,dg (H+1) k i<=H:=λk i=>Nat.le_of_lt_succ (Z4 _ (by omega))
 have hs:∀ k e,(sm N λi=>M e i*(dg (H+1) k i:Int)).natAbs<=T:=λk e=>by
  rw [hT];refine Zbz N λi _=>?_
  rw [Jr,Z9];exact Zf (hM e i) (hv k i)
 have him:∀ k e,((sm N λi=>M e i*(dg (H+1) k i:Int))+T).toNat<2*T+1:=λk e=>by have:=hs k e; omega
 obtain ⟨i,j,h1,h2,h3⟩:=Zak ((2*T+1)^E) (λk=>cd (2*T+1) E λe=>((sm N λi=>M e i*(dg (H+1) k i:Int))+T).toNat) λk _=>Zht E λe _=>him k e
 have h4:=Q70 E (λe _=>him i e) (λe _=>him j e) h3;refine ⟨λn=>(dg (H+1) i n:Int)-dg (H+1) j n,λn=>?_,?_,λe he=>?_⟩
 ·have a1:=hv i n;have a2:=hv j n;show ((dg (H+1) i n:Int)-dg (H+1) j n).natAbs<=H;omega
 ·rcases Classical.em (∃ n,n<N/\(dg (H+1) i n:Int)-dg (H+1) j n≠0) with e | e
  ·exact e
  ·exfalso;have:i=j:=Q8d (B:=H+1) N (by omega) (by omega) λn hn=>by
    rcases Classical.em (dg (H+1) i n=dg (H+1) j n) with e' | e'
    ·exact e'
    ·exact absurd ⟨n,hn,by omega⟩ e
   omega
 ·have a1:=h4 e he;have a2:=hs i e;have a3:=hs j e;have:(sm N λn=>M e n*(dg (H+1) i n:Int))=sm N λn=>M e n*(dg (H+1) j n:Int):=by omega
  have e1:=Zb0 (λn=>M e n*(dg (H+1) i n:Int)) (λn=>M e n*(dg (H+1) j n:Int)) N;rw [this] at e1;rw [Dd N (g:=λn=>M e n*(dg (H+1) i n:Int)-M e n*(dg (H+1) j n:Int)) λn _=>Int.mul_sub _ _ _,e1]; omega
def Uw:List Int->Rat->Rat
 | [],_=>0
 | a::p,t=>(a:Rat)+t*Uw p t
def sq:Nat->(Nat->Rat)->Rat
 | 0,_=>0
 | n+1,f=>sq n f+f n
theorem Sz {f g:Nat->Rat}:∀ n,(∀ i,i<n->f i=g i)->sq n f=sq n g
 | 0,_=>rfl
 | n+1,h=>by simp only [sq,Sz n (λi hi=>h i (by omega)),h n (by omega)]
theorem Qy2 (f g:Nat->Rat):∀ n,sq n (λi=>f i+g i)=sq n f+sq n g
 | 0=>by simp only [sq]; grind
 | n+1=>by simp only [sq,Qy2 f g n]; grind
theorem Qbf (c:Rat) (f:Nat->Rat):∀ n,sq n (λi=>c*f i)=c*sq n f
 | 0=>by simp only [sq]; grind
 | n+1=>by simp only [sq,Qbf c f n]; grind
theorem Bm {f:Nat->Rat}:∀ n,(∀ i,i<n->f i=0)->sq n f=0
 | 0,_=>rfl
 | n+1,h=>by simp only [sq,Bm n (λi hi=>h i (by omega)),h n (by omega)]; grind
theorem Iq (f:Nat->Rat):∀ n,sq (n+1) f=f 0+sq n λi=>f (i+1)
 | 0=>by simp only [sq]; grind
 | n+1=>by rw [sq,Iq f n]; simp only [sq]; grind
theorem Zih {f:Nat->Rat} {b:Rat}:∀ n,(∀ i,i<n->U5 (f i)<=b)->U5 (sq n f)<=(n:Rat)*b
 | 0,_=>by rw [show ((0:Nat):Rat)=0 from rfl]; simp only [sq,H5]; grind
 |
  n+1,h=>by
  have h1:=Zih n λi hi=>h i (by omega)
  have h2:=h n (by omega);have h3:=Tt (sq n f) (f n);have hn':(((n+1:Nat):Rat))=(n:Rat)+1:=by push_cast; rfl
  rw [hn']; simp only [sq]; clear h; grind
def gc:List Int->Nat->Nat->Int
 | [],_,_=>0
 | c::B,k,j=>(if k=0/\j=0 then c else 0)+(if k=0 then 0 else gc B (k-1) j)-(if j=0 then 0 else gc B k (j-1))
def gB:List Int->Nat
 | []=>0
 | c::B=>max c.natAbs (2*gB B)
theorem Qiw:∀ (B:List Int) (k j:Nat),B.length<=k+j->gc B k j=0
 | [],_,_,_=>rfl
 |
  c::B,k,j,h=>by
  simp only [Q7] at h;simp only [gc];rw [if_neg (by omega)];have e1:(if k=0 then 0 else gc B (k-1) j)=0:=by
   split
   ·rfl
   ·exact Qiw B _ _ (by omega)
  have e2:(if j=0 then 0 else gc B k (j-1))=0:=by
   split
   ·rfl
   ·exact Qiw B _ _ (by omega)
  rw [e1,e2]; rfl
theorem Q82:∀ (B:List Int) (k j:Nat),(gc B k j).natAbs<=gB B
 | [],_,_=>Qh _
 |
  c::B,k,j=>by
  have h1:=Q82 B (k-1) j;have h2:=Q82 B k (j-1);simp only [gc,gB];by_cases hk:k=0 <;> by_cases hj:j=0 <;> simp only [hk,hj,true_and,and_true,false_and,and_false,if_true,if_false] <;> (try subst hk) <;> (try subst hj) <;> omega
theorem Q83:∀ (B:List Int) (b:Nat),B.length=b+1->(gc B 0 b).natAbs=(B.getD b 0).natAbs
 | [],_,h=>by simp at h
 | [c],0,_=>by simp [gc]
 | c::d::B,0,h=>by simp at h
 |
  c::B,b+1,h=>by
  have ih:=Q83 B b (by simpa using h);simp only [gc];simp only [Jn,Q3];rw [if_pos trivial,if_neg (Nat.succ_ne_zero b),<-ih]; omega
def E2 (F:Nat->Nat->Int) (K J:Nat) (x y:Rat):Rat:=sq K λk=>sq J λj=>(F k j:Rat)*(y^k*x^j)
theorem Qxa (F G:Nat->Nat->Int) (K J:Nat) (x y:Rat):E2 (λk j=>F k j+G k j) K J x y=E2 F K J x y+E2 G K J x y:=by
 unfold E2;rw [<-Qy2];refine Sz K λk _=>?_
 rw [<-Qy2];exact Sz J λj _=>by push_cast; grind
theorem Q8l (c:Int) (F:Nat->Nat->Int) (K J:Nat) (x y:Rat):E2 (λk j=>F k j*c) K J x y=(c:Rat)*E2 F K J x y:=by
 unfold E2;rw [<-Qbf];refine Sz K λk _=>?_
 rw [<-Qbf];exact Sz J λj _=>by push_cast; grind
theorem Q8m (φ:Nat->Nat->Nat->Int) (v:Nat->Int) (K J:Nat) (x y:Rat):∀ N,E2 (λk j=>sm N λn=>φ n k j*v n) K J x y=sq N λn=>(v n:Rat)*E2 (φ n) K J x y
 |
  0=>by
  simp only [sq,sm];unfold E2;refine Bm K λk _=>Bm J λj _=>?_
  rw [show ((0:Int):Rat)=0 from rfl]; grind
 |
  N+1=>by
  simp only [sq];rw [<-Q8m φ v K J x y N,<-Q8l,<-Qxa];rfl
theorem Qe2 (t:Rat) (i:Nat):∀ k,t^(i+k)=t^i*t^k
 | 0=>by rw [Xm,Xc]; grind
 | k+1=>by rw [<-Yj,Z8,Z8,Qe2 t i k]; grind
theorem Qmb (f:Nat->Rat):∀ (i n:Nat),sq (i+n) (λk=>if i<=k then f (k-i) else 0)=sq n f
 | i,0=>Bm _ λk hk=>by rw [if_neg (by omega)]
 |
  i,n+1=>by
  rw [<-Yj]; simp only [sq];rw [Qmb f i n,if_pos (by omega),Jb]
def shF (i j':Nat) (F:Nat->Nat->Int) (k j:Nat):Int:=if i<=k then (if j'<=j then F (k-i) (j-j') else 0) else 0
theorem Qkl (F:Nat->Nat->Int) (i j' K J:Nat) (x y:Rat):E2 (shF i j' F) (i+K) (j'+J) x y=y^i*x^j'*E2 F K J x y:=by
 unfold E2;rw [<-Qbf,<-Qmb _ i K];refine Sz _ λk _=>?_
 by_cases hk:i<=k
 ·rw [if_pos hk,<-Qbf,<-Qmb _ j' J];refine Sz _ λj _=>?_
  unfold shF;rw [if_pos hk];by_cases hj:j'<=j
  ·rw [if_pos hj,if_pos hj];have e1:y^k=y^i*y^(k-i):=by rw [<-Qe2]; congr 1; omega
   have e2:x^j=x^j'*x^(j-j'):=by rw [<-Qe2]; congr 1; omega
   rw [e1,e2]; grind
  ·rw [if_neg hj,if_neg hj,show ((0:Int):Rat)=0 from rfl]; grind
 ·rw [if_neg hk];refine Bm _ λj _=>?_
  unfold shF;rw [if_neg hk,show ((0:Int):Rat)=0 from rfl]; grind
def fA (A:List Int) (k j:Nat):Int:=if j=0 then A.getD k 0 else 0
theorem Zaj (y:Rat):∀ (A:List Int) (K:Nat),A.length<=K->sq K (λk=>((A.getD k 0:Int):Rat)*y^k)=Uw A y
 | [],K,_=>by rw [Bm]; rfl; intro i _; simp
 | a::A,0,h=>by simp at h
 |
  a::A,K+1,h=>by
  have ih:=Zaj y A K (by simpa using h);rw [Iq];simp only [Uw,Zp,Q3,Xc];rw [<-ih,<-Qbf];have:(sq K λi=>((A.getD i 0:Int):Rat)*y^(i+1))=sq K λi=>y*(((A.getD i 0:Int):Rat)*y^i):=Sz K λi _=>by rw [Z8]; grind
  rw [this]; grind
theorem Zmm (A:List Int) (K J:Nat) (x y:Rat) (h:A.length<=K):E2 (fA A) K (J+1) x y=Uw A y:=by
 rw [<-Zaj y A K h];refine Sz K λk _=>?_
 rw [Iq,Bm]
 ·simp only [fA,if_true,Xc]; grind
 ·intro j _;simp only [fA];rw [if_neg (by omega),show ((0:Int):Rat)=0 from rfl]; grind
theorem Zjo (x y:Rat):∀ (B:List Int) (K J:Nat),B.length<=K->B.length<=J->E2 (gc B) K J x y=Uw B (y-x)
 |
  [],K,J,_,_=>by
  unfold E2;simp only [gc,Uw];exact Bm K λk _=>Bm J λj _=>by rw [show ((0:Int):Rat)=0 from rfl]; grind
 | c::B,0,J,h,_=>by simp at h
 | c::B,K+1,0,_,h=>by simp at h
 |
  c::B,K+1,J+1,h1,h2=>by
  have i1:=Zjo x y B K (J+1) (by simpa using h1) (by simp at h2; omega);have i2:=Zjo x y B (K+1) J (by simp at h1; omega) (by simpa using h2);have s1:=Qkl (gc B) 1 0 K (J+1) x y;have s2:=Qkl (gc B) 0 1 (K+1) J x y;rw [Zx,Ja 1 K] at s1;rw [Zx,Ja 1 J] at s2;rw [i1] at s1;rw [i2] at s2;have e0:E2 (fA [c]) (K+1) (J+1) x y=(c:Rat):=by rw [Zmm [c] (K+1) J x y (by simp)]; simp only [Uw]; grind
  have e1:gc (c::B)=λk j=>(fA [c] k j+shF 1 0 (gc B) k j)+shF 0 1 (gc B) k j*(-1):=by
   funext k j;simp only [gc,fA,shF];by_cases hk:k=0 <;> by_cases hj:j=0
   ·subst hk; subst hj; simp
   ·subst hk; simp [hj,show 1<=j by omega]
    try omega
   ·subst hj;obtain ⟨m,rfl⟩:∃ m,k=m+1:=⟨k-1,by omega⟩;simp
   ·obtain ⟨m,rfl⟩:∃ m,k=m+1:=⟨k-1,by omega⟩;obtain ⟨i,rfl⟩:∃ i,j=i+1:=⟨j-1,by omega⟩;simp; omega
  rw [e1,Qxa (λk j=>fA [c] k j+shF 1 0 (gc B) k j) (λk j=>shF 0 1 (gc B) k j*(-1)),Qxa (fA [c]) (shF 1 0 (gc B)),Q8l,e0,s1,s2];simp only [Uw,Xc,show y^1=y by rw [Z8,Xc]; grind,show x^1=x by rw [Z8,Xc]; grind];rw [show (((-1:Int)):Rat)=-1 from rfl];grind
def phi (A B:List Int) (b J J' n k j:Nat):Int:=if n<b*J then shF (n / J) (n % J) (fA A) k j else shF ((n-b*J) / J') ((n-b*J) % J') (gc B) k j
theorem Zbu {F:Nat->Nat->Int} {h:Nat} (hF:∀ k j,(F k j).natAbs<=h) (i j' k j:Nat):(shF i j' F k j).natAbs<=h:=by
 unfold shF; split
 ·split
  ·exact hF _ _
  ·exact Qh _
 ·exact Qh _
theorem Zh6 {i b J j:Nat} (hi:i<b) (hj:j<J):i*J+j<b*J:=by
 have:(i+1)*J<=b*J:=Q0 J hi;rw [Z7] at this; omega
theorem Qgj {i J j:Nat} (hj:j<J):(i*J+j) / J=i/\(i*J+j) % J=j:=by
 rw [Zh,Um (by omega),Un,V9 hj,Xw hj]; exact ⟨by omega,rfl⟩
theorem Qo1 (A B:List Int) (a b J J':Nat) (v:Nat->Int) (k j:Nat):sm (b*J+a*J') (λn=>phi A B b J J' n k j*v n) =
 (sm b λi=>sm J λj1=>shF i j1 (fA A) k j*v (i*J+j1))+sm a λi=>sm J' λj1=>shF i j1 (gc B) k j*v (b*J+(i*J'+j1)):=by
 rw [Qyx,Qyy,Qyy];congr 1
 ·refine Dd b λi hi=>Dd J λj1 hj=>?_
  unfold phi;rw [if_pos (Zh6 hi hj),(Qgj hj).1,(Qgj hj).2]
 ·refine Dd a λi hi=>Dd J' λj1 hj=>?_
  unfold phi;rw [if_neg (by omega),Jb,(Qgj hj).1,(Qgj hj).2]
theorem Zmh (A:List Int) (v:Nat->Int) {i J k j:Nat} (hj:j<J):(sm J λj1=>shF i j1 (fA A) k j*v (i*J+j1))=if i<=k then A.getD (k-i) 0*v (i*J+j) else 0:=by
 rw [Ql9 (k:=j) J hj λj1 _ hne=>?_]
 ·unfold shF fA;by_cases h:i<=k
  ·rw [if_pos h,if_pos h,if_pos (Ql _),if_pos (Jo _)]
  ·rw [if_neg h,if_neg h,Ye]
 ·unfold shF fA;by_cases h:i<=k
  ·rw [if_pos h];by_cases h':j1<=j
   ·rw [if_pos h',if_neg (by omega),Ye]
   ·rw [if_neg h',Ye]
  ·rw [if_neg h,Ye]
section
variable {A B:List Int} {a b J J':Nat} (hA:A.length=a+1) (hB:B.length=b+1) (lA:A.getD a 0≠0) (lB:B.getD b 0≠0) (hJ:J=J'+b) {v:Nat->Int} (hW:∀ k j,k<a+b->j<J->sm (b*J+a*J') (λn=>phi A B b J J' n k j*v n)=0)
include hA lA hW in
theorem Zhv {jj:Nat} (hj:jj<J) (hV:∀ k,a<=k->k<a+b->(sm a λi=>sm J' λj1=>shF i j1 (gc B) k jj*v (b*J+(i*J'+j1)))=0):∀ d i,i<b->b-i<=d->v (i*J+jj)=0:=by
 intro d
 induction d with
 | zero=>intro i hi hd; omega
 |
  succ d ih =>
  intro i hi hd;have h1:=hW (i+a) jj (by omega) hj;rw [Qo1,hV (i+a) (by omega) (by omega)] at h1;rw [Dd b (λi' hi'=>Zmh A v hj)] at h1;rw [Ql9 (k:=i) b hi λi' hi' hne=>?_] at h1
  ·rw [if_pos (by omega),Jb,Int.add_zero] at h1;rcases Yt.1 h1 with h2 | h2
   ·exact absurd h2 lA
   ·exact h2
  ·rcases Za i i' with h | h
   ·rw [ih i' hi' (by omega)]; simp
   ·rw [if_pos (by omega),Qg,Qt (by omega)]; simp
include hA hB lA lB hJ hW in
theorem Zmk:∀ d js,js<J'->J'-js<=d->∀ i,i<a->v (b*J+(i*J'+js))=0:=by
 intro d
 induction d with
 | zero=>intro js hi hd; omega
 |
  succ d ih =>
  intro js hjs hd i hi;have hin:∀ i' k,i'<a->(sm J' λj1=>shF i' j1 (gc B) k (js+b)*v (b*J+(i'*J'+j1)))=if i'=k then gc B 0 b*v (b*J+(i'*J'+js)) else 0:=λi' k hi'=>by
   rw [Ql9 (k:=js) J' hjs λj1 hj1 hne=>?_]
   ·unfold shF;by_cases h:i'<=k
    ·rw [if_pos h,if_pos (by omega),Jb];by_cases h':i'=k
     ·rw [if_pos h',h',Jo]
     ·rw [if_neg h',Qiw B _ _ (by omega),Ye]
    ·rw [if_neg h,if_neg (by omega),Ye]
   ·rcases Za js j1 with h | h
    ·rw [ih j1 hj1 (by omega) i' hi',Kr]
    ·unfold shF;by_cases h':i'<=k
     ·rw [if_pos h',if_pos (by omega),Qiw B _ _ (by omega),Ye]
     ·rw [if_neg h',Ye]
  have hU:=Zhv hA lA hW (jj:=js+b) (by omega) (λk hk hk'=>Qb7 a λi' hi'=>by rw [hin i' k hi',if_neg (by omega)]) (b+1);have h1:=hW i (js+b) (by omega) (by omega);rw [Qo1,Dd a (λi' hi'=>hin i' i hi')] at h1;rw [Qb7 b λi' hi'=>by
   rw [Zmh A v (by omega),hU i' hi' (by omega)]; simp] at h1
  rw [Ql9 (k:=i) a hi λi' hi' hne=>if_neg hne,if_pos rfl,Int.zero_add] at h1;rcases Yt.1 h1 with h2 | h2
  ·have:=Q83 B b hB; rw [h2] at this; omega
  ·exact h2
include hA hB lA lB hJ hW in
theorem Q52:∀ n,n<b*J+a*J'->v n=0:=by
 intro n hn;have hV:=Zmk hA hB lA lB hJ hW;rcases Za n (b*J) with h | h
 ·have hJp:0<J:=by
   rcases Qz J with e | e
   ·rw [e,Ys] at h; omega
   ·exact e
  have e1:=Z4 n hJp;have e2:n / J<b:=X3 (by rw [Zh]; exact h);have:=Zhv hA lA hW e1 (λk _ _=>Qb7 a λi hi=>Qb7 J' λj1 hj1=>by rw [hV J' j1 hj1 (by omega) i hi,Kr]) (b+1) (n / J) e2 (Qc (Nat.sub_le _ _) (Nat.le_succ _));rwa [Zh,Xa] at this
 ·have hJp:0<J':=by
   rcases Qz J' with e | e
   ·rw [e,Ys] at hn; omega
   ·exact e
  have e1:=Z4 (n-b*J) hJp;have e2:(n-b*J) / J'<a:=X3 (by rw [Zh J' a]; omega);have:=hV J' _ e1 (by omega) _ e2;rw [Zh ((n-b*J) / J'),Xa] at this;rwa [show b*J+(n-b*J)=n by omega] at this
end
theorem Qb4 {R x:Rat} (h1:1<=R) (hx:U5 x<=R):∀ k:Nat,U5 (x^k)<=R^k/\1<=R^k
 | 0=>by rw [Xc,Xc]; exact ⟨by decide,by decide⟩
 |
  k+1=>by
  obtain ⟨i1,i2⟩:=Qb4 h1 hx k;rw [Z8,Z8];have:=Nx (a:=1) (c:=1) (by decide) i2 (by decide) h1;exact ⟨Gp i1 hx,by grind⟩
theorem Q2i {R:Rat} (h1:1<=R) {i:Nat}:∀ k,i<=k->R^i<=R^k
 | 0,h=>by rw [show i=0 by omega]; exact Qp
 |
  k+1,h=>by
  rcases Vm h with e | e
  ·have:=Q2i h1 (i:=i) k (by omega);have h2:=(Qb4 h1 (x:=0) (by rw [H5]; grind) k).2;rw [Z8];have:=Nx (a:=R^k) (b:=R^k) (c:=1) (d:=R) (by grind) Qp (by decide) h1;grind
  ·rw [e]; exact Qp
theorem Zbt {F:Nat->Nat->Int} {i j' K J:Nat} {x y R X:Rat} {K2 J2:Nat} (h1:1<=R) (hx:U5 x<=R) (hy:U5 y<=R) (hK:K=i+K2) (hJ:J=j'+J2) (hF:E2 F K2 J2 x y=X):U5 (E2 (shF i j' F) K J x y)<=R^(K+J)*U5 X:=by
 subst hK; subst hJ;rw [Qkl,hF,E7];have a1:=(Qb4 h1 hy i).1;have a2:=(Qb4 h1 hx j').1;have a3:=Gp a1 a2;rw [<-Qe2] at a3;have a4:=Q2i h1 (i:=i+j') (i+K2+(j'+J2)) (by omega);exact Nx (Hk _) (Ze a3 a4) (Hk _) Qp
theorem Zkr {A B:List Int} {a b h:Nat} (hA:A.length=a+1) (hB:B.length=b+1) (lA:A.getD a 0≠0) (lB:B.getD b 0≠0) (ha:0<a) (hb:0<b) (h0:1<=h) (bA:∀ k,(A.getD k 0).natAbs<=h) (bB:gB B<=h) {J J' N H:Nat} (hJ:J=2*(a*b)) (hJ':J=J'+b) (hN:N=b*J+a*J') (hH:H=(2*(N*h))^(2*(a+b-1))) :
 ∃ w:Nat->Int,(∃ j,j<J/\w j≠0)/\(∀ j,(w j).natAbs<=N*(h*H))/\∀ R:Rat,1<=R->∃ C:Rat,0<=C/\∀ x y,U5 x<=R->U5 y<=R->U5 (sq J λj=>(w j:Rat)*x^j)<=C*(U5 (Uw A y)+U5 (Uw B (y-x))):=by
 have hab:0<a*b:=J7 ha hb;have hbd:∀ n k j,(phi A B b J J' n k j).natAbs<=h:=λn k j=>by
  unfold phi
  split
  ·exact Zbu (λk j=>by unfold fA; split; exact bA k; exact Nat.zero_le _) _ _ _ _
  ·exact Zbu (λk j=>Qc (Q82 B k j) bB) _ _ _ _
 have hJp:0<J:=by omega
 have hNp:1<=N:=by
  have:0<b*J:=J7 hb hJp;omega
 have hNh:1<=N*h:=J7 hNp h0;obtain ⟨E,hE⟩:=nmE ((a+b-1)*J);have hNE:N=E+a*b:=by
  have e1:(a+b-1)*J+J=(a+b)*J:=by
   rw [<-Z7]; congr 1; omega
  have e2:a*J=a*J'+a*b:=by rw [hJ',Xk]
  rw [X8] at e1;omega
 have hc:(2*(N*(h*H))+1)^E<(H+1)^N:=by
  have c1:2*(N*(h*H))+1<=2*(N*h)*(H+1):=by
   rw [Xk,Yq,Xg 2,Xg N]; omega
  refine Zv (Nat.pow_le_pow_left c1 E) ?_;rw [Nat.mul_pow,hNE,Xb,Zh];refine Nat.mul_lt_mul_of_pos_left ?_ (Z1 (by omega));have e1:(2*(N*h))^E=H^(a*b):=by
   rw [hH,<-Uq,hE,hJ]; congr 1;rw [Zh 2 (a+b-1),Xg]
  rw [<-hNE,e1];exact Nat.pow_lt_pow_left (by omega) (by omega)
 obtain ⟨v,v1,⟨n0,n1,n2⟩,v3⟩:=Zkv (M:=λe n=>phi A B b J J' n (e / J+1) (e % J)) (h:=h) (N:=N) (E:=E) (H:=H) (λe n=>hbd n _ _) hc;have hW:∀ k j,1<=k->k<a+b->j<J->sm N (λn=>phi A B b J J' n k j*v n)=0:=λk j k1 k2 hj=>by
  have:=v3 ((k-1)*J+j) (by rw [hE]; exact Zh6 (by omega) hj);rwa [(Qgj hj).1,(Qgj hj).2,show k-1+1=k by omega] at this
 refine ⟨λj=>sm N λn=>phi A B b J J' n 0 j*v n,?_,λj=>?_,λR hR=>?_⟩
 ·rcases Classical.em (∃ j,j<J/\(sm N λn=>phi A B b J J' n 0 j*v n)≠0) with e | e
  ·exact e
  ·exfalso;refine n2 (Q52 hA hB lA lB hJ' (v:=v) (λk j hk hj=>?_) n0 (by rw [<-hN]; exact n1));rw [<-hN];rcases Qz k with e' | e'
   ·subst e';rcases Classical.em ((sm N λn=>phi A B b J J' n 0 j*v n)=0) with e2 | e2
    ·exact e2
    ·exact absurd ⟨j,hj,e2⟩ e
   ·exact hW k j e' hk hj
 ·refine Zbz N λn _=>?_
  rw [Jr];exact Zf (hbd n 0 j) (v1 n)
 ·have hRp:∀ k:Nat,1<=R^k:=λk=>(Qb4 hR (x:=0) (by rw [H5]; grind) k).2
  have hHn:(0:Rat)<=(H:Rat):=Xh;have hNn:(0:Rat)<=(N:Rat):=Xh;refine ⟨(N:Rat)*((H:Rat)*R^(a+b+J)),M3 hNn (M3 hHn (by have:=hRp (a+b+J); grind)),λx y hx hy=>?_⟩;have e1:(sq J λj=>((sm N λn=>phi A B b J J' n 0 j*v n:Int):Rat)*x^j)=E2 (λk j=>sm N λn=>phi A B b J J' n k j*v n) (a+b) J x y:=by
   unfold E2;obtain ⟨m,hm⟩:∃ m,a+b=m+1:=⟨a+b-1,by omega⟩;rw [hm,Iq,Bm (n:=m)]
   ·have:(sq J λj=>((sm N λn=>phi A B b J J' n 0 j*v n:Int):Rat)*(y^0*x^j))=sq J λj=>((sm N λn=>phi A B b J J' n 0 j*v n:Int):Rat)*x^j:=Sz J λj _=>by rw [Xc]; grind
    rw [this]; grind
   ·intro k hk;refine Bm J λj hj=>?_
    show ((sm N λn=>phi A B b J J' n (k+1) j*v n:Int):Rat)*_=0;rw [hW (k+1) j (by omega) (by omega) hj,show ((0:Int):Rat)=0 from rfl]; grind
  rw [e1,Q8m];have key:∀ n,n<N->U5 ((v n:Rat)*E2 (phi A B b J J' n) (a+b) J x y)<=(H:Rat)*(R^(a+b+J)*(U5 (Uw A y)+U5 (Uw B (y-x)))):=λn hn=>by
   have hvn:U5 (v n:Rat)<=(H:Rat):=by
    have h1:=v1 n;have h2:(v n)<=(H:Int):=by omega
    have h3:-(H:Int)<=v n:=by omega
    have h2:=Xz.2 h2;have h3:=Xz.2 h3;rw [Vp] at h3;rw [Px]; exact ⟨h3,h2⟩
   refine Gp hvn ?_;have hRk:=hRp (a+b+J);have n1:=Hk (Uw A y);have n2:=Hk (Uw B (y-x));rcases Za n (b*J) with h | h
   ·have e:phi A B b J J' n=shF (n / J) (n % J) (fA A):=by funext k j; unfold phi; rw [if_pos h]
    have d1:n / J<b:=X3 (by rw [Zh]; exact h);have d2:=Z4 n hJp;rw [e];refine Ze (Zbt (K2:=a+b-n / J) (J2:=J-n % J) hR hx hy (by omega) (by omega) (X:=Uw A y) ?_) (Nx (by grind) Qp n1 (by grind));obtain ⟨m,hm⟩:∃ m,J-n % J=m+1:=⟨J-n % J-1,by omega⟩;rw [hm]; exact Zmm A _ _ x y (by omega)
   ·have e:phi A B b J J' n=shF ((n-b*J) / J') ((n-b*J) % J') (gc B):=by funext k j; unfold phi; rw [if_neg (by omega)]
    have hJp':0<J':=by
     rcases Qz J' with e | e
     ·rw [e,Ys] at hN; omega
     ·exact e
    have d1:(n-b*J) / J'<a:=X3 (by rw [Zh J' a]; omega);have d2:=Z4 (n-b*J) hJp';rw [e];refine Ze (Zbt (K2:=a+b-(n-b*J) / J') (J2:=J-(n-b*J) % J') hR hx hy (by omega) (by omega) (X:=Uw B (y-x)) ?_) (Nx (by grind) Qp n2 (by grind));exact Zjo x y B _ _ (by omega) (by omega)
  have:=Zih N key;refine Ze this ?_;have:(N:Rat)*((H:Rat)*(R^(a+b+J)*(U5 (Uw A y)+U5 (Uw B (y-x)))))=(N:Rat)*((H:Rat)*R^(a+b+J))*(U5 (Uw A y)+U5 (Uw B (y-x))):=by grind
  rw [this]; exact Qp
end Orq
namespace Orq
theorem Zb4 {w:Nat->Int} {x:Rat} {D:Rat} (hx:U5 x*2<=1) (hw:∀ j,U5 (w j:Rat)<=D):∀ J (k:Nat),U5 (sq J λj=>(w (k+j):Rat)*x^j)<=2*D
 | 0,k=>by have:=hw 0; have:=Hk (w 0:Rat); simp only [sq,H5]; clear hw; grind
 |
  J+1,k=>by
  have ih:=Zb4 hx hw J (k+1);rw [Iq];have e:(sq J λi=>(w (k+(i+1)):Rat)*x^(i+1))=x*sq J λi=>(w (k+1+i):Rat)*x^i:=by
   rw [<-Qbf]; exact Sz J λi _=>by rw [Z8,show k+(i+1)=k+1+i by omega]; grind
  rw [e,Xc,Xm];have h1:=hw k;have h2:=Tt ((w k:Rat)*1) (x*sq J λi=>(w (k+1+i):Rat)*x^i);have h3:=Gp (x:=x) (y:=sq J λi=>(w (k+1+i):Rat)*x^i) Qp ih;have h4:=Q8 hx (show (0:Rat)<=D by have:=Hk (w k:Rat); clear hw; grind);have h5:(w k:Rat)*1=w k:=by grind
  rw [h5] at h2 ⊢;clear hw; grind
theorem Qdd {z:Int} (h:z≠0):1<=U5 (z:Rat):=by
 unfold U5;rcases Kq h with h | h
 ·have:((z:Int):Rat)<((0:Int):Rat):=X9.2 h;have h2:((1:Int):Rat)<=((-z:Int):Rat):=Xz.2 (by omega);rw [if_pos (by simpa using this)];rw [Vp] at h2;simpa using h2
 ·have:((0:Int):Rat)<((z:Int):Rat):=X9.2 h;have h2:((1:Int):Rat)<=((z:Int):Rat):=Xz.2 (by omega);rw [if_neg (by
   have:(0:Rat)<z:=by simpa using this
   grind)]
  simpa using h2
theorem Qxu {w:Nat->Int} {x:Rat} {D:Rat} (hD:1<=D) (hx0:0<U5 x) (hx:U5 x*(4*D)<=1) (hw:∀ j,U5 (w j:Rat)<=D):∀ J (k:Nat),(∃ j,j<J/\w (k+j)≠0)->U5 x^J / 2<=U5 (sq J λj=>(w (k+j):Rat)*x^j)
 | 0,k,⟨j,h,_⟩=>by omega
 |
  J+1,k,⟨j,h1,h2⟩=>by
  have hx2:U5 x*2<=1:=by
   have:=Nx (a:=U5 x) (c:=2) (Qq hx0) Qp (by decide) (show (2:Rat)<=4*D by clear hw; grind);exact Ze this hx
  have hx1:U5 x<=1:=by clear hw; grind
  have hp:∀ k:Nat,U5 x^k<=1/\0<=U5 x^k:=λk=>by
   induction k with
   | zero=>rw [Xc]; exact ⟨by decide,by decide⟩
   |
    succ k ih =>
    rw [Z8];have:=Nx ih.2 ih.1 (Qq hx0) hx1;have:=M3 ih.2 (Qq hx0);constructor <;> (clear hw; grind)
  rw [Iq];have e:(sq J λi=>(w (k+(i+1)):Rat)*x^(i+1))=x*sq J λi=>(w (k+1+i):Rat)*x^i:=by
   rw [<-Qbf]; exact Sz J λi _=>by rw [Z8,show k+(i+1)=k+1+i by omega]; grind
  rw [e,Xc,Xm k,show (w k:Rat)*1=w k by grind];by_cases h0:w k=0
  ·have hj:j≠0:=λe=>h2 (by rw [e]; exact h0)
   have ih:=Qxu hD hx0 hx hw J (k+1) ⟨j-1,by omega,by rw [show k+1+(j-1)=k+j by omega]; exact h2⟩;rw [h0,show ((0:Int):Rat)+x*(sq J λi=>(w (k+1+i):Rat)*x^i)=x*sq J λi=>(w (k+1+i):Rat)*x^i by rw [show ((0:Int):Rat)=0 from rfl]; grind,E7,Z8];have:=Zz ih (Qq hx0);have e2:U5 x*(U5 x^J / 2)=U5 x^J*U5 x / 2:=by rw [Jq,Jq]; grind
   rw [e2] at this; exact this
  ·have a1:=Qdd h0;have a2:=Zb4 hx2 hw J (k+1);have a3:=Gp (x:=x) (y:=sq J λi=>(w (k+1+i):Rat)*x^i) Qp a2;have a4:=Tt ((w k:Rat)+x*sq J λi=>(w (k+1+i):Rat)*x^i) (-(x*sq J λi=>(w (k+1+i):Rat)*x^i));rw [D8,show (w k:Rat)+(x*sq J λi=>(w (k+1+i):Rat)*x^i)+-(x*sq J λi=>(w (k+1+i):Rat)*x^i)=w k by grind] at a4;have a5:=(hp (J+1)).1;have a6:U5 x^(J+1) / 2*2=U5 x^(J+1):=Gs (by decide);have a7:U5 x*(2*D)*2=U5 x*(4*D):=by grind
   clear hw hp; grind
theorem Zjw {A B:List Int} {a b h:Nat} (hA:A.length=a+1) (hB:B.length=b+1) (lA:A.getD a 0≠0) (lB:B.getD b 0≠0) (ha:0<a) (hb:0<b) (h0:1<=h) (bA:∀ k,(A.getD k 0).natAbs<=h) (bB:gB B<=h) {N D:Nat} (hN:b*(2*(a*b))+a*(2*(a*b)-b)=N) (hD:N*(h*(2*(N*h))^(2*(a+b-1)))<=D) {R d:Rat} (hR:1<=R) (dp:0<d)
 (hs:∀ e:Rat,0<e->∃ q r,U5 q<=R/\U5 r<=R/\d<=U5 (q-r)/\U5 (q-r)*(4*(D:Rat))<=1/\U5 (Uw A q)<e/\U5 (Uw B r)<e):False:=by
 have hab:0<a*b:=J7 ha hb;have hbab:b<=a*b:=by
  have:=Q0 b (show 1<=a from ha); omega
 obtain ⟨w,⟨j,hj,hw0⟩,hw,hC⟩:=Zkr hA hB lA lB ha hb h0 bA bB (J:=2*(a*b)) (J':=2*(a*b)-b) rfl (by omega) hN.symm rfl;obtain ⟨C,hC0,hC⟩:=hC (2*R) (by grind);have hw':∀ j,U5 (w j:Rat)<=(D:Rat):=λj=>by
  have h1:=Qc (hw j) hD;have h2:w j<=(D:Int):=by omega
  have h3:-(D:Int)<=w j:=by omega
  have h2:=Xz.2 h2;have h3:=Xz.2 h3;rw [Vp] at h3;rw [Px]; exact ⟨h3,h2⟩
 have hD1:(1:Rat)<=(D:Rat):=by
  have:=Qdd hw0;exact Ze this (hw' j)
 have hdJ:0<d^(2*(a*b)) / 2:=Lt (Rat.pow_pos dp) (by decide);obtain ⟨e,ep,_,he⟩:=Gu (b:=C*2) (d:=d^(2*(a*b)) / 2) (by grind) hdJ;obtain ⟨q,r,q1,r1,d1,d2,aq,br⟩:=hs e ep;have h1:=hC (q-r) q (by
  have:=Tt q (-r); rw [D8] at this; have:q-r=q+-r:=by grind
  grind) (by grind)
 rw [show q-(q-r)=r by grind] at h1;have h2:=Qxu (x:=q-r) hD1 (by grind) d2 hw' (2*(a*b)) 0 ⟨j,hj,by rw [Zx]; exact hw0⟩;simp only [Zx] at h2;have h3:C*(U5 (Uw A q)+U5 (Uw B r))<=C*(e+e):=Zz (by grind) hC0;have h4:d^(2*(a*b))<=U5 (q-r)^(2*(a*b)):=by
  generalize 2*(a*b)=J
  induction J with
  | zero=>rw [Xc,Xc]; exact Qp
  |
   succ J ih =>
   rw [Z8,Z8];exact Nx (Qq (Rat.pow_pos dp)) ih (Qq dp) d1
 have h5:d^(2*(a*b)) / 2*2=d^(2*(a*b)):=Gs (by decide);have h6:U5 (q-r)^(2*(a*b)) / 2*2=U5 (q-r)^(2*(a*b)):=Gs (by decide);clear hC hs hw hw';grind
def HD (p:List Rat) (n:Nat):Prop:=p.getD n 0≠0/\∀ k,n<k->p.getD k 0=0
theorem H7:∀ (p q:List Rat) (k:Nat),(Tu p q).getD k 0=p.getD k 0+q.getD k 0
 | [],q,k=>by simp only [Tu,Kz]; grind
 | a::p,[],k=>by simp only [Tu,Kz]; grind
 | a::p,b::q,0=>by simp only [Tu,Zp]
 | a::p,b::q,k+1=>by simp only [Tu,Q3]; exact H7 p q k
theorem Tr (c:Rat):∀ (p:List Rat) (k:Nat),(C0 c p).getD k 0=c*p.getD k 0
 | [],k=>by simp only [C0,Jf,Kz]; grind
 | a::p,0=>by simp [C0]
 | a::p,k+1=>by have:=Tr c p k; simp only [C0,Z0,Q3] at *; exact this
theorem Q9a {p:List Rat} {k:Nat} (h:∀ x∈p,x=0):p.getD k 0=0:=by
 rw [Qg];cases e:p[k]? with
 | none=>rfl
 | some x=>exact h x (Qa e)
theorem Cw {p q:List Rat} (h:∀ t,ev p t=ev q t) (k:Nat):p.getD k 0=q.getD k 0:=by
 have h1:=Q9a (k:=k) (Qdq (p:=Tu p (C0 (-1) q)) λt _ _=>by rw [Gg,Fy,h t]; grind);rw [H7,Tr] at h1; grind
theorem C7:∀ {p:List Rat},(∀ k,p.getD k 0=0)->∀ t,ev p t=0
 | [],_,t=>rfl
 |
  a::p,h,t=>by
  have h0:=h 0;have h1:=C7 (p:=p) (λk=>by have:=h (k+1); rwa [Q3] at this) t;rw [Zp] at h0;simp only [ev,h0,h1]; grind
theorem Qk3:∀ (p:List Rat),(∀ t,ev p t=0)\/∃ n,n<p.length/\HD p n
 | []=>.inl λ_=>rfl
 |
  a::p=>by
  rcases Qk3 p with h | ⟨n,hn,h1,h2⟩
  ·rcases Classical.em (a=0) with e | e
   ·exact .inl λt=>by simp only [ev,e,h t]; grind
   ·refine .inr ⟨0,by simp,by simpa using e,λk hk=>?_⟩;obtain ⟨m,rfl⟩:∃ m,k=m+1:=⟨k-1,by omega⟩;rw [Q3];exact (Cw (p:=p) (q:=[]) h m).trans (by simp)
  ·refine .inr ⟨n+1,by simp; omega,by rw [Q3]; exact h1,λk hk=>?_⟩;obtain ⟨m,rfl⟩:∃ m,k=m+1:=⟨k-1,by omega⟩;rw [Q3]; exact h2 m (by omega)
theorem Zh4 {p q:List Rat} {n:Nat} (h:∀ t,ev p t=ev q t) (hp:HD p n):HD q n :=
 ⟨by rw [<-Cw h]; exact hp.1,λk hk=>by rw [<-Cw h]; exact hp.2 k hk⟩
theorem Zh5 {p:List Rat} {n m:Nat} (h:HD p n) (h':HD p m):n=m:=by
 rcases Vx n m with e | e | e
 ·exact absurd (h.2 m e) h'.1
 ·exact e
 ·exact absurd (h'.2 n e) h.1
theorem Q08 {p:List Rat} {n:Nat} (h:HD p n):¬∀ t,ev p t=0:=λh0=>h.1 ((Cw (p:=p) (q:=[]) h0 n).trans (by simp))
theorem Qhr {p q:List Rat} (h:∀ k,p.getD k 0=0) (k:Nat):(Gk p q).getD k 0=0:=by
 have:=Cw (p:=Gk p q) (q:=[]) (λt=>by rw [U3,C7 h t]; simp only [ev]; grind) k;rw [this]; simp
theorem Qk4:∀ {p q:List Rat} {m n:Nat},HD p m->HD q n->HD (Gk p q) (m+n)
 | [],q,m,n,h,_=>absurd (by simp) h.1
 |
  a::p,q,0,n,h,h'=>by
  have h1:∀ k,p.getD k 0=0:=λk=>by have:=h.2 (k+1) (by omega); rwa [Q3] at this
  have h2:∀ k,(Gk (a::p) q).getD k 0=a*q.getD k 0:=λk=>by
   simp only [Gk];rw [H7,Tr];cases k with
   | zero=>rw [Zp]; grind
   | succ k=>rw [Q3,Qhr h1]; grind
  have h3:=h.1;rw [Zp] at h3;refine ⟨?_,λk hk=>?_⟩
  ·rw [h2,Zx]; exact λh=>(Yw.1 h).elim h3 h'.1
  ·rw [h2,h'.2 k (by omega)]; grind
 |
  a::p,q,m+1,n,h,h'=>by
  have ih:=Qk4 (p:=p) (q:=q) (m:=m) ⟨by have:=h.1; rwa [Q3] at this,λk hk=>by have:=h.2 (k+1) (by omega); rwa [Q3] at this⟩ h';refine ⟨?_,λk hk=>?_⟩
  ·simp only [Gk];rw [H7,Tr,show m+1+n=(m+n)+1 by omega,Q3,h'.2 _ (by omega)];have:=ih.1; grind
  ·obtain ⟨j,rfl⟩:∃ j,k=j+1:=⟨k-1,by omega⟩;simp only [Gk];rw [H7,Tr,Q3,h'.2 _ (by omega),ih.2 j (by omega)]; grind
def O3 (g f:List Rat):Prop:=∃ u,∀ t,ev f t=ev g t*ev u t
theorem dvd_refl (f:List Rat):O3 f f:=⟨[1],λt=>by rw [Rq]; grind⟩
theorem dvd_trans {f g h:List Rat}:O3 f g->O3 g h->O3 f h
 | ⟨u,hu⟩,⟨v,hv⟩=>⟨Gk u v,λt=>by rw [hv,hu,U3]; grind⟩
theorem Que {p q:List Rat} (h:∀ t,ev p t*ev q t=0) (hp:¬∀ t,ev p t=0):∀ t,ev q t=0:=by
 rcases Qk3 p with h1 | ⟨m,_,h1⟩
 ·exact absurd h1 hp
 ·rcases Qk3 q with h2 | ⟨n,_,h2⟩
  ·exact h2
  ·exact absurd (λt=>by rw [U3]; exact h t) (Q08 (Qk4 h1 h2))
theorem Qw3 {p q r:List Rat} (hp:¬∀ t,ev p t=0) (h:∀ t,ev p t*ev q t=ev p t*ev r t) (t:Rat):ev q t=ev r t:=by
 have:=Que (p:=p) (q:=Tu q (C0 (-1) r)) (λt=>by rw [Gg,Fy]; have:=h t; grind) hp t;rw [Gg,Fy] at this; grind
theorem Q8f {b:List Rat} {n:Nat} (hb:HD b n):∀ (l:Nat) (a:List Rat),(∀ k,l<=k->a.getD k 0=0)->∃ q r,(∀ t,ev a t=ev q t*ev b t+ev r t)/\∀ k,n<=k->r.getD k 0=0
 | 0,a,ha=>⟨[],a,λt=>by simp only [ev]; grind,λk _=>ha k (Qh _)⟩
 |
  l+1,a,ha=>by
  rcases Za l n with h | h
  ·exact ⟨[],a,λt=>by simp only [ev]; grind,λk hk=>ha k (by omega)⟩
  ·-- the leading term is taken away
   obtain ⟨c,hc⟩:=nmE (a.getD l 0 / b.getD n 0);have hcb:c*b.getD n 0=a.getD l 0:=by rw [hc]; exact Zk hb.1
   obtain ⟨m,hm⟩:∃ m:List Rat,m=List.replicate (l-n) 0++[c]:=⟨_,rfl⟩;have hsh:∀ (i:Nat) (k:Nat),(Gk (List.replicate i 0++[c]) b).getD k 0=if i<=k then c*b.getD (k-i) 0 else 0:=λi=>by
    induction i with
    | zero=>intro k; simp only [Wq,Yv,Gk]; rw [H7,Tr]; cases k <;> simp <;> grind
    |
     succ i ih =>
     intro k;simp only [J5,Xd,Gk];rw [H7,Tr];cases k with
     | zero=>rw [Zp,if_neg (by omega)]; grind
     |
      succ k =>
      rw [Q3,ih k];by_cases h:i<=k
      ·rw [if_pos h,if_pos (by omega),Nat.add_sub_add_right]; grind
      ·rw [if_neg h,if_neg (by omega)]; grind
   obtain ⟨q,r,h1,h2⟩:=Q8f hb l (Tu a (C0 (-1) (Gk m b))) λk hk=>by
    rw [H7,Tr,hm,hsh,if_pos (by omega)];rcases Vm hk with e | e
    ·rw [ha k (by omega),hb.2 _ (by omega)]; grind
    ·subst e; rw [show l-(l-n)=n by omega,hcb]; grind
   refine ⟨Tu q m,r,λt=>?_,h2⟩;have:=h1 t;rw [Gg,Fy,U3] at this;rw [Gg]; grind
theorem Qxh:∀ (n:Nat) (a b:List Rat),(∀ k,n<=k->b.getD k 0=0)->∃ g U V,O3 g a/\O3 g b/\∀ t,ev g t=ev U t*ev a t+ev V t*ev b t
 |
  0,a,b,h=>by
  have h0:=C7 λk=>h k (Qh _)
  exact ⟨a,[1],[],dvd_refl a,⟨[],λt=>by rw [h0]; simp only [ev]; grind⟩,λt=>by rw [Rq]; simp only [ev]; grind⟩
 |
  n+1,a,b,h=>by
  rcases Classical.em (b.getD n 0=0) with e | e
  ·exact Qxh n a b λk hk=>by
    rcases Vm hk with e' | e'
    ·exact h k (by omega)
    ·rw [<-e']; exact e
  ·obtain ⟨q,r,h1,h2⟩:=Q8f (b:=b) (n:=n) ⟨e,λk hk=>h k (by omega)⟩ a.length a λk hk=>by rw [Qg,Qt hk]; rfl
   obtain ⟨g,U,V,⟨u,hu⟩,⟨v,hv⟩,hg⟩:=Qxh n b r h2;refine ⟨g,V,Tu U (C0 (-1) (Gk V q)),⟨Tu (Gk q u) v,λt=>?_⟩,⟨u,hu⟩,λt=>?_⟩
   ·rw [h1,hv,Gg,U3,hu]; grind
   ·rw [hg,Gg,Fy,U3,h1]; grind
theorem Q86 (a b:List Rat):∃ g U V,O3 g a/\O3 g b/\∀ t,ev g t=ev U t*ev a t+ev V t*ev b t :=
 Qxh b.length a b λk hk=>by rw [Qg,Qt hk]; rfl
def Cop (a b:List Rat):Prop:=∃ U V,∀ t,ev U t*ev a t+ev V t*ev b t=1
theorem Qp0 {c d e:List Rat} (h:Cop c d) (h1:∃ u,∀ t,ev d t*ev e t=ev c t*ev u t):O3 c e:=by
 obtain ⟨U,V,h⟩:=h;obtain ⟨u,hu⟩:=h1;refine ⟨Tu (Gk U e) (Gk V u),λt=>?_⟩;rw [Gg,U3,U3];have a1:=h t;have a2:=hu t;have:ev e t=(ev U t*ev c t+ev V t*ev d t)*ev e t:=by rw [a1]; grind
 rw [this];have:(ev U t*ev c t+ev V t*ev d t)*ev e t=ev U t*ev c t*ev e t+ev V t*(ev d t*ev e t):=by grind
 rw [this,a2]; grind
def qpw (d:List Rat):Nat->List Rat
 | 0=>[1]
 | k+1=>Gk d (qpw d k)
theorem Qyi (d:List Rat) (t:Rat):∀ k:Nat,ev d t*dv (qpw d k) t=(k:Rat)*(dv d t*ev (qpw d k) t)
 | 0=>by simp only [qpw,dv,ev]; rw [show ((0:Nat):Rat)=0 from rfl]; grind
 |
  k+1=>by
  have ih:=Qyi d t k;have hn':(((k+1:Nat):Rat))=(k:Rat)+1:=by push_cast; rfl
  simp only [qpw];rw [Qp7,U3,hn']; grind
theorem Za4 {d:List Rat} {m:Nat} (h:HD d m):∀ k,HD (qpw d k) (k*m)
 | 0=>by rw [J8]; exact ⟨by simp [qpw],λk hk=>by simp only [qpw]; rw [Qg,Qt (by simp; omega)]; rfl⟩
 | k+1=>by rw [Z7,Ja (k*m) m]; exact Qk4 h (Za4 h k)
theorem Qoe {d g:List Rat} {m n:Nat} (hd:HD d m) (hg:HD g n) (h:∀ k,O3 (qpw d k) g):m=0:=by
 obtain ⟨u,hu⟩:=h (n+1);rcases Qk3 u with h1 | ⟨j,_,h1⟩
 ·exact absurd (λt=>by rw [hu,h1]; grind) (Q08 hg)
 ·have:=Zh5 (Zh4 (λt=>by rw [hu,U3]) hg) (Qk4 (Za4 hd (n+1)) h1);rcases Qz m with e | e
  ·exact e
  ·have:(n+1)*1<=(n+1)*m:=Zq _ e;omega
theorem sqf {a g q d U V:List Rat} {k:Rat} (hk:k≠0) (ha:∀ t,ev a t=ev g t*ev q t) (hg:∀ t,k*ev g t=ev U t*ev a t+ev V t*dv a t) (h1:O3 d q) (h2:O3 d (M5 q)):∀ n,O3 (qpw d n) g
 | 0=>⟨g,λt=>by simp only [qpw]; rw [Rq]; grind⟩
 |
  n+1=>by
  obtain ⟨g1,e1⟩:=sqf hk ha hg h1 h2 n;obtain ⟨q1,e2⟩:=h1;obtain ⟨q2,e3⟩:=h2;have d1:=λt=>I7 ha t
  have d2:=λt=>I7 e1 t
  have d3:=λt=>I7 e2 t
  have d4:=Qyi d;refine ⟨C0 (1 / k) (Tu (Gk U (Gk g1 q1)) (Gk V (Tu (Gk g1 q2) (Tu (C0 n (Gk g1 (Tu q2 (C0 (-1) (M5 q1))))) (Gk (M5 g1) q1))))),λt=>?_⟩;have hkk:1 / k*k=1:=Zk hk;simp only [qpw,Fy,Gg,U3,Rz];have b1:=ha t; have b2:=hg t; have b3:=e1 t; have b4:=e2 t; have b5:=e3 t;have b6:=d1 t; have b7:=d2 t; have b8:=d3 t; have b9:=d4 t n;rw [Rz] at b5;generalize ev d t=x0 at *;generalize ev (qpw d n) t=x1 at *;generalize ev g t=x2 at *;generalize ev q t=x3 at *;generalize ev a t=x4 at *;generalize dv a t=x5 at *;generalize dv g t=x6 at *;generalize dv q t=x7 at *;generalize ev g1 t=x8 at *;generalize dv g1 t=x9 at *;generalize ev q1 t=y0 at *;generalize dv q1 t=y1 at *;generalize ev q2 t=y2 at *;generalize dv d t=y3 at *;generalize dv (qpw d n) t=y4 at *;generalize ev U t=y5 at *;generalize ev V t=y6 at *;generalize (n:Rat)=y7 at *;have:x2=1 / k*(k*x2):=by grind
  rw [this,b2];have c1:x5=x0*x1*(x8*y2+(y7*(x8*(y2+-1*y1))+x9*y0)):=by
   rw [b6,b7,b4,b3];have:y3*y0=x0*y2-x0*y1:=by grind
   have:x0*y4*(x8*y0)=y7*(x1*x8*(x0*y2-x0*y1)):=by rw [b9,<-this]; grind
   grind
  have c2:x4=x0*x1*(x8*y0):=by rw [b1,b3,b4]; grind
  rw [c1,c2]; grind
theorem Zel {a b c:List Rat} (h1:Cop a b) (h2:Cop a c) {d:List Rat} (hd:∀ t,ev d t=ev b t*ev c t):Cop a d:=by
 obtain ⟨U,V,h1⟩:=h1;obtain ⟨X,Y,h2⟩:=h2;refine ⟨Tu U (Gk (Gk V b) X),Gk V Y,λt=>?_⟩;have a1:=h1 t;have a2:=h2 t;simp only [Gg,U3,hd];have:ev V t*ev b t*(ev X t*ev a t+ev Y t*ev c t)=ev V t*ev b t:=by rw [a2]; grind
 grind
theorem Zgs {a g q z r X Y:List Rat} {n:Nat} (ha:∀ t,ev a t=ev g t*ev q t) (hz:∀ t,dv a t=ev g t*ev z t) (hg:HD g n) (hr:∀ t,ev X t*ev r t+ev Y t*dv r t=1) (h:O3 r a):O3 r q:=by
 obtain ⟨b,hb⟩:=h;obtain ⟨e,U,V,⟨r1,e1⟩,⟨q3,e2⟩,e3⟩:=Q86 r q;have hr0:¬∀ t,ev r t=0:=λh=>by
  have h1:=hr 0;have h2:dv r 0=0:=by have:=Q8k (p:=r) (q:=[]) h 0; rw [this]; rfl
  rw [h,h2] at h1; grind
 have he0:¬∀ t,ev e t=0:=λh=>hr0 λt=>by rw [e1,h]; grind
 have d1:=λt=>I7 e1 t
 have c1:Cop r1 q3:=⟨U,V,λt=>by
  have:=Qw3 (p:=e) (q:=Tu (Gk U r1) (Gk V q3)) (r:=[1]) he0 (λt=>by
   rw [Gg,U3,U3,Rq];have a1:=e1 t; have a2:=e2 t; have a3:=e3 t;rw [a1,a2] at a3; grind) t
  rw [Gg,U3,U3,Rq] at this; exact this⟩
 have c2:Cop r1 e:=⟨Tu (Gk X e) (Gk Y (M5 e)),Gk Y (M5 r1),λt=>by
  have a1:=hr t; have a2:=e1 t; have a3:=d1 t;simp only [Gg,U3,Rz];rw [a2,a3] at a1; grind⟩
 have c3:Cop r1 (M5 r1):=⟨Tu (Gk X e) (Gk Y (M5 e)),Gk Y e,λt=>by
  have a1:=hr t; have a2:=e1 t; have a3:=d1 t;simp only [Gg,U3,Rz];rw [a2,a3] at a1; grind⟩
 have c4:Cop r1 q:=Zel c2 c1 e2;have hgz:=Q08 hg;have hp:∀ k,O3 (qpw r1 k) g:=λk=>by
  induction k with
  | zero=>exact ⟨g,λt=>by simp only [qpw]; rw [Rq]; grind⟩
  |
   succ k ih =>
   obtain ⟨h,eh⟩:=ih;have hpz:¬∀ t,ev (qpw r1 k) t=0:=λh0=>hgz λt=>by rw [eh,h0]; grind
   have key:O3 r1 h:=by
    cases k with
    |
     zero =>
     refine Qp0 c4 ⟨Gk e b,λt=>?_⟩;have a1:=ha t; have a2:=hb t; have a3:=e1 t; have a4:=eh t;simp only [qpw] at a4;rw [Rq] at a4;rw [U3]; grind
    |
     succ k =>
     have hn:((k+1:Nat):Rat)≠0:=by
      have:(0:Rat)<((k+1:Nat):Rat):=by
       have h1:((0:Nat):Rat)<((k+1:Nat):Rat):=Vs.2 (by omega);simpa using h1
      grind
     have d2:=λt=>I7 (f:=a) (w:=qpw r1 (k+1)) (u:=Gk h q) (λt=>by rw [ha,eh,U3]; grind) t
     have d4:=Qyi r1;have h3:=Qw3 (p:=qpw r1 (k+1)) (q:=Gk (M5 r1) (Gk h q)) (r:=Gk r1 (C0 (1 / ((k+1:Nat):Rat)) (Tu (Gk h z) (C0 (-1) (M5 (Gk h q)))))) hpz λt=>by
      simp only [U3,Fy,Gg,Rz];have a1:=d2 t; have a2:=d4 t (k+1); have a3:=hz t; have a4:=eh t;rw [U3] at a1;generalize ((k+1:Nat):Rat)=c at *;have hc:1 / c*c=1:=Zk hn;generalize ev (qpw r1 (k+1)) t=x0 at *;generalize dv (qpw r1 (k+1)) t=x1 at *;generalize dv (Gk h q) t=x2 at *;generalize ev r1 t=x3 at *;generalize dv r1 t=x4 at *;generalize ev h t=x5 at *;generalize ev q t=x6 at *;generalize ev z t=x7 at *;generalize dv a t=x8 at *;generalize ev g t=x9 at *;generalize 1 / c=c' at *;have s1:x0*(x4*(x5*x6))=c'*(c*(x4*x0))*(x5*x6):=by
       have:c'*(c*(x4*x0))=(c'*c)*(x4*x0):=by grind
       rw [this,hc]; grind
      rw [s1,<-a2];have s2:x3*(x1*(x5*x6))=x3*(x0*(x5*x7+-1*x2)):=by
       rw [a3,a4] at a1; grind
      grind
     refine Qp0 c4 ?_;obtain ⟨u,hu⟩:=Qp0 (e:=Gk q h) c3 ⟨C0 (1 / ((k+1:Nat):Rat)) (Tu (Gk h z) (C0 (-1) (M5 (Gk h q)))),λt=>by
      have:=h3 t;simp only [U3] at this ⊢;rw [<-this]; grind⟩
     exact ⟨u,λt=>by rw [<-hu,U3]⟩
   obtain ⟨u,hu⟩:=key;exact ⟨u,λt=>by simp only [qpw]; rw [U3,eh,hu]; grind⟩
 rcases Qk3 r1 with h1 | ⟨m,_,h1⟩
 ·exact absurd (λt=>by rw [e1,h1]; grind) hr0
 ·obtain rfl:=Qoe h1 hg hp;have h2:∀ t,ev r1 t=r1.getD 0 0:=λt=>by
   cases r1 with
   | nil=>simp [ev]
   |
    cons c l =>
    have:∀ t,ev l t=0:=C7 λk=>by have:=h1.2 (k+1) (by omega); rwa [Q3] at this
    simp only [ev,this,Zp]; grind
  have h3:=h1.1;refine ⟨C0 (1 / r1.getD 0 0) q3,λt=>?_⟩;rw [e2,e1,h2,Fy];have:1 / r1.getD 0 0*r1.getD 0 0=1:=Zk h3;have:ev e t*r1.getD 0 0*(1 / r1.getD 0 0*ev q3 t)=ev e t*ev q3 t*(1 / r1.getD 0 0*r1.getD 0 0):=by grind
  rw [this,Zk h3]; grind
def Ic:List (List Rat)->List Rat
 | []=>[1]
 | w::l=>Gk w (Ic l)
def Lay:List (List Rat)->List (List Rat)->Prop
 | [],[]=>True
 | [w],[f]=>∀ t,ev w t=ev f t
 | w::v::l,f::fs=>(∀ t,ev w t=ev f t*ev v t)/\Lay (v::l) fs
 | _,_=>False
def Qie:List (List Rat)->List Rat
 | []=>[1]
 | [f]=>f
 | f::_::l=>Gk f (Qie l)
theorem Q1h:∀ {ws fs:List (List Rat)},Lay ws fs->∃ S,∀ t,ev (Ic ws) t=ev (Qie fs) t*(ev S t*ev S t)
 | [],[],_=>⟨[1],λt=>by simp only [Ic,Qie]; rw [Rq]; grind⟩
 | [w],[f],h=>⟨[1],λt=>by simp only [Ic,Qie]; rw [U3,Rq,h t]; grind⟩
 |
  [w,v],[f,f2],h=>⟨v,λt=>by
  have h1:=h.1 t;have h2:ev v t=ev f2 t:=h.2 t;simp only [Ic,Qie,U3]; rw [Rq,h1]; grind⟩
 |
  w::v::x::l,f::f2::fs,h=>by
  obtain ⟨S,hS⟩:=Q1h h.2.2;refine ⟨Gk v S,λt=>?_⟩;have h1:=h.1 t;have h2:=hS t;have e1:ev (Ic (w::v::x::l)) t=ev w t*(ev v t*ev (Ic (x::l)) t):=by simp only [Ic,U3]
  rw [e1,h2,h1];have e2:ev (Qie (f::f2::fs)) t=ev f t*ev (Qie fs) t:=by
   cases fs with
   | nil=>cases l <;> exact False.elim h.2.2
   | cons y l=>simp only [Qie,U3]
  rw [e2,U3]; grind
 | [w],[],h=>h.elim
 | [w],_::_::_,h=>h.elim
 | [],_::_,h=>h.elim
 | [w,v],[f],h=>h.2.elim
 | [w,v],_::_::_::_,h=>h.2.elim
 | w::v::x::l,[f],h=>h.2.elim
 | w::v::l,[],h=>h.elim
end Orq
namespace Orq
open Orr Go
theorem Qx3 (p:List Int) (t:Rat):Uw p t=((p.getD 0 0:Int):Rat)+t*Uw p.tail t:=by
 cases p with
 | nil=>show (0:Rat)=((0:Int):Rat)+t*0; grind
 | cons a p=>rfl
theorem Qgg (p:List Int) (k:Nat):p.tail.getD k 0=p.getD (k+1) 0:=by
 cases p <;> simp
theorem Ba (c d:Int) (t:Rat):∀ (n:Nat) (p q r:List Int),p.length<=n->q.length<=n->r.length<=n->(∀ k,r.getD k 0=c*p.getD k 0+d*q.getD k 0)->Uw r t=(c:Rat)*Uw p t+(d:Rat)*Uw q t
 |
  0,p,q,r,hp,hq,hr,_=>by
  rw [Qi (Nat.le_zero.1 hp),Qi (Nat.le_zero.1 hq),Qi (Nat.le_zero.1 hr)];show (0:Rat)=_*0+_*0;grind
 |
  n+1,p,q,r,hp,hq,hr,h=>by
  have ih:=Ba c d t n p.tail q.tail r.tail (by rw [Uf]; omega) (by rw [Uf]; omega) (by rw [Uf]; omega) λk=>by
   rw [Qgg,Qgg,Qgg]; exact h (k+1)
  rw [Qx3 p,Qx3 q,Qx3 r,ih,h 0]
  push_cast
  grind
theorem Q15 {p q:List Int} (h:∀ k,p.getD k 0=q.getD k 0) (t:Rat):Uw p t=Uw q t:=by
 have:=Ba 1 0 t (max p.length q.length) q q p (Ui ..) (Ui ..) (Nat.le_max_left ..) λk=>by rw [h k]; omega
 rw [this]
 push_cast
 grind
theorem Ig (p:List Int) (t:Rat):Uw (trim p) t=Uw p t:=Q15 (Ln p) t
theorem My {p:List Int} {k:Nat} (h:p.length<=k):p.getD k 0=0:=by
 rw [Qg,Qt h]; rfl
theorem Qoa (p q:List Int) (k:Nat):(Ak p q).getD k 0=p.getD k 0+q.getD k 0:=by
 unfold Ak;rw [To]
 split
 ·rfl
 ·rename_i h; rw [My (p:=p) (by omega),My (p:=q) (by omega)]; rfl
theorem Im (p q:List Int) (k:Nat):(Pw p q).getD k 0=p.getD k 0-q.getD k 0:=by
 unfold Pw;rw [To]
 split
 ·rfl
 ·rename_i h; rw [My (p:=p) (by omega),My (p:=q) (by omega)]; rfl
theorem Pu (p:List Int) (c:Int) (k:Nat):(Ff p c).getD k 0=p.getD k 0*c:=by
 unfold Ff;rw [To]
 split
 ·rfl
 ·rename_i h; rw [My (p:=p) (by omega),Int.zero_mul]
theorem Q41 (p:List Int) (k:Nat):(Pd p).getD k 0=-(p.getD k 0):=by
 unfold Pd;rw [To]
 split
 ·rfl
 ·rename_i h; rw [My (p:=p) (by omega)]; rfl
theorem Nf (p:List Int) (k:Nat):(Gj p).getD k 0=p.getD (k+1) 0*((k+1:Nat):Int):=by
 unfold Gj;rw [To]
 split
 ·rfl
 ·rename_i h; rw [My (p:=p) (by omega),Int.zero_mul]
theorem Quv (p q:List Int) (t:Rat):Uw (Ak p q) t=Uw p t+Uw q t:=by
 have:=Ba 1 1 t (max (max p.length q.length) (Ak p q).length) p q (Ak p q) (by omega) (by omega) (by omega) λk=>by rw [Qoa]; omega
 rw [this]; push_cast; grind
theorem Bb (p q:List Int) (t:Rat):Uw (Pw p q) t=Uw p t-Uw q t:=by
 have:=Ba 1 (-1) t (max (max p.length q.length) (Pw p q).length) p q (Pw p q) (by omega) (by omega) (by omega) λk=>by rw [Im]; omega
 rw [this]; push_cast; grind
theorem Qeu (p:List Int) (t:Rat):Uw (Pd p) t=-Uw p t:=by
 have:=Ba (-1) 0 t (max p.length (Pd p).length) p p (Pd p) (by omega) (by omega) (by omega) λk=>by rw [Q41]; omega
 rw [this]; push_cast; grind
theorem Rt (p:List Int) (c:Int) (t:Rat):Uw (Ff p c) t=Uw p t*(c:Rat):=by
 have:=Ba c 0 t (max p.length (Ff p c).length) p p (Ff p c) (by omega) (by omega) (by omega) λk=>by rw [Pu,Wg]; omega
 rw [this]; push_cast; grind
theorem Qq5:∀ (l:List Int) (j:Nat) (v:Int) (t:Rat),j<l.length->Uw (l.set j v) t=Uw l t+((v:Rat)-((l.getD j 0:Int):Rat))*t^j
 | [],_,_,_,h=>by simp at h
 |
  a::l,0,v,t,_=>by
  show (v:Rat)+t*Uw l t=(a:Rat)+t*Uw l t+((v:Rat)-(a:Rat))*t^0;rw [Xc]; grind
 |
  a::l,j+1,v,t,h=>by
  have ih:=Qq5 l j v t (by simpa using h);show (a:Rat)+t*Uw (l.set j v) t=(a:Rat)+t*Uw l t+((v:Rat)-((l.getD j 0:Int):Rat))*t^(j+1);rw [ih,Z8]; grind
theorem Qlq:∀ (l:List Int) (k:Nat) (t:Rat),k<l.length->Uw (l.take (k+1)) t=Uw (l.take k) t+((l.getD k 0:Int):Rat)*t^k
 | [],_,_,h=>by simp at h
 |
  a::l,0,t,_=>by
  show (a:Rat)+t*Uw (l.take 0) t=0+(a:Rat)*t^0;rw [Xc,V2];show (a:Rat)+t*0=_;grind
 |
  a::l,k+1,t,h=>by
  have ih:=Qlq l k t (by simpa using h);show (a:Rat)+t*Uw (l.take (k+1)) t=(a:Rat)+t*Uw (l.take k) t+((l.getD k 0:Int):Rat)*t^(k+1);rw [ih,Z8]; grind
theorem Qoc (n:Nat) (t:Rat):Uw (List.replicate n 0) t=0:=by
 induction n with
 | zero=>rfl
 |
  succ n ih =>
  show ((0:Int):Rat)+t*Uw (List.replicate n 0) t=0;rw [ih]; push_cast; grind
theorem Qvc (t:Rat) (i:Nat):∀ k,t^(i+k)=t^i*t^k
 | 0=>by rw [Xm,Xc]; grind
 | k+1=>by rw [<-Yj,Z8,Z8,Qvc t i k]; grind
theorem Quu (x:Int) (b:List Int) (i:Nat) (o:List Int) (t:Rat):∀ k,k<=b.length->i+k<=o.length->Uw (A9 x b i o k) t=Uw o t+(x:Rat)*t^i*Uw (b.take k) t
 |
  0,_,_=>by
  show Uw o t=Uw o t+(x:Rat)*t^i*0;grind
 |
  k+1,h1,h2=>by
  have ih:=Quu x b i o t k (by omega) (by omega);simp only [A9];rw [Qq5 _ _ _ _ (by rw [Ia]; omega),ih,Qlq b k t (by omega)];have hp:t^(i+k)=t^i*t^k:=Qvc t i k;rw [hp]
  push_cast
  grind
theorem Qut (a b o:List Int) (t:Rat):∀ i,i<=a.length->i+b.length<=o.length+1->Uw (Ny a b o i) t=Uw o t+Uw (a.take i) t*Uw b t
 |
  0,_,_=>by
  show Uw o t=Uw o t+0*Uw b t;grind
 |
  i+1,h1,h2=>by
  have ih:=Qut a b o t i (by omega) (by omega);simp only [Ny];rw [Quu _ _ _ _ _ b.length (Ql _) (by rw [Nz]; omega),ih,Qlq a i t (by omega),Qy];grind
theorem Fo (a b:List Int) (t:Rat):Uw (Fw a b) t=Uw a t*Uw b t:=by
 unfold Fw
 split
 ·rename_i h;rcases h with h | h
  ·rw [Qi h]; show (0:Rat)=0*_; grind
  ·rw [Qi h]; show (0:Rat)=_*0; grind
 ·rename_i h;rw [Ig,Qut a b _ t a.length (Ql _) (by rw [X1]; omega),Qoc,Qy];grind
theorem Hw (z d:Int):(z:Rat) / (d:Rat)=Rat.divInt z d:=by
 by_cases h:d=0
 ·subst h; simp; grind
 ·rw [Jq]; exact (Rat.divInt_eq_div z d ▸ by rw [Jq])
theorem Q26 (a:List Int) (n d:Int) (hd:(d:Rat)≠0):∀ k,k<=a.length->(((Mb a n d k).2:Int):Rat)=(d:Rat)^k/\(((Mb a n d k).1:Int):Rat)*d=(d:Rat)^k*Uw (a.drop (a.length-k)) ((n:Rat) / d)
 |
  0,_=>by
  refine ⟨by rw [Xc]; rfl,?_⟩;rw [Wm,Yo];show ((0:Int):Rat)*d=(d:Rat)^0*0
  push_cast; grind
 |
  k+1,hk=>by
  obtain ⟨h1,h2⟩:=Q26 a n d hd k (by omega);have hi:a.length-1-k<a.length:=by omega
  have e1:a.drop (a.length-(k+1))=a.getD (a.length-1-k) 0::a.drop (a.length-k):=by
   rw [show a.length-(k+1)=a.length-1-k by omega,Zi hi,show a.length-1-k+1=a.length-k by omega];congr 1;rw [Qg,Qe hi]; rfl
  refine ⟨?_,?_⟩
  ·show (((Mb a n d k).2*d:Int):Rat)=_;rw [Xj,h1,Z8]
  ·rw [e1];show (((Mb a n d k).1*n+a.getD (a.length-1-k) 0*(Mb a n d k).2:Int):Rat)*d=_*(((a.getD (a.length-1-k) 0:Int):Rat)+(n:Rat) / d*Uw (a.drop (a.length-k)) ((n:Rat) / d));rw [Ko,Xj,Xj,h1,Z8];have h3:(n:Rat) / d*d=n:=by rw [Zk hd]
   have h4:(d:Rat)^k*d*((n:Rat) / d*Uw (a.drop (a.length-k)) ((n:Rat) / d))=((n:Rat) / d*d)*((d:Rat)^k*Uw (a.drop (a.length-k)) ((n:Rat) / d)):=by grind
   have h5:(d:Rat)^k*d*(((a.getD (a.length-1-k) 0:Int):Rat)+(n:Rat) / d*Uw (a.drop (a.length-k)) ((n:Rat) / d))=(d:Rat)^k*d*((a.getD (a.length-1-k) 0:Int):Rat)+(d:Rat)^k*d*((n:Rat) / d*Uw (a.drop (a.length-k)) ((n:Rat) / d)):=by grind
   rw [h5,h4,h3,<-h2];grind
theorem Q19 {d:Rat} (h:0<d):∀ k:Nat,0<d^k
 | 0=>by rw [Xc]; decide
 | k+1=>by rw [Z8]; exact Jg (Q19 h k) h
theorem D9 {x y:Rat} (h:0<y):U4 (y*x)=U4 x:=by
 unfold U4;have h1:y*x<0↔x<0:=by
  constructor
  ·intro h2;rcases V4 (a:=0) (b:=x) with h3 | h3
   ·have:=V5 (Qq h) h3; grind
   ·rcases Rat.le_iff_lt_or_eq.1 h3 with h4 | h4
    ·exact h4
    ·rw [h4] at h2; grind
  ·intro h2;have:=Jg h (show 0 < -x by grind);grind
 have h2:0<y*x↔0<x:=by
  constructor
  ·intro h2;rcases V4 (a:=x) (b:=0) with h3 | h3
   ·have:=V5 (Qq h) (show 0<=-x by grind); grind
   ·rcases Rat.le_iff_lt_or_eq.1 h3 with h4 | h4
    ·exact h4
    ·rw [<-h4] at h2; grind
  ·intro h2; exact Jg h h2
 simp only [h1,h2]
theorem Q76 (z:Int):Nn z 0=U4 (z:Rat):=by
 unfold Nn U4;have h1:((z:Int):Rat)<0↔z<0:=by
  have := @Rat.intCast_lt_intCast z 0; simpa using this
 have h2:0<((z:Int):Rat)↔0<z:=by
  have := @Rat.intCast_lt_intCast 0 z; simpa using this
 simp only [h1,h2]
theorem Bf (p:List Int) (q:Rat):Gz p q=U4 (Uw p q):=by
 have hd0:(0:Rat)<((q.den:Int):Rat):=by
  have := @Rat.intCast_lt_intCast 0 (q.den:Int);rw [show ((0:Int):Rat)=0 from rfl] at this;exact this.2 (den_pos q)
 have hd:((q.den:Int):Rat)≠0:=by intro h; rw [h] at hd0; exact absurd hd0 (by decide)
 obtain ⟨_,h⟩:=Q26 p q.num q.den hd p.length (Ql _);rw [Jo,Xp,Hw,Z2] at h;unfold Gz;rw [Q76,<-D9 hd0,Uj];show U4 ((((Mb p q.num q.den p.length).1:Int):Rat)*_)=_;rw [h,D9 (Q19 hd0 _)]
def cz (p:List Int):List Rat:=p.map λz:Int=>(z:Rat)
theorem Ux (t:Rat):∀ p,ev (cz p) t=Uw p t
 | []=>rfl
 | a::p=>by have:=Ux t p; simp only [cz,Z0,ev,Uw] at *; rw [this]
theorem P5:∀ (p:List Int) (k:Nat),(cz p).getD k 0=((p.getD k 0:Int):Rat)
 | [],k=>by simp [cz]
 | a::p,0=>by simp [cz]
 | a::p,k+1=>by have:=P5 p k; simp only [cz,Z0,Q3] at *; exact this
theorem Da {p q:List Int} (h:∀ t,Uw p t=Uw q t) (k:Nat):p.getD k 0=q.getD k 0:=by
 have:=Cw (p:=cz p) (q:=cz q) (λt=>by rw [Ux,Ux,h]) k;rw [P5,P5] at this
 exact_mod_cast this
theorem Zgz {p q:List Int} (hp:Uz p) (hq:Uz q) (h:∀ k,p.getD k 0=q.getD k 0):p=q:=by
 have key:∀ {p q:List Int},Uz p->Uz q->(∀ k,p.getD k 0=q.getD k 0)->p.length<=q.length:=λ{p q} hp hq h=>by
  rcases Za q.length p.length with e | e
  ·have:=Ho hp (by omega);rw [h,Qg,Qt (by omega)] at this;exact absurd rfl this
  ·exact e
 exact Qko (Kn (key hp hq h) (key hq hp λk=>(h k).symm)) λj _=>h j
theorem Q16 {p q:List Int} (hp:Uz p) (hq:Uz q) (h:∀ t,Uw p t=Uw q t):p=q:=Zgz hp hq (Da h)
theorem Zfv {p:List Int} (hp:Uz p) (h:∀ t,Uw p t=0):p=[]:=Q16 hp rfl λt=>by rw [h]; rfl
theorem Cy {p:List Int} (h:p.length=0) (t:Rat):Uw p t=0:=by rw [Qi h]; rfl
theorem Q14:∀ (p r:List Int) (t:Rat),(∀ k,r.getD k 0=p.getD (k+1) 0*((k+1:Nat):Int))->Uw r t=dv (cz p) t
 |
  [],r,t,h=>by
  rw [Q15 (q:=[]) (λk=>by rw [h]; simp) t]; rfl
 |
  a::p,r,t,h=>by
  have ih:=Q14 p (Gj p) t λk=>Nf p k
  have e:Uw r t=Uw p t+t*Uw (Gj p) t:=by
   have:=Ba 1 1 t (max (max p.length (0::Gj p).length) r.length) p (0::Gj p) r (by omega) (by omega) (by omega) λk=>by
    rw [h,Q3];cases k with
    | zero=>simp
    | succ k=>rw [Q3,Nf]; push_cast; grind
   rw [this]; simp only [Uw]; push_cast; grind
  rw [e,ih];show _=ev (cz p) t+t*dv (cz p) t;rw [Ux]
theorem If (p:List Int) (t:Rat):Uw (Gj p) t=dv (cz p) t:=Q14 p _ t λk=>Nf p k
theorem Qhq {p:List Int} (hp:Uz p) (h:0<p.length):HD (cz p) (p.length-1):=by
 refine ⟨?_,λk hk=>?_⟩
 ·rw [P5];have:=Ho hp h;exact λe=>this (by exact_mod_cast e)
 ·rw [P5,Qg,Qt (by omega)]; rfl
theorem Qhi {p:List Int} (hp:Uz p) (h:0<p.length):¬∀ t,Uw p t=0:=λh0=>by
 rw [Zfv hp h0] at h; exact absurd h (by simp)
theorem P7 {a b c:List Int} (ha:Uz a) (hb:Uz b) (hc:Uz c) (h:∀ t,Uw c t=Uw a t*Uw b t) (la:0<a.length) (lb:0<b.length):c.length=a.length+b.length-1:=by
 have h1:=Qk4 (Qhq ha la) (Qhq hb lb);have h2:HD (cz c) (a.length-1+(b.length-1)):=Zh4 (λt=>by rw [U3,Ux,Ux,Ux,h]) h1;have lc:0<c.length:=by
  rcases Qz c.length with e | e
  ·exact absurd (λt=>by rw [Ux]; exact Cy e t) (Q08 h2)
  ·exact e
 have:=Zh5 (Qhq hc lc) h2;omega
theorem Qu1:∀ (n m:Nat),m<=n->2<=m->∃ P,2<=P/\P∣m/\∀ d,2<=d->d∣P->d=P
 | 0,m,h,h2=>by omega
 |
  n+1,m,h,h2=>by
  rcases Classical.em (∃ d,2<=d/\d<m/\d∣m) with ⟨d,d1,d2,d3⟩ | h0
  ·obtain ⟨P,p1,p2,p3⟩:=Qu1 n d (by omega) d1;exact ⟨P,p1,Nat.dvd_trans p2 d3,p3⟩
  ·refine ⟨m,h2,Nat.dvd_refl m,λd d1 d2=>?_⟩;rcases Vm (Kg (by omega) d2) with e | e
   ·exact absurd ⟨d,d1,e,d2⟩ h0
   ·exact e
theorem Qp9 {P:Nat} (h2:2<=P) (hP:∀ d,2<=d->d∣P->d=P) {x y:Int} (h:(P:Int)∣x*y):(P:Int)∣x\/(P:Int)∣y:=by
 have h:=Xo.2 h;rw [Jr,Z9] at h;have hg:=K0 P x.natAbs;rcases Za (Nat.gcd P x.natAbs) 2 with e | e
 ·right;have h1:Nat.gcd P x.natAbs=1:=by
   have:=Nat.gcd_pos_of_pos_left x.natAbs (show 0<P by omega); omega
  have:=Nat.Coprime.dvd_of_dvd_mul_left h1 h;exact Xo.1 (by rwa [Z9])
 ·left;have:=hP _ e hg;have h3:=Ua P x.natAbs;rw [this] at h3;exact Xo.1 (by rwa [Z9])
def Qv0 (P:Int) (l:List Int):Prop:=∀ k,P∣l.getD k 0
theorem Qfr {P:Nat} (h2:2<=P) (hP:∀ d,2<=d->d∣P->d=P):∀ (n:Nat) (b h c:List Int),b.length+h.length<=n->(∀ t,Uw c t=Uw b t*Uw h t)->Qv0 P c->Qv0 P b\/Qv0 P h
 | _,[],h,c,_,_,_=>.inl λk=>by simp
 | _,x::b,[],c,_,_,_=>.inr λk=>by simp
 | 0,x::b,y::h,c,hn,_,_=>by simp at hn
 |
  n+1,x::b,y::h,c,hn,hc,hd=>by
  simp only [Q7] at hn;by_cases hx:(P:Int)∣x
  ·-- x h is taken away
   have e:∀ t,Uw (0::Fw b (y::h)) t=Uw (Pw c (Ff (y::h) x)) t:=λt=>by
    rw [Bb,Rt,hc]; simp only [Uw]; rw [Fo]; simp only [Uw]; push_cast; grind
   have hd':Qv0 P (Fw b (y::h)):=λk=>by
    have:=Da e (k+1);rw [Q3,Im,Pu] at this;rw [this];exact Int.dvd_sub (hd (k+1)) (Vi hx (Y8 _ _))
   rcases Qfr h2 hP n b (y::h) _ (by simp only [Q7]; omega) (λt=>Fo _ _ t) hd' with h1 | h1
   ·refine .inl λk=>?_
    cases k with
    | zero=>rw [Zp]; exact hx
    | succ k=>rw [Q3]; exact h1 k
   ·exact .inr h1
  ·have h0:(P:Int)∣y:=by
    have e:c.getD 0 0=x*y:=by
     have:=Da (p:=c) (q:=Fw (x::b) (y::h)) (λt=>by rw [hc,Fo]) 0;have e2:=Da (p:=Fw (x::b) (y::h)) (q:=Ak (Ff (y::h) x) (0::Fw b (y::h))) (λt=>by
      rw [Quv,Rt,Fo]; simp only [Uw]; rw [Fo]; simp only [Uw]; push_cast; grind) 0
     rw [this,e2,Qoa,Pu,Zp,Zp,Wg]; omega
    have:=hd 0;rw [e] at this;rcases Qp9 h2 hP this with h1 | h1
    ·exact absurd h1 hx
    ·exact h1
   have e:∀ t,Uw (0::Fw (x::b) h) t=Uw (Pw c (Ff (x::b) y)) t:=λt=>by
    rw [Bb,Rt,hc]; simp only [Uw]; rw [Fo]; simp only [Uw]; push_cast; grind
   have hd':Qv0 P (Fw (x::b) h):=λk=>by
    have:=Da e (k+1);rw [Q3,Im,Pu] at this;rw [this];exact Int.dvd_sub (hd (k+1)) (Vi h0 (Y8 _ _))
   rcases Qfr h2 hP n (x::b) h _ (by simp only [Q7]; omega) (λt=>Fo _ _ t) hd' with h1 | h1
   ·exact absurd (by have:=h1 0; rwa [Zp] at this) hx
   ·refine .inr λk=>?_
    cases k with
    | zero=>rw [Zp]; exact h0
    | succ k=>rw [Q3]; exact h1 k
def Prm (b:List Int):Prop:=∀ d:Int,Qv0 d b->d∣1
theorem Q81 {a b:List Int} (hb:Prm b):∀ (n:Nat) (c:Int) (h:List Int),c.natAbs<=n->c≠0->(∀ t,(c:Rat)*Uw a t=Uw b t*Uw h t)->∃ h',∀ t,Uw a t=Uw b t*Uw h' t
 | 0,c,h,hn,h0,_=>absurd (by omega) h0
 |
  n+1,c,h,hn,h0,hc=>by
  rcases Za c.natAbs 2 with h1 | h1
  ·refine ⟨Ff h c,λt=>?_⟩;have hcc:(c:Rat)*c=1:=by
    have:c*c=1:=by
     rcases (show c=1\/c=-1 by omega) with rfl | rfl <;> rfl
    have:=congrArg (λz:Int=>(z:Rat)) this
    push_cast at this; exact this
   rw [Rt];have:=hc t;have:Uw a t=(c:Rat)*((c:Rat)*Uw a t):=by
    have:(c:Rat)*((c:Rat)*Uw a t)=((c:Rat)*c)*Uw a t:=by grind
    rw [this,hcc]; grind
   rw [this,hc]; grind
  ·obtain ⟨P,p1,p2,p3⟩:=Qu1 c.natAbs c.natAbs (Ql _) h1;obtain ⟨d,hd⟩:∃ d,c=(P:Int)*d:=Wy.2 p2;have hall:Qv0 P (Ff a c):=λk=>by
    rw [Pu,hd]; exact Vi (W7 _ _) (Y8 _ _)
   have hP0:(P:Rat)≠0:=by
    have:((0:Nat):Rat)<(P:Rat):=Vs.2 (by omega);grind
   rcases Qfr p1 p3 _ b h (Ff a c) (Ql _) (λt=>by rw [Rt,Uj,hc]) hall with e | e
   ·have:=hb P e;have:=Xo.2 this;rw [Z9] at this;have:=Kg (by decide) this;exact absurd this (by show ¬P<=1; omega)
   ·refine Q81 hb n d (h.map (· / (P:Int))) ?_ (λe0=>h0 (by rw [hd,e0,Kr])) λt=>?_
    ·rw [hd,Jr,Z9] at hn h1;have:2*d.natAbs<=P*d.natAbs:=Q0 _ p1;omega
    ·have e1:Uw h t=(P:Rat)*Uw (h.map (· / (P:Int))) t:=by
      have:=Ba P 0 t (max h.length (h.map (· / (P:Int))).length) (h.map (· / (P:Int))) [] h (by omega) (by simp) (by omega) λk=>by
       have:=e k;have e2:(h.map (· / (P:Int))).getD k 0=h.getD k 0 / (P:Int):=by
        rw [Qg,Qg,Q9];cases h[k]? <;> simp
       rw [e2,Wh this]; simp
      rw [this]; simp only [Uw]; push_cast; grind
     have:=hc t;rw [hd,e1] at this
     push_cast at this
     have h3:(P:Rat)*((d:Rat)*Uw a t)=(P:Rat)*(Uw b t*Uw (h.map (· / (P:Int))) t):=by grind
     have h4:=Yw.1 (show (P:Rat)*((d:Rat)*Uw a t-Uw b t*Uw (h.map (· / (P:Int))) t)=0 by grind);rcases h4 with h4 | h4
     ·exact absurd h4 hP0
     ·grind
theorem Qm6:∀ u:List Rat,∃ c:Int,c≠0/\∃ h:List Int,∀ t,(c:Rat)*ev u t=Uw h t
 | []=>⟨1,by decide,[],λt=>by simp only [ev,Uw]; grind⟩
 |
  a::u=>by
  obtain ⟨c,hc,h,hh⟩:=Qm6 u;refine ⟨c*(a.den:Int),Jh hc (by have:=a.den_nz; omega),(c*a.num)::Ff h (a.den:Int),λt=>?_⟩;have e:(a.den:Rat)*a=a.num:=by
   rw [Uj];have:(a.num:Rat) / (((a.den:Int)):Rat)=a:=by rw [Hw,Z2]
   have hd:(a.den:Rat)≠0:=by
    have:((0:Nat):Rat)<(a.den:Rat):=Vs.2 a.den_pos;grind
   have h2:(a.num:Rat) / (a.den:Rat)*(a.den:Rat)=a.num:=Zk hd;rw [show (a.num:Rat) / (a.den:Rat)=a from this] at h2; exact h2
  simp only [ev,Uw];rw [Rt,<-hh]
  push_cast
  rw [<-e];have e3:(((a.den:Int)):Rat)=(a.den:Rat):=rfl;grind
theorem Q80 {a b:List Int} (hb:Prm b) (h:O3 (cz b) (cz a)):∃ h',Uz h'/\∀ t,Uw a t=Uw b t*Uw h' t:=by
 obtain ⟨u,hu⟩:=h;obtain ⟨c,hc,h,hh⟩:=Qm6 u;obtain ⟨h',e⟩:=Q81 hb c.natAbs c h (Ql _) hc λt=>by
  have:=hu t;rw [Ux,Ux] at this;rw [this,<-hh]; grind
 exact ⟨trim h',Ra _,λt=>by rw [Ig,e]⟩
def sd (x0:Rat):List Rat->List Rat
 | []=>[]
 | _::p=>Tu p (C0 x0 (sd x0 p))
theorem Q8r (x0 x:Rat):∀ p,ev (sd x0 p) x=dq p x x0
 | []=>rfl
 | a::p=>by simp only [sd,dq]; rw [Gg,Fy,Q8r x0 x p]
theorem Qyt (x0:Rat):∀ (g:List Rat) (n:Nat),(∀ j,n<j->g.getD j 0=0)->∀ j,n<=j->(sd x0 g).getD j 0=0
 | [],n,_,j,_=>by simp [sd]
 |
  a::p,0,h,j,_=>by
  have hp:∀ j,p.getD j 0=0:=λj=>by have:=h (j+1) (by omega); rwa [Q3] at this
  simp only [sd];rw [H7,Tr,hp,Qyt x0 p 0 (λj _=>hp j) j (Qh _)]; grind
 |
  a::p,n+1,h,j,hj=>by
  have hp:∀ j,n<j->p.getD j 0=0:=λj hj=>by have:=h (j+1) (by omega); rwa [Q3] at this
  simp only [sd];rw [H7,Tr,hp j (by omega),Qyt x0 p n hp j (by omega)]; grind
theorem Qxn {K:Rat} (hK:0≤K):∀ (e:Nat) (g:List Rat) (pts:List Int) (M:Rat),pts.length=e+1->pts.Nodup->(∀ x∈pts,U5 (x:Rat)≤K)->(∀ k,e<k->g.getD k 0=0)->(∀ x∈pts,U5 (ev g (x:Rat))≤M)->∀ k,U5 (g.getD k 0)≤(2*K+3)^e*M
 | _,_,[],_,h,_,_,_,_=>by simp at h
 |
  0,g,x0::xs,M,_,_,_,hg,hM=>λk=>by
  have h0:=hM x0 (by simp);rw [Xc];cases k with
  |
   zero =>
   have e:ev g (x0:Rat)=g.getD 0 0:=by
    cases g with
    | nil=>rfl
    |
     cons a p =>
     have hp:=C7 (p:=p) λj=>by have:=hg (j+1) (by omega); rwa [Q3] at this
     simp only [ev,hp,Zp]; grind
   rw [<-e]; grind
  |
   succ k =>
   rw [hg (k+1) (by omega),H5];have:=Hk (ev g (x0:Rat)); grind
 |
  e+1,g,x0::xs,M,hl,hn,hb,hg,hM=>λk=>by
  have hx0:=hb x0 (by simp);have hM0:=hM x0 (by simp);have hMn:0<=M:=Ze (Hk _) hM0;rw [List.nodup_cons] at hn;have ih:=Qxn hK e (sd x0 g) xs (2*M) (by simpa using hl) hn.2 (λx hx=>hb x (by simp [hx])) (λj hj=>Qyt _ g (e+1) hg j (by omega)) λx hx=>by
   have h1:=hM x (by simp [hx]);have h2:=Qnf (x:Rat) (x0:Rat) g;rw [<-Q8r] at h2;have hne:x-x0≠0:=λh=>hn.1 (by rw [show x0=x by omega]; exact hx)
   have h3:=Qdd hne;rw [Rat.intCast_sub] at h3;have h4:U5 (ev g (x:Rat)-ev g (x0:Rat))<=2*M:=by
    have:=Tt (ev g (x:Rat)) (-ev g (x0:Rat));rw [D8,show ev g (x:Rat)+-ev g (x0:Rat)=ev g (x:Rat)-ev g (x0:Rat) by grind] at this;clear hM hb hg; grind
   rw [h2,E7] at h4;have h5:=Q8 h3 (Hk (ev (sd x0 g) x));clear hM hb hg; grind
  have e1:∀ t,ev g t=ev (Tu [ev g x0] (Tu (C0 (-x0) (sd x0 g)) (0::sd x0 g))) t:=λt=>by
   have:=Qnf t (x0:Rat) g;rw [<-Q8r] at this;simp only [Gg,Fy,ev];grind
  have hp1:1<=(2*K+3)^e:=(Qb4 (R:=2*K+3) (x:=0) (by grind) (by rw [H5]; grind) e).2;have hpM:=M3 (x:=(2*K+3)^e) (y:=M) (by grind) hMn;have hpM1:=Q8 hp1 hMn;rw [Z8,Cw e1 k,H7,H7,Tr];have a1:=ih k;have a2:U5 (-(x0:Rat)*(sd (x0:Rat) g).getD k 0)<=K*((2*K+3)^e*(2*M)):=Gp (by rw [D8]; exact hx0) a1;have fin:∀ u v w:Rat,U5 u<=M->U5 v<=K*((2*K+3)^e*(2*M))->U5 w<=(2*K+3)^e*(2*M)->U5 (u+(v+w))<=(2*K+3)^e*(2*K+3)*M:=λu v w h1 h2 h3=>by
   have b1:=Tt u (v+w);have b2:=Tt v w;clear ih e1 hM hb hg a1 a2; grind
  refine fin _ _ _ ?_ a2 ?_
  ·cases k with
   | zero=>rw [Zp]; exact hM0
   | succ k=>rw [Q3,Kz,H5]; exact hMn
  ·cases k with
   | zero=>rw [Zp,H5]; clear ih e1 hM hb hg a1 a2 fin; grind
   | succ k=>rw [Q3]; exact ih k
theorem Zbc {g:List Rat} {e:Nat} (hg:∀ k,e<k->g.getD k 0=0) (hz:¬∀ t,ev g t=0) {pts:List Int} (hn:pts.Nodup) (hr:∀ x∈pts,ev g (x:Rat)=0):pts.length≤e:=by
 rcases Za e pts.length with h | h
 ·exfalso;obtain ⟨K,hK,hb⟩:∃ K:Rat,0≤K/\∀ x∈pts,U5 (x:Rat)≤K:=by
   clear hn hr h
   induction pts with
   | nil=>exact ⟨0,by decide,λx hx=>by cases hx⟩
   |
    cons y pts ih =>
    obtain ⟨K,h1,h2⟩:=ih;refine ⟨K+U5 (y:Rat),by have:=Hk (y:Rat); grind,λx hx=>?_⟩;have hy:=Hk (y:Rat);rcases Qo.1 hx with rfl | hx
    ·grind
    ·have:=h2 x hx; grind
  refine hz (C7 λk=>?_);have:=Qxn hK e g (pts.take (e+1)) 0 (by rw [Qr]; omega) (hn.sublist (W9 ..)) (λx hx=>hb x (Qm hx)) hg (λx hx=>by rw [hr x (Qm hx),H5]; exact Qp) k;have h2:=Hk (g.getD k 0);exact Zf6 (by grind)
 ·exact h
def spots:List Int:=(List.range 19).map λi:Nat=>(i:Int)-9
theorem spots_nd:spots.Nodup:=by decide
theorem Qvg:∀ x∈spots,x.natAbs≤9:=by decide
theorem Qkr {α:Type} (p:α->Bool):∀ l:List α,(l.filter p).length+(l.filter λx => !p x).length=l.length
 | []=>rfl
 |
  x::l=>by
  have:=Qkr p l;cases h:p x <;> simp [h] <;> omega
def geo:Nat->Nat
 | 0=>0
 | n+1=>1+9*geo n
theorem Q00 {B:Rat}:∀ (p:List Int),(∀ z∈p,U5 (z:Rat)≤B)->evB 9 (cz p)≤B*(geo p.length:Nat)
 | [],_=>by simp only [cz,Jf,evB,geo,Vk]; rw [show ((0:Nat):Rat)=0 from rfl]; grind
 |
  a::p,h=>by
  have h1:=Q00 p λz hz=>h z (Qj _ hz)
  have h2:=h a (Qx ..);simp only [cz,Z0,evB,geo,Q7] at *
  push_cast
  clear h; grind
theorem Q89 {m n:Nat} (h:m<=n):geo m<=geo n:=by
 induction h with
 | refl=>exact Ql _
 | step h ih=>simp only [geo]; omega
def pz:List Int->Int->Int
 | [],_=>0
 | a::p,x=>a+x*pz p x
theorem Qde (x:Int):∀ p,Uw p (x:Rat)=((pz p x:Int):Rat)
 | []=>rfl
 | a::p=>by simp only [Uw,pz,Qde x p]; push_cast; rfl
theorem Tw (z:Int):U5 (z:Rat)=((z.natAbs:Nat):Rat):=by
 unfold U5;rcases We z 0 with h | h
 ·have h1:(z:Rat)<((0:Int):Rat):=X9.2 h;rw [if_pos (by simpa using h1)];have:(z.natAbs:Int)=-z:=by omega
  have:=congrArg (λu:Int=>(u:Rat)) this
  push_cast at this
  exact this.symm
 ·have h1:((0:Int):Rat)<=(z:Rat):=Xz.2 h;have h1:(0:Rat)<=(z:Rat):=by simpa using h1
  rw [if_neg (by grind)];have:(z.natAbs:Int)=z:=by omega
  have:=congrArg (λu:Int=>(u:Rat)) this;exact this.symm
theorem Qam {p g h:List Int} {s:Nat} (hp:Bd s p) (hl:p.length<=10) (tp:Uz p) (tg:Uz g) (th:Uz h) (h0:p.length≠0) (e:∀ t,Uw p t=Uw g t*Uw h t):Bd (s+69) g:=by
 have lg:0<g.length:=by
  rcases Qz g.length with e' | e'
  ·exact absurd (λt=>by rw [e,Cy e']; grind) (Qhi tp (by omega))
  ·exact e'
 have lh:0<h.length:=by
  rcases Qz h.length with e' | e'
  ·exact absurd (λt=>by rw [e,Cy e']; grind) (Qhi tp (by omega))
  ·exact e'
 have hlen:=P7 tg th tp e lg lh;obtain ⟨q,hq⟩:=nmE (spots.filter λx => !decide (pz p x=0));have hr:(spots.filter λx=>decide (pz p x=0)).length<=9:=by
  refine Zbc (g:=cz p) (e:=9) (λk hk=>?_) (λh=>Qhi tp (by omega) λt=>by rw [<-Ux]; exact h t) (spots_nd.sublist List.filter_sublist) λx hx=>?_
  ·rw [P5,Qg,Qt (by omega)]; rfl
  ·have:=(Kl.1 hx).2;rw [Ux,Qde,of_decide_eq_true this]; rfl
 have hc:=Qkr (λx=>decide (pz p x=0)) spots;rw [<-hq] at hc;have hsl:spots.length=19:=by decide
 have hB:∀ z∈p,U5 (z:Rat)≤((2^s:Nat):Rat):=λz hz=>by
  rw [Tw];have:=hp z hz;rw [Tz] at this;exact Zg.2 (Yh this)
 have key:=Qxn (K:=9) (by decide) 9 (cz g) (q.take 10) (((2^s*435848050:Nat)):Rat) (by rw [Qr]; omega) ((spots_nd.sublist (by rw [hq]; exact List.filter_sublist)).sublist (W9 ..)) (λx hx=>by
  have hx:=Qm hx;rw [hq] at hx;have:=Qvg x (Kl.1 hx).1;rw [Tw]
  exact_mod_cast Zg.2 this) (λk hk=>by rw [P5,Qg,Qt (by omega)]; rfl) (λx hx=>by
  have hx:=Qm hx;rw [hq] at hx;obtain ⟨hx1,hx2⟩:=Kl.1 hx;have hne:pz p x≠0:=by simpa using hx2
  have e1:=e (x:Rat);rw [Qde,Qde,Qde] at e1;have e2:pz p x=pz g x*pz h x:=by exact_mod_cast e1
  have hh:1<=(pz h x).natAbs:=by
   rcases Qz (pz h x).natAbs with e' | e'
   ·exact absurd (by rw [e2,Int.natAbs_eq_zero.1 e',Kr]) hne
   ·exact e'
  have h3:(pz g x).natAbs<=(pz p x).natAbs:=by
   rw [e2,Jr];exact Jy _ hh
  rw [Ux,Qde,Tw];refine Ze (Zg.2 h3) ?_;rw [<-Tw,<-Qde,<-Ux];refine Ze (Qhk (R:=9) (by
   have:=Qvg x hx1;rw [Tw]
   exact_mod_cast Zg.2 this) _) ?_
  refine Ze (Q00 p hB) ?_;have:2^s*geo p.length<=2^s*435848050:=Zq _ (Qc (Q89 hl) (by decide));have:=Zg.2 this
  push_cast at this ⊢
  exact this)
 refine Qjm λk=>?_
 have h1:=key k;rw [P5,Tw] at h1;have e3:(2*(9:Rat)+3)^9*((2^s*435848050:Nat):Rat)=(((794280046581*(2^s*435848050)):Nat):Rat):=by
  rw [show (2*(9:Rat)+3)^9=794280046581 by grind]
  push_cast; rfl
 rw [e3] at h1;have h2:=Zg.1 h1;rw [Tz];refine Zv h2 ?_;have:794280046581*(2^s*435848050)=2^s*(794280046581*435848050):=by
  rw [Kv]
 rw [this,Xb];exact Nat.mul_lt_mul_of_pos_left (by decide) (Z1 (by decide))
theorem Qti {l:List Int} {d:Int} (h:∀ z∈l,d∣z):d∣((Hd l:Nat):Int):=by
 have key:∀ (l:List Int) (g:Nat),d.natAbs∣g->(∀ z∈l,d∣z)->d.natAbs∣l.foldl (λg z=>Nat.gcd g z.natAbs) g:=by
  intro l
  induction l with
  | nil=>exact λg h _=>h
  | cons z l ih=>exact λg hg h=>ih _ (Nat.dvd_gcd hg (Xo.2 (h z (Qx ..)))) λu hu=>h u (Qj _ hu)
 have:=key l 0 (Nat.dvd_zero _) h;exact Xo.1 (by rw [Z9]; exact this)
theorem Qeb (p:List Int) (c:Int) (k:Nat):(p.map (· / c)).getD k 0=p.getD k 0 / c:=by
 rw [Qg,Qg,Q9];cases p[k]? <;> simp
theorem Qdf (p:List Int) (c:Int) (k:Nat):(Bz p c).getD k 0=p.getD k 0 / c:=by
 unfold Bz; rw [Ln,Qeb]
theorem Qob {p:List Int} {c:Int} (h:∀ z∈p,c∣z) (t:Rat):Uw p t=(c:Rat)*Uw (Bz p c) t:=by
 have:=Ba c 0 t (max p.length (Bz p c).length) (Bz p c) [] p (by omega) (by simp) (by omega) λk=>by
  rw [Qdf];have hd:c∣p.getD k 0:=by
   rw [Qg];cases e:p[k]? with
   | none=>exact Int.dvd_zero _
   | some z=>exact h z (Qa e)
  rw [Wh hd]; simp
 rw [this]; simp only [Uw]; push_cast; grind
theorem Qaq {c:Int} (h:c≠0):(c:Rat)≠0:=λe=>h (by exact_mod_cast e)
theorem Og {p q:List Int} {c:Rat} (tp:Uz p) (tq:Uz q) (hc:c≠0) (h:∀ t,Uw p t=c*Uw q t):p.length=q.length:=by
 have key:∀ {p q:List Int} {c:Rat},Uz p->Uz q->c≠0->(∀ t,Uw p t=c*Uw q t)->p.length<=q.length:=λ{p q c} tp tq hc h=>by
  rcases Za q.length p.length with e | e
  ·have h1:=Ho tp (by omega);have:=Cw (p:=cz p) (q:=C0 c (cz q)) (λt=>by rw [Ux,Fy,Ux,h]) (p.length-1);rw [P5,Tr,P5,Qg (l:=q),Qt (by omega)] at this;have:((p.getD (p.length-1) 0:Int):Rat)=0:=by rw [this]; simp
   exact absurd (by exact_mod_cast this) h1
  ·exact e
 refine Kn (key tp tq hc h) (key (c:=1 / c) tq tp (λe=>?_) λt=>?_)
 ·have:=Zk (a:=1) hc; rw [e] at this; grind
 ·rw [h]; have:=Zk (a:=1) hc; grind
theorem Be {p:List Int} (tp:Uz p) (h:p.length≠0):Uz (U7 p)/\(U7 p).length=p.length/\Prm (U7 p)/\0<U9 (U7 p)/\(∀ s,Bd s p->Bd s (U7 p))/\G7 p≠0/\∀ t,Uw p t=(G7 p:Rat)*Uw (U7 p) t:=by
 have h0:=Q17 tp h;have e:U7 p=Bz p (G7 p):=by unfold U7; rw [if_neg h]
 have h1:=Qob (p:=p) (c:=G7 p) Qev;have hl:=Og tp (Om p (G7 p)) (Qaq h0) h1;have hcp:0<So p:=by
  have:=Qa3 tp h;unfold So at this ⊢; omega
 rw [e];refine ⟨Om _ _,hl.symm,λd hd=>?_,?_,λs hs=>Qjn hs _,h0,h1⟩
 ·have h2:∀ z∈p,d*G7 p∣z:=λz hz=>by
   obtain ⟨i,hi⟩:=Zd.1 hz;have h3:=hd i;rw [Qdf,Qg,hi] at h3;obtain ⟨k,hk⟩:=h3;have h4:=Qev z hz;refine ⟨k,?_⟩;have:z / G7 p*G7 p=z:=Wn h4;rw [<-this];rw [show z / G7 p=d*k from hk,Int.mul_right_comm]
  have h3:=Qti h2;have h4:G7 p∣((Hd p:Nat):Int)/\((Hd p:Nat):Int)∣G7 p:=by
   unfold G7 So; split
   ·exact ⟨Up.2 (Wb _),Int.dvd_neg.2 (Wb _)⟩
   ·exact ⟨Wb _,Wb _⟩
  obtain ⟨k,hk⟩:=Vi h3 h4.2;refine ⟨k,?_⟩;have:G7 p*(d*k)=G7 p*1:=by rw [Ww,<-Int.mul_assoc,Wg (G7 p) d,<-hk]
  exact (Int.eq_of_mul_eq_mul_left h0 this).symm
 ·have h2:U9 (Bz p (G7 p))=U9 p / G7 p:=by unfold U9; rw [<-hl,Qdf]
  have h3:G7 p∣U9 p:=Qev _ (Qld h);have h5:U9 p / G7 p*G7 p=U9 p:=Wn h3;rw [h2];have h6:=D5 tp h;rcases Jz (U9 p / G7 p) 0 with e1 | e1 | e1
  ·exfalso;by_cases hn:U9 p<0
   ·have:G7 p=-So p:=by unfold G7; rw [if_pos hn]
    have:0<U9 p / G7 p*G7 p:=Kk e1 (by omega);omega
   ·have:G7 p=So p:=by unfold G7; rw [if_neg hn]
    have:U9 p / G7 p*G7 p<0:=Int.mul_neg_of_neg_of_pos e1 (by omega);omega
  ·rw [e1] at h5; omega
  ·exact e1
theorem Zal {r:List Int} (tr:Uz r):∃ c:Rat,0<c/\∀ t,Uw r t=c*Uw (Qcp r) t:=by
 unfold Qcp;by_cases h:r.length=0
 ·rw [if_pos h]; exact ⟨1,by decide,λt=>by rw [Cy h,Cy rfl]; grind⟩
 ·rw [if_neg h];have h1:0<So r:=by
   have:=Qa3 tr h;unfold So at this ⊢; omega
  have h2:((0:Int):Rat)<(So r:Rat):=X9.2 h1;exact ⟨So r,by simpa using h2,Qob Lh⟩
theorem Qa4 (x:Int) (t:Rat):∀ i,Uw (mono i x) t=(x:Rat)*t^i
 | 0=>by simp only [mono,Wq,Yv,Uw,Xc]; grind
 |
  i+1=>by
  have ih:=Qa4 x t i;simp only [mono,J5,Xd,Uw] at *;rw [ih,Z8]; push_cast; grind
theorem Q1q (x:Int) (b:List Int) (i k:Nat):(Fw (trim (mono i x)) b).getD k 0=if i<=k then x*b.getD (k-i) 0 else 0:=by
 have e:∀ t,Uw (Fw (trim (mono i x)) b) t=Uw (List.replicate i 0++b.map (x * ·)) t:=λt=>by
  rw [Fo,Ig,Qa4];have h2:∀ i,Uw (List.replicate i 0++b.map (x * ·)) t=t^i*((x:Rat)*Uw b t):=λi=>by
   induction i with
   |
    zero =>
    simp only [Wq,Yv,Xc];have:=Ba x 0 t (max b.length (b.map (x * ·)).length) b [] (b.map (x * ·)) (by omega) (by simp) (by omega) λk=>by
     rw [Qg,Qg,Q9];cases b[k]? <;> simp
    rw [this]; simp only [Uw]; push_cast; grind
   | succ i ih=>simp only [J5,Xd,Uw,ih,Z8]; push_cast; grind
  rw [h2]; grind
 rw [Da e k,Qg,List.getElem?_append,X1];by_cases h:i<=k
 ·rw [if_neg (by omega),if_pos h,Q9,Qg];cases b[k-i]? <;> simp
 ·rw [if_pos (by omega),if_neg h,Jw,if_pos (by omega)]; rfl
theorem Q9p {p:List Int} {n:Nat} (tp:Uz p) (h:p.length<=n+1) (h0:p.getD n 0=0):p.length<=n:=by
 rcases Za n p.length with e | e
 ·have:=Ho tp (by omega);rw [show p.length-1=n by omega] at this;exact absurd h0 this
 ·exact e
theorem Zgv {b r:List Int} {i:Nat} (tr:Uz r) (h:r.length<=b.length+i) (hb:b.length≠0) {x:Int} (hx:x=if r.length=b.length+i then U9 r else 0):(str b (U9 b) i x r).length<b.length+i:=by
 have hl:=Qqn (c:=U9 b) (x:=x) (i:=i) (b:=b) (r:=r);have:=Q9p (p:=str b (U9 b) i x r) (n:=b.length+i-1) (Ft _ _) (by omega) (by
  unfold str;rw [Im,Pu,Q1q,if_pos (by omega),hx,show b.length+i-1-i=b.length-1 by omega]
  split
  ·rename_i he;unfold U9;rw [he,Int.sub_eq_zero]
  ·rw [Qg (l:=r),Qt (by omega)]; simp)
 omega
theorem Zk2 (b r:List Int) (c:Int) (i:Nat) (x:Int) (t:Rat):(c:Rat)*Uw r t=(x:Rat)*t^i*Uw b t+Uw (str b c i x r) t:=by
 unfold str;rw [Bb,Rt,Fo,Ig,Qa4]; grind
theorem Zar (b:List Int) (c:Int):∀ (i:Nat) (q r:List Int),∃ X:List Rat,∀ t,((c^i:Int):Rat)*Uw r t=ev X t*Uw b t+Uw (psd b c i (q,r)).2 t
 | 0,q,r=>⟨[],λt=>by simp only [psd,ev]; rw [Int.pow_zero]; push_cast; grind⟩
 |
  i+1,q,r=>by
  obtain ⟨x,hx⟩:=nmE (if r.length=b.length+i then U9 r else 0);obtain ⟨X,hX⟩:=Zar b c i (stq c i x q) (str b c i x r);obtain ⟨m,hm⟩:∃ m:List Rat,∀ t,ev m t=(x:Rat)*t^i:=⟨cz (mono i x),λt=>by rw [Ux,Qa4]⟩;refine ⟨Tu (C0 ((c^i:Int):Rat) m) X,λt=>?_⟩;rw [Qa7 hx,Gg,Fy,hm];have h1:=hX t;have h2:=Zk2 b r c i x t;rw [Int.pow_succ]
  push_cast at h1 ⊢
  have:(c:Rat)^i*c*Uw r t=(c:Rat)^i*((c:Rat)*Uw r t):=by grind
  rw [this,h2]; grind
theorem Q2b {b:List Int} (hb:b.length≠0):∀ (i:Nat) (q r:List Int),Uz r->r.length<b.length+i->Uz (psd b (U9 b) i (q,r)).2/\(psd b (U9 b) i (q,r)).2.length<b.length
 | 0,q,r,tr,h=>⟨tr,h⟩
 |
  i+1,q,r,tr,h=>by
  rw [Qa7 rfl];exact Q2b hb i _ _ (Ft _ _) (Zgv tr (by omega) hb rfl)
theorem Zaq {b:List Int} {c:Int} {t:Nat} (hb:Bd t b) (hc:U6 c<=t):∀ (i u:Nat) (q r:List Int),i<=64->Bd u r->Bd (u+i*(t+8)) (psd b c i (q,r)).2
 | 0,u,q,r,_,h=>by simpa [psd] using h
 |
  i+1,u,q,r,hi,h=>by
  rw [Qa7 rfl];have hx:U6 (if r.length=b.length+i then U9 r else 0)<=u:=by
   split
   ·exact Mj h
   ·rw [Mk]; exact Qh _
  have:=Zaq hb hc i (u+t+8) (stq c i (if r.length=b.length+i then U9 r else 0) q) (str b c i (if r.length=b.length+i then U9 r else 0) r) (by omega) (Qv8 h hb hc hx (by omega));exact Us this (by rw [Z7]; omega)
theorem Qlw {c:Int} (h:c<0):∀ k:Nat,(k % 2=1->c^k<0)/\(k % 2=0->0<c^k)
 | 0=>⟨λh=>by omega,λ_=>by rw [Int.pow_zero]; decide⟩
 |
  k+1=>by
  obtain ⟨i1,i2⟩:=Qlw h k;rw [Int.pow_succ];exact ⟨λhk=>Kj (i2 (by omega)) h,λhk=>Kk (i1 (by omega)) h⟩
theorem Qi9 {a b:List Int} (ta:Uz a) (tb:Uz b) (hb:b.length≠0) (hl:a.length<=60):Uz (Ro a b)/\(Ro a b).length<b.length/\(∀ s,Bd s a->Bd s b->Bd (s+(a.length+1-b.length)*(s+8)) (Ro a b)) /\
 ∃ u v:Rat,0<u/\0<v/\∃ X:List Rat,∀ t,u*Uw a t=ev X t*Uw b t+v*Uw (Ro a b) t:=by
 obtain ⟨k,hk⟩:=nmE (a.length+1-b.length);have h1:Uz (Pi a b)/\(Pi a b).length<b.length:=Q2b hb _ _ _ ta (by omega);obtain ⟨X,hX⟩:=Zar b (U9 b) k [] a;have hX:∀ t,(((U9 b)^k:Int):Rat)*Uw a t=ev X t*Uw b t+Uw (Pi a b) t:=by unfold Pi; rw [<-hk]; exact hX
 have h2:=Qez (a:=a) (b:=b) (r:=Pi a b) (n:=(Pi a b).length) (s:=(Pi a b).foldl (λm z=>m+U6 z) 0) h1.1 (Ql _) (λz hz=>by
  have key:∀ (l:List Int) (m:Nat),m≤l.foldl (λm z=>m+U6 z) m/\∀ z∈l,U6 z≤l.foldl (λm z=>m+U6 z) m:=by
   intro l
   induction l with
   | nil=>exact λm=>⟨Ql _,λz hz=>by cases hz⟩
   |
    cons y l ih =>
    intro m;obtain ⟨i1,i2⟩:=ih (m+U6 y);refine ⟨by simp only [Z5]; omega,λz hz=>?_⟩;simp only [Z5];rcases Qo.1 hz with rfl | hz
    ·omega
    ·exact i2 z hz
  exact (key _ 0).2 z hz)
 have h3:=Qlt (r:=Nh a b (Pi a b)) (n:=(Pi a b).length) h2.2.1 h2.2.2;refine ⟨h3.1,by unfold Ro; omega,λs ha hbs=>?_,?_⟩
 ·have h4:=Zaq (c:=U9 b) hbs (Mj hbs) k s [] a (by omega) ha;have h5:=Qez (a:=a) (b:=b) (n:=(Pi a b).length) h1.1 (Nat.le_refl _) (show Bd (s+k*(s+8)) (Pi a b) by unfold Pi; rw [<-hk]; exact h4);rw [<-hk];exact (Qlt h5.2.1 h5.2.2).2.2
 ·obtain ⟨v,vp,hv⟩:=Zal h2.1;have hc:=D5 tb hb;by_cases ht:k % 2=1/\U9 b<0
  ·have e1:Nh a b (Pi a b)=Pd (Pi a b):=by unfold Nh; rw [<-hk,if_pos ht]
   have hneg:(U9 b)^k<0:=(Qlw ht.2 k).1 ht.1;have h5:(((U9 b)^k:Int):Rat)<((0:Int):Rat):=X9.2 hneg;have h5:(((U9 b)^k:Int):Rat)<0:=by simpa using h5
   refine ⟨-(((U9 b)^k:Int):Rat),v,by grind,vp,C0 (-1) X,λt=>?_⟩;have h6:=hX t;have h7:=hv t;rw [e1,Qeu] at h7;show _=_+v*Uw (Qcp (Nh a b (Pi a b))) t;rw [e1,<-h7,Fy]; grind
  ·have e1:Nh a b (Pi a b)=Pi a b:=by unfold Nh; rw [<-hk,if_neg ht]
   have hpos:0<(U9 b)^k:=by
    rcases Kq hc with h | h
    ·exact (Qlw h k).2 (by omega)
    ·exact Int.pow_pos h
   have h5:((0:Int):Rat)<(((U9 b)^k:Int):Rat):=X9.2 hpos;refine ⟨(((U9 b)^k:Int):Rat),v,by simpa using h5,vp,X,λt=>?_⟩;have h7:=hv t;show _=_+v*Uw (Qcp (Nh a b (Pi a b))) t;rw [<-h7,e1,hX]
end Orq
