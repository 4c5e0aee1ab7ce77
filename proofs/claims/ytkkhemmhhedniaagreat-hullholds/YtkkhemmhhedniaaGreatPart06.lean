/- F5 T1 T2 T3 T4 T5 T6 T7 T8 T9 T10 T11 T12 T13 T14 T15 T16 T17 -/
import Derived.Test.YtkkhemmhhedniaaGreatPart05
import Derived.Test.YtkkhemmhhedniaaGreatPart00
set_option linter.all false
namespace Orr
open Go Go.Proofs
set_option maxRecDepth 10000
theorem Zgl {a b:Rat} (ha:Qb a) (hb:Qb b):Fa Tryz.prog 98 [.agg (rl a),.one (.row [rl b])] [.agg (rl (if 0<Gv b a then b else a))]:=by
 have ca:=Qjo (Fb a.num) (Fb (a.den:Int)) ha.s32.1 ha.s32.2;have cb:=Qjo (Fb b.num) (Fb (b.den:Int)) hb.s32.1 hb.s32.2;rw [Qam] at ca cb;have cc:=Ew hb.s31 ha.s31;refine Hl Tryz.func98 rfl ?_;refine go tt [.c [] ca] rfl trivial ?_;refine lp (S:=Nat) 3 (λL1 i=>(12,.v (.one (.int .i64 (i:Int))))::L1) (λi=>[.blk 72 (rl a),.blk 72 [.bool false,.nils,.bool false,.nils],.blk 72 (rl (if i=0 then a else if 0<Gv b a then b else a))]) (λi=>1-i) (λi=>i<=1) 0 (Qi _) rfl (λ_ _=>rfl) rfl λi hi=>?_
 rcases (show i=0\/i=1 by omega) with rfl | rfl
 ·by_cases h:0<Gv b a
  ·refine go tt [.t rfl,.x (i:=0) (xs:=rl b) rfl,.c [] cc,.t (by simpa using h),.c [] cb] rfl (by simp [U9]) ?_;exact rd 1 (by omega) (by omega) (by rw [if_pos h]; rfl)
  ·refine go tt [.t rfl,.x (i:=0) (xs:=rl b) rfl,.c [] cc,.f (by simpa using h)] rfl (by simp [U9]) ?_;exact rd 1 (by omega) (by omega) (by rw [if_neg h]; rfl)
 ·exact en tt [.f rfl] rfl rfl trivial
theorem Qkq {a b:Tm} {c:Int} (ha:Tb a) (hb:Tb b) (h:Qja a b=some c):Fa Tryz.prog 92 [.agg (ta a),.agg (ta b)] [.one (.int .i64 c)]:=by
 have ca:=Qjp ha;have cb:=Qjp hb;have pa:=D8 ha;have pb:=D8 hb;unfold Qja at h;by_cases h1:a.point=true
 ·rw [if_pos h1] at h;injection h with h; subst h;have:=Zgv b a.lo;exact w tt Tryz.func92 rfl [.c [] ca,.c [] cb,.c [] pa,.t h1,.c [] (Qkr hb ha.lo)] rfl rfl (by simp [U9]; omega)
 rw [if_neg h1] at h;have h1:a.point=false:=by simpa using h1
 by_cases h2:b.point=true
 ·rw [if_pos h2] at h;injection h with h; subst h;exact w tt Tryz.func92 rfl [.c [] ca,.c [] cb,.c [] pa,.f h1,.c [] pb,.t h2,.c [] (Qkr ha hb.lo)] rfl rfl trivial
 rw [if_neg h2] at h;have h2:b.point=false:=by simpa using h2
 obtain ⟨lo,hlo⟩:=nmE (if 0<Gv b.lo a.lo then b.lo else a.lo);obtain ⟨hi,hhi⟩:=nmE (if Gv b.hi a.hi<0 then b.hi else a.hi);have h:(if Gv lo hi<0 then (Qst a.p b.p).bind λg=>if 1<g.length/\Qe5 g lo hi=true then some 0 else (apF (Mg a b) a b).bind λr=>some r.2.2 else (apF (Mg a b) a b).bind λr=>some r.2.2)=some c:=by rw [hlo,hhi]; exact h
 have qlo:Qb lo:=by rw [hlo]; split; exact hb.lo; exact ha.lo
 have qhi:Qb hi:=by rw [hhi]; split; exact hb.hi; exact ha.hi
 have cm:=Zgl ha.lo hb.lo;rw [<-hlo] at cm;have cc1:=Ew hb.hi.s31 ha.hi.s31;have cc2:=Ew qlo.s31 qhi.s31;refine Hl Tryz.func92 rfl ?_;refine go tt [.c [] ca,.c [] cb,.c [] pa,.f h1,.c [] pb,.f h2,.c [] cm] rfl trivial ?_;refine ct 2 (S:=Unit) (λ_=>[(6,.v (.one (.ow 3 0))),(5,.v (.one (.ow 2 0))),(4,.v (.one (.int .i64 0))),(3,.v (.one (.ow 1 0))),(2,.v (.one (.ow 0 0)))]) (λ_=>[.blk 74 (ta a),.blk 74 (ta b),.blk 72 (rl lo),.blk 72 (rl hi)]) (λ_=>True) rfl ?_ ?_
 ·by_cases D:Gv b.hi a.hi<0
  ·rw [if_pos D] at hhi; subst hhi;exact go tt [.c [] cc1,.t (by simpa using D)] rfl trivial (rc () trivial rfl)
  ·rw [if_neg D] at hhi; subst hhi;exact go tt [.c [] cc1,.f (by simpa using D)] rfl trivial (rc () trivial rfl)
 ·rintro _ _
  by_cases D:Gv lo hi<0
  ·rw [if_pos D] at h;obtain ⟨g,g1,h⟩:=Qg.1 h;have cg:=Q8t ha.p hb.p g1;have pg:=Zci ha.p hb.p g1;have ch:=Q9e pg qlo qhi;by_cases G:1<g.length
   ·by_cases R:Qe5 g lo hi=true
    ·rw [if_pos ⟨G,R⟩] at h;injection h with h; subst h;exact en tt [.c [] cc2,.t (by simpa using D),.c [] cg,.c [] (Bq g),.g 58 true (by simp; omega),.c [] ch,.t R] rfl rfl trivial
    ·rw [if_neg λh=>R h.2] at h;obtain ⟨r,r1,h⟩:=Qg.1 h;injection h with h; subst h;exact en tt [.c [] cc2,.t (by simpa using D),.c [] cg,.c [] (Bq g),.g 58 true (by simp; omega),.c [] ch,.f (by simpa using R),.c [] (Qq4 ha hb r1)] rfl rfl trivial
   ·rw [if_neg λh=>G h.1] at h;obtain ⟨r,r1,h⟩:=Qg.1 h;injection h with h; subst h;exact en tt [.c [] cc2,.t (by simpa using D),.c [] cg,.c [] (Bq g),.g 58 false (by simp; omega),.f rfl,.c [] (Qq4 ha hb r1)] rfl rfl trivial
  ·rw [if_neg D] at h;obtain ⟨r,r1,h⟩:=Qg.1 h;injection h with h; subst h;exact en tt [.c [] cc2,.f (by simpa using D),.c [] (Qq4 ha hb r1)] rfl rfl trivial
theorem Zft {p:List Int} {a:Tm} {s:Int} (hp:Pb p) (ha:Tb a) (h:Qnd p a=some s):Fa Tryz.prog 228 [pr p,.agg (ta a)] [.one (.int .i64 s)]:=by
 have ca:=Qjp ha;have pa:=D8 ha;have cn:=Ri hp.t hp.ln hp.bd;unfold Qnd at h;by_cases h0:p.length=0
 ·rw [if_pos h0] at h;injection h with h; subst h;exact w tt Tryz.func228 rfl [.c [] cn,.c [] ca,.t (by simp; exact Qh h0)] rfl rfl trivial
 rw [if_neg h0] at h;have h0:p≠[]:=λe=>h0 (by rw [e]; rfl)
 by_cases h1:a.point=true
 ·rw [if_pos h1] at h;injection h with h; subst h;exact w tt Tryz.func228 rfl [.c [] cn,.c [] ca,.f (by simpa using h0),.c [] pa,.t h1,.c [] (Qi9 hp ha.lo)] rfl rfl trivial
 rw [if_neg h1] at h;have h1:a.point=false:=by simpa using h1
 obtain ⟨g,g1,h⟩:=Qg.1 h;have cg:=Q8t hp ha.p g1;have pg:=Zci hp ha.p g1;have ch:=Q9e pg ha.lo ha.hi;by_cases G:1<g.length/\Qe5 g a.lo a.hi=true
 ·rw [if_pos G] at h;injection h with h; subst h;exact w tt Tryz.func228 rfl [.c [] cn,.c [] ca,.f (by simpa using h0),.c [] pa,.f h1,.c [] cg,.c [] (Bq g),.g 29 true (by simp; omega),.c [] ch,.t G.2] rfl rfl trivial
 rw [if_neg G] at h;obtain ⟨c,c1,h⟩:=Qg.1 h;obtain ⟨u,u1,h⟩:=Qg.1 h;injection h with h; subst h;obtain ⟨cl,call⟩:=chain_ok hp c1;obtain ⟨n,hn⟩:=nmE (64+2*(Fq a.lo.num+Fq a.hi.num)+4*(a.p.length+p.length)*(Hd a.p+Hd p+(a.p.length+p.length)+8));have cst:=Q9y ha hp;rw [show Q1a p a=n from hn.symm] at cst;rw [<-hn] at u1;have hnb:n<=17179938816+200000000:=by
  have l1:=ha.p.l;have l2:=hp.l;have b1:=ha.lo.1;have b2:=ha.hi.1;have s1:Hd a.p<=16777216:=by have:=Mx ha.p.b a.p.length; rwa [Qy] at this
  have s2:Hd p<=16777216:=by have:=Mx hp.b p.length; rwa [Qy] at this
  have:4*(a.p.length+p.length)*(Hd a.p+Hd p+(a.p.length+p.length)+8)<=512*33554568:=Zh (by omega) (by omega);omega
 refine Hl Tryz.func228 rfl ?_;refine go tt [.c [] cn,.c [] ca,.f (by simpa using h0),.c [] pa,.f h1,.c [] cg] rfl trivial ?_;refine ct 2 (S:=Unit) (λ_=>[(3,.v (.one (.ow 0 0))),(0,.v (pr p))]) (λ_=>[.blk 74 (ta a)]) (λ_=>True) rfl ?_ ?_
 ·by_cases G1:1<g.length
  ·exact go tt [.c [] (Bq g),.g 29 true (by simp; omega),.c [] ch,.f (by simpa using λh=>G ⟨G1,h⟩)] rfl trivial (rc () trivial rfl)
  ·exact go tt [.c [] (Bq g),.g 29 false (by simp; omega),.f rfl] rfl trivial (rc () trivial rfl)
 rintro _ _
 refine go tt [.c [] (Q80 hp c1),.c [] cst] rfl trivial ?_;refine lp (S:=Nat×Tm) 1 (λL1 s=>(46,.v (.one (.int .i64 (s.1:Int))))::L1) (λs=>[.blk 74 (ta s.2)]) (λs=>n-s.1) (λs=>s.1<=n/\Tb s.2/\sgF c (n-s.1) s.2=some u) (0,a) ⟨Qi _,ha,u1⟩ rfl (λ_ _=>rfl) rfl λ⟨i,x⟩ ⟨j1,j2,j3⟩=>?_
 dsimp only at j1 j2 j3 ⊢;by_cases hi:i<n
 ·obtain ⟨k,hk⟩:∃ k,n-i=k+1:=⟨n-i-1,by omega⟩;have hk':n-(i+1)=k:=by omega
  rw [hk] at j3;simp only [sgF] at j3;have px:=D8 j2;have cb:=Qoa (by omega) call j2.lo j2.hi;have hlt:decide ((i:Int)<(n:Int))=true:=by simp; omega
  by_cases X:x.point=true
  ·rw [if_pos (.inl X)] at j3;injection j3 with j3; subst j3;exact en tt [.t hlt,.c [] px,.g 50 true X,.t rfl,.c [] (Qi9 hp j2.hi)] rfl rfl trivial
  ·have X':x.point=false:=by simpa using X
   by_cases Z:Rm c x.lo x.hi=0
   ·rw [if_pos (.inr Z)] at j3;injection j3 with j3; subst j3;exact en tt [.t hlt,.c [] px,.g 50 false X',.c [] cb,.t (by simpa using Z),.c [] (Qi9 hp j2.hi)] rfl rfl trivial
   ·rw [if_neg (by rintro (h | h); exact X h; exact Z h)] at j3;obtain ⟨v,v1,v2⟩:=Qg.1 j3;refine go tt [.t hlt,.c [] px,.g 50 false X',.c [] cb,.f (by simpa using Z),.c [] (Qym j2 v1)] rfl (by simp [U9]; omega) ?_;exact rd (i+1,v) (by dsimp only; omega) ⟨hi,Qth j2 v1,by dsimp only; rw [hk']; exact v2⟩ rfl
 ·obtain rfl:i=n:=by omega
  rw [Jw] at j3;simp only [sgF] at j3;injection j3 with j3; subst j3;exact en tt [.f (by simp),.c [] (Qi9 hp j2.hi)] rfl rfl trivial
abbrev tas (l:List Tm):LV:=.row (l.map λt=>ta t)
theorem Qkf {l:List Tm} {i:Nat} {t:Tm} (h:l[i]? = some t):(l.map λt=>ta t)[i]? = some (ta t):=Ho h
def zTr:List LV:=[.row [],.bool false,.row [],.bool false,.row [],.bool false,.row [],.bool false,.row []]
theorem Q8m:Fa Tryz.prog 85 [.one (.row [])] [.agg zTr,.one (.bool false)]:=w tt Tryz.func85 rfl [.t rfl] rfl rfl trivial
theorem Ir {b:Tm} {l:List Tm} {m:Tm} (hb:Tb b) (hl:∀ t∈l,Tb t) (hn:l.length≤1000000) (h:Qag b l=some m):Fa Tryz.prog 85 [.one (tas (b::l))] [.agg (ta m),.one (.bool true)]:=by
 refine Hl Tryz.func85 rfl ?_;refine go tt [.f (by simp; omega),.x (i:=0) (xs:=ta b) rfl,.i 1] rfl (by simp [U9]; exact ⟨rfl,λ_ _=>rfl⟩) ?_;refine lp (S:=Nat×Tm) 2 (λL1 s=>(17,.v (.one (.int .i64 (s.1:Int))))::L1) (λs=>[.blk 74 zTm,.blk 74 (ta s.2)]) (λs=>l.length-s.1) (λs=>s.1<=l.length/\Tb s.2/\Qag s.2 (l.drop s.1)=some m) (0,b) ⟨Qi _,hb,h⟩ rfl (λ_ _=>rfl) rfl λ⟨i,x⟩ ⟨j1,j2,j3⟩=>?_
 dsimp only at j1 j2 j3 ⊢;by_cases hi:i<l.length
 ·obtain ⟨a,ha⟩:=gxE (l:=l) (i:=i) hi;have hdr:l.drop i=a::l.drop (i+1):=by
   rw [Zl hi]; congr 1;have:=Qd hi; rw [ha] at this; injection this with this; exact this.symm
  rw [hdr] at j3;simp only [Qag] at j3;obtain ⟨c,c1,j3⟩:=Qg.1 j3;have ta':=hl a (Qa ha);by_cases hc:c<0
  ·rw [if_pos hc] at j3;refine go tt [.t (by simp; omega),.x (Qkf ha),.c [] (Qkq ta' j2 c1),.t (by simpa using hc)] rfl (by simp [U9]; omega) ?_;exact rd (i+1,a) (by dsimp only; omega) ⟨hi,ta',j3⟩ rfl
  ·rw [if_neg hc] at j3;refine go tt [.t (by simp; omega),.x (Qkf ha),.c [] (Qkq ta' j2 c1),.f (by simpa using hc)] rfl (by simp [U9]; omega) ?_;exact rd (i+1,x) (by dsimp only; omega) ⟨hi,j2,j3⟩ rfl
 ·obtain rfl:i=l.length:=by omega
  rw [Y0] at j3;simp only [Qag] at j3;injection j3 with j3; subst j3;exact en tt [.f (by simp),.c [] (Q9z j2)] rfl rfl trivial
end Orr
namespace Orq
def Fp (x:Rat):Rat:=if x<0 then -x else x
theorem H7 (x:Rat):0<=Fp x:=by unfold Fp; split <;> grind
theorem Sw {x b:Rat}:Fp x<=b↔-b<=x/\x<=b:=by unfold Fp; split <;> constructor <;> grind
theorem Qs1 {x b:Rat}:Fp x<b↔-b<x/\x<b:=by unfold Fp; split <;> constructor <;> grind
theorem S6 (x y:Rat):Fp (x+y)<=Fp x+Fp y:=by unfold Fp; split <;> split <;> split <;> grind
theorem Q4l (x y:Rat):Fp (x-y)=Fp (y-x):=by unfold Fp; split <;> split <;> grind
theorem Ee (x:Rat):Fp (-x)=Fp x:=by unfold Fp; split <;> split <;> grind
theorem Rx:Fp 0=0:=by decide
theorem Cu {x:Rat} (h:x≠0):0<Fp x:=by unfold Fp; split <;> grind
theorem Ziq {x:Rat} (h:Fp x=0):x=0:=by unfold Fp at h; split at h <;> grind
theorem Nh {x y:Rat} (h1:0<=x) (h2:0<=y):0<=x*y:=Kj h1 h2
theorem Ih {x y:Rat} (h1:0<x) (h2:0<y):0<x*y:=Jj h1 h2
theorem Mw {a b c d:Rat} (h0:0<=a) (h1:a<=b) (h2:0<=c) (h3:c<=d):a*c<=b*d:=by
 have e1:=Q5 h1 h2;have e2:=Zs h3 (Za h0 h1);exact Za e1 e2
theorem Ed (x y:Rat):Fp (x*y)=Fp x*Fp y:=by
 unfold Fp;by_cases h1:x<0 <;> by_cases h2:y<0
 ·have:=Ih (x:=-x) (y:=-y) (by grind) (by grind); simp only [h1,h2,if_true]; split <;> grind
 ·have:=Nh (x:=-x) (y:=y) (by grind) (by grind); simp only [h1,h2,if_true,if_false]; split <;> grind
 ·have:=Nh (x:=x) (y:=-y) (by grind) (by grind); simp only [h1,h2,if_true,if_false]; split <;> grind
 ·have:=Nh (x:=x) (y:=y) (by grind) (by grind); simp only [h1,h2,if_false]; split <;> grind
theorem Hg {x y a b:Rat} (h1:Fp x<=a) (h2:Fp y<=b):Fp (x*y)<=a*b:=by
 rw [Ed]; exact Mw (H7 x) h1 (H7 y) h2
theorem Di {x y:Rat} (h1:0<x) (h2:0<y):0<x / y:=by rw [J8]; exact Ih h1 (Rat.inv_pos.2 h2)
theorem Gx {x y:Rat} (h2:0<y):x / y*y=x:=Zj (by grind)
theorem Hj {b d:Rat} (hb:0<=b) (hd:0<d):∃ e:Rat,0<e/\e<=1/\e*b<d:=by
 have h1:0<d / (b+1):=Di hd (by grind);have h2:d / (b+1)*(b+1)=d:=Gx (by grind);rcases Ki (a:=d / (b+1)) (b:=1) with h | h
 ·exact ⟨d / (b+1),h1,h,by
   have:d / (b+1)*(b+1)=d / (b+1)*b+d / (b+1):=by grind
   grind⟩
 ·refine ⟨1,by decide,by decide,?_⟩;have:1*(b+1)<=d / (b+1)*(b+1):=Q5 h (by grind);grind
def ev:List Rat->Rat->Rat
 | [],_=>0
 | a::p,t=>a+t*ev p t
def dv:List Rat->Rat->Rat
 | [],_=>0
 | _::p,t=>ev p t+t*dv p t
def dq:List Rat->Rat->Rat->Rat
 | [],_,_=>0
 | _::p,x,y=>ev p x+y*dq p x y
def dd:List Rat->Rat->Rat->Rat
 | [],_,_=>0
 | _::p,x,y=>dq p x y+y*dd p x y
theorem Qov (x y:Rat):∀ p,ev p x-ev p y=(x-y)*dq p x y
 | []=>by simp only [ev,dq]; grind
 | a::p=>by have:=Qov x y p; simp only [ev,dq]; grind
theorem Qrl (y:Rat):∀ p,dq p y y=dv p y
 | []=>rfl
 | a::p=>by simp only [dq,dv,Qrl y p]
theorem Zkj (x y:Rat):∀ p,dq p x y-dv p y=(x-y)*dd p x y
 | []=>by simp only [dv,dq,dd]; grind
 |
  a::p=>by
  have h1:=Zkj x y p;have h2:=Qov x y p;simp only [dv,dq,dd]; grind
theorem Zkm (p:List Rat) (x y:Rat):ev p x-ev p y=(x-y)*dv p y+(x-y)*(x-y)*dd p x y:=by
 have h1:=Qov x y p;have h2:=Zkj x y p;grind
def evB (R:Rat):List Rat->Rat
 | []=>0
 | a::p=>Fp a+R*evB R p
def dqB (R:Rat):List Rat->Rat
 | []=>0
 | _::p=>evB R p+R*dqB R p
def ddB (R:Rat):List Rat->Rat
 | []=>0
 | _::p=>dqB R p+R*ddB R p
theorem O7 {R:Rat} (hR:0<=R):∀ p,0<=evB R p
 | []=>by simp only [evB]; grind
 | a::p=>by have:=Nh hR (O7 hR p); have:=H7 a; simp only [evB]; grind
theorem Mr {R:Rat} (hR:0<=R):∀ p,0<=dqB R p
 | []=>by simp only [dqB]; grind
 | a::p=>by have:=Nh hR (Mr hR p); have:=O7 hR p; simp only [dqB]; grind
theorem Qld {R:Rat} (hR:0<=R):∀ p,0<=ddB R p
 | []=>by simp only [ddB]; grind
 | a::p=>by have:=Nh hR (Qld hR p); have:=Mr hR p; simp only [ddB]; grind
theorem Qih {R x:Rat} (hx:Fp x<=R):∀ p,Fp (ev p x)<=evB R p
 | []=>by simp only [ev,evB,Rx]; grind
 |
  a::p=>by
  have h1:=S6 a (x*ev p x);have h2:=Hg hx (Qih hx p);simp only [ev,evB]; grind
theorem Qu3 {R x y:Rat} (hx:Fp x<=R) (hy:Fp y<=R):∀ p,Fp (dq p x y)<=dqB R p
 | []=>by simp only [dq,dqB,Rx]; grind
 |
  a::p=>by
  have h1:=S6 (ev p x) (y*dq p x y);have h2:=Hg hy (Qu3 hx hy p);have h3:=Qih hx p;simp only [dq,dqB]; grind
theorem Zaf {R x y:Rat} (hx:Fp x<=R) (hy:Fp y<=R):∀ p,Fp (dd p x y)<=ddB R p
 | []=>by simp only [dd,ddB,Rx]; grind
 |
  a::p=>by
  have h1:=S6 (dq p x y) (y*dd p x y);have h2:=Hg hy (Zaf hx hy p);have h3:=Qu3 hx hy p;simp only [dd,ddB]; grind
theorem Zav {R x y:Rat} (hx:Fp x<=R) (hy:Fp y<=R) (p:List Rat):Fp (ev p x-ev p y)<=Fp (x-y)*dqB R p:=by
 rw [Qov,Ed]; exact Mw (H7 _) Qq (H7 _) (Qu3 hx hy p)
def Ty:List Rat->List Rat->List Rat
 | [],q=>q
 | a::p,[]=>a::p
 | a::p,b::q=>(a+b)::Ty p q
def Nj (c:Rat) (p:List Rat):List Rat:=p.map (c * ·)
def G8:List Rat->List Rat->List Rat
 | [],_=>[]
 | a::p,q=>Ty (Nj a q) (0::G8 p q)
def Bl:List Rat->List Rat
 | []=>[]
 | _::p=>Ty p (0::Bl p)
theorem Gt (t:Rat):∀ p q,ev (Ty p q) t=ev p t+ev q t
 | [],q=>by simp only [Ty,ev]; grind
 | a::p,[]=>by simp only [Ty,ev]; grind
 | a::p,b::q=>by have:=Gt t p q; simp only [Ty,ev]; grind
theorem Ge (c t:Rat):∀ p,ev (Nj c p) t=c*ev p t
 | []=>by simp only [Nj,Jl,ev]; grind
 | a::p=>by have:=Ge c t p; simp only [Nj,Xb,ev] at *; grind
theorem Fj (t:Rat):∀ p q,ev (G8 p q) t=ev p t*ev q t
 | [],q=>by simp only [G8,ev]; grind
 | a::p,q=>by have:=Fj t p q; simp only [G8,Gt,Ge,ev]; grind
theorem Tp (t:Rat):∀ p,ev (Bl p) t=dv p t
 | []=>rfl
 | a::p=>by have:=Tp t p; simp only [Bl,Gt,ev,dv]; grind
theorem Qrn (t:Rat):∀ p q,dv (Ty p q) t=dv p t+dv q t
 | [],q=>by simp only [Ty,dv]; grind
 | a::p,[]=>by simp only [Ty,dv]; grind
 | a::p,b::q=>by have:=Qrn t p q; have:=Gt t p q; simp only [Ty,dv]; grind
theorem Qg0 (c t:Rat):∀ p,dv (Nj c p) t=c*dv p t
 | []=>by simp only [Nj,Jl,dv]; grind
 | a::p=>by have:=Qg0 c t p; have:=Ge c t p; simp only [Nj,Xb,dv] at *; grind
theorem Qro (t:Rat):∀ p q,dv (G8 p q) t=dv p t*ev q t+ev p t*dv q t
 | [],q=>by simp only [G8,dv,ev]; grind
 | a::p,q=>by have:=Qro t p q; have:=Fj t p q; simp only [G8,Qrn,Qg0,dv,ev]; grind
theorem Q29:∀ {p:List Rat},(∀ x∈p,x=0)->∀ t,ev p t=0
 | [],_,t=>rfl
 |
  a::p,h,t=>by
  have h1:=Q29 (p:=p) (λx hx=>h x (Qj _ hx)) t;have h2:=h a (Qw ..);simp only [ev,h1,h2]; grind
theorem Q24:∀ {p:List Rat},(∀ x∈p,x=0)->∀ t,dv p t=0
 | [],_,t=>rfl
 |
  a::p,h,t=>by
  have h0:=λx hx=>h x (Qj _ hx)
  have h1:=Q29 (p:=p) h0 t;have h2:=Q24 (p:=p) h0 t;simp only [dv,h1,h2]; grind
theorem Qek:∀ {p:List Rat},(∀ t,0<t->t<1->ev p t=0)->∀ x∈p,x=0
 | [],_=>λx hx=>by cases hx
 |
  a::p,h=>by
  have ha:a=0:=by
   rcases Classical.em (a=0) with h0 | h0
   ·exact h0
   ·obtain ⟨e,e1,e2,e3⟩:=Hj (O7 (R:=1) (by decide) p) (Cu h0);obtain ⟨f,f1,f2,f3⟩:=Hj (b:=1) (d:=e) (by decide) e1;have h1:=h f f1 (by grind);have h2:=Qih (R:=1) (x:=f) (by unfold Fp; split <;> grind) p;have h3:=Ed f (ev p f);have h4:Fp f=f:=by unfold Fp; split <;> grind
    have h5:a=-(f*ev p f):=by simp only [ev] at h1; grind
    have h6:Fp a=f*Fp (ev p f):=by rw [h5,Ee,h3,h4]
    have h7:f*Fp (ev p f)<=e*evB 1 p:=Mw (Qp f1) (by grind) (H7 _) h2;grind
  intro x hx;rcases Qm.1 hx with rfl | hx
  ·exact ha
  ·refine Qek (p:=p) (λt h1 h2=>?_) x hx;have:=h t h1 h2;simp only [ev,ha] at this;have h3:t*ev p t=0:=by grind
   rcases J0.1 h3 with h4 | h4
   ·grind
   ·exact h4
theorem Zan {p q:List Rat} (h:∀ t,ev p t=ev q t) (t:Rat):dv p t=dv q t:=by
 have h1:=Q24 (p:=Ty p (Nj (-1) q)) (Qek λt _ _=>by rw [Gt,Ge,h t]; grind) t;rw [Qrn,Qg0] at h1; grind
def Fo (x:Rat):Int:=if x<0 then -1 else if 0<x then 1 else 0
theorem Gk {x:Rat}:Fo x=0↔x=0:=by
 unfold Fo; constructor
 ·intro h; split at h <;> (try split at h) <;> grind
 ·intro h; subst h; rfl
theorem Ry {x:Rat}:Fo x=1↔0<x:=by
 unfold Fo; constructor
 ·intro h; split at h <;> (try split at h) <;> grind
 ·intro h; rw [if_neg (by grind),if_pos h]
theorem Pm {x:Rat}:Fo x=-1↔x<0:=by
 unfold Fo; constructor
 ·intro h; split at h <;> (try split at h) <;> grind
 ·intro h; rw [if_pos h]
theorem Gp (x:Rat):Fo x=-1/\x<0\/Fo x=0/\x=0\/Fo x=1/\0<x:=by
 rcases Ki (a:=x) (b:=0) with h | h
 ·rcases Classical.em (x=0) with h0 | h0
  ·exact .inr (.inl ⟨Gk.2 h0,h0⟩)
  ·exact .inl ⟨Pm.2 (by grind),by grind⟩
 ·rcases Classical.em (x=0) with h0 | h0
  ·exact .inr (.inl ⟨Gk.2 h0,h0⟩)
  ·exact .inr (.inr ⟨Ry.2 (by grind),by grind⟩)
theorem S7 (x y:Rat):Fo (x*y)=Fo x*Fo y:=by
 rcases Gp x with ⟨e1,h1⟩ | ⟨e1,h1⟩ | ⟨e1,h1⟩ <;> rcases Gp y with ⟨e2,h2⟩ | ⟨e2,h2⟩ | ⟨e2,h2⟩ <;> rw [e1,e2]
 ·have:=Ih (x:=-x) (y:=-y) (by grind) (by grind); exact Ry.2 (by grind)
 ·subst h2; exact Gk.2 (by grind)
 ·have:=Ih (x:=-x) (y:=y) (by grind) (by grind); exact Pm.2 (by grind)
 ·subst h1; exact Gk.2 (by grind)
 ·subst h1; exact Gk.2 (by grind)
 ·subst h1; exact Gk.2 (by grind)
 ·have:=Ih (x:=x) (y:=-y) (by grind) (by grind); exact Pm.2 (by grind)
 ·subst h2; exact Gk.2 (by grind)
 ·exact Ry.2 (Ih h1 h2)
theorem P9 {a b d:Rat} (h1:d<=Fp a) (h2:Fp (b-a)<d):Fo b=Fo a/\Fo a≠0:=by
 rw [Qs1] at h2;rcases Gp a with ⟨e,h⟩ | ⟨e,h⟩ | ⟨e,h⟩
 ·rw [e,Pm]; unfold Fp at h1; rw [if_pos h] at h1; exact ⟨by grind,by decide⟩
 ·subst h; rw [Rx] at h1; grind
 ·rw [e,Ry]; unfold Fp at h1; rw [if_neg (by grind)] at h1; exact ⟨by grind,by decide⟩
def tc (x:Rat):Int->List (List Rat)->Nat
 | _,[]=>0
 | s,p::l=>if Fo (ev p x)=0 then tc x s l else (if s=-(Fo (ev p x)) then 1 else 0)+tc x (Fo (ev p x)) l
inductive SCl:List Rat->List Rat->List (List Rat)->Prop
 | base {f g:List Rat} {c:Rat} (hc:c≠0) (hg:∀ t,ev g t=c):SCl f g []
 | step {f g h:List Rat} {l:List (List Rat)} {a b:Rat} {q:List Rat} (ha:0<a) (hb:0<b) (he:∀ t,a*ev f t=ev q t*ev g t-b*ev h t) (hl:SCl g h l):SCl f g (h::l)
theorem Zel {x:Rat} {s:Int} {g h:List Rat} {l:List (List Rat)} (hh:Fo (ev h x)=-s) (hs:s≠0):tc x s (g::h::l)=1+tc x (-s) l:=by
 have h3:Fo (ev h x)≠0:=by omega
 have hv:s=1\/s=-1:=by rcases Gp (ev h x) with ⟨e,_⟩ | ⟨e,_⟩ | ⟨e,_⟩ <;> omega
 simp only [tc,if_neg h3,hh];rcases Gp (ev g x) with ⟨e,_⟩ | ⟨e,_⟩ | ⟨e,_⟩ <;> rw [e] <;> rcases hv with rfl | rfl <;> simp
theorem Qf8 {x:Rat} {s:Int} {p:List Rat} {l:List (List Rat)} (h:Fo (ev p x)≠0):tc x s (p::l)=(if s=-(Fo (ev p x)) then 1 else 0)+tc x (Fo (ev p x)) l:=by rw [tc,if_neg h]
theorem Mt {R x y e d:Rat} {p:List Rat} (hx:Fp x<=R) (hy:Fp y<=R) (hR:0<=R) (h:Fp (y-x)<=e) (hd:e*dqB R p<d):Fp (ev p y-ev p x)<d:=by
 have h1:=Zav hy hx p;have h2:=Q5 h (Mr hR p);grind
theorem Qpi {a x y:Rat} (ha:0<a) (h:a*x<a*y):x<y:=by
 rcases Ki (a:=y) (b:=x) with h' | h'
 ·have:=Zs h' (Qp ha); grind
 ·rcases Classical.em (x=y) with e | e
  ·subst e; grind
  ·grind
theorem Znn {a b d d' B f g h q:Rat} (ha:0<a) (hb:0<b) (dp:0<d) (h7:B*d+a*d<b*d') (hq:Fp q<=B) (hg:Fp g<d) (hh:d'<=Fp h) (he:a*f=q*g-b*h) (hd':0<d'):Fo h=-Fo f/\d<=Fp f:=by
 have h4:=Hg hq (Qp hg);rw [Sw] at h4;have had:=Ih ha dp;have h8:=Zs hh (Qp hb);rcases Gp h with ⟨s,p⟩ | ⟨s,p⟩ | ⟨s,p⟩
 ·have:Fp h=-h:=by unfold Fp; rw [if_pos p]
  rw [this] at h8;have h10:d<f:=Qpi ha (by grind);rw [s,Ry.2 (show 0<f by grind)];exact ⟨rfl,by unfold Fp; split <;> grind⟩
 ·rw [p,Rx] at hh; grind
 ·have:Fp h=h:=by unfold Fp; rw [if_neg (by grind)]
  rw [this] at h8;have h10:f < -d:=Qpi ha (by grind);rw [s,Pm.2 (show f<0 by grind)];exact ⟨rfl,by unfold Fp; split <;> grind⟩
theorem min2 {a b:Rat} (ha:0<a) (hb:0<b):∃ e:Rat,0<e/\e<=a/\e<=b:=by
 rcases Ki (a:=a) (b:=b) with h | h
 ·exact ⟨a,ha,Qq,h⟩
 ·exact ⟨b,hb,h,Qq⟩
theorem Gg (a b:Rat):a<=b\/b<a:=by
 rcases Ki (a:=a) (b:=b) with h | h
 ·exact .inl h
 ·rcases Classical.em (a=b) with e | e
  ·exact .inl (by grind)
  ·exact .inr (by grind)
theorem Zmx {R:Rat} (hR:0<=R) {f g:List Rat} {l:List (List Rat)} (hc:SCl f g l):∃ d e:Rat,0<d/\0<e/\∀ x y,Fp x<=R->Fp y<=R->Fp (y-x)<=e ->
 (d<=Fp (ev f x)\/d<=Fp (ev g x))/\(d<=Fp (ev f x)->Fo (ev f y)=Fo (ev f x)/\Fo (ev f x)≠0)/\(d<=Fp (ev g x)->Fo (ev g y)=Fo (ev g x)/\Fo (ev g x)≠0) /\
 (Fo (ev f y)=Fo (ev f x)->Fo (ev f x)≠0->tc x (Fo (ev f x)) (g::l)=tc y (Fo (ev f x)) (g::l)) /\
 (Fo (ev g y)=Fo (ev g x)->Fo (ev g x)≠0->tc x (Fo (ev g x)) l=tc y (Fo (ev g x)) l):=by
 induction hc with
 |
  @base f g c hc hg =>
  have hd:=Cu hc;obtain ⟨e,e1,e2,e3⟩:=Hj (Mr hR f) hd;refine ⟨Fp c,e,hd,e1,λx y hx hy hxy=>⟨.inr (by rw [hg]; exact Qq),λh=>P9 h (Mt hx hy hR hxy e3),λh=>?_,λ_ _=>?_,λ_ _=>rfl⟩⟩
  ·rw [hg,hg]; exact ⟨rfl,λh=>hc (Gk.1 h)⟩
  ·simp only [tc,hg]
 |
  @step f g h l a b q ha hb he hl ih =>
  obtain ⟨d',e',hd',he',ih⟩:=ih;obtain ⟨d1,d1p,_,d1b⟩:=Hj (b:=evB R q+a) (d:=b*d') (by have:=O7 hR q; grind) (Ih hb hd');obtain ⟨d,dp,hd1,hdd⟩:=min2 d1p hd';obtain ⟨ef,ef1,_,ef3⟩:=Hj (Mr hR f) dp;obtain ⟨eg,eg1,_,eg3⟩:=Hj (Mr hR g) dp;obtain ⟨e0,e0p,h1,h2⟩:=min2 ef1 eg1;obtain ⟨e,ep,h0,h3⟩:=min2 e0p he';have h1:=Za h0 h1;have h2:=Za h0 h2;refine ⟨d,e,dp,ep,λx y hx hy hxy=>?_⟩;obtain ⟨i1,i2,i3,i4,i5⟩:=ih x y hx hy (Za hxy h3);have hsm:Fp (ev g x)<d->d'<=Fp (ev h x)/\Fo (ev h x)=-Fo (ev f x)/\d<=Fp (ev f x):=λhg=>by
   have hh:d'<=Fp (ev h x):=by
    rcases i1 with i | i
    ·exact absurd (Za hdd i) (Jk.2 hg)
    ·exact i
   have h6:d*(evB R q+a)<=d1*(evB R q+a):=Q5 hd1 (by have:=O7 hR q; clear ih i1 i2 i3 i4 i5 he; grind);have h7:evB R q*d+a*d<b*d':=by clear ih i1 i2 i3 i4 i5 he; grind
   exact ⟨hh,Znn ha hb dp h7 (Qih hx q) hg hh (he x) hd'⟩
  have hfs:d<=Fp (ev f x)->Fo (ev f y)=Fo (ev f x)/\Fo (ev f x)≠0:=λh=>P9 h (Mt hx hy hR (Za hxy h1) ef3)
  have hgs:d<=Fp (ev g x)->Fo (ev g y)=Fo (ev g x)/\Fo (ev g x)≠0:=λh=>P9 h (Mt hx hy hR (Za hxy h2) eg3)
  refine ⟨?_,hfs,hgs,λs1 s2=>?_,i4⟩
  ·rcases Gg d (Fp (ev g x)) with h | h
   ·exact .inr h
   ·exact .inl (hsm h).2.2
  ·rcases Gg d (Fp (ev g x)) with h | h
   ·obtain ⟨g1,g2⟩:=hgs h;rw [Qf8 (x:=x) (p:=g) g2,Qf8 (x:=y) (p:=g) (by rw [g1]; exact g2),g1,i4 g1 g2]
   ·obtain ⟨h4,h5,_⟩:=hsm h;obtain ⟨h6,h7⟩:=i3 h4;have i5:=i5 h6 h7;rw [Zel h5 s2,Zel (h6.trans h5) s2,<-h5,i5]
def Po (p:List Rat) (x:Rat):Int:=if Fo (ev p x)≠0 then Fo (ev p x) else Fo (dv p x)
def vv (L:List (List Rat)) (x:Rat):Nat:=tc x 0 L
def Stm (f:List Rat) (L:List (List Rat)):Prop:=(∃ c:Rat,c≠0/\(∀ t,ev f t=c)/\L=[f])\/∃ g l,∃ k:Rat,0<k/\(∀ t,ev g t=k*dv f t)/\SCl f g l/\L=f::g::l
structure Sm (w:List Rat) (x y:Rat):Prop where
 s:Fo (ev w y)=Po w x
 l:Po w y=Po w x
 n:Po w x≠0
theorem E9 {p:List Rat} {x:Rat} (h:Fo (ev p x)≠0):Po p x=Fo (ev p x):=by unfold Po; rw [if_pos h]
theorem Qzw {p:List Rat} {x:Rat} (h:Fo (ev p x)=0):Po p x=Fo (dv p x):=by unfold Po; rw [if_neg (by simpa using h)]
theorem Qxc {p:List Rat} {x y:Rat} (h:Fo (ev p y)=Fo (ev p x)) (h0:Fo (ev p x)≠0):Sm p x y:=by
 have h1:=E9 h0;have h2:=E9 (p:=p) (x:=y) (by rw [h]; exact h0);exact ⟨by rw [h,h1],by rw [h2,h1,h],by rw [h1]; exact h0⟩
theorem O5 {f w u:List Rat} (h:∀ t,ev f t=ev w t*ev u t) (x:Rat):dv f x=dv w x*ev u x+ev w x*dv u x:=by
 rw [<-Qro]; exact Zan (λt=>by rw [h,Fj]) x
theorem Q3u {f w u:List Rat} {x:Rat} (h:∀ t,ev f t=ev w t*ev u t) (hu:Fo (ev u x)≠0):Po f x=Po w x*Fo (ev u x):=by
 by_cases hw:Fo (ev w x)=0
 ·have hw0:=Gk.1 hw;have e1:ev f x=0:=by rw [h,hw0]; grind
  have e2:dv f x=dv w x*ev u x:=by rw [O5 h,hw0]; grind
  rw [Qzw hw,Qzw (Gk.2 e1),e2,S7]
 ·have e1:Fo (ev f x)=Fo (ev w x)*Fo (ev u x):=by rw [h,S7]
  rw [E9 hw,E9 (by rw [e1]; exact Jn hw hu),e1]
theorem Zno {f w u:List Rat} {x y:Rat} (h:∀ t,ev f t=ev w t*ev u t) (hu:Fo (ev u y)=Fo (ev u x)) (h0:Fo (ev u x)≠0) (hf:Sm f x y):Sm w x y:=by
 have e1:=Q3u h h0;have e2:=Q3u (x:=y) h (by rw [hu]; exact h0);have e3:Fo (ev f y)=Fo (ev w y)*Fo (ev u y):=by rw [h,S7]
 obtain ⟨s,l,n⟩:=hf;rw [hu] at e2 e3;refine ⟨?_,?_,λh=>n (by rw [e1,h,Yk])⟩
 ·rw [e3,e1] at s; exact Vb h0 s
 ·rw [e2,e1] at l; exact Vb h0 l
theorem tc0 {x:Rat} {s:Int} {f g:List Rat} {l:List (List Rat)} (h:Fo (ev g x)=s) (hs:s≠0):tc x 0 (f::g::l)=(if Fo (ev f x)=-s then 1 else 0)+tc x s l:=by
 have hv:s=1\/s=-1:=by rcases Gp (ev g x) with ⟨e,_⟩ | ⟨e,_⟩ | ⟨e,_⟩ <;> omega
 have hg:Fo (ev g x)≠0:=by omega
 rw [tc];rcases Gp (ev f x) with ⟨e,_⟩ | ⟨e,_⟩ | ⟨e,_⟩ <;> rw [e] <;> rcases hv with rfl | rfl <;> simp [Qf8 hg,h]
theorem Qmk {R x y e d:Rat} {p:List Rat} (hx:Fp x<=R) (hy:Fp y<=R) (hR:0<=R) (hxy:x<y) (h:y-x<=e) (hd:d<=Fp (dv p x)) (he:e*ddB R p<d):Fo (ev p y-ev p x)=Fo (dv p x):=by
 have h1:=Zkm p y x;have h2:ev p y-ev p x=(y-x)*(dv p x+(y-x)*dd p y x):=by rw [h1]; grind
 have h3:=Hg (x:=y-x) (y:=dd p y x) (a:=e) (b:=ddB R p) (by rw [Sw]; constructor <;> grind) (Zaf hy hx p);have h4:=P9 (b:=dv p x+(y-x)*dd p y x) hd (by
  have:dv p x+(y-x)*dd p y x-dv p x=(y-x)*dd p y x:=by grind
  rw [this]; exact Jk.1 λh=>absurd (Za h h3) (Jk.2 he))
 rw [h2,S7,Ry.2 (show 0<y-x by grind),h4.1,Y4]
def Q7w (f w:List Rat) (L:List (List Rat)) (x y:Rat):Prop :=
 (vv L x=vv L y/\Sm f x y/\Sm w x y)\/(vv L x=vv L y+1/\Po f x≠0/\Po f y=-Po f x/\Fo (ev f x)=Po f x/\(Fo (ev f y)=0\/Fo (ev f y)=-Po f x))
theorem Zkp {R d:Rat} (hR:0<=R) (hd:0<d) {f w u:List Rat} (h:∀ t,ev f t=ev w t*ev u t):∃ e:Rat,0<e/\∀ x y,Fp x<=R->Fp y<=R->Fp (y-x)<=e->d<=Fp (ev f x)->Sm f x y/\Sm w x y:=by
 obtain ⟨ef,ef1,_,ef3⟩:=Hj (Mr hR f) hd;obtain ⟨d1,d1p,_,d1b⟩:=Hj (O7 hR u) hd;obtain ⟨ew,ew1,_,ew3⟩:=Hj (Mr hR w) d1p;obtain ⟨e,ep,e1,e2⟩:=min2 ef1 ew1;refine ⟨e,ep,λx y hx hy hxy hf=>⟨?_,?_⟩⟩
 ·have:=P9 hf (Mt hx hy hR (Za hxy e1) ef3);exact Qxc this.1 this.2
 ·have hw:d1<=Fp (ev w x):=by
   rcases Gg d1 (Fp (ev w x)) with h' | h'
   ·exact h'
   ·have h5:=Hg (Qp h') (Qih hx u);rw [<-h] at h5;exact absurd (Za hf h5) (Jk.2 d1b)
  have:=P9 hw (Mt hx hy hR (Za hxy e2) ew3);exact Qxc this.1 this.2
theorem loc {R:Rat} (hR:0<=R) {f w u:List Rat} {L:List (List Rat)} (hc:Stm f L) (h:∀ t,ev f t=ev w t*ev u t):∃ e:Rat,0<e/\∀ x y,Fp x<=R->Fp y<=R->x<y->y-x<=e->Q7w f w L x y:=by
 rcases hc with ⟨c,hc,hf,rfl⟩ | ⟨g,l,k,hk,hg,hc,rfl⟩
 ·obtain ⟨e,ep,h1⟩:=Zkp hR (Cu hc) h;refine ⟨e,ep,λx y hx hy hxy he=>.inl ⟨?_,h1 x y hx hy (by rw [Sw]; constructor <;> grind) (by rw [hf]; exact Qq)⟩⟩;simp only [vv,tc,hf]
 ·obtain ⟨d,e1,dp,e1p,h1⟩:=Zmx hR hc;obtain ⟨e2,e2p,h2⟩:=Zkp hR dp h;obtain ⟨d3,d3p,_,d3b⟩:=Hj (b:=k) (d:=d) (Qp hk) dp;obtain ⟨e3,e3p,_,e3b⟩:=Hj (Qld hR f) d3p;obtain ⟨d4,d4p,_,d4b⟩:=Hj (b:=dqB R w+dqB R u) (d:=d3) (by have:=Mr hR w; have:=Mr hR u; grind) d3p;obtain ⟨e4,e4p,_,e4b⟩:=Hj (Mr hR w) d4p;obtain ⟨e5,e5p,_,e5b⟩:=Hj (Mr hR u) d4p;obtain ⟨a1,a1p,a11,a12⟩:=min2 e1p e2p;obtain ⟨a2,a2p,a21,a22⟩:=min2 e3p e4p;obtain ⟨a3,a3p,a31,a32⟩:=min2 a1p a2p;obtain ⟨e,ep,b1,b2⟩:=min2 a3p e5p;refine ⟨e,ep,λx y hx hy hxy he=>?_⟩;have hab:Fp (y-x)<=e:=by rw [Sw]; clear h1 h2; constructor <;> grind
  have hab1:Fp (y-x)<=e1:=by clear h1 h2; grind
  have hab2:Fp (y-x)<=e2:=by clear h1 h2; grind
  obtain ⟨i1,i2,i3,i4,i5⟩:=h1 x y hx hy hab1;rcases Gg d (Fp (ev f x)) with hf | hf
  ·obtain ⟨s1,s2⟩:=h2 x y hx hy hab2 hf;obtain ⟨j1,j2⟩:=i2 hf;refine .inl ⟨?_,s1,s2⟩;have:=i4 j1 j2;simp only [vv];rw [Qf8 (x:=x) (p:=f) j2,Qf8 (x:=y) (p:=f) (by rw [j1]; exact j2),j1,this]
  ·have hg1:d<=Fp (ev g x):=by
    rcases i1 with i | i
    ·exact absurd i (Jk.2 hf)
    ·exact i
   obtain ⟨g1,g2⟩:=i3 hg1;have i5:=i5 g1 g2;have hD:d3<=Fp (dv f x):=by
    rcases Gg d3 (Fp (dv f x)) with h' | h'
    ·exact h'
    ·have h5:=Hg (x:=k) (a:=k) (by unfold Fp; split <;> clear h1 h2 <;> grind) (Rat.le_of_lt h');rw [<-hg] at h5;have:k*d3=d3*k:=by grind
     exact absurd (Za hg1 h5) (Jk.2 (by rw [this]; exact d3b))
   have hm:=Qmk hx hy hR hxy (by clear h1 h2; grind:y-x<=e3) hD e3b;have s1:Fo (ev g x)=Fo (dv f x):=by rw [hg,S7,Ry.2 hk,Y4]
   have s2:Fo (ev g y)=Fo (dv f y):=by rw [hg,S7,Ry.2 hk,Y4]
   obtain ⟨s,hs⟩:=nmE (Fo (ev g x));rw [<-hs] at g1 g2 i5 s1;rw [g1] at s2;have v1:=tc0 (f:=f) (l:=l) hs.symm g2;have v2:=tc0 (f:=f) (l:=l) g1 g2;rw [<-i5] at v2;rw [<-s1] at hm;have hw:Sm f x y->Sm w x y:=λhf=>by
    rcases Gg d4 (Fp (ev u x)) with hu | hu
    ·have hu:=P9 hu (Mt hx hy hR (Za hab b2) e5b);exact Zno h hu.1 hu.2 hf
    ·have hw:d4<=Fp (ev w x):=by
      rcases Gg d4 (Fp (ev w x)) with h' | h'
      ·exact h'
      ·have q1:=Hg (x:=dv w x) (y:=ev u x) (a:=dqB R w) (by rw [<-Qrl]; exact Qu3 hx hx w) (Qp hu);have q2:=Hg (x:=ev w x) (y:=dv u x) (b:=dqB R u) (Qp h') (by rw [<-Qrl]; exact Qu3 hx hx u);have q3:=S6 (dv w x*ev u x) (ev w x*dv u x);rw [<-O5 h] at q3;have:d4*(dqB R w+dqB R u)=dqB R w*d4+d4*dqB R u:=by grind
       rw [this] at d4b;exact absurd (Za hD (Za q3 (by clear h1 h2; grind:_<=dqB R w*d4+d4*dqB R u))) (Jk.2 d4b)
     have hw:=P9 hw (Mt hx hy hR (Za hab (by clear h1 h2; grind)) e4b);exact Qxc hw.1 hw.2
   have lx:Po f x=if Fo (ev f x)≠0 then Fo (ev f x) else s:=by rw [s1]; rfl
   have ly:Po f y=if Fo (ev f y)≠0 then Fo (ev f y) else s:=by rw [s2]; rfl
   clear h1 h2 i1 i2 i3 i4;have hsv:s=1\/s=-1:=by rcases Gp (ev g x) with ⟨e,_⟩ | ⟨e,_⟩ | ⟨e,_⟩ <;> omega
   unfold Q7w;simp only [vv,v1,v2];rcases hsv with rfl | rfl
   ·have hm:=Ry.1 hm;rcases Gp (ev f x) with ⟨p1,p2⟩ | ⟨p1,p2⟩ | ⟨p1,p2⟩
    ·rcases Gp (ev f y) with ⟨q1,q2⟩ | ⟨q1,q2⟩ | ⟨q1,q2⟩
     ·rw [p1,q1]; have hsm:=Qxc (p:=f) (x:=x) (y:=y) (by rw [p1,q1]) (by rw [p1]; decide);exact .inl ⟨rfl,hsm,hw hsm⟩
     ·rw [lx,ly,p1,q1]; refine .inr ⟨by simp; omega,by decide,by decide,by decide,by decide⟩
     ·rw [lx,ly,p1,q1]; refine .inr ⟨by simp; omega,by decide,by decide,by decide,by decide⟩
    ·have q1:=Ry.2 (show 0<ev f y by grind);have hsm:Sm f x y:=⟨by rw [lx,q1,p1]; rfl,by rw [lx,ly,q1,p1]; rfl,by rw [lx,p1]; decide⟩;rw [p1,q1]; exact .inl ⟨rfl,hsm,hw hsm⟩
    ·have q1:=Ry.2 (show 0<ev f y by grind);have hsm:Sm f x y:=⟨by rw [lx,q1,p1]; rfl,by rw [lx,ly,q1,p1],by rw [lx,p1]; decide⟩;rw [p1,q1]; exact .inl ⟨rfl,hsm,hw hsm⟩
   ·have hm:=Pm.1 hm;rcases Gp (ev f x) with ⟨p1,p2⟩ | ⟨p1,p2⟩ | ⟨p1,p2⟩
    ·have q1:=Pm.2 (show ev f y<0 by grind);have hsm:Sm f x y:=⟨by rw [lx,q1,p1]; rfl,by rw [lx,ly,q1,p1],by rw [lx,p1]; decide⟩;rw [p1,q1]; exact .inl ⟨rfl,hsm,hw hsm⟩
    ·have q1:=Pm.2 (show ev f y<0 by grind);have hsm:Sm f x y:=⟨by rw [lx,q1,p1]; rfl,by rw [lx,ly,q1,p1]; rfl,by rw [lx,p1]; decide⟩;rw [p1,q1]; exact .inl ⟨rfl,hsm,hw hsm⟩
    ·rcases Gp (ev f y) with ⟨q1,q2⟩ | ⟨q1,q2⟩ | ⟨q1,q2⟩
     ·rw [lx,ly,p1,q1]; refine .inr ⟨by simp; omega,by decide,by decide,by decide,by decide⟩
     ·rw [lx,ly,p1,q1]; refine .inr ⟨by simp; omega,by decide,by decide,by decide,by decide⟩
     ·rw [p1,q1]; have hsm:=Qxc (p:=f) (x:=x) (y:=y) (by rw [p1,q1]) (by rw [p1]; decide);exact .inl ⟨rfl,hsm,hw hsm⟩
theorem Zr5 (z:Rat):∃ n:Nat,z<=(n:Rat):=by
 refine ⟨z.ceil.toNat,?_⟩;have h1:z<=(z.ceil:Rat):=Rat.le_ceil;have h2:(z.ceil:Rat)<=((z.ceil.toNat:Int):Rat):=Ji.2 (Int.self_le_toNat _);exact Za h1 h2
theorem Qa8 {z e:Rat} (he:0<e):∃ n:Nat,z<=(n:Rat)*e:=by
 obtain ⟨n,hn⟩:=Zr5 (z / e);exact ⟨n,by have:=Q5 hn (Qp he); rwa [Gx he] at this⟩
theorem Qe8 {R x y t:Rat} (hx:Fp x<=R) (hy:Fp y<=R) (h1:x<=t) (h2:t<=y):Fp t<=R:=by
 rw [Sw] at *; constructor <;> grind
def Q5a (f w:List Rat) (L:List (List Rat)) (x y:Rat):Prop :=
 vv L y<=vv L x/\(vv L x=vv L y->Sm f x y/\Sm w x y)/\(vv L x=vv L y+1->Po f x≠0/\Po f y=-Po f x)
theorem Q3t {f w:List Rat} {L:List (List Rat)} {x y:Rat} (h:Q7w f w L x y):Q5a f w L x y:=by
 rcases h with ⟨h1,h2,h3⟩ | ⟨h1,h2,h3,_⟩
 ·exact ⟨by omega,λ_=>⟨h2,h3⟩,λh=>by omega⟩
 ·exact ⟨by omega,λh=>by omega,λ_=>⟨h2,h3⟩⟩
theorem Qxd {w:List Rat} {x y z:Rat} (h1:Sm w x y) (h2:Sm w y z):Sm w x z:=⟨by rw [h2.s,h1.l],by rw [h2.l,h1.l],h1.n⟩
theorem Qzu {f w:List Rat} {L:List (List Rat)} {x y z:Rat} (h:Q5a f w L x y) (h':Q5a f w L y z):Q5a f w L x z:=by
 obtain ⟨a1,a2,a3⟩:=h;obtain ⟨b1,b2,b3⟩:=h';refine ⟨by omega,λh=>?_,λh=>?_⟩
 ·obtain ⟨s1,s2⟩:=a2 (by omega);obtain ⟨s3,s4⟩:=b2 (by omega);exact ⟨Qxd s1 s3,Qxd s2 s4⟩
 ·by_cases e:vv L x=vv L y
  ·obtain ⟨s1,_⟩:=a2 e;obtain ⟨s3,s4⟩:=b3 (by omega);exact ⟨s1.n,by rw [s4,s1.l]⟩
  ·obtain ⟨s3,s4⟩:=a3 (by omega);obtain ⟨s1,_⟩:=b2 (by omega);exact ⟨s3,by rw [s1.l,s4]⟩
theorem Zmo {R:Rat} (hR:0<=R) {f w u:List Rat} {L:List (List Rat)} (hc:Stm f L) (h:∀ t,ev f t=ev w t*ev u t) {x y:Rat} (hx:Fp x<=R) (hy:Fp y<=R) (hxy:x<y):Q5a f w L x y:=by
 obtain ⟨e,ep,hl⟩:=loc hR hc h;have key:∀ n:Nat,∀ x,Fp x<=R->x<y->y-x<=(n:Rat)*e->Q5a f w L x y:=by
  intro n
  induction n with
  | zero =>
   intro x hx hxy h; exfalso; have:((0:Nat):Rat)*e=0:=by simp
   grind
  |
   succ n ih =>
   intro x hx hxy hn;rcases Gg (y-x) e with h1 | h1
   ·exact Q3t (hl x y hx hy hxy h1)
   ·have hm:Fp (x+e)<=R:=Qe8 hx hy (by clear hl ih; grind) (by clear hl ih; grind);have hn':(((n+1:Nat):Rat))=(n:Rat)+1:=by push_cast; rfl
    refine Qzu (Q3t (hl x (x+e) hx hm (by clear hl ih; grind) (by clear hl ih; grind))) (ih (x+e) hm (by clear hl ih; grind) ?_);rw [hn'] at hn;clear hl ih; grind
 obtain ⟨n,hn⟩:=Qa8 (z:=y-x) ep;exact key n x hx hxy hn
theorem Qqt (x y:Rat):∃ R:Rat,0<=R/\Fp x<=R/\Fp y<=R:=by
 refine ⟨Fp x+Fp y,?_,?_,?_⟩ <;> (have:=H7 x; have:=H7 y; grind)
theorem Tt (t:Rat):ev [1] t=1:=by simp only [ev]; grind
theorem Ak {f:List Rat} {L:List (List Rat)} (hc:Stm f L) {x y:Rat} (hxy:x<y):vv L y<=vv L x:=by
 obtain ⟨R,hR,hx,hy⟩:=Qqt x y;exact (Zmo hR hc (w:=f) (u:=[1]) (λt=>by rw [Tt]; grind) hx hy hxy).1
theorem Qdo {f w u:List Rat} {L:List (List Rat)} (hc:Stm f L) (h:∀ t,ev f t=ev w t*ev u t) {x y:Rat} (hxy:x<y) (he:vv L x=vv L y):Sm w x y:=by
 obtain ⟨R,hR,hx,hy⟩:=Qqt x y;exact ((Zmo hR hc h hx hy hxy).2.1 he).2
theorem Qtt {f:List Rat} {L:List (List Rat)} (hc:Stm f L) {x y:Rat} (hxy:x<y) (he:vv L x=vv L y):Sm f x y :=
 Qdo hc (w:=f) (u:=[1]) (λt=>by rw [Tt]; grind) hxy he
theorem Qts {f:List Rat} {L:List (List Rat)} (hc:Stm f L) {x y:Rat} (hxy:x<y) (he:vv L x=vv L y+1):Po f x≠0/\Po f y=-Po f x:=by
 obtain ⟨R,hR,hx,hy⟩:=Qqt x y;exact (Zmo hR hc (w:=f) (u:=[1]) (λt=>by rw [Tt]; grind) hx hy hxy).2.2 he
theorem Zew {f:List Rat} {L:List (List Rat)} (hc:Stm f L) (R:Rat) (hR:0<=R):∃ e:Rat,0<e/\∀ x y,Fp x<=R->Fp y<=R->x<y->y-x<=e->vv L x<=vv L y+1:=by
 obtain ⟨e,ep,hl⟩:=loc hR hc (w:=f) (u:=[1]) (λt=>by rw [Tt]; grind);refine ⟨e,ep,λx y hx hy hxy he=>?_⟩;rcases hl x y hx hy hxy he with ⟨h,_⟩ | ⟨h,_⟩ <;> omega
theorem cont {p:List Rat} {x:Rat} (h:Fo (ev p x)≠0):∃ e:Rat,0<e/\∀ y,Fp (y-x)<=e->Fo (ev p y)=Fo (ev p x):=by
 have hd:=Cu (x:=ev p x) λh0=>h (Gk.2 h0)
 have hR:0<=Fp x+1:=by have:=H7 x; grind
 obtain ⟨e,e1,e2,e3⟩:=Hj (Mr hR p) hd;refine ⟨e,e1,λy hy=>(P9 Qq (Mt (x:=x) (by grind) ?_ hR hy e3)).1⟩;have:=S6 (y-x) x;have e:y-x+x=y:=by grind
 rw [e] at this; grind
theorem Zkw {R M:Rat} {p:List Rat} (hM:M=ddB R p) (hR:0<=R) {h:Rat} (hh:0<h):∀ (n:Nat) (x:Rat),Fp x<=R->Fp (x+(n:Rat)*h)<=R->(∀ t,x<=t->t<=x+(n:Rat)*h->0<=dv p t)->ev p x-(n:Rat)*(h*h*M)<=ev p (x+(n:Rat)*h)
 |
  0,x,_,_,_=>by
  have e1:x+((0:Nat):Rat)*h=x:=by rw [show ((0:Nat):Rat)=0 from rfl]; grind
  have e2:((0:Nat):Rat)*(h*h*M)=0:=by simp
  rw [e1,e2]; grind
 |
  n+1,x,hx,hy,hd=>by
  have hn':(((n+1:Nat):Rat))=(n:Rat)+1:=by push_cast; rfl
  rw [hn'] at hy hd ⊢;have hn0:(0:Rat)<=(n:Rat):=Xo;have hnh:=Nh hn0 (Qp hh);have e1:x+((n:Rat)+1)*h=(x+h)+(n:Rat)*h:=by grind
  rw [e1] at hy hd ⊢;have hxh:Fp (x+h)<=R:=Qe8 hx hy (by clear hd; grind) (by clear hd; grind);have ih:=Zkw hM hR hh n (x+h) hxh hy λt h1 h2=>hd t (by clear hd; grind) h2
  have h0:=hd x Qq (by clear hd; grind);have h1:=Zkm p (x+h) x;have h2:=Zaf hxh hx p;rw [<-hM,Sw] at h2;have h3:=Zs h2.1 (Nh (Qp hh) (Qp hh));have h4:=Nh (Qp hh) h0;have e2:x+h-x=h:=by grind
  rw [e2] at h1;clear hd hx hy hxh;grind
theorem Zp3 {p:List Rat} {x y:Rat} (hxy:x<y) (hd:∀ t,x<=t->t<=y->0<=dv p t):ev p x<=ev p y:=by
 obtain ⟨R,hR,hx,hy⟩:=Qqt x y;rcases Gg (ev p x) (ev p y) with h | h
 ·exact h
 ·exfalso;obtain ⟨M,hM⟩:=nmE (ddB R p);have hM0:=Qld hR p;rw [<-hM] at hM0;obtain ⟨e,ep,_,he⟩:=Hj (b:=(y-x)*M) (d:=ev p x-ev p y) (Nh (by grind) hM0) (by grind);obtain ⟨n,hn⟩:=Qa8 (z:=y-x) ep;have hn0:0<(n:Rat):=by
   rcases Gg (n:Rat) 0 with h' | h'
   ·have:=Q5 h' (Qp ep); clear hd; grind
   ·exact h'
  have hh:0<(y-x) / n:=Di (by grind) hn0;have e1:(n:Rat)*((y-x) / n)=y-x:=by rw [Uw]; exact Gx hn0
  have e2:x+(n:Rat)*((y-x) / n)=y:=by rw [e1]; grind
  have h1:=Zkw hM hR hh n x hx (by rw [e2]; exact hy) (by rw [e2]; exact hd);rw [e2] at h1;have h2:(y-x) / n<=e:=by
   rcases Gg ((y-x) / n) e with h' | h'
   ·exact h'
   ·have:=Rat.mul_lt_mul_of_pos_left h' hn0; clear hd; grind
  have h3:(n:Rat)*((y-x) / n*((y-x) / n)*M)=((y-x) / n)*((y-x)*M):=by
   have:(n:Rat)*((y-x) / n*((y-x) / n)*M)=((n:Rat)*((y-x) / n))*(((y-x) / n)*M):=by grind
   rw [this,e1]; grind
  have h4:=Q5 h2 (Nh (x:=y-x) (y:=M) (by grind) hM0);rw [h3] at h1;clear hd; grind
theorem Ziw {p:List Rat} {x y:Rat} (hxy:x<y) (hd:∀ t,x<=t->t<=y->0<dv p t):ev p x<ev p y:=by
 have hx:=hd x Qq (by grind);have hR:0<=Fp x+1:=by have:=H7 x; grind
 obtain ⟨e,e1,e2,e3⟩:=Hj (Qld hR p) hx;obtain ⟨f,f1,f2,f3⟩:=min2 (a:=e) (b:=y-x) e1 (by grind);have hq:Fp (x+f)<=Fp x+1:=by
  have:=S6 x f; have:Fp f=f:=by unfold Fp; split <;> grind
  clear hd; grind
 have h1:=Qmk (p:=p) (x:=x) (y:=x+f) (R:=Fp x+1) (e:=e) (d:=dv p x) (by clear hd; grind) hq hR (by grind) (by grind) (by unfold Fp; split <;> clear hd <;> grind) e3;rw [Ry.2 hx,Ry] at h1;rcases Classical.em (x+f=y) with e | e
 ·rw [<-e]; clear hd; grind
 ·have:=Zp3 (p:=p) (x:=x+f) (y:=y) (by clear hd; grind) λt h1 h2=>Qp (hd t (by clear hd; grind) h2)
  clear hd; grind
structure Cut (c:Rat->Int):Prop where
 val:∀ q,c q=1\/c q=0\/c q=-1
 mono:∀ q r,q<r->c q≠1->c r=-1
 up:∀ q,c q=1->∃ r,q<r/\c r=1
 dn:∀ q,c q=-1->∃ r,r<q/\c r=-1
 lo:∃ q,c q=1
 hi:∃ q,c q=-1
theorem Cut.mono' {c:Rat->Int} (h:Cut c) {q r:Rat} (hqr:q<r) (hr:c r≠-1):c q=1:=by
 rcases Classical.em (c q=1) with e | e
 ·exact e
 ·exact absurd (h.mono q r hqr e) hr
theorem Cut.lt {c:Rat->Int} (h:Cut c) {q r:Rat} (hq:c q=1) (hr:c r=-1):q<r:=by
 rcases Gg r q with e | e
 ·rcases Classical.em (r=q) with e' | e'
  ·rw [e'] at hr; omega
  ·have:=h.mono r q (by grind) (by omega); omega
 ·exact e
theorem Cut.near {c:Rat->Int} (h:Cut c) {e:Rat} (he:0<e):∃ x y,c x=1/\c y=-1/\y-x<=e:=by
 obtain ⟨a,ha⟩:=h.lo;obtain ⟨b,hb⟩:=h.hi;have he2:0<e / 2:=Di he (by decide);have h2:e / 2*2=e:=Gx (by decide);have key:∀ (n:Nat) (a:Rat),c a=1->b-a<=(n:Rat)*(e / 2)->∃ x y,c x=1/\c y=-1/\y-x<=e:=by
  intro n
  induction n with
  |
   zero =>
   intro a ha hn;have:=h.lt ha hb;rw [show ((0:Nat):Rat)=0 from rfl] at hn;exfalso; grind
  |
   succ n ih =>
   intro a ha hn;have hn':(((n+1:Nat):Rat))=(n:Rat)+1:=by push_cast; rfl
   rw [hn'] at hn;rcases h.val (a+e / 2) with h1 | h1 | h1
   ·exact ih _ h1 (by grind)
   ·exact ⟨a,a+e,ha,h.mono (a+e / 2) _ (by grind) (by omega),by grind⟩
   ·exact ⟨a,a+e / 2,ha,h1,by grind⟩
 obtain ⟨n,hn⟩:=Qa8 (z:=b-a) he2;exact key n a ha hn
def Ip (p:List Rat) (c:Rat->Int):Prop:=∀ d:Rat,0<d->∃ x y,c x=1/\c y=-1/\∀ q,x<=q->q<=y->Fp (ev p q)<d
def NZ (p:List Rat) (c:Rat->Int) (s:Int):Prop:=∃ d:Rat,0<d/\∃ x y,c x=1/\c y=-1/\∀ q,x<=q->q<=y->Fo (ev p q)=s/\d<=Fp (ev p q)
def Nr (c:Rat->Int) (P:Rat->Prop):Prop:=∃ x y,c x=1/\c y=-1/\∀ q,x<=q->q<=y->P q
theorem Qzz {c:Rat->Int} {P Q:Rat->Prop} (h1:Nr c P) (h2:Nr c Q):Nr c λq=>P q/\Q q:=by
 obtain ⟨x,y,a1,a2,a3⟩:=h1;obtain ⟨x',y',b1,b2,b3⟩:=h2;refine ⟨if x<=x' then x' else x,if y<=y' then y else y',by split <;> assumption,by split <;> assumption,λq q1 q2=>⟨a3 q ?_ ?_,b3 q ?_ ?_⟩⟩ <;> clear a3 b3 <;> grind
theorem Qj1 {c:Rat->Int} {P Q:Rat->Prop} (h1:Nr c P) (h:∀ q,P q->Q q):Nr c Q:=by
 obtain ⟨x,y,a1,a2,a3⟩:=h1;exact ⟨x,y,a1,a2,λq q1 q2=>h q (a3 q q1 q2)⟩
theorem Qv7 {c:Rat->Int} (hc:Cut c) {P:Rat->Prop} (h1:Nr c P):∃ q,P q/\c q=1:=by
 obtain ⟨x,y,a1,a2,a3⟩:=h1;exact ⟨x,a3 x Qq (Qp (hc.lt a1 a2)),a1⟩
theorem Zcb {c:Rat->Int} (hc:Cut c) {e:Rat} (he:0<e) {P:Rat->Prop} (h1:Nr c P):∃ x y,c x=1/\c y=-1/\y-x<=e/\x<y/\∀ q,x<=q->q<=y->P q:=by
 obtain ⟨x,y,a1,a2,a3⟩:=h1;obtain ⟨x',y',b1,b2,b3⟩:=hc.near he;refine ⟨if x<=x' then x' else x,if y<=y' then y else y',by split <;> assumption,by split <;> assumption,by clear a3; grind,hc.lt (by split <;> assumption) (by split <;> assumption),λq q1 q2=>a3 q ?_ ?_⟩ <;> clear a3 <;> grind
theorem Zkv {c:Rat->Int} (hc:Cut c):∃ R:Rat,0<=R/\Nr c λq=>Fp q<=R:=by
 obtain ⟨x,y,a1,a2,_⟩:=hc.near (e:=1) (by decide);obtain ⟨R,hR,h1,h2⟩:=Qqt x y;exact ⟨R,hR,x,y,a1,a2,λq q1 q2=>Qe8 h1 h2 q1 q2⟩
theorem Qcg {c:Rat->Int} (hc:Cut c) (p:List Rat):Ip p c\/∃ s,s≠0/\NZ p c s:=by
 rcases Classical.em (Ip p c) with h | h
 ·exact .inl h
 ·refine .inr ?_;obtain ⟨d,hd0⟩:=Classical.not_forall.1 h;obtain ⟨dp,hd⟩:=Classical.not_imp.1 hd0;have hd:∀ x y,c x=1->c y=-1->∃ q,x<=q/\q<=y/\d<=Fp (ev p q):=λx y hx hy=>by
   rcases Classical.em (∃ q,x<=q/\q<=y/\d<=Fp (ev p q)) with h' | h'
   ·exact h'
   ·refine absurd ⟨x,y,hx,hy,λq h1 h2=>?_⟩ hd;rcases Gg d (Fp (ev p q)) with h3 | h3
    ·exact absurd ⟨q,h1,h2,h3⟩ h'
    ·exact h3
  obtain ⟨R,hR,hn⟩:=Zkv hc;have hd2:0<d / 2:=Di dp (by decide);have h2:d / 2*2=d:=Gx (by decide);obtain ⟨e,e1,_,e3⟩:=Hj (Mr hR p) hd2;obtain ⟨x,y,hx,hy,hxy,_,hq⟩:=Zcb hc e1 hn;obtain ⟨r,r1,r2,r3⟩:=hd x y hx hy;have key:∀ q,x<=q->q<=y->Fp (ev p q-ev p r)<d / 2:=λq q1 q2 =>
   Mt (hq r r1 r2) (hq q q1 q2) hR (by rw [Sw]; clear hq hd; constructor <;> grind) e3
  refine ⟨Fo (ev p r),λh0=>?_,d / 2,hd2,x,y,hx,hy,λq q1 q2=>⟨(P9 (d:=d) r3 ?_).1,?_⟩⟩
  ·rw [Gk.1 h0,Rx] at r3; clear hq hd key; grind
  ·have:=key q q1 q2; clear hq hd key; grind
  ·have h3:=key q q1 q2;have h4:=S6 (ev p r-ev p q) (ev p q);rw [show ev p r-ev p q+ev p q=ev p r from by clear hq hd key; grind,Q4l] at h4;clear hq hd key; grind
theorem Zn4 {c:Rat->Int} (hc:Cut c) {p:List Rat} {s:Int} (h1:Ip p c) (h2:NZ p c s):False:=by
 obtain ⟨d,dp,h2⟩:=h2;obtain ⟨q,⟨a,b⟩,_⟩:=Qv7 hc (Qzz (h1 d dp) h2);exact absurd b.2 (Jk.2 a)
theorem Ml {c:Rat->Int} (hc:Cut c) {f p q:List Rat} (hf:∀ t,ev f t=ev p t*ev q t) (h:Ip p c):Ip f c:=by
 intro d dp;obtain ⟨R,hR,hn⟩:=Zkv hc;obtain ⟨e,e1,_,e3⟩:=Hj (O7 hR q) dp;refine Qj1 (Qzz hn (h e e1)) λt ⟨h1,h2⟩=>?_
 rw [hf];have:=Hg (Qp h2) (Qih h1 q);exact Jk.1 λh=>absurd (Za h this) (Jk.2 e3)
theorem Qkg {c:Rat->Int} {f p q:List Rat} (hf:∀ t,ev f t=ev p t+ev q t) (h:Ip p c) (h':Ip q c):Ip f c:=by
 intro d dp;have hd2:0<d / 2:=Di dp (by decide);have h2:d / 2*2=d:=Gx (by decide);refine Qj1 (Qzz (h _ hd2) (h' _ hd2)) λt ⟨h1,h2⟩=>?_
 rw [hf];have:=S6 (ev p t) (ev q t);grind
def RS (p:List Rat) (c:Rat->Int) (s:Int):Prop:=∃ y,c y=-1/\∀ q,c q=-1->q<=y->Fo (ev p q)=s
def LS (p:List Rat) (c:Rat->Int) (s:Int):Prop:=∃ x,c x=1/\∀ q,c q=1->x<=q->Fo (ev p q)=s
theorem Qp8 {c:Rat->Int} (hc:Cut c) {p:List Rat} {s:Int} (h:NZ p c s):RS p c s:=by
 obtain ⟨d,dp,x,y,a1,a2,a3⟩:=h;exact ⟨y,a2,λq h1 h2=>(a3 q (Qp (hc.lt a1 h1)) h2).1⟩
theorem Q3v {c:Rat->Int} (hc:Cut c) {p:List Rat} {s:Int} (h:NZ p c s):LS p c s:=by
 obtain ⟨d,dp,x,y,a1,a2,a3⟩:=h;exact ⟨x,a1,λq h1 h2=>(a3 q h2 (Qp (hc.lt h1 a2))).1⟩
theorem Qf0 {c:Rat->Int} {p:List Rat} {s s':Int} (h:RS p c s) (h':RS p c s'):s=s':=by
 obtain ⟨y,a1,a2⟩:=h;obtain ⟨y',b1,b2⟩:=h';rcases Gg y y' with e | e
 ·rw [<-a2 y a1 Qq,<-b2 y a1 e]
 ·rw [<-a2 y' b1 (Qp e),<-b2 y' b1 Qq]
theorem Zkz {c:Rat->Int} (hc:Cut c) {p:List Rat} (hv:Ip p c) {y:Rat} (hy:c y=-1) (h:∀ q,c q=-1->q<=y->0<dv p q) (q:Rat) (hq:c q=-1) (hqy:q<=y):0<ev p q:=by
 rcases Gg (ev p q) 0 with h0 | h0
 ·exfalso;obtain ⟨r,r1,r2⟩:=hc.dn q hq;have hr:ev p r<ev p q:=Ziw r1 λt t1 t2=>h t (by
   rcases Classical.em (r=t) with e | e
   ·rw [<-e]; exact r2
   ·exact hc.mono r t (by clear h; grind) (by omega)) (Za t2 hqy)
  obtain ⟨a,b,ha,hb,hab⟩:=hv (-ev p r) (by clear h; grind);obtain ⟨m,hm1,hm2,hm3⟩:∃ m,c m=-1/\m<=b/\m<=r:=by
   rcases Gg b r with e | e
   ·exact ⟨b,hb,Qq,e⟩
   ·exact ⟨r,r2,Qp e,Qq⟩
  have h1:=hab m (Qp (hc.lt ha hm1)) hm2;have h2:ev p m<=ev p r:=by
   rcases Classical.em (m=r) with e | e
   ·rw [e]; exact Qq
   ·exact Qp (Ziw (by clear h hab; grind) λt t1 t2=>h t (by
     rcases Classical.em (m=t) with e | e
     ·rw [<-e]; exact hm1
     ·exact hc.mono m t (by clear h hab; grind) (by omega)) (by clear h hab; grind))
  rw [Qs1] at h1;clear h hab; grind
 ·exact h0
theorem Qs8 {c:Rat->Int} (hc:Cut c) {p:List Rat} {s:Int} (hv:Ip p c) (h:RS (Bl p) c s) (hs:s≠0):RS p c s:=by
 obtain ⟨y,hy,h⟩:=h;have hsv:s=1\/s=-1:=by
  have:=h y hy Qq;rcases Gp (ev (Bl p) y) with ⟨e,_⟩ | ⟨e,_⟩ | ⟨e,_⟩ <;> omega
 rcases hsv with rfl | rfl
 ·refine ⟨y,hy,λq h1 h2=>Ry.2 (Zkz hc hv hy (λq h1 h2=>?_) q h1 h2)⟩;rw [<-Tp]; exact Ry.1 (h q h1 h2)
 ·refine ⟨y,hy,λq h1 h2=>Pm.2 ?_⟩;have:=Zkz hc (p:=Nj (-1) p) (y:=y) (λd dp=>Qj1 (hv d dp) λq hq=>by rw [Ge,show -1*ev p q=-ev p q by grind,Ee]; exact hq) hy (λq h1 h2=>by
   rw [Qg0,<-Tp];have:=Pm.1 (h q h1 h2); grind) q h1 h2
  rw [Ge] at this; grind
theorem Zks {c:Rat->Int} (hc:Cut c) {p:List Rat} (hv:Ip p c) {x:Rat} (hx:c x=1) (h:∀ q,c q=1->x<=q->0<dv p q) (q:Rat) (hq:c q=1) (hxq:x<=q):ev p q<0:=by
 rcases Gg 0 (ev p q) with h0 | h0
 ·exfalso;obtain ⟨r,r1,r2⟩:=hc.up q hq;have hr:ev p q<ev p r:=Ziw r1 λt t1 t2=>h t (by
   rcases Classical.em (t=r) with e | e
   ·rw [e]; exact r2
   ·exact hc.mono' (q:=t) (r:=r) (by clear h; grind) (by omega)) (Za hxq t1)
  obtain ⟨a,b,ha,hb,hab⟩:=hv (ev p r) (by clear h; grind);obtain ⟨m,hm1,hm2,hm3⟩:∃ m,c m=1/\a<=m/\r<=m:=by
   rcases Gg a r with e | e
   ·exact ⟨r,r2,e,Qq⟩
   ·exact ⟨a,ha,Qq,Qp e⟩
  have h1:=hab m hm2 (Qp (hc.lt hm1 hb));have h2:ev p r<=ev p m:=by
   rcases Classical.em (r=m) with e | e
   ·rw [e]; exact Qq
   ·exact Qp (Ziw (by clear h hab; grind) λt t1 t2=>h t (by
     rcases Classical.em (t=m) with e | e
     ·rw [e]; exact hm1
     ·exact hc.mono' (q:=t) (r:=m) (by clear h hab; grind) (by omega)) (by clear h hab; grind))
  rw [Qs1] at h1;clear h hab; grind
 ·exact h0
theorem Zbx {c:Rat->Int} (hc:Cut c) {p:List Rat} {s:Int} (hv:Ip p c) (h:LS (Bl p) c s) (hs:s≠0):LS p c (-s):=by
 obtain ⟨x,hx,h⟩:=h;have hsv:s=1\/s=-1:=by
  have:=h x hx Qq;rcases Gp (ev (Bl p) x) with ⟨e,_⟩ | ⟨e,_⟩ | ⟨e,_⟩ <;> omega
 rcases hsv with rfl | rfl
 ·refine ⟨x,hx,λq h1 h2=>Pm.2 (Zks hc hv hx (λq h1 h2=>?_) q h1 h2)⟩;rw [<-Tp]; exact Ry.1 (h q h1 h2)
 ·refine ⟨x,hx,λq h1 h2=>Ry.2 ?_⟩;have:=Zks hc (p:=Nj (-1) p) (x:=x) (λd dp=>Qj1 (hv d dp) λq hq=>by rw [Ge,show -1*ev p q=-ev p q by grind,Ee]; exact hq) hx (λq h1 h2=>by
   rw [Qg0,<-Tp];have:=Pm.1 (h q h1 h2); grind) q h1 h2
  rw [Ge] at this; grind
theorem Zi4 {c:Rat->Int} (hc:Cut c) {f g:List Rat} {l:List (List Rat)} (h:SCl f g l):Ip f c->Ip g c->False:=by
 induction h with
 |
  @base f g k hk hg =>
  intro _ hv;obtain ⟨q,hq,_⟩:=Qv7 hc (hv (Fp k) (Cu hk));rw [hg] at hq; grind
 |
  @step f g h l a b q ha hb he hl ih =>
  intro hf hg;refine ih hg ?_;have h1:Ip (G8 q g) c:=Ml hc (p:=g) (q:=q) (λt=>by rw [Fj]; grind) hg;have h2:Ip (Nj (-a) f) c:=Ml hc (p:=f) (q:=[-a]) (λt=>by rw [Ge]; simp only [ev]; grind) hf;have h3:Ip (Ty (G8 q g) (Nj (-a) f)) c:=Qkg (λt=>Gt t _ _) h1 h2;refine Ml hc (p:=Ty (G8 q g) (Nj (-a) f)) (q:=[1 / b]) (λt=>?_) h3;have:=he t;rw [Gt,Fj,Ge];simp only [ev];have hbb:1 / b*b=1:=Gx hb;have:ev q t*ev g t+-a*ev f t=b*ev h t:=by rw [show -a*ev f t=-(a*ev f t) by grind,he t]; grind
  rw [this];have:b*ev h t*(1 / b+t*0)=ev h t*(1 / b*b):=by grind
  rw [this,hbb]; grind
theorem Qqp {c:Rat->Int} (hc:Cut c) {f g:List Rat} {k:Rat} (h:∀ t,ev g t=k*ev f t) (hv:Ip f c):Ip g c :=
 Ml hc (p:=f) (q:=[k]) (λt=>by rw [h]; simp only [ev]; grind) hv
theorem Zjf {c:Rat->Int} (hc:Cut c) {f:List Rat} {L:List (List Rat)} (h:Stm f L) (hv:Ip f c):∃ s,s≠0/\NZ (Bl f) c s:=by
 rcases Qcg hc (Bl f) with h1 | h1
 ·exfalso;rcases h with ⟨k,hk,hf,_⟩ | ⟨g,l,k,hk,hg,h,_⟩
  ·obtain ⟨q,hq,_⟩:=Qv7 hc (hv (Fp k) (Cu hk));rw [hf] at hq; grind
  ·exact Zi4 hc h hv (Qqp hc (λt=>by rw [hg,Tp]) h1)
 ·exact h1
theorem Q20 {c:Rat->Int} (hc:Cut c) {f w u:List Rat} {L:List (List Rat)} (h:Stm f L) (hf:∀ t,ev f t=ev w t*ev u t) (hv:Ip w c):∃ s,s≠0/\NZ (Bl w) c s:=by
 rcases Qcg hc (Bl w) with h1 | h1
 ·exfalso;obtain ⟨s,_,hs⟩:=Zjf hc h (Ml hc hf hv);refine Zn4 hc ?_ hs;have a1:Ip (G8 (Bl w) u) c:=Ml hc (λt=>Fj t _ _) h1;have a2:Ip (G8 w (Bl u)) c:=Ml hc (λt=>Fj t _ _) hv;refine Qkg (λt=>?_) a1 a2;rw [Tp,O5 hf,Fj,Fj,Tp,Tp]
 ·exact h1
theorem Zac {c:Rat->Int} (hc:Cut c) {q:Rat} (h:c q=0) {x y:Rat} (hx:c x=1) (hy:c y=-1):x<=q/\q<=y:=by
 constructor
 ·rcases Gg x q with e | e
  ·exact e
  ·have:=hc.mono q x e (by omega); omega
 ·rcases Gg q y with e | e
  ·exact e
  ·have:=hc.mono y q e (by omega); omega
theorem Qh6 {c:Rat->Int} (hc:Cut c) {p:List Rat} {q:Rat} (h:c q=0) (hv:Ip p c):ev p q=0:=by
 rcases Classical.em (ev p q=0) with e | e
 ·exact e
 ·obtain ⟨x,y,hx,hy,hq⟩:=hv _ (Cu e);obtain ⟨h1,h2⟩:=Zac hc h hx hy;have:=hq q h1 h2; grind
theorem Qwb {c:Rat->Int} (hc:Cut c) {p:List Rat} {q:Rat} {s:Int} (h:c q=0) (hv:NZ p c s):Fo (ev p q)=s:=by
 obtain ⟨d,dp,x,y,hx,hy,hq⟩:=hv;obtain ⟨h1,h2⟩:=Zac hc h hx hy;exact (hq q h1 h2).1
theorem Qy5 {c:Rat->Int} (hc:Cut c) {y z:Rat} (hy:c y=-1) (hz:c z=-1):∃ q,c q=-1/\q<y/\q<z:=by
 obtain ⟨a,a1,a2⟩:=hc.dn y hy;obtain ⟨b,b1,b2⟩:=hc.dn z hz;rcases Gg a b with e | e
 ·exact ⟨a,a2,a1,by grind⟩
 ·exact ⟨b,b2,by grind,b1⟩
theorem Qlb {c:Rat->Int} (hc:Cut c) {y z:Rat} (hy:c y=1) (hz:c z=1):∃ q,c q=1/\y<q/\z<q:=by
 obtain ⟨a,a1,a2⟩:=hc.up y hy;obtain ⟨b,b1,b2⟩:=hc.up z hz;rcases Gg a b with e | e
 ·exact ⟨b,b2,by grind,b1⟩
 ·exact ⟨a,a2,a1,by grind⟩
theorem Zca {f w u:List Rat} {L:List (List Rat)} (h:Stm f L) (hf:∀ t,ev f t=ev w t*ev u t) {x y:Rat} (hv:vv L x=vv L y) {c:Rat->Int} (hc:Cut c) (hx:c x=1) (hy:c y≠1):¬Ip w c:=λhw=>by
 have hxy:x<y:=by
  rcases Gg y x with e | e
  ·rcases Classical.em (y=x) with e' | e'
   ·rw [e'] at hy; exact absurd hx hy
   ·have:=hc.mono y x (by grind) hy; omega
  ·exact e
 have hwv:=Qdo h hf hxy hv;rcases hc.val y with e | e | e
 ·exact hy e
 ·have:=Qh6 hc e hw;have:=hwv.s;rw [Gk.2 (by assumption)] at this;exact hwv.n this.symm
 ·obtain ⟨s,hs,hd⟩:=Q20 hc h hf hw;obtain ⟨a,ha,hal⟩:=Zbx hc hw (Q3v hc hd) hs;obtain ⟨b,hb,hbr⟩:=Qs8 hc hw (Qp8 hc hd) hs;obtain ⟨q,q1,q2,q3⟩:=Qlb hc hx ha;obtain ⟨r,r1,r2,r3⟩:=Qy5 hc hb e;have e1:=hal q q1 (Qp q3);have e2:=hbr r r1 (Qp r2);have hqr:=hc.lt q1 r1;have v1:vv L q<=vv L x:=Ak h q2;have v2:vv L y<=vv L r:=Ak h r3;have v3:vv L r<=vv L q:=Ak h hqr;have s1:=(Qdo h hf q2 (by omega)).s;have s2:=(Qdo h hf (x:=x) (y:=r) (by grind) (by omega)).s;omega
theorem Qtl {f:List Rat} {L:List (List Rat)} (h:Stm f L) {x y:Rat} (hxy:x<y) (hv:vv L x≠vv L y) {d:Rat} (dp:0<d):∃ q,x<=q/\q<=y/\Fp (ev f q)<d:=by
 obtain ⟨R,hR,hx,hy⟩:=Qqt x y;obtain ⟨e1,e1p,hl⟩:=loc hR h (w:=f) (u:=[1]) (λt=>by rw [Tt]; grind);obtain ⟨e2,e2p,_,e2b⟩:=Hj (Mr hR f) dp;obtain ⟨e,ep,h1,h2⟩:=min2 e1p e2p;have key:∀ n:Nat,∀ x,Fp x<=R->x<y->vv L x≠vv L y->y-x<=(n:Rat)*e->∃ q,x<=q/\q<=y/\Fp (ev f q)<d:=by
  intro n
  induction n with
  | zero=>intro x hx hxy _ hn; rw [show ((0:Nat):Rat)=0 from rfl] at hn; exfalso; clear hl; grind
  |
   succ n ih =>
   intro x hx hxy hv hn;have hstep:∀ z,Fp z<=R->x<z->z-x<=e->vv L x≠vv L z->Fp (ev f z)<d:=λz hz hxz hze hv=>by
    rcases hl x z hx hz hxz (Za hze h1) with ⟨p,_⟩ | ⟨_,p1,p2,p3,p4⟩
    ·exact absurd p hv
    ·have hd:=Mt (p:=f) hx hz hR (e:=e2) (d:=d) (by rw [Sw]; clear hl ih; constructor <;> grind) e2b;rw [<-p3] at p1 p4;clear hl ih p2 p3;rw [Qs1] at *;rcases Gp (ev f x) with ⟨a,a'⟩ | ⟨a,a'⟩ | ⟨a,a'⟩ <;> rcases Gp (ev f z) with ⟨b,b'⟩ | ⟨b,b'⟩ | ⟨b,b'⟩ <;> rw [a,b] at p4 <;> first | (exfalso; revert p4; decide) | skip
     all_goals first | (constructor <;> grind) | (exfalso; omega)
   rcases Gg (y-x) e with h3 | h3
   ·exact ⟨y,Qp hxy,Qq,hstep y hy hxy h3 hv⟩
   ·have hm:Fp (x+e)<=R:=Qe8 hx hy (by clear hl ih hstep; grind) (by clear hl ih hstep; grind);rcases Classical.em (vv L x=vv L (x+e)) with e0 | e0
    ·have hn':(((n+1:Nat):Rat))=(n:Rat)+1:=by push_cast; rfl
     rw [hn'] at hn;obtain ⟨q,q1,q2,q3⟩:=ih (x+e) hm (by clear hl ih hstep; grind) (by omega) (by clear hl ih hstep; grind);exact ⟨q,by clear hl ih hstep; grind,q2,q3⟩
    ·exact ⟨x+e,by clear hl ih hstep; grind,by clear hl ih hstep; grind,hstep (x+e) hm (by clear hl ih hstep; grind) (by clear hl ih hstep; grind) e0⟩
 obtain ⟨n,hn⟩:=Qa8 (z:=y-x) ep;exact key n x hx hxy hv hn
theorem Zpk {p:List Rat} {x:Rat} (h:Po p x≠0):∃ e:Rat,0<e/\∀ y,x<y->y-x<=e->Fo (ev p y)=Po p x:=by
 by_cases h0:Fo (ev p x)=0
 ·have hx:=Gk.1 h0;rw [Qzw h0] at h ⊢;have hR:0<=Fp x+1:=by have:=H7 x; grind
  obtain ⟨e,e1,e2,e3⟩:=Hj (Qld hR p) (Cu (x:=dv p x) λh'=>h (Gk.2 h'));refine ⟨e,e1,λy h1 h2=>?_⟩;have hy:Fp y<=Fp x+1:=by
   have:=S6 x (y-x);have e:x+(y-x)=y:=by grind
   have e':Fp (y-x)=y-x:=by unfold Fp; split <;> grind
   rw [e,e'] at this; grind
  have:=Qmk (p:=p) (by grind) hy hR h1 h2 Qq e3;rw [hx] at this;rw [<-this]; congr 1; grind
 ·rw [E9 h0] at h ⊢;obtain ⟨e,e1,e2⟩:=cont h;exact ⟨e,e1,λy h1 h2=>e2 y (by rw [Sw]; constructor <;> grind)⟩
def cq (P:List Rat) (lo hi q:Rat):Int:=if q<=lo then 1 else if hi<q then -1 else if Fo (ev P q)=0 then 0 else if Fo (ev P q)=Po P lo then 1 else -1
structure Vt (P:List Rat) (L:List (List Rat)) (lo hi:Rat):Prop where
 s:Stm P L
 l:lo<hi
 v:vv L lo=vv L hi+1
variable {P:List Rat} {L:List (List Rat)} {lo hi:Rat}
theorem C6 {q:Rat} (h:q<=lo):cq P lo hi q=1:=by unfold cq; rw [if_pos h]
theorem Qaw {q:Rat} (h:lo<hi) (h':hi<q):cq P lo hi q=-1:=by unfold cq; rw [if_neg (by grind),if_pos h']
theorem Ca {q:Rat} (h1:lo<q) (h2:q<=hi):cq P lo hi q=if Fo (ev P q)=0 then 0 else if Fo (ev P q)=Po P lo then 1 else -1:=by
 unfold cq; rw [if_neg (by grind),if_neg (by grind)]
theorem Vt.two (V:Vt P L lo hi) {q:Rat} (h1:lo<q) (h2:q<=hi):vv L q=vv L lo/\cq P lo hi q=1/\Fo (ev P q)=Po P lo\/vv L q=vv L hi/\cq P lo hi q≠1/\Po P q=-Po P lo/\Po P lo≠0:=by
 have a:=Ak V.s h1;have b:vv L hi<=vv L q:=by
  rcases Classical.em (q=hi) with e | e
  ·rw [e]; exact Ql _
  ·exact Ak V.s (by grind)
 have hv:=V.v;rcases (show vv L q=vv L lo\/vv L q=vv L hi by omega) with e | e
 ·have hs:=Qtt V.s h1 e.symm;refine .inl ⟨e,?_,hs.s⟩;rw [Ca h1 h2,hs.s,if_neg hs.n,if_pos rfl]
 ·obtain ⟨o1,o2⟩:=Qts V.s h1 (by omega);refine .inr ⟨e,?_,o2,o1⟩;rw [Ca h1 h2]
  split
  ·decide
  ·rename_i h0;rw [E9 h0] at o2;rw [if_neg (by omega)]; decide
theorem Vt.lowlo (V:Vt P L lo hi):Po P lo≠0:=(Qts V.s V.l V.v).1
theorem Vt.eq_lo (V:Vt P L lo hi) {q:Rat} (h1:lo<q) (h2:q<=hi) (h:cq P lo hi q=1):vv L q=vv L lo:=by
 rcases V.two h1 h2 with ⟨e,_⟩ | ⟨_,e,_⟩
 ·exact e
 ·exact absurd h e
theorem Vt.eq_hi (V:Vt P L lo hi) {q:Rat} (h1:lo<q) (h2:q<=hi) (h:cq P lo hi q≠1):vv L q=vv L hi:=by
 rcases V.two h1 h2 with ⟨_,e,_⟩ | ⟨e,_⟩
 ·exact absurd e h
 ·exact e
theorem Vt.hi1 (V:Vt P L lo hi):cq P lo hi hi≠1:=λh=>by have:=V.eq_lo V.l Qq h; have:=V.v; omega
theorem Vt.cut (V:Vt P L lo hi):Cut (cq P lo hi) where
 val q:=by unfold cq; split <;> (try split) <;> (try split) <;> (try split) <;> simp
 mono q r h h1:=by
  have hq:lo<q:=by
   rcases Gg q lo with e | e
   ·exact absurd (C6 e) h1
   ·exact e
  rcases Gg r hi with e | e
  ·have e1:=V.eq_hi hq (by grind) h1;rcases V.two (q:=r) (by grind) e with ⟨e2,_⟩ | ⟨e2,_,e3,e4⟩
   ·have:=Ak V.s h; have:=V.v; omega
   ·have hs:=Qtt V.s h (by omega);rcases V.two hq (by grind) with ⟨e5,_⟩ | ⟨_,_,e5,_⟩
    ·have:=V.v; omega
    ·rw [Ca (by grind) e,hs.s,if_neg hs.n,e5,if_neg (by omega)]
  ·exact Qaw V.l e
 up q h:=by
  rcases Gg q lo with e | e
  ·obtain ⟨d,dp,hd⟩:=Zpk V.lowlo;obtain ⟨f,fp,f1,f2⟩:=min2 (a:=d) (b:=hi-lo) dp (by have:=V.l; grind);have h1:lo<lo+f:=by clear hd; grind
   have h2:lo+f<=hi:=by clear hd; grind
   have:=hd (lo+f) h1 (by clear hd; grind);exact ⟨lo+f,by clear hd; grind,by rw [Ca h1 h2,this,if_neg V.lowlo,if_pos rfl]⟩
  ·have hh:q<=hi:=by
    rcases Gg q hi with e' | e'
    ·exact e'
    ·have:=Qaw (P:=P) V.l e'; omega
   rcases V.two e hh with ⟨e1,_,e2⟩ | ⟨_,e1,_⟩
   ·have hn:q≠hi:=λh=>by rw [h] at e1; have:=V.v; omega
    obtain ⟨d,dp,hd⟩:=cont (p:=P) (x:=q) (by rw [e2]; exact V.lowlo);obtain ⟨f,fp,f1,f2⟩:=min2 (a:=d) (b:=hi-q) dp (by clear hd; grind);have:=hd (q+f) (by rw [Sw]; clear hd; constructor <;> grind);exact ⟨q+f,by clear hd; grind,by rw [Ca (by clear hd; grind) (by clear hd; grind),this,e2,if_neg V.lowlo,if_pos rfl]⟩
   ·exact absurd h e1
 dn q h:=by
  have hq:lo<q:=by
   rcases Gg q lo with e | e
   ·have:=C6 (P:=P) (hi:=hi) e; omega
   ·exact e
  rcases Gg q hi with e | e
  ·rw [Ca hq e] at h
   split at h
   ·cases h
   rename_i h0
   split at h
   ·cases h
   rename_i h1;obtain ⟨d,dp,hd⟩:=cont h0;obtain ⟨f,fp,f1,f2⟩:=min2 (a:=d) (b:=(q-lo) / 2) dp (Di (by clear hd; grind) (by decide));have h2:(q-lo) / 2*2=q-lo:=Gx (by decide);have:=hd (q-f) (by rw [Sw]; clear hd; constructor <;> grind);exact ⟨q-f,by clear hd; grind,by rw [Ca (by clear hd; grind) (by clear hd; grind),this,if_neg h0,if_neg h1]⟩
  ·have h2:(q-hi) / 2*2=q-hi:=Gx (by decide);exact ⟨q-(q-hi) / 2,by grind,Qaw V.l (by grind)⟩
 lo:=⟨lo,C6 Qq⟩
 hi:=⟨hi+1,Qaw V.l (by grind)⟩
theorem Vt.van (V:Vt P L lo hi):Ip P (cq P lo hi):=by
 have hc:=V.cut;rcases Qcg hc P with h | ⟨s,hs,h⟩
 ·exact h
 ·exfalso;have e1:s=Po P lo:=by
   obtain ⟨x,hx,hx1⟩:=Q3v hc h;obtain ⟨q,q1,q2,q3⟩:=Qlb hc hx (C6 (P:=P) (hi:=hi) (Qq (a:=lo)));have hq:q<=hi:=by
    rcases Gg q hi with e | e
    ·exact e
    ·have:=Qaw (P:=P) V.l e; omega
   rcases V.two q3 hq with ⟨_,_,e⟩ | ⟨_,e,_⟩
   ·rw [<-hx1 q q1 (Qp q2),e]
   ·exact absurd q1 e
  rcases hc.val hi with e | e | e
  ·exact V.hi1 e
  ·have h0:=Qwb hc e h;rw [Ca V.l Qq] at e
   split at e
   ·omega
   ·split at e <;> omega
  ·obtain ⟨y,hy,hy1⟩:=Qp8 hc h;obtain ⟨q,q1,q2,q3⟩:=Qy5 hc hy e;have hq:lo<q:=hc.lt (C6 (P:=P) (hi:=hi) (Qq (a:=lo))) q1;have:=hy1 q q1 (Qp q2);rw [Ca hq (Qp q3),this,if_neg hs,if_pos e1] at q1;cases q1
def Qzl (w:List Rat) (lo hi:Rat):Prop:=Fo (ev w hi)=0\/Fo (ev w hi)≠Po w lo
theorem Vt.has (V:Vt P L lo hi) {w u:List Rat} (hf:∀ t,ev P t=ev w t*ev u t) {a b:Rat} (h1:lo<=a) (h2:a<b) (h3:b<=hi):Qzl w a b↔Ip w (cq P lo hi)/\cq P lo hi a=1/\cq P lo hi b≠1:=by
 have hc:=V.cut;have smno:vv L a=vv L b->¬Qzl w a b:=λh hh=>by
  have:=Qdo V.s hf h2 h;rcases hh with e | e
  ·rw [this.s] at e; exact this.n e
  ·exact e this.s
 by_cases ha:cq P lo hi a=1
 ·by_cases hb:cq P lo hi b=1
  ·have e1:=V.eq_lo (by grind) h3 hb;have e2:vv L a=vv L lo:=by
    rcases Classical.em (lo=a) with e | e
    ·rw [e]
    ·exact V.eq_lo (by grind) (by grind) ha
   exact ⟨λh=>absurd h (smno (by omega)),λh=>absurd hb h.2.2⟩
  ·have e1:=V.eq_hi (by grind) h3 hb;have e2:vv L a=vv L lo:=by
    rcases Classical.em (lo=a) with e | e
    ·rw [e]
    ·exact V.eq_lo (by grind) (by grind) ha
   have left:∀ s,LS w (cq P lo hi) s->s=Po w a:=λs hs=>by
    obtain ⟨x,hx,hx1⟩:=hs;obtain ⟨q,q1,q2,q3⟩:=Qlb hc hx ha;have hqb:q<b:=by
     rcases Gg b q with e | e
     ·rcases Classical.em (b=q) with e' | e'
      ·rw [e'] at hb; exact absurd q1 hb
      ·have:=hc.mono b q (by clear hx1 smno; grind) hb; omega
     ·exact e
    have:=V.eq_lo (q:=q) (by clear hx1 smno; grind) (by clear hx1 smno; grind) q1;rw [<-(Qdo V.s hf q3 (by omega)).s,hx1 q q1 (Qp q2)]
   have right:∀ s,RS w (cq P lo hi) s->cq P lo hi b=-1->s=Fo (ev w b):=λs hs hb=>by
    obtain ⟨y,hy,hy1⟩:=hs;obtain ⟨q,q1,q2,q3⟩:=Qy5 hc hy hb;have hqa:=hc.lt ha q1;have:=V.eq_hi (q:=q) (by clear hy1 smno; grind) (by clear hy1 smno; grind) (by omega);have hs:=Qdo V.s hf q3 (by omega);have hl:=hy1 q q1 (Qp q2);have h0:Fo (ev w q)≠0:=by
     have hs2:=Qdo V.s hf (x:=q) (y:=b) q3 (by omega);intro h0;obtain ⟨r,r1,r2⟩:=hc.dn q q1;have har:=hc.lt ha r2;have:=V.eq_hi (q:=r) (by clear hy1 smno; grind) (by clear hy1 smno; grind) (by omega);have hs3:=Qdo V.s hf (x:=r) (y:=q) r1 (by omega);have hs4:=hs3.s;rw [h0] at hs4; exact hs3.n hs4.symm
    rw [hs.s,E9 h0,hl]
   refine ⟨λh=>⟨?_,ha,hb⟩,λ⟨hw,_,_⟩=>?_⟩
   ·rcases Qcg hc w with e | ⟨s,hs0,hs⟩
    ·exact e
    ·exfalso;have l1:=left s (Q3v hc hs);have r1:Fo (ev w b)=s:=by
      rcases hc.val b with e | e | e
      ·exact absurd e hb
      ·exact Qwb hc e hs
      ·exact (right s (Qp8 hc hs) e).symm
     rcases h with h | h
     ·exact hs0 (by rw [<-r1]; exact h)
     ·exact h (by rw [r1,l1])
   ·rcases hc.val b with e | e | e
    ·exact absurd e hb
    ·exact .inl (Gk.2 (Qh6 hc e hw))
    ·obtain ⟨s,hs0,hs⟩:=Q20 hc V.s hf hw;have l1:=left _ (Zbx hc hw (Q3v hc hs) hs0);have r1:=right _ (Qs8 hc hw (Qp8 hc hs) hs0) e;exact .inr (by rw [<-l1,<-r1]; omega)
 ·have hla:lo<a:=by
   rcases Classical.em (lo=a) with e | e
   ·rw [<-e] at ha; exact absurd (C6 Qq) ha
   ·grind
  have hb:cq P lo hi b≠1:=by have:=hc.mono a b h2 ha; omega
  have e1:=V.eq_hi hla (by grind) ha;have e2:=V.eq_hi (q:=b) (by grind) h3 hb;exact ⟨λh=>absurd h (smno (by omega)),λh=>absurd h.2.1 ha⟩
theorem Quw {c c':Rat->Int} (hc:Cut c) (hc':Cut c') {q:Rat} (h:c q≠c' q):∃ r,(c r=-1/\c' r=1)\/(c r=1/\c' r=-1):=by
 rcases hc.val q with e | e | e <;> rcases hc'.val q with e' | e' | e'
 ·omega
 ·obtain ⟨r,r1,r2⟩:=hc.up q e;exact ⟨r,.inr ⟨r2,hc'.mono q r r1 (by omega)⟩⟩
 ·exact ⟨q,.inr ⟨e,e'⟩⟩
 ·obtain ⟨r,r1,r2⟩:=hc'.up q e';exact ⟨r,.inl ⟨hc.mono q r r1 (by omega),r2⟩⟩
 ·omega
 ·obtain ⟨r,r1,r2⟩:=hc'.dn q e';exact ⟨r,.inr ⟨hc.mono' r1 (by omega),r2⟩⟩
 ·exact ⟨q,.inl ⟨e,e'⟩⟩
 ·obtain ⟨r,r1,r2⟩:=hc.dn q e;exact ⟨r,.inl ⟨r2,hc'.mono' r1 (by omega)⟩⟩
 ·omega
theorem Vt.uniq (V:Vt P L lo hi) {c:Rat->Int} (hc:Cut c) (h1:c lo=1) (h2:c hi≠1) (hv:Ip P c) (q:Rat):c q=cq P lo hi q:=by
 rcases Classical.em (c q=cq P lo hi q) with e | e
 ·exact e
 ·exfalso;obtain ⟨r,⟨r1,r2⟩ | ⟨r1,r2⟩⟩:=Quw hc V.cut e
  ·have hl:=hc.lt h1 r1;have hh:r<=hi:=by
    rcases Gg r hi with e | e
    ·exact e
    ·have:=Qaw (P:=P) V.l e; omega
   have:=V.eq_lo hl hh r2;exact Zca V.s (w:=P) (u:=[1]) (λt=>by rw [Tt]; grind) (x:=lo) (y:=r) (by omega) hc h1 (by omega) hv
  ·have hl:lo<r:=by
    rcases Gg r lo with e | e
    ·have:=C6 (P:=P) (hi:=hi) e; omega
    ·exact e
   have hh:r<=hi:=by
    rcases Gg r hi with e | e
    ·exact e
    ·have:=hc.mono hi r e h2; omega
   have:=V.eq_hi hl hh (by omega);exact Zca V.s (w:=P) (u:=[1]) (λt=>by rw [Tt]; grind) (x:=r) (y:=hi) (by omega) hc r1 h2 hv
theorem Vt.same (V:Vt P L lo hi) {P':List Rat} {L':List (List Rat)} {lo' hi':Rat} (V':Vt P' L' lo' hi') {g u u' U W:List Rat} {k:Rat} (hk:k≠0) (h1:∀ t,ev P t=ev g t*ev u t) (h2:∀ t,ev P' t=ev g t*ev u' t) (h3:∀ t,k*ev g t=ev U t*ev P t+ev W t*ev P' t) {a b:Rat} (ha1:lo<=a) (ha2:lo'<=a) (ha:a=lo\/a=lo') (hb1:b<=hi) (hb2:b<=hi') (hb:b=hi\/b=hi'):(a<b/\Qzl g a b)↔∀ q,cq P lo hi q=cq P' lo' hi' q:=by
 have hc:=V.cut;have hc':=V'.cut;constructor
 ·rintro ⟨hab,hg⟩
  obtain ⟨g1,g2,g3⟩:=(V.has h1 ha1 hab hb1).1 hg;obtain ⟨g4,g5,g6⟩:=(V'.has h2 ha2 hab hb2).1 hg;intro q;refine (V.uniq hc' (by
   rcases Classical.em (lo=a) with e | e
   ·rw [e]; exact g5
   ·exact hc'.mono' (q:=lo) (r:=a) (by grind) (by omega)) (λh=>?_) (Ml hc' h1 g4) q).symm
  rcases Classical.em (b=hi) with e | e
  ·rw [<-e] at h; exact g6 h
  ·have:=hc'.mono b hi (by grind) g6; omega
 ·intro h;have hcc:cq P' lo' hi'=cq P lo hi:=funext λq=>(h q).symm
  have e1:cq P lo hi a=1:=by
   rcases ha with rfl | rfl
   ·exact C6 Qq
   ·rw [h]; exact C6 Qq
  have e2:cq P lo hi b≠1:=by
   rcases hb with rfl | rfl
   ·exact V.hi1
   ·rw [h]; exact V'.hi1
  have hab:a<b:=by
   rcases Gg b a with e | e
   ·rcases Classical.em (b=a) with e' | e'
    ·rw [e'] at e2; exact absurd e1 e2
    ·have:=hc.mono b a (by grind) e2; omega
   ·exact e
  have v1:=V.van;have v2:=V'.van;rw [hcc] at v2;have hg:Ip g (cq P lo hi):=by
   have a1:Ip (G8 U P) (cq P lo hi):=Ml hc (p:=P) (q:=U) (λt=>by rw [Fj]; grind) v1;have a2:Ip (G8 W P') (cq P lo hi):=Ml hc (p:=P') (q:=W) (λt=>by rw [Fj]; grind) v2;have a3:=Qkg (λt=>Gt t _ _) a1 a2;refine Qqp hc (k:=1 / k) (λt=>?_) a3;rw [Gt,Fj,Fj,<-h3];have:1 / k*(k*ev g t)=1 / k*k*ev g t:=by grind
   rw [this,show 1 / k*k=1 from Zj hk]; grind
  exact ⟨hab,(V.has h1 ha1 hab hb1).2 ⟨hg,e1,e2⟩⟩
end Orq
namespace Orq
theorem Zco:∀ (M:Nat) (f:Nat->Nat),(∀ i,i<=M->f i<M)->∃ i j,i<j/\j<=M/\f i=f j
 | 0,f,h=>absurd (h 0 (Ql _)) (U3 _)
 |
  M+1,f,h=>by
  rcases Classical.em (∃ i,i<=M/\f i=f (M+1)) with ⟨i,h1,h2⟩ | hn
  ·exact ⟨i,M+1,by omega,Ql _,h2⟩
  ·have hne:∀ i,i<=M->f i≠f (M+1):=λi hi e=>hn ⟨i,hi,e⟩
   obtain ⟨i,j,h1,h2,h3⟩:=Zco M (λi=>if f i=M then f (M+1) else f i) λi hi=>by
    have a1:=h i (by omega);have a2:=h (M+1) (Ql _);have a3:=hne i hi;show (if f i=M then f (M+1) else f i)<M
    split <;> omega
   refine ⟨i,j,h1,by omega,?_⟩;have a1:=hne i (by omega);have a2:=hne j h2
   split at h3 <;> split at h3 <;> omega
def dg (B k i:Nat):Nat:=k / B^i % B
theorem Q2y (B k i:Nat):dg B k (i+1)=dg B (k / B) i:=by unfold dg; rw [Nat.pow_succ,Nat.mul_comm,Nat.div_div_eq_div_mul]
theorem Zag {B:Nat}:∀ (N:Nat) {k k':Nat},k<B^N->k'<B^N->(∀ i,i<N->dg B k i=dg B k' i)->k=k'
 | 0,k,k',h,h',_=>by rw [Vm] at h h'; omega
 |
  N+1,k,k',h,h',he=>by
  have h0:=he 0 (by omega);unfold dg at h0;rw [Vm,Nat.div_one,Nat.div_one] at h0;have hB:0<B:=by
   rcases Q0 B with e | e
   ·rw [e,Zr,Y7] at h; omega
   ·exact e
  have h1:=Zag N (k:=k / B) (k':=k' / B) (Jc (by rw [Zg,<-Zr]; exact h)) (Jc (by rw [Zg,<-Zr]; exact h')) λi hi=>by
   rw [<-Q2y,<-Q2y]; exact he (i+1) (by omega)
  rw [<-Uy k B,<-Uy k' B,h0,h1]
def cd (B:Nat):Nat->(Nat->Nat)->Nat
 | 0,_=>0
 | E+1,x=>x 0+B*cd B E λe=>x (e+1)
theorem Zkg {B:Nat}:∀ (E:Nat) {x:Nat->Nat},(∀ e,e<E->x e<B)->cd B E x<B^E
 | 0,_,_=>by simp [cd]
 |
  E+1,x,h=>by
  have h1:=h 0 (by omega);have h2:=Zkg E (x:=λe=>x (e+1)) λe he=>h (e+1) (by omega)
  simp only [cd];have h3:B*cd B E (λe=>x (e+1))+B<=B*B^E:=by
   rw [<-Wg]; exact Zk _ h2
  rw [Zr,Zg (B^E)]; omega
theorem Q92 {B:Nat}:∀ (E:Nat) {x y:Nat->Nat},(∀ e,e<E->x e<B)->(∀ e,e<E->y e<B)->cd B E x=cd B E y->∀ e,e<E->x e=y e
 | 0,_,_,_,_,_,e,he=>by omega
 |
  E+1,x,y,hx,hy,h,e,he=>by
  have h1:=hx 0 (by omega);have h2:=hy 0 (by omega);simp only [cd] at h;have e0:x 0=y 0:=by
   have:=congrArg (· % B) h;simp only [K9] at this;rwa [X5 h1,X5 h2] at this
  have e1:cd B E (λe=>x (e+1))=cd B E (λe=>y (e+1)):=Nat.eq_of_mul_eq_mul_left (by omega:0<B) (by omega);cases e with
  | zero=>exact e0
  | succ e=>exact Q92 E (λe he=>hx (e+1) (by omega)) (λe he=>hy (e+1) (by omega)) e1 e (by omega)
def sm:Nat->(Nat->Int)->Int
 | 0,_=>0
 | n+1,f=>sm n f+f n
theorem Zd6 (f g:Nat->Int):∀ n,sm n (λi=>f i-g i)=sm n f-sm n g
 | 0=>rfl
 | n+1=>by simp only [sm,Zd6 f g n]; omega
theorem Lf {f g:Nat->Int}:∀ n,(∀ i,i<n->f i=g i)->sm n f=sm n g
 | 0,_=>rfl
 | n+1,h=>by simp only [sm,Lf n (λi hi=>h i (by omega)),h n (by omega)]
theorem Zd5 {f:Nat->Int} {b:Nat}:∀ n,(∀ i,i<n->(f i).natAbs<=b)->(sm n f).natAbs<=n*b
 | 0,_=>by simp [sm]
 |
  n+1,h=>by
  have h1:=Zd5 n λi hi=>h i (by omega)
  have h2:=h n (by omega);simp only [sm];rw [Xd]; omega
theorem Qc5 {f:Nat->Int}:∀ n,(∀ i,i<n->f i=0)->sm n f=0
 | 0,_=>rfl
 | n+1,h=>by simp only [sm,Qc5 n (λi hi=>h i (by omega)),h n (by omega)]; rfl
theorem Q04 (f:Nat->Int) (m:Nat):∀ n,sm (m+n) f=sm m f+sm n λi=>f (m+i)
 | 0=>by simp [sm]
 | n+1=>by rw [<-Ym]; simp only [sm,Q04 f m n]; omega
theorem Q05 (f:Nat->Int) (J:Nat):∀ b,sm (b*J) f=sm b λi=>sm J λj=>f (i*J+j)
 | 0=>by simp [sm]
 | b+1=>by rw [Xd,Q04,Q05 f J b]; rfl
theorem Qne {f:Nat->Int} {k:Nat}:∀ n,k<n->(∀ i,i<n->i≠k->f i=0)->sm n f=f k
 | 0,h,_=>by omega
 |
  n+1,h,h1=>by
  simp only [sm];rcases Vx (Nat.le_of_lt_succ h) with e | e
  ·rw [Qne n e λi hi=>h1 i (by omega),h1 n (by omega) (by omega)]; omega
  ·subst e; rw [Qc5 k λi hi=>h1 i (by omega) (by omega)]; omega
theorem Znl {M:Nat->Nat->Int} {h N E H:Nat} (hM:∀ e i,(M e i).natAbs<=h) (hc:(2*(N*(h*H))+1)^E<(H+1)^N) :
 ∃ v:Nat->Int,(∀ i,(v i).natAbs<=H)/\(∃ i,i<N/\v i≠0)/\∀ e,e<E->sm N (λi=>M e i*v i)=0:=by
 obtain ⟨T,hT⟩:=nmE (N*(h*H));rw [<-hT] at hc;have hv:∀ k i,dg (H+1) k i<=H:=λk i=>Nat.le_of_lt_succ (Xf _ (by omega))
 have hs:∀ k e,(sm N λi=>M e i*(dg (H+1) k i:Int)).natAbs<=T:=λk e=>by
  rw [hT];refine Zd5 N λi _=>?_
  rw [Jx,Xc];exact Zh (hM e i) (hv k i)
 have him:∀ k e,((sm N λi=>M e i*(dg (H+1) k i:Int))+T).toNat<2*T+1:=λk e=>by have:=hs k e; omega
 obtain ⟨i,j,h1,h2,h3⟩:=Zco ((2*T+1)^E) (λk=>cd (2*T+1) E λe=>((sm N λi=>M e i*(dg (H+1) k i:Int))+T).toNat) λk _=>Zkg E λe _=>him k e
 have h4:=Q92 E (λe _=>him i e) (λe _=>him j e) h3;refine ⟨λn=>(dg (H+1) i n:Int)-dg (H+1) j n,λn=>?_,?_,λe he=>?_⟩
 ·have a1:=hv i n;have a2:=hv j n;show ((dg (H+1) i n:Int)-dg (H+1) j n).natAbs<=H;omega
 ·rcases Classical.em (∃ n,n<N/\(dg (H+1) i n:Int)-dg (H+1) j n≠0) with e | e
  ·exact e
  ·exfalso;have:i=j:=Zag (B:=H+1) N (by omega) (by omega) λn hn=>by
    rcases Classical.em (dg (H+1) i n=dg (H+1) j n) with e' | e'
    ·exact e'
    ·exact absurd ⟨n,hn,by omega⟩ e
   omega
 ·have a1:=h4 e he;have a2:=hs i e;have a3:=hs j e;have:(sm N λn=>M e n*(dg (H+1) i n:Int))=sm N λn=>M e n*(dg (H+1) j n:Int):=by omega
  have e1:=Zd6 (λn=>M e n*(dg (H+1) i n:Int)) (λn=>M e n*(dg (H+1) j n:Int)) N;rw [this] at e1;rw [Lf N (g:=λn=>M e n*(dg (H+1) i n:Int)-M e n*(dg (H+1) j n:Int)) λn _=>Int.mul_sub _ _ _,e1]; omega
def Fe:List Int->Rat->Rat
 | [],_=>0
 | a::p,t=>(a:Rat)+t*Fe p t
def sq:Nat->(Nat->Rat)->Rat
 | 0,_=>0
 | n+1,f=>sq n f+f n
theorem P4 {f g:Nat->Rat}:∀ n,(∀ i,i<n->f i=g i)->sq n f=sq n g
 | 0,_=>rfl
 | n+1,h=>by simp only [sq,P4 n (λi hi=>h i (by omega)),h n (by omega)]
theorem Q09 (f g:Nat->Rat):∀ n,sq n (λi=>f i+g i)=sq n f+sq n g
 | 0=>by simp only [sq]; grind
 | n+1=>by simp only [sq,Q09 f g n]; grind
theorem Qcd (c:Rat) (f:Nat->Rat):∀ n,sq n (λi=>c*f i)=c*sq n f
 | 0=>by simp only [sq]; grind
 | n+1=>by simp only [sq,Qcd c f n]; grind
theorem Cx {f:Nat->Rat}:∀ n,(∀ i,i<n->f i=0)->sq n f=0
 | 0,_=>rfl
 | n+1,h=>by simp only [sq,Cx n (λi hi=>h i (by omega)),h n (by omega)]; grind
theorem Oi (f:Nat->Rat):∀ n,sq (n+1) f=f 0+sq n λi=>f (i+1)
 | 0=>by simp only [sq]; grind
 | n+1=>by rw [sq,Oi f n]; simp only [sq]; grind
theorem Zk2 {f:Nat->Rat} {b:Rat}:∀ n,(∀ i,i<n->Fp (f i)<=b)->Fp (sq n f)<=(n:Rat)*b
 | 0,_=>by rw [show ((0:Nat):Rat)=0 from rfl]; simp only [sq,Rx]; grind
 |
  n+1,h=>by
  have h1:=Zk2 n λi hi=>h i (by omega)
  have h2:=h n (by omega);have h3:=S6 (sq n f) (f n);have hn':(((n+1:Nat):Rat))=(n:Rat)+1:=by push_cast; rfl
  rw [hn']; simp only [sq]; clear h; grind
def gc:List Int->Nat->Nat->Int
 | [],_,_=>0
 | c::B,k,j=>(if k=0/\j=0 then c else 0)+(if k=0 then 0 else gc B (k-1) j)-(if j=0 then 0 else gc B k (j-1))
def gB:List Int->Nat
 | []=>0
 | c::B=>max c.natAbs (2*gB B)
theorem Qjv:∀ (B:List Int) (k j:Nat),B.length<=k+j->gc B k j=0
 | [],_,_,_=>rfl
 |
  c::B,k,j,h=>by
  simp only [Q7] at h;simp only [gc];rw [if_neg (by omega)];have e1:(if k=0 then 0 else gc B (k-1) j)=0:=by
   split
   ·rfl
   ·exact Qjv B _ _ (by omega)
  have e2:(if j=0 then 0 else gc B k (j-1))=0:=by
   split
   ·rfl
   ·exact Qjv B _ _ (by omega)
  rw [e1,e2]; rfl
theorem Za8:∀ (B:List Int) (k j:Nat),(gc B k j).natAbs<=gB B
 | [],_,_=>Qi _
 |
  c::B,k,j=>by
  have h1:=Za8 B (k-1) j;have h2:=Za8 B k (j-1);simp only [gc,gB];by_cases hk:k=0 <;> by_cases hj:j=0 <;> simp only [hk,hj,true_and,and_true,false_and,and_false,if_true,if_false] <;> (try subst hk) <;> (try subst hj) <;> omega
theorem Za9:∀ (B:List Int) (b:Nat),B.length=b+1->(gc B 0 b).natAbs=(B.getD b 0).natAbs
 | [],_,h=>by simp at h
 | [c],0,_=>by simp [gc]
 | c::d::B,0,h=>by simp at h
 |
  c::B,b+1,h=>by
  have ih:=Za9 B b (by simpa using h);simp only [gc];simp only [J4,Q3];rw [if_pos trivial,if_neg (Nat.succ_ne_zero b),<-ih]; omega
def E2 (F:Nat->Nat->Int) (K J:Nat) (x y:Rat):Rat:=sq K λk=>sq J λj=>(F k j:Rat)*(y^k*x^j)
theorem Qy9 (F G:Nat->Nat->Int) (K J:Nat) (x y:Rat):E2 (λk j=>F k j+G k j) K J x y=E2 F K J x y+E2 G K J x y:=by
 unfold E2;rw [<-Q09];refine P4 K λk _=>?_
 rw [<-Q09];exact P4 J λj _=>by push_cast; grind
theorem Zao (c:Int) (F:Nat->Nat->Int) (K J:Nat) (x y:Rat):E2 (λk j=>F k j*c) K J x y=(c:Rat)*E2 F K J x y:=by
 unfold E2;rw [<-Qcd];refine P4 K λk _=>?_
 rw [<-Qcd];exact P4 J λj _=>by push_cast; grind
theorem Zap (φ:Nat->Nat->Nat->Int) (v:Nat->Int) (K J:Nat) (x y:Rat):∀ N,E2 (λk j=>sm N λn=>φ n k j*v n) K J x y=sq N λn=>(v n:Rat)*E2 (φ n) K J x y
 |
  0=>by
  simp only [sq,sm];unfold E2;refine Cx K λk _=>Cx J λj _=>?_
  rw [show ((0:Int):Rat)=0 from rfl]; grind
 |
  N+1=>by
  simp only [sq];rw [<-Zap φ v K J x y N,<-Zao,<-Qy9];rfl
theorem Qfw (t:Rat) (i:Nat):∀ k,t^(i+k)=t^i*t^k
 | 0=>by rw [Xx,Xi]; grind
 | k+1=>by rw [<-Ym,Xe,Xe,Qfw t i k]; grind
theorem Qng (f:Nat->Rat):∀ (i n:Nat),sq (i+n) (λk=>if i<=k then f (k-i) else 0)=sq n f
 | i,0=>Cx _ λk hk=>by rw [if_neg (by omega)]
 |
  i,n+1=>by
  rw [<-Ym]; simp only [sq];rw [Qng f i n,if_pos (by omega),Jq]
def shF (i j':Nat) (F:Nat->Nat->Int) (k j:Nat):Int:=if i<=k then (if j'<=j then F (k-i) (j-j') else 0) else 0
theorem Qlo (F:Nat->Nat->Int) (i j' K J:Nat) (x y:Rat):E2 (shF i j' F) (i+K) (j'+J) x y=y^i*x^j'*E2 F K J x y:=by
 unfold E2;rw [<-Qcd,<-Qng _ i K];refine P4 _ λk _=>?_
 by_cases hk:i<=k
 ·rw [if_pos hk,<-Qcd,<-Qng _ j' J];refine P4 _ λj _=>?_
  unfold shF;rw [if_pos hk];by_cases hj:j'<=j
  ·rw [if_pos hj,if_pos hj];have e1:y^k=y^i*y^(k-i):=by rw [<-Qfw]; congr 1; omega
   have e2:x^j=x^j'*x^(j-j'):=by rw [<-Qfw]; congr 1; omega
   rw [e1,e2]; grind
  ·rw [if_neg hj,if_neg hj,show ((0:Int):Rat)=0 from rfl]; grind
 ·rw [if_neg hk];refine Cx _ λj _=>?_
  unfold shF;rw [if_neg hk,show ((0:Int):Rat)=0 from rfl]; grind
def fA (A:List Int) (k j:Nat):Int:=if j=0 then A.getD k 0 else 0
theorem Zcn (y:Rat):∀ (A:List Int) (K:Nat),A.length<=K->sq K (λk=>((A.getD k 0:Int):Rat)*y^k)=Fe A y
 | [],K,_=>by rw [Cx]; rfl; intro i _; simp
 | a::A,0,h=>by simp at h
 |
  a::A,K+1,h=>by
  have ih:=Zcn y A K (by simpa using h);rw [Oi];simp only [Fe,Zu,Q3,Xi];rw [<-ih,<-Qcd];have:(sq K λi=>((A.getD i 0:Int):Rat)*y^(i+1))=sq K λi=>y*(((A.getD i 0:Int):Rat)*y^i):=P4 K λi _=>by rw [Xe]; grind
  rw [this]; grind
theorem Zpc (A:List Int) (K J:Nat) (x y:Rat) (h:A.length<=K):E2 (fA A) K (J+1) x y=Fe A y:=by
 rw [<-Zcn y A K h];refine P4 K λk _=>?_
 rw [Oi,Cx]
 ·simp only [fA,if_true,Xi]; grind
 ·intro j _;simp only [fA];rw [if_neg (by omega),show ((0:Int):Rat)=0 from rfl]; grind
theorem Zmd (x y:Rat):∀ (B:List Int) (K J:Nat),B.length<=K->B.length<=J->E2 (gc B) K J x y=Fe B (y-x)
 |
  [],K,J,_,_=>by
  unfold E2;simp only [gc,Fe];exact Cx K λk _=>Cx J λj _=>by rw [show ((0:Int):Rat)=0 from rfl]; grind
 | c::B,0,J,h,_=>by simp at h
 | c::B,K+1,0,_,h=>by simp at h
 |
  c::B,K+1,J+1,h1,h2=>by
  have i1:=Zmd x y B K (J+1) (by simpa using h1) (by simp at h2; omega);have i2:=Zmd x y B (K+1) J (by simp at h1; omega) (by simpa using h2);have s1:=Qlo (gc B) 1 0 K (J+1) x y;have s2:=Qlo (gc B) 0 1 (K+1) J x y;rw [Zx,Jm 1 K] at s1;rw [Zx,Jm 1 J] at s2;rw [i1] at s1;rw [i2] at s2;have e0:E2 (fA [c]) (K+1) (J+1) x y=(c:Rat):=by rw [Zpc [c] (K+1) J x y (by simp)]; simp only [Fe]; grind
  have e1:gc (c::B)=λk j=>(fA [c] k j+shF 1 0 (gc B) k j)+shF 0 1 (gc B) k j*(-1):=by
   funext k j;simp only [gc,fA,shF];by_cases hk:k=0 <;> by_cases hj:j=0
   ·subst hk; subst hj; simp
   ·subst hk; simp [hj,show 1<=j by omega]
    try omega
   ·subst hj;obtain ⟨m,rfl⟩:∃ m,k=m+1:=⟨k-1,by omega⟩;simp
   ·obtain ⟨m,rfl⟩:∃ m,k=m+1:=⟨k-1,by omega⟩;obtain ⟨i,rfl⟩:∃ i,j=i+1:=⟨j-1,by omega⟩;simp; omega
  rw [e1,Qy9 (λk j=>fA [c] k j+shF 1 0 (gc B) k j) (λk j=>shF 0 1 (gc B) k j*(-1)),Qy9 (fA [c]) (shF 1 0 (gc B)),Zao,e0,s1,s2];simp only [Fe,Xi,show y^1=y by rw [Xe,Xi]; grind,show x^1=x by rw [Xe,Xi]; grind];rw [show (((-1:Int)):Rat)=-1 from rfl];grind
def phi (A B:List Int) (b J J' n k j:Nat):Int:=if n<b*J then shF (n / J) (n % J) (fA A) k j else shF ((n-b*J) / J') ((n-b*J) % J') (gc B) k j
theorem Zd0 {F:Nat->Nat->Int} {h:Nat} (hF:∀ k j,(F k j).natAbs<=h) (i j' k j:Nat):(shF i j' F k j).natAbs<=h:=by
 unfold shF; split
 ·split
  ·exact hF _ _
  ·exact Qi _
 ·exact Qi _
theorem Zkr {i b J j:Nat} (hi:i<b) (hj:j<J):i*J+j<b*J:=by
 have:(i+1)*J<=b*J:=Qx J hi;rw [Xd] at this; omega
theorem Qhf {i J j:Nat} (hj:j<J):(i*J+j) / J=i/\(i*J+j) % J=j:=by
 rw [Zg,Uz (by omega),U0,Ko hj,X5 hj]; exact ⟨by omega,rfl⟩
theorem Qqi (A B:List Int) (a b J J':Nat) (v:Nat->Int) (k j:Nat):sm (b*J+a*J') (λn=>phi A B b J J' n k j*v n) =
 (sm b λi=>sm J λj1=>shF i j1 (fA A) k j*v (i*J+j1))+sm a λi=>sm J' λj1=>shF i j1 (gc B) k j*v (b*J+(i*J'+j1)):=by
 rw [Q04,Q05,Q05];congr 1
 ·refine Lf b λi hi=>Lf J λj1 hj=>?_
  unfold phi;rw [if_pos (Zkr hi hj),(Qhf hj).1,(Qhf hj).2]
 ·refine Lf a λi hi=>Lf J' λj1 hj=>?_
  unfold phi;rw [if_neg (by omega),Jq,(Qhf hj).1,(Qhf hj).2]
theorem Zo7 (A:List Int) (v:Nat->Int) {i J k j:Nat} (hj:j<J):(sm J λj1=>shF i j1 (fA A) k j*v (i*J+j1))=if i<=k then A.getD (k-i) 0*v (i*J+j) else 0:=by
 rw [Qne (k:=j) J hj λj1 _ hne=>?_]
 ·unfold shF fA;by_cases h:i<=k
  ·rw [if_pos h,if_pos h,if_pos (Ql _),if_pos (Jw _)]
  ·rw [if_neg h,if_neg h,Yk]
 ·unfold shF fA;by_cases h:i<=k
  ·rw [if_pos h];by_cases h':j1<=j
   ·rw [if_pos h',if_neg (by omega),Yk]
   ·rw [if_neg h',Yk]
  ·rw [if_neg h,Yk]
section
variable {A B:List Int} {a b J J':Nat} (hA:A.length=a+1) (hB:B.length=b+1) (lA:A.getD a 0≠0) (lB:B.getD b 0≠0) (hJ:J=J'+b) {v:Nat->Int} (hW:∀ k j,k<a+b->j<J->sm (b*J+a*J') (λn=>phi A B b J J' n k j*v n)=0)
include hA lA hW in
theorem Zki {jj:Nat} (hj:jj<J) (hV:∀ k,a<=k->k<a+b->(sm a λi=>sm J' λj1=>shF i j1 (gc B) k jj*v (b*J+(i*J'+j1)))=0):∀ d i,i<b->b-i<=d->v (i*J+jj)=0:=by
 intro d
 induction d with
 | zero=>intro i hi hd; omega
 |
  succ d ih =>
  intro i hi hd;have h1:=hW (i+a) jj (by omega) hj;rw [Qqi,hV (i+a) (by omega) (by omega)] at h1;rw [Lf b (λi' hi'=>Zo7 A v hj)] at h1;rw [Qne (k:=i) b hi λi' hi' hne=>?_] at h1
  ·rw [if_pos (by omega),Jq,Int.add_zero] at h1;rcases Yq.1 h1 with h2 | h2
   ·exact absurd h2 lA
   ·exact h2
  ·rcases Q9 i i' with h | h
   ·rw [ih i' hi' (by omega)]; simp
   ·rw [if_pos (by omega),Qe,Qt (by omega)]; simp
include hA hB lA lB hJ hW in
theorem Zpa:∀ d js,js<J'->J'-js<=d->∀ i,i<a->v (b*J+(i*J'+js))=0:=by
 intro d
 induction d with
 | zero=>intro js hi hd; omega
 |
  succ d ih =>
  intro js hjs hd i hi;have hin:∀ i' k,i'<a->(sm J' λj1=>shF i' j1 (gc B) k (js+b)*v (b*J+(i'*J'+j1)))=if i'=k then gc B 0 b*v (b*J+(i'*J'+js)) else 0:=λi' k hi'=>by
   rw [Qne (k:=js) J' hjs λj1 hj1 hne=>?_]
   ·unfold shF;by_cases h:i'<=k
    ·rw [if_pos h,if_pos (by omega),Jq];by_cases h':i'=k
     ·rw [if_pos h',h',Jw]
     ·rw [if_neg h',Qjv B _ _ (by omega),Yk]
    ·rw [if_neg h,if_neg (by omega),Yk]
   ·rcases Q9 js j1 with h | h
    ·rw [ih j1 hj1 (by omega) i' hi',Kc]
    ·unfold shF;by_cases h':i'<=k
     ·rw [if_pos h',if_pos (by omega),Qjv B _ _ (by omega),Yk]
     ·rw [if_neg h',Yk]
  have hU:=Zki hA lA hW (jj:=js+b) (by omega) (λk hk hk'=>Qc5 a λi' hi'=>by rw [hin i' k hi',if_neg (by omega)]) (b+1);have h1:=hW i (js+b) (by omega) (by omega);rw [Qqi,Lf a (λi' hi'=>hin i' i hi')] at h1;rw [Qc5 b λi' hi'=>by
   rw [Zo7 A v (by omega),hU i' hi' (by omega)]; simp] at h1
  rw [Qne (k:=i) a hi λi' hi' hne=>if_neg hne,if_pos rfl,Int.zero_add] at h1;rcases Yq.1 h1 with h2 | h2
  ·have:=Za9 B b hB; rw [h2] at this; omega
  ·exact h2
include hA hB lA lB hJ hW in
theorem Q72:∀ n,n<b*J+a*J'->v n=0:=by
 intro n hn;have hV:=Zpa hA hB lA lB hJ hW;rcases Q9 n (b*J) with h | h
 ·have hJp:0<J:=by
   rcases Q0 J with e | e
   ·rw [e,Y7] at h; omega
   ·exact e
  have e1:=Xf n hJp;have e2:n / J<b:=Jc (by rw [Zg]; exact h);have:=Zki hA lA hW e1 (λk _ _=>Qc5 a λi hi=>Qc5 J' λj1 hj1=>by rw [hV J' j1 hj1 (by omega) i hi,Kc]) (b+1) (n / J) e2 (Qc (Nat.sub_le _ _) (Nat.le_succ _));rwa [Zg,Xk] at this
 ·have hJp:0<J':=by
   rcases Q0 J' with e | e
   ·rw [e,Y7] at hn; omega
   ·exact e
  have e1:=Xf (n-b*J) hJp;have e2:(n-b*J) / J'<a:=Jc (by rw [Zg J' a]; omega);have:=hV J' _ e1 (by omega) _ e2;rw [Zg ((n-b*J) / J'),Xk] at this;rwa [show b*J+(n-b*J)=n by omega] at this
end
theorem Qc1 {R x:Rat} (h1:1<=R) (hx:Fp x<=R):∀ k:Nat,Fp (x^k)<=R^k/\1<=R^k
 | 0=>by rw [Xi,Xi]; exact ⟨by decide,by decide⟩
 |
  k+1=>by
  obtain ⟨i1,i2⟩:=Qc1 h1 hx k;rw [Xe,Xe];have:=Mw (a:=1) (c:=1) (by decide) i2 (by decide) h1;exact ⟨Hg i1 hx,by grind⟩
theorem Q4m {R:Rat} (h1:1<=R) {i:Nat}:∀ k,i<=k->R^i<=R^k
 | 0,h=>by rw [show i=0 by omega]; exact Qq
 |
  k+1,h=>by
  rcases Vx h with e | e
  ·have:=Q4m h1 (i:=i) k (by omega);have h2:=(Qc1 h1 (x:=0) (by rw [Rx]; grind) k).2;rw [Xe];have:=Mw (a:=R^k) (b:=R^k) (c:=1) (d:=R) (by grind) Qq (by decide) h1;grind
  ·rw [e]; exact Qq
theorem Zdz {F:Nat->Nat->Int} {i j' K J:Nat} {x y R X:Rat} {K2 J2:Nat} (h1:1<=R) (hx:Fp x<=R) (hy:Fp y<=R) (hK:K=i+K2) (hJ:J=j'+J2) (hF:E2 F K2 J2 x y=X):Fp (E2 (shF i j' F) K J x y)<=R^(K+J)*Fp X:=by
 subst hK; subst hJ;rw [Qlo,hF,Ed];have a1:=(Qc1 h1 hy i).1;have a2:=(Qc1 h1 hx j').1;have a3:=Hg a1 a2;rw [<-Qfw] at a3;have a4:=Q4m h1 (i:=i+j') (i+K2+(j'+J2)) (by omega);exact Mw (H7 _) (Za a3 a4) (H7 _) Qq
theorem Zng {A B:List Int} {a b h:Nat} (hA:A.length=a+1) (hB:B.length=b+1) (lA:A.getD a 0≠0) (lB:B.getD b 0≠0) (ha:0<a) (hb:0<b) (h0:1<=h) (bA:∀ k,(A.getD k 0).natAbs<=h) (bB:gB B<=h) {J J' N H:Nat} (hJ:J=2*(a*b)) (hJ':J=J'+b) (hN:N=b*J+a*J') (hH:H=(2*(N*h))^(2*(a+b-1))) :
 ∃ w:Nat->Int,(∃ j,j<J/\w j≠0)/\(∀ j,(w j).natAbs<=N*(h*H))/\∀ R:Rat,1<=R->∃ C:Rat,0<=C/\∀ x y,Fp x<=R->Fp y<=R->Fp (sq J λj=>(w j:Rat)*x^j)<=C*(Fp (Fe A y)+Fp (Fe B (y-x))):=by
 have hab:0<a*b:=Yl ha hb;have hbd:∀ n k j,(phi A B b J J' n k j).natAbs<=h:=λn k j=>by
  unfold phi
  split
  ·exact Zd0 (λk j=>by unfold fA; split; exact bA k; exact Nat.zero_le _) _ _ _ _
  ·exact Zd0 (λk j=>Qc (Za8 B k j) bB) _ _ _ _
 have hJp:0<J:=by omega
 have hNp:1<=N:=by
  have:0<b*J:=Yl hb hJp;omega
 have hNh:1<=N*h:=Yl hNp h0;obtain ⟨E,hE⟩:=nmE ((a+b-1)*J);have hNE:N=E+a*b:=by
  have e1:(a+b-1)*J+J=(a+b)*J:=by
   rw [<-Xd]; congr 1; omega
  have e2:a*J=a*J'+a*b:=by rw [hJ',Xt]
  rw [Jg] at e1;omega
 have hc:(2*(N*(h*H))+1)^E<(H+1)^N:=by
  have c1:2*(N*(h*H))+1<=2*(N*h)*(H+1):=by
   rw [Xt,Y6,Xp 2,Xp N]; omega
  refine Zz (Nat.pow_le_pow_left c1 E) ?_;rw [Nat.mul_pow,hNE,Xj,Zg];refine Nat.mul_lt_mul_of_pos_left ?_ (Z9 (by omega));have e1:(2*(N*h))^E=H^(a*b):=by
   rw [hH,<-U7,hE,hJ]; congr 1;rw [Zg 2 (a+b-1),Xp]
  rw [<-hNE,e1];exact Nat.pow_lt_pow_left (by omega) (by omega)
 obtain ⟨v,v1,⟨n0,n1,n2⟩,v3⟩:=Znl (M:=λe n=>phi A B b J J' n (e / J+1) (e % J)) (h:=h) (N:=N) (E:=E) (H:=H) (λe n=>hbd n _ _) hc;have hW:∀ k j,1<=k->k<a+b->j<J->sm N (λn=>phi A B b J J' n k j*v n)=0:=λk j k1 k2 hj=>by
  have:=v3 ((k-1)*J+j) (by rw [hE]; exact Zkr (by omega) hj);rwa [(Qhf hj).1,(Qhf hj).2,show k-1+1=k by omega] at this
 refine ⟨λj=>sm N λn=>phi A B b J J' n 0 j*v n,?_,λj=>?_,λR hR=>?_⟩
 ·rcases Classical.em (∃ j,j<J/\(sm N λn=>phi A B b J J' n 0 j*v n)≠0) with e | e
  ·exact e
  ·exfalso;refine n2 (Q72 hA hB lA lB hJ' (v:=v) (λk j hk hj=>?_) n0 (by rw [<-hN]; exact n1));rw [<-hN];rcases Q0 k with e' | e'
   ·subst e';rcases Classical.em ((sm N λn=>phi A B b J J' n 0 j*v n)=0) with e2 | e2
    ·exact e2
    ·exact absurd ⟨j,hj,e2⟩ e
   ·exact hW k j e' hk hj
 ·refine Zd5 N λn _=>?_
  rw [Jx];exact Zh (hbd n 0 j) (v1 n)
 ·have hRp:∀ k:Nat,1<=R^k:=λk=>(Qc1 hR (x:=0) (by rw [Rx]; grind) k).2
  have hHn:(0:Rat)<=(H:Rat):=Xo;have hNn:(0:Rat)<=(N:Rat):=Xo;refine ⟨(N:Rat)*((H:Rat)*R^(a+b+J)),Nh hNn (Nh hHn (by have:=hRp (a+b+J); grind)),λx y hx hy=>?_⟩;have e1:(sq J λj=>((sm N λn=>phi A B b J J' n 0 j*v n:Int):Rat)*x^j)=E2 (λk j=>sm N λn=>phi A B b J J' n k j*v n) (a+b) J x y:=by
   unfold E2;obtain ⟨m,hm⟩:∃ m,a+b=m+1:=⟨a+b-1,by omega⟩;rw [hm,Oi,Cx (n:=m)]
   ·have:(sq J λj=>((sm N λn=>phi A B b J J' n 0 j*v n:Int):Rat)*(y^0*x^j))=sq J λj=>((sm N λn=>phi A B b J J' n 0 j*v n:Int):Rat)*x^j:=P4 J λj _=>by rw [Xi]; grind
    rw [this]; grind
   ·intro k hk;refine Cx J λj hj=>?_
    show ((sm N λn=>phi A B b J J' n (k+1) j*v n:Int):Rat)*_=0;rw [hW (k+1) j (by omega) (by omega) hj,show ((0:Int):Rat)=0 from rfl]; grind
  rw [e1,Zap];have key:∀ n,n<N->Fp ((v n:Rat)*E2 (phi A B b J J' n) (a+b) J x y)<=(H:Rat)*(R^(a+b+J)*(Fp (Fe A y)+Fp (Fe B (y-x)))):=λn hn=>by
   have hvn:Fp (v n:Rat)<=(H:Rat):=by
    have h1:=v1 n;have h2:(v n)<=(H:Int):=by omega
    have h3:-(H:Int)<=v n:=by omega
    have h2:=Ji.2 h2;have h3:=Ji.2 h3;rw [V0] at h3;rw [Sw]; exact ⟨h3,h2⟩
   refine Hg hvn ?_;have hRk:=hRp (a+b+J);have n1:=H7 (Fe A y);have n2:=H7 (Fe B (y-x));rcases Q9 n (b*J) with h | h
   ·have e:phi A B b J J' n=shF (n / J) (n % J) (fA A):=by funext k j; unfold phi; rw [if_pos h]
    have d1:n / J<b:=Jc (by rw [Zg]; exact h);have d2:=Xf n hJp;rw [e];refine Za (Zdz (K2:=a+b-n / J) (J2:=J-n % J) hR hx hy (by omega) (by omega) (X:=Fe A y) ?_) (Mw (by grind) Qq n1 (by grind));obtain ⟨m,hm⟩:∃ m,J-n % J=m+1:=⟨J-n % J-1,by omega⟩;rw [hm]; exact Zpc A _ _ x y (by omega)
   ·have e:phi A B b J J' n=shF ((n-b*J) / J') ((n-b*J) % J') (gc B):=by funext k j; unfold phi; rw [if_neg (by omega)]
    have hJp':0<J':=by
     rcases Q0 J' with e | e
     ·rw [e,Y7] at hN; omega
     ·exact e
    have d1:(n-b*J) / J'<a:=Jc (by rw [Zg J' a]; omega);have d2:=Xf (n-b*J) hJp';rw [e];refine Za (Zdz (K2:=a+b-(n-b*J) / J') (J2:=J-(n-b*J) % J') hR hx hy (by omega) (by omega) (X:=Fe B (y-x)) ?_) (Mw (by grind) Qq n2 (by grind));exact Zmd x y B _ _ (by omega) (by omega)
  have:=Zk2 N key;refine Za this ?_;have:(N:Rat)*((H:Rat)*(R^(a+b+J)*(Fp (Fe A y)+Fp (Fe B (y-x)))))=(N:Rat)*((H:Rat)*R^(a+b+J))*(Fp (Fe A y)+Fp (Fe B (y-x))):=by grind
  rw [this]; exact Qq
end Orq
namespace Orq
theorem Zd9 {w:Nat->Int} {x:Rat} {D:Rat} (hx:Fp x*2<=1) (hw:∀ j,Fp (w j:Rat)<=D):∀ J (k:Nat),Fp (sq J λj=>(w (k+j):Rat)*x^j)<=2*D
 | 0,k=>by have:=hw 0; have:=H7 (w 0:Rat); simp only [sq,Rx]; clear hw; grind
 |
  J+1,k=>by
  have ih:=Zd9 hx hw J (k+1);rw [Oi];have e:(sq J λi=>(w (k+(i+1)):Rat)*x^(i+1))=x*sq J λi=>(w (k+1+i):Rat)*x^i:=by
   rw [<-Qcd]; exact P4 J λi _=>by rw [Xe,show k+(i+1)=k+1+i by omega]; grind
  rw [e,Xi,Xx];have h1:=hw k;have h2:=S6 ((w k:Rat)*1) (x*sq J λi=>(w (k+1+i):Rat)*x^i);have h3:=Hg (x:=x) (y:=sq J λi=>(w (k+1+i):Rat)*x^i) Qq ih;have h4:=Q5 hx (show (0:Rat)<=D by have:=H7 (w k:Rat); clear hw; grind);have h5:(w k:Rat)*1=w k:=by grind
  rw [h5] at h2 ⊢;clear hw; grind
theorem Qak {z:Int} (h:z≠0):1<=Fp (z:Rat):=by
 unfold Fp;rcases Wb h with h | h
 ·have:((z:Int):Rat)<((0:Int):Rat):=X8.2 h;have h2:((1:Int):Rat)<=((-z:Int):Rat):=Ji.2 (by omega);rw [if_pos (by simpa using this)];rw [V0] at h2;simpa using h2
 ·have:((0:Int):Rat)<((z:Int):Rat):=X8.2 h;have h2:((1:Int):Rat)<=((z:Int):Rat):=Ji.2 (by omega);rw [if_neg (by
   have:(0:Rat)<z:=by simpa using this
   grind)]
  simpa using h2
theorem Qzv {w:Nat->Int} {x:Rat} {D:Rat} (hD:1<=D) (hx0:0<Fp x) (hx:Fp x*(4*D)<=1) (hw:∀ j,Fp (w j:Rat)<=D):∀ J (k:Nat),(∃ j,j<J/\w (k+j)≠0)->Fp x^J / 2<=Fp (sq J λj=>(w (k+j):Rat)*x^j)
 | 0,k,⟨j,h,_⟩=>by omega
 |
  J+1,k,⟨j,h1,h2⟩=>by
  have hx2:Fp x*2<=1:=by
   have:=Mw (a:=Fp x) (c:=2) (Qp hx0) Qq (by decide) (show (2:Rat)<=4*D by clear hw; grind);exact Za this hx
  have hx1:Fp x<=1:=by clear hw; grind
  have hp:∀ k:Nat,Fp x^k<=1/\0<=Fp x^k:=λk=>by
   induction k with
   | zero=>rw [Xi]; exact ⟨by decide,by decide⟩
   |
    succ k ih =>
    rw [Xe];have:=Mw ih.2 ih.1 (Qp hx0) hx1;have:=Nh ih.2 (Qp hx0);constructor <;> (clear hw; grind)
  rw [Oi];have e:(sq J λi=>(w (k+(i+1)):Rat)*x^(i+1))=x*sq J λi=>(w (k+1+i):Rat)*x^i:=by
   rw [<-Qcd]; exact P4 J λi _=>by rw [Xe,show k+(i+1)=k+1+i by omega]; grind
  rw [e,Xi,Xx k,show (w k:Rat)*1=w k by grind];by_cases h0:w k=0
  ·have hj:j≠0:=λe=>h2 (by rw [e]; exact h0)
   have ih:=Qzv hD hx0 hx hw J (k+1) ⟨j-1,by omega,by rw [show k+1+(j-1)=k+j by omega]; exact h2⟩;rw [h0,show ((0:Int):Rat)+x*(sq J λi=>(w (k+1+i):Rat)*x^i)=x*sq J λi=>(w (k+1+i):Rat)*x^i by rw [show ((0:Int):Rat)=0 from rfl]; grind,Ed,Xe];have:=Zs ih (Qp hx0);have e2:Fp x*(Fp x^J / 2)=Fp x^J*Fp x / 2:=by rw [J8,J8]; grind
   rw [e2] at this; exact this
  ·have a1:=Qak h0;have a2:=Zd9 hx2 hw J (k+1);have a3:=Hg (x:=x) (y:=sq J λi=>(w (k+1+i):Rat)*x^i) Qq a2;have a4:=S6 ((w k:Rat)+x*sq J λi=>(w (k+1+i):Rat)*x^i) (-(x*sq J λi=>(w (k+1+i):Rat)*x^i));rw [Ee,show (w k:Rat)+(x*sq J λi=>(w (k+1+i):Rat)*x^i)+-(x*sq J λi=>(w (k+1+i):Rat)*x^i)=w k by grind] at a4;have a5:=(hp (J+1)).1;have a6:Fp x^(J+1) / 2*2=Fp x^(J+1):=Gx (by decide);have a7:Fp x*(2*D)*2=Fp x*(4*D):=by grind
   clear hw hp; grind
theorem Zml {A B:List Int} {a b h:Nat} (hA:A.length=a+1) (hB:B.length=b+1) (lA:A.getD a 0≠0) (lB:B.getD b 0≠0) (ha:0<a) (hb:0<b) (h0:1<=h) (bA:∀ k,(A.getD k 0).natAbs<=h) (bB:gB B<=h) {N D:Nat} (hN:b*(2*(a*b))+a*(2*(a*b)-b)=N) (hD:N*(h*(2*(N*h))^(2*(a+b-1)))<=D) {R d:Rat} (hR:1<=R) (dp:0<d)
 (hs:∀ e:Rat,0<e->∃ q r,Fp q<=R/\Fp r<=R/\d<=Fp (q-r)/\Fp (q-r)*(4*(D:Rat))<=1/\Fp (Fe A q)<e/\Fp (Fe B r)<e):False:=by
 have hab:0<a*b:=Yl ha hb;have hbab:b<=a*b:=by
  have:=Qx b (show 1<=a from ha); omega
 obtain ⟨w,⟨j,hj,hw0⟩,hw,hC⟩:=Zng hA hB lA lB ha hb h0 bA bB (J:=2*(a*b)) (J':=2*(a*b)-b) rfl (by omega) hN.symm rfl;obtain ⟨C,hC0,hC⟩:=hC (2*R) (by grind);have hw':∀ j,Fp (w j:Rat)<=(D:Rat):=λj=>by
  have h1:=Qc (hw j) hD;have h2:w j<=(D:Int):=by omega
  have h3:-(D:Int)<=w j:=by omega
  have h2:=Ji.2 h2;have h3:=Ji.2 h3;rw [V0] at h3;rw [Sw]; exact ⟨h3,h2⟩
 have hD1:(1:Rat)<=(D:Rat):=by
  have:=Qak hw0;exact Za this (hw' j)
 have hdJ:0<d^(2*(a*b)) / 2:=Di (Rat.pow_pos dp) (by decide);obtain ⟨e,ep,_,he⟩:=Hj (b:=C*2) (d:=d^(2*(a*b)) / 2) (by grind) hdJ;obtain ⟨q,r,q1,r1,d1,d2,aq,br⟩:=hs e ep;have h1:=hC (q-r) q (by
  have:=S6 q (-r); rw [Ee] at this; have:q-r=q+-r:=by grind
  grind) (by grind)
 rw [show q-(q-r)=r by grind] at h1;have h2:=Qzv (x:=q-r) hD1 (by grind) d2 hw' (2*(a*b)) 0 ⟨j,hj,by rw [Zx]; exact hw0⟩;simp only [Zx] at h2;have h3:C*(Fp (Fe A q)+Fp (Fe B r))<=C*(e+e):=Zs (by grind) hC0;have h4:d^(2*(a*b))<=Fp (q-r)^(2*(a*b)):=by
  generalize 2*(a*b)=J
  induction J with
  | zero=>rw [Xi,Xi]; exact Qq
  |
   succ J ih =>
   rw [Xe,Xe];exact Mw (Qp (Rat.pow_pos dp)) ih (Qp dp) d1
 have h5:d^(2*(a*b)) / 2*2=d^(2*(a*b)):=Gx (by decide);have h6:Fp (q-r)^(2*(a*b)) / 2*2=Fp (q-r)^(2*(a*b)):=Gx (by decide);clear hC hs hw hw';grind
def HD (p:List Rat) (n:Nat):Prop:=p.getD n 0≠0/\∀ k,n<k->p.getD k 0=0
theorem Rr:∀ (p q:List Rat) (k:Nat),(Ty p q).getD k 0=p.getD k 0+q.getD k 0
 | [],q,k=>by simp only [Ty,Wm]; grind
 | a::p,[],k=>by simp only [Ty,Wm]; grind
 | a::p,b::q,0=>by simp only [Ty,Zu]
 | a::p,b::q,k+1=>by simp only [Ty,Q3]; exact Rr p q k
theorem Tw (c:Rat):∀ (p:List Rat) (k:Nat),(Nj c p).getD k 0=c*p.getD k 0
 | [],k=>by simp only [Nj,Jl,Wm]; grind
 | a::p,0=>by simp [Nj]
 | a::p,k+1=>by have:=Tw c p k; simp only [Nj,Xb,Q3] at *; exact this
theorem Zbh {p:List Rat} {k:Nat} (h:∀ x∈p,x=0):p.getD k 0=0:=by
 rw [Qe];cases e:p[k]? with
 | none=>rfl
 | some x=>exact h x (Qa e)
theorem Ce {p q:List Rat} (h:∀ t,ev p t=ev q t) (k:Nat):p.getD k 0=q.getD k 0:=by
 have h1:=Zbh (k:=k) (Qek (p:=Ty p (Nj (-1) q)) λt _ _=>by rw [Gt,Ge,h t]; grind);rw [Rr,Tw] at h1; grind
theorem D9:∀ {p:List Rat},(∀ k,p.getD k 0=0)->∀ t,ev p t=0
 | [],_,t=>rfl
 |
  a::p,h,t=>by
  have h0:=h 0;have h1:=D9 (p:=p) (λk=>by have:=h (k+1); rwa [Q3] at this) t;rw [Zu] at h0;simp only [ev,h0,h1]; grind
theorem Qio:∀ (p:List Rat),(∀ t,ev p t=0)\/∃ n,n<p.length/\HD p n
 | []=>.inl λ_=>rfl
 |
  a::p=>by
  rcases Qio p with h | ⟨n,hn,h1,h2⟩
  ·rcases Classical.em (a=0) with e | e
   ·exact .inl λt=>by simp only [ev,e,h t]; grind
   ·refine .inr ⟨0,by simp,by simpa using e,λk hk=>?_⟩;obtain ⟨m,rfl⟩:∃ m,k=m+1:=⟨k-1,by omega⟩;rw [Q3];exact (Ce (p:=p) (q:=[]) h m).trans (by simp)
  ·refine .inr ⟨n+1,by simp; omega,by rw [Q3]; exact h1,λk hk=>?_⟩;obtain ⟨m,rfl⟩:∃ m,k=m+1:=⟨k-1,by omega⟩;rw [Q3]; exact h2 m (by omega)
theorem Zbk {p q:List Rat} {n:Nat} (h:∀ t,ev p t=ev q t) (hp:HD p n):HD q n :=
 ⟨by rw [<-Ce h]; exact hp.1,λk hk=>by rw [<-Ce h]; exact hp.2 k hk⟩
theorem Zkq {p:List Rat} {n m:Nat} (h:HD p n) (h':HD p m):n=m:=by
 rcases Vg n m with e | e | e
 ·exact absurd (h.2 m e) h'.1
 ·exact e
 ·exact absurd (h'.2 n e) h.1
theorem Q3f {p:List Rat} {n:Nat} (h:HD p n):¬∀ t,ev p t=0:=λh0=>h.1 ((Ce (p:=p) (q:=[]) h0 n).trans (by simp))
theorem Qip {p q:List Rat} (h:∀ k,p.getD k 0=0) (k:Nat):(G8 p q).getD k 0=0:=by
 have:=Ce (p:=G8 p q) (q:=[]) (λt=>by rw [Fj,D9 h t]; simp only [ev]; grind) k;rw [this]; simp
theorem Qhc:∀ {p q:List Rat} {m n:Nat},HD p m->HD q n->HD (G8 p q) (m+n)
 | [],q,m,n,h,_=>absurd (by simp) h.1
 |
  a::p,q,0,n,h,h'=>by
  have h1:∀ k,p.getD k 0=0:=λk=>by have:=h.2 (k+1) (by omega); rwa [Q3] at this
  have h2:∀ k,(G8 (a::p) q).getD k 0=a*q.getD k 0:=λk=>by
   simp only [G8];rw [Rr,Tw];cases k with
   | zero=>rw [Zu]; grind
   | succ k=>rw [Q3,Qip h1]; grind
  have h3:=h.1;rw [Zu] at h3;refine ⟨?_,λk hk=>?_⟩
  ·rw [h2,Zx]; exact λh=>(J0.1 h).elim h3 h'.1
  ·rw [h2,h'.2 k (by omega)]; grind
 |
  a::p,q,m+1,n,h,h'=>by
  have ih:=Qhc (p:=p) (q:=q) (m:=m) ⟨by have:=h.1; rwa [Q3] at this,λk hk=>by have:=h.2 (k+1) (by omega); rwa [Q3] at this⟩ h';refine ⟨?_,λk hk=>?_⟩
  ·simp only [G8];rw [Rr,Tw,show m+1+n=(m+n)+1 by omega,Q3,h'.2 _ (by omega)];have:=ih.1; grind
  ·obtain ⟨j,rfl⟩:∃ j,k=j+1:=⟨k-1,by omega⟩;simp only [G8];rw [Rr,Tw,Q3,h'.2 _ (by omega),ih.2 j (by omega)]; grind
def Dvd (g f:List Rat):Prop:=∃ u,∀ t,ev f t=ev g t*ev u t
theorem dvd_refl (f:List Rat):Dvd f f:=⟨[1],λt=>by rw [Tt]; grind⟩
theorem dvd_trans {f g h:List Rat}:Dvd f g->Dvd g h->Dvd f h
 | ⟨u,hu⟩,⟨v,hv⟩=>⟨G8 u v,λt=>by rw [hv,hu,Fj]; grind⟩
theorem Qv5 {p q:List Rat} (h:∀ t,ev p t*ev q t=0) (hp:¬∀ t,ev p t=0):∀ t,ev q t=0:=by
 rcases Qio p with h1 | ⟨m,_,h1⟩
 ·exact absurd h1 hp
 ·rcases Qio q with h2 | ⟨n,_,h2⟩
  ·exact h2
  ·exact absurd (λt=>by rw [Fj]; exact h t) (Q3f (Qhc h1 h2))
theorem Qy0 {p q r:List Rat} (hp:¬∀ t,ev p t=0) (h:∀ t,ev p t*ev q t=ev p t*ev r t) (t:Rat):ev q t=ev r t:=by
 have:=Qv5 (p:=p) (q:=Ty q (Nj (-1) r)) (λt=>by rw [Gt,Ge]; have:=h t; grind) hp t;rw [Gt,Ge] at this; grind
theorem Zai {b:List Rat} {n:Nat} (hb:HD b n):∀ (l:Nat) (a:List Rat),(∀ k,l<=k->a.getD k 0=0)->∃ q r,(∀ t,ev a t=ev q t*ev b t+ev r t)/\∀ k,n<=k->r.getD k 0=0
 | 0,a,ha=>⟨[],a,λt=>by simp only [ev]; grind,λk _=>ha k (Qi _)⟩
 |
  l+1,a,ha=>by
  rcases Q9 l n with h | h
  ·exact ⟨[],a,λt=>by simp only [ev]; grind,λk hk=>ha k (by omega)⟩
  ·-- the leading term is taken away
   obtain ⟨c,hc⟩:=nmE (a.getD l 0 / b.getD n 0);have hcb:c*b.getD n 0=a.getD l 0:=by rw [hc]; exact Zj hb.1
   obtain ⟨m,hm⟩:∃ m:List Rat,m=List.replicate (l-n) 0++[c]:=⟨_,rfl⟩;have hsh:∀ (i:Nat) (k:Nat),(G8 (List.replicate i 0++[c]) b).getD k 0=if i<=k then c*b.getD (k-i) 0 else 0:=λi=>by
    induction i with
    | zero=>intro k; simp only [W8,Y9,G8]; rw [Rr,Tw]; cases k <;> simp <;> grind
    |
     succ i ih =>
     intro k;simp only [Yi,Xl,G8];rw [Rr,Tw];cases k with
     | zero=>rw [Zu,if_neg (by omega)]; grind
     |
      succ k =>
      rw [Q3,ih k];by_cases h:i<=k
      ·rw [if_pos h,if_pos (by omega),Nat.add_sub_add_right]; grind
      ·rw [if_neg h,if_neg (by omega)]; grind
   obtain ⟨q,r,h1,h2⟩:=Zai hb l (Ty a (Nj (-1) (G8 m b))) λk hk=>by
    rw [Rr,Tw,hm,hsh,if_pos (by omega)];rcases Vx hk with e | e
    ·rw [ha k (by omega),hb.2 _ (by omega)]; grind
    ·subst e; rw [show l-(l-n)=n by omega,hcb]; grind
   refine ⟨Ty q m,r,λt=>?_,h2⟩;have:=h1 t;rw [Gt,Ge,Fj] at this;rw [Gt]; grind
theorem Qzh:∀ (n:Nat) (a b:List Rat),(∀ k,n<=k->b.getD k 0=0)->∃ g U V,Dvd g a/\Dvd g b/\∀ t,ev g t=ev U t*ev a t+ev V t*ev b t
 |
  0,a,b,h=>by
  have h0:=D9 λk=>h k (Qi _)
  exact ⟨a,[1],[],dvd_refl a,⟨[],λt=>by rw [h0]; simp only [ev]; grind⟩,λt=>by rw [Tt]; simp only [ev]; grind⟩
 |
  n+1,a,b,h=>by
  rcases Classical.em (b.getD n 0=0) with e | e
  ·exact Qzh n a b λk hk=>by
    rcases Vx hk with e' | e'
    ·exact h k (by omega)
    ·rw [<-e']; exact e
  ·obtain ⟨q,r,h1,h2⟩:=Zai (b:=b) (n:=n) ⟨e,λk hk=>h k (by omega)⟩ a.length a λk hk=>by rw [Qe,Qt hk]; rfl
   obtain ⟨g,U,V,⟨u,hu⟩,⟨v,hv⟩,hg⟩:=Qzh n b r h2;refine ⟨g,V,Ty U (Nj (-1) (G8 V q)),⟨Ty (G8 q u) v,λt=>?_⟩,⟨u,hu⟩,λt=>?_⟩
   ·rw [h1,hv,Gt,Fj,hu]; grind
   ·rw [hg,Gt,Ge,Fj,h1]; grind
theorem Zbc (a b:List Rat):∃ g U V,Dvd g a/\Dvd g b/\∀ t,ev g t=ev U t*ev a t+ev V t*ev b t :=
 Qzh b.length a b λk hk=>by rw [Qe,Qt hk]; rfl
def Cop (a b:List Rat):Prop:=∃ U V,∀ t,ev U t*ev a t+ev V t*ev b t=1
theorem Qrg {c d e:List Rat} (h:Cop c d) (h1:∃ u,∀ t,ev d t*ev e t=ev c t*ev u t):Dvd c e:=by
 obtain ⟨U,V,h⟩:=h;obtain ⟨u,hu⟩:=h1;refine ⟨Ty (G8 U e) (G8 V u),λt=>?_⟩;rw [Gt,Fj,Fj];have a1:=h t;have a2:=hu t;have:ev e t=(ev U t*ev c t+ev V t*ev d t)*ev e t:=by rw [a1]; grind
 rw [this];have:(ev U t*ev c t+ev V t*ev d t)*ev e t=ev U t*ev c t*ev e t+ev V t*(ev d t*ev e t):=by grind
 rw [this,a2]; grind
def qpw (d:List Rat):Nat->List Rat
 | 0=>[1]
 | k+1=>G8 d (qpw d k)
theorem Q0n (d:List Rat) (t:Rat):∀ k:Nat,ev d t*dv (qpw d k) t=(k:Rat)*(dv d t*ev (qpw d k) t)
 | 0=>by simp only [qpw,dv,ev]; rw [show ((0:Nat):Rat)=0 from rfl]; grind
 |
  k+1=>by
  have ih:=Q0n d t k;have hn':(((k+1:Nat):Rat))=(k:Rat)+1:=by push_cast; rfl
  simp only [qpw];rw [Qro,Fj,hn']; grind
theorem Zc7 {d:List Rat} {m:Nat} (h:HD d m):∀ k,HD (qpw d k) (k*m)
 | 0=>by rw [J6]; exact ⟨by simp [qpw],λk hk=>by simp only [qpw]; rw [Qe,Qt (by simp; omega)]; rfl⟩
 | k+1=>by rw [Xd,Jm (k*m) m]; exact Qhc h (Zc7 h k)
theorem Qpx {d g:List Rat} {m n:Nat} (hd:HD d m) (hg:HD g n) (h:∀ k,Dvd (qpw d k) g):m=0:=by
 obtain ⟨u,hu⟩:=h (n+1);rcases Qio u with h1 | ⟨j,_,h1⟩
 ·exact absurd (λt=>by rw [hu,h1]; grind) (Q3f hg)
 ·have:=Zkq (Zbk (λt=>by rw [hu,Fj]) hg) (Qhc (Zc7 hd (n+1)) h1);rcases Q0 m with e | e
  ·exact e
  ·have:(n+1)*1<=(n+1)*m:=Zk _ e;omega
theorem sqf {a g q d U V:List Rat} {k:Rat} (hk:k≠0) (ha:∀ t,ev a t=ev g t*ev q t) (hg:∀ t,k*ev g t=ev U t*ev a t+ev V t*dv a t) (h1:Dvd d q) (h2:Dvd d (Bl q)):∀ n,Dvd (qpw d n) g
 | 0=>⟨g,λt=>by simp only [qpw]; rw [Tt]; grind⟩
 |
  n+1=>by
  obtain ⟨g1,e1⟩:=sqf hk ha hg h1 h2 n;obtain ⟨q1,e2⟩:=h1;obtain ⟨q2,e3⟩:=h2;have d1:=λt=>O5 ha t
  have d2:=λt=>O5 e1 t
  have d3:=λt=>O5 e2 t
  have d4:=Q0n d;refine ⟨Nj (1 / k) (Ty (G8 U (G8 g1 q1)) (G8 V (Ty (G8 g1 q2) (Ty (Nj n (G8 g1 (Ty q2 (Nj (-1) (Bl q1))))) (G8 (Bl g1) q1))))),λt=>?_⟩;have hkk:1 / k*k=1:=Zj hk;simp only [qpw,Ge,Gt,Fj,Tp];have b1:=ha t; have b2:=hg t; have b3:=e1 t; have b4:=e2 t; have b5:=e3 t;have b6:=d1 t; have b7:=d2 t; have b8:=d3 t; have b9:=d4 t n;rw [Tp] at b5;generalize ev d t=x0 at *;generalize ev (qpw d n) t=x1 at *;generalize ev g t=x2 at *;generalize ev q t=x3 at *;generalize ev a t=x4 at *;generalize dv a t=x5 at *;generalize dv g t=x6 at *;generalize dv q t=x7 at *;generalize ev g1 t=x8 at *;generalize dv g1 t=x9 at *;generalize ev q1 t=y0 at *;generalize dv q1 t=y1 at *;generalize ev q2 t=y2 at *;generalize dv d t=y3 at *;generalize dv (qpw d n) t=y4 at *;generalize ev U t=y5 at *;generalize ev V t=y6 at *;generalize (n:Rat)=y7 at *;have:x2=1 / k*(k*x2):=by grind
  rw [this,b2];have c1:x5=x0*x1*(x8*y2+(y7*(x8*(y2+-1*y1))+x9*y0)):=by
   rw [b6,b7,b4,b3];have:y3*y0=x0*y2-x0*y1:=by grind
   have:x0*y4*(x8*y0)=y7*(x1*x8*(x0*y2-x0*y1)):=by rw [b9,<-this]; grind
   grind
  have c2:x4=x0*x1*(x8*y0):=by rw [b1,b3,b4]; grind
  rw [c1,c2]; grind
theorem Zgx {a b c:List Rat} (h1:Cop a b) (h2:Cop a c) {d:List Rat} (hd:∀ t,ev d t=ev b t*ev c t):Cop a d:=by
 obtain ⟨U,V,h1⟩:=h1;obtain ⟨X,Y,h2⟩:=h2;refine ⟨Ty U (G8 (G8 V b) X),G8 V Y,λt=>?_⟩;have a1:=h1 t;have a2:=h2 t;simp only [Gt,Fj,hd];have:ev V t*ev b t*(ev X t*ev a t+ev Y t*ev c t)=ev V t*ev b t:=by rw [a2]; grind
 grind
theorem Zje {a g q z r X Y:List Rat} {n:Nat} (ha:∀ t,ev a t=ev g t*ev q t) (hz:∀ t,dv a t=ev g t*ev z t) (hg:HD g n) (hr:∀ t,ev X t*ev r t+ev Y t*dv r t=1) (h:Dvd r a):Dvd r q:=by
 obtain ⟨b,hb⟩:=h;obtain ⟨e,U,V,⟨r1,e1⟩,⟨q3,e2⟩,e3⟩:=Zbc r q;have hr0:¬∀ t,ev r t=0:=λh=>by
  have h1:=hr 0;have h2:dv r 0=0:=by have:=Zan (p:=r) (q:=[]) h 0; rw [this]; rfl
  rw [h,h2] at h1; grind
 have he0:¬∀ t,ev e t=0:=λh=>hr0 λt=>by rw [e1,h]; grind
 have d1:=λt=>O5 e1 t
 have c1:Cop r1 q3:=⟨U,V,λt=>by
  have:=Qy0 (p:=e) (q:=Ty (G8 U r1) (G8 V q3)) (r:=[1]) he0 (λt=>by
   rw [Gt,Fj,Fj,Tt];have a1:=e1 t; have a2:=e2 t; have a3:=e3 t;rw [a1,a2] at a3; grind) t
  rw [Gt,Fj,Fj,Tt] at this; exact this⟩
 have c2:Cop r1 e:=⟨Ty (G8 X e) (G8 Y (Bl e)),G8 Y (Bl r1),λt=>by
  have a1:=hr t; have a2:=e1 t; have a3:=d1 t;simp only [Gt,Fj,Tp];rw [a2,a3] at a1; grind⟩
 have c3:Cop r1 (Bl r1):=⟨Ty (G8 X e) (G8 Y (Bl e)),G8 Y e,λt=>by
  have a1:=hr t; have a2:=e1 t; have a3:=d1 t;simp only [Gt,Fj,Tp];rw [a2,a3] at a1; grind⟩
 have c4:Cop r1 q:=Zgx c2 c1 e2;have hgz:=Q3f hg;have hp:∀ k,Dvd (qpw r1 k) g:=λk=>by
  induction k with
  | zero=>exact ⟨g,λt=>by simp only [qpw]; rw [Tt]; grind⟩
  |
   succ k ih =>
   obtain ⟨h,eh⟩:=ih;have hpz:¬∀ t,ev (qpw r1 k) t=0:=λh0=>hgz λt=>by rw [eh,h0]; grind
   have key:Dvd r1 h:=by
    cases k with
    |
     zero =>
     refine Qrg c4 ⟨G8 e b,λt=>?_⟩;have a1:=ha t; have a2:=hb t; have a3:=e1 t; have a4:=eh t;simp only [qpw] at a4;rw [Tt] at a4;rw [Fj]; grind
    |
     succ k =>
     have hn:((k+1:Nat):Rat)≠0:=by
      have:(0:Rat)<((k+1:Nat):Rat):=by
       have h1:((0:Nat):Rat)<((k+1:Nat):Rat):=V4.2 (by omega);simpa using h1
      grind
     have d2:=λt=>O5 (f:=a) (w:=qpw r1 (k+1)) (u:=G8 h q) (λt=>by rw [ha,eh,Fj]; grind) t
     have d4:=Q0n r1;have h3:=Qy0 (p:=qpw r1 (k+1)) (q:=G8 (Bl r1) (G8 h q)) (r:=G8 r1 (Nj (1 / ((k+1:Nat):Rat)) (Ty (G8 h z) (Nj (-1) (Bl (G8 h q)))))) hpz λt=>by
      simp only [Fj,Ge,Gt,Tp];have a1:=d2 t; have a2:=d4 t (k+1); have a3:=hz t; have a4:=eh t;rw [Fj] at a1;generalize ((k+1:Nat):Rat)=c at *;have hc:1 / c*c=1:=Zj hn;generalize ev (qpw r1 (k+1)) t=x0 at *;generalize dv (qpw r1 (k+1)) t=x1 at *;generalize dv (G8 h q) t=x2 at *;generalize ev r1 t=x3 at *;generalize dv r1 t=x4 at *;generalize ev h t=x5 at *;generalize ev q t=x6 at *;generalize ev z t=x7 at *;generalize dv a t=x8 at *;generalize ev g t=x9 at *;generalize 1 / c=c' at *;have s1:x0*(x4*(x5*x6))=c'*(c*(x4*x0))*(x5*x6):=by
       have:c'*(c*(x4*x0))=(c'*c)*(x4*x0):=by grind
       rw [this,hc]; grind
      rw [s1,<-a2];have s2:x3*(x1*(x5*x6))=x3*(x0*(x5*x7+-1*x2)):=by
       rw [a3,a4] at a1; grind
      grind
     refine Qrg c4 ?_;obtain ⟨u,hu⟩:=Qrg (e:=G8 q h) c3 ⟨Nj (1 / ((k+1:Nat):Rat)) (Ty (G8 h z) (Nj (-1) (Bl (G8 h q)))),λt=>by
      have:=h3 t;simp only [Fj] at this ⊢;rw [<-this]; grind⟩
     exact ⟨u,λt=>by rw [<-hu,Fj]⟩
   obtain ⟨u,hu⟩:=key;exact ⟨u,λt=>by simp only [qpw]; rw [Fj,eh,hu]; grind⟩
 rcases Qio r1 with h1 | ⟨m,_,h1⟩
 ·exact absurd (λt=>by rw [e1,h1]; grind) hr0
 ·obtain rfl:=Qpx h1 hg hp;have h2:∀ t,ev r1 t=r1.getD 0 0:=λt=>by
   cases r1 with
   | nil=>simp [ev]
   |
    cons c l =>
    have:∀ t,ev l t=0:=D9 λk=>by have:=h1.2 (k+1) (by omega); rwa [Q3] at this
    simp only [ev,this,Zu]; grind
  have h3:=h1.1;refine ⟨Nj (1 / r1.getD 0 0) q3,λt=>?_⟩;rw [e2,e1,h2,Ge];have:1 / r1.getD 0 0*r1.getD 0 0=1:=Zj h3;have:ev e t*r1.getD 0 0*(1 / r1.getD 0 0*ev q3 t)=ev e t*ev q3 t*(1 / r1.getD 0 0*r1.getD 0 0):=by grind
  rw [this,Zj h3]; grind
def I6:List (List Rat)->List Rat
 | []=>[1]
 | w::l=>G8 w (I6 l)
def Lay:List (List Rat)->List (List Rat)->Prop
 | [],[]=>True
 | [w],[f]=>∀ t,ev w t=ev f t
 | w::v::l,f::fs=>(∀ t,ev w t=ev f t*ev v t)/\Lay (v::l) fs
 | _,_=>False
def Qje:List (List Rat)->List Rat
 | []=>[1]
 | [f]=>f
 | f::_::l=>G8 f (Qje l)
theorem Q3p:∀ {ws fs:List (List Rat)},Lay ws fs->∃ S,∀ t,ev (I6 ws) t=ev (Qje fs) t*(ev S t*ev S t)
 | [],[],_=>⟨[1],λt=>by simp only [I6,Qje]; rw [Tt]; grind⟩
 | [w],[f],h=>⟨[1],λt=>by simp only [I6,Qje]; rw [Fj,Tt,h t]; grind⟩
 |
  [w,v],[f,f2],h=>⟨v,λt=>by
  have h1:=h.1 t;have h2:ev v t=ev f2 t:=h.2 t;simp only [I6,Qje,Fj]; rw [Tt,h1]; grind⟩
 |
  w::v::x::l,f::f2::fs,h=>by
  obtain ⟨S,hS⟩:=Q3p h.2.2;refine ⟨G8 v S,λt=>?_⟩;have h1:=h.1 t;have h2:=hS t;have e1:ev (I6 (w::v::x::l)) t=ev w t*(ev v t*ev (I6 (x::l)) t):=by simp only [I6,Fj]
  rw [e1,h2,h1];have e2:ev (Qje (f::f2::fs)) t=ev f t*ev (Qje fs) t:=by
   cases fs with
   | nil=>cases l <;> exact False.elim h.2.2
   | cons y l=>simp only [Qje,Fj]
  rw [e2,Fj]; grind
 | [w],[],h=>h.elim
 | [w],_::_::_,h=>h.elim
 | [],_::_,h=>h.elim
 | [w,v],[f],h=>h.2.elim
 | [w,v],_::_::_::_,h=>h.2.elim
 | w::v::x::l,[f],h=>h.2.elim
 | w::v::l,[],h=>h.elim
end Orq
namespace Orq
open Orr Go
theorem Qz7 (p:List Int) (t:Rat):Fe p t=((p.getD 0 0:Int):Rat)+t*Fe p.tail t:=by
 cases p with
 | nil=>show (0:Rat)=((0:Int):Rat)+t*0; grind
 | cons a p=>rfl
theorem Qhb (p:List Int) (k:Nat):p.tail.getD k 0=p.getD (k+1) 0:=by
 cases p <;> simp
theorem Cm (c d:Int) (t:Rat):∀ (n:Nat) (p q r:List Int),p.length<=n->q.length<=n->r.length<=n->(∀ k,r.getD k 0=c*p.getD k 0+d*q.getD k 0)->Fe r t=(c:Rat)*Fe p t+(d:Rat)*Fe q t
 |
  0,p,q,r,hp,hq,hr,_=>by
  rw [Qh (Nat.le_zero.1 hp),Qh (Nat.le_zero.1 hq),Qh (Nat.le_zero.1 hr)];show (0:Rat)=_*0+_*0;grind
 |
  n+1,p,q,r,hp,hq,hr,h=>by
  have ih:=Cm c d t n p.tail q.tail r.tail (by rw [Us]; omega) (by rw [Us]; omega) (by rw [Us]; omega) λk=>by
   rw [Qhb,Qhb,Qhb]; exact h (k+1)
  rw [Qz7 p,Qz7 q,Qz7 r,ih,h 0]
  push_cast
  grind
theorem Q4a {p q:List Int} (h:∀ k,p.getD k 0=q.getD k 0) (t:Rat):Fe p t=Fe q t:=by
 have:=Cm 1 0 t (max p.length q.length) q q p (Uu ..) (Uu ..) (Nat.le_max_left ..) λk=>by rw [h k]; omega
 rw [this]
 push_cast
 grind
theorem Oa (p:List Int) (t:Rat):Fe (trim p) t=Fe p t:=Q4a (Es p) t
theorem Ra {p:List Int} {k:Nat} (h:p.length<=k):p.getD k 0=0:=by
 rw [Qe,Qt h]; rfl
theorem Qpq (p q:List Int) (k:Nat):(Ii p q).getD k 0=p.getD k 0+q.getD k 0:=by
 unfold Ii;rw [Rz]
 split
 ·rfl
 ·rename_i h; rw [Ra (p:=p) (by omega),Ra (p:=q) (by omega)]; rfl
theorem Do (p q:List Int) (k:Nat):(Pa p q).getD k 0=p.getD k 0-q.getD k 0:=by
 unfold Pa;rw [Rz]
 split
 ·rfl
 ·rename_i h; rw [Ra (p:=p) (by omega),Ra (p:=q) (by omega)]; rfl
theorem Sf (p:List Int) (c:Int) (k:Nat):(Gb p c).getD k 0=p.getD k 0*c:=by
 unfold Gb;rw [Rz]
 split
 ·rfl
 ·rename_i h; rw [Ra (p:=p) (by omega),Int.zero_mul]
theorem Qpt (p:List Int) (k:Nat):(P0 p).getD k 0=-(p.getD k 0):=by
 unfold P0;rw [Rz]
 split
 ·rfl
 ·rename_i h; rw [Ra (p:=p) (by omega)]; rfl
theorem P7 (p:List Int) (k:Nat):(Gj p).getD k 0=p.getD (k+1) 0*((k+1:Nat):Int):=by
 unfold Gj;rw [Rz]
 split
 ·rfl
 ·rename_i h; rw [Ra (p:=p) (by omega),Int.zero_mul]
theorem Qwn (p q:List Int) (t:Rat):Fe (Ii p q) t=Fe p t+Fe q t:=by
 have:=Cm 1 1 t (max (max p.length q.length) (Ii p q).length) p q (Ii p q) (by omega) (by omega) (by omega) λk=>by rw [Qpq]; omega
 rw [this]; push_cast; grind
theorem Cn (p q:List Int) (t:Rat):Fe (Pa p q) t=Fe p t-Fe q t:=by
 have:=Cm 1 (-1) t (max (max p.length q.length) (Pa p q).length) p q (Pa p q) (by omega) (by omega) (by omega) λk=>by rw [Do]; omega
 rw [this]; push_cast; grind
theorem Qfq (p:List Int) (t:Rat):Fe (P0 p) t=-Fe p t:=by
 have:=Cm (-1) 0 t (max p.length (P0 p).length) p p (P0 p) (by omega) (by omega) (by omega) λk=>by rw [Qpt]; omega
 rw [this]; push_cast; grind
theorem Ro (p:List Int) (c:Int) (t:Rat):Fe (Gb p c) t=Fe p t*(c:Rat):=by
 have:=Cm c 0 t (max p.length (Gb p c).length) p p (Gb p c) (by omega) (by omega) (by omega) λk=>by rw [Sf,Kb]; omega
 rw [this]; push_cast; grind
theorem Qsq:∀ (l:List Int) (j:Nat) (v:Int) (t:Rat),j<l.length->Fe (l.set j v) t=Fe l t+((v:Rat)-((l.getD j 0:Int):Rat))*t^j
 | [],_,_,_,h=>by simp at h
 |
  a::l,0,v,t,_=>by
  show (v:Rat)+t*Fe l t=(a:Rat)+t*Fe l t+((v:Rat)-(a:Rat))*t^0;rw [Xi]; grind
 |
  a::l,j+1,v,t,h=>by
  have ih:=Qsq l j v t (by simpa using h);show (a:Rat)+t*Fe (l.set j v) t=(a:Rat)+t*Fe l t+((v:Rat)-((l.getD j 0:Int):Rat))*t^(j+1);rw [ih,Xe]; grind
theorem Qms:∀ (l:List Int) (k:Nat) (t:Rat),k<l.length->Fe (l.take (k+1)) t=Fe (l.take k) t+((l.getD k 0:Int):Rat)*t^k
 | [],_,_,h=>by simp at h
 |
  a::l,0,t,_=>by
  show (a:Rat)+t*Fe (l.take 0) t=0+(a:Rat)*t^0;rw [Xi,Kg];show (a:Rat)+t*0=_;grind
 |
  a::l,k+1,t,h=>by
  have ih:=Qms l k t (by simpa using h);show (a:Rat)+t*Fe (l.take (k+1)) t=(a:Rat)+t*Fe (l.take k) t+((l.getD k 0:Int):Rat)*t^(k+1);rw [ih,Xe]; grind
theorem Qps (n:Nat) (t:Rat):Fe (List.replicate n 0) t=0:=by
 induction n with
 | zero=>rfl
 |
  succ n ih =>
  show ((0:Int):Rat)+t*Fe (List.replicate n 0) t=0;rw [ih]; push_cast; grind
theorem Qw9 (t:Rat) (i:Nat):∀ k,t^(i+k)=t^i*t^k
 | 0=>by rw [Xx,Xi]; grind
 | k+1=>by rw [<-Ym,Xe,Xe,Qw9 t i k]; grind
theorem Qwm (x:Int) (b:List Int) (i:Nat) (o:List Int) (t:Rat):∀ k,k<=b.length->i+k<=o.length->Fe (I4 x b i o k) t=Fe o t+(x:Rat)*t^i*Fe (b.take k) t
 |
  0,_,_=>by
  show Fe o t=Fe o t+(x:Rat)*t^i*0;grind
 |
  k+1,h1,h2=>by
  have ih:=Qwm x b i o t k (by omega) (by omega);simp only [I4];rw [Qsq _ _ _ _ (by rw [I5]; omega),ih,Qms b k t (by omega)];have hp:t^(i+k)=t^i*t^k:=Qw9 t i k;rw [hp]
  push_cast
  grind
theorem Qwl (a b o:List Int) (t:Rat):∀ i,i<=a.length->i+b.length<=o.length+1->Fe (Ci a b o i) t=Fe o t+Fe (a.take i) t*Fe b t
 |
  0,_,_=>by
  show Fe o t=Fe o t+0*Fe b t;grind
 |
  i+1,h1,h2=>by
  have ih:=Qwl a b o t i (by omega) (by omega);simp only [Ci];rw [Qwm _ _ _ _ _ b.length (Ql _) (by rw [Cj]; omega),ih,Qms a i t (by omega),Qy];grind
theorem Gn (a b:List Int) (t:Rat):Fe (Gs a b) t=Fe a t*Fe b t:=by
 unfold Gs
 split
 ·rename_i h;rcases h with h | h
  ·rw [Qh h]; show (0:Rat)=0*_; grind
  ·rw [Qh h]; show (0:Rat)=_*0; grind
 ·rename_i h;rw [Oa,Qwl a b _ t a.length (Ql _) (by rw [X9]; omega),Qps,Qy];grind
theorem Hx (z d:Int):(z:Rat) / (d:Rat)=Rat.divInt z d:=by
 by_cases h:d=0
 ·subst h; simp; grind
 ·rw [J8]; exact (Rat.divInt_eq_div z d ▸ by rw [J8])
theorem Qtr (a:List Int) (n d:Int) (hd:(d:Rat)≠0):∀ k,k<=a.length->(((Mz a n d k).2:Int):Rat)=(d:Rat)^k/\(((Mz a n d k).1:Int):Rat)*d=(d:Rat)^k*Fe (a.drop (a.length-k)) ((n:Rat) / d)
 |
  0,_=>by
  refine ⟨by rw [Xi]; rfl,?_⟩;rw [W5,Y0];show ((0:Int):Rat)*d=(d:Rat)^0*0
  push_cast; grind
 |
  k+1,hk=>by
  obtain ⟨h1,h2⟩:=Qtr a n d hd k (by omega);have hi:a.length-1-k<a.length:=by omega
  have e1:a.drop (a.length-(k+1))=a.getD (a.length-1-k) 0::a.drop (a.length-k):=by
   rw [show a.length-(k+1)=a.length-1-k by omega,Zl hi,show a.length-1-k+1=a.length-k by omega];congr 1;rw [Qe,Qd hi]; rfl
  refine ⟨?_,?_⟩
  ·show (((Mz a n d k).2*d:Int):Rat)=_;rw [Xz,h1,Xe]
  ·rw [e1];show (((Mz a n d k).1*n+a.getD (a.length-1-k) 0*(Mz a n d k).2:Int):Rat)*d=_*(((a.getD (a.length-1-k) 0:Int):Rat)+(n:Rat) / d*Fe (a.drop (a.length-k)) ((n:Rat) / d));rw [Wa,Xz,Xz,h1,Xe];have h3:(n:Rat) / d*d=n:=by rw [Zj hd]
   have h4:(d:Rat)^k*d*((n:Rat) / d*Fe (a.drop (a.length-k)) ((n:Rat) / d))=((n:Rat) / d*d)*((d:Rat)^k*Fe (a.drop (a.length-k)) ((n:Rat) / d)):=by grind
   have h5:(d:Rat)^k*d*(((a.getD (a.length-1-k) 0:Int):Rat)+(n:Rat) / d*Fe (a.drop (a.length-k)) ((n:Rat) / d))=(d:Rat)^k*d*((a.getD (a.length-1-k) 0:Int):Rat)+(d:Rat)^k*d*((n:Rat) / d*Fe (a.drop (a.length-k)) ((n:Rat) / d)):=by grind
   rw [h5,h4,h3,<-h2];grind
theorem Qsv {d:Rat} (h:0<d):∀ k:Nat,0<d^k
 | 0=>by rw [Xi]; decide
 | k+1=>by rw [Xe]; exact Jj (Qsv h k) h
theorem Ef {x y:Rat} (h:0<y):Fo (y*x)=Fo x:=by
 unfold Fo;have h1:y*x<0↔x<0:=by
  constructor
  ·intro h2;rcases Ki (a:=0) (b:=x) with h3 | h3
   ·have:=Kj (Qp h) h3; grind
   ·rcases K0.1 h3 with h4 | h4
    ·exact h4
    ·rw [h4] at h2; grind
  ·intro h2;have:=Jj h (show 0 < -x by grind);grind
 have h2:0<y*x↔0<x:=by
  constructor
  ·intro h2;rcases Ki (a:=x) (b:=0) with h3 | h3
   ·have:=Kj (Qp h) (show 0<=-x by grind); grind
   ·rcases K0.1 h3 with h4 | h4
    ·exact h4
    ·rw [<-h4] at h2; grind
  ·intro h2; exact Jj h h2
 simp only [h1,h2]
theorem Q99 (z:Int):B7 z 0=Fo (z:Rat):=by
 unfold B7 Fo;have h1:((z:Int):Rat)<0↔z<0:=by
  have := @Rat.intCast_lt_intCast z 0; simpa using this
 have h2:0<((z:Int):Rat)↔0<z:=by
  have := @Rat.intCast_lt_intCast 0 z; simpa using this
 simp only [h1,h2]
theorem P3 (p:List Int) (q:Rat):Gl p q=Fo (Fe p q):=by
 have hd0:(0:Rat)<((q.den:Int):Rat):=by
  have := @Rat.intCast_lt_intCast 0 (q.den:Int);rw [show ((0:Int):Rat)=0 from rfl] at this;exact this.2 (den_pos q)
 have hd:((q.den:Int):Rat)≠0:=by intro h; rw [h] at hd0; exact absurd hd0 (by decide)
 obtain ⟨_,h⟩:=Qtr p q.num q.den hd p.length (Ql _);rw [Jw,Xu,Hx,Zv] at h;unfold Gl;rw [Q99,<-Ef hd0,Uw];show Fo ((((Mz p q.num q.den p.length).1:Int):Rat)*_)=_;rw [h,Ef (Qsv hd0 _)]
def cz (p:List Int):List Rat:=p.map λz:Int=>(z:Rat)
theorem Ff (t:Rat):∀ p,ev (cz p) t=Fe p t
 | []=>rfl
 | a::p=>by have:=Ff t p; simp only [cz,Xb,ev,Fe] at *; rw [this]
theorem Px:∀ (p:List Int) (k:Nat),(cz p).getD k 0=((p.getD k 0:Int):Rat)
 | [],k=>by simp [cz]
 | a::p,0=>by simp [cz]
 | a::p,k+1=>by have:=Px p k; simp only [cz,Xb,Q3] at *; exact this
theorem Ck {p q:List Int} (h:∀ t,Fe p t=Fe q t) (k:Nat):p.getD k 0=q.getD k 0:=by
 have:=Ce (p:=cz p) (q:=cz q) (λt=>by rw [Ff,Ff,h]) k;rw [Px,Px] at this
 exact_mod_cast this
theorem Qf9 {p q:List Int} (hp:Fg p) (hq:Fg q) (h:∀ k,p.getD k 0=q.getD k 0):p=q:=by
 have key:∀ {p q:List Int},Fg p->Fg q->(∀ k,p.getD k 0=q.getD k 0)->p.length<=q.length:=λ{p q} hp hq h=>by
  rcases Q9 q.length p.length with e | e
  ·have:=Hr hp (by omega);rw [h,Qe,Qt (by omega)] at this;exact absurd rfl this
  ·exact e
 exact Qlr (Vw (key hp hq h) (key hq hp λk=>(h k).symm)) λj _=>h j
theorem Q4b {p q:List Int} (hp:Fg p) (hq:Fg q) (h:∀ t,Fe p t=Fe q t):p=q:=Qf9 hp hq (Ck h)
theorem Zie {p:List Int} (hp:Fg p) (h:∀ t,Fe p t=0):p=[]:=Q4b hp rfl λt=>by rw [h]; rfl
theorem D3 {p:List Int} (h:p.length=0) (t:Rat):Fe p t=0:=by rw [Qh h]; rfl
theorem Q39:∀ (p r:List Int) (t:Rat),(∀ k,r.getD k 0=p.getD (k+1) 0*((k+1:Nat):Int))->Fe r t=dv (cz p) t
 |
  [],r,t,h=>by
  rw [Q4a (q:=[]) (λk=>by rw [h]; simp) t]; rfl
 |
  a::p,r,t,h=>by
  have ih:=Q39 p (Gj p) t λk=>P7 p k
  have e:Fe r t=Fe p t+t*Fe (Gj p) t:=by
   have:=Cm 1 1 t (max (max p.length (0::Gj p).length) r.length) p (0::Gj p) r (by omega) (by omega) (by omega) λk=>by
    rw [h,Q3];cases k with
    | zero=>simp
    | succ k=>rw [Q3,P7]; push_cast; grind
   rw [this]; simp only [Fe]; push_cast; grind
  rw [e,ih];show _=ev (cz p) t+t*dv (cz p) t;rw [Ff]
theorem Ac (p:List Int) (t:Rat):Fe (Gj p) t=dv (cz p) t:=Q39 p _ t λk=>P7 p k
theorem Qdi {p:List Int} (hp:Fg p) (h:0<p.length):HD (cz p) (p.length-1):=by
 refine ⟨?_,λk hk=>?_⟩
 ·rw [Px];have:=Hr hp h;exact λe=>this (by exact_mod_cast e)
 ·rw [Px,Qe,Qt (by omega)]; rfl
theorem Qig {p:List Int} (hp:Fg p) (h:0<p.length):¬∀ t,Fe p t=0:=λh0=>by
 rw [Zie hp h0] at h; exact absurd h (by simp)
theorem Mi {a b c:List Int} (ha:Fg a) (hb:Fg b) (hc:Fg c) (h:∀ t,Fe c t=Fe a t*Fe b t) (la:0<a.length) (lb:0<b.length):c.length=a.length+b.length-1:=by
 have h1:=Qhc (Qdi ha la) (Qdi hb lb);have h2:HD (cz c) (a.length-1+(b.length-1)):=Zbk (λt=>by rw [Fj,Ff,Ff,Ff,h]) h1;have lc:0<c.length:=by
  rcases Q0 c.length with e | e
  ·exact absurd (λt=>by rw [Ff]; exact D3 e t) (Q3f h2)
  ·exact e
 have:=Zkq (Qdi hc lc) h2;omega
theorem Qwu:∀ (n m:Nat),m<=n->2<=m->∃ P,2<=P/\P∣m/\∀ d,2<=d->d∣P->d=P
 | 0,m,h,h2=>by omega
 |
  n+1,m,h,h2=>by
  rcases Classical.em (∃ d,2<=d/\d<m/\d∣m) with ⟨d,d1,d2,d3⟩ | h0
  ·obtain ⟨P,p1,p2,p3⟩:=Qwu n d (by omega) d1;exact ⟨P,p1,Nat.dvd_trans p2 d3,p3⟩
  ·refine ⟨m,h2,Nat.dvd_refl m,λd d1 d2=>?_⟩;rcases Vx (Kw (by omega) d2) with e | e
   ·exact absurd ⟨d,d1,e,d2⟩ h0
   ·exact e
theorem Qrq {P:Nat} (h2:2<=P) (hP:∀ d,2<=d->d∣P->d=P) {x y:Int} (h:(P:Int)∣x*y):(P:Int)∣x\/(P:Int)∣y:=by
 have h:=Xm.2 h;rw [Jx,Xc] at h;have hg:=Wn P x.natAbs;rcases Q9 (Nat.gcd P x.natAbs) 2 with e | e
 ·right;have h1:Nat.gcd P x.natAbs=1:=by
   have:=Nat.gcd_pos_of_pos_left x.natAbs (show 0<P by omega); omega
  have:=Nat.Coprime.dvd_of_dvd_mul_left h1 h;exact Xm.1 (by rwa [Xc])
 ·left;have:=hP _ e hg;have h3:=Un P x.natAbs;rw [this] at h3;exact Xm.1 (by rwa [Xc])
def Qxx (P:Int) (l:List Int):Prop:=∀ k,P∣l.getD k 0
theorem Qgl {P:Nat} (h2:2<=P) (hP:∀ d,2<=d->d∣P->d=P):∀ (n:Nat) (b h c:List Int),b.length+h.length<=n->(∀ t,Fe c t=Fe b t*Fe h t)->Qxx P c->Qxx P b\/Qxx P h
 | _,[],h,c,_,_,_=>.inl λk=>by simp
 | _,x::b,[],c,_,_,_=>.inr λk=>by simp
 | 0,x::b,y::h,c,hn,_,_=>by simp at hn
 |
  n+1,x::b,y::h,c,hn,hc,hd=>by
  simp only [Q7] at hn;by_cases hx:(P:Int)∣x
  ·-- x h is taken away
   have e:∀ t,Fe (0::Gs b (y::h)) t=Fe (Pa c (Gb (y::h) x)) t:=λt=>by
    rw [Cn,Ro,hc]; simp only [Fe]; rw [Gn]; simp only [Fe]; push_cast; grind
   have hd':Qxx P (Gs b (y::h)):=λk=>by
    have:=Ck e (k+1);rw [Q3,Do,Sf] at this;rw [this];exact Int.dvd_sub (hd (k+1)) (Vr hx (Vk _ _))
   rcases Qgl h2 hP n b (y::h) _ (by simp only [Q7]; omega) (λt=>Gn _ _ t) hd' with h1 | h1
   ·refine .inl λk=>?_
    cases k with
    | zero=>rw [Zu]; exact hx
    | succ k=>rw [Q3]; exact h1 k
   ·exact .inr h1
  ·have h0:(P:Int)∣y:=by
    have e:c.getD 0 0=x*y:=by
     have:=Ck (p:=c) (q:=Gs (x::b) (y::h)) (λt=>by rw [hc,Gn]) 0;have e2:=Ck (p:=Gs (x::b) (y::h)) (q:=Ii (Gb (y::h) x) (0::Gs b (y::h))) (λt=>by
      rw [Qwn,Ro,Gn]; simp only [Fe]; rw [Gn]; simp only [Fe]; push_cast; grind) 0
     rw [this,e2,Qpq,Sf,Zu,Zu,Kb]; omega
    have:=hd 0;rw [e] at this;rcases Qrq h2 hP this with h1 | h1
    ·exact absurd h1 hx
    ·exact h1
   have e:∀ t,Fe (0::Gs (x::b) h) t=Fe (Pa c (Gb (x::b) y)) t:=λt=>by
    rw [Cn,Ro,hc]; simp only [Fe]; rw [Gn]; simp only [Fe]; push_cast; grind
   have hd':Qxx P (Gs (x::b) h):=λk=>by
    have:=Ck e (k+1);rw [Q3,Do,Sf] at this;rw [this];exact Int.dvd_sub (hd (k+1)) (Vr h0 (Vk _ _))
   rcases Qgl h2 hP n (x::b) h _ (by simp only [Q7]; omega) (λt=>Gn _ _ t) hd' with h1 | h1
   ·exact absurd (by have:=h1 0; rwa [Zu] at this) hx
   ·refine .inr λk=>?_
    cases k with
    | zero=>rw [Zu]; exact h0
    | succ k=>rw [Q3]; exact h1 k
def Prm (b:List Int):Prop:=∀ d:Int,Qxx d b->d∣1
theorem Za7 {a b:List Int} (hb:Prm b):∀ (n:Nat) (c:Int) (h:List Int),c.natAbs<=n->c≠0->(∀ t,(c:Rat)*Fe a t=Fe b t*Fe h t)->∃ h',∀ t,Fe a t=Fe b t*Fe h' t
 | 0,c,h,hn,h0,_=>absurd (by omega) h0
 |
  n+1,c,h,hn,h0,hc=>by
  rcases Q9 c.natAbs 2 with h1 | h1
  ·refine ⟨Gb h c,λt=>?_⟩;have hcc:(c:Rat)*c=1:=by
    have:c*c=1:=by
     rcases (show c=1\/c=-1 by omega) with rfl | rfl <;> rfl
    have:=congrArg (λz:Int=>(z:Rat)) this
    push_cast at this; exact this
   rw [Ro];have:=hc t;have:Fe a t=(c:Rat)*((c:Rat)*Fe a t):=by
    have:(c:Rat)*((c:Rat)*Fe a t)=((c:Rat)*c)*Fe a t:=by grind
    rw [this,hcc]; grind
   rw [this,hc]; grind
  ·obtain ⟨P,p1,p2,p3⟩:=Qwu c.natAbs c.natAbs (Ql _) h1;obtain ⟨d,hd⟩:∃ d,c=(P:Int)*d:=Ue.2 p2;have hall:Qxx P (Gb a c):=λk=>by
    rw [Sf,hd]; exact Vr (V6 _ _) (Vk _ _)
   have hP0:(P:Rat)≠0:=by
    have:((0:Nat):Rat)<(P:Rat):=V4.2 (by omega);grind
   rcases Qgl p1 p3 _ b h (Gb a c) (Ql _) (λt=>by rw [Ro,Uw,hc]) hall with e | e
   ·have:=hb P e;have:=Xm.2 this;rw [Xc] at this;have:=Kw (by decide) this;exact absurd this (by show ¬P<=1; omega)
   ·refine Za7 hb n d (h.map (· / (P:Int))) ?_ (λe0=>h0 (by rw [hd,e0,Kc])) λt=>?_
    ·rw [hd,Jx,Xc] at hn h1;have:2*d.natAbs<=P*d.natAbs:=Qx _ p1;omega
    ·have e1:Fe h t=(P:Rat)*Fe (h.map (· / (P:Int))) t:=by
      have:=Cm P 0 t (max h.length (h.map (· / (P:Int))).length) (h.map (· / (P:Int))) [] h (by omega) (by simp) (by omega) λk=>by
       have:=e k;have e2:(h.map (· / (P:Int))).getD k 0=h.getD k 0 / (P:Int):=by
        rw [Qe,Qe,Zb];cases h[k]? <;> simp
       rw [e2,Wz this]; simp
      rw [this]; simp only [Fe]; push_cast; grind
     have:=hc t;rw [hd,e1] at this
     push_cast at this
     have h3:(P:Rat)*((d:Rat)*Fe a t)=(P:Rat)*(Fe b t*Fe (h.map (· / (P:Int))) t):=by grind
     have h4:=J0.1 (show (P:Rat)*((d:Rat)*Fe a t-Fe b t*Fe (h.map (· / (P:Int))) t)=0 by grind);rcases h4 with h4 | h4
     ·exact absurd h4 hP0
     ·grind
theorem Qol:∀ u:List Rat,∃ c:Int,c≠0/\∃ h:List Int,∀ t,(c:Rat)*ev u t=Fe h t
 | []=>⟨1,by decide,[],λt=>by simp only [ev,Fe]; grind⟩
 |
  a::u=>by
  obtain ⟨c,hc,h,hh⟩:=Qol u;refine ⟨c*(a.den:Int),Jn hc (by have:=a.den_nz; omega),(c*a.num)::Gb h (a.den:Int),λt=>?_⟩;have e:(a.den:Rat)*a=a.num:=by
   rw [Uw];have:(a.num:Rat) / (((a.den:Int)):Rat)=a:=by rw [Hx,Zv]
   have hd:(a.den:Rat)≠0:=by
    have:((0:Nat):Rat)<(a.den:Rat):=V4.2 a.den_pos;grind
   have h2:(a.num:Rat) / (a.den:Rat)*(a.den:Rat)=a.num:=Zj hd;rw [show (a.num:Rat) / (a.den:Rat)=a from this] at h2; exact h2
  simp only [ev,Fe];rw [Ro,<-hh]
  push_cast
  rw [<-e];have e3:(((a.den:Int)):Rat)=(a.den:Rat):=rfl;grind
theorem Za6 {a b:List Int} (hb:Prm b) (h:Dvd (cz b) (cz a)):∃ h',Fg h'/\∀ t,Fe a t=Fe b t*Fe h' t:=by
 obtain ⟨u,hu⟩:=h;obtain ⟨c,hc,h,hh⟩:=Qol u;obtain ⟨h',e⟩:=Za7 hb c.natAbs c h (Ql _) hc λt=>by
  have:=hu t;rw [Ff,Ff] at this;rw [this,<-hh]; grind
 exact ⟨trim h',Rl _,λt=>by rw [Oa,e]⟩
def sd (x0:Rat):List Rat->List Rat
 | []=>[]
 | _::p=>Ty p (Nj x0 (sd x0 p))
theorem Zaw (x0 x:Rat):∀ p,ev (sd x0 p) x=dq p x x0
 | []=>rfl
 | a::p=>by simp only [sd,dq]; rw [Gt,Ge,Zaw x0 x p]
theorem Q00 (x0:Rat):∀ (g:List Rat) (n:Nat),(∀ j,n<j->g.getD j 0=0)->∀ j,n<=j->(sd x0 g).getD j 0=0
 | [],n,_,j,_=>by simp [sd]
 |
  a::p,0,h,j,_=>by
  have hp:∀ j,p.getD j 0=0:=λj=>by have:=h (j+1) (by omega); rwa [Q3] at this
  simp only [sd];rw [Rr,Tw,hp,Q00 x0 p 0 (λj _=>hp j) j (Qi _)]; grind
 |
  a::p,n+1,h,j,hj=>by
  have hp:∀ j,n<j->p.getD j 0=0:=λj hj=>by have:=h (j+1) (by omega); rwa [Q3] at this
  simp only [sd];rw [Rr,Tw,hp j (by omega),Q00 x0 p n hp j (by omega)]; grind
theorem Qzn {K:Rat} (hK:0≤K):∀ (e:Nat) (g:List Rat) (pts:List Int) (M:Rat),pts.length=e+1->pts.Nodup->(∀ x∈pts,Fp (x:Rat)≤K)->(∀ k,e<k->g.getD k 0=0)->(∀ x∈pts,Fp (ev g (x:Rat))≤M)->∀ k,Fp (g.getD k 0)≤(2*K+3)^e*M
 | _,_,[],_,h,_,_,_,_=>by simp at h
 |
  0,g,x0::xs,M,_,_,_,hg,hM=>λk=>by
  have h0:=hM x0 (by simp);rw [Xi];cases k with
  |
   zero =>
   have e:ev g (x0:Rat)=g.getD 0 0:=by
    cases g with
    | nil=>rfl
    |
     cons a p =>
     have hp:=D9 (p:=p) λj=>by have:=hg (j+1) (by omega); rwa [Q3] at this
     simp only [ev,hp,Zu]; grind
   rw [<-e]; grind
  |
   succ k =>
   rw [hg (k+1) (by omega),Rx];have:=H7 (ev g (x0:Rat)); grind
 |
  e+1,g,x0::xs,M,hl,hn,hb,hg,hM=>λk=>by
  have hx0:=hb x0 (by simp);have hM0:=hM x0 (by simp);have hMn:0<=M:=Za (H7 _) hM0;rw [List.nodup_cons] at hn;have ih:=Qzn hK e (sd x0 g) xs (2*M) (by simpa using hl) hn.2 (λx hx=>hb x (by simp [hx])) (λj hj=>Q00 _ g (e+1) hg j (by omega)) λx hx=>by
   have h1:=hM x (by simp [hx]);have h2:=Qov (x:Rat) (x0:Rat) g;rw [<-Zaw] at h2;have hne:x-x0≠0:=λh=>hn.1 (by rw [show x0=x by omega]; exact hx)
   have h3:=Qak hne;rw [Rat.intCast_sub] at h3;have h4:Fp (ev g (x:Rat)-ev g (x0:Rat))<=2*M:=by
    have:=S6 (ev g (x:Rat)) (-ev g (x0:Rat));rw [Ee,show ev g (x:Rat)+-ev g (x0:Rat)=ev g (x:Rat)-ev g (x0:Rat) by grind] at this;clear hM hb hg; grind
   rw [h2,Ed] at h4;have h5:=Q5 h3 (H7 (ev (sd x0 g) x));clear hM hb hg; grind
  have e1:∀ t,ev g t=ev (Ty [ev g x0] (Ty (Nj (-x0) (sd x0 g)) (0::sd x0 g))) t:=λt=>by
   have:=Qov t (x0:Rat) g;rw [<-Zaw] at this;simp only [Gt,Ge,ev];grind
  have hp1:1<=(2*K+3)^e:=(Qc1 (R:=2*K+3) (x:=0) (by grind) (by rw [Rx]; grind) e).2;have hpM:=Nh (x:=(2*K+3)^e) (y:=M) (by grind) hMn;have hpM1:=Q5 hp1 hMn;rw [Xe,Ce e1 k,Rr,Rr,Tw];have a1:=ih k;have a2:Fp (-(x0:Rat)*(sd (x0:Rat) g).getD k 0)<=K*((2*K+3)^e*(2*M)):=Hg (by rw [Ee]; exact hx0) a1;have fin:∀ u v w:Rat,Fp u<=M->Fp v<=K*((2*K+3)^e*(2*M))->Fp w<=(2*K+3)^e*(2*M)->Fp (u+(v+w))<=(2*K+3)^e*(2*K+3)*M:=λu v w h1 h2 h3=>by
   have b1:=S6 u (v+w);have b2:=S6 v w;clear ih e1 hM hb hg a1 a2; grind
  refine fin _ _ _ ?_ a2 ?_
  ·cases k with
   | zero=>rw [Zu]; exact hM0
   | succ k=>rw [Q3,Wm,Rx]; exact hMn
  ·cases k with
   | zero=>rw [Zu,Rx]; clear ih e1 hM hb hg a1 a2 fin; grind
   | succ k=>rw [Q3]; exact ih k
theorem Zdf {g:List Rat} {e:Nat} (hg:∀ k,e<k->g.getD k 0=0) (hz:¬∀ t,ev g t=0) {pts:List Int} (hn:pts.Nodup) (hr:∀ x∈pts,ev g (x:Rat)=0):pts.length≤e:=by
 rcases Q9 e pts.length with h | h
 ·exfalso;obtain ⟨K,hK,hb⟩:∃ K:Rat,0≤K/\∀ x∈pts,Fp (x:Rat)≤K:=by
   clear hn hr h
   induction pts with
   | nil=>exact ⟨0,by decide,λx hx=>by cases hx⟩
   |
    cons y pts ih =>
    obtain ⟨K,h1,h2⟩:=ih;refine ⟨K+Fp (y:Rat),by have:=H7 (y:Rat); grind,λx hx=>?_⟩;have hy:=H7 (y:Rat);rcases Qm.1 hx with rfl | hx
    ·grind
    ·have:=h2 x hx; grind
  refine hz (D9 λk=>?_);have:=Qzn hK e g (pts.take (e+1)) 0 (by rw [Qr]; omega) (hn.sublist (Um ..)) (λx hx=>hb x (Qn hx)) hg (λx hx=>by rw [hr x (Qn hx),Rx]; exact Qq) k;have h2:=H7 (g.getD k 0);exact Ziq (by grind)
 ·exact h
def spots:List Int:=(List.range 19).map λi:Nat=>(i:Int)-9
theorem spots_nd:spots.Nodup:=by decide
theorem Qxe:∀ x∈spots,x.natAbs≤9:=by decide
theorem Qlu {α:Type} (p:α->Bool):∀ l:List α,(l.filter p).length+(l.filter λx => !p x).length=l.length
 | []=>rfl
 |
  x::l=>by
  have:=Qlu p l;cases h:p x <;> simp [h] <;> omega
def geo:Nat->Nat
 | 0=>0
 | n+1=>1+9*geo n
theorem Q27 {B:Rat}:∀ (p:List Int),(∀ z∈p,Fp (z:Rat)≤B)->evB 9 (cz p)≤B*(geo p.length:Nat)
 | [],_=>by simp only [cz,Jl,evB,geo,Vu]; rw [show ((0:Nat):Rat)=0 from rfl]; grind
 |
  a::p,h=>by
  have h1:=Q27 p λz hz=>h z (Qj _ hz)
  have h2:=h a (Qw ..);simp only [cz,Xb,evB,geo,Q7] at *
  push_cast
  clear h; grind
theorem Zbf {m n:Nat} (h:m<=n):geo m<=geo n:=by
 induction h with
 | refl=>exact Ql _
 | step h ih=>simp only [geo]; omega
def pz:List Int->Int->Int
 | [],_=>0
 | a::p,x=>a+x*pz p x
theorem Qea (x:Int):∀ p,Fe p (x:Rat)=((pz p x:Int):Rat)
 | []=>rfl
 | a::p=>by simp only [Fe,pz,Qea x p]; push_cast; rfl
theorem S9 (z:Int):Fp (z:Rat)=((z.natAbs:Nat):Rat):=by
 unfold Fp;rcases Wy z 0 with h | h
 ·have h1:(z:Rat)<((0:Int):Rat):=X8.2 h;rw [if_pos (by simpa using h1)];have:(z.natAbs:Int)=-z:=by omega
  have:=congrArg (λu:Int=>(u:Rat)) this
  push_cast at this
  exact this.symm
 ·have h1:((0:Int):Rat)<=(z:Rat):=Ji.2 h;have h1:(0:Rat)<=(z:Rat):=by simpa using h1
  rw [if_neg (by grind)];have:(z.natAbs:Int)=z:=by omega
  have:=congrArg (λu:Int=>(u:Rat)) this;exact this.symm
theorem O8 {p g h:List Int} {s:Nat} (hp:Bd s p) (hl:p.length<=10) (tp:Fg p) (tg:Fg g) (th:Fg h) (h0:p.length≠0) (e:∀ t,Fe p t=Fe g t*Fe h t):Bd (s+69) g:=by
 have lg:0<g.length:=by
  rcases Q0 g.length with e' | e'
  ·exact absurd (λt=>by rw [e,D3 e']; grind) (Qig tp (by omega))
  ·exact e'
 have lh:0<h.length:=by
  rcases Q0 h.length with e' | e'
  ·exact absurd (λt=>by rw [e,D3 e']; grind) (Qig tp (by omega))
  ·exact e'
 have hlen:=Mi tg th tp e lg lh;obtain ⟨q,hq⟩:=nmE (spots.filter λx => !decide (pz p x=0));have hr:(spots.filter λx=>decide (pz p x=0)).length<=9:=by
  refine Zdf (g:=cz p) (e:=9) (λk hk=>?_) (λh=>Qig tp (by omega) λt=>by rw [<-Ff]; exact h t) (spots_nd.sublist List.filter_sublist) λx hx=>?_
  ·rw [Px,Qe,Qt (by omega)]; rfl
  ·have:=(K8.1 hx).2;rw [Ff,Qea,of_decide_eq_true this]; rfl
 have hc:=Qlu (λx=>decide (pz p x=0)) spots;rw [<-hq] at hc;have hsl:spots.length=19:=by decide
 have hB:∀ z∈p,Fp (z:Rat)≤((2^s:Nat):Rat):=λz hz=>by
  rw [S9];have:=hp z hz;rw [Sl] at this;exact Zc.2 (J5 this)
 have key:=Qzn (K:=9) (by decide) 9 (cz g) (q.take 10) (((2^s*435848050:Nat)):Rat) (by rw [Qr]; omega) ((spots_nd.sublist (by rw [hq]; exact List.filter_sublist)).sublist (Um ..)) (λx hx=>by
  have hx:=Qn hx;rw [hq] at hx;have:=Qxe x (K8.1 hx).1;rw [S9]
  exact_mod_cast Zc.2 this) (λk hk=>by rw [Px,Qe,Qt (by omega)]; rfl) (λx hx=>by
  have hx:=Qn hx;rw [hq] at hx;obtain ⟨hx1,hx2⟩:=K8.1 hx;have hne:pz p x≠0:=by simpa using hx2
  have e1:=e (x:Rat);rw [Qea,Qea,Qea] at e1;have e2:pz p x=pz g x*pz h x:=by exact_mod_cast e1
  have hh:1<=(pz h x).natAbs:=by
   rcases Q0 (pz h x).natAbs with e' | e'
   ·exact absurd (by rw [e2,Int.natAbs_eq_zero.1 e',Kc]) hne
   ·exact e'
  have h3:(pz g x).natAbs<=(pz p x).natAbs:=by
   rw [e2,Jx];exact Jr _ hh
  rw [Ff,Qea,S9];refine Za (Zc.2 h3) ?_;rw [<-S9,<-Qea,<-Ff];refine Za (Qih (R:=9) (by
   have:=Qxe x hx1;rw [S9]
   exact_mod_cast Zc.2 this) _) ?_
  refine Za (Q27 p hB) ?_;have:2^s*geo p.length<=2^s*435848050:=Zk _ (Qc (Zbf hl) (by decide));have:=Zc.2 this
  push_cast at this ⊢
  exact this)
 refine Qkl λk=>?_
 have h1:=key k;rw [Px,S9] at h1;have e3:(2*(9:Rat)+3)^9*((2^s*435848050:Nat):Rat)=(((794280046581*(2^s*435848050)):Nat):Rat):=by
  rw [show (2*(9:Rat)+3)^9=794280046581 by grind]
  push_cast; rfl
 rw [e3] at h1;have h2:=Zc.1 h1;rw [Sl];refine Zz h2 ?_;have:794280046581*(2^s*435848050)=2^s*(794280046581*435848050):=by
  rw [Wi]
 rw [this,Xj];exact Nat.mul_lt_mul_of_pos_left (by decide) (Z9 (by decide))
theorem Qu6 {l:List Int} {d:Int} (h:∀ z∈l,d∣z):d∣((Hz l:Nat):Int):=by
 have key:∀ (l:List Int) (g:Nat),d.natAbs∣g->(∀ z∈l,d∣z)->d.natAbs∣l.foldl (λg z=>Nat.gcd g z.natAbs) g:=by
  intro l
  induction l with
  | nil=>exact λg h _=>h
  | cons z l ih=>exact λg hg h=>ih _ (Nat.dvd_gcd hg (Xm.2 (h z (Qw ..)))) λu hu=>h u (Qj _ hu)
 have:=key l 0 (Nat.dvd_zero _) h;exact Xm.1 (by rw [Xc]; exact this)
theorem Qe4 (p:List Int) (c:Int) (k:Nat):(p.map (· / c)).getD k 0=p.getD k 0 / c:=by
 rw [Qe,Qe,Zb];cases p[k]? <;> simp
theorem Bj (p:List Int) (c:Int) (k:Nat):(Db p c).getD k 0=p.getD k 0 / c:=by
 unfold Db; rw [Es,Qe4]
theorem Qpr {p:List Int} {c:Int} (h:∀ z∈p,c∣z) (t:Rat):Fe p t=(c:Rat)*Fe (Db p c) t:=by
 have:=Cm c 0 t (max p.length (Db p c).length) (Db p c) [] p (by omega) (by simp) (by omega) λk=>by
  rw [Bj];have hd:c∣p.getD k 0:=by
   rw [Qe];cases e:p[k]? with
   | none=>exact Int.dvd_zero _
   | some z=>exact h z (Qa e)
  rw [Wz hd]; simp
 rw [this]; simp only [Fe]; push_cast; grind
theorem Qad {c:Int} (h:c≠0):(c:Rat)≠0:=λe=>h (by exact_mod_cast e)
theorem Ea {p q:List Int} {c:Rat} (tp:Fg p) (tq:Fg q) (hc:c≠0) (h:∀ t,Fe p t=c*Fe q t):p.length=q.length:=by
 have key:∀ {p q:List Int} {c:Rat},Fg p->Fg q->c≠0->(∀ t,Fe p t=c*Fe q t)->p.length<=q.length:=λ{p q c} tp tq hc h=>by
  rcases Q9 q.length p.length with e | e
  ·have h1:=Hr tp (by omega);have:=Ce (p:=cz p) (q:=Nj c (cz q)) (λt=>by rw [Ff,Ge,Ff,h]) (p.length-1);rw [Px,Tw,Px,Qe (l:=q),Qt (by omega)] at this;have:((p.getD (p.length-1) 0:Int):Rat)=0:=by rw [this]; simp
   exact absurd (by exact_mod_cast this) h1
  ·exact e
 refine Vw (key tp tq hc h) (key (c:=1 / c) tq tp (λe=>?_) λt=>?_)
 ·have:=Zj (a:=1) hc; rw [e] at this; grind
 ·rw [h]; have:=Zj (a:=1) hc; grind
theorem S5 {p:List Int} (tp:Fg p) (h:p.length≠0):Fg (Fi p)/\(Fi p).length=p.length/\Prm (Fi p)/\0<Fu (Fi p)/\(∀ s,Bd s p->Bd s (Fi p))/\Ha p≠0/\∀ t,Fe p t=(Ha p:Rat)*Fe (Fi p) t:=by
 have h0:=Q4c tp h;have e:Fi p=Db p (Ha p):=by unfold Fi; rw [if_neg h]
 have h1:=Qpr (p:=p) (c:=Ha p) Qfr;have hl:=Ea tp (Qao p (Ha p)) (Qad h0) h1;have hcp:0<Se p:=by
  have:=I7 tp h;unfold Se at this ⊢; omega
 rw [e];refine ⟨Qao _ _,hl.symm,λd hd=>?_,?_,λs hs=>Qkm hs _,h0,h1⟩
 ·have h2:∀ z∈p,d*Ha p∣z:=λz hz=>by
   obtain ⟨i,hi⟩:=Zf.1 hz;have h3:=hd i;rw [Bj,Qe,hi] at h3;obtain ⟨k,hk⟩:=h3;have h4:=Qfr z hz;refine ⟨k,?_⟩;have:z / Ha p*Ha p=z:=W6 h4;rw [<-this];rw [show z / Ha p=d*k from hk,Int.mul_right_comm]
  have h3:=Qu6 h2;have h4:Ha p∣((Hz p:Nat):Int)/\((Hz p:Nat):Int)∣Ha p:=by
   unfold Ha Se; split
   ·exact ⟨U5.2 (Ww _),Int.dvd_neg.2 (Ww _)⟩
   ·exact ⟨Ww _,Ww _⟩
  obtain ⟨k,hk⟩:=Vr h3 h4.2;refine ⟨k,?_⟩;have:Ha p*(d*k)=Ha p*1:=by rw [Uc,<-Int.mul_assoc,Kb (Ha p) d,<-hk]
  exact (Int.eq_of_mul_eq_mul_left h0 this).symm
 ·have h2:Fu (Db p (Ha p))=Fu p / Ha p:=by unfold Fu; rw [<-hl,Bj]
  have h3:Ha p∣Fu p:=Qfr _ (Qme h);have h5:Fu p / Ha p*Ha p=Fu p:=W6 h3;rw [h2];have h6:=Dz tp h;rcases Yf (Fu p / Ha p) 0 with e1 | e1 | e1
  ·exfalso;by_cases hn:Fu p<0
   ·have:Ha p=-Se p:=by unfold Ha; rw [if_pos hn]
    have:0<Fu p / Ha p*Ha p:=K7 e1 (by omega);omega
   ·have:Ha p=Se p:=by unfold Ha; rw [if_neg hn]
    have:Fu p / Ha p*Ha p<0:=Int.mul_neg_of_neg_of_pos e1 (by omega);omega
  ·rw [e1] at h5; omega
  ·exact e1
theorem Qwo {r:List Int} (tr:Fg r):∃ c:Rat,0<c/\∀ t,Fe r t=c*Fe (Ad r) t:=by
 unfold Ad;by_cases h:r.length=0
 ·rw [if_pos h]; exact ⟨1,by decide,λt=>by rw [D3 h,D3 rfl]; grind⟩
 ·rw [if_neg h];have h1:0<Se r:=by
   have:=I7 tr h;unfold Se at this ⊢; omega
  have h2:((0:Int):Rat)<(Se r:Rat):=X8.2 h1;exact ⟨Se r,by simpa using h2,Qpr Ek⟩
theorem I9 (x:Int) (t:Rat):∀ i,Fe (mono i x) t=(x:Rat)*t^i
 | 0=>by simp only [mono,W8,Y9,Fe,Xi]; grind
 |
  i+1=>by
  have ih:=I9 x t i;simp only [mono,Yi,Xl,Fe] at *;rw [ih,Xe]; push_cast; grind
theorem Qsf (x:Int) (b:List Int) (i k:Nat):(Gs (trim (mono i x)) b).getD k 0=if i<=k then x*b.getD (k-i) 0 else 0:=by
 have e:∀ t,Fe (Gs (trim (mono i x)) b) t=Fe (List.replicate i 0++b.map (x * ·)) t:=λt=>by
  rw [Gn,Oa,I9];have h2:∀ i,Fe (List.replicate i 0++b.map (x * ·)) t=t^i*((x:Rat)*Fe b t):=λi=>by
   induction i with
   |
    zero =>
    simp only [W8,Y9,Xi];have:=Cm x 0 t (max b.length (b.map (x * ·)).length) b [] (b.map (x * ·)) (by omega) (by simp) (by omega) λk=>by
     rw [Qe,Qe,Zb];cases b[k]? <;> simp
    rw [this]; simp only [Fe]; push_cast; grind
   | succ i ih=>simp only [Yi,Xl,Fe,ih,Xe]; push_cast; grind
  rw [h2]; grind
 rw [Ck e k,Qe,List.getElem?_append,X9];by_cases h:i<=k
 ·rw [if_neg (by omega),if_pos h,Zb,Qe];cases b[k-i]? <;> simp
 ·rw [if_pos (by omega),if_neg h,Yd,if_pos (by omega)]; rfl
theorem Qr5 {p:List Int} {n:Nat} (tp:Fg p) (h:p.length<=n+1) (h0:p.getD n 0=0):p.length<=n:=by
 rcases Q9 n p.length with e | e
 ·have:=Hr tp (by omega);rw [show p.length-1=n by omega] at this;exact absurd h0 this
 ·exact e
theorem Zjh {b r:List Int} {i:Nat} (tr:Fg r) (h:r.length<=b.length+i) (hb:b.length≠0) {x:Int} (hx:x=if r.length=b.length+i then Fu r else 0):(str b (Fu b) i x r).length<b.length+i:=by
 have hl:=Qr7 (c:=Fu b) (x:=x) (i:=i) (b:=b) (r:=r);have:=Qr5 (p:=str b (Fu b) i x r) (n:=b.length+i-1) (Fw _ _) (by omega) (by
  unfold str;rw [Do,Sf,Qsf,if_pos (by omega),hx,show b.length+i-1-i=b.length-1 by omega]
  split
  ·rename_i he;unfold Fu;rw [he,Int.sub_eq_zero]
  ·rw [Qe (l:=r),Qt (by omega)]; simp)
 omega
theorem Zed (b r:List Int) (c:Int) (i:Nat) (x:Int) (t:Rat):(c:Rat)*Fe r t=(x:Rat)*t^i*Fe b t+Fe (str b c i x r) t:=by
 unfold str;rw [Cn,Ro,Gn,Oa,I9]; grind
theorem Zcu (b:List Int) (c:Int):∀ (i:Nat) (q r:List Int),∃ X:List Rat,∀ t,((c^i:Int):Rat)*Fe r t=ev X t*Fe b t+Fe (psd b c i (q,r)).2 t
 | 0,q,r=>⟨[],λt=>by simp only [psd,ev]; rw [Int.pow_zero]; push_cast; grind⟩
 |
  i+1,q,r=>by
  obtain ⟨x,hx⟩:=nmE (if r.length=b.length+i then Fu r else 0);obtain ⟨X,hX⟩:=Zcu b c i (stq c i x q) (str b c i x r);obtain ⟨m,hm⟩:∃ m:List Rat,∀ t,ev m t=(x:Rat)*t^i:=⟨cz (mono i x),λt=>by rw [Ff,I9]⟩;refine ⟨Ty (Nj ((c^i:Int):Rat) m) X,λt=>?_⟩;rw [Qb6 hx,Gt,Ge,hm];have h1:=hX t;have h2:=Zed b r c i x t;rw [Int.pow_succ]
  push_cast at h1 ⊢
  have:(c:Rat)^i*c*Fe r t=(c:Rat)^i*((c:Rat)*Fe r t):=by grind
  rw [this,h2]; grind
theorem Qsw {b:List Int} (hb:b.length≠0):∀ (i:Nat) (q r:List Int),Fg r->r.length<b.length+i->Fg (psd b (Fu b) i (q,r)).2/\(psd b (Fu b) i (q,r)).2.length<b.length
 | 0,q,r,tr,h=>⟨tr,h⟩
 |
  i+1,q,r,tr,h=>by
  rw [Qb6 rfl];exact Qsw hb i _ _ (Fw _ _) (Zjh tr (by omega) hb rfl)
theorem Zct {b:List Int} {c:Int} {t:Nat} (hb:Bd t b) (hc:Fq c<=t):∀ (i u:Nat) (q r:List Int),i<=64->Bd u r->Bd (u+i*(t+8)) (psd b c i (q,r)).2
 | 0,u,q,r,_,h=>by simpa [psd] using h
 |
  i+1,u,q,r,hi,h=>by
  rw [Qb6 rfl];have hx:Fq (if r.length=b.length+i then Fu r else 0)<=u:=by
   split
   ·exact Nm h
   ·rw [Nn]; exact Qi _
  have:=Zct hb hc i (u+t+8) (stq c i (if r.length=b.length+i then Fu r else 0) q) (str b c i (if r.length=b.length+i then Fu r else 0) r) (by omega) (Qx4 h hb hc hx (by omega));exact U8 this (by rw [Xd]; omega)
theorem Qmy {c:Int} (h:c<0):∀ k:Nat,(k % 2=1->c^k<0)/\(k % 2=0->0<c^k)
 | 0=>⟨λh=>by omega,λ_=>by rw [Int.pow_zero]; decide⟩
 |
  k+1=>by
  obtain ⟨i1,i2⟩:=Qmy h k;rw [Int.pow_succ];exact ⟨λhk=>K6 (i2 (by omega)) h,λhk=>K7 (i1 (by omega)) h⟩
theorem Qfx {a b:List Int} (ta:Fg a) (tb:Fg b) (hb:b.length≠0) (hl:a.length<=60):Fg (Hi a b)/\(Hi a b).length<b.length/\(∀ s,Bd s a->Bd s b->Bd (s+(a.length+1-b.length)*(s+8)) (Hi a b)) /\
 ∃ u v:Rat,0<u/\0<v/\∃ X:List Rat,∀ t,u*Fe a t=ev X t*Fe b t+v*Fe (Hi a b) t:=by
 obtain ⟨k,hk⟩:=nmE (a.length+1-b.length);have h1:Fg (Mf a b)/\(Mf a b).length<b.length:=Qsw hb _ _ _ ta (by omega);obtain ⟨X,hX⟩:=Zcu b (Fu b) k [] a;have hX:∀ t,(((Fu b)^k:Int):Rat)*Fe a t=ev X t*Fe b t+Fe (Mf a b) t:=by unfold Mf; rw [<-hk]; exact hX
 have h2:=Qft (a:=a) (b:=b) (r:=Mf a b) (n:=(Mf a b).length) (s:=(Mf a b).foldl (λm z=>m+Fq z) 0) h1.1 (Ql _) (λz hz=>by
  have key:∀ (l:List Int) (m:Nat),m≤l.foldl (λm z=>m+Fq z) m/\∀ z∈l,Fq z≤l.foldl (λm z=>m+Fq z) m:=by
   intro l
   induction l with
   | nil=>exact λm=>⟨Ql _,λz hz=>by cases hz⟩
   |
    cons y l ih =>
    intro m;obtain ⟨i1,i2⟩:=ih (m+Fq y);refine ⟨by simp only [Xg]; omega,λz hz=>?_⟩;simp only [Xg];rcases Qm.1 hz with rfl | hz
    ·omega
    ·exact i2 z hz
  exact (key _ 0).2 z hz)
 have h3:=Qmv (r:=Ng a b (Mf a b)) (n:=(Mf a b).length) h2.2.1 h2.2.2;refine ⟨h3.1,by unfold Hi; omega,λs ha hbs=>?_,?_⟩
 ·have h4:=Zct (c:=Fu b) hbs (Nm hbs) k s [] a (by omega) ha;have h5:=Qft (a:=a) (b:=b) (n:=(Mf a b).length) h1.1 (Nat.le_refl _) (show Bd (s+k*(s+8)) (Mf a b) by unfold Mf; rw [<-hk]; exact h4);rw [<-hk];exact (Qmv h5.2.1 h5.2.2).2.2
 ·obtain ⟨v,vp,hv⟩:=Qwo h2.1;have hc:=Dz tb hb;by_cases ht:k % 2=1/\Fu b<0
  ·have e1:Ng a b (Mf a b)=P0 (Mf a b):=by unfold Ng; rw [<-hk,if_pos ht]
   have hneg:(Fu b)^k<0:=(Qmy ht.2 k).1 ht.1;have h5:(((Fu b)^k:Int):Rat)<((0:Int):Rat):=X8.2 hneg;have h5:(((Fu b)^k:Int):Rat)<0:=by simpa using h5
   refine ⟨-(((Fu b)^k:Int):Rat),v,by grind,vp,Nj (-1) X,λt=>?_⟩;have h6:=hX t;have h7:=hv t;rw [e1,Qfq] at h7;show _=_+v*Fe (Ad (Ng a b (Mf a b))) t;rw [e1,<-h7,Ge]; grind
  ·have e1:Ng a b (Mf a b)=Mf a b:=by unfold Ng; rw [<-hk,if_neg ht]
   have hpos:0<(Fu b)^k:=by
    rcases Wb hc with h | h
    ·exact (Qmy h k).2 (by omega)
    ·exact Int.pow_pos h
   have h5:((0:Int):Rat)<(((Fu b)^k:Int):Rat):=X8.2 hpos;refine ⟨(((Fu b)^k:Int):Rat),v,by simpa using h5,vp,X,λt=>?_⟩;have h7:=hv t;show _=_+v*Fe (Ad (Ng a b (Mf a b))) t;rw [<-h7,e1,hX]
end Orq
