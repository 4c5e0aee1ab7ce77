/- T20 T21 T22 T23 T24 T25 G1 G2 SortL KinL K1 K2 F6 F7 F8 F9 G3 G4 K3 K4 S1 S2 S3 -/
import Derived.Test.YthgaepodbpcjdaaGreatPart06
import Derived.Test.YthgaepodbpcjdaaGreatPart00
import Derived.Test.YthgaepodbpcjdaaGreatPart05
set_option linter.all false
namespace Orq
open Orr Go
structure Gr (D M k:Nat) (q:Rat):Prop where
 u:∃ u:Int,q*((D*2^k:Nat):Rat)=(u:Rat)
 b:Fj q<=(M:Rat)
 d:0<D
theorem nat_pos {n:Nat} (h:0<n):(0:Rat)<(n:Rat):=by
 have:((0:Nat):Rat)<(n:Rat):=Vo.2 h;simpa using this
theorem qJ {D M k:Nat} {q:Rat} (h:Gr D M k q):Gr D M (k+1) q:=by
 obtain ⟨u,hu⟩:=h.u;refine ⟨⟨u*2,?_⟩,h.b,h.d⟩;rw [Zr,<-Xz]
 push_cast at hu ⊢
 rw [<-hu]; grind
theorem Qh8 {D M k:Nat} {a b:Rat} (ha:Gr D M k a) (hb:Gr D M k b):Gr D M (k+1) ((a+b) / 2):=by
 obtain ⟨u,hu⟩:=ha.u;obtain ⟨v,hv⟩:=hb.u;have h2:(a+b) / 2*2=a+b:=Hf (by decide);refine ⟨⟨u+v,?_⟩,?_,ha.d⟩
 ·rw [Zr,<-Xz]
  push_cast at hu hv ⊢
  rw [<-hu,<-hv];generalize (a+b) / 2=c at *;generalize (D:Rat)*2^k=z at *;have:c*(z*2)=(c*2)*z:=by grind
  rw [this,h2]; grind
 ·have h3:=ha.b;have h4:=hb.b;rw [Mi] at *;constructor <;> grind
theorem Qu6 {D M k:Nat} {q:Rat} (h:Gr D M k q):q.den<=D*2^k:=by
 obtain ⟨u,hu⟩:=h.u;have hp:0<D*2^k:=J5 h.d (Z2 (by decide));have e:q=Rat.divInt u ((D*2^k:Nat):Int):=by
  rw [<-H9,<-hu];have hz:=nat_pos hp;rw [show ((((D*2^k:Nat):Int)):Rat)=((D*2^k:Nat):Rat) from rfl];rw [J6];have:=Ws ((D*2^k:Nat):Rat) (by grind);generalize ((D*2^k:Nat):Rat)=z at *;have:q*z*z⁻¹=q*(z*z⁻¹):=by grind
  rw [this,‹z*z⁻¹=1›]; grind
 rw [e,Wm,if_neg (by omega),Xh];exact Jq _ _
theorem LJ {a b k:Nat} {z:Int} (h:z.natAbs<=a*(b*2^k)):Fe z<=Fe (a:Int)+Fe (b:Int)+k:=by
 have h1:Fe (a:Int)<=Fe (a:Int):=Ql _;have h2:Fe (b:Int)<=Fe (b:Int):=Ql _;rw [Sw] at h1 h2 ⊢;rw [Xh] at h1 h2;rw [Xf,Xf];have h3:a*b<2^Fe (a:Int)*2^Fe (b:Int):=Nat.mul_lt_mul_of_lt_of_le h1 (Yk h2) (Z2 (by decide));have h4:=Xn h3 (show 0<2^k from Z2 (by decide));rw [<-Xz] at h; omega
theorem qX {D M k B:Nat} {q:Rat} (h:Gr D M k q) (hM:0<M) (hs:Fe (D:Int)+Fe (M:Int)+k<=B):Qs B q:=by
 have hd:=Qu6 h;have hden:=nat_pos q.den_pos;have h1:(q.num.natAbs:Rat)<=((M*(D*2^k):Nat):Rat):=by
  have e:(q.num:Rat)=q*(q.den:Rat):=by
   have:(q.num:Rat) / (((q.den:Int)):Rat)=q:=by rw [H9,Z5]
   have h2:(q.num:Rat) / (q.den:Rat)*(q.den:Rat)=q.num:=Zj (by grind);rw [show (q.num:Rat) / (q.den:Rat)=q from this] at h2; exact h2.symm
  rw [<-Sx,e];have h3:=Hd (x:=q) (y:=(q.den:Rat)) (b:=((D*2^k:Nat):Rat)) h.b (by
   have:Fj (q.den:Rat)=(q.den:Rat):=by unfold Fj; rw [if_neg (by grind)]
   rw [this]; exact Zm.2 hd)
  push_cast at h3 ⊢; exact h3
 have h1:=Zm.1 h1;refine ⟨?_,?_⟩
 ·have:=LJ (z:=q.num) h1; omega
 ·have:=LJ (z:=(q.den:Int)) (a:=M) (b:=D) (k:=k) (by
   rw [Xh];exact Qa hd (Nat.le_mul_of_pos_left _ hM))
  omega
theorem nO (a b:Rat):mid a b=(a+b) / 2:=by
 unfold mid;rw [<-H9];have ha:(a.num:Rat)=a*(a.den:Rat):=by
  have:(a.num:Rat) / (((a.den:Int)):Rat)=a:=by rw [H9,Z5]
  have h2:(a.num:Rat) / (a.den:Rat)*(a.den:Rat)=a.num:=Zj (by have:=nat_pos a.den_pos; grind);rw [show (a.num:Rat) / (a.den:Rat)=a from this] at h2; exact h2.symm
 have hb:(b.num:Rat)=b*(b.den:Rat):=by
  have:(b.num:Rat) / (((b.den:Int)):Rat)=b:=by rw [H9,Z5]
  have h2:(b.num:Rat) / (b.den:Rat)*(b.den:Rat)=b.num:=Zj (by have:=nat_pos b.den_pos; grind);rw [show (b.num:Rat) / (b.den:Rat)=b from this] at h2; exact h2.symm
 have pa:=nat_pos a.den_pos;have pb:=nat_pos b.den_pos;rw [Kc,X1,X1,X1,X1,ha,hb];rw [show (((a.den:Int)):Rat)=(a.den:Rat) from rfl,show (((b.den:Int)):Rat)=(b.den:Rat) from rfl,show (((2:Int)):Rat)=2 from rfl];generalize (a.den:Rat)=x at *;generalize (b.den:Rat)=y at *;have hxy:=Iz (Iz pa pb) (show (0:Rat)<2 by decide);have h1:(a*x*y+b*y*x) / (x*y*2)*(x*y*2)=a*x*y+b*y*x:=Hf hxy;have h2:(a+b) / 2*2=a+b:=Hf (by decide);generalize (a*x*y+b*y*x) / (x*y*2)=c at *;generalize (a+b) / 2=d at *;have h3:(x*y*2)*(c-d)=0:=by grind
 rcases Y3.1 h3 with h4 | h4 <;> grind
theorem NG (a b:Rat):EN a b=a-b:=by
 unfold EN;rw [Rat.sub_def',<-Rat.divInt_ofNat]
 push_cast; rfl
theorem eH {a b:Rat}:He a b=0↔a=b:=by
 constructor
 ·intro h;have h1:¬a<b:=λh'=>by have:=Ny.2 h'; omega
  have h2:¬b<a:=λh'=>by have:=En.2 h'; omega
  grind
 ·intro h; subst h; exact E4 a
theorem MS {a b:Rat}:He a b<=0↔a<=b:=by
 constructor
 ·intro h;have h2:¬b<a:=λh'=>by have:=En.2 h'; omega
  grind
 ·intro h;have h2:¬0<He a b:=λh'=>by have:=En.1 h'; grind
  omega
theorem MR {a b:Rat}:0<=He a b↔b<=a:=by
 constructor
 ·intro h;have h2:¬a<b:=λh'=>by have:=Ny.2 h'; omega
  grind
 ·intro h;have h2:¬He a b<0:=λh'=>by have:=Ny.1 h'; grind
  omega
theorem M9 (a b:Rat):He a b=1/\b<a\/He a b=0/\a=b\/He a b=-1/\a<b:=by
 have hb:=QT a b;rcases (show He a b=1\/He a b=0\/He a b=-1 by omega) with h | h | h
 ·exact .inl ⟨h,En.1 (by omega)⟩
 ·exact .inr (.inl ⟨h,eH.1 h⟩)
 ·exact .inr (.inr ⟨h,Ny.1 (by omega)⟩)
theorem fO (p:Um) (x:Rat):low p x=Pu (cz p) x:=by
 unfold low Pu;rw [Nm,Nm,Fa,Ot]
theorem Cj {t:Tm} (h:t.lo<t.hi) (q:Rat):Fp t q=cq (cz t.p) t.lo t.hi q:=by
 have hp:t.point=false:=by
  unfold Tm.point;have:¬0<=He t.lo t.hi:=λh'=>by have:=MR.1 h'; grind
  simp [this]
 unfold Fp cq;rw [hp,if_neg (by decide)];have e1:(He q t.lo<=0)=(q<=t.lo):=propext MS;have e2:(0<He q t.hi)=(t.hi<q):=propext En;rw [Nm,fO,<-Fa];simp only [e1,e2]
theorem Mv {t:Tm}:t.point=true↔t.hi<=t.lo:=by
 unfold Tm.point;rw [decide_eq_true_iff]; exact MR
theorem Ie {t:Tm} (h:t.lo=t.hi) (q:Rat):Fp t q=He t.lo q:=by
 have hp:t.point=true:=Mv.2 (by rw [h]; exact Qp);unfold Fp; rw [if_pos hp]
theorem Quj {c:Rat->Int} {x:Rat} (h:∀ q,c q=He x q):Cut c where
 val q:=by rw [h]; have:=QT x q; omega
 mono q r hqr h1:=by
  rw [h] at h1 ⊢;rcases M9 x q with ⟨e,e'⟩ | ⟨e,e'⟩ | ⟨e,e'⟩
  ·exact absurd e h1
  ·rcases M9 x r with ⟨f,f'⟩ | ⟨f,f'⟩ | ⟨f,f'⟩ <;> grind
  ·rcases M9 x r with ⟨f,f'⟩ | ⟨f,f'⟩ | ⟨f,f'⟩ <;> grind
 up q h1:=by
  rw [h] at h1;have h2:=En.1 (show 0<He x q by omega);have h3:(x+q) / 2*2=x+q:=Hf (by decide);have h4:=En.2 (show (x+q) / 2<x by grind);have:=QT x ((x+q) / 2);exact ⟨(x+q) / 2,by grind,by rw [h]; omega⟩
 dn q h1:=by
  rw [h] at h1;have h2:=Ny.1 (show He x q<0 by omega);have h3:(x+q) / 2*2=x+q:=Hf (by decide);have h4:=Ny.2 (show x<(x+q) / 2 by grind);have:=QT x ((x+q) / 2);exact ⟨(x+q) / 2,by grind,by rw [h]; omega⟩
 lo:=⟨x-1,by
  rw [h];have h4:=En.2 (show x-1<x by grind);have:=QT x (x-1); omega⟩
 hi:=⟨x+1,by
  rw [h];have h4:=Ny.2 (show x<x+1 by grind);have:=QT x (x+1); omega⟩
def lim (t:Tm):Nat:=if t.point=true then 3300000 else 1000000
theorem yZ {t:Tm} (h:t.point=false):lim t=1000000:=by simp [lim,h]
theorem Qvb (t:Tm):1000000<=lim t:=by unfold lim; split <;> omega
theorem Qvc (t:Tm):lim t<=3300000:=by unfold lim; split <;> omega
structure Va (t:Tm):Prop where
 i:t.lo=t.hi/\U9 t.p t.lo=0\/∃ L,Vt (cz t.p) L t.lo t.hi
 tr:Ff t.p
 n:t.p.length<=9
 n2:2<=t.p.length
 b:Bd 3300000 t.p
 bi:t.point=false->Bd 1260 t.p
 sc:t.point=false->∃ (l:List (List Int)) (P g:List Int),sE 66 t.p (Fi (Gx t.p))=some l/\Sqp P g t.p/\Vt (cz t.p) ((t.p::l).map cz) t.lo t.hi
 g:∃ D M k,Gr D M k t.lo/\Gr D M k t.hi/\0<M/\Fe (D:Int)+Fe (M:Int)+k<=lim t
theorem Va.le {t:Tm} (h:Va t):t.lo<=t.hi:=by
 rcases h.i with ⟨e,_⟩ | ⟨L,V⟩
 ·rw [e]; exact Qp
 ·exact Qt V.l
theorem Va.pt {t:Tm} (h:Va t) (hp:t.point=true):t.lo=t.hi/\U9 t.p t.lo=0:=by
 rcases h.i with e | ⟨L,V⟩
 ·exact e
 ·have:=Mv.1 hp;have:=V.l;grind
theorem Va.iv {t:Tm} (h:Va t) (hp:t.point=false):∃ L,Vt (cz t.p) L t.lo t.hi:=by
 rcases h.i with ⟨e,_⟩ | h
 ·have:=Mv.2 (show t.hi<=t.lo by rw [e]; exact Qp);rw [hp] at this; cases this
 ·exact h
theorem Va.cut {t:Tm} (h:Va t):Cut (Fp t):=by
 rcases h.i with ⟨e,_⟩ | ⟨L,V⟩
 ·exact Quj (x:=t.lo) λq=>Ie e q
 ·have:Fp t=cq (cz t.p) t.lo t.hi:=funext λq=>Cj V.l q
  rw [this]; exact V.cut
theorem Qwu {c:Rat->Int} (hc:Cut c) {p:Up} {x:Rat} (h:c x=0) (h0:ev p x=0):I3 p c:=by
 rcases YZ hc p with h1 | ⟨s,hs,h1⟩
 ·exact h1
 ·have:=gC hc h h1;rw [Gq.2 h0] at this; exact absurd this.symm hs
theorem Va.van {t:Tm} (h:Va t):I3 (cz t.p) (Fp t):=by
 have hc:=h.cut;rcases h.i with ⟨e,h0⟩ | ⟨L,V⟩
 ·exact Qwu hc (x:=t.lo) (by rw [Ie e,E4]) (by rw [Fa]; exact h0)
 ·have:Fp t=cq (cz t.p) t.lo t.hi:=funext λq=>Cj V.l q
  rw [this]; exact V.van
theorem Va.qs {t:Tm} (h:Va t):Qs 3300000 t.lo/\Qs 3300000 t.hi:=by
 obtain ⟨D,M,k,h1,h2,h3,h4⟩:=h.g;have h4:=Qa h4 (Qvc t);exact ⟨qX h1 h3 h4,qX h2 h3 h4⟩
theorem Va.qsn {t:Tm} (h:Va t) (hp:t.point=false):Qs 1000000 t.lo/\Qs 1000000 t.hi:=by
 obtain ⟨D,M,k,h1,h2,h3,h4⟩:=h.g;rw [yZ hp] at h4;exact ⟨qX h1 h3 h4,qX h2 h3 h4⟩
theorem Va.tb {t:Tm} (h:Va t):Tb t:=⟨⟨h.tr,by have:=h.n; omega,U5 h.b (by omega)⟩,h.qs.1.mono (t:=16777216) (by omega),h.qs.2.mono (t:=16777216) (by omega)⟩
structure Hv (t:Tm) (D M k:Nat) (u:Tm):Prop where
 p:u.p=t.p
 i:u.lo=u.hi/\U9 u.p u.lo=0\/∃ L,Vt (cz u.p) L u.lo u.hi
 c:∀ q,Fp u q=Fp t q
 l:Gr D M k u.lo
 h:Gr D M k u.hi
theorem uV {c:Rat->Int} (hc:Cut c) {x:Rat} (h:c x=0) (q:Rat):c q=He x q:=by
 rcases M9 x q with ⟨e,e'⟩ | ⟨e,e'⟩ | ⟨e,e'⟩
 ·rw [e]; exact hc.mono' e' (by omega)
 ·rw [e,<-e',h]
 ·rw [e]; exact hc.mono x q e' (by omega)
theorem jD {t u:Tm} {D M k:Nat} (hu:Hv t D M k u) (hM:0<M) (hs:Fe (D:Int)+Fe (M:Int)+(k+1)<=16777216):∃ v,jC u=some v/\Hv t D M (k+1) v/\v.hi-v.lo<=(u.hi-u.lo) / 2/\u.lo<=v.lo/\v.hi<=u.hi:=by
 have h2:∀ x:Rat,x / 2*2=x:=λx=>Hf (by decide)
 unfold jC;rcases hu.i with ⟨e,h0⟩ | ⟨L,V⟩
 ·have hp:u.point=true:=Mv.2 (by rw [e]; exact Qp);rw [if_pos hp];refine ⟨u,rfl,⟨hu.p,hu.i,hu.c,qJ hu.l,qJ hu.h⟩,?_,Qp,Qp⟩;rw [e]; have:=h2 (u.hi-u.hi); grind
 ·have hp:u.point=false:=by
   have:¬u.point=true:=λh=>by have:=Mv.1 h; have:=V.l; grind
   simpa using this
  rw [hp,if_neg (by decide)];obtain ⟨m,hm⟩:=nmE ((u.lo+u.hi) / 2);have hmg:Gr D M (k+1) m:=by rw [hm]; exact Qh8 hu.l hu.h
  have hmm:=h2 (u.lo+u.hi);rw [<-hm] at hmm;have hl:=V.l;have hl1:u.lo<m:=by grind
  have hl2:m<u.hi:=by grind
  have hch:chq (mid u.lo u.hi)=some m:=by
   rw [nO,<-hm];have:=qX hmg hM hs;unfold chq;rw [if_pos ⟨this.1,this.2⟩]
  have hcm:mid u.lo u.hi=m:=by rw [nO,<-hm]
  rw [hch];show ∃ v,some (if Fp u m=0 then (⟨u.p,m,m⟩:Tm) else if Fp u m=-1 then ⟨u.p,u.lo,m⟩ else ⟨u.p,m,u.hi⟩)=some v/\_;have hw:=h2 (u.hi-u.lo);have hcu:=Cj hl;have hcut:=V.cut;have hcut':Cut (Fp u):=by rw [show Fp u=cq (cz u.p) u.lo u.hi from funext hcu]; exact hcut
  by_cases c0:Fp u m=0
  ·rw [if_pos c0];have hz:U9 u.p m=0:=by
    have:=TL hcut (q:=m) (by rw [<-hcu]; exact c0) V.van;rwa [Fa] at this
   refine ⟨_,rfl,⟨hu.p,.inl ⟨rfl,hz⟩,λq=>?_,hmg,hmg⟩,by show m-m<=_; grind,by show u.lo<=m; grind,by show m<=u.hi; grind⟩;rw [Ie rfl,<-hu.c];exact (uV hcut' c0 q).symm
  ·rw [if_neg c0];by_cases c1:Fp u m=-1
   ·rw [if_pos c1];have hv:vv L m=vv L u.hi:=V.eq_hi hl1 (Qt hl2) (by rw [<-hcu,c1]; decide);have V':Vt (cz u.p) L u.lo m:=⟨V.s,hl1,by rw [hv]; exact V.v⟩;refine ⟨_,rfl,⟨hu.p,.inr ⟨L,V'⟩,λq=>?_,qJ hu.l,hmg⟩,by show m-u.lo<=_; grind,Qp,by show m<=u.hi; grind⟩;rw [Cj hl1,<-hu.c,hcu];exact V.uniq V'.cut (Ah Qp) (by rw [UN hl1 hl2]; decide) V'.van q
   ·rw [if_neg c1];have c2:Fp u m=1:=by rcases hcut'.val m with h | h | h <;> omega
    have hv:vv L m=vv L u.lo:=V.eq_lo hl1 (Qt hl2) (by rw [<-hcu]; exact c2);have V':Vt (cz u.p) L m u.hi:=⟨V.s,hl2,by rw [hv]; exact V.v⟩;refine ⟨_,rfl,⟨hu.p,.inr ⟨L,V'⟩,λq=>?_,hmg,qJ hu.h⟩,by show u.hi-m<=_; grind,by show u.lo<=m; grind,Qp⟩;rw [Cj hl2,<-hu.c,hcu];exact V.uniq V'.cut (Ah (by grind)) V'.hi1 V'.van q
def Nv (a b:Tm):Prop:=∃ q,Fp a q=-1/\Fp b q=1
def TEq (a b:Tm):Prop:=∀ q,Fp a q=Fp b q
theorem tri {a b:Tm} (ha:Cut (Fp a)) (hb:Cut (Fp b)):Nv a b\/TEq a b\/Nv b a:=by
 rcases Classical.em (TEq a b) with h | h
 ·exact .inr (.inl h)
 ·obtain ⟨q,hq⟩:=Classical.not_forall.1 h;obtain ⟨r,⟨h1,h2⟩ | ⟨h1,h2⟩⟩:=uY ha hb hq
  ·exact .inl ⟨r,h1,h2⟩
  ·exact .inr (.inr ⟨r,h2,h1⟩)
theorem Iy {a b:Tm} (ha:Cut (Fp a)) (hb:Cut (Fp b)) (h:Nv a b) (h':Nv b a):False:=by
 obtain ⟨q,q1,q2⟩:=h;obtain ⟨r,r1,r2⟩:=h';have:=ha.lt r2 q1;have:=hb.lt q2 r1;grind
theorem rD {p:Um} (k:Nat):(p.getD k 0).natAbs<=2^Ha p:=by
 have h:Fe (p.getD k 0)<=Ha p:=by
  have key:∀ (l:Um) (n:Nat),n≤l.foldl (λn z=>max n (Fe z)) n/\∀ z∈l,Fe z≤l.foldl (λn z=>max n (Fe z)) n:=by
   intro l
   induction l with
   | nil=>exact λn=>⟨Ql _,λz hz=>by cases hz⟩
   |
    cons y l ih =>
    intro n;obtain ⟨i1,i2⟩:=ih (max n (Fe y));refine ⟨by simp only [Z9]; omega,λz hz=>?_⟩;simp only [Z9];rcases Qm.1 hz with rfl | hz
    ·omega
    ·exact i2 z hz
  exact Ft (s:=Ha p) (λz hz=>(key p 0).2 z hz) k
 rw [Sw] at h; omega
theorem Qsb {s:Nat}:∀ (B:Um),(∀ z∈B,z.natAbs≤2^s)->gB B≤2^(s+(B.length-1))
 | [],_=>Qh _
 |
  c::B,h=>by
  have h1:=h c (Qy ..);have h2:=Qsb B λz hz=>h z (Qg _ hz)
  simp only [gB,Q5,Yb];have h3:2^s<=2^(s+B.length):=Zs (by decide) (by omega);cases B with
  | nil=>simp only [gB,Xk] at *; omega
  |
   cons d B =>
   have h4:2^(s+(d::B).length)=2*2^(s+((d::B).length-1)):=by
    rw [Zq,<-Zr]; congr 1
   rw [h4]; omega
def T0 (A B:Um):Nat:=(Ha A+Ha B+(A.length+B.length)+8)*(2*(A.length+B.length-2)-1)
theorem Qhs {A B:Um} (tA:Ff A) (tB:Ff B) (nA:A.length<=9) (nB:B.length<=9) (lA:2<=A.length) (lB:2<=B.length) {R d:Rat} (hR:1<=R) (dp:0<d)
 (hs:∀ e:Rat,0<e->∃ q r,Fj q<=R/\Fj r<=R/\d<=Fj (q-r)/\Fj (q-r)*((2^(T0 A B+1):Nat):Rat)<=1/\Fj (U9 A q)<e/\Fj (U9 B r)<e):False:=by
 obtain ⟨a,ha⟩:∃ a,A.length=a+1:=⟨A.length-1,by omega⟩;obtain ⟨b,hb⟩:∃ b,B.length=b+1:=⟨B.length-1,by omega⟩;obtain ⟨s,hsd⟩:=nmE (Ha A+Ha B+b);obtain ⟨N,hN⟩:∃ N,b*(2*(a*b))+a*(2*(a*b)-b)=N:=⟨_,rfl⟩;have hNt:N<=2^(a+9):=by
  rw [<-hN];have hab:∀ a b:Fin 9,b.1*(2*(a.1*b.1))+a.1*(2*(a.1*b.1)-b.1)<=2^(a.1+9):=by decide
  exact hab ⟨a,by omega⟩ ⟨b,by omega⟩
 have hK:T0 A B=(s+a+10)*(2*(a+b-1)+1):=by
  unfold T0;rw [ha,hb,hsd,show a+1+(b+1)-2=a+b by omega,show 2*(a+b)-1=2*(a+b-1)+1 by omega];congr 1; omega
 have h0A:A.getD a 0≠0:=by have:=H8 tA (by omega); rwa [ha] at this
 have h0B:B.getD b 0≠0:=by have:=H8 tB (by omega); rwa [hb] at this
 have hp:∀ m,1<=2^m:=λm=>Z2 (by decide)
 refine Qu2 (N:=N) (D:=2^(T0 A B-1)) ha hb h0A h0B (by omega) (by omega) (h:=2^s) (hp s) (λk=>Qa (rD k) (Zs (by decide) (by omega))) ?_ hN ?_ hR dp λe ep=>?_
 ·refine Qa (Qsb (s:=Ha B) B λz hz=>?_) (Zs (by decide) (by omega));obtain ⟨i,hi⟩:=Zk.1 hz;have:=rD (p:=B) i;rwa [Qi,hi] at this
 ·have h1:2*(N*2^s)<=2^(s+a+10):=by
   have:N*2^s<=2^(a+9)*2^s:=Q0 _ hNt;rw [<-Xf] at this;rw [show s+a+10=(a+9+s)+1 by omega,Zr]; omega
  have h2:N*2^s<=2^(s+a+9):=by
   rw [show s+a+9=(a+9)+s by omega,Xf]; exact Q0 _ hNt
  have h3:=Nat.pow_le_pow_left h1 (2*(a+b-1));have h4:=Zc h2 h3;rw [<-Ks,<-Xf] at h4;rw [<-Xz];refine Qa h4 (Zs (by decide) ?_);rw [hK,Xj,Yw]; omega
 ·obtain ⟨q,r,h1,h2,h3,h4,h5,h6⟩:=hs e ep;refine ⟨q,r,h1,h2,h3,?_,h5,h6⟩;have hK1:1<=T0 A B:=by
   rw [hK]; exact J5 (by omega) (by omega)
  have e1:2^(T0 A B+1)=4*2^(T0 A B-1):=by
   obtain ⟨m,hm⟩:∃ m,T0 A B=m+1:=⟨T0 A B-1,by omega⟩;rw [hm,Yb,Zr,Zr]; omega
  rw [e1] at h4
  push_cast at h4 ⊢
  exact h4
theorem Hv.lo' {t:Tm} {D M k:Nat} {u:Tm} (h:Hv t D M k u):Fp t u.lo=1\/Fp t u.lo=0/\u.lo=u.hi:=by
 rw [<-h.c];rcases h.i with ⟨e,_⟩ | ⟨L,V⟩
 ·exact .inr ⟨by rw [Ie e,E4],e⟩
 ·exact .inl (by rw [Cj V.l]; exact Ah Qp)
theorem Hv.hi' {t:Tm} {D M k:Nat} {u:Tm} (h:Hv t D M k u):Fp t u.hi=0\/Fp t u.hi=-1:=by
 rw [<-h.c];rcases h.i with ⟨e,_⟩ | ⟨L,V⟩
 ·exact .inl (by rw [Ie e,e,E4])
 ·rw [Cj V.l];have:=V.hi1;rcases V.cut.val u.hi with h | h | h <;> omega
theorem Hv.le {t:Tm} {D M k:Nat} {u:Tm} (h:Hv t D M k u):u.lo<=u.hi:=by
 rcases h.i with ⟨e,_⟩ | ⟨L,V⟩
 ·rw [e]; exact Qp
 ·exact Qt V.l
theorem Qht {a b:Tm} (ha:Va a) (hb:Va b) {D M k D' M' k':Nat} {u v:Tm} (hu:Hv a D M k u) (hv:Hv b D' M' k' v) (h:Nv a b):1<(v.hi-u.lo)*((2^(T0 a.p b.p+1):Nat):Rat):=by
 rcases Gg ((v.hi-u.lo)*((2^(T0 a.p b.p+1):Nat):Rat)) 1 with hw | hw
 ·exfalso;have ca:=ha.cut;have cb:=hb.cut;obtain ⟨m,m1,m2⟩:=h;obtain ⟨m',hm',m3⟩:=ca.dn m m1;have hpow:(0:Rat)<=((2^(T0 a.p b.p+1):Nat):Rat):=Xi;obtain ⟨R,hR⟩:=nmE (Fj u.lo+Fj m'+Fj m+Fj v.hi+1);have n1:=Hw u.lo; have n2:=Hw m'; have n3:=Hw m; have n4:=Hw v.hi;refine Qhs (R:=R) (d:=m-m') ha.tr hb.tr ha.n hb.n ha.n2 hb.n2 (by grind) (by grind) λe ep=>?_
  obtain ⟨q,q1,q2,q3⟩:∃ q,u.lo<=q/\q<=m'/\Fj (U9 a.p q)<e:=by
   rcases hu.lo' with h1 | ⟨h1,_⟩
   ·obtain ⟨x,y,hx,hy,hq⟩:=ha.van e ep;rcases Gg x u.lo with e1 | e1
    ·exact ⟨u.lo,Qp,Qt (ca.lt h1 m3),by rw [<-Fa]; exact hq u.lo e1 (Qt (ca.lt h1 hy))⟩
    ·exact ⟨x,Qt e1,Qt (ca.lt hx m3),by rw [<-Fa]; exact hq x Qp (Qt (ca.lt hx hy))⟩
   ·refine ⟨u.lo,Qp,?_,by rw [<-Fa,TL ca h1 ha.van,Rj]; exact ep⟩;rcases Gg u.lo m' with e1 | e1
    ·exact e1
    ·have:=ca.mono m' u.lo e1 (by omega); omega
  obtain ⟨r,r1,r2,r3⟩:∃ r,r<=v.hi/\m<=r/\Fj (U9 b.p r)<e:=by
   rcases hv.hi' with h1 | h1
   ·refine ⟨v.hi,Qp,?_,by rw [<-Fa,TL cb h1 hb.van,Rj]; exact ep⟩;rcases Gg m v.hi with e1 | e1
    ·exact e1
    ·have:=cb.mono v.hi m e1 (by omega); omega
   ·obtain ⟨x,y,hx,hy,hq⟩:=hb.van e ep;rcases Gg v.hi y with e1 | e1
    ·exact ⟨v.hi,Qp,Qt (cb.lt m2 h1),by rw [<-Fa]; exact hq v.hi (Qt (cb.lt hx h1)) e1⟩
    ·exact ⟨y,Qt e1,Qt (cb.lt m2 hy),by rw [<-Fa]; exact hq y (Qt (cb.lt hx hy)) Qp⟩
  have e1:Fj (q-r)=r-q:=by unfold Fj; split <;> grind
  have b1:Fj q<=R:=by
   have:=FK (R:=R) (x:=u.lo) (y:=m') (t:=q) (by grind) (by grind) q1 q2; exact this
  have b2:Fj r<=R:=by
   have:=FK (R:=R) (x:=m) (y:=v.hi) (t:=r) (by grind) (by grind) r2 r1; exact this
  refine ⟨q,r,b1,b2,by rw [e1]; grind,?_,q3,r3⟩;rw [e1];have:=Ze (show r-q<=v.hi-u.lo by grind) hpow;exact Zl this hw
 ·exact hw
theorem wJ {a b:Tm} (ha:Va a) (hb:Va b) {D M k D' M' k':Nat} {u v:Tm} (hu:Hv a D M k u) (hv:Hv b D' M' k' v) (hne:¬TEq a b) (h:D8 u v=true):Nv a b:=by
 have h1:=(of_decide_eq_true h).1;have h1:=MS.1 h1;rcases tri ha.cut hb.cut with h2 | h2 | ⟨m,m1,m2⟩
 ·exact h2
 ·exact absurd h2 hne
 ·exfalso;have e1:m<u.hi:=by
   rcases Gg u.hi m with e | e
   ·rcases Classical.em (u.hi=m) with e' | e'
    ·have:=hu.hi'; rw [e'] at this; omega
    ·have:=ha.cut.mono u.hi m (by grind) (by have:=hu.hi'; omega); omega
   ·exact e
  have e2:v.lo<m:=by
   rcases Gg m v.lo with e | e
   ·rcases Classical.em (m=v.lo) with e' | e'
    ·have:=hv.lo'; rw [<-e'] at this; omega
    ·have:=hb.cut.mono m v.lo (by grind) (by omega);have:=hv.lo'; omega
   ·exact e
  grind
theorem iD {a b:Tm} (ha:Va a) (hb:Va b) {D M k D' M' k':Nat} {u v:Tm} (hu:Hv a D M k u) (hv:Hv b D' M' k' v) (hlt:Nv a b) (h:D8 u v≠true):v.lo<=u.hi:=by
 rcases Gg v.lo u.hi with e | e
 ·exact e
 ·refine absurd (decide_eq_true ⟨MS.2 (Qt e),λh'=>?_⟩) h;have:=eH.1 h'.2; grind
theorem rS (m:Nat):((2^(m+1):Nat):Rat)=2*((2^m:Nat):Rat):=by rw [Zr]; push_cast; grind
def Qs3 (a b:Tm) (r:Tm×Tm×Int):Prop:=r.2.2=-1/\Nv a b\/r.2.2=1/\Nv b a
theorem Qch (A B:Um):T0 A B=T0 B A:=by unfold T0; rw [Nat.add_comm A.length,Nat.add_comm (Ha A)]
theorem Qxg {a b:Tm} (ha:Va a) (hb:Va b) (hne:¬TEq a b) {D M D' M':Nat} (hM:0<M) (hM':0<M'):∀ (i j:Nat) (u v:Tm) (k k':Nat) (W:Rat),2*i+1<=j->Hv a D M k u->Hv b D' M' k' v->Fe (D:Int)+Fe (M:Int)+(k+j)<=16777216->Fe (D':Int)+Fe (M':Int)+(k'+j)<=16777216->u.hi-u.lo<=W->v.hi-v.lo<=W->2*W*((2^(T0 a.p b.p+1):Nat):Rat)<=((2^i:Nat):Rat)->∃ r,AB j u v=some r/\Qs3 a b r:=by
 intro i;have step:∀ (j:Nat) (u v:Tm) (k k':Nat),Hv a D M k u->Hv b D' M' k' v->Fe (D:Int)+Fe (M:Int)+(k+(j+1))<=16777216->Fe (D':Int)+Fe (M':Int)+(k'+(j+1))<=16777216->(∃ r,AB (j+1) u v=some r/\Qs3 a b r)\/(D8 u v≠true/\D8 v u≠true/\∃ u' v' k1 k1',AB (j+1) u v=AB j u' v'/\Hv a D M k1 u'/\Hv b D' M' k1' v'/\k1<=k+1/\k1'<=k'+1/\(v.hi-v.lo<=u.hi-u.lo/\u'.hi-u'.lo<=(u.hi-u.lo) / 2/\v'=v\/u.hi-u.lo<=v.hi-v.lo/\v'.hi-v'.lo<=(v.hi-v.lo) / 2/\u'=u)):=by
  intro j u v k k' hu hv hs hs';by_cases h1:D8 u v=true
  ·exact .inl ⟨(u,v,-1),by simp only [AB]; rw [if_pos h1],.inl ⟨rfl,wJ ha hb hu hv hne h1⟩⟩
  by_cases h2:D8 v u=true
  ·exact .inl ⟨(u,v,1),by simp only [AB]; rw [if_neg h1,if_pos h2],.inr ⟨rfl,wJ hb ha hv hu (λh=>hne λq=>(h q).symm) h2⟩⟩
  refine .inr ⟨h1,h2,?_⟩;by_cases h3:0<=He (EN u.hi u.lo) (EN v.hi v.lo)
  ·obtain ⟨x,x1,x2,x3,_⟩:=jD hu hM (by omega);refine ⟨x,v,k+1,k',?_,x2,hv,by omega,by omega,.inl ⟨?_,x3,rfl⟩⟩
   ·simp only [AB]; rw [if_neg h1,if_neg h2,if_pos h3,x1]; rfl
   ·have:=MR.1 h3; rwa [NG,NG] at this
  ·obtain ⟨x,x1,x2,x3,_⟩:=jD hv hM' (by omega);refine ⟨u,x,k,k'+1,?_,hu,x2,by omega,by omega,.inr ⟨?_,x3,rfl⟩⟩
   ·simp only [AB]; rw [if_neg h1,if_neg h2,if_neg h3,x1]; rfl
   ·rcases Gg (u.hi-u.lo) (v.hi-v.lo) with e | e
    ·exact e
    ·refine absurd (MR.2 ?_) h3;rw [NG,NG]; exact Qt e
 induction i with
 |
  zero =>
  intro j u v k k' W hj hu hv hs hs' hW hW' hK;obtain ⟨j,rfl⟩:∃ m,j=m+1:=⟨j-1,by omega⟩;rcases step j u v k k' hu hv hs hs' with h | ⟨h1,h2,_⟩
  ·exact h
  ·exfalso;have hpow:(0:Rat)<=((2^(T0 a.p b.p+1):Nat):Rat):=Xi;rw [Vd] at hK;rcases tri ha.cut hb.cut with h3 | h3 | h3
   ·have h4:=iD ha hb hu hv h3 h1;have h5:=Qht ha hb hu hv h3;have h6:=Ze (show v.hi-u.lo<=2*W by clear step; grind) hpow;have h7:((1:Nat):Rat)=1:=rfl;rw [h7] at hK;clear step; grind
   ·exact hne h3
   ·have h4:=iD hb ha hv hu h3 h2;have h5:=Qht hb ha hv hu h3;rw [Qch] at h5;have h6:=Ze (show u.hi-v.lo<=2*W by clear step; grind) hpow;have h7:((1:Nat):Rat)=1:=rfl;rw [h7] at hK;clear step; grind
 |
  succ i ih =>
  intro j u v k k' W hj hu hv hs hs' hW hW' hK;obtain ⟨j,rfl⟩:∃ m,j=m+2:=⟨j-2,by omega⟩;have hd:∀ x:Rat,x / 2*2=x:=λx=>Hf (by decide)
  rcases step (j+1) u v k k' hu hv hs hs' with h | ⟨_,_,u1,v1,k1,k1',e1,hu1,hv1,hk1,hk1',hw1⟩
  ·exact h
  ·rw [e1];rcases step j u1 v1 k1 k1' hu1 hv1 (by omega) (by omega) with h | ⟨_,_,u2,v2,k2,k2',e2,hu2,hv2,hk2,hk2',hw2⟩
   ·exact h
   ·rw [e2];have a1:=hd (u.hi-u.lo); have a2:=hd (v.hi-v.lo); have a3:=hd (u1.hi-u1.lo); have a4:=hd (v1.hi-v1.lo); have a5:=hd W;have b1:=hu.le; have b2:=hv.le; have b3:=hu1.le; have b4:=hv1.le; have b5:=hu2.le; have b6:=hv2.le;have hww:u2.hi-u2.lo<=W / 2/\v2.hi-v2.lo<=W / 2:=by
     clear step ih;rcases hw1 with ⟨c1,c2,rfl⟩ | ⟨c1,c2,rfl⟩ <;> rcases hw2 with ⟨d1,d2,rfl⟩ | ⟨d1,d2,rfl⟩ <;> constructor <;> grind
    refine ih j u2 v2 k2 k2' (W / 2) (by omega) hu2 hv2 (by omega) (by omega) hww.1 hww.2 ?_;rw [rS i] at hK;have:2*(W / 2)*((2^(T0 a.p b.p+1):Nat):Rat)*2=2*W*((2^(T0 a.p b.p+1):Nat):Rat):=by clear step ih hw1 hw2; grind
    clear step ih hw1 hw2; grind
def CmpOk (a b:Tm) (c:Int):Prop:=c=-1/\Nv a b\/c=0/\TEq a b\/c=1/\Nv b a
theorem Va.hv0 {t:Tm} (h:Va t):∃ D M k,Hv t D M k t/\0<M/\Fe (D:Int)+Fe (M:Int)+k<=lim t:=by
 obtain ⟨D,M,k,h1,h2,h3,h4⟩:=h.g;exact ⟨D,M,k,⟨rfl,h.i,λ_=>rfl,h1,h2⟩,h3,h4⟩
theorem bO {a:Tm} (ha:Va a) (hp:a.point=true) (q:Rat):Fp a q=He a.lo q:=Ie (ha.pt hp).1 q
theorem Qgv {a b:Tm} (hb:Va b) {x:Rat} (hx:∀ q,Fp a q=He x q):CmpOk a b (-Fp b x):=by
 have cb:=hb.cut;rcases cb.val x with h | h | h
 ·obtain ⟨q,q1,q2⟩:=cb.up x h;refine .inl ⟨by omega,q,?_,q2⟩;rw [hx]; rcases M9 x q with ⟨e,e'⟩ | ⟨e,e'⟩ | ⟨e,e'⟩ <;> grind
 ·exact .inr (.inl ⟨by omega,λq=>by rw [hx,uV cb h]⟩)
 ·obtain ⟨q,q1,q2⟩:=cb.dn x h;refine .inr (.inr ⟨by omega,q,q2,?_⟩);rw [hx]; rcases M9 x q with ⟨e,e'⟩ | ⟨e,e'⟩ | ⟨e,e'⟩ <;> grind
theorem CmpOk.symm {a b:Tm} {c:Int} (h:CmpOk a b c):CmpOk b a (-c):=by
 rcases h with ⟨h1,h2⟩ | ⟨h1,h2⟩ | ⟨h1,h2⟩
 ·exact .inr (.inr ⟨by omega,h2⟩)
 ·exact .inr (.inl ⟨by omega,λq=>(h2 q).symm⟩)
 ·exact .inl ⟨by omega,h2⟩
theorem Qza:Szz 9 1260:=⟨by decide,by decide⟩
theorem FV (g:Um) (lo hi:Rat):FY g lo hi=true↔nW (cz g) lo hi:=by
 unfold FY nW;rw [decide_eq_true_iff,Nm,fO,Fa]
theorem fG {g:Um} (tg:Ff g) (hn:g.length≠0) {lo hi:Rat} (h:nW (cz g) lo hi):1<g.length:=by
 rcases Zb 1 g.length with e | e
 ·exact e
 ·exfalso;obtain ⟨c,rfl⟩:∃ c,g=[c]:=Kr.1 (by omega);have hc:c≠0:=by have:=H8 tg (by simp); simpa using this
  have hv:∀ t,ev (cz [c]) t=(c:Rat):=λt=>by rw [Fa]; simp only [U9]; grind
  have hs:Fg (c:Rat)≠0:=λh=>XM hc (Gq.1 h)
  unfold nW at h;rw [hv,Ao (by rw [hv]; exact hs),hv] at h;rcases h with h | h
  ·exact hs h
  ·exact h rfl
theorem LX {q:Rat}:Fj q<=((2^Fe q.num:Nat):Rat):=by
 have h1:Fe q.num<=Fe q.num:=Ql _;rw [Sw] at h1;have e:(q.num:Rat)=q*(q.den:Rat):=by
  have:(q.num:Rat) / (((q.den:Int)):Rat)=q:=by rw [H9,Z5]
  have h2:(q.num:Rat) / (q.den:Rat)*(q.den:Rat)=q.num:=Zj (by have:=nat_pos q.den_pos; grind);rw [show (q.num:Rat) / (q.den:Rat)=q from this] at h2; exact h2.symm
 have hd:(1:Rat)<=(q.den:Rat):=by
  have:((1:Nat):Rat)<=(q.den:Rat):=Zm.2 q.den_pos;exact this
 have h2:Fj q<=Fj (q.num:Rat):=by
  rw [e,Im];have:Fj (q.den:Rat)=(q.den:Rat):=by unfold Fj; rw [if_neg (by grind)]
  rw [this];have:=Cu (a:=Fj q) (c:=1) (Hw q) Qp (by decide) hd;grind
 rw [Sx] at h2;exact Zl h2 (Zm.2 (Yk h1))
theorem TE {a:Tm} {w:Nat} (h:Fe a.lo.num+Fe a.hi.num<=w):a.hi-a.lo<=((2^(w+1):Nat):Rat):=by
 have h1:=LX (q:=a.lo);have h2:=LX (q:=a.hi);have h3:((2^Fe a.lo.num:Nat):Rat)<=((2^w:Nat):Rat):=Zm.2 (Zs (by decide) (by omega));have h4:((2^Fe a.hi.num:Nat):Rat)<=((2^w:Nat):Rat):=Zm.2 (Zs (by decide) (by omega));rw [rS];rw [Mi] at h1 h2;grind
theorem O2 {p:Um} {s:Nat} (h:Bd s p):Ha p<=s:=by
 have:=Mh h p.length; rwa [Q6] at this
theorem Qk6 {a b:Tm} (ha:Va a) (hb:Va b) (pa:a.point=false) (pb:b.point=false):P8 a b<=9000000:=by
 have q1:=ha.qsn pa; have q2:=hb.qsn pb;have l1:=ha.n; have l2:=hb.n;have s1:=O2 (ha.bi pa); have s2:=O2 (hb.bi pb);have b1:=q1.1.1; have b2:=q1.2.1; have b3:=q2.1.1; have b4:=q2.2.1;have:4*(a.p.length+b.p.length)*(Ha a.p+Ha b.p+(a.p.length+b.p.length)+8)<=4*18*2600:=Zc (by omega) (by omega);unfold P8; omega
theorem Qd8 {a b:Tm} (ha:Va a) (hb:Va b) (pa:a.point=false) (pb:b.point=false) (hne:¬TEq a b):∃ r,AB (P8 a b) a b=some r/\Qs3 a b r:=by
 obtain ⟨D,M,k,h1,h2,h3⟩:=ha.hv0;obtain ⟨D',M',k',h1',h2',h3'⟩:=hb.hv0;rw [yZ pa] at h3;rw [yZ pb] at h3';have hst:=Qk6 ha hb pa pb;obtain ⟨w,hw⟩:=nmE (Fe a.lo.num+Fe a.hi.num+Fe b.lo.num+Fe b.hi.num);obtain ⟨K,hK⟩:=nmE (Ha a.p+Ha b.p+(a.p.length+b.p.length)+8);obtain ⟨n,hn⟩:=nmE (a.p.length+b.p.length);have l1:=ha.n2; have l2:=hb.n2;have hsteps:P8 a b=64+2*w+4*n*K:=by unfold P8; rw [hw,hK,hn]
 have hg:T0 a.p b.p=K*(2*(n-2)-1):=by unfold T0; rw [hK,hn]
 have hgle:T0 a.p b.p+5*K<=2*n*K:=by
  rw [hg,Zq K,<-X4];exact Q0 _ (by omega)
 have hKp:8<=K:=by omega
 refine Qxg ha hb hne h2 h2' (31+w+2*n*K) (P8 a b) a b k k' ((2^(w+1):Nat):Rat) ?_ h1 h1' (by omega) (by omega) (TE (by omega)) (TE (by omega)) ?_
 ·rw [hsteps,Xj,Xz 4,Xz 2 n]; omega
 ·have e:2*(2^(w+1))*(2^(T0 a.p b.p+1))<=2^(31+w+2*n*K):=by
   rw [Zq 2,<-Zr,<-Xf];exact Zs (by decide) (by omega)
  have:=Zm.2 e
  push_cast at this ⊢
  exact this
theorem UP {a b:Tm} (ha:Va a) (hb:Va b):∃ c,US a b=some c/\CmpOk a b c:=by
 unfold US;by_cases pa:a.point=true
 ·rw [if_pos pa];exact ⟨_,rfl,Qgv hb (bO ha pa)⟩
 rw [if_neg pa];by_cases pb:b.point=true
 ·rw [if_pos pb];have:=(Qgv ha (bO hb pb)).symm;rw [Int.neg_neg] at this;exact ⟨_,rfl,this⟩
 rw [if_neg pb];have pa:a.point=false:=by simpa using pa
 have pb:b.point=false:=by simpa using pb
 obtain ⟨L,V⟩:=ha.iv pa;obtain ⟨L',V'⟩:=hb.iv pb;have eqa:∀ q,Fp a q=cq (cz a.p) a.lo a.hi q:=Cj V.l;have eqb:∀ q,Fp b q=cq (cz b.p) b.lo b.hi q:=Cj V'.l;obtain ⟨lo,hlo⟩:=nmE (if 0<He b.lo a.lo then b.lo else a.lo);obtain ⟨hi,hhi⟩:=nmE (if He b.hi a.hi<0 then b.hi else a.hi);show ∃ c,(if He (if 0<He b.lo a.lo then b.lo else a.lo) (if He b.hi a.hi<0 then b.hi else a.hi)<0 then _ else _)=some c/\_;rw [<-hlo,<-hhi];have e1:(0<He b.lo a.lo)=(a.lo<b.lo):=propext En;have e2:(He b.hi a.hi<0)=(b.hi<a.hi):=propext Ny;have e3:(He lo hi<0)=(lo<hi):=propext Ny;simp only [e1] at hlo;simp only [e2] at hhi;simp only [e3];obtain ⟨g,g1,g2,g3,g4⟩:=Qh1 Qza ha.tr hb.tr ha.n hb.n (ha.bi pa) (hb.bi pb) (by have:=ha.n2; omega);obtain ⟨U,W,hc⟩:=g2.c;obtain ⟨u,hu⟩:=g2.da;obtain ⟨u',hu'⟩:=g2.db;have key:=V.same V' (g:=cz g) (u:=u) (u':=u') (U:=U) (W:=W) (k:=1) (by decide) hu hu' (λt=>by rw [Fa,Fa,Fa,hc]; grind) (a:=lo) (b:=hi) (by rw [hlo]; split <;> grind) (by rw [hlo]; split <;> grind) (by rw [hlo]; split <;> simp) (by rw [hhi]; split <;> grind) (by rw [hhi]; split <;> grind) (by rw [hhi]; split <;> simp);have hTE:(∀ q,cq (cz a.p) a.lo a.hi q=cq (cz b.p) b.lo b.hi q)↔TEq a b:=by
  unfold TEq; constructor
  ·intro h q; rw [eqa,eqb]; exact h q
  ·intro h q; rw [<-eqa,<-eqb]; exact h q
 rw [hTE] at key;have fin:¬TEq a b->∃ c,((AB (P8 a b) a b).bind λr=>some r.2.2)=some c/\CmpOk a b c:=λhne=>by
  obtain ⟨r,r1,r2⟩:=Qd8 ha hb pa pb hne;refine ⟨r.2.2,by rw [r1]; rfl,?_⟩;rcases r2 with h | h
  ·exact .inl h
  ·exact .inr (.inr h)
 by_cases hl:lo<hi
 ·rw [if_pos hl,g1];show ∃ c,(if 1<g.length/\FY g lo hi=true then some 0 else (AB (P8 a b) a b).bind λr=>some r.2.2)=some c/\_;by_cases hh:FY g lo hi=true
  ·have hq:=(FV g lo hi).1 hh;rw [if_pos ⟨fG g2.t g2.n hq,hh⟩];exact ⟨0,rfl,.inr (.inl ⟨rfl,key.1 ⟨hl,hq⟩⟩)⟩
  ·rw [if_neg λh=>hh h.2];exact fin λh=>hh ((FV g lo hi).2 (key.2 h).2)
 ·rw [if_neg hl];exact fin λh=>hl (key.2 h).1
def SgT (p:Um) (a:Tm) (s:Int):Prop:=s=0/\I3 (cz p) (Fp a)\/s≠0/\NZ (cz p) (Fp a) s
theorem Qwa {p:Um} {c:Rat->Int} (hc:Cut c) {x:Rat} (h:c x=0):Ra p x=0/\I3 (cz p) c\/Ra p x≠0/\NZ (cz p) c (Ra p x):=by
 rw [Nm,<-Fa];rcases YZ hc (cz p) with h1 | ⟨s,hs,h1⟩
 ·exact .inl ⟨Gq.2 (TL hc h h1),h1⟩
 ·have:=gC hc h h1;rw [this]; exact .inr ⟨hs,h1⟩
theorem QY {l:Un} {lo hi:Rat} (h:lo<=hi):Tq l lo hi=(vv (l.map cz) lo:Int)-(vv (l.map cz) hi:Int):=by
 unfold Tq;rw [if_neg λh'=>by have:=Ny.1 h'; grind,ZK,ZK]
theorem Qwb {p q:Um} {L:Uq} (hp:Ff p) (np:p.length<=9) (lp:2<=p.length) (hS:HV (cz q) L) (hpq:ZD (cz q) (cz p)) {a:Tm} (ha:Va a) {s:Int} (hnz:NZ (cz p) (Fp a) s) {D M k:Nat} {x:Tm} (hx:Hv a D M k x) (hl:x.lo<x.hi) (hv:vv L x.lo≠vv L x.hi):1<(x.hi-x.lo)*((2^(T0 a.p p+1):Nat):Rat):=by
 rcases Gg ((x.hi-x.lo)*((2^(T0 a.p p+1):Nat):Rat)) 1 with hw | hw
 ·exfalso;have ca:=ha.cut;obtain ⟨d,dp,x1,y1,c1,c2,hn⟩:=hnz;obtain ⟨x2,x12,c3⟩:=ca.up x1 c1;obtain ⟨y2,y12,c4⟩:=ca.dn y1 c2;have hpow:(0:Rat)<=((2^(T0 a.p p+1):Nat):Rat):=Xi;obtain ⟨z,zp,z1,z2⟩:=min2 (a:=x2-x1) (b:=y1-y2) (by clear hn; grind) (by clear hn; grind);obtain ⟨R0,hR0,r1,r2⟩:=xY x.lo x.hi;obtain ⟨u,hu⟩:=hpq;refine Qhs (R:=R0+1) (d:=z) ha.tr hp ha.n np ha.n2 lp (by clear hn; grind) zp λe ep=>?_
  obtain ⟨q0,q1,q2,q3,q4,q5⟩:∃ q0,x.lo<=q0/\q0<=x.hi/\x2<=q0/\q0<=y2/\Fj (U9 a.p q0)<e:=by
   rcases hx.lo' with h1 | ⟨h1,h2⟩
   ·obtain ⟨x',y',hx',hy',hq⟩:=ha.van e ep;obtain ⟨m,m1,m2,m3,m4⟩:∃ m,Fp a m=1/\x.lo<=m/\x2<=m/\x'<=m:=by
     rcases Gg x.lo x2 with e1 | e1
     ·rcases Gg x2 x' with e2 | e2
      ·exact ⟨x',hx',by clear hn hq; grind,e2,Qp⟩
      ·exact ⟨x2,c3,e1,Qp,Qt e2⟩
     ·rcases Gg x.lo x' with e2 | e2
      ·exact ⟨x',hx',e2,by clear hn hq; grind,Qp⟩
      ·exact ⟨x.lo,h1,Qp,Qt e1,Qt e2⟩
    refine ⟨m,m2,?_,m3,Qt (ca.lt m1 c4),by rw [<-Fa]; exact hq m m4 (Qt (ca.lt m1 hy'))⟩;rcases hx.hi' with h3 | h3
    ·rcases Gg m x.hi with e1 | e1
     ·exact e1
     ·have:=ca.mono x.hi m e1 (by omega); omega
    ·exact Qt (ca.lt m1 h3)
   ·exact absurd h2 (by clear hn; grind)
  obtain ⟨b,hb⟩:=nmE (uA R0 u);have hb0:0<=b:=by rw [hb]; exact XF hR0 u
  obtain ⟨f,fp,_,hf⟩:=Hi (b:=b) (d:=if e<=d then e else d) hb0 (by split <;> assumption);obtain ⟨r,r3,r4,r5⟩:=vL hS hl hv fp;have hrR:Fj r<=R0:=FK r1 r2 r3 r4;have hpr:Fj (U9 p r)<(if e<=d then e else d):=by
   rw [<-Fa,hu];have:=Hd (Qt r5) (SU hrR u);rw [<-hb] at this;exact Jr.1 λh=>absurd (Zl h this) (Jr.2 hf)
  have hpe:Fj (U9 p r)<e:=by split at hpr <;> (clear hn; grind)
  have hpd:Fj (U9 p r)<d:=by split at hpr <;> (clear hn; grind)
  have hrout:r<x1\/y1<r:=by
   rcases Gg x1 r with e1 | e1
   ·rcases Gg r y1 with e2 | e2
    ·have:=(hn r e1 e2).2;rw [Fa] at this;exact absurd this (Jr.2 hpd)
    ·exact .inr e2
   ·exact .inl e1
  have hqr:z<=Fj (q0-r):=by
   clear hn;rcases hrout with h | h
   ·have:Fj (q0-r)=q0-r:=by unfold Fj; split <;> grind
    rw [this]; grind
   ·have:Fj (q0-r)=r-q0:=by unfold Fj; split <;> grind
    rw [this]; grind
  have hq0R:Fj q0<=R0:=FK r1 r2 q1 q2;refine ⟨q0,r,by clear hn; grind,by clear hn; grind,hqr,?_,q5,hpe⟩;have h1:Fj (q0-r)<=x.hi-x.lo:=by rw [Mi]; clear hn; constructor <;> grind
  exact Zl (Ze h1 hpow) hw
 ·exact hw
theorem Qks {p q:Um} {l:Un} (hp:Ff p) (np:p.length<=9) (lp:2<=p.length) (hS:HV (cz q) (l.map cz)) (hpq:ZD (cz q) (cz p)) {a:Tm} (ha:Va a) {s:Int} (hnz:NZ (cz p) (Fp a) s) {D M:Nat} (hM:0<M):∀ (j i:Nat) (x:Tm) (k:Nat) (W:Rat),i+1<=j->Hv a D M k x->Fe (D:Int)+Fe (M:Int)+(k+j)<=16777216->x.hi-x.lo<=W->W*((2^(T0 a.p p+1):Nat):Rat)<=((2^i:Nat):Rat)->∃ u k',sgF l j x=some u/\Hv a D M k' u/\(u.point=true\/Tq l u.lo u.hi=0)
 | 0,i,x,k,W,h,_,_,_,_=>by omega
 |
  j+1,i,x,k,W,hj,hx,hs,hW,hK=>by
  simp only [sgF];by_cases h:x.point=true\/Tq l x.lo x.hi=0
  ·rw [if_pos h]; exact ⟨x,k,rfl,hx,h⟩
  ·rw [if_neg h];obtain ⟨v,v1,v2,v3,_⟩:=jD hx hM (by omega);rw [v1];show ∃ u k',sgF l j v=some u/\_;have hpt:¬x.hi<=x.lo:=λh'=>h (.inl (Mv.2 h'))
   have hl:x.lo<x.hi:=by grind
   have hvv:vv (l.map cz) x.lo≠vv (l.map cz) x.hi:=λh'=>h (.inr (by rw [QY (Qt hl)]; omega))
   have hg:=Qwb hp np lp hS hpq ha hnz hx hl hvv;have hpow:(0:Rat)<=((2^(T0 a.p p+1):Nat):Rat):=Xi;have hd:∀ x:Rat,x / 2*2=x:=λx=>Hf (by decide)
   cases i with
   |
    zero =>
    exfalso;rw [Vd] at hK;have:=Ze hW hpow;have h7:((1:Nat):Rat)=1:=rfl;rw [h7] at hK;grind
   |
    succ i =>
    refine Qks hp np lp hS hpq ha hnz hM j i v (k+1) (W / 2) (by omega) v2 (by omega) ?_ ?_
    ·have:=hd (x.hi-x.lo); have:=hd W; grind
    ·rw [rS i] at hK;have:=hd W;have:W / 2*((2^(T0 a.p p+1):Nat):Rat)*2=W*((2^(T0 a.p p+1):Nat):Rat):=by grind
     grind
theorem rJ {x y:Rat}:∀ {ws:Uq},(∀ w∈ws,Fg (ev w x)=Fg (ev w y))->Fg (ev (Oo ws) x)=Fg (ev (Oo ws) y)
 | [],_=>by simp only [Oo]; rw [Te,Te]
 |
  w::l,h=>by
  simp only [Oo];rw [Fh,Fh,Sv,Sv,h w (Qy ..),rJ λv hv=>h v (Qg _ hv)]
theorem Qc4 {p q o:Um} (hpt:Parts p q o) (tp:Ff p) (hp:p.length≠0) {L:Uq} (hS:HV (cz q) L) {x y:Rat} (hxy:x<y) (hv:vv L x=vv L y):∃ s,s≠0/\∀ z,x<z->z<=y->Fg (U9 p z)=s:=by
 obtain ⟨ws,w1,w2⟩:=hpt.ws;obtain ⟨_,_,_,_,_,p6,p7⟩:=Cx tp hp;have key:∀ z,x<z->z≤y->∀ w∈ws.map cz,Sm w x z:=λz h1 h2 w hw=>by
  obtain ⟨v,hv',rfl⟩:=Za.1 hw;obtain ⟨u,hu⟩:=(w1 v hv').2;have a1:=A4 hS h1;have a2:vv L y<=vv L z:=by
   rcases Classical.em (z=y) with e | e
   ·rw [e]; exact Ql _
   ·exact A4 hS (by grind)
  exact KW hS hu h1 (by omega)
 have hval:∀ z,U9 p z=(Ho p:Rat)*ev (Oo (ws.map cz)) z:=λz=>by rw [p7,w2]
 refine ⟨Fg (U9 p y),λh0=>?_,λz h1 h2=>?_⟩
 ·rw [hval,Sv] at h0;rcases Yf.1 h0 with h | h
  ·exact XM p6 (Gq.1 h)
  ·have:∀ l:Uq,(∀ w∈l,Fg (ev w y)≠0)->Fg (ev (Oo l) y)≠0:=by
    intro l
    induction l with
    | nil=>intro _; simp only [Oo]; rw [Te]; decide
    |
     cons w l ih =>
     intro h;simp only [Oo];rw [Fh,Sv];exact Jf (h w (Qy ..)) (ih λv hv=>h v (Qg _ hv))
   refine this _ (λw hw=>?_) h;have hs:=key y hxy Qp w hw;rw [hs.s]; exact hs.n
 ·rw [hval,hval,Sv,Sv,rJ (y:=y) λw hw=>(key z h1 h2 w hw).s.trans (key y hxy Qp w hw).s.symm]
theorem Qu3 {g p P:Um} {c:Rat->Int} (hc:Cut c) (hg:Gc g p P):I3 (cz g) c↔I3 (cz p) c/\I3 (cz P) c:=by
 constructor
 ·intro h;obtain ⟨u,hu⟩:=hg.da;obtain ⟨v,hv⟩:=hg.db;exact ⟨Mb hc hu h,Mb hc hv h⟩
 ·rintro ⟨h1,h2⟩
  obtain ⟨U,V,hcc⟩:=hg.c;have a1:I3 (G7 U (cz p)) c:=Mb hc (p:=cz p) (q:=U) (λt=>by rw [Fh]; grind) h1;have a2:I3 (G7 V (cz P)) c:=Mb hc (p:=cz P) (q:=V) (λt=>by rw [Fh]; grind) h2;exact NP (λt=>by rw [Fa,hcc,Fh,Fh,Fa,Fa]) a1 a2
theorem Qkz {p:Um} (hp:Okp 9 1180 p) {a:Tm} (ha:Va a):∃ s,GT p a=some s/\SgT p a s:=by
 unfold GT;rw [if_neg hp.nz];have ca:=ha.cut;by_cases pa:a.point=true
 ·rw [if_pos pa];exact ⟨_,rfl,Qwa ca (x:=a.lo) (by rw [bO ha pa,E4])⟩
 rw [if_neg pa];have pa:a.point=false:=by simpa using pa
 obtain ⟨L,V⟩:=ha.iv pa;have eqa:∀ q,Fp a q=cq (cz a.p) a.lo a.hi q:=Cj V.l;obtain ⟨g,g1,g2,g3,g4⟩:=Qh1 Qza hp.t ha.tr hp.l ha.n (U5 hp.b (by omega)) (ha.bi pa) hp.nz;obtain ⟨u',hu'⟩:=g2.db;have hhas:=V.has hu' (a:=a.lo) (b:=a.hi) Qp V.l Qp;have hvan:=Qu3 ca g2;rw [show cq (cz a.p) a.lo a.hi=Fp a from (funext eqa).symm] at hhas;rw [g1];show ∃ s,(if 1<g.length/\FY g a.lo a.hi=true then some 0 else _)=some s/\_;by_cases hh:FY g a.lo a.hi=true
 ·have hq:=(FV g _ _).1 hh;rw [if_pos ⟨fG g2.t g2.n hq,hh⟩];exact ⟨0,rfl,.inl ⟨rfl,(hvan.1 (hhas.1 hq).1).1⟩⟩
 ·rw [if_neg λh=>hh h.2];have hnv:¬I3 (cz p) (Fp a):=λh=>hh ((FV g _ _).2 (hhas.2 ⟨hvan.2 ⟨h,ha.van⟩,by rw [eqa]; exact Ah Qp,by rw [eqa]; exact V.hi1⟩))
  rcases YZ ca (cz p) with h | ⟨s,AP,hnz⟩
  ·exact absurd h hnv
  obtain ⟨q,o,q1,q2,hpt⟩:=Qjf hp;obtain ⟨q',l,r1,r2,hS,hl0⟩:=chain_ok hp;rw [q1] at r1;injection r1 with r1;subst r1;rw [r2];show ∃ s,((sgF (q::l) (64+2*(Fe a.lo.num+Fe a.hi.num)+4*(a.p.length+p.length)*(Ha a.p+Ha p+(a.p.length+p.length)+8)) a).bind λx=>some (Ra p x.hi))=some s/\_;obtain ⟨w,hw⟩:=nmE (Fe a.lo.num+Fe a.hi.num);obtain ⟨K,hK⟩:=nmE (Ha a.p+Ha p+(a.p.length+p.length)+8);obtain ⟨n,hn⟩:=nmE (a.p.length+p.length);rw [<-hw,<-hK,<-hn];obtain ⟨gg,sq⟩:=hpt.sq;obtain ⟨_,_,_,_,_,pf0,pfe⟩:=Cx hp.t hp.nz;have hpq:ZD (cz q) (cz p):=⟨D6 (Ho p) (cz gg),λt=>by rw [Fa,Fa,Gt,Fa,pfe,sq.e]; grind⟩;obtain ⟨D,M,k,h1,h2,h3⟩:=ha.hv0;rw [yZ pa] at h3;have b1:=(ha.qsn pa).1.1; have b2:=(ha.qsn pa).2.1;have l1:=ha.n; have l2:=hp.l; have l3:=ha.n2;have s1:=O2 (ha.bi pa); have s2:=O2 hp.b;have hst:4*n*K<=4*18*2466:=Zc (by omega) (by omega);have hend:∃ u k',sgF (q::l) (64+2*w+4*n*K) a=some u/\Hv a D M k' u/\(u.point=true\/Tq (q::l) u.lo u.hi=0):=by
   by_cases hpl:p.length<2
   ·have hq1:(Fi p)=[1]:=hp.pr.1.one (by have:=hp.pr.2.1; omega);have hql:q.length<2:=by
     have e:=sq.e;rw [hq1] at e;obtain ⟨p1,p2⟩:=Tf (c:=[1]) rfl (by simp) e;have:=Mr sq.pg.t sq.pq.t (c:=[1]) rfl e p1 p2;simp at this; omega
    have hbt:Tq (q::l) a.lo a.hi=0:=by
     rw [QY (Qt V.l),hl0 hql,sq.pq.one hql];have hv1:∀ x:Rat,ev (cz [1]) x=1:=λx=>by rw [Fa,Nz]
     simp only [Z0,X7,vv,tc,hv1]; omega
    refine ⟨a,k,?_,h1,.inr hbt⟩;obtain ⟨m,hm⟩:∃ m,64+2*w+4*n*K=m+1:=⟨63+2*w+4*n*K,by omega⟩;rw [hm];simp only [sgF];rw [if_pos (.inr hbt)]
   ·have hg:T0 a.p p=K*(2*(n-2)-1):=by unfold T0; rw [hK,hn]
    have hgle:T0 a.p p+5*K<=2*n*K:=by
     rw [hg,Zq K,<-X4];exact Q0 _ (by omega)
    have hKp:8<=K:=by omega
    have hnK:2*n*K<=4*n*K:=Q0 _ (by omega);obtain ⟨u,k',u1,u2,u3⟩:=Qks hp.t hp.l (by omega) hS hpq ha hnz h2 (64+2*w+4*n*K) (2+w+2*n*K) a k ((2^(w+1):Nat):Rat) (by omega) h1 (by omega) (TE (by omega)) (by
     have e:(2^(w+1))*(2^(T0 a.p p+1))<=2^(2+w+2*n*K):=by
      rw [<-Xf];exact Zs (by decide) (by omega)
     have:=Zm.2 e
     push_cast at this ⊢
     exact this)
    exact ⟨u,k',u1,u2,u3⟩
  obtain ⟨u,k',u1,u2,u3⟩:=hend;rw [u1];refine ⟨_,rfl,.inr ?_⟩;have hfin:Ra p u.hi=s:=by
   rcases u2.hi' with hz | hz
   ·have:=gC ca hz hnz;rw [Nm,<-Fa]; exact this
   ·rcases u2.i with ⟨e,_⟩ | ⟨L',V'⟩
    ·have:=u2.c u.hi;rw [Ie e,e,E4] at this; omega
    ·have hup:u.point=false:=by
      have:¬u.point=true:=λh=>by have:=Mv.1 h; have:=V'.l; grind
      simpa using this
     rcases u3 with h | h
     ·rw [hup] at h; cases h
     ·rw [QY (Qt V'.l)] at h;obtain ⟨s',hs',hps⟩:=Qc4 hpt hp.t hp.nz hS V'.l (by omega);obtain ⟨d,dp,x,y,hx,hy,hq⟩:=hnz;have hlo1:Fp a u.lo=1:=by
       rcases u2.lo' with h | ⟨_,h⟩
       ·exact h
       ·have:=V'.l; clear hps hq; grind
      obtain ⟨m,m1,m2,m3⟩:=CG ca hlo1 hx;have e1:=(hq m (Qt m3) (Qt (ca.lt m1 hy))).1;have e2:=hps m m2 (Qt (ca.lt m1 hz));have e3:=hps u.hi V'.l Qp;rw [Nm,e3,<-e2,<-Fa,e1]
  rw [hfin]; exact ⟨AP,hnz⟩
structure Dp (p:List Int):Prop where
 t:Ff p
 l:p.length<=9
 b:Bd (1130+4*(9-p.length)) p
theorem iN:Szz 9 1253:=⟨by decide,by decide⟩
theorem Dp.ok {p:Um} (h:Dp p) (h0:p.length≠0):Okp 9 1180 p:=⟨iN,h.t,h0,h.l,U5 h.b (by omega)⟩
theorem Dp.der {p:Um} (h:Dp p):Dp (Gx p):=by
 have hl:=Ng p;have hl2:=h.l;refine ⟨Fy _ _,by omega,?_⟩;by_cases h0:p.length=0
 ·rw [Qj (l:=Gx p) (by omega)]; exact ZO
 ·exact U5 (pG h.b (by omega)) (by omega)
def Fu (a:Tm) (p:Um):Int:=(GT p a).getD 0
theorem Qkq {p:Um} (h:Dp p) {a:Tm} (ha:Va a):GT p a=some (Fu a p)/\SgT p a (Fu a p):=by
 by_cases h0:p.length=0
 ·have e:p=[]:=Qj h0;subst e;refine ⟨rfl,.inl ⟨rfl,λd dp=>?_⟩⟩;obtain ⟨x,y,h1,h2,_⟩:=ha.cut.near (e:=1) (by decide);exact ⟨x,y,h1,h2,λq _ _=>by simp only [cz,X7,ev,Rj]; exact dp⟩
 ·obtain ⟨s,h1,h2⟩:=Qkz (h.ok h0) ha;have e:Fu a p=s:=by unfold Fu; rw [h1]; rfl
  rw [e]; exact ⟨h1,h2⟩
theorem Qv8 {c:Rat->Int} {p q:Up} {s:Int} (h:∀ t,ev p t=ev q t) (hp:RS p c s):RS q c s:=by
 obtain ⟨y,h1,h2⟩:=hp;exact ⟨y,h1,λz h3 h4=>by rw [<-h]; exact h2 z h3 h4⟩
theorem qZ {a:Tm} (ha:Va a):∀ (k:Nat) (p:Um),Dp p->p.length<=k->p.length≠0->RS (cz p) (Fp a) (Tu (Fu a) k p)/\Tu (Fu a) k p≠0
 | 0,p,_,h1,h2=>by omega
 |
  k+1,p,h,h1,h2=>by
  simp only [Tu];rw [if_neg h2];obtain ⟨_,hs⟩:=Qkq h ha;rcases hs with ⟨e,hv⟩ | ⟨e,hn⟩
  ·rw [if_pos e];have hdn:(Gx p).length≠0:=λh0=>by
    by_cases h3:p.length=1
    ·obtain ⟨c,rfl⟩:∃ c,p=[c]:=Kr.1 h3;have hc:c≠0:=by have:=H8 h.t (by simp); simpa using this
     obtain ⟨q,hq,_⟩:=gR ha.cut (hv (Fj (c:Rat)) (Cz (XM hc)));rw [Fa] at hq;have:U9 [c] q=(c:Rat):=by simp only [U9]; grind
     rw [this] at hq; grind
    ·have h4:=B5 p (p.length-2);rw [Qj h0,show p.length-2+1=p.length-1 by omega] at h4;have h5:p.getD (p.length-1) 0≠0:=H8 h.t (by omega);rcases Yf.1 (h4.symm.trans (by simp)) with h6 | h6
     ·exact h5 h6
     ·omega
   have hl:=Ng p;obtain ⟨i1,i2⟩:=qZ ha k (Gx p) h.der (by omega) hdn;exact ⟨vF ha.cut hv (Qv8 (λt=>by rw [Fa,Ot,Tr]) i1) i2,i2⟩
  ·rw [if_neg e]; exact ⟨zG ha.cut hn,e⟩
theorem Ep {a:Tm} (ha:Va a) {p:Um} (h:Dp p) (h0:p.length≠0):RS (cz p) (Fp a) (Hj (Fu a) p)/\Hj (Fu a) p≠0:=qZ ha _ p h (Ql _) h0
theorem XT {a:Tm}:Hj (Fu a) []=0:=rfl
theorem Qpc {l:Um}:∀ z∈l,z.natAbs≤most l:=by
 have key:∀ (l:Um) (m:Nat),m≤l.foldl (λm z=>if m<z.natAbs then z.natAbs else m) m/\∀ z∈l,z.natAbs≤l.foldl (λm z=>if m<z.natAbs then z.natAbs else m) m:=by
  intro l
  induction l with
  | nil=>exact λm=>⟨Ql _,λz hz=>by cases hz⟩
  |
   cons y l ih =>
   intro m;obtain ⟨e,he⟩:=nmE (if m<y.natAbs then y.natAbs else m);have h1:m<=e/\y.natAbs<=e:=by rw [he]; split <;> omega
   obtain ⟨i1,i2⟩:=ih e;simp only [Z9];rw [<-he];refine ⟨by omega,λz hz=>?_⟩;rcases Qm.1 hz with rfl | hz
   ·omega
   ·exact i2 z hz
 exact (key l 0).2
theorem BK {p:Um} (h:Fq p≠0):Gw p*((Fq p).natAbs:Rat)=((Fq p).natAbs:Rat)+((most (p.take (p.length-1)):Nat):Rat):=by
 unfold Gw;rw [<-H9];have hp:0<(Fq p).natAbs:=by omega
 have:=nat_pos hp;rw [show ((((Fq p).natAbs:Int)):Rat)=((Fq p).natAbs:Rat) from rfl,Hf this];rw [Kc]; rfl
theorem aW {m:Nat} {x:Rat} (hx:1≤Fj x):∀ (p:Um) (lp:p.length≠0),(∀ z∈p.take (p.length-1),z.natAbs≤m)->Fq p≠0->(m:Rat)≤(Fj x-1)*((Fq p).natAbs:Rat)->((Fq p).natAbs:Rat)≤U9 p x*(((Int.sign (Fq p))*(if x<0/\p.length % 2=0 then -1 else 1):Int):Rat)
 | [],lp,_,_,_=>absurd rfl lp
 |
  [c],_,_,hc,_=>by
  have hl:Fq [c]=c:=rfl;rw [hl] at hc ⊢;rw [if_neg (by simp),Ub];have h1:U9 [c] x=(c:Rat):=by simp only [U9]; grind
  rw [h1];have h2:c*Int.sign c=(c.natAbs:Int):=Int.mul_sign_self c;have:=congrArg (λz:Int=>(z:Rat)) h2;rw [X1] at this;rw [this]; exact Qp
 |
  c::d::p,_,hm,hc,hb=>by
  have hl:Fq (c::d::p)=Fq (d::p):=by unfold Fq; simp [List.getD_cons_succ]
  have ih:=aW hx (d::p) (by simp) (λz hz=>hm z (by
   have e:(c::d::p).take ((c::d::p).length-1)=c::(d::p).take ((d::p).length-1):=by simp
   rw [e]; exact Qg _ hz)) (by rw [<-hl]; exact hc) (by rw [<-hl]; exact hb)
  rw [hl] at hc hb ⊢;have hcm:=hm c (by simp);obtain ⟨s,hs⟩:∃ s:Int,s=Int.sign (Fq (d::p)):=⟨_,rfl⟩;have hsv:s=1\/s=-1:=by
   rw [hs];rcases Ke hc with h | h
   ·exact .inr (J7 h)
   ·exact .inl (Yu h)
  rw [<-hs] at ih ⊢;obtain ⟨ld,hld⟩:∃ ld:Rat,ld=((Fq (d::p)).natAbs:Rat):=⟨_,rfl⟩;rw [<-hld] at ih hb ⊢;have hcq:Fj (c:Rat)<=(m:Rat):=by rw [Sx]; exact Zm.2 hcm
  rw [Mi] at hcq;have e1:U9 (c::d::p) x=(c:Rat)+x*U9 (d::p) x:=rfl;rw [e1];have hlen:(c::d::p).length % 2=0↔¬(d::p).length % 2=0:=by simp only [Q5]; omega
  generalize U9 (d::p) x=y at *;generalize (m:Rat)=mm at *;generalize (c:Rat)=cc at *;have hx0:=hx;by_cases hneg:x<0
  ·have hq:Fj x=-x:=by unfold Fj; rw [if_pos hneg]
   rw [hq] at hx0 hb;by_cases hpar:(d::p).length % 2=0
   ·rw [if_pos ⟨hneg,hpar⟩] at ih;rw [if_neg λh=>(hlen.1 h.2) hpar];rcases hsv with rfl | rfl
    ·have ih:ld<=y*(-1):=by simpa using ih
     have:=Z1 ih (show 0<=-x by grind);have e:(((1:Int)*1:Int):Rat)=1:=rfl;rw [e]; grind
    ·have ih:ld<=y*1:=by simpa using ih
     have:=Z1 ih (show 0<=-x by grind);have e:(((-1:Int)*1:Int):Rat)=-1:=rfl;rw [e]; grind
   ·rw [if_neg λh=>hpar h.2] at ih;rw [if_pos ⟨hneg,hlen.2 hpar⟩];rcases hsv with rfl | rfl
    ·have ih:ld<=y*1:=by simpa using ih
     have:=Z1 ih (show 0<=-x by grind);have e:(((1:Int)*-1:Int):Rat)=-1:=rfl;rw [e]; grind
    ·have ih:ld<=y*(-1):=by simpa using ih
     have:=Z1 ih (show 0<=-x by grind);have e:(((-1:Int)*-1:Int):Rat)=1:=rfl;rw [e]; grind
  ·have hq:Fj x=x:=by unfold Fj; rw [if_neg hneg]
   rw [hq] at hx0 hb;rw [if_neg λh=>hneg h.1] at ih ⊢;rcases hsv with rfl | rfl
   ·have ih:ld<=y*1:=by simpa using ih
    have:=Z1 ih (show 0<=x by grind);have e:(((1:Int)*1:Int):Rat)=1:=rfl;rw [e]; grind
   ·have ih:ld<=y*(-1):=by simpa using ih
    have:=Z1 ih (show 0<=x by grind);have e:(((-1:Int)*1:Int):Rat)=-1:=rfl;rw [e]; grind
theorem pS {p:Um} (tp:Ff p) (lp:p.length≠0) {x:Rat} (hx:Gw p<=Fj x):1<=Fj (U9 p x)/\(0<=x->Ra p x=UI p)/\(x<0->Ra p x=ZP p):=by
 have hl:=Er tp lp;have hpos:0<(Fq p).natAbs:=by omega
 have h1:(1:Rat)<=((Fq p).natAbs:Rat):=by
  have:((1:Nat):Rat)<=((Fq p).natAbs:Rat):=Zm.2 hpos;exact this
 have hm0:(0:Rat)<=((most (p.take (p.length-1)):Nat):Rat):=Xi;have hb:=BK hl;have hx1:=Ze hx (show (0:Rat)<=((Fq p).natAbs:Rat) by grind);have hx2:1<=Fj x:=by
  rcases Gg 1 (Fj x) with h | h
  ·exact h
  ·exfalso;have:=Vy h (show (0:Rat)<((Fq p).natAbs:Rat) by grind);grind
 have key:=aW (m:=most (p.take (p.length-1))) hx2 p lp (λz hz=>Qpc z hz) hl (by grind);obtain ⟨s,hs⟩:∃ s:Int,s=Int.sign (Fq p)*(if x<0/\p.length % 2=0 then -1 else 1):=⟨_,rfl⟩;rw [<-hs] at key;have hsv:s=1\/s=-1:=by
  rw [hs];rcases Ke hl with h | h
  ·rw [J7 h]; split <;> simp
  ·rw [Yu h]; split <;> simp
 have hsg:Ra p x=s/\1<=Fj (U9 p x):=by
  rw [Nm];rcases hsv with e | e
  ·rw [e] at key ⊢;have key:((Fq p).natAbs:Rat)<=U9 p x:=by simpa using key
   exact ⟨Hy.2 (by grind),by unfold Fj; rw [if_neg (by grind)]; grind⟩
  ·rw [e] at key ⊢;have key:((Fq p).natAbs:Rat)<=U9 p x*(-1):=by simpa using key
   exact ⟨Ph.2 (by grind),by unfold Fj; rw [if_pos (by grind)]; grind⟩
 refine ⟨hsg.2,λh=>?_,λh=>?_⟩
 ·rw [hsg.1,hs,if_neg λh'=>by have:=h'.1; grind]; unfold UI; omega
 ·rw [hsg.1,hs]; unfold ZP;by_cases he:p.length % 2=0
  ·rw [if_pos ⟨h,he⟩,if_pos he]; omega
  ·rw [if_neg λh'=>he h'.2,if_neg he]; omega
theorem JO {f g:Um->Int}:∀ {l:Un} (s:Nat×Int),(∀ p∈l,f p=g p)->l.foldl (Pw f) s=l.foldl (Pw g) s
 | [],s,_=>rfl
 |
  p::l,s,h=>by
  simp only [Z9];have e:Pw f s p=Pw g s p:=by unfold Pw; rw [h p (List.mem_cons_self ..)]
  rw [e]; exact JO _ λq hq=>h q (Qg _ hq)
theorem aX:∀ (l:Un),(∀ p∈l,Ff p/\p.length≠0)->∃ X:Rat,0<X/\∀ x,X≤x->(∀ p∈l,Ra p x=UI p)/\∀ p∈l,Ra p (-x)=ZP p
 | [],_=>⟨1,by decide,λx _=>⟨(λp hp=>by cases hp),(λp hp=>by cases hp)⟩⟩
 |
  p::l,h=>by
  obtain ⟨X,hX,hl⟩:=aX l λq hq=>h q (Qg _ hq)
  obtain ⟨tp,lp⟩:=h p (Qy ..);refine ⟨X+Fj (Gw p),by have:=Hw (Gw p); grind,λx hx=>?_⟩;have hb0:=Hw (Gw p);have hb1:Gw p<=Fj (Gw p):=by unfold Fj; split <;> grind
  obtain ⟨l1,l2⟩:=hl x (by grind);have e1:Fj x=x:=by unfold Fj; rw [if_neg (by grind)]
  have e2:Fj (-x)=x:=by rw [Ew,e1]
  refine ⟨λq hq=>?_,λq hq=>?_⟩
  ·rcases Qm.1 hq with rfl | hq
   ·exact (pS tp lp (x:=x) (by rw [e1]; grind)).2.1 (by grind)
   ·exact l1 q hq
  ·rcases Qm.1 hq with rfl | hq
   ·exact (pS tp lp (x:=-x) (by rw [e2]; grind)).2.2 (by grind)
   ·exact l2 q hq
theorem dR {q:Um} {L:Uq} (hS:HV (cz q) L) (tq:Ff q) (lq:q.length≠0) {x y:Rat} (hxy:x<y) (h:Gw q<=x\/y<=-Gw q) (hb:0<Gw q):vv L x=vv L y:=by
 rcases Classical.em (vv L x=vv L y) with e | e
 ·exact e
 ·exfalso;obtain ⟨r,r1,r2,r3⟩:=vL hS hxy e (d:=1) (by decide);have:=(pS tq lq (x:=r) (by rcases h with h | h <;> (unfold Fj; split <;> grind))).1;rw [Fa] at r3; grind
theorem HG {p:Um} (h:Fq p≠0):1<=Gw p:=by
 have hb:=BK h;have hp:=nat_pos (show 0<(Fq p).natAbs by omega);have hm0:(0:Rat)<=((most (p.take (p.length-1)):Nat):Rat):=Xi;rcases Gg 1 (Gw p) with h' | h'
 ·exact h'
 ·have:=Vy h' hp; grind
theorem Qdd {q:Um} {l:Un} (hS:HV (cz q) ((q::l).map cz)) (hl:∀ p∈q::l,Ff p/\p.length≠0):JC (q::l)=(vv ((q::l).map cz) (-Gw q):Int)-(vv ((q::l).map cz) (Gw q):Int):=by
 obtain ⟨tq,lq⟩:=hl q (Qy ..);have hb:=HG (Er tq lq);obtain ⟨X,hX,hx⟩:=aX (q::l) hl;obtain ⟨h1,h2⟩:=hx (X+Gw q) (by grind);have e1:C7 UI (q::l)=vv ((q::l).map cz) (X+Gw q):=by
  rw [<-ZK]; unfold C9 C7;rw [JO (f:=UI) (g:=λp=>Ra p (X+Gw q)) (0,0) λp hp=>(h1 p hp).symm]
 have e2:C7 ZP (q::l)=vv ((q::l).map cz) (-(X+Gw q)):=by
  rw [<-ZK]; unfold C9 C7;rw [JO (f:=ZP) (g:=λp=>Ra p (-(X+Gw q))) (0,0) λp hp=>(h2 p hp).symm]
 unfold JC;rw [e1,e2,dR hS tq lq (x:=-(X+Gw q)) (y:=-Gw q) (by grind) (.inr Qp) (by grind),<-dR hS tq lq (x:=Gw q) (y:=X+Gw q) (by grind) (.inl Qp) (by grind)]
theorem Qvj {f:Up} {L:Uq} (hS:HV f L) {x y:Rat} (hxy:x<y) (hv:vv L y+2<=vv L x):∃ m,x<m/\m<y/\vv L m<vv L x/\vv L y<vv L m/\ev f m≠0:=by
 obtain ⟨R,hR,hx,hy⟩:=xY x y;obtain ⟨e,ep,he⟩:=Qlm hS R hR;have key:∀ n:Nat,∀ x,Fj x<=R->x<y->vv L y+2<=vv L x->y-x<=(n:Rat)*e->∃ m,x<m/\m<y/\vv L m<vv L x/\vv L y<vv L m:=by
  intro n
  induction n with
  | zero=>intro x _ hxy _ hn; rw [show ((0:Nat):Rat)=0 from rfl] at hn; exfalso; clear he; grind
  |
   succ n ih =>
   intro x hx hxy hv hn;have hn':(((n+1:Nat):Rat))=(n:Rat)+1:=by push_cast; rfl
   rw [hn'] at hn;rcases Gg (y-x) e with h1 | h1
   ·have:=he x y hx hy hxy h1; omega
   ·have hm:Fj (x+e)<=R:=FK hx hy (by clear he ih; grind) (by clear he ih; grind);have h2:=he x (x+e) hx hm (by clear he ih; grind) (by clear he ih; grind);have h3:=A4 hS (show x<x+e by clear he ih; grind);by_cases h4:vv L x=vv L (x+e)
    ·obtain ⟨m,m1,m2,m3,m4⟩:=ih (x+e) hm (by clear he ih; grind) (by omega) (by clear he ih; grind);exact ⟨m,by clear he ih; grind,m2,by omega,m4⟩
    ·exact ⟨x+e,by clear he ih; grind,by clear he ih; grind,by omega,by omega⟩
 obtain ⟨n,hn⟩:=ZI (z:=y-x) ep;obtain ⟨m,m1,m2,m3,m4⟩:=key n x hx hxy hv hn;rcases Classical.em (ev f m=0) with h0 | h0
 ·-- a little farther on
  obtain ⟨e2,e2p,hl⟩:=loc hR hS (w:=f) (u:=[1]) (λt=>by rw [Te]; grind);obtain ⟨d,dp,d1,d2⟩:=min2 (a:=e2) (b:=(y-m) / 2) e2p (Ai (by clear he key hl; grind) (by decide));have h2:(y-m) / 2*2=y-m:=Hf (by decide);have hmR:Fj m<=R:=FK hx hy (Qt m1) (Qt m2);have hmR2:Fj (m+d)<=R:=FK hx hy (by clear he key hl; grind) (by clear he key hl; grind);rcases hl m (m+d) hmR hmR2 (by clear he key hl; grind) (by clear he key hl; grind) with ⟨p1,p2,_⟩ | ⟨_,p1,_,p3,_⟩
  ·refine ⟨m+d,by clear he key hl; grind,by clear he key hl; grind,by omega,by omega,λh'=>?_⟩;have:=p2.s;rw [Gq.2 h'] at this; exact p2.n this.symm
  ·rw [Gq.2 h0] at p3; exact absurd p3.symm p1
 ·exact ⟨m,m1,m2,m3,m4,h0⟩
theorem Qq6 {q:Um} {L:Uq} (hS:HV (cz q) L) (tq:Ff q) (nq:q.length<=9) (lq:2<=q.length) {lo hi:Rat} (hl:lo<hi) (hv:vv L hi+2<=vv L lo):1<(hi-lo)*((2^(T0 q q+1):Nat):Rat):=by
 rcases Gg ((hi-lo)*((2^(T0 q q+1):Nat):Rat)) 1 with hw | hw
 ·exfalso;have hpow:(0:Rat)<=((2^(T0 q q+1):Nat):Rat):=Xi;obtain ⟨m,m1,m2,m3,m4,m0⟩:=Qvj hS hl hv;obtain ⟨R,hR,r1,r2⟩:=xY lo hi;have hd:=Cz m0;obtain ⟨d,dp,_,db⟩:=Hi (b:=AE R (cz q)) (d:=Fj (ev (cz q) m) / 2) (M6 hR _) (Ai hd (by decide));have hd2:Fj (ev (cz q) m) / 2*2=Fj (ev (cz q) m):=Hf (by decide);have hmR:Fj m<=R:=FK r1 r2 (Qt m1) (Qt m2);have hnear:∀ r,Fj r<=R->Fj (ev (cz q) r)<Fj (ev (cz q) m) / 2->d<Fj (r-m):=λr hr hs=>by
   rcases Gg (Fj (r-m)) d with h | h
   ·exfalso;have h1:=Mf (p:=cz q) hmR hr hR h db;have h2:=Sr (ev (cz q) m-ev (cz q) r) (ev (cz q) r);rw [show ev (cz q) m-ev (cz q) r+ev (cz q) r=ev (cz q) m by grind,oN] at h2;grind
   ·exact h
  refine Qhs (R:=R+1) (d:=d+d) tq tq nq nq lq lq (by grind) (by grind) λe ep=>?_
  obtain ⟨e',ep',e1,e2⟩:=min2 (a:=e) (b:=Fj (ev (cz q) m) / 2) ep (Ai hd (by decide));obtain ⟨x,x1,x2,x3⟩:=vL hS m1 (by omega) ep';obtain ⟨y,y1,y2,y3⟩:=vL hS m2 (by omega) ep';have hxR:Fj x<=R:=FK r1 r2 x1 (by grind);have hyR:Fj y<=R:=FK r1 r2 (by grind) y2;have nx:=hnear x hxR (by grind);have ny:=hnear y hyR (by grind);have ex:Fj (x-m)=m-x:=by unfold Fj; split <;> grind
  have ey:Fj (y-m)=y-m:=by unfold Fj; split <;> grind
  rw [ex] at nx;rw [ey] at ny;have exy:Fj (x-y)=y-x:=by unfold Fj; split <;> grind
  refine ⟨x,y,by grind,by grind,by rw [exy]; grind,?_,by rw [<-Fa]; grind,by rw [<-Fa]; grind⟩;rw [exy];exact Zl (Ze (show y-x<=hi-lo by grind) hpow) hw
 ·exact hw
theorem Qgp:∀ {k:Nat} {a b:Um} {l:Un},sE k a b=some l->∀ p∈l,p.length≠0
 | 0,_,_,_,h=>by cases h
 |
  k+1,a,b,l,h=>by
  simp only [sE] at h
  split at h
  ·injection h with h; subst h; exact λp hp=>by cases hp
  ·rename_i h0;obtain ⟨r,_,h⟩:=Qd.1 h;obtain ⟨l',h1,h⟩:=Qd.1 h;injection h with h; subst h;intro p hp;rcases Qm.1 hp with rfl | hp
   ·exact h0
   ·exact Qgp h1 p hp
theorem Okp.pb {n s:Nat} {p:Um} (h:Okp n s p) (hs:s<=16777216):Pb p:=⟨h.t,by have:=h.l; have:=h.z.1; omega,U5 h.b hs⟩
theorem Qbx {p:Um} {q:Um} {l:Un} (hp:Pb p) (h:Ee p=some (q::l)) (hq:q.length≠0):∀ r∈q::l,Ff r/\r.length≠0:=by
 have h1:=(Orr.chain_ok hp h).2;unfold Ee at h;obtain ⟨a,_,h⟩:=Qd.1 h
 split at h
 ·cases h
 ·obtain ⟨d,_,h⟩:=Qd.1 h;obtain ⟨l',h3,h⟩:=Qd.1 h;injection h with h;injection h with e1 e2;subst e1; subst e2;intro r hr;refine ⟨(h1 r hr).t,?_⟩;rcases Qm.1 hr with rfl | hr
  ·exact hq
  ·exact Qgp h3 r hr
inductive RI (q:List Int) (L:List (List Rat)):Rat->List Tm->Rat->Prop
 | nil {lo hi:Rat} (h:lo<=hi) (hv:vv L lo=vv L hi):RI q L lo [] hi
 | cons {lo hi:Rat} {t:Tm} {l:List Tm} (h:lo<=t.lo) (hv:vv L lo=vv L t.lo) (ht:Vt (cz q) L t.lo t.hi) (hp:t.p=q) (hl:RI q L t.hi l hi):RI q L lo (t::l) hi
theorem RI.app {q:Um} {L:Uq} {lo m hi:Rat} {l l':List Tm} (h:RI q L lo l m) (h':RI q L m l' hi):RI q L lo (l++l') hi:=by
 induction h with
 |
  nil h hv =>
  cases h' with
  | nil h2 hv2=>exact .nil (by grind) (by omega)
  | cons h2 hv2 ht hp hl=>exact .cons (by grind) (by omega) ht hp hl
 | cons h hv ht hp _ ih=>exact .cons h hv ht hp (ih h')
theorem Qgs {D M k:Nat} {m:Rat} (h:Gr D M k m) (hM:0<M) (hs:Fe (D:Int)+Fe (M:Int)+k<=16777216):chq m=some m:=by
 have:=qX h hM hs;unfold chq;rw [if_pos ⟨this.1,this.2⟩]
theorem NV {q:Um} {c:Un} (hS:HV (cz q) (c.map cz)) (tq:Ff q) (nq:q.length<=9) (hc1:q.length<2->c=[q]) {D M F:Nat} (hM:0<M):∀ (k j:Nat) (lo hi:Rat),lo<hi->Gr D M j lo->Gr D M j hi->Fe (D:Int)+Fe (M:Int)+(j+k)<=16777216->(hi-lo)*((2^(T0 q q+1):Nat):Rat)<=((2^k:Nat):Rat) ->
 ∃ l,Ax q c (F+k+1) lo hi ((vv (c.map cz) lo:Int)-(vv (c.map cz) hi:Int))=some l/\RI q (c.map cz) lo l hi/\∀ t∈l,∃ k',k'≤j+k/\Gr D M k' t.lo/\Gr D M k' t.hi:=by
 intro k
 induction k with
 |
  zero =>
  intro j lo hi hl g1 g2 hs hK;have hle:=A4 hS hl;have h2:vv (c.map cz) lo<vv (c.map cz) hi+2:=by
   rcases Zb (vv (c.map cz) lo) (vv (c.map cz) hi+2) with h | h
   ·exact h
   ·exfalso;have lq:2<=q.length:=by
     rcases Zb q.length 2 with e | e
     ·have hvv:∀ x,vv (c.map cz) x=vv (c.map cz) 0:=λx=>by
       rcases hS with ⟨c0,hc0,hcc,hl'⟩ | ⟨g',l',k',hk,hg,hsc,hl'⟩
       ·rw [hl']; simp only [vv,tc,hcc]
       ·rw [hc1 e] at hl'; cases hl'
      rw [hvv lo,hvv hi] at h; omega
     ·exact e
    have:=Qq6 hS tq nq lq hl h;rw [Vd] at hK;have h7:((1:Nat):Rat)=1:=rfl;rw [h7] at hK; grind
  simp only [Ax];by_cases e0:vv (c.map cz) lo=vv (c.map cz) hi
  ·rw [if_pos (by omega)];exact ⟨[],rfl,.nil (Qt hl) e0,λt ht=>by cases ht⟩
  ·rw [if_neg (by omega),if_pos (by omega)];refine ⟨[⟨q,lo,hi⟩],rfl,.cons Qp rfl ⟨hS,hl,by show vv _ lo=vv _ hi+1; omega⟩ rfl (.nil Qp rfl),λt ht=>?_⟩;rw [Qk.1 ht]; exact ⟨j,by omega,g1,g2⟩
 |
  succ k ih =>
  intro j lo hi hl g1 g2 hs hK;have hle:=A4 hS hl;show ∃ l,(if (vv (c.map cz) lo:Int)-(vv (c.map cz) hi:Int)=0 then some [] else if (vv (c.map cz) lo:Int)-(vv (c.map cz) hi:Int)=1 then some [⟨q,lo,hi⟩] else (chq (mid lo hi)).bind λm=>(Ax q c (F+k+1) lo m (Tq c lo m)).bind λl=>(Ax q c (F+k+1) m hi ((vv (c.map cz) lo:Int)-(vv (c.map cz) hi:Int)-Tq c lo m)).bind λr=>some (l++r))=some l/\_;by_cases e0:vv (c.map cz) lo=vv (c.map cz) hi
  ·rw [if_pos (by omega)];exact ⟨[],rfl,.nil (Qt hl) e0,λt ht=>by cases ht⟩
  by_cases e1:vv (c.map cz) lo=vv (c.map cz) hi+1
  ·rw [if_neg (by omega),if_pos (by omega)];refine ⟨[⟨q,lo,hi⟩],rfl,.cons Qp rfl ⟨hS,hl,e1⟩ rfl (.nil Qp rfl),λt ht=>?_⟩;rw [Qk.1 ht]; exact ⟨j,by omega,g1,g2⟩
  ·rw [if_neg (by omega),if_neg (by omega)];obtain ⟨m,hm⟩:=nmE ((lo+hi) / 2);have h2:(lo+hi) / 2*2=lo+hi:=Hf (by decide);rw [<-hm] at h2;have gm:Gr D M (j+1) m:=by rw [hm]; exact Qh8 g1 g2
   have l1:lo<m:=by grind
   have l2:m<hi:=by grind
   rw [nO,<-hm,Qgs gm hM (by omega)];show ∃ l,((Ax q c (F+k+1) lo m (Tq c lo m)).bind λl=>(Ax q c (F+k+1) m hi ((vv (c.map cz) lo:Int)-(vv (c.map cz) hi:Int)-Tq c lo m)).bind λr=>some (l++r))=some l/\_;rw [QY (Qt l1),show (vv (c.map cz) lo:Int)-(vv (c.map cz) hi:Int)-((vv (c.map cz) lo:Int)-(vv (c.map cz) m:Int))=(vv (c.map cz) m:Int)-(vv (c.map cz) hi:Int) by omega];rw [rS k] at hK;have hp:∀ x y:Rat,(y-x)*2=hi-lo->(y-x)*((2^(T0 q q+1):Nat):Rat)<=((2^k:Nat):Rat):=λx y h=>by
    have:(y-x)*((2^(T0 q q+1):Nat):Rat)*2=(hi-lo)*((2^(T0 q q+1):Nat):Rat):=by rw [<-h]; grind
    grind
   obtain ⟨la,a1,a2,a3⟩:=ih (j+1) lo m l1 (qJ g1) gm (by omega) (hp lo m (by grind));obtain ⟨lb,b1,b2,b3⟩:=ih (j+1) m hi l2 gm (qJ g2) (by omega) (hp m hi (by grind));rw [a1];show ∃ l,((Ax q c (F+k+1) m hi ((vv (c.map cz) m:Int)-(vv (c.map cz) hi:Int))).bind λr=>some (la++r))=some l/\_;rw [b1];refine ⟨la++lb,rfl,a2.app b2,λt ht=>?_⟩;rcases Qr.1 ht with ht | ht
   ·obtain ⟨k',h1,h2,h3⟩:=a3 t ht; exact ⟨k',by omega,h2,h3⟩
   ·obtain ⟨k',h1,h2,h3⟩:=b3 t ht; exact ⟨k',by omega,h2,h3⟩
theorem Qu7 {D M k:Nat} {q:Rat} (h:Gr D M k q):Gr D M k (-q):=by
 obtain ⟨u,hu⟩:=h.u;exact ⟨⟨-u,by rw [Vm,<-hu]; grind⟩,by rw [Ew]; exact h.b,h.d⟩
theorem fM {m s:Nat} (h:m<2^s):Fe ((m+1:Nat):Int)<=s+1:=by
 rw [Sw,Xh,Zr]; omega
theorem Qco {z:Int} {s:Nat} (h:Fe z<=s):Fe ((z.natAbs+1:Nat):Int)<=s+1:=fM (Sw.1 h)
theorem Qqv {x:Rat} {m s g N:Nat} (hx:x<=2*((m+1:Nat):Rat)) (hm:m+1<=2^s) (hN:s+1+g<=N):x*((2^g:Nat):Rat)<=((2^N:Nat):Rat):=by
 have h3:=Zm.2 hm;have e:=rS s;have h4:(0:Rat)<=((2^s:Nat):Rat):=Xi;have h1:x<=((2^(s+1):Nat):Rat):=by rw [e]; grind
 have h5:(0:Rat)<=((2^g:Nat):Rat):=Xi;refine Zl (Ze h1 h5) ?_;have h6:2^(s+1)*2^g<=2^N:=by
  rw [<-Xf]; exact Zs (by decide) hN
 have:=Zm.2 h6;rw [Rat.natCast_mul] at this;exact this
theorem Qmp {s:Nat} {l:Um} (h:Bd s l):most l<2^s:=by
 have key:∀ (l:Um) (m:Nat),m<2^s->Bd s l->l.foldl (λm z=>if m<z.natAbs then z.natAbs else m) m<2^s:=by
  intro l
  induction l with
  | nil=>exact λm h _=>h
  |
   cons y l ih =>
   intro m hm hb;simp only [Z9];refine ih _ ?_ λz hz=>hb z (Qg _ hz)
   have:=hb y (Qy ..);rw [Sw] at this
   split <;> assumption
 exact key l 0 (Z2 (by decide)) h
theorem Qud {p q:Um} (h:IE p=some q):q=p:=by
 unfold IE at h
 split at h
 ·injection h with h; exact h.symm
 ·cases h
theorem Qde {s N:Nat} {p:Um} (hNe:N=63*s+5160) (hs9:s≤1180) (h:Okp 9 s p):∃ q c l,Pp p=some q/\Ee p=some c/\PX p=some l/\HV (cz q) (c.map cz)/\RI q (c.map cz) (-Gw q) l (Gw q)/\(∀ t∈l,Va t)/\(∀ x y,x<y->Gw q≤x\/y≤-Gw q->vv (c.map cz) x=vv (c.map cz) y)/\q.length≤p.length/\∀ t∈l,t.p=q/\t.lo<t.hi/\Bd (s+69) q/\∃ D M k,Gr D M k t.lo/\Gr D M k t.hi/\0<M/\Fe (D:Int)≤s+69/\Fe (M:Int)≤s+70/\k≤N:=by
 obtain ⟨pp,hpl,hpb⟩:=h.pr;obtain ⟨g,q',hq',sq⟩:=VW h;obtain ⟨q,l,q1,q2,hS,hl0⟩:=chain_ok h;rw [hq'] at q1;injection q1 with q1;subst q1;have e1:∀ t,U9 (Fi p) t=U9 q' t*U9 g t:=λt=>by rw [sq.e]; grind
 obtain ⟨p1,p2⟩:=Tf pp.t pp.n e1;have hch:sE 66 q' (Fi (Gx q'))=some l:=by
  have h2:=q2;unfold Ee at h2;rw [hq'] at h2;simp only [Jm] at h2
  split at h2
  ·cases h2
  ·cases hd:IE (Gx q') with
   | none=>rw [hd] at h2; cases h2
   |
    some d =>
    rw [hd] at h2;simp only [Jm] at h2;obtain rfl:d=Gx q':=Qud hd;cases hc:sE 66 q' (Fi (Gx q')) with
    | none=>rw [hc] at h2; cases h2
    | some l'=>rw [hc] at h2; simp at h2; rw [h2]
 have hll:=Mr sq.pq.t sq.pg.t pp.t e1 p1 p2;have hl9:=h.l;have bq:Bd (s+69) q':=XG hpb (by omega) pp.t sq.pq.t sq.pg.t pp.n e1;have hall:=Qbx (h.pb (by omega)) q2 sq.pq.n;have hld:Fq q'≠0:=by have:=sq.pq.l; omega
 have hb1:=HG hld;obtain ⟨D,hD⟩:=nmE ((Fq q').natAbs);obtain ⟨m,hm⟩:=nmE (most (q'.take (q'.length-1)));have hm2:m<2^(s+69):=by rw [hm]; exact Qmp (s:=s+69) λz hz=>bq z (Qo hz)
 have hD0:0<D:=by omega
 have hDs:Fe (D:Int)<=s+69:=by
  have:=Nc bq;rw [Sw] at this ⊢;rw [Xh,hD]; exact this
 have hbe:=BK hld;rw [<-hD,<-hm] at hbe;have hDq:=nat_pos hD0;have hbm:Gw q'<=((m+1:Nat):Rat):=by
  have hD1:(1:Rat)<=(D:Rat):=by
   have:((1:Nat):Rat)<=(D:Rat):=Zm.2 hD0;exact this
  have hm0:(0:Rat)<=(m:Rat):=Xi;have h3:=Cu (a:=(m:Rat)) (c:=1) hm0 Qp (by decide) hD1;rcases Gg (Gw q') ((m+1:Nat):Rat) with h' | h'
  ·exact h'
  ·exfalso;have:=Vy h' hDq
   push_cast at this; grind
 have gb:Gr D (m+1) 0 (Gw q'):=by
  refine ⟨⟨(D+m:Nat),?_⟩,?_,hD0⟩
  ·rw [Vd,Yw,hbe];rw [show ((((D+m:Nat):Int)):Rat)=((D+m:Nat):Rat) from rfl]; push_cast; rfl
  ·have:Fj (Gw q')=Gw q':=by unfold Fj; rw [if_neg (by grind)]
   rw [this]; exact hbm
 have hMs:Fe ((m+1:Nat):Int)<=s+69+1:=fM (s:=s+69) hm2;have hK:(Gw q' - -Gw q')*((2^(T0 q' q'+1):Nat):Rat)<=((2^N:Nat):Rat):=by
  have hps:=O2 bq;have hg:T0 q' q'<=(2*s+164)*31:=by
   unfold T0;exact Zc (by omega) (by omega)
  exact Qqv (s:=s+69) (g:=T0 q' q'+1) (N:=N) (by grind) hm2 (by omega)
 have hN:Fe (D:Int)+Fe ((m+1:Nat):Int)+(0+N)<=16777216:=by omega
 obtain ⟨F,hFe⟩:=nmE (99999-N);obtain ⟨ls,r1,r2,r3⟩:=NV (F:=F) hS sq.pq.t (by omega) (λh=>by rw [hl0 h]) (W6 m) N 0 (-Gw q') (Gw q') (by grind) (Qu7 gb) gb hN hK;rw [show F+N+1=100000 by omega] at r1;have hchq:chq (Gw q')=some (Gw q'):=Qgs gb (W6 m) (by omega);have key:∀ t∈ls,Va t/\t.p=q'/\t.lo<t.hi/\Bd (s+69) q'/\∃ D M k,Gr D M k t.lo/\Gr D M k t.hi/\0<M/\Fe (D:Int)≤s+69/\Fe (M:Int)≤s+70/\k≤N:=λt ht=>by
  obtain ⟨k',k1,k2,k3⟩:=r3 t ht;have hmem:∀ {lo hi:Rat} {ls:List Tm},RI q' ((q'::l).map cz) lo ls hi->t∈ls->Vt (cz q') ((q'::l).map cz) t.lo t.hi/\t.p=q':=λh=>by
   induction h with
   | nil=>intro ht; cases ht
   |
    cons h hv ht' hp hl ih =>
    intro ht;rcases Qm.1 ht with rfl | ht
    ·exact ⟨ht',hp⟩
    ·exact ih ht
  obtain ⟨v1,v2⟩:=hmem r2 ht;have lq2:2<=q'.length:=by
   rcases Zb q'.length 2 with e | e
   ·exfalso;have hvv:∀ x,vv ((q'::l).map cz) x=0:=λx=>by
     rw [hl0 e,sq.pq.one e];have hv1:∀ x:Rat,ev (cz [1]) x=1:=λx=>by rw [Fa,Nz]
     simp only [Z0,X7,vv,tc,hv1];have:Fg 1=1:=by decide
     rw [this]; decide
    have:=v1.v;rw [hvv,hvv] at this; omega
   ·exact e
  exact ⟨⟨.inr ⟨_,by rw [v2]; exact v1⟩,by rw [v2]; exact sq.pq.t,by rw [v2]; omega,by rw [v2]; exact lq2,by rw [v2]; exact U5 bq (by omega),λ_=>by rw [v2]; exact U5 bq (by omega),λ_=>by rw [v2]; exact ⟨l,_,g,hch,sq,v1⟩,D,m+1,k',k2,k3,W6 m,Qa (show _<=1000000 by omega) (Qvb t)⟩,v2,v1.l,bq,D,m+1,k',k2,k3,W6 m,hDs,Qa hMs (Ql (s+70)),by rw [Zz] at k1; exact k1⟩
 refine ⟨q',q'::l,ls,hq',q2,?_,hS,r2,λt ht=>(key t ht).1,λx y hxy hb=>dR hS sq.pq.t sq.pq.n hxy hb (by grind),by omega,λt ht=>(key t ht).2⟩
 ·unfold PX;rw [q2,hq'];show (chq (Gw q')).bind _=_;rw [hchq];simp only [Jm];rw [Qdd hS hall];exact r1
theorem Qkh {s:Nat} {p:Um} (hs9:s≤1180) (h:Okp 9 s p):∃ q c l,Pp p=some q/\Ee p=some c/\PX p=some l/\HV (cz q) (c.map cz)/\RI q (c.map cz) (-Gw q) l (Gw q)/\(∀ t∈l,Va t)/\(∀ x y,x<y->Gw q≤x\/y≤-Gw q->vv (c.map cz) x=vv (c.map cz) y)/\q.length≤p.length/\∀ t∈l,t.p=q/\t.lo<t.hi/\Bd (s+69) q/\∃ D M k,Gr D M k t.lo/\Gr D M k t.hi/\0<M/\Fe (D:Int)≤s+69/\Fe (M:Int)≤s+70/\k≤63*s+5160:=Qde rfl hs9 h
theorem Qkg {p:Um} (h:Okp 9 1180 p):∃ q c l,Pp p=some q/\Ee p=some c/\PX p=some l/\HV (cz q) (c.map cz)/\RI q (c.map cz) (-Gw q) l (Gw q)/\(∀ t∈l,Va t)/\(∀ x y,x<y->Gw q≤x\/y≤-Gw q->vv (c.map cz) x=vv (c.map cz) y):=by
 obtain ⟨q,c,l,h1,h2,h3,h4,h5,h6,h7,_⟩:=Qkh (Ql _) h;exact ⟨q,c,l,h1,h2,h3,h4,h5,h6,h7⟩
theorem El {q:Um} {L:Uq} (hS:HV (cz q) L) {c:Rat->Int} (hc:Cut c) {lo:Rat} (hH:∀ z,c z=-1->z<=lo->vv L z=vv L lo) {y0:Rat} (hy:c y0=-1) (hv:∀ z,lo<z->z<=y0->vv L z=vv L lo):∃ s,s≠0/\∀ z,c z=-1->z<=y0->Fg (ev (cz q) z)=s:=by
 have hall:∀ z,c z=-1->z<=y0->vv L z=vv L lo:=λz h1 h2=>by
  rcases Gg z lo with e | e
  ·exact hH z h1 e
  ·exact hv z e h2
 have hne:∀ z,c z=-1->z<=y0->Fg (ev (cz q) z)≠0:=λz h1 h2=>by
  obtain ⟨w,w1,w2⟩:=hc.dn z h1;have:=kX hS w1 (by rw [hall w w2 (by grind),hall z h1 h2]);rw [this.s]; exact this.n
 refine ⟨Fg (ev (cz q) y0),hne y0 hy Qp,λz h1 h2=>?_⟩;rcases Classical.em (z=y0) with e | e
 ·rw [e]
 ·have:=kX hS (x:=z) (y:=y0) (by grind) (by rw [hall z h1 h2,hall y0 hy Qp]);rw [this.s,Ao (hne z h1 h2)]
structure Fst (o:List Int) (a t:Tm):Prop where
 lt:Nv a t
 s:∃ s,s≠0/\(∀ z,Fp a z=-1->Fp t z=1->Fg (ev (cz o) z)=s)/\RS (cz o) (Fp t) (-s)
def Non (o:Um) (a:Tm):Prop:=∃ s,s≠0/\∀ z,Fp a z=-1->Fg (ev (cz o) z)=s
theorem Qcv {q:Um} {L:Uq} (hS:HV (cz q) L) {a:Tm} (ha:Va a) {lo hi:Rat} {l:List Tm} (hR:RI q L lo l hi):(∀ t∈l,Va t)->(∀ z,hi<z->vv L z=vv L hi)->(∀ z,Fp a z=-1->z≤lo->vv L z=vv L lo)->∃ r,KZ a l=some r/\match r with
 | none=>Non q a
 | some t=>t∈l/\Fst q a t:=by
 have ca:=ha.cut
 induction hR with
 |
  @nil lo hi h hv =>
  intro _ hhi hH;refine ⟨none,rfl,?_⟩;obtain ⟨y1,hy1⟩:=ca.hi;have hall:∀ z,lo<z->vv L z=vv L lo:=λz hz=>by
   rcases Gg z hi with e | e
   ·have h1:=A4 hS hz;have h2:vv L hi<=vv L z:=by
     rcases Classical.em (z=hi) with e' | e'
     ·rw [e']; exact Ql _
     ·exact A4 hS (by grind)
    omega
   ·rw [hhi z e,hv]
  obtain ⟨s,s0,hs⟩:=El hS ca hH hy1 λz h1 _=>hall z h1
  refine ⟨s,s0,λz hz=>?_⟩;rcases Gg z y1 with e | e
  ·exact hs z hz e
  ·obtain ⟨s',s0',hs'⟩:=El hS ca hH hz λz h1 _=>hall z h1
   rw [hs' z hz Qp,<-hs' y1 hy1 (Qt e),hs y1 hy1 Qp]
 |
  @cons lo hi t l h hv ht hp hl ih =>
  intro hV hhi hH;have hvt:=hV t (Qy ..);have ct:=hvt.cut;have ht':=ht;rw [<-hp] at ht';have ect:∀ z,Fp t z=cq (cz t.p) t.lo t.hi z:=Cj ht.l;obtain ⟨c,c1,c2⟩:=UP hvt ha;show ∃ r,((US t a).bind λc=>if 0<c then some (some t) else KZ a l)=some r/\_;rw [c1];show ∃ r,(if 0<c then some (some t) else KZ a l)=some r/\_;have hlo1:Fp t t.lo=1:=by rw [ect]; exact Ah Qp
  have hlow:∀ z,lo<z->Fp t z=1->vv L z=vv L lo:=λz h1 h2=>by
   rcases Gg z t.lo with e | e
   ·have a1:=A4 hS h1;have a2:vv L t.lo<=vv L z:=by
     rcases Classical.em (z=t.lo) with e' | e'
     ·rw [e']; exact Ql _
     ·exact A4 hS (by grind)
    omega
   ·rw [ect] at h2;have hz:z<=t.hi:=by
     rcases Gg z t.hi with e' | e'
     ·exact e'
     ·rw [UN ht.l e'] at h2; omega
    rw [ht'.eq_lo e hz h2,hv]
  by_cases hc:0<c
  ·rw [if_pos hc];refine ⟨some t,rfl,Qy ..,?_⟩;have hlt:Nv a t:=by
    rcases c2 with ⟨e,_⟩ | ⟨e,_⟩ | ⟨_,h⟩
    ·omega
    ·omega
    ·exact h
   refine ⟨hlt,?_⟩;obtain ⟨m,m1,m2⟩:=hlt;obtain ⟨s,s0,hs⟩:=El hS ca hH m1 λz h1 h2=>hlow z h1 (by
    rcases Classical.em (z=m) with e | e
    ·rw [e]; exact m2
    ·exact ct.mono' (q:=z) (r:=m) (by grind) (by omega))
   have hall:∀ z,Fp a z=-1->Fp t z=1->Fg (ev (cz q) z)=s:=λz h1 h2=>by
    rcases Gg z m with e | e
    ·exact hs z h1 e
    ·obtain ⟨s',s0',hs'⟩:=El hS ca hH h1 λw w1 w2=>hlow w w1 (by
      rcases Classical.em (w=z) with e | e
      ·rw [e]; exact h2
      ·exact ct.mono' (q:=w) (r:=z) (by grind) (by omega))
     rw [hs' z h1 Qp,<-hs' m m1 (Qt e),hs m m1 Qp]
   refine ⟨s,s0,hall,?_⟩;obtain ⟨w,w1,w2,w3⟩:=CG ct m2 hlo1;have hwa:Fp a w=-1:=ca.mono m w w2 (by omega);have hsw:=hall w hwa w1;have hwh:w<t.hi:=by
    rw [ect] at w1;rcases Gg t.hi w with e | e
    ·have:=ht'.hi1;rcases Classical.em (t.hi=w) with e' | e'
     ·rw [<-e'] at w1; exact absurd w1 this
     ·rw [UN ht.l (by grind)] at w1; omega
    ·exact e
   have hww:vv L w=vv L t.lo:=ht'.eq_lo w3 (Qt hwh) (by rw [<-ect]; exact w1);have hvv:=ht.v;have hone:=kZ hS hwh (by omega);have hlw:Pu (cz q) w=s:=by rw [Ao (by rw [hsw]; exact s0),hsw]
   rw [hlw] at hone;have hd:∀ z,w<z->z<=t.hi->Fp t z=-1->Fg (ev (cz q) z)=-s:=λz z1 z2 z3=>by
    rw [ect] at z3;have e1:=ht'.eq_hi (by grind) z2 (by omega);have e2:=kZ hS z1 (by omega);rw [hlw] at e2;have hz0:Fg (ev (cz q) z)≠0:=by
     rw [Is (by grind) z2,hp] at z3;intro h0;rw [if_pos h0] at z3; omega
    rw [Ao hz0] at e2; exact e2.2
   rcases ct.val t.hi with e | e | e
   ·rw [ect] at e; exact absurd e ht'.hi1
   ·obtain ⟨d,dp,hd'⟩:=Qyg (p:=cz q) (x:=t.hi) (by rw [hone.2]; omega);refine ⟨t.hi+d,ct.mono t.hi _ (by grind) (by omega),λz h1 h2=>?_⟩;have hz:t.hi<z:=by
     rcases Gg z t.hi with e' | e'
     ·rcases Classical.em (z=t.hi) with e'' | e''
      ·rw [e''] at h1; omega
      ·have:=ct.mono z t.hi (by grind) (by omega); omega
     ·exact e'
    rw [hd' z hz (by grind),hone.2]
   ·exact ⟨t.hi,e,λz h1 h2=>hd z (ct.lt w1 h1) h2 h1⟩
  ·rw [if_neg hc];have hle:¬Nv a t:=λh=>by
    rcases c2 with ⟨e,h'⟩ | ⟨e,h'⟩ | ⟨e,_⟩
    ·exact Iy ct ca h' h
    ·obtain ⟨z,z1,z2⟩:=h;have:=h' z; omega
    ·omega
   obtain ⟨r,r1,r2⟩:=ih (λx hx=>hV x (Qg _ hx)) hhi λz z1 z2=>by
    have hz:Fp t z≠1:=λh=>hle ⟨z,z1,h⟩
    have hzl:t.lo<z:=by
     rcases Gg z t.lo with e | e
     ·refine absurd ?_ hz;rw [ect]; exact Ah e
     ·exact e
    exact ht'.eq_hi hzl z2 (by rw [<-ect]; exact hz)
   refine ⟨r,r1,?_⟩;cases r with
   | none=>exact r2
   | some x=>exact ⟨Qg _ r2.1,r2.2⟩
theorem Qsq {c:Rat->Int} (hc:Cut c):∀ (n:Nat) (f:Up),HD f n->∃ s,s≠0/\RS f c s
 |
  n,f,h=>by
  rcases YZ hc f with hv | ⟨s,hs,hn⟩
  ·cases n with
   |
    zero =>
    exfalso;obtain ⟨q,hq,_⟩:=gR hc (hv (Fj (f.getD 0 0)) (Cz h.1));cases f with
    | nil=>exact h.1 (by simp)
    |
     cons a l =>
     have:=Lc (p:=l) λk=>by have:=h.2 (k+1) (by omega); rwa [Q4] at this
     simp only [ev,this,Zt] at hq; grind
   |
    succ n =>
    have hd:HD (Bp f) n:=by
     have key:∀ (f:Up) (k:Nat),(Bp f).getD k 0=((k+1:Nat):Rat)*f.getD (k+1) 0:=by
      intro f
      induction f with
      | nil=>intro k; simp only [Bp,Kt]; grind
      |
       cons a f ih =>
       intro k;simp only [Bp];rw [Rl,Q4];cases k with
       | zero=>rw [Zt]; push_cast; grind
       | succ k=>rw [Q4,ih]; push_cast; grind
     refine ⟨λh0=>?_,λk hk=>by rw [key,h.2 (k+1) (by omega)]; grind⟩;rw [key] at h0;rcases Y3.1 h0 with h1 | h1
     ·have:=nat_pos (show 0<n+1 by omega); grind
     ·exact h.1 h1
    obtain ⟨s,hs,h1⟩:=Qsq hc n (Bp f) hd;exact ⟨s,hs,vF hc hv h1 hs⟩
  ·exact ⟨s,hs,zG hc hn⟩
theorem Qkj {c:Rat->Int} (hc:Cut c) {f p q:Up} {s s':Int} (hf:∀ t,ev f t=ev p t*ev q t) (h:RS p c s) (h':RS q c s'):RS f c (s*s'):=by
 obtain ⟨y,h1,h2⟩:=h;obtain ⟨y',h3,h4⟩:=h';refine ⟨if y<=y' then y else y',by split <;> assumption,λz z1 z2=>?_⟩;rw [hf,Sv,h2 z z1 (by clear h2 h4; grind),h4 z z1 (by clear h2 h4; grind)]
theorem Qkk {c:Rat->Int} (hc:Cut c) {f o S:Up} {k:Rat} (hk:k≠0) (hf:∀ t,ev f t=k*(ev o t*(ev S t*ev S t))) (hnz:¬∀ t,ev f t=0) {s:Int} (h:RS o c s):RS f c (Fg k*s):=by
 obtain ⟨n,_,hn⟩:∃ n,n<S.length/\HD S n:=by
  rcases LQ S with h1 | h1
  ·exact absurd (λt=>by rw [hf,h1]; grind) hnz
  ·exact h1
 obtain ⟨s',hs',h'⟩:=Qsq hc n S hn;have h1:=Qkj hc (f:=G7 S S) (λt=>Fh t _ _) h' h';have h2:=Qkj hc (f:=G7 o (G7 S S)) (λt=>Fh t _ _) h h1;have hsq:s'*s'=1:=by
  obtain ⟨y,y1,y2⟩:=h';have:=y2 y y1 Qp;rcases Fz (ev S y) with ⟨e,_⟩ | ⟨e,_⟩ | ⟨e,_⟩
  ·rw [<-this,e]; rfl
  ·omega
  ·rw [<-this,e]; rfl
 rw [hsq,Ub] at h2;obtain ⟨y,y1,y2⟩:=h2;exact ⟨y,y1,λz z1 z2=>by
  have:=y2 z z1 z2;rw [Fh,Fh] at this;rw [hf,Sv,this]⟩
structure Cp (p:List Int):Prop where
 t:Ff p
 l:p.length<=9
 b:Bd 1110 p
theorem Cp.dp {p:Um} (h:Cp p):Dp p:=⟨h.t,h.l,U5 h.b (by omega)⟩
theorem Cp.ok {p:Um} (h:Cp p) (h0:p.length≠0):Okp 9 1180 p:=h.dp.ok h0
def Leq (a:Tm) (c:Rat->Int):Prop:=∀ q,c q=-1->Fp a q=-1
def Mz (p:Um) (a:Tm):Option Tm->Prop
 | none=>p=[]\/∃ s,s≠0/\∀ c,Cut c->Leq a c->RS (cz p) c s
 | some t=>p≠[]/\Va t/\Nv a t/\∃ s,s≠0/\(∀ c,Cut c->Leq a c->(∃ m,c m=-1/\Fp t m=1)->RS (cz p) c s)/\RS (cz p) (Fp t) (-s)
theorem RI.len {q:Um} {L:Uq} {lo hi:Rat} {l:List Tm} (h:RI q L lo l hi):l.length+vv L hi<=vv L lo:=by
 induction h with
 | nil h hv=>simp; omega
 | cons h hv ht hp hl ih=>have:=ht.v; simp only [Q5]; omega
theorem Qle (x:Rat):∀ (L:Uq) (s:Int),tc x s L<=L.length
 | [],_=>Ql _
 |
  f::l,s=>by
  have h1:=Qle x l;simp only [tc,Q5]
  repeat' split
  all_goals (first | (have:=h1 s; omega) | (have:=h1 (Fg (ev f x)); omega))
theorem Qwv (L:Uq) (x:Rat):vv L x<=L.length:=Qle x L 0
theorem YQ {p:Um} (h:Cp p):∃ l,WL p=some l/\l.length≤67/\(∀ t∈l,Va t)/\∀ a,Va a->∃ r,KZ a l=some r/\Mz p a r/\∀ t,r=some t->t∈l:=by
 unfold WL;by_cases h0:p.length=0
 ·have e:p=[]:=Qj h0;subst e;exact ⟨[],rfl,by decide,(λt ht=>by cases ht),λa _=>⟨none,rfl,.inl rfl,λt ht=>by cases ht⟩⟩
 ·obtain ⟨qp,o,q1,o1,hpt⟩:=Qjf (n:=9) (s:=1110) (p:=p) ⟨⟨by decide,by decide⟩,h.t,h0,h.l,h.b⟩;obtain ⟨g,sq⟩:=hpt.sq;obtain ⟨S,hS⟩:=hpt.os;obtain ⟨p1,p2,p3,p4,p5,p6,p7⟩:=Cx h.t h0;have hpl:=h.l;obtain ⟨hh,th,eh⟩:=hpt.oh;have bo:Bd 1179 o:=XG (p5 1110 h.b) (by omega) p1 hpt.ot th (by omega) eh;obtain ⟨lo1,lo2⟩:=Tf p1 (by omega) eh;have hlen:=Mr hpt.ot th p1 eh lo1 lo2;have oko:Okp 9 1180 o:=⟨iN,hpt.ot,by omega,by omega,U5 bo (by omega)⟩;obtain ⟨q,c,l,r1,r2,r3,hSt,hRI,hVa,hout⟩:=Qkg oko;obtain ⟨g',q',s1,s2⟩:=VW oko;rw [r1] at s1;injection s1 with s1;subst s1;obtain ⟨_,_,_,_,_,o6,o7⟩:=Cx hpt.ot (by omega);have hg1:g'=[1]:=by
   refine s2.pg.one ?_;obtain ⟨E,hE⟩:=hpt.oq;have hE:∀ t,U9 qp t=U9 o t*ev E t:=λt=>by have:=hE t; rwa [Fa,Fa] at this
   obtain ⟨z,hz⟩:=s2.d;have hd1:∀ t,U9 o t=U9 g' t*(Ho o*U9 q t):=λt=>by rw [o7,s2.e]; grind
   have hdo:∀ t,dv (cz o) t=U9 g' t*(Ho o*ev z t):=λt=>by
    have:=Qg9 (p:=cz o) (q:=D6 (Ho o) (cz (Fi o))) (λt=>by rw [Fa,Gt,Fa,o7]) t;rw [this,RZ,hz]; grind
   obtain ⟨k,hk,hkk⟩:=sq.num (d:=cz g') ⟨G7 (D6 (Ho o) (cz q)) E,λt=>by rw [Fa,Fa,hE,hd1,Fh,Gt,Fa]; grind⟩ ⟨Ss (G7 (D6 (Ho o) z) E) (G7 (D6 (Ho o) (cz q)) (Bp E)),λt=>by
    have:=QP (f:=cz qp) (w:=cz o) (u:=E) (λt=>by rw [Fa,Fa,hE]) t;rw [Tr,this,hdo,Fa,Fa,hd1,Gz,Fh,Fh,Gt,Gt,Tr,Fa]; grind⟩
   rcases Zb g'.length 2 with e | e
   ·exact e
   ·exfalso;have h1:=(SR s2.pg.t (by omega)).1;have h2:=Dz (p:=cz g') (q:=[k]) (λt=>by rw [hkk]; simp only [ev]; grind) (g'.length-1);rw [h2,Qi,Qw (by simp; omega)] at h1;exact h1 rfl
  have hpq:∀ t,ev (cz p) t=((Ho p:Rat)*(Ho o:Rat))*(ev (cz q) t*(ev S t*ev S t)):=λt=>by
   rw [Fa,Fa,p7,hS,o7,s2.e,hg1,Nz]; grind
  have hk0:(Ho p:Rat)*(Ho o:Rat)≠0:=λh=>(Y3.1 h).elim (XM p6) (XM o6)
  have hpz:¬∀ t,ev (cz p) t=0:=λh'=>SV h.t (by omega) λt=>by rw [<-Fa]; exact h' t
  obtain ⟨k,hk⟩:=nmE (Fg ((Ho p:Rat)*(Ho o:Rat)));have hkn:k≠0:=λh=>hk0 (Gq.1 (by rw [<-hk]; exact h))
  have ho:o.length≠0:=by omega
  rw [o1];show ∃ l,(if o.length=0 then some [] else PX o)=some l/\l.length<=67/\_;rw [if_neg ho];have hb1:=HG (Er s2.pq.t s2.pq.n);have hll:=hRI.len;have hlv:=Qwv (c.map cz) (-Gw q);have hcl:=(Orr.chain_ok (p:=o) ⟨hpt.ot,by omega,U5 bo (by omega)⟩ r2).1;rw [Q9] at hlv;refine ⟨l,r3,by omega,hVa,λa ha=>?_⟩;obtain ⟨r,n1,n2⟩:=Qcv hSt ha hRI hVa (λz hz=>(hout _ _ hz (.inl Qp)).symm) λz _ hz=>by
   rcases Classical.em (z=-Gw q) with e | e
   ·rw [e]
   ·exact hout z _ (by grind) (.inr Qp)
  refine ⟨r,n1,?_,λt ht=>by subst ht; exact n2.1⟩;cases r with
  |
   none =>
   obtain ⟨s,hs,hz⟩:=n2;refine .inr ⟨k*s,Jf hkn hs,λc hc hac=>?_⟩;obtain ⟨y,hy⟩:=hc.hi;have h1:RS (cz q) c s:=⟨y,hy,λz z1 _=>hz z (hac z z1)⟩;rw [hk]; exact Qkk hc hk0 hpq hpz h1
  |
   some t =>
   obtain ⟨hm,hlt,s,hs,hz,hrs⟩:=n2;refine ⟨λe=>h0 (by rw [e]; rfl),hVa t hm,hlt,k*s,Jf hkn hs,λc hc hac ⟨m,m1,m2⟩=>?_,?_⟩
   ·have h1:RS (cz q) c s:=⟨m,m1,λz z1 z2=>hz z (hac z z1) (by
     rcases Classical.em (z=m) with e | e
     ·rw [e]; exact m2
     ·exact (hVa t hm).cut.mono' (q:=z) (r:=m) (by grind) (by omega))⟩
    rw [hk]; exact Qkk hc hk0 hpq hpz h1
   ·have:=Qkk (hVa t hm).cut hk0 hpq hpz hrs;rw [<-hk] at this;rw [show -(k*s)=k*-s by rw [V7]]; exact this
structure Sz (s n:Nat) (t:Tm):Prop where
 n:t.p.length<=n
 b:Bd (s+138) t.p
 g:∃ D M k,Gr D M k t.lo/\Gr D M k t.hi/\0<M/\Fe (D:Int)<=s+138/\Fe (M:Int)<=s+139/\k<=63*s+9507
theorem Qja {p:Um} (h:Cp p) {a:Tm} (ha:Va a):∃ r,SE p a=some r/\Mz p a r:=by
 obtain ⟨l,l1,_,_,l3⟩:=YQ h;obtain ⟨r,r1,r2,_⟩:=l3 a ha;refine ⟨r,?_,r2⟩;unfold SE;rw [l1]; exact r1
theorem RB:∀ (l:List Tm) (b:Tm),(∀ t∈b::l,Va t)->∃ m,QL b l=some m/\m∈b::l/\∀ t∈b::l,¬Nv t m
 |
  [],b,h=>⟨b,rfl,Qy ..,λt ht h'=>by
  rw [Qk.1 ht] at h';have hb:=(h b (Qy ..)).cut;exact Iy hb hb h' h'⟩
 |
  a::l,b,h=>by
  have ha:=h a (by simp);have hb:=h b (by simp);obtain ⟨c,c1,c2⟩:=UP ha hb;obtain ⟨m,m1,m2,m3⟩:=RB l (if c<0 then a else b) λt ht=>by
   rcases Qm.1 ht with rfl | ht
   ·split <;> assumption
   ·exact h t (by simp [ht])
  refine ⟨m,by simp only [QL]; rw [c1]; exact m1,?_,λt ht=>?_⟩
  ·rcases Qm.1 m2 with e | e
   ·rw [e]; split <;> simp
   ·simp [e]
  ·have hm:Va m:=by
    rcases Qm.1 m2 with e | e
    ·rw [e]; split <;> assumption
    ·exact h m (by simp [e])
   have hfst:=m3 _ (Qy ..);have tr:∀ x y:Tm,Va x->Va y->¬Nv x y->¬Nv y m->¬Nv x m:=λx y hx hy h1 h2 h3=>by
    rcases tri hy.cut hm.cut with h4 | h4 | h4
    ·exact h2 h4
    ·obtain ⟨q,q1,q2⟩:=h3;exact h1 ⟨q,q1,by rw [h4]; exact q2⟩
    ·obtain ⟨q,q1,q2⟩:=h3;obtain ⟨r,r1,r2⟩:=h4;have:=hm.cut.lt q2 r1;exact h1 ⟨q,q1,hy.cut.mono' this (by omega)⟩
   rcases Qm.1 ht with rfl | ht
   ·by_cases hc:c<0
    ·rw [if_pos hc] at hfst;refine tr _ a hb ha ?_ hfst;rcases c2 with ⟨_,h'⟩ | ⟨e,_⟩ | ⟨e,_⟩
     ·exact λh''=>Iy ha.cut hb.cut h' h''
     ·omega
     ·omega
    ·rw [if_neg hc] at hfst; exact hfst
   ·rcases Qm.1 ht with rfl | ht
    ·by_cases hc:c<0
     ·rw [if_pos hc] at hfst; exact hfst
     ·rw [if_neg hc] at hfst;refine tr _ b ha hb ?_ hfst;rcases c2 with ⟨e,_⟩ | ⟨_,h'⟩ | ⟨_,h'⟩
      ·omega
      ·rintro ⟨q,q1,q2⟩
       have:=h' q; omega
      ·exact λh''=>Iy ha.cut hb.cut h'' h'
    ·exact m3 t (by simp [ht])
end Orq
namespace Orr
open Go Go.Proofs Tryz Orq
set_option maxRecDepth 10000
theorem Dp.pb {p:Um} (h:Dp p):Pb p:=⟨h.t,by have:=h.l; omega,U5 h.b (by have:=h.l; omega)⟩
theorem Qxw {p:Um} {a:Tm} (hp:Dp p) (ha:Va a):Uj 180 [pr p,.agg (ta a)] [.oi (Fu a p)]:=Qmt (Dp.pb hp) ha.tb (Qkq hp ha).1
theorem Qxo {p:Um} {a:Tm} (hp:Dp p) (ha:Va a):Uj 179 [pr p,.one (.sh (ta a))] [.oi (Fu a p)]:=Ug func179 rfl [.k (Qxw hp ha)] rfl
theorem Qnu {p:Um} {fid:Nat} {l1:Ur} {sgn:Um->Int} (hp:Dp p) (h:∀ p,Dp p->AM prog fid [pr p,.one (.sh l1)] [.oi (sgn p)]):Uj 178 [pr p,.one (.fn fid [] [.sh l1])] [.oi (Tu sgn p.length p)]:=by
 have hpb:=Dp.pb hp;refine Fv func178 rfl ?_;refine Ud [.k (Ht hpb.t hpb.ln hpb.bd)] rfl ?_;refine Ui (S:=Um) 0 (λL1 s=>(0,.v (pr s))::L1) (λ_=>[]) (λs=>s.length) (λs=>Dp s/\Tu sgn s.length s=Tu sgn p.length p) p ⟨hp,rfl⟩ rfl rfl λr ⟨j1,j4⟩=>?_
 rw [<-j4];have jb:=Dp.pb j1;by_cases h0:r.length=0
 ·have e:=fF sgn h0;rw [e];exact Uf [.f (by simp; exact Qj h0)] rfl
 ·have hs:=h r j1;by_cases hz:sgn r=0
  ·have hlp:=Ng r;refine Ud [.t (by simp; omega),.k hs,.f (by simpa using hz),.k (I4 jb.ln jb.bd)] rfl ?_;exact rd (Gx r) (by omega) ⟨j1.der,by rw [<-fU sgn (by omega) hz]⟩ rfl
  ·rw [fW sgn (by omega) hz];exact Uf [.t (by simp; omega),.k hs,.t (by simpa using hz)] rfl
abbrev gmA (a:Tm) (p:Um):Int:=Hj (Fu a) p
theorem SX {p:Um} {a:Tm} (hp:Dp p) (ha:Va a):Uj 116 [pr p,.agg (ta a)] [.oi (gmA a p)] :=
 Ug func116 rfl [.k (Qnu (sgn:=Fu a) hp λ_ h=>Qxo h ha)] rfl
theorem wM {t:Tm} {a b:Pt} {ps:Un} (hps:∀ p∈ps,Dp p) (ht:Va t) (hl:ps.length<1000):Uj 208 [.agg (ta t),.agg (Fc a),.agg (Fc b),.one (.row (Pg ps))] [.one (.bool (L8 (Fu t) a b ps))]:=by
 refine Fv func208 rfl ?_;have hpl:(Pg ps).length=ps.length:=by simp [Pg]
 refine Ud [] rfl ?_;refine Ui (S:=Nat) 3 (λL1 i=>(13,.v (.oi i))::L1) (λ_=>[.blk 40 (ta t),.blk 62 (Fc a),.blk 62 (Fc b)]) (λi=>ps.length-i) (λi=>i<=ps.length/\L8 (Fu t) a b (ps.drop i)=L8 (Fu t) a b ps) 0 ⟨Qh _,rfl⟩ rfl rfl λi ⟨hi,he⟩=>?_
 rw [<-he];by_cases hlt:i<ps.length
 ·obtain ⟨p,hp⟩:=gxE (l:=ps) (i:=i) hlt;have hd:ps.drop i=p::ps.drop (i+1):=by
   rw [Zp hlt];rw [Qe hlt] at hp; injection hp with hp; rw [hp]
  have hpb:=hps p (Qc hp);rw [hd] at he ⊢;by_cases h0:0<p.length
  ·exact Uf [.t (by simp [hpl]; omega),.x (Rp hp),.t (by simp; omega),.k (SX hpb ht)] rfl (by simp only [L8]; rw [if_pos h0]) trivial
  ·refine Ue [.t (by simp [hpl]; omega),.x (Rp hp),.f (by simp; exact Qj (by omega))] rfl ?_;exact rd (i+1) (by omega) ⟨hlt,by simp only [L8]; rw [if_neg h0]⟩ rfl
 ·have hd:ps.drop i=[]:=Yv (by omega);rw [hd];exact Uf [.f (by simp [hpl]; omega)] rfl
structure Sc (k:Crv):Prop where
 n:ZA k
 c:Cs 128 3 k
theorem Sc.cb {k:Crv} (h:Sc k):Cb k:=h.c.mono (by omega) (by omega)
theorem Nb {a b:Crv} (ha:Sc a) (hb:Sc b):Cp (Gm a b):=by
 refine ⟨Fy _ _,?_,U5 (Du (Ge hb.c.x ha.c.d) (Ge ha.c.x hb.c.d)) (by omega)⟩;have:=Nh (Fw b.x a.d) (Fw a.x b.d);have:=Fx b.x a.d; have:=Fx a.x b.d; have:=ha.c.lx; have:=hb.c.lx;unfold Gm; omega
theorem Na {a b:Crv} (ha:Sc a) (hb:Sc b):Cp (Gl a b):=by
 refine ⟨Fy _ _,?_,U5 (Du (Ge hb.c.y ha.c.d) (Ge ha.c.y hb.c.d)) (by omega)⟩;have:=Nh (Fw b.y a.d) (Fw a.y b.d);have:=Fx b.y a.d; have:=Fx a.y b.d; have:=ha.c.ly; have:=hb.c.ly;unfold Gl; omega
theorem Qmu {a b:Pt} {t:Tm} (ha:Sc a.c) (hb:Sc b.c) (ht:Va t):Uj 170 [.agg (Fc a),.agg (Fc b),.agg (ta t)] [.one (.bool (Cg (Fu t) a b))] :=
 Ug func170 rfl [.k (UY hb.n ha.n hb.cb ha.cb),.k (UW hb.n ha.n hb.cb ha.cb),.k (wM (t:=t) (a:=a) (b:=b) (ps:=[Gl b.c a.c,Gm b.c a.c]) (λp hp=>by
  simp at hp;rcases hp with rfl | rfl
  ·exact (Na hb ha).dp
  ·exact (Nb hb ha).dp) ht (show 2<1000 by decide))] rfl
theorem Qeg {a b:Pt} {t:Tm} (ha:Sc a.c) (hb:Sc b.c) (ht:Va t):Uj 169 [.agg (Fc a),.agg (Fc b),.agg (ta t)] [.one (.bool (Ts (Fu t) a b))] :=
 Ug func169 rfl [.k (UW ha.n hb.n ha.cb hb.cb),.k (UY ha.n hb.n ha.cb hb.cb),.k (wM (t:=t) (a:=a) (b:=b) (ps:=[Gm a.c b.c,Gl a.c b.c]) (λp hp=>by
  simp at hp;rcases hp with rfl | rfl
  ·exact (Nb ha hb).dp
  ·exact (Na ha hb).dp) ht (show 2<1000 by decide))] rfl
theorem Qs0 (q:Rat) {P:Prop} (h:(tq q).point=false):P:=by
 have e:(tq q).point=true:=Mv.2 Qp;rw [e] at h; cases h
theorem Qvd (q:Rat):lim (tq q)=3300000:=by unfold lim; rw [if_pos (Mv.2 Rat.le_refl)]
theorem AG {q:Rat} (hq:Qs 1640000 q):Va (tq q):=by
 have hd:=q.den_nz;refine ⟨.inl ⟨rfl,?_⟩,Qal q,by show 2<=9; omega,by show 2<=2; omega,Qxh (hq.mono (by omega)),Qs0 q,Qs0 q,q.den,q.num.natAbs+1,0,?_,?_,by omega,?_⟩
 ·have e:(q.num:Rat)=q*(q.den:Rat):=by
   have:(q.num:Rat) / (((q.den:Int)):Rat)=q:=by rw [H9,Z5]
   have h2:(q.num:Rat) / (q.den:Rat)*(q.den:Rat)=q.num:=Zj (by have:=Orq.nat_pos q.den_pos; grind);rw [show (q.num:Rat) / (q.den:Rat)=q from this] at h2; exact h2.symm
  show U9 [-q.num,(q.den:Int)] q=0;simp only [U9];rw [Vm,e,show (((q.den:Int)):Rat)=(q.den:Rat) from rfl]; grind
 all_goals first | (have h1:Fe (q.den:Int)<=1640000:=hq.2; have h2:Fe ((q.num.natAbs+1:Nat):Int)<=1640001:=Qco hq.1; rw [Qvd]; omega) | skip
 all_goals
  refine ⟨⟨q.num,?_⟩,?_,q.den_pos⟩
  ·rw [Vd,Yw];have:(q.num:Rat) / (((q.den:Int)):Rat)=q:=by rw [H9,Z5]
   have h2:(q.num:Rat) / (q.den:Rat)*(q.den:Rat)=q.num:=Zj (by have:=Orq.nat_pos q.den_pos; grind);rw [show (q.num:Rat) / (q.den:Rat)=q from this] at h2; exact h2
  ·have h1:Fj q<=Fj (q.num:Rat):=by
    have e:(q.num:Rat)=q*(q.den:Rat):=by
     have:(q.num:Rat) / (((q.den:Int)):Rat)=q:=by rw [H9,Z5]
     have h2:(q.num:Rat) / (q.den:Rat)*(q.den:Rat)=q.num:=Zj (by have:=Orq.nat_pos q.den_pos; grind);rw [show (q.num:Rat) / (q.den:Rat)=q from this] at h2; exact h2.symm
    rw [e,Im];have hd1:(1:Rat)<=(q.den:Rat):=by
     have:((1:Nat):Rat)<=(q.den:Rat):=Zm.2 q.den_pos;exact this
    have e2:Fj (q.den:Rat)=(q.den:Rat):=by unfold Fj; rw [if_neg (by grind)]
    rw [e2];have:=Cu (a:=Fj q) (c:=1) (Hw q) Qp (by decide) hd1;grind
   rw [Sx] at h1;refine Zl h1 (Zm.2 (by omega))
theorem YP {p q:Um} (hp:Cp p) (hq:Cp q):Cp (Lx p q):=by unfold Lx; split <;> assumption
theorem lJ {a b:Pt} {t:Tm} (ha:Sc a.c) (hb:Sc b.c) (ht:Va t):Uj 111 [.oi 1,.agg (ta t),.one (.row [Fc a,Fc b])] [.agg (Dq (QO (Fu t) a b)),.oi 0]:=by
 have h1:=Nb ha hb;have h2:=Na ha hb;refine Fv func111 rfl ?_;refine Ud [.k Qbp,.f rfl] rfl ?_;refine Ui (S:=Nat) 3 (λL1 i=>(22,.v (.oi i))::L1) (λi=>[.blk 40 (ta t),.blk 144 zCt,.blk 144 [.int .i64 1,.int .i64 (if 1<=i then a.id else 0),.int .i64 (if 2<=i then b.id else 0),.int .i64 0,.int .i64 0,.nils,.int .i64 0]]) (λi=>2-i) (λi=>i<=2) 0 (Qh _) rfl rfl λi hi=>?_
 rcases (show i=0\/i=1\/i=2 by omega) with rfl | rfl | rfl
 ·refine Ud [.t rfl,.x (i:=0) (xs:=Fc a) rfl,.i 0] rfl ?_ (by simp [U3]);exact rd 1 (by omega) (by omega) rfl
 ·refine Ud [.t rfl,.x (i:=1) (xs:=Fc b) rfl,.i 1] rfl ?_ (by simp [U3]);exact rd 2 (by omega) (by omega) rfl
 ·exact Uf [.f rfl,.t rfl,.x (i:=0) (xs:=Fc a) rfl,.x (i:=1) (xs:=Fc b) rfl,.k (UW ha.n hb.n ha.cb hb.cb),.x (i:=0) (xs:=Fc a) rfl,.x (i:=1) (xs:=Fc b) rfl,.k (UY ha.n hb.n ha.cb hb.cb),.k wT,.k (SX (YP h1 h2).dp ht)] rfl
end Orr
namespace Orr
variable {α:Type}
def L9 (lt:α->α->Bool) (out:List α) (x:α):Nat->Nat
 | 0=>0
 |
  k+1=>match out[k]? with
  | some y=>if lt x y=true then L9 lt out x k else k+1
  | none=>k+1
theorem yI (lt:α->α->Bool) (out:List α) (x:α):∀ k,L9 lt out x k<=k
 | 0=>Ql _
 |
  k+1=>by
  simp only [L9]
  split
  ·split
   ·exact Nat.le_succ_of_le (yI lt out x k)
   ·exact Ql _
  ·exact Ql _
theorem oV {lt:α->α->Bool} {out:List α} {x y:α} {k:Nat} (hx:out[k]? = some y) (h:lt x y=true):L9 lt out x (k+1)=L9 lt out x k:=by
 simp only [L9,hx,h,if_true]
theorem rT {lt:α->α->Bool} {out:List α} {x y:α} {k:Nat} (hx:out[k]? = some y) (h:lt x y=false):L9 lt out x (k+1)=k+1:=by
 simp [L9,hx,h]
def Ly (lt:α->α->Bool) (out:List α) (x:α):List α:=out.take (L9 lt out x out.length)++x::out.drop (L9 lt out x out.length)
theorem Qie (lt:α->α->Bool) (out:List α) (x:α):(Ly lt out x).length=out.length+1:=by
 have:=yI lt out x out.length;simp [Ly]; omega
theorem FW {lt:α->α->Bool} {out:List α} {x y:α}:y∈Ly lt out x↔y=x\/y∈out:=by
 have h:y∈out↔y∈out.take (L9 lt out x out.length)\/y∈out.drop (L9 lt out x out.length):=by
  rw [<-Qr,Zh]
 simp only [Ly,Qr,Qm,h];constructor
 ·rintro (h | h | h)
  ·exact .inr (.inl h)
  ·exact .inl h
  ·exact .inr (.inr h)
 ·rintro (h | h | h)
  ·exact .inr (.inl h)
  ·exact .inl h
  ·exact .inr (.inr h)
def Ei (lt:α->α->Bool) (l:List α):List α:=l.foldl (Ly lt) []
theorem dQ (lt:α->α->Bool) (l:List α) (x:α):Ei lt (l++[x])=Ly lt (Ei lt l) x:=by simp [Ei,Vq]
theorem dZ {lt:α->α->Bool} {l:List α} {i:Nat} {x:α} (h:l[i]? = some x):Ei lt (l.take (i+1))=Ly lt (Ei lt (l.take i)) x:=by
 rw [Zv,h]; exact dQ _ _ _
theorem DC (lt:α->α->Bool):∀ (l acc:List α),(l.foldl (Ly lt) acc).length=acc.length+l.length
 | [],acc=>by simp
 | c::l,acc=>by simp only [Z9]; rw [DC lt l (Ly lt acc c),Qie]; simp; omega
theorem zL (lt:α->α->Bool) (l:List α):(Ei lt l).length=l.length:=by unfold Ei; rw [DC]; simp
theorem KI (lt:α->α->Bool):∀ (l acc:List α) {y:α},y∈l.foldl (Ly lt) acc↔y∈l\/y∈acc
 | [],acc,y=>by simp
 |
  c::l,acc,y=>by
  simp only [Z9];rw [KI lt l,FW,Qm];constructor
  ·rintro (h | h | h)
   ·exact .inl (.inr h)
   ·exact .inl (.inl h)
   ·exact .inr h
  ·rintro ((h | h) | h)
   ·exact .inr (.inl h)
   ·exact .inl h
   ·exact .inr (.inr h)
theorem Qdf {lt:α->α->Bool} {l:List α} {y:α}:y∈Ei lt l↔y∈l:=by
 unfold Ei; rw [KI]; simp
end Orr
namespace Orr
open Go Orq
structure Wt where
 c:Ct
 known:Bool
 fails:Option Tm
def f0:Option Tm->LV | none=>.row [] | some t=>pl t.p
def f1:Option Tm->LV | none=>.bool false | some t=>sg t.lo.num
def f2:Option Tm->LV | none=>.row [] | some t=>mg t.lo.num
def f3:Option Tm->LV | none=>.bool false | some t=>sg (t.lo.den:Int)
def f4:Option Tm->LV | none=>.row [] | some t=>mg (t.lo.den:Int)
def f5:Option Tm->LV | none=>.bool false | some t=>sg t.hi.num
def f6:Option Tm->LV | none=>.row [] | some t=>mg t.hi.num
def f7:Option Tm->LV | none=>.bool false | some t=>sg (t.hi.den:Int)
def f8:Option Tm->LV | none=>.row [] | some t=>mg (t.hi.den:Int)
abbrev fl (o:Option Tm):Ur:=[f0 o,f1 o,f2 o,f3 o,f4 o,f5 o,f6 o,f7 o,f8 o]
abbrev wl (w:Wt):Ur:=[.int .i64 w.c.kind,.int .i64 w.c.i0,.int .i64 w.c.i1,.int .i64 w.c.i2,.int .i64 w.c.i3,pl w.c.p,.int .i64 w.c.want,.bool w.known,.bool w.fails.isSome,f0 w.fails,f1 w.fails,f2 w.fails,f3 w.fails,f4 w.fails,f5 w.fails,f6 w.fails,f7 w.fails,f8 w.fails]
def Cd (l:List Wt):Us:=l.map λw=>wl w
theorem Hr {l:List Wt} {i:Nat} {w:Wt} (h:l[i]? = some w):(Cd l)[i]? = some (wl w):=G5 h
theorem Tp (l:List Wt):(Cd l).length=l.length:=by simp [Cd]
structure Cr where
 now:Tm
 l:List Wt
 ev:Int
abbrev Hl (c:Cr) (r0 r1:Us):Ur:=.bool true::pl c.now.p::sg c.now.lo.num::mg c.now.lo.num::sg (c.now.lo.den:Int)::mg (c.now.lo.den:Int)::sg c.now.hi.num::mg c.now.hi.num::sg (c.now.hi.den:Int)::mg (c.now.hi.den:Int)::.row (Cd c.l)::.int .i64 c.ev::[.row r0,.row r1]
structure WtOk (w:Wt):Prop where
 p:Cp w.c.p
 f:∀ t,w.fails=some t->Va t
structure CrOk (c:Cr):Prop where
 n:Va c.now
 l:∀ w∈c.l,WtOk w
 k:c.l.length<=1000
def tH (a b:Ct):Bool:=decide ([a.kind,a.i0,a.i1,a.i2,a.i3]=[b.kind,b.i0,b.i1,b.i2,b.i3])
def fresh (x:Ct):Wt:=⟨x,false,none⟩
def Co:List Wt->Ct->Tm->Option Wt
 | [],x,_=>some (fresh x)
 |
  w::l,x,at_=>if tH w.c x=true/\w.known=true/\w.c.p=x.p then
   match w.fails with
   | none=>some ⟨x,true,none⟩
   | some t=>(US t at_).bind λc=>if 0<c then some ⟨x,true,some t⟩ else Co l x at_
  else Co l x at_
def Tk (old:List Wt) (at_:Tm):List Ct->Option (List Wt)
 | []=>some []
 | x::l=>(Co old x at_).bind λw=>(Tk old at_ l).bind λr=>some (w::r)
end Orr
namespace Orr
open Go Go.Proofs Tryz Orq
set_option maxRecDepth 10000
theorem QW {T:Nat} {c:Cr} {r0 r1:Us} (hc:Va c.now):U6 prog 345 [.one (.ow 0 0)] [.blk T (Hl c r0 r1)] [.agg (ta c.now)] [.blk T (Hl c r0 r1)]:=by
 have cl:=S9 (b:=c.now) (l:=[]) hc.tb (λt ht=>by cases ht) (by decide) rfl;refine Fv func345 rfl ?_;exact Uh [] [0] [.f rfl,.k cl] rfl
theorem UV {T:Nat} {c:Cr} {r0 r1:Us} (hc:CrOk c):U6 prog 334 [.one (.ow 0 0)] [.blk T (Hl c r0 r1)] [.one (.row (U8 (Fo (c.l.map (·.c)))))] [.blk T (Hl c r0 r1)]:=by
 have hk:=hc.k;have hw:=Tp c.l;refine Fv func334 rfl ?_;refine Ud [.o 3 144 7] rfl ?_;refine Ui (S:=Nat) 2 (λL1 i=>(11,.v (.oi i))::(3,.v (.one (.orow 1 7 none)))::L1) (λi=>[.blk T (Hl c r0 r1),.row false 144 7 (U8 ((c.l.map (·.c)).take i))]) (λi=>c.l.length-i) (λi=>i<=c.l.length) 0 (Qh _) rfl rfl λi hi=>?_
 by_cases hlt:i<c.l.length
 ·obtain ⟨x,hx⟩:=gxE (l:=c.l) (i:=i) hlt;have hm:∀ y∈[Dq x.c],y.length=7:=λy hy=>by rw [Qk.1 hy]; rfl
  have hg:(c.l.map (·.c)).take (i+1)=(c.l.map (·.c)).take i++[x.c]:=by
   rw [Zv,Q8,hx]; rfl
  have hl:decide ((i:Int)<((Cd c.l).length:Int))=true:=by simp [hw]; omega
  obtain ⟨xc,xk,xf⟩:=x;cases xf <;> (refine go tt [.t hl,.x (Hr hx),.s (sz:=7) hm] rfl (by simp [U3,Pn]; omega) ?_; exact rd (i+1) (by omega) hlt (by rw [hg]; simp [U8]; rfl))
 ·obtain rfl:i=c.l.length:=by omega
  have e:(c.l.map (·.c)).take c.l.length=c.l.map (·.c):=Qn (by simp);rw [e];have cs:=HM (l:=c.l.map (·.c)) (λx hx=>by
   obtain ⟨w,hw,rfl⟩:=Za.1 hx;exact Dp.pb (hc.l w hw).p.dp) (by simp; omega)
  exact Uh [] [0] [.f (by simp [hw]),.k cs] rfl
theorem Qto {T:Nat} {c:Cr} {r0 r1:Us} {x:Ct} {at_:Tm} {w:Wt} (hc:CrOk c) (hx:Cp x.p) (ha:Va at_) (h:Co c.l x at_=some w):U6 prog 168 [.one (.ow 0 0),.agg (Dq x),.agg (ta at_)] [.blk T (Hl c r0 r1)] [.agg (wl w)] [.blk T (Hl c r0 r1)]:=by
 have hk:=hc.k;have hw:=Tp c.l;refine Fv func168 rfl ?_;refine Ud [] rfl ?_;refine Ui (S:=Nat) 4 (λL1 i=>(14,.v (.oi i))::L1) (λ_=>[.blk T (Hl c r0 r1),.blk 144 (Dq x),.blk 40 (ta at_),.blk 266 [.int .i64 0,.int .i64 0,.int .i64 0,.int .i64 0,.int .i64 0,.nils,.int .i64 0,.bool false,.bool false,.nils,.bool false,.nils,.bool false,.nils,.bool false,.nils,.bool false,.nils]]) (λi=>c.l.length-i) (λi=>i<=c.l.length/\Co (c.l.drop i) x at_=some w) 0 ⟨Qh _,h⟩ rfl rfl λi ⟨hi,hf⟩=>?_
 by_cases hlt:i<c.l.length
 ·obtain ⟨v,hv⟩:=gxE (l:=c.l) (i:=i) hlt;have hdr:c.l.drop i=v::c.l.drop (i+1):=by
   rw [Zp hlt]; congr 1;have:=Qe hlt; rw [hv] at this; injection this with this; exact this.symm
  have hvo:=hc.l v (Qc hv);rw [hdr] at hf;simp only [Co] at hf;have hl:decide ((i:Int)<((Cd c.l).length:Int))=true:=by simp [hw]; omega
  by_cases A:tH v.c x=true
  ·have A':(!decide ([v.c.kind,v.c.i0,v.c.i1,v.c.i2,v.c.i3]=[x.kind,x.i0,x.i1,x.i2,x.i3]))=false:=by
    unfold tH at A; rw [A]; rfl
   by_cases B:v.known=true
   ·have B':(!v.known)=false:=by rw [B]; rfl
    have cs:=MV (p:=v.c.p) (q:=x.p) (Dp.pb hvo.p.dp).ln (Dp.pb hx.dp).ln (Dp.pb hvo.p.dp).bd (Dp.pb hx.dp).bd;rw [hvo.p.t,hx.t] at cs;by_cases C:v.c.p=x.p
    ·have C':(!decide (v.c.p=x.p))=false:=by simp [C]
     rw [if_pos ⟨A,B,C⟩] at hf;obtain ⟨vc,vk,vf⟩:=v;cases vf with
     |
      none =>
      injection hf with hf; subst hf;exact Uh [] [0] [.t hl,.x (Hr hv),.g 24 false A',.g 29 false B',.k cs,.f C',.g 41 true rfl,.t rfl] rfl
     |
      some t =>
      obtain ⟨r,r1',hf⟩:=Qd.1 hf;have cc:=KG (hvo.f t rfl).tb ha.tb r1';by_cases D:0<r
      ·rw [if_pos D] at hf;injection hf with hf; subst hf;exact Uh [] [0] [.t hl,.x (Hr hv),.g 24 false A',.g 29 false B',.k cs,.f C',.g 41 false rfl,.k cc,.t (by simpa using D)] rfl
      ·rw [if_neg D] at hf;refine Ue [.t hl,.x (Hr hv),.g 24 false A',.g 29 false B',.k cs,.f C',.g 41 false rfl,.k cc,.f (by simpa using D)] rfl ?_;exact rd (i+1) (by omega) ⟨hlt,hf⟩ rfl
    ·rw [if_neg λh=>C h.2.2] at hf;refine Ue [.t hl,.x (Hr hv),.g 24 false A',.g 29 false B',.k cs,.t (by simp [C])] rfl ?_;exact rd (i+1) (by omega) ⟨hlt,hf⟩ rfl
   ·rw [if_neg λh=>B h.2.1] at hf;refine Ue [.t hl,.x (Hr hv),.g 24 false A',.g 29 true (by simpa using B),.t rfl] rfl ?_;exact rd (i+1) (by omega) ⟨hlt,hf⟩ rfl
  ·rw [if_neg λh=>A h.1] at hf;refine Ue [.t hl,.x (Hr hv),.g 24 true (by rw [show decide ([v.c.kind,v.c.i0,v.c.i1,v.c.i2,v.c.i3]=[x.kind,x.i0,x.i1,x.i2,x.i3])=false from Wu.2 A]; rfl),.g 29 true rfl,.t rfl] rfl ?_;exact rd (i+1) (by omega) ⟨hlt,hf⟩ rfl
 ·obtain rfl:i=c.l.length:=by omega
  rw [Yt] at hf;simp only [Co] at hf;injection hf with hf; subst hf;exact Uh [] [0] [.f (by simp [hw])] rfl
theorem XL {old:List Wt} {at_:Tm}:∀ {l:List Ct} {ws:List Wt},Tk old at_ l=some ws->ws.length=l.length/\∀ (i:Nat) (x:Ct),l[i]? = some x->∃ w,Co old x at_=some w/\ws[i]? = some w
 | [],ws,h=>by injection h with h; subst h; exact ⟨rfl,λi x hx=>by simp at hx⟩
 |
  y::l,ws,h=>by
  simp only [Tk] at h;obtain ⟨w,hw,h⟩:=Qd.1 h;obtain ⟨r,hr,h⟩:=Qd.1 h;injection h with h; subst h;obtain ⟨a,b⟩:=XL hr;refine ⟨by simp [a],λi x hx=>?_⟩;cases i with
  | zero=>injection hx with hx; subst hx; exact ⟨w,hw,rfl⟩
  | succ i=>exact b i x (by simpa using hx)
theorem Ad {l:List Wt} {i:Nat} {w:Wt} (h:l[i]? = some w):Cd (l.take (i+1))=Cd (l.take i)++[wl w]:=by
 rw [Zv,h]; simp [Cd]
theorem UK {T:Nat} {c:Cr} {r0 r1:Us} {at_:Tm} {l:List Ct} {ws:List Wt} (hc:CrOk c) (ha:Va at_) (hl:∀ x∈l,Cp x.p) (hn:l.length≤1000) (h:Tk c.l at_ (Fo l)=some ws):U6 prog 106 [.one (.ow 0 0),.agg (ta at_),.one (.bool true),.one (.row (U8 l))] [.blk T (Hl c r0 r1)] [] [.blk T (Hl ⟨at_,ws,c.ev⟩ r0 r1)]:=by
 have cs:=HM (l:=l) (λx hx=>Dp.pb (hl x hx).dp) (by omega);have cl:=S9 (b:=at_) (l:=[]) ha.tb (λt ht=>by cases ht) (by decide) rfl;obtain ⟨h1,h2⟩:=XL h;have hs:(Fo l).length=l.length:=Mx l;refine Fv func106 rfl ?_;refine Ud [.o 8 266 18,.k cs] rfl ?_;refine Ui (S:=Nat) 3 (λL1 i=>(15,.v (.oi i))::(8,.v (.one (.orow 2 18 none)))::L1) (λi=>[.blk T (Hl c r0 r1),.blk 40 (ta at_),.row false 266 18 (Cd (ws.take i))]) (λi=>ws.length-i) (λi=>i<=ws.length) 0 (Qh _) rfl rfl λi hi=>?_
 by_cases hlt:i<ws.length
 ·obtain ⟨x,hx⟩:=gxE (l:=(Fo l)) (i:=i) (by omega);obtain ⟨w,hw,hw'⟩:=h2 i x hx;have hm:∀ y∈[wl w],y.length=18:=λy hy=>by rw [Qk.1 hy]; rfl
  have hlt':decide ((i:Int)<((U8 (Fo l)).length:Int))=true:=by simp [U8]; omega
  have ck:=Qto (T:=T) (r0:=r0) (r1:=r1) hc (hl x (Tc (Qc hx))) ha hw;have hg:=Ad hw';obtain ⟨wc,wk,wf⟩:=w;cases wf <;> (refine go tt [.t hlt',.x (XJ hx),.t rfl,.c [0] ck,.s (sz:=18) hm] rfl (by simp [U3,Tp]; omega) ?_; exact rd (i+1) (by omega) hlt (by rw [hg]; rfl))
 ·obtain rfl:i=ws.length:=by omega
  rw [Q6];have hge:decide ((ws.length:Int)<((U8 (Fo l)).length:Int))=false:=by simp [U8]; omega
  exact Uh [] [0] [.f hge,.p 2,.k cl] rfl
abbrev mP (r0 r1:LV):Ur:=[.bool false,.nils,.bool false,.nils,.bool false,.nils,.bool false,.nils,.bool false,.nils,.nils,.int .i64 0,r0,r1]
theorem Qm4 {T:Nat} {r0 r1:Us} {at_:Tm} {l:List Ct} (ha:Va at_) (hl:∀ x∈l,Cp x.p) (hn:l.length≤1000):U6 prog 106 [.one (.ow 0 0),.agg (ta at_),.one (.bool false),.one (.row (U8 l))] [.blk T (mP (.row r0) (.row r1))] [] [.blk T (Hl ⟨at_,(Fo l).map fresh,0⟩ r0 r1)]:=by
 have cs:=HM (l:=l) (λx hx=>Dp.pb (hl x hx).dp) (by omega);have cl:=S9 (b:=at_) (l:=[]) ha.tb (λt ht=>by cases ht) (by decide) rfl;have hs:(Fo l).length=l.length:=Mx l;refine Fv func106 rfl ?_;refine Ud [.o 8 266 18,.k cs] rfl ?_;refine Ui (S:=Nat) 3 (λL1 i=>(15,.v (.oi i))::(8,.v (.one (.orow 2 18 none)))::L1) (λi=>[.blk T (mP (.row r0) (.row r1)),.blk 40 (ta at_),.row false 266 18 (Cd (((Fo l).map fresh).take i))]) (λi=>l.length-i) (λi=>i<=l.length) 0 (Qh _) rfl rfl λi hi=>?_
 by_cases hlt:i<l.length
 ·obtain ⟨x,hx⟩:=gxE (l:=(Fo l)) (i:=i) (by omega);have hm:∀ y∈[wl (fresh x)],y.length=18:=λy hy=>by rw [Qk.1 hy]; rfl
  have hlt':decide ((i:Int)<((U8 (Fo l)).length:Int))=true:=by simp [U8]; omega
  have hg:=Ad (l:=(Fo l).map fresh) (i:=i) (w:=fresh x) (by rw [Q8,hx]; rfl);refine go tt [.t hlt',.x (XJ hx),.z 20,.f rfl,.s (sz:=18) hm] rfl (by simp [U3,Tp]; omega) ?_;exact rd (i+1) (by omega) hlt (by rw [hg]; rfl)
 ·obtain rfl:i=l.length:=by omega
  rw [Qn (by simp; omega)];have hge:decide ((l.length:Int)<((U8 (Fo l)).length:Int))=false:=by simp [U8]; omega
  exact Uh [] [0] [.f hge,.p 2,.k cl] rfl
theorem YK {T:Nat} {r0 r1:Us} {at_:Tm} {l:List Ct} (ha:Va at_) (hl:∀ x∈l,Cp x.p) (hn:l.length≤1000):U6 prog 70 [.one (.ow 0 0),.agg (ta at_),.one (.row (U8 l))] [.blk T (mP (.row r0) (.row r1))] [] [.blk T (Hl ⟨at_,(Fo l).map fresh,0⟩ r0 r1)]:=by
 have cl:=Qm4 (T:=T) (r0:=r0) (r1:=r1) ha hl hn;refine Fv func70 rfl ?_;exact Uh [] [0] [.g 12 false rfl,.c [0] cl] rfl
theorem eB {a b:Bool} (h:a=b):TV.one (LV.bool a)=.one (.bool b):=h ▸ rfl
theorem YW {T:Nat} {c:Cr} {r0 r1:Us} {at_:Tm} {l:List Ct} {ws:List Wt} {k:Int} (hc:CrOk c) (ha:Va at_) (hk:US at_ c.now=some k) (h0:0≤k) (hl:∀ x∈l,Cp x.p) (hn:l.length≤1000) (h:Tk c.l at_ (Fo l)=some ws):U6 prog 70 [.one (.ow 0 0),.agg (ta at_),.one (.row (U8 l))] [.blk T (Hl c r0 r1)] [] [.blk T (Hl ⟨at_,ws,c.ev⟩ r0 r1)]:=by
 have cl:=UK (T:=T) (r0:=r0) (r1:=r1) hc ha hl hn h;have cc:=KG ha.tb hc.n.tb hk;refine Fv func70 rfl ?_;exact Uh [] [0] [.g 12 true rfl,.k cc,.r 20 (eB (show decide (0<=k)=true by simpa using h0)),.c [0] cl] rfl
theorem ME:∀ {k:Nat} {g:Um} {l:Un},Pb g->RN k g=some l->l.length≤k/\∀ p∈l,Pb p
 | 0,_,_,_,h=>by cases h
 |
  k+1,g,l,hg,h=>by
  simp only [RN] at h
  split at h
  ·injection h with h; subst h; exact ⟨by simp,λp hp=>by cases hp⟩
  ·obtain ⟨d,hd,h⟩:=Qd.1 h;obtain ⟨rfl,hdp⟩:=LO hd;obtain ⟨x,hx,h⟩:=Qd.1 h;obtain ⟨q,hq,h⟩:=Qd.1 h;obtain ⟨r,hr,h⟩:=Qd.1 h;injection h with h; subst h;obtain ⟨i1,i2⟩:=ME (TJ hg hdp hx) hr;refine ⟨by simp; exact i1,λp hp=>?_⟩;rcases Qm.1 hp with rfl | hp
   ·exact bG hq
   ·exact i2 p hp
theorem Qfz {a:Um} {l:Un} (ha:Pb a) (h:RN 66 (Fi a)=some l):Uj 358 [pr a] [.one (.row (Pg l))]:=by
 have hp:=Ry ha;refine Fv func358 rfl ?_;refine Ud [.o 3 33 1,.k (Ib ha)] rfl ?_;refine Ui (S:=Nat×Un×Um) 1 (λL1 s=>(4,.v (pr s.2.2))::(3,.v (.one (.orow 0 1 none)))::L1) (λs=>[.row false 33 1 (Pg s.2.1)]) (λs=>s.1) (λs=>Pb s.2.2/\s.2.1.length+s.1<=66/\∃ m,RN s.1 s.2.2=some m/\s.2.1++m=l) (66,[],Fi a) ⟨hp,Ql _,l,h,rfl⟩ rfl rfl λ⟨k,out,g⟩ ⟨j1,j2,m,j3,j4⟩=>?_
 dsimp only at j1 j2 j3 j4 ⊢;cases k with
 | zero=>cases j3
 |
  succ k =>
  simp only [RN] at j3
  split at j3
  ·rename_i h0;injection j3 with j3; subst j3;rw [Zw] at j4;subst j4;exact Uf [.k (Ma _),.f (by simp; omega)] rfl
  ·rename_i h0;obtain ⟨d,hd,j3⟩:=Qd.1 j3;obtain ⟨rfl,hdp⟩:=LO hd;obtain ⟨x,hx,j3⟩:=Qd.1 j3;obtain ⟨q,hq,j3⟩:=Qd.1 j3;obtain ⟨r,hr,j3⟩:=Qd.1 j3;injection j3 with j3; subst j3;have hxp:=TJ j1 hdp hx;refine go tt [.k (Ma _),.t (by simp; omega),.k (I4 j1.ln j1.bd),.k (lI j1 hdp hx),.k (Qgb j1 hxp hq),.s (sz:=1) (l:=[[pl q]]) (λc hc=>by rw [Qk.1 hc]; rfl)] rfl (by simp [U3,Aa]; omega) ?_;exact rd (k,out++[q],x) (by dsimp only; omega) ⟨hxp,by simp; omega,r,hr,by rw [<-j4]; simp⟩ (by rw [EY]; rfl)
theorem DV:∀ {l r:Un},AA l=some r->r.length=l.length/\∀ i w,l[i]? = some w->(match l[i+1]? with | some v=>∃ f,JS w v=some f/\r[i]? = some f | none=>r[i]? = some w)
 | [],r,h=>by injection h with h; subst h; exact ⟨rfl,λi w hw=>by simp at hw⟩
 |
  [w],r,h=>by
  injection h with h; subst h;refine ⟨rfl,λi x hx=>?_⟩;cases i with
  | zero=>simpa using hx
  | succ i=>simp at hx
 |
  w::v::l,r,h=>by
  simp only [AA] at h;obtain ⟨f,hf,h⟩:=Qd.1 h;obtain ⟨s,hs,h⟩:=Qd.1 h;injection h with h; subst h;obtain ⟨i1,i2⟩:=DV hs;refine ⟨by simp [i1],λi x hx=>?_⟩;cases i with
  |
   zero =>
   injection hx with hx; subst hx;exact ⟨f,hf,rfl⟩
  |
   succ i =>
   have:=i2 i x (by simpa using hx);simpa using this
theorem jP:∀ {l r:Un},(∀ p∈l,Pb p)->AA l=some r->∀ p∈r,Pb p
 | [],r,_,h=>by injection h with h; subst h; exact λp hp=>by cases hp
 | [w],r,hl,h=>by injection h with h; subst h; exact hl
 |
  w::v::l,r,hl,h=>by
  simp only [AA] at h;obtain ⟨f,hf,h⟩:=Qd.1 h;obtain ⟨s,hs,h⟩:=Qd.1 h;injection h with h; subst h;intro p hp;rcases Qm.1 hp with rfl | hp
  ·exact bG hf
  ·exact jP (λp hp=>hl p (Qg _ hp)) hs p hp
theorem Qba {a:Um} {l r:Un} (ha:Pb a) (h:RN 66 (Fi a)=some l) (hr:AA l=some r):Uj 353 [pr a] [.one (.row (Pg r))]:=by
 obtain ⟨i1,i2⟩:=ME (Ry ha) h;obtain ⟨j1,j2⟩:=DV hr;have hw:=Aa l;refine Fv func353 rfl ?_;refine go tt [.k (Qfz ha h),.i (Pg l).length,.i (Pg l).length] rfl (by simp [U3,hw]; omega) ?_;rw [hw,Ak λi=>[pl (r.getD i [])]];refine Ui (S:=Nat) 1 (λL1 k=>(14,.v (.oi k))::L1) (λk=>[.row false 33 1 (AS (λi=>[pl (r.getD i [])]) [.nils] l.length k)]) (λk=>l.length-k) (λk=>k<=l.length) 0 (Qh _) rfl rfl λk hk=>?_
 by_cases hlt:k<l.length
 ·obtain ⟨w,hx⟩:=gxE (l:=l) (i:=k) hlt;have e:=QN (λi=>[pl (r.getD i [])]) [.nils] hlt;have hg:=j2 k w hx;by_cases h2:k+1<l.length
  ·obtain ⟨v,hv⟩:=gxE (l:=l) (i:=k+1) h2;rw [hv] at hg;obtain ⟨f,f1,f2⟩:=hg;have e2:r.getD k []=f:=by rw [Qi,f2]; rfl
   rw [e2] at e;refine go tt [.t (by simp [hw]; omega),.x (Rp hx),.i k,.t (by simp [hw]; omega),.x (i:=k+1) (Rp hv),.k (Qgb (i2 w (Qc hx)) (i2 v (Qc hv)) f1),.i k] rfl (by simp [U3,Ik,hw]; omega) ?_;rw [List.set_set,e];exact rd (k+1) (by omega) hlt rfl
  ·have hv:l[k+1]? = none:=Qw (by omega);rw [hv] at hg;have e2:r.getD k []=w:=by rw [Qi,hg]; rfl
   rw [e2] at e;refine go tt [.t (by simp [hw]; omega),.x (Rp hx),.i k,.f (by simp [hw]; omega)] rfl (by simp [U3,Ik,hw]; omega) ?_;rw [e];exact rd (k+1) (by omega) hlt rfl
 ·obtain rfl:k=l.length:=by omega
  have e:AS (λi=>[pl (r.getD i [])]) [.nils] l.length l.length=Pg r:=by
   rw [QM,<-j1];refine Xl λi=>?_
   simp only [Pg,Q8];by_cases hi:i<r.length
   ·rw [X2 hi]; simp [Qi,Qe hi]
   ·rw [Qw (by simpa using hi),Qw (by simpa using hi)]; rfl
  rw [e];exact Uf [.f (by simp [hw])] rfl
theorem bL {p:Um} (tp:Ff p):Fi (Fi p)=Fi p:=by
 by_cases h:p.length=0
 ·have e:Fi p=[]:=by unfold Fi; rw [if_pos h]
  rw [e]; rfl
 ·obtain ⟨h1,h2,h3,h4,_⟩:=Cx tp h;have hc:Pj (Fi p)=1:=by
   have h5:Pj (Fi p)∣1:=h3 _ λk=>by
    by_cases hk:k<(Fi p).length
    ·rw [Qi,Qe hk]; exact E9 _ (Xt hk)
    ·rw [Qi,Qw (by omega)]; exact Int.dvd_zero _
   have h6:0<=Pj (Fi p):=by unfold Pj; omega
   exact Int.eq_one_of_dvd_one h6 h5
  have hf:∀ q:Um,0<Fq q->Ho q=Pj q:=λq hq=>by unfold Ho; rw [if_neg (by omega)]
  have hf:=(hf _ h4).trans hc;have e0:∀ q:Um,q.length≠0->Fi q=De q (Ho q):=λq hq=>by unfold Fi; rw [if_neg hq]
  have e:=e0 (Fi p) (by omega);rw [hf] at e;rw [e];unfold De;have e2:(Fi p).map (· / (1:Int))=Fi p:=by
   conv=>rhs; rw [<-List.map_id (Fi p)]
   exact Xq λz _=>by simp
  rw [e2];exact h1
theorem Qai (i:Nat):(i:Int).tmod 2=((i % 2:Nat):Int):=rfl
theorem Qtu {a:Um} (ha:Pb a) (h:(Fi a).length=0):Uj 349 [pr a] [pr []] :=
 Ug func349 rfl [.k (Ib ha),.t (by simp [Qj h])] rfl
theorem YO:∀ {l:Un} {i:Nat} {p o:Um},Pb p->(∀ f∈l,Pb f)->FD i p l=some o->Pb o
 | [],i,p,o,hp,_,h=>by simp only [FD] at h; injection h with h; subst h; exact hp
 |
  f::l,i,p,o,hp,hl,h=>by
  simp only [FD] at h
  split at h
  ·obtain ⟨q,hq,h⟩:=Qd.1 h;obtain ⟨rfl,hq'⟩:=QR (Hz _ _) hq;exact YO hq' (λf hf=>hl f (Qg _ hf)) h
  ·exact YO hp (λf hf=>hl f (Qg _ hf)) h
theorem Qjp:Pb [1]:=⟨rfl,by decide,λz hz=>by rw [Qk.1 hz]; decide⟩
theorem Qxt {a o:Um} (ha:Pb a) (h:bN a=some o):Uj 349 [pr a] [pr o]:=by
 unfold bN at h
 split at h
 ·rename_i h0;injection h with h; subst h;exact Qtu ha h0
 rename_i h0;obtain ⟨l,hl,h⟩:=Qd.1 h;obtain ⟨fs,hf,h⟩:=Qd.1 h;have hpa:=Ry ha;have hl':RN 66 (Fi (Fi a))=some l:=by rw [bL ha.t]; exact hl
 obtain ⟨i1,i2⟩:=ME (Ry ha) hl;have i3:=jP i2 hf;obtain ⟨j1,_⟩:=DV hf;have hw:=Aa fs;have co:=lK (p:=[1]) (by decide) (λz hz=>by rw [Qk.1 hz]; decide);rw [show trim [1]=[1] from rfl] at co;refine Fv func349 rfl ?_;refine Ud [.k (Ib ha),.f (by simpa using h0),.k co,.k (Qba hpa hl' hf)] rfl ?_ (by simp [U3]);refine Ui (S:=Nat×Um) 0 (λL1 s=>(16,.v (.oi (s.1:Int)))::(3,.v (pr s.2))::L1) (λ_=>[]) (λs=>fs.length-s.1) (λs=>s.1<=fs.length/\Pb s.2/\FD s.1 s.2 (fs.drop s.1)=some o) (0,[1]) ⟨Qh _,Qjp,h⟩ rfl rfl λ⟨i,p⟩ ⟨k1,k2,k3⟩=>?_
 dsimp only at k1 k2 k3 ⊢;by_cases hlt:i<fs.length
 ·obtain ⟨f,hx⟩:=gxE (l:=fs) (i:=i) hlt;have hdr:fs.drop i=f::fs.drop (i+1):=by
   rw [Zp hlt]; congr 1;have:=Qe hlt; rw [hx] at this; injection this with this; exact this.symm
  rw [hdr] at k3;simp only [FD] at k3;have pf:=i3 f (Qc hx);by_cases h2:i % 2=0
  ·rw [if_pos h2] at k3;obtain ⟨q,hq,k3⟩:=Qd.1 k3;obtain ⟨rfl,hq'⟩:=QR (Hz _ _) hq;refine Ue [.t (by simp [hw]; omega),.x (Rp hx),.t (by rw [Qai,h2]; rfl),.k (KP k2.t pf.t (Z3 k2.l (by decide)) (Z3 pf.l (by decide)) k2.b pf.b (by decide))] rfl ?_;exact rd (i+1,Gk p f) (by dsimp only; omega) ⟨hlt,hq',k3⟩ rfl
  ·rw [if_neg h2] at k3;refine Ue [.t (by simp [hw]; omega),.x (Rp hx),.f (by rw [Qai,show i % 2=1 by omega]; rfl)] rfl ?_;exact rd (i+1,p) (by dsimp only; omega) ⟨hlt,k2,k3⟩ rfl
 ·obtain rfl:i=fs.length:=by omega
  rw [Yt] at k3;simp only [FD] at k3;injection k3 with k3; subst k3;exact Uf [.f (by simp [hw])] rfl
theorem QC (z:Int):Fe (z.natAbs:Int)=Fe z:=by unfold Fe; simp
theorem Qfq {x y:LV} {z:Int} (hi:Gd x y z) (hs:Fe z<=4294967295):Uj 354 [.agg [x,y]] [.agg (G8 (z.natAbs:Int))]:=by
 obtain ⟨b,l,rfl,rfl,hl,rfl⟩:=hi;have e:(Fb false (val l))=((Fb b (val l)).natAbs:Int):=by rw [Ru]; rfl
 rw [<-e];exact Ug func354 rfl [.k (KH hl (Qa (Py hs) (by decide))),.k (P5 _ _)] rfl
theorem Qn5 {n d:Int} (h0:d≠0) (hn:Fe n<=4294967295) (hd:Fe d<=4294967295):Uj 355 [.agg (G8 n),.agg (G8 d)] [.agg (rl (Rat.divInt n d)),.oi 0] :=
 Ug func355 rfl [.k (Mm (U4 d) hd),.k Dl,.f (by simpa using h0),.k (Mm (U4 n) hn),.k (XZ h0 hn hd)] rfl
theorem Qcs (l:Um) (z:Int):most (l++[z])=if most l<z.natAbs then z.natAbs else most l:=by unfold most; rw [List.foldl_append]; rfl
theorem iF {s:Nat}:∀ {l:Um},Bd s l->Fe (most l:Int)<=s:=λ{l}=>by
 suffices h:∀ (l:Um) (m:Nat),Bd s l->Fe (m:Int)<=s->Fe ((l.foldl (λm z=>if m<z.natAbs then z.natAbs else m) m:Nat):Int)<=s from λhb=>h l 0 hb (by simp [Fe,sz])
 intro l
 induction l with
 | nil=>exact λm _ h=>h
 |
  cons z l ih =>
  intro m hb hm;refine ih _ (λy hy=>hb y (Qg _ hy)) ?_;show Fe ((if m<z.natAbs then z.natAbs else m:Nat):Int)<=s
  split
  ·rw [QC]; exact hb z (Qy ..)
  ·exact hm
def ozi:Option Nat->Ur
 | none=>[.bool false,.nils]
 | some m=>G8 (m:Int)
def ozr:Option Nat->Ur
 | none=>[.bool false,.row []]
 | some m=>G8 (m:Int)
theorem Qmw {p:Um} (hp:Pb p) (h0:p.length≠0):Uj 350 [pr p] [.agg (rl (Gw p)),.oi 0]:=by
 have hl:=hp.l;have hll:(p.take (p.length-1)).length=p.length-1:=by simp
 have hbt:Bd 16777216 (p.take (p.length-1)):=λz hz=>hp.b z (Qo hz)
 refine Fv func350 rfl ?_;refine Ue [.k (Ht hp.t hp.ln hp.bd),.f (by simpa using h0),.r 18 (eI (b:=((p.length-1:Nat):Int)) (by simp; omega)),.i (p.length-1)] rfl ?_;rw [<-Jv];refine Ui (S:=Nat×Option Nat) 2 (λL1 s=>(21,.v (.oi (s.1:Int)))::L1) (λs=>[.blk 38 [.bool false,.nils,.bool false,.nils],.blk 36 (ozi s.2)]) (λs=>p.length-1-s.1) (λs=>s.1<=p.length-1/\most ((p.take (p.length-1)).take s.1)=s.2.getD 0) (0,none) ⟨Qh _,rfl⟩ rfl rfl λ⟨i,o⟩ ⟨j1,j2⟩=>?_
 dsimp only at j1 j2 ⊢;by_cases hlt:i<p.length-1
 ·obtain ⟨z,hz⟩:=gxE (l:=(p.take (p.length-1))) (i:=i) (by omega);have bz:Fe z<=16777216:=hbt z (Qc hz);have hst:most ((p.take (p.length-1)).take (i+1))=if o.getD 0<z.natAbs then z.natAbs else o.getD 0:=by
   rw [Zv,hz]; show most (_++[z])=_; rw [Qcs,j2]
  have ca:=Qfq (U4 z) (Qa bz (by decide));have hl1:decide ((i:Int)<(((p.take (p.length-1)).map G8).length:Int))=true:=by simp; omega
  have bm:Fe ((o.getD 0:Nat):Int)<=16777216:=by rw [<-j2]; exact iF λy hy=>hbt y (Qo hy)
  have hcm:Lb (z.natAbs:Int) ((o.getD 0:Nat):Int)>0↔o.getD 0<z.natAbs:=by unfold Lb; split <;> (try split) <;> omega
  have cc:Uj 99 [.agg (G8 (z.natAbs:Int)),.agg (ozr o)] [.oi (Lb (z.natAbs:Int) ((o.getD 0:Nat):Int))]:=by
   cases o with
   | none=>exact HN (U4 _) QB (by rw [QC]; omega) (by decide)
   | some m=>exact HN (U4 _) (U4 _) (by rw [QC]; omega) (Qa bm (by decide))
  by_cases hc:o.getD 0<z.natAbs
  ·rw [if_pos hc] at hst;have hd:decide (Lb (z.natAbs:Int) ((o.getD 0:Nat):Int)>0)=true:=by simpa using hcm.2 hc
   cases o <;> (refine Ue [.t hl1,.x (G5 (f:=G8) hz),.k ca,.k cc,.t hd] rfl ?_; exact rd (i+1,some z.natAbs) (by dsimp only; omega) ⟨hlt,hst⟩ rfl)
  ·rw [if_neg hc] at hst;have hd:decide (Lb (z.natAbs:Int) ((o.getD 0:Nat):Int)>0)=false:=by
    have:=mt hcm.1 hc; simpa using this
   cases o with
   | none=>refine Ue [.t hl1,.x (G5 (f:=G8) hz),.k ca,.k cc,.f hd] rfl ?_; exact rd (i+1,none) (by dsimp only; omega) ⟨hlt,hst⟩ rfl
   | some m=>refine Ue [.t hl1,.x (G5 (f:=G8) hz),.k ca,.k cc,.f hd] rfl ?_; exact rd (i+1,some m) (by dsimp only; omega) ⟨hlt,hst⟩ rfl
 ·obtain rfl:i=p.length-1:=by omega
  rw [Qn (by omega)] at j2;have bl:Fe (Fq p)<=16777216:=hp.b _ (LK h0);have ln:((Fq p).natAbs:Int)≠0:=by have:=Er hp.t h0; omega
  have cl:=Dv hp.t hp.ln hp.bd;have ca:=Qfq (U4 (Fq p)) (Qa bl (by decide));have bm:Fe ((o.getD 0:Nat):Int)<=16777216:=by rw [<-j2]; exact iF hbt
  have cd:Uj 244 [.agg (G8 ((Fq p).natAbs:Int)),.agg (ozr o)] [.agg (G8 (((Fq p).natAbs:Int)+(most (p.take (p.length-1)):Int)))]:=by
   rw [j2];cases o with
   | none=>exact KN (U4 _) QB (by rw [QC]; omega) (by decide)
   | some m=>exact KN (U4 _) (U4 _) (by rw [QC]; omega) (Qa bm (by decide))
  have cm:=Qn5 (n:=((Fq p).natAbs:Int)+(most (p.take (p.length-1)):Int)) ln (Qa (QD _ _) (by rw [QC,j2]; omega)) (by rw [QC]; omega);have hf:decide (((p.length-1:Nat):Int)<(((p.take (p.length-1)).map G8).length:Int))=false:=by simp
  cases o <;> exact Uf [.f hf,.k cl,.k ca,.k cd,.k cm] rfl
theorem Qrv {z:Int}:Uj 332 [.agg (G8 z)] [.oi (Int.sign z)]:=by
 by_cases h0:z=0
 ·subst h0;exact Ug func332 rfl [.t (by simp [U7,Hb])] rfl
 ·have hl:(Gb z.natAbs).length≠0:=λh=>h0 (Qcq.1 h)
  have hl':decide (((lm (Gb z.natAbs)).length:Int)=0)=false:=by simpa [U7] using hl
  by_cases h1:z<0
  ·rw [J7 h1];exact Ug func332 rfl [.f hl',.t (by simpa using h1)] rfl
  ·rw [Yu (by omega)];exact Ug func332 rfl [.f hl',.f (by simpa using h1)] rfl
theorem Qem {p:Um} (hp:Pb p):Uj 360 [pr p] [.oi (ZP p),.oi (UI p)]:=by
 have hb:-1<=(Fq p).sign/\(Fq p).sign<=1:=by rcases A0 (Fq p) with h | h | h <;> omega
 by_cases h:p.length % 2=0
 ·have e:ZP p=-(Fq p).sign:=by unfold ZP; rw [if_pos h]
  rw [e];exact Ug func360 rfl [.k (Ht hp.t hp.ln hp.bd),.k (Dv hp.t hp.ln hp.bd),.k Qrv,.t (by rw [Qai]; simp [h])] rfl rfl (by simp [U3,Fq] at hb ⊢; omega)
 ·have e:ZP p=(Fq p).sign:=by unfold ZP; rw [if_neg h]
  rw [e];exact Ug func360 rfl [.k (Ht hp.t hp.ln hp.bd),.k (Dv hp.t hp.ln hp.bd),.k Qrv,.f (by rw [Qai]; simp; omega)] rfl rfl (by simp [U3])
theorem Qf1 {p:Um} (hp:Pb p):Uj 359 [pr p] [.oi (ZP p)]:=Ug func359 rfl [.k (Qem hp)] rfl
theorem Qn3 {p:Um} (hp:Pb p):Uj 361 [pr p] [.oi (UI p)]:=Ug func361 rfl [.k (Qem hp)] rfl
theorem Qgc {q:Rat} (hq:Qs 4294967295 q):Uj 153 [.agg (rl q)] [.agg (rl (-q))]:=by
 exact Ug func153 rfl [.k (CQ hq),.k (BG (U4 _) hq.1)] rfl
theorem wC {l:Un} {fid:Nat} {sg:Um->Int} (hl:l.length≤1000) (hs:∀ p,-1≤sg p/\sg p≤1) (h:∀ p∈l,AM prog fid [pr p] [.oi (sg p)]):Uj 277 [.one (.sh [.row (Pg l)]),.one (.fn fid [] [])] [.oi (C7 sg l:Nat)]:=by
 have hpl:=Aa l;refine Fv func277 rfl ?_;refine Ud [] rfl ?_;refine Ui (S:=Nat) 0 (λL1 i=>(15,.v (.oi i))::(5,.v (.oi ((VL sg l i).1:Int)))::(6,.v (.one (.int .i64 (VL sg l i).2)))::L1) (λ_=>[]) (λi=>l.length-i) (λi=>i<=l.length) 0 (Qh _) rfl rfl λi hi=>?_
 by_cases hlt:i<l.length
 ·obtain ⟨p,hp⟩:=gxE (l:=l) (i:=i) hlt;have hst:VL sg l (i+1)=Pw sg (VL sg l i) p:=Sf _ _ _ hp;obtain ⟨b1,b2,b3⟩:=vD hs l i;have b4:=hs p;by_cases h0:sg p=0
  ·refine Ue [.t (by simp [hpl]; omega),.x (Rp hp),.k (h p (Qc hp)),.t (by simpa using h0)] rfl ?_;exact rd (i+1) (by omega) hlt (by rw [hst,show Pw sg (VL sg l i) p=VL sg l i from by unfold Pw; rw [if_pos h0]]; rfl)
  ·by_cases h1:(VL sg l i).2=-(sg p)
   ·refine Ue [.t (by simp [hpl]; omega),.x (Rp hp),.k (h p (Qc hp)),.f (by simpa using h0),.t (by simpa using h1)] rfl ?_;exact rd (i+1) (by omega) hlt (by rw [hst,show Pw sg (VL sg l i) p=((VL sg l i).1+1,sg p) from by unfold Pw; rw [if_neg h0,if_pos h1]]; rfl)
   ·refine Ue [.t (by simp [hpl]; omega),.x (Rp hp),.k (h p (Qc hp)),.f (by simpa using h0),.f (by simpa using h1)] rfl ?_;exact rd (i+1) (by omega) hlt (by rw [hst,show Pw sg (VL sg l i) p=((VL sg l i).1,sg p) from by unfold Pw; rw [if_neg h0,if_neg h1]]; rfl)
 ·obtain rfl:i=l.length:=by omega
  refine Uf [.f (by simp [hpl])] rfl ?_ trivial;unfold VL C7; rw [List.take_length]
theorem RX (p:Um):(-1<=ZP p/\ZP p<=1)/\-1<=UI p/\UI p<=1:=by
 have hb:-1<=(Fq p).sign/\(Fq p).sign<=1:=by rcases A0 (Fq p) with h | h | h <;> omega
 unfold ZP UI
 split <;> omega
theorem Qmy {l:Un} (hl:l.length≤1000) (hp:∀ p∈l,Pb p):Uj 352 [.one (.sh [.row (Pg l)])] [.oi (JC l)]:=by
 have c1:Uj 356 [.one (.sh [.row (Pg l)])] [.oi (C7 ZP l:Nat)] :=
  Ug func356 rfl [.k (wC hl (λp=>(RX p).1) λp h=>Qf1 (hp p h))] rfl
 have c2:Uj 357 [.one (.sh [.row (Pg l)])] [.oi (C7 UI l:Nat)] :=
  Ug func357 rfl [.k (wC hl (λp=>(RX p).2) λp h=>Qn3 (hp p h))] rfl
 have b1:C7 ZP l<=l.length:=Lv (λp=>(RX p).1) l;have b2:C7 UI l<=l.length:=Lv (λp=>(RX p).2) l;exact Ug func352 rfl [.k c1,.k c2] rfl rfl (by simp [U3]; omega)
theorem pT {l:Un} {lo hi:Rat} (hl:l.length<=1000):-1000<=Tq l lo hi/\Tq l lo hi<=1000:=by
 have b1:C9 l lo<=l.length:=Lv (λp=>O1 p lo) l;have b2:C9 l hi<=l.length:=Lv (λp=>O1 p hi) l;unfold Tq; split <;> omega
abbrev tal (l:List Tm):Us:=l.map λt=>ta t
theorem NV {p:Um} {c:Un} (hp:Pb p):∀ {k:Nat} {lo hi:Rat} {n:Int} {r:List Tm},Qb lo->Qb hi->Ax p c k lo hi n=some r->∀ t∈r,Tb t
 | 0,_,_,_,_,_,_,h=>by cases h
 |
  k+1,lo,hi,n,r,hl,hh,h=>by
  simp only [Ax] at h
  split at h
  ·injection h with h; subst h; exact λt ht=>by cases ht
  ·split at h
   ·injection h with h; subst h;intro t ht; rw [Qk.1 ht]; exact ⟨hp,hl,hh⟩
   ·obtain ⟨m,hm,h⟩:=Qd.1 h;obtain ⟨rfl,qm⟩:=CY hm;obtain ⟨x,hx,h⟩:=Qd.1 h;obtain ⟨y,hy,h⟩:=Qd.1 h;injection h with h; subst h;intro t ht;rcases Qr.1 ht with ht | ht
    ·exact NV hp hl qm hx t ht
    ·exact NV hp qm hh hy t ht
theorem Qwn (l:List Tm):∀ c∈tal l,c.length=9:=λc hc=>by obtain ⟨t,_,rfl⟩:=Za.1 hc; rfl
theorem mF {p:Um} {c:Un} (hp:Pb p) (hcl:c.length≤1000) (hc:∀ q∈c,Pb q):∀ {k:Nat} {lo hi:Rat} {n:Int} {r:List Tm},Qb lo->Qb hi->k≤100000->-(1000*(100001-k:Nat))≤n/\n≤1000*(100001-k:Nat)->Ax p c k lo hi n=some r->r.length≤1000000->U6 prog 351 [pr p,.one (.sh [.row (Pg c)]),.agg (rl lo),.agg (rl hi),.oi n] [] [.one (.orow 0 9 none)] [.row false 40 9 (tal r)]
 | 0,_,_,_,_,_,_,_,_,h,_=>by cases h
 |
  k+1,lo,hi,n,r,hl,hh,hk,hn,h,hr=>by
  simp only [Ax] at h
  split at h
  ·rename_i h0;injection h with h; subst h;refine Fv func351 rfl ?_;exact Uh [] [2] [.t (by simpa using h0),.o 10 40 9] rfl
  ·rename_i h0
   split at h
   ·rename_i h1;injection h with h; subst h;refine Fv func351 rfl ?_;exact Uh [] [2] [.f (by simpa using h0),.t (by simpa using h1),.k (Ht hp.t hp.ln hp.bd),.k (Nx hl.s32),.k (Nx hh.s32),.lo] rfl
   ·rename_i h1;obtain ⟨m,hm,h⟩:=Qd.1 h;obtain ⟨rfl,qm⟩:=CY hm;obtain ⟨x,hx,h⟩:=Qd.1 h;obtain ⟨y,hy,h⟩:=Qd.1 h;injection h with h; subst h;have hb:=pT (l:=c) (lo:=lo) (hi:=mid lo hi) hcl;rw [Qu] at hr;have c1:=mF hp hcl hc hl qm (by omega) (by omega) hx (by omega);have c2:=mF hp hcl hc qm hh (by omega) (by omega) hy (by omega);rw [show tal (x++y)=tal x++tal y from Yh];refine Fv func351 rfl ?_;exact Uh [] [3] [.f (by simpa using h0),.f (by simpa using h1),.k (Qru hl hh),.k (IH hcl hc hl qm),.c [3] c1,.c [4] c2,.s (Qwn y)] rfl (by simp [U3]; omega)
theorem Qnd {p:Um} {r:List Tm} (hp:Pb p) (h:PX p=some r) (hr:r.length<=1000000):Uj 348 [pr p] [.one (tas r),.oi 0]:=by
 unfold PX at h;obtain ⟨c,h1,h⟩:=Qd.1 h;obtain ⟨q,h2,h⟩:=Qd.1 h;obtain ⟨b,h3,h⟩:=Qd.1 h;obtain ⟨rfl,hb⟩:=CY h3;obtain ⟨k1,k2⟩:=chain_ok hp h1;have hq:=TX hp h2;have q0:q.length≠0:=by
  unfold Ee at h1;obtain ⟨a,a1,h1⟩:=Qd.1 h1;rw [h2] at a1; injection a1 with a1; subst a1
  split at h1
  ·cases h1
  ·assumption
 have qn:Qb (-Gw q):=⟨by rw [Rat.neg_num,Hm]; exact hb.1,by rw [Rat.neg_den]; exact hb.2⟩;have bb1:C7 ZP c<=c.length:=Lv (λp=>(RX p).1) c;have bb2:C7 UI c<=c.length:=Lv (λp=>(RX p).2) c;have hn:-(1000*(100001-100000:Nat):Int)<=JC c/\JC c<=1000*(100001-100000:Nat):=by unfold JC; omega
 have cr:=mF hq (by omega) k2 qn hb (Ql _) hn h hr;refine Fv func348 rfl ?_;exact Uh [1] [] [.k (Qff hp h1),.f rfl,.k (BM hp h2),.k (Qmw hq q0),.k (Qgc hb.s32),.k (Qmy (by omega) k2),.c [1] cr] rfl
def U0 (l:List Pt):Us:=l.map Fc
theorem S6 {l:List Pt} {i:Nat} {c:Pt} (h:l[i]? = some c):(U0 l)[i]? = some (Fc c):=G5 h
theorem G6 (l:List Pt):(U0 l).length=l.length:=by simp [U0]
theorem VJ (l:List Pt):∀ c∈U0 l,c.length=5:=λc hc=>by
 obtain ⟨x,_,rfl⟩:=Za.1 hc; rfl
abbrev zPt:Ur:=[.nils,.nils,.bool false,.nils,.int .i64 0]
theorem aT {lt:Pt->Pt->Bool} {O:List Pt} {z:Ur} {c:Pt} {k m:Nat} {l2:Us} (hk:k<=O.length) (hp:L9 lt O c O.length=k) (hm:m=O.length-k) (h2:l2.take m=((U0 O++[z]).drop k).take m) :
 ((U0 O++[z]).take (k+1)++(l2.take m++(U0 O++[z]).drop (k+1+m))).set k (Fc c)=U0 (Ly lt O c):=by
 rw [h2,<-Zd,fS (U0 O) z (Fc c) (by rw [G6]; omega) (by rw [G6]; omega)];simp [Ly,hp,U0,Jv,Vh]
def Ty (t:Tm) (l:List Pt):List Pt:=Ei (Ts (Fu t)) l
theorem wH {l:List Pt} {t:Tm} (hl:∀ p∈l,Sc p.c) (hn:l.length≤1000000) (ht:Va t):Uj 107 [.agg (ta t),.one (pts l)] [.one (pts (Ty t l))]:=by
 have hcl:=G6 l;show Uj 107 [.agg (ta t),.one (.row (U0 l))] [.one (.row (U0 (Ty t l)))];obtain ⟨lt,hlt0⟩:=nmE (Ts (Fu t));unfold Ty;rw [<-hlt0];refine Fv func107 rfl ?_;refine Ud [.o 5 62 5] rfl ?_;refine Ui (S:=Nat) 2 (λL1 i=>(11,.v (.oi i))::(5,.v (.one (.orow 1 5 none)))::L1) (λi=>[.blk 40 (ta t),.row false 62 5 (U0 (Ei lt (l.take i)))]) (λi=>l.length-i) (λi=>i<=l.length) 0 (Qh _) rfl rfl λi hi=>?_
 by_cases hlt:i<l.length
 ·obtain ⟨c,hc⟩:=gxE (l:=l) (i:=i) hlt;have hst:Ei lt (l.take (i+1))=Ly lt (Ei lt (l.take i)) c:=dZ hc;have hcp:=hl c (Qc hc);obtain ⟨O,hO⟩:=nmE (Ei lt (l.take i));have hOl:O.length=i:=by rw [hO,zL,Qq]; omega
  have hOm:∀ x∈O,Sc x.c:=λx hx=>by rw [hO,Qdf] at hx; exact hl x (Qo hx)
  rw [<-hO] at hst ⊢;refine Ud [.t (by simp [hcl]; omega),.x (S6 hc)] rfl ?_;refine Ui (S:=Nat) 3 (λL1 k=>(8,.v (.oi k))::L1) (λk=>[.blk 40 (ta t),.row false 62 5 (U0 O),.blk 62 (Fc c)]) id (λk=>k<=O.length/\L9 lt O c k=L9 lt O c O.length) (U0 O).length ⟨by rw [G6]; exact Ql _,by rw [G6]⟩ rfl rfl λk ⟨hk,hp⟩=>?_
  have hz:∀ y∈[zPt],y.length=5:=λy hy=>by rw [Qk.1 hy]; rfl
  have h77:∀ y∈U0 O++[zPt],y.length=5:=λy hy=>by
   rcases Qr.1 hy with hy | hy
   ·exact VJ O y hy
   ·exact hz y hy
  cases k with
  |
   zero =>
   have hp:L9 lt O c O.length=0:=by rw [<-hp]; rfl
   refine go tt [.g 19 false (by simp),.f rfl,.s (sz:=5) hz,.r 37 (eI (b:=((0+1:Nat):Int)) (by simp)),.i (0+1),.i (0),.s (sz:=5) (λy hy=>h77 y (Qo hy)),.i (O.length),.i (0)] rfl (by simp [U3,G6]; omega) ?_;exact rd (i+1) (by omega) hlt (by rw [hst,<-aT (z:=zPt) (l2:=(U0 O++[zPt]).take ((U0 O++[zPt]).length-0)) (k:=0) (m:=O.length) (by omega) hp (by omega) (by congr 1; exact Qn (by simp))]; rfl)
  |
   succ k =>
   obtain ⟨x,hx⟩:=gxE (l:=O) (i:=k) (by omega);have cb:=Qeg hcp (hOm x (Qc hx)) ht;rw [<-hlt0] at cb;by_cases hlc:lt c x=true
   ·refine go tt [.g 19 true (by simp),.r 23 (eI (b:=(k:Int)) (by simp)),.i k,.x (S6 hx),.k cb,.t hlc,.r 30 (eI (b:=(k:Int)) (by simp))] rfl (by simp [U3,G6]; omega) ?_;exact rd k (by simp) ⟨by omega,by rw [<-hp,oV hx hlc]⟩ rfl
   ·have hlc:lt c x=false:=by simpa using hlc
    have hp:L9 lt O c O.length=k+1:=by rw [<-hp,rT hx hlc]
    refine go tt [.g 19 true (by simp),.r 23 (eI (b:=(k:Int)) (by simp)),.i k,.x (S6 hx),.k cb,.f hlc,.s (sz:=5) hz,.r 37 (eI (b:=((k+1+1:Nat):Int)) (by simp)),.i (k+1+1),.i (k+1),.s (sz:=5) (λy hy=>h77 y (Qz (Qo hy))),.i (O.length-(k+1)),.i (k+1)] rfl (by simp [U3,G6]; omega) ?_;exact rd (i+1) (by omega) hlt (by rw [hst,<-aT (z:=zPt) (l2:=((U0 O++[zPt]).drop (k+1)).take ((U0 O++[zPt]).length-(k+1))) (k:=k+1) (m:=O.length-(k+1)) (by omega) hp (by omega) (by congr 1; exact Qn (by simp))]; rfl)
 ·obtain rfl:i=l.length:=by omega
  rw [Q6];exact Uf [.f (by simp [hcl])] rfl
def S7 (sg:Um->Int):List Pt->List Ct
 | a::b::l=>QO sg a b::S7 sg (b::l)
 | _=>[]
theorem B7 (sg:Um->Int):∀ l:List Pt,(S7 sg l).length=l.length-1
 | []=>rfl
 | [_]=>rfl
 | a::b::l=>by simp only [S7,Q5,B7 sg (b::l)]; omega
theorem TG (sg:Um->Int):∀ {l:List Pt} {i:Nat} {a b:Pt},l[i]? = some a->l[i+1]? = some b->(S7 sg l).take (i+1)=(S7 sg l).take i++[QO sg a b]
 | [],i,a,b,h,_=>by simp at h
 | [x],i,a,b,_,h=>by cases i <;> simp at h
 | x::y::l,0,a,b,h1,h2=>by simp at h1 h2; subst h1; subst h2; simp [S7]
 |
  x::y::l,i+1,a,b,h1,h2=>by
  have ih:=TG sg (l:=y::l) (i:=i) (a:=a) (b:=b) (by simpa using h1) (by simpa using h2);simp only [S7,Ve] at ih ⊢;rw [ih]; rfl
theorem BP {l:List Pt} {t:Tm} (hl:∀ p∈l,Sc p.c) (hn:l.length≤1000000) (ht:Va t):Uj 109 [.agg (ta t),.one (pts l)] [.one (.row (U8 (S7 (Fu t) l)))]:=by
 have hcl:=G6 l;show Uj 109 [.agg (ta t),.one (.row (U0 l))] [.one (.row (U8 (S7 (Fu t) l)))];refine Fv func109 rfl ?_;refine Ud [.o 5 144 7] rfl ?_;refine Ui (S:=Nat) 2 (λL1 i=>(6,.v (.oi ((i+1:Nat):Int)))::(5,.v (.one (.orow 1 7 none)))::L1) (λi=>[.blk 40 (ta t),.row false 144 7 (U8 ((S7 (Fu t) l).take i))]) (λi=>l.length-i) (λi=>i<=l.length-1) 0 (Qh _) rfl rfl λi hi=>?_
 by_cases hlt:i+1<l.length
 ·obtain ⟨a,ha⟩:=gxE (l:=l) (i:=i) (by omega);obtain ⟨b,hb⟩:=gxE (l:=l) (i:=i+1) hlt;have hg:=TG (Fu t) ha hb;have hm:∀ y∈[Dq (QO (Fu t) a b)],y.length=7:=λy hy=>by rw [Qk.1 hy]; rfl
  refine go tt [.t (by simp [hcl]; omega),.r 19 (eI (b:=(i:Int)) (by simp)),.x (S6 ha),.x (S6 hb),.k (lJ (hl a (Qc ha)) (hl b (Qc hb)) ht),.s (sz:=7) hm,.r 14 (eI (b:=((i+1+1:Nat):Int)) (by simp))] rfl (by simp [U3,G6,Pn,B7]; omega) ?_;exact rd (i+1) (by omega) (by omega) (by rw [hg]; simp [U8]; rfl)
 ·have e:(S7 (Fu t) l).take i=S7 (Fu t) l:=Qn (by rw [B7]; omega);rw [e];exact Uf [.f (by simp [hcl]; omega)] rfl
theorem Qnf:Uj 214 [pr []] [.one .nilp,.oi 2]:=by
 have h:Pp []=some []:=rfl;exact Ug func214 rfl [.k (BM TZ h),.t rfl] rfl
theorem Qfd:Uj 348 [pr []] [.one (.row []),.oi 2] :=
 Ug func348 rfl [.k Qnf,.t rfl] rfl
theorem Qvs {a o:Um} (ha:Pb a) (h:bN a=some o):Pb o:=by
 unfold bN at h
 split at h
 ·injection h with h; subst h; exact TZ
 ·obtain ⟨l,hl,h⟩:=Qd.1 h;obtain ⟨fs,hf,h⟩:=Qd.1 h;exact YO Qjp (jP (ME (Ry ha) hl).2 hf) h
theorem Qeo {p:Um} {l:List Tm} (hp:Pb p) (h:WL p=some l) (hl:l.length<=1000000):Uj 347 [pr p] [.one (tas l)]:=by
 unfold WL at h;obtain ⟨q,hq,h⟩:=Qd.1 h;have qp:=Qvs hp hq;have co:=Qxt hp hq
 split at h
 ·rename_i h0;injection h with h; subst h;obtain rfl:=Qj h0;exact Ug func347 rfl [.k co,.k Qfd,.t rfl] rfl
 ·exact Ug func347 rfl [.k co,.k (Qnd qp h hl),.f rfl] rfl
def ota:Option Tm->Ur
 | none=>zTr
 | some t=>ta t
theorem Qm2 {p:Um} {a:Tm} {l:List Tm} {r:Option Tm} (hp:Pb p) (ha:Tb a) (h:WL p=some l) (hl:l.length≤1000000) (ht:∀ t∈l,Tb t) (hr:KZ a l=some r):Uj 346 [pr p,.agg (ta a)] [.agg (ota r),.one (.bool r.isSome)]:=by
 have hll:(l.map λt=>ta t).length=l.length:=by simp
 refine Fv func346 rfl ?_;refine Ud [.k (Qeo hp h hl)] rfl ?_;refine Ui (S:=Nat) 2 (λL1 i=>(11,.v (.oi i))::L1) (λ_=>[.blk 40 (ta a),.blk 40 zTm]) (λi=>l.length-i) (λi=>i<=l.length/\KZ a (l.drop i)=some r) 0 ⟨Qh _,hr⟩ rfl rfl λi ⟨hi,hf⟩=>?_
 by_cases hlt:i<l.length
 ·obtain ⟨t,hx⟩:=gxE (l:=l) (i:=i) hlt;have hdr:l.drop i=t::l.drop (i+1):=by
   rw [Zp hlt]; congr 1;have:=Qe hlt; rw [hx] at this; injection this with this; exact this.symm
  rw [hdr] at hf;simp only [KZ] at hf;obtain ⟨c,c1,hf⟩:=Qd.1 hf;have cc:=KG (ht t (Qc hx)) ha c1;by_cases hc:0<c
  ·rw [if_pos hc] at hf;injection hf with hf; subst hf;exact Uf [.t (by simp; omega),.x (NS hx),.k cc,.t (by simpa using hc)] rfl
  ·rw [if_neg hc] at hf;refine Ue [.t (by simp; omega),.x (NS hx),.k cc,.f (by simpa using hc)] rfl ?_;exact rd (i+1) (by omega) ⟨hlt,hf⟩ rfl
 ·obtain rfl:i=l.length:=by omega
  rw [Yt] at hf;simp only [KZ] at hf;injection hf with hf; subst hf;exact Uf [.f (by simp)] rfl
def Oh (now:Tm):List Wt->Option (List Wt)
 | []=>some []
 | w::l=>(if w.known=true then some w else (SE w.c.p now).bind λr=>some ⟨w.c,true,r⟩).bind λw'=>(Oh now l).bind λr=>some (w'::r)
theorem YA {now:Tm}:∀ {l ws:List Wt},Oh now l=some ws->ws.length=l.length/\∀ (i:Nat) (w:Wt),l[i]? = some w->∃ v,ws[i]? = some v/\(w.known=true/\v=w\/w.known=false/\∃ r,SE w.c.p now=some r/\v=⟨w.c,true,r⟩)
 | [],ws,h=>by injection h with h; subst h; exact ⟨rfl,λi x hx=>by simp at hx⟩
 |
  y::l,ws,h=>by
  simp only [Oh] at h;obtain ⟨v,hv,h⟩:=Qd.1 h;obtain ⟨r,hr,h⟩:=Qd.1 h;injection h with h; subst h;obtain ⟨a,b⟩:=YA hr;refine ⟨by simp [a],λi x hx=>?_⟩;cases i with
  |
   zero =>
   injection hx with hx; subst hx;refine ⟨v,rfl,?_⟩
   split at hv
   ·rename_i hk; injection hv with hv; exact .inl ⟨hk,hv.symm⟩
   ·rename_i hk;obtain ⟨q,hq,hv⟩:=Qd.1 hv;injection hv with hv;exact .inr ⟨by simpa using hk,q,hq,hv.symm⟩
  | succ i=>exact b i x (by simpa using hx)
theorem wK {p:Um} {a:Tm} {r:Option Tm} (hp:Cp p) (ha:Va a) (h:SE p a=some r):Uj 346 [pr p,.agg (ta a)] [.agg (ota r),.one (.bool r.isSome)]:=by
 obtain ⟨l,l1,l2,l3,_⟩:=YQ hp;unfold SE at h;rw [l1] at h;exact Qm2 (Dp.pb hp.dp) ha.tb l1 (by omega) (λt ht=>(l3 t ht).tb) h
theorem Qm5 {T:Nat} {c:Cr} {r0 r1:Us} {ws:List Wt} (hc:CrOk c) (h:Oh c.now c.l=some ws):U6 prog 340 [.one (.ow 0 0)] [.blk T (Hl c r0 r1)] [] [.blk T (Hl { c with l:=ws } r0 r1)]:=by
 have hk:=hc.k;have hw:=Tp c.l;obtain ⟨h1,h2⟩:=YA h;refine Fv func340 rfl ?_;refine Ud [.o 2 266 18,.c [0] (QW hc.n)] rfl ?_;refine Ui (S:=Nat) 3 (λL1 i=>(13,.v (.oi i))::(2,.v (.one (.orow 1 18 none)))::L1) (λi=>[.blk T (Hl c r0 r1),.row false 266 18 (Cd (ws.take i)),.blk 40 (ta c.now)]) (λi=>c.l.length-i) (λi=>i<=c.l.length) 0 (Qh _) rfl rfl λi hi=>?_
 by_cases hlt:i<c.l.length
 ·obtain ⟨w,hx⟩:=gxE (l:=c.l) (i:=i) hlt;obtain ⟨v,hv,h3⟩:=h2 i w hx;have hm:∀ y∈[wl v],y.length=18:=λy hy=>by rw [Qk.1 hy]; rfl
  have hg:=Ad hv;have hl:decide ((i:Int)<((Cd c.l).length:Int))=true:=by simp [hw]; omega
  rcases h3 with ⟨k1,rfl⟩ | ⟨k1,r,k2,rfl⟩
  ·obtain ⟨vc,vk,vf⟩:=v;cases vf <;> (refine go tt [.t hl,.x (Hr hx),.f (by rw [show vk=true from k1]; rfl),.s (sz:=18) hm] rfl (by simp [U3,Tp]; omega) ?_; exact rd (i+1) (by omega) hlt (by rw [hg]; rfl))
  ·have cg:=wK (hc.l w (Qc hx)).p hc.n k2;obtain ⟨wc,wk,wf⟩:=w;cases r <;> cases wf <;> (refine go tt [.t hl,.x (Hr hx),.t (by rw [show wk=false from k1]; rfl),.k cg,.s (sz:=18) hm] rfl (by simp [U3,Tp]; omega) ?_; exact rd (i+1) (by omega) hlt (by rw [hg]; rfl))
 ·obtain rfl:i=c.l.length:=by omega
  rw [<-h1,Q6];exact Uh [1] [0] [.f (by simp [hw,h1])] rfl
def IY (ws:List Wt):Option (Option Tm):=match ws.filterMap (·.fails) with
 | []=>some none
 | b::l=>(QL b l).map some
theorem Et {c:Cr} {ws:List Wt} (hc:CrOk c) (h:Oh c.now c.l=some ws):CrOk { c with l:=ws }:=by
 obtain ⟨h1,h2⟩:=YA h;refine ⟨hc.n,λv hv=>?_,by show ws.length<=1000; rw [h1]; exact hc.k⟩;obtain ⟨i,hi⟩:=Xv hv;have hil:i<c.l.length:=by rw [<-h1]; exact (Qf.1 hi).1
 obtain ⟨v',h3,h4⟩:=h2 i _ (Qe hil);rw [hi] at h3; injection h3 with h3; subst h3;have hw:=hc.l _ (Xt hil);rcases h4 with ⟨_,rfl⟩ | ⟨_,r,k2,rfl⟩
 ·exact hw
 ·obtain ⟨r',r1,r2⟩:=Qja hw.p hc.n;rw [k2] at r1; injection r1 with r1; subst r1;refine ⟨hw.p,λt ht=>?_⟩;have ht:r=some t:=ht;subst ht;exact r2.2.1
theorem MY {T:Nat} {c:Cr} {r0 r1:Us} {ws:List Wt} {r:Option Tm} (hc:CrOk c) (h:Oh c.now c.l=some ws) (hr:IY ws=some r):U6 prog 337 [.one (.ow 0 0)] [.blk T (Hl c r0 r1)] [.agg (ota r),.one (.bool r.isSome)] [.blk T (Hl { c with l:=ws } r0 r1)]:=by
 have hcl:=Qm5 (T:=T) (r0:=r0) (r1:=r1) hc h;have hc':=Et hc h;have hk:=hc'.k;have hw:=Tp ws;have hvb:∀ t∈ws.filterMap (·.fails),Tb t:=λt ht=>by
  obtain ⟨w,w1,w2⟩:=Jh.1 ht;exact ((hc'.l w w1).f t w2).tb
 refine Fv func337 rfl ?_;refine Ud [.c [0] hcl,.o 4 40 9] rfl ?_;refine Ui (S:=Nat) 3 (λL1 i=>(14,.v (.oi i))::(4,.v (.one (.orow 2 9 none)))::L1) (λi=>[.blk T (Hl { c with l:=ws } r0 r1),.blk 40 zTm,.row false 40 9 (tal ((ws.take i).filterMap (·.fails)))]) (λi=>ws.length-i) (λi=>i<=ws.length) 0 (Qh _) rfl rfl λi hi=>?_
 by_cases hlt:i<ws.length
 ·obtain ⟨w,hx⟩:=gxE (l:=ws) (i:=i) hlt;have hl:decide ((i:Int)<((Cd ws).length:Int))=true:=by simp [hw]; omega
  have hfl:((ws.take i).filterMap (·.fails)).length<=i:=Qa (Vb _ _) (by rw [Qq]; omega);have hg:(ws.take (i+1)).filterMap (·.fails)=(ws.take i).filterMap (·.fails)++(match w.fails with | none=>[] | some t=>[t]):=by
   rw [Zv,hx,List.filterMap_append];show _++List.filterMap (·.fails) [w]=_;cases hwf:w.fails <;> simp [hwf]
  obtain ⟨wc,wk,wf⟩:=w;have hk:ws.length<=1000:=hk;cases wf with
  |
   none =>
   refine Ue [.t hl,.x (Hr hx),.f rfl] rfl ?_;exact rd (i+1) (by omega) hlt (by rw [hg]; simp; rfl)
  |
   some t =>
   refine Ue [.t hl,.x (Hr hx),.t rfl,.s (l:=[ta t]) (sz:=9) (λc hc=>by rw [Qk.1 hc]; rfl)] rfl ?_;exact rd (i+1) (by omega) hlt (by rw [hg]; simp [tal]; rfl)
 ·obtain rfl:i=ws.length:=by omega
  rw [Q6];have hf:decide ((ws.length:Int)<((Cd ws).length:Int))=false:=by simp [hw]
  have hln:(ws.filterMap (·.fails)).length<=1000:=Qa (Vb _ _) hk;unfold IY at hr;cases hfm:ws.filterMap (·.fails) with
  |
   nil =>
   rw [hfm] at hr;injection hr with hr; subst hr;exact Uh [] [0] [.f hf,.p 2,.k wW] rfl
  |
   cons b l =>
   rw [hfm] at hr hvb hln;obtain ⟨m,m1,rfl⟩:=Yx.1 hr;have cl:=S9 (hvb b (Qy ..)) (λt ht=>hvb t (Qg _ ht)) (by simp at hln; omega) m1;exact Uh [] [0] [.f hf,.p 2,.k cl] rfl
theorem LY {at_:Tm} {x:Ct}:∀ {l:List Wt} {w:Wt},Co l x at_=some w->w=fresh x\/∃ v∈l,v.known=true/\v.c.p=x.p/\w=⟨x,true,v.fails⟩/\∀ t,v.fails=some t->∃ c,US t at_=some c/\0<c
 | [],w,h=>by simp only [Co] at h; injection h with h; exact .inl h.symm
 |
  v::l,w,h=>by
  simp only [Co] at h;have tl:Co l x at_=some w->w=fresh x\/∃ v'∈v::l,v'.known=true/\v'.c.p=x.p/\w=⟨x,true,v'.fails⟩/\∀ t,v'.fails=some t->∃ c,US t at_=some c/\0<c:=λh=>by
   rcases LY h with h | ⟨v',h1,h2⟩
   ·exact .inl h
   ·exact .inr ⟨v',Qg _ h1,h2⟩
  split at h
  ·rename_i hk;cases hf:v.fails with
   |
    none =>
    rw [hf] at h;injection h with h;exact .inr ⟨v,Qy ..,hk.2.1,hk.2.2,by rw [hf]; exact h.symm,λt ht=>by rw [hf] at ht; cases ht⟩
   |
    some t =>
    rw [hf] at h;obtain ⟨c,c1,h⟩:=Qd.1 h
    split at h
    ·rename_i h0;injection h with h;exact .inr ⟨v,Qy ..,hk.2.1,hk.2.2,by rw [hf]; exact h.symm,λu hu=>by rw [hf] at hu; injection hu with hu; subst hu; exact ⟨c,c1,h0⟩⟩
    ·exact tl h
  ·exact tl h
theorem lay_ok {c:Cr} {at_:Tm} {l:List Ct} {ws:List Wt} (ev:Int) (hc:CrOk c) (ha:Va at_) (hl:∀ x∈l,Cp x.p) (hn:l.length≤1000) (h:Tk c.l at_ (Fo l)=some ws):CrOk ⟨at_,ws,ev⟩:=by
 obtain ⟨h1,h2⟩:=XL h;refine ⟨ha,λw hw=>?_,by show ws.length<=1000; rw [h1,Mx]; exact hn⟩;obtain ⟨i,hi⟩:=Xv hw;have hil:i<(Fo l).length:=by rw [<-h1]; exact (Qf.1 hi).1
 obtain ⟨v,h3,h4⟩:=h2 i _ (Qe hil);rw [hi] at h4; injection h4 with h4; subst h4;have hx:=hl _ (Tc (Xt hil));rcases LY h3 with e | ⟨v,v1,_,v3,e,_⟩
 ·rw [e]; exact ⟨hx,λt ht=>by cases ht⟩
 ·rw [e]; exact ⟨hx,λt ht=>(hc.l v v1).f t ht⟩
def WO {β:Type} (Bc:Tm->List Ct) (Br:Tm->β) (t:Rat):Nat->Cr->β->Int->Option (Cr×β×Int)
 | 0,_,_,_=>none
 |
  k+1,c,r,n=>(Oh c.now c.l).bind λws=>(IY ws).bind λo=>match o with
  | none=>some (⟨tq t,ws,c.ev⟩,r,n)
  | some a=>if 0<Fp a t then some (⟨tq t,ws,c.ev⟩,r,n) else (Tk ws a (Fo (Bc a))).bind λw2=>WO Bc Br t k ⟨a,w2,c.ev+1⟩ (Br a) (n+1)
theorem Qje {ws:List Wt} {a:Tm} (h:IY ws=some (some a)) (hv:∀ t∈ws.filterMap (·.fails),Va t):a∈ws.filterMap (·.fails)/\∀ t∈ws.filterMap (·.fails),¬Nv t a:=by
 unfold IY at h;cases hf:ws.filterMap (·.fails) with
 | nil=>rw [hf] at h; injection h with h; cases h
 |
  cons b l =>
  rw [hf] at h hv;obtain ⟨m,m1,m2⟩:=Yx.1 h;injection m2 with m2; subst m2;obtain ⟨m',n1,n2,n3⟩:=RB l b hv;rw [m1] at n1; injection n1 with n1; subst n1;exact ⟨n2,n3⟩
theorem LC {c:Cr} {ws:List Wt} {a:Tm} (hc:CrOk c) (h:Oh c.now c.l=some ws) (hr:IY ws=some (some a)):Va a:=by
 have hc':=Et hc h;have hv:∀ t∈ws.filterMap (·.fails),Va t:=λt ht=>by
  obtain ⟨w,w1,w2⟩:=Jh.1 ht;exact (hc'.l w w1).f t w2
 exact hv a (Qje hr hv).1
structure BuildOk (Bc:Tm->List Ct):Prop where
 p:∀ a,Va a->∀ x∈Bc a,Cp x.p
 n:∀ a,Va a->(Bc a).length<=1000
theorem Qxr {T:Nat} {t:Rat} {Bc:Tm->List Ct} {Br:Tm->Us} {r0:Us} (ht:Qs 1640000 t) (hB:BuildOk Bc)
 (hb:∀ a c r1,Va a->CrOk c->U6 prog 71 [.one (.ow 0 0),.agg (ta a)] [.blk T (Hl c r0 r1)] [.one (.row (U8 (Bc a)))] [.blk T (Hl c r0 (Br a))])
 {K:Nat} {c c':Cr} {r1 r1':Us} {n:Int} (hc:CrOk c) (hev:0<=c.ev/\c.ev+K<=1000000000000000000) (h:Fp c.now t<=0) (hg:WO Bc Br t K c r1 0=some (c',r1',n)) :
 U6 prog 341 [.one (.ow 0 0),.agg (rl t),.one (.ofn 71 [.ow 0 0] [])] [.blk T (Hl c r0 r1)] [.oi n,.oi 0] [.blk T (Hl c' r0 r1')]:=by
 have qt:Qb t:=ht.mono (by decide);have c1:=Dk hc.n.tb qt;refine Fv func341 rfl ?_;refine Ud [.c [0] (QW hc.n),.k c1,.f (by simpa using h)] rfl ?_;refine Ui (S:=Nat×Cr×Us×Int) 2 (λL1 s=>(8,.v (.oi s.2.2.2))::L1) (λs=>[.blk T (Hl s.2.1 r0 s.2.2.1),.blk 38 (rl t)]) (λs=>s.1) (λs=>CrOk s.2.1/\(0<=s.2.1.ev/\s.2.1.ev+s.1<=1000000000000000000)/\(0<=s.2.2.2/\s.2.2.2+s.1<=1000000000000000000)/\WO Bc Br t s.1 s.2.1 s.2.2.1 s.2.2.2=some (c',r1',n)) (K,c,r1,0) ⟨hc,hev,⟨Int.le_refl 0,by dsimp only; omega⟩,hg⟩ rfl rfl λ⟨k,x,r,m⟩ ⟨j1,j2,j3,j4⟩=>?_
 dsimp only at j1 j2 j3 j4 ⊢;cases k with
 | zero=>cases j4
 |
  succ k =>
  simp only [WO] at j4;obtain ⟨ws,w1,j4⟩:=Qd.1 j4;obtain ⟨o,o1,j4⟩:=Qd.1 j4;have cn:=MY (T:=T) (r0:=r0) (r1:=r) j1 w1 o1;have ca:=VI (U4 t.num) (U4 (t.den:Int)) (Qa ht.1 (by decide)) (Qa ht.2 (by decide)) (by rw [Su]; exact ht.mono (by decide));rw [Su] at ca;cases o with
  |
   none =>
   injection j4 with j4; injection j4 with e1 j4; injection j4 with e2 e3;subst e1; subst e2; subst e3;exact Uh [] [0] [.c [0] cn,.g 25 true rfl,.t rfl,.k ca] rfl
  |
   some a =>
   have ha:=LC j1 w1 o1;dsimp only at j4;have cc:=Dk ha.tb qt;by_cases h0:0<Fp a t
   ·rw [if_pos h0] at j4;injection j4 with j4; injection j4 with e1 j4; injection j4 with e2 e3;subst e1; subst e2; subst e3;exact Uh [] [0] [.c [0] cn,.g 25 false rfl,.k cc,.t (by simpa using h0),.k ca] rfl
   ·rw [if_neg h0] at j4;obtain ⟨w2,l1,j4⟩:=Qd.1 j4;have j1':=Et j1 w1;have cl:=S9 (b:=a) (l:=[]) ha.tb (λt ht=>by cases ht) (by decide) rfl;have cb:=hb a { x with l:=ws } r ha j1';have cy:=UK (T:=T) (r0:=r0) (r1:=Br a) j1' ha (hB.p a ha) (hB.n a ha) l1;have hf:decide (0<Fp a t)=false:=by simpa using h0
    refine Ue [.c [0] cn,.g 25 false rfl,.k cc,.f hf,.k cl,.c [0] cb,.c [0] cy] rfl ?_;exact rd (k,⟨a,w2,x.ev+1⟩,Br a,m+1) (by dsimp only; omega) ⟨lay_ok _ j1' ha (hB.p a ha) (hB.n a ha) l1,by dsimp only; omega,by dsimp only; omega,j4⟩ rfl
theorem YU {T:Nat} {c:Cr} {r0 r1:Us}:U6 prog 336 [.one (.ow 0 0)] [.blk T (Hl c r0 r1)] [.oi c.ev] [.blk T (Hl c r0 r1)]:=by
 refine Fv func336 rfl ?_;exact Uh [] [0] [] rfl
theorem Qgx {a b:Pt} (ha:Sc a.c) (hb:Sc b.c):Cp (Av a b):=YP (Nb ha hb) (Na ha hb)
def ZL (l:List Pt) (a:Tm):List Ct:=S7 (Fu a) (Ty a l)
abbrev IG (l:List Pt) (a:Tm):Us:=U0 (Ty a l)
theorem tY {sg:Um->Int}:∀ {l:List Pt},(∀ p∈l,Sc p.c)->∀ x∈S7 sg l,Cp x.p
 | [],_,x,hx=>by cases hx
 | [_],_,x,hx=>by cases hx
 |
  a::b::l,h,x,hx=>by
  simp only [S7] at hx;rcases Qm.1 hx with rfl | hx
  ·exact Qgx (h a (by simp)) (h b (by simp))
  ·exact tY (λp hp=>h p (Qg _ hp)) x hx
theorem Hq {t:Tm} {l:List Pt} {p:Pt}:p∈Ty t l↔p∈l:=by
 unfold Ty Ei; rw [KI]; simp
theorem No (t:Tm) (l:List Pt):(Ty t l).length=l.length:=zL _ _
theorem pU {l:List Pt} (hl:∀ p∈l,Sc p.c) (hn:l.length≤1000):BuildOk (ZL l) :=
 ⟨λa _ x hx=>tY (λp hp=>hl p (Hq.1 hp)) x hx,λa _=>by unfold ZL; rw [B7,No]; omega⟩
theorem IM {l:List Pt} {a:Tm} {c:Cr} {r1:Us} (hl:∀ p∈l,Sc p.c) (hn:l.length≤1000) (ha:Va a):U6 prog 71 [.one (.ow 0 0),.agg (ta a)] [.blk 156 (Hl c (U0 l) r1)] [.one (.row (U8 (ZL l a)))] [.blk 156 (Hl c (U0 l) (IG l a))]:=by
 have cr:=wH hl (by omega) ha;have cc:=BP (l:=Ty a l) (t:=a) (λp hp=>hl p (Hq.1 hp)) (by rw [No]; omega) ha;refine Fv func71 rfl ?_;exact Uh [] [0] [.k Ir,.k cr,.k cc] rfl
theorem Qbi {l:List Pt} {a:Tm} (hl:∀ p∈l,Sc p.c) (hn:l.length≤1000) (ha:Va a):U6 prog 71 [.one (.ow 0 0),.agg (ta a)] [.blk 156 (mP (.row (U0 l)) .nils)] [.one (.row (U8 (ZL l a)))] [.blk 156 (mP (.row (U0 l)) (.row (IG l a)))]:=by
 have cr:=wH hl (by omega) ha;have cc:=BP (l:=Ty a l) (t:=a) (λp hp=>hl p (Hq.1 hp)) (by rw [No]; omega) ha;refine Fv func71 rfl ?_;exact Uh [] [0] [.k Ir,.k cr,.k cc] rfl
def Qmr (l:List Pt) (a:Tm):Cr:=⟨a,(Fo (ZL l a)).map fresh,0⟩
theorem I5 {a:Tm} (ha:Va a):US a a=some 0:=by
 obtain ⟨c,c1,c2⟩:=UP ha ha;rcases c2 with ⟨_,h⟩ | ⟨e,_⟩ | ⟨_,h⟩
 ·exact absurd h λh=>Iy ha.cut ha.cut h h
 ·rw [c1,e]
 ·exact absurd h λh=>Iy ha.cut ha.cut h h
theorem xB {c:Cr} {l l':List Pt} {r1:Us} {ws:List Wt} (hc:CrOk c) (hl:∀ p∈l',Sc p.c) (hn:l'.length≤1000) (h:Tk c.l c.now (Fo (ZL l' c.now))=some ws) :
 U6 prog 342 [.one (.ow 0 0),.agg [pts l'],.oi 0] [.blk 156 (Hl c (U0 l) r1)] [.oi 0] [.blk 156 (Hl ⟨c.now,ws,c.ev⟩ (U0 l') (IG l' c.now))]:=by
 have hB:=pU hl hn;have cn:=QW (T:=156) (c:=c) (r0:=U0 l') (r1:=r1) hc.n;have cb:=IM (c:=c) (r1:=r1) hl hn hc.n;have cg:=YW (T:=156) (r0:=U0 l') (r1:=IG l' c.now) hc hc.n (I5 hc.n) (Yd 0) (hB.p _ hc.n) (hB.n _ hc.n) h;refine Fv func342 rfl ?_;exact Uh [] [0] [.f rfl,.c [0] cn,.c [0] cb,.c [0] cg] rfl
theorem Qtx {c:Cr} {l s:List Pt} (hs:s.length<=1000000):U6 prog 35 [.one (.ow 0 0)] [.blk 156 (Hl c (U0 l) (U0 s))] [.one (ids (s.map (·.id)))] [.blk 156 (Hl c (U0 l) (U0 s))]:=by
 have hcl:=G6 s;refine Fv func35 rfl ?_;refine Ud [.o 3 3 1] rfl ?_;refine Ui (S:=Nat) 2 (λL1 i=>(11,.v (.oi i))::(3,.v (.one (.orow 1 1 none)))::L1) (λi=>[.blk 156 (Hl c (U0 l) (U0 s)),.row false 3 1 (((s.take i).map (·.id)).map λ(z:Int)=>[LV.int .i64 z])]) (λi=>s.length-i) (λi=>i<=s.length) 0 (Qh _) rfl rfl λi hi=>?_
 by_cases hlt:i<s.length
 ·obtain ⟨p,hp⟩:=gxE (l:=s) (i:=i) hlt;have hg:(((s.take (i+1)).map (·.id)).map λ(z:Int)=>[LV.int .i64 z])=(((s.take i).map (·.id)).map λ(z:Int)=>[LV.int .i64 z])++[[.int .i64 p.id]]:=by
   rw [Zv,hp]; simp
  refine Ue [.t (by simp [hcl]; omega),.x (S6 hp),.s (sz:=1) (l:=[[.int .i64 p.id]]) (λc hc=>by rw [Qk.1 hc]; rfl)] rfl ?_;exact rd (i+1) (by omega) hlt (by rw [hg]; rfl)
 ·obtain rfl:i=s.length:=by omega
  rw [Q6];exact Uh [1] [0] [.f (by simp [hcl])] rfl
theorem Qty {lx ly:Us} {px py:Um} {x y:LV} {d id:Int} {c:Cr} {l:List Pt} {r1:Us} {ws:List Wt} (hx:IsInts lx px) (hy:IsInts ly py) (hd:Gd x y d) (hk:Cs 4294967294 1073741824 (Crv.mk px py d)) (hll:l.length<=900)
 (he:WR l ⟨Crv.norm (Crv.mk px py d),id⟩=0) (hc:CrOk c) (hl:∀ p∈put l ⟨Crv.norm (Crv.mk px py d),id⟩,Sc p.c) (hn:(put l ⟨Crv.norm (Crv.mk px py d),id⟩).length≤1000) (h:Tk c.l c.now (Fo (ZL (put l ⟨Crv.norm (Crv.mk px py d),id⟩) c.now))=some ws) :
 U6 prog 338 [.one (.ow 0 0),.agg [.row lx,.row ly,x,y,.int .i64 id]] [.blk 156 (Hl c (U0 l) r1)] [.oi 0] [.blk 156 (Hl ⟨c.now,ws,c.ev⟩ (U0 (put l ⟨Crv.norm (Crv.mk px py d),id⟩)) (IG (put l ⟨Crv.norm (Crv.mk px py d),id⟩) c.now))]:=by
 have cp:=wG (l:=l) (id:=id) hx hy hd hk (by omega);rw [if_pos he,he] at cp;have cw:=xB (l:=l) (r1:=r1) hc hl hn h;refine Fv func338 rfl ?_;obtain ⟨b,l',rfl,rfl,_⟩:=hd;exact Uh [] [0] [.k cp,.c [0] cw] rfl
theorem Qtw {t:Rat} {l:List Pt} {K:Nat} {c c':Cr} {r1 r1':Us} {n:Int} (ht:Qs 1640000 t) (hl:∀ p∈l,Sc p.c) (hn:l.length≤1000) (hc:CrOk c) (hev:0≤c.ev/\c.ev+K≤1000000000000000000) (h:Fp c.now t≤0) (hg:WO (ZL l) (IG l) t K c r1 0=some (c',r1',n)) :
 U6 prog 333 [.one (.ow 0 0),.agg (rl t)] [.blk 156 (Hl c (U0 l) r1)] [.oi n,.oi 0] [.blk 156 (Hl c' (U0 l) r1')]:=by
 have cg:=Qxr (T:=156) (r0:=U0 l) ht (pU hl hn) (λa c r1 ha _=>IM (c:=c) (r1:=r1) hl hn ha) hc hev h hg;refine Fv func333 rfl ?_;exact Uh [] [0] [.k (Nx (ht.mono (by decide))),.c [0] cg] rfl
theorem Qfe {c:Cr} {r0 r1:Us}:U6 prog 55 [.one (.ow 0 0)] [.blk 156 (Hl c r0 r1)] [.one (.ow 1 0)] [.blk 156 (Hl c r0 r1),.blk 156 (Hl c r0 r1)]:=by
 refine Fv func55 rfl ?_;exact Uh [] [0,1] [] rfl
abbrev idl (l:Um):Us:=l.map λ(z:Int)=>[.int .i64 z]
theorem MD {l:Um} {i:Nat} {z:Int} (h:l[i]? = some z):(idl l)[i]? = some [.int .i64 z]:=G5 h
theorem Qfg {a b:Um} (ha:a.length<=1000000) (hb:b.length<=1000000):Uj 34 [.one (ids a),.one (ids b)] [.one (.bool (decide (a=b)))]:=by
 show Uj 34 [.one (.row (idl a)),.one (.row (idl b))] _;have la:(idl a).length=a.length:=by simp
 have lb:(idl b).length=b.length:=by simp
 refine Fv func34 rfl ?_;by_cases hl:a.length=b.length
 ·refine Ud [.f (by simp; omega)] rfl ?_;refine Ui (S:=Nat) 0 (λL1 i=>(5,.v (.oi i))::L1) (λ_=>[]) (λi=>a.length-i) (λi=>i<=a.length/\a.take i=b.take i) 0 ⟨Qh _,rfl⟩ rfl rfl λi ⟨hi,he⟩=>?_
  by_cases hlt:i<a.length
  ·obtain ⟨x,hx⟩:=gxE (l:=a) (i:=i) hlt;obtain ⟨y,hy⟩:=gxE (l:=b) (i:=i) (by omega);by_cases e:x=y
   ·refine Ue [.t (by simp; omega),.x (MD hx),.x (MD hy),.f (by simpa using e)] rfl ?_;exact rd (i+1) (by omega) ⟨hlt,by rw [Zv,Zv,hx,hy,he,e]⟩ rfl
   ·have hne:a≠b:=λh=>by rw [h,hy] at hx; injection hx with hx; exact e hx.symm
    exact Uf [.t (by simp; omega),.x (MD hx),.x (MD hy),.t (by simpa using e)] rfl (by simp [hne]) trivial
  ·obtain rfl:i=a.length:=by omega
   have hab:a=b:=by rw [Q6] at he; rw [he,hl,Q6]
   exact Uf [.f (by simp)] rfl (by simp [hab]) trivial
 ·have hne:a≠b:=λh=>hl (by rw [h])
  exact Uf [.t (by simp; omega)] rfl (by simp [hne]) trivial
def Tz (v n:Int):Int:=if n<1 then 0 else v.emod n
theorem Qdm {v n:Int} (h:0<n):(if v.tmod n<0 then v.tmod n+n else v.tmod n)=v % n:=by
 have h3:=Ye v (show n≠0 by omega);have h4:=Js v h;have h1:=Int.tmod_eq_emod (a:=v) (b:=n);have hn:((n.natAbs:Nat):Int)=n:=by omega
 split at h1
 ·rw [h1]; simp; omega
 ·rename_i hc;rw [h1,hn];have:v % n≠0:=λe=>hc (.inr (Vf e))
  rw [if_pos (by omega)]; omega
theorem D9 {v n:Int} (hv:-9223372036854775808<=v/\v<=9223372036854775807) (hn:n<=1000000000):Uj 18 [.oi v,.oi n] [.oi (Tz v n)]:=by
 unfold Tz;by_cases h:n<1
 ·rw [if_pos h];exact Ug func18 rfl [.t (by simpa using h)] rfl
 ·rw [if_neg h];have e:=Qdm (v:=v) (n:=n) (by omega);have h3:=Ye v (show n≠0 by omega);have h4:=Js v (show 0<n by omega);show Uj 18 [.oi v,.oi n] [.oi (v % n)];by_cases h0:v.tmod n<0
  ·rw [if_pos h0] at e;have b:-n<=v.tmod n:=by omega
   exact Ug func18 rfl [.f (by simpa using h),.t (by simpa using h0)] rfl (by rw [e]) (by simp [U3]; omega)
  ·rw [if_neg h0] at e;exact Ug func18 rfl [.f (by simpa using h),.f (by simpa using h0)] rfl (by rw [e]) (by simp [U3]; omega)
end Orr
