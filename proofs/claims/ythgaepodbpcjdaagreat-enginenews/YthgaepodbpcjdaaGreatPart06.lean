/- T7 T8 T9 T10 T11 T12 T13 T14 T15 T16 T17 T18 T19 T20 T21 -/
import Derived.Test.YthgaepodbpcjdaaGreatPart05
import Derived.Test.YthgaepodbpcjdaaGreatPart00
set_option linter.all false
namespace Orq
theorem Zjx {p:List Rat} {x:Rat} (h:Rp p x≠0):∃ e:Rat,0<e/\∀ y,x<y->y-x<=e->W7 (ev p y)=Rp p x:=by
 by_cases h0:W7 (ev p x)=0
 ·have hx:=Ux.1 h0;rw [Quv h0] at h ⊢;have hR:0<=Uc x+1:=by have:=Ge x; grind
  obtain ⟨e,e1,e2,e3⟩:=Fo (Qh6 hR p) (Mp (x:=dv p x) λh'=>h (Ux.2 h'));refine ⟨e,e1,λy h1 h2=>?_⟩;have hy:Uc y<=Uc x+1:=by
   have:=Hw x (y-x);have e:x+(y-x)=y:=by grind
   have e':Uc (y-x)=y-x:=by unfold Uc; split <;> grind
   rw [e,e'] at this; grind
  have:=Qi1 (p:=p) (by grind) hy hR h1 h2 Qo e3;rw [hx] at this;rw [<-this]; congr 1; grind
 ·rw [Du h0] at h ⊢;obtain ⟨e,e1,e2⟩:=Q0m h;exact ⟨e,e1,λy h1 h2=>e2 y (by rw [Tq]; constructor <;> grind)⟩
def cq (P:List Rat) (lo hi q:Rat):Int:=if q<=lo then 1 else if hi<q then -1 else if W7 (ev P q)=0 then 0 else if W7 (ev P q)=Rp P lo then 1 else -1
structure Vt (P:List Rat) (L:List (List Rat)) (lo hi:Rat):Prop where
 s:Stm P L
 l:lo<hi
 v:vv L lo=vv L hi+1
variable {P:List Rat} {L:List (List Rat)} {lo hi:Rat}
theorem Di {q:Rat} (h:q<=lo):cq P lo hi q=1:=by unfold cq; rw [if_pos h]
theorem Qcm {q:Rat} (h:lo<hi) (h':hi<q):cq P lo hi q=-1:=by unfold cq; rw [if_neg (by grind),if_pos h']
theorem Lo {q:Rat} (h1:lo<q) (h2:q<=hi):cq P lo hi q=if W7 (ev P q)=0 then 0 else if W7 (ev P q)=Rp P lo then 1 else -1:=by
 unfold cq; rw [if_neg (by grind),if_neg (by grind)]
theorem Vt.two (V:Vt P L lo hi) {q:Rat} (h1:lo<q) (h2:q<=hi):vv L q=vv L lo/\cq P lo hi q=1/\W7 (ev P q)=Rp P lo\/vv L q=vv L hi/\cq P lo hi q≠1/\Rp P q=-Rp P lo/\Rp P lo≠0:=by
 have a:=D6 V.s h1;have b:vv L hi<=vv L q:=by
  rcases Classical.em (q=hi) with e | e
  ·rw [e]; exact Qm _
  ·exact D6 V.s (by grind)
 have hv:=V.v;rcases (show vv L q=vv L lo\/vv L q=vv L hi by omega) with e | e
 ·have hs:=Qoz V.s h1 e.symm;refine .inl ⟨e,?_,hs.s⟩;rw [Lo h1 h2,hs.s,if_neg hs.n,if_pos rfl]
 ·obtain ⟨o1,o2⟩:=Qoy V.s h1 (by omega);refine .inr ⟨e,?_,o2,o1⟩;rw [Lo h1 h2]
  split
  ·decide
  ·rename_i h0;rw [Du h0] at o2;rw [if_neg (by omega)]; decide
theorem Vt.lowlo (V:Vt P L lo hi):Rp P lo≠0:=(Qoy V.s V.l V.v).1
theorem Vt.eq_lo (V:Vt P L lo hi) {q:Rat} (h1:lo<q) (h2:q<=hi) (h:cq P lo hi q=1):vv L q=vv L lo:=by
 rcases V.two h1 h2 with ⟨e,_⟩ | ⟨_,e,_⟩
 ·exact e
 ·exact absurd h e
theorem Vt.eq_hi (V:Vt P L lo hi) {q:Rat} (h1:lo<q) (h2:q<=hi) (h:cq P lo hi q≠1):vv L q=vv L hi:=by
 rcases V.two h1 h2 with ⟨_,e,_⟩ | ⟨e,_⟩
 ·exact absurd e h
 ·exact e
theorem Vt.hi1 (V:Vt P L lo hi):cq P lo hi hi≠1:=λh=>by have:=V.eq_lo V.l Qo h; have:=V.v; omega
theorem Vt.cut (V:Vt P L lo hi):Cut (cq P lo hi) where
 val q:=by unfold cq; split <;> (try split) <;> (try split) <;> (try split) <;> simp
 mono q r h h1:=by
  have hq:lo<q:=by
   rcases Uq q lo with e | e
   ·exact absurd (Di e) h1
   ·exact e
  rcases Uq r hi with e | e
  ·have e1:=V.eq_hi hq (by grind) h1;rcases V.two (q:=r) (by grind) e with ⟨e2,_⟩ | ⟨e2,_,e3,e4⟩
   ·have:=D6 V.s h; have:=V.v; omega
   ·have hs:=Qoz V.s h (by omega);rcases V.two hq (by grind) with ⟨e5,_⟩ | ⟨_,_,e5,_⟩
    ·have:=V.v; omega
    ·rw [Lo (by grind) e,hs.s,if_neg hs.n,e5,if_neg (by omega)]
  ·exact Qcm V.l e
 up q h:=by
  rcases Uq q lo with e | e
  ·obtain ⟨d,dp,hd⟩:=Zjx V.lowlo;obtain ⟨f,fp,f1,f2⟩:=min2 (a:=d) (b:=hi-lo) dp (by have:=V.l; grind);have h1:lo<lo+f:=by clear hd; grind
   have h2:lo+f<=hi:=by clear hd; grind
   have:=hd (lo+f) h1 (by clear hd; grind);exact ⟨lo+f,by clear hd; grind,by rw [Lo h1 h2,this,if_neg V.lowlo,if_pos rfl]⟩
  ·have hh:q<=hi:=by
    rcases Uq q hi with e' | e'
    ·exact e'
    ·have:=Qcm (P:=P) V.l e'; omega
   rcases V.two e hh with ⟨e1,_,e2⟩ | ⟨_,e1,_⟩
   ·have hn:q≠hi:=λh=>by rw [h] at e1; have:=V.v; omega
    obtain ⟨d,dp,hd⟩:=Q0m (p:=P) (x:=q) (by rw [e2]; exact V.lowlo);obtain ⟨f,fp,f1,f2⟩:=min2 (a:=d) (b:=hi-q) dp (by clear hd; grind);have:=hd (q+f) (by rw [Tq]; clear hd; constructor <;> grind);exact ⟨q+f,by clear hd; grind,by rw [Lo (by clear hd; grind) (by clear hd; grind),this,e2,if_neg V.lowlo,if_pos rfl]⟩
   ·exact absurd h e1
 dn q h:=by
  have hq:lo<q:=by
   rcases Uq q lo with e | e
   ·have:=Di (P:=P) (hi:=hi) e; omega
   ·exact e
  rcases Uq q hi with e | e
  ·rw [Lo hq e] at h
   split at h
   ·cases h
   rename_i h0
   split at h
   ·cases h
   rename_i h1;obtain ⟨d,dp,hd⟩:=Q0m h0;obtain ⟨f,fp,f1,f2⟩:=min2 (a:=d) (b:=(q-lo) / 2) dp (Dk (by clear hd; grind) (by decide));have h2:(q-lo) / 2*2=q-lo:=Fi (by decide);have:=hd (q-f) (by rw [Tq]; clear hd; constructor <;> grind);exact ⟨q-f,by clear hd; grind,by rw [Lo (by clear hd; grind) (by clear hd; grind),this,if_neg h0,if_neg h1]⟩
  ·have h2:(q-hi) / 2*2=q-hi:=Fi (by decide);exact ⟨q-(q-hi) / 2,by grind,Qcm V.l (by grind)⟩
 lo:=⟨lo,Di Qo⟩
 hi:=⟨hi+1,Qcm V.l (by grind)⟩
theorem Vt.van (V:Vt P L lo hi):Lz P (cq P lo hi):=by
 have hc:=V.cut;rcases Ot hc P with h | ⟨s,hs,h⟩
 ·exact h
 ·exfalso;have e1:s=Rp P lo:=by
   obtain ⟨x,hx,hx1⟩:=Qye hc h;obtain ⟨q,q1,q2,q3⟩:=Qh5 hc hx (Di (P:=P) (hi:=hi) (Qo (a:=lo)));have hq:q<=hi:=by
    rcases Uq q hi with e | e
    ·exact e
    ·have:=Qcm (P:=P) V.l e; omega
   rcases V.two q3 hq with ⟨_,_,e⟩ | ⟨_,e,_⟩
   ·rw [<-hx1 q q1 (Qp q2),e]
   ·exact absurd q1 e
  rcases hc.val hi with e | e | e
  ·exact V.hi1 e
  ·have h0:=Qrd hc e h;rw [Lo V.l Qo] at e
   split at e
   ·omega
   ·split at e <;> omega
  ·obtain ⟨y,hy,hy1⟩:=Ql5 hc h;obtain ⟨q,q1,q2,q3⟩:=Qt5 hc hy e;have hq:lo<q:=hc.lt (Di (P:=P) (hi:=hi) (Qo (a:=lo))) q1;have:=hy1 q q1 (Qp q2);rw [Lo hq (Qp q3),this,if_neg hs,if_pos e1] at q1;cases q1
def Quj (w:List Rat) (lo hi:Rat):Prop:=W7 (ev w hi)=0\/W7 (ev w hi)≠Rp w lo
theorem Vt.has (V:Vt P L lo hi) {w u:List Rat} (hf:∀ t,ev P t=ev w t*ev u t) {a b:Rat} (h1:lo<=a) (h2:a<b) (h3:b<=hi):Quj w a b↔Lz w (cq P lo hi)/\cq P lo hi a=1/\cq P lo hi b≠1:=by
 have hc:=V.cut;have smno:vv L a=vv L b->¬Quj w a b:=λh hh=>by
  have:=Qa5 V.s hf h2 h;rcases hh with e | e
  ·rw [this.s] at e; exact this.n e
  ·exact e this.s
 by_cases ha:cq P lo hi a=1
 ·by_cases hb:cq P lo hi b=1
  ·have e1:=V.eq_lo (by grind) h3 hb;have e2:vv L a=vv L lo:=by
    rcases Classical.em (lo=a) with e | e
    ·rw [e]
    ·exact V.eq_lo (by grind) (by grind) ha
   exact ⟨λh=>absurd h (smno (by omega)),λh=>absurd hb h.2.2⟩
  ·have e1:=V.eq_hi (by grind) h3 hb;have e2:vv L a=vv L lo:=by
    rcases Classical.em (lo=a) with e | e
    ·rw [e]
    ·exact V.eq_lo (by grind) (by grind) ha
   have left:∀ s,LS w (cq P lo hi) s->s=Rp w a:=λs hs=>by
    obtain ⟨x,hx,hx1⟩:=hs;obtain ⟨q,q1,q2,q3⟩:=Qh5 hc hx ha;have hqb:q<b:=by
     rcases Uq b q with e | e
     ·rcases Classical.em (b=q) with e' | e'
      ·rw [e'] at hb; exact absurd q1 hb
      ·have:=hc.mono b q (by clear hx1 smno; grind) hb; omega
     ·exact e
    have:=V.eq_lo (q:=q) (by clear hx1 smno; grind) (by clear hx1 smno; grind) q1;rw [<-(Qa5 V.s hf q3 (by omega)).s,hx1 q q1 (Qp q2)]
   have right:∀ s,RS w (cq P lo hi) s->cq P lo hi b=-1->s=W7 (ev w b):=λs hs hb=>by
    obtain ⟨y,hy,hy1⟩:=hs;obtain ⟨q,q1,q2,q3⟩:=Qt5 hc hy hb;have hqa:=hc.lt ha q1;have:=V.eq_hi (q:=q) (by clear hy1 smno; grind) (by clear hy1 smno; grind) (by omega);have hs:=Qa5 V.s hf q3 (by omega);have hl:=hy1 q q1 (Qp q2);have h0:W7 (ev w q)≠0:=by
     have hs2:=Qa5 V.s hf (x:=q) (y:=b) q3 (by omega);intro h0;obtain ⟨r,r1,r2⟩:=hc.dn q q1;have har:=hc.lt ha r2;have:=V.eq_hi (q:=r) (by clear hy1 smno; grind) (by clear hy1 smno; grind) (by omega);have hs3:=Qa5 V.s hf (x:=r) (y:=q) r1 (by omega);have hs4:=hs3.s;rw [h0] at hs4; exact hs3.n hs4.symm
    rw [hs.s,Du h0,hl]
   refine ⟨λh=>⟨?_,ha,hb⟩,λ⟨hw,_,_⟩=>?_⟩
   ·rcases Ot hc w with e | ⟨s,hs0,hs⟩
    ·exact e
    ·exfalso;have l1:=left s (Qye hc hs);have r1:W7 (ev w b)=s:=by
      rcases hc.val b with e | e | e
      ·exact absurd e hb
      ·exact Qrd hc e hs
      ·exact (right s (Ql5 hc hs) e).symm
     rcases h with h | h
     ·exact hs0 (by rw [<-r1]; exact h)
     ·exact h (by rw [r1,l1])
   ·rcases hc.val b with e | e | e
    ·exact absurd e hb
    ·exact .inl (Ux.2 (Qfh hc e hw))
    ·obtain ⟨s,hs0,hs⟩:=Qxi hc V.s hf hw;have l1:=left _ (Q53 hc hw (Qye hc hs) hs0);have r1:=right _ (Qoj hc hw (Ql5 hc hs) hs0) e;exact .inr (by rw [<-l1,<-r1]; omega)
 ·have hla:lo<a:=by
   rcases Classical.em (lo=a) with e | e
   ·rw [<-e] at ha; exact absurd (Di Qo) ha
   ·grind
  have hb:cq P lo hi b≠1:=by have:=hc.mono a b h2 ha; omega
  have e1:=V.eq_hi hla (by grind) ha;have e2:=V.eq_hi (q:=b) (by grind) h3 hb;exact ⟨λh=>absurd h (smno (by omega)),λh=>absurd h.2.1 ha⟩
theorem Qp1 {c c':Rat->Int} (hc:Cut c) (hc':Cut c') {q:Rat} (h:c q≠c' q):∃ r,(c r=-1/\c' r=1)\/(c r=1/\c' r=-1):=by
 rcases hc.val q with e | e | e <;> rcases hc'.val q with e' | e' | e'
 ·omega
 ·obtain ⟨r,r1,r2⟩:=hc.up q e;exact ⟨r,.inr ⟨r2,hc'.mono q r r1 (by omega)⟩⟩
 ·exact ⟨q,.inr ⟨e,e'⟩⟩
 ·obtain ⟨r,r1,r2⟩:=hc'.up q e';exact ⟨r,.inl ⟨hc.mono q r r1 (by omega),r2⟩⟩
 ·omega
 ·obtain ⟨r,r1,r2⟩:=hc'.dn q e';exact ⟨r,.inr ⟨hc.mono' r1 (by omega),r2⟩⟩
 ·exact ⟨q,.inl ⟨e,e'⟩⟩
 ·obtain ⟨r,r1,r2⟩:=hc.dn q e;exact ⟨r,.inl ⟨r2,hc'.mono' r1 (by omega)⟩⟩
 ·omega
theorem Vt.uniq (V:Vt P L lo hi) {c:Rat->Int} (hc:Cut c) (h1:c lo=1) (h2:c hi≠1) (hv:Lz P c) (q:Rat):c q=cq P lo hi q:=by
 rcases Classical.em (c q=cq P lo hi q) with e | e
 ·exact e
 ·exfalso;obtain ⟨r,⟨r1,r2⟩ | ⟨r1,r2⟩⟩:=Qp1 hc V.cut e
  ·have hl:=hc.lt h1 r1;have hh:r<=hi:=by
    rcases Uq r hi with e | e
    ·exact e
    ·have:=Qcm (P:=P) V.l e; omega
   have:=V.eq_lo hl hh r2;exact Q6i V.s (w:=P) (u:=[1]) (λt=>by rw [G8]; grind) (x:=lo) (y:=r) (by omega) hc h1 (by omega) hv
  ·have hl:lo<r:=by
    rcases Uq r lo with e | e
    ·have:=Di (P:=P) (hi:=hi) e; omega
    ·exact e
   have hh:r<=hi:=by
    rcases Uq r hi with e | e
    ·exact e
    ·have:=hc.mono hi r e h2; omega
   have:=V.eq_hi hl hh (by omega);exact Q6i V.s (w:=P) (u:=[1]) (λt=>by rw [G8]; grind) (x:=r) (y:=hi) (by omega) hc r1 h2 hv
theorem Vt.same (V:Vt P L lo hi) {P':List Rat} {L':List (List Rat)} {lo' hi':Rat} (V':Vt P' L' lo' hi') {g u u' U W:List Rat} {k:Rat} (hk:k≠0) (h1:∀ t,ev P t=ev g t*ev u t) (h2:∀ t,ev P' t=ev g t*ev u' t) (h3:∀ t,k*ev g t=ev U t*ev P t+ev W t*ev P' t) {a b:Rat} (ha1:lo<=a) (ha2:lo'<=a) (ha:a=lo\/a=lo') (hb1:b<=hi) (hb2:b<=hi') (hb:b=hi\/b=hi'):(a<b/\Quj g a b)↔∀ q,cq P lo hi q=cq P' lo' hi' q:=by
 have hc:=V.cut;have hc':=V'.cut;constructor
 ·rintro ⟨hab,hg⟩
  obtain ⟨g1,g2,g3⟩:=(V.has h1 ha1 hab hb1).1 hg;obtain ⟨g4,g5,g6⟩:=(V'.has h2 ha2 hab hb2).1 hg;intro q;refine (V.uniq hc' (by
   rcases Classical.em (lo=a) with e | e
   ·rw [e]; exact g5
   ·exact hc'.mono' (q:=lo) (r:=a) (by grind) (by omega)) (λh=>?_) (Tg hc' h1 g4) q).symm
  rcases Classical.em (b=hi) with e | e
  ·rw [<-e] at h; exact g6 h
  ·have:=hc'.mono b hi (by grind) g6; omega
 ·intro h;have hcc:cq P' lo' hi'=cq P lo hi:=funext λq=>(h q).symm
  have e1:cq P lo hi a=1:=by
   rcases ha with rfl | rfl
   ·exact Di Qo
   ·rw [h]; exact Di Qo
  have e2:cq P lo hi b≠1:=by
   rcases hb with rfl | rfl
   ·exact V.hi1
   ·rw [h]; exact V'.hi1
  have hab:a<b:=by
   rcases Uq b a with e | e
   ·rcases Classical.em (b=a) with e' | e'
    ·rw [e'] at e2; exact absurd e1 e2
    ·have:=hc.mono b a (by grind) e2; omega
   ·exact e
  have v1:=V.van;have v2:=V'.van;rw [hcc] at v2;have hg:Lz g (cq P lo hi):=by
   have a1:Lz (Fa U P) (cq P lo hi):=Tg hc (p:=P) (q:=U) (λt=>by rw [W9]; grind) v1;have a2:Lz (Fa W P') (cq P lo hi):=Tg hc (p:=P') (q:=W) (λt=>by rw [W9]; grind) v2;have a3:=Qhd (λt=>U7 t _ _) a1 a2;refine Qmf hc (k:=1 / k) (λt=>?_) a3;rw [U7,W9,W9,<-h3];have:1 / k*(k*ev g t)=1 / k*k*ev g t:=by grind
   rw [this,show 1 / k*k=1 from Zc hk]; grind
  exact ⟨hab,(V.has h1 ha1 hab hb1).2 ⟨hg,e1,e2⟩⟩
end Orq
namespace Orq
theorem Q6z:∀ (M:Nat) (f:Nat->Nat),(∀ i,i<=M->f i<M)->∃ i j,i<j/\j<=M/\f i=f j
 | 0,f,h=>absurd (h 0 (Qm _)) (Nat.not_lt_zero _)
 |
  M+1,f,h=>by
  rcases Classical.em (∃ i,i<=M/\f i=f (M+1)) with ⟨i,h1,h2⟩ | hn
  ·exact ⟨i,M+1,by omega,Qm _,h2⟩
  ·have hne:∀ i,i<=M->f i≠f (M+1):=λi hi e=>hn ⟨i,hi,e⟩
   obtain ⟨i,j,h1,h2,h3⟩:=Q6z M (λi=>if f i=M then f (M+1) else f i) λi hi=>by
    have a1:=h i (by omega);have a2:=h (M+1) (Qm _);have a3:=hne i hi;show (if f i=M then f (M+1) else f i)<M
    split <;> omega
   refine ⟨i,j,h1,by omega,?_⟩;have a1:=hne i (by omega);have a2:=hne j h2
   split at h3 <;> split at h3 <;> omega
def dg (B k i:Nat):Nat:=k / B^i % B
theorem Qxg (B k i:Nat):dg B k (i+1)=dg B (k / B) i:=by unfold dg; rw [Nat.pow_succ,Nat.mul_comm,Nat.div_div_eq_div_mul]
theorem Q4f {B:Nat}:∀ (N:Nat) {k k':Nat},k<B^N->k'<B^N->(∀ i,i<N->dg B k i=dg B k' i)->k=k'
 | 0,k,k',h,h',_=>by rw [Y4] at h h'; omega
 |
  N+1,k,k',h,h',he=>by
  have h0:=he 0 (by omega);unfold dg at h0;rw [Y4,Nat.div_one,Nat.div_one] at h0;have hB:0<B:=by
   rcases Q5 B with e | e
   ·rw [e,Zr,Y3] at h; omega
   ·exact e
  have h1:=Q4f N (k:=k / B) (k':=k' / B) (X1 (by rw [Zp,<-Zr]; exact h)) (X1 (by rw [Zp,<-Zr]; exact h')) λi hi=>by
   rw [<-Qxg,<-Qxg]; exact he (i+1) (by omega)
  rw [<-Nat.mod_add_div k B,<-Nat.mod_add_div k' B,h0,h1]
def cd (B:Nat):Nat->(Nat->Nat)->Nat
 | 0,_=>0
 | E+1,x=>x 0+B*cd B E λe=>x (e+1)
theorem Zd9 {B:Nat}:∀ (E:Nat) {x:Nat->Nat},(∀ e,e<E->x e<B)->cd B E x<B^E
 | 0,_,_=>by simp [cd]
 |
  E+1,x,h=>by
  have h1:=h 0 (by omega);have h2:=Zd9 E (x:=λe=>x (e+1)) λe he=>h (e+1) (by omega)
  simp only [cd];have h3:B*cd B E (λe=>x (e+1))+B<=B*B^E:=by
   rw [<-Nat.mul_succ]; exact Zt _ h2
  rw [Zr,Zp (B^E)]; omega
theorem Q30 {B:Nat}:∀ (E:Nat) {x y:Nat->Nat},(∀ e,e<E->x e<B)->(∀ e,e<E->y e<B)->cd B E x=cd B E y->∀ e,e<E->x e=y e
 | 0,_,_,_,_,_,e,he=>by omega
 |
  E+1,x,y,hx,hy,h,e,he=>by
  have h1:=hx 0 (by omega);have h2:=hy 0 (by omega);simp only [cd] at h;have e0:x 0=y 0:=by
   have:=congrArg (· % B) h;simp only [Vz] at this;rwa [Xn h1,Xn h2] at this
  have e1:cd B E (λe=>x (e+1))=cd B E (λe=>y (e+1)):=Nat.eq_of_mul_eq_mul_left (by omega:0<B) (by omega);cases e with
  | zero=>exact e0
  | succ e=>exact Q30 E (λe he=>hx (e+1) (by omega)) (λe he=>hy (e+1) (by omega)) e1 e (by omega)
def sm:Nat->(Nat->Int)->Int
 | 0,_=>0
 | n+1,f=>sm n f+f n
theorem Q71 (f g:Nat->Int):∀ n,sm n (λi=>f i-g i)=sm n f-sm n g
 | 0=>rfl
 | n+1=>by simp only [sm,Q71 f g n]; omega
theorem Bu {f g:Nat->Int}:∀ n,(∀ i,i<n->f i=g i)->sm n f=sm n g
 | 0,_=>rfl
 | n+1,h=>by simp only [sm,Bu n (λi hi=>h i (by omega)),h n (by omega)]
theorem Q70 {f:Nat->Int} {b:Nat}:∀ n,(∀ i,i<n->(f i).natAbs<=b)->(sm n f).natAbs<=n*b
 | 0,_=>by simp [sm]
 |
  n+1,h=>by
  have h1:=Q70 n λi hi=>h i (by omega)
  have h2:=h n (by omega);simp only [sm];rw [Z5]; omega
theorem Qae {f:Nat->Int}:∀ n,(∀ i,i<n->f i=0)->sm n f=0
 | 0,_=>rfl
 | n+1,h=>by simp only [sm,Qae n (λi hi=>h i (by omega)),h n (by omega)]; rfl
theorem Qvs (f:Nat->Int) (m:Nat):∀ n,sm (m+n) f=sm m f+sm n λi=>f (m+i)
 | 0=>by simp [sm]
 | n+1=>by rw [<-J9]; simp only [sm,Qvs f m n]; omega
theorem Qvt (f:Nat->Int) (J:Nat):∀ b,sm (b*J) f=sm b λi=>sm J λj=>f (i*J+j)
 | 0=>by simp [sm]
 | b+1=>by rw [Z5,Qvs,Qvt f J b]; rfl
theorem Qjr {f:Nat->Int} {k:Nat}:∀ n,k<n->(∀ i,i<n->i≠k->f i=0)->sm n f=f k
 | 0,h,_=>by omega
 |
  n+1,h,h1=>by
  simp only [sm];rcases Y8 (Nat.le_of_lt_succ h) with e | e
  ·rw [Qjr n e λi hi=>h1 i (by omega),h1 n (by omega) (by omega)]; omega
  ·subst e; rw [Qae k λi hi=>h1 i (by omega) (by omega)]; omega
theorem Zh1 {M:Nat->Nat->Int} {h N E H:Nat} (hM:∀ e i,(M e i).natAbs<=h) (hc:(2*(N*(h*H))+1)^E<(H+1)^N) :
 ∃ v:Nat->Int,(∀ i,(v i).natAbs<=H)/\(∃ i,i<N/\v i≠0)/\∀ e,e<E->sm N (λi=>M e i*v i)=0:=by
 obtain ⟨T,hT⟩:=nmE (N*(h*H));rw [<-hT] at hc;have hv:∀ k i,dg (H+1) k i<=H:=λk i=>Nat.le_of_lt_succ (Z9 _ (by omega))
 have hs:∀ k e,(sm N λi=>M e i*(dg (H+1) k i:Int)).natAbs<=T:=λk e=>by
  rw [hT];refine Q70 N λi _=>?_
  rw [Ye,Xh];exact Zk (hM e i) (hv k i)
 have him:∀ k e,((sm N λi=>M e i*(dg (H+1) k i:Int))+T).toNat<2*T+1:=λk e=>by have:=hs k e; omega
 obtain ⟨i,j,h1,h2,h3⟩:=Q6z ((2*T+1)^E) (λk=>cd (2*T+1) E λe=>((sm N λi=>M e i*(dg (H+1) k i:Int))+T).toNat) λk _=>Zd9 E λe _=>him k e
 have h4:=Q30 E (λe _=>him i e) (λe _=>him j e) h3;refine ⟨λn=>(dg (H+1) i n:Int)-dg (H+1) j n,λn=>?_,?_,λe he=>?_⟩
 ·have a1:=hv i n;have a2:=hv j n;show ((dg (H+1) i n:Int)-dg (H+1) j n).natAbs<=H;omega
 ·rcases Classical.em (∃ n,n<N/\(dg (H+1) i n:Int)-dg (H+1) j n≠0) with e | e
  ·exact e
  ·exfalso;have:i=j:=Q4f (B:=H+1) N (by omega) (by omega) λn hn=>by
    rcases Classical.em (dg (H+1) i n=dg (H+1) j n) with e' | e'
    ·exact e'
    ·exact absurd ⟨n,hn,by omega⟩ e
   omega
 ·have a1:=h4 e he;have a2:=hs i e;have a3:=hs j e;have:(sm N λn=>M e n*(dg (H+1) i n:Int))=sm N λn=>M e n*(dg (H+1) j n:Int):=by omega
  have e1:=Q71 (λn=>M e n*(dg (H+1) i n:Int)) (λn=>M e n*(dg (H+1) j n:Int)) N;rw [this] at e1;rw [Bu N (g:=λn=>M e n*(dg (H+1) i n:Int)-M e n*(dg (H+1) j n:Int)) λn _=>Int.mul_sub _ _ _,e1]; omega
def W4:List Int->Rat->Rat
 | [],_=>0
 | a::p,t=>(a:Rat)+t*W4 p t
def sq:Nat->(Nat->Rat)->Rat
 | 0,_=>0
 | n+1,f=>sq n f+f n
theorem Rq {f g:Nat->Rat}:∀ n,(∀ i,i<n->f i=g i)->sq n f=sq n g
 | 0,_=>rfl
 | n+1,h=>by simp only [sq,Rq n (λi hi=>h i (by omega)),h n (by omega)]
theorem Qvz (f g:Nat->Rat):∀ n,sq n (λi=>f i+g i)=sq n f+sq n g
 | 0=>by simp only [sq]; grind
 | n+1=>by simp only [sq,Qvz f g n]; grind
theorem Om (c:Rat) (f:Nat->Rat):∀ n,sq n (λi=>c*f i)=c*sq n f
 | 0=>by simp only [sq]; grind
 | n+1=>by simp only [sq,Om c f n]; grind
theorem Mv {f:Nat->Rat}:∀ n,(∀ i,i<n->f i=0)->sq n f=0
 | 0,_=>rfl
 | n+1,h=>by simp only [sq,Mv n (λi hi=>h i (by omega)),h n (by omega)]; grind
theorem E6 (f:Nat->Rat):∀ n,sq (n+1) f=f 0+sq n λi=>f (i+1)
 | 0=>by simp only [sq]; grind
 | n+1=>by rw [sq,E6 f n]; simp only [sq]; grind
theorem Ze2 {f:Nat->Rat} {b:Rat}:∀ n,(∀ i,i<n->Uc (f i)<=b)->Uc (sq n f)<=(n:Rat)*b
 | 0,_=>by rw [show ((0:Nat):Rat)=0 from rfl]; simp only [sq,Gn]; grind
 |
  n+1,h=>by
  have h1:=Ze2 n λi hi=>h i (by omega)
  have h2:=h n (by omega);have h3:=Hw (sq n f) (f n);have hn':(((n+1:Nat):Rat))=(n:Rat)+1:=by push_cast; rfl
  rw [hn']; simp only [sq]; clear h; grind
def gc:List Int->Nat->Nat->Int
 | [],_,_=>0
 | c::B,k,j=>(if k=0/\j=0 then c else 0)+(if k=0 then 0 else gc B (k-1) j)-(if j=0 then 0 else gc B k (j-1))
def gB:List Int->Nat
 | []=>0
 | c::B=>max c.natAbs (2*gB B)
theorem Qgs:∀ (B:List Int) (k j:Nat),B.length<=k+j->gc B k j=0
 | [],_,_,_=>rfl
 |
  c::B,k,j,h=>by
  simp only [Q6] at h;simp only [gc];rw [if_neg (by omega)];have e1:(if k=0 then 0 else gc B (k-1) j)=0:=by
   split
   ·rfl
   ·exact Qgs B _ _ (by omega)
  have e2:(if j=0 then 0 else gc B k (j-1))=0:=by
   split
   ·rfl
   ·exact Qgs B _ _ (by omega)
  rw [e1,e2]; rfl
theorem Q46:∀ (B:List Int) (k j:Nat),(gc B k j).natAbs<=gB B
 | [],_,_=>Qi _
 |
  c::B,k,j=>by
  have h1:=Q46 B (k-1) j;have h2:=Q46 B k (j-1);simp only [gc,gB];by_cases hk:k=0 <;> by_cases hj:j=0 <;> simp only [hk,hj,true_and,and_true,false_and,and_false,if_true,if_false] <;> (try subst hk) <;> (try subst hj) <;> omega
theorem Q47:∀ (B:List Int) (b:Nat),B.length=b+1->(gc B 0 b).natAbs=(B.getD b 0).natAbs
 | [],_,h=>by simp at h
 | [c],0,_=>by simp [gc]
 | c::d::B,0,h=>by simp at h
 |
  c::B,b+1,h=>by
  have ih:=Q47 B b (by simpa using h);simp only [gc];simp only [Ju,Q3];rw [if_pos trivial,if_neg (Nat.succ_ne_zero b),<-ih]; omega
def E2 (F:Nat->Nat->Int) (K J:Nat) (x y:Rat):Rat:=sq K λk=>sq J λj=>(F k j:Rat)*(y^k*x^j)
theorem Qt9 (F G:Nat->Nat->Int) (K J:Nat) (x y:Rat):E2 (λk j=>F k j+G k j) K J x y=E2 F K J x y+E2 G K J x y:=by
 unfold E2;rw [<-Qvz];refine Rq K λk _=>?_
 rw [<-Qvz];exact Rq J λj _=>by push_cast; grind
theorem Q4o (c:Int) (F:Nat->Nat->Int) (K J:Nat) (x y:Rat):E2 (λk j=>F k j*c) K J x y=(c:Rat)*E2 F K J x y:=by
 unfold E2;rw [<-Om];refine Rq K λk _=>?_
 rw [<-Om];exact Rq J λj _=>by push_cast; grind
theorem Q4p (φ:Nat->Nat->Nat->Int) (v:Nat->Int) (K J:Nat) (x y:Rat):∀ N,E2 (λk j=>sm N λn=>φ n k j*v n) K J x y=sq N λn=>(v n:Rat)*E2 (φ n) K J x y
 |
  0=>by
  simp only [sq,sm];unfold E2;refine Mv K λk _=>Mv J λj _=>?_
  rw [show ((0:Int):Rat)=0 from rfl]; grind
 |
  N+1=>by
  simp only [sq];rw [<-Q4p φ v K J x y N,<-Q4o,<-Qt9];rfl
theorem Qdj (t:Rat) (i:Nat):∀ k,t^(i+k)=t^i*t^k
 | 0=>by rw [Xu,Xa]; grind
 | k+1=>by rw [<-J9,Z3,Z3,Qdj t i k]; grind
theorem Qjt (f:Nat->Rat):∀ (i n:Nat),sq (i+n) (λk=>if i<=k then f (k-i) else 0)=sq n f
 | i,0=>Mv _ λk hk=>by rw [if_neg (by omega)]
 |
  i,n+1=>by
  rw [<-J9]; simp only [sq];rw [Qjt f i n,if_pos (by omega),Jc]
def shF (i j':Nat) (F:Nat->Nat->Int) (k j:Nat):Int:=if i<=k then (if j'<=j then F (k-i) (j-j') else 0) else 0
theorem Qia (F:Nat->Nat->Int) (i j' K J:Nat) (x y:Rat):E2 (shF i j' F) (i+K) (j'+J) x y=y^i*x^j'*E2 F K J x y:=by
 unfold E2;rw [<-Om,<-Qjt _ i K];refine Rq _ λk _=>?_
 by_cases hk:i<=k
 ·rw [if_pos hk,<-Om,<-Qjt _ j' J];refine Rq _ λj _=>?_
  unfold shF;rw [if_pos hk];by_cases hj:j'<=j
  ·rw [if_pos hj,if_pos hj];have e1:y^k=y^i*y^(k-i):=by rw [<-Qdj]; congr 1; omega
   have e2:x^j=x^j'*x^(j-j'):=by rw [<-Qdj]; congr 1; omega
   rw [e1,e2]; grind
  ·rw [if_neg hj,if_neg hj,show ((0:Int):Rat)=0 from rfl]; grind
 ·rw [if_neg hk];refine Mv _ λj _=>?_
  unfold shF;rw [if_neg hk,show ((0:Int):Rat)=0 from rfl]; grind
def fA (A:List Int) (k j:Nat):Int:=if j=0 then A.getD k 0 else 0
theorem Q6y (y:Rat):∀ (A:List Int) (K:Nat),A.length<=K->sq K (λk=>((A.getD k 0:Int):Rat)*y^k)=W4 A y
 | [],K,_=>by rw [Mv]; rfl; intro i _; simp
 | a::A,0,h=>by simp at h
 |
  a::A,K+1,h=>by
  have ih:=Q6y y A K (by simpa using h);rw [E6];simp only [W4,Zo,Q3,Xa];rw [<-ih,<-Om];have:(sq K λi=>((A.getD i 0:Int):Rat)*y^(i+1))=sq K λi=>y*(((A.getD i 0:Int):Rat)*y^i):=Rq K λi _=>by rw [Z3]; grind
  rw [this]; grind
theorem Zjr (A:List Int) (K J:Nat) (x y:Rat) (h:A.length<=K):E2 (fA A) K (J+1) x y=W4 A y:=by
 rw [<-Q6y y A K h];refine Rq K λk _=>?_
 rw [E6,Mv]
 ·simp only [fA,if_true,Xa]; grind
 ·intro j _;simp only [fA];rw [if_neg (by omega),show ((0:Int):Rat)=0 from rfl]; grind
theorem Zgk (x y:Rat):∀ (B:List Int) (K J:Nat),B.length<=K->B.length<=J->E2 (gc B) K J x y=W4 B (y-x)
 |
  [],K,J,_,_=>by
  unfold E2;simp only [gc,W4];exact Mv K λk _=>Mv J λj _=>by rw [show ((0:Int):Rat)=0 from rfl]; grind
 | c::B,0,J,h,_=>by simp at h
 | c::B,K+1,0,_,h=>by simp at h
 |
  c::B,K+1,J+1,h1,h2=>by
  have i1:=Zgk x y B K (J+1) (by simpa using h1) (by simp at h2; omega);have i2:=Zgk x y B (K+1) J (by simp at h1; omega) (by simpa using h2);have s1:=Qia (gc B) 1 0 K (J+1) x y;have s2:=Qia (gc B) 0 1 (K+1) J x y;rw [Zu,Jj 1 K] at s1;rw [Zu,Jj 1 J] at s2;rw [i1] at s1;rw [i2] at s2;have e0:E2 (fA [c]) (K+1) (J+1) x y=(c:Rat):=by rw [Zjr [c] (K+1) J x y (by simp)]; simp only [W4]; grind
  have e1:gc (c::B)=λk j=>(fA [c] k j+shF 1 0 (gc B) k j)+shF 0 1 (gc B) k j*(-1):=by
   funext k j;simp only [gc,fA,shF];by_cases hk:k=0 <;> by_cases hj:j=0
   ·subst hk; subst hj; simp
   ·subst hk; simp [hj,show 1<=j by omega]
    try omega
   ·subst hj;obtain ⟨m,rfl⟩:∃ m,k=m+1:=⟨k-1,by omega⟩;simp
   ·obtain ⟨m,rfl⟩:∃ m,k=m+1:=⟨k-1,by omega⟩;obtain ⟨i,rfl⟩:∃ i,j=i+1:=⟨j-1,by omega⟩;simp; omega
  rw [e1,Qt9 (λk j=>fA [c] k j+shF 1 0 (gc B) k j) (λk j=>shF 0 1 (gc B) k j*(-1)),Qt9 (fA [c]) (shF 1 0 (gc B)),Q4o,e0,s1,s2];simp only [W4,Xa,show y^1=y by rw [Z3,Xa]; grind,show x^1=x by rw [Z3,Xa]; grind];rw [show (((-1:Int)):Rat)=-1 from rfl];grind
def phi (A B:List Int) (b J J' n k j:Nat):Int:=if n<b*J then shF (n / J) (n % J) (fA A) k j else shF ((n-b*J) / J') ((n-b*J) % J') (gc B) k j
theorem Q7u {F:Nat->Nat->Int} {h:Nat} (hF:∀ k j,(F k j).natAbs<=h) (i j' k j:Nat):(shF i j' F k j).natAbs<=h:=by
 unfold shF; split
 ·split
  ·exact hF _ _
  ·exact Qi _
 ·exact Qi _
theorem Zeo {i b J j:Nat} (hi:i<b) (hj:j<J):i*J+j<b*J:=by
 have:(i+1)*J<=b*J:=Qy J hi;rw [Z5] at this; omega
theorem Qeo {i J j:Nat} (hj:j<J):(i*J+j) / J=i/\(i*J+j) % J=j:=by
 rw [Zp,Wm (by omega),Wn,Vp hj,Xn hj]; exact ⟨by omega,rfl⟩
theorem Qma (A B:List Int) (a b J J':Nat) (v:Nat->Int) (k j:Nat):sm (b*J+a*J') (λn=>phi A B b J J' n k j*v n) =
 (sm b λi=>sm J λj1=>shF i j1 (fA A) k j*v (i*J+j1))+sm a λi=>sm J' λj1=>shF i j1 (gc B) k j*v (b*J+(i*J'+j1)):=by
 rw [Qvs,Qvt,Qvt];congr 1
 ·refine Bu b λi hi=>Bu J λj1 hj=>?_
  unfold phi;rw [if_pos (Zeo hi hj),(Qeo hj).1,(Qeo hj).2]
 ·refine Bu a λi hi=>Bu J' λj1 hj=>?_
  unfold phi;rw [if_neg (by omega),Jc,(Qeo hj).1,(Qeo hj).2]
theorem Zjo (A:List Int) (v:Nat->Int) {i J k j:Nat} (hj:j<J):(sm J λj1=>shF i j1 (fA A) k j*v (i*J+j1))=if i<=k then A.getD (k-i) 0*v (i*J+j) else 0:=by
 rw [Qjr (k:=j) J hj λj1 _ hne=>?_]
 ·unfold shF fA;by_cases h:i<=k
  ·rw [if_pos h,if_pos h,if_pos (Qm _),if_pos (Ks _)]
  ·rw [if_neg h,if_neg h,Ym]
 ·unfold shF fA;by_cases h:i<=k
  ·rw [if_pos h];by_cases h':j1<=j
   ·rw [if_pos h',if_neg (by omega),Ym]
   ·rw [if_neg h',Ym]
  ·rw [if_neg h,Ym]
section
variable {A B:List Int} {a b J J':Nat} (hA:A.length=a+1) (hB:B.length=b+1) (lA:A.getD a 0≠0) (lB:B.getD b 0≠0) (hJ:J=J'+b) {v:Nat->Int} (hW:∀ k j,k<a+b->j<J->sm (b*J+a*J') (λn=>phi A B b J J' n k j*v n)=0)
include hA lA hW in
theorem Zed {jj:Nat} (hj:jj<J) (hV:∀ k,a<=k->k<a+b->(sm a λi=>sm J' λj1=>shF i j1 (gc B) k jj*v (b*J+(i*J'+j1)))=0):∀ d i,i<b->b-i<=d->v (i*J+jj)=0:=by
 intro d
 induction d with
 | zero=>intro i hi hd; omega
 |
  succ d ih =>
  intro i hi hd;have h1:=hW (i+a) jj (by omega) hj;rw [Qma,hV (i+a) (by omega) (by omega)] at h1;rw [Bu b (λi' hi'=>Zjo A v hj)] at h1;rw [Qjr (k:=i) b hi λi' hi' hne=>?_] at h1
  ·rw [if_pos (by omega),Jc,Int.add_zero] at h1;rcases Jy.1 h1 with h2 | h2
   ·exact absurd h2 lA
   ·exact h2
  ·rcases Zb i i' with h | h
   ·rw [ih i' hi' (by omega)]; simp
   ·rw [if_pos (by omega),Qj,Q0 (by omega)]; simp
include hA hB lA lB hJ hW in
theorem Zjp:∀ d js,js<J'->J'-js<=d->∀ i,i<a->v (b*J+(i*J'+js))=0:=by
 intro d
 induction d with
 | zero=>intro js hi hd; omega
 |
  succ d ih =>
  intro js hjs hd i hi;have hin:∀ i' k,i'<a->(sm J' λj1=>shF i' j1 (gc B) k (js+b)*v (b*J+(i'*J'+j1)))=if i'=k then gc B 0 b*v (b*J+(i'*J'+js)) else 0:=λi' k hi'=>by
   rw [Qjr (k:=js) J' hjs λj1 hj1 hne=>?_]
   ·unfold shF;by_cases h:i'<=k
    ·rw [if_pos h,if_pos (by omega),Jc];by_cases h':i'=k
     ·rw [if_pos h',h',Ks]
     ·rw [if_neg h',Qgs B _ _ (by omega),Ym]
    ·rw [if_neg h,if_neg (by omega),Ym]
   ·rcases Zb js j1 with h | h
    ·rw [ih j1 hj1 (by omega) i' hi',Kn]
    ·unfold shF;by_cases h':i'<=k
     ·rw [if_pos h',if_pos (by omega),Qgs B _ _ (by omega),Ym]
     ·rw [if_neg h',Ym]
  have hU:=Zed hA lA hW (jj:=js+b) (by omega) (λk hk hk'=>Qae a λi' hi'=>by rw [hin i' k hi',if_neg (by omega)]) (b+1);have h1:=hW i (js+b) (by omega) (by omega);rw [Qma,Bu a (λi' hi'=>hin i' i hi')] at h1;rw [Qae b λi' hi'=>by
   rw [Zjo A v (by omega),hU i' hi' (by omega)]; simp] at h1
  rw [Qjr (k:=i) a hi λi' hi' hne=>if_neg hne,if_pos rfl,Int.zero_add] at h1;rcases Jy.1 h1 with h2 | h2
  ·have:=Q47 B b hB; rw [h2] at this; omega
  ·exact h2
include hA hB lA lB hJ hW in
theorem Q2b:∀ n,n<b*J+a*J'->v n=0:=by
 intro n hn;have hV:=Zjp hA hB lA lB hJ hW;rcases Zb n (b*J) with h | h
 ·have hJp:0<J:=by
   rcases Q5 J with e | e
   ·rw [e,Y3] at h; omega
   ·exact e
  have e1:=Z9 n hJp;have e2:n / J<b:=X1 (by rw [Zp]; exact h);have:=Zed hA lA hW e1 (λk _ _=>Qae a λi hi=>Qae J' λj1 hj1=>by rw [hV J' j1 hj1 (by omega) i hi,Kn]) (b+1) (n / J) e2 (Qd (Nat.sub_le _ _) (Nat.le_succ _));rwa [Zp,Xf] at this
 ·have hJp:0<J':=by
   rcases Q5 J' with e | e
   ·rw [e,Y3] at hn; omega
   ·exact e
  have e1:=Z9 (n-b*J) hJp;have e2:(n-b*J) / J'<a:=X1 (by rw [Zp J' a]; omega);have:=hV J' _ e1 (by omega) _ e2;rw [Zp ((n-b*J) / J'),Xf] at this;rwa [show b*J+(n-b*J)=n by omega] at this
end
theorem Qab {R x:Rat} (h1:1<=R) (hx:Uc x<=R):∀ k:Nat,Uc (x^k)<=R^k/\1<=R^k
 | 0=>by rw [Xa,Xa]; exact ⟨by decide,by decide⟩
 |
  k+1=>by
  obtain ⟨i1,i2⟩:=Qab h1 hx k;rw [Z3,Z3];have:=Mj (a:=1) (c:=1) (by decide) i2 (by decide) h1;exact ⟨Fh i1 hx,by grind⟩
theorem Qzc {R:Rat} (h1:1<=R) {i:Nat}:∀ k,i<=k->R^i<=R^k
 | 0,h=>by rw [show i=0 by omega]; exact Qo
 |
  k+1,h=>by
  rcases Y8 h with e | e
  ·have:=Qzc h1 (i:=i) k (by omega);have h2:=(Qab h1 (x:=0) (by rw [Gn]; grind) k).2;rw [Z3];have:=Mj (a:=R^k) (b:=R^k) (c:=1) (d:=R) (by grind) Qo (by decide) h1;grind
  ·rw [e]; exact Qo
theorem Q7t {F:Nat->Nat->Int} {i j' K J:Nat} {x y R X:Rat} {K2 J2:Nat} (h1:1<=R) (hx:Uc x<=R) (hy:Uc y<=R) (hK:K=i+K2) (hJ:J=j'+J2) (hF:E2 F K2 J2 x y=X):Uc (E2 (shF i j' F) K J x y)<=R^(K+J)*Uc X:=by
 subst hK; subst hJ;rw [Qia,hF,Ll];have a1:=(Qab h1 hy i).1;have a2:=(Qab h1 hx j').1;have a3:=Fh a1 a2;rw [<-Qdj] at a3;have a4:=Qzc h1 (i:=i+j') (i+K2+(j'+J2)) (by omega);exact Mj (Ge _) (Zf a3 a4) (Ge _) Qo
theorem Zhx {A B:List Int} {a b h:Nat} (hA:A.length=a+1) (hB:B.length=b+1) (lA:A.getD a 0≠0) (lB:B.getD b 0≠0) (ha:0<a) (hb:0<b) (h0:1<=h) (bA:∀ k,(A.getD k 0).natAbs<=h) (bB:gB B<=h) {J J' N H:Nat} (hJ:J=2*(a*b)) (hJ':J=J'+b) (hN:N=b*J+a*J') (hH:H=(2*(N*h))^(2*(a+b-1))) :
 ∃ w:Nat->Int,(∃ j,j<J/\w j≠0)/\(∀ j,(w j).natAbs<=N*(h*H))/\∀ R:Rat,1<=R->∃ C:Rat,0<=C/\∀ x y,Uc x<=R->Uc y<=R->Uc (sq J λj=>(w j:Rat)*x^j)<=C*(Uc (W4 A y)+Uc (W4 B (y-x))):=by
 have hab:0<a*b:=Yk ha hb;have hbd:∀ n k j,(phi A B b J J' n k j).natAbs<=h:=λn k j=>by
  unfold phi
  split
  ·exact Q7u (λk j=>by unfold fA; split; exact bA k; exact Nat.zero_le _) _ _ _ _
  ·exact Q7u (λk j=>Qd (Q46 B k j) bB) _ _ _ _
 have hJp:0<J:=by omega
 have hNp:1<=N:=by
  have:0<b*J:=Yk hb hJp;omega
 have hNh:1<=N*h:=Yk hNp h0;obtain ⟨E,hE⟩:=nmE ((a+b-1)*J);have hNE:N=E+a*b:=by
  have e1:(a+b-1)*J+J=(a+b)*J:=by
   rw [<-Z5]; congr 1; omega
  have e2:a*J=a*J'+a*b:=by rw [hJ',Xe]
  rw [X4] at e1;omega
 have hc:(2*(N*(h*H))+1)^E<(H+1)^N:=by
  have c1:2*(N*(h*H))+1<=2*(N*h)*(H+1):=by
   rw [Xe,Yj,Xs 2,Xs N]; omega
  refine Z2 (Nat.pow_le_pow_left c1 E) ?_;rw [Nat.mul_pow,hNE,Xc,Zp];refine Nat.mul_lt_mul_of_pos_left ?_ (Zy (by omega));have e1:(2*(N*h))^E=H^(a*b):=by
   rw [hH,<-Wu,hE,hJ]; congr 1;rw [Zp 2 (a+b-1),Xs]
  rw [<-hNE,e1];exact Nat.pow_lt_pow_left (by omega) (by omega)
 obtain ⟨v,v1,⟨n0,n1,n2⟩,v3⟩:=Zh1 (M:=λe n=>phi A B b J J' n (e / J+1) (e % J)) (h:=h) (N:=N) (E:=E) (H:=H) (λe n=>hbd n _ _) hc;have hW:∀ k j,1<=k->k<a+b->j<J->sm N (λn=>phi A B b J J' n k j*v n)=0:=λk j k1 k2 hj=>by
  have:=v3 ((k-1)*J+j) (by rw [hE]; exact Zeo (by omega) hj);rwa [(Qeo hj).1,(Qeo hj).2,show k-1+1=k by omega] at this
 refine ⟨λj=>sm N λn=>phi A B b J J' n 0 j*v n,?_,λj=>?_,λR hR=>?_⟩
 ·rcases Classical.em (∃ j,j<J/\(sm N λn=>phi A B b J J' n 0 j*v n)≠0) with e | e
  ·exact e
  ·exfalso;refine n2 (Q2b hA hB lA lB hJ' (v:=v) (λk j hk hj=>?_) n0 (by rw [<-hN]; exact n1));rw [<-hN];rcases Q5 k with e' | e'
   ·subst e';rcases Classical.em ((sm N λn=>phi A B b J J' n 0 j*v n)=0) with e2 | e2
    ·exact e2
    ·exact absurd ⟨j,hj,e2⟩ e
   ·exact hW k j e' hk hj
 ·refine Q70 N λn _=>?_
  rw [Ye];exact Zk (hbd n 0 j) (v1 n)
 ·have hRp:∀ k:Nat,1<=R^k:=λk=>(Qab hR (x:=0) (by rw [Gn]; grind) k).2
  have hHn:(0:Rat)<=(H:Rat):=Xd;have hNn:(0:Rat)<=(N:Rat):=Xd;refine ⟨(N:Rat)*((H:Rat)*R^(a+b+J)),Pk hNn (Pk hHn (by have:=hRp (a+b+J); grind)),λx y hx hy=>?_⟩;have e1:(sq J λj=>((sm N λn=>phi A B b J J' n 0 j*v n:Int):Rat)*x^j)=E2 (λk j=>sm N λn=>phi A B b J J' n k j*v n) (a+b) J x y:=by
   unfold E2;obtain ⟨m,hm⟩:∃ m,a+b=m+1:=⟨a+b-1,by omega⟩;rw [hm,E6,Mv (n:=m)]
   ·have:(sq J λj=>((sm N λn=>phi A B b J J' n 0 j*v n:Int):Rat)*(y^0*x^j))=sq J λj=>((sm N λn=>phi A B b J J' n 0 j*v n:Int):Rat)*x^j:=Rq J λj _=>by rw [Xa]; grind
    rw [this]; grind
   ·intro k hk;refine Mv J λj hj=>?_
    show ((sm N λn=>phi A B b J J' n (k+1) j*v n:Int):Rat)*_=0;rw [hW (k+1) j (by omega) (by omega) hj,show ((0:Int):Rat)=0 from rfl]; grind
  rw [e1,Q4p];have key:∀ n,n<N->Uc ((v n:Rat)*E2 (phi A B b J J' n) (a+b) J x y)<=(H:Rat)*(R^(a+b+J)*(Uc (W4 A y)+Uc (W4 B (y-x)))):=λn hn=>by
   have hvn:Uc (v n:Rat)<=(H:Rat):=by
    have h1:=v1 n;have h2:(v n)<=(H:Int):=by omega
    have h3:-(H:Int)<=v n:=by omega
    have h2:=X5.2 h2;have h3:=X5.2 h3;rw [V0] at h3;rw [Tq]; exact ⟨h3,h2⟩
   refine Fh hvn ?_;have hRk:=hRp (a+b+J);have n1:=Ge (W4 A y);have n2:=Ge (W4 B (y-x));rcases Zb n (b*J) with h | h
   ·have e:phi A B b J J' n=shF (n / J) (n % J) (fA A):=by funext k j; unfold phi; rw [if_pos h]
    have d1:n / J<b:=X1 (by rw [Zp]; exact h);have d2:=Z9 n hJp;rw [e];refine Zf (Q7t (K2:=a+b-n / J) (J2:=J-n % J) hR hx hy (by omega) (by omega) (X:=W4 A y) ?_) (Mj (by grind) Qo n1 (by grind));obtain ⟨m,hm⟩:∃ m,J-n % J=m+1:=⟨J-n % J-1,by omega⟩;rw [hm]; exact Zjr A _ _ x y (by omega)
   ·have e:phi A B b J J' n=shF ((n-b*J) / J') ((n-b*J) % J') (gc B):=by funext k j; unfold phi; rw [if_neg (by omega)]
    have hJp':0<J':=by
     rcases Q5 J' with e | e
     ·rw [e,Y3] at hN; omega
     ·exact e
    have d1:(n-b*J) / J'<a:=X1 (by rw [Zp J' a]; omega);have d2:=Z9 (n-b*J) hJp';rw [e];refine Zf (Q7t (K2:=a+b-(n-b*J) / J') (J2:=J-(n-b*J) % J') hR hx hy (by omega) (by omega) (X:=W4 B (y-x)) ?_) (Mj (by grind) Qo n2 (by grind));exact Zgk x y B _ _ (by omega) (by omega)
  have:=Ze2 N key;refine Zf this ?_;have:(N:Rat)*((H:Rat)*(R^(a+b+J)*(Uc (W4 A y)+Uc (W4 B (y-x)))))=(N:Rat)*((H:Rat)*R^(a+b+J))*(Uc (W4 A y)+Uc (W4 B (y-x))):=by grind
  rw [this]; exact Qo
end Orq
namespace Orq
theorem Q74 {w:Nat->Int} {x:Rat} {D:Rat} (hx:Uc x*2<=1) (hw:∀ j,Uc (w j:Rat)<=D):∀ J (k:Nat),Uc (sq J λj=>(w (k+j):Rat)*x^j)<=2*D
 | 0,k=>by have:=hw 0; have:=Ge (w 0:Rat); simp only [sq,Gn]; clear hw; grind
 |
  J+1,k=>by
  have ih:=Q74 hx hw J (k+1);rw [E6];have e:(sq J λi=>(w (k+(i+1)):Rat)*x^(i+1))=x*sq J λi=>(w (k+1+i):Rat)*x^i:=by
   rw [<-Om]; exact Rq J λi _=>by rw [Z3,show k+(i+1)=k+1+i by omega]; grind
  rw [e,Xa,Xu];have h1:=hw k;have h2:=Hw ((w k:Rat)*1) (x*sq J λi=>(w (k+1+i):Rat)*x^i);have h3:=Fh (x:=x) (y:=sq J λi=>(w (k+1+i):Rat)*x^i) Qo ih;have h4:=Q7 hx (show (0:Rat)<=D by have:=Ge (w k:Rat); clear hw; grind);have h5:(w k:Rat)*1=w k:=by grind
  rw [h5] at h2 ⊢;clear hw; grind
theorem Qbq {z:Int} (h:z≠0):1<=Uc (z:Rat):=by
 unfold Uc;rcases V1 h with h | h
 ·have:((z:Int):Rat)<((0:Int):Rat):=Jg.2 h;have h2:((1:Int):Rat)<=((-z:Int):Rat):=X5.2 (by omega);rw [if_pos (by simpa using this)];rw [V0] at h2;simpa using h2
 ·have:((0:Int):Rat)<((z:Int):Rat):=Jg.2 h;have h2:((1:Int):Rat)<=((z:Int):Rat):=X5.2 (by omega);rw [if_neg (by
   have:(0:Rat)<z:=by simpa using this
   grind)]
  simpa using h2
theorem Quu {w:Nat->Int} {x:Rat} {D:Rat} (hD:1<=D) (hx0:0<Uc x) (hx:Uc x*(4*D)<=1) (hw:∀ j,Uc (w j:Rat)<=D):∀ J (k:Nat),(∃ j,j<J/\w (k+j)≠0)->Uc x^J / 2<=Uc (sq J λj=>(w (k+j):Rat)*x^j)
 | 0,k,⟨j,h,_⟩=>by omega
 |
  J+1,k,⟨j,h1,h2⟩=>by
  have hx2:Uc x*2<=1:=by
   have:=Mj (a:=Uc x) (c:=2) (Qp hx0) Qo (by decide) (show (2:Rat)<=4*D by clear hw; grind);exact Zf this hx
  have hx1:Uc x<=1:=by clear hw; grind
  have hp:∀ k:Nat,Uc x^k<=1/\0<=Uc x^k:=λk=>by
   induction k with
   | zero=>rw [Xa]; exact ⟨by decide,by decide⟩
   |
    succ k ih =>
    rw [Z3];have:=Mj ih.2 ih.1 (Qp hx0) hx1;have:=Pk ih.2 (Qp hx0);constructor <;> (clear hw; grind)
  rw [E6];have e:(sq J λi=>(w (k+(i+1)):Rat)*x^(i+1))=x*sq J λi=>(w (k+1+i):Rat)*x^i:=by
   rw [<-Om]; exact Rq J λi _=>by rw [Z3,show k+(i+1)=k+1+i by omega]; grind
  rw [e,Xa,Xu k,show (w k:Rat)*1=w k by grind];by_cases h0:w k=0
  ·have hj:j≠0:=λe=>h2 (by rw [e]; exact h0)
   have ih:=Quu hD hx0 hx hw J (k+1) ⟨j-1,by omega,by rw [show k+1+(j-1)=k+j by omega]; exact h2⟩;rw [h0,show ((0:Int):Rat)+x*(sq J λi=>(w (k+1+i):Rat)*x^i)=x*sq J λi=>(w (k+1+i):Rat)*x^i by rw [show ((0:Int):Rat)=0 from rfl]; grind,Ll,Z3];have:=Zv ih (Qp hx0);have e2:Uc x*(Uc x^J / 2)=Uc x^J*Uc x / 2:=by rw [Jx,Jx]; grind
   rw [e2] at this; exact this
  ·have a1:=Qbq h0;have a2:=Q74 hx2 hw J (k+1);have a3:=Fh (x:=x) (y:=sq J λi=>(w (k+1+i):Rat)*x^i) Qo a2;have a4:=Hw ((w k:Rat)+x*sq J λi=>(w (k+1+i):Rat)*x^i) (-(x*sq J λi=>(w (k+1+i):Rat)*x^i));rw [Cx,show (w k:Rat)+(x*sq J λi=>(w (k+1+i):Rat)*x^i)+-(x*sq J λi=>(w (k+1+i):Rat)*x^i)=w k by grind] at a4;have a5:=(hp (J+1)).1;have a6:Uc x^(J+1) / 2*2=Uc x^(J+1):=Fi (by decide);have a7:Uc x*(2*D)*2=Uc x*(4*D):=by grind
   clear hw hp; grind
theorem Zgu {A B:List Int} {a b h:Nat} (hA:A.length=a+1) (hB:B.length=b+1) (lA:A.getD a 0≠0) (lB:B.getD b 0≠0) (ha:0<a) (hb:0<b) (h0:1<=h) (bA:∀ k,(A.getD k 0).natAbs<=h) (bB:gB B<=h) {N D:Nat} (hN:b*(2*(a*b))+a*(2*(a*b)-b)=N) (hD:N*(h*(2*(N*h))^(2*(a+b-1)))<=D) {R d:Rat} (hR:1<=R) (dp:0<d)
 (hs:∀ e:Rat,0<e->∃ q r,Uc q<=R/\Uc r<=R/\d<=Uc (q-r)/\Uc (q-r)*(4*(D:Rat))<=1/\Uc (W4 A q)<e/\Uc (W4 B r)<e):False:=by
 have hab:0<a*b:=Yk ha hb;have hbab:b<=a*b:=by
  have:=Qy b (show 1<=a from ha); omega
 obtain ⟨w,⟨j,hj,hw0⟩,hw,hC⟩:=Zhx hA hB lA lB ha hb h0 bA bB (J:=2*(a*b)) (J':=2*(a*b)-b) rfl (by omega) hN.symm rfl;obtain ⟨C,hC0,hC⟩:=hC (2*R) (by grind);have hw':∀ j,Uc (w j:Rat)<=(D:Rat):=λj=>by
  have h1:=Qd (hw j) hD;have h2:w j<=(D:Int):=by omega
  have h3:-(D:Int)<=w j:=by omega
  have h2:=X5.2 h2;have h3:=X5.2 h3;rw [V0] at h3;rw [Tq]; exact ⟨h3,h2⟩
 have hD1:(1:Rat)<=(D:Rat):=by
  have:=Qbq hw0;exact Zf this (hw' j)
 have hdJ:0<d^(2*(a*b)) / 2:=Dk (Rat.pow_pos dp) (by decide);obtain ⟨e,ep,_,he⟩:=Fo (b:=C*2) (d:=d^(2*(a*b)) / 2) (by grind) hdJ;obtain ⟨q,r,q1,r1,d1,d2,aq,br⟩:=hs e ep;have h1:=hC (q-r) q (by
  have:=Hw q (-r); rw [Cx] at this; have:q-r=q+-r:=by grind
  grind) (by grind)
 rw [show q-(q-r)=r by grind] at h1;have h2:=Quu (x:=q-r) hD1 (by grind) d2 hw' (2*(a*b)) 0 ⟨j,hj,by rw [Zu]; exact hw0⟩;simp only [Zu] at h2;have h3:C*(Uc (W4 A q)+Uc (W4 B r))<=C*(e+e):=Zv (by grind) hC0;have h4:d^(2*(a*b))<=Uc (q-r)^(2*(a*b)):=by
  generalize 2*(a*b)=J
  induction J with
  | zero=>rw [Xa,Xa]; exact Qo
  |
   succ J ih =>
   rw [Z3,Z3];exact Mj (Qp (Rat.pow_pos dp)) ih (Qp dp) d1
 have h5:d^(2*(a*b)) / 2*2=d^(2*(a*b)):=Fi (by decide);have h6:Uc (q-r)^(2*(a*b)) / 2*2=Uc (q-r)^(2*(a*b)):=Fi (by decide);clear hC hs hw hw';grind
def HD (p:List Rat) (n:Nat):Prop:=p.getD n 0≠0/\∀ k,n<k->p.getD k 0=0
theorem Gp:∀ (p q:List Rat) (k:Nat),(Hx p q).getD k 0=p.getD k 0+q.getD k 0
 | [],q,k=>by simp only [Hx,Kb]; grind
 | a::p,[],k=>by simp only [Hx,Kb]; grind
 | a::p,b::q,0=>by simp only [Hx,Zo]
 | a::p,b::q,k+1=>by simp only [Hx,Q3]; exact Gp p q k
theorem Hu (c:Rat):∀ (p:List Rat) (k:Nat),(Nx c p).getD k 0=c*p.getD k 0
 | [],k=>by simp only [Nx,X7,Kb]; grind
 | a::p,0=>by simp [Nx]
 | a::p,k+1=>by have:=Hu c p k; simp only [Nx,Zx,Q3] at *; exact this
theorem Q5g {p:List Rat} {k:Nat} (h:∀ x∈p,x=0):p.getD k 0=0:=by
 rw [Qj];cases e:p[k]? with
 | none=>rfl
 | some x=>exact h x (Qa e)
theorem Ns {p q:List Rat} (h:∀ t,ev p t=ev q t) (k:Nat):p.getD k 0=q.getD k 0:=by
 have h1:=Q5g (k:=k) (Qb6 (p:=Hx p (Nx (-1) q)) λt _ _=>by rw [U7,Uz,h t]; grind);rw [Gp,Hu] at h1; grind
theorem Be:∀ {p:List Rat},(∀ k,p.getD k 0=0)->∀ t,ev p t=0
 | [],_,t=>rfl
 |
  a::p,h,t=>by
  have h0:=h 0;have h1:=Be (p:=p) (λk=>by have:=h (k+1); rwa [Q3] at this) t;rw [Zo] at h0;simp only [ev,h0,h1]; grind
theorem Qim:∀ (p:List Rat),(∀ t,ev p t=0)\/∃ n,n<p.length/\HD p n
 | []=>.inl λ_=>rfl
 |
  a::p=>by
  rcases Qim p with h | ⟨n,hn,h1,h2⟩
  ·rcases Classical.em (a=0) with e | e
   ·exact .inl λt=>by simp only [ev,e,h t]; grind
   ·refine .inr ⟨0,by simp,by simpa using e,λk hk=>?_⟩;obtain ⟨m,rfl⟩:∃ m,k=m+1:=⟨k-1,by omega⟩;rw [Q3];exact (Ns (p:=p) (q:=[]) h m).trans (by simp)
  ·refine .inr ⟨n+1,by simp; omega,by rw [Q3]; exact h1,λk hk=>?_⟩;obtain ⟨m,rfl⟩:∃ m,k=m+1:=⟨k-1,by omega⟩;rw [Q3]; exact h2 m (by omega)
theorem Zem {p q:List Rat} {n:Nat} (h:∀ t,ev p t=ev q t) (hp:HD p n):HD q n :=
 ⟨by rw [<-Ns h]; exact hp.1,λk hk=>by rw [<-Ns h]; exact hp.2 k hk⟩
theorem Zen {p:List Rat} {n m:Nat} (h:HD p n) (h':HD p m):n=m:=by
 rcases V7 n m with e | e | e
 ·exact absurd (h.2 m e) h'.1
 ·exact e
 ·exact absurd (h'.2 n e) h.1
theorem Qxw {p:List Rat} {n:Nat} (h:HD p n):¬∀ t,ev p t=0:=λh0=>h.1 ((Ns (p:=p) (q:=[]) h0 n).trans (by simp))
theorem Qfw {p q:List Rat} (h:∀ k,p.getD k 0=0) (k:Nat):(Fa p q).getD k 0=0:=by
 have:=Ns (p:=Fa p q) (q:=[]) (λt=>by rw [W9,Be h t]; simp only [ev]; grind) k;rw [this]; simp
theorem Qin:∀ {p q:List Rat} {m n:Nat},HD p m->HD q n->HD (Fa p q) (m+n)
 | [],q,m,n,h,_=>absurd (by simp) h.1
 |
  a::p,q,0,n,h,h'=>by
  have h1:∀ k,p.getD k 0=0:=λk=>by have:=h.2 (k+1) (by omega); rwa [Q3] at this
  have h2:∀ k,(Fa (a::p) q).getD k 0=a*q.getD k 0:=λk=>by
   simp only [Fa];rw [Gp,Hu];cases k with
   | zero=>rw [Zo]; grind
   | succ k=>rw [Q3,Qfw h1]; grind
  have h3:=h.1;rw [Zo] at h3;refine ⟨?_,λk hk=>?_⟩
  ·rw [h2,Zu]; exact λh=>(Yp.1 h).elim h3 h'.1
  ·rw [h2,h'.2 k (by omega)]; grind
 |
  a::p,q,m+1,n,h,h'=>by
  have ih:=Qin (p:=p) (q:=q) (m:=m) ⟨by have:=h.1; rwa [Q3] at this,λk hk=>by have:=h.2 (k+1) (by omega); rwa [Q3] at this⟩ h';refine ⟨?_,λk hk=>?_⟩
  ·simp only [Fa];rw [Gp,Hu,show m+1+n=(m+n)+1 by omega,Q3,h'.2 _ (by omega)];have:=ih.1; grind
  ·obtain ⟨j,rfl⟩:∃ j,k=j+1:=⟨k-1,by omega⟩;simp only [Fa];rw [Gp,Hu,Q3,h'.2 _ (by omega),ih.2 j (by omega)]; grind
def If (g f:List Rat):Prop:=∃ u,∀ t,ev f t=ev g t*ev u t
theorem dvd_refl (f:List Rat):If f f:=⟨[1],λt=>by rw [G8]; grind⟩
theorem dvd_trans {f g h:List Rat}:If f g->If g h->If f h
 | ⟨u,hu⟩,⟨v,hv⟩=>⟨Fa u v,λt=>by rw [hv,hu,W9]; grind⟩
theorem Qq9 {p q:List Rat} (h:∀ t,ev p t*ev q t=0) (hp:¬∀ t,ev p t=0):∀ t,ev q t=0:=by
 rcases Qim p with h1 | ⟨m,_,h1⟩
 ·exact absurd h1 hp
 ·rcases Qim q with h2 | ⟨n,_,h2⟩
  ·exact h2
  ·exact absurd (λt=>by rw [W9]; exact h t) (Qxw (Qin h1 h2))
theorem Qt1 {p q r:List Rat} (hp:¬∀ t,ev p t=0) (h:∀ t,ev p t*ev q t=ev p t*ev r t) (t:Rat):ev q t=ev r t:=by
 have:=Qq9 (p:=p) (q:=Hx q (Nx (-1) r)) (λt=>by rw [U7,Uz]; have:=h t; grind) hp t;rw [U7,Uz] at this; grind
theorem Q4h {b:List Rat} {n:Nat} (hb:HD b n):∀ (l:Nat) (a:List Rat),(∀ k,l<=k->a.getD k 0=0)->∃ q r,(∀ t,ev a t=ev q t*ev b t+ev r t)/\∀ k,n<=k->r.getD k 0=0
 | 0,a,ha=>⟨[],a,λt=>by simp only [ev]; grind,λk _=>ha k (Qi _)⟩
 |
  l+1,a,ha=>by
  rcases Zb l n with h | h
  ·exact ⟨[],a,λt=>by simp only [ev]; grind,λk hk=>ha k (by omega)⟩
  ·-- the leading term is taken away
   obtain ⟨c,hc⟩:=nmE (a.getD l 0 / b.getD n 0);have hcb:c*b.getD n 0=a.getD l 0:=by rw [hc]; exact Zc hb.1
   obtain ⟨m,hm⟩:∃ m:List Rat,m=List.replicate (l-n) 0++[c]:=⟨_,rfl⟩;have hsh:∀ (i:Nat) (k:Nat),(Fa (List.replicate i 0++[c]) b).getD k 0=if i<=k then c*b.getD (k-i) 0 else 0:=λi=>by
    induction i with
    | zero=>intro k; simp only [Kv,J3,Fa]; rw [Gp,Hu]; cases k <;> simp <;> grind
    |
     succ i ih =>
     intro k;simp only [Yd,Z6,Fa];rw [Gp,Hu];cases k with
     | zero=>rw [Zo,if_neg (by omega)]; grind
     |
      succ k =>
      rw [Q3,ih k];by_cases h:i<=k
      ·rw [if_pos h,if_pos (by omega),Nat.add_sub_add_right]; grind
      ·rw [if_neg h,if_neg (by omega)]; grind
   obtain ⟨q,r,h1,h2⟩:=Q4h hb l (Hx a (Nx (-1) (Fa m b))) λk hk=>by
    rw [Gp,Hu,hm,hsh,if_pos (by omega)];rcases Y8 hk with e | e
    ·rw [ha k (by omega),hb.2 _ (by omega)]; grind
    ·subst e; rw [show l-(l-n)=n by omega,hcb]; grind
   refine ⟨Hx q m,r,λt=>?_,h2⟩;have:=h1 t;rw [U7,Uz,W9] at this;rw [U7]; grind
theorem Qui:∀ (n:Nat) (a b:List Rat),(∀ k,n<=k->b.getD k 0=0)->∃ g U V,If g a/\If g b/\∀ t,ev g t=ev U t*ev a t+ev V t*ev b t
 |
  0,a,b,h=>by
  have h0:=Be λk=>h k (Qi _)
  exact ⟨a,[1],[],dvd_refl a,⟨[],λt=>by rw [h0]; simp only [ev]; grind⟩,λt=>by rw [G8]; simp only [ev]; grind⟩
 |
  n+1,a,b,h=>by
  rcases Classical.em (b.getD n 0=0) with e | e
  ·exact Qui n a b λk hk=>by
    rcases Y8 hk with e' | e'
    ·exact h k (by omega)
    ·rw [<-e']; exact e
  ·obtain ⟨q,r,h1,h2⟩:=Q4h (b:=b) (n:=n) ⟨e,λk hk=>h k (by omega)⟩ a.length a λk hk=>by rw [Qj,Q0 hk]; rfl
   obtain ⟨g,U,V,⟨u,hu⟩,⟨v,hv⟩,hg⟩:=Qui n b r h2;refine ⟨g,V,Hx U (Nx (-1) (Fa V q)),⟨Hx (Fa q u) v,λt=>?_⟩,⟨u,hu⟩,λt=>?_⟩
   ·rw [h1,hv,U7,W9,hu]; grind
   ·rw [hg,U7,Uz,W9,h1]; grind
theorem Q5b (a b:List Rat):∃ g U V,If g a/\If g b/\∀ t,ev g t=ev U t*ev a t+ev V t*ev b t :=
 Qui b.length a b λk hk=>by rw [Qj,Q0 hk]; rfl
def Cop (a b:List Rat):Prop:=∃ U V,∀ t,ev U t*ev a t+ev V t*ev b t=1
theorem Qm2 {c d e:List Rat} (h:Cop c d) (h1:∃ u,∀ t,ev d t*ev e t=ev c t*ev u t):If c e:=by
 obtain ⟨U,V,h⟩:=h;obtain ⟨u,hu⟩:=h1;refine ⟨Hx (Fa U e) (Fa V u),λt=>?_⟩;rw [U7,W9,W9];have a1:=h t;have a2:=hu t;have:ev e t=(ev U t*ev c t+ev V t*ev d t)*ev e t:=by rw [a1]; grind
 rw [this];have:(ev U t*ev c t+ev V t*ev d t)*ev e t=ev U t*ev c t*ev e t+ev V t*(ev d t*ev e t):=by grind
 rw [this,a2]; grind
def qpw (d:List Rat):Nat->List Rat
 | 0=>[1]
 | k+1=>Fa d (qpw d k)
theorem Qvf (d:List Rat) (t:Rat):∀ k:Nat,ev d t*dv (qpw d k) t=(k:Rat)*(dv d t*ev (qpw d k) t)
 | 0=>by simp only [qpw,dv,ev]; rw [show ((0:Nat):Rat)=0 from rfl]; grind
 |
  k+1=>by
  have ih:=Qvf d t k;have hn':(((k+1:Nat):Rat))=(k:Rat)+1:=by push_cast; rfl
  simp only [qpw];rw [Qnb,W9,hn']; grind
theorem Q7b {d:List Rat} {m:Nat} (h:HD d m):∀ k,HD (qpw d k) (k*m)
 | 0=>by rw [Yn]; exact ⟨by simp [qpw],λk hk=>by simp only [qpw]; rw [Qj,Q0 (by simp; omega)]; rfl⟩
 | k+1=>by rw [Z5,Jj (k*m) m]; exact Qin h (Q7b h k)
theorem Qly {d g:List Rat} {m n:Nat} (hd:HD d m) (hg:HD g n) (h:∀ k,If (qpw d k) g):m=0:=by
 obtain ⟨u,hu⟩:=h (n+1);rcases Qim u with h1 | ⟨j,_,h1⟩
 ·exact absurd (λt=>by rw [hu,h1]; grind) (Qxw hg)
 ·have:=Zen (Zem (λt=>by rw [hu,W9]) hg) (Qin (Q7b hd (n+1)) h1);rcases Q5 m with e | e
  ·exact e
  ·have:(n+1)*1<=(n+1)*m:=Zt _ e;omega
theorem sqf {a g q d U V:List Rat} {k:Rat} (hk:k≠0) (ha:∀ t,ev a t=ev g t*ev q t) (hg:∀ t,k*ev g t=ev U t*ev a t+ev V t*dv a t) (h1:If d q) (h2:If d (Pm q)):∀ n,If (qpw d n) g
 | 0=>⟨g,λt=>by simp only [qpw]; rw [G8]; grind⟩
 |
  n+1=>by
  obtain ⟨g1,e1⟩:=sqf hk ha hg h1 h2 n;obtain ⟨q1,e2⟩:=h1;obtain ⟨q2,e3⟩:=h2;have d1:=λt=>Al ha t
  have d2:=λt=>Al e1 t
  have d3:=λt=>Al e2 t
  have d4:=Qvf d;refine ⟨Nx (1 / k) (Hx (Fa U (Fa g1 q1)) (Fa V (Hx (Fa g1 q2) (Hx (Nx n (Fa g1 (Hx q2 (Nx (-1) (Pm q1))))) (Fa (Pm g1) q1))))),λt=>?_⟩;have hkk:1 / k*k=1:=Zc hk;simp only [qpw,Uz,U7,W9,Hh];have b1:=ha t; have b2:=hg t; have b3:=e1 t; have b4:=e2 t; have b5:=e3 t;have b6:=d1 t; have b7:=d2 t; have b8:=d3 t; have b9:=d4 t n;rw [Hh] at b5;generalize ev d t=x0 at *;generalize ev (qpw d n) t=x1 at *;generalize ev g t=x2 at *;generalize ev q t=x3 at *;generalize ev a t=x4 at *;generalize dv a t=x5 at *;generalize dv g t=x6 at *;generalize dv q t=x7 at *;generalize ev g1 t=x8 at *;generalize dv g1 t=x9 at *;generalize ev q1 t=y0 at *;generalize dv q1 t=y1 at *;generalize ev q2 t=y2 at *;generalize dv d t=y3 at *;generalize dv (qpw d n) t=y4 at *;generalize ev U t=y5 at *;generalize ev V t=y6 at *;generalize (n:Rat)=y7 at *;have:x2=1 / k*(k*x2):=by grind
  rw [this,b2];have c1:x5=x0*x1*(x8*y2+(y7*(x8*(y2+-1*y1))+x9*y0)):=by
   rw [b6,b7,b4,b3];have:y3*y0=x0*y2-x0*y1:=by grind
   have:x0*y4*(x8*y0)=y7*(x1*x8*(x0*y2-x0*y1)):=by rw [b9,<-this]; grind
   grind
  have c2:x4=x0*x1*(x8*y0):=by rw [b1,b3,b4]; grind
  rw [c1,c2]; grind
theorem Zay {a b c:List Rat} (h1:Cop a b) (h2:Cop a c) {d:List Rat} (hd:∀ t,ev d t=ev b t*ev c t):Cop a d:=by
 obtain ⟨U,V,h1⟩:=h1;obtain ⟨X,Y,h2⟩:=h2;refine ⟨Hx U (Fa (Fa V b) X),Fa V Y,λt=>?_⟩;have a1:=h1 t;have a2:=h2 t;simp only [U7,W9,hd];have:ev V t*ev b t*(ev X t*ev a t+ev Y t*ev c t)=ev V t*ev b t:=by rw [a2]; grind
 grind
theorem Zc1 {a g q z r X Y:List Rat} {n:Nat} (ha:∀ t,ev a t=ev g t*ev q t) (hz:∀ t,dv a t=ev g t*ev z t) (hg:HD g n) (hr:∀ t,ev X t*ev r t+ev Y t*dv r t=1) (h:If r a):If r q:=by
 obtain ⟨b,hb⟩:=h;obtain ⟨e,U,V,⟨r1,e1⟩,⟨q3,e2⟩,e3⟩:=Q5b r q;have hr0:¬∀ t,ev r t=0:=λh=>by
  have h1:=hr 0;have h2:dv r 0=0:=by have:=Q4m (p:=r) (q:=[]) h 0; rw [this]; rfl
  rw [h,h2] at h1; grind
 have he0:¬∀ t,ev e t=0:=λh=>hr0 λt=>by rw [e1,h]; grind
 have d1:=λt=>Al e1 t
 have c1:Cop r1 q3:=⟨U,V,λt=>by
  have:=Qt1 (p:=e) (q:=Hx (Fa U r1) (Fa V q3)) (r:=[1]) he0 (λt=>by
   rw [U7,W9,W9,G8];have a1:=e1 t; have a2:=e2 t; have a3:=e3 t;rw [a1,a2] at a3; grind) t
  rw [U7,W9,W9,G8] at this; exact this⟩
 have c2:Cop r1 e:=⟨Hx (Fa X e) (Fa Y (Pm e)),Fa Y (Pm r1),λt=>by
  have a1:=hr t; have a2:=e1 t; have a3:=d1 t;simp only [U7,W9,Hh];rw [a2,a3] at a1; grind⟩
 have c3:Cop r1 (Pm r1):=⟨Hx (Fa X e) (Fa Y (Pm e)),Fa Y e,λt=>by
  have a1:=hr t; have a2:=e1 t; have a3:=d1 t;simp only [U7,W9,Hh];rw [a2,a3] at a1; grind⟩
 have c4:Cop r1 q:=Zay c2 c1 e2;have hgz:=Qxw hg;have hp:∀ k,If (qpw r1 k) g:=λk=>by
  induction k with
  | zero=>exact ⟨g,λt=>by simp only [qpw]; rw [G8]; grind⟩
  |
   succ k ih =>
   obtain ⟨h,eh⟩:=ih;have hpz:¬∀ t,ev (qpw r1 k) t=0:=λh0=>hgz λt=>by rw [eh,h0]; grind
   have key:If r1 h:=by
    cases k with
    |
     zero =>
     refine Qm2 c4 ⟨Fa e b,λt=>?_⟩;have a1:=ha t; have a2:=hb t; have a3:=e1 t; have a4:=eh t;simp only [qpw] at a4;rw [G8] at a4;rw [W9]; grind
    |
     succ k =>
     have hn:((k+1:Nat):Rat)≠0:=by
      have:(0:Rat)<((k+1:Nat):Rat):=by
       have h1:((0:Nat):Rat)<((k+1:Nat):Rat):=Vb.2 (by omega);simpa using h1
      grind
     have d2:=λt=>Al (f:=a) (w:=qpw r1 (k+1)) (u:=Fa h q) (λt=>by rw [ha,eh,W9]; grind) t
     have d4:=Qvf r1;have h3:=Qt1 (p:=qpw r1 (k+1)) (q:=Fa (Pm r1) (Fa h q)) (r:=Fa r1 (Nx (1 / ((k+1:Nat):Rat)) (Hx (Fa h z) (Nx (-1) (Pm (Fa h q)))))) hpz λt=>by
      simp only [W9,Uz,U7,Hh];have a1:=d2 t; have a2:=d4 t (k+1); have a3:=hz t; have a4:=eh t;rw [W9] at a1;generalize ((k+1:Nat):Rat)=c at *;have hc:1 / c*c=1:=Zc hn;generalize ev (qpw r1 (k+1)) t=x0 at *;generalize dv (qpw r1 (k+1)) t=x1 at *;generalize dv (Fa h q) t=x2 at *;generalize ev r1 t=x3 at *;generalize dv r1 t=x4 at *;generalize ev h t=x5 at *;generalize ev q t=x6 at *;generalize ev z t=x7 at *;generalize dv a t=x8 at *;generalize ev g t=x9 at *;generalize 1 / c=c' at *;have s1:x0*(x4*(x5*x6))=c'*(c*(x4*x0))*(x5*x6):=by
       have:c'*(c*(x4*x0))=(c'*c)*(x4*x0):=by grind
       rw [this,hc]; grind
      rw [s1,<-a2];have s2:x3*(x1*(x5*x6))=x3*(x0*(x5*x7+-1*x2)):=by
       rw [a3,a4] at a1; grind
      grind
     refine Qm2 c4 ?_;obtain ⟨u,hu⟩:=Qm2 (e:=Fa q h) c3 ⟨Nx (1 / ((k+1:Nat):Rat)) (Hx (Fa h z) (Nx (-1) (Pm (Fa h q)))),λt=>by
      have:=h3 t;simp only [W9] at this ⊢;rw [<-this]; grind⟩
     exact ⟨u,λt=>by rw [<-hu,W9]⟩
   obtain ⟨u,hu⟩:=key;exact ⟨u,λt=>by simp only [qpw]; rw [W9,eh,hu]; grind⟩
 rcases Qim r1 with h1 | ⟨m,_,h1⟩
 ·exact absurd (λt=>by rw [e1,h1]; grind) hr0
 ·obtain rfl:=Qly h1 hg hp;have h2:∀ t,ev r1 t=r1.getD 0 0:=λt=>by
   cases r1 with
   | nil=>simp [ev]
   |
    cons c l =>
    have:∀ t,ev l t=0:=Be λk=>by have:=h1.2 (k+1) (by omega); rwa [Q3] at this
    simp only [ev,this,Zo]; grind
  have h3:=h1.1;refine ⟨Nx (1 / r1.getD 0 0) q3,λt=>?_⟩;rw [e2,e1,h2,Uz];have:1 / r1.getD 0 0*r1.getD 0 0=1:=Zc h3;have:ev e t*r1.getD 0 0*(1 / r1.getD 0 0*ev q3 t)=ev e t*ev q3 t*(1 / r1.getD 0 0*r1.getD 0 0):=by grind
  rw [this,Zc h3]; grind
def Eo:List (List Rat)->List Rat
 | []=>[1]
 | w::l=>Fa w (Eo l)
def Lay:List (List Rat)->List (List Rat)->Prop
 | [],[]=>True
 | [w],[f]=>∀ t,ev w t=ev f t
 | w::v::l,f::fs=>(∀ t,ev w t=ev f t*ev v t)/\Lay (v::l) fs
 | _,_=>False
def Qgd:List (List Rat)->List Rat
 | []=>[1]
 | [f]=>f
 | f::_::l=>Fa f (Qgd l)
theorem Qx7:∀ {ws fs:List (List Rat)},Lay ws fs->∃ S,∀ t,ev (Eo ws) t=ev (Qgd fs) t*(ev S t*ev S t)
 | [],[],_=>⟨[1],λt=>by simp only [Eo,Qgd]; rw [G8]; grind⟩
 | [w],[f],h=>⟨[1],λt=>by simp only [Eo,Qgd]; rw [W9,G8,h t]; grind⟩
 |
  [w,v],[f,f2],h=>⟨v,λt=>by
  have h1:=h.1 t;have h2:ev v t=ev f2 t:=h.2 t;simp only [Eo,Qgd,W9]; rw [G8,h1]; grind⟩
 |
  w::v::x::l,f::f2::fs,h=>by
  obtain ⟨S,hS⟩:=Qx7 h.2.2;refine ⟨Fa v S,λt=>?_⟩;have h1:=h.1 t;have h2:=hS t;have e1:ev (Eo (w::v::x::l)) t=ev w t*(ev v t*ev (Eo (x::l)) t):=by simp only [Eo,W9]
  rw [e1,h2,h1];have e2:ev (Qgd (f::f2::fs)) t=ev f t*ev (Qgd fs) t:=by
   cases fs with
   | nil=>cases l <;> exact False.elim h.2.2
   | cons y l=>simp only [Qgd,W9]
  rw [e2,W9]; grind
 | [w],[],h=>h.elim
 | [w],_::_::_,h=>h.elim
 | [],_::_,h=>h.elim
 | [w,v],[f],h=>h.2.elim
 | [w,v],_::_::_::_,h=>h.2.elim
 | w::v::x::l,[f],h=>h.2.elim
 | w::v::l,[],h=>h.elim
end Orq
namespace Orq
open Orr Go
theorem Qu4 (p:List Int) (t:Rat):W4 p t=((p.getD 0 0:Int):Rat)+t*W4 p.tail t:=by
 cases p with
 | nil=>show (0:Rat)=((0:Int):Rat)+t*0; grind
 | cons a p=>rfl
theorem Qem (p:List Int) (k:Nat):p.tail.getD k 0=p.getD (k+1) 0:=by
 cases p <;> simp
theorem Mk (c d:Int) (t:Rat):∀ (n:Nat) (p q r:List Int),p.length<=n->q.length<=n->r.length<=n->(∀ k,r.getD k 0=c*p.getD k 0+d*q.getD k 0)->W4 r t=(c:Rat)*W4 p t+(d:Rat)*W4 q t
 |
  0,p,q,r,hp,hq,hr,_=>by
  rw [Qh (Nat.le_zero.1 hp),Qh (Nat.le_zero.1 hq),Qh (Nat.le_zero.1 hr)];show (0:Rat)=_*0+_*0;grind
 |
  n+1,p,q,r,hp,hq,hr,h=>by
  have ih:=Mk c d t n p.tail q.tail r.tail (by rw [Wd]; omega) (by rw [Wd]; omega) (by rw [Wd]; omega) λk=>by
   rw [Qem,Qem,Qem]; exact h (k+1)
  rw [Qu4 p,Qu4 q,Qu4 r,ih,h 0]
  push_cast
  grind
theorem Qyx {p q:List Int} (h:∀ k,p.getD k 0=q.getD k 0) (t:Rat):W4 p t=W4 q t:=by
 have:=Mk 1 0 t (max p.length q.length) q q p (Wh ..) (Wh ..) (Nat.le_max_left ..) λk=>by rw [h k]; omega
 rw [this]
 push_cast
 grind
theorem Et (p:List Int) (t:Rat):W4 (trim p) t=W4 p t:=Qyx (Qaj p) t
theorem Ph {p:List Int} {k:Nat} (h:p.length<=k):p.getD k 0=0:=by
 rw [Qj,Q0 h]; rfl
theorem Qls (p q:List Int) (k:Nat):(Qbr p q).getD k 0=p.getD k 0+q.getD k 0:=by
 unfold Qbr;rw [Nh]
 split
 ·rfl
 ·rename_i h; rw [Ph (p:=p) (by omega),Ph (p:=q) (by omega)]; rfl
theorem Ez (p q:List Int) (k:Nat):(M3 p q).getD k 0=p.getD k 0-q.getD k 0:=by
 unfold M3;rw [Nh]
 split
 ·rfl
 ·rename_i h; rw [Ph (p:=p) (by omega),Ph (p:=q) (by omega)]; rfl
theorem To (p:List Int) (c:Int) (k:Nat):(Uv p c).getD k 0=p.getD k 0*c:=by
 unfold Uv;rw [Nh]
 split
 ·rfl
 ·rename_i h; rw [Ph (p:=p) (by omega),Int.zero_mul]
theorem Q1f (p:List Int) (k:Nat):(B9 p).getD k 0=-(p.getD k 0):=by
 unfold B9;rw [Nh]
 split
 ·rfl
 ·rename_i h; rw [Ph (p:=p) (by omega)]; rfl
theorem Pv (p:List Int) (k:Nat):(Fj p).getD k 0=p.getD (k+1) 0*((k+1:Nat):Int):=by
 unfold Fj;rw [Nh]
 split
 ·rfl
 ·rename_i h; rw [Ph (p:=p) (by omega),Int.zero_mul]
theorem Qjb (p q:List Int) (t:Rat):W4 (Qbr p q) t=W4 p t+W4 q t:=by
 have:=Mk 1 1 t (max (max p.length q.length) (Qbr p q).length) p q (Qbr p q) (by omega) (by omega) (by omega) λk=>by rw [Qls]; omega
 rw [this]; push_cast; grind
theorem Sw (p q:List Int) (t:Rat):W4 (M3 p q) t=W4 p t-W4 q t:=by
 have:=Mk 1 (-1) t (max (max p.length q.length) (M3 p q).length) p q (M3 p q) (by omega) (by omega) (by omega) λk=>by rw [Ez]; omega
 rw [this]; push_cast; grind
theorem Qdb (p:List Int) (t:Rat):W4 (B9 p) t=-W4 p t:=by
 have:=Mk (-1) 0 t (max p.length (B9 p).length) p p (B9 p) (by omega) (by omega) (by omega) λk=>by rw [Q1f]; omega
 rw [this]; push_cast; grind
theorem Gq (p:List Int) (c:Int) (t:Rat):W4 (Uv p c) t=W4 p t*(c:Rat):=by
 have:=Mk c 0 t (max p.length (Uv p c).length) p p (Uv p c) (by omega) (by omega) (by omega) λk=>by rw [To,Kl]; omega
 rw [this]; push_cast; grind
theorem Qn5:∀ (l:List Int) (j:Nat) (v:Int) (t:Rat),j<l.length->W4 (l.set j v) t=W4 l t+((v:Rat)-((l.getD j 0:Int):Rat))*t^j
 | [],_,_,_,h=>by simp at h
 |
  a::l,0,v,t,_=>by
  show (v:Rat)+t*W4 l t=(a:Rat)+t*W4 l t+((v:Rat)-(a:Rat))*t^0;rw [Xa]; grind
 |
  a::l,j+1,v,t,h=>by
  have ih:=Qn5 l j v t (by simpa using h);show (a:Rat)+t*W4 (l.set j v) t=(a:Rat)+t*W4 l t+((v:Rat)-((l.getD j 0:Int):Rat))*t^(j+1);rw [ih,Z3]; grind
theorem Qjc:∀ (l:List Int) (k:Nat) (t:Rat),k<l.length->W4 (l.take (k+1)) t=W4 (l.take k) t+((l.getD k 0:Int):Rat)*t^k
 | [],_,_,h=>by simp at h
 |
  a::l,0,t,_=>by
  show (a:Rat)+t*W4 (l.take 0) t=0+(a:Rat)*t^0;rw [Xa,Yv];show (a:Rat)+t*0=_;grind
 |
  a::l,k+1,t,h=>by
  have ih:=Qjc l k t (by simpa using h);show (a:Rat)+t*W4 (l.take (k+1)) t=(a:Rat)+t*W4 (l.take k) t+((l.getD k 0:Int):Rat)*t^(k+1);rw [ih,Z3]; grind
theorem Qlv (n:Nat) (t:Rat):W4 (List.replicate n 0) t=0:=by
 induction n with
 | zero=>rfl
 |
  succ n ih =>
  show ((0:Int):Rat)+t*W4 (List.replicate n 0) t=0;rw [ih]; push_cast; grind
theorem Qsd (t:Rat) (i:Nat):∀ k,t^(i+k)=t^i*t^k
 | 0=>by rw [Xu,Xa]; grind
 | k+1=>by rw [<-J9,Z3,Z3,Qsd t i k]; grind
theorem Qrr (x:Int) (b:List Int) (i:Nat) (o:List Int) (t:Rat):∀ k,k<=b.length->i+k<=o.length->W4 (Qbn x b i o k) t=W4 o t+(x:Rat)*t^i*W4 (b.take k) t
 |
  0,_,_=>by
  show W4 o t=W4 o t+(x:Rat)*t^i*0;grind
 |
  k+1,h1,h2=>by
  have ih:=Qrr x b i o t k (by omega) (by omega);simp only [Qbn];rw [Qn5 _ _ _ _ (by rw [I3]; omega),ih,Qjc b k t (by omega)];have hp:t^(i+k)=t^i*t^k:=Qsd t i k;rw [hp]
  push_cast
  grind
theorem Qrq (a b o:List Int) (t:Rat):∀ i,i<=a.length->i+b.length<=o.length+1->W4 (Qbm a b o i) t=W4 o t+W4 (a.take i) t*W4 b t
 |
  0,_,_=>by
  show W4 o t=W4 o t+0*W4 b t;grind
 |
  i+1,h1,h2=>by
  have ih:=Qrq a b o t i (by omega) (by omega);simp only [Qbm];rw [Qrr _ _ _ _ _ b.length (Qm _) (by rw [Ek]; omega),ih,Qjc a i t (by omega),Q4];grind
theorem Us (a b:List Int) (t:Rat):W4 (U5 a b) t=W4 a t*W4 b t:=by
 unfold U5
 split
 ·rename_i h;rcases h with h | h
  ·rw [Qh h]; show (0:Rat)=0*_; grind
  ·rw [Qh h]; show (0:Rat)=_*0; grind
 ·rename_i h;rw [Et,Qrq a b _ t a.length (Qm _) (by rw [Ke]; omega),Qlv,Q4];grind
theorem Gj (z d:Int):(z:Rat) / (d:Rat)=Rat.divInt z d:=by
 by_cases h:d=0
 ·subst h; simp; grind
 ·rw [Jx]; exact (Rat.divInt_eq_div z d ▸ by rw [Jx])
theorem Qzv (a:List Int) (n d:Int) (hd:(d:Rat)≠0):∀ k,k<=a.length->(((Ce a n d k).2:Int):Rat)=(d:Rat)^k/\(((Ce a n d k).1:Int):Rat)*d=(d:Rat)^k*W4 (a.drop (a.length-k)) ((n:Rat) / d)
 |
  0,_=>by
  refine ⟨by rw [Xa]; rfl,?_⟩;rw [Wi,Yz];show ((0:Int):Rat)*d=(d:Rat)^0*0
  push_cast; grind
 |
  k+1,hk=>by
  obtain ⟨h1,h2⟩:=Qzv a n d hd k (by omega);have hi:a.length-1-k<a.length:=by omega
  have e1:a.drop (a.length-(k+1))=a.getD (a.length-1-k) 0::a.drop (a.length-k):=by
   rw [show a.length-(k+1)=a.length-1-k by omega,Zz hi,show a.length-1-k+1=a.length-k by omega];congr 1;rw [Qj,Qf hi]; rfl
  refine ⟨?_,?_⟩
  ·show (((Ce a n d k).2*d:Int):Rat)=_;rw [Jp,h1,Z3]
  ·rw [e1];show (((Ce a n d k).1*n+a.getD (a.length-1-k) 0*(Ce a n d k).2:Int):Rat)*d=_*(((a.getD (a.length-1-k) 0:Int):Rat)+(n:Rat) / d*W4 (a.drop (a.length-k)) ((n:Rat) / d));rw [Wo,Jp,Jp,h1,Z3];have h3:(n:Rat) / d*d=n:=by rw [Zc hd]
   have h4:(d:Rat)^k*d*((n:Rat) / d*W4 (a.drop (a.length-k)) ((n:Rat) / d))=((n:Rat) / d*d)*((d:Rat)^k*W4 (a.drop (a.length-k)) ((n:Rat) / d)):=by grind
   have h5:(d:Rat)^k*d*(((a.getD (a.length-1-k) 0:Int):Rat)+(n:Rat) / d*W4 (a.drop (a.length-k)) ((n:Rat) / d))=(d:Rat)^k*d*((a.getD (a.length-1-k) 0:Int):Rat)+(d:Rat)^k*d*((n:Rat) / d*W4 (a.drop (a.length-k)) ((n:Rat) / d)):=by grind
   rw [h5,h4,h3,<-h2];grind
theorem Qy2 {d:Rat} (h:0<d):∀ k:Nat,0<d^k
 | 0=>by rw [Xa]; decide
 | k+1=>by rw [Z3]; exact Xl (Qy2 h k) h
theorem Ms {x y:Rat} (h:0<y):W7 (y*x)=W7 x:=by
 unfold W7;have h1:y*x<0↔x<0:=by
  constructor
  ·intro h2;rcases Vi (a:=0) (b:=x) with h3 | h3
   ·have:=Vj (Qp h) h3; grind
   ·rcases Rat.le_iff_lt_or_eq.1 h3 with h4 | h4
    ·exact h4
    ·rw [h4] at h2; grind
  ·intro h2;have:=Xl h (show 0 < -x by grind);grind
 have h2:0<y*x↔0<x:=by
  constructor
  ·intro h2;rcases Vi (a:=x) (b:=0) with h3 | h3
   ·have:=Vj (Qp h) (show 0<=-x by grind); grind
   ·rcases Rat.le_iff_lt_or_eq.1 h3 with h4 | h4
    ·exact h4
    ·rw [<-h4] at h2; grind
  ·intro h2; exact Xl h h2
 simp only [h1,h2]
theorem Q37 (z:Int):Bb z 0=W7 (z:Rat):=by
 unfold Bb W7;have h1:((z:Int):Rat)<0↔z<0:=by
  have := @Rat.intCast_lt_intCast z 0; simpa using this
 have h2:0<((z:Int):Rat)↔0<z:=by
  have := @Rat.intCast_lt_intCast 0 z; simpa using this
 simp only [h1,h2]
theorem Sy (p:List Int) (q:Rat):Gk p q=W7 (W4 p q):=by
 have hd0:(0:Rat)<((q.den:Int):Rat):=by
  have := @Rat.intCast_lt_intCast 0 (q.den:Int);rw [show ((0:Int):Rat)=0 from rfl] at this;exact this.2 (den_pos q)
 have hd:((q.den:Int):Rat)≠0:=by intro h; rw [h] at hd0; exact absurd hd0 (by decide)
 obtain ⟨_,h⟩:=Qzv p q.num q.den hd p.length (Qm _);rw [Ks,Yg,Gj,X2] at h;unfold Gk;rw [Q37,<-Ms hd0,Wl];show W7 ((((Ce p q.num q.den p.length).1:Int):Rat)*_)=_;rw [h,Ms (Qy2 hd0 _)]
def cz (p:List Int):List Rat:=p.map λz:Int=>(z:Rat)
theorem W5 (t:Rat):∀ p,ev (cz p) t=W4 p t
 | []=>rfl
 | a::p=>by have:=W5 t p; simp only [cz,Zx,ev,W4] at *; rw [this]
theorem Tu:∀ (p:List Int) (k:Nat),(cz p).getD k 0=((p.getD k 0:Int):Rat)
 | [],k=>by simp [cz]
 | a::p,0=>by simp [cz]
 | a::p,k+1=>by have:=Tu p k; simp only [cz,Zx,Q3] at *; exact this
theorem Bs {p q:List Int} (h:∀ t,W4 p t=W4 q t) (k:Nat):p.getD k 0=q.getD k 0:=by
 have:=Ns (p:=cz p) (q:=cz q) (λt=>by rw [W5,W5,h]) k;rw [Tu,Tu] at this
 exact_mod_cast this
theorem Zc8 {p q:List Int} (hp:Ua p) (hq:Ua q) (h:∀ k,p.getD k 0=q.getD k 0):p=q:=by
 have key:∀ {p q:List Int},Ua p->Ua q->(∀ k,p.getD k 0=q.getD k 0)->p.length<=q.length:=λ{p q} hp hq h=>by
  rcases Zb q.length p.length with e | e
  ·have:=G7 hp (by omega);rw [h,Qj,Q0 (by omega)] at this;exact absurd rfl this
  ·exact e
 exact Qub (Kr (key hp hq h) (key hq hp λk=>(h k).symm)) λj _=>h j
theorem Qyy {p q:List Int} (hp:Ua p) (hq:Ua q) (h:∀ t,W4 p t=W4 q t):p=q:=Zc8 hp hq (Bs h)
theorem Zcc {p:List Int} (hp:Ua p) (h:∀ t,W4 p t=0):p=[]:=Qyy hp rfl λt=>by rw [h]; rfl
theorem Nv {p:List Int} (h:p.length=0) (t:Rat):W4 p t=0:=by rw [Qh h]; rfl
theorem Qyw:∀ (p r:List Int) (t:Rat),(∀ k,r.getD k 0=p.getD (k+1) 0*((k+1:Nat):Int))->W4 r t=dv (cz p) t
 |
  [],r,t,h=>by
  rw [Qyx (q:=[]) (λk=>by rw [h]; simp) t]; rfl
 |
  a::p,r,t,h=>by
  have ih:=Qyw p (Fj p) t λk=>Pv p k
  have e:W4 r t=W4 p t+t*W4 (Fj p) t:=by
   have:=Mk 1 1 t (max (max p.length (0::Fj p).length) r.length) p (0::Fj p) r (by omega) (by omega) (by omega) λk=>by
    rw [h,Q3];cases k with
    | zero=>simp
    | succ k=>rw [Q3,Pv]; push_cast; grind
   rw [this]; simp only [W4]; push_cast; grind
  rw [e,ih];show _=ev (cz p) t+t*dv (cz p) t;rw [W5]
theorem Er (p:List Int) (t:Rat):W4 (Fj p) t=dv (cz p) t:=Qyw p _ t λk=>Pv p k
theorem Qfv {p:List Int} (hp:Ua p) (h:0<p.length):HD (cz p) (p.length-1):=by
 refine ⟨?_,λk hk=>?_⟩
 ·rw [Tu];have:=G7 hp h;exact λe=>this (by exact_mod_cast e)
 ·rw [Tu,Qj,Q0 (by omega)]; rfl
theorem Qfq {p:List Int} (hp:Ua p) (h:0<p.length):¬∀ t,W4 p t=0:=λh0=>by
 rw [Zcc hp h0] at h; exact absurd h (by simp)
theorem Tw {a b c:List Int} (ha:Ua a) (hb:Ua b) (hc:Ua c) (h:∀ t,W4 c t=W4 a t*W4 b t) (la:0<a.length) (lb:0<b.length):c.length=a.length+b.length-1:=by
 have h1:=Qin (Qfv ha la) (Qfv hb lb);have h2:HD (cz c) (a.length-1+(b.length-1)):=Zem (λt=>by rw [W9,W5,W5,W5,h]) h1;have lc:0<c.length:=by
  rcases Q5 c.length with e | e
  ·exact absurd (λt=>by rw [W5]; exact Nv e t) (Qxw h2)
  ·exact e
 have:=Zen (Qfv hc lc) h2;omega
theorem Qry:∀ (n m:Nat),m<=n->2<=m->∃ P,2<=P/\P∣m/\∀ d,2<=d->d∣P->d=P
 | 0,m,h,h2=>by omega
 |
  n+1,m,h,h2=>by
  rcases Classical.em (∃ d,2<=d/\d<m/\d∣m) with ⟨d,d1,d2,d3⟩ | h0
  ·obtain ⟨P,p1,p2,p3⟩:=Qry n d (by omega) d1;exact ⟨P,p1,Nat.dvd_trans p2 d3,p3⟩
  ·refine ⟨m,h2,Nat.dvd_refl m,λd d1 d2=>?_⟩;rcases Y8 (K8 (by omega) d2) with e | e
   ·exact absurd ⟨d,d1,e,d2⟩ h0
   ·exact e
theorem Qnf {P:Nat} (h2:2<=P) (hP:∀ d,2<=d->d∣P->d=P) {x y:Int} (h:(P:Int)∣x*y):(P:Int)∣x\/(P:Int)∣y:=by
 have h:=X6.2 h;rw [Ye,Xh] at h;have hg:=We P x.natAbs;rcases Zb (Nat.gcd P x.natAbs) 2 with e | e
 ·right;have h1:Nat.gcd P x.natAbs=1:=by
   have:=Nat.gcd_pos_of_pos_left x.natAbs (show 0<P by omega); omega
  have:=Nat.Coprime.dvd_of_dvd_mul_left h1 h;exact X6.1 (by rwa [Xh])
 ·left;have:=hP _ e hg;have h3:=Nat.gcd_dvd_right P x.natAbs;rw [this] at h3;exact X6.1 (by rwa [Xh])
def Qta (P:Int) (l:List Int):Prop:=∀ k,P∣l.getD k 0
theorem Qd0 {P:Nat} (h2:2<=P) (hP:∀ d,2<=d->d∣P->d=P):∀ (n:Nat) (b h c:List Int),b.length+h.length<=n->(∀ t,W4 c t=W4 b t*W4 h t)->Qta P c->Qta P b\/Qta P h
 | _,[],h,c,_,_,_=>.inl λk=>by simp
 | _,x::b,[],c,_,_,_=>.inr λk=>by simp
 | 0,x::b,y::h,c,hn,_,_=>by simp at hn
 |
  n+1,x::b,y::h,c,hn,hc,hd=>by
  simp only [Q6] at hn;by_cases hx:(P:Int)∣x
  ·-- x h is taken away
   have e:∀ t,W4 (0::U5 b (y::h)) t=W4 (M3 c (Uv (y::h) x)) t:=λt=>by
    rw [Sw,Gq,hc]; simp only [W4]; rw [Us]; simp only [W4]; push_cast; grind
   have hd':Qta P (U5 b (y::h)):=λk=>by
    have:=Bs e (k+1);rw [Q3,Ez,To] at this;rw [this];exact Int.dvd_sub (hd (k+1)) (Ka hx (Yw _ _))
   rcases Qd0 h2 hP n b (y::h) _ (by simp only [Q6]; omega) (λt=>Us _ _ t) hd' with h1 | h1
   ·refine .inl λk=>?_
    cases k with
    | zero=>rw [Zo]; exact hx
    | succ k=>rw [Q3]; exact h1 k
   ·exact .inr h1
  ·have h0:(P:Int)∣y:=by
    have e:c.getD 0 0=x*y:=by
     have:=Bs (p:=c) (q:=U5 (x::b) (y::h)) (λt=>by rw [hc,Us]) 0;have e2:=Bs (p:=U5 (x::b) (y::h)) (q:=Qbr (Uv (y::h) x) (0::U5 b (y::h))) (λt=>by
      rw [Qjb,Gq,Us]; simp only [W4]; rw [Us]; simp only [W4]; push_cast; grind) 0
     rw [this,e2,Qls,To,Zo,Zo,Kl]; omega
    have:=hd 0;rw [e] at this;rcases Qnf h2 hP this with h1 | h1
    ·exact absurd h1 hx
    ·exact h1
   have e:∀ t,W4 (0::U5 (x::b) h) t=W4 (M3 c (Uv (x::b) y)) t:=λt=>by
    rw [Sw,Gq,hc]; simp only [W4]; rw [Us]; simp only [W4]; push_cast; grind
   have hd':Qta P (U5 (x::b) h):=λk=>by
    have:=Bs e (k+1);rw [Q3,Ez,To] at this;rw [this];exact Int.dvd_sub (hd (k+1)) (Ka h0 (Yw _ _))
   rcases Qd0 h2 hP n (x::b) h _ (by simp only [Q6]; omega) (λt=>Us _ _ t) hd' with h1 | h1
   ·exact absurd (by have:=h1 0; rwa [Zo] at this) hx
   ·refine .inr λk=>?_
    cases k with
    | zero=>rw [Zo]; exact h0
    | succ k=>rw [Q3]; exact h1 k
def Prm (b:List Int):Prop:=∀ d:Int,Qta d b->d∣1
theorem Q45 {a b:List Int} (hb:Prm b):∀ (n:Nat) (c:Int) (h:List Int),c.natAbs<=n->c≠0->(∀ t,(c:Rat)*W4 a t=W4 b t*W4 h t)->∃ h',∀ t,W4 a t=W4 b t*W4 h' t
 | 0,c,h,hn,h0,_=>absurd (by omega) h0
 |
  n+1,c,h,hn,h0,hc=>by
  rcases Zb c.natAbs 2 with h1 | h1
  ·refine ⟨Uv h c,λt=>?_⟩;have hcc:(c:Rat)*c=1:=by
    have:c*c=1:=by
     rcases (show c=1\/c=-1 by omega) with rfl | rfl <;> rfl
    have:=congrArg (λz:Int=>(z:Rat)) this
    push_cast at this; exact this
   rw [Gq];have:=hc t;have:W4 a t=(c:Rat)*((c:Rat)*W4 a t):=by
    have:(c:Rat)*((c:Rat)*W4 a t)=((c:Rat)*c)*W4 a t:=by grind
    rw [this,hcc]; grind
   rw [this,hc]; grind
  ·obtain ⟨P,p1,p2,p3⟩:=Qry c.natAbs c.natAbs (Qm _) h1;obtain ⟨d,hd⟩:∃ d,c=(P:Int)*d:=K0.2 p2;have hall:Qta P (Uv a c):=λk=>by
    rw [To,hd]; exact Ka (Int.dvd_mul_right _ _) (Yw _ _)
   have hP0:(P:Rat)≠0:=by
    have:((0:Nat):Rat)<(P:Rat):=Vb.2 (by omega);grind
   rcases Qd0 p1 p3 _ b h (Uv a c) (Qm _) (λt=>by rw [Gq,Wl,hc]) hall with e | e
   ·have:=hb P e;have:=X6.2 this;rw [Xh] at this;have:=K8 (by decide) this;exact absurd this (by show ¬P<=1; omega)
   ·refine Q45 hb n d (h.map (· / (P:Int))) ?_ (λe0=>h0 (by rw [hd,e0,Kn])) λt=>?_
    ·rw [hd,Ye,Xh] at hn h1;have:2*d.natAbs<=P*d.natAbs:=Qy _ p1;omega
    ·have e1:W4 h t=(P:Rat)*W4 (h.map (· / (P:Int))) t:=by
      have:=Mk P 0 t (max h.length (h.map (· / (P:Int))).length) (h.map (· / (P:Int))) [] h (by omega) (by simp) (by omega) λk=>by
       have:=e k;have e2:(h.map (· / (P:Int))).getD k 0=h.getD k 0 / (P:Int):=by
        rw [Qj,Qj,Zq];cases h[k]? <;> simp
       rw [e2,Km this]; simp
      rw [this]; simp only [W4]; push_cast; grind
     have:=hc t;rw [hd,e1] at this
     push_cast at this
     have h3:(P:Rat)*((d:Rat)*W4 a t)=(P:Rat)*(W4 b t*W4 (h.map (· / (P:Int))) t):=by grind
     have h4:=Yp.1 (show (P:Rat)*((d:Rat)*W4 a t-W4 b t*W4 (h.map (· / (P:Int))) t)=0 by grind);rcases h4 with h4 | h4
     ·exact absurd h4 hP0
     ·grind
theorem Qks:∀ u:List Rat,∃ c:Int,c≠0/\∃ h:List Int,∀ t,(c:Rat)*ev u t=W4 h t
 | []=>⟨1,by decide,[],λt=>by simp only [ev,W4]; grind⟩
 |
  a::u=>by
  obtain ⟨c,hc,h,hh⟩:=Qks u;refine ⟨c*(a.den:Int),Vv hc (by have:=a.den_nz; omega),(c*a.num)::Uv h (a.den:Int),λt=>?_⟩;have e:(a.den:Rat)*a=a.num:=by
   rw [Wl];have:(a.num:Rat) / (((a.den:Int)):Rat)=a:=by rw [Gj,X2]
   have hd:(a.den:Rat)≠0:=by
    have:((0:Nat):Rat)<(a.den:Rat):=Vb.2 a.den_pos;grind
   have h2:(a.num:Rat) / (a.den:Rat)*(a.den:Rat)=a.num:=Zc hd;rw [show (a.num:Rat) / (a.den:Rat)=a from this] at h2; exact h2
  simp only [ev,W4];rw [Gq,<-hh]
  push_cast
  rw [<-e];have e3:(((a.den:Int)):Rat)=(a.den:Rat):=rfl;grind
theorem Q44 {a b:List Int} (hb:Prm b) (h:If (cz b) (cz a)):∃ h',Ua h'/\∀ t,W4 a t=W4 b t*W4 h' t:=by
 obtain ⟨u,hu⟩:=h;obtain ⟨c,hc,h,hh⟩:=Qks u;obtain ⟨h',e⟩:=Q45 hb c.natAbs c h (Qm _) hc λt=>by
  have:=hu t;rw [W5,W5] at this;rw [this,<-hh]; grind
 exact ⟨trim h',Hj _,λt=>by rw [Et,e]⟩
def sd (x0:Rat):List Rat->List Rat
 | []=>[]
 | _::p=>Hx p (Nx x0 (sd x0 p))
theorem Q4x (x0 x:Rat):∀ p,ev (sd x0 p) x=dq p x x0
 | []=>rfl
 | a::p=>by simp only [sd,dq]; rw [U7,Uz,Q4x x0 x p]
theorem Qvq (x0:Rat):∀ (g:List Rat) (n:Nat),(∀ j,n<j->g.getD j 0=0)->∀ j,n<=j->(sd x0 g).getD j 0=0
 | [],n,_,j,_=>by simp [sd]
 |
  a::p,0,h,j,_=>by
  have hp:∀ j,p.getD j 0=0:=λj=>by have:=h (j+1) (by omega); rwa [Q3] at this
  simp only [sd];rw [Gp,Hu,hp,Qvq x0 p 0 (λj _=>hp j) j (Qi _)]; grind
 |
  a::p,n+1,h,j,hj=>by
  have hp:∀ j,n<j->p.getD j 0=0:=λj hj=>by have:=h (j+1) (by omega); rwa [Q3] at this
  simp only [sd];rw [Gp,Hu,hp j (by omega),Qvq x0 p n hp j (by omega)]; grind
theorem Qum {K:Rat} (hK:0≤K):∀ (e:Nat) (g:List Rat) (pts:List Int) (M:Rat),pts.length=e+1->pts.Nodup->(∀ x∈pts,Uc (x:Rat)≤K)->(∀ k,e<k->g.getD k 0=0)->(∀ x∈pts,Uc (ev g (x:Rat))≤M)->∀ k,Uc (g.getD k 0)≤(2*K+3)^e*M
 | _,_,[],_,h,_,_,_,_=>by simp at h
 |
  0,g,x0::xs,M,_,_,_,hg,hM=>λk=>by
  have h0:=hM x0 (by simp);rw [Xa];cases k with
  |
   zero =>
   have e:ev g (x0:Rat)=g.getD 0 0:=by
    cases g with
    | nil=>rfl
    |
     cons a p =>
     have hp:=Be (p:=p) λj=>by have:=hg (j+1) (by omega); rwa [Q3] at this
     simp only [ev,hp,Zo]; grind
   rw [<-e]; grind
  |
   succ k =>
   rw [hg (k+1) (by omega),Gn];have:=Ge (ev g (x0:Rat)); grind
 |
  e+1,g,x0::xs,M,hl,hn,hb,hg,hM=>λk=>by
  have hx0:=hb x0 (by simp);have hM0:=hM x0 (by simp);have hMn:0<=M:=Zf (Ge _) hM0;rw [List.nodup_cons] at hn;have ih:=Qum hK e (sd x0 g) xs (2*M) (by simpa using hl) hn.2 (λx hx=>hb x (by simp [hx])) (λj hj=>Qvq _ g (e+1) hg j (by omega)) λx hx=>by
   have h1:=hM x (by simp [hx]);have h2:=Qk0 (x:Rat) (x0:Rat) g;rw [<-Q4x] at h2;have hne:x-x0≠0:=λh=>hn.1 (by rw [show x0=x by omega]; exact hx)
   have h3:=Qbq hne;rw [Rat.intCast_sub] at h3;have h4:Uc (ev g (x:Rat)-ev g (x0:Rat))<=2*M:=by
    have:=Hw (ev g (x:Rat)) (-ev g (x0:Rat));rw [Cx,show ev g (x:Rat)+-ev g (x0:Rat)=ev g (x:Rat)-ev g (x0:Rat) by grind] at this;clear hM hb hg; grind
   rw [h2,Ll] at h4;have h5:=Q7 h3 (Ge (ev (sd x0 g) x));clear hM hb hg; grind
  have e1:∀ t,ev g t=ev (Hx [ev g x0] (Hx (Nx (-x0) (sd x0 g)) (0::sd x0 g))) t:=λt=>by
   have:=Qk0 t (x0:Rat) g;rw [<-Q4x] at this;simp only [U7,Uz,ev];grind
  have hp1:1<=(2*K+3)^e:=(Qab (R:=2*K+3) (x:=0) (by grind) (by rw [Gn]; grind) e).2;have hpM:=Pk (x:=(2*K+3)^e) (y:=M) (by grind) hMn;have hpM1:=Q7 hp1 hMn;rw [Z3,Ns e1 k,Gp,Gp,Hu];have a1:=ih k;have a2:Uc (-(x0:Rat)*(sd (x0:Rat) g).getD k 0)<=K*((2*K+3)^e*(2*M)):=Fh (by rw [Cx]; exact hx0) a1;have fin:∀ u v w:Rat,Uc u<=M->Uc v<=K*((2*K+3)^e*(2*M))->Uc w<=(2*K+3)^e*(2*M)->Uc (u+(v+w))<=(2*K+3)^e*(2*K+3)*M:=λu v w h1 h2 h3=>by
   have b1:=Hw u (v+w);have b2:=Hw v w;clear ih e1 hM hb hg a1 a2; grind
  refine fin _ _ _ ?_ a2 ?_
  ·cases k with
   | zero=>rw [Zo]; exact hM0
   | succ k=>rw [Q3,Kb,Gn]; exact hMn
  ·cases k with
   | zero=>rw [Zo,Gn]; clear ih e1 hM hb hg a1 a2 fin; grind
   | succ k=>rw [Q3]; exact ih k
theorem Q7h {g:List Rat} {e:Nat} (hg:∀ k,e<k->g.getD k 0=0) (hz:¬∀ t,ev g t=0) {pts:List Int} (hn:pts.Nodup) (hr:∀ x∈pts,ev g (x:Rat)=0):pts.length≤e:=by
 rcases Zb e pts.length with h | h
 ·exfalso;obtain ⟨K,hK,hb⟩:∃ K:Rat,0≤K/\∀ x∈pts,Uc (x:Rat)≤K:=by
   clear hn hr h
   induction pts with
   | nil=>exact ⟨0,by decide,λx hx=>by cases hx⟩
   |
    cons y pts ih =>
    obtain ⟨K,h1,h2⟩:=ih;refine ⟨K+Uc (y:Rat),by have:=Ge (y:Rat); grind,λx hx=>?_⟩;have hy:=Ge (y:Rat);rcases Ql.1 hx with rfl | hx
    ·grind
    ·have:=h2 x hx; grind
  refine hz (Be λk=>?_);have:=Qum hK e g (pts.take (e+1)) 0 (by rw [Qu]; omega) (hn.sublist (List.take_sublist ..)) (λx hx=>hb x (Qn hx)) hg (λx hx=>by rw [hr x (Qn hx),Gn]; exact Qo) k;have h2:=Ge (g.getD k 0);exact Zcn (by grind)
 ·exact h
def spots:List Int:=(List.range 19).map λi:Nat=>(i:Int)-9
theorem spots_nd:spots.Nodup:=by decide
theorem Qsk:∀ x∈spots,x.natAbs≤9:=by decide
theorem Qid {α:Type} (p:α->Bool):∀ l:List α,(l.filter p).length+(l.filter λx => !p x).length=l.length
 | []=>rfl
 |
  x::l=>by
  have:=Qid p l;cases h:p x <;> simp [h] <;> omega
def geo:Nat->Nat
 | 0=>0
 | n+1=>1+9*geo n
theorem Qxp {B:Rat}:∀ (p:List Int),(∀ z∈p,Uc (z:Rat)≤B)->evB 9 (cz p)≤B*(geo p.length:Nat)
 | [],_=>by simp only [cz,X7,evB,geo,Xy]; rw [show ((0:Nat):Rat)=0 from rfl]; grind
 |
  a::p,h=>by
  have h1:=Qxp p λz hz=>h z (Qe _ hz)
  have h2:=h a (Qx ..);simp only [cz,Zx,evB,geo,Q6] at *
  push_cast
  clear h; grind
theorem Q5e {m n:Nat} (h:m<=n):geo m<=geo n:=by
 induction h with
 | refl=>exact Qm _
 | step h ih=>simp only [geo]; omega
def pz:List Int->Int->Int
 | [],_=>0
 | a::p,x=>a+x*pz p x
theorem Qbu (x:Int):∀ p,W4 p (x:Rat)=((pz p x:Int):Rat)
 | []=>rfl
 | a::p=>by simp only [W4,pz,Qbu x p]; push_cast; rfl
theorem H5 (z:Int):Uc (z:Rat)=((z.natAbs:Nat):Rat):=by
 unfold Uc;rcases Wc z 0 with h | h
 ·have h1:(z:Rat)<((0:Int):Rat):=Jg.2 h;rw [if_pos (by simpa using h1)];have:(z.natAbs:Int)=-z:=by omega
  have:=congrArg (λu:Int=>(u:Rat)) this
  push_cast at this
  exact this.symm
 ·have h1:((0:Int):Rat)<=(z:Rat):=X5.2 h;have h1:(0:Rat)<=(z:Rat):=by simpa using h1
  rw [if_neg (by grind)];have:(z.natAbs:Int)=z:=by omega
  have:=congrArg (λu:Int=>(u:Rat)) this;exact this.symm
theorem Im {p g h:List Int} {s:Nat} (hp:Bd s p) (hl:p.length<=10) (tp:Ua p) (tg:Ua g) (th:Ua h) (h0:p.length≠0) (e:∀ t,W4 p t=W4 g t*W4 h t):Bd (s+69) g:=by
 have lg:0<g.length:=by
  rcases Q5 g.length with e' | e'
  ·exact absurd (λt=>by rw [e,Nv e']; grind) (Qfq tp (by omega))
  ·exact e'
 have lh:0<h.length:=by
  rcases Q5 h.length with e' | e'
  ·exact absurd (λt=>by rw [e,Nv e']; grind) (Qfq tp (by omega))
  ·exact e'
 have hlen:=Tw tg th tp e lg lh;obtain ⟨q,hq⟩:=nmE (spots.filter λx => !decide (pz p x=0));have hr:(spots.filter λx=>decide (pz p x=0)).length<=9:=by
  refine Q7h (g:=cz p) (e:=9) (λk hk=>?_) (λh=>Qfq tp (by omega) λt=>by rw [<-W5]; exact h t) (spots_nd.sublist List.filter_sublist) λx hx=>?_
  ·rw [Tu,Qj,Q0 (by omega)]; rfl
  ·have:=(J1.1 hx).2;rw [W5,Qbu,of_decide_eq_true this]; rfl
 have hc:=Qid (λx=>decide (pz p x=0)) spots;rw [<-hq] at hc;have hsl:spots.length=19:=by decide
 have hB:∀ z∈p,Uc (z:Rat)≤((2^s:Nat):Rat):=λz hz=>by
  rw [H5];have:=hp z hz;rw [Mg] at this;exact Zh.2 (J4 this)
 have key:=Qum (K:=9) (by decide) 9 (cz g) (q.take 10) (((2^s*435848050:Nat)):Rat) (by rw [Qu]; omega) ((spots_nd.sublist (by rw [hq]; exact List.filter_sublist)).sublist (List.take_sublist ..)) (λx hx=>by
  have hx:=Qn hx;rw [hq] at hx;have:=Qsk x (J1.1 hx).1;rw [H5]
  exact_mod_cast Zh.2 this) (λk hk=>by rw [Tu,Qj,Q0 (by omega)]; rfl) (λx hx=>by
  have hx:=Qn hx;rw [hq] at hx;obtain ⟨hx1,hx2⟩:=J1.1 hx;have hne:pz p x≠0:=by simpa using hx2
  have e1:=e (x:Rat);rw [Qbu,Qbu,Qbu] at e1;have e2:pz p x=pz g x*pz h x:=by exact_mod_cast e1
  have hh:1<=(pz h x).natAbs:=by
   rcases Q5 (pz h x).natAbs with e' | e'
   ·exact absurd (by rw [e2,Int.natAbs_eq_zero.1 e',Kn]) hne
   ·exact e'
  have h3:(pz g x).natAbs<=(pz p x).natAbs:=by
   rw [e2,Ye];exact Yc _ hh
  rw [W5,Qbu,H5];refine Zf (Zh.2 h3) ?_;rw [<-H5,<-Qbu,<-W5];refine Zf (Qfs (R:=9) (by
   have:=Qsk x hx1;rw [H5]
   exact_mod_cast Zh.2 this) _) ?_
  refine Zf (Qxp p hB) ?_;have:2^s*geo p.length<=2^s*435848050:=Zt _ (Qd (Q5e hl) (by decide));have:=Zh.2 this
  push_cast at this ⊢
  exact this)
 refine Qhj λk=>?_
 have h1:=key k;rw [Tu,H5] at h1;have e3:(2*(9:Rat)+3)^9*((2^s*435848050:Nat):Rat)=(((794280046581*(2^s*435848050)):Nat):Rat):=by
  rw [show (2*(9:Rat)+3)^9=794280046581 by grind]
  push_cast; rfl
 rw [e3] at h1;have h2:=Zh.1 h1;rw [Mg];refine Z2 h2 ?_;have:794280046581*(2^s*435848050)=2^s*(794280046581*435848050):=by
  rw [Nat.mul_left_comm]
 rw [this,Xc];exact Nat.mul_lt_mul_of_pos_left (by decide) (Zy (by decide))
theorem Qp8 {l:List Int} {d:Int} (h:∀ z∈l,d∣z):d∣((G5 l:Nat):Int):=by
 have key:∀ (l:List Int) (g:Nat),d.natAbs∣g->(∀ z∈l,d∣z)->d.natAbs∣l.foldl (λg z=>Nat.gcd g z.natAbs) g:=by
  intro l
  induction l with
  | nil=>exact λg h _=>h
  | cons z l ih=>exact λg hg h=>ih _ (Nat.dvd_gcd hg (X6.2 (h z (Qx ..)))) λu hu=>h u (Qe _ hu)
 have:=key l 0 (Nat.dvd_zero _) h;exact X6.1 (by rw [Xh]; exact this)
theorem Qcu (p:List Int) (c:Int) (k:Nat):(p.map (· / c)).getD k 0=p.getD k 0 / c:=by
 rw [Qj,Qj,Zq];cases p[k]? <;> simp
theorem Qbv (p:List Int) (c:Int) (k:Nat):(M7 p c).getD k 0=p.getD k 0 / c:=by
 unfold M7; rw [Qaj,Qcu]
theorem Qlu {p:List Int} {c:Int} (h:∀ z∈p,c∣z) (t:Rat):W4 p t=(c:Rat)*W4 (M7 p c) t:=by
 have:=Mk c 0 t (max p.length (M7 p c).length) (M7 p c) [] p (by omega) (by simp) (by omega) λk=>by
  rw [Qbv];have hd:c∣p.getD k 0:=by
   rw [Qj];cases e:p[k]? with
   | none=>exact Int.dvd_zero _
   | some z=>exact h z (Qa e)
  rw [Km hd]; simp
 rw [this]; simp only [W4]; push_cast; grind
theorem Is {c:Int} (h:c≠0):(c:Rat)≠0:=λe=>h (by exact_mod_cast e)
theorem As {p q:List Int} {c:Rat} (tp:Ua p) (tq:Ua q) (hc:c≠0) (h:∀ t,W4 p t=c*W4 q t):p.length=q.length:=by
 have key:∀ {p q:List Int} {c:Rat},Ua p->Ua q->c≠0->(∀ t,W4 p t=c*W4 q t)->p.length<=q.length:=λ{p q c} tp tq hc h=>by
  rcases Zb q.length p.length with e | e
  ·have h1:=G7 tp (by omega);have:=Ns (p:=cz p) (q:=Nx c (cz q)) (λt=>by rw [W5,Uz,W5,h]) (p.length-1);rw [Tu,Hu,Tu,Qj (l:=q),Q0 (by omega)] at this;have:((p.getD (p.length-1) 0:Int):Rat)=0:=by rw [this]; simp
   exact absurd (by exact_mod_cast this) h1
  ·exact e
 refine Kr (key tp tq hc h) (key (c:=1 / c) tq tp (λe=>?_) λt=>?_)
 ·have:=Zc (a:=1) hc; rw [e] at this; grind
 ·rw [h]; have:=Zc (a:=1) hc; grind
theorem Mm {p:List Int} (tp:Ua p) (h:p.length≠0):Ua (Ub p)/\(Ub p).length=p.length/\Prm (Ub p)/\0<Uf (Ub p)/\(∀ s,Bd s p->Bd s (Ub p))/\Fv p≠0/\∀ t,W4 p t=(Fv p:Rat)*W4 (Ub p) t:=by
 have h0:=Qyz tp h;have e:Ub p=M7 p (Fv p):=by unfold Ub; rw [if_neg h]
 have h1:=Qlu (p:=p) (c:=Fv p) Qdc;have hl:=As tp (Ay p (Fv p)) (Is h0) h1;have hcp:0<Rl p:=by
  have:=I9 tp h;unfold Rl at this ⊢; omega
 rw [e];refine ⟨Ay _ _,hl.symm,λd hd=>?_,?_,λs hs=>Qhk hs _,h0,h1⟩
 ·have h2:∀ z∈p,d*Fv p∣z:=λz hz=>by
   obtain ⟨i,hi⟩:=Zl.1 hz;have h3:=hd i;rw [Qbv,Qj,hi] at h3;obtain ⟨k,hk⟩:=h3;have h4:=Qdc z hz;refine ⟨k,?_⟩;have:z / Fv p*Fv p=z:=Int.ediv_mul_cancel h4;rw [<-this];rw [show z / Fv p=d*k from hk,Int.mul_right_comm]
  have h3:=Qp8 h2;have h4:Fv p∣((G5 p:Nat):Int)/\((G5 p:Nat):Int)∣Fv p:=by
   unfold Fv Rl; split
   ·exact ⟨Int.neg_dvd.2 (Kk _),Int.dvd_neg.2 (Kk _)⟩
   ·exact ⟨Kk _,Kk _⟩
  obtain ⟨k,hk⟩:=Ka h3 h4.2;refine ⟨k,?_⟩;have:Fv p*(d*k)=Fv p*1:=by rw [Int.mul_one,<-Int.mul_assoc,Kl (Fv p) d,<-hk]
  exact (Int.eq_of_mul_eq_mul_left h0 this).symm
 ·have h2:Uf (M7 p (Fv p))=Uf p / Fv p:=by unfold Uf; rw [<-hl,Qbv]
  have h3:Fv p∣Uf p:=Qdc _ (Qiu h);have h5:Uf p / Fv p*Fv p=Uf p:=Int.ediv_mul_cancel h3;rw [h2];have h6:=Cq tp h;rcases Wa (Uf p / Fv p) 0 with e1 | e1 | e1
  ·exfalso;by_cases hn:Uf p<0
   ·have:Fv p=-Rl p:=by unfold Fv; rw [if_pos hn]
    have:0<Uf p / Fv p*Fv p:=Vx e1 (by omega);omega
   ·have:Fv p=Rl p:=by unfold Fv; rw [if_neg hn]
    have:Uf p / Fv p*Fv p<0:=Int.mul_neg_of_neg_of_pos e1 (by omega);omega
  ·rw [e1] at h5; omega
  ·exact e1
theorem Q60 {r:List Int} (tr:Ua r):∃ c:Rat,0<c/\∀ t,W4 r t=c*W4 (Qa2 r) t:=by
 unfold Qa2;by_cases h:r.length=0
 ·rw [if_pos h]; exact ⟨1,by decide,λt=>by rw [Nv h,Nv rfl]; grind⟩
 ·rw [if_neg h];have h1:0<Rl r:=by
   have:=I9 tr h;unfold Rl at this ⊢; omega
  have h2:((0:Int):Rat)<(Rl r:Rat):=Jg.2 h1;exact ⟨Rl r,by simpa using h2,Qlu Da⟩
theorem Oa (x:Int) (t:Rat):∀ i,W4 (mono i x) t=(x:Rat)*t^i
 | 0=>by simp only [mono,Kv,J3,W4,Xa]; grind
 |
  i+1=>by
  have ih:=Oa x t i;simp only [mono,Yd,Z6,W4] at *;rw [ih,Z3]; push_cast; grind
theorem Qyg (x:Int) (b:List Int) (i k:Nat):(U5 (trim (mono i x)) b).getD k 0=if i<=k then x*b.getD (k-i) 0 else 0:=by
 have e:∀ t,W4 (U5 (trim (mono i x)) b) t=W4 (List.replicate i 0++b.map (x * ·)) t:=λt=>by
  rw [Us,Et,Oa];have h2:∀ i,W4 (List.replicate i 0++b.map (x * ·)) t=t^i*((x:Rat)*W4 b t):=λi=>by
   induction i with
   |
    zero =>
    simp only [Kv,J3,Xa];have:=Mk x 0 t (max b.length (b.map (x * ·)).length) b [] (b.map (x * ·)) (by omega) (by simp) (by omega) λk=>by
     rw [Qj,Qj,Zq];cases b[k]? <;> simp
    rw [this]; simp only [W4]; push_cast; grind
   | succ i ih=>simp only [Yd,Z6,W4,ih,Z3]; push_cast; grind
  rw [h2]; grind
 rw [Bs e k,Qj,List.getElem?_append,Ke];by_cases h:i<=k
 ·rw [if_neg (by omega),if_pos h,Zq,Qj];cases b[k-i]? <;> simp
 ·rw [if_pos (by omega),if_neg h,Jl,if_pos (by omega)]; rfl
theorem Q5x {p:List Int} {n:Nat} (tp:Ua p) (h:p.length<=n+1) (h0:p.getD n 0=0):p.length<=n:=by
 rcases Zb n p.length with e | e
 ·have:=G7 tp (by omega);rw [show p.length-1=n by omega] at this;exact absurd h0 this
 ·exact e
theorem Zc4 {b r:List Int} {i:Nat} (tr:Ua r) (h:r.length<=b.length+i) (hb:b.length≠0) {x:Int} (hx:x=if r.length=b.length+i then Uf r else 0):(str b (Uf b) i x r).length<b.length+i:=by
 have hl:=Qnq (c:=Uf b) (x:=x) (i:=i) (b:=b) (r:=r);have:=Q5x (p:=str b (Uf b) i x r) (n:=b.length+i-1) (Ur _ _) (by omega) (by
  unfold str;rw [Ez,To,Qyg,if_pos (by omega),hx,show b.length+i-1-i=b.length-1 by omega]
  split
  ·rename_i he;unfold Uf;rw [he,Int.sub_eq_zero]
  ·rw [Qj (l:=r),Q0 (by omega)]; simp)
 omega
theorem Zh7 (b r:List Int) (c:Int) (i:Nat) (x:Int) (t:Rat):(c:Rat)*W4 r t=(x:Rat)*t^i*W4 b t+W4 (str b c i x r) t:=by
 unfold str;rw [Sw,Gq,Us,Et,Oa]; grind
theorem Q64 (b:List Int) (c:Int):∀ (i:Nat) (q r:List Int),∃ X:List Rat,∀ t,((c^i:Int):Rat)*W4 r t=ev X t*W4 b t+W4 (psd b c i (q,r)).2 t
 | 0,q,r=>⟨[],λt=>by simp only [psd,ev]; rw [Int.pow_zero]; push_cast; grind⟩
 |
  i+1,q,r=>by
  obtain ⟨x,hx⟩:=nmE (if r.length=b.length+i then Uf r else 0);obtain ⟨X,hX⟩:=Q64 b c i (stq c i x q) (str b c i x r);obtain ⟨m,hm⟩:∃ m:List Rat,∀ t,ev m t=(x:Rat)*t^i:=⟨cz (mono i x),λt=>by rw [W5,Oa]⟩;refine ⟨Hx (Nx ((c^i:Int):Rat) m) X,λt=>?_⟩;rw [Oe hx,U7,Uz,hm];have h1:=hX t;have h2:=Zh7 b r c i x t;rw [Int.pow_succ]
  push_cast at h1 ⊢
  have:(c:Rat)^i*c*W4 r t=(c:Rat)^i*((c:Rat)*W4 r t):=by grind
  rw [this,h2]; grind
theorem Qy6 {b:List Int} (hb:b.length≠0):∀ (i:Nat) (q r:List Int),Ua r->r.length<b.length+i->Ua (psd b (Uf b) i (q,r)).2/\(psd b (Uf b) i (q,r)).2.length<b.length
 | 0,q,r,tr,h=>⟨tr,h⟩
 |
  i+1,q,r,tr,h=>by
  rw [Oe rfl];exact Qy6 hb i _ _ (Ur _ _) (Zc4 tr (by omega) hb rfl)
theorem Q63 {b:List Int} {c:Int} {t:Nat} (hb:Bd t b) (hc:Ug c<=t):∀ (i u:Nat) (q r:List Int),i<=64->Bd u r->Bd (u+i*(t+8)) (psd b c i (q,r)).2
 | 0,u,q,r,_,h=>by simpa [psd] using h
 |
  i+1,u,q,r,hi,h=>by
  rw [Oe rfl];have hx:Ug (if r.length=b.length+i then Uf r else 0)<=u:=by
   split
   ·exact Ss h
   ·rw [Bf]; exact Qi _
  have:=Q63 hb hc i (u+t+8) (stq c i (if r.length=b.length+i then Uf r else 0) q) (str b c i (if r.length=b.length+i then Uf r else 0) r) (by omega) (Qtm h hb hc hx (by omega));exact Wx this (by rw [Z5]; omega)
theorem Qjj {c:Int} (h:c<0):∀ k:Nat,(k % 2=1->c^k<0)/\(k % 2=0->0<c^k)
 | 0=>⟨λh=>by omega,λ_=>by rw [Int.pow_zero]; decide⟩
 |
  k+1=>by
  obtain ⟨i1,i2⟩:=Qjj h k;rw [Int.pow_succ];exact ⟨λhk=>Vw (i2 (by omega)) h,λhk=>Vx (i1 (by omega)) h⟩
theorem Qg6 {a b:List Int} (ta:Ua a) (tb:Ua b) (hb:b.length≠0) (hl:a.length<=60):Ua (G6 a b)/\(G6 a b).length<b.length/\(∀ s,Bd s a->Bd s b->Bd (s+(a.length+1-b.length)*(s+8)) (G6 a b)) /\
 ∃ u v:Rat,0<u/\0<v/\∃ X:List Rat,∀ t,u*W4 a t=ev X t*W4 b t+v*W4 (G6 a b) t:=by
 obtain ⟨k,hk⟩:=nmE (a.length+1-b.length);have h1:Ua (Tj a b)/\(Tj a b).length<b.length:=Qy6 hb _ _ _ ta (by omega);obtain ⟨X,hX⟩:=Q64 b (Uf b) k [] a;have hX:∀ t,(((Uf b)^k:Int):Rat)*W4 a t=ev X t*W4 b t+W4 (Tj a b) t:=by unfold Tj; rw [<-hk]; exact hX
 have h2:=Qdg (a:=a) (b:=b) (r:=Tj a b) (n:=(Tj a b).length) (s:=(Tj a b).foldl (λm z=>m+Ug z) 0) h1.1 (Qm _) (λz hz=>by
  have key:∀ (l:List Int) (m:Nat),m≤l.foldl (λm z=>m+Ug z) m/\∀ z∈l,Ug z≤l.foldl (λm z=>m+Ug z) m:=by
   intro l
   induction l with
   | nil=>exact λm=>⟨Qm _,λz hz=>by cases hz⟩
   |
    cons y l ih =>
    intro m;obtain ⟨i1,i2⟩:=ih (m+Ug y);refine ⟨by simp only [Z4]; omega,λz hz=>?_⟩;simp only [Z4];rcases Ql.1 hz with rfl | hz
    ·omega
    ·exact i2 z hz
  exact (key _ 0).2 z hz)
 have h3:=Qjf (r:=Px a b (Tj a b)) (n:=(Tj a b).length) h2.2.1 h2.2.2;refine ⟨h3.1,by unfold G6; omega,λs ha hbs=>?_,?_⟩
 ·have h4:=Q63 (c:=Uf b) hbs (Ss hbs) k s [] a (by omega) ha;have h5:=Qdg (a:=a) (b:=b) (n:=(Tj a b).length) h1.1 (Nat.le_refl _) (show Bd (s+k*(s+8)) (Tj a b) by unfold Tj; rw [<-hk]; exact h4);rw [<-hk];exact (Qjf h5.2.1 h5.2.2).2.2
 ·obtain ⟨v,vp,hv⟩:=Q60 h2.1;have hc:=Cq tb hb;by_cases ht:k % 2=1/\Uf b<0
  ·have e1:Px a b (Tj a b)=B9 (Tj a b):=by unfold Px; rw [<-hk,if_pos ht]
   have hneg:(Uf b)^k<0:=(Qjj ht.2 k).1 ht.1;have h5:(((Uf b)^k:Int):Rat)<((0:Int):Rat):=Jg.2 hneg;have h5:(((Uf b)^k:Int):Rat)<0:=by simpa using h5
   refine ⟨-(((Uf b)^k:Int):Rat),v,by grind,vp,Nx (-1) X,λt=>?_⟩;have h6:=hX t;have h7:=hv t;rw [e1,Qdb] at h7;show _=_+v*W4 (Qa2 (Px a b (Tj a b))) t;rw [e1,<-h7,Uz]; grind
  ·have e1:Px a b (Tj a b)=Tj a b:=by unfold Px; rw [<-hk,if_neg ht]
   have hpos:0<(Uf b)^k:=by
    rcases V1 hc with h | h
    ·exact (Qjj h k).2 (by omega)
    ·exact Int.pow_pos h
   have h5:((0:Int):Rat)<(((Uf b)^k:Int):Rat):=Jg.2 hpos;refine ⟨(((Uf b)^k:Int):Rat),v,by simpa using h5,vp,X,λt=>?_⟩;have h7:=hv t;show _=_+v*W4 (Qa2 (Px a b (Tj a b))) t;rw [<-h7,e1,hX]
theorem Dh {p:List Int} (h1:p.length<=64) (h2:Bd 16777216 p):chk p=some p:=by
 unfold chk;rw [if_pos ⟨h1,Yy.2 λz hz=>Nat.ble_eq_true_of_le (h2 z hz)⟩]
theorem Qky {a b:List Int} {g:List Rat} {c:Rat} (hc:c≠0) (h:∀ t,W4 a t=c*W4 b t):If g (cz a)↔If g (cz b):=by
 constructor
 ·rintro ⟨u,hu⟩
  refine ⟨Nx (1 / c) u,λt=>?_⟩;have h1:=hu t;rw [W5,h] at h1;rw [W5,Uz];have h2:1 / c*c=1:=Zc hc;have:W4 b t=1 / c*(c*W4 b t):=by grind
  rw [this,h1]; grind
 ·rintro ⟨u,hu⟩
  refine ⟨Nx c u,λt=>?_⟩;have h1:=hu t;rw [W5] at h1;rw [W5,Uz,h,h1]; grind
structure Gc (g a b:List Int):Prop where
 t:Ua g
 da:If (cz g) (cz a)
 db:If (cz g) (cz b)
 c:∃ U V,∀ t,W4 g t=ev U t*W4 a t+ev V t*W4 b t
 n:g.length≠0
theorem Gc.scale {g a b g' a' b':List Int} {x y z:Rat} (h:Gc g a b) (hx:x≠0) (hy:y≠0) (hz:z≠0) (tg:Ua g') (eg:∀ t,W4 g t=x*W4 g' t) (ea:∀ t,W4 a' t=y*W4 a t) (eb:∀ t,W4 b' t=z*W4 b t):Gc g' a' b':=by
 have hx1:1 / x*x=1:=Zc hx;have hy1:1 / y*y=1:=Zc hy;have hz1:1 / z*z=1:=Zc hz;have hg:∀ c,If (cz g) c->If (cz g') c:=λc ⟨u,hu⟩=>⟨Nx x u,λt=>by rw [hu,W5,W5,eg,Uz]; grind⟩
 obtain ⟨U,V,hc⟩:=h.c;refine ⟨tg,hg _ ((Qky hy ea).2 h.da),hg _ ((Qky hz eb).2 h.db),⟨Nx (1 / x*(1 / y)) U,Nx (1 / x*(1 / z)) V,λt=>?_⟩,?_⟩
 ·have h1:=hc t;have h2:W4 g' t=1 / x*W4 g t:=by rw [eg]; grind
  rw [h2,h1,Uz,Uz,ea,eb];generalize ev U t=u at *;generalize ev V t=v at *;grind
 ·rw [<-As h.t tg hx eg]; exact h.n
theorem Zhp:∀ d:Nat,1<=d->d+2<=3^d
 | 0,h=>by omega
 | 1,_=>by decide
 | d+2,_=>by have:=Zhp (d+1) (by omega); rw [Zr]; omega
theorem Qsy {k:Nat} {a b:List Int} (ta:Ua a) (tb:Ua b) (hb:b.length≠0) (hl:a.length<=60) (hbl:b.length<=60) (hr:Bd 16777216 (G6 a b)) (ih:∃ g,Qfe k b (G6 a b)=some g/\Gc g b (G6 a b)):∃ g,Qfe (k+1) a b=some g/\Gc g a b:=by
 obtain ⟨h1,h2,h3,u,v,up,vp,X,hX⟩:=Qg6 ta tb hb hl;obtain ⟨g,e,hg⟩:=ih;refine ⟨g,?_,?_⟩
 ·simp only [Qfe];rw [if_neg hb,Dh (by omega) hr]; exact e
 ·obtain ⟨U,V,hc⟩:=hg.c;obtain ⟨y,hy⟩:=hg.da;obtain ⟨z,hz⟩:=hg.db;have hu:1 / u*u=1:=Fi up;have hv:1 / v*v=1:=Fi vp;refine ⟨hg.t,⟨Nx (1 / u) (Hx (Fa X y) (Nx v z)),λt=>?_⟩,hg.da,⟨Nx (u / v) V,Hx U (Nx (-1 / v) (Fa V X)),λt=>?_⟩,hg.n⟩
  ·have a1:=hX t; have a2:=hy t; have a3:=hz t;rw [W5,W5] at a2 a3;rw [W5,W5,Uz,U7,W9,Uz];have:W4 a t=1 / u*(u*W4 a t):=by grind
   rw [this,a1,a2,a3]; grind
  ·have a1:=hX t; have a2:=hc t;rw [Uz,U7,Uz,W9,a2];have:W4 (G6 a b) t=1 / v*(v*W4 (G6 a b) t):=by grind
   rw [this,show v*W4 (G6 a b) t=u*W4 a t-ev X t*W4 b t by grind,Jx,Jx,Jx];grind
theorem Qzr {k:Nat} {a:List Int} (ta:Ua a) (ha:a.length≠0):∃ g,Qfe (k+1) a []=some g/\Gc g a [] :=
 ⟨a,rfl,ta,dvd_refl _,⟨[],λt=>by simp only [cz,X7,ev]; grind⟩,⟨[1],[],λt=>by rw [G8]; simp only [ev]; grind⟩,ha⟩
theorem Qff {s:Nat}:∀ (k:Nat) (a b:List Int),Ua a->Ua b->b.length<k->b.length<a.length->a.length<=60->Bd s a->Bd s b->(s+8)*3^(a.length-1)<=16777216->∃ g,Qfe k a b=some g/\Gc g a b
 | 0,_,_,_,_,h,_,_,_,_,_=>by omega
 |
  k+1,a,b,ta,tb,hk,hab,hl,ba,bb,hs=>by
  by_cases hb:b.length=0
  ·rw [Qh hb]; exact Qzr ta (by omega)
  ·obtain ⟨h1,h2,h3,_⟩:=Qg6 ta tb hb hl;have h3:=h3 s ba bb;obtain ⟨m,hm⟩:=nmE (a.length-b.length);have e1:a.length+1-b.length=m+1:=by omega
   rw [e1] at h3;have e2:s+(m+1)*(s+8)+8=(m+2)*(s+8):=by
    rw [show m+2=(m+1)+1 by omega,Z5 (m+1)]; omega
   have e3:(m+2)*(s+8)*3^(b.length-1)<=(s+8)*3^(a.length-1):=by
    rw [show a.length-1=m+(b.length-1) by omega,Xc,<-Xs,Zp (s+8)];exact Qy _ (Qy _ (Zhp m (by omega)))
   have e4:s+(m+1)*(s+8)<=16777216:=by
    have:(m+2)*(s+8)<=(m+2)*(s+8)*3^(b.length-1):=Yc _ (Zy (by decide));omega
   refine Qsy ta tb hb hl (by omega) (Wx h3 e4) (Qff (s:=s+(m+1)*(s+8)) k b (G6 a b) tb h1 (by omega) h2 (by omega) (Wx bb (by omega)) h3 ?_);rw [e2]; omega
def Szz (n s:Nat):Prop:=n<=10/\2*(s+8)*3^(n-1)<=16777216
theorem Q8g {n s:Nat} (hz:Szz n s) {a b:List Int} (ta:Ua a) (tb:Ua b) (la:a.length<=n) (lb:b.length<=n) (ba:Bd s a) (bb:Bd s b) (h0:a.length≠0\/b.length≠0):∃ g,Qfe 66 a b=some g/\Gc g a b:=by
 obtain ⟨hn,hz⟩:=hz;have hp:∀ l,l<=n->(s+8)*3^(l-1)<=8388608:=λl hl=>by
  have:(s+8)*3^(l-1)<=(s+8)*3^(n-1):=Zt _ (Zs (by decide) (by omega));rw [Xs] at hz; omega
 rcases Zb b.length a.length with h | h
 ·exact Qff 66 a b ta tb (by omega) h (by omega) ba bb (by have:=hp a.length la; omega)
 ·by_cases hb:b.length=0
  ·rw [Qh hb]; exact Qzr ta (by omega)
  ·obtain ⟨h1,h2,h3,_⟩:=Qg6 ta tb hb (by omega);have h3:=h3 s ba bb;have h4:(a.length+1-b.length)*(s+8)<=1*(s+8):=Qy _ (by omega);have h5:=hp b.length lb;have h6:(s+8)*1<=(s+8)*3^(b.length-1):=Zt _ (Zy (by decide));refine Qsy ta tb hb (by omega) (by omega) (Wx h3 (by omega)) (Qff (s:=2*s+8) 65 b (G6 a b) tb h1 (by omega) h2 (by omega) (Wx bb (by omega)) (Wx h3 (by omega)) ?_);rw [show 2*s+8+8=2*(s+8) by omega,Xs]; omega
theorem Qlz:Ub []=[]:=rfl
theorem Qdf {a:List Int} (ta:Ua a):Ua (Ub a)/\(Ub a).length=a.length/\(∀ s,Bd s a->Bd s (Ub a))/\∃ c:Rat,c≠0/\∀ t,W4 a t=c*W4 (Ub a) t:=by
 by_cases h:a.length=0
 ·rw [Qh h];exact ⟨rfl,rfl,λs _=>Qa8,1,by decide,λt=>by rw [Qlz]; grind⟩
 ·obtain ⟨h1,h2,h3,h4,h5,h6,h7⟩:=Mm ta h;exact ⟨h1,h2,h5,_,Is h6,h7⟩
theorem Qb5 {n s:Nat} (hz:Szz n s) {a b:List Int} (ta:Ua a) (tb:Ua b) (la:a.length<=n) (lb:b.length<=n) (ba:Bd s a) (bb:Bd s b) (h0:a.length≠0\/b.length≠0):∃ g,Og a b=some g/\Gc g a b/\Prm g/\0<Uf g:=by
 obtain ⟨a1,a2,a3,x,xn,ax⟩:=Qdf ta;obtain ⟨b1,b2,b3,y,yn,bx⟩:=Qdf tb;obtain ⟨g,e,hg⟩:=Q8g hz a1 b1 (by omega) (by omega) (a3 s ba) (b3 s bb) (by omega);obtain ⟨g1,g2,g3,g4,g5,g6,g7⟩:=Mm hg.t hg.n;refine ⟨Ub g,?_,hg.scale (Is g6) xn yn g1 g7 ax bx,g3,g4⟩;unfold Og; rw [e]; rfl
theorem Q1r {a:List Int} (ta:Ua a):Og [] a=some (Ub (Ub a)):=by
 unfold Og;rw [Qlz];by_cases h:(Ub a).length=0
 ·have e:Ub a=[]:=Qh h;rw [e]; rfl
 ·have e:G6 [] (Ub a)=[]:=by
   have e1:Tj [] (Ub a)=[]:=by unfold Tj; rw [show ([]:List Int).length+1-(Ub a).length=0 by simp; omega]; rfl
   unfold G6;rw [e1];unfold Px
   split <;> rfl
  have:Qfe 66 [] (Ub a)=some (Ub a):=by
   show (if (Ub a).length=0 then _ else _)=_;rw [if_neg h,e]; rfl
  rw [this]; rfl
theorem Q5c {n s:Nat} (hz:Szz n s) {a b:List Int} (ta:Ua a) (tb:Ua b) (la:a.length<=n) (lb:b.length<=n) (ba:Bd s a) (bb:Bd s b) (h0:a.length≠0):∃ g,Qn8 a b=some g/\Gc g a b/\Prm g/\0<Uf g:=by
 obtain ⟨a1,a2,a3,x,xn,ax⟩:=Qdf ta;obtain ⟨b1,b2,b3,y,yn,bx⟩:=Qdf a1;obtain ⟨g,e,hg,h1,h2⟩:=Qb5 hz b1 tb (by omega) lb (b3 s (a3 s ba)) bb (by omega);refine ⟨g,?_,hg.scale (x:=1) (y:=x*y) (z:=1) (by decide) (λh=>(Yp.1 h).elim xn yn) (by decide) hg.t (λt=>by grind) (λt=>by rw [ax,bx]; grind) (λt=>by grind),h1,h2⟩;unfold Qn8;rw [Q1r ta]; exact e
theorem Qzp:∀ {p q:List Rat} {m n:Nat},HD p m->HD q n->(Fa p q).getD (m+n) 0=p.getD m 0*q.getD n 0
 | [],q,m,n,h,_=>absurd (by simp) h.1
 |
  a::p,q,0,n,h,h'=>by
  have h1:∀ k,p.getD k 0=0:=λk=>by have:=h.2 (k+1) (by omega); rwa [Q3] at this
  simp only [Fa];rw [Gp,Hu,Zo,Zu];cases n with
  | zero=>rw [Zo]; grind
  | succ n=>rw [Q3,Qfw h1]; grind
 |
  a::p,q,m+1,n,h,h'=>by
  have ih:=Qzp (p:=p) (q:=q) (m:=m) ⟨by have:=h.1; rwa [Q3] at this,λk hk=>by have:=h.2 (k+1) (by omega); rwa [Q3] at this⟩ h';simp only [Fa];rw [Gp,Hu,show m+1+n=(m+n)+1 by omega,Q3,h'.2 _ (by omega),ih,Q3]; grind
theorem Qqx {a b c:List Int} (ta:Ua a) (tb:Ua b) (tc:Ua c) (h:∀ t,W4 c t=W4 a t*W4 b t) (la:0<a.length) (lb:0<b.length):Uf c=Uf a*Uf b:=by
 have h1:=Qfv ta la;have h2:=Qfv tb lb;have h3:=Qzp h1 h2;have hl:=Tw ta tb tc h la lb;rw [<-Ns (p:=cz c) (λt=>by rw [W9,W5,W5,W5,h]),Tu,Tu,Tu,show a.length-1+(b.length-1)=c.length-1 by omega] at h3;unfold Uf; exact_mod_cast h3
theorem G9 {a b c:List Int} (tc:Ua c) (hc:c.length≠0) (h:∀ t,W4 c t=W4 a t*W4 b t):0<a.length/\0<b.length:=by
 constructor
 ·rcases Q5 a.length with e | e
  ·exact absurd (λt=>by rw [h,Nv e]; grind) (Qfq tc (by omega))
  ·exact e
 ·rcases Q5 b.length with e | e
  ·exact absurd (λt=>by rw [h,Nv e]; grind) (Qfq tc (by omega))
  ·exact e
theorem Qn7 {b:List Int} (tb:Ua b) (hb:b.length≠0):∀ (i:Nat) (a q h:List Int),Ua a->Ua h->(∀ t,W4 a t=W4 b t*W4 h t)->a.length<b.length+i->i<=q.length->(∀ j,j<i->q.getD j 0=0)->∃ q',Qn6 b i a q=some q'/\q'.length=q.length/\∀ t,W4 q' t=W4 q t+W4 h t
 |
  0,a,q,h,ta,th,e,hl,_,_=>by
  have ha:a.length=0:=by
   rcases Q5 a.length with e' | e'
   ·exact e'
   ·obtain ⟨p1,p2⟩:=G9 ta (by omega) e;have:=Tw tb th ta e p1 p2; omega
  refine ⟨q,by simp only [Qn6]; rw [if_pos ha],rfl,λt=>?_⟩;have:∀ t,W4 h t=0:=λt=>by
   have:=Qt1 (p:=cz b) (q:=cz h) (r:=[]) (λh0=>Qfq tb (by omega) λt=>by rw [<-W5]; exact h0 t) (λt=>by rw [W5,W5,<-e,Nv ha]; simp only [ev]; grind) t;rwa [W5] at this
  rw [this]; grind
 |
  i+1,a,q,h,ta,th,e,hl,hq,h0=>by
  simp only [Qn6];by_cases hlt:a.length<b.length+i
  ·rw [if_pos hlt];exact Qn7 tb hb i a q h ta th e hlt (by omega) λj hj=>h0 j (by omega)
  ·rw [if_neg hlt];obtain ⟨p1,p2⟩:=G9 ta (by omega) e;have hln:=Tw tb th ta e p1 p2;have hld:=Qqx tb th ta e p1 p2;have hlb:=Cq tb hb;rw [hld,if_pos (Int.mul_emod_right _ _),Yx _ hlb];have hli:h.length=i+1:=by omega
   have e2:∀ t,W4 (M3 a (U5 (trim (mono i (Uf h))) b)) t=W4 b t*W4 (M3 h (mono i (Uf h))) t:=λt=>by
    rw [Sw,Sw,Us,Et,e]; grind
   have hl2:(M3 a (U5 (trim (mono i (Uf h))) b)).length<b.length+i:=by
    have hl:=Qya (i:=i) (x:=Uf h) (b:=b) (a:=a);unfold sta at hl;have:=Q5x (p:=M3 a (U5 (trim (mono i (Uf h))) b)) (n:=b.length+i-1) (Ur _ _) (by omega) (by
     rw [Ez,Qyg,if_pos (by omega),show b.length+i-1-i=b.length-1 by omega,show b.length+i-1=a.length-1 by omega];have:Uf a=a.getD (a.length-1) 0:=rfl;rw [<-this,hld];unfold Uf;rw [Kl,Int.sub_eq_zero])
    omega
   obtain ⟨q',h1,h2,h3⟩:=Qn7 tb hb i _ (q.set i (Uf h)) (M3 h (mono i (Uf h))) (Ur _ _) (Ur _ _) e2 hl2 (by simp; omega) λj hj=>by
    rw [Qj,J6,if_neg (by omega),<-Qj];exact h0 j (by omega)
   refine ⟨q',h1,by rw [h2,Jz],λt=>?_⟩;rw [h3,Qn5 q i _ t (by omega),h0 i (by omega),Sw,Oa]
   push_cast; grind
theorem Q7c {a b h:List Int} {s:Nat} (ta:Ua a) (tb:Ua b) (th:Ua h) (ha:a.length≠0) (la:a.length<=10) (ba:Bd s a) (hs:s+69<=16777216) (e:∀ t,W4 a t=W4 b t*W4 h t):Od a b=some h:=by
 obtain ⟨p1,p2⟩:=G9 ta ha e;have hln:=Tw tb th ta e p1 p2;obtain ⟨q,h1,h2,h3⟩:=Qn7 tb (by omega) (a.length+1-b.length) a (List.replicate (a.length+1-b.length) 0) h ta th e (by omega) (by simp) λj _=>Dq _ _
 have h4:trim q=h:=Qyy (Hj _) th λt=>by rw [Et,h3,Qlv]; grind
 unfold Od;rw [if_neg (by omega),h1];show chk (trim q)=_;rw [h4];exact Dh (by omega) (Wx (Im ba la ta th tb ha λt=>by rw [e]; grind) (by omega))
structure Pr1 (p:List Int):Prop where
 t:Ua p
 m:Prm p
 l:0<Uf p
theorem Pr1.n {p:List Int} (h:Pr1 p):p.length≠0:=λe=>by
 have:=h.l;rw [Qh e] at this;exact absurd this (by decide)
theorem Pr1.one {p:List Int} (h:Pr1 p) (hl:p.length<2):p=[1]:=by
 have hn:=h.n;obtain ⟨c,rfl⟩:∃ c,p=[c]:=V9.1 (by omega);have h1:=h.m c λk=>by cases k <;> simp
 have h2:0<c:=h.l;have:=Int.le_of_dvd (by decide) h1;rw [show c=1 by omega]
theorem Zcf {p g h:List Int} (hp:Prm p) (e:∀ t,W4 p t=W4 g t*W4 h t):Prm h:=λd hd=>by
 refine hp d λk=>?_
 have:=Bs (p:=p) (q:=U5 g h) (λt=>by rw [e,Us]) k;rw [this];have e2:∀ t,W4 (U5 g h) t=(d:Rat)*W4 (U5 g (h.map (· / d))) t:=λt=>by
  have h1:W4 h t=(d:Rat)*W4 (h.map (· / d)) t:=by
   have:=Mk d 0 t (max h.length (h.map (· / d)).length) (h.map (· / d)) [] h (by omega) (by simp) (by omega) λk=>by
    rw [Qcu,Km (hd k)]; simp
   rw [this]; simp only [W4]; push_cast; grind
  rw [Us,Us,h1]; grind
 have:=Bs (p:=U5 g h) (q:=Uv (U5 g (h.map (· / d))) d) (λt=>by rw [e2,Gq]; grind) k;rw [this,To]; exact Yw _ _
theorem Zce {p g h:List Int} (hp:Pr1 p) (hg:0<Uf g) (tg:Ua g) (th:Ua h) (e:∀ t,W4 p t=W4 g t*W4 h t):Pr1 h:=by
 obtain ⟨p1,p2⟩:=G9 hp.t hp.n e;have:=Qqx tg th hp.t e p1 p2;refine ⟨th,Zcf hp.m e,?_⟩;have hl:=hp.l;rw [this] at hl;rcases Wa (Uf h) 0 with h1 | h1 | h1
 ·have:=Vw hg h1; omega
 ·rw [h1] at hl; omega
 ·exact h1
structure Sqp (p g q:List Int):Prop where
 pp:Pr1 p
 pg:Pr1 g
 pq:Pr1 q
 e:∀ t,W4 p t=W4 g t*W4 q t
 c:∃ U V,∀ t,W4 g t=ev U t*W4 p t+ev V t*dv (cz p) t
 d:∃ z,∀ t,dv (cz p) t=W4 g t*ev z t
theorem Sqp.num {p g q:List Int} (h:Sqp p g q) {d:List Rat} (h1:If d (cz q)) (h2:If d (Pm (cz q))):∃ c:Rat,c≠0/\∀ t,ev d t=c:=by
 obtain ⟨U,V,hc⟩:=h.c;have hpow:=sqf (k:=1) (a:=cz p) (g:=cz g) (q:=cz q) (d:=d) (U:=U) (V:=V) (by decide) (λt=>by rw [W5,W5,W5,h.e]) (λt=>by rw [W5,W5,hc]; grind) h1 h2;rcases Qim d with h3 | ⟨m,_,h3⟩
 ·obtain ⟨u,hu⟩:=h1;exact absurd (λt=>by rw [<-W5,hu,h3]; grind) (Qfq h.pq.t (by have:=h.pq.n; omega))
 ·obtain rfl:=Qly h3 (Qfv h.pg.t (by have:=h.pg.n; omega)) hpow;refine ⟨d.getD 0 0,h3.1,λt=>?_⟩;cases d with
  | nil=>exact absurd (by simp) h3.1
  |
   cons c l =>
   have:=Be (p:=l) λk=>by have:=h3.2 (k+1) (by omega); rwa [Q3] at this
   simp only [ev,this,Zo]; grind
theorem Sqp.bez {p g q:List Int} (h:Sqp p g q):∃ X Y,∀ t,ev X t*ev (cz q) t+ev Y t*dv (cz q) t=1:=by
 obtain ⟨d,U,V,h1,h2,h3⟩:=Q5b (cz q) (Pm (cz q));obtain ⟨c,hc,hd⟩:=h.num h1 h2;refine ⟨Nx (1 / c) U,Nx (1 / c) V,λt=>?_⟩;have h5:=h3 t;rw [hd,Hh] at h5;have h4:1 / c*c=1:=Zc hc;rw [Uz,Uz];have:1 / c*ev U t*ev (cz q) t+1 / c*ev V t*dv (cz q) t=1 / c*(ev U t*ev (cz q) t+ev V t*dv (cz q) t):=by grind
 rw [this,<-h5,h4]
theorem Q8a {n s:Nat} (h:Szz n s):s<=8388600:=by
 have:2*(s+8)*1<=2*(s+8)*3^(n-1):=Zt _ (Zy (by decide));have:=h.2; omega
theorem Qtl {s:Nat} {p:List Int} (h:Bd s p) (hl:p.length<=10):Bd (s+4) (Fj p):=Qwl h (t:=4) (by omega)
theorem Qzl {n s:Nat} (hz:Szz n (s+73)) {p:List Int} (pp:Pr1 p) (l2:2<=p.length) (lp:p.length<=n) (bp:Bd (s+69) p) {p0 h0:List Int} (b0:Bd s p0) (l0:p0.length<=10) (t0:Ua p0) (th0:Ua h0) (z0:p0.length≠0) (e0:∀ t,W4 p0 t=W4 h0 t*W4 p t) :
 ∃ g q,chk (Fj p)=some (Fj p)/\Og p (Fj p)=some g/\Od p g=some q/\Sqp p g q/\g.length<p.length:=by
 have hn:=hz.1;have hs:=Q8a hz;have bd:=Qtl bp (by omega);have ld:=Bi p;have td:Ua (Fj p):=Ur _ _;obtain ⟨g,e1,hg,m,l⟩:=Qb5 hz pp.t td lp (by omega) (Wx bp (by omega)) bd (.inl pp.n);obtain ⟨q,tq,eq⟩:=Q44 m hg.da;have hdnz:(Fj p).length≠0:=λh=>by
  have h1:=Pv p (p.length-2);rw [Qh h,show p.length-2+1=p.length-1 by omega] at h1;have h2:p.getD (p.length-1) 0≠0:=G7 pp.t (by omega);rcases Jy.1 (h1.symm.trans (by simp)) with h3 | h3
  ·exact h2 h3
  ·omega
 have pg:Pr1 g:=⟨hg.t,m,l⟩;have hql:=Q7c (s:=s+69) pp.t hg.t tq pp.n (by omega) bp (by omega) eq;refine ⟨g,q,Dh (by omega) (Wx bd (by omega)),e1,hql,⟨pp,pg,Zce pp l hg.t tq eq,eq,?_,?_⟩,?_⟩
 ·obtain ⟨U,V,hc⟩:=hg.c;exact ⟨U,V,λt=>by rw [hc,Er]⟩
 ·obtain ⟨z,hz⟩:=hg.db;exact ⟨z,λt=>by rw [<-Er,<-W5,hz,W5]⟩
 ·obtain ⟨z,tz,ez⟩:=Q44 m hg.db;obtain ⟨q1,q2⟩:=G9 td hdnz ez;have:=Tw hg.t tz td ez q1 q2;omega
theorem Zb5:Sqp [1] [1] [1]:=by
 have p1:Pr1 [1]:=⟨rfl,λd hd=>by have:=hd 0; rwa [Zo] at this,by decide⟩;have e1:∀ t,W4 [1] t=1:=λt=>by simp only [W4]; push_cast; grind
 exact ⟨p1,p1,p1,λt=>by rw [e1]; grind,⟨[1],[],λt=>by rw [e1,G8]; simp only [ev]; grind⟩,⟨[],λt=>by simp only [cz,Zx,X7,dv,ev]; grind⟩⟩
structure Okp (n s:Nat) (p:List Int):Prop where
 z:Szz n (s+73)
 t:Ua p
 nz:p.length≠0
 l:p.length<=n
 b:Bd s p
theorem Okp.pr {n s:Nat} {p:List Int} (h:Okp n s p):Pr1 (Ub p)/\(Ub p).length=p.length/\Bd s (Ub p):=by
 obtain ⟨h1,h2,h3,h4,h5,_⟩:=Mm h.t h.nz;exact ⟨⟨h1,h3,h4⟩,h2,h5 s h.b⟩
theorem Qag {n s:Nat} {p:List Int} (h:Okp n s p):∃ g q,Te p=some q/\Sqp (Ub p) g q:=by
 obtain ⟨pp,hl,hb⟩:=h.pr;have hn:=h.z.1;have:=h.l;unfold Te;by_cases h2:(Ub p).length<2
 ·rw [if_pos h2,pp.one h2]; exact ⟨[1],[1],rfl,Zb5⟩
 ·rw [if_neg h2];obtain ⟨g,q,h3,h4,h5,h6,_⟩:=Qzl h.z pp (by omega) (by omega) (Wx hb (by omega)) (p0:=Ub p) (h0:=[1]) hb (by omega) pp.t rfl pp.n λt=>by simp only [W4]; push_cast; grind
  exact ⟨g,q,by rw [h3]; show (Og (Ub p) (Fj (Ub p))).bind _=_; rw [h4]; exact h5,h6⟩
inductive LW:List Int->List (List Int)->Prop
 | nil:LW [1] []
 | cons {g h w:List Int} {ws:List (List Int)} (hs:Sqp g h w) (hl:LW h ws):LW g (w::ws)
theorem Zha {g:List Int} {ws:List (List Int)} (h:LW g ws):∀ t,W4 g t=ev (Eo (ws.map cz)) t:=by
 induction h with
 | nil=>intro t; simp only [X7,Eo,W4]; rw [G8]; push_cast; grind
 | cons hs hl ih=>intro t; simp only [Zx,Eo]; rw [W9,W5,hs.e,ih]; grind
theorem Qyf {g:List Int} {w v:List Int} {ws:List (List Int)} (h:LW g (w::v::ws)):∃ f,Ua f/\∀ t,W4 w t=W4 f t*W4 v t:=by
 cases h with
 |
  @cons _ h _ _ hs hl =>
  cases hl with
  |
   @cons _ h2 _ _ hs2 hl2 =>
   obtain ⟨X,Y,hb⟩:=hs2.bez;obtain ⟨z,hz⟩:=hs.d;have hd:=Zc1 (a:=cz g) (g:=cz h) (q:=cz w) (z:=z) (r:=cz v) (X:=X) (Y:=Y) (n:=h.length-1) (λt=>by rw [W5,W5,W5,hs.e]) (λt=>by rw [hz,W5]) (Qfv hs.pg.t (by have:=hs.pg.n; omega)) hb
    ⟨Fa (cz h2) (cz w),λt=>by rw [W9,W5,W5,W5,W5,hs.e,hs2.e]; grind⟩
   obtain ⟨f,tf,ef⟩:=Q44 hs2.pq.m hd;exact ⟨f,tf,λt=>by rw [ef]; grind⟩
theorem Qq2 {g w:List Int} {ws:List (List Int)} (h:LW g (w::ws)):∀ v∈w::ws,Pr1 v/\If (cz v) (cz w):=by
 have key:∀ (ws:List (List Int)) (g w:List Int),LW g (w::ws)->∀ v∈w::ws,Pr1 v/\If (cz v) (cz w):=by
  intro ws
  induction ws with
  |
   nil =>
   intro g w h v hv;rw [Qk.1 hv];cases h with
   | cons hs hl=>exact ⟨hs.pq,dvd_refl _⟩
  |
   cons u ws ih =>
   intro g w h v hv;have hn:=Qyf h;cases h with
   |
    @cons _ h _ _ hs hl =>
    rcases Ql.1 hv with rfl | hv
    ·exact ⟨hs.pq,dvd_refl _⟩
    ·obtain ⟨i1,i2⟩:=ih h u hl v hv;obtain ⟨f,_,hf⟩:=hn;exact ⟨i1,dvd_trans i2 ⟨cz f,λt=>by rw [W5,W5,W5,hf]; grind⟩⟩
 exact key ws g w h
theorem lay_ok {n s:Nat} (hz:Szz n (s+73)) {p0:List Int} (b0:Bd s p0) (l0:p0.length<=10) (t0:Ua p0) (z0:p0.length≠0):∀ (k:Nat) (g h0:List Int),Pr1 g->g.length<=k->g.length<=n->Ua h0->(∀ t,W4 p0 t=W4 h0 t*W4 g t)->∃ ws,Qer k g=some ws/\LW g ws
 | 0,g,_,pg,hk,_,_,_=>absurd pg.n (by omega)
 |
  k+1,g,h0,pg,hk,hn,th0,e0=>by
  simp only [Qer];by_cases h2:g.length<2
  ·rw [if_pos h2,pg.one h2]; exact ⟨[],rfl,.nil⟩
  ·rw [if_neg h2];have bg:Bd (s+69) g:=Im b0 l0 t0 pg.t th0 z0 λt=>by rw [e0]; grind
   obtain ⟨h,w,h3,h4,h5,h6,h7⟩:=Qzl hz pg (by omega) hn bg b0 l0 t0 th0 z0 e0;obtain ⟨ws,i1,i2⟩:=lay_ok hz b0 l0 t0 z0 k h (U5 h0 w) h6.pg (by omega) (by omega) (Gh _ _) λt=>by rw [e0,Us,h6.e]; grind
   refine ⟨w::ws,?_,.cons h6 i2⟩;rw [h3];show (Og g (Fj g)).bind _=_;rw [h4];show (Od g h).bind _=_;rw [h5];show (Qer k h).bind _=_;rw [i1]; rfl
theorem Q4y {s:Nat} {p0:List Int} (b0:Bd s p0) (l0:p0.length≤10) (t0:Ua p0) (z0:p0.length≠0) (hs:s+69+69≤16777216):∀ (ws:List (List Int)) (g h0:List Int),LW g ws->Ua h0->(∀ t,W4 p0 t=W4 h0 t*W4 g t)->∃ fs,Qj7 ws=some fs/\Lay (ws.map cz) (fs.map cz)/\∀ f∈fs,Ua f
 | [],g,_,_,_,_=>⟨[],rfl,trivial,λf hf=>by cases hf⟩
 |
  [w],g,_,hl,_,_=>by
  cases hl with
  | cons hs hl=>exact ⟨[w],rfl,λt=>rfl,λf hf=>by rw [Qk.1 hf]; exact hs.pq.t⟩
 |
  w::v::ws,g,h0,hl,th0,e0=>by
  obtain ⟨f,tf,ef⟩:=Qyf hl;cases hl with
  |
   @cons _ h _ _ hs1 hl =>
   have hpv:=(Qq2 hl v (Qx ..)).1;obtain ⟨fs,i1,i2,i3⟩:=Q4y b0 l0 t0 z0 hs (v::ws) h (U5 h0 w) hl (Gh _ _) λt=>by rw [e0,Us,hs1.e]; grind
   have ew:∀ t,W4 p0 t=W4 w t*W4 (U5 h0 h) t:=λt=>by rw [e0,Us,hs1.e]; grind
   have bw:Bd (s+69) w:=Im b0 l0 t0 hs1.pq.t (Gh _ _) z0 ew;obtain ⟨p1,p2⟩:=G9 t0 z0 ew;have lw:=Tw hs1.pq.t (Gh _ _) t0 ew p1 p2;have hq:=Q7c (s:=s+69) hs1.pq.t hpv.t tf hs1.pq.n (by omega) bw hs λt=>by rw [ef]; grind
   refine ⟨f::fs,?_,⟨λt=>by rw [W5,W5,W5,ef],i2⟩,λx hx=>?_⟩
   ·show (Od w v).bind _=_;rw [hq];show (Qj7 (v::ws)).bind _=_;rw [i1]; rfl
   ·rcases Ql.1 hx with rfl | hx
    ·exact tf
    ·exact i3 x hx
def Sv:List (List Int)->List Int
 | []=>[1]
 | [f]=>f
 | f::_::l=>U5 f (Sv l)
theorem Qre:∀ (fs:List (List Int)) (t:Rat),ev (Qgd (fs.map cz)) t=W4 (Sv fs) t
 | [],t=>by simp only [X7,Qgd,Sv,W4]; rw [G8]; push_cast; grind
 | [f],t=>by simp only [Zx,X7,Qgd,Sv]; rw [W5]
 | f::g::l,t=>by simp only [Zx,Qgd,Sv]; rw [W9,W5,Us,Qre l]
theorem Pa (t:Rat):W4 [1] t=1:=by simp only [W4]; push_cast; grind
theorem Qk5:∀ {w:List Int} {ws fs:List (List Int)},Lay ((w::ws).map cz) (fs.map cz)->(∀ f∈fs,Ua f)->(∀ v∈w::ws,Ua v)->∃ E,Ua E/\∀ t,W4 w t=W4 (Sv fs) t*W4 E t
 |
  w,[],[f],h,_,_=>⟨[1],rfl,λt=>by
  have:=h t;rw [W5,W5] at this;rw [this,Pa]; simp only [Sv]; grind⟩
 |
  w,[v],[f,f2],h,_,hw=>⟨v,hw v (by simp),λt=>by
  have:=h.1 t;rw [W5,W5,W5] at this;rw [this]; simp only [Sv]; rw [Us,Pa]; grind⟩
 |
  w,v::x::l,f::f2::fs,h,hf,hw=>by
  obtain ⟨E,hE,e⟩:=Qk5 (w:=x) (ws:=l) (fs:=fs) h.2.2 (λg hg=>hf g (by simp [hg])) (λg hg=>hw g (by simp at hg ⊢; exact .inr (.inr hg)));refine ⟨U5 f2 E,Gh _ _,λt=>?_⟩;have a1:=h.1 t;have a2:=h.2.1 t;rw [W5,W5,W5] at a1 a2;have e2:W4 (Sv (f::f2::fs)) t=W4 f t*W4 (Sv fs) t:=by simp only [Sv]; rw [Us]
  rw [a1,a2,e,e2,Us]; grind
 | w,[],[],h,_,_=>h.elim
 | w,[],_::_::_,h,_,_=>h.elim
 | w,[v],[],h,_,_=>h.elim
 | w,[v],[f],h,_,_=>h.2.elim
 | w,[v],_::_::_::_,h,_,_=>h.2.elim
 | w,v::x::l,[f],h,_,_=>h.2.elim
 | w,v::x::l,[],h,_,_=>h.elim
theorem O9 {s:Nat} {p0:List Int} (b0:Bd s p0) (l0:p0.length≤10) (t0:Ua p0) (z0:p0.length≠0) (hs:s+69≤16777216):∀ (fs:List (List Int)) (i:Nat) (a E:List Int),i % 2=0->Ua a->Ua E->(∀ f∈fs,Ua f)->(∀ t,W4 p0 t=W4 a t*W4 (Sv fs) t*W4 E t)->∃ o,Qc8 i a fs=some o/\Ua o/\∀ t,W4 o t=W4 a t*W4 (Sv fs) t
 | [],i,a,E,hi,ta,_,_,_=>⟨a,rfl,ta,λt=>by simp only [Sv]; rw [Pa]; grind⟩
 |
  [f],i,a,E,hi,ta,tE,tf,hE=>by
  have e1:∀ t,W4 p0 t=W4 (U5 a f) t*W4 E t:=λt=>by rw [hE,Us]; rfl
  have b1:=Im b0 l0 t0 (Gh a f) tE z0 e1;obtain ⟨p1,p2⟩:=G9 t0 z0 e1;have hl:=Tw (Gh a f) tE t0 e1 p1 p2;refine ⟨U5 a f,?_,Gh _ _,λt=>by rw [Us]; rfl⟩;simp only [Qc8];rw [if_pos hi,Dh (by omega) (Wx b1 (by omega))]; rfl
 |
  f::g::fs,i,a,E,hi,ta,tE,tf,hE=>by
  have e0:∀ t,W4 (Sv (f::g::fs)) t=W4 f t*W4 (Sv fs) t:=λt=>by simp only [Sv]; rw [Us]
  have e1:∀ t,W4 p0 t=W4 (U5 a f) t*W4 (U5 (Sv fs) E) t:=λt=>by rw [hE,e0,Us,Us]; grind
  have b1:=Im b0 l0 t0 (Gh a f) (Gh _ _) z0 e1;obtain ⟨p1,p2⟩:=G9 t0 z0 e1;have hl:=Tw (Gh a f) (Gh _ _) t0 e1 p1 p2;obtain ⟨o,o1,o2,o3⟩:=O9 b0 l0 t0 z0 hs fs (i+2) (U5 a f) E (by omega) (Gh _ _) tE (λx hx=>tf x (by simp [hx])) λt=>by rw [hE,e0,Us]; grind
  refine ⟨o,?_,o2,λt=>by rw [o3,e0,Us]; grind⟩;have h1:Qc8 (i+1) (U5 a f) (g::fs)=Qc8 (i+2) (U5 a f) fs:=by
   show (if (i+1) % 2=0 then _ else _)=_;rw [if_neg (by omega)]
  show (if i % 2=0 then (chk (U5 a f)).bind λq=>Qc8 (i+1) q (g::fs) else _)=_;rw [if_pos hi,Dh (by omega) (Wx b1 (by omega))];exact h1.trans o1
structure Parts (p q o:List Int):Prop where
 sq:∃ g,Sqp (Ub p) g q
 ws:∃ ws:List (List Int),(∀ w∈ws,Pr1 w/\If (cz w) (cz q))/\∀ t,W4 (Ub p) t=ev (Eo (ws.map cz)) t
 oq:If (cz o) (cz q)
 ot:Ua o
 oh:∃ h,Ua h/\∀ t,W4 (Ub p) t=W4 o t*W4 h t
 os:∃ S,∀ t,W4 (Ub p) t=W4 o t*(ev S t*ev S t)
theorem Q6l {n s:Nat} {p:List Int} (h:Okp n s p):∃ q o,Te p=some q/\Qu6 p=some o/\Parts p q o:=by
 obtain ⟨pp,hl,hb⟩:=h.pr;have hn:=h.z.1;have hpl:=h.l;have hs:=Q8a h.z;obtain ⟨g,q,hq,sq⟩:=Qag h;obtain ⟨ws,w1,w2⟩:=lay_ok h.z hb (by omega) pp.t pp.n 66 (Ub p) [1] pp (by omega) (by omega) rfl λt=>by rw [Pa]; grind
 obtain ⟨fs,f1,f2,f3⟩:=Q4y hb (by omega) pp.t pp.n (by omega) ws (Ub p) [1] w2 rfl λt=>by rw [Pa]; grind
 have hw:=Zha w2;have hfirst:(∀ w∈ws,Pr1 w/\If (cz w) (cz q))/\∃ E,Ua E/\∀ t,W4 q t=W4 (Sv fs) t*W4 E t:=by
  cases ws with
  |
   nil =>
   have e:fs=[]:=by
    cases fs with
    | nil=>rfl
    | cons f l=>exact f2.elim
   subst e;exact ⟨(λw hw=>by cases hw),q,sq.pq.t,λt=>by simp only [Sv]; rw [Pa]; grind⟩
  |
   cons w ws =>
   have hwq:w=q:=by
    have w3:(if (Ub p).length<2 then some [] else (chk (Fj (Ub p))).bind λd=>(Og (Ub p) d).bind λh=>(Od (Ub p) h).bind λw=>(Qer 65 h).bind λl=>some (w::l))=some (w::ws):=w1;have hlen:¬(Ub p).length<2:=λh2=>by
     rw [if_pos h2] at w3;injection w3 with w3;cases w3
    rw [if_neg hlen] at w3;unfold Te at hq;rw [if_neg hlen] at hq;obtain ⟨d,d1,w3⟩:=Qc.1 w3;obtain ⟨h,d2,w3⟩:=Qc.1 w3;obtain ⟨w',d3,w3⟩:=Qc.1 w3;obtain ⟨l,d4,w3⟩:=Qc.1 w3;rw [d1] at hq;have hq:(Og (Ub p) d).bind (λg=>Od (Ub p) g)=some q:=hq;rw [d2] at hq;have hq:Od (Ub p) h=some q:=hq;rw [d3] at hq;injection hq with hq;injection w3 with w3;injection w3 with w3 _;rw [<-w3,hq]
   subst hwq;have hall:=Qq2 w2;exact ⟨hall,Qk5 f2 f3 λv hv=>(hall v hv).1.t⟩
 obtain ⟨ha,E,tE,hE⟩:=hfirst;obtain ⟨o,o1,o2,o3⟩:=O9 hb (by omega) pp.t pp.n (by omega) fs 0 [1] (U5 E g) rfl rfl (Gh _ _) f3 λt=>by rw [Pa,Us,sq.e,hE]; grind
 have o3:∀ t,W4 o t=W4 (Sv fs) t:=λt=>by rw [o3,Pa]; grind
 refine ⟨q,o,hq,?_,⟨g,sq⟩,⟨ws,ha,hw⟩,⟨cz E,λt=>by rw [W5,W5,W5,hE,o3]⟩,o2,⟨U5 E g,Gh _ _,λt=>by rw [sq.e,hE,o3,Us]; grind⟩,?_⟩
 ·unfold Qu6;rw [if_neg pp.n,w1];show (Qj7 ws).bind _=_;rw [f1]; exact o1
 ·obtain ⟨S,hS⟩:=Qx7 f2;exact ⟨S,λt=>by rw [hw,hS,Qre,o3]⟩
theorem Qw6 {s:Nat}:∀ (k:Nat) (a b:List Int),Ua a->Ua b->b.length≠0->b.length<k->b.length<a.length->a.length<=60->Bd s a->Bd s b->(s+8)*3^(a.length-1)<=16777216->(∀ d,If d (cz a)->If d (cz b)->∃ c:Rat,c≠0/\∀ t,ev d t=c)->∃ l,chF k a b=some (b::l)/\SCl (cz a) (cz b) (l.map cz)
 | 0,_,_,_,_,_,h,_,_,_,_,_,_=>by omega
 |
  k+1,a,b,ta,tb,hb,hk,hab,hl,ba,bb,hs,hd=>by
  obtain ⟨h1,h2,h3,u,v,up,vp,X,hX⟩:=Qg6 ta tb hb hl;have h3:=h3 s ba bb;obtain ⟨m,hm⟩:=nmE (a.length-b.length);have e1:a.length+1-b.length=m+1:=by omega
  rw [e1] at h3;have e2:s+(m+1)*(s+8)+8=(m+2)*(s+8):=by
   rw [show m+2=(m+1)+1 by omega,Z5 (m+1)]; omega
  have e3:(m+2)*(s+8)*3^(b.length-1)<=(s+8)*3^(a.length-1):=by
   rw [show a.length-1=m+(b.length-1) by omega,Xc,<-Xs,Zp (s+8)];exact Qy _ (Qy _ (Zhp m (by omega)))
  have e4:s+(m+1)*(s+8)<=16777216:=by
   have:(m+2)*(s+8)<=(m+2)*(s+8)*3^(b.length-1):=Yc _ (Zy (by decide));omega
  simp only [chF];rw [if_neg hb,Dh (by omega) (Wx h3 e4)];show ∃ l,((chF k b (B9 (G6 a b))).bind λl=>some (b::l))=some (b::l)/\_;have lneg:(B9 (G6 a b)).length<=(G6 a b).length:=Qiw _;by_cases hr:(G6 a b).length=0
  ·have e:B9 (G6 a b)=[]:=Qh (by omega);rw [e];refine ⟨[],?_,?_⟩
   ·obtain ⟨j,rfl⟩:∃ j,k=j+1:=⟨k-1,by omega⟩;rfl
   ·obtain ⟨c,hc,hcc⟩:=hd (cz b) ⟨Nx (1 / u) X,λt=>by
     have:=hX t;rw [Nv hr] at this;have hu:1 / u*u=1:=Fi up;rw [W5,W5,Uz];have:W4 a t=1 / u*(u*W4 a t):=by grind
     rw [this,hX,Nv hr]; grind⟩ (dvd_refl _)
    exact .base hc hcc
  ·have tn:Ua (B9 (G6 a b)):=Ur _ _;have hn0:(B9 (G6 a b)).length≠0:=λh0=>by
    have:=As (c:=-1) h1 tn (by decide) λt=>by rw [Qdb]; grind
    omega
   obtain ⟨l,i1,i2⟩:=Qw6 (s:=s+(m+1)*(s+8)) k b (B9 (G6 a b)) tb tn hn0 (by omega) (by omega) (by omega) (Wx bb (by omega)) (Qmo h3) (by rw [e2]; omega) λd d1 d2=>by
    refine hd d ?_ d1;obtain ⟨y,hy⟩:=d1;obtain ⟨z,hz⟩:=d2;have hu:1 / u*u=1:=Fi up;refine ⟨Nx (1 / u) (Hx (Fa X y) (Nx (-v) z)),λt=>?_⟩;have a1:=hX t; have a2:=hy t; have a3:=hz t;rw [W5] at a2 a3;rw [Qdb] at a3;rw [W5,Uz,U7,W9,Uz];have:W4 a t=1 / u*(u*W4 a t):=by grind
    rw [this,a1,a2,show W4 (G6 a b) t=-(ev d t*ev z t) by grind]; grind
   refine ⟨B9 (G6 a b)::l,by rw [i1]; rfl,?_⟩;rw [Zx];exact .step (q:=X) up vp (λt=>by rw [W5,W5,W5,hX,Qdb]; clear i2 i1 hd h3 hs; grind) i2
theorem Qb4 (x:Rat):∀ (l:List (List Int)) (n:Nat) (s:Int),(l.foldl (Rr λp=>Gk p x) (n,s)).1=n+tc x s (l.map cz)
 | [],n,s=>rfl
 |
  p::l,n,s=>by
  simp only [Z4,Zx,tc,Rr];rw [Sy,W5]
  split
  ·exact Qb4 x l n s
  ·rw [Qb4 x l]
   split <;> omega
theorem Az (l:List (List Int)) (x:Rat):Mx l x=vv (l.map cz) x:=by
 have:=Qb4 x l 0 0;unfold Mx Mw vv;rw [this]; omega
theorem Q33 {n s:Nat} (hz:Szz n (s+73)) {P g q:List Int} (sq:Sqp P g q) (lq:q.length<=n) (bq:Bd (s+69) q):∃ d,chk (Fj q)=some d/\∃ l,chF 66 q (Ub d)=some l/\Stm (cz q) ((q::l).map cz)/\(q.length<2->l=[]):=by
 have hn:=hz.1;have hs:=Q8a hz;have bd:=Qtl bq (by omega);have ld:=Bi q;refine ⟨Fj q,Dh (by omega) (Wx bd (by omega)),?_⟩;have hq0:=sq.pq.n;by_cases h2:q.length<2
 ·have e:Ub (Fj q)=[]:=by rw [Qh (l:=Fj q) (by omega)]; rfl
  rw [e];refine ⟨[],rfl,.inl ⟨1,by decide,λt=>?_,rfl⟩,λ_=>rfl⟩;rw [W5,sq.pq.one h2,Pa]
 ·have hdnz:(Fj q).length≠0:=λh=>by
   have h1:=Pv q (q.length-2);rw [Qh h,show q.length-2+1=q.length-1 by omega] at h1;have h3:q.getD (q.length-1) 0≠0:=G7 sq.pq.t (by omega);rcases Jy.1 (h1.symm.trans (by simp)) with h4 | h4
   ·exact h3 h4
   ·omega
  obtain ⟨p1,p2,p3,p4,p5,p6,p7⟩:=Mm (p:=Fj q) (Ur _ _) hdnz;have hdl:Uf (Fj q)=Uf q*((q.length-1:Nat):Int):=by
   have hld:(Fj q).length=q.length-1:=by
    rcases Zb (Fj q).length (q.length-1) with h | h
    ·have h1:=Pv q (q.length-2);rw [Qj,Q0 (by omega),show q.length-2+1=q.length-1 by omega] at h1;have h3:q.getD (q.length-1) 0≠0:=G7 sq.pq.t (by omega);rcases Jy.1 (h1.symm.trans (by simp)) with h4 | h4
     ·exact absurd h4 h3
     ·omega
    ·omega
   unfold Uf;rw [hld,Pv,show q.length-1-1+1=q.length-1 by omega]
  have hfac:0<Fv (Fj q):=by
   have hlp:0<Uf (Fj q):=by rw [hdl]; exact Int.mul_pos sq.pq.l (by omega)
   have hc:=I9 (p:=Fj q) (Ur _ _) hdnz;unfold Fv;rw [if_neg (by omega)];unfold Rl at hc ⊢; omega
  have hfq:((0:Int):Rat)<(Fv (Fj q):Rat):=Jg.2 hfac;have hfq:(0:Rat)<(Fv (Fj q):Rat):=by simpa using hfq
  have hff:1 / (Fv (Fj q):Rat)*(Fv (Fj q):Rat)=1:=Fi hfq;have hz2:=hz.2;have hp3:(s+73+8)*3^(q.length-1)<=16777216:=by
   have:(s+73+8)*3^(q.length-1)<=(s+73+8)*3^(n-1):=Zt _ (Zs (by decide) (by omega));rw [Xs] at hz2; omega
  obtain ⟨l,h3,h4⟩:=Qw6 (s:=s+73) 66 q (Ub (Fj q)) sq.pq.t p1 (by omega) (by omega) (by omega) (by omega) (Wx bq (by omega)) (p5 _ bd) hp3 λd d1 d2=>sq.num d1 (by
   obtain ⟨z,hz⟩:=d2;exact ⟨Nx (Fv (Fj q)) z,λt=>by
    have:=hz t;rw [W5] at this;rw [Hh,<-Er,p7,this,Uz]; grind⟩)
  refine ⟨Ub (Fj q)::l,h3,.inr ⟨cz (Ub (Fj q)),l.map cz,1 / (Fv (Fj q):Rat),Dk (by decide) hfq,λt=>?_,h4,rfl⟩,λh=>absurd h h2⟩;rw [W5,<-Er,p7 t]; grind
theorem chain_ok {n s:Nat} {p:List Int} (h:Okp n s p):∃ q l,Te p=some q/\Df p=some (q::l)/\Stm (cz q) ((q::l).map cz)/\(q.length<2->l=[]):=by
 obtain ⟨pp,hl,hb⟩:=h.pr;have hn:=h.z.1;have hpl:=h.l;obtain ⟨g,q,hq,sq⟩:=Qag h;have e1:∀ t,W4 (Ub p) t=W4 q t*W4 g t:=λt=>by rw [sq.e]; grind
 obtain ⟨p1,p2⟩:=G9 pp.t pp.n e1;have hll:=Tw sq.pq.t sq.pg.t pp.t e1 p1 p2;obtain ⟨d,d1,l,d2,d3⟩:=Q33 h.z sq (by omega) (Im hb (by omega) pp.t sq.pq.t sq.pg.t pp.n e1);refine ⟨q,l,hq,?_,d3⟩;unfold Df;rw [hq];show (if q.length=0 then none else _)=_;rw [if_neg sq.pq.n,d1];show (chF 66 q (Ub d)).bind _=_;rw [d2]; rfl
structure Gr (D M k:Nat) (q:Rat):Prop where
 u:∃ u:Int,q*((D*2^k:Nat):Rat)=(u:Rat)
 b:Uc q<=(M:Rat)
 d:0<D
theorem nat_pos {n:Nat} (h:0<n):(0:Rat)<(n:Rat):=by
 have:((0:Nat):Rat)<(n:Rat):=Vb.2 h;simpa using this
theorem Qlh {D M k:Nat} {q:Rat} (h:Gr D M k q):Gr D M (k+1) q:=by
 obtain ⟨u,hu⟩:=h.u;refine ⟨⟨u*2,?_⟩,h.b,h.d⟩;rw [Zr,<-Xs]
 push_cast at hu ⊢
 rw [<-hu]; grind
theorem Q5i {D M k:Nat} {a b:Rat} (ha:Gr D M k a) (hb:Gr D M k b):Gr D M (k+1) ((a+b) / 2):=by
 obtain ⟨u,hu⟩:=ha.u;obtain ⟨v,hv⟩:=hb.u;have h2:(a+b) / 2*2=a+b:=Fi (by decide);refine ⟨⟨u+v,?_⟩,?_,ha.d⟩
 ·rw [Zr,<-Xs]
  push_cast at hu hv ⊢
  rw [<-hu,<-hv];generalize (a+b) / 2=c at *;generalize (D:Rat)*2^k=z at *;have:c*(z*2)=(c*2)*z:=by grind
  rw [this,h2]; grind
 ·have h3:=ha.b;have h4:=hb.b;rw [Tq] at *;constructor <;> grind
theorem Zgy {D M k:Nat} {q:Rat} (h:Gr D M k q):q.den<=D*2^k:=by
 obtain ⟨u,hu⟩:=h.u;have hp:0<D*2^k:=Yk h.d (Zy (by decide));have e:q=Rat.divInt u ((D*2^k:Nat):Int):=by
  rw [<-Gj,<-hu];have hz:=nat_pos hp;rw [show ((((D*2^k:Nat):Int)):Rat)=((D*2^k:Nat):Rat) from rfl];rw [Jx];have:=K7 ((D*2^k:Nat):Rat) (by grind);generalize ((D*2^k:Nat):Rat)=z at *;have:q*z*z⁻¹=q*(z*z⁻¹):=by grind
  rw [this,‹z*z⁻¹=1›]; grind
 rw [e,Kx,if_neg (by omega),Xh];exact Jo _ _
theorem Qis {a b k:Nat} {z:Int} (h:z.natAbs<=a*(b*2^k)):Ug z<=Ug (a:Int)+Ug (b:Int)+k:=by
 have h1:Ug (a:Int)<=Ug (a:Int):=Qm _;have h2:Ug (b:Int)<=Ug (b:Int):=Qm _;rw [Mg] at h1 h2 ⊢;rw [Xh] at h1 h2;rw [Xc,Xc];have h3:a*b<2^Ug (a:Int)*2^Ug (b:Int):=Nat.mul_lt_mul_of_lt_of_le h1 (J4 h2) (Zy (by decide));have h4:=Xi h3 (show 0<2^k from Zy (by decide));rw [<-Xs] at h; omega
theorem Qlg {D M k B:Nat} {q:Rat} (h:Gr D M k q) (hM:0<M) (hs:Ug (D:Int)+Ug (M:Int)+k<=B):Qs B q:=by
 have hd:=Zgy h;have hden:=nat_pos q.den_pos;have h1:(q.num.natAbs:Rat)<=((M*(D*2^k):Nat):Rat):=by
  have e:(q.num:Rat)=q*(q.den:Rat):=by
   have:(q.num:Rat) / (((q.den:Int)):Rat)=q:=by rw [Gj,X2]
   have h2:(q.num:Rat) / (q.den:Rat)*(q.den:Rat)=q.num:=Zc (by grind);rw [show (q.num:Rat) / (q.den:Rat)=q from this] at h2; exact h2.symm
  rw [<-H5,e];have h3:=Fh (x:=q) (y:=(q.den:Rat)) (b:=((D*2^k:Nat):Rat)) h.b (by
   have:Uc (q.den:Rat)=(q.den:Rat):=by unfold Uc; rw [if_neg (by grind)]
   rw [this]; exact Zh.2 hd)
  push_cast at h3 ⊢; exact h3
 have h1:=Zh.1 h1;refine ⟨?_,?_⟩
 ·have:=Qis (z:=q.num) h1; omega
 ·have:=Qis (z:=(q.den:Int)) (a:=M) (b:=D) (k:=k) (by
   rw [Xh];exact Qd hd (Nat.le_mul_of_pos_left _ hM))
  omega
theorem Qux (a b:Rat):mid a b=(a+b) / 2:=by
 unfold mid;rw [<-Gj];have ha:(a.num:Rat)=a*(a.den:Rat):=by
  have:(a.num:Rat) / (((a.den:Int)):Rat)=a:=by rw [Gj,X2]
  have h2:(a.num:Rat) / (a.den:Rat)*(a.den:Rat)=a.num:=Zc (by have:=nat_pos a.den_pos; grind);rw [show (a.num:Rat) / (a.den:Rat)=a from this] at h2; exact h2.symm
 have hb:(b.num:Rat)=b*(b.den:Rat):=by
  have:(b.num:Rat) / (((b.den:Int)):Rat)=b:=by rw [Gj,X2]
  have h2:(b.num:Rat) / (b.den:Rat)*(b.den:Rat)=b.num:=Zc (by have:=nat_pos b.den_pos; grind);rw [show (b.num:Rat) / (b.den:Rat)=b from this] at h2; exact h2.symm
 have pa:=nat_pos a.den_pos;have pb:=nat_pos b.den_pos;rw [Wo,Jp,Jp,Jp,Jp,ha,hb];rw [show (((a.den:Int)):Rat)=(a.den:Rat) from rfl,show (((b.den:Int)):Rat)=(b.den:Rat) from rfl,show (((2:Int)):Rat)=2 from rfl];generalize (a.den:Rat)=x at *;generalize (b.den:Rat)=y at *;have hxy:=Ls (Ls pa pb) (show (0:Rat)<2 by decide);have h1:(a*x*y+b*y*x) / (x*y*2)*(x*y*2)=a*x*y+b*y*x:=Fi hxy;have h2:(a+b) / 2*2=a+b:=Fi (by decide);generalize (a*x*y+b*y*x) / (x*y*2)=c at *;generalize (a+b) / 2=d at *;have h3:(x*y*2)*(c-d)=0:=by grind
 rcases Yp.1 h3 with h4 | h4 <;> grind
theorem Qg8 (a b:Rat):Qjq a b=a-b:=by
 unfold Qjq;rw [Rat.sub_def',<-Rat.divInt_ofNat]
 push_cast; rfl
theorem Qxa {a b:Rat}:Fp a b=0↔a=b:=by
 constructor
 ·intro h;have h1:¬a<b:=λh'=>by have:=S9.2 h'; omega
  have h2:¬b<a:=λh'=>by have:=Cn.2 h'; omega
  grind
 ·intro h; subst h; exact C0 a
theorem Qgp {a b:Rat}:Fp a b<=0↔a<=b:=by
 constructor
 ·intro h;have h2:¬b<a:=λh'=>by have:=Cn.2 h'; omega
  grind
 ·intro h;have h2:¬0<Fp a b:=λh'=>by have:=Cn.1 h'; grind
  omega
theorem Qgo {a b:Rat}:0<=Fp a b↔b<=a:=by
 constructor
 ·intro h;have h2:¬a<b:=λh'=>by have:=S9.2 h'; omega
  grind
 ·intro h;have h2:¬Fp a b<0:=λh'=>by have:=S9.1 h'; grind
  omega
theorem Me (a b:Rat):Fp a b=1/\b<a\/Fp a b=0/\a=b\/Fp a b=-1/\a<b:=by
 have hb:=Ak a b;rcases (show Fp a b=1\/Fp a b=0\/Fp a b=-1 by omega) with h | h | h
 ·exact .inl ⟨h,Cn.1 (by omega)⟩
 ·exact .inr (.inl ⟨h,Qxa.1 h⟩)
 ·exact .inr (.inr ⟨h,S9.1 (by omega)⟩)
theorem Qq1 (p:List Int) (x:Rat):low p x=Rp (cz p) x:=by
 unfold low Rp;rw [Sy,Sy,W5,Er]
theorem Mf {t:Tm} (h:t.lo<t.hi) (q:Rat):Ue t q=cq (cz t.p) t.lo t.hi q:=by
 have hp:t.point=false:=by
  unfold Tm.point;have:¬0<=Fp t.lo t.hi:=λh'=>by have:=Qgo.1 h'; grind
  simp [this]
 unfold Ue cq;rw [hp,if_neg (by decide)];have e1:(Fp q t.lo<=0)=(q<=t.lo):=propext Qgp;have e2:(0<Fp q t.hi)=(t.hi<q):=propext Cn;rw [Sy,Qq1,<-W5];simp only [e1,e2]
theorem Tx {t:Tm}:t.point=true↔t.hi<=t.lo:=by
 unfold Tm.point;rw [decide_eq_true_iff]; exact Qgo
theorem Ld {t:Tm} (h:t.lo=t.hi) (q:Rat):Ue t q=Fp t.lo q:=by
 have hp:t.point=true:=Tx.2 (by rw [h]; exact Qo);unfold Ue; rw [if_pos hp]
theorem Zgg {c:Rat->Int} {x:Rat} (h:∀ q,c q=Fp x q):Cut c where
 val q:=by rw [h]; have:=Ak x q; omega
 mono q r hqr h1:=by
  rw [h] at h1 ⊢;rcases Me x q with ⟨e,e'⟩ | ⟨e,e'⟩ | ⟨e,e'⟩
  ·exact absurd e h1
  ·rcases Me x r with ⟨f,f'⟩ | ⟨f,f'⟩ | ⟨f,f'⟩ <;> grind
  ·rcases Me x r with ⟨f,f'⟩ | ⟨f,f'⟩ | ⟨f,f'⟩ <;> grind
 up q h1:=by
  rw [h] at h1;have h2:=Cn.1 (show 0<Fp x q by omega);have h3:(x+q) / 2*2=x+q:=Fi (by decide);have h4:=Cn.2 (show (x+q) / 2<x by grind);have:=Ak x ((x+q) / 2);exact ⟨(x+q) / 2,by grind,by rw [h]; omega⟩
 dn q h1:=by
  rw [h] at h1;have h2:=S9.1 (show Fp x q<0 by omega);have h3:(x+q) / 2*2=x+q:=Fi (by decide);have h4:=S9.2 (show x<(x+q) / 2 by grind);have:=Ak x ((x+q) / 2);exact ⟨(x+q) / 2,by grind,by rw [h]; omega⟩
 lo:=⟨x-1,by
  rw [h];have h4:=Cn.2 (show x-1<x by grind);have:=Ak x (x-1); omega⟩
 hi:=⟨x+1,by
  rw [h];have h4:=S9.2 (show x<x+1 by grind);have:=Ak x (x+1); omega⟩
def lim (t:Tm):Nat:=if t.point=true then 3300000 else 1000000
theorem Qnr {t:Tm} (h:t.point=false):lim t=1000000:=by simp [lim,h]
theorem Zg3 (t:Tm):1000000<=lim t:=by unfold lim; split <;> omega
theorem Zg4 (t:Tm):lim t<=3300000:=by unfold lim; split <;> omega
structure Va (t:Tm):Prop where
 i:t.lo=t.hi/\W4 t.p t.lo=0\/∃ L,Vt (cz t.p) L t.lo t.hi
 tr:Ua t.p
 n:t.p.length<=9
 n2:2<=t.p.length
 b:Bd 3300000 t.p
 bi:t.point=false->Bd 1260 t.p
 sc:t.point=false->∃ (l:List (List Int)) (P g:List Int),chF 66 t.p (Ub (Fj t.p))=some l/\Sqp P g t.p/\Vt (cz t.p) ((t.p::l).map cz) t.lo t.hi
 g:∃ D M k,Gr D M k t.lo/\Gr D M k t.hi/\0<M/\Ug (D:Int)+Ug (M:Int)+k<=lim t
theorem Va.le {t:Tm} (h:Va t):t.lo<=t.hi:=by
 rcases h.i with ⟨e,_⟩ | ⟨L,V⟩
 ·rw [e]; exact Qo
 ·exact Qp V.l
theorem Va.pt {t:Tm} (h:Va t) (hp:t.point=true):t.lo=t.hi/\W4 t.p t.lo=0:=by
 rcases h.i with e | ⟨L,V⟩
 ·exact e
 ·have:=Tx.1 hp;have:=V.l;grind
theorem Va.iv {t:Tm} (h:Va t) (hp:t.point=false):∃ L,Vt (cz t.p) L t.lo t.hi:=by
 rcases h.i with ⟨e,_⟩ | h
 ·have:=Tx.2 (show t.hi<=t.lo by rw [e]; exact Qo);rw [hp] at this; cases this
 ·exact h
theorem Va.cut {t:Tm} (h:Va t):Cut (Ue t):=by
 rcases h.i with ⟨e,_⟩ | ⟨L,V⟩
 ·exact Zgg (x:=t.lo) λq=>Ld e q
 ·have:Ue t=cq (cz t.p) t.lo t.hi:=funext λq=>Mf V.l q
  rw [this]; exact V.cut
theorem Zii {c:Rat->Int} (hc:Cut c) {p:List Rat} {x:Rat} (h:c x=0) (h0:ev p x=0):Lz p c:=by
 rcases Ot hc p with h1 | ⟨s,hs,h1⟩
 ·exact h1
 ·have:=Qrd hc h h1;rw [Ux.2 h0] at this; exact absurd this.symm hs
theorem Va.van {t:Tm} (h:Va t):Lz (cz t.p) (Ue t):=by
 have hc:=h.cut;rcases h.i with ⟨e,h0⟩ | ⟨L,V⟩
 ·exact Zii hc (x:=t.lo) (by rw [Ld e,C0]) (by rw [W5]; exact h0)
 ·have:Ue t=cq (cz t.p) t.lo t.hi:=funext λq=>Mf V.l q
  rw [this]; exact V.van
theorem Va.qs {t:Tm} (h:Va t):Qs 3300000 t.lo/\Qs 3300000 t.hi:=by
 obtain ⟨D,M,k,h1,h2,h3,h4⟩:=h.g;have h4:=Qd h4 (Zg4 t);exact ⟨Qlg h1 h3 h4,Qlg h2 h3 h4⟩
theorem Va.qsn {t:Tm} (h:Va t) (hp:t.point=false):Qs 1000000 t.lo/\Qs 1000000 t.hi:=by
 obtain ⟨D,M,k,h1,h2,h3,h4⟩:=h.g;rw [Qnr hp] at h4;exact ⟨Qlg h1 h3 h4,Qlg h2 h3 h4⟩
theorem Va.tb {t:Tm} (h:Va t):Tb t:=⟨⟨h.tr,by have:=h.n; omega,Wx h.b (by omega)⟩,h.qs.1.mono (t:=16777216) (by omega),h.qs.2.mono (t:=16777216) (by omega)⟩
structure Hv (t:Tm) (D M k:Nat) (u:Tm):Prop where
 p:u.p=t.p
 i:u.lo=u.hi/\W4 u.p u.lo=0\/∃ L,Vt (cz u.p) L u.lo u.hi
 c:∀ q,Ue u q=Ue t q
 l:Gr D M k u.lo
 h:Gr D M k u.hi
theorem Qp2 {c:Rat->Int} (hc:Cut c) {x:Rat} (h:c x=0) (q:Rat):c q=Fp x q:=by
 rcases Me x q with ⟨e,e'⟩ | ⟨e,e'⟩ | ⟨e,e'⟩
 ·rw [e]; exact hc.mono' e' (by omega)
 ·rw [e,<-e',h]
 ·rw [e]; exact hc.mono x q e' (by omega)
theorem Qnl {t u:Tm} {D M k:Nat} (hu:Hv t D M k u) (hM:0<M) (hs:Ug (D:Int)+Ug (M:Int)+(k+1)<=16777216):∃ v,Qnk u=some v/\Hv t D M (k+1) v/\v.hi-v.lo<=(u.hi-u.lo) / 2/\u.lo<=v.lo/\v.hi<=u.hi:=by
 have h2:∀ x:Rat,x / 2*2=x:=λx=>Fi (by decide)
 unfold Qnk;rcases hu.i with ⟨e,h0⟩ | ⟨L,V⟩
 ·have hp:u.point=true:=Tx.2 (by rw [e]; exact Qo);rw [if_pos hp];refine ⟨u,rfl,⟨hu.p,hu.i,hu.c,Qlh hu.l,Qlh hu.h⟩,?_,Qo,Qo⟩;rw [e]; have:=h2 (u.hi-u.hi); grind
 ·have hp:u.point=false:=by
   have:¬u.point=true:=λh=>by have:=Tx.1 h; have:=V.l; grind
   simpa using this
  rw [hp,if_neg (by decide)];obtain ⟨m,hm⟩:=nmE ((u.lo+u.hi) / 2);have hmg:Gr D M (k+1) m:=by rw [hm]; exact Q5i hu.l hu.h
  have hmm:=h2 (u.lo+u.hi);rw [<-hm] at hmm;have hl:=V.l;have hl1:u.lo<m:=by grind
  have hl2:m<u.hi:=by grind
  have hch:chq (mid u.lo u.hi)=some m:=by
   rw [Qux,<-hm];have:=Qlg hmg hM hs;unfold chq;rw [if_pos ⟨this.1,this.2⟩]
  have hcm:mid u.lo u.hi=m:=by rw [Qux,<-hm]
  rw [hch];show ∃ v,some (if Ue u m=0 then (⟨u.p,m,m⟩:Tm) else if Ue u m=-1 then ⟨u.p,u.lo,m⟩ else ⟨u.p,m,u.hi⟩)=some v/\_;have hw:=h2 (u.hi-u.lo);have hcu:=Mf hl;have hcut:=V.cut;have hcut':Cut (Ue u):=by rw [show Ue u=cq (cz u.p) u.lo u.hi from funext hcu]; exact hcut
  by_cases c0:Ue u m=0
  ·rw [if_pos c0];have hz:W4 u.p m=0:=by
    have:=Qfh hcut (q:=m) (by rw [<-hcu]; exact c0) V.van;rwa [W5] at this
   refine ⟨_,rfl,⟨hu.p,.inl ⟨rfl,hz⟩,λq=>?_,hmg,hmg⟩,by show m-m<=_; grind,by show u.lo<=m; grind,by show m<=u.hi; grind⟩;rw [Ld rfl,<-hu.c];exact (Qp2 hcut' c0 q).symm
  ·rw [if_neg c0];by_cases c1:Ue u m=-1
   ·rw [if_pos c1];have hv:vv L m=vv L u.hi:=V.eq_hi hl1 (Qp hl2) (by rw [<-hcu,c1]; decide);have V':Vt (cz u.p) L u.lo m:=⟨V.s,hl1,by rw [hv]; exact V.v⟩;refine ⟨_,rfl,⟨hu.p,.inr ⟨L,V'⟩,λq=>?_,Qlh hu.l,hmg⟩,by show m-u.lo<=_; grind,Qo,by show m<=u.hi; grind⟩;rw [Mf hl1,<-hu.c,hcu];exact V.uniq V'.cut (Di Qo) (by rw [Qcm hl1 hl2]; decide) V'.van q
   ·rw [if_neg c1];have c2:Ue u m=1:=by rcases hcut'.val m with h | h | h <;> omega
    have hv:vv L m=vv L u.lo:=V.eq_lo hl1 (Qp hl2) (by rw [<-hcu]; exact c2);have V':Vt (cz u.p) L m u.hi:=⟨V.s,hl2,by rw [hv]; exact V.v⟩;refine ⟨_,rfl,⟨hu.p,.inr ⟨L,V'⟩,λq=>?_,hmg,Qlh hu.h⟩,by show u.hi-m<=_; grind,by show u.lo<=m; grind,Qo⟩;rw [Mf hl2,<-hu.c,hcu];exact V.uniq V'.cut (Di (by grind)) V'.hi1 V'.van q
def S7 (a b:Tm):Prop:=∃ q,Ue a q=-1/\Ue b q=1
def TEq (a b:Tm):Prop:=∀ q,Ue a q=Ue b q
theorem tri {a b:Tm} (ha:Cut (Ue a)) (hb:Cut (Ue b)):S7 a b\/TEq a b\/S7 b a:=by
 rcases Classical.em (TEq a b) with h | h
 ·exact .inr (.inl h)
 ·obtain ⟨q,hq⟩:=Classical.not_forall.1 h;obtain ⟨r,⟨h1,h2⟩ | ⟨h1,h2⟩⟩:=Qp1 ha hb hq
  ·exact .inl ⟨r,h1,h2⟩
  ·exact .inr (.inr ⟨r,h2,h1⟩)
theorem Lr {a b:Tm} (ha:Cut (Ue a)) (hb:Cut (Ue b)) (h:S7 a b) (h':S7 b a):False:=by
 obtain ⟨q,q1,q2⟩:=h;obtain ⟨r,r1,r2⟩:=h';have:=ha.lt r2 q1;have:=hb.lt q2 r1;grind
theorem Qr2 {p:List Int} (k:Nat):(p.getD k 0).natAbs<=2^Fe p:=by
 have h:Ug (p.getD k 0)<=Fe p:=by
  have key:∀ (l:List Int) (n:Nat),n≤l.foldl (λn z=>max n (Ug z)) n/\∀ z∈l,Ug z≤l.foldl (λn z=>max n (Ug z)) n:=by
   intro l
   induction l with
   | nil=>exact λn=>⟨Qm _,λz hz=>by cases hz⟩
   |
    cons y l ih =>
    intro n;obtain ⟨i1,i2⟩:=ih (max n (Ug y));refine ⟨by simp only [Z4]; omega,λz hz=>?_⟩;simp only [Z4];rcases Ql.1 hz with rfl | hz
    ·omega
    ·exact i2 z hz
  exact U3 (s:=Fe p) (λz hz=>(key p 0).2 z hz) k
 rw [Mg] at h; omega
theorem Zei {s:Nat}:∀ (B:List Int),(∀ z∈B,z.natAbs≤2^s)->gB B≤2^(s+(B.length-1))
 | [],_=>Qi _
 |
  c::B,h=>by
  have h1:=h c (Qx ..);have h2:=Zei B λz hz=>h z (Qe _ hz)
  simp only [gB,Q6,Ju];have h3:2^s<=2^(s+B.length):=Zs (by decide) (by omega);cases B with
  | nil=>simp only [gB,Xy] at *; omega
  |
   cons d B =>
   have h4:2^(s+(d::B).length)=2*2^(s+((d::B).length-1)):=by
    rw [Zp,<-Zr]; congr 1
   rw [h4]; omega
def Hm (A B:List Int):Nat:=(Fe A+Fe B+(A.length+B.length)+8)*(2*(A.length+B.length-2)-1)
theorem Q42 {A B:List Int} (tA:Ua A) (tB:Ua B) (nA:A.length<=9) (nB:B.length<=9) (lA:2<=A.length) (lB:2<=B.length) {R d:Rat} (hR:1<=R) (dp:0<d)
 (hs:∀ e:Rat,0<e->∃ q r,Uc q<=R/\Uc r<=R/\d<=Uc (q-r)/\Uc (q-r)*((2^(Hm A B+1):Nat):Rat)<=1/\Uc (W4 A q)<e/\Uc (W4 B r)<e):False:=by
 obtain ⟨a,ha⟩:∃ a,A.length=a+1:=⟨A.length-1,by omega⟩;obtain ⟨b,hb⟩:∃ b,B.length=b+1:=⟨B.length-1,by omega⟩;obtain ⟨s,hsd⟩:=nmE (Fe A+Fe B+b);obtain ⟨N,hN⟩:∃ N,b*(2*(a*b))+a*(2*(a*b)-b)=N:=⟨_,rfl⟩;have hNt:N<=2^(a+9):=by
  rw [<-hN];have hab:∀ a b:Fin 9,b.1*(2*(a.1*b.1))+a.1*(2*(a.1*b.1)-b.1)<=2^(a.1+9):=by decide
  exact hab ⟨a,by omega⟩ ⟨b,by omega⟩
 have hK:Hm A B=(s+a+10)*(2*(a+b-1)+1):=by
  unfold Hm;rw [ha,hb,hsd,show a+1+(b+1)-2=a+b by omega,show 2*(a+b)-1=2*(a+b-1)+1 by omega];congr 1; omega
 have h0A:A.getD a 0≠0:=by have:=G7 tA (by omega); rwa [ha] at this
 have h0B:B.getD b 0≠0:=by have:=G7 tB (by omega); rwa [hb] at this
 have hp:∀ m,1<=2^m:=λm=>Zy (by decide)
 refine Zgu (N:=N) (D:=2^(Hm A B-1)) ha hb h0A h0B (by omega) (by omega) (h:=2^s) (hp s) (λk=>Qd (Qr2 k) (Zs (by decide) (by omega))) ?_ hN ?_ hR dp λe ep=>?_
 ·refine Qd (Zei (s:=Fe B) B λz hz=>?_) (Zs (by decide) (by omega));obtain ⟨i,hi⟩:=Zl.1 hz;have:=Qr2 (p:=B) i;rwa [Qj,hi] at this
 ·have h1:2*(N*2^s)<=2^(s+a+10):=by
   have:N*2^s<=2^(a+9)*2^s:=Qy _ hNt;rw [<-Xc] at this;rw [show s+a+10=(a+9+s)+1 by omega,Zr]; omega
  have h2:N*2^s<=2^(s+a+9):=by
   rw [show s+a+9=(a+9)+s by omega,Xc]; exact Qy _ hNt
  have h3:=Nat.pow_le_pow_left h1 (2*(a+b-1));have h4:=Zk h2 h3;rw [<-Wu,<-Xc] at h4;rw [<-Xs];refine Qd h4 (Zs (by decide) ?_);rw [hK,Xe,Yj]; omega
 ·obtain ⟨q,r,h1,h2,h3,h4,h5,h6⟩:=hs e ep;refine ⟨q,r,h1,h2,h3,?_,h5,h6⟩;have hK1:1<=Hm A B:=by
   rw [hK]; exact Yk (by omega) (by omega)
  have e1:2^(Hm A B+1)=4*2^(Hm A B-1):=by
   obtain ⟨m,hm⟩:∃ m,Hm A B=m+1:=⟨Hm A B-1,by omega⟩;rw [hm,Ju,Zr,Zr]; omega
  rw [e1] at h4
  push_cast at h4 ⊢
  exact h4
theorem Hv.lo' {t:Tm} {D M k:Nat} {u:Tm} (h:Hv t D M k u):Ue t u.lo=1\/Ue t u.lo=0/\u.lo=u.hi:=by
 rw [<-h.c];rcases h.i with ⟨e,_⟩ | ⟨L,V⟩
 ·exact .inr ⟨by rw [Ld e,C0],e⟩
 ·exact .inl (by rw [Mf V.l]; exact Di Qo)
theorem Hv.hi' {t:Tm} {D M k:Nat} {u:Tm} (h:Hv t D M k u):Ue t u.hi=0\/Ue t u.hi=-1:=by
 rw [<-h.c];rcases h.i with ⟨e,_⟩ | ⟨L,V⟩
 ·exact .inl (by rw [Ld e,e,C0])
 ·rw [Mf V.l];have:=V.hi1;rcases V.cut.val u.hi with h | h | h <;> omega
theorem Hv.le {t:Tm} {D M k:Nat} {u:Tm} (h:Hv t D M k u):u.lo<=u.hi:=by
 rcases h.i with ⟨e,_⟩ | ⟨L,V⟩
 ·rw [e]; exact Qo
 ·exact Qp V.l
theorem Q43 {a b:Tm} (ha:Va a) (hb:Va b) {D M k D' M' k':Nat} {u v:Tm} (hu:Hv a D M k u) (hv:Hv b D' M' k' v) (h:S7 a b):1<(v.hi-u.lo)*((2^(Hm a.p b.p+1):Nat):Rat):=by
 rcases Uq ((v.hi-u.lo)*((2^(Hm a.p b.p+1):Nat):Rat)) 1 with hw | hw
 ·exfalso;have ca:=ha.cut;have cb:=hb.cut;obtain ⟨m,m1,m2⟩:=h;obtain ⟨m',hm',m3⟩:=ca.dn m m1;have hpow:(0:Rat)<=((2^(Hm a.p b.p+1):Nat):Rat):=Xd;obtain ⟨R,hR⟩:=nmE (Uc u.lo+Uc m'+Uc m+Uc v.hi+1);have n1:=Ge u.lo; have n2:=Ge m'; have n3:=Ge m; have n4:=Ge v.hi;refine Q42 (R:=R) (d:=m-m') ha.tr hb.tr ha.n hb.n ha.n2 hb.n2 (by grind) (by grind) λe ep=>?_
  obtain ⟨q,q1,q2,q3⟩:∃ q,u.lo<=q/\q<=m'/\Uc (W4 a.p q)<e:=by
   rcases hu.lo' with h1 | ⟨h1,_⟩
   ·obtain ⟨x,y,hx,hy,hq⟩:=ha.van e ep;rcases Uq x u.lo with e1 | e1
    ·exact ⟨u.lo,Qo,Qp (ca.lt h1 m3),by rw [<-W5]; exact hq u.lo e1 (Qp (ca.lt h1 hy))⟩
    ·exact ⟨x,Qp e1,Qp (ca.lt hx m3),by rw [<-W5]; exact hq x Qo (Qp (ca.lt hx hy))⟩
   ·refine ⟨u.lo,Qo,?_,by rw [<-W5,Qfh ca h1 ha.van,Gn]; exact ep⟩;rcases Uq u.lo m' with e1 | e1
    ·exact e1
    ·have:=ca.mono m' u.lo e1 (by omega); omega
  obtain ⟨r,r1,r2,r3⟩:∃ r,r<=v.hi/\m<=r/\Uc (W4 b.p r)<e:=by
   rcases hv.hi' with h1 | h1
   ·refine ⟨v.hi,Qo,?_,by rw [<-W5,Qfh cb h1 hb.van,Gn]; exact ep⟩;rcases Uq m v.hi with e1 | e1
    ·exact e1
    ·have:=cb.mono v.hi m e1 (by omega); omega
   ·obtain ⟨x,y,hx,hy,hq⟩:=hb.van e ep;rcases Uq v.hi y with e1 | e1
    ·exact ⟨v.hi,Qo,Qp (cb.lt m2 h1),by rw [<-W5]; exact hq v.hi (Qp (cb.lt hx h1)) e1⟩
    ·exact ⟨y,Qp e1,Qp (cb.lt m2 hy),by rw [<-W5]; exact hq y (Qp (cb.lt hx hy)) Qo⟩
  have e1:Uc (q-r)=r-q:=by unfold Uc; split <;> grind
  have b1:Uc q<=R:=by
   have:=Qcx (R:=R) (x:=u.lo) (y:=m') (t:=q) (by grind) (by grind) q1 q2; exact this
  have b2:Uc r<=R:=by
   have:=Qcx (R:=R) (x:=m) (y:=v.hi) (t:=r) (by grind) (by grind) r2 r1; exact this
  refine ⟨q,r,b1,b2,by rw [e1]; grind,?_,q3,r3⟩;rw [e1];have:=Q7 (show r-q<=v.hi-u.lo by grind) hpow;exact Zf this hw
 ·exact hw
theorem Qph {a b:Tm} (ha:Va a) (hb:Va b) {D M k D' M' k':Nat} {u v:Tm} (hu:Hv a D M k u) (hv:Hv b D' M' k' v) (hne:¬TEq a b) (h:Nz u v=true):S7 a b:=by
 have h1:=(of_decide_eq_true h).1;have h1:=Qgp.1 h1;rcases tri ha.cut hb.cut with h2 | h2 | ⟨m,m1,m2⟩
 ·exact h2
 ·exact absurd h2 hne
 ·exfalso;have e1:m<u.hi:=by
   rcases Uq u.hi m with e | e
   ·rcases Classical.em (u.hi=m) with e' | e'
    ·have:=hu.hi'; rw [e'] at this; omega
    ·have:=ha.cut.mono u.hi m (by grind) (by have:=hu.hi'; omega); omega
   ·exact e
  have e2:v.lo<m:=by
   rcases Uq m v.lo with e | e
   ·rcases Classical.em (m=v.lo) with e' | e'
    ·have:=hv.lo'; rw [<-e'] at this; omega
    ·have:=hb.cut.mono m v.lo (by grind) (by omega);have:=hv.lo'; omega
   ·exact e
  grind
theorem Qyt {a b:Tm} (ha:Va a) (hb:Va b) {D M k D' M' k':Nat} {u v:Tm} (hu:Hv a D M k u) (hv:Hv b D' M' k' v) (hlt:S7 a b) (h:Nz u v≠true):v.lo<=u.hi:=by
 rcases Uq v.lo u.hi with e | e
 ·exact e
 ·refine absurd (decide_eq_true ⟨Qgp.2 (Qp e),λh'=>?_⟩) h;have:=Qxa.1 h'.2; grind
theorem Qrw (m:Nat):((2^(m+1):Nat):Rat)=2*((2^m:Nat):Rat):=by rw [Zr]; push_cast; grind
def Ze9 (a b:Tm) (r:Tm×Tm×Int):Prop:=r.2.2=-1/\S7 a b\/r.2.2=1/\S7 b a
theorem Q0u (A B:List Int):Hm A B=Hm B A:=by unfold Hm; rw [Nat.add_comm A.length,Nat.add_comm (Fe A)]
theorem Ziz {a b:Tm} (ha:Va a) (hb:Va b) (hne:¬TEq a b) {D M D' M':Nat} (hM:0<M) (hM':0<M'):∀ (i j:Nat) (u v:Tm) (k k':Nat) (W:Rat),2*i+1<=j->Hv a D M k u->Hv b D' M' k' v->Ug (D:Int)+Ug (M:Int)+(k+j)<=16777216->Ug (D':Int)+Ug (M':Int)+(k'+j)<=16777216->u.hi-u.lo<=W->v.hi-v.lo<=W->2*W*((2^(Hm a.p b.p+1):Nat):Rat)<=((2^i:Nat):Rat)->∃ r,apF j u v=some r/\Ze9 a b r:=by
 intro i;have step:∀ (j:Nat) (u v:Tm) (k k':Nat),Hv a D M k u->Hv b D' M' k' v->Ug (D:Int)+Ug (M:Int)+(k+(j+1))<=16777216->Ug (D':Int)+Ug (M':Int)+(k'+(j+1))<=16777216->(∃ r,apF (j+1) u v=some r/\Ze9 a b r)\/(Nz u v≠true/\Nz v u≠true/\∃ u' v' k1 k1',apF (j+1) u v=apF j u' v'/\Hv a D M k1 u'/\Hv b D' M' k1' v'/\k1<=k+1/\k1'<=k'+1/\(v.hi-v.lo<=u.hi-u.lo/\u'.hi-u'.lo<=(u.hi-u.lo) / 2/\v'=v\/u.hi-u.lo<=v.hi-v.lo/\v'.hi-v'.lo<=(v.hi-v.lo) / 2/\u'=u)):=by
  intro j u v k k' hu hv hs hs';by_cases h1:Nz u v=true
  ·exact .inl ⟨(u,v,-1),by simp only [apF]; rw [if_pos h1],.inl ⟨rfl,Qph ha hb hu hv hne h1⟩⟩
  by_cases h2:Nz v u=true
  ·exact .inl ⟨(u,v,1),by simp only [apF]; rw [if_neg h1,if_pos h2],.inr ⟨rfl,Qph hb ha hv hu (λh=>hne λq=>(h q).symm) h2⟩⟩
  refine .inr ⟨h1,h2,?_⟩;by_cases h3:0<=Fp (Qjq u.hi u.lo) (Qjq v.hi v.lo)
  ·obtain ⟨x,x1,x2,x3,_⟩:=Qnl hu hM (by omega);refine ⟨x,v,k+1,k',?_,x2,hv,by omega,by omega,.inl ⟨?_,x3,rfl⟩⟩
   ·simp only [apF]; rw [if_neg h1,if_neg h2,if_pos h3,x1]; rfl
   ·have:=Qgo.1 h3; rwa [Qg8,Qg8] at this
  ·obtain ⟨x,x1,x2,x3,_⟩:=Qnl hv hM' (by omega);refine ⟨u,x,k,k'+1,?_,hu,x2,by omega,by omega,.inr ⟨?_,x3,rfl⟩⟩
   ·simp only [apF]; rw [if_neg h1,if_neg h2,if_neg h3,x1]; rfl
   ·rcases Uq (u.hi-u.lo) (v.hi-v.lo) with e | e
    ·exact e
    ·refine absurd (Qgo.2 ?_) h3;rw [Qg8,Qg8]; exact Qp e
 induction i with
 |
  zero =>
  intro j u v k k' W hj hu hv hs hs' hW hW' hK;obtain ⟨j,rfl⟩:∃ m,j=m+1:=⟨j-1,by omega⟩;rcases step j u v k k' hu hv hs hs' with h | ⟨h1,h2,_⟩
  ·exact h
  ·exfalso;have hpow:(0:Rat)<=((2^(Hm a.p b.p+1):Nat):Rat):=Xd;rw [Y4] at hK;rcases tri ha.cut hb.cut with h3 | h3 | h3
   ·have h4:=Qyt ha hb hu hv h3 h1;have h5:=Q43 ha hb hu hv h3;have h6:=Q7 (show v.hi-u.lo<=2*W by clear step; grind) hpow;have h7:((1:Nat):Rat)=1:=rfl;rw [h7] at hK;clear step; grind
   ·exact hne h3
   ·have h4:=Qyt hb ha hv hu h3 h2;have h5:=Q43 hb ha hv hu h3;rw [Q0u] at h5;have h6:=Q7 (show u.hi-v.lo<=2*W by clear step; grind) hpow;have h7:((1:Nat):Rat)=1:=rfl;rw [h7] at hK;clear step; grind
 |
  succ i ih =>
  intro j u v k k' W hj hu hv hs hs' hW hW' hK;obtain ⟨j,rfl⟩:∃ m,j=m+2:=⟨j-2,by omega⟩;have hd:∀ x:Rat,x / 2*2=x:=λx=>Fi (by decide)
  rcases step (j+1) u v k k' hu hv hs hs' with h | ⟨_,_,u1,v1,k1,k1',e1,hu1,hv1,hk1,hk1',hw1⟩
  ·exact h
  ·rw [e1];rcases step j u1 v1 k1 k1' hu1 hv1 (by omega) (by omega) with h | ⟨_,_,u2,v2,k2,k2',e2,hu2,hv2,hk2,hk2',hw2⟩
   ·exact h
   ·rw [e2];have a1:=hd (u.hi-u.lo); have a2:=hd (v.hi-v.lo); have a3:=hd (u1.hi-u1.lo); have a4:=hd (v1.hi-v1.lo); have a5:=hd W;have b1:=hu.le; have b2:=hv.le; have b3:=hu1.le; have b4:=hv1.le; have b5:=hu2.le; have b6:=hv2.le;have hww:u2.hi-u2.lo<=W / 2/\v2.hi-v2.lo<=W / 2:=by
     clear step ih;rcases hw1 with ⟨c1,c2,rfl⟩ | ⟨c1,c2,rfl⟩ <;> rcases hw2 with ⟨d1,d2,rfl⟩ | ⟨d1,d2,rfl⟩ <;> constructor <;> grind
    refine ih j u2 v2 k2 k2' (W / 2) (by omega) hu2 hv2 (by omega) (by omega) hww.1 hww.2 ?_;rw [Qrw i] at hK;have:2*(W / 2)*((2^(Hm a.p b.p+1):Nat):Rat)*2=2*W*((2^(Hm a.p b.p+1):Nat):Rat):=by clear step ih hw1 hw2; grind
    clear step ih hw1 hw2; grind
end Orq
