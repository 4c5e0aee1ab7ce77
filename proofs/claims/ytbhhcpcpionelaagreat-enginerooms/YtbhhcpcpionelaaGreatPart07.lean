/- T24 T25 G1 G2 SortL KinL K1 K2 F6 F7 F8 F9 G3 G4 K3 K4 KGoL SplitL S1 SortQ HullG RawL NewsL BegL TurnL PairN DetL -/
import Derived.Test.YtbhhcpcpionelaaGreatPart06
import Derived.Test.YtbhhcpcpionelaaGreatPart00
import Derived.Test.YtbhhcpcpionelaaGreatPart05
import Derived.Test.YtbhhcpcpionelaaGreatPart04
set_option linter.all false
namespace Orq
open Orr Go
theorem iO:∀ {k:Nat} {a b:W9} {l:Ua},vA k a b=some l->∀ p∈l,p.length≠0
 | 0,_,_,_,h=>by cases h
 |
  k+1,a,b,l,h=>by
  simp only [vA] at h
  split at h
  ·injection h with h; subst h; exact λp hp=>by cases hp
  ·rename_i h0;obtain ⟨r,_,h⟩:=Qc.1 h;obtain ⟨l',h1,h⟩:=Qc.1 h;injection h with h; subst h;intro p hp;rcases Qk.1 hp with rfl | hp
   ·exact h0
   ·exact iO h1 p hp
theorem Okp.pb {n s:Nat} {p:W9} (h:Okp n s p) (hs:s<=16777216):Pb p:=⟨h.t,by have:=h.l; have:=h.z.1; omega,Uk h.b hs⟩
theorem cK {p:W9} {q:W9} {l:Ua} (hp:Pb p) (h:Dh p=some (q::l)) (hq:q.length≠0):∀ r∈q::l,Uu r/\r.length≠0:=by
 have h1:=(Orr.chain_ok hp h).2;unfold Dh at h;obtain ⟨a,_,h⟩:=Qc.1 h
 split at h
 ·cases h
 ·obtain ⟨d,_,h⟩:=Qc.1 h;obtain ⟨l',h3,h⟩:=Qc.1 h;injection h with h;injection h with e1 e2;subst e1; subst e2;intro r hr;refine ⟨(h1 r hr).t,?_⟩;rcases Qk.1 hr with rfl | hr
  ·exact hq
  ·exact iO h3 r hr
inductive RI (q:List Int) (L:List (List Rat)):Rat->List Tm->Rat->Prop
 | nil {lo hi:Rat} (h:lo<=hi) (hv:vv L lo=vv L hi):RI q L lo [] hi
 | cons {lo hi:Rat} {t:Tm} {l:List Tm} (h:lo<=t.lo) (hv:vv L lo=vv L t.lo) (ht:Vt (cz q) L t.lo t.hi) (hp:t.p=q) (hl:RI q L t.hi l hi):RI q L lo (t::l) hi
theorem RI.app {q:W9} {L:Ud} {lo m hi:Rat} {l l':List Tm} (h:RI q L lo l m) (h':RI q L m l' hi):RI q L lo (l++l') hi:=by
 induction h with
 |
  nil h hv =>
  cases h' with
  | nil h2 hv2=>exact .nil (by grind) (by omega)
  | cons h2 hv2 ht hp hl=>exact .cons (by grind) (by omega) ht hp hl
 | cons h hv ht hp _ ih=>exact .cons h hv ht hp (ih h')
theorem oJ {D M k:Nat} {m:Rat} (h:Gr D M k m) (hM:0<M) (hs:U0 (D:Int)+U0 (M:Int)+k<=16777216):lG m=some m:=by
 have:=CS h hM hs;unfold lG;rw [if_pos ⟨this.1,this.2⟩]
theorem HM {q:W9} {c:Ua} (hS:KC (cz q) (c.map cz)) (tq:Uu q) (nq:q.length<=9) (hc1:q.length<2->c=[q]) {D M F:Nat} (hM:0<M):∀ (k j:Nat) (lo hi:Rat),lo<hi->Gr D M j lo->Gr D M j hi->U0 (D:Int)+U0 (M:Int)+(j+k)<=16777216->(hi-lo)*((2^(Rk q q+1):Nat):Rat)<=((2^k:Nat):Rat) ->
 ∃ l,El q c (F+k+1) lo hi ((vv (c.map cz) lo:Int)-(vv (c.map cz) hi:Int))=some l/\RI q (c.map cz) lo l hi/\∀ t∈l,∃ k',k'≤j+k/\Gr D M k' t.lo/\Gr D M k' t.hi:=by
 intro k
 induction k with
 |
  zero =>
  intro j lo hi hl g1 g2 hs hK;have hle:=L8 hS hl;have h2:vv (c.map cz) lo<vv (c.map cz) hi+2:=by
   rcases Zc (vv (c.map cz) lo) (vv (c.map cz) hi+2) with h | h
   ·exact h
   ·exfalso;have lq:2<=q.length:=by
     rcases Zc q.length 2 with e | e
     ·have hvv:∀ x,vv (c.map cz) x=vv (c.map cz) 0:=λx=>by
       rcases hS with ⟨c0,hc0,hcc,hl'⟩ | ⟨g',l',k',hk,hg,hsc,hl'⟩
       ·rw [hl']; simp only [vv,tc,hcc]
       ·rw [hc1 e] at hl'; cases hl'
      rw [hvv lo,hvv hi] at h; omega
     ·exact e
    have:=Qi6 hS tq nq lq hl h;rw [Y4] at hK;have h7:((1:Nat):Rat)=1:=rfl;rw [h7] at hK; grind
  simp only [El];by_cases e0:vv (c.map cz) lo=vv (c.map cz) hi
  ·rw [if_pos (by omega)];exact ⟨[],rfl,.nil (Qq hl) e0,λt ht=>by cases ht⟩
  ·rw [if_neg (by omega),if_pos (by omega)];refine ⟨[⟨q,lo,hi⟩],rfl,.cons Qo rfl ⟨hS,hl,by show vv _ lo=vv _ hi+1; omega⟩ rfl (.nil Qo rfl),λt ht=>?_⟩;rw [Ql.1 ht]; exact ⟨j,by omega,g1,g2⟩
 |
  succ k ih =>
  intro j lo hi hl g1 g2 hs hK;have hle:=L8 hS hl;show ∃ l,(if (vv (c.map cz) lo:Int)-(vv (c.map cz) hi:Int)=0 then some [] else if (vv (c.map cz) lo:Int)-(vv (c.map cz) hi:Int)=1 then some [⟨q,lo,hi⟩] else (lG (mid lo hi)).bind λm=>(El q c (F+k+1) lo m (H8 c lo m)).bind λl=>(El q c (F+k+1) m hi ((vv (c.map cz) lo:Int)-(vv (c.map cz) hi:Int)-H8 c lo m)).bind λr=>some (l++r))=some l/\_;by_cases e0:vv (c.map cz) lo=vv (c.map cz) hi
  ·rw [if_pos (by omega)];exact ⟨[],rfl,.nil (Qq hl) e0,λt ht=>by cases ht⟩
  by_cases e1:vv (c.map cz) lo=vv (c.map cz) hi+1
  ·rw [if_neg (by omega),if_pos (by omega)];refine ⟨[⟨q,lo,hi⟩],rfl,.cons Qo rfl ⟨hS,hl,e1⟩ rfl (.nil Qo rfl),λt ht=>?_⟩;rw [Ql.1 ht]; exact ⟨j,by omega,g1,g2⟩
  ·rw [if_neg (by omega),if_neg (by omega)];obtain ⟨m,hm⟩:=nmE ((lo+hi) / 2);have h2:(lo+hi) / 2*2=lo+hi:=Gi (by decide);rw [<-hm] at h2;have gm:Gr D M (j+1) m:=by rw [hm]; exact Qa9 g1 g2
   have l1:lo<m:=by grind
   have l2:m<hi:=by grind
   rw [uM,<-hm,oJ gm hM (by omega)];show ∃ l,((El q c (F+k+1) lo m (H8 c lo m)).bind λl=>(El q c (F+k+1) m hi ((vv (c.map cz) lo:Int)-(vv (c.map cz) hi:Int)-H8 c lo m)).bind λr=>some (l++r))=some l/\_;rw [A8 (Qq l1),show (vv (c.map cz) lo:Int)-(vv (c.map cz) hi:Int)-((vv (c.map cz) lo:Int)-(vv (c.map cz) m:Int))=(vv (c.map cz) m:Int)-(vv (c.map cz) hi:Int) by omega];rw [jI k] at hK;have hp:∀ x y:Rat,(y-x)*2=hi-lo->(y-x)*((2^(Rk q q+1):Nat):Rat)<=((2^k:Nat):Rat):=λx y h=>by
    have:(y-x)*((2^(Rk q q+1):Nat):Rat)*2=(hi-lo)*((2^(Rk q q+1):Nat):Rat):=by rw [<-h]; grind
    grind
   obtain ⟨la,a1,a2,a3⟩:=ih (j+1) lo m l1 (CP g1) gm (by omega) (hp lo m (by grind));obtain ⟨lb,b1,b2,b3⟩:=ih (j+1) m hi l2 gm (CP g2) (by omega) (hp m hi (by grind));rw [a1];show ∃ l,((El q c (F+k+1) m hi ((vv (c.map cz) m:Int)-(vv (c.map cz) hi:Int))).bind λr=>some (la++r))=some l/\_;rw [b1];refine ⟨la++lb,rfl,a2.app b2,λt ht=>?_⟩;rcases Qr.1 ht with ht | ht
   ·obtain ⟨k',h1,h2,h3⟩:=a3 t ht; exact ⟨k',by omega,h2,h3⟩
   ·obtain ⟨k',h1,h2,h3⟩:=b3 t ht; exact ⟨k',by omega,h2,h3⟩
theorem Qms {D M k:Nat} {q:Rat} (h:Gr D M k q):Gr D M k (-q):=by
 obtain ⟨u,hu⟩:=h.u;exact ⟨⟨-u,by rw [Vz,<-hu]; grind⟩,by rw [Dy]; exact h.b,h.d⟩
theorem xW {m s:Nat} (h:m<2^s):U0 ((m+1:Nat):Int)<=s+1:=by
 rw [M8,Xk,Zq]; omega
theorem cO {z:Int} {s:Nat} (h:U0 z<=s):U0 ((z.natAbs+1:Nat):Int)<=s+1:=xW (M8.1 h)
theorem Qiu {x:Rat} {m s g N:Nat} (hx:x<=2*((m+1:Nat):Rat)) (hm:m+1<=2^s) (hN:s+1+g<=N):x*((2^g:Nat):Rat)<=((2^N:Nat):Rat):=by
 have h3:=Zh.2 hm;have e:=jI s;have h4:(0:Rat)<=((2^s:Nat):Rat):=Xf;have h1:x<=((2^(s+1):Nat):Rat):=by rw [e]; grind
 have h5:(0:Rat)<=((2^g:Nat):Rat):=Xf;refine Zg (Q9 h1 h5) ?_;have h6:2^(s+1)*2^g<=2^N:=by
  rw [<-Xc]; exact Zr (by decide) hN
 have:=Zh.2 h6;rw [Rat.natCast_mul] at this;exact this
theorem Qfg {s:Nat} {l:W9} (h:Bd s l):I6 l<2^s:=by
 have key:∀ (l:W9) (m:Nat),m<2^s->Bd s l->l.foldl (λm z=>if m<z.natAbs then z.natAbs else m) m<2^s:=by
  intro l
  induction l with
  | nil=>exact λm h _=>h
  |
   cons y l ih =>
   intro m hm hb;simp only [Z4];refine ih _ ?_ λz hz=>hb z (Qf _ hz)
   have:=hb y (Qx ..);rw [M8] at this
   split <;> assumption
 exact key l 0 (Zy (by decide)) h
theorem Ql4 {p q:W9} (h:BH p=some q):q=p:=by
 unfold BH at h
 split at h
 ·injection h with h; exact h.symm
 ·cases h
theorem dL {s N:Nat} {p:W9} (hNe:N=63*s+5160) (hs9:s≤1180) (h:Okp 9 s p):∃ q c l,Ts p=some q/\Dh p=some c/\FB p=some l/\KC (cz q) (c.map cz)/\RI q (c.map cz) (-Fy q) l (Fy q)/\(∀ t∈l,Va t)/\(∀ x y,x<y->Fy q≤x\/y≤-Fy q->vv (c.map cz) x=vv (c.map cz) y)/\q.length≤p.length/\∀ t∈l,t.p=q/\t.lo<t.hi/\Bd (s+69) q/\∃ D M k,Gr D M k t.lo/\Gr D M k t.hi/\0<M/\U0 (D:Int)≤s+69/\U0 (M:Int)≤s+70/\k≤N:=by
 obtain ⟨pp,hpl,hpb⟩:=h.pr;obtain ⟨g,q',hq',sq⟩:=ZR h;obtain ⟨q,l,q1,q2,hS,hl0⟩:=chain_ok h;rw [hq'] at q1;injection q1 with q1;subst q1;have e1:∀ t,Up (Uv p) t=Up q' t*Up g t:=λt=>by rw [sq.e]; grind
 obtain ⟨p1,p2⟩:=Hx pp.t pp.n e1;have hch:vA 66 q' (Uv (Gj q'))=some l:=by
  have h2:=q2;unfold Dh at h2;rw [hq'] at h2;simp only [X5] at h2
  split at h2
  ·cases h2
  ·cases hd:BH (Gj q') with
   | none=>rw [hd] at h2; cases h2
   |
    some d =>
    rw [hd] at h2;simp only [X5] at h2;obtain rfl:d=Gj q':=Ql4 hd;cases hc:vA 66 q' (Uv (Gj q')) with
    | none=>rw [hc] at h2; cases h2
    | some l'=>rw [hc] at h2; simp at h2; rw [h2]
 have hll:=S7 sq.pq.t sq.pg.t pp.t e1 p1 p2;have hl9:=h.l;have bq:Bd (s+69) q':=Oh hpb (by omega) pp.t sq.pq.t sq.pg.t pp.n e1;have hall:=cK (h.pb (by omega)) q2 sq.pq.n;have hld:U3 q'≠0:=by have:=sq.pq.l; omega
 have hb1:=KI hld;obtain ⟨D,hD⟩:=nmE ((U3 q').natAbs);obtain ⟨m,hm⟩:=nmE (I6 (q'.take (q'.length-1)));have hm2:m<2^(s+69):=by rw [hm]; exact Qfg (s:=s+69) λz hz=>bq z (Qm hz)
 have hD0:0<D:=by omega
 have hDs:U0 (D:Int)<=s+69:=by
  have:=Pn bq;rw [M8] at this ⊢;rw [Xk,hD]; exact this
 have hbe:=RN hld;rw [<-hD,<-hm] at hbe;have hDq:=nat_pos hD0;have hbm:Fy q'<=((m+1:Nat):Rat):=by
  have hD1:(1:Rat)<=(D:Rat):=by
   have:((1:Nat):Rat)<=(D:Rat):=Zh.2 hD0;exact this
  have hm0:(0:Rat)<=(m:Rat):=Xf;have h3:=Nc (a:=(m:Rat)) (c:=1) hm0 Qo (by decide) hD1;rcases Fb (Fy q') ((m+1:Nat):Rat) with h' | h'
  ·exact h'
  ·exfalso;have:=Vk h' hDq
   push_cast at this; grind
 have gb:Gr D (m+1) 0 (Fy q'):=by
  refine ⟨⟨(D+m:Nat),?_⟩,?_,hD0⟩
  ·rw [Y4,Yk,hbe];rw [show ((((D+m:Nat):Int)):Rat)=((D+m:Nat):Rat) from rfl]; push_cast; rfl
  ·have:Uw (Fy q')=Fy q':=by unfold Uw; rw [if_neg (by grind)]
   rw [this]; exact hbm
 have hMs:U0 ((m+1:Nat):Int)<=s+69+1:=xW (s:=s+69) hm2;have hK:(Fy q' - -Fy q')*((2^(Rk q' q'+1):Nat):Rat)<=((2^N:Nat):Rat):=by
  have hps:=Av bq;have hg:Rk q' q'<=(2*s+164)*31:=by
   unfold Rk;exact Zk (by omega) (by omega)
  exact Qiu (s:=s+69) (g:=Rk q' q'+1) (N:=N) (by grind) hm2 (by omega)
 have hN:U0 (D:Int)+U0 ((m+1:Nat):Int)+(0+N)<=16777216:=by omega
 obtain ⟨F,hFe⟩:=nmE (99999-N);obtain ⟨ls,r1,r2,r3⟩:=HM (F:=F) hS sq.pq.t (by omega) (λh=>by rw [hl0 h]) (Wn m) N 0 (-Fy q') (Fy q') (by grind) (Qms gb) gb hN hK;rw [show F+N+1=100000 by omega] at r1;have hchq:lG (Fy q')=some (Fy q'):=oJ gb (Wn m) (by omega);have key:∀ t∈ls,Va t/\t.p=q'/\t.lo<t.hi/\Bd (s+69) q'/\∃ D M k,Gr D M k t.lo/\Gr D M k t.hi/\0<M/\U0 (D:Int)≤s+69/\U0 (M:Int)≤s+70/\k≤N:=λt ht=>by
  obtain ⟨k',k1,k2,k3⟩:=r3 t ht;have hmem:∀ {lo hi:Rat} {ls:List Tm},RI q' ((q'::l).map cz) lo ls hi->t∈ls->Vt (cz q') ((q'::l).map cz) t.lo t.hi/\t.p=q':=λh=>by
   induction h with
   | nil=>intro ht; cases ht
   |
    cons h hv ht' hp hl ih =>
    intro ht;rcases Qk.1 ht with rfl | ht
    ·exact ⟨ht',hp⟩
    ·exact ih ht
  obtain ⟨v1,v2⟩:=hmem r2 ht;have lq2:2<=q'.length:=by
   rcases Zc q'.length 2 with e | e
   ·exfalso;have hvv:∀ x,vv ((q'::l).map cz) x=0:=λx=>by
     rw [hl0 e,sq.pq.one e];have hv1:∀ x:Rat,ev (cz [1]) x=1:=λx=>by rw [Uq,P5]
     simp only [Zx,X8,vv,tc,hv1];have:Us 1=1:=by decide
     rw [this]; decide
    have:=v1.v;rw [hvv,hvv] at this; omega
   ·exact e
  exact ⟨⟨.inr ⟨_,by rw [v2]; exact v1⟩,by rw [v2]; exact sq.pq.t,by rw [v2]; omega,by rw [v2]; exact lq2,by rw [v2]; exact Uk bq (by omega),λ_=>by rw [v2]; exact Uk bq (by omega),λ_=>by rw [v2]; exact ⟨l,_,g,hch,sq,v1⟩,D,m+1,k',k2,k3,Wn m,Qd (show _<=1000000 by omega) (Qmx t)⟩,v2,v1.l,bq,D,m+1,k',k2,k3,Wn m,hDs,Qd hMs (Qn (s+70)),by rw [Zt] at k1; exact k1⟩
 refine ⟨q',q'::l,ls,hq',q2,?_,hS,r2,λt ht=>(key t ht).1,λx y hxy hb=>rY hS sq.pq.t sq.pq.n hxy hb (by grind),by omega,λt ht=>(key t ht).2⟩
 ·unfold FB;rw [q2,hq'];show (lG (Fy q')).bind _=_;rw [hchq];simp only [X5];rw [dD hS hall];exact r1
theorem Qdg {s:Nat} {p:W9} (hs9:s≤1180) (h:Okp 9 s p):∃ q c l,Ts p=some q/\Dh p=some c/\FB p=some l/\KC (cz q) (c.map cz)/\RI q (c.map cz) (-Fy q) l (Fy q)/\(∀ t∈l,Va t)/\(∀ x y,x<y->Fy q≤x\/y≤-Fy q->vv (c.map cz) x=vv (c.map cz) y)/\q.length≤p.length/\∀ t∈l,t.p=q/\t.lo<t.hi/\Bd (s+69) q/\∃ D M k,Gr D M k t.lo/\Gr D M k t.hi/\0<M/\U0 (D:Int)≤s+69/\U0 (M:Int)≤s+70/\k≤63*s+5160:=dL rfl hs9 h
theorem Qdf {p:W9} (h:Okp 9 1180 p):∃ q c l,Ts p=some q/\Dh p=some c/\FB p=some l/\KC (cz q) (c.map cz)/\RI q (c.map cz) (-Fy q) l (Fy q)/\(∀ t∈l,Va t)/\(∀ x y,x<y->Fy q≤x\/y≤-Fy q->vv (c.map cz) x=vv (c.map cz) y):=by
 obtain ⟨q,c,l,h1,h2,h3,h4,h5,h6,h7,_⟩:=Qdg (Qn _) h;exact ⟨q,c,l,h1,h2,h3,h4,h5,h6,h7⟩
theorem Do {q:W9} {L:Ud} (hS:KC (cz q) L) {c:Rat->Int} (hc:Cut c) {lo:Rat} (hH:∀ z,c z=-1->z<=lo->vv L z=vv L lo) {y0:Rat} (hy:c y0=-1) (hv:∀ z,lo<z->z<=y0->vv L z=vv L lo):∃ s,s≠0/\∀ z,c z=-1->z<=y0->Us (ev (cz q) z)=s:=by
 have hall:∀ z,c z=-1->z<=y0->vv L z=vv L lo:=λz h1 h2=>by
  rcases Fb z lo with e | e
  ·exact hH z h1 e
  ·exact hv z e h2
 have hne:∀ z,c z=-1->z<=y0->Us (ev (cz q) z)≠0:=λz h1 h2=>by
  obtain ⟨w,w1,w2⟩:=hc.dn z h1;have:=OP hS w1 (by rw [hall w w2 (by grind),hall z h1 h2]);rw [this.s]; exact this.n
 refine ⟨Us (ev (cz q) y0),hne y0 hy Qo,λz h1 h2=>?_⟩;rcases Classical.em (z=y0) with e | e
 ·rw [e]
 ·have:=OP hS (x:=z) (y:=y0) (by grind) (by rw [hall z h1 h2,hall y0 hy Qo]);rw [this.s,Lp (hne z h1 h2)]
structure Fst (o:List Int) (a t:Tm):Prop where
 lt:Pz a t
 s:∃ s,s≠0/\(∀ z,Uz a z=-1->Uz t z=1->Us (ev (cz o) z)=s)/\RS (cz o) (Uz t) (-s)
def Non (o:W9) (a:Tm):Prop:=∃ s,s≠0/\∀ z,Uz a z=-1->Us (ev (cz o) z)=s
theorem dW {q:W9} {L:Ud} (hS:KC (cz q) L) {a:Tm} (ha:Va a) {lo hi:Rat} {l:List Tm} (hR:RI q L lo l hi):(∀ t∈l,Va t)->(∀ z,hi<z->vv L z=vv L hi)->(∀ z,Uz a z=-1->z≤lo->vv L z=vv L lo)->∃ r,XV a l=some r/\match r with
 | none=>Non q a
 | some t=>t∈l/\Fst q a t:=by
 have ca:=ha.cut
 induction hR with
 |
  @nil lo hi h hv =>
  intro _ hhi hH;refine ⟨none,rfl,?_⟩;obtain ⟨y1,hy1⟩:=ca.hi;have hall:∀ z,lo<z->vv L z=vv L lo:=λz hz=>by
   rcases Fb z hi with e | e
   ·have h1:=L8 hS hz;have h2:vv L hi<=vv L z:=by
     rcases Classical.em (z=hi) with e' | e'
     ·rw [e']; exact Qn _
     ·exact L8 hS (by grind)
    omega
   ·rw [hhi z e,hv]
  obtain ⟨s,s0,hs⟩:=Do hS ca hH hy1 λz h1 _=>hall z h1
  refine ⟨s,s0,λz hz=>?_⟩;rcases Fb z y1 with e | e
  ·exact hs z hz e
  ·obtain ⟨s',s0',hs'⟩:=Do hS ca hH hz λz h1 _=>hall z h1
   rw [hs' z hz Qo,<-hs' y1 hy1 (Qq e),hs y1 hy1 Qo]
 |
  @cons lo hi t l h hv ht hp hl ih =>
  intro hV hhi hH;have hvt:=hV t (Qx ..);have ct:=hvt.cut;have ht':=ht;rw [<-hp] at ht';have ect:∀ z,Uz t z=cq (cz t.p) t.lo t.hi z:=M7 ht.l;obtain ⟨c,c1,c2⟩:=YS hvt ha;show ∃ r,((YT t a).bind λc=>if 0<c then some (some t) else XV a l)=some r/\_;rw [c1];show ∃ r,(if 0<c then some (some t) else XV a l)=some r/\_;have hlo1:Uz t t.lo=1:=by rw [ect]; exact Lf Qo
  have hlow:∀ z,lo<z->Uz t z=1->vv L z=vv L lo:=λz h1 h2=>by
   rcases Fb z t.lo with e | e
   ·have a1:=L8 hS h1;have a2:vv L t.lo<=vv L z:=by
     rcases Classical.em (z=t.lo) with e' | e'
     ·rw [e']; exact Qn _
     ·exact L8 hS (by grind)
    omega
   ·rw [ect] at h2;have hz:z<=t.hi:=by
     rcases Fb z t.hi with e' | e'
     ·exact e'
     ·rw [YP ht.l e'] at h2; omega
    rw [ht'.eq_lo e hz h2,hv]
  by_cases hc:0<c
  ·rw [if_pos hc];refine ⟨some t,rfl,Qx ..,?_⟩;have hlt:Pz a t:=by
    rcases c2 with ⟨e,_⟩ | ⟨e,_⟩ | ⟨_,h⟩
    ·omega
    ·omega
    ·exact h
   refine ⟨hlt,?_⟩;obtain ⟨m,m1,m2⟩:=hlt;obtain ⟨s,s0,hs⟩:=Do hS ca hH m1 λz h1 h2=>hlow z h1 (by
    rcases Classical.em (z=m) with e | e
    ·rw [e]; exact m2
    ·exact ct.mono' (q:=z) (r:=m) (by grind) (by omega))
   have hall:∀ z,Uz a z=-1->Uz t z=1->Us (ev (cz q) z)=s:=λz h1 h2=>by
    rcases Fb z m with e | e
    ·exact hs z h1 e
    ·obtain ⟨s',s0',hs'⟩:=Do hS ca hH h1 λw w1 w2=>hlow w w1 (by
      rcases Classical.em (w=z) with e | e
      ·rw [e]; exact h2
      ·exact ct.mono' (q:=w) (r:=z) (by grind) (by omega))
     rw [hs' z h1 Qo,<-hs' m m1 (Qq e),hs m m1 Qo]
   refine ⟨s,s0,hall,?_⟩;obtain ⟨w,w1,w2,w3⟩:=TC ct m2 hlo1;have hwa:Uz a w=-1:=ca.mono m w w2 (by omega);have hsw:=hall w hwa w1;have hwh:w<t.hi:=by
    rw [ect] at w1;rcases Fb t.hi w with e | e
    ·have:=ht'.hi1;rcases Classical.em (t.hi=w) with e' | e'
     ·rw [<-e'] at w1; exact absurd w1 this
     ·rw [YP ht.l (by grind)] at w1; omega
    ·exact e
   have hww:vv L w=vv L t.lo:=ht'.eq_lo w3 (Qq hwh) (by rw [<-ect]; exact w1);have hvv:=ht.v;have hone:=OS hS hwh (by omega);have hlw:Tu (cz q) w=s:=by rw [Lp (by rw [hsw]; exact s0),hsw]
   rw [hlw] at hone;have hd:∀ z,w<z->z<=t.hi->Uz t z=-1->Us (ev (cz q) z)=-s:=λz z1 z2 z3=>by
    rw [ect] at z3;have e1:=ht'.eq_hi (by grind) z2 (by omega);have e2:=OS hS z1 (by omega);rw [hlw] at e2;have hz0:Us (ev (cz q) z)≠0:=by
     rw [Er (by grind) z2,hp] at z3;intro h0;rw [if_pos h0] at z3; omega
    rw [Lp hz0] at e2; exact e2.2
   rcases ct.val t.hi with e | e | e
   ·rw [ect] at e; exact absurd e ht'.hi1
   ·obtain ⟨d,dp,hd'⟩:=Qpo (p:=cz q) (x:=t.hi) (by rw [hone.2]; omega);refine ⟨t.hi+d,ct.mono t.hi _ (by grind) (by omega),λz h1 h2=>?_⟩;have hz:t.hi<z:=by
     rcases Fb z t.hi with e' | e'
     ·rcases Classical.em (z=t.hi) with e'' | e''
      ·rw [e''] at h1; omega
      ·have:=ct.mono z t.hi (by grind) (by omega); omega
     ·exact e'
    rw [hd' z hz (by grind),hone.2]
   ·exact ⟨t.hi,e,λz h1 h2=>hd z (ct.lt w1 h1) h2 h1⟩
  ·rw [if_neg hc];have hle:¬Pz a t:=λh=>by
    rcases c2 with ⟨e,h'⟩ | ⟨e,h'⟩ | ⟨e,_⟩
    ·exact Eu ct ca h' h
    ·obtain ⟨z,z1,z2⟩:=h;have:=h' z; omega
    ·omega
   obtain ⟨r,r1,r2⟩:=ih (λx hx=>hV x (Qf _ hx)) hhi λz z1 z2=>by
    have hz:Uz t z≠1:=λh=>hle ⟨z,z1,h⟩
    have hzl:t.lo<z:=by
     rcases Fb z t.lo with e | e
     ·refine absurd ?_ hz;rw [ect]; exact Lf e
     ·exact e
    exact ht'.eq_hi hzl z2 (by rw [<-ect]; exact hz)
   refine ⟨r,r1,?_⟩;cases r with
   | none=>exact r2
   | some x=>exact ⟨Qf _ r2.1,r2.2⟩
theorem Qkp {c:Rat->Int} (hc:Cut c):∀ (n:Nat) (f:Uc),HD f n->∃ s,s≠0/\RS f c s
 |
  n,f,h=>by
  rcases QS hc f with hv | ⟨s,hs,hn⟩
  ·cases n with
   |
    zero =>
    exfalso;obtain ⟨q,hq,_⟩:=jY hc (hv (Uw (f.getD 0 0)) (Nj h.1));cases f with
    | nil=>exact h.1 (by simp)
    |
     cons a l =>
     have:=Cd (p:=l) λk=>by have:=h.2 (k+1) (by omega); rwa [Q3] at this
     simp only [ev,this,Zn] at hq; grind
   |
    succ n =>
    have hd:HD (Mg f) n:=by
     have key:∀ (f:Uc) (k:Nat),(Mg f).getD k 0=((k+1:Nat):Rat)*f.getD (k+1) 0:=by
      intro f
      induction f with
      | nil=>intro k; simp only [Mg,Kb]; grind
      |
       cons a f ih =>
       intro k;simp only [Mg];rw [Hf,Q3];cases k with
       | zero=>rw [Zn]; push_cast; grind
       | succ k=>rw [Q3,ih]; push_cast; grind
     refine ⟨λh0=>?_,λk hk=>by rw [key,h.2 (k+1) (by omega)]; grind⟩;rw [key] at h0;rcases Yq.1 h0 with h1 | h1
     ·have:=nat_pos (show 0<n+1 by omega); grind
     ·exact h.1 h1
    obtain ⟨s,hs,h1⟩:=Qkp hc n (Mg f) hd;exact ⟨s,hs,IE hc hv h1 hs⟩
  ·exact ⟨s,hs,DI hc hn⟩
theorem Qdi {c:Rat->Int} (hc:Cut c) {f p q:Uc} {s s':Int} (hf:∀ t,ev f t=ev p t*ev q t) (h:RS p c s) (h':RS q c s'):RS f c (s*s'):=by
 obtain ⟨y,h1,h2⟩:=h;obtain ⟨y',h3,h4⟩:=h';refine ⟨if y<=y' then y else y',by split <;> assumption,λz z1 z2=>?_⟩;rw [hf,Rw,h2 z z1 (by clear h2 h4; grind),h4 z z1 (by clear h2 h4; grind)]
theorem Qdj {c:Rat->Int} (hc:Cut c) {f o S:Uc} {k:Rat} (hk:k≠0) (hf:∀ t,ev f t=k*(ev o t*(ev S t*ev S t))) (hnz:¬∀ t,ev f t=0) {s:Int} (h:RS o c s):RS f c (Us k*s):=by
 obtain ⟨n,_,hn⟩:∃ n,n<S.length/\HD S n:=by
  rcases SC S with h1 | h1
  ·exact absurd (λt=>by rw [hf,h1]; grind) hnz
  ·exact h1
 obtain ⟨s',hs',h'⟩:=Qkp hc n S hn;have h1:=Qdi hc (f:=Gb S S) (λt=>Ut t _ _) h' h';have h2:=Qdi hc (f:=Gb o (Gb S S)) (λt=>Ut t _ _) h h1;have hsq:s'*s'=1:=by
  obtain ⟨y,y1,y2⟩:=h';have:=y2 y y1 Qo;rcases U7 (ev S y) with ⟨e,_⟩ | ⟨e,_⟩ | ⟨e,_⟩
  ·rw [<-this,e]; rfl
  ·omega
  ·rw [<-this,e]; rfl
 rw [hsq,Int.mul_one] at h2;obtain ⟨y,y1,y2⟩:=h2;exact ⟨y,y1,λz z1 z2=>by
  have:=y2 z z1 z2;rw [Ut,Ut] at this;rw [hf,Rw,this]⟩
structure Cp (p:List Int):Prop where
 t:Uu p
 l:p.length<=9
 b:Bd 1110 p
theorem Cp.dp {p:W9} (h:Cp p):Dp p:=⟨h.t,h.l,Uk h.b (by omega)⟩
theorem Cp.ok {p:W9} (h:Cp p) (h0:p.length≠0):Okp 9 1180 p:=h.dp.ok h0
def Leq (a:Tm) (c:Rat->Int):Prop:=∀ q,c q=-1->Uz a q=-1
def Pe (p:W9) (a:Tm):Option Tm->Prop
 | none=>p=[]\/∃ s,s≠0/\∀ c,Cut c->Leq a c->RS (cz p) c s
 | some t=>p≠[]/\Va t/\Pz a t/\∃ s,s≠0/\(∀ c,Cut c->Leq a c->(∃ m,c m=-1/\Uz t m=1)->RS (cz p) c s)/\RS (cz p) (Uz t) (-s)
theorem RI.len {q:W9} {L:Ud} {lo hi:Rat} {l:List Tm} (h:RI q L lo l hi):l.length+vv L hi<=vv L lo:=by
 induction h with
 | nil h hv=>simp; omega
 | cons h hv ht hp hl ih=>have:=ht.v; simp only [Q7]; omega
theorem Qd8 (x:Rat):∀ (L:Ud) (s:Int),tc x s L<=L.length
 | [],_=>Qn _
 |
  f::l,s=>by
  have h1:=Qd8 x l;simp only [tc,Q7]
  repeat' split
  all_goals (first | (have:=h1 s; omega) | (have:=h1 (Us (ev f x)); omega))
theorem Qoc (L:Ud) (x:Rat):vv L x<=L.length:=Qd8 x L 0
theorem QT {p:W9} (h:Cp p):∃ l,JE p=some l/\l.length≤67/\(∀ t∈l,Va t)/\∀ a,Va a->∃ r,XV a l=some r/\Pe p a r/\∀ t,r=some t->t∈l:=by
 unfold JE;by_cases h0:p.length=0
 ·have e:p=[]:=Qh h0;subst e;exact ⟨[],rfl,by decide,(λt ht=>by cases ht),λa _=>⟨none,rfl,.inl rfl,λt ht=>by cases ht⟩⟩
 ·obtain ⟨qp,o,q1,o1,hpt⟩:=Qcg (n:=9) (s:=1110) (p:=p) ⟨⟨by decide,by decide⟩,h.t,h0,h.l,h.b⟩;obtain ⟨g,sq⟩:=hpt.sq;obtain ⟨S,hS⟩:=hpt.os;obtain ⟨p1,p2,p3,p4,p5,p6,p7⟩:=Nh h.t h0;have hpl:=h.l;obtain ⟨hh,th,eh⟩:=hpt.oh;have bo:Bd 1179 o:=Oh (p5 1110 h.b) (by omega) p1 hpt.ot th (by omega) eh;obtain ⟨lo1,lo2⟩:=Hx p1 (by omega) eh;have hlen:=S7 hpt.ot th p1 eh lo1 lo2;have oko:Okp 9 1180 o:=⟨mJ,hpt.ot,by omega,by omega,Uk bo (by omega)⟩;obtain ⟨q,c,l,r1,r2,r3,hSt,hRI,hVa,hout⟩:=Qdf oko;obtain ⟨g',q',s1,s2⟩:=ZR oko;rw [r1] at s1;injection s1 with s1;subst s1;obtain ⟨_,_,_,_,_,o6,o7⟩:=Nh hpt.ot (by omega);have hg1:g'=[1]:=by
   refine s2.pg.one ?_;obtain ⟨E,hE⟩:=hpt.oq;have hE:∀ t,Up qp t=Up o t*ev E t:=λt=>by have:=hE t; rwa [Uq,Uq] at this
   obtain ⟨z,hz⟩:=s2.d;have hd1:∀ t,Up o t=Up g' t*(Gs o*Up q t):=λt=>by rw [o7,s2.e]; grind
   have hdo:∀ t,dv (cz o) t=Up g' t*(Gs o*ev z t):=λt=>by
    have:=Qab (p:=cz o) (q:=B7 (Gs o) (cz (Uv o))) (λt=>by rw [Uq,Fp,Uq,o7]) t;rw [this,WG,hz]; grind
   obtain ⟨k,hk,hkk⟩:=sq.num (d:=cz g') ⟨Gb (B7 (Gs o) (cz q)) E,λt=>by rw [Uq,Uq,hE,hd1,Ut,Fp,Uq]; grind⟩ ⟨Ru (Gb (B7 (Gs o) z) E) (Gb (B7 (Gs o) (cz q)) (Mg E)),λt=>by
    have:=Ig (f:=cz qp) (w:=cz o) (u:=E) (λt=>by rw [Uq,Uq,hE]) t;rw [H9,this,hdo,Uq,Uq,hd1,Fz,Ut,Ut,Fp,Fp,H9,Uq]; grind⟩
   rcases Zc g'.length 2 with e | e
   ·exact e
   ·exfalso;have h1:=(FG s2.pg.t (by omega)).1;have h2:=Bw (p:=cz g') (q:=[k]) (λt=>by rw [hkk]; simp only [ev]; grind) (g'.length-1);rw [h2,Qj,Q0 (by simp; omega)] at h1;exact h1 rfl
  have hpq:∀ t,ev (cz p) t=((Gs p:Rat)*(Gs o:Rat))*(ev (cz q) t*(ev S t*ev S t)):=λt=>by
   rw [Uq,Uq,p7,hS,o7,s2.e,hg1,P5]; grind
  have hk0:(Gs p:Rat)*(Gs o:Rat)≠0:=λh=>(Yq.1 h).elim (On p6) (On o6)
  have hpz:¬∀ t,ev (cz p) t=0:=λh'=>FY h.t (by omega) λt=>by rw [<-Uq]; exact h' t
  obtain ⟨k,hk⟩:=nmE (Us ((Gs p:Rat)*(Gs o:Rat)));have hkn:k≠0:=λh=>hk0 (Fj.1 (by rw [<-hk]; exact h))
  have ho:o.length≠0:=by omega
  rw [o1];show ∃ l,(if o.length=0 then some [] else FB o)=some l/\l.length<=67/\_;rw [if_neg ho];have hb1:=KI (Du s2.pq.t s2.pq.n);have hll:=hRI.len;have hlv:=Qoc (c.map cz) (-Fy q);have hcl:=(Orr.chain_ok (p:=o) ⟨hpt.ot,by omega,Uk bo (by omega)⟩ r2).1;rw [Zp] at hlv;refine ⟨l,r3,by omega,hVa,λa ha=>?_⟩;obtain ⟨r,n1,n2⟩:=dW hSt ha hRI hVa (λz hz=>(hout _ _ hz (.inl Qo)).symm) λz _ hz=>by
   rcases Classical.em (z=-Fy q) with e | e
   ·rw [e]
   ·exact hout z _ (by grind) (.inr Qo)
  refine ⟨r,n1,?_,λt ht=>by subst ht; exact n2.1⟩;cases r with
  |
   none =>
   obtain ⟨s,hs,hz⟩:=n2;refine .inr ⟨k*s,Vv hkn hs,λc hc hac=>?_⟩;obtain ⟨y,hy⟩:=hc.hi;have h1:RS (cz q) c s:=⟨y,hy,λz z1 _=>hz z (hac z z1)⟩;rw [hk]; exact Qdj hc hk0 hpq hpz h1
  |
   some t =>
   obtain ⟨hm,hlt,s,hs,hz,hrs⟩:=n2;refine ⟨λe=>h0 (by rw [e]; rfl),hVa t hm,hlt,k*s,Vv hkn hs,λc hc hac ⟨m,m1,m2⟩=>?_,?_⟩
   ·have h1:RS (cz q) c s:=⟨m,m1,λz z1 z2=>hz z (hac z z1) (by
     rcases Classical.em (z=m) with e | e
     ·rw [e]; exact m2
     ·exact (hVa t hm).cut.mono' (q:=z) (r:=m) (by grind) (by omega))⟩
    rw [hk]; exact Qdj hc hk0 hpq hpz h1
   ·have:=Qdj (hVa t hm).cut hk0 hpq hpz hrs;rw [<-hk] at this;rw [show -(k*s)=k*-s by rw [Wu]]; exact this
structure Sz (s n:Nat) (t:Tm):Prop where
 n:t.p.length<=n
 b:Bd (s+138) t.p
 g:∃ D M k,Gr D M k t.lo/\Gr D M k t.hi/\0<M/\U0 (D:Int)<=s+138/\U0 (M:Int)<=s+139/\k<=63*s+9507
theorem Qcc {p:W9} (h:Cp p) {a:Tm} (ha:Va a):∃ r,FT p a=some r/\Pe p a r:=by
 obtain ⟨l,l1,_,_,l3⟩:=QT h;obtain ⟨r,r1,r2,_⟩:=l3 a ha;refine ⟨r,?_,r2⟩;unfold FT;rw [l1]; exact r1
theorem WA:∀ (l:List Tm) (b:Tm),(∀ t∈b::l,Va t)->∃ m,Il b l=some m/\m∈b::l/\∀ t∈b::l,¬Pz t m
 |
  [],b,h=>⟨b,rfl,Qx ..,λt ht h'=>by
  rw [Ql.1 ht] at h';have hb:=(h b (Qx ..)).cut;exact Eu hb hb h' h'⟩
 |
  a::l,b,h=>by
  have ha:=h a (by simp);have hb:=h b (by simp);obtain ⟨c,c1,c2⟩:=YS ha hb;obtain ⟨m,m1,m2,m3⟩:=WA l (if c<0 then a else b) λt ht=>by
   rcases Qk.1 ht with rfl | ht
   ·split <;> assumption
   ·exact h t (by simp [ht])
  refine ⟨m,by simp only [Il]; rw [c1]; exact m1,?_,λt ht=>?_⟩
  ·rcases Qk.1 m2 with e | e
   ·rw [e]; split <;> simp
   ·simp [e]
  ·have hm:Va m:=by
    rcases Qk.1 m2 with e | e
    ·rw [e]; split <;> assumption
    ·exact h m (by simp [e])
   have hfst:=m3 _ (Qx ..);have tr:∀ x y:Tm,Va x->Va y->¬Pz x y->¬Pz y m->¬Pz x m:=λx y hx hy h1 h2 h3=>by
    rcases tri hy.cut hm.cut with h4 | h4 | h4
    ·exact h2 h4
    ·obtain ⟨q,q1,q2⟩:=h3;exact h1 ⟨q,q1,by rw [h4]; exact q2⟩
    ·obtain ⟨q,q1,q2⟩:=h3;obtain ⟨r,r1,r2⟩:=h4;have:=hm.cut.lt q2 r1;exact h1 ⟨q,q1,hy.cut.mono' this (by omega)⟩
   rcases Qk.1 ht with rfl | ht
   ·by_cases hc:c<0
    ·rw [if_pos hc] at hfst;refine tr _ a hb ha ?_ hfst;rcases c2 with ⟨_,h'⟩ | ⟨e,_⟩ | ⟨e,_⟩
     ·exact λh''=>Eu ha.cut hb.cut h' h''
     ·omega
     ·omega
    ·rw [if_neg hc] at hfst; exact hfst
   ·rcases Qk.1 ht with rfl | ht
    ·by_cases hc:c<0
     ·rw [if_pos hc] at hfst; exact hfst
     ·rw [if_neg hc] at hfst;refine tr _ b ha hb ?_ hfst;rcases c2 with ⟨e,_⟩ | ⟨_,h'⟩ | ⟨_,h'⟩
      ·omega
      ·rintro ⟨q,q1,q2⟩
       have:=h' q; omega
      ·exact λh''=>Eu ha.cut hb.cut h'' h'
    ·exact m3 t (by simp [ht])
end Orq
namespace Orr
open Go Go.Proofs Tryz Orq
set_option maxRecDepth 10000
theorem Dp.pb {p:W9} (h:Dp p):Pb p:=⟨h.t,by have:=h.l; omega,Uk h.b (by have:=h.l; omega)⟩
theorem Qo4 {p:W9} {a:Tm} (hp:Dp p) (ha:Va a):W6 214 [pr p,.agg (ta a)] [.oi (U4 a p)]:=Qfj (Dp.pb hp) ha.tb (Qdn hp ha).1
theorem Qox {p:W9} {a:Tm} (hp:Dp p) (ha:Va a):W6 213 [pr p,.one (.sh (ta a))] [.oi (U4 a p)]:=W3 func213 rfl [.k (Qo4 hp ha)] rfl
theorem Qgc {p:W9} {fid:Nat} {l1:Ue} {sgn:W9->Int} (hp:Dp p) (h:∀ p,Dp p->NX prog fid [pr p,.one (.sh l1)] [.oi (sgn p)]):W6 212 [pr p,.one (.fn fid [] [.sh l1])] [.oi (Ri sgn p.length p)]:=by
 have hpb:=Dp.pb hp;refine Fl func212 rfl ?_;refine Wy [.k (G0 hpb.t hpb.ln hpb.bd)] rfl ?_;refine W5 (S:=W9) 0 (λL1 s=>(0,.v (pr s))::L1) (λ_=>[]) (λs=>s.length) (λs=>Dp s/\Ri sgn s.length s=Ri sgn p.length p) p ⟨hp,rfl⟩ rfl rfl λr ⟨j1,j4⟩=>?_
 rw [<-j4];have jb:=Dp.pb j1;by_cases h0:r.length=0
 ·have e:=zI sgn h0;rw [e];exact W0 [.f (by simp; exact Qh h0)] rfl
 ·have hs:=h r j1;by_cases hz:sgn r=0
  ·have hlp:=Cg r;refine Wy [.t (by simp; omega),.k hs,.f (by simpa using hz),.k (E9 jb.ln jb.bd)] rfl ?_;exact rd (Gj r) (by omega) ⟨j1.der,by rw [<-zA sgn (by omega) hz]⟩ rfl
  ·rw [zE sgn (by omega) hz];exact W0 [.t (by simp; omega),.k hs,.t (by simpa using hz)] rfl
abbrev gmA (a:Tm) (p:W9):Int:=Gn (U4 a) p
theorem FX {p:W9} {a:Tm} (hp:Dp p) (ha:Va a):W6 172 [pr p,.agg (ta a)] [.oi (gmA a p)] :=
 W3 func172 rfl [.k (Qgc (sgn:=U4 a) hp λ_ h=>Qox h ha)] rfl
theorem qD {t:Tm} {a b:Pt} {ps:Ua} (hps:∀ p∈ps,Dp p) (ht:Va t) (hl:ps.length<1000):W6 247 [.agg (ta t),.agg (Ur a),.agg (Ur b),.one (.row (Tn ps))] [.one (.bool (Da (U4 t) a b ps))]:=by
 refine Fl func247 rfl ?_;have hpl:(Tn ps).length=ps.length:=by simp [Tn]
 refine Wy [] rfl ?_;refine W5 (S:=Nat) 3 (λL1 i=>(13,.v (.oi i))::L1) (λ_=>[.blk 189 (ta t),.blk 41 (Ur a),.blk 41 (Ur b)]) (λi=>ps.length-i) (λi=>i<=ps.length/\Da (U4 t) a b (ps.drop i)=Da (U4 t) a b ps) 0 ⟨Qi _,rfl⟩ rfl rfl λi ⟨hi,he⟩=>?_
 rw [<-he];by_cases hlt:i<ps.length
 ·obtain ⟨p,hp⟩:=gxE (l:=ps) (i:=i) hlt;have hd:ps.drop i=p::ps.drop (i+1):=by
   rw [Zz hlt];rw [Qe hlt] at hp; injection hp with hp; rw [hp]
  have hpb:=hps p (Qa hp);rw [hd] at he ⊢;by_cases h0:0<p.length
  ·exact W0 [.t (by simp [hpl]; omega),.x (Hh hp),.t (by simp; omega),.k (FX hpb ht)] rfl (by simp only [Da]; rw [if_pos h0]) trivial
  ·refine Wz [.t (by simp [hpl]; omega),.x (Hh hp),.f (by simp; exact Qh (by omega))] rfl ?_;exact rd (i+1) (by omega) ⟨hlt,by simp only [Da]; rw [if_neg h0]⟩ rfl
 ·have hd:ps.drop i=[]:=V8 (by omega);rw [hd];exact W0 [.f (by simp [hpl]; omega)] rfl
structure Sc (k:Crv):Prop where
 n:I2 k
 c:Cs 128 3 k
theorem Sc.cb {k:Crv} (h:Sc k):Cb k:=h.c.mono (by omega) (by omega)
theorem Pl {a b:Crv} (ha:Sc a) (hb:Sc b):Cp (Fg a b):=by
 refine ⟨Fc _ _,?_,Uk (Bs (Fi hb.c.x ha.c.d) (Fi ha.c.x hb.c.d)) (by omega)⟩;have:=Po (Fh b.x a.d) (Fh a.x b.d);have:=U8 b.x a.d; have:=U8 a.x b.d; have:=ha.c.lx; have:=hb.c.lx;unfold Fg; omega
theorem Pk {a b:Crv} (ha:Sc a) (hb:Sc b):Cp (Ff a b):=by
 refine ⟨Fc _ _,?_,Uk (Bs (Fi hb.c.y ha.c.d) (Fi ha.c.y hb.c.d)) (by omega)⟩;have:=Po (Fh b.y a.d) (Fh a.y b.d);have:=U8 b.y a.d; have:=U8 a.y b.d; have:=ha.c.ly; have:=hb.c.ly;unfold Ff; omega
theorem Qfk {a b:Pt} {t:Tm} (ha:Sc a.c) (hb:Sc b.c) (ht:Va t):W6 204 [.agg (Ur a),.agg (Ur b),.agg (ta t)] [.one (.bool (M3 (U4 t) a b))] :=
 W3 func204 rfl [.k (YW hb.n ha.n hb.cb ha.cb),.k (YF hb.n ha.n hb.cb ha.cb),.k (qD (t:=t) (a:=a) (b:=b) (ps:=[Ff b.c a.c,Fg b.c a.c]) (λp hp=>by
  simp at hp;rcases hp with rfl | rfl
  ·exact (Pk hb ha).dp
  ·exact (Pl hb ha).dp) ht (show 2<1000 by decide))] rfl
theorem eK {a b:Pt} {t:Tm} (ha:Sc a.c) (hb:Sc b.c) (ht:Va t):W6 203 [.agg (Ur a),.agg (Ur b),.agg (ta t)] [.one (.bool (Rh (U4 t) a b))] :=
 W3 func203 rfl [.k (YF ha.n hb.n ha.cb hb.cb),.k (YW ha.n hb.n ha.cb hb.cb),.k (qD (t:=t) (a:=a) (b:=b) (ps:=[Fg a.c b.c,Ff a.c b.c]) (λp hp=>by
  simp at hp;rcases hp with rfl | rfl
  ·exact (Pl ha hb).dp
  ·exact (Pk ha hb).dp) ht (show 2<1000 by decide))] rfl
theorem Qkz (q:Rat) {P:Prop} (h:(tq q).point=false):P:=by
 have e:(tq q).point=true:=S8.2 Qo;rw [e] at h; cases h
theorem Qmz (q:Rat):lim (tq q)=3300000:=by unfold lim; rw [if_pos (S8.2 Rat.le_refl)]
theorem NC {q:Rat} (hq:Qs 1640000 q):Va (tq q):=by
 have hd:=q.den_nz;refine ⟨.inl ⟨rfl,?_⟩,Qi4 q,by show 2<=9; omega,by show 2<=2; omega,Qos (hq.mono (by omega)),Qkz q,Qkz q,q.den,q.num.natAbs+1,0,?_,?_,by omega,?_⟩
 ·have e:(q.num:Rat)=q*(q.den:Rat):=by
   have:(q.num:Rat) / (((q.den:Int)):Rat)=q:=by rw [G9,X2]
   have h2:(q.num:Rat) / (q.den:Rat)*(q.den:Rat)=q.num:=Zd (by have:=Orq.nat_pos q.den_pos; grind);rw [show (q.num:Rat) / (q.den:Rat)=q from this] at h2; exact h2.symm
  show Up [-q.num,(q.den:Int)] q=0;simp only [Up];rw [Vz,e,show (((q.den:Int)):Rat)=(q.den:Rat) from rfl]; grind
 all_goals first | (have h1:U0 (q.den:Int)<=1640000:=hq.2; have h2:U0 ((q.num.natAbs+1:Nat):Int)<=1640001:=cO hq.1; rw [Qmz]; omega) | skip
 all_goals
  refine ⟨⟨q.num,?_⟩,?_,q.den_pos⟩
  ·rw [Y4,Yk];have:(q.num:Rat) / (((q.den:Int)):Rat)=q:=by rw [G9,X2]
   have h2:(q.num:Rat) / (q.den:Rat)*(q.den:Rat)=q.num:=Zd (by have:=Orq.nat_pos q.den_pos; grind);rw [show (q.num:Rat) / (q.den:Rat)=q from this] at h2; exact h2
  ·have h1:Uw q<=Uw (q.num:Rat):=by
    have e:(q.num:Rat)=q*(q.den:Rat):=by
     have:(q.num:Rat) / (((q.den:Int)):Rat)=q:=by rw [G9,X2]
     have h2:(q.num:Rat) / (q.den:Rat)*(q.den:Rat)=q.num:=Zd (by have:=Orq.nat_pos q.den_pos; grind);rw [show (q.num:Rat) / (q.den:Rat)=q from this] at h2; exact h2.symm
    rw [e,Ek];have hd1:(1:Rat)<=(q.den:Rat):=by
     have:((1:Nat):Rat)<=(q.den:Rat):=Zh.2 q.den_pos;exact this
    have e2:Uw (q.den:Rat)=(q.den:Rat):=by unfold Uw; rw [if_neg (by grind)]
    rw [e2];have:=Nc (a:=Uw q) (c:=1) (Gz q) Qo (by decide) hd1;grind
   rw [Ry] at h1;refine Zg h1 (Zh.2 (by omega))
theorem QE {p q:W9} (hp:Cp p) (hq:Cp q):Cp (C0 p q):=by unfold C0; split <;> assumption
theorem rL {a b:Pt} {t:Tm} (ha:Sc a.c) (hb:Sc b.c) (ht:Va t):W6 167 [.oi 1,.agg (ta t),.one (.row [Ur a,Ur b])] [.agg (C9 (Iq (U4 t) a b)),.oi 0]:=by
 have h1:=Pl ha hb;have h2:=Pk ha hb;refine Fl func167 rfl ?_;refine Wy [.k cZ,.f rfl] rfl ?_;refine W5 (S:=Nat) 3 (λL1 i=>(22,.v (.oi i))::L1) (λi=>[.blk 189 (ta t),.blk 126 lF,.blk 126 [.int .i64 1,.int .i64 (if 1<=i then a.id else 0),.int .i64 (if 2<=i then b.id else 0),.int .i64 0,.int .i64 0,.nils,.int .i64 0]]) (λi=>2-i) (λi=>i<=2) 0 (Qi _) rfl rfl λi hi=>?_
 rcases (show i=0\/i=1\/i=2 by omega) with rfl | rfl | rfl
 ·refine Wy [.t rfl,.x (i:=0) (xs:=Ur a) rfl,.i 0] rfl ?_ (by simp [Ul]);exact rd 1 (by omega) (by omega) rfl
 ·refine Wy [.t rfl,.x (i:=1) (xs:=Ur b) rfl,.i 1] rfl ?_ (by simp [Ul]);exact rd 2 (by omega) (by omega) rfl
 ·exact W0 [.f rfl,.t rfl,.x (i:=0) (xs:=Ur a) rfl,.x (i:=1) (xs:=Ur b) rfl,.k (YF ha.n hb.n ha.cb hb.cb),.x (i:=0) (xs:=Ur a) rfl,.x (i:=1) (xs:=Ur b) rfl,.k (YW ha.n hb.n ha.cb hb.cb),.k qB,.k (FX (QE h1 h2).dp ht)] rfl
end Orr
namespace Orr
variable {α:Type}
def Dc (lt:α->α->Bool) (out:List α) (x:α):Nat->Nat
 | 0=>0
 |
  k+1=>match out[k]? with
  | some y=>if lt x y=true then Dc lt out x k else k+1
  | none=>k+1
theorem IF (lt:α->α->Bool) (out:List α) (x:α):∀ k,Dc lt out x k<=k
 | 0=>Qn _
 |
  k+1=>by
  simp only [Dc]
  split
  ·split
   ·exact Nat.le_succ_of_le (IF lt out x k)
   ·exact Qn _
  ·exact Qn _
theorem mT {lt:α->α->Bool} {out:List α} {x y:α} {k:Nat} (hx:out[k]? = some y) (h:lt x y=true):Dc lt out x (k+1)=Dc lt out x k:=by
 simp only [Dc,hx,h,if_true]
theorem jA {lt:α->α->Bool} {out:List α} {x y:α} {k:Nat} (hx:out[k]? = some y) (h:lt x y=false):Dc lt out x (k+1)=k+1:=by
 simp [Dc,hx,h]
def C5 (lt:α->α->Bool) (out:List α) (x:α):List α:=out.take (Dc lt out x out.length)++x::out.drop (Dc lt out x out.length)
theorem Qbf (lt:α->α->Bool) (out:List α) (x:α):(C5 lt out x).length=out.length+1:=by
 have:=IF lt out x out.length;simp [C5]; omega
theorem VZ {lt:α->α->Bool} {out:List α} {x y:α}:y∈C5 lt out x↔y=x\/y∈out:=by
 have h:y∈out↔y∈out.take (Dc lt out x out.length)\/y∈out.drop (Dc lt out x out.length):=by
  rw [<-Qr,Ze]
 simp only [C5,Qr,Qk,h];constructor
 ·rintro (h | h | h)
  ·exact .inr (.inl h)
  ·exact .inl h
  ·exact .inr (.inr h)
 ·rintro (h | h | h)
  ·exact .inr (.inl h)
  ·exact .inl h
  ·exact .inr (.inr h)
def Dl (lt:α->α->Bool) (l:List α):List α:=l.foldl (C5 lt) []
theorem gK (lt:α->α->Bool) (l:List α) (x:α):Dl lt (l++[x])=C5 lt (Dl lt l) x:=by simp [Dl,Vf]
theorem gW {lt:α->α->Bool} {l:List α} {i:Nat} {x:α} (h:l[i]? = some x):Dl lt (l.take (i+1))=C5 lt (Dl lt (l.take i)) x:=by
 rw [Z5,h]; exact gK _ _ _
theorem SR (lt:α->α->Bool):∀ (l acc:List α),(l.foldl (C5 lt) acc).length=acc.length+l.length
 | [],acc=>by simp
 | c::l,acc=>by simp only [Z4]; rw [SR lt l (C5 lt acc c),Qbf]; simp; omega
theorem LJ (lt:α->α->Bool) (l:List α):(Dl lt l).length=l.length:=by unfold Dl; rw [SR]; simp
theorem XE (lt:α->α->Bool):∀ (l acc:List α) {y:α},y∈l.foldl (C5 lt) acc↔y∈l\/y∈acc
 | [],acc,y=>by simp
 |
  c::l,acc,y=>by
  simp only [Z4];rw [XE lt l,VZ,Qk];constructor
  ·rintro (h | h | h)
   ·exact .inl (.inr h)
   ·exact .inl (.inl h)
   ·exact .inr h
  ·rintro ((h | h) | h)
   ·exact .inr (.inl h)
   ·exact .inl h
   ·exact .inr (.inr h)
theorem dE {lt:α->α->Bool} {l:List α} {y:α}:y∈Dl lt l↔y∈l:=by
 unfold Dl; rw [XE]; simp
end Orr
namespace Orr
open Go Orq
structure Wt where
 c:Ct
 known:Bool
 fails:Option Tm
def f0:Option Tm->LV | none=>.row [] | some t=>pl t.p
def f1:Option Tm->LV | none=>.bool false | some t=>sg t.lo.num
def f2:Option Tm->LV | none=>.row [] | some t=>mg t.lo.num
def f3:Option Tm->LV | none=>.bool false | some t=>sg (t.lo.den:Int)
def f4:Option Tm->LV | none=>.row [] | some t=>mg (t.lo.den:Int)
def f5:Option Tm->LV | none=>.bool false | some t=>sg t.hi.num
def f6:Option Tm->LV | none=>.row [] | some t=>mg t.hi.num
def f7:Option Tm->LV | none=>.bool false | some t=>sg (t.hi.den:Int)
def f8:Option Tm->LV | none=>.row [] | some t=>mg (t.hi.den:Int)
abbrev fl (o:Option Tm):Ue:=[f0 o,f1 o,f2 o,f3 o,f4 o,f5 o,f6 o,f7 o,f8 o]
abbrev wl (w:Wt):Ue:=[.int .i64 w.c.kind,.int .i64 w.c.i0,.int .i64 w.c.i1,.int .i64 w.c.i2,.int .i64 w.c.i3,pl w.c.p,.int .i64 w.c.want,.bool w.known,.bool w.fails.isSome,f0 w.fails,f1 w.fails,f2 w.fails,f3 w.fails,f4 w.fails,f5 w.fails,f6 w.fails,f7 w.fails,f8 w.fails]
def Nu (l:List Wt):Uf:=l.map λw=>wl w
theorem G7 {l:List Wt} {i:Nat} {w:Wt} (h:l[i]? = some w):(Nu l)[i]? = some (wl w):=Hj h
theorem Rx (l:List Wt):(Nu l).length=l.length:=by simp [Nu]
structure Cr where
 now:Tm
 l:List Wt
 ev:Int
abbrev Gy (c:Cr) (r0 r1:Uf):Ue:=.bool true::pl c.now.p::sg c.now.lo.num::mg c.now.lo.num::sg (c.now.lo.den:Int)::mg (c.now.lo.den:Int)::sg c.now.hi.num::mg c.now.hi.num::sg (c.now.hi.den:Int)::mg (c.now.hi.den:Int)::.row (Nu c.l)::.int .i64 c.ev::[.row r0,.row r1]
structure WtOk (w:Wt):Prop where
 p:Cp w.c.p
 f:∀ t,w.fails=some t->Va t
structure CrOk (c:Cr):Prop where
 n:Va c.now
 l:∀ w∈c.l,WtOk w
 k:c.l.length<=1000
def yB (a b:Ct):Bool:=decide ([a.kind,a.i0,a.i1,a.i2,a.i3]=[b.kind,b.i0,b.i1,b.i2,b.i3])
def fresh (x:Ct):Wt:=⟨x,false,none⟩
def M9:List Wt->Ct->Tm->Option Wt
 | [],x,_=>some (fresh x)
 |
  w::l,x,at_=>if yB w.c x=true/\w.known=true/\w.c.p=x.p then
   match w.fails with
   | none=>some ⟨x,true,none⟩
   | some t=>(YT t at_).bind λc=>if 0<c then some ⟨x,true,some t⟩ else M9 l x at_
  else M9 l x at_
def H5 (old:List Wt) (at_:Tm):List Ct->Option (List Wt)
 | []=>some []
 | x::l=>(M9 old x at_).bind λw=>(H5 old at_ l).bind λr=>some (w::r)
end Orr
namespace Orr
open Go Go.Proofs Tryz Orq
set_option maxRecDepth 10000
theorem Ib {T:Nat} {c:Cr} {r0 r1:Uf} (hc:Va c.now):Uo prog 376 [.one (.ow 0 0)] [.blk T (Gy c r0 r1)] [.agg (ta c.now)] [.blk T (Gy c r0 r1)]:=by
 have cl:=Tk (b:=c.now) (l:=[]) hc.tb (λt ht=>by cases ht) (by decide) rfl;refine Fl func376 rfl ?_;exact W4 [] [0] [.f rfl,.k cl] rfl
theorem Qll {T:Nat} {c:Cr} {r0 r1:Uf} {x:Ct} {at_:Tm} {w:Wt} (hc:CrOk c) (hx:Cp x.p) (ha:Va at_) (h:M9 c.l x at_=some w):Uo prog 195 [.one (.ow 0 0),.agg (C9 x),.agg (ta at_)] [.blk T (Gy c r0 r1)] [.agg (wl w)] [.blk T (Gy c r0 r1)]:=by
 have hk:=hc.k;have hw:=Rx c.l;refine Fl func195 rfl ?_;refine Wy [] rfl ?_;refine W5 (S:=Nat) 4 (λL1 i=>(14,.v (.oi i))::L1) (λ_=>[.blk T (Gy c r0 r1),.blk 126 (C9 x),.blk 189 (ta at_),.blk 291 [.int .i64 0,.int .i64 0,.int .i64 0,.int .i64 0,.int .i64 0,.nils,.int .i64 0,.bool false,.bool false,.nils,.bool false,.nils,.bool false,.nils,.bool false,.nils,.bool false,.nils]]) (λi=>c.l.length-i) (λi=>i<=c.l.length/\M9 (c.l.drop i) x at_=some w) 0 ⟨Qi _,h⟩ rfl rfl λi ⟨hi,hf⟩=>?_
 by_cases hlt:i<c.l.length
 ·obtain ⟨v,hv⟩:=gxE (l:=c.l) (i:=i) hlt;have hdr:c.l.drop i=v::c.l.drop (i+1):=by
   rw [Zz hlt]; congr 1;have:=Qe hlt; rw [hv] at this; injection this with this; exact this.symm
  have hvo:=hc.l v (Qa hv);rw [hdr] at hf;simp only [M9] at hf;have hl:decide ((i:Int)<((Nu c.l).length:Int))=true:=by simp [hw]; omega
  by_cases A:yB v.c x=true
  ·have A':(!decide ([v.c.kind,v.c.i0,v.c.i1,v.c.i2,v.c.i3]=[x.kind,x.i0,x.i1,x.i2,x.i3]))=false:=by
    unfold yB at A; rw [A]; rfl
   by_cases B:v.known=true
   ·have B':(!v.known)=false:=by rw [B]; rfl
    have cs:=GN (p:=v.c.p) (q:=x.p) (Dp.pb hvo.p.dp).ln (Dp.pb hx.dp).ln (Dp.pb hvo.p.dp).bd (Dp.pb hx.dp).bd;rw [hvo.p.t,hx.t] at cs;by_cases C:v.c.p=x.p
    ·have C':(!decide (v.c.p=x.p))=false:=by simp [C]
     rw [if_pos ⟨A,B,C⟩] at hf;obtain ⟨vc,vk,vf⟩:=v;cases vf with
     |
      none =>
      injection hf with hf; subst hf;exact W4 [] [0] [.t hl,.x (G7 hv),.g 24 false A',.g 29 false B',.k cs,.f C',.g 41 true rfl,.t rfl] rfl
     |
      some t =>
      obtain ⟨r,r1',hf⟩:=Qc.1 hf;have cc:=XT (hvo.f t rfl).tb ha.tb r1';by_cases D:0<r
      ·rw [if_pos D] at hf;injection hf with hf; subst hf;exact W4 [] [0] [.t hl,.x (G7 hv),.g 24 false A',.g 29 false B',.k cs,.f C',.g 41 false rfl,.k cc,.t (by simpa using D)] rfl
      ·rw [if_neg D] at hf;refine Wz [.t hl,.x (G7 hv),.g 24 false A',.g 29 false B',.k cs,.f C',.g 41 false rfl,.k cc,.f (by simpa using D)] rfl ?_;exact rd (i+1) (by omega) ⟨hlt,hf⟩ rfl
    ·rw [if_neg λh=>C h.2.2] at hf;refine Wz [.t hl,.x (G7 hv),.g 24 false A',.g 29 false B',.k cs,.t (by simp [C])] rfl ?_;exact rd (i+1) (by omega) ⟨hlt,hf⟩ rfl
   ·rw [if_neg λh=>B h.2.1] at hf;refine Wz [.t hl,.x (G7 hv),.g 24 false A',.g 29 true (by simpa using B),.t rfl] rfl ?_;exact rd (i+1) (by omega) ⟨hlt,hf⟩ rfl
  ·rw [if_neg λh=>A h.1] at hf;refine Wz [.t hl,.x (G7 hv),.g 24 true (by rw [show decide ([v.c.kind,v.c.i0,v.c.i1,v.c.i2,v.c.i3]=[x.kind,x.i0,x.i1,x.i2,x.i3])=false from Wc.2 A]; rfl),.g 29 true rfl,.t rfl] rfl ?_;exact rd (i+1) (by omega) ⟨hlt,hf⟩ rfl
 ·obtain rfl:i=c.l.length:=by omega
  rw [Yz] at hf;simp only [M9] at hf;injection hf with hf; subst hf;exact W4 [] [0] [.f (by simp [hw])] rfl
theorem Oq {old:List Wt} {at_:Tm}:∀ {l:List Ct} {ws:List Wt},H5 old at_ l=some ws->ws.length=l.length/\∀ (i:Nat) (x:Ct),l[i]? = some x->∃ w,M9 old x at_=some w/\ws[i]? = some w
 | [],ws,h=>by injection h with h; subst h; exact ⟨rfl,λi x hx=>by simp at hx⟩
 |
  y::l,ws,h=>by
  simp only [H5] at h;obtain ⟨w,hw,h⟩:=Qc.1 h;obtain ⟨r,hr,h⟩:=Qc.1 h;injection h with h; subst h;obtain ⟨a,b⟩:=Oq hr;refine ⟨by simp [a],λi x hx=>?_⟩;cases i with
  | zero=>injection hx with hx; subst hx; exact ⟨w,hw,rfl⟩
  | succ i=>exact b i x (by simpa using hx)
theorem Lc {l:List Wt} {i:Nat} {w:Wt} (h:l[i]? = some w):Nu (l.take (i+1))=Nu (l.take i)++[wl w]:=by
 rw [Z5,h]; simp [Nu]
theorem YU {T:Nat} {c:Cr} {r0 r1:Uf} {at_:Tm} {l:List Ct} {ws:List Wt} (hc:CrOk c) (ha:Va at_) (hl:∀ x∈l,Cp x.p) (hn:l.length≤1000) (h:H5 c.l at_ (U6 l)=some ws):Uo prog 161 [.one (.ow 0 0),.agg (ta at_),.one (.bool true),.one (.row (Uy l))] [.blk T (Gy c r0 r1)] [] [.blk T (Gy ⟨at_,ws,c.ev⟩ r0 r1)]:=by
 have cs:=EJ (l:=l) (λx hx=>Dp.pb (hl x hx).dp) (by omega);have cl:=Tk (b:=at_) (l:=[]) ha.tb (λt ht=>by cases ht) (by decide) rfl;obtain ⟨h1,h2⟩:=Oq h;have hs:(U6 l).length=l.length:=Bp l;refine Fl func161 rfl ?_;refine Wy [.o 8 291 18,.k cs] rfl ?_;refine W5 (S:=Nat) 3 (λL1 i=>(15,.v (.oi i))::(8,.v (.one (.orow 2 18 none)))::L1) (λi=>[.blk T (Gy c r0 r1),.blk 189 (ta at_),.row false 291 18 (Nu (ws.take i))]) (λi=>ws.length-i) (λi=>i<=ws.length) 0 (Qi _) rfl rfl λi hi=>?_
 by_cases hlt:i<ws.length
 ·obtain ⟨x,hx⟩:=gxE (l:=(U6 l)) (i:=i) (by omega);obtain ⟨w,hw,hw'⟩:=h2 i x hx;have hm:∀ y∈[wl w],y.length=18:=λy hy=>by rw [Ql.1 hy]; rfl
  have hlt':decide ((i:Int)<((Uy (U6 l)).length:Int))=true:=by simp [Uy]; omega
  have ck:=Qll (T:=T) (r0:=r0) (r1:=r1) hc (hl x (ZH (Qa hx))) ha hw;have hg:=Lc hw';obtain ⟨wc,wk,wf⟩:=w;cases wf <;> (refine go tt [.t hlt',.x (XD hx),.t rfl,.c [0] ck,.s (sz:=18) hm] rfl (by simp [Ul,Rx]; omega) ?_; exact rd (i+1) (by omega) hlt (by rw [hg]; rfl))
 ·obtain rfl:i=ws.length:=by omega
  rw [Q5];have hge:decide ((ws.length:Int)<((Uy (U6 l)).length:Int))=false:=by simp [Uy]; omega
  exact W4 [] [0] [.f hge,.p 2,.k cl] rfl
abbrev wG (r0 r1:LV):Ue:=[.bool false,.nils,.bool false,.nils,.bool false,.nils,.bool false,.nils,.bool false,.nils,.nils,.int .i64 0,r0,r1]
theorem Qfq {T:Nat} {r0 r1:Uf} {at_:Tm} {l:List Ct} (ha:Va at_) (hl:∀ x∈l,Cp x.p) (hn:l.length≤1000):Uo prog 161 [.one (.ow 0 0),.agg (ta at_),.one (.bool false),.one (.row (Uy l))] [.blk T (wG (.row r0) (.row r1))] [] [.blk T (Gy ⟨at_,(U6 l).map fresh,0⟩ r0 r1)]:=by
 have cs:=EJ (l:=l) (λx hx=>Dp.pb (hl x hx).dp) (by omega);have cl:=Tk (b:=at_) (l:=[]) ha.tb (λt ht=>by cases ht) (by decide) rfl;have hs:(U6 l).length=l.length:=Bp l;refine Fl func161 rfl ?_;refine Wy [.o 8 291 18,.k cs] rfl ?_;refine W5 (S:=Nat) 3 (λL1 i=>(15,.v (.oi i))::(8,.v (.one (.orow 2 18 none)))::L1) (λi=>[.blk T (wG (.row r0) (.row r1)),.blk 189 (ta at_),.row false 291 18 (Nu (((U6 l).map fresh).take i))]) (λi=>l.length-i) (λi=>i<=l.length) 0 (Qi _) rfl rfl λi hi=>?_
 by_cases hlt:i<l.length
 ·obtain ⟨x,hx⟩:=gxE (l:=(U6 l)) (i:=i) (by omega);have hm:∀ y∈[wl (fresh x)],y.length=18:=λy hy=>by rw [Ql.1 hy]; rfl
  have hlt':decide ((i:Int)<((Uy (U6 l)).length:Int))=true:=by simp [Uy]; omega
  have hg:=Lc (l:=(U6 l).map fresh) (i:=i) (w:=fresh x) (by rw [Zu,hx]; rfl);refine go tt [.t hlt',.x (XD hx),.z 20,.f rfl,.s (sz:=18) hm] rfl (by simp [Ul,Rx]; omega) ?_;exact rd (i+1) (by omega) hlt (by rw [hg]; rfl)
 ·obtain rfl:i=l.length:=by omega
  rw [Qw (by simp; omega)];have hge:decide ((l.length:Int)<((Uy (U6 l)).length:Int))=false:=by simp [Uy]; omega
  exact W4 [] [0] [.f hge,.p 2,.k cl] rfl
theorem QM {T:Nat} {r0 r1:Uf} {at_:Tm} {l:List Ct} (ha:Va at_) (hl:∀ x∈l,Cp x.p) (hn:l.length≤1000):Uo prog 121 [.one (.ow 0 0),.agg (ta at_),.one (.row (Uy l))] [.blk T (wG (.row r0) (.row r1))] [] [.blk T (Gy ⟨at_,(U6 l).map fresh,0⟩ r0 r1)]:=by
 have cl:=Qfq (T:=T) (r0:=r0) (r1:=r1) ha hl hn;refine Fl func121 rfl ?_;exact W4 [] [0] [.g 12 false rfl,.c [0] cl] rfl
theorem eB {a b:Bool} (h:a=b):TV.one (LV.bool a)=.one (.bool b):=h ▸ rfl
theorem QN {T:Nat} {c:Cr} {r0 r1:Uf} {at_:Tm} {l:List Ct} {ws:List Wt} {k:Int} (hc:CrOk c) (ha:Va at_) (hk:YT at_ c.now=some k) (h0:0≤k) (hl:∀ x∈l,Cp x.p) (hn:l.length≤1000) (h:H5 c.l at_ (U6 l)=some ws):Uo prog 121 [.one (.ow 0 0),.agg (ta at_),.one (.row (Uy l))] [.blk T (Gy c r0 r1)] [] [.blk T (Gy ⟨at_,ws,c.ev⟩ r0 r1)]:=by
 have cl:=YU (T:=T) (r0:=r0) (r1:=r1) hc ha hl hn h;have cc:=XT ha.tb hc.n.tb hk;refine Fl func121 rfl ?_;exact W4 [] [0] [.g 12 true rfl,.k cc,.r 20 (eB (show decide (0<=k)=true by simpa using h0)),.c [0] cl] rfl
theorem HV:∀ {k:Nat} {g:W9} {l:Ua},Pb g->WE k g=some l->l.length≤k/\∀ p∈l,Pb p
 | 0,_,_,_,h=>by cases h
 |
  k+1,g,l,hg,h=>by
  simp only [WE] at h
  split at h
  ·injection h with h; subst h; exact ⟨by simp,λp hp=>by cases hp⟩
  ·obtain ⟨d,hd,h⟩:=Qc.1 h;obtain ⟨rfl,hdp⟩:=PL hd;obtain ⟨x,hx,h⟩:=Qc.1 h;obtain ⟨q,hq,h⟩:=Qc.1 h;obtain ⟨r,hr,h⟩:=Qc.1 h;injection h with h; subst h;obtain ⟨i1,i2⟩:=HV (UK hg hdp hx) hr;refine ⟨by simp; exact i1,λp hp=>?_⟩;rcases Qk.1 hp with rfl | hp
   ·exact fQ hq
   ·exact i2 p hp
theorem iK {a:W9} {l:Ua} (ha:Pb a) (h:WE 66 (Uv a)=some l):W6 389 [pr a] [.one (.row (Tn l))]:=by
 have hp:=Hn ha;refine Fl func389 rfl ?_;refine Wy [.o 3 34 1,.k (Ec ha)] rfl ?_;refine W5 (S:=Nat×Ua×W9) 1 (λL1 s=>(4,.v (pr s.2.2))::(3,.v (.one (.orow 0 1 none)))::L1) (λs=>[.row false 34 1 (Tn s.2.1)]) (λs=>s.1) (λs=>Pb s.2.2/\s.2.1.length+s.1<=66/\∃ m,WE s.1 s.2.2=some m/\s.2.1++m=l) (66,[],Uv a) ⟨hp,Qn _,l,h,rfl⟩ rfl rfl λ⟨k,out,g⟩ ⟨j1,j2,m,j3,j4⟩=>?_
 dsimp only at j1 j2 j3 j4 ⊢;cases k with
 | zero=>cases j3
 |
  succ k =>
  simp only [WE] at j3
  split at j3
  ·rename_i h0;injection j3 with j3; subst j3;rw [Zw] at j4;subst j4;exact W0 [.k (Pf _),.f (by simp; omega)] rfl
  ·rename_i h0;obtain ⟨d,hd,j3⟩:=Qc.1 j3;obtain ⟨rfl,hdp⟩:=PL hd;obtain ⟨x,hx,j3⟩:=Qc.1 j3;obtain ⟨q,hq,j3⟩:=Qc.1 j3;obtain ⟨r,hr,j3⟩:=Qc.1 j3;injection j3 with j3; subst j3;have hxp:=UK j1 hdp hx;refine go tt [.k (Pf _),.t (by simp; omega),.k (E9 j1.ln j1.bd),.k (tH j1 hdp hx),.k (iT j1 hxp hq),.s (sz:=1) (l:=[[pl q]]) (λc hc=>by rw [Ql.1 hc]; rfl)] rfl (by simp [Ul,D9]; omega) ?_;exact rd (k,out++[q],x) (by dsimp only; omega) ⟨hxp,by simp; omega,r,hr,by rw [<-j4]; simp⟩ (by rw [MZ]; rfl)
theorem SX:∀ {l r:Ua},NU l=some r->r.length=l.length/\∀ i w,l[i]? = some w->(match l[i+1]? with | some v=>∃ f,QX w v=some f/\r[i]? = some f | none=>r[i]? = some w)
 | [],r,h=>by injection h with h; subst h; exact ⟨rfl,λi w hw=>by simp at hw⟩
 |
  [w],r,h=>by
  injection h with h; subst h;refine ⟨rfl,λi x hx=>?_⟩;cases i with
  | zero=>simpa using hx
  | succ i=>simp at hx
 |
  w::v::l,r,h=>by
  simp only [NU] at h;obtain ⟨f,hf,h⟩:=Qc.1 h;obtain ⟨s,hs,h⟩:=Qc.1 h;injection h with h; subst h;obtain ⟨i1,i2⟩:=SX hs;refine ⟨by simp [i1],λi x hx=>?_⟩;cases i with
  |
   zero =>
   injection hx with hx; subst hx;exact ⟨f,hf,rfl⟩
  |
   succ i =>
   have:=i2 i x (by simpa using hx);simpa using this
theorem AQ:∀ {l r:Ua},(∀ p∈l,Pb p)->NU l=some r->∀ p∈r,Pb p
 | [],r,_,h=>by injection h with h; subst h; exact λp hp=>by cases hp
 | [w],r,hl,h=>by injection h with h; subst h; exact hl
 |
  w::v::l,r,hl,h=>by
  simp only [NU] at h;obtain ⟨f,hf,h⟩:=Qc.1 h;obtain ⟨s,hs,h⟩:=Qc.1 h;injection h with h; subst h;intro p hp;rcases Qk.1 hp with rfl | hp
  ·exact fQ hf
  ·exact AQ (λp hp=>hl p (Qf _ hp)) hs p hp
theorem bR {a:W9} {l r:Ua} (ha:Pb a) (h:WE 66 (Uv a)=some l) (hr:NU l=some r):W6 385 [pr a] [.one (.row (Tn r))]:=by
 obtain ⟨i1,i2⟩:=HV (Hn ha) h;obtain ⟨j1,j2⟩:=SX hr;have hw:=D9 l;refine Fl func385 rfl ?_;refine go tt [.k (iK ha h),.i (Tn l).length,.i (Tn l).length] rfl (by simp [Ul,hw]; omega) ?_;rw [hw,Lk λi=>[pl (r.getD i [])]];refine W5 (S:=Nat) 1 (λL1 k=>(14,.v (.oi k))::L1) (λk=>[.row false 34 1 (MO (λi=>[pl (r.getD i [])]) [.nils] l.length k)]) (λk=>l.length-k) (λk=>k<=l.length) 0 (Qi _) rfl rfl λk hk=>?_
 by_cases hlt:k<l.length
 ·obtain ⟨w,hx⟩:=gxE (l:=l) (i:=k) hlt;have e:=Ii (λi=>[pl (r.getD i [])]) [.nils] hlt;have hg:=j2 k w hx;by_cases h2:k+1<l.length
  ·obtain ⟨v,hv⟩:=gxE (l:=l) (i:=k+1) h2;rw [hv] at hg;obtain ⟨f,f1,f2⟩:=hg;have e2:r.getD k []=f:=by rw [Qj,f2]; rfl
   rw [e2] at e;refine go tt [.t (by simp [hw]; omega),.x (Hh hx),.i k,.t (by simp [hw]; omega),.x (i:=k+1) (Hh hv),.k (iT (i2 w (Qa hx)) (i2 v (Qa hv)) f1),.i k] rfl (by simp [Ul,Eh,hw]; omega) ?_;rw [List.set_set,e];exact rd (k+1) (by omega) hlt rfl
  ·have hv:l[k+1]? = none:=Q0 (by omega);rw [hv] at hg;have e2:r.getD k []=w:=by rw [Qj,hg]; rfl
   rw [e2] at e;refine go tt [.t (by simp [hw]; omega),.x (Hh hx),.i k,.f (by simp [hw]; omega)] rfl (by simp [Ul,Eh,hw]; omega) ?_;rw [e];exact rd (k+1) (by omega) hlt rfl
 ·obtain rfl:k=l.length:=by omega
  have e:MO (λi=>[pl (r.getD i [])]) [.nils] l.length l.length=Tn r:=by
   rw [Ih,<-j1];refine Xi λi=>?_
   simp only [Tn,Zu];by_cases hi:i<r.length
   ·rw [Jg hi]; simp [Qj,Qe hi]
   ·rw [Q0 (by simpa using hi),Q0 (by simpa using hi)]; rfl
  rw [e];exact W0 [.f (by simp [hw])] rfl
theorem fY {p:W9} (tp:Uu p):Uv (Uv p)=Uv p:=by
 by_cases h:p.length=0
 ·have e:Uv p=[]:=by unfold Uv; rw [if_pos h]
  rw [e]; rfl
 ·obtain ⟨h1,h2,h3,h4,_⟩:=Nh tp h;have hc:Tq (Uv p)=1:=by
   have h5:Tq (Uv p)∣1:=h3 _ λk=>by
    by_cases hk:k<(Uv p).length
    ·rw [Qj,Qe hk]; exact D8 _ (Xv hk)
    ·rw [Qj,Q0 (by omega)]; exact Int.dvd_zero _
   have h6:0<=Tq (Uv p):=by unfold Tq; omega
   exact Int.eq_one_of_dvd_one h6 h5
  have hf:∀ q:W9,0<U3 q->Gs q=Tq q:=λq hq=>by unfold Gs; rw [if_neg (by omega)]
  have hf:=(hf _ h4).trans hc;have e0:∀ q:W9,q.length≠0->Uv q=Ny q (Gs q):=λq hq=>by unfold Uv; rw [if_neg hq]
  have e:=e0 (Uv p) (by omega);rw [hf] at e;rw [e];unfold Ny;have e2:(Uv p).map (· / (1:Int))=Uv p:=by
   conv=>rhs; rw [<-List.map_id (Uv p)]
   exact Xx λz _=>by simp
  rw [e2];exact h1
theorem nT (i:Nat):(i:Int).tmod 2=((i % 2:Nat):Int):=rfl
theorem Qlo {a:W9} (ha:Pb a) (h:(Uv a).length=0):W6 381 [pr a] [pr []] :=
 W3 func381 rfl [.k (Ec ha),.t (by simp [Qh h])] rfl
theorem ZY:∀ {l:Ua} {i:Nat} {p o:W9},Pb p->(∀ f∈l,Pb f)->VT i p l=some o->Pb o
 | [],i,p,o,hp,_,h=>by simp only [VT] at h; injection h with h; subst h; exact hp
 |
  f::l,i,p,o,hp,hl,h=>by
  simp only [VT] at h
  split at h
  ·obtain ⟨q,hq,h⟩:=Qc.1 h;obtain ⟨rfl,hq'⟩:=Ie (G6 _ _) hq;exact ZY hq' (λf hf=>hl f (Qf _ hf)) h
  ·exact ZY hp (λf hf=>hl f (Qf _ hf)) h
theorem Qcq:Pb [1]:=⟨rfl,by decide,λz hz=>by rw [Ql.1 hz]; decide⟩
theorem Qo2 {a o:W9} (ha:Pb a) (h:fJ a=some o):W6 381 [pr a] [pr o]:=by
 unfold fJ at h
 split at h
 ·rename_i h0;injection h with h; subst h;exact Qlo ha h0
 rename_i h0;obtain ⟨l,hl,h⟩:=Qc.1 h;obtain ⟨fs,hf,h⟩:=Qc.1 h;have hpa:=Hn ha;have hl':WE 66 (Uv (Uv a))=some l:=by rw [fY ha.t]; exact hl
 obtain ⟨i1,i2⟩:=HV (Hn ha) hl;have i3:=AQ i2 hf;obtain ⟨j1,_⟩:=SX hf;have hw:=D9 fs;have co:=BY (p:=[1]) (by decide) (λz hz=>by rw [Ql.1 hz]; decide);rw [show trim [1]=[1] from rfl] at co;refine Fl func381 rfl ?_;refine Wy [.k (Ec ha),.f (by simpa using h0),.k co,.k (bR hpa hl' hf)] rfl ?_ (by simp [Ul]);refine W5 (S:=Nat×W9) 0 (λL1 s=>(16,.v (.oi (s.1:Int)))::(3,.v (pr s.2))::L1) (λ_=>[]) (λs=>fs.length-s.1) (λs=>s.1<=fs.length/\Pb s.2/\VT s.1 s.2 (fs.drop s.1)=some o) (0,[1]) ⟨Qi _,Qcq,h⟩ rfl rfl λ⟨i,p⟩ ⟨k1,k2,k3⟩=>?_
 dsimp only at k1 k2 k3 ⊢;by_cases hlt:i<fs.length
 ·obtain ⟨f,hx⟩:=gxE (l:=fs) (i:=i) hlt;have hdr:fs.drop i=f::fs.drop (i+1):=by
   rw [Zz hlt]; congr 1;have:=Qe hlt; rw [hx] at this; injection this with this; exact this.symm
  rw [hdr] at k3;simp only [VT] at k3;have pf:=i3 f (Qa hx);by_cases h2:i % 2=0
  ·rw [if_pos h2] at k3;obtain ⟨q,hq,k3⟩:=Qc.1 k3;obtain ⟨rfl,hq'⟩:=Ie (G6 _ _) hq;refine Wz [.t (by simp [hw]; omega),.x (Hh hx),.t (by rw [nT,h2]; rfl),.k (WQ k2.t pf.t (Z2 k2.l (by decide)) (Z2 pf.l (by decide)) k2.b pf.b (by decide))] rfl ?_;exact rd (i+1,Fv p f) (by dsimp only; omega) ⟨hlt,hq',k3⟩ rfl
  ·rw [if_neg h2] at k3;refine Wz [.t (by simp [hw]; omega),.x (Hh hx),.f (by rw [nT,show i % 2=1 by omega]; rfl)] rfl ?_;exact rd (i+1,p) (by dsimp only; omega) ⟨hlt,k2,k3⟩ rfl
 ·obtain rfl:i=fs.length:=by omega
  rw [Yz] at k3;simp only [VT] at k3;injection k3 with k3; subst k3;exact W0 [.f (by simp [hw])] rfl
theorem Ik (z:Int):U0 (z.natAbs:Int)=U0 z:=by unfold U0; simp
theorem aI {x y:LV} {z:Int} (hi:Fu x y z) (hs:U0 z<=4294967295):W6 386 [.agg [x,y]] [.agg (Gw (z.natAbs:Int))]:=by
 obtain ⟨b,l,rfl,rfl,hl,rfl⟩:=hi;have e:(U5 false (val l))=((U5 b (val l)).natAbs:Int):=by rw [Hk]; rfl
 rw [<-e];exact W3 func386 rfl [.k (XS hl (Qd (Ty hs) (by decide))),.k (T0 _ _)] rfl
theorem Qgh {n d:Int} (h0:d≠0) (hn:U0 n<=4294967295) (hd:U0 d<=4294967295):W6 145 [.agg (Gw n),.agg (Gw d)] [.agg (rl (Rat.divInt n d)),.oi 0] :=
 W3 func145 rfl [.k (M4 (Um d) hd),.k Cz,.f (by simpa using h0),.k (M4 (Um n) hn),.k (Ob h0 hn hd)] rfl
theorem dY (l:W9) (z:Int):I6 (l++[z])=if I6 l<z.natAbs then z.natAbs else I6 l:=by unfold I6; rw [List.foldl_append]; rfl
theorem pC {s:Nat}:∀ {l:W9},Bd s l->U0 (I6 l:Int)<=s:=λ{l}=>by
 suffices h:∀ (l:W9) (m:Nat),Bd s l->U0 (m:Int)<=s->U0 ((l.foldl (λm z=>if m<z.natAbs then z.natAbs else m) m:Nat):Int)<=s from λhb=>h l 0 hb (by simp [U0,sz])
 intro l
 induction l with
 | nil=>exact λm _ h=>h
 |
  cons z l ih =>
  intro m hb hm;refine ih _ (λy hy=>hb y (Qf _ hy)) ?_;show U0 ((if m<z.natAbs then z.natAbs else m:Nat):Int)<=s
  split
  ·rw [Ik]; exact hb z (Qx ..)
  ·exact hm
def ozi:Option Nat->Ue
 | none=>[.bool false,.nils]
 | some m=>Gw (m:Int)
def ozr:Option Nat->Ue
 | none=>[.bool false,.row []]
 | some m=>Gw (m:Int)
theorem Qfl {p:W9} (hp:Pb p) (h0:p.length≠0):W6 382 [pr p] [.agg (rl (Fy p)),.oi 0]:=by
 have hl:=hp.l;have hll:(p.take (p.length-1)).length=p.length-1:=by simp
 have hbt:Bd 16777216 (p.take (p.length-1)):=λz hz=>hp.b z (Qm hz)
 refine Fl func382 rfl ?_;refine Wz [.k (G0 hp.t hp.ln hp.bd),.f (by simpa using h0),.r 18 (eI (b:=((p.length-1:Nat):Int)) (by simp; omega)),.i (p.length-1)] rfl ?_;rw [<-Yb];refine W5 (S:=Nat×Option Nat) 2 (λL1 s=>(21,.v (.oi (s.1:Int)))::L1) (λs=>[.blk 43 [.bool false,.nils,.bool false,.nils],.blk 37 (ozi s.2)]) (λs=>p.length-1-s.1) (λs=>s.1<=p.length-1/\I6 ((p.take (p.length-1)).take s.1)=s.2.getD 0) (0,none) ⟨Qi _,rfl⟩ rfl rfl λ⟨i,o⟩ ⟨j1,j2⟩=>?_
 dsimp only at j1 j2 ⊢;by_cases hlt:i<p.length-1
 ·obtain ⟨z,hz⟩:=gxE (l:=(p.take (p.length-1))) (i:=i) (by omega);have bz:U0 z<=16777216:=hbt z (Qa hz);have hst:I6 ((p.take (p.length-1)).take (i+1))=if o.getD 0<z.natAbs then z.natAbs else o.getD 0:=by
   rw [Z5,hz]; show I6 (_++[z])=_; rw [dY,j2]
  have ca:=aI (Um z) (Qd bz (by decide));have hl1:decide ((i:Int)<(((p.take (p.length-1)).map Gw).length:Int))=true:=by simp; omega
  have bm:U0 ((o.getD 0:Nat):Int)<=16777216:=by rw [<-j2]; exact pC λy hy=>hbt y (Qm hy)
  have hcm:Cc (z.natAbs:Int) ((o.getD 0:Nat):Int)>0↔o.getD 0<z.natAbs:=by unfold Cc; split <;> (try split) <;> omega
  have cc:W6 100 [.agg (Gw (z.natAbs:Int)),.agg (ozr o)] [.oi (Cc (z.natAbs:Int) ((o.getD 0:Nat):Int))]:=by
   cases o with
   | none=>exact WX (Um _) Ij (by rw [Ik]; omega) (by decide)
   | some m=>exact WX (Um _) (Um _) (by rw [Ik]; omega) (Qd bm (by decide))
  by_cases hc:o.getD 0<z.natAbs
  ·rw [if_pos hc] at hst;have hd:decide (Cc (z.natAbs:Int) ((o.getD 0:Nat):Int)>0)=true:=by simpa using hcm.2 hc
   cases o <;> (refine Wz [.t hl1,.x (Hj (f:=Gw) hz),.k ca,.k cc,.t hd] rfl ?_; exact rd (i+1,some z.natAbs) (by dsimp only; omega) ⟨hlt,hst⟩ rfl)
  ·rw [if_neg hc] at hst;have hd:decide (Cc (z.natAbs:Int) ((o.getD 0:Nat):Int)>0)=false:=by
    have:=mt hcm.1 hc; simpa using this
   cases o with
   | none=>refine Wz [.t hl1,.x (Hj (f:=Gw) hz),.k ca,.k cc,.f hd] rfl ?_; exact rd (i+1,none) (by dsimp only; omega) ⟨hlt,hst⟩ rfl
   | some m=>refine Wz [.t hl1,.x (Hj (f:=Gw) hz),.k ca,.k cc,.f hd] rfl ?_; exact rd (i+1,some m) (by dsimp only; omega) ⟨hlt,hst⟩ rfl
 ·obtain rfl:i=p.length-1:=by omega
  rw [Qw (by omega)] at j2;have bl:U0 (U3 p)<=16777216:=hp.b _ (PX h0);have ln:((U3 p).natAbs:Int)≠0:=by have:=Du hp.t h0; omega
  have cl:=Bt hp.t hp.ln hp.bd;have ca:=aI (Um (U3 p)) (Qd bl (by decide));have bm:U0 ((o.getD 0:Nat):Int)<=16777216:=by rw [<-j2]; exact pC hbt
  have cd:W6 185 [.agg (Gw ((U3 p).natAbs:Int)),.agg (ozr o)] [.agg (Gw (((U3 p).natAbs:Int)+(I6 (p.take (p.length-1)):Int)))]:=by
   rw [j2];cases o with
   | none=>exact XP (Um _) Ij (by rw [Ik]; omega) (by decide)
   | some m=>exact XP (Um _) (Um _) (by rw [Ik]; omega) (Qd bm (by decide))
  have cm:=Qgh (n:=((U3 p).natAbs:Int)+(I6 (p.take (p.length-1)):Int)) ln (Qd (VX _ _) (by rw [Ik,j2]; omega)) (by rw [Ik]; omega);have hf:decide (((p.length-1:Nat):Int)<(((p.take (p.length-1)).map Gw).length:Int))=false:=by simp
  cases o <;> exact W0 [.f hf,.k cl,.k ca,.k cd,.k cm] rfl
theorem Qjw {z:Int}:W6 364 [.agg (Gw z)] [.oi (Int.sign z)]:=by
 by_cases h0:z=0
 ·subst h0;exact W3 func364 rfl [.t (by simp [Un,Gf])] rfl
 ·have hl:(U9 z.natAbs).length≠0:=λh=>h0 (dQ.1 h)
  have hl':decide (((lm (U9 z.natAbs)).length:Int)=0)=false:=by simpa [Un] using hl
  by_cases h1:z<0
  ·rw [Jv h1];exact W3 func364 rfl [.f hl',.t (by simpa using h1)] rfl
  ·rw [Yj (by omega)];exact W3 func364 rfl [.f hl',.f (by simpa using h1)] rfl
theorem eN {p:W9} (hp:Pb p):W6 391 [pr p] [.oi (I4 p),.oi (YC p)]:=by
 have hb:-1<=(U3 p).sign/\(U3 p).sign<=1:=by rcases Ly (U3 p) with h | h | h <;> omega
 by_cases h:p.length % 2=0
 ·have e:I4 p=-(U3 p).sign:=by unfold I4; rw [if_pos h]
  rw [e];exact W3 func391 rfl [.k (G0 hp.t hp.ln hp.bd),.k (Bt hp.t hp.ln hp.bd),.k Qjw,.t (by rw [nT]; simp [h])] rfl rfl (by simp [Ul,U3] at hb ⊢; omega)
 ·have e:I4 p=(U3 p).sign:=by unfold I4; rw [if_neg h]
  rw [e];exact W3 func391 rfl [.k (G0 hp.t hp.ln hp.bd),.k (Bt hp.t hp.ln hp.bd),.k Qjw,.f (by rw [nT]; simp; omega)] rfl rfl (by simp [Ul])
theorem iU {p:W9} (hp:Pb p):W6 390 [pr p] [.oi (I4 p)]:=W3 func390 rfl [.k (eN hp)] rfl
theorem Qgg {p:W9} (hp:Pb p):W6 392 [pr p] [.oi (YC p)]:=W3 func392 rfl [.k (eN hp)] rfl
theorem Ql0 {q:Rat} (hq:Qs 4294967295 q):W6 129 [.agg (rl q)] [.agg (rl (-q))]:=by
 exact W3 func129 rfl [.k (TU hq),.k (RE (Um _) hq.1)] rfl
theorem qL {l:Ua} {fid:Nat} {sg:W9->Int} (hl:l.length≤1000) (hs:∀ p,-1≤sg p/\sg p≤1) (h:∀ p∈l,NX prog fid [pr p] [.oi (sg p)]):W6 305 [.one (.sh [.row (Tn l)]),.one (.fn fid [] [])] [.oi (No sg l:Nat)]:=by
 have hpl:=D9 l;refine Fl func305 rfl ?_;refine Wy [] rfl ?_;refine W5 (S:=Nat) 0 (λL1 i=>(15,.v (.oi i))::(5,.v (.oi ((ZI sg l i).1:Int)))::(6,.v (.one (.int .i64 (ZI sg l i).2)))::L1) (λ_=>[]) (λi=>l.length-i) (λi=>i<=l.length) 0 (Qi _) rfl rfl λi hi=>?_
 by_cases hlt:i<l.length
 ·obtain ⟨p,hp⟩:=gxE (l:=l) (i:=i) hlt;have hst:ZI sg l (i+1)=Tw sg (ZI sg l i) p:=Rm _ _ _ hp;obtain ⟨b1,b2,b3⟩:=OU hs l i;have b4:=hs p;by_cases h0:sg p=0
  ·refine Wz [.t (by simp [hpl]; omega),.x (Hh hp),.k (h p (Qa hp)),.t (by simpa using h0)] rfl ?_;exact rd (i+1) (by omega) hlt (by rw [hst,show Tw sg (ZI sg l i) p=ZI sg l i from by unfold Tw; rw [if_pos h0]]; rfl)
  ·by_cases h1:(ZI sg l i).2=-(sg p)
   ·refine Wz [.t (by simp [hpl]; omega),.x (Hh hp),.k (h p (Qa hp)),.f (by simpa using h0),.t (by simpa using h1)] rfl ?_;exact rd (i+1) (by omega) hlt (by rw [hst,show Tw sg (ZI sg l i) p=((ZI sg l i).1+1,sg p) from by unfold Tw; rw [if_neg h0,if_pos h1]]; rfl)
   ·refine Wz [.t (by simp [hpl]; omega),.x (Hh hp),.k (h p (Qa hp)),.f (by simpa using h0),.f (by simpa using h1)] rfl ?_;exact rd (i+1) (by omega) hlt (by rw [hst,show Tw sg (ZI sg l i) p=((ZI sg l i).1,sg p) from by unfold Tw; rw [if_neg h0,if_neg h1]]; rfl)
 ·obtain rfl:i=l.length:=by omega
  refine W0 [.f (by simp [hpl])] rfl ?_ trivial;unfold ZI No; rw [List.take_length]
theorem WH (p:W9):(-1<=I4 p/\I4 p<=1)/\-1<=YC p/\YC p<=1:=by
 have hb:-1<=(U3 p).sign/\(U3 p).sign<=1:=by rcases Ly (U3 p) with h | h | h <;> omega
 unfold I4 YC
 split <;> omega
theorem Qfm {l:Ua} (hl:l.length≤1000) (hp:∀ p∈l,Pb p):W6 384 [.one (.sh [.row (Tn l)])] [.oi (JM l)]:=by
 have c1:W6 387 [.one (.sh [.row (Tn l)])] [.oi (No I4 l:Nat)] :=
  W3 func387 rfl [.k (qL hl (λp=>(WH p).1) λp h=>iU (hp p h))] rfl
 have c2:W6 388 [.one (.sh [.row (Tn l)])] [.oi (No YC l:Nat)] :=
  W3 func388 rfl [.k (qL hl (λp=>(WH p).2) λp h=>Qgg (hp p h))] rfl
 have b1:No I4 l<=l.length:=Cy (λp=>(WH p).1) l;have b2:No YC l<=l.length:=Cy (λp=>(WH p).2) l;exact W3 func384 rfl [.k c1,.k c2] rfl rfl (by simp [Ul]; omega)
theorem kM {l:Ua} {lo hi:Rat} (hl:l.length<=1000):-1000<=H8 l lo hi/\H8 l lo hi<=1000:=by
 have b1:Np l lo<=l.length:=Cy (λp=>Au p lo) l;have b2:Np l hi<=l.length:=Cy (λp=>Au p hi) l;unfold H8; split <;> omega
abbrev tal (l:List Tm):Uf:=l.map λt=>ta t
theorem HM {p:W9} {c:Ua} (hp:Pb p):∀ {k:Nat} {lo hi:Rat} {n:Int} {r:List Tm},Qb lo->Qb hi->El p c k lo hi n=some r->∀ t∈r,Tb t
 | 0,_,_,_,_,_,_,h=>by cases h
 |
  k+1,lo,hi,n,r,hl,hh,h=>by
  simp only [El] at h
  split at h
  ·injection h with h; subst h; exact λt ht=>by cases ht
  ·split at h
   ·injection h with h; subst h;intro t ht; rw [Ql.1 ht]; exact ⟨hp,hl,hh⟩
   ·obtain ⟨m,hm,h⟩:=Qc.1 h;obtain ⟨rfl,qm⟩:=TS hm;obtain ⟨x,hx,h⟩:=Qc.1 h;obtain ⟨y,hy,h⟩:=Qc.1 h;injection h with h; subst h;intro t ht;rcases Qr.1 ht with ht | ht
    ·exact HM hp hl qm hx t ht
    ·exact HM hp qm hh hy t ht
theorem Qn4 (l:List Tm):∀ c∈tal l,c.length=9:=λc hc=>by obtain ⟨t,_,rfl⟩:=Zf.1 hc; rfl
theorem wK {p:W9} {c:Ua} (hp:Pb p) (hcl:c.length≤1000) (hc:∀ q∈c,Pb q):∀ {k:Nat} {lo hi:Rat} {n:Int} {r:List Tm},Qb lo->Qb hi->k≤100000->-(1000*(100001-k:Nat))≤n/\n≤1000*(100001-k:Nat)->El p c k lo hi n=some r->r.length≤1000000->Uo prog 383 [pr p,.one (.sh [.row (Tn c)]),.agg (rl lo),.agg (rl hi),.oi n] [] [.one (.orow 0 9 none)] [.row false 189 9 (tal r)]
 | 0,_,_,_,_,_,_,_,_,h,_=>by cases h
 |
  k+1,lo,hi,n,r,hl,hh,hk,hn,h,hr=>by
  simp only [El] at h
  split at h
  ·rename_i h0;injection h with h; subst h;refine Fl func383 rfl ?_;exact W4 [] [2] [.t (by simpa using h0),.o 10 189 9] rfl
  ·rename_i h0
   split at h
   ·rename_i h1;injection h with h; subst h;refine Fl func383 rfl ?_;exact W4 [] [2] [.f (by simpa using h0),.t (by simpa using h1),.k (G0 hp.t hp.ln hp.bd),.k (M5 hl.s32),.k (M5 hh.s32),.lo] rfl
   ·rename_i h1;obtain ⟨m,hm,h⟩:=Qc.1 h;obtain ⟨rfl,qm⟩:=TS hm;obtain ⟨x,hx,h⟩:=Qc.1 h;obtain ⟨y,hy,h⟩:=Qc.1 h;injection h with h; subst h;have hb:=kM (l:=c) (lo:=lo) (hi:=mid lo hi) hcl;rw [Qu] at hr;have c1:=wK hp hcl hc hl qm (by omega) (by omega) hx (by omega);have c2:=wK hp hcl hc qm hh (by omega) (by omega) hy (by omega);rw [show tal (x++y)=tal x++tal y from J4];refine Fl func383 rfl ?_;exact W4 [] [3] [.f (by simpa using h0),.f (by simpa using h1),.k (Qjv hl hh),.k (BQ hcl hc hl qm),.c [3] c1,.c [4] c2,.s (Qn4 y)] rfl (by simp [Ul]; omega)
theorem Qfx {p:W9} {r:List Tm} (hp:Pb p) (h:FB p=some r) (hr:r.length<=1000000):W6 380 [pr p] [.one (tas r),.oi 0]:=by
 unfold FB at h;obtain ⟨c,h1,h⟩:=Qc.1 h;obtain ⟨q,h2,h⟩:=Qc.1 h;obtain ⟨b,h3,h⟩:=Qc.1 h;obtain ⟨rfl,hb⟩:=TS h3;obtain ⟨k1,k2⟩:=chain_ok hp h1;have hq:=UV hp h2;have q0:q.length≠0:=by
  unfold Dh at h1;obtain ⟨a,a1,h1⟩:=Qc.1 h1;rw [h2] at a1; injection a1 with a1; subst a1
  split at h1
  ·cases h1
  ·assumption
 have qn:Qb (-Fy q):=⟨by rw [Rat.neg_num,Ei]; exact hb.1,by rw [Rat.neg_den]; exact hb.2⟩;have bb1:No I4 c<=c.length:=Cy (λp=>(WH p).1) c;have bb2:No YC c<=c.length:=Cy (λp=>(WH p).2) c;have hn:-(1000*(100001-100000:Nat):Int)<=JM c/\JM c<=1000*(100001-100000:Nat):=by unfold JM; omega
 have cr:=wK hq (by omega) k2 qn hb (Qn _) hn h hr;refine Fl func380 rfl ?_;exact W4 [1] [] [.k (aS hp h1),.f rfl,.k (TQ hp h2),.k (Qfl hq q0),.k (Ql0 hb.s32),.k (Qfm (by omega) k2),.c [1] cr] rfl
def Uj (l:List Pt):Uf:=l.map Ur
theorem Td {l:List Pt} {i:Nat} {c:Pt} (h:l[i]? = some c):(Uj l)[i]? = some (Ur c):=Hj h
theorem Ga (l:List Pt):(Uj l).length=l.length:=by simp [Uj]
theorem ZU (l:List Pt):∀ c∈Uj l,c.length=5:=λc hc=>by
 obtain ⟨x,_,rfl⟩:=Zf.1 hc; rfl
abbrev zPt:Ue:=[.nils,.nils,.bool false,.nils,.int .i64 0]
theorem sO {lt:Pt->Pt->Bool} {O:List Pt} {z:Ue} {c:Pt} {k m:Nat} {l2:Uf} (hk:k<=O.length) (hp:Dc lt O c O.length=k) (hm:m=O.length-k) (h2:l2.take m=((Uj O++[z]).drop k).take m) :
 ((Uj O++[z]).take (k+1)++(l2.take m++(Uj O++[z]).drop (k+1+m))).set k (Ur c)=Uj (C5 lt O c):=by
 rw [h2,<-Za,xY (Uj O) z (Ur c) (by rw [Ga]; omega) (by rw [Ga]; omega)];simp [C5,hp,Uj,Yb,Y7]
def Rv (t:Tm) (l:List Pt):List Pt:=Dl (Rh (U4 t)) l
theorem qM {l:List Pt} {t:Tm} (hl:∀ p∈l,Sc p.c) (hn:l.length≤1000000) (ht:Va t):W6 163 [.agg (ta t),.one (pts l)] [.one (pts (Rv t l))]:=by
 have hcl:=Ga l;show W6 163 [.agg (ta t),.one (.row (Uj l))] [.one (.row (Uj (Rv t l)))];obtain ⟨lt,hlt0⟩:=nmE (Rh (U4 t));unfold Rv;rw [<-hlt0];refine Fl func163 rfl ?_;refine Wy [.o 5 41 5] rfl ?_;refine W5 (S:=Nat) 2 (λL1 i=>(11,.v (.oi i))::(5,.v (.one (.orow 1 5 none)))::L1) (λi=>[.blk 189 (ta t),.row false 41 5 (Uj (Dl lt (l.take i)))]) (λi=>l.length-i) (λi=>i<=l.length) 0 (Qi _) rfl rfl λi hi=>?_
 by_cases hlt:i<l.length
 ·obtain ⟨c,hc⟩:=gxE (l:=l) (i:=i) hlt;have hst:Dl lt (l.take (i+1))=C5 lt (Dl lt (l.take i)) c:=gW hc;have hcp:=hl c (Qa hc);obtain ⟨O,hO⟩:=nmE (Dl lt (l.take i));have hOl:O.length=i:=by rw [hO,LJ,Qp]; omega
  have hOm:∀ x∈O,Sc x.c:=λx hx=>by rw [hO,dE] at hx; exact hl x (Qm hx)
  rw [<-hO] at hst ⊢;refine Wy [.t (by simp [hcl]; omega),.x (Td hc)] rfl ?_;refine W5 (S:=Nat) 3 (λL1 k=>(8,.v (.oi k))::L1) (λk=>[.blk 189 (ta t),.row false 41 5 (Uj O),.blk 41 (Ur c)]) id (λk=>k<=O.length/\Dc lt O c k=Dc lt O c O.length) (Uj O).length ⟨by rw [Ga]; exact Qn _,by rw [Ga]⟩ rfl rfl λk ⟨hk,hp⟩=>?_
  have hz:∀ y∈[zPt],y.length=5:=λy hy=>by rw [Ql.1 hy]; rfl
  have h77:∀ y∈Uj O++[zPt],y.length=5:=λy hy=>by
   rcases Qr.1 hy with hy | hy
   ·exact ZU O y hy
   ·exact hz y hy
  cases k with
  |
   zero =>
   have hp:Dc lt O c O.length=0:=by rw [<-hp]; rfl
   refine go tt [.g 19 false (by simp),.f rfl,.s (sz:=5) hz,.r 37 (eI (b:=((0+1:Nat):Int)) (by simp)),.i (0+1),.i (0),.s (sz:=5) (λy hy=>h77 y (Qm hy)),.i (O.length),.i (0)] rfl (by simp [Ul,Ga]; omega) ?_;exact rd (i+1) (by omega) hlt (by rw [hst,<-sO (z:=zPt) (l2:=(Uj O++[zPt]).take ((Uj O++[zPt]).length-0)) (k:=0) (m:=O.length) (by omega) hp (by omega) (by congr 1; exact Qw (by simp))]; rfl)
  |
   succ k =>
   obtain ⟨x,hx⟩:=gxE (l:=O) (i:=k) (by omega);have cb:=eK hcp (hOm x (Qa hx)) ht;rw [<-hlt0] at cb;by_cases hlc:lt c x=true
   ·refine go tt [.g 19 true (by simp),.r 23 (eI (b:=(k:Int)) (by simp)),.i k,.x (Td hx),.k cb,.t hlc,.r 30 (eI (b:=(k:Int)) (by simp))] rfl (by simp [Ul,Ga]; omega) ?_;exact rd k (by simp) ⟨by omega,by rw [<-hp,mT hx hlc]⟩ rfl
   ·have hlc:lt c x=false:=by simpa using hlc
    have hp:Dc lt O c O.length=k+1:=by rw [<-hp,jA hx hlc]
    refine go tt [.g 19 true (by simp),.r 23 (eI (b:=(k:Int)) (by simp)),.i k,.x (Td hx),.k cb,.f hlc,.s (sz:=5) hz,.r 37 (eI (b:=((k+1+1:Nat):Int)) (by simp)),.i (k+1+1),.i (k+1),.s (sz:=5) (λy hy=>h77 y (Qy (Qm hy))),.i (O.length-(k+1)),.i (k+1)] rfl (by simp [Ul,Ga]; omega) ?_;exact rd (i+1) (by omega) hlt (by rw [hst,<-sO (z:=zPt) (l2:=((Uj O++[zPt]).drop (k+1)).take ((Uj O++[zPt]).length-(k+1))) (k:=k+1) (m:=O.length-(k+1)) (by omega) hp (by omega) (by congr 1; exact Qw (by simp))]; rfl)
 ·obtain rfl:i=l.length:=by omega
  rw [Q5];exact W0 [.f (by simp [hcl])] rfl
def Tf (sg:W9->Int):List Pt->List Ct
 | a::b::l=>Iq sg a b::Tf sg (b::l)
 | _=>[]
theorem Mq (sg:W9->Int):∀ l:List Pt,(Tf sg l).length=l.length-1
 | []=>rfl
 | [_]=>rfl
 | a::b::l=>by simp only [Tf,Q7,Mq sg (b::l)]; omega
theorem UT (sg:W9->Int):∀ {l:List Pt} {i:Nat} {a b:Pt},l[i]? = some a->l[i+1]? = some b->(Tf sg l).take (i+1)=(Tf sg l).take i++[Iq sg a b]
 | [],i,a,b,h,_=>by simp at h
 | [x],i,a,b,_,h=>by cases i <;> simp at h
 | x::y::l,0,a,b,h1,h2=>by simp at h1 h2; subst h1; subst h2; simp [Tf]
 |
  x::y::l,i+1,a,b,h1,h2=>by
  have ih:=UT sg (l:=y::l) (i:=i) (a:=a) (b:=b) (by simpa using h1) (by simpa using h2);simp only [Tf,Vu] at ih ⊢;rw [ih]; rfl
theorem RO {l:List Pt} {t:Tm} (hl:∀ p∈l,Sc p.c) (hn:l.length≤1000000) (ht:Va t):W6 165 [.agg (ta t),.one (pts l)] [.one (.row (Uy (Tf (U4 t) l)))]:=by
 have hcl:=Ga l;show W6 165 [.agg (ta t),.one (.row (Uj l))] [.one (.row (Uy (Tf (U4 t) l)))];refine Fl func165 rfl ?_;refine Wy [.o 5 126 7] rfl ?_;refine W5 (S:=Nat) 2 (λL1 i=>(6,.v (.oi ((i+1:Nat):Int)))::(5,.v (.one (.orow 1 7 none)))::L1) (λi=>[.blk 189 (ta t),.row false 126 7 (Uy ((Tf (U4 t) l).take i))]) (λi=>l.length-i) (λi=>i<=l.length-1) 0 (Qi _) rfl rfl λi hi=>?_
 by_cases hlt:i+1<l.length
 ·obtain ⟨a,ha⟩:=gxE (l:=l) (i:=i) (by omega);obtain ⟨b,hb⟩:=gxE (l:=l) (i:=i+1) hlt;have hg:=UT (U4 t) ha hb;have hm:∀ y∈[C9 (Iq (U4 t) a b)],y.length=7:=λy hy=>by rw [Ql.1 hy]; rfl
  refine go tt [.t (by simp [hcl]; omega),.r 19 (eI (b:=(i:Int)) (by simp)),.x (Td ha),.x (Td hb),.k (rL (hl a (Qa ha)) (hl b (Qa hb)) ht),.s (sz:=7) hm,.r 14 (eI (b:=((i+1+1:Nat):Int)) (by simp))] rfl (by simp [Ul,Ga,P9,Mq]; omega) ?_;exact rd (i+1) (by omega) (by omega) (by rw [hg]; simp [Uy]; rfl)
 ·have e:(Tf (U4 t) l).take i=Tf (U4 t) l:=Qw (by rw [Mq]; omega);rw [e];exact W0 [.f (by simp [hcl]; omega)] rfl
theorem Qfz:W6 253 [pr []] [.one .nilp,.oi 2]:=by
 have h:Ts []=some []:=rfl;exact W3 func253 rfl [.k (TQ UY h),.t rfl] rfl
theorem aT:W6 380 [pr []] [.one (.row []),.oi 2] :=
 W3 func380 rfl [.k Qfz,.t rfl] rfl
theorem Qne {a o:W9} (ha:Pb a) (h:fJ a=some o):Pb o:=by
 unfold fJ at h
 split at h
 ·injection h with h; subst h; exact UY
 ·obtain ⟨l,hl,h⟩:=Qc.1 h;obtain ⟨fs,hf,h⟩:=Qc.1 h;exact ZY Qcq (AQ (HV (Hn ha) hl).2 hf) h
theorem eD {p:W9} {l:List Tm} (hp:Pb p) (h:JE p=some l) (hl:l.length<=1000000):W6 379 [pr p] [.one (tas l)]:=by
 unfold JE at h;obtain ⟨q,hq,h⟩:=Qc.1 h;have qp:=Qne hp hq;have co:=Qo2 hp hq
 split at h
 ·rename_i h0;injection h with h; subst h;obtain rfl:=Qh h0;exact W3 func379 rfl [.k co,.k aT,.t rfl] rfl
 ·exact W3 func379 rfl [.k co,.k (Qfx qp h hl),.f rfl] rfl
def ota:Option Tm->Ue
 | none=>zTr
 | some t=>ta t
theorem Qfo {p:W9} {a:Tm} {l:List Tm} {r:Option Tm} (hp:Pb p) (ha:Tb a) (h:JE p=some l) (hl:l.length≤1000000) (ht:∀ t∈l,Tb t) (hr:XV a l=some r):W6 378 [pr p,.agg (ta a)] [.agg (ota r),.one (.bool r.isSome)]:=by
 have hll:(l.map λt=>ta t).length=l.length:=by simp
 refine Fl func378 rfl ?_;refine Wy [.k (eD hp h hl)] rfl ?_;refine W5 (S:=Nat) 2 (λL1 i=>(11,.v (.oi i))::L1) (λ_=>[.blk 189 (ta a),.blk 189 zTm]) (λi=>l.length-i) (λi=>i<=l.length/\XV a (l.drop i)=some r) 0 ⟨Qi _,hr⟩ rfl rfl λi ⟨hi,hf⟩=>?_
 by_cases hlt:i<l.length
 ·obtain ⟨t,hx⟩:=gxE (l:=l) (i:=i) hlt;have hdr:l.drop i=t::l.drop (i+1):=by
   rw [Zz hlt]; congr 1;have:=Qe hlt; rw [hx] at this; injection this with this; exact this.symm
  rw [hdr] at hf;simp only [XV] at hf;obtain ⟨c,c1,hf⟩:=Qc.1 hf;have cc:=XT (ht t (Qa hx)) ha c1;by_cases hc:0<c
  ·rw [if_pos hc] at hf;injection hf with hf; subst hf;exact W0 [.t (by simp; omega),.x (RZ hx),.k cc,.t (by simpa using hc)] rfl
  ·rw [if_neg hc] at hf;refine Wz [.t (by simp; omega),.x (RZ hx),.k cc,.f (by simpa using hc)] rfl ?_;exact rd (i+1) (by omega) ⟨hlt,hf⟩ rfl
 ·obtain rfl:i=l.length:=by omega
  rw [Yz] at hf;simp only [XV] at hf;injection hf with hf; subst hf;exact W0 [.f (by simp)] rfl
def Ai (now:Tm):List Wt->Option (List Wt)
 | []=>some []
 | w::l=>(if w.known=true then some w else (FT w.c.p now).bind λr=>some ⟨w.c,true,r⟩).bind λw'=>(Ai now l).bind λr=>some (w'::r)
theorem ZX {now:Tm}:∀ {l ws:List Wt},Ai now l=some ws->ws.length=l.length/\∀ (i:Nat) (w:Wt),l[i]? = some w->∃ v,ws[i]? = some v/\(w.known=true/\v=w\/w.known=false/\∃ r,FT w.c.p now=some r/\v=⟨w.c,true,r⟩)
 | [],ws,h=>by injection h with h; subst h; exact ⟨rfl,λi x hx=>by simp at hx⟩
 |
  y::l,ws,h=>by
  simp only [Ai] at h;obtain ⟨v,hv,h⟩:=Qc.1 h;obtain ⟨r,hr,h⟩:=Qc.1 h;injection h with h; subst h;obtain ⟨a,b⟩:=ZX hr;refine ⟨by simp [a],λi x hx=>?_⟩;cases i with
  |
   zero =>
   injection hx with hx; subst hx;refine ⟨v,rfl,?_⟩
   split at hv
   ·rename_i hk; injection hv with hv; exact .inl ⟨hk,hv.symm⟩
   ·rename_i hk;obtain ⟨q,hq,hv⟩:=Qc.1 hv;injection hv with hv;exact .inr ⟨by simpa using hk,q,hq,hv.symm⟩
  | succ i=>exact b i x (by simpa using hx)
theorem qH {p:W9} {a:Tm} {r:Option Tm} (hp:Cp p) (ha:Va a) (h:FT p a=some r):W6 378 [pr p,.agg (ta a)] [.agg (ota r),.one (.bool r.isSome)]:=by
 obtain ⟨l,l1,l2,l3,_⟩:=QT hp;unfold FT at h;rw [l1] at h;exact Qfo (Dp.pb hp.dp) ha.tb l1 (by omega) (λt ht=>(l3 t ht).tb) h
theorem Qfr {T:Nat} {c:Cr} {r0 r1:Uf} {ws:List Wt} (hc:CrOk c) (h:Ai c.now c.l=some ws):Uo prog 371 [.one (.ow 0 0)] [.blk T (Gy c r0 r1)] [] [.blk T (Gy { c with l:=ws } r0 r1)]:=by
 have hk:=hc.k;have hw:=Rx c.l;obtain ⟨h1,h2⟩:=ZX h;refine Fl func371 rfl ?_;refine Wy [.o 2 291 18,.c [0] (Ib hc.n)] rfl ?_;refine W5 (S:=Nat) 3 (λL1 i=>(13,.v (.oi i))::(2,.v (.one (.orow 1 18 none)))::L1) (λi=>[.blk T (Gy c r0 r1),.row false 291 18 (Nu (ws.take i)),.blk 189 (ta c.now)]) (λi=>c.l.length-i) (λi=>i<=c.l.length) 0 (Qi _) rfl rfl λi hi=>?_
 by_cases hlt:i<c.l.length
 ·obtain ⟨w,hx⟩:=gxE (l:=c.l) (i:=i) hlt;obtain ⟨v,hv,h3⟩:=h2 i w hx;have hm:∀ y∈[wl v],y.length=18:=λy hy=>by rw [Ql.1 hy]; rfl
  have hg:=Lc hv;have hl:decide ((i:Int)<((Nu c.l).length:Int))=true:=by simp [hw]; omega
  rcases h3 with ⟨k1,rfl⟩ | ⟨k1,r,k2,rfl⟩
  ·obtain ⟨vc,vk,vf⟩:=v;cases vf <;> (refine go tt [.t hl,.x (G7 hx),.f (by rw [show vk=true from k1]; rfl),.s (sz:=18) hm] rfl (by simp [Ul,Rx]; omega) ?_; exact rd (i+1) (by omega) hlt (by rw [hg]; rfl))
  ·have cg:=qH (hc.l w (Qa hx)).p hc.n k2;obtain ⟨wc,wk,wf⟩:=w;cases r <;> cases wf <;> (refine go tt [.t hl,.x (G7 hx),.t (by rw [show wk=false from k1]; rfl),.k cg,.s (sz:=18) hm] rfl (by simp [Ul,Rx]; omega) ?_; exact rd (i+1) (by omega) hlt (by rw [hg]; rfl))
 ·obtain rfl:i=c.l.length:=by omega
  rw [<-h1,Q5];exact W4 [1] [0] [.f (by simp [hw,h1])] rfl
def NS (ws:List Wt):Option (Option Tm):=match ws.filterMap (·.fails) with
 | []=>some none
 | b::l=>(Il b l).map some
theorem Dv {c:Cr} {ws:List Wt} (hc:CrOk c) (h:Ai c.now c.l=some ws):CrOk { c with l:=ws }:=by
 obtain ⟨h1,h2⟩:=ZX h;refine ⟨hc.n,λv hv=>?_,by show ws.length<=1000; rw [h1]; exact hc.k⟩;obtain ⟨i,hi⟩:=Xq hv;have hil:i<c.l.length:=by rw [<-h1]; exact (Qg.1 hi).1
 obtain ⟨v',h3,h4⟩:=h2 i _ (Qe hil);rw [hi] at h3; injection h3 with h3; subst h3;have hw:=hc.l _ (Xv hil);rcases h4 with ⟨_,rfl⟩ | ⟨_,r,k2,rfl⟩
 ·exact hw
 ·obtain ⟨r',r1,r2⟩:=Qcc hw.p hc.n;rw [k2] at r1; injection r1 with r1; subst r1;refine ⟨hw.p,λt ht=>?_⟩;have ht:r=some t:=ht;subst ht;exact r2.2.1
theorem GM {T:Nat} {c:Cr} {r0 r1:Uf} {ws:List Wt} {r:Option Tm} (hc:CrOk c) (h:Ai c.now c.l=some ws) (hr:NS ws=some r):Uo prog 377 [.one (.ow 0 0)] [.blk T (Gy c r0 r1)] [.agg (ota r),.one (.bool r.isSome)] [.blk T (Gy { c with l:=ws } r0 r1)]:=by
 have hcl:=Qfr (T:=T) (r0:=r0) (r1:=r1) hc h;have hc':=Dv hc h;have hk:=hc'.k;have hw:=Rx ws;have hvb:∀ t∈ws.filterMap (·.fails),Tb t:=λt ht=>by
  obtain ⟨w,w1,w2⟩:=Jb.1 ht;exact ((hc'.l w w1).f t w2).tb
 refine Fl func377 rfl ?_;refine Wy [.c [0] hcl,.o 4 189 9] rfl ?_;refine W5 (S:=Nat) 3 (λL1 i=>(14,.v (.oi i))::(4,.v (.one (.orow 2 9 none)))::L1) (λi=>[.blk T (Gy { c with l:=ws } r0 r1),.blk 189 zTm,.row false 189 9 (tal ((ws.take i).filterMap (·.fails)))]) (λi=>ws.length-i) (λi=>i<=ws.length) 0 (Qi _) rfl rfl λi hi=>?_
 by_cases hlt:i<ws.length
 ·obtain ⟨w,hx⟩:=gxE (l:=ws) (i:=i) hlt;have hl:decide ((i:Int)<((Nu ws).length:Int))=true:=by simp [hw]; omega
  have hfl:((ws.take i).filterMap (·.fails)).length<=i:=Qd (Y0 _ _) (by rw [Qp]; omega);have hg:(ws.take (i+1)).filterMap (·.fails)=(ws.take i).filterMap (·.fails)++(match w.fails with | none=>[] | some t=>[t]):=by
   rw [Z5,hx,List.filterMap_append];show _++List.filterMap (·.fails) [w]=_;cases hwf:w.fails <;> simp [hwf]
  obtain ⟨wc,wk,wf⟩:=w;have hk:ws.length<=1000:=hk;cases wf with
  |
   none =>
   refine Wz [.t hl,.x (G7 hx),.f rfl] rfl ?_;exact rd (i+1) (by omega) hlt (by rw [hg]; simp; rfl)
  |
   some t =>
   refine Wz [.t hl,.x (G7 hx),.t rfl,.s (l:=[ta t]) (sz:=9) (λc hc=>by rw [Ql.1 hc]; rfl)] rfl ?_;exact rd (i+1) (by omega) hlt (by rw [hg]; simp [tal]; rfl)
 ·obtain rfl:i=ws.length:=by omega
  rw [Q5];have hf:decide ((ws.length:Int)<((Nu ws).length:Int))=false:=by simp [hw]
  have hln:(ws.filterMap (·.fails)).length<=1000:=Qd (Y0 _ _) hk;unfold NS at hr;cases hfm:ws.filterMap (·.fails) with
  |
   nil =>
   rw [hfm] at hr;injection hr with hr; subst hr;exact W4 [] [0] [.f hf,.p 2,.k qR] rfl
  |
   cons b l =>
   rw [hfm] at hr hvb hln;obtain ⟨m,m1,rfl⟩:=Ym.1 hr;have cl:=Tk (hvb b (Qx ..)) (λt ht=>hvb t (Qf _ ht)) (by simp at hln; omega) m1;exact W4 [] [0] [.f hf,.p 2,.k cl] rfl
theorem PZ {at_:Tm} {x:Ct}:∀ {l:List Wt} {w:Wt},M9 l x at_=some w->w=fresh x\/∃ v∈l,v.known=true/\v.c.p=x.p/\w=⟨x,true,v.fails⟩/\∀ t,v.fails=some t->∃ c,YT t at_=some c/\0<c
 | [],w,h=>by simp only [M9] at h; injection h with h; exact .inl h.symm
 |
  v::l,w,h=>by
  simp only [M9] at h;have tl:M9 l x at_=some w->w=fresh x\/∃ v'∈v::l,v'.known=true/\v'.c.p=x.p/\w=⟨x,true,v'.fails⟩/\∀ t,v'.fails=some t->∃ c,YT t at_=some c/\0<c:=λh=>by
   rcases PZ h with h | ⟨v',h1,h2⟩
   ·exact .inl h
   ·exact .inr ⟨v',Qf _ h1,h2⟩
  split at h
  ·rename_i hk;cases hf:v.fails with
   |
    none =>
    rw [hf] at h;injection h with h;exact .inr ⟨v,Qx ..,hk.2.1,hk.2.2,by rw [hf]; exact h.symm,λt ht=>by rw [hf] at ht; cases ht⟩
   |
    some t =>
    rw [hf] at h;obtain ⟨c,c1,h⟩:=Qc.1 h
    split at h
    ·rename_i h0;injection h with h;exact .inr ⟨v,Qx ..,hk.2.1,hk.2.2,by rw [hf]; exact h.symm,λu hu=>by rw [hf] at hu; injection hu with hu; subst hu; exact ⟨c,c1,h0⟩⟩
    ·exact tl h
  ·exact tl h
theorem lay_ok {c:Cr} {at_:Tm} {l:List Ct} {ws:List Wt} (ev:Int) (hc:CrOk c) (ha:Va at_) (hl:∀ x∈l,Cp x.p) (hn:l.length≤1000) (h:H5 c.l at_ (U6 l)=some ws):CrOk ⟨at_,ws,ev⟩:=by
 obtain ⟨h1,h2⟩:=Oq h;refine ⟨ha,λw hw=>?_,by show ws.length<=1000; rw [h1,Bp]; exact hn⟩;obtain ⟨i,hi⟩:=Xq hw;have hil:i<(U6 l).length:=by rw [<-h1]; exact (Qg.1 hi).1
 obtain ⟨v,h3,h4⟩:=h2 i _ (Qe hil);rw [hi] at h4; injection h4 with h4; subst h4;have hx:=hl _ (ZH (Xv hil));rcases PZ h3 with e | ⟨v,v1,_,v3,e,_⟩
 ·rw [e]; exact ⟨hx,λt ht=>by cases ht⟩
 ·rw [e]; exact ⟨hx,λt ht=>(hc.l v v1).f t ht⟩
def YQ {β:Type} (Bc:Tm->List Ct) (Br:Tm->β) (t:Rat):Nat->Cr->β->Int->Option (Cr×β×Int)
 | 0,_,_,_=>none
 |
  k+1,c,r,n=>(Ai c.now c.l).bind λws=>(NS ws).bind λo=>match o with
  | none=>some (⟨tq t,ws,c.ev⟩,r,n)
  | some a=>if 0<Uz a t then some (⟨tq t,ws,c.ev⟩,r,n) else (H5 ws a (U6 (Bc a))).bind λw2=>YQ Bc Br t k ⟨a,w2,c.ev+1⟩ (Br a) (n+1)
theorem Qcf {ws:List Wt} {a:Tm} (h:NS ws=some (some a)) (hv:∀ t∈ws.filterMap (·.fails),Va t):a∈ws.filterMap (·.fails)/\∀ t∈ws.filterMap (·.fails),¬Pz t a:=by
 unfold NS at h;cases hf:ws.filterMap (·.fails) with
 | nil=>rw [hf] at h; injection h with h; cases h
 |
  cons b l =>
  rw [hf] at h hv;obtain ⟨m,m1,m2⟩:=Ym.1 h;injection m2 with m2; subst m2;obtain ⟨m',n1,n2,n3⟩:=WA l b hv;rw [m1] at n1; injection n1 with n1; subst n1;exact ⟨n2,n3⟩
theorem PP {c:Cr} {ws:List Wt} {a:Tm} (hc:CrOk c) (h:Ai c.now c.l=some ws) (hr:NS ws=some (some a)):Va a:=by
 have hc':=Dv hc h;have hv:∀ t∈ws.filterMap (·.fails),Va t:=λt ht=>by
  obtain ⟨w,w1,w2⟩:=Jb.1 ht;exact (hc'.l w w1).f t w2
 exact hv a (Qcf hr hv).1
structure BuildOk (Bc:Tm->List Ct):Prop where
 p:∀ a,Va a->∀ x∈Bc a,Cp x.p
 n:∀ a,Va a->(Bc a).length<=1000
theorem Qo0 {T:Nat} {t:Rat} {Bc:Tm->List Ct} {Br:Tm->Uf} {r0:Uf} (ht:Qs 1640000 t) (hB:BuildOk Bc)
 (hb:∀ a c r1,Va a->CrOk c->Uo prog 122 [.one (.ow 0 0),.agg (ta a)] [.blk T (Gy c r0 r1)] [.one (.row (Uy (Bc a)))] [.blk T (Gy c r0 (Br a))])
 {K:Nat} {c c':Cr} {r1 r1':Uf} {n:Int} (hc:CrOk c) (hev:0<=c.ev/\c.ev+K<=1000000000000000000) (h:Uz c.now t<=0) (hg:YQ Bc Br t K c r1 0=some (c',r1',n)) :
 Uo prog 372 [.one (.ow 0 0),.agg (rl t),.one (.ofn 122 [.ow 0 0] [])] [.blk T (Gy c r0 r1)] [.oi n,.oi 0] [.blk T (Gy c' r0 r1')]:=by
 have qt:Qb t:=ht.mono (by decide);have c1:=Be hc.n.tb qt;refine Fl func372 rfl ?_;refine Wy [.c [0] (Ib hc.n),.k c1,.f (by simpa using h)] rfl ?_;refine W5 (S:=Nat×Cr×Uf×Int) 2 (λL1 s=>(8,.v (.oi s.2.2.2))::L1) (λs=>[.blk T (Gy s.2.1 r0 s.2.2.1),.blk 43 (rl t)]) (λs=>s.1) (λs=>CrOk s.2.1/\(0<=s.2.1.ev/\s.2.1.ev+s.1<=1000000000000000000)/\(0<=s.2.2.2/\s.2.2.2+s.1<=1000000000000000000)/\YQ Bc Br t s.1 s.2.1 s.2.2.1 s.2.2.2=some (c',r1',n)) (K,c,r1,0) ⟨hc,hev,⟨Int.le_refl 0,by dsimp only; omega⟩,hg⟩ rfl rfl λ⟨k,x,r,m⟩ ⟨j1,j2,j3,j4⟩=>?_
 dsimp only at j1 j2 j3 j4 ⊢;cases k with
 | zero=>cases j4
 |
  succ k =>
  simp only [YQ] at j4;obtain ⟨ws,w1,j4⟩:=Qc.1 j4;obtain ⟨o,o1,j4⟩:=Qc.1 j4;have cn:=GM (T:=T) (r0:=r0) (r1:=r) j1 w1 o1;have ca:=XZ (Um t.num) (Um (t.den:Int)) (Qd ht.1 (by decide)) (Qd ht.2 (by decide)) (by rw [Sl]; exact ht.mono (by decide));rw [Sl] at ca;cases o with
  |
   none =>
   injection j4 with j4; injection j4 with e1 j4; injection j4 with e2 e3;subst e1; subst e2; subst e3;exact W4 [] [0] [.c [0] cn,.g 25 true rfl,.t rfl,.k ca] rfl
  |
   some a =>
   have ha:=PP j1 w1 o1;dsimp only at j4;have cc:=Be ha.tb qt;by_cases h0:0<Uz a t
   ·rw [if_pos h0] at j4;injection j4 with j4; injection j4 with e1 j4; injection j4 with e2 e3;subst e1; subst e2; subst e3;exact W4 [] [0] [.c [0] cn,.g 25 false rfl,.k cc,.t (by simpa using h0),.k ca] rfl
   ·rw [if_neg h0] at j4;obtain ⟨w2,l1,j4⟩:=Qc.1 j4;have j1':=Dv j1 w1;have cl:=Tk (b:=a) (l:=[]) ha.tb (λt ht=>by cases ht) (by decide) rfl;have cb:=hb a { x with l:=ws } r ha j1';have cy:=YU (T:=T) (r0:=r0) (r1:=Br a) j1' ha (hB.p a ha) (hB.n a ha) l1;have hf:decide (0<Uz a t)=false:=by simpa using h0
    refine Wz [.c [0] cn,.g 25 false rfl,.k cc,.f hf,.k cl,.c [0] cb,.c [0] cy] rfl ?_;exact rd (k,⟨a,w2,x.ev+1⟩,Br a,m+1) (by dsimp only; omega) ⟨lay_ok _ j1' ha (hB.p a ha) (hB.n a ha) l1,by dsimp only; omega,by dsimp only; omega,j4⟩ rfl
theorem QB {T:Nat} {c:Cr} {r0 r1:Uf}:Uo prog 368 [.one (.ow 0 0)] [.blk T (Gy c r0 r1)] [.oi c.ev] [.blk T (Gy c r0 r1)]:=by
 refine Fl func368 rfl ?_;exact W4 [] [0] [] rfl
end Orr
namespace Orq
open Orr Go
theorem Qpv {a b c:Tm} (hb:Cut (Uz b)) (hc:Cut (Uz c)) (h:Pz a b) (h':Pz b c):Pz a c:=by
 obtain ⟨q,q1,q2⟩:=h;obtain ⟨r,r1,r2⟩:=h';exact ⟨q,q1,hc.mono' (hb.lt q2 r1) (by omega)⟩
theorem WI {a b:Tm} (ha:Cut (Uz a)) (hb:Cut (Uz b)) (h:¬Pz b a):Leq a (Uz b):=λq hq=>by
 rcases ha.val q with e | e | e
 ·exact absurd ⟨q,hq,e⟩ h
 ·obtain ⟨r,r1,r2⟩:=hb.dn q hq;exact absurd ⟨r,r2,ha.mono' r1 (by omega)⟩ h
 ·exact e
theorem pF {a b c:Tm} (_:Cut (Uz a)) (hb:Cut (Uz b)) (hc:Cut (Uz c)) (h:Pz a b) (h':¬Pz c b):Pz a c:=by
 obtain ⟨q,q1,q2⟩:=h;refine ⟨q,q1,?_⟩;have hl:=WI hb hc h';rcases hc.val q with e | e | e
 ·exact e
 ·obtain ⟨r,r1,r2⟩:=hb.up q q2;have h1:=hc.mono q r r1 (by omega);have:=hl r h1;omega
 ·have:=hl q e; omega
theorem AN {a b:Tm} (ha:Cut (Uz a)) (hb:Cut (Uz b)) (h:Pz a b):¬Pz b a:=λh'=>Eu ha hb h h'
theorem Al {p:W9} {a b:Tm} {o:Option Tm} (ha:Cut (Uz a)) (hb:Cut (Uz b)) (hab:¬Pz b a) (h:Pe p a o) (ho:∀ t,o=some t->Pz b t):Pe p b o:=by
 have hl:=WI ha hb hab;cases o with
 |
  none =>
  rcases h with h | ⟨s,s0,h⟩
  ·exact .inl h
  ·exact .inr ⟨s,s0,λc hc hbc=>h c hc λq hq=>hl q (hbc q hq)⟩
 |
  some t =>
  obtain ⟨h1,h2,_,s,s0,h4,h5⟩:=h;exact ⟨h1,h2,ho t rfl,s,s0,λc hc hbc hm=>h4 c hc (λq hq=>hl q (hbc q hq)) hm,h5⟩
theorem CU {p:W9} {a b:Tm} {o:Option Tm} (hp:Dp p) (ha:Va a) (hb:Va b) (hab:¬Pz b a) (h:Pe p a o) (ho:∀ t,o=some t->Pz b t):Gn (U4 b) p=Gn (U4 a) p:=by
 by_cases h0:p.length=0
 ·obtain rfl:=Qh h0; rfl
 obtain ⟨ra,_⟩:=Dt ha hp h0;obtain ⟨rb,_⟩:=Dt hb hp h0;have hl:=WI ha.cut hb.cut hab;cases o with
 |
  none =>
  rcases h with h | ⟨s,s0,h⟩
  ·exact absurd (by rw [h]; rfl) h0
  ·exact (VO rb (h _ hb.cut hl)).trans (VO ra (h _ ha.cut λ_ h=>h)).symm
 |
  some t =>
  obtain ⟨h1,h2,h3,s,s0,h4,h5⟩:=h;exact (VO rb (h4 _ hb.cut hl (ho t rfl))).trans (VO ra (h4 _ ha.cut (λ_ h=>h) h3)).symm
theorem vW (t q:Rat):Uz (tq t) q=Gm t q:=Ee (t:=tq t) rfl q
theorem WV {a:Tm} {t:Rat} (ha:Cut (Uz a)):0<Uz a t↔Pz (tq t) a:=by
 constructor
 ·intro h;have h1:Uz a t=1:=by rcases ha.val t with e | e | e <;> omega
  obtain ⟨r,r1,r2⟩:=ha.up t h1;exact ⟨r,by rw [vW]; rcases M6 t r with ⟨e,e'⟩ | ⟨e,e'⟩ | ⟨e,e'⟩ <;> first | exact e | (exfalso; grind),r2⟩
 ·rintro ⟨q,q1,q2⟩
  rw [vW] at q1;have:t<q:=by rcases M6 t q with ⟨e,e'⟩ | ⟨e,e'⟩ | ⟨e,e'⟩ <;> first | exact e' | omega
  have:=ha.mono' this (by omega);omega
open Classical in
noncomputable def mu (T:List Tm) (a:Tm):Nat:=(T.filter λt=>decide (Pz a t)).length
theorem BA {α:Type} {p q:α->Bool} (h:∀ x,p x=true->q x=true):∀ l:List α,(l.filter p).length<=(l.filter q).length
 | []=>Qn _
 |
  x::l=>by
  have ih:=BA h l;by_cases hp:p x=true
  ·rw [Xy hp,Xy (h x hp)]; simp; exact ih
  ·rw [Jm hp];by_cases hq:q x=true
   ·rw [Xy hq]; simp; omega
   ·rw [Jm hq]; exact ih
theorem BI {α:Type} {p q:α->Bool} (h:∀ x,p x=true->q x=true) {y:α} (hp:p y=false) (hq:q y=true):∀ {l:List α},y∈l->(l.filter p).length<(l.filter q).length
 | [],hy=>by cases hy
 |
  x::l,hy=>by
  rcases Qk.1 hy with rfl | hy
  ·rw [Jm (by simp [hp]),Xy hq];have:=BA h l;simp; omega
  ·have ih:=BI h hp hq hy;by_cases hp:p x=true
   ·rw [Xy hp,Xy (h x hp)]; simp; exact ih
   ·rw [Jm hp];by_cases hq:q x=true
    ·rw [Xy hq]; simp; omega
    ·rw [Jm hq]; exact ih
open Classical in
theorem Qkl {T:List Tm} {a b:Tm} (ha:Cut (Uz a)) (hb:Cut (Uz b)) (hT:∀ t∈T,Cut (Uz t)) (h:Pz a b) (hm:b∈T):mu T b<mu T a:=by
 have key:∀ l:List Tm,(∀ t∈l,Cut (Uz t))->l.filter (λt=>decide (Pz b t))=l.filter (λt=>decide (Cut (Uz t)/\Pz b t)):=λl hl=>List.filter_congr λx hx=>by simp [hl x hx]
 have key2:∀ l:List Tm,(∀ t∈l,Cut (Uz t))->l.filter (λt=>decide (Pz a t))=l.filter (λt=>decide (Cut (Uz t)/\Pz a t)):=λl hl=>List.filter_congr λx hx=>by simp [hl x hx]
 unfold mu;rw [key T hT,key2 T hT];refine BI (λx hx=>?_) (y:=b) ?_ ?_ hm
 ·have hx:=of_decide_eq_true hx;exact decide_eq_true ⟨hx.1,Qpv hb hx.1 h hx.2⟩
 ·exact decide_eq_false λhx=>Eu hb hb hx.2 hx.2
 ·exact decide_eq_true ⟨hb,h⟩
def NB (p:W9):List Tm:=(JE p).getD []
structure KInv (c:Cr):Prop where
 ok:CrOk c
 k:∀ w∈c.l,w.known=true->Pe w.c.p c.now w.fails/\∀ t,w.fails=some t->t∈NB w.c.p
theorem PT {p:W9} (h:Cp p) {a:Tm} (ha:Va a):∃ r,FT p a=some r/\Pe p a r/\∀ t,r=some t->t∈NB p:=by
 obtain ⟨l,l1,_,_,l3⟩:=QT h;obtain ⟨r,r1,r2,r3⟩:=l3 a ha;refine ⟨r,?_,r2,λt ht=>by unfold NB; rw [l1]; exact r3 t ht⟩;unfold FT; rw [l1]; exact r1
theorem Qn5 {p:W9} (h:Cp p):∀ t∈NB p,Va t:=by
 obtain ⟨l,l1,_,l2,_⟩:=QT h;unfold NB; rw [l1]; exact l2
theorem pT {now:Tm} (hn:Va now):∀ {l:List Wt},(∀ w∈l,WtOk w)->(∀ w∈l,w.known=true->Pe w.c.p now w.fails/\∀ t,w.fails=some t->t∈NB w.c.p) ->
 ∃ ws,Ai now l=some ws/\ws.map (·.c)=l.map (·.c)/\∀ w∈ws,w.known=true/\Pe w.c.p now w.fails/\∀ t,w.fails=some t->t∈NB w.c.p
 | [],_,_=>⟨[],rfl,rfl,λw hw=>by cases hw⟩
 |
  w::l,h,h'=>by
  obtain ⟨ws,w1,w2,w3⟩:=pT hn (λv hv=>h v (Qf _ hv)) (λv hv=>h' v (Qf _ hv));by_cases hk:w.known=true
  ·refine ⟨w::ws,by simp only [Ai,hk,if_true,w1]; rfl,by simp [w2],λv hv=>?_⟩;rcases Qk.1 hv with rfl | hv
   ·exact ⟨hk,h' v (by simp) hk⟩
   ·exact w3 v hv
  ·obtain ⟨r,r1,r2,r3⟩:=PT (h w (by simp)).p hn;refine ⟨⟨w.c,true,r⟩::ws,by simp only [Ai]; rw [if_neg hk,r1,w1]; rfl,by simp [w2],λv hv=>?_⟩;rcases Qk.1 hv with rfl | hv
   ·exact ⟨rfl,r2,r3⟩
   ·exact w3 v hv
theorem pY {at_:Tm} (ha:Va at_) {x:Ct}:∀ {l:List Wt},(∀ w∈l,WtOk w)->∃ w,M9 l x at_=some w/\w.c=x
 | [],_=>⟨fresh x,rfl,rfl⟩
 |
  v::l,h=>by
  obtain ⟨w,w1,w2⟩:=pY ha (x:=x) λv hv=>h v (Qf _ hv)
  simp only [M9]
  split
  ·cases hf:v.fails with
   | none=>exact ⟨_,rfl,rfl⟩
   |
    some t =>
    obtain ⟨c,c1,_⟩:=YS ((h v (by simp)).f t hf) ha;dsimp only;rw [c1];show ∃ w,(if 0<c then some ⟨x,true,some t⟩ else M9 l x at_)=some w/\w.c=x
    split
    ·exact ⟨_,rfl,rfl⟩
    ·exact ⟨w,w1,w2⟩
  ·exact ⟨w,w1,w2⟩
theorem uU {at_:Tm} (ha:Va at_) {ol:List Wt} (ho:∀ w∈ol,WtOk w):∀ l:List Ct,∃ ws,H5 ol at_ l=some ws/\ws.map (·.c)=l
 | []=>⟨[],rfl,rfl⟩
 |
  x::l=>by
  obtain ⟨w,w1,w2⟩:=pY ha (x:=x) ho;obtain ⟨ws,s1,s2⟩:=uU ha ho l;exact ⟨w::ws,by simp only [H5,w1,s1]; rfl,by simp [w2,s2]⟩
theorem cL {out:List Ct} {c x:Ct}:x∈XI out c↔x=c\/x∈out:=by
 have h:x∈out↔x∈out.take (QZ out c out.length)\/x∈out.drop (QZ out c out.length):=by
  rw [<-Qr,Ze]
 simp only [XI,Qr,Qk,h];constructor
 ·rintro (h | h | h)
  ·exact .inr (.inl h)
  ·exact .inl h
  ·exact .inr (.inr h)
 ·rintro (h | h | h)
  ·exact .inr (.inl h)
  ·exact .inl h
  ·exact .inr (.inr h)
theorem CX:∀ (l acc:List Ct) {y:Ct},y∈l.foldl XI acc↔y∈l\/y∈acc
 | [],acc,y=>by simp
 |
  c::l,acc,y=>by
  simp only [Z4];rw [CX l,cL,Qk];constructor
  ·rintro (h | h | h)
   ·exact .inl (.inr h)
   ·exact .inl (.inl h)
   ·exact .inr h
  ·rintro ((h | h) | h)
   ·exact .inr (.inl h)
   ·exact .inl h
   ·exact .inr (.inr h)
theorem LX {l:List Ct} {x:Ct}:x∈U6 l↔x∈l:=by unfold U6; rw [CX]; simp
theorem Qnd {ws:List Wt} (hw:∀ w∈ws,WtOk w):∃ o,NS ws=some o/\match o with
 | none=>∀ w∈ws,w.fails=none
 | some a=>Va a/\(∃ w∈ws,w.fails=some a)/\∀ w∈ws,∀ t,w.fails=some t->¬Pz t a:=by
 have hv:∀ t∈ws.filterMap (·.fails),Va t:=λt ht=>by
  obtain ⟨w,w1,w2⟩:=Jb.1 ht;exact (hw w w1).f t w2
 unfold NS;cases hf:ws.filterMap (·.fails) with
 |
  nil =>
  refine ⟨none,rfl,λw h=>?_⟩;cases e:w.fails with
  | none=>rfl
  |
   some t =>
   have:t∈ws.filterMap (·.fails):=Jb.2 ⟨w,h,e⟩;rw [hf] at this; cases this
 |
  cons b l =>
  rw [hf] at hv;obtain ⟨m,m1,m2,m3⟩:=WA l b hv;refine ⟨some m,by show (Il b l).map some=_; rw [m1]; rfl,hv m m2,?_,λw h t e=>?_⟩
  ·rw [<-hf] at m2;exact Jb.1 m2
  ·exact m3 t (by rw [<-hf]; exact Jb.2 ⟨w,h,e⟩)
theorem Ql5 {t a:Tm} (ht:Va t) (ha:Va a) {c:Int} (h:YT t a=some c) (h0:0<c):Pz a t:=by
 obtain ⟨c',c1,c2⟩:=YS ht ha;rw [h] at c1; injection c1 with c1; subst c1;rcases c2 with ⟨e,_⟩ | ⟨e,_⟩ | ⟨_,e⟩
 ·omega
 ·omega
 ·exact e
theorem pW {ol ws:List Wt} {now a:Tm} {l:List Ct} (hn:Va now) (ha:Va a) (hna:¬Pz a now) (ho:∀ w∈ol,WtOk w) (hk:∀ w∈ol,w.known=true->Pe w.c.p now w.fails/\∀ t,w.fails=some t->t∈NB w.c.p) (h:H5 ol a l=some ws) :
 ∀ w∈ws,w.known=true->Pe w.c.p a w.fails/\∀ t,w.fails=some t->t∈NB w.c.p:=by
 obtain ⟨h1,h2⟩:=Oq h;intro w hw hkn;obtain ⟨i,hi⟩:=Xq hw;have hil:i<l.length:=by rw [<-h1]; exact (Qg.1 hi).1
 obtain ⟨v,h3,h4⟩:=h2 i _ (Qe hil);rw [hi] at h4; injection h4 with h4; subst h4;rcases PZ h3 with e | ⟨v,v1,v2,v3,e,v5⟩
 ·rw [e] at hkn; cases hkn
 ·obtain ⟨k1,k2⟩:=hk v v1 v2;rw [e];show Pe (l[i]).p a v.fails/\∀ t,v.fails=some t->t∈NB (l[i]).p;rw [<-v3];refine ⟨Al hn.cut ha.cut hna k1 λt ht=>?_,k2⟩;obtain ⟨c,c1,c2⟩:=v5 t ht;exact Ql5 ((ho v v1).f t ht) ha c1 c2
structure Stab {β:Type} (Bc:Tm->List Ct) (Br:Tm->β):Prop where
 ok:BuildOk Bc
 fin:∃ Ps:List (List Int),(∀ p∈Ps,Cp p)/\∀ a,Va a->∀ x∈Bc a,x.p∈Ps
 st:∀ a b,Va a->Va b->(∀ x∈Bc a,Gn (U4 b) x.p=Gn (U4 a) x.p)->Bc b=Bc a/\Br b=Br a
structure KSt {β:Type} (Bc:Tm->List Ct) (Br:Tm->β) (c:Cr) (r1:β):Prop where
 inv:KInv c
 cs:c.l.map (·.c)=U6 (Bc c.now)
 r:r1=Br c.now
inductive Evs (Bc:Tm->List Ct) (t:Rat):Tm->List Tm->Prop
 | nil {a:Tm} (h:∀ x∈Bc a,∃ o,Pe x.p a o/\∀ u,o=some u->Pz (tq t) u):Evs Bc t a []
 | cons {a e:Tm} {E:List Tm} (he:Va e) (h1:Pz a e) (h2:¬Pz (tq t) e) (h3:∀ x∈Bc a,∃ o,Pe x.p a o/\∀ u,o=some u->¬Pz u e) (h4:∃ x∈Bc a,Pe x.p a (some e)) (h5:Evs Bc t e E):Evs Bc t a (e::E)
theorem Qkd {β:Type} {Bc:Tm->List Ct} {Br:Tm->β} (S:Stab Bc Br) {t:Rat} (ht:Qs 1640000 t) {Ps:Ua} (hP:∀ p∈Ps,Cp p) (hPs:∀ a,Va a->∀ x∈Bc a,x.p∈Ps) :
 ∀ (m:Nat) (c:Cr) (r1:β) (n:Int),mu (Ps.flatMap NB) c.now<=m->KSt Bc Br c r1->¬Pz (tq t) c.now ->
 ∃ c' r' E,YQ Bc Br t (m+1) c r1 n=some (c',r',n+(E.length:Nat))/\c'.now=tq t/\KSt Bc Br c' r'/\c'.ev=c.ev+(E.length:Nat)/\E.length<=m/\Evs Bc t c.now E:=by
 have hT:∀ t∈Ps.flatMap NB,Cut (Uz t):=λu hu=>by
  obtain ⟨p,p1,p2⟩:=Zj.1 hu;exact (Qn5 (hP p p1) u p2).cut
 have hq:=NC ht;intro m
 induction m with
 | zero=>?_
 | succ m ih=>?_
 all_goals
  intro c r1 n hm hS hnow;obtain ⟨⟨ok,kk⟩,hcs,hr⟩:=hS;obtain ⟨ws,w1,w2,w3⟩:=pT ok.n ok.l kk;have ok':=Dv ok w1;rw [hcs] at w2;have hc_w:∀ x∈Bc c.now,∃ w∈ws,w.c=x:=λx hx=>by
   have:x∈ws.map (·.c):=by rw [w2]; exact LX.2 hx
   exact Zf.1 this
  have hw_c:∀ w∈ws,w.c∈Bc c.now:=λw hw=>LX.1 (by rw [<-w2]; exact Kw hw)
  obtain ⟨o,o1,o2⟩:=Qnd ok'.l;have fin:(∀ w∈ws,∀ u,w.fails=some u->Pz (tq t) u)->KSt Bc Br ⟨tq t,ws,c.ev⟩ r1/\Evs Bc t c.now []:=λhall=>by
   have hg:∀ x∈Bc c.now,Gn (U4 (tq t)) x.p=Gn (U4 c.now) x.p:=λx hx=>by
    obtain ⟨w,hw,rfl⟩:=hc_w x hx;exact CU (S.ok.p _ ok.n _ hx).dp ok.n hq hnow (w3 w hw).2.1 (hall w hw)
   obtain ⟨s1,s2⟩:=S.st _ _ ok.n hq hg;refine ⟨⟨⟨⟨hq,ok'.l,ok'.k⟩,λw hw _=>⟨Al ok.n.cut hq.cut hnow (w3 w hw).2.1 (hall w hw),(w3 w hw).2.2⟩⟩,?_,?_⟩,.nil λx hx=>?_⟩
   ·show ws.map (·.c)=U6 (Bc (tq t)); rw [w2,s1]
   ·show r1=Br (tq t); rw [s2,hr]
   ·obtain ⟨w,hw,rfl⟩:=hc_w x hx;exact ⟨_,(w3 w hw).2.1,hall w hw⟩
 ·cases o with
  |
   none =>
   obtain ⟨f1,f2⟩:=fin λw hw u hu=>by rw [o2 w hw] at hu; cases hu
   exact ⟨_,_,[],by simp only [YQ]; rw [w1]; simp only [X5]; rw [o1]; simp,rfl,f1,by simp,by simp,f2⟩
  |
   some a =>
   obtain ⟨va,⟨w,hw,hwa⟩,hmin⟩:=o2;by_cases h0:0<Uz a t
   ·obtain ⟨f1,f2⟩:=fin λv hv u hu=>by
     have hu':=(ok'.l v hv).f u hu;exact pF hq.cut va.cut hu'.cut ((WV va.cut).1 h0) (hmin v hv u hu)
    exact ⟨_,_,[],by simp only [YQ]; rw [w1]; simp only [X5]; rw [o1]; simp [h0],rfl,f1,by simp,by simp,f2⟩
   ·exfalso;obtain ⟨k1,k2,k3⟩:=w3 w hw;rw [hwa] at k2;have:a∈Ps.flatMap NB:=Zj.2 ⟨_,hPs _ ok.n _ (hw_c w hw),k3 a hwa⟩;have:=Qkl ok.n.cut va.cut hT k2.2.2.1 this;omega
 ·cases o with
  |
   none =>
   obtain ⟨f1,f2⟩:=fin λw hw u hu=>by rw [o2 w hw] at hu; cases hu
   exact ⟨_,_,[],by simp only [YQ]; rw [w1]; simp only [X5]; rw [o1]; simp,rfl,f1,by simp,by simp,f2⟩
  |
   some a =>
   obtain ⟨va,⟨w,hw,hwa⟩,hmin⟩:=o2;by_cases h0:0<Uz a t
   ·obtain ⟨f1,f2⟩:=fin λv hv u hu=>by
     have hu':=(ok'.l v hv).f u hu;exact pF hq.cut va.cut hu'.cut ((WV va.cut).1 h0) (hmin v hv u hu)
    exact ⟨_,_,[],by simp only [YQ]; rw [w1]; simp only [X5]; rw [o1]; simp [h0],rfl,f1,by simp,by simp,f2⟩
   ·obtain ⟨k1,k2,k3⟩:=w3 w hw;rw [hwa] at k2;have hna:=AN ok.n.cut va.cut k2.2.2.1;have hmem:a∈Ps.flatMap NB:=Zj.2 ⟨_,hPs _ ok.n _ (hw_c w hw),k3 a hwa⟩;have hlt:=Qkl ok.n.cut va.cut hT k2.2.2.1 hmem;obtain ⟨w2',l1,l2⟩:=uU va ok'.l (U6 (Bc a));have hl:=pW ok.n va hna ok'.l (λv hv _=>(w3 v hv).2) l1;have hS':KSt Bc Br ⟨a,w2',c.ev+1⟩ (Br a):=⟨⟨Orr.lay_ok _ ok' va (S.ok.p a va) (S.ok.n a va) l1,hl⟩,l2,rfl⟩;obtain ⟨c',r',E,g1,g2,g3,g4,g5,g6⟩:=ih ⟨a,w2',c.ev+1⟩ (Br a) (n+1) (by show mu _ a<=m; omega) hS' (λh=>h0 ((WV va.cut).2 h));refine ⟨c',r',a::E,?_,g2,g3,by rw [g4]; simp; omega,by simp; omega,.cons va k2.2.2.1 (λh=>h0 ((WV va.cut).2 h)) (λx hx=>?_) ⟨w.c,hw_c w hw,k2⟩ g6⟩
    ·conv=>lhs; unfold YQ
     rw [w1]; simp only [X5]; rw [o1]; simp only [X5]; rw [if_neg h0,l1]; simp only [X5];rw [g1]; simp; omega
    ·obtain ⟨v,hv,rfl⟩:=hc_w x hx;exact ⟨_,(w3 v hv).2.1,hmin v hv⟩
end Orq
namespace Orq
open Orr Go
theorem Qea {a b:Tm} (ha:Cut (Uz a)) (hb:Cut (Uz b)) (h:¬Pz a b) (h':¬Pz b a):∀ q,Uz a q=Uz b q:=by
 rcases tri ha hb with h1 | h1 | h1
 ·exact absurd h1 h
 ·exact h1
 ·exact absurd h1 h'
theorem nR {a b b':Tm} (h:∀ q,Uz b q=Uz b' q):Pz a b↔Pz a b':=by
 unfold Pz; simp only [h]
theorem vY {a b b':Tm} (h:∀ q,Uz b q=Uz b' q):Pz b a↔Pz b' a:=by
 unfold Pz; simp only [h]
theorem UJ {p:W9} {a:Tm} (ha:Va a) {t t':Tm} (h:Pe p a (some t)) (h':Pe p a (some t')):∀ q,Uz t q=Uz t' q:=by
 obtain ⟨_,v,l,s,s0,h4,h5⟩:=h;obtain ⟨_,v',l',s',s0',h4',h5'⟩:=h';have es:s=s':=VO (h4 _ ha.cut (λ_ h=>h) l) (h4' _ ha.cut (λ_ h=>h) l');refine Qea v.cut v'.cut (λhlt=>?_) λhlt=>?_
 ·have:=VO (h4' _ v.cut (WI ha.cut v.cut (AN ha.cut v.cut l)) hlt) h5;omega
 ·have:=VO (h4 _ v'.cut (WI ha.cut v'.cut (AN ha.cut v'.cut l')) hlt) h5';omega
theorem Ck {p:W9} {a:Tm} (ha:Va a) {t:Tm} (h:Pe p a (some t)) (h':Pe p a none):False:=by
 obtain ⟨h1,v,l,s,s0,h4,h5⟩:=h;rcases h' with h' | ⟨s',s0',h'⟩
 ·exact h1 h'
 ·have e1:=VO (h' _ ha.cut λ_ h=>h) (h4 _ ha.cut (λ_ h=>h) l);have e2:=VO (h' _ v.cut (WI ha.cut v.cut (AN ha.cut v.cut l))) h5;omega
structure Quiet {β:Type} (Bc:Tm->List Ct) (Br:Tm->β) (a b:Tm):Prop where
 va:Va a
 vb:Va b
 le:¬Pz b a
 n:∀ x∈Bc a,∃ o,Pe x.p a o/\∀ u,o=some u->Pz b u
section
variable {β:Type} {Bc:Tm->List Ct} {Br:Tm->β} (S:Stab Bc Br)
include S
theorem Quiet.same {a b:Tm} (h:Quiet Bc Br a b):Bc b=Bc a/\Br b=Br a:=by
 refine S.st a b h.va h.vb λx hx=>?_
 obtain ⟨o,o1,o2⟩:=h.n x hx;exact CU (S.ok.p _ h.va _ hx).dp h.va h.vb h.le o1 o2
theorem LK {a b:Tm} (ha:Va a) (hb:Va b) (h:∀ q,Uz a q=Uz b q):Quiet Bc Br a b:=by
 refine ⟨ha,hb,λh'=>Eu hb.cut hb.cut ((nR h).1 h') ((nR h).1 h'),λx hx=>?_⟩;obtain ⟨r,_,r2,_⟩:=PT (S.ok.p _ ha _ hx) ha;refine ⟨r,r2,λu hu=>?_⟩;subst hu;obtain ⟨q,q1,q2⟩:=r2.2.2.1;exact ⟨q,by rw [<-h]; exact q1,q2⟩
theorem cM {t:Rat} {a:Tm} {E:List Tm} (hE:Evs Bc t a E):∀ {b:Tm} {E':List Tm},Quiet Bc Br a b->Evs Bc t b E'->E.length=E'.length:=by
 induction hE with
 |
  @nil a h =>
  intro b E' hq hE';have hs:=(Quiet.same S hq).1;cases hE' with
  | nil _=>rfl
  |
   cons he h1 h2 h3 h4 h5 =>
   exfalso;obtain ⟨x,hx,hx2⟩:=h4;rw [hs] at hx;obtain ⟨o,o1,o2⟩:=h x hx;obtain ⟨o',o1',o2'⟩:=hq.n x hx;cases o with
   |
    none =>
    cases o' with
    | none=>exact Ck hq.vb hx2 (Al hq.va.cut hq.vb.cut hq.le o1' o2')
    | some u=>exact Ck hq.va o1' o1
   |
    some u =>
    cases o' with
    | none=>exact Ck hq.va o1 o1'
    |
     some u' =>
     have e1:=UJ hq.va o1 o1';have e2:=UJ hq.vb (Al hq.va.cut hq.vb.cut hq.le o1' o2') hx2;obtain ⟨q,q1,q2⟩:=o2 u rfl;exact h2 ⟨q,q1,by rw [<-e2,<-e1]; exact q2⟩
 |
  @cons a e E he h1 h2 h3 h4 h5 ih =>
  intro b E' hq hE';have hs:=(Quiet.same S hq).1;have nx:∀ x∈Bc a,∀ u,Pe x.p a (some u)->Pz b u/\Pe x.p b (some u):=λx hx u hu=>by
   obtain ⟨o',o1',o2'⟩:=hq.n x hx;cases o' with
   | none=>exact (Ck hq.va hu o1').elim
   |
    some u' =>
    have e1:=UJ hq.va o1' hu;have hb':=o2' u' rfl;have hb2:Pz b u:=by obtain ⟨q,q1,q2⟩:=hb'; exact ⟨q,q1,by rw [<-e1]; exact q2⟩
    exact ⟨hb2,Al hq.va.cut hq.vb.cut hq.le hu λv hv=>by injection hv with hv; subst hv; exact hb2⟩
  obtain ⟨x0,hx0,hn0⟩:=h4;obtain ⟨hb0,hnb0⟩:=nx x0 hx0 e hn0;cases hE' with
  |
   nil h' =>
   exfalso;obtain ⟨o,o1,o2⟩:=h' x0 (by rw [hs]; exact hx0);cases o with
   | none=>exact Ck hq.vb hnb0 o1
   |
    some u =>
    have e1:=UJ hq.vb o1 hnb0;obtain ⟨q,q1,q2⟩:=o2 u rfl;exact h2 ⟨q,q1,by rw [<-e1]; exact q2⟩
  |
   @cons _ e' E'' he' h1' h2' h3' h4' h5' =>
   obtain ⟨x1,hx1,hn1⟩:=h4';rw [hs] at hx1;have a1:¬Pz e' e:=λhlt=>by
    obtain ⟨o,o1,o2⟩:=h3 x1 hx1;cases o with
    |
     none =>
     obtain ⟨o',o1',o2'⟩:=hq.n x1 hx1;cases o' with
     | none=>exact Ck hq.vb hn1 (Al hq.va.cut hq.vb.cut hq.le o1' o2')
     | some u=>exact Ck hq.va o1' o1
    |
     some u =>
     have e2:=UJ hq.vb (nx x1 hx1 u o1).2 hn1;exact o2 u rfl ((vY e2).2 hlt)
   have a2:¬Pz e e':=λhlt=>by
    obtain ⟨o,o1,o2⟩:=h3' x0 (by rw [hs]; exact hx0);cases o with
    | none=>exact Ck hq.vb hnb0 o1
    |
     some u =>
     have e2:=UJ hq.vb o1 hnb0;exact o2 u rfl ((vY e2).2 hlt)
   have:=ih (LK S he he' (Qea he.cut he'.cut a2 a1)) h5';simp [this]
theorem Qmi {t:Rat} {a:Tm} (ha:Va a) {E E':List Tm} (h:Evs Bc t a E) (h':Evs Bc t a E'):E.length=E'.length:=cM S h (LK S ha ha λ_=>rfl) h'
end
theorem Qi2 {p:W9} (h:Cp p):(NB p).length<=67:=by
 obtain ⟨l,l1,l2,_⟩:=QT h;unfold NB; rw [l1]; exact l2
theorem OV:∀ {Ps:Ua},(∀ p∈Ps,Cp p)->(Ps.flatMap NB).length≤67*Ps.length
 | [],_=>Qi _
 |
  p::Ps,h=>by
  have h1:=Qi2 (h p (by simp));have h2:=OV (Ps:=Ps) λq hq=>h q (Qf _ hq)
  rw [Jp,Qu,Q7]; omega
theorem Qkk (T:List Tm) (a:Tm):mu T a<=T.length:=Yp _ _
theorem eJ {β:Type} {Bc:Tm->List Ct} {Br:Tm->β} (S:Stab Bc Br) {a:Tm} (ha:Va a):KSt Bc Br ⟨a,(U6 (Bc a)).map fresh,0⟩ (Br a):=by
 refine ⟨⟨⟨ha,λw hw=>?_,?_⟩,λw hw hk=>?_⟩,?_,rfl⟩
 ·obtain ⟨x,hx,rfl⟩:=Zf.1 hw;exact ⟨S.ok.p _ ha x (ZH hx),λt ht=>by cases ht⟩
 ·show ((U6 (Bc a)).map fresh).length<=1000;rw [Zp,Bp]; exact S.ok.n _ ha
 ·obtain ⟨x,hx,rfl⟩:=Zf.1 hw;cases hk
 ·show ((U6 (Bc a)).map fresh).map (·.c)=U6 (Bc a);rw [List.map_map];show (U6 (Bc a)).map (λx=>x)=_;rw [List.map_id']
end Orq
namespace Orr
open Go Go.Proofs Tryz Orq
set_option maxRecDepth 10000
theorem oU {a b:Pt} (ha:Sc a.c) (hb:Sc b.c):Cp (Lu a b):=QE (Pl ha hb) (Pk ha hb)
def ZC (l:List Pt) (a:Tm):List Ct:=Tf (U4 a) (Rv a l)
abbrev NA (l:List Pt) (a:Tm):Uf:=Uj (Rv a l)
theorem yT {sg:W9->Int}:∀ {l:List Pt},(∀ p∈l,Sc p.c)->∀ x∈Tf sg l,Cp x.p
 | [],_,x,hx=>by cases hx
 | [_],_,x,hx=>by cases hx
 |
  a::b::l,h,x,hx=>by
  simp only [Tf] at hx;rcases Qk.1 hx with rfl | hx
  ·exact oU (h a (by simp)) (h b (by simp))
  ·exact yT (λp hp=>h p (Qf _ hp)) x hx
theorem Gu {t:Tm} {l:List Pt} {p:Pt}:p∈Rv t l↔p∈l:=by
 unfold Rv Dl; rw [XE]; simp
theorem Nk (t:Tm) (l:List Pt):(Rv t l).length=l.length:=LJ _ _
theorem kU {l:List Pt} (hl:∀ p∈l,Sc p.c) (hn:l.length≤1000):BuildOk (ZC l) :=
 ⟨λa _ x hx=>yT (λp hp=>hl p (Gu.1 hp)) x hx,λa _=>by unfold ZC; rw [Mq,Nk]; omega⟩
theorem BV {l:List Pt} {a:Tm} {c:Cr} {r1:Uf} (hl:∀ p∈l,Sc p.c) (hn:l.length≤1000) (ha:Va a):Uo prog 122 [.one (.ow 0 0),.agg (ta a)] [.blk 196 (Gy c (Uj l) r1)] [.one (.row (Uy (ZC l a)))] [.blk 196 (Gy c (Uj l) (NA l a))]:=by
 have cr:=qM hl (by omega) ha;have cc:=RO (l:=Rv a l) (t:=a) (λp hp=>hl p (Gu.1 hp)) (by rw [Nk]; omega) ha;refine Fl func122 rfl ?_;exact W4 [] [0] [.k Ep,.k cr,.k cc] rfl
theorem bL {l:List Pt} {a:Tm} (hl:∀ p∈l,Sc p.c) (hn:l.length≤1000) (ha:Va a):Uo prog 122 [.one (.ow 0 0),.agg (ta a)] [.blk 196 (wG (.row (Uj l)) .nils)] [.one (.row (Uy (ZC l a)))] [.blk 196 (wG (.row (Uj l)) (.row (NA l a)))]:=by
 have cr:=qM hl (by omega) ha;have cc:=RO (l:=Rv a l) (t:=a) (λp hp=>hl p (Gu.1 hp)) (by rw [Nk]; omega) ha;refine Fl func122 rfl ?_;exact W4 [] [0] [.k Ep,.k cr,.k cc] rfl
def Qfi (l:List Pt) (a:Tm):Cr:=⟨a,(U6 (ZC l a)).map fresh,0⟩
end Orr
namespace Orq
open Orr Go
theorem Ol {a:Tm} (ha:Va a):∀ (L:Ua),(∀ p∈L,Dp p)->∃ y,Uz a y=-1/\∀ q,Uz a q=-1->q≤y->∀ p∈L,Gn (U4 a) p=Us (Up p q)
 |
  [],_=>by
  obtain ⟨y,hy⟩:=ha.cut.hi;exact ⟨y,hy,λq _ _ p hp=>by cases hp⟩
 |
  p::L,h=>by
  obtain ⟨y,y1,y2⟩:=Ol ha L (λq hq=>h q (Qf _ hq));by_cases h0:p.length=0
  ·obtain rfl:=Qh h0;refine ⟨y,y1,λq q1 q2 r hr=>?_⟩;rcases Qk.1 hr with rfl | hr
   ·rw [Oj]; exact (Fj.2 rfl).symm
   ·exact y2 q q1 q2 r hr
  ·obtain ⟨⟨z,z1,z2⟩,_⟩:=Dt ha (h p (by simp)) h0;refine ⟨if y<=z then y else z,by split <;> assumption,λq q1 q2 r hr=>?_⟩;rcases Qk.1 hr with rfl | hr
   ·rw [<-Uq]; exact (z2 q q1 (by grind)).symm
   ·exact y2 q q1 (by grind) r hr
section Srt
variable {α:Type} {lt:α->α->Bool} {R:α->α->Prop}
theorem DD (irr:∀ x,¬R x x) (tr:∀ x y z,R x y->R y z->R x z):∀ {l m:List α},l.Pairwise R->m.Pairwise R->(∀ x,x∈l↔x∈m)->l=m
 | [],[],_,_,_=>rfl
 | [],y::m,_,_,h=>by have:=(h y).2 (by simp); cases this
 | x::l,[],_,_,h=>by have:=(h x).1 (by simp); cases this
 |
  x::l,y::m,hl,hm,h=>by
  rw [Q8] at hl hm;have e:x=y:=by
   rcases Qk.1 ((h x).1 (by simp)) with e | h1
   ·exact e
   ·rcases Qk.1 ((h y).2 (by simp)) with e | h2
    ·exact e.symm
    ·exact absurd (tr _ _ _ (hl.1 y h2) (hm.1 x h1)) (irr x)
  subst e;rw [DD irr tr hl.2 hm.2 λz=>?_];constructor
  ·intro hz;rcases Qk.1 ((h z).1 (Qf _ hz)) with e | h1
   ·subst e; exact absurd (hl.1 z hz) (irr z)
   ·exact h1
  ·intro hz;rcases Qk.1 ((h z).2 (Qf _ hz)) with e | h1
   ·subst e; exact absurd (hm.1 z hz) (irr z)
   ·exact h1
theorem DU {out:List α} {x:α}:∀ k,k<=out.length->(∀ j y,Dc lt out x k<=j->j<k->out[j]? = some y->lt x y=true)/\(0<Dc lt out x k->∃ y,out[Dc lt out x k-1]? = some y/\lt x y=false)
 | 0,_=>⟨λj y _ h=>by omega,λh=>by simp [Dc] at h⟩
 |
  k+1,hk=>by
  obtain ⟨y,hy⟩:=gxE (l:=out) (i:=k) (by omega);by_cases h:lt x y=true
  ·rw [mT hy h];obtain ⟨h1,h2⟩:=DU (out:=out) (x:=x) k (by omega);refine ⟨λj z a1 a2 a3=>?_,h2⟩;by_cases e:j=k
   ·subst e; rw [hy] at a3; injection a3 with a3; subst a3; exact h
   ·exact h1 j z a1 (by omega) a3
  ·have h:lt x y=false:=by simpa using h
   rw [jA hy h];exact ⟨λj z a1 a2 _=>by omega,λ_=>⟨y,by simpa using hy,h⟩⟩
theorem Qhd (tr:∀ x y z,R x y->R y z->R x z) {out:List α} {x:α} (ho:out.Pairwise R) (h1:∀ y∈out,lt x y=true->R x y) (h2:∀ y∈out,lt x y=false->R y x):(C5 lt out x).Pairwise R:=by
 obtain ⟨s1,s2⟩:=DU (lt:=lt) (out:=out) (x:=x) out.length (Qn _);have hle:=IF lt out x out.length;unfold C5;obtain ⟨k,hk⟩:=nmE (Dc lt out x out.length);rw [<-hk] at s1 s2 hle ⊢;have hd:(out.take k++out.drop k).Pairwise R:=by rw [Ze]; exact ho
 obtain ⟨d1,d2,d3⟩:=Xj.1 hd;have hR:∀ y∈out.drop k,R x y:=λy hy=>by
  obtain ⟨i,hi⟩:=Xq hy;rw [Z1] at hi;have:k+i<out.length:=(Qg.1 hi).1;exact h1 y (Qy hy) (s1 (k+i) y (by omega) this hi)
 have hL:∀ y∈out.take k,R y x:=λy hy=>by
  obtain ⟨i,hi⟩:=Xq hy;have hik:i<k:=by have:=(Qg.1 hi).1; simp at this; omega
  rw [V2 hik] at hi;obtain ⟨z,z1,z2⟩:=s2 (by omega);have hz:=h2 z (Qa z1) z2;by_cases e:i=k-1
  ·subst e; rw [hi] at z1; injection z1 with z1; subst z1; exact hz
  ·have hp:=J0.1 ho i (k-1) (by omega) (by omega) (by omega);obtain ⟨_,e1⟩:=Qg.1 hi;obtain ⟨_,e2⟩:=Qg.1 z1;rw [e1,e2] at hp;exact tr _ _ _ hp hz
 refine Xj.2 ⟨d1,Q8.2 ⟨hR,d2⟩,λy hy z hz=>?_⟩;rcases Qk.1 hz with rfl | hz
 ·exact hL y hy
 ·exact d3 y hy z hz
theorem SH (tr:∀ x y z,R x y->R y z->R x z) {S:α->Prop} (h1:∀ x y,S x->S y->lt x y=true->R x y) {D:α->α->Prop} (h2:∀ x y,S x->S y->D y x->lt x y=false->R y x) :
 ∀ (l acc:List α),acc.Pairwise R->(∀ x∈acc,S x)->(∀ x∈l,S x)->l.Pairwise D->(∀ x∈acc,∀ y∈l,D x y)->(l.foldl (C5 lt) acc).Pairwise R
 | [],acc,ha,_,_,_,_=>ha
 |
  x::l,acc,ha,hs,hl,hd,hx=>by
  rw [Q8] at hd;refine SH tr h1 h2 l (C5 lt acc x) ?_ ?_ (λy hy=>hl y (Qf _ hy)) hd.2 ?_
  ·exact Qhd tr ha (λy hy=>h1 x y (hl x (by simp)) (hs y hy)) (λy hy=>h2 x y (hl x (by simp)) (hs y hy) (hx y hy x (by simp)))
  ·intro y hy;rcases VZ.1 hy with rfl | hy
   ·exact hl _ (by simp)
   ·exact hs y hy
  ·intro y hy z hz;rcases VZ.1 hy with rfl | hy
   ·exact hd.1 z hz
   ·exact hx y hy z (Qf _ hz)
theorem DC:∀ {l:List α},l.Pairwise R->∀ {u v:α},u∈l->v∈l->u≠v->R u v\/R v u
 | [],_,_,_,h,_,_=>by cases h
 |
  x::l,hp,u,v,hu,hv,hne=>by
  rw [Q8] at hp;rcases Qk.1 hu with e | hu
  ·rcases Qk.1 hv with e' | hv
   ·exact absurd (e.trans e'.symm) hne
   ·rw [e]; exact .inl (hp.1 v hv)
  ·rcases Qk.1 hv with e' | hv
   ·rw [e']; exact .inr (hp.1 u hu)
   ·exact DC hp.2 hu hv hne
end Srt
def px (p:Pt) (q:Rat):Rat:=Up p.c.x q / (p.c.d:Rat)
def py (p:Pt) (q:Rat):Rat:=Up p.c.y q / (p.c.d:Rat)
def Ns (q:Rat) (x y:Pt):Prop:=px x q<px y q\/px x q=px y q/\(py x q<py y q\/py x q=py y q/\x.id<y.id)
theorem Ox (q:Rat) (x:Pt):¬Ns q x x:=by unfold Ns; grind
theorem ZZ (q:Rat) (x y z:Pt) (h:Ns q x y) (h':Ns q y z):Ns q x z:=by unfold Ns at *; grind
theorem xR {q:Rat} {x y:Pt} (h:x.id≠y.id) (h':¬Ns q x y):Ns q y x:=by unfold Ns at *; grind
theorem LZ {u v:Rat} {c d:Int} (hc:0<c) (hd:0<d):Us (v*(c:Rat)-u*(d:Rat))=Us (v / (d:Rat)-u / (c:Rat)):=by
 have hc':(0:Rat)<(c:Rat):=by exact_mod_cast hc
 have hd':(0:Rat)<(d:Rat):=by exact_mod_cast hd
 have e:v*(c:Rat)-u*(d:Rat)=((c:Rat)*(d:Rat))*(v / (d:Rat)-u / (c:Rat)):=by
  rw [J1,J1];have h1:=Wa (c:Rat) (by grind);have h2:=Wa (d:Rat) (by grind);grind
 rw [e,Nm (Xo hc' hd')]
theorem UN {x y:Pt} (hx:Sc x.c) (hy:Sc y.c) (q:Rat):Us (Up (Fg x.c y.c) q)=Us (px y q-px x q):=by
 unfold Fg px; rw [Pq,Hg,Hg]; exact LZ hx.n.2.2.1 hy.n.2.2.1
theorem UM {x y:Pt} (hx:Sc x.c) (hy:Sc y.c) (q:Rat):Us (Up (Ff x.c y.c) q)=Us (py y q-py x q):=by
 unfold Ff py; rw [Pq,Hg,Hg]; exact LZ hx.n.2.2.1 hy.n.2.2.1
theorem RR {a:Tm} (ha:Va a) {x y:Pt} (hx:Sc x.c) (hy:Sc y.c) {q:Rat} (h1:Gn (U4 a) (Fg x.c y.c)=Us (Up (Fg x.c y.c) q)) (h2:Gn (U4 a) (Ff x.c y.c)=Us (Up (Ff x.c y.c) q)):Rh (U4 a) x y=true↔Ns q x y:=by
 rw [UN hx hy] at h1;rw [UM hx hy] at h2;have d1:=(Pl hx hy).dp;have d2:=(Pk hx hy).dp;unfold Rh;simp only [Da];have t1:=U7 (px y q-px x q);have t2:=U7 (py y q-py x q);by_cases e1:(Fg x.c y.c).length=0
 ·rw [if_neg (by omega)];rw [Qh e1,Oj] at h1;have:px x q=px y q:=by grind
  by_cases e2:(Ff x.c y.c).length=0
  ·rw [if_neg (by omega)];rw [Qh e2,Oj] at h2;unfold Ns;simp only [decide_eq_true_eq];grind
  ·rw [if_pos (by omega)];have:=(Dt ha d2 e2).2;unfold Ns;simp only [decide_eq_true_eq];grind
 ·rw [if_pos (by omega)];have:=(Dt ha d1 e1).2;unfold Ns;simp only [decide_eq_true_eq];grind
def Dn (l:List Pt):Ua:=l.flatMap λx=>l.flatMap λy=>[Fg x.c y.c,Ff x.c y.c]
theorem Rp {l:List Pt} {x y:Pt} (hx:x∈l) (hy:y∈l):Fg x.c y.c∈Dn l/\Ff x.c y.c∈Dn l :=
 ⟨Zj.2 ⟨x,hx,Zj.2 ⟨y,hy,by simp⟩⟩,Zj.2 ⟨x,hx,Zj.2 ⟨y,hy,by simp⟩⟩⟩
theorem A7 {l:List Pt} (hl:∀ p∈l,Sc p.c):∀ p∈Dn l,Cp p:=λp hp=>by
 obtain ⟨x,hx,hp⟩:=Zj.1 hp;obtain ⟨y,hy,hp⟩:=Zj.1 hp;simp at hp;rcases hp with rfl | rfl
 ·exact Pl (hl x hx) (hl y hy)
 ·exact Pk (hl x hx) (hl y hy)
theorem nQ {l:List Pt} (hl:∀ p∈l,Sc p.c) (hd:l.Pairwise λx y=>x.id≠y.id) {a:Tm} (ha:Va a):∃ y,Uz a y=-1/\∀ q,Uz a q=-1->q≤y->(∀ u∈l,∀ v∈l,(Rh (U4 a) u v=true↔Ns q u v))/\(Rv a l).Pairwise (Ns q):=by
 obtain ⟨y,y1,y2⟩:=Ol ha (Dn l) λp hp=>(A7 hl p hp).dp
 refine ⟨y,y1,λq q1 q2=>?_⟩;have h:=y2 q q1 q2;have hb:∀ u∈l,∀ v∈l,(Rh (U4 a) u v=true↔Ns q u v):=λu hu v hv=>RR ha (hl u hu) (hl v hv) (h _ (Rp hu hv).1) (h _ (Rp hu hv).2)
 refine ⟨hb,?_⟩;exact SH (S:=λx=>x∈l) (D:=λx y=>x.id≠y.id) (ZZ q) (λu v hu hv h=>(hb u hu v hv).1 h) (λu v hu hv hne h=>xR (λe=>hne e.symm) λh'=>by
  rw [(hb u hu v hv).2 h'] at h; cases h) l [] .nil (λx hx=>by cases hx) (λx hx=>hx) hd (λx hx=>by cases hx)
theorem uI {a b:Tm} {x y:Pt} (h:Gn (U4 b) (Lu x y)=Gn (U4 a) (Lu x y)):Rh (U4 b) x y=Rh (U4 a) x y:=by
 unfold Lu C0 at h;unfold Rh;simp only [Da];by_cases e1:0<(Fg x.c y.c).length
 ·rw [if_pos e1,if_pos e1]; rw [if_pos e1] at h; rw [h]
 ·rw [if_neg e1,if_neg e1]; rw [if_neg e1] at h; rw [h]
theorem TR {a b:Tm} {q r:Rat}:∀ (l:List Pt),(∀ u∈l,∀ v∈l,(Rh (U4 a) u v=true↔Ns q u v))->(∀ u∈l,∀ v∈l,(Rh (U4 b) u v=true↔Ns r u v))->l.Pairwise (Ns q)->(∀ x∈Tf (U4 a) l,Gn (U4 b) x.p=Gn (U4 a) x.p)->l.Pairwise (Ns r)/\Tf (U4 b) l=Tf (U4 a) l
 | [],_,_,_,_=>⟨.nil,rfl⟩
 | [x],_,_,_,_=>⟨Y6 _ _,rfl⟩
 |
  x::y::l,ha,hb,hp,hc=>by
  rw [Q8] at hp;obtain ⟨i1,i2⟩:=TR (a:=a) (b:=b) (q:=q) (r:=r) (y::l) (λu hu v hv=>ha u (Qf _ hu) v (Qf _ hv)) (λu hu v hv=>hb u (Qf _ hu) v (Qf _ hv)) hp.2 (λz hz=>hc z (by simp only [Tf]; exact Qf _ hz));have h0:Gn (U4 b) (Lu x y)=Gn (U4 a) (Lu x y):=hc (Iq (U4 a) x y) (by simp [Tf]);have h1:Ns r x y:=(hb x (by simp) y (by simp)).1 (by rw [uI h0]; exact (ha x (by simp) y (by simp)).2 (hp.1 y (by simp)));refine ⟨Q8.2 ⟨λz hz=>?_,i1⟩,?_⟩
  ·rcases Qk.1 hz with rfl | hz
   ·exact h1
   ·exact ZZ r x y z h1 ((Q8.1 i1).1 z hz)
  ·simp only [Tf];rw [i2]; congr 1;unfold Iq; rw [h0]
theorem US {sg:W9->Int}:∀ {l:List Pt},∀ x∈Tf sg l,∃ u∈l,∃ v∈l,x.p=Lu u v
 | [],x,hx=>by cases hx
 | [_],x,hx=>by cases hx
 |
  a::b::l,x,hx=>by
  simp only [Tf] at hx;rcases Qk.1 hx with rfl | hx
  ·exact ⟨a,by simp,b,by simp,rfl⟩
  ·obtain ⟨u,hu,v,hv,e⟩:=US (l:=b::l) x hx;exact ⟨u,Qf _ hu,v,Qf _ hv,e⟩
theorem DX {l:List Pt} {u v:Pt} (hu:u∈l) (hv:v∈l):Lu u v∈Dn l:=by
 unfold Lu C0; split
 ·exact (Rp hu hv).1
 ·exact (Rp hu hv).2
theorem rM {l:List Pt} {a:Tm}:∀ x∈ZC l a,x.p∈Dn l:=λx hx=>by
 obtain ⟨u,hu,v,hv,e⟩:=US x hx;rw [e]; exact DX (Gu.1 hu) (Gu.1 hv)
theorem qY (l:List Pt):(Dn l).length=l.length*(l.length*2):=by
 have h1:∀ (x:Pt) (m:List Pt),(m.flatMap λy=>[Fg x.c y.c,Ff x.c y.c]).length=m.length*2:=λx m=>by
  induction m with
  | nil=>rfl
  | cons y m ih=>rw [Jp,Qu,ih,Q7]; simp; omega
 have h2:∀ m:List Pt,(m.flatMap λx=>l.flatMap λy=>[Fg x.c y.c,Ff x.c y.c]).length=m.length*(l.length*2):=λm=>by
  induction m with
  | nil=>simp
  | cons y m ih=>rw [Jp,Qu,ih,Q7,h1,X4,Ww,Jk]
 exact h2 l
theorem yM {l:List Pt} (hl:∀ p∈l,Sc p.c) (hd:l.Pairwise λx y=>x.id≠y.id) {a b:Tm} (ha:Va a) (hb:Va b) (h:∀ x∈ZC l a,Gn (U4 b) x.p=Gn (U4 a) x.p):Rv b l=Rv a l/\ZC l b=ZC l a:=by
 obtain ⟨q,q1,q2⟩:=nQ hl hd ha;obtain ⟨r,r1,r2⟩:=nQ hl hd hb;obtain ⟨a1,a2⟩:=q2 q q1 Qo;obtain ⟨b1,b2⟩:=r2 r r1 Qo;obtain ⟨c1,c2⟩:=TR (a:=a) (b:=b) (Rv a l) (λu hu v hv=>a1 u (Gu.1 hu) v (Gu.1 hv)) (λu hu v hv=>b1 u (Gu.1 hu) v (Gu.1 hv)) a2 h;have e:Rv b l=Rv a l:=DD (Ox r) (ZZ r) b2 c1 λx=>by rw [Gu,Gu]
 exact ⟨e,by unfold ZC; rw [e,c2]⟩
theorem Qqh {l:List Pt} (hl:∀ p∈l,Sc p.c) (hn:l.length≤1000) (hd:l.Pairwise λx y=>x.id≠y.id):Stab (ZC l) (NA l):=by
 refine ⟨kU hl hn,⟨Dn l,A7 hl,λa _ x hx=>?_⟩,λa b ha hb h=>?_⟩
 ·obtain ⟨u,hu,v,hv,e⟩:=US x hx;rw [e]; exact DX (Gu.1 hu) (Gu.1 hv)
 ·obtain ⟨e1,e2⟩:=yM hl hd ha hb h;exact ⟨e2,by unfold NA; rw [e1]⟩
end Orq
namespace Orq
theorem ang {ux uy vx vy wx wy:Rat} (hu:0<ux\/ux=0/\0<uy) (hv:0<vx\/vx=0/\0<vy) (hw:0<wx\/wx=0/\0<wy)
 (h1:0<=ux*vy-vx*uy) (h2:0<=vx*wy-wx*vy):0<=ux*wy-wx*uy/\(0<ux*vy-vx*uy\/0<vx*wy-wx*vy->0<ux*wy-wx*uy):=by
 have ux0:0<=ux:=by grind
 have wx0:0<=wx:=by grind
 rcases hv with hv | ⟨hv,hv2⟩
 ·have e:vx*(ux*wy-wx*uy)=ux*(vx*wy-wx*vy)+wx*(ux*vy-vx*uy):=by grind
  have hux:0<ux:=by
   rcases hu with h | ⟨h,h'⟩
   ·exact h
   ·have:=Xo hv h';rw [h] at h1; grind
  have p1:=Vj ux0 h2;have p2:=Vj wx0 h1;have key:∀ z:Rat,vx*z=ux*(vx*wy-wx*vy)+wx*(ux*vy-vx*uy)->0<=z:=λz hz=>by
   refine Rat.not_lt.1 λhn=>?_
   have:=Xo hv (show 0 < -z by grind);grind
  refine ⟨key _ e,λhs=>?_⟩;rcases hw with hw | ⟨hw,hw2⟩
  ·have hpos:0<vx*(ux*wy-wx*uy):=by
    rcases hs with hs | hs
    ·have:=Xo hw hs; grind
    ·have:=Xo hux hs; grind
   have h0:=key _ e;refine Jj.1 λhn=>?_
   have:ux*wy-wx*uy=0:=by grind
   rw [this] at hpos; grind
  ·have:=Xo hux hw2;rw [hw]; grind
 ·rw [hv] at h1 h2;have hw0:wx=0:=by
   rcases hw with hw | hw
   ·have:=Xo hw hv2; grind
   ·exact hw.1
  have hwy:0<wy:=by grind
  have p:=Vj ux0 (Qq hwy);refine ⟨by rw [hw0]; grind,λhs=>?_⟩;rw [hv,hw0] at hs;have hux:0<ux:=by
   rcases hs with hs | hs
   ·refine Jj.1 λhn=>?_
    have:ux=0:=by grind
    rw [this] at hs; grind
   ·grind
  have:=Xo hux hwy;rw [hw0]; grind
section
variable {α:Type} (X Y:α->Rat)
def lx (a b:α):Prop:=X a<X b\/X a=X b/\Y a<Y b
def Mf (a b c:α):Rat:=(X b-X a)*(Y c-Y a)-(X c-X a)*(Y b-Y a)
variable {X Y}
theorem C6 (a:α):¬lx X Y a a:=by unfold lx; grind
theorem xN {a b c:α} (h:lx X Y a b) (h':lx X Y b c):lx X Y a c:=by unfold lx at *; grind
theorem C7 {a b:α} (h:lx X Y a b):0<X b-X a\/X b-X a=0/\0<Y b-Y a:=by unfold lx at h; grind
theorem VS (a b:α):Mf X Y a b a=0/\Mf X Y a b b=0:=by unfold Mf; grind
theorem jF (a b c:α):Mf X Y a c b=- Mf X Y a b c:=by unfold Mf; grind
theorem IX (a b c:α):Mf X Y a b c=(X b-X a)*(Y c-Y b)-(X c-X b)*(Y b-Y a):=by unfold Mf; grind
def Edg (Q:α->α->Prop):List α->Prop
 | a::b::r=>Q a b/\Edg Q (b::r)
 | _=>True
def Cnv (R:α->α->α->Prop):List α->Prop
 | a::b::c::r=>R a b c/\Cnv R (b::c::r)
 | _=>True
theorem Edg.tail {Q:α->α->Prop} {a:α} {l:List α} (h:Edg Q (a::l)):Edg Q l:=by
 cases l with
 | nil=>trivial
 | cons b l=>exact h.2
theorem Cnv.tail {R:α->α->α->Prop} {a:α} {l:List α} (h:Cnv R (a::l)):Cnv R l:=by
 match l,h with
 | [],_=>trivial
 | [_],_=>trivial
 | b::c::l,h=>exact h.2
def Cu (s:α->α->α->Bool) (c:α):List α->List α
 | b::a::r=>if s a b c=true then b::a::r else Cu s c (a::r)
 | l=>l
def Se (s:α->α->α->Bool):List α->List α->List α
 | acc,[]=>acc
 | acc,c::l=>Se s (c::Cu s c acc) l
structure Stk (X Y:α->Rat) (P:List α) (st:List α):Prop where
 srt:st.Pairwise λb a=>lx X Y a b
 mem:∀ p∈st,p∈P
 edg:Edg (λb a=>∀ p∈P,0≤Mf X Y a b p) st
 cnv:Cnv (λc b a=>0<Mf X Y a b c) st
theorem Stk.tail {P:List α} {a:α} {st:List α} (h:Stk X Y P (a::st)):Stk X Y P st:=⟨(Q8.1 h.srt).2,λp hp=>h.mem p (Qf _ hp),h.edg.tail,h.cnv.tail⟩
theorem Qcw {P:List α} {s:α->α->α->Bool} {c:α} (hs:∀ a∈P,∀ b∈P,(s a b c=true↔0<Mf X Y a b c)) (hc:∀ p∈P,lx X Y p c) :
 ∀ (st:List α) (t:α),Stk X Y P (t::st)->(∀ p∈P,lx X Y t p->0≤Mf X Y t c p) ->
 ∃ t' st',Cu s c (t::st)=t'::st'/\Stk X Y P (t'::st')/\(∀ p∈P,lx X Y t' p->0≤Mf X Y t' c p)/\(∀ a r,st'=a::r->0<Mf X Y a t' c)/\(t'::st').getLast? = (t::st).getLast?
 | [],t,h,h2=>⟨t,[],rfl,h,h2,λa r e=>(by cases e),rfl⟩
 |
  a::r,t,h,h2=>by
  have ht:=h.mem t (by simp);have ha:=h.mem a (by simp);by_cases e:s a t c=true
  ·refine ⟨t,a::r,by simp only [Cu]; rw [if_pos e],h,h2,λa' r' e'=>?_,rfl⟩;injection e' with e1 _
   rw [<-e1]; exact (hs a ha t ht).1 e
  ·have hle:Mf X Y a t c<=0:=Rat.not_lt.1 λh'=>e ((hs a ha t ht).2 h')
   have hat:lx X Y a t:=(Q8.1 h.srt).1 a (by simp);obtain ⟨t',st',g1,g2,g3,g4,g5⟩:=Qcw hs hc r a h.tail λp hp hap=>by
    have e1:=h.edg.1 p hp;have k:=ang (C7 (hc a ha)) (C7 hat) (C7 hap) (by rw [jF] at *; unfold Mf at *; grind) (by unfold Mf at *; grind);unfold Mf; grind
   exact ⟨t',st',by simp only [Cu]; rw [if_neg e]; exact g1,g2,g3,g4,by rw [g5]; rfl⟩
theorem BL {P:List α} {c:α}:∀ (st:List α) (t:α),Stk X Y P (t::st)->lx X Y t c->(∀ a r,st=a::r->0<Mf X Y a t c)->Edg (λb a=>0<Mf X Y a b c) (t::st)
 | [],_,_,_,_=>trivial
 | [a],t,_,_,h=>⟨h a [] rfl,trivial⟩
 |
  a::q::r,t,hS,htc,h=>by
  have h1:=h a (q::r) rfl;have h0:0<Mf X Y q a t:=hS.cnv.1;have p1:=Q8.1 hS.srt;have p2:=Q8.1 p1.2;have hat:lx X Y a t:=p1.1 a (by simp);have hqa:lx X Y q a:=p2.1 q (by simp);refine ⟨h1,BL (q::r) a hS.tail (xN hat htc) λa' r' e=>?_⟩;injection e with e _;rw [<-e];rw [IX] at h0 h1 ⊢;have k:=(ang (C7 hqa) (C7 hat) (C7 htc) (Qq h0) (Qq h1)).2 (.inl h0);grind
theorem Qib {P:List α} {t:α} {st:List α} {c:α} (h:Stk X Y P (t::st)) (hc:∀ p∈P,lx X Y p c) (hP:∀ p∈P,p=t\/lx X Y p t\/lx X Y t p) (hb:∀ p∈P,(t::st).getLast? = some p\/∃ b,(t::st).getLast? = some b/\lx X Y b p) (h2:∀ p∈P,lx X Y t p->0≤Mf X Y t c p) (h3:∀ a r,st=a::r->0<Mf X Y a t c):Stk X Y (P++[c]) (c::t::st):=by
 have ht:=h.mem t (by simp);have htc:=hc t ht;have hf:=BL st t h htc h3;refine ⟨Q8.2 ⟨λp hp=>hc p (h.mem p hp),h.srt⟩,λp hp=>?_,⟨λp hp=>?_,?_⟩,?_⟩
 ·rcases Qk.1 hp with rfl | hp
  ·simp
  ·exact Xz _ (h.mem p hp)
 ·rcases Qr.1 hp with hp | hp
  ·rcases hP p hp with rfl | hpt | htp
   ·rw [(VS p c).1]; exact Qo
   ·cases st with
    |
     nil =>
     exfalso;rcases hb p hp with e | ⟨b,e,hb⟩
     ·injection e with e; subst e; exact C6 _ hpt
     ·injection e with e; subst e; exact C6 _ (xN hpt hb)
    |
     cons a r =>
     have e1:=h.edg.1 p hp;have h3:=h3 a r rfl;have hat:lx X Y a t:=(Q8.1 h.srt).1 a (by simp);have k:=(ang (C7 hpt) (C7 hat) (C7 htc) (by unfold Mf at *; grind) (by unfold Mf at *; grind)).1;unfold Mf; grind
   ·exact h2 p hp htp
  ·rw [Ql.1 hp,(VS t c).2]; exact Qo
 ·cases st with
  | nil=>trivial
  |
   cons a r =>
   have key:∀ l:List α,Edg (λb a=>∀ p∈P,0≤Mf X Y a b p) l->Edg (λb a=>0<Mf X Y a b c) l->Edg (λb a=>∀ p∈P++[c],0≤Mf X Y a b p) l:=by
    intro l
    induction l with
    | nil=>intros; trivial
    |
     cons x l ih =>
     cases l with
     | nil=>intros; trivial
     |
      cons y l =>
      intro k1 k2;refine ⟨λp hp=>?_,ih k1.2 k2.2⟩;rcases Qr.1 hp with hp | hp
      ·exact k1.1 p hp
      ·rw [Ql.1 hp]; exact Qq k2.1
   exact key _ h.edg hf
 ·cases st with
  | nil=>trivial
  | cons a r=>exact ⟨h3 a r rfl,h.cnv⟩
theorem BG {s:α->α->α->Bool} {row:List α} (hs:∀ a∈row,∀ b∈row,∀ c∈row,(s a b c=true↔0<Mf X Y a b c)) (hrow:row.Pairwise (lx X Y)) :
 ∀ (l P:List α) (t:α) (st:List α),row=P++l->Stk X Y P (t::st)->P.getLast? = some t->(t::st).getLast? = P.head? ->
 ∃ t' st',Se s (t::st) l=t'::st'/\Stk X Y row (t'::st')/\row.getLast? = some t'/\(t'::st').getLast? = row.head?
 |
  [],P,t,st,e,h,h1,h2=>by
  rw [Zw] at e; subst e;exact ⟨t,st,rfl,h,h1,h2⟩
 |
  c::l,P,t,st,e,h,h1,h2=>by
  have hPm:∀ p∈P,p∈row:=λp hp=>by rw [e]; exact Xz _ hp
  have hcm:c∈row:=by rw [e]; simp
  have hpw:=hrow;rw [e] at hpw;obtain ⟨w1,w2,w3⟩:=Xj.1 hpw;have hc:∀ p∈P,lx X Y p c:=λp hp=>w3 p hp c (by simp)
  have htop:∀ p∈P,p=t\/lx X Y p t:=λp hp=>by
   obtain ⟨P1,rfl⟩:∃ P1,P=P1++[t]:=by
    have:=Yv.1 h1;exact this
   rcases Qr.1 hp with hp | hp
   ·exact .inr ((Xj.1 w1).2.2 p hp t (by simp))
   ·exact .inl (Ql.1 hp)
  obtain ⟨t',st',g1,g2,g3,g4,g5⟩:=Qcw (λa ha b hb=>hs a (hPm a ha) b (hPm b hb) c hcm) hc st t h λp hp htp=>by
   rcases htop p hp with rfl | h'
   ·exact absurd htp (C6 _)
   ·exact absurd (xN htp h') (C6 _)
  have tot:∀ p∈P,p=t'\/lx X Y p t'\/lx X Y t' p:=λp hp=>by
   obtain ⟨i,hi,rfl⟩:=Vn.1 hp;obtain ⟨j,hj,e2⟩:=Vn.1 (g2.mem t' (by simp));rcases V7 i j with h' | h' | h'
   ·exact .inr (.inl (by rw [<-e2]; exact J0.1 w1 i j hi hj h'))
   ·subst h'; exact .inl e2
   ·exact .inr (.inr (by rw [<-e2]; exact J0.1 w1 j i hj hi h'))
  have hPne:P≠[]:=λh'=>by rw [h'] at h1; cases h1
  have hb:∀ p∈P,(t'::st').getLast? = some p\/∃ b,(t'::st').getLast? = some b/\lx X Y b p:=λp hp=>by
   rw [g5,h2];cases P with
   | nil=>exact absurd rfl hPne
   |
    cons f P' =>
    rcases Qk.1 hp with rfl | hp
    ·exact .inl rfl
    ·exact .inr ⟨f,rfl,(Q8.1 w1).1 p hp⟩
  have hpush:=Qib g2 hc tot hb g3 g4;obtain ⟨t2,st2,k1,k2,k3,k4⟩:=BG hs hrow l (P++[c]) c (t'::st') (by rw [e]; simp) hpush (by simp) (by
   rw [Jo,g5,h2];cases P with
   | nil=>exact absurd rfl hPne
   | cons f P'=>rfl)
  exact ⟨t2,st2,by simp only [Se]; rw [g1]; exact k1,k2,k3,k4⟩
theorem oZ {P:List α} (tot:∀ p∈P,∀ q∈P,p=q\/lx X Y p q\/lx X Y q p) {z:α} :
 ∀ (L L':List α) (f:α),(f::L).Pairwise (lx X Y)->(f::L').Pairwise (lx X Y)->(∀ p∈f::L,p∈P)->(∀ p∈f::L',p∈P) ->
 Edg (λa b=>∀ p∈P,0≤Mf X Y a b p) (f::L)->Edg (λa b=>∀ p∈P,0≤Mf X Y a b p) (f::L') ->
 Cnv (λa b c=>0<Mf X Y a b c) (f::L)->Cnv (λa b c=>0<Mf X Y a b c) (f::L')->(f::L).getLast? = some z->(f::L').getLast? = some z->L=L':=by
 have one:∀ (L L':List α) (f b b':α),(f::b::L).Pairwise (lx X Y)->(f::b'::L').Pairwise (lx X Y)->(∀ p∈f::b::L,p∈P)->b'∈P ->
  Edg (λa b=>∀ p∈P,0≤Mf X Y a b p) (f::b::L)->0≤Mf X Y f b' b->Cnv (λa b c=>0<Mf X Y a b c) (f::b::L)->(f::b::L).getLast? = some z->(f::b'::L').getLast? = some z->¬lx X Y b b':=by
  intro L L' f b b' s s' m m' e e' c l l' hlt;have s1:=Q8.1 s;have hfb:lx X Y f b:=s1.1 b (by simp);have hcol:Mf X Y f b b'=0:=by
   have:=e.1 b' m';rw [jF] at e'; grind
  cases L with
  |
   nil =>
   simp at l;subst l;have hz:b'=b\/lx X Y b' b:=by
    have:b∈f::b'::L':=Vo l';have s2:=(Q8.1 s').2;rcases Qk.1 this with rfl | h
    ·exact absurd hfb (C6 _)
    ·rcases Qk.1 h with h | h
     ·exact .inl h.symm
     ·exact .inr ((Q8.1 s2).1 b h)
   rcases hz with rfl | hz
   ·exact C6 _ hlt
   ·exact C6 _ (xN hlt hz)
  |
   cons d M =>
   have h1:0<Mf X Y f b d:=c.1;have h2:=e.2.1 b' m';have s2:=Q8.1 s1.2;have hbd:lx X Y b d:=s2.1 d (by simp);have k:=(ang (C7 hlt) (C7 hfb) (C7 hbd) (by unfold Mf at hcol; grind) (by rw [IX] at h1; exact Rat.le_of_lt h1)).2 (.inr (by rw [IX] at h1; exact h1));unfold Mf at h2; grind
 intro L
 induction L with
 |
  nil =>
  intro L' f s s' m m' e e' c c' l l';simp at l;cases L' with
  | nil=>rfl
  |
   cons b' M' =>
   exfalso;subst l;have h1:=(Q8.1 s').1 f (by
    rw [Jo] at l';exact Vo l')
   exact C6 _ h1
 |
  cons b M ih =>
  intro L' f s s' m m' e e' c c' l l';cases L' with
  |
   nil =>
   exfalso;simp at l';subst l';have h1:=(Q8.1 s).1 f (by
    rw [Jo] at l;exact Vo l)
   exact C6 _ h1
  |
   cons b' M' =>
   have hb:=m b (by simp);have hb':=m' b' (by simp);have heq:b=b':=by
    rcases tot b hb b' hb' with h | h | h
    ·exact h
    ·exact absurd h (one M M' f b b' s s' m hb' e (e'.1 b hb) c l l')
    ·exact absurd h (one M' M f b' b s' s m' hb e' (e.1 b' hb') c' l' l)
   subst heq;rw [Jo] at l l';rw [ih M' b (Q8.1 s).2 (Q8.1 s').2 (λp hp=>m p (Qf _ hp)) (λp hp=>m' p (Qf _ hp)) e.2 e'.2 c.tail c'.tail l l']
end
end Orq
namespace Orr
open Go
structure RawInt where
 b:Bool
 l:List Nat
structure RawPt where
 x:List RawInt
 y:List RawInt
 d:RawInt
 id:Int
structure RawInt.Ok (z:RawInt):Prop where
 u:∀ u∈z.l,u<4294967296
structure RawPt.Ok (z:RawPt):Prop where
 x:∀ a∈z.x,a.Ok
 y:∀ a∈z.y,a.Ok
 d:z.d.Ok
 id:-9223372036854775808<=z.id/\z.id<=9223372036854775807
end Orr
namespace Orr
def Hr (l:List Pt):Prop:=l.Pairwise λa b=>a.id<b.id
theorem Qha (id:Int):has [] id=false:=rfl
theorem xZ (p:Pt) (l:List Pt) (id:Int):has (p::l) id=if p.id<id then has l id else decide (p.id=id):=by
 by_cases h:p.id<id
 ·rw [if_pos h]; unfold has; simp only [Hb]; rw [if_pos h]; simp
 ·rw [if_neg h]; unfold has; simp only [Hb]; rw [if_neg h]; simp
theorem yK (p:Pt) (l:List Pt) (q:Pt):put (p::l) q=if p.id<q.id then p::put l q else q::p::l:=by
 unfold put;simp only [Hb]
 split <;> simp
theorem sD:∀ {l:List Pt} {id:Int},Hr l->(has l id=true↔∃ p∈l,p.id=id)
 | [],id,_=>by simp [Qha]
 |
  p::l,id,h=>by
  have h1:=Q8.1 h;rw [xZ]
  split
  ·rename_i hlt;rw [sD h1.2];constructor
   ·rintro ⟨x,hx,e⟩; exact ⟨x,Qf _ hx,e⟩
   ·rintro ⟨x,hx,e⟩
    rcases Qk.1 hx with rfl | hx
    ·omega
    ·exact ⟨x,hx,e⟩
  ·rename_i hge;rw [decide_eq_true_iff];constructor
   ·intro e; exact ⟨p,Qx ..,e⟩
   ·rintro ⟨x,hx,e⟩
    rcases Qk.1 hx with rfl | hx
    ·exact e
    ·have:=h1.1 x hx; omega
theorem MU:∀ {l:List Pt} {q:Pt},Hr l->has l q.id=false->Hr (put l q)
 | [],q,_,_=>by simp [put,Hb,Hr]
 |
  p::l,q,h,hn=>by
  have h1:=Q8.1 h;rw [xZ] at hn;rw [yK]
  split
  ·rename_i hlt;rw [if_pos hlt] at hn;refine Q8.2 ⟨λx hx=>?_,MU h1.2 hn⟩;rcases HT hx with rfl | hx
   ·exact hlt
   ·exact h1.1 x hx
  ·rename_i hge;rw [if_neg hge,decide_eq_false_iff_not] at hn;refine Q8.2 ⟨λx hx=>?_,h⟩;rcases Qk.1 hx with rfl | hx
   ·omega
   ·have:=h1.1 x hx; omega
end Orr
namespace Orr
open Go
section
variable {α:Type} {lt:α->α->Bool}
theorem cE (out:List α) (c:α):(C5 lt out c).Perm (c::out):=by
 unfold C5;exact (List.perm_middle).trans (by rw [Ze])
theorem SG:∀ (l acc:List α),(l.foldl (C5 lt) acc).Perm (l++acc)
 | [],acc=>List.Perm.refl _
 |
  c::l,acc=>by
  simp only [Z4];exact (SG l _).trans (((cE acc c).append_left l).trans List.perm_middle)
theorem gV (l:List α):(Dl lt l).Perm l:=by
 have:=SG (lt:=lt) l [];rwa [Zw] at this
end
end Orr
namespace Orr
open Go
theorem Qaz (c:Int) (l:W9):Hq (l.map (· * c))=Hq l*c.natAbs:=by
 have key:∀ (l:W9) (g:Nat),(l.map (· * c)).foldl (λg z=>Nat.gcd g z.natAbs) (g*c.natAbs)=l.foldl (λg z=>Nat.gcd g z.natAbs) g*c.natAbs:=by
  intro l
  induction l with
  | nil=>intro g; rfl
  |
   cons z l ih =>
   intro g;simp only [Zx,Z4,Yh,Nat.gcd_mul_right];exact ih _
 have:=key l 0;rwa [Yo] at this
theorem yE {M:List Pt} (hs:Hr M) {i j:Nat} {p r:Pt} (hij:i<j) (hi:M[i]? = some p) (hj:M[j]? = some r):p.id<r.id:=by
 obtain ⟨h1,e1⟩:=Qg.1 hi;obtain ⟨h2,e2⟩:=Qg.1 hj;rw [<-e1,<-e2];exact J0.1 hs i j h1 h2 hij
theorem Qcy {M:List Pt} (hs:Hr M) {i:Nat} {p:Pt} (h:M[i]? = some p):Hb M p.id=i :=
 JF (λj r hj hr=>yE hs hj hr h) (.inr ⟨p,h,Int.lt_irrefl _⟩)
theorem Qmt {M:List Pt} (hs:Hr M) {i:Nat} {p:Pt} (h:M[i]? = some p):has M p.id=true:=by
 unfold has; rw [Qcy hs h,h]; exact decide_eq_true rfl
theorem SN {M:List Pt} {i:Nat} (hi:i<M.length) (j:Nat):(M.take i++M.drop (i+1))[j]? = if j<i then M[j]? else M[j+1]? := by
 by_cases h:j<i
 ·rw [if_pos h,Zl (by rw [Qp]; omega),Xt,if_pos h]
 ·rw [if_neg h,Xe (by rw [Qp]; omega),Qp,Z1];congr 1; omega
theorem zO {M:List Pt} {i:Nat} (hi:i<M.length):(M.take i++M.drop (i+1)).length+1=M.length:=by
 rw [Qu,Qp,Q4]; omega
theorem Qcz {M:List Pt} (hs:Hr M) {i:Nat} {p:Pt} (h:M[i]? = some p):Hb (M.take i++M.drop (i+1)) p.id=i:=by
 have hi:=(Qg.1 h).1;refine JF (λj r hj hr=>?_) ?_
 ·rw [SN hi,if_pos hj] at hr; exact yE hs hj hr h
 ·by_cases hl:i+1<M.length
  ·refine .inr ⟨M[i+1],?_,?_⟩
   ·rw [SN hi,if_neg (Kd _)]; exact Qe hl
   ·have:=yE hs (Nat.lt_succ_self i) h (Qe hl); omega
  ·left; have:=zO hi; omega
theorem Qbb {M:List Pt} (hs:Hr M) {i:Nat} {p:Pt} (h:M[i]? = some p):has (M.take i++M.drop (i+1)) p.id=false:=by
 have hi:=(Qg.1 h).1;unfold has;rw [Qcz hs h,SN hi,if_neg (Kd _)];cases hn:M[i+1]? with
 | none=>rfl
 |
  some r =>
  have:=yE hs (Nat.lt_succ_self i) h hn;exact decide_eq_false (by omega)
end Orr
namespace Orr
def Ta (a b:Crv):W9:=JV (Fv (Fg a b) (Fg a b)) (Fv (Ff a b) (Ff a b))
def Gt (a b c d:Crv):W9:=Nt (Fh (Ta c d) ((a.d*b.d)*(a.d*b.d))) (Fh (Ta a b) ((c.d*d.d)*(c.d*d.d)))
theorem jP {a b:Crv} (ha:Cb a) (hb:Cb b):Uu (Ta a b)/\(Ta a b).length<=31/\Bd 4194312 (Ta a b):=by
 obtain ⟨_,l1,b1⟩:=jM ha hb;obtain ⟨_,l2,b2⟩:=jS ha hb;have m1:=Tl (Fg a b) (Fg a b);have m2:=Tl (Ff a b) (Ff a b);have q1:=S4 (u:=5) b1 b1 (by omega);have q2:=S4 (u:=5) b2 b2 (by omega);refine ⟨Fc _ _,?_,Uk (YV q1 q2) (by omega)⟩;have:=Ou (Fv (Fg a b) (Fg a b)) (Fv (Ff a b) (Ff a b));unfold Ta;omega
theorem uK {a b:Crv} (ha:Cb a) (hb:Cb b):U0 (a.d*b.d)<=2097152:=by
 have:=Gv a.d b.d; have:=ha.d; have:=hb.d; omega
theorem pX {a b:Crv} (ha:Cb a) (hb:Cb b):U0 ((a.d*b.d)*(a.d*b.d))<=4194304:=by
 have:=Gv (a.d*b.d) (a.d*b.d); have:=uK ha hb; omega
def Md (sg:W9->Int) (a b c d:Pt):Ct:=⟨5,a.id,b.id,c.id,d.id,Gt a.c b.c c.c d.c,Gn sg (Gt a.c b.c c.c d.c)⟩
theorem PH (sg:W9->Int) (a b c d:Pt):(Md sg a b c d).p=Gt a.c b.c c.c d.c:=by rw [Md]
def G8:Nat->List Pt->List (Pt×Pt)
 | 0,_=>[]
 | _+1,[]=>[]
 | k+1,x::l=>l.map (λy=>(x,y))++G8 k l
def Fo (l:List Pt):List (Pt×Pt):=G8 l.length l
theorem Cn:∀ (l:List Pt) (i:Nat) (x:Pt),l[i]? = some x->G8 (i+1) l=G8 i l++(l.drop (i+1)).map (λy=>(x,y))
 | [],i,x,h=>by simp at h
 |
  y::l,0,x,h=>by
  simp at h; subst h;simp [G8]
 |
  y::l,i+1,x,h=>by
  have h:l[i]? = some x:=by simpa using h
  have ih:=Cn l i x h;show l.map (λz=>(y,z))++G8 (i+1) l=(l.map (λz=>(y,z))++G8 i l)++_;rw [ih,Za];rfl
theorem Rz:∀ (k:Nat) (l:List Pt),∀ m∈G8 k l,m.1∈l/\m.2∈l
 | 0,l,m,h=>by simp [G8] at h
 | k+1,[],m,h=>by simp [G8] at h
 |
  k+1,x::l,m,h=>by
  rcases Qr.1 h with h | h
  ·obtain ⟨y,hy,rfl⟩:=Zf.1 h;exact ⟨Qx ..,Qf _ hy⟩
  ·obtain ⟨h1,h2⟩:=Rz k l m h;exact ⟨Qf _ h1,Qf _ h2⟩
theorem JK:∀ (k:Nat) (l:List Pt),(G8 k l).length<=k*l.length
 | 0,l=>by simp [G8]
 | k+1,[]=>by simp [G8]
 |
  k+1,x::l=>by
  have:=JK k l;simp only [G8,Qu,Zp,Q7];have e:(k+1)*(l.length+1)=k*l.length+k+l.length+1:=by rw [X4,Xg]; omega
  omega
def Sf (sg:W9->Int) (s m:Pt×Pt):Pt×Pt:=if Gn sg (Gt s.1.c s.2.c m.1.c m.2.c)<0 then m else s
def Gq (sg:W9->Int) (s:Pt×Pt) (ps:List (Pt×Pt)):Pt×Pt:=ps.foldl (Sf sg) s
theorem UZ (sg:W9->Int) (s m:Pt×Pt):Sf sg s m=m\/Sf sg s m=s:=by
 unfold Sf
 split
 ·exact .inl rfl
 ·exact .inr rfl
theorem Ir (sg:W9->Int) (s m:Pt×Pt) (ps:List (Pt×Pt)):Gq sg s (m::ps)=Gq sg (Sf sg s m) ps:=by unfold Gq; rw [List.foldl_cons]
theorem AA (sg:W9->Int) (s:Pt×Pt) (ps:List (Pt×Pt)) (m:Pt×Pt):Gq sg s (ps++[m])=Sf sg (Gq sg s ps) m:=by simp [Gq]
theorem Cj (sg:W9->Int) {l:List Pt}:∀ (ps:List (Pt×Pt)) (s:Pt×Pt),s.1∈l/\s.2∈l->(∀ m∈ps,m.1∈l/\m.2∈l)->(Gq sg s ps).1∈l/\(Gq sg s ps).2∈l
 | [],s,hs,_=>hs
 |
  m::ps,s,hs,h=>by
  have hn:(Sf sg s m).1∈l/\(Sf sg s m).2∈l:=by
   rcases UZ sg s m with e | e
   ·rw [e]; exact h m (Qx ..)
   ·rw [e]; exact hs
  rw [Ir];exact Cj sg ps (Sf sg s m) hn λx hx=>h x (Qf _ hx)
def I0 (s m:Pt×Pt):Bool:=decide (m.1.id≠s.1.id) || decide (m.2.id≠s.2.id)
def Pg (sg:W9->Int) (s:Pt×Pt) (ps:List (Pt×Pt)):List Ct:=(ps.filter (I0 s)).map λm=>Md sg s.1 s.2 m.1 m.2
theorem Qgz {sg:W9->Int} {s m:Pt×Pt} {ps:List (Pt×Pt)} (h:I0 s m=true):Pg sg s (ps++[m])=Pg sg s ps++[Md sg s.1 s.2 m.1 m.2]:=by simp [Pg,Y8,h]
theorem Qgy {sg:W9->Int} {s m:Pt×Pt} {ps:List (Pt×Pt)} (h:I0 s m=false):Pg sg s (ps++[m])=Pg sg s ps:=by simp [Pg,Y8,h]
theorem BP {sg:W9->Int} {s:Pt×Pt} {ps:List (Pt×Pt)} {c:Ct} (h:c∈Pg sg s ps):∃ x∈ps,Md sg s.1 s.2 x.1 x.2=c:=by
 unfold Pg at h;obtain ⟨x,hx,e⟩:=Zf.1 h;exact ⟨x,(J5.1 hx).1,e⟩
theorem BS (sg:W9->Int) (s:Pt×Pt) (ps:List (Pt×Pt)):(Pg sg s ps).length<=ps.length:=by
 unfold Pg;rw [Zp];exact Yp _ _
def O7 (sg:W9->Int):List Pt->List Pt
 | a::b::l=>[(Gq sg (a,b) (Fo (a::b::l))).1,(Gq sg (a,b) (Fo (a::b::l))).2]
 | _=>[]
def Cm (sg:W9->Int):List Pt->List Ct
 | a::b::l=>Pg sg (Gq sg (a,b) (Fo (a::b::l))) (Fo (a::b::l))
 | _=>[]
theorem dH (sg:W9->Int) {l:List Pt} (h:l.length<2):O7 sg l=[]/\Cm sg l=[]:=by
 match l,h with
 | [],_=>exact ⟨rfl,rfl⟩
 | [a],_=>exact ⟨rfl,rfl⟩
theorem Qn6 {l:List Pt} (h:¬l.length<2):∃ a b m,l=a::b::m:=by
 match l,h with
 | [],h=>simp at h
 | [a],h=>simp at h
 | a::b::m,_=>exact ⟨a,b,m,rfl⟩
theorem DV (sg:W9->Int) (l:List Pt):(Cm sg l).length<=l.length*l.length:=by
 match l with
 | []=>simp [Cm]
 | [a]=>simp [Cm]
 | a::b::m=>exact Qd (BS _ _ _) (JK _ _)
def Ej (l:List Ua):Uf:=l.map λr=>[.row (r.map λp=>[pl p])]
abbrev QV (r:Ua):Uf:=r.map λp=>[pl p]
theorem ZK (l:List Ua):(Ej l).length=l.length:=by simp [Ej]
def O0 (i:Nat) (rows:List Ua):Nat->List Ua
 | 0=>[]
 | j+1=>if j=i then O0 i rows j else O0 i rows j++[(rows.getD j []).drop 1]
def ZD (rows:List Ua) (i:Nat):List Ua:=O0 i rows rows.length
def Bi (f:Nat->W9) (rows:List Ua):Nat->W9
 | 0=>[]
 |
  i+1=>if ((rows.getD i []).getD 0 []).length=0 then Bi f rows i else
  if i % 2=0 then JV (Bi f rows i) (Fv ((rows.getD i []).getD 0 []) (f i)) else Nt (Bi f rows i) (Fv ((rows.getD i []).getD 0 []) (f i))
def Co:Nat->List Ua->W9
 | 0,_=>[1]
 | k+1,rows=>Bi (λi=>Co k (ZD rows i)) rows (k+1)
structure Sq (s:Nat) (ds:List Nat) (k w:Nat) (rows:List (List (List Int))):Prop where
 l:rows.length=k
 w:∀ r∈rows,r.length=w
 t:∀ r∈rows,∀ p∈r,Uu p
 b:∀ r∈rows,∀ p∈r,Bd s p
 n:∀ r∈rows,∀ (j:Nat) (p:List Int),r[j]? = some p->p.length≤ds.getD j 0+1
theorem PG {i:Nat} {rows:List Ua}:∀ {j:Nat} {r:Ua},j≤rows.length->r∈O0 i rows j->∃ q∈rows,r=q.drop 1
 | 0,r,_,h=>by simp [O0] at h
 |
  j+1,r,hj,h=>by
  simp only [O0] at h
  split at h
  ·exact PG (by omega) h
  ·rcases Qr.1 h with h | h
   ·exact PG (by omega) h
   ·rw [Ql.1 h];exact ⟨rows.getD j [],Qa (i:=j) (by rw [Qj,Qe (by omega)]; rfl),rfl⟩
theorem PU {i:Nat} {rows:List Ua}:∀ (j:Nat),(O0 i rows j).length=if i<j then j-1 else j
 | 0=>rfl
 |
  j+1=>by
  have ih:=PU (i:=i) (rows:=rows) j;simp only [O0]
  split
  ·rename_i e; subst e; rw [ih,if_neg (by omega),if_pos (by omega)]; omega
  ·rw [Qu,ih,Kg]
   split <;> split <;> omega
theorem Sq.min {s d k w:Nat} {ds:Ub} {rows:List Ua} (h:Sq s (d::ds) (k+1) (w+1) rows) {i:Nat} (hi:i<k+1):Sq s ds k w (ZD rows i):=by
 have hl:=h.l;have hm:∀ {r:Ua},r∈ZD rows i->∃ q∈rows,r=q.drop 1:=λh=>PG (Qn _) h
 refine ⟨by unfold ZD; rw [PU,hl,if_pos hi]; omega,λr hr=>?_,λr hr p hp=>?_,λr hr p hp=>?_,λr hr j p hp=>?_⟩
 ·obtain ⟨q,hq,rfl⟩:=hm hr;rw [Q4,h.w q hq]; omega
 all_goals obtain ⟨q,hq,rfl⟩:=hm hr
 ·exact h.t q hq p (Qy hp)
 ·exact h.b q hq p (Qy hp)
 ·rw [Z1] at hp;have:=h.n q hq (1+j) p hp;rw [Jk 1 j] at this;exact this
theorem Sq.at {s d k w:Nat} {ds:Ub} {rows:List Ua} (h:Sq s (d::ds) k (w+1) rows) {i:Nat} (hi:i<k):∃ p r,rows[i]? = some (p::r)/\(rows.getD i []).getD 0 []=p/\Uu p/\Bd s p/\p.length<=d+1:=by
 obtain ⟨r,hr⟩:=gxE (l:=rows) (i:=i) (by rw [h.l]; exact hi);have hm:=Qa hr;cases r with
 | nil=>have:=h.w _ hm; simp at this
 |
  cons p r =>
  have e:rows.getD i []=p::r:=by rw [Qj,hr]; rfl
  refine ⟨p,r,hr,by rw [e]; rfl,h.t _ hm p (by simp),h.b _ hm p (by simp),h.n _ hm 0 p rfl⟩
theorem EC {s d k w:Nat} {ds:Ub} {f:Nat->W9} {rows:List Ua} {B L:Nat} (h:Sq s (d::ds) k (w+1) rows) (hn:d<31) (hf:∀ i,i<k->Bd B (f i)/\(f i).length<=L+1):∀ i,i<=k->Uu (Bi f rows i)/\Bd (s+B+5+i) (Bi f rows i)/\(Bi f rows i).length<=d+L+1
 | 0,_=>⟨rfl,λz hz=>(by cases hz),Qi _⟩
 |
  i+1,hi=>by
  obtain ⟨h1,h2,h3⟩:=EC h hn hf i (by omega);obtain ⟨p,r,_,e,t,b,l⟩:=h.at (i:=i) (by omega);obtain ⟨f1,f2⟩:=hf i (by omega);have hp1:Bd (s+B+5) (Fv p (f i)):=S4 b f1 (by omega);have hp2:=Tl p (f i);simp only [Bi];rw [e]
  split
  ·exact ⟨h1,Uk h2 (by omega),h3⟩
  ·split
   ·exact ⟨Fc _ _,Uk (YV h2 hp1) (by omega),Qd (Ou _ _) (by omega)⟩
   ·exact ⟨Fc _ _,Uk (Bs h2 hp1) (by omega),Qd (Po _ _) (by omega)⟩
theorem HG {s:Nat}:∀ (k:Nat) (ds:Ub) (rows:List Ua),k<=4->ds.length=k->ds.sum<31->Sq s ds k k rows->Uu (Co k rows)/\Bd (k*(s+10)+1) (Co k rows)/\(Co k rows).length<=ds.sum+1
 | 0,ds,rows,_,_,_,_=>⟨rfl,λz hz=>(by simp [Co] at hz; subst hz; rw [Yo]; decide),by simp [Co]⟩
 | k+1,[],rows,_,hl,_,_=>by simp at hl
 |
  k+1,d::ds,rows,hk,hl,hd,h=>by
  rw [Kc] at hd;have ih:=λi (hi:i<k+1)=>HG k ds (ZD rows i) (by omega) (by simpa using hl) (by omega) (h.min hi)
  obtain ⟨h1,h2,h3⟩:=EC (f:=λi=>Co k (ZD rows i)) (B:=k*(s+10)+1) (L:=ds.sum) h (by omega) (λi hi=>⟨(ih i hi).2.1,(ih i hi).2.2⟩) (k+1) (Qn _);have e1:(k+1)*(s+10)=k*(s+10)+(s+10):=Z6 ..;rw [Kc];exact ⟨h1,Uk h2 (by omega),h3⟩
def jG (a b c:Crv):List Ua:=[[a.x,a.y,[a.d]],[b.x,b.y,[b.d]],[c.x,c.y,[c.d]]]
def Gk (a b c:Crv):W9:=Co 3 (jG a b c)
end Orr
