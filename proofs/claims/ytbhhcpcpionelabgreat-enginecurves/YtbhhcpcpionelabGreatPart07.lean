/- T24 T25 G1 G2 SortL KinL K1 K2 F6 F7 F8 F9 G3 G4 K3 K4 KGoL SplitL S1 SortQ HullG RawL NewsL BegL TurnL PairN DetL -/
import Derived.Test.YtbhhcpcpionelabGreatPart06
import Derived.Test.YtbhhcpcpionelabGreatPart00
import Derived.Test.YtbhhcpcpionelabGreatPart05
import Derived.Test.YtbhhcpcpionelabGreatPart04
set_option linter.all false
namespace Orq
open Orr Go
theorem Qfc:∀ {k:Nat} {a b:Uk} {l:Ul},tD k a b=some l->∀ p∈l,p.length≠0
 | 0,_,_,_,h=>by cases h
 |
  k+1,a,b,l,h=>by
  simp only [tD] at h
  split at h
  ·injection h with h; subst h; exact λp hp=>by cases hp
  ·rename_i h0;obtain ⟨r,_,h⟩:=Qd.1 h;obtain ⟨l',h1,h⟩:=Qd.1 h;injection h with h; subst h;intro p hp;rcases Ql.1 hp with rfl | hp
   ·exact h0
   ·exact Qfc h1 p hp
theorem Okp.pb {n s:Nat} {p:Uk} (h:Okp n s p) (hs:s<=16777216):Pb p:=⟨h.t,by have:=h.l; have:=h.z.1; omega,Ux h.b hs⟩
theorem Qaw {p:Uk} {q:Uk} {l:Ul} (hp:Pb p) (h:Lq p=some (q::l)) (hq:q.length≠0):∀ r∈q::l,U7 r/\r.length≠0:=by
 have h1:=(Orr.chain_ok hp h).2;unfold Lq at h;obtain ⟨a,_,h⟩:=Qd.1 h
 split at h
 ·cases h
 ·obtain ⟨d,_,h⟩:=Qd.1 h;obtain ⟨l',h3,h⟩:=Qd.1 h;injection h with h;injection h with e1 e2;subst e1; subst e2;intro r hr;refine ⟨(h1 r hr).t,?_⟩;rcases Ql.1 hr with rfl | hr
  ·exact hq
  ·exact Qfc h3 r hr
inductive RI (q:List Int) (L:List (List Rat)):Rat->List Tm->Rat->Prop
 | nil {lo hi:Rat} (h:lo<=hi) (hv:vv L lo=vv L hi):RI q L lo [] hi
 | cons {lo hi:Rat} {t:Tm} {l:List Tm} (h:lo<=t.lo) (hv:vv L lo=vv L t.lo) (ht:Vt (cz q) L t.lo t.hi) (hp:t.p=q) (hl:RI q L t.hi l hi):RI q L lo (t::l) hi
theorem RI.app {q:Uk} {L:Uo} {lo m hi:Rat} {l l':List Tm} (h:RI q L lo l m) (h':RI q L m l' hi):RI q L lo (l++l') hi:=by
 induction h with
 |
  nil h hv =>
  cases h' with
  | nil h2 hv2=>exact .nil (by grind) (by omega)
  | cons h2 hv2 ht hp hl=>exact .cons (by grind) (by omega) ht hp hl
 | cons h hv ht hp _ ih=>exact .cons h hv ht hp (ih h')
theorem Qff {D M k:Nat} {m:Rat} (h:Gr D M k m) (hM:0<M) (hs:Fa (D:Int)+Fa (M:Int)+k<=16777216):chq m=some m:=by
 have:=OX h hM hs;unfold chq;rw [if_pos ⟨this.1,this.2⟩]
theorem MF {q:Uk} {c:Ul} (hS:GW (cz q) (c.map cz)) (tq:U7 q) (nq:q.length<=9) (hc1:q.length<2->c=[q]) {D M F:Nat} (hM:0<M):∀ (k j:Nat) (lo hi:Rat),lo<hi->Gr D M j lo->Gr D M j hi->Fa (D:Int)+Fa (M:Int)+(j+k)<=16777216->(hi-lo)*((2^(To q q+1):Nat):Rat)<=((2^k:Nat):Rat) ->
 ∃ l,Ib q c (F+k+1) lo hi ((vv (c.map cz) lo:Int)-(vv (c.map cz) hi:Int))=some l/\RI q (c.map cz) lo l hi/\∀ t∈l,∃ k',k'≤j+k/\Gr D M k' t.lo/\Gr D M k' t.hi:=by
 intro k
 induction k with
 |
  zero =>
  intro j lo hi hl g1 g2 hs hK;have hle:=Ar hS hl;have h2:vv (c.map cz) lo<vv (c.map cz) hi+2:=by
   rcases Zb (vv (c.map cz) lo) (vv (c.map cz) hi+2) with h | h
   ·exact h
   ·exfalso;have lq:2<=q.length:=by
     rcases Zb q.length 2 with e | e
     ·have hvv:∀ x,vv (c.map cz) x=vv (c.map cz) 0:=λx=>by
       rcases hS with ⟨c0,hc0,hcc,hl'⟩ | ⟨g',l',k',hk,hg,hsc,hl'⟩
       ·rw [hl']; simp only [vv,tc,hcc]
       ·rw [hc1 e] at hl'; cases hl'
      rw [hvv lo,hvv hi] at h; omega
     ·exact e
    have:=Qpq hS tq nq lq hl h;rw [Vd] at hK;have h7:((1:Nat):Rat)=1:=rfl;rw [h7] at hK; grind
  simp only [Ib];by_cases e0:vv (c.map cz) lo=vv (c.map cz) hi
  ·rw [if_pos (by omega)];exact ⟨[],rfl,.nil (Qt hl) e0,λt ht=>by cases ht⟩
  ·rw [if_neg (by omega),if_pos (by omega)];refine ⟨[⟨q,lo,hi⟩],rfl,.cons Qp rfl ⟨hS,hl,by show vv _ lo=vv _ hi+1; omega⟩ rfl (.nil Qp rfl),λt ht=>?_⟩;rw [Qk.1 ht]; exact ⟨j,by omega,g1,g2⟩
 |
  succ k ih =>
  intro j lo hi hl g1 g2 hs hK;have hle:=Ar hS hl;show ∃ l,(if (vv (c.map cz) lo:Int)-(vv (c.map cz) hi:Int)=0 then some [] else if (vv (c.map cz) lo:Int)-(vv (c.map cz) hi:Int)=1 then some [⟨q,lo,hi⟩] else (chq (mid lo hi)).bind λm=>(Ib q c (F+k+1) lo m (Td c lo m)).bind λl=>(Ib q c (F+k+1) m hi ((vv (c.map cz) lo:Int)-(vv (c.map cz) hi:Int)-Td c lo m)).bind λr=>some (l++r))=some l/\_;by_cases e0:vv (c.map cz) lo=vv (c.map cz) hi
  ·rw [if_pos (by omega)];exact ⟨[],rfl,.nil (Qt hl) e0,λt ht=>by cases ht⟩
  by_cases e1:vv (c.map cz) lo=vv (c.map cz) hi+1
  ·rw [if_neg (by omega),if_pos (by omega)];refine ⟨[⟨q,lo,hi⟩],rfl,.cons Qp rfl ⟨hS,hl,e1⟩ rfl (.nil Qp rfl),λt ht=>?_⟩;rw [Qk.1 ht]; exact ⟨j,by omega,g1,g2⟩
  ·rw [if_neg (by omega),if_neg (by omega)];obtain ⟨m,hm⟩:=nmE ((lo+hi) / 2);have h2:(lo+hi) / 2*2=lo+hi:=G8 (by decide);rw [<-hm] at h2;have gm:Gr D M (j+1) m:=by rw [hm]; exact Qgv g1 g2
   have l1:lo<m:=by grind
   have l2:m<hi:=by grind
   rw [mI,<-hm,Qff gm hM (by omega)];show ∃ l,((Ib q c (F+k+1) lo m (Td c lo m)).bind λl=>(Ib q c (F+k+1) m hi ((vv (c.map cz) lo:Int)-(vv (c.map cz) hi:Int)-Td c lo m)).bind λr=>some (l++r))=some l/\_;rw [O3 (Qt l1),show (vv (c.map cz) lo:Int)-(vv (c.map cz) hi:Int)-((vv (c.map cz) lo:Int)-(vv (c.map cz) m:Int))=(vv (c.map cz) m:Int)-(vv (c.map cz) hi:Int) by omega];rw [gG k] at hK;have hp:∀ x y:Rat,(y-x)*2=hi-lo->(y-x)*((2^(To q q+1):Nat):Rat)<=((2^k:Nat):Rat):=λx y h=>by
    have:(y-x)*((2^(To q q+1):Nat):Rat)*2=(hi-lo)*((2^(To q q+1):Nat):Rat):=by rw [<-h]; grind
    grind
   obtain ⟨la,a1,a2,a3⟩:=ih (j+1) lo m l1 (OJ g1) gm (by omega) (hp lo m (by grind));obtain ⟨lb,b1,b2,b3⟩:=ih (j+1) m hi l2 gm (OJ g2) (by omega) (hp m hi (by grind));rw [a1];show ∃ l,((Ib q c (F+k+1) m hi ((vv (c.map cz) m:Int)-(vv (c.map cz) hi:Int))).bind λr=>some (la++r))=some l/\_;rw [b1];refine ⟨la++lb,rfl,a2.app b2,λt ht=>?_⟩;rcases Qr.1 ht with ht | ht
   ·obtain ⟨k',h1,h2,h3⟩:=a3 t ht; exact ⟨k',by omega,h2,h3⟩
   ·obtain ⟨k',h1,h2,h3⟩:=b3 t ht; exact ⟨k',by omega,h2,h3⟩
theorem Qtv {D M k:Nat} {q:Rat} (h:Gr D M k q):Gr D M k (-q):=by
 obtain ⟨u,hu⟩:=h.u;exact ⟨⟨-u,by rw [Vn,<-hu]; grind⟩,by rw [Ed]; exact h.b,h.d⟩
theorem uD {m s:Nat} (h:m<2^s):Fa ((m+1:Nat):Int)<=s+1:=by
 rw [Tz,Xf,Zq]; omega
theorem Qbn {z:Int} {s:Nat} (h:Fa z<=s):Fa ((z.natAbs+1:Nat):Int)<=s+1:=uD (Tz.1 h)
theorem Qpe {x:Rat} {m s g N:Nat} (hx:x<=2*((m+1:Nat):Rat)) (hm:m+1<=2^s) (hN:s+1+g<=N):x*((2^g:Nat):Rat)<=((2^N:Nat):Rat):=by
 have h3:=Zl.2 hm;have e:=gG s;have h4:(0:Rat)<=((2^s:Nat):Rat):=Xh;have h1:x<=((2^(s+1):Nat):Rat):=by rw [e]; grind
 have h5:(0:Rat)<=((2^g:Nat):Rat):=Xh;refine Zk (Ze h1 h5) ?_;have h6:2^(s+1)*2^g<=2^N:=by
  rw [<-Xd]; exact Zr (by decide) hN
 have:=Zl.2 h6;rw [Rat.natCast_mul] at this;exact this
theorem Qld {s:Nat} {l:Uk} (h:Bd s l):most l<2^s:=by
 have key:∀ (l:Uk) (m:Nat),m<2^s->Bd s l->l.foldl (λm z=>if m<z.natAbs then z.natAbs else m) m<2^s:=by
  intro l
  induction l with
  | nil=>exact λm h _=>h
  |
   cons y l ih =>
   intro m hm hb;simp only [Z8];refine ih _ ?_ λz hz=>hb z (Qg _ hz)
   have:=hb y (Qy ..);rw [Tz] at this
   split <;> assumption
 exact key l 0 (Z2 (by decide)) h
theorem Qs1 {p q:Uk} (h:AE p=some q):q=p:=by
 unfold AE at h
 split at h
 ·injection h with h; exact h.symm
 ·cases h
theorem Qcc {s N:Nat} {p:Uk} (hNe:N=63*s+5160) (hs9:s≤1180) (h:Okp 9 s p):∃ q c l,Pd p=some q/\Lq p=some c/\SV p=some l/\GW (cz q) (c.map cz)/\RI q (c.map cz) (-Gq q) l (Gq q)/\(∀ t∈l,Va t)/\(∀ x y,x<y->Gq q≤x\/y≤-Gq q->vv (c.map cz) x=vv (c.map cz) y)/\q.length≤p.length/\∀ t∈l,t.p=q/\t.lo<t.hi/\Bd (s+69) q/\∃ D M k,Gr D M k t.lo/\Gr D M k t.hi/\0<M/\Fa (D:Int)≤s+69/\Fa (M:Int)≤s+70/\k≤N:=by
 obtain ⟨pp,hpl,hpb⟩:=h.pr;obtain ⟨g,q',hq',sq⟩:=YR h;obtain ⟨q,l,q1,q2,hS,hl0⟩:=chain_ok h;rw [hq'] at q1;injection q1 with q1;subst q1;have e1:∀ t,U4 (Fc p) t=U4 q' t*U4 g t:=λt=>by rw [sq.e]; grind
 obtain ⟨p1,p2⟩:=Ru pp.t pp.n e1;have hch:tD 66 q' (Fc (Gp q'))=some l:=by
  have h2:=q2;unfold Lq at h2;rw [hq'] at h2;simp only [Jb] at h2
  split at h2
  ·cases h2
  ·cases hd:AE (Gp q') with
   | none=>rw [hd] at h2; cases h2
   |
    some d =>
    rw [hd] at h2;simp only [Jb] at h2;obtain rfl:d=Gp q':=Qs1 hd;cases hc:tD 66 q' (Fc (Gp q')) with
    | none=>rw [hc] at h2; cases h2
    | some l'=>rw [hc] at h2; simp at h2; rw [h2]
 have hll:=Md sq.pq.t sq.pg.t pp.t e1 p1 p2;have hl9:=h.l;have bq:Bd (s+69) q':=ZA hpb (by omega) pp.t sq.pq.t sq.pg.t pp.n e1;have hall:=Qaw (h.pb (by omega)) q2 sq.pq.n;have hld:Fi q'≠0:=by have:=sq.pq.l; omega
 have hb1:=GR hld;obtain ⟨D,hD⟩:=nmE ((Fi q').natAbs);obtain ⟨m,hm⟩:=nmE (most (q'.take (q'.length-1)));have hm2:m<2^(s+69):=by rw [hm]; exact Qld (s:=s+69) λz hz=>bq z (Qo hz)
 have hD0:0<D:=by omega
 have hDs:Fa (D:Int)<=s+69:=by
  have:=Mx bq;rw [Tz] at this ⊢;rw [Xf,hD]; exact this
 have hbe:=NW hld;rw [<-hD,<-hm] at hbe;have hDq:=nat_pos hD0;have hbm:Gq q'<=((m+1:Nat):Rat):=by
  have hD1:(1:Rat)<=(D:Rat):=by
   have:((1:Nat):Rat)<=(D:Rat):=Zl.2 hD0;exact this
  have hm0:(0:Rat)<=(m:Rat):=Xh;have h3:=B9 (a:=(m:Rat)) (c:=1) hm0 Qp (by decide) hD1;rcases Fx (Gq q') ((m+1:Nat):Rat) with h' | h'
  ·exact h'
  ·exfalso;have:=Vy h' hDq
   push_cast at this; grind
 have gb:Gr D (m+1) 0 (Gq q'):=by
  refine ⟨⟨(D+m:Nat),?_⟩,?_,hD0⟩
  ·rw [Vd,Yu,hbe];rw [show ((((D+m:Nat):Int)):Rat)=((D+m:Nat):Rat) from rfl]; push_cast; rfl
  ·have:Fe (Gq q')=Gq q':=by unfold Fe; rw [if_neg (by grind)]
   rw [this]; exact hbm
 have hMs:Fa ((m+1:Nat):Int)<=s+69+1:=uD (s:=s+69) hm2;have hK:(Gq q' - -Gq q')*((2^(To q' q'+1):Nat):Rat)<=((2^N:Nat):Rat):=by
  have hps:=On bq;have hg:To q' q'<=(2*s+164)*31:=by
   unfold To;exact Zh (by omega) (by omega)
  exact Qpe (s:=s+69) (g:=To q' q'+1) (N:=N) (by grind) hm2 (by omega)
 have hN:Fa (D:Int)+Fa ((m+1:Nat):Int)+(0+N)<=16777216:=by omega
 obtain ⟨F,hFe⟩:=nmE (99999-N);obtain ⟨ls,r1,r2,r3⟩:=MF (F:=F) hS sq.pq.t (by omega) (λh=>by rw [hl0 h]) (W3 m) N 0 (-Gq q') (Gq q') (by grind) (Qtv gb) gb hN hK;rw [show F+N+1=100000 by omega] at r1;have hchq:chq (Gq q')=some (Gq q'):=Qff gb (W3 m) (by omega);have key:∀ t∈ls,Va t/\t.p=q'/\t.lo<t.hi/\Bd (s+69) q'/\∃ D M k,Gr D M k t.lo/\Gr D M k t.hi/\0<M/\Fa (D:Int)≤s+69/\Fa (M:Int)≤s+70/\k≤N:=λt ht=>by
  obtain ⟨k',k1,k2,k3⟩:=r3 t ht;have hmem:∀ {lo hi:Rat} {ls:List Tm},RI q' ((q'::l).map cz) lo ls hi->t∈ls->Vt (cz q') ((q'::l).map cz) t.lo t.hi/\t.p=q':=λh=>by
   induction h with
   | nil=>intro ht; cases ht
   |
    cons h hv ht' hp hl ih =>
    intro ht;rcases Ql.1 ht with rfl | ht
    ·exact ⟨ht',hp⟩
    ·exact ih ht
  obtain ⟨v1,v2⟩:=hmem r2 ht;have lq2:2<=q'.length:=by
   rcases Zb q'.length 2 with e | e
   ·exfalso;have hvv:∀ x,vv ((q'::l).map cz) x=0:=λx=>by
     rw [hl0 e,sq.pq.one e];have hv1:∀ x:Rat,ev (cz [1]) x=1:=λx=>by rw [U5,Nh]
     simp only [Z1,X7,vv,tc,hv1];have:U9 1=1:=by decide
     rw [this]; decide
    have:=v1.v;rw [hvv,hvv] at this; omega
   ·exact e
  exact ⟨⟨.inr ⟨_,by rw [v2]; exact v1⟩,by rw [v2]; exact sq.pq.t,by rw [v2]; omega,by rw [v2]; exact lq2,by rw [v2]; exact Ux bq (by omega),λ_=>by rw [v2]; exact Ux bq (by omega),λ_=>by rw [v2]; exact ⟨l,_,g,hch,sq,v1⟩,D,m+1,k',k2,k3,W3 m,Qc (show _<=1000000 by omega) (Qt0 t)⟩,v2,v1.l,bq,D,m+1,k',k2,k3,W3 m,hDs,Qc hMs (Qm (s+70)),by rw [Z0] at k1; exact k1⟩
 refine ⟨q',q'::l,ls,hq',q2,?_,hS,r2,λt ht=>(key t ht).1,λx y hxy hb=>cS hS sq.pq.t sq.pq.n hxy hb (by grind),by omega,λt ht=>(key t ht).2⟩
 ·unfold SV;rw [q2,hq'];show (chq (Gq q')).bind _=_;rw [hchq];simp only [Jb];rw [Qcb hS hall];exact r1
theorem Qi1 {s:Nat} {p:Uk} (hs9:s≤1180) (h:Okp 9 s p):∃ q c l,Pd p=some q/\Lq p=some c/\SV p=some l/\GW (cz q) (c.map cz)/\RI q (c.map cz) (-Gq q) l (Gq q)/\(∀ t∈l,Va t)/\(∀ x y,x<y->Gq q≤x\/y≤-Gq q->vv (c.map cz) x=vv (c.map cz) y)/\q.length≤p.length/\∀ t∈l,t.p=q/\t.lo<t.hi/\Bd (s+69) q/\∃ D M k,Gr D M k t.lo/\Gr D M k t.hi/\0<M/\Fa (D:Int)≤s+69/\Fa (M:Int)≤s+70/\k≤63*s+5160:=Qcc rfl hs9 h
theorem Qi0 {p:Uk} (h:Okp 9 1180 p):∃ q c l,Pd p=some q/\Lq p=some c/\SV p=some l/\GW (cz q) (c.map cz)/\RI q (c.map cz) (-Gq q) l (Gq q)/\(∀ t∈l,Va t)/\(∀ x y,x<y->Gq q≤x\/y≤-Gq q->vv (c.map cz) x=vv (c.map cz) y):=by
 obtain ⟨q,c,l,h1,h2,h3,h4,h5,h6,h7,_⟩:=Qi1 (Qm _) h;exact ⟨q,c,l,h1,h2,h3,h4,h5,h6,h7⟩
theorem Ly {q:Uk} {L:Uo} (hS:GW (cz q) L) {c:Rat->Int} (hc:Cut c) {lo:Rat} (hH:∀ z,c z=-1->z<=lo->vv L z=vv L lo) {y0:Rat} (hy:c y0=-1) (hv:∀ z,lo<z->z<=y0->vv L z=vv L lo):∃ s,s≠0/\∀ z,c z=-1->z<=y0->U9 (ev (cz q) z)=s:=by
 have hall:∀ z,c z=-1->z<=y0->vv L z=vv L lo:=λz h1 h2=>by
  rcases Fx z lo with e | e
  ·exact hH z h1 e
  ·exact hv z e h2
 have hne:∀ z,c z=-1->z<=y0->U9 (ev (cz q) z)≠0:=λz h1 h2=>by
  obtain ⟨w,w1,w2⟩:=hc.dn z h1;have:=vQ hS w1 (by rw [hall w w2 (by grind),hall z h1 h2]);rw [this.s]; exact this.n
 refine ⟨U9 (ev (cz q) y0),hne y0 hy Qp,λz h1 h2=>?_⟩;rcases Classical.em (z=y0) with e | e
 ·rw [e]
 ·have:=vQ hS (x:=z) (y:=y0) (by grind) (by rw [hall z h1 h2,hall y0 hy Qp]);rw [this.s,Af (hne z h1 h2)]
structure Fst (o:List Int) (a t:Tm):Prop where
 lt:Nf a t
 s:∃ s,s≠0/\(∀ z,Fh a z=-1->Fh t z=1->U9 (ev (cz o) z)=s)/\RS (cz o) (Fh t) (-s)
def Non (o:Uk) (a:Tm):Prop:=∃ s,s≠0/\∀ z,Fh a z=-1->U9 (ev (cz o) z)=s
theorem Qbv {q:Uk} {L:Uo} (hS:GW (cz q) L) {a:Tm} (ha:Va a) {lo hi:Rat} {l:List Tm} (hR:RI q L lo l hi):(∀ t∈l,Va t)->(∀ z,hi<z->vv L z=vv L hi)->(∀ z,Fh a z=-1->z≤lo->vv L z=vv L lo)->∃ r,VU a l=some r/\match r with
 | none=>Non q a
 | some t=>t∈l/\Fst q a t:=by
 have ca:=ha.cut
 induction hR with
 |
  @nil lo hi h hv =>
  intro _ hhi hH;refine ⟨none,rfl,?_⟩;obtain ⟨y1,hy1⟩:=ca.hi;have hall:∀ z,lo<z->vv L z=vv L lo:=λz hz=>by
   rcases Fx z hi with e | e
   ·have h1:=Ar hS hz;have h2:vv L hi<=vv L z:=by
     rcases Classical.em (z=hi) with e' | e'
     ·rw [e']; exact Qm _
     ·exact Ar hS (by grind)
    omega
   ·rw [hhi z e,hv]
  obtain ⟨s,s0,hs⟩:=Ly hS ca hH hy1 λz h1 _=>hall z h1
  refine ⟨s,s0,λz hz=>?_⟩;rcases Fx z y1 with e | e
  ·exact hs z hz e
  ·obtain ⟨s',s0',hs'⟩:=Ly hS ca hH hz λz h1 _=>hall z h1
   rw [hs' z hz Qp,<-hs' y1 hy1 (Qt e),hs y1 hy1 Qp]
 |
  @cons lo hi t l h hv ht hp hl ih =>
  intro hV hhi hH;have hvt:=hV t (Qy ..);have ct:=hvt.cut;have ht':=ht;rw [<-hp] at ht';have ect:∀ z,Fh t z=cq (cz t.p) t.lo t.hi z:=By ht.l;obtain ⟨c,c1,c2⟩:=WE hvt ha;show ∃ r,((WL t a).bind λc=>if 0<c then some (some t) else VU a l)=some r/\_;rw [c1];show ∃ r,(if 0<c then some (some t) else VU a l)=some r/\_;have hlo1:Fh t t.lo=1:=by rw [ect]; exact Ez Qp
  have hlow:∀ z,lo<z->Fh t z=1->vv L z=vv L lo:=λz h1 h2=>by
   rcases Fx z t.lo with e | e
   ·have a1:=Ar hS h1;have a2:vv L t.lo<=vv L z:=by
     rcases Classical.em (z=t.lo) with e' | e'
     ·rw [e']; exact Qm _
     ·exact Ar hS (by grind)
    omega
   ·rw [ect] at h2;have hz:z<=t.hi:=by
     rcases Fx z t.hi with e' | e'
     ·exact e'
     ·rw [WI ht.l e'] at h2; omega
    rw [ht'.eq_lo e hz h2,hv]
  by_cases hc:0<c
  ·rw [if_pos hc];refine ⟨some t,rfl,Qy ..,?_⟩;have hlt:Nf a t:=by
    rcases c2 with ⟨e,_⟩ | ⟨e,_⟩ | ⟨_,h⟩
    ·omega
    ·omega
    ·exact h
   refine ⟨hlt,?_⟩;obtain ⟨m,m1,m2⟩:=hlt;obtain ⟨s,s0,hs⟩:=Ly hS ca hH m1 λz h1 h2=>hlow z h1 (by
    rcases Classical.em (z=m) with e | e
    ·rw [e]; exact m2
    ·exact ct.mono' (q:=z) (r:=m) (by grind) (by omega))
   have hall:∀ z,Fh a z=-1->Fh t z=1->U9 (ev (cz q) z)=s:=λz h1 h2=>by
    rcases Fx z m with e | e
    ·exact hs z h1 e
    ·obtain ⟨s',s0',hs'⟩:=Ly hS ca hH h1 λw w1 w2=>hlow w w1 (by
      rcases Classical.em (w=z) with e | e
      ·rw [e]; exact h2
      ·exact ct.mono' (q:=w) (r:=z) (by grind) (by omega))
     rw [hs' z h1 Qp,<-hs' m m1 (Qt e),hs m m1 Qp]
   refine ⟨s,s0,hall,?_⟩;obtain ⟨w,w1,w2,w3⟩:=BY ct m2 hlo1;have hwa:Fh a w=-1:=ca.mono m w w2 (by omega);have hsw:=hall w hwa w1;have hwh:w<t.hi:=by
    rw [ect] at w1;rcases Fx t.hi w with e | e
    ·have:=ht'.hi1;rcases Classical.em (t.hi=w) with e' | e'
     ·rw [<-e'] at w1; exact absurd w1 this
     ·rw [WI ht.l (by grind)] at w1; omega
    ·exact e
   have hww:vv L w=vv L t.lo:=ht'.eq_lo w3 (Qt hwh) (by rw [<-ect]; exact w1);have hvv:=ht.v;have hone:=yO hS hwh (by omega);have hlw:Pf (cz q) w=s:=by rw [Af (by rw [hsw]; exact s0),hsw]
   rw [hlw] at hone;have hd:∀ z,w<z->z<=t.hi->Fh t z=-1->U9 (ev (cz q) z)=-s:=λz z1 z2 z3=>by
    rw [ect] at z3;have e1:=ht'.eq_hi (by grind) z2 (by omega);have e2:=yO hS z1 (by omega);rw [hlw] at e2;have hz0:U9 (ev (cz q) z)≠0:=by
     rw [Ih (by grind) z2,hp] at z3;intro h0;rw [if_pos h0] at z3; omega
    rw [Af hz0] at e2; exact e2.2
   rcases ct.val t.hi with e | e | e
   ·rw [ect] at e; exact absurd e ht'.hi1
   ·obtain ⟨d,dp,hd'⟩:=Qw5 (p:=cz q) (x:=t.hi) (by rw [hone.2]; omega);refine ⟨t.hi+d,ct.mono t.hi _ (by grind) (by omega),λz h1 h2=>?_⟩;have hz:t.hi<z:=by
     rcases Fx z t.hi with e' | e'
     ·rcases Classical.em (z=t.hi) with e'' | e''
      ·rw [e''] at h1; omega
      ·have:=ct.mono z t.hi (by grind) (by omega); omega
     ·exact e'
    rw [hd' z hz (by grind),hone.2]
   ·exact ⟨t.hi,e,λz h1 h2=>hd z (ct.lt w1 h1) h2 h1⟩
  ·rw [if_neg hc];have hle:¬Nf a t:=λh=>by
    rcases c2 with ⟨e,h'⟩ | ⟨e,h'⟩ | ⟨e,_⟩
    ·exact Il ct ca h' h
    ·obtain ⟨z,z1,z2⟩:=h;have:=h' z; omega
    ·omega
   obtain ⟨r,r1,r2⟩:=ih (λx hx=>hV x (Qg _ hx)) hhi λz z1 z2=>by
    have hz:Fh t z≠1:=λh=>hle ⟨z,z1,h⟩
    have hzl:t.lo<z:=by
     rcases Fx z t.lo with e | e
     ·refine absurd ?_ hz;rw [ect]; exact Ez e
     ·exact e
    exact ht'.eq_hi hzl z2 (by rw [<-ect]; exact hz)
   refine ⟨r,r1,?_⟩;cases r with
   | none=>exact r2
   | some x=>exact ⟨Qg _ r2.1,r2.2⟩
theorem Qrb {c:Rat->Int} (hc:Cut c):∀ (n:Nat) (f:Un),HD f n->∃ s,s≠0/\RS f c s
 |
  n,f,h=>by
  rcases JU hc f with hv | ⟨s,hs,hn⟩
  ·cases n with
   |
    zero =>
    exfalso;obtain ⟨q,hq,_⟩:=fR hc (hv (Fe (f.getD 0 0)) (Cf h.1));cases f with
    | nil=>exact h.1 (by simp)
    |
     cons a l =>
     have:=Du (p:=l) λk=>by have:=h.2 (k+1) (by omega); rwa [Q4] at this
     simp only [ev,this,Zs] at hq; grind
   |
    succ n =>
    have hd:HD (Nu f) n:=by
     have key:∀ (f:Un) (k:Nat),(Nu f).getD k 0=((k+1:Nat):Rat)*f.getD (k+1) 0:=by
      intro f
      induction f with
      | nil=>intro k; simp only [Nu,Ks]; grind
      |
       cons a f ih =>
       intro k;simp only [Nu];rw [Ra,Q4];cases k with
       | zero=>rw [Zs]; push_cast; grind
       | succ k=>rw [Q4,ih]; push_cast; grind
     refine ⟨λh0=>?_,λk hk=>by rw [key,h.2 (k+1) (by omega)]; grind⟩;rw [key] at h0;rcases Y0.1 h0 with h1 | h1
     ·have:=nat_pos (show 0<n+1 by omega); grind
     ·exact h.1 h1
    obtain ⟨s,hs,h1⟩:=Qrb hc n (Nu f) hd;exact ⟨s,hs,yU hc hv h1 hs⟩
  ·exact ⟨s,hs,qF hc hn⟩
theorem Qi3 {c:Rat->Int} (hc:Cut c) {f p q:Un} {s s':Int} (hf:∀ t,ev f t=ev p t*ev q t) (h:RS p c s) (h':RS q c s'):RS f c (s*s'):=by
 obtain ⟨y,h1,h2⟩:=h;obtain ⟨y',h3,h4⟩:=h';refine ⟨if y<=y' then y else y',by split <;> assumption,λz z1 z2=>?_⟩;rw [hf,Ty,h2 z z1 (by clear h2 h4; grind),h4 z z1 (by clear h2 h4; grind)]
theorem Qi4 {c:Rat->Int} (hc:Cut c) {f o S:Un} {k:Rat} (hk:k≠0) (hf:∀ t,ev f t=k*(ev o t*(ev S t*ev S t))) (hnz:¬∀ t,ev f t=0) {s:Int} (h:RS o c s):RS f c (U9 k*s):=by
 obtain ⟨n,_,hn⟩:∃ n,n<S.length/\HD S n:=by
  rcases CW S with h1 | h1
  ·exact absurd (λt=>by rw [hf,h1]; grind) hnz
  ·exact h1
 obtain ⟨s',hs',h'⟩:=Qrb hc n S hn;have h1:=Qi3 hc (f:=Gw S S) (λt=>Fb t _ _) h' h';have h2:=Qi3 hc (f:=Gw o (Gw S S)) (λt=>Fb t _ _) h h1;have hsq:s'*s'=1:=by
  obtain ⟨y,y1,y2⟩:=h';have:=y2 y y1 Qp;rcases Fp (ev S y) with ⟨e,_⟩ | ⟨e,_⟩ | ⟨e,_⟩
  ·rw [<-this,e]; rfl
  ·omega
  ·rw [<-this,e]; rfl
 rw [hsq,W9] at h2;obtain ⟨y,y1,y2⟩:=h2;exact ⟨y,y1,λz z1 z2=>by
  have:=y2 z z1 z2;rw [Fb,Fb] at this;rw [hf,Ty,this]⟩
structure Cp (p:List Int):Prop where
 t:U7 p
 l:p.length<=9
 b:Bd 1110 p
theorem Cp.dp {p:Uk} (h:Cp p):Dp p:=⟨h.t,h.l,Ux h.b (by omega)⟩
theorem Cp.ok {p:Uk} (h:Cp p) (h0:p.length≠0):Okp 9 1180 p:=h.dp.ok h0
def Leq (a:Tm) (c:Rat->Int):Prop:=∀ q,c q=-1->Fh a q=-1
def Mj (p:Uk) (a:Tm):Option Tm->Prop
 | none=>p=[]\/∃ s,s≠0/\∀ c,Cut c->Leq a c->RS (cz p) c s
 | some t=>p≠[]/\Va t/\Nf a t/\∃ s,s≠0/\(∀ c,Cut c->Leq a c->(∃ m,c m=-1/\Fh t m=1)->RS (cz p) c s)/\RS (cz p) (Fh t) (-s)
theorem RI.len {q:Uk} {L:Uo} {lo hi:Rat} {l:List Tm} (h:RI q L lo l hi):l.length+vv L hi<=vv L lo:=by
 induction h with
 | nil h hv=>simp; omega
 | cons h hv ht hp hl ih=>have:=ht.v; simp only [Q6]; omega
theorem Qjz (x:Rat):∀ (L:Uo) (s:Int),tc x s L<=L.length
 | [],_=>Qm _
 |
  f::l,s=>by
  have h1:=Qjz x l;simp only [tc,Q6]
  repeat' split
  all_goals (first | (have:=h1 s; omega) | (have:=h1 (U9 (ev f x)); omega))
theorem Qvl (L:Uo) (x:Rat):vv L x<=L.length:=Qjz x L 0
theorem JW {p:Uk} (h:Cp p):∃ l,WZ p=some l/\l.length≤67/\(∀ t∈l,Va t)/\∀ a,Va a->∃ r,VU a l=some r/\Mj p a r/\∀ t,r=some t->t∈l:=by
 unfold WZ;by_cases h0:p.length=0
 ·have e:p=[]:=Qj h0;subst e;exact ⟨[],rfl,by decide,(λt ht=>by cases ht),λa _=>⟨none,rfl,.inl rfl,λt ht=>by cases ht⟩⟩
 ·obtain ⟨qp,o,q1,o1,hpt⟩:=Qhy (n:=9) (s:=1110) (p:=p) ⟨⟨by decide,by decide⟩,h.t,h0,h.l,h.b⟩;obtain ⟨g,sq⟩:=hpt.sq;obtain ⟨S,hS⟩:=hpt.os;obtain ⟨p1,p2,p3,p4,p5,p6,p7⟩:=Cd h.t h0;have hpl:=h.l;obtain ⟨hh,th,eh⟩:=hpt.oh;have bo:Bd 1179 o:=ZA (p5 1110 h.b) (by omega) p1 hpt.ot th (by omega) eh;obtain ⟨lo1,lo2⟩:=Ru p1 (by omega) eh;have hlen:=Md hpt.ot th p1 eh lo1 lo2;have oko:Okp 9 1180 o:=⟨aM,hpt.ot,by omega,by omega,Ux bo (by omega)⟩;obtain ⟨q,c,l,r1,r2,r3,hSt,hRI,hVa,hout⟩:=Qi0 oko;obtain ⟨g',q',s1,s2⟩:=YR oko;rw [r1] at s1;injection s1 with s1;subst s1;obtain ⟨_,_,_,_,_,o6,o7⟩:=Cd hpt.ot (by omega);have hg1:g'=[1]:=by
   refine s2.pg.one ?_;obtain ⟨E,hE⟩:=hpt.oq;have hE:∀ t,U4 qp t=U4 o t*ev E t:=λt=>by have:=hE t; rwa [U5,U5] at this
   obtain ⟨z,hz⟩:=s2.d;have hd1:∀ t,U4 o t=U4 g' t*(Hh o*U4 q t):=λt=>by rw [o7,s2.e]; grind
   have hdo:∀ t,dv (cz o) t=U4 g' t*(Hh o*ev z t):=λt=>by
    have:=Qfw (p:=cz o) (q:=Dm (Hh o) (cz (Fc o))) (λt=>by rw [U5,Gk,U5,o7]) t;rw [this,HZ,hz]; grind
   obtain ⟨k,hk,hkk⟩:=sq.num (d:=cz g') ⟨Gw (Dm (Hh o) (cz q)) E,λt=>by rw [U5,U5,hE,hd1,Fb,Gk,U5]; grind⟩ ⟨Tx (Gw (Dm (Hh o) z) E) (Gw (Dm (Hh o) (cz q)) (Nu E)),λt=>by
    have:=QK (f:=cz qp) (w:=cz o) (u:=E) (λt=>by rw [U5,U5,hE]) t;rw [Te,this,hdo,U5,U5,hd1,Gt,Fb,Fb,Gk,Gk,Te,U5]; grind⟩
   rcases Zb g'.length 2 with e | e
   ·exact e
   ·exfalso;have h1:=(TN s2.pg.t (by omega)).1;have h2:=Df (p:=cz g') (q:=[k]) (λt=>by rw [hkk]; simp only [ev]; grind) (g'.length-1);rw [h2,Qi,Qw (by simp; omega)] at h1;exact h1 rfl
  have hpq:∀ t,ev (cz p) t=((Hh p:Rat)*(Hh o:Rat))*(ev (cz q) t*(ev S t*ev S t)):=λt=>by
   rw [U5,U5,p7,hS,o7,s2.e,hg1,Nh]; grind
  have hk0:(Hh p:Rat)*(Hh o:Rat)≠0:=λh=>(Y0.1 h).elim (XJ p6) (XJ o6)
  have hpz:¬∀ t,ev (cz p) t=0:=λh'=>TG h.t (by omega) λt=>by rw [<-U5]; exact h' t
  obtain ⟨k,hk⟩:=nmE (U9 ((Hh p:Rat)*(Hh o:Rat)));have hkn:k≠0:=λh=>hk0 (Gg.1 (by rw [<-hk]; exact h))
  have ho:o.length≠0:=by omega
  rw [o1];show ∃ l,(if o.length=0 then some [] else SV o)=some l/\l.length<=67/\_;rw [if_neg ho];have hb1:=GR (L9 s2.pq.t s2.pq.n);have hll:=hRI.len;have hlv:=Qvl (c.map cz) (-Gq q);have hcl:=(Orr.chain_ok (p:=o) ⟨hpt.ot,by omega,Ux bo (by omega)⟩ r2).1;rw [Q7] at hlv;refine ⟨l,r3,by omega,hVa,λa ha=>?_⟩;obtain ⟨r,n1,n2⟩:=Qbv hSt ha hRI hVa (λz hz=>(hout _ _ hz (.inl Qp)).symm) λz _ hz=>by
   rcases Classical.em (z=-Gq q) with e | e
   ·rw [e]
   ·exact hout z _ (by grind) (.inr Qp)
  refine ⟨r,n1,?_,λt ht=>by subst ht; exact n2.1⟩;cases r with
  |
   none =>
   obtain ⟨s,hs,hz⟩:=n2;refine .inr ⟨k*s,Jn hkn hs,λc hc hac=>?_⟩;obtain ⟨y,hy⟩:=hc.hi;have h1:RS (cz q) c s:=⟨y,hy,λz z1 _=>hz z (hac z z1)⟩;rw [hk]; exact Qi4 hc hk0 hpq hpz h1
  |
   some t =>
   obtain ⟨hm,hlt,s,hs,hz,hrs⟩:=n2;refine ⟨λe=>h0 (by rw [e]; rfl),hVa t hm,hlt,k*s,Jn hkn hs,λc hc hac ⟨m,m1,m2⟩=>?_,?_⟩
   ·have h1:RS (cz q) c s:=⟨m,m1,λz z1 z2=>hz z (hac z z1) (by
     rcases Classical.em (z=m) with e | e
     ·rw [e]; exact m2
     ·exact (hVa t hm).cut.mono' (q:=z) (r:=m) (by grind) (by omega))⟩
    rw [hk]; exact Qi4 hc hk0 hpq hpz h1
   ·have:=Qi4 (hVa t hm).cut hk0 hpq hpz hrs;rw [<-hk] at this;rw [show -(k*s)=k*-s by rw [Kn]]; exact this
structure Sz (s n:Nat) (t:Tm):Prop where
 n:t.p.length<=n
 b:Bd (s+138) t.p
 g:∃ D M k,Gr D M k t.lo/\Gr D M k t.hi/\0<M/\Fa (D:Int)<=s+138/\Fa (M:Int)<=s+139/\k<=63*s+9507
theorem Qht {p:Uk} (h:Cp p) {a:Tm} (ha:Va a):∃ r,SQ p a=some r/\Mj p a r:=by
 obtain ⟨l,l1,_,_,l3⟩:=JW h;obtain ⟨r,r1,r2,_⟩:=l3 a ha;refine ⟨r,?_,r2⟩;unfold SQ;rw [l1]; exact r1
theorem HN:∀ (l:List Tm) (b:Tm),(∀ t∈b::l,Va t)->∃ m,QH b l=some m/\m∈b::l/\∀ t∈b::l,¬Nf t m
 |
  [],b,h=>⟨b,rfl,Qy ..,λt ht h'=>by
  rw [Qk.1 ht] at h';have hb:=(h b (Qy ..)).cut;exact Il hb hb h' h'⟩
 |
  a::l,b,h=>by
  have ha:=h a (by simp);have hb:=h b (by simp);obtain ⟨c,c1,c2⟩:=WE ha hb;obtain ⟨m,m1,m2,m3⟩:=HN l (if c<0 then a else b) λt ht=>by
   rcases Ql.1 ht with rfl | ht
   ·split <;> assumption
   ·exact h t (by simp [ht])
  refine ⟨m,by simp only [QH]; rw [c1]; exact m1,?_,λt ht=>?_⟩
  ·rcases Ql.1 m2 with e | e
   ·rw [e]; split <;> simp
   ·simp [e]
  ·have hm:Va m:=by
    rcases Ql.1 m2 with e | e
    ·rw [e]; split <;> assumption
    ·exact h m (by simp [e])
   have hfst:=m3 _ (Qy ..);have tr:∀ x y:Tm,Va x->Va y->¬Nf x y->¬Nf y m->¬Nf x m:=λx y hx hy h1 h2 h3=>by
    rcases tri hy.cut hm.cut with h4 | h4 | h4
    ·exact h2 h4
    ·obtain ⟨q,q1,q2⟩:=h3;exact h1 ⟨q,q1,by rw [h4]; exact q2⟩
    ·obtain ⟨q,q1,q2⟩:=h3;obtain ⟨r,r1,r2⟩:=h4;have:=hm.cut.lt q2 r1;exact h1 ⟨q,q1,hy.cut.mono' this (by omega)⟩
   rcases Ql.1 ht with rfl | ht
   ·by_cases hc:c<0
    ·rw [if_pos hc] at hfst;refine tr _ a hb ha ?_ hfst;rcases c2 with ⟨_,h'⟩ | ⟨e,_⟩ | ⟨e,_⟩
     ·exact λh''=>Il ha.cut hb.cut h' h''
     ·omega
     ·omega
    ·rw [if_neg hc] at hfst; exact hfst
   ·rcases Ql.1 ht with rfl | ht
    ·by_cases hc:c<0
     ·rw [if_pos hc] at hfst; exact hfst
     ·rw [if_neg hc] at hfst;refine tr _ b ha hb ?_ hfst;rcases c2 with ⟨e,_⟩ | ⟨_,h'⟩ | ⟨_,h'⟩
      ·omega
      ·rintro ⟨q,q1,q2⟩
       have:=h' q; omega
      ·exact λh''=>Il ha.cut hb.cut h'' h'
    ·exact m3 t (by simp [ht])
end Orq
namespace Orr
open Go Go.Proofs Tryz Orq
set_option maxRecDepth 10000
theorem Dp.pb {p:Uk} (h:Dp p):Pb p:=⟨h.t,by have:=h.l; omega,Ux h.b (by have:=h.l; omega)⟩
theorem Qwk {p:Uk} {a:Tm} (hp:Dp p) (ha:Va a):Uh 203 [pr p,.agg (ta a)] [.oi (Fl a p)]:=Qli (Dp.pb hp) ha.tb (Qja hp ha).1
theorem Qwd {p:Uk} {a:Tm} (hp:Dp p) (ha:Va a):Uh 202 [pr p,.one (.sh (ta a))] [.oi (Fl a p)]:=Ue func202 rfl [.k (Qwk hp ha)] rfl
theorem Qmg {p:Uk} {fid:Nat} {l1:Up} {sgn:Uk->Int} (hp:Dp p) (h:∀ p,Dp p->EF prog fid [pr p,.one (.sh l1)] [.oi (sgn p)]):Uh 201 [pr p,.one (.fn fid [] [.sh l1])] [.oi (Tj sgn p.length p)]:=by
 have hpb:=Dp.pb hp;refine Ft func201 rfl ?_;refine Ub [.k (Hn hpb.t hpb.ln hpb.bd)] rfl ?_;refine Ug (S:=Uk) 0 (λL1 s=>(0,.v (pr s))::L1) (λ_=>[]) (λs=>s.length) (λs=>Dp s/\Tj sgn s.length s=Tj sgn p.length p) p ⟨hp,rfl⟩ rfl rfl λr ⟨j1,j4⟩=>?_
 rw [<-j4];have jb:=Dp.pb j1;by_cases h0:r.length=0
 ·have e:=uT sgn h0;rw [e];exact Ud [.f (by simp; exact Qj h0)] rfl
 ·have hs:=h r j1;by_cases hz:sgn r=0
  ·have hlp:=Mz r;refine Ub [.t (by simp; omega),.k hs,.f (by simpa using hz),.k (Iv jb.ln jb.bd)] rfl ?_;exact rd (Gp r) (by omega) ⟨j1.der,by rw [<-uR sgn (by omega) hz]⟩ rfl
  ·rw [uH sgn (by omega) hz];exact Ud [.t (by simp; omega),.k hs,.t (by simpa using hz)] rfl
abbrev gmA (a:Tm) (p:Uk):Int:=Hd (Fl a) p
theorem TU {p:Uk} {a:Tm} (hp:Dp p) (ha:Va a):Uh 168 [pr p,.agg (ta a)] [.oi (gmA a p)] :=
 Ue func168 rfl [.k (Qmg (sgn:=Fl a) hp λ_ h=>Qwd h ha)] rfl
theorem kB {t:Tm} {a b:Pt} {ps:Ul} (hps:∀ p∈ps,Dp p) (ht:Va t) (hl:ps.length<1000):Uh 237 [.agg (ta t),.agg (U6 a),.agg (U6 b),.one (.row (Sx ps))] [.one (.bool (Ll (Fl t) a b ps))]:=by
 refine Ft func237 rfl ?_;have hpl:(Sx ps).length=ps.length:=by simp [Sx]
 refine Ub [] rfl ?_;refine Ug (S:=Nat) 3 (λL1 i=>(13,.v (.oi i))::L1) (λ_=>[.blk 189 (ta t),.blk 38 (U6 a),.blk 38 (U6 b)]) (λi=>ps.length-i) (λi=>i<=ps.length/\Ll (Fl t) a b (ps.drop i)=Ll (Fl t) a b ps) 0 ⟨Qh _,rfl⟩ rfl rfl λi ⟨hi,he⟩=>?_
 rw [<-he];by_cases hlt:i<ps.length
 ·obtain ⟨p,hp⟩:=gxE (l:=ps) (i:=i) hlt;have hd:ps.drop i=p::ps.drop (i+1):=by
   rw [Zv hlt];rw [Qe hlt] at hp; injection hp with hp; rw [hp]
  have hpb:=hps p (Qa hp);rw [hd] at he ⊢;by_cases h0:0<p.length
  ·exact Ud [.t (by simp [hpl]; omega),.x (Rf hp),.t (by simp; omega),.k (TU hpb ht)] rfl (by simp only [Ll]; rw [if_pos h0]) trivial
  ·refine Uc [.t (by simp [hpl]; omega),.x (Rf hp),.f (by simp; exact Qj (by omega))] rfl ?_;exact rd (i+1) (by omega) ⟨hlt,by simp only [Ll]; rw [if_neg h0]⟩ rfl
 ·have hd:ps.drop i=[]:=Yt (by omega);rw [hd];exact Ud [.f (by simp [hpl]; omega)] rfl
structure Sc (k:Crv):Prop where
 n:ZR k
 c:Cs 128 3 k
theorem Sc.cb {k:Crv} (h:Sc k):Cb k:=h.c.mono (by omega) (by omega)
theorem Mw {a b:Crv} (ha:Sc a) (hb:Sc b):Cp (Gd a b):=by
 refine ⟨Fq _ _,?_,Ux (Da (Fz hb.c.x ha.c.d) (Fz ha.c.x hb.c.d)) (by omega)⟩;have:=M3 (Fo b.x a.d) (Fo a.x b.d);have:=Fu b.x a.d; have:=Fu a.x b.d; have:=ha.c.lx; have:=hb.c.lx;unfold Gd; omega
theorem Mv {a b:Crv} (ha:Sc a) (hb:Sc b):Cp (Gb a b):=by
 refine ⟨Fq _ _,?_,Ux (Da (Fz hb.c.y ha.c.d) (Fz ha.c.y hb.c.d)) (by omega)⟩;have:=M3 (Fo b.y a.d) (Fo a.y b.d);have:=Fu b.y a.d; have:=Fu a.y b.d; have:=ha.c.ly; have:=hb.c.ly;unfold Gb; omega
theorem Qlj {a b:Pt} {t:Tm} (ha:Sc a.c) (hb:Sc b.c) (ht:Va t):Uh 193 [.agg (U6 a),.agg (U6 b),.agg (ta t)] [.one (.bool (Bt (Fl t) a b))] :=
 Ue func193 rfl [.k (WR hb.n ha.n hb.cb ha.cb),.k (WP hb.n ha.n hb.cb ha.cb),.k (kB (t:=t) (a:=a) (b:=b) (ps:=[Gb b.c a.c,Gd b.c a.c]) (λp hp=>by
  simp at hp;rcases hp with rfl | rfl
  ·exact (Mv hb ha).dp
  ·exact (Mw hb ha).dp) ht (show 2<1000 by decide))] rfl
theorem Qdg {a b:Pt} {t:Tm} (ha:Sc a.c) (hb:Sc b.c) (ht:Va t):Uh 192 [.agg (U6 a),.agg (U6 b),.agg (ta t)] [.one (.bool (Tg (Fl t) a b))] :=
 Ue func192 rfl [.k (WP ha.n hb.n ha.cb hb.cb),.k (WR ha.n hb.n ha.cb hb.cb),.k (kB (t:=t) (a:=a) (b:=b) (ps:=[Gd a.c b.c,Gb a.c b.c]) (λp hp=>by
  simp at hp;rcases hp with rfl | rfl
  ·exact (Mw ha hb).dp
  ·exact (Mv ha hb).dp) ht (show 2<1000 by decide))] rfl
theorem Qrk (q:Rat) {P:Prop} (h:(tq q).point=false):P:=by
 have e:(tq q).point=true:=Mf.2 Qp;rw [e] at h; cases h
theorem Qt2 (q:Rat):lim (tq q)=3300000:=by unfold lim; rw [if_pos (Mf.2 Rat.le_refl)]
theorem EJ {q:Rat} (hq:Qs 1640000 q):Va (tq q):=by
 have hd:=q.den_nz;refine ⟨.inl ⟨rfl,?_⟩,iO q,by show 2<=9; omega,by show 2<=2; omega,Qv6 (hq.mono (by omega)),Qrk q,Qrk q,q.den,q.num.natAbs+1,0,?_,?_,by omega,?_⟩
 ·have e:(q.num:Rat)=q*(q.den:Rat):=by
   have:(q.num:Rat) / (((q.den:Int)):Rat)=q:=by rw [Hy,Z4]
   have h2:(q.num:Rat) / (q.den:Rat)*(q.den:Rat)=q.num:=Zi (by have:=Orq.nat_pos q.den_pos; grind);rw [show (q.num:Rat) / (q.den:Rat)=q from this] at h2; exact h2.symm
  show U4 [-q.num,(q.den:Int)] q=0;simp only [U4];rw [Vn,e,show (((q.den:Int)):Rat)=(q.den:Rat) from rfl]; grind
 all_goals first | (have h1:Fa (q.den:Int)<=1640000:=hq.2; have h2:Fa ((q.num.natAbs+1:Nat):Int)<=1640001:=Qbn hq.1; rw [Qt2]; omega) | skip
 all_goals
  refine ⟨⟨q.num,?_⟩,?_,q.den_pos⟩
  ·rw [Vd,Yu];have:(q.num:Rat) / (((q.den:Int)):Rat)=q:=by rw [Hy,Z4]
   have h2:(q.num:Rat) / (q.den:Rat)*(q.den:Rat)=q.num:=Zi (by have:=Orq.nat_pos q.den_pos; grind);rw [show (q.num:Rat) / (q.den:Rat)=q from this] at h2; exact h2
  ·have h1:Fe q<=Fe (q.num:Rat):=by
    have e:(q.num:Rat)=q*(q.den:Rat):=by
     have:(q.num:Rat) / (((q.den:Int)):Rat)=q:=by rw [Hy,Z4]
     have h2:(q.num:Rat) / (q.den:Rat)*(q.den:Rat)=q.num:=Zi (by have:=Orq.nat_pos q.den_pos; grind);rw [show (q.num:Rat) / (q.den:Rat)=q from this] at h2; exact h2.symm
    rw [e,Ia];have hd1:(1:Rat)<=(q.den:Rat):=by
     have:((1:Nat):Rat)<=(q.den:Rat):=Zl.2 q.den_pos;exact this
    have e2:Fe (q.den:Rat)=(q.den:Rat):=by unfold Fe; rw [if_neg (by grind)]
    rw [e2];have:=B9 (a:=Fe q) (c:=1) (Hm q) Qp (by decide) hd1;grind
   rw [T0] at h1;refine Zk h1 (Zl.2 (by omega))
theorem JE {p q:Uk} (hp:Cp p) (hq:Cp q):Cp (Lh p q):=by unfold Lh; split <;> assumption
theorem dY {a b:Pt} {t:Tm} (ha:Sc a.c) (hb:Sc b.c) (ht:Va t):Uh 163 [.oi 1,.agg (ta t),.one (.row [U6 a,U6 b])] [.agg (C6 (QP (Fl t) a b)),.oi 0]:=by
 have h1:=Mw ha hb;have h2:=Mv ha hb;refine Ft func163 rfl ?_;refine Ub [.k Qao,.f rfl] rfl ?_;refine Ug (S:=Nat) 3 (λL1 i=>(22,.v (.oi i))::L1) (λi=>[.blk 189 (ta t),.blk 136 zCt,.blk 136 [.int .i64 1,.int .i64 (if 1<=i then a.id else 0),.int .i64 (if 2<=i then b.id else 0),.int .i64 0,.int .i64 0,.nils,.int .i64 0]]) (λi=>2-i) (λi=>i<=2) 0 (Qh _) rfl rfl λi hi=>?_
 rcases (show i=0\/i=1\/i=2 by omega) with rfl | rfl | rfl
 ·refine Ub [.t rfl,.x (i:=0) (xs:=U6 a) rfl,.i 0] rfl ?_ (by simp [Uw]);exact rd 1 (by omega) (by omega) rfl
 ·refine Ub [.t rfl,.x (i:=1) (xs:=U6 b) rfl,.i 1] rfl ?_ (by simp [Uw]);exact rd 2 (by omega) (by omega) rfl
 ·exact Ud [.f rfl,.t rfl,.x (i:=0) (xs:=U6 a) rfl,.x (i:=1) (xs:=U6 b) rfl,.k (WP ha.n hb.n ha.cb hb.cb),.x (i:=0) (xs:=U6 a) rfl,.x (i:=1) (xs:=U6 b) rfl,.k (WR ha.n hb.n ha.cb hb.cb),.k kG,.k (TU (JE h1 h2).dp ht)] rfl
end Orr
namespace Orr
variable {α:Type}
def Lm (lt:α->α->Bool) (out:List α) (x:α):Nat->Nat
 | 0=>0
 |
  k+1=>match out[k]? with
  | some y=>if lt x y=true then Lm lt out x k else k+1
  | none=>k+1
theorem jL (lt:α->α->Bool) (out:List α) (x:α):∀ k,Lm lt out x k<=k
 | 0=>Qm _
 |
  k+1=>by
  simp only [Lm]
  split
  ·split
   ·exact Nat.le_succ_of_le (jL lt out x k)
   ·exact Qm _
  ·exact Qm _
theorem aO {lt:α->α->Bool} {out:List α} {x y:α} {k:Nat} (hx:out[k]? = some y) (h:lt x y=true):Lm lt out x (k+1)=Lm lt out x k:=by
 simp only [Lm,hx,h,if_true]
theorem gU {lt:α->α->Bool} {out:List α} {x y:α} {k:Nat} (hx:out[k]? = some y) (h:lt x y=false):Lm lt out x (k+1)=k+1:=by
 simp [Lm,hx,h]
def Li (lt:α->α->Bool) (out:List α) (x:α):List α:=out.take (Lm lt out x out.length)++x::out.drop (Lm lt out x out.length)
theorem Qg1 (lt:α->α->Bool) (out:List α) (x:α):(Li lt out x).length=out.length+1:=by
 have:=jL lt out x out.length;simp [Li]; omega
theorem UT {lt:α->α->Bool} {out:List α} {x y:α}:y∈Li lt out x↔y=x\/y∈out:=by
 have h:y∈out↔y∈out.take (Lm lt out x out.length)\/y∈out.drop (Lm lt out x out.length):=by
  rw [<-Qr,Zf]
 simp only [Li,Qr,Ql,h];constructor
 ·rintro (h | h | h)
  ·exact .inr (.inl h)
  ·exact .inl h
  ·exact .inr (.inr h)
 ·rintro (h | h | h)
  ·exact .inr (.inl h)
  ·exact .inl h
  ·exact .inr (.inr h)
def Lu (lt:α->α->Bool) (l:List α):List α:=l.foldl (Li lt) []
theorem cX (lt:α->α->Bool) (l:List α) (x:α):Lu lt (l++[x])=Li lt (Lu lt l) x:=by simp [Lu,Vr]
theorem cJ {lt:α->α->Bool} {l:List α} {i:Nat} {x:α} (h:l[i]? = some x):Lu lt (l.take (i+1))=Li lt (Lu lt (l.take i)) x:=by
 rw [Zw,h]; exact cX _ _ _
theorem CZ (lt:α->α->Bool):∀ (l acc:List α),(l.foldl (Li lt) acc).length=acc.length+l.length
 | [],acc=>by simp
 | c::l,acc=>by simp only [Z8]; rw [CZ lt l (Li lt acc c),Qg1]; simp; omega
theorem qB (lt:α->α->Bool) (l:List α):(Lu lt l).length=l.length:=by unfold Lu; rw [CZ]; simp
theorem KZ (lt:α->α->Bool):∀ (l acc:List α) {y:α},y∈l.foldl (Li lt) acc↔y∈l\/y∈acc
 | [],acc,y=>by simp
 |
  c::l,acc,y=>by
  simp only [Z8];rw [KZ lt l,UT,Ql];constructor
  ·rintro (h | h | h)
   ·exact .inl (.inr h)
   ·exact .inl (.inl h)
   ·exact .inr h
  ·rintro ((h | h) | h)
   ·exact .inr (.inl h)
   ·exact .inl h
   ·exact .inr (.inr h)
theorem Qcd {lt:α->α->Bool} {l:List α} {y:α}:y∈Lu lt l↔y∈l:=by
 unfold Lu; rw [KZ]; simp
end Orr
namespace Orr
open Go Orq
structure Wt where
 c:Ct
 known:Bool
 fails:Option Tm
def f0:Option Tm->LV | none=>.row [] | some t=>pl t.p
def f1:Option Tm->LV | none=>.bool false | some t=>sg t.lo.num
def f2:Option Tm->LV | none=>.row [] | some t=>mg t.lo.num
def f3:Option Tm->LV | none=>.bool false | some t=>sg (t.lo.den:Int)
def f4:Option Tm->LV | none=>.row [] | some t=>mg (t.lo.den:Int)
def f5:Option Tm->LV | none=>.bool false | some t=>sg t.hi.num
def f6:Option Tm->LV | none=>.row [] | some t=>mg t.hi.num
def f7:Option Tm->LV | none=>.bool false | some t=>sg (t.hi.den:Int)
def f8:Option Tm->LV | none=>.row [] | some t=>mg (t.hi.den:Int)
abbrev fl (o:Option Tm):Up:=[f0 o,f1 o,f2 o,f3 o,f4 o,f5 o,f6 o,f7 o,f8 o]
abbrev wl (w:Wt):Up:=[.int .i64 w.c.kind,.int .i64 w.c.i0,.int .i64 w.c.i1,.int .i64 w.c.i2,.int .i64 w.c.i3,pl w.c.p,.int .i64 w.c.want,.bool w.known,.bool w.fails.isSome,f0 w.fails,f1 w.fails,f2 w.fails,f3 w.fails,f4 w.fails,f5 w.fails,f6 w.fails,f7 w.fails,f8 w.fails]
def Bp (l:List Wt):Uq:=l.map λw=>wl w
theorem Hk {l:List Wt} {i:Nat} {w:Wt} (h:l[i]? = some w):(Bp l)[i]? = some (wl w):=Gn h
theorem Tc (l:List Wt):(Bp l).length=l.length:=by simp [Bp]
structure Cr where
 now:Tm
 l:List Wt
 ev:Int
abbrev Ht (c:Cr) (r0 r1:Uq):Up:=.bool true::pl c.now.p::sg c.now.lo.num::mg c.now.lo.num::sg (c.now.lo.den:Int)::mg (c.now.lo.den:Int)::sg c.now.hi.num::mg c.now.hi.num::sg (c.now.hi.den:Int)::mg (c.now.hi.den:Int)::.row (Bp c.l)::.int .i64 c.ev::[.row r0,.row r1]
structure WtOk (w:Wt):Prop where
 p:Cp w.c.p
 f:∀ t,w.fails=some t->Va t
structure CrOk (c:Cr):Prop where
 n:Va c.now
 l:∀ w∈c.l,WtOk w
 k:c.l.length<=1000
def rT (a b:Ct):Bool:=decide ([a.kind,a.i0,a.i1,a.i2,a.i3]=[b.kind,b.i0,b.i1,b.i2,b.i3])
def fresh (x:Ct):Wt:=⟨x,false,none⟩
def B7:List Wt->Ct->Tm->Option Wt
 | [],x,_=>some (fresh x)
 |
  w::l,x,at_=>if rT w.c x=true/\w.known=true/\w.c.p=x.p then
   match w.fails with
   | none=>some ⟨x,true,none⟩
   | some t=>(WL t at_).bind λc=>if 0<c then some ⟨x,true,some t⟩ else B7 l x at_
  else B7 l x at_
def Sj (old:List Wt) (at_:Tm):List Ct->Option (List Wt)
 | []=>some []
 | x::l=>(B7 old x at_).bind λw=>(Sj old at_ l).bind λr=>some (w::r)
end Orr
namespace Orr
open Go Go.Proofs Tryz Orq
set_option maxRecDepth 10000
theorem O6 {T:Nat} {c:Cr} {r0 r1:Uq} (hc:Va c.now):U0 prog 370 [.one (.ow 0 0)] [.blk T (Ht c r0 r1)] [.agg (ta c.now)] [.blk T (Ht c r0 r1)]:=by
 have cl:=Su (b:=c.now) (l:=[]) hc.tb (λt ht=>by cases ht) (by decide) rfl;refine Ft func370 rfl ?_;exact Uf [] [0] [.f rfl,.k cl] rfl
theorem WT {T:Nat} {c:Cr} {r0 r1:Uq} (hc:CrOk c):U0 prog 360 [.one (.ow 0 0)] [.blk T (Ht c r0 r1)] [.one (.row (U3 (Fg (c.l.map (·.c)))))] [.blk T (Ht c r0 r1)]:=by
 have hk:=hc.k;have hw:=Tc c.l;refine Ft func360 rfl ?_;refine Ub [.o 3 136 7] rfl ?_;refine Ug (S:=Nat) 2 (λL1 i=>(11,.v (.oi i))::(3,.v (.one (.orow 1 7 none)))::L1) (λi=>[.blk T (Ht c r0 r1),.row false 136 7 (U3 ((c.l.map (·.c)).take i))]) (λi=>c.l.length-i) (λi=>i<=c.l.length) 0 (Qh _) rfl rfl λi hi=>?_
 by_cases hlt:i<c.l.length
 ·obtain ⟨x,hx⟩:=gxE (l:=c.l) (i:=i) hlt;have hm:∀ y∈[C6 x.c],y.length=7:=λy hy=>by rw [Qk.1 hy]; rfl
  have hg:(c.l.map (·.c)).take (i+1)=(c.l.map (·.c)).take i++[x.c]:=by
   rw [Zw,Zd,hx]; rfl
  have hl:decide ((i:Int)<((Bp c.l).length:Int))=true:=by simp [hw]; omega
  obtain ⟨xc,xk,xf⟩:=x;cases xf <;> (refine go tt [.t hl,.x (Hk hx),.s (sz:=7) hm] rfl (by simp [Uw,S8]; omega) ?_; exact rd (i+1) (by omega) hlt (by rw [hg]; simp [U3]; rfl))
 ·obtain rfl:i=c.l.length:=by omega
  have e:(c.l.map (·.c)).take c.l.length=c.l.map (·.c):=Qn (by simp);rw [e];have cs:=GN (l:=c.l.map (·.c)) (λx hx=>by
   obtain ⟨w,hw,rfl⟩:=Za.1 hx;exact Dp.pb (hc.l w hw).p.dp) (by simp; omega)
  exact Uf [] [0] [.f (by simp [hw]),.k cs] rfl
theorem Qr8 {T:Nat} {c:Cr} {r0 r1:Uq} {x:Ct} {at_:Tm} {w:Wt} (hc:CrOk c) (hx:Cp x.p) (ha:Va at_) (h:B7 c.l x at_=some w):U0 prog 184 [.one (.ow 0 0),.agg (C6 x),.agg (ta at_)] [.blk T (Ht c r0 r1)] [.agg (wl w)] [.blk T (Ht c r0 r1)]:=by
 have hk:=hc.k;have hw:=Tc c.l;refine Ft func184 rfl ?_;refine Ub [] rfl ?_;refine Ug (S:=Nat) 4 (λL1 i=>(14,.v (.oi i))::L1) (λ_=>[.blk T (Ht c r0 r1),.blk 136 (C6 x),.blk 189 (ta at_),.blk 276 [.int .i64 0,.int .i64 0,.int .i64 0,.int .i64 0,.int .i64 0,.nils,.int .i64 0,.bool false,.bool false,.nils,.bool false,.nils,.bool false,.nils,.bool false,.nils,.bool false,.nils]]) (λi=>c.l.length-i) (λi=>i<=c.l.length/\B7 (c.l.drop i) x at_=some w) 0 ⟨Qh _,h⟩ rfl rfl λi ⟨hi,hf⟩=>?_
 by_cases hlt:i<c.l.length
 ·obtain ⟨v,hv⟩:=gxE (l:=c.l) (i:=i) hlt;have hdr:c.l.drop i=v::c.l.drop (i+1):=by
   rw [Zv hlt]; congr 1;have:=Qe hlt; rw [hv] at this; injection this with this; exact this.symm
  have hvo:=hc.l v (Qa hv);rw [hdr] at hf;simp only [B7] at hf;have hl:decide ((i:Int)<((Bp c.l).length:Int))=true:=by simp [hw]; omega
  by_cases A:rT v.c x=true
  ·have A':(!decide ([v.c.kind,v.c.i0,v.c.i1,v.c.i2,v.c.i3]=[x.kind,x.i0,x.i1,x.i2,x.i3]))=false:=by
    unfold rT at A; rw [A]; rfl
   by_cases B:v.known=true
   ·have B':(!v.known)=false:=by rw [B]; rfl
    have cs:=PH (p:=v.c.p) (q:=x.p) (Dp.pb hvo.p.dp).ln (Dp.pb hx.dp).ln (Dp.pb hvo.p.dp).bd (Dp.pb hx.dp).bd;rw [hvo.p.t,hx.t] at cs;by_cases C:v.c.p=x.p
    ·have C':(!decide (v.c.p=x.p))=false:=by simp [C]
     rw [if_pos ⟨A,B,C⟩] at hf;obtain ⟨vc,vk,vf⟩:=v;cases vf with
     |
      none =>
      injection hf with hf; subst hf;exact Uf [] [0] [.t hl,.x (Hk hv),.g 24 false A',.g 29 false B',.k cs,.f C',.g 41 true rfl,.t rfl] rfl
     |
      some t =>
      obtain ⟨r,r1',hf⟩:=Qd.1 hf;have cc:=VN (hvo.f t rfl).tb ha.tb r1';by_cases D:0<r
      ·rw [if_pos D] at hf;injection hf with hf; subst hf;exact Uf [] [0] [.t hl,.x (Hk hv),.g 24 false A',.g 29 false B',.k cs,.f C',.g 41 false rfl,.k cc,.t (by simpa using D)] rfl
      ·rw [if_neg D] at hf;refine Uc [.t hl,.x (Hk hv),.g 24 false A',.g 29 false B',.k cs,.f C',.g 41 false rfl,.k cc,.f (by simpa using D)] rfl ?_;exact rd (i+1) (by omega) ⟨hlt,hf⟩ rfl
    ·rw [if_neg λh=>C h.2.2] at hf;refine Uc [.t hl,.x (Hk hv),.g 24 false A',.g 29 false B',.k cs,.t (by simp [C])] rfl ?_;exact rd (i+1) (by omega) ⟨hlt,hf⟩ rfl
   ·rw [if_neg λh=>B h.2.1] at hf;refine Uc [.t hl,.x (Hk hv),.g 24 false A',.g 29 true (by simpa using B),.t rfl] rfl ?_;exact rd (i+1) (by omega) ⟨hlt,hf⟩ rfl
  ·rw [if_neg λh=>A h.1] at hf;refine Uc [.t hl,.x (Hk hv),.g 24 true (by rw [show decide ([v.c.kind,v.c.i0,v.c.i1,v.c.i2,v.c.i3]=[x.kind,x.i0,x.i1,x.i2,x.i3])=false from Wu.2 A]; rfl),.g 29 true rfl,.t rfl] rfl ?_;exact rd (i+1) (by omega) ⟨hlt,hf⟩ rfl
 ·obtain rfl:i=c.l.length:=by omega
  rw [Y9] at hf;simp only [B7] at hf;injection hf with hf; subst hf;exact Uf [] [0] [.f (by simp [hw])] rfl
theorem XK {old:List Wt} {at_:Tm}:∀ {l:List Ct} {ws:List Wt},Sj old at_ l=some ws->ws.length=l.length/\∀ (i:Nat) (x:Ct),l[i]? = some x->∃ w,B7 old x at_=some w/\ws[i]? = some w
 | [],ws,h=>by injection h with h; subst h; exact ⟨rfl,λi x hx=>by simp at hx⟩
 |
  y::l,ws,h=>by
  simp only [Sj] at h;obtain ⟨w,hw,h⟩:=Qd.1 h;obtain ⟨r,hr,h⟩:=Qd.1 h;injection h with h; subst h;obtain ⟨a,b⟩:=XK hr;refine ⟨by simp [a],λi x hx=>?_⟩;cases i with
  | zero=>injection hx with hx; subst hx; exact ⟨w,hw,rfl⟩
  | succ i=>exact b i x (by simpa using hx)
theorem Ev {l:List Wt} {i:Nat} {w:Wt} (h:l[i]? = some w):Bp (l.take (i+1))=Bp (l.take i)++[wl w]:=by
 rw [Zw,h]; simp [Bp]
theorem WS {T:Nat} {c:Cr} {r0 r1:Uq} {at_:Tm} {l:List Ct} {ws:List Wt} (hc:CrOk c) (ha:Va at_) (hl:∀ x∈l,Cp x.p) (hn:l.length≤1000) (h:Sj c.l at_ (Fg l)=some ws):U0 prog 157 [.one (.ow 0 0),.agg (ta at_),.one (.bool true),.one (.row (U3 l))] [.blk T (Ht c r0 r1)] [] [.blk T (Ht ⟨at_,ws,c.ev⟩ r0 r1)]:=by
 have cs:=GN (l:=l) (λx hx=>Dp.pb (hl x hx).dp) (by omega);have cl:=Su (b:=at_) (l:=[]) ha.tb (λt ht=>by cases ht) (by decide) rfl;obtain ⟨h1,h2⟩:=XK h;have hs:(Fg l).length=l.length:=Mh l;refine Ft func157 rfl ?_;refine Ub [.o 8 276 18,.k cs] rfl ?_;refine Ug (S:=Nat) 3 (λL1 i=>(15,.v (.oi i))::(8,.v (.one (.orow 2 18 none)))::L1) (λi=>[.blk T (Ht c r0 r1),.blk 189 (ta at_),.row false 276 18 (Bp (ws.take i))]) (λi=>ws.length-i) (λi=>i<=ws.length) 0 (Qh _) rfl rfl λi hi=>?_
 by_cases hlt:i<ws.length
 ·obtain ⟨x,hx⟩:=gxE (l:=(Fg l)) (i:=i) (by omega);obtain ⟨w,hw,hw'⟩:=h2 i x hx;have hm:∀ y∈[wl w],y.length=18:=λy hy=>by rw [Qk.1 hy]; rfl
  have hlt':decide ((i:Int)<((U3 (Fg l)).length:Int))=true:=by simp [U3]; omega
  have ck:=Qr8 (T:=T) (r0:=r0) (r1:=r1) hc (hl x (Rr (Qa hx))) ha hw;have hg:=Ev hw';obtain ⟨wc,wk,wf⟩:=w;cases wf <;> (refine go tt [.t hlt',.x (ZN hx),.t rfl,.c [0] ck,.s (sz:=18) hm] rfl (by simp [Uw,Tc]; omega) ?_; exact rd (i+1) (by omega) hlt (by rw [hg]; rfl))
 ·obtain rfl:i=ws.length:=by omega
  rw [Q5];have hge:decide ((ws.length:Int)<((U3 (Fg l)).length:Int))=false:=by simp [U3]; omega
  exact Uf [] [0] [.f hge,.p 2,.k cl] rfl
abbrev pH (r0 r1:LV):Up:=[.bool false,.nils,.bool false,.nils,.bool false,.nils,.bool false,.nils,.bool false,.nils,.nils,.int .i64 0,r0,r1]
theorem Qls {T:Nat} {r0 r1:Uq} {at_:Tm} {l:List Ct} (ha:Va at_) (hl:∀ x∈l,Cp x.p) (hn:l.length≤1000):U0 prog 157 [.one (.ow 0 0),.agg (ta at_),.one (.bool false),.one (.row (U3 l))] [.blk T (pH (.row r0) (.row r1))] [] [.blk T (Ht ⟨at_,(Fg l).map fresh,0⟩ r0 r1)]:=by
 have cs:=GN (l:=l) (λx hx=>Dp.pb (hl x hx).dp) (by omega);have cl:=Su (b:=at_) (l:=[]) ha.tb (λt ht=>by cases ht) (by decide) rfl;have hs:(Fg l).length=l.length:=Mh l;refine Ft func157 rfl ?_;refine Ub [.o 8 276 18,.k cs] rfl ?_;refine Ug (S:=Nat) 3 (λL1 i=>(15,.v (.oi i))::(8,.v (.one (.orow 2 18 none)))::L1) (λi=>[.blk T (pH (.row r0) (.row r1)),.blk 189 (ta at_),.row false 276 18 (Bp (((Fg l).map fresh).take i))]) (λi=>l.length-i) (λi=>i<=l.length) 0 (Qh _) rfl rfl λi hi=>?_
 by_cases hlt:i<l.length
 ·obtain ⟨x,hx⟩:=gxE (l:=(Fg l)) (i:=i) (by omega);have hm:∀ y∈[wl (fresh x)],y.length=18:=λy hy=>by rw [Qk.1 hy]; rfl
  have hlt':decide ((i:Int)<((U3 (Fg l)).length:Int))=true:=by simp [U3]; omega
  have hg:=Ev (l:=(Fg l).map fresh) (i:=i) (w:=fresh x) (by rw [Zd,hx]; rfl);refine go tt [.t hlt',.x (ZN hx),.z 20,.f rfl,.s (sz:=18) hm] rfl (by simp [Uw,Tc]; omega) ?_;exact rd (i+1) (by omega) hlt (by rw [hg]; rfl)
 ·obtain rfl:i=l.length:=by omega
  rw [Qn (by simp; omega)];have hge:decide ((l.length:Int)<((U3 (Fg l)).length:Int))=false:=by simp [U3]; omega
  exact Uf [] [0] [.f hge,.p 2,.k cl] rfl
theorem JR {T:Nat} {r0 r1:Uq} {at_:Tm} {l:List Ct} (ha:Va at_) (hl:∀ x∈l,Cp x.p) (hn:l.length≤1000):U0 prog 126 [.one (.ow 0 0),.agg (ta at_),.one (.row (U3 l))] [.blk T (pH (.row r0) (.row r1))] [] [.blk T (Ht ⟨at_,(Fg l).map fresh,0⟩ r0 r1)]:=by
 have cl:=Qls (T:=T) (r0:=r0) (r1:=r1) ha hl hn;refine Ft func126 rfl ?_;exact Uf [] [0] [.g 12 false rfl,.c [0] cl] rfl
theorem eB {a b:Bool} (h:a=b):TV.one (LV.bool a)=.one (.bool b):=h ▸ rfl
theorem JS {T:Nat} {c:Cr} {r0 r1:Uq} {at_:Tm} {l:List Ct} {ws:List Wt} {k:Int} (hc:CrOk c) (ha:Va at_) (hk:WL at_ c.now=some k) (h0:0≤k) (hl:∀ x∈l,Cp x.p) (hn:l.length≤1000) (h:Sj c.l at_ (Fg l)=some ws):U0 prog 126 [.one (.ow 0 0),.agg (ta at_),.one (.row (U3 l))] [.blk T (Ht c r0 r1)] [] [.blk T (Ht ⟨at_,ws,c.ev⟩ r0 r1)]:=by
 have cl:=WS (T:=T) (r0:=r0) (r1:=r1) hc ha hl hn h;have cc:=VN ha.tb hc.n.tb hk;refine Ft func126 rfl ?_;exact Uf [] [0] [.g 12 true rfl,.k cc,.r 20 (eB (show decide (0<=k)=true by simpa using h0)),.c [0] cl] rfl
theorem MX:∀ {k:Nat} {g:Uk} {l:Ul},Pb g->HM k g=some l->l.length≤k/\∀ p∈l,Pb p
 | 0,_,_,_,h=>by cases h
 |
  k+1,g,l,hg,h=>by
  simp only [HM] at h
  split at h
  ·injection h with h; subst h; exact ⟨by simp,λp hp=>by cases hp⟩
  ·obtain ⟨d,hd,h⟩:=Qd.1 h;obtain ⟨rfl,hdp⟩:=DU hd;obtain ⟨x,hx,h⟩:=Qd.1 h;obtain ⟨q,hq,h⟩:=Qd.1 h;obtain ⟨r,hr,h⟩:=Qd.1 h;injection h with h; subst h;obtain ⟨i1,i2⟩:=MX (RJ hg hdp hx) hr;refine ⟨by simp; exact i1,λp hp=>?_⟩;rcases Ql.1 hp with rfl | hp
   ·exact nF hq
   ·exact i2 p hp
theorem Qeo {a:Uk} {l:Ul} (ha:Pb a) (h:HM 66 (Fc a)=some l):Uh 384 [pr a] [.one (.row (Sx l))]:=by
 have hp:=Rl ha;refine Ft func384 rfl ?_;refine Ub [.o 3 31 1,.k (Ay ha)] rfl ?_;refine Ug (S:=Nat×Ul×Uk) 1 (λL1 s=>(4,.v (pr s.2.2))::(3,.v (.one (.orow 0 1 none)))::L1) (λs=>[.row false 31 1 (Sx s.2.1)]) (λs=>s.1) (λs=>Pb s.2.2/\s.2.1.length+s.1<=66/\∃ m,HM s.1 s.2.2=some m/\s.2.1++m=l) (66,[],Fc a) ⟨hp,Qm _,l,h,rfl⟩ rfl rfl λ⟨k,out,g⟩ ⟨j1,j2,m,j3,j4⟩=>?_
 dsimp only at j1 j2 j3 j4 ⊢;cases k with
 | zero=>cases j3
 |
  succ k =>
  simp only [HM] at j3
  split at j3
  ·rename_i h0;injection j3 with j3; subst j3;rw [Zx] at j4;subst j4;exact Ud [.k (Mk _),.f (by simp; omega)] rfl
  ·rename_i h0;obtain ⟨d,hd,j3⟩:=Qd.1 j3;obtain ⟨rfl,hdp⟩:=DU hd;obtain ⟨x,hx,j3⟩:=Qd.1 j3;obtain ⟨q,hq,j3⟩:=Qd.1 j3;obtain ⟨r,hr,j3⟩:=Qd.1 j3;injection j3 with j3; subst j3;have hxp:=RJ j1 hdp hx;refine go tt [.k (Mk _),.t (by simp; omega),.k (Iv j1.ln j1.bd),.k (dE j1 hdp hx),.k (Qe0 j1 hxp hq),.s (sz:=1) (l:=[[pl q]]) (λc hc=>by rw [Qk.1 hc]; rfl)] rfl (by simp [Uw,Ep]; omega) ?_;exact rd (k,out++[q],x) (by dsimp only; omega) ⟨hxp,by simp; omega,r,hr,by rw [<-j4]; simp⟩ (by rw [DC]; rfl)
theorem BC:∀ {l r:Ul},EN l=some r->r.length=l.length/\∀ i w,l[i]? = some w->(match l[i+1]? with | some v=>∃ f,XA w v=some f/\r[i]? = some f | none=>r[i]? = some w)
 | [],r,h=>by injection h with h; subst h; exact ⟨rfl,λi w hw=>by simp at hw⟩
 |
  [w],r,h=>by
  injection h with h; subst h;refine ⟨rfl,λi x hx=>?_⟩;cases i with
  | zero=>simpa using hx
  | succ i=>simp at hx
 |
  w::v::l,r,h=>by
  simp only [EN] at h;obtain ⟨f,hf,h⟩:=Qd.1 h;obtain ⟨s,hs,h⟩:=Qd.1 h;injection h with h; subst h;obtain ⟨i1,i2⟩:=BC hs;refine ⟨by simp [i1],λi x hx=>?_⟩;cases i with
  |
   zero =>
   injection hx with hx; subst hx;exact ⟨f,hf,rfl⟩
  |
   succ i =>
   have:=i2 i x (by simpa using hx);simpa using this
theorem xU:∀ {l r:Ul},(∀ p∈l,Pb p)->EN l=some r->∀ p∈r,Pb p
 | [],r,_,h=>by injection h with h; subst h; exact λp hp=>by cases hp
 | [w],r,hl,h=>by injection h with h; subst h; exact hl
 |
  w::v::l,r,hl,h=>by
  simp only [EN] at h;obtain ⟨f,hf,h⟩:=Qd.1 h;obtain ⟨s,hs,h⟩:=Qd.1 h;injection h with h; subst h;intro p hp;rcases Ql.1 hp with rfl | hp
  ·exact nF hf
  ·exact xU (λp hp=>hl p (Qg _ hp)) hs p hp
theorem Qaf {a:Uk} {l r:Ul} (ha:Pb a) (h:HM 66 (Fc a)=some l) (hr:EN l=some r):Uh 379 [pr a] [.one (.row (Sx r))]:=by
 obtain ⟨i1,i2⟩:=MX (Rl ha) h;obtain ⟨j1,j2⟩:=BC hr;have hw:=Ep l;refine Ft func379 rfl ?_;refine go tt [.k (Qeo ha h),.i (Sx l).length,.i (Sx l).length] rfl (by simp [Uw,hw]; omega) ?_;rw [hw,E8 λi=>[pl (r.getD i [])]];refine Ug (S:=Nat) 1 (λL1 k=>(14,.v (.oi k))::L1) (λk=>[.row false 31 1 (EW (λi=>[pl (r.getD i [])]) [.nils] l.length k)]) (λk=>l.length-k) (λk=>k<=l.length) 0 (Qh _) rfl rfl λk hk=>?_
 by_cases hlt:k<l.length
 ·obtain ⟨w,hx⟩:=gxE (l:=l) (i:=k) hlt;have e:=QU (λi=>[pl (r.getD i [])]) [.nils] hlt;have hg:=j2 k w hx;by_cases h2:k+1<l.length
  ·obtain ⟨v,hv⟩:=gxE (l:=l) (i:=k+1) h2;rw [hv] at hg;obtain ⟨f,f1,f2⟩:=hg;have e2:r.getD k []=f:=by rw [Qi,f2]; rfl
   rw [e2] at e;refine go tt [.t (by simp [hw]; omega),.x (Rf hx),.i k,.t (by simp [hw]; omega),.x (i:=k+1) (Rf hv),.k (Qe0 (i2 w (Qa hx)) (i2 v (Qa hv)) f1),.i k] rfl (by simp [Uw,A8,hw]; omega) ?_;rw [List.set_set,e];exact rd (k+1) (by omega) hlt rfl
  ·have hv:l[k+1]? = none:=Qw (by omega);rw [hv] at hg;have e2:r.getD k []=w:=by rw [Qi,hg]; rfl
   rw [e2] at e;refine go tt [.t (by simp [hw]; omega),.x (Rf hx),.i k,.f (by simp [hw]; omega)] rfl (by simp [Uw,A8,hw]; omega) ?_;rw [e];exact rd (k+1) (by omega) hlt rfl
 ·obtain rfl:k=l.length:=by omega
  have e:EW (λi=>[pl (r.getD i [])]) [.nils] l.length l.length=Sx r:=by
   rw [QW,<-j1];refine Xj λi=>?_
   simp only [Sx,Zd];by_cases hi:i<r.length
   ·rw [Xz hi]; simp [Qi,Qe hi]
   ·rw [Qw (by simpa using hi),Qw (by simpa using hi)]; rfl
  rw [e];exact Ud [.f (by simp [hw])] rfl
theorem nP {p:Uk} (tp:U7 p):Fc (Fc p)=Fc p:=by
 by_cases h:p.length=0
 ·have e:Fc p=[]:=by unfold Fc; rw [if_pos h]
  rw [e]; rfl
 ·obtain ⟨h1,h2,h3,h4,_⟩:=Cd tp h;have hc:S6 (Fc p)=1:=by
   have h5:S6 (Fc p)∣1:=h3 _ λk=>by
    by_cases hk:k<(Fc p).length
    ·rw [Qi,Qe hk]; exact Eo _ (Xs hk)
    ·rw [Qi,Qw (by omega)]; exact Int.dvd_zero _
   have h6:0<=S6 (Fc p):=by unfold S6; omega
   exact Int.eq_one_of_dvd_one h6 h5
  have hf:∀ q:Uk,0<Fi q->Hh q=S6 q:=λq hq=>by unfold Hh; rw [if_neg (by omega)]
  have hf:=(hf _ h4).trans hc;have e0:∀ q:Uk,q.length≠0->Fc q=Cv q (Hh q):=λq hq=>by unfold Fc; rw [if_neg hq]
  have e:=e0 (Fc p) (by omega);rw [hf] at e;rw [e];unfold Cv;have e2:(Fc p).map (· / (1:Int))=Fc p:=by
   conv=>rhs; rw [<-List.map_id (Fc p)]
   exact Xp λz _=>by simp
  rw [e2];exact h1
theorem iL (i:Nat):(i:Int).tmod 2=((i % 2:Nat):Int):=rfl
theorem Qse {a:Uk} (ha:Pb a) (h:(Fc a).length=0):Uh 375 [pr a] [pr []] :=
 Ue func375 rfl [.k (Ay ha),.t (by simp [Qj h])] rfl
theorem YV:∀ {l:Ul} {i:Nat} {p o:Uk},Pb p->(∀ f∈l,Pb f)->UA i p l=some o->Pb o
 | [],i,p,o,hp,_,h=>by simp only [UA] at h; injection h with h; subst h; exact hp
 |
  f::l,i,p,o,hp,hl,h=>by
  simp only [UA] at h
  split at h
  ·obtain ⟨q,hq,h⟩:=Qd.1 h;obtain ⟨rfl,hq'⟩:=QX (Hp _ _) hq;exact YV hq' (λf hf=>hl f (Qg _ hf)) h
  ·exact YV hp (λf hf=>hl f (Qg _ hf)) h
theorem Qh9:Pb [1]:=⟨rfl,by decide,λz hz=>by rw [Qk.1 hz]; decide⟩
theorem Qwi {a o:Uk} (ha:Pb a) (h:nR a=some o):Uh 375 [pr a] [pr o]:=by
 unfold nR at h
 split at h
 ·rename_i h0;injection h with h; subst h;exact Qse ha h0
 rename_i h0;obtain ⟨l,hl,h⟩:=Qd.1 h;obtain ⟨fs,hf,h⟩:=Qd.1 h;have hpa:=Rl ha;have hl':HM 66 (Fc (Fc a))=some l:=by rw [nP ha.t]; exact hl
 obtain ⟨i1,i2⟩:=MX (Rl ha) hl;have i3:=xU i2 hf;obtain ⟨j1,_⟩:=BC hf;have hw:=Ep fs;have co:=dK (p:=[1]) (by decide) (λz hz=>by rw [Qk.1 hz]; decide);rw [show trim [1]=[1] from rfl] at co;refine Ft func375 rfl ?_;refine Ub [.k (Ay ha),.f (by simpa using h0),.k co,.k (Qaf hpa hl' hf)] rfl ?_ (by simp [Uw]);refine Ug (S:=Nat×Uk) 0 (λL1 s=>(16,.v (.oi (s.1:Int)))::(3,.v (pr s.2))::L1) (λ_=>[]) (λs=>fs.length-s.1) (λs=>s.1<=fs.length/\Pb s.2/\UA s.1 s.2 (fs.drop s.1)=some o) (0,[1]) ⟨Qh _,Qh9,h⟩ rfl rfl λ⟨i,p⟩ ⟨k1,k2,k3⟩=>?_
 dsimp only at k1 k2 k3 ⊢;by_cases hlt:i<fs.length
 ·obtain ⟨f,hx⟩:=gxE (l:=fs) (i:=i) hlt;have hdr:fs.drop i=f::fs.drop (i+1):=by
   rw [Zv hlt]; congr 1;have:=Qe hlt; rw [hx] at this; injection this with this; exact this.symm
  rw [hdr] at k3;simp only [UA] at k3;have pf:=i3 f (Qa hx);by_cases h2:i % 2=0
  ·rw [if_pos h2] at k3;obtain ⟨q,hq,k3⟩:=Qd.1 k3;obtain ⟨rfl,hq'⟩:=QX (Hp _ _) hq;refine Uc [.t (by simp [hw]; omega),.x (Rf hx),.t (by rw [iL,h2]; rfl),.k (GP k2.t pf.t (Z3 k2.l (by decide)) (Z3 pf.l (by decide)) k2.b pf.b (by decide))] rfl ?_;exact rd (i+1,Gh p f) (by dsimp only; omega) ⟨hlt,hq',k3⟩ rfl
  ·rw [if_neg h2] at k3;refine Uc [.t (by simp [hw]; omega),.x (Rf hx),.f (by rw [iL,show i % 2=1 by omega]; rfl)] rfl ?_;exact rd (i+1,p) (by dsimp only; omega) ⟨hlt,k2,k3⟩ rfl
 ·obtain rfl:i=fs.length:=by omega
  rw [Y9] at k3;simp only [UA] at k3;injection k3 with k3; subst k3;exact Ud [.f (by simp [hw])] rfl
theorem QG (z:Int):Fa (z.natAbs:Int)=Fa z:=by unfold Fa; simp
theorem Qeh {x y:LV} {z:Int} (hi:Gv x y z) (hs:Fa z<=4294967295):Uh 380 [.agg [x,y]] [.agg (He (z.natAbs:Int))]:=by
 obtain ⟨b,l,rfl,rfl,hl,rfl⟩:=hi;have e:(U8 false (val l))=((U8 b (val l)).natAbs:Int):=by rw [Ri]; rfl
 rw [<-e];exact Ue func380 rfl [.k (VB hl (Qc (Pj hs) (by decide))),.k (Pm _ _)] rfl
theorem Qmo {n d:Int} (h0:d≠0) (hn:Fa n<=4294967295) (hd:Fa d<=4294967295):Uh 381 [.agg (He n),.agg (He d)] [.agg (rl (Rat.divInt n d)),.oi 0] :=
 Ue func381 rfl [.k (Bu (Uy d) hd),.k Lf,.f (by simpa using h0),.k (Bu (Uy n) hn),.k (ZP h0 hn hd)] rfl
theorem Qbs (l:Uk) (z:Int):most (l++[z])=if most l<z.natAbs then z.natAbs else most l:=by unfold most; rw [List.foldl_append]; rfl
theorem aU {s:Nat}:∀ {l:Uk},Bd s l->Fa (most l:Int)<=s:=λ{l}=>by
 suffices h:∀ (l:Uk) (m:Nat),Bd s l->Fa (m:Int)<=s->Fa ((l.foldl (λm z=>if m<z.natAbs then z.natAbs else m) m:Nat):Int)<=s from λhb=>h l 0 hb (by simp [Fa,sz])
 intro l
 induction l with
 | nil=>exact λm _ h=>h
 |
  cons z l ih =>
  intro m hb hm;refine ih _ (λy hy=>hb y (Qg _ hy)) ?_;show Fa ((if m<z.natAbs then z.natAbs else m:Nat):Int)<=s
  split
  ·rw [QG]; exact hb z (Qy ..)
  ·exact hm
def ozi:Option Nat->Up
 | none=>[.bool false,.nils]
 | some m=>He (m:Int)
def ozr:Option Nat->Up
 | none=>[.bool false,.row []]
 | some m=>He (m:Int)
theorem Qll {p:Uk} (hp:Pb p) (h0:p.length≠0):Uh 376 [pr p] [.agg (rl (Gq p)),.oi 0]:=by
 have hl:=hp.l;have hll:(p.take (p.length-1)).length=p.length-1:=by simp
 have hbt:Bd 16777216 (p.take (p.length-1)):=λz hz=>hp.b z (Qo hz)
 refine Ft func376 rfl ?_;refine Uc [.k (Hn hp.t hp.ln hp.bd),.f (by simpa using h0),.r 18 (eI (b:=((p.length-1:Nat):Int)) (by simp; omega)),.i (p.length-1)] rfl ?_;rw [<-Jt];refine Ug (S:=Nat×Option Nat) 2 (λL1 s=>(21,.v (.oi (s.1:Int)))::L1) (λs=>[.blk 40 [.bool false,.nils,.bool false,.nils],.blk 34 (ozi s.2)]) (λs=>p.length-1-s.1) (λs=>s.1<=p.length-1/\most ((p.take (p.length-1)).take s.1)=s.2.getD 0) (0,none) ⟨Qh _,rfl⟩ rfl rfl λ⟨i,o⟩ ⟨j1,j2⟩=>?_
 dsimp only at j1 j2 ⊢;by_cases hlt:i<p.length-1
 ·obtain ⟨z,hz⟩:=gxE (l:=(p.take (p.length-1))) (i:=i) (by omega);have bz:Fa z<=16777216:=hbt z (Qa hz);have hst:most ((p.take (p.length-1)).take (i+1))=if o.getD 0<z.natAbs then z.natAbs else o.getD 0:=by
   rw [Zw,hz]; show most (_++[z])=_; rw [Qbs,j2]
  have ca:=Qeh (Uy z) (Qc bz (by decide));have hl1:decide ((i:Int)<(((p.take (p.length-1)).map He).length:Int))=true:=by simp; omega
  have bm:Fa ((o.getD 0:Nat):Int)<=16777216:=by rw [<-j2]; exact aU λy hy=>hbt y (Qo hy)
  have hcm:Dt (z.natAbs:Int) ((o.getD 0:Nat):Int)>0↔o.getD 0<z.natAbs:=by unfold Dt; split <;> (try split) <;> omega
  have cc:Uh 101 [.agg (He (z.natAbs:Int)),.agg (ozr o)] [.oi (Dt (z.natAbs:Int) ((o.getD 0:Nat):Int))]:=by
   cases o with
   | none=>exact GB (Uy _) QF (by rw [QG]; omega) (by decide)
   | some m=>exact GB (Uy _) (Uy _) (by rw [QG]; omega) (Qc bm (by decide))
  by_cases hc:o.getD 0<z.natAbs
  ·rw [if_pos hc] at hst;have hd:decide (Dt (z.natAbs:Int) ((o.getD 0:Nat):Int)>0)=true:=by simpa using hcm.2 hc
   cases o <;> (refine Uc [.t hl1,.x (Gn (f:=He) hz),.k ca,.k cc,.t hd] rfl ?_; exact rd (i+1,some z.natAbs) (by dsimp only; omega) ⟨hlt,hst⟩ rfl)
  ·rw [if_neg hc] at hst;have hd:decide (Dt (z.natAbs:Int) ((o.getD 0:Nat):Int)>0)=false:=by
    have:=mt hcm.1 hc; simpa using this
   cases o with
   | none=>refine Uc [.t hl1,.x (Gn (f:=He) hz),.k ca,.k cc,.f hd] rfl ?_; exact rd (i+1,none) (by dsimp only; omega) ⟨hlt,hst⟩ rfl
   | some m=>refine Uc [.t hl1,.x (Gn (f:=He) hz),.k ca,.k cc,.f hd] rfl ?_; exact rd (i+1,some m) (by dsimp only; omega) ⟨hlt,hst⟩ rfl
 ·obtain rfl:i=p.length-1:=by omega
  rw [Qn (by omega)] at j2;have bl:Fa (Fi p)<=16777216:=hp.b _ (CM h0);have ln:((Fi p).natAbs:Int)≠0:=by have:=L9 hp.t h0; omega
  have cl:=Db hp.t hp.ln hp.bd;have ca:=Qeh (Uy (Fi p)) (Qc bl (by decide));have bm:Fa ((o.getD 0:Nat):Int)<=16777216:=by rw [<-j2]; exact aU hbt
  have cd:Uh 219 [.agg (He ((Fi p).natAbs:Int)),.agg (ozr o)] [.agg (He (((Fi p).natAbs:Int)+(most (p.take (p.length-1)):Int)))]:=by
   rw [j2];cases o with
   | none=>exact VD (Uy _) QF (by rw [QG]; omega) (by decide)
   | some m=>exact VD (Uy _) (Uy _) (by rw [QG]; omega) (Qc bm (by decide))
  have cm:=Qmo (n:=((Fi p).natAbs:Int)+(most (p.take (p.length-1)):Int)) ln (Qc (YQ _ _) (by rw [QG,j2]; omega)) (by rw [QG]; omega);have hf:decide (((p.length-1:Nat):Int)<(((p.take (p.length-1)).map He).length:Int))=false:=by simp
  cases o <;> exact Ud [.f hf,.k cl,.k ca,.k cd,.k cm] rfl
theorem Qqg {z:Int}:Uh 358 [.agg (He z)] [.oi (Int.sign z)]:=by
 by_cases h0:z=0
 ·subst h0;exact Ue func358 rfl [.t (by simp [Uz,G0])] rfl
 ·have hl:(Fv z.natAbs).length≠0:=λh=>h0 (Qbp.1 h)
  have hl':decide (((lm (Fv z.natAbs)).length:Int)=0)=false:=by simpa [Uz] using hl
  by_cases h1:z<0
  ·rw [J4 h1];exact Ue func358 rfl [.f hl',.t (by simpa using h1)] rfl
  ·rw [Ys (by omega)];exact Ue func358 rfl [.f hl',.f (by simpa using h1)] rfl
theorem Qdn {p:Uk} (hp:Pb p):Uh 386 [pr p] [.oi (ZV p),.oi (UV p)]:=by
 have hb:-1<=(Fi p).sign/\(Fi p).sign<=1:=by rcases Ap (Fi p) with h | h | h <;> omega
 by_cases h:p.length % 2=0
 ·have e:ZV p=-(Fi p).sign:=by unfold ZV; rw [if_pos h]
  rw [e];exact Ue func386 rfl [.k (Hn hp.t hp.ln hp.bd),.k (Db hp.t hp.ln hp.bd),.k Qqg,.t (by rw [iL]; simp [h])] rfl rfl (by simp [Uw,Fi] at hb ⊢; omega)
 ·have e:ZV p=(Fi p).sign:=by unfold ZV; rw [if_neg h]
  rw [e];exact Ue func386 rfl [.k (Hn hp.t hp.ln hp.bd),.k (Db hp.t hp.ln hp.bd),.k Qqg,.f (by rw [iL]; simp; omega)] rfl rfl (by simp [Uw])
theorem Qeq {p:Uk} (hp:Pb p):Uh 385 [pr p] [.oi (ZV p)]:=Ue func385 rfl [.k (Qdn hp)] rfl
theorem Qmm {p:Uk} (hp:Pb p):Uh 387 [pr p] [.oi (UV p)]:=Ue func387 rfl [.k (Qdn hp)] rfl
theorem Qsx {q:Rat} (hq:Qs 4294967295 q):Uh 139 [.agg (rl q)] [.agg (rl (-q))]:=by
 exact Ue func139 rfl [.k (ND hq),.k (NF (Uy _) hq.1)] rfl
theorem kE {l:Ul} {fid:Nat} {sg:Uk->Int} (hl:l.length≤1000) (hs:∀ p,-1≤sg p/\sg p≤1) (h:∀ p∈l,EF prog fid [pr p] [.oi (sg p)]):Uh 296 [.one (.sh [.row (Sx l)]),.one (.fn fid [] [])] [.oi (Cj sg l:Nat)]:=by
 have hpl:=Ep l;refine Ft func296 rfl ?_;refine Ub [] rfl ?_;refine Ug (S:=Nat) 0 (λL1 i=>(15,.v (.oi i))::(5,.v (.oi ((VZ sg l i).1:Int)))::(6,.v (.one (.int .i64 (VZ sg l i).2)))::L1) (λ_=>[]) (λi=>l.length-i) (λi=>i<=l.length) 0 (Qh _) rfl rfl λi hi=>?_
 by_cases hlt:i<l.length
 ·obtain ⟨p,hp⟩:=gxE (l:=l) (i:=i) hlt;have hst:VZ sg l (i+1)=Ph sg (VZ sg l i) p:=Tq _ _ _ hp;obtain ⟨b1,b2,b3⟩:=yC hs l i;have b4:=hs p;by_cases h0:sg p=0
  ·refine Uc [.t (by simp [hpl]; omega),.x (Rf hp),.k (h p (Qa hp)),.t (by simpa using h0)] rfl ?_;exact rd (i+1) (by omega) hlt (by rw [hst,show Ph sg (VZ sg l i) p=VZ sg l i from by unfold Ph; rw [if_pos h0]]; rfl)
  ·by_cases h1:(VZ sg l i).2=-(sg p)
   ·refine Uc [.t (by simp [hpl]; omega),.x (Rf hp),.k (h p (Qa hp)),.f (by simpa using h0),.t (by simpa using h1)] rfl ?_;exact rd (i+1) (by omega) hlt (by rw [hst,show Ph sg (VZ sg l i) p=((VZ sg l i).1+1,sg p) from by unfold Ph; rw [if_neg h0,if_pos h1]]; rfl)
   ·refine Uc [.t (by simp [hpl]; omega),.x (Rf hp),.k (h p (Qa hp)),.f (by simpa using h0),.f (by simpa using h1)] rfl ?_;exact rd (i+1) (by omega) hlt (by rw [hst,show Ph sg (VZ sg l i) p=((VZ sg l i).1,sg p) from by unfold Ph; rw [if_neg h0,if_neg h1]]; rfl)
 ·obtain rfl:i=l.length:=by omega
  refine Ud [.f (by simp [hpl])] rfl ?_ trivial;unfold VZ Cj; rw [List.take_length]
theorem HJ (p:Uk):(-1<=ZV p/\ZV p<=1)/\-1<=UV p/\UV p<=1:=by
 have hb:-1<=(Fi p).sign/\(Fi p).sign<=1:=by rcases Ap (Fi p) with h | h | h <;> omega
 unfold ZV UV
 split <;> omega
theorem Qln {l:Ul} (hl:l.length≤1000) (hp:∀ p∈l,Pb p):Uh 378 [.one (.sh [.row (Sx l)])] [.oi (KE l)]:=by
 have c1:Uh 382 [.one (.sh [.row (Sx l)])] [.oi (Cj ZV l:Nat)] :=
  Ue func382 rfl [.k (kE hl (λp=>(HJ p).1) λp h=>Qeq (hp p h))] rfl
 have c2:Uh 383 [.one (.sh [.row (Sx l)])] [.oi (Cj UV l:Nat)] :=
  Ue func383 rfl [.k (kE hl (λp=>(HJ p).2) λp h=>Qmm (hp p h))] rfl
 have b1:Cj ZV l<=l.length:=Ld (λp=>(HJ p).1) l;have b2:Cj UV l<=l.length:=Ld (λp=>(HJ p).2) l;exact Ue func378 rfl [.k c1,.k c2] rfl rfl (by simp [Uw]; omega)
theorem sH {l:Ul} {lo hi:Rat} (hl:l.length<=1000):-1000<=Td l lo hi/\Td l lo hi<=1000:=by
 have b1:Ck l lo<=l.length:=Ld (λp=>Om p lo) l;have b2:Ck l hi<=l.length:=Ld (λp=>Om p hi) l;unfold Td; split <;> omega
abbrev tal (l:List Tm):Uq:=l.map λt=>ta t
theorem MF {p:Uk} {c:Ul} (hp:Pb p):∀ {k:Nat} {lo hi:Rat} {n:Int} {r:List Tm},Qb lo->Qb hi->Ib p c k lo hi n=some r->∀ t∈r,Tb t
 | 0,_,_,_,_,_,_,h=>by cases h
 |
  k+1,lo,hi,n,r,hl,hh,h=>by
  simp only [Ib] at h
  split at h
  ·injection h with h; subst h; exact λt ht=>by cases ht
  ·split at h
   ·injection h with h; subst h;intro t ht; rw [Qk.1 ht]; exact ⟨hp,hl,hh⟩
   ·obtain ⟨m,hm,h⟩:=Qd.1 h;obtain ⟨rfl,qm⟩:=BQ hm;obtain ⟨x,hx,h⟩:=Qd.1 h;obtain ⟨y,hy,h⟩:=Qd.1 h;injection h with h; subst h;intro t ht;rcases Qr.1 ht with ht | ht
    ·exact MF hp hl qm hx t ht
    ·exact MF hp qm hh hy t ht
theorem Qvd (l:List Tm):∀ c∈tal l,c.length=9:=λc hc=>by obtain ⟨t,_,rfl⟩:=Za.1 hc; rfl
theorem pK {p:Uk} {c:Ul} (hp:Pb p) (hcl:c.length≤1000) (hc:∀ q∈c,Pb q):∀ {k:Nat} {lo hi:Rat} {n:Int} {r:List Tm},Qb lo->Qb hi->k≤100000->-(1000*(100001-k:Nat))≤n/\n≤1000*(100001-k:Nat)->Ib p c k lo hi n=some r->r.length≤1000000->U0 prog 377 [pr p,.one (.sh [.row (Sx c)]),.agg (rl lo),.agg (rl hi),.oi n] [] [.one (.orow 0 9 none)] [.row false 189 9 (tal r)]
 | 0,_,_,_,_,_,_,_,_,h,_=>by cases h
 |
  k+1,lo,hi,n,r,hl,hh,hk,hn,h,hr=>by
  simp only [Ib] at h
  split at h
  ·rename_i h0;injection h with h; subst h;refine Ft func377 rfl ?_;exact Uf [] [2] [.t (by simpa using h0),.o 10 189 9] rfl
  ·rename_i h0
   split at h
   ·rename_i h1;injection h with h; subst h;refine Ft func377 rfl ?_;exact Uf [] [2] [.f (by simpa using h0),.t (by simpa using h1),.k (Hn hp.t hp.ln hp.bd),.k (Bw hl.s32),.k (Bw hh.s32),.lo] rfl
   ·rename_i h1;obtain ⟨m,hm,h⟩:=Qd.1 h;obtain ⟨rfl,qm⟩:=BQ hm;obtain ⟨x,hx,h⟩:=Qd.1 h;obtain ⟨y,hy,h⟩:=Qd.1 h;injection h with h; subst h;have hb:=sH (l:=c) (lo:=lo) (hi:=mid lo hi) hcl;rw [Qu] at hr;have c1:=pK hp hcl hc hl qm (by omega) (by omega) hx (by omega);have c2:=pK hp hcl hc qm hh (by omega) (by omega) hy (by omega);rw [show tal (x++y)=tal x++tal y from Ye];refine Ft func377 rfl ?_;exact Uf [] [3] [.f (by simpa using h0),.f (by simpa using h1),.k (Qqe hl hh),.k (AU hcl hc hl qm),.c [3] c1,.c [4] c2,.s (Qvd y)] rfl (by simp [Uw]; omega)
theorem Ql1 {p:Uk} {r:List Tm} (hp:Pb p) (h:SV p=some r) (hr:r.length<=1000000):Uh 374 [pr p] [.one (tas r),.oi 0]:=by
 unfold SV at h;obtain ⟨c,h1,h⟩:=Qd.1 h;obtain ⟨q,h2,h⟩:=Qd.1 h;obtain ⟨b,h3,h⟩:=Qd.1 h;obtain ⟨rfl,hb⟩:=BQ h3;obtain ⟨k1,k2⟩:=chain_ok hp h1;have hq:=RX hp h2;have q0:q.length≠0:=by
  unfold Lq at h1;obtain ⟨a,a1,h1⟩:=Qd.1 h1;rw [h2] at a1; injection a1 with a1; subst a1
  split at h1
  ·cases h1
  ·assumption
 have qn:Qb (-Gq q):=⟨by rw [Rat.neg_num,Hq]; exact hb.1,by rw [Rat.neg_den]; exact hb.2⟩;have bb1:Cj ZV c<=c.length:=Ld (λp=>(HJ p).1) c;have bb2:Cj UV c<=c.length:=Ld (λp=>(HJ p).2) c;have hn:-(1000*(100001-100000:Nat):Int)<=KE c/\KE c<=1000*(100001-100000:Nat):=by unfold KE; omega
 have cr:=pK hq (by omega) k2 qn hb (Qm _) hn h hr;refine Ft func374 rfl ?_;exact Uf [1] [] [.k (Qd6 hp h1),.f rfl,.k (NH hp h2),.k (Qll hq q0),.k (Qsx hb.s32),.k (Qln (by omega) k2),.c [1] cr] rfl
def Uv (l:List Pt):Uq:=l.map U6
theorem Si {l:List Pt} {i:Nat} {c:Pt} (h:l[i]? = some c):(Uv l)[i]? = some (U6 c):=Gn h
theorem Gu (l:List Pt):(Uv l).length=l.length:=by simp [Uv]
theorem YU (l:List Pt):∀ c∈Uv l,c.length=5:=λc hc=>by
 obtain ⟨x,_,rfl⟩:=Za.1 hc; rfl
abbrev zPt:Up:=[.nils,.nils,.bool false,.nils,.int .i64 0]
theorem eZ {lt:Pt->Pt->Bool} {O:List Pt} {z:Up} {c:Pt} {k m:Nat} {l2:Uq} (hk:k<=O.length) (hp:Lm lt O c O.length=k) (hm:m=O.length-k) (h2:l2.take m=((Uv O++[z]).drop k).take m) :
 ((Uv O++[z]).take (k+1)++(l2.take m++(Uv O++[z]).drop (k+1+m))).set k (U6 c)=Uv (Li lt O c):=by
 rw [h2,<-Zc,uB (Uv O) z (U6 c) (by rw [Gu]; omega) (by rw [Gu]; omega)];simp [Li,hp,Uv,Jt,Vh]
def Tn (t:Tm) (l:List Pt):List Pt:=Lu (Tg (Fl t)) l
theorem kW {l:List Pt} {t:Tm} (hl:∀ p∈l,Sc p.c) (hn:l.length≤1000000) (ht:Va t):Uh 159 [.agg (ta t),.one (pts l)] [.one (pts (Tn t l))]:=by
 have hcl:=Gu l;show Uh 159 [.agg (ta t),.one (.row (Uv l))] [.one (.row (Uv (Tn t l)))];obtain ⟨lt,hlt0⟩:=nmE (Tg (Fl t));unfold Tn;rw [<-hlt0];refine Ft func159 rfl ?_;refine Ub [.o 5 38 5] rfl ?_;refine Ug (S:=Nat) 2 (λL1 i=>(11,.v (.oi i))::(5,.v (.one (.orow 1 5 none)))::L1) (λi=>[.blk 189 (ta t),.row false 38 5 (Uv (Lu lt (l.take i)))]) (λi=>l.length-i) (λi=>i<=l.length) 0 (Qh _) rfl rfl λi hi=>?_
 by_cases hlt:i<l.length
 ·obtain ⟨c,hc⟩:=gxE (l:=l) (i:=i) hlt;have hst:Lu lt (l.take (i+1))=Li lt (Lu lt (l.take i)) c:=cJ hc;have hcp:=hl c (Qa hc);obtain ⟨O,hO⟩:=nmE (Lu lt (l.take i));have hOl:O.length=i:=by rw [hO,qB,Qq]; omega
  have hOm:∀ x∈O,Sc x.c:=λx hx=>by rw [hO,Qcd] at hx; exact hl x (Qo hx)
  rw [<-hO] at hst ⊢;refine Ub [.t (by simp [hcl]; omega),.x (Si hc)] rfl ?_;refine Ug (S:=Nat) 3 (λL1 k=>(8,.v (.oi k))::L1) (λk=>[.blk 189 (ta t),.row false 38 5 (Uv O),.blk 38 (U6 c)]) id (λk=>k<=O.length/\Lm lt O c k=Lm lt O c O.length) (Uv O).length ⟨by rw [Gu]; exact Qm _,by rw [Gu]⟩ rfl rfl λk ⟨hk,hp⟩=>?_
  have hz:∀ y∈[zPt],y.length=5:=λy hy=>by rw [Qk.1 hy]; rfl
  have h77:∀ y∈Uv O++[zPt],y.length=5:=λy hy=>by
   rcases Qr.1 hy with hy | hy
   ·exact YU O y hy
   ·exact hz y hy
  cases k with
  |
   zero =>
   have hp:Lm lt O c O.length=0:=by rw [<-hp]; rfl
   refine go tt [.g 19 false (by simp),.f rfl,.s (sz:=5) hz,.r 37 (eI (b:=((0+1:Nat):Int)) (by simp)),.i (0+1),.i (0),.s (sz:=5) (λy hy=>h77 y (Qo hy)),.i (O.length),.i (0)] rfl (by simp [Uw,Gu]; omega) ?_;exact rd (i+1) (by omega) hlt (by rw [hst,<-eZ (z:=zPt) (l2:=(Uv O++[zPt]).take ((Uv O++[zPt]).length-0)) (k:=0) (m:=O.length) (by omega) hp (by omega) (by congr 1; exact Qn (by simp))]; rfl)
  |
   succ k =>
   obtain ⟨x,hx⟩:=gxE (l:=O) (i:=k) (by omega);have cb:=Qdg hcp (hOm x (Qa hx)) ht;rw [<-hlt0] at cb;by_cases hlc:lt c x=true
   ·refine go tt [.g 19 true (by simp),.r 23 (eI (b:=(k:Int)) (by simp)),.i k,.x (Si hx),.k cb,.t hlc,.r 30 (eI (b:=(k:Int)) (by simp))] rfl (by simp [Uw,Gu]; omega) ?_;exact rd k (by simp) ⟨by omega,by rw [<-hp,aO hx hlc]⟩ rfl
   ·have hlc:lt c x=false:=by simpa using hlc
    have hp:Lm lt O c O.length=k+1:=by rw [<-hp,gU hx hlc]
    refine go tt [.g 19 true (by simp),.r 23 (eI (b:=(k:Int)) (by simp)),.i k,.x (Si hx),.k cb,.f hlc,.s (sz:=5) hz,.r 37 (eI (b:=((k+1+1:Nat):Int)) (by simp)),.i (k+1+1),.i (k+1),.s (sz:=5) (λy hy=>h77 y (Qz (Qo hy))),.i (O.length-(k+1)),.i (k+1)] rfl (by simp [Uw,Gu]; omega) ?_;exact rd (i+1) (by omega) hlt (by rw [hst,<-eZ (z:=zPt) (l2:=((Uv O++[zPt]).drop (k+1)).take ((Uv O++[zPt]).length-(k+1))) (k:=k+1) (m:=O.length-(k+1)) (by omega) hp (by omega) (by congr 1; exact Qn (by simp))]; rfl)
 ·obtain rfl:i=l.length:=by omega
  rw [Q5];exact Ud [.f (by simp [hcl])] rfl
def Sk (sg:Uk->Int):List Pt->List Ct
 | a::b::l=>QP sg a b::Sk sg (b::l)
 | _=>[]
theorem Bf (sg:Uk->Int):∀ l:List Pt,(Sk sg l).length=l.length-1
 | []=>rfl
 | [_]=>rfl
 | a::b::l=>by simp only [Sk,Q6,Bf sg (b::l)]; omega
theorem RP (sg:Uk->Int):∀ {l:List Pt} {i:Nat} {a b:Pt},l[i]? = some a->l[i+1]? = some b->(Sk sg l).take (i+1)=(Sk sg l).take i++[QP sg a b]
 | [],i,a,b,h,_=>by simp at h
 | [x],i,a,b,_,h=>by cases i <;> simp at h
 | x::y::l,0,a,b,h1,h2=>by simp at h1 h2; subst h1; subst h2; simp [Sk]
 |
  x::y::l,i+1,a,b,h1,h2=>by
  have ih:=RP sg (l:=y::l) (i:=i) (a:=a) (b:=b) (by simpa using h1) (by simpa using h2);simp only [Sk,Ve] at ih ⊢;rw [ih]; rfl
theorem NG {l:List Pt} {t:Tm} (hl:∀ p∈l,Sc p.c) (hn:l.length≤1000000) (ht:Va t):Uh 161 [.agg (ta t),.one (pts l)] [.one (.row (U3 (Sk (Fl t) l)))]:=by
 have hcl:=Gu l;show Uh 161 [.agg (ta t),.one (.row (Uv l))] [.one (.row (U3 (Sk (Fl t) l)))];refine Ft func161 rfl ?_;refine Ub [.o 5 136 7] rfl ?_;refine Ug (S:=Nat) 2 (λL1 i=>(6,.v (.oi ((i+1:Nat):Int)))::(5,.v (.one (.orow 1 7 none)))::L1) (λi=>[.blk 189 (ta t),.row false 136 7 (U3 ((Sk (Fl t) l).take i))]) (λi=>l.length-i) (λi=>i<=l.length-1) 0 (Qh _) rfl rfl λi hi=>?_
 by_cases hlt:i+1<l.length
 ·obtain ⟨a,ha⟩:=gxE (l:=l) (i:=i) (by omega);obtain ⟨b,hb⟩:=gxE (l:=l) (i:=i+1) hlt;have hg:=RP (Fl t) ha hb;have hm:∀ y∈[C6 (QP (Fl t) a b)],y.length=7:=λy hy=>by rw [Qk.1 hy]; rfl
  refine go tt [.t (by simp [hcl]; omega),.r 19 (eI (b:=(i:Int)) (by simp)),.x (Si ha),.x (Si hb),.k (dY (hl a (Qa ha)) (hl b (Qa hb)) ht),.s (sz:=7) hm,.r 14 (eI (b:=((i+1+1:Nat):Int)) (by simp))] rfl (by simp [Uw,Gu,S8,Bf]; omega) ?_;exact rd (i+1) (by omega) (by omega) (by rw [hg]; simp [U3]; rfl)
 ·have e:(Sk (Fl t) l).take i=Sk (Fl t) l:=Qn (by rw [Bf]; omega);rw [e];exact Ud [.f (by simp [hcl]; omega)] rfl
theorem Ql3:Uh 243 [pr []] [.one .nilp,.oi 2]:=by
 have h:Pd []=some []:=rfl;exact Ue func243 rfl [.k (NH RZ h),.t rfl] rfl
theorem Qd5:Uh 374 [pr []] [.one (.row []),.oi 2] :=
 Ue func374 rfl [.k Ql3,.t rfl] rfl
theorem Qui {a o:Uk} (ha:Pb a) (h:nR a=some o):Pb o:=by
 unfold nR at h
 split at h
 ·injection h with h; subst h; exact RZ
 ·obtain ⟨l,hl,h⟩:=Qd.1 h;obtain ⟨fs,hf,h⟩:=Qd.1 h;exact YV Qh9 (xU (MX (Rl ha) hl).2 hf) h
theorem Qdo {p:Uk} {l:List Tm} (hp:Pb p) (h:WZ p=some l) (hl:l.length<=1000000):Uh 373 [pr p] [.one (tas l)]:=by
 unfold WZ at h;obtain ⟨q,hq,h⟩:=Qd.1 h;have qp:=Qui hp hq;have co:=Qwi hp hq
 split at h
 ·rename_i h0;injection h with h; subst h;obtain rfl:=Qj h0;exact Ue func373 rfl [.k co,.k Qd5,.t rfl] rfl
 ·exact Ue func373 rfl [.k co,.k (Ql1 qp h hl),.f rfl] rfl
def ota:Option Tm->Up
 | none=>zTr
 | some t=>ta t
theorem Qlq {p:Uk} {a:Tm} {l:List Tm} {r:Option Tm} (hp:Pb p) (ha:Tb a) (h:WZ p=some l) (hl:l.length≤1000000) (ht:∀ t∈l,Tb t) (hr:VU a l=some r):Uh 372 [pr p,.agg (ta a)] [.agg (ota r),.one (.bool r.isSome)]:=by
 have hll:(l.map λt=>ta t).length=l.length:=by simp
 refine Ft func372 rfl ?_;refine Ub [.k (Qdo hp h hl)] rfl ?_;refine Ug (S:=Nat) 2 (λL1 i=>(11,.v (.oi i))::L1) (λ_=>[.blk 189 (ta a),.blk 189 zTm]) (λi=>l.length-i) (λi=>i<=l.length/\VU a (l.drop i)=some r) 0 ⟨Qh _,hr⟩ rfl rfl λi ⟨hi,hf⟩=>?_
 by_cases hlt:i<l.length
 ·obtain ⟨t,hx⟩:=gxE (l:=l) (i:=i) hlt;have hdr:l.drop i=t::l.drop (i+1):=by
   rw [Zv hlt]; congr 1;have:=Qe hlt; rw [hx] at this; injection this with this; exact this.symm
  rw [hdr] at hf;simp only [VU] at hf;obtain ⟨c,c1,hf⟩:=Qd.1 hf;have cc:=VN (ht t (Qa hx)) ha c1;by_cases hc:0<c
  ·rw [if_pos hc] at hf;injection hf with hf; subst hf;exact Ud [.t (by simp; omega),.x (MC hx),.k cc,.t (by simpa using hc)] rfl
  ·rw [if_neg hc] at hf;refine Uc [.t (by simp; omega),.x (MC hx),.k cc,.f (by simpa using hc)] rfl ?_;exact rd (i+1) (by omega) ⟨hlt,hf⟩ rfl
 ·obtain rfl:i=l.length:=by omega
  rw [Y9] at hf;simp only [VU] at hf;injection hf with hf; subst hf;exact Ud [.f (by simp)] rfl
def I7 (now:Tm):List Wt->Option (List Wt)
 | []=>some []
 | w::l=>(if w.known=true then some w else (SQ w.c.p now).bind λr=>some ⟨w.c,true,r⟩).bind λw'=>(I7 now l).bind λr=>some (w'::r)
theorem YJ {now:Tm}:∀ {l ws:List Wt},I7 now l=some ws->ws.length=l.length/\∀ (i:Nat) (w:Wt),l[i]? = some w->∃ v,ws[i]? = some v/\(w.known=true/\v=w\/w.known=false/\∃ r,SQ w.c.p now=some r/\v=⟨w.c,true,r⟩)
 | [],ws,h=>by injection h with h; subst h; exact ⟨rfl,λi x hx=>by simp at hx⟩
 |
  y::l,ws,h=>by
  simp only [I7] at h;obtain ⟨v,hv,h⟩:=Qd.1 h;obtain ⟨r,hr,h⟩:=Qd.1 h;injection h with h; subst h;obtain ⟨a,b⟩:=YJ hr;refine ⟨by simp [a],λi x hx=>?_⟩;cases i with
  |
   zero =>
   injection hx with hx; subst hx;refine ⟨v,rfl,?_⟩
   split at hv
   ·rename_i hk; injection hv with hv; exact .inl ⟨hk,hv.symm⟩
   ·rename_i hk;obtain ⟨q,hq,hv⟩:=Qd.1 hv;injection hv with hv;exact .inr ⟨by simpa using hk,q,hq,hv.symm⟩
  | succ i=>exact b i x (by simpa using hx)
theorem kQ {p:Uk} {a:Tm} {r:Option Tm} (hp:Cp p) (ha:Va a) (h:SQ p a=some r):Uh 372 [pr p,.agg (ta a)] [.agg (ota r),.one (.bool r.isSome)]:=by
 obtain ⟨l,l1,l2,l3,_⟩:=JW hp;unfold SQ at h;rw [l1] at h;exact Qlq (Dp.pb hp.dp) ha.tb l1 (by omega) (λt ht=>(l3 t ht).tb) h
theorem Qlt {T:Nat} {c:Cr} {r0 r1:Uq} {ws:List Wt} (hc:CrOk c) (h:I7 c.now c.l=some ws):U0 prog 365 [.one (.ow 0 0)] [.blk T (Ht c r0 r1)] [] [.blk T (Ht { c with l:=ws } r0 r1)]:=by
 have hk:=hc.k;have hw:=Tc c.l;obtain ⟨h1,h2⟩:=YJ h;refine Ft func365 rfl ?_;refine Ub [.o 2 276 18,.c [0] (O6 hc.n)] rfl ?_;refine Ug (S:=Nat) 3 (λL1 i=>(13,.v (.oi i))::(2,.v (.one (.orow 1 18 none)))::L1) (λi=>[.blk T (Ht c r0 r1),.row false 276 18 (Bp (ws.take i)),.blk 189 (ta c.now)]) (λi=>c.l.length-i) (λi=>i<=c.l.length) 0 (Qh _) rfl rfl λi hi=>?_
 by_cases hlt:i<c.l.length
 ·obtain ⟨w,hx⟩:=gxE (l:=c.l) (i:=i) hlt;obtain ⟨v,hv,h3⟩:=h2 i w hx;have hm:∀ y∈[wl v],y.length=18:=λy hy=>by rw [Qk.1 hy]; rfl
  have hg:=Ev hv;have hl:decide ((i:Int)<((Bp c.l).length:Int))=true:=by simp [hw]; omega
  rcases h3 with ⟨k1,rfl⟩ | ⟨k1,r,k2,rfl⟩
  ·obtain ⟨vc,vk,vf⟩:=v;cases vf <;> (refine go tt [.t hl,.x (Hk hx),.f (by rw [show vk=true from k1]; rfl),.s (sz:=18) hm] rfl (by simp [Uw,Tc]; omega) ?_; exact rd (i+1) (by omega) hlt (by rw [hg]; rfl))
  ·have cg:=kQ (hc.l w (Qa hx)).p hc.n k2;obtain ⟨wc,wk,wf⟩:=w;cases r <;> cases wf <;> (refine go tt [.t hl,.x (Hk hx),.t (by rw [show wk=false from k1]; rfl),.k cg,.s (sz:=18) hm] rfl (by simp [Uw,Tc]; omega) ?_; exact rd (i+1) (by omega) hlt (by rw [hg]; rfl))
 ·obtain rfl:i=c.l.length:=by omega
  rw [<-h1,Q5];exact Uf [1] [0] [.f (by simp [hw,h1])] rfl
def EA (ws:List Wt):Option (Option Tm):=match ws.filterMap (·.fails) with
 | []=>some none
 | b::l=>(QH b l).map some
theorem Ea {c:Cr} {ws:List Wt} (hc:CrOk c) (h:I7 c.now c.l=some ws):CrOk { c with l:=ws }:=by
 obtain ⟨h1,h2⟩:=YJ h;refine ⟨hc.n,λv hv=>?_,by show ws.length<=1000; rw [h1]; exact hc.k⟩;obtain ⟨i,hi⟩:=Xu hv;have hil:i<c.l.length:=by rw [<-h1]; exact (Qf.1 hi).1
 obtain ⟨v',h3,h4⟩:=h2 i _ (Qe hil);rw [hi] at h3; injection h3 with h3; subst h3;have hw:=hc.l _ (Xs hil);rcases h4 with ⟨_,rfl⟩ | ⟨_,r,k2,rfl⟩
 ·exact hw
 ·obtain ⟨r',r1,r2⟩:=Qht hw.p hc.n;rw [k2] at r1; injection r1 with r1; subst r1;refine ⟨hw.p,λt ht=>?_⟩;have ht:r=some t:=ht;subst ht;exact r2.2.1
theorem PG {T:Nat} {c:Cr} {r0 r1:Uq} {ws:List Wt} {r:Option Tm} (hc:CrOk c) (h:I7 c.now c.l=some ws) (hr:EA ws=some r):U0 prog 371 [.one (.ow 0 0)] [.blk T (Ht c r0 r1)] [.agg (ota r),.one (.bool r.isSome)] [.blk T (Ht { c with l:=ws } r0 r1)]:=by
 have hcl:=Qlt (T:=T) (r0:=r0) (r1:=r1) hc h;have hc':=Ea hc h;have hk:=hc'.k;have hw:=Tc ws;have hvb:∀ t∈ws.filterMap (·.fails),Tb t:=λt ht=>by
  obtain ⟨w,w1,w2⟩:=Jh.1 ht;exact ((hc'.l w w1).f t w2).tb
 refine Ft func371 rfl ?_;refine Ub [.c [0] hcl,.o 4 189 9] rfl ?_;refine Ug (S:=Nat) 3 (λL1 i=>(14,.v (.oi i))::(4,.v (.one (.orow 2 9 none)))::L1) (λi=>[.blk T (Ht { c with l:=ws } r0 r1),.blk 189 zTm,.row false 189 9 (tal ((ws.take i).filterMap (·.fails)))]) (λi=>ws.length-i) (λi=>i<=ws.length) 0 (Qh _) rfl rfl λi hi=>?_
 by_cases hlt:i<ws.length
 ·obtain ⟨w,hx⟩:=gxE (l:=ws) (i:=i) hlt;have hl:decide ((i:Int)<((Bp ws).length:Int))=true:=by simp [hw]; omega
  have hfl:((ws.take i).filterMap (·.fails)).length<=i:=Qc (Vb _ _) (by rw [Qq]; omega);have hg:(ws.take (i+1)).filterMap (·.fails)=(ws.take i).filterMap (·.fails)++(match w.fails with | none=>[] | some t=>[t]):=by
   rw [Zw,hx,List.filterMap_append];show _++List.filterMap (·.fails) [w]=_;cases hwf:w.fails <;> simp [hwf]
  obtain ⟨wc,wk,wf⟩:=w;have hk:ws.length<=1000:=hk;cases wf with
  |
   none =>
   refine Uc [.t hl,.x (Hk hx),.f rfl] rfl ?_;exact rd (i+1) (by omega) hlt (by rw [hg]; simp; rfl)
  |
   some t =>
   refine Uc [.t hl,.x (Hk hx),.t rfl,.s (l:=[ta t]) (sz:=9) (λc hc=>by rw [Qk.1 hc]; rfl)] rfl ?_;exact rd (i+1) (by omega) hlt (by rw [hg]; simp [tal]; rfl)
 ·obtain rfl:i=ws.length:=by omega
  rw [Q5];have hf:decide ((ws.length:Int)<((Bp ws).length:Int))=false:=by simp [hw]
  have hln:(ws.filterMap (·.fails)).length<=1000:=Qc (Vb _ _) hk;unfold EA at hr;cases hfm:ws.filterMap (·.fails) with
  |
   nil =>
   rw [hfm] at hr;injection hr with hr; subst hr;exact Uf [] [0] [.f hf,.p 2,.k kX] rfl
  |
   cons b l =>
   rw [hfm] at hr hvb hln;obtain ⟨m,m1,rfl⟩:=Yv.1 hr;have cl:=Su (hvb b (Qy ..)) (λt ht=>hvb t (Qg _ ht)) (by simp at hln; omega) m1;exact Uf [] [0] [.f hf,.p 2,.k cl] rfl
theorem CP {at_:Tm} {x:Ct}:∀ {l:List Wt} {w:Wt},B7 l x at_=some w->w=fresh x\/∃ v∈l,v.known=true/\v.c.p=x.p/\w=⟨x,true,v.fails⟩/\∀ t,v.fails=some t->∃ c,WL t at_=some c/\0<c
 | [],w,h=>by simp only [B7] at h; injection h with h; exact .inl h.symm
 |
  v::l,w,h=>by
  simp only [B7] at h;have tl:B7 l x at_=some w->w=fresh x\/∃ v'∈v::l,v'.known=true/\v'.c.p=x.p/\w=⟨x,true,v'.fails⟩/\∀ t,v'.fails=some t->∃ c,WL t at_=some c/\0<c:=λh=>by
   rcases CP h with h | ⟨v',h1,h2⟩
   ·exact .inl h
   ·exact .inr ⟨v',Qg _ h1,h2⟩
  split at h
  ·rename_i hk;cases hf:v.fails with
   |
    none =>
    rw [hf] at h;injection h with h;exact .inr ⟨v,Qy ..,hk.2.1,hk.2.2,by rw [hf]; exact h.symm,λt ht=>by rw [hf] at ht; cases ht⟩
   |
    some t =>
    rw [hf] at h;obtain ⟨c,c1,h⟩:=Qd.1 h
    split at h
    ·rename_i h0;injection h with h;exact .inr ⟨v,Qy ..,hk.2.1,hk.2.2,by rw [hf]; exact h.symm,λu hu=>by rw [hf] at hu; injection hu with hu; subst hu; exact ⟨c,c1,h0⟩⟩
    ·exact tl h
  ·exact tl h
theorem lay_ok {c:Cr} {at_:Tm} {l:List Ct} {ws:List Wt} (ev:Int) (hc:CrOk c) (ha:Va at_) (hl:∀ x∈l,Cp x.p) (hn:l.length≤1000) (h:Sj c.l at_ (Fg l)=some ws):CrOk ⟨at_,ws,ev⟩:=by
 obtain ⟨h1,h2⟩:=XK h;refine ⟨ha,λw hw=>?_,by show ws.length<=1000; rw [h1,Mh]; exact hn⟩;obtain ⟨i,hi⟩:=Xu hw;have hil:i<(Fg l).length:=by rw [<-h1]; exact (Qf.1 hi).1
 obtain ⟨v,h3,h4⟩:=h2 i _ (Qe hil);rw [hi] at h4; injection h4 with h4; subst h4;have hx:=hl _ (Rr (Xs hil));rcases CP h3 with e | ⟨v,v1,_,v3,e,_⟩
 ·rw [e]; exact ⟨hx,λt ht=>by cases ht⟩
 ·rw [e]; exact ⟨hx,λt ht=>(hc.l v v1).f t ht⟩
def WV {β:Type} (Bc:Tm->List Ct) (Br:Tm->β) (t:Rat):Nat->Cr->β->Int->Option (Cr×β×Int)
 | 0,_,_,_=>none
 |
  k+1,c,r,n=>(I7 c.now c.l).bind λws=>(EA ws).bind λo=>match o with
  | none=>some (⟨tq t,ws,c.ev⟩,r,n)
  | some a=>if 0<Fh a t then some (⟨tq t,ws,c.ev⟩,r,n) else (Sj ws a (Fg (Bc a))).bind λw2=>WV Bc Br t k ⟨a,w2,c.ev+1⟩ (Br a) (n+1)
theorem Qhx {ws:List Wt} {a:Tm} (h:EA ws=some (some a)) (hv:∀ t∈ws.filterMap (·.fails),Va t):a∈ws.filterMap (·.fails)/\∀ t∈ws.filterMap (·.fails),¬Nf t a:=by
 unfold EA at h;cases hf:ws.filterMap (·.fails) with
 | nil=>rw [hf] at h; injection h with h; cases h
 |
  cons b l =>
  rw [hf] at h hv;obtain ⟨m,m1,m2⟩:=Yv.1 h;injection m2 with m2; subst m2;obtain ⟨m',n1,n2,n3⟩:=HN l b hv;rw [m1] at n1; injection n1 with n1; subst n1;exact ⟨n2,n3⟩
theorem DJ {c:Cr} {ws:List Wt} {a:Tm} (hc:CrOk c) (h:I7 c.now c.l=some ws) (hr:EA ws=some (some a)):Va a:=by
 have hc':=Ea hc h;have hv:∀ t∈ws.filterMap (·.fails),Va t:=λt ht=>by
  obtain ⟨w,w1,w2⟩:=Jh.1 ht;exact (hc'.l w w1).f t w2
 exact hv a (Qhx hr hv).1
structure BuildOk (Bc:Tm->List Ct):Prop where
 p:∀ a,Va a->∀ x∈Bc a,Cp x.p
 n:∀ a,Va a->(Bc a).length<=1000
theorem Qwg {T:Nat} {t:Rat} {Bc:Tm->List Ct} {Br:Tm->Uq} {r0:Uq} (ht:Qs 1640000 t) (hB:BuildOk Bc)
 (hb:∀ a c r1,Va a->CrOk c->U0 prog 127 [.one (.ow 0 0),.agg (ta a)] [.blk T (Ht c r0 r1)] [.one (.row (U3 (Bc a)))] [.blk T (Ht c r0 (Br a))])
 {K:Nat} {c c':Cr} {r1 r1':Uq} {n:Int} (hc:CrOk c) (hev:0<=c.ev/\c.ev+K<=1000000000000000000) (h:Fh c.now t<=0) (hg:WV Bc Br t K c r1 0=some (c',r1',n)) :
 U0 prog 366 [.one (.ow 0 0),.agg (rl t),.one (.ofn 127 [.ow 0 0] [])] [.blk T (Ht c r0 r1)] [.oi n,.oi 0] [.blk T (Ht c' r0 r1')]:=by
 have qt:Qb t:=ht.mono (by decide);have c1:=Cz hc.n.tb qt;refine Ft func366 rfl ?_;refine Ub [.c [0] (O6 hc.n),.k c1,.f (by simpa using h)] rfl ?_;refine Ug (S:=Nat×Cr×Uq×Int) 2 (λL1 s=>(8,.v (.oi s.2.2.2))::L1) (λs=>[.blk T (Ht s.2.1 r0 s.2.2.1),.blk 40 (rl t)]) (λs=>s.1) (λs=>CrOk s.2.1/\(0<=s.2.1.ev/\s.2.1.ev+s.1<=1000000000000000000)/\(0<=s.2.2.2/\s.2.2.2+s.1<=1000000000000000000)/\WV Bc Br t s.1 s.2.1 s.2.2.1 s.2.2.2=some (c',r1',n)) (K,c,r1,0) ⟨hc,hev,⟨Int.le_refl 0,by dsimp only; omega⟩,hg⟩ rfl rfl λ⟨k,x,r,m⟩ ⟨j1,j2,j3,j4⟩=>?_
 dsimp only at j1 j2 j3 j4 ⊢;cases k with
 | zero=>cases j4
 |
  succ k =>
  simp only [WV] at j4;obtain ⟨ws,w1,j4⟩:=Qd.1 j4;obtain ⟨o,o1,j4⟩:=Qd.1 j4;have cn:=PG (T:=T) (r0:=r0) (r1:=r) j1 w1 o1;have ca:=VY (Uy t.num) (Uy (t.den:Int)) (Qc ht.1 (by decide)) (Qc ht.2 (by decide)) (by rw [Pe]; exact ht.mono (by decide));rw [Pe] at ca;cases o with
  |
   none =>
   injection j4 with j4; injection j4 with e1 j4; injection j4 with e2 e3;subst e1; subst e2; subst e3;exact Uf [] [0] [.c [0] cn,.g 25 true rfl,.t rfl,.k ca] rfl
  |
   some a =>
   have ha:=DJ j1 w1 o1;dsimp only at j4;have cc:=Cz ha.tb qt;by_cases h0:0<Fh a t
   ·rw [if_pos h0] at j4;injection j4 with j4; injection j4 with e1 j4; injection j4 with e2 e3;subst e1; subst e2; subst e3;exact Uf [] [0] [.c [0] cn,.g 25 false rfl,.k cc,.t (by simpa using h0),.k ca] rfl
   ·rw [if_neg h0] at j4;obtain ⟨w2,l1,j4⟩:=Qd.1 j4;have j1':=Ea j1 w1;have cl:=Su (b:=a) (l:=[]) ha.tb (λt ht=>by cases ht) (by decide) rfl;have cb:=hb a { x with l:=ws } r ha j1';have cy:=WS (T:=T) (r0:=r0) (r1:=Br a) j1' ha (hB.p a ha) (hB.n a ha) l1;have hf:decide (0<Fh a t)=false:=by simpa using h0
    refine Uc [.c [0] cn,.g 25 false rfl,.k cc,.f hf,.k cl,.c [0] cb,.c [0] cy] rfl ?_;exact rd (k,⟨a,w2,x.ev+1⟩,Br a,m+1) (by dsimp only; omega) ⟨lay_ok _ j1' ha (hB.p a ha) (hB.n a ha) l1,by dsimp only; omega,by dsimp only; omega,j4⟩ rfl
theorem JP {T:Nat} {c:Cr} {r0 r1:Uq}:U0 prog 362 [.one (.ow 0 0)] [.blk T (Ht c r0 r1)] [.oi c.ev] [.blk T (Ht c r0 r1)]:=by
 refine Ft func362 rfl ?_;exact Uf [] [0] [] rfl
end Orr
namespace Orq
open Orr Go
theorem Qxc {a b c:Tm} (hb:Cut (Fh b)) (hc:Cut (Fh c)) (h:Nf a b) (h':Nf b c):Nf a c:=by
 obtain ⟨q,q1,q2⟩:=h;obtain ⟨r,r1,r2⟩:=h';exact ⟨q,q1,hc.mono' (hb.lt q2 r1) (by omega)⟩
theorem HC {a b:Tm} (ha:Cut (Fh a)) (hb:Cut (Fh b)) (h:¬Nf b a):Leq a (Fh b):=λq hq=>by
 rcases ha.val q with e | e | e
 ·exact absurd ⟨q,hq,e⟩ h
 ·obtain ⟨r,r1,r2⟩:=hb.dn q hq;exact absurd ⟨r,r2,ha.mono' r1 (by omega)⟩ h
 ·exact e
theorem eL {a b c:Tm} (_:Cut (Fh a)) (hb:Cut (Fh b)) (hc:Cut (Fh c)) (h:Nf a b) (h':¬Nf c b):Nf a c:=by
 obtain ⟨q,q1,q2⟩:=h;refine ⟨q,q1,?_⟩;have hl:=HC hb hc h';rcases hc.val q with e | e | e
 ·exact e
 ·obtain ⟨r,r1,r2⟩:=hb.up q q2;have h1:=hc.mono q r r1 (by omega);have:=hl r h1;omega
 ·have:=hl q e; omega
theorem jX {a b:Tm} (ha:Cut (Fh a)) (hb:Cut (Fh b)) (h:Nf a b):¬Nf b a:=λh'=>Il ha hb h h'
theorem Oc {p:Uk} {a b:Tm} {o:Option Tm} (ha:Cut (Fh a)) (hb:Cut (Fh b)) (hab:¬Nf b a) (h:Mj p a o) (ho:∀ t,o=some t->Nf b t):Mj p b o:=by
 have hl:=HC ha hb hab;cases o with
 |
  none =>
  rcases h with h | ⟨s,s0,h⟩
  ·exact .inl h
  ·exact .inr ⟨s,s0,λc hc hbc=>h c hc λq hq=>hl q (hbc q hq)⟩
 |
  some t =>
  obtain ⟨h1,h2,_,s,s0,h4,h5⟩:=h;exact ⟨h1,h2,ho t rfl,s,s0,λc hc hbc hm=>h4 c hc (λq hq=>hl q (hbc q hq)) hm,h5⟩
theorem II {p:Uk} {a b:Tm} {o:Option Tm} (hp:Dp p) (ha:Va a) (hb:Va b) (hab:¬Nf b a) (h:Mj p a o) (ho:∀ t,o=some t->Nf b t):Hd (Fl b) p=Hd (Fl a) p:=by
 by_cases h0:p.length=0
 ·obtain rfl:=Qj h0; rfl
 obtain ⟨ra,_⟩:=L8 ha hp h0;obtain ⟨rb,_⟩:=L8 hb hp h0;have hl:=HC ha.cut hb.cut hab;cases o with
 |
  none =>
  rcases h with h | ⟨s,s0,h⟩
  ·exact absurd (by rw [h]; rfl) h0
  ·exact (FT rb (h _ hb.cut hl)).trans (FT ra (h _ ha.cut λ_ h=>h)).symm
 |
  some t =>
  obtain ⟨h1,h2,h3,s,s0,h4,h5⟩:=h;exact (FT rb (h4 _ hb.cut hl (ho t rfl))).trans (FT ra (h4 _ ha.cut (λ_ h=>h) h3)).symm
theorem tQ (t q:Rat):Fh (tq t) q=G7 t q:=A0 (t:=tq t) rfl q
theorem GA {a:Tm} {t:Rat} (ha:Cut (Fh a)):0<Fh a t↔Nf (tq t) a:=by
 constructor
 ·intro h;have h1:Fh a t=1:=by rcases ha.val t with e | e | e <;> omega
  obtain ⟨r,r1,r2⟩:=ha.up t h1;exact ⟨r,by rw [tQ]; rcases Ms t r with ⟨e,e'⟩ | ⟨e,e'⟩ | ⟨e,e'⟩ <;> first | exact e | (exfalso; grind),r2⟩
 ·rintro ⟨q,q1,q2⟩
  rw [tQ] at q1;have:t<q:=by rcases Ms t q with ⟨e,e'⟩ | ⟨e,e'⟩ | ⟨e,e'⟩ <;> first | exact e' | omega
  have:=ha.mono' this (by omega);omega
open Classical in
noncomputable def mu (T:List Tm) (a:Tm):Nat:=(T.filter λt=>decide (Nf a t)).length
theorem IH {α:Type} {p q:α->Bool} (h:∀ x,p x=true->q x=true):∀ l:List α,(l.filter p).length<=(l.filter q).length
 | []=>Qm _
 |
  x::l=>by
  have ih:=IH h l;by_cases hp:p x=true
  ·rw [X4 hp,X4 (h x hp)]; simp; exact ih
  ·rw [Jv hp];by_cases hq:q x=true
   ·rw [X4 hq]; simp; omega
   ·rw [Jv hq]; exact ih
theorem IR {α:Type} {p q:α->Bool} (h:∀ x,p x=true->q x=true) {y:α} (hp:p y=false) (hq:q y=true):∀ {l:List α},y∈l->(l.filter p).length<(l.filter q).length
 | [],hy=>by cases hy
 |
  x::l,hy=>by
  rcases Ql.1 hy with rfl | hy
  ·rw [Jv (by simp [hp]),X4 hq];have:=IH h l;simp; omega
  ·have ih:=IR h hp hq hy;by_cases hp:p x=true
   ·rw [X4 hp,X4 (h x hp)]; simp; exact ih
   ·rw [Jv hp];by_cases hq:q x=true
    ·rw [X4 hq]; simp; omega
    ·rw [Jv hq]; exact ih
open Classical in
theorem Qq6 {T:List Tm} {a b:Tm} (ha:Cut (Fh a)) (hb:Cut (Fh b)) (hT:∀ t∈T,Cut (Fh t)) (h:Nf a b) (hm:b∈T):mu T b<mu T a:=by
 have key:∀ l:List Tm,(∀ t∈l,Cut (Fh t))->l.filter (λt=>decide (Nf b t))=l.filter (λt=>decide (Cut (Fh t)/\Nf b t)):=λl hl=>List.filter_congr λx hx=>by simp [hl x hx]
 have key2:∀ l:List Tm,(∀ t∈l,Cut (Fh t))->l.filter (λt=>decide (Nf a t))=l.filter (λt=>decide (Cut (Fh t)/\Nf a t)):=λl hl=>List.filter_congr λx hx=>by simp [hl x hx]
 unfold mu;rw [key T hT,key2 T hT];refine IR (λx hx=>?_) (y:=b) ?_ ?_ hm
 ·have hx:=of_decide_eq_true hx;exact decide_eq_true ⟨hx.1,Qxc hb hx.1 h hx.2⟩
 ·exact decide_eq_false λhx=>Il hb hb hx.2 hx.2
 ·exact decide_eq_true ⟨hb,h⟩
def AQ (p:Uk):List Tm:=(WZ p).getD []
structure KInv (c:Cr):Prop where
 ok:CrOk c
 k:∀ w∈c.l,w.known=true->Mj w.c.p c.now w.fails/\∀ t,w.fails=some t->t∈AQ w.c.p
theorem DZ {p:Uk} (h:Cp p) {a:Tm} (ha:Va a):∃ r,SQ p a=some r/\Mj p a r/\∀ t,r=some t->t∈AQ p:=by
 obtain ⟨l,l1,_,_,l3⟩:=JW h;obtain ⟨r,r1,r2,r3⟩:=l3 a ha;refine ⟨r,?_,r2,λt ht=>by unfold AQ; rw [l1]; exact r3 t ht⟩;unfold SQ; rw [l1]; exact r1
theorem Qve {p:Uk} (h:Cp p):∀ t∈AQ p,Va t:=by
 obtain ⟨l,l1,_,l2,_⟩:=JW h;unfold AQ; rw [l1]; exact l2
theorem aZ {now:Tm} (hn:Va now):∀ {l:List Wt},(∀ w∈l,WtOk w)->(∀ w∈l,w.known=true->Mj w.c.p now w.fails/\∀ t,w.fails=some t->t∈AQ w.c.p) ->
 ∃ ws,I7 now l=some ws/\ws.map (·.c)=l.map (·.c)/\∀ w∈ws,w.known=true/\Mj w.c.p now w.fails/\∀ t,w.fails=some t->t∈AQ w.c.p
 | [],_,_=>⟨[],rfl,rfl,λw hw=>by cases hw⟩
 |
  w::l,h,h'=>by
  obtain ⟨ws,w1,w2,w3⟩:=aZ hn (λv hv=>h v (Qg _ hv)) (λv hv=>h' v (Qg _ hv));by_cases hk:w.known=true
  ·refine ⟨w::ws,by simp only [I7,hk,if_true,w1]; rfl,by simp [w2],λv hv=>?_⟩;rcases Ql.1 hv with rfl | hv
   ·exact ⟨hk,h' v (by simp) hk⟩
   ·exact w3 v hv
  ·obtain ⟨r,r1,r2,r3⟩:=DZ (h w (by simp)).p hn;refine ⟨⟨w.c,true,r⟩::ws,by simp only [I7]; rw [if_neg hk,r1,w1]; rfl,by simp [w2],λv hv=>?_⟩;rcases Ql.1 hv with rfl | hv
   ·exact ⟨rfl,r2,r3⟩
   ·exact w3 v hv
theorem eS {at_:Tm} (ha:Va at_) {x:Ct}:∀ {l:List Wt},(∀ w∈l,WtOk w)->∃ w,B7 l x at_=some w/\w.c=x
 | [],_=>⟨fresh x,rfl,rfl⟩
 |
  v::l,h=>by
  obtain ⟨w,w1,w2⟩:=eS ha (x:=x) λv hv=>h v (Qg _ hv)
  simp only [B7]
  split
  ·cases hf:v.fails with
   | none=>exact ⟨_,rfl,rfl⟩
   |
    some t =>
    obtain ⟨c,c1,_⟩:=WE ((h v (by simp)).f t hf) ha;dsimp only;rw [c1];show ∃ w,(if 0<c then some ⟨x,true,some t⟩ else B7 l x at_)=some w/\w.c=x
    split
    ·exact ⟨_,rfl,rfl⟩
    ·exact ⟨w,w1,w2⟩
  ·exact ⟨w,w1,w2⟩
theorem mS {at_:Tm} (ha:Va at_) {ol:List Wt} (ho:∀ w∈ol,WtOk w):∀ l:List Ct,∃ ws,Sj ol at_ l=some ws/\ws.map (·.c)=l
 | []=>⟨[],rfl,rfl⟩
 |
  x::l=>by
  obtain ⟨w,w1,w2⟩:=eS ha (x:=x) ho;obtain ⟨ws,s1,s2⟩:=mS ha ho l;exact ⟨w::ws,by simp only [Sj,w1,s1]; rfl,by simp [w2,s2]⟩
theorem Qbj {out:List Ct} {c x:Ct}:x∈KJ out c↔x=c\/x∈out:=by
 have h:x∈out↔x∈out.take (XE out c out.length)\/x∈out.drop (XE out c out.length):=by
  rw [<-Qr,Zf]
 simp only [KJ,Qr,Ql,h];constructor
 ·rintro (h | h | h)
  ·exact .inr (.inl h)
  ·exact .inl h
  ·exact .inr (.inr h)
 ·rintro (h | h | h)
  ·exact .inr (.inl h)
  ·exact .inl h
  ·exact .inr (.inr h)
theorem IM:∀ (l acc:List Ct) {y:Ct},y∈l.foldl KJ acc↔y∈l\/y∈acc
 | [],acc,y=>by simp
 |
  c::l,acc,y=>by
  simp only [Z8];rw [IM l,Qbj,Ql];constructor
  ·rintro (h | h | h)
   ·exact .inl (.inr h)
   ·exact .inl (.inl h)
   ·exact .inr h
  ·rintro ((h | h) | h)
   ·exact .inr (.inl h)
   ·exact .inl h
   ·exact .inr (.inr h)
theorem qN {l:List Ct} {x:Ct}:x∈Fg l↔x∈l:=by unfold Fg; rw [IM]; simp
theorem Quh {ws:List Wt} (hw:∀ w∈ws,WtOk w):∃ o,EA ws=some o/\match o with
 | none=>∀ w∈ws,w.fails=none
 | some a=>Va a/\(∃ w∈ws,w.fails=some a)/\∀ w∈ws,∀ t,w.fails=some t->¬Nf t a:=by
 have hv:∀ t∈ws.filterMap (·.fails),Va t:=λt ht=>by
  obtain ⟨w,w1,w2⟩:=Jh.1 ht;exact (hw w w1).f t w2
 unfold EA;cases hf:ws.filterMap (·.fails) with
 |
  nil =>
  refine ⟨none,rfl,λw h=>?_⟩;cases e:w.fails with
  | none=>rfl
  |
   some t =>
   have:t∈ws.filterMap (·.fails):=Jh.2 ⟨w,h,e⟩;rw [hf] at this; cases this
 |
  cons b l =>
  rw [hf] at hv;obtain ⟨m,m1,m2,m3⟩:=HN l b hv;refine ⟨some m,by show (QH b l).map some=_; rw [m1]; rfl,hv m m2,?_,λw h t e=>?_⟩
  ·rw [<-hf] at m2;exact Jh.1 m2
  ·exact m3 t (by rw [<-hf]; exact Jh.2 ⟨w,h,e⟩)
theorem Qs2 {t a:Tm} (ht:Va t) (ha:Va a) {c:Int} (h:WL t a=some c) (h0:0<c):Nf a t:=by
 obtain ⟨c',c1,c2⟩:=WE ht ha;rw [h] at c1; injection c1 with c1; subst c1;rcases c2 with ⟨e,_⟩ | ⟨e,_⟩ | ⟨_,e⟩
 ·omega
 ·omega
 ·exact e
theorem eN {ol ws:List Wt} {now a:Tm} {l:List Ct} (hn:Va now) (ha:Va a) (hna:¬Nf a now) (ho:∀ w∈ol,WtOk w) (hk:∀ w∈ol,w.known=true->Mj w.c.p now w.fails/\∀ t,w.fails=some t->t∈AQ w.c.p) (h:Sj ol a l=some ws) :
 ∀ w∈ws,w.known=true->Mj w.c.p a w.fails/\∀ t,w.fails=some t->t∈AQ w.c.p:=by
 obtain ⟨h1,h2⟩:=XK h;intro w hw hkn;obtain ⟨i,hi⟩:=Xu hw;have hil:i<l.length:=by rw [<-h1]; exact (Qf.1 hi).1
 obtain ⟨v,h3,h4⟩:=h2 i _ (Qe hil);rw [hi] at h4; injection h4 with h4; subst h4;rcases CP h3 with e | ⟨v,v1,v2,v3,e,v5⟩
 ·rw [e] at hkn; cases hkn
 ·obtain ⟨k1,k2⟩:=hk v v1 v2;rw [e];show Mj (l[i]).p a v.fails/\∀ t,v.fails=some t->t∈AQ (l[i]).p;rw [<-v3];refine ⟨Oc hn.cut ha.cut hna k1 λt ht=>?_,k2⟩;obtain ⟨c,c1,c2⟩:=v5 t ht;exact Qs2 ((ho v v1).f t ht) ha c1 c2
structure Stab {β:Type} (Bc:Tm->List Ct) (Br:Tm->β):Prop where
 ok:BuildOk Bc
 fin:∃ Ps:List (List Int),(∀ p∈Ps,Cp p)/\∀ a,Va a->∀ x∈Bc a,x.p∈Ps
 st:∀ a b,Va a->Va b->(∀ x∈Bc a,Hd (Fl b) x.p=Hd (Fl a) x.p)->Bc b=Bc a/\Br b=Br a
structure KSt {β:Type} (Bc:Tm->List Ct) (Br:Tm->β) (c:Cr) (r1:β):Prop where
 inv:KInv c
 cs:c.l.map (·.c)=Fg (Bc c.now)
 r:r1=Br c.now
inductive Evs (Bc:Tm->List Ct) (t:Rat):Tm->List Tm->Prop
 | nil {a:Tm} (h:∀ x∈Bc a,∃ o,Mj x.p a o/\∀ u,o=some u->Nf (tq t) u):Evs Bc t a []
 | cons {a e:Tm} {E:List Tm} (he:Va e) (h1:Nf a e) (h2:¬Nf (tq t) e) (h3:∀ x∈Bc a,∃ o,Mj x.p a o/\∀ u,o=some u->¬Nf u e) (h4:∃ x∈Bc a,Mj x.p a (some e)) (h5:Evs Bc t e E):Evs Bc t a (e::E)
theorem Qqy {β:Type} {Bc:Tm->List Ct} {Br:Tm->β} (S:Stab Bc Br) {t:Rat} (ht:Qs 1640000 t) {Ps:Ul} (hP:∀ p∈Ps,Cp p) (hPs:∀ a,Va a->∀ x∈Bc a,x.p∈Ps) :
 ∀ (m:Nat) (c:Cr) (r1:β) (n:Int),mu (Ps.flatMap AQ) c.now<=m->KSt Bc Br c r1->¬Nf (tq t) c.now ->
 ∃ c' r' E,WV Bc Br t (m+1) c r1 n=some (c',r',n+(E.length:Nat))/\c'.now=tq t/\KSt Bc Br c' r'/\c'.ev=c.ev+(E.length:Nat)/\E.length<=m/\Evs Bc t c.now E:=by
 have hT:∀ t∈Ps.flatMap AQ,Cut (Fh t):=λu hu=>by
  obtain ⟨p,p1,p2⟩:=Zo.1 hu;exact (Qve (hP p p1) u p2).cut
 have hq:=EJ ht;intro m
 induction m with
 | zero=>?_
 | succ m ih=>?_
 all_goals
  intro c r1 n hm hS hnow;obtain ⟨⟨ok,kk⟩,hcs,hr⟩:=hS;obtain ⟨ws,w1,w2,w3⟩:=aZ ok.n ok.l kk;have ok':=Ea ok w1;rw [hcs] at w2;have hc_w:∀ x∈Bc c.now,∃ w∈ws,w.c=x:=λx hx=>by
   have:x∈ws.map (·.c):=by rw [w2]; exact qN.2 hx
   exact Za.1 this
  have hw_c:∀ w∈ws,w.c∈Bc c.now:=λw hw=>qN.1 (by rw [<-w2]; exact Wh hw)
  obtain ⟨o,o1,o2⟩:=Quh ok'.l;have fin:(∀ w∈ws,∀ u,w.fails=some u->Nf (tq t) u)->KSt Bc Br ⟨tq t,ws,c.ev⟩ r1/\Evs Bc t c.now []:=λhall=>by
   have hg:∀ x∈Bc c.now,Hd (Fl (tq t)) x.p=Hd (Fl c.now) x.p:=λx hx=>by
    obtain ⟨w,hw,rfl⟩:=hc_w x hx;exact II (S.ok.p _ ok.n _ hx).dp ok.n hq hnow (w3 w hw).2.1 (hall w hw)
   obtain ⟨s1,s2⟩:=S.st _ _ ok.n hq hg;refine ⟨⟨⟨⟨hq,ok'.l,ok'.k⟩,λw hw _=>⟨Oc ok.n.cut hq.cut hnow (w3 w hw).2.1 (hall w hw),(w3 w hw).2.2⟩⟩,?_,?_⟩,.nil λx hx=>?_⟩
   ·show ws.map (·.c)=Fg (Bc (tq t)); rw [w2,s1]
   ·show r1=Br (tq t); rw [s2,hr]
   ·obtain ⟨w,hw,rfl⟩:=hc_w x hx;exact ⟨_,(w3 w hw).2.1,hall w hw⟩
 ·cases o with
  |
   none =>
   obtain ⟨f1,f2⟩:=fin λw hw u hu=>by rw [o2 w hw] at hu; cases hu
   exact ⟨_,_,[],by simp only [WV]; rw [w1]; simp only [Jb]; rw [o1]; simp,rfl,f1,by simp,by simp,f2⟩
  |
   some a =>
   obtain ⟨va,⟨w,hw,hwa⟩,hmin⟩:=o2;by_cases h0:0<Fh a t
   ·obtain ⟨f1,f2⟩:=fin λv hv u hu=>by
     have hu':=(ok'.l v hv).f u hu;exact eL hq.cut va.cut hu'.cut ((GA va.cut).1 h0) (hmin v hv u hu)
    exact ⟨_,_,[],by simp only [WV]; rw [w1]; simp only [Jb]; rw [o1]; simp [h0],rfl,f1,by simp,by simp,f2⟩
   ·exfalso;obtain ⟨k1,k2,k3⟩:=w3 w hw;rw [hwa] at k2;have:a∈Ps.flatMap AQ:=Zo.2 ⟨_,hPs _ ok.n _ (hw_c w hw),k3 a hwa⟩;have:=Qq6 ok.n.cut va.cut hT k2.2.2.1 this;omega
 ·cases o with
  |
   none =>
   obtain ⟨f1,f2⟩:=fin λw hw u hu=>by rw [o2 w hw] at hu; cases hu
   exact ⟨_,_,[],by simp only [WV]; rw [w1]; simp only [Jb]; rw [o1]; simp,rfl,f1,by simp,by simp,f2⟩
  |
   some a =>
   obtain ⟨va,⟨w,hw,hwa⟩,hmin⟩:=o2;by_cases h0:0<Fh a t
   ·obtain ⟨f1,f2⟩:=fin λv hv u hu=>by
     have hu':=(ok'.l v hv).f u hu;exact eL hq.cut va.cut hu'.cut ((GA va.cut).1 h0) (hmin v hv u hu)
    exact ⟨_,_,[],by simp only [WV]; rw [w1]; simp only [Jb]; rw [o1]; simp [h0],rfl,f1,by simp,by simp,f2⟩
   ·obtain ⟨k1,k2,k3⟩:=w3 w hw;rw [hwa] at k2;have hna:=jX ok.n.cut va.cut k2.2.2.1;have hmem:a∈Ps.flatMap AQ:=Zo.2 ⟨_,hPs _ ok.n _ (hw_c w hw),k3 a hwa⟩;have hlt:=Qq6 ok.n.cut va.cut hT k2.2.2.1 hmem;obtain ⟨w2',l1,l2⟩:=mS va ok'.l (Fg (Bc a));have hl:=eN ok.n va hna ok'.l (λv hv _=>(w3 v hv).2) l1;have hS':KSt Bc Br ⟨a,w2',c.ev+1⟩ (Br a):=⟨⟨Orr.lay_ok _ ok' va (S.ok.p a va) (S.ok.n a va) l1,hl⟩,l2,rfl⟩;obtain ⟨c',r',E,g1,g2,g3,g4,g5,g6⟩:=ih ⟨a,w2',c.ev+1⟩ (Br a) (n+1) (by show mu _ a<=m; omega) hS' (λh=>h0 ((GA va.cut).2 h));refine ⟨c',r',a::E,?_,g2,g3,by rw [g4]; simp; omega,by simp; omega,.cons va k2.2.2.1 (λh=>h0 ((GA va.cut).2 h)) (λx hx=>?_) ⟨w.c,hw_c w hw,k2⟩ g6⟩
    ·conv=>lhs; unfold WV
     rw [w1]; simp only [Jb]; rw [o1]; simp only [Jb]; rw [if_neg h0,l1]; simp only [Jb];rw [g1]; simp; omega
    ·obtain ⟨v,hv,rfl⟩:=hc_w x hx;exact ⟨_,(w3 v hv).2.1,hmin v hv⟩
end Orq
namespace Orq
open Orr Go
theorem Qj1 {a b:Tm} (ha:Cut (Fh a)) (hb:Cut (Fh b)) (h:¬Nf a b) (h':¬Nf b a):∀ q,Fh a q=Fh b q:=by
 rcases tri ha hb with h1 | h1 | h1
 ·exact absurd h1 h
 ·exact h1
 ·exact absurd h1 h'
theorem iD {a b b':Tm} (h:∀ q,Fh b q=Fh b' q):Nf a b↔Nf a b':=by
 unfold Nf; simp only [h]
theorem rO {a b b':Tm} (h:∀ q,Fh b q=Fh b' q):Nf b a↔Nf b' a:=by
 unfold Nf; simp only [h]
theorem HO {p:Uk} {a:Tm} (ha:Va a) {t t':Tm} (h:Mj p a (some t)) (h':Mj p a (some t')):∀ q,Fh t q=Fh t' q:=by
 obtain ⟨_,v,l,s,s0,h4,h5⟩:=h;obtain ⟨_,v',l',s',s0',h4',h5'⟩:=h';have es:s=s':=FT (h4 _ ha.cut (λ_ h=>h) l) (h4' _ ha.cut (λ_ h=>h) l');refine Qj1 v.cut v'.cut (λhlt=>?_) λhlt=>?_
 ·have:=FT (h4' _ v.cut (HC ha.cut v.cut (jX ha.cut v.cut l)) hlt) h5;omega
 ·have:=FT (h4 _ v'.cut (HC ha.cut v'.cut (jX ha.cut v'.cut l')) hlt) h5';omega
theorem D3 {p:Uk} {a:Tm} (ha:Va a) {t:Tm} (h:Mj p a (some t)) (h':Mj p a none):False:=by
 obtain ⟨h1,v,l,s,s0,h4,h5⟩:=h;rcases h' with h' | ⟨s',s0',h'⟩
 ·exact h1 h'
 ·have e1:=FT (h' _ ha.cut λ_ h=>h) (h4 _ ha.cut (λ_ h=>h) l);have e2:=FT (h' _ v.cut (HC ha.cut v.cut (jX ha.cut v.cut l))) h5;omega
structure Quiet {β:Type} (Bc:Tm->List Ct) (Br:Tm->β) (a b:Tm):Prop where
 va:Va a
 vb:Va b
 le:¬Nf b a
 n:∀ x∈Bc a,∃ o,Mj x.p a o/\∀ u,o=some u->Nf b u
section
variable {β:Type} {Bc:Tm->List Ct} {Br:Tm->β} (S:Stab Bc Br)
include S
theorem Quiet.same {a b:Tm} (h:Quiet Bc Br a b):Bc b=Bc a/\Br b=Br a:=by
 refine S.st a b h.va h.vb λx hx=>?_
 obtain ⟨o,o1,o2⟩:=h.n x hx;exact II (S.ok.p _ h.va _ hx).dp h.va h.vb h.le o1 o2
theorem qL {a b:Tm} (ha:Va a) (hb:Va b) (h:∀ q,Fh a q=Fh b q):Quiet Bc Br a b:=by
 refine ⟨ha,hb,λh'=>Il hb.cut hb.cut ((iD h).1 h') ((iD h).1 h'),λx hx=>?_⟩;obtain ⟨r,_,r2,_⟩:=DZ (S.ok.p _ ha _ hx) ha;refine ⟨r,r2,λu hu=>?_⟩;subst hu;obtain ⟨q,q1,q2⟩:=r2.2.2.1;exact ⟨q,by rw [<-h]; exact q1,q2⟩
theorem Qbb {t:Rat} {a:Tm} {E:List Tm} (hE:Evs Bc t a E):∀ {b:Tm} {E':List Tm},Quiet Bc Br a b->Evs Bc t b E'->E.length=E'.length:=by
 induction hE with
 |
  @nil a h =>
  intro b E' hq hE';have hs:=(Quiet.same S hq).1;cases hE' with
  | nil _=>rfl
  |
   cons he h1 h2 h3 h4 h5 =>
   exfalso;obtain ⟨x,hx,hx2⟩:=h4;rw [hs] at hx;obtain ⟨o,o1,o2⟩:=h x hx;obtain ⟨o',o1',o2'⟩:=hq.n x hx;cases o with
   |
    none =>
    cases o' with
    | none=>exact D3 hq.vb hx2 (Oc hq.va.cut hq.vb.cut hq.le o1' o2')
    | some u=>exact D3 hq.va o1' o1
   |
    some u =>
    cases o' with
    | none=>exact D3 hq.va o1 o1'
    |
     some u' =>
     have e1:=HO hq.va o1 o1';have e2:=HO hq.vb (Oc hq.va.cut hq.vb.cut hq.le o1' o2') hx2;obtain ⟨q,q1,q2⟩:=o2 u rfl;exact h2 ⟨q,q1,by rw [<-e2,<-e1]; exact q2⟩
 |
  @cons a e E he h1 h2 h3 h4 h5 ih =>
  intro b E' hq hE';have hs:=(Quiet.same S hq).1;have nx:∀ x∈Bc a,∀ u,Mj x.p a (some u)->Nf b u/\Mj x.p b (some u):=λx hx u hu=>by
   obtain ⟨o',o1',o2'⟩:=hq.n x hx;cases o' with
   | none=>exact (D3 hq.va hu o1').elim
   |
    some u' =>
    have e1:=HO hq.va o1' hu;have hb':=o2' u' rfl;have hb2:Nf b u:=by obtain ⟨q,q1,q2⟩:=hb'; exact ⟨q,q1,by rw [<-e1]; exact q2⟩
    exact ⟨hb2,Oc hq.va.cut hq.vb.cut hq.le hu λv hv=>by injection hv with hv; subst hv; exact hb2⟩
  obtain ⟨x0,hx0,hn0⟩:=h4;obtain ⟨hb0,hnb0⟩:=nx x0 hx0 e hn0;cases hE' with
  |
   nil h' =>
   exfalso;obtain ⟨o,o1,o2⟩:=h' x0 (by rw [hs]; exact hx0);cases o with
   | none=>exact D3 hq.vb hnb0 o1
   |
    some u =>
    have e1:=HO hq.vb o1 hnb0;obtain ⟨q,q1,q2⟩:=o2 u rfl;exact h2 ⟨q,q1,by rw [<-e1]; exact q2⟩
  |
   @cons _ e' E'' he' h1' h2' h3' h4' h5' =>
   obtain ⟨x1,hx1,hn1⟩:=h4';rw [hs] at hx1;have a1:¬Nf e' e:=λhlt=>by
    obtain ⟨o,o1,o2⟩:=h3 x1 hx1;cases o with
    |
     none =>
     obtain ⟨o',o1',o2'⟩:=hq.n x1 hx1;cases o' with
     | none=>exact D3 hq.vb hn1 (Oc hq.va.cut hq.vb.cut hq.le o1' o2')
     | some u=>exact D3 hq.va o1' o1
    |
     some u =>
     have e2:=HO hq.vb (nx x1 hx1 u o1).2 hn1;exact o2 u rfl ((rO e2).2 hlt)
   have a2:¬Nf e e':=λhlt=>by
    obtain ⟨o,o1,o2⟩:=h3' x0 (by rw [hs]; exact hx0);cases o with
    | none=>exact D3 hq.vb hnb0 o1
    |
     some u =>
     have e2:=HO hq.vb o1 hnb0;exact o2 u rfl ((rO e2).2 hlt)
   have:=ih (qL S he he' (Qj1 he.cut he'.cut a2 a1)) h5';simp [this]
theorem Qtl {t:Rat} {a:Tm} (ha:Va a) {E E':List Tm} (h:Evs Bc t a E) (h':Evs Bc t a E'):E.length=E'.length:=Qbb S h (qL S ha ha λ_=>rfl) h'
end
theorem Qpm {p:Uk} (h:Cp p):(AQ p).length<=67:=by
 obtain ⟨l,l1,l2,_⟩:=JW h;unfold AQ; rw [l1]; exact l2
theorem yM:∀ {Ps:Ul},(∀ p∈Ps,Cp p)->(Ps.flatMap AQ).length≤67*Ps.length
 | [],_=>Qh _
 |
  p::Ps,h=>by
  have h1:=Qpm (h p (by simp));have h2:=yM (Ps:=Ps) λq hq=>h q (Qg _ hq)
  rw [Jy,Qu,Q6]; omega
theorem Qq5 (T:List Tm) (a:Tm):mu T a<=T.length:=Yz _ _
theorem Qdd {β:Type} {Bc:Tm->List Ct} {Br:Tm->β} (S:Stab Bc Br) {a:Tm} (ha:Va a):KSt Bc Br ⟨a,(Fg (Bc a)).map fresh,0⟩ (Br a):=by
 refine ⟨⟨⟨ha,λw hw=>?_,?_⟩,λw hw hk=>?_⟩,?_,rfl⟩
 ·obtain ⟨x,hx,rfl⟩:=Za.1 hw;exact ⟨S.ok.p _ ha x (Rr hx),λt ht=>by cases ht⟩
 ·show ((Fg (Bc a)).map fresh).length<=1000;rw [Q7,Mh]; exact S.ok.n _ ha
 ·obtain ⟨x,hx,rfl⟩:=Za.1 hw;cases hk
 ·show ((Fg (Bc a)).map fresh).map (·.c)=Fg (Bc a);rw [List.map_map];show (Fg (Bc a)).map (λx=>x)=_;rw [List.map_id']
end Orq
namespace Orr
open Go Go.Proofs Tryz Orq
set_option maxRecDepth 10000
theorem Qfk {a b:Pt} (ha:Sc a.c) (hb:Sc b.c):Cp (Al a b):=JE (Mw ha hb) (Mv ha hb)
def ZS (l:List Pt) (a:Tm):List Ct:=Sk (Fl a) (Tn a l)
abbrev vU (l:List Pt) (a:Tm):Uq:=Uv (Tn a l)
theorem rK {sg:Uk->Int}:∀ {l:List Pt},(∀ p∈l,Sc p.c)->∀ x∈Sk sg l,Cp x.p
 | [],_,x,hx=>by cases hx
 | [_],_,x,hx=>by cases hx
 |
  a::b::l,h,x,hx=>by
  simp only [Sk] at hx;rcases Ql.1 hx with rfl | hx
  ·exact Qfk (h a (by simp)) (h b (by simp))
  ·exact rK (λp hp=>h p (Qg _ hp)) x hx
theorem Hj {t:Tm} {l:List Pt} {p:Pt}:p∈Tn t l↔p∈l:=by
 unfold Tn Lu; rw [KZ]; simp
theorem Na (t:Tm) (l:List Pt):(Tn t l).length=l.length:=qB _ _
theorem sW {l:List Pt} (hl:∀ p∈l,Sc p.c) (hn:l.length≤1000):BuildOk (ZS l) :=
 ⟨λa _ x hx=>rK (λp hp=>hl p (Hj.1 hp)) x hx,λa _=>by unfold ZS; rw [Bf,Na]; omega⟩
theorem AS {l:List Pt} {a:Tm} {c:Cr} {r1:Uq} (hl:∀ p∈l,Sc p.c) (hn:l.length≤1000) (ha:Va a):U0 prog 127 [.one (.ow 0 0),.agg (ta a)] [.blk 196 (Ht c (Uv l) r1)] [.one (.row (U3 (ZS l a)))] [.blk 196 (Ht c (Uv l) (vU l a))]:=by
 have cr:=kW hl (by omega) ha;have cc:=NG (l:=Tn a l) (t:=a) (λp hp=>hl p (Hj.1 hp)) (by rw [Na]; omega) ha;refine Ft func127 rfl ?_;exact Uf [] [0] [.k Ig,.k cr,.k cc] rfl
theorem Qaj {l:List Pt} {a:Tm} (hl:∀ p∈l,Sc p.c) (hn:l.length≤1000) (ha:Va a):U0 prog 127 [.one (.ow 0 0),.agg (ta a)] [.blk 196 (pH (.row (Uv l)) .nils)] [.one (.row (U3 (ZS l a)))] [.blk 196 (pH (.row (Uv l)) (.row (vU l a)))]:=by
 have cr:=kW hl (by omega) ha;have cc:=NG (l:=Tn a l) (t:=a) (λp hp=>hl p (Hj.1 hp)) (by rw [Na]; omega) ha;refine Ft func127 rfl ?_;exact Uf [] [0] [.k Ig,.k cr,.k cc] rfl
def Qlf (l:List Pt) (a:Tm):Cr:=⟨a,(Fg (ZS l a)).map fresh,0⟩
end Orr
namespace Orq
open Orr Go
theorem XZ {a:Tm} (ha:Va a):∀ (L:Ul),(∀ p∈L,Dp p)->∃ y,Fh a y=-1/\∀ q,Fh a q=-1->q≤y->∀ p∈L,Hd (Fl a) p=U9 (U4 p q)
 |
  [],_=>by
  obtain ⟨y,hy⟩:=ha.cut.hi;exact ⟨y,hy,λq _ _ p hp=>by cases hp⟩
 |
  p::L,h=>by
  obtain ⟨y,y1,y2⟩:=XZ ha L (λq hq=>h q (Qg _ hq));by_cases h0:p.length=0
  ·obtain rfl:=Qj h0;refine ⟨y,y1,λq q1 q2 r hr=>?_⟩;rcases Ql.1 hr with rfl | hr
   ·rw [XQ]; exact (Gg.2 rfl).symm
   ·exact y2 q q1 q2 r hr
  ·obtain ⟨⟨z,z1,z2⟩,_⟩:=L8 ha (h p (by simp)) h0;refine ⟨if y<=z then y else z,by split <;> assumption,λq q1 q2 r hr=>?_⟩;rcases Ql.1 hr with rfl | hr
   ·rw [<-U5]; exact (z2 q q1 (by grind)).symm
   ·exact y2 q q1 (by grind) r hr
section Srt
variable {α:Type} {lt:α->α->Bool} {R:α->α->Prop}
theorem qY (irr:∀ x,¬R x x) (tr:∀ x y z,R x y->R y z->R x z):∀ {l m:List α},l.Pairwise R->m.Pairwise R->(∀ x,x∈l↔x∈m)->l=m
 | [],[],_,_,_=>rfl
 | [],y::m,_,_,h=>by have:=(h y).2 (by simp); cases this
 | x::l,[],_,_,h=>by have:=(h x).1 (by simp); cases this
 |
  x::l,y::m,hl,hm,h=>by
  rw [Q9] at hl hm;have e:x=y:=by
   rcases Ql.1 ((h x).1 (by simp)) with e | h1
   ·exact e
   ·rcases Ql.1 ((h y).2 (by simp)) with e | h2
    ·exact e.symm
    ·exact absurd (tr _ _ _ (hl.1 y h2) (hm.1 x h1)) (irr x)
  subst e;rw [qY irr tr hl.2 hm.2 λz=>?_];constructor
  ·intro hz;rcases Ql.1 ((h z).1 (Qg _ hz)) with e | h1
   ·subst e; exact absurd (hl.1 z hz) (irr z)
   ·exact h1
  ·intro hz;rcases Ql.1 ((h z).2 (Qg _ hz)) with e | h1
   ·subst e; exact absurd (hm.1 z hz) (irr z)
   ·exact h1
theorem OI {out:List α} {x:α}:∀ k,k<=out.length->(∀ j y,Lm lt out x k<=j->j<k->out[j]? = some y->lt x y=true)/\(0<Lm lt out x k->∃ y,out[Lm lt out x k-1]? = some y/\lt x y=false)
 | 0,_=>⟨λj y _ h=>by omega,λh=>by simp [Lm] at h⟩
 |
  k+1,hk=>by
  obtain ⟨y,hy⟩:=gxE (l:=out) (i:=k) (by omega);by_cases h:lt x y=true
  ·rw [aO hy h];obtain ⟨h1,h2⟩:=OI (out:=out) (x:=x) k (by omega);refine ⟨λj z a1 a2 a3=>?_,h2⟩;by_cases e:j=k
   ·subst e; rw [hy] at a3; injection a3 with a3; subst a3; exact h
   ·exact h1 j z a1 (by omega) a3
  ·have h:lt x y=false:=by simpa using h
   rw [gU hy h];exact ⟨λj z a1 a2 _=>by omega,λ_=>⟨y,by simpa using hy,h⟩⟩
theorem Qnk (tr:∀ x y z,R x y->R y z->R x z) {out:List α} {x:α} (ho:out.Pairwise R) (h1:∀ y∈out,lt x y=true->R x y) (h2:∀ y∈out,lt x y=false->R y x):(Li lt out x).Pairwise R:=by
 obtain ⟨s1,s2⟩:=OI (lt:=lt) (out:=out) (x:=x) out.length (Qm _);have hle:=jL lt out x out.length;unfold Li;obtain ⟨k,hk⟩:=nmE (Lm lt out x out.length);rw [<-hk] at s1 s2 hle ⊢;have hd:(out.take k++out.drop k).Pairwise R:=by rw [Zf]; exact ho
 obtain ⟨d1,d2,d3⟩:=Xv.1 hd;have hR:∀ y∈out.drop k,R x y:=λy hy=>by
  obtain ⟨i,hi⟩:=Xu hy;rw [Xb] at hi;have:k+i<out.length:=(Qf.1 hi).1;exact h1 y (Qz hy) (s1 (k+i) y (by omega) this hi)
 have hL:∀ y∈out.take k,R y x:=λy hy=>by
  obtain ⟨i,hi⟩:=Xu hy;have hik:i<k:=by have:=(Qf.1 hi).1; simp at this; omega
  rw [Kd hik] at hi;obtain ⟨z,z1,z2⟩:=s2 (by omega);have hz:=h2 z (Qa z1) z2;by_cases e:i=k-1
  ·subst e; rw [hi] at z1; injection z1 with z1; subst z1; exact hz
  ·have hp:=Y7.1 ho i (k-1) (by omega) (by omega) (by omega);obtain ⟨_,e1⟩:=Qf.1 hi;obtain ⟨_,e2⟩:=Qf.1 z1;rw [e1,e2] at hp;exact tr _ _ _ hp hz
 refine Xv.2 ⟨d1,Q9.2 ⟨hR,d2⟩,λy hy z hz=>?_⟩;rcases Ql.1 hz with rfl | hz
 ·exact hL y hy
 ·exact d3 y hy z hz
theorem CQ (tr:∀ x y z,R x y->R y z->R x z) {S:α->Prop} (h1:∀ x y,S x->S y->lt x y=true->R x y) {D:α->α->Prop} (h2:∀ x y,S x->S y->D y x->lt x y=false->R y x) :
 ∀ (l acc:List α),acc.Pairwise R->(∀ x∈acc,S x)->(∀ x∈l,S x)->l.Pairwise D->(∀ x∈acc,∀ y∈l,D x y)->(l.foldl (Li lt) acc).Pairwise R
 | [],acc,ha,_,_,_,_=>ha
 |
  x::l,acc,ha,hs,hl,hd,hx=>by
  rw [Q9] at hd;refine CQ tr h1 h2 l (Li lt acc x) ?_ ?_ (λy hy=>hl y (Qg _ hy)) hd.2 ?_
  ·exact Qnk tr ha (λy hy=>h1 x y (hl x (by simp)) (hs y hy)) (λy hy=>h2 x y (hl x (by simp)) (hs y hy) (hx y hy x (by simp)))
  ·intro y hy;rcases UT.1 hy with rfl | hy
   ·exact hl _ (by simp)
   ·exact hs y hy
  ·intro y hy z hz;rcases UT.1 hy with rfl | hy
   ·exact hd.1 z hz
   ·exact hx y hy z (Qg _ hz)
theorem qJ:∀ {l:List α},l.Pairwise R->∀ {u v:α},u∈l->v∈l->u≠v->R u v\/R v u
 | [],_,_,_,h,_,_=>by cases h
 |
  x::l,hp,u,v,hu,hv,hne=>by
  rw [Q9] at hp;rcases Ql.1 hu with e | hu
  ·rcases Ql.1 hv with e' | hv
   ·exact absurd (e.trans e'.symm) hne
   ·rw [e]; exact .inl (hp.1 v hv)
  ·rcases Ql.1 hv with e' | hv
   ·rw [e']; exact .inr (hp.1 u hu)
   ·exact qJ hp.2 hu hv hne
end Srt
def px (p:Pt) (q:Rat):Rat:=U4 p.c.x q / (p.c.d:Rat)
def py (p:Pt) (q:Rat):Rat:=U4 p.c.y q / (p.c.d:Rat)
def Co (q:Rat) (x y:Pt):Prop:=px x q<px y q\/px x q=px y q/\(py x q<py y q\/py x q=py y q/\x.id<y.id)
theorem XH (q:Rat) (x:Pt):¬Co q x x:=by unfold Co; grind
theorem YX (q:Rat) (x y z:Pt) (h:Co q x y) (h':Co q y z):Co q x z:=by unfold Co at *; grind
theorem uO {q:Rat} {x y:Pt} (h:x.id≠y.id) (h':¬Co q x y):Co q y x:=by unfold Co at *; grind
theorem qP {u v:Rat} {c d:Int} (hc:0<c) (hd:0<d):U9 (v*(c:Rat)-u*(d:Rat))=U9 (v / (d:Rat)-u / (c:Rat)):=by
 have hc':(0:Rat)<(c:Rat):=by exact_mod_cast hc
 have hd':(0:Rat)<(d:Rat):=by exact_mod_cast hd
 have e:v*(c:Rat)-u*(d:Rat)=((c:Rat)*(d:Rat))*(v / (d:Rat)-u / (c:Rat)):=by
  rw [X3,X3];have h1:=Ws (c:Rat) (by grind);have h2:=Ws (d:Rat) (by grind);grind
 rw [e,Ch (Xq hc' hd')]
theorem RL {x y:Pt} (hx:Sc x.c) (hy:Sc y.c) (q:Rat):U9 (U4 (Gd x.c y.c) q)=U9 (px y q-px x q):=by
 unfold Gd px; rw [M6,Re,Re]; exact qP hx.n.2.2.1 hy.n.2.2.1
theorem RD {x y:Pt} (hx:Sc x.c) (hy:Sc y.c) (q:Rat):U9 (U4 (Gb x.c y.c) q)=U9 (py y q-py x q):=by
 unfold Gb py; rw [M6,Re,Re]; exact qP hx.n.2.2.1 hy.n.2.2.1
theorem NV {a:Tm} (ha:Va a) {x y:Pt} (hx:Sc x.c) (hy:Sc y.c) {q:Rat} (h1:Hd (Fl a) (Gd x.c y.c)=U9 (U4 (Gd x.c y.c) q)) (h2:Hd (Fl a) (Gb x.c y.c)=U9 (U4 (Gb x.c y.c) q)):Tg (Fl a) x y=true↔Co q x y:=by
 rw [RL hx hy] at h1;rw [RD hx hy] at h2;have d1:=(Mw hx hy).dp;have d2:=(Mv hx hy).dp;unfold Tg;simp only [Ll];have t1:=Fp (px y q-px x q);have t2:=Fp (py y q-py x q);by_cases e1:(Gd x.c y.c).length=0
 ·rw [if_neg (by omega)];rw [Qj e1,XQ] at h1;have:px x q=px y q:=by grind
  by_cases e2:(Gb x.c y.c).length=0
  ·rw [if_neg (by omega)];rw [Qj e2,XQ] at h2;unfold Co;simp only [decide_eq_true_eq];grind
  ·rw [if_pos (by omega)];have:=(L8 ha d2 e2).2;unfold Co;simp only [decide_eq_true_eq];grind
 ·rw [if_pos (by omega)];have:=(L8 ha d1 e1).2;unfold Co;simp only [decide_eq_true_eq];grind
def Lx (l:List Pt):Ul:=l.flatMap λx=>l.flatMap λy=>[Gd x.c y.c,Gb x.c y.c]
theorem Tt {l:List Pt} {x y:Pt} (hx:x∈l) (hy:y∈l):Gd x.c y.c∈Lx l/\Gb x.c y.c∈Lx l :=
 ⟨Zo.2 ⟨x,hx,Zo.2 ⟨y,hy,by simp⟩⟩,Zo.2 ⟨x,hx,Zo.2 ⟨y,hy,by simp⟩⟩⟩
theorem O2 {l:List Pt} (hl:∀ p∈l,Sc p.c):∀ p∈Lx l,Cp p:=λp hp=>by
 obtain ⟨x,hx,hp⟩:=Zo.1 hp;obtain ⟨y,hy,hp⟩:=Zo.1 hp;simp at hp;rcases hp with rfl | rfl
 ·exact Mw (hl x hx) (hl y hy)
 ·exact Mv (hl x hx) (hl y hy)
theorem iH {l:List Pt} (hl:∀ p∈l,Sc p.c) (hd:l.Pairwise λx y=>x.id≠y.id) {a:Tm} (ha:Va a):∃ y,Fh a y=-1/\∀ q,Fh a q=-1->q≤y->(∀ u∈l,∀ v∈l,(Tg (Fl a) u v=true↔Co q u v))/\(Tn a l).Pairwise (Co q):=by
 obtain ⟨y,y1,y2⟩:=XZ ha (Lx l) λp hp=>(O2 hl p hp).dp
 refine ⟨y,y1,λq q1 q2=>?_⟩;have h:=y2 q q1 q2;have hb:∀ u∈l,∀ v∈l,(Tg (Fl a) u v=true↔Co q u v):=λu hu v hv=>NV ha (hl u hu) (hl v hv) (h _ (Tt hu hv).1) (h _ (Tt hu hv).2)
 refine ⟨hb,?_⟩;exact CQ (S:=λx=>x∈l) (D:=λx y=>x.id≠y.id) (YX q) (λu v hu hv h=>(hb u hu v hv).1 h) (λu v hu hv hne h=>uO (λe=>hne e.symm) λh'=>by
  rw [(hb u hu v hv).2 h'] at h; cases h) l [] .nil (λx hx=>by cases hx) (λx hx=>hx) hd (λx hx=>by cases hx)
theorem nW {a b:Tm} {x y:Pt} (h:Hd (Fl b) (Al x y)=Hd (Fl a) (Al x y)):Tg (Fl b) x y=Tg (Fl a) x y:=by
 unfold Al Lh at h;unfold Tg;simp only [Ll];by_cases e1:0<(Gd x.c y.c).length
 ·rw [if_pos e1,if_pos e1]; rw [if_pos e1] at h; rw [h]
 ·rw [if_neg e1,if_neg e1]; rw [if_neg e1] at h; rw [h]
theorem NA {a b:Tm} {q r:Rat}:∀ (l:List Pt),(∀ u∈l,∀ v∈l,(Tg (Fl a) u v=true↔Co q u v))->(∀ u∈l,∀ v∈l,(Tg (Fl b) u v=true↔Co r u v))->l.Pairwise (Co q)->(∀ x∈Sk (Fl a) l,Hd (Fl b) x.p=Hd (Fl a) x.p)->l.Pairwise (Co r)/\Sk (Fl b) l=Sk (Fl a) l
 | [],_,_,_,_=>⟨.nil,rfl⟩
 | [x],_,_,_,_=>⟨Kk _ _,rfl⟩
 |
  x::y::l,ha,hb,hp,hc=>by
  rw [Q9] at hp;obtain ⟨i1,i2⟩:=NA (a:=a) (b:=b) (q:=q) (r:=r) (y::l) (λu hu v hv=>ha u (Qg _ hu) v (Qg _ hv)) (λu hu v hv=>hb u (Qg _ hu) v (Qg _ hv)) hp.2 (λz hz=>hc z (by simp only [Sk]; exact Qg _ hz));have h0:Hd (Fl b) (Al x y)=Hd (Fl a) (Al x y):=hc (QP (Fl a) x y) (by simp [Sk]);have h1:Co r x y:=(hb x (by simp) y (by simp)).1 (by rw [nW h0]; exact (ha x (by simp) y (by simp)).2 (hp.1 y (by simp)));refine ⟨Q9.2 ⟨λz hz=>?_,i1⟩,?_⟩
  ·rcases Ql.1 hz with rfl | hz
   ·exact h1
   ·exact YX r x y z h1 ((Q9.1 i1).1 z hz)
  ·simp only [Sk];rw [i2]; congr 1;unfold QP; rw [h0]
theorem RN {sg:Uk->Int}:∀ {l:List Pt},∀ x∈Sk sg l,∃ u∈l,∃ v∈l,x.p=Al u v
 | [],x,hx=>by cases hx
 | [_],x,hx=>by cases hx
 |
  a::b::l,x,hx=>by
  simp only [Sk] at hx;rcases Ql.1 hx with rfl | hx
  ·exact ⟨a,by simp,b,by simp,rfl⟩
  ·obtain ⟨u,hu,v,hv,e⟩:=RN (l:=b::l) x hx;exact ⟨u,Qg _ hu,v,Qg _ hv,e⟩
theorem ON {l:List Pt} {u v:Pt} (hu:u∈l) (hv:v∈l):Al u v∈Lx l:=by
 unfold Al Lh; split
 ·exact (Tt hu hv).1
 ·exact (Tt hu hv).2
theorem dQ {l:List Pt} {a:Tm}:∀ x∈ZS l a,x.p∈Lx l:=λx hx=>by
 obtain ⟨u,hu,v,hv,e⟩:=RN x hx;rw [e]; exact ON (Hj.1 hu) (Hj.1 hv)
theorem vM (l:List Pt):(Lx l).length=l.length*(l.length*2):=by
 have h1:∀ (x:Pt) (m:List Pt),(m.flatMap λy=>[Gd x.c y.c,Gb x.c y.c]).length=m.length*2:=λx m=>by
  induction m with
  | nil=>rfl
  | cons y m ih=>rw [Jy,Qu,ih,Q6]; simp; omega
 have h2:∀ m:List Pt,(m.flatMap λx=>l.flatMap λy=>[Gd x.c y.c,Gb x.c y.c]).length=m.length*(l.length*2):=λm=>by
  induction m with
  | nil=>simp
  | cons y m ih=>rw [Jy,Qu,ih,Q6,h1,X2,Wm,Js]
 exact h2 l
theorem rF {l:List Pt} (hl:∀ p∈l,Sc p.c) (hd:l.Pairwise λx y=>x.id≠y.id) {a b:Tm} (ha:Va a) (hb:Va b) (h:∀ x∈ZS l a,Hd (Fl b) x.p=Hd (Fl a) x.p):Tn b l=Tn a l/\ZS l b=ZS l a:=by
 obtain ⟨q,q1,q2⟩:=iH hl hd ha;obtain ⟨r,r1,r2⟩:=iH hl hd hb;obtain ⟨a1,a2⟩:=q2 q q1 Qp;obtain ⟨b1,b2⟩:=r2 r r1 Qp;obtain ⟨c1,c2⟩:=NA (a:=a) (b:=b) (Tn a l) (λu hu v hv=>a1 u (Hj.1 hu) v (Hj.1 hv)) (λu hu v hv=>b1 u (Hj.1 hu) v (Hj.1 hv)) a2 h;have e:Tn b l=Tn a l:=qY (XH r) (YX r) b2 c1 λx=>by rw [Hj,Hj]
 exact ⟨e,by unfold ZS; rw [e,c2]⟩
theorem Qxx {l:List Pt} (hl:∀ p∈l,Sc p.c) (hn:l.length≤1000) (hd:l.Pairwise λx y=>x.id≠y.id):Stab (ZS l) (vU l):=by
 refine ⟨sW hl hn,⟨Lx l,O2 hl,λa _ x hx=>?_⟩,λa b ha hb h=>?_⟩
 ·obtain ⟨u,hu,v,hv,e⟩:=RN x hx;rw [e]; exact ON (Hj.1 hu) (Hj.1 hv)
 ·obtain ⟨e1,e2⟩:=rF hl hd ha hb h;exact ⟨e2,by unfold vU; rw [e1]⟩
end Orq
namespace Orq
theorem ang {ux uy vx vy wx wy:Rat} (hu:0<ux\/ux=0/\0<uy) (hv:0<vx\/vx=0/\0<vy) (hw:0<wx\/wx=0/\0<wy)
 (h1:0<=ux*vy-vx*uy) (h2:0<=vx*wy-wx*vy):0<=ux*wy-wx*uy/\(0<ux*vy-vx*uy\/0<vx*wy-wx*vy->0<ux*wy-wx*uy):=by
 have ux0:0<=ux:=by grind
 have wx0:0<=wx:=by grind
 rcases hv with hv | ⟨hv,hv2⟩
 ·have e:vx*(ux*wy-wx*uy)=ux*(vx*wy-wx*vy)+wx*(ux*vy-vx*uy):=by grind
  have hux:0<ux:=by
   rcases hu with h | ⟨h,h'⟩
   ·exact h
   ·have:=Xq hv h';rw [h] at h1; grind
  have p1:=Yq ux0 h2;have p2:=Yq wx0 h1;have key:∀ z:Rat,vx*z=ux*(vx*wy-wx*vy)+wx*(ux*vy-vx*uy)->0<=z:=λz hz=>by
   refine Ki.1 λhn=>?_
   have:=Xq hv (show 0 < -z by grind);grind
  refine ⟨key _ e,λhs=>?_⟩;rcases hw with hw | ⟨hw,hw2⟩
  ·have hpos:0<vx*(ux*wy-wx*uy):=by
    rcases hs with hs | hs
    ·have:=Xq hw hs; grind
    ·have:=Xq hux hs; grind
   have h0:=key _ e;refine Jq.1 λhn=>?_
   have:ux*wy-wx*uy=0:=by grind
   rw [this] at hpos; grind
  ·have:=Xq hux hw2;rw [hw]; grind
 ·rw [hv] at h1 h2;have hw0:wx=0:=by
   rcases hw with hw | hw
   ·have:=Xq hw hv2; grind
   ·exact hw.1
  have hwy:0<wy:=by grind
  have p:=Yq ux0 (Qt hwy);refine ⟨by rw [hw0]; grind,λhs=>?_⟩;rw [hv,hw0] at hs;have hux:0<ux:=by
   rcases hs with hs | hs
   ·refine Jq.1 λhn=>?_
    have:ux=0:=by grind
    rw [this] at hs; grind
   ·grind
  have:=Xq hux hwy;rw [hw0]; grind
section
variable {α:Type} (X Y:α->Rat)
def lx (a b:α):Prop:=X a<X b\/X a=X b/\Y a<Y b
def Nq (a b c:α):Rat:=(X b-X a)*(Y c-Y a)-(X c-X a)*(Y b-Y a)
variable {X Y}
theorem Lj (a:α):¬lx X Y a a:=by unfold lx; grind
theorem fJ {a b c:α} (h:lx X Y a b) (h':lx X Y b c):lx X Y a c:=by unfold lx at *; grind
theorem Lk {a b:α} (h:lx X Y a b):0<X b-X a\/X b-X a=0/\0<Y b-Y a:=by unfold lx at h; grind
theorem UI (a b:α):Nq X Y a b a=0/\Nq X Y a b b=0:=by unfold Nq; grind
theorem fB (a b c:α):Nq X Y a c b=- Nq X Y a b c:=by unfold Nq; grind
theorem jS (a b c:α):Nq X Y a b c=(X b-X a)*(Y c-Y b)-(X c-X b)*(Y b-Y a):=by unfold Nq; grind
def Edg (Q:α->α->Prop):List α->Prop
 | a::b::r=>Q a b/\Edg Q (b::r)
 | _=>True
def Cnv (R:α->α->α->Prop):List α->Prop
 | a::b::c::r=>R a b c/\Cnv R (b::c::r)
 | _=>True
theorem Edg.tail {Q:α->α->Prop} {a:α} {l:List α} (h:Edg Q (a::l)):Edg Q l:=by
 cases l with
 | nil=>trivial
 | cons b l=>exact h.2
theorem Cnv.tail {R:α->α->α->Prop} {a:α} {l:List α} (h:Cnv R (a::l)):Cnv R l:=by
 match l,h with
 | [],_=>trivial
 | [_],_=>trivial
 | b::c::l,h=>exact h.2
def D9 (s:α->α->α->Bool) (c:α):List α->List α
 | b::a::r=>if s a b c=true then b::a::r else D9 s c (a::r)
 | l=>l
def Pn (s:α->α->α->Bool):List α->List α->List α
 | acc,[]=>acc
 | acc,c::l=>Pn s (c::D9 s c acc) l
structure Stk (X Y:α->Rat) (P:List α) (st:List α):Prop where
 srt:st.Pairwise λb a=>lx X Y a b
 mem:∀ p∈st,p∈P
 edg:Edg (λb a=>∀ p∈P,0≤Nq X Y a b p) st
 cnv:Cnv (λc b a=>0<Nq X Y a b c) st
theorem Stk.tail {P:List α} {a:α} {st:List α} (h:Stk X Y P (a::st)):Stk X Y P st:=⟨(Q9.1 h.srt).2,λp hp=>h.mem p (Qg _ hp),h.edg.tail,h.cnv.tail⟩
theorem Qif {P:List α} {s:α->α->α->Bool} {c:α} (hs:∀ a∈P,∀ b∈P,(s a b c=true↔0<Nq X Y a b c)) (hc:∀ p∈P,lx X Y p c) :
 ∀ (st:List α) (t:α),Stk X Y P (t::st)->(∀ p∈P,lx X Y t p->0≤Nq X Y t c p) ->
 ∃ t' st',D9 s c (t::st)=t'::st'/\Stk X Y P (t'::st')/\(∀ p∈P,lx X Y t' p->0≤Nq X Y t' c p)/\(∀ a r,st'=a::r->0<Nq X Y a t' c)/\(t'::st').getLast? = (t::st).getLast?
 | [],t,h,h2=>⟨t,[],rfl,h,h2,λa r e=>(by cases e),rfl⟩
 |
  a::r,t,h,h2=>by
  have ht:=h.mem t (by simp);have ha:=h.mem a (by simp);by_cases e:s a t c=true
  ·refine ⟨t,a::r,by simp only [D9]; rw [if_pos e],h,h2,λa' r' e'=>?_,rfl⟩;injection e' with e1 _
   rw [<-e1]; exact (hs a ha t ht).1 e
  ·have hle:Nq X Y a t c<=0:=Ki.1 λh'=>e ((hs a ha t ht).2 h')
   have hat:lx X Y a t:=(Q9.1 h.srt).1 a (by simp);obtain ⟨t',st',g1,g2,g3,g4,g5⟩:=Qif hs hc r a h.tail λp hp hap=>by
    have e1:=h.edg.1 p hp;have k:=ang (Lk (hc a ha)) (Lk hat) (Lk hap) (by rw [fB] at *; unfold Nq at *; grind) (by unfold Nq at *; grind);unfold Nq; grind
   exact ⟨t',st',by simp only [D9]; rw [if_neg e]; exact g1,g2,g3,g4,by rw [g5]; rfl⟩
theorem IW {P:List α} {c:α}:∀ (st:List α) (t:α),Stk X Y P (t::st)->lx X Y t c->(∀ a r,st=a::r->0<Nq X Y a t c)->Edg (λb a=>0<Nq X Y a b c) (t::st)
 | [],_,_,_,_=>trivial
 | [a],t,_,_,h=>⟨h a [] rfl,trivial⟩
 |
  a::q::r,t,hS,htc,h=>by
  have h1:=h a (q::r) rfl;have h0:0<Nq X Y q a t:=hS.cnv.1;have p1:=Q9.1 hS.srt;have p2:=Q9.1 p1.2;have hat:lx X Y a t:=p1.1 a (by simp);have hqa:lx X Y q a:=p2.1 q (by simp);refine ⟨h1,IW (q::r) a hS.tail (fJ hat htc) λa' r' e=>?_⟩;injection e with e _;rw [<-e];rw [jS] at h0 h1 ⊢;have k:=(ang (Lk hqa) (Lk hat) (Lk htc) (Qt h0) (Qt h1)).2 (.inl h0);grind
theorem Qok {P:List α} {t:α} {st:List α} {c:α} (h:Stk X Y P (t::st)) (hc:∀ p∈P,lx X Y p c) (hP:∀ p∈P,p=t\/lx X Y p t\/lx X Y t p) (hb:∀ p∈P,(t::st).getLast? = some p\/∃ b,(t::st).getLast? = some b/\lx X Y b p) (h2:∀ p∈P,lx X Y t p->0≤Nq X Y t c p) (h3:∀ a r,st=a::r->0<Nq X Y a t c):Stk X Y (P++[c]) (c::t::st):=by
 have ht:=h.mem t (by simp);have htc:=hc t ht;have hf:=IW st t h htc h3;refine ⟨Q9.2 ⟨λp hp=>hc p (h.mem p hp),h.srt⟩,λp hp=>?_,⟨λp hp=>?_,?_⟩,?_⟩
 ·rcases Ql.1 hp with rfl | hp
  ·simp
  ·exact X8 _ (h.mem p hp)
 ·rcases Qr.1 hp with hp | hp
  ·rcases hP p hp with rfl | hpt | htp
   ·rw [(UI p c).1]; exact Qp
   ·cases st with
    |
     nil =>
     exfalso;rcases hb p hp with e | ⟨b,e,hb⟩
     ·injection e with e; subst e; exact Lj _ hpt
     ·injection e with e; subst e; exact Lj _ (fJ hpt hb)
    |
     cons a r =>
     have e1:=h.edg.1 p hp;have h3:=h3 a r rfl;have hat:lx X Y a t:=(Q9.1 h.srt).1 a (by simp);have k:=(ang (Lk hpt) (Lk hat) (Lk htc) (by unfold Nq at *; grind) (by unfold Nq at *; grind)).1;unfold Nq; grind
   ·exact h2 p hp htp
  ·rw [Qk.1 hp,(UI t c).2]; exact Qp
 ·cases st with
  | nil=>trivial
  |
   cons a r =>
   have key:∀ l:List α,Edg (λb a=>∀ p∈P,0≤Nq X Y a b p) l->Edg (λb a=>0<Nq X Y a b c) l->Edg (λb a=>∀ p∈P++[c],0≤Nq X Y a b p) l:=by
    intro l
    induction l with
    | nil=>intros; trivial
    |
     cons x l ih =>
     cases l with
     | nil=>intros; trivial
     |
      cons y l =>
      intro k1 k2;refine ⟨λp hp=>?_,ih k1.2 k2.2⟩;rcases Qr.1 hp with hp | hp
      ·exact k1.1 p hp
      ·rw [Qk.1 hp]; exact Qt k2.1
   exact key _ h.edg hf
 ·cases st with
  | nil=>trivial
  | cons a r=>exact ⟨h3 a r rfl,h.cnv⟩
theorem AL {s:α->α->α->Bool} {row:List α} (hs:∀ a∈row,∀ b∈row,∀ c∈row,(s a b c=true↔0<Nq X Y a b c)) (hrow:row.Pairwise (lx X Y)) :
 ∀ (l P:List α) (t:α) (st:List α),row=P++l->Stk X Y P (t::st)->P.getLast? = some t->(t::st).getLast? = P.head? ->
 ∃ t' st',Pn s (t::st) l=t'::st'/\Stk X Y row (t'::st')/\row.getLast? = some t'/\(t'::st').getLast? = row.head?
 |
  [],P,t,st,e,h,h1,h2=>by
  rw [Zx] at e; subst e;exact ⟨t,st,rfl,h,h1,h2⟩
 |
  c::l,P,t,st,e,h,h1,h2=>by
  have hPm:∀ p∈P,p∈row:=λp hp=>by rw [e]; exact X8 _ hp
  have hcm:c∈row:=by rw [e]; simp
  have hpw:=hrow;rw [e] at hpw;obtain ⟨w1,w2,w3⟩:=Xv.1 hpw;have hc:∀ p∈P,lx X Y p c:=λp hp=>w3 p hp c (by simp)
  have htop:∀ p∈P,p=t\/lx X Y p t:=λp hp=>by
   obtain ⟨P1,rfl⟩:∃ P1,P=P1++[t]:=by
    have:=Y6.1 h1;exact this
   rcases Qr.1 hp with hp | hp
   ·exact .inr ((Xv.1 w1).2.2 p hp t (by simp))
   ·exact .inl (Qk.1 hp)
  obtain ⟨t',st',g1,g2,g3,g4,g5⟩:=Qif (λa ha b hb=>hs a (hPm a ha) b (hPm b hb) c hcm) hc st t h λp hp htp=>by
   rcases htop p hp with rfl | h'
   ·exact absurd htp (Lj _)
   ·exact absurd (fJ htp h') (Lj _)
  have tot:∀ p∈P,p=t'\/lx X Y p t'\/lx X Y t' p:=λp hp=>by
   obtain ⟨i,hi,rfl⟩:=V0.1 hp;obtain ⟨j,hj,e2⟩:=V0.1 (g2.mem t' (by simp));rcases Km i j with h' | h' | h'
   ·exact .inr (.inl (by rw [<-e2]; exact Y7.1 w1 i j hi hj h'))
   ·subst h'; exact .inl e2
   ·exact .inr (.inr (by rw [<-e2]; exact Y7.1 w1 j i hj hi h'))
  have hPne:P≠[]:=λh'=>by rw [h'] at h1; cases h1
  have hb:∀ p∈P,(t'::st').getLast? = some p\/∃ b,(t'::st').getLast? = some b/\lx X Y b p:=λp hp=>by
   rw [g5,h2];cases P with
   | nil=>exact absurd rfl hPne
   |
    cons f P' =>
    rcases Ql.1 hp with rfl | hp
    ·exact .inl rfl
    ·exact .inr ⟨f,rfl,(Q9.1 w1).1 p hp⟩
  have hpush:=Qok g2 hc tot hb g3 g4;obtain ⟨t2,st2,k1,k2,k3,k4⟩:=AL hs hrow l (P++[c]) c (t'::st') (by rw [e]; simp) hpush (by simp) (by
   rw [Jx,g5,h2];cases P with
   | nil=>exact absurd rfl hPne
   | cons f P'=>rfl)
  exact ⟨t2,st2,by simp only [Pn]; rw [g1]; exact k1,k2,k3,k4⟩
theorem Qfe {P:List α} (tot:∀ p∈P,∀ q∈P,p=q\/lx X Y p q\/lx X Y q p) {z:α} :
 ∀ (L L':List α) (f:α),(f::L).Pairwise (lx X Y)->(f::L').Pairwise (lx X Y)->(∀ p∈f::L,p∈P)->(∀ p∈f::L',p∈P) ->
 Edg (λa b=>∀ p∈P,0≤Nq X Y a b p) (f::L)->Edg (λa b=>∀ p∈P,0≤Nq X Y a b p) (f::L') ->
 Cnv (λa b c=>0<Nq X Y a b c) (f::L)->Cnv (λa b c=>0<Nq X Y a b c) (f::L')->(f::L).getLast? = some z->(f::L').getLast? = some z->L=L':=by
 have one:∀ (L L':List α) (f b b':α),(f::b::L).Pairwise (lx X Y)->(f::b'::L').Pairwise (lx X Y)->(∀ p∈f::b::L,p∈P)->b'∈P ->
  Edg (λa b=>∀ p∈P,0≤Nq X Y a b p) (f::b::L)->0≤Nq X Y f b' b->Cnv (λa b c=>0<Nq X Y a b c) (f::b::L)->(f::b::L).getLast? = some z->(f::b'::L').getLast? = some z->¬lx X Y b b':=by
  intro L L' f b b' s s' m m' e e' c l l' hlt;have s1:=Q9.1 s;have hfb:lx X Y f b:=s1.1 b (by simp);have hcol:Nq X Y f b b'=0:=by
   have:=e.1 b' m';rw [fB] at e'; grind
  cases L with
  |
   nil =>
   simp at l;subst l;have hz:b'=b\/lx X Y b' b:=by
    have:b∈f::b'::L':=V1 l';have s2:=(Q9.1 s').2;rcases Ql.1 this with rfl | h
    ·exact absurd hfb (Lj _)
    ·rcases Ql.1 h with h | h
     ·exact .inl h.symm
     ·exact .inr ((Q9.1 s2).1 b h)
   rcases hz with rfl | hz
   ·exact Lj _ hlt
   ·exact Lj _ (fJ hlt hz)
  |
   cons d M =>
   have h1:0<Nq X Y f b d:=c.1;have h2:=e.2.1 b' m';have s2:=Q9.1 s1.2;have hbd:lx X Y b d:=s2.1 d (by simp);have k:=(ang (Lk hlt) (Lk hfb) (Lk hbd) (by unfold Nq at hcol; grind) (by rw [jS] at h1; exact Rat.le_of_lt h1)).2 (.inr (by rw [jS] at h1; exact h1));unfold Nq at h2; grind
 intro L
 induction L with
 |
  nil =>
  intro L' f s s' m m' e e' c c' l l';simp at l;cases L' with
  | nil=>rfl
  |
   cons b' M' =>
   exfalso;subst l;have h1:=(Q9.1 s').1 f (by
    rw [Jx] at l';exact V1 l')
   exact Lj _ h1
 |
  cons b M ih =>
  intro L' f s s' m m' e e' c c' l l';cases L' with
  |
   nil =>
   exfalso;simp at l';subst l';have h1:=(Q9.1 s).1 f (by
    rw [Jx] at l;exact V1 l)
   exact Lj _ h1
  |
   cons b' M' =>
   have hb:=m b (by simp);have hb':=m' b' (by simp);have heq:b=b':=by
    rcases tot b hb b' hb' with h | h | h
    ·exact h
    ·exact absurd h (one M M' f b b' s s' m hb' e (e'.1 b hb) c l l')
    ·exact absurd h (one M' M f b' b s' s m' hb e' (e.1 b' hb') c' l' l)
   subst heq;rw [Jx] at l l';rw [ih M' b (Q9.1 s).2 (Q9.1 s').2 (λp hp=>m p (Qg _ hp)) (λp hp=>m' p (Qg _ hp)) e.2 e'.2 c.tail c'.tail l l']
end
end Orq
namespace Orr
open Go
structure RawInt where
 b:Bool
 l:List Nat
structure RawPt where
 x:List RawInt
 y:List RawInt
 d:RawInt
 id:Int
abbrev Ip (z:RawInt):Up:=[.bool z.b,Qzu z.l]
structure RawInt.Ok (z:RawInt):Prop where
 u:∀ u∈z.l,u<4294967296
structure RawPt.Ok (z:RawPt):Prop where
 x:∀ a∈z.x,a.Ok
 y:∀ a∈z.y,a.Ok
 d:z.d.Ok
 id:-9223372036854775808<=z.id/\z.id<=9223372036854775807
def Hr (most:Int) (z:RawInt):Int:=match z.l with
 | []=>0
 | u::_=>if z.b=true then -((u:Int) % (most+1)) else (u:Int) % (most+1)
theorem KW {most:Int} (h:0<=most) (z:RawInt):-most<=Hr most z/\Hr most z<=most:=by
 unfold Hr
 split
 ·omega
 ·rename_i u _ _;have h1:=Vi (u:Int) (b:=most+1) (by omega);have h2:=Yw (u:Int) (b:=most+1) (by omega)
  split <;> omega
def Gf (most:Int) (l:List RawInt):Uk:=(l.take 3).map (Hr most)
def Qnq (most:Int) (x y:List RawInt) (d:RawInt):Crv:=⟨Gf most x,Gf most y,Hr 3 d⟩
theorem TE (most:Int) (l:List RawInt):(Gf most l).length<=3:=by unfold Gf; rw [List.length_map,List.length_take]; omega
theorem jZ {most:Int} {l:List RawInt} {i:Nat} {z:RawInt} (hi:i<3) (h:l[i]? = some z):Gf most (l.take (i+1))=Gf most (l.take i)++[Hr most z]:=by
 unfold Gf;rw [List.take_take,List.take_take,V3 (by omega),V3 (by omega),Zw,h];simp
theorem TL (most:Int) {l:List RawInt} {i:Nat} (h:l.length<=i\/3<=i):Gf most (l.take i)=Gf most l:=by
 unfold Gf;rw [List.take_take];rcases Nat.le_total 3 i with h3 | h3
 ·rw [Zz h3]
 ·rcases h with h | h
  ·rw [V3 h3,Qn (l:=l) (i:=i) (by omega),Qn (l:=l) (i:=3) (by omega)]
  ·rw [V3 h3,show i=3 by omega]
theorem TA {most:Int} {l:List RawInt} {z:Int} (hm:0<=most) (h:z∈Gf most l):-most<=z/\z<=most:=by
 obtain ⟨a,_,rfl⟩:=Za.1 h;exact KW hm a
theorem Qaz {most:Int} (hm:0<=most/\most<=999) (x y:List RawInt) (d:RawInt):Cs 10 3 (Qnq most x y d):=by
 have key:∀ z:Int,-999<=z/\z<=999->Fa z<=10:=λz h=>Tz.2 (by omega)
 refine ⟨λz hz=>?_,λz hz=>?_,?_,TE _ _,TE _ _⟩
 ·have:=TA hm.1 hz; exact key _ (by omega)
 ·have:=TA hm.1 hz; exact key _ (by omega)
 ·have:=KW (most:=3) (by decide) d;show Fa (Hr 3 d)<=10;exact key _ (by omega)
end Orr
namespace Orr
def So (l:List Pt):Prop:=l.Pairwise λa b=>a.id<b.id
theorem Qnh (id:Int):has [] id=false:=rfl
theorem uP (p:Pt) (l:List Pt) (id:Int):has (p::l) id=if p.id<id then has l id else decide (p.id=id):=by
 by_cases h:p.id<id
 ·rw [if_pos h]; unfold has; simp only [Tr]; rw [if_pos h]; simp
 ·rw [if_neg h]; unfold has; simp only [Tr]; rw [if_neg h]; simp
theorem Qik (p:Pt) (l:List Pt) (q:Pt):put (p::l) q=if p.id<q.id then p::put l q else q::p::l:=by
 unfold put;simp only [Tr]
 split <;> simp
theorem xP:∀ {l:List Pt} {id:Int},So l->(has l id=true↔∃ p∈l,p.id=id)
 | [],id,_=>by simp [Qnh]
 |
  p::l,id,h=>by
  have h1:=Q9.1 h;rw [uP]
  split
  ·rename_i hlt;rw [xP h1.2];constructor
   ·rintro ⟨x,hx,e⟩; exact ⟨x,Qg _ hx,e⟩
   ·rintro ⟨x,hx,e⟩
    rcases Ql.1 hx with rfl | hx
    ·omega
    ·exact ⟨x,hx,e⟩
  ·rename_i hge;rw [decide_eq_true_iff];constructor
   ·intro e; exact ⟨p,Qy ..,e⟩
   ·rintro ⟨x,hx,e⟩
    rcases Ql.1 hx with rfl | hx
    ·exact e
    ·have:=h1.1 x hx; omega
theorem LJ:∀ {l:List Pt} {q:Pt},So l->has l q.id=false->So (put l q)
 | [],q,_,_=>by simp [put,Tr,So]
 |
  p::l,q,h,hn=>by
  have h1:=Q9.1 h;rw [uP] at hn;rw [Qik]
  split
  ·rename_i hlt;rw [if_pos hlt] at hn;refine Q9.2 ⟨λx hx=>?_,LJ h1.2 hn⟩;rcases FU hx with rfl | hx
   ·exact hlt
   ·exact h1.1 x hx
  ·rename_i hge;rw [if_neg hge,decide_eq_false_iff_not] at hn;refine Q9.2 ⟨λx hx=>?_,h⟩;rcases Ql.1 hx with rfl | hx
   ·omega
   ·have:=h1.1 x hx; omega
end Orr
namespace Orr
open Go
section
variable {α:Type} {lt:α->α->Bool}
theorem Qbk (out:List α) (c:α):(Li lt out c).Perm (c::out):=by
 unfold Li;exact (List.perm_middle).trans (by rw [Zf])
theorem BO:∀ (l acc:List α),(l.foldl (Li lt) acc).Perm (l++acc)
 | [],acc=>List.Perm.refl _
 |
  c::l,acc=>by
  simp only [Z8];exact (BO l _).trans (((Qbk acc c).append_left l).trans List.perm_middle)
theorem cZ (l:List α):(Lu lt l).Perm l:=by
 have:=BO (lt:=lt) l [];rwa [Zx] at this
end
theorem Qil (l:List Pt) (q:Pt):(put l q).Perm (q::l):=by
 unfold put;exact List.perm_middle.trans (by rw [Zf])
end Orr
namespace Orr
open Go
theorem Qgk (c:Int) (l:Uk):Ro (l.map (· * c))=Ro l*c.natAbs:=by
 have key:∀ (l:Uk) (g:Nat),(l.map (· * c)).foldl (λg z=>Nat.gcd g z.natAbs) (g*c.natAbs)=l.foldl (λg z=>Nat.gcd g z.natAbs) g*c.natAbs:=by
  intro l
  induction l with
  | nil=>intro g; rfl
  |
   cons z l ih =>
   intro g;simp only [Z1,Z8,J7,Nat.gcd_mul_right];exact ih _
 have:=key l 0;rwa [Yi] at this
theorem Qxq {M:List Pt} (hs:So M) {i j:Nat} {p r:Pt} (hij:i<j) (hi:M[i]? = some p) (hj:M[j]? = some r):p.id<r.id:=by
 obtain ⟨h1,e1⟩:=Qf.1 hi;obtain ⟨h2,e2⟩:=Qf.1 hj;rw [<-e1,<-e2];exact Y7.1 hs i j h1 h2 hij
theorem Qum {M:List Pt} (hs:So M) {i:Nat} {p:Pt} (h:M[i]? = some p):Tr M p.id=i :=
 RU (λj r hj hr=>Qxq hs hj hr h) (.inr ⟨p,h,Int.lt_irrefl _⟩)
theorem Qgt {M:List Pt} {i:Nat} (hi:i<M.length):(M.take i++M.drop (i+1)).length+1=M.length:=by
 rw [Qu,Qq,Q8]; omega
end Orr
namespace Orr
def Sf (a b:Crv):Uk:=ZU (Gh (Gd a b) (Gd a b)) (Gh (Gb a b) (Gb a b))
def Hi (a b c d:Crv):Uk:=Mq (Fo (Sf c d) ((a.d*b.d)*(a.d*b.d))) (Fo (Sf a b) ((c.d*d.d)*(c.d*d.d)))
theorem gQ {a b:Crv} (ha:Cb a) (hb:Cb b):U7 (Sf a b)/\(Sf a b).length<=31/\Bd 4194312 (Sf a b):=by
 obtain ⟨_,l1,b1⟩:=gZ ha hb;obtain ⟨_,l2,b2⟩:=fO ha hb;have m1:=Sw (Gd a b) (Gd a b);have m2:=Sw (Gb a b) (Gb a b);have q1:=P9 (u:=5) b1 b1 (by omega);have q2:=P9 (u:=5) b2 b2 (by omega);refine ⟨Fq _ _,?_,Ux (WG q1 q2) (by omega)⟩;have:=XU (Gh (Gd a b) (Gd a b)) (Gh (Gb a b) (Gb a b));unfold Sf;omega
theorem mH {a b:Crv} (ha:Cb a) (hb:Cb b):Fa (a.d*b.d)<=2097152:=by
 have:=Ge a.d b.d; have:=ha.d; have:=hb.d; omega
theorem eW {a b:Crv} (ha:Cb a) (hb:Cb b):Fa ((a.d*b.d)*(a.d*b.d))<=4194304:=by
 have:=Ge (a.d*b.d) (a.d*b.d); have:=mH ha hb; omega
def No (sg:Uk->Int) (a b c d:Pt):Ct:=⟨5,a.id,b.id,c.id,d.id,Hi a.c b.c c.c d.c,Hd sg (Hi a.c b.c c.c d.c)⟩
theorem CE (sg:Uk->Int) (a b c d:Pt):(No sg a b c d).p=Hi a.c b.c c.c d.c:=by rw [No]
def Hw:Nat->List Pt->List (Pt×Pt)
 | 0,_=>[]
 | _+1,[]=>[]
 | k+1,x::l=>l.map (λy=>(x,y))++Hw k l
def Gj (l:List Pt):List (Pt×Pt):=Hw l.length l
theorem D6:∀ (l:List Pt) (i:Nat) (x:Pt),l[i]? = some x->Hw (i+1) l=Hw i l++(l.drop (i+1)).map (λy=>(x,y))
 | [],i,x,h=>by simp at h
 |
  y::l,0,x,h=>by
  simp at h; subst h;simp [Hw]
 |
  y::l,i+1,x,h=>by
  have h:l[i]? = some x:=by simpa using h
  have ih:=D6 l i x h;show l.map (λz=>(y,z))++Hw (i+1) l=(l.map (λz=>(y,z))++Hw i l)++_;rw [ih,Zc];rfl
theorem Se:∀ (k:Nat) (l:List Pt),∀ m∈Hw k l,m.1∈l/\m.2∈l
 | 0,l,m,h=>by simp [Hw] at h
 | k+1,[],m,h=>by simp [Hw] at h
 |
  k+1,x::l,m,h=>by
  rcases Qr.1 h with h | h
  ·obtain ⟨y,hy,rfl⟩:=Za.1 h;exact ⟨Qy ..,Qg _ hy⟩
  ·obtain ⟨h1,h2⟩:=Se k l m h;exact ⟨Qg _ h1,Qg _ h2⟩
theorem KH:∀ (k:Nat) (l:List Pt),(Hw k l).length<=k*l.length
 | 0,l=>by simp [Hw]
 | k+1,[]=>by simp [Hw]
 |
  k+1,x::l=>by
  have:=KH k l;simp only [Hw,Qu,Q7,Q6];have e:(k+1)*(l.length+1)=k*l.length+k+l.length+1:=by rw [X2,Xi]; omega
  omega
def Po (sg:Uk->Int) (s m:Pt×Pt):Pt×Pt:=if Hd sg (Hi s.1.c s.2.c m.1.c m.2.c)<0 then m else s
def Hg (sg:Uk->Int) (s:Pt×Pt) (ps:List (Pt×Pt)):Pt×Pt:=ps.foldl (Po sg) s
theorem HI (sg:Uk->Int) (s m:Pt×Pt):Po sg s m=m\/Po sg s m=s:=by
 unfold Po
 split
 ·exact .inl rfl
 ·exact .inr rfl
theorem QM (sg:Uk->Int) (s m:Pt×Pt) (ps:List (Pt×Pt)):Hg sg s (m::ps)=Hg sg (Po sg s m) ps:=by unfold Hg; rw [List.foldl_cons]
theorem jF (sg:Uk->Int) (s:Pt×Pt) (ps:List (Pt×Pt)) (m:Pt×Pt):Hg sg s (ps++[m])=Po sg (Hg sg s ps) m:=by simp [Hg]
theorem D2 (sg:Uk->Int) {l:List Pt}:∀ (ps:List (Pt×Pt)) (s:Pt×Pt),s.1∈l/\s.2∈l->(∀ m∈ps,m.1∈l/\m.2∈l)->(Hg sg s ps).1∈l/\(Hg sg s ps).2∈l
 | [],s,hs,_=>hs
 |
  m::ps,s,hs,h=>by
  have hn:(Po sg s m).1∈l/\(Po sg s m).2∈l:=by
   rcases HI sg s m with e | e
   ·rw [e]; exact h m (Qy ..)
   ·rw [e]; exact hs
  rw [QM];exact D2 sg ps (Po sg s m) hn λx hx=>h x (Qg _ hx)
def ZZ (s m:Pt×Pt):Bool:=decide (m.1.id≠s.1.id) || decide (m.2.id≠s.2.id)
def Ml (sg:Uk->Int) (s:Pt×Pt) (ps:List (Pt×Pt)):List Ct:=(ps.filter (ZZ s)).map λm=>No sg s.1 s.2 m.1 m.2
theorem Qm5 {sg:Uk->Int} {s m:Pt×Pt} {ps:List (Pt×Pt)} (h:ZZ s m=true):Ml sg s (ps++[m])=Ml sg s ps++[No sg s.1 s.2 m.1 m.2]:=by simp [Ml,Vk,h]
theorem Qm4 {sg:Uk->Int} {s m:Pt×Pt} {ps:List (Pt×Pt)} (h:ZZ s m=false):Ml sg s (ps++[m])=Ml sg s ps:=by simp [Ml,Vk,h]
theorem AO {sg:Uk->Int} {s:Pt×Pt} {ps:List (Pt×Pt)} {c:Ct} (h:c∈Ml sg s ps):∃ x∈ps,No sg s.1 s.2 x.1 x.2=c:=by
 unfold Ml at h;obtain ⟨x,hx,e⟩:=Za.1 h;exact ⟨x,(Yf.1 hx).1,e⟩
theorem AI (sg:Uk->Int) (s:Pt×Pt) (ps:List (Pt×Pt)):(Ml sg s ps).length<=ps.length:=by
 unfold Ml;rw [Q7];exact Yz _ _
def ZX (sg:Uk->Int):List Pt->List Pt
 | a::b::l=>[(Hg sg (a,b) (Gj (a::b::l))).1,(Hg sg (a,b) (Gj (a::b::l))).2]
 | _=>[]
def D5 (sg:Uk->Int):List Pt->List Ct
 | a::b::l=>Ml sg (Hg sg (a,b) (Gj (a::b::l))) (Gj (a::b::l))
 | _=>[]
theorem Qb0 (sg:Uk->Int) {l:List Pt} (h:l.length<2):ZX sg l=[]/\D5 sg l=[]:=by
 match l,h with
 | [],_=>exact ⟨rfl,rfl⟩
 | [a],_=>exact ⟨rfl,rfl⟩
theorem Qvf {l:List Pt} (h:¬l.length<2):∃ a b m,l=a::b::m:=by
 match l,h with
 | [],h=>simp at h
 | [a],h=>simp at h
 | a::b::m,_=>exact ⟨a,b,m,rfl⟩
theorem OL (sg:Uk->Int) (l:List Pt):(D5 sg l).length<=l.length*l.length:=by
 match l with
 | []=>simp [D5]
 | [a]=>simp [D5]
 | a::b::m=>exact Qc (AI _ _ _) (KH _ _)
def A9 (l:List Ul):Uq:=l.map λr=>[.row (r.map λp=>[pl p])]
abbrev JQ (r:Ul):Uq:=r.map λp=>[pl p]
theorem YK (l:List Ul):(A9 l).length=l.length:=by simp [A9]
def XT (i:Nat) (rows:List Ul):Nat->List Ul
 | 0=>[]
 | j+1=>if j=i then XT i rows j else XT i rows j++[(rows.getD j []).drop 1]
def YE (rows:List Ul) (i:Nat):List Ul:=XT i rows rows.length
def C0 (f:Nat->Uk) (rows:List Ul):Nat->Uk
 | 0=>[]
 |
  i+1=>if ((rows.getD i []).getD 0 []).length=0 then C0 f rows i else
  if i % 2=0 then ZU (C0 f rows i) (Gh ((rows.getD i []).getD 0 []) (f i)) else Mq (C0 f rows i) (Gh ((rows.getD i []).getD 0 []) (f i))
def D7:Nat->List Ul->Uk
 | 0,_=>[1]
 | k+1,rows=>C0 (λi=>D7 k (YE rows i)) rows (k+1)
structure Sq (s:Nat) (ds:List Nat) (k w:Nat) (rows:List (List (List Int))):Prop where
 l:rows.length=k
 w:∀ r∈rows,r.length=w
 t:∀ r∈rows,∀ p∈r,U7 p
 b:∀ r∈rows,∀ p∈r,Bd s p
 n:∀ r∈rows,∀ (j:Nat) (p:List Int),r[j]? = some p->p.length≤ds.getD j 0+1
theorem CL {i:Nat} {rows:List Ul}:∀ {j:Nat} {r:Ul},j≤rows.length->r∈XT i rows j->∃ q∈rows,r=q.drop 1
 | 0,r,_,h=>by simp [XT] at h
 |
  j+1,r,hj,h=>by
  simp only [XT] at h
  split at h
  ·exact CL (by omega) h
  ·rcases Qr.1 h with h | h
   ·exact CL (by omega) h
   ·rw [Qk.1 h];exact ⟨rows.getD j [],Qa (i:=j) (by rw [Qi,Qe (by omega)]; rfl),rfl⟩
theorem CC {i:Nat} {rows:List Ul}:∀ (j:Nat),(XT i rows j).length=if i<j then j-1 else j
 | 0=>rfl
 |
  j+1=>by
  have ih:=CC (i:=i) (rows:=rows) j;simp only [XT]
  split
  ·rename_i e; subst e; rw [ih,if_neg (by omega),if_pos (by omega)]; omega
  ·rw [Qu,ih,Vs]
   split <;> split <;> omega
theorem Sq.min {s d k w:Nat} {ds:Um} {rows:List Ul} (h:Sq s (d::ds) (k+1) (w+1) rows) {i:Nat} (hi:i<k+1):Sq s ds k w (YE rows i):=by
 have hl:=h.l;have hm:∀ {r:Ul},r∈YE rows i->∃ q∈rows,r=q.drop 1:=λh=>CL (Qm _) h
 refine ⟨by unfold YE; rw [CC,hl,if_pos hi]; omega,λr hr=>?_,λr hr p hp=>?_,λr hr p hp=>?_,λr hr j p hp=>?_⟩
 ·obtain ⟨q,hq,rfl⟩:=hm hr;rw [Q8,h.w q hq]; omega
 all_goals obtain ⟨q,hq,rfl⟩:=hm hr
 ·exact h.t q hq p (Qz hp)
 ·exact h.b q hq p (Qz hp)
 ·rw [Xb] at hp;have:=h.n q hq (1+j) p hp;rw [Js 1 j] at this;exact this
theorem Sq.at {s d k w:Nat} {ds:Um} {rows:List Ul} (h:Sq s (d::ds) k (w+1) rows) {i:Nat} (hi:i<k):∃ p r,rows[i]? = some (p::r)/\(rows.getD i []).getD 0 []=p/\U7 p/\Bd s p/\p.length<=d+1:=by
 obtain ⟨r,hr⟩:=gxE (l:=rows) (i:=i) (by rw [h.l]; exact hi);have hm:=Qa hr;cases r with
 | nil=>have:=h.w _ hm; simp at this
 |
  cons p r =>
  have e:rows.getD i []=p::r:=by rw [Qi,hr]; rfl
  refine ⟨p,r,hr,by rw [e]; rfl,h.t _ hm p (by simp),h.b _ hm p (by simp),h.n _ hm 0 p rfl⟩
theorem xZ {s d k w:Nat} {ds:Um} {f:Nat->Uk} {rows:List Ul} {B L:Nat} (h:Sq s (d::ds) k (w+1) rows) (hn:d<31) (hf:∀ i,i<k->Bd B (f i)/\(f i).length<=L+1):∀ i,i<=k->U7 (C0 f rows i)/\Bd (s+B+5+i) (C0 f rows i)/\(C0 f rows i).length<=d+L+1
 | 0,_=>⟨rfl,λz hz=>(by cases hz),Qh _⟩
 |
  i+1,hi=>by
  obtain ⟨h1,h2,h3⟩:=xZ h hn hf i (by omega);obtain ⟨p,r,_,e,t,b,l⟩:=h.at (i:=i) (by omega);obtain ⟨f1,f2⟩:=hf i (by omega);have hp1:Bd (s+B+5) (Gh p (f i)):=P9 b f1 (by omega);have hp2:=Sw p (f i);simp only [C0];rw [e]
  split
  ·exact ⟨h1,Ux h2 (by omega),h3⟩
  ·split
   ·exact ⟨Fq _ _,Ux (WG h2 hp1) (by omega),Qc (XU _ _) (by omega)⟩
   ·exact ⟨Fq _ _,Ux (Da h2 hp1) (by omega),Qc (M3 _ _) (by omega)⟩
theorem MW {s:Nat}:∀ (k:Nat) (ds:Um) (rows:List Ul),k<=4->ds.length=k->ds.sum<31->Sq s ds k k rows->U7 (D7 k rows)/\Bd (k*(s+10)+1) (D7 k rows)/\(D7 k rows).length<=ds.sum+1
 | 0,ds,rows,_,_,_,_=>⟨rfl,λz hz=>(by simp [D7] at hz; subst hz; rw [Yi]; decide),by simp [D7]⟩
 | k+1,[],rows,_,hl,_,_=>by simp at hl
 |
  k+1,d::ds,rows,hk,hl,hd,h=>by
  rw [Kt] at hd;have ih:=λi (hi:i<k+1)=>MW k ds (YE rows i) (by omega) (by simpa using hl) (by omega) (h.min hi)
  obtain ⟨h1,h2,h3⟩:=xZ (f:=λi=>D7 k (YE rows i)) (B:=k*(s+10)+1) (L:=ds.sum) h (by omega) (λi hi=>⟨(ih i hi).2.1,(ih i hi).2.2⟩) (k+1) (Qm _);have e1:(k+1)*(s+10)=k*(s+10)+(s+10):=Z9 ..;rw [Kt];exact ⟨h1,Ux h2 (by omega),h3⟩
def fC (a b c:Crv):List Ul:=[[a.x,a.y,[a.d]],[b.x,b.y,[b.d]],[c.x,c.y,[c.d]]]
def Ha (a b c:Crv):Uk:=D7 3 (fC a b c)
end Orr
