/- T24 T25 G1 G2 SortL KinL K1 K2 F6 F7 F8 F9 G3 G4 K3 K4 KGoL SplitL S1 SortQ HullG RawL NewsL BegL TurnL PairN DetL -/
import Derived.Test.YtiegdkolbckfdaaGreatPart06
import Derived.Test.YtiegdkolbckfdaaGreatPart00
import Derived.Test.YtiegdkolbckfdaaGreatPart05
import Derived.Test.YtiegdkolbckfdaaGreatPart04
set_option linter.all false
namespace Orq
open Orr Go
theorem Qfa:∀ {k:Nat} {a b:Uj} {l:Uk},tR k a b=some l->∀ p∈l,p.length≠0
 | 0,_,_,_,h=>by cases h
 |
  k+1,a,b,l,h=>by
  simp only [tR] at h
  split at h
  ·injection h with h; subst h; exact λp hp=>by cases hp
  ·rename_i h0;obtain ⟨r,_,h⟩:=Qd.1 h;obtain ⟨l',h1,h⟩:=Qd.1 h;injection h with h; subst h;intro p hp;rcases Qm.1 hp with rfl | hp
   ·exact h0
   ·exact Qfa h1 p hp
theorem Okp.pb {n s:Nat} {p:Uj} (h:Okp n s p) (hs:s<=16777216):Pb p:=⟨h.t,by have:=h.l; have:=h.z.1; omega,U0 h.b hs⟩
theorem Qas {p:Uj} {q:Uj} {l:Uk} (hp:Pb p) (h:Ls p=some (q::l)) (hq:q.length≠0):∀ r∈q::l,U9 r/\r.length≠0:=by
 have h1:=(Orr.chain_ok hp h).2;unfold Ls at h;obtain ⟨a,_,h⟩:=Qd.1 h
 split at h
 ·cases h
 ·obtain ⟨d,_,h⟩:=Qd.1 h;obtain ⟨l',h3,h⟩:=Qd.1 h;injection h with h;injection h with e1 e2;subst e1; subst e2;intro r hr;refine ⟨(h1 r hr).t,?_⟩;rcases Qm.1 hr with rfl | hr
  ·exact hq
  ·exact Qfa h3 r hr
inductive RI (q:List Int) (L:List (List Rat)):Rat->List Tm->Rat->Prop
 | nil {lo hi:Rat} (h:lo<=hi) (hv:vv L lo=vv L hi):RI q L lo [] hi
 | cons {lo hi:Rat} {t:Tm} {l:List Tm} (h:lo<=t.lo) (hv:vv L lo=vv L t.lo) (ht:Vt (cz q) L t.lo t.hi) (hp:t.p=q) (hl:RI q L t.hi l hi):RI q L lo (t::l) hi
theorem RI.app {q:Uj} {L:Un} {lo m hi:Rat} {l l':List Tm} (h:RI q L lo l m) (h':RI q L m l' hi):RI q L lo (l++l') hi:=by
 induction h with
 |
  nil h hv =>
  cases h' with
  | nil h2 hv2=>exact .nil (by grind) (by omega)
  | cons h2 hv2 ht hp hl=>exact .cons (by grind) (by omega) ht hp hl
 | cons h hv ht hp _ ih=>exact .cons h hv ht hp (ih h')
theorem Qfd {D M k:Nat} {m:Rat} (h:Gr D M k m) (hM:0<M) (hs:Fe (D:Int)+Fe (M:Int)+k<=16777216):chq m=some m:=by
 have:=OK h hM hs;unfold chq;rw [if_pos ⟨this.1,this.2⟩]
theorem MM {q:Uj} {c:Uk} (hS:GH (cz q) (c.map cz)) (tq:U9 q) (nq:q.length<=9) (hc1:q.length<2->c=[q]) {D M F:Nat} (hM:0<M):∀ (k j:Nat) (lo hi:Rat),lo<hi->Gr D M j lo->Gr D M j hi->Fe (D:Int)+Fe (M:Int)+(j+k)<=16777216->(hi-lo)*((2^(Tr q q+1):Nat):Rat)<=((2^k:Nat):Rat) ->
 ∃ l,Am q c (F+k+1) lo hi ((vv (c.map cz) lo:Int)-(vv (c.map cz) hi:Int))=some l/\RI q (c.map cz) lo l hi/\∀ t∈l,∃ k',k'≤j+k/\Gr D M k' t.lo/\Gr D M k' t.hi:=by
 intro k
 induction k with
 |
  zero =>
  intro j lo hi hl g1 g2 hs hK;have hle:=As hS hl;have h2:vv (c.map cz) lo<vv (c.map cz) hi+2:=by
   rcases Za (vv (c.map cz) lo) (vv (c.map cz) hi+2) with h | h
   ·exact h
   ·exfalso;have lq:2<=q.length:=by
     rcases Za q.length 2 with e | e
     ·have hvv:∀ x,vv (c.map cz) x=vv (c.map cz) 0:=λx=>by
       rcases hS with ⟨c0,hc0,hcc,hl'⟩ | ⟨g',l',k',hk,hg,hsc,hl'⟩
       ·rw [hl']; simp only [vv,tc,hcc]
       ·rw [hc1 e] at hl'; cases hl'
      rw [hvv lo,hvv hi] at h; omega
     ·exact e
    have:=Qpt hS tq nq lq hl h;rw [Vb] at hK;have h7:((1:Nat):Rat)=1:=rfl;rw [h7] at hK; grind
  simp only [Am];by_cases e0:vv (c.map cz) lo=vv (c.map cz) hi
  ·rw [if_pos (by omega)];exact ⟨[],rfl,.nil (Qr hl) e0,λt ht=>by cases ht⟩
  ·rw [if_neg (by omega),if_pos (by omega)];refine ⟨[⟨q,lo,hi⟩],rfl,.cons Qp rfl ⟨hS,hl,by show vv _ lo=vv _ hi+1; omega⟩ rfl (.nil Qp rfl),λt ht=>?_⟩;rw [Qk.1 ht]; exact ⟨j,by omega,g1,g2⟩
 |
  succ k ih =>
  intro j lo hi hl g1 g2 hs hK;have hle:=As hS hl;show ∃ l,(if (vv (c.map cz) lo:Int)-(vv (c.map cz) hi:Int)=0 then some [] else if (vv (c.map cz) lo:Int)-(vv (c.map cz) hi:Int)=1 then some [⟨q,lo,hi⟩] else (chq (mid lo hi)).bind λm=>(Am q c (F+k+1) lo m (Tg c lo m)).bind λl=>(Am q c (F+k+1) m hi ((vv (c.map cz) lo:Int)-(vv (c.map cz) hi:Int)-Tg c lo m)).bind λr=>some (l++r))=some l/\_;by_cases e0:vv (c.map cz) lo=vv (c.map cz) hi
  ·rw [if_pos (by omega)];exact ⟨[],rfl,.nil (Qr hl) e0,λt ht=>by cases ht⟩
  by_cases e1:vv (c.map cz) lo=vv (c.map cz) hi+1
  ·rw [if_neg (by omega),if_pos (by omega)];refine ⟨[⟨q,lo,hi⟩],rfl,.cons Qp rfl ⟨hS,hl,e1⟩ rfl (.nil Qp rfl),λt ht=>?_⟩;rw [Qk.1 ht]; exact ⟨j,by omega,g1,g2⟩
  ·rw [if_neg (by omega),if_neg (by omega)];obtain ⟨m,hm⟩:=nmE ((lo+hi) / 2);have h2:(lo+hi) / 2*2=lo+hi:=Hb (by decide);rw [<-hm] at h2;have gm:Gr D M (j+1) m:=by rw [hm]; exact Qgq g1 g2
   have l1:lo<m:=by grind
   have l2:m<hi:=by grind
   rw [mN,<-hm,Qfd gm hM (by omega)];show ∃ l,((Am q c (F+k+1) lo m (Tg c lo m)).bind λl=>(Am q c (F+k+1) m hi ((vv (c.map cz) lo:Int)-(vv (c.map cz) hi:Int)-Tg c lo m)).bind λr=>some (l++r))=some l/\_;rw [O3 (Qr l1),show (vv (c.map cz) lo:Int)-(vv (c.map cz) hi:Int)-((vv (c.map cz) lo:Int)-(vv (c.map cz) m:Int))=(vv (c.map cz) m:Int)-(vv (c.map cz) hi:Int) by omega];rw [gK k] at hK;have hp:∀ x y:Rat,(y-x)*2=hi-lo->(y-x)*((2^(Tr q q+1):Nat):Rat)<=((2^k:Nat):Rat):=λx y h=>by
    have:(y-x)*((2^(Tr q q+1):Nat):Rat)*2=(hi-lo)*((2^(Tr q q+1):Nat):Rat):=by rw [<-h]; grind
    grind
   obtain ⟨la,a1,a2,a3⟩:=ih (j+1) lo m l1 (OW g1) gm (by omega) (hp lo m (by grind));obtain ⟨lb,b1,b2,b3⟩:=ih (j+1) m hi l2 gm (OW g2) (by omega) (hp m hi (by grind));rw [a1];show ∃ l,((Am q c (F+k+1) m hi ((vv (c.map cz) m:Int)-(vv (c.map cz) hi:Int))).bind λr=>some (la++r))=some l/\_;rw [b1];refine ⟨la++lb,rfl,a2.app b2,λt ht=>?_⟩;rcases Qq.1 ht with ht | ht
   ·obtain ⟨k',h1,h2,h3⟩:=a3 t ht; exact ⟨k',by omega,h2,h3⟩
   ·obtain ⟨k',h1,h2,h3⟩:=b3 t ht; exact ⟨k',by omega,h2,h3⟩
theorem Qtw {D M k:Nat} {q:Rat} (h:Gr D M k q):Gr D M k (-q):=by
 obtain ⟨u,hu⟩:=h.u;exact ⟨⟨-u,by rw [Vm,<-hu]; grind⟩,by rw [Ef]; exact h.b,h.d⟩
theorem uN {m s:Nat} (h:m<2^s):Fe ((m+1:Nat):Int)<=s+1:=by
 rw [Si,Xg,Zq]; omega
theorem Qbh {z:Int} {s:Nat} (h:Fe z<=s):Fe ((z.natAbs+1:Nat):Int)<=s+1:=uN (Si.1 h)
theorem Qpi {x:Rat} {m s g N:Nat} (hx:x<=2*((m+1:Nat):Rat)) (hm:m+1<=2^s) (hN:s+1+g<=N):x*((2^g:Nat):Rat)<=((2^N:Nat):Rat):=by
 have h3:=Zm.2 hm;have e:=gK s;have h4:(0:Rat)<=((2^s:Nat):Rat):=Xh;have h1:x<=((2^(s+1):Nat):Rat):=by rw [e]; grind
 have h5:(0:Rat)<=((2^g:Nat):Rat):=Xh;refine Zh (Zc h1 h5) ?_;have h6:2^(s+1)*2^g<=2^N:=by
  rw [<-Xe]; exact Zr (by decide) hN
 have:=Zm.2 h6;rw [Rat.natCast_mul] at this;exact this
theorem Qlc {s:Nat} {l:Uj} (h:Bd s l):most l<2^s:=by
 have key:∀ (l:Uj) (m:Nat),m<2^s->Bd s l->l.foldl (λm z=>if m<z.natAbs then z.natAbs else m) m<2^s:=by
  intro l
  induction l with
  | nil=>exact λm h _=>h
  |
   cons y l ih =>
   intro m hm hb;simp only [Z9];refine ih _ ?_ λz hz=>hb z (Qg _ hz)
   have:=hb y (Qx ..);rw [Si] at this
   split <;> assumption
 exact key l 0 (Z2 (by decide)) h
theorem Qs3 {p q:Uj} (h:AO p=some q):q=p:=by
 unfold AO at h
 split at h
 ·injection h with h; exact h.symm
 ·cases h
theorem Qb8 {s N:Nat} {p:Uj} (hNe:N=63*s+5160) (hs9:s≤1180) (h:Okp 9 s p):∃ q c l,Pf p=some q/\Ls p=some c/\SR p=some l/\GH (cz q) (c.map cz)/\RI q (c.map cz) (-Gq q) l (Gq q)/\(∀ t∈l,Va t)/\(∀ x y,x<y->Gq q≤x\/y≤-Gq q->vv (c.map cz) x=vv (c.map cz) y)/\q.length≤p.length/\∀ t∈l,t.p=q/\t.lo<t.hi/\Bd (s+69) q/\∃ D M k,Gr D M k t.lo/\Gr D M k t.hi/\0<M/\Fe (D:Int)≤s+69/\Fe (M:Int)≤s+70/\k≤N:=by
 obtain ⟨pp,hpl,hpb⟩:=h.pr;obtain ⟨g,q',hq',sq⟩:=YB h;obtain ⟨q,l,q1,q2,hS,hl0⟩:=chain_ok h;rw [hq'] at q1;injection q1 with q1;subst q1;have e1:∀ t,U7 (Fg p) t=U7 q' t*U7 g t:=λt=>by rw [sq.e]; grind
 obtain ⟨p1,p2⟩:=Rx pp.t pp.n e1;have hch:tR 66 q' (Fg (Gu q'))=some l:=by
  have h2:=q2;unfold Ls at h2;rw [hq'] at h2;simp only [Jk] at h2
  split at h2
  ·cases h2
  ·cases hd:AO (Gu q') with
   | none=>rw [hd] at h2; cases h2
   |
    some d =>
    rw [hd] at h2;simp only [Jk] at h2;obtain rfl:d=Gu q':=Qs3 hd;cases hc:tR 66 q' (Fg (Gu q')) with
    | none=>rw [hc] at h2; cases h2
    | some l'=>rw [hc] at h2; simp at h2; rw [h2]
 have hll:=Mj sq.pq.t sq.pg.t pp.t e1 p1 p2;have hl9:=h.l;have bq:Bd (s+69) q':=ZA hpb (by omega) pp.t sq.pq.t sq.pg.t pp.n e1;have hall:=Qas (h.pb (by omega)) q2 sq.pq.n;have hld:Fl q'≠0:=by have:=sq.pq.l; omega
 have hb1:=GN hld;obtain ⟨D,hD⟩:=nmE ((Fl q').natAbs);obtain ⟨m,hm⟩:=nmE (most (q'.take (q'.length-1)));have hm2:m<2^(s+69):=by rw [hm]; exact Qlc (s:=s+69) λz hz=>bq z (Qo hz)
 have hD0:0<D:=by omega
 have hDs:Fe (D:Int)<=s+69:=by
  have:=M4 bq;rw [Si] at this ⊢;rw [Xg,hD]; exact this
 have hbe:=NB hld;rw [<-hD,<-hm] at hbe;have hDq:=nat_pos hD0;have hbm:Gq q'<=((m+1:Nat):Rat):=by
  have hD1:(1:Rat)<=(D:Rat):=by
   have:((1:Nat):Rat)<=(D:Rat):=Zm.2 hD0;exact this
  have hm0:(0:Rat)<=(m:Rat):=Xh;have h3:=Cd (a:=(m:Rat)) (c:=1) hm0 Qp (by decide) hD1;rcases Ga (Gq q') ((m+1:Nat):Rat) with h' | h'
  ·exact h'
  ·exfalso;have:=Yx h' hDq
   push_cast at this; grind
 have gb:Gr D (m+1) 0 (Gq q'):=by
  refine ⟨⟨(D+m:Nat),?_⟩,?_,hD0⟩
  ·rw [Vb,Ys,hbe];rw [show ((((D+m:Nat):Int)):Rat)=((D+m:Nat):Rat) from rfl]; push_cast; rfl
  ·have:Fh (Gq q')=Gq q':=by unfold Fh; rw [if_neg (by grind)]
   rw [this]; exact hbm
 have hMs:Fe ((m+1:Nat):Int)<=s+69+1:=uN (s:=s+69) hm2;have hK:(Gq q' - -Gq q')*((2^(Tr q' q'+1):Nat):Rat)<=((2^N:Nat):Rat):=by
  have hps:=Ol bq;have hg:Tr q' q'<=(2*s+164)*31:=by
   unfold Tr;exact Zi (by omega) (by omega)
  exact Qpi (s:=s+69) (g:=Tr q' q'+1) (N:=N) (by grind) hm2 (by omega)
 have hN:Fe (D:Int)+Fe ((m+1:Nat):Int)+(0+N)<=16777216:=by omega
 obtain ⟨F,hFe⟩:=nmE (99999-N);obtain ⟨ls,r1,r2,r3⟩:=MM (F:=F) hS sq.pq.t (by omega) (λh=>by rw [hl0 h]) (W0 m) N 0 (-Gq q') (Gq q') (by grind) (Qtw gb) gb hN hK;rw [show F+N+1=100000 by omega] at r1;have hchq:chq (Gq q')=some (Gq q'):=Qfd gb (W0 m) (by omega);have key:∀ t∈ls,Va t/\t.p=q'/\t.lo<t.hi/\Bd (s+69) q'/\∃ D M k,Gr D M k t.lo/\Gr D M k t.hi/\0<M/\Fe (D:Int)≤s+69/\Fe (M:Int)≤s+70/\k≤N:=λt ht=>by
  obtain ⟨k',k1,k2,k3⟩:=r3 t ht;have hmem:∀ {lo hi:Rat} {ls:List Tm},RI q' ((q'::l).map cz) lo ls hi->t∈ls->Vt (cz q') ((q'::l).map cz) t.lo t.hi/\t.p=q':=λh=>by
   induction h with
   | nil=>intro ht; cases ht
   |
    cons h hv ht' hp hl ih =>
    intro ht;rcases Qm.1 ht with rfl | ht
    ·exact ⟨ht',hp⟩
    ·exact ih ht
  obtain ⟨v1,v2⟩:=hmem r2 ht;have lq2:2<=q'.length:=by
   rcases Za q'.length 2 with e | e
   ·exfalso;have hvv:∀ x,vv ((q'::l).map cz) x=0:=λx=>by
     rw [hl0 e,sq.pq.one e];have hv1:∀ x:Rat,ev (cz [1]) x=1:=λx=>by rw [U8,Nm]
     simp only [Z0,X5,vv,tc,hv1];have:Fc 1=1:=by decide
     rw [this]; decide
    have:=v1.v;rw [hvv,hvv] at this; omega
   ·exact e
  exact ⟨⟨.inr ⟨_,by rw [v2]; exact v1⟩,by rw [v2]; exact sq.pq.t,by rw [v2]; omega,by rw [v2]; exact lq2,by rw [v2]; exact U0 bq (by omega),λ_=>by rw [v2]; exact U0 bq (by omega),λ_=>by rw [v2]; exact ⟨l,_,g,hch,sq,v1⟩,D,m+1,k',k2,k3,W0 m,Qc (show _<=1000000 by omega) (Qt0 t)⟩,v2,v1.l,bq,D,m+1,k',k2,k3,W0 m,hDs,Qc hMs (Ql (s+70)),by rw [Zz] at k1; exact k1⟩
 refine ⟨q',q'::l,ls,hq',q2,?_,hS,r2,λt ht=>(key t ht).1,λx y hxy hb=>cK hS sq.pq.t sq.pq.n hxy hb (by grind),by omega,λt ht=>(key t ht).2⟩
 ·unfold SR;rw [q2,hq'];show (chq (Gq q')).bind _=_;rw [hchq];simp only [Jk];rw [Qb7 hS hall];exact r1
theorem Qi2 {s:Nat} {p:Uj} (hs9:s≤1180) (h:Okp 9 s p):∃ q c l,Pf p=some q/\Ls p=some c/\SR p=some l/\GH (cz q) (c.map cz)/\RI q (c.map cz) (-Gq q) l (Gq q)/\(∀ t∈l,Va t)/\(∀ x y,x<y->Gq q≤x\/y≤-Gq q->vv (c.map cz) x=vv (c.map cz) y)/\q.length≤p.length/\∀ t∈l,t.p=q/\t.lo<t.hi/\Bd (s+69) q/\∃ D M k,Gr D M k t.lo/\Gr D M k t.hi/\0<M/\Fe (D:Int)≤s+69/\Fe (M:Int)≤s+70/\k≤63*s+5160:=Qb8 rfl hs9 h
theorem Qi1 {p:Uj} (h:Okp 9 1180 p):∃ q c l,Pf p=some q/\Ls p=some c/\SR p=some l/\GH (cz q) (c.map cz)/\RI q (c.map cz) (-Gq q) l (Gq q)/\(∀ t∈l,Va t)/\(∀ x y,x<y->Gq q≤x\/y≤-Gq q->vv (c.map cz) x=vv (c.map cz) y):=by
 obtain ⟨q,c,l,h1,h2,h3,h4,h5,h6,h7,_⟩:=Qi2 (Ql _) h;exact ⟨q,c,l,h1,h2,h3,h4,h5,h6,h7⟩
theorem L6 {q:Uj} {L:Un} (hS:GH (cz q) L) {c:Rat->Int} (hc:Cut c) {lo:Rat} (hH:∀ z,c z=-1->z<=lo->vv L z=vv L lo) {y0:Rat} (hy:c y0=-1) (hv:∀ z,lo<z->z<=y0->vv L z=vv L lo):∃ s,s≠0/\∀ z,c z=-1->z<=y0->Fc (ev (cz q) z)=s:=by
 have hall:∀ z,c z=-1->z<=y0->vv L z=vv L lo:=λz h1 h2=>by
  rcases Ga z lo with e | e
  ·exact hH z h1 e
  ·exact hv z e h2
 have hne:∀ z,c z=-1->z<=y0->Fc (ev (cz q) z)≠0:=λz h1 h2=>by
  obtain ⟨w,w1,w2⟩:=hc.dn z h1;have:=vY hS w1 (by rw [hall w w2 (by grind),hall z h1 h2]);rw [this.s]; exact this.n
 refine ⟨Fc (ev (cz q) y0),hne y0 hy Qp,λz h1 h2=>?_⟩;rcases Classical.em (z=y0) with e | e
 ·rw [e]
 ·have:=vY hS (x:=z) (y:=y0) (by grind) (by rw [hall z h1 h2,hall y0 hy Qp]);rw [this.s,Ae (hne z h1 h2)]
structure Fst (o:List Int) (a t:Tm):Prop where
 lt:P0 a t
 s:∃ s,s≠0/\(∀ z,Fj a z=-1->Fj t z=1->Fc (ev (cz o) z)=s)/\RS (cz o) (Fj t) (-s)
def Non (o:Uj) (a:Tm):Prop:=∃ s,s≠0/\∀ z,Fj a z=-1->Fc (ev (cz o) z)=s
theorem Qbp {q:Uj} {L:Un} (hS:GH (cz q) L) {a:Tm} (ha:Va a) {lo hi:Rat} {l:List Tm} (hR:RI q L lo l hi):(∀ t∈l,Va t)->(∀ z,hi<z->vv L z=vv L hi)->(∀ z,Fj a z=-1->z≤lo->vv L z=vv L lo)->∃ r,VT a l=some r/\match r with
 | none=>Non q a
 | some t=>t∈l/\Fst q a t:=by
 have ca:=ha.cut
 induction hR with
 |
  @nil lo hi h hv =>
  intro _ hhi hH;refine ⟨none,rfl,?_⟩;obtain ⟨y1,hy1⟩:=ca.hi;have hall:∀ z,lo<z->vv L z=vv L lo:=λz hz=>by
   rcases Ga z hi with e | e
   ·have h1:=As hS hz;have h2:vv L hi<=vv L z:=by
     rcases Classical.em (z=hi) with e' | e'
     ·rw [e']; exact Ql _
     ·exact As hS (by grind)
    omega
   ·rw [hhi z e,hv]
  obtain ⟨s,s0,hs⟩:=L6 hS ca hH hy1 λz h1 _=>hall z h1
  refine ⟨s,s0,λz hz=>?_⟩;rcases Ga z y1 with e | e
  ·exact hs z hz e
  ·obtain ⟨s',s0',hs'⟩:=L6 hS ca hH hz λz h1 _=>hall z h1
   rw [hs' z hz Qp,<-hs' y1 hy1 (Qr e),hs y1 hy1 Qp]
 |
  @cons lo hi t l h hv ht hp hl ih =>
  intro hV hhi hH;have hvt:=hV t (Qx ..);have ct:=hvt.cut;have ht':=ht;rw [<-hp] at ht';have ect:∀ z,Fj t z=cq (cz t.p) t.lo t.hi z:=B6 ht.l;obtain ⟨c,c1,c2⟩:=WO hvt ha;show ∃ r,((WI t a).bind λc=>if 0<c then some (some t) else VT a l)=some r/\_;rw [c1];show ∃ r,(if 0<c then some (some t) else VT a l)=some r/\_;have hlo1:Fj t t.lo=1:=by rw [ect]; exact Ez Qp
  have hlow:∀ z,lo<z->Fj t z=1->vv L z=vv L lo:=λz h1 h2=>by
   rcases Ga z t.lo with e | e
   ·have a1:=As hS h1;have a2:vv L t.lo<=vv L z:=by
     rcases Classical.em (z=t.lo) with e' | e'
     ·rw [e']; exact Ql _
     ·exact As hS (by grind)
    omega
   ·rw [ect] at h2;have hz:z<=t.hi:=by
     rcases Ga z t.hi with e' | e'
     ·exact e'
     ·rw [UZ ht.l e'] at h2; omega
    rw [ht'.eq_lo e hz h2,hv]
  by_cases hc:0<c
  ·rw [if_pos hc];refine ⟨some t,rfl,Qx ..,?_⟩;have hlt:P0 a t:=by
    rcases c2 with ⟨e,_⟩ | ⟨e,_⟩ | ⟨_,h⟩
    ·omega
    ·omega
    ·exact h
   refine ⟨hlt,?_⟩;obtain ⟨m,m1,m2⟩:=hlt;obtain ⟨s,s0,hs⟩:=L6 hS ca hH m1 λz h1 h2=>hlow z h1 (by
    rcases Classical.em (z=m) with e | e
    ·rw [e]; exact m2
    ·exact ct.mono' (q:=z) (r:=m) (by grind) (by omega))
   have hall:∀ z,Fj a z=-1->Fj t z=1->Fc (ev (cz q) z)=s:=λz h1 h2=>by
    rcases Ga z m with e | e
    ·exact hs z h1 e
    ·obtain ⟨s',s0',hs'⟩:=L6 hS ca hH h1 λw w1 w2=>hlow w w1 (by
      rcases Classical.em (w=z) with e | e
      ·rw [e]; exact h2
      ·exact ct.mono' (q:=w) (r:=z) (by grind) (by omega))
     rw [hs' z h1 Qp,<-hs' m m1 (Qr e),hs m m1 Qp]
   refine ⟨s,s0,hall,?_⟩;obtain ⟨w,w1,w2,w3⟩:=BM ct m2 hlo1;have hwa:Fj a w=-1:=ca.mono m w w2 (by omega);have hsw:=hall w hwa w1;have hwh:w<t.hi:=by
    rw [ect] at w1;rcases Ga t.hi w with e | e
    ·have:=ht'.hi1;rcases Classical.em (t.hi=w) with e' | e'
     ·rw [<-e'] at w1; exact absurd w1 this
     ·rw [UZ ht.l (by grind)] at w1; omega
    ·exact e
   have hww:vv L w=vv L t.lo:=ht'.eq_lo w3 (Qr hwh) (by rw [<-ect]; exact w1);have hvv:=ht.v;have hone:=vJ hS hwh (by omega);have hlw:Ph (cz q) w=s:=by rw [Ae (by rw [hsw]; exact s0),hsw]
   rw [hlw] at hone;have hd:∀ z,w<z->z<=t.hi->Fj t z=-1->Fc (ev (cz q) z)=-s:=λz z1 z2 z3=>by
    rw [ect] at z3;have e1:=ht'.eq_hi (by grind) z2 (by omega);have e2:=vJ hS z1 (by omega);rw [hlw] at e2;have hz0:Fc (ev (cz q) z)≠0:=by
     rw [Ig (by grind) z2,hp] at z3;intro h0;rw [if_pos h0] at z3; omega
    rw [Ae hz0] at e2; exact e2.2
   rcases ct.val t.hi with e | e | e
   ·rw [ect] at e; exact absurd e ht'.hi1
   ·obtain ⟨d,dp,hd'⟩:=Qw7 (p:=cz q) (x:=t.hi) (by rw [hone.2]; omega);refine ⟨t.hi+d,ct.mono t.hi _ (by grind) (by omega),λz h1 h2=>?_⟩;have hz:t.hi<z:=by
     rcases Ga z t.hi with e' | e'
     ·rcases Classical.em (z=t.hi) with e'' | e''
      ·rw [e''] at h1; omega
      ·have:=ct.mono z t.hi (by grind) (by omega); omega
     ·exact e'
    rw [hd' z hz (by grind),hone.2]
   ·exact ⟨t.hi,e,λz h1 h2=>hd z (ct.lt w1 h1) h2 h1⟩
  ·rw [if_neg hc];have hle:¬P0 a t:=λh=>by
    rcases c2 with ⟨e,h'⟩ | ⟨e,h'⟩ | ⟨e,_⟩
    ·exact Ik ct ca h' h
    ·obtain ⟨z,z1,z2⟩:=h;have:=h' z; omega
    ·omega
   obtain ⟨r,r1,r2⟩:=ih (λx hx=>hV x (Qg _ hx)) hhi λz z1 z2=>by
    have hz:Fj t z≠1:=λh=>hle ⟨z,z1,h⟩
    have hzl:t.lo<z:=by
     rcases Ga z t.lo with e | e
     ·refine absurd ?_ hz;rw [ect]; exact Ez e
     ·exact e
    exact ht'.eq_hi hzl z2 (by rw [<-ect]; exact hz)
   refine ⟨r,r1,?_⟩;cases r with
   | none=>exact r2
   | some x=>exact ⟨Qg _ r2.1,r2.2⟩
theorem Qrc {c:Rat->Int} (hc:Cut c):∀ (n:Nat) (f:Um),HD f n->∃ s,s≠0/\RS f c s
 |
  n,f,h=>by
  rcases JR hc f with hv | ⟨s,hs,hn⟩
  ·cases n with
   |
    zero =>
    exfalso;obtain ⟨q,hq,_⟩:=fF hc (hv (Fh (f.getD 0 0)) (Ci h.1));cases f with
    | nil=>exact h.1 (by simp)
    |
     cons a l =>
     have:=Dx (p:=l) λk=>by have:=h.2 (k+1) (by omega); rwa [Q4] at this
     simp only [ev,this,Zs] at hq; grind
   |
    succ n =>
    have hd:HD (Nz f) n:=by
     have key:∀ (f:Um) (k:Nat),(Nz f).getD k 0=((k+1:Nat):Rat)*f.getD (k+1) 0:=by
      intro f
      induction f with
      | nil=>intro k; simp only [Nz,Ks]; grind
      |
       cons a f ih =>
       intro k;simp only [Nz];rw [Rh,Q4];cases k with
       | zero=>rw [Zs]; push_cast; grind
       | succ k=>rw [Q4,ih]; push_cast; grind
     refine ⟨λh0=>?_,λk hk=>by rw [key,h.2 (k+1) (by omega)]; grind⟩;rw [key] at h0;rcases Yz.1 h0 with h1 | h1
     ·have:=nat_pos (show 0<n+1 by omega); grind
     ·exact h.1 h1
    obtain ⟨s,hs,h1⟩:=Qrc hc n (Nz f) hd;exact ⟨s,hs,yT hc hv h1 hs⟩
  ·exact ⟨s,hs,qM hc hn⟩
theorem Qi4 {c:Rat->Int} (hc:Cut c) {f p q:Um} {s s':Int} (hf:∀ t,ev f t=ev p t*ev q t) (h:RS p c s) (h':RS q c s'):RS f c (s*s'):=by
 obtain ⟨y,h1,h2⟩:=h;obtain ⟨y',h3,h4⟩:=h';refine ⟨if y<=y' then y else y',by split <;> assumption,λz z1 z2=>?_⟩;rw [hf,Sf,h2 z z1 (by clear h2 h4; grind),h4 z z1 (by clear h2 h4; grind)]
theorem Qi5 {c:Rat->Int} (hc:Cut c) {f o S:Um} {k:Rat} (hk:k≠0) (hf:∀ t,ev f t=k*(ev o t*(ev S t*ev S t))) (hnz:¬∀ t,ev f t=0) {s:Int} (h:RS o c s):RS f c (Fc k*s):=by
 obtain ⟨n,_,hn⟩:∃ n,n<S.length/\HD S n:=by
  rcases CO S with h1 | h1
  ·exact absurd (λt=>by rw [hf,h1]; grind) hnz
  ·exact h1
 obtain ⟨s',hs',h'⟩:=Qrc hc n S hn;have h1:=Qi4 hc (f:=G0 S S) (λt=>Ff t _ _) h' h';have h2:=Qi4 hc (f:=G0 o (G0 S S)) (λt=>Ff t _ _) h h1;have hsq:s'*s'=1:=by
  obtain ⟨y,y1,y2⟩:=h';have:=y2 y y1 Qp;rcases Fu (ev S y) with ⟨e,_⟩ | ⟨e,_⟩ | ⟨e,_⟩
  ·rw [<-this,e]; rfl
  ·omega
  ·rw [<-this,e]; rfl
 rw [hsq,W8] at h2;obtain ⟨y,y1,y2⟩:=h2;exact ⟨y,y1,λz z1 z2=>by
  have:=y2 z z1 z2;rw [Ff,Ff] at this;rw [hf,Sf,this]⟩
structure Cp (p:List Int):Prop where
 t:U9 p
 l:p.length<=9
 b:Bd 1110 p
theorem Cp.dp {p:Uj} (h:Cp p):Dp p:=⟨h.t,h.l,U0 h.b (by omega)⟩
theorem Cp.ok {p:Uj} (h:Cp p) (h0:p.length≠0):Okp 9 1180 p:=h.dp.ok h0
def Leq (a:Tm) (c:Rat->Int):Prop:=∀ q,c q=-1->Fj a q=-1
def Pg (p:Uj) (a:Tm):Option Tm->Prop
 | none=>p=[]\/∃ s,s≠0/\∀ c,Cut c->Leq a c->RS (cz p) c s
 | some t=>p≠[]/\Va t/\P0 a t/\∃ s,s≠0/\(∀ c,Cut c->Leq a c->(∃ m,c m=-1/\Fj t m=1)->RS (cz p) c s)/\RS (cz p) (Fj t) (-s)
theorem RI.len {q:Uj} {L:Un} {lo hi:Rat} {l:List Tm} (h:RI q L lo l hi):l.length+vv L hi<=vv L lo:=by
 induction h with
 | nil h hv=>simp; omega
 | cons h hv ht hp hl ih=>have:=ht.v; simp only [Q7]; omega
theorem Qj0 (x:Rat):∀ (L:Un) (s:Int),tc x s L<=L.length
 | [],_=>Ql _
 |
  f::l,s=>by
  have h1:=Qj0 x l;simp only [tc,Q7]
  repeat' split
  all_goals (first | (have:=h1 s; omega) | (have:=h1 (Fc (ev f x)); omega))
theorem Qvk (L:Un) (x:Rat):vv L x<=L.length:=Qj0 x L 0
theorem JH {p:Uj} (h:Cp p):∃ l,WV p=some l/\l.length≤67/\(∀ t∈l,Va t)/\∀ a,Va a->∃ r,VT a l=some r/\Pg p a r/\∀ t,r=some t->t∈l:=by
 unfold WV;by_cases h0:p.length=0
 ·have e:p=[]:=Qj h0;subst e;exact ⟨[],rfl,by decide,(λt ht=>by cases ht),λa _=>⟨none,rfl,.inl rfl,λt ht=>by cases ht⟩⟩
 ·obtain ⟨qp,o,q1,o1,hpt⟩:=Qhx (n:=9) (s:=1110) (p:=p) ⟨⟨by decide,by decide⟩,h.t,h0,h.l,h.b⟩;obtain ⟨g,sq⟩:=hpt.sq;obtain ⟨S,hS⟩:=hpt.os;obtain ⟨p1,p2,p3,p4,p5,p6,p7⟩:=Cg h.t h0;have hpl:=h.l;obtain ⟨hh,th,eh⟩:=hpt.oh;have bo:Bd 1179 o:=ZA (p5 1110 h.b) (by omega) p1 hpt.ot th (by omega) eh;obtain ⟨lo1,lo2⟩:=Rx p1 (by omega) eh;have hlen:=Mj hpt.ot th p1 eh lo1 lo2;have oko:Okp 9 1180 o:=⟨aF,hpt.ot,by omega,by omega,U0 bo (by omega)⟩;obtain ⟨q,c,l,r1,r2,r3,hSt,hRI,hVa,hout⟩:=Qi1 oko;obtain ⟨g',q',s1,s2⟩:=YB oko;rw [r1] at s1;injection s1 with s1;subst s1;obtain ⟨_,_,_,_,_,o6,o7⟩:=Cg hpt.ot (by omega);have hg1:g'=[1]:=by
   refine s2.pg.one ?_;obtain ⟨E,hE⟩:=hpt.oq;have hE:∀ t,U7 qp t=U7 o t*ev E t:=λt=>by have:=hE t; rwa [U8,U8] at this
   obtain ⟨z,hz⟩:=s2.d;have hd1:∀ t,U7 o t=U7 g' t*(Hk o*U7 q t):=λt=>by rw [o7,s2.e]; grind
   have hdo:∀ t,dv (cz o) t=U7 g' t*(Hk o*ev z t):=λt=>by
    have:=Qft (p:=cz o) (q:=Dq (Hk o) (cz (Fg o))) (λt=>by rw [U8,Gm,U8,o7]) t;rw [this,HK,hz]; grind
   obtain ⟨k,hk,hkk⟩:=sq.num (d:=cz g') ⟨G0 (Dq (Hk o) (cz q)) E,λt=>by rw [U8,U8,hE,hd1,Ff,Gm,U8]; grind⟩ ⟨Se (G0 (Dq (Hk o) z) E) (G0 (Dq (Hk o) (cz q)) (Nz E)),λt=>by
    have:=QK (f:=cz qp) (w:=cz o) (u:=E) (λt=>by rw [U8,U8,hE]) t;rw [Ti,this,hdo,U8,U8,hd1,Gy,Ff,Ff,Gm,Gm,Ti,U8]; grind⟩
   rcases Za g'.length 2 with e | e
   ·exact e
   ·exfalso;have h1:=(TA s2.pg.t (by omega)).1;have h2:=Dk (p:=cz g') (q:=[k]) (λt=>by rw [hkk]; simp only [ev]; grind) (g'.length-1);rw [h2,Qi,Qw (by simp; omega)] at h1;exact h1 rfl
  have hpq:∀ t,ev (cz p) t=((Hk p:Rat)*(Hk o:Rat))*(ev (cz q) t*(ev S t*ev S t)):=λt=>by
   rw [U8,U8,p7,hS,o7,s2.e,hg1,Nm]; grind
  have hk0:(Hk p:Rat)*(Hk o:Rat)≠0:=λh=>(Yz.1 h).elim (XJ p6) (XJ o6)
  have hpz:¬∀ t,ev (cz p) t=0:=λh'=>TB h.t (by omega) λt=>by rw [<-U8]; exact h' t
  obtain ⟨k,hk⟩:=nmE (Fc ((Hk p:Rat)*(Hk o:Rat)));have hkn:k≠0:=λh=>hk0 (Gj.1 (by rw [<-hk]; exact h))
  have ho:o.length≠0:=by omega
  rw [o1];show ∃ l,(if o.length=0 then some [] else SR o)=some l/\l.length<=67/\_;rw [if_neg ho];have hb1:=GN (Eb s2.pq.t s2.pq.n);have hll:=hRI.len;have hlv:=Qvk (c.map cz) (-Gq q);have hcl:=(Orr.chain_ok (p:=o) ⟨hpt.ot,by omega,U0 bo (by omega)⟩ r2).1;rw [Q8] at hlv;refine ⟨l,r3,by omega,hVa,λa ha=>?_⟩;obtain ⟨r,n1,n2⟩:=Qbp hSt ha hRI hVa (λz hz=>(hout _ _ hz (.inl Qp)).symm) λz _ hz=>by
   rcases Classical.em (z=-Gq q) with e | e
   ·rw [e]
   ·exact hout z _ (by grind) (.inr Qp)
  refine ⟨r,n1,?_,λt ht=>by subst ht; exact n2.1⟩;cases r with
  |
   none =>
   obtain ⟨s,hs,hz⟩:=n2;refine .inr ⟨k*s,Jm hkn hs,λc hc hac=>?_⟩;obtain ⟨y,hy⟩:=hc.hi;have h1:RS (cz q) c s:=⟨y,hy,λz z1 _=>hz z (hac z z1)⟩;rw [hk]; exact Qi5 hc hk0 hpq hpz h1
  |
   some t =>
   obtain ⟨hm,hlt,s,hs,hz,hrs⟩:=n2;refine ⟨λe=>h0 (by rw [e]; rfl),hVa t hm,hlt,k*s,Jm hkn hs,λc hc hac ⟨m,m1,m2⟩=>?_,?_⟩
   ·have h1:RS (cz q) c s:=⟨m,m1,λz z1 z2=>hz z (hac z z1) (by
     rcases Classical.em (z=m) with e | e
     ·rw [e]; exact m2
     ·exact (hVa t hm).cut.mono' (q:=z) (r:=m) (by grind) (by omega))⟩
    rw [hk]; exact Qi5 hc hk0 hpq hpz h1
   ·have:=Qi5 (hVa t hm).cut hk0 hpq hpz hrs;rw [<-hk] at this;rw [show -(k*s)=k*-s by rw [Kn]]; exact this
structure Sz (s n:Nat) (t:Tm):Prop where
 n:t.p.length<=n
 b:Bd (s+138) t.p
 g:∃ D M k,Gr D M k t.lo/\Gr D M k t.hi/\0<M/\Fe (D:Int)<=s+138/\Fe (M:Int)<=s+139/\k<=63*s+9507
theorem Qhs {p:Uj} (h:Cp p) {a:Tm} (ha:Va a):∃ r,SV p a=some r/\Pg p a r:=by
 obtain ⟨l,l1,_,_,l3⟩:=JH h;obtain ⟨r,r1,r2,_⟩:=l3 a ha;refine ⟨r,?_,r2⟩;unfold SV;rw [l1]; exact r1
theorem HA:∀ (l:List Tm) (b:Tm),(∀ t∈b::l,Va t)->∃ m,QH b l=some m/\m∈b::l/\∀ t∈b::l,¬P0 t m
 |
  [],b,h=>⟨b,rfl,Qx ..,λt ht h'=>by
  rw [Qk.1 ht] at h';have hb:=(h b (Qx ..)).cut;exact Ik hb hb h' h'⟩
 |
  a::l,b,h=>by
  have ha:=h a (by simp);have hb:=h b (by simp);obtain ⟨c,c1,c2⟩:=WO ha hb;obtain ⟨m,m1,m2,m3⟩:=HA l (if c<0 then a else b) λt ht=>by
   rcases Qm.1 ht with rfl | ht
   ·split <;> assumption
   ·exact h t (by simp [ht])
  refine ⟨m,by simp only [QH]; rw [c1]; exact m1,?_,λt ht=>?_⟩
  ·rcases Qm.1 m2 with e | e
   ·rw [e]; split <;> simp
   ·simp [e]
  ·have hm:Va m:=by
    rcases Qm.1 m2 with e | e
    ·rw [e]; split <;> assumption
    ·exact h m (by simp [e])
   have hfst:=m3 _ (Qx ..);have tr:∀ x y:Tm,Va x->Va y->¬P0 x y->¬P0 y m->¬P0 x m:=λx y hx hy h1 h2 h3=>by
    rcases tri hy.cut hm.cut with h4 | h4 | h4
    ·exact h2 h4
    ·obtain ⟨q,q1,q2⟩:=h3;exact h1 ⟨q,q1,by rw [h4]; exact q2⟩
    ·obtain ⟨q,q1,q2⟩:=h3;obtain ⟨r,r1,r2⟩:=h4;have:=hm.cut.lt q2 r1;exact h1 ⟨q,q1,hy.cut.mono' this (by omega)⟩
   rcases Qm.1 ht with rfl | ht
   ·by_cases hc:c<0
    ·rw [if_pos hc] at hfst;refine tr _ a hb ha ?_ hfst;rcases c2 with ⟨_,h'⟩ | ⟨e,_⟩ | ⟨e,_⟩
     ·exact λh''=>Ik ha.cut hb.cut h' h''
     ·omega
     ·omega
    ·rw [if_neg hc] at hfst; exact hfst
   ·rcases Qm.1 ht with rfl | ht
    ·by_cases hc:c<0
     ·rw [if_pos hc] at hfst; exact hfst
     ·rw [if_neg hc] at hfst;refine tr _ b ha hb ?_ hfst;rcases c2 with ⟨e,_⟩ | ⟨_,h'⟩ | ⟨_,h'⟩
      ·omega
      ·rintro ⟨q,q1,q2⟩
       have:=h' q; omega
      ·exact λh''=>Ik ha.cut hb.cut h'' h'
    ·exact m3 t (by simp [ht])
end Orq
namespace Orr
open Go Go.Proofs Tryz Orq
set_option maxRecDepth 10000
theorem Dp.pb {p:Uj} (h:Dp p):Pb p:=⟨h.t,by have:=h.l; omega,U0 h.b (by have:=h.l; omega)⟩
theorem Qwk {p:Uj} {a:Tm} (hp:Dp p) (ha:Va a):Ug 203 [pr p,.agg (ta a)] [.oi (Fq a p)]:=Qlh (Dp.pb hp) ha.tb (Qjb hp ha).1
theorem Qwc {p:Uj} {a:Tm} (hp:Dp p) (ha:Va a):Ug 202 [pr p,.one (.sh (ta a))] [.oi (Fq a p)]:=Ud func202 rfl [.k (Qwk hp ha)] rfl
theorem Qmi {p:Uj} {fid:Nat} {l1:Uo} {sgn:Uj->Int} (hp:Dp p) (h:∀ p,Dp p->EN prog fid [pr p,.one (.sh l1)] [.oi (sgn p)]):Ug 201 [pr p,.one (.fn fid [] [.sh l1])] [.oi (To sgn p.length p)]:=by
 have hpb:=Dp.pb hp;refine Fw func201 rfl ?_;refine Ua [.k (Hr hpb.t hpb.ln hpb.bd)] rfl ?_;refine Uf (S:=Uj) 0 (λL1 s=>(0,.v (pr s))::L1) (λ_=>[]) (λs=>s.length) (λs=>Dp s/\To sgn s.length s=To sgn p.length p) p ⟨hp,rfl⟩ rfl rfl λr ⟨j1,j4⟩=>?_
 rw [<-j4];have jb:=Dp.pb j1;by_cases h0:r.length=0
 ·have e:=uH sgn h0;rw [e];exact Uc [.f (by simp; exact Qj h0)] rfl
 ·have hs:=h r j1;by_cases hz:sgn r=0
  ·have hlp:=M6 r;refine Ua [.t (by simp; omega),.k hs,.f (by simpa using hz),.k (Is jb.ln jb.bd)] rfl ?_;exact rd (Gu r) (by omega) ⟨j1.der,by rw [<-uG sgn (by omega) hz]⟩ rfl
  ·rw [uF sgn (by omega) hz];exact Uc [.t (by simp; omega),.k hs,.t (by simpa using hz)] rfl
abbrev gmA (a:Tm) (p:Uj):Int:=Hg (Fq a) p
theorem TM {p:Uj} {a:Tm} (hp:Dp p) (ha:Va a):Ug 168 [pr p,.agg (ta a)] [.oi (gmA a p)] :=
 Ud func168 rfl [.k (Qmi (sgn:=Fq a) hp λ_ h=>Qwc h ha)] rfl
theorem kR {t:Tm} {a b:Pt} {ps:Uk} (hps:∀ p∈ps,Dp p) (ht:Va t) (hl:ps.length<1000):Ug 237 [.agg (ta t),.agg (Fa a),.agg (Fa b),.one (.row (S0 ps))] [.one (.bool (Ln (Fq t) a b ps))]:=by
 refine Fw func237 rfl ?_;have hpl:(S0 ps).length=ps.length:=by simp [S0]
 refine Ua [] rfl ?_;refine Uf (S:=Nat) 3 (λL1 i=>(13,.v (.oi i))::L1) (λ_=>[.blk 177 (ta t),.blk 40 (Fa a),.blk 40 (Fa b)]) (λi=>ps.length-i) (λi=>i<=ps.length/\Ln (Fq t) a b (ps.drop i)=Ln (Fq t) a b ps) 0 ⟨Qh _,rfl⟩ rfl rfl λi ⟨hi,he⟩=>?_
 rw [<-he];by_cases hlt:i<ps.length
 ·obtain ⟨p,hp⟩:=gxE (l:=ps) (i:=i) hlt;have hd:ps.drop i=p::ps.drop (i+1):=by
   rw [Zu hlt];rw [Qe hlt] at hp; injection hp with hp; rw [hp]
  have hpb:=hps p (Qa hp);rw [hd] at he ⊢;by_cases h0:0<p.length
  ·exact Uc [.t (by simp [hpl]; omega),.x (Rj hp),.t (by simp; omega),.k (TM hpb ht)] rfl (by simp only [Ln]; rw [if_pos h0]) trivial
  ·refine Ub [.t (by simp [hpl]; omega),.x (Rj hp),.f (by simp; exact Qj (by omega))] rfl ?_;exact rd (i+1) (by omega) ⟨hlt,by simp only [Ln]; rw [if_neg h0]⟩ rfl
 ·have hd:ps.drop i=[]:=Yq (by omega);rw [hd];exact Uc [.f (by simp [hpl]; omega)] rfl
structure Sc (k:Crv):Prop where
 n:JP k
 c:Cs 128 3 k
theorem Sc.cb {k:Crv} (h:Sc k):Cb k:=h.c.mono (by omega) (by omega)
theorem M3 {a b:Crv} (ha:Sc a) (hb:Sc b):Cp (Gg a b):=by
 refine ⟨Fv _ _,?_,U0 (Dd (Gd hb.c.x ha.c.d) (Gd ha.c.x hb.c.d)) (by omega)⟩;have:=M7 (Ft b.x a.d) (Ft a.x b.d);have:=Fx b.x a.d; have:=Fx a.x b.d; have:=ha.c.lx; have:=hb.c.lx;unfold Gg; omega
theorem Mz {a b:Crv} (ha:Sc a) (hb:Sc b):Cp (Gf a b):=by
 refine ⟨Fv _ _,?_,U0 (Dd (Gd hb.c.y ha.c.d) (Gd ha.c.y hb.c.d)) (by omega)⟩;have:=M7 (Ft b.y a.d) (Ft a.y b.d);have:=Fx b.y a.d; have:=Fx a.y b.d; have:=ha.c.ly; have:=hb.c.ly;unfold Gf; omega
theorem Qli {a b:Pt} {t:Tm} (ha:Sc a.c) (hb:Sc b.c) (ht:Va t):Ug 193 [.agg (Fa a),.agg (Fa b),.agg (ta t)] [.one (.bool (By (Fq t) a b))] :=
 Ud func193 rfl [.k (WM hb.n ha.n hb.cb ha.cb),.k (WC hb.n ha.n hb.cb ha.cb),.k (kR (t:=t) (a:=a) (b:=b) (ps:=[Gf b.c a.c,Gg b.c a.c]) (λp hp=>by
  simp at hp;rcases hp with rfl | rfl
  ·exact (Mz hb ha).dp
  ·exact (M3 hb ha).dp) ht (show 2<1000 by decide))] rfl
theorem Qde {a b:Pt} {t:Tm} (ha:Sc a.c) (hb:Sc b.c) (ht:Va t):Ug 192 [.agg (Fa a),.agg (Fa b),.agg (ta t)] [.one (.bool (Tk (Fq t) a b))] :=
 Ud func192 rfl [.k (WC ha.n hb.n ha.cb hb.cb),.k (WM ha.n hb.n ha.cb hb.cb),.k (kR (t:=t) (a:=a) (b:=b) (ps:=[Gg a.c b.c,Gf a.c b.c]) (λp hp=>by
  simp at hp;rcases hp with rfl | rfl
  ·exact (M3 ha hb).dp
  ·exact (Mz ha hb).dp) ht (show 2<1000 by decide))] rfl
theorem Qrl (q:Rat) {P:Prop} (h:(tq q).point=false):P:=by
 have e:(tq q).point=true:=Ml.2 Qp;rw [e] at h; cases h
theorem Qt2 (q:Rat):lim (tq q)=3300000:=by unfold lim; rw [if_pos (Ml.2 Rat.le_refl)]
theorem GZ {q:Rat} (hq:Qs 1640000 q):Va (tq q):=by
 have hd:=q.den_nz;refine ⟨.inl ⟨rfl,?_⟩,iN q,by show 2<=9; omega,by show 2<=2; omega,Qv5 (hq.mono (by omega)),Qrl q,Qrl q,q.den,q.num.natAbs+1,0,?_,?_,by omega,?_⟩
 ·have e:(q.num:Rat)=q*(q.den:Rat):=by
   have:(q.num:Rat) / (((q.den:Int)):Rat)=q:=by rw [H6,Z4]
   have h2:(q.num:Rat) / (q.den:Rat)*(q.den:Rat)=q.num:=Zf (by have:=Orq.nat_pos q.den_pos; grind);rw [show (q.num:Rat) / (q.den:Rat)=q from this] at h2; exact h2.symm
  show U7 [-q.num,(q.den:Int)] q=0;simp only [U7];rw [Vm,e,show (((q.den:Int)):Rat)=(q.den:Rat) from rfl]; grind
 all_goals first | (have h1:Fe (q.den:Int)<=1640000:=hq.2; have h2:Fe ((q.num.natAbs+1:Nat):Int)<=1640001:=Qbh hq.1; rw [Qt2]; omega) | skip
 all_goals
  refine ⟨⟨q.num,?_⟩,?_,q.den_pos⟩
  ·rw [Vb,Ys];have:(q.num:Rat) / (((q.den:Int)):Rat)=q:=by rw [H6,Z4]
   have h2:(q.num:Rat) / (q.den:Rat)*(q.den:Rat)=q.num:=Zf (by have:=Orq.nat_pos q.den_pos; grind);rw [show (q.num:Rat) / (q.den:Rat)=q from this] at h2; exact h2
  ·have h1:Fh q<=Fh (q.num:Rat):=by
    have e:(q.num:Rat)=q*(q.den:Rat):=by
     have:(q.num:Rat) / (((q.den:Int)):Rat)=q:=by rw [H6,Z4]
     have h2:(q.num:Rat) / (q.den:Rat)*(q.den:Rat)=q.num:=Zf (by have:=Orq.nat_pos q.den_pos; grind);rw [show (q.num:Rat) / (q.den:Rat)=q from this] at h2; exact h2.symm
    rw [e,Ib];have hd1:(1:Rat)<=(q.den:Rat):=by
     have:((1:Nat):Rat)<=(q.den:Rat):=Zm.2 q.den_pos;exact this
    have e2:Fh (q.den:Rat)=(q.den:Rat):=by unfold Fh; rw [if_neg (by grind)]
    rw [e2];have:=Cd (a:=Fh q) (c:=1) (Hp q) Qp (by decide) hd1;grind
   rw [Sj] at h1;refine Zh h1 (Zm.2 (by omega))
theorem YX {p q:Uj} (hp:Cp p) (hq:Cp q):Cp (Lj p q):=by unfold Lj; split <;> assumption
theorem cA {a b:Pt} {t:Tm} (ha:Sc a.c) (hb:Sc b.c) (ht:Va t):Ug 163 [.oi 1,.agg (ta t),.one (.row [Fa a,Fa b])] [.agg (Da (QP (Fq t) a b)),.oi 0]:=by
 have h1:=M3 ha hb;have h2:=Mz ha hb;refine Fw func163 rfl ?_;refine Ua [.k Qak,.f rfl] rfl ?_;refine Uf (S:=Nat) 3 (λL1 i=>(22,.v (.oi i))::L1) (λi=>[.blk 177 (ta t),.blk 120 zCt,.blk 120 [.int .i64 1,.int .i64 (if 1<=i then a.id else 0),.int .i64 (if 2<=i then b.id else 0),.int .i64 0,.int .i64 0,.nils,.int .i64 0]]) (λi=>2-i) (λi=>i<=2) 0 (Qh _) rfl rfl λi hi=>?_
 rcases (show i=0\/i=1\/i=2 by omega) with rfl | rfl | rfl
 ·refine Ua [.t rfl,.x (i:=0) (xs:=Fa a) rfl,.i 0] rfl ?_ (by simp [Uz]);exact rd 1 (by omega) (by omega) rfl
 ·refine Ua [.t rfl,.x (i:=1) (xs:=Fa b) rfl,.i 1] rfl ?_ (by simp [Uz]);exact rd 2 (by omega) (by omega) rfl
 ·exact Uc [.f rfl,.t rfl,.x (i:=0) (xs:=Fa a) rfl,.x (i:=1) (xs:=Fa b) rfl,.k (WC ha.n hb.n ha.cb hb.cb),.x (i:=0) (xs:=Fa a) rfl,.x (i:=1) (xs:=Fa b) rfl,.k (WM ha.n hb.n ha.cb hb.cb),.k kW,.k (TM (YX h1 h2).dp ht)] rfl
end Orr
namespace Orr
variable {α:Type}
def Lo (lt:α->α->Bool) (out:List α) (x:α):Nat->Nat
 | 0=>0
 |
  k+1=>match out[k]? with
  | some y=>if lt x y=true then Lo lt out x k else k+1
  | none=>k+1
theorem yJ (lt:α->α->Bool) (out:List α) (x:α):∀ k,Lo lt out x k<=k
 | 0=>Ql _
 |
  k+1=>by
  simp only [Lo]
  split
  ·split
   ·exact Nat.le_succ_of_le (yJ lt out x k)
   ·exact Ql _
  ·exact Ql _
theorem aB {lt:α->α->Bool} {out:List α} {x y:α} {k:Nat} (hx:out[k]? = some y) (h:lt x y=true):Lo lt out x (k+1)=Lo lt out x k:=by
 simp only [Lo,hx,h,if_true]
theorem gV {lt:α->α->Bool} {out:List α} {x y:α} {k:Nat} (hx:out[k]? = some y) (h:lt x y=false):Lo lt out x (k+1)=k+1:=by
 simp [Lo,hx,h]
def Lk (lt:α->α->Bool) (out:List α) (x:α):List α:=out.take (Lo lt out x out.length)++x::out.drop (Lo lt out x out.length)
theorem Qgy (lt:α->α->Bool) (out:List α) (x:α):(Lk lt out x).length=out.length+1:=by
 have:=yJ lt out x out.length;simp [Lk]; omega
theorem UP {lt:α->α->Bool} {out:List α} {x y:α}:y∈Lk lt out x↔y=x\/y∈out:=by
 have h:y∈out↔y∈out.take (Lo lt out x out.length)\/y∈out.drop (Lo lt out x out.length):=by
  rw [<-Qq,Zk]
 simp only [Lk,Qq,Qm,h];constructor
 ·rintro (h | h | h)
  ·exact .inr (.inl h)
  ·exact .inl h
  ·exact .inr (.inr h)
 ·rintro (h | h | h)
  ·exact .inr (.inl h)
  ·exact .inl h
  ·exact .inr (.inr h)
def Lx (lt:α->α->Bool) (l:List α):List α:=l.foldl (Lk lt) []
theorem bN (lt:α->α->Bool) (l:List α) (x:α):Lx lt (l++[x])=Lk lt (Lx lt l) x:=by simp [Lx,Vq]
theorem bC {lt:α->α->Bool} {l:List α} {i:Nat} {x:α} (h:l[i]? = some x):Lx lt (l.take (i+1))=Lk lt (Lx lt (l.take i)) x:=by
 rw [Zv,h]; exact bN _ _ _
theorem CN (lt:α->α->Bool):∀ (l acc:List α),(l.foldl (Lk lt) acc).length=acc.length+l.length
 | [],acc=>by simp
 | c::l,acc=>by simp only [Z9]; rw [CN lt l (Lk lt acc c),Qgy]; simp; omega
theorem qI (lt:α->α->Bool) (l:List α):(Lx lt l).length=l.length:=by unfold Lx; rw [CN]; simp
theorem KV (lt:α->α->Bool):∀ (l acc:List α) {y:α},y∈l.foldl (Lk lt) acc↔y∈l\/y∈acc
 | [],acc,y=>by simp
 |
  c::l,acc,y=>by
  simp only [Z9];rw [KV lt l,UP,Qm];constructor
  ·rintro (h | h | h)
   ·exact .inl (.inr h)
   ·exact .inl (.inl h)
   ·exact .inr h
  ·rintro ((h | h) | h)
   ·exact .inr (.inl h)
   ·exact .inl h
   ·exact .inr (.inr h)
theorem Qca {lt:α->α->Bool} {l:List α} {y:α}:y∈Lx lt l↔y∈l:=by
 unfold Lx; rw [KV]; simp
end Orr
namespace Orr
open Go Orq
structure Wt where
 c:Ct
 known:Bool
 fails:Option Tm
def f0:Option Tm->LV | none=>.row [] | some t=>pl t.p
def f1:Option Tm->LV | none=>.bool false | some t=>sg t.lo.num
def f2:Option Tm->LV | none=>.row [] | some t=>mg t.lo.num
def f3:Option Tm->LV | none=>.bool false | some t=>sg (t.lo.den:Int)
def f4:Option Tm->LV | none=>.row [] | some t=>mg (t.lo.den:Int)
def f5:Option Tm->LV | none=>.bool false | some t=>sg t.hi.num
def f6:Option Tm->LV | none=>.row [] | some t=>mg t.hi.num
def f7:Option Tm->LV | none=>.bool false | some t=>sg (t.hi.den:Int)
def f8:Option Tm->LV | none=>.row [] | some t=>mg (t.hi.den:Int)
abbrev fl (o:Option Tm):Uo:=[f0 o,f1 o,f2 o,f3 o,f4 o,f5 o,f6 o,f7 o,f8 o]
abbrev wl (w:Wt):Uo:=[.int .i64 w.c.kind,.int .i64 w.c.i0,.int .i64 w.c.i1,.int .i64 w.c.i2,.int .i64 w.c.i3,pl w.c.p,.int .i64 w.c.want,.bool w.known,.bool w.fails.isSome,f0 w.fails,f1 w.fails,f2 w.fails,f3 w.fails,f4 w.fails,f5 w.fails,f6 w.fails,f7 w.fails,f8 w.fails]
def Bu (l:List Wt):Up:=l.map λw=>wl w
theorem Hn {l:List Wt} {i:Nat} {w:Wt} (h:l[i]? = some w):(Bu l)[i]? = some (wl w):=Gt h
theorem Tf (l:List Wt):(Bu l).length=l.length:=by simp [Bu]
structure Cr where
 now:Tm
 l:List Wt
 ev:Int
abbrev Hq (c:Cr) (r0 r1:Up):Uo:=.bool true::pl c.now.p::sg c.now.lo.num::mg c.now.lo.num::sg (c.now.lo.den:Int)::mg (c.now.lo.den:Int)::sg c.now.hi.num::mg c.now.hi.num::sg (c.now.hi.den:Int)::mg (c.now.hi.den:Int)::.row (Bu c.l)::.int .i64 c.ev::[.row r0,.row r1]
structure WtOk (w:Wt):Prop where
 p:Cp w.c.p
 f:∀ t,w.fails=some t->Va t
structure CrOk (c:Cr):Prop where
 n:Va c.now
 l:∀ w∈c.l,WtOk w
 k:c.l.length<=1000
def rF (a b:Ct):Bool:=decide ([a.kind,a.i0,a.i1,a.i2,a.i3]=[b.kind,b.i0,b.i1,b.i2,b.i3])
def fresh (x:Ct):Wt:=⟨x,false,none⟩
def Ca:List Wt->Ct->Tm->Option Wt
 | [],x,_=>some (fresh x)
 |
  w::l,x,at_=>if rF w.c x=true/\w.known=true/\w.c.p=x.p then
   match w.fails with
   | none=>some ⟨x,true,none⟩
   | some t=>(WI t at_).bind λc=>if 0<c then some ⟨x,true,some t⟩ else Ca l x at_
  else Ca l x at_
def P6 (old:List Wt) (at_:Tm):List Ct->Option (List Wt)
 | []=>some []
 | x::l=>(Ca old x at_).bind λw=>(P6 old at_ l).bind λr=>some (w::r)
end Orr
namespace Orr
open Go Go.Proofs Tryz Orq
set_option maxRecDepth 10000
theorem O6 {T:Nat} {c:Cr} {r0 r1:Up} (hc:Va c.now):U5 prog 369 [.one (.ow 0 0)] [.blk T (Hq c r0 r1)] [.agg (ta c.now)] [.blk T (Hq c r0 r1)]:=by
 have cl:=Sw (b:=c.now) (l:=[]) hc.tb (λt ht=>by cases ht) (by decide) rfl;refine Fw func369 rfl ?_;exact Ue [] [0] [.f rfl,.k cl] rfl
theorem WN {T:Nat} {c:Cr} {r0 r1:Up} (hc:CrOk c):U5 prog 359 [.one (.ow 0 0)] [.blk T (Hq c r0 r1)] [.one (.row (U6 (Fp (c.l.map (·.c)))))] [.blk T (Hq c r0 r1)]:=by
 have hk:=hc.k;have hw:=Tf c.l;refine Fw func359 rfl ?_;refine Ua [.o 3 120 7] rfl ?_;refine Uf (S:=Nat) 2 (λL1 i=>(11,.v (.oi i))::(3,.v (.one (.orow 1 7 none)))::L1) (λi=>[.blk T (Hq c r0 r1),.row false 120 7 (U6 ((c.l.map (·.c)).take i))]) (λi=>c.l.length-i) (λi=>i<=c.l.length) 0 (Qh _) rfl rfl λi hi=>?_
 by_cases hlt:i<c.l.length
 ·obtain ⟨x,hx⟩:=gxE (l:=c.l) (i:=i) hlt;have hm:∀ y∈[Da x.c],y.length=7:=λy hy=>by rw [Qk.1 hy]; rfl
  have hg:(c.l.map (·.c)).take (i+1)=(c.l.map (·.c)).take i++[x.c]:=by
   rw [Zv,Q6,hx]; rfl
  have hl:decide ((i:Int)<((Bu c.l).length:Int))=true:=by simp [hw]; omega
  obtain ⟨xc,xk,xf⟩:=x;cases xf <;> (refine go tt [.t hl,.x (Hn hx),.s (sz:=7) hm] rfl (by simp [Uz,Pa]; omega) ?_; exact rd (i+1) (by omega) hlt (by rw [hg]; simp [U6]; rfl))
 ·obtain rfl:i=c.l.length:=by omega
  have e:(c.l.map (·.c)).take c.l.length=c.l.map (·.c):=Qn (by simp);rw [e];have cs:=GA (l:=c.l.map (·.c)) (λx hx=>by
   obtain ⟨w,hw,rfl⟩:=Q9.1 hx;exact Dp.pb (hc.l w hw).p.dp) (by simp; omega)
  exact Ue [] [0] [.f (by simp [hw]),.k cs] rfl
theorem Qsa {T:Nat} {c:Cr} {r0 r1:Up} {x:Ct} {at_:Tm} {w:Wt} (hc:CrOk c) (hx:Cp x.p) (ha:Va at_) (h:Ca c.l x at_=some w):U5 prog 184 [.one (.ow 0 0),.agg (Da x),.agg (ta at_)] [.blk T (Hq c r0 r1)] [.agg (wl w)] [.blk T (Hq c r0 r1)]:=by
 have hk:=hc.k;have hw:=Tf c.l;refine Fw func184 rfl ?_;refine Ua [] rfl ?_;refine Uf (S:=Nat) 4 (λL1 i=>(14,.v (.oi i))::L1) (λ_=>[.blk T (Hq c r0 r1),.blk 120 (Da x),.blk 177 (ta at_),.blk 280 [.int .i64 0,.int .i64 0,.int .i64 0,.int .i64 0,.int .i64 0,.nils,.int .i64 0,.bool false,.bool false,.nils,.bool false,.nils,.bool false,.nils,.bool false,.nils,.bool false,.nils]]) (λi=>c.l.length-i) (λi=>i<=c.l.length/\Ca (c.l.drop i) x at_=some w) 0 ⟨Qh _,h⟩ rfl rfl λi ⟨hi,hf⟩=>?_
 by_cases hlt:i<c.l.length
 ·obtain ⟨v,hv⟩:=gxE (l:=c.l) (i:=i) hlt;have hdr:c.l.drop i=v::c.l.drop (i+1):=by
   rw [Zu hlt]; congr 1;have:=Qe hlt; rw [hv] at this; injection this with this; exact this.symm
  have hvo:=hc.l v (Qa hv);rw [hdr] at hf;simp only [Ca] at hf;have hl:decide ((i:Int)<((Bu c.l).length:Int))=true:=by simp [hw]; omega
  by_cases A:rF v.c x=true
  ·have A':(!decide ([v.c.kind,v.c.i0,v.c.i1,v.c.i2,v.c.i3]=[x.kind,x.i0,x.i1,x.i2,x.i3]))=false:=by
    unfold rF at A; rw [A]; rfl
   by_cases B:v.known=true
   ·have B':(!v.known)=false:=by rw [B]; rfl
    have cs:=PM (p:=v.c.p) (q:=x.p) (Dp.pb hvo.p.dp).ln (Dp.pb hx.dp).ln (Dp.pb hvo.p.dp).bd (Dp.pb hx.dp).bd;rw [hvo.p.t,hx.t] at cs;by_cases C:v.c.p=x.p
    ·have C':(!decide (v.c.p=x.p))=false:=by simp [C]
     rw [if_pos ⟨A,B,C⟩] at hf;obtain ⟨vc,vk,vf⟩:=v;cases vf with
     |
      none =>
      injection hf with hf; subst hf;exact Ue [] [0] [.t hl,.x (Hn hv),.g 24 false A',.g 29 false B',.k cs,.f C',.g 41 true rfl,.t rfl] rfl
     |
      some t =>
      obtain ⟨r,r1',hf⟩:=Qd.1 hf;have cc:=VE (hvo.f t rfl).tb ha.tb r1';by_cases D:0<r
      ·rw [if_pos D] at hf;injection hf with hf; subst hf;exact Ue [] [0] [.t hl,.x (Hn hv),.g 24 false A',.g 29 false B',.k cs,.f C',.g 41 false rfl,.k cc,.t (by simpa using D)] rfl
      ·rw [if_neg D] at hf;refine Ub [.t hl,.x (Hn hv),.g 24 false A',.g 29 false B',.k cs,.f C',.g 41 false rfl,.k cc,.f (by simpa using D)] rfl ?_;exact rd (i+1) (by omega) ⟨hlt,hf⟩ rfl
    ·rw [if_neg λh=>C h.2.2] at hf;refine Ub [.t hl,.x (Hn hv),.g 24 false A',.g 29 false B',.k cs,.t (by simp [C])] rfl ?_;exact rd (i+1) (by omega) ⟨hlt,hf⟩ rfl
   ·rw [if_neg λh=>B h.2.1] at hf;refine Ub [.t hl,.x (Hn hv),.g 24 false A',.g 29 true (by simpa using B),.t rfl] rfl ?_;exact rd (i+1) (by omega) ⟨hlt,hf⟩ rfl
  ·rw [if_neg λh=>A h.1] at hf;refine Ub [.t hl,.x (Hn hv),.g 24 true (by rw [show decide ([v.c.kind,v.c.i0,v.c.i1,v.c.i2,v.c.i3]=[x.kind,x.i0,x.i1,x.i2,x.i3])=false from Ws.2 A]; rfl),.g 29 true rfl,.t rfl] rfl ?_;exact rd (i+1) (by omega) ⟨hlt,hf⟩ rfl
 ·obtain rfl:i=c.l.length:=by omega
  rw [Y8] at hf;simp only [Ca] at hf;injection hf with hf; subst hf;exact Ue [] [0] [.f (by simp [hw])] rfl
theorem XW {old:List Wt} {at_:Tm}:∀ {l:List Ct} {ws:List Wt},P6 old at_ l=some ws->ws.length=l.length/\∀ (i:Nat) (x:Ct),l[i]? = some x->∃ w,Ca old x at_=some w/\ws[i]? = some w
 | [],ws,h=>by injection h with h; subst h; exact ⟨rfl,λi x hx=>by simp at hx⟩
 |
  y::l,ws,h=>by
  simp only [P6] at h;obtain ⟨w,hw,h⟩:=Qd.1 h;obtain ⟨r,hr,h⟩:=Qd.1 h;injection h with h; subst h;obtain ⟨a,b⟩:=XW hr;refine ⟨by simp [a],λi x hx=>?_⟩;cases i with
  | zero=>injection hx with hx; subst hx; exact ⟨w,hw,rfl⟩
  | succ i=>exact b i x (by simpa using hx)
theorem Ev {l:List Wt} {i:Nat} {w:Wt} (h:l[i]? = some w):Bu (l.take (i+1))=Bu (l.take i)++[wl w]:=by
 rw [Zv,h]; simp [Bu]
theorem WB {T:Nat} {c:Cr} {r0 r1:Up} {at_:Tm} {l:List Ct} {ws:List Wt} (hc:CrOk c) (ha:Va at_) (hl:∀ x∈l,Cp x.p) (hn:l.length≤1000) (h:P6 c.l at_ (Fp l)=some ws):U5 prog 157 [.one (.ow 0 0),.agg (ta at_),.one (.bool true),.one (.row (U6 l))] [.blk T (Hq c r0 r1)] [] [.blk T (Hq ⟨at_,ws,c.ev⟩ r0 r1)]:=by
 have cs:=GA (l:=l) (λx hx=>Dp.pb (hl x hx).dp) (by omega);have cl:=Sw (b:=at_) (l:=[]) ha.tb (λt ht=>by cases ht) (by decide) rfl;obtain ⟨h1,h2⟩:=XW h;have hs:(Fp l).length=l.length:=Mn l;refine Fw func157 rfl ?_;refine Ua [.o 8 280 18,.k cs] rfl ?_;refine Uf (S:=Nat) 3 (λL1 i=>(15,.v (.oi i))::(8,.v (.one (.orow 2 18 none)))::L1) (λi=>[.blk T (Hq c r0 r1),.blk 177 (ta at_),.row false 280 18 (Bu (ws.take i))]) (λi=>ws.length-i) (λi=>i<=ws.length) 0 (Qh _) rfl rfl λi hi=>?_
 by_cases hlt:i<ws.length
 ·obtain ⟨x,hx⟩:=gxE (l:=(Fp l)) (i:=i) (by omega);obtain ⟨w,hw,hw'⟩:=h2 i x hx;have hm:∀ y∈[wl w],y.length=18:=λy hy=>by rw [Qk.1 hy]; rfl
  have hlt':decide ((i:Int)<((U6 (Fp l)).length:Int))=true:=by simp [U6]; omega
  have ck:=Qsa (T:=T) (r0:=r0) (r1:=r1) hc (hl x (Rv (Qa hx))) ha hw;have hg:=Ev hw';obtain ⟨wc,wk,wf⟩:=w;cases wf <;> (refine go tt [.t hlt',.x (ZN hx),.t rfl,.c [0] ck,.s (sz:=18) hm] rfl (by simp [Uz,Tf]; omega) ?_; exact rd (i+1) (by omega) hlt (by rw [hg]; rfl))
 ·obtain rfl:i=ws.length:=by omega
  rw [Q5];have hge:decide ((ws.length:Int)<((U6 (Fp l)).length:Int))=false:=by simp [U6]; omega
  exact Ue [] [0] [.f hge,.p 2,.k cl] rfl
abbrev pV (r0 r1:LV):Uo:=[.bool false,.nils,.bool false,.nils,.bool false,.nils,.bool false,.nils,.bool false,.nils,.nils,.int .i64 0,r0,r1]
theorem Qls {T:Nat} {r0 r1:Up} {at_:Tm} {l:List Ct} (ha:Va at_) (hl:∀ x∈l,Cp x.p) (hn:l.length≤1000):U5 prog 157 [.one (.ow 0 0),.agg (ta at_),.one (.bool false),.one (.row (U6 l))] [.blk T (pV (.row r0) (.row r1))] [] [.blk T (Hq ⟨at_,(Fp l).map fresh,0⟩ r0 r1)]:=by
 have cs:=GA (l:=l) (λx hx=>Dp.pb (hl x hx).dp) (by omega);have cl:=Sw (b:=at_) (l:=[]) ha.tb (λt ht=>by cases ht) (by decide) rfl;have hs:(Fp l).length=l.length:=Mn l;refine Fw func157 rfl ?_;refine Ua [.o 8 280 18,.k cs] rfl ?_;refine Uf (S:=Nat) 3 (λL1 i=>(15,.v (.oi i))::(8,.v (.one (.orow 2 18 none)))::L1) (λi=>[.blk T (pV (.row r0) (.row r1)),.blk 177 (ta at_),.row false 280 18 (Bu (((Fp l).map fresh).take i))]) (λi=>l.length-i) (λi=>i<=l.length) 0 (Qh _) rfl rfl λi hi=>?_
 by_cases hlt:i<l.length
 ·obtain ⟨x,hx⟩:=gxE (l:=(Fp l)) (i:=i) (by omega);have hm:∀ y∈[wl (fresh x)],y.length=18:=λy hy=>by rw [Qk.1 hy]; rfl
  have hlt':decide ((i:Int)<((U6 (Fp l)).length:Int))=true:=by simp [U6]; omega
  have hg:=Ev (l:=(Fp l).map fresh) (i:=i) (w:=fresh x) (by rw [Q6,hx]; rfl);refine go tt [.t hlt',.x (ZN hx),.z 20,.f rfl,.s (sz:=18) hm] rfl (by simp [Uz,Tf]; omega) ?_;exact rd (i+1) (by omega) hlt (by rw [hg]; rfl)
 ·obtain rfl:i=l.length:=by omega
  rw [Qn (by simp; omega)];have hge:decide ((l.length:Int)<((U6 (Fp l)).length:Int))=false:=by simp [U6]; omega
  exact Ue [] [0] [.f hge,.p 2,.k cl] rfl
theorem JC {T:Nat} {r0 r1:Up} {at_:Tm} {l:List Ct} (ha:Va at_) (hl:∀ x∈l,Cp x.p) (hn:l.length≤1000):U5 prog 127 [.one (.ow 0 0),.agg (ta at_),.one (.row (U6 l))] [.blk T (pV (.row r0) (.row r1))] [] [.blk T (Hq ⟨at_,(Fp l).map fresh,0⟩ r0 r1)]:=by
 have cl:=Qls (T:=T) (r0:=r0) (r1:=r1) ha hl hn;refine Fw func127 rfl ?_;exact Ue [] [0] [.g 12 false rfl,.c [0] cl] rfl
theorem eB {a b:Bool} (h:a=b):TV.one (LV.bool a)=.one (.bool b):=h ▸ rfl
theorem JD {T:Nat} {c:Cr} {r0 r1:Up} {at_:Tm} {l:List Ct} {ws:List Wt} {k:Int} (hc:CrOk c) (ha:Va at_) (hk:WI at_ c.now=some k) (h0:0≤k) (hl:∀ x∈l,Cp x.p) (hn:l.length≤1000) (h:P6 c.l at_ (Fp l)=some ws):U5 prog 127 [.one (.ow 0 0),.agg (ta at_),.one (.row (U6 l))] [.blk T (Hq c r0 r1)] [] [.blk T (Hq ⟨at_,ws,c.ev⟩ r0 r1)]:=by
 have cl:=WB (T:=T) (r0:=r0) (r1:=r1) hc ha hl hn h;have cc:=VE ha.tb hc.n.tb hk;refine Fw func127 rfl ?_;exact Ue [] [0] [.g 12 true rfl,.k cc,.r 20 (eB (show decide (0<=k)=true by simpa using h0)),.c [0] cl] rfl
theorem MW:∀ {k:Nat} {g:Uj} {l:Uk},Pb g->HE k g=some l->l.length≤k/\∀ p∈l,Pb p
 | 0,_,_,_,h=>by cases h
 |
  k+1,g,l,hg,h=>by
  simp only [HE] at h
  split at h
  ·injection h with h; subst h; exact ⟨by simp,λp hp=>by cases hp⟩
  ·obtain ⟨d,hd,h⟩:=Qd.1 h;obtain ⟨rfl,hdp⟩:=LQ hd;obtain ⟨x,hx,h⟩:=Qd.1 h;obtain ⟨q,hq,h⟩:=Qd.1 h;obtain ⟨r,hr,h⟩:=Qd.1 h;injection h with h; subst h;obtain ⟨i1,i2⟩:=MW (RG hg hdp hx) hr;refine ⟨by simp; exact i1,λp hp=>?_⟩;rcases Qm.1 hp with rfl | hp
   ·exact nX hq
   ·exact i2 p hp
theorem Qen {a:Uj} {l:Uk} (ha:Pb a) (h:HE 66 (Fg a)=some l):Ug 383 [pr a] [.one (.row (S0 l))]:=by
 have hp:=Rp ha;refine Fw func383 rfl ?_;refine Ua [.o 3 33 1,.k (Az ha)] rfl ?_;refine Uf (S:=Nat×Uk×Uj) 1 (λL1 s=>(4,.v (pr s.2.2))::(3,.v (.one (.orow 0 1 none)))::L1) (λs=>[.row false 33 1 (S0 s.2.1)]) (λs=>s.1) (λs=>Pb s.2.2/\s.2.1.length+s.1<=66/\∃ m,HE s.1 s.2.2=some m/\s.2.1++m=l) (66,[],Fg a) ⟨hp,Ql _,l,h,rfl⟩ rfl rfl λ⟨k,out,g⟩ ⟨j1,j2,m,j3,j4⟩=>?_
 dsimp only at j1 j2 j3 j4 ⊢;cases k with
 | zero=>cases j3
 |
  succ k =>
  simp only [HE] at j3
  split at j3
  ·rename_i h0;injection j3 with j3; subst j3;rw [Zw] at j4;subst j4;exact Uc [.k (Mq _),.f (by simp; omega)] rfl
  ·rename_i h0;obtain ⟨d,hd,j3⟩:=Qd.1 j3;obtain ⟨rfl,hdp⟩:=LQ hd;obtain ⟨x,hx,j3⟩:=Qd.1 j3;obtain ⟨q,hq,j3⟩:=Qd.1 j3;obtain ⟨r,hr,j3⟩:=Qd.1 j3;injection j3 with j3; subst j3;have hxp:=RG j1 hdp hx;refine go tt [.k (Mq _),.t (by simp; omega),.k (Is j1.ln j1.bd),.k (dS j1 hdp hx),.k (Qez j1 hxp hq),.s (sz:=1) (l:=[[pl q]]) (λc hc=>by rw [Qk.1 hc]; rfl)] rfl (by simp [Uz,Er]; omega) ?_;exact rd (k,out++[q],x) (by dsimp only; omega) ⟨hxp,by simp; omega,r,hr,by rw [<-j4]; simp⟩ (by rw [LK]; rfl)
theorem CV:∀ {l r:Uk},EE l=some r->r.length=l.length/\∀ i w,l[i]? = some w->(match l[i+1]? with | some v=>∃ f,XI w v=some f/\r[i]? = some f | none=>r[i]? = some w)
 | [],r,h=>by injection h with h; subst h; exact ⟨rfl,λi w hw=>by simp at hw⟩
 |
  [w],r,h=>by
  injection h with h; subst h;refine ⟨rfl,λi x hx=>?_⟩;cases i with
  | zero=>simpa using hx
  | succ i=>simp at hx
 |
  w::v::l,r,h=>by
  simp only [EE] at h;obtain ⟨f,hf,h⟩:=Qd.1 h;obtain ⟨s,hs,h⟩:=Qd.1 h;injection h with h; subst h;obtain ⟨i1,i2⟩:=CV hs;refine ⟨by simp [i1],λi x hx=>?_⟩;cases i with
  |
   zero =>
   injection hx with hx; subst hx;exact ⟨f,hf,rfl⟩
  |
   succ i =>
   have:=i2 i x (by simpa using hx);simpa using this
theorem xN:∀ {l r:Uk},(∀ p∈l,Pb p)->EE l=some r->∀ p∈r,Pb p
 | [],r,_,h=>by injection h with h; subst h; exact λp hp=>by cases hp
 | [w],r,hl,h=>by injection h with h; subst h; exact hl
 |
  w::v::l,r,hl,h=>by
  simp only [EE] at h;obtain ⟨f,hf,h⟩:=Qd.1 h;obtain ⟨s,hs,h⟩:=Qd.1 h;injection h with h; subst h;intro p hp;rcases Qm.1 hp with rfl | hp
  ·exact nX hf
  ·exact xN (λp hp=>hl p (Qg _ hp)) hs p hp
theorem oL {a:Uj} {l r:Uk} (ha:Pb a) (h:HE 66 (Fg a)=some l) (hr:EE l=some r):Ug 378 [pr a] [.one (.row (S0 r))]:=by
 obtain ⟨i1,i2⟩:=MW (Rp ha) h;obtain ⟨j1,j2⟩:=CV hr;have hw:=Er l;refine Fw func378 rfl ?_;refine go tt [.k (Qen ha h),.i (S0 l).length,.i (S0 l).length] rfl (by simp [Uz,hw]; omega) ?_;rw [hw,E8 λi=>[pl (r.getD i [])]];refine Uf (S:=Nat) 1 (λL1 k=>(14,.v (.oi k))::L1) (λk=>[.row false 33 1 (EP (λi=>[pl (r.getD i [])]) [.nils] l.length k)]) (λk=>l.length-k) (λk=>k<=l.length) 0 (Qh _) rfl rfl λk hk=>?_
 by_cases hlt:k<l.length
 ·obtain ⟨w,hx⟩:=gxE (l:=l) (i:=k) hlt;have e:=QU (λi=>[pl (r.getD i [])]) [.nils] hlt;have hg:=j2 k w hx;by_cases h2:k+1<l.length
  ·obtain ⟨v,hv⟩:=gxE (l:=l) (i:=k+1) h2;rw [hv] at hg;obtain ⟨f,f1,f2⟩:=hg;have e2:r.getD k []=f:=by rw [Qi,f2]; rfl
   rw [e2] at e;refine go tt [.t (by simp [hw]; omega),.x (Rj hx),.i k,.t (by simp [hw]; omega),.x (i:=k+1) (Rj hv),.k (Qez (i2 w (Qa hx)) (i2 v (Qa hv)) f1),.i k] rfl (by simp [Uz,A9,hw]; omega) ?_;rw [List.set_set,e];exact rd (k+1) (by omega) hlt rfl
  ·have hv:l[k+1]? = none:=Qw (by omega);rw [hv] at hg;have e2:r.getD k []=w:=by rw [Qi,hg]; rfl
   rw [e2] at e;refine go tt [.t (by simp [hw]; omega),.x (Rj hx),.i k,.f (by simp [hw]; omega)] rfl (by simp [Uz,A9,hw]; omega) ?_;rw [e];exact rd (k+1) (by omega) hlt rfl
 ·obtain rfl:k=l.length:=by omega
  have e:EP (λi=>[pl (r.getD i [])]) [.nils] l.length l.length=S0 r:=by
   rw [QW,<-j1];refine Xj λi=>?_
   simp only [S0,Q6];by_cases hi:i<r.length
   ·rw [Xx hi]; simp [Qi,Qe hi]
   ·rw [Qw (by simpa using hi),Qw (by simpa using hi)]; rfl
  rw [e];exact Uc [.f (by simp [hw])] rfl
theorem nU {p:Uj} (tp:U9 p):Fg (Fg p)=Fg p:=by
 by_cases h:p.length=0
 ·have e:Fg p=[]:=by unfold Fg; rw [if_pos h]
  rw [e]; rfl
 ·obtain ⟨h1,h2,h3,h4,_⟩:=Cg tp h;have hc:S8 (Fg p)=1:=by
   have h5:S8 (Fg p)∣1:=h3 _ λk=>by
    by_cases hk:k<(Fg p).length
    ·rw [Qi,Qe hk]; exact Ep _ (Xq hk)
    ·rw [Qi,Qw (by omega)]; exact Int.dvd_zero _
   have h6:0<=S8 (Fg p):=by unfold S8; omega
   exact Int.eq_one_of_dvd_one h6 h5
  have hf:∀ q:Uj,0<Fl q->Hk q=S8 q:=λq hq=>by unfold Hk; rw [if_neg (by omega)]
  have hf:=(hf _ h4).trans hc;have e0:∀ q:Uj,q.length≠0->Fg q=Cy q (Hk q):=λq hq=>by unfold Fg; rw [if_neg hq]
  have e:=e0 (Fg p) (by omega);rw [hf] at e;rw [e];unfold Cy;have e2:(Fg p).map (· / (1:Int))=Fg p:=by
   conv=>rhs; rw [<-List.map_id (Fg p)]
   exact Xo λz _=>by simp
  rw [e2];exact h1
theorem iS (i:Nat):(i:Int).tmod 2=((i % 2:Nat):Int):=rfl
theorem Qsg {a:Uj} (ha:Pb a) (h:(Fg a).length=0):Ug 374 [pr a] [pr []] :=
 Ud func374 rfl [.k (Az ha),.t (by simp [Qj h])] rfl
theorem YH:∀ {l:Uk} {i:Nat} {p o:Uj},Pb p->(∀ f∈l,Pb f)->UO i p l=some o->Pb o
 | [],i,p,o,hp,_,h=>by simp only [UO] at h; injection h with h; subst h; exact hp
 |
  f::l,i,p,o,hp,hl,h=>by
  simp only [UO] at h
  split at h
  ·obtain ⟨q,hq,h⟩:=Qd.1 h;obtain ⟨rfl,hq'⟩:=QX (Hu _ _) hq;exact YH hq' (λf hf=>hl f (Qg _ hf)) h
  ·exact YH hp (λf hf=>hl f (Qg _ hf)) h
theorem Qh8:Pb [1]:=⟨rfl,by decide,λz hz=>by rw [Qk.1 hz]; decide⟩
theorem Qwh {a o:Uj} (ha:Pb a) (h:nV a=some o):Ug 374 [pr a] [pr o]:=by
 unfold nV at h
 split at h
 ·rename_i h0;injection h with h; subst h;exact Qsg ha h0
 rename_i h0;obtain ⟨l,hl,h⟩:=Qd.1 h;obtain ⟨fs,hf,h⟩:=Qd.1 h;have hpa:=Rp ha;have hl':HE 66 (Fg (Fg a))=some l:=by rw [nU ha.t]; exact hl
 obtain ⟨i1,i2⟩:=MW (Rp ha) hl;have i3:=xN i2 hf;obtain ⟨j1,_⟩:=CV hf;have hw:=Er fs;have co:=cO (p:=[1]) (by decide) (λz hz=>by rw [Qk.1 hz]; decide);rw [show trim [1]=[1] from rfl] at co;refine Fw func374 rfl ?_;refine Ua [.k (Az ha),.f (by simpa using h0),.k co,.k (oL hpa hl' hf)] rfl ?_ (by simp [Uz]);refine Uf (S:=Nat×Uj) 0 (λL1 s=>(16,.v (.oi (s.1:Int)))::(3,.v (pr s.2))::L1) (λ_=>[]) (λs=>fs.length-s.1) (λs=>s.1<=fs.length/\Pb s.2/\UO s.1 s.2 (fs.drop s.1)=some o) (0,[1]) ⟨Qh _,Qh8,h⟩ rfl rfl λ⟨i,p⟩ ⟨k1,k2,k3⟩=>?_
 dsimp only at k1 k2 k3 ⊢;by_cases hlt:i<fs.length
 ·obtain ⟨f,hx⟩:=gxE (l:=fs) (i:=i) hlt;have hdr:fs.drop i=f::fs.drop (i+1):=by
   rw [Zu hlt]; congr 1;have:=Qe hlt; rw [hx] at this; injection this with this; exact this.symm
  rw [hdr] at k3;simp only [UO] at k3;have pf:=i3 f (Qa hx);by_cases h2:i % 2=0
  ·rw [if_pos h2] at k3;obtain ⟨q,hq,k3⟩:=Qd.1 k3;obtain ⟨rfl,hq'⟩:=QX (Hu _ _) hq;refine Ub [.t (by simp [hw]; omega),.x (Rj hx),.t (by rw [iS,h2]; rfl),.k (GL k2.t pf.t (Z3 k2.l (by decide)) (Z3 pf.l (by decide)) k2.b pf.b (by decide))] rfl ?_;exact rd (i+1,Gk p f) (by dsimp only; omega) ⟨hlt,hq',k3⟩ rfl
  ·rw [if_neg h2] at k3;refine Ub [.t (by simp [hw]; omega),.x (Rj hx),.f (by rw [iS,show i % 2=1 by omega]; rfl)] rfl ?_;exact rd (i+1,p) (by dsimp only; omega) ⟨hlt,k2,k3⟩ rfl
 ·obtain rfl:i=fs.length:=by omega
  rw [Y8] at k3;simp only [UO] at k3;injection k3 with k3; subst k3;exact Uc [.f (by simp [hw])] rfl
theorem QG (z:Int):Fe (z.natAbs:Int)=Fe z:=by unfold Fe; simp
theorem Qeg {x y:LV} {z:Int} (hi:Gv x y z) (hs:Fe z<=4294967295):Ug 379 [.agg [x,y]] [.agg (Hh (z.natAbs:Int))]:=by
 obtain ⟨b,l,rfl,rfl,hl,rfl⟩:=hi;have e:(Fb false (val l))=((Fb b (val l)).natAbs:Int):=by rw [Rl]; rfl
 rw [<-e];exact Ud func379 rfl [.k (VA hl (Qc (Pn hs) (by decide))),.k (Pp _ _)] rfl
theorem Qmq {n d:Int} (h0:d≠0) (hn:Fe n<=4294967295) (hd:Fe d<=4294967295):Ug 380 [.agg (Hh n),.agg (Hh d)] [.agg (rl (Rat.divInt n d)),.oi 0] :=
 Ud func380 rfl [.k (Bz (U3 d) hd),.k Li,.f (by simpa using h0),.k (Bz (U3 n) hn),.k (ZS h0 hn hd)] rfl
theorem Qbm (l:Uj) (z:Int):most (l++[z])=if most l<z.natAbs then z.natAbs else most l:=by unfold most; rw [List.foldl_append]; rfl
theorem aZ {s:Nat}:∀ {l:Uj},Bd s l->Fe (most l:Int)<=s:=λ{l}=>by
 suffices h:∀ (l:Uj) (m:Nat),Bd s l->Fe (m:Int)<=s->Fe ((l.foldl (λm z=>if m<z.natAbs then z.natAbs else m) m:Nat):Int)<=s from λhb=>h l 0 hb (by simp [Fe,sz])
 intro l
 induction l with
 | nil=>exact λm _ h=>h
 |
  cons z l ih =>
  intro m hb hm;refine ih _ (λy hy=>hb y (Qg _ hy)) ?_;show Fe ((if m<z.natAbs then z.natAbs else m:Nat):Int)<=s
  split
  ·rw [QG]; exact hb z (Qx ..)
  ·exact hm
def ozi:Option Nat->Uo
 | none=>[.bool false,.nils]
 | some m=>Hh (m:Int)
def ozr:Option Nat->Uo
 | none=>[.bool false,.row []]
 | some m=>Hh (m:Int)
theorem Qlk {p:Uj} (hp:Pb p) (h0:p.length≠0):Ug 375 [pr p] [.agg (rl (Gq p)),.oi 0]:=by
 have hl:=hp.l;have hll:(p.take (p.length-1)).length=p.length-1:=by simp
 have hbt:Bd 16777216 (p.take (p.length-1)):=λz hz=>hp.b z (Qo hz)
 refine Fw func375 rfl ?_;refine Ub [.k (Hr hp.t hp.ln hp.bd),.f (by simpa using h0),.r 18 (eI (b:=((p.length-1:Nat):Int)) (by simp; omega)),.i (p.length-1)] rfl ?_;rw [<-Js];refine Uf (S:=Nat×Option Nat) 2 (λL1 s=>(21,.v (.oi (s.1:Int)))::L1) (λs=>[.blk 42 [.bool false,.nils,.bool false,.nils],.blk 36 (ozi s.2)]) (λs=>p.length-1-s.1) (λs=>s.1<=p.length-1/\most ((p.take (p.length-1)).take s.1)=s.2.getD 0) (0,none) ⟨Qh _,rfl⟩ rfl rfl λ⟨i,o⟩ ⟨j1,j2⟩=>?_
 dsimp only at j1 j2 ⊢;by_cases hlt:i<p.length-1
 ·obtain ⟨z,hz⟩:=gxE (l:=(p.take (p.length-1))) (i:=i) (by omega);have bz:Fe z<=16777216:=hbt z (Qa hz);have hst:most ((p.take (p.length-1)).take (i+1))=if o.getD 0<z.natAbs then z.natAbs else o.getD 0:=by
   rw [Zv,hz]; show most (_++[z])=_; rw [Qbm,j2]
  have ca:=Qeg (U3 z) (Qc bz (by decide));have hl1:decide ((i:Int)<(((p.take (p.length-1)).map Hh).length:Int))=true:=by simp; omega
  have bm:Fe ((o.getD 0:Nat):Int)<=16777216:=by rw [<-j2]; exact aZ λy hy=>hbt y (Qo hy)
  have hcm:Dw (z.natAbs:Int) ((o.getD 0:Nat):Int)>0↔o.getD 0<z.natAbs:=by unfold Dw; split <;> (try split) <;> omega
  have cc:Ug 97 [.agg (Hh (z.natAbs:Int)),.agg (ozr o)] [.oi (Dw (z.natAbs:Int) ((o.getD 0:Nat):Int))]:=by
   cases o with
   | none=>exact GI (U3 _) QF (by rw [QG]; omega) (by decide)
   | some m=>exact GI (U3 _) (U3 _) (by rw [QG]; omega) (Qc bm (by decide))
  by_cases hc:o.getD 0<z.natAbs
  ·rw [if_pos hc] at hst;have hd:decide (Dw (z.natAbs:Int) ((o.getD 0:Nat):Int)>0)=true:=by simpa using hcm.2 hc
   cases o <;> (refine Ub [.t hl1,.x (Gt (f:=Hh) hz),.k ca,.k cc,.t hd] rfl ?_; exact rd (i+1,some z.natAbs) (by dsimp only; omega) ⟨hlt,hst⟩ rfl)
  ·rw [if_neg hc] at hst;have hd:decide (Dw (z.natAbs:Int) ((o.getD 0:Nat):Int)>0)=false:=by
    have:=mt hcm.1 hc; simpa using this
   cases o with
   | none=>refine Ub [.t hl1,.x (Gt (f:=Hh) hz),.k ca,.k cc,.f hd] rfl ?_; exact rd (i+1,none) (by dsimp only; omega) ⟨hlt,hst⟩ rfl
   | some m=>refine Ub [.t hl1,.x (Gt (f:=Hh) hz),.k ca,.k cc,.f hd] rfl ?_; exact rd (i+1,some m) (by dsimp only; omega) ⟨hlt,hst⟩ rfl
 ·obtain rfl:i=p.length-1:=by omega
  rw [Qn (by omega)] at j2;have bl:Fe (Fl p)<=16777216:=hp.b _ (DV h0);have ln:((Fl p).natAbs:Int)≠0:=by have:=Eb hp.t h0; omega
  have cl:=De hp.t hp.ln hp.bd;have ca:=Qeg (U3 (Fl p)) (Qc bl (by decide));have bm:Fe ((o.getD 0:Nat):Int)<=16777216:=by rw [<-j2]; exact aZ hbt
  have cd:Ug 219 [.agg (Hh ((Fl p).natAbs:Int)),.agg (ozr o)] [.agg (Hh (((Fl p).natAbs:Int)+(most (p.take (p.length-1)):Int)))]:=by
   rw [j2];cases o with
   | none=>exact VI (U3 _) QF (by rw [QG]; omega) (by decide)
   | some m=>exact VI (U3 _) (U3 _) (by rw [QG]; omega) (Qc bm (by decide))
  have cm:=Qmq (n:=((Fl p).natAbs:Int)+(most (p.take (p.length-1)):Int)) ln (Qc (YK _ _) (by rw [QG,j2]; omega)) (by rw [QG]; omega);have hf:decide (((p.length-1:Nat):Int)<(((p.take (p.length-1)).map Hh).length:Int))=false:=by simp
  cases o <;> exact Uc [.f hf,.k cl,.k ca,.k cd,.k cm] rfl
theorem Qqj {z:Int}:Ug 357 [.agg (Hh z)] [.oi (Int.sign z)]:=by
 by_cases h0:z=0
 ·subst h0;exact Ud func357 rfl [.t (by simp [U4,G7])] rfl
 ·have hl:(Fy z.natAbs).length≠0:=λh=>h0 (Qbj.1 h)
  have hl':decide (((lm (Fy z.natAbs)).length:Int)=0)=false:=by simpa [U4] using hl
  by_cases h1:z<0
  ·rw [J3 h1];exact Ud func357 rfl [.f hl',.t (by simpa using h1)] rfl
  ·rw [Yp (by omega)];exact Ud func357 rfl [.f hl',.f (by simpa using h1)] rfl
theorem Qdj {p:Uj} (hp:Pb p):Ug 385 [pr p] [.oi (ZK p),.oi (UW p)]:=by
 have hb:-1<=(Fl p).sign/\(Fl p).sign<=1:=by rcases Aq (Fl p) with h | h | h <;> omega
 by_cases h:p.length % 2=0
 ·have e:ZK p=-(Fl p).sign:=by unfold ZK; rw [if_pos h]
  rw [e];exact Ud func385 rfl [.k (Hr hp.t hp.ln hp.bd),.k (De hp.t hp.ln hp.bd),.k Qqj,.t (by rw [iS]; simp [h])] rfl rfl (by simp [Uz,Fl] at hb ⊢; omega)
 ·have e:ZK p=(Fl p).sign:=by unfold ZK; rw [if_neg h]
  rw [e];exact Ud func385 rfl [.k (Hr hp.t hp.ln hp.bd),.k (De hp.t hp.ln hp.bd),.k Qqj,.f (by rw [iS]; simp; omega)] rfl rfl (by simp [Uz])
theorem Qep {p:Uj} (hp:Pb p):Ug 384 [pr p] [.oi (ZK p)]:=Ud func384 rfl [.k (Qdj hp)] rfl
theorem Qmo {p:Uj} (hp:Pb p):Ug 386 [pr p] [.oi (UW p)]:=Ud func386 rfl [.k (Qdj hp)] rfl
theorem Qsz {q:Rat} (hq:Qs 4294967295 q):Ug 140 [.agg (rl q)] [.agg (rl (-q))]:=by
 exact Ud func140 rfl [.k (BW hq),.k (ND (U3 _) hq.1)] rfl
theorem kB {l:Uk} {fid:Nat} {sg:Uj->Int} (hl:l.length≤1000) (hs:∀ p,-1≤sg p/\sg p≤1) (h:∀ p∈l,EN prog fid [pr p] [.oi (sg p)]):Ug 297 [.one (.sh [.row (S0 l)]),.one (.fn fid [] [])] [.oi (Cn sg l:Nat)]:=by
 have hpl:=Er l;refine Fw func297 rfl ?_;refine Ua [] rfl ?_;refine Uf (S:=Nat) 0 (λL1 i=>(15,.v (.oi i))::(5,.v (.oi ((VK sg l i).1:Int)))::(6,.v (.one (.int .i64 (VK sg l i).2)))::L1) (λ_=>[]) (λi=>l.length-i) (λi=>i<=l.length) 0 (Qh _) rfl rfl λi hi=>?_
 by_cases hlt:i<l.length
 ·obtain ⟨p,hp⟩:=gxE (l:=l) (i:=i) hlt;have hst:VK sg l (i+1)=Pj sg (VK sg l i) p:=Tt _ _ _ hp;obtain ⟨b1,b2,b3⟩:=yA hs l i;have b4:=hs p;by_cases h0:sg p=0
  ·refine Ub [.t (by simp [hpl]; omega),.x (Rj hp),.k (h p (Qa hp)),.t (by simpa using h0)] rfl ?_;exact rd (i+1) (by omega) hlt (by rw [hst,show Pj sg (VK sg l i) p=VK sg l i from by unfold Pj; rw [if_pos h0]]; rfl)
  ·by_cases h1:(VK sg l i).2=-(sg p)
   ·refine Ub [.t (by simp [hpl]; omega),.x (Rj hp),.k (h p (Qa hp)),.f (by simpa using h0),.t (by simpa using h1)] rfl ?_;exact rd (i+1) (by omega) hlt (by rw [hst,show Pj sg (VK sg l i) p=((VK sg l i).1+1,sg p) from by unfold Pj; rw [if_neg h0,if_pos h1]]; rfl)
   ·refine Ub [.t (by simp [hpl]; omega),.x (Rj hp),.k (h p (Qa hp)),.f (by simpa using h0),.f (by simpa using h1)] rfl ?_;exact rd (i+1) (by omega) hlt (by rw [hst,show Pj sg (VK sg l i) p=((VK sg l i).1,sg p) from by unfold Pj; rw [if_neg h0,if_neg h1]]; rfl)
 ·obtain rfl:i=l.length:=by omega
  refine Uc [.f (by simp [hpl])] rfl ?_ trivial;unfold VK Cn; rw [List.take_length]
theorem HU (p:Uj):(-1<=ZK p/\ZK p<=1)/\-1<=UW p/\UW p<=1:=by
 have hb:-1<=(Fl p).sign/\(Fl p).sign<=1:=by rcases Aq (Fl p) with h | h | h <;> omega
 unfold ZK UW
 split <;> omega
theorem Qln {l:Uk} (hl:l.length≤1000) (hp:∀ p∈l,Pb p):Ug 377 [.one (.sh [.row (S0 l)])] [.oi (JJ l)]:=by
 have c1:Ug 381 [.one (.sh [.row (S0 l)])] [.oi (Cn ZK l:Nat)] :=
  Ud func381 rfl [.k (kB hl (λp=>(HU p).1) λp h=>Qep (hp p h))] rfl
 have c2:Ug 382 [.one (.sh [.row (S0 l)])] [.oi (Cn UW l:Nat)] :=
  Ud func382 rfl [.k (kB hl (λp=>(HU p).2) λp h=>Qmo (hp p h))] rfl
 have b1:Cn ZK l<=l.length:=Lh (λp=>(HU p).1) l;have b2:Cn UW l<=l.length:=Lh (λp=>(HU p).2) l;exact Ud func377 rfl [.k c1,.k c2] rfl rfl (by simp [Uz]; omega)
theorem sW {l:Uk} {lo hi:Rat} (hl:l.length<=1000):-1000<=Tg l lo hi/\Tg l lo hi<=1000:=by
 have b1:Co l lo<=l.length:=Lh (λp=>Oj p lo) l;have b2:Co l hi<=l.length:=Lh (λp=>Oj p hi) l;unfold Tg; split <;> omega
abbrev tal (l:List Tm):Up:=l.map λt=>ta t
theorem MM {p:Uj} {c:Uk} (hp:Pb p):∀ {k:Nat} {lo hi:Rat} {n:Int} {r:List Tm},Qb lo->Qb hi->Am p c k lo hi n=some r->∀ t∈r,Tb t
 | 0,_,_,_,_,_,_,h=>by cases h
 |
  k+1,lo,hi,n,r,hl,hh,h=>by
  simp only [Am] at h
  split at h
  ·injection h with h; subst h; exact λt ht=>by cases ht
  ·split at h
   ·injection h with h; subst h;intro t ht; rw [Qk.1 ht]; exact ⟨hp,hl,hh⟩
   ·obtain ⟨m,hm,h⟩:=Qd.1 h;obtain ⟨rfl,qm⟩:=BH hm;obtain ⟨x,hx,h⟩:=Qd.1 h;obtain ⟨y,hy,h⟩:=Qd.1 h;injection h with h; subst h;intro t ht;rcases Qq.1 ht with ht | ht
    ·exact MM hp hl qm hx t ht
    ·exact MM hp qm hh hy t ht
theorem Qvc (l:List Tm):∀ c∈tal l,c.length=9:=λc hc=>by obtain ⟨t,_,rfl⟩:=Q9.1 hc; rfl
theorem sO {p:Uj} {c:Uk} (hp:Pb p) (hcl:c.length≤1000) (hc:∀ q∈c,Pb q):∀ {k:Nat} {lo hi:Rat} {n:Int} {r:List Tm},Qb lo->Qb hi->k≤100000->-(1000*(100001-k:Nat))≤n/\n≤1000*(100001-k:Nat)->Am p c k lo hi n=some r->r.length≤1000000->U5 prog 376 [pr p,.one (.sh [.row (S0 c)]),.agg (rl lo),.agg (rl hi),.oi n] [] [.one (.orow 0 9 none)] [.row false 177 9 (tal r)]
 | 0,_,_,_,_,_,_,_,_,h,_=>by cases h
 |
  k+1,lo,hi,n,r,hl,hh,hk,hn,h,hr=>by
  simp only [Am] at h
  split at h
  ·rename_i h0;injection h with h; subst h;refine Fw func376 rfl ?_;exact Ue [] [2] [.t (by simpa using h0),.o 10 177 9] rfl
  ·rename_i h0
   split at h
   ·rename_i h1;injection h with h; subst h;refine Fw func376 rfl ?_;exact Ue [] [2] [.f (by simpa using h0),.t (by simpa using h1),.k (Hr hp.t hp.ln hp.bd),.k (Nk hl.s32),.k (Nk hh.s32),.lo] rfl
   ·rename_i h1;obtain ⟨m,hm,h⟩:=Qd.1 h;obtain ⟨rfl,qm⟩:=BH hm;obtain ⟨x,hx,h⟩:=Qd.1 h;obtain ⟨y,hy,h⟩:=Qd.1 h;injection h with h; subst h;have hb:=sW (l:=c) (lo:=lo) (hi:=mid lo hi) hcl;rw [Qy] at hr;have c1:=sO hp hcl hc hl qm (by omega) (by omega) hx (by omega);have c2:=sO hp hcl hc qm hh (by omega) (by omega) hy (by omega);rw [show tal (x++y)=tal x++tal y from Yc];refine Fw func376 rfl ?_;exact Ue [] [3] [.f (by simpa using h0),.f (by simpa using h1),.k (Qqi hl hh),.k (AT hcl hc hl qm),.c [3] c1,.c [4] c2,.s (Qvc y)] rfl (by simp [Uz]; omega)
theorem Ql1 {p:Uj} {r:List Tm} (hp:Pb p) (h:SR p=some r) (hr:r.length<=1000000):Ug 373 [pr p] [.one (tas r),.oi 0]:=by
 unfold SR at h;obtain ⟨c,h1,h⟩:=Qd.1 h;obtain ⟨q,h2,h⟩:=Qd.1 h;obtain ⟨b,h3,h⟩:=Qd.1 h;obtain ⟨rfl,hb⟩:=BH h3;obtain ⟨k1,k2⟩:=chain_ok hp h1;have hq:=RF hp h2;have q0:q.length≠0:=by
  unfold Ls at h1;obtain ⟨a,a1,h1⟩:=Qd.1 h1;rw [h2] at a1; injection a1 with a1; subst a1
  split at h1
  ·cases h1
  ·assumption
 have qn:Qb (-Gq q):=⟨by rw [Rat.neg_num,Hw]; exact hb.1,by rw [Rat.neg_den]; exact hb.2⟩;have bb1:Cn ZK c<=c.length:=Lh (λp=>(HU p).1) c;have bb2:Cn UW c<=c.length:=Lh (λp=>(HU p).2) c;have hn:-(1000*(100001-100000:Nat):Int)<=JJ c/\JJ c<=1000*(100001-100000:Nat):=by unfold JJ; omega
 have cr:=sO hq (by omega) k2 qn hb (Ql _) hn h hr;refine Fw func373 rfl ?_;exact Ue [1] [] [.k (Qd5 hp h1),.f rfl,.k (NE hp h2),.k (Qlk hq q0),.k (Qsz hb.s32),.k (Qln (by omega) k2),.c [1] cr] rfl
def Uy (l:List Pt):Up:=l.map Fa
theorem So {l:List Pt} {i:Nat} {c:Pt} (h:l[i]? = some c):(Uy l)[i]? = some (Fa c):=Gt h
theorem Gz (l:List Pt):(Uy l).length=l.length:=by simp [Uy]
theorem YS (l:List Pt):∀ c∈Uy l,c.length=5:=λc hc=>by
 obtain ⟨x,_,rfl⟩:=Q9.1 hc; rfl
abbrev zPt:Uo:=[.nils,.nils,.bool false,.nils,.int .i64 0]
theorem lD {lt:Pt->Pt->Bool} {O:List Pt} {z:Uo} {c:Pt} {k m:Nat} {l2:Up} (hk:k<=O.length) (hp:Lo lt O c O.length=k) (hm:m=O.length-k) (h2:l2.take m=((Uy O++[z]).drop k).take m) :
 ((Uy O++[z]).take (k+1)++(l2.take m++(Uy O++[z]).drop (k+1+m))).set k (Fa c)=Uy (Lk lt O c):=by
 rw [h2,<-Zb,uP (Uy O) z (Fa c) (by rw [Gz]; omega) (by rw [Gz]; omega)];simp [Lk,hp,Uy,Js,Vg]
def Tq (t:Tm) (l:List Pt):List Pt:=Lx (Tk (Fq t)) l
theorem kK {l:List Pt} {t:Tm} (hl:∀ p∈l,Sc p.c) (hn:l.length≤1000000) (ht:Va t):Ug 159 [.agg (ta t),.one (pts l)] [.one (pts (Tq t l))]:=by
 have hcl:=Gz l;show Ug 159 [.agg (ta t),.one (.row (Uy l))] [.one (.row (Uy (Tq t l)))];obtain ⟨lt,hlt0⟩:=nmE (Tk (Fq t));unfold Tq;rw [<-hlt0];refine Fw func159 rfl ?_;refine Ua [.o 5 40 5] rfl ?_;refine Uf (S:=Nat) 2 (λL1 i=>(11,.v (.oi i))::(5,.v (.one (.orow 1 5 none)))::L1) (λi=>[.blk 177 (ta t),.row false 40 5 (Uy (Lx lt (l.take i)))]) (λi=>l.length-i) (λi=>i<=l.length) 0 (Qh _) rfl rfl λi hi=>?_
 by_cases hlt:i<l.length
 ·obtain ⟨c,hc⟩:=gxE (l:=l) (i:=i) hlt;have hst:Lx lt (l.take (i+1))=Lk lt (Lx lt (l.take i)) c:=bC hc;have hcp:=hl c (Qa hc);obtain ⟨O,hO⟩:=nmE (Lx lt (l.take i));have hOl:O.length=i:=by rw [hO,qI,Qt]; omega
  have hOm:∀ x∈O,Sc x.c:=λx hx=>by rw [hO,Qca] at hx; exact hl x (Qo hx)
  rw [<-hO] at hst ⊢;refine Ua [.t (by simp [hcl]; omega),.x (So hc)] rfl ?_;refine Uf (S:=Nat) 3 (λL1 k=>(8,.v (.oi k))::L1) (λk=>[.blk 177 (ta t),.row false 40 5 (Uy O),.blk 40 (Fa c)]) id (λk=>k<=O.length/\Lo lt O c k=Lo lt O c O.length) (Uy O).length ⟨by rw [Gz]; exact Ql _,by rw [Gz]⟩ rfl rfl λk ⟨hk,hp⟩=>?_
  have hz:∀ y∈[zPt],y.length=5:=λy hy=>by rw [Qk.1 hy]; rfl
  have h77:∀ y∈Uy O++[zPt],y.length=5:=λy hy=>by
   rcases Qq.1 hy with hy | hy
   ·exact YS O y hy
   ·exact hz y hy
  cases k with
  |
   zero =>
   have hp:Lo lt O c O.length=0:=by rw [<-hp]; rfl
   refine go tt [.g 19 false (by simp),.f rfl,.s (sz:=5) hz,.r 37 (eI (b:=((0+1:Nat):Int)) (by simp)),.i (0+1),.i (0),.s (sz:=5) (λy hy=>h77 y (Qo hy)),.i (O.length),.i (0)] rfl (by simp [Uz,Gz]; omega) ?_;exact rd (i+1) (by omega) hlt (by rw [hst,<-lD (z:=zPt) (l2:=(Uy O++[zPt]).take ((Uy O++[zPt]).length-0)) (k:=0) (m:=O.length) (by omega) hp (by omega) (by congr 1; exact Qn (by simp))]; rfl)
  |
   succ k =>
   obtain ⟨x,hx⟩:=gxE (l:=O) (i:=k) (by omega);have cb:=Qde hcp (hOm x (Qa hx)) ht;rw [<-hlt0] at cb;by_cases hlc:lt c x=true
   ·refine go tt [.g 19 true (by simp),.r 23 (eI (b:=(k:Int)) (by simp)),.i k,.x (So hx),.k cb,.t hlc,.r 30 (eI (b:=(k:Int)) (by simp))] rfl (by simp [Uz,Gz]; omega) ?_;exact rd k (by simp) ⟨by omega,by rw [<-hp,aB hx hlc]⟩ rfl
   ·have hlc:lt c x=false:=by simpa using hlc
    have hp:Lo lt O c O.length=k+1:=by rw [<-hp,gV hx hlc]
    refine go tt [.g 19 true (by simp),.r 23 (eI (b:=(k:Int)) (by simp)),.i k,.x (So hx),.k cb,.f hlc,.s (sz:=5) hz,.r 37 (eI (b:=((k+1+1:Nat):Int)) (by simp)),.i (k+1+1),.i (k+1),.s (sz:=5) (λy hy=>h77 y (Q3 (Qo hy))),.i (O.length-(k+1)),.i (k+1)] rfl (by simp [Uz,Gz]; omega) ?_;exact rd (i+1) (by omega) hlt (by rw [hst,<-lD (z:=zPt) (l2:=((Uy O++[zPt]).drop (k+1)).take ((Uy O++[zPt]).length-(k+1))) (k:=k+1) (m:=O.length-(k+1)) (by omega) hp (by omega) (by congr 1; exact Qn (by simp))]; rfl)
 ·obtain rfl:i=l.length:=by omega
  rw [Q5];exact Uc [.f (by simp [hcl])] rfl
def Sp (sg:Uj->Int):List Pt->List Ct
 | a::b::l=>QP sg a b::Sp sg (b::l)
 | _=>[]
theorem Bl (sg:Uj->Int):∀ l:List Pt,(Sp sg l).length=l.length-1
 | []=>rfl
 | [_]=>rfl
 | a::b::l=>by simp only [Sp,Q7,Bl sg (b::l)]; omega
theorem RL (sg:Uj->Int):∀ {l:List Pt} {i:Nat} {a b:Pt},l[i]? = some a->l[i+1]? = some b->(Sp sg l).take (i+1)=(Sp sg l).take i++[QP sg a b]
 | [],i,a,b,h,_=>by simp at h
 | [x],i,a,b,_,h=>by cases i <;> simp at h
 | x::y::l,0,a,b,h1,h2=>by simp at h1 h2; subst h1; subst h2; simp [Sp]
 |
  x::y::l,i+1,a,b,h1,h2=>by
  have ih:=RL sg (l:=y::l) (i:=i) (a:=a) (b:=b) (by simpa using h1) (by simpa using h2);simp only [Sp,Vd] at ih ⊢;rw [ih]; rfl
theorem NL {l:List Pt} {t:Tm} (hl:∀ p∈l,Sc p.c) (hn:l.length≤1000000) (ht:Va t):Ug 161 [.agg (ta t),.one (pts l)] [.one (.row (U6 (Sp (Fq t) l)))]:=by
 have hcl:=Gz l;show Ug 161 [.agg (ta t),.one (.row (Uy l))] [.one (.row (U6 (Sp (Fq t) l)))];refine Fw func161 rfl ?_;refine Ua [.o 5 120 7] rfl ?_;refine Uf (S:=Nat) 2 (λL1 i=>(6,.v (.oi ((i+1:Nat):Int)))::(5,.v (.one (.orow 1 7 none)))::L1) (λi=>[.blk 177 (ta t),.row false 120 7 (U6 ((Sp (Fq t) l).take i))]) (λi=>l.length-i) (λi=>i<=l.length-1) 0 (Qh _) rfl rfl λi hi=>?_
 by_cases hlt:i+1<l.length
 ·obtain ⟨a,ha⟩:=gxE (l:=l) (i:=i) (by omega);obtain ⟨b,hb⟩:=gxE (l:=l) (i:=i+1) hlt;have hg:=RL (Fq t) ha hb;have hm:∀ y∈[Da (QP (Fq t) a b)],y.length=7:=λy hy=>by rw [Qk.1 hy]; rfl
  refine go tt [.t (by simp [hcl]; omega),.r 19 (eI (b:=(i:Int)) (by simp)),.x (So ha),.x (So hb),.k (cA (hl a (Qa ha)) (hl b (Qa hb)) ht),.s (sz:=7) hm,.r 14 (eI (b:=((i+1+1:Nat):Int)) (by simp))] rfl (by simp [Uz,Gz,Pa,Bl]; omega) ?_;exact rd (i+1) (by omega) (by omega) (by rw [hg]; simp [U6]; rfl)
 ·have e:(Sp (Fq t) l).take i=Sp (Fq t) l:=Qn (by rw [Bl]; omega);rw [e];exact Uc [.f (by simp [hcl]; omega)] rfl
theorem Ql2:Ug 243 [pr []] [.one .nilp,.oi 2]:=by
 have h:Pf []=some []:=rfl;exact Ud func243 rfl [.k (NE RU h),.t rfl] rfl
theorem Qd3:Ug 373 [pr []] [.one (.row []),.oi 2] :=
 Ud func373 rfl [.k Ql2,.t rfl] rfl
theorem Qui {a o:Uj} (ha:Pb a) (h:nV a=some o):Pb o:=by
 unfold nV at h
 split at h
 ·injection h with h; subst h; exact RU
 ·obtain ⟨l,hl,h⟩:=Qd.1 h;obtain ⟨fs,hf,h⟩:=Qd.1 h;exact YH Qh8 (xN (MW (Rp ha) hl).2 hf) h
theorem Qdk {p:Uj} {l:List Tm} (hp:Pb p) (h:WV p=some l) (hl:l.length<=1000000):Ug 372 [pr p] [.one (tas l)]:=by
 unfold WV at h;obtain ⟨q,hq,h⟩:=Qd.1 h;have qp:=Qui hp hq;have co:=Qwh hp hq
 split at h
 ·rename_i h0;injection h with h; subst h;obtain rfl:=Qj h0;exact Ud func372 rfl [.k co,.k Qd3,.t rfl] rfl
 ·exact Ud func372 rfl [.k co,.k (Ql1 qp h hl),.f rfl] rfl
def ota:Option Tm->Uo
 | none=>zTr
 | some t=>ta t
theorem Qlq {p:Uj} {a:Tm} {l:List Tm} {r:Option Tm} (hp:Pb p) (ha:Tb a) (h:WV p=some l) (hl:l.length≤1000000) (ht:∀ t∈l,Tb t) (hr:VT a l=some r):Ug 371 [pr p,.agg (ta a)] [.agg (ota r),.one (.bool r.isSome)]:=by
 have hll:(l.map λt=>ta t).length=l.length:=by simp
 refine Fw func371 rfl ?_;refine Ua [.k (Qdk hp h hl)] rfl ?_;refine Uf (S:=Nat) 2 (λL1 i=>(11,.v (.oi i))::L1) (λ_=>[.blk 177 (ta a),.blk 177 zTm]) (λi=>l.length-i) (λi=>i<=l.length/\VT a (l.drop i)=some r) 0 ⟨Qh _,hr⟩ rfl rfl λi ⟨hi,hf⟩=>?_
 by_cases hlt:i<l.length
 ·obtain ⟨t,hx⟩:=gxE (l:=l) (i:=i) hlt;have hdr:l.drop i=t::l.drop (i+1):=by
   rw [Zu hlt]; congr 1;have:=Qe hlt; rw [hx] at this; injection this with this; exact this.symm
  rw [hdr] at hf;simp only [VT] at hf;obtain ⟨c,c1,hf⟩:=Qd.1 hf;have cc:=VE (ht t (Qa hx)) ha c1;by_cases hc:0<c
  ·rw [if_pos hc] at hf;injection hf with hf; subst hf;exact Uc [.t (by simp; omega),.x (MO hx),.k cc,.t (by simpa using hc)] rfl
  ·rw [if_neg hc] at hf;refine Ub [.t (by simp; omega),.x (MO hx),.k cc,.f (by simpa using hc)] rfl ?_;exact rd (i+1) (by omega) ⟨hlt,hf⟩ rfl
 ·obtain rfl:i=l.length:=by omega
  rw [Y8] at hf;simp only [VT] at hf;injection hf with hf; subst hf;exact Uc [.f (by simp)] rfl
def I5 (now:Tm):List Wt->Option (List Wt)
 | []=>some []
 | w::l=>(if w.known=true then some w else (SV w.c.p now).bind λr=>some ⟨w.c,true,r⟩).bind λw'=>(I5 now l).bind λr=>some (w'::r)
theorem YF {now:Tm}:∀ {l ws:List Wt},I5 now l=some ws->ws.length=l.length/\∀ (i:Nat) (w:Wt),l[i]? = some w->∃ v,ws[i]? = some v/\(w.known=true/\v=w\/w.known=false/\∃ r,SV w.c.p now=some r/\v=⟨w.c,true,r⟩)
 | [],ws,h=>by injection h with h; subst h; exact ⟨rfl,λi x hx=>by simp at hx⟩
 |
  y::l,ws,h=>by
  simp only [I5] at h;obtain ⟨v,hv,h⟩:=Qd.1 h;obtain ⟨r,hr,h⟩:=Qd.1 h;injection h with h; subst h;obtain ⟨a,b⟩:=YF hr;refine ⟨by simp [a],λi x hx=>?_⟩;cases i with
  |
   zero =>
   injection hx with hx; subst hx;refine ⟨v,rfl,?_⟩
   split at hv
   ·rename_i hk; injection hv with hv; exact .inl ⟨hk,hv.symm⟩
   ·rename_i hk;obtain ⟨q,hq,hv⟩:=Qd.1 hv;injection hv with hv;exact .inr ⟨by simpa using hk,q,hq,hv.symm⟩
  | succ i=>exact b i x (by simpa using hx)
theorem kZ {p:Uj} {a:Tm} {r:Option Tm} (hp:Cp p) (ha:Va a) (h:SV p a=some r):Ug 371 [pr p,.agg (ta a)] [.agg (ota r),.one (.bool r.isSome)]:=by
 obtain ⟨l,l1,l2,l3,_⟩:=JH hp;unfold SV at h;rw [l1] at h;exact Qlq (Dp.pb hp.dp) ha.tb l1 (by omega) (λt ht=>(l3 t ht).tb) h
theorem Qlt {T:Nat} {c:Cr} {r0 r1:Up} {ws:List Wt} (hc:CrOk c) (h:I5 c.now c.l=some ws):U5 prog 364 [.one (.ow 0 0)] [.blk T (Hq c r0 r1)] [] [.blk T (Hq { c with l:=ws } r0 r1)]:=by
 have hk:=hc.k;have hw:=Tf c.l;obtain ⟨h1,h2⟩:=YF h;refine Fw func364 rfl ?_;refine Ua [.o 2 280 18,.c [0] (O6 hc.n)] rfl ?_;refine Uf (S:=Nat) 3 (λL1 i=>(13,.v (.oi i))::(2,.v (.one (.orow 1 18 none)))::L1) (λi=>[.blk T (Hq c r0 r1),.row false 280 18 (Bu (ws.take i)),.blk 177 (ta c.now)]) (λi=>c.l.length-i) (λi=>i<=c.l.length) 0 (Qh _) rfl rfl λi hi=>?_
 by_cases hlt:i<c.l.length
 ·obtain ⟨w,hx⟩:=gxE (l:=c.l) (i:=i) hlt;obtain ⟨v,hv,h3⟩:=h2 i w hx;have hm:∀ y∈[wl v],y.length=18:=λy hy=>by rw [Qk.1 hy]; rfl
  have hg:=Ev hv;have hl:decide ((i:Int)<((Bu c.l).length:Int))=true:=by simp [hw]; omega
  rcases h3 with ⟨k1,rfl⟩ | ⟨k1,r,k2,rfl⟩
  ·obtain ⟨vc,vk,vf⟩:=v;cases vf <;> (refine go tt [.t hl,.x (Hn hx),.f (by rw [show vk=true from k1]; rfl),.s (sz:=18) hm] rfl (by simp [Uz,Tf]; omega) ?_; exact rd (i+1) (by omega) hlt (by rw [hg]; rfl))
  ·have cg:=kZ (hc.l w (Qa hx)).p hc.n k2;obtain ⟨wc,wk,wf⟩:=w;cases r <;> cases wf <;> (refine go tt [.t hl,.x (Hn hx),.t (by rw [show wk=false from k1]; rfl),.k cg,.s (sz:=18) hm] rfl (by simp [Uz,Tf]; omega) ?_; exact rd (i+1) (by omega) hlt (by rw [hg]; rfl))
 ·obtain rfl:i=c.l.length:=by omega
  rw [<-h1,Q5];exact Ue [1] [0] [.f (by simp [hw,h1])] rfl
def AY (ws:List Wt):Option (Option Tm):=match ws.filterMap (·.fails) with
 | []=>some none
 | b::l=>(QH b l).map some
theorem Ec {c:Cr} {ws:List Wt} (hc:CrOk c) (h:I5 c.now c.l=some ws):CrOk { c with l:=ws }:=by
 obtain ⟨h1,h2⟩:=YF h;refine ⟨hc.n,λv hv=>?_,by show ws.length<=1000; rw [h1]; exact hc.k⟩;obtain ⟨i,hi⟩:=Xt hv;have hil:i<c.l.length:=by rw [<-h1]; exact (Qf.1 hi).1
 obtain ⟨v',h3,h4⟩:=h2 i _ (Qe hil);rw [hi] at h3; injection h3 with h3; subst h3;have hw:=hc.l _ (Xq hil);rcases h4 with ⟨_,rfl⟩ | ⟨_,r,k2,rfl⟩
 ·exact hw
 ·obtain ⟨r',r1,r2⟩:=Qhs hw.p hc.n;rw [k2] at r1; injection r1 with r1; subst r1;refine ⟨hw.p,λt ht=>?_⟩;have ht:r=some t:=ht;subst ht;exact r2.2.1
theorem PP {T:Nat} {c:Cr} {r0 r1:Up} {ws:List Wt} {r:Option Tm} (hc:CrOk c) (h:I5 c.now c.l=some ws) (hr:AY ws=some r):U5 prog 370 [.one (.ow 0 0)] [.blk T (Hq c r0 r1)] [.agg (ota r),.one (.bool r.isSome)] [.blk T (Hq { c with l:=ws } r0 r1)]:=by
 have hcl:=Qlt (T:=T) (r0:=r0) (r1:=r1) hc h;have hc':=Ec hc h;have hk:=hc'.k;have hw:=Tf ws;have hvb:∀ t∈ws.filterMap (·.fails),Tb t:=λt ht=>by
  obtain ⟨w,w1,w2⟩:=Je.1 ht;exact ((hc'.l w w1).f t w2).tb
 refine Fw func370 rfl ?_;refine Ua [.c [0] hcl,.o 4 177 9] rfl ?_;refine Uf (S:=Nat) 3 (λL1 i=>(14,.v (.oi i))::(4,.v (.one (.orow 2 9 none)))::L1) (λi=>[.blk T (Hq { c with l:=ws } r0 r1),.blk 177 zTm,.row false 177 9 (tal ((ws.take i).filterMap (·.fails)))]) (λi=>ws.length-i) (λi=>i<=ws.length) 0 (Qh _) rfl rfl λi hi=>?_
 by_cases hlt:i<ws.length
 ·obtain ⟨w,hx⟩:=gxE (l:=ws) (i:=i) hlt;have hl:decide ((i:Int)<((Bu ws).length:Int))=true:=by simp [hw]; omega
  have hfl:((ws.take i).filterMap (·.fails)).length<=i:=Qc (Y9 _ _) (by rw [Qt]; omega);have hg:(ws.take (i+1)).filterMap (·.fails)=(ws.take i).filterMap (·.fails)++(match w.fails with | none=>[] | some t=>[t]):=by
   rw [Zv,hx,List.filterMap_append];show _++List.filterMap (·.fails) [w]=_;cases hwf:w.fails <;> simp [hwf]
  obtain ⟨wc,wk,wf⟩:=w;have hk:ws.length<=1000:=hk;cases wf with
  |
   none =>
   refine Ub [.t hl,.x (Hn hx),.f rfl] rfl ?_;exact rd (i+1) (by omega) hlt (by rw [hg]; simp; rfl)
  |
   some t =>
   refine Ub [.t hl,.x (Hn hx),.t rfl,.s (l:=[ta t]) (sz:=9) (λc hc=>by rw [Qk.1 hc]; rfl)] rfl ?_;exact rd (i+1) (by omega) hlt (by rw [hg]; simp [tal]; rfl)
 ·obtain rfl:i=ws.length:=by omega
  rw [Q5];have hf:decide ((ws.length:Int)<((Bu ws).length:Int))=false:=by simp [hw]
  have hln:(ws.filterMap (·.fails)).length<=1000:=Qc (Y9 _ _) hk;unfold AY at hr;cases hfm:ws.filterMap (·.fails) with
  |
   nil =>
   rw [hfm] at hr;injection hr with hr; subst hr;exact Ue [] [0] [.f hf,.p 2,.k kX] rfl
  |
   cons b l =>
   rw [hfm] at hr hvb hln;obtain ⟨m,m1,rfl⟩:=Yt.1 hr;have cl:=Sw (hvb b (Qx ..)) (λt ht=>hvb t (Qg _ ht)) (by simp at hln; omega) m1;exact Ue [] [0] [.f hf,.p 2,.k cl] rfl
theorem DY {at_:Tm} {x:Ct}:∀ {l:List Wt} {w:Wt},Ca l x at_=some w->w=fresh x\/∃ v∈l,v.known=true/\v.c.p=x.p/\w=⟨x,true,v.fails⟩/\∀ t,v.fails=some t->∃ c,WI t at_=some c/\0<c
 | [],w,h=>by simp only [Ca] at h; injection h with h; exact .inl h.symm
 |
  v::l,w,h=>by
  simp only [Ca] at h;have tl:Ca l x at_=some w->w=fresh x\/∃ v'∈v::l,v'.known=true/\v'.c.p=x.p/\w=⟨x,true,v'.fails⟩/\∀ t,v'.fails=some t->∃ c,WI t at_=some c/\0<c:=λh=>by
   rcases DY h with h | ⟨v',h1,h2⟩
   ·exact .inl h
   ·exact .inr ⟨v',Qg _ h1,h2⟩
  split at h
  ·rename_i hk;cases hf:v.fails with
   |
    none =>
    rw [hf] at h;injection h with h;exact .inr ⟨v,Qx ..,hk.2.1,hk.2.2,by rw [hf]; exact h.symm,λt ht=>by rw [hf] at ht; cases ht⟩
   |
    some t =>
    rw [hf] at h;obtain ⟨c,c1,h⟩:=Qd.1 h
    split at h
    ·rename_i h0;injection h with h;exact .inr ⟨v,Qx ..,hk.2.1,hk.2.2,by rw [hf]; exact h.symm,λu hu=>by rw [hf] at hu; injection hu with hu; subst hu; exact ⟨c,c1,h0⟩⟩
    ·exact tl h
  ·exact tl h
theorem lay_ok {c:Cr} {at_:Tm} {l:List Ct} {ws:List Wt} (ev:Int) (hc:CrOk c) (ha:Va at_) (hl:∀ x∈l,Cp x.p) (hn:l.length≤1000) (h:P6 c.l at_ (Fp l)=some ws):CrOk ⟨at_,ws,ev⟩:=by
 obtain ⟨h1,h2⟩:=XW h;refine ⟨ha,λw hw=>?_,by show ws.length<=1000; rw [h1,Mn]; exact hn⟩;obtain ⟨i,hi⟩:=Xt hw;have hil:i<(Fp l).length:=by rw [<-h1]; exact (Qf.1 hi).1
 obtain ⟨v,h3,h4⟩:=h2 i _ (Qe hil);rw [hi] at h4; injection h4 with h4; subst h4;have hx:=hl _ (Rv (Xq hil));rcases DY h3 with e | ⟨v,v1,_,v3,e,_⟩
 ·rw [e]; exact ⟨hx,λt ht=>by cases ht⟩
 ·rw [e]; exact ⟨hx,λt ht=>(hc.l v v1).f t ht⟩
def KU {β:Type} (Bc:Tm->List Ct) (Br:Tm->β) (t:Rat):Nat->Cr->β->Int->Option (Cr×β×Int)
 | 0,_,_,_=>none
 |
  k+1,c,r,n=>(I5 c.now c.l).bind λws=>(AY ws).bind λo=>match o with
  | none=>some (⟨tq t,ws,c.ev⟩,r,n)
  | some a=>if 0<Fj a t then some (⟨tq t,ws,c.ev⟩,r,n) else (P6 ws a (Fp (Bc a))).bind λw2=>KU Bc Br t k ⟨a,w2,c.ev+1⟩ (Br a) (n+1)
theorem Qhw {ws:List Wt} {a:Tm} (h:AY ws=some (some a)) (hv:∀ t∈ws.filterMap (·.fails),Va t):a∈ws.filterMap (·.fails)/\∀ t∈ws.filterMap (·.fails),¬P0 t a:=by
 unfold AY at h;cases hf:ws.filterMap (·.fails) with
 | nil=>rw [hf] at h; injection h with h; cases h
 |
  cons b l =>
  rw [hf] at h hv;obtain ⟨m,m1,m2⟩:=Yt.1 h;injection m2 with m2; subst m2;obtain ⟨m',n1,n2,n3⟩:=HA l b hv;rw [m1] at n1; injection n1 with n1; subst n1;exact ⟨n2,n3⟩
theorem DC {c:Cr} {ws:List Wt} {a:Tm} (hc:CrOk c) (h:I5 c.now c.l=some ws) (hr:AY ws=some (some a)):Va a:=by
 have hc':=Ec hc h;have hv:∀ t∈ws.filterMap (·.fails),Va t:=λt ht=>by
  obtain ⟨w,w1,w2⟩:=Je.1 ht;exact (hc'.l w w1).f t w2
 exact hv a (Qhw hr hv).1
structure BuildOk (Bc:Tm->List Ct):Prop where
 p:∀ a,Va a->∀ x∈Bc a,Cp x.p
 n:∀ a,Va a->(Bc a).length<=1000
theorem Qwf {T:Nat} {t:Rat} {Bc:Tm->List Ct} {Br:Tm->Up} {r0:Up} (ht:Qs 1640000 t) (hB:BuildOk Bc)
 (hb:∀ a c r1,Va a->CrOk c->U5 prog 128 [.one (.ow 0 0),.agg (ta a)] [.blk T (Hq c r0 r1)] [.one (.row (U6 (Bc a)))] [.blk T (Hq c r0 (Br a))])
 {K:Nat} {c c':Cr} {r1 r1':Up} {n:Int} (hc:CrOk c) (hev:0<=c.ev/\c.ev+K<=1000000000000000000) (h:Fj c.now t<=0) (hg:KU Bc Br t K c r1 0=some (c',r1',n)) :
 U5 prog 365 [.one (.ow 0 0),.agg (rl t),.one (.ofn 128 [.ow 0 0] [])] [.blk T (Hq c r0 r1)] [.oi n,.oi 0] [.blk T (Hq c' r0 r1')]:=by
 have qt:Qb t:=ht.mono (by decide);have c1:=C6 hc.n.tb qt;refine Fw func365 rfl ?_;refine Ua [.c [0] (O6 hc.n),.k c1,.f (by simpa using h)] rfl ?_;refine Uf (S:=Nat×Cr×Up×Int) 2 (λL1 s=>(8,.v (.oi s.2.2.2))::L1) (λs=>[.blk T (Hq s.2.1 r0 s.2.2.1),.blk 42 (rl t)]) (λs=>s.1) (λs=>CrOk s.2.1/\(0<=s.2.1.ev/\s.2.1.ev+s.1<=1000000000000000000)/\(0<=s.2.2.2/\s.2.2.2+s.1<=1000000000000000000)/\KU Bc Br t s.1 s.2.1 s.2.2.1 s.2.2.2=some (c',r1',n)) (K,c,r1,0) ⟨hc,hev,⟨Int.le_refl 0,by dsimp only; omega⟩,hg⟩ rfl rfl λ⟨k,x,r,m⟩ ⟨j1,j2,j3,j4⟩=>?_
 dsimp only at j1 j2 j3 j4 ⊢;cases k with
 | zero=>cases j4
 |
  succ k =>
  simp only [KU] at j4;obtain ⟨ws,w1,j4⟩:=Qd.1 j4;obtain ⟨o,o1,j4⟩:=Qd.1 j4;have cn:=PP (T:=T) (r0:=r0) (r1:=r) j1 w1 o1;have ca:=VF (U3 t.num) (U3 (t.den:Int)) (Qc ht.1 (by decide)) (Qc ht.2 (by decide)) (by rw [Ss]; exact ht.mono (by decide));rw [Ss] at ca;cases o with
  |
   none =>
   injection j4 with j4; injection j4 with e1 j4; injection j4 with e2 e3;subst e1; subst e2; subst e3;exact Ue [] [0] [.c [0] cn,.g 25 true rfl,.t rfl,.k ca] rfl
  |
   some a =>
   have ha:=DC j1 w1 o1;dsimp only at j4;have cc:=C6 ha.tb qt;by_cases h0:0<Fj a t
   ·rw [if_pos h0] at j4;injection j4 with j4; injection j4 with e1 j4; injection j4 with e2 e3;subst e1; subst e2; subst e3;exact Ue [] [0] [.c [0] cn,.g 25 false rfl,.k cc,.t (by simpa using h0),.k ca] rfl
   ·rw [if_neg h0] at j4;obtain ⟨w2,l1,j4⟩:=Qd.1 j4;have j1':=Ec j1 w1;have cl:=Sw (b:=a) (l:=[]) ha.tb (λt ht=>by cases ht) (by decide) rfl;have cb:=hb a { x with l:=ws } r ha j1';have cy:=WB (T:=T) (r0:=r0) (r1:=Br a) j1' ha (hB.p a ha) (hB.n a ha) l1;have hf:decide (0<Fj a t)=false:=by simpa using h0
    refine Ub [.c [0] cn,.g 25 false rfl,.k cc,.f hf,.k cl,.c [0] cb,.c [0] cy] rfl ?_;exact rd (k,⟨a,w2,x.ev+1⟩,Br a,m+1) (by dsimp only; omega) ⟨lay_ok _ j1' ha (hB.p a ha) (hB.n a ha) l1,by dsimp only; omega,by dsimp only; omega,j4⟩ rfl
theorem JL {T:Nat} {c:Cr} {r0 r1:Up}:U5 prog 361 [.one (.ow 0 0)] [.blk T (Hq c r0 r1)] [.oi c.ev] [.blk T (Hq c r0 r1)]:=by
 refine Fw func361 rfl ?_;exact Ue [] [0] [] rfl
end Orr
namespace Orq
open Orr Go
theorem Qxe {a b c:Tm} (hb:Cut (Fj b)) (hc:Cut (Fj c)) (h:P0 a b) (h':P0 b c):P0 a c:=by
 obtain ⟨q,q1,q2⟩:=h;obtain ⟨r,r1,r2⟩:=h';exact ⟨q,q1,hc.mono' (hb.lt q2 r1) (by omega)⟩
theorem HO {a b:Tm} (ha:Cut (Fj a)) (hb:Cut (Fj b)) (h:¬P0 b a):Leq a (Fj b):=λq hq=>by
 rcases ha.val q with e | e | e
 ·exact absurd ⟨q,hq,e⟩ h
 ·obtain ⟨r,r1,r2⟩:=hb.dn q hq;exact absurd ⟨r,r2,ha.mono' r1 (by omega)⟩ h
 ·exact e
theorem eG {a b c:Tm} (_:Cut (Fj a)) (hb:Cut (Fj b)) (hc:Cut (Fj c)) (h:P0 a b) (h':¬P0 c b):P0 a c:=by
 obtain ⟨q,q1,q2⟩:=h;refine ⟨q,q1,?_⟩;have hl:=HO hb hc h';rcases hc.val q with e | e | e
 ·exact e
 ·obtain ⟨r,r1,r2⟩:=hb.up q q2;have h1:=hc.mono q r r1 (by omega);have:=hl r h1;omega
 ·have:=hl q e; omega
theorem jF {a b:Tm} (ha:Cut (Fj a)) (hb:Cut (Fj b)) (h:P0 a b):¬P0 b a:=λh'=>Ik ha hb h h'
theorem Oa {p:Uj} {a b:Tm} {o:Option Tm} (ha:Cut (Fj a)) (hb:Cut (Fj b)) (hab:¬P0 b a) (h:Pg p a o) (ho:∀ t,o=some t->P0 b t):Pg p b o:=by
 have hl:=HO ha hb hab;cases o with
 |
  none =>
  rcases h with h | ⟨s,s0,h⟩
  ·exact .inl h
  ·exact .inr ⟨s,s0,λc hc hbc=>h c hc λq hq=>hl q (hbc q hq)⟩
 |
  some t =>
  obtain ⟨h1,h2,_,s,s0,h4,h5⟩:=h;exact ⟨h1,h2,ho t rfl,s,s0,λc hc hbc hm=>h4 c hc (λq hq=>hl q (hbc q hq)) hm,h5⟩
theorem OJ {p:Uj} {a b:Tm} {o:Option Tm} (hp:Dp p) (ha:Va a) (hb:Va b) (hab:¬P0 b a) (h:Pg p a o) (ho:∀ t,o=some t->P0 b t):Hg (Fq b) p=Hg (Fq a) p:=by
 by_cases h0:p.length=0
 ·obtain rfl:=Qj h0; rfl
 obtain ⟨ra,_⟩:=Ea ha hp h0;obtain ⟨rb,_⟩:=Ea hb hp h0;have hl:=HO ha.cut hb.cut hab;cases o with
 |
  none =>
  rcases h with h | ⟨s,s0,h⟩
  ·exact absurd (by rw [h]; rfl) h0
  ·exact (FS rb (h _ hb.cut hl)).trans (FS ra (h _ ha.cut λ_ h=>h)).symm
 |
  some t =>
  obtain ⟨h1,h2,h3,s,s0,h4,h5⟩:=h;exact (FS rb (h4 _ hb.cut hl (ho t rfl))).trans (FS ra (h4 _ ha.cut (λ_ h=>h) h3)).symm
theorem SL (t q:Rat):Fj (tq t) q=Ha t q:=A1 (t:=tq t) rfl q
theorem QY {a:Tm} {t:Rat} (ha:Cut (Fj a)):0<Fj a t↔P0 (tq t) a:=by
 constructor
 ·intro h;have h1:Fj a t=1:=by rcases ha.val t with e | e | e <;> omega
  obtain ⟨r,r1,r2⟩:=ha.up t h1;exact ⟨r,by rw [SL]; rcases Tw t r with ⟨e,e'⟩ | ⟨e,e'⟩ | ⟨e,e'⟩ <;> first | exact e | (exfalso; grind),r2⟩
 ·rintro ⟨q,q1,q2⟩
  rw [SL] at q1;have:t<q:=by rcases Tw t q with ⟨e,e'⟩ | ⟨e,e'⟩ | ⟨e,e'⟩ <;> first | exact e' | omega
  have:=ha.mono' this (by omega);omega
open Classical in
noncomputable def mu (T:List Tm) (a:Tm):Nat:=(T.filter λt=>decide (P0 a t)).length
theorem IP {α:Type} {p q:α->Bool} (h:∀ x,p x=true->q x=true):∀ l:List α,(l.filter p).length<=(l.filter q).length
 | []=>Ql _
 |
  x::l=>by
  have ih:=IP h l;by_cases hp:p x=true
  ·rw [X1 hp,X1 (h x hp)]; simp; exact ih
  ·rw [Ju hp];by_cases hq:q x=true
   ·rw [X1 hq]; simp; omega
   ·rw [Ju hq]; exact ih
theorem IM {α:Type} {p q:α->Bool} (h:∀ x,p x=true->q x=true) {y:α} (hp:p y=false) (hq:q y=true):∀ {l:List α},y∈l->(l.filter p).length<(l.filter q).length
 | [],hy=>by cases hy
 |
  x::l,hy=>by
  rcases Qm.1 hy with rfl | hy
  ·rw [Ju (by simp [hp]),X1 hq];have:=IP h l;simp; omega
  ·have ih:=IM h hp hq hy;by_cases hp:p x=true
   ·rw [X1 hp,X1 (h x hp)]; simp; exact ih
   ·rw [Ju hp];by_cases hq:q x=true
    ·rw [X1 hq]; simp; omega
    ·rw [Ju hq]; exact ih
open Classical in
theorem Qq7 {T:List Tm} {a b:Tm} (ha:Cut (Fj a)) (hb:Cut (Fj b)) (hT:∀ t∈T,Cut (Fj t)) (h:P0 a b) (hm:b∈T):mu T b<mu T a:=by
 have key:∀ l:List Tm,(∀ t∈l,Cut (Fj t))->l.filter (λt=>decide (P0 b t))=l.filter (λt=>decide (Cut (Fj t)/\P0 b t)):=λl hl=>List.filter_congr λx hx=>by simp [hl x hx]
 have key2:∀ l:List Tm,(∀ t∈l,Cut (Fj t))->l.filter (λt=>decide (P0 a t))=l.filter (λt=>decide (Cut (Fj t)/\P0 a t)):=λl hl=>List.filter_congr λx hx=>by simp [hl x hx]
 unfold mu;rw [key T hT,key2 T hT];refine IM (λx hx=>?_) (y:=b) ?_ ?_ hm
 ·have hx:=of_decide_eq_true hx;exact decide_eq_true ⟨hx.1,Qxe hb hx.1 h hx.2⟩
 ·exact decide_eq_false λhx=>Ik hb hb hx.2 hx.2
 ·exact decide_eq_true ⟨hb,h⟩
def NQ (p:Uj):List Tm:=(WV p).getD []
structure KInv (c:Cr):Prop where
 ok:CrOk c
 k:∀ w∈c.l,w.known=true->Pg w.c.p c.now w.fails/\∀ t,w.fails=some t->t∈NQ w.c.p
theorem DT {p:Uj} (h:Cp p) {a:Tm} (ha:Va a):∃ r,SV p a=some r/\Pg p a r/\∀ t,r=some t->t∈NQ p:=by
 obtain ⟨l,l1,_,_,l3⟩:=JH h;obtain ⟨r,r1,r2,r3⟩:=l3 a ha;refine ⟨r,?_,r2,λt ht=>by unfold NQ; rw [l1]; exact r3 t ht⟩;unfold SV; rw [l1]; exact r1
theorem Qvd {p:Uj} (h:Cp p):∀ t∈NQ p,Va t:=by
 obtain ⟨l,l1,_,l2,_⟩:=JH h;unfold NQ; rw [l1]; exact l2
theorem eM {now:Tm} (hn:Va now):∀ {l:List Wt},(∀ w∈l,WtOk w)->(∀ w∈l,w.known=true->Pg w.c.p now w.fails/\∀ t,w.fails=some t->t∈NQ w.c.p) ->
 ∃ ws,I5 now l=some ws/\ws.map (·.c)=l.map (·.c)/\∀ w∈ws,w.known=true/\Pg w.c.p now w.fails/\∀ t,w.fails=some t->t∈NQ w.c.p
 | [],_,_=>⟨[],rfl,rfl,λw hw=>by cases hw⟩
 |
  w::l,h,h'=>by
  obtain ⟨ws,w1,w2,w3⟩:=eM hn (λv hv=>h v (Qg _ hv)) (λv hv=>h' v (Qg _ hv));by_cases hk:w.known=true
  ·refine ⟨w::ws,by simp only [I5,hk,if_true,w1]; rfl,by simp [w2],λv hv=>?_⟩;rcases Qm.1 hv with rfl | hv
   ·exact ⟨hk,h' v (by simp) hk⟩
   ·exact w3 v hv
  ·obtain ⟨r,r1,r2,r3⟩:=DT (h w (by simp)).p hn;refine ⟨⟨w.c,true,r⟩::ws,by simp only [I5]; rw [if_neg hk,r1,w1]; rfl,by simp [w2],λv hv=>?_⟩;rcases Qm.1 hv with rfl | hv
   ·exact ⟨rfl,r2,r3⟩
   ·exact w3 v hv
theorem eZ {at_:Tm} (ha:Va at_) {x:Ct}:∀ {l:List Wt},(∀ w∈l,WtOk w)->∃ w,Ca l x at_=some w/\w.c=x
 | [],_=>⟨fresh x,rfl,rfl⟩
 |
  v::l,h=>by
  obtain ⟨w,w1,w2⟩:=eZ ha (x:=x) λv hv=>h v (Qg _ hv)
  simp only [Ca]
  split
  ·cases hf:v.fails with
   | none=>exact ⟨_,rfl,rfl⟩
   |
    some t =>
    obtain ⟨c,c1,_⟩:=WO ((h v (by simp)).f t hf) ha;dsimp only;rw [c1];show ∃ w,(if 0<c then some ⟨x,true,some t⟩ else Ca l x at_)=some w/\w.c=x
    split
    ·exact ⟨_,rfl,rfl⟩
    ·exact ⟨w,w1,w2⟩
  ·exact ⟨w,w1,w2⟩
theorem mW {at_:Tm} (ha:Va at_) {ol:List Wt} (ho:∀ w∈ol,WtOk w):∀ l:List Ct,∃ ws,P6 ol at_ l=some ws/\ws.map (·.c)=l
 | []=>⟨[],rfl,rfl⟩
 |
  x::l=>by
  obtain ⟨w,w1,w2⟩:=eZ ha (x:=x) ho;obtain ⟨ws,s1,s2⟩:=mW ha ho l;exact ⟨w::ws,by simp only [P6,w1,s1]; rfl,by simp [w2,s2]⟩
theorem Qbd {out:List Ct} {c x:Ct}:x∈KF out c↔x=c\/x∈out:=by
 have h:x∈out↔x∈out.take (XA out c out.length)\/x∈out.drop (XA out c out.length):=by
  rw [<-Qq,Zk]
 simp only [KF,Qq,Qm,h];constructor
 ·rintro (h | h | h)
  ·exact .inr (.inl h)
  ·exact .inl h
  ·exact .inr (.inr h)
 ·rintro (h | h | h)
  ·exact .inr (.inl h)
  ·exact .inl h
  ·exact .inr (.inr h)
theorem ID:∀ (l acc:List Ct) {y:Ct},y∈l.foldl KF acc↔y∈l\/y∈acc
 | [],acc,y=>by simp
 |
  c::l,acc,y=>by
  simp only [Z9];rw [ID l,Qbd,Qm];constructor
  ·rintro (h | h | h)
   ·exact .inl (.inr h)
   ·exact .inl (.inl h)
   ·exact .inr h
  ·rintro ((h | h) | h)
   ·exact .inr (.inl h)
   ·exact .inl h
   ·exact .inr (.inr h)
theorem qA {l:List Ct} {x:Ct}:x∈Fp l↔x∈l:=by unfold Fp; rw [ID]; simp
theorem Quh {ws:List Wt} (hw:∀ w∈ws,WtOk w):∃ o,AY ws=some o/\match o with
 | none=>∀ w∈ws,w.fails=none
 | some a=>Va a/\(∃ w∈ws,w.fails=some a)/\∀ w∈ws,∀ t,w.fails=some t->¬P0 t a:=by
 have hv:∀ t∈ws.filterMap (·.fails),Va t:=λt ht=>by
  obtain ⟨w,w1,w2⟩:=Je.1 ht;exact (hw w w1).f t w2
 unfold AY;cases hf:ws.filterMap (·.fails) with
 |
  nil =>
  refine ⟨none,rfl,λw h=>?_⟩;cases e:w.fails with
  | none=>rfl
  |
   some t =>
   have:t∈ws.filterMap (·.fails):=Je.2 ⟨w,h,e⟩;rw [hf] at this; cases this
 |
  cons b l =>
  rw [hf] at hv;obtain ⟨m,m1,m2,m3⟩:=HA l b hv;refine ⟨some m,by show (QH b l).map some=_; rw [m1]; rfl,hv m m2,?_,λw h t e=>?_⟩
  ·rw [<-hf] at m2;exact Je.1 m2
  ·exact m3 t (by rw [<-hf]; exact Je.2 ⟨w,h,e⟩)
theorem Qs4 {t a:Tm} (ht:Va t) (ha:Va a) {c:Int} (h:WI t a=some c) (h0:0<c):P0 a t:=by
 obtain ⟨c',c1,c2⟩:=WO ht ha;rw [h] at c1; injection c1 with c1; subst c1;rcases c2 with ⟨e,_⟩ | ⟨e,_⟩ | ⟨_,e⟩
 ·omega
 ·omega
 ·exact e
theorem eK {ol ws:List Wt} {now a:Tm} {l:List Ct} (hn:Va now) (ha:Va a) (hna:¬P0 a now) (ho:∀ w∈ol,WtOk w) (hk:∀ w∈ol,w.known=true->Pg w.c.p now w.fails/\∀ t,w.fails=some t->t∈NQ w.c.p) (h:P6 ol a l=some ws) :
 ∀ w∈ws,w.known=true->Pg w.c.p a w.fails/\∀ t,w.fails=some t->t∈NQ w.c.p:=by
 obtain ⟨h1,h2⟩:=XW h;intro w hw hkn;obtain ⟨i,hi⟩:=Xt hw;have hil:i<l.length:=by rw [<-h1]; exact (Qf.1 hi).1
 obtain ⟨v,h3,h4⟩:=h2 i _ (Qe hil);rw [hi] at h4; injection h4 with h4; subst h4;rcases DY h3 with e | ⟨v,v1,v2,v3,e,v5⟩
 ·rw [e] at hkn; cases hkn
 ·obtain ⟨k1,k2⟩:=hk v v1 v2;rw [e];show Pg (l[i]).p a v.fails/\∀ t,v.fails=some t->t∈NQ (l[i]).p;rw [<-v3];refine ⟨Oa hn.cut ha.cut hna k1 λt ht=>?_,k2⟩;obtain ⟨c,c1,c2⟩:=v5 t ht;exact Qs4 ((ho v v1).f t ht) ha c1 c2
structure Stab {β:Type} (Bc:Tm->List Ct) (Br:Tm->β):Prop where
 ok:BuildOk Bc
 fin:∃ Ps:List (List Int),(∀ p∈Ps,Cp p)/\∀ a,Va a->∀ x∈Bc a,x.p∈Ps
 st:∀ a b,Va a->Va b->(∀ x∈Bc a,Hg (Fq b) x.p=Hg (Fq a) x.p)->Bc b=Bc a/\Br b=Br a
structure KSt {β:Type} (Bc:Tm->List Ct) (Br:Tm->β) (c:Cr) (r1:β):Prop where
 inv:KInv c
 cs:c.l.map (·.c)=Fp (Bc c.now)
 r:r1=Br c.now
inductive Evs (Bc:Tm->List Ct) (t:Rat):Tm->List Tm->Prop
 | nil {a:Tm} (h:∀ x∈Bc a,∃ o,Pg x.p a o/\∀ u,o=some u->P0 (tq t) u):Evs Bc t a []
 | cons {a e:Tm} {E:List Tm} (he:Va e) (h1:P0 a e) (h2:¬P0 (tq t) e) (h3:∀ x∈Bc a,∃ o,Pg x.p a o/\∀ u,o=some u->¬P0 u e) (h4:∃ x∈Bc a,Pg x.p a (some e)) (h5:Evs Bc t e E):Evs Bc t a (e::E)
theorem lM {β:Type} {Bc:Tm->List Ct} {Br:Tm->β} (S:Stab Bc Br) {t:Rat} (ht:Qs 1640000 t) {Ps:Uk} (hP:∀ p∈Ps,Cp p) (hPs:∀ a,Va a->∀ x∈Bc a,x.p∈Ps) :
 ∀ (m:Nat) (c:Cr) (r1:β) (n:Int),mu (Ps.flatMap NQ) c.now<=m->KSt Bc Br c r1->¬P0 (tq t) c.now ->
 ∃ c' r' E,KU Bc Br t (m+1) c r1 n=some (c',r',n+(E.length:Nat))/\c'.now=tq t/\KSt Bc Br c' r'/\c'.ev=c.ev+(E.length:Nat)/\E.length<=m/\Evs Bc t c.now E:=by
 have hT:∀ t∈Ps.flatMap NQ,Cut (Fj t):=λu hu=>by
  obtain ⟨p,p1,p2⟩:=Zo.1 hu;exact (Qvd (hP p p1) u p2).cut
 have hq:=GZ ht;intro m
 induction m with
 | zero=>?_
 | succ m ih=>?_
 all_goals
  intro c r1 n hm hS hnow;obtain ⟨⟨ok,kk⟩,hcs,hr⟩:=hS;obtain ⟨ws,w1,w2,w3⟩:=eM ok.n ok.l kk;have ok':=Ec ok w1;rw [hcs] at w2;have hc_w:∀ x∈Bc c.now,∃ w∈ws,w.c=x:=λx hx=>by
   have:x∈ws.map (·.c):=by rw [w2]; exact qA.2 hx
   exact Q9.1 this
  have hw_c:∀ w∈ws,w.c∈Bc c.now:=λw hw=>qA.1 (by rw [<-w2]; exact Wg hw)
  obtain ⟨o,o1,o2⟩:=Quh ok'.l;have fin:(∀ w∈ws,∀ u,w.fails=some u->P0 (tq t) u)->KSt Bc Br ⟨tq t,ws,c.ev⟩ r1/\Evs Bc t c.now []:=λhall=>by
   have hg:∀ x∈Bc c.now,Hg (Fq (tq t)) x.p=Hg (Fq c.now) x.p:=λx hx=>by
    obtain ⟨w,hw,rfl⟩:=hc_w x hx;exact OJ (S.ok.p _ ok.n _ hx).dp ok.n hq hnow (w3 w hw).2.1 (hall w hw)
   obtain ⟨s1,s2⟩:=S.st _ _ ok.n hq hg;refine ⟨⟨⟨⟨hq,ok'.l,ok'.k⟩,λw hw _=>⟨Oa ok.n.cut hq.cut hnow (w3 w hw).2.1 (hall w hw),(w3 w hw).2.2⟩⟩,?_,?_⟩,.nil λx hx=>?_⟩
   ·show ws.map (·.c)=Fp (Bc (tq t)); rw [w2,s1]
   ·show r1=Br (tq t); rw [s2,hr]
   ·obtain ⟨w,hw,rfl⟩:=hc_w x hx;exact ⟨_,(w3 w hw).2.1,hall w hw⟩
 ·cases o with
  |
   none =>
   obtain ⟨f1,f2⟩:=fin λw hw u hu=>by rw [o2 w hw] at hu; cases hu
   exact ⟨_,_,[],by simp only [KU]; rw [w1]; simp only [Jk]; rw [o1]; simp,rfl,f1,by simp,by simp,f2⟩
  |
   some a =>
   obtain ⟨va,⟨w,hw,hwa⟩,hmin⟩:=o2;by_cases h0:0<Fj a t
   ·obtain ⟨f1,f2⟩:=fin λv hv u hu=>by
     have hu':=(ok'.l v hv).f u hu;exact eG hq.cut va.cut hu'.cut ((QY va.cut).1 h0) (hmin v hv u hu)
    exact ⟨_,_,[],by simp only [KU]; rw [w1]; simp only [Jk]; rw [o1]; simp [h0],rfl,f1,by simp,by simp,f2⟩
   ·exfalso;obtain ⟨k1,k2,k3⟩:=w3 w hw;rw [hwa] at k2;have:a∈Ps.flatMap NQ:=Zo.2 ⟨_,hPs _ ok.n _ (hw_c w hw),k3 a hwa⟩;have:=Qq7 ok.n.cut va.cut hT k2.2.2.1 this;omega
 ·cases o with
  |
   none =>
   obtain ⟨f1,f2⟩:=fin λw hw u hu=>by rw [o2 w hw] at hu; cases hu
   exact ⟨_,_,[],by simp only [KU]; rw [w1]; simp only [Jk]; rw [o1]; simp,rfl,f1,by simp,by simp,f2⟩
  |
   some a =>
   obtain ⟨va,⟨w,hw,hwa⟩,hmin⟩:=o2;by_cases h0:0<Fj a t
   ·obtain ⟨f1,f2⟩:=fin λv hv u hu=>by
     have hu':=(ok'.l v hv).f u hu;exact eG hq.cut va.cut hu'.cut ((QY va.cut).1 h0) (hmin v hv u hu)
    exact ⟨_,_,[],by simp only [KU]; rw [w1]; simp only [Jk]; rw [o1]; simp [h0],rfl,f1,by simp,by simp,f2⟩
   ·obtain ⟨k1,k2,k3⟩:=w3 w hw;rw [hwa] at k2;have hna:=jF ok.n.cut va.cut k2.2.2.1;have hmem:a∈Ps.flatMap NQ:=Zo.2 ⟨_,hPs _ ok.n _ (hw_c w hw),k3 a hwa⟩;have hlt:=Qq7 ok.n.cut va.cut hT k2.2.2.1 hmem;obtain ⟨w2',l1,l2⟩:=mW va ok'.l (Fp (Bc a));have hl:=eK ok.n va hna ok'.l (λv hv _=>(w3 v hv).2) l1;have hS':KSt Bc Br ⟨a,w2',c.ev+1⟩ (Br a):=⟨⟨Orr.lay_ok _ ok' va (S.ok.p a va) (S.ok.n a va) l1,hl⟩,l2,rfl⟩;obtain ⟨c',r',E,g1,g2,g3,g4,g5,g6⟩:=ih ⟨a,w2',c.ev+1⟩ (Br a) (n+1) (by show mu _ a<=m; omega) hS' (λh=>h0 ((QY va.cut).2 h));refine ⟨c',r',a::E,?_,g2,g3,by rw [g4]; simp; omega,by simp; omega,.cons va k2.2.2.1 (λh=>h0 ((QY va.cut).2 h)) (λx hx=>?_) ⟨w.c,hw_c w hw,k2⟩ g6⟩
    ·conv=>lhs; unfold KU
     rw [w1]; simp only [Jk]; rw [o1]; simp only [Jk]; rw [if_neg h0,l1]; simp only [Jk];rw [g1]; simp; omega
    ·obtain ⟨v,hv,rfl⟩:=hc_w x hx;exact ⟨_,(w3 v hv).2.1,hmin v hv⟩
end Orq
namespace Orq
open Orr Go
theorem jN {p:Uj} {a a':Tm} (h:∀ q,Fj a q=Fj a' q) {o:Option Tm} (hn:Pg p a o):Pg p a' o:=by
 have e:Fj a=Fj a':=funext h;unfold Pg Leq P0 at *;rw [<-e]; exact hn
theorem cJ {a b:Tm} (ha:Cut (Fj a)) (hb:Cut (Fj b)) (h:¬P0 a b) (h':¬P0 b a):∀ q,Fj a q=Fj b q:=by
 rcases tri ha hb with h1 | h1 | h1
 ·exact absurd h1 h
 ·exact h1
 ·exact absurd h1 h'
theorem iT {a b b':Tm} (h:∀ q,Fj b q=Fj b' q):P0 a b↔P0 a b':=by
 unfold P0; simp only [h]
theorem JU {a b b':Tm} (h:∀ q,Fj b q=Fj b' q):P0 b a↔P0 b' a:=by
 unfold P0; simp only [h]
theorem QN {p:Uj} {a:Tm} (ha:Va a) {t t':Tm} (h:Pg p a (some t)) (h':Pg p a (some t')):∀ q,Fj t q=Fj t' q:=by
 obtain ⟨_,v,l,s,s0,h4,h5⟩:=h;obtain ⟨_,v',l',s',s0',h4',h5'⟩:=h';have es:s=s':=FS (h4 _ ha.cut (λ_ h=>h) l) (h4' _ ha.cut (λ_ h=>h) l');refine cJ v.cut v'.cut (λhlt=>?_) λhlt=>?_
 ·have:=FS (h4' _ v.cut (HO ha.cut v.cut (jF ha.cut v.cut l)) hlt) h5;omega
 ·have:=FS (h4 _ v'.cut (HO ha.cut v'.cut (jF ha.cut v'.cut l')) hlt) h5';omega
theorem P8 {p:Uj} {a:Tm} (ha:Va a) {t:Tm} (h:Pg p a (some t)) (h':Pg p a none):False:=by
 obtain ⟨h1,v,l,s,s0,h4,h5⟩:=h;rcases h' with h' | ⟨s',s0',h'⟩
 ·exact h1 h'
 ·have e1:=FS (h' _ ha.cut λ_ h=>h) (h4 _ ha.cut (λ_ h=>h) l);have e2:=FS (h' _ v.cut (HO ha.cut v.cut (jF ha.cut v.cut l))) h5;omega
structure Quiet {β:Type} (Bc:Tm->List Ct) (Br:Tm->β) (a b:Tm):Prop where
 va:Va a
 vb:Va b
 le:¬P0 b a
 n:∀ x∈Bc a,∃ o,Pg x.p a o/\∀ u,o=some u->P0 b u
section
variable {β:Type} {Bc:Tm->List Ct} {Br:Tm->β} (S:Stab Bc Br)
include S
theorem Quiet.same {a b:Tm} (h:Quiet Bc Br a b):Bc b=Bc a/\Br b=Br a:=by
 refine S.st a b h.va h.vb λx hx=>?_
 obtain ⟨o,o1,o2⟩:=h.n x hx;exact OJ (S.ok.p _ h.va _ hx).dp h.va h.vb h.le o1 o2
theorem TX {a b:Tm} (ha:Va a) (hb:Va b) (h:∀ q,Fj a q=Fj b q):Quiet Bc Br a b:=by
 refine ⟨ha,hb,λh'=>Ik hb.cut hb.cut ((iT h).1 h') ((iT h).1 h'),λx hx=>?_⟩;obtain ⟨r,_,r2,_⟩:=DT (S.ok.p _ ha _ hx) ha;refine ⟨r,r2,λu hu=>?_⟩;subst hu;obtain ⟨q,q1,q2⟩:=r2.2.2.1;exact ⟨q,by rw [<-h]; exact q1,q2⟩
theorem IG {t:Rat} {a:Tm} {E:List Tm} (hE:Evs Bc t a E):∀ {b:Tm} {E':List Tm},Quiet Bc Br a b->Evs Bc t b E'->E.length=E'.length:=by
 induction hE with
 |
  @nil a h =>
  intro b E' hq hE';have hs:=(Quiet.same S hq).1;cases hE' with
  | nil _=>rfl
  |
   cons he h1 h2 h3 h4 h5 =>
   exfalso;obtain ⟨x,hx,hx2⟩:=h4;rw [hs] at hx;obtain ⟨o,o1,o2⟩:=h x hx;obtain ⟨o',o1',o2'⟩:=hq.n x hx;cases o with
   |
    none =>
    cases o' with
    | none=>exact P8 hq.vb hx2 (Oa hq.va.cut hq.vb.cut hq.le o1' o2')
    | some u=>exact P8 hq.va o1' o1
   |
    some u =>
    cases o' with
    | none=>exact P8 hq.va o1 o1'
    |
     some u' =>
     have e1:=QN hq.va o1 o1';have e2:=QN hq.vb (Oa hq.va.cut hq.vb.cut hq.le o1' o2') hx2;obtain ⟨q,q1,q2⟩:=o2 u rfl;exact h2 ⟨q,q1,by rw [<-e2,<-e1]; exact q2⟩
 |
  @cons a e E he h1 h2 h3 h4 h5 ih =>
  intro b E' hq hE';have hs:=(Quiet.same S hq).1;have nx:∀ x∈Bc a,∀ u,Pg x.p a (some u)->P0 b u/\Pg x.p b (some u):=λx hx u hu=>by
   obtain ⟨o',o1',o2'⟩:=hq.n x hx;cases o' with
   | none=>exact (P8 hq.va hu o1').elim
   |
    some u' =>
    have e1:=QN hq.va o1' hu;have hb':=o2' u' rfl;have hb2:P0 b u:=by obtain ⟨q,q1,q2⟩:=hb'; exact ⟨q,q1,by rw [<-e1]; exact q2⟩
    exact ⟨hb2,Oa hq.va.cut hq.vb.cut hq.le hu λv hv=>by injection hv with hv; subst hv; exact hb2⟩
  obtain ⟨x0,hx0,hn0⟩:=h4;obtain ⟨hb0,hnb0⟩:=nx x0 hx0 e hn0;cases hE' with
  |
   nil h' =>
   exfalso;obtain ⟨o,o1,o2⟩:=h' x0 (by rw [hs]; exact hx0);cases o with
   | none=>exact P8 hq.vb hnb0 o1
   |
    some u =>
    have e1:=QN hq.vb o1 hnb0;obtain ⟨q,q1,q2⟩:=o2 u rfl;exact h2 ⟨q,q1,by rw [<-e1]; exact q2⟩
  |
   @cons _ e' E'' he' h1' h2' h3' h4' h5' =>
   obtain ⟨x1,hx1,hn1⟩:=h4';rw [hs] at hx1;have a1:¬P0 e' e:=λhlt=>by
    obtain ⟨o,o1,o2⟩:=h3 x1 hx1;cases o with
    |
     none =>
     obtain ⟨o',o1',o2'⟩:=hq.n x1 hx1;cases o' with
     | none=>exact P8 hq.vb hn1 (Oa hq.va.cut hq.vb.cut hq.le o1' o2')
     | some u=>exact P8 hq.va o1' o1
    |
     some u =>
     have e2:=QN hq.vb (nx x1 hx1 u o1).2 hn1;exact o2 u rfl ((JU e2).2 hlt)
   have a2:¬P0 e e':=λhlt=>by
    obtain ⟨o,o1,o2⟩:=h3' x0 (by rw [hs]; exact hx0);cases o with
    | none=>exact P8 hq.vb hnb0 o1
    |
     some u =>
     have e2:=QN hq.vb o1 hnb0;exact o2 u rfl ((JU e2).2 hlt)
   have:=ih (TX S he he' (cJ he.cut he'.cut a2 a1)) h5';simp [this]
theorem Qtm {t:Rat} {a:Tm} (ha:Va a) {E E':List Tm} (h:Evs Bc t a E) (h':Evs Bc t a E'):E.length=E'.length:=IG S h (TX S ha ha λ_=>rfl) h'
theorem Qnf {t1 t2:Rat} (h12:t1<=t2) (ht:Va (tq t1)) {a:Tm} {E1:List Tm} (h:Evs Bc t1 a E1):∀ {E2 E:List Tm},Va a->¬P0 (tq t1) a->Evs Bc t2 (tq t1) E2->Evs Bc t2 a E->E.length=E1.length+E2.length:=by
 have lt12:∀ {u:Tm},P0 (tq t2) u->P0 (tq t1) u:=λ⟨q,q1,q2⟩=>⟨q,by
  rw [SL] at q1 ⊢;rcases Tw t1 q with ⟨e,h⟩ | ⟨e,h⟩ | ⟨e,h⟩ <;> rcases Tw t2 q with ⟨e',h'⟩ | ⟨e',h'⟩ | ⟨e',h'⟩ <;> grind,q2⟩
 induction h with
 |
  @nil a h =>
  intro E2 E ha hle h2 h';have:=IG S h' ⟨ha,ht,hle,h⟩ h2;simp [this]
 |
  @cons a e E1 he b1 b2 b3 b4 b5 ih =>
  intro E2 E ha hle h2 h';obtain ⟨x0,hx0,hn0⟩:=b4;cases h' with
  |
   nil g =>
   exfalso;obtain ⟨o,o1,o2⟩:=g x0 hx0;cases o with
   | none=>exact P8 ha hn0 o1
   |
    some u =>
    have e1:=QN ha o1 hn0;obtain ⟨q,q1,q2⟩:=lt12 (o2 u rfl);exact b2 ⟨q,q1,by rw [<-e1]; exact q2⟩
  |
   @cons _ e' E'' he' c1 c2 c3 c4 c5 =>
   obtain ⟨x1,hx1,hn1⟩:=c4;have a1:¬P0 e' e:=λhlt=>by
    obtain ⟨o,o1,o2⟩:=b3 x1 hx1;cases o with
    | none=>exact P8 ha hn1 o1
    | some u=>exact o2 u rfl ((JU (QN ha o1 hn1)).2 hlt)
   have a2:¬P0 e e':=λhlt=>by
    obtain ⟨o,o1,o2⟩:=c3 x0 hx0;cases o with
    | none=>exact P8 ha hn0 o1
    | some u=>exact o2 u rfl ((JU (QN ha o1 hn0)).2 hlt)
   have eq:=cJ he'.cut he.cut a1 a2;have hE:∃ E3,Evs Bc t2 e E3/\E3.length=E''.length:=by
    have hs:=(Quiet.same S (TX S he' he eq)).1;cases c5 with
    | nil g=>exact ⟨[],.nil λx hx=>by
     rw [hs] at hx;obtain ⟨o,o1,o2⟩:=g x hx;exact ⟨o,jN eq o1,o2⟩,rfl⟩
    |
     @cons _ f F hf d1 d2 d3 d4 d5 =>
     refine ⟨f::F,.cons hf ((JU eq).1 d1) d2 (λx hx=>?_) ?_ d5,rfl⟩
     ·rw [hs] at hx;obtain ⟨o,o1,o2⟩:=d3 x hx;exact ⟨o,jN eq o1,o2⟩
     ·obtain ⟨x,hx,hxn⟩:=d4;exact ⟨x,by rw [hs]; exact hx,jN eq hxn⟩
   obtain ⟨E3,h3,h4⟩:=hE;have:=ih he b2 h2 h3;simp only [Q7];omega
end
theorem Qpq {p:Uj} (h:Cp p):(NQ p).length<=67:=by
 obtain ⟨l,l1,l2,_⟩:=JH h;unfold NQ; rw [l1]; exact l2
theorem NX:∀ {Ps:Uk},(∀ p∈Ps,Cp p)->(Ps.flatMap NQ).length≤67*Ps.length
 | [],_=>Qh _
 |
  p::Ps,h=>by
  have h1:=Qpq (h p (by simp));have h2:=NX (Ps:=Ps) λq hq=>h q (Qg _ hq)
  rw [Jx,Qy,Q7]; omega
theorem Qhn (T:List Tm) (a:Tm):mu T a<=T.length:=Yy _ _
theorem Qc0 {β:Type} {Bc:Tm->List Ct} {Br:Tm->β} (S:Stab Bc Br) {Ps:Uk} (hP:∀ p∈Ps,Cp p) (hPs:∀ a,Va a->∀ x∈Bc a,x.p∈Ps) (hl:Ps.length≤1000000) {t:Rat} (ht:Qs 1640000 t) {c:Cr} {r:β} (hS:KSt Bc Br c r) (h:Fj c.now t≤0) :
 ∃ (K:Nat) (c':Cr) (E:List Tm),K<=67000001/\KU Bc Br t K c r 0=some (c',Br (tq t),((E.length:Nat):Int))/\c'.now=tq t/\KSt Bc Br c' (Br (tq t))/\c'.ev=c.ev+((E.length:Nat):Int)/\E.length<=67000000/\Evs Bc t c.now E:=by
 have hm:=NX hP;have hmu:=Qhn (Ps.flatMap NQ) c.now;have hv:=hS.inv.ok.n;obtain ⟨c',r',E,g1,g2,g3,g4,g5,g6⟩:=lM S ht hP hPs (mu (Ps.flatMap NQ) c.now) c r 0 (Ql _) hS λh'=>by
  have:=(QY hv.cut).2 h'; omega
 have hr:r'=Br (tq t):=by rw [g3.r,g2]
 rw [hr] at g1 g3;rw [Int.zero_add] at g1;exact ⟨_,c',E,by omega,g1,g2,g3,g4,by omega,g6⟩
theorem sK {β:Type} {Bc:Tm->List Ct} {Br:Tm->β} (S:Stab Bc Br) {a:Tm} (ha:Va a):KSt Bc Br ⟨a,(Fp (Bc a)).map fresh,0⟩ (Br a):=by
 refine ⟨⟨⟨ha,λw hw=>?_,?_⟩,λw hw hk=>?_⟩,?_,rfl⟩
 ·obtain ⟨x,hx,rfl⟩:=Q9.1 hw;exact ⟨S.ok.p _ ha x (Rv hx),λt ht=>by cases ht⟩
 ·show ((Fp (Bc a)).map fresh).length<=1000;rw [Q8,Mn]; exact S.ok.n _ ha
 ·obtain ⟨x,hx,rfl⟩:=Q9.1 hw;cases hk
 ·show ((Fp (Bc a)).map fresh).map (·.c)=Fp (Bc a);rw [List.map_map];show (Fp (Bc a)).map (λx=>x)=_;rw [List.map_id']
end Orq
namespace Orr
open Go Go.Proofs Tryz Orq
set_option maxRecDepth 10000
theorem Qfh {a b:Pt} (ha:Sc a.c) (hb:Sc b.c):Cp (Ak a b):=YX (M3 ha hb) (Mz ha hb)
def O2 (l:List Pt) (a:Tm):List Ct:=Sp (Fq a) (Tq a l)
abbrev tH (l:List Pt) (a:Tm):Up:=Uy (Tq a l)
theorem rJ {sg:Uj->Int}:∀ {l:List Pt},(∀ p∈l,Sc p.c)->∀ x∈Sp sg l,Cp x.p
 | [],_,x,hx=>by cases hx
 | [_],_,x,hx=>by cases hx
 |
  a::b::l,h,x,hx=>by
  simp only [Sp] at hx;rcases Qm.1 hx with rfl | hx
  ·exact Qfh (h a (by simp)) (h b (by simp))
  ·exact rJ (λp hp=>h p (Qg _ hp)) x hx
theorem Hm {t:Tm} {l:List Pt} {p:Pt}:p∈Tq t l↔p∈l:=by
 unfold Tq Lx; rw [KV]; simp
theorem Ng (t:Tm) (l:List Pt):(Tq t l).length=l.length:=qI _ _
theorem sX {l:List Pt} (hl:∀ p∈l,Sc p.c) (hn:l.length≤1000):BuildOk (O2 l) :=
 ⟨λa _ x hx=>rJ (λp hp=>hl p (Hm.1 hp)) x hx,λa _=>by unfold O2; rw [Bl,Ng]; omega⟩
theorem AN {l:List Pt} {a:Tm} {c:Cr} {r1:Up} (hl:∀ p∈l,Sc p.c) (hn:l.length≤1000) (ha:Va a):U5 prog 128 [.one (.ow 0 0),.agg (ta a)] [.blk 184 (Hq c (Uy l) r1)] [.one (.row (U6 (O2 l a)))] [.blk 184 (Hq c (Uy l) (tH l a))]:=by
 have cr:=kK hl (by omega) ha;have cc:=NL (l:=Tq a l) (t:=a) (λp hp=>hl p (Hm.1 hp)) (by rw [Ng]; omega) ha;refine Fw func128 rfl ?_;exact Ue [] [0] [.k If,.k cr,.k cc] rfl
theorem Qae {l:List Pt} {a:Tm} (hl:∀ p∈l,Sc p.c) (hn:l.length≤1000) (ha:Va a):U5 prog 128 [.one (.ow 0 0),.agg (ta a)] [.blk 184 (pV (.row (Uy l)) .nils)] [.one (.row (U6 (O2 l a)))] [.blk 184 (pV (.row (Uy l)) (.row (tH l a)))]:=by
 have cr:=kK hl (by omega) ha;have cc:=NL (l:=Tq a l) (t:=a) (λp hp=>hl p (Hm.1 hp)) (by rw [Ng]; omega) ha;refine Fw func128 rfl ?_;exact Ue [] [0] [.k If,.k cr,.k cc] rfl
def Qle (l:List Pt) (a:Tm):Cr:=⟨a,(Fp (O2 l a)).map fresh,0⟩
end Orr
namespace Orq
open Orr Go
theorem XZ {a:Tm} (ha:Va a):∀ (L:Uk),(∀ p∈L,Dp p)->∃ y,Fj a y=-1/\∀ q,Fj a q=-1->q≤y->∀ p∈L,Hg (Fq a) p=Fc (U7 p q)
 |
  [],_=>by
  obtain ⟨y,hy⟩:=ha.cut.hi;exact ⟨y,hy,λq _ _ p hp=>by cases hp⟩
 |
  p::L,h=>by
  obtain ⟨y,y1,y2⟩:=XZ ha L (λq hq=>h q (Qg _ hq));by_cases h0:p.length=0
  ·obtain rfl:=Qj h0;refine ⟨y,y1,λq q1 q2 r hr=>?_⟩;rcases Qm.1 hr with rfl | hr
   ·rw [XQ]; exact (Gj.2 rfl).symm
   ·exact y2 q q1 q2 r hr
  ·obtain ⟨⟨z,z1,z2⟩,_⟩:=Ea ha (h p (by simp)) h0;refine ⟨if y<=z then y else z,by split <;> assumption,λq q1 q2 r hr=>?_⟩;rcases Qm.1 hr with rfl | hr
   ·rw [<-U8]; exact (z2 q q1 (by grind)).symm
   ·exact y2 q q1 (by grind) r hr
section Srt
variable {α:Type} {lt:α->α->Bool} {R:α->α->Prop}
theorem qG (irr:∀ x,¬R x x) (tr:∀ x y z,R x y->R y z->R x z):∀ {l m:List α},l.Pairwise R->m.Pairwise R->(∀ x,x∈l↔x∈m)->l=m
 | [],[],_,_,_=>rfl
 | [],y::m,_,_,h=>by have:=(h y).2 (by simp); cases this
 | x::l,[],_,_,h=>by have:=(h x).1 (by simp); cases this
 |
  x::l,y::m,hl,hm,h=>by
  rw [Ze] at hl hm;have e:x=y:=by
   rcases Qm.1 ((h x).1 (by simp)) with e | h1
   ·exact e
   ·rcases Qm.1 ((h y).2 (by simp)) with e | h2
    ·exact e.symm
    ·exact absurd (tr _ _ _ (hl.1 y h2) (hm.1 x h1)) (irr x)
  subst e;rw [qG irr tr hl.2 hm.2 λz=>?_];constructor
  ·intro hz;rcases Qm.1 ((h z).1 (Qg _ hz)) with e | h1
   ·subst e; exact absurd (hl.1 z hz) (irr z)
   ·exact h1
  ·intro hz;rcases Qm.1 ((h z).2 (Qg _ hz)) with e | h1
   ·subst e; exact absurd (hm.1 z hz) (irr z)
   ·exact h1
theorem qY {out:List α} {x:α}:∀ k,k<=out.length->(∀ j y,Lo lt out x k<=j->j<k->out[j]? = some y->lt x y=true)/\(0<Lo lt out x k->∃ y,out[Lo lt out x k-1]? = some y/\lt x y=false)
 | 0,_=>⟨λj y _ h=>by omega,λh=>by simp [Lo] at h⟩
 |
  k+1,hk=>by
  obtain ⟨y,hy⟩:=gxE (l:=out) (i:=k) (by omega);by_cases h:lt x y=true
  ·rw [aB hy h];obtain ⟨h1,h2⟩:=qY (out:=out) (x:=x) k (by omega);refine ⟨λj z a1 a2 a3=>?_,h2⟩;by_cases e:j=k
   ·subst e; rw [hy] at a3; injection a3 with a3; subst a3; exact h
   ·exact h1 j z a1 (by omega) a3
  ·have h:lt x y=false:=by simpa using h
   rw [gV hy h];exact ⟨λj z a1 a2 _=>by omega,λ_=>⟨y,by simpa using hy,h⟩⟩
theorem Qnn (tr:∀ x y z,R x y->R y z->R x z) {out:List α} {x:α} (ho:out.Pairwise R) (h1:∀ y∈out,lt x y=true->R x y) (h2:∀ y∈out,lt x y=false->R y x):(Lk lt out x).Pairwise R:=by
 obtain ⟨s1,s2⟩:=qY (lt:=lt) (out:=out) (x:=x) out.length (Ql _);have hle:=yJ lt out x out.length;unfold Lk;obtain ⟨k,hk⟩:=nmE (Lo lt out x out.length);rw [<-hk] at s1 s2 hle ⊢;have hd:(out.take k++out.drop k).Pairwise R:=by rw [Zk]; exact ho
 obtain ⟨d1,d2,d3⟩:=Jj.1 hd;have hR:∀ y∈out.drop k,R x y:=λy hy=>by
  obtain ⟨i,hi⟩:=Xt hy;rw [Xc] at hi;have:k+i<out.length:=(Qf.1 hi).1;exact h1 y (Q3 hy) (s1 (k+i) y (by omega) this hi)
 have hL:∀ y∈out.take k,R y x:=λy hy=>by
  obtain ⟨i,hi⟩:=Xt hy;have hik:i<k:=by have:=(Qf.1 hi).1; simp at this; omega
  rw [Kd hik] at hi;obtain ⟨z,z1,z2⟩:=s2 (by omega);have hz:=h2 z (Qa z1) z2;by_cases e:i=k-1
  ·subst e; rw [hi] at z1; injection z1 with z1; subst z1; exact hz
  ·have hp:=V8.1 ho i (k-1) (by omega) (by omega) (by omega);obtain ⟨_,e1⟩:=Qf.1 hi;obtain ⟨_,e2⟩:=Qf.1 z1;rw [e1,e2] at hp;exact tr _ _ _ hp hz
 refine Jj.2 ⟨d1,Ze.2 ⟨hR,d2⟩,λy hy z hz=>?_⟩;rcases Qm.1 hz with rfl | hz
 ·exact hL y hy
 ·exact d3 y hy z hz
theorem CM (tr:∀ x y z,R x y->R y z->R x z) {S:α->Prop} (h1:∀ x y,S x->S y->lt x y=true->R x y) {D:α->α->Prop} (h2:∀ x y,S x->S y->D y x->lt x y=false->R y x) :
 ∀ (l acc:List α),acc.Pairwise R->(∀ x∈acc,S x)->(∀ x∈l,S x)->l.Pairwise D->(∀ x∈acc,∀ y∈l,D x y)->(l.foldl (Lk lt) acc).Pairwise R
 | [],acc,ha,_,_,_,_=>ha
 |
  x::l,acc,ha,hs,hl,hd,hx=>by
  rw [Ze] at hd;refine CM tr h1 h2 l (Lk lt acc x) ?_ ?_ (λy hy=>hl y (Qg _ hy)) hd.2 ?_
  ·exact Qnn tr ha (λy hy=>h1 x y (hl x (by simp)) (hs y hy)) (λy hy=>h2 x y (hl x (by simp)) (hs y hy) (hx y hy x (by simp)))
  ·intro y hy;rcases UP.1 hy with rfl | hy
   ·exact hl _ (by simp)
   ·exact hs y hy
  ·intro y hy z hz;rcases UP.1 hy with rfl | hy
   ·exact hd.1 z hz
   ·exact hx y hy z (Qg _ hz)
theorem qF:∀ {l:List α},l.Pairwise R->∀ {u v:α},u∈l->v∈l->u≠v->R u v\/R v u
 | [],_,_,_,h,_,_=>by cases h
 |
  x::l,hp,u,v,hu,hv,hne=>by
  rw [Ze] at hp;rcases Qm.1 hu with e | hu
  ·rcases Qm.1 hv with e' | hv
   ·exact absurd (e.trans e'.symm) hne
   ·rw [e]; exact .inl (hp.1 v hv)
  ·rcases Qm.1 hv with e' | hv
   ·rw [e']; exact .inr (hp.1 u hu)
   ·exact qF hp.2 hu hv hne
end Srt
def px (p:Pt) (q:Rat):Rat:=U7 p.c.x q / (p.c.d:Rat)
def py (p:Pt) (q:Rat):Rat:=U7 p.c.y q / (p.c.d:Rat)
def Cv (q:Rat) (x y:Pt):Prop:=px x q<px y q\/px x q=px y q/\(py x q<py y q\/py x q=py y q/\x.id<y.id)
theorem XR (q:Rat) (x:Pt):¬Cv q x x:=by unfold Cv; grind
theorem YU (q:Rat) (x y z:Pt) (h:Cv q x y) (h':Cv q y z):Cv q x z:=by unfold Cv at *; grind
theorem uE {q:Rat} {x y:Pt} (h:x.id≠y.id) (h':¬Cv q x y):Cv q y x:=by unfold Cv at *; grind
theorem qE {u v:Rat} {c d:Int} (hc:0<c) (hd:0<d):Fc (v*(c:Rat)-u*(d:Rat))=Fc (v / (d:Rat)-u / (c:Rat)):=by
 have hc':(0:Rat)<(c:Rat):=by exact_mod_cast hc
 have hd':(0:Rat)<(d:Rat):=by exact_mod_cast hd
 have e:v*(c:Rat)-u*(d:Rat)=((c:Rat)*(d:Rat))*(v / (d:Rat)-u / (c:Rat)):=by
  rw [Jt,Jt];have h1:=Wq (c:Rat) (by grind);have h2:=Wq (d:Rat) (by grind);grind
 rw [e,Ck (Xp hc' hd')]
theorem TQ {x y:Pt} (hx:Sc x.c) (hy:Sc y.c) (q:Rat):Fc (U7 (Gg x.c y.c) q)=Fc (px y q-px x q):=by
 unfold Gg px; rw [Na,Ri,Ri]; exact qE hx.n.2.2.1 hy.n.2.2.1
theorem RO {x y:Pt} (hx:Sc x.c) (hy:Sc y.c) (q:Rat):Fc (U7 (Gf x.c y.c) q)=Fc (py y q-py x q):=by
 unfold Gf py; rw [Na,Ri,Ri]; exact qE hx.n.2.2.1 hy.n.2.2.1
theorem NP {a:Tm} (ha:Va a) {x y:Pt} (hx:Sc x.c) (hy:Sc y.c) {q:Rat} (h1:Hg (Fq a) (Gg x.c y.c)=Fc (U7 (Gg x.c y.c) q)) (h2:Hg (Fq a) (Gf x.c y.c)=Fc (U7 (Gf x.c y.c) q)):Tk (Fq a) x y=true↔Cv q x y:=by
 rw [TQ hx hy] at h1;rw [RO hx hy] at h2;have d1:=(M3 hx hy).dp;have d2:=(Mz hx hy).dp;unfold Tk;simp only [Ln];have t1:=Fu (px y q-px x q);have t2:=Fu (py y q-py x q);by_cases e1:(Gg x.c y.c).length=0
 ·rw [if_neg (by omega)];rw [Qj e1,XQ] at h1;have:px x q=px y q:=by grind
  by_cases e2:(Gf x.c y.c).length=0
  ·rw [if_neg (by omega)];rw [Qj e2,XQ] at h2;unfold Cv;simp only [decide_eq_true_eq];grind
  ·rw [if_pos (by omega)];have:=(Ea ha d2 e2).2;unfold Cv;simp only [decide_eq_true_eq];grind
 ·rw [if_pos (by omega)];have:=(Ea ha d1 e1).2;unfold Cv;simp only [decide_eq_true_eq];grind
def Lz (l:List Pt):Uk:=l.flatMap λx=>l.flatMap λy=>[Gg x.c y.c,Gf x.c y.c]
theorem Tv {l:List Pt} {x y:Pt} (hx:x∈l) (hy:y∈l):Gg x.c y.c∈Lz l/\Gf x.c y.c∈Lz l :=
 ⟨Zo.2 ⟨x,hx,Zo.2 ⟨y,hy,by simp⟩⟩,Zo.2 ⟨x,hx,Zo.2 ⟨y,hy,by simp⟩⟩⟩
theorem O1 {l:List Pt} (hl:∀ p∈l,Sc p.c):∀ p∈Lz l,Cp p:=λp hp=>by
 obtain ⟨x,hx,hp⟩:=Zo.1 hp;obtain ⟨y,hy,hp⟩:=Zo.1 hp;simp at hp;rcases hp with rfl | rfl
 ·exact M3 (hl x hx) (hl y hy)
 ·exact Mz (hl x hx) (hl y hy)
theorem iV {l:List Pt} (hl:∀ p∈l,Sc p.c) (hd:l.Pairwise λx y=>x.id≠y.id) {a:Tm} (ha:Va a):∃ y,Fj a y=-1/\∀ q,Fj a q=-1->q≤y->(∀ u∈l,∀ v∈l,(Tk (Fq a) u v=true↔Cv q u v))/\(Tq a l).Pairwise (Cv q):=by
 obtain ⟨y,y1,y2⟩:=XZ ha (Lz l) λp hp=>(O1 hl p hp).dp
 refine ⟨y,y1,λq q1 q2=>?_⟩;have h:=y2 q q1 q2;have hb:∀ u∈l,∀ v∈l,(Tk (Fq a) u v=true↔Cv q u v):=λu hu v hv=>NP ha (hl u hu) (hl v hv) (h _ (Tv hu hv).1) (h _ (Tv hu hv).2)
 refine ⟨hb,?_⟩;exact CM (S:=λx=>x∈l) (D:=λx y=>x.id≠y.id) (YU q) (λu v hu hv h=>(hb u hu v hv).1 h) (λu v hu hv hne h=>uE (λe=>hne e.symm) λh'=>by
  rw [(hb u hu v hv).2 h'] at h; cases h) l [] .nil (λx hx=>by cases hx) (λx hx=>hx) hd (λx hx=>by cases hx)
theorem nQ {a b:Tm} {x y:Pt} (h:Hg (Fq b) (Ak x y)=Hg (Fq a) (Ak x y)):Tk (Fq b) x y=Tk (Fq a) x y:=by
 unfold Ak Lj at h;unfold Tk;simp only [Ln];by_cases e1:0<(Gg x.c y.c).length
 ·rw [if_pos e1,if_pos e1]; rw [if_pos e1] at h; rw [h]
 ·rw [if_neg e1,if_neg e1]; rw [if_neg e1] at h; rw [h]
theorem BG {a b:Tm} {q r:Rat}:∀ (l:List Pt),(∀ u∈l,∀ v∈l,(Tk (Fq a) u v=true↔Cv q u v))->(∀ u∈l,∀ v∈l,(Tk (Fq b) u v=true↔Cv r u v))->l.Pairwise (Cv q)->(∀ x∈Sp (Fq a) l,Hg (Fq b) x.p=Hg (Fq a) x.p)->l.Pairwise (Cv r)/\Sp (Fq b) l=Sp (Fq a) l
 | [],_,_,_,_=>⟨.nil,rfl⟩
 | [x],_,_,_,_=>⟨Kk _ _,rfl⟩
 |
  x::y::l,ha,hb,hp,hc=>by
  rw [Ze] at hp;obtain ⟨i1,i2⟩:=BG (a:=a) (b:=b) (q:=q) (r:=r) (y::l) (λu hu v hv=>ha u (Qg _ hu) v (Qg _ hv)) (λu hu v hv=>hb u (Qg _ hu) v (Qg _ hv)) hp.2 (λz hz=>hc z (by simp only [Sp]; exact Qg _ hz));have h0:Hg (Fq b) (Ak x y)=Hg (Fq a) (Ak x y):=hc (QP (Fq a) x y) (by simp [Sp]);have h1:Cv r x y:=(hb x (by simp) y (by simp)).1 (by rw [nQ h0]; exact (ha x (by simp) y (by simp)).2 (hp.1 y (by simp)));refine ⟨Ze.2 ⟨λz hz=>?_,i1⟩,?_⟩
  ·rcases Qm.1 hz with rfl | hz
   ·exact h1
   ·exact YU r x y z h1 ((Ze.1 i1).1 z hz)
  ·simp only [Sp];rw [i2]; congr 1;unfold QP; rw [h0]
theorem RE {sg:Uj->Int}:∀ {l:List Pt},∀ x∈Sp sg l,∃ u∈l,∃ v∈l,x.p=Ak u v
 | [],x,hx=>by cases hx
 | [_],x,hx=>by cases hx
 |
  a::b::l,x,hx=>by
  simp only [Sp] at hx;rcases Qm.1 hx with rfl | hx
  ·exact ⟨a,by simp,b,by simp,rfl⟩
  ·obtain ⟨u,hu,v,hv,e⟩:=RE (l:=b::l) x hx;exact ⟨u,Qg _ hu,v,Qg _ hv,e⟩
theorem OI {l:List Pt} {u v:Pt} (hu:u∈l) (hv:v∈l):Ak u v∈Lz l:=by
 unfold Ak Lj; split
 ·exact (Tv hu hv).1
 ·exact (Tv hu hv).2
theorem cB {l:List Pt} {a:Tm}:∀ x∈O2 l a,x.p∈Lz l:=λx hx=>by
 obtain ⟨u,hu,v,hv,e⟩:=RE x hx;rw [e]; exact OI (Hm.1 hu) (Hm.1 hv)
theorem vN (l:List Pt):(Lz l).length=l.length*(l.length*2):=by
 have h1:∀ (x:Pt) (m:List Pt),(m.flatMap λy=>[Gg x.c y.c,Gf x.c y.c]).length=m.length*2:=λx m=>by
  induction m with
  | nil=>rfl
  | cons y m ih=>rw [Jx,Qy,ih,Q7]; simp; omega
 have h2:∀ m:List Pt,(m.flatMap λx=>l.flatMap λy=>[Gg x.c y.c,Gf x.c y.c]).length=m.length*(l.length*2):=λm=>by
  induction m with
  | nil=>simp
  | cons y m ih=>rw [Jx,Qy,ih,Q7,h1,Xz,Wl,Jr]
 exact h2 l
theorem rK {l:List Pt} (hl:∀ p∈l,Sc p.c) (hd:l.Pairwise λx y=>x.id≠y.id) {a b:Tm} (ha:Va a) (hb:Va b) (h:∀ x∈O2 l a,Hg (Fq b) x.p=Hg (Fq a) x.p):Tq b l=Tq a l/\O2 l b=O2 l a:=by
 obtain ⟨q,q1,q2⟩:=iV hl hd ha;obtain ⟨r,r1,r2⟩:=iV hl hd hb;obtain ⟨a1,a2⟩:=q2 q q1 Qp;obtain ⟨b1,b2⟩:=r2 r r1 Qp;obtain ⟨c1,c2⟩:=BG (a:=a) (b:=b) (Tq a l) (λu hu v hv=>a1 u (Hm.1 hu) v (Hm.1 hv)) (λu hu v hv=>b1 u (Hm.1 hu) v (Hm.1 hv)) a2 h;have e:Tq b l=Tq a l:=qG (XR r) (YU r) b2 c1 λx=>by rw [Hm,Hm]
 exact ⟨e,by unfold O2; rw [e,c2]⟩
theorem Qxy {l:List Pt} (hl:∀ p∈l,Sc p.c) (hn:l.length≤1000) (hd:l.Pairwise λx y=>x.id≠y.id):Stab (O2 l) (tH l):=by
 refine ⟨sX hl hn,⟨Lz l,O1 hl,λa _ x hx=>?_⟩,λa b ha hb h=>?_⟩
 ·obtain ⟨u,hu,v,hv,e⟩:=RE x hx;rw [e]; exact OI (Hm.1 hu) (Hm.1 hv)
 ·obtain ⟨e1,e2⟩:=rK hl hd ha hb h;exact ⟨e2,by unfold tH; rw [e1]⟩
end Orq
namespace Orq
theorem ang {ux uy vx vy wx wy:Rat} (hu:0<ux\/ux=0/\0<uy) (hv:0<vx\/vx=0/\0<vy) (hw:0<wx\/wx=0/\0<wy)
 (h1:0<=ux*vy-vx*uy) (h2:0<=vx*wy-wx*vy):0<=ux*wy-wx*uy/\(0<ux*vy-vx*uy\/0<vx*wy-wx*vy->0<ux*wy-wx*uy):=by
 have ux0:0<=ux:=by grind
 have wx0:0<=wx:=by grind
 rcases hv with hv | ⟨hv,hv2⟩
 ·have e:vx*(ux*wy-wx*uy)=ux*(vx*wy-wx*vy)+wx*(ux*vy-vx*uy):=by grind
  have hux:0<ux:=by
   rcases hu with h | ⟨h,h'⟩
   ·exact h
   ·have:=Xp hv h';rw [h] at h1; grind
  have p1:=Vx ux0 h2;have p2:=Vx wx0 h1;have key:∀ z:Rat,vx*z=ux*(vx*wy-wx*vy)+wx*(ux*vy-vx*uy)->0<=z:=λz hz=>by
   refine Ki.1 λhn=>?_
   have:=Xp hv (show 0 < -z by grind);grind
  refine ⟨key _ e,λhs=>?_⟩;rcases hw with hw | ⟨hw,hw2⟩
  ·have hpos:0<vx*(ux*wy-wx*uy):=by
    rcases hs with hs | hs
    ·have:=Xp hw hs; grind
    ·have:=Xp hux hs; grind
   have h0:=key _ e;refine Jp.1 λhn=>?_
   have:ux*wy-wx*uy=0:=by grind
   rw [this] at hpos; grind
  ·have:=Xp hux hw2;rw [hw]; grind
 ·rw [hv] at h1 h2;have hw0:wx=0:=by
   rcases hw with hw | hw
   ·have:=Xp hw hv2; grind
   ·exact hw.1
  have hwy:0<wy:=by grind
  have p:=Vx ux0 (Qr hwy);refine ⟨by rw [hw0]; grind,λhs=>?_⟩;rw [hv,hw0] at hs;have hux:0<ux:=by
   rcases hs with hs | hs
   ·refine Jp.1 λhn=>?_
    have:ux=0:=by grind
    rw [this] at hs; grind
   ·grind
  have:=Xp hux hwy;rw [hw0]; grind
section
variable {α:Type} (X Y:α->Rat)
def lx (a b:α):Prop:=X a<X b\/X a=X b/\Y a<Y b
def Nw (a b c:α):Rat:=(X b-X a)*(Y c-Y a)-(X c-X a)*(Y b-Y a)
variable {X Y}
theorem Ll (a:α):¬lx X Y a a:=by unfold lx; grind
theorem fQ {a b c:α} (h:lx X Y a b) (h':lx X Y b c):lx X Y a c:=by unfold lx at *; grind
theorem Lm {a b:α} (h:lx X Y a b):0<X b-X a\/X b-X a=0/\0<Y b-Y a:=by unfold lx at h; grind
theorem FQ (a b:α):Nw X Y a b a=0/\Nw X Y a b b=0:=by unfold Nw; grind
theorem fP (a b c:α):Nw X Y a c b=- Nw X Y a b c:=by unfold Nw; grind
theorem jE (a b c:α):Nw X Y a b c=(X b-X a)*(Y c-Y b)-(X c-X b)*(Y b-Y a):=by unfold Nw; grind
def Edg (Q:α->α->Prop):List α->Prop
 | a::b::r=>Q a b/\Edg Q (b::r)
 | _=>True
def Cnv (R:α->α->α->Prop):List α->Prop
 | a::b::c::r=>R a b c/\Cnv R (b::c::r)
 | _=>True
theorem Edg.tail {Q:α->α->Prop} {a:α} {l:List α} (h:Edg Q (a::l)):Edg Q l:=by
 cases l with
 | nil=>trivial
 | cons b l=>exact h.2
theorem Cnv.tail {R:α->α->α->Prop} {a:α} {l:List α} (h:Cnv R (a::l)):Cnv R l:=by
 match l,h with
 | [],_=>trivial
 | [_],_=>trivial
 | b::c::l,h=>exact h.2
def Lb (s:α->α->α->Bool) (c:α):List α->List α
 | b::a::r=>if s a b c=true then b::a::r else Lb s c (a::r)
 | l=>l
def Pq (s:α->α->α->Bool):List α->List α->List α
 | acc,[]=>acc
 | acc,c::l=>Pq s (c::Lb s c acc) l
structure Stk (X Y:α->Rat) (P:List α) (st:List α):Prop where
 srt:st.Pairwise λb a=>lx X Y a b
 mem:∀ p∈st,p∈P
 edg:Edg (λb a=>∀ p∈P,0≤Nw X Y a b p) st
 cnv:Cnv (λc b a=>0<Nw X Y a b c) st
theorem Stk.tail {P:List α} {a:α} {st:List α} (h:Stk X Y P (a::st)):Stk X Y P st:=⟨(Ze.1 h.srt).2,λp hp=>h.mem p (Qg _ hp),h.edg.tail,h.cnv.tail⟩
theorem Qie {P:List α} {s:α->α->α->Bool} {c:α} (hs:∀ a∈P,∀ b∈P,(s a b c=true↔0<Nw X Y a b c)) (hc:∀ p∈P,lx X Y p c) :
 ∀ (st:List α) (t:α),Stk X Y P (t::st)->(∀ p∈P,lx X Y t p->0≤Nw X Y t c p) ->
 ∃ t' st',Lb s c (t::st)=t'::st'/\Stk X Y P (t'::st')/\(∀ p∈P,lx X Y t' p->0≤Nw X Y t' c p)/\(∀ a r,st'=a::r->0<Nw X Y a t' c)/\(t'::st').getLast? = (t::st).getLast?
 | [],t,h,h2=>⟨t,[],rfl,h,h2,λa r e=>(by cases e),rfl⟩
 |
  a::r,t,h,h2=>by
  have ht:=h.mem t (by simp);have ha:=h.mem a (by simp);by_cases e:s a t c=true
  ·refine ⟨t,a::r,by simp only [Lb]; rw [if_pos e],h,h2,λa' r' e'=>?_,rfl⟩;injection e' with e1 _
   rw [<-e1]; exact (hs a ha t ht).1 e
  ·have hle:Nw X Y a t c<=0:=Ki.1 λh'=>e ((hs a ha t ht).2 h')
   have hat:lx X Y a t:=(Ze.1 h.srt).1 a (by simp);obtain ⟨t',st',g1,g2,g3,g4,g5⟩:=Qie hs hc r a h.tail λp hp hap=>by
    have e1:=h.edg.1 p hp;have k:=ang (Lm (hc a ha)) (Lm hat) (Lm hap) (by rw [fP] at *; unfold Nw at *; grind) (by unfold Nw at *; grind);unfold Nw; grind
   exact ⟨t',st',by simp only [Lb]; rw [if_neg e]; exact g1,g2,g3,g4,by rw [g5]; rfl⟩
theorem IH {P:List α} {c:α}:∀ (st:List α) (t:α),Stk X Y P (t::st)->lx X Y t c->(∀ a r,st=a::r->0<Nw X Y a t c)->Edg (λb a=>0<Nw X Y a b c) (t::st)
 | [],_,_,_,_=>trivial
 | [a],t,_,_,h=>⟨h a [] rfl,trivial⟩
 |
  a::q::r,t,hS,htc,h=>by
  have h1:=h a (q::r) rfl;have h0:0<Nw X Y q a t:=hS.cnv.1;have p1:=Ze.1 hS.srt;have p2:=Ze.1 p1.2;have hat:lx X Y a t:=p1.1 a (by simp);have hqa:lx X Y q a:=p2.1 q (by simp);refine ⟨h1,IH (q::r) a hS.tail (fQ hat htc) λa' r' e=>?_⟩;injection e with e _;rw [<-e];rw [jE] at h0 h1 ⊢;have k:=(ang (Lm hqa) (Lm hat) (Lm htc) (Qr h0) (Qr h1)).2 (.inl h0);grind
theorem Qon {P:List α} {t:α} {st:List α} {c:α} (h:Stk X Y P (t::st)) (hc:∀ p∈P,lx X Y p c) (hP:∀ p∈P,p=t\/lx X Y p t\/lx X Y t p) (hb:∀ p∈P,(t::st).getLast? = some p\/∃ b,(t::st).getLast? = some b/\lx X Y b p) (h2:∀ p∈P,lx X Y t p->0≤Nw X Y t c p) (h3:∀ a r,st=a::r->0<Nw X Y a t c):Stk X Y (P++[c]) (c::t::st):=by
 have ht:=h.mem t (by simp);have htc:=hc t ht;have hf:=IH st t h htc h3;refine ⟨Ze.2 ⟨λp hp=>hc p (h.mem p hp),h.srt⟩,λp hp=>?_,⟨λp hp=>?_,?_⟩,?_⟩
 ·rcases Qm.1 hp with rfl | hp
  ·simp
  ·exact X6 _ (h.mem p hp)
 ·rcases Qq.1 hp with hp | hp
  ·rcases hP p hp with rfl | hpt | htp
   ·rw [(FQ p c).1]; exact Qp
   ·cases st with
    |
     nil =>
     exfalso;rcases hb p hp with e | ⟨b,e,hb⟩
     ·injection e with e; subst e; exact Ll _ hpt
     ·injection e with e; subst e; exact Ll _ (fQ hpt hb)
    |
     cons a r =>
     have e1:=h.edg.1 p hp;have h3:=h3 a r rfl;have hat:lx X Y a t:=(Ze.1 h.srt).1 a (by simp);have k:=(ang (Lm hpt) (Lm hat) (Lm htc) (by unfold Nw at *; grind) (by unfold Nw at *; grind)).1;unfold Nw; grind
   ·exact h2 p hp htp
  ·rw [Qk.1 hp,(FQ t c).2]; exact Qp
 ·cases st with
  | nil=>trivial
  |
   cons a r =>
   have key:∀ l:List α,Edg (λb a=>∀ p∈P,0≤Nw X Y a b p) l->Edg (λb a=>0<Nw X Y a b c) l->Edg (λb a=>∀ p∈P++[c],0≤Nw X Y a b p) l:=by
    intro l
    induction l with
    | nil=>intros; trivial
    |
     cons x l ih =>
     cases l with
     | nil=>intros; trivial
     |
      cons y l =>
      intro k1 k2;refine ⟨λp hp=>?_,ih k1.2 k2.2⟩;rcases Qq.1 hp with hp | hp
      ·exact k1.1 p hp
      ·rw [Qk.1 hp]; exact Qr k2.1
   exact key _ h.edg hf
 ·cases st with
  | nil=>trivial
  | cons a r=>exact ⟨h3 a r rfl,h.cnv⟩
theorem AI {s:α->α->α->Bool} {row:List α} (hs:∀ a∈row,∀ b∈row,∀ c∈row,(s a b c=true↔0<Nw X Y a b c)) (hrow:row.Pairwise (lx X Y)) :
 ∀ (l P:List α) (t:α) (st:List α),row=P++l->Stk X Y P (t::st)->P.getLast? = some t->(t::st).getLast? = P.head? ->
 ∃ t' st',Pq s (t::st) l=t'::st'/\Stk X Y row (t'::st')/\row.getLast? = some t'/\(t'::st').getLast? = row.head?
 |
  [],P,t,st,e,h,h1,h2=>by
  rw [Zw] at e; subst e;exact ⟨t,st,rfl,h,h1,h2⟩
 |
  c::l,P,t,st,e,h,h1,h2=>by
  have hPm:∀ p∈P,p∈row:=λp hp=>by rw [e]; exact X6 _ hp
  have hcm:c∈row:=by rw [e]; simp
  have hpw:=hrow;rw [e] at hpw;obtain ⟨w1,w2,w3⟩:=Jj.1 hpw;have hc:∀ p∈P,lx X Y p c:=λp hp=>w3 p hp c (by simp)
  have htop:∀ p∈P,p=t\/lx X Y p t:=λp hp=>by
   obtain ⟨P1,rfl⟩:∃ P1,P=P1++[t]:=by
    have:=Y6.1 h1;exact this
   rcases Qq.1 hp with hp | hp
   ·exact .inr ((Jj.1 w1).2.2 p hp t (by simp))
   ·exact .inl (Qk.1 hp)
  obtain ⟨t',st',g1,g2,g3,g4,g5⟩:=Qie (λa ha b hb=>hs a (hPm a ha) b (hPm b hb) c hcm) hc st t h λp hp htp=>by
   rcases htop p hp with rfl | h'
   ·exact absurd htp (Ll _)
   ·exact absurd (fQ htp h') (Ll _)
  have tot:∀ p∈P,p=t'\/lx X Y p t'\/lx X Y t' p:=λp hp=>by
   obtain ⟨i,hi,rfl⟩:=Vz.1 hp;obtain ⟨j,hj,e2⟩:=Vz.1 (g2.mem t' (by simp));rcases Km i j with h' | h' | h'
   ·exact .inr (.inl (by rw [<-e2]; exact V8.1 w1 i j hi hj h'))
   ·subst h'; exact .inl e2
   ·exact .inr (.inr (by rw [<-e2]; exact V8.1 w1 j i hj hi h'))
  have hPne:P≠[]:=λh'=>by rw [h'] at h1; cases h1
  have hb:∀ p∈P,(t'::st').getLast? = some p\/∃ b,(t'::st').getLast? = some b/\lx X Y b p:=λp hp=>by
   rw [g5,h2];cases P with
   | nil=>exact absurd rfl hPne
   |
    cons f P' =>
    rcases Qm.1 hp with rfl | hp
    ·exact .inl rfl
    ·exact .inr ⟨f,rfl,(Ze.1 w1).1 p hp⟩
  have hpush:=Qon g2 hc tot hb g3 g4;obtain ⟨t2,st2,k1,k2,k3,k4⟩:=AI hs hrow l (P++[c]) c (t'::st') (by rw [e]; simp) hpush (by simp) (by
   rw [Jw,g5,h2];cases P with
   | nil=>exact absurd rfl hPne
   | cons f P'=>rfl)
  exact ⟨t2,st2,by simp only [Pq]; rw [g1]; exact k1,k2,k3,k4⟩
theorem Qfc {P:List α} (tot:∀ p∈P,∀ q∈P,p=q\/lx X Y p q\/lx X Y q p) {z:α} :
 ∀ (L L':List α) (f:α),(f::L).Pairwise (lx X Y)->(f::L').Pairwise (lx X Y)->(∀ p∈f::L,p∈P)->(∀ p∈f::L',p∈P) ->
 Edg (λa b=>∀ p∈P,0≤Nw X Y a b p) (f::L)->Edg (λa b=>∀ p∈P,0≤Nw X Y a b p) (f::L') ->
 Cnv (λa b c=>0<Nw X Y a b c) (f::L)->Cnv (λa b c=>0<Nw X Y a b c) (f::L')->(f::L).getLast? = some z->(f::L').getLast? = some z->L=L':=by
 have one:∀ (L L':List α) (f b b':α),(f::b::L).Pairwise (lx X Y)->(f::b'::L').Pairwise (lx X Y)->(∀ p∈f::b::L,p∈P)->b'∈P ->
  Edg (λa b=>∀ p∈P,0≤Nw X Y a b p) (f::b::L)->0≤Nw X Y f b' b->Cnv (λa b c=>0<Nw X Y a b c) (f::b::L)->(f::b::L).getLast? = some z->(f::b'::L').getLast? = some z->¬lx X Y b b':=by
  intro L L' f b b' s s' m m' e e' c l l' hlt;have s1:=Ze.1 s;have hfb:lx X Y f b:=s1.1 b (by simp);have hcol:Nw X Y f b b'=0:=by
   have:=e.1 b' m';rw [fP] at e'; grind
  cases L with
  |
   nil =>
   simp at l;subst l;have hz:b'=b\/lx X Y b' b:=by
    have:b∈f::b'::L':=V0 l';have s2:=(Ze.1 s').2;rcases Qm.1 this with rfl | h
    ·exact absurd hfb (Ll _)
    ·rcases Qm.1 h with h | h
     ·exact .inl h.symm
     ·exact .inr ((Ze.1 s2).1 b h)
   rcases hz with rfl | hz
   ·exact Ll _ hlt
   ·exact Ll _ (fQ hlt hz)
  |
   cons d M =>
   have h1:0<Nw X Y f b d:=c.1;have h2:=e.2.1 b' m';have s2:=Ze.1 s1.2;have hbd:lx X Y b d:=s2.1 d (by simp);have k:=(ang (Lm hlt) (Lm hfb) (Lm hbd) (by unfold Nw at hcol; grind) (by rw [jE] at h1; exact Rat.le_of_lt h1)).2 (.inr (by rw [jE] at h1; exact h1));unfold Nw at h2; grind
 intro L
 induction L with
 |
  nil =>
  intro L' f s s' m m' e e' c c' l l';simp at l;cases L' with
  | nil=>rfl
  |
   cons b' M' =>
   exfalso;subst l;have h1:=(Ze.1 s').1 f (by
    rw [Jw] at l';exact V0 l')
   exact Ll _ h1
 |
  cons b M ih =>
  intro L' f s s' m m' e e' c c' l l';cases L' with
  |
   nil =>
   exfalso;simp at l';subst l';have h1:=(Ze.1 s).1 f (by
    rw [Jw] at l;exact V0 l)
   exact Ll _ h1
  |
   cons b' M' =>
   have hb:=m b (by simp);have hb':=m' b' (by simp);have heq:b=b':=by
    rcases tot b hb b' hb' with h | h | h
    ·exact h
    ·exact absurd h (one M M' f b b' s s' m hb' e (e'.1 b hb) c l l')
    ·exact absurd h (one M' M f b' b s' s m' hb e' (e.1 b' hb') c' l' l)
   subst heq;rw [Jw] at l l';rw [ih M' b (Ze.1 s).2 (Ze.1 s').2 (λp hp=>m p (Qg _ hp)) (λp hp=>m' p (Qg _ hp)) e.2 e'.2 c.tail c'.tail l l']
end
end Orq
namespace Orr
open Go
structure RawInt where
 b:Bool
 l:List Nat
structure RawPt where
 x:List RawInt
 y:List RawInt
 d:RawInt
 id:Int
abbrev Ao (z:RawInt):Uo:=[.bool z.b,Qzt z.l]
structure RawInt.Ok (z:RawInt):Prop where
 u:∀ u∈z.l,u<4294967296
structure RawPt.Ok (z:RawPt):Prop where
 x:∀ a∈z.x,a.Ok
 y:∀ a∈z.y,a.Ok
 d:z.d.Ok
 id:-9223372036854775808<=z.id/\z.id<=9223372036854775807
def Hx (most:Int) (z:RawInt):Int:=match z.l with
 | []=>0
 | u::_=>if z.b=true then -((u:Int) % (most+1)) else (u:Int) % (most+1)
theorem KR {most:Int} (h:0<=most) (z:RawInt):-most<=Hx most z/\Hx most z<=most:=by
 unfold Hx
 split
 ·omega
 ·rename_i u _ _;have h1:=Vh (u:Int) (b:=most+1) (by omega);have h2:=Yu (u:Int) (b:=most+1) (by omega)
  split <;> omega
def Gi (most:Int) (l:List RawInt):Uj:=(l.take 3).map (Hx most)
def Qns (most:Int) (x y:List RawInt) (d:RawInt):Crv:=⟨Gi most x,Gi most y,Hx 3 d⟩
theorem SJ (most:Int) (l:List RawInt):(Gi most l).length<=3:=by unfold Gi; rw [List.length_map,List.length_take]; omega
theorem jU {most:Int} {l:List RawInt} {i:Nat} {z:RawInt} (hi:i<3) (h:l[i]? = some z):Gi most (l.take (i+1))=Gi most (l.take i)++[Hx most z]:=by
 unfold Gi;rw [List.take_take,List.take_take,V2 (by omega),V2 (by omega),Zv,h];simp
theorem SX (most:Int) {l:List RawInt} {i:Nat} (h:l.length<=i\/3<=i):Gi most (l.take i)=Gi most l:=by
 unfold Gi;rw [List.take_take];rcases Nat.le_total 3 i with h3 | h3
 ·rw [Zy h3]
 ·rcases h with h | h
  ·rw [V2 h3,Qn (l:=l) (i:=i) (by omega),Qn (l:=l) (i:=3) (by omega)]
  ·rw [V2 h3,show i=3 by omega]
theorem SY {most:Int} {l:List RawInt} {z:Int} (hm:0<=most) (h:z∈Gi most l):-most<=z/\z<=most:=by
 obtain ⟨a,_,rfl⟩:=Q9.1 h;exact KR hm a
theorem Qav {most:Int} (hm:0<=most/\most<=999) (x y:List RawInt) (d:RawInt):Cs 10 3 (Qns most x y d):=by
 have key:∀ z:Int,-999<=z/\z<=999->Fe z<=10:=λz h=>Si.2 (by omega)
 refine ⟨λz hz=>?_,λz hz=>?_,?_,SJ _ _,SJ _ _⟩
 ·have:=SY hm.1 hz; exact key _ (by omega)
 ·have:=SY hm.1 hz; exact key _ (by omega)
 ·have:=KR (most:=3) (by decide) d;show Fe (Hx 3 d)<=10;exact key _ (by omega)
end Orr
namespace Orr
def WH (l:List Pt):Prop:=l.Pairwise λa b=>a.id<b.id
theorem Qgs (p:Pt) (l:List Pt) (id:Int):has (p::l) id=if p.id<id then has l id else decide (p.id=id):=by
 by_cases h:p.id<id
 ·rw [if_pos h]; unfold has; simp only [Im]; rw [if_pos h]; simp
 ·rw [if_neg h]; unfold has; simp only [Im]; rw [if_neg h]; simp
theorem Qij (p:Pt) (l:List Pt) (q:Pt):put (p::l) q=if p.id<q.id then p::put l q else q::p::l:=by
 unfold put;simp only [Im]
 split <;> simp
theorem LC:∀ {l:List Pt} {q:Pt},WH l->has l q.id=false->WH (put l q)
 | [],q,_,_=>by simp [put,Im,WH]
 |
  p::l,q,h,hn=>by
  have h1:=Ze.1 h;rw [Qgs] at hn;rw [Qij]
  split
  ·rename_i hlt;rw [if_pos hlt] at hn;refine Ze.2 ⟨λx hx=>?_,LC h1.2 hn⟩;rcases MP hx with rfl | hx
   ·exact hlt
   ·exact h1.1 x hx
  ·rename_i hge;rw [if_neg hge,decide_eq_false_iff_not] at hn;refine Ze.2 ⟨λx hx=>?_,h⟩;rcases Qm.1 hx with rfl | hx
   ·omega
   ·have:=h1.1 x hx; omega
end Orr
namespace Orr
open Go
section
variable {α:Type} {lt:α->α->Bool}
theorem Qbe (out:List α) (c:α):(Lk lt out c).Perm (c::out):=by
 unfold Lk;exact (List.perm_middle).trans (by rw [Zk])
theorem CP:∀ (l acc:List α),(l.foldl (Lk lt) acc).Perm (l++acc)
 | [],acc=>List.Perm.refl _
 |
  c::l,acc=>by
  simp only [Z9];exact (CP l _).trans (((Qbe acc c).append_left l).trans List.perm_middle)
theorem bM (l:List α):(Lx lt l).Perm l:=by
 have:=CP (lt:=lt) l [];rwa [Zw] at this
end
end Orr
namespace Orr
open Go
theorem Qgh (c:Int) (l:Uj):Rr (l.map (· * c))=Rr l*c.natAbs:=by
 have key:∀ (l:Uj) (g:Nat),(l.map (· * c)).foldl (λg z=>Nat.gcd g z.natAbs) (g*c.natAbs)=l.foldl (λg z=>Nat.gcd g z.natAbs) g*c.natAbs:=by
  intro l
  induction l with
  | nil=>intro g; rfl
  |
   cons z l ih =>
   intro g;simp only [Z0,Z9,J5,Nat.gcd_mul_right];exact ih _
 have:=key l 0;rwa [Yg] at this
end Orr
namespace Orr
def Sl (a b:Crv):Uj:=ZU (Gk (Gg a b) (Gg a b)) (Gk (Gf a b) (Gf a b))
def Hl (a b c d:Crv):Uj:=Mx (Ft (Sl c d) ((a.d*b.d)*(a.d*b.d))) (Ft (Sl a b) ((c.d*d.d)*(c.d*d.d)))
theorem fL {a b:Crv} (ha:Cb a) (hb:Cb b):U9 (Sl a b)/\(Sl a b).length<=31/\Bd 4194312 (Sl a b):=by
 obtain ⟨_,l1,b1⟩:=fE ha hb;obtain ⟨_,l2,b2⟩:=fD ha hb;have m1:=Sy (Gg a b) (Gg a b);have m2:=Sy (Gf a b) (Gf a b);have q1:=Mf (u:=5) b1 b1 (by omega);have q2:=Mf (u:=5) b2 b2 (by omega);refine ⟨Fv _ _,?_,U0 (WS q1 q2) (by omega)⟩;have:=XF (Gk (Gg a b) (Gg a b)) (Gk (Gf a b) (Gf a b));unfold Sl;omega
theorem mV {a b:Crv} (ha:Cb a) (hb:Cb b):Fe (a.d*b.d)<=2097152:=by
 have:=Gh a.d b.d; have:=ha.d; have:=hb.d; omega
theorem lI {a b:Crv} (ha:Cb a) (hb:Cb b):Fe ((a.d*b.d)*(a.d*b.d))<=4194304:=by
 have:=Gh (a.d*b.d) (a.d*b.d); have:=mV ha hb; omega
def Nu (sg:Uj->Int) (a b c d:Pt):Ct:=⟨5,a.id,b.id,c.id,d.id,Hl a.c b.c c.c d.c,Hg sg (Hl a.c b.c c.c d.c)⟩
theorem DF (sg:Uj->Int) (a b c d:Pt):(Nu sg a b c d).p=Hl a.c b.c c.c d.c:=by rw [Nu]
def Hz:Nat->List Pt->List (Pt×Pt)
 | 0,_=>[]
 | _+1,[]=>[]
 | k+1,x::l=>l.map (λy=>(x,y))++Hz k l
def Gl (l:List Pt):List (Pt×Pt):=Hz l.length l
theorem D8:∀ (l:List Pt) (i:Nat) (x:Pt),l[i]? = some x->Hz (i+1) l=Hz i l++(l.drop (i+1)).map (λy=>(x,y))
 | [],i,x,h=>by simp at h
 |
  y::l,0,x,h=>by
  simp at h; subst h;simp [Hz]
 |
  y::l,i+1,x,h=>by
  have h:l[i]? = some x:=by simpa using h
  have ih:=D8 l i x h;show l.map (λz=>(y,z))++Hz (i+1) l=(l.map (λz=>(y,z))++Hz i l)++_;rw [ih,Zb];rfl
theorem Sk:∀ (k:Nat) (l:List Pt),∀ m∈Hz k l,m.1∈l/\m.2∈l
 | 0,l,m,h=>by simp [Hz] at h
 | k+1,[],m,h=>by simp [Hz] at h
 |
  k+1,x::l,m,h=>by
  rcases Qq.1 h with h | h
  ·obtain ⟨y,hy,rfl⟩:=Q9.1 h;exact ⟨Qx ..,Qg _ hy⟩
  ·obtain ⟨h1,h2⟩:=Sk k l m h;exact ⟨Qg _ h1,Qg _ h2⟩
theorem KC:∀ (k:Nat) (l:List Pt),(Hz k l).length<=k*l.length
 | 0,l=>by simp [Hz]
 | k+1,[]=>by simp [Hz]
 |
  k+1,x::l=>by
  have:=KC k l;simp only [Hz,Qy,Q8,Q7];have e:(k+1)*(l.length+1)=k*l.length+k+l.length+1:=by rw [Xz,Xi]; omega
  omega
def Pu (sg:Uj->Int) (s m:Pt×Pt):Pt×Pt:=if Hg sg (Hl s.1.c s.2.c m.1.c m.2.c)<0 then m else s
def Hj (sg:Uj->Int) (s:Pt×Pt) (ps:List (Pt×Pt)):Pt×Pt:=ps.foldl (Pu sg) s
theorem RV (sg:Uj->Int) (s m:Pt×Pt):Pu sg s m=m\/Pu sg s m=s:=by
 unfold Pu
 split
 ·exact .inl rfl
 ·exact .inr rfl
theorem QM (sg:Uj->Int) (s m:Pt×Pt) (ps:List (Pt×Pt)):Hj sg s (m::ps)=Hj sg (Pu sg s m) ps:=by unfold Hj; rw [List.foldl_cons]
theorem jM (sg:Uj->Int) (s:Pt×Pt) (ps:List (Pt×Pt)) (m:Pt×Pt):Hj sg s (ps++[m])=Pu sg (Hj sg s ps) m:=by simp [Hj]
theorem D5 (sg:Uj->Int) {l:List Pt}:∀ (ps:List (Pt×Pt)) (s:Pt×Pt),s.1∈l/\s.2∈l->(∀ m∈ps,m.1∈l/\m.2∈l)->(Hj sg s ps).1∈l/\(Hj sg s ps).2∈l
 | [],s,hs,_=>hs
 |
  m::ps,s,hs,h=>by
  have hn:(Pu sg s m).1∈l/\(Pu sg s m).2∈l:=by
   rcases RV sg s m with e | e
   ·rw [e]; exact h m (Qx ..)
   ·rw [e]; exact hs
  rw [QM];exact D5 sg ps (Pu sg s m) hn λx hx=>h x (Qg _ hx)
def ZX (s m:Pt×Pt):Bool:=decide (m.1.id≠s.1.id) || decide (m.2.id≠s.2.id)
def Mr (sg:Uj->Int) (s:Pt×Pt) (ps:List (Pt×Pt)):List Ct:=(ps.filter (ZX s)).map λm=>Nu sg s.1 s.2 m.1 m.2
theorem Qm6 {sg:Uj->Int} {s m:Pt×Pt} {ps:List (Pt×Pt)} (h:ZX s m=true):Mr sg s (ps++[m])=Mr sg s ps++[Nu sg s.1 s.2 m.1 m.2]:=by simp [Mr,Vj,h]
theorem Qm5 {sg:Uj->Int} {s m:Pt×Pt} {ps:List (Pt×Pt)} (h:ZX s m=false):Mr sg s (ps++[m])=Mr sg s ps:=by simp [Mr,Vj,h]
theorem IJ {sg:Uj->Int} {s:Pt×Pt} {ps:List (Pt×Pt)} {c:Ct} (h:c∈Mr sg s ps):∃ x∈ps,Nu sg s.1 s.2 x.1 x.2=c:=by
 unfold Mr at h;obtain ⟨x,hx,e⟩:=Q9.1 h;exact ⟨x,(Yd.1 hx).1,e⟩
theorem IX (sg:Uj->Int) (s:Pt×Pt) (ps:List (Pt×Pt)):(Mr sg s ps).length<=ps.length:=by
 unfold Mr;rw [Q8];exact Yy _ _
def ZJ (sg:Uj->Int):List Pt->List Pt
 | a::b::l=>[(Hj sg (a,b) (Gl (a::b::l))).1,(Hj sg (a,b) (Gl (a::b::l))).2]
 | _=>[]
def D7 (sg:Uj->Int):List Pt->List Ct
 | a::b::l=>Mr sg (Hj sg (a,b) (Gl (a::b::l))) (Gl (a::b::l))
 | _=>[]
theorem Qbw (sg:Uj->Int) {l:List Pt} (h:l.length<2):ZJ sg l=[]/\D7 sg l=[]:=by
 match l,h with
 | [],_=>exact ⟨rfl,rfl⟩
 | [a],_=>exact ⟨rfl,rfl⟩
theorem Qve {l:List Pt} (h:¬l.length<2):∃ a b m,l=a::b::m:=by
 match l,h with
 | [],h=>simp at h
 | [a],h=>simp at h
 | a::b::m,_=>exact ⟨a,b,m,rfl⟩
theorem qZ (sg:Uj->Int) (l:List Pt):(D7 sg l).length<=l.length*l.length:=by
 match l with
 | []=>simp [D7]
 | [a]=>simp [D7]
 | a::b::m=>exact Qc (IX _ _ _) (KC _ _)
def Ia (l:List Uk):Up:=l.map λr=>[.row (r.map λp=>[pl p])]
abbrev JX (r:Uk):Up:=r.map λp=>[pl p]
theorem YR (l:List Uk):(Ia l).length=l.length:=by simp [Ia]
def XS (i:Nat) (rows:List Uk):Nat->List Uk
 | 0=>[]
 | j+1=>if j=i then XS i rows j else XS i rows j++[(rows.getD j []).drop 1]
def VZ (rows:List Uk) (i:Nat):List Uk:=XS i rows rows.length
def C7 (f:Nat->Uj) (rows:List Uk):Nat->Uj
 | 0=>[]
 |
  i+1=>if ((rows.getD i []).getD 0 []).length=0 then C7 f rows i else
  if i % 2=0 then ZU (C7 f rows i) (Gk ((rows.getD i []).getD 0 []) (f i)) else Mx (C7 f rows i) (Gk ((rows.getD i []).getD 0 []) (f i))
def D9:Nat->List Uk->Uj
 | 0,_=>[1]
 | k+1,rows=>C7 (λi=>D9 k (VZ rows i)) rows (k+1)
structure Sq (s:Nat) (ds:List Nat) (k w:Nat) (rows:List (List (List Int))):Prop where
 l:rows.length=k
 w:∀ r∈rows,r.length=w
 t:∀ r∈rows,∀ p∈r,U9 p
 b:∀ r∈rows,∀ p∈r,Bd s p
 n:∀ r∈rows,∀ (j:Nat) (p:List Int),r[j]? = some p->p.length≤ds.getD j 0+1
theorem DU {i:Nat} {rows:List Uk}:∀ {j:Nat} {r:Uk},j≤rows.length->r∈XS i rows j->∃ q∈rows,r=q.drop 1
 | 0,r,_,h=>by simp [XS] at h
 |
  j+1,r,hj,h=>by
  simp only [XS] at h
  split at h
  ·exact DU (by omega) h
  ·rcases Qq.1 h with h | h
   ·exact DU (by omega) h
   ·rw [Qk.1 h];exact ⟨rows.getD j [],Qa (i:=j) (by rw [Qi,Qe (by omega)]; rfl),rfl⟩
theorem DW {i:Nat} {rows:List Uk}:∀ (j:Nat),(XS i rows j).length=if i<j then j-1 else j
 | 0=>rfl
 |
  j+1=>by
  have ih:=DW (i:=i) (rows:=rows) j;simp only [XS]
  split
  ·rename_i e; subst e; rw [ih,if_neg (by omega),if_pos (by omega)]; omega
  ·rw [Qy,ih,Vr]
   split <;> split <;> omega
theorem Sq.min {s d k w:Nat} {ds:Ul} {rows:List Uk} (h:Sq s (d::ds) (k+1) (w+1) rows) {i:Nat} (hi:i<k+1):Sq s ds k w (VZ rows i):=by
 have hl:=h.l;have hm:∀ {r:Uk},r∈VZ rows i->∃ q∈rows,r=q.drop 1:=λh=>DU (Ql _) h
 refine ⟨by unfold VZ; rw [DW,hl,if_pos hi]; omega,λr hr=>?_,λr hr p hp=>?_,λr hr p hp=>?_,λr hr j p hp=>?_⟩
 ·obtain ⟨q,hq,rfl⟩:=hm hr;rw [Zl,h.w q hq]; omega
 all_goals obtain ⟨q,hq,rfl⟩:=hm hr
 ·exact h.t q hq p (Q3 hp)
 ·exact h.b q hq p (Q3 hp)
 ·rw [Xc] at hp;have:=h.n q hq (1+j) p hp;rw [Jr 1 j] at this;exact this
theorem Sq.at {s d k w:Nat} {ds:Ul} {rows:List Uk} (h:Sq s (d::ds) k (w+1) rows) {i:Nat} (hi:i<k):∃ p r,rows[i]? = some (p::r)/\(rows.getD i []).getD 0 []=p/\U9 p/\Bd s p/\p.length<=d+1:=by
 obtain ⟨r,hr⟩:=gxE (l:=rows) (i:=i) (by rw [h.l]; exact hi);have hm:=Qa hr;cases r with
 | nil=>have:=h.w _ hm; simp at this
 |
  cons p r =>
  have e:rows.getD i []=p::r:=by rw [Qi,hr]; rfl
  refine ⟨p,r,hr,by rw [e]; rfl,h.t _ hm p (by simp),h.b _ hm p (by simp),h.n _ hm 0 p rfl⟩
theorem xF {s d k w:Nat} {ds:Ul} {f:Nat->Uj} {rows:List Uk} {B L:Nat} (h:Sq s (d::ds) k (w+1) rows) (hn:d<31) (hf:∀ i,i<k->Bd B (f i)/\(f i).length<=L+1):∀ i,i<=k->U9 (C7 f rows i)/\Bd (s+B+5+i) (C7 f rows i)/\(C7 f rows i).length<=d+L+1
 | 0,_=>⟨rfl,λz hz=>(by cases hz),Qh _⟩
 |
  i+1,hi=>by
  obtain ⟨h1,h2,h3⟩:=xF h hn hf i (by omega);obtain ⟨p,r,_,e,t,b,l⟩:=h.at (i:=i) (by omega);obtain ⟨f1,f2⟩:=hf i (by omega);have hp1:Bd (s+B+5) (Gk p (f i)):=Mf b f1 (by omega);have hp2:=Sy p (f i);simp only [C7];rw [e]
  split
  ·exact ⟨h1,U0 h2 (by omega),h3⟩
  ·split
   ·exact ⟨Fv _ _,U0 (WS h2 hp1) (by omega),Qc (XF _ _) (by omega)⟩
   ·exact ⟨Fv _ _,U0 (Dd h2 hp1) (by omega),Qc (M7 _ _) (by omega)⟩
theorem MR {s:Nat}:∀ (k:Nat) (ds:Ul) (rows:List Uk),k<=4->ds.length=k->ds.sum<31->Sq s ds k k rows->U9 (D9 k rows)/\Bd (k*(s+10)+1) (D9 k rows)/\(D9 k rows).length<=ds.sum+1
 | 0,ds,rows,_,_,_,_=>⟨rfl,λz hz=>(by simp [D9] at hz; subst hz; rw [Yg]; decide),by simp [D9]⟩
 | k+1,[],rows,_,hl,_,_=>by simp at hl
 |
  k+1,d::ds,rows,hk,hl,hd,h=>by
  rw [Kt] at hd;have ih:=λi (hi:i<k+1)=>MR k ds (VZ rows i) (by omega) (by simpa using hl) (by omega) (h.min hi)
  obtain ⟨h1,h2,h3⟩:=xF (f:=λi=>D9 k (VZ rows i)) (B:=k*(s+10)+1) (L:=ds.sum) h (by omega) (λi hi=>⟨(ih i hi).2.1,(ih i hi).2.2⟩) (k+1) (Ql _);have e1:(k+1)*(s+10)=k*(s+10)+(s+10):=Xa ..;rw [Kt];exact ⟨h1,U0 h2 (by omega),h3⟩
def fM (a b c:Crv):List Uk:=[[a.x,a.y,[a.d]],[b.x,b.y,[b.d]],[c.x,c.y,[c.d]]]
def He (a b c:Crv):Uj:=D9 3 (fM a b c)
end Orr
