/- T24 T25 G1 G2 SortL KinL K1 K2 F6 F7 F8 F9 G3 G4 K3 K4 KGoL SplitL S1 SortQ HullG RawL NewsL BegL TurnL PairN DetL -/
import Derived.Test.YtoohlnnpalgnaaaGreatPart06
import Derived.Test.YtoohlnnpalgnaaaGreatPart00
import Derived.Test.YtoohlnnpalgnaaaGreatPart05
import Derived.Test.YtoohlnnpalgnaaaGreatPart04
set_option linter.all false
namespace Orq
open Orr Go
theorem Qfh:∀ {k:Nat} {a b:Uk} {l:Ul},tU k a b=some l->∀ p∈l,p.length≠0
 | 0,_,_,_,h=>by cases h
 |
  k+1,a,b,l,h=>by
  simp only [tU] at h
  split at h
  ·injection h with h; subst h; exact λp hp=>by cases hp
  ·rename_i h0;obtain ⟨r,_,h⟩:=Qd.1 h;obtain ⟨l',h1,h⟩:=Qd.1 h;injection h with h; subst h;intro p hp;rcases Qm.1 hp with rfl | hp
   ·exact h0
   ·exact Qfh h1 p hp
theorem Okp.pb {n s:Nat} {p:Uk} (h:Okp n s p) (hs:s<=16777216):Pb p:=⟨h.t,by have:=h.l; have:=h.z.1; omega,U0 h.b hs⟩
theorem Qat {p:Uk} {q:Uk} {l:Ul} (hp:Pb p) (h:Lt p=some (q::l)) (hq:q.length≠0):∀ r∈q::l,U9 r/\r.length≠0:=by
 have h1:=(Orr.chain_ok hp h).2;unfold Lt at h;obtain ⟨a,_,h⟩:=Qd.1 h
 split at h
 ·cases h
 ·obtain ⟨d,_,h⟩:=Qd.1 h;obtain ⟨l',h3,h⟩:=Qd.1 h;injection h with h;injection h with e1 e2;subst e1; subst e2;intro r hr;refine ⟨(h1 r hr).t,?_⟩;rcases Qm.1 hr with rfl | hr
  ·exact hq
  ·exact Qfh h3 r hr
inductive RI (q:List Int) (L:List (List Rat)):Rat->List Tm->Rat->Prop
 | nil {lo hi:Rat} (h:lo<=hi) (hv:vv L lo=vv L hi):RI q L lo [] hi
 | cons {lo hi:Rat} {t:Tm} {l:List Tm} (h:lo<=t.lo) (hv:vv L lo=vv L t.lo) (ht:Vt (cz q) L t.lo t.hi) (hp:t.p=q) (hl:RI q L t.hi l hi):RI q L lo (t::l) hi
theorem RI.app {q:Uk} {L:Uo} {lo m hi:Rat} {l l':List Tm} (h:RI q L lo l m) (h':RI q L m l' hi):RI q L lo (l++l') hi:=by
 induction h with
 |
  nil h hv =>
  cases h' with
  | nil h2 hv2=>exact .nil (by grind) (by omega)
  | cons h2 hv2 ht hp hl=>exact .cons (by grind) (by omega) ht hp hl
 | cons h hv ht hp _ ih=>exact .cons h hv ht hp (ih h')
theorem Qfk {D M k:Nat} {m:Rat} (h:Gr D M k m) (hM:0<M) (hs:Fe (D:Int)+Fe (M:Int)+k<=16777216):chq m=some m:=by
 have:=OY h hM hs;unfold chq;rw [if_pos ⟨this.1,this.2⟩]
theorem MP {q:Uk} {c:Ul} (hS:GH (cz q) (c.map cz)) (tq:U9 q) (nq:q.length<=9) (hc1:q.length<2->c=[q]) {D M F:Nat} (hM:0<M):∀ (k j:Nat) (lo hi:Rat),lo<hi->Gr D M j lo->Gr D M j hi->Fe (D:Int)+Fe (M:Int)+(j+k)<=16777216->(hi-lo)*((2^(Tt q q+1):Nat):Rat)<=((2^k:Nat):Rat) ->
 ∃ l,Ib q c (F+k+1) lo hi ((vv (c.map cz) lo:Int)-(vv (c.map cz) hi:Int))=some l/\RI q (c.map cz) lo l hi/\∀ t∈l,∃ k',k'≤j+k/\Gr D M k' t.lo/\Gr D M k' t.hi:=by
 intro k
 induction k with
 |
  zero =>
  intro j lo hi hl g1 g2 hs hK;have hle:=Aq hS hl;have h2:vv (c.map cz) lo<vv (c.map cz) hi+2:=by
   rcases Q9 (vv (c.map cz) lo) (vv (c.map cz) hi+2) with h | h
   ·exact h
   ·exfalso;have lq:2<=q.length:=by
     rcases Q9 q.length 2 with e | e
     ·have hvv:∀ x,vv (c.map cz) x=vv (c.map cz) 0:=λx=>by
       rcases hS with ⟨c0,hc0,hcc,hl'⟩ | ⟨g',l',k',hk,hg,hsc,hl'⟩
       ·rw [hl']; simp only [vv,tc,hcc]
       ·rw [hc1 e] at hl'; cases hl'
      rw [hvv lo,hvv hi] at h; omega
     ·exact e
    have:=Qpr hS tq nq lq hl h;rw [Vd] at hK;have h7:((1:Nat):Rat)=1:=rfl;rw [h7] at hK; grind
  simp only [Ib];by_cases e0:vv (c.map cz) lo=vv (c.map cz) hi
  ·rw [if_pos (by omega)];exact ⟨[],rfl,.nil (Qr hl) e0,λt ht=>by cases ht⟩
  ·rw [if_neg (by omega),if_pos (by omega)];refine ⟨[⟨q,lo,hi⟩],rfl,.cons Qp rfl ⟨hS,hl,by show vv _ lo=vv _ hi+1; omega⟩ rfl (.nil Qp rfl),λt ht=>?_⟩;rw [Qk.1 ht]; exact ⟨j,by omega,g1,g2⟩
 |
  succ k ih =>
  intro j lo hi hl g1 g2 hs hK;have hle:=Aq hS hl;show ∃ l,(if (vv (c.map cz) lo:Int)-(vv (c.map cz) hi:Int)=0 then some [] else if (vv (c.map cz) lo:Int)-(vv (c.map cz) hi:Int)=1 then some [⟨q,lo,hi⟩] else (chq (mid lo hi)).bind λm=>(Ib q c (F+k+1) lo m (Tj c lo m)).bind λl=>(Ib q c (F+k+1) m hi ((vv (c.map cz) lo:Int)-(vv (c.map cz) hi:Int)-Tj c lo m)).bind λr=>some (l++r))=some l/\_;by_cases e0:vv (c.map cz) lo=vv (c.map cz) hi
  ·rw [if_pos (by omega)];exact ⟨[],rfl,.nil (Qr hl) e0,λt ht=>by cases ht⟩
  by_cases e1:vv (c.map cz) lo=vv (c.map cz) hi+1
  ·rw [if_neg (by omega),if_pos (by omega)];refine ⟨[⟨q,lo,hi⟩],rfl,.cons Qp rfl ⟨hS,hl,e1⟩ rfl (.nil Qp rfl),λt ht=>?_⟩;rw [Qk.1 ht]; exact ⟨j,by omega,g1,g2⟩
  ·rw [if_neg (by omega),if_neg (by omega)];obtain ⟨m,hm⟩:=nmE ((lo+hi) / 2);have h2:(lo+hi) / 2*2=lo+hi:=Hb (by decide);rw [<-hm] at h2;have gm:Gr D M (j+1) m:=by rw [hm]; exact Qgx g1 g2
   have l1:lo<m:=by grind
   have l2:m<hi:=by grind
   rw [mS,<-hm,Qfk gm hM (by omega)];show ∃ l,((Ib q c (F+k+1) lo m (Tj c lo m)).bind λl=>(Ib q c (F+k+1) m hi ((vv (c.map cz) lo:Int)-(vv (c.map cz) hi:Int)-Tj c lo m)).bind λr=>some (l++r))=some l/\_;rw [O3 (Qr l1),show (vv (c.map cz) lo:Int)-(vv (c.map cz) hi:Int)-((vv (c.map cz) lo:Int)-(vv (c.map cz) m:Int))=(vv (c.map cz) m:Int)-(vv (c.map cz) hi:Int) by omega];rw [gX k] at hK;have hp:∀ x y:Rat,(y-x)*2=hi-lo->(y-x)*((2^(Tt q q+1):Nat):Rat)<=((2^k:Nat):Rat):=λx y h=>by
    have:(y-x)*((2^(Tt q q+1):Nat):Rat)*2=(hi-lo)*((2^(Tt q q+1):Nat):Rat):=by rw [<-h]; grind
    grind
   obtain ⟨la,a1,a2,a3⟩:=ih (j+1) lo m l1 (OV g1) gm (by omega) (hp lo m (by grind));obtain ⟨lb,b1,b2,b3⟩:=ih (j+1) m hi l2 gm (OV g2) (by omega) (hp m hi (by grind));rw [a1];show ∃ l,((Ib q c (F+k+1) m hi ((vv (c.map cz) m:Int)-(vv (c.map cz) hi:Int))).bind λr=>some (la++r))=some l/\_;rw [b1];refine ⟨la++lb,rfl,a2.app b2,λt ht=>?_⟩;rcases Qq.1 ht with ht | ht
   ·obtain ⟨k',h1,h2,h3⟩:=a3 t ht; exact ⟨k',by omega,h2,h3⟩
   ·obtain ⟨k',h1,h2,h3⟩:=b3 t ht; exact ⟨k',by omega,h2,h3⟩
theorem Qt2 {D M k:Nat} {q:Rat} (h:Gr D M k q):Gr D M k (-q):=by
 obtain ⟨u,hu⟩:=h.u;exact ⟨⟨-u,by rw [Vn,<-hu]; grind⟩,by rw [Ef]; exact h.b,h.d⟩
theorem uR {m s:Nat} (h:m<2^s):Fe ((m+1:Nat):Int)<=s+1:=by
 rw [Sj,Xf,Zq]; omega
theorem Qbj {z:Int} {s:Nat} (h:Fe z<=s):Fe ((z.natAbs+1:Nat):Int)<=s+1:=uR (Sj.1 h)
theorem Qpg {x:Rat} {m s g N:Nat} (hx:x<=2*((m+1:Nat):Rat)) (hm:m+1<=2^s) (hN:s+1+g<=N):x*((2^g:Nat):Rat)<=((2^N:Nat):Rat):=by
 have h3:=Zl.2 hm;have e:=gX s;have h4:(0:Rat)<=((2^s:Nat):Rat):=Xh;have h1:x<=((2^(s+1):Nat):Rat):=by rw [e]; grind
 have h5:(0:Rat)<=((2^g:Nat):Rat):=Xh;refine Zk (Zc h1 h5) ?_;have h6:2^(s+1)*2^g<=2^N:=by
  rw [<-Xd]; exact Zs (by decide) hN
 have:=Zl.2 h6;rw [Rat.natCast_mul] at this;exact this
theorem Qlf {s:Nat} {l:Uk} (h:Bd s l):most l<2^s:=by
 have key:∀ (l:Uk) (m:Nat),m<2^s->Bd s l->l.foldl (λm z=>if m<z.natAbs then z.natAbs else m) m<2^s:=by
  intro l
  induction l with
  | nil=>exact λm h _=>h
  |
   cons y l ih =>
   intro m hm hb;simp only [Z8];refine ih _ ?_ λz hz=>hb z (Qg _ hz)
   have:=hb y (Qx ..);rw [Sj] at this
   split <;> assumption
 exact key l 0 (Z3 (by decide)) h
theorem Qs7 {p q:Uk} (h:AA p=some q):q=p:=by
 unfold AA at h
 split at h
 ·injection h with h; exact h.symm
 ·cases h
theorem Qb8 {s N:Nat} {p:Uk} (hNe:N=63*s+5160) (hs9:s≤1180) (h:Okp 9 s p):∃ q c l,Pf p=some q/\Lt p=some c/\SS p=some l/\GH (cz q) (c.map cz)/\RI q (c.map cz) (-Gw q) l (Gw q)/\(∀ t∈l,Va t)/\(∀ x y,x<y->Gw q≤x\/y≤-Gw q->vv (c.map cz) x=vv (c.map cz) y)/\q.length≤p.length/\∀ t∈l,t.p=q/\t.lo<t.hi/\Bd (s+69) q/\∃ D M k,Gr D M k t.lo/\Gr D M k t.hi/\0<M/\Fe (D:Int)≤s+69/\Fe (M:Int)≤s+70/\k≤N:=by
 obtain ⟨pp,hpl,hpb⟩:=h.pr;obtain ⟨g,q',hq',sq⟩:=YM h;obtain ⟨q,l,q1,q2,hS,hl0⟩:=chain_ok h;rw [hq'] at q1;injection q1 with q1;subst q1;have e1:∀ t,U7 (Fg p) t=U7 q' t*U7 g t:=λt=>by rw [sq.e]; grind
 obtain ⟨p1,p2⟩:=Rz pp.t pp.n e1;have hch:tU 66 q' (Fg (Gv q'))=some l:=by
  have h2:=q2;unfold Lt at h2;rw [hq'] at h2;simp only [Jb] at h2
  split at h2
  ·cases h2
  ·cases hd:AA (Gv q') with
   | none=>rw [hd] at h2; cases h2
   |
    some d =>
    rw [hd] at h2;simp only [Jb] at h2;obtain rfl:d=Gv q':=Qs7 hd;cases hc:tU 66 q' (Fg (Gv q')) with
    | none=>rw [hc] at h2; cases h2
    | some l'=>rw [hc] at h2; simp at h2; rw [h2]
 have hll:=Mh sq.pq.t sq.pg.t pp.t e1 p1 p2;have hl9:=h.l;have bq:Bd (s+69) q':=ZE hpb (by omega) pp.t sq.pq.t sq.pg.t pp.n e1;have hall:=Qat (h.pb (by omega)) q2 sq.pq.n;have hld:Fl q'≠0:=by have:=sq.pq.l; omega
 have hb1:=GB hld;obtain ⟨D,hD⟩:=nmE ((Fl q').natAbs);obtain ⟨m,hm⟩:=nmE (most (q'.take (q'.length-1)));have hm2:m<2^(s+69):=by rw [hm]; exact Qlf (s:=s+69) λz hz=>bq z (Qo hz)
 have hD0:0<D:=by omega
 have hDs:Fe (D:Int)<=s+69:=by
  have:=M5 bq;rw [Sj] at this ⊢;rw [Xf,hD]; exact this
 have hbe:=NS hld;rw [<-hD,<-hm] at hbe;have hDq:=nat_pos hD0;have hbm:Gw q'<=((m+1:Nat):Rat):=by
  have hD1:(1:Rat)<=(D:Rat):=by
   have:((1:Nat):Rat)<=(D:Rat):=Zl.2 hD0;exact this
  have hm0:(0:Rat)<=(m:Rat):=Xh;have h3:=Ce (a:=(m:Rat)) (c:=1) hm0 Qp (by decide) hD1;rcases Gb (Gw q') ((m+1:Nat):Rat) with h' | h'
  ·exact h'
  ·exfalso;have:=Vy h' hDq
   push_cast at this; grind
 have gb:Gr D (m+1) 0 (Gw q'):=by
  refine ⟨⟨(D+m:Nat),?_⟩,?_,hD0⟩
  ·rw [Vd,Ys,hbe];rw [show ((((D+m:Nat):Int)):Rat)=((D+m:Nat):Rat) from rfl]; push_cast; rfl
  ·have:Fh (Gw q')=Gw q':=by unfold Fh; rw [if_neg (by grind)]
   rw [this]; exact hbm
 have hMs:Fe ((m+1:Nat):Int)<=s+69+1:=uR (s:=s+69) hm2;have hK:(Gw q' - -Gw q')*((2^(Tt q' q'+1):Nat):Rat)<=((2^N:Nat):Rat):=by
  have hps:=On bq;have hg:Tt q' q'<=(2*s+164)*31:=by
   unfold Tt;exact Zf (by omega) (by omega)
  exact Qpg (s:=s+69) (g:=Tt q' q'+1) (N:=N) (by grind) hm2 (by omega)
 have hN:Fe (D:Int)+Fe ((m+1:Nat):Int)+(0+N)<=16777216:=by omega
 obtain ⟨F,hFe⟩:=nmE (99999-N);obtain ⟨ls,r1,r2,r3⟩:=MP (F:=F) hS sq.pq.t (by omega) (λh=>by rw [hl0 h]) (W3 m) N 0 (-Gw q') (Gw q') (by grind) (Qt2 gb) gb hN hK;rw [show F+N+1=100000 by omega] at r1;have hchq:chq (Gw q')=some (Gw q'):=Qfk gb (W3 m) (by omega);have key:∀ t∈ls,Va t/\t.p=q'/\t.lo<t.hi/\Bd (s+69) q'/\∃ D M k,Gr D M k t.lo/\Gr D M k t.hi/\0<M/\Fe (D:Int)≤s+69/\Fe (M:Int)≤s+70/\k≤N:=λt ht=>by
  obtain ⟨k',k1,k2,k3⟩:=r3 t ht;have hmem:∀ {lo hi:Rat} {ls:List Tm},RI q' ((q'::l).map cz) lo ls hi->t∈ls->Vt (cz q') ((q'::l).map cz) t.lo t.hi/\t.p=q':=λh=>by
   induction h with
   | nil=>intro ht; cases ht
   |
    cons h hv ht' hp hl ih =>
    intro ht;rcases Qm.1 ht with rfl | ht
    ·exact ⟨ht',hp⟩
    ·exact ih ht
  obtain ⟨v1,v2⟩:=hmem r2 ht;have lq2:2<=q'.length:=by
   rcases Q9 q'.length 2 with e | e
   ·exfalso;have hvv:∀ x,vv ((q'::l).map cz) x=0:=λx=>by
     rw [hl0 e,sq.pq.one e];have hv1:∀ x:Rat,ev (cz [1]) x=1:=λx=>by rw [U8,Nn]
     simp only [Z0,X7,vv,tc,hv1];have:Fc 1=1:=by decide
     rw [this]; decide
    have:=v1.v;rw [hvv,hvv] at this; omega
   ·exact e
  exact ⟨⟨.inr ⟨_,by rw [v2]; exact v1⟩,by rw [v2]; exact sq.pq.t,by rw [v2]; omega,by rw [v2]; exact lq2,by rw [v2]; exact U0 bq (by omega),λ_=>by rw [v2]; exact U0 bq (by omega),λ_=>by rw [v2]; exact ⟨l,_,g,hch,sq,v1⟩,D,m+1,k',k2,k3,W3 m,Qc (show _<=1000000 by omega) (Qt6 t)⟩,v2,v1.l,bq,D,m+1,k',k2,k3,W3 m,hDs,Qc hMs (Ql (s+70)),by rw [Zz] at k1; exact k1⟩
 refine ⟨q',q'::l,ls,hq',q2,?_,hS,r2,λt ht=>(key t ht).1,λx y hxy hb=>cY hS sq.pq.t sq.pq.n hxy hb (by grind),by omega,λt ht=>(key t ht).2⟩
 ·unfold SS;rw [q2,hq'];show (chq (Gw q')).bind _=_;rw [hchq];simp only [Jb];rw [Qb7 hS hall];exact r1
theorem Qi2 {s:Nat} {p:Uk} (hs9:s≤1180) (h:Okp 9 s p):∃ q c l,Pf p=some q/\Lt p=some c/\SS p=some l/\GH (cz q) (c.map cz)/\RI q (c.map cz) (-Gw q) l (Gw q)/\(∀ t∈l,Va t)/\(∀ x y,x<y->Gw q≤x\/y≤-Gw q->vv (c.map cz) x=vv (c.map cz) y)/\q.length≤p.length/\∀ t∈l,t.p=q/\t.lo<t.hi/\Bd (s+69) q/\∃ D M k,Gr D M k t.lo/\Gr D M k t.hi/\0<M/\Fe (D:Int)≤s+69/\Fe (M:Int)≤s+70/\k≤63*s+5160:=Qb8 rfl hs9 h
theorem Qi1 {p:Uk} (h:Okp 9 1180 p):∃ q c l,Pf p=some q/\Lt p=some c/\SS p=some l/\GH (cz q) (c.map cz)/\RI q (c.map cz) (-Gw q) l (Gw q)/\(∀ t∈l,Va t)/\(∀ x y,x<y->Gw q≤x\/y≤-Gw q->vv (c.map cz) x=vv (c.map cz) y):=by
 obtain ⟨q,c,l,h1,h2,h3,h4,h5,h6,h7,_⟩:=Qi2 (Ql _) h;exact ⟨q,c,l,h1,h2,h3,h4,h5,h6,h7⟩
theorem L6 {q:Uk} {L:Uo} (hS:GH (cz q) L) {c:Rat->Int} (hc:Cut c) {lo:Rat} (hH:∀ z,c z=-1->z<=lo->vv L z=vv L lo) {y0:Rat} (hy:c y0=-1) (hv:∀ z,lo<z->z<=y0->vv L z=vv L lo):∃ s,s≠0/\∀ z,c z=-1->z<=y0->Fc (ev (cz q) z)=s:=by
 have hall:∀ z,c z=-1->z<=y0->vv L z=vv L lo:=λz h1 h2=>by
  rcases Gb z lo with e | e
  ·exact hH z h1 e
  ·exact hv z e h2
 have hne:∀ z,c z=-1->z<=y0->Fc (ev (cz q) z)≠0:=λz h1 h2=>by
  obtain ⟨w,w1,w2⟩:=hc.dn z h1;have:=vX hS w1 (by rw [hall w w2 (by grind),hall z h1 h2]);rw [this.s]; exact this.n
 refine ⟨Fc (ev (cz q) y0),hne y0 hy Qp,λz h1 h2=>?_⟩;rcases Classical.em (z=y0) with e | e
 ·rw [e]
 ·have:=vX hS (x:=z) (y:=y0) (by grind) (by rw [hall z h1 h2,hall y0 hy Qp]);rw [this.s,Ae (hne z h1 h2)]
structure Fst (o:List Int) (a t:Tm):Prop where
 lt:Mb a t
 s:∃ s,s≠0/\(∀ z,Fj a z=-1->Fj t z=1->Fc (ev (cz o) z)=s)/\RS (cz o) (Fj t) (-s)
def Non (o:Uk) (a:Tm):Prop:=∃ s,s≠0/\∀ z,Fj a z=-1->Fc (ev (cz o) z)=s
theorem Qbr {q:Uk} {L:Uo} (hS:GH (cz q) L) {a:Tm} (ha:Va a) {lo hi:Rat} {l:List Tm} (hR:RI q L lo l hi):(∀ t∈l,Va t)->(∀ z,hi<z->vv L z=vv L hi)->(∀ z,Fj a z=-1->z≤lo->vv L z=vv L lo)->∃ r,VH a l=some r/\match r with
 | none=>Non q a
 | some t=>t∈l/\Fst q a t:=by
 have ca:=ha.cut
 induction hR with
 |
  @nil lo hi h hv =>
  intro _ hhi hH;refine ⟨none,rfl,?_⟩;obtain ⟨y1,hy1⟩:=ca.hi;have hall:∀ z,lo<z->vv L z=vv L lo:=λz hz=>by
   rcases Gb z hi with e | e
   ·have h1:=Aq hS hz;have h2:vv L hi<=vv L z:=by
     rcases Classical.em (z=hi) with e' | e'
     ·rw [e']; exact Ql _
     ·exact Aq hS (by grind)
    omega
   ·rw [hhi z e,hv]
  obtain ⟨s,s0,hs⟩:=L6 hS ca hH hy1 λz h1 _=>hall z h1
  refine ⟨s,s0,λz hz=>?_⟩;rcases Gb z y1 with e | e
  ·exact hs z hz e
  ·obtain ⟨s',s0',hs'⟩:=L6 hS ca hH hz λz h1 _=>hall z h1
   rw [hs' z hz Qp,<-hs' y1 hy1 (Qr e),hs y1 hy1 Qp]
 |
  @cons lo hi t l h hv ht hp hl ih =>
  intro hV hhi hH;have hvt:=hV t (Qx ..);have ct:=hvt.cut;have ht':=ht;rw [<-hp] at ht';have ect:∀ z,Fj t z=cq (cz t.p) t.lo t.hi z:=B6 ht.l;obtain ⟨c,c1,c2⟩:=WO hvt ha;show ∃ r,((WI t a).bind λc=>if 0<c then some (some t) else VH a l)=some r/\_;rw [c1];show ∃ r,(if 0<c then some (some t) else VH a l)=some r/\_;have hlo1:Fj t t.lo=1:=by rw [ect]; exact Ez Qp
  have hlow:∀ z,lo<z->Fj t z=1->vv L z=vv L lo:=λz h1 h2=>by
   rcases Gb z t.lo with e | e
   ·have a1:=Aq hS h1;have a2:vv L t.lo<=vv L z:=by
     rcases Classical.em (z=t.lo) with e' | e'
     ·rw [e']; exact Ql _
     ·exact Aq hS (by grind)
    omega
   ·rw [ect] at h2;have hz:z<=t.hi:=by
     rcases Gb z t.hi with e' | e'
     ·exact e'
     ·rw [UZ ht.l e'] at h2; omega
    rw [ht'.eq_lo e hz h2,hv]
  by_cases hc:0<c
  ·rw [if_pos hc];refine ⟨some t,rfl,Qx ..,?_⟩;have hlt:Mb a t:=by
    rcases c2 with ⟨e,_⟩ | ⟨e,_⟩ | ⟨_,h⟩
    ·omega
    ·omega
    ·exact h
   refine ⟨hlt,?_⟩;obtain ⟨m,m1,m2⟩:=hlt;obtain ⟨s,s0,hs⟩:=L6 hS ca hH m1 λz h1 h2=>hlow z h1 (by
    rcases Classical.em (z=m) with e | e
    ·rw [e]; exact m2
    ·exact ct.mono' (q:=z) (r:=m) (by grind) (by omega))
   have hall:∀ z,Fj a z=-1->Fj t z=1->Fc (ev (cz q) z)=s:=λz h1 h2=>by
    rcases Gb z m with e | e
    ·exact hs z h1 e
    ·obtain ⟨s',s0',hs'⟩:=L6 hS ca hH h1 λw w1 w2=>hlow w w1 (by
      rcases Classical.em (w=z) with e | e
      ·rw [e]; exact h2
      ·exact ct.mono' (q:=w) (r:=z) (by grind) (by omega))
     rw [hs' z h1 Qp,<-hs' m m1 (Qr e),hs m m1 Qp]
   refine ⟨s,s0,hall,?_⟩;obtain ⟨w,w1,w2,w3⟩:=BH ct m2 hlo1;have hwa:Fj a w=-1:=ca.mono m w w2 (by omega);have hsw:=hall w hwa w1;have hwh:w<t.hi:=by
    rw [ect] at w1;rcases Gb t.hi w with e | e
    ·have:=ht'.hi1;rcases Classical.em (t.hi=w) with e' | e'
     ·rw [<-e'] at w1; exact absurd w1 this
     ·rw [UZ ht.l (by grind)] at w1; omega
    ·exact e
   have hww:vv L w=vv L t.lo:=ht'.eq_lo w3 (Qr hwh) (by rw [<-ect]; exact w1);have hvv:=ht.v;have hone:=vZ hS hwh (by omega);have hlw:Ph (cz q) w=s:=by rw [Ae (by rw [hsw]; exact s0),hsw]
   rw [hlw] at hone;have hd:∀ z,w<z->z<=t.hi->Fj t z=-1->Fc (ev (cz q) z)=-s:=λz z1 z2 z3=>by
    rw [ect] at z3;have e1:=ht'.eq_hi (by grind) z2 (by omega);have e2:=vZ hS z1 (by omega);rw [hlw] at e2;have hz0:Fc (ev (cz q) z)≠0:=by
     rw [Ig (by grind) z2,hp] at z3;intro h0;rw [if_pos h0] at z3; omega
    rw [Ae hz0] at e2; exact e2.2
   rcases ct.val t.hi with e | e | e
   ·rw [ect] at e; exact absurd e ht'.hi1
   ·obtain ⟨d,dp,hd'⟩:=Qxb (p:=cz q) (x:=t.hi) (by rw [hone.2]; omega);refine ⟨t.hi+d,ct.mono t.hi _ (by grind) (by omega),λz h1 h2=>?_⟩;have hz:t.hi<z:=by
     rcases Gb z t.hi with e' | e'
     ·rcases Classical.em (z=t.hi) with e'' | e''
      ·rw [e''] at h1; omega
      ·have:=ct.mono z t.hi (by grind) (by omega); omega
     ·exact e'
    rw [hd' z hz (by grind),hone.2]
   ·exact ⟨t.hi,e,λz h1 h2=>hd z (ct.lt w1 h1) h2 h1⟩
  ·rw [if_neg hc];have hle:¬Mb a t:=λh=>by
    rcases c2 with ⟨e,h'⟩ | ⟨e,h'⟩ | ⟨e,_⟩
    ·exact Ik ct ca h' h
    ·obtain ⟨z,z1,z2⟩:=h;have:=h' z; omega
    ·omega
   obtain ⟨r,r1,r2⟩:=ih (λx hx=>hV x (Qg _ hx)) hhi λz z1 z2=>by
    have hz:Fj t z≠1:=λh=>hle ⟨z,z1,h⟩
    have hzl:t.lo<z:=by
     rcases Gb z t.lo with e | e
     ·refine absurd ?_ hz;rw [ect]; exact Ez e
     ·exact e
    exact ht'.eq_hi hzl z2 (by rw [<-ect]; exact hz)
   refine ⟨r,r1,?_⟩;cases r with
   | none=>exact r2
   | some x=>exact ⟨Qg _ r2.1,r2.2⟩
theorem Qre {c:Rat->Int} (hc:Cut c):∀ (n:Nat) (f:Un),HD f n->∃ s,s≠0/\RS f c s
 |
  n,f,h=>by
  rcases JF hc f with hv | ⟨s,hs,hn⟩
  ·cases n with
   |
    zero =>
    exfalso;obtain ⟨q,hq,_⟩:=fV hc (hv (Fh (f.getD 0 0)) (Cj h.1));cases f with
    | nil=>exact h.1 (by simp)
    |
     cons a l =>
     have:=Dy (p:=l) λk=>by have:=h.2 (k+1) (by omega); rwa [Q4] at this
     simp only [ev,this,Zt] at hq; grind
   |
    succ n =>
    have hd:HD (Nz f) n:=by
     have key:∀ (f:Un) (k:Nat),(Nz f).getD k 0=((k+1:Nat):Rat)*f.getD (k+1) 0:=by
      intro f
      induction f with
      | nil=>intro k; simp only [Nz,Kt]; grind
      |
       cons a f ih =>
       intro k;simp only [Nz];rw [Rh,Q4];cases k with
       | zero=>rw [Zt]; push_cast; grind
       | succ k=>rw [Q4,ih]; push_cast; grind
     refine ⟨λh0=>?_,λk hk=>by rw [key,h.2 (k+1) (by omega)]; grind⟩;rw [key] at h0;rcases Yy.1 h0 with h1 | h1
     ·have:=nat_pos (show 0<n+1 by omega); grind
     ·exact h.1 h1
    obtain ⟨s,hs,h1⟩:=Qre hc n (Nz f) hd;exact ⟨s,hs,yG hc hv h1 hs⟩
  ·exact ⟨s,hs,qT hc hn⟩
theorem Qi4 {c:Rat->Int} (hc:Cut c) {f p q:Un} {s s':Int} (hf:∀ t,ev f t=ev p t*ev q t) (h:RS p c s) (h':RS q c s'):RS f c (s*s'):=by
 obtain ⟨y,h1,h2⟩:=h;obtain ⟨y',h3,h4⟩:=h';refine ⟨if y<=y' then y else y',by split <;> assumption,λz z1 z2=>?_⟩;rw [hf,Si,h2 z z1 (by clear h2 h4; grind),h4 z z1 (by clear h2 h4; grind)]
theorem Qi5 {c:Rat->Int} (hc:Cut c) {f o S:Un} {k:Rat} (hk:k≠0) (hf:∀ t,ev f t=k*(ev o t*(ev S t*ev S t))) (hnz:¬∀ t,ev f t=0) {s:Int} (h:RS o c s):RS f c (Fc k*s):=by
 obtain ⟨n,_,hn⟩:∃ n,n<S.length/\HD S n:=by
  rcases CM S with h1 | h1
  ·exact absurd (λt=>by rw [hf,h1]; grind) hnz
  ·exact h1
 obtain ⟨s',hs',h'⟩:=Qre hc n S hn;have h1:=Qi4 hc (f:=G5 S S) (λt=>Ff t _ _) h' h';have h2:=Qi4 hc (f:=G5 o (G5 S S)) (λt=>Ff t _ _) h h1;have hsq:s'*s'=1:=by
  obtain ⟨y,y1,y2⟩:=h';have:=y2 y y1 Qp;rcases Fu (ev S y) with ⟨e,_⟩ | ⟨e,_⟩ | ⟨e,_⟩
  ·rw [<-this,e]; rfl
  ·omega
  ·rw [<-this,e]; rfl
 rw [hsq,W9] at h2;obtain ⟨y,y1,y2⟩:=h2;exact ⟨y,y1,λz z1 z2=>by
  have:=y2 z z1 z2;rw [Ff,Ff] at this;rw [hf,Si,this]⟩
structure Cp (p:List Int):Prop where
 t:U9 p
 l:p.length<=9
 b:Bd 1110 p
theorem Cp.dp {p:Uk} (h:Cp p):Dp p:=⟨h.t,h.l,U0 h.b (by omega)⟩
theorem Cp.ok {p:Uk} (h:Cp p) (h0:p.length≠0):Okp 9 1180 p:=h.dp.ok h0
def Leq (a:Tm) (c:Rat->Int):Prop:=∀ q,c q=-1->Fj a q=-1
def Pg (p:Uk) (a:Tm):Option Tm->Prop
 | none=>p=[]\/∃ s,s≠0/\∀ c,Cut c->Leq a c->RS (cz p) c s
 | some t=>p≠[]/\Va t/\Mb a t/\∃ s,s≠0/\(∀ c,Cut c->Leq a c->(∃ m,c m=-1/\Fj t m=1)->RS (cz p) c s)/\RS (cz p) (Fj t) (-s)
theorem RI.len {q:Uk} {L:Uo} {lo hi:Rat} {l:List Tm} (h:RI q L lo l hi):l.length+vv L hi<=vv L lo:=by
 induction h with
 | nil h hv=>simp; omega
 | cons h hv ht hp hl ih=>have:=ht.v; simp only [Q7]; omega
theorem Qj1 (x:Rat):∀ (L:Uo) (s:Int),tc x s L<=L.length
 | [],_=>Ql _
 |
  f::l,s=>by
  have h1:=Qj1 x l;simp only [tc,Q7]
  repeat' split
  all_goals (first | (have:=h1 s; omega) | (have:=h1 (Fc (ev f x)); omega))
theorem Qvq (L:Uo) (x:Rat):vv L x<=L.length:=Qj1 x L 0
theorem JU {p:Uk} (h:Cp p):∃ l,WY p=some l/\l.length≤67/\(∀ t∈l,Va t)/\∀ a,Va a->∃ r,VH a l=some r/\Pg p a r/\∀ t,r=some t->t∈l:=by
 unfold WY;by_cases h0:p.length=0
 ·have e:p=[]:=Qj h0;subst e;exact ⟨[],rfl,by decide,(λt ht=>by cases ht),λa _=>⟨none,rfl,.inl rfl,λt ht=>by cases ht⟩⟩
 ·obtain ⟨qp,o,q1,o1,hpt⟩:=Qhz (n:=9) (s:=1110) (p:=p) ⟨⟨by decide,by decide⟩,h.t,h0,h.l,h.b⟩;obtain ⟨g,sq⟩:=hpt.sq;obtain ⟨S,hS⟩:=hpt.os;obtain ⟨p1,p2,p3,p4,p5,p6,p7⟩:=Ch h.t h0;have hpl:=h.l;obtain ⟨hh,th,eh⟩:=hpt.oh;have bo:Bd 1179 o:=ZE (p5 1110 h.b) (by omega) p1 hpt.ot th (by omega) eh;obtain ⟨lo1,lo2⟩:=Rz p1 (by omega) eh;have hlen:=Mh hpt.ot th p1 eh lo1 lo2;have oko:Okp 9 1180 o:=⟨aU,hpt.ot,by omega,by omega,U0 bo (by omega)⟩;obtain ⟨q,c,l,r1,r2,r3,hSt,hRI,hVa,hout⟩:=Qi1 oko;obtain ⟨g',q',s1,s2⟩:=YM oko;rw [r1] at s1;injection s1 with s1;subst s1;obtain ⟨_,_,_,_,_,o6,o7⟩:=Ch hpt.ot (by omega);have hg1:g'=[1]:=by
   refine s2.pg.one ?_;obtain ⟨E,hE⟩:=hpt.oq;have hE:∀ t,U7 qp t=U7 o t*ev E t:=λt=>by have:=hE t; rwa [U8,U8] at this
   obtain ⟨z,hz⟩:=s2.d;have hd1:∀ t,U7 o t=U7 g' t*(Hk o*U7 q t):=λt=>by rw [o7,s2.e]; grind
   have hdo:∀ t,dv (cz o) t=U7 g' t*(Hk o*ev z t):=λt=>by
    have:=Qf1 (p:=cz o) (q:=Dt (Hk o) (cz (Fg o))) (λt=>by rw [U8,Gn,U8,o7]) t;rw [this,HW,hz]; grind
   obtain ⟨k,hk,hkk⟩:=sq.num (d:=cz g') ⟨G5 (Dt (Hk o) (cz q)) E,λt=>by rw [U8,U8,hE,hd1,Ff,Gn,U8]; grind⟩ ⟨Sf (G5 (Dt (Hk o) z) E) (G5 (Dt (Hk o) (cz q)) (Nz E)),λt=>by
    have:=QY (f:=cz qp) (w:=cz o) (u:=E) (λt=>by rw [U8,U8,hE]) t;rw [Tk,this,hdo,U8,U8,hd1,Gy,Ff,Ff,Gn,Gn,Tk,U8]; grind⟩
   rcases Q9 g'.length 2 with e | e
   ·exact e
   ·exfalso;have h1:=(TO s2.pg.t (by omega)).1;have h2:=Dm (p:=cz g') (q:=[k]) (λt=>by rw [hkk]; simp only [ev]; grind) (g'.length-1);rw [h2,Qi,Qw (by simp; omega)] at h1;exact h1 rfl
  have hpq:∀ t,ev (cz p) t=((Hk p:Rat)*(Hk o:Rat))*(ev (cz q) t*(ev S t*ev S t)):=λt=>by
   rw [U8,U8,p7,hS,o7,s2.e,hg1,Nn]; grind
  have hk0:(Hk p:Rat)*(Hk o:Rat)≠0:=λh=>(Yy.1 h).elim (XX p6) (XX o6)
  have hpz:¬∀ t,ev (cz p) t=0:=λh'=>TC h.t (by omega) λt=>by rw [<-U8]; exact h' t
  obtain ⟨k,hk⟩:=nmE (Fc ((Hk p:Rat)*(Hk o:Rat)));have hkn:k≠0:=λh=>hk0 (Gj.1 (by rw [<-hk]; exact h))
  have ho:o.length≠0:=by omega
  rw [o1];show ∃ l,(if o.length=0 then some [] else SS o)=some l/\l.length<=67/\_;rw [if_neg ho];have hb1:=GB (Eb s2.pq.t s2.pq.n);have hll:=hRI.len;have hlv:=Qvq (c.map cz) (-Gw q);have hcl:=(Orr.chain_ok (p:=o) ⟨hpt.ot,by omega,U0 bo (by omega)⟩ r2).1;rw [Q6] at hlv;refine ⟨l,r3,by omega,hVa,λa ha=>?_⟩;obtain ⟨r,n1,n2⟩:=Qbr hSt ha hRI hVa (λz hz=>(hout _ _ hz (.inl Qp)).symm) λz _ hz=>by
   rcases Classical.em (z=-Gw q) with e | e
   ·rw [e]
   ·exact hout z _ (by grind) (.inr Qp)
  refine ⟨r,n1,?_,λt ht=>by subst ht; exact n2.1⟩;cases r with
  |
   none =>
   obtain ⟨s,hs,hz⟩:=n2;refine .inr ⟨k*s,Jp hkn hs,λc hc hac=>?_⟩;obtain ⟨y,hy⟩:=hc.hi;have h1:RS (cz q) c s:=⟨y,hy,λz z1 _=>hz z (hac z z1)⟩;rw [hk]; exact Qi5 hc hk0 hpq hpz h1
  |
   some t =>
   obtain ⟨hm,hlt,s,hs,hz,hrs⟩:=n2;refine ⟨λe=>h0 (by rw [e]; rfl),hVa t hm,hlt,k*s,Jp hkn hs,λc hc hac ⟨m,m1,m2⟩=>?_,?_⟩
   ·have h1:RS (cz q) c s:=⟨m,m1,λz z1 z2=>hz z (hac z z1) (by
     rcases Classical.em (z=m) with e | e
     ·rw [e]; exact m2
     ·exact (hVa t hm).cut.mono' (q:=z) (r:=m) (by grind) (by omega))⟩
    rw [hk]; exact Qi5 hc hk0 hpq hpz h1
   ·have:=Qi5 (hVa t hm).cut hk0 hpq hpz hrs;rw [<-hk] at this;rw [show -(k*s)=k*-s by rw [Kn]]; exact this
structure Sz (s n:Nat) (t:Tm):Prop where
 n:t.p.length<=n
 b:Bd (s+138) t.p
 g:∃ D M k,Gr D M k t.lo/\Gr D M k t.hi/\0<M/\Fe (D:Int)<=s+138/\Fe (M:Int)<=s+139/\k<=63*s+9507
theorem Qhv {p:Uk} (h:Cp p) {a:Tm} (ha:Va a):∃ r,SK p a=some r/\Pg p a r:=by
 obtain ⟨l,l1,_,_,l3⟩:=JU h;obtain ⟨r,r1,r2,_⟩:=l3 a ha;refine ⟨r,?_,r2⟩;unfold SK;rw [l1]; exact r1
theorem HA:∀ (l:List Tm) (b:Tm),(∀ t∈b::l,Va t)->∃ m,QF b l=some m/\m∈b::l/\∀ t∈b::l,¬Mb t m
 |
  [],b,h=>⟨b,rfl,Qx ..,λt ht h'=>by
  rw [Qk.1 ht] at h';have hb:=(h b (Qx ..)).cut;exact Ik hb hb h' h'⟩
 |
  a::l,b,h=>by
  have ha:=h a (by simp);have hb:=h b (by simp);obtain ⟨c,c1,c2⟩:=WO ha hb;obtain ⟨m,m1,m2,m3⟩:=HA l (if c<0 then a else b) λt ht=>by
   rcases Qm.1 ht with rfl | ht
   ·split <;> assumption
   ·exact h t (by simp [ht])
  refine ⟨m,by simp only [QF]; rw [c1]; exact m1,?_,λt ht=>?_⟩
  ·rcases Qm.1 m2 with e | e
   ·rw [e]; split <;> simp
   ·simp [e]
  ·have hm:Va m:=by
    rcases Qm.1 m2 with e | e
    ·rw [e]; split <;> assumption
    ·exact h m (by simp [e])
   have hfst:=m3 _ (Qx ..);have tr:∀ x y:Tm,Va x->Va y->¬Mb x y->¬Mb y m->¬Mb x m:=λx y hx hy h1 h2 h3=>by
    rcases tri hy.cut hm.cut with h4 | h4 | h4
    ·exact h2 h4
    ·obtain ⟨q,q1,q2⟩:=h3;exact h1 ⟨q,q1,by rw [h4]; exact q2⟩
    ·obtain ⟨q,q1,q2⟩:=h3;obtain ⟨r,r1,r2⟩:=h4;have:=hm.cut.lt q2 r1;exact h1 ⟨q,q1,hy.cut.mono' this (by omega)⟩
   rcases Qm.1 ht with rfl | ht
   ·by_cases hc:c<0
    ·rw [if_pos hc] at hfst;refine tr _ a hb ha ?_ hfst;rcases c2 with ⟨_,h'⟩ | ⟨e,_⟩ | ⟨e,_⟩
     ·exact λh''=>Ik ha.cut hb.cut h' h''
     ·omega
     ·omega
    ·rw [if_neg hc] at hfst; exact hfst
   ·rcases Qm.1 ht with rfl | ht
    ·by_cases hc:c<0
     ·rw [if_pos hc] at hfst; exact hfst
     ·rw [if_neg hc] at hfst;refine tr _ b ha hb ?_ hfst;rcases c2 with ⟨e,_⟩ | ⟨_,h'⟩ | ⟨_,h'⟩
      ·omega
      ·rintro ⟨q,q1,q2⟩
       have:=h' q; omega
      ·exact λh''=>Ik ha.cut hb.cut h'' h'
    ·exact m3 t (by simp [ht])
end Orq
namespace Orr
open Go Go.Proofs Tryz Orq
set_option maxRecDepth 10000
theorem Dp.pb {p:Uk} (h:Dp p):Pb p:=⟨h.t,by have:=h.l; omega,U0 h.b (by have:=h.l; omega)⟩
theorem Qwp {p:Uk} {a:Tm} (hp:Dp p) (ha:Va a):Uh 241 [pr p,.agg (ta a)] [.oi (Fp a p)]:=Qlj (Dp.pb hp) ha.tb (Qjc hp ha).1
theorem Qwi {p:Uk} {a:Tm} (hp:Dp p) (ha:Va a):Uh 240 [pr p,.one (.sh (ta a))] [.oi (Fp a p)]:=Ue func240 rfl [.k (Qwp hp ha)] rfl
theorem Qmm {p:Uk} {fid:Nat} {l1:Up} {sgn:Uk->Int} (hp:Dp p) (h:∀ p,Dp p->ER prog fid [pr p,.one (.sh l1)] [.oi (sgn p)]):Uh 239 [pr p,.one (.fn fid [] [.sh l1])] [.oi (Tq sgn p.length p)]:=by
 have hpb:=Dp.pb hp;refine Fw func239 rfl ?_;refine Ub [.k (Ht hpb.t hpb.ln hpb.bd)] rfl ?_;refine Ug (S:=Uk) 0 (λL1 s=>(0,.v (pr s))::L1) (λ_=>[]) (λs=>s.length) (λs=>Dp s/\Tq sgn s.length s=Tq sgn p.length p) p ⟨hp,rfl⟩ rfl rfl λr ⟨j1,j4⟩=>?_
 rw [<-j4];have jb:=Dp.pb j1;by_cases h0:r.length=0
 ·have e:=uK sgn h0;rw [e];exact Ud [.f (by simp; exact Qj h0)] rfl
 ·have hs:=h r j1;by_cases hz:sgn r=0
  ·have hlp:=M7 r;refine Ub [.t (by simp; omega),.k hs,.f (by simpa using hz),.k (Iv jb.ln jb.bd)] rfl ?_;exact rd (Gv r) (by omega) ⟨j1.der,by rw [<-uV sgn (by omega) hz]⟩ rfl
  ·rw [uY sgn (by omega) hz];exact Ud [.t (by simp; omega),.k hs,.t (by simpa using hz)] rfl
abbrev gmA (a:Tm) (p:Uk):Int:=Hg (Fp a) p
theorem TN {p:Uk} {a:Tm} (hp:Dp p) (ha:Va a):Uh 175 [pr p,.agg (ta a)] [.oi (gmA a p)] :=
 Ue func175 rfl [.k (Qmm (sgn:=Fp a) hp λ_ h=>Qwi h ha)] rfl
theorem kK {t:Tm} {a b:Pt} {ps:Ul} (hps:∀ p∈ps,Dp p) (ht:Va t) (hl:ps.length<1000):Uh 231 [.agg (ta t),.agg (Fa a),.agg (Fa b),.one (.row (S6 ps))] [.one (.bool (Lo (Fp t) a b ps))]:=by
 refine Fw func231 rfl ?_;have hpl:(S6 ps).length=ps.length:=by simp [S6]
 refine Ub [] rfl ?_;refine Ug (S:=Nat) 3 (λL1 i=>(13,.v (.oi i))::L1) (λ_=>[.blk 105 (ta t),.blk 40 (Fa a),.blk 40 (Fa b)]) (λi=>ps.length-i) (λi=>i<=ps.length/\Lo (Fp t) a b (ps.drop i)=Lo (Fp t) a b ps) 0 ⟨Qh _,rfl⟩ rfl rfl λi ⟨hi,he⟩=>?_
 rw [<-he];by_cases hlt:i<ps.length
 ·obtain ⟨p,hp⟩:=gxE (l:=ps) (i:=i) hlt;have hd:ps.drop i=p::ps.drop (i+1):=by
   rw [Zr hlt];rw [Qe hlt] at hp; injection hp with hp; rw [hp]
  have hpb:=hps p (Qa hp);rw [hd] at he ⊢;by_cases h0:0<p.length
  ·exact Ud [.t (by simp [hpl]; omega),.x (Rk hp),.t (by simp; omega),.k (TN hpb ht)] rfl (by simp only [Lo]; rw [if_pos h0]) trivial
  ·refine Uc [.t (by simp [hpl]; omega),.x (Rk hp),.f (by simp; exact Qj (by omega))] rfl ?_;exact rd (i+1) (by omega) ⟨hlt,by simp only [Lo]; rw [if_neg h0]⟩ rfl
 ·have hd:ps.drop i=[]:=Yq (by omega);rw [hd];exact Ud [.f (by simp [hpl]; omega)] rfl
structure Sc (k:Crv):Prop where
 n:JH k
 c:Cs 128 3 k
theorem Sc.cb {k:Crv} (h:Sc k):Cb k:=h.c.mono (by omega) (by omega)
theorem M4 {a b:Crv} (ha:Sc a) (hb:Sc b):Cp (Gh a b):=by
 refine ⟨Fv _ _,?_,U0 (De (Gf hb.c.x ha.c.d) (Gf ha.c.x hb.c.d)) (by omega)⟩;have:=M8 (Ft b.x a.d) (Ft a.x b.d);have:=Fx b.x a.d; have:=Fx a.x b.d; have:=ha.c.lx; have:=hb.c.lx;unfold Gh; omega
theorem M3 {a b:Crv} (ha:Sc a) (hb:Sc b):Cp (Gg a b):=by
 refine ⟨Fv _ _,?_,U0 (De (Gf hb.c.y ha.c.d) (Gf ha.c.y hb.c.d)) (by omega)⟩;have:=M8 (Ft b.y a.d) (Ft a.y b.d);have:=Fx b.y a.d; have:=Fx a.y b.d; have:=ha.c.ly; have:=hb.c.ly;unfold Gg; omega
theorem Qlk {a b:Pt} {t:Tm} (ha:Sc a.c) (hb:Sc b.c) (ht:Va t):Uh 174 [.agg (Fa a),.agg (Fa b),.agg (ta t)] [.one (.bool (By (Fp t) a b))] :=
 Ue func174 rfl [.k (WS hb.n ha.n hb.cb ha.cb),.k (WN hb.n ha.n hb.cb ha.cb),.k (kK (t:=t) (a:=a) (b:=b) (ps:=[Gg b.c a.c,Gh b.c a.c]) (λp hp=>by
  simp at hp;rcases hp with rfl | rfl
  ·exact (M3 hb ha).dp
  ·exact (M4 hb ha).dp) ht (show 2<1000 by decide))] rfl
theorem Qdj {a b:Pt} {t:Tm} (ha:Sc a.c) (hb:Sc b.c) (ht:Va t):Uh 167 [.agg (Fa a),.agg (Fa b),.agg (ta t)] [.one (.bool (Tn (Fp t) a b))] :=
 Ue func167 rfl [.k (WN ha.n hb.n ha.cb hb.cb),.k (WS ha.n hb.n ha.cb hb.cb),.k (kK (t:=t) (a:=a) (b:=b) (ps:=[Gh a.c b.c,Gg a.c b.c]) (λp hp=>by
  simp at hp;rcases hp with rfl | rfl
  ·exact (M4 ha hb).dp
  ·exact (M3 ha hb).dp) ht (show 2<1000 by decide))] rfl
theorem Qrn (q:Rat) {P:Prop} (h:(tq q).point=false):P:=by
 have e:(tq q).point=true:=Mj.2 Qp;rw [e] at h; cases h
theorem Qt8 (q:Rat):lim (tq q)=3300000:=by unfold lim; rw [if_pos (Mj.2 Rat.le_refl)]
theorem TK {q:Rat} (hq:Qs 1640000 q):Va (tq q):=by
 have hd:=q.den_nz;refine ⟨.inl ⟨rfl,?_⟩,iC q,by show 2<=9; omega,by show 2<=2; omega,Qwa (hq.mono (by omega)),Qrn q,Qrn q,q.den,q.num.natAbs+1,0,?_,?_,by omega,?_⟩
 ·have e:(q.num:Rat)=q*(q.den:Rat):=by
   have:(q.num:Rat) / (((q.den:Int)):Rat)=q:=by rw [H6,Z2]
   have h2:(q.num:Rat) / (q.den:Rat)*(q.den:Rat)=q.num:=Zg (by have:=Orq.nat_pos q.den_pos; grind);rw [show (q.num:Rat) / (q.den:Rat)=q from this] at h2; exact h2.symm
  show U7 [-q.num,(q.den:Int)] q=0;simp only [U7];rw [Vn,e,show (((q.den:Int)):Rat)=(q.den:Rat) from rfl]; grind
 all_goals first | (have h1:Fe (q.den:Int)<=1640000:=hq.2; have h2:Fe ((q.num.natAbs+1:Nat):Int)<=1640001:=Qbj hq.1; rw [Qt8]; omega) | skip
 all_goals
  refine ⟨⟨q.num,?_⟩,?_,q.den_pos⟩
  ·rw [Vd,Ys];have:(q.num:Rat) / (((q.den:Int)):Rat)=q:=by rw [H6,Z2]
   have h2:(q.num:Rat) / (q.den:Rat)*(q.den:Rat)=q.num:=Zg (by have:=Orq.nat_pos q.den_pos; grind);rw [show (q.num:Rat) / (q.den:Rat)=q from this] at h2; exact h2
  ·have h1:Fh q<=Fh (q.num:Rat):=by
    have e:(q.num:Rat)=q*(q.den:Rat):=by
     have:(q.num:Rat) / (((q.den:Int)):Rat)=q:=by rw [H6,Z2]
     have h2:(q.num:Rat) / (q.den:Rat)*(q.den:Rat)=q.num:=Zg (by have:=Orq.nat_pos q.den_pos; grind);rw [show (q.num:Rat) / (q.den:Rat)=q from this] at h2; exact h2.symm
    rw [e,Ia];have hd1:(1:Rat)<=(q.den:Rat):=by
     have:((1:Nat):Rat)<=(q.den:Rat):=Zl.2 q.den_pos;exact this
    have e2:Fh (q.den:Rat)=(q.den:Rat):=by unfold Fh; rw [if_neg (by grind)]
    rw [e2];have:=Ce (a:=Fh q) (c:=1) (Hq q) Qp (by decide) hd1;grind
   rw [Sk] at h1;refine Zk h1 (Zl.2 (by omega))
theorem JO {p q:Uk} (hp:Cp p) (hq:Cp q):Cp (Lk p q):=by unfold Lk; split <;> assumption
theorem cL {a b:Pt} {t:Tm} (ha:Sc a.c) (hb:Sc b.c) (ht:Va t):Uh 255 [.oi 1,.agg (ta t),.one (.row [Fa a,Fa b])] [.agg (Db (QT (Fp t) a b)),.oi 0]:=by
 have h1:=M4 ha hb;have h2:=M3 ha hb;refine Fw func255 rfl ?_;refine Ub [.k Qal,.f rfl] rfl ?_;refine Ug (S:=Nat) 3 (λL1 i=>(22,.v (.oi i))::L1) (λi=>[.blk 105 (ta t),.blk 99 zCt,.blk 99 [.int .i64 1,.int .i64 (if 1<=i then a.id else 0),.int .i64 (if 2<=i then b.id else 0),.int .i64 0,.int .i64 0,.nils,.int .i64 0]]) (λi=>2-i) (λi=>i<=2) 0 (Qh _) rfl rfl λi hi=>?_
 rcases (show i=0\/i=1\/i=2 by omega) with rfl | rfl | rfl
 ·refine Ub [.t rfl,.x (i:=0) (xs:=Fa a) rfl,.i 0] rfl ?_ (by simp [Uz]);exact rd 1 (by omega) (by omega) rfl
 ·refine Ub [.t rfl,.x (i:=1) (xs:=Fa b) rfl,.i 1] rfl ?_ (by simp [Uz]);exact rd 2 (by omega) (by omega) rfl
 ·exact Ud [.f rfl,.t rfl,.x (i:=0) (xs:=Fa a) rfl,.x (i:=1) (xs:=Fa b) rfl,.k (WN ha.n hb.n ha.cb hb.cb),.x (i:=0) (xs:=Fa a) rfl,.x (i:=1) (xs:=Fa b) rfl,.k (WS ha.n hb.n ha.cb hb.cb),.k kJ,.k (TN (JO h1 h2).dp ht)] rfl
end Orr
namespace Orr
variable {α:Type}
def Lp (lt:α->α->Bool) (out:List α) (x:α):Nat->Nat
 | 0=>0
 |
  k+1=>match out[k]? with
  | some y=>if lt x y=true then Lp lt out x k else k+1
  | none=>k+1
theorem yQ (lt:α->α->Bool) (out:List α) (x:α):∀ k,Lp lt out x k<=k
 | 0=>Ql _
 |
  k+1=>by
  simp only [Lp]
  split
  ·split
   ·exact Nat.le_succ_of_le (yQ lt out x k)
   ·exact Ql _
  ·exact Ql _
theorem aN {lt:α->α->Bool} {out:List α} {x y:α} {k:Nat} (hx:out[k]? = some y) (h:lt x y=true):Lp lt out x (k+1)=Lp lt out x k:=by
 simp only [Lp,hx,h,if_true]
theorem gZ {lt:α->α->Bool} {out:List α} {x y:α} {k:Nat} (hx:out[k]? = some y) (h:lt x y=false):Lp lt out x (k+1)=k+1:=by
 simp [Lp,hx,h]
def Ll (lt:α->α->Bool) (out:List α) (x:α):List α:=out.take (Lp lt out x out.length)++x::out.drop (Lp lt out x out.length)
theorem Qg4 (lt:α->α->Bool) (out:List α) (x:α):(Ll lt out x).length=out.length+1:=by
 have:=yQ lt out x out.length;simp [Ll]; omega
theorem UM {lt:α->α->Bool} {out:List α} {x y:α}:y∈Ll lt out x↔y=x\/y∈out:=by
 have h:y∈out↔y∈out.take (Lp lt out x out.length)\/y∈out.drop (Lp lt out x out.length):=by
  rw [<-Qq,Zi]
 simp only [Ll,Qq,Qm,h];constructor
 ·rintro (h | h | h)
  ·exact .inr (.inl h)
  ·exact .inl h
  ·exact .inr (.inr h)
 ·rintro (h | h | h)
  ·exact .inr (.inl h)
  ·exact .inl h
  ·exact .inr (.inr h)
def Ly (lt:α->α->Bool) (l:List α):List α:=l.foldl (Ll lt) []
theorem bR (lt:α->α->Bool) (l:List α) (x:α):Ly lt (l++[x])=Ll lt (Ly lt l) x:=by simp [Ly,Vr]
theorem bM {lt:α->α->Bool} {l:List α} {i:Nat} {x:α} (h:l[i]? = some x):Ly lt (l.take (i+1))=Ll lt (Ly lt (l.take i)) x:=by
 rw [Zv,h]; exact bR _ _ _
theorem CU (lt:α->α->Bool):∀ (l acc:List α),(l.foldl (Ll lt) acc).length=acc.length+l.length
 | [],acc=>by simp
 | c::l,acc=>by simp only [Z8]; rw [CU lt l (Ll lt acc c),Qg4]; simp; omega
theorem qL (lt:α->α->Bool) (l:List α):(Ly lt l).length=l.length:=by unfold Ly; rw [CU]; simp
theorem KY (lt:α->α->Bool):∀ (l acc:List α) {y:α},y∈l.foldl (Ll lt) acc↔y∈l\/y∈acc
 | [],acc,y=>by simp
 |
  c::l,acc,y=>by
  simp only [Z8];rw [KY lt l,UM,Qm];constructor
  ·rintro (h | h | h)
   ·exact .inl (.inr h)
   ·exact .inl (.inl h)
   ·exact .inr h
  ·rintro ((h | h) | h)
   ·exact .inr (.inl h)
   ·exact .inl h
   ·exact .inr (.inr h)
theorem Qca {lt:α->α->Bool} {l:List α} {y:α}:y∈Ly lt l↔y∈l:=by
 unfold Ly; rw [KY]; simp
end Orr
namespace Orr
open Go Orq
structure Wt where
 c:Ct
 known:Bool
 fails:Option Tm
def f0:Option Tm->LV | none=>.row [] | some t=>pl t.p
def f1:Option Tm->LV | none=>.bool false | some t=>sg t.lo.num
def f2:Option Tm->LV | none=>.row [] | some t=>mg t.lo.num
def f3:Option Tm->LV | none=>.bool false | some t=>sg (t.lo.den:Int)
def f4:Option Tm->LV | none=>.row [] | some t=>mg (t.lo.den:Int)
def f5:Option Tm->LV | none=>.bool false | some t=>sg t.hi.num
def f6:Option Tm->LV | none=>.row [] | some t=>mg t.hi.num
def f7:Option Tm->LV | none=>.bool false | some t=>sg (t.hi.den:Int)
def f8:Option Tm->LV | none=>.row [] | some t=>mg (t.hi.den:Int)
abbrev fl (o:Option Tm):Up:=[f0 o,f1 o,f2 o,f3 o,f4 o,f5 o,f6 o,f7 o,f8 o]
abbrev wl (w:Wt):Up:=[.int .i64 w.c.kind,.int .i64 w.c.i0,.int .i64 w.c.i1,.int .i64 w.c.i2,.int .i64 w.c.i3,pl w.c.p,.int .i64 w.c.want,.bool w.known,.bool w.fails.isSome,f0 w.fails,f1 w.fails,f2 w.fails,f3 w.fails,f4 w.fails,f5 w.fails,f6 w.fails,f7 w.fails,f8 w.fails]
def Bu (l:List Wt):Uq:=l.map λw=>wl w
theorem Hn {l:List Wt} {i:Nat} {w:Wt} (h:l[i]? = some w):(Bu l)[i]? = some (wl w):=Gt h
theorem Ti (l:List Wt):(Bu l).length=l.length:=by simp [Bu]
structure Cr where
 now:Tm
 l:List Wt
 ev:Int
abbrev Hr (c:Cr) (r0 r1:Uq):Up:=.bool true::pl c.now.p::sg c.now.lo.num::mg c.now.lo.num::sg (c.now.lo.den:Int)::mg (c.now.lo.den:Int)::sg c.now.hi.num::mg c.now.hi.num::sg (c.now.hi.den:Int)::mg (c.now.hi.den:Int)::.row (Bu c.l)::.int .i64 c.ev::[.row r0,.row r1]
structure WtOk (w:Wt):Prop where
 p:Cp w.c.p
 f:∀ t,w.fails=some t->Va t
structure CrOk (c:Cr):Prop where
 n:Va c.now
 l:∀ w∈c.l,WtOk w
 k:c.l.length<=1000
def rK (a b:Ct):Bool:=decide ([a.kind,a.i0,a.i1,a.i2,a.i3]=[b.kind,b.i0,b.i1,b.i2,b.i3])
def fresh (x:Ct):Wt:=⟨x,false,none⟩
def Cc:List Wt->Ct->Tm->Option Wt
 | [],x,_=>some (fresh x)
 |
  w::l,x,at_=>if rK w.c x=true/\w.known=true/\w.c.p=x.p then
   match w.fails with
   | none=>some ⟨x,true,none⟩
   | some t=>(WI t at_).bind λc=>if 0<c then some ⟨x,true,some t⟩ else Cc l x at_
  else Cc l x at_
def P0 (old:List Wt) (at_:Tm):List Ct->Option (List Wt)
 | []=>some []
 | x::l=>(Cc old x at_).bind λw=>(P0 old at_ l).bind λr=>some (w::r)
end Orr
namespace Orr
open Go Go.Proofs Tryz Orq
set_option maxRecDepth 10000
theorem O6 {T:Nat} {c:Cr} {r0 r1:Uq} (hc:Va c.now):U5 prog 400 [.one (.ow 0 0)] [.blk T (Hr c r0 r1)] [.agg (ta c.now)] [.blk T (Hr c r0 r1)]:=by
 have cl:=Sx (b:=c.now) (l:=[]) hc.tb (λt ht=>by cases ht) (by decide) rfl;refine Fw func400 rfl ?_;exact Uf [] [0] [.f rfl,.k cl] rfl
theorem WP {T:Nat} {c:Cr} {r0 r1:Uq} (hc:CrOk c):U5 prog 389 [.one (.ow 0 0)] [.blk T (Hr c r0 r1)] [.one (.row (U6 (Fq (c.l.map (·.c)))))] [.blk T (Hr c r0 r1)]:=by
 have hk:=hc.k;have hw:=Ti c.l;refine Fw func389 rfl ?_;refine Ub [.o 3 99 7] rfl ?_;refine Ug (S:=Nat) 2 (λL1 i=>(11,.v (.oi i))::(3,.v (.one (.orow 1 7 none)))::L1) (λi=>[.blk T (Hr c r0 r1),.row false 99 7 (U6 ((c.l.map (·.c)).take i))]) (λi=>c.l.length-i) (λi=>i<=c.l.length) 0 (Qh _) rfl rfl λi hi=>?_
 by_cases hlt:i<c.l.length
 ·obtain ⟨x,hx⟩:=gxE (l:=c.l) (i:=i) hlt;have hm:∀ y∈[Db x.c],y.length=7:=λy hy=>by rw [Qk.1 hy]; rfl
  have hg:(c.l.map (·.c)).take (i+1)=(c.l.map (·.c)).take i++[x.c]:=by
   rw [Zv,Zb,hx]; rfl
  have hl:decide ((i:Int)<((Bu c.l).length:Int))=true:=by simp [hw]; omega
  obtain ⟨xc,xk,xf⟩:=x;cases xf <;> (refine go tt [.t hl,.x (Hn hx),.s (sz:=7) hm] rfl (by simp [Uz,Pa]; omega) ?_; exact rd (i+1) (by omega) hlt (by rw [hg]; simp [U6]; rfl))
 ·obtain rfl:i=c.l.length:=by omega
  have e:(c.l.map (·.c)).take c.l.length=c.l.map (·.c):=Qn (by simp);rw [e];have cs:=GI (l:=c.l.map (·.c)) (λx hx=>by
   obtain ⟨w,hw,rfl⟩:=Q8.1 hx;exact Dp.pb (hc.l w hw).p.dp) (by simp; omega)
  exact Uf [] [0] [.f (by simp [hw]),.k cs] rfl
theorem Qsd {T:Nat} {c:Cr} {r0 r1:Uq} {x:Ct} {at_:Tm} {w:Wt} (hc:CrOk c) (hx:Cp x.p) (ha:Va at_) (h:Cc c.l x at_=some w):U5 prog 289 [.one (.ow 0 0),.agg (Db x),.agg (ta at_)] [.blk T (Hr c r0 r1)] [.agg (wl w)] [.blk T (Hr c r0 r1)]:=by
 have hk:=hc.k;have hw:=Ti c.l;refine Fw func289 rfl ?_;refine Ub [] rfl ?_;refine Ug (S:=Nat) 4 (λL1 i=>(14,.v (.oi i))::L1) (λ_=>[.blk T (Hr c r0 r1),.blk 99 (Db x),.blk 105 (ta at_),.blk 352 [.int .i64 0,.int .i64 0,.int .i64 0,.int .i64 0,.int .i64 0,.nils,.int .i64 0,.bool false,.bool false,.nils,.bool false,.nils,.bool false,.nils,.bool false,.nils,.bool false,.nils]]) (λi=>c.l.length-i) (λi=>i<=c.l.length/\Cc (c.l.drop i) x at_=some w) 0 ⟨Qh _,h⟩ rfl rfl λi ⟨hi,hf⟩=>?_
 by_cases hlt:i<c.l.length
 ·obtain ⟨v,hv⟩:=gxE (l:=c.l) (i:=i) hlt;have hdr:c.l.drop i=v::c.l.drop (i+1):=by
   rw [Zr hlt]; congr 1;have:=Qe hlt; rw [hv] at this; injection this with this; exact this.symm
  have hvo:=hc.l v (Qa hv);rw [hdr] at hf;simp only [Cc] at hf;have hl:decide ((i:Int)<((Bu c.l).length:Int))=true:=by simp [hw]; omega
  by_cases A:rK v.c x=true
  ·have A':(!decide ([v.c.kind,v.c.i0,v.c.i1,v.c.i2,v.c.i3]=[x.kind,x.i0,x.i1,x.i2,x.i3]))=false:=by
    unfold rK at A; rw [A]; rfl
   by_cases B:v.known=true
   ·have B':(!v.known)=false:=by rw [B]; rfl
    have cs:=PN (p:=v.c.p) (q:=x.p) (Dp.pb hvo.p.dp).ln (Dp.pb hx.dp).ln (Dp.pb hvo.p.dp).bd (Dp.pb hx.dp).bd;rw [hvo.p.t,hx.t] at cs;by_cases C:v.c.p=x.p
    ·have C':(!decide (v.c.p=x.p))=false:=by simp [C]
     rw [if_pos ⟨A,B,C⟩] at hf;obtain ⟨vc,vk,vf⟩:=v;cases vf with
     |
      none =>
      injection hf with hf; subst hf;exact Uf [] [0] [.t hl,.x (Hn hv),.g 24 false A',.g 29 false B',.k cs,.f C',.g 41 true rfl,.t rfl] rfl
     |
      some t =>
      obtain ⟨r,r1',hf⟩:=Qd.1 hf;have cc:=VC (hvo.f t rfl).tb ha.tb r1';by_cases D:0<r
      ·rw [if_pos D] at hf;injection hf with hf; subst hf;exact Uf [] [0] [.t hl,.x (Hn hv),.g 24 false A',.g 29 false B',.k cs,.f C',.g 41 false rfl,.k cc,.t (by simpa using D)] rfl
      ·rw [if_neg D] at hf;refine Uc [.t hl,.x (Hn hv),.g 24 false A',.g 29 false B',.k cs,.f C',.g 41 false rfl,.k cc,.f (by simpa using D)] rfl ?_;exact rd (i+1) (by omega) ⟨hlt,hf⟩ rfl
    ·rw [if_neg λh=>C h.2.2] at hf;refine Uc [.t hl,.x (Hn hv),.g 24 false A',.g 29 false B',.k cs,.t (by simp [C])] rfl ?_;exact rd (i+1) (by omega) ⟨hlt,hf⟩ rfl
   ·rw [if_neg λh=>B h.2.1] at hf;refine Uc [.t hl,.x (Hn hv),.g 24 false A',.g 29 true (by simpa using B),.t rfl] rfl ?_;exact rd (i+1) (by omega) ⟨hlt,hf⟩ rfl
  ·rw [if_neg λh=>A h.1] at hf;refine Uc [.t hl,.x (Hn hv),.g 24 true (by rw [show decide ([v.c.kind,v.c.i0,v.c.i1,v.c.i2,v.c.i3]=[x.kind,x.i0,x.i1,x.i2,x.i3])=false from Wu.2 A]; rfl),.g 29 true rfl,.t rfl] rfl ?_;exact rd (i+1) (by omega) ⟨hlt,hf⟩ rfl
 ·obtain rfl:i=c.l.length:=by omega
  rw [Y9] at hf;simp only [Cc] at hf;injection hf with hf; subst hf;exact Uf [] [0] [.f (by simp [hw])] rfl
theorem XV {old:List Wt} {at_:Tm}:∀ {l:List Ct} {ws:List Wt},P0 old at_ l=some ws->ws.length=l.length/\∀ (i:Nat) (x:Ct),l[i]? = some x->∃ w,Cc old x at_=some w/\ws[i]? = some w
 | [],ws,h=>by injection h with h; subst h; exact ⟨rfl,λi x hx=>by simp at hx⟩
 |
  y::l,ws,h=>by
  simp only [P0] at h;obtain ⟨w,hw,h⟩:=Qd.1 h;obtain ⟨r,hr,h⟩:=Qd.1 h;injection h with h; subst h;obtain ⟨a,b⟩:=XV hr;refine ⟨by simp [a],λi x hx=>?_⟩;cases i with
  | zero=>injection hx with hx; subst hx; exact ⟨w,hw,rfl⟩
  | succ i=>exact b i x (by simpa using hx)
theorem Ev {l:List Wt} {i:Nat} {w:Wt} (h:l[i]? = some w):Bu (l.take (i+1))=Bu (l.take i)++[wl w]:=by
 rw [Zv,h]; simp [Bu]
theorem WM {T:Nat} {c:Cr} {r0 r1:Uq} {at_:Tm} {l:List Ct} {ws:List Wt} (hc:CrOk c) (ha:Va at_) (hl:∀ x∈l,Cp x.p) (hn:l.length≤1000) (h:P0 c.l at_ (Fq l)=some ws):U5 prog 250 [.one (.ow 0 0),.agg (ta at_),.one (.bool true),.one (.row (U6 l))] [.blk T (Hr c r0 r1)] [] [.blk T (Hr ⟨at_,ws,c.ev⟩ r0 r1)]:=by
 have cs:=GI (l:=l) (λx hx=>Dp.pb (hl x hx).dp) (by omega);have cl:=Sx (b:=at_) (l:=[]) ha.tb (λt ht=>by cases ht) (by decide) rfl;obtain ⟨h1,h2⟩:=XV h;have hs:(Fq l).length=l.length:=Ml l;refine Fw func250 rfl ?_;refine Ub [.o 8 352 18,.k cs] rfl ?_;refine Ug (S:=Nat) 3 (λL1 i=>(15,.v (.oi i))::(8,.v (.one (.orow 2 18 none)))::L1) (λi=>[.blk T (Hr c r0 r1),.blk 105 (ta at_),.row false 352 18 (Bu (ws.take i))]) (λi=>ws.length-i) (λi=>i<=ws.length) 0 (Qh _) rfl rfl λi hi=>?_
 by_cases hlt:i<ws.length
 ·obtain ⟨x,hx⟩:=gxE (l:=(Fq l)) (i:=i) (by omega);obtain ⟨w,hw,hw'⟩:=h2 i x hx;have hm:∀ y∈[wl w],y.length=18:=λy hy=>by rw [Qk.1 hy]; rfl
  have hlt':decide ((i:Int)<((U6 (Fq l)).length:Int))=true:=by simp [U6]; omega
  have ck:=Qsd (T:=T) (r0:=r0) (r1:=r1) hc (hl x (Rw (Qa hx))) ha hw;have hg:=Ev hw';obtain ⟨wc,wk,wf⟩:=w;cases wf <;> (refine go tt [.t hlt',.x (ZM hx),.t rfl,.c [0] ck,.s (sz:=18) hm] rfl (by simp [Uz,Ti]; omega) ?_; exact rd (i+1) (by omega) hlt (by rw [hg]; rfl))
 ·obtain rfl:i=ws.length:=by omega
  rw [Q5];have hge:decide ((ws.length:Int)<((U6 (Fq l)).length:Int))=false:=by simp [U6]; omega
  exact Uf [] [0] [.f hge,.p 2,.k cl] rfl
abbrev pZ (r0 r1:LV):Up:=[.bool false,.nils,.bool false,.nils,.bool false,.nils,.bool false,.nils,.bool false,.nils,.nils,.int .i64 0,r0,r1]
theorem Qlw {T:Nat} {r0 r1:Uq} {at_:Tm} {l:List Ct} (ha:Va at_) (hl:∀ x∈l,Cp x.p) (hn:l.length≤1000):U5 prog 250 [.one (.ow 0 0),.agg (ta at_),.one (.bool false),.one (.row (U6 l))] [.blk T (pZ (.row r0) (.row r1))] [] [.blk T (Hr ⟨at_,(Fq l).map fresh,0⟩ r0 r1)]:=by
 have cs:=GI (l:=l) (λx hx=>Dp.pb (hl x hx).dp) (by omega);have cl:=Sx (b:=at_) (l:=[]) ha.tb (λt ht=>by cases ht) (by decide) rfl;have hs:(Fq l).length=l.length:=Ml l;refine Fw func250 rfl ?_;refine Ub [.o 8 352 18,.k cs] rfl ?_;refine Ug (S:=Nat) 3 (λL1 i=>(15,.v (.oi i))::(8,.v (.one (.orow 2 18 none)))::L1) (λi=>[.blk T (pZ (.row r0) (.row r1)),.blk 105 (ta at_),.row false 352 18 (Bu (((Fq l).map fresh).take i))]) (λi=>l.length-i) (λi=>i<=l.length) 0 (Qh _) rfl rfl λi hi=>?_
 by_cases hlt:i<l.length
 ·obtain ⟨x,hx⟩:=gxE (l:=(Fq l)) (i:=i) (by omega);have hm:∀ y∈[wl (fresh x)],y.length=18:=λy hy=>by rw [Qk.1 hy]; rfl
  have hlt':decide ((i:Int)<((U6 (Fq l)).length:Int))=true:=by simp [U6]; omega
  have hg:=Ev (l:=(Fq l).map fresh) (i:=i) (w:=fresh x) (by rw [Zb,hx]; rfl);refine go tt [.t hlt',.x (ZM hx),.z 20,.f rfl,.s (sz:=18) hm] rfl (by simp [Uz,Ti]; omega) ?_;exact rd (i+1) (by omega) hlt (by rw [hg]; rfl)
 ·obtain rfl:i=l.length:=by omega
  rw [Qn (by simp; omega)];have hge:decide ((l.length:Int)<((U6 (Fq l)).length:Int))=false:=by simp [U6]; omega
  exact Uf [] [0] [.f hge,.p 2,.k cl] rfl
theorem JP {T:Nat} {r0 r1:Uq} {at_:Tm} {l:List Ct} (ha:Va at_) (hl:∀ x∈l,Cp x.p) (hn:l.length≤1000):U5 prog 194 [.one (.ow 0 0),.agg (ta at_),.one (.row (U6 l))] [.blk T (pZ (.row r0) (.row r1))] [] [.blk T (Hr ⟨at_,(Fq l).map fresh,0⟩ r0 r1)]:=by
 have cl:=Qlw (T:=T) (r0:=r0) (r1:=r1) ha hl hn;refine Fw func194 rfl ?_;exact Uf [] [0] [.g 12 false rfl,.c [0] cl] rfl
theorem eB {a b:Bool} (h:a=b):TV.one (LV.bool a)=.one (.bool b):=h ▸ rfl
theorem JM {T:Nat} {c:Cr} {r0 r1:Uq} {at_:Tm} {l:List Ct} {ws:List Wt} {k:Int} (hc:CrOk c) (ha:Va at_) (hk:WI at_ c.now=some k) (h0:0≤k) (hl:∀ x∈l,Cp x.p) (hn:l.length≤1000) (h:P0 c.l at_ (Fq l)=some ws):U5 prog 194 [.one (.ow 0 0),.agg (ta at_),.one (.row (U6 l))] [.blk T (Hr c r0 r1)] [] [.blk T (Hr ⟨at_,ws,c.ev⟩ r0 r1)]:=by
 have cl:=WM (T:=T) (r0:=r0) (r1:=r1) hc ha hl hn h;have cc:=VC ha.tb hc.n.tb hk;refine Fw func194 rfl ?_;exact Uf [] [0] [.g 12 true rfl,.k cc,.r 20 (eB (show decide (0<=k)=true by simpa using h0)),.c [0] cl] rfl
theorem MK:∀ {k:Nat} {g:Uk} {l:Ul},Pb g->HE k g=some l->l.length≤k/\∀ p∈l,Pb p
 | 0,_,_,_,h=>by cases h
 |
  k+1,g,l,hg,h=>by
  simp only [HE] at h
  split at h
  ·injection h with h; subst h; exact ⟨by simp,λp hp=>by cases hp⟩
  ·obtain ⟨d,hd,h⟩:=Qd.1 h;obtain ⟨rfl,hdp⟩:=DN hd;obtain ⟨x,hx,h⟩:=Qd.1 h;obtain ⟨q,hq,h⟩:=Qd.1 h;obtain ⟨r,hr,h⟩:=Qd.1 h;injection h with h; subst h;obtain ⟨i1,i2⟩:=MK (RG hg hdp hx) hr;refine ⟨by simp; exact i1,λp hp=>?_⟩;rcases Qm.1 hp with rfl | hp
   ·exact mO hq
   ·exact i2 p hp
theorem Qeu {a:Uk} {l:Ul} (ha:Pb a) (h:HE 66 (Fg a)=some l):Uh 413 [pr a] [.one (.row (S6 l))]:=by
 have hp:=Rr ha;refine Fw func413 rfl ?_;refine Ub [.o 3 33 1,.k (Ay ha)] rfl ?_;refine Ug (S:=Nat×Ul×Uk) 1 (λL1 s=>(4,.v (pr s.2.2))::(3,.v (.one (.orow 0 1 none)))::L1) (λs=>[.row false 33 1 (S6 s.2.1)]) (λs=>s.1) (λs=>Pb s.2.2/\s.2.1.length+s.1<=66/\∃ m,HE s.1 s.2.2=some m/\s.2.1++m=l) (66,[],Fg a) ⟨hp,Ql _,l,h,rfl⟩ rfl rfl λ⟨k,out,g⟩ ⟨j1,j2,m,j3,j4⟩=>?_
 dsimp only at j1 j2 j3 j4 ⊢;cases k with
 | zero=>cases j3
 |
  succ k =>
  simp only [HE] at j3
  split at j3
  ·rename_i h0;injection j3 with j3; subst j3;rw [Zw] at j4;subst j4;exact Ud [.k (Mn _),.f (by simp; omega)] rfl
  ·rename_i h0;obtain ⟨d,hd,j3⟩:=Qd.1 j3;obtain ⟨rfl,hdp⟩:=DN hd;obtain ⟨x,hx,j3⟩:=Qd.1 j3;obtain ⟨q,hq,j3⟩:=Qd.1 j3;obtain ⟨r,hr,j3⟩:=Qd.1 j3;injection j3 with j3; subst j3;have hxp:=RG j1 hdp hx;refine go tt [.k (Mn _),.t (by simp; omega),.k (Iv j1.ln j1.bd),.k (dT j1 hdp hx),.k (Qe6 j1 hxp hq),.s (sz:=1) (l:=[[pl q]]) (λc hc=>by rw [Qk.1 hc]; rfl)] rfl (by simp [Uz,Er]; omega) ?_;exact rd (k,out++[q],x) (by dsimp only; omega) ⟨hxp,by simp; omega,r,hr,by rw [<-j4]; simp⟩ (by rw [DO]; rfl)
theorem BO:∀ {l r:Ul},EC l=some r->r.length=l.length/\∀ i w,l[i]? = some w->(match l[i+1]? with | some v=>∃ f,XE w v=some f/\r[i]? = some f | none=>r[i]? = some w)
 | [],r,h=>by injection h with h; subst h; exact ⟨rfl,λi w hw=>by simp at hw⟩
 |
  [w],r,h=>by
  injection h with h; subst h;refine ⟨rfl,λi x hx=>?_⟩;cases i with
  | zero=>simpa using hx
  | succ i=>simp at hx
 |
  w::v::l,r,h=>by
  simp only [EC] at h;obtain ⟨f,hf,h⟩:=Qd.1 h;obtain ⟨s,hs,h⟩:=Qd.1 h;injection h with h; subst h;obtain ⟨i1,i2⟩:=BO hs;refine ⟨by simp [i1],λi x hx=>?_⟩;cases i with
  |
   zero =>
   injection hx with hx; subst hx;exact ⟨f,hf,rfl⟩
  |
   succ i =>
   have:=i2 i x (by simpa using hx);simpa using this
theorem xT:∀ {l r:Ul},(∀ p∈l,Pb p)->EC l=some r->∀ p∈r,Pb p
 | [],r,_,h=>by injection h with h; subst h; exact λp hp=>by cases hp
 | [w],r,hl,h=>by injection h with h; subst h; exact hl
 |
  w::v::l,r,hl,h=>by
  simp only [EC] at h;obtain ⟨f,hf,h⟩:=Qd.1 h;obtain ⟨s,hs,h⟩:=Qd.1 h;injection h with h; subst h;intro p hp;rcases Qm.1 hp with rfl | hp
  ·exact mO hf
  ·exact xT (λp hp=>hl p (Qg _ hp)) hs p hp
theorem oI {a:Uk} {l r:Ul} (ha:Pb a) (h:HE 66 (Fg a)=some l) (hr:EC l=some r):Uh 408 [pr a] [.one (.row (S6 r))]:=by
 obtain ⟨i1,i2⟩:=MK (Rr ha) h;obtain ⟨j1,j2⟩:=BO hr;have hw:=Er l;refine Fw func408 rfl ?_;refine go tt [.k (Qeu ha h),.i (S6 l).length,.i (S6 l).length] rfl (by simp [Uz,hw]; omega) ?_;rw [hw,E7 λi=>[pl (r.getD i [])]];refine Ug (S:=Nat) 1 (λL1 k=>(14,.v (.oi k))::L1) (λk=>[.row false 33 1 (EG (λi=>[pl (r.getD i [])]) [.nils] l.length k)]) (λk=>l.length-k) (λk=>k<=l.length) 0 (Qh _) rfl rfl λk hk=>?_
 by_cases hlt:k<l.length
 ·obtain ⟨w,hx⟩:=gxE (l:=l) (i:=k) hlt;have e:=QK (λi=>[pl (r.getD i [])]) [.nils] hlt;have hg:=j2 k w hx;by_cases h2:k+1<l.length
  ·obtain ⟨v,hv⟩:=gxE (l:=l) (i:=k+1) h2;rw [hv] at hg;obtain ⟨f,f1,f2⟩:=hg;have e2:r.getD k []=f:=by rw [Qi,f2]; rfl
   rw [e2] at e;refine go tt [.t (by simp [hw]; omega),.x (Rk hx),.i k,.t (by simp [hw]; omega),.x (i:=k+1) (Rk hv),.k (Qe6 (i2 w (Qa hx)) (i2 v (Qa hv)) f1),.i k] rfl (by simp [Uz,A7,hw]; omega) ?_;rw [List.set_set,e];exact rd (k+1) (by omega) hlt rfl
  ·have hv:l[k+1]? = none:=Qw (by omega);rw [hv] at hg;have e2:r.getD k []=w:=by rw [Qi,hg]; rfl
   rw [e2] at e;refine go tt [.t (by simp [hw]; omega),.x (Rk hx),.i k,.f (by simp [hw]; omega)] rfl (by simp [Uz,A7,hw]; omega) ?_;rw [e];exact rd (k+1) (by omega) hlt rfl
 ·obtain rfl:k=l.length:=by omega
  have e:EG (λi=>[pl (r.getD i [])]) [.nils] l.length l.length=S6 r:=by
   rw [QV,<-j1];refine Xj λi=>?_
   simp only [S6,Zb];by_cases hi:i<r.length
   ·rw [Xz hi]; simp [Qi,Qe hi]
   ·rw [Qw (by simpa using hi),Qw (by simpa using hi)]; rfl
  rw [e];exact Ud [.f (by simp [hw])] rfl
theorem nV {p:Uk} (tp:U9 p):Fg (Fg p)=Fg p:=by
 by_cases h:p.length=0
 ·have e:Fg p=[]:=by unfold Fg; rw [if_pos h]
  rw [e]; rfl
 ·obtain ⟨h1,h2,h3,h4,_⟩:=Ch tp h;have hc:S8 (Fg p)=1:=by
   have h5:S8 (Fg p)∣1:=h3 _ λk=>by
    by_cases hk:k<(Fg p).length
    ·rw [Qi,Qe hk]; exact Ep _ (Xq hk)
    ·rw [Qi,Qw (by omega)]; exact Int.dvd_zero _
   have h6:0<=S8 (Fg p):=by unfold S8; omega
   exact Int.eq_one_of_dvd_one h6 h5
  have hf:∀ q:Uk,0<Fl q->Hk q=S8 q:=λq hq=>by unfold Hk; rw [if_neg (by omega)]
  have hf:=(hf _ h4).trans hc;have e0:∀ q:Uk,q.length≠0->Fg q=Cy q (Hk q):=λq hq=>by unfold Fg; rw [if_neg hq]
  have e:=e0 (Fg p) (by omega);rw [hf] at e;rw [e];unfold Cy;have e2:(Fg p).map (· / (1:Int))=Fg p:=by
   conv=>rhs; rw [<-List.map_id (Fg p)]
   exact Xo λz _=>by simp
  rw [e2];exact h1
theorem iP (i:Nat):(i:Int).tmod 2=((i % 2:Nat):Int):=rfl
theorem Qsj {a:Uk} (ha:Pb a) (h:(Fg a).length=0):Uh 404 [pr a] [pr []] :=
 Ue func404 rfl [.k (Ay ha),.t (by simp [Qj h])] rfl
theorem YF:∀ {l:Ul} {i:Nat} {p o:Uk},Pb p->(∀ f∈l,Pb f)->FQ i p l=some o->Pb o
 | [],i,p,o,hp,_,h=>by simp only [FQ] at h; injection h with h; subst h; exact hp
 |
  f::l,i,p,o,hp,hl,h=>by
  simp only [FQ] at h
  split at h
  ·obtain ⟨q,hq,h⟩:=Qd.1 h;obtain ⟨rfl,hq'⟩:=QZ (Hw _ _) hq;exact YF hq' (λf hf=>hl f (Qg _ hf)) h
  ·exact YF hp (λf hf=>hl f (Qg _ hf)) h
theorem Qia:Pb [1]:=⟨rfl,by decide,λz hz=>by rw [Qk.1 hz]; decide⟩
theorem Qwn {a o:Uk} (ha:Pb a) (h:nX a=some o):Uh 404 [pr a] [pr o]:=by
 unfold nX at h
 split at h
 ·rename_i h0;injection h with h; subst h;exact Qsj ha h0
 rename_i h0;obtain ⟨l,hl,h⟩:=Qd.1 h;obtain ⟨fs,hf,h⟩:=Qd.1 h;have hpa:=Rr ha;have hl':HE 66 (Fg (Fg a))=some l:=by rw [nV ha.t]; exact hl
 obtain ⟨i1,i2⟩:=MK (Rr ha) hl;have i3:=xT i2 hf;obtain ⟨j1,_⟩:=BO hf;have hw:=Er fs;have co:=cA (p:=[1]) (by decide) (λz hz=>by rw [Qk.1 hz]; decide);rw [show trim [1]=[1] from rfl] at co;refine Fw func404 rfl ?_;refine Ub [.k (Ay ha),.f (by simpa using h0),.k co,.k (oI hpa hl' hf)] rfl ?_ (by simp [Uz]);refine Ug (S:=Nat×Uk) 0 (λL1 s=>(16,.v (.oi (s.1:Int)))::(3,.v (pr s.2))::L1) (λ_=>[]) (λs=>fs.length-s.1) (λs=>s.1<=fs.length/\Pb s.2/\FQ s.1 s.2 (fs.drop s.1)=some o) (0,[1]) ⟨Qh _,Qia,h⟩ rfl rfl λ⟨i,p⟩ ⟨k1,k2,k3⟩=>?_
 dsimp only at k1 k2 k3 ⊢;by_cases hlt:i<fs.length
 ·obtain ⟨f,hx⟩:=gxE (l:=fs) (i:=i) hlt;have hdr:fs.drop i=f::fs.drop (i+1):=by
   rw [Zr hlt]; congr 1;have:=Qe hlt; rw [hx] at this; injection this with this; exact this.symm
  rw [hdr] at k3;simp only [FQ] at k3;have pf:=i3 f (Qa hx);by_cases h2:i % 2=0
  ·rw [if_pos h2] at k3;obtain ⟨q,hq,k3⟩:=Qd.1 k3;obtain ⟨rfl,hq'⟩:=QZ (Hw _ _) hq;refine Uc [.t (by simp [hw]; omega),.x (Rk hx),.t (by rw [iP,h2]; rfl),.k (GE k2.t pf.t (Z4 k2.l (by decide)) (Z4 pf.l (by decide)) k2.b pf.b (by decide))] rfl ?_;exact rd (i+1,Gk p f) (by dsimp only; omega) ⟨hlt,hq',k3⟩ rfl
  ·rw [if_neg h2] at k3;refine Uc [.t (by simp [hw]; omega),.x (Rk hx),.f (by rw [iP,show i % 2=1 by omega]; rfl)] rfl ?_;exact rd (i+1,p) (by dsimp only; omega) ⟨hlt,k2,k3⟩ rfl
 ·obtain rfl:i=fs.length:=by omega
  rw [Y9] at k3;simp only [FQ] at k3;injection k3 with k3; subst k3;exact Ud [.f (by simp [hw])] rfl
theorem QU (z:Int):Fe (z.natAbs:Int)=Fe z:=by unfold Fe; simp
theorem Qem {x y:LV} {z:Int} (hi:Gs x y z) (hs:Fe z<=4294967295):Uh 409 [.agg [x,y]] [.agg (Hh (z.natAbs:Int))]:=by
 obtain ⟨b,l,rfl,rfl,hl,rfl⟩:=hi;have e:(Fb false (val l))=((Fb b (val l)).natAbs:Int):=by rw [Ro]; rfl
 rw [<-e];exact Ue func409 rfl [.k (VD hl (Qc (Pm hs) (by decide))),.k (Po _ _)] rfl
theorem Qmu {n d:Int} (h0:d≠0) (hn:Fe n<=4294967295) (hd:Fe d<=4294967295):Uh 410 [.agg (Hh n),.agg (Hh d)] [.agg (rl (Rat.divInt n d)),.oi 0] :=
 Ue func410 rfl [.k (Bz (U3 d) hd),.k Lj,.f (by simpa using h0),.k (Bz (U3 n) hn),.k (ZR h0 hn hd)] rfl
theorem Qbo (l:Uk) (z:Int):most (l++[z])=if most l<z.natAbs then z.natAbs else most l:=by unfold most; rw [List.foldl_append]; rfl
theorem aQ {s:Nat}:∀ {l:Uk},Bd s l->Fe (most l:Int)<=s:=λ{l}=>by
 suffices h:∀ (l:Uk) (m:Nat),Bd s l->Fe (m:Int)<=s->Fe ((l.foldl (λm z=>if m<z.natAbs then z.natAbs else m) m:Nat):Int)<=s from λhb=>h l 0 hb (by simp [Fe,sz])
 intro l
 induction l with
 | nil=>exact λm _ h=>h
 |
  cons z l ih =>
  intro m hb hm;refine ih _ (λy hy=>hb y (Qg _ hy)) ?_;show Fe ((if m<z.natAbs then z.natAbs else m:Nat):Int)<=s
  split
  ·rw [QU]; exact hb z (Qx ..)
  ·exact hm
def ozi:Option Nat->Up
 | none=>[.bool false,.nils]
 | some m=>Hh (m:Int)
def ozr:Option Nat->Up
 | none=>[.bool false,.row []]
 | some m=>Hh (m:Int)
theorem Qlm {p:Uk} (hp:Pb p) (h0:p.length≠0):Uh 405 [pr p] [.agg (rl (Gw p)),.oi 0]:=by
 have hl:=hp.l;have hll:(p.take (p.length-1)).length=p.length-1:=by simp
 have hbt:Bd 16777216 (p.take (p.length-1)):=λz hz=>hp.b z (Qo hz)
 refine Fw func405 rfl ?_;refine Uc [.k (Ht hp.t hp.ln hp.bd),.f (by simpa using h0),.r 18 (eI (b:=((p.length-1:Nat):Int)) (by simp; omega)),.i (p.length-1)] rfl ?_;rw [<-Jv];refine Ug (S:=Nat×Option Nat) 2 (λL1 s=>(21,.v (.oi (s.1:Int)))::L1) (λs=>[.blk 42 [.bool false,.nils,.bool false,.nils],.blk 36 (ozi s.2)]) (λs=>p.length-1-s.1) (λs=>s.1<=p.length-1/\most ((p.take (p.length-1)).take s.1)=s.2.getD 0) (0,none) ⟨Qh _,rfl⟩ rfl rfl λ⟨i,o⟩ ⟨j1,j2⟩=>?_
 dsimp only at j1 j2 ⊢;by_cases hlt:i<p.length-1
 ·obtain ⟨z,hz⟩:=gxE (l:=(p.take (p.length-1))) (i:=i) (by omega);have bz:Fe z<=16777216:=hbt z (Qa hz);have hst:most ((p.take (p.length-1)).take (i+1))=if o.getD 0<z.natAbs then z.natAbs else o.getD 0:=by
   rw [Zv,hz]; show most (_++[z])=_; rw [Qbo,j2]
  have ca:=Qem (U3 z) (Qc bz (by decide));have hl1:decide ((i:Int)<(((p.take (p.length-1)).map Hh).length:Int))=true:=by simp; omega
  have bm:Fe ((o.getD 0:Nat):Int)<=16777216:=by rw [<-j2]; exact aQ λy hy=>hbt y (Qo hy)
  have hcm:B7 (z.natAbs:Int) ((o.getD 0:Nat):Int)>0↔o.getD 0<z.natAbs:=by unfold B7; split <;> (try split) <;> omega
  have cc:Uh 142 [.agg (Hh (z.natAbs:Int)),.agg (ozr o)] [.oi (B7 (z.natAbs:Int) ((o.getD 0:Nat):Int))]:=by
   cases o with
   | none=>exact GO (U3 _) QW (by rw [QU]; omega) (by decide)
   | some m=>exact GO (U3 _) (U3 _) (by rw [QU]; omega) (Qc bm (by decide))
  by_cases hc:o.getD 0<z.natAbs
  ·rw [if_pos hc] at hst;have hd:decide (B7 (z.natAbs:Int) ((o.getD 0:Nat):Int)>0)=true:=by simpa using hcm.2 hc
   cases o <;> (refine Uc [.t hl1,.x (Gt (f:=Hh) hz),.k ca,.k cc,.t hd] rfl ?_; exact rd (i+1,some z.natAbs) (by dsimp only; omega) ⟨hlt,hst⟩ rfl)
  ·rw [if_neg hc] at hst;have hd:decide (B7 (z.natAbs:Int) ((o.getD 0:Nat):Int)>0)=false:=by
    have:=mt hcm.1 hc; simpa using this
   cases o with
   | none=>refine Uc [.t hl1,.x (Gt (f:=Hh) hz),.k ca,.k cc,.f hd] rfl ?_; exact rd (i+1,none) (by dsimp only; omega) ⟨hlt,hst⟩ rfl
   | some m=>refine Uc [.t hl1,.x (Gt (f:=Hh) hz),.k ca,.k cc,.f hd] rfl ?_; exact rd (i+1,some m) (by dsimp only; omega) ⟨hlt,hst⟩ rfl
 ·obtain rfl:i=p.length-1:=by omega
  rw [Qn (by omega)] at j2;have bl:Fe (Fl p)<=16777216:=hp.b _ (CO h0);have ln:((Fl p).natAbs:Int)≠0:=by have:=Eb hp.t h0; omega
  have cl:=Df hp.t hp.ln hp.bd;have ca:=Qem (U3 (Fl p)) (Qc bl (by decide));have bm:Fe ((o.getD 0:Nat):Int)<=16777216:=by rw [<-j2]; exact aQ hbt
  have cd:Uh 300 [.agg (Hh ((Fl p).natAbs:Int)),.agg (ozr o)] [.agg (Hh (((Fl p).natAbs:Int)+(most (p.take (p.length-1)):Int)))]:=by
   rw [j2];cases o with
   | none=>exact VE (U3 _) QW (by rw [QU]; omega) (by decide)
   | some m=>exact VE (U3 _) (U3 _) (by rw [QU]; omega) (Qc bm (by decide))
  have cm:=Qmu (n:=((Fl p).natAbs:Int)+(most (p.take (p.length-1)):Int)) ln (Qc (YJ _ _) (by rw [QU,j2]; omega)) (by rw [QU]; omega);have hf:decide (((p.length-1:Nat):Int)<(((p.take (p.length-1)).map Hh).length:Int))=false:=by simp
  cases o <;> exact Ud [.f hf,.k cl,.k ca,.k cd,.k cm] rfl
theorem Qqk {z:Int}:Uh 387 [.agg (Hh z)] [.oi (Int.sign z)]:=by
 by_cases h0:z=0
 ·subst h0;exact Ue func387 rfl [.t (by simp [U4,G9])] rfl
 ·have hl:(Fy z.natAbs).length≠0:=λh=>h0 (Qbl.1 h)
  have hl':decide (((lm (Fy z.natAbs)).length:Int)=0)=false:=by simpa [U4] using hl
  by_cases h1:z<0
  ·rw [X4 h1];exact Ue func387 rfl [.f hl',.t (by simpa using h1)] rfl
  ·rw [Jm (by omega)];exact Ue func387 rfl [.f hl',.f (by simpa using h1)] rfl
theorem Qdp {p:Uk} (hp:Pb p):Uh 415 [pr p] [.oi (ZY p),.oi (UW p)]:=by
 have hb:-1<=(Fl p).sign/\(Fl p).sign<=1:=by rcases Ao (Fl p) with h | h | h <;> omega
 by_cases h:p.length % 2=0
 ·have e:ZY p=-(Fl p).sign:=by unfold ZY; rw [if_pos h]
  rw [e];exact Ue func415 rfl [.k (Ht hp.t hp.ln hp.bd),.k (Df hp.t hp.ln hp.bd),.k Qqk,.t (by rw [iP]; simp [h])] rfl rfl (by simp [Uz,Fl] at hb ⊢; omega)
 ·have e:ZY p=(Fl p).sign:=by unfold ZY; rw [if_neg h]
  rw [e];exact Ue func415 rfl [.k (Ht hp.t hp.ln hp.bd),.k (Df hp.t hp.ln hp.bd),.k Qqk,.f (by rw [iP]; simp; omega)] rfl rfl (by simp [Uz])
theorem Qew {p:Uk} (hp:Pb p):Uh 414 [pr p] [.oi (ZY p)]:=Ue func414 rfl [.k (Qdp hp)] rfl
theorem Qms {p:Uk} (hp:Pb p):Uh 416 [pr p] [.oi (UW p)]:=Ue func416 rfl [.k (Qdp hp)] rfl
theorem Qs2 {q:Rat} (hq:Qs 4294967295 q):Uh 206 [.agg (rl q)] [.agg (rl (-q))]:=by
 exact Ue func206 rfl [.k (BJ hq),.k (NN (U3 _) hq.1)] rfl
theorem kF {l:Ul} {fid:Nat} {sg:Uk->Int} (hl:l.length≤1000) (hs:∀ p,-1≤sg p/\sg p≤1) (h:∀ p∈l,ER prog fid [pr p] [.oi (sg p)]):Uh 340 [.one (.sh [.row (S6 l)]),.one (.fn fid [] [])] [.oi (Co sg l:Nat)]:=by
 have hpl:=Er l;refine Fw func340 rfl ?_;refine Ub [] rfl ?_;refine Ug (S:=Nat) 0 (λL1 i=>(15,.v (.oi i))::(5,.v (.oi ((VY sg l i).1:Int)))::(6,.v (.one (.int .i64 (VY sg l i).2)))::L1) (λ_=>[]) (λi=>l.length-i) (λi=>i<=l.length) 0 (Qh _) rfl rfl λi hi=>?_
 by_cases hlt:i<l.length
 ·obtain ⟨p,hp⟩:=gxE (l:=l) (i:=i) hlt;have hst:VY sg l (i+1)=Pj sg (VY sg l i) p:=Tv _ _ _ hp;obtain ⟨b1,b2,b3⟩:=yL hs l i;have b4:=hs p;by_cases h0:sg p=0
  ·refine Uc [.t (by simp [hpl]; omega),.x (Rk hp),.k (h p (Qa hp)),.t (by simpa using h0)] rfl ?_;exact rd (i+1) (by omega) hlt (by rw [hst,show Pj sg (VY sg l i) p=VY sg l i from by unfold Pj; rw [if_pos h0]]; rfl)
  ·by_cases h1:(VY sg l i).2=-(sg p)
   ·refine Uc [.t (by simp [hpl]; omega),.x (Rk hp),.k (h p (Qa hp)),.f (by simpa using h0),.t (by simpa using h1)] rfl ?_;exact rd (i+1) (by omega) hlt (by rw [hst,show Pj sg (VY sg l i) p=((VY sg l i).1+1,sg p) from by unfold Pj; rw [if_neg h0,if_pos h1]]; rfl)
   ·refine Uc [.t (by simp [hpl]; omega),.x (Rk hp),.k (h p (Qa hp)),.f (by simpa using h0),.f (by simpa using h1)] rfl ?_;exact rd (i+1) (by omega) hlt (by rw [hst,show Pj sg (VY sg l i) p=((VY sg l i).1,sg p) from by unfold Pj; rw [if_neg h0,if_neg h1]]; rfl)
 ·obtain rfl:i=l.length:=by omega
  refine Ud [.f (by simp [hpl])] rfl ?_ trivial;unfold VY Co; rw [List.take_length]
theorem HU (p:Uk):(-1<=ZY p/\ZY p<=1)/\-1<=UW p/\UW p<=1:=by
 have hb:-1<=(Fl p).sign/\(Fl p).sign<=1:=by rcases Ao (Fl p) with h | h | h <;> omega
 unfold ZY UW
 split <;> omega
theorem Qlp {l:Ul} (hl:l.length≤1000) (hp:∀ p∈l,Pb p):Uh 407 [.one (.sh [.row (S6 l)])] [.oi (KO l)]:=by
 have c1:Uh 411 [.one (.sh [.row (S6 l)])] [.oi (Co ZY l:Nat)] :=
  Ue func411 rfl [.k (kF hl (λp=>(HU p).1) λp h=>Qew (hp p h))] rfl
 have c2:Uh 412 [.one (.sh [.row (S6 l)])] [.oi (Co UW l:Nat)] :=
  Ue func412 rfl [.k (kF hl (λp=>(HU p).2) λp h=>Qms (hp p h))] rfl
 have b1:Co ZY l<=l.length:=Li (λp=>(HU p).1) l;have b2:Co UW l<=l.length:=Li (λp=>(HU p).2) l;exact Ue func407 rfl [.k c1,.k c2] rfl rfl (by simp [Uz]; omega)
theorem sJ {l:Ul} {lo hi:Rat} (hl:l.length<=1000):-1000<=Tj l lo hi/\Tj l lo hi<=1000:=by
 have b1:Cq l lo<=l.length:=Li (λp=>Om p lo) l;have b2:Cq l hi<=l.length:=Li (λp=>Om p hi) l;unfold Tj; split <;> omega
abbrev tal (l:List Tm):Uq:=l.map λt=>ta t
theorem MP {p:Uk} {c:Ul} (hp:Pb p):∀ {k:Nat} {lo hi:Rat} {n:Int} {r:List Tm},Qb lo->Qb hi->Ib p c k lo hi n=some r->∀ t∈r,Tb t
 | 0,_,_,_,_,_,_,h=>by cases h
 |
  k+1,lo,hi,n,r,hl,hh,h=>by
  simp only [Ib] at h
  split at h
  ·injection h with h; subst h; exact λt ht=>by cases ht
  ·split at h
   ·injection h with h; subst h;intro t ht; rw [Qk.1 ht]; exact ⟨hp,hl,hh⟩
   ·obtain ⟨m,hm,h⟩:=Qd.1 h;obtain ⟨rfl,qm⟩:=BW hm;obtain ⟨x,hx,h⟩:=Qd.1 h;obtain ⟨y,hy,h⟩:=Qd.1 h;injection h with h; subst h;intro t ht;rcases Qq.1 ht with ht | ht
    ·exact MP hp hl qm hx t ht
    ·exact MP hp qm hh hy t ht
theorem Qvi (l:List Tm):∀ c∈tal l,c.length=9:=λc hc=>by obtain ⟨t,_,rfl⟩:=Q8.1 hc; rfl
theorem sL {p:Uk} {c:Ul} (hp:Pb p) (hcl:c.length≤1000) (hc:∀ q∈c,Pb q):∀ {k:Nat} {lo hi:Rat} {n:Int} {r:List Tm},Qb lo->Qb hi->k≤100000->-(1000*(100001-k:Nat))≤n/\n≤1000*(100001-k:Nat)->Ib p c k lo hi n=some r->r.length≤1000000->U5 prog 406 [pr p,.one (.sh [.row (S6 c)]),.agg (rl lo),.agg (rl hi),.oi n] [] [.one (.orow 0 9 none)] [.row false 105 9 (tal r)]
 | 0,_,_,_,_,_,_,_,_,h,_=>by cases h
 |
  k+1,lo,hi,n,r,hl,hh,hk,hn,h,hr=>by
  simp only [Ib] at h
  split at h
  ·rename_i h0;injection h with h; subst h;refine Fw func406 rfl ?_;exact Uf [] [2] [.t (by simpa using h0),.o 10 105 9] rfl
  ·rename_i h0
   split at h
   ·rename_i h1;injection h with h; subst h;refine Fw func406 rfl ?_;exact Uf [] [2] [.f (by simpa using h0),.t (by simpa using h1),.k (Ht hp.t hp.ln hp.bd),.k (Nl hl.s32),.k (Nl hh.s32),.lo] rfl
   ·rename_i h1;obtain ⟨m,hm,h⟩:=Qd.1 h;obtain ⟨rfl,qm⟩:=BW hm;obtain ⟨x,hx,h⟩:=Qd.1 h;obtain ⟨y,hy,h⟩:=Qd.1 h;injection h with h; subst h;have hb:=sJ (l:=c) (lo:=lo) (hi:=mid lo hi) hcl;rw [Qy] at hr;have c1:=sL hp hcl hc hl qm (by omega) (by omega) hx (by omega);have c2:=sL hp hcl hc qm hh (by omega) (by omega) hy (by omega);rw [show tal (x++y)=tal x++tal y from Yd];refine Fw func406 rfl ?_;exact Uf [] [3] [.f (by simpa using h0),.f (by simpa using h1),.k (Qqi hl hh),.k (AU hcl hc hl qm),.c [3] c1,.c [4] c2,.s (Qvi y)] rfl (by simp [Uz]; omega)
theorem Ql5 {p:Uk} {r:List Tm} (hp:Pb p) (h:SS p=some r) (hr:r.length<=1000000):Uh 403 [pr p] [.one (tas r),.oi 0]:=by
 unfold SS at h;obtain ⟨c,h1,h⟩:=Qd.1 h;obtain ⟨q,h2,h⟩:=Qd.1 h;obtain ⟨b,h3,h⟩:=Qd.1 h;obtain ⟨rfl,hb⟩:=BW h3;obtain ⟨k1,k2⟩:=chain_ok hp h1;have hq:=RF hp h2;have q0:q.length≠0:=by
  unfold Lt at h1;obtain ⟨a,a1,h1⟩:=Qd.1 h1;rw [h2] at a1; injection a1 with a1; subst a1
  split at h1
  ·cases h1
  ·assumption
 have qn:Qb (-Gw q):=⟨by rw [Rat.neg_num,Hx]; exact hb.1,by rw [Rat.neg_den]; exact hb.2⟩;have bb1:Co ZY c<=c.length:=Li (λp=>(HU p).1) c;have bb2:Co UW c<=c.length:=Li (λp=>(HU p).2) c;have hn:-(1000*(100001-100000:Nat):Int)<=KO c/\KO c<=1000*(100001-100000:Nat):=by unfold KO; omega
 have cr:=sL hq (by omega) k2 qn hb (Ql _) hn h hr;refine Fw func403 rfl ?_;exact Uf [1] [] [.k (Qec hp h1),.f rfl,.k (NC hp h2),.k (Qlm hq q0),.k (Qs2 hb.s32),.k (Qlp (by omega) k2),.c [1] cr] rfl
def Uy (l:List Pt):Uq:=l.map Fa
theorem Sp {l:List Pt} {i:Nat} {c:Pt} (h:l[i]? = some c):(Uy l)[i]? = some (Fa c):=Gt h
theorem G0 (l:List Pt):(Uy l).length=l.length:=by simp [Uy]
theorem YR (l:List Pt):∀ c∈Uy l,c.length=5:=λc hc=>by
 obtain ⟨x,_,rfl⟩:=Q8.1 hc; rfl
abbrev zPt:Up:=[.nils,.nils,.bool false,.nils,.int .i64 0]
theorem lC {lt:Pt->Pt->Bool} {O:List Pt} {z:Up} {c:Pt} {k m:Nat} {l2:Uq} (hk:k<=O.length) (hp:Lp lt O c O.length=k) (hm:m=O.length-k) (h2:l2.take m=((Uy O++[z]).drop k).take m) :
 ((Uy O++[z]).take (k+1)++(l2.take m++(Uy O++[z]).drop (k+1+m))).set k (Fa c)=Uy (Ll lt O c):=by
 rw [h2,<-Za,uG (Uy O) z (Fa c) (by rw [G0]; omega) (by rw [G0]; omega)];simp [Ll,hp,Uy,Jv,Vh]
def Ts (t:Tm) (l:List Pt):List Pt:=Ly (Tn (Fp t)) l
theorem kX {l:List Pt} {t:Tm} (hl:∀ p∈l,Sc p.c) (hn:l.length≤1000000) (ht:Va t):Uh 251 [.agg (ta t),.one (pts l)] [.one (pts (Ts t l))]:=by
 have hcl:=G0 l;show Uh 251 [.agg (ta t),.one (.row (Uy l))] [.one (.row (Uy (Ts t l)))];obtain ⟨lt,hlt0⟩:=nmE (Tn (Fp t));unfold Ts;rw [<-hlt0];refine Fw func251 rfl ?_;refine Ub [.o 5 40 5] rfl ?_;refine Ug (S:=Nat) 2 (λL1 i=>(11,.v (.oi i))::(5,.v (.one (.orow 1 5 none)))::L1) (λi=>[.blk 105 (ta t),.row false 40 5 (Uy (Ly lt (l.take i)))]) (λi=>l.length-i) (λi=>i<=l.length) 0 (Qh _) rfl rfl λi hi=>?_
 by_cases hlt:i<l.length
 ·obtain ⟨c,hc⟩:=gxE (l:=l) (i:=i) hlt;have hst:Ly lt (l.take (i+1))=Ll lt (Ly lt (l.take i)) c:=bM hc;have hcp:=hl c (Qa hc);obtain ⟨O,hO⟩:=nmE (Ly lt (l.take i));have hOl:O.length=i:=by rw [hO,qL,Qt]; omega
  have hOm:∀ x∈O,Sc x.c:=λx hx=>by rw [hO,Qca] at hx; exact hl x (Qo hx)
  rw [<-hO] at hst ⊢;refine Ub [.t (by simp [hcl]; omega),.x (Sp hc)] rfl ?_;refine Ug (S:=Nat) 3 (λL1 k=>(8,.v (.oi k))::L1) (λk=>[.blk 105 (ta t),.row false 40 5 (Uy O),.blk 40 (Fa c)]) id (λk=>k<=O.length/\Lp lt O c k=Lp lt O c O.length) (Uy O).length ⟨by rw [G0]; exact Ql _,by rw [G0]⟩ rfl rfl λk ⟨hk,hp⟩=>?_
  have hz:∀ y∈[zPt],y.length=5:=λy hy=>by rw [Qk.1 hy]; rfl
  have h77:∀ y∈Uy O++[zPt],y.length=5:=λy hy=>by
   rcases Qq.1 hy with hy | hy
   ·exact YR O y hy
   ·exact hz y hy
  cases k with
  |
   zero =>
   have hp:Lp lt O c O.length=0:=by rw [<-hp]; rfl
   refine go tt [.g 19 false (by simp),.f rfl,.s (sz:=5) hz,.r 37 (eI (b:=((0+1:Nat):Int)) (by simp)),.i (0+1),.i (0),.s (sz:=5) (λy hy=>h77 y (Qo hy)),.i (O.length),.i (0)] rfl (by simp [Uz,G0]; omega) ?_;exact rd (i+1) (by omega) hlt (by rw [hst,<-lC (z:=zPt) (l2:=(Uy O++[zPt]).take ((Uy O++[zPt]).length-0)) (k:=0) (m:=O.length) (by omega) hp (by omega) (by congr 1; exact Qn (by simp))]; rfl)
  |
   succ k =>
   obtain ⟨x,hx⟩:=gxE (l:=O) (i:=k) (by omega);have cb:=Qdj hcp (hOm x (Qa hx)) ht;rw [<-hlt0] at cb;by_cases hlc:lt c x=true
   ·refine go tt [.g 19 true (by simp),.r 23 (eI (b:=(k:Int)) (by simp)),.i k,.x (Sp hx),.k cb,.t hlc,.r 30 (eI (b:=(k:Int)) (by simp))] rfl (by simp [Uz,G0]; omega) ?_;exact rd k (by simp) ⟨by omega,by rw [<-hp,aN hx hlc]⟩ rfl
   ·have hlc:lt c x=false:=by simpa using hlc
    have hp:Lp lt O c O.length=k+1:=by rw [<-hp,gZ hx hlc]
    refine go tt [.g 19 true (by simp),.r 23 (eI (b:=(k:Int)) (by simp)),.i k,.x (Sp hx),.k cb,.f hlc,.s (sz:=5) hz,.r 37 (eI (b:=((k+1+1:Nat):Int)) (by simp)),.i (k+1+1),.i (k+1),.s (sz:=5) (λy hy=>h77 y (Q3 (Qo hy))),.i (O.length-(k+1)),.i (k+1)] rfl (by simp [Uz,G0]; omega) ?_;exact rd (i+1) (by omega) hlt (by rw [hst,<-lC (z:=zPt) (l2:=((Uy O++[zPt]).drop (k+1)).take ((Uy O++[zPt]).length-(k+1))) (k:=k+1) (m:=O.length-(k+1)) (by omega) hp (by omega) (by congr 1; exact Qn (by simp))]; rfl)
 ·obtain rfl:i=l.length:=by omega
  rw [Q5];exact Ud [.f (by simp [hcl])] rfl
def Ss (sg:Uk->Int):List Pt->List Ct
 | a::b::l=>QT sg a b::Ss sg (b::l)
 | _=>[]
theorem Bn (sg:Uk->Int):∀ l:List Pt,(Ss sg l).length=l.length-1
 | []=>rfl
 | [_]=>rfl
 | a::b::l=>by simp only [Ss,Q7,Bn sg (b::l)]; omega
theorem RL (sg:Uk->Int):∀ {l:List Pt} {i:Nat} {a b:Pt},l[i]? = some a->l[i+1]? = some b->(Ss sg l).take (i+1)=(Ss sg l).take i++[QT sg a b]
 | [],i,a,b,h,_=>by simp at h
 | [x],i,a,b,_,h=>by cases i <;> simp at h
 | x::y::l,0,a,b,h1,h2=>by simp at h1 h2; subst h1; subst h2; simp [Ss]
 |
  x::y::l,i+1,a,b,h1,h2=>by
  have ih:=RL sg (l:=y::l) (i:=i) (a:=a) (b:=b) (by simpa using h1) (by simpa using h2);simp only [Ss,Ve] at ih ⊢;rw [ih]; rfl
theorem NB {l:List Pt} {t:Tm} (hl:∀ p∈l,Sc p.c) (hn:l.length≤1000000) (ht:Va t):Uh 253 [.agg (ta t),.one (pts l)] [.one (.row (U6 (Ss (Fp t) l)))]:=by
 have hcl:=G0 l;show Uh 253 [.agg (ta t),.one (.row (Uy l))] [.one (.row (U6 (Ss (Fp t) l)))];refine Fw func253 rfl ?_;refine Ub [.o 5 99 7] rfl ?_;refine Ug (S:=Nat) 2 (λL1 i=>(6,.v (.oi ((i+1:Nat):Int)))::(5,.v (.one (.orow 1 7 none)))::L1) (λi=>[.blk 105 (ta t),.row false 99 7 (U6 ((Ss (Fp t) l).take i))]) (λi=>l.length-i) (λi=>i<=l.length-1) 0 (Qh _) rfl rfl λi hi=>?_
 by_cases hlt:i+1<l.length
 ·obtain ⟨a,ha⟩:=gxE (l:=l) (i:=i) (by omega);obtain ⟨b,hb⟩:=gxE (l:=l) (i:=i+1) hlt;have hg:=RL (Fp t) ha hb;have hm:∀ y∈[Db (QT (Fp t) a b)],y.length=7:=λy hy=>by rw [Qk.1 hy]; rfl
  refine go tt [.t (by simp [hcl]; omega),.r 19 (eI (b:=(i:Int)) (by simp)),.x (Sp ha),.x (Sp hb),.k (cL (hl a (Qa ha)) (hl b (Qa hb)) ht),.s (sz:=7) hm,.r 14 (eI (b:=((i+1+1:Nat):Int)) (by simp))] rfl (by simp [Uz,G0,Pa,Bn]; omega) ?_;exact rd (i+1) (by omega) (by omega) (by rw [hg]; simp [U6]; rfl)
 ·have e:(Ss (Fp t) l).take i=Ss (Fp t) l:=Qn (by rw [Bn]; omega);rw [e];exact Ud [.f (by simp [hcl]; omega)] rfl
theorem Ql6:Uh 281 [pr []] [.one .nilp,.oi 2]:=by
 have h:Pf []=some []:=rfl;exact Ue func281 rfl [.k (NC RU h),.t rfl] rfl
theorem Qea:Uh 403 [pr []] [.one (.row []),.oi 2] :=
 Ue func403 rfl [.k Ql6,.t rfl] rfl
theorem Qup {a o:Uk} (ha:Pb a) (h:nX a=some o):Pb o:=by
 unfold nX at h
 split at h
 ·injection h with h; subst h; exact RU
 ·obtain ⟨l,hl,h⟩:=Qd.1 h;obtain ⟨fs,hf,h⟩:=Qd.1 h;exact YF Qia (xT (MK (Rr ha) hl).2 hf) h
theorem Qdr {p:Uk} {l:List Tm} (hp:Pb p) (h:WY p=some l) (hl:l.length<=1000000):Uh 402 [pr p] [.one (tas l)]:=by
 unfold WY at h;obtain ⟨q,hq,h⟩:=Qd.1 h;have qp:=Qup hp hq;have co:=Qwn hp hq
 split at h
 ·rename_i h0;injection h with h; subst h;obtain rfl:=Qj h0;exact Ue func402 rfl [.k co,.k Qea,.t rfl] rfl
 ·exact Ue func402 rfl [.k co,.k (Ql5 qp h hl),.f rfl] rfl
def ota:Option Tm->Up
 | none=>zTr
 | some t=>ta t
theorem Qlu {p:Uk} {a:Tm} {l:List Tm} {r:Option Tm} (hp:Pb p) (ha:Tb a) (h:WY p=some l) (hl:l.length≤1000000) (ht:∀ t∈l,Tb t) (hr:VH a l=some r):Uh 401 [pr p,.agg (ta a)] [.agg (ota r),.one (.bool r.isSome)]:=by
 have hll:(l.map λt=>ta t).length=l.length:=by simp
 refine Fw func401 rfl ?_;refine Ub [.k (Qdr hp h hl)] rfl ?_;refine Ug (S:=Nat) 2 (λL1 i=>(11,.v (.oi i))::L1) (λ_=>[.blk 105 (ta a),.blk 105 zTm]) (λi=>l.length-i) (λi=>i<=l.length/\VH a (l.drop i)=some r) 0 ⟨Qh _,hr⟩ rfl rfl λi ⟨hi,hf⟩=>?_
 by_cases hlt:i<l.length
 ·obtain ⟨t,hx⟩:=gxE (l:=l) (i:=i) hlt;have hdr:l.drop i=t::l.drop (i+1):=by
   rw [Zr hlt]; congr 1;have:=Qe hlt; rw [hx] at this; injection this with this; exact this.symm
  rw [hdr] at hf;simp only [VH] at hf;obtain ⟨c,c1,hf⟩:=Qd.1 hf;have cc:=VC (ht t (Qa hx)) ha c1;by_cases hc:0<c
  ·rw [if_pos hc] at hf;injection hf with hf; subst hf;exact Ud [.t (by simp; omega),.x (MI hx),.k cc,.t (by simpa using hc)] rfl
  ·rw [if_neg hc] at hf;refine Uc [.t (by simp; omega),.x (MI hx),.k cc,.f (by simpa using hc)] rfl ?_;exact rd (i+1) (by omega) ⟨hlt,hf⟩ rfl
 ·obtain rfl:i=l.length:=by omega
  rw [Y9] at hf;simp only [VH] at hf;injection hf with hf; subst hf;exact Ud [.f (by simp)] rfl
def I7 (now:Tm):List Wt->Option (List Wt)
 | []=>some []
 | w::l=>(if w.known=true then some w else (SK w.c.p now).bind λr=>some ⟨w.c,true,r⟩).bind λw'=>(I7 now l).bind λr=>some (w'::r)
theorem YW {now:Tm}:∀ {l ws:List Wt},I7 now l=some ws->ws.length=l.length/\∀ (i:Nat) (w:Wt),l[i]? = some w->∃ v,ws[i]? = some v/\(w.known=true/\v=w\/w.known=false/\∃ r,SK w.c.p now=some r/\v=⟨w.c,true,r⟩)
 | [],ws,h=>by injection h with h; subst h; exact ⟨rfl,λi x hx=>by simp at hx⟩
 |
  y::l,ws,h=>by
  simp only [I7] at h;obtain ⟨v,hv,h⟩:=Qd.1 h;obtain ⟨r,hr,h⟩:=Qd.1 h;injection h with h; subst h;obtain ⟨a,b⟩:=YW hr;refine ⟨by simp [a],λi x hx=>?_⟩;cases i with
  |
   zero =>
   injection hx with hx; subst hx;refine ⟨v,rfl,?_⟩
   split at hv
   ·rename_i hk; injection hv with hv; exact .inl ⟨hk,hv.symm⟩
   ·rename_i hk;obtain ⟨q,hq,hv⟩:=Qd.1 hv;injection hv with hv;exact .inr ⟨by simpa using hk,q,hq,hv.symm⟩
  | succ i=>exact b i x (by simpa using hx)
theorem vE {p:Uk} {a:Tm} {r:Option Tm} (hp:Cp p) (ha:Va a) (h:SK p a=some r):Uh 401 [pr p,.agg (ta a)] [.agg (ota r),.one (.bool r.isSome)]:=by
 obtain ⟨l,l1,l2,l3,_⟩:=JU hp;unfold SK at h;rw [l1] at h;exact Qlu (Dp.pb hp.dp) ha.tb l1 (by omega) (λt ht=>(l3 t ht).tb) h
theorem Qlx {T:Nat} {c:Cr} {r0 r1:Uq} {ws:List Wt} (hc:CrOk c) (h:I7 c.now c.l=some ws):U5 prog 395 [.one (.ow 0 0)] [.blk T (Hr c r0 r1)] [] [.blk T (Hr { c with l:=ws } r0 r1)]:=by
 have hk:=hc.k;have hw:=Ti c.l;obtain ⟨h1,h2⟩:=YW h;refine Fw func395 rfl ?_;refine Ub [.o 2 352 18,.c [0] (O6 hc.n)] rfl ?_;refine Ug (S:=Nat) 3 (λL1 i=>(13,.v (.oi i))::(2,.v (.one (.orow 1 18 none)))::L1) (λi=>[.blk T (Hr c r0 r1),.row false 352 18 (Bu (ws.take i)),.blk 105 (ta c.now)]) (λi=>c.l.length-i) (λi=>i<=c.l.length) 0 (Qh _) rfl rfl λi hi=>?_
 by_cases hlt:i<c.l.length
 ·obtain ⟨w,hx⟩:=gxE (l:=c.l) (i:=i) hlt;obtain ⟨v,hv,h3⟩:=h2 i w hx;have hm:∀ y∈[wl v],y.length=18:=λy hy=>by rw [Qk.1 hy]; rfl
  have hg:=Ev hv;have hl:decide ((i:Int)<((Bu c.l).length:Int))=true:=by simp [hw]; omega
  rcases h3 with ⟨k1,rfl⟩ | ⟨k1,r,k2,rfl⟩
  ·obtain ⟨vc,vk,vf⟩:=v;cases vf <;> (refine go tt [.t hl,.x (Hn hx),.f (by rw [show vk=true from k1]; rfl),.s (sz:=18) hm] rfl (by simp [Uz,Ti]; omega) ?_; exact rd (i+1) (by omega) hlt (by rw [hg]; rfl))
  ·have cg:=vE (hc.l w (Qa hx)).p hc.n k2;obtain ⟨wc,wk,wf⟩:=w;cases r <;> cases wf <;> (refine go tt [.t hl,.x (Hn hx),.t (by rw [show wk=false from k1]; rfl),.k cg,.s (sz:=18) hm] rfl (by simp [Uz,Ti]; omega) ?_; exact rd (i+1) (by omega) hlt (by rw [hg]; rfl))
 ·obtain rfl:i=c.l.length:=by omega
  rw [<-h1,Q5];exact Uf [1] [0] [.f (by simp [hw,h1])] rfl
def AQ (ws:List Wt):Option (Option Tm):=match ws.filterMap (·.fails) with
 | []=>some none
 | b::l=>(QF b l).map some
theorem Ec {c:Cr} {ws:List Wt} (hc:CrOk c) (h:I7 c.now c.l=some ws):CrOk { c with l:=ws }:=by
 obtain ⟨h1,h2⟩:=YW h;refine ⟨hc.n,λv hv=>?_,by show ws.length<=1000; rw [h1]; exact hc.k⟩;obtain ⟨i,hi⟩:=Xt hv;have hil:i<c.l.length:=by rw [<-h1]; exact (Qf.1 hi).1
 obtain ⟨v',h3,h4⟩:=h2 i _ (Qe hil);rw [hi] at h3; injection h3 with h3; subst h3;have hw:=hc.l _ (Xq hil);rcases h4 with ⟨_,rfl⟩ | ⟨_,r,k2,rfl⟩
 ·exact hw
 ·obtain ⟨r',r1,r2⟩:=Qhv hw.p hc.n;rw [k2] at r1; injection r1 with r1; subst r1;refine ⟨hw.p,λt ht=>?_⟩;have ht:r=some t:=ht;subst ht;exact r2.2.1
theorem PM {T:Nat} {c:Cr} {r0 r1:Uq} {ws:List Wt} {r:Option Tm} (hc:CrOk c) (h:I7 c.now c.l=some ws) (hr:AQ ws=some r):U5 prog 392 [.one (.ow 0 0)] [.blk T (Hr c r0 r1)] [.agg (ota r),.one (.bool r.isSome)] [.blk T (Hr { c with l:=ws } r0 r1)]:=by
 have hcl:=Qlx (T:=T) (r0:=r0) (r1:=r1) hc h;have hc':=Ec hc h;have hk:=hc'.k;have hw:=Ti ws;have hvb:∀ t∈ws.filterMap (·.fails),Tb t:=λt ht=>by
  obtain ⟨w,w1,w2⟩:=Jh.1 ht;exact ((hc'.l w w1).f t w2).tb
 refine Fw func392 rfl ?_;refine Ub [.c [0] hcl,.o 4 105 9] rfl ?_;refine Ug (S:=Nat) 3 (λL1 i=>(14,.v (.oi i))::(4,.v (.one (.orow 2 9 none)))::L1) (λi=>[.blk T (Hr { c with l:=ws } r0 r1),.blk 105 zTm,.row false 105 9 (tal ((ws.take i).filterMap (·.fails)))]) (λi=>ws.length-i) (λi=>i<=ws.length) 0 (Qh _) rfl rfl λi hi=>?_
 by_cases hlt:i<ws.length
 ·obtain ⟨w,hx⟩:=gxE (l:=ws) (i:=i) hlt;have hl:decide ((i:Int)<((Bu ws).length:Int))=true:=by simp [hw]; omega
  have hfl:((ws.take i).filterMap (·.fails)).length<=i:=Qc (Vb _ _) (by rw [Qt]; omega);have hg:(ws.take (i+1)).filterMap (·.fails)=(ws.take i).filterMap (·.fails)++(match w.fails with | none=>[] | some t=>[t]):=by
   rw [Zv,hx,List.filterMap_append];show _++List.filterMap (·.fails) [w]=_;cases hwf:w.fails <;> simp [hwf]
  obtain ⟨wc,wk,wf⟩:=w;have hk:ws.length<=1000:=hk;cases wf with
  |
   none =>
   refine Uc [.t hl,.x (Hn hx),.f rfl] rfl ?_;exact rd (i+1) (by omega) hlt (by rw [hg]; simp; rfl)
  |
   some t =>
   refine Uc [.t hl,.x (Hn hx),.t rfl,.s (l:=[ta t]) (sz:=9) (λc hc=>by rw [Qk.1 hc]; rfl)] rfl ?_;exact rd (i+1) (by omega) hlt (by rw [hg]; simp [tal]; rfl)
 ·obtain rfl:i=ws.length:=by omega
  rw [Q5];have hf:decide ((ws.length:Int)<((Bu ws).length:Int))=false:=by simp [hw]
  have hln:(ws.filterMap (·.fails)).length<=1000:=Qc (Vb _ _) hk;unfold AQ at hr;cases hfm:ws.filterMap (·.fails) with
  |
   nil =>
   rw [hfm] at hr;injection hr with hr; subst hr;exact Uf [] [0] [.f hf,.p 2,.k vA] rfl
  |
   cons b l =>
   rw [hfm] at hr hvb hln;obtain ⟨m,m1,rfl⟩:=Yt.1 hr;have cl:=Sx (hvb b (Qx ..)) (λt ht=>hvb t (Qg _ ht)) (by simp at hln; omega) m1;exact Uf [] [0] [.f hf,.p 2,.k cl] rfl
theorem CE {at_:Tm} {x:Ct}:∀ {l:List Wt} {w:Wt},Cc l x at_=some w->w=fresh x\/∃ v∈l,v.known=true/\v.c.p=x.p/\w=⟨x,true,v.fails⟩/\∀ t,v.fails=some t->∃ c,WI t at_=some c/\0<c
 | [],w,h=>by simp only [Cc] at h; injection h with h; exact .inl h.symm
 |
  v::l,w,h=>by
  simp only [Cc] at h;have tl:Cc l x at_=some w->w=fresh x\/∃ v'∈v::l,v'.known=true/\v'.c.p=x.p/\w=⟨x,true,v'.fails⟩/\∀ t,v'.fails=some t->∃ c,WI t at_=some c/\0<c:=λh=>by
   rcases CE h with h | ⟨v',h1,h2⟩
   ·exact .inl h
   ·exact .inr ⟨v',Qg _ h1,h2⟩
  split at h
  ·rename_i hk;cases hf:v.fails with
   |
    none =>
    rw [hf] at h;injection h with h;exact .inr ⟨v,Qx ..,hk.2.1,hk.2.2,by rw [hf]; exact h.symm,λt ht=>by rw [hf] at ht; cases ht⟩
   |
    some t =>
    rw [hf] at h;obtain ⟨c,c1,h⟩:=Qd.1 h
    split at h
    ·rename_i h0;injection h with h;exact .inr ⟨v,Qx ..,hk.2.1,hk.2.2,by rw [hf]; exact h.symm,λu hu=>by rw [hf] at hu; injection hu with hu; subst hu; exact ⟨c,c1,h0⟩⟩
    ·exact tl h
  ·exact tl h
theorem lay_ok {c:Cr} {at_:Tm} {l:List Ct} {ws:List Wt} (ev:Int) (hc:CrOk c) (ha:Va at_) (hl:∀ x∈l,Cp x.p) (hn:l.length≤1000) (h:P0 c.l at_ (Fq l)=some ws):CrOk ⟨at_,ws,ev⟩:=by
 obtain ⟨h1,h2⟩:=XV h;refine ⟨ha,λw hw=>?_,by show ws.length<=1000; rw [h1,Ml]; exact hn⟩;obtain ⟨i,hi⟩:=Xt hw;have hil:i<(Fq l).length:=by rw [<-h1]; exact (Qf.1 hi).1
 obtain ⟨v,h3,h4⟩:=h2 i _ (Qe hil);rw [hi] at h4; injection h4 with h4; subst h4;have hx:=hl _ (Rw (Xq hil));rcases CE h3 with e | ⟨v,v1,_,v3,e,_⟩
 ·rw [e]; exact ⟨hx,λt ht=>by cases ht⟩
 ·rw [e]; exact ⟨hx,λt ht=>(hc.l v v1).f t ht⟩
def UR {β:Type} (Bc:Tm->List Ct) (Br:Tm->β) (t:Rat):Nat->Cr->β->Int->Option (Cr×β×Int)
 | 0,_,_,_=>none
 |
  k+1,c,r,n=>(I7 c.now c.l).bind λws=>(AQ ws).bind λo=>match o with
  | none=>some (⟨tq t,ws,c.ev⟩,r,n)
  | some a=>if 0<Fj a t then some (⟨tq t,ws,c.ev⟩,r,n) else (P0 ws a (Fq (Bc a))).bind λw2=>UR Bc Br t k ⟨a,w2,c.ev+1⟩ (Br a) (n+1)
theorem Qhy {ws:List Wt} {a:Tm} (h:AQ ws=some (some a)) (hv:∀ t∈ws.filterMap (·.fails),Va t):a∈ws.filterMap (·.fails)/\∀ t∈ws.filterMap (·.fails),¬Mb t a:=by
 unfold AQ at h;cases hf:ws.filterMap (·.fails) with
 | nil=>rw [hf] at h; injection h with h; cases h
 |
  cons b l =>
  rw [hf] at h hv;obtain ⟨m,m1,m2⟩:=Yt.1 h;injection m2 with m2; subst m2;obtain ⟨m',n1,n2,n3⟩:=HA l b hv;rw [m1] at n1; injection n1 with n1; subst n1;exact ⟨n2,n3⟩
theorem DW {c:Cr} {ws:List Wt} {a:Tm} (hc:CrOk c) (h:I7 c.now c.l=some ws) (hr:AQ ws=some (some a)):Va a:=by
 have hc':=Ec hc h;have hv:∀ t∈ws.filterMap (·.fails),Va t:=λt ht=>by
  obtain ⟨w,w1,w2⟩:=Jh.1 ht;exact (hc'.l w w1).f t w2
 exact hv a (Qhy hr hv).1
structure BuildOk (Bc:Tm->List Ct):Prop where
 p:∀ a,Va a->∀ x∈Bc a,Cp x.p
 n:∀ a,Va a->(Bc a).length<=1000
theorem Qwl {T:Nat} {t:Rat} {Bc:Tm->List Ct} {Br:Tm->Uq} {r0:Uq} (ht:Qs 1640000 t) (hB:BuildOk Bc)
 (hb:∀ a c r1,Va a->CrOk c->U5 prog 195 [.one (.ow 0 0),.agg (ta a)] [.blk T (Hr c r0 r1)] [.one (.row (U6 (Bc a)))] [.blk T (Hr c r0 (Br a))])
 {K:Nat} {c c':Cr} {r1 r1':Uq} {n:Int} (hc:CrOk c) (hev:0<=c.ev/\c.ev+K<=1000000000000000000) (h:Fj c.now t<=0) (hg:UR Bc Br t K c r1 0=some (c',r1',n)) :
 U5 prog 396 [.one (.ow 0 0),.agg (rl t),.one (.ofn 195 [.ow 0 0] [])] [.blk T (Hr c r0 r1)] [.oi n,.oi 0] [.blk T (Hr c' r0 r1')]:=by
 have qt:Qb t:=ht.mono (by decide);have c1:=C6 hc.n.tb qt;refine Fw func396 rfl ?_;refine Ub [.c [0] (O6 hc.n),.k c1,.f (by simpa using h)] rfl ?_;refine Ug (S:=Nat×Cr×Uq×Int) 2 (λL1 s=>(8,.v (.oi s.2.2.2))::L1) (λs=>[.blk T (Hr s.2.1 r0 s.2.2.1),.blk 42 (rl t)]) (λs=>s.1) (λs=>CrOk s.2.1/\(0<=s.2.1.ev/\s.2.1.ev+s.1<=1000000000000000000)/\(0<=s.2.2.2/\s.2.2.2+s.1<=1000000000000000000)/\UR Bc Br t s.1 s.2.1 s.2.2.1 s.2.2.2=some (c',r1',n)) (K,c,r1,0) ⟨hc,hev,⟨Int.le_refl 0,by dsimp only; omega⟩,hg⟩ rfl rfl λ⟨k,x,r,m⟩ ⟨j1,j2,j3,j4⟩=>?_
 dsimp only at j1 j2 j3 j4 ⊢;cases k with
 | zero=>cases j4
 |
  succ k =>
  simp only [UR] at j4;obtain ⟨ws,w1,j4⟩:=Qd.1 j4;obtain ⟨o,o1,j4⟩:=Qd.1 j4;have cn:=PM (T:=T) (r0:=r0) (r1:=r) j1 w1 o1;have ca:=VW (U3 t.num) (U3 (t.den:Int)) (Qc ht.1 (by decide)) (Qc ht.2 (by decide)) (by rw [Sv]; exact ht.mono (by decide));rw [Sv] at ca;cases o with
  |
   none =>
   injection j4 with j4; injection j4 with e1 j4; injection j4 with e2 e3;subst e1; subst e2; subst e3;exact Uf [] [0] [.c [0] cn,.g 25 true rfl,.t rfl,.k ca] rfl
  |
   some a =>
   have ha:=DW j1 w1 o1;dsimp only at j4;have cc:=C6 ha.tb qt;by_cases h0:0<Fj a t
   ·rw [if_pos h0] at j4;injection j4 with j4; injection j4 with e1 j4; injection j4 with e2 e3;subst e1; subst e2; subst e3;exact Uf [] [0] [.c [0] cn,.g 25 false rfl,.k cc,.t (by simpa using h0),.k ca] rfl
   ·rw [if_neg h0] at j4;obtain ⟨w2,l1,j4⟩:=Qd.1 j4;have j1':=Ec j1 w1;have cl:=Sx (b:=a) (l:=[]) ha.tb (λt ht=>by cases ht) (by decide) rfl;have cb:=hb a { x with l:=ws } r ha j1';have cy:=WM (T:=T) (r0:=r0) (r1:=Br a) j1' ha (hB.p a ha) (hB.n a ha) l1;have hf:decide (0<Fj a t)=false:=by simpa using h0
    refine Uc [.c [0] cn,.g 25 false rfl,.k cc,.f hf,.k cl,.c [0] cb,.c [0] cy] rfl ?_;exact rd (k,⟨a,w2,x.ev+1⟩,Br a,m+1) (by dsimp only; omega) ⟨lay_ok _ j1' ha (hB.p a ha) (hB.n a ha) l1,by dsimp only; omega,by dsimp only; omega,j4⟩ rfl
theorem JB {T:Nat} {c:Cr} {r0 r1:Uq}:U5 prog 391 [.one (.ow 0 0)] [.blk T (Hr c r0 r1)] [.oi c.ev] [.blk T (Hr c r0 r1)]:=by
 refine Fw func391 rfl ?_;exact Uf [] [0] [] rfl
end Orr
namespace Orq
open Orr Go
theorem Qxi {a b c:Tm} (hb:Cut (Fj b)) (hc:Cut (Fj c)) (h:Mb a b) (h':Mb b c):Mb a c:=by
 obtain ⟨q,q1,q2⟩:=h;obtain ⟨r,r1,r2⟩:=h';exact ⟨q,q1,hc.mono' (hb.lt q2 r1) (by omega)⟩
theorem HO {a b:Tm} (ha:Cut (Fj a)) (hb:Cut (Fj b)) (h:¬Mb b a):Leq a (Fj b):=λq hq=>by
 rcases ha.val q with e | e | e
 ·exact absurd ⟨q,hq,e⟩ h
 ·obtain ⟨r,r1,r2⟩:=hb.dn q hq;exact absurd ⟨r,r2,ha.mono' r1 (by omega)⟩ h
 ·exact e
theorem eW {a b c:Tm} (_:Cut (Fj a)) (hb:Cut (Fj b)) (hc:Cut (Fj c)) (h:Mb a b) (h':¬Mb c b):Mb a c:=by
 obtain ⟨q,q1,q2⟩:=h;refine ⟨q,q1,?_⟩;have hl:=HO hb hc h';rcases hc.val q with e | e | e
 ·exact e
 ·obtain ⟨r,r1,r2⟩:=hb.up q q2;have h1:=hc.mono q r r1 (by omega);have:=hl r h1;omega
 ·have:=hl q e; omega
theorem jK {a b:Tm} (ha:Cut (Fj a)) (hb:Cut (Fj b)) (h:Mb a b):¬Mb b a:=λh'=>Ik ha hb h h'
theorem Oc {p:Uk} {a b:Tm} {o:Option Tm} (ha:Cut (Fj a)) (hb:Cut (Fj b)) (hab:¬Mb b a) (h:Pg p a o) (ho:∀ t,o=some t->Mb b t):Pg p b o:=by
 have hl:=HO ha hb hab;cases o with
 |
  none =>
  rcases h with h | ⟨s,s0,h⟩
  ·exact .inl h
  ·exact .inr ⟨s,s0,λc hc hbc=>h c hc λq hq=>hl q (hbc q hq)⟩
 |
  some t =>
  obtain ⟨h1,h2,_,s,s0,h4,h5⟩:=h;exact ⟨h1,h2,ho t rfl,s,s0,λc hc hbc hm=>h4 c hc (λq hq=>hl q (hbc q hq)) hm,h5⟩
theorem OZ {p:Uk} {a b:Tm} {o:Option Tm} (hp:Dp p) (ha:Va a) (hb:Va b) (hab:¬Mb b a) (h:Pg p a o) (ho:∀ t,o=some t->Mb b t):Hg (Fp b) p=Hg (Fp a) p:=by
 by_cases h0:p.length=0
 ·obtain rfl:=Qj h0; rfl
 obtain ⟨ra,_⟩:=Ea ha hp h0;obtain ⟨rb,_⟩:=Ea hb hp h0;have hl:=HO ha.cut hb.cut hab;cases o with
 |
  none =>
  rcases h with h | ⟨s,s0,h⟩
  ·exact absurd (by rw [h]; rfl) h0
  ·exact (FP rb (h _ hb.cut hl)).trans (FP ra (h _ ha.cut λ_ h=>h)).symm
 |
  some t =>
  obtain ⟨h1,h2,h3,s,s0,h4,h5⟩:=h;exact (FP rb (h4 _ hb.cut hl (ho t rfl))).trans (FP ra (h4 _ ha.cut (λ_ h=>h) h3)).symm
theorem EY (t q:Rat):Fj (tq t) q=G6 t q:=A1 (t:=tq t) rfl q
theorem ZT {a:Tm} {t:Rat} (ha:Cut (Fj a)):0<Fj a t↔Mb (tq t) a:=by
 constructor
 ·intro h;have h1:Fj a t=1:=by rcases ha.val t with e | e | e <;> omega
  obtain ⟨r,r1,r2⟩:=ha.up t h1;exact ⟨r,by rw [EY]; rcases Ty t r with ⟨e,e'⟩ | ⟨e,e'⟩ | ⟨e,e'⟩ <;> first | exact e | (exfalso; grind),r2⟩
 ·rintro ⟨q,q1,q2⟩
  rw [EY] at q1;have:t<q:=by rcases Ty t q with ⟨e,e'⟩ | ⟨e,e'⟩ | ⟨e,e'⟩ <;> first | exact e' | omega
  have:=ha.mono' this (by omega);omega
open Classical in
noncomputable def mu (T:List Tm) (a:Tm):Nat:=(T.filter λt=>decide (Mb a t)).length
theorem IT {α:Type} {p q:α->Bool} (h:∀ x,p x=true->q x=true):∀ l:List α,(l.filter p).length<=(l.filter q).length
 | []=>Ql _
 |
  x::l=>by
  have ih:=IT h l;by_cases hp:p x=true
  ·rw [X3 hp,X3 (h x hp)]; simp; exact ih
  ·rw [Jw hp];by_cases hq:q x=true
   ·rw [X3 hq]; simp; omega
   ·rw [Jw hq]; exact ih
theorem IS {α:Type} {p q:α->Bool} (h:∀ x,p x=true->q x=true) {y:α} (hp:p y=false) (hq:q y=true):∀ {l:List α},y∈l->(l.filter p).length<(l.filter q).length
 | [],hy=>by cases hy
 |
  x::l,hy=>by
  rcases Qm.1 hy with rfl | hy
  ·rw [Jw (by simp [hp]),X3 hq];have:=IT h l;simp; omega
  ·have ih:=IS h hp hq hy;by_cases hp:p x=true
   ·rw [X3 hp,X3 (h x hp)]; simp; exact ih
   ·rw [Jw hp];by_cases hq:q x=true
    ·rw [X3 hq]; simp; omega
    ·rw [Jw hq]; exact ih
open Classical in
theorem Qq9 {T:List Tm} {a b:Tm} (ha:Cut (Fj a)) (hb:Cut (Fj b)) (hT:∀ t∈T,Cut (Fj t)) (h:Mb a b) (hm:b∈T):mu T b<mu T a:=by
 have key:∀ l:List Tm,(∀ t∈l,Cut (Fj t))->l.filter (λt=>decide (Mb b t))=l.filter (λt=>decide (Cut (Fj t)/\Mb b t)):=λl hl=>List.filter_congr λx hx=>by simp [hl x hx]
 have key2:∀ l:List Tm,(∀ t∈l,Cut (Fj t))->l.filter (λt=>decide (Mb a t))=l.filter (λt=>decide (Cut (Fj t)/\Mb a t)):=λl hl=>List.filter_congr λx hx=>by simp [hl x hx]
 unfold mu;rw [key T hT,key2 T hT];refine IS (λx hx=>?_) (y:=b) ?_ ?_ hm
 ·have hx:=of_decide_eq_true hx;exact decide_eq_true ⟨hx.1,Qxi hb hx.1 h hx.2⟩
 ·exact decide_eq_false λhx=>Ik hb hb hx.2 hx.2
 ·exact decide_eq_true ⟨hb,h⟩
def EJ (p:Uk):List Tm:=(WY p).getD []
structure KInv (c:Cr):Prop where
 ok:CrOk c
 k:∀ w∈c.l,w.known=true->Pg w.c.p c.now w.fails/\∀ t,w.fails=some t->t∈EJ w.c.p
theorem DK {p:Uk} (h:Cp p) {a:Tm} (ha:Va a):∃ r,SK p a=some r/\Pg p a r/\∀ t,r=some t->t∈EJ p:=by
 obtain ⟨l,l1,_,_,l3⟩:=JU h;obtain ⟨r,r1,r2,r3⟩:=l3 a ha;refine ⟨r,?_,r2,λt ht=>by unfold EJ; rw [l1]; exact r3 t ht⟩;unfold SK; rw [l1]; exact r1
theorem Qvj {p:Uk} (h:Cp p):∀ t∈EJ p,Va t:=by
 obtain ⟨l,l1,_,l2,_⟩:=JU h;unfold EJ; rw [l1]; exact l2
theorem eP {now:Tm} (hn:Va now):∀ {l:List Wt},(∀ w∈l,WtOk w)->(∀ w∈l,w.known=true->Pg w.c.p now w.fails/\∀ t,w.fails=some t->t∈EJ w.c.p) ->
 ∃ ws,I7 now l=some ws/\ws.map (·.c)=l.map (·.c)/\∀ w∈ws,w.known=true/\Pg w.c.p now w.fails/\∀ t,w.fails=some t->t∈EJ w.c.p
 | [],_,_=>⟨[],rfl,rfl,λw hw=>by cases hw⟩
 |
  w::l,h,h'=>by
  obtain ⟨ws,w1,w2,w3⟩:=eP hn (λv hv=>h v (Qg _ hv)) (λv hv=>h' v (Qg _ hv));by_cases hk:w.known=true
  ·refine ⟨w::ws,by simp only [I7,hk,if_true,w1]; rfl,by simp [w2],λv hv=>?_⟩;rcases Qm.1 hv with rfl | hv
   ·exact ⟨hk,h' v (by simp) hk⟩
   ·exact w3 v hv
  ·obtain ⟨r,r1,r2,r3⟩:=DK (h w (by simp)).p hn;refine ⟨⟨w.c,true,r⟩::ws,by simp only [I7]; rw [if_neg hk,r1,w1]; rfl,by simp [w2],λv hv=>?_⟩;rcases Qm.1 hv with rfl | hv
   ·exact ⟨rfl,r2,r3⟩
   ·exact w3 v hv
theorem eQ {at_:Tm} (ha:Va at_) {x:Ct}:∀ {l:List Wt},(∀ w∈l,WtOk w)->∃ w,Cc l x at_=some w/\w.c=x
 | [],_=>⟨fresh x,rfl,rfl⟩
 |
  v::l,h=>by
  obtain ⟨w,w1,w2⟩:=eQ ha (x:=x) λv hv=>h v (Qg _ hv)
  simp only [Cc]
  split
  ·cases hf:v.fails with
   | none=>exact ⟨_,rfl,rfl⟩
   |
    some t =>
    obtain ⟨c,c1,_⟩:=WO ((h v (by simp)).f t hf) ha;dsimp only;rw [c1];show ∃ w,(if 0<c then some ⟨x,true,some t⟩ else Cc l x at_)=some w/\w.c=x
    split
    ·exact ⟨_,rfl,rfl⟩
    ·exact ⟨w,w1,w2⟩
  ·exact ⟨w,w1,w2⟩
theorem mY {at_:Tm} (ha:Va at_) {ol:List Wt} (ho:∀ w∈ol,WtOk w):∀ l:List Ct,∃ ws,P0 ol at_ l=some ws/\ws.map (·.c)=l
 | []=>⟨[],rfl,rfl⟩
 |
  x::l=>by
  obtain ⟨w,w1,w2⟩:=eQ ha (x:=x) ho;obtain ⟨ws,s1,s2⟩:=mY ha ho l;exact ⟨w::ws,by simp only [P0,w1,s1]; rfl,by simp [w2,s2]⟩
theorem Qbf {out:List Ct} {c x:Ct}:x∈KW out c↔x=c\/x∈out:=by
 have h:x∈out↔x∈out.take (XL out c out.length)\/x∈out.drop (XL out c out.length):=by
  rw [<-Qq,Zi]
 simp only [KW,Qq,Qm,h];constructor
 ·rintro (h | h | h)
  ·exact .inr (.inl h)
  ·exact .inl h
  ·exact .inr (.inr h)
 ·rintro (h | h | h)
  ·exact .inr (.inl h)
  ·exact .inl h
  ·exact .inr (.inr h)
theorem IB:∀ (l acc:List Ct) {y:Ct},y∈l.foldl KW acc↔y∈l\/y∈acc
 | [],acc,y=>by simp
 |
  c::l,acc,y=>by
  simp only [Z8];rw [IB l,Qbf,Qm];constructor
  ·rintro (h | h | h)
   ·exact .inl (.inr h)
   ·exact .inl (.inl h)
   ·exact .inr h
  ·rintro ((h | h) | h)
   ·exact .inr (.inl h)
   ·exact .inl h
   ·exact .inr (.inr h)
theorem qD {l:List Ct} {x:Ct}:x∈Fq l↔x∈l:=by unfold Fq; rw [IB]; simp
theorem Quo {ws:List Wt} (hw:∀ w∈ws,WtOk w):∃ o,AQ ws=some o/\match o with
 | none=>∀ w∈ws,w.fails=none
 | some a=>Va a/\(∃ w∈ws,w.fails=some a)/\∀ w∈ws,∀ t,w.fails=some t->¬Mb t a:=by
 have hv:∀ t∈ws.filterMap (·.fails),Va t:=λt ht=>by
  obtain ⟨w,w1,w2⟩:=Jh.1 ht;exact (hw w w1).f t w2
 unfold AQ;cases hf:ws.filterMap (·.fails) with
 |
  nil =>
  refine ⟨none,rfl,λw h=>?_⟩;cases e:w.fails with
  | none=>rfl
  |
   some t =>
   have:t∈ws.filterMap (·.fails):=Jh.2 ⟨w,h,e⟩;rw [hf] at this; cases this
 |
  cons b l =>
  rw [hf] at hv;obtain ⟨m,m1,m2,m3⟩:=HA l b hv;refine ⟨some m,by show (QF b l).map some=_; rw [m1]; rfl,hv m m2,?_,λw h t e=>?_⟩
  ·rw [<-hf] at m2;exact Jh.1 m2
  ·exact m3 t (by rw [<-hf]; exact Jh.2 ⟨w,h,e⟩)
theorem Qs8 {t a:Tm} (ht:Va t) (ha:Va a) {c:Int} (h:WI t a=some c) (h0:0<c):Mb a t:=by
 obtain ⟨c',c1,c2⟩:=WO ht ha;rw [h] at c1; injection c1 with c1; subst c1;rcases c2 with ⟨e,_⟩ | ⟨e,_⟩ | ⟨_,e⟩
 ·omega
 ·omega
 ·exact e
theorem eY {ol ws:List Wt} {now a:Tm} {l:List Ct} (hn:Va now) (ha:Va a) (hna:¬Mb a now) (ho:∀ w∈ol,WtOk w) (hk:∀ w∈ol,w.known=true->Pg w.c.p now w.fails/\∀ t,w.fails=some t->t∈EJ w.c.p) (h:P0 ol a l=some ws) :
 ∀ w∈ws,w.known=true->Pg w.c.p a w.fails/\∀ t,w.fails=some t->t∈EJ w.c.p:=by
 obtain ⟨h1,h2⟩:=XV h;intro w hw hkn;obtain ⟨i,hi⟩:=Xt hw;have hil:i<l.length:=by rw [<-h1]; exact (Qf.1 hi).1
 obtain ⟨v,h3,h4⟩:=h2 i _ (Qe hil);rw [hi] at h4; injection h4 with h4; subst h4;rcases CE h3 with e | ⟨v,v1,v2,v3,e,v5⟩
 ·rw [e] at hkn; cases hkn
 ·obtain ⟨k1,k2⟩:=hk v v1 v2;rw [e];show Pg (l[i]).p a v.fails/\∀ t,v.fails=some t->t∈EJ (l[i]).p;rw [<-v3];refine ⟨Oc hn.cut ha.cut hna k1 λt ht=>?_,k2⟩;obtain ⟨c,c1,c2⟩:=v5 t ht;exact Qs8 ((ho v v1).f t ht) ha c1 c2
structure Stab {β:Type} (Bc:Tm->List Ct) (Br:Tm->β):Prop where
 ok:BuildOk Bc
 fin:∃ Ps:List (List Int),(∀ p∈Ps,Cp p)/\∀ a,Va a->∀ x∈Bc a,x.p∈Ps
 st:∀ a b,Va a->Va b->(∀ x∈Bc a,Hg (Fp b) x.p=Hg (Fp a) x.p)->Bc b=Bc a/\Br b=Br a
structure KSt {β:Type} (Bc:Tm->List Ct) (Br:Tm->β) (c:Cr) (r1:β):Prop where
 inv:KInv c
 cs:c.l.map (·.c)=Fq (Bc c.now)
 r:r1=Br c.now
inductive Evs (Bc:Tm->List Ct) (t:Rat):Tm->List Tm->Prop
 | nil {a:Tm} (h:∀ x∈Bc a,∃ o,Pg x.p a o/\∀ u,o=some u->Mb (tq t) u):Evs Bc t a []
 | cons {a e:Tm} {E:List Tm} (he:Va e) (h1:Mb a e) (h2:¬Mb (tq t) e) (h3:∀ x∈Bc a,∃ o,Pg x.p a o/\∀ u,o=some u->¬Mb u e) (h4:∃ x∈Bc a,Pg x.p a (some e)) (h5:Evs Bc t e E):Evs Bc t a (e::E)
theorem Qgw {β:Type} {Bc:Tm->List Ct} {Br:Tm->β} (S:Stab Bc Br) {t:Rat} (ht:Qs 1640000 t) {Ps:Ul} (hP:∀ p∈Ps,Cp p) (hPs:∀ a,Va a->∀ x∈Bc a,x.p∈Ps) :
 ∀ (m:Nat) (c:Cr) (r1:β) (n:Int),mu (Ps.flatMap EJ) c.now<=m->KSt Bc Br c r1->¬Mb (tq t) c.now ->
 ∃ c' r' E,UR Bc Br t (m+1) c r1 n=some (c',r',n+(E.length:Nat))/\c'.now=tq t/\KSt Bc Br c' r'/\c'.ev=c.ev+(E.length:Nat)/\E.length<=m/\Evs Bc t c.now E:=by
 have hT:∀ t∈Ps.flatMap EJ,Cut (Fj t):=λu hu=>by
  obtain ⟨p,p1,p2⟩:=Zo.1 hu;exact (Qvj (hP p p1) u p2).cut
 have hq:=TK ht;intro m
 induction m with
 | zero=>?_
 | succ m ih=>?_
 all_goals
  intro c r1 n hm hS hnow;obtain ⟨⟨ok,kk⟩,hcs,hr⟩:=hS;obtain ⟨ws,w1,w2,w3⟩:=eP ok.n ok.l kk;have ok':=Ec ok w1;rw [hcs] at w2;have hc_w:∀ x∈Bc c.now,∃ w∈ws,w.c=x:=λx hx=>by
   have:x∈ws.map (·.c):=by rw [w2]; exact qD.2 hx
   exact Q8.1 this
  have hw_c:∀ w∈ws,w.c∈Bc c.now:=λw hw=>qD.1 (by rw [<-w2]; exact Wi hw)
  obtain ⟨o,o1,o2⟩:=Quo ok'.l;have fin:(∀ w∈ws,∀ u,w.fails=some u->Mb (tq t) u)->KSt Bc Br ⟨tq t,ws,c.ev⟩ r1/\Evs Bc t c.now []:=λhall=>by
   have hg:∀ x∈Bc c.now,Hg (Fp (tq t)) x.p=Hg (Fp c.now) x.p:=λx hx=>by
    obtain ⟨w,hw,rfl⟩:=hc_w x hx;exact OZ (S.ok.p _ ok.n _ hx).dp ok.n hq hnow (w3 w hw).2.1 (hall w hw)
   obtain ⟨s1,s2⟩:=S.st _ _ ok.n hq hg;refine ⟨⟨⟨⟨hq,ok'.l,ok'.k⟩,λw hw _=>⟨Oc ok.n.cut hq.cut hnow (w3 w hw).2.1 (hall w hw),(w3 w hw).2.2⟩⟩,?_,?_⟩,.nil λx hx=>?_⟩
   ·show ws.map (·.c)=Fq (Bc (tq t)); rw [w2,s1]
   ·show r1=Br (tq t); rw [s2,hr]
   ·obtain ⟨w,hw,rfl⟩:=hc_w x hx;exact ⟨_,(w3 w hw).2.1,hall w hw⟩
 ·cases o with
  |
   none =>
   obtain ⟨f1,f2⟩:=fin λw hw u hu=>by rw [o2 w hw] at hu; cases hu
   exact ⟨_,_,[],by simp only [UR]; rw [w1]; simp only [Jb]; rw [o1]; simp,rfl,f1,by simp,by simp,f2⟩
  |
   some a =>
   obtain ⟨va,⟨w,hw,hwa⟩,hmin⟩:=o2;by_cases h0:0<Fj a t
   ·obtain ⟨f1,f2⟩:=fin λv hv u hu=>by
     have hu':=(ok'.l v hv).f u hu;exact eW hq.cut va.cut hu'.cut ((ZT va.cut).1 h0) (hmin v hv u hu)
    exact ⟨_,_,[],by simp only [UR]; rw [w1]; simp only [Jb]; rw [o1]; simp [h0],rfl,f1,by simp,by simp,f2⟩
   ·exfalso;obtain ⟨k1,k2,k3⟩:=w3 w hw;rw [hwa] at k2;have:a∈Ps.flatMap EJ:=Zo.2 ⟨_,hPs _ ok.n _ (hw_c w hw),k3 a hwa⟩;have:=Qq9 ok.n.cut va.cut hT k2.2.2.1 this;omega
 ·cases o with
  |
   none =>
   obtain ⟨f1,f2⟩:=fin λw hw u hu=>by rw [o2 w hw] at hu; cases hu
   exact ⟨_,_,[],by simp only [UR]; rw [w1]; simp only [Jb]; rw [o1]; simp,rfl,f1,by simp,by simp,f2⟩
  |
   some a =>
   obtain ⟨va,⟨w,hw,hwa⟩,hmin⟩:=o2;by_cases h0:0<Fj a t
   ·obtain ⟨f1,f2⟩:=fin λv hv u hu=>by
     have hu':=(ok'.l v hv).f u hu;exact eW hq.cut va.cut hu'.cut ((ZT va.cut).1 h0) (hmin v hv u hu)
    exact ⟨_,_,[],by simp only [UR]; rw [w1]; simp only [Jb]; rw [o1]; simp [h0],rfl,f1,by simp,by simp,f2⟩
   ·obtain ⟨k1,k2,k3⟩:=w3 w hw;rw [hwa] at k2;have hna:=jK ok.n.cut va.cut k2.2.2.1;have hmem:a∈Ps.flatMap EJ:=Zo.2 ⟨_,hPs _ ok.n _ (hw_c w hw),k3 a hwa⟩;have hlt:=Qq9 ok.n.cut va.cut hT k2.2.2.1 hmem;obtain ⟨w2',l1,l2⟩:=mY va ok'.l (Fq (Bc a));have hl:=eY ok.n va hna ok'.l (λv hv _=>(w3 v hv).2) l1;have hS':KSt Bc Br ⟨a,w2',c.ev+1⟩ (Br a):=⟨⟨Orr.lay_ok _ ok' va (S.ok.p a va) (S.ok.n a va) l1,hl⟩,l2,rfl⟩;obtain ⟨c',r',E,g1,g2,g3,g4,g5,g6⟩:=ih ⟨a,w2',c.ev+1⟩ (Br a) (n+1) (by show mu _ a<=m; omega) hS' (λh=>h0 ((ZT va.cut).2 h));refine ⟨c',r',a::E,?_,g2,g3,by rw [g4]; simp; omega,by simp; omega,.cons va k2.2.2.1 (λh=>h0 ((ZT va.cut).2 h)) (λx hx=>?_) ⟨w.c,hw_c w hw,k2⟩ g6⟩
    ·conv=>lhs; unfold UR
     rw [w1]; simp only [Jb]; rw [o1]; simp only [Jb]; rw [if_neg h0,l1]; simp only [Jb];rw [g1]; simp; omega
    ·obtain ⟨v,hv,rfl⟩:=hc_w x hx;exact ⟨_,(w3 v hv).2.1,hmin v hv⟩
end Orq
namespace Orq
open Orr Go
theorem jS {p:Uk} {a a':Tm} (h:∀ q,Fj a q=Fj a' q) {o:Option Tm} (hn:Pg p a o):Pg p a' o:=by
 have e:Fj a=Fj a':=funext h;unfold Pg Leq Mb at *;rw [<-e]; exact hn
theorem cZ {a b:Tm} (ha:Cut (Fj a)) (hb:Cut (Fj b)) (h:¬Mb a b) (h':¬Mb b a):∀ q,Fj a q=Fj b q:=by
 rcases tri ha hb with h1 | h1 | h1
 ·exact absurd h1 h
 ·exact h1
 ·exact absurd h1 h'
theorem iS {a b b':Tm} (h:∀ q,Fj b q=Fj b' q):Mb a b↔Mb a b':=by
 unfold Mb; simp only [h]
theorem JV {a b b':Tm} (h:∀ q,Fj b q=Fj b' q):Mb b a↔Mb b' a:=by
 unfold Mb; simp only [h]
theorem QP {p:Uk} {a:Tm} (ha:Va a) {t t':Tm} (h:Pg p a (some t)) (h':Pg p a (some t')):∀ q,Fj t q=Fj t' q:=by
 obtain ⟨_,v,l,s,s0,h4,h5⟩:=h;obtain ⟨_,v',l',s',s0',h4',h5'⟩:=h';have es:s=s':=FP (h4 _ ha.cut (λ_ h=>h) l) (h4' _ ha.cut (λ_ h=>h) l');refine cZ v.cut v'.cut (λhlt=>?_) λhlt=>?_
 ·have:=FP (h4' _ v.cut (HO ha.cut v.cut (jK ha.cut v.cut l)) hlt) h5;omega
 ·have:=FP (h4 _ v'.cut (HO ha.cut v'.cut (jK ha.cut v'.cut l')) hlt) h5';omega
theorem P6 {p:Uk} {a:Tm} (ha:Va a) {t:Tm} (h:Pg p a (some t)) (h':Pg p a none):False:=by
 obtain ⟨h1,v,l,s,s0,h4,h5⟩:=h;rcases h' with h' | ⟨s',s0',h'⟩
 ·exact h1 h'
 ·have e1:=FP (h' _ ha.cut λ_ h=>h) (h4 _ ha.cut (λ_ h=>h) l);have e2:=FP (h' _ v.cut (HO ha.cut v.cut (jK ha.cut v.cut l))) h5;omega
structure Quiet {β:Type} (Bc:Tm->List Ct) (Br:Tm->β) (a b:Tm):Prop where
 va:Va a
 vb:Va b
 le:¬Mb b a
 n:∀ x∈Bc a,∃ o,Pg x.p a o/\∀ u,o=some u->Mb b u
section
variable {β:Type} {Bc:Tm->List Ct} {Br:Tm->β} (S:Stab Bc Br)
include S
theorem Quiet.same {a b:Tm} (h:Quiet Bc Br a b):Bc b=Bc a/\Br b=Br a:=by
 refine S.st a b h.va h.vb λx hx=>?_
 obtain ⟨o,o1,o2⟩:=h.n x hx;exact OZ (S.ok.p _ h.va _ hx).dp h.va h.vb h.le o1 o2
theorem TX {a b:Tm} (ha:Va a) (hb:Va b) (h:∀ q,Fj a q=Fj b q):Quiet Bc Br a b:=by
 refine ⟨ha,hb,λh'=>Ik hb.cut hb.cut ((iS h).1 h') ((iS h).1 h'),λx hx=>?_⟩;obtain ⟨r,_,r2,_⟩:=DK (S.ok.p _ ha _ hx) ha;refine ⟨r,r2,λu hu=>?_⟩;subst hu;obtain ⟨q,q1,q2⟩:=r2.2.2.1;exact ⟨q,by rw [<-h]; exact q1,q2⟩
theorem IU {t:Rat} {a:Tm} {E:List Tm} (hE:Evs Bc t a E):∀ {b:Tm} {E':List Tm},Quiet Bc Br a b->Evs Bc t b E'->E.length=E'.length:=by
 induction hE with
 |
  @nil a h =>
  intro b E' hq hE';have hs:=(Quiet.same S hq).1;cases hE' with
  | nil _=>rfl
  |
   cons he h1 h2 h3 h4 h5 =>
   exfalso;obtain ⟨x,hx,hx2⟩:=h4;rw [hs] at hx;obtain ⟨o,o1,o2⟩:=h x hx;obtain ⟨o',o1',o2'⟩:=hq.n x hx;cases o with
   |
    none =>
    cases o' with
    | none=>exact P6 hq.vb hx2 (Oc hq.va.cut hq.vb.cut hq.le o1' o2')
    | some u=>exact P6 hq.va o1' o1
   |
    some u =>
    cases o' with
    | none=>exact P6 hq.va o1 o1'
    |
     some u' =>
     have e1:=QP hq.va o1 o1';have e2:=QP hq.vb (Oc hq.va.cut hq.vb.cut hq.le o1' o2') hx2;obtain ⟨q,q1,q2⟩:=o2 u rfl;exact h2 ⟨q,q1,by rw [<-e2,<-e1]; exact q2⟩
 |
  @cons a e E he h1 h2 h3 h4 h5 ih =>
  intro b E' hq hE';have hs:=(Quiet.same S hq).1;have nx:∀ x∈Bc a,∀ u,Pg x.p a (some u)->Mb b u/\Pg x.p b (some u):=λx hx u hu=>by
   obtain ⟨o',o1',o2'⟩:=hq.n x hx;cases o' with
   | none=>exact (P6 hq.va hu o1').elim
   |
    some u' =>
    have e1:=QP hq.va o1' hu;have hb':=o2' u' rfl;have hb2:Mb b u:=by obtain ⟨q,q1,q2⟩:=hb'; exact ⟨q,q1,by rw [<-e1]; exact q2⟩
    exact ⟨hb2,Oc hq.va.cut hq.vb.cut hq.le hu λv hv=>by injection hv with hv; subst hv; exact hb2⟩
  obtain ⟨x0,hx0,hn0⟩:=h4;obtain ⟨hb0,hnb0⟩:=nx x0 hx0 e hn0;cases hE' with
  |
   nil h' =>
   exfalso;obtain ⟨o,o1,o2⟩:=h' x0 (by rw [hs]; exact hx0);cases o with
   | none=>exact P6 hq.vb hnb0 o1
   |
    some u =>
    have e1:=QP hq.vb o1 hnb0;obtain ⟨q,q1,q2⟩:=o2 u rfl;exact h2 ⟨q,q1,by rw [<-e1]; exact q2⟩
  |
   @cons _ e' E'' he' h1' h2' h3' h4' h5' =>
   obtain ⟨x1,hx1,hn1⟩:=h4';rw [hs] at hx1;have a1:¬Mb e' e:=λhlt=>by
    obtain ⟨o,o1,o2⟩:=h3 x1 hx1;cases o with
    |
     none =>
     obtain ⟨o',o1',o2'⟩:=hq.n x1 hx1;cases o' with
     | none=>exact P6 hq.vb hn1 (Oc hq.va.cut hq.vb.cut hq.le o1' o2')
     | some u=>exact P6 hq.va o1' o1
    |
     some u =>
     have e2:=QP hq.vb (nx x1 hx1 u o1).2 hn1;exact o2 u rfl ((JV e2).2 hlt)
   have a2:¬Mb e e':=λhlt=>by
    obtain ⟨o,o1,o2⟩:=h3' x0 (by rw [hs]; exact hx0);cases o with
    | none=>exact P6 hq.vb hnb0 o1
    |
     some u =>
     have e2:=QP hq.vb o1 hnb0;exact o2 u rfl ((JV e2).2 hlt)
   have:=ih (TX S he he' (cZ he.cut he'.cut a2 a1)) h5';simp [this]
theorem Qts {t:Rat} {a:Tm} (ha:Va a) {E E':List Tm} (h:Evs Bc t a E) (h':Evs Bc t a E'):E.length=E'.length:=IU S h (TX S ha ha λ_=>rfl) h'
theorem Qnj {t1 t2:Rat} (h12:t1<=t2) (ht:Va (tq t1)) {a:Tm} {E1:List Tm} (h:Evs Bc t1 a E1):∀ {E2 E:List Tm},Va a->¬Mb (tq t1) a->Evs Bc t2 (tq t1) E2->Evs Bc t2 a E->E.length=E1.length+E2.length:=by
 have lt12:∀ {u:Tm},Mb (tq t2) u->Mb (tq t1) u:=λ⟨q,q1,q2⟩=>⟨q,by
  rw [EY] at q1 ⊢;rcases Ty t1 q with ⟨e,h⟩ | ⟨e,h⟩ | ⟨e,h⟩ <;> rcases Ty t2 q with ⟨e',h'⟩ | ⟨e',h'⟩ | ⟨e',h'⟩ <;> grind,q2⟩
 induction h with
 |
  @nil a h =>
  intro E2 E ha hle h2 h';have:=IU S h' ⟨ha,ht,hle,h⟩ h2;simp [this]
 |
  @cons a e E1 he b1 b2 b3 b4 b5 ih =>
  intro E2 E ha hle h2 h';obtain ⟨x0,hx0,hn0⟩:=b4;cases h' with
  |
   nil g =>
   exfalso;obtain ⟨o,o1,o2⟩:=g x0 hx0;cases o with
   | none=>exact P6 ha hn0 o1
   |
    some u =>
    have e1:=QP ha o1 hn0;obtain ⟨q,q1,q2⟩:=lt12 (o2 u rfl);exact b2 ⟨q,q1,by rw [<-e1]; exact q2⟩
  |
   @cons _ e' E'' he' c1 c2 c3 c4 c5 =>
   obtain ⟨x1,hx1,hn1⟩:=c4;have a1:¬Mb e' e:=λhlt=>by
    obtain ⟨o,o1,o2⟩:=b3 x1 hx1;cases o with
    | none=>exact P6 ha hn1 o1
    | some u=>exact o2 u rfl ((JV (QP ha o1 hn1)).2 hlt)
   have a2:¬Mb e e':=λhlt=>by
    obtain ⟨o,o1,o2⟩:=c3 x0 hx0;cases o with
    | none=>exact P6 ha hn0 o1
    | some u=>exact o2 u rfl ((JV (QP ha o1 hn0)).2 hlt)
   have eq:=cZ he'.cut he.cut a1 a2;have hE:∃ E3,Evs Bc t2 e E3/\E3.length=E''.length:=by
    have hs:=(Quiet.same S (TX S he' he eq)).1;cases c5 with
    | nil g=>exact ⟨[],.nil λx hx=>by
     rw [hs] at hx;obtain ⟨o,o1,o2⟩:=g x hx;exact ⟨o,jS eq o1,o2⟩,rfl⟩
    |
     @cons _ f F hf d1 d2 d3 d4 d5 =>
     refine ⟨f::F,.cons hf ((JV eq).1 d1) d2 (λx hx=>?_) ?_ d5,rfl⟩
     ·rw [hs] at hx;obtain ⟨o,o1,o2⟩:=d3 x hx;exact ⟨o,jS eq o1,o2⟩
     ·obtain ⟨x,hx,hxn⟩:=d4;exact ⟨x,by rw [hs]; exact hx,jS eq hxn⟩
   obtain ⟨E3,h3,h4⟩:=hE;have:=ih he b2 h2 h3;simp only [Q7];omega
end
theorem Qpo {p:Uk} (h:Cp p):(EJ p).length<=67:=by
 obtain ⟨l,l1,l2,_⟩:=JU h;unfold EJ; rw [l1]; exact l2
theorem yB:∀ {Ps:Ul},(∀ p∈Ps,Cp p)->(Ps.flatMap EJ).length≤67*Ps.length
 | [],_=>Qh _
 |
  p::Ps,h=>by
  have h1:=Qpo (h p (by simp));have h2:=yB (Ps:=Ps) λq hq=>h q (Qg _ hq)
  rw [Jz,Qy,Q7]; omega
theorem Qq8 (T:List Tm) (a:Tm):mu T a<=T.length:=Yx _ _
theorem Qc2 {β:Type} {Bc:Tm->List Ct} {Br:Tm->β} (S:Stab Bc Br) {Ps:Ul} (hP:∀ p∈Ps,Cp p) (hPs:∀ a,Va a->∀ x∈Bc a,x.p∈Ps) (hl:Ps.length≤1000000) {t:Rat} (ht:Qs 1640000 t) {c:Cr} {r:β} (hS:KSt Bc Br c r) (h:Fj c.now t≤0) :
 ∃ (K:Nat) (c':Cr) (E:List Tm),K<=67000001/\UR Bc Br t K c r 0=some (c',Br (tq t),((E.length:Nat):Int))/\c'.now=tq t/\KSt Bc Br c' (Br (tq t))/\c'.ev=c.ev+((E.length:Nat):Int)/\E.length<=67000000/\Evs Bc t c.now E:=by
 have hm:=yB hP;have hmu:=Qq8 (Ps.flatMap EJ) c.now;have hv:=hS.inv.ok.n;obtain ⟨c',r',E,g1,g2,g3,g4,g5,g6⟩:=Qgw S ht hP hPs (mu (Ps.flatMap EJ) c.now) c r 0 (Ql _) hS λh'=>by
  have:=(ZT hv.cut).2 h'; omega
 have hr:r'=Br (tq t):=by rw [g3.r,g2]
 rw [hr] at g1 g3;rw [Int.zero_add] at g1;exact ⟨_,c',E,by omega,g1,g2,g3,g4,by omega,g6⟩
theorem Qde {β:Type} {Bc:Tm->List Ct} {Br:Tm->β} (S:Stab Bc Br) {a:Tm} (ha:Va a):KSt Bc Br ⟨a,(Fq (Bc a)).map fresh,0⟩ (Br a):=by
 refine ⟨⟨⟨ha,λw hw=>?_,?_⟩,λw hw hk=>?_⟩,?_,rfl⟩
 ·obtain ⟨x,hx,rfl⟩:=Q8.1 hw;exact ⟨S.ok.p _ ha x (Rw hx),λt ht=>by cases ht⟩
 ·show ((Fq (Bc a)).map fresh).length<=1000;rw [Q6,Ml]; exact S.ok.n _ ha
 ·obtain ⟨x,hx,rfl⟩:=Q8.1 hw;cases hk
 ·show ((Fq (Bc a)).map fresh).map (·.c)=Fq (Bc a);rw [List.map_map];show (Fq (Bc a)).map (λx=>x)=_;rw [List.map_id']
end Orq
namespace Orr
open Go Go.Proofs Tryz Orq
set_option maxRecDepth 10000
theorem Qfp {a b:Pt} (ha:Sc a.c) (hb:Sc b.c):Cp (Ak a b):=JO (M4 ha hb) (M3 ha hb)
def ZH (l:List Pt) (a:Tm):List Ct:=Ss (Fp a) (Ts a l)
abbrev brS (l:List Pt) (a:Tm):Uq:=Uy (Ts a l)
theorem rQ {sg:Uk->Int}:∀ {l:List Pt},(∀ p∈l,Sc p.c)->∀ x∈Ss sg l,Cp x.p
 | [],_,x,hx=>by cases hx
 | [_],_,x,hx=>by cases hx
 |
  a::b::l,h,x,hx=>by
  simp only [Ss] at hx;rcases Qm.1 hx with rfl | hx
  ·exact Qfp (h a (by simp)) (h b (by simp))
  ·exact rQ (λp hp=>h p (Qg _ hp)) x hx
theorem Hm {t:Tm} {l:List Pt} {p:Pt}:p∈Ts t l↔p∈l:=by
 unfold Ts Ly; rw [KY]; simp
theorem Nh (t:Tm) (l:List Pt):(Ts t l).length=l.length:=qL _ _
theorem tO {l:List Pt} (hl:∀ p∈l,Sc p.c) (hn:l.length≤1000):BuildOk (ZH l) :=
 ⟨λa _ x hx=>rQ (λp hp=>hl p (Hm.1 hp)) x hx,λa _=>by unfold ZH; rw [Bn,Nh]; omega⟩
theorem AP {l:List Pt} {a:Tm} {c:Cr} {r1:Uq} (hl:∀ p∈l,Sc p.c) (hn:l.length≤1000) (ha:Va a):U5 prog 195 [.one (.ow 0 0),.agg (ta a)] [.blk 220 (Hr c (Uy l) r1)] [.one (.row (U6 (ZH l a)))] [.blk 220 (Hr c (Uy l) (brS l a))]:=by
 have cr:=kX hl (by omega) ha;have cc:=NB (l:=Ts a l) (t:=a) (λp hp=>hl p (Hm.1 hp)) (by rw [Nh]; omega) ha;refine Fw func195 rfl ?_;exact Uf [] [0] [.k If,.k cr,.k cc] rfl
theorem Qaf {l:List Pt} {a:Tm} (hl:∀ p∈l,Sc p.c) (hn:l.length≤1000) (ha:Va a):U5 prog 195 [.one (.ow 0 0),.agg (ta a)] [.blk 220 (pZ (.row (Uy l)) .nils)] [.one (.row (U6 (ZH l a)))] [.blk 220 (pZ (.row (Uy l)) (.row (brS l a)))]:=by
 have cr:=kX hl (by omega) ha;have cc:=NB (l:=Ts a l) (t:=a) (λp hp=>hl p (Hm.1 hp)) (by rw [Nh]; omega) ha;refine Fw func195 rfl ?_;exact Uf [] [0] [.k If,.k cr,.k cc] rfl
def Qwf (l:List Pt) (a:Tm):Cr:=⟨a,(Fq (ZH l a)).map fresh,0⟩
end Orr
namespace Orq
open Orr Go
theorem XQ {a:Tm} (ha:Va a):∀ (L:Ul),(∀ p∈L,Dp p)->∃ y,Fj a y=-1/\∀ q,Fj a q=-1->q≤y->∀ p∈L,Hg (Fp a) p=Fc (U7 p q)
 |
  [],_=>by
  obtain ⟨y,hy⟩:=ha.cut.hi;exact ⟨y,hy,λq _ _ p hp=>by cases hp⟩
 |
  p::L,h=>by
  obtain ⟨y,y1,y2⟩:=XQ ha L (λq hq=>h q (Qg _ hq));by_cases h0:p.length=0
  ·obtain rfl:=Qj h0;refine ⟨y,y1,λq q1 q2 r hr=>?_⟩;rcases Qm.1 hr with rfl | hr
   ·rw [ZO]; exact (Gj.2 rfl).symm
   ·exact y2 q q1 q2 r hr
  ·obtain ⟨⟨z,z1,z2⟩,_⟩:=Ea ha (h p (by simp)) h0;refine ⟨if y<=z then y else z,by split <;> assumption,λq q1 q2 r hr=>?_⟩;rcases Qm.1 hr with rfl | hr
   ·rw [<-U8]; exact (z2 q q1 (by grind)).symm
   ·exact y2 q q1 (by grind) r hr
section Srt
variable {α:Type} {lt:α->α->Bool} {R:α->α->Prop}
theorem qK (irr:∀ x,¬R x x) (tr:∀ x y z,R x y->R y z->R x z):∀ {l m:List α},l.Pairwise R->m.Pairwise R->(∀ x,x∈l↔x∈m)->l=m
 | [],[],_,_,_=>rfl
 | [],y::m,_,_,h=>by have:=(h y).2 (by simp); cases this
 | x::l,[],_,_,h=>by have:=(h x).1 (by simp); cases this
 |
  x::l,y::m,hl,hm,h=>by
  rw [Ze] at hl hm;have e:x=y:=by
   rcases Qm.1 ((h x).1 (by simp)) with e | h1
   ·exact e
   ·rcases Qm.1 ((h y).2 (by simp)) with e | h2
    ·exact e.symm
    ·exact absurd (tr _ _ _ (hl.1 y h2) (hm.1 x h1)) (irr x)
  subst e;rw [qK irr tr hl.2 hm.2 λz=>?_];constructor
  ·intro hz;rcases Qm.1 ((h z).1 (Qg _ hz)) with e | h1
   ·subst e; exact absurd (hl.1 z hz) (irr z)
   ·exact h1
  ·intro hz;rcases Qm.1 ((h z).2 (Qg _ hz)) with e | h1
   ·subst e; exact absurd (hm.1 z hz) (irr z)
   ·exact h1
theorem qQ {out:List α} {x:α}:∀ k,k<=out.length->(∀ j y,Lp lt out x k<=j->j<k->out[j]? = some y->lt x y=true)/\(0<Lp lt out x k->∃ y,out[Lp lt out x k-1]? = some y/\lt x y=false)
 | 0,_=>⟨λj y _ h=>by omega,λh=>by simp [Lp] at h⟩
 |
  k+1,hk=>by
  obtain ⟨y,hy⟩:=gxE (l:=out) (i:=k) (by omega);by_cases h:lt x y=true
  ·rw [aN hy h];obtain ⟨h1,h2⟩:=qQ (out:=out) (x:=x) k (by omega);refine ⟨λj z a1 a2 a3=>?_,h2⟩;by_cases e:j=k
   ·subst e; rw [hy] at a3; injection a3 with a3; subst a3; exact h
   ·exact h1 j z a1 (by omega) a3
  ·have h:lt x y=false:=by simpa using h
   rw [gZ hy h];exact ⟨λj z a1 a2 _=>by omega,λ_=>⟨y,by simpa using hy,h⟩⟩
theorem Qnr (tr:∀ x y z,R x y->R y z->R x z) {out:List α} {x:α} (ho:out.Pairwise R) (h1:∀ y∈out,lt x y=true->R x y) (h2:∀ y∈out,lt x y=false->R y x):(Ll lt out x).Pairwise R:=by
 obtain ⟨s1,s2⟩:=qQ (lt:=lt) (out:=out) (x:=x) out.length (Ql _);have hle:=yQ lt out x out.length;unfold Ll;obtain ⟨k,hk⟩:=nmE (Lp lt out x out.length);rw [<-hk] at s1 s2 hle ⊢;have hd:(out.take k++out.drop k).Pairwise R:=by rw [Zi]; exact ho
 obtain ⟨d1,d2,d3⟩:=Jl.1 hd;have hR:∀ y∈out.drop k,R x y:=λy hy=>by
  obtain ⟨i,hi⟩:=Xt hy;rw [Xb] at hi;have:k+i<out.length:=(Qf.1 hi).1;exact h1 y (Q3 hy) (s1 (k+i) y (by omega) this hi)
 have hL:∀ y∈out.take k,R y x:=λy hy=>by
  obtain ⟨i,hi⟩:=Xt hy;have hik:i<k:=by have:=(Qf.1 hi).1; simp at this; omega
  rw [Kf hik] at hi;obtain ⟨z,z1,z2⟩:=s2 (by omega);have hz:=h2 z (Qa z1) z2;by_cases e:i=k-1
  ·subst e; rw [hi] at z1; injection z1 with z1; subst z1; exact hz
  ·have hp:=Ka.1 ho i (k-1) (by omega) (by omega) (by omega);obtain ⟨_,e1⟩:=Qf.1 hi;obtain ⟨_,e2⟩:=Qf.1 z1;rw [e1,e2] at hp;exact tr _ _ _ hp hz
 refine Jl.2 ⟨d1,Ze.2 ⟨hR,d2⟩,λy hy z hz=>?_⟩;rcases Qm.1 hz with rfl | hz
 ·exact hL y hy
 ·exact d3 y hy z hz
theorem CW (tr:∀ x y z,R x y->R y z->R x z) {S:α->Prop} (h1:∀ x y,S x->S y->lt x y=true->R x y) {D:α->α->Prop} (h2:∀ x y,S x->S y->D y x->lt x y=false->R y x) :
 ∀ (l acc:List α),acc.Pairwise R->(∀ x∈acc,S x)->(∀ x∈l,S x)->l.Pairwise D->(∀ x∈acc,∀ y∈l,D x y)->(l.foldl (Ll lt) acc).Pairwise R
 | [],acc,ha,_,_,_,_=>ha
 |
  x::l,acc,ha,hs,hl,hd,hx=>by
  rw [Ze] at hd;refine CW tr h1 h2 l (Ll lt acc x) ?_ ?_ (λy hy=>hl y (Qg _ hy)) hd.2 ?_
  ·exact Qnr tr ha (λy hy=>h1 x y (hl x (by simp)) (hs y hy)) (λy hy=>h2 x y (hl x (by simp)) (hs y hy) (hx y hy x (by simp)))
  ·intro y hy;rcases UM.1 hy with rfl | hy
   ·exact hl _ (by simp)
   ·exact hs y hy
  ·intro y hy z hz;rcases UM.1 hy with rfl | hy
   ·exact hd.1 z hz
   ·exact hx y hy z (Qg _ hz)
theorem qV:∀ {l:List α},l.Pairwise R->∀ {u v:α},u∈l->v∈l->u≠v->R u v\/R v u
 | [],_,_,_,h,_,_=>by cases h
 |
  x::l,hp,u,v,hu,hv,hne=>by
  rw [Ze] at hp;rcases Qm.1 hu with e | hu
  ·rcases Qm.1 hv with e' | hv
   ·exact absurd (e.trans e'.symm) hne
   ·rw [e]; exact .inl (hp.1 v hv)
  ·rcases Qm.1 hv with e' | hv
   ·rw [e']; exact .inr (hp.1 u hu)
   ·exact qV hp.2 hu hv hne
end Srt
def px (p:Pt) (q:Rat):Rat:=U7 p.c.x q / (p.c.d:Rat)
def py (p:Pt) (q:Rat):Rat:=U7 p.c.y q / (p.c.d:Rat)
def Cv (q:Rat) (x y:Pt):Prop:=px x q<px y q\/px x q=px y q/\(py x q<py y q\/py x q=py y q/\x.id<y.id)
theorem XG (q:Rat) (x:Pt):¬Cv q x x:=by unfold Cv; grind
theorem YK (q:Rat) (x y z:Pt) (h:Cv q x y) (h':Cv q y z):Cv q x z:=by unfold Cv at *; grind
theorem uN {q:Rat} {x y:Pt} (h:x.id≠y.id) (h':¬Cv q x y):Cv q y x:=by unfold Cv at *; grind
theorem qC {u v:Rat} {c d:Int} (hc:0<c) (hd:0<d):Fc (v*(c:Rat)-u*(d:Rat))=Fc (v / (d:Rat)-u / (c:Rat)):=by
 have hc':(0:Rat)<(c:Rat):=by exact_mod_cast hc
 have hd':(0:Rat)<(d:Rat):=by exact_mod_cast hd
 have e:v*(c:Rat)-u*(d:Rat)=((c:Rat)*(d:Rat))*(v / (d:Rat)-u / (c:Rat)):=by
  rw [Jn,Jn];have h1:=Ws (c:Rat) (by grind);have h2:=Ws (d:Rat) (by grind);grind
 rw [e,Cm (Xp hc' hd')]
theorem TQ {x y:Pt} (hx:Sc x.c) (hy:Sc y.c) (q:Rat):Fc (U7 (Gh x.c y.c) q)=Fc (px y q-px x q):=by
 unfold Gh px; rw [Nb,Rj,Rj]; exact qC hx.n.2.2.1 hy.n.2.2.1
theorem RO {x y:Pt} (hx:Sc x.c) (hy:Sc y.c) (q:Rat):Fc (U7 (Gg x.c y.c) q)=Fc (py y q-py x q):=by
 unfold Gg py; rw [Nb,Rj,Rj]; exact qC hx.n.2.2.1 hy.n.2.2.1
theorem NR {a:Tm} (ha:Va a) {x y:Pt} (hx:Sc x.c) (hy:Sc y.c) {q:Rat} (h1:Hg (Fp a) (Gh x.c y.c)=Fc (U7 (Gh x.c y.c) q)) (h2:Hg (Fp a) (Gg x.c y.c)=Fc (U7 (Gg x.c y.c) q)):Tn (Fp a) x y=true↔Cv q x y:=by
 rw [TQ hx hy] at h1;rw [RO hx hy] at h2;have d1:=(M4 hx hy).dp;have d2:=(M3 hx hy).dp;unfold Tn;simp only [Lo];have t1:=Fu (px y q-px x q);have t2:=Fu (py y q-py x q);by_cases e1:(Gh x.c y.c).length=0
 ·rw [if_neg (by omega)];rw [Qj e1,ZO] at h1;have:px x q=px y q:=by grind
  by_cases e2:(Gg x.c y.c).length=0
  ·rw [if_neg (by omega)];rw [Qj e2,ZO] at h2;unfold Cv;simp only [decide_eq_true_eq];grind
  ·rw [if_pos (by omega)];have:=(Ea ha d2 e2).2;unfold Cv;simp only [decide_eq_true_eq];grind
 ·rw [if_pos (by omega)];have:=(Ea ha d1 e1).2;unfold Cv;simp only [decide_eq_true_eq];grind
def Ew (l:List Pt):Ul:=l.flatMap λx=>l.flatMap λy=>[Gh x.c y.c,Gg x.c y.c]
theorem Tx {l:List Pt} {x y:Pt} (hx:x∈l) (hy:y∈l):Gh x.c y.c∈Ew l/\Gg x.c y.c∈Ew l :=
 ⟨Zo.2 ⟨x,hx,Zo.2 ⟨y,hy,by simp⟩⟩,Zo.2 ⟨x,hx,Zo.2 ⟨y,hy,by simp⟩⟩⟩
theorem O2 {l:List Pt} (hl:∀ p∈l,Sc p.c):∀ p∈Ew l,Cp p:=λp hp=>by
 obtain ⟨x,hx,hp⟩:=Zo.1 hp;obtain ⟨y,hy,hp⟩:=Zo.1 hp;simp at hp;rcases hp with rfl | rfl
 ·exact M4 (hl x hx) (hl y hy)
 ·exact M3 (hl x hx) (hl y hy)
theorem iV {l:List Pt} (hl:∀ p∈l,Sc p.c) (hd:l.Pairwise λx y=>x.id≠y.id) {a:Tm} (ha:Va a):∃ y,Fj a y=-1/\∀ q,Fj a q=-1->q≤y->(∀ u∈l,∀ v∈l,(Tn (Fp a) u v=true↔Cv q u v))/\(Ts a l).Pairwise (Cv q):=by
 obtain ⟨y,y1,y2⟩:=XQ ha (Ew l) λp hp=>(O2 hl p hp).dp
 refine ⟨y,y1,λq q1 q2=>?_⟩;have h:=y2 q q1 q2;have hb:∀ u∈l,∀ v∈l,(Tn (Fp a) u v=true↔Cv q u v):=λu hu v hv=>NR ha (hl u hu) (hl v hv) (h _ (Tx hu hv).1) (h _ (Tx hu hv).2)
 refine ⟨hb,?_⟩;exact CW (S:=λx=>x∈l) (D:=λx y=>x.id≠y.id) (YK q) (λu v hu hv h=>(hb u hu v hv).1 h) (λu v hu hv hne h=>uN (λe=>hne e.symm) λh'=>by
  rw [(hb u hu v hv).2 h'] at h; cases h) l [] .nil (λx hx=>by cases hx) (λx hx=>hx) hd (λx hx=>by cases hx)
theorem mA {a b:Tm} {x y:Pt} (h:Hg (Fp b) (Ak x y)=Hg (Fp a) (Ak x y)):Tn (Fp b) x y=Tn (Fp a) x y:=by
 unfold Ak Lk at h;unfold Tn;simp only [Lo];by_cases e1:0<(Gh x.c y.c).length
 ·rw [if_pos e1,if_pos e1]; rw [if_pos e1] at h; rw [h]
 ·rw [if_neg e1,if_neg e1]; rw [if_neg e1] at h; rw [h]
theorem BK {a b:Tm} {q r:Rat}:∀ (l:List Pt),(∀ u∈l,∀ v∈l,(Tn (Fp a) u v=true↔Cv q u v))->(∀ u∈l,∀ v∈l,(Tn (Fp b) u v=true↔Cv r u v))->l.Pairwise (Cv q)->(∀ x∈Ss (Fp a) l,Hg (Fp b) x.p=Hg (Fp a) x.p)->l.Pairwise (Cv r)/\Ss (Fp b) l=Ss (Fp a) l
 | [],_,_,_,_=>⟨.nil,rfl⟩
 | [x],_,_,_,_=>⟨Kl _ _,rfl⟩
 |
  x::y::l,ha,hb,hp,hc=>by
  rw [Ze] at hp;obtain ⟨i1,i2⟩:=BK (a:=a) (b:=b) (q:=q) (r:=r) (y::l) (λu hu v hv=>ha u (Qg _ hu) v (Qg _ hv)) (λu hu v hv=>hb u (Qg _ hu) v (Qg _ hv)) hp.2 (λz hz=>hc z (by simp only [Ss]; exact Qg _ hz));have h0:Hg (Fp b) (Ak x y)=Hg (Fp a) (Ak x y):=hc (QT (Fp a) x y) (by simp [Ss]);have h1:Cv r x y:=(hb x (by simp) y (by simp)).1 (by rw [mA h0]; exact (ha x (by simp) y (by simp)).2 (hp.1 y (by simp)));refine ⟨Ze.2 ⟨λz hz=>?_,i1⟩,?_⟩
  ·rcases Qm.1 hz with rfl | hz
   ·exact h1
   ·exact YK r x y z h1 ((Ze.1 i1).1 z hz)
  ·simp only [Ss];rw [i2]; congr 1;unfold QT; rw [h0]
theorem RE {sg:Uk->Int}:∀ {l:List Pt},∀ x∈Ss sg l,∃ u∈l,∃ v∈l,x.p=Ak u v
 | [],x,hx=>by cases hx
 | [_],x,hx=>by cases hx
 |
  a::b::l,x,hx=>by
  simp only [Ss] at hx;rcases Qm.1 hx with rfl | hx
  ·exact ⟨a,by simp,b,by simp,rfl⟩
  ·obtain ⟨u,hu,v,hv,e⟩:=RE (l:=b::l) x hx;exact ⟨u,Qg _ hu,v,Qg _ hv,e⟩
theorem OD {l:List Pt} {u v:Pt} (hu:u∈l) (hv:v∈l):Ak u v∈Ew l:=by
 unfold Ak Lk; split
 ·exact (Tx hu hv).1
 ·exact (Tx hu hv).2
theorem cM {l:List Pt} {a:Tm}:∀ x∈ZH l a,x.p∈Ew l:=λx hx=>by
 obtain ⟨u,hu,v,hv,e⟩:=RE x hx;rw [e]; exact OD (Hm.1 hu) (Hm.1 hv)
theorem Qc6 (l:List Pt):(Ew l).length=l.length*(l.length*2):=by
 have h1:∀ (x:Pt) (m:List Pt),(m.flatMap λy=>[Gh x.c y.c,Gg x.c y.c]).length=m.length*2:=λx m=>by
  induction m with
  | nil=>rfl
  | cons y m ih=>rw [Jz,Qy,ih,Q7]; simp; omega
 have h2:∀ m:List Pt,(m.flatMap λx=>l.flatMap λy=>[Gh x.c y.c,Gg x.c y.c]).length=m.length*(l.length*2):=λm=>by
  induction m with
  | nil=>simp
  | cons y m ih=>rw [Jz,Qy,ih,Q7,h1,X2,Wn,Ju]
 exact h2 l
theorem rJ {l:List Pt} (hl:∀ p∈l,Sc p.c) (hd:l.Pairwise λx y=>x.id≠y.id) {a b:Tm} (ha:Va a) (hb:Va b) (h:∀ x∈ZH l a,Hg (Fp b) x.p=Hg (Fp a) x.p):Ts b l=Ts a l/\ZH l b=ZH l a:=by
 obtain ⟨q,q1,q2⟩:=iV hl hd ha;obtain ⟨r,r1,r2⟩:=iV hl hd hb;obtain ⟨a1,a2⟩:=q2 q q1 Qp;obtain ⟨b1,b2⟩:=r2 r r1 Qp;obtain ⟨c1,c2⟩:=BK (a:=a) (b:=b) (Ts a l) (λu hu v hv=>a1 u (Hm.1 hu) v (Hm.1 hv)) (λu hu v hv=>b1 u (Hm.1 hu) v (Hm.1 hv)) a2 h;have e:Ts b l=Ts a l:=qK (XG r) (YK r) b2 c1 λx=>by rw [Hm,Hm]
 exact ⟨e,by unfold ZH; rw [e,c2]⟩
theorem Qx2 {l:List Pt} (hl:∀ p∈l,Sc p.c) (hn:l.length≤1000) (hd:l.Pairwise λx y=>x.id≠y.id):Stab (ZH l) (brS l):=by
 refine ⟨tO hl hn,⟨Ew l,O2 hl,λa _ x hx=>?_⟩,λa b ha hb h=>?_⟩
 ·obtain ⟨u,hu,v,hv,e⟩:=RE x hx;rw [e]; exact OD (Hm.1 hu) (Hm.1 hv)
 ·obtain ⟨e1,e2⟩:=rJ hl hd ha hb h;exact ⟨e2,by unfold brS; rw [e1]⟩
end Orq
namespace Orq
theorem ang {ux uy vx vy wx wy:Rat} (hu:0<ux\/ux=0/\0<uy) (hv:0<vx\/vx=0/\0<vy) (hw:0<wx\/wx=0/\0<wy)
 (h1:0<=ux*vy-vx*uy) (h2:0<=vx*wy-wx*vy):0<=ux*wy-wx*uy/\(0<ux*vy-vx*uy\/0<vx*wy-wx*vy->0<ux*wy-wx*uy):=by
 have ux0:0<=ux:=by grind
 have wx0:0<=wx:=by grind
 rcases hv with hv | ⟨hv,hv2⟩
 ·have e:vx*(ux*wy-wx*uy)=ux*(vx*wy-wx*vy)+wx*(ux*vy-vx*uy):=by grind
  have hux:0<ux:=by
   rcases hu with h | ⟨h,h'⟩
   ·exact h
   ·have:=Xp hv h';rw [h] at h1; grind
  have p1:=Y7 ux0 h2;have p2:=Y7 wx0 h1;have key:∀ z:Rat,vx*z=ux*(vx*wy-wx*vy)+wx*(ux*vy-vx*uy)->0<=z:=λz hz=>by
   refine V5.1 λhn=>?_
   have:=Xp hv (show 0 < -z by grind);grind
  refine ⟨key _ e,λhs=>?_⟩;rcases hw with hw | ⟨hw,hw2⟩
  ·have hpos:0<vx*(ux*wy-wx*uy):=by
    rcases hs with hs | hs
    ·have:=Xp hw hs; grind
    ·have:=Xp hux hs; grind
   have h0:=key _ e;refine Js.1 λhn=>?_
   have:ux*wy-wx*uy=0:=by grind
   rw [this] at hpos; grind
  ·have:=Xp hux hw2;rw [hw]; grind
 ·rw [hv] at h1 h2;have hw0:wx=0:=by
   rcases hw with hw | hw
   ·have:=Xp hw hv2; grind
   ·exact hw.1
  have hwy:0<wy:=by grind
  have p:=Y7 ux0 (Qr hwy);refine ⟨by rw [hw0]; grind,λhs=>?_⟩;rw [hv,hw0] at hs;have hux:0<ux:=by
   rcases hs with hs | hs
   ·refine Js.1 λhn=>?_
    have:ux=0:=by grind
    rw [this] at hs; grind
   ·grind
  have:=Xp hux hwy;rw [hw0]; grind
section
variable {α:Type} (X Y:α->Rat)
def lx (a b:α):Prop:=X a<X b\/X a=X b/\Y a<Y b
def Nx (a b c:α):Rat:=(X b-X a)*(Y c-Y a)-(X c-X a)*(Y b-Y a)
variable {X Y}
theorem Lm (a:α):¬lx X Y a a:=by unfold lx; grind
theorem uL {a b c:α} (h:lx X Y a b) (h':lx X Y b c):lx X Y a c:=by unfold lx at *; grind
theorem Ln {a b:α} (h:lx X Y a b):0<X b-X a\/X b-X a=0/\0<Y b-Y a:=by unfold lx at h; grind
theorem FZ (a b:α):Nx X Y a b a=0/\Nx X Y a b b=0:=by unfold Nx; grind
theorem fG (a b c:α):Nx X Y a c b=- Nx X Y a b c:=by unfold Nx; grind
theorem jC (a b c:α):Nx X Y a b c=(X b-X a)*(Y c-Y b)-(X c-X b)*(Y b-Y a):=by unfold Nx; grind
def Edg (Q:α->α->Prop):List α->Prop
 | a::b::r=>Q a b/\Edg Q (b::r)
 | _=>True
def Cnv (R:α->α->α->Prop):List α->Prop
 | a::b::c::r=>R a b c/\Cnv R (b::c::r)
 | _=>True
theorem Edg.tail {Q:α->α->Prop} {a:α} {l:List α} (h:Edg Q (a::l)):Edg Q l:=by
 cases l with
 | nil=>trivial
 | cons b l=>exact h.2
theorem Cnv.tail {R:α->α->α->Prop} {a:α} {l:List α} (h:Cnv R (a::l)):Cnv R l:=by
 match l,h with
 | [],_=>trivial
 | [_],_=>trivial
 | b::c::l,h=>exact h.2
def Lc (s:α->α->α->Bool) (c:α):List α->List α
 | b::a::r=>if s a b c=true then b::a::r else Lc s c (a::r)
 | l=>l
def Pp (s:α->α->α->Bool):List α->List α->List α
 | acc,[]=>acc
 | acc,c::l=>Pp s (c::Lc s c acc) l
structure Stk (X Y:α->Rat) (P:List α) (st:List α):Prop where
 srt:st.Pairwise λb a=>lx X Y a b
 mem:∀ p∈st,p∈P
 edg:Edg (λb a=>∀ p∈P,0≤Nx X Y a b p) st
 cnv:Cnv (λc b a=>0<Nx X Y a b c) st
theorem Stk.tail {P:List α} {a:α} {st:List α} (h:Stk X Y P (a::st)):Stk X Y P st:=⟨(Ze.1 h.srt).2,λp hp=>h.mem p (Qg _ hp),h.edg.tail,h.cnv.tail⟩
theorem Qig {P:List α} {s:α->α->α->Bool} {c:α} (hs:∀ a∈P,∀ b∈P,(s a b c=true↔0<Nx X Y a b c)) (hc:∀ p∈P,lx X Y p c) :
 ∀ (st:List α) (t:α),Stk X Y P (t::st)->(∀ p∈P,lx X Y t p->0≤Nx X Y t c p) ->
 ∃ t' st',Lc s c (t::st)=t'::st'/\Stk X Y P (t'::st')/\(∀ p∈P,lx X Y t' p->0≤Nx X Y t' c p)/\(∀ a r,st'=a::r->0<Nx X Y a t' c)/\(t'::st').getLast? = (t::st).getLast?
 | [],t,h,h2=>⟨t,[],rfl,h,h2,λa r e=>(by cases e),rfl⟩
 |
  a::r,t,h,h2=>by
  have ht:=h.mem t (by simp);have ha:=h.mem a (by simp);by_cases e:s a t c=true
  ·refine ⟨t,a::r,by simp only [Lc]; rw [if_pos e],h,h2,λa' r' e'=>?_,rfl⟩;injection e' with e1 _
   rw [<-e1]; exact (hs a ha t ht).1 e
  ·have hle:Nx X Y a t c<=0:=V5.1 λh'=>e ((hs a ha t ht).2 h')
   have hat:lx X Y a t:=(Ze.1 h.srt).1 a (by simp);obtain ⟨t',st',g1,g2,g3,g4,g5⟩:=Qig hs hc r a h.tail λp hp hap=>by
    have e1:=h.edg.1 p hp;have k:=ang (Ln (hc a ha)) (Ln hat) (Ln hap) (by rw [fG] at *; unfold Nx at *; grind) (by unfold Nx at *; grind);unfold Nx; grind
   exact ⟨t',st',by simp only [Lc]; rw [if_neg e]; exact g1,g2,g3,g4,by rw [g5]; rfl⟩
theorem IF {P:List α} {c:α}:∀ (st:List α) (t:α),Stk X Y P (t::st)->lx X Y t c->(∀ a r,st=a::r->0<Nx X Y a t c)->Edg (λb a=>0<Nx X Y a b c) (t::st)
 | [],_,_,_,_=>trivial
 | [a],t,_,_,h=>⟨h a [] rfl,trivial⟩
 |
  a::q::r,t,hS,htc,h=>by
  have h1:=h a (q::r) rfl;have h0:0<Nx X Y q a t:=hS.cnv.1;have p1:=Ze.1 hS.srt;have p2:=Ze.1 p1.2;have hat:lx X Y a t:=p1.1 a (by simp);have hqa:lx X Y q a:=p2.1 q (by simp);refine ⟨h1,IF (q::r) a hS.tail (uL hat htc) λa' r' e=>?_⟩;injection e with e _;rw [<-e];rw [jC] at h0 h1 ⊢;have k:=(ang (Ln hqa) (Ln hat) (Ln htc) (Qr h0) (Qr h1)).2 (.inl h0);grind
theorem Qoq {P:List α} {t:α} {st:List α} {c:α} (h:Stk X Y P (t::st)) (hc:∀ p∈P,lx X Y p c) (hP:∀ p∈P,p=t\/lx X Y p t\/lx X Y t p) (hb:∀ p∈P,(t::st).getLast? = some p\/∃ b,(t::st).getLast? = some b/\lx X Y b p) (h2:∀ p∈P,lx X Y t p->0≤Nx X Y t c p) (h3:∀ a r,st=a::r->0<Nx X Y a t c):Stk X Y (P++[c]) (c::t::st):=by
 have ht:=h.mem t (by simp);have htc:=hc t ht;have hf:=IF st t h htc h3;refine ⟨Ze.2 ⟨λp hp=>hc p (h.mem p hp),h.srt⟩,λp hp=>?_,⟨λp hp=>?_,?_⟩,?_⟩
 ·rcases Qm.1 hp with rfl | hp
  ·simp
  ·exact X8 _ (h.mem p hp)
 ·rcases Qq.1 hp with hp | hp
  ·rcases hP p hp with rfl | hpt | htp
   ·rw [(FZ p c).1]; exact Qp
   ·cases st with
    |
     nil =>
     exfalso;rcases hb p hp with e | ⟨b,e,hb⟩
     ·injection e with e; subst e; exact Lm _ hpt
     ·injection e with e; subst e; exact Lm _ (uL hpt hb)
    |
     cons a r =>
     have e1:=h.edg.1 p hp;have h3:=h3 a r rfl;have hat:lx X Y a t:=(Ze.1 h.srt).1 a (by simp);have k:=(ang (Ln hpt) (Ln hat) (Ln htc) (by unfold Nx at *; grind) (by unfold Nx at *; grind)).1;unfold Nx; grind
   ·exact h2 p hp htp
  ·rw [Qk.1 hp,(FZ t c).2]; exact Qp
 ·cases st with
  | nil=>trivial
  |
   cons a r =>
   have key:∀ l:List α,Edg (λb a=>∀ p∈P,0≤Nx X Y a b p) l->Edg (λb a=>0<Nx X Y a b c) l->Edg (λb a=>∀ p∈P++[c],0≤Nx X Y a b p) l:=by
    intro l
    induction l with
    | nil=>intros; trivial
    |
     cons x l ih =>
     cases l with
     | nil=>intros; trivial
     |
      cons y l =>
      intro k1 k2;refine ⟨λp hp=>?_,ih k1.2 k2.2⟩;rcases Qq.1 hp with hp | hp
      ·exact k1.1 p hp
      ·rw [Qk.1 hp]; exact Qr k2.1
   exact key _ h.edg hf
 ·cases st with
  | nil=>trivial
  | cons a r=>exact ⟨h3 a r rfl,h.cnv⟩
theorem AE {s:α->α->α->Bool} {row:List α} (hs:∀ a∈row,∀ b∈row,∀ c∈row,(s a b c=true↔0<Nx X Y a b c)) (hrow:row.Pairwise (lx X Y)) :
 ∀ (l P:List α) (t:α) (st:List α),row=P++l->Stk X Y P (t::st)->P.getLast? = some t->(t::st).getLast? = P.head? ->
 ∃ t' st',Pp s (t::st) l=t'::st'/\Stk X Y row (t'::st')/\row.getLast? = some t'/\(t'::st').getLast? = row.head?
 |
  [],P,t,st,e,h,h1,h2=>by
  rw [Zw] at e; subst e;exact ⟨t,st,rfl,h,h1,h2⟩
 |
  c::l,P,t,st,e,h,h1,h2=>by
  have hPm:∀ p∈P,p∈row:=λp hp=>by rw [e]; exact X8 _ hp
  have hcm:c∈row:=by rw [e]; simp
  have hpw:=hrow;rw [e] at hpw;obtain ⟨w1,w2,w3⟩:=Jl.1 hpw;have hc:∀ p∈P,lx X Y p c:=λp hp=>w3 p hp c (by simp)
  have htop:∀ p∈P,p=t\/lx X Y p t:=λp hp=>by
   obtain ⟨P1,rfl⟩:∃ P1,P=P1++[t]:=by
    have:=Y6.1 h1;exact this
   rcases Qq.1 hp with hp | hp
   ·exact .inr ((Jl.1 w1).2.2 p hp t (by simp))
   ·exact .inl (Qk.1 hp)
  obtain ⟨t',st',g1,g2,g3,g4,g5⟩:=Qig (λa ha b hb=>hs a (hPm a ha) b (hPm b hb) c hcm) hc st t h λp hp htp=>by
   rcases htop p hp with rfl | h'
   ·exact absurd htp (Lm _)
   ·exact absurd (uL htp h') (Lm _)
  have tot:∀ p∈P,p=t'\/lx X Y p t'\/lx X Y t' p:=λp hp=>by
   obtain ⟨i,hi,rfl⟩:=V0.1 hp;obtain ⟨j,hj,e2⟩:=V0.1 (g2.mem t' (by simp));rcases Km i j with h' | h' | h'
   ·exact .inr (.inl (by rw [<-e2]; exact Ka.1 w1 i j hi hj h'))
   ·subst h'; exact .inl e2
   ·exact .inr (.inr (by rw [<-e2]; exact Ka.1 w1 j i hj hi h'))
  have hPne:P≠[]:=λh'=>by rw [h'] at h1; cases h1
  have hb:∀ p∈P,(t'::st').getLast? = some p\/∃ b,(t'::st').getLast? = some b/\lx X Y b p:=λp hp=>by
   rw [g5,h2];cases P with
   | nil=>exact absurd rfl hPne
   |
    cons f P' =>
    rcases Qm.1 hp with rfl | hp
    ·exact .inl rfl
    ·exact .inr ⟨f,rfl,(Ze.1 w1).1 p hp⟩
  have hpush:=Qoq g2 hc tot hb g3 g4;obtain ⟨t2,st2,k1,k2,k3,k4⟩:=AE hs hrow l (P++[c]) c (t'::st') (by rw [e]; simp) hpush (by simp) (by
   rw [Jy,g5,h2];cases P with
   | nil=>exact absurd rfl hPne
   | cons f P'=>rfl)
  exact ⟨t2,st2,by simp only [Pp]; rw [g1]; exact k1,k2,k3,k4⟩
theorem Qfj {P:List α} (tot:∀ p∈P,∀ q∈P,p=q\/lx X Y p q\/lx X Y q p) {z:α} :
 ∀ (L L':List α) (f:α),(f::L).Pairwise (lx X Y)->(f::L').Pairwise (lx X Y)->(∀ p∈f::L,p∈P)->(∀ p∈f::L',p∈P) ->
 Edg (λa b=>∀ p∈P,0≤Nx X Y a b p) (f::L)->Edg (λa b=>∀ p∈P,0≤Nx X Y a b p) (f::L') ->
 Cnv (λa b c=>0<Nx X Y a b c) (f::L)->Cnv (λa b c=>0<Nx X Y a b c) (f::L')->(f::L).getLast? = some z->(f::L').getLast? = some z->L=L':=by
 have one:∀ (L L':List α) (f b b':α),(f::b::L).Pairwise (lx X Y)->(f::b'::L').Pairwise (lx X Y)->(∀ p∈f::b::L,p∈P)->b'∈P ->
  Edg (λa b=>∀ p∈P,0≤Nx X Y a b p) (f::b::L)->0≤Nx X Y f b' b->Cnv (λa b c=>0<Nx X Y a b c) (f::b::L)->(f::b::L).getLast? = some z->(f::b'::L').getLast? = some z->¬lx X Y b b':=by
  intro L L' f b b' s s' m m' e e' c l l' hlt;have s1:=Ze.1 s;have hfb:lx X Y f b:=s1.1 b (by simp);have hcol:Nx X Y f b b'=0:=by
   have:=e.1 b' m';rw [fG] at e'; grind
  cases L with
  |
   nil =>
   simp at l;subst l;have hz:b'=b\/lx X Y b' b:=by
    have:b∈f::b'::L':=V1 l';have s2:=(Ze.1 s').2;rcases Qm.1 this with rfl | h
    ·exact absurd hfb (Lm _)
    ·rcases Qm.1 h with h | h
     ·exact .inl h.symm
     ·exact .inr ((Ze.1 s2).1 b h)
   rcases hz with rfl | hz
   ·exact Lm _ hlt
   ·exact Lm _ (uL hlt hz)
  |
   cons d M =>
   have h1:0<Nx X Y f b d:=c.1;have h2:=e.2.1 b' m';have s2:=Ze.1 s1.2;have hbd:lx X Y b d:=s2.1 d (by simp);have k:=(ang (Ln hlt) (Ln hfb) (Ln hbd) (by unfold Nx at hcol; grind) (by rw [jC] at h1; exact Rat.le_of_lt h1)).2 (.inr (by rw [jC] at h1; exact h1));unfold Nx at h2; grind
 intro L
 induction L with
 |
  nil =>
  intro L' f s s' m m' e e' c c' l l';simp at l;cases L' with
  | nil=>rfl
  |
   cons b' M' =>
   exfalso;subst l;have h1:=(Ze.1 s').1 f (by
    rw [Jy] at l';exact V1 l')
   exact Lm _ h1
 |
  cons b M ih =>
  intro L' f s s' m m' e e' c c' l l';cases L' with
  |
   nil =>
   exfalso;simp at l';subst l';have h1:=(Ze.1 s).1 f (by
    rw [Jy] at l;exact V1 l)
   exact Lm _ h1
  |
   cons b' M' =>
   have hb:=m b (by simp);have hb':=m' b' (by simp);have heq:b=b':=by
    rcases tot b hb b' hb' with h | h | h
    ·exact h
    ·exact absurd h (one M M' f b b' s s' m hb' e (e'.1 b hb) c l l')
    ·exact absurd h (one M' M f b' b s' s m' hb e' (e.1 b' hb') c' l' l)
   subst heq;rw [Jy] at l l';rw [ih M' b (Ze.1 s).2 (Ze.1 s').2 (λp hp=>m p (Qg _ hp)) (λp hp=>m' p (Qg _ hp)) e.2 e'.2 c.tail c'.tail l l']
end
end Orq
namespace Orr
open Go
structure RawInt where
 b:Bool
 l:List Nat
structure RawPt where
 x:List RawInt
 y:List RawInt
 d:RawInt
 id:Int
abbrev Ip (z:RawInt):Up:=[.bool z.b,Qzx z.l]
structure RawInt.Ok (z:RawInt):Prop where
 u:∀ u∈z.l,u<4294967296
structure RawPt.Ok (z:RawPt):Prop where
 x:∀ a∈z.x,a.Ok
 y:∀ a∈z.y,a.Ok
 d:z.d.Ok
 id:-9223372036854775808<=z.id/\z.id<=9223372036854775807
def Hy (most:Int) (z:RawInt):Int:=match z.l with
 | []=>0
 | u::_=>if z.b=true then -((u:Int) % (most+1)) else (u:Int) % (most+1)
theorem KG {most:Int} (h:0<=most) (z:RawInt):-most<=Hy most z/\Hy most z<=most:=by
 unfold Hy
 split
 ·omega
 ·rename_i u _ _;have h1:=Vi (u:Int) (b:=most+1) (by omega);have h2:=Yu (u:Int) (b:=most+1) (by omega)
  split <;> omega
def Gi (most:Int) (l:List RawInt):Uk:=(l.take 3).map (Hy most)
def Qnw (most:Int) (x y:List RawInt) (d:RawInt):Crv:=⟨Gi most x,Gi most y,Hy 3 d⟩
theorem SY (most:Int) (l:List RawInt):(Gi most l).length<=3:=by unfold Gi; rw [List.length_map,List.length_take]; omega
theorem jV {most:Int} {l:List RawInt} {i:Nat} {z:RawInt} (hi:i<3) (h:l[i]? = some z):Gi most (l.take (i+1))=Gi most (l.take i)++[Hy most z]:=by
 unfold Gi;rw [List.take_take,List.take_take,V3 (by omega),V3 (by omega),Zv,h];simp
theorem SJ (most:Int) {l:List RawInt} {i:Nat} (h:l.length<=i\/3<=i):Gi most (l.take i)=Gi most l:=by
 unfold Gi;rw [List.take_take];rcases Nat.le_total 3 i with h3 | h3
 ·rw [Zy h3]
 ·rcases h with h | h
  ·rw [V3 h3,Qn (l:=l) (i:=i) (by omega),Qn (l:=l) (i:=3) (by omega)]
  ·rw [V3 h3,show i=3 by omega]
theorem SV {most:Int} {l:List RawInt} {z:Int} (hm:0<=most) (h:z∈Gi most l):-most<=z/\z<=most:=by
 obtain ⟨a,_,rfl⟩:=Q8.1 h;exact KG hm a
theorem Qaw {most:Int} (hm:0<=most/\most<=999) (x y:List RawInt) (d:RawInt):Cs 10 3 (Qnw most x y d):=by
 have key:∀ z:Int,-999<=z/\z<=999->Fe z<=10:=λz h=>Sj.2 (by omega)
 refine ⟨λz hz=>?_,λz hz=>?_,?_,SY _ _,SY _ _⟩
 ·have:=SV hm.1 hz; exact key _ (by omega)
 ·have:=SV hm.1 hz; exact key _ (by omega)
 ·have:=KG (most:=3) (by decide) d;show Fe (Hy 3 d)<=10;exact key _ (by omega)
end Orr
namespace Orr
def PG (l:List Pt):Prop:=l.Pairwise λa b=>a.id<b.id
theorem Qgz (p:Pt) (l:List Pt) (id:Int):has (p::l) id=if p.id<id then has l id else decide (p.id=id):=by
 by_cases h:p.id<id
 ·rw [if_pos h]; unfold has; simp only [Im]; rw [if_pos h]; simp
 ·rw [if_neg h]; unfold has; simp only [Im]; rw [if_neg h]; simp
theorem Qil (p:Pt) (l:List Pt) (q:Pt):put (p::l) q=if p.id<q.id then p::put l q else q::p::l:=by
 unfold put;simp only [Im]
 split <;> simp
theorem LG:∀ {l:List Pt} {q:Pt},PG l->has l q.id=false->PG (put l q)
 | [],q,_,_=>by simp [put,Im,PG]
 |
  p::l,q,h,hn=>by
  have h1:=Ze.1 h;rw [Qgz] at hn;rw [Qil]
  split
  ·rename_i hlt;rw [if_pos hlt] at hn;refine Ze.2 ⟨λx hx=>?_,LG h1.2 hn⟩;rcases MS hx with rfl | hx
   ·exact hlt
   ·exact h1.1 x hx
  ·rename_i hge;rw [if_neg hge,decide_eq_false_iff_not] at hn;refine Ze.2 ⟨λx hx=>?_,h⟩;rcases Qm.1 hx with rfl | hx
   ·omega
   ·have:=h1.1 x hx; omega
end Orr
namespace Orr
open Go
section
variable {α:Type} {lt:α->α->Bool}
theorem Qbg (out:List α) (c:α):(Ll lt out c).Perm (c::out):=by
 unfold Ll;exact (List.perm_middle).trans (by rw [Zi])
theorem CV:∀ (l acc:List α),(l.foldl (Ll lt) acc).Perm (l++acc)
 | [],acc=>List.Perm.refl _
 |
  c::l,acc=>by
  simp only [Z8];exact (CV l _).trans (((Qbg acc c).append_left l).trans List.perm_middle)
theorem bG (l:List α):(Ly lt l).Perm l:=by
 have:=CV (lt:=lt) l [];rwa [Zw] at this
end
end Orr
namespace Orr
open Go
theorem Qgn (c:Int) (l:Uk):Ru (l.map (· * c))=Ru l*c.natAbs:=by
 have key:∀ (l:Uk) (g:Nat),(l.map (· * c)).foldl (λg z=>Nat.gcd g z.natAbs) (g*c.natAbs)=l.foldl (λg z=>Nat.gcd g z.natAbs) g*c.natAbs:=by
  intro l
  induction l with
  | nil=>intro g; rfl
  |
   cons z l ih =>
   intro g;simp only [Z0,Z8,J6,Nat.gcd_mul_right];exact ih _
 have:=key l 0;rwa [Yh] at this
end Orr
namespace Orr
def So (a b:Crv):Uk:=ZK (Gk (Gh a b) (Gh a b)) (Gk (Gg a b) (Gg a b))
def Hl (a b c d:Crv):Uk:=Mx (Ft (So c d) ((a.d*b.d)*(a.d*b.d))) (Ft (So a b) ((c.d*d.d)*(c.d*d.d)))
theorem fN {a b:Crv} (ha:Cb a) (hb:Cb b):U9 (So a b)/\(So a b).length<=31/\Bd 4194312 (So a b):=by
 obtain ⟨_,l1,b1⟩:=fB ha hb;obtain ⟨_,l2,b2⟩:=fM ha hb;have m1:=S0 (Gh a b) (Gh a b);have m2:=S0 (Gg a b) (Gg a b);have q1:=Md (u:=5) b1 b1 (by omega);have q2:=Md (u:=5) b2 b2 (by omega);refine ⟨Fv _ _,?_,U0 (WR q1 q2) (by omega)⟩;have:=XW (Gk (Gh a b) (Gh a b)) (Gk (Gg a b) (Gg a b));unfold So;omega
theorem mX {a b:Crv} (ha:Cb a) (hb:Cb b):Fe (a.d*b.d)<=2097152:=by
 have:=Ga a.d b.d; have:=ha.d; have:=hb.d; omega
theorem lE {a b:Crv} (ha:Cb a) (hb:Cb b):Fe ((a.d*b.d)*(a.d*b.d))<=4194304:=by
 have:=Ga (a.d*b.d) (a.d*b.d); have:=mX ha hb; omega
def Nv (sg:Uk->Int) (a b c d:Pt):Ct:=⟨5,a.id,b.id,c.id,d.id,Hl a.c b.c c.c d.c,Hg sg (Hl a.c b.c c.c d.c)⟩
theorem DY (sg:Uk->Int) (a b c d:Pt):(Nv sg a b c d).p=Hl a.c b.c c.c d.c:=by rw [Nv]
def Hz:Nat->List Pt->List (Pt×Pt)
 | 0,_=>[]
 | _+1,[]=>[]
 | k+1,x::l=>l.map (λy=>(x,y))++Hz k l
def Gm (l:List Pt):List (Pt×Pt):=Hz l.length l
theorem D9:∀ (l:List Pt) (i:Nat) (x:Pt),l[i]? = some x->Hz (i+1) l=Hz i l++(l.drop (i+1)).map (λy=>(x,y))
 | [],i,x,h=>by simp at h
 |
  y::l,0,x,h=>by
  simp at h; subst h;simp [Hz]
 |
  y::l,i+1,x,h=>by
  have h:l[i]? = some x:=by simpa using h
  have ih:=D9 l i x h;show l.map (λz=>(y,z))++Hz (i+1) l=(l.map (λz=>(y,z))++Hz i l)++_;rw [ih,Za];rfl
theorem Sl:∀ (k:Nat) (l:List Pt),∀ m∈Hz k l,m.1∈l/\m.2∈l
 | 0,l,m,h=>by simp [Hz] at h
 | k+1,[],m,h=>by simp [Hz] at h
 |
  k+1,x::l,m,h=>by
  rcases Qq.1 h with h | h
  ·obtain ⟨y,hy,rfl⟩:=Q8.1 h;exact ⟨Qx ..,Qg _ hy⟩
  ·obtain ⟨h1,h2⟩:=Sl k l m h;exact ⟨Qg _ h1,Qg _ h2⟩
theorem KN:∀ (k:Nat) (l:List Pt),(Hz k l).length<=k*l.length
 | 0,l=>by simp [Hz]
 | k+1,[]=>by simp [Hz]
 |
  k+1,x::l=>by
  have:=KN k l;simp only [Hz,Qy,Q6,Q7];have e:(k+1)*(l.length+1)=k*l.length+k+l.length+1:=by rw [X2,Xi]; omega
  omega
def Pq (sg:Uk->Int) (s m:Pt×Pt):Pt×Pt:=if Hg sg (Hl s.1.c s.2.c m.1.c m.2.c)<0 then m else s
def Hj (sg:Uk->Int) (s:Pt×Pt) (ps:List (Pt×Pt)):Pt×Pt:=ps.foldl (Pq sg) s
theorem RV (sg:Uk->Int) (s m:Pt×Pt):Pq sg s m=m\/Pq sg s m=s:=by
 unfold Pq
 split
 ·exact .inl rfl
 ·exact .inr rfl
theorem QS (sg:Uk->Int) (s m:Pt×Pt) (ps:List (Pt×Pt)):Hj sg s (m::ps)=Hj sg (Pq sg s m) ps:=by unfold Hj; rw [List.foldl_cons]
theorem jT (sg:Uk->Int) (s:Pt×Pt) (ps:List (Pt×Pt)) (m:Pt×Pt):Hj sg s (ps++[m])=Pq sg (Hj sg s ps) m:=by simp [Hj]
theorem D6 (sg:Uk->Int) {l:List Pt}:∀ (ps:List (Pt×Pt)) (s:Pt×Pt),s.1∈l/\s.2∈l->(∀ m∈ps,m.1∈l/\m.2∈l)->(Hj sg s ps).1∈l/\(Hj sg s ps).2∈l
 | [],s,hs,_=>hs
 |
  m::ps,s,hs,h=>by
  have hn:(Pq sg s m).1∈l/\(Pq sg s m).2∈l:=by
   rcases RV sg s m with e | e
   ·rw [e]; exact h m (Qx ..)
   ·rw [e]; exact hs
  rw [QS];exact D6 sg ps (Pq sg s m) hn λx hx=>h x (Qg _ hx)
def ZQ (s m:Pt×Pt):Bool:=decide (m.1.id≠s.1.id) || decide (m.2.id≠s.2.id)
def Mp (sg:Uk->Int) (s:Pt×Pt) (ps:List (Pt×Pt)):List Ct:=(ps.filter (ZQ s)).map λm=>Nv sg s.1 s.2 m.1 m.2
theorem Qna {sg:Uk->Int} {s m:Pt×Pt} {ps:List (Pt×Pt)} (h:ZQ s m=true):Mp sg s (ps++[m])=Mp sg s ps++[Nv sg s.1 s.2 m.1 m.2]:=by simp [Mp,Vk,h]
theorem Qm9 {sg:Uk->Int} {s m:Pt×Pt} {ps:List (Pt×Pt)} (h:ZQ s m=false):Mp sg s (ps++[m])=Mp sg s ps:=by simp [Mp,Vk,h]
theorem IQ {sg:Uk->Int} {s:Pt×Pt} {ps:List (Pt×Pt)} {c:Ct} (h:c∈Mp sg s ps):∃ x∈ps,Nv sg s.1 s.2 x.1 x.2=c:=by
 unfold Mp at h;obtain ⟨x,hx,e⟩:=Q8.1 h;exact ⟨x,(Ye.1 hx).1,e⟩
theorem AO (sg:Uk->Int) (s:Pt×Pt) (ps:List (Pt×Pt)):(Mp sg s ps).length<=ps.length:=by
 unfold Mp;rw [Q6];exact Yx _ _
def ZZ (sg:Uk->Int):List Pt->List Pt
 | a::b::l=>[(Hj sg (a,b) (Gm (a::b::l))).1,(Hj sg (a,b) (Gm (a::b::l))).2]
 | _=>[]
def D8 (sg:Uk->Int):List Pt->List Ct
 | a::b::l=>Mp sg (Hj sg (a,b) (Gm (a::b::l))) (Gm (a::b::l))
 | _=>[]
theorem Qbx (sg:Uk->Int) {l:List Pt} (h:l.length<2):ZZ sg l=[]/\D8 sg l=[]:=by
 match l,h with
 | [],_=>exact ⟨rfl,rfl⟩
 | [a],_=>exact ⟨rfl,rfl⟩
theorem Qvk {l:List Pt} (h:¬l.length<2):∃ a b m,l=a::b::m:=by
 match l,h with
 | [],h=>simp at h
 | [a],h=>simp at h
 | a::b::m,_=>exact ⟨a,b,m,rfl⟩
theorem OA (sg:Uk->Int) (l:List Pt):(D8 sg l).length<=l.length*l.length:=by
 match l with
 | []=>simp [D8]
 | [a]=>simp [D8]
 | a::b::m=>exact Qc (AO _ _ _) (KN _ _)
def A8 (l:List Ul):Uq:=l.map λr=>[.row (r.map λp=>[pl p])]
abbrev JQ (r:Ul):Uq:=r.map λp=>[pl p]
theorem YG (l:List Ul):(A8 l).length=l.length:=by simp [A8]
def XR (i:Nat) (rows:List Ul):Nat->List Ul
 | 0=>[]
 | j+1=>if j=i then XR i rows j else XR i rows j++[(rows.getD j []).drop 1]
def YO (rows:List Ul) (i:Nat):List Ul:=XR i rows rows.length
def C9 (f:Nat->Uk) (rows:List Ul):Nat->Uk
 | 0=>[]
 |
  i+1=>if ((rows.getD i []).getD 0 []).length=0 then C9 f rows i else
  if i % 2=0 then ZK (C9 f rows i) (Gk ((rows.getD i []).getD 0 []) (f i)) else Mx (C9 f rows i) (Gk ((rows.getD i []).getD 0 []) (f i))
def La:Nat->List Ul->Uk
 | 0,_=>[1]
 | k+1,rows=>C9 (λi=>La k (YO rows i)) rows (k+1)
structure Sq (s:Nat) (ds:List Nat) (k w:Nat) (rows:List (List (List Int))):Prop where
 l:rows.length=k
 w:∀ r∈rows,r.length=w
 t:∀ r∈rows,∀ p∈r,U9 p
 b:∀ r∈rows,∀ p∈r,Bd s p
 n:∀ r∈rows,∀ (j:Nat) (p:List Int),r[j]? = some p->p.length≤ds.getD j 0+1
theorem DJ {i:Nat} {rows:List Ul}:∀ {j:Nat} {r:Ul},j≤rows.length->r∈XR i rows j->∃ q∈rows,r=q.drop 1
 | 0,r,_,h=>by simp [XR] at h
 |
  j+1,r,hj,h=>by
  simp only [XR] at h
  split at h
  ·exact DJ (by omega) h
  ·rcases Qq.1 h with h | h
   ·exact DJ (by omega) h
   ·rw [Qk.1 h];exact ⟨rows.getD j [],Qa (i:=j) (by rw [Qi,Qe (by omega)]; rfl),rfl⟩
theorem DX {i:Nat} {rows:List Ul}:∀ (j:Nat),(XR i rows j).length=if i<j then j-1 else j
 | 0=>rfl
 |
  j+1=>by
  have ih:=DX (i:=i) (rows:=rows) j;simp only [XR]
  split
  ·rename_i e; subst e; rw [ih,if_neg (by omega),if_pos (by omega)]; omega
  ·rw [Qy,ih,Vs]
   split <;> split <;> omega
theorem Sq.min {s d k w:Nat} {ds:Um} {rows:List Ul} (h:Sq s (d::ds) (k+1) (w+1) rows) {i:Nat} (hi:i<k+1):Sq s ds k w (YO rows i):=by
 have hl:=h.l;have hm:∀ {r:Ul},r∈YO rows i->∃ q∈rows,r=q.drop 1:=λh=>DJ (Ql _) h
 refine ⟨by unfold YO; rw [DX,hl,if_pos hi]; omega,λr hr=>?_,λr hr p hp=>?_,λr hr p hp=>?_,λr hr j p hp=>?_⟩
 ·obtain ⟨q,hq,rfl⟩:=hm hr;rw [Zj,h.w q hq]; omega
 all_goals obtain ⟨q,hq,rfl⟩:=hm hr
 ·exact h.t q hq p (Q3 hp)
 ·exact h.b q hq p (Q3 hp)
 ·rw [Xb] at hp;have:=h.n q hq (1+j) p hp;rw [Ju 1 j] at this;exact this
theorem Sq.at {s d k w:Nat} {ds:Um} {rows:List Ul} (h:Sq s (d::ds) k (w+1) rows) {i:Nat} (hi:i<k):∃ p r,rows[i]? = some (p::r)/\(rows.getD i []).getD 0 []=p/\U9 p/\Bd s p/\p.length<=d+1:=by
 obtain ⟨r,hr⟩:=gxE (l:=rows) (i:=i) (by rw [h.l]; exact hi);have hm:=Qa hr;cases r with
 | nil=>have:=h.w _ hm; simp at this
 |
  cons p r =>
  have e:rows.getD i []=p::r:=by rw [Qi,hr]; rfl
  refine ⟨p,r,hr,by rw [e]; rfl,h.t _ hm p (by simp),h.b _ hm p (by simp),h.n _ hm 0 p rfl⟩
theorem xW {s d k w:Nat} {ds:Um} {f:Nat->Uk} {rows:List Ul} {B L:Nat} (h:Sq s (d::ds) k (w+1) rows) (hn:d<31) (hf:∀ i,i<k->Bd B (f i)/\(f i).length<=L+1):∀ i,i<=k->U9 (C9 f rows i)/\Bd (s+B+5+i) (C9 f rows i)/\(C9 f rows i).length<=d+L+1
 | 0,_=>⟨rfl,λz hz=>(by cases hz),Qh _⟩
 |
  i+1,hi=>by
  obtain ⟨h1,h2,h3⟩:=xW h hn hf i (by omega);obtain ⟨p,r,_,e,t,b,l⟩:=h.at (i:=i) (by omega);obtain ⟨f1,f2⟩:=hf i (by omega);have hp1:Bd (s+B+5) (Gk p (f i)):=Md b f1 (by omega);have hp2:=S0 p (f i);simp only [C9];rw [e]
  split
  ·exact ⟨h1,U0 h2 (by omega),h3⟩
  ·split
   ·exact ⟨Fv _ _,U0 (WR h2 hp1) (by omega),Qc (XW _ _) (by omega)⟩
   ·exact ⟨Fv _ _,U0 (De h2 hp1) (by omega),Qc (M8 _ _) (by omega)⟩
theorem MH {s:Nat}:∀ (k:Nat) (ds:Um) (rows:List Ul),k<=4->ds.length=k->ds.sum<31->Sq s ds k k rows->U9 (La k rows)/\Bd (k*(s+10)+1) (La k rows)/\(La k rows).length<=ds.sum+1
 | 0,ds,rows,_,_,_,_=>⟨rfl,λz hz=>(by simp [La] at hz; subst hz; rw [Yh]; decide),by simp [La]⟩
 | k+1,[],rows,_,hl,_,_=>by simp at hl
 |
  k+1,d::ds,rows,hk,hl,hd,h=>by
  rw [Ku] at hd;have ih:=λi (hi:i<k+1)=>MH k ds (YO rows i) (by omega) (by simpa using hl) (by omega) (h.min hi)
  obtain ⟨h1,h2,h3⟩:=xW (f:=λi=>La k (YO rows i)) (B:=k*(s+10)+1) (L:=ds.sum) h (by omega) (λi hi=>⟨(ih i hi).2.1,(ih i hi).2.2⟩) (k+1) (Ql _);have e1:(k+1)*(s+10)=k*(s+10)+(s+10):=Z9 ..;rw [Ku];exact ⟨h1,U0 h2 (by omega),h3⟩
def fH (a b c:Crv):List Ul:=[[a.x,a.y,[a.d]],[b.x,b.y,[b.d]],[c.x,c.y,[c.d]]]
def He (a b c:Crv):Uk:=La 3 (fH a b c)
end Orr
