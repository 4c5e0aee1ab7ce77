/- T24 T25 G1 G2 SortL KinL K1 K2 F6 F7 F8 F9 G3 G4 K3 K4 KGoL SplitL S1 SortQ HullG RawL NewsL BegL TurnL PairN DetL -/
import Derived.Test.YtbhhcpcpionelabGreatPart06
import Derived.Test.YtbhhcpcpionelabGreatPart00
import Derived.Test.YtbhhcpcpionelabGreatPart05
import Derived.Test.YtbhhcpcpionelabGreatPart04
set_option linter.all false
namespace Orq
open Orr Go
theorem Qf6:∀ {k:Nat} {a b:Ul} {l:Um},kR k a b=some l->∀ p∈l,p.length≠0
 | 0,_,_,_,h=>by cases h
 |
  k+1,a,b,l,h=>by
  simp only [kR] at h
  split at h
  ·injection h with h; subst h; exact λp hp=>by cases hp
  ·rename_i h0;obtain ⟨r,_,h⟩:=Qd.1 h;obtain ⟨l',h1,h⟩:=Qd.1 h;injection h with h; subst h;intro p hp;rcases Qm.1 hp with rfl | hp
   ·exact h0
   ·exact Qf6 h1 p hp
theorem Okp.pb {n s:Nat} {p:Ul} (h:Okp n s p) (hs:s<=16777216):Pb p:=⟨h.t,by have:=h.l; have:=h.z.1; omega,Ux h.b hs⟩
theorem Qbm {p:Ul} {q:Ul} {l:Um} (hp:Pb p) (h:Cq p=some (q::l)) (hq:q.length≠0):∀ r∈q::l,U6 r/\r.length≠0:=by
 have h1:=(Orr.chain_ok hp h).2;unfold Cq at h;obtain ⟨a,_,h⟩:=Qd.1 h
 split at h
 ·cases h
 ·obtain ⟨d,_,h⟩:=Qd.1 h;obtain ⟨l',h3,h⟩:=Qd.1 h;injection h with h;injection h with e1 e2;subst e1; subst e2;intro r hr;refine ⟨(h1 r hr).t,?_⟩;rcases Qm.1 hr with rfl | hr
  ·exact hq
  ·exact Qf6 h3 r hr
inductive RI (q:List Int) (L:List (List Rat)):Rat->List Tm->Rat->Prop
 | nil {lo hi:Rat} (h:lo<=hi) (hv:vv L lo=vv L hi):RI q L lo [] hi
 | cons {lo hi:Rat} {t:Tm} {l:List Tm} (h:lo<=t.lo) (hv:vv L lo=vv L t.lo) (ht:Vt (cz q) L t.lo t.hi) (hp:t.p=q) (hl:RI q L t.hi l hi):RI q L lo (t::l) hi
theorem RI.app {q:Ul} {L:Up} {lo m hi:Rat} {l l':List Tm} (h:RI q L lo l m) (h':RI q L m l' hi):RI q L lo (l++l') hi:=by
 induction h with
 |
  nil h hv =>
  cases h' with
  | nil h2 hv2=>exact .nil (by grind) (by omega)
  | cons h2 hv2 ht hp hl=>exact .cons (by grind) (by omega) ht hp hl
 | cons h hv ht hp _ ih=>exact .cons h hv ht hp (ih h')
theorem Qf9 {D M k:Nat} {m:Rat} (h:Gr D M k m) (hM:0<M) (hs:U9 (D:Int)+U9 (M:Int)+k<=16777216):chq m=some m:=by
 have:=OA h hM hs;unfold chq;rw [if_pos ⟨this.1,this.2⟩]
theorem MC {q:Ul} {c:Um} (hS:GB (cz q) (c.map cz)) (tq:U6 q) (nq:q.length<=9) (hc1:q.length<2->c=[q]) {D M F:Nat} (hM:0<M):∀ (k j:Nat) (lo hi:Rat),lo<hi->Gr D M j lo->Gr D M j hi->U9 (D:Int)+U9 (M:Int)+(j+k)<=16777216->(hi-lo)*((2^(Tp q q+1):Nat):Rat)<=((2^k:Nat):Rat) ->
 ∃ l,If q c (F+k+1) lo hi ((vv (c.map cz) lo:Int)-(vv (c.map cz) hi:Int))=some l/\RI q (c.map cz) lo l hi/\∀ t∈l,∃ k',k'≤j+k/\Gr D M k' t.lo/\Gr D M k' t.hi:=by
 intro k
 induction k with
 |
  zero =>
  intro j lo hi hl g1 g2 hs hK;have hle:=Ar hS hl;have h2:vv (c.map cz) lo<vv (c.map cz) hi+2:=by
   rcases Zd (vv (c.map cz) lo) (vv (c.map cz) hi+2) with h | h
   ·exact h
   ·exfalso;have lq:2<=q.length:=by
     rcases Zd q.length 2 with e | e
     ·have hvv:∀ x,vv (c.map cz) x=vv (c.map cz) 0:=λx=>by
       rcases hS with ⟨c0,hc0,hcc,hl'⟩ | ⟨g',l',k',hk,hg,hsc,hl'⟩
       ·rw [hl']; simp only [vv,tc,hcc]
       ·rw [hc1 e] at hl'; cases hl'
      rw [hvv lo,hvv hi] at h; omega
     ·exact e
    have:=Qqq hS tq nq lq hl h;rw [Vd] at hK;have h7:((1:Nat):Rat)=1:=rfl;rw [h7] at hK; grind
  simp only [If];by_cases e0:vv (c.map cz) lo=vv (c.map cz) hi
  ·rw [if_pos (by omega)];exact ⟨[],rfl,.nil (Qt hl) e0,λt ht=>by cases ht⟩
  ·rw [if_neg (by omega),if_pos (by omega)];refine ⟨[⟨q,lo,hi⟩],rfl,.cons Qp rfl ⟨hS,hl,by show vv _ lo=vv _ hi+1; omega⟩ rfl (.nil Qp rfl),λt ht=>?_⟩;rw [Qk.1 ht]; exact ⟨j,by omega,g1,g2⟩
 |
  succ k ih =>
  intro j lo hi hl g1 g2 hs hK;have hle:=Ar hS hl;show ∃ l,(if (vv (c.map cz) lo:Int)-(vv (c.map cz) hi:Int)=0 then some [] else if (vv (c.map cz) lo:Int)-(vv (c.map cz) hi:Int)=1 then some [⟨q,lo,hi⟩] else (chq (mid lo hi)).bind λm=>(If q c (F+k+1) lo m (Td c lo m)).bind λl=>(If q c (F+k+1) m hi ((vv (c.map cz) lo:Int)-(vv (c.map cz) hi:Int)-Td c lo m)).bind λr=>some (l++r))=some l/\_;by_cases e0:vv (c.map cz) lo=vv (c.map cz) hi
  ·rw [if_pos (by omega)];exact ⟨[],rfl,.nil (Qt hl) e0,λt ht=>by cases ht⟩
  by_cases e1:vv (c.map cz) lo=vv (c.map cz) hi+1
  ·rw [if_neg (by omega),if_pos (by omega)];refine ⟨[⟨q,lo,hi⟩],rfl,.cons Qp rfl ⟨hS,hl,e1⟩ rfl (.nil Qp rfl),λt ht=>?_⟩;rw [Qk.1 ht]; exact ⟨j,by omega,g1,g2⟩
  ·rw [if_neg (by omega),if_neg (by omega)];obtain ⟨m,hm⟩:=nmE ((lo+hi) / 2);have h2:(lo+hi) / 2*2=lo+hi:=G6 (by decide);rw [<-hm] at h2;have gm:Gr D M (j+1) m:=by rw [hm]; exact Qhu g1 g2
   have l1:lo<m:=by grind
   have l2:m<hi:=by grind
   rw [nD,<-hm,Qf9 gm hM (by omega)];show ∃ l,((If q c (F+k+1) lo m (Td c lo m)).bind λl=>(If q c (F+k+1) m hi ((vv (c.map cz) lo:Int)-(vv (c.map cz) hi:Int)-Td c lo m)).bind λr=>some (l++r))=some l/\_;rw [O5 (Qt l1),show (vv (c.map cz) lo:Int)-(vv (c.map cz) hi:Int)-((vv (c.map cz) lo:Int)-(vv (c.map cz) m:Int))=(vv (c.map cz) m:Int)-(vv (c.map cz) hi:Int) by omega];rw [rB k] at hK;have hp:∀ x y:Rat,(y-x)*2=hi-lo->(y-x)*((2^(Tp q q+1):Nat):Rat)<=((2^k:Nat):Rat):=λx y h=>by
    have:(y-x)*((2^(Tp q q+1):Nat):Rat)*2=(hi-lo)*((2^(Tp q q+1):Nat):Rat):=by rw [<-h]; grind
    grind
   obtain ⟨la,a1,a2,a3⟩:=ih (j+1) lo m l1 (OI g1) gm (by omega) (hp lo m (by grind));obtain ⟨lb,b1,b2,b3⟩:=ih (j+1) m hi l2 gm (OI g2) (by omega) (hp m hi (by grind));rw [a1];show ∃ l,((If q c (F+k+1) m hi ((vv (c.map cz) m:Int)-(vv (c.map cz) hi:Int))).bind λr=>some (la++r))=some l/\_;rw [b1];refine ⟨la++lb,rfl,a2.app b2,λt ht=>?_⟩;rcases Qq.1 ht with ht | ht
   ·obtain ⟨k',h1,h2,h3⟩:=a3 t ht; exact ⟨k',by omega,h2,h3⟩
   ·obtain ⟨k',h1,h2,h3⟩:=b3 t ht; exact ⟨k',by omega,h2,h3⟩
theorem Qu0 {D M k:Nat} {q:Rat} (h:Gr D M k q):Gr D M k (-q):=by
 obtain ⟨u,hu⟩:=h.u;exact ⟨⟨-u,by rw [Vn,<-hu]; grind⟩,by rw [Ec]; exact h.b,h.d⟩
theorem fD {m s:Nat} (h:m<2^s):U9 ((m+1:Nat):Int)<=s+1:=by
 rw [Sl,Xj,Zr]; omega
theorem Qcd {z:Int} {s:Nat} (h:U9 z<=s):U9 ((z.natAbs+1:Nat):Int)<=s+1:=fD (Sl.1 h)
theorem Qqf {x:Rat} {m s g N:Nat} (hx:x<=2*((m+1:Nat):Rat)) (hm:m+1<=2^s) (hN:s+1+g<=N):x*((2^g:Nat):Rat)<=((2^N:Nat):Rat):=by
 have h3:=Zn.2 hm;have e:=rB s;have h4:(0:Rat)<=((2^s:Nat):Rat):=Xl;have h1:x<=((2^(s+1):Nat):Rat):=by rw [e]; grind
 have h5:(0:Rat)<=((2^g:Nat):Rat):=Xl;refine Zk (Zf h1 h5) ?_;have h6:2^(s+1)*2^g<=2^N:=by
  rw [<-Xh]; exact Zs (by decide) hN
 have:=Zn.2 h6;rw [Rat.natCast_mul] at this;exact this
theorem Qma {s:Nat} {l:Ul} (h:Bd s l):most l<2^s:=by
 have key:∀ (l:Ul) (m:Nat),m<2^s->Bd s l->l.foldl (λm z=>if m<z.natAbs then z.natAbs else m) m<2^s:=by
  intro l
  induction l with
  | nil=>exact λm h _=>h
  |
   cons y l ih =>
   intro m hm hb;simp only [Z5];refine ih _ ?_ λz hz=>hb z (Qg _ hz)
   have:=hb y (Qy ..);rw [Sl] at this
   split <;> assumption
 exact key l 0 (Z1 (by decide)) h
theorem Qt7 {p q:Ul} (h:AX p=some q):q=p:=by
 unfold AX at h
 split at h
 ·injection h with h; exact h.symm
 ·cases h
theorem Qc4 {s N:Nat} {p:Ul} (hNe:N=63*s+5160) (hs9:s≤1180) (h:Okp 9 s p):∃ q c l,Sv p=some q/\Cq p=some c/\SN p=some l/\GB (cz q) (c.map cz)/\RI q (c.map cz) (-Gp q) l (Gp q)/\(∀ t∈l,Va t)/\(∀ x y,x<y->Gp q≤x\/y≤-Gp q->vv (c.map cz) x=vv (c.map cz) y)/\q.length≤p.length/\∀ t∈l,t.p=q/\t.lo<t.hi/\Bd (s+69) q/\∃ D M k,Gr D M k t.lo/\Gr D M k t.hi/\0<M/\U9 (D:Int)≤s+69/\U9 (M:Int)≤s+70/\k≤N:=by
 obtain ⟨pp,hpl,hpb⟩:=h.pr;obtain ⟨g,q',hq',sq⟩:=Ox h;obtain ⟨q,l,q1,q2,hS,hl0⟩:=chain_ok h;rw [hq'] at q1;injection q1 with q1;subst q1;have e1:∀ t,U3 (Fb p) t=U3 q' t*U3 g t:=λt=>by rw [sq.e]; grind
 obtain ⟨p1,p2⟩:=Ri pp.t pp.n e1;have hch:kR 66 q' (Fb (Gk q'))=some l:=by
  have h2:=q2;unfold Cq at h2;rw [hq'] at h2;simp only [Xy] at h2
  split at h2
  ·cases h2
  ·cases hd:AX (Gk q') with
   | none=>rw [hd] at h2; cases h2
   |
    some d =>
    rw [hd] at h2;simp only [Xy] at h2;obtain rfl:d=Gk q':=Qt7 hd;cases hc:kR 66 q' (Fb (Gk q')) with
    | none=>rw [hc] at h2; cases h2
    | some l'=>rw [hc] at h2; simp at h2; rw [h2]
 have hll:=Pw sq.pq.t sq.pg.t pp.t e1 p1 p2;have hl9:=h.l;have bq:Bd (s+69) q':=QU hpb (by omega) pp.t sq.pq.t sq.pg.t pp.n e1;have hall:=Qbm (h.pb (by omega)) q2 sq.pq.n;have hld:Fi q'≠0:=by have:=sq.pq.l; omega
 have hb1:=HZ hld;obtain ⟨D,hD⟩:=nmE ((Fi q').natAbs);obtain ⟨m,hm⟩:=nmE (most (q'.take (q'.length-1)));have hm2:m<2^(s+69):=by rw [hm]; exact Qma (s:=s+69) λz hz=>bq z (Qo hz)
 have hD0:0<D:=by omega
 have hDs:U9 (D:Int)<=s+69:=by
  have:=M3 bq;rw [Sl] at this ⊢;rw [Xj,hD]; exact this
 have hbe:=NC hld;rw [<-hD,<-hm] at hbe;have hDq:=nat_pos hD0;have hbm:Gp q'<=((m+1:Nat):Rat):=by
  have hD1:(1:Rat)<=(D:Rat):=by
   have:((1:Nat):Rat)<=(D:Rat):=Zn.2 hD0;exact this
  have hm0:(0:Rat)<=(m:Rat):=Xl;have h3:=B7 (a:=(m:Rat)) (c:=1) hm0 Qp (by decide) hD1;rcases Ga (Gp q') ((m+1:Nat):Rat) with h' | h'
  ·exact h'
  ·exfalso;have:=V0 h' hDq
   push_cast at this; grind
 have gb:Gr D (m+1) 0 (Gp q'):=by
  refine ⟨⟨(D+m:Nat),?_⟩,?_,hD0⟩
  ·rw [Vd,Yc,hbe];rw [show ((((D+m:Nat):Int)):Rat)=((D+m:Nat):Rat) from rfl]; push_cast; rfl
  ·have:Fc (Gp q')=Gp q':=by unfold Fc; rw [if_neg (by grind)]
   rw [this]; exact hbm
 have hMs:U9 ((m+1:Nat):Int)<=s+69+1:=fD (s:=s+69) hm2;have hK:(Gp q' - -Gp q')*((2^(Tp q' q'+1):Nat):Rat)<=((2^N:Nat):Rat):=by
  have hps:=Oo bq;have hg:Tp q' q'<=(2*s+164)*31:=by
   unfold Tp;exact Za (by omega) (by omega)
  exact Qqf (s:=s+69) (g:=Tp q' q'+1) (N:=N) (by grind) hm2 (by omega)
 have hN:U9 (D:Int)+U9 ((m+1:Nat):Int)+(0+N)<=16777216:=by omega
 obtain ⟨F,hFe⟩:=nmE (99999-N);obtain ⟨ls,r1,r2,r3⟩:=MC (F:=F) hS sq.pq.t (by omega) (λh=>by rw [hl0 h]) (W4 m) N 0 (-Gp q') (Gp q') (by grind) (Qu0 gb) gb hN hK;rw [show F+N+1=100000 by omega] at r1;have hchq:chq (Gp q')=some (Gp q'):=Qf9 gb (W4 m) (by omega);have key:∀ t∈ls,Va t/\t.p=q'/\t.lo<t.hi/\Bd (s+69) q'/\∃ D M k,Gr D M k t.lo/\Gr D M k t.hi/\0<M/\U9 (D:Int)≤s+69/\U9 (M:Int)≤s+70/\k≤N:=λt ht=>by
  obtain ⟨k',k1,k2,k3⟩:=r3 t ht;have hmem:∀ {lo hi:Rat} {ls:List Tm},RI q' ((q'::l).map cz) lo ls hi->t∈ls->Vt (cz q') ((q'::l).map cz) t.lo t.hi/\t.p=q':=λh=>by
   induction h with
   | nil=>intro ht; cases ht
   |
    cons h hv ht' hp hl ih =>
    intro ht;rcases Qm.1 ht with rfl | ht
    ·exact ⟨ht',hp⟩
    ·exact ih ht
  obtain ⟨v1,v2⟩:=hmem r2 ht;have lq2:2<=q'.length:=by
   rcases Zd q'.length 2 with e | e
   ·exfalso;have hvv:∀ x,vv ((q'::l).map cz) x=0:=λx=>by
     rw [hl0 e,sq.pq.one e];have hv1:∀ x:Rat,ev (cz [1]) x=1:=λx=>by rw [U4,Ng]
     simp only [Zz,Jb,vv,tc,hv1];have:U7 1=1:=by decide
     rw [this]; decide
    have:=v1.v;rw [hvv,hvv] at this; omega
   ·exact e
  exact ⟨⟨.inr ⟨_,by rw [v2]; exact v1⟩,by rw [v2]; exact sq.pq.t,by rw [v2]; omega,by rw [v2]; exact lq2,by rw [v2]; exact Ux bq (by omega),λ_=>by rw [v2]; exact Ux bq (by omega),λ_=>by rw [v2]; exact ⟨l,_,g,hch,sq,v1⟩,D,m+1,k',k2,k3,W4 m,Qc (show _<=1000000 by omega) (Qu4 t)⟩,v2,v1.l,bq,D,m+1,k',k2,k3,W4 m,hDs,Qc hMs (Ql (s+70)),by rw [Zy] at k1; exact k1⟩
 refine ⟨q',q'::l,ls,hq',q2,?_,hS,r2,λt ht=>(key t ht).1,λx y hxy hb=>dT hS sq.pq.t sq.pq.n hxy hb (by grind),by omega,λt ht=>(key t ht).2⟩
 ·unfold SN;rw [q2,hq'];show (chq (Gp q')).bind _=_;rw [hchq];simp only [Xy];rw [Qc3 hS hall];exact r1
theorem tV {s:Nat} {p:Ul} (hs9:s≤1180) (h:Okp 9 s p):∃ q c l,Sv p=some q/\Cq p=some c/\SN p=some l/\GB (cz q) (c.map cz)/\RI q (c.map cz) (-Gp q) l (Gp q)/\(∀ t∈l,Va t)/\(∀ x y,x<y->Gp q≤x\/y≤-Gp q->vv (c.map cz) x=vv (c.map cz) y)/\q.length≤p.length/\∀ t∈l,t.p=q/\t.lo<t.hi/\Bd (s+69) q/\∃ D M k,Gr D M k t.lo/\Gr D M k t.hi/\0<M/\U9 (D:Int)≤s+69/\U9 (M:Int)≤s+70/\k≤63*s+5160:=Qc4 rfl hs9 h
theorem Qj6 {p:Ul} (h:Okp 9 1180 p):∃ q c l,Sv p=some q/\Cq p=some c/\SN p=some l/\GB (cz q) (c.map cz)/\RI q (c.map cz) (-Gp q) l (Gp q)/\(∀ t∈l,Va t)/\(∀ x y,x<y->Gp q≤x\/y≤-Gp q->vv (c.map cz) x=vv (c.map cz) y):=by
 obtain ⟨q,c,l,h1,h2,h3,h4,h5,h6,h7,_⟩:=tV (Ql _) h;exact ⟨q,c,l,h1,h2,h3,h4,h5,h6,h7⟩
theorem Lx {q:Ul} {L:Up} (hS:GB (cz q) L) {c:Rat->Int} (hc:Cut c) {lo:Rat} (hH:∀ z,c z=-1->z<=lo->vv L z=vv L lo) {y0:Rat} (hy:c y0=-1) (hv:∀ z,lo<z->z<=y0->vv L z=vv L lo):∃ s,s≠0/\∀ z,c z=-1->z<=y0->U7 (ev (cz q) z)=s:=by
 have hall:∀ z,c z=-1->z<=y0->vv L z=vv L lo:=λz h1 h2=>by
  rcases Ga z lo with e | e
  ·exact hH z h1 e
  ·exact hv z e h2
 have hne:∀ z,c z=-1->z<=y0->U7 (ev (cz q) z)≠0:=λz h1 h2=>by
  obtain ⟨w,w1,w2⟩:=hc.dn z h1;have:=kY hS w1 (by rw [hall w w2 (by grind),hall z h1 h2]);rw [this.s]; exact this.n
 refine ⟨U7 (ev (cz q) y0),hne y0 hy Qp,λz h1 h2=>?_⟩;rcases Classical.em (z=y0) with e | e
 ·rw [e]
 ·have:=kY hS (x:=z) (y:=y0) (by grind) (by rw [hall z h1 h2,hall y0 hy Qp]);rw [this.s,Ad (hne z h1 h2)]
structure Fst (o:List Int) (a t:Tm):Prop where
 lt:Pu a t
 s:∃ s,s≠0/\(∀ z,Ff a z=-1->Ff t z=1->U7 (ev (cz o) z)=s)/\RS (cz o) (Ff t) (-s)
def Non (o:Ul) (a:Tm):Prop:=∃ s,s≠0/\∀ z,Ff a z=-1->U7 (ev (cz o) z)=s
theorem Qcm {q:Ul} {L:Up} (hS:GB (cz q) L) {a:Tm} (ha:Va a) {lo hi:Rat} {l:List Tm} (hR:RI q L lo l hi):(∀ t∈l,Va t)->(∀ z,hi<z->vv L z=vv L hi)->(∀ z,Ff a z=-1->z≤lo->vv L z=vv L lo)->∃ r,VS a l=some r/\match r with
 | none=>Non q a
 | some t=>t∈l/\Fst q a t:=by
 have ca:=ha.cut
 induction hR with
 |
  @nil lo hi h hv =>
  intro _ hhi hH;refine ⟨none,rfl,?_⟩;obtain ⟨y1,hy1⟩:=ca.hi;have hall:∀ z,lo<z->vv L z=vv L lo:=λz hz=>by
   rcases Ga z hi with e | e
   ·have h1:=Ar hS hz;have h2:vv L hi<=vv L z:=by
     rcases Classical.em (z=hi) with e' | e'
     ·rw [e']; exact Ql _
     ·exact Ar hS (by grind)
    omega
   ·rw [hhi z e,hv]
  obtain ⟨s,s0,hs⟩:=Lx hS ca hH hy1 λz h1 _=>hall z h1
  refine ⟨s,s0,λz hz=>?_⟩;rcases Ga z y1 with e | e
  ·exact hs z hz e
  ·obtain ⟨s',s0',hs'⟩:=Lx hS ca hH hz λz h1 _=>hall z h1
   rw [hs' z hz Qp,<-hs' y1 hy1 (Qt e),hs y1 hy1 Qp]
 |
  @cons lo hi t l h hv ht hp hl ih =>
  intro hV hhi hH;have hvt:=hV t (Qy ..);have ct:=hvt.cut;have ht':=ht;rw [<-hp] at ht';have ect:∀ z,Ff t z=cq (cz t.p) t.lo t.hi z:=Bv ht.l;obtain ⟨c,c1,c2⟩:=UJ hvt ha;show ∃ r,((UX t a).bind λc=>if 0<c then some (some t) else VS a l)=some r/\_;rw [c1];show ∃ r,(if 0<c then some (some t) else VS a l)=some r/\_;have hlo1:Ff t t.lo=1:=by rw [ect]; exact Ew Qp
  have hlow:∀ z,lo<z->Ff t z=1->vv L z=vv L lo:=λz h1 h2=>by
   rcases Ga z t.lo with e | e
   ·have a1:=Ar hS h1;have a2:vv L t.lo<=vv L z:=by
     rcases Classical.em (z=t.lo) with e' | e'
     ·rw [e']; exact Ql _
     ·exact Ar hS (by grind)
    omega
   ·rw [ect] at h2;have hz:z<=t.hi:=by
     rcases Ga z t.hi with e' | e'
     ·exact e'
     ·rw [UV ht.l e'] at h2; omega
    rw [ht'.eq_lo e hz h2,hv]
  by_cases hc:0<c
  ·rw [if_pos hc];refine ⟨some t,rfl,Qy ..,?_⟩;have hlt:Pu a t:=by
    rcases c2 with ⟨e,_⟩ | ⟨e,_⟩ | ⟨_,h⟩
    ·omega
    ·omega
    ·exact h
   refine ⟨hlt,?_⟩;obtain ⟨m,m1,m2⟩:=hlt;obtain ⟨s,s0,hs⟩:=Lx hS ca hH m1 λz h1 h2=>hlow z h1 (by
    rcases Classical.em (z=m) with e | e
    ·rw [e]; exact m2
    ·exact ct.mono' (q:=z) (r:=m) (by grind) (by omega))
   have hall:∀ z,Ff a z=-1->Ff t z=1->U7 (ev (cz q) z)=s:=λz h1 h2=>by
    rcases Ga z m with e | e
    ·exact hs z h1 e
    ·obtain ⟨s',s0',hs'⟩:=Lx hS ca hH h1 λw w1 w2=>hlow w w1 (by
      rcases Classical.em (w=z) with e | e
      ·rw [e]; exact h2
      ·exact ct.mono' (q:=w) (r:=z) (by grind) (by omega))
     rw [hs' z h1 Qp,<-hs' m m1 (Qt e),hs m m1 Qp]
   refine ⟨s,s0,hall,?_⟩;obtain ⟨w,w1,w2,w3⟩:=BE ct m2 hlo1;have hwa:Ff a w=-1:=ca.mono m w w2 (by omega);have hsw:=hall w hwa w1;have hwh:w<t.hi:=by
    rw [ect] at w1;rcases Ga t.hi w with e | e
    ·have:=ht'.hi1;rcases Classical.em (t.hi=w) with e' | e'
     ·rw [<-e'] at w1; exact absurd w1 this
     ·rw [UV ht.l (by grind)] at w1; omega
    ·exact e
   have hww:vv L w=vv L t.lo:=ht'.eq_lo w3 (Qt hwh) (by rw [<-ect]; exact w1);have hvv:=ht.v;have hone:=kJ hS hwh (by omega);have hlw:Pe (cz q) w=s:=by rw [Ad (by rw [hsw]; exact s0),hsw]
   rw [hlw] at hone;have hd:∀ z,w<z->z<=t.hi->Ff t z=-1->U7 (ev (cz q) z)=-s:=λz z1 z2 z3=>by
    rw [ect] at z3;have e1:=ht'.eq_hi (by grind) z2 (by omega);have e2:=kJ hS z1 (by omega);rw [hlw] at e2;have hz0:U7 (ev (cz q) z)≠0:=by
     rw [Ij (by grind) z2,hp] at z3;intro h0;rw [if_pos h0] at z3; omega
    rw [Ad hz0] at e2; exact e2.2
   rcases ct.val t.hi with e | e | e
   ·rw [ect] at e; exact absurd e ht'.hi1
   ·obtain ⟨d,dp,hd'⟩:=Qya (p:=cz q) (x:=t.hi) (by rw [hone.2]; omega);refine ⟨t.hi+d,ct.mono t.hi _ (by grind) (by omega),λz h1 h2=>?_⟩;have hz:t.hi<z:=by
     rcases Ga z t.hi with e' | e'
     ·rcases Classical.em (z=t.hi) with e'' | e''
      ·rw [e''] at h1; omega
      ·have:=ct.mono z t.hi (by grind) (by omega); omega
     ·exact e'
    rw [hd' z hz (by grind),hone.2]
   ·exact ⟨t.hi,e,λz h1 h2=>hd z (ct.lt w1 h1) h2 h1⟩
  ·rw [if_neg hc];have hle:¬Pu a t:=λh=>by
    rcases c2 with ⟨e,h'⟩ | ⟨e,h'⟩ | ⟨e,_⟩
    ·exact Io ct ca h' h
    ·obtain ⟨z,z1,z2⟩:=h;have:=h' z; omega
    ·omega
   obtain ⟨r,r1,r2⟩:=ih (λx hx=>hV x (Qg _ hx)) hhi λz z1 z2=>by
    have hz:Ff t z≠1:=λh=>hle ⟨z,z1,h⟩
    have hzl:t.lo<z:=by
     rcases Ga z t.lo with e | e
     ·refine absurd ?_ hz;rw [ect]; exact Ew e
     ·exact e
    exact ht'.eq_hi hzl z2 (by rw [<-ect]; exact hz)
   refine ⟨r,r1,?_⟩;cases r with
   | none=>exact r2
   | some x=>exact ⟨Qg _ r2.1,r2.2⟩
theorem Qsb {c:Rat->Int} (hc:Cut c):∀ (n:Nat) (f:Uo),HD f n->∃ s,s≠0/\RS f c s
 |
  n,f,h=>by
  rcases JG hc f with hv | ⟨s,hs,hn⟩
  ·cases n with
   |
    zero =>
    exfalso;obtain ⟨q,hq,_⟩:=hZ hc (hv (Fc (f.getD 0 0)) (Cc h.1));cases f with
    | nil=>exact h.1 (by simp)
    |
     cons a l =>
     have:=Dw (p:=l) λk=>by have:=h.2 (k+1) (by omega); rwa [Q5] at this
     simp only [ev,this,Zt] at hq; grind
   |
    succ n =>
    have hd:HD (Nt f) n:=by
     have key:∀ (f:Uo) (k:Nat),(Nt f).getD k 0=((k+1:Nat):Rat)*f.getD (k+1) 0:=by
      intro f
      induction f with
      | nil=>intro k; simp only [Nt,Ku]; grind
      |
       cons a f ih =>
       intro k;simp only [Nt];rw [Ra,Q5];cases k with
       | zero=>rw [Zt]; push_cast; grind
       | succ k=>rw [Q5,ih]; push_cast; grind
     refine ⟨λh0=>?_,λk hk=>by rw [key,h.2 (k+1) (by omega)]; grind⟩;rw [key] at h0;rcases Yz.1 h0 with h1 | h1
     ·have:=nat_pos (show 0<n+1 by omega); grind
     ·exact h.1 h1
    obtain ⟨s,hs,h1⟩:=Qsb hc n (Nt f) hd;exact ⟨s,hs,vH hc hv h1 hs⟩
  ·exact ⟨s,hs,zU hc hn⟩
theorem Qj8 {c:Rat->Int} (hc:Cut c) {f p q:Uo} {s s':Int} (hf:∀ t,ev f t=ev p t*ev q t) (h:RS p c s) (h':RS q c s'):RS f c (s*s'):=by
 obtain ⟨y,h1,h2⟩:=h;obtain ⟨y',h3,h4⟩:=h';refine ⟨if y<=y' then y else y',by split <;> assumption,λz z1 z2=>?_⟩;rw [hf,Si,h2 z z1 (by clear h2 h4; grind),h4 z z1 (by clear h2 h4; grind)]
theorem Qj9 {c:Rat->Int} (hc:Cut c) {f o S:Uo} {k:Rat} (hk:k≠0) (hf:∀ t,ev f t=k*(ev o t*(ev S t*ev S t))) (hnz:¬∀ t,ev f t=0) {s:Int} (h:RS o c s):RS f c (U7 k*s):=by
 obtain ⟨n,_,hn⟩:∃ n,n<S.length/\HD S n:=by
  rcases DG S with h1 | h1
  ·exact absurd (λt=>by rw [hf,h1]; grind) hnz
  ·exact h1
 obtain ⟨s',hs',h'⟩:=Qsb hc n S hn;have h1:=Qj8 hc (f:=Gw S S) (λt=>Fa t _ _) h' h';have h2:=Qj8 hc (f:=Gw o (Gw S S)) (λt=>Fa t _ _) h h1;have hsq:s'*s'=1:=by
  obtain ⟨y,y1,y2⟩:=h';have:=y2 y y1 Qp;rcases Fv (ev S y) with ⟨e,_⟩ | ⟨e,_⟩ | ⟨e,_⟩
  ·rw [<-this,e]; rfl
  ·omega
  ·rw [<-this,e]; rfl
 rw [hsq,Ua] at h2;obtain ⟨y,y1,y2⟩:=h2;exact ⟨y,y1,λz z1 z2=>by
  have:=y2 z z1 z2;rw [Fa,Fa] at this;rw [hf,Si,this]⟩
structure Cp (p:List Int):Prop where
 t:U6 p
 l:p.length<=9
 b:Bd 1110 p
theorem Cp.dp {p:Ul} (h:Cp p):Dp p:=⟨h.t,h.l,Ux h.b (by omega)⟩
theorem Cp.ok {p:Ul} (h:Cp p) (h0:p.length≠0):Okp 9 1180 p:=h.dp.ok h0
def Leq (a:Tm) (c:Rat->Int):Prop:=∀ q,c q=-1->Ff a q=-1
def Sr (p:Ul) (a:Tm):Option Tm->Prop
 | none=>p=[]\/∃ s,s≠0/\∀ c,Cut c->Leq a c->RS (cz p) c s
 | some t=>p≠[]/\Va t/\Pu a t/\∃ s,s≠0/\(∀ c,Cut c->Leq a c->(∃ m,c m=-1/\Ff t m=1)->RS (cz p) c s)/\RS (cz p) (Ff t) (-s)
theorem RI.len {q:Ul} {L:Up} {lo hi:Rat} {l:List Tm} (h:RI q L lo l hi):l.length+vv L hi<=vv L lo:=by
 induction h with
 | nil h hv=>simp; omega
 | cons h hv ht hp hl ih=>have:=ht.v; simp only [Q4]; omega
theorem dF (x:Rat):∀ (L:Up) (s:Int),tc x s L<=L.length
 | [],_=>Ql _
 |
  f::l,s=>by
  have h1:=dF x l;simp only [tc,Q4]
  repeat' split
  all_goals (first | (have:=h1 s; omega) | (have:=h1 (U7 (ev f x)); omega))
theorem Qwm (L:Up) (x:Rat):vv L x<=L.length:=dF x L 0
theorem JF {p:Ul} (h:Cp p):∃ l,QI p=some l/\l.length≤67/\(∀ t∈l,Va t)/\∀ a,Va a->∃ r,VS a l=some r/\Sr p a r/\∀ t,r=some t->t∈l:=by
 unfold QI;by_cases h0:p.length=0
 ·have e:p=[]:=Qj h0;subst e;exact ⟨[],rfl,by decide,(λt ht=>by cases ht),λa _=>⟨none,rfl,.inl rfl,λt ht=>by cases ht⟩⟩
 ·obtain ⟨qp,o,q1,o1,hpt⟩:=bX (n:=9) (s:=1110) (p:=p) ⟨⟨by decide,by decide⟩,h.t,h0,h.l,h.b⟩;obtain ⟨g,sq⟩:=hpt.sq;obtain ⟨S,hS⟩:=hpt.os;obtain ⟨p1,p2,p3,p4,p5,p6,p7⟩:=Ma h.t h0;have hpl:=h.l;obtain ⟨hh,th,eh⟩:=hpt.oh;have bo:Bd 1179 o:=QU (p5 1110 h.b) (by omega) p1 hpt.ot th (by omega) eh;obtain ⟨lo1,lo2⟩:=Ri p1 (by omega) eh;have hlen:=Pw hpt.ot th p1 eh lo1 lo2;have oko:Okp 9 1180 o:=⟨yP,hpt.ot,by omega,by omega,Ux bo (by omega)⟩;obtain ⟨q,c,l,r1,r2,r3,hSt,hRI,hVa,hout⟩:=Qj6 oko;obtain ⟨g',q',s1,s2⟩:=Ox oko;rw [r1] at s1;injection s1 with s1;subst s1;obtain ⟨_,_,_,_,_,o6,o7⟩:=Ma hpt.ot (by omega);have hg1:g'=[1]:=by
   refine s2.pg.one ?_;obtain ⟨E,hE⟩:=hpt.oq;have hE:∀ t,U3 qp t=U3 o t*ev E t:=λt=>by have:=hE t; rwa [U4,U4] at this
   obtain ⟨z,hz⟩:=s2.d;have hd1:∀ t,U3 o t=U3 g' t*(Hi o*U3 q t):=λt=>by rw [o7,s2.e]; grind
   have hdo:∀ t,dv (cz o) t=U3 g' t*(Hi o*ev z t):=λt=>by
    have:=Qgs (p:=cz o) (q:=Dq (Hi o) (cz (Fb o))) (λt=>by rw [U4,Gl,U4,o7]) t;rw [this,HM,hz]; grind
   obtain ⟨k,hk,hkk⟩:=sq.num (d:=cz g') ⟨Gw (Dq (Hi o) (cz q)) E,λt=>by rw [U4,U4,hE,hd1,Fa,Gl,U4]; grind⟩ ⟨Se (Gw (Dq (Hi o) z) E) (Gw (Dq (Hi o) (cz q)) (Nt E)),λt=>by
    have:=QW (f:=cz qp) (w:=cz o) (u:=E) (λt=>by rw [U4,U4,hE]) t;rw [Te,this,hdo,U4,U4,hd1,Gs,Fa,Fa,Gl,Gl,Te,U4]; grind⟩
   rcases Zd g'.length 2 with e | e
   ·exact e
   ·exfalso;have h1:=(SQ s2.pg.t (by omega)).1;have h2:=Dk (p:=cz g') (q:=[k]) (λt=>by rw [hkk]; simp only [ev]; grind) (g'.length-1);rw [h2,Qi,Qw (by simp; omega)] at h1;exact h1 rfl
  have hpq:∀ t,ev (cz p) t=((Hi p:Rat)*(Hi o:Rat))*(ev (cz q) t*(ev S t*ev S t)):=λt=>by
   rw [U4,U4,p7,hS,o7,s2.e,hg1,Ng]; grind
  have hk0:(Hi p:Rat)*(Hi o:Rat)≠0:=λh=>(Yz.1 h).elim (XZ p6) (XZ o6)
  have hpz:¬∀ t,ev (cz p) t=0:=λh'=>TD h.t (by omega) λt=>by rw [<-U4]; exact h' t
  obtain ⟨k,hk⟩:=nmE (U7 ((Hi p:Rat)*(Hi o:Rat)));have hkn:k≠0:=λh=>hk0 (Gg.1 (by rw [<-hk]; exact h))
  have ho:o.length≠0:=by omega
  rw [o1];show ∃ l,(if o.length=0 then some [] else SN o)=some l/\l.length<=67/\_;rw [if_neg ho];have hb1:=HZ (L8 s2.pq.t s2.pq.n);have hll:=hRI.len;have hlv:=Qwm (c.map cz) (-Gp q);have hcl:=(Orr.chain_ok (p:=o) ⟨hpt.ot,by omega,Ux bo (by omega)⟩ r2).1;rw [Q8] at hlv;refine ⟨l,r3,by omega,hVa,λa ha=>?_⟩;obtain ⟨r,n1,n2⟩:=Qcm hSt ha hRI hVa (λz hz=>(hout _ _ hz (.inl Qp)).symm) λz _ hz=>by
   rcases Classical.em (z=-Gp q) with e | e
   ·rw [e]
   ·exact hout z _ (by grind) (.inr Qp)
  refine ⟨r,n1,?_,λt ht=>by subst ht; exact n2.1⟩;cases r with
  |
   none =>
   obtain ⟨s,hs,hz⟩:=n2;refine .inr ⟨k*s,Jo hkn hs,λc hc hac=>?_⟩;obtain ⟨y,hy⟩:=hc.hi;have h1:RS (cz q) c s:=⟨y,hy,λz z1 _=>hz z (hac z z1)⟩;rw [hk]; exact Qj9 hc hk0 hpq hpz h1
  |
   some t =>
   obtain ⟨hm,hlt,s,hs,hz,hrs⟩:=n2;refine ⟨λe=>h0 (by rw [e]; rfl),hVa t hm,hlt,k*s,Jo hkn hs,λc hc hac ⟨m,m1,m2⟩=>?_,?_⟩
   ·have h1:RS (cz q) c s:=⟨m,m1,λz z1 z2=>hz z (hac z z1) (by
     rcases Classical.em (z=m) with e | e
     ·rw [e]; exact m2
     ·exact (hVa t hm).cut.mono' (q:=z) (r:=m) (by grind) (by omega))⟩
    rw [hk]; exact Qj9 hc hk0 hpq hpz h1
   ·have:=Qj9 (hVa t hm).cut hk0 hpq hpz hrs;rw [<-hk] at this;rw [show -(k*s)=k*-s by rw [Ko]]; exact this
structure Sz (s n:Nat) (t:Tm):Prop where
 n:t.p.length<=n
 b:Bd (s+138) t.p
 g:∃ D M k,Gr D M k t.lo/\Gr D M k t.hi/\0<M/\U9 (D:Int)<=s+138/\U9 (M:Int)<=s+139/\k<=63*s+9507
theorem Qiz {p:Ul} (h:Cp p) {a:Tm} (ha:Va a):∃ r,SU p a=some r/\Sr p a r:=by
 obtain ⟨l,l1,_,_,l3⟩:=JF h;obtain ⟨r,r1,r2,_⟩:=l3 a ha;refine ⟨r,?_,r2⟩;unfold SU;rw [l1]; exact r1
theorem RY:∀ (l:List Tm) (b:Tm),(∀ t∈b::l,Va t)->∃ m,QT b l=some m/\m∈b::l/\∀ t∈b::l,¬Pu t m
 |
  [],b,h=>⟨b,rfl,Qy ..,λt ht h'=>by
  rw [Qk.1 ht] at h';have hb:=(h b (Qy ..)).cut;exact Io hb hb h' h'⟩
 |
  a::l,b,h=>by
  have ha:=h a (by simp);have hb:=h b (by simp);obtain ⟨c,c1,c2⟩:=UJ ha hb;obtain ⟨m,m1,m2,m3⟩:=RY l (if c<0 then a else b) λt ht=>by
   rcases Qm.1 ht with rfl | ht
   ·split <;> assumption
   ·exact h t (by simp [ht])
  refine ⟨m,by simp only [QT]; rw [c1]; exact m1,?_,λt ht=>?_⟩
  ·rcases Qm.1 m2 with e | e
   ·rw [e]; split <;> simp
   ·simp [e]
  ·have hm:Va m:=by
    rcases Qm.1 m2 with e | e
    ·rw [e]; split <;> assumption
    ·exact h m (by simp [e])
   have hfst:=m3 _ (Qy ..);have tr:∀ x y:Tm,Va x->Va y->¬Pu x y->¬Pu y m->¬Pu x m:=λx y hx hy h1 h2 h3=>by
    rcases tri hy.cut hm.cut with h4 | h4 | h4
    ·exact h2 h4
    ·obtain ⟨q,q1,q2⟩:=h3;exact h1 ⟨q,q1,by rw [h4]; exact q2⟩
    ·obtain ⟨q,q1,q2⟩:=h3;obtain ⟨r,r1,r2⟩:=h4;have:=hm.cut.lt q2 r1;exact h1 ⟨q,q1,hy.cut.mono' this (by omega)⟩
   rcases Qm.1 ht with rfl | ht
   ·by_cases hc:c<0
    ·rw [if_pos hc] at hfst;refine tr _ a hb ha ?_ hfst;rcases c2 with ⟨_,h'⟩ | ⟨e,_⟩ | ⟨e,_⟩
     ·exact λh''=>Io ha.cut hb.cut h' h''
     ·omega
     ·omega
    ·rw [if_neg hc] at hfst; exact hfst
   ·rcases Qm.1 ht with rfl | ht
    ·by_cases hc:c<0
     ·rw [if_pos hc] at hfst; exact hfst
     ·rw [if_neg hc] at hfst;refine tr _ b ha hb ?_ hfst;rcases c2 with ⟨e,_⟩ | ⟨_,h'⟩ | ⟨_,h'⟩
      ·omega
      ·rintro ⟨q,q1,q2⟩
       have:=h' q; omega
      ·exact λh''=>Io ha.cut hb.cut h'' h'
    ·exact m3 t (by simp [ht])
end Orq
namespace Orr
open Go Go.Proofs Tryz Orq
set_option maxRecDepth 10000
theorem Dp.pb {p:Ul} (h:Dp p):Pb p:=⟨h.t,by have:=h.l; omega,Ux h.b (by have:=h.l; omega)⟩
theorem Qxq {p:Ul} {a:Tm} (hp:Dp p) (ha:Va a):Ui 203 [pr p,.agg (ta a)] [.oi (Fl a p)]:=Qmi (Dp.pb hp) ha.tb (Qkf hp ha).1
theorem Qxi {p:Ul} {a:Tm} (hp:Dp p) (ha:Va a):Ui 202 [pr p,.one (.sh (ta a))] [.oi (Fl a p)]:=Uf func202 rfl [.k (Qxq hp ha)] rfl
theorem Qne {p:Ul} {fid:Nat} {l1:Uq} {sgn:Ul->Int} (hp:Dp p) (h:∀ p,Dp p->AG prog fid [pr p,.one (.sh l1)] [.oi (sgn p)]):Ui 201 [pr p,.one (.fn fid [] [.sh l1])] [.oi (Tk sgn p.length p)]:=by
 have hpb:=Dp.pb hp;refine Fw func201 rfl ?_;refine Uc [.k (Hp hpb.t hpb.ln hpb.bd)] rfl ?_;refine Uh (S:=Ul) 0 (λL1 s=>(0,.v (pr s))::L1) (λ_=>[]) (λs=>s.length) (λs=>Dp s/\Tk sgn s.length s=Tk sgn p.length p) p ⟨hp,rfl⟩ rfl rfl λr ⟨j1,j4⟩=>?_
 rw [<-j4];have jb:=Dp.pb j1;by_cases h0:r.length=0
 ·have e:=fS sgn h0;rw [e];exact Ue [.f (by simp; exact Qj h0)] rfl
 ·have hs:=h r j1;by_cases hz:sgn r=0
  ·have hlp:=P7 r;refine Uc [.t (by simp; omega),.k hs,.f (by simpa using hz),.k (Iw jb.ln jb.bd)] rfl ?_;exact rd (Gk r) (by omega) ⟨j1.der,by rw [<-fR sgn (by omega) hz]⟩ rfl
  ·rw [fH sgn (by omega) hz];exact Ue [.t (by simp; omega),.k hs,.t (by simpa using hz)] rfl
abbrev gmA (a:Tm) (p:Ul):Int:=He (Fl a) p
theorem TC {p:Ul} {a:Tm} (hp:Dp p) (ha:Va a):Ui 168 [pr p,.agg (ta a)] [.oi (gmA a p)] :=
 Uf func168 rfl [.k (Qne (sgn:=Fl a) hp λ_ h=>Qxi h ha)] rfl
theorem wC {t:Tm} {a b:Pt} {ps:Um} (hps:∀ p∈ps,Dp p) (ht:Va t) (hl:ps.length<1000):Ui 237 [.agg (ta t),.agg (U5 a),.agg (U5 b),.one (.row (S6 ps))] [.one (.bool (Ln (Fl t) a b ps))]:=by
 refine Fw func237 rfl ?_;have hpl:(S6 ps).length=ps.length:=by simp [S6]
 refine Uc [] rfl ?_;refine Uh (S:=Nat) 3 (λL1 i=>(13,.v (.oi i))::L1) (λ_=>[.blk 189 (ta t),.blk 38 (U5 a),.blk 38 (U5 b)]) (λi=>ps.length-i) (λi=>i<=ps.length/\Ln (Fl t) a b (ps.drop i)=Ln (Fl t) a b ps) 0 ⟨Qh _,rfl⟩ rfl rfl λi ⟨hi,he⟩=>?_
 rw [<-he];by_cases hlt:i<ps.length
 ·obtain ⟨p,hp⟩:=gxE (l:=ps) (i:=i) hlt;have hd:ps.drop i=p::ps.drop (i+1):=by
   rw [Zu hlt];rw [Qe hlt] at hp; injection hp with hp; rw [hp]
  have hpb:=hps p (Qa hp);rw [hd] at he ⊢;by_cases h0:0<p.length
  ·exact Ue [.t (by simp [hpl]; omega),.x (Rh hp),.t (by simp; omega),.k (TC hpb ht)] rfl (by simp only [Ln]; rw [if_pos h0]) trivial
  ·refine Ud [.t (by simp [hpl]; omega),.x (Rh hp),.f (by simp; exact Qj (by omega))] rfl ?_;exact rd (i+1) (by omega) ⟨hlt,by simp only [Ln]; rw [if_neg h0]⟩ rfl
 ·have hd:ps.drop i=[]:=Yt (by omega);rw [hd];exact Ue [.f (by simp [hpl]; omega)] rfl
structure Sc (k:Crv):Prop where
 n:JR k
 c:Cs 128 3 k
theorem Sc.cb {k:Crv} (h:Sc k):Cb k:=h.c.mono (by omega) (by omega)
theorem P5 {a b:Crv} (ha:Sc a) (hb:Sc b):Cp (Fu a b):=by
 refine ⟨Fq _ _,?_,Ux (Dd (Gd hb.c.x ha.c.d) (Gd ha.c.x hb.c.d)) (by omega)⟩;have:=S5 (Fo b.x a.d) (Fo a.x b.d);have:=Fh b.x a.d; have:=Fh a.x b.d; have:=ha.c.lx; have:=hb.c.lx;unfold Fu; omega
theorem P0 {a b:Crv} (ha:Sc a) (hb:Sc b):Cp (Ft a b):=by
 refine ⟨Fq _ _,?_,Ux (Dd (Gd hb.c.y ha.c.d) (Gd ha.c.y hb.c.d)) (by omega)⟩;have:=S5 (Fo b.y a.d) (Fo a.y b.d);have:=Fh b.y a.d; have:=Fh a.y b.d; have:=ha.c.ly; have:=hb.c.ly;unfold Ft; omega
theorem Qmj {a b:Pt} {t:Tm} (ha:Sc a.c) (hb:Sc b.c) (ht:Va t):Ui 193 [.agg (U5 a),.agg (U5 b),.agg (ta t)] [.one (.bool (Bs (Fl t) a b))] :=
 Uf func193 rfl [.k (WL hb.n ha.n hb.cb ha.cb),.k (WA hb.n ha.n hb.cb ha.cb),.k (wC (t:=t) (a:=a) (b:=b) (ps:=[Ft b.c a.c,Fu b.c a.c]) (λp hp=>by
  simp at hp;rcases hp with rfl | rfl
  ·exact (P0 hb ha).dp
  ·exact (P5 hb ha).dp) ht (show 2<1000 by decide))] rfl
theorem Qd8 {a b:Pt} {t:Tm} (ha:Sc a.c) (hb:Sc b.c) (ht:Va t):Ui 192 [.agg (U5 a),.agg (U5 b),.agg (ta t)] [.one (.bool (Ti (Fl t) a b))] :=
 Uf func192 rfl [.k (WA ha.n hb.n ha.cb hb.cb),.k (WL ha.n hb.n ha.cb hb.cb),.k (wC (t:=t) (a:=a) (b:=b) (ps:=[Fu a.c b.c,Ft a.c b.c]) (λp hp=>by
  simp at hp;rcases hp with rfl | rfl
  ·exact (P5 ha hb).dp
  ·exact (P0 ha hb).dp) ht (show 2<1000 by decide))] rfl
theorem Qsl (q:Rat) {P:Prop} (h:(tq q).point=false):P:=by
 have e:(tq q).point=true:=Mm.2 Qp;rw [e] at h; cases h
theorem Qu6 (q:Rat):lim (tq q)=3300000:=by unfold lim; rw [if_pos (Mm.2 Rat.le_refl)]
theorem GG {q:Rat} (hq:Qs 1640000 q):Va (tq q):=by
 have hd:=q.den_nz;refine ⟨.inl ⟨rfl,?_⟩,Qaj q,by show 2<=9; omega,by show 2<=2; omega,Qw6 (hq.mono (by omega)),Qsl q,Qsl q,q.den,q.num.natAbs+1,0,?_,?_,by omega,?_⟩
 ·have e:(q.num:Rat)=q*(q.den:Rat):=by
   have:(q.num:Rat) / (((q.den:Int)):Rat)=q:=by rw [Hz,Z9]
   have h2:(q.num:Rat) / (q.den:Rat)*(q.den:Rat)=q.num:=Zl (by have:=Orq.nat_pos q.den_pos; grind);rw [show (q.num:Rat) / (q.den:Rat)=q from this] at h2; exact h2.symm
  show U3 [-q.num,(q.den:Int)] q=0;simp only [U3];rw [Vn,e,show (((q.den:Int)):Rat)=(q.den:Rat) from rfl]; grind
 all_goals first | (have h1:U9 (q.den:Int)<=1640000:=hq.2; have h2:U9 ((q.num.natAbs+1:Nat):Int)<=1640001:=Qcd hq.1; rw [Qu6]; omega) | skip
 all_goals
  refine ⟨⟨q.num,?_⟩,?_,q.den_pos⟩
  ·rw [Vd,Yc];have:(q.num:Rat) / (((q.den:Int)):Rat)=q:=by rw [Hz,Z9]
   have h2:(q.num:Rat) / (q.den:Rat)*(q.den:Rat)=q.num:=Zl (by have:=Orq.nat_pos q.den_pos; grind);rw [show (q.num:Rat) / (q.den:Rat)=q from this] at h2; exact h2
  ·have h1:Fc q<=Fc (q.num:Rat):=by
    have e:(q.num:Rat)=q*(q.den:Rat):=by
     have:(q.num:Rat) / (((q.den:Int)):Rat)=q:=by rw [Hz,Z9]
     have h2:(q.num:Rat) / (q.den:Rat)*(q.den:Rat)=q.num:=Zl (by have:=Orq.nat_pos q.den_pos; grind);rw [show (q.num:Rat) / (q.den:Rat)=q from this] at h2; exact h2.symm
    rw [e,Ie];have hd1:(1:Rat)<=(q.den:Rat):=by
     have:((1:Nat):Rat)<=(q.den:Rat):=Zn.2 q.den_pos;exact this
    have e2:Fc (q.den:Rat)=(q.den:Rat):=by unfold Fc; rw [if_neg (by grind)]
    rw [e2];have:=B7 (a:=Fc q) (c:=1) (Ho q) Qp (by decide) hd1;grind
   rw [So] at h1;refine Zk h1 (Zn.2 (by omega))
theorem JO {p q:Ul} (hp:Cp p) (hq:Cp q):Cp (Li p q):=by unfold Li; split <;> assumption
theorem lY {a b:Pt} {t:Tm} (ha:Sc a.c) (hb:Sc b.c) (ht:Va t):Ui 163 [.oi 1,.agg (ta t),.one (.row [U5 a,U5 b])] [.agg (Lm (QN (Fl t) a b)),.oi 0]:=by
 have h1:=P5 ha hb;have h2:=P0 ha hb;refine Fw func163 rfl ?_;refine Uc [.k Qbe,.f rfl] rfl ?_;refine Uh (S:=Nat) 3 (λL1 i=>(22,.v (.oi i))::L1) (λi=>[.blk 189 (ta t),.blk 136 zCt,.blk 136 [.int .i64 1,.int .i64 (if 1<=i then a.id else 0),.int .i64 (if 2<=i then b.id else 0),.int .i64 0,.int .i64 0,.nils,.int .i64 0]]) (λi=>2-i) (λi=>i<=2) 0 (Qh _) rfl rfl λi hi=>?_
 rcases (show i=0\/i=1\/i=2 by omega) with rfl | rfl | rfl
 ·refine Uc [.t rfl,.x (i:=0) (xs:=U5 a) rfl,.i 0] rfl ?_ (by simp [Uw]);exact rd 1 (by omega) (by omega) rfl
 ·refine Uc [.t rfl,.x (i:=1) (xs:=U5 b) rfl,.i 1] rfl ?_ (by simp [Uw]);exact rd 2 (by omega) (by omega) rfl
 ·exact Ue [.f rfl,.t rfl,.x (i:=0) (xs:=U5 a) rfl,.x (i:=1) (xs:=U5 b) rfl,.k (WA ha.n hb.n ha.cb hb.cb),.x (i:=0) (xs:=U5 a) rfl,.x (i:=1) (xs:=U5 b) rfl,.k (WL ha.n hb.n ha.cb hb.cb),.k wP,.k (TC (JO h1 h2).dp ht)] rfl
end Orr
namespace Orr
variable {α:Type}
def Lo (lt:α->α->Bool) (out:List α) (x:α):Nat->Nat
 | 0=>0
 |
  k+1=>match out[k]? with
  | some y=>if lt x y=true then Lo lt out x k else k+1
  | none=>k+1
theorem vQ (lt:α->α->Bool) (out:List α) (x:α):∀ k,Lo lt out x k<=k
 | 0=>Ql _
 |
  k+1=>by
  simp only [Lo]
  split
  ·split
   ·exact Nat.le_succ_of_le (vQ lt out x k)
   ·exact Ql _
  ·exact Ql _
theorem oJ {lt:α->α->Bool} {out:List α} {x y:α} {k:Nat} (hx:out[k]? = some y) (h:lt x y=true):Lo lt out x (k+1)=Lo lt out x k:=by
 simp only [Lo,hx,h,if_true]
theorem rN {lt:α->α->Bool} {out:List α} {x y:α} {k:Nat} (hx:out[k]? = some y) (h:lt x y=false):Lo lt out x (k+1)=k+1:=by
 simp [Lo,hx,h]
def Lj (lt:α->α->Bool) (out:List α) (x:α):List α:=out.take (Lo lt out x out.length)++x::out.drop (Lo lt out x out.length)
theorem Qh3 (lt:α->α->Bool) (out:List α) (x:α):(Lj lt out x).length=out.length+1:=by
 have:=vQ lt out x out.length;simp [Lj]; omega
theorem UD {lt:α->α->Bool} {out:List α} {x y:α}:y∈Lj lt out x↔y=x\/y∈out:=by
 have h:y∈out↔y∈out.take (Lo lt out x out.length)\/y∈out.drop (Lo lt out x out.length):=by
  rw [<-Qq,Zi]
 simp only [Lj,Qq,Qm,h];constructor
 ·rintro (h | h | h)
  ·exact .inr (.inl h)
  ·exact .inl h
  ·exact .inr (.inr h)
 ·rintro (h | h | h)
  ·exact .inr (.inl h)
  ·exact .inl h
  ·exact .inr (.inr h)
def Lu (lt:α->α->Bool) (l:List α):List α:=l.foldl (Lj lt) []
theorem cO (lt:α->α->Bool) (l:List α) (x:α):Lu lt (l++[x])=Lj lt (Lu lt l) x:=by simp [Lu,Vr]
theorem dQ {lt:α->α->Bool} {l:List α} {i:Nat} {x:α} (h:l[i]? = some x):Lu lt (l.take (i+1))=Lj lt (Lu lt (l.take i)) x:=by
 rw [Z3,h]; exact cO _ _ _
theorem DX (lt:α->α->Bool):∀ (l acc:List α),(l.foldl (Lj lt) acc).length=acc.length+l.length
 | [],acc=>by simp
 | c::l,acc=>by simp only [Z5]; rw [DX lt l (Lj lt acc c),Qh3]; simp; omega
theorem zC (lt:α->α->Bool) (l:List α):(Lu lt l).length=l.length:=by unfold Lu; rw [DX]; simp
theorem KU (lt:α->α->Bool):∀ (l acc:List α) {y:α},y∈l.foldl (Lj lt) acc↔y∈l\/y∈acc
 | [],acc,y=>by simp
 |
  c::l,acc,y=>by
  simp only [Z5];rw [KU lt l,UD,Qm];constructor
  ·rintro (h | h | h)
   ·exact .inl (.inr h)
   ·exact .inl (.inl h)
   ·exact .inr h
  ·rintro ((h | h) | h)
   ·exact .inr (.inl h)
   ·exact .inl h
   ·exact .inr (.inr h)
theorem Qc7 {lt:α->α->Bool} {l:List α} {y:α}:y∈Lu lt l↔y∈l:=by
 unfold Lu; rw [KU]; simp
end Orr
namespace Orr
open Go Orq
structure Wt where
 c:Ct
 known:Bool
 fails:Option Tm
def f0:Option Tm->LV | none=>.row [] | some t=>pl t.p
def f1:Option Tm->LV | none=>.bool false | some t=>sg t.lo.num
def f2:Option Tm->LV | none=>.row [] | some t=>mg t.lo.num
def f3:Option Tm->LV | none=>.bool false | some t=>sg (t.lo.den:Int)
def f4:Option Tm->LV | none=>.row [] | some t=>mg (t.lo.den:Int)
def f5:Option Tm->LV | none=>.bool false | some t=>sg t.hi.num
def f6:Option Tm->LV | none=>.row [] | some t=>mg t.hi.num
def f7:Option Tm->LV | none=>.bool false | some t=>sg (t.hi.den:Int)
def f8:Option Tm->LV | none=>.row [] | some t=>mg (t.hi.den:Int)
abbrev fl (o:Option Tm):Uq:=[f0 o,f1 o,f2 o,f3 o,f4 o,f5 o,f6 o,f7 o,f8 o]
abbrev wl (w:Wt):Uq:=[.int .i64 w.c.kind,.int .i64 w.c.i0,.int .i64 w.c.i1,.int .i64 w.c.i2,.int .i64 w.c.i3,pl w.c.p,.int .i64 w.c.want,.bool w.known,.bool w.fails.isSome,f0 w.fails,f1 w.fails,f2 w.fails,f3 w.fails,f4 w.fails,f5 w.fails,f6 w.fails,f7 w.fails,f8 w.fails]
def Co (l:List Wt):Ur:=l.map λw=>wl w
theorem Hr {l:List Wt} {i:Nat} {w:Wt} (h:l[i]? = some w):(Co l)[i]? = some (wl w):=G7 h
theorem Sk (l:List Wt):(Co l).length=l.length:=by simp [Co]
structure Cr where
 now:Tm
 l:List Wt
 ev:Int
abbrev Hn (c:Cr) (r0 r1:Ur):Uq:=.bool true::pl c.now.p::sg c.now.lo.num::mg c.now.lo.num::sg (c.now.lo.den:Int)::mg (c.now.lo.den:Int)::sg c.now.hi.num::mg c.now.hi.num::sg (c.now.hi.den:Int)::mg (c.now.hi.den:Int)::.row (Co c.l)::.int .i64 c.ev::[.row r0,.row r1]
structure WtOk (w:Wt):Prop where
 p:Cp w.c.p
 f:∀ t,w.fails=some t->Va t
structure CrOk (c:Cr):Prop where
 n:Va c.now
 l:∀ w∈c.l,WtOk w
 k:c.l.length<=1000
def tP (a b:Ct):Bool:=decide ([a.kind,a.i0,a.i1,a.i2,a.i3]=[b.kind,b.i0,b.i1,b.i2,b.i3])
def fresh (x:Ct):Wt:=⟨x,false,none⟩
def B5:List Wt->Ct->Tm->Option Wt
 | [],x,_=>some (fresh x)
 |
  w::l,x,at_=>if tP w.c x=true/\w.known=true/\w.c.p=x.p then
   match w.fails with
   | none=>some ⟨x,true,none⟩
   | some t=>(UX t at_).bind λc=>if 0<c then some ⟨x,true,some t⟩ else B5 l x at_
  else B5 l x at_
def Rz (old:List Wt) (at_:Tm):List Ct->Option (List Wt)
 | []=>some []
 | x::l=>(B5 old x at_).bind λw=>(Rz old at_ l).bind λr=>some (w::r)
end Orr
namespace Orr
open Go Go.Proofs Tryz Orq
set_option maxRecDepth 10000
theorem O8 {T:Nat} {c:Cr} {r0 r1:Ur} (hc:Va c.now):Uz prog 370 [.one (.ow 0 0)] [.blk T (Hn c r0 r1)] [.agg (ta c.now)] [.blk T (Hn c r0 r1)]:=by
 have cl:=Sy (b:=c.now) (l:=[]) hc.tb (λt ht=>by cases ht) (by decide) rfl;refine Fw func370 rfl ?_;exact Ug [] [0] [.f rfl,.k cl] rfl
theorem Qte {T:Nat} {c:Cr} {r0 r1:Ur} {x:Ct} {at_:Tm} {w:Wt} (hc:CrOk c) (hx:Cp x.p) (ha:Va at_) (h:B5 c.l x at_=some w):Uz prog 184 [.one (.ow 0 0),.agg (Lm x),.agg (ta at_)] [.blk T (Hn c r0 r1)] [.agg (wl w)] [.blk T (Hn c r0 r1)]:=by
 have hk:=hc.k;have hw:=Sk c.l;refine Fw func184 rfl ?_;refine Uc [] rfl ?_;refine Uh (S:=Nat) 4 (λL1 i=>(14,.v (.oi i))::L1) (λ_=>[.blk T (Hn c r0 r1),.blk 136 (Lm x),.blk 189 (ta at_),.blk 276 [.int .i64 0,.int .i64 0,.int .i64 0,.int .i64 0,.int .i64 0,.nils,.int .i64 0,.bool false,.bool false,.nils,.bool false,.nils,.bool false,.nils,.bool false,.nils,.bool false,.nils]]) (λi=>c.l.length-i) (λi=>i<=c.l.length/\B5 (c.l.drop i) x at_=some w) 0 ⟨Qh _,h⟩ rfl rfl λi ⟨hi,hf⟩=>?_
 by_cases hlt:i<c.l.length
 ·obtain ⟨v,hv⟩:=gxE (l:=c.l) (i:=i) hlt;have hdr:c.l.drop i=v::c.l.drop (i+1):=by
   rw [Zu hlt]; congr 1;have:=Qe hlt; rw [hv] at this; injection this with this; exact this.symm
  have hvo:=hc.l v (Qa hv);rw [hdr] at hf;simp only [B5] at hf;have hl:decide ((i:Int)<((Co c.l).length:Int))=true:=by simp [hw]; omega
  by_cases A:tP v.c x=true
  ·have A':(!decide ([v.c.kind,v.c.i0,v.c.i1,v.c.i2,v.c.i3]=[x.kind,x.i0,x.i1,x.i2,x.i3]))=false:=by
    unfold tP at A; rw [A]; rfl
   by_cases B:v.known=true
   ·have B':(!v.known)=false:=by rw [B]; rfl
    have cs:=PD (p:=v.c.p) (q:=x.p) (Dp.pb hvo.p.dp).ln (Dp.pb hx.dp).ln (Dp.pb hvo.p.dp).bd (Dp.pb hx.dp).bd;rw [hvo.p.t,hx.t] at cs;by_cases C:v.c.p=x.p
    ·have C':(!decide (v.c.p=x.p))=false:=by simp [C]
     rw [if_pos ⟨A,B,C⟩] at hf;obtain ⟨vc,vk,vf⟩:=v;cases vf with
     |
      none =>
      injection hf with hf; subst hf;exact Ug [] [0] [.t hl,.x (Hr hv),.g 24 false A',.g 29 false B',.k cs,.f C',.g 41 true rfl,.t rfl] rfl
     |
      some t =>
      obtain ⟨r,r1',hf⟩:=Qd.1 hf;have cc:=VE (hvo.f t rfl).tb ha.tb r1';by_cases D:0<r
      ·rw [if_pos D] at hf;injection hf with hf; subst hf;exact Ug [] [0] [.t hl,.x (Hr hv),.g 24 false A',.g 29 false B',.k cs,.f C',.g 41 false rfl,.k cc,.t (by simpa using D)] rfl
      ·rw [if_neg D] at hf;refine Ud [.t hl,.x (Hr hv),.g 24 false A',.g 29 false B',.k cs,.f C',.g 41 false rfl,.k cc,.f (by simpa using D)] rfl ?_;exact rd (i+1) (by omega) ⟨hlt,hf⟩ rfl
    ·rw [if_neg λh=>C h.2.2] at hf;refine Ud [.t hl,.x (Hr hv),.g 24 false A',.g 29 false B',.k cs,.t (by simp [C])] rfl ?_;exact rd (i+1) (by omega) ⟨hlt,hf⟩ rfl
   ·rw [if_neg λh=>B h.2.1] at hf;refine Ud [.t hl,.x (Hr hv),.g 24 false A',.g 29 true (by simpa using B),.t rfl] rfl ?_;exact rd (i+1) (by omega) ⟨hlt,hf⟩ rfl
  ·rw [if_neg λh=>A h.1] at hf;refine Ud [.t hl,.x (Hr hv),.g 24 true (by rw [show decide ([v.c.kind,v.c.i0,v.c.i1,v.c.i2,v.c.i3]=[x.kind,x.i0,x.i1,x.i2,x.i3])=false from Ws.2 A]; rfl),.g 29 true rfl,.t rfl] rfl ?_;exact rd (i+1) (by omega) ⟨hlt,hf⟩ rfl
 ·obtain rfl:i=c.l.length:=by omega
  rw [Y9] at hf;simp only [B5] at hf;injection hf with hf; subst hf;exact Ug [] [0] [.f (by simp [hw])] rfl
theorem XV {old:List Wt} {at_:Tm}:∀ {l:List Ct} {ws:List Wt},Rz old at_ l=some ws->ws.length=l.length/\∀ (i:Nat) (x:Ct),l[i]? = some x->∃ w,B5 old x at_=some w/\ws[i]? = some w
 | [],ws,h=>by injection h with h; subst h; exact ⟨rfl,λi x hx=>by simp at hx⟩
 |
  y::l,ws,h=>by
  simp only [Rz] at h;obtain ⟨w,hw,h⟩:=Qd.1 h;obtain ⟨r,hr,h⟩:=Qd.1 h;injection h with h; subst h;obtain ⟨a,b⟩:=XV hr;refine ⟨by simp [a],λi x hx=>?_⟩;cases i with
  | zero=>injection hx with hx; subst hx; exact ⟨w,hw,rfl⟩
  | succ i=>exact b i x (by simpa using hx)
theorem Ep {l:List Wt} {i:Nat} {w:Wt} (h:l[i]? = some w):Co (l.take (i+1))=Co (l.take i)++[wl w]:=by
 rw [Z3,h]; simp [Co]
theorem WE {T:Nat} {c:Cr} {r0 r1:Ur} {at_:Tm} {l:List Ct} {ws:List Wt} (hc:CrOk c) (ha:Va at_) (hl:∀ x∈l,Cp x.p) (hn:l.length≤1000) (h:Rz c.l at_ (Fp l)=some ws):Uz prog 157 [.one (.ow 0 0),.agg (ta at_),.one (.bool true),.one (.row (Fg l))] [.blk T (Hn c r0 r1)] [] [.blk T (Hn ⟨at_,ws,c.ev⟩ r0 r1)]:=by
 have cs:=xM (l:=l) (λx hx=>Dp.pb (hl x hx).dp) (by omega);have cl:=Sy (b:=at_) (l:=[]) ha.tb (λt ht=>by cases ht) (by decide) rfl;obtain ⟨h1,h2⟩:=XV h;have hs:(Fp l).length=l.length:=Dc l;refine Fw func157 rfl ?_;refine Uc [.o 8 276 18,.k cs] rfl ?_;refine Uh (S:=Nat) 3 (λL1 i=>(15,.v (.oi i))::(8,.v (.one (.orow 2 18 none)))::L1) (λi=>[.blk T (Hn c r0 r1),.blk 189 (ta at_),.row false 276 18 (Co (ws.take i))]) (λi=>ws.length-i) (λi=>i<=ws.length) 0 (Qh _) rfl rfl λi hi=>?_
 by_cases hlt:i<ws.length
 ·obtain ⟨x,hx⟩:=gxE (l:=(Fp l)) (i:=i) (by omega);obtain ⟨w,hw,hw'⟩:=h2 i x hx;have hm:∀ y∈[wl w],y.length=18:=λy hy=>by rw [Qk.1 hy]; rfl
  have hlt':decide ((i:Int)<((Fg (Fp l)).length:Int))=true:=by simp [Fg]; omega
  have ck:=Qte (T:=T) (r0:=r0) (r1:=r1) hc (hl x (YN (Qa hx))) ha hw;have hg:=Ep hw';obtain ⟨wc,wk,wf⟩:=w;cases wf <;> (refine go tt [.t hlt',.x (KV hx),.t rfl,.c [0] ck,.s (sz:=18) hm] rfl (by simp [Uw,Sk]; omega) ?_; exact rd (i+1) (by omega) hlt (by rw [hg]; rfl))
 ·obtain rfl:i=ws.length:=by omega
  rw [Q7];have hge:decide ((ws.length:Int)<((Fg (Fp l)).length:Int))=false:=by simp [Fg]; omega
  exact Ug [] [0] [.f hge,.p 2,.k cl] rfl
abbrev mU (r0 r1:LV):Uq:=[.bool false,.nils,.bool false,.nils,.bool false,.nils,.bool false,.nils,.bool false,.nils,.nils,.int .i64 0,r0,r1]
theorem Qmq {T:Nat} {r0 r1:Ur} {at_:Tm} {l:List Ct} (ha:Va at_) (hl:∀ x∈l,Cp x.p) (hn:l.length≤1000):Uz prog 157 [.one (.ow 0 0),.agg (ta at_),.one (.bool false),.one (.row (Fg l))] [.blk T (mU (.row r0) (.row r1))] [] [.blk T (Hn ⟨at_,(Fp l).map fresh,0⟩ r0 r1)]:=by
 have cs:=xM (l:=l) (λx hx=>Dp.pb (hl x hx).dp) (by omega);have cl:=Sy (b:=at_) (l:=[]) ha.tb (λt ht=>by cases ht) (by decide) rfl;have hs:(Fp l).length=l.length:=Dc l;refine Fw func157 rfl ?_;refine Uc [.o 8 276 18,.k cs] rfl ?_;refine Uh (S:=Nat) 3 (λL1 i=>(15,.v (.oi i))::(8,.v (.one (.orow 2 18 none)))::L1) (λi=>[.blk T (mU (.row r0) (.row r1)),.blk 189 (ta at_),.row false 276 18 (Co (((Fp l).map fresh).take i))]) (λi=>l.length-i) (λi=>i<=l.length) 0 (Qh _) rfl rfl λi hi=>?_
 by_cases hlt:i<l.length
 ·obtain ⟨x,hx⟩:=gxE (l:=(Fp l)) (i:=i) (by omega);have hm:∀ y∈[wl (fresh x)],y.length=18:=λy hy=>by rw [Qk.1 hy]; rfl
  have hlt':decide ((i:Int)<((Fg (Fp l)).length:Int))=true:=by simp [Fg]; omega
  have hg:=Ep (l:=(Fp l).map fresh) (i:=i) (w:=fresh x) (by rw [Zb,hx]; rfl);refine go tt [.t hlt',.x (KV hx),.z 20,.f rfl,.s (sz:=18) hm] rfl (by simp [Uw,Sk]; omega) ?_;exact rd (i+1) (by omega) hlt (by rw [hg]; rfl)
 ·obtain rfl:i=l.length:=by omega
  rw [Qn (by simp; omega)];have hge:decide ((l.length:Int)<((Fg (Fp l)).length:Int))=false:=by simp [Fg]; omega
  exact Ug [] [0] [.f hge,.p 2,.k cl] rfl
theorem JM {T:Nat} {r0 r1:Ur} {at_:Tm} {l:List Ct} (ha:Va at_) (hl:∀ x∈l,Cp x.p) (hn:l.length≤1000):Uz prog 126 [.one (.ow 0 0),.agg (ta at_),.one (.row (Fg l))] [.blk T (mU (.row r0) (.row r1))] [] [.blk T (Hn ⟨at_,(Fp l).map fresh,0⟩ r0 r1)]:=by
 have cl:=Qmq (T:=T) (r0:=r0) (r1:=r1) ha hl hn;refine Fw func126 rfl ?_;exact Ug [] [0] [.g 12 false rfl,.c [0] cl] rfl
theorem eB {a b:Bool} (h:a=b):TV.one (LV.bool a)=.one (.bool b):=h ▸ rfl
theorem JB {T:Nat} {c:Cr} {r0 r1:Ur} {at_:Tm} {l:List Ct} {ws:List Wt} {k:Int} (hc:CrOk c) (ha:Va at_) (hk:UX at_ c.now=some k) (h0:0≤k) (hl:∀ x∈l,Cp x.p) (hn:l.length≤1000) (h:Rz c.l at_ (Fp l)=some ws):Uz prog 126 [.one (.ow 0 0),.agg (ta at_),.one (.row (Fg l))] [.blk T (Hn c r0 r1)] [] [.blk T (Hn ⟨at_,ws,c.ev⟩ r0 r1)]:=by
 have cl:=WE (T:=T) (r0:=r0) (r1:=r1) hc ha hl hn h;have cc:=VE ha.tb hc.n.tb hk;refine Fw func126 rfl ?_;exact Ug [] [0] [.g 12 true rfl,.k cc,.r 20 (eB (show decide (0<=k)=true by simpa using h0)),.c [0] cl] rfl
theorem MH:∀ {k:Nat} {g:Ul} {l:Um},Pb g->RJ k g=some l->l.length≤k/\∀ p∈l,Pb p
 | 0,_,_,_,h=>by cases h
 |
  k+1,g,l,hg,h=>by
  simp only [RJ] at h
  split at h
  ·injection h with h; subst h; exact ⟨by simp,λp hp=>by cases hp⟩
  ·obtain ⟨d,hd,h⟩:=Qd.1 h;obtain ⟨rfl,hdp⟩:=LP hd;obtain ⟨x,hx,h⟩:=Qd.1 h;obtain ⟨q,hq,h⟩:=Qd.1 h;obtain ⟨r,hr,h⟩:=Qd.1 h;injection h with h; subst h;obtain ⟨i1,i2⟩:=MH (RB hg hdp hx) hr;refine ⟨by simp; exact i1,λp hp=>?_⟩;rcases Qm.1 hp with rfl | hp
   ·exact bK hq
   ·exact i2 p hp
theorem Qfk {a:Ul} {l:Um} (ha:Pb a) (h:RJ 66 (Fb a)=some l):Ui 384 [pr a] [.one (.row (S6 l))]:=by
 have hp:=Rt ha;refine Fw func384 rfl ?_;refine Uc [.o 3 31 1,.k (Az ha)] rfl ?_;refine Uh (S:=Nat×Um×Ul) 1 (λL1 s=>(4,.v (pr s.2.2))::(3,.v (.one (.orow 0 1 none)))::L1) (λs=>[.row false 31 1 (S6 s.2.1)]) (λs=>s.1) (λs=>Pb s.2.2/\s.2.1.length+s.1<=66/\∃ m,RJ s.1 s.2.2=some m/\s.2.1++m=l) (66,[],Fb a) ⟨hp,Ql _,l,h,rfl⟩ rfl rfl λ⟨k,out,g⟩ ⟨j1,j2,m,j3,j4⟩=>?_
 dsimp only at j1 j2 j3 j4 ⊢;cases k with
 | zero=>cases j3
 |
  succ k =>
  simp only [RJ] at j3
  split at j3
  ·rename_i h0;injection j3 with j3; subst j3;rw [Zv] at j4;subst j4;exact Ue [.k (Mq _),.f (by simp; omega)] rfl
  ·rename_i h0;obtain ⟨d,hd,j3⟩:=Qd.1 j3;obtain ⟨rfl,hdp⟩:=LP hd;obtain ⟨x,hx,j3⟩:=Qd.1 j3;obtain ⟨q,hq,j3⟩:=Qd.1 j3;obtain ⟨r,hr,j3⟩:=Qd.1 j3;injection j3 with j3; subst j3;have hxp:=RB j1 hdp hx;refine go tt [.k (Mq _),.t (by simp; omega),.k (Iw j1.ln j1.bd),.k (lE j1 hdp hx),.k (Qfw j1 hxp hq),.s (sz:=1) (l:=[[pl q]]) (λc hc=>by rw [Qk.1 hc]; rfl)] rfl (by simp [Uw,El]; omega) ?_;exact rd (k,out++[q],x) (by dsimp only; omega) ⟨hxp,by simp; omega,r,hr,by rw [<-j4]; simp⟩ (by rw [LL]; rfl)
theorem CM:∀ {l r:Um},AP l=some r->r.length=l.length/\∀ i w,l[i]? = some w->(match l[i+1]? with | some v=>∃ f,XA w v=some f/\r[i]? = some f | none=>r[i]? = some w)
 | [],r,h=>by injection h with h; subst h; exact ⟨rfl,λi w hw=>by simp at hw⟩
 |
  [w],r,h=>by
  injection h with h; subst h;refine ⟨rfl,λi x hx=>?_⟩;cases i with
  | zero=>simpa using hx
  | succ i=>simp at hx
 |
  w::v::l,r,h=>by
  simp only [AP] at h;obtain ⟨f,hf,h⟩:=Qd.1 h;obtain ⟨s,hs,h⟩:=Qd.1 h;injection h with h; subst h;obtain ⟨i1,i2⟩:=CM hs;refine ⟨by simp [i1],λi x hx=>?_⟩;cases i with
  |
   zero =>
   injection hx with hx; subst hx;exact ⟨f,hf,rfl⟩
  |
   succ i =>
   have:=i2 i x (by simpa using hx);simpa using this
theorem jS:∀ {l r:Um},(∀ p∈l,Pb p)->AP l=some r->∀ p∈r,Pb p
 | [],r,_,h=>by injection h with h; subst h; exact λp hp=>by cases hp
 | [w],r,hl,h=>by injection h with h; subst h; exact hl
 |
  w::v::l,r,hl,h=>by
  simp only [AP] at h;obtain ⟨f,hf,h⟩:=Qd.1 h;obtain ⟨s,hs,h⟩:=Qd.1 h;injection h with h; subst h;intro p hp;rcases Qm.1 hp with rfl | hp
  ·exact bK hf
  ·exact jS (λp hp=>hl p (Qg _ hp)) hs p hp
theorem Qa4 {a:Ul} {l r:Um} (ha:Pb a) (h:RJ 66 (Fb a)=some l) (hr:AP l=some r):Ui 379 [pr a] [.one (.row (S6 r))]:=by
 obtain ⟨i1,i2⟩:=MH (Rt ha) h;obtain ⟨j1,j2⟩:=CM hr;have hw:=El l;refine Fw func379 rfl ?_;refine go tt [.k (Qfk ha h),.i (S6 l).length,.i (S6 l).length] rfl (by simp [Uw,hw]; omega) ?_;rw [hw,E6 λi=>[pl (r.getD i [])]];refine Uh (S:=Nat) 1 (λL1 k=>(14,.v (.oi k))::L1) (λk=>[.row false 31 1 (AY (λi=>[pl (r.getD i [])]) [.nils] l.length k)]) (λk=>l.length-k) (λk=>k<=l.length) 0 (Qh _) rfl rfl λk hk=>?_
 by_cases hlt:k<l.length
 ·obtain ⟨w,hx⟩:=gxE (l:=l) (i:=k) hlt;have e:=QG (λi=>[pl (r.getD i [])]) [.nils] hlt;have hg:=j2 k w hx;by_cases h2:k+1<l.length
  ·obtain ⟨v,hv⟩:=gxE (l:=l) (i:=k+1) h2;rw [hv] at hg;obtain ⟨f,f1,f2⟩:=hg;have e2:r.getD k []=f:=by rw [Qi,f2]; rfl
   rw [e2] at e;refine go tt [.t (by simp [hw]; omega),.x (Rh hx),.i k,.t (by simp [hw]; omega),.x (i:=k+1) (Rh hv),.k (Qfw (i2 w (Qa hx)) (i2 v (Qa hv)) f1),.i k] rfl (by simp [Uw,Ia,hw]; omega) ?_;rw [List.set_set,e];exact rd (k+1) (by omega) hlt rfl
  ·have hv:l[k+1]? = none:=Qw (by omega);rw [hv] at hg;have e2:r.getD k []=w:=by rw [Qi,hg]; rfl
   rw [e2] at e;refine go tt [.t (by simp [hw]; omega),.x (Rh hx),.i k,.f (by simp [hw]; omega)] rfl (by simp [Uw,Ia,hw]; omega) ?_;rw [e];exact rd (k+1) (by omega) hlt rfl
 ·obtain rfl:k=l.length:=by omega
  have e:AY (λi=>[pl (r.getD i [])]) [.nils] l.length l.length=S6 r:=by
   rw [QF,<-j1];refine Xn λi=>?_
   simp only [S6,Zb];by_cases hi:i<r.length
   ·rw [X6 hi]; simp [Qi,Qe hi]
   ·rw [Qw (by simpa using hi),Qw (by simpa using hi)]; rfl
  rw [e];exact Ue [.f (by simp [hw])] rfl
theorem bR {p:Ul} (tp:U6 p):Fb (Fb p)=Fb p:=by
 by_cases h:p.length=0
 ·have e:Fb p=[]:=by unfold Fb; rw [if_pos h]
  rw [e]; rfl
 ·obtain ⟨h1,h2,h3,h4,_⟩:=Ma tp h;have hc:S7 (Fb p)=1:=by
   have h5:S7 (Fb p)∣1:=h3 _ λk=>by
    by_cases hk:k<(Fb p).length
    ·rw [Qi,Qe hk]; exact Ek _ (Xv hk)
    ·rw [Qi,Qw (by omega)]; exact Int.dvd_zero _
   have h6:0<=S7 (Fb p):=by unfold S7; omega
   exact Int.eq_one_of_dvd_one h6 h5
  have hf:∀ q:Ul,0<Fi q->Hi q=S7 q:=λq hq=>by unfold Hi; rw [if_neg (by omega)]
  have hf:=(hf _ h4).trans hc;have e0:∀ q:Ul,q.length≠0->Fb q=Cw q (Hi q):=λq hq=>by unfold Fb; rw [if_neg hq]
  have e:=e0 (Fb p) (by omega);rw [hf] at e;rw [e];unfold Cw;have e2:(Fb p).map (· / (1:Int))=Fb p:=by
   conv=>rhs; rw [<-List.map_id (Fb p)]
   exact Xt λz _=>by simp
  rw [e2];exact h1
theorem Qag (i:Nat):(i:Int).tmod 2=((i % 2:Nat):Int):=rfl
theorem Qtk {a:Ul} (ha:Pb a) (h:(Fb a).length=0):Ui 375 [pr a] [pr []] :=
 Uf func375 rfl [.k (Az ha),.t (by simp [Qj h])] rfl
theorem YU:∀ {l:Um} {i:Nat} {p o:Ul},Pb p->(∀ f∈l,Pb f)->FV i p l=some o->Pb o
 | [],i,p,o,hp,_,h=>by simp only [FV] at h; injection h with h; subst h; exact hp
 |
  f::l,i,p,o,hp,hl,h=>by
  simp only [FV] at h
  split at h
  ·obtain ⟨q,hq,h⟩:=Qd.1 h;obtain ⟨rfl,hq'⟩:=QY (Hq _ _) hq;exact YU hq' (λf hf=>hl f (Qg _ hf)) h
  ·exact YU hp (λf hf=>hl f (Qg _ hf)) h
theorem Qje:Pb [1]:=⟨rfl,by decide,λz hz=>by rw [Qk.1 hz]; decide⟩
theorem Qxn {a o:Ul} (ha:Pb a) (h:bF a=some o):Ui 375 [pr a] [pr o]:=by
 unfold bF at h
 split at h
 ·rename_i h0;injection h with h; subst h;exact Qtk ha h0
 rename_i h0;obtain ⟨l,hl,h⟩:=Qd.1 h;obtain ⟨fs,hf,h⟩:=Qd.1 h;have hpa:=Rt ha;have hl':RJ 66 (Fb (Fb a))=some l:=by rw [bR ha.t]; exact hl
 obtain ⟨i1,i2⟩:=MH (Rt ha) hl;have i3:=jS i2 hf;obtain ⟨j1,_⟩:=CM hf;have hw:=El fs;have co:=lK (p:=[1]) (by decide) (λz hz=>by rw [Qk.1 hz]; decide);rw [show trim [1]=[1] from rfl] at co;refine Fw func375 rfl ?_;refine Uc [.k (Az ha),.f (by simpa using h0),.k co,.k (Qa4 hpa hl' hf)] rfl ?_ (by simp [Uw]);refine Uh (S:=Nat×Ul) 0 (λL1 s=>(16,.v (.oi (s.1:Int)))::(3,.v (pr s.2))::L1) (λ_=>[]) (λs=>fs.length-s.1) (λs=>s.1<=fs.length/\Pb s.2/\FV s.1 s.2 (fs.drop s.1)=some o) (0,[1]) ⟨Qh _,Qje,h⟩ rfl rfl λ⟨i,p⟩ ⟨k1,k2,k3⟩=>?_
 dsimp only at k1 k2 k3 ⊢;by_cases hlt:i<fs.length
 ·obtain ⟨f,hx⟩:=gxE (l:=fs) (i:=i) hlt;have hdr:fs.drop i=f::fs.drop (i+1):=by
   rw [Zu hlt]; congr 1;have:=Qe hlt; rw [hx] at this; injection this with this; exact this.symm
  rw [hdr] at k3;simp only [FV] at k3;have pf:=i3 f (Qa hx);by_cases h2:i % 2=0
  ·rw [if_pos h2] at k3;obtain ⟨q,hq,k3⟩:=Qd.1 k3;obtain ⟨rfl,hq'⟩:=QY (Hq _ _) hq;refine Ud [.t (by simp [hw]; omega),.x (Rh hx),.t (by rw [Qag,h2]; rfl),.k (HY k2.t pf.t (Z2 k2.l (by decide)) (Z2 pf.l (by decide)) k2.b pf.b (by decide))] rfl ?_;exact rd (i+1,Gf p f) (by dsimp only; omega) ⟨hlt,hq',k3⟩ rfl
  ·rw [if_neg h2] at k3;refine Ud [.t (by simp [hw]; omega),.x (Rh hx),.f (by rw [Qag,show i % 2=1 by omega]; rfl)] rfl ?_;exact rd (i+1,p) (by dsimp only; omega) ⟨hlt,k2,k3⟩ rfl
 ·obtain rfl:i=fs.length:=by omega
  rw [Y9] at k3;simp only [FV] at k3;injection k3 with k3; subst k3;exact Ue [.f (by simp [hw])] rfl
theorem QR (z:Int):U9 (z.natAbs:Int)=U9 z:=by unfold U9; simp
theorem Qfd {x y:LV} {z:Int} (hi:Gj x y z) (hs:U9 z<=4294967295):Ui 380 [.agg [x,y]] [.agg (Hg (z.natAbs:Int))]:=by
 obtain ⟨b,l,rfl,rfl,hl,rfl⟩:=hi;have e:(U8 false (val l))=((U8 b (val l)).natAbs:Int):=by rw [Rm]; rfl
 rw [<-e];exact Uf func380 rfl [.k (VA hl (Qc (Pj hs) (by decide))),.k (Pm _ _)] rfl
theorem Qnl {n d:Int} (h0:d≠0) (hn:U9 n<=4294967295) (hd:U9 d<=4294967295):Ui 381 [.agg (Hg n),.agg (Hg d)] [.agg (rl (Rat.divInt n d)),.oi 0] :=
 Uf func381 rfl [.k (Bt (Uy d) hd),.k Lh,.f (by simpa using h0),.k (Bt (Uy n) hn),.k (ZT h0 hn hd)] rfl
theorem Qcj (l:Ul) (z:Int):most (l++[z])=if most l<z.natAbs then z.natAbs else most l:=by unfold most; rw [List.foldl_append]; rfl
theorem iG {s:Nat}:∀ {l:Ul},Bd s l->U9 (most l:Int)<=s:=λ{l}=>by
 suffices h:∀ (l:Ul) (m:Nat),Bd s l->U9 (m:Int)<=s->U9 ((l.foldl (λm z=>if m<z.natAbs then z.natAbs else m) m:Nat):Int)<=s from λhb=>h l 0 hb (by simp [U9,sz])
 intro l
 induction l with
 | nil=>exact λm _ h=>h
 |
  cons z l ih =>
  intro m hb hm;refine ih _ (λy hy=>hb y (Qg _ hy)) ?_;show U9 ((if m<z.natAbs then z.natAbs else m:Nat):Int)<=s
  split
  ·rw [QR]; exact hb z (Qy ..)
  ·exact hm
def ozi:Option Nat->Uq
 | none=>[.bool false,.nils]
 | some m=>Hg (m:Int)
def ozr:Option Nat->Uq
 | none=>[.bool false,.row []]
 | some m=>Hg (m:Int)
theorem Qml {p:Ul} (hp:Pb p) (h0:p.length≠0):Ui 376 [pr p] [.agg (rl (Gp p)),.oi 0]:=by
 have hl:=hp.l;have hll:(p.take (p.length-1)).length=p.length-1:=by simp
 have hbt:Bd 16777216 (p.take (p.length-1)):=λz hz=>hp.b z (Qo hz)
 refine Fw func376 rfl ?_;refine Ud [.k (Hp hp.t hp.ln hp.bd),.f (by simpa using h0),.r 18 (eI (b:=((p.length-1:Nat):Int)) (by simp; omega)),.i (p.length-1)] rfl ?_;rw [<-Jt];refine Uh (S:=Nat×Option Nat) 2 (λL1 s=>(21,.v (.oi (s.1:Int)))::L1) (λs=>[.blk 40 [.bool false,.nils,.bool false,.nils],.blk 34 (ozi s.2)]) (λs=>p.length-1-s.1) (λs=>s.1<=p.length-1/\most ((p.take (p.length-1)).take s.1)=s.2.getD 0) (0,none) ⟨Qh _,rfl⟩ rfl rfl λ⟨i,o⟩ ⟨j1,j2⟩=>?_
 dsimp only at j1 j2 ⊢;by_cases hlt:i<p.length-1
 ·obtain ⟨z,hz⟩:=gxE (l:=(p.take (p.length-1))) (i:=i) (by omega);have bz:U9 z<=16777216:=hbt z (Qa hz);have hst:most ((p.take (p.length-1)).take (i+1))=if o.getD 0<z.natAbs then z.natAbs else o.getD 0:=by
   rw [Z3,hz]; show most (_++[z])=_; rw [Qcj,j2]
  have ca:=Qfd (Uy z) (Qc bz (by decide));have hl1:decide ((i:Int)<(((p.take (p.length-1)).map Hg).length:Int))=true:=by simp; omega
  have bm:U9 ((o.getD 0:Nat):Int)<=16777216:=by rw [<-j2]; exact iG λy hy=>hbt y (Qo hy)
  have hcm:Dv (z.natAbs:Int) ((o.getD 0:Nat):Int)>0↔o.getD 0<z.natAbs:=by unfold Dv; split <;> (try split) <;> omega
  have cc:Ui 101 [.agg (Hg (z.natAbs:Int)),.agg (ozr o)] [.oi (Dv (z.natAbs:Int) ((o.getD 0:Nat):Int))]:=by
   cases o with
   | none=>exact HK (Uy _) QH (by rw [QR]; omega) (by decide)
   | some m=>exact HK (Uy _) (Uy _) (by rw [QR]; omega) (Qc bm (by decide))
  by_cases hc:o.getD 0<z.natAbs
  ·rw [if_pos hc] at hst;have hd:decide (Dv (z.natAbs:Int) ((o.getD 0:Nat):Int)>0)=true:=by simpa using hcm.2 hc
   cases o <;> (refine Ud [.t hl1,.x (G7 (f:=Hg) hz),.k ca,.k cc,.t hd] rfl ?_; exact rd (i+1,some z.natAbs) (by dsimp only; omega) ⟨hlt,hst⟩ rfl)
  ·rw [if_neg hc] at hst;have hd:decide (Dv (z.natAbs:Int) ((o.getD 0:Nat):Int)>0)=false:=by
    have:=mt hcm.1 hc; simpa using this
   cases o with
   | none=>refine Ud [.t hl1,.x (G7 (f:=Hg) hz),.k ca,.k cc,.f hd] rfl ?_; exact rd (i+1,none) (by dsimp only; omega) ⟨hlt,hst⟩ rfl
   | some m=>refine Ud [.t hl1,.x (G7 (f:=Hg) hz),.k ca,.k cc,.f hd] rfl ?_; exact rd (i+1,some m) (by dsimp only; omega) ⟨hlt,hst⟩ rfl
 ·obtain rfl:i=p.length-1:=by omega
  rw [Qn (by omega)] at j2;have bl:U9 (Fi p)<=16777216:=hp.b _ (DL h0);have ln:((Fi p).natAbs:Int)≠0:=by have:=L8 hp.t h0; omega
  have cl:=De hp.t hp.ln hp.bd;have ca:=Qfd (Uy (Fi p)) (Qc bl (by decide));have bm:U9 ((o.getD 0:Nat):Int)<=16777216:=by rw [<-j2]; exact iG hbt
  have cd:Ui 219 [.agg (Hg ((Fi p).natAbs:Int)),.agg (ozr o)] [.agg (Hg (((Fi p).natAbs:Int)+(most (p.take (p.length-1)):Int)))]:=by
   rw [j2];cases o with
   | none=>exact VO (Uy _) QH (by rw [QR]; omega) (by decide)
   | some m=>exact VO (Uy _) (Uy _) (by rw [QR]; omega) (Qc bm (by decide))
  have cm:=Qnl (n:=((Fi p).natAbs:Int)+(most (p.take (p.length-1)):Int)) ln (Qc (YJ _ _) (by rw [QR,j2]; omega)) (by rw [QR]; omega);have hf:decide (((p.length-1:Nat):Int)<(((p.take (p.length-1)).map Hg).length:Int))=false:=by simp
  cases o <;> exact Ue [.f hf,.k cl,.k ca,.k cd,.k cm] rfl
theorem Qri {z:Int}:Ui 358 [.agg (Hg z)] [.oi (Int.sign z)]:=by
 by_cases h0:z=0
 ·subst h0;exact Uf func358 rfl [.t (by simp [U0,Gz])] rfl
 ·have hl:(Fy z.natAbs).length≠0:=λh=>h0 (Qcf.1 h)
  have hl':decide (((lm (Fy z.natAbs)).length:Int)=0)=false:=by simpa [U0] using hl
  by_cases h1:z<0
  ·rw [J6 h1];exact Uf func358 rfl [.f hl',.t (by simpa using h1)] rfl
  ·rw [Ys (by omega)];exact Uf func358 rfl [.f hl',.f (by simpa using h1)] rfl
theorem Qeg {p:Ul} (hp:Pb p):Ui 386 [pr p] [.oi (ZK p),.oi (UH p)]:=by
 have hb:-1<=(Fi p).sign/\(Fi p).sign<=1:=by rcases Ap (Fi p) with h | h | h <;> omega
 by_cases h:p.length % 2=0
 ·have e:ZK p=-(Fi p).sign:=by unfold ZK; rw [if_pos h]
  rw [e];exact Uf func386 rfl [.k (Hp hp.t hp.ln hp.bd),.k (De hp.t hp.ln hp.bd),.k Qri,.t (by rw [Qag]; simp [h])] rfl rfl (by simp [Uw,Fi] at hb ⊢; omega)
 ·have e:ZK p=(Fi p).sign:=by unfold ZK; rw [if_neg h]
  rw [e];exact Uf func386 rfl [.k (Hp hp.t hp.ln hp.bd),.k (De hp.t hp.ln hp.bd),.k Qri,.f (by rw [Qag]; simp; omega)] rfl rfl (by simp [Uw])
theorem Qfm {p:Ul} (hp:Pb p):Ui 385 [pr p] [.oi (ZK p)]:=Uf func385 rfl [.k (Qeg hp)] rfl
theorem Qnj {p:Ul} (hp:Pb p):Ui 387 [pr p] [.oi (UH p)]:=Uf func387 rfl [.k (Qeg hp)] rfl
theorem Qt2 {q:Rat} (hq:Qs 4294967295 q):Ui 139 [.agg (rl q)] [.agg (rl (-q))]:=by
 exact Uf func139 rfl [.k (BH hq),.k (NA (Uy _) hq.1)] rfl
theorem wI {l:Um} {fid:Nat} {sg:Ul->Int} (hl:l.length≤1000) (hs:∀ p,-1≤sg p/\sg p≤1) (h:∀ p∈l,AG prog fid [pr p] [.oi (sg p)]):Ui 296 [.one (.sh [.row (S6 l)]),.one (.fn fid [] [])] [.oi (Ci sg l:Nat)]:=by
 have hpl:=El l;refine Fw func296 rfl ?_;refine Uc [] rfl ?_;refine Uh (S:=Nat) 0 (λL1 i=>(15,.v (.oi i))::(5,.v (.oi ((VW sg l i).1:Int)))::(6,.v (.one (.int .i64 (VW sg l i).2)))::L1) (λ_=>[]) (λi=>l.length-i) (λi=>i<=l.length) 0 (Qh _) rfl rfl λi hi=>?_
 by_cases hlt:i<l.length
 ·obtain ⟨p,hp⟩:=gxE (l:=l) (i:=i) hlt;have hst:VW sg l (i+1)=Ph sg (VW sg l i) p:=Ts _ _ _ hp;obtain ⟨b1,b2,b3⟩:=vE hs l i;have b4:=hs p;by_cases h0:sg p=0
  ·refine Ud [.t (by simp [hpl]; omega),.x (Rh hp),.k (h p (Qa hp)),.t (by simpa using h0)] rfl ?_;exact rd (i+1) (by omega) hlt (by rw [hst,show Ph sg (VW sg l i) p=VW sg l i from by unfold Ph; rw [if_pos h0]]; rfl)
  ·by_cases h1:(VW sg l i).2=-(sg p)
   ·refine Ud [.t (by simp [hpl]; omega),.x (Rh hp),.k (h p (Qa hp)),.f (by simpa using h0),.t (by simpa using h1)] rfl ?_;exact rd (i+1) (by omega) hlt (by rw [hst,show Ph sg (VW sg l i) p=((VW sg l i).1+1,sg p) from by unfold Ph; rw [if_neg h0,if_pos h1]]; rfl)
   ·refine Ud [.t (by simp [hpl]; omega),.x (Rh hp),.k (h p (Qa hp)),.f (by simpa using h0),.f (by simpa using h1)] rfl ?_;exact rd (i+1) (by omega) hlt (by rw [hst,show Ph sg (VW sg l i) p=((VW sg l i).1,sg p) from by unfold Ph; rw [if_neg h0,if_neg h1]]; rfl)
 ·obtain rfl:i=l.length:=by omega
  refine Ue [.f (by simp [hpl])] rfl ?_ trivial;unfold VW Ci; rw [List.take_length]
theorem HN (p:Ul):(-1<=ZK p/\ZK p<=1)/\-1<=UH p/\UH p<=1:=by
 have hb:-1<=(Fi p).sign/\(Fi p).sign<=1:=by rcases Ap (Fi p) with h | h | h <;> omega
 unfold ZK UH
 split <;> omega
theorem Qmm {l:Um} (hl:l.length≤1000) (hp:∀ p∈l,Pb p):Ui 378 [.one (.sh [.row (S6 l)])] [.oi (WY l)]:=by
 have c1:Ui 382 [.one (.sh [.row (S6 l)])] [.oi (Ci ZK l:Nat)] :=
  Uf func382 rfl [.k (wI hl (λp=>(HN p).1) λp h=>Qfm (hp p h))] rfl
 have c2:Ui 383 [.one (.sh [.row (S6 l)])] [.oi (Ci UH l:Nat)] :=
  Uf func383 rfl [.k (wI hl (λp=>(HN p).2) λp h=>Qnj (hp p h))] rfl
 have b1:Ci ZK l<=l.length:=Ld (λp=>(HN p).1) l;have b2:Ci UH l<=l.length:=Ld (λp=>(HN p).2) l;exact Uf func378 rfl [.k c1,.k c2] rfl rfl (by simp [Uw]; omega)
theorem pU {l:Um} {lo hi:Rat} (hl:l.length<=1000):-1000<=Td l lo hi/\Td l lo hi<=1000:=by
 have b1:Cj l lo<=l.length:=Ld (λp=>On p lo) l;have b2:Cj l hi<=l.length:=Ld (λp=>On p hi) l;unfold Td; split <;> omega
abbrev tal (l:List Tm):Ur:=l.map λt=>ta t
theorem MC {p:Ul} {c:Um} (hp:Pb p):∀ {k:Nat} {lo hi:Rat} {n:Int} {r:List Tm},Qb lo->Qb hi->If p c k lo hi n=some r->∀ t∈r,Tb t
 | 0,_,_,_,_,_,_,h=>by cases h
 |
  k+1,lo,hi,n,r,hl,hh,h=>by
  simp only [If] at h
  split at h
  ·injection h with h; subst h; exact λt ht=>by cases ht
  ·split at h
   ·injection h with h; subst h;intro t ht; rw [Qk.1 ht]; exact ⟨hp,hl,hh⟩
   ·obtain ⟨m,hm,h⟩:=Qd.1 h;obtain ⟨rfl,qm⟩:=BM hm;obtain ⟨x,hx,h⟩:=Qd.1 h;obtain ⟨y,hy,h⟩:=Qd.1 h;injection h with h; subst h;intro t ht;rcases Qq.1 ht with ht | ht
    ·exact MC hp hl qm hx t ht
    ·exact MC hp qm hh hy t ht
theorem Qwf (l:List Tm):∀ c∈tal l,c.length=9:=λc hc=>by obtain ⟨t,_,rfl⟩:=Q6.1 hc; rfl
theorem mX {p:Ul} {c:Um} (hp:Pb p) (hcl:c.length≤1000) (hc:∀ q∈c,Pb q):∀ {k:Nat} {lo hi:Rat} {n:Int} {r:List Tm},Qb lo->Qb hi->k≤100000->-(1000*(100001-k:Nat))≤n/\n≤1000*(100001-k:Nat)->If p c k lo hi n=some r->r.length≤1000000->Uz prog 377 [pr p,.one (.sh [.row (S6 c)]),.agg (rl lo),.agg (rl hi),.oi n] [] [.one (.orow 0 9 none)] [.row false 189 9 (tal r)]
 | 0,_,_,_,_,_,_,_,_,h,_=>by cases h
 |
  k+1,lo,hi,n,r,hl,hh,hk,hn,h,hr=>by
  simp only [If] at h
  split at h
  ·rename_i h0;injection h with h; subst h;refine Fw func377 rfl ?_;exact Ug [] [2] [.t (by simpa using h0),.o 10 189 9] rfl
  ·rename_i h0
   split at h
   ·rename_i h1;injection h with h; subst h;refine Fw func377 rfl ?_;exact Ug [] [2] [.f (by simpa using h0),.t (by simpa using h1),.k (Hp hp.t hp.ln hp.bd),.k (Bu hl.s32),.k (Bu hh.s32),.lo] rfl
   ·rename_i h1;obtain ⟨m,hm,h⟩:=Qd.1 h;obtain ⟨rfl,qm⟩:=BM hm;obtain ⟨x,hx,h⟩:=Qd.1 h;obtain ⟨y,hy,h⟩:=Qd.1 h;injection h with h; subst h;have hb:=pU (l:=c) (lo:=lo) (hi:=mid lo hi) hcl;rw [Qu] at hr;have c1:=mX hp hcl hc hl qm (by omega) (by omega) hx (by omega);have c2:=mX hp hcl hc qm hh (by omega) (by omega) hy (by omega);rw [show tal (x++y)=tal x++tal y from Yf];refine Fw func377 rfl ?_;exact Ug [] [3] [.f (by simpa using h0),.f (by simpa using h1),.k (Qrh hl hh),.k (IY hcl hc hl qm),.c [3] c1,.c [4] c2,.s (Qwf y)] rfl (by simp [Uw]; omega)
theorem Qmz {p:Ul} {r:List Tm} (hp:Pb p) (h:SN p=some r) (hr:r.length<=1000000):Ui 374 [pr p] [.one (tas r),.oi 0]:=by
 unfold SN at h;obtain ⟨c,h1,h⟩:=Qd.1 h;obtain ⟨q,h2,h⟩:=Qd.1 h;obtain ⟨b,h3,h⟩:=Qd.1 h;obtain ⟨rfl,hb⟩:=BM h3;obtain ⟨k1,k2⟩:=chain_ok hp h1;have hq:=RN hp h2;have q0:q.length≠0:=by
  unfold Cq at h1;obtain ⟨a,a1,h1⟩:=Qd.1 h1;rw [h2] at a1; injection a1 with a1; subst a1
  split at h1
  ·cases h1
  ·assumption
 have qn:Qb (-Gp q):=⟨by rw [Rat.neg_num,Ht]; exact hb.1,by rw [Rat.neg_den]; exact hb.2⟩;have bb1:Ci ZK c<=c.length:=Ld (λp=>(HN p).1) c;have bb2:Ci UH c<=c.length:=Ld (λp=>(HN p).2) c;have hn:-(1000*(100001-100000:Nat):Int)<=WY c/\WY c<=1000*(100001-100000:Nat):=by unfold WY; omega
 have cr:=mX hq (by omega) k2 qn hb (Ql _) hn h hr;refine Fw func374 rfl ?_;exact Ug [1] [] [.k (Qe3 hp h1),.f rfl,.k (BX hp h2),.k (Qml hq q0),.k (Qt2 hb.s32),.k (Qmm (by omega) k2),.c [1] cr] rfl
def Uv (l:List Pt):Ur:=l.map U5
theorem Sp {l:List Pt} {i:Nat} {c:Pt} (h:l[i]? = some c):(Uv l)[i]? = some (U5 c):=G7 h
theorem Gu (l:List Pt):(Uv l).length=l.length:=by simp [Uv]
theorem YT (l:List Pt):∀ c∈Uv l,c.length=5:=λc hc=>by
 obtain ⟨x,_,rfl⟩:=Q6.1 hc; rfl
abbrev zPt:Uq:=[.nils,.nils,.bool false,.nils,.int .i64 0]
theorem aT {lt:Pt->Pt->Bool} {O:List Pt} {z:Uq} {c:Pt} {k m:Nat} {l2:Ur} (hk:k<=O.length) (hp:Lo lt O c O.length=k) (hm:m=O.length-k) (h2:l2.take m=((Uv O++[z]).drop k).take m) :
 ((Uv O++[z]).take (k+1)++(l2.take m++(Uv O++[z]).drop (k+1+m))).set k (U5 c)=Uv (Lj lt O c):=by
 rw [h2,<-Ze,fB (Uv O) z (U5 c) (by rw [Gu]; omega) (by rw [Gu]; omega)];simp [Lj,hp,Uv,Jt,Vh]
def Sf (t:Tm) (l:List Pt):List Pt:=Lu (Ti (Fl t)) l
theorem wT {l:List Pt} {t:Tm} (hl:∀ p∈l,Sc p.c) (hn:l.length≤1000000) (ht:Va t):Ui 159 [.agg (ta t),.one (pts l)] [.one (pts (Sf t l))]:=by
 have hcl:=Gu l;show Ui 159 [.agg (ta t),.one (.row (Uv l))] [.one (.row (Uv (Sf t l)))];obtain ⟨lt,hlt0⟩:=nmE (Ti (Fl t));unfold Sf;rw [<-hlt0];refine Fw func159 rfl ?_;refine Uc [.o 5 38 5] rfl ?_;refine Uh (S:=Nat) 2 (λL1 i=>(11,.v (.oi i))::(5,.v (.one (.orow 1 5 none)))::L1) (λi=>[.blk 189 (ta t),.row false 38 5 (Uv (Lu lt (l.take i)))]) (λi=>l.length-i) (λi=>i<=l.length) 0 (Qh _) rfl rfl λi hi=>?_
 by_cases hlt:i<l.length
 ·obtain ⟨c,hc⟩:=gxE (l:=l) (i:=i) hlt;have hst:Lu lt (l.take (i+1))=Lj lt (Lu lt (l.take i)) c:=dQ hc;have hcp:=hl c (Qa hc);obtain ⟨O,hO⟩:=nmE (Lu lt (l.take i));have hOl:O.length=i:=by rw [hO,zC,Qr]; omega
  have hOm:∀ x∈O,Sc x.c:=λx hx=>by rw [hO,Qc7] at hx; exact hl x (Qo hx)
  rw [<-hO] at hst ⊢;refine Uc [.t (by simp [hcl]; omega),.x (Sp hc)] rfl ?_;refine Uh (S:=Nat) 3 (λL1 k=>(8,.v (.oi k))::L1) (λk=>[.blk 189 (ta t),.row false 38 5 (Uv O),.blk 38 (U5 c)]) id (λk=>k<=O.length/\Lo lt O c k=Lo lt O c O.length) (Uv O).length ⟨by rw [Gu]; exact Ql _,by rw [Gu]⟩ rfl rfl λk ⟨hk,hp⟩=>?_
  have hz:∀ y∈[zPt],y.length=5:=λy hy=>by rw [Qk.1 hy]; rfl
  have h77:∀ y∈Uv O++[zPt],y.length=5:=λy hy=>by
   rcases Qq.1 hy with hy | hy
   ·exact YT O y hy
   ·exact hz y hy
  cases k with
  |
   zero =>
   have hp:Lo lt O c O.length=0:=by rw [<-hp]; rfl
   refine go tt [.g 19 false (by simp),.f rfl,.s (sz:=5) hz,.r 37 (eI (b:=((0+1:Nat):Int)) (by simp)),.i (0+1),.i (0),.s (sz:=5) (λy hy=>h77 y (Qo hy)),.i (O.length),.i (0)] rfl (by simp [Uw,Gu]; omega) ?_;exact rd (i+1) (by omega) hlt (by rw [hst,<-aT (z:=zPt) (l2:=(Uv O++[zPt]).take ((Uv O++[zPt]).length-0)) (k:=0) (m:=O.length) (by omega) hp (by omega) (by congr 1; exact Qn (by simp))]; rfl)
  |
   succ k =>
   obtain ⟨x,hx⟩:=gxE (l:=O) (i:=k) (by omega);have cb:=Qd8 hcp (hOm x (Qa hx)) ht;rw [<-hlt0] at cb;by_cases hlc:lt c x=true
   ·refine go tt [.g 19 true (by simp),.r 23 (eI (b:=(k:Int)) (by simp)),.i k,.x (Sp hx),.k cb,.t hlc,.r 30 (eI (b:=(k:Int)) (by simp))] rfl (by simp [Uw,Gu]; omega) ?_;exact rd k (by simp) ⟨by omega,by rw [<-hp,oJ hx hlc]⟩ rfl
   ·have hlc:lt c x=false:=by simpa using hlc
    have hp:Lo lt O c O.length=k+1:=by rw [<-hp,rN hx hlc]
    refine go tt [.g 19 true (by simp),.r 23 (eI (b:=(k:Int)) (by simp)),.i k,.x (Sp hx),.k cb,.f hlc,.s (sz:=5) hz,.r 37 (eI (b:=((k+1+1:Nat):Int)) (by simp)),.i (k+1+1),.i (k+1),.s (sz:=5) (λy hy=>h77 y (Q0 (Qo hy))),.i (O.length-(k+1)),.i (k+1)] rfl (by simp [Uw,Gu]; omega) ?_;exact rd (i+1) (by omega) hlt (by rw [hst,<-aT (z:=zPt) (l2:=((Uv O++[zPt]).drop (k+1)).take ((Uv O++[zPt]).length-(k+1))) (k:=k+1) (m:=O.length-(k+1)) (by omega) hp (by omega) (by congr 1; exact Qn (by simp))]; rfl)
 ·obtain rfl:i=l.length:=by omega
  rw [Q7];exact Ue [.f (by simp [hcl])] rfl
def Ss (sg:Ul->Int):List Pt->List Ct
 | a::b::l=>QN sg a b::Ss sg (b::l)
 | _=>[]
theorem Bb (sg:Ul->Int):∀ l:List Pt,(Ss sg l).length=l.length-1
 | []=>rfl
 | [_]=>rfl
 | a::b::l=>by simp only [Ss,Q4,Bb sg (b::l)]; omega
theorem TQ (sg:Ul->Int):∀ {l:List Pt} {i:Nat} {a b:Pt},l[i]? = some a->l[i+1]? = some b->(Ss sg l).take (i+1)=(Ss sg l).take i++[QN sg a b]
 | [],i,a,b,h,_=>by simp at h
 | [x],i,a,b,_,h=>by cases i <;> simp at h
 | x::y::l,0,a,b,h1,h2=>by simp at h1 h2; subst h1; subst h2; simp [Ss]
 |
  x::y::l,i+1,a,b,h1,h2=>by
  have ih:=TQ sg (l:=y::l) (i:=i) (a:=a) (b:=b) (by simpa using h1) (by simpa using h2);simp only [Ss,Ve] at ih ⊢;rw [ih]; rfl
theorem BZ {l:List Pt} {t:Tm} (hl:∀ p∈l,Sc p.c) (hn:l.length≤1000000) (ht:Va t):Ui 161 [.agg (ta t),.one (pts l)] [.one (.row (Fg (Ss (Fl t) l)))]:=by
 have hcl:=Gu l;show Ui 161 [.agg (ta t),.one (.row (Uv l))] [.one (.row (Fg (Ss (Fl t) l)))];refine Fw func161 rfl ?_;refine Uc [.o 5 136 7] rfl ?_;refine Uh (S:=Nat) 2 (λL1 i=>(6,.v (.oi ((i+1:Nat):Int)))::(5,.v (.one (.orow 1 7 none)))::L1) (λi=>[.blk 189 (ta t),.row false 136 7 (Fg ((Ss (Fl t) l).take i))]) (λi=>l.length-i) (λi=>i<=l.length-1) 0 (Qh _) rfl rfl λi hi=>?_
 by_cases hlt:i+1<l.length
 ·obtain ⟨a,ha⟩:=gxE (l:=l) (i:=i) (by omega);obtain ⟨b,hb⟩:=gxE (l:=l) (i:=i+1) hlt;have hg:=TQ (Fl t) ha hb;have hm:∀ y∈[Lm (QN (Fl t) a b)],y.length=7:=λy hy=>by rw [Qk.1 hy]; rfl
  refine go tt [.t (by simp [hcl]; omega),.r 19 (eI (b:=(i:Int)) (by simp)),.x (Sp ha),.x (Sp hb),.k (lY (hl a (Qa ha)) (hl b (Qa hb)) ht),.s (sz:=7) hm,.r 14 (eI (b:=((i+1+1:Nat):Int)) (by simp))] rfl (by simp [Uw,Gu,Nk,Bb]; omega) ?_;exact rd (i+1) (by omega) (by omega) (by rw [hg]; simp [Fg]; rfl)
 ·have e:(Ss (Fl t) l).take i=Ss (Fl t) l:=Qn (by rw [Bb]; omega);rw [e];exact Ue [.f (by simp [hcl]; omega)] rfl
theorem Qm1:Ui 243 [pr []] [.one .nilp,.oi 2]:=by
 have h:Sv []=some []:=rfl;exact Uf func243 rfl [.k (BX RP h),.t rfl] rfl
theorem Qe2:Ui 374 [pr []] [.one (.row []),.oi 2] :=
 Uf func374 rfl [.k Qm1,.t rfl] rfl
theorem Qvm {a o:Ul} (ha:Pb a) (h:bF a=some o):Pb o:=by
 unfold bF at h
 split at h
 ·injection h with h; subst h; exact RP
 ·obtain ⟨l,hl,h⟩:=Qd.1 h;obtain ⟨fs,hf,h⟩:=Qd.1 h;exact YU Qje (jS (MH (Rt ha) hl).2 hf) h
theorem Qeh {p:Ul} {l:List Tm} (hp:Pb p) (h:QI p=some l) (hl:l.length<=1000000):Ui 373 [pr p] [.one (tas l)]:=by
 unfold QI at h;obtain ⟨q,hq,h⟩:=Qd.1 h;have qp:=Qvm hp hq;have co:=Qxn hp hq
 split at h
 ·rename_i h0;injection h with h; subst h;obtain rfl:=Qj h0;exact Uf func373 rfl [.k co,.k Qe2,.t rfl] rfl
 ·exact Uf func373 rfl [.k co,.k (Qmz qp h hl),.f rfl] rfl
def ota:Option Tm->Uq
 | none=>zTr
 | some t=>ta t
theorem Qmo {p:Ul} {a:Tm} {l:List Tm} {r:Option Tm} (hp:Pb p) (ha:Tb a) (h:QI p=some l) (hl:l.length≤1000000) (ht:∀ t∈l,Tb t) (hr:VS a l=some r):Ui 372 [pr p,.agg (ta a)] [.agg (ota r),.one (.bool r.isSome)]:=by
 have hll:(l.map λt=>ta t).length=l.length:=by simp
 refine Fw func372 rfl ?_;refine Uc [.k (Qeh hp h hl)] rfl ?_;refine Uh (S:=Nat) 2 (λL1 i=>(11,.v (.oi i))::L1) (λ_=>[.blk 189 (ta a),.blk 189 zTm]) (λi=>l.length-i) (λi=>i<=l.length/\VS a (l.drop i)=some r) 0 ⟨Qh _,hr⟩ rfl rfl λi ⟨hi,hf⟩=>?_
 by_cases hlt:i<l.length
 ·obtain ⟨t,hx⟩:=gxE (l:=l) (i:=i) hlt;have hdr:l.drop i=t::l.drop (i+1):=by
   rw [Zu hlt]; congr 1;have:=Qe hlt; rw [hx] at this; injection this with this; exact this.symm
  rw [hdr] at hf;simp only [VS] at hf;obtain ⟨c,c1,hf⟩:=Qd.1 hf;have cc:=VE (ht t (Qa hx)) ha c1;by_cases hc:0<c
  ·rw [if_pos hc] at hf;injection hf with hf; subst hf;exact Ue [.t (by simp; omega),.x (NX hx),.k cc,.t (by simpa using hc)] rfl
  ·rw [if_neg hc] at hf;refine Ud [.t (by simp; omega),.x (NX hx),.k cc,.f (by simpa using hc)] rfl ?_;exact rd (i+1) (by omega) ⟨hlt,hf⟩ rfl
 ·obtain rfl:i=l.length:=by omega
  rw [Y9] at hf;simp only [VS] at hf;injection hf with hf; subst hf;exact Ue [.f (by simp)] rfl
def I8 (now:Tm):List Wt->Option (List Wt)
 | []=>some []
 | w::l=>(if w.known=true then some w else (SU w.c.p now).bind λr=>some ⟨w.c,true,r⟩).bind λw'=>(I8 now l).bind λr=>some (w'::r)
theorem YK {now:Tm}:∀ {l ws:List Wt},I8 now l=some ws->ws.length=l.length/\∀ (i:Nat) (w:Wt),l[i]? = some w->∃ v,ws[i]? = some v/\(w.known=true/\v=w\/w.known=false/\∃ r,SU w.c.p now=some r/\v=⟨w.c,true,r⟩)
 | [],ws,h=>by injection h with h; subst h; exact ⟨rfl,λi x hx=>by simp at hx⟩
 |
  y::l,ws,h=>by
  simp only [I8] at h;obtain ⟨v,hv,h⟩:=Qd.1 h;obtain ⟨r,hr,h⟩:=Qd.1 h;injection h with h; subst h;obtain ⟨a,b⟩:=YK hr;refine ⟨by simp [a],λi x hx=>?_⟩;cases i with
  |
   zero =>
   injection hx with hx; subst hx;refine ⟨v,rfl,?_⟩
   split at hv
   ·rename_i hk; injection hv with hv; exact .inl ⟨hk,hv.symm⟩
   ·rename_i hk;obtain ⟨q,hq,hv⟩:=Qd.1 hv;injection hv with hv;exact .inr ⟨by simpa using hk,q,hq,hv.symm⟩
  | succ i=>exact b i x (by simpa using hx)
theorem wU {p:Ul} {a:Tm} {r:Option Tm} (hp:Cp p) (ha:Va a) (h:SU p a=some r):Ui 372 [pr p,.agg (ta a)] [.agg (ota r),.one (.bool r.isSome)]:=by
 obtain ⟨l,l1,l2,l3,_⟩:=JF hp;unfold SU at h;rw [l1] at h;exact Qmo (Dp.pb hp.dp) ha.tb l1 (by omega) (λt ht=>(l3 t ht).tb) h
theorem Qmr {T:Nat} {c:Cr} {r0 r1:Ur} {ws:List Wt} (hc:CrOk c) (h:I8 c.now c.l=some ws):Uz prog 365 [.one (.ow 0 0)] [.blk T (Hn c r0 r1)] [] [.blk T (Hn { c with l:=ws } r0 r1)]:=by
 have hk:=hc.k;have hw:=Sk c.l;obtain ⟨h1,h2⟩:=YK h;refine Fw func365 rfl ?_;refine Uc [.o 2 276 18,.c [0] (O8 hc.n)] rfl ?_;refine Uh (S:=Nat) 3 (λL1 i=>(13,.v (.oi i))::(2,.v (.one (.orow 1 18 none)))::L1) (λi=>[.blk T (Hn c r0 r1),.row false 276 18 (Co (ws.take i)),.blk 189 (ta c.now)]) (λi=>c.l.length-i) (λi=>i<=c.l.length) 0 (Qh _) rfl rfl λi hi=>?_
 by_cases hlt:i<c.l.length
 ·obtain ⟨w,hx⟩:=gxE (l:=c.l) (i:=i) hlt;obtain ⟨v,hv,h3⟩:=h2 i w hx;have hm:∀ y∈[wl v],y.length=18:=λy hy=>by rw [Qk.1 hy]; rfl
  have hg:=Ep hv;have hl:decide ((i:Int)<((Co c.l).length:Int))=true:=by simp [hw]; omega
  rcases h3 with ⟨k1,rfl⟩ | ⟨k1,r,k2,rfl⟩
  ·obtain ⟨vc,vk,vf⟩:=v;cases vf <;> (refine go tt [.t hl,.x (Hr hx),.f (by rw [show vk=true from k1]; rfl),.s (sz:=18) hm] rfl (by simp [Uw,Sk]; omega) ?_; exact rd (i+1) (by omega) hlt (by rw [hg]; rfl))
  ·have cg:=wU (hc.l w (Qa hx)).p hc.n k2;obtain ⟨wc,wk,wf⟩:=w;cases r <;> cases wf <;> (refine go tt [.t hl,.x (Hr hx),.t (by rw [show wk=false from k1]; rfl),.k cg,.s (sz:=18) hm] rfl (by simp [Uw,Sk]; omega) ?_; exact rd (i+1) (by omega) hlt (by rw [hg]; rfl))
 ·obtain rfl:i=c.l.length:=by omega
  rw [<-h1,Q7];exact Ug [1] [0] [.f (by simp [hw,h1])] rfl
def AA (ws:List Wt):Option (Option Tm):=match ws.filterMap (·.fails) with
 | []=>some none
 | b::l=>(QT b l).map some
theorem L9 {c:Cr} {ws:List Wt} (hc:CrOk c) (h:I8 c.now c.l=some ws):CrOk { c with l:=ws }:=by
 obtain ⟨h1,h2⟩:=YK h;refine ⟨hc.n,λv hv=>?_,by show ws.length<=1000; rw [h1]; exact hc.k⟩;obtain ⟨i,hi⟩:=X1 hv;have hil:i<c.l.length:=by rw [<-h1]; exact (Qf.1 hi).1
 obtain ⟨v',h3,h4⟩:=h2 i _ (Qe hil);rw [hi] at h3; injection h3 with h3; subst h3;have hw:=hc.l _ (Xv hil);rcases h4 with ⟨_,rfl⟩ | ⟨_,r,k2,rfl⟩
 ·exact hw
 ·obtain ⟨r',r1,r2⟩:=Qiz hw.p hc.n;rw [k2] at r1; injection r1 with r1; subst r1;refine ⟨hw.p,λt ht=>?_⟩;have ht:r=some t:=ht;subst ht;exact r2.2.1
theorem PC {T:Nat} {c:Cr} {r0 r1:Ur} {ws:List Wt} {r:Option Tm} (hc:CrOk c) (h:I8 c.now c.l=some ws) (hr:AA ws=some r):Uz prog 371 [.one (.ow 0 0)] [.blk T (Hn c r0 r1)] [.agg (ota r),.one (.bool r.isSome)] [.blk T (Hn { c with l:=ws } r0 r1)]:=by
 have hcl:=Qmr (T:=T) (r0:=r0) (r1:=r1) hc h;have hc':=L9 hc h;have hk:=hc'.k;have hw:=Sk ws;have hvb:∀ t∈ws.filterMap (·.fails),Tb t:=λt ht=>by
  obtain ⟨w,w1,w2⟩:=Ji.1 ht;exact ((hc'.l w w1).f t w2).tb
 refine Fw func371 rfl ?_;refine Uc [.c [0] hcl,.o 4 189 9] rfl ?_;refine Uh (S:=Nat) 3 (λL1 i=>(14,.v (.oi i))::(4,.v (.one (.orow 2 9 none)))::L1) (λi=>[.blk T (Hn { c with l:=ws } r0 r1),.blk 189 zTm,.row false 189 9 (tal ((ws.take i).filterMap (·.fails)))]) (λi=>ws.length-i) (λi=>i<=ws.length) 0 (Qh _) rfl rfl λi hi=>?_
 by_cases hlt:i<ws.length
 ·obtain ⟨w,hx⟩:=gxE (l:=ws) (i:=i) hlt;have hl:decide ((i:Int)<((Co ws).length:Int))=true:=by simp [hw]; omega
  have hfl:((ws.take i).filterMap (·.fails)).length<=i:=Qc (Vb _ _) (by rw [Qr]; omega);have hg:(ws.take (i+1)).filterMap (·.fails)=(ws.take i).filterMap (·.fails)++(match w.fails with | none=>[] | some t=>[t]):=by
   rw [Z3,hx,List.filterMap_append];show _++List.filterMap (·.fails) [w]=_;cases hwf:w.fails <;> simp [hwf]
  obtain ⟨wc,wk,wf⟩:=w;have hk:ws.length<=1000:=hk;cases wf with
  |
   none =>
   refine Ud [.t hl,.x (Hr hx),.f rfl] rfl ?_;exact rd (i+1) (by omega) hlt (by rw [hg]; simp; rfl)
  |
   some t =>
   refine Ud [.t hl,.x (Hr hx),.t rfl,.s (l:=[ta t]) (sz:=9) (λc hc=>by rw [Qk.1 hc]; rfl)] rfl ?_;exact rd (i+1) (by omega) hlt (by rw [hg]; simp [tal]; rfl)
 ·obtain rfl:i=ws.length:=by omega
  rw [Q7];have hf:decide ((ws.length:Int)<((Co ws).length:Int))=false:=by simp [hw]
  have hln:(ws.filterMap (·.fails)).length<=1000:=Qc (Vb _ _) hk;unfold AA at hr;cases hfm:ws.filterMap (·.fails) with
  |
   nil =>
   rw [hfm] at hr;injection hr with hr; subst hr;exact Ug [] [0] [.f hf,.p 2,.k wF] rfl
  |
   cons b l =>
   rw [hfm] at hr hvb hln;obtain ⟨m,m1,rfl⟩:=Yu.1 hr;have cl:=Sy (hvb b (Qy ..)) (λt ht=>hvb t (Qg _ ht)) (by simp at hln; omega) m1;exact Ug [] [0] [.f hf,.p 2,.k cl] rfl
theorem DD {at_:Tm} {x:Ct}:∀ {l:List Wt} {w:Wt},B5 l x at_=some w->w=fresh x\/∃ v∈l,v.known=true/\v.c.p=x.p/\w=⟨x,true,v.fails⟩/\∀ t,v.fails=some t->∃ c,UX t at_=some c/\0<c
 | [],w,h=>by simp only [B5] at h; injection h with h; exact .inl h.symm
 |
  v::l,w,h=>by
  simp only [B5] at h;have tl:B5 l x at_=some w->w=fresh x\/∃ v'∈v::l,v'.known=true/\v'.c.p=x.p/\w=⟨x,true,v'.fails⟩/\∀ t,v'.fails=some t->∃ c,UX t at_=some c/\0<c:=λh=>by
   rcases DD h with h | ⟨v',h1,h2⟩
   ·exact .inl h
   ·exact .inr ⟨v',Qg _ h1,h2⟩
  split at h
  ·rename_i hk;cases hf:v.fails with
   |
    none =>
    rw [hf] at h;injection h with h;exact .inr ⟨v,Qy ..,hk.2.1,hk.2.2,by rw [hf]; exact h.symm,λt ht=>by rw [hf] at ht; cases ht⟩
   |
    some t =>
    rw [hf] at h;obtain ⟨c,c1,h⟩:=Qd.1 h
    split at h
    ·rename_i h0;injection h with h;exact .inr ⟨v,Qy ..,hk.2.1,hk.2.2,by rw [hf]; exact h.symm,λu hu=>by rw [hf] at hu; injection hu with hu; subst hu; exact ⟨c,c1,h0⟩⟩
    ·exact tl h
  ·exact tl h
theorem lay_ok {c:Cr} {at_:Tm} {l:List Ct} {ws:List Wt} (ev:Int) (hc:CrOk c) (ha:Va at_) (hl:∀ x∈l,Cp x.p) (hn:l.length≤1000) (h:Rz c.l at_ (Fp l)=some ws):CrOk ⟨at_,ws,ev⟩:=by
 obtain ⟨h1,h2⟩:=XV h;refine ⟨ha,λw hw=>?_,by show ws.length<=1000; rw [h1,Dc]; exact hn⟩;obtain ⟨i,hi⟩:=X1 hw;have hil:i<(Fp l).length:=by rw [<-h1]; exact (Qf.1 hi).1
 obtain ⟨v,h3,h4⟩:=h2 i _ (Qe hil);rw [hi] at h4; injection h4 with h4; subst h4;have hx:=hl _ (YN (Xv hil));rcases DD h3 with e | ⟨v,v1,_,v3,e,_⟩
 ·rw [e]; exact ⟨hx,λt ht=>by cases ht⟩
 ·rw [e]; exact ⟨hx,λt ht=>(hc.l v v1).f t ht⟩
def WS {β:Type} (Bc:Tm->List Ct) (Br:Tm->β) (t:Rat):Nat->Cr->β->Int->Option (Cr×β×Int)
 | 0,_,_,_=>none
 |
  k+1,c,r,n=>(I8 c.now c.l).bind λws=>(AA ws).bind λo=>match o with
  | none=>some (⟨tq t,ws,c.ev⟩,r,n)
  | some a=>if 0<Ff a t then some (⟨tq t,ws,c.ev⟩,r,n) else (Rz ws a (Fp (Bc a))).bind λw2=>WS Bc Br t k ⟨a,w2,c.ev+1⟩ (Br a) (n+1)
theorem Qi3 {ws:List Wt} {a:Tm} (h:AA ws=some (some a)) (hv:∀ t∈ws.filterMap (·.fails),Va t):a∈ws.filterMap (·.fails)/\∀ t∈ws.filterMap (·.fails),¬Pu t a:=by
 unfold AA at h;cases hf:ws.filterMap (·.fails) with
 | nil=>rw [hf] at h; injection h with h; cases h
 |
  cons b l =>
  rw [hf] at h hv;obtain ⟨m,m1,m2⟩:=Yu.1 h;injection m2 with m2; subst m2;obtain ⟨m',n1,n2,n3⟩:=RY l b hv;rw [m1] at n1; injection n1 with n1; subst n1;exact ⟨n2,n3⟩
theorem LK {c:Cr} {ws:List Wt} {a:Tm} (hc:CrOk c) (h:I8 c.now c.l=some ws) (hr:AA ws=some (some a)):Va a:=by
 have hc':=L9 hc h;have hv:∀ t∈ws.filterMap (·.fails),Va t:=λt ht=>by
  obtain ⟨w,w1,w2⟩:=Ji.1 ht;exact (hc'.l w w1).f t w2
 exact hv a (Qi3 hr hv).1
structure BuildOk (Bc:Tm->List Ct):Prop where
 p:∀ a,Va a->∀ x∈Bc a,Cp x.p
 n:∀ a,Va a->(Bc a).length<=1000
theorem Qxl {T:Nat} {t:Rat} {Bc:Tm->List Ct} {Br:Tm->Ur} {r0:Ur} (ht:Qs 1640000 t) (hB:BuildOk Bc)
 (hb:∀ a c r1,Va a->CrOk c->Uz prog 127 [.one (.ow 0 0),.agg (ta a)] [.blk T (Hn c r0 r1)] [.one (.row (Fg (Bc a)))] [.blk T (Hn c r0 (Br a))])
 {K:Nat} {c c':Cr} {r1 r1':Ur} {n:Int} (hc:CrOk c) (hev:0<=c.ev/\c.ev+K<=1000000000000000000) (h:Ff c.now t<=0) (hg:WS Bc Br t K c r1 0=some (c',r1',n)) :
 Uz prog 366 [.one (.ow 0 0),.agg (rl t),.one (.ofn 127 [.ow 0 0] [])] [.blk T (Hn c r0 r1)] [.oi n,.oi 0] [.blk T (Hn c' r0 r1')]:=by
 have qt:Qb t:=ht.mono (by decide);have c1:=C0 hc.n.tb qt;refine Fw func366 rfl ?_;refine Uc [.c [0] (O8 hc.n),.k c1,.f (by simpa using h)] rfl ?_;refine Uh (S:=Nat×Cr×Ur×Int) 2 (λL1 s=>(8,.v (.oi s.2.2.2))::L1) (λs=>[.blk T (Hn s.2.1 r0 s.2.2.1),.blk 40 (rl t)]) (λs=>s.1) (λs=>CrOk s.2.1/\(0<=s.2.1.ev/\s.2.1.ev+s.1<=1000000000000000000)/\(0<=s.2.2.2/\s.2.2.2+s.1<=1000000000000000000)/\WS Bc Br t s.1 s.2.1 s.2.2.1 s.2.2.2=some (c',r1',n)) (K,c,r1,0) ⟨hc,hev,⟨Int.le_refl 0,by dsimp only; omega⟩,hg⟩ rfl rfl λ⟨k,x,r,m⟩ ⟨j1,j2,j3,j4⟩=>?_
 dsimp only at j1 j2 j3 j4 ⊢;cases k with
 | zero=>cases j4
 |
  succ k =>
  simp only [WS] at j4;obtain ⟨ws,w1,j4⟩:=Qd.1 j4;obtain ⟨o,o1,j4⟩:=Qd.1 j4;have cn:=PC (T:=T) (r0:=r0) (r1:=r) j1 w1 o1;have ca:=VG (Uy t.num) (Uy (t.den:Int)) (Qc ht.1 (by decide)) (Qc ht.2 (by decide)) (by rw [Pa]; exact ht.mono (by decide));rw [Pa] at ca;cases o with
  |
   none =>
   injection j4 with j4; injection j4 with e1 j4; injection j4 with e2 e3;subst e1; subst e2; subst e3;exact Ug [] [0] [.c [0] cn,.g 25 true rfl,.t rfl,.k ca] rfl
  |
   some a =>
   have ha:=LK j1 w1 o1;dsimp only at j4;have cc:=C0 ha.tb qt;by_cases h0:0<Ff a t
   ·rw [if_pos h0] at j4;injection j4 with j4; injection j4 with e1 j4; injection j4 with e2 e3;subst e1; subst e2; subst e3;exact Ug [] [0] [.c [0] cn,.g 25 false rfl,.k cc,.t (by simpa using h0),.k ca] rfl
   ·rw [if_neg h0] at j4;obtain ⟨w2,l1,j4⟩:=Qd.1 j4;have j1':=L9 j1 w1;have cl:=Sy (b:=a) (l:=[]) ha.tb (λt ht=>by cases ht) (by decide) rfl;have cb:=hb a { x with l:=ws } r ha j1';have cy:=WE (T:=T) (r0:=r0) (r1:=Br a) j1' ha (hB.p a ha) (hB.n a ha) l1;have hf:decide (0<Ff a t)=false:=by simpa using h0
    refine Ud [.c [0] cn,.g 25 false rfl,.k cc,.f hf,.k cl,.c [0] cb,.c [0] cy] rfl ?_;exact rd (k,⟨a,w2,x.ev+1⟩,Br a,m+1) (by dsimp only; omega) ⟨lay_ok _ j1' ha (hB.p a ha) (hB.n a ha) l1,by dsimp only; omega,by dsimp only; omega,j4⟩ rfl
theorem JC {T:Nat} {c:Cr} {r0 r1:Ur}:Uz prog 362 [.one (.ow 0 0)] [.blk T (Hn c r0 r1)] [.oi c.ev] [.blk T (Hn c r0 r1)]:=by
 refine Fw func362 rfl ?_;exact Ug [] [0] [] rfl
end Orr
namespace Orq
open Orr Go
theorem Qyh {a b c:Tm} (hb:Cut (Ff b)) (hc:Cut (Ff c)) (h:Pu a b) (h':Pu b c):Pu a c:=by
 obtain ⟨q,q1,q2⟩:=h;obtain ⟨r,r1,r2⟩:=h';exact ⟨q,q1,hc.mono' (hb.lt q2 r1) (by omega)⟩
theorem RU {a b:Tm} (ha:Cut (Ff a)) (hb:Cut (Ff b)) (h:¬Pu b a):Leq a (Ff b):=λq hq=>by
 rcases ha.val q with e | e | e
 ·exact absurd ⟨q,hq,e⟩ h
 ·obtain ⟨r,r1,r2⟩:=hb.dn q hq;exact absurd ⟨r,r2,ha.mono' r1 (by omega)⟩ h
 ·exact e
theorem aI {a b c:Tm} (_:Cut (Ff a)) (hb:Cut (Ff b)) (hc:Cut (Ff c)) (h:Pu a b) (h':¬Pu c b):Pu a c:=by
 obtain ⟨q,q1,q2⟩:=h;refine ⟨q,q1,?_⟩;have hl:=RU hb hc h';rcases hc.val q with e | e | e
 ·exact e
 ·obtain ⟨r,r1,r2⟩:=hb.up q q2;have h1:=hc.mono q r r1 (by omega);have:=hl r h1;omega
 ·have:=hl q e; omega
theorem yY {a b:Tm} (ha:Cut (Ff a)) (hb:Cut (Ff b)) (h:Pu a b):¬Pu b a:=λh'=>Io ha hb h h'
theorem Od {p:Ul} {a b:Tm} {o:Option Tm} (ha:Cut (Ff a)) (hb:Cut (Ff b)) (hab:¬Pu b a) (h:Sr p a o) (ho:∀ t,o=some t->Pu b t):Sr p b o:=by
 have hl:=RU ha hb hab;cases o with
 |
  none =>
  rcases h with h | ⟨s,s0,h⟩
  ·exact .inl h
  ·exact .inr ⟨s,s0,λc hc hbc=>h c hc λq hq=>hl q (hbc q hq)⟩
 |
  some t =>
  obtain ⟨h1,h2,_,s,s0,h4,h5⟩:=h;exact ⟨h1,h2,ho t rfl,s,s0,λc hc hbc hm=>h4 c hc (λq hq=>hl q (hbc q hq)) hm,h5⟩
theorem OD {p:Ul} {a b:Tm} {o:Option Tm} (hp:Dp p) (ha:Va a) (hb:Va b) (hab:¬Pu b a) (h:Sr p a o) (ho:∀ t,o=some t->Pu b t):He (Fl b) p=He (Fl a) p:=by
 by_cases h0:p.length=0
 ·obtain rfl:=Qj h0; rfl
 obtain ⟨ra,_⟩:=L6 ha hp h0;obtain ⟨rb,_⟩:=L6 hb hp h0;have hl:=RU ha.cut hb.cut hab;cases o with
 |
  none =>
  rcases h with h | ⟨s,s0,h⟩
  ·exact absurd (by rw [h]; rfl) h0
  ·exact (FA rb (h _ hb.cut hl)).trans (FA ra (h _ ha.cut λ_ h=>h)).symm
 |
  some t =>
  obtain ⟨h1,h2,h3,s,s0,h4,h5⟩:=h;exact (FA rb (h4 _ hb.cut hl (ho t rfl))).trans (FA ra (h4 _ ha.cut (λ_ h=>h) h3)).symm
theorem SI (t q:Rat):Ff (tq t) q=Hd t q:=A1 (t:=tq t) rfl q
theorem ZS {a:Tm} {t:Rat} (ha:Cut (Ff a)):0<Ff a t↔Pu (tq t) a:=by
 constructor
 ·intro h;have h1:Ff a t=1:=by rcases ha.val t with e | e | e <;> omega
  obtain ⟨r,r1,r2⟩:=ha.up t h1;exact ⟨r,by rw [SI]; rcases S0 t r with ⟨e,e'⟩ | ⟨e,e'⟩ | ⟨e,e'⟩ <;> first | exact e | (exfalso; grind),r2⟩
 ·rintro ⟨q,q1,q2⟩
  rw [SI] at q1;have:t<q:=by rcases S0 t q with ⟨e,e'⟩ | ⟨e,e'⟩ | ⟨e,e'⟩ <;> first | exact e' | omega
  have:=ha.mono' this (by omega);omega
open Classical in
noncomputable def mu (T:List Tm) (a:Tm):Nat:=(T.filter λt=>decide (Pu a t)).length
theorem OK {α:Type} {p q:α->Bool} (h:∀ x,p x=true->q x=true):∀ l:List α,(l.filter p).length<=(l.filter q).length
 | []=>Ql _
 |
  x::l=>by
  have ih:=OK h l;by_cases hp:p x=true
  ·rw [X8 hp,X8 (h x hp)]; simp; exact ih
  ·rw [Jv hp];by_cases hq:q x=true
   ·rw [X8 hq]; simp; omega
   ·rw [Jv hq]; exact ih
theorem OW {α:Type} {p q:α->Bool} (h:∀ x,p x=true->q x=true) {y:α} (hp:p y=false) (hq:q y=true):∀ {l:List α},y∈l->(l.filter p).length<(l.filter q).length
 | [],hy=>by cases hy
 |
  x::l,hy=>by
  rcases Qm.1 hy with rfl | hy
  ·rw [Jv (by simp [hp]),X8 hq];have:=OK h l;simp; omega
  ·have ih:=OW h hp hq hy;by_cases hp:p x=true
   ·rw [X8 hp,X8 (h x hp)]; simp; exact ih
   ·rw [Jv hp];by_cases hq:q x=true
    ·rw [X8 hq]; simp; omega
    ·rw [Jv hq]; exact ih
open Classical in
theorem Qit {T:List Tm} {a b:Tm} (ha:Cut (Ff a)) (hb:Cut (Ff b)) (hT:∀ t∈T,Cut (Ff t)) (h:Pu a b) (hm:b∈T):mu T b<mu T a:=by
 have key:∀ l:List Tm,(∀ t∈l,Cut (Ff t))->l.filter (λt=>decide (Pu b t))=l.filter (λt=>decide (Cut (Ff t)/\Pu b t)):=λl hl=>Wv λx hx=>by simp [hl x hx]
 have key2:∀ l:List Tm,(∀ t∈l,Cut (Ff t))->l.filter (λt=>decide (Pu a t))=l.filter (λt=>decide (Cut (Ff t)/\Pu a t)):=λl hl=>Wv λx hx=>by simp [hl x hx]
 unfold mu;rw [key T hT,key2 T hT];refine OW (λx hx=>?_) (y:=b) ?_ ?_ hm
 ·have hx:=of_decide_eq_true hx;exact decide_eq_true ⟨hx.1,Qyh hb hx.1 h hx.2⟩
 ·exact decide_eq_false λhx=>Io hb hb hx.2 hx.2
 ·exact decide_eq_true ⟨hb,h⟩
def JK (p:Ul):List Tm:=(QI p).getD []
structure KInv (c:Cr):Prop where
 ok:CrOk c
 k:∀ w∈c.l,w.known=true->Sr w.c.p c.now w.fails/\∀ t,w.fails=some t->t∈JK w.c.p
theorem KN {p:Ul} (h:Cp p) {a:Tm} (ha:Va a):∃ r,SU p a=some r/\Sr p a r/\∀ t,r=some t->t∈JK p:=by
 obtain ⟨l,l1,_,_,l3⟩:=JF h;obtain ⟨r,r1,r2,r3⟩:=l3 a ha;refine ⟨r,?_,r2,λt ht=>by unfold JK; rw [l1]; exact r3 t ht⟩;unfold SU; rw [l1]; exact r1
theorem Qk4 {p:Ul} (h:Cp p):∀ t∈JK p,Va t:=by
 obtain ⟨l,l1,_,l2,_⟩:=JF h;unfold JK; rw [l1]; exact l2
theorem iJ {now:Tm} (hn:Va now):∀ {l:List Wt},(∀ w∈l,WtOk w)->(∀ w∈l,w.known=true->Sr w.c.p now w.fails/\∀ t,w.fails=some t->t∈JK w.c.p) ->
 ∃ ws,I8 now l=some ws/\ws.map (·.c)=l.map (·.c)/\∀ w∈ws,w.known=true/\Sr w.c.p now w.fails/\∀ t,w.fails=some t->t∈JK w.c.p
 | [],_,_=>⟨[],rfl,rfl,λw hw=>by cases hw⟩
 |
  w::l,h,h'=>by
  obtain ⟨ws,w1,w2,w3⟩:=iJ hn (λv hv=>h v (Qg _ hv)) (λv hv=>h' v (Qg _ hv));by_cases hk:w.known=true
  ·refine ⟨w::ws,by simp only [I8,hk,if_true,w1]; rfl,by simp [w2],λv hv=>?_⟩;rcases Qm.1 hv with rfl | hv
   ·exact ⟨hk,h' v (by simp) hk⟩
   ·exact w3 v hv
  ·obtain ⟨r,r1,r2,r3⟩:=KN (h w (by simp)).p hn;refine ⟨⟨w.c,true,r⟩::ws,by simp only [I8]; rw [if_neg hk,r1,w1]; rfl,by simp [w2],λv hv=>?_⟩;rcases Qm.1 hv with rfl | hv
   ·exact ⟨rfl,r2,r3⟩
   ·exact w3 v hv
theorem aC {at_:Tm} (ha:Va at_) {x:Ct}:∀ {l:List Wt},(∀ w∈l,WtOk w)->∃ w,B5 l x at_=some w/\w.c=x
 | [],_=>⟨fresh x,rfl,rfl⟩
 |
  v::l,h=>by
  obtain ⟨w,w1,w2⟩:=aC ha (x:=x) λv hv=>h v (Qg _ hv)
  simp only [B5]
  split
  ·cases hf:v.fails with
   | none=>exact ⟨_,rfl,rfl⟩
   |
    some t =>
    obtain ⟨c,c1,_⟩:=UJ ((h v (by simp)).f t hf) ha;dsimp only;rw [c1];show ∃ w,(if 0<c then some ⟨x,true,some t⟩ else B5 l x at_)=some w/\w.c=x
    split
    ·exact ⟨_,rfl,rfl⟩
    ·exact ⟨w,w1,w2⟩
  ·exact ⟨w,w1,w2⟩
theorem nG {at_:Tm} (ha:Va at_) {ol:List Wt} (ho:∀ w∈ol,WtOk w):∀ l:List Ct,∃ ws,Rz ol at_ l=some ws/\ws.map (·.c)=l
 | []=>⟨[],rfl,rfl⟩
 |
  x::l=>by
  obtain ⟨w,w1,w2⟩:=aC ha (x:=x) ho;obtain ⟨ws,s1,s2⟩:=nG ha ho l;exact ⟨w::ws,by simp only [Rz,w1,s1]; rfl,by simp [w2,s2]⟩
theorem Qb9 {out:List Ct} {c x:Ct}:x∈KG out c↔x=c\/x∈out:=by
 have h:x∈out↔x∈out.take (XE out c out.length)\/x∈out.drop (XE out c out.length):=by
  rw [<-Qq,Zi]
 simp only [KG,Qq,Qm,h];constructor
 ·rintro (h | h | h)
  ·exact .inr (.inl h)
  ·exact .inl h
  ·exact .inr (.inr h)
 ·rintro (h | h | h)
  ·exact .inr (.inl h)
  ·exact .inl h
  ·exact .inr (.inr h)
theorem OH:∀ (l acc:List Ct) {y:Ct},y∈l.foldl KG acc↔y∈l\/y∈acc
 | [],acc,y=>by simp
 |
  c::l,acc,y=>by
  simp only [Z5];rw [OH l,Qb9,Qm];constructor
  ·rintro (h | h | h)
   ·exact .inl (.inr h)
   ·exact .inl (.inl h)
   ·exact .inr h
  ·rintro ((h | h) | h)
   ·exact .inr (.inl h)
   ·exact .inl h
   ·exact .inr (.inr h)
theorem zB {l:List Ct} {x:Ct}:x∈Fp l↔x∈l:=by unfold Fp; rw [OH]; simp
theorem Qvl {ws:List Wt} (hw:∀ w∈ws,WtOk w):∃ o,AA ws=some o/\match o with
 | none=>∀ w∈ws,w.fails=none
 | some a=>Va a/\(∃ w∈ws,w.fails=some a)/\∀ w∈ws,∀ t,w.fails=some t->¬Pu t a:=by
 have hv:∀ t∈ws.filterMap (·.fails),Va t:=λt ht=>by
  obtain ⟨w,w1,w2⟩:=Ji.1 ht;exact (hw w w1).f t w2
 unfold AA;cases hf:ws.filterMap (·.fails) with
 |
  nil =>
  refine ⟨none,rfl,λw h=>?_⟩;cases e:w.fails with
  | none=>rfl
  |
   some t =>
   have:t∈ws.filterMap (·.fails):=Ji.2 ⟨w,h,e⟩;rw [hf] at this; cases this
 |
  cons b l =>
  rw [hf] at hv;obtain ⟨m,m1,m2,m3⟩:=RY l b hv;refine ⟨some m,by show (QT b l).map some=_; rw [m1]; rfl,hv m m2,?_,λw h t e=>?_⟩
  ·rw [<-hf] at m2;exact Ji.1 m2
  ·exact m3 t (by rw [<-hf]; exact Ji.2 ⟨w,h,e⟩)
theorem Qt8 {t a:Tm} (ht:Va t) (ha:Va a) {c:Int} (h:UX t a=some c) (h0:0<c):Pu a t:=by
 obtain ⟨c',c1,c2⟩:=UJ ht ha;rw [h] at c1; injection c1 with c1; subst c1;rcases c2 with ⟨e,_⟩ | ⟨e,_⟩ | ⟨_,e⟩
 ·omega
 ·omega
 ·exact e
theorem aE {ol ws:List Wt} {now a:Tm} {l:List Ct} (hn:Va now) (ha:Va a) (hna:¬Pu a now) (ho:∀ w∈ol,WtOk w) (hk:∀ w∈ol,w.known=true->Sr w.c.p now w.fails/\∀ t,w.fails=some t->t∈JK w.c.p) (h:Rz ol a l=some ws) :
 ∀ w∈ws,w.known=true->Sr w.c.p a w.fails/\∀ t,w.fails=some t->t∈JK w.c.p:=by
 obtain ⟨h1,h2⟩:=XV h;intro w hw hkn;obtain ⟨i,hi⟩:=X1 hw;have hil:i<l.length:=by rw [<-h1]; exact (Qf.1 hi).1
 obtain ⟨v,h3,h4⟩:=h2 i _ (Qe hil);rw [hi] at h4; injection h4 with h4; subst h4;rcases DD h3 with e | ⟨v,v1,v2,v3,e,v5⟩
 ·rw [e] at hkn; cases hkn
 ·obtain ⟨k1,k2⟩:=hk v v1 v2;rw [e];show Sr (l[i]).p a v.fails/\∀ t,v.fails=some t->t∈JK (l[i]).p;rw [<-v3];refine ⟨Od hn.cut ha.cut hna k1 λt ht=>?_,k2⟩;obtain ⟨c,c1,c2⟩:=v5 t ht;exact Qt8 ((ho v v1).f t ht) ha c1 c2
structure Stab {β:Type} (Bc:Tm->List Ct) (Br:Tm->β):Prop where
 ok:BuildOk Bc
 fin:∃ Ps:List (List Int),(∀ p∈Ps,Cp p)/\∀ a,Va a->∀ x∈Bc a,x.p∈Ps
 st:∀ a b,Va a->Va b->(∀ x∈Bc a,He (Fl b) x.p=He (Fl a) x.p)->Bc b=Bc a/\Br b=Br a
structure KSt {β:Type} (Bc:Tm->List Ct) (Br:Tm->β) (c:Cr) (r1:β):Prop where
 inv:KInv c
 cs:c.l.map (·.c)=Fp (Bc c.now)
 r:r1=Br c.now
inductive Evs (Bc:Tm->List Ct) (t:Rat):Tm->List Tm->Prop
 | nil {a:Tm} (h:∀ x∈Bc a,∃ o,Sr x.p a o/\∀ u,o=some u->Pu (tq t) u):Evs Bc t a []
 | cons {a e:Tm} {E:List Tm} (he:Va e) (h1:Pu a e) (h2:¬Pu (tq t) e) (h3:∀ x∈Bc a,∃ o,Sr x.p a o/\∀ u,o=some u->¬Pu u e) (h4:∃ x∈Bc a,Sr x.p a (some e)) (h5:Evs Bc t e E):Evs Bc t a (e::E)
theorem Qhs {β:Type} {Bc:Tm->List Ct} {Br:Tm->β} (S:Stab Bc Br) {t:Rat} (ht:Qs 1640000 t) {Ps:Um} (hP:∀ p∈Ps,Cp p) (hPs:∀ a,Va a->∀ x∈Bc a,x.p∈Ps) :
 ∀ (m:Nat) (c:Cr) (r1:β) (n:Int),mu (Ps.flatMap JK) c.now<=m->KSt Bc Br c r1->¬Pu (tq t) c.now ->
 ∃ c' r' E,WS Bc Br t (m+1) c r1 n=some (c',r',n+(E.length:Nat))/\c'.now=tq t/\KSt Bc Br c' r'/\c'.ev=c.ev+(E.length:Nat)/\E.length<=m/\Evs Bc t c.now E:=by
 have hT:∀ t∈Ps.flatMap JK,Cut (Ff t):=λu hu=>by
  obtain ⟨p,p1,p2⟩:=Zc.1 hu;exact (Qk4 (hP p p1) u p2).cut
 have hq:=GG ht;intro m
 induction m with
 | zero=>?_
 | succ m ih=>?_
 all_goals
  intro c r1 n hm hS hnow;obtain ⟨⟨ok,kk⟩,hcs,hr⟩:=hS;obtain ⟨ws,w1,w2,w3⟩:=iJ ok.n ok.l kk;have ok':=L9 ok w1;rw [hcs] at w2;have hc_w:∀ x∈Bc c.now,∃ w∈ws,w.c=x:=λx hx=>by
   have:x∈ws.map (·.c):=by rw [w2]; exact zB.2 hx
   exact Q6.1 this
  have hw_c:∀ w∈ws,w.c∈Bc c.now:=λw hw=>zB.1 (by rw [<-w2]; exact Wh hw)
  obtain ⟨o,o1,o2⟩:=Qvl ok'.l;have fin:(∀ w∈ws,∀ u,w.fails=some u->Pu (tq t) u)->KSt Bc Br ⟨tq t,ws,c.ev⟩ r1/\Evs Bc t c.now []:=λhall=>by
   have hg:∀ x∈Bc c.now,He (Fl (tq t)) x.p=He (Fl c.now) x.p:=λx hx=>by
    obtain ⟨w,hw,rfl⟩:=hc_w x hx;exact OD (S.ok.p _ ok.n _ hx).dp ok.n hq hnow (w3 w hw).2.1 (hall w hw)
   obtain ⟨s1,s2⟩:=S.st _ _ ok.n hq hg;refine ⟨⟨⟨⟨hq,ok'.l,ok'.k⟩,λw hw _=>⟨Od ok.n.cut hq.cut hnow (w3 w hw).2.1 (hall w hw),(w3 w hw).2.2⟩⟩,?_,?_⟩,.nil λx hx=>?_⟩
   ·show ws.map (·.c)=Fp (Bc (tq t)); rw [w2,s1]
   ·show r1=Br (tq t); rw [s2,hr]
   ·obtain ⟨w,hw,rfl⟩:=hc_w x hx;exact ⟨_,(w3 w hw).2.1,hall w hw⟩
 ·cases o with
  |
   none =>
   obtain ⟨f1,f2⟩:=fin λw hw u hu=>by rw [o2 w hw] at hu; cases hu
   exact ⟨_,_,[],by simp only [WS]; rw [w1]; simp only [Xy]; rw [o1]; simp,rfl,f1,by simp,by simp,f2⟩
  |
   some a =>
   obtain ⟨va,⟨w,hw,hwa⟩,hmin⟩:=o2;by_cases h0:0<Ff a t
   ·obtain ⟨f1,f2⟩:=fin λv hv u hu=>by
     have hu':=(ok'.l v hv).f u hu;exact aI hq.cut va.cut hu'.cut ((ZS va.cut).1 h0) (hmin v hv u hu)
    exact ⟨_,_,[],by simp only [WS]; rw [w1]; simp only [Xy]; rw [o1]; simp [h0],rfl,f1,by simp,by simp,f2⟩
   ·exfalso;obtain ⟨k1,k2,k3⟩:=w3 w hw;rw [hwa] at k2;have:a∈Ps.flatMap JK:=Zc.2 ⟨_,hPs _ ok.n _ (hw_c w hw),k3 a hwa⟩;have:=Qit ok.n.cut va.cut hT k2.2.2.1 this;omega
 ·cases o with
  |
   none =>
   obtain ⟨f1,f2⟩:=fin λw hw u hu=>by rw [o2 w hw] at hu; cases hu
   exact ⟨_,_,[],by simp only [WS]; rw [w1]; simp only [Xy]; rw [o1]; simp,rfl,f1,by simp,by simp,f2⟩
  |
   some a =>
   obtain ⟨va,⟨w,hw,hwa⟩,hmin⟩:=o2;by_cases h0:0<Ff a t
   ·obtain ⟨f1,f2⟩:=fin λv hv u hu=>by
     have hu':=(ok'.l v hv).f u hu;exact aI hq.cut va.cut hu'.cut ((ZS va.cut).1 h0) (hmin v hv u hu)
    exact ⟨_,_,[],by simp only [WS]; rw [w1]; simp only [Xy]; rw [o1]; simp [h0],rfl,f1,by simp,by simp,f2⟩
   ·obtain ⟨k1,k2,k3⟩:=w3 w hw;rw [hwa] at k2;have hna:=yY ok.n.cut va.cut k2.2.2.1;have hmem:a∈Ps.flatMap JK:=Zc.2 ⟨_,hPs _ ok.n _ (hw_c w hw),k3 a hwa⟩;have hlt:=Qit ok.n.cut va.cut hT k2.2.2.1 hmem;obtain ⟨w2',l1,l2⟩:=nG va ok'.l (Fp (Bc a));have hl:=aE ok.n va hna ok'.l (λv hv _=>(w3 v hv).2) l1;have hS':KSt Bc Br ⟨a,w2',c.ev+1⟩ (Br a):=⟨⟨Orr.lay_ok _ ok' va (S.ok.p a va) (S.ok.n a va) l1,hl⟩,l2,rfl⟩;obtain ⟨c',r',E,g1,g2,g3,g4,g5,g6⟩:=ih ⟨a,w2',c.ev+1⟩ (Br a) (n+1) (by show mu _ a<=m; omega) hS' (λh=>h0 ((ZS va.cut).2 h));refine ⟨c',r',a::E,?_,g2,g3,by rw [g4]; simp; omega,by simp; omega,.cons va k2.2.2.1 (λh=>h0 ((ZS va.cut).2 h)) (λx hx=>?_) ⟨w.c,hw_c w hw,k2⟩ g6⟩
    ·conv=>lhs; unfold WS
     rw [w1]; simp only [Xy]; rw [o1]; simp only [Xy]; rw [if_neg h0,l1]; simp only [Xy];rw [g1]; simp; omega
    ·obtain ⟨v,hv,rfl⟩:=hc_w x hx;exact ⟨_,(w3 v hv).2.1,hmin v hv⟩
end Orq
namespace Orq
open Orr Go
theorem yR {p:Ul} {a a':Tm} (h:∀ q,Ff a q=Ff a' q) {o:Option Tm} (hn:Sr p a o):Sr p a' o:=by
 have e:Ff a=Ff a':=funext h;unfold Sr Leq Pu at *;rw [<-e]; exact hn
theorem dG {a b:Tm} (ha:Cut (Ff a)) (hb:Cut (Ff b)) (h:¬Pu a b) (h':¬Pu b a):∀ q,Ff a q=Ff b q:=by
 rcases tri ha hb with h1 | h1 | h1
 ·exact absurd h1 h
 ·exact h1
 ·exact absurd h1 h'
theorem Qaf {a b b':Tm} (h:∀ q,Ff b q=Ff b' q):Pu a b↔Pu a b':=by
 unfold Pu; simp only [h]
theorem JV {a b b':Tm} (h:∀ q,Ff b q=Ff b' q):Pu b a↔Pu b' a:=by
 unfold Pu; simp only [h]
theorem Iq {p:Ul} {a:Tm} (ha:Va a) {t t':Tm} (h:Sr p a (some t)) (h':Sr p a (some t')):∀ q,Ff t q=Ff t' q:=by
 obtain ⟨_,v,l,s,s0,h4,h5⟩:=h;obtain ⟨_,v',l',s',s0',h4',h5'⟩:=h';have es:s=s':=FA (h4 _ ha.cut (λ_ h=>h) l) (h4' _ ha.cut (λ_ h=>h) l');refine dG v.cut v'.cut (λhlt=>?_) λhlt=>?_
 ·have:=FA (h4' _ v.cut (RU ha.cut v.cut (yY ha.cut v.cut l)) hlt) h5;omega
 ·have:=FA (h4 _ v'.cut (RU ha.cut v'.cut (yY ha.cut v'.cut l')) hlt) h5';omega
theorem Pf {p:Ul} {a:Tm} (ha:Va a) {t:Tm} (h:Sr p a (some t)) (h':Sr p a none):False:=by
 obtain ⟨h1,v,l,s,s0,h4,h5⟩:=h;rcases h' with h' | ⟨s',s0',h'⟩
 ·exact h1 h'
 ·have e1:=FA (h' _ ha.cut λ_ h=>h) (h4 _ ha.cut (λ_ h=>h) l);have e2:=FA (h' _ v.cut (RU ha.cut v.cut (yY ha.cut v.cut l))) h5;omega
structure Quiet {β:Type} (Bc:Tm->List Ct) (Br:Tm->β) (a b:Tm):Prop where
 va:Va a
 vb:Va b
 le:¬Pu b a
 n:∀ x∈Bc a,∃ o,Sr x.p a o/\∀ u,o=some u->Pu b u
section
variable {β:Type} {Bc:Tm->List Ct} {Br:Tm->β} (S:Stab Bc Br)
include S
theorem Quiet.same {a b:Tm} (h:Quiet Bc Br a b):Bc b=Bc a/\Br b=Br a:=by
 refine S.st a b h.va h.vb λx hx=>?_
 obtain ⟨o,o1,o2⟩:=h.n x hx;exact OD (S.ok.p _ h.va _ hx).dp h.va h.vb h.le o1 o2
theorem TW {a b:Tm} (ha:Va a) (hb:Va b) (h:∀ q,Ff a q=Ff b q):Quiet Bc Br a b:=by
 refine ⟨ha,hb,λh'=>Io hb.cut hb.cut ((Qaf h).1 h') ((Qaf h).1 h'),λx hx=>?_⟩;obtain ⟨r,_,r2,_⟩:=KN (S.ok.p _ ha _ hx) ha;refine ⟨r,r2,λu hu=>?_⟩;subst hu;obtain ⟨q,q1,q2⟩:=r2.2.2.1;exact ⟨q,by rw [<-h]; exact q1,q2⟩
theorem OZ {t:Rat} {a:Tm} {E:List Tm} (hE:Evs Bc t a E):∀ {b:Tm} {E':List Tm},Quiet Bc Br a b->Evs Bc t b E'->E.length=E'.length:=by
 induction hE with
 |
  @nil a h =>
  intro b E' hq hE';have hs:=(Quiet.same S hq).1;cases hE' with
  | nil _=>rfl
  |
   cons he h1 h2 h3 h4 h5 =>
   exfalso;obtain ⟨x,hx,hx2⟩:=h4;rw [hs] at hx;obtain ⟨o,o1,o2⟩:=h x hx;obtain ⟨o',o1',o2'⟩:=hq.n x hx;cases o with
   |
    none =>
    cases o' with
    | none=>exact Pf hq.vb hx2 (Od hq.va.cut hq.vb.cut hq.le o1' o2')
    | some u=>exact Pf hq.va o1' o1
   |
    some u =>
    cases o' with
    | none=>exact Pf hq.va o1 o1'
    |
     some u' =>
     have e1:=Iq hq.va o1 o1';have e2:=Iq hq.vb (Od hq.va.cut hq.vb.cut hq.le o1' o2') hx2;obtain ⟨q,q1,q2⟩:=o2 u rfl;exact h2 ⟨q,q1,by rw [<-e2,<-e1]; exact q2⟩
 |
  @cons a e E he h1 h2 h3 h4 h5 ih =>
  intro b E' hq hE';have hs:=(Quiet.same S hq).1;have nx:∀ x∈Bc a,∀ u,Sr x.p a (some u)->Pu b u/\Sr x.p b (some u):=λx hx u hu=>by
   obtain ⟨o',o1',o2'⟩:=hq.n x hx;cases o' with
   | none=>exact (Pf hq.va hu o1').elim
   |
    some u' =>
    have e1:=Iq hq.va o1' hu;have hb':=o2' u' rfl;have hb2:Pu b u:=by obtain ⟨q,q1,q2⟩:=hb'; exact ⟨q,q1,by rw [<-e1]; exact q2⟩
    exact ⟨hb2,Od hq.va.cut hq.vb.cut hq.le hu λv hv=>by injection hv with hv; subst hv; exact hb2⟩
  obtain ⟨x0,hx0,hn0⟩:=h4;obtain ⟨hb0,hnb0⟩:=nx x0 hx0 e hn0;cases hE' with
  |
   nil h' =>
   exfalso;obtain ⟨o,o1,o2⟩:=h' x0 (by rw [hs]; exact hx0);cases o with
   | none=>exact Pf hq.vb hnb0 o1
   |
    some u =>
    have e1:=Iq hq.vb o1 hnb0;obtain ⟨q,q1,q2⟩:=o2 u rfl;exact h2 ⟨q,q1,by rw [<-e1]; exact q2⟩
  |
   @cons _ e' E'' he' h1' h2' h3' h4' h5' =>
   obtain ⟨x1,hx1,hn1⟩:=h4';rw [hs] at hx1;have a1:¬Pu e' e:=λhlt=>by
    obtain ⟨o,o1,o2⟩:=h3 x1 hx1;cases o with
    |
     none =>
     obtain ⟨o',o1',o2'⟩:=hq.n x1 hx1;cases o' with
     | none=>exact Pf hq.vb hn1 (Od hq.va.cut hq.vb.cut hq.le o1' o2')
     | some u=>exact Pf hq.va o1' o1
    |
     some u =>
     have e2:=Iq hq.vb (nx x1 hx1 u o1).2 hn1;exact o2 u rfl ((JV e2).2 hlt)
   have a2:¬Pu e e':=λhlt=>by
    obtain ⟨o,o1,o2⟩:=h3' x0 (by rw [hs]; exact hx0);cases o with
    | none=>exact Pf hq.vb hnb0 o1
    |
     some u =>
     have e2:=Iq hq.vb o1 hnb0;exact o2 u rfl ((JV e2).2 hlt)
   have:=ih (TW S he he' (dG he.cut he'.cut a2 a1)) h5';simp [this]
theorem Quq {t:Rat} {a:Tm} (ha:Va a) {E E':List Tm} (h:Evs Bc t a E) (h':Evs Bc t a E'):E.length=E'.length:=OZ S h (TW S ha ha λ_=>rfl) h'
theorem Qod {t1 t2:Rat} (h12:t1<=t2) (ht:Va (tq t1)) {a:Tm} {E1:List Tm} (h:Evs Bc t1 a E1):∀ {E2 E:List Tm},Va a->¬Pu (tq t1) a->Evs Bc t2 (tq t1) E2->Evs Bc t2 a E->E.length=E1.length+E2.length:=by
 have lt12:∀ {u:Tm},Pu (tq t2) u->Pu (tq t1) u:=λ⟨q,q1,q2⟩=>⟨q,by
  rw [SI] at q1 ⊢;rcases S0 t1 q with ⟨e,h⟩ | ⟨e,h⟩ | ⟨e,h⟩ <;> rcases S0 t2 q with ⟨e',h'⟩ | ⟨e',h'⟩ | ⟨e',h'⟩ <;> grind,q2⟩
 induction h with
 |
  @nil a h =>
  intro E2 E ha hle h2 h';have:=OZ S h' ⟨ha,ht,hle,h⟩ h2;simp [this]
 |
  @cons a e E1 he b1 b2 b3 b4 b5 ih =>
  intro E2 E ha hle h2 h';obtain ⟨x0,hx0,hn0⟩:=b4;cases h' with
  |
   nil g =>
   exfalso;obtain ⟨o,o1,o2⟩:=g x0 hx0;cases o with
   | none=>exact Pf ha hn0 o1
   |
    some u =>
    have e1:=Iq ha o1 hn0;obtain ⟨q,q1,q2⟩:=lt12 (o2 u rfl);exact b2 ⟨q,q1,by rw [<-e1]; exact q2⟩
  |
   @cons _ e' E'' he' c1 c2 c3 c4 c5 =>
   obtain ⟨x1,hx1,hn1⟩:=c4;have a1:¬Pu e' e:=λhlt=>by
    obtain ⟨o,o1,o2⟩:=b3 x1 hx1;cases o with
    | none=>exact Pf ha hn1 o1
    | some u=>exact o2 u rfl ((JV (Iq ha o1 hn1)).2 hlt)
   have a2:¬Pu e e':=λhlt=>by
    obtain ⟨o,o1,o2⟩:=c3 x0 hx0;cases o with
    | none=>exact Pf ha hn0 o1
    | some u=>exact o2 u rfl ((JV (Iq ha o1 hn0)).2 hlt)
   have eq:=dG he'.cut he.cut a1 a2;have hE:∃ E3,Evs Bc t2 e E3/\E3.length=E''.length:=by
    have hs:=(Quiet.same S (TW S he' he eq)).1;cases c5 with
    | nil g=>exact ⟨[],.nil λx hx=>by
     rw [hs] at hx;obtain ⟨o,o1,o2⟩:=g x hx;exact ⟨o,yR eq o1,o2⟩,rfl⟩
    |
     @cons _ f F hf d1 d2 d3 d4 d5 =>
     refine ⟨f::F,.cons hf ((JV eq).1 d1) d2 (λx hx=>?_) ?_ d5,rfl⟩
     ·rw [hs] at hx;obtain ⟨o,o1,o2⟩:=d3 x hx;exact ⟨o,yR eq o1,o2⟩
     ·obtain ⟨x,hx,hxn⟩:=d4;exact ⟨x,by rw [hs]; exact hx,yR eq hxn⟩
   obtain ⟨E3,h3,h4⟩:=hE;have:=ih he b2 h2 h3;simp only [Q4];omega
end
theorem Qqn {p:Ul} (h:Cp p):(JK p).length<=67:=by
 obtain ⟨l,l1,l2,_⟩:=JF h;unfold JK; rw [l1]; exact l2
theorem vC:∀ {Ps:Um},(∀ p∈Ps,Cp p)->(Ps.flatMap JK).length≤67*Ps.length
 | [],_=>Qh _
 |
  p::Ps,h=>by
  have h1:=Qqn (h p (by simp));have h2:=vC (Ps:=Ps) λq hq=>h q (Qg _ hq)
  rw [Jn,Qu,Q4]; omega
theorem Qis (T:List Tm) (a:Tm):mu T a<=T.length:=Yy _ _
theorem pW {β:Type} {Bc:Tm->List Ct} {Br:Tm->β} (S:Stab Bc Br) {a:Tm} (ha:Va a):KSt Bc Br ⟨a,(Fp (Bc a)).map fresh,0⟩ (Br a):=by
 refine ⟨⟨⟨ha,λw hw=>?_,?_⟩,λw hw hk=>?_⟩,?_,rfl⟩
 ·obtain ⟨x,hx,rfl⟩:=Q6.1 hw;exact ⟨S.ok.p _ ha x (YN hx),λt ht=>by cases ht⟩
 ·show ((Fp (Bc a)).map fresh).length<=1000;rw [Q8,Dc]; exact S.ok.n _ ha
 ·obtain ⟨x,hx,rfl⟩:=Q6.1 hw;cases hk
 ·show ((Fp (Bc a)).map fresh).map (·.c)=Fp (Bc a);rw [List.map_map];show (Fp (Bc a)).map (λx=>x)=_;rw [List.map_id']
end Orq
namespace Orr
open Go Go.Proofs Tryz Orq
set_option maxRecDepth 10000
theorem Qge {a b:Pt} (ha:Sc a.c) (hb:Sc b.c):Cp (Aj a b):=JO (P5 ha hb) (P0 ha hb)
def O2 (l:List Pt) (a:Tm):List Ct:=Ss (Fl a) (Sf a l)
abbrev IJ (l:List Pt) (a:Tm):Ur:=Uv (Sf a l)
theorem tK {sg:Ul->Int}:∀ {l:List Pt},(∀ p∈l,Sc p.c)->∀ x∈Ss sg l,Cp x.p
 | [],_,x,hx=>by cases hx
 | [_],_,x,hx=>by cases hx
 |
  a::b::l,h,x,hx=>by
  simp only [Ss] at hx;rcases Qm.1 hx with rfl | hx
  ·exact Qge (h a (by simp)) (h b (by simp))
  ·exact tK (λp hp=>h p (Qg _ hp)) x hx
theorem Hj {t:Tm} {l:List Pt} {p:Pt}:p∈Sf t l↔p∈l:=by
 unfold Sf Lu; rw [KU]; simp
theorem Cd (t:Tm) (l:List Pt):(Sf t l).length=l.length:=zC _ _
theorem pJ {l:List Pt} (hl:∀ p∈l,Sc p.c) (hn:l.length≤1000):BuildOk (O2 l) :=
 ⟨λa _ x hx=>tK (λp hp=>hl p (Hj.1 hp)) x hx,λa _=>by unfold O2; rw [Bb,Cd]; omega⟩
theorem IU {l:List Pt} {a:Tm} {c:Cr} {r1:Ur} (hl:∀ p∈l,Sc p.c) (hn:l.length≤1000) (ha:Va a):Uz prog 127 [.one (.ow 0 0),.agg (ta a)] [.blk 196 (Hn c (Uv l) r1)] [.one (.row (Fg (O2 l a)))] [.blk 196 (Hn c (Uv l) (IJ l a))]:=by
 have cr:=wT hl (by omega) ha;have cc:=BZ (l:=Sf a l) (t:=a) (λp hp=>hl p (Hj.1 hp)) (by rw [Cd]; omega) ha;refine Fw func127 rfl ?_;exact Ug [] [0] [.k Ii,.k cr,.k cc] rfl
theorem Qa9 {l:List Pt} {a:Tm} (hl:∀ p∈l,Sc p.c) (hn:l.length≤1000) (ha:Va a):Uz prog 127 [.one (.ow 0 0),.agg (ta a)] [.blk 196 (mU (.row (Uv l)) .nils)] [.one (.row (Fg (O2 l a)))] [.blk 196 (mU (.row (Uv l)) (.row (IJ l a)))]:=by
 have cr:=wT hl (by omega) ha;have cc:=BZ (l:=Sf a l) (t:=a) (λp hp=>hl p (Hj.1 hp)) (by rw [Cd]; omega) ha;refine Fw func127 rfl ?_;exact Ug [] [0] [.k Ii,.k cr,.k cc] rfl
def Qmc (l:List Pt) (a:Tm):Cr:=⟨a,(Fp (O2 l a)).map fresh,0⟩
end Orr
namespace Orq
open Orr Go
theorem ZO {a:Tm} (ha:Va a):∀ (L:Um),(∀ p∈L,Dp p)->∃ y,Ff a y=-1/\∀ q,Ff a q=-1->q≤y->∀ p∈L,He (Fl a) p=U7 (U3 p q)
 |
  [],_=>by
  obtain ⟨y,hy⟩:=ha.cut.hi;exact ⟨y,hy,λq _ _ p hp=>by cases hp⟩
 |
  p::L,h=>by
  obtain ⟨y,y1,y2⟩:=ZO ha L (λq hq=>h q (Qg _ hq));by_cases h0:p.length=0
  ·obtain rfl:=Qj h0;refine ⟨y,y1,λq q1 q2 r hr=>?_⟩;rcases Qm.1 hr with rfl | hr
   ·rw [ZI]; exact (Gg.2 rfl).symm
   ·exact y2 q q1 q2 r hr
  ·obtain ⟨⟨z,z1,z2⟩,_⟩:=L6 ha (h p (by simp)) h0;refine ⟨if y<=z then y else z,by split <;> assumption,λq q1 q2 r hr=>?_⟩;rcases Qm.1 hr with rfl | hr
   ·rw [<-U4]; exact (z2 q q1 (by grind)).symm
   ·exact y2 q q1 (by grind) r hr
section Srt
variable {α:Type} {lt:α->α->Bool} {R:α->α->Prop}
theorem qO (irr:∀ x,¬R x x) (tr:∀ x y z,R x y->R y z->R x z):∀ {l m:List α},l.Pairwise R->m.Pairwise R->(∀ x,x∈l↔x∈m)->l=m
 | [],[],_,_,_=>rfl
 | [],y::m,_,_,h=>by have:=(h y).2 (by simp); cases this
 | x::l,[],_,_,h=>by have:=(h x).1 (by simp); cases this
 |
  x::l,y::m,hl,hm,h=>by
  rw [Zh] at hl hm;have e:x=y:=by
   rcases Qm.1 ((h x).1 (by simp)) with e | h1
   ·exact e
   ·rcases Qm.1 ((h y).2 (by simp)) with e | h2
    ·exact e.symm
    ·exact absurd (tr _ _ _ (hl.1 y h2) (hm.1 x h1)) (irr x)
  subst e;rw [qO irr tr hl.2 hm.2 λz=>?_];constructor
  ·intro hz;rcases Qm.1 ((h z).1 (Qg _ hz)) with e | h1
   ·subst e; exact absurd (hl.1 z hz) (irr z)
   ·exact h1
  ·intro hz;rcases Qm.1 ((h z).2 (Qg _ hz)) with e | h1
   ·subst e; exact absurd (hm.1 z hz) (irr z)
   ·exact h1
theorem qC {out:List α} {x:α}:∀ k,k<=out.length->(∀ j y,Lo lt out x k<=j->j<k->out[j]? = some y->lt x y=true)/\(0<Lo lt out x k->∃ y,out[Lo lt out x k-1]? = some y/\lt x y=false)
 | 0,_=>⟨λj y _ h=>by omega,λh=>by simp [Lo] at h⟩
 |
  k+1,hk=>by
  obtain ⟨y,hy⟩:=gxE (l:=out) (i:=k) (by omega);by_cases h:lt x y=true
  ·rw [oJ hy h];obtain ⟨h1,h2⟩:=qC (out:=out) (x:=x) k (by omega);refine ⟨λj z a1 a2 a3=>?_,h2⟩;by_cases e:j=k
   ·subst e; rw [hy] at a3; injection a3 with a3; subst a3; exact h
   ·exact h1 j z a1 (by omega) a3
  ·have h:lt x y=false:=by simpa using h
   rw [rN hy h];exact ⟨λj z a1 a2 _=>by omega,λ_=>⟨y,by simpa using hy,h⟩⟩
theorem Qol (tr:∀ x y z,R x y->R y z->R x z) {out:List α} {x:α} (ho:out.Pairwise R) (h1:∀ y∈out,lt x y=true->R x y) (h2:∀ y∈out,lt x y=false->R y x):(Lj lt out x).Pairwise R:=by
 obtain ⟨s1,s2⟩:=qC (lt:=lt) (out:=out) (x:=x) out.length (Ql _);have hle:=vQ lt out x out.length;unfold Lj;obtain ⟨k,hk⟩:=nmE (Lo lt out x out.length);rw [<-hk] at s1 s2 hle ⊢;have hd:(out.take k++out.drop k).Pairwise R:=by rw [Zi]; exact ho
 obtain ⟨d1,d2,d3⟩:=X2.1 hd;have hR:∀ y∈out.drop k,R x y:=λy hy=>by
  obtain ⟨i,hi⟩:=X1 hy;rw [Xe] at hi;have:k+i<out.length:=(Qf.1 hi).1;exact h1 y (Q0 hy) (s1 (k+i) y (by omega) this hi)
 have hL:∀ y∈out.take k,R y x:=λy hy=>by
  obtain ⟨i,hi⟩:=X1 hy;have hik:i<k:=by have:=(Qf.1 hi).1; simp at this; omega
  rw [Kf hik] at hi;obtain ⟨z,z1,z2⟩:=s2 (by omega);have hz:=h2 z (Qa z1) z2;by_cases e:i=k-1
  ·subst e; rw [hi] at z1; injection z1 with z1; subst z1; exact hz
  ·have hp:=Yb.1 ho i (k-1) (by omega) (by omega) (by omega);obtain ⟨_,e1⟩:=Qf.1 hi;obtain ⟨_,e2⟩:=Qf.1 z1;rw [e1,e2] at hp;exact tr _ _ _ hp hz
 refine X2.2 ⟨d1,Zh.2 ⟨hR,d2⟩,λy hy z hz=>?_⟩;rcases Qm.1 hz with rfl | hz
 ·exact hL y hy
 ·exact d3 y hy z hz
theorem DZ (tr:∀ x y z,R x y->R y z->R x z) {S:α->Prop} (h1:∀ x y,S x->S y->lt x y=true->R x y) {D:α->α->Prop} (h2:∀ x y,S x->S y->D y x->lt x y=false->R y x) :
 ∀ (l acc:List α),acc.Pairwise R->(∀ x∈acc,S x)->(∀ x∈l,S x)->l.Pairwise D->(∀ x∈acc,∀ y∈l,D x y)->(l.foldl (Lj lt) acc).Pairwise R
 | [],acc,ha,_,_,_,_=>ha
 |
  x::l,acc,ha,hs,hl,hd,hx=>by
  rw [Zh] at hd;refine DZ tr h1 h2 l (Lj lt acc x) ?_ ?_ (λy hy=>hl y (Qg _ hy)) hd.2 ?_
  ·exact Qol tr ha (λy hy=>h1 x y (hl x (by simp)) (hs y hy)) (λy hy=>h2 x y (hl x (by simp)) (hs y hy) (hx y hy x (by simp)))
  ·intro y hy;rcases UD.1 hy with rfl | hy
   ·exact hl _ (by simp)
   ·exact hs y hy
  ·intro y hy z hz;rcases UD.1 hy with rfl | hy
   ·exact hd.1 z hz
   ·exact hx y hy z (Qg _ hz)
theorem qI:∀ {l:List α},l.Pairwise R->∀ {u v:α},u∈l->v∈l->u≠v->R u v\/R v u
 | [],_,_,_,h,_,_=>by cases h
 |
  x::l,hp,u,v,hu,hv,hne=>by
  rw [Zh] at hp;rcases Qm.1 hu with e | hu
  ·rcases Qm.1 hv with e' | hv
   ·exact absurd (e.trans e'.symm) hne
   ·rw [e]; exact .inl (hp.1 v hv)
  ·rcases Qm.1 hv with e' | hv
   ·rw [e']; exact .inr (hp.1 u hu)
   ·exact qI hp.2 hu hv hne
end Srt
def px (p:Pt) (q:Rat):Rat:=U3 p.c.x q / (p.c.d:Rat)
def py (p:Pt) (q:Rat):Rat:=U3 p.c.y q / (p.c.d:Rat)
def Cn (q:Rat) (x y:Pt):Prop:=px x q<px y q\/px x q=px y q/\(py x q<py y q\/py x q=py y q/\x.id<y.id)
theorem XU (q:Rat) (x:Pt):¬Cn q x x:=by unfold Cn; grind
theorem YV (q:Rat) (x y z:Pt) (h:Cn q x y) (h':Cn q y z):Cn q x z:=by unfold Cn at *; grind
theorem gZ {q:Rat} {x y:Pt} (h:x.id≠y.id) (h':¬Cn q x y):Cn q y x:=by unfold Cn at *; grind
theorem zN {u v:Rat} {c d:Int} (hc:0<c) (hd:0<d):U7 (v*(c:Rat)-u*(d:Rat))=U7 (v / (d:Rat)-u / (c:Rat)):=by
 have hc':(0:Rat)<(c:Rat):=by exact_mod_cast hc
 have hd':(0:Rat)<(d:Rat):=by exact_mod_cast hd
 have e:v*(c:Rat)-u*(d:Rat)=((c:Rat)*(d:Rat))*(v / (d:Rat)-u / (c:Rat)):=by
  rw [J5,J5];have h1:=Wq (c:Rat) (by grind);have h2:=Wq (d:Rat) (by grind);grind
 rw [e,Cf (Xu hc' hd')]
theorem TY {x y:Pt} (hx:Sc x.c) (hy:Sc y.c) (q:Rat):U7 (U3 (Fu x.c y.c) q)=U7 (px y q-px x q):=by
 unfold Fu px; rw [Ty,Rf,Rf]; exact zN hx.n.2.2.1 hy.n.2.2.1
theorem TJ {x y:Pt} (hx:Sc x.c) (hy:Sc y.c) (q:Rat):U7 (U3 (Ft x.c y.c) q)=U7 (py y q-py x q):=by
 unfold Ft py; rw [Ty,Rf,Rf]; exact zN hx.n.2.2.1 hy.n.2.2.1
theorem NN {a:Tm} (ha:Va a) {x y:Pt} (hx:Sc x.c) (hy:Sc y.c) {q:Rat} (h1:He (Fl a) (Fu x.c y.c)=U7 (U3 (Fu x.c y.c) q)) (h2:He (Fl a) (Ft x.c y.c)=U7 (U3 (Ft x.c y.c) q)):Ti (Fl a) x y=true↔Cn q x y:=by
 rw [TY hx hy] at h1;rw [TJ hx hy] at h2;have d1:=(P5 hx hy).dp;have d2:=(P0 hx hy).dp;unfold Ti;simp only [Ln];have t1:=Fv (px y q-px x q);have t2:=Fv (py y q-py x q);by_cases e1:(Fu x.c y.c).length=0
 ·rw [if_neg (by omega)];rw [Qj e1,ZI] at h1;have:px x q=px y q:=by grind
  by_cases e2:(Ft x.c y.c).length=0
  ·rw [if_neg (by omega)];rw [Qj e2,ZI] at h2;unfold Cn;simp only [decide_eq_true_eq];grind
  ·rw [if_pos (by omega)];have:=(L6 ha d2 e2).2;unfold Cn;simp only [decide_eq_true_eq];grind
 ·rw [if_pos (by omega)];have:=(L6 ha d1 e1).2;unfold Cn;simp only [decide_eq_true_eq];grind
def Lf (l:List Pt):Um:=l.flatMap λx=>l.flatMap λy=>[Fu x.c y.c,Ft x.c y.c]
theorem Tu {l:List Pt} {x y:Pt} (hx:x∈l) (hy:y∈l):Fu x.c y.c∈Lf l/\Ft x.c y.c∈Lf l :=
 ⟨Zc.2 ⟨x,hx,Zc.2 ⟨y,hy,by simp⟩⟩,Zc.2 ⟨x,hx,Zc.2 ⟨y,hy,by simp⟩⟩⟩
theorem O4 {l:List Pt} (hl:∀ p∈l,Sc p.c):∀ p∈Lf l,Cp p:=λp hp=>by
 obtain ⟨x,hx,hp⟩:=Zc.1 hp;obtain ⟨y,hy,hp⟩:=Zc.1 hp;simp at hp;rcases hp with rfl | rfl
 ·exact P5 (hl x hx) (hl y hy)
 ·exact P0 (hl x hx) (hl y hy)
theorem oD {l:List Pt} (hl:∀ p∈l,Sc p.c) (hd:l.Pairwise λx y=>x.id≠y.id) {a:Tm} (ha:Va a):∃ y,Ff a y=-1/\∀ q,Ff a q=-1->q≤y->(∀ u∈l,∀ v∈l,(Ti (Fl a) u v=true↔Cn q u v))/\(Sf a l).Pairwise (Cn q):=by
 obtain ⟨y,y1,y2⟩:=ZO ha (Lf l) λp hp=>(O4 hl p hp).dp
 refine ⟨y,y1,λq q1 q2=>?_⟩;have h:=y2 q q1 q2;have hb:∀ u∈l,∀ v∈l,(Ti (Fl a) u v=true↔Cn q u v):=λu hu v hv=>NN ha (hl u hu) (hl v hv) (h _ (Tu hu hv).1) (h _ (Tu hu hv).2)
 refine ⟨hb,?_⟩;exact DZ (S:=λx=>x∈l) (D:=λx y=>x.id≠y.id) (YV q) (λu v hu hv h=>(hb u hu v hv).1 h) (λu v hu hv hne h=>gZ (λe=>hne e.symm) λh'=>by
  rw [(hb u hu v hv).2 h'] at h; cases h) l [] .nil (λx hx=>by cases hx) (λx hx=>hx) hd (λx hx=>by cases hx)
theorem bY {a b:Tm} {x y:Pt} (h:He (Fl b) (Aj x y)=He (Fl a) (Aj x y)):Ti (Fl b) x y=Ti (Fl a) x y:=by
 unfold Aj Li at h;unfold Ti;simp only [Ln];by_cases e1:0<(Fu x.c y.c).length
 ·rw [if_pos e1,if_pos e1]; rw [if_pos e1] at h; rw [h]
 ·rw [if_neg e1,if_neg e1]; rw [if_neg e1] at h; rw [h]
theorem BP {a b:Tm} {q r:Rat}:∀ (l:List Pt),(∀ u∈l,∀ v∈l,(Ti (Fl a) u v=true↔Cn q u v))->(∀ u∈l,∀ v∈l,(Ti (Fl b) u v=true↔Cn r u v))->l.Pairwise (Cn q)->(∀ x∈Ss (Fl a) l,He (Fl b) x.p=He (Fl a) x.p)->l.Pairwise (Cn r)/\Ss (Fl b) l=Ss (Fl a) l
 | [],_,_,_,_=>⟨.nil,rfl⟩
 | [x],_,_,_,_=>⟨Kl _ _,rfl⟩
 |
  x::y::l,ha,hb,hp,hc=>by
  rw [Zh] at hp;obtain ⟨i1,i2⟩:=BP (a:=a) (b:=b) (q:=q) (r:=r) (y::l) (λu hu v hv=>ha u (Qg _ hu) v (Qg _ hv)) (λu hu v hv=>hb u (Qg _ hu) v (Qg _ hv)) hp.2 (λz hz=>hc z (by simp only [Ss]; exact Qg _ hz));have h0:He (Fl b) (Aj x y)=He (Fl a) (Aj x y):=hc (QN (Fl a) x y) (by simp [Ss]);have h1:Cn r x y:=(hb x (by simp) y (by simp)).1 (by rw [bY h0]; exact (ha x (by simp) y (by simp)).2 (hp.1 y (by simp)));refine ⟨Zh.2 ⟨λz hz=>?_,i1⟩,?_⟩
  ·rcases Qm.1 hz with rfl | hz
   ·exact h1
   ·exact YV r x y z h1 ((Zh.1 i1).1 z hz)
  ·simp only [Ss];rw [i2]; congr 1;unfold QN; rw [h0]
theorem TZ {sg:Ul->Int}:∀ {l:List Pt},∀ x∈Ss sg l,∃ u∈l,∃ v∈l,x.p=Aj u v
 | [],x,hx=>by cases hx
 | [_],x,hx=>by cases hx
 |
  a::b::l,x,hx=>by
  simp only [Ss] at hx;rcases Qm.1 hx with rfl | hx
  ·exact ⟨a,by simp,b,by simp,rfl⟩
  ·obtain ⟨u,hu,v,hv,e⟩:=TZ (l:=b::l) x hx;exact ⟨u,Qg _ hu,v,Qg _ hv,e⟩
theorem qR {l:List Pt} {u v:Pt} (hu:u∈l) (hv:v∈l):Aj u v∈Lf l:=by
 unfold Aj Li; split
 ·exact (Tu hu hv).1
 ·exact (Tu hu hv).2
theorem lQ {l:List Pt} {a:Tm}:∀ x∈O2 l a,x.p∈Lf l:=λx hx=>by
 obtain ⟨u,hu,v,hv,e⟩:=TZ x hx;rw [e]; exact qR (Hj.1 hu) (Hj.1 hv)
theorem kO (l:List Pt):(Lf l).length=l.length*(l.length*2):=by
 have h1:∀ (x:Pt) (m:List Pt),(m.flatMap λy=>[Fu x.c y.c,Ft x.c y.c]).length=m.length*2:=λx m=>by
  induction m with
  | nil=>rfl
  | cons y m ih=>rw [Jn,Qu,ih,Q4]; simp; omega
 have h2:∀ m:List Pt,(m.flatMap λx=>l.flatMap λy=>[Fu x.c y.c,Ft x.c y.c]).length=m.length*(l.length*2):=λm=>by
  induction m with
  | nil=>simp
  | cons y m ih=>rw [Jn,Qu,ih,Q4,h1,Xm,Kt,Js]
 exact h2 l
theorem tG {l:List Pt} (hl:∀ p∈l,Sc p.c) (hd:l.Pairwise λx y=>x.id≠y.id) {a b:Tm} (ha:Va a) (hb:Va b) (h:∀ x∈O2 l a,He (Fl b) x.p=He (Fl a) x.p):Sf b l=Sf a l/\O2 l b=O2 l a:=by
 obtain ⟨q,q1,q2⟩:=oD hl hd ha;obtain ⟨r,r1,r2⟩:=oD hl hd hb;obtain ⟨a1,a2⟩:=q2 q q1 Qp;obtain ⟨b1,b2⟩:=r2 r r1 Qp;obtain ⟨c1,c2⟩:=BP (a:=a) (b:=b) (Sf a l) (λu hu v hv=>a1 u (Hj.1 hu) v (Hj.1 hv)) (λu hu v hv=>b1 u (Hj.1 hu) v (Hj.1 hv)) a2 h;have e:Sf b l=Sf a l:=qO (XU r) (YV r) b2 c1 λx=>by rw [Hj,Hj]
 exact ⟨e,by unfold O2; rw [e,c2]⟩
theorem Qy1 {l:List Pt} (hl:∀ p∈l,Sc p.c) (hn:l.length≤1000) (hd:l.Pairwise λx y=>x.id≠y.id):Stab (O2 l) (IJ l):=by
 refine ⟨pJ hl hn,⟨Lf l,O4 hl,λa _ x hx=>?_⟩,λa b ha hb h=>?_⟩
 ·obtain ⟨u,hu,v,hv,e⟩:=TZ x hx;rw [e]; exact qR (Hj.1 hu) (Hj.1 hv)
 ·obtain ⟨e1,e2⟩:=tG hl hd ha hb h;exact ⟨e2,by unfold IJ; rw [e1]⟩
end Orq
namespace Orq
theorem ang {ux uy vx vy wx wy:Rat} (hu:0<ux\/ux=0/\0<uy) (hv:0<vx\/vx=0/\0<vy) (hw:0<wx\/wx=0/\0<wy)
 (h1:0<=ux*vy-vx*uy) (h2:0<=vx*wy-wx*vy):0<=ux*wy-wx*uy/\(0<ux*vy-vx*uy\/0<vx*wy-wx*vy->0<ux*wy-wx*uy):=by
 have ux0:0<=ux:=by grind
 have wx0:0<=wx:=by grind
 rcases hv with hv | ⟨hv,hv2⟩
 ·have e:vx*(ux*wy-wx*uy)=ux*(vx*wy-wx*vy)+wx*(ux*vy-vx*uy):=by grind
  have hux:0<ux:=by
   rcases hu with h | ⟨h,h'⟩
   ·exact h
   ·have:=Xu hv h';rw [h] at h1; grind
  have p1:=Vz ux0 h2;have p2:=Vz wx0 h1;have key:∀ z:Rat,vx*z=ux*(vx*wy-wx*vy)+wx*(ux*vy-vx*uy)->0<=z:=λz hz=>by
   refine Wx.1 λhn=>?_
   have:=Xu hv (show 0 < -z by grind);grind
  refine ⟨key _ e,λhs=>?_⟩;rcases hw with hw | ⟨hw,hw2⟩
  ·have hpos:0<vx*(ux*wy-wx*uy):=by
    rcases hs with hs | hs
    ·have:=Xu hw hs; grind
    ·have:=Xu hux hs; grind
   have h0:=key _ e;refine Jq.1 λhn=>?_
   have:ux*wy-wx*uy=0:=by grind
   rw [this] at hpos; grind
  ·have:=Xu hux hw2;rw [hw]; grind
 ·rw [hv] at h1 h2;have hw0:wx=0:=by
   rcases hw with hw | hw
   ·have:=Xu hw hv2; grind
   ·exact hw.1
  have hwy:0<wy:=by grind
  have p:=Vz ux0 (Qt hwy);refine ⟨by rw [hw0]; grind,λhs=>?_⟩;rw [hv,hw0] at hs;have hux:0<ux:=by
   rcases hs with hs | hs
   ·refine Jq.1 λhn=>?_
    have:ux=0:=by grind
    rw [this] at hs; grind
   ·grind
  have:=Xu hux hwy;rw [hw0]; grind
section
variable {α:Type} (X Y:α->Rat)
def lx (a b:α):Prop:=X a<X b\/X a=X b/\Y a<Y b
def Nq (a b c:α):Rat:=(X b-X a)*(Y c-Y a)-(X c-X a)*(Y b-Y a)
variable {X Y}
theorem Lk (a:α):¬lx X Y a a:=by unfold lx; grind
theorem gV {a b c:α} (h:lx X Y a b) (h':lx X Y b c):lx X Y a c:=by unfold lx at *; grind
theorem Ll {a b:α} (h:lx X Y a b):0<X b-X a\/X b-X a=0/\0<Y b-Y a:=by unfold lx at h; grind
theorem FK (a b:α):Nq X Y a b a=0/\Nq X Y a b b=0:=by unfold Nq; grind
theorem rY (a b c:α):Nq X Y a c b=- Nq X Y a b c:=by unfold Nq; grind
theorem yB (a b c:α):Nq X Y a b c=(X b-X a)*(Y c-Y b)-(X c-X b)*(Y b-Y a):=by unfold Nq; grind
def Edg (Q:α->α->Prop):List α->Prop
 | a::b::r=>Q a b/\Edg Q (b::r)
 | _=>True
def Cnv (R:α->α->α->Prop):List α->Prop
 | a::b::c::r=>R a b c/\Cnv R (b::c::r)
 | _=>True
theorem Edg.tail {Q:α->α->Prop} {a:α} {l:List α} (h:Edg Q (a::l)):Edg Q l:=by
 cases l with
 | nil=>trivial
 | cons b l=>exact h.2
theorem Cnv.tail {R:α->α->α->Prop} {a:α} {l:List α} (h:Cnv R (a::l)):Cnv R l:=by
 match l,h with
 | [],_=>trivial
 | [_],_=>trivial
 | b::c::l,h=>exact h.2
def La (s:α->α->α->Bool) (c:α):List α->List α
 | b::a::r=>if s a b c=true then b::a::r else La s c (a::r)
 | l=>l
def Pn (s:α->α->α->Bool):List α->List α->List α
 | acc,[]=>acc
 | acc,c::l=>Pn s (c::La s c acc) l
structure Stk (X Y:α->Rat) (P:List α) (st:List α):Prop where
 srt:st.Pairwise λb a=>lx X Y a b
 mem:∀ p∈st,p∈P
 edg:Edg (λb a=>∀ p∈P,0≤Nq X Y a b p) st
 cnv:Cnv (λc b a=>0<Nq X Y a b c) st
theorem Stk.tail {P:List α} {a:α} {st:List α} (h:Stk X Y P (a::st)):Stk X Y P st:=⟨(Zh.1 h.srt).2,λp hp=>h.mem p (Qg _ hp),h.edg.tail,h.cnv.tail⟩
theorem Qjk {P:List α} {s:α->α->α->Bool} {c:α} (hs:∀ a∈P,∀ b∈P,(s a b c=true↔0<Nq X Y a b c)) (hc:∀ p∈P,lx X Y p c) :
 ∀ (st:List α) (t:α),Stk X Y P (t::st)->(∀ p∈P,lx X Y t p->0≤Nq X Y t c p) ->
 ∃ t' st',La s c (t::st)=t'::st'/\Stk X Y P (t'::st')/\(∀ p∈P,lx X Y t' p->0≤Nq X Y t' c p)/\(∀ a r,st'=a::r->0<Nq X Y a t' c)/\(t'::st').getLast? = (t::st).getLast?
 | [],t,h,h2=>⟨t,[],rfl,h,h2,λa r e=>(by cases e),rfl⟩
 |
  a::r,t,h,h2=>by
  have ht:=h.mem t (by simp);have ha:=h.mem a (by simp);by_cases e:s a t c=true
  ·refine ⟨t,a::r,by simp only [La]; rw [if_pos e],h,h2,λa' r' e'=>?_,rfl⟩;injection e' with e1 _
   rw [<-e1]; exact (hs a ha t ht).1 e
  ·have hle:Nq X Y a t c<=0:=Wx.1 λh'=>e ((hs a ha t ht).2 h')
   have hat:lx X Y a t:=(Zh.1 h.srt).1 a (by simp);obtain ⟨t',st',g1,g2,g3,g4,g5⟩:=Qjk hs hc r a h.tail λp hp hap=>by
    have e1:=h.edg.1 p hp;have k:=ang (Ll (hc a ha)) (Ll hat) (Ll hap) (by rw [rY] at *; unfold Nq at *; grind) (by unfold Nq at *; grind);unfold Nq; grind
   exact ⟨t',st',by simp only [La]; rw [if_neg e]; exact g1,g2,g3,g4,by rw [g5]; rfl⟩
theorem OX {P:List α} {c:α}:∀ (st:List α) (t:α),Stk X Y P (t::st)->lx X Y t c->(∀ a r,st=a::r->0<Nq X Y a t c)->Edg (λb a=>0<Nq X Y a b c) (t::st)
 | [],_,_,_,_=>trivial
 | [a],t,_,_,h=>⟨h a [] rfl,trivial⟩
 |
  a::q::r,t,hS,htc,h=>by
  have h1:=h a (q::r) rfl;have h0:0<Nq X Y q a t:=hS.cnv.1;have p1:=Zh.1 hS.srt;have p2:=Zh.1 p1.2;have hat:lx X Y a t:=p1.1 a (by simp);have hqa:lx X Y q a:=p2.1 q (by simp);refine ⟨h1,OX (q::r) a hS.tail (gV hat htc) λa' r' e=>?_⟩;injection e with e _;rw [<-e];rw [yB] at h0 h1 ⊢;have k:=(ang (Ll hqa) (Ll hat) (Ll htc) (Qt h0) (Qt h1)).2 (.inl h0);grind
theorem Qpl {P:List α} {t:α} {st:List α} {c:α} (h:Stk X Y P (t::st)) (hc:∀ p∈P,lx X Y p c) (hP:∀ p∈P,p=t\/lx X Y p t\/lx X Y t p) (hb:∀ p∈P,(t::st).getLast? = some p\/∃ b,(t::st).getLast? = some b/\lx X Y b p) (h2:∀ p∈P,lx X Y t p->0≤Nq X Y t c p) (h3:∀ a r,st=a::r->0<Nq X Y a t c):Stk X Y (P++[c]) (c::t::st):=by
 have ht:=h.mem t (by simp);have htc:=hc t ht;have hf:=OX st t h htc h3;refine ⟨Zh.2 ⟨λp hp=>hc p (h.mem p hp),h.srt⟩,λp hp=>?_,⟨λp hp=>?_,?_⟩,?_⟩
 ·rcases Qm.1 hp with rfl | hp
  ·simp
  ·exact Z6 _ (h.mem p hp)
 ·rcases Qq.1 hp with hp | hp
  ·rcases hP p hp with rfl | hpt | htp
   ·rw [(FK p c).1]; exact Qp
   ·cases st with
    |
     nil =>
     exfalso;rcases hb p hp with e | ⟨b,e,hb⟩
     ·injection e with e; subst e; exact Lk _ hpt
     ·injection e with e; subst e; exact Lk _ (gV hpt hb)
    |
     cons a r =>
     have e1:=h.edg.1 p hp;have h3:=h3 a r rfl;have hat:lx X Y a t:=(Zh.1 h.srt).1 a (by simp);have k:=(ang (Ll hpt) (Ll hat) (Ll htc) (by unfold Nq at *; grind) (by unfold Nq at *; grind)).1;unfold Nq; grind
   ·exact h2 p hp htp
  ·rw [Qk.1 hp,(FK t c).2]; exact Qp
 ·cases st with
  | nil=>trivial
  |
   cons a r =>
   have key:∀ l:List α,Edg (λb a=>∀ p∈P,0≤Nq X Y a b p) l->Edg (λb a=>0<Nq X Y a b c) l->Edg (λb a=>∀ p∈P++[c],0≤Nq X Y a b p) l:=by
    intro l
    induction l with
    | nil=>intros; trivial
    |
     cons x l ih =>
     cases l with
     | nil=>intros; trivial
     |
      cons y l =>
      intro k1 k2;refine ⟨λp hp=>?_,ih k1.2 k2.2⟩;rcases Qq.1 hp with hp | hp
      ·exact k1.1 p hp
      ·rw [Qk.1 hp]; exact Qt k2.1
   exact key _ h.edg hf
 ·cases st with
  | nil=>trivial
  | cons a r=>exact ⟨h3 a r rfl,h.cnv⟩
theorem IT {s:α->α->α->Bool} {row:List α} (hs:∀ a∈row,∀ b∈row,∀ c∈row,(s a b c=true↔0<Nq X Y a b c)) (hrow:row.Pairwise (lx X Y)) :
 ∀ (l P:List α) (t:α) (st:List α),row=P++l->Stk X Y P (t::st)->P.getLast? = some t->(t::st).getLast? = P.head? ->
 ∃ t' st',Pn s (t::st) l=t'::st'/\Stk X Y row (t'::st')/\row.getLast? = some t'/\(t'::st').getLast? = row.head?
 |
  [],P,t,st,e,h,h1,h2=>by
  rw [Zv] at e; subst e;exact ⟨t,st,rfl,h,h1,h2⟩
 |
  c::l,P,t,st,e,h,h1,h2=>by
  have hPm:∀ p∈P,p∈row:=λp hp=>by rw [e]; exact Z6 _ hp
  have hcm:c∈row:=by rw [e]; simp
  have hpw:=hrow;rw [e] at hpw;obtain ⟨w1,w2,w3⟩:=X2.1 hpw;have hc:∀ p∈P,lx X Y p c:=λp hp=>w3 p hp c (by simp)
  have htop:∀ p∈P,p=t\/lx X Y p t:=λp hp=>by
   obtain ⟨P1,rfl⟩:∃ P1,P=P1++[t]:=by
    have:=Y6.1 h1;exact this
   rcases Qq.1 hp with hp | hp
   ·exact .inr ((X2.1 w1).2.2 p hp t (by simp))
   ·exact .inl (Qk.1 hp)
  obtain ⟨t',st',g1,g2,g3,g4,g5⟩:=Qjk (λa ha b hb=>hs a (hPm a ha) b (hPm b hb) c hcm) hc st t h λp hp htp=>by
   rcases htop p hp with rfl | h'
   ·exact absurd htp (Lk _)
   ·exact absurd (gV htp h') (Lk _)
  have tot:∀ p∈P,p=t'\/lx X Y p t'\/lx X Y t' p:=λp hp=>by
   obtain ⟨i,hi,rfl⟩:=V2.1 hp;obtain ⟨j,hj,e2⟩:=V2.1 (g2.mem t' (by simp));rcases Kn i j with h' | h' | h'
   ·exact .inr (.inl (by rw [<-e2]; exact Yb.1 w1 i j hi hj h'))
   ·subst h'; exact .inl e2
   ·exact .inr (.inr (by rw [<-e2]; exact Yb.1 w1 j i hj hi h'))
  have hPne:P≠[]:=λh'=>by rw [h'] at h1; cases h1
  have hb:∀ p∈P,(t'::st').getLast? = some p\/∃ b,(t'::st').getLast? = some b/\lx X Y b p:=λp hp=>by
   rw [g5,h2];cases P with
   | nil=>exact absurd rfl hPne
   |
    cons f P' =>
    rcases Qm.1 hp with rfl | hp
    ·exact .inl rfl
    ·exact .inr ⟨f,rfl,(Zh.1 w1).1 p hp⟩
  have hpush:=Qpl g2 hc tot hb g3 g4;obtain ⟨t2,st2,k1,k2,k3,k4⟩:=IT hs hrow l (P++[c]) c (t'::st') (by rw [e]; simp) hpush (by simp) (by
   rw [Jx,g5,h2];cases P with
   | nil=>exact absurd rfl hPne
   | cons f P'=>rfl)
  exact ⟨t2,st2,by simp only [Pn]; rw [g1]; exact k1,k2,k3,k4⟩
theorem Qf8 {P:List α} (tot:∀ p∈P,∀ q∈P,p=q\/lx X Y p q\/lx X Y q p) {z:α} :
 ∀ (L L':List α) (f:α),(f::L).Pairwise (lx X Y)->(f::L').Pairwise (lx X Y)->(∀ p∈f::L,p∈P)->(∀ p∈f::L',p∈P) ->
 Edg (λa b=>∀ p∈P,0≤Nq X Y a b p) (f::L)->Edg (λa b=>∀ p∈P,0≤Nq X Y a b p) (f::L') ->
 Cnv (λa b c=>0<Nq X Y a b c) (f::L)->Cnv (λa b c=>0<Nq X Y a b c) (f::L')->(f::L).getLast? = some z->(f::L').getLast? = some z->L=L':=by
 have one:∀ (L L':List α) (f b b':α),(f::b::L).Pairwise (lx X Y)->(f::b'::L').Pairwise (lx X Y)->(∀ p∈f::b::L,p∈P)->b'∈P ->
  Edg (λa b=>∀ p∈P,0≤Nq X Y a b p) (f::b::L)->0≤Nq X Y f b' b->Cnv (λa b c=>0<Nq X Y a b c) (f::b::L)->(f::b::L).getLast? = some z->(f::b'::L').getLast? = some z->¬lx X Y b b':=by
  intro L L' f b b' s s' m m' e e' c l l' hlt;have s1:=Zh.1 s;have hfb:lx X Y f b:=s1.1 b (by simp);have hcol:Nq X Y f b b'=0:=by
   have:=e.1 b' m';rw [rY] at e'; grind
  cases L with
  |
   nil =>
   simp at l;subst l;have hz:b'=b\/lx X Y b' b:=by
    have:b∈f::b'::L':=V3 l';have s2:=(Zh.1 s').2;rcases Qm.1 this with rfl | h
    ·exact absurd hfb (Lk _)
    ·rcases Qm.1 h with h | h
     ·exact .inl h.symm
     ·exact .inr ((Zh.1 s2).1 b h)
   rcases hz with rfl | hz
   ·exact Lk _ hlt
   ·exact Lk _ (gV hlt hz)
  |
   cons d M =>
   have h1:0<Nq X Y f b d:=c.1;have h2:=e.2.1 b' m';have s2:=Zh.1 s1.2;have hbd:lx X Y b d:=s2.1 d (by simp);have k:=(ang (Ll hlt) (Ll hfb) (Ll hbd) (by unfold Nq at hcol; grind) (by rw [yB] at h1; exact Rat.le_of_lt h1)).2 (.inr (by rw [yB] at h1; exact h1));unfold Nq at h2; grind
 intro L
 induction L with
 |
  nil =>
  intro L' f s s' m m' e e' c c' l l';simp at l;cases L' with
  | nil=>rfl
  |
   cons b' M' =>
   exfalso;subst l;have h1:=(Zh.1 s').1 f (by
    rw [Jx] at l';exact V3 l')
   exact Lk _ h1
 |
  cons b M ih =>
  intro L' f s s' m m' e e' c c' l l';cases L' with
  |
   nil =>
   exfalso;simp at l';subst l';have h1:=(Zh.1 s).1 f (by
    rw [Jx] at l;exact V3 l)
   exact Lk _ h1
  |
   cons b' M' =>
   have hb:=m b (by simp);have hb':=m' b' (by simp);have heq:b=b':=by
    rcases tot b hb b' hb' with h | h | h
    ·exact h
    ·exact absurd h (one M M' f b b' s s' m hb' e (e'.1 b hb) c l l')
    ·exact absurd h (one M' M f b' b s' s m' hb e' (e.1 b' hb') c' l' l)
   subst heq;rw [Jx] at l l';rw [ih M' b (Zh.1 s).2 (Zh.1 s').2 (λp hp=>m p (Qg _ hp)) (λp hp=>m' p (Qg _ hp)) e.2 e'.2 c.tail c'.tail l l']
end
end Orq
namespace Orr
open Go
structure RawInt where
 b:Bool
 l:List Nat
structure RawPt where
 x:List RawInt
 y:List RawInt
 d:RawInt
 id:Int
abbrev An (z:RawInt):Uq:=[.bool z.b,Q0v z.l]
structure RawInt.Ok (z:RawInt):Prop where
 u:∀ u∈z.l,u<4294967296
structure RawPt.Ok (z:RawPt):Prop where
 x:∀ a∈z.x,a.Ok
 y:∀ a∈z.y,a.Ok
 d:z.d.Ok
 id:-9223372036854775808<=z.id/\z.id<=9223372036854775807
def Hu (most:Int) (z:RawInt):Int:=match z.l with
 | []=>0
 | u::_=>if z.b=true then -((u:Int) % (most+1)) else (u:Int) % (most+1)
theorem KP {most:Int} (h:0<=most) (z:RawInt):-most<=Hu most z/\Hu most z<=most:=by
 unfold Hu
 split
 ·omega
 ·rename_i u _ _;have h1:=Vi (u:Int) (b:=most+1) (by omega);have h2:=Yv (u:Int) (b:=most+1) (by omega)
  split <;> omega
def Gi (most:Int) (l:List RawInt):Ul:=(l.take 3).map (Hu most)
def Qoq (most:Int) (x y:List RawInt) (d:RawInt):Crv:=⟨Gi most x,Gi most y,Hu 3 d⟩
theorem SV (most:Int) (l:List RawInt):(Gi most l).length<=3:=by unfold Gi; rw [List.length_map,List.length_take]; omega
theorem yJ {most:Int} {l:List RawInt} {i:Nat} {z:RawInt} (hi:i<3) (h:l[i]? = some z):Gi most (l.take (i+1))=Gi most (l.take i)++[Hu most z]:=by
 unfold Gi;rw [List.take_take,List.take_take,V5 (by omega),V5 (by omega),Z3,h];simp
theorem SY (most:Int) {l:List RawInt} {i:Nat} (h:l.length<=i\/3<=i):Gi most (l.take i)=Gi most l:=by
 unfold Gi;rw [List.take_take];rcases Nat.le_total 3 i with h3 | h3
 ·rw [Zx h3]
 ·rcases h with h | h
  ·rw [V5 h3,Qn (l:=l) (i:=i) (by omega),Qn (l:=l) (i:=3) (by omega)]
  ·rw [V5 h3,show i=3 by omega]
theorem SK {most:Int} {l:List RawInt} {z:Int} (hm:0<=most) (h:z∈Gi most l):-most<=z/\z<=most:=by
 obtain ⟨a,_,rfl⟩:=Q6.1 h;exact KP hm a
theorem Qbq {most:Int} (hm:0<=most/\most<=999) (x y:List RawInt) (d:RawInt):Cs 10 3 (Qoq most x y d):=by
 have key:∀ z:Int,-999<=z/\z<=999->U9 z<=10:=λz h=>Sl.2 (by omega)
 refine ⟨λz hz=>?_,λz hz=>?_,?_,SV _ _,SV _ _⟩
 ·have:=SK hm.1 hz; exact key _ (by omega)
 ·have:=SK hm.1 hz; exact key _ (by omega)
 ·have:=KP (most:=3) (by decide) d;show U9 (Hu 3 d)<=10;exact key _ (by omega)
end Orr
namespace Orr
def Nc (l:List Pt):Prop:=l.Pairwise λa b=>a.id<b.id
theorem Qhx (p:Pt) (l:List Pt) (id:Int):has (p::l) id=if p.id<id then has l id else decide (p.id=id):=by
 by_cases h:p.id<id
 ·rw [if_pos h]; unfold has; simp only [Ro]; rw [if_pos h]; simp
 ·rw [if_neg h]; unfold has; simp only [Ro]; rw [if_neg h]; simp
theorem Qjp (p:Pt) (l:List Pt) (q:Pt):put (p::l) q=if p.id<q.id then p::put l q else q::p::l:=by
 unfold put;simp only [Ro]
 split <;> simp
theorem EV:∀ {l:List Pt} {q:Pt},Nc l->has l q.id=false->Nc (put l q)
 | [],q,_,_=>by simp [put,Ro,Nc]
 |
  p::l,q,h,hn=>by
  have h1:=Zh.1 h;rw [Qhx] at hn;rw [Qjp]
  split
  ·rename_i hlt;rw [if_pos hlt] at hn;refine Zh.2 ⟨λx hx=>?_,EV h1.2 hn⟩;rcases MB hx with rfl | hx
   ·exact hlt
   ·exact h1.1 x hx
  ·rename_i hge;rw [if_neg hge,decide_eq_false_iff_not] at hn;refine Zh.2 ⟨λx hx=>?_,h⟩;rcases Qm.1 hx with rfl | hx
   ·omega
   ·have:=h1.1 x hx; omega
end Orr
namespace Orr
open Go
section
variable {α:Type} {lt:α->α->Bool}
theorem Qca (out:List α) (c:α):(Lj lt out c).Perm (c::out):=by
 unfold Lj;exact (List.perm_middle).trans (by rw [Zi])
theorem CO:∀ (l acc:List α),(l.foldl (Lj lt) acc).Perm (l++acc)
 | [],acc=>List.Perm.refl _
 |
  c::l,acc=>by
  simp only [Z5];exact (CO l _).trans (((Qca acc c).append_left l).trans List.perm_middle)
theorem cI (l:List α):(Lu lt l).Perm l:=by
 have:=CO (lt:=lt) l [];rwa [Zv] at this
end
end Orr
namespace Orr
open Go
theorem Qhj (c:Int) (l:Ul):Rv (l.map (· * c))=Rv l*c.natAbs:=by
 have key:∀ (l:Ul) (g:Nat),(l.map (· * c)).foldl (λg z=>Nat.gcd g z.natAbs) (g*c.natAbs)=l.foldl (λg z=>Nat.gcd g z.natAbs) g*c.natAbs:=by
  intro l
  induction l with
  | nil=>intro g; rfl
  |
   cons z l ih =>
   intro g;simp only [Zz,Z5,J8,Nat.gcd_mul_right];exact ih _
 have:=key l 0;rwa [Yj] at this
theorem Qyu {M:List Pt} (hs:Nc M) {i j:Nat} {p r:Pt} (hij:i<j) (hi:M[i]? = some p) (hj:M[j]? = some r):p.id<r.id:=by
 obtain ⟨h1,e1⟩:=Qf.1 hi;obtain ⟨h2,e2⟩:=Qf.1 hj;rw [<-e1,<-e2];exact Yb.1 hs i j h1 h2 hij
theorem Qht {M:List Pt} {i:Nat} (hi:i<M.length):(M.take i++M.drop (i+1)).length+1=M.length:=by
 rw [Qu,Qr,Q9]; omega
end Orr
namespace Orr
def Re (a b:Crv):Ul:=ZU (Gf (Fu a b) (Fu a b)) (Gf (Ft a b) (Ft a b))
def G8 (a b c d:Crv):Ul:=Mx (Fo (Re c d) ((a.d*b.d)*(a.d*b.d))) (Fo (Re a b) ((c.d*d.d)*(c.d*d.d)))
theorem rF {a b:Crv} (ha:Cb a) (hb:Cb b):U6 (Re a b)/\(Re a b).length<=31/\Bd 4194312 (Re a b):=by
 obtain ⟨_,l1,b1⟩:=rG ha hb;obtain ⟨_,l2,b2⟩:=rU ha hb;have m1:=Rq (Fu a b) (Fu a b);have m2:=Rq (Ft a b) (Ft a b);have q1:=Mi (u:=5) b1 b1 (by omega);have q2:=Mi (u:=5) b2 b2 (by omega);refine ⟨Fq _ _,?_,Ux (WB q1 q2) (by omega)⟩;have:=Ac (Gf (Fu a b) (Fu a b)) (Gf (Ft a b) (Ft a b));unfold Re;omega
theorem nU {a b:Crv} (ha:Cb a) (hb:Cb b):U9 (a.d*b.d)<=2097152:=by
 have:=Gh a.d b.d; have:=ha.d; have:=hb.d; omega
theorem aM {a b:Crv} (ha:Cb a) (hb:Cb b):U9 ((a.d*b.d)*(a.d*b.d))<=4194304:=by
 have:=Gh (a.d*b.d) (a.d*b.d); have:=nU ha hb; omega
def No (sg:Ul->Int) (a b c d:Pt):Ct:=⟨5,a.id,b.id,c.id,d.id,G8 a.c b.c c.c d.c,He sg (G8 a.c b.c c.c d.c)⟩
theorem LX (sg:Ul->Int) (a b c d:Pt):(No sg a b c d).p=G8 a.c b.c c.c d.c:=by rw [No]
def Hx:Nat->List Pt->List (Pt×Pt)
 | 0,_=>[]
 | _+1,[]=>[]
 | k+1,x::l=>l.map (λy=>(x,y))++Hx k l
def Fx (l:List Pt):List (Pt×Pt):=Hx l.length l
theorem D7:∀ (l:List Pt) (i:Nat) (x:Pt),l[i]? = some x->Hx (i+1) l=Hx i l++(l.drop (i+1)).map (λy=>(x,y))
 | [],i,x,h=>by simp at h
 |
  y::l,0,x,h=>by
  simp at h; subst h;simp [Hx]
 |
  y::l,i+1,x,h=>by
  have h:l[i]? = some x:=by simpa using h
  have ih:=D7 l i x h;show l.map (λz=>(y,z))++Hx (i+1) l=(l.map (λz=>(y,z))++Hx i l)++_;rw [ih,Ze];rfl
theorem Tl:∀ (k:Nat) (l:List Pt),∀ m∈Hx k l,m.1∈l/\m.2∈l
 | 0,l,m,h=>by simp [Hx] at h
 | k+1,[],m,h=>by simp [Hx] at h
 |
  k+1,x::l,m,h=>by
  rcases Qq.1 h with h | h
  ·obtain ⟨y,hy,rfl⟩:=Q6.1 h;exact ⟨Qy ..,Qg _ hy⟩
  ·obtain ⟨h1,h2⟩:=Tl k l m h;exact ⟨Qg _ h1,Qg _ h2⟩
theorem KL:∀ (k:Nat) (l:List Pt),(Hx k l).length<=k*l.length
 | 0,l=>by simp [Hx]
 | k+1,[]=>by simp [Hx]
 |
  k+1,x::l=>by
  have:=KL k l;simp only [Hx,Qu,Q8,Q4];have e:(k+1)*(l.length+1)=k*l.length+k+l.length+1:=by rw [Xm,Xk]; omega
  omega
def Po (sg:Ul->Int) (s m:Pt×Pt):Pt×Pt:=if He sg (G8 s.1.c s.2.c m.1.c m.2.c)<0 then m else s
def Hh (sg:Ul->Int) (s:Pt×Pt) (ps:List (Pt×Pt)):Pt×Pt:=ps.foldl (Po sg) s
theorem RR (sg:Ul->Int) (s m:Pt×Pt):Po sg s m=m\/Po sg s m=s:=by
 unfold Po
 split
 ·exact .inl rfl
 ·exact .inr rfl
theorem QB (sg:Ul->Int) (s m:Pt×Pt) (ps:List (Pt×Pt)):Hh sg s (m::ps)=Hh sg (Po sg s m) ps:=by unfold Hh; rw [List.foldl_cons]
theorem yH (sg:Ul->Int) (s:Pt×Pt) (ps:List (Pt×Pt)) (m:Pt×Pt):Hh sg s (ps++[m])=Po sg (Hh sg s ps) m:=by simp [Hh]
theorem D4 (sg:Ul->Int) {l:List Pt}:∀ (ps:List (Pt×Pt)) (s:Pt×Pt),s.1∈l/\s.2∈l->(∀ m∈ps,m.1∈l/\m.2∈l)->(Hh sg s ps).1∈l/\(Hh sg s ps).2∈l
 | [],s,hs,_=>hs
 |
  m::ps,s,hs,h=>by
  have hn:(Po sg s m).1∈l/\(Po sg s m).2∈l:=by
   rcases RR sg s m with e | e
   ·rw [e]; exact h m (Qy ..)
   ·rw [e]; exact hs
  rw [QB];exact D4 sg ps (Po sg s m) hn λx hx=>h x (Qg _ hx)
def ZX (s m:Pt×Pt):Bool:=decide (m.1.id≠s.1.id) || decide (m.2.id≠s.2.id)
def Mr (sg:Ul->Int) (s:Pt×Pt) (ps:List (Pt×Pt)):List Ct:=(ps.filter (ZX s)).map λm=>No sg s.1 s.2 m.1 m.2
theorem Qn6 {sg:Ul->Int} {s m:Pt×Pt} {ps:List (Pt×Pt)} (h:ZX s m=true):Mr sg s (ps++[m])=Mr sg s ps++[No sg s.1 s.2 m.1 m.2]:=by simp [Mr,Vk,h]
theorem Qn5 {sg:Ul->Int} {s m:Pt×Pt} {ps:List (Pt×Pt)} (h:ZX s m=false):Mr sg s (ps++[m])=Mr sg s ps:=by simp [Mr,Vk,h]
theorem IB {sg:Ul->Int} {s:Pt×Pt} {ps:List (Pt×Pt)} {c:Ct} (h:c∈Mr sg s ps):∃ x∈ps,No sg s.1 s.2 x.1 x.2=c:=by
 unfold Mr at h;obtain ⟨x,hx,e⟩:=Q6.1 h;exact ⟨x,(Yg.1 hx).1,e⟩
theorem IN (sg:Ul->Int) (s:Pt×Pt) (ps:List (Pt×Pt)):(Mr sg s ps).length<=ps.length:=by
 unfold Mr;rw [Q8];exact Yy _ _
def XB (sg:Ul->Int):List Pt->List Pt
 | a::b::l=>[(Hh sg (a,b) (Fx (a::b::l))).1,(Hh sg (a,b) (Fx (a::b::l))).2]
 | _=>[]
def D6 (sg:Ul->Int):List Pt->List Ct
 | a::b::l=>Mr sg (Hh sg (a,b) (Fx (a::b::l))) (Fx (a::b::l))
 | _=>[]
theorem Qct (sg:Ul->Int) {l:List Pt} (h:l.length<2):XB sg l=[]/\D6 sg l=[]:=by
 match l,h with
 | [],_=>exact ⟨rfl,rfl⟩
 | [a],_=>exact ⟨rfl,rfl⟩
theorem Qwg {l:List Pt} (h:¬l.length<2):∃ a b m,l=a::b::m:=by
 match l,h with
 | [],h=>simp at h
 | [a],h=>simp at h
 | a::b::m,_=>exact ⟨a,b,m,rfl⟩
theorem qP (sg:Ul->Int) (l:List Pt):(D6 sg l).length<=l.length*l.length:=by
 match l with
 | []=>simp [D6]
 | [a]=>simp [D6]
 | a::b::m=>exact Qc (IN _ _ _) (KL _ _)
def Ic (l:List Um):Ur:=l.map λr=>[.row (r.map λp=>[pl p])]
abbrev JQ (r:Um):Ur:=r.map λp=>[pl p]
theorem YH (l:List Um):(Ic l).length=l.length:=by simp [Ic]
def XR (i:Nat) (rows:List Um):Nat->List Um
 | 0=>[]
 | j+1=>if j=i then XR i rows j else XR i rows j++[(rows.getD j []).drop 1]
def VX (rows:List Um) (i:Nat):List Um:=XR i rows rows.length
def C6 (f:Nat->Ul) (rows:List Um):Nat->Ul
 | 0=>[]
 |
  i+1=>if ((rows.getD i []).getD 0 []).length=0 then C6 f rows i else
  if i % 2=0 then ZU (C6 f rows i) (Gf ((rows.getD i []).getD 0 []) (f i)) else Mx (C6 f rows i) (Gf ((rows.getD i []).getD 0 []) (f i))
def D8:Nat->List Um->Ul
 | 0,_=>[1]
 | k+1,rows=>C6 (λi=>D8 k (VX rows i)) rows (k+1)
structure Sq (s:Nat) (ds:List Nat) (k w:Nat) (rows:List (List (List Int))):Prop where
 l:rows.length=k
 w:∀ r∈rows,r.length=w
 t:∀ r∈rows,∀ p∈r,U6 p
 b:∀ r∈rows,∀ p∈r,Bd s p
 n:∀ r∈rows,∀ (j:Nat) (p:List Int),r[j]? = some p->p.length≤ds.getD j 0+1
theorem LZ {i:Nat} {rows:List Um}:∀ {j:Nat} {r:Um},j≤rows.length->r∈XR i rows j->∃ q∈rows,r=q.drop 1
 | 0,r,_,h=>by simp [XR] at h
 |
  j+1,r,hj,h=>by
  simp only [XR] at h
  split at h
  ·exact LZ (by omega) h
  ·rcases Qq.1 h with h | h
   ·exact LZ (by omega) h
   ·rw [Qk.1 h];exact ⟨rows.getD j [],Qa (i:=j) (by rw [Qi,Qe (by omega)]; rfl),rfl⟩
theorem LQ {i:Nat} {rows:List Um}:∀ (j:Nat),(XR i rows j).length=if i<j then j-1 else j
 | 0=>rfl
 |
  j+1=>by
  have ih:=LQ (i:=i) (rows:=rows) j;simp only [XR]
  split
  ·rename_i e; subst e; rw [ih,if_neg (by omega),if_pos (by omega)]; omega
  ·rw [Qu,ih,Vv]
   split <;> split <;> omega
theorem Sq.min {s d k w:Nat} {ds:Un} {rows:List Um} (h:Sq s (d::ds) (k+1) (w+1) rows) {i:Nat} (hi:i<k+1):Sq s ds k w (VX rows i):=by
 have hl:=h.l;have hm:∀ {r:Um},r∈VX rows i->∃ q∈rows,r=q.drop 1:=λh=>LZ (Ql _) h
 refine ⟨by unfold VX; rw [LQ,hl,if_pos hi]; omega,λr hr=>?_,λr hr p hp=>?_,λr hr p hp=>?_,λr hr j p hp=>?_⟩
 ·obtain ⟨q,hq,rfl⟩:=hm hr;rw [Q9,h.w q hq]; omega
 all_goals obtain ⟨q,hq,rfl⟩:=hm hr
 ·exact h.t q hq p (Q0 hp)
 ·exact h.b q hq p (Q0 hp)
 ·rw [Xe] at hp;have:=h.n q hq (1+j) p hp;rw [Js 1 j] at this;exact this
theorem Sq.at {s d k w:Nat} {ds:Un} {rows:List Um} (h:Sq s (d::ds) k (w+1) rows) {i:Nat} (hi:i<k):∃ p r,rows[i]? = some (p::r)/\(rows.getD i []).getD 0 []=p/\U6 p/\Bd s p/\p.length<=d+1:=by
 obtain ⟨r,hr⟩:=gxE (l:=rows) (i:=i) (by rw [h.l]; exact hi);have hm:=Qa hr;cases r with
 | nil=>have:=h.w _ hm; simp at this
 |
  cons p r =>
  have e:rows.getD i []=p::r:=by rw [Qi,hr]; rfl
  refine ⟨p,r,hr,by rw [e]; rfl,h.t _ hm p (by simp),h.b _ hm p (by simp),h.n _ hm 0 p rfl⟩
theorem jK {s d k w:Nat} {ds:Un} {f:Nat->Ul} {rows:List Um} {B L:Nat} (h:Sq s (d::ds) k (w+1) rows) (hn:d<31) (hf:∀ i,i<k->Bd B (f i)/\(f i).length<=L+1):∀ i,i<=k->U6 (C6 f rows i)/\Bd (s+B+5+i) (C6 f rows i)/\(C6 f rows i).length<=d+L+1
 | 0,_=>⟨rfl,λz hz=>(by cases hz),Qh _⟩
 |
  i+1,hi=>by
  obtain ⟨h1,h2,h3⟩:=jK h hn hf i (by omega);obtain ⟨p,r,_,e,t,b,l⟩:=h.at (i:=i) (by omega);obtain ⟨f1,f2⟩:=hf i (by omega);have hp1:Bd (s+B+5) (Gf p (f i)):=Mi b f1 (by omega);have hp2:=Rq p (f i);simp only [C6];rw [e]
  split
  ·exact ⟨h1,Ux h2 (by omega),h3⟩
  ·split
   ·exact ⟨Fq _ _,Ux (WB h2 hp1) (by omega),Qc (Ac _ _) (by omega)⟩
   ·exact ⟨Fq _ _,Ux (Dd h2 hp1) (by omega),Qc (S5 _ _) (by omega)⟩
theorem YF {s:Nat}:∀ (k:Nat) (ds:Un) (rows:List Um),k<=4->ds.length=k->ds.sum<31->Sq s ds k k rows->U6 (D8 k rows)/\Bd (k*(s+10)+1) (D8 k rows)/\(D8 k rows).length<=ds.sum+1
 | 0,ds,rows,_,_,_,_=>⟨rfl,λz hz=>(by simp [D8] at hz; subst hz; rw [Yj]; decide),by simp [D8]⟩
 | k+1,[],rows,_,hl,_,_=>by simp at hl
 |
  k+1,d::ds,rows,hk,hl,hd,h=>by
  rw [Kv] at hd;have ih:=λi (hi:i<k+1)=>YF k ds (VX rows i) (by omega) (by simpa using hl) (by omega) (h.min hi)
  obtain ⟨h1,h2,h3⟩:=jK (f:=λi=>D8 k (VX rows i)) (B:=k*(s+10)+1) (L:=ds.sum) h (by omega) (λi hi=>⟨(ih i hi).2.1,(ih i hi).2.2⟩) (k+1) (Ql _);have e1:(k+1)*(s+10)=k*(s+10)+(s+10):=Xc ..;rw [Kv];exact ⟨h1,Ux h2 (by omega),h3⟩
def LF (a b c:Crv):List Um:=[[a.x,a.y,[a.d]],[b.x,b.y,[b.d]],[c.x,c.y,[c.d]]]
def Gt (a b c:Crv):Ul:=D8 3 (LF a b c)
end Orr
