/- T24 T25 G1 G2 SortL KinL K1 K2 F6 F7 F8 F9 G3 G4 K3 K4 KGoL SplitL S1 SortQ HullG RawL NewsL BegL TurnL PairN DetL -/
import Derived.Test.YtoohlnnpalgnaaaGreatPart06
import Derived.Test.YtoohlnnpalgnaaaGreatPart00
import Derived.Test.YtoohlnnpalgnaaaGreatPart05
import Derived.Test.YtoohlnnpalgnaaaGreatPart04
set_option linter.all false
namespace Orq
open Orr Go
theorem Qgj:∀{k:Nat} {a b:Un} {l:Uo},sC k a b=some l->∀p∈l,p.length≠0
 | 0,_,_,_,h=>by cases h
 |
  k+1,a,b,l,h=>by
  simp only[sC]at h
  split at h
  ·injection h with h;subst h;exact λp hp=>by cases hp
  ·rename_i h0;obtain⟨r,_,h⟩:=Qd.1 h;obtain⟨l',h1,h⟩:=Qd.1 h;injection h with h;subst h;intro p hp;rcases Qm.1 hp with rfl|hp
   ·exact h0
   ·exact Qgj h1 p hp
theorem Okp.pb{n s:Nat}{p:Un}(h:Okp n s p)(hs:s<=16777216):Pb p:=⟨h.t,by have:=h.l;have:=h.z.1;omega,U4 h.b hs⟩
theorem Qbw{p:Un}{q:Un}{l:Uo}(hp:Pb p)(h:L9 p=some (q::l))(hq:q.length≠0):∀r∈q::l,Fc r/\r.length≠0:=by
 have h1:=(Orr.chain_ok hp h).2;unfold L9 at h;obtain⟨a,_,h⟩:=Qd.1 h
 split at h
 ·cases h
 ·obtain⟨d,_,h⟩:=Qd.1 h;obtain⟨l',h3,h⟩:=Qd.1 h;injection h with h;injection h with e1 e2;subst e1;subst e2;intro r hr;refine⟨(h1 r hr).t,?_⟩;rcases Qm.1 hr with rfl|hr
  ·exact hq
  ·exact Qgj h3 r hr
inductive RI (q:List Int) (L:List (List Rat)):Rat->List Tm->Rat->Prop
 |nil {lo hi:Rat} (h:lo<=hi) (hv:vv L lo=vv L hi):RI q L lo [] hi
 |cons {lo hi:Rat} {t:Tm} {l:List Tm} (h:lo<=t.lo) (hv:vv L lo=vv L t.lo) (ht:Vt (cz q) L t.lo t.hi) (hp:t.p=q) (hl:RI q L t.hi l hi):RI q L lo (t::l) hi
theorem RI.app{q:Un}{L:Ur}{lo m hi:Rat}{l l':List Tm}(h:RI q L lo l m)(h':RI q L m l' hi):RI q L lo (l++l') hi:=by
 induction h with
 |
  nil h hv =>
  cases h' with
  |nil h2 hv2=>exact .nil (by grind) (by omega)
  |cons h2 hv2 ht hp hl=>exact .cons (by grind) (by omega) ht hp hl
 |cons h hv ht hp _ ih=>exact .cons h hv ht hp (ih h')
theorem Qgm{D M k:Nat}{m:Rat}(h:Gr D M k m)(hM:0<M)(hs:Fb (D:Int)+Fb (M:Int)+k<=16777216):chq m=some m:=by
 have:=qZ h hM hs;unfold chq;rw[if_pos ⟨this.1,this.2⟩]
theorem NJ{q:Un}{c:Uo}(hS:HJ (cz q) (c.map cz))(tq:Fc q)(nq:q.length<=9)(hc1:q.length<2->c=[q]){D M F:Nat}(hM:0<M):∀(k j:Nat) (lo hi:Rat),lo<hi->Gr D M j lo->Gr D M j hi->Fb (D:Int)+Fb (M:Int)+(j+k)<=16777216->(hi-lo)*((2^(Tz q q+1):Nat):Rat)<=((2^k:Nat):Rat) ->
 ∃l,Ii q c (F+k+1) lo hi ((vv (c.map cz) lo:Int)-(vv (c.map cz) hi:Int))=some l/\RI q (c.map cz) lo l hi/\∀t∈l,∃k',k'≤j+k/\Gr D M k' t.lo/\Gr D M k' t.hi:=by
 intro k
 induction k with
 |
  zero =>
  intro j lo hi hl g1 g2 hs hK;have hle:=Ax hS hl;have h2:vv (c.map cz) lo<vv (c.map cz) hi+2:=by
   rcases Zb (vv (c.map cz) lo) (vv (c.map cz) hi+2)with h|h
   ·exact h
   ·exfalso;have lq:2<=q.length:=by
     rcases Zb q.length 2 with e|e
     ·have hvv:∀x,vv (c.map cz) x=vv (c.map cz) 0:=λx=>by
       rcases hS with⟨c0,hc0,hcc,hl'⟩|⟨g',l',k',hk,hg,hsc,hl'⟩
       ·rw[hl'];simp only[vv,tc,hcc]
       ·rw[hc1 e]at hl';cases hl'
      rw[hvv lo,hvv hi]at h;omega
     ·exact e
    have:=Qq1 hS tq nq lq hl h;rw[Vd]at hK;have h7:((1:Nat):Rat)=1:=rfl;rw[h7]at hK;grind
  simp only[Ii];by_cases e0:vv (c.map cz) lo=vv (c.map cz) hi
  ·rw[if_pos (by omega)];exact⟨[],rfl,.nil (Qt hl) e0,λt ht=>by cases ht⟩
  ·rw[if_neg (by omega),if_pos (by omega)];refine⟨[⟨q,lo,hi⟩],rfl,.cons Qp rfl ⟨hS,hl,by show vv _ lo=vv _ hi+1;omega⟩ rfl (.nil Qp rfl),λt ht=>?_⟩;rw[Qk.1 ht];exact⟨j,by omega,g1,g2⟩
 |
  succ k ih =>
  intro j lo hi hl g1 g2 hs hK;have hle:=Ax hS hl;show ∃l,(if (vv (c.map cz) lo:Int)-(vv (c.map cz) hi:Int)=0 then some []else if (vv (c.map cz) lo:Int)-(vv (c.map cz) hi:Int)=1 then some [⟨q,lo,hi⟩]else(chq (mid lo hi)).bind λm=>(Ii q c (F+k+1) lo m (To c lo m)).bind λl=>(Ii q c (F+k+1) m hi ((vv (c.map cz) lo:Int)-(vv (c.map cz) hi:Int)-To c lo m)).bind λr=>some (l++r))=some l/\_;by_cases e0:vv (c.map cz) lo=vv (c.map cz) hi
  ·rw[if_pos (by omega)];exact⟨[],rfl,.nil (Qt hl) e0,λt ht=>by cases ht⟩
  by_cases e1:vv (c.map cz) lo=vv (c.map cz) hi+1
  ·rw[if_neg (by omega),if_pos (by omega)];refine⟨[⟨q,lo,hi⟩],rfl,.cons Qp rfl ⟨hS,hl,e1⟩ rfl (.nil Qp rfl),λt ht=>?_⟩;rw[Qk.1 ht];exact⟨j,by omega,g1,g2⟩
  ·rw[if_neg (by omega),if_neg (by omega)];obtain⟨m,hm⟩:=nmE ((lo+hi) / 2);have h2:(lo+hi) / 2*2=lo+hi:=Hd (by decide);rw[<-hm]at h2;have gm:Gr D M (j+1) m:=by rw[hm];exact Qh1 g1 g2
   have l1:lo<m:=by grind
   have l2:m<hi:=by grind
   rw[bX,<-hm,Qgm gm hM (by omega)];show ∃l,((Ii q c (F+k+1) lo m (To c lo m)).bind λl=>(Ii q c (F+k+1) m hi ((vv (c.map cz) lo:Int)-(vv (c.map cz) hi:Int)-To c lo m)).bind λr=>some (l++r))=some l/\_;rw[O8 (Qt l1),show(vv (c.map cz) lo:Int)-(vv (c.map cz) hi:Int)-((vv (c.map cz) lo:Int)-(vv (c.map cz) m:Int))=(vv (c.map cz) m:Int)-(vv (c.map cz) hi:Int) by omega];rw[rP k]at hK;have hp:∀x y:Rat,(y-x)*2=hi-lo->(y-x)*((2^(Tz q q+1):Nat):Rat)<=((2^k:Nat):Rat):=λx y h=>by
    have:(y-x)*((2^(Tz q q+1):Nat):Rat)*2=(hi-lo)*((2^(Tz q q+1):Nat):Rat):=by rw[<-h];grind
    grind
   obtain⟨la,a1,a2,a3⟩:=ih (j+1) lo m l1 (qX g1) gm (by omega) (hp lo m (by grind));obtain⟨lb,b1,b2,b3⟩:=ih (j+1) m hi l2 gm (qX g2) (by omega) (hp m hi (by grind));rw[a1];show ∃l,((Ii q c (F+k+1) m hi ((vv (c.map cz) m:Int)-(vv (c.map cz) hi:Int))).bind λr=>some (la++r))=some l/\_;rw[b1];refine⟨la++lb,rfl,a2.app b2,λt ht=>?_⟩;rcases Qr.1 ht with ht|ht
   ·obtain⟨k',h1,h2,h3⟩:=a3 t ht;exact⟨k',by omega,h2,h3⟩
   ·obtain⟨k',h1,h2,h3⟩:=b3 t ht;exact⟨k',by omega,h2,h3⟩
theorem Qu4{D M k:Nat}{q:Rat}(h:Gr D M k q):Gr D M k (-q):=by
 obtain⟨u,hu⟩:=h.u;exact⟨⟨-u,by rw[Vm,<-hu];grind⟩,by rw[Ep];exact h.b,h.d⟩
theorem fN{m s:Nat}(h:m<2^s):Fb ((m+1:Nat):Int)<=s+1:=by
 rw[T0,Xh,Zr];omega
theorem Qcm{z:Int}{s:Nat}(h:Fb z<=s):Fb ((z.natAbs+1:Nat):Int)<=s+1:=fN (T0.1 h)
theorem Qqq{x:Rat}{m s g N:Nat}(hx:x<=2*((m+1:Nat):Rat))(hm:m+1<=2^s)(hN:s+1+g<=N):x*((2^g:Nat):Rat)<=((2^N:Nat):Rat):=by
 have h3:=Zm.2 hm;have e:=rP s;have h4:(0:Rat)<=((2^s:Nat):Rat):=Xi;have h1:x<=((2^(s+1):Nat):Rat):=by rw[e];grind
 have h5:(0:Rat)<=((2^g:Nat):Rat):=Xi;refine Zl (Ze h1 h5) ?_;have h6:2^(s+1)*2^g<=2^N:=by
  rw[<-Xf];exact Zs (by decide) hN
 have:=Zm.2 h6;rw[Rat.natCast_mul]at this;exact this
theorem Qmj{s:Nat}{l:Un}(h:Bd s l):most l<2^s:=by
 have key:∀(l:Un) (m:Nat),m<2^s->Bd s l->l.foldl (λm z=>if m<z.natAbs then z.natAbs else m) m<2^s:=by
  intro l
  induction l with
  |nil=>exact λm h _=>h
  |
   cons y l ih =>
   intro m hm hb;simp only[Z9];refine ih _ ?_ λz hz=>hb z (Qg _ hz)
   have:=hb y (Qx ..);rw[T0]at this
   split <;> assumption
 exact key l 0 (Z3 (by decide)) h
theorem Qt8{p q:Un}(h:IC p=some q):q=p:=by
 unfold IC at h
 split at h
 ·injection h with h;exact h.symm
 ·cases h
theorem Qdc{s N:Nat}{p:Un}(hNe:N=63*s+5160)(hs9:s≤1180)(h:Okp 9 s p):∃q c l,Pk p=some q/\L9 p=some c/\SO p=some l/\HJ (cz q) (c.map cz)/\RI q (c.map cz) (-Gw q) l (Gw q)/\(∀t∈l,Va t)/\(∀x y,x<y->Gw q≤x\/y≤-Gw q->vv (c.map cz) x=vv (c.map cz) y)/\q.length≤p.length/\∀t∈l,t.p=q/\t.lo<t.hi/\Bd (s+69) q/\∃D M k,Gr D M k t.lo/\Gr D M k t.hi/\0<M/\Fb (D:Int)≤s+69/\Fb (M:Int)≤s+70/\k≤N:=by
 obtain⟨pp,hpl,hpb⟩:=h.pr;obtain⟨g,q',hq',sq⟩:=VY h;obtain⟨q,l,q1,q2,hS,hl0⟩:=chain_ok h;rw[hq']at q1;injection q1 with q1;subst q1;have e1:∀t,U7 (Fg p) t=U7 q' t*U7 g t:=λt=>by rw[sq.e];grind
 obtain⟨p1,p2⟩:=Te pp.t pp.n e1;have hch:sC 66 q' (Fg (Gv q'))=some l:=by
  have h2:=q2;unfold L9 at h2;rw[hq']at h2;simp only[Ja]at h2
  split at h2
  ·cases h2
  ·cases hd:IC (Gv q')with
   |none=>rw[hd]at h2;cases h2
   |
    some d =>
    rw[hd]at h2;simp only[Ja]at h2;obtain rfl:d=Gv q':=Qt8 hd;cases hc:sC 66 q' (Fg (Gv q'))with
    |none=>rw[hc]at h2;cases h2
    |some l'=>rw[hc]at h2;simp at h2;rw[h2]
 have hll:=Mq sq.pq.t sq.pg.t pp.t e1 p1 p2;have hl9:=h.l;have bq:Bd (s+69) q':=XV hpb (by omega) pp.t sq.pq.t sq.pg.t pp.n e1;have hall:=Qbw (h.pb (by omega)) q2 sq.pq.n;have hld:Fo q'≠0:=by have:=sq.pq.l;omega
 have hb1:=HU hld;obtain⟨D,hD⟩:=nmE ((Fo q').natAbs);obtain⟨m,hm⟩:=nmE (most (q'.take (q'.length-1)));have hm2:m<2^(s+69):=by rw[hm];exact Qmj (s:=s+69) λz hz=>bq z (Qn hz)
 have hD0:0<D:=by omega
 have hDs:Fb (D:Int)<=s+69:=by
  have:=M8 bq;rw[T0]at this ⊢;rw[Xh,hD];exact this
 have hbe:=BJ hld;rw[<-hD,<-hm]at hbe;have hDq:=nat_pos hD0;have hbm:Gw q'<=((m+1:Nat):Rat):=by
  have hD1:(1:Rat)<=(D:Rat):=by
   have:((1:Nat):Rat)<=(D:Rat):=Zm.2 hD0;exact this
  have hm0:(0:Rat)<=(m:Rat):=Xi;have h3:=Ck (a:=(m:Rat)) (c:=1) hm0 Qp (by decide) hD1;rcases Gg (Gw q') ((m+1:Nat):Rat)with h'|h'
  ·exact h'
  ·exfalso;have:=Vy h' hDq
   push_cast at this;grind
 have gb:Gr D (m+1) 0 (Gw q'):=by
  refine⟨⟨(D+m:Nat),?_⟩,?_,hD0⟩
  ·rw[Vd,Yw,hbe];rw[show((((D+m:Nat):Int)):Rat)=((D+m:Nat):Rat) from rfl];push_cast;rfl
  ·have:Fh (Gw q')=Gw q':=by unfold Fh;rw[if_neg (by grind)]
   rw[this];exact hbm
 have hMs:Fb ((m+1:Nat):Int)<=s+69+1:=fN (s:=s+69) hm2;have hK:(Gw q' - -Gw q')*((2^(Tz q' q'+1):Nat):Rat)<=((2^N:Nat):Rat):=by
  have hps:=Ou bq;have hg:Tz q' q'<=(2*s+164)*31:=by
   unfold Tz;exact Zc (by omega) (by omega)
  exact Qqq (s:=s+69) (g:=Tz q' q'+1) (N:=N) (by grind) hm2 (by omega)
 have hN:Fb (D:Int)+Fb ((m+1:Nat):Int)+(0+N)<=16777216:=by omega
 obtain⟨F,hFe⟩:=nmE (99999-N);obtain⟨ls,r1,r2,r3⟩:=NJ (F:=F) hS sq.pq.t (by omega) (λh=>by rw[hl0 h]) (W7 m) N 0 (-Gw q') (Gw q') (by grind) (Qu4 gb) gb hN hK;rw[show F+N+1=100000 by omega]at r1;have hchq:chq (Gw q')=some (Gw q'):=Qgm gb (W7 m) (by omega);have key:∀t∈ls,Va t/\t.p=q'/\t.lo<t.hi/\Bd (s+69) q'/\∃D M k,Gr D M k t.lo/\Gr D M k t.hi/\0<M/\Fb (D:Int)≤s+69/\Fb (M:Int)≤s+70/\k≤N:=λt ht=>by
  obtain⟨k',k1,k2,k3⟩:=r3 t ht;have hmem:∀{lo hi:Rat} {ls:List Tm},RI q' ((q'::l).map cz) lo ls hi->t∈ls->Vt (cz q') ((q'::l).map cz) t.lo t.hi/\t.p=q':=λh=>by
   induction h with
   |nil=>intro ht;cases ht
   |
    cons h hv ht' hp hl ih =>
    intro ht;rcases Qm.1 ht with rfl|ht
    ·exact⟨ht',hp⟩
    ·exact ih ht
  obtain⟨v1,v2⟩:=hmem r2 ht;have lq2:2<=q'.length:=by
   rcases Zb q'.length 2 with e|e
   ·exfalso;have hvv:∀x,vv ((q'::l).map cz) x=0:=λx=>by
     rw[hl0 e,sq.pq.one e];have hv1:∀x:Rat,ev (cz [1]) x=1:=λx=>by rw[U8,Nu]
     simp only[Zz,X6,vv,tc,hv1];have:Fe 1=1:=by decide
     rw[this];decide
    have:=v1.v;rw[hvv,hvv]at this;omega
   ·exact e
  exact⟨⟨.inr ⟨_,by rw[v2];exact v1⟩,by rw[v2];exact sq.pq.t,by rw[v2];omega,by rw[v2];exact lq2,by rw[v2];exact U4 bq (by omega),λ_=>by rw[v2];exact U4 bq (by omega),λ_=>by rw[v2];exact⟨l,_,g,hch,sq,v1⟩,D,m+1,k',k2,k3,W7 m,Qa (show _<=1000000 by omega) (Qu8 t)⟩,v2,v1.l,bq,D,m+1,k',k2,k3,W7 m,hDs,Qa hMs (Ql (s+70)),by rw[Zy]at k1;exact k1⟩
 refine⟨q',q'::l,ls,hq',q2,?_,hS,r2,λt ht=>(key t ht).1,λx y hxy hb=>dM hS sq.pq.t sq.pq.n hxy hb (by grind),by omega,λt ht=>(key t ht).2⟩
 ·unfold SO;rw[q2,hq'];show(chq (Gw q')).bind _=_;rw[hchq];simp only[Ja];rw[Qdb hS hall];exact r1
theorem Qkc{s:Nat}{p:Un}(hs9:s≤1180)(h:Okp 9 s p):∃q c l,Pk p=some q/\L9 p=some c/\SO p=some l/\HJ (cz q) (c.map cz)/\RI q (c.map cz) (-Gw q) l (Gw q)/\(∀t∈l,Va t)/\(∀x y,x<y->Gw q≤x\/y≤-Gw q->vv (c.map cz) x=vv (c.map cz) y)/\q.length≤p.length/\∀t∈l,t.p=q/\t.lo<t.hi/\Bd (s+69) q/\∃D M k,Gr D M k t.lo/\Gr D M k t.hi/\0<M/\Fb (D:Int)≤s+69/\Fb (M:Int)≤s+70/\k≤63*s+5160:=Qdc rfl hs9 h
theorem Qkb{p:Un}(h:Okp 9 1180 p):∃q c l,Pk p=some q/\L9 p=some c/\SO p=some l/\HJ (cz q) (c.map cz)/\RI q (c.map cz) (-Gw q) l (Gw q)/\(∀t∈l,Va t)/\(∀x y,x<y->Gw q≤x\/y≤-Gw q->vv (c.map cz) x=vv (c.map cz) y):=by
 obtain⟨q,c,l,h1,h2,h3,h4,h5,h6,h7,_⟩:=Qkc (Ql _) h;exact⟨q,c,l,h1,h2,h3,h4,h5,h6,h7⟩
theorem Eg{q:Un}{L:Ur}(hS:HJ (cz q) L){c:Rat->Int}(hc:Cut c){lo:Rat}(hH:∀z,c z=-1->z<=lo->vv L z=vv L lo){y0:Rat}(hy:c y0=-1)(hv:∀z,lo<z->z<=y0->vv L z=vv L lo):∃s,s≠0/\∀z,c z=-1->z<=y0->Fe (ev (cz q) z)=s:=by
 have hall:∀z,c z=-1->z<=y0->vv L z=vv L lo:=λz h1 h2=>by
  rcases Gg z lo with e|e
  ·exact hH z h1 e
  ·exact hv z e h2
 have hne:∀z,c z=-1->z<=y0->Fe (ev (cz q) z)≠0:=λz h1 h2=>by
  obtain⟨w,w1,w2⟩:=hc.dn z h1;have:=kX hS w1 (by rw[hall w w2 (by grind),hall z h1 h2]);rw[this.s];exact this.n
 refine⟨Fe (ev (cz q) y0),hne y0 hy Qp,λz h1 h2=>?_⟩;rcases Classical.em (z=y0)with e|e
 ·rw[e]
 ·have:=kX hS (x:=z) (y:=y0) (by grind) (by rw[hall z h1 h2,hall y0 hy Qp]);rw[this.s,Ak (hne z h1 h2)]
structure Fst(o:List Int)(a t:Tm):Prop where
 lt:Mb a t
 s:∃s,s≠0/\(∀z,Fl a z=-1->Fl t z=1->Fe (ev (cz o) z)=s)/\RS (cz o) (Fl t) (-s)
def Non(o:Un)(a:Tm):Prop:=∃s,s≠0/\∀z,Fl a z=-1->Fe (ev (cz o) z)=s
theorem Qct{q:Un}{L:Ur}(hS:HJ (cz q) L){a:Tm}(ha:Va a){lo hi:Rat}{l:List Tm}(hR:RI q L lo l hi):(∀t∈l,Va t)->(∀z,hi<z->vv L z=vv L hi)->(∀z,Fl a z=-1->z≤lo->vv L z=vv L lo)->∃r,VI a l=some r/\match r with
 |none=>Non q a
 |some t=>t∈l/\Fst q a t:=by
 have ca:=ha.cut
 induction hR with
 |
  @nil lo hi h hv =>
  intro _ hhi hH;refine⟨none,rfl,?_⟩;obtain⟨y1,hy1⟩:=ca.hi;have hall:∀z,lo<z->vv L z=vv L lo:=λz hz=>by
   rcases Gg z hi with e|e
   ·have h1:=Ax hS hz;have h2:vv L hi<=vv L z:=by
     rcases Classical.em (z=hi)with e'|e'
     ·rw[e'];exact Ql _
     ·exact Ax hS (by grind)
    omega
   ·rw[hhi z e,hv]
  obtain⟨s,s0,hs⟩:=Eg hS ca hH hy1 λz h1 _=>hall z h1
  refine⟨s,s0,λz hz=>?_⟩;rcases Gg z y1 with e|e
  ·exact hs z hz e
  ·obtain⟨s',s0',hs'⟩:=Eg hS ca hH hz λz h1 _=>hall z h1
   rw[hs' z hz Qp,<-hs' y1 hy1 (Qt e),hs y1 hy1 Qp]
 |
  @cons lo hi t l h hv ht hp hl ih =>
  intro hV hhi hH;have hvt:=hV t (Qx ..);have ct:=hvt.cut;have ht':=ht;rw[<-hp]at ht';have ect:∀z,Fl t z=cq (cz t.p) t.lo t.hi z:=Ce ht.l;obtain⟨c,c1,c2⟩:=UT hvt ha;show ∃r,((UR t a).bind λc=>if 0<c then some (some t)else VI a l)=some r/\_;rw[c1];show ∃r,(if 0<c then some (some t)else VI a l)=some r/\_;have hlo1:Fl t t.lo=1:=by rw[ect];exact Ad Qp
  have hlow:∀z,lo<z->Fl t z=1->vv L z=vv L lo:=λz h1 h2=>by
   rcases Gg z t.lo with e|e
   ·have a1:=Ax hS h1;have a2:vv L t.lo<=vv L z:=by
     rcases Classical.em (z=t.lo)with e'|e'
     ·rw[e'];exact Ql _
     ·exact Ax hS (by grind)
    omega
   ·rw[ect]at h2;have hz:z<=t.hi:=by
     rcases Gg z t.hi with e'|e'
     ·exact e'
     ·rw[UP ht.l e']at h2;omega
    rw[ht'.eq_lo e hz h2,hv]
  by_cases hc:0<c
  ·rw[if_pos hc];refine⟨some t,rfl,Qx ..,?_⟩;have hlt:Mb a t:=by
    rcases c2 with⟨e,_⟩|⟨e,_⟩|⟨_,h⟩
    ·omega
    ·omega
    ·exact h
   refine⟨hlt,?_⟩;obtain⟨m,m1,m2⟩:=hlt;obtain⟨s,s0,hs⟩:=Eg hS ca hH m1 λz h1 h2=>hlow z h1 (by
    rcases Classical.em (z=m)with e|e
    ·rw[e];exact m2
    ·exact ct.mono' (q:=z) (r:=m) (by grind) (by omega))
   have hall:∀z,Fl a z=-1->Fl t z=1->Fe (ev (cz q) z)=s:=λz h1 h2=>by
    rcases Gg z m with e|e
    ·exact hs z h1 e
    ·obtain⟨s',s0',hs'⟩:=Eg hS ca hH h1 λw w1 w2=>hlow w w1 (by
      rcases Classical.em (w=z)with e|e
      ·rw[e];exact h2
      ·exact ct.mono' (q:=w) (r:=z) (by grind) (by omega))
     rw[hs' z h1 Qp,<-hs' m m1 (Qt e),hs m m1 Qp]
   refine⟨s,s0,hall,?_⟩;obtain⟨w,w1,w2,w3⟩:=CW ct m2 hlo1;have hwa:Fl a w=-1:=ca.mono m w w2 (by omega);have hsw:=hall w hwa w1;have hwh:w<t.hi:=by
    rw[ect]at w1;rcases Gg t.hi w with e|e
    ·have:=ht'.hi1;rcases Classical.em (t.hi=w)with e'|e'
     ·rw[<-e']at w1;exact absurd w1 this
     ·rw[UP ht.l (by grind)]at w1;omega
    ·exact e
   have hww:vv L w=vv L t.lo:=ht'.eq_lo w3 (Qt hwh) (by rw[<-ect];exact w1);have hvv:=ht.v;have hone:=kZ hS hwh (by omega);have hlw:Po (cz q) w=s:=by rw[Ak (by rw[hsw];exact s0),hsw]
   rw[hlw]at hone;have hd:∀z,w<z->z<=t.hi->Fl t z=-1->Fe (ev (cz q) z)=-s:=λz z1 z2 z3=>by
    rw[ect]at z3;have e1:=ht'.eq_hi (by grind) z2 (by omega);have e2:=kZ hS z1 (by omega);rw[hlw]at e2;have hz0:Fe (ev (cz q) z)≠0:=by
     rw[Im (by grind) z2,hp]at z3;intro h0;rw[if_pos h0]at z3;omega
    rw[Ak hz0]at e2;exact e2.2
   rcases ct.val t.hi with e|e|e
   ·rw[ect]at e;exact absurd e ht'.hi1
   ·obtain⟨d,dp,hd'⟩:=Qye (p:=cz q) (x:=t.hi) (by rw[hone.2];omega);refine⟨t.hi+d,ct.mono t.hi _ (by grind) (by omega),λz h1 h2=>?_⟩;have hz:t.hi<z:=by
     rcases Gg z t.hi with e'|e'
     ·rcases Classical.em (z=t.hi)with e''|e''
      ·rw[e'']at h1;omega
      ·have:=ct.mono z t.hi (by grind) (by omega);omega
     ·exact e'
    rw[hd' z hz (by grind),hone.2]
   ·exact⟨t.hi,e,λz h1 h2=>hd z (ct.lt w1 h1) h2 h1⟩
  ·rw[if_neg hc];have hle:¬Mb a t:=λh=>by
    rcases c2 with⟨e,h'⟩|⟨e,h'⟩|⟨e,_⟩
    ·exact Ir ct ca h' h
    ·obtain⟨z,z1,z2⟩:=h;have:=h' z;omega
    ·omega
   obtain⟨r,r1,r2⟩:=ih (λx hx=>hV x (Qg _ hx)) hhi λz z1 z2=>by
    have hz:Fl t z≠1:=λh=>hle ⟨z,z1,h⟩
    have hzl:t.lo<z:=by
     rcases Gg z t.lo with e|e
     ·refine absurd ?_ hz;rw[ect];exact Ad e
     ·exact e
    exact ht'.eq_hi hzl z2 (by rw[<-ect];exact hz)
   refine⟨r,r1,?_⟩;cases r with
   |none=>exact r2
   |some x=>exact⟨Qg _ r2.1,r2.2⟩
theorem Qsl{c:Rat->Int}(hc:Cut c):∀(n:Nat) (f:Uq),HD f n->∃s,s≠0/\RS f c s
 |
  n,f,h=>by
  rcases JE hc f with hv|⟨s,hs,hn⟩
  ·cases n with
   |
    zero =>
    exfalso;obtain⟨q,hq,_⟩:=gC hc (hv (Fh (f.getD 0 0)) (Cu h.1));cases f with
    |nil=>exact h.1 (by simp)
    |
     cons a l =>
     have:=D7 (p:=l) λk=>by have:=h.2 (k+1) (by omega);rwa[Q4]at this
     simp only[ev,this,Zt]at hq;grind
   |
    succ n =>
    have hd:HD (Bj f) n:=by
     have key:∀(f:Uq) (k:Nat),(Bj f).getD k 0=((k+1:Nat):Rat)*f.getD (k+1) 0:=by
      intro f
      induction f with
      |nil=>intro k;simp only[Bj,Kt];grind
      |
       cons a f ih =>
       intro k;simp only[Bj];rw[Rj,Q4];cases k with
       |zero=>rw[Zt];push_cast;grind
       |succ k=>rw[Q4,ih];push_cast;grind
     refine⟨λh0=>?_,λk hk=>by rw[key,h.2 (k+1) (by omega)];grind⟩;rw[key]at h0;rcases Y3.1 h0 with h1|h1
     ·have:=nat_pos (show 0<n+1 by omega);grind
     ·exact h.1 h1
    obtain⟨s,hs,h1⟩:=Qsl hc n (Bj f) hd;exact⟨s,hs,vF hc hv h1 hs⟩
  ·exact⟨s,hs,zU hc hn⟩
theorem Qke{c:Rat->Int}(hc:Cut c){f p q:Uq}{s s':Int}(hf:∀t,ev f t=ev p t*ev q t)(h:RS p c s)(h':RS q c s'):RS f c (s*s'):=by
 obtain⟨y,h1,h2⟩:=h;obtain⟨y',h3,h4⟩:=h';refine⟨if y<=y' then y else y',by split <;> assumption,λz z1 z2=>?_⟩;rw[hf,Sv,h2 z z1 (by clear h2 h4;grind),h4 z z1 (by clear h2 h4;grind)]
theorem Qkf{c:Rat->Int}(hc:Cut c){f o S:Uq}{k:Rat}(hk:k≠0)(hf:∀t,ev f t=k*(ev o t*(ev S t*ev S t)))(hnz:¬∀t,ev f t=0){s:Int}(h:RS o c s):RS f c (Fe k*s):=by
 obtain⟨n,_,hn⟩:∃n,n<S.length/\HD S n:=by
  rcases DL S with h1|h1
  ·exact absurd (λt=>by rw[hf,h1];grind) hnz
  ·exact h1
 obtain⟨s',hs',h'⟩:=Qsl hc n S hn;have h1:=Qke hc (f:=G5 S S) (λt=>Ff t _ _) h' h';have h2:=Qke hc (f:=G5 o (G5 S S)) (λt=>Ff t _ _) h h1;have hsq:s'*s'=1:=by
  obtain⟨y,y1,y2⟩:=h';have:=y2 y y1 Qp;rcases Fy (ev S y)with⟨e,_⟩|⟨e,_⟩|⟨e,_⟩
  ·rw[<-this,e];rfl
  ·omega
  ·rw[<-this,e];rfl
 rw[hsq,Uc]at h2;obtain⟨y,y1,y2⟩:=h2;exact⟨y,y1,λz z1 z2=>by
  have:=y2 z z1 z2;rw[Ff,Ff]at this;rw[hf,Sv,this]⟩
structure Cp(p:List Int):Prop where
 t:Fc p
 l:p.length<=9
 b:Bd 1110 p
theorem Cp.dp{p:Un}(h:Cp p):Dp p:=⟨h.t,h.l,U4 h.b (by omega)⟩
theorem Cp.ok{p:Un}(h:Cp p)(h0:p.length≠0):Okp 9 1180 p:=h.dp.ok h0
def Leq(a:Tm)(c:Rat->Int):Prop:=∀q,c q=-1->Fl a q=-1
def Pm(p:Un)(a:Tm):Option Tm->Prop
 |none=>p=[]\/∃s,s≠0/\∀c,Cut c->Leq a c->RS (cz p) c s
 |some t=>p≠[]/\Va t/\Mb a t/\∃s,s≠0/\(∀c,Cut c->Leq a c->(∃m,c m=-1/\Fl t m=1)->RS (cz p) c s)/\RS (cz p) (Fl t) (-s)
theorem RI.len{q:Un}{L:Ur}{lo hi:Rat}{l:List Tm}(h:RI q L lo l hi):l.length+vv L hi<=vv L lo:=by
 induction h with
 |nil h hv=>simp;omega
 |cons h hv ht hp hl ih=>have:=ht.v;simp only[Q5];omega
theorem Qk9(x:Rat):∀(L:Ur) (s:Int),tc x s L<=L.length
 | [],_=>Ql _
 |
  f::l,s=>by
  have h1:=Qk9 x l;simp only[tc,Q5]
  repeat' split
  all_goals (first|(have:=h1 s;omega)|(have:=h1 (Fe (ev f x));omega))
theorem Qwr(L:Ur)(x:Rat):vv L x<=L.length:=Qk9 x L 0
theorem JL{p:Un}(h:Cp p):∃l,WC p=some l/\l.length≤67/\(∀t∈l,Va t)/\∀a,Va a->∃r,VI a l=some r/\Pm p a r/\∀t,r=some t->t∈l:=by
 unfold WC;by_cases h0:p.length=0
 ·have e:p=[]:=Qj h0;subst e;exact⟨[],rfl,by decide,(λt ht=>by cases ht),λa _=>⟨none,rfl,.inl rfl,λt ht=>by cases ht⟩⟩
 ·obtain⟨qp,o,q1,o1,hpt⟩:=Qi8 (n:=9) (s:=1110) (p:=p) ⟨⟨by decide,by decide⟩,h.t,h0,h.l,h.b⟩;obtain⟨g,sq⟩:=hpt.sq;obtain⟨S,hS⟩:=hpt.os;obtain⟨p1,p2,p3,p4,p5,p6,p7⟩:=Co h.t h0;have hpl:=h.l;obtain⟨hh,th,eh⟩:=hpt.oh;have bo:Bd 1179 o:=XV (p5 1110 h.b) (by omega) p1 hpt.ot th (by omega) eh;obtain⟨lo1,lo2⟩:=Te p1 (by omega) eh;have hlen:=Mq hpt.ot th p1 eh lo1 lo2;have oko:Okp 9 1180 o:=⟨iC,hpt.ot,by omega,by omega,U4 bo (by omega)⟩;obtain⟨q,c,l,r1,r2,r3,hSt,hRI,hVa,hout⟩:=Qkb oko;obtain⟨g',q',s1,s2⟩:=VY oko;rw[r1]at s1;injection s1 with s1;subst s1;obtain⟨_,_,_,_,_,o6,o7⟩:=Co hpt.ot (by omega);have hg1:g'=[1]:=by
   refine s2.pg.one ?_;obtain⟨E,hE⟩:=hpt.oq;have hE:∀t,U7 qp t=U7 o t*ev E t:=λt=>by have:=hE t;rwa[U8,U8]at this
   obtain⟨z,hz⟩:=s2.d;have hd1:∀t,U7 o t=U7 g' t*(Hn o*U7 q t):=λt=>by rw[o7,s2.e];grind
   have hdo:∀t,dv (cz o) t=U7 g' t*(Hn o*ev z t):=λt=>by
    have:=Qg3 (p:=cz o) (q:=D2 (Hn o) (cz (Fg o))) (λt=>by rw[U8,Gs,U8,o7]) t;rw[this,HE,hz];grind
   obtain⟨k,hk,hkk⟩:=sq.num (d:=cz g') ⟨G5 (D2 (Hn o) (cz q)) E,λt=>by rw[U8,U8,hE,hd1,Ff,Gs,U8];grind⟩ ⟨Su (G5 (D2 (Hn o) z) E) (G5 (D2 (Hn o) (cz q)) (Bj E)),λt=>by
    have:=QF (f:=cz qp) (w:=cz o) (u:=E) (λt=>by rw[U8,U8,hE]) t;rw[Tp,this,hdo,U8,U8,hd1,Gy,Ff,Ff,Gs,Gs,Tp,U8];grind⟩
   rcases Zb g'.length 2 with e|e
   ·exact e
   ·exfalso;have h1:=(SK s2.pg.t (by omega)).1;have h2:=Dv (p:=cz g') (q:=[k]) (λt=>by rw[hkk];simp only[ev];grind) (g'.length-1);rw[h2,Qi,Qu (by simp;omega)]at h1;exact h1 rfl
  have hpq:∀t,ev (cz p) t=((Hn p:Rat)*(Hn o:Rat))*(ev (cz q) t*(ev S t*ev S t)):=λt=>by
   rw[U8,U8,p7,hS,o7,s2.e,hg1,Nu];grind
  have hk0:(Hn p:Rat)*(Hn o:Rat)≠0:=λh=>(Y3.1 h).elim (XH p6) (XH o6)
  have hpz:¬∀t,ev (cz p) t=0:=λh'=>SZ h.t (by omega) λt=>by rw[<-U8];exact h' t
  obtain⟨k,hk⟩:=nmE (Fe ((Hn p:Rat)*(Hn o:Rat)));have hkn:k≠0:=λh=>hk0 (Gp.1 (by rw[<-hk];exact h))
  have ho:o.length≠0:=by omega
  rw[o1];show ∃l,(if o.length=0 then some []else SO o)=some l/\l.length<=67/\_;rw[if_neg ho];have hb1:=HU (Ek s2.pq.t s2.pq.n);have hll:=hRI.len;have hlv:=Qwr (c.map cz) (-Gw q);have hcl:=(Orr.chain_ok (p:=o) ⟨hpt.ot,by omega,U4 bo (by omega)⟩ r2).1;rw[Q8]at hlv;refine⟨l,r3,by omega,hVa,λa ha=>?_⟩;obtain⟨r,n1,n2⟩:=Qct hSt ha hRI hVa (λz hz=>(hout _ _ hz (.inl Qp)).symm) λz _ hz=>by
   rcases Classical.em (z=-Gw q)with e|e
   ·rw[e]
   ·exact hout z _ (by grind) (.inr Qp)
  refine⟨r,n1,?_,λt ht=>by subst ht;exact n2.1⟩;cases r with
  |
   none =>
   obtain⟨s,hs,hz⟩:=n2;refine .inr ⟨k*s,Jf hkn hs,λc hc hac=>?_⟩;obtain⟨y,hy⟩:=hc.hi;have h1:RS (cz q) c s:=⟨y,hy,λz z1 _=>hz z (hac z z1)⟩;rw[hk];exact Qkf hc hk0 hpq hpz h1
  |
   some t =>
   obtain⟨hm,hlt,s,hs,hz,hrs⟩:=n2;refine⟨λe=>h0 (by rw[e];rfl),hVa t hm,hlt,k*s,Jf hkn hs,λc hc hac ⟨m,m1,m2⟩=>?_,?_⟩
   ·have h1:RS (cz q) c s:=⟨m,m1,λz z1 z2=>hz z (hac z z1) (by
     rcases Classical.em (z=m)with e|e
     ·rw[e];exact m2
     ·exact(hVa t hm).cut.mono' (q:=z) (r:=m) (by grind) (by omega))⟩
    rw[hk];exact Qkf hc hk0 hpq hpz h1
   ·have:=Qkf (hVa t hm).cut hk0 hpq hpz hrs;rw[<-hk]at this;rw[show -(k*s)=k*-s by rw[V7]];exact this
structure Sz(s n:Nat)(t:Tm):Prop where
 n:t.p.length<=n
 b:Bd (s+138) t.p
 g:∃D M k,Gr D M k t.lo/\Gr D M k t.hi/\0<M/\Fb (D:Int)<=s+138/\Fb (M:Int)<=s+139/\k<=63*s+9507
theorem Qi3{p:Un}(h:Cp p){a:Tm}(ha:Va a):∃r,SC p a=some r/\Pm p a r:=by
 obtain⟨l,l1,_,_,l3⟩:=JL h;obtain⟨r,r1,r2,_⟩:=l3 a ha;refine⟨r,?_,r2⟩;unfold SC;rw[l1];exact r1
theorem RH:∀(l:List Tm) (b:Tm),(∀t∈b::l,Va t)->∃m,QP b l=some m/\m∈b::l/\∀t∈b::l,¬Mb t m
 |
  [],b,h=>⟨b,rfl,Qx ..,λt ht h'=>by
  rw[Qk.1 ht]at h';have hb:=(h b (Qx ..)).cut;exact Ir hb hb h' h'⟩
 |
  a::l,b,h=>by
  have ha:=h a (by simp);have hb:=h b (by simp);obtain⟨c,c1,c2⟩:=UT ha hb;obtain⟨m,m1,m2,m3⟩:=RH l (if c<0 then a else b) λt ht=>by
   rcases Qm.1 ht with rfl|ht
   ·split <;> assumption
   ·exact h t (by simp[ht])
  refine⟨m,by simp only[QP];rw[c1];exact m1,?_,λt ht=>?_⟩
  ·rcases Qm.1 m2 with e|e
   ·rw[e];split <;> simp
   ·simp[e]
  ·have hm:Va m:=by
    rcases Qm.1 m2 with e|e
    ·rw[e];split <;> assumption
    ·exact h m (by simp[e])
   have hfst:=m3 _ (Qx ..);have tr:∀x y:Tm,Va x->Va y->¬Mb x y->¬Mb y m->¬Mb x m:=λx y hx hy h1 h2 h3=>by
    rcases tri hy.cut hm.cut with h4|h4|h4
    ·exact h2 h4
    ·obtain⟨q,q1,q2⟩:=h3;exact h1 ⟨q,q1,by rw[h4];exact q2⟩
    ·obtain⟨q,q1,q2⟩:=h3;obtain⟨r,r1,r2⟩:=h4;have:=hm.cut.lt q2 r1;exact h1 ⟨q,q1,hy.cut.mono' this (by omega)⟩
   rcases Qm.1 ht with rfl|ht
   ·by_cases hc:c<0
    ·rw[if_pos hc]at hfst;refine tr _ a hb ha ?_ hfst;rcases c2 with⟨_,h'⟩|⟨e,_⟩|⟨e,_⟩
     ·exact λh''=>Ir ha.cut hb.cut h' h''
     ·omega
     ·omega
    ·rw[if_neg hc]at hfst;exact hfst
   ·rcases Qm.1 ht with rfl|ht
    ·by_cases hc:c<0
     ·rw[if_pos hc]at hfst;exact hfst
     ·rw[if_neg hc]at hfst;refine tr _ b ha hb ?_ hfst;rcases c2 with⟨e,_⟩|⟨_,h'⟩|⟨_,h'⟩
      ·omega
      ·rintro⟨q,q1,q2⟩
       have:=h' q;omega
      ·exact λh''=>Ir ha.cut hb.cut h'' h'
    ·exact m3 t (by simp[ht])
end Orq
namespace Orr
open Go Go.Proofs Tryz Orq
set_option maxRecDepth 10000
theorem Dp.pb{p:Un}(h:Dp p):Pb p:=⟨h.t,by have:=h.l;omega,U4 h.b (by have:=h.l;omega)⟩
theorem Qxu{p:Un}{a:Tm}(hp:Dp p)(ha:Va a):Uk 241 [pr p,.agg (ta a)] [.oi (Fp a p)]:=Qmn (Dp.pb hp) ha.tb (Qkl hp ha).1
theorem Qxn{p:Un}{a:Tm}(hp:Dp p)(ha:Va a):Uk 240 [pr p,.one (.sh (ta a))] [.oi (Fp a p)]:=Uh func240 rfl [.k (Qxu hp ha)] rfl
theorem Qnk{p:Un}{fid:Nat}{l1:Us}{sgn:Un->Int}(hp:Dp p)(h:∀p,Dp p->AS prog fid [pr p,.one (.sh l1)] [.oi (sgn p)]):Uk 239 [pr p,.one (.fn fid [] [.sh l1])] [.oi (Tu sgn p.length p)]:=by
 have hpb:=Dp.pb hp;refine Fu func239 rfl ?_;refine Ue [.k (Hq hpb.t hpb.ln hpb.bd)] rfl ?_;refine Uj (S:=Un) 0 (λL1 s=>(0,.v (pr s))::L1) (λ_=>[]) (λs=>s.length) (λs=>Dp s/\Tu sgn s.length s=Tu sgn p.length p) p ⟨hp,rfl⟩ rfl rfl λr ⟨j1,j4⟩=>?_
 rw[<-j4];have jb:=Dp.pb j1;by_cases h0:r.length=0
 ·have e:=fG sgn h0;rw[e];exact Ug [.f (by simp;exact Qj h0)] rfl
 ·have hs:=h r j1;by_cases hz:sgn r=0
  ·have hlp:=Na r;refine Ue [.t (by simp;omega),.k hs,.f (by simpa using hz),.k (Iy jb.ln jb.bd)] rfl ?_;exact rd (Gv r) (by omega) ⟨j1.der,by rw[<-fF sgn (by omega) hz]⟩ rfl
  ·rw[fU sgn (by omega) hz];exact Ug [.t (by simp;omega),.k hs,.t (by simpa using hz)] rfl
abbrev gmA(a:Tm)(p:Un):Int:=Hi (Fp a) p
theorem SQ{p:Un}{a:Tm}(hp:Dp p)(ha:Va a):Uk 175 [pr p,.agg (ta a)] [.oi (gmA a p)] :=
 Uh func175 rfl [.k (Qnk (sgn:=Fp a) hp λ_ h=>Qxn h ha)] rfl
theorem wB{t:Tm}{a b:Pt}{ps:Uo}(hps:∀p∈ps,Dp p)(ht:Va t)(hl:ps.length<1000):Uk 231 [.agg (ta t),.agg (Fa a),.agg (Fa b),.one (.row (S9 ps))] [.one (.bool (Lv (Fp t) a b ps))]:=by
 refine Fu func231 rfl ?_;have hpl:(S9 ps).length=ps.length:=by simp[S9]
 refine Ue [] rfl ?_;refine Uj (S:=Nat) 3 (λL1 i=>(13,.v (.oi i))::L1) (λ_=>[.blk 105 (ta t),.blk 40 (Fa a),.blk 40 (Fa b)]) (λi=>ps.length-i) (λi=>i<=ps.length/\Lv (Fp t) a b (ps.drop i)=Lv (Fp t) a b ps) 0 ⟨Qh _,rfl⟩ rfl rfl λi ⟨hi,he⟩=>?_
 rw[<-he];by_cases hlt:i<ps.length
 ·obtain⟨p,hp⟩:=gxE (l:=ps) (i:=i) hlt;have hd:ps.drop i=p::ps.drop (i+1):=by
   rw[Zp hlt];rw[Qe hlt]at hp;injection hp with hp;rw[hp]
  have hpb:=hps p (Qc hp);rw[hd]at he ⊢;by_cases h0:0<p.length
  ·exact Ug [.t (by simp[hpl];omega),.x (Rl hp),.t (by simp;omega),.k (SQ hpb ht)] rfl (by simp only[Lv];rw[if_pos h0]) trivial
  ·refine Uf [.t (by simp[hpl];omega),.x (Rl hp),.f (by simp;exact Qj (by omega))] rfl ?_;exact rd (i+1) (by omega) ⟨hlt,by simp only[Lv];rw[if_neg h0]⟩ rfl
 ·have hd:ps.drop i=[]:=Yv (by omega);rw[hd];exact Ug [.f (by simp[hpl];omega)] rfl
structure Sc(k:Crv):Prop where
 n:ZM k
 c:Cs 128 3 k
theorem Sc.cb{k:Crv}(h:Sc k):Cb k:=h.c.mono (by omega) (by omega)
theorem M7{a b:Crv}(ha:Sc a)(hb:Sc b):Cp (Gl a b):=by
 refine⟨Fx _ _,?_,U4 (Do (Ge hb.c.x ha.c.d) (Ge ha.c.x hb.c.d)) (by omega)⟩;have:=Nb (Ft b.x a.d) (Ft a.x b.d);have:=Fw b.x a.d;have:=Fw a.x b.d;have:=ha.c.lx;have:=hb.c.lx;unfold Gl;omega
theorem M6{a b:Crv}(ha:Sc a)(hb:Sc b):Cp (Gk a b):=by
 refine⟨Fx _ _,?_,U4 (Do (Ge hb.c.y ha.c.d) (Ge ha.c.y hb.c.d)) (by omega)⟩;have:=Nb (Ft b.y a.d) (Ft a.y b.d);have:=Fw b.y a.d;have:=Fw a.y b.d;have:=ha.c.ly;have:=hb.c.ly;unfold Gk;omega
theorem Qmo{a b:Pt}{t:Tm}(ha:Sc a.c)(hb:Sc b.c)(ht:Va t):Uk 174 [.agg (Fa a),.agg (Fa b),.agg (ta t)] [.one (.bool (B9 (Fp t) a b))] :=
 Uh func174 rfl [.k (UJ hb.n ha.n hb.cb ha.cb),.k (UV hb.n ha.n hb.cb ha.cb),.k (wB (t:=t) (a:=a) (b:=b) (ps:=[Gk b.c a.c,Gl b.c a.c]) (λp hp=>by
  simp at hp;rcases hp with rfl|rfl
  ·exact(M6 hb ha).dp
  ·exact(M7 hb ha).dp) ht (show 2<1000 by decide))] rfl
theorem Qed{a b:Pt}{t:Tm}(ha:Sc a.c)(hb:Sc b.c)(ht:Va t):Uk 167 [.agg (Fa a),.agg (Fa b),.agg (ta t)] [.one (.bool (Ts (Fp t) a b))] :=
 Uh func167 rfl [.k (UV ha.n hb.n ha.cb hb.cb),.k (UJ ha.n hb.n ha.cb hb.cb),.k (wB (t:=t) (a:=a) (b:=b) (ps:=[Gl a.c b.c,Gk a.c b.c]) (λp hp=>by
  simp at hp;rcases hp with rfl|rfl
  ·exact(M7 ha hb).dp
  ·exact(M6 ha hb).dp) ht (show 2<1000 by decide))] rfl
theorem Qsv(q:Rat){P:Prop}(h:(tq q).point=false):P:=by
 have e:(tq q).point=true:=Ms.2 Qp;rw[e]at h;cases h
theorem Qva(q:Rat):lim (tq q)=3300000:=by unfold lim;rw[if_pos (Ms.2 Rat.le_refl)]
theorem TN{q:Rat}(hq:Qs 1640000 q):Va (tq q):=by
 have hd:=q.den_nz;refine⟨.inl ⟨rfl,?_⟩,Qal q,by show 2<=9;omega,by show 2<=2;omega,Qxg (hq.mono (by omega)),Qsv q,Qsv q,q.den,q.num.natAbs+1,0,?_,?_,by omega,?_⟩
 ·have e:(q.num:Rat)=q*(q.den:Rat):=by
   have:(q.num:Rat) / (((q.den:Int)):Rat)=q:=by rw[H8,Z1]
   have h2:(q.num:Rat) / (q.den:Rat)*(q.den:Rat)=q.num:=Zj (by have:=Orq.nat_pos q.den_pos;grind);rw[show(q.num:Rat) / (q.den:Rat)=q from this]at h2;exact h2.symm
  show U7 [-q.num,(q.den:Int)] q=0;simp only[U7];rw[Vm,e,show(((q.den:Int)):Rat)=(q.den:Rat) from rfl];grind
 all_goals first|(have h1:Fb (q.den:Int)<=1640000:=hq.2;have h2:Fb ((q.num.natAbs+1:Nat):Int)<=1640001:=Qcm hq.1;rw[Qva];omega)|skip
 all_goals
  refine⟨⟨q.num,?_⟩,?_,q.den_pos⟩
  ·rw[Vd,Yw];have:(q.num:Rat) / (((q.den:Int)):Rat)=q:=by rw[H8,Z1]
   have h2:(q.num:Rat) / (q.den:Rat)*(q.den:Rat)=q.num:=Zj (by have:=Orq.nat_pos q.den_pos;grind);rw[show(q.num:Rat) / (q.den:Rat)=q from this]at h2;exact h2
  ·have h1:Fh q<=Fh (q.num:Rat):=by
    have e:(q.num:Rat)=q*(q.den:Rat):=by
     have:(q.num:Rat) / (((q.den:Int)):Rat)=q:=by rw[H8,Z1]
     have h2:(q.num:Rat) / (q.den:Rat)*(q.den:Rat)=q.num:=Zj (by have:=Orq.nat_pos q.den_pos;grind);rw[show(q.num:Rat) / (q.den:Rat)=q from this]at h2;exact h2.symm
    rw[e,Ih];have hd1:(1:Rat)<=(q.den:Rat):=by
     have:((1:Nat):Rat)<=(q.den:Rat):=Zm.2 q.den_pos;exact this
    have e2:Fh (q.den:Rat)=(q.den:Rat):=by unfold Fh;rw[if_neg (by grind)]
    rw[e2];have:=Ck (a:=Fh q) (c:=1) (Ht q) Qp (by decide) hd1;grind
   rw[Sx]at h1;refine Zl h1 (Zm.2 (by omega))
theorem YG{p q:Un}(hp:Cp p)(hq:Cp q):Cp (Lq p q):=by unfold Lq;split <;> assumption
theorem lW{a b:Pt}{t:Tm}(ha:Sc a.c)(hb:Sc b.c)(ht:Va t):Uk 255 [.oi 1,.agg (ta t),.one (.row [Fa a,Fa b])] [.agg (Lu (QC (Fp t) a b)),.oi 0]:=by
 have h1:=M7 ha hb;have h2:=M6 ha hb;refine Fu func255 rfl ?_;refine Ue [.k Qbo,.f rfl] rfl ?_;refine Uj (S:=Nat) 3 (λL1 i=>(22,.v (.oi i))::L1) (λi=>[.blk 105 (ta t),.blk 99 zCt,.blk 99 [.int .i64 1,.int .i64 (if 1<=i then a.id else 0),.int .i64 (if 2<=i then b.id else 0),.int .i64 0,.int .i64 0,.nils,.int .i64 0]]) (λi=>2-i) (λi=>i<=2) 0 (Qh _) rfl rfl λi hi=>?_
 rcases(show i=0\/i=1\/i=2 by omega)with rfl|rfl|rfl
 ·refine Ue [.t rfl,.x (i:=0) (xs:=Fa a) rfl,.i 0] rfl ?_ (by simp[U0]);exact rd 1 (by omega) (by omega) rfl
 ·refine Ue [.t rfl,.x (i:=1) (xs:=Fa b) rfl,.i 1] rfl ?_ (by simp[U0]);exact rd 2 (by omega) (by omega) rfl
 ·exact Ug [.f rfl,.t rfl,.x (i:=0) (xs:=Fa a) rfl,.x (i:=1) (xs:=Fa b) rfl,.k (UV ha.n hb.n ha.cb hb.cb),.x (i:=0) (xs:=Fa a) rfl,.x (i:=1) (xs:=Fa b) rfl,.k (UJ ha.n hb.n ha.cb hb.cb),.k wP,.k (SQ (YG h1 h2).dp ht)] rfl
end Orr
namespace Orr
variable{α:Type}
def Lx(lt:α->α->Bool)(out:List α)(x:α):Nat->Nat
 | 0=>0
 |
  k+1=>match out[k]? with
  |some y=>if lt x y=true then Lx lt out x k else k+1
  |none=>k+1
theorem yI(lt:α->α->Bool)(out:List α)(x:α):∀k,Lx lt out x k<=k
 | 0=>Ql _
 |
  k+1=>by
  simp only[Lx]
  split
  ·split
   ·exact Nat.le_succ_of_le (yI lt out x k)
   ·exact Ql _
  ·exact Ql _
theorem oV{lt:α->α->Bool}{out:List α}{x y:α}{k:Nat}(hx:out[k]? = some y)(h:lt x y=true):Lx lt out x (k+1)=Lx lt out x k:=by
 simp only[Lx,hx,h,if_true]
theorem rS{lt:α->α->Bool}{out:List α}{x y:α}{k:Nat}(hx:out[k]? = some y)(h:lt x y=false):Lx lt out x (k+1)=k+1:=by
 simp[Lx,hx,h]
def Lr(lt:α->α->Bool)(out:List α)(x:α):List α:=out.take (Lx lt out x out.length)++x::out.drop (Lx lt out x out.length)
theorem Qh7(lt:α->α->Bool)(out:List α)(x:α):(Lr lt out x).length=out.length+1:=by
 have:=yI lt out x out.length;simp[Lr];omega
theorem FV{lt:α->α->Bool}{out:List α}{x y:α}:y∈Lr lt out x↔y=x\/y∈out:=by
 have h:y∈out↔y∈out.take (Lx lt out x out.length)\/y∈out.drop (Lx lt out x out.length):=by
  rw[<-Qr,Zh]
 simp only[Lr,Qr,Qm,h];constructor
 ·rintro (h|h|h)
  ·exact .inr (.inl h)
  ·exact .inl h
  ·exact .inr (.inr h)
 ·rintro (h|h|h)
  ·exact .inr (.inl h)
  ·exact .inl h
  ·exact .inr (.inr h)
def Ed(lt:α->α->Bool)(l:List α):List α:=l.foldl (Lr lt) []
theorem dJ(lt:α->α->Bool)(l:List α)(x:α):Ed lt (l++[x])=Lr lt (Ed lt l) x:=by simp[Ed,Vq]
theorem dY{lt:α->α->Bool}{l:List α}{i:Nat}{x:α}(h:l[i]? = some x):Ed lt (l.take (i+1))=Lr lt (Ed lt (l.take i)) x:=by
 rw[Z2,h];exact dJ _ _ _
theorem DG(lt:α->α->Bool):∀(l acc:List α),(l.foldl (Lr lt) acc).length=acc.length+l.length
 | [],acc=>by simp
 |c::l,acc=>by simp only[Z9];rw[DG lt l (Lr lt acc c),Qh7];simp;omega
theorem zC(lt:α->α->Bool)(l:List α):(Ed lt l).length=l.length:=by unfold Ed;rw[DG];simp
theorem KE(lt:α->α->Bool):∀(l acc:List α) {y:α},y∈l.foldl (Lr lt) acc↔y∈l\/y∈acc
 | [],acc,y=>by simp
 |
  c::l,acc,y=>by
  simp only[Z9];rw[KE lt l,FV,Qm];constructor
  ·rintro (h|h|h)
   ·exact .inl (.inr h)
   ·exact .inl (.inl h)
   ·exact .inr h
  ·rintro ((h|h)|h)
   ·exact .inr (.inl h)
   ·exact .inl h
   ·exact .inr (.inr h)
theorem Qdd{lt:α->α->Bool}{l:List α}{y:α}:y∈Ed lt l↔y∈l:=by
 unfold Ed;rw[KE];simp
end Orr
namespace Orr
open Go Orq
structure Wt where
 c:Ct
 known:Bool
 fails:Option Tm
def f0:Option Tm->LV|none=>.row []|some t=>pl t.p
def f1:Option Tm->LV|none=>.bool false|some t=>sg t.lo.num
def f2:Option Tm->LV|none=>.row []|some t=>mg t.lo.num
def f3:Option Tm->LV|none=>.bool false|some t=>sg (t.lo.den:Int)
def f4:Option Tm->LV|none=>.row []|some t=>mg (t.lo.den:Int)
def f5:Option Tm->LV|none=>.bool false|some t=>sg t.hi.num
def f6:Option Tm->LV|none=>.row []|some t=>mg t.hi.num
def f7:Option Tm->LV|none=>.bool false|some t=>sg (t.hi.den:Int)
def f8:Option Tm->LV|none=>.row []|some t=>mg (t.hi.den:Int)
abbrev fl(o:Option Tm):Us:=[f0 o,f1 o,f2 o,f3 o,f4 o,f5 o,f6 o,f7 o,f8 o]
abbrev wl(w:Wt):Us:=[.int .i64 w.c.kind,.int .i64 w.c.i0,.int .i64 w.c.i1,.int .i64 w.c.i2,.int .i64 w.c.i3,pl w.c.p,.int .i64 w.c.want,.bool w.known,.bool w.fails.isSome,f0 w.fails,f1 w.fails,f2 w.fails,f3 w.fails,f4 w.fails,f5 w.fails,f6 w.fails,f7 w.fails,f8 w.fails]
def C6(l:List Wt):Ut:=l.map λw=>wl w
theorem Hy{l:List Wt}{i:Nat}{w:Wt}(h:l[i]? = some w):(C6 l)[i]? = some (wl w):=G6 h
theorem Sw(l:List Wt):(C6 l).length=l.length:=by simp[C6]
structure Cr where
 now:Tm
 l:List Wt
 ev:Int
abbrev Hl(c:Cr)(r0 r1:Ut):Us:=.bool true::pl c.now.p::sg c.now.lo.num::mg c.now.lo.num::sg (c.now.lo.den:Int)::mg (c.now.lo.den:Int)::sg c.now.hi.num::mg c.now.hi.num::sg (c.now.hi.den:Int)::mg (c.now.hi.den:Int)::.row (C6 c.l)::.int .i64 c.ev::[.row r0,.row r1]
structure WtOk(w:Wt):Prop where
 p:Cp w.c.p
 f:∀t,w.fails=some t->Va t
structure CrOk(c:Cr):Prop where
 n:Va c.now
 l:∀w∈c.l,WtOk w
 k:c.l.length<=1000
def tR(a b:Ct):Bool:=decide ([a.kind,a.i0,a.i1,a.i2,a.i3]=[b.kind,b.i0,b.i1,b.i2,b.i3])
def fresh(x:Ct):Wt:=⟨x,false,none⟩
def Ci:List Wt->Ct->Tm->Option Wt
 | [],x,_=>some (fresh x)
 |
  w::l,x,at_=>if tR w.c x=true/\w.known=true/\w.c.p=x.p then
   match w.fails with
   |none=>some ⟨x,true,none⟩
   |some t=>(UR t at_).bind λc=>if 0<c then some ⟨x,true,some t⟩else Ci l x at_
  else Ci l x at_
def Tj(old:List Wt)(at_:Tm):List Ct->Option (List Wt)
 | []=>some []
 |x::l=>(Ci old x at_).bind λw=>(Tj old at_ l).bind λr=>some (w::r)
end Orr
namespace Orr
open Go Go.Proofs Tryz Orq
set_option maxRecDepth 10000
theorem QZ{T:Nat}{c:Cr}{r0 r1:Ut}(hc:Va c.now):U5 prog 400 [.one (.ow 0 0)] [.blk T (Hl c r0 r1)] [.agg (ta c.now)] [.blk T (Hl c r0 r1)]:=by
 have cl:=S7 (b:=c.now) (l:=[]) hc.tb (λt ht=>by cases ht) (by decide) rfl;refine Fu func400 rfl ?_;exact Ui [] [0] [.f rfl,.k cl] rfl
theorem Qtj{T:Nat}{c:Cr}{r0 r1:Ut}{x:Ct}{at_:Tm}{w:Wt}(hc:CrOk c)(hx:Cp x.p)(ha:Va at_)(h:Ci c.l x at_=some w):U5 prog 289 [.one (.ow 0 0),.agg (Lu x),.agg (ta at_)] [.blk T (Hl c r0 r1)] [.agg (wl w)] [.blk T (Hl c r0 r1)]:=by
 have hk:=hc.k;have hw:=Sw c.l;refine Fu func289 rfl ?_;refine Ue [] rfl ?_;refine Uj (S:=Nat) 4 (λL1 i=>(14,.v (.oi i))::L1) (λ_=>[.blk T (Hl c r0 r1),.blk 99 (Lu x),.blk 105 (ta at_),.blk 352 [.int .i64 0,.int .i64 0,.int .i64 0,.int .i64 0,.int .i64 0,.nils,.int .i64 0,.bool false,.bool false,.nils,.bool false,.nils,.bool false,.nils,.bool false,.nils,.bool false,.nils]]) (λi=>c.l.length-i) (λi=>i<=c.l.length/\Ci (c.l.drop i) x at_=some w) 0 ⟨Qh _,h⟩ rfl rfl λi ⟨hi,hf⟩=>?_
 by_cases hlt:i<c.l.length
 ·obtain⟨v,hv⟩:=gxE (l:=c.l) (i:=i) hlt;have hdr:c.l.drop i=v::c.l.drop (i+1):=by
   rw[Zp hlt];congr 1;have:=Qe hlt;rw[hv]at this;injection this with this;exact this.symm
  have hvo:=hc.l v (Qc hv);rw[hdr]at hf;simp only[Ci]at hf;have hl:decide ((i:Int)<((C6 c.l).length:Int))=true:=by simp[hw];omega
  by_cases A:tR v.c x=true
  ·have A':(!decide ([v.c.kind,v.c.i0,v.c.i1,v.c.i2,v.c.i3]=[x.kind,x.i0,x.i1,x.i2,x.i3]))=false:=by
    unfold tR at A;rw[A];rfl
   by_cases B:v.known=true
   ·have B':(!v.known)=false:=by rw[B];rfl
    have cs:=MJ (p:=v.c.p) (q:=x.p) (Dp.pb hvo.p.dp).ln (Dp.pb hx.dp).ln (Dp.pb hvo.p.dp).bd (Dp.pb hx.dp).bd;rw[hvo.p.t,hx.t]at cs;by_cases C:v.c.p=x.p
    ·have C':(!decide (v.c.p=x.p))=false:=by simp[C]
     rw[if_pos ⟨A,B,C⟩]at hf;obtain⟨vc,vk,vf⟩:=v;cases vf with
     |
      none =>
      injection hf with hf;subst hf;exact Ui [] [0] [.t hl,.x (Hy hv),.g 24 false A',.g 29 false B',.k cs,.f C',.g 41 true rfl,.t rfl] rfl
     |
      some t =>
      obtain⟨r,r1',hf⟩:=Qd.1 hf;have cc:=KW (hvo.f t rfl).tb ha.tb r1';by_cases D:0<r
      ·rw[if_pos D]at hf;injection hf with hf;subst hf;exact Ui [] [0] [.t hl,.x (Hy hv),.g 24 false A',.g 29 false B',.k cs,.f C',.g 41 false rfl,.k cc,.t (by simpa using D)] rfl
      ·rw[if_neg D]at hf;refine Uf [.t hl,.x (Hy hv),.g 24 false A',.g 29 false B',.k cs,.f C',.g 41 false rfl,.k cc,.f (by simpa using D)] rfl ?_;exact rd (i+1) (by omega) ⟨hlt,hf⟩ rfl
    ·rw[if_neg λh=>C h.2.2]at hf;refine Uf [.t hl,.x (Hy hv),.g 24 false A',.g 29 false B',.k cs,.t (by simp[C])] rfl ?_;exact rd (i+1) (by omega) ⟨hlt,hf⟩ rfl
   ·rw[if_neg λh=>B h.2.1]at hf;refine Uf [.t hl,.x (Hy hv),.g 24 false A',.g 29 true (by simpa using B),.t rfl] rfl ?_;exact rd (i+1) (by omega) ⟨hlt,hf⟩ rfl
  ·rw[if_neg λh=>A h.1]at hf;refine Uf [.t hl,.x (Hy hv),.g 24 true (by rw[show decide ([v.c.kind,v.c.i0,v.c.i1,v.c.i2,v.c.i3]=[x.kind,x.i0,x.i1,x.i2,x.i3])=false from Wv.2 A];rfl),.g 29 true rfl,.t rfl] rfl ?_;exact rd (i+1) (by omega) ⟨hlt,hf⟩ rfl
 ·obtain rfl:i=c.l.length:=by omega
  rw[Yt]at hf;simp only[Ci]at hf;injection hf with hf;subst hf;exact Ui [] [0] [.f (by simp[hw])] rfl
theorem XM{old:List Wt}{at_:Tm}:∀{l:List Ct} {ws:List Wt},Tj old at_ l=some ws->ws.length=l.length/\∀(i:Nat) (x:Ct),l[i]? = some x->∃w,Ci old x at_=some w/\ws[i]? = some w
 | [],ws,h=>by injection h with h;subst h;exact⟨rfl,λi x hx=>by simp at hx⟩
 |
  y::l,ws,h=>by
  simp only[Tj]at h;obtain⟨w,hw,h⟩:=Qd.1 h;obtain⟨r,hr,h⟩:=Qd.1 h;injection h with h;subst h;obtain⟨a,b⟩:=XM hr;refine⟨by simp[a],λi x hx=>?_⟩;cases i with
  |zero=>injection hx with hx;subst hx;exact⟨w,hw,rfl⟩
  |succ i=>exact b i x (by simpa using hx)
theorem E9{l:List Wt}{i:Nat}{w:Wt}(h:l[i]? = some w):C6 (l.take (i+1))=C6 (l.take i)++[wl w]:=by
 rw[Z2,h];simp[C6]
theorem UY{T:Nat}{c:Cr}{r0 r1:Ut}{at_:Tm}{l:List Ct}{ws:List Wt}(hc:CrOk c)(ha:Va at_)(hl:∀x∈l,Cp x.p)(hn:l.length≤1000)(h:Tj c.l at_ (Fv l)=some ws):U5 prog 250 [.one (.ow 0 0),.agg (ta at_),.one (.bool true),.one (.row (Fj l))] [.blk T (Hl c r0 r1)] [] [.blk T (Hl ⟨at_,ws,c.ev⟩ r0 r1)]:=by
 have cs:=xN (l:=l) (λx hx=>Dp.pb (hl x hx).dp) (by omega);have cl:=S7 (b:=at_) (l:=[]) ha.tb (λt ht=>by cases ht) (by decide) rfl;obtain⟨h1,h2⟩:=XM h;have hs:(Fv l).length=l.length:=Dn l;refine Fu func250 rfl ?_;refine Ue [.o 8 352 18,.k cs] rfl ?_;refine Uj (S:=Nat) 3 (λL1 i=>(15,.v (.oi i))::(8,.v (.one (.orow 2 18 none)))::L1) (λi=>[.blk T (Hl c r0 r1),.blk 105 (ta at_),.row false 352 18 (C6 (ws.take i))]) (λi=>ws.length-i) (λi=>i<=ws.length) 0 (Qh _) rfl rfl λi hi=>?_
 by_cases hlt:i<ws.length
 ·obtain⟨x,hx⟩:=gxE (l:=(Fv l)) (i:=i) (by omega);obtain⟨w,hw,hw'⟩:=h2 i x hx;have hm:∀y∈[wl w],y.length=18:=λy hy=>by rw[Qk.1 hy];rfl
  have hlt':decide ((i:Int)<((Fj (Fv l)).length:Int))=true:=by simp[Fj];omega
  have ck:=Qtj (T:=T) (r0:=r0) (r1:=r1) hc (hl x (VJ (Qc hx))) ha hw;have hg:=E9 hw';obtain⟨wc,wk,wf⟩:=w;cases wf <;> (refine go tt [.t hlt',.x (KD hx),.t rfl,.c [0] ck,.s (sz:=18) hm] rfl (by simp[U0,Sw];omega) ?_;exact rd (i+1) (by omega) hlt (by rw[hg];rfl))
 ·obtain rfl:i=ws.length:=by omega
  rw[Q6];have hge:decide ((ws.length:Int)<((Fj (Fv l)).length:Int))=false:=by simp[Fj];omega
  exact Ui [] [0] [.f hge,.p 2,.k cl] rfl
abbrev mS(r0 r1:LV):Us:=[.bool false,.nils,.bool false,.nils,.bool false,.nils,.bool false,.nils,.bool false,.nils,.nils,.int .i64 0,r0,r1]
theorem Qmx{T:Nat}{r0 r1:Ut}{at_:Tm}{l:List Ct}(ha:Va at_)(hl:∀x∈l,Cp x.p)(hn:l.length≤1000):U5 prog 250 [.one (.ow 0 0),.agg (ta at_),.one (.bool false),.one (.row (Fj l))] [.blk T (mS (.row r0) (.row r1))] [] [.blk T (Hl ⟨at_,(Fv l).map fresh,0⟩ r0 r1)]:=by
 have cs:=xN (l:=l) (λx hx=>Dp.pb (hl x hx).dp) (by omega);have cl:=S7 (b:=at_) (l:=[]) ha.tb (λt ht=>by cases ht) (by decide) rfl;have hs:(Fv l).length=l.length:=Dn l;refine Fu func250 rfl ?_;refine Ue [.o 8 352 18,.k cs] rfl ?_;refine Uj (S:=Nat) 3 (λL1 i=>(15,.v (.oi i))::(8,.v (.one (.orow 2 18 none)))::L1) (λi=>[.blk T (mS (.row r0) (.row r1)),.blk 105 (ta at_),.row false 352 18 (C6 (((Fv l).map fresh).take i))]) (λi=>l.length-i) (λi=>i<=l.length) 0 (Qh _) rfl rfl λi hi=>?_
 by_cases hlt:i<l.length
 ·obtain⟨x,hx⟩:=gxE (l:=(Fv l)) (i:=i) (by omega);have hm:∀y∈[wl (fresh x)],y.length=18:=λy hy=>by rw[Qk.1 hy];rfl
  have hlt':decide ((i:Int)<((Fj (Fv l)).length:Int))=true:=by simp[Fj];omega
  have hg:=E9 (l:=(Fv l).map fresh) (i:=i) (w:=fresh x) (by rw[Q9,hx];rfl);refine go tt [.t hlt',.x (KD hx),.z 20,.f rfl,.s (sz:=18) hm] rfl (by simp[U0,Sw];omega) ?_;exact rd (i+1) (by omega) hlt (by rw[hg];rfl)
 ·obtain rfl:i=l.length:=by omega
  rw[Qo (by simp;omega)];have hge:decide ((l.length:Int)<((Fj (Fv l)).length:Int))=false:=by simp[Fj];omega
  exact Ui [] [0] [.f hge,.p 2,.k cl] rfl
theorem YZ{T:Nat}{r0 r1:Ut}{at_:Tm}{l:List Ct}(ha:Va at_)(hl:∀x∈l,Cp x.p)(hn:l.length≤1000):U5 prog 194 [.one (.ow 0 0),.agg (ta at_),.one (.row (Fj l))] [.blk T (mS (.row r0) (.row r1))] [] [.blk T (Hl ⟨at_,(Fv l).map fresh,0⟩ r0 r1)]:=by
 have cl:=Qmx (T:=T) (r0:=r0) (r1:=r1) ha hl hn;refine Fu func194 rfl ?_;exact Ui [] [0] [.g 12 false rfl,.c [0] cl] rfl
theorem eB{a b:Bool}(h:a=b):TV.one (LV.bool a)=.one (.bool b):=h ▸ rfl
theorem YX{T:Nat}{c:Cr}{r0 r1:Ut}{at_:Tm}{l:List Ct}{ws:List Wt}{k:Int}(hc:CrOk c)(ha:Va at_)(hk:UR at_ c.now=some k)(h0:0≤k)(hl:∀x∈l,Cp x.p)(hn:l.length≤1000)(h:Tj c.l at_ (Fv l)=some ws):U5 prog 194 [.one (.ow 0 0),.agg (ta at_),.one (.row (Fj l))] [.blk T (Hl c r0 r1)] [] [.blk T (Hl ⟨at_,ws,c.ev⟩ r0 r1)]:=by
 have cl:=UY (T:=T) (r0:=r0) (r1:=r1) hc ha hl hn h;have cc:=KW ha.tb hc.n.tb hk;refine Fu func194 rfl ?_;exact Ui [] [0] [.g 12 true rfl,.k cc,.r 20 (eB (show decide (0<=k)=true by simpa using h0)),.c [0] cl] rfl
theorem MD:∀{k:Nat} {g:Un} {l:Uo},Pb g->RG k g=some l->l.length≤k/\∀p∈l,Pb p
 | 0,_,_,_,h=>by cases h
 |
  k+1,g,l,hg,h=>by
  simp only[RG]at h
  split at h
  ·injection h with h;subst h;exact⟨by simp,λp hp=>by cases hp⟩
  ·obtain⟨d,hd,h⟩:=Qd.1 h;obtain⟨rfl,hdp⟩:=LL hd;obtain⟨x,hx,h⟩:=Qd.1 h;obtain⟨q,hq,h⟩:=Qd.1 h;obtain⟨r,hr,h⟩:=Qd.1 h;injection h with h;subst h;obtain⟨i1,i2⟩:=MD (RA hg hdp hx) hr;refine⟨by simp;exact i1,λp hp=>?_⟩;rcases Qm.1 hp with rfl|hp
   ·exact bN hq
   ·exact i2 p hp
theorem Qfu{a:Un}{l:Uo}(ha:Pb a)(h:RG 66 (Fg a)=some l):Uk 413 [pr a] [.one (.row (S9 l))]:=by
 have hp:=Ry ha;refine Fu func413 rfl ?_;refine Ue [.o 3 33 1,.k (A6 ha)] rfl ?_;refine Uj (S:=Nat×Uo×Un) 1 (λL1 s=>(4,.v (pr s.2.2))::(3,.v (.one (.orow 0 1 none)))::L1) (λs=>[.row false 33 1 (S9 s.2.1)]) (λs=>s.1) (λs=>Pb s.2.2/\s.2.1.length+s.1<=66/\∃m,RG s.1 s.2.2=some m/\s.2.1++m=l) (66,[],Fg a) ⟨hp,Ql _,l,h,rfl⟩ rfl rfl λ⟨k,out,g⟩ ⟨j1,j2,m,j3,j4⟩=>?_
 dsimp only at j1 j2 j3 j4 ⊢;cases k with
 |zero=>cases j3
 |
  succ k =>
  simp only[RG]at j3
  split at j3
  ·rename_i h0;injection j3 with j3;subst j3;rw[Zv]at j4;subst j4;exact Ug [.k (P7 _),.f (by simp;omega)] rfl
  ·rename_i h0;obtain⟨d,hd,j3⟩:=Qd.1 j3;obtain⟨rfl,hdp⟩:=LL hd;obtain⟨x,hx,j3⟩:=Qd.1 j3;obtain⟨q,hq,j3⟩:=Qd.1 j3;obtain⟨r,hr,j3⟩:=Qd.1 j3;injection j3 with j3;subst j3;have hxp:=RA j1 hdp hx;refine go tt [.k (P7 _),.t (by simp;omega),.k (Iy j1.ln j1.bd),.k (eZ j1 hdp hx),.k (Qf6 j1 hxp hq),.s (sz:=1) (l:=[[pl q]]) (λc hc=>by rw[Qk.1 hc];rfl)] rfl (by simp[U0,E6];omega) ?_;exact rd (k,out++[q],x) (by dsimp only;omega) ⟨hxp,by simp;omega,r,hr,by rw[<-j4];simp⟩ (by rw[EZ];rfl)
theorem DX:∀{l r:Uo},AD l=some r->r.length=l.length/\∀i w,l[i]? = some w->(match l[i+1]? with|some v=>∃f,JU w v=some f/\r[i]? = some f|none=>r[i]? = some w)
 | [],r,h=>by injection h with h;subst h;exact⟨rfl,λi w hw=>by simp at hw⟩
 |
  [w],r,h=>by
  injection h with h;subst h;refine⟨rfl,λi x hx=>?_⟩;cases i with
  |zero=>simpa using hx
  |succ i=>simp at hx
 |
  w::v::l,r,h=>by
  simp only[AD]at h;obtain⟨f,hf,h⟩:=Qd.1 h;obtain⟨s,hs,h⟩:=Qd.1 h;injection h with h;subst h;obtain⟨i1,i2⟩:=DX hs;refine⟨by simp[i1],λi x hx=>?_⟩;cases i with
  |
   zero =>
   injection hx with hx;subst hx;exact⟨f,hf,rfl⟩
  |
   succ i =>
   have:=i2 i x (by simpa using hx);simpa using this
theorem jS:∀{l r:Uo},(∀p∈l,Pb p)->AD l=some r->∀p∈r,Pb p
 | [],r,_,h=>by injection h with h;subst h;exact λp hp=>by cases hp
 | [w],r,hl,h=>by injection h with h;subst h;exact hl
 |
  w::v::l,r,hl,h=>by
  simp only[AD]at h;obtain⟨f,hf,h⟩:=Qd.1 h;obtain⟨s,hs,h⟩:=Qd.1 h;injection h with h;subst h;intro p hp;rcases Qm.1 hp with rfl|hp
  ·exact bN hf
  ·exact jS (λp hp=>hl p (Qg _ hp)) hs p hp
theorem Qa9{a:Un}{l r:Uo}(ha:Pb a)(h:RG 66 (Fg a)=some l)(hr:AD l=some r):Uk 408 [pr a] [.one (.row (S9 r))]:=by
 obtain⟨i1,i2⟩:=MD (Ry ha) h;obtain⟨j1,j2⟩:=DX hr;have hw:=E6 l;refine Fu func408 rfl ?_;refine go tt [.k (Qfu ha h),.i (S9 l).length,.i (S9 l).length] rfl (by simp[U0,hw];omega) ?_;rw[hw,Ag λi=>[pl (r.getD i [])]];refine Uj (S:=Nat) 1 (λL1 k=>(14,.v (.oi k))::L1) (λk=>[.row false 33 1 (AG (λi=>[pl (r.getD i [])]) [.nils] l.length k)]) (λk=>l.length-k) (λk=>k<=l.length) 0 (Qh _) rfl rfl λk hk=>?_
 by_cases hlt:k<l.length
 ·obtain⟨w,hx⟩:=gxE (l:=l) (i:=k) hlt;have e:=QH (λi=>[pl (r.getD i [])]) [.nils] hlt;have hg:=j2 k w hx;by_cases h2:k+1<l.length
  ·obtain⟨v,hv⟩:=gxE (l:=l) (i:=k+1) h2;rw[hv]at hg;obtain⟨f,f1,f2⟩:=hg;have e2:r.getD k []=f:=by rw[Qi,f2];rfl
   rw[e2]at e;refine go tt [.t (by simp[hw];omega),.x (Rl hx),.i k,.t (by simp[hw];omega),.x (i:=k+1) (Rl hv),.k (Qf6 (i2 w (Qc hx)) (i2 v (Qc hv)) f1),.i k] rfl (by simp[U0,If,hw];omega) ?_;rw[List.set_set,e];exact rd (k+1) (by omega) hlt rfl
  ·have hv:l[k+1]? = none:=Qu (by omega);rw[hv]at hg;have e2:r.getD k []=w:=by rw[Qi,hg];rfl
   rw[e2]at e;refine go tt [.t (by simp[hw];omega),.x (Rl hx),.i k,.f (by simp[hw];omega)] rfl (by simp[U0,If,hw];omega) ?_;rw[e];exact rd (k+1) (by omega) hlt rfl
 ·obtain rfl:k=l.length:=by omega
  have e:AG (λi=>[pl (r.getD i [])]) [.nils] l.length l.length=S9 r:=by
   rw[QG,<-j1];refine Xk λi=>?_
   simp only[S9,Q9];by_cases hi:i<r.length
   ·rw[X1 hi];simp[Qi,Qe hi]
   ·rw[Qu (by simpa using hi),Qu (by simpa using hi)];rfl
  rw[e];exact Ug [.f (by simp[hw])] rfl
theorem bO{p:Un}(tp:Fc p):Fg (Fg p)=Fg p:=by
 by_cases h:p.length=0
 ·have e:Fg p=[]:=by unfold Fg;rw[if_pos h]
  rw[e];rfl
 ·obtain⟨h1,h2,h3,h4,_⟩:=Co tp h;have hc:Pf (Fg p)=1:=by
   have h5:Pf (Fg p)∣1:=h3 _ λk=>by
    by_cases hk:k<(Fg p).length
    ·rw[Qi,Qe hk];exact E5 _ (Xs hk)
    ·rw[Qi,Qu (by omega)];exact Int.dvd_zero _
   have h6:0<=Pf (Fg p):=by unfold Pf;omega
   exact Int.eq_one_of_dvd_one h6 h5
  have hf:∀q:Un,0<Fo q->Hn q=Pf q:=λq hq=>by unfold Hn;rw[if_neg (by omega)]
  have hf:=(hf _ h4).trans hc;have e0:∀q:Un,q.length≠0->Fg q=Da q (Hn q):=λq hq=>by unfold Fg;rw[if_neg hq]
  have e:=e0 (Fg p) (by omega);rw[hf]at e;rw[e];unfold Da;have e2:(Fg p).map (· / (1:Int))=Fg p:=by
   conv=>rhs;rw[<-List.map_id (Fg p)]
   exact Xq λz _=>by simp
  rw[e2];exact h1
theorem Qai(i:Nat):(i:Int).tmod 2=((i % 2:Nat):Int):=rfl
theorem Qto{a:Un}(ha:Pb a)(h:(Fg a).length=0):Uk 404 [pr a] [pr []] :=
 Uh func404 rfl [.k (A6 ha),.t (by simp[Qj h])] rfl
theorem YD:∀{l:Uo} {i:Nat} {p o:Un},Pb p->(∀f∈l,Pb f)->FN i p l=some o->Pb o
 | [],i,p,o,hp,_,h=>by simp only[FN]at h;injection h with h;subst h;exact hp
 |
  f::l,i,p,o,hp,hl,h=>by
  simp only[FN]at h
  split at h
  ·obtain⟨q,hq,h⟩:=Qd.1 h;obtain⟨rfl,hq'⟩:=QK (Hx _ _) hq;exact YD hq' (λf hf=>hl f (Qg _ hf)) h
  ·exact YD hp (λf hf=>hl f (Qg _ hf)) h
theorem Qji:Pb [1]:=⟨rfl,by decide,λz hz=>by rw[Qk.1 hz];decide⟩
theorem Qxs{a o:Un}(ha:Pb a)(h:bE a=some o):Uk 404 [pr a] [pr o]:=by
 unfold bE at h
 split at h
 ·rename_i h0;injection h with h;subst h;exact Qto ha h0
 rename_i h0;obtain⟨l,hl,h⟩:=Qd.1 h;obtain⟨fs,hf,h⟩:=Qd.1 h;have hpa:=Ry ha;have hl':RG 66 (Fg (Fg a))=some l:=by rw[bO ha.t];exact hl
 obtain⟨i1,i2⟩:=MD (Ry ha) hl;have i3:=jS i2 hf;obtain⟨j1,_⟩:=DX hf;have hw:=E6 fs;have co:=lF (p:=[1]) (by decide) (λz hz=>by rw[Qk.1 hz];decide);rw[show trim [1]=[1] from rfl]at co;refine Fu func404 rfl ?_;refine Ue [.k (A6 ha),.f (by simpa using h0),.k co,.k (Qa9 hpa hl' hf)] rfl ?_ (by simp[U0]);refine Uj (S:=Nat×Un) 0 (λL1 s=>(16,.v (.oi (s.1:Int)))::(3,.v (pr s.2))::L1) (λ_=>[]) (λs=>fs.length-s.1) (λs=>s.1<=fs.length/\Pb s.2/\FN s.1 s.2 (fs.drop s.1)=some o) (0,[1]) ⟨Qh _,Qji,h⟩ rfl rfl λ⟨i,p⟩ ⟨k1,k2,k3⟩=>?_
 dsimp only at k1 k2 k3 ⊢;by_cases hlt:i<fs.length
 ·obtain⟨f,hx⟩:=gxE (l:=fs) (i:=i) hlt;have hdr:fs.drop i=f::fs.drop (i+1):=by
   rw[Zp hlt];congr 1;have:=Qe hlt;rw[hx]at this;injection this with this;exact this.symm
  rw[hdr]at k3;simp only[FN]at k3;have pf:=i3 f (Qc hx);by_cases h2:i % 2=0
  ·rw[if_pos h2]at k3;obtain⟨q,hq,k3⟩:=Qd.1 k3;obtain⟨rfl,hq'⟩:=QK (Hx _ _) hq;refine Uf [.t (by simp[hw];omega),.x (Rl hx),.t (by rw[Qai,h2];rfl),.k (KG k2.t pf.t (Z4 k2.l (by decide)) (Z4 pf.l (by decide)) k2.b pf.b (by decide))] rfl ?_;exact rd (i+1,Gj p f) (by dsimp only;omega) ⟨hlt,hq',k3⟩ rfl
  ·rw[if_neg h2]at k3;refine Uf [.t (by simp[hw];omega),.x (Rl hx),.f (by rw[Qai,show i % 2=1 by omega];rfl)] rfl ?_;exact rd (i+1,p) (by dsimp only;omega) ⟨hlt,k2,k3⟩ rfl
 ·obtain rfl:i=fs.length:=by omega
  rw[Yt]at k3;simp only[FN]at k3;injection k3 with k3;subst k3;exact Ug [.f (by simp[hw])] rfl
theorem QT(z:Int):Fb (z.natAbs:Int)=Fb z:=by unfold Fb;simp
theorem Qfl{x y:LV}{z:Int}(hi:Gb x y z)(hs:Fb z<=4294967295):Uk 409 [.agg [x,y]] [.agg (He (z.natAbs:Int))]:=by
 obtain⟨b,l,rfl,rfl,hl,rfl⟩:=hi;have e:(U9 false (val l))=((U9 b (val l)).natAbs:Int):=by rw[Rq];rfl
 rw[<-e];exact Uh func409 rfl [.k (KU hl (Qa (Pv hs) (by decide))),.k (Py _ _)] rfl
theorem Qnv{n d:Int}(h0:d≠0)(hn:Fb n<=4294967295)(hd:Fb d<=4294967295):Uk 410 [.agg (He n),.agg (He d)] [.agg (rl (Rat.divInt n d)),.oi 0] :=
 Uh func410 rfl [.k (Ml (U3 d) hd),.k Df,.f (by simpa using h0),.k (Ml (U3 n) hn),.k (ZL h0 hn hd)] rfl
theorem Qcq(l:Un)(z:Int):most (l++[z])=if most l<z.natAbs then z.natAbs else most l:=by unfold most;rw[List.foldl_append];rfl
theorem iG{s:Nat}:∀{l:Un},Bd s l->Fb (most l:Int)<=s:=λ{l}=>by
 suffices h:∀(l:Un) (m:Nat),Bd s l->Fb (m:Int)<=s->Fb ((l.foldl (λm z=>if m<z.natAbs then z.natAbs else m) m:Nat):Int)<=s from λhb=>h l 0 hb (by simp[Fb,sz])
 intro l
 induction l with
 |nil=>exact λm _ h=>h
 |
  cons z l ih =>
  intro m hb hm;refine ih _ (λy hy=>hb y (Qg _ hy)) ?_;show Fb ((if m<z.natAbs then z.natAbs else m:Nat):Int)<=s
  split
  ·rw[QT];exact hb z (Qx ..)
  ·exact hm
def ozi:Option Nat->Us
 |none=>[.bool false,.nils]
 |some m=>He (m:Int)
def ozr:Option Nat->Us
 |none=>[.bool false,.row []]
 |some m=>He (m:Int)
theorem Qmq{p:Un}(hp:Pb p)(h0:p.length≠0):Uk 405 [pr p] [.agg (rl (Gw p)),.oi 0]:=by
 have hl:=hp.l;have hll:(p.take (p.length-1)).length=p.length-1:=by simp
 have hbt:Bd 16777216 (p.take (p.length-1)):=λz hz=>hp.b z (Qn hz)
 refine Fu func405 rfl ?_;refine Uf [.k (Hq hp.t hp.ln hp.bd),.f (by simpa using h0),.r 18 (eI (b:=((p.length-1:Nat):Int)) (by simp;omega)),.i (p.length-1)] rfl ?_;rw[<-Jw];refine Uj (S:=Nat×Option Nat) 2 (λL1 s=>(21,.v (.oi (s.1:Int)))::L1) (λs=>[.blk 42 [.bool false,.nils,.bool false,.nils],.blk 36 (ozi s.2)]) (λs=>p.length-1-s.1) (λs=>s.1<=p.length-1/\most ((p.take (p.length-1)).take s.1)=s.2.getD 0) (0,none) ⟨Qh _,rfl⟩ rfl rfl λ⟨i,o⟩ ⟨j1,j2⟩=>?_
 dsimp only at j1 j2 ⊢;by_cases hlt:i<p.length-1
 ·obtain⟨z,hz⟩:=gxE (l:=(p.take (p.length-1))) (i:=i) (by omega);have bz:Fb z<=16777216:=hbt z (Qc hz);have hst:most ((p.take (p.length-1)).take (i+1))=if o.getD 0<z.natAbs then z.natAbs else o.getD 0:=by
   rw[Z2,hz];show most (_++[z])=_;rw[Qcq,j2]
  have ca:=Qfl (U3 z) (Qa bz (by decide));have hl1:decide ((i:Int)<(((p.take (p.length-1)).map He).length:Int))=true:=by simp;omega
  have bm:Fb ((o.getD 0:Nat):Int)<=16777216:=by rw[<-j2];exact iG λy hy=>hbt y (Qn hy)
  have hcm:D6 (z.natAbs:Int) ((o.getD 0:Nat):Int)>0↔o.getD 0<z.natAbs:=by unfold D6;split <;> (try split) <;> omega
  have cc:Uk 142 [.agg (He (z.natAbs:Int)),.agg (ozr o)] [.oi (D6 (z.natAbs:Int) ((o.getD 0:Nat):Int))]:=by
   cases o with
   |none=>exact HH (U3 _) QR (by rw[QT];omega) (by decide)
   |some m=>exact HH (U3 _) (U3 _) (by rw[QT];omega) (Qa bm (by decide))
  by_cases hc:o.getD 0<z.natAbs
  ·rw[if_pos hc]at hst;have hd:decide (D6 (z.natAbs:Int) ((o.getD 0:Nat):Int)>0)=true:=by simpa using hcm.2 hc
   cases o <;> (refine Uf [.t hl1,.x (G6 (f:=He) hz),.k ca,.k cc,.t hd] rfl ?_;exact rd (i+1,some z.natAbs) (by dsimp only;omega) ⟨hlt,hst⟩ rfl)
  ·rw[if_neg hc]at hst;have hd:decide (D6 (z.natAbs:Int) ((o.getD 0:Nat):Int)>0)=false:=by
    have:=mt hcm.1 hc;simpa using this
   cases o with
   |none=>refine Uf [.t hl1,.x (G6 (f:=He) hz),.k ca,.k cc,.f hd] rfl ?_;exact rd (i+1,none) (by dsimp only;omega) ⟨hlt,hst⟩ rfl
   |some m=>refine Uf [.t hl1,.x (G6 (f:=He) hz),.k ca,.k cc,.f hd] rfl ?_;exact rd (i+1,some m) (by dsimp only;omega) ⟨hlt,hst⟩ rfl
 ·obtain rfl:i=p.length-1:=by omega
  rw[Qo (by omega)]at j2;have bl:Fb (Fo p)<=16777216:=hp.b _ (LX h0);have ln:((Fo p).natAbs:Int)≠0:=by have:=Ek hp.t h0;omega
  have cl:=Dq hp.t hp.ln hp.bd;have ca:=Qfl (U3 (Fo p)) (Qa bl (by decide));have bm:Fb ((o.getD 0:Nat):Int)<=16777216:=by rw[<-j2];exact iG hbt
  have cd:Uk 300 [.agg (He ((Fo p).natAbs:Int)),.agg (ozr o)] [.agg (He (((Fo p).natAbs:Int)+(most (p.take (p.length-1)):Int)))]:=by
   rw[j2];cases o with
   |none=>exact KH (U3 _) QR (by rw[QT];omega) (by decide)
   |some m=>exact KH (U3 _) (U3 _) (by rw[QT];omega) (Qa bm (by decide))
  have cm:=Qnv (n:=((Fo p).natAbs:Int)+(most (p.take (p.length-1)):Int)) ln (Qa (QS _ _) (by rw[QT,j2];omega)) (by rw[QT];omega);have hf:decide (((p.length-1:Nat):Int)<(((p.take (p.length-1)).map He).length:Int))=false:=by simp
  cases o <;> exact Ug [.f hf,.k cl,.k ca,.k cd,.k cm] rfl
theorem Qrr{z:Int}:Uk 387 [.agg (He z)] [.oi (Int.sign z)]:=by
 by_cases h0:z=0
 ·subst h0;exact Uh func387 rfl [.t (by simp[U6,G9])] rfl
 ·have hl:(Ga z.natAbs).length≠0:=λh=>h0 (Qco.1 h)
  have hl':decide (((lm (Ga z.natAbs)).length:Int)=0)=false:=by simpa[U6]using hl
  by_cases h1:z<0
  ·rw[J7 h1];exact Uh func387 rfl [.f hl',.t (by simpa using h1)] rfl
  ·rw[Yu (by omega)];exact Uh func387 rfl [.f hl',.f (by simpa using h1)] rfl
theorem Qej{p:Un}(hp:Pb p):Uk 415 [pr p] [.oi (ZG p),.oi (UE p)]:=by
 have hb:-1<=(Fo p).sign/\(Fo p).sign<=1:=by rcases Av (Fo p)with h|h|h <;> omega
 by_cases h:p.length % 2=0
 ·have e:ZG p=-(Fo p).sign:=by unfold ZG;rw[if_pos h]
  rw[e];exact Uh func415 rfl [.k (Hq hp.t hp.ln hp.bd),.k (Dq hp.t hp.ln hp.bd),.k Qrr,.t (by rw[Qai];simp[h])] rfl rfl (by simp[U0,Fo]at hb ⊢;omega)
 ·have e:ZG p=(Fo p).sign:=by unfold ZG;rw[if_neg h]
  rw[e];exact Uh func415 rfl [.k (Hq hp.t hp.ln hp.bd),.k (Dq hp.t hp.ln hp.bd),.k Qrr,.f (by rw[Qai];simp;omega)] rfl rfl (by simp[U0])
theorem Qfw{p:Un}(hp:Pb p):Uk 414 [pr p] [.oi (ZG p)]:=Uh func414 rfl [.k (Qej hp)] rfl
theorem Qnt{p:Un}(hp:Pb p):Uk 416 [pr p] [.oi (UE p)]:=Uh func416 rfl [.k (Qej hp)] rfl
theorem Qf7{q:Rat}(hq:Qs 4294967295 q):Uk 206 [.agg (rl q)] [.agg (rl (-q))]:=by
 exact Uh func206 rfl [.k (BI hq),.k (BW (U3 _) hq.1)] rfl
theorem wA{l:Uo}{fid:Nat}{sg:Un->Int}(hl:l.length≤1000)(hs:∀p,-1≤sg p/\sg p≤1)(h:∀p∈l,AS prog fid [pr p] [.oi (sg p)]):Uk 340 [.one (.sh [.row (S9 l)]),.one (.fn fid [] [])] [.oi (Cy sg l:Nat)]:=by
 have hpl:=E6 l;refine Fu func340 rfl ?_;refine Ue [] rfl ?_;refine Uj (S:=Nat) 0 (λL1 i=>(15,.v (.oi i))::(5,.v (.oi ((VB sg l i).1:Int)))::(6,.v (.one (.int .i64 (VB sg l i).2)))::L1) (λ_=>[]) (λi=>l.length-i) (λi=>i<=l.length) 0 (Qh _) rfl rfl λi hi=>?_
 by_cases hlt:i<l.length
 ·obtain⟨p,hp⟩:=gxE (l:=l) (i:=i) hlt;have hst:VB sg l (i+1)=Pq sg (VB sg l i) p:=Sf _ _ _ hp;obtain⟨b1,b2,b3⟩:=vD hs l i;have b4:=hs p;by_cases h0:sg p=0
  ·refine Uf [.t (by simp[hpl];omega),.x (Rl hp),.k (h p (Qc hp)),.t (by simpa using h0)] rfl ?_;exact rd (i+1) (by omega) hlt (by rw[hst,show Pq sg (VB sg l i) p=VB sg l i from by unfold Pq;rw[if_pos h0]];rfl)
  ·by_cases h1:(VB sg l i).2=-(sg p)
   ·refine Uf [.t (by simp[hpl];omega),.x (Rl hp),.k (h p (Qc hp)),.f (by simpa using h0),.t (by simpa using h1)] rfl ?_;exact rd (i+1) (by omega) hlt (by rw[hst,show Pq sg (VB sg l i) p=((VB sg l i).1+1,sg p) from by unfold Pq;rw[if_neg h0,if_pos h1]];rfl)
   ·refine Uf [.t (by simp[hpl];omega),.x (Rl hp),.k (h p (Qc hp)),.f (by simpa using h0),.f (by simpa using h1)] rfl ?_;exact rd (i+1) (by omega) hlt (by rw[hst,show Pq sg (VB sg l i) p=((VB sg l i).1,sg p) from by unfold Pq;rw[if_neg h0,if_neg h1]];rfl)
 ·obtain rfl:i=l.length:=by omega
  refine Ug [.f (by simp[hpl])] rfl ?_ trivial;unfold VB Cy;rw[List.take_length]
theorem HA(p:Un):(-1<=ZG p/\ZG p<=1)/\-1<=UE p/\UE p<=1:=by
 have hb:-1<=(Fo p).sign/\(Fo p).sign<=1:=by rcases Av (Fo p)with h|h|h <;> omega
 unfold ZG UE
 split <;> omega
theorem Qmr{l:Uo}(hl:l.length≤1000)(hp:∀p∈l,Pb p):Uk 407 [.one (.sh [.row (S9 l)])] [.oi (WS l)]:=by
 have c1:Uk 411 [.one (.sh [.row (S9 l)])] [.oi (Cy ZG l:Nat)] :=
  Uh func411 rfl [.k (wA hl (λp=>(HA p).1) λp h=>Qfw (hp p h))] rfl
 have c2:Uk 412 [.one (.sh [.row (S9 l)])] [.oi (Cy UE l:Nat)] :=
  Uh func412 rfl [.k (wA hl (λp=>(HA p).2) λp h=>Qnt (hp p h))] rfl
 have b1:Cy ZG l<=l.length:=Lp (λp=>(HA p).1) l;have b2:Cy UE l<=l.length:=Lp (λp=>(HA p).2) l;exact Uh func407 rfl [.k c1,.k c2] rfl rfl (by simp[U0];omega)
theorem pR{l:Uo}{lo hi:Rat}(hl:l.length<=1000):-1000<=To l lo hi/\To l lo hi<=1000:=by
 have b1:Cz l lo<=l.length:=Lp (λp=>Ot p lo) l;have b2:Cz l hi<=l.length:=Lp (λp=>Ot p hi) l;unfold To;split <;> omega
abbrev tal(l:List Tm):Ut:=l.map λt=>ta t
theorem NJ{p:Un}{c:Uo}(hp:Pb p):∀{k:Nat} {lo hi:Rat} {n:Int} {r:List Tm},Qb lo->Qb hi->Ii p c k lo hi n=some r->∀t∈r,Tb t
 | 0,_,_,_,_,_,_,h=>by cases h
 |
  k+1,lo,hi,n,r,hl,hh,h=>by
  simp only[Ii]at h
  split at h
  ·injection h with h;subst h;exact λt ht=>by cases ht
  ·split at h
   ·injection h with h;subst h;intro t ht;rw[Qk.1 ht];exact⟨hp,hl,hh⟩
   ·obtain⟨m,hm,h⟩:=Qd.1 h;obtain⟨rfl,qm⟩:=CX hm;obtain⟨x,hx,h⟩:=Qd.1 h;obtain⟨y,hy,h⟩:=Qd.1 h;injection h with h;subst h;intro t ht;rcases Qr.1 ht with ht|ht
    ·exact NJ hp hl qm hx t ht
    ·exact NJ hp qm hh hy t ht
theorem Qwj(l:List Tm):∀c∈tal l,c.length=9:=λc hc=>by obtain⟨t,_,rfl⟩:=Za.1 hc;rfl
theorem mW{p:Un}{c:Uo}(hp:Pb p)(hcl:c.length≤1000)(hc:∀q∈c,Pb q):∀{k:Nat} {lo hi:Rat} {n:Int} {r:List Tm},Qb lo->Qb hi->k≤100000->-(1000*(100001-k:Nat))≤n/\n≤1000*(100001-k:Nat)->Ii p c k lo hi n=some r->r.length≤1000000->U5 prog 406 [pr p,.one (.sh [.row (S9 c)]),.agg (rl lo),.agg (rl hi),.oi n] [] [.one (.orow 0 9 none)] [.row false 105 9 (tal r)]
 | 0,_,_,_,_,_,_,_,_,h,_=>by cases h
 |
  k+1,lo,hi,n,r,hl,hh,hk,hn,h,hr=>by
  simp only[Ii]at h
  split at h
  ·rename_i h0;injection h with h;subst h;refine Fu func406 rfl ?_;exact Ui [] [2] [.t (by simpa using h0),.o 10 105 9] rfl
  ·rename_i h0
   split at h
   ·rename_i h1;injection h with h;subst h;refine Fu func406 rfl ?_;exact Ui [] [2] [.f (by simpa using h0),.t (by simpa using h1),.k (Hq hp.t hp.ln hp.bd),.k (Ns hl.s32),.k (Ns hh.s32),.lo] rfl
   ·rename_i h1;obtain⟨m,hm,h⟩:=Qd.1 h;obtain⟨rfl,qm⟩:=CX hm;obtain⟨x,hx,h⟩:=Qd.1 h;obtain⟨y,hy,h⟩:=Qd.1 h;injection h with h;subst h;have hb:=pR (l:=c) (lo:=lo) (hi:=mid lo hi) hcl;rw[Qy]at hr;have c1:=mW hp hcl hc hl qm (by omega) (by omega) hx (by omega);have c2:=mW hp hcl hc qm hh (by omega) (by omega) hy (by omega);rw[show tal (x++y)=tal x++tal y from Yh];refine Fu func406 rfl ?_;exact Ui [] [3] [.f (by simpa using h0),.f (by simpa using h1),.k (Qrp hl hh),.k (IF hcl hc hl qm),.c [3] c1,.c [4] c2,.s (Qwj y)] rfl (by simp[U0];omega)
theorem Qm6{p:Un}{r:List Tm}(hp:Pb p)(h:SO p=some r)(hr:r.length<=1000000):Uk 403 [pr p] [.one (tas r),.oi 0]:=by
 unfold SO at h;obtain⟨c,h1,h⟩:=Qd.1 h;obtain⟨q,h2,h⟩:=Qd.1 h;obtain⟨b,h3,h⟩:=Qd.1 h;obtain⟨rfl,hb⟩:=CX h3;obtain⟨k1,k2⟩:=chain_ok hp h1;have hq:=RE hp h2;have q0:q.length≠0:=by
  unfold L9 at h1;obtain⟨a,a1,h1⟩:=Qd.1 h1;rw[h2]at a1;injection a1 with a1;subst a1
  split at h1
  ·cases h1
  ·assumption
 have qn:Qb (-Gw q):=⟨by rw[Rat.neg_num,Hj];exact hb.1,by rw[Rat.neg_den];exact hb.2⟩;have bb1:Cy ZG c<=c.length:=Lp (λp=>(HA p).1) c;have bb2:Cy UE c<=c.length:=Lp (λp=>(HA p).2) c;have hn:-(1000*(100001-100000:Nat):Int)<=WS c/\WS c<=1000*(100001-100000:Nat):=by unfold WS;omega
 have cr:=mW hq (by omega) k2 qn hb (Ql _) hn h hr;refine Fu func403 rfl ?_;exact Ui [1] [] [.k (Qfc hp h1),.f rfl,.k (BR hp h2),.k (Qmq hq q0),.k (Qf7 hb.s32),.k (Qmr (by omega) k2),.c [1] cr] rfl
def Uz(l:List Pt):Ut:=l.map Fa
theorem S4{l:List Pt}{i:Nat}{c:Pt}(h:l[i]? = some c):(Uz l)[i]? = some (Fa c):=G6 h
theorem G0(l:List Pt):(Uz l).length=l.length:=by simp[Uz]
theorem YO(l:List Pt):∀c∈Uz l,c.length=5:=λc hc=>by
 obtain⟨x,_,rfl⟩:=Za.1 hc;rfl
abbrev zPt:Us:=[.nils,.nils,.bool false,.nils,.int .i64 0]
theorem aS{lt:Pt->Pt->Bool}{O:List Pt}{z:Us}{c:Pt}{k m:Nat}{l2:Ut}(hk:k<=O.length)(hp:Lx lt O c O.length=k)(hm:m=O.length-k)(h2:l2.take m=((Uz O++[z]).drop k).take m) :
 ((Uz O++[z]).take (k+1)++(l2.take m++(Uz O++[z]).drop (k+1+m))).set k (Fa c)=Uz (Lr lt O c):=by
 rw[h2,<-Zd,fP (Uz O) z (Fa c) (by rw[G0];omega) (by rw[G0];omega)];simp[Lr,hp,Uz,Jw,Vh]
def Ty(t:Tm)(l:List Pt):List Pt:=Ed (Ts (Fp t)) l
theorem wT{l:List Pt}{t:Tm}(hl:∀p∈l,Sc p.c)(hn:l.length≤1000000)(ht:Va t):Uk 251 [.agg (ta t),.one (pts l)] [.one (pts (Ty t l))]:=by
 have hcl:=G0 l;show Uk 251 [.agg (ta t),.one (.row (Uz l))] [.one (.row (Uz (Ty t l)))];obtain⟨lt,hlt0⟩:=nmE (Ts (Fp t));unfold Ty;rw[<-hlt0];refine Fu func251 rfl ?_;refine Ue [.o 5 40 5] rfl ?_;refine Uj (S:=Nat) 2 (λL1 i=>(11,.v (.oi i))::(5,.v (.one (.orow 1 5 none)))::L1) (λi=>[.blk 105 (ta t),.row false 40 5 (Uz (Ed lt (l.take i)))]) (λi=>l.length-i) (λi=>i<=l.length) 0 (Qh _) rfl rfl λi hi=>?_
 by_cases hlt:i<l.length
 ·obtain⟨c,hc⟩:=gxE (l:=l) (i:=i) hlt;have hst:Ed lt (l.take (i+1))=Lr lt (Ed lt (l.take i)) c:=dY hc;have hcp:=hl c (Qc hc);obtain⟨O,hO⟩:=nmE (Ed lt (l.take i));have hOl:O.length=i:=by rw[hO,zC,Qq];omega
  have hOm:∀x∈O,Sc x.c:=λx hx=>by rw[hO,Qdd]at hx;exact hl x (Qn hx)
  rw[<-hO]at hst ⊢;refine Ue [.t (by simp[hcl];omega),.x (S4 hc)] rfl ?_;refine Uj (S:=Nat) 3 (λL1 k=>(8,.v (.oi k))::L1) (λk=>[.blk 105 (ta t),.row false 40 5 (Uz O),.blk 40 (Fa c)]) id (λk=>k<=O.length/\Lx lt O c k=Lx lt O c O.length) (Uz O).length ⟨by rw[G0];exact Ql _,by rw[G0]⟩ rfl rfl λk ⟨hk,hp⟩=>?_
  have hz:∀y∈[zPt],y.length=5:=λy hy=>by rw[Qk.1 hy];rfl
  have h77:∀y∈Uz O++[zPt],y.length=5:=λy hy=>by
   rcases Qr.1 hy with hy|hy
   ·exact YO O y hy
   ·exact hz y hy
  cases k with
  |
   zero =>
   have hp:Lx lt O c O.length=0:=by rw[<-hp];rfl
   refine go tt [.g 19 false (by simp),.f rfl,.s (sz:=5) hz,.r 37 (eI (b:=((0+1:Nat):Int)) (by simp)),.i (0+1),.i (0),.s (sz:=5) (λy hy=>h77 y (Qn hy)),.i (O.length),.i (0)] rfl (by simp[U0,G0];omega) ?_;exact rd (i+1) (by omega) hlt (by rw[hst,<-aS (z:=zPt) (l2:=(Uz O++[zPt]).take ((Uz O++[zPt]).length-0)) (k:=0) (m:=O.length) (by omega) hp (by omega) (by congr 1;exact Qo (by simp))];rfl)
  |
   succ k =>
   obtain⟨x,hx⟩:=gxE (l:=O) (i:=k) (by omega);have cb:=Qed hcp (hOm x (Qc hx)) ht;rw[<-hlt0]at cb;by_cases hlc:lt c x=true
   ·refine go tt [.g 19 true (by simp),.r 23 (eI (b:=(k:Int)) (by simp)),.i k,.x (S4 hx),.k cb,.t hlc,.r 30 (eI (b:=(k:Int)) (by simp))] rfl (by simp[U0,G0];omega) ?_;exact rd k (by simp) ⟨by omega,by rw[<-hp,oV hx hlc]⟩ rfl
   ·have hlc:lt c x=false:=by simpa using hlc
    have hp:Lx lt O c O.length=k+1:=by rw[<-hp,rS hx hlc]
    refine go tt [.g 19 true (by simp),.r 23 (eI (b:=(k:Int)) (by simp)),.i k,.x (S4 hx),.k cb,.f hlc,.s (sz:=5) hz,.r 37 (eI (b:=((k+1+1:Nat):Int)) (by simp)),.i (k+1+1),.i (k+1),.s (sz:=5) (λy hy=>h77 y (Qz (Qn hy))),.i (O.length-(k+1)),.i (k+1)] rfl (by simp[U0,G0];omega) ?_;exact rd (i+1) (by omega) hlt (by rw[hst,<-aS (z:=zPt) (l2:=((Uz O++[zPt]).drop (k+1)).take ((Uz O++[zPt]).length-(k+1))) (k:=k+1) (m:=O.length-(k+1)) (by omega) hp (by omega) (by congr 1;exact Qo (by simp))];rfl)
 ·obtain rfl:i=l.length:=by omega
  rw[Q6];exact Ug [.f (by simp[hcl])] rfl
def S5(sg:Un->Int):List Pt->List Ct
 |a::b::l=>QC sg a b::S5 sg (b::l)
 |_=>[]
theorem Bw(sg:Un->Int):∀l:List Pt,(S5 sg l).length=l.length-1
 | []=>rfl
 | [_]=>rfl
 |a::b::l=>by simp only[S5,Q5,Bw sg (b::l)];omega
theorem TK(sg:Un->Int):∀{l:List Pt} {i:Nat} {a b:Pt},l[i]? = some a->l[i+1]? = some b->(S5 sg l).take (i+1)=(S5 sg l).take i++[QC sg a b]
 | [],i,a,b,h,_=>by simp at h
 | [x],i,a,b,_,h=>by cases i <;> simp at h
 |x::y::l,0,a,b,h1,h2=>by simp at h1 h2;subst h1;subst h2;simp[S5]
 |
  x::y::l,i+1,a,b,h1,h2=>by
  have ih:=TK sg (l:=y::l) (i:=i) (a:=a) (b:=b) (by simpa using h1) (by simpa using h2);simp only[S5,Ve]at ih ⊢;rw[ih];rfl
theorem BH{l:List Pt}{t:Tm}(hl:∀p∈l,Sc p.c)(hn:l.length≤1000000)(ht:Va t):Uk 253 [.agg (ta t),.one (pts l)] [.one (.row (Fj (S5 (Fp t) l)))]:=by
 have hcl:=G0 l;show Uk 253 [.agg (ta t),.one (.row (Uz l))] [.one (.row (Fj (S5 (Fp t) l)))];refine Fu func253 rfl ?_;refine Ue [.o 5 99 7] rfl ?_;refine Uj (S:=Nat) 2 (λL1 i=>(6,.v (.oi ((i+1:Nat):Int)))::(5,.v (.one (.orow 1 7 none)))::L1) (λi=>[.blk 105 (ta t),.row false 99 7 (Fj ((S5 (Fp t) l).take i))]) (λi=>l.length-i) (λi=>i<=l.length-1) 0 (Qh _) rfl rfl λi hi=>?_
 by_cases hlt:i+1<l.length
 ·obtain⟨a,ha⟩:=gxE (l:=l) (i:=i) (by omega);obtain⟨b,hb⟩:=gxE (l:=l) (i:=i+1) hlt;have hg:=TK (Fp t) ha hb;have hm:∀y∈[Lu (QC (Fp t) a b)],y.length=7:=λy hy=>by rw[Qk.1 hy];rfl
  refine go tt [.t (by simp[hcl];omega),.r 19 (eI (b:=(i:Int)) (by simp)),.x (S4 ha),.x (S4 hb),.k (lW (hl a (Qc ha)) (hl b (Qc hb)) ht),.s (sz:=7) hm,.r 14 (eI (b:=((i+1+1:Nat):Int)) (by simp))] rfl (by simp[U0,G0,Nx,Bw];omega) ?_;exact rd (i+1) (by omega) (by omega) (by rw[hg];simp[Fj];rfl)
 ·have e:(S5 (Fp t) l).take i=S5 (Fp t) l:=Qo (by rw[Bw];omega);rw[e];exact Ug [.f (by simp[hcl];omega)] rfl
theorem Qm8:Uk 281 [pr []] [.one .nilp,.oi 2]:=by
 have h:Pk []=some []:=rfl;exact Uh func281 rfl [.k (BR RL h),.t rfl] rfl
theorem Qfa:Uk 403 [pr []] [.one (.row []),.oi 2] :=
 Uh func403 rfl [.k Qm8,.t rfl] rfl
theorem Qvp{a o:Un}(ha:Pb a)(h:bE a=some o):Pb o:=by
 unfold bE at h
 split at h
 ·injection h with h;subst h;exact RL
 ·obtain⟨l,hl,h⟩:=Qd.1 h;obtain⟨fs,hf,h⟩:=Qd.1 h;exact YD Qji (jS (MD (Ry ha) hl).2 hf) h
theorem Qek{p:Un}{l:List Tm}(hp:Pb p)(h:WC p=some l)(hl:l.length<=1000000):Uk 402 [pr p] [.one (tas l)]:=by
 unfold WC at h;obtain⟨q,hq,h⟩:=Qd.1 h;have qp:=Qvp hp hq;have co:=Qxs hp hq
 split at h
 ·rename_i h0;injection h with h;subst h;obtain rfl:=Qj h0;exact Uh func402 rfl [.k co,.k Qfa,.t rfl] rfl
 ·exact Uh func402 rfl [.k co,.k (Qm6 qp h hl),.f rfl] rfl
def ota:Option Tm->Us
 |none=>zTr
 |some t=>ta t
theorem Qmv{p:Un}{a:Tm}{l:List Tm}{r:Option Tm}(hp:Pb p)(ha:Tb a)(h:WC p=some l)(hl:l.length≤1000000)(ht:∀t∈l,Tb t)(hr:VI a l=some r):Uk 401 [pr p,.agg (ta a)] [.agg (ota r),.one (.bool r.isSome)]:=by
 have hll:(l.map λt=>ta t).length=l.length:=by simp
 refine Fu func401 rfl ?_;refine Ue [.k (Qek hp h hl)] rfl ?_;refine Uj (S:=Nat) 2 (λL1 i=>(11,.v (.oi i))::L1) (λ_=>[.blk 105 (ta a),.blk 105 zTm]) (λi=>l.length-i) (λi=>i<=l.length/\VI a (l.drop i)=some r) 0 ⟨Qh _,hr⟩ rfl rfl λi ⟨hi,hf⟩=>?_
 by_cases hlt:i<l.length
 ·obtain⟨t,hx⟩:=gxE (l:=l) (i:=i) hlt;have hdr:l.drop i=t::l.drop (i+1):=by
   rw[Zp hlt];congr 1;have:=Qe hlt;rw[hx]at this;injection this with this;exact this.symm
  rw[hdr]at hf;simp only[VI]at hf;obtain⟨c,c1,hf⟩:=Qd.1 hf;have cc:=KW (ht t (Qc hx)) ha c1;by_cases hc:0<c
  ·rw[if_pos hc]at hf;injection hf with hf;subst hf;exact Ug [.t (by simp;omega),.x (NT hx),.k cc,.t (by simpa using hc)] rfl
  ·rw[if_neg hc]at hf;refine Uf [.t (by simp;omega),.x (NT hx),.k cc,.f (by simpa using hc)] rfl ?_;exact rd (i+1) (by omega) ⟨hlt,hf⟩ rfl
 ·obtain rfl:i=l.length:=by omega
  rw[Yt]at hf;simp only[VI]at hf;injection hf with hf;subst hf;exact Ug [.f (by simp)] rfl
def Ob(now:Tm):List Wt->Option (List Wt)
 | []=>some []
 |w::l=>(if w.known=true then some w else(SC w.c.p now).bind λr=>some ⟨w.c,true,r⟩).bind λw'=>(Ob now l).bind λr=>some (w'::r)
theorem YB{now:Tm}:∀{l ws:List Wt},Ob now l=some ws->ws.length=l.length/\∀(i:Nat) (w:Wt),l[i]? = some w->∃v,ws[i]? = some v/\(w.known=true/\v=w\/w.known=false/\∃r,SC w.c.p now=some r/\v=⟨w.c,true,r⟩)
 | [],ws,h=>by injection h with h;subst h;exact⟨rfl,λi x hx=>by simp at hx⟩
 |
  y::l,ws,h=>by
  simp only[Ob]at h;obtain⟨v,hv,h⟩:=Qd.1 h;obtain⟨r,hr,h⟩:=Qd.1 h;injection h with h;subst h;obtain⟨a,b⟩:=YB hr;refine⟨by simp[a],λi x hx=>?_⟩;cases i with
  |
   zero =>
   injection hx with hx;subst hx;refine⟨v,rfl,?_⟩
   split at hv
   ·rename_i hk;injection hv with hv;exact .inl ⟨hk,hv.symm⟩
   ·rename_i hk;obtain⟨q,hq,hv⟩:=Qd.1 hv;injection hv with hv;exact .inr ⟨by simpa using hk,q,hq,hv.symm⟩
  |succ i=>exact b i x (by simpa using hx)
theorem wU{p:Un}{a:Tm}{r:Option Tm}(hp:Cp p)(ha:Va a)(h:SC p a=some r):Uk 401 [pr p,.agg (ta a)] [.agg (ota r),.one (.bool r.isSome)]:=by
 obtain⟨l,l1,l2,l3,_⟩:=JL hp;unfold SC at h;rw[l1]at h;exact Qmv (Dp.pb hp.dp) ha.tb l1 (by omega) (λt ht=>(l3 t ht).tb) h
theorem Qmy{T:Nat}{c:Cr}{r0 r1:Ut}{ws:List Wt}(hc:CrOk c)(h:Ob c.now c.l=some ws):U5 prog 395 [.one (.ow 0 0)] [.blk T (Hl c r0 r1)] [] [.blk T (Hl { c with l:=ws } r0 r1)]:=by
 have hk:=hc.k;have hw:=Sw c.l;obtain⟨h1,h2⟩:=YB h;refine Fu func395 rfl ?_;refine Ue [.o 2 352 18,.c [0] (QZ hc.n)] rfl ?_;refine Uj (S:=Nat) 3 (λL1 i=>(13,.v (.oi i))::(2,.v (.one (.orow 1 18 none)))::L1) (λi=>[.blk T (Hl c r0 r1),.row false 352 18 (C6 (ws.take i)),.blk 105 (ta c.now)]) (λi=>c.l.length-i) (λi=>i<=c.l.length) 0 (Qh _) rfl rfl λi hi=>?_
 by_cases hlt:i<c.l.length
 ·obtain⟨w,hx⟩:=gxE (l:=c.l) (i:=i) hlt;obtain⟨v,hv,h3⟩:=h2 i w hx;have hm:∀y∈[wl v],y.length=18:=λy hy=>by rw[Qk.1 hy];rfl
  have hg:=E9 hv;have hl:decide ((i:Int)<((C6 c.l).length:Int))=true:=by simp[hw];omega
  rcases h3 with⟨k1,rfl⟩|⟨k1,r,k2,rfl⟩
  ·obtain⟨vc,vk,vf⟩:=v;cases vf <;> (refine go tt [.t hl,.x (Hy hx),.f (by rw[show vk=true from k1];rfl),.s (sz:=18) hm] rfl (by simp[U0,Sw];omega) ?_;exact rd (i+1) (by omega) hlt (by rw[hg];rfl))
  ·have cg:=wU (hc.l w (Qc hx)).p hc.n k2;obtain⟨wc,wk,wf⟩:=w;cases r <;> cases wf <;> (refine go tt [.t hl,.x (Hy hx),.t (by rw[show wk=false from k1];rfl),.k cg,.s (sz:=18) hm] rfl (by simp[U0,Sw];omega) ?_;exact rd (i+1) (by omega) hlt (by rw[hg];rfl))
 ·obtain rfl:i=c.l.length:=by omega
  rw[<-h1,Q6];exact Ui [1] [0] [.f (by simp[hw,h1])] rfl
def IZ(ws:List Wt):Option (Option Tm):=match ws.filterMap (·.fails)with
 | []=>some none
 |b::l=>(QP b l).map some
theorem El{c:Cr}{ws:List Wt}(hc:CrOk c)(h:Ob c.now c.l=some ws):CrOk { c with l:=ws }:=by
 obtain⟨h1,h2⟩:=YB h;refine⟨hc.n,λv hv=>?_,by show ws.length<=1000;rw[h1];exact hc.k⟩;obtain⟨i,hi⟩:=Xu hv;have hil:i<c.l.length:=by rw[<-h1];exact(Qf.1 hi).1
 obtain⟨v',h3,h4⟩:=h2 i _ (Qe hil);rw[hi]at h3;injection h3 with h3;subst h3;have hw:=hc.l _ (Xs hil);rcases h4 with⟨_,rfl⟩|⟨_,r,k2,rfl⟩
 ·exact hw
 ·obtain⟨r',r1,r2⟩:=Qi3 hw.p hc.n;rw[k2]at r1;injection r1 with r1;subst r1;refine⟨hw.p,λt ht=>?_⟩;have ht:r=some t:=ht;subst ht;exact r2.2.1
theorem MX{T:Nat}{c:Cr}{r0 r1:Ut}{ws:List Wt}{r:Option Tm}(hc:CrOk c)(h:Ob c.now c.l=some ws)(hr:IZ ws=some r):U5 prog 392 [.one (.ow 0 0)] [.blk T (Hl c r0 r1)] [.agg (ota r),.one (.bool r.isSome)] [.blk T (Hl { c with l:=ws } r0 r1)]:=by
 have hcl:=Qmy (T:=T) (r0:=r0) (r1:=r1) hc h;have hc':=El hc h;have hk:=hc'.k;have hw:=Sw ws;have hvb:∀t∈ws.filterMap (·.fails),Tb t:=λt ht=>by
  obtain⟨w,w1,w2⟩:=Ji.1 ht;exact((hc'.l w w1).f t w2).tb
 refine Fu func392 rfl ?_;refine Ue [.c [0] hcl,.o 4 105 9] rfl ?_;refine Uj (S:=Nat) 3 (λL1 i=>(14,.v (.oi i))::(4,.v (.one (.orow 2 9 none)))::L1) (λi=>[.blk T (Hl { c with l:=ws } r0 r1),.blk 105 zTm,.row false 105 9 (tal ((ws.take i).filterMap (·.fails)))]) (λi=>ws.length-i) (λi=>i<=ws.length) 0 (Qh _) rfl rfl λi hi=>?_
 by_cases hlt:i<ws.length
 ·obtain⟨w,hx⟩:=gxE (l:=ws) (i:=i) hlt;have hl:decide ((i:Int)<((C6 ws).length:Int))=true:=by simp[hw];omega
  have hfl:((ws.take i).filterMap (·.fails)).length<=i:=Qa (Vb _ _) (by rw[Qq];omega);have hg:(ws.take (i+1)).filterMap (·.fails)=(ws.take i).filterMap (·.fails)++(match w.fails with|none=>[]|some t=>[t]):=by
   rw[Z2,hx,List.filterMap_append];show _++List.filterMap (·.fails) [w]=_;cases hwf:w.fails <;> simp[hwf]
  obtain⟨wc,wk,wf⟩:=w;have hk:ws.length<=1000:=hk;cases wf with
  |
   none =>
   refine Uf [.t hl,.x (Hy hx),.f rfl] rfl ?_;exact rd (i+1) (by omega) hlt (by rw[hg];simp;rfl)
  |
   some t =>
   refine Uf [.t hl,.x (Hy hx),.t rfl,.s (l:=[ta t]) (sz:=9) (λc hc=>by rw[Qk.1 hc];rfl)] rfl ?_;exact rd (i+1) (by omega) hlt (by rw[hg];simp[tal];rfl)
 ·obtain rfl:i=ws.length:=by omega
  rw[Q6];have hf:decide ((ws.length:Int)<((C6 ws).length:Int))=false:=by simp[hw]
  have hln:(ws.filterMap (·.fails)).length<=1000:=Qa (Vb _ _) hk;unfold IZ at hr;cases hfm:ws.filterMap (·.fails)with
  |
   nil =>
   rw[hfm]at hr;injection hr with hr;subst hr;exact Ui [] [0] [.f hf,.p 2,.k wF] rfl
  |
   cons b l =>
   rw[hfm]at hr hvb hln;obtain⟨m,m1,rfl⟩:=Yx.1 hr;have cl:=S7 (hvb b (Qx ..)) (λt ht=>hvb t (Qg _ ht)) (by simp at hln;omega) m1;exact Ui [] [0] [.f hf,.p 2,.k cl] rfl
theorem LZ{at_:Tm}{x:Ct}:∀{l:List Wt} {w:Wt},Ci l x at_=some w->w=fresh x\/∃v∈l,v.known=true/\v.c.p=x.p/\w=⟨x,true,v.fails⟩/\∀t,v.fails=some t->∃c,UR t at_=some c/\0<c
 | [],w,h=>by simp only[Ci]at h;injection h with h;exact .inl h.symm
 |
  v::l,w,h=>by
  simp only[Ci]at h;have tl:Ci l x at_=some w->w=fresh x\/∃v'∈v::l,v'.known=true/\v'.c.p=x.p/\w=⟨x,true,v'.fails⟩/\∀t,v'.fails=some t->∃c,UR t at_=some c/\0<c:=λh=>by
   rcases LZ h with h|⟨v',h1,h2⟩
   ·exact .inl h
   ·exact .inr ⟨v',Qg _ h1,h2⟩
  split at h
  ·rename_i hk;cases hf:v.fails with
   |
    none =>
    rw[hf]at h;injection h with h;exact .inr ⟨v,Qx ..,hk.2.1,hk.2.2,by rw[hf];exact h.symm,λt ht=>by rw[hf]at ht;cases ht⟩
   |
    some t =>
    rw[hf]at h;obtain⟨c,c1,h⟩:=Qd.1 h
    split at h
    ·rename_i h0;injection h with h;exact .inr ⟨v,Qx ..,hk.2.1,hk.2.2,by rw[hf];exact h.symm,λu hu=>by rw[hf]at hu;injection hu with hu;subst hu;exact⟨c,c1,h0⟩⟩
    ·exact tl h
  ·exact tl h
theorem lay_ok{c:Cr}{at_:Tm}{l:List Ct}{ws:List Wt}(ev:Int)(hc:CrOk c)(ha:Va at_)(hl:∀x∈l,Cp x.p)(hn:l.length≤1000)(h:Tj c.l at_ (Fv l)=some ws):CrOk ⟨at_,ws,ev⟩:=by
 obtain⟨h1,h2⟩:=XM h;refine⟨ha,λw hw=>?_,by show ws.length<=1000;rw[h1,Dn];exact hn⟩;obtain⟨i,hi⟩:=Xu hw;have hil:i<(Fv l).length:=by rw[<-h1];exact(Qf.1 hi).1
 obtain⟨v,h3,h4⟩:=h2 i _ (Qe hil);rw[hi]at h4;injection h4 with h4;subst h4;have hx:=hl _ (VJ (Xs hil));rcases LZ h3 with e|⟨v,v1,_,v3,e,_⟩
 ·rw[e];exact⟨hx,λt ht=>by cases ht⟩
 ·rw[e];exact⟨hx,λt ht=>(hc.l v v1).f t ht⟩
def WI{β:Type}(Bc:Tm->List Ct)(Br:Tm->β)(t:Rat):Nat->Cr->β->Int->Option (Cr×β×Int)
 | 0,_,_,_=>none
 |
  k+1,c,r,n=>(Ob c.now c.l).bind λws=>(IZ ws).bind λo=>match o with
  |none=>some (⟨tq t,ws,c.ev⟩,r,n)
  |some a=>if 0<Fl a t then some (⟨tq t,ws,c.ev⟩,r,n)else(Tj ws a (Fv (Bc a))).bind λw2=>WI Bc Br t k ⟨a,w2,c.ev+1⟩ (Br a) (n+1)
theorem Qi7{ws:List Wt}{a:Tm}(h:IZ ws=some (some a))(hv:∀t∈ws.filterMap (·.fails),Va t):a∈ws.filterMap (·.fails)/\∀t∈ws.filterMap (·.fails),¬Mb t a:=by
 unfold IZ at h;cases hf:ws.filterMap (·.fails)with
 |nil=>rw[hf]at h;injection h with h;cases h
 |
  cons b l =>
  rw[hf]at h hv;obtain⟨m,m1,m2⟩:=Yx.1 h;injection m2 with m2;subst m2;obtain⟨m',n1,n2,n3⟩:=RH l b hv;rw[m1]at n1;injection n1 with n1;subst n1;exact⟨n2,n3⟩
theorem LP{c:Cr}{ws:List Wt}{a:Tm}(hc:CrOk c)(h:Ob c.now c.l=some ws)(hr:IZ ws=some (some a)):Va a:=by
 have hc':=El hc h;have hv:∀t∈ws.filterMap (·.fails),Va t:=λt ht=>by
  obtain⟨w,w1,w2⟩:=Ji.1 ht;exact(hc'.l w w1).f t w2
 exact hv a (Qi7 hr hv).1
structure BuildOk(Bc:Tm->List Ct):Prop where
 p:∀a,Va a->∀x∈Bc a,Cp x.p
 n:∀a,Va a->(Bc a).length<=1000
theorem Qxq{T:Nat}{t:Rat}{Bc:Tm->List Ct}{Br:Tm->Ut}{r0:Ut}(ht:Qs 1640000 t)(hB:BuildOk Bc)
 (hb:∀a c r1,Va a->CrOk c->U5 prog 195 [.one (.ow 0 0),.agg (ta a)] [.blk T (Hl c r0 r1)] [.one (.row (Fj (Bc a)))] [.blk T (Hl c r0 (Br a))])
 {K:Nat} {c c':Cr} {r1 r1':Ut} {n:Int} (hc:CrOk c) (hev:0<=c.ev/\c.ev+K<=1000000000000000000) (h:Fl c.now t<=0) (hg:WI Bc Br t K c r1 0=some (c',r1',n)) :
 U5 prog 396 [.one (.ow 0 0),.agg (rl t),.one (.ofn 195 [.ow 0 0] [])] [.blk T (Hl c r0 r1)] [.oi n,.oi 0] [.blk T (Hl c' r0 r1')]:=by
 have qt:Qb t:=ht.mono (by decide);have c1:=De hc.n.tb qt;refine Fu func396 rfl ?_;refine Ue [.c [0] (QZ hc.n),.k c1,.f (by simpa using h)] rfl ?_;refine Uj (S:=Nat×Cr×Ut×Int) 2 (λL1 s=>(8,.v (.oi s.2.2.2))::L1) (λs=>[.blk T (Hl s.2.1 r0 s.2.2.1),.blk 42 (rl t)]) (λs=>s.1) (λs=>CrOk s.2.1/\(0<=s.2.1.ev/\s.2.1.ev+s.1<=1000000000000000000)/\(0<=s.2.2.2/\s.2.2.2+s.1<=1000000000000000000)/\WI Bc Br t s.1 s.2.1 s.2.2.1 s.2.2.2=some (c',r1',n)) (K,c,r1,0) ⟨hc,hev,⟨Int.le_refl 0,by dsimp only;omega⟩,hg⟩ rfl rfl λ⟨k,x,r,m⟩ ⟨j1,j2,j3,j4⟩=>?_
 dsimp only at j1 j2 j3 j4 ⊢;cases k with
 |zero=>cases j4
 |
  succ k =>
  simp only[WI]at j4;obtain⟨ws,w1,j4⟩:=Qd.1 j4;obtain⟨o,o1,j4⟩:=Qd.1 j4;have cn:=MX (T:=T) (r0:=r0) (r1:=r) j1 w1 o1;have ca:=VL (U3 t.num) (U3 (t.den:Int)) (Qa ht.1 (by decide)) (Qa ht.2 (by decide)) (by rw[Tq];exact ht.mono (by decide));rw[Tq]at ca;cases o with
  |
   none =>
   injection j4 with j4;injection j4 with e1 j4;injection j4 with e2 e3;subst e1;subst e2;subst e3;exact Ui [] [0] [.c [0] cn,.g 25 true rfl,.t rfl,.k ca] rfl
  |
   some a =>
   have ha:=LP j1 w1 o1;dsimp only at j4;have cc:=De ha.tb qt;by_cases h0:0<Fl a t
   ·rw[if_pos h0]at j4;injection j4 with j4;injection j4 with e1 j4;injection j4 with e2 e3;subst e1;subst e2;subst e3;exact Ui [] [0] [.c [0] cn,.g 25 false rfl,.k cc,.t (by simpa using h0),.k ca] rfl
   ·rw[if_neg h0]at j4;obtain⟨w2,l1,j4⟩:=Qd.1 j4;have j1':=El j1 w1;have cl:=S7 (b:=a) (l:=[]) ha.tb (λt ht=>by cases ht) (by decide) rfl;have cb:=hb a { x with l:=ws } r ha j1';have cy:=UY (T:=T) (r0:=r0) (r1:=Br a) j1' ha (hB.p a ha) (hB.n a ha) l1;have hf:decide (0<Fl a t)=false:=by simpa using h0
    refine Uf [.c [0] cn,.g 25 false rfl,.k cc,.f hf,.k cl,.c [0] cb,.c [0] cy] rfl ?_;exact rd (k,⟨a,w2,x.ev+1⟩,Br a,m+1) (by dsimp only;omega) ⟨lay_ok _ j1' ha (hB.p a ha) (hB.n a ha) l1,by dsimp only;omega,by dsimp only;omega,j4⟩ rfl
theorem YJ{T:Nat}{c:Cr}{r0 r1:Ut}:U5 prog 391 [.one (.ow 0 0)] [.blk T (Hl c r0 r1)] [.oi c.ev] [.blk T (Hl c r0 r1)]:=by
 refine Fu func391 rfl ?_;exact Ui [] [0] [] rfl
end Orr
namespace Orq
open Orr Go
theorem Qyl{a b c:Tm}(hb:Cut (Fl b))(hc:Cut (Fl c))(h:Mb a b)(h':Mb b c):Mb a c:=by
 obtain⟨q,q1,q2⟩:=h;obtain⟨r,r1,r2⟩:=h';exact⟨q,q1,hc.mono' (hb.lt q2 r1) (by omega)⟩
theorem RP{a b:Tm}(ha:Cut (Fl a))(hb:Cut (Fl b))(h:¬Mb b a):Leq a (Fl b):=λq hq=>by
 rcases ha.val q with e|e|e
 ·exact absurd ⟨q,hq,e⟩ h
 ·obtain⟨r,r1,r2⟩:=hb.dn q hq;exact absurd ⟨r,r2,ha.mono' r1 (by omega)⟩ h
 ·exact e
theorem aI{a b c:Tm}(_:Cut (Fl a))(hb:Cut (Fl b))(hc:Cut (Fl c))(h:Mb a b)(h':¬Mb c b):Mb a c:=by
 obtain⟨q,q1,q2⟩:=h;refine⟨q,q1,?_⟩;have hl:=RP hb hc h';rcases hc.val q with e|e|e
 ·exact e
 ·obtain⟨r,r1,r2⟩:=hb.up q q2;have h1:=hc.mono q r r1 (by omega);have:=hl r h1;omega
 ·have:=hl q e;omega
theorem yY{a b:Tm}(ha:Cut (Fl a))(hb:Cut (Fl b))(h:Mb a b):¬Mb b a:=λh'=>Ir ha hb h h'
theorem Og{p:Un}{a b:Tm}{o:Option Tm}(ha:Cut (Fl a))(hb:Cut (Fl b))(hab:¬Mb b a)(h:Pm p a o)(ho:∀t,o=some t->Mb b t):Pm p b o:=by
 have hl:=RP ha hb hab;cases o with
 |
  none =>
  rcases h with h|⟨s,s0,h⟩
  ·exact .inl h
  ·exact .inr ⟨s,s0,λc hc hbc=>h c hc λq hq=>hl q (hbc q hq)⟩
 |
  some t =>
  obtain⟨h1,h2,_,s,s0,h4,h5⟩:=h;exact⟨h1,h2,ho t rfl,s,s0,λc hc hbc hm=>h4 c hc (λq hq=>hl q (hbc q hq)) hm,h5⟩
theorem OI{p:Un}{a b:Tm}{o:Option Tm}(hp:Dp p)(ha:Va a)(hb:Va b)(hab:¬Mb b a)(h:Pm p a o)(ho:∀t,o=some t->Mb b t):Hi (Fp b) p=Hi (Fp a) p:=by
 by_cases h0:p.length=0
 ·obtain rfl:=Qj h0;rfl
 obtain⟨ra,_⟩:=Ej ha hp h0;obtain⟨rb,_⟩:=Ej hb hp h0;have hl:=RP ha.cut hb.cut hab;cases o with
 |
  none =>
  rcases h with h|⟨s,s0,h⟩
  ·exact absurd (by rw[h];rfl) h0
  ·exact(GW rb (h _ hb.cut hl)).trans (GW ra (h _ ha.cut λ_ h=>h)).symm
 |
  some t =>
  obtain⟨h1,h2,h3,s,s0,h4,h5⟩:=h;exact(GW rb (h4 _ hb.cut hl (ho t rfl))).trans (GW ra (h4 _ ha.cut (λ_ h=>h) h3)).symm
theorem PU(t q:Rat):Fl (tq t) q=Hb t q:=A8 (t:=tq t) rfl q
theorem ZE{a:Tm}{t:Rat}(ha:Cut (Fl a)):0<Fl a t↔Mb (tq t) a:=by
 constructor
 ·intro h;have h1:Fl a t=1:=by rcases ha.val t with e|e|e <;> omega
  obtain⟨r,r1,r2⟩:=ha.up t h1;exact⟨r,by rw[PU];rcases Sk t r with⟨e,e'⟩|⟨e,e'⟩|⟨e,e'⟩ <;> first|exact e|(exfalso;grind),r2⟩
 ·rintro⟨q,q1,q2⟩
  rw[PU]at q1;have:t<q:=by rcases Sk t q with⟨e,e'⟩|⟨e,e'⟩|⟨e,e'⟩ <;> first|exact e'|omega
  have:=ha.mono' this (by omega);omega
open Classical in
noncomputable def mu(T:List Tm)(a:Tm):Nat:=(T.filter λt=>decide (Mb a t)).length
theorem OG{α:Type}{p q:α->Bool}(h:∀x,p x=true->q x=true):∀l:List α,(l.filter p).length<=(l.filter q).length
 | []=>Ql _
 |
  x::l=>by
  have ih:=OG h l;by_cases hp:p x=true
  ·rw[X4 hp,X4 (h x hp)];simp;exact ih
  ·rw[Jz hp];by_cases hq:q x=true
   ·rw[X4 hq];simp;omega
   ·rw[Jz hq];exact ih
theorem OH{α:Type}{p q:α->Bool}(h:∀x,p x=true->q x=true){y:α}(hp:p y=false)(hq:q y=true):∀{l:List α},y∈l->(l.filter p).length<(l.filter q).length
 | [],hy=>by cases hy
 |
  x::l,hy=>by
  rcases Qm.1 hy with rfl|hy
  ·rw[Jz (by simp[hp]),X4 hq];have:=OG h l;simp;omega
  ·have ih:=OH h hp hq hy;by_cases hp:p x=true
   ·rw[X4 hp,X4 (h x hp)];simp;exact ih
   ·rw[Jz hp];by_cases hq:q x=true
    ·rw[X4 hq];simp;omega
    ·rw[Jz hq];exact ih
open Classical in
theorem Qsg{T:List Tm}{a b:Tm}(ha:Cut (Fl a))(hb:Cut (Fl b))(hT:∀t∈T,Cut (Fl t))(h:Mb a b)(hm:b∈T):mu T b<mu T a:=by
 have key:∀l:List Tm,(∀t∈l,Cut (Fl t))->l.filter (λt=>decide (Mb b t))=l.filter (λt=>decide (Cut (Fl t)/\Mb b t)):=λl hl=>List.filter_congr λx hx=>by simp[hl x hx]
 have key2:∀l:List Tm,(∀t∈l,Cut (Fl t))->l.filter (λt=>decide (Mb a t))=l.filter (λt=>decide (Cut (Fl t)/\Mb a t)):=λl hl=>List.filter_congr λx hx=>by simp[hl x hx]
 unfold mu;rw[key T hT,key2 T hT];refine OH (λx hx=>?_) (y:=b) ?_ ?_ hm
 ·have hx:=of_decide_eq_true hx;exact decide_eq_true ⟨hx.1,Qyl hb hx.1 h hx.2⟩
 ·exact decide_eq_false λhx=>Ir hb hb hx.2 hx.2
 ·exact decide_eq_true ⟨hb,h⟩
def AT(p:Un):List Tm:=(WC p).getD []
structure KInv(c:Cr):Prop where
 ok:CrOk c
 k:∀w∈c.l,w.known=true->Pm w.c.p c.now w.fails/\∀t,w.fails=some t->t∈AT w.c.p
theorem LH{p:Un}(h:Cp p){a:Tm}(ha:Va a):∃r,SC p a=some r/\Pm p a r/\∀t,r=some t->t∈AT p:=by
 obtain⟨l,l1,_,_,l3⟩:=JL h;obtain⟨r,r1,r2,r3⟩:=l3 a ha;refine⟨r,?_,r2,λt ht=>by unfold AT;rw[l1];exact r3 t ht⟩;unfold SC;rw[l1];exact r1
theorem Qwk{p:Un}(h:Cp p):∀t∈AT p,Va t:=by
 obtain⟨l,l1,_,l2,_⟩:=JL h;unfold AT;rw[l1];exact l2
theorem iJ{now:Tm}(hn:Va now):∀{l:List Wt},(∀w∈l,WtOk w)->(∀w∈l,w.known=true->Pm w.c.p now w.fails/\∀t,w.fails=some t->t∈AT w.c.p) ->
 ∃ws,Ob now l=some ws/\ws.map (·.c)=l.map (·.c)/\∀w∈ws,w.known=true/\Pm w.c.p now w.fails/\∀t,w.fails=some t->t∈AT w.c.p
 | [],_,_=>⟨[],rfl,rfl,λw hw=>by cases hw⟩
 |
  w::l,h,h'=>by
  obtain⟨ws,w1,w2,w3⟩:=iJ hn (λv hv=>h v (Qg _ hv)) (λv hv=>h' v (Qg _ hv));by_cases hk:w.known=true
  ·refine⟨w::ws,by simp only[Ob,hk,if_true,w1];rfl,by simp[w2],λv hv=>?_⟩;rcases Qm.1 hv with rfl|hv
   ·exact⟨hk,h' v (by simp) hk⟩
   ·exact w3 v hv
  ·obtain⟨r,r1,r2,r3⟩:=LH (h w (by simp)).p hn;refine⟨⟨w.c,true,r⟩::ws,by simp only[Ob];rw[if_neg hk,r1,w1];rfl,by simp[w2],λv hv=>?_⟩;rcases Qm.1 hv with rfl|hv
   ·exact⟨rfl,r2,r3⟩
   ·exact w3 v hv
theorem aC{at_:Tm}(ha:Va at_){x:Ct}:∀{l:List Wt},(∀w∈l,WtOk w)->∃w,Ci l x at_=some w/\w.c=x
 | [],_=>⟨fresh x,rfl,rfl⟩
 |
  v::l,h=>by
  obtain⟨w,w1,w2⟩:=aC ha (x:=x) λv hv=>h v (Qg _ hv)
  simp only[Ci]
  split
  ·cases hf:v.fails with
   |none=>exact⟨_,rfl,rfl⟩
   |
    some t =>
    obtain⟨c,c1,_⟩:=UT ((h v (by simp)).f t hf) ha;dsimp only;rw[c1];show ∃w,(if 0<c then some ⟨x,true,some t⟩else Ci l x at_)=some w/\w.c=x
    split
    ·exact⟨_,rfl,rfl⟩
    ·exact⟨w,w1,w2⟩
  ·exact⟨w,w1,w2⟩
theorem nN{at_:Tm}(ha:Va at_){ol:List Wt}(ho:∀w∈ol,WtOk w):∀l:List Ct,∃ws,Tj ol at_ l=some ws/\ws.map (·.c)=l
 | []=>⟨[],rfl,rfl⟩
 |
  x::l=>by
  obtain⟨w,w1,w2⟩:=aC ha (x:=x) ho;obtain⟨ws,s1,s2⟩:=nN ha ho l;exact⟨w::ws,by simp only[Tj,w1,s1];rfl,by simp[w2,s2]⟩
theorem Qci{out:List Ct}{c x:Ct}:x∈KI out c↔x=c\/x∈out:=by
 have h:x∈out↔x∈out.take (JW out c out.length)\/x∈out.drop (JW out c out.length):=by
  rw[<-Qr,Zh]
 simp only[KI,Qr,Qm,h];constructor
 ·rintro (h|h|h)
  ·exact .inr (.inl h)
  ·exact .inl h
  ·exact .inr (.inr h)
 ·rintro (h|h|h)
  ·exact .inr (.inl h)
  ·exact .inl h
  ·exact .inr (.inr h)
theorem OP:∀(l acc:List Ct) {y:Ct},y∈l.foldl KI acc↔y∈l\/y∈acc
 | [],acc,y=>by simp
 |
  c::l,acc,y=>by
  simp only[Z9];rw[OP l,Qci,Qm];constructor
  ·rintro (h|h|h)
   ·exact .inl (.inr h)
   ·exact .inl (.inl h)
   ·exact .inr h
  ·rintro ((h|h)|h)
   ·exact .inr (.inl h)
   ·exact .inl h
   ·exact .inr (.inr h)
theorem zB{l:List Ct}{x:Ct}:x∈Fv l↔x∈l:=by unfold Fv;rw[OP];simp
theorem Qvo{ws:List Wt}(hw:∀w∈ws,WtOk w):∃o,IZ ws=some o/\match o with
 |none=>∀w∈ws,w.fails=none
 |some a=>Va a/\(∃w∈ws,w.fails=some a)/\∀w∈ws,∀t,w.fails=some t->¬Mb t a:=by
 have hv:∀t∈ws.filterMap (·.fails),Va t:=λt ht=>by
  obtain⟨w,w1,w2⟩:=Ji.1 ht;exact(hw w w1).f t w2
 unfold IZ;cases hf:ws.filterMap (·.fails)with
 |
  nil =>
  refine⟨none,rfl,λw h=>?_⟩;cases e:w.fails with
  |none=>rfl
  |
   some t =>
   have:t∈ws.filterMap (·.fails):=Ji.2 ⟨w,h,e⟩;rw[hf]at this;cases this
 |
  cons b l =>
  rw[hf]at hv;obtain⟨m,m1,m2,m3⟩:=RH l b hv;refine⟨some m,by show(QP b l).map some=_;rw[m1];rfl,hv m m2,?_,λw h t e=>?_⟩
  ·rw[<-hf]at m2;exact Ji.1 m2
  ·exact m3 t (by rw[<-hf];exact Ji.2 ⟨w,h,e⟩)
theorem Qt9{t a:Tm}(ht:Va t)(ha:Va a){c:Int}(h:UR t a=some c)(h0:0<c):Mb a t:=by
 obtain⟨c',c1,c2⟩:=UT ht ha;rw[h]at c1;injection c1 with c1;subst c1;rcases c2 with⟨e,_⟩|⟨e,_⟩|⟨_,e⟩
 ·omega
 ·omega
 ·exact e
theorem aE{ol ws:List Wt}{now a:Tm}{l:List Ct}(hn:Va now)(ha:Va a)(hna:¬Mb a now)(ho:∀w∈ol,WtOk w)(hk:∀w∈ol,w.known=true->Pm w.c.p now w.fails/\∀t,w.fails=some t->t∈AT w.c.p)(h:Tj ol a l=some ws) :
 ∀w∈ws,w.known=true->Pm w.c.p a w.fails/\∀t,w.fails=some t->t∈AT w.c.p:=by
 obtain⟨h1,h2⟩:=XM h;intro w hw hkn;obtain⟨i,hi⟩:=Xu hw;have hil:i<l.length:=by rw[<-h1];exact(Qf.1 hi).1
 obtain⟨v,h3,h4⟩:=h2 i _ (Qe hil);rw[hi]at h4;injection h4 with h4;subst h4;rcases LZ h3 with e|⟨v,v1,v2,v3,e,v5⟩
 ·rw[e]at hkn;cases hkn
 ·obtain⟨k1,k2⟩:=hk v v1 v2;rw[e];show Pm (l[i]).p a v.fails/\∀t,v.fails=some t->t∈AT (l[i]).p;rw[<-v3];refine⟨Og hn.cut ha.cut hna k1 λt ht=>?_,k2⟩;obtain⟨c,c1,c2⟩:=v5 t ht;exact Qt9 ((ho v v1).f t ht) ha c1 c2
structure Stab{β:Type}(Bc:Tm->List Ct)(Br:Tm->β):Prop where
 ok:BuildOk Bc
 fin:∃Ps:List (List Int),(∀p∈Ps,Cp p)/\∀a,Va a->∀x∈Bc a,x.p∈Ps
 st:∀a b,Va a->Va b->(∀x∈Bc a,Hi (Fp b) x.p=Hi (Fp a) x.p)->Bc b=Bc a/\Br b=Br a
structure KSt{β:Type}(Bc:Tm->List Ct)(Br:Tm->β)(c:Cr)(r1:β):Prop where
 inv:KInv c
 cs:c.l.map (·.c)=Fv (Bc c.now)
 r:r1=Br c.now
inductive Evs (Bc:Tm->List Ct) (t:Rat):Tm->List Tm->Prop
 |nil {a:Tm} (h:∀x∈Bc a,∃o,Pm x.p a o/\∀u,o=some u->Mb (tq t) u):Evs Bc t a []
 |cons {a e:Tm} {E:List Tm} (he:Va e) (h1:Mb a e) (h2:¬Mb (tq t) e) (h3:∀x∈Bc a,∃o,Pm x.p a o/\∀u,o=some u->¬Mb u e) (h4:∃x∈Bc a,Pm x.p a (some e)) (h5:Evs Bc t e E):Evs Bc t a (e::E)
theorem Qhz{β:Type}{Bc:Tm->List Ct}{Br:Tm->β}(S:Stab Bc Br){t:Rat}(ht:Qs 1640000 t){Ps:Uo}(hP:∀p∈Ps,Cp p)(hPs:∀a,Va a->∀x∈Bc a,x.p∈Ps) :
 ∀(m:Nat) (c:Cr) (r1:β) (n:Int),mu (Ps.flatMap AT) c.now<=m->KSt Bc Br c r1->¬Mb (tq t) c.now ->
 ∃c' r' E,WI Bc Br t (m+1) c r1 n=some (c',r',n+(E.length:Nat))/\c'.now=tq t/\KSt Bc Br c' r'/\c'.ev=c.ev+(E.length:Nat)/\E.length<=m/\Evs Bc t c.now E:=by
 have hT:∀t∈Ps.flatMap AT,Cut (Fl t):=λu hu=>by
  obtain⟨p,p1,p2⟩:=Zo.1 hu;exact(Qwk (hP p p1) u p2).cut
 have hq:=TN ht;intro m
 induction m with
 |zero=>?_
 |succ m ih=>?_
 all_goals
  intro c r1 n hm hS hnow;obtain⟨⟨ok,kk⟩,hcs,hr⟩:=hS;obtain⟨ws,w1,w2,w3⟩:=iJ ok.n ok.l kk;have ok':=El ok w1;rw[hcs]at w2;have hc_w:∀x∈Bc c.now,∃w∈ws,w.c=x:=λx hx=>by
   have:x∈ws.map (·.c):=by rw[w2];exact zB.2 hx
   exact Za.1 this
  have hw_c:∀w∈ws,w.c∈Bc c.now:=λw hw=>zB.1 (by rw[<-w2];exact Wj hw)
  obtain⟨o,o1,o2⟩:=Qvo ok'.l;have fin:(∀w∈ws,∀u,w.fails=some u->Mb (tq t) u)->KSt Bc Br ⟨tq t,ws,c.ev⟩ r1/\Evs Bc t c.now []:=λhall=>by
   have hg:∀x∈Bc c.now,Hi (Fp (tq t)) x.p=Hi (Fp c.now) x.p:=λx hx=>by
    obtain⟨w,hw,rfl⟩:=hc_w x hx;exact OI (S.ok.p _ ok.n _ hx).dp ok.n hq hnow (w3 w hw).2.1 (hall w hw)
   obtain⟨s1,s2⟩:=S.st _ _ ok.n hq hg;refine⟨⟨⟨⟨hq,ok'.l,ok'.k⟩,λw hw _=>⟨Og ok.n.cut hq.cut hnow (w3 w hw).2.1 (hall w hw),(w3 w hw).2.2⟩⟩,?_,?_⟩,.nil λx hx=>?_⟩
   ·show ws.map (·.c)=Fv (Bc (tq t));rw[w2,s1]
   ·show r1=Br (tq t);rw[s2,hr]
   ·obtain⟨w,hw,rfl⟩:=hc_w x hx;exact⟨_,(w3 w hw).2.1,hall w hw⟩
 ·cases o with
  |
   none =>
   obtain⟨f1,f2⟩:=fin λw hw u hu=>by rw[o2 w hw]at hu;cases hu
   exact⟨_,_,[],by simp only[WI];rw[w1];simp only[Ja];rw[o1];simp,rfl,f1,by simp,by simp,f2⟩
  |
   some a =>
   obtain⟨va,⟨w,hw,hwa⟩,hmin⟩:=o2;by_cases h0:0<Fl a t
   ·obtain⟨f1,f2⟩:=fin λv hv u hu=>by
     have hu':=(ok'.l v hv).f u hu;exact aI hq.cut va.cut hu'.cut ((ZE va.cut).1 h0) (hmin v hv u hu)
    exact⟨_,_,[],by simp only[WI];rw[w1];simp only[Ja];rw[o1];simp[h0],rfl,f1,by simp,by simp,f2⟩
   ·exfalso;obtain⟨k1,k2,k3⟩:=w3 w hw;rw[hwa]at k2;have:a∈Ps.flatMap AT:=Zo.2 ⟨_,hPs _ ok.n _ (hw_c w hw),k3 a hwa⟩;have:=Qsg ok.n.cut va.cut hT k2.2.2.1 this;omega
 ·cases o with
  |
   none =>
   obtain⟨f1,f2⟩:=fin λw hw u hu=>by rw[o2 w hw]at hu;cases hu
   exact⟨_,_,[],by simp only[WI];rw[w1];simp only[Ja];rw[o1];simp,rfl,f1,by simp,by simp,f2⟩
  |
   some a =>
   obtain⟨va,⟨w,hw,hwa⟩,hmin⟩:=o2;by_cases h0:0<Fl a t
   ·obtain⟨f1,f2⟩:=fin λv hv u hu=>by
     have hu':=(ok'.l v hv).f u hu;exact aI hq.cut va.cut hu'.cut ((ZE va.cut).1 h0) (hmin v hv u hu)
    exact⟨_,_,[],by simp only[WI];rw[w1];simp only[Ja];rw[o1];simp[h0],rfl,f1,by simp,by simp,f2⟩
   ·obtain⟨k1,k2,k3⟩:=w3 w hw;rw[hwa]at k2;have hna:=yY ok.n.cut va.cut k2.2.2.1;have hmem:a∈Ps.flatMap AT:=Zo.2 ⟨_,hPs _ ok.n _ (hw_c w hw),k3 a hwa⟩;have hlt:=Qsg ok.n.cut va.cut hT k2.2.2.1 hmem;obtain⟨w2',l1,l2⟩:=nN va ok'.l (Fv (Bc a));have hl:=aE ok.n va hna ok'.l (λv hv _=>(w3 v hv).2) l1;have hS':KSt Bc Br ⟨a,w2',c.ev+1⟩ (Br a):=⟨⟨Orr.lay_ok _ ok' va (S.ok.p a va) (S.ok.n a va) l1,hl⟩,l2,rfl⟩;obtain⟨c',r',E,g1,g2,g3,g4,g5,g6⟩:=ih ⟨a,w2',c.ev+1⟩ (Br a) (n+1) (by show mu _ a<=m;omega) hS' (λh=>h0 ((ZE va.cut).2 h));refine⟨c',r',a::E,?_,g2,g3,by rw[g4];simp;omega,by simp;omega,.cons va k2.2.2.1 (λh=>h0 ((ZE va.cut).2 h)) (λx hx=>?_) ⟨w.c,hw_c w hw,k2⟩ g6⟩
    ·conv=>lhs;unfold WI
     rw[w1];simp only[Ja];rw[o1];simp only[Ja];rw[if_neg h0,l1];simp only[Ja];rw[g1];simp;omega
    ·obtain⟨v,hv,rfl⟩:=hc_w x hx;exact⟨_,(w3 v hv).2.1,hmin v hv⟩
end Orq
namespace Orq
open Orr Go
theorem yR{p:Un}{a a':Tm}(h:∀q,Fl a q=Fl a' q){o:Option Tm}(hn:Pm p a o):Pm p a' o:=by
 have e:Fl a=Fl a':=funext h;unfold Pm Leq Mb at *;rw[<-e];exact hn
theorem dT{a b:Tm}(ha:Cut (Fl a))(hb:Cut (Fl b))(h:¬Mb a b)(h':¬Mb b a):∀q,Fl a q=Fl b q:=by
 rcases tri ha hb with h1|h1|h1
 ·exact absurd h1 h
 ·exact h1
 ·exact absurd h1 h'
theorem Qah{a b b':Tm}(h:∀q,Fl b q=Fl b' q):Mb a b↔Mb a b':=by
 unfold Mb;simp only[h]
theorem JB{a b b':Tm}(h:∀q,Fl b q=Fl b' q):Mb b a↔Mb b' a:=by
 unfold Mb;simp only[h]
theorem QL{p:Un}{a:Tm}(ha:Va a){t t':Tm}(h:Pm p a (some t))(h':Pm p a (some t')):∀q,Fl t q=Fl t' q:=by
 obtain⟨_,v,l,s,s0,h4,h5⟩:=h;obtain⟨_,v',l',s',s0',h4',h5'⟩:=h';have es:s=s':=GW (h4 _ ha.cut (λ_ h=>h) l) (h4' _ ha.cut (λ_ h=>h) l');refine dT v.cut v'.cut (λhlt=>?_) λhlt=>?_
 ·have:=GW (h4' _ v.cut (RP ha.cut v.cut (yY ha.cut v.cut l)) hlt) h5;omega
 ·have:=GW (h4 _ v'.cut (RP ha.cut v'.cut (yY ha.cut v'.cut l')) hlt) h5';omega
theorem Me{p:Un}{a:Tm}(ha:Va a){t:Tm}(h:Pm p a (some t))(h':Pm p a none):False:=by
 obtain⟨h1,v,l,s,s0,h4,h5⟩:=h;rcases h' with h'|⟨s',s0',h'⟩
 ·exact h1 h'
 ·have e1:=GW (h' _ ha.cut λ_ h=>h) (h4 _ ha.cut (λ_ h=>h) l);have e2:=GW (h' _ v.cut (RP ha.cut v.cut (yY ha.cut v.cut l))) h5;omega
structure Quiet{β:Type}(Bc:Tm->List Ct)(Br:Tm->β)(a b:Tm):Prop where
 va:Va a
 vb:Va b
 le:¬Mb b a
 n:∀x∈Bc a,∃o,Pm x.p a o/\∀u,o=some u->Mb b u
section
variable{β:Type}{Bc:Tm->List Ct}{Br:Tm->β}(S:Stab Bc Br)
include S
theorem Quiet.same{a b:Tm}(h:Quiet Bc Br a b):Bc b=Bc a/\Br b=Br a:=by
 refine S.st a b h.va h.vb λx hx=>?_
 obtain⟨o,o1,o2⟩:=h.n x hx;exact OI (S.ok.p _ h.va _ hx).dp h.va h.vb h.le o1 o2
theorem TS{a b:Tm}(ha:Va a)(hb:Va b)(h:∀q,Fl a q=Fl b q):Quiet Bc Br a b:=by
 refine⟨ha,hb,λh'=>Ir hb.cut hb.cut ((Qah h).1 h') ((Qah h).1 h'),λx hx=>?_⟩;obtain⟨r,_,r2,_⟩:=LH (S.ok.p _ ha _ hx) ha;refine⟨r,r2,λu hu=>?_⟩;subst hu;obtain⟨q,q1,q2⟩:=r2.2.2.1;exact⟨q,by rw[<-h];exact q1,q2⟩
theorem OV{t:Rat}{a:Tm}{E:List Tm}(hE:Evs Bc t a E):∀{b:Tm} {E':List Tm},Quiet Bc Br a b->Evs Bc t b E'->E.length=E'.length:=by
 induction hE with
 |
  @nil a h =>
  intro b E' hq hE';have hs:=(Quiet.same S hq).1;cases hE' with
  |nil _=>rfl
  |
   cons he h1 h2 h3 h4 h5 =>
   exfalso;obtain⟨x,hx,hx2⟩:=h4;rw[hs]at hx;obtain⟨o,o1,o2⟩:=h x hx;obtain⟨o',o1',o2'⟩:=hq.n x hx;cases o with
   |
    none =>
    cases o' with
    |none=>exact Me hq.vb hx2 (Og hq.va.cut hq.vb.cut hq.le o1' o2')
    |some u=>exact Me hq.va o1' o1
   |
    some u =>
    cases o' with
    |none=>exact Me hq.va o1 o1'
    |
     some u' =>
     have e1:=QL hq.va o1 o1';have e2:=QL hq.vb (Og hq.va.cut hq.vb.cut hq.le o1' o2') hx2;obtain⟨q,q1,q2⟩:=o2 u rfl;exact h2 ⟨q,q1,by rw[<-e2,<-e1];exact q2⟩
 |
  @cons a e E he h1 h2 h3 h4 h5 ih =>
  intro b E' hq hE';have hs:=(Quiet.same S hq).1;have nx:∀x∈Bc a,∀u,Pm x.p a (some u)->Mb b u/\Pm x.p b (some u):=λx hx u hu=>by
   obtain⟨o',o1',o2'⟩:=hq.n x hx;cases o' with
   |none=>exact(Me hq.va hu o1').elim
   |
    some u' =>
    have e1:=QL hq.va o1' hu;have hb':=o2' u' rfl;have hb2:Mb b u:=by obtain⟨q,q1,q2⟩:=hb';exact⟨q,q1,by rw[<-e1];exact q2⟩
    exact⟨hb2,Og hq.va.cut hq.vb.cut hq.le hu λv hv=>by injection hv with hv;subst hv;exact hb2⟩
  obtain⟨x0,hx0,hn0⟩:=h4;obtain⟨hb0,hnb0⟩:=nx x0 hx0 e hn0;cases hE' with
  |
   nil h' =>
   exfalso;obtain⟨o,o1,o2⟩:=h' x0 (by rw[hs];exact hx0);cases o with
   |none=>exact Me hq.vb hnb0 o1
   |
    some u =>
    have e1:=QL hq.vb o1 hnb0;obtain⟨q,q1,q2⟩:=o2 u rfl;exact h2 ⟨q,q1,by rw[<-e1];exact q2⟩
  |
   @cons _ e' E'' he' h1' h2' h3' h4' h5' =>
   obtain⟨x1,hx1,hn1⟩:=h4';rw[hs]at hx1;have a1:¬Mb e' e:=λhlt=>by
    obtain⟨o,o1,o2⟩:=h3 x1 hx1;cases o with
    |
     none =>
     obtain⟨o',o1',o2'⟩:=hq.n x1 hx1;cases o' with
     |none=>exact Me hq.vb hn1 (Og hq.va.cut hq.vb.cut hq.le o1' o2')
     |some u=>exact Me hq.va o1' o1
    |
     some u =>
     have e2:=QL hq.vb (nx x1 hx1 u o1).2 hn1;exact o2 u rfl ((JB e2).2 hlt)
   have a2:¬Mb e e':=λhlt=>by
    obtain⟨o,o1,o2⟩:=h3' x0 (by rw[hs];exact hx0);cases o with
    |none=>exact Me hq.vb hnb0 o1
    |
     some u =>
     have e2:=QL hq.vb o1 hnb0;exact o2 u rfl ((JB e2).2 hlt)
   have:=ih (TS S he he' (dT he.cut he'.cut a2 a1)) h5';simp[this]
theorem Quu{t:Rat}{a:Tm}(ha:Va a){E E':List Tm}(h:Evs Bc t a E)(h':Evs Bc t a E'):E.length=E'.length:=OV S h (TS S ha ha λ_=>rfl) h'
theorem Qoo{t1 t2:Rat}(h12:t1<=t2)(ht:Va (tq t1)){a:Tm}{E1:List Tm}(h:Evs Bc t1 a E1):∀{E2 E:List Tm},Va a->¬Mb (tq t1) a->Evs Bc t2 (tq t1) E2->Evs Bc t2 a E->E.length=E1.length+E2.length:=by
 have lt12:∀{u:Tm},Mb (tq t2) u->Mb (tq t1) u:=λ⟨q,q1,q2⟩=>⟨q,by
  rw[PU]at q1 ⊢;rcases Sk t1 q with⟨e,h⟩|⟨e,h⟩|⟨e,h⟩ <;> rcases Sk t2 q with⟨e',h'⟩|⟨e',h'⟩|⟨e',h'⟩ <;> grind,q2⟩
 induction h with
 |
  @nil a h =>
  intro E2 E ha hle h2 h';have:=OV S h' ⟨ha,ht,hle,h⟩ h2;simp[this]
 |
  @cons a e E1 he b1 b2 b3 b4 b5 ih =>
  intro E2 E ha hle h2 h';obtain⟨x0,hx0,hn0⟩:=b4;cases h' with
  |
   nil g =>
   exfalso;obtain⟨o,o1,o2⟩:=g x0 hx0;cases o with
   |none=>exact Me ha hn0 o1
   |
    some u =>
    have e1:=QL ha o1 hn0;obtain⟨q,q1,q2⟩:=lt12 (o2 u rfl);exact b2 ⟨q,q1,by rw[<-e1];exact q2⟩
  |
   @cons _ e' E'' he' c1 c2 c3 c4 c5 =>
   obtain⟨x1,hx1,hn1⟩:=c4;have a1:¬Mb e' e:=λhlt=>by
    obtain⟨o,o1,o2⟩:=b3 x1 hx1;cases o with
    |none=>exact Me ha hn1 o1
    |some u=>exact o2 u rfl ((JB (QL ha o1 hn1)).2 hlt)
   have a2:¬Mb e e':=λhlt=>by
    obtain⟨o,o1,o2⟩:=c3 x0 hx0;cases o with
    |none=>exact Me ha hn0 o1
    |some u=>exact o2 u rfl ((JB (QL ha o1 hn0)).2 hlt)
   have eq:=dT he'.cut he.cut a1 a2;have hE:∃E3,Evs Bc t2 e E3/\E3.length=E''.length:=by
    have hs:=(Quiet.same S (TS S he' he eq)).1;cases c5 with
    |nil g=>exact⟨[],.nil λx hx=>by
     rw[hs]at hx;obtain⟨o,o1,o2⟩:=g x hx;exact⟨o,yR eq o1,o2⟩,rfl⟩
    |
     @cons _ f F hf d1 d2 d3 d4 d5 =>
     refine⟨f::F,.cons hf ((JB eq).1 d1) d2 (λx hx=>?_) ?_ d5,rfl⟩
     ·rw[hs]at hx;obtain⟨o,o1,o2⟩:=d3 x hx;exact⟨o,yR eq o1,o2⟩
     ·obtain⟨x,hx,hxn⟩:=d4;exact⟨x,by rw[hs];exact hx,yR eq hxn⟩
   obtain⟨E3,h3,h4⟩:=hE;have:=ih he b2 h2 h3;simp only[Q5];omega
end
theorem Qqy{p:Un}(h:Cp p):(AT p).length<=67:=by
 obtain⟨l,l1,l2,_⟩:=JL h;unfold AT;rw[l1];exact l2
theorem vN:∀{Ps:Uo},(∀p∈Ps,Cp p)->(Ps.flatMap AT).length≤67*Ps.length
 | [],_=>Qh _
 |
  p::Ps,h=>by
  have h1:=Qqy (h p (by simp));have h2:=vN (Ps:=Ps) λq hq=>h q (Qg _ hq)
  rw[J3,Qy,Q5];omega
theorem Qsf(T:List Tm)(a:Tm):mu T a<=T.length:=Y0 _ _
theorem pH{β:Type}{Bc:Tm->List Ct}{Br:Tm->β}(S:Stab Bc Br){a:Tm}(ha:Va a):KSt Bc Br ⟨a,(Fv (Bc a)).map fresh,0⟩ (Br a):=by
 refine⟨⟨⟨ha,λw hw=>?_,?_⟩,λw hw hk=>?_⟩,?_,rfl⟩
 ·obtain⟨x,hx,rfl⟩:=Za.1 hw;exact⟨S.ok.p _ ha x (VJ hx),λt ht=>by cases ht⟩
 ·show((Fv (Bc a)).map fresh).length<=1000;rw[Q8,Dn];exact S.ok.n _ ha
 ·obtain⟨x,hx,rfl⟩:=Za.1 hw;cases hk
 ·show((Fv (Bc a)).map fresh).map (·.c)=Fv (Bc a);rw[List.map_map];show(Fv (Bc a)).map (λx=>x)=_;rw[List.map_id']
end Orq
namespace Orr
open Go Go.Proofs Tryz Orq
set_option maxRecDepth 10000
theorem Qgq{a b:Pt}(ha:Sc a.c)(hb:Sc b.c):Cp (Aq a b):=YG (M7 ha hb) (M6 ha hb)
def ZB(l:List Pt)(a:Tm):List Ct:=S5 (Fp a) (Ty a l)
abbrev IU(l:List Pt)(a:Tm):Ut:=Uz (Ty a l)
theorem tV{sg:Un->Int}:∀{l:List Pt},(∀p∈l,Sc p.c)->∀x∈S5 sg l,Cp x.p
 | [],_,x,hx=>by cases hx
 | [_],_,x,hx=>by cases hx
 |
  a::b::l,h,x,hx=>by
  simp only[S5]at hx;rcases Qm.1 hx with rfl|hx
  ·exact Qgq (h a (by simp)) (h b (by simp))
  ·exact tV (λp hp=>h p (Qg _ hp)) x hx
theorem Hp{t:Tm}{l:List Pt}{p:Pt}:p∈Ty t l↔p∈l:=by
 unfold Ty Ed;rw[KE];simp
theorem Nk(t:Tm)(l:List Pt):(Ty t l).length=l.length:=zC _ _
theorem pK{l:List Pt}(hl:∀p∈l,Sc p.c)(hn:l.length≤1000):BuildOk (ZB l) :=
 ⟨λa _ x hx=>tV (λp hp=>hl p (Hp.1 hp)) x hx,λa _=>by unfold ZB;rw[Bw,Nk];omega⟩
theorem IS{l:List Pt}{a:Tm}{c:Cr}{r1:Ut}(hl:∀p∈l,Sc p.c)(hn:l.length≤1000)(ha:Va a):U5 prog 195 [.one (.ow 0 0),.agg (ta a)] [.blk 220 (Hl c (Uz l) r1)] [.one (.row (Fj (ZB l a)))] [.blk 220 (Hl c (Uz l) (IU l a))]:=by
 have cr:=wT hl (by omega) ha;have cc:=BH (l:=Ty a l) (t:=a) (λp hp=>hl p (Hp.1 hp)) (by rw[Nk];omega) ha;refine Fu func195 rfl ?_;exact Ui [] [0] [.k Il,.k cr,.k cc] rfl
theorem Qbh{l:List Pt}{a:Tm}(hl:∀p∈l,Sc p.c)(hn:l.length≤1000)(ha:Va a):U5 prog 195 [.one (.ow 0 0),.agg (ta a)] [.blk 220 (mS (.row (Uz l)) .nils)] [.one (.row (Fj (ZB l a)))] [.blk 220 (mS (.row (Uz l)) (.row (IU l a)))]:=by
 have cr:=wT hl (by omega) ha;have cc:=BH (l:=Ty a l) (t:=a) (λp hp=>hl p (Hp.1 hp)) (by rw[Nk];omega) ha;refine Fu func195 rfl ?_;exact Ui [] [0] [.k Il,.k cr,.k cc] rfl
def Qml(l:List Pt)(a:Tm):Cr:=⟨a,(Fv (ZB l a)).map fresh,0⟩
end Orr
namespace Orq
open Orr Go
theorem XF{a:Tm}(ha:Va a):∀(L:Uo),(∀p∈L,Dp p)->∃y,Fl a y=-1/\∀q,Fl a q=-1->q≤y->∀p∈L,Hi (Fp a) p=Fe (U7 p q)
 |
  [],_=>by
  obtain⟨y,hy⟩:=ha.cut.hi;exact⟨y,hy,λq _ _ p hp=>by cases hp⟩
 |
  p::L,h=>by
  obtain⟨y,y1,y2⟩:=XF ha L (λq hq=>h q (Qg _ hq));by_cases h0:p.length=0
  ·obtain rfl:=Qj h0;refine⟨y,y1,λq q1 q2 r hr=>?_⟩;rcases Qm.1 hr with rfl|hr
   ·rw[XU];exact(Gp.2 rfl).symm
   ·exact y2 q q1 q2 r hr
  ·obtain⟨⟨z,z1,z2⟩,_⟩:=Ej ha (h p (by simp)) h0;refine⟨if y<=z then y else z,by split <;> assumption,λq q1 q2 r hr=>?_⟩;rcases Qm.1 hr with rfl|hr
   ·rw[<-U8];exact(z2 q q1 (by grind)).symm
   ·exact y2 q q1 (by grind) r hr
section Srt
variable{α:Type}{lt:α->α->Bool}{R:α->α->Prop}
theorem zJ(irr:∀x,¬R x x)(tr:∀x y z,R x y->R y z->R x z):∀{l m:List α},l.Pairwise R->m.Pairwise R->(∀x,x∈l↔x∈m)->l=m
 | [],[],_,_,_=>rfl
 | [],y::m,_,_,h=>by have:=(h y).2 (by simp);cases this
 |x::l,[],_,_,h=>by have:=(h x).1 (by simp);cases this
 |
  x::l,y::m,hl,hm,h=>by
  rw[Zg]at hl hm;have e:x=y:=by
   rcases Qm.1 ((h x).1 (by simp))with e|h1
   ·exact e
   ·rcases Qm.1 ((h y).2 (by simp))with e|h2
    ·exact e.symm
    ·exact absurd (tr _ _ _ (hl.1 y h2) (hm.1 x h1)) (irr x)
  subst e;rw[zJ irr tr hl.2 hm.2 λz=>?_];constructor
  ·intro hz;rcases Qm.1 ((h z).1 (Qg _ hz))with e|h1
   ·subst e;exact absurd (hl.1 z hz) (irr z)
   ·exact h1
  ·intro hz;rcases Qm.1 ((h z).2 (Qg _ hz))with e|h1
   ·subst e;exact absurd (hm.1 z hz) (irr z)
   ·exact h1
theorem qA{out:List α}{x:α}:∀k,k<=out.length->(∀j y,Lx lt out x k<=j->j<k->out[j]? = some y->lt x y=true)/\(0<Lx lt out x k->∃y,out[Lx lt out x k-1]? = some y/\lt x y=false)
 | 0,_=>⟨λj y _ h=>by omega,λh=>by simp[Lx]at h⟩
 |
  k+1,hk=>by
  obtain⟨y,hy⟩:=gxE (l:=out) (i:=k) (by omega);by_cases h:lt x y=true
  ·rw[oV hy h];obtain⟨h1,h2⟩:=qA (out:=out) (x:=x) k (by omega);refine⟨λj z a1 a2 a3=>?_,h2⟩;by_cases e:j=k
   ·subst e;rw[hy]at a3;injection a3 with a3;subst a3;exact h
   ·exact h1 j z a1 (by omega) a3
  ·have h:lt x y=false:=by simpa using h
   rw[rS hy h];exact⟨λj z a1 a2 _=>by omega,λ_=>⟨y,by simpa using hy,h⟩⟩
theorem Qow(tr:∀x y z,R x y->R y z->R x z){out:List α}{x:α}(ho:out.Pairwise R)(h1:∀y∈out,lt x y=true->R x y)(h2:∀y∈out,lt x y=false->R y x):(Lr lt out x).Pairwise R:=by
 obtain⟨s1,s2⟩:=qA (lt:=lt) (out:=out) (x:=x) out.length (Ql _);have hle:=yI lt out x out.length;unfold Lr;obtain⟨k,hk⟩:=nmE (Lx lt out x out.length);rw[<-hk]at s1 s2 hle ⊢;have hd:(out.take k++out.drop k).Pairwise R:=by rw[Zh];exact ho
 obtain⟨d1,d2,d3⟩:=Xv.1 hd;have hR:∀y∈out.drop k,R x y:=λy hy=>by
  obtain⟨i,hi⟩:=Xu hy;rw[Xc]at hi;have:k+i<out.length:=(Qf.1 hi).1;exact h1 y (Qz hy) (s1 (k+i) y (by omega) this hi)
 have hL:∀y∈out.take k,R y x:=λy hy=>by
  obtain⟨i,hi⟩:=Xu hy;have hik:i<k:=by have:=(Qf.1 hi).1;simp at this;omega
  rw[Kf hik]at hi;obtain⟨z,z1,z2⟩:=s2 (by omega);have hz:=h2 z (Qc z1) z2;by_cases e:i=k-1
  ·subst e;rw[hi]at z1;injection z1 with z1;subst z1;exact hz
  ·have hp:=Yc.1 ho i (k-1) (by omega) (by omega) (by omega);obtain⟨_,e1⟩:=Qf.1 hi;obtain⟨_,e2⟩:=Qf.1 z1;rw[e1,e2]at hp;exact tr _ _ _ hp hz
 refine Xv.2 ⟨d1,Zg.2 ⟨hR,d2⟩,λy hy z hz=>?_⟩;rcases Qm.1 hz with rfl|hz
 ·exact hL y hy
 ·exact d3 y hy z hz
theorem DF(tr:∀x y z,R x y->R y z->R x z){S:α->Prop}(h1:∀x y,S x->S y->lt x y=true->R x y){D:α->α->Prop}(h2:∀x y,S x->S y->D y x->lt x y=false->R y x) :
 ∀(l acc:List α),acc.Pairwise R->(∀x∈acc,S x)->(∀x∈l,S x)->l.Pairwise D->(∀x∈acc,∀y∈l,D x y)->(l.foldl (Lr lt) acc).Pairwise R
 | [],acc,ha,_,_,_,_=>ha
 |
  x::l,acc,ha,hs,hl,hd,hx=>by
  rw[Zg]at hd;refine DF tr h1 h2 l (Lr lt acc x) ?_ ?_ (λy hy=>hl y (Qg _ hy)) hd.2 ?_
  ·exact Qow tr ha (λy hy=>h1 x y (hl x (by simp)) (hs y hy)) (λy hy=>h2 x y (hl x (by simp)) (hs y hy) (hx y hy x (by simp)))
  ·intro y hy;rcases FV.1 hy with rfl|hy
   ·exact hl _ (by simp)
   ·exact hs y hy
  ·intro y hy z hz;rcases FV.1 hy with rfl|hy
   ·exact hd.1 z hz
   ·exact hx y hy z (Qg _ hz)
theorem zX:∀{l:List α},l.Pairwise R->∀{u v:α},u∈l->v∈l->u≠v->R u v\/R v u
 | [],_,_,_,h,_,_=>by cases h
 |
  x::l,hp,u,v,hu,hv,hne=>by
  rw[Zg]at hp;rcases Qm.1 hu with e|hu
  ·rcases Qm.1 hv with e'|hv
   ·exact absurd (e.trans e'.symm) hne
   ·rw[e];exact .inl (hp.1 v hv)
  ·rcases Qm.1 hv with e'|hv
   ·rw[e'];exact .inr (hp.1 u hu)
   ·exact zX hp.2 hu hv hne
end Srt
def px(p:Pt)(q:Rat):Rat:=U7 p.c.x q / (p.c.d:Rat)
def py(p:Pt)(q:Rat):Rat:=U7 p.c.y q / (p.c.d:Rat)
def C5(q:Rat)(x y:Pt):Prop:=px x q<px y q\/px x q=px y q/\(py x q<py y q\/py x q=py y q/\x.id<y.id)
theorem XD(q:Rat)(x:Pt):¬C5 q x x:=by unfold C5;grind
theorem YN(q:Rat)(x y z:Pt)(h:C5 q x y)(h':C5 q y z):C5 q x z:=by unfold C5 at *;grind
theorem fE{q:Rat}{x y:Pt}(h:x.id≠y.id)(h':¬C5 q x y):C5 q y x:=by unfold C5 at *;grind
theorem zN{u v:Rat}{c d:Int}(hc:0<c)(hd:0<d):Fe (v*(c:Rat)-u*(d:Rat))=Fe (v / (d:Rat)-u / (c:Rat)):=by
 have hc':(0:Rat)<(c:Rat):=by exact_mod_cast hc
 have hd':(0:Rat)<(d:Rat):=by exact_mod_cast hd
 have e:v*(c:Rat)-u*(d:Rat)=((c:Rat)*(d:Rat))*(v / (d:Rat)-u / (c:Rat)):=by
  rw[Jn,Jn];have h1:=Wu (c:Rat) (by grind);have h2:=Wu (d:Rat) (by grind);grind
 rw[e,Cw (Xl hc' hd')]
theorem TG{x y:Pt}(hx:Sc x.c)(hy:Sc y.c)(q:Rat):Fe (U7 (Gl x.c y.c) q)=Fe (px y q-px x q):=by
 unfold Gl px;rw[Ng,Rk,Rk];exact zN hx.n.2.2.1 hy.n.2.2.1
theorem TF{x y:Pt}(hx:Sc x.c)(hy:Sc y.c)(q:Rat):Fe (U7 (Gk x.c y.c) q)=Fe (py y q-py x q):=by
 unfold Gk py;rw[Ng,Rk,Rk];exact zN hx.n.2.2.1 hy.n.2.2.1
theorem BZ{a:Tm}(ha:Va a){x y:Pt}(hx:Sc x.c)(hy:Sc y.c){q:Rat}(h1:Hi (Fp a) (Gl x.c y.c)=Fe (U7 (Gl x.c y.c) q))(h2:Hi (Fp a) (Gk x.c y.c)=Fe (U7 (Gk x.c y.c) q)):Ts (Fp a) x y=true↔C5 q x y:=by
 rw[TG hx hy]at h1;rw[TF hx hy]at h2;have d1:=(M7 hx hy).dp;have d2:=(M6 hx hy).dp;unfold Ts;simp only[Lv];have t1:=Fy (px y q-px x q);have t2:=Fy (py y q-py x q);by_cases e1:(Gl x.c y.c).length=0
 ·rw[if_neg (by omega)];rw[Qj e1,XU]at h1;have:px x q=px y q:=by grind
  by_cases e2:(Gk x.c y.c).length=0
  ·rw[if_neg (by omega)];rw[Qj e2,XU]at h2;unfold C5;simp only[decide_eq_true_eq];grind
  ·rw[if_pos (by omega)];have:=(Ej ha d2 e2).2;unfold C5;simp only[decide_eq_true_eq];grind
 ·rw[if_pos (by omega)];have:=(Ej ha d1 e1).2;unfold C5;simp only[decide_eq_true_eq];grind
def Ef(l:List Pt):Uo:=l.flatMap λx=>l.flatMap λy=>[Gl x.c y.c,Gk x.c y.c]
theorem Sj{l:List Pt}{x y:Pt}(hx:x∈l)(hy:y∈l):Gl x.c y.c∈Ef l/\Gk x.c y.c∈Ef l :=
 ⟨Zo.2 ⟨x,hx,Zo.2 ⟨y,hy,by simp⟩⟩,Zo.2 ⟨x,hx,Zo.2 ⟨y,hy,by simp⟩⟩⟩
theorem O7{l:List Pt}(hl:∀p∈l,Sc p.c):∀p∈Ef l,Cp p:=λp hp=>by
 obtain⟨x,hx,hp⟩:=Zo.1 hp;obtain⟨y,hy,hp⟩:=Zo.1 hp;simp at hp;rcases hp with rfl|rfl
 ·exact M7 (hl x hx) (hl y hy)
 ·exact M6 (hl x hx) (hl y hy)
theorem oO{l:List Pt}(hl:∀p∈l,Sc p.c)(hd:l.Pairwise λx y=>x.id≠y.id){a:Tm}(ha:Va a):∃y,Fl a y=-1/\∀q,Fl a q=-1->q≤y->(∀u∈l,∀v∈l,(Ts (Fp a) u v=true↔C5 q u v))/\(Ty a l).Pairwise (C5 q):=by
 obtain⟨y,y1,y2⟩:=XF ha (Ef l) λp hp=>(O7 hl p hp).dp
 refine⟨y,y1,λq q1 q2=>?_⟩;have h:=y2 q q1 q2;have hb:∀u∈l,∀v∈l,(Ts (Fp a) u v=true↔C5 q u v):=λu hu v hv=>BZ ha (hl u hu) (hl v hv) (h _ (Sj hu hv).1) (h _ (Sj hu hv).2)
 refine⟨hb,?_⟩;exact DF (S:=λx=>x∈l) (D:=λx y=>x.id≠y.id) (YN q) (λu v hu hv h=>(hb u hu v hv).1 h) (λu v hu hv hne h=>fE (λe=>hne e.symm) λh'=>by
  rw[(hb u hu v hv).2 h']at h;cases h) l [] .nil (λx hx=>by cases hx) (λx hx=>hx) hd (λx hx=>by cases hx)
theorem bR{a b:Tm}{x y:Pt}(h:Hi (Fp b) (Aq x y)=Hi (Fp a) (Aq x y)):Ts (Fp b) x y=Ts (Fp a) x y:=by
 unfold Aq Lq at h;unfold Ts;simp only[Lv];by_cases e1:0<(Gl x.c y.c).length
 ·rw[if_pos e1,if_pos e1];rw[if_pos e1]at h;rw[h]
 ·rw[if_neg e1,if_neg e1];rw[if_neg e1]at h;rw[h]
theorem CZ{a b:Tm}{q r:Rat}:∀(l:List Pt),(∀u∈l,∀v∈l,(Ts (Fp a) u v=true↔C5 q u v))->(∀u∈l,∀v∈l,(Ts (Fp b) u v=true↔C5 r u v))->l.Pairwise (C5 q)->(∀x∈S5 (Fp a) l,Hi (Fp b) x.p=Hi (Fp a) x.p)->l.Pairwise (C5 r)/\S5 (Fp b) l=S5 (Fp a) l
 | [],_,_,_,_=>⟨.nil,rfl⟩
 | [x],_,_,_,_=>⟨Kl _ _,rfl⟩
 |
  x::y::l,ha,hb,hp,hc=>by
  rw[Zg]at hp;obtain⟨i1,i2⟩:=CZ (a:=a) (b:=b) (q:=q) (r:=r) (y::l) (λu hu v hv=>ha u (Qg _ hu) v (Qg _ hv)) (λu hu v hv=>hb u (Qg _ hu) v (Qg _ hv)) hp.2 (λz hz=>hc z (by simp only[S5];exact Qg _ hz));have h0:Hi (Fp b) (Aq x y)=Hi (Fp a) (Aq x y):=hc (QC (Fp a) x y) (by simp[S5]);have h1:C5 r x y:=(hb x (by simp) y (by simp)).1 (by rw[bR h0];exact(ha x (by simp) y (by simp)).2 (hp.1 y (by simp)));refine⟨Zg.2 ⟨λz hz=>?_,i1⟩,?_⟩
  ·rcases Qm.1 hz with rfl|hz
   ·exact h1
   ·exact YN r x y z h1 ((Zg.1 i1).1 z hz)
  ·simp only[S5];rw[i2];congr 1;unfold QC;rw[h0]
theorem TW{sg:Un->Int}:∀{l:List Pt},∀x∈S5 sg l,∃u∈l,∃v∈l,x.p=Aq u v
 | [],x,hx=>by cases hx
 | [_],x,hx=>by cases hx
 |
  a::b::l,x,hx=>by
  simp only[S5]at hx;rcases Qm.1 hx with rfl|hx
  ·exact⟨a,by simp,b,by simp,rfl⟩
  ·obtain⟨u,hu,v,hv,e⟩:=TW (l:=b::l) x hx;exact⟨u,Qg _ hu,v,Qg _ hv,e⟩
theorem qN{l:List Pt}{u v:Pt}(hu:u∈l)(hv:v∈l):Aq u v∈Ef l:=by
 unfold Aq Lq;split
 ·exact(Sj hu hv).1
 ·exact(Sj hu hv).2
theorem lZ{l:List Pt}{a:Tm}:∀x∈ZB l a,x.p∈Ef l:=λx hx=>by
 obtain⟨u,hu,v,hv,e⟩:=TW x hx;rw[e];exact qN (Hp.1 hu) (Hp.1 hv)
theorem kO(l:List Pt):(Ef l).length=l.length*(l.length*2):=by
 have h1:∀(x:Pt) (m:List Pt),(m.flatMap λy=>[Gl x.c y.c,Gk x.c y.c]).length=m.length*2:=λx m=>by
  induction m with
  |nil=>rfl
  |cons y m ih=>rw[J3,Qy,ih,Q5];simp;omega
 have h2:∀m:List Pt,(m.flatMap λx=>l.flatMap λy=>[Gl x.c y.c,Gk x.c y.c]).length=m.length*(l.length*2):=λm=>by
  induction m with
  |nil=>simp
  |cons y m ih=>rw[J3,Qy,ih,Q5,h1,X3,Wo,Jv]
 exact h2 l
theorem tU{l:List Pt}(hl:∀p∈l,Sc p.c)(hd:l.Pairwise λx y=>x.id≠y.id){a b:Tm}(ha:Va a)(hb:Va b)(h:∀x∈ZB l a,Hi (Fp b) x.p=Hi (Fp a) x.p):Ty b l=Ty a l/\ZB l b=ZB l a:=by
 obtain⟨q,q1,q2⟩:=oO hl hd ha;obtain⟨r,r1,r2⟩:=oO hl hd hb;obtain⟨a1,a2⟩:=q2 q q1 Qp;obtain⟨b1,b2⟩:=r2 r r1 Qp;obtain⟨c1,c2⟩:=CZ (a:=a) (b:=b) (Ty a l) (λu hu v hv=>a1 u (Hp.1 hu) v (Hp.1 hv)) (λu hu v hv=>b1 u (Hp.1 hu) v (Hp.1 hv)) a2 h;have e:Ty b l=Ty a l:=zJ (XD r) (YN r) b2 c1 λx=>by rw[Hp,Hp]
 exact⟨e,by unfold ZB;rw[e,c2]⟩
theorem Qy5{l:List Pt}(hl:∀p∈l,Sc p.c)(hn:l.length≤1000)(hd:l.Pairwise λx y=>x.id≠y.id):Stab (ZB l) (IU l):=by
 refine⟨pK hl hn,⟨Ef l,O7 hl,λa _ x hx=>?_⟩,λa b ha hb h=>?_⟩
 ·obtain⟨u,hu,v,hv,e⟩:=TW x hx;rw[e];exact qN (Hp.1 hu) (Hp.1 hv)
 ·obtain⟨e1,e2⟩:=tU hl hd ha hb h;exact⟨e2,by unfold IU;rw[e1]⟩
end Orq
namespace Orq
theorem ang{ux uy vx vy wx wy:Rat}(hu:0<ux\/ux=0/\0<uy)(hv:0<vx\/vx=0/\0<vy)(hw:0<wx\/wx=0/\0<wy)
 (h1:0<=ux*vy-vx*uy) (h2:0<=vx*wy-wx*vy):0<=ux*wy-wx*uy/\(0<ux*vy-vx*uy\/0<vx*wy-wx*vy->0<ux*wy-wx*uy):=by
 have ux0:0<=ux:=by grind
 have wx0:0<=wx:=by grind
 rcases hv with hv|⟨hv,hv2⟩
 ·have e:vx*(ux*wy-wx*uy)=ux*(vx*wy-wx*vy)+wx*(ux*vy-vx*uy):=by grind
  have hux:0<ux:=by
   rcases hu with h|⟨h,h'⟩
   ·exact h
   ·have:=Xl hv h';rw[h]at h1;grind
  have p1:=Vx ux0 h2;have p2:=Vx wx0 h1;have key:∀z:Rat,vx*z=ux*(vx*wy-wx*vy)+wx*(ux*vy-vx*uy)->0<=z:=λz hz=>by
   refine Rat.not_lt.1 λhn=>?_
   have:=Xl hv (show 0 < -z by grind);grind
  refine⟨key _ e,λhs=>?_⟩;rcases hw with hw|⟨hw,hw2⟩
  ·have hpos:0<vx*(ux*wy-wx*uy):=by
    rcases hs with hs|hs
    ·have:=Xl hw hs;grind
    ·have:=Xl hux hs;grind
   have h0:=key _ e;refine Js.1 λhn=>?_
   have:ux*wy-wx*uy=0:=by grind
   rw[this]at hpos;grind
  ·have:=Xl hux hw2;rw[hw];grind
 ·rw[hv]at h1 h2;have hw0:wx=0:=by
   rcases hw with hw|hw
   ·have:=Xl hw hv2;grind
   ·exact hw.1
  have hwy:0<wy:=by grind
  have p:=Vx ux0 (Qt hwy);refine⟨by rw[hw0];grind,λhs=>?_⟩;rw[hv,hw0]at hs;have hux:0<ux:=by
   rcases hs with hs|hs
   ·refine Js.1 λhn=>?_
    have:ux=0:=by grind
    rw[this]at hs;grind
   ·grind
  have:=Xl hux hwy;rw[hw0];grind
section
variable{α:Type}(X Y:α->Rat)
def lx(a b:α):Prop:=X a<X b\/X a=X b/\Y a<Y b
def Bf(a b c:α):Rat:=(X b-X a)*(Y c-Y a)-(X c-X a)*(Y b-Y a)
variable{X Y}
theorem Ls(a:α):¬lx X Y a a:=by unfold lx;grind
theorem gX{a b c:α}(h:lx X Y a b)(h':lx X Y b c):lx X Y a c:=by unfold lx at *;grind
theorem Lt{a b:α}(h:lx X Y a b):0<X b-X a\/X b-X a=0/\0<Y b-Y a:=by unfold lx at h;grind
theorem FB(a b:α):Bf X Y a b a=0/\Bf X Y a b b=0:=by unfold Bf;grind
theorem rQ(a b c:α):Bf X Y a c b=- Bf X Y a b c:=by unfold Bf;grind
theorem yN(a b c:α):Bf X Y a b c=(X b-X a)*(Y c-Y b)-(X c-X b)*(Y b-Y a):=by unfold Bf;grind
def Edg(Q:α->α->Prop):List α->Prop
 |a::b::r=>Q a b/\Edg Q (b::r)
 |_=>True
def Cnv(R:α->α->α->Prop):List α->Prop
 |a::b::c::r=>R a b c/\Cnv R (b::c::r)
 |_=>True
theorem Edg.tail{Q:α->α->Prop}{a:α}{l:List α}(h:Edg Q (a::l)):Edg Q l:=by
 cases l with
 |nil=>trivial
 |cons b l=>exact h.2
theorem Cnv.tail{R:α->α->α->Prop}{a:α}{l:List α}(h:Cnv R (a::l)):Cnv R l:=by
 match l,h with
 | [],_=>trivial
 | [_],_=>trivial
 |b::c::l,h=>exact h.2
def Ll(s:α->α->α->Bool)(c:α):List α->List α
 |b::a::r=>if s a b c=true then b::a::r else Ll s c (a::r)
 |l=>l
def Pz(s:α->α->α->Bool):List α->List α->List α
 |acc,[]=>acc
 |acc,c::l=>Pz s (c::Ll s c acc) l
structure Stk(X Y:α->Rat)(P:List α)(st:List α):Prop where
 srt:st.Pairwise λb a=>lx X Y a b
 mem:∀p∈st,p∈P
 edg:Edg (λb a=>∀p∈P,0≤Bf X Y a b p) st
 cnv:Cnv (λc b a=>0<Bf X Y a b c) st
theorem Stk.tail{P:List α}{a:α}{st:List α}(h:Stk X Y P (a::st)):Stk X Y P st:=⟨(Zg.1 h.srt).2,λp hp=>h.mem p (Qg _ hp),h.edg.tail,h.cnv.tail⟩
theorem Qjo{P:List α}{s:α->α->α->Bool}{c:α}(hs:∀a∈P,∀b∈P,(s a b c=true↔0<Bf X Y a b c))(hc:∀p∈P,lx X Y p c) :
 ∀(st:List α) (t:α),Stk X Y P (t::st)->(∀p∈P,lx X Y t p->0≤Bf X Y t c p) ->
 ∃t' st',Ll s c (t::st)=t'::st'/\Stk X Y P (t'::st')/\(∀p∈P,lx X Y t' p->0≤Bf X Y t' c p)/\(∀a r,st'=a::r->0<Bf X Y a t' c)/\(t'::st').getLast? = (t::st).getLast?
 | [],t,h,h2=>⟨t,[],rfl,h,h2,λa r e=>(by cases e),rfl⟩
 |
  a::r,t,h,h2=>by
  have ht:=h.mem t (by simp);have ha:=h.mem a (by simp);by_cases e:s a t c=true
  ·refine⟨t,a::r,by simp only[Ll];rw[if_pos e],h,h2,λa' r' e'=>?_,rfl⟩;injection e' with e1 _
   rw[<-e1];exact(hs a ha t ht).1 e
  ·have hle:Bf X Y a t c<=0:=Rat.not_lt.1 λh'=>e ((hs a ha t ht).2 h')
   have hat:lx X Y a t:=(Zg.1 h.srt).1 a (by simp);obtain⟨t',st',g1,g2,g3,g4,g5⟩:=Qjo hs hc r a h.tail λp hp hap=>by
    have e1:=h.edg.1 p hp;have k:=ang (Lt (hc a ha)) (Lt hat) (Lt hap) (by rw[rQ]at *;unfold Bf at *;grind) (by unfold Bf at *;grind);unfold Bf;grind
   exact⟨t',st',by simp only[Ll];rw[if_neg e];exact g1,g2,g3,g4,by rw[g5];rfl⟩
theorem OK{P:List α}{c:α}:∀(st:List α) (t:α),Stk X Y P (t::st)->lx X Y t c->(∀a r,st=a::r->0<Bf X Y a t c)->Edg (λb a=>0<Bf X Y a b c) (t::st)
 | [],_,_,_,_=>trivial
 | [a],t,_,_,h=>⟨h a [] rfl,trivial⟩
 |
  a::q::r,t,hS,htc,h=>by
  have h1:=h a (q::r) rfl;have h0:0<Bf X Y q a t:=hS.cnv.1;have p1:=Zg.1 hS.srt;have p2:=Zg.1 p1.2;have hat:lx X Y a t:=p1.1 a (by simp);have hqa:lx X Y q a:=p2.1 q (by simp);refine⟨h1,OK (q::r) a hS.tail (gX hat htc) λa' r' e=>?_⟩;injection e with e _;rw[<-e];rw[yN]at h0 h1 ⊢;have k:=(ang (Lt hqa) (Lt hat) (Lt htc) (Qt h0) (Qt h1)).2 (.inl h0);grind
theorem Qpw{P:List α}{t:α}{st:List α}{c:α}(h:Stk X Y P (t::st))(hc:∀p∈P,lx X Y p c)(hP:∀p∈P,p=t\/lx X Y p t\/lx X Y t p)(hb:∀p∈P,(t::st).getLast? = some p\/∃b,(t::st).getLast? = some b/\lx X Y b p)(h2:∀p∈P,lx X Y t p->0≤Bf X Y t c p)(h3:∀a r,st=a::r->0<Bf X Y a t c):Stk X Y (P++[c]) (c::t::st):=by
 have ht:=h.mem t (by simp);have htc:=hc t ht;have hf:=OK st t h htc h3;refine⟨Zg.2 ⟨λp hp=>hc p (h.mem p hp),h.srt⟩,λp hp=>?_,⟨λp hp=>?_,?_⟩,?_⟩
 ·rcases Qm.1 hp with rfl|hp
  ·simp
  ·exact X7 _ (h.mem p hp)
 ·rcases Qr.1 hp with hp|hp
  ·rcases hP p hp with rfl|hpt|htp
   ·rw[(FB p c).1];exact Qp
   ·cases st with
    |
     nil =>
     exfalso;rcases hb p hp with e|⟨b,e,hb⟩
     ·injection e with e;subst e;exact Ls _ hpt
     ·injection e with e;subst e;exact Ls _ (gX hpt hb)
    |
     cons a r =>
     have e1:=h.edg.1 p hp;have h3:=h3 a r rfl;have hat:lx X Y a t:=(Zg.1 h.srt).1 a (by simp);have k:=(ang (Lt hpt) (Lt hat) (Lt htc) (by unfold Bf at *;grind) (by unfold Bf at *;grind)).1;unfold Bf;grind
   ·exact h2 p hp htp
  ·rw[Qk.1 hp,(FB t c).2];exact Qp
 ·cases st with
  |nil=>trivial
  |
   cons a r =>
   have key:∀l:List α,Edg (λb a=>∀p∈P,0≤Bf X Y a b p) l->Edg (λb a=>0<Bf X Y a b c) l->Edg (λb a=>∀p∈P++[c],0≤Bf X Y a b p) l:=by
    intro l
    induction l with
    |nil=>intros;trivial
    |
     cons x l ih =>
     cases l with
     |nil=>intros;trivial
     |
      cons y l =>
      intro k1 k2;refine⟨λp hp=>?_,ih k1.2 k2.2⟩;rcases Qr.1 hp with hp|hp
      ·exact k1.1 p hp
      ·rw[Qk.1 hp];exact Qt k2.1
   exact key _ h.edg hf
 ·cases st with
  |nil=>trivial
  |cons a r=>exact⟨h3 a r rfl,h.cnv⟩
theorem IB{s:α->α->α->Bool}{row:List α}(hs:∀a∈row,∀b∈row,∀c∈row,(s a b c=true↔0<Bf X Y a b c))(hrow:row.Pairwise (lx X Y)) :
 ∀(l P:List α) (t:α) (st:List α),row=P++l->Stk X Y P (t::st)->P.getLast? = some t->(t::st).getLast? = P.head? ->
 ∃t' st',Pz s (t::st) l=t'::st'/\Stk X Y row (t'::st')/\row.getLast? = some t'/\(t'::st').getLast? = row.head?
 |
  [],P,t,st,e,h,h1,h2=>by
  rw[Zv]at e;subst e;exact⟨t,st,rfl,h,h1,h2⟩
 |
  c::l,P,t,st,e,h,h1,h2=>by
  have hPm:∀p∈P,p∈row:=λp hp=>by rw[e];exact X7 _ hp
  have hcm:c∈row:=by rw[e];simp
  have hpw:=hrow;rw[e]at hpw;obtain⟨w1,w2,w3⟩:=Xv.1 hpw;have hc:∀p∈P,lx X Y p c:=λp hp=>w3 p hp c (by simp)
  have htop:∀p∈P,p=t\/lx X Y p t:=λp hp=>by
   obtain⟨P1,rfl⟩:∃P1,P=P1++[t]:=by
    have:=Y8.1 h1;exact this
   rcases Qr.1 hp with hp|hp
   ·exact .inr ((Xv.1 w1).2.2 p hp t (by simp))
   ·exact .inl (Qk.1 hp)
  obtain⟨t',st',g1,g2,g3,g4,g5⟩:=Qjo (λa ha b hb=>hs a (hPm a ha) b (hPm b hb) c hcm) hc st t h λp hp htp=>by
   rcases htop p hp with rfl|h'
   ·exact absurd htp (Ls _)
   ·exact absurd (gX htp h') (Ls _)
  have tot:∀p∈P,p=t'\/lx X Y p t'\/lx X Y t' p:=λp hp=>by
   obtain⟨i,hi,rfl⟩:=V0.1 hp;obtain⟨j,hj,e2⟩:=V0.1 (g2.mem t' (by simp));rcases Kn i j with h'|h'|h'
   ·exact .inr (.inl (by rw[<-e2];exact Yc.1 w1 i j hi hj h'))
   ·subst h';exact .inl e2
   ·exact .inr (.inr (by rw[<-e2];exact Yc.1 w1 j i hj hi h'))
  have hPne:P≠[]:=λh'=>by rw[h']at h1;cases h1
  have hb:∀p∈P,(t'::st').getLast? = some p\/∃b,(t'::st').getLast? = some b/\lx X Y b p:=λp hp=>by
   rw[g5,h2];cases P with
   |nil=>exact absurd rfl hPne
   |
    cons f P' =>
    rcases Qm.1 hp with rfl|hp
    ·exact .inl rfl
    ·exact .inr ⟨f,rfl,(Zg.1 w1).1 p hp⟩
  have hpush:=Qpw g2 hc tot hb g3 g4;obtain⟨t2,st2,k1,k2,k3,k4⟩:=IB hs hrow l (P++[c]) c (t'::st') (by rw[e];simp) hpush (by simp) (by
   rw[J1,g5,h2];cases P with
   |nil=>exact absurd rfl hPne
   |cons f P'=>rfl)
  exact⟨t2,st2,by simp only[Pz];rw[g1];exact k1,k2,k3,k4⟩
theorem Qgl{P:List α}(tot:∀p∈P,∀q∈P,p=q\/lx X Y p q\/lx X Y q p){z:α} :
 ∀(L L':List α) (f:α),(f::L).Pairwise (lx X Y)->(f::L').Pairwise (lx X Y)->(∀p∈f::L,p∈P)->(∀p∈f::L',p∈P) ->
 Edg (λa b=>∀p∈P,0≤Bf X Y a b p) (f::L)->Edg (λa b=>∀p∈P,0≤Bf X Y a b p) (f::L') ->
 Cnv (λa b c=>0<Bf X Y a b c) (f::L)->Cnv (λa b c=>0<Bf X Y a b c) (f::L')->(f::L).getLast? = some z->(f::L').getLast? = some z->L=L':=by
 have one:∀(L L':List α) (f b b':α),(f::b::L).Pairwise (lx X Y)->(f::b'::L').Pairwise (lx X Y)->(∀p∈f::b::L,p∈P)->b'∈P ->
  Edg (λa b=>∀p∈P,0≤Bf X Y a b p) (f::b::L)->0≤Bf X Y f b' b->Cnv (λa b c=>0<Bf X Y a b c) (f::b::L)->(f::b::L).getLast? = some z->(f::b'::L').getLast? = some z->¬lx X Y b b':=by
  intro L L' f b b' s s' m m' e e' c l l' hlt;have s1:=Zg.1 s;have hfb:lx X Y f b:=s1.1 b (by simp);have hcol:Bf X Y f b b'=0:=by
   have:=e.1 b' m';rw[rQ]at e';grind
  cases L with
  |
   nil =>
   simp at l;subst l;have hz:b'=b\/lx X Y b' b:=by
    have:b∈f::b'::L':=V1 l';have s2:=(Zg.1 s').2;rcases Qm.1 this with rfl|h
    ·exact absurd hfb (Ls _)
    ·rcases Qm.1 h with h|h
     ·exact .inl h.symm
     ·exact .inr ((Zg.1 s2).1 b h)
   rcases hz with rfl|hz
   ·exact Ls _ hlt
   ·exact Ls _ (gX hlt hz)
  |
   cons d M =>
   have h1:0<Bf X Y f b d:=c.1;have h2:=e.2.1 b' m';have s2:=Zg.1 s1.2;have hbd:lx X Y b d:=s2.1 d (by simp);have k:=(ang (Lt hlt) (Lt hfb) (Lt hbd) (by unfold Bf at hcol;grind) (by rw[yN]at h1;exact Rat.le_of_lt h1)).2 (.inr (by rw[yN]at h1;exact h1));unfold Bf at h2;grind
 intro L
 induction L with
 |
  nil =>
  intro L' f s s' m m' e e' c c' l l';simp at l;cases L' with
  |nil=>rfl
  |
   cons b' M' =>
   exfalso;subst l;have h1:=(Zg.1 s').1 f (by
    rw[J1]at l';exact V1 l')
   exact Ls _ h1
 |
  cons b M ih =>
  intro L' f s s' m m' e e' c c' l l';cases L' with
  |
   nil =>
   exfalso;simp at l';subst l';have h1:=(Zg.1 s).1 f (by
    rw[J1]at l;exact V1 l)
   exact Ls _ h1
  |
   cons b' M' =>
   have hb:=m b (by simp);have hb':=m' b' (by simp);have heq:b=b':=by
    rcases tot b hb b' hb' with h|h|h
    ·exact h
    ·exact absurd h (one M M' f b b' s s' m hb' e (e'.1 b hb) c l l')
    ·exact absurd h (one M' M f b' b s' s m' hb e' (e.1 b' hb') c' l' l)
   subst heq;rw[J1]at l l';rw[ih M' b (Zg.1 s).2 (Zg.1 s').2 (λp hp=>m p (Qg _ hp)) (λp hp=>m' p (Qg _ hp)) e.2 e'.2 c.tail c'.tail l l']
end
end Orq
namespace Orr
open Go
structure RawInt where
 b:Bool
 l:List Nat
structure RawPt where
 x:List RawInt
 y:List RawInt
 d:RawInt
 id:Int
abbrev Lz(z:RawInt):Us:=[.bool z.b,Q00 z.l]
structure RawInt.Ok(z:RawInt):Prop where
 u:∀u∈z.l,u<4294967296
structure RawPt.Ok(z:RawPt):Prop where
 x:∀a∈z.x,a.Ok
 y:∀a∈z.y,a.Ok
 d:z.d.Ok
 id:-9223372036854775808<=z.id/\z.id<=9223372036854775807
def Hz(most:Int)(z:RawInt):Int:=match z.l with
 | []=>0
 |u::_=>if z.b=true then -((u:Int) % (most+1))else(u:Int) % (most+1)
theorem WZ{most:Int}(h:0<=most)(z:RawInt):-most<=Hz most z/\Hz most z<=most:=by
 unfold Hz
 split
 ·omega
 ·rename_i u _ _;have h1:=Ye (u:Int) (b:=most+1) (by omega);have h2:=Jt (u:Int) (b:=most+1) (by omega)
  split <;> omega
def Gn(most:Int)(l:List RawInt):Un:=(l.take 3).map (Hz most)
def Qo1(most:Int)(x y:List RawInt)(d:RawInt):Crv:=⟨Gn most x,Gn most y,Hz 3 d⟩
theorem SS(most:Int)(l:List RawInt):(Gn most l).length<=3:=by unfold Gn;rw[List.length_map,List.length_take];omega
theorem yJ{most:Int}{l:List RawInt}{i:Nat}{z:RawInt}(hi:i<3)(h:l[i]? = some z):Gn most (l.take (i+1))=Gn most (l.take i)++[Hz most z]:=by
 unfold Gn;rw[List.take_take,List.take_take,V3 (by omega),V3 (by omega),Z2,h];simp
theorem SR(most:Int){l:List RawInt}{i:Nat}(h:l.length<=i\/3<=i):Gn most (l.take i)=Gn most l:=by
 unfold Gn;rw[List.take_take];rcases Nat.le_total 3 i with h3|h3
 ·rw[Zx h3]
 ·rcases h with h|h
  ·rw[V3 h3,Qo (l:=l) (i:=i) (by omega),Qo (l:=l) (i:=3) (by omega)]
  ·rw[V3 h3,show i=3 by omega]
theorem SN{most:Int}{l:List RawInt}{z:Int}(hm:0<=most)(h:z∈Gn most l):-most<=z/\z<=most:=by
 obtain⟨a,_,rfl⟩:=Za.1 h;exact WZ hm a
theorem Qbz{most:Int}(hm:0<=most/\most<=999)(x y:List RawInt)(d:RawInt):Cs 10 3 (Qo1 most x y d):=by
 have key:∀z:Int,-999<=z/\z<=999->Fb z<=10:=λz h=>T0.2 (by omega)
 refine⟨λz hz=>?_,λz hz=>?_,?_,SS _ _,SS _ _⟩
 ·have:=SN hm.1 hz;exact key _ (by omega)
 ·have:=SN hm.1 hz;exact key _ (by omega)
 ·have:=WZ (most:=3) (by decide) d;show Fb (Hz 3 d)<=10;exact key _ (by omega)
end Orr
namespace Orr
def Np(l:List Pt):Prop:=l.Pairwise λa b=>a.id<b.id
theorem Qh3(p:Pt)(l:List Pt)(id:Int):has (p::l) id=if p.id<id then has l id else decide (p.id=id):=by
 by_cases h:p.id<id
 ·rw[if_pos h];unfold has;simp only[Rt];rw[if_pos h];simp
 ·rw[if_neg h];unfold has;simp only[Rt];rw[if_neg h];simp
theorem Qjt(p:Pt)(l:List Pt)(q:Pt):put (p::l) q=if p.id<q.id then p::put l q else q::p::l:=by
 unfold put;simp only[Rt]
 split <;> simp
theorem EG:∀{l:List Pt} {q:Pt},Np l->has l q.id=false->Np (put l q)
 | [],q,_,_=>by simp[put,Rt,Np]
 |
  p::l,q,h,hn=>by
  have h1:=Zg.1 h;rw[Qh3]at hn;rw[Qjt]
  split
  ·rename_i hlt;rw[if_pos hlt]at hn;refine Zg.2 ⟨λx hx=>?_,EG h1.2 hn⟩;rcases NX hx with rfl|hx
   ·exact hlt
   ·exact h1.1 x hx
  ·rename_i hge;rw[if_neg hge,decide_eq_false_iff_not]at hn;refine Zg.2 ⟨λx hx=>?_,h⟩;rcases Qm.1 hx with rfl|hx
   ·omega
   ·have:=h1.1 x hx;omega
end Orr
namespace Orr
open Go
section
variable{α:Type}{lt:α->α->Bool}
theorem Qcj(out:List α)(c:α):(Lr lt out c).Perm (c::out):=by
 unfold Lr;exact(List.perm_middle).trans (by rw[Zh])
theorem DU:∀(l acc:List α),(l.foldl (Lr lt) acc).Perm (l++acc)
 | [],acc=>List.Perm.refl _
 |
  c::l,acc=>by
  simp only[Z9];exact(DU l _).trans (((Qcj acc c).append_left l).trans List.perm_middle)
theorem dX(l:List α):(Ed lt l).Perm l:=by
 have:=DU (lt:=lt) l [];rwa[Zv]at this
end
end Orr
namespace Orr
open Go
theorem Qhq(c:Int)(l:Un):Rz (l.map (· * c))=Rz l*c.natAbs:=by
 have key:∀(l:Un) (g:Nat),(l.map (· * c)).foldl (λg z=>Nat.gcd g z.natAbs) (g*c.natAbs)=l.foldl (λg z=>Nat.gcd g z.natAbs) g*c.natAbs:=by
  intro l
  induction l with
  |nil=>intro g;rfl
  |
   cons z l ih =>
   intro g;simp only[Zz,Z9,J9,Nat.gcd_mul_right];exact ih _
 have:=key l 0;rwa[Yl]at this
theorem Qyy{M:List Pt}(hs:Np M){i j:Nat}{p r:Pt}(hij:i<j)(hi:M[i]? = some p)(hj:M[j]? = some r):p.id<r.id:=by
 obtain⟨h1,e1⟩:=Qf.1 hi;obtain⟨h2,e2⟩:=Qf.1 hj;rw[<-e1,<-e2];exact Yc.1 hs i j h1 h2 hij
theorem Qh0{M:List Pt}{i:Nat}(hi:i<M.length):(M.take i++M.drop (i+1)).length+1=M.length:=by
 rw[Qy,Qq,Q7];omega
end Orr
namespace Orr
def S0(a b:Crv):Un:=A0 (Gj (Gl a b) (Gl a b)) (Gj (Gk a b) (Gk a b))
def Ho(a b c d:Crv):Un:=M4 (Ft (S0 c d) ((a.d*b.d)*(a.d*b.d))) (Ft (S0 a b) ((c.d*d.d)*(c.d*d.d)))
theorem rK{a b:Crv}(ha:Cb a)(hb:Cb b):Fc (S0 a b)/\(S0 a b).length<=31/\Bd 4194312 (S0 a b):=by
 obtain⟨_,l1,b1⟩:=rW ha hb;obtain⟨_,l2,b2⟩:=rV ha hb;have m1:=Tv (Gl a b) (Gl a b);have m2:=Tv (Gk a b) (Gk a b);have q1:=Pg (u:=5) b1 b1 (by omega);have q2:=Pg (u:=5) b2 b2 (by omega);refine⟨Fx _ _,?_,U4 (YQ q1 q2) (by omega)⟩;have:=Oa (Gj (Gl a b) (Gl a b)) (Gj (Gk a b) (Gk a b));unfold S0;omega
theorem nP{a b:Crv}(ha:Cb a)(hb:Cb b):Fb (a.d*b.d)<=2097152:=by
 have:=Fz a.d b.d;have:=ha.d;have:=hb.d;omega
theorem aN{a b:Crv}(ha:Cb a)(hb:Cb b):Fb ((a.d*b.d)*(a.d*b.d))<=4194304:=by
 have:=Fz (a.d*b.d) (a.d*b.d);have:=nP ha hb;omega
def Bb(sg:Un->Int)(a b c d:Pt):Ct:=⟨5,a.id,b.id,c.id,d.id,Ho a.c b.c c.c d.c,Hi sg (Ho a.c b.c c.c d.c)⟩
theorem LF(sg:Un->Int)(a b c d:Pt):(Bb sg a b c d).p=Ho a.c b.c c.c d.c:=by rw[Bb]
def H5:Nat->List Pt->List (Pt×Pt)
 | 0,_=>[]
 |_+1,[]=>[]
 |k+1,x::l=>l.map (λy=>(x,y))++H5 k l
def Gq(l:List Pt):List (Pt×Pt):=H5 l.length l
theorem Li:∀(l:List Pt) (i:Nat) (x:Pt),l[i]? = some x->H5 (i+1) l=H5 i l++(l.drop (i+1)).map (λy=>(x,y))
 | [],i,x,h=>by simp at h
 |
  y::l,0,x,h=>by
  simp at h;subst h;simp[H5]
 |
  y::l,i+1,x,h=>by
  have h:l[i]? = some x:=by simpa using h
  have ih:=Li l i x h;show l.map (λz=>(y,z))++H5 (i+1) l=(l.map (λz=>(y,z))++H5 i l)++_;rw[ih,Zd];rfl
theorem Sy:∀(k:Nat) (l:List Pt),∀m∈H5 k l,m.1∈l/\m.2∈l
 | 0,l,m,h=>by simp[H5]at h
 |k+1,[],m,h=>by simp[H5]at h
 |
  k+1,x::l,m,h=>by
  rcases Qr.1 h with h|h
  ·obtain⟨y,hy,rfl⟩:=Za.1 h;exact⟨Qx ..,Qg _ hy⟩
  ·obtain⟨h1,h2⟩:=Sy k l m h;exact⟨Qg _ h1,Qg _ h2⟩
theorem WV:∀(k:Nat) (l:List Pt),(H5 k l).length<=k*l.length
 | 0,l=>by simp[H5]
 |k+1,[]=>by simp[H5]
 |
  k+1,x::l=>by
  have:=WV k l;simp only[H5,Qy,Q8,Q5];have e:(k+1)*(l.length+1)=k*l.length+k+l.length+1:=by rw[X3,Xj];omega
  omega
def P0(sg:Un->Int)(s m:Pt×Pt):Pt×Pt:=if Hi sg (Ho s.1.c s.2.c m.1.c m.2.c)<0 then m else s
def Hm(sg:Un->Int)(s:Pt×Pt)(ps:List (Pt×Pt)):Pt×Pt:=ps.foldl (P0 sg) s
theorem RD(sg:Un->Int)(s m:Pt×Pt):P0 sg s m=m\/P0 sg s m=s:=by
 unfold P0
 split
 ·exact .inl rfl
 ·exact .inr rfl
theorem QD(sg:Un->Int)(s m:Pt×Pt)(ps:List (Pt×Pt)):Hm sg s (m::ps)=Hm sg (P0 sg s m) ps:=by unfold Hm;rw[List.foldl_cons]
theorem yH(sg:Un->Int)(s:Pt×Pt)(ps:List (Pt×Pt))(m:Pt×Pt):Hm sg s (ps++[m])=P0 sg (Hm sg s ps) m:=by simp[Hm]
theorem Ld(sg:Un->Int){l:List Pt}:∀(ps:List (Pt×Pt)) (s:Pt×Pt),s.1∈l/\s.2∈l->(∀m∈ps,m.1∈l/\m.2∈l)->(Hm sg s ps).1∈l/\(Hm sg s ps).2∈l
 | [],s,hs,_=>hs
 |
  m::ps,s,hs,h=>by
  have hn:(P0 sg s m).1∈l/\(P0 sg s m).2∈l:=by
   rcases RD sg s m with e|e
   ·rw[e];exact h m (Qx ..)
   ·rw[e];exact hs
  rw[QD];exact Ld sg ps (P0 sg s m) hn λx hx=>h x (Qg _ hx)
def ZK(s m:Pt×Pt):Bool:=decide (m.1.id≠s.1.id) || decide (m.2.id≠s.2.id)
def Mx(sg:Un->Int)(s:Pt×Pt)(ps:List (Pt×Pt)):List Ct:=(ps.filter (ZK s)).map λm=>Bb sg s.1 s.2 m.1 m.2
theorem Qoe{sg:Un->Int}{s m:Pt×Pt}{ps:List (Pt×Pt)}(h:ZK s m=true):Mx sg s (ps++[m])=Mx sg s ps++[Bb sg s.1 s.2 m.1 m.2]:=by simp[Mx,Vj,h]
theorem Qod{sg:Un->Int}{s m:Pt×Pt}{ps:List (Pt×Pt)}(h:ZK s m=false):Mx sg s (ps++[m])=Mx sg s ps:=by simp[Mx,Vj,h]
theorem IA{sg:Un->Int}{s:Pt×Pt}{ps:List (Pt×Pt)}{c:Ct}(h:c∈Mx sg s ps):∃x∈ps,Bb sg s.1 s.2 x.1 x.2=c:=by
 unfold Mx at h;obtain⟨x,hx,e⟩:=Za.1 h;exact⟨x,(Yi.1 hx).1,e⟩
theorem IE(sg:Un->Int)(s:Pt×Pt)(ps:List (Pt×Pt)):(Mx sg s ps).length<=ps.length:=by
 unfold Mx;rw[Q8];exact Y0 _ _
def ZW(sg:Un->Int):List Pt->List Pt
 |a::b::l=>[(Hm sg (a,b) (Gq (a::b::l))).1,(Hm sg (a,b) (Gq (a::b::l))).2]
 |_=>[]
def Lh(sg:Un->Int):List Pt->List Ct
 |a::b::l=>Mx sg (Hm sg (a,b) (Gq (a::b::l))) (Gq (a::b::l))
 |_=>[]
theorem Qc0(sg:Un->Int){l:List Pt}(h:l.length<2):ZW sg l=[]/\Lh sg l=[]:=by
 match l,h with
 | [],_=>exact⟨rfl,rfl⟩
 | [a],_=>exact⟨rfl,rfl⟩
theorem Qwl{l:List Pt}(h:¬l.length<2):∃a b m,l=a::b::m:=by
 match l,h with
 | [],h=>simp at h
 | [a],h=>simp at h
 |a::b::m,_=>exact⟨a,b,m,rfl⟩
theorem qD(sg:Un->Int)(l:List Pt):(Lh sg l).length<=l.length*l.length:=by
 match l with
 | []=>simp[Lh]
 | [a]=>simp[Lh]
 |a::b::m=>exact Qa (IE _ _ _) (WV _ _)
def Ig(l:List Uo):Ut:=l.map λr=>[.row (r.map λp=>[pl p])]
abbrev JH(r:Uo):Ut:=r.map λp=>[pl p]
theorem YE(l:List Uo):(Ig l).length=l.length:=by simp[Ig]
def XI(i:Nat)(rows:List Uo):Nat->List Uo
 | 0=>[]
 |j+1=>if j=i then XI i rows j else XI i rows j++[(rows.getD j []).drop 1]
def VT(rows:List Uo)(i:Nat):List Uo:=XI i rows rows.length
def Di(f:Nat->Un)(rows:List Uo):Nat->Un
 | 0=>[]
 |
  i+1=>if ((rows.getD i []).getD 0 []).length=0 then Di f rows i else
  if i % 2=0 then A0 (Di f rows i) (Gj ((rows.getD i []).getD 0 []) (f i))else M4 (Di f rows i) (Gj ((rows.getD i []).getD 0 []) (f i))
def Lj:Nat->List Uo->Un
 | 0,_=>[1]
 |k+1,rows=>Di (λi=>Lj k (VT rows i)) rows (k+1)
structure Sq(s:Nat)(ds:List Nat)(k w:Nat)(rows:List (List (List Int))):Prop where
 l:rows.length=k
 w:∀r∈rows,r.length=w
 t:∀r∈rows,∀p∈r,Fc p
 b:∀r∈rows,∀p∈r,Bd s p
 n:∀r∈rows,∀(j:Nat) (p:List Int),r[j]? = some p->p.length≤ds.getD j 0+1
theorem LU{i:Nat}{rows:List Uo}:∀{j:Nat} {r:Uo},j≤rows.length->r∈XI i rows j->∃q∈rows,r=q.drop 1
 | 0,r,_,h=>by simp[XI]at h
 |
  j+1,r,hj,h=>by
  simp only[XI]at h
  split at h
  ·exact LU (by omega) h
  ·rcases Qr.1 h with h|h
   ·exact LU (by omega) h
   ·rw[Qk.1 h];exact⟨rows.getD j [],Qc (i:=j) (by rw[Qi,Qe (by omega)];rfl),rfl⟩
theorem LK{i:Nat}{rows:List Uo}:∀(j:Nat),(XI i rows j).length=if i<j then j-1 else j
 | 0=>rfl
 |
  j+1=>by
  have ih:=LK (i:=i) (rows:=rows) j;simp only[XI]
  split
  ·rename_i e;subst e;rw[ih,if_neg (by omega),if_pos (by omega)];omega
  ·rw[Qy,ih,Vr]
   split <;> split <;> omega
theorem Sq.min{s d k w:Nat}{ds:Up}{rows:List Uo}(h:Sq s (d::ds) (k+1) (w+1) rows){i:Nat}(hi:i<k+1):Sq s ds k w (VT rows i):=by
 have hl:=h.l;have hm:∀{r:Uo},r∈VT rows i->∃q∈rows,r=q.drop 1:=λh=>LU (Ql _) h
 refine⟨by unfold VT;rw[LK,hl,if_pos hi];omega,λr hr=>?_,λr hr p hp=>?_,λr hr p hp=>?_,λr hr j p hp=>?_⟩
 ·obtain⟨q,hq,rfl⟩:=hm hr;rw[Q7,h.w q hq];omega
 all_goals obtain⟨q,hq,rfl⟩:=hm hr
 ·exact h.t q hq p (Qz hp)
 ·exact h.b q hq p (Qz hp)
 ·rw[Xc]at hp;have:=h.n q hq (1+j) p hp;rw[Jv 1 j]at this;exact this
theorem Sq.at{s d k w:Nat}{ds:Up}{rows:List Uo}(h:Sq s (d::ds) k (w+1) rows){i:Nat}(hi:i<k):∃p r,rows[i]? = some (p::r)/\(rows.getD i []).getD 0 []=p/\Fc p/\Bd s p/\p.length<=d+1:=by
 obtain⟨r,hr⟩:=gxE (l:=rows) (i:=i) (by rw[h.l];exact hi);have hm:=Qc hr;cases r with
 |nil=>have:=h.w _ hm;simp at this
 |
  cons p r =>
  have e:rows.getD i []=p::r:=by rw[Qi,hr];rfl
  refine⟨p,r,hr,by rw[e];rfl,h.t _ hm p (by simp),h.b _ hm p (by simp),h.n _ hm 0 p rfl⟩
theorem jK{s d k w:Nat}{ds:Up}{f:Nat->Un}{rows:List Uo}{B L:Nat}(h:Sq s (d::ds) k (w+1) rows)(hn:d<31)(hf:∀i,i<k->Bd B (f i)/\(f i).length<=L+1):∀i,i<=k->Fc (Di f rows i)/\Bd (s+B+5+i) (Di f rows i)/\(Di f rows i).length<=d+L+1
 | 0,_=>⟨rfl,λz hz=>(by cases hz),Qh _⟩
 |
  i+1,hi=>by
  obtain⟨h1,h2,h3⟩:=jK h hn hf i (by omega);obtain⟨p,r,_,e,t,b,l⟩:=h.at (i:=i) (by omega);obtain⟨f1,f2⟩:=hf i (by omega);have hp1:Bd (s+B+5) (Gj p (f i)):=Pg b f1 (by omega);have hp2:=Tv p (f i);simp only[Di];rw[e]
  split
  ·exact⟨h1,U4 h2 (by omega),h3⟩
  ·split
   ·exact⟨Fx _ _,U4 (YQ h2 hp1) (by omega),Qa (Oa _ _) (by omega)⟩
   ·exact⟨Fx _ _,U4 (Do h2 hp1) (by omega),Qa (Nb _ _) (by omega)⟩
theorem MO{s:Nat}:∀(k:Nat) (ds:Up) (rows:List Uo),k<=4->ds.length=k->ds.sum<31->Sq s ds k k rows->Fc (Lj k rows)/\Bd (k*(s+10)+1) (Lj k rows)/\(Lj k rows).length<=ds.sum+1
 | 0,ds,rows,_,_,_,_=>⟨rfl,λz hz=>(by simp[Lj]at hz;subst hz;rw[Yl];decide),by simp[Lj]⟩
 |k+1,[],rows,_,hl,_,_=>by simp at hl
 |
  k+1,d::ds,rows,hk,hl,hd,h=>by
  rw[Ku]at hd;have ih:=λi (hi:i<k+1)=>MO k ds (VT rows i) (by omega) (by simpa using hl) (by omega) (h.min hi)
  obtain⟨h1,h2,h3⟩:=jK (f:=λi=>Lj k (VT rows i)) (B:=k*(s+10)+1) (L:=ds.sum) h (by omega) (λi hi=>⟨(ih i hi).2.1,(ih i hi).2.2⟩) (k+1) (Ql _);have e1:(k+1)*(s+10)=k*(s+10)+(s+10):=Xa ..;rw[Ku];exact⟨h1,U4 h2 (by omega),h3⟩
def rZ(a b c:Crv):List Uo:=[[a.x,a.y,[a.d]],[b.x,b.y,[b.d]],[c.x,c.y,[c.d]]]
def Hg(a b c:Crv):Un:=Lj 3 (rZ a b c)
end Orr
